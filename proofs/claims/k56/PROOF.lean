import PyProof.Rows.All
import Wide.All
import OpenK.AllK
import Wide.FinOn
import HandS.ForMost
import HandS.ForExc
import HandS.Wide
import HandS.IsInst
import HandS.ExcIs
import HandS.Zip
import HandS.Rev
import HandS.Evl
import HandS.More
import HandS.Text
import HandS.EndBits
import HandS.Deep
import KE.KIndexOf
import KE.GoesZip
import KE.GoesMore
import HandS.Style
import KE.GoesEnum
import PyProof.StrOps2
import PyProof.FitsInt
import HandS.Codes
import PySem.Challenge.RW_catchhall_k56_numbers_read
set_option Elab.async false
set_option linter.all false
set_option maxRecDepth 100000
set_option maxHeartbeats 4000000
set_option maxRecDepth 100000
/-! A layer of data over the readings: environments of plain data, expressions that evaluate to data, statements that lead to ends over data. -/
namespace Pu
open PySem PySem.Spec PyProof.Rows L2
abbrev D := PyData
abbrev Frag := PySem.W.Frag

/-! ### data in a heap -/
theorem sqt_mono {K : Frag} {H H' : Hp} {a : Addr} {xs : List V} (e : Same H H') (h : SqT K H a xs) : SqT K H' a xs := by
  rcases h with (h | ⟨o, h⟩) | h
  · exact .inl (.inl (e _ _ h))
  · exact .inl (.inr ⟨o, e _ _ h⟩)
  · exact .inr h
mutual
theorem dp_mono {K : Frag} {H H' : Hp} (e : Same H H') : ∀ (d : PyData) (v : V), Dp K H v d → Dp K H' v d
  | .none, _, h => by cases h; exact .non
  | .bool b, _, h => by cases h; exact .bl b
  | .int i, _, h => by cases h; exact .int i
  | .str x, _, h => by cases h; exact .str x
  | .list ds, _, h => by
    cases h with
    | lst hs ha => exact .lst (e.seq hs) (dpa_mono e ds _ ha)
  | .tuple ds, _, h => by
    cases h with
    | tup hs ha => exact .tup (sqt_mono e hs) (dpa_mono e ds _ ha)
  | .dict _, _, h => by cases h
theorem dpa_mono {K : Frag} {H H' : Hp} (e : Same H H') : ∀ (ds : List PyData) (vs : List V), DpAll K H vs ds → DpAll K H' vs ds
  | [], _, h => by cases h; exact .nil
  | d :: ds, _, h => by
    cases h with
    | cons h1 h2 => exact .cons (dp_mono e d _ h1) (dpa_mono e ds _ h2)
end
section
variable {K : Frag} {H : Hp}
theorem dpa_len : ∀ {vs : List V} {ds : List D}, DpAll K H vs ds → vs.length = ds.length
  | _, _, .nil => rfl
  | _, _, .cons _ t => congrArg (· + 1) (dpa_len t)
theorem dpa_get : ∀ {vs : List V} {ds : List D} {i : Nat} {d : D}, DpAll K H vs ds → ds[i]? = some d → ∃ v, vs[i]? = some v ∧ Dp K H v d
  | _, _, _, _, .nil, h => by simp at h
  | _, _, 0, _, .cons h _, e => by simp at e; subst e; exact ⟨_, rfl, h⟩
  | _, _, i + 1, d, .cons _ t, e => by
    obtain ⟨v, h1, h2⟩ := dpa_get (i := i) (d := d) t (by simpa using e)
    exact ⟨v, by simpa using h1, h2⟩
theorem dpa_getV : ∀ {vs : List V} {ds : List D} {i : Nat} {v : V}, DpAll K H vs ds → vs[i]? = some v → ∃ d, ds[i]? = some d ∧ Dp K H v d
  | _, _, _, _, .nil, h => by simp at h
  | _, _, 0, _, .cons h _, e => by simp at e; subst e; exact ⟨_, rfl, h⟩
  | _, _, i + 1, v, .cons _ t, e => by
    obtain ⟨d, h1, h2⟩ := dpa_getV (i := i) (v := v) t (by simpa using e)
    exact ⟨d, by simpa using h1, h2⟩
theorem dpa_append : ∀ {vs ws : List V} {ds es : List D}, DpAll K H vs ds → DpAll K H ws es → DpAll K H (vs ++ ws) (ds ++ es)
  | _, _, _, _, .nil, h => h
  | _, _, _, _, .cons a t, h => .cons a (dpa_append t h)
theorem dpa_take : ∀ {vs : List V} {ds : List D} (n : Nat), DpAll K H vs ds → DpAll K H (vs.take n) (ds.take n)
  | _, _, 0, _ => .nil
  | _, _, _ + 1, .nil => .nil
  | _, _, n + 1, .cons a t => .cons a (dpa_take n t)
theorem dpa_drop : ∀ {vs : List V} {ds : List D} (n : Nat), DpAll K H vs ds → DpAll K H (vs.drop n) (ds.drop n)
  | _, _, 0, h => h
  | _, _, _ + 1, .nil => .nil
  | _, _, n + 1, .cons _ t => dpa_drop n t
theorem dpa_set : ∀ {vs : List V} {ds : List D} {v : V} {d : D} (n : Nat), DpAll K H vs ds → Dp K H v d → DpAll K H (vs.set n v) (ds.set n d)
  | _, _, _, _, _, .nil, _ => .nil
  | _, _, _, _, 0, .cons _ t, h => .cons h t
  | _, _, _, _, n + 1, .cons a t, h => .cons a (dpa_set n t h)
theorem dpa_snoc {vs : List V} {ds : List D} {v : V} {d : D} (h : DpAll K H vs ds) (q : Dp K H v d) : DpAll K H (vs ++ [v]) (ds ++ [d]) := dpa_append h (.cons q .nil)
theorem dpa_rev : ∀ {vs : List V} {ds : List D}, DpAll K H vs ds → DpAll K H vs.reverse ds.reverse
  | _, _, .nil => .nil
  | _, _, .cons a t => by
    rw [List.reverse_cons, List.reverse_cons]
    exact dpa_snoc (dpa_rev t) a
theorem dpa_cut {vs : List V} {ds : List D} (h : DpAll K H vs ds) (lo hi : Option Int) : DpAll K H (cutV vs lo hi) ((ds.drop (HT.sIx ds.length 0 lo)).take (HT.sIx ds.length ds.length hi - HT.sIx ds.length 0 lo)) := by
  unfold cutV
  rw [dpa_len h]
  exact dpa_take _ (dpa_drop _ h)
theorem dpa_ints : ∀ {vs : List V} {ns : List Int}, DpAll K H vs (ns.map PyData.int) → vs = ns.map V.int
  | [], [], _ => rfl
  | _, [], h => by cases h; rfl
  | _, n :: ns, h => by
    cases h with
    | cons h1 h2 =>
      cases h1
      rw [dpa_ints h2]
      rfl
theorem dpa_of_ints : ∀ (ns : List Int), DpAll K H (ns.map V.int) (ns.map PyData.int)
  | [] => .nil
  | n :: ns => .cons (.int n) (dpa_of_ints ns)
theorem dpa_bools : ∀ {vs : List V} {ns : List Bool}, DpAll K H vs (ns.map PyData.bool) → vs = ns.map V.bl
  | [], [], _ => rfl
  | _, [], h => by cases h; rfl
  | _, n :: ns, h => by
    cases h with
    | cons h1 h2 =>
      cases h1
      rw [dpa_bools h2]
      rfl
end

/-! ### the growth of a state: R what data is read in, H the heap -/
structure Grow (R H R' H' : Hp) : Prop where
  rd : Same R R'
  hp : Same H H'
  sub : Same R' H'
  new : ∀ a, R a = none → R' a ≠ none → H a = none
theorem Grow.refl {R H : Hp} (h : Same R H) : Grow R H R H := ⟨Same.refl R, Same.refl H, h, fun a e n => absurd e n⟩
theorem Grow.trans {R H R1 H1 R2 H2 : Hp} (a : Grow R H R1 H1) (b : Grow R1 H1 R2 H2) : Grow R H R2 H2 := by
  refine ⟨a.rd.trans b.rd, a.hp.trans b.hp, b.sub, fun x e n => ?_⟩
  by_cases h : R1 x = none
  · exact a.hp.free (b.new x h n)
  · exact a.new x e h
theorem same_upd {H : Hp} {p : Addr} {o : HO} (h : H p = none) : Same H (upd H p o) := fun b x e => by
  rw [upd_ne (ne_of_none e h)]
  exact e
/-- a new object that is read -/
theorem Grow.alloc {R H : Hp} {p : Addr} {o : HO} (h : Same R H) (hp : H p = none) : Grow R H (upd R p o) (upd H p o) := by
  have rp : R p = none := h.free hp
  refine ⟨same_upd rp, same_upd hp, fun b x e => ?_, fun a e n => ?_⟩
  · by_cases hb : b = p
    · rw [hb, upd_same] at e ⊢
      exact e
    · rw [upd_ne hb] at e ⊢
      exact h b x e
  · by_cases hb : a = p
    · rw [hb]; exact hp
    · rw [upd_ne hb] at n
      exact absurd e n
/-- a new object that is not yet read -/
theorem Grow.hide {R H : Hp} {p : Addr} {o : HO} (h : Same R H) (hp : H p = none) : Grow R H R (upd H p o) := by
  refine ⟨Same.refl R, same_upd hp, fun b x e => ?_, fun a e n => absurd e n⟩
  rw [upd_ne (ne_of_none (h b x e) hp)]
  exact h b x e
/-- a hidden object comes to be read -/
theorem Grow.show_ {R H R' H' : Hp} {p : Addr} {o : HO} (g : Grow R H R' H') (hn : H p = none) (hp : H' p = some o) : Grow R H (upd R' p o) H' := by
  refine ⟨fun b x e => ?_, g.hp, fun b x e => ?_, fun a e n => ?_⟩
  · have q := g.rd b x e
    by_cases hb : b = p
    · subst hb
      rw [upd_same]
      have z := g.sub b x q
      rw [hp] at z
      exact z
    · rw [upd_ne hb]; exact q
  · by_cases hb : b = p
    · subst hb
      rw [upd_same] at e
      rw [hp]; exact e
    · rw [upd_ne hb] at e
      exact g.sub b x e
  · by_cases hb : a = p
    · rw [hb]; exact hn
    · rw [upd_ne hb] at n
      exact g.new a e n

/-! ### slots -/
inductive Sl where
  /-- nothing is known -/
  | un
  /-- data that stays -/
  | val (d : D)
  /-- a list of the def's own -/
  | own (ds : List D)
  /-- just this value -/
  | raw (v : V)
abbrev En := List Sl
/-- the state: R0, H0 at the entry -/
structure At (K : Frag) (R0 H0 R : Hp) (ρ : En) (σ : L2.St) (H : Hp) : Prop where
  gr : Grow R0 H0 R H
  len : σ.length = ρ.length
  val : ∀ (i : Nat) (d : D), ρ[i]? = some (.val d) → ∃ v, σ[i]? = some (some v) ∧ Dp K R v d
  own : ∀ (i : Nat) (ds : List D), ρ[i]? = some (.own ds) → ∃ p vs, σ[i]? = some (some (.ref p)) ∧ H p = some (.lst vs) ∧ DpAll K R vs ds ∧ R p = none ∧ H0 p = none
  raw : ∀ (i : Nat) (v : V), ρ[i]? = some (.raw v) → σ[i]? = some (some v)
  apart : ∀ (i j : Nat) (p : Addr) (ds es : List D), i ≠ j → ρ[i]? = some (.own ds) → ρ[j]? = some (.own es) → σ[i]? = some (some (.ref p)) → σ[j]? ≠ some (some (.ref p))
section
variable {K : Frag} {R0 H0 R H R' H' : Hp} {ρ : En} {σ : L2.St}
theorem At.grow (a : At K R0 H0 R ρ σ H) (g : Grow R H R' H') : At K R0 H0 R' ρ σ H' where
  gr := a.gr.trans g
  len := a.len
  val := fun i d e => by
    obtain ⟨v, h1, h2⟩ := a.val i d e
    exact ⟨v, h1, dp_mono g.rd _ _ h2⟩
  own := fun i ds e => by
    obtain ⟨p, vs, h1, h2, h3, h4, h5⟩ := a.own i ds e
    refine ⟨p, vs, h1, g.hp _ _ h2, dpa_mono g.rd _ _ h3, ?_, h5⟩
    cases q : R' p with
    | none => rfl
    | some o =>
      have z := g.new p h4 (by rw [q]; exact fun z => nomatch z)
      rw [h2] at z
      cases z
  raw := a.raw
  apart := a.apart
/-- a slot is stored: data -/
theorem At.set (a : At K R0 H0 R ρ σ H) {i : Nat} {v : V} {d : D} (h : Dp K R v d) : At K R0 H0 R (ρ.set i (.val d)) (σ.set i (some v)) H where
  gr := a.gr
  len := by rw [List.length_set, List.length_set, a.len]
  val := fun j e q => by
    by_cases hj : i = j
    · subst hj
      by_cases hl : i < ρ.length
      · rw [List.getElem?_set_self hl] at q
        cases q
        exact ⟨v, List.getElem?_set_self (by rw [a.len]; exact hl), h⟩
      · rw [List.getElem?_eq_none (by rw [List.length_set]; omega)] at q
        cases q
    · rw [List.getElem?_set_ne hj] at q
      obtain ⟨u, h1, h2⟩ := a.val j e q
      exact ⟨u, by rw [List.getElem?_set_ne hj]; exact h1, h2⟩
  own := fun j ds q => by
    by_cases hj : i = j
    · subst hj
      by_cases hl : i < ρ.length
      · rw [List.getElem?_set_self hl] at q
        cases q
      · rw [List.getElem?_eq_none (by rw [List.length_set]; omega)] at q
        cases q
    · rw [List.getElem?_set_ne hj] at q
      obtain ⟨p, vs, h1, h2⟩ := a.own j ds q
      exact ⟨p, vs, by rw [List.getElem?_set_ne hj]; exact h1, h2⟩
  raw := fun j e q => by
    by_cases hj : i = j
    · subst hj
      by_cases hl : i < ρ.length
      · rw [List.getElem?_set_self hl] at q
        cases q
      · rw [List.getElem?_eq_none (by rw [List.length_set]; omega)] at q
        cases q
    · rw [List.getElem?_set_ne hj] at q ⊢
      exact a.raw j e q
  apart := fun j k p ds es hjk q1 q2 => by
    have n1 : i ≠ j := fun e => by
      subst e
      by_cases hl : i < ρ.length
      · rw [List.getElem?_set_self hl] at q1; cases q1
      · rw [List.getElem?_eq_none (by rw [List.length_set]; omega)] at q1; cases q1
    have n2 : i ≠ k := fun e => by
      subst e
      by_cases hl : i < ρ.length
      · rw [List.getElem?_set_self hl] at q2; cases q2
      · rw [List.getElem?_eq_none (by rw [List.length_set]; omega)] at q2; cases q2
    rw [List.getElem?_set_ne n1] at q1
    rw [List.getElem?_set_ne n2] at q2
    rw [List.getElem?_set_ne n1, List.getElem?_set_ne n2]
    exact a.apart j k p ds es hjk q1 q2
/-- a slot is stored of which nothing is to be known -/
theorem At.set_un (a : At K R0 H0 R ρ σ H) {i : Nat} {v : Option V} : At K R0 H0 R (ρ.set i .un) (σ.set i v) H where
  gr := a.gr
  len := by rw [List.length_set, List.length_set, a.len]
  val := fun j e q => by
    by_cases hj : i = j
    · subst hj
      by_cases hl : i < ρ.length
      · rw [List.getElem?_set_self hl] at q
        cases q
      · rw [List.getElem?_eq_none (by rw [List.length_set]; omega)] at q
        cases q
    · rw [List.getElem?_set_ne hj] at q
      obtain ⟨u, h1, h2⟩ := a.val j e q
      exact ⟨u, by rw [List.getElem?_set_ne hj]; exact h1, h2⟩
  own := fun j ds q => by
    by_cases hj : i = j
    · subst hj
      by_cases hl : i < ρ.length
      · rw [List.getElem?_set_self hl] at q
        cases q
      · rw [List.getElem?_eq_none (by rw [List.length_set]; omega)] at q
        cases q
    · rw [List.getElem?_set_ne hj] at q
      obtain ⟨p, vs, h1, h2⟩ := a.own j ds q
      exact ⟨p, vs, by rw [List.getElem?_set_ne hj]; exact h1, h2⟩
  raw := fun j e q => by
    by_cases hj : i = j
    · subst hj
      by_cases hl : i < ρ.length
      · rw [List.getElem?_set_self hl] at q
        cases q
      · rw [List.getElem?_eq_none (by rw [List.length_set]; omega)] at q
        cases q
    · rw [List.getElem?_set_ne hj] at q ⊢
      exact a.raw j e q
  apart := fun j k p ds es hjk q1 q2 => by
    have n1 : i ≠ j := fun e => by
      subst e
      by_cases hl : i < ρ.length
      · rw [List.getElem?_set_self hl] at q1; cases q1
      · rw [List.getElem?_eq_none (by rw [List.length_set]; omega)] at q1; cases q1
    have n2 : i ≠ k := fun e => by
      subst e
      by_cases hl : i < ρ.length
      · rw [List.getElem?_set_self hl] at q2; cases q2
      · rw [List.getElem?_eq_none (by rw [List.length_set]; omega)] at q2; cases q2
    rw [List.getElem?_set_ne n1] at q1
    rw [List.getElem?_set_ne n2] at q2
    rw [List.getElem?_set_ne n1, List.getElem?_set_ne n2]
    exact a.apart j k p ds es hjk q1 q2
/-- a slot is stored: a bare value -/
theorem At.set_raw (a : At K R0 H0 R ρ σ H) {i : Nat} {v : V} : At K R0 H0 R (ρ.set i (.raw v)) (σ.set i (some v)) H where
  gr := a.gr
  len := by rw [List.length_set, List.length_set, a.len]
  val := fun j e q => by
    by_cases hj : i = j
    · subst hj
      by_cases hl : i < ρ.length
      · rw [List.getElem?_set_self hl] at q
        cases q
      · rw [List.getElem?_eq_none (by rw [List.length_set]; omega)] at q
        cases q
    · rw [List.getElem?_set_ne hj] at q
      obtain ⟨u, h1, h2⟩ := a.val j e q
      exact ⟨u, by rw [List.getElem?_set_ne hj]; exact h1, h2⟩
  own := fun j ds q => by
    by_cases hj : i = j
    · subst hj
      by_cases hl : i < ρ.length
      · rw [List.getElem?_set_self hl] at q
        cases q
      · rw [List.getElem?_eq_none (by rw [List.length_set]; omega)] at q
        cases q
    · rw [List.getElem?_set_ne hj] at q
      obtain ⟨p, vs, h1, h2⟩ := a.own j ds q
      exact ⟨p, vs, by rw [List.getElem?_set_ne hj]; exact h1, h2⟩
  raw := fun j e q => by
    by_cases hj : i = j
    · subst hj
      by_cases hl : i < ρ.length
      · rw [List.getElem?_set_self hl] at q
        cases q
        exact List.getElem?_set_self (by rw [a.len]; exact hl)
      · rw [List.getElem?_eq_none (by rw [List.length_set]; omega)] at q
        cases q
    · rw [List.getElem?_set_ne hj] at q ⊢
      exact a.raw j e q
  apart := fun j k p ds es hjk q1 q2 => by
    have n1 : i ≠ j := fun e => by
      subst e
      by_cases hl : i < ρ.length
      · rw [List.getElem?_set_self hl] at q1; cases q1
      · rw [List.getElem?_eq_none (by rw [List.length_set]; omega)] at q1; cases q1
    have n2 : i ≠ k := fun e => by
      subst e
      by_cases hl : i < ρ.length
      · rw [List.getElem?_set_self hl] at q2; cases q2
      · rw [List.getElem?_eq_none (by rw [List.length_set]; omega)] at q2; cases q2
    rw [List.getElem?_set_ne n1] at q1
    rw [List.getElem?_set_ne n2] at q2
    rw [List.getElem?_set_ne n1, List.getElem?_set_ne n2]
    exact a.apart j k p ds es hjk q1 q2
/-- a slot is stored: a new list of one's own -/
theorem At.set_own (a : At K R0 H0 R ρ σ H) {i : Nat} {p : Addr} {vs : List V} {ds : List D} (hp : H p = some (.lst vs)) (h : DpAll K R vs ds) (rp : R p = none) (h0 : H0 p = none)
    (np : ∀ (j : Nat) (es : List D), i ≠ j → ρ[j]? = some (.own es) → σ[j]? ≠ some (some (.ref p))) : At K R0 H0 R (ρ.set i (.own ds)) (σ.set i (some (.ref p))) H where
  gr := a.gr
  len := by rw [List.length_set, List.length_set, a.len]
  val := fun j e q => by
    by_cases hj : i = j
    · subst hj
      by_cases hl : i < ρ.length
      · rw [List.getElem?_set_self hl] at q
        cases q
      · rw [List.getElem?_eq_none (by rw [List.length_set]; omega)] at q
        cases q
    · rw [List.getElem?_set_ne hj] at q
      obtain ⟨u, h1, h2⟩ := a.val j e q
      exact ⟨u, by rw [List.getElem?_set_ne hj]; exact h1, h2⟩
  own := fun j es q => by
    by_cases hj : i = j
    · subst hj
      by_cases hl : i < ρ.length
      · rw [List.getElem?_set_self hl] at q
        cases q
        exact ⟨p, vs, List.getElem?_set_self (by rw [a.len]; exact hl), hp, h, rp, h0⟩
      · rw [List.getElem?_eq_none (by rw [List.length_set]; omega)] at q
        cases q
    · rw [List.getElem?_set_ne hj] at q
      obtain ⟨p, vs, h1, h2⟩ := a.own j es q
      exact ⟨p, vs, by rw [List.getElem?_set_ne hj]; exact h1, h2⟩
  raw := fun j e q => by
    by_cases hj : i = j
    · subst hj
      by_cases hl : i < ρ.length
      · rw [List.getElem?_set_self hl] at q
        cases q
      · rw [List.getElem?_eq_none (by rw [List.length_set]; omega)] at q
        cases q
    · rw [List.getElem?_set_ne hj] at q ⊢
      exact a.raw j e q
  apart := fun j k b es fs hjk q1 q2 s1 => by
    by_cases hj : i = j
    · subst hj
      have hk : i ≠ k := hjk
      rw [List.getElem?_set_ne hk] at q2
      rw [List.getElem?_set_ne hk]
      by_cases hl : i < σ.length
      · rw [List.getElem?_set_self hl] at s1
        cases s1
        exact np k fs hk q2
      · rw [List.getElem?_eq_none (by rw [List.length_set]; omega)] at s1
        cases s1
    · rw [List.getElem?_set_ne hj] at q1 s1
      by_cases hk : i = k
      · subst hk
        intro z
        by_cases hl : i < σ.length
        · rw [List.getElem?_set_self hl] at z
          cases z
          exact np j es hj q1 s1
        · rw [List.getElem?_eq_none (by rw [List.length_set]; omega)] at z
          cases z
      · rw [List.getElem?_set_ne hk] at q2
        rw [List.getElem?_set_ne hk]
        exact a.apart j k b es fs hjk q1 q2 s1
/-- an own list changes -/
theorem At.put (a : At K R0 H0 R ρ σ H) {i : Nat} {p : Addr} {ds ds' : List D} {vs' : List V} (e : ρ[i]? = some (.own ds)) (s : σ[i]? = some (some (.ref p))) (h : DpAll K R vs' ds') : At K R0 H0 R (ρ.set i (.own ds')) σ (upd H p (.lst vs')) := by
  obtain ⟨p', vs, h1, h2, h3, h4, h5⟩ := a.own i ds e
  rw [s] at h1
  cases h1
  have hl : i < ρ.length := (List.getElem?_eq_some_iff.mp e).1
  refine ⟨⟨a.gr.rd, fun b o q => ?_, fun b o q => ?_, a.gr.new⟩, by rw [List.length_set]; exact a.len, fun j d q => ?_, fun j es q => ?_, fun j v q => ?_, fun j k b es fs hjk q1 q2 s1 => ?_⟩
  · rw [upd_ne (ne_of_none q h5)]; exact a.gr.hp _ _ q
  · rw [upd_ne (ne_of_none q h4)]; exact a.gr.sub _ _ q
  · have hj : i ≠ j := fun z => by
      subst z
      rw [List.getElem?_set_self hl] at q
      cases q
    rw [List.getElem?_set_ne hj] at q
    exact a.val j d q
  · by_cases hj : i = j
    · subst hj
      rw [List.getElem?_set_self hl] at q
      cases q
      exact ⟨p, vs', s, upd_same, h, h4, h5⟩
    · rw [List.getElem?_set_ne hj] at q
      obtain ⟨p2, vs2, g1, g2, g3, g4, g5⟩ := a.own j es q
      have np : p2 ≠ p := fun z => a.apart i j p ds es hj e q s (by rw [← z]; exact g1)
      exact ⟨p2, vs2, g1, by rw [upd_ne np]; exact g2, g3, g4, g5⟩
  · have hj : i ≠ j := fun z => by
      subst z
      rw [List.getElem?_set_self hl] at q
      cases q
    rw [List.getElem?_set_ne hj] at q
    exact a.raw j v q
  · by_cases hj : i = j
    · subst hj
      rw [List.getElem?_set_ne hjk] at q2
      exact a.apart i k b ds fs hjk e q2 s1
    · rw [List.getElem?_set_ne hj] at q1
      by_cases hk : i = k
      · subst hk
        exact a.apart j i b es ds hjk q1 e s1
      · rw [List.getElem?_set_ne hk] at q2
        exact a.apart j k b es fs hjk q1 q2 s1
/-- an own list is given up: from now on it stays -/
theorem At.freeze (a : At K R0 H0 R ρ σ H) {i : Nat} {ds : List D} (e : ρ[i]? = some (.own ds)) : ∃ R', Same R R' ∧ At K R0 H0 R' (ρ.set i (.val (.list ds))) σ H := by
  obtain ⟨p, vs, h1, h2, h3, h4, h5⟩ := a.own i ds e
  have hl : i < ρ.length := (List.getElem?_eq_some_iff.mp e).1
  have rr : Same R (upd R p (.lst vs)) := same_upd h4
  refine ⟨upd R p (.lst vs), rr, a.gr.show_ h5 h2, by rw [List.length_set]; exact a.len, fun j d q => ?_, fun j es q => ?_, fun j v q => ?_, fun j k b es fs hjk q1 q2 s1 => ?_⟩
  · by_cases hj : i = j
    · subst hj
      rw [List.getElem?_set_self hl] at q
      cases q
      exact ⟨_, h1, .lst (SqL.of upd_same) (dpa_mono rr _ _ h3)⟩
    · rw [List.getElem?_set_ne hj] at q
      obtain ⟨v, g1, g2⟩ := a.val j d q
      exact ⟨v, g1, dp_mono rr _ _ g2⟩
  · have hj : i ≠ j := fun z => by
      subst z
      rw [List.getElem?_set_self hl] at q
      cases q
    rw [List.getElem?_set_ne hj] at q
    obtain ⟨p2, vs2, g1, g2, g3, g4, g5⟩ := a.own j es q
    have np : p2 ≠ p := fun z => a.apart i j p ds es hj e q h1 (by rw [← z]; exact g1)
    exact ⟨p2, vs2, g1, g2, dpa_mono rr _ _ g3, by rw [upd_ne np]; exact g4, g5⟩
  · have hj : i ≠ j := fun z => by
      subst z
      rw [List.getElem?_set_self hl] at q
      cases q
    rw [List.getElem?_set_ne hj] at q
    exact a.raw j v q
  · have n1 : i ≠ j := fun z => by
      subst z
      rw [List.getElem?_set_self hl] at q1; cases q1
    have n2 : i ≠ k := fun z => by
      subst z
      rw [List.getElem?_set_self hl] at q2; cases q2
    rw [List.getElem?_set_ne n1] at q1
    rw [List.getElem?_set_ne n2] at q2
    exact a.apart j k b es fs hjk q1 q2 s1
/-- the entry moved on to a later one -/
theorem At.later (a : At K R0 H0 R ρ σ H) {R1 H1 : Hp} (g : Grow R0 H0 R1 H1) (e : Same R1 R) : At K R1 H0 R ρ σ H where
  gr := ⟨e, a.gr.hp, a.gr.sub, fun x h n => by
    by_cases q : R0 x = none
    · exact a.gr.new x q n
    · cases q' : R0 x with
      | none => exact absurd q' q
      | some o =>
        rw [g.rd x o q'] at h
        cases h⟩
  len := a.len
  val := a.val
  own := a.own
  raw := a.raw
  apart := a.apart
theorem At.back (a : At K R' H0 R ρ σ H) {H1 : Hp} (g : Grow R0 H0 R' H1) : At K R0 H0 R ρ σ H where
  gr := ⟨g.rd.trans a.gr.rd, a.gr.hp, a.gr.sub, fun x h n => by
    by_cases q : R' x = none
    · exact a.gr.new x q n
    · exact g.new x h q⟩
  len := a.len
  val := a.val
  own := a.own
  raw := a.raw
  apart := a.apart
end
end Pu

set_option maxRecDepth 100000
namespace Pu
open PySem PySem.Spec PyProof.Rows L2
/-! ### what evaluates to what -/
/-- to data that stays -/
def Ev (K : Frag) (te : TE) (ρ : En) (d : D) : Prop := ∀ R0 H0 R σ H, At K R0 H0 R ρ σ H → ∀ Q : VK, (∀ v R' H', Grow R H R' H' → Dp K R' v d → Q v H') → te σ H Q
/-- to a list that is to be read at once -/
def EvL (K : Frag) (te : TE) (ρ : En) (ds : List D) : Prop := ∀ R0 H0 R σ H, At K R0 H0 R ρ σ H → ∀ Q : VK, (∀ p vs R' H', Grow R H R' H' → SqL K H' p vs → DpAll K R' vs ds → Q (.ref p) H') → te σ H Q
/-- to a new list -/
def EvF (K : Frag) (te : TE) (ρ : En) (ds : List D) : Prop := ∀ R0 H0 R σ H, At K R0 H0 R ρ σ H → ∀ Q : VK, (∀ p vs R' H', Grow R H R' H' → H p = none → R' p = none → H' p = some (.lst vs) → DpAll K R' vs ds → Q (.ref p) H') → te σ H Q
def EvA (K : Frag) (ta : TA) (ρ : En) (ds : List D) : Prop := ∀ R0 H0 R σ H, At K R0 H0 R ρ σ H → ∀ Q : List V → Hp → Prop, (∀ vs R' H', Grow R H R' H' → DpAll K R' vs ds → Q vs H') → ta σ H Q
def EvT (K : Frag) (tt : TT) (ρ : En) (b : Bool) : Prop := ∀ R0 H0 R σ H, At K R0 H0 R ρ σ H → ∀ Q : Bool → Hp → Prop, (∀ R' H', Grow R H R' H' → Q b H') → tt σ H Q
def EvO (K : Frag) (to : TO) (ρ : En) (o : Option Int) : Prop := ∀ R0 H0 R σ H, At K R0 H0 R ρ σ H → ∀ Q : Option Int → Hp → Prop, (∀ R' H', Grow R H R' H' → Q o H') → to σ H Q
/-- lets an exception out -/
def EvX (K : Frag) (W : WX) (te : TE) (ρ : En) (c : Value) : Prop := ∀ R0 H0 R σ H, At K R0 H0 R ρ σ H → ∀ Q : VK, (∀ R' H', At K R0 H0 R' ρ σ H' → W c none σ H') → te σ H Q
def isNone : D → Bool
  | .none => true
  | _ => false
section
variable {K : Frag} {ρ : En} {ta tb tc te tx : TE} {tt tu : TT} {d d1 d2 : D} {ds es : List D} {r : R2} {W : WX} {c : Value}
theorem Ev.is (h : Ev K te ρ d) (e : d = d1) : Ev K te ρ d1 := e ▸ h
theorem EvT.is {b b' : Bool} (h : EvT K tt ρ b) (e : b = b') : EvT K tt ρ b' := e ▸ h
theorem EvF.is (h : EvF K te ρ ds) (e : ds = es) : EvF K te ρ es := e ▸ h
theorem Ev.l (h : Ev K te ρ (.list ds)) : EvL K te ρ ds := fun R0 H0 R σ H a Q q => h R0 H0 R σ H a Q fun v R' H' g dv => by
  cases dv with
  | lst hs ha => exact q _ _ R' H' g (g.sub.seq hs) ha
theorem EvF.l (h : EvF K te ρ ds) : EvL K te ρ ds := fun R0 H0 R σ H a Q q => h R0 H0 R σ H a Q fun p vs R' H' g h0 r0 hp dv => q p vs R' H' g (SqL.of hp) dv
theorem EvF.v (h : EvF K te ρ ds) : Ev K te ρ (.list ds) := fun R0 H0 R σ H a Q q => h R0 H0 R σ H a Q fun p vs R' H' g h0 r0 hp dv =>
  q _ _ H' (g.show_ h0 hp) (.lst (SqL.of upd_same) (dpa_mono (same_upd r0) _ _ dv))
theorem ev_var {i : Nat} (h : ρ[i]? = some (.val d)) : Ev K (tVar i) ρ d := fun R0 H0 R σ H a Q q => by
  obtain ⟨v, h1, h2⟩ := a.val i d h
  exact ⟨v, h1, q v R H (Grow.refl a.gr.sub) h2⟩
theorem evl_own {i : Nat} (h : ρ[i]? = some (.own ds)) : EvL K (tVar i) ρ ds := fun R0 H0 R σ H a Q q => by
  obtain ⟨p, vs, h1, h2, h3, h4, h5⟩ := a.own i ds h
  exact ⟨_, h1, q p vs R H (Grow.refl a.gr.sub) (SqL.of h2) h3⟩
theorem ev_int {i : Int} : Ev K (tC (.int i)) ρ (.int i) := fun R0 H0 R σ H a Q q => q _ R H (Grow.refl a.gr.sub) (.int i)
theorem ev_bl {b : Bool} : Ev K (tC (.bl b)) ρ (.bool b) := fun R0 H0 R σ H a Q q => q _ R H (Grow.refl a.gr.sub) (.bl b)
theorem ev_non : Ev K (tC .non) ρ .none := fun R0 H0 R σ H a Q q => q _ R H (Grow.refl a.gr.sub) .non
theorem ev_str {x : Str} : Ev K (tC (.str x)) ρ (.str x) := fun R0 H0 R σ H a Q q => q _ R H (Grow.refl a.gr.sub) (.str x)
/-- two operands, then an operation -/
theorem ev_op2 (ha : Ev K ta ρ d1) (hb : Ev K tb ρ d2) (hr : ∀ R H x y, Same R H → Dp K R x d1 → Dp K R y d2 → ∀ Q : VK, (∀ v R' H', Grow R H R' H' → Dp K R' v d → Q v H') → r x y H Q) : Ev K (tOp r ta tb) ρ d :=
  fun R0 H0 R σ H a Q q => ha R0 H0 R σ H a _ fun x R1 H1 g1 dx => hb R0 H0 R1 σ H1 (a.grow g1) _ fun y R2 H2 g2 dy =>
    hr R2 H2 x y g2.sub (dp_mono g2.rd _ _ dx) dy Q fun v R3 H3 g3 dv => q v R3 H3 ((g1.trans g2).trans g3) dv
theorem ev_I {C : Int → Int → Prop} {f : Int → Int → V} {i j : Int} (ha : Ev K ta ρ (.int i)) (hb : Ev K tb ρ (.int j)) (hc : C i j) (hd : ∀ R, Dp K R (f i j) d) : Ev K (tOp (rI C f) ta tb) ρ d :=
  ev_op2 ha hb fun R H x y s dx dy Q q => by
    cases dx; cases dy
    exact ⟨i, j, rfl, rfl, hc, q _ R H (Grow.refl s) (hd R)⟩
theorem ev_I0 {f : Int → Int → V} {i j : Int} (ha : Ev K ta ρ (.int i)) (hb : Ev K tb ρ (.int j)) (hd : ∀ R, Dp K R (f i j) d) : Ev K (tOp (rI0 f) ta tb) ρ d :=
  ev_op2 ha hb fun R H x y s dx dy Q q => by
    cases dx; cases dy
    exact ⟨i, j, rfl, rfl, q _ R H (Grow.refl s) (hd R)⟩
theorem ev_add {i j : Int} (ha : Ev K ta ρ (.int i)) (hb : Ev K tb ρ (.int j)) : Ev K (tOp (rI0 fun i j => .int (i + j)) ta tb) ρ (.int (i + j)) := ev_I0 ha hb fun R => .int _
theorem ev_sub {i j : Int} (ha : Ev K ta ρ (.int i)) (hb : Ev K tb ρ (.int j)) : Ev K (tOp (rI0 fun i j => .int (i - j)) ta tb) ρ (.int (i - j)) := ev_I0 ha hb fun R => .int _
theorem ev_mulW {i j : Int} (ha : Ev K ta ρ (.int i)) (hb : Ev K tb ρ (.int j)) (hc : CMulW i j) : Ev K (tOp (rI CMulW fun i j => .int (i * j)) ta tb) ρ (.int (i * j)) := ev_I ha hb hc fun R => .int _
theorem ev_fdivW {i j : Int} (ha : Ev K ta ρ (.int i)) (hb : Ev K tb ρ (.int j)) (hc : CDivW i j) : Ev K (tOp (rI CDivW fun i j => .int (i / j)) ta tb) ρ (.int (i / j)) := ev_I ha hb hc fun R => .int _
theorem ev_mod {i j : Int} (ha : Ev K ta ρ (.int i)) (hb : Ev K tb ρ (.int j)) (hc : 0 < j) : Ev K (tOp (rI (fun _ j => 0 < j) fun i j => .int (i % j)) ta tb) ρ (.int (i % j)) := ev_I ha hb hc fun R => .int _
theorem ev_lt {i j : Int} (ha : Ev K ta ρ (.int i)) (hb : Ev K tb ρ (.int j)) : Ev K (tOp (rI0 fun i j => .bl (decide (i < j))) ta tb) ρ (.bool (decide (i < j))) := ev_I0 ha hb fun R => .bl _
theorem ev_le {i j : Int} (ha : Ev K ta ρ (.int i)) (hb : Ev K tb ρ (.int j)) : Ev K (tOp (rI0 fun i j => .bl (decide (i ≤ j))) ta tb) ρ (.bool (decide (i ≤ j))) := ev_I0 ha hb fun R => .bl _
theorem ev_gt {i j : Int} (ha : Ev K ta ρ (.int i)) (hb : Ev K tb ρ (.int j)) : Ev K (tOp (rI0 fun i j => .bl (decide (j < i))) ta tb) ρ (.bool (decide (j < i))) := ev_I0 ha hb fun R => .bl _
theorem ev_ge {i j : Int} (ha : Ev K ta ρ (.int i)) (hb : Ev K tb ρ (.int j)) : Ev K (tOp (rI0 fun i j => .bl (decide (j ≤ i))) ta tb) ρ (.bool (decide (j ≤ i))) := ev_I0 ha hb fun R => .bl _
theorem ev_neg {i : Int} (ha : Ev K ta ρ (.int i)) : Ev K (tUn (rU fun i => .int (-i)) ta) ρ (.int (-i)) := fun R0 H0 R σ H a Q q => ha R0 H0 R σ H a _ fun x R1 H1 g1 dx => by
  cases dx
  exact ⟨i, rfl, q _ R1 H1 g1 (.int _)⟩
/-- == at any depth -/
theorem ev_eqD (ha : Ev K ta ρ d1) (hb : Ev K tb ρ d2) (h1 : SeqAt.shaped d1 = true) (h2 : SeqAt.shaped d2 = true) : Ev K (tOp (rEqD K) ta tb) ρ (.bool (PyData.eqv d1 d2)) :=
  ev_op2 ha hb fun R H x y s dx dy Q q => ⟨d1, d2, dp_mono s _ _ dx, dp_mono s _ _ dy, h1, h2, q _ R H (Grow.refl s) (.bl _)⟩
theorem ev_neD (ha : Ev K ta ρ d1) (hb : Ev K tb ρ d2) (h1 : SeqAt.shaped d1 = true) (h2 : SeqAt.shaped d2 = true) : Ev K (tOp (rNeD K) ta tb) ρ (.bool (!PyData.eqv d1 d2)) :=
  ev_op2 ha hb fun R H x y s dx dy Q q => ⟨d1, d2, dp_mono s _ _ dx, dp_mono s _ _ dy, h1, h2, q _ R H (Grow.refl s) (.bl _)⟩
/-- == of a list that is to be read at once -/
theorem ev_eqL (ha : EvL K ta ρ ds) (hb : Ev K tb ρ d2) (h1 : SeqAt.shaped (.list ds) = true) (h2 : SeqAt.shaped d2 = true) : Ev K (tOp (rEqD K) ta tb) ρ (.bool (PyData.eqv (.list ds) d2)) :=
  fun R0 H0 R σ H a Q q => ha R0 H0 R σ H a _ fun p vs R1 H1 g1 sq dx => hb R0 H0 R1 σ H1 (a.grow g1) _ fun y R2 H2 g2 dy =>
    ⟨.list ds, d2, .lst (g2.hp.seq sq) (dpa_mono (g2.rd.trans g2.sub) _ _ dx), dp_mono g2.sub _ _ dy, h1, h2, q _ R2 H2 (g1.trans g2) (.bl _)⟩
theorem ev_neL (ha : EvL K ta ρ ds) (hb : Ev K tb ρ d2) (h1 : SeqAt.shaped (.list ds) = true) (h2 : SeqAt.shaped d2 = true) : Ev K (tOp (rNeD K) ta tb) ρ (.bool (!PyData.eqv (.list ds) d2)) :=
  fun R0 H0 R σ H a Q q => ha R0 H0 R σ H a _ fun p vs R1 H1 g1 sq dx => hb R0 H0 R1 σ H1 (a.grow g1) _ fun y R2 H2 g2 dy =>
    ⟨.list ds, d2, .lst (g2.hp.seq sq) (dpa_mono (g2.rd.trans g2.sub) _ _ dx), dp_mono g2.sub _ _ dy, h1, h2, q _ R2 H2 (g1.trans g2) (.bl _)⟩
theorem ev_isN (ha : Ev K ta ρ d) : Ev K (tOp (fun x y H Q => y = .non ∧ Q (.bl (decide (x = .non))) H) ta (tC .non)) ρ (.bool (isNone d)) :=
  ev_op2 (d2 := .none) ha ev_non fun R H x y s dx dy Q q => by
    cases dy
    refine ⟨rfl, ?_⟩
    have e : decide (x = V.non) = isNone d := by
      cases dx <;> first | rfl | exact decide_eq_false (fun z => nomatch z)
    rw [e]
    exact q _ R H (Grow.refl s) (.bl _)
theorem ev_notN (ha : Ev K ta ρ d) : Ev K (tOp (fun x y H Q => y = .non ∧ Q (.bl (!decide (x = .non))) H) ta (tC .non)) ρ (.bool (!isNone d)) :=
  ev_op2 (d2 := .none) ha ev_non fun R H x y s dx dy Q q => by
    cases dy
    refine ⟨rfl, ?_⟩
    have e : decide (x = V.non) = isNone d := by
      cases dx <;> first | rfl | exact decide_eq_false (fun z => nomatch z)
    rw [e]
    exact q _ R H (Grow.refl s) (.bl _)
/-! ### items -/
theorem ixN_get {α β : Type} {xs : List α} {ys : List β} {i : Int} (h : xs.length = ys.length) {y : β} (e : atI ys i = some y) : ∃ j, ixN xs.length i = some j ∧ ys[j]? = some y := by
  unfold atI at e
  rw [h]
  cases q : ixN ys.length i with
  | none => rw [q] at e; cases e
  | some j =>
    rw [q] at e
    exact ⟨j, rfl, e⟩
theorem atI_of {α : Type} {xs : List α} {i : Int} {j : Nat} {x : α} (h : ixN xs.length i = some j) (e : xs[j]? = some x) : atI xs i = some x := by
  unfold atI
  rw [h]
  exact e
theorem dpa_at {H : Hp} {vs : List V} {i : Int} (h : DpAll K H vs ds) (e : atI ds i = some d) : ∃ v, atI vs i = some v ∧ Dp K H v d := by
  obtain ⟨j, h1, h2⟩ := ixN_get (xs := vs) (dpa_len h) e
  obtain ⟨v, h3, h4⟩ := dpa_get h h2
  exact ⟨v, atI_of h1 h3, h4⟩
theorem ev_ixT {i : Int} (ha : Ev K ta ρ (.tuple ds)) (hb : Ev K tb ρ (.int i)) (e : atI ds i = some d) : Ev K (tOp (rIxT K) ta tb) ρ d :=
  ev_op2 ha hb fun R H x y s dx dy Q q => by
    cases dy
    cases dx with
    | tup hs hall =>
      obtain ⟨v, h1, h2⟩ := dpa_at hall e
      exact ⟨_, _, i, v, rfl, rfl, sqt_mono s hs, h1, q v R H (Grow.refl s) h2⟩
theorem ev_ixL {i : Int} (ha : EvL K ta ρ ds) (hb : Ev K tb ρ (.int i)) (e : atI ds i = some d) : Ev K (tOp (rIxL K) ta tb) ρ d :=
  fun R0 H0 R σ H a Q q => ha R0 H0 R σ H a _ fun p vs R1 H1 g1 sq dx => hb R0 H0 R1 σ H1 (a.grow g1) _ fun y R2 H2 g2 dy => by
    cases dy
    obtain ⟨v, h1, h2⟩ := dpa_at dx e
    exact ⟨p, vs, i, v, rfl, rfl, g2.hp.seq sq, h1, q v R2 H2 (g1.trans g2) (dp_mono g2.rd _ _ h2)⟩
/-- a list or a tuple (or a text) -/
theorem ev_ixST {i : Int} (ha : Ev K ta ρ (.tuple ds)) (hb : Ev K tb ρ (.int i)) (e : atI ds i = some d) : Ev K (tOp (rIx K) ta tb) ρ d :=
  fun R0 H0 R σ H a Q q => ha R0 H0 R σ H a _ fun x R1 H1 g1 dx => hb R0 H0 R1 σ H1 (a.grow g1) _ fun y R2 H2 g2 dy => by
    cases dy
    cases dx with
    | tup hs hall =>
      obtain ⟨v, h1, h2⟩ := dpa_at hall e
      exact .inr (.inl ⟨_, _, i, v, rfl, rfl, sqt_mono (g2.rd.trans g2.sub) hs, h1, q v R2 H2 (g1.trans g2) (dp_mono g2.rd _ _ h2)⟩)
theorem ev_ixSL {i : Int} (ha : EvL K ta ρ ds) (hb : Ev K tb ρ (.int i)) (e : atI ds i = some d) : Ev K (tOp (rIx K) ta tb) ρ d :=
  fun R0 H0 R σ H a Q q => ha R0 H0 R σ H a _ fun p vs R1 H1 g1 sq dx => hb R0 H0 R1 σ H1 (a.grow g1) _ fun y R2 H2 g2 dy => by
    cases dy
    obtain ⟨v, h1, h2⟩ := dpa_at dx e
    exact .inl ⟨p, vs, i, v, rfl, rfl, g2.hp.seq sq, h1, q v R2 H2 (g1.trans g2) (dp_mono g2.rd _ _ h2)⟩
/-! ### arguments, displays -/
theorem ea_nil : EvA K tNil ρ [] := fun R0 H0 R σ H a Q q => q [] R H (Grow.refl a.gr.sub) .nil
theorem ea_cons {tr : TA} (h : Ev K te ρ d) (hr : EvA K tr ρ ds) : EvA K (tCons te tr) ρ (d :: ds) := fun R0 H0 R σ H a Q q => h R0 H0 R σ H a _ fun x R1 H1 g1 dx =>
  hr R0 H0 R1 σ H1 (a.grow g1) _ fun xs R2 H2 g2 dxs => q _ R2 H2 (g1.trans g2) (.cons (dp_mono g2.rd _ _ dx) dxs)
theorem ev_tup {tr : TA} (h : EvA K tr ρ ds) (hl : ds.length ≤ 100000) : Ev K (tTup tr) ρ (.tuple ds) := fun R0 H0 R σ H a Q q => h R0 H0 R σ H a _ fun xs R1 H1 g1 dx =>
  ⟨Nat.le_trans (by rw [dpa_len dx]; exact hl) (by decide), fun p hp => q _ _ _ (g1.trans (Grow.alloc g1.sub hp)) (.tup (SqT.of upd_same) (dpa_mono (Grow.alloc g1.sub hp).rd _ _ dx))⟩
theorem evf_lst {tr : TA} (h : EvA K tr ρ ds) (hl : ds.length ≤ 100000) : EvF K (tLst tr) ρ ds := fun R0 H0 R σ H a Q q => h R0 H0 R σ H a _ fun xs R1 H1 g1 dx =>
  ⟨Nat.le_trans (by rw [dpa_len dx]; exact hl) (by decide), fun p hp => q p xs R1 _ (g1.trans (Grow.hide g1.sub hp)) (g1.hp.free hp) (g1.sub.free hp) upd_same dx⟩
/-! ### tests -/
theorem et_test {b : Bool} (h : Ev K te ρ (.bool b)) : EvT K (tTest te) ρ b := fun R0 H0 R σ H a Q q => h R0 H0 R σ H a _ fun v R1 H1 g1 dv => by
  cases dv
  exact ⟨b, rfl, q R1 H1 g1⟩
theorem et_B {b : Bool} (h : Ev K te ρ (.bool b)) : EvT K (tB te) ρ b := fun R0 H0 R σ H a Q q => h R0 H0 R σ H a _ fun v R1 H1 g1 dv => by
  cases dv
  exact ⟨b, rfl, q R1 H1 g1⟩
theorem et_and {x y : Bool} (h1 : EvT K tt ρ x) (h2 : x = true → EvT K tu ρ y) : EvT K (tAnd tt tu) ρ (x && y) := fun R0 H0 R σ H a Q q => h1 R0 H0 R σ H a _ fun R1 H1 g1 => by
  cases x with
  | true => exact iteT (h2 rfl R0 H0 R1 σ H1 (a.grow g1) Q fun R2 H2 g2 => q R2 H2 (g1.trans g2))
  | false => exact iteF (q R1 H1 g1)
theorem et_or {x y : Bool} (h1 : EvT K tt ρ x) (h2 : x = false → EvT K tu ρ y) : EvT K (tOr tt tu) ρ (x || y) := fun R0 H0 R σ H a Q q => h1 R0 H0 R σ H a _ fun R1 H1 g1 => by
  cases x with
  | true => exact iteT (q R1 H1 g1)
  | false => exact iteF (h2 rfl R0 H0 R1 σ H1 (a.grow g1) Q fun R2 H2 g2 => q R2 H2 (g1.trans g2))
theorem et_not {x : Bool} (h : EvT K tt ρ x) : EvT K (tNot tt) ρ (!x) := fun R0 H0 R σ H a Q q => h R0 H0 R σ H a _ fun R1 H1 g1 => q R1 H1 g1
theorem ev_andV {x y : Bool} (h1 : Ev K ta ρ (.bool x)) (h2 : x = true → Ev K tb ρ (.bool y)) : Ev K (tAndV ta tb) ρ (.bool (x && y)) := fun R0 H0 R σ H a Q q => h1 R0 H0 R σ H a _ fun v R1 H1 g1 dv => by
  cases dv
  refine ⟨x, rfl, ?_⟩
  cases x with
  | true => exact iteT (h2 rfl R0 H0 R1 σ H1 (a.grow g1) Q fun v R2 H2 g2 dv => q v R2 H2 (g1.trans g2) dv)
  | false => exact iteF (q _ R1 H1 g1 (.bl _))
theorem ev_orV {x y : Bool} (h1 : Ev K ta ρ (.bool x)) (h2 : x = false → Ev K tb ρ (.bool y)) : Ev K (tOrV ta tb) ρ (.bool (x || y)) := fun R0 H0 R σ H a Q q => h1 R0 H0 R σ H a _ fun v R1 H1 g1 dv => by
  cases dv
  refine ⟨x, rfl, ?_⟩
  cases x with
  | true => exact iteT (q _ R1 H1 g1 (.bl _))
  | false => exact iteF (h2 rfl R0 H0 R1 σ H1 (a.grow g1) Q fun v R2 H2 g2 dv => q v R2 H2 (g1.trans g2) dv)
theorem ev_notV {x : Bool} (h1 : Ev K ta ρ (.bool x)) : Ev K (tNotV ta) ρ (.bool (!x)) := fun R0 H0 R σ H a Q q => h1 R0 H0 R σ H a _ fun v R1 H1 g1 dv => by
  cases dv
  exact ⟨x, rfl, q _ R1 H1 g1 (.bl _)⟩
theorem ev_if {b : Bool} (h : EvT K tt ρ b) (h1 : b = true → Ev K ta ρ d) (h2 : b = false → Ev K tb ρ d) : Ev K (tIf tt ta tb) ρ d := fun R0 H0 R σ H a Q q => h R0 H0 R σ H a _ fun R1 H1 g1 => by
  cases b with
  | true => exact iteT (h1 rfl R0 H0 R1 σ H1 (a.grow g1) Q fun v R2 H2 g2 dv => q v R2 H2 (g1.trans g2) dv)
  | false => exact iteF (h2 rfl R0 H0 R1 σ H1 (a.grow g1) Q fun v R2 H2 g2 dv => q v R2 H2 (g1.trans g2) dv)
/-- a < b < c of whole numbers -/
theorem ev_chainI {f g : Int → Int → Bool} {i j k : Int} (ha : Ev K ta ρ (.int i)) (hb : Ev K tb ρ (.int j)) (hc : f i j = true → Ev K tc ρ (.int k)) :
    Ev K (tChain (rI0 fun i j => .bl (f i j)) (rI0 fun i j => .bl (g i j)) ta tb tc) ρ (.bool (f i j && g j k)) := fun R0 H0 R σ H a Q q => ha R0 H0 R σ H a _ fun x R1 H1 g1 dx => hb R0 H0 R1 σ H1 (a.grow g1) _ fun y R2 H2 g2 dy => by
  cases dx; cases dy
  refine ⟨i, j, rfl, rfl, f i j, rfl, ?_⟩
  have a2 := a.grow (g1.trans g2)
  have fin : ∀ b, f i j = b → (if b = true then tc σ H2 fun w' H4 => (rI0 fun i j => .bl (g i j)) (.int j) w' H4 Q else Q (.bl false) H2) := fun b e => by
    cases b with
    | true =>
      refine iteT (hc e R0 H0 R2 σ H2 a2 _ fun z R3 H3 g3 dz => ?_)
      cases dz
      refine ⟨j, k, rfl, rfl, q _ R3 H3 ((g1.trans g2).trans g3) ?_⟩
      rw [e, Bool.true_and]
      exact .bl _
    | false =>
      refine iteF (q _ R2 H2 (g1.trans g2) ?_)
      rw [e, Bool.false_and]
      exact .bl _
  exact fin _ rfl
end
end Pu

set_option maxRecDepth 100000
namespace Pu
open PySem PySem.Spec PyProof.Rows L2
/-! ### contracts -/
structure Kc where
  rt : D → Prop
  rl : List D → Prop
  ex : Value → Prop
abbrev Ct := List D → Kc → Prop
/-- what a contract says in terms of heaps -/
def spc (K : Frag) (c : Ct) : Sp := fun vs H Q E => ∃ (R : Hp) (ds : List D) (k : Kc), Same R H ∧ DpAll K R vs ds ∧ c ds k ∧
  (∀ d v R' H', k.rt d → Grow R H R' H' → Dp K R' v d → Q v H') ∧
  (∀ es p vs' R' H', k.rl es → Grow R H R' H' → H p = none → R' p = none → H' p = some (.lst vs') → DpAll K R' vs' es → Q (.ref p) H') ∧
  (∀ x R' H', k.ex x → Grow R H R' H' → E x none H')
/-- it gives d; a new list; an exception -/
def kv (d : D) : Kc := ⟨fun e => e = d, fun _ => False, fun _ => False⟩
def kl (ds : List D) : Kc := ⟨fun _ => False, fun es => es = ds, fun _ => False⟩
def kx (c : Value) : Kc := ⟨fun _ => False, fun _ => False, fun x => x = c⟩
section
variable {K : Frag} {ρ : En} {te : TE} {ta : TA} {c : Ct} {d : D} {ds es : List D} {E : L2.St → XK} {W : WX} {x : Value}
theorem ev_call (ha : EvA K ta ρ ds) (hc : c ds (kv d)) : Ev K (tCallS (spc K c) E ta) ρ d := fun R0 H0 R σ H a Q q => ha R0 H0 R σ H a _ fun vs R1 H1 g1 dx =>
  ⟨R1, ds, kv d, g1.sub, dx, hc, fun e v R' H' h g dv => by cases (show e = d from h); exact q v R' H' (g1.trans g) dv, fun _ _ _ _ _ h => h.elim, fun _ _ _ h => h.elim⟩
theorem evf_call (ha : EvA K ta ρ ds) (hc : c ds (kl es)) : EvF K (tCallS (spc K c) E ta) ρ es := fun R0 H0 R σ H a Q q => ha R0 H0 R σ H a _ fun vs R1 H1 g1 dx =>
  ⟨R1, ds, kl es, g1.sub, dx, hc, fun _ _ _ _ h => h.elim, fun fs p vs' R' H' h g hn hr hp dv => by cases (show fs = es from h); exact q p vs' R' H' (g1.trans g) (g1.hp.free hn) hr hp dv, fun _ _ _ h => h.elim⟩
theorem evx_call (ha : EvA K ta ρ ds) (hc : c ds (kx x)) : EvX K W (tCallS (spc K c) (WE W) ta) ρ x := fun R0 H0 R σ H a Q q => ha R0 H0 R σ H a _ fun vs R1 H1 g1 dx =>
  ⟨R1, ds, kx x, g1.sub, dx, hc, fun _ _ _ _ h => h.elim, fun _ _ _ _ _ h => h.elim, fun y R' H' h g => by cases (show y = x from h); exact q R' H' (a.grow (g1.trans g))⟩
end

/-! ### statements -/
structure Ko where
  nx : En → Prop
  rt : D → Prop
  rl : List D → Prop
  bk : En → Prop := fun _ => False
  ct : En → Prop := fun _ => False
structure Meets (K : Frag) (R0 H0 : Hp) (k : Ko) (D : Ends) : Prop where
  nx : ∀ ρ R σ H, k.nx ρ → At K R0 H0 R ρ σ H → D.nx σ H
  rt : ∀ d v R H, k.rt d → Grow R0 H0 R H → Dp K R v d → D.rt v H
  rl : ∀ ds p vs R H, k.rl ds → Grow R0 H0 R H → H0 p = none → R p = none → H p = some (.lst vs) → DpAll K R vs ds → D.rt (.ref p) H
  bk : ∀ ρ R σ H, k.bk ρ → At K R0 H0 R ρ σ H → D.bk σ H
  ct : ∀ ρ R σ H, k.ct ρ → At K R0 H0 R ρ σ H → D.ct σ H
def OkW (K : Frag) (W : WX) (ex : Value → En → Prop) (R0 H0 : Hp) : Prop := ∀ c ρ R σ H, ex c ρ → At K R0 H0 R ρ σ H → W c none σ H
/-- the statement leads to k (or lets out what ex says) -/
def Sd (K : Frag) (W : WX) (ex : Value → En → Prop) (ts : TS) (ρ : En) (k : Ko) : Prop := ∀ R0 H0, OkW K W ex R0 H0 → ∀ R σ H, At K R0 H0 R ρ σ H → ∀ D, Meets K R0 H0 k D → ts D σ H
theorem Grow.back {R0 H0 R' H1 R H : Hp} (a : Grow R' H0 R H) (g : Grow R0 H0 R' H1) : Grow R0 H0 R H := ⟨g.rd.trans a.rd, a.hp, a.sub, fun x h n => by
    by_cases q : R' x = none
    · exact a.new x q n
    · exact g.new x h q⟩
theorem OkW.back {K : Frag} {W : WX} {ex : Value → En → Prop} {R0 H0 R' H1 : Hp} (h : OkW K W ex R0 H0) (g : Grow R0 H0 R' H1) : OkW K W ex R' H0 := fun c ρ R σ H e a => h c ρ R σ H e (a.back g)
theorem Meets.back {K : Frag} {R0 H0 R' H1 : Hp} {k : Ko} {D : Ends} (m : Meets K R0 H0 k D) (g : Grow R0 H0 R' H1) : Meets K R' H0 k D where
  nx := fun ρ R σ H e a => m.nx ρ R σ H e (a.back g)
  rt := fun d v R H e a dv => m.rt d v R H e (a.back g) dv
  rl := fun ds p vs R H e a h0 r hp dv => m.rl ds p vs R H e (a.back g) h0 r hp dv
  bk := fun ρ R σ H e a => m.bk ρ R σ H e (a.back g)
  ct := fun ρ R σ H e a => m.ct ρ R σ H e (a.back g)
section
variable {K : Frag} {ρ ρ2 : En} {te ti : TE} {ta : TA} {tt : TT} {t u ts tb : TS} {g : TG} {c : Ct} {d d1 d2 : D} {ds es : List D} {W : WX} {ex : Value → En → Prop} {k : Ko} {x : Value} {i j : Nat}
theorem sd_next (h : k.nx ρ) : Sd K W ex tNext ρ k := fun R0 H0 ok R σ H a D m => m.nx ρ R σ H h a
theorem sd_brk (h : k.bk ρ) : Sd K W ex tBreak ρ k := fun R0 H0 ok R σ H a D m => m.bk ρ R σ H h a
theorem sd_cont (h : k.ct ρ) : Sd K W ex tCont ρ k := fun R0 H0 ok R σ H a D m => m.ct ρ R σ H h a
theorem sd_seq (h : Sd K W ex t ρ { k with nx := fun ρ' => Sd K W ex u ρ' k }) : Sd K W ex (tSeq t u) ρ k := fun R0 H0 ok R σ H a D m =>
  h R0 H0 ok R σ H a _ ⟨fun ρ' R' σ' H' s a' => s R0 H0 ok R' σ' H' a' D m, m.rt, m.rl, m.bk, m.ct⟩
theorem sd_ifS {b : Bool} (hc : EvT K tt ρ b) (h1 : b = true → Sd K W ex t ρ k) (h2 : b = false → Sd K W ex u ρ k) : Sd K W ex (tIfS tt t u) ρ k := fun R0 H0 ok R σ H a D m =>
  hc R0 H0 R σ H a _ fun R1 H1 g1 => by
    cases b with
    | true => exact iteT (h1 rfl R0 H0 ok R1 σ H1 (a.grow g1) D m)
    | false => exact iteF (h2 rfl R0 H0 ok R1 σ H1 (a.grow g1) D m)
theorem sd_set (h : Ev K te ρ d) (hk : k.nx (ρ.set i (.val d))) : Sd K W ex (tAsg te (gName i)) ρ k := fun R0 H0 ok R σ H a D m =>
  h R0 H0 R σ H a _ fun v R1 H1 g1 dv => m.nx _ R1 _ H1 hk ((a.grow g1).set dv)
theorem sd_own (h : EvF K te ρ ds) (hk : k.nx (ρ.set i (.own ds))) : Sd K W ex (tAsg te (gName i)) ρ k := fun R0 H0 ok R σ H a D m =>
  h R0 H0 R σ H a _ fun p vs R1 H1 g1 hn hr hp dv => m.nx _ R1 _ H1 hk ((a.grow g1).set_own hp dv hr (a.gr.hp.free hn) fun j fs _ q z => by
    obtain ⟨p2, vs2, q1, q2, _⟩ := a.own j fs q
    rw [z] at q1
    cases q1
    rw [hn] at q2
    cases q2)
theorem sd_setx (h : EvX K W te ρ x) (he : ex x ρ) : Sd K W ex (tAsg te g) ρ k := fun R0 H0 ok R σ H a D m => h R0 H0 R σ H a _ fun R1 H1 a1 => ok x ρ R1 σ H1 he a1
theorem sd_drop (h : Ev K te ρ d) (hk : k.nx ρ) : Sd K W ex (tDrop te) ρ k := fun R0 H0 ok R σ H a D m =>
  h R0 H0 R σ H a _ fun v R1 H1 g1 dv => m.nx _ R1 _ H1 hk (a.grow g1)
theorem sd_dropf (h : EvF K te ρ ds) (hk : k.nx ρ) : Sd K W ex (tDrop te) ρ k := fun R0 H0 ok R σ H a D m =>
  h R0 H0 R σ H a _ fun p vs R1 H1 g1 hn hr hp dv => m.nx _ R1 _ H1 hk (a.grow g1)
theorem sd_dropx (h : EvX K W te ρ x) (he : ex x ρ) : Sd K W ex (tDrop te) ρ k := fun R0 H0 ok R σ H a D m => h R0 H0 R σ H a _ fun R1 H1 a1 => ok x ρ R1 σ H1 he a1
theorem sd_ret (h : Ev K te ρ d) (hk : k.rt d) : Sd K W ex (tRet te) ρ k := fun R0 H0 ok R σ H a D m =>
  h R0 H0 R σ H a _ fun v R1 H1 g1 dv => m.rt d v R1 H1 hk (a.gr.trans g1) dv
theorem sd_retf (h : EvF K te ρ ds) (hk : k.rl ds) : Sd K W ex (tRet te) ρ k := fun R0 H0 ok R σ H a D m =>
  h R0 H0 R σ H a _ fun p vs R1 H1 g1 hn hr hp dv => m.rl ds p vs R1 H1 hk (a.gr.trans g1) (a.gr.hp.free hn) hr hp dv
theorem sd_retx (h : EvX K W te ρ x) (he : ex x ρ) : Sd K W ex (tRet te) ρ k := fun R0 H0 ok R σ H a D m => h R0 H0 R σ H a _ fun R1 H1 a1 => ok x ρ R1 σ H1 he a1
/-- return told, an own list -/
theorem sd_reto (e : ρ[i]? = some (.own ds)) (hk : k.rl ds) : Sd K W ex (tRet (tVar i)) ρ k := fun R0 H0 ok R σ H a D m => by
  obtain ⟨p, vs, h1, h2, h3, h4, h5⟩ := a.own i ds e
  exact ⟨_, h1, m.rl ds p vs R H hk a.gr h5 h4 h2 h3⟩
theorem sd_retN (hk : k.rt .none) : Sd K W ex tRetN ρ k := fun R0 H0 ok R σ H a D m => m.rt _ _ R H hk a.gr .non
/-- raise C(..) -/
def tRaiseC (W : WX) (C : Addr) : TS := fun _ σ H => W (.ref C) none σ H
theorem sd_raise {C : Addr} (he : ex (.ref C) ρ) : Sd K W ex (tRaiseC W C) ρ k := fun R0 H0 ok R σ H a D m => ok _ ρ R σ H he a
/-- an own list is given up -/
theorem sd_freeze (i : Nat) (e : ρ[i]? = some (.own ds)) (h : Sd K W ex ts (ρ.set i (.val (.list ds))) k) : Sd K W ex ts ρ k := fun R0 H0 ok R σ H a D m => by
  obtain ⟨R', rr, a'⟩ := a.freeze e
  exact h R0 H0 ok R' σ H a' D m
/-- a slot is forgotten -/
theorem Sd.imp {k' : Ko} (h : Sd K W ex ts ρ k) (h1 : ∀ ρ, k.nx ρ → k'.nx ρ) (h2 : ∀ d, k.rt d → k'.rt d) (h3 : ∀ d, k.rl d → k'.rl d) (h4 : ∀ ρ, k.bk ρ → k'.bk ρ) (h5 : ∀ ρ, k.ct ρ → k'.ct ρ) : Sd K W ex ts ρ k' := fun R0 H0 ok R σ H a D m =>
  h R0 H0 ok R σ H a D ⟨fun ρ R σ H q => m.nx ρ R σ H (h1 ρ q), fun d v R H q => m.rt d v R H (h2 d q), fun ds p vs R H q => m.rl ds p vs R H (h3 ds q), fun ρ R σ H q => m.bk ρ R σ H (h4 ρ q), fun ρ R σ H q => m.ct ρ R σ H (h5 ρ q)⟩

/-! ### own lists that change -/
theorem sd_append (e : ρ[i]? = some (.own ds)) (h : Ev K te ρ d) (hl : ds.length ≤ 100000) (hk : k.nx (ρ.set i (.own (ds ++ [d])))) : Sd K W ex (tDrop (tBM K "list" rAppend (tVar i) (tCons te tNil))) ρ k := fun R0 H0 ok R σ H a D m => by
  obtain ⟨p, vs, h1, h2, h3, h4, h5⟩ := a.own i ds e
  refine ⟨_, h1, .inl ⟨rfl, _, SqL.of h2⟩, h R0 H0 R σ H a _ fun v R1 H1 g1 dv => ?_⟩
  have a1 := a.grow g1
  refine ⟨p, vs, v, rfl, rfl, g1.hp _ _ h2, ?_, m.nx _ R1 _ _ hk (a1.put e h1 (dpa_snoc (dpa_mono g1.rd _ _ h3) dv))⟩
  rw [dpa_len h3]
  exact Nat.lt_of_le_of_lt hl (by decide)
theorem sd_pop (e : ρ[i]? = some (.own ds)) (hl : ds ≠ []) (hk : k.nx (ρ.set i (.own ds.dropLast))) : Sd K W ex (tDrop (tBM0 K "list" rPop (tVar i))) ρ k := fun R0 H0 ok R σ H a D m => by
  obtain ⟨p, vs, h1, h2, h3, h4, h5⟩ := a.own i ds e
  refine ⟨_, h1, .inl ⟨rfl, _, SqL.of h2⟩, ?_⟩
  have hv : vs ≠ [] := fun z => by
    subst z
    cases h3
    exact hl rfl
  have hn : vs.length - 1 < vs.length := by
    have := List.length_pos_iff.mpr hv
    omega
  refine ⟨p, vs, vs[vs.length - 1], rfl, rfl, h2, List.getElem?_eq_getElem hn, m.nx _ R _ _ hk (a.put e h1 ?_)⟩
  rw [List.dropLast_eq_take, List.dropLast_eq_take, dpa_len h3]
  exact dpa_take _ h3
theorem sd_extend (e : ρ[i]? = some (.own ds)) (h : EvF K te ρ es) (hl : ds.length + es.length ≤ 100000) (hk : k.nx (ρ.set i (.own (ds ++ es)))) : Sd K W ex (tDrop (tBM K "list" rExtend (tVar i) (tCons te tNil))) ρ k := fun R0 H0 ok R σ H a D m => by
  obtain ⟨p, vs, h1, h2, h3, h4, h5⟩ := a.own i ds e
  refine ⟨_, h1, .inl ⟨rfl, _, SqL.of h2⟩, h R0 H0 R σ H a _ fun b ws R1 H1 g1 hn hr hp dv => ?_⟩
  have a1 := a.grow g1
  refine ⟨p, b, vs, ws, rfl, rfl, g1.hp _ _ h2, hp, ?_, m.nx _ R1 _ _ hk (a1.put e h1 (dpa_append (dpa_mono g1.rd _ _ h3) dv))⟩
  rw [dpa_len h3, dpa_len dv]
  exact Nat.le_trans hl (by decide)
/-- x[i] = e, x an own list -/
theorem sd_put {n : Int} {q : Nat} (e : ρ[i]? = some (.own ds)) (h : Ev K te ρ d) (hi : Ev K ti ρ (.int n)) (hn : ixN ds.length n = some q) (hk : k.nx (ρ.set i (.own (ds.set q d)))) : Sd K W ex (tAsg te (gSub (tVar i) ti rSetL)) ρ k := fun R0 H0 ok R σ H a D m =>
  h R0 H0 R σ H a _ fun v R1 H1 g1 dv => by
    have a1 := a.grow g1
    obtain ⟨p, vs, h1, h2, h3, h4, h5⟩ := a1.own i ds e
    refine ⟨_, h1, hi R0 H0 R1 σ H1 a1 _ fun w R2 H2 g2 dw => ?_⟩
    cases dw
    exact ⟨p, vs, n, q, rfl, rfl, g2.hp _ _ h2, by rw [dpa_len h3]; exact hn, m.nx _ R2 _ _ hk ((a1.grow g2).put e h1 (dpa_set q (dpa_mono g2.rd _ _ h3) (dp_mono g2.rd _ _ dv)))⟩

/-! ### while -/
theorem sd_while (Inv : En → Prop) (μ : En → Nat) (h0 : Inv ρ)
    (hs : ∀ ρ', Inv ρ' → ∃ b, EvT K tt ρ' b ∧ (b = true → Sd K W ex tb ρ' { k with nx := fun r => Inv r ∧ μ r < μ ρ', ct := fun r => Inv r ∧ μ r < μ ρ', bk := k.nx }) ∧ (b = false → k.nx ρ')) : Sd K W ex (tWhile tt tb) ρ k := fun R0 H0 ok R σ H a D m => by
  refine ⟨fun n σ' H' => ∃ ρ' R', n = μ ρ' ∧ Inv ρ' ∧ At K R0 H0 R' ρ' σ' H', ⟨_, ρ, R, rfl, h0, a⟩, ?_⟩
  rintro n σ' H' ⟨ρ', R', rfl, w, a'⟩
  obtain ⟨b, hb, h1, h2⟩ := hs ρ' w
  refine hb R0 H0 R' σ' H' a' _ fun R2 H2 g2 => ?_
  have a2 := a'.grow g2
  cases b with
  | true =>
    refine iteT ⟨fun σ3 H3 => ∃ ρ3 R3, (Inv ρ3 ∧ μ ρ3 < μ ρ') ∧ At K R0 H0 R3 ρ3 σ3 H3, fun σ3 H3 ⟨ρ3, R3, ⟨w3, l3⟩, a3⟩ => ⟨_, l3, ρ3, R3, rfl, w3, a3⟩, ?_⟩
    exact h1 rfl R0 H0 ok R2 σ' H2 a2 _ ⟨fun r R3 σ3 H3 q a3 => ⟨r, R3, q, a3⟩, m.rt, m.rl, m.nx, fun r R3 σ3 H3 q a3 => ⟨r, R3, q, a3⟩⟩
  | false => exact iteF (m.nx _ _ _ _ (h2 rfl) a2)

/-! ### for -/
def Yl (K : Frag) (J : It) (R' : Hp) (ds : List D) : Prop := ∀ R2 H2, Same R' R2 → Same R2 H2 → (∀ i d, ds[i]? = some d → J.go i H2 ∧ ∀ x H3, J.yld i H2 x H3 → ∃ R3, Grow R2 H2 R3 H3 ∧ Dp K R3 x d) ∧ J.stop ds.length H2
/-- what is walked: the data ds, one by one -/
def Id (K : Frag) (wi : TI) (ρ : En) (ds : List D) : Prop := ∀ R0 H0 R σ H, At K R0 H0 R ρ σ H → ∀ Rr : It → Hp → Prop, (∀ J R' H', Grow R H R' H' → Yl K J R' ds → Rr J H') → wi σ H Rr
def Gd (K : Frag) (g : TG) (d : D) (ρ ρ2 : En) : Prop := ∀ R0 H0 R v σ H, At K R0 H0 R ρ σ H → Dp K R v d → ∀ Q : L2.St → Hp → Prop, (∀ σ', At K R0 H0 R ρ2 σ' H → Q σ' H) → g v σ H Q
theorem gd_name : Gd K (gName i) d ρ (ρ.set i (.val d)) := fun R0 H0 R v σ H a dv Q q => q _ (a.set dv)
theorem gd_tup2 {ρ1 ρ3 : En} {g1 g2 : TG} (h1 : Gd K g1 d1 ρ ρ1) (h2 : Gd K g2 d2 ρ1 ρ3) : Gd K (gTup K 2 (gCons g1 (gCons g2 gNil))) (.tuple [d1, d2]) ρ ρ3 := fun R0 H0 R v σ H a dv Q q => by
  cases dv with
  | tup hs ha =>
    cases ha with
    | cons e1 ha =>
      cases ha with
      | cons e2 ha =>
        cases ha
        exact ⟨_, _, rfl, sqt_mono a.gr.sub hs, rfl, _, _, rfl, h1 R0 H0 R _ σ H a e1 _ fun σ1 a1 => ⟨_, _, rfl, h2 R0 H0 R _ σ1 H a1 e2 _ fun σ2 a2 => ⟨rfl, q σ2 a2⟩⟩⟩
theorem gd_tup3 {d3 : D} {ρ1 ρ3 ρ4 : En} {g1 g2 g3 : TG} (h1 : Gd K g1 d1 ρ ρ1) (h2 : Gd K g2 d2 ρ1 ρ3) (h3 : Gd K g3 d3 ρ3 ρ4) : Gd K (gTup K 3 (gCons g1 (gCons g2 (gCons g3 gNil)))) (.tuple [d1, d2, d3]) ρ ρ4 := fun R0 H0 R v σ H a dv Q q => by
  cases dv with
  | tup hs ha =>
    cases ha with
    | cons e1 ha =>
      cases ha with
      | cons e2 ha =>
        cases ha with
        | cons e3 ha =>
          cases ha
          exact ⟨_, _, rfl, sqt_mono a.gr.sub hs, rfl, _, _, rfl, h1 R0 H0 R _ σ H a e1 _ fun σ1 a1 => ⟨_, _, rfl, h2 R0 H0 R _ σ1 H a1 e2 _ fun σ2 a2 => ⟨_, _, rfl, h3 R0 H0 R _ σ2 H a2 e3 _ fun σ3 a3 => ⟨rfl, q σ3 a3⟩⟩⟩⟩
theorem sd_asg (h : Ev K te ρ d) (hg : Gd K g d ρ ρ2) (hk : k.nx ρ2) : Sd K W ex (tAsg te g) ρ k := fun R0 H0 ok R σ H a D m =>
  h R0 H0 R σ H a _ fun v R1 H1 g1 dv => hg R0 H0 R1 v σ H1 (a.grow g1) dv _ fun σ' a' => m.nx _ R1 _ H1 hk a'
/-- a, b = x, y -/
theorem sd_par (h : EvA K ta ρ [d1, d2]) (hk : k.nx ((ρ.set i (.val d1)).set j (.val d2))) : Sd K W ex (tPar i j ta) ρ k := fun R0 H0 ok R σ H a D m =>
  h R0 H0 R σ H a _ fun vs R1 H1 g1 dv => by
    cases dv with
    | cons e1 dv =>
      cases dv with
      | cons e2 dv =>
        cases dv
        exact ⟨_, _, rfl, m.nx _ R1 _ H1 hk (((a.grow g1).set e1).set e2)⟩
theorem sd_for {wi : TI} (Inv : Nat → En → Prop) (hI : Id K wi ρ ds) (h0 : Inv 0 ρ)
    (hs : ∀ i d ρ', ds[i]? = some d → Inv i ρ' → ∃ ρ2, Gd K g d ρ' ρ2 ∧ Sd K W ex tb ρ2 { k with nx := Inv (i + 1), ct := Inv (i + 1), bk := k.nx }) (hd : ∀ ρ', Inv ds.length ρ' → k.nx ρ') : Sd K W ex (tFor wi g tb) ρ k := fun R0 H0 ok R σ H a D m => by
  refine hI R0 H0 R σ H a _ fun J R' H' gr yl => ?_
  refine ⟨fun i n σ' H2 => n = ds.length - i ∧ i ≤ ds.length ∧ ∃ ρ' R2, Inv i ρ' ∧ At K R0 H0 R2 ρ' σ' H2 ∧ Same R' R2, ⟨ds.length, by simp, Nat.zero_le _, ρ, R', h0, a.grow gr, Same.refl _⟩, ?_⟩
  rintro i n σ' H2 ⟨rfl, hi, ρ', R2, w, a2, s2⟩
  obtain ⟨y1, y2⟩ := yl R2 H2 s2 a2.gr.sub
  by_cases hlt : i < ds.length
  · obtain ⟨go, yld⟩ := y1 i ds[i] (List.getElem?_eq_getElem hlt)
    refine .inr ⟨go, fun σ3 H3 => ∃ ρ3 R3, Inv (i + 1) ρ3 ∧ At K R0 H0 R3 ρ3 σ3 H3 ∧ Same R' R3, fun σ3 H3 ⟨ρ3, R3, w3, a3, s3⟩ => ⟨ds.length - (i + 1), by omega, rfl, hlt, ρ3, R3, w3, a3, s3⟩, fun x H3 y => ?_⟩
    obtain ⟨R3, g3, dx⟩ := yld x H3 y
    obtain ⟨ρ2, hg, hb⟩ := hs i ds[i] ρ' (List.getElem?_eq_getElem hlt) w
    have a3 := a2.grow g3
    refine hg R0 H0 R3 x σ' H3 a3 dx _ fun σ4 a4 => ?_
    have G := a3.gr
    refine hb R3 H0 (ok.back G) R3 σ4 H3 (a4.later G (Same.refl _)) _ ⟨fun r R5 σ5 H5 q a5 => ⟨r, R5, q, a5.back G, (s2.trans g3.rd).trans a5.gr.rd⟩, (m.back G).rt, (m.back G).rl, fun r R5 σ5 H5 q a5 => m.nx r R5 σ5 H5 q (a5.back G), fun r R5 σ5 H5 q a5 => ⟨r, R5, q, a5.back G, (s2.trans g3.rd).trans a5.gr.rd⟩⟩
  · have e : i = ds.length := by omega
    subst e
    exact .inl ⟨y2, m.nx _ _ _ _ (hd ρ' w) a2⟩

/-! ### what is walked -/
theorem id_list (h : Ev K te ρ (.list ds)) : Id K (iList K te) ρ ds := fun R0 H0 R σ H a Rr q => h R0 H0 R σ H a _ fun v R1 H1 g1 dv => by
  cases dv with
  | lst hs ha =>
    rename_i p vs
    refine ⟨p, rfl, ⟨_, g1.sub.seq hs⟩, q _ R1 H1 g1 fun R2 H2 s2 sh => ⟨fun i d e => ?_, ⟨vs, sh.seq (s2.seq hs), Nat.le_of_eq (dpa_len ha)⟩⟩⟩
    obtain ⟨v, h1, h2⟩ := dpa_get ha e
    refine ⟨⟨vs, v, sh.seq (s2.seq hs), h1⟩, fun x H3 y => ?_⟩
    obtain ⟨rfl, y⟩ := y
    have z := y vs (sh.seq (s2.seq hs))
    rw [h1] at z
    cases z
    exact ⟨R2, Grow.refl sh, dp_mono s2 _ _ h2⟩
theorem id_tup (h : Ev K te ρ (.tuple ds)) : Id K (iTup K te) ρ ds := fun R0 H0 R σ H a Rr q => h R0 H0 R σ H a _ fun v R1 H1 g1 dv => by
  cases dv with
  | tup hs ha =>
    rename_i p vs
    refine ⟨p, rfl, ⟨_, sqt_mono g1.sub hs⟩, q _ R1 H1 g1 fun R2 H2 s2 sh => ⟨fun i d e => ?_, ⟨vs, sqt_mono sh (sqt_mono s2 hs), Nat.le_of_eq (dpa_len ha)⟩⟩⟩
    obtain ⟨v, h1, h2⟩ := dpa_get ha e
    refine ⟨⟨vs, v, sqt_mono sh (sqt_mono s2 hs), h1⟩, fun x H3 y => ?_⟩
    obtain ⟨rfl, y⟩ := y
    have z := y vs (sqt_mono sh (sqt_mono s2 hs))
    rw [h1] at z
    cases z
    exact ⟨R2, Grow.refl sh, dp_mono s2 _ _ h2⟩
def rangeD (lo : Int) (n : Nat) : List D := (List.range n).map fun i : Nat => .int (lo + (i : Int))
theorem rangeD_len {lo : Int} {n : Nat} : (rangeD lo n).length = n := by unfold rangeD; rw [List.length_map, List.length_range]
theorem rangeD_get {lo : Int} {n i : Nat} {d : D} (h : (rangeD lo n)[i]? = some d) : i < n ∧ d = .int (lo + (i : Int)) := by
  unfold rangeD at h
  rw [List.getElem?_map] at h
  have hl : i < n := by
    by_cases z : i < n
    · exact z
    · rw [List.getElem?_eq_none (by rw [List.length_range]; omega)] at h
      cases h
  rw [List.getElem?_range hl] at h
  exact ⟨hl, (Option.some.inj h).symm⟩
theorem yl_range {lo : Int} {n : Nat} {R : Hp} : Yl K (Itr lo n) R (rangeD lo n) := fun R2 H2 s2 sh => by
  refine ⟨fun i d e => ?_, by rw [rangeD_len]; exact Nat.le_refl n⟩
  obtain ⟨hl, rfl⟩ := rangeD_get e
  refine ⟨hl, fun x H3 y => ?_⟩
  obtain ⟨rfl, rfl⟩ := y
  exact ⟨R2, Grow.refl sh, .int _⟩
theorem id_rng1 {j : Int} (h : EvA K ta ρ [.int j]) (h1 : -(2 ^ 62) ≤ j) (h2 : j < 2 ^ 62) : Id K (iRng1 ta) ρ (rangeD 0 j.toNat) := fun R0 H0 R σ H a Rr q => h R0 H0 R σ H a _ fun vs R1 H1 g1 dv => by
  cases dv with
  | cons e1 dv =>
    cases dv
    cases e1
    exact ⟨j, rfl, h1, h2, q _ R1 H1 g1 yl_range⟩
theorem id_rng2 {i j : Int} (h : EvA K ta ρ [.int i, .int j]) (h1 : -(2 ^ 62) ≤ i ∧ i < 2 ^ 62 ∧ -(2 ^ 62) ≤ j ∧ j < 2 ^ 62) : Id K (iRng2 ta) ρ (rangeD i (j - i).toNat) := fun R0 H0 R σ H a Rr q => h R0 H0 R σ H a _ fun vs R1 H1 g1 dv => by
  cases dv with
  | cons e1 dv =>
    cases dv with
    | cons e2 dv =>
      cases dv
      cases e1; cases e2
      exact ⟨i, j, rfl, h1, q _ R1 H1 g1 yl_range⟩
/-- range with a step -/
def rangeC (lo c : Int) (n : Nat) : List D := (List.range n).map fun i : Nat => .int (lo + (i : Int) * c)
theorem rangeC_len {lo c : Int} {n : Nat} : (rangeC lo c n).length = n := by unfold rangeC; rw [List.length_map, List.length_range]
theorem rangeC_get {lo c : Int} {n i : Nat} {d : D} (h : (rangeC lo c n)[i]? = some d) : i < n ∧ d = .int (lo + (i : Int) * c) := by
  unfold rangeC at h
  rw [List.getElem?_map] at h
  have hl : i < n := by
    by_cases z : i < n
    · exact z
    · rw [List.getElem?_eq_none (by rw [List.length_range]; omega)] at h
      cases h
  rw [List.getElem?_range hl] at h
  exact ⟨hl, (Option.some.inj h).symm⟩
theorem id_rng3 {i j c : Int} {n : Nat} (h : EvA K ta ρ [.int i, .int j, .int c]) (h1 : RgC i j c n) : Id K (iRng3 ta) ρ (rangeC i c n) := fun R0 H0 R σ H a Rr q => h R0 H0 R σ H a _ fun vs R1 H1 g1 dv => by
  cases dv with
  | cons e1 dv =>
    cases dv with
    | cons e2 dv =>
      cases dv with
      | cons e3 dv =>
        cases dv
        cases e1; cases e2; cases e3
        refine ⟨i, j, c, n, rfl, h1, q _ R1 H1 g1 fun R2 H2 s2 sh => ⟨fun m d e => ?_, by rw [rangeC_len]; exact Nat.le_refl n⟩⟩
        obtain ⟨hl, rfl⟩ := rangeC_get e
        refine ⟨hl, fun x H3 y => ?_⟩
        obtain ⟨rfl, rfl⟩ := y
        exact ⟨R2, Grow.refl sh, .int _⟩
end

/-! ### a def's body -/
theorem at_start {K : Frag} {R H : Hp} {vs : List V} {ds : List D} {N : List Str} (s : Same R H) (h : DpAll K R vs ds) : At K R H R (ds.map Sl.val ++ List.replicate (N.length - ds.length) Sl.un) (L2.start N vs) H := by
  have hl := dpa_len h
  have key : ∀ (i : Nat) (x : Sl), (ds.map Sl.val ++ List.replicate (N.length - ds.length) Sl.un)[i]? = some x → x = .un ∨ ∃ d, x = .val d ∧ ds[i]? = some d := fun i x q => by
    by_cases hi : i < ds.length
    · rw [List.getElem?_append_left (by rw [List.length_map]; exact hi), List.getElem?_map, List.getElem?_eq_getElem hi] at q
      exact .inr ⟨ds[i], (Option.some.inj q).symm, List.getElem?_eq_getElem hi⟩
    · rw [List.getElem?_append_right (by rw [List.length_map]; omega), List.getElem?_replicate] at q
      split at q
      · exact .inl (Option.some.inj q).symm
      · cases q
  refine ⟨Grow.refl s, ?_, fun i d q => ?_, fun i es q => ?_, fun i v q => ?_, fun i j p es fs _ q => ?_⟩
  · unfold L2.start
    rw [List.length_append, List.length_append, List.length_map, List.length_map, List.length_replicate, List.length_replicate, hl]
  · rcases key i _ q with z | ⟨e, z, g⟩
    · cases z
    · cases z
      obtain ⟨v, h1, h2⟩ := dpa_get h g
      refine ⟨v, ?_, h2⟩
      unfold L2.start
      have hi : i < vs.length := (List.getElem?_eq_some_iff.mp h1).1
      rw [List.getElem?_append_left (by rw [List.length_map]; exact hi), List.getElem?_map, h1]
      rfl
  · rcases key i _ q with z | ⟨e, z, g⟩ <;> cases z
  · rcases key i _ q with z | ⟨e, z, g⟩ <;> cases z
  · rcases key i _ q with z | ⟨e, z, g⟩ <;> cases z
/-- the reading of a def's body from its contract -/
theorem body_of {K : Frag} {c : Ct} {vs : List V} {H : Hp} {Q : VK} {E : XK} {N : List Str} {t : TS} (h : spc K c vs H Q E)
    (hs : ∀ (ds : List D) (k : Kc), c ds k → Sd K (fun cls d _ H => E cls d H) (fun x _ => k.ex x) t (ds.map Sl.val ++ List.replicate (N.length - ds.length) Sl.un) { nx := fun _ => k.rt .none, rt := k.rt, rl := k.rl }) :
    t { nx := fun _ H' => Q .non H', rt := Q } (L2.start N vs) H := by
  obtain ⟨R, ds, k, s, hd, hc, q1, q2, q3⟩ := h
  refine hs ds k hc R H (fun x ρ R' σ H' hx a => q3 x R' H' hx a.gr) R _ H (at_start s hd) _ ⟨fun ρ R' σ H' hr a => q1 _ _ R' H' hr a.gr .non, fun d v R' H' hr g dv => q1 d v R' H' hr g dv, fun es p vs' R' H' hr g hn hr' hp dv => q2 es p vs' R' H' hr g hn hr' hp dv, fun _ _ _ _ q => q.elim, fun _ _ _ _ q => q.elim⟩
theorem spc_len {K : Frag} {c : Ct} {n : Nat} (h : ∀ ds k, c ds k → ds.length = n) : ∀ vs H Q E, spc K c vs H Q E → vs.length = n := fun vs H Q E ⟨R, ds, k, s, hd, hc, _⟩ => (dpa_len hd).trans (h ds k hc)
end Pu

set_option maxRecDepth 100000
namespace Pu
open PySem PySem.Spec PyProof.Rows L2
/-! ### rules over the machine, with names for their readings -/
def CDivX (i j : Int) : Prop := j ≠ 0 ∧ j.natAbs.log2 < 9000
def CPowW (i j : Int) : Prop := 0 ≤ j ∧ (Builtin.Int.intBits i : Int) * j ≤ 2 ^ 27
def CMulB (i j : Int) : Prop := i.natAbs.log2 + j.natAbs.log2 < 100000000
theorem CMulB.ok {i j : Int} (h : CMulB i j) : IntMulOk i j := by
  have b : ∀ x : Int, Builtin.Int.intBits x ≤ x.natAbs.log2 + 1 := fun x => by
    unfold Builtin.Int.intBits
    split <;> omega
  have h1 := b i
  have h2 := b j
  have h3 : i.natAbs.log2 + j.natAbs.log2 < 100000000 := h
  have e : bitsLine = 134217728 := by decide
  unfold IntMulOk
  intro z
  rw [Bool.and_eq_true] at z
  have z2 := z.2
  unfold Builtin.Int.intTooBig at z2
  have z3 := of_decide_eq_true z2
  rw [e] at z3
  omega
def rFdiv : R2 := rI CDivX fun i j => .int (i.fdiv j)
def rMod : R2 := rI (fun _ j => j ≠ 0) fun i j => .int (i.fmod j)
def rMul : R2 := rI CMulB fun i j => .int (i * j)
def rPow : R2 := rI CPowW fun i j => .int (i ^ j.toNat)
def rAdd : R2 := rI0 fun i j => .int (i + j)
def rSub : R2 := rI0 fun i j => .int (i - j)
def rLt : R2 := rI0 fun i j => .bl (decide (i < j))
def rLe : R2 := rI0 fun i j => .bl (decide (i ≤ j))
def rGt : R2 := rI0 fun i j => .bl (decide (j < i))
def rGe : R2 := rI0 fun i j => .bl (decide (j ≤ i))
def rNeg : V → Hp → VK → Prop := rU fun i => .int (-i)
def rIsNn : R2 := fun x y H Q => y = .non ∧ Q (.bl (decide (x = .non))) H
def rNotNn : R2 := fun x y H Q => y = .non ∧ Q (.bl (!decide (x = .non))) H
def rLen (K : Frag) : List V → Hp → VK → Prop := fun xs H Q => ∃ p ys, xs = [.ref p] ∧ (SqL K H p ys ∨ SqT K H p ys) ∧ Q (.int ys.length) H
def rAbs : List V → Hp → VK → Prop := fun xs H Q => ∃ i, xs = [.int i] ∧ Q (.int (if i < 0 then -i else i)) H
def rMx2 : List V → Hp → VK → Prop := fun xs H Q => ∃ i j, xs = [.int i, .int j] ∧ Q (.int (if j > i then j else i)) H
def rMn2 : List V → Hp → VK → Prop := fun xs H Q => ∃ i j, xs = [.int i, .int j] ∧ Q (.int (if j < i then j else i)) H
def rLst (K : Frag) : List V → Hp → VK → Prop := fun xs H Q => ∃ p ys, xs = [.ref p] ∧ (SqL K H p ys ∨ SqT K H p ys) ∧ ∀ l, H l = none → Q (.ref l) (upd H l (.lst ys))
def rTpl (K : Frag) : List V → Hp → VK → Prop := fun xs H Q => ∃ p ys, xs = [.ref p] ∧ ((SqL K H p ys ∧ ∀ l, H l = none → Q (.ref l) (upd H l (.tup ys))) ∨ (SqT K H p ys ∧ Q (.ref p) H))
def rInsert : V → List V → Hp → VK → Prop := fun x vs H Q => ∃ (l : Addr) (xs : List V) (i : Int) (y : V), x = .ref l ∧ vs = [.int i, y] ∧ H l = some (.lst xs) ∧ xs.length < sizeLine ∧ 0 ≤ i ∧ i < 2 ^ 63 ∧
    Q .non (upd H l (.lst (xs.take i.toNat ++ [y] ++ xs.drop i.toNat)))
section
variable {X : Cx}
theorem o_fdiv : OpR X (binaryOp .FloorDiv) rFdiv := opI fun i j _ _ _ _ _ hc q => floordiv_int hc.1 q (.inl (PyProof.noPylong_of_log2 hc.2))
theorem o_mod : OpR X (binaryOp .Mod) rMod := op_modN
theorem o_mul : OpR X (binaryOp .Mult) rMul := opI fun _ _ _ _ _ _ _ hc q => mul_int q hc.ok
theorem o_pow : OpR X (binaryOp .Pow) rPow := opI fun _ _ _ _ _ _ _ hc q => pow_int hc.1 hc.2 q
theorem o_add : OpR X (binaryOp .Add) rAdd := op_add
theorem o_sub : OpR X (binaryOp .Sub) rSub := op_sub
theorem o_lt : OpR X (compareOp .Lt) rLt := op_lt
theorem o_le : OpR X (compareOp .LtE) rLe := op_le
theorem o_gt : OpR X (compareOp .Gt) rGt := op_gt
theorem o_ge : OpR X (compareOp .GtE) rGe := op_ge
theorem o_neg : UnR X (unaryOp .USub) rNeg := un_neg
theorem o_isN : OpR X (compareOp .Is) rIsNn := op_isN
theorem o_notN : OpR X (compareOp .IsNot) rNotNn := op_notN
theorem c_len : CallR X (.builtin "len") (rLen X.K) := call_len_seq
theorem c_abs : CallR X (.builtin "abs") rAbs := call_abs
theorem c_max2 (hc : X.calm = true) : CallR X (.builtin "max") rMx2 := call_max2 hc
theorem c_min2 (hc : X.calm = true) : CallR X (.builtin "min") rMn2 := call_min2 hc
theorem c_list : CallR X (.type "list") (rLst X.K) := call_list_of
theorem c_tuple : CallR X (.type "tuple") (rTpl X.K) := call_tuple_of
theorem m_insert : MtR X "list.insert" rInsert := mt_insert
/-- raise C('..') -/
theorem ps_raiseC {W : WX} {C : Addr} {x m : Str} {j : Nat} {p p2 pos pos2 : Pos} (hc : X.calm = true) (tk : Takes X W) (q : PySem.W.excIn X.K C [.type "ValueError", .type "Exception", .type "BaseException", .type "object"] "ValueError.__new__" = true) (gC : X.mg x = some (.ref C))
    (kC : PySem.W.keepIn X.K (.ref C) = true) (h1 : PySem.W.subIn X.K (.ref C) (.type "BaseException") = some true) (h2 : PySem.W.typeIn X.K (.ref C) = some (.type "type")) (hg : Gl X x) (hdb : (x == ("__debug__" : Str)) = false := by decide) :
    PS X (.Raise (some (.Call (.Name x p) [.Constant (.str m) j p2] [] pos)) none pos2) (tRaiseC W C) :=
  ps_raise hc tk (pmk_own PySem.F.excBase_ValueError q gC kC (raises_own h1 h2) hg hdb)
/-- over a list or a tuple -/
def iSeq (K : Frag) (tl : TE) : TI := fun σ H R => tl σ H fun x H1 => ∃ a, x = .ref a ∧ (((∃ xs, SqL K H1 a xs) ∧ R (Itl K a) H1) ∨ ((∃ xs, SqT K H1 a xs) ∧ R (Itt K a) H1))
theorem pi_seq {tg l : Expr} {tl : TE} (hl : PE X l tl) : PI X tg l (iSeq X.K tl) := by
  refine ⟨fun pins s σ H R I h => ?_⟩
  refine thn (hl.run pins s σ H _ I h) fun v s1 ⟨x, H1, I1, r1, q1⟩ => ?_
  obtain ⟨a, e, q⟩ := q1
  subst e
  cases r1
  rcases q with ⟨⟨xs, hq⟩, q⟩ | ⟨⟨xs, hq⟩, q⟩
  · obtain ⟨its, rv, p, hz⟩ := I1.list hq
    refine wpAny_pyIter_list p.isList ?_
    refine ⟨s1.heap.objs.size, [s1.heap.objs.size], _, _, H1, rfl, I1.kept (t' := s1.toks) fun b o e => Heap.get?_push_of_some _ e, turn_list a _, ⟨_, Heap.get?_push_size _ rfl, rfl, rfl⟩, fun b hb => ?_, q⟩
    have e : b = s1.heap.objs.size := by simpa using hb
    subst e
    exact I1.fpOk (Nat.le_refl _) (I1.hok.fresh (Nat.le_refl _))
  · obtain ⟨its, rv, p, hz⟩ := I1.tuple hq
    refine wpAny_pyIter_tuple (show s1.heap.IsTuple a its.toArray from p) ?_
    refine ⟨s1.heap.objs.size, [s1.heap.objs.size], _, _, H1, rfl, I1.kept (t' := s1.toks) fun b o e => Heap.get?_push_of_some _ e, turn_tuple a _, ⟨_, Heap.get?_push_size _ rfl, rfl, rfl⟩, fun b hb => ?_, q⟩
    have e : b = s1.heap.objs.size := by simpa using hb
    subst e
    exact I1.fpOk (Nat.le_refl _) (I1.hok.fresh (Nat.le_refl _))
end
/-- isinstance(e, (C, ..)), e the exception that the suite holds, the tuple just laid -/
def rIsET (K : Frag) (D a : Addr) : List V → Hp → VK → Prop := fun xs H Q => ∃ (tp : Addr) (cs : List V) (us : List Value) (b : Bool), xs = [.ref a, .ref tp] ∧ H tp = some (.tup cs) ∧ Paired ClsV cs us ∧ PySem.W.kitAny K (.ref D) us = some b ∧ Q (.bl b) H
theorem c_isET {X : Cx} {a D : Addr} {oe : Obj} {pn : List (Addr × Obj)} (C : ExcC X.K D) (hz : Zc (.ref D) none oe) (hf : ∃ vs, oe.data = .fields vs) : CallR (X.suite a ((a, oe) :: pn)) (.builtin "isinstance") (rIsET X.K D a) := by
  intro pins s σ H xs us Q I r h
  obtain ⟨tp, cs, ws, b, rfl, hT, k, e, q⟩ := h
  obtain ⟨u1, u2, rfl, r1, r2⟩ := vals2 r
  cases (show u1 = Value.ref a from r1)
  cases (show u2 = Value.ref tp from r2)
  obtain ⟨_, its, rv, o, h1, h2, n, h3⟩ := (show ObjOk X.prog X.w H s.heap tp (.tup cs) from I.hok tp _ hT)
  have e3 := ClsV.all k rv
  subst e3
  obtain ⟨hget, _⟩ := I.pin (a, oe) (List.mem_append.mpr (.inl List.mem_cons_self))
  obtain ⟨vs, hv⟩ := hf
  have J : PySem.W.InstAt s.heap a oe D none := by
    obtain ⟨oc, od, oda, osl⟩ := oe
    obtain ⟨h1, h2⟩ := hz
    dsimp only at h1 h2 hv
    subst h1 h2 hv
    exact ⟨hget, rfl, rfl, trivial⟩
  obtain ⟨oc, od, oda, osl⟩ := o
  dsimp only at h2 h3
  subst h2 h3
  exact PySem.W.kia_tup (PySem.W.handS_kitx_exc C.hg C.hk C.hs C.hd C.ha C.hn C.ht C.hm) I.kIn J h1 e (fun z => nomatch z) fun tk => ⟨.bl b, H, I.kept (t' := tk) fun _ _ z => z, rfl, q⟩

/-! ### their values over data -/
section
variable {K : Frag} {ρ : En} {ta tb tc te : TE} {tr : TA} {d d1 d2 : D} {ds es : List D}
theorem v_add {i j : Int} (ha : Ev K ta ρ (.int i)) (hb : Ev K tb ρ (.int j)) : Ev K (tOp rAdd ta tb) ρ (.int (i + j)) := ev_I0 ha hb fun R => .int _
theorem v_sub {i j : Int} (ha : Ev K ta ρ (.int i)) (hb : Ev K tb ρ (.int j)) : Ev K (tOp rSub ta tb) ρ (.int (i - j)) := ev_I0 ha hb fun R => .int _
theorem v_mul {i j : Int} (ha : Ev K ta ρ (.int i)) (hb : Ev K tb ρ (.int j)) (hc : CMulB i j) : Ev K (tOp rMul ta tb) ρ (.int (i * j)) := ev_I ha hb hc fun R => .int _
theorem v_fdiv {i j : Int} (ha : Ev K ta ρ (.int i)) (hb : Ev K tb ρ (.int j)) (hc : CDivX i j) : Ev K (tOp rFdiv ta tb) ρ (.int (i.fdiv j)) := ev_I ha hb hc fun R => .int _
theorem v_mod {i j : Int} (ha : Ev K ta ρ (.int i)) (hb : Ev K tb ρ (.int j)) (hc : j ≠ 0) : Ev K (tOp rMod ta tb) ρ (.int (i.fmod j)) := ev_I ha hb hc fun R => .int _
theorem v_div {i j : Int} (ha : Ev K ta ρ (.int i)) (hb : Ev K tb ρ (.int j)) (h0 : 0 < j) (hc : j.natAbs.log2 < 9000) : Ev K (tOp rFdiv ta tb) ρ (.int (i / j)) := ev_I ha hb ⟨by omega, hc⟩ fun R => by
  rw [Int.fdiv_eq_ediv_of_nonneg i (by omega)]
  exact .int _
theorem v_emod {i j : Int} (ha : Ev K ta ρ (.int i)) (hb : Ev K tb ρ (.int j)) (h0 : 0 < j) : Ev K (tOp rMod ta tb) ρ (.int (i % j)) := ev_I ha hb (by omega) fun R => by
  rw [Int.fmod_eq_emod_of_nonneg i (by omega)]
  exact .int _
theorem v_pow {i j : Int} (ha : Ev K ta ρ (.int i)) (hb : Ev K tb ρ (.int j)) (hc : CPowW i j) : Ev K (tOp rPow ta tb) ρ (.int (i ^ j.toNat)) := ev_I ha hb hc fun R => .int _
theorem v_neg {i : Int} (ha : Ev K ta ρ (.int i)) : Ev K (tUn rNeg ta) ρ (.int (-i)) := ev_neg ha
theorem v_lt {i j : Int} (ha : Ev K ta ρ (.int i)) (hb : Ev K tb ρ (.int j)) : Ev K (tOp rLt ta tb) ρ (.bool (decide (i < j))) := ev_I0 ha hb fun R => .bl _
theorem v_le {i j : Int} (ha : Ev K ta ρ (.int i)) (hb : Ev K tb ρ (.int j)) : Ev K (tOp rLe ta tb) ρ (.bool (decide (i ≤ j))) := ev_I0 ha hb fun R => .bl _
theorem v_gt {i j : Int} (ha : Ev K ta ρ (.int i)) (hb : Ev K tb ρ (.int j)) : Ev K (tOp rGt ta tb) ρ (.bool (decide (j < i))) := ev_I0 ha hb fun R => .bl _
theorem v_ge {i j : Int} (ha : Ev K ta ρ (.int i)) (hb : Ev K tb ρ (.int j)) : Ev K (tOp rGe ta tb) ρ (.bool (decide (j ≤ i))) := ev_I0 ha hb fun R => .bl _
theorem v_isN (ha : Ev K ta ρ d) : Ev K (tOp rIsNn ta (tC .non)) ρ (.bool (isNone d)) := ev_isN ha
theorem v_notN (ha : Ev K ta ρ d) : Ev K (tOp rNotNn ta (tC .non)) ρ (.bool (!isNone d)) := ev_notN ha
theorem v_call1 {r : List V → Hp → VK → Prop} (ha : Ev K ta ρ d1) (hr : ∀ R H x, Same R H → Dp K R x d1 → ∀ Q : VK, (∀ v R' H', Grow R H R' H' → Dp K R' v d → Q v H') → r [x] H Q) : Ev K (tCB r (tCons ta tNil)) ρ d :=
  fun R0 H0 R σ H a Q q => ha R0 H0 R σ H a _ fun x R1 H1 g1 dx => hr R1 H1 x g1.sub dx Q fun v R2 H2 g2 dv => q v R2 H2 (g1.trans g2) dv
theorem v_lenT (ha : Ev K ta ρ (.tuple ds)) : Ev K (tCB (rLen K) (tCons ta tNil)) ρ (.int ds.length) := v_call1 ha fun R H x s dx Q q => by
  cases dx with
  | tup hs hall => exact ⟨_, _, rfl, .inr (sqt_mono s hs), by rw [dpa_len hall]; exact q _ R H (Grow.refl s) (.int _)⟩
theorem v_lenL (ha : EvL K ta ρ ds) : Ev K (tCB (rLen K) (tCons ta tNil)) ρ (.int ds.length) := fun R0 H0 R σ H a Q q => ha R0 H0 R σ H a _ fun p vs R1 H1 g1 sq dx =>
  ⟨p, vs, rfl, .inl sq, by rw [dpa_len dx]; exact q _ R1 H1 g1 (.int _)⟩
theorem v_abs {i : Int} (ha : Ev K ta ρ (.int i)) : Ev K (tCB rAbs (tCons ta tNil)) ρ (.int (i.natAbs : Int)) := v_call1 ha fun R H x s dx Q q => by
  cases dx
  refine ⟨i, rfl, ?_⟩
  have e : (if i < 0 then -i else i) = (i.natAbs : Int) := by split <;> omega
  rw [e]
  exact q _ R H (Grow.refl s) (.int _)
theorem v_call2 {r : List V → Hp → VK → Prop} (ha : Ev K ta ρ d1) (hb : Ev K tb ρ d2) (hr : ∀ R H x y, Same R H → Dp K R x d1 → Dp K R y d2 → ∀ Q : VK, (∀ v R' H', Grow R H R' H' → Dp K R' v d → Q v H') → r [x, y] H Q) : Ev K (tCB r (tCons ta (tCons tb tNil))) ρ d :=
  fun R0 H0 R σ H a Q q => ha R0 H0 R σ H a _ fun x R1 H1 g1 dx => hb R0 H0 R1 σ H1 (a.grow g1) _ fun y R2 H2 g2 dy => hr R2 H2 x y g2.sub (dp_mono g2.rd _ _ dx) dy Q fun v R3 H3 g3 dv => q v R3 H3 ((g1.trans g2).trans g3) dv
theorem v_max2 {i j : Int} (ha : Ev K ta ρ (.int i)) (hb : Ev K tb ρ (.int j)) : Ev K (tCB rMx2 (tCons ta (tCons tb tNil))) ρ (.int (max i j)) := v_call2 ha hb fun R H x y s dx dy Q q => by
  cases dx; cases dy
  refine ⟨i, j, rfl, ?_⟩
  have e : (if j > i then j else i) = max i j := by split <;> omega
  rw [e]
  exact q _ R H (Grow.refl s) (.int _)
theorem v_min2 {i j : Int} (ha : Ev K ta ρ (.int i)) (hb : Ev K tb ρ (.int j)) : Ev K (tCB rMn2 (tCons ta (tCons tb tNil))) ρ (.int (min i j)) := v_call2 ha hb fun R H x y s dx dy Q q => by
  cases dx; cases dy
  refine ⟨i, j, rfl, ?_⟩
  have e : (if j < i then j else i) = min i j := by split <;> omega
  rw [e]
  exact q _ R H (Grow.refl s) (.int _)
theorem f_listL (ha : EvL K ta ρ ds) : EvF K (tCB (rLst K) (tCons ta tNil)) ρ ds := fun R0 H0 R σ H a Q q => ha R0 H0 R σ H a _ fun p vs R1 H1 g1 sq dx =>
  ⟨p, vs, rfl, .inl sq, fun l hl => q l vs R1 _ (g1.trans (Grow.hide g1.sub hl)) (g1.hp.free hl) (g1.sub.free hl) upd_same dx⟩
theorem f_listT (ha : Ev K ta ρ (.tuple ds)) : EvF K (tCB (rLst K) (tCons ta tNil)) ρ ds := fun R0 H0 R σ H a Q q => ha R0 H0 R σ H a _ fun x R1 H1 g1 dx => by
  cases dx with
  | tup hs hall => exact ⟨_, _, rfl, .inr (sqt_mono g1.sub hs), fun l hl => q l _ R1 _ (g1.trans (Grow.hide g1.sub hl)) (g1.hp.free hl) (g1.sub.free hl) upd_same hall⟩
theorem v_tupleL (ha : EvL K ta ρ ds) : Ev K (tCB (rTpl K) (tCons ta tNil)) ρ (.tuple ds) := fun R0 H0 R σ H a Q q => ha R0 H0 R σ H a _ fun p vs R1 H1 g1 sq dx =>
  ⟨p, vs, rfl, .inl ⟨sq, fun l hl => q _ _ _ (g1.trans (Grow.alloc g1.sub hl)) (.tup (SqT.of upd_same) (dpa_mono (Grow.alloc g1.sub hl).rd _ _ dx))⟩⟩
theorem v_tupleT (ha : Ev K ta ρ (.tuple ds)) : Ev K (tCB (rTpl K) (tCons ta tNil)) ρ (.tuple ds) := v_call1 ha fun R H x s dx Q q => by
  cases dx with
  | tup hs hall => exact ⟨_, _, rfl, .inr ⟨sqt_mono s hs, q _ R H (Grow.refl s) (.tup hs hall)⟩⟩
/-! ### isinstance -/
def tyName : D → String
  | .none => "NoneType"
  | .bool _ => "bool"
  | .int _ => "int"
  | .str _ => "str"
  | .list _ => "list"
  | .tuple _ => "tuple"
  | .dict _ => "dict"
theorem dp_ty {R H : Hp} {x : V} (s : Same R H) (h : Dp K R x d) : TyX K H x (.type (tyName d)) := by
  cases h with
  | non => exact .base .non
  | bl b => exact .base (.bl b)
  | int i => exact .base (.int i)
  | str x => exact .base (.str x)
  | lst hs ha =>
    rcases s.seq hs with (h | ⟨o, h⟩) | ⟨o, its, n, h, hc, _⟩
    · exact .base (.lst h)
    · exact .base (.frz h)
    · exact .kList h hc
  | tup hs ha =>
    rcases sqt_mono s hs with (h | ⟨o, h⟩) | ⟨o, its, n, h, hc, _⟩
    · exact .base (.tup h)
    · exact .fTuple h
    · exact .kTuple h hc
theorem v_isi {T : String} {b : Bool} (ha : Ev K ta ρ d) (h : kitB (tyName d) T = some b) : Ev K (tCB (rIsi K) (tCons ta (tCons (tC (.ty T)) tNil))) ρ (.bool b) := fun R0 H0 R σ H a Q q => ha R0 H0 R σ H a _ fun x R1 H1 g1 dx =>
  ⟨x, .ty T, _, _, b, rfl, .ty T, dp_ty g1.sub dx, kit_ty h, q _ R1 H1 g1 (.bl b)⟩
/-! ### slices -/
def cutD (ds : List D) (lo hi : Option Int) : List D := (ds.drop (HT.sIx ds.length 0 lo)).take (HT.sIx ds.length ds.length hi - HT.sIx ds.length 0 lo)
theorem o_none : EvO K tNoPart ρ none := fun R0 H0 R σ H a Q q => q R H (Grow.refl a.gr.sub)
theorem o_some {i : Int} (h : Ev K te ρ (.int i)) : EvO K (tPart te) ρ (some i) := fun R0 H0 R σ H a Q q => h R0 H0 R σ H a _ fun v R1 H1 g1 dv => by
  cases dv
  exact ⟨i, rfl, q R1 H1 g1⟩
theorem f_slL {tl th : TO} {lo hi : Option Int} (ha : EvL K te ρ ds) (h1 : EvO K tl ρ lo) (h2 : EvO K th ρ hi) : EvF K (tSl (rSlL K) te tl th) ρ (cutD ds lo hi) := fun R0 H0 R σ H a Q q =>
  ha R0 H0 R σ H a _ fun p vs R1 H1 g1 sq dx => h1 R0 H0 R1 σ H1 (a.grow g1) _ fun R2 H2 g2 => h2 R0 H0 R2 σ H2 (a.grow (g1.trans g2)) _ fun R3 H3 g3 => by
    have g := (g1.trans g2).trans g3
    have g23 := g2.trans g3
    exact ⟨p, vs, rfl, g23.hp.seq sq, fun l hl => q l _ R3 _ (g.trans (Grow.hide g.sub hl)) (g.hp.free hl) (g.sub.free hl) upd_same (dpa_cut (dpa_mono g23.rd _ _ dx) lo hi)⟩
end
/-! ### list comprehensions -/
theorem wipe_get (σ : L2.St) (n : Nat) : ∀ vs : List Nat, (wipe σ vs)[n]? = if n ∈ vs then σ[n]?.map (fun _ => none) else σ[n]?
  | [] => by simp [wipe]
  | v :: vs => by
    unfold wipe
    by_cases e : v = n
    · subst e
      rw [if_pos List.mem_cons_self]
      by_cases hl : v < (wipe σ vs).length
      · rw [List.getElem?_set_self hl]
        rw [wipe_length] at hl
        rw [List.getElem?_eq_getElem hl]
        rfl
      · rw [List.getElem?_eq_none (by rw [List.length_set]; omega)]
        rw [wipe_length] at hl
        rw [List.getElem?_eq_none (by omega)]
        rfl
    · rw [List.getElem?_set_ne e, wipe_get σ n vs]
      by_cases h : n ∈ vs
      · rw [if_pos h, if_pos (List.mem_cons_of_mem _ h)]
      · rw [if_neg h, if_neg (by
          intro z
          rcases List.mem_cons.mp z with z | z
          · exact e z.symm
          · exact h z)]
theorem wipe_set {σ : L2.St} {i : Nat} {v : Option V} {vs : List Nat} (h : i ∈ vs) : wipe (σ.set i v) vs = wipe σ vs := by
  apply List.ext_getElem?
  intro n
  rw [wipe_get, wipe_get]
  by_cases e : n ∈ vs
  · rw [if_pos e, if_pos e]
    by_cases hi : i = n
    · subst hi
      by_cases hl : i < σ.length
      · rw [List.getElem?_set_self hl, List.getElem?_eq_getElem hl]
        rfl
      · rw [List.getElem?_eq_none (by rw [List.length_set]; omega), List.getElem?_eq_none (by omega)]
    · rw [List.getElem?_set_ne hi]
  · rw [if_neg e, if_neg e, List.getElem?_set_ne (fun z => e (by rw [← z]; exact h))]
theorem wipe_wipe {σ : L2.St} {vs : List Nat} : wipe (wipe σ vs) vs = wipe σ vs := by
  apply List.ext_getElem?
  intro n
  rw [wipe_get, wipe_get]
  by_cases e : n ∈ vs
  · rw [if_pos e, if_pos e, Option.map_map]
    rfl
  · rw [if_neg e, if_neg e]
def wipeE (ρ : En) : List Nat → En
  | [] => ρ
  | v :: vs => (wipeE ρ vs).set v .un
section
variable {K : Frag} {ρ : En} {te : TE} {tt : TT} {g : TG} {d d1 d2 : D} {ds es : List D}
theorem At.wipe {R0 H0 R H : Hp} {σ : L2.St} (a : At K R0 H0 R ρ σ H) : ∀ vs : List Nat, At K R0 H0 R (wipeE ρ vs) (L2.wipe σ vs) H
  | [] => a
  | v :: vs => (At.wipe a vs).set_un
/-- the target's names are the comprehension's own -/
def Gw (g : TG) (vs : List Nat) : Prop := ∀ v σ H (Q : L2.St → Hp → Prop), L2.wipe σ vs = σ → g v σ H (fun σ' H' => L2.wipe σ' vs = σ → Q σ' H') → g v σ H (fun σ' H' => L2.wipe σ' vs = σ ∧ Q σ' H')
theorem gw_name {i : Nat} {vs : List Nat} (h : i ∈ vs) : Gw (gName i) vs := fun v σ H Q e q => by
  have z : L2.wipe (σ.set i (some v)) vs = σ := (wipe_set h).trans e
  exact ⟨z, q z⟩
theorem gw_tup2 {i j : Nat} {vs : List Nat} (hi : i ∈ vs) (hj : j ∈ vs) : Gw (gTup K 2 (gCons (gName i) (gCons (gName j) gNil))) vs := fun v σ H Q e q => by
  obtain ⟨a, xs, e1, e2, e3, x, r, e4, y, r2, e5, e6, q⟩ := q
  have z : L2.wipe ((σ.set i (some x)).set j (some y)) vs = σ := (wipe_set hj).trans ((wipe_set hi).trans e)
  exact ⟨a, xs, e1, e2, e3, x, r, e4, y, r2, e5, e6, z, q z⟩
theorem f_lc {wi : TI} {vs : List Nat} (p : D → Bool) (f : D → D) (hI : Id K wi ρ ds) (hw : Gw g vs)
    (hs : ∀ (i : Nat) (d : D), ds[i]? = some d → ∃ ρ2, Gd K g d (wipeE ρ vs) ρ2 ∧ EvT K tt ρ2 (p d) ∧ (p d = true → Ev K te ρ2 (f d))) (hl : ds.length ≤ 100000) : EvF K (tLc wi g tt te vs) ρ ((ds.filter p).map f) := fun R0 H0 R σ H a Q q => by
  refine hI R0 H0 R σ H a _ fun J R' H' gr yl => ?_
  intro Dd hD
  refine ⟨fun i n H2 => n = ds.length - i ∧ i ≤ ds.length ∧ ∃ R2 acc, Grow R' H' R2 H2 ∧ R2 Dd = none ∧ H2 Dd = some (.lst acc) ∧ DpAll K R2 acc (((ds.take i).filter p).map f), ⟨ds.length, by simp, Nat.zero_le _, R', [], Grow.hide gr.sub hD, gr.sub.free hD, upd_same, .nil⟩, ?_⟩
  rintro i n H2 ⟨rfl, hi, R2, acc, g2, r2, h2, da⟩
  obtain ⟨y1, y2⟩ := yl R2 H2 g2.rd g2.sub
  by_cases hlt : i < ds.length
  · have hd : ds[i]? = some ds[i] := List.getElem?_eq_getElem hlt
    obtain ⟨go, yld⟩ := y1 i ds[i] hd
    refine .inr ⟨go, fun H3 => ∃ R3 acc, Grow R' H' R3 H3 ∧ R3 Dd = none ∧ H3 Dd = some (.lst acc) ∧ DpAll K R3 acc (((ds.take (i + 1)).filter p).map f), fun H3 ⟨R3, acc, h⟩ => ⟨ds.length - (i + 1), by omega, rfl, hlt, R3, acc, h⟩, fun x H3 y => ?_⟩
    obtain ⟨R3, g3, dx⟩ := yld x H3 y
    obtain ⟨ρ2, hg, ht, he⟩ := hs i ds[i] hd
    have a3 : At K R0 H0 R3 (wipeE ρ vs) (L2.wipe σ vs) H3 := (a.grow ((gr.trans g2).trans g3)).wipe vs
    refine hw x _ H3 _ wipe_wipe ?_
    refine hg R0 H0 R3 x _ H3 a3 dx _ fun σ4 a4 _ => ?_
    refine ht R0 H0 R3 σ4 H3 a4 _ fun R5 H5 g5 => ?_
    have keepD : ∀ {Rz Hz : Hp}, Grow R2 H2 Rz Hz → Rz Dd = none := fun {Rz Hz} gz => by
      cases e : Rz Dd with
      | none => rfl
      | some o =>
        have z := gz.new Dd r2 (by rw [e]; exact fun z => nomatch z)
        rw [h2] at z
        cases z
    have tk : ds.take (i + 1) = ds.take i ++ [ds[i]] := by rw [List.take_add_one, hd]; rfl
    cases hp : p ds[i] with
    | false =>
      refine iteF ⟨R5, acc, (g2.trans g3).trans g5, keepD (g3.trans g5), (g3.trans g5).hp _ _ h2, ?_⟩
      rw [tk, List.filter_append, List.filter_cons_of_neg (by rw [hp]; exact Bool.false_ne_true), List.filter_nil, List.append_nil]
      exact dpa_mono (g3.trans g5).rd _ _ da
    | true =>
      refine iteT (he hp R0 H0 R5 σ4 H5 (a4.grow g5) _ fun y R6 H6 g6 dy => ?_)
      have g36 := (g3.trans g5).trans g6
      refine ⟨acc, g36.hp _ _ h2, ?_, R6, acc ++ [y], ?_, keepD g36, upd_same, ?_⟩
      · rw [dpa_len da, List.length_map]
        have l1 := List.length_filter_le p (ds.take i)
        rw [List.length_take] at l1
        exact Nat.lt_of_le_of_lt (Nat.le_trans l1 (Nat.le_trans (Nat.min_le_right _ _) hl)) (by decide)
      · have G := g2.trans g36
        have hD' : H' Dd = none := hD
        refine ⟨G.rd, fun b o e => ?_, fun b o e => ?_, G.new⟩
        · rw [upd_ne (ne_of_none e hD')]
          exact G.hp _ _ e
        · rw [upd_ne (ne_of_none e (keepD g36))]
          exact G.sub _ _ e
      · rw [tk, List.filter_append, List.filter_cons_of_pos hp, List.filter_nil, List.map_append]
        exact dpa_snoc (dpa_mono g36.rd _ _ da) dy
  · have e : i = ds.length := by omega
    subst e
    rw [List.take_length] at da
    exact .inl ⟨y2, q Dd acc R2 H2 (gr.trans g2) (gr.hp.free hD) r2 h2 da⟩
theorem et_yes : EvT K tYes ρ true := fun R0 H0 R σ H a Q q => q R H (Grow.refl a.gr.sub)
/-- without a test -/
theorem f_map {wi : TI} {vs : List Nat} (f : D → D) (hI : Id K wi ρ ds) (hw : Gw g vs)
    (hs : ∀ (i : Nat) (d : D), ds[i]? = some d → ∃ ρ2, Gd K g d (wipeE ρ vs) ρ2 ∧ Ev K te ρ2 (f d)) (hl : ds.length ≤ 100000) : EvF K (tLc wi g tYes te vs) ρ (ds.map f) := by
  have h := f_lc (te := te) (tt := tYes) (fun _ => true) f hI hw (fun i d e => by
    obtain ⟨ρ2, h1, h2⟩ := hs i d e
    exact ⟨ρ2, h1, et_yes, fun _ => h2⟩) hl
  have e : ds.filter (fun _ => true) = ds := List.filter_eq_self.mpr fun _ _ => rfl
  rw [e] at h
  exact h
end
/-! ### try .. except C as n -/
def tTryAs (K : Frag) (c : Value) (i : Nat) (tb : WX → TS) (ts : Addr → Value → Option Addr → TS) (Wout : WX) : TS := fun D σ H => tb (wAs K c i ts Wout D) D σ H
def tTry (K : Frag) (c : Value) (tb : WX → TS) (ts : Addr → Value → Option Addr → TS) (Wout : WX) : TS := fun D σ H => tb (wOnly K c ts Wout D) D σ H
section
variable {K : Frag} {ρ : En} {W : WX} {ex : Value → En → Prop} {k : Ko} {c : Value} {i : Nat} {tb : WX → TS} {ts : Addr → Value → Option Addr → TS}
/-- what the body may let out -/
def exAs (K : Frag) (W : WX) (ex : Value → En → Prop) (k : Ko) (c : Value) (i : Nat) (ts : Addr → Value → Option Addr → TS) : Value → En → Prop := fun cls ρ' =>
  ∃ b, PySem.W.exmOne K cls c = some b ∧ (b = true → ∀ a, Sd K W ex (ts a cls none) (ρ'.set i (.raw (.ref a))) { nx := fun r => k.nx (r.set i .un), rt := k.rt, rl := k.rl, bk := fun r => k.bk (r.set i .un), ct := fun r => k.ct (r.set i .un) }) ∧ (b = false → ex cls ρ')
theorem sd_tryAs (h : ∀ W', Sd K W' (exAs K W ex k c i ts) (tb W') ρ k) : Sd K W ex (tTryAs K c i tb ts W) ρ k := fun R0 H0 ok R σ H a D m => by
  refine h _ R0 H0 (fun cls ρ' R' σ' H' ⟨b, hb, h1, h2⟩ a' => ⟨b, hb, fun e x _ => ?_, fun e => ok cls ρ' R' σ' H' (h2 e) a'⟩) R σ H a D m
  exact h1 e x R0 H0 ok R' _ H' (a'.set_raw (v := .ref x)) _ ⟨fun r R2 σ2 H2 q a2 => m.nx _ R2 _ H2 q (a2.set_un (v := none)), m.rt, m.rl, fun r R2 σ2 H2 q a2 => m.bk _ R2 _ H2 q (a2.set_un (v := none)), fun r R2 σ2 H2 q a2 => m.ct _ R2 _ H2 q (a2.set_un (v := none))⟩
def exOnly (K : Frag) (W : WX) (ex : Value → En → Prop) (k : Ko) (c : Value) (ts : Addr → Value → Option Addr → TS) : Value → En → Prop := fun cls ρ' =>
  ∃ b, PySem.W.exmOne K cls c = some b ∧ (b = true → ∀ a, Sd K W ex (ts a cls none) ρ' k) ∧ (b = false → ex cls ρ')
theorem sd_try (h : ∀ W', Sd K W' (exOnly K W ex k c ts) (tb W') ρ k) : Sd K W ex (tTry K c tb ts W) ρ k := fun R0 H0 ok R σ H a D m => by
  refine h _ R0 H0 (fun cls ρ' R' σ' H' ⟨b, hb, h1, h2⟩ a' => ⟨b, hb, fun e x _ => ?_, fun e => ok cls ρ' R' σ' H' (h2 e) a'⟩) R σ H a D m
  exact h1 e x R0 H0 ok R' _ H' a' _ m
/-- isinstance of the exception in hand -/
theorem v_isE {C a : Addr} {b : Bool} {cv : V} {cu : Value} (h : ρ[i]? = some (.raw (.ref a))) (hc : ∀ u, RelV cv u → u = cu) (hk : PySem.W.kitOne K (.ref C) cu = some b) : Ev K (tCB (rIsE K C a) (tCons (tVar i) (tCons (tC cv) tNil))) ρ (.bool b) := fun R0 H0 R σ H A Q q =>
  ⟨_, A.raw i _ h, cv, cu, b, rfl, hc, hk, q _ R H (Grow.refl A.gr.sub) (.bl b)⟩
end
end Pu

set_option maxRecDepth 100000
namespace Pu
open PySem PySem.Spec PyProof.Rows L2
/-! ### rules that take a value of any of the forms; K is told -/
section
variable {X : Cx} {K : Frag}
section
open PyProof
/-- two lists, whatever they are, one behind the other -/
theorem meets_cat (l b : Addr) (xs ys : Array Value) (n m : Nat) (sl sl2 : Array (Option Value)) (hsz : xs.size + ys.size ≤ sizeLine) :
    PySem.Meets (Builtin.«list.__add__» ⟨[.ref l, .ref b], []⟩) (fun _ R s => (s.heap.get? l = some ⟨.type "list", none, .seq xs n, sl⟩ ∧ s.heap.get? b = some ⟨.type "list", none, .seq ys m, sl2⟩) ∧
      R (.ok (.ret (Value.ref s.heap.objs.size))) { s with heap := s.heap.push { cls := Value.type "list", data := Data.seq (xs ++ ys) }, toks := s.toks }) :=
  .of_wp fun prog w A R s z => by
    obtain ⟨hp, g, d, tk, os⟩ := s
    obtain ⟨⟨h1, h2⟩, z⟩ := z
    have q1 := sub_list_list
    have q2 := sub_list_tuple
    wp_walk using wpAny_loadPart' h1, wpAny_loadPart' h2
    exact ⟨_, rfl, z⟩
theorem plain_cat {prog : Program} {w : World} {A : Around} {E : Value → Shared → Prop} {s : Shared} {l b : Addr} {xs ys : Array Value} {Q : Value → Shared → Prop} (h1 : PlainL s.heap l xs) (h2 : PlainL s.heap b ys) (hsz : xs.size + ys.size ≤ sizeLine)
    (h : Q (.ref s.heap.objs.size) { s with heap := s.heap.push { cls := .type "list", data := .seq (xs ++ ys) } }) : wpAny (model prog w) A (binaryOp .Add (.ref l) (.ref b)) Q E s := by
  obtain ⟨⟨c, d, dt, sl⟩, n, e, rfl, rfl, rfl⟩ := h1
  obtain ⟨⟨c, d, dt, sl2⟩, m, e2, rfl, rfl, rfl⟩ := h2
  exact concat_meets ⟨_, e, rfl⟩ ⟨_, e2, rfl⟩ noFill_list_add seq_list_add F.slot_list_add F.entry_list_add (F.args_list_add_2 _ _) (meets_cat l b xs ys n m sl sl2 hsz) ⟨⟨e, e2⟩, h⟩
def rCatL (K : Frag) : R2 := fun x y H Q => ∃ l b xs zs, x = .ref l ∧ y = .ref b ∧ SqL K H l xs ∧ SqL K H b zs ∧ xs.length + zs.length ≤ sizeLine ∧ ∀ p, H p = none → Q (.ref p) (upd H p (.lst (xs ++ zs)))
theorem op_catL {X : Cx} : OpR X (binaryOp .Add) (rCatL X.K) := by
  intro pins s σ H x y v u Q I rx ry h
  obtain ⟨l, b, xs, zs, rfl, rfl, hH, hB, hz, q⟩ := h
  cases rx
  cases ry
  obtain ⟨its, r, e, _⟩ := I.list hH
  obtain ⟨its2, r2, e2, _⟩ := I.list hB
  have n1 := r.length
  have n2 := r2.length
  refine plain_cat e e2 (by rw [List.size_toArray, List.size_toArray]; omega) ?_
  rw [show its.toArray ++ its2.toArray = (its ++ its2).toArray by simp]
  exact ⟨.ref _, _, I.lnew (t' := s.toks) (r.append r2) (by rw [List.length_append]; omega), rfl, q _ I.fresh⟩
end
def rCatA (K : Frag) : R2 := fun x y H Q => rAdd x y H Q ∨ rCatL K x y H Q ∨ rCatT K x y H Q ∨ (∃ i j, x = .str i ∧ y = .str j ∧ i.length + j.length ≤ sizeLine ∧ Q (.str (i ++ j)) H)
theorem OpR_or {f : Value → Value → Sem Value} {r r' : R2} (h : OpR X f r) (h' : OpR X f r') : OpR X f (fun x y H Q => r x y H Q ∨ r' x y H Q) := by
  intro pins s σ H x y v u Q I rx ry q
  rcases q with q | q
  · exact h pins s σ H x y v u Q I rx ry q
  · exact h' pins s σ H x y v u Q I rx ry q
theorem o_plus (hK : X.K = K := by rfl) : OpR X (binaryOp .Add) (rCatA K) := by
  subst hK
  exact OpR_or o_add (OpR_or op_catL (OpR_or op_catT op_add_str))
theorem i_any (hK : X.K = K := by rfl) : IxR X (rIx K) := by subst hK; exact ix_seq
def rLenA (K : Frag) : List V → Hp → VK → Prop := fun xs H Q => rLen K xs H Q ∨ (∃ z, xs = [.str z] ∧ z.length ≤ sizeLine ∧ Q (.int z.length) H)
theorem c_lenA (hK : X.K = K := by rfl) : CallR X (.builtin "len") (rLenA K) := by
  subst hK
  exact CallR.or c_len call_len_str
theorem c_listA (hK : X.K = K := by rfl) : CallR X (.type "list") (rLst K) := by subst hK; exact c_list
theorem c_tupleA (hK : X.K = K := by rfl) : CallR X (.type "tuple") (rTpl K) := by subst hK; exact c_tuple
theorem c_isiA (hK : X.K = K := by rfl) : CallR X (.builtin "isinstance") (rIsi K) := by subst hK; exact call_isi
theorem o_eq (hu : X.A.units + 64 < cLine) (hK : X.K = K := by rfl) : OpR X (compareOp .Eq) (rEqD K) := by subst hK; exact op_eqD hu
theorem o_ne (hu : X.A.units + 64 < cLine) (hK : X.K = K := by rfl) : OpR X (compareOp .NotEq) (rNeD K) := by subst hK; exact op_neD hu
def rSlA (K : Frag) : V → Option Int → Option Int → Hp → VK → Prop := fun x lo hi H Q => rSlL K x lo hi H Q ∨ rSlT K x lo hi H Q ∨ rSlS x lo hi H Q
theorem s_any (hK : X.K = K := by rfl) : SlR X (rSlA K) := by
  subst hK
  exact sl_list.or (sl_tup.or sl_str)
theorem w_seq {tg l : Expr} {tl : TE} (hl : PE X l tl) (hK : X.K = K := by rfl) : PI X tg l (iSeq K tl) := by subst hK; exact pi_seq hl
theorem g_tup {es : List Expr} {kk : Nat} {t : TGs} {n : Nat} {pos : Pos} (hc : X.calm = true) (h : PGs X es t) (hn : (assignEach es X.env).length = n := by rfl) (hst : (assignEach es X.env).findIdx? (·.1) = none := by rfl) (hK : X.K = K := by rfl) : PG X (.Tuple es kk pos) (gTup K n t) := by
  subst hK
  exact pg_tup hc h hn hst
theorem b_m {T id : String} {r : V → List V → Hp → VK → Prop} {o e : Expr} {es : List Expr} {name : Str} {to : TE} {t : TA} {apos cpos : Pos} (pa : PlainAttrs T) (slot : Slot T name id) (hty : typeOf (.builtin id) = pure (.type "method_descriptor")) (hm : MtR X id r) (ho : PE X o to) (ha : PA X (e :: es) t)
    (hbase : attributeBase o name X.env (eval o X.env) = eval o X.env := by rfl)
    (hfew : ((backTo cpos (starEach (e :: es) X.env)).all (fun x => !x.1) && (backToKw cpos (keywordEach [] X.env)).all (fun x => x.1.isSome)
      && decide ((e :: es).length + ([] : List Keyword).length + (if ([] : List Keyword).isEmpty then 0 else 1) < 30)) = true := by rfl)
    (hline : (apos.endLine == cpos.line) = true := by rfl) (hs : starEach (e :: es) X.env = (false, eval e X.env) :: starEach es X.env := by rfl) (hplain : (backTo cpos (starEach es X.env)).any (·.1) = false := by rfl) (hK : X.K = K := by rfl) :
    PE X (.Call (.Attribute o name apos) (e :: es) [] cpos) (tBM K T r to t) := by
  subst hK
  exact pe_bm pa slot hty hm ho ha hbase hfew hline hs hplain
theorem b_m0 {T id : String} {r : V → List V → Hp → VK → Prop} {o : Expr} {name : Str} {to : TE} {apos cpos : Pos} (pa : PlainAttrs T) (slot : Slot T name id) (hty : typeOf (.builtin id) = pure (.type "method_descriptor")) (hm : MtR X id r) (ho : PE X o to)
    (hbase : attributeBase o name X.env (eval o X.env) = eval o X.env := by rfl) (hline : (apos.endLine == cpos.line) = true := by rfl) (hK : X.K = K := by rfl) : PE X (.Call (.Attribute o name apos) [] [] cpos) (tBM0 K T r to) := by
  subst hK
  exact pe_bm0 pa slot hty hm ho hbase hline
/-- x in t, a tuple or a list of flat things -/
theorem o_in (hK : X.K = K := by rfl) : OpR X (compareOp .In) (rIn K false) := by subst hK; exact op_in_seq
theorem o_notIn (hK : X.K = K := by rfl) : OpR X (compareOp .NotIn) (rIn K true) := by subst hK; exact op_notIn_seq
theorem t_tryAs {x n : Str} {c : Value} {i : Nat} {body suite : List Stmt} {b₀ : Stmt} {np pos pos' : Pos} {tb : WX → TS} {ts : Addr → Value → Option Addr → TS} {Wout : WX} (hs : X.stack = X.env :: X.outer) (hf : X.env.frame = some X.env.locals) (hN : X.N.Nodup) (hi : X.N[i]? = some n) (hln : X.env.kindOf n = some .local) (hc : Names X x c) (tk : Takes X Wout)
    (hb : ∀ (W : WX) (pn : List (Addr × Obj)) (xe : Value → Shared → Prop), Takes (X.tr pn xe) W → PassesOwn (model X.prog X.w) X.A X.env xe → PSs (X.tr pn xe) body (tb W))
    (hsu : ∀ (a : Addr) (oe : Obj) (cls : Value) (d : Option Addr) (pn : List (Addr × Obj)), Zc cls d oe → (∃ vs, oe.data = .fields vs) → PSs (X.suite a ((a, oe) :: pn)) (b₀ :: suite) (ts a cls d)) (hK : X.K = K := by rfl) :
    PS X (.Try body [.ExceptHandler (some (.Name x np)) (some n) (b₀ :: suite) pos'] [] [] pos) (tTryAs K c i tb ts Wout) := by
  subst hK
  exact ps_try_as hs hf hN hi hln hc tk hb hsu
theorem t_try {x : Str} {c : Value} {body suite : List Stmt} {b₀ : Stmt} {np pos pos' : Pos} {tb : WX → TS} {ts : Addr → Value → Option Addr → TS} {Wout : WX} (hs : X.stack = X.env :: X.outer) (hf : X.env.frame = some X.env.locals) (hc : Names X x c) (tk : Takes X Wout)
    (hb : ∀ (W : WX) (pn : List (Addr × Obj)) (xe : Value → Shared → Prop), Takes (X.tr pn xe) W → PassesOwn (model X.prog X.w) X.A X.env xe → PSs (X.tr pn xe) body (tb W))
    (hsu : ∀ (a : Addr) (oe : Obj) (cls : Value) (d : Option Addr) (pn : List (Addr × Obj)), Zc cls d oe → (∃ vs, oe.data = .fields vs) → PSs (X.suite a ((a, oe) :: pn)) (b₀ :: suite) (ts a cls d)) (hK : X.K = K := by rfl) :
    PS X (.Try body [.ExceptHandler (some (.Name x np)) none (b₀ :: suite) pos'] [] [] pos) (tTry K c tb ts Wout) := by
  subst hK
  exact ps_try_only hs hf hc tk hb hsu
/-- isinstance of the exception in hand: one class, or a tuple of classes -/
def rIsX (K : Frag) (cls : Value) (d : Option Addr) (a : Addr) : List V → Hp → VK → Prop := fun xs H Q => ∃ D, cls = .ref D ∧ d = none ∧ ExcC K D ∧ (rIsE K D a xs H Q ∨ rIsET K D a xs H Q)
theorem c_isX {a : Addr} {oe : Obj} {cls : Value} {d : Option Addr} {pn : List (Addr × Obj)} (hz : Zc cls d oe) (hf : ∃ vs, oe.data = .fields vs) (hK : X.K = K := by rfl) : CallR (X.suite a ((a, oe) :: pn)) (.builtin "isinstance") (rIsX K cls d a) := by
  subst hK
  intro pins s σ H xs us Q I r h
  obtain ⟨D, rfl, rfl, C, q | q⟩ := h
  · exact call_isE C hz hf pins s σ H xs us Q I r q
  · exact c_isET C hz hf pins s σ H xs us Q I r q
end

/-! ### defs -/
structure FnAt (K : Frag) (mg : Str → Option Value) (x : Str) (st : Stmt) (ps : List Str) (f : Addr) : Prop where
  g : mg x = some (.ref f)
  fn : ∃ fd, Fun K x x st f fd ∧ Binds K fd ps []
/-- the def called x keeps the promise sp at level k -/
def Ok (P : Program) (w : World) (K : Frag) (mg : Str → Option Value) (base : Heap) (k : Nat) (x : Str) (ps : List Str) (sp : Sp) : Prop :=
  ∃ f, mg x = some (.ref f) ∧ PySem.W.keepIn K (.ref f) = true ∧ ∃ fd, Binds K fd ps [] ∧ FnOk P w K mg base (L2.CX P w) k f fd ps sp
section
variable {P : Program} {w : World} {K : Frag} {mg : Str → Option Value} {base : Heap}
theorem FnAt.ok {x : Str} {st : Stmt} {ps N : List Str} {f : Addr} {k : Nat} (T : FnAt K mg x st ps f) (S : FnScope N ps (defScope st)) (c : Ct) (hl : ∀ ds k, c ds k → ds.length = ps.length)
    (hbody : ∀ (cdv : Value) (A : Around) (outer : List Env) (s : Shared) (H : Hp) (vs : List V) (Q : VK) (E : XK), Room k (A.deeper (envOfC x (defScope st) s.heap.objs.size f cdv)) → spc K c vs H Q E →
      ∃ t, PSs (cxOf (L2.CX P w) P w K mg base N x (defScope st) f cdv A outer s H E) (defBody st) t ∧ t { nx := fun _ H' => Q .non H', rt := Q } (L2.start N vs) H) : Ok P w K mg base (k + 1) x ps (spc K c) := by
  obtain ⟨g, fd, F, b⟩ := T
  exact ⟨f, g, F.kp, fd, b, F.okX S (spc_len hl) hbody⟩
/-- the law itself: nothing leaves it -/
theorem FnAt.law {x : Str} {st : Stmt} {ps N : List Str} {f : Addr} {k : Nat} {fd : FuncData} (F : Fun K x x st f fd) (S : FnScope N ps (defScope st)) (c : Ct) (hl : ∀ ds k, c ds k → ds.length = ps.length)
    (hbody : ∀ (cdv : Value) (A : Around) (outer : List Env) (s : Shared) (H : Hp) (vs : List V) (Q : VK) (E : XK), Room k (A.deeper (envOfC x (defScope st) s.heap.objs.size f cdv)) → spc K c vs H Q E →
      ∃ t, PSs (cxOf CX0 P w K mg base N x (defScope st) f cdv A outer s H E).nox (defBody st) t ∧ t { nx := fun _ H' => Q .non H', rt := Q } (L2.start N vs) H) : FnOk P w K mg base CX0 (k + 1) f fd ps (spc K c) :=
  F.ok S (spc_len hl) hbody
end
section
variable {X : Cx} {k : Nat} {x : Str} {ps : List Str} {sp : Sp} {W : WX} {p pos : Pos} {e : Expr} {es : List Expr} {ta : TA}
theorem pe_fn (o : Ok X.prog X.w X.K X.mg X.base k x ps sp) (hr : Room k X.A) (tk : Takes X W) (hg : Gl X x) (ha : PA X (e :: es) ta)
    (hdb : (x == ("__debug__" : Str)) = false := by decide) (he : starEach (e :: es) X.env = (false, eval e X.env) :: starEach es X.env := by rfl) (hpl : (backTo pos (starEach es X.env)).any (·.1) = false := by rfl) :
    PE X (.Call (.Name x p) (e :: es) [] pos) (tCallS sp (WE W) ta) := by
  obtain ⟨f, g, kp, fd, b, F⟩ := o
  exact pe_callS F hr hg g kp b (fun σ => passAt tk σ) ha hdb he hpl
end
/-- the body of the law -/
theorem body_law {K : Frag} {c : Ct} {vs : List V} {H : Hp} {Q : VK} {E : XK} {N : List Str} {t : TS} (h : spc K c vs H Q E)
    (hs : ∀ (ds : List D) (k : Kc), c ds k → Sd K (fun _ _ _ _ => False) (fun _ _ => False) t (ds.map Sl.val ++ List.replicate (N.length - ds.length) Sl.un) { nx := fun _ => k.rt .none, rt := k.rt, rl := k.rl }) :
    t { nx := fun _ H' => Q .non H', rt := Q } (L2.start N vs) H := by
  obtain ⟨R, ds, k, s, hd, hc, q1, q2, q3⟩ := h
  refine hs ds k hc R H (fun x ρ R' σ H' hx a => hx.elim) R _ H (at_start s hd) _ ⟨fun ρ R' σ H' hr a => q1 _ _ R' H' hr a.gr .non, fun d v R' H' hr g dv => q1 d v R' H' hr g dv, fun es p vs' R' H' hr g hn hr' hp dv => q2 es p vs' R' H' hr g hn hr' hp dv, fun _ _ _ _ q => q.elim, fun _ _ _ _ q => q.elim⟩
/-- what the law is to answer -/
def cLaw : Ct := fun ds k => ∃ ns : List Int, ds = [.list (ns.map PyData.int)] ∧ ns.length ≤ 63 ∧ (∀ n ∈ ns, Builtin.Int.intBits n ≤ 1048576) ∧ k.rt (.bool true)
theorem cLaw_len : ∀ ds k, cLaw ds k → ds.length = (["script"] : List Str).length := fun ds k ⟨_, e, _⟩ => by rw [e]; rfl

/-- an if whose two ways come together -/
theorem sd_ifJ {K : Frag} {W : WX} {ex : Value → En → Prop} {tt : TT} {t u : TS} {ρ : En} {k : Ko} {b : Bool} (Pj : En → Prop) (hc : EvT K tt ρ b) (h1 : b = true → Sd K W ex t ρ { k with nx := Pj }) (h2 : b = false → Sd K W ex u ρ { k with nx := Pj }) (hP : ∀ ρ', Pj ρ' → k.nx ρ') : Sd K W ex (tIfS tt t u) ρ k :=
  Sd.imp (k := { k with nx := Pj }) (sd_ifS hc h1 h2) hP (fun _ h => h) (fun _ h => h) (fun _ h => h) (fun _ h => h)
theorem rgc_all : ∀ n : Fin 64, ∀ c : Fin 4, 0 < c.val → (Builtin.Range.small 0 (n.val : Int) (c.val : Int) = true ∧ Builtin.Range.rangeSize 0 (n.val : Int) (c.val : Int) = (((n.val + c.val - 1) / c.val : Nat) : Int)) := by decide +kernel
theorem rgc_of {n c : Nat} (hn : n ≤ 63) (h0 : 0 < c) (h3 : c ≤ 3) : RgC 0 (n : Int) (c : Int) ((n + c - 1) / c) := by
  obtain ⟨h1, h2⟩ := rgc_all ⟨n, by omega⟩ ⟨c, by omega⟩ h0
  exact ⟨by omega, by omega, h1, h2⟩
/-! ### values of these readings -/
section
variable {K : Frag} {ρ : En} {ta tb tc te : TE} {tr : TA} {d d1 d2 : D} {ds es : List D} {i : Nat}
/-- to a list that stands at a tracked place -/
def EvM (K : Frag) (te : TE) (ρ : En) (ds : List D) : Prop := ∀ R0 H0 R σ H, At K R0 H0 R ρ σ H → ∀ Q : VK, (∀ p vs R' H', Grow R H R' H' → H' p = some (.lst vs) → DpAll K R' vs ds → Q (.ref p) H') → te σ H Q
theorem EvF.m (h : EvF K te ρ ds) : EvM K te ρ ds := fun R0 H0 R σ H a Q q => h R0 H0 R σ H a Q fun p vs R' H' g _ _ hp dv => q p vs R' H' g hp dv
theorem EvM.l (h : EvM K te ρ ds) : EvL K te ρ ds := fun R0 H0 R σ H a Q q => h R0 H0 R σ H a Q fun p vs R' H' g hp dv => q p vs R' H' g (SqL.of hp) dv
theorem evm_own (h : ρ[i]? = some (.own ds)) : EvM K (tVar i) ρ ds := fun R0 H0 R σ H a Q q => by
  obtain ⟨p, vs, h1, h2, h3, h4, h5⟩ := a.own i ds h
  exact ⟨_, h1, q p vs R H (Grow.refl a.gr.sub) h2 h3⟩
theorem a_add {i j : Int} (ha : Ev K ta ρ (.int i)) (hb : Ev K tb ρ (.int j)) : Ev K (tOp (rCatA K) ta tb) ρ (.int (i + j)) := fun R0 H0 R σ H a Q q =>
  ha R0 H0 R σ H a _ fun x R1 H1 g1 dx => hb R0 H0 R1 σ H1 (a.grow g1) _ fun y R2 H2 g2 dy => by
    cases dx; cases dy
    exact .inl ⟨i, j, rfl, rfl, q _ R2 H2 (g1.trans g2) (.int _)⟩
theorem a_catL (ha : EvL K ta ρ ds) (hb : EvL K tb ρ es) (hl : ds.length + es.length ≤ 100000) : EvF K (tOp (rCatA K) ta tb) ρ (ds ++ es) := fun R0 H0 R σ H a Q q =>
  ha R0 H0 R σ H a _ fun p vs R1 H1 g1 hp dx => hb R0 H0 R1 σ H1 (a.grow g1) _ fun b ws R2 H2 g2 hb dy => by
    have g := g1.trans g2
    refine .inr (.inl ⟨p, b, vs, ws, rfl, rfl, g2.hp.seq hp, hb, ?_, fun c hc => q c _ R2 _ (g.trans (Grow.hide g.sub hc)) (g.hp.free hc) (g.sub.free hc) upd_same (dpa_append (dpa_mono g2.rd _ _ dx) dy)⟩)
    rw [dpa_len dx, dpa_len dy]
    exact Nat.le_trans hl (by decide)
theorem a_cat (ha : EvM K ta ρ ds) (hb : EvM K tb ρ es) (hl : ds.length + es.length ≤ 100000) : EvF K (tOp (rCatA K) ta tb) ρ (ds ++ es) := a_catL ha.l hb.l hl
theorem a_catT (ha : Ev K ta ρ (.tuple ds)) (hb : Ev K tb ρ (.tuple es)) (hn : ds ≠ []) (hl : ds.length + es.length ≤ 100000) : Ev K (tOp (rCatA K) ta tb) ρ (.tuple (ds ++ es)) := fun R0 H0 R σ H a Q q =>
  ha R0 H0 R σ H a _ fun x R1 H1 g1 dx => hb R0 H0 R1 σ H1 (a.grow g1) _ fun y R2 H2 g2 dy => by
    have g := g1.trans g2
    cases dx with
    | tup hs hd =>
      cases dy with
      | tup ht he =>
        rename_i p vs b ws
        refine .inr (.inr (.inl ⟨p, b, vs, ws, rfl, rfl, sqt_mono (g2.rd.trans g2.sub) hs, sqt_mono g2.sub ht, fun z => ?_, ?_, fun z => ?_, fun z c hc => ?_⟩))
        · subst z
          cases hd
          exact hn rfl
        · rw [dpa_len hd, dpa_len he]
          exact Nat.le_trans hl (by decide)
        · subst z
          cases he
          rw [List.append_nil] at q
          exact q _ R2 H2 g (.tup (sqt_mono g2.rd hs) (dpa_mono g2.rd _ _ hd))
        · exact q _ _ _ (g.trans (Grow.alloc g.sub hc)) (.tup (SqT.of upd_same) (dpa_mono (Grow.alloc g.sub hc).rd _ _ (dpa_append (dpa_mono g2.rd _ _ hd) he)))
theorem a_lenT (ha : Ev K ta ρ (.tuple ds)) : Ev K (tCB (rLenA K) (tCons ta tNil)) ρ (.int ds.length) := v_call1 ha fun R H x s dx Q q => by
  cases dx with
  | tup hs hall => exact .inl ⟨_, _, rfl, .inr (sqt_mono s hs), by rw [dpa_len hall]; exact q _ R H (Grow.refl s) (.int _)⟩
theorem a_lenL (ha : EvL K ta ρ ds) : Ev K (tCB (rLenA K) (tCons ta tNil)) ρ (.int ds.length) := fun R0 H0 R σ H a Q q => ha R0 H0 R σ H a _ fun p vs R1 H1 g1 sq dx =>
  .inl ⟨p, vs, rfl, .inl sq, by rw [dpa_len dx]; exact q _ R1 H1 g1 (.int _)⟩
theorem a_lenS {z : Str} (ha : Ev K ta ρ (.str z)) (hz : z.length ≤ 100000) : Ev K (tCB (rLenA K) (tCons ta tNil)) ρ (.int z.length) := v_call1 ha fun R H x s dx Q q => by
  cases dx
  exact .inr ⟨_, rfl, Nat.le_trans hz (by decide), q _ R H (Grow.refl s) (.int _)⟩
theorem a_slL {tl th : TO} {lo hi : Option Int} (ha : EvL K te ρ ds) (h1 : EvO K tl ρ lo) (h2 : EvO K th ρ hi) : EvF K (tSl (rSlA K) te tl th) ρ (cutD ds lo hi) := fun R0 H0 R σ H a Q q =>
  ha R0 H0 R σ H a _ fun p vs R1 H1 g1 sq dx => h1 R0 H0 R1 σ H1 (a.grow g1) _ fun R2 H2 g2 => h2 R0 H0 R2 σ H2 (a.grow (g1.trans g2)) _ fun R3 H3 g3 => by
    have g := (g1.trans g2).trans g3
    have g23 := g2.trans g3
    exact .inl ⟨p, vs, rfl, g23.hp.seq sq, fun l hl => q l _ R3 _ (g.trans (Grow.hide g.sub hl)) (g.hp.free hl) (g.sub.free hl) upd_same (dpa_cut (dpa_mono g23.rd _ _ dx) lo hi)⟩
/-- a tuple's slice; the whole of it is the tuple itself: not here -/
theorem a_slT {tl th : TO} {lo hi : Option Int} (ha : Ev K te ρ (.tuple ds)) (h1 : EvO K tl ρ lo) (h2 : EvO K th ρ hi) (hw : ¬ (HT.sIx ds.length 0 lo = 0 ∧ HT.sIx ds.length ds.length hi = ds.length)) : Ev K (tSl (rSlA K) te tl th) ρ (.tuple (cutD ds lo hi)) := fun R0 H0 R σ H a Q q =>
  ha R0 H0 R σ H a _ fun x R1 H1 g1 dx => h1 R0 H0 R1 σ H1 (a.grow g1) _ fun R2 H2 g2 => h2 R0 H0 R2 σ H2 (a.grow (g1.trans g2)) _ fun R3 H3 g3 => by
    have g := (g1.trans g2).trans g3
    have g23 := g2.trans g3
    cases dx with
    | tup hs hall =>
      refine .inr (.inl ⟨_, _, rfl, sqt_mono (g23.rd.trans g.sub) hs, by rw [dpa_len hall]; exact hw, fun l hl => ?_⟩)
      exact q _ _ _ (g.trans (Grow.alloc g.sub hl)) (.tup (SqT.of upd_same) (dpa_mono (Grow.alloc g.sub hl).rd _ _ (dpa_cut (dpa_mono g23.rd _ _ hall) lo hi)))
/-- over a list, over a tuple -/
theorem w_list (h : Ev K te ρ (.list ds)) : Id K (iSeq K te) ρ ds := fun R0 H0 R σ H a Rr q => by
  refine h R0 H0 R σ H a _ fun v R1 H1 g1 dv => ?_
  have z := dv
  cases dv with
  | lst hs ha =>
    rename_i p vs
    refine ⟨p, rfl, .inl ⟨⟨_, g1.sub.seq hs⟩, q _ R1 H1 g1 fun R2 H2 s2 sh => ⟨fun i d e => ?_, ⟨vs, sh.seq (s2.seq hs), Nat.le_of_eq (dpa_len ha)⟩⟩⟩⟩
    obtain ⟨v, h1, h2⟩ := dpa_get ha e
    refine ⟨⟨vs, v, sh.seq (s2.seq hs), h1⟩, fun x H3 y => ?_⟩
    obtain ⟨rfl, y⟩ := y
    have z := y vs (sh.seq (s2.seq hs))
    rw [h1] at z
    cases z
    exact ⟨R2, Grow.refl sh, dp_mono s2 _ _ h2⟩
theorem w_tup (h : Ev K te ρ (.tuple ds)) : Id K (iSeq K te) ρ ds := fun R0 H0 R σ H a Rr q => h R0 H0 R σ H a _ fun v R1 H1 g1 dv => by
  cases dv with
  | tup hs ha =>
    rename_i p vs
    refine ⟨p, rfl, .inr ⟨⟨_, sqt_mono g1.sub hs⟩, q _ R1 H1 g1 fun R2 H2 s2 sh => ⟨fun i d e => ?_, ⟨vs, sqt_mono sh (sqt_mono s2 hs), Nat.le_of_eq (dpa_len ha)⟩⟩⟩⟩
    obtain ⟨v, h1, h2⟩ := dpa_get ha e
    refine ⟨⟨vs, v, sqt_mono sh (sqt_mono s2 hs), h1⟩, fun x H3 y => ?_⟩
    obtain ⟨rfl, y⟩ := y
    have z := y vs (sqt_mono sh (sqt_mono s2 hs))
    rw [h1] at z
    cases z
    exact ⟨R2, Grow.refl sh, dp_mono s2 _ _ h2⟩
/-- a thing of the module's own top -/
theorem ev_ref {a : Addr} (h : ∀ H, Dp K H (.ref a) d) : Ev K (tC (.ref a)) ρ d := fun R0 H0 R σ H A Q q => q _ R H (Grow.refl A.gr.sub) (h R)
/-- isinstance of the exception in hand -/
theorem a_isX {C a : Addr} {b : Bool} {cv : V} {cu : Value} {dd : Option Addr} (h : ρ[i]? = some (.raw (.ref a))) (hC : ExcC K C) (hc : ∀ u, RelV cv u → u = cu) (hk : PySem.W.kitOne K (.ref C) cu = some b) (hd : dd = none) :
    Ev K (tCB (rIsX K (.ref C) dd a) (tCons (tVar i) (tCons (tC cv) tNil))) ρ (.bool b) := fun R0 H0 R σ H A Q q =>
  ⟨_, A.raw i _ h, C, rfl, hd, hC, .inl ⟨cv, cu, b, rfl, hc, hk, q _ R H (Grow.refl A.gr.sub) (.bl b)⟩⟩
/-- the classes of a written tuple -/
def tClasses : List Addr → TA
  | [] => tNil
  | c :: r => tCons (tC (.ref c)) (tClasses r)
theorem classes_run {cs : List Addr} : ∀ {σ : L2.St} {H : Hp} {Q : List V → Hp → Prop}, Q (cs.map V.ref) H → tClasses cs σ H Q := by
  induction cs with
  | nil => intro σ H Q q; exact q
  | cons c r ih => intro σ H Q q; exact ih (Q := fun xs H2 => Q (V.ref c :: xs) H2) q
theorem classes_pair : ∀ cs : List Addr, Paired ClsV (cs.map V.ref) (cs.map Value.ref)
  | [] => .nil
  | c :: r => .cons (.own c) (classes_pair r)
theorem a_isXT {C a : Addr} {b : Bool} {cs : List Addr} {t : TA} {dd : Option Addr} (h : ρ[i]? = some (.raw (.ref a))) (ht : t = tClasses cs) (hC : ExcC K C) (hk : PySem.W.kitAny K (.ref C) (cs.map Value.ref) = some b) (hl : cs.length ≤ 1000) (hd : dd = none) :
    Ev K (tCB (rIsX K (.ref C) dd a) (tCons (tVar i) (tCons (tTup t) tNil))) ρ (.bool b) := fun R0 H0 R σ H A Q q => by
  subst ht
  refine ⟨_, A.raw i _ h, classes_run ⟨by rw [List.length_map]; exact Nat.le_trans hl (by decide), fun p hp => ?_⟩⟩
  have g := Grow.hide (o := .tup (cs.map V.ref)) A.gr.sub hp
  exact ⟨C, rfl, hd, hC, .inr ⟨p, _, _, b, rfl, upd_same, classes_pair cs, hk, q _ R _ g (.bl b)⟩⟩
end
end Pu

set_option maxRecDepth 100000
/-! // of numbers of any size, where the machine's base has no seer -/
namespace Pu
open PySem PySem.Spec PyProof.Rows L2
def rFdivA : R2 := rI (fun _ j => j ≠ 0) fun i j => .int (i.fdiv j)
theorem o_fdivA {X : Cx} (hN : X.base.NoSeer) (ht : X.prog.given.tree = none) (hs : X.stack = X.env :: X.outer) (hg : X.env.scope.isGenerator = false) (hc : X.env.scope.isCoroutine = false) (hr : Room 35 X.A) : OpR X (binaryOp .FloorDiv) rFdivA := by
  intro pins s σ H x y v u Q I rx ry h
  obtain ⟨i, j, rfl, rfl, hj, q⟩ := h
  obtain ⟨t, rfl⟩ := rx
  obtain ⟨t', rfl⟩ := ry
  have hfr : X.A.frames = some (X.env :: X.outer) := by rw [I.ok.frames, hs]
  have hd : X.A.depth + Builtin.pylongFrames < recursionLimit := by
    have := hr.dp
    unfold Builtin.pylongFrames
    omega
  have room : PylongRoom (model X.prog X.w) X.A s := PylongRoom.of I.nolimit hd (SeerAt.of (hN.keeps I.bk) ht hfr hg hc I.ok.blt I.ok.glob)
  exact floordiv_int hj ⟨.int _, H, I.tok _, ⟨_, rfl⟩, q⟩ (.inr room)
section
variable {K : Frag} {ρ : En} {ta tb : TE}
theorem v_fdivA {i j : Int} (ha : Ev K ta ρ (.int i)) (hb : Ev K tb ρ (.int j)) (hc : j ≠ 0) : Ev K (tOp rFdivA ta tb) ρ (.int (i.fdiv j)) := ev_I ha hb hc fun R => .int _
theorem v_divA {i j : Int} (ha : Ev K ta ρ (.int i)) (hb : Ev K tb ρ (.int j)) (h0 : 0 < j) : Ev K (tOp rFdivA ta tb) ρ (.int (i / j)) := ev_I ha hb (by omega) fun R => by
  rw [Int.fdiv_eq_ediv_of_nonneg i (by omega)]
  exact .int _
end
/-- the head: as in the layer, and the base has no seer -/
theorem law_callS {P : Program} {w : World} {K : PySem.W.Frag} {mg mb : Str → Option Value} {CX : CXT} {k : Nat} {fa a : Addr} {fd : FuncData} {x : Str} {sp : Sp} {s₁ : Shared} {vs : List Value} {ns : List Int}
    (KX : K.In s₁.heap) (hns : s₁.heap.Ns mainGlobals mg) (hb : s₁.heap.Ns builtinsNs mb) (hbb : ∀ x : Str, x ≠ "__name__" → mb x = bootBuiltins x) (hlim : s₁.heap.NoLimit) (hsee : s₁.heap.NoSeer) (hg : s₁.gens = #[])
    (ha : s₁.heap.get? a = some { cls := .type "list", data := .seq vs.toArray }) (hi : IntsAre vs ns) (hl : ns.length ≤ sizeLine) (hr : Room k callerA)
    (F : ∀ base : Heap, K.In base → base.Ns mainGlobals mg → base.NoSeer → FnOk P w K mg base CX k fa fd [x] sp) (hbind : ∀ (s : Shared) (u : Value), BindsTo s fd ⟨[u], []⟩ [(x, u)])
    (hsp : ∀ H : Hp, Only H → SqL K H a (ns.map V.int) → sp [.ref a] H (fun v _ => v = .bl true) fun _ _ _ => False)
    (hCX : ∀ H e s', CX [] H s₁ (fun _ _ _ => False) e s' → False) :
    codeAny (model P w) callerA (.call (.ref fa) ⟨[.ref a], []⟩) (fun r s' => r = .ok (.ret (.bool true)) ∧ OldK s₁.heap s'.heap ∧ s'.os = s₁.os ∧ AllBare s'.gens) s₁ := by
  have rv := vals_ints hi
  have lenV := hi.length
  have core : ∀ H : Hp, Only H → SqL K H a (ns.map V.int) → HOk P w H s₁.heap → (∀ b, H b ≠ none → b = a) → (H a ≠ none → K.lookup a = none) →
      codeAny (model P w) callerA (.call (.ref fa) ⟨[.ref a], []⟩) (fun r s' => r = .ok (.ret (.bool true)) ∧ OldK s₁.heap s'.heap ∧ s'.os = s₁.os ∧ AllBare s'.gens) s₁ := by
    intro H hO hS hok hA hK
    have base_of : ∀ {b : Addr} {o : Obj}, s₁.heap.get? b = some o → H b = none → (hidT s₁.heap H).get? b = some o := fun e n => hidT_get e n
    have noA : ∀ {b : Addr} {o : Obj} {es : Array DictEntry} {ep : Nat}, s₁.heap.get? b = some o → o.data = .dict es ep → H b = none := fun {b o es ep} e d => by
      cases q : H b with
      | none => rfl
      | some u =>
        have e' : b = a := hA b (by rw [q]; simp)
        subst e'
        rw [ha] at e; cases e
        have d' : Data.seq vs.toArray _ = Data.dict es ep := d
        cases d'
    have nsK : ∀ {b : Addr} {m : Str → Option Value}, s₁.heap.Ns b m → (hidT s₁.heap H).Ns b m := fun {b m} ⟨o, es, ep, e, d, r⟩ => ⟨o, es, ep, base_of e (noA e d), d, r⟩
    have noM : ∀ {b : Addr} {o : Obj}, s₁.heap.get? b = some o → o.cls = .type "module" → H b = none := fun {b o} e d => by
      cases q : H b with
      | none => rfl
      | some u =>
        have e' : b = a := hA b (by rw [q]; simp)
        subst e'
        rw [ha] at e; cases e
        have d' : Value.type "list" = Value.type "module" := d
        injection d' with d'
        exact absurd d' (by decide)
    have hSb : (hidT s₁.heap H).NoSeer :=
      ⟨(let ⟨mc, p, q⟩ := hsee.statics; ⟨mc, nsK p, q⟩), (let ⟨mc, p, q⟩ := hsee.mods; ⟨mc, nsK p, q⟩), (let ⟨mc, p, q⟩ := hsee.imp; ⟨mc, nsK p, q⟩), (let ⟨mg', bm, ob, p, q, c, d, e⟩ := hsee.main; ⟨mg', bm, ob, nsK p, q, base_of c (noM c d), d, e⟩)⟩
    have hKb : K.In (hidT s₁.heap H) := fun b o e => base_of (KX b o e) (by
      cases q : H b with
      | none => rfl
      | some u =>
        have e' : b = a := hA b (by rw [q]; simp)
        subst e'
        rw [hK (by rw [q]; simp)] at e; cases e)
    have hM : Mod K mg (hidT s₁.heap H) := ⟨hKb, nsK hns, ⟨mb, nsK hb, hbb⟩, let ⟨mc, h1, h2⟩ := hlim; ⟨mc, nsK h1, h2⟩⟩
    have e0 : Env0 P w K mg (hidT s₁.heap H) callerA [] s₁ H := ⟨rfl, hM, fun b o e => of_hidT e, Nat.le_of_eq (hidT_size _ _), trivial, fun b hb => absurd (show b ∈ ([] : List Addr) from hb) (by simp), hok, .of_eq hg⟩
    refine codeAny_mono ((F _ hKb (nsK hns) hSb).run callerA [] s₁ H ⟨[.ref a], []⟩ [.ref a] [.ref a] _ _ hr e0 (hbind s₁ (.ref a)) (.cons rfl .nil) (hsp H hO hS)) fun r s' h => ?_
    cases r with
    | error e => exact (hCX H e s' h).elim
    | ok fl =>
      cases fl with
      | next => exact False.elim h
      | brk => exact False.elim h
      | cont => exact False.elim h
      | ret u =>
        obtain ⟨v, H', os, bare, un, hok', r', q⟩ := h
        have q' : v = .bl true := q
        subst q'
        obtain rfl : u = Value.bool true := r'
        refine ⟨rfl, OldK.of_keep fun b o e => ?_, os, bare⟩
        cases q : H b with
        | none => exact un.keep b o e q (by intro z; exact absurd (show b ∈ ([] : List Addr) from z) (by simp)) (by simp)
        | some u =>
          rcases hO b with z | ⟨ob, xs, z⟩
          · rw [q] at z; cases z
          · have z2 := un.frzs b ob _ z
            obtain ⟨e1, _⟩ := hok b _ z
            obtain ⟨e2, _⟩ := hok' b _ z2
            rw [e] at e1; cases e1
            exact e2
  cases hk : K.lookup a with
  | some o =>
    have e := KX a o hk
    rw [ha] at e
    cases e
    refine core (fun _ => none) (fun _ => .inl rfl) (.inr ⟨_, vs.toArray, _, hk, rfl, rfl, rfl, by rw [List.size_toArray, lenV]; exact hl, by simpa using rv⟩) (fun b u z => by have z' : (none : Option HO) = some u := z; cases z') (fun b z => absurd rfl z) fun z => absurd rfl z
  | none =>
    refine core (fun b => if b = a then some (.frz { cls := .type "list", data := .seq vs.toArray } (.lst (ns.map V.int))) else none) (fun b => ?_) (.inl (.inr ⟨{ cls := .type "list", data := .seq vs.toArray }, if_pos rfl⟩)) (fun b u z => ?_) (fun b z => ?_) fun _ => hk
    · by_cases hb : b = a
      · exact .inr ⟨_, _, if_pos hb⟩
      · exact .inl (if_neg hb)
    · by_cases hb : b = a
      · have z' := (if_pos hb).symm.trans z
        cases z'
        subst hb
        exact ⟨ha, by rw [List.length_map]; exact hl, vs, _, rv, ha⟩
      · have z' := (if_neg hb).symm.trans z
        cases z'
    · by_cases hb : b = a
      · exact hb
      · exact absurd (if_neg hb) z
theorem walk_ofS {l : PySem.W.OpenLaw} {n k : Nat} {q : Program} {loose : List Str} {XP : (Str → Option Value) → Heap → Prop} {YP : World → Heap → Prop} {d : DefRec} {K : Params → PySem.W.Frag} {CX : World → CXT} {sp : World → Sp} {x : Str}
    (hn : l.most = some n) (hn2 : n ≤ sizeLine) (hdf : d.params.defaults = []) (hr : Room k callerA) (hq : importsNone q = true)
    (hY : ∀ (w : World) (h : Heap), YP w h → (K w.params).In h)
    (F : ∀ (w : World) (mg : Str → Option Value) (fa : Addr) (h : Heap), (K w.params).In h → h.Ns mainGlobals mg → mg d.name = some (.ref fa) →
      ∃ fd : FuncData, (∀ (s : Shared) (u : Value), BindsTo s fd ⟨[u], []⟩ [(x, u)]) ∧
        ∀ base : Heap, (K w.params).In base → base.Ns mainGlobals mg → base.NoSeer → FnOk l.prog w (K w.params) mg base (CX w) k fa fd [x] (sp w))
    (hsp : ∀ (w : World) (H : Hp) (a : Addr) (ns : List Int), ns.length ≤ n → (∀ z ∈ ns, Builtin.Int.intBits z ≤ 1048576) → Only H → SqL (K w.params) H a (ns.map V.int) → sp w [.ref a] H (fun v _ => v = .bl true) fun _ _ _ => False)
    (hCX : ∀ (w : World) (H : Hp) (s : Shared) (e : Value) (s' : Shared), CX w [] H s (fun _ _ _ => False) e s' → False) :
    PySem.W.WalkO q loose XP YP l.row.toRowW d [] (fun f vs => PySem.call f vs) := by
  refine Att.attach_callB hn hdf fun w s₀ s₁ mg mb fa o pm cd doc a vs ns G Y ho hd hcd hmg hobj hints hlen hbits hg => ?_
  have KX := hY w _ Y
  obtain ⟨fd, hb, hF⟩ := F w mg fa _ KX G.T.g hmg
  exact law_callS KX G.T.g G.T.b G.T.builtins G.T.nolimit (G.T.seer hq) hg hobj hints (Nat.le_trans hlen hn2) hr hF hb (fun H hO hS => hsp w H a ns hlen hbits hO hS) fun H e s' => hCX w H s₁ e s'
end Pu

set_option maxRecDepth 100000
namespace Pu
open PySem PySem.Spec PyProof.Rows L2
/-! ### fractions -/
def fr (q : Rat) : D := .tuple [.int q.num, .int (q.den : Int)]
/-- parts below 2 ^ n -/
def bt (q : Rat) (n : Nat) : Prop := q.num.natAbs < 2 ^ n ∧ q.den < 2 ^ n
theorem bt.mono {q : Rat} {n m : Nat} (h : bt q n) (e : n ≤ m) : bt q m := ⟨Nat.lt_of_lt_of_le h.1 (Nat.pow_le_pow_right (by decide) e), Nat.lt_of_lt_of_le h.2 (Nat.pow_le_pow_right (by decide) e)⟩
theorem bt.pos {q : Rat} {n : Nat} (h : bt q n) : 0 < n := by
  cases n with
  | zero =>
    have h1 := h.2
    have h2 := q.den_pos
    rw [Nat.pow_zero] at h1
    omega
  | succ n => exact Nat.succ_pos n
theorem fr_inj {p q : Rat} (h : fr p = fr q) : p = q := by
  unfold fr at h
  injection h with h
  injection h with h1 h
  injection h with h2 h
  injection h1 with h1
  injection h2 with h2
  exact Rat.ext h1 (by omega)
theorem fr_eqv (p q : Rat) : PyData.eqv (fr p) (fr q) = decide (p = q) := by
  show (p.num == q.num && ((p.den : Int) == (q.den : Int) && true)) = decide (p = q)
  by_cases e : p = q
  · subst e
    simp
  · rw [decide_eq_false e, Bool.and_true, Bool.and_eq_false_iff]
    by_cases h1 : p.num = q.num
    · right
      have h2 : (p.den : Int) ≠ (q.den : Int) := fun z => e (Rat.ext h1 (by omega))
      simpa using h2
    · left
      simpa using h1
theorem fr_shaped (p : Rat) : SeqAt.shaped (fr p) = true := rfl
/-- powers and sizes -/
theorem log2_of {n k : Nat} (h : n < 2 ^ k) (h0 : 0 < k) : n.log2 < k := PySem.Flt.log2_lt_of h0 h
theorem cmul_of {i j : Int} {a b : Nat} (ha : i.natAbs < 2 ^ a) (hb : j.natAbs < 2 ^ b) (h : a + b ≤ 50000000) : CMulB i j := by
  have x := PySem.Flt.log2_lt_of (Nat.succ_pos a) (Nat.lt_of_lt_of_le ha (Nat.pow_le_pow_right (by decide) (Nat.le_succ a)))
  have y := PySem.Flt.log2_lt_of (Nat.succ_pos b) (Nat.lt_of_lt_of_le hb (Nat.pow_le_pow_right (by decide) (Nat.le_succ b)))
  unfold CMulB
  omega
theorem abs_mul_lt {i j : Int} {a b : Nat} (ha : i.natAbs < 2 ^ a) (hb : j.natAbs < 2 ^ b) : (i * j).natAbs < 2 ^ (a + b) := by
  rw [Int.natAbs_mul, Nat.pow_add]
  exact Nat.mul_lt_mul'' ha hb
theorem abs_add_lt {i j : Int} {a b c : Nat} (ha : i.natAbs < 2 ^ a) (hb : j.natAbs < 2 ^ b) (h1 : a < c) (h2 : b < c) : (i + j).natAbs < 2 ^ c := by
  have e1 : 2 ^ a ≤ 2 ^ (c - 1) := Nat.pow_le_pow_right (by decide) (by omega)
  have e2 : 2 ^ b ≤ 2 ^ (c - 1) := Nat.pow_le_pow_right (by decide) (by omega)
  have e3 : 2 ^ c = 2 ^ (c - 1) + 2 ^ (c - 1) := by
    have : c = (c - 1) + 1 := by omega
    rw [this, Nat.pow_succ]
    simp
    omega
  omega
theorem abs_sub_lt {i j : Int} {a b c : Nat} (ha : i.natAbs < 2 ^ a) (hb : j.natAbs < 2 ^ b) (h1 : a < c) (h2 : b < c) : (i - j).natAbs < 2 ^ c := by
  rw [Int.sub_eq_add_neg]
  exact abs_add_lt ha (by rw [Int.natAbs_neg]; exact hb) h1 h2
/-! ### the form of a fraction -/
theorem divInt_num_pos {a b : Int} (hb : 0 < b) : (Rat.divInt a b).num = a / (Int.gcd a b : Int) := by
  rw [Rat.num_divInt, Int.sign_eq_one_of_pos hb, Int.one_mul, Int.gcd_comm]
theorem divInt_den_pos {a b : Int} (hb : 0 < b) : ((Rat.divInt a b).den : Int) = b / (Int.gcd a b : Int) := by
  rw [Rat.den_divInt, if_neg (by omega), Int.gcd_comm]
  rw [Int.natCast_ediv, Int.natAbs_of_nonneg (by omega)]
theorem fdiv_neg_exact {a g : Int} (hg : 0 < g) (h : g ∣ a) : a.fdiv (-g) = (-a) / g := by
  obtain ⟨c, rfl⟩ := h
  have e1 : g * c = (-g) * (-c) := by rw [Int.neg_mul_neg]
  rw [e1, Int.mul_fdiv_cancel_left _ (by omega)]
  have e2 : -(-g * -c) = g * (-c) := by rw [Int.neg_mul_neg, Int.mul_neg]
  rw [e2, Int.mul_ediv_cancel_left _ (by omega)]
theorem divInt_neg_num {a b : Int} (hb : b < 0) : (Rat.divInt a b).num = a.fdiv (-(Int.gcd a b : Int)) ∧ ((Rat.divInt a b).den : Int) = b.fdiv (-(Int.gcd a b : Int)) := by
  have e : Rat.divInt a b = Rat.divInt (-a) (-b) := (Rat.neg_divInt_neg a b).symm
  have hg : 0 < (Int.gcd a b : Int) := by
    have : Int.gcd a b ≠ 0 := fun z => by
      have := (Int.gcd_eq_zero_iff.mp z).2
      omega
    omega
  have eg : Int.gcd (-a) (-b) = Int.gcd a b := by rw [Int.neg_gcd, Int.gcd_neg]
  rw [e]
  refine ⟨?_, ?_⟩
  · rw [divInt_num_pos (by omega), eg, fdiv_neg_exact hg (Int.gcd_dvd_left ..)]
  · rw [divInt_den_pos (by omega), eg, fdiv_neg_exact hg (Int.gcd_dvd_right ..)]
theorem gcd_le_right {a b : Int} (hb : b ≠ 0) : Int.gcd a b ≤ b.natAbs := Nat.le_of_dvd (by omega) (Nat.gcd_dvd_right _ _)
theorem gcd_ne {a b : Int} (hb : b ≠ 0) : Int.gcd a b ≠ 0 := fun z => hb (Int.gcd_eq_zero_iff.mp z).2
/-- the size of a made fraction -/
theorem bt_divInt {a b : Int} {n : Nat} (h0 : b ≠ 0) (ha : a.natAbs < 2 ^ n) (hb : b.natAbs < 2 ^ n) : bt (Rat.divInt a b) n := by
  refine ⟨?_, ?_⟩
  · rw [Rat.num_divInt]
    have h1 : (b.sign * a / (b.gcd a : Int)).natAbs ≤ (b.sign * a).natAbs := Int.natAbs_ediv_le_natAbs _ _
    rw [Int.natAbs_mul] at h1
    have h2 : b.sign.natAbs ≤ 1 := by
      rcases Int.lt_trichotomy b 0 with z | z | z
      · rw [Int.sign_eq_neg_one_of_neg z]; decide
      · rw [z]; decide
      · rw [Int.sign_eq_one_of_pos z]; decide
    have h3 : b.sign.natAbs * a.natAbs ≤ 1 * a.natAbs := Nat.mul_le_mul_right _ h2
    omega
  · rw [Rat.den_divInt, if_neg h0]
    exact Nat.lt_of_le_of_lt (Nat.div_le_self _ _) hb
theorem eqv_int {a b : Int} : PyData.eqv (.int a) (.int b) = decide (a = b) := by
  show (a == b) = decide (a = b)
  by_cases e : a = b
  · rw [decide_eq_true e]; simpa using e
  · rw [decide_eq_false e]; simpa using e
theorem eq_of_eqv {a b : Int} (h : PyData.eqv (.int a) (.int b) = true) : a = b := of_decide_eq_true (eqv_int.symm.trans h)
theorem ne_of_eqv {a b : Int} (h : PyData.eqv (.int a) (.int b) = false) : a ≠ b := of_decide_eq_false (eqv_int.symm.trans h)
theorem shaped_int {i : Int} : SeqAt.shaped (.int i) = true := rfl
/-- an item of the script, or nought -/
def cellAt (ns : List Int) (k : Int) : Int := ns.getD k.toNat 0
theorem atI_ints {ns : List Int} {k : Int} (h0 : 0 ≤ k) (h : k < (ns.length : Int)) : atI (ns.map PyData.int) k = some (.int (cellAt ns k)) := by
  have hk : k.toNat < ns.length := by omega
  have ek : k = ((k.toNat : Nat) : Int) := by omega
  have q : atI (ns.map PyData.int) ((k.toNat : Nat) : Int) = some (.int ns[k.toNat]) := atI_nat (by rw [List.getElem?_map, List.getElem?_eq_getElem hk] <;> rfl)
  rw [← ek] at q
  rw [q]
  unfold cellAt
  rw [List.getD_eq_getElem?_getD, List.getElem?_eq_getElem hk]
  rfl
theorem cellAt_out {ns : List Int} {k : Int} (h : ¬ k < (ns.length : Int)) : cellAt ns k = 0 := by
  unfold cellAt
  rw [List.getD_eq_getElem?_getD, List.getElem?_eq_none (by omega)]
  rfl
theorem kit_int_int : kitB "int" "int" = some true := by decide +kernel
theorem kit_int_bool : kitB "int" "bool" = some false := by decide +kernel
theorem kit_int_tuple : kitB "int" "tuple" = some false := by decide +kernel
theorem kit_int_list : kitB "int" "list" = some false := by decide +kernel
theorem kit_int_str : kitB "int" "str" = some false := by decide +kernel
theorem kit_bool_int : kitB "bool" "int" = some true := by decide +kernel
theorem kit_bool_bool : kitB "bool" "bool" = some true := by decide +kernel
theorem kit_bool_tuple : kitB "bool" "tuple" = some false := by decide +kernel
theorem kit_bool_list : kitB "bool" "list" = some false := by decide +kernel
theorem kit_bool_str : kitB "bool" "str" = some false := by decide +kernel
theorem kit_tuple_int : kitB "tuple" "int" = some false := by decide +kernel
theorem kit_tuple_bool : kitB "tuple" "bool" = some false := by decide +kernel
theorem kit_tuple_tuple : kitB "tuple" "tuple" = some true := by decide +kernel
theorem kit_tuple_list : kitB "tuple" "list" = some false := by decide +kernel
theorem kit_tuple_str : kitB "tuple" "str" = some false := by decide +kernel
theorem kit_list_int : kitB "list" "int" = some false := by decide +kernel
theorem kit_list_bool : kitB "list" "bool" = some false := by decide +kernel
theorem kit_list_tuple : kitB "list" "tuple" = some false := by decide +kernel
theorem kit_list_list : kitB "list" "list" = some true := by decide +kernel
theorem kit_list_str : kitB "list" "str" = some false := by decide +kernel
theorem kit_str_int : kitB "str" "int" = some false := by decide +kernel
theorem kit_str_bool : kitB "str" "bool" = some false := by decide +kernel
theorem kit_str_tuple : kitB "str" "tuple" = some false := by decide +kernel
theorem kit_str_list : kitB "str" "list" = some false := by decide +kernel
theorem kit_str_str : kitB "str" "str" = some true := by decide +kernel
theorem kit_NoneType_int : kitB "NoneType" "int" = some false := by decide +kernel
theorem kit_NoneType_bool : kitB "NoneType" "bool" = some false := by decide +kernel
theorem kit_NoneType_tuple : kitB "NoneType" "tuple" = some false := by decide +kernel
theorem kit_NoneType_list : kitB "NoneType" "list" = some false := by decide +kernel
theorem kit_NoneType_str : kitB "NoneType" "str" = some false := by decide +kernel
theorem kitAny_no {K : Frag} {t : Value} : ∀ {cs : List Value}, (∀ c ∈ cs, PySem.W.kitOne K t c = some false) → PySem.W.kitAny K t cs = some false
  | [], _ => rfl
  | c :: r, h => kitAny_cons (h c List.mem_cons_self) (fun _ => kitAny_no fun c' m => h c' (List.mem_cons_of_mem _ m)) (fun z => nomatch z)
/-! ### what the program's fractions do -/
def cCommon : Ct := fun ds k => ∃ a b : Int, ds = [.int a, .int b] ∧ k.rt (.int (Int.gcd a b : Int))
def cMade (C : Addr) : Ct := fun ds k => ∃ a b : Int, ds = [.int a, .int b] ∧ (b = 0 → k.ex (.ref C)) ∧ (b ≠ 0 → k.rt (fr (Rat.divInt a b)))
theorem made_v {C : Addr} {a b : Int} (h : b ≠ 0) : cMade C [.int a, .int b] (kv (fr (Rat.divInt a b))) := ⟨a, b, rfl, fun z => absurd z h, fun _ => rfl⟩
theorem made_x {C : Addr} {a : Int} : cMade C [.int a, .int 0] (kx (.ref C)) := ⟨a, 0, rfl, fun _ => rfl, fun z => absurd rfl z⟩
/-- the four kinds of sums -/
theorem q_mk (q : Rat) : Rat.divInt q.num (q.den : Int) = q := Rat.num_divInt_den q
theorem den_ne (q : Rat) : (q.den : Int) ≠ 0 := by
  have := q.den_nz
  omega
theorem plus_eq (p q : Rat) : Rat.divInt (p.num * (q.den : Int) + q.num * (p.den : Int)) ((p.den : Int) * (q.den : Int)) = p + q := by
  rw [← Rat.divInt_add_divInt _ _ (den_ne p) (den_ne q), q_mk, q_mk]
theorem minus_eq (p q : Rat) : Rat.divInt (p.num * (q.den : Int) - q.num * (p.den : Int)) ((p.den : Int) * (q.den : Int)) = p - q := by
  rw [← Rat.divInt_sub_divInt _ _ (den_ne p) (den_ne q), q_mk, q_mk]
theorem times_eq (p q : Rat) : Rat.divInt (p.num * q.num) ((p.den : Int) * (q.den : Int)) = p * q := by
  rw [← Rat.divInt_mul_divInt, q_mk, q_mk]
theorem over_eq (p q : Rat) : Rat.divInt (p.num * (q.den : Int)) ((p.den : Int) * q.num) = p / q := by
  rw [Rat.div_def, Rat.inv_def, ← Rat.divInt_mul_divInt, q_mk]
theorem mul_ne {a b : Int} (ha : a ≠ 0) (hb : b ≠ 0) : a * b ≠ 0 := fun z => (Int.mul_eq_zero.mp z).elim ha hb
theorem bt_plus {p q : Rat} {a b : Nat} (hp : bt p a) (hq : bt q b) : bt (p + q) (a + b + 1) := by
  rw [← plus_eq]
  have e : (a + b : Nat) < a + b + 1 := Nat.lt_succ_self _
  refine bt_divInt (mul_ne (den_ne p) (den_ne q)) (abs_add_lt (abs_mul_lt hp.1 (j := (q.den : Int)) hq.2) (abs_mul_lt hq.1 (j := (p.den : Int)) hp.2) e (by omega)) ?_
  exact Nat.lt_of_lt_of_le (abs_mul_lt (i := (p.den : Int)) (j := (q.den : Int)) hp.2 hq.2) (Nat.pow_le_pow_right (by decide) (by omega))
theorem bt_minus {p q : Rat} {a b : Nat} (hp : bt p a) (hq : bt q b) : bt (p - q) (a + b + 1) := by
  rw [← minus_eq]
  have e : (a + b : Nat) < a + b + 1 := Nat.lt_succ_self _
  refine bt_divInt (mul_ne (den_ne p) (den_ne q)) (abs_sub_lt (abs_mul_lt hp.1 (j := (q.den : Int)) hq.2) (abs_mul_lt hq.1 (j := (p.den : Int)) hp.2) e (by omega)) ?_
  exact Nat.lt_of_lt_of_le (abs_mul_lt (i := (p.den : Int)) (j := (q.den : Int)) hp.2 hq.2) (Nat.pow_le_pow_right (by decide) (by omega))
theorem bt_times {p q : Rat} {a b : Nat} (hp : bt p a) (hq : bt q b) : bt (p * q) (a + b) := by
  rw [← times_eq]
  exact bt_divInt (mul_ne (den_ne p) (den_ne q)) (abs_mul_lt hp.1 hq.1) (abs_mul_lt (i := (p.den : Int)) (j := (q.den : Int)) hp.2 hq.2)
theorem bt_over {p q : Rat} {a b : Nat} (hp : bt p a) (hq : bt q b) (h0 : q ≠ 0) : bt (p / q) (a + b) := by
  rw [← over_eq]
  have hn : q.num ≠ 0 := fun z => h0 (Rat.num_eq_zero.mp z)
  exact bt_divInt (mul_ne (den_ne p) hn) (abs_mul_lt hp.1 (j := (q.den : Int)) hq.2) (abs_mul_lt (i := (p.den : Int)) hp.2 hq.1)
theorem bt_neg {p : Rat} {a : Nat} (h : bt p a) : bt (-p) a := ⟨by rw [Rat.neg_num, Int.natAbs_neg]; exact h.1, h.2⟩
theorem bt_int {i : Int} {n : Nat} (h : i.natAbs < 2 ^ n) (h0 : 0 < n) : bt (i : Rat) n := ⟨h, by
  show 1 < 2 ^ n
  exact Nat.one_lt_two_pow (by omega)⟩
theorem bt_zero : bt 0 1 := ⟨by decide, by decide⟩
def cPlus : Ct := fun ds k => ∃ (p q : Rat) (a b : Nat), ds = [fr p, fr q] ∧ bt p a ∧ bt q b ∧ a + b ≤ 40000000 ∧ k.rt (fr (p + q))
theorem plus_v {p q : Rat} {a b : Nat} (hp : bt p a) (hq : bt q b) (h : a + b ≤ 40000000) : cPlus [fr p, fr q] (kv (fr (p + q))) := ⟨p, q, a, b, rfl, hp, hq, h, rfl⟩
def cMinus : Ct := fun ds k => ∃ (p q : Rat) (a b : Nat), ds = [fr p, fr q] ∧ bt p a ∧ bt q b ∧ a + b ≤ 40000000 ∧ k.rt (fr (p - q))
theorem minus_v {p q : Rat} {a b : Nat} (hp : bt p a) (hq : bt q b) (h : a + b ≤ 40000000) : cMinus [fr p, fr q] (kv (fr (p - q))) := ⟨p, q, a, b, rfl, hp, hq, h, rfl⟩
def cTimes : Ct := fun ds k => ∃ (p q : Rat) (a b : Nat), ds = [fr p, fr q] ∧ bt p a ∧ bt q b ∧ a + b ≤ 40000000 ∧ k.rt (fr (p * q))
theorem times_v {p q : Rat} {a b : Nat} (hp : bt p a) (hq : bt q b) (h : a + b ≤ 40000000) : cTimes [fr p, fr q] (kv (fr (p * q))) := ⟨p, q, a, b, rfl, hp, hq, h, rfl⟩
def cOver (C : Addr) : Ct := fun ds k => ∃ (p q : Rat) (a b : Nat), ds = [fr p, fr q] ∧ bt p a ∧ bt q b ∧ a + b ≤ 40000000 ∧ (q = 0 → k.ex (.ref C)) ∧ (q ≠ 0 → k.rt (fr (p / q)))
theorem over_v {C : Addr} {p q : Rat} {a b : Nat} (hp : bt p a) (hq : bt q b) (h : a + b ≤ 40000000) (h0 : q ≠ 0) : cOver C [fr p, fr q] (kv (fr (p / q))) := ⟨p, q, a, b, rfl, hp, hq, h, fun z => absurd z h0, fun _ => rfl⟩
theorem over_x {C : Addr} {p : Rat} {a : Nat} (hp : bt p a) (h : a + 1 ≤ 40000000) : cOver C [fr p, fr 0] (kx (.ref C)) := ⟨p, 0, a, 1, rfl, hp, bt_zero, h, fun _ => rfl, fun z => absurd rfl z⟩
def cLess : Ct := fun ds k => ∃ (p q : Rat) (a b : Nat), ds = [fr p, fr q] ∧ bt p a ∧ bt q b ∧ a + b ≤ 40000000 ∧ k.rt (.bool (decide (p < q)))
theorem less_v {p q : Rat} {a b : Nat} (hp : bt p a) (hq : bt q b) (h : a + b ≤ 40000000) : cLess [fr p, fr q] (kv (.bool (decide (p < q)))) := ⟨p, q, a, b, rfl, hp, hq, h, rfl⟩
def cFloor : Ct := fun ds k => ∃ (p : Rat) (a : Nat), ds = [fr p] ∧ bt p a ∧ a ≤ 40000000 ∧ k.rt (.int p.floor)
theorem floor_v {p : Rat} {a : Nat} (hp : bt p a) (h : a ≤ 40000000) : cFloor [fr p] (kv (.int p.floor)) := ⟨p, a, rfl, hp, h, rfl⟩
/-- a helper of the laws: an item of the script or nought; a whole number; a common divisor; a fraction in its one form -/
def cCell : Ct := fun ds k => ∃ (ns : List Int) (i : Int), ds = [.list (ns.map PyData.int), .int i] ∧ 0 ≤ i ∧ k.rt (.int (cellAt ns i))
theorem cell_v {ns : List Int} {i : Int} (h : 0 ≤ i) : cCell [.list (ns.map PyData.int), .int i] (kv (.int (cellAt ns i))) := ⟨ns, i, rfl, h, rfl⟩
def cWhole : Ct := fun ds k => ∃ i : Int, ds = [.int i] ∧ k.rt (.bool true)
theorem whole_v {i : Int} : cWhole [.int i] (kv (.bool true)) := ⟨i, rfl, rfl⟩
def cGcd : Ct := fun ds k => ∃ a b : Int, ds = [.int a, .int b] ∧ 0 ≤ a ∧ 0 ≤ b ∧ k.rt (.int (Int.gcd a b : Int))
theorem gcd_v {a b : Int} (h0 : 0 ≤ a) (h1 : 0 ≤ b) : cGcd [.int a, .int b] (kv (.int (Int.gcd a b : Int))) := ⟨a, b, rfl, h0, h1, rfl⟩
theorem gcd_step {x y : Int} (hx : 0 ≤ x) (hy : 0 ≤ y) : Int.gcd y (x % y) = Int.gcd x y := by
  obtain ⟨n, rfl⟩ := Int.eq_ofNat_of_zero_le hx
  obtain ⟨m, rfl⟩ := Int.eq_ofNat_of_zero_le hy
  show Nat.gcd m (n % m) = Nat.gcd n m
  rw [Nat.gcd_comm m, ← Nat.gcd_rec, Nat.gcd_comm]
def cFrac : Ct := fun ds k => ∃ (a b : Int) (n : Nat), ds = [.int a, .int b] ∧ 0 < b ∧ b.natAbs < 2 ^ n ∧ n < 9000 ∧ k.rt (fr (Rat.divInt a b))
theorem frac_v {a b : Int} {n : Nat} (h0 : 0 < b) (h : b.natAbs < 2 ^ n) (hn : n < 9000) : cFrac [.int a, .int b] (kv (fr (Rat.divInt a b))) := ⟨a, b, n, rfl, h0, h, hn, rfl⟩
def cIs : Ct := fun ds k => ∃ (q : Rat) (a b : Int) (n : Nat), ds = [fr q, .int a, .int b] ∧ 0 < b ∧ b.natAbs < 2 ^ n ∧ n < 9000 ∧ k.rt (.bool (decide (q = Rat.divInt a b)))
theorem is_v {q : Rat} {a b : Int} {n : Nat} (h0 : 0 < b) (h : b.natAbs < 2 ^ n) (hn : n < 9000) (e : q = Rat.divInt a b) : cIs [fr q, .int a, .int b] (kv (.bool true)) := ⟨q, a, b, n, rfl, h0, h, hn, decide_eq_true e ▸ rfl⟩
theorem ev_fr0 {K : Frag} {ρ : En} : Ev K (tTup (tCons (tC (V.int 0)) (tCons (tC (V.int 1)) tNil))) ρ (fr 0) := ev_tup (ds := [.int 0, .int 1]) (ea_cons ev_int (ea_cons ev_int ea_nil)) (Nat.le_of_ble_eq_true rfl)
theorem ev_fr1 {K : Frag} {ρ : En} : Ev K (tTup (tCons (tC (V.int 1)) (tCons (tC (V.int 1)) tNil))) ρ (fr 1) := ev_tup (ds := [.int 1, .int 1]) (ea_cons ev_int (ea_cons ev_int ea_nil)) (Nat.le_of_ble_eq_true rfl)
def cIsFr : Ct := fun ds k => ∃ q : Rat, ds = [fr q] ∧ k.rt (.bool true)
theorem isFr_v {q : Rat} : cIsFr [fr q] (kv (.bool true)) := ⟨q, rfl, rfl⟩
end Pu

set_option maxRecDepth 100000
namespace Pu
open PySem PySem.Spec PyProof.Rows L2
section
variable {K : Frag} {ρ : En} {ta tb te : TE} {tt : TT} {g : TG} {d d1 d2 : D} {ds es : List D}
theorem getElem?_lt {α : Type} {xs : List α} {i : Nat} {x : α} (h : xs[i]? = some x) : i < xs.length := (List.getElem?_eq_some_iff.mp h).1
theorem take_snoc {α : Type} {xs : List α} {i : Nat} {x : α} (h : xs[i]? = some x) : xs.take (i + 1) = xs.take i ++ [x] := by
  rw [List.take_add_one, h]
  rfl
/-- a comprehension without a test, item by item -/
theorem f_maps {wi : TI} {vs : List Nat} (es : List D) (hI : Id K wi ρ ds) (hw : Gw g vs) (hn : es.length = ds.length)
    (hs : ∀ (i : Nat) (d e : D), ds[i]? = some d → es[i]? = some e → ∃ ρ2, Gd K g d (wipeE ρ vs) ρ2 ∧ Ev K te ρ2 e) (hl : ds.length ≤ 100000) : EvF K (tLc wi g tYes te vs) ρ es := fun R0 H0 R σ H a Q q => by
  refine hI R0 H0 R σ H a _ fun J R' H' gr yl => ?_
  intro Dd hD
  refine ⟨fun i n H2 => n = ds.length - i ∧ i ≤ ds.length ∧ ∃ R2 acc, Grow R' H' R2 H2 ∧ R2 Dd = none ∧ H2 Dd = some (.lst acc) ∧ DpAll K R2 acc (es.take i), ⟨ds.length, by simp, Nat.zero_le _, R', [], Grow.hide gr.sub hD, gr.sub.free hD, upd_same, .nil⟩, ?_⟩
  rintro i n H2 ⟨rfl, hi, R2, acc, g2, r2, h2, da⟩
  obtain ⟨y1, y2⟩ := yl R2 H2 g2.rd g2.sub
  by_cases hlt : i < ds.length
  · have hd : ds[i]? = some ds[i] := List.getElem?_eq_getElem hlt
    have he' : es[i]? = some (es[i]'(by omega)) := List.getElem?_eq_getElem (by omega)
    obtain ⟨go, yld⟩ := y1 i ds[i] hd
    refine .inr ⟨go, fun H3 => ∃ R3 acc, Grow R' H' R3 H3 ∧ R3 Dd = none ∧ H3 Dd = some (.lst acc) ∧ DpAll K R3 acc (es.take (i + 1)), fun H3 ⟨R3, acc, h⟩ => ⟨ds.length - (i + 1), by omega, rfl, hlt, R3, acc, h⟩, fun x H3 y => ?_⟩
    obtain ⟨R3, g3, dx⟩ := yld x H3 y
    obtain ⟨ρ2, hg, he⟩ := hs i ds[i] _ hd he'
    have a3 : At K R0 H0 R3 (wipeE ρ vs) (L2.wipe σ vs) H3 := (a.grow ((gr.trans g2).trans g3)).wipe vs
    refine hw x _ H3 _ wipe_wipe ?_
    refine hg R0 H0 R3 x _ H3 a3 dx _ fun σ4 a4 _ => ?_
    have keepD : ∀ {Rz Hz : Hp}, Grow R2 H2 Rz Hz → Rz Dd = none := fun {Rz Hz} gz => by
      cases e : Rz Dd with
      | none => rfl
      | some o =>
        have z := gz.new Dd r2 (by rw [e]; exact fun z => nomatch z)
        rw [h2] at z
        cases z
    refine et_yes (K := K) (ρ := ρ2) R0 H0 R3 σ4 H3 a4 _ fun R5 H5 g5 => ?_
    rw [if_pos rfl]
    refine he R0 H0 R5 σ4 H5 (a4.grow g5) _ fun y R6 H6 g6' dy => ?_
    have g6 := g5.trans g6'
    have g36 := g3.trans g6
    refine ⟨acc, g36.hp _ _ h2, ?_, R6, acc ++ [y], ?_, keepD g36, upd_same, ?_⟩
    · rw [dpa_len da, List.length_take]
      exact Nat.lt_of_le_of_lt (Nat.le_trans (Nat.min_le_right _ _) (by rw [hn]; exact hl)) (by decide)
    · have G := g2.trans g36
      have hD' : H' Dd = none := hD
      refine ⟨G.rd, fun b o e => ?_, fun b o e => ?_, G.new⟩
      · rw [upd_ne (ne_of_none e hD')]
        exact G.hp _ _ e
      · rw [upd_ne (ne_of_none e (keepD g36))]
        exact G.sub _ _ e
    · rw [take_snoc he']
      exact dpa_snoc (dpa_mono g36.rd _ _ da) dy
  · have e : i = ds.length := by omega
    subst e
    rw [← hn, List.take_length] at da
    exact .inl ⟨y2, q Dd acc R2 H2 (gr.trans g2) (gr.hp.free hD) r2 h2 da⟩
/-- the same over things that are told by a function -/
theorem f_mapA {α : Type} {enc : α → D} {xs : List α} {wi : TI} {vs : List Nat} (f : α → D) (hI : Id K wi ρ (xs.map enc)) (hw : Gw g vs)
    (hs : ∀ (i : Nat) (x : α), xs[i]? = some x → ∃ ρ2, Gd K g (enc x) (wipeE ρ vs) ρ2 ∧ Ev K te ρ2 (f x)) (hl : xs.length ≤ 100000) : EvF K (tLc wi g tYes te vs) ρ (xs.map f) :=
  f_maps (xs.map f) hI hw (by rw [List.length_map, List.length_map]) (fun i d e hd he => by
    rw [List.getElem?_map] at hd he
    cases q : xs[i]? with
    | none => rw [q] at hd; cases hd
    | some x =>
      rw [q] at hd he
      obtain rfl := Option.some.inj hd
      obtain rfl := Option.some.inj he
      exact hs i x q) (by rw [List.length_map]; exact hl)
/-- in, not in: a whole number among whole numbers -/
theorem inV_ints {i : Int} : ∀ {ns : List Int}, inV (.int i) (ns.map V.int) = ns.contains i
  | [] => rfl
  | n :: r => by
    have ih : inV (.int i) (r.map V.int) = r.contains i := inV_ints
    show ((n == i) || inV (.int i) (r.map V.int)) = (n :: r).contains i
    rw [ih, List.contains_cons]
    have e : (n == i) = (i == n) := by
      by_cases z : n = i
      · subst z; rfl
      · have z' : ¬ i = n := fun q => z q.symm
        rw [beq_eq_false_iff_ne.mpr z, beq_eq_false_iff_ne.mpr z']
    rw [e]
theorem ints_flat : ∀ ns : List Int, (ns.map V.int).all flatV = true
  | [] => rfl
  | _ :: r => by
    rw [List.map_cons, List.all_cons, ints_flat r]
    rfl
theorem a_inI {i : Int} {ns : List Int} (ha : Ev K ta ρ (.int i)) (hb : EvL K tb ρ (ns.map PyData.int)) : Ev K (tOp (rIn K false) ta tb) ρ (.bool (ns.contains i)) := fun R0 H0 R σ H a Q q =>
  ha R0 H0 R σ H a _ fun x R1 H1 g1 dx => hb R0 H0 R1 σ H1 (a.grow g1) _ fun p vs R2 H2 g2 sq dy => by
    cases dx
    obtain rfl := dpa_ints dy
    refine ⟨p, _, rfl, .inl sq, rfl, ints_flat ns, ?_⟩
    show Q (.bl (inV (.int i) (ns.map V.int))) H2
    rw [inV_ints]
    exact q _ R2 H2 (g1.trans g2) (.bl _)
theorem a_niI {i : Int} {ns : List Int} (ha : Ev K ta ρ (.int i)) (hb : EvL K tb ρ (ns.map PyData.int)) : Ev K (tOp (rIn K true) ta tb) ρ (.bool (!ns.contains i)) := fun R0 H0 R σ H a Q q =>
  ha R0 H0 R σ H a _ fun x R1 H1 g1 dx => hb R0 H0 R1 σ H1 (a.grow g1) _ fun p vs R2 H2 g2 sq dy => by
    cases dx
    obtain rfl := dpa_ints dy
    refine ⟨p, _, rfl, .inl sq, rfl, ints_flat ns, ?_⟩
    show Q (.bl (!inV (.int i) (ns.map V.int))) H2
    rw [inV_ints]
    exact q _ R2 H2 (g1.trans g2) (.bl _)
end
/-! ### slices -/
theorem cut_to (ds : List D) (k : Nat) : cutD ds none (some (k : Int)) = ds.take k := by
  unfold cutD
  rw [HT.sIx_none, HT.sIx_nat, List.drop_zero, Nat.sub_zero]
  by_cases h : k ≤ ds.length
  · rw [Nat.min_eq_left h]
  · rw [Nat.min_eq_right (by omega), List.take_length, List.take_of_length_le (by omega)]
theorem cut_from (ds : List D) (k : Nat) : cutD ds (some (k : Int)) none = ds.drop k := by
  unfold cutD
  rw [HT.sIx_none, HT.sIx_nat]
  by_cases h : k ≤ ds.length
  · rw [Nat.min_eq_left h, List.take_of_length_le (by rw [List.length_drop]; omega)]
  · rw [Nat.min_eq_right (by omega), Nat.sub_self, List.take_zero, List.drop_of_length_le (by omega)]
theorem cut_mid (ds : List D) (i k : Nat) : cutD ds (some (i : Int)) (some (k : Int)) = (ds.take k).drop i := by
  unfold cutD
  rw [HT.sIx_nat, HT.sIx_nat, List.drop_take]
  by_cases h : i ≤ ds.length
  · rw [Nat.min_eq_left h]
    by_cases hk : k ≤ ds.length
    · rw [Nat.min_eq_left hk]
    · rw [Nat.min_eq_right (by omega), List.take_of_length_le (by rw [List.length_drop]; omega), List.take_of_length_le (by rw [List.length_drop]; omega)]
  · rw [Nat.min_eq_right (a := i) (by omega), show ds.drop ds.length = [] from List.drop_length, show ds.drop i = [] from List.drop_of_length_le (by omega), List.take_nil, List.take_nil]
/-! ### sums of fractions -/
def qsum : List Rat → Rat
  | [] => 0
  | q :: r => q + qsum r
theorem qsum_append : ∀ (xs ys : List Rat), qsum (xs ++ ys) = qsum xs + qsum ys
  | [], ys => (Rat.zero_add _).symm
  | x :: xs, ys => by
    show x + qsum (xs ++ ys) = x + qsum xs + qsum ys
    rw [qsum_append xs ys, Rat.add_assoc]
theorem qsum_take {qs : List Rat} {i : Nat} {q : Rat} (h : qs[i]? = some q) : qsum (qs.take (i + 1)) = qsum (qs.take i) + q := by
  rw [take_snoc h, qsum_append]
  show _ + (q + 0) = _
  rw [Rat.add_zero]
theorem bt_qsum {qs : List Rat} {n : Nat} (h : ∀ q ∈ qs, bt q n) : ∀ i, bt (qsum (qs.take i)) (i * (n + 1) + 1)
  | 0 => bt_zero.mono (by omega)
  | i + 1 => by
    cases e : qs[i]? with
    | none =>
      have hl : qs.length ≤ i := List.getElem?_eq_none_iff.mp e
      have ih := bt_qsum h i
      rw [List.take_of_length_le hl] at ih
      rw [List.take_of_length_le (by omega)]
      exact ih.mono (by rw [Nat.succ_mul]; omega)
    | some q =>
      rw [qsum_take e]
      have hq := h q (List.mem_of_getElem? e)
      exact (bt_plus (bt_qsum h i) hq).mono (by rw [Nat.succ_mul]; omega)
def fls (qs : List Rat) : List D := qs.map fr
theorem fls_get {qs : List Rat} {i : Nat} {d : D} (h : (fls qs)[i]? = some d) : ∃ q, qs[i]? = some q ∧ d = fr q := by
  unfold fls at h
  rw [List.getElem?_map] at h
  cases e : qs[i]? with
  | none => rw [e] at h; cases h
  | some q => rw [e] at h; exact ⟨q, rfl, (Option.some.inj h).symm⟩
theorem fls_len (qs : List Rat) : (fls qs).length = qs.length := List.length_map _
theorem fls_at {qs : List Rat} {i : Nat} {q : Rat} (h : qs[i]? = some q) : atI (fls qs) (i : Int) = some (fr q) := atI_nat (by unfold fls; rw [List.getElem?_map, h]; rfl)
def cTotal : Ct := fun ds k => ∃ (qs : List Rat) (n B : Nat), ds = [.list (fls qs)] ∧ (∀ q ∈ qs, bt q n) ∧ (∀ i, i ≤ qs.length → bt (qsum (qs.take i)) B) ∧ B + n ≤ 40000000 ∧ k.rt (fr (qsum qs))
theorem total_v {qs : List Rat} {n B : Nat} (h : ∀ q ∈ qs, bt q n) (hB : ∀ i, i ≤ qs.length → bt (qsum (qs.take i)) B) (hl : B + n ≤ 40000000) : cTotal [.list (fls qs)] (kv (fr (qsum qs))) := ⟨qs, n, B, rfl, h, hB, hl, rfl⟩
/-- equal lists of fractions -/
theorem fls_eqv : ∀ (ps qs : List Rat), PyData.eqvAll (fls ps) (fls qs) = decide (ps = qs)
  | [], [] => rfl
  | [], _ :: _ => rfl
  | _ :: _, [] => rfl
  | p :: ps, q :: qs => by
    show (PyData.eqv (fr p) (fr q) && PyData.eqvAll (fls ps) (fls qs)) = decide (p :: ps = q :: qs)
    rw [fr_eqv, fls_eqv ps qs]
    by_cases h1 : p = q
    · by_cases h2 : ps = qs
      · subst h1 h2; simp
      · rw [decide_eq_false h2, Bool.and_false, decide_eq_false (fun z => h2 (List.cons.inj z).2)]
    · rw [decide_eq_false h1, Bool.false_and, decide_eq_false (fun z => h1 (List.cons.inj z).1)]
/-- what can be compared: numbers, texts that are laid, lists and tuples of such, not too deep -/
theorem depth_le {n : Nat} : ∀ {ds : List D}, (∀ d ∈ ds, d.depth ≤ n) → PyData.depthAll ds ≤ n
  | [], _ => Nat.zero_le _
  | d :: r, h => by
    unfold PyData.depthAll
    have := h d List.mem_cons_self
    have := depth_le (n := n) (ds := r) fun e m => h e (List.mem_cons_of_mem _ m)
    omega
theorem canLay_all : ∀ {ds : List D}, (∀ d ∈ ds, d.canLay0 = true) → PyData.canLayAll0 ds = true
  | [], _ => rfl
  | d :: r, h => by
    unfold PyData.canLayAll0
    rw [h d List.mem_cons_self, canLay_all fun e m => h e (List.mem_cons_of_mem _ m)]
    rfl
/-- of depth n at most -/
def Sh (n : Nat) (d : D) : Prop := d.canLay0 = true ∧ d.depth ≤ n
theorem Sh.mono {n m : Nat} {d : D} (h : Sh n d) (e : n ≤ m) : Sh m d := ⟨h.1, Nat.le_trans h.2 e⟩
theorem Sh.shaped {n : Nat} {d : D} (h : Sh n d) (hn : n ≤ 64) : SeqAt.shaped d = true := by
  unfold SeqAt.shaped
  rw [h.1, decide_eq_true (Nat.le_trans h.2 hn)]
  rfl
theorem sh_int {i : Int} : Sh 0 (.int i) := ⟨rfl, Nat.le_refl _⟩
theorem sh_bool {b : Bool} : Sh 0 (.bool b) := ⟨rfl, Nat.le_refl _⟩
theorem sh_none : Sh 0 .none := ⟨rfl, Nat.le_refl _⟩
theorem sh_list {n : Nat} {ds : List D} (h : ∀ d ∈ ds, Sh n d) : Sh (n + 1) (.list ds) := ⟨by unfold PyData.canLay0; exact canLay_all fun d m => (h d m).1, by unfold PyData.depth; exact Nat.succ_le_succ (depth_le fun d m => (h d m).2)⟩
theorem sh_tuple {n : Nat} {ds : List D} (h : ∀ d ∈ ds, Sh n d) : Sh (n + 1) (.tuple ds) := ⟨by unfold PyData.canLay0; exact canLay_all fun d m => (h d m).1, by unfold PyData.depth; exact Nat.succ_le_succ (depth_le fun d m => (h d m).2)⟩
theorem sh_fr {q : Rat} : Sh 1 (fr q) := ⟨rfl, Nat.le_refl _⟩
theorem sh_fls {qs : List Rat} : Sh 2 (.list (fls qs)) := sh_list fun d m => by
  obtain ⟨q, _, rfl⟩ := List.mem_map.mp m
  exact sh_fr
theorem sh_ints {ns : List Int} : Sh 1 (.list (ns.map PyData.int)) := sh_list fun d m => by
  obtain ⟨q, _, rfl⟩ := List.mem_map.mp m
  exact sh_int
/-! ### the script's numbers: their size -/
theorem log2_mono {n m : Nat} (h : n ≤ m) : n.log2 ≤ m.log2 := by
  by_cases h0 : n = 0
  · subst h0
    exact Nat.zero_le _
  · exact (Nat.le_log2 (by omega)).mpr (Nat.le_trans (Nat.log2_self_le h0) h)
theorem log2_bits {i : Int} {n : Nat} (h : Builtin.Int.intBits i ≤ n) : i.natAbs.log2 ≤ n := by
  unfold Builtin.Int.intBits at h
  split at h
  · rename_i z
    have : i = 0 := by simpa using z
    subst this
    exact Nat.zero_le _
  · omega
theorem cell_log2 {ns : List Int} (h : ∀ n ∈ ns, Builtin.Int.intBits n ≤ 1048576) (k : Int) : (cellAt ns k).natAbs.log2 ≤ 1048576 := by
  unfold cellAt
  rw [List.getD_eq_getElem?_getD]
  cases e : ns[k.toNat]? with
  | none => exact Nat.zero_le _
  | some n => exact log2_bits (h n (List.mem_of_getElem? e))
theorem div_log2 {c m : Int} {n : Nat} (h : c.natAbs.log2 ≤ n) : (c / m).natAbs.log2 ≤ n := Nat.le_trans (log2_mono (Int.natAbs_ediv_le_natAbs c m)) h
theorem cmul_log {i j : Int} {a b : Nat} (h1 : i.natAbs.log2 ≤ a) (h2 : j.natAbs.log2 ≤ b) (h : a + b < 100000000) : CMulB i j := by
  unfold CMulB
  omega
/-! ### constants of the module -/
theorem pe_gInt {X : Cx} {x : Str} {n : Int} {pos : Pos} (hg : Gl X x) (h : ∃ t, X.mg x = some (.int n t)) (hd : (x == ("__debug__" : Str)) = false := by decide) : PE X (.Name x pos) (tC (.int n)) := by
  obtain ⟨t, h⟩ := h
  exact pe_glob (v := .int n) hg h ⟨t, rfl⟩ hd
theorem pe_gStr {X : Cx} {x z : Str} {pos : Pos} (hg : Gl X x) (h : ∃ t, X.mg x = some (.str z t)) (hd : (x == ("__debug__" : Str)) = false := by decide) : PE X (.Name x pos) (tC (.str z)) := by
  obtain ⟨t, h⟩ := h
  exact pe_glob (v := .str z) hg h ⟨t, rfl⟩ hd
theorem dp_kT {K : Frag} {a : Addr} {dd : Option Addr} {its : Array Value} {n : Nat} {sl : Array (Option Value)} {vs : List V} {ds : List D} (l : K.lookup a = some ⟨.type "tuple", dd, .seq its n, sl⟩) (hv : Vals vs its.toList) (hd : ∀ H, DpAll K H vs ds) (hs : its.size ≤ 1000) : ∀ H, Dp K H (.ref a) (.tuple ds) := fun H =>
  .tup (.inr ⟨_, its, n, l, rfl, rfl, Nat.le_trans hs (by decide), hv⟩) (hd H)
/-! ### a list told over and over; picks -/
theorem dpa_rep {K : Frag} {R : Hp} {vs : List V} {ds : List D} (h : DpAll K R vs ds) : ∀ n : Nat, DpAll K R (List.replicate n vs).flatten (List.replicate n ds).flatten
  | 0 => .nil
  | n + 1 => by
    rw [List.replicate_succ, List.replicate_succ, List.flatten_cons, List.flatten_cons]
    exact dpa_append h (dpa_rep h n)
theorem a_rep {K : Frag} {ta tb : TE} {ρ : En} {ds : List D} {k : Int} (ha : EvM K ta ρ ds) (hb : Ev K tb ρ (.int k)) (h1 : -(2 ^ 63) ≤ k) (h2 : k < 2 ^ 63) (hz : ds.length * k.toNat ≤ 100000) : EvF K (tOp rRep ta tb) ρ (List.replicate k.toNat ds).flatten := fun R0 H0 R σ H a Q q =>
  ha R0 H0 R σ H a _ fun p vs R1 H1 g1 hp dx => hb R0 H0 R1 σ H1 (a.grow g1) _ fun y R2 H2 g2 dy => by
    cases dy
    have g := g1.trans g2
    refine ⟨p, k, vs, rfl, rfl, g2.hp _ _ hp, h1, h2, ?_, fun c hc => q c _ R2 _ (g.trans (Grow.hide g.sub hc)) (g.hp.free hc) (g.sub.free hc) upd_same (dpa_rep (dpa_mono g2.rd _ _ dx) _)⟩
    rw [dpa_len dx]
    exact Nat.le_trans hz (by decide)
theorem at_2 {α : Type} {a b : α} {k : Int} (h0 : 0 ≤ k) (h : k < 2) : atI [a, b] k = some (if k = 0 then a else b) := by
  rcases (by omega : k = 0 ∨ k = 1) with rfl | rfl <;> rfl
theorem at_3 {α : Type} {a b c : α} {k : Int} (h0 : 0 ≤ k) (h : k < 3) : atI [a, b, c] k = some (if k = 0 then a else if k = 1 then b else c) := by
  rcases (by omega : k = 0 ∨ k = 1 ∨ k = 2) with rfl | rfl | rfl <;> rfl
end Pu

set_option maxRecDepth 100000
namespace Pu
open PySem PySem.Spec PyProof.Rows L2
/-! ### broken lines -/
abbrev Pt := Rat × Rat
def pt (p : Pt) : D := .tuple [fr p.1, fr p.2]
def pts (ps : List Pt) : List D := ps.map pt
def bp (p : Pt) (n : Nat) : Prop := bt p.1 n ∧ bt p.2 n
def bl (ps : List Pt) (n : Nat) : Prop := ∀ p ∈ ps, bp p n
def straight (a b c : Pt) : Prop := (b.2 - a.2) * (c.1 - b.1) = (c.2 - b.2) * (b.1 - a.1)
instance (a b c : Pt) : Decidable (straight a b c) := inferInstanceAs (Decidable (_ = _))
/-- on and never down -/
def goodFrom : Pt → List Pt → Prop
  | _, [] => True
  | p, q :: r => p.1 < q.1 ∧ p.2 ≤ q.2 ∧ goodFrom q r
def goodDec : (p : Pt) → (r : List Pt) → Decidable (goodFrom p r)
  | _, [] => .isTrue trivial
  | p, q :: r =>
    have := goodDec q r
    inferInstanceAs (Decidable (p.1 < q.1 ∧ p.2 ≤ q.2 ∧ goodFrom q r))
instance (p : Pt) (r : List Pt) : Decidable (goodFrom p r) := goodDec p r
def GoodL : List Pt → Prop
  | [] => False
  | p :: r => p = (0, 0) ∧ goodFrom p r
instance : (ps : List Pt) → Decidable (GoodL ps)
  | [] => .isFalse id
  | p :: r => inferInstanceAs (Decidable (p = (0, 0) ∧ goodFrom p r))
/-- told with as few as can be: the points kept, the last one first -/
def addS : List Pt → Pt → List Pt
  | b :: a :: st, p => if straight a b p then p :: a :: st else p :: b :: a :: st
  | st, p => p :: st
theorem addS_more (a b p : Pt) (st : List Pt) : addS (b :: a :: st) p = if straight a b p then p :: a :: st else p :: b :: a :: st := rfl
def lineOf (ps : List Pt) : List Pt := (ps.foldl addS []).reverse
/-- the same from the left: a kept, b not yet -/
def red : Pt → Pt → List Pt → List Pt
  | _, b, [] => [b]
  | a, b, p :: r => if straight a b p then red a p r else b :: red b p r
theorem foldl_red : ∀ (r : List Pt) (a b : Pt) (st : List Pt), (r.foldl addS (b :: a :: st)).reverse = st.reverse ++ a :: red a b r
  | [], a, b, st => by
    show (b :: a :: st).reverse = st.reverse ++ [a, b]
    simp
  | p :: r, a, b, st => by
    show (r.foldl addS (if straight a b p then p :: a :: st else p :: b :: a :: st)).reverse = st.reverse ++ a :: (if straight a b p then red a p r else b :: red b p r)
    by_cases h : straight a b p
    · rw [if_pos h, if_pos h]
      exact foldl_red r a p st
    · rw [if_neg h, if_neg h, foldl_red r b p (a :: st)]
      simp
theorem lineOf_nil : lineOf [] = [] := rfl
theorem lineOf_one (a : Pt) : lineOf [a] = [a] := rfl
theorem lineOf_more (a b : Pt) (r : List Pt) : lineOf (a :: b :: r) = a :: red a b r := by
  show (r.foldl addS [b, a]).reverse = _
  rw [foldl_red r a b []]
  rfl
theorem red_ne (a b : Pt) : ∀ r : List Pt, red a b r ≠ []
  | [] => by simp [red]
  | p :: r => by
    unfold red
    split
    · exact red_ne a p r
    · simp
/-! #### values -/
def interp (p q : Pt) (x : Rat) : Rat := p.2 + (x - p.1) * ((q.2 - p.2) / (q.1 - p.1))
def evF : Pt → List Pt → Rat → Rat
  | p, [], _ => p.2
  | p, q :: r, x => if x ≤ q.1 then interp p q x else evF q r x
def lineEv : List Pt → Rat → Rat
  | [], _ => 0
  | p :: r, x => evF p r x
def lastP : Pt → List Pt → Pt
  | p, [] => p
  | _, q :: r => lastP q r
theorem interp_ends {a b : Pt} (h : a.1 < b.1) : interp a b a.1 = a.2 ∧ interp a b b.1 = b.2 := by
  unfold interp
  have e : b.1 - a.1 ≠ 0 := by grind
  constructor <;> grind
theorem interp_left {a b p : Pt} {x : Rat} (h1 : a.1 < b.1) (h2 : b.1 < p.1) (hs : straight a b p) : interp a p x = interp a b x := by
  unfold straight at hs
  unfold interp
  have e1 : p.1 - a.1 ≠ 0 := by grind
  have e3 : b.1 - a.1 ≠ 0 := by grind
  grind
theorem interp_right {a b p : Pt} {x : Rat} (h1 : a.1 < b.1) (h2 : b.1 < p.1) (hs : straight a b p) : interp a p x = interp b p x := by
  unfold straight at hs
  unfold interp
  have e1 : p.1 - a.1 ≠ 0 := by grind
  have e2 : p.1 - b.1 ≠ 0 := by grind
  have e3 : b.1 - a.1 ≠ 0 := by grind
  grind
theorem straight_of_interp {a b p : Pt} (h1 : a.1 < b.1) (h2 : b.1 < p.1) (h : interp a p b.1 = b.2) : straight a b p := by
  unfold interp at h
  unfold straight
  have e1 : p.1 - a.1 ≠ 0 := by grind
  grind
theorem goodFrom_skip {a b p : Pt} {r : List Pt} (h : goodFrom a (b :: p :: r)) : goodFrom a (p :: r) := by
  obtain ⟨h1, h2, h3, h4, h5⟩ := h
  exact ⟨by grind, by grind, h5⟩
theorem red_good : ∀ (r : List Pt) (a b : Pt), goodFrom a (b :: r) → goodFrom a (red a b r)
  | [], a, b, h => h
  | p :: r, a, b, h => by
    unfold red
    split
    · exact red_good r a p (goodFrom_skip h)
    · exact ⟨h.1, h.2.1, red_good r b p h.2.2⟩
theorem red_last : ∀ (r : List Pt) (a b c : Pt), lastP c (red a b r) = lastP c (b :: r)
  | [], a, b, c => rfl
  | p :: r, a, b, c => by
    unfold red
    split
    · rw [red_last r a p c]
      rfl
    · show lastP b (red b p r) = _
      rw [red_last r b p b]
      rfl
theorem red_ev : ∀ (r : List Pt) (a b : Pt) (x : Rat), goodFrom a (b :: r) → evF a (red a b r) x = evF a (b :: r) x
  | [], a, b, x, _ => rfl
  | p :: r, a, b, x, h => by
    obtain ⟨h1, h2, h3, h4, h5⟩ := id h
    unfold red
    split
    · rename_i hs
      rw [red_ev r a p x (goodFrom_skip h)]
      show (if x ≤ p.1 then interp a p x else evF p r x) = (if x ≤ b.1 then interp a b x else if x ≤ p.1 then interp b p x else evF p r x)
      by_cases c1 : x ≤ b.1
      · rw [if_pos c1, if_pos (show x ≤ p.1 by grind), interp_left h1 h3 hs]
      · rw [if_neg c1]
        by_cases c2 : x ≤ p.1
        · rw [if_pos c2, if_pos c2, interp_right h1 h3 hs]
        · rw [if_neg c2, if_neg c2]
    · show (if x ≤ b.1 then interp a b x else evF b (red b p r) x) = (if x ≤ b.1 then interp a b x else evF b (p :: r) x)
      rw [red_ev r b p x h.2.2]
/-- no point lies straight between its neighbours -/
def canonFrom : Pt → List Pt → Prop
  | a, b :: c :: r => ¬ straight a b c ∧ canonFrom b (c :: r)
  | _, _ => True
def canonDec : (p : Pt) → (r : List Pt) → Decidable (canonFrom p r)
  | _, [] => .isTrue trivial
  | _, [_] => .isTrue trivial
  | a, b :: c :: r =>
    have := canonDec b (c :: r)
    inferInstanceAs (Decidable (¬ straight a b c ∧ canonFrom b (c :: r)))
theorem straight_dir {a b c p : Pt} (h1 : a.1 < b.1) (h2 : b.1 < p.1) (h3 : b.1 < c.1) (hc : (c.2 - b.2) * (p.1 - b.1) = (p.2 - b.2) * (c.1 - b.1)) : straight a b c ↔ straight a b p := by
  unfold straight
  have e1 : p.1 - b.1 ≠ 0 := by grind
  have e2 : c.1 - b.1 ≠ 0 := by grind
  have e3 : b.1 - a.1 ≠ 0 := by grind
  constructor
  · intro h
    grind
  · intro h
    grind
/-- the first point kept lies in the first step's direction -/
theorem red_head : ∀ (r : List Pt) (a b : Pt), goodFrom a (b :: r) → ∃ c s, red a b r = c :: s ∧ a.1 < c.1 ∧ (c.2 - a.2) * (b.1 - a.1) = (b.2 - a.2) * (c.1 - a.1)
  | [], a, b, h => ⟨b, [], rfl, h.1, rfl⟩
  | p :: r, a, b, h => by
    obtain ⟨h1, h2, h3, h4, h5⟩ := id h
    unfold red
    split
    · rename_i hs
      obtain ⟨c, s, e, g1, g2⟩ := red_head r a p (goodFrom_skip h)
      refine ⟨c, s, e, g1, ?_⟩
      unfold straight at hs
      have e1 : p.1 - a.1 ≠ 0 := by grind
      have e3 : b.1 - a.1 ≠ 0 := by grind
      grind
    · exact ⟨b, red b p r, rfl, h1, rfl⟩
theorem red_canon : ∀ (r : List Pt) (a b : Pt), goodFrom a (b :: r) → canonFrom a (red a b r)
  | [], a, b, _ => trivial
  | p :: r, a, b, h => by
    obtain ⟨h1, h2, h3, h4, h5⟩ := id h
    unfold red
    split
    · exact red_canon r a p (goodFrom_skip h)
    · rename_i hs
      obtain ⟨c, s, e, g1, g2⟩ := red_head r b p h.2.2
      have ih := red_canon r b p h.2.2
      rw [e] at ih ⊢
      exact ⟨fun z => hs ((straight_dir h1 h3 g1 g2).mp z), ih⟩
/-- of canonical lines there is just one for each course -/
theorem evF_at {a b : Pt} {r : List Pt} {x : Rat} (h : x ≤ b.1) : evF a (b :: r) x = interp a b x := if_pos h
theorem evF_beyond {a b : Pt} {r : List Pt} {x : Rat} (h : ¬ x ≤ b.1) : evF a (b :: r) x = evF b r x := if_neg h
theorem lastP_ge : ∀ (r : List Pt) (a : Pt), goodFrom a r → a.1 ≤ (lastP a r).1
  | [], a, _ => Rat.le_refl
  | b :: r, a, h => by
    have := lastP_ge r b h.2.2
    have := h.1
    show a.1 ≤ (lastP b r).1
    grind
theorem canon_step {a b q : Pt} {r s : List Pt} (hg : goodFrom a (b :: r)) (hs : goodFrom a (q :: s)) (hc : canonFrom a (b :: r)) (hl : (lastP a (b :: r)).1 = (lastP a (q :: s)).1)
    (he : ∀ x, a.1 ≤ x → x ≤ (lastP a (b :: r)).1 → evF a (b :: r) x = evF a (q :: s) x) (hbq : b.1 < q.1) : False := by
  obtain ⟨h1, h2, h3⟩ := id hg
  have hql : q.1 ≤ (lastP a (q :: s)).1 := lastP_ge s q hs.2.2
  cases r with
  | nil =>
    have hl' : b.1 = (lastP a (q :: s)).1 := hl
    grind
  | cons c t =>
    obtain ⟨h4, h5, h6⟩ := id h3
    have hL : c.1 ≤ (lastP a (b :: c :: t)).1 := lastP_ge t c h6
    -- a place beyond b that is on the first way of the other line
    have key : ∀ m : Rat, b.1 < m → m ≤ c.1 → m ≤ q.1 → interp b c m = interp a q m := fun m m1 m2 m3 => by
      have z := he m (by grind) (by grind)
      rw [evF_beyond (by grind), evF_at m2, evF_at m3] at z
      exact z
    have hb : b.2 = interp a q b.1 := by
      have z := he b.1 (by grind) (by grind)
      rw [evF_at Rat.le_refl, evF_at (by grind), (interp_ends h1).2] at z
      exact z
    have e1 : q.1 - a.1 ≠ 0 := by grind
    have e2 : b.1 - a.1 ≠ 0 := by grind
    have e3 : c.1 - b.1 ≠ 0 := by grind
    refine hc.1 ?_
    by_cases hcq : c.1 ≤ q.1
    · have z := key c.1 h4 Rat.le_refl hcq
      rw [(interp_ends h4).2] at z
      unfold interp at hb z
      unfold straight
      grind
    · have z := key q.1 hbq (by grind) Rat.le_refl
      unfold interp at hb z
      unfold straight
      have e4 : q.1 - b.1 ≠ 0 := by grind
      grind
theorem canon_uniq : ∀ (r s : List Pt) (a : Pt), goodFrom a r → goodFrom a s → canonFrom a r → canonFrom a s → (lastP a r).1 = (lastP a s).1 → (∀ x, a.1 ≤ x → x ≤ (lastP a r).1 → evF a r x = evF a s x) → r = s
  | [], [], _, _, _, _, _, _, _ => rfl
  | [], q :: s, a, _, hs, _, _, hl, _ => by
    have := lastP_ge s q hs.2.2
    have := hs.1
    have hl' : a.1 = (lastP q s).1 := hl
    grind
  | b :: r, [], a, hg, _, _, _, hl, _ => by
    have := lastP_ge r b hg.2.2
    have := hg.1
    have hl' : (lastP b r).1 = a.1 := hl
    grind
  | b :: r, q :: s, a, hg, hs, hc, hd, hl, he => by
    have hbq : b.1 = q.1 := by
      rcases Rat.le_iff_lt_or_eq.mp (Rat.le_total (a := b.1) (b := q.1) |>.elim id fun h => by
        rcases Rat.le_iff_lt_or_eq.mp h with z | z
        · exact (canon_step hs hg hd hl.symm (fun x h1 h2 => (he x h1 (by rw [hl]; exact h2)).symm) z).elim
        · rw [z]; exact Rat.le_refl) with z | z
      · exact (canon_step hg hs hc hl he z).elim
      · exact z
    have hL : b.1 ≤ (lastP a (b :: r)).1 := lastP_ge r b hg.2.2
    have h2 : b.2 = q.2 := by
      have z := he b.1 (by have := hg.1; grind) hL
      rw [evF_at Rat.le_refl, evF_at (by rw [hbq]; exact Rat.le_refl), (interp_ends hg.1).2, hbq, (interp_ends hs.1).2] at z
      exact z
    obtain rfl : b = q := Prod.ext hbq h2
    have hcr : canonFrom b r := by
      cases r with
      | nil => trivial
      | cons c t => exact hc.2
    have hds : canonFrom b s := by
      cases s with
      | nil => trivial
      | cons c t => exact hd.2
    have ih := canon_uniq r s b hg.2.2 hs.2.2 hcr hds hl fun x h1 h2' => by
      have hL' : x ≤ (lastP b r).1 := h2'
      by_cases hx : x ≤ b.1
      · have ex : x = b.1 := by grind
        subst ex
        have f : ∀ t, goodFrom b t → evF b t b.1 = b.2 := fun t ht => by
          cases t with
          | nil => rfl
          | cons c t => rw [evF_at (by have := ht.1; grind), (interp_ends ht.1).1]
        rw [f r hg.2.2, f s hs.2.2]
      · have z := he x (by have := hg.1; grind) h2'
        rw [evF_beyond hx, evF_beyond hx] at z
        exact z
    rw [ih]
/-! ### what the program's lines do -/
theorem bl_mono {ps : List Pt} {n m : Nat} (h : bl ps n) (e : n ≤ m) : bl ps m := fun p hp => ⟨(h p hp).1.mono e, (h p hp).2.mono e⟩
theorem pts_get {ps : List Pt} {i : Nat} {d : D} (h : (pts ps)[i]? = some d) : ∃ p, ps[i]? = some p ∧ d = pt p := by
  unfold pts at h
  rw [List.getElem?_map] at h
  cases e : ps[i]? with
  | none => rw [e] at h; cases h
  | some q => rw [e] at h; exact ⟨q, rfl, (Option.some.inj h).symm⟩
theorem pts_len (ps : List Pt) : (pts ps).length = ps.length := List.length_map _
theorem pts_at {ps : List Pt} {i : Nat} {p : Pt} (h : ps[i]? = some p) : atI (pts ps) (i : Int) = some (pt p) := atI_nat (by unfold pts; rw [List.getElem?_map, h]; rfl)
theorem pts_at' {ps : List Pt} {k : Int} {i : Nat} {p : Pt} (hk : k = (i : Int)) (h : ps[i]? = some p) : atI (pts ps) k = some (pt p) := by
  rw [hk]
  exact pts_at h
theorem pts_append (ps qs : List Pt) : pts (ps ++ qs) = pts ps ++ pts qs := List.map_append
theorem atI_last1 {α : Type} (xs : List α) (x : α) : atI (xs ++ [x]) (-1) = some x := by
  refine atI_of (j := xs.length) ?_ ?_
  · unfold ixN
    rw [List.length_append, List.length_singleton]
    rw [if_neg (by omega), if_pos (by omega)]
    congr 1
    omega
  · simp
theorem atI_last2 {α : Type} (xs : List α) (y x : α) : atI (xs ++ [y, x]) (-2) = some y := by
  refine atI_of (j := xs.length) ?_ ?_
  · unfold ixN
    rw [List.length_append]
    show (if 0 ≤ (-2 : Int) then _ else _) = _
    rw [if_neg (by omega), if_pos (by simp; omega)]
    congr 1
    simp
    omega
  · simp
theorem pt_eqv (p q : Pt) : PyData.eqv (pt p) (pt q) = decide (p = q) := by
  show (PyData.eqv (fr p.1) (fr q.1) && (PyData.eqv (fr p.2) (fr q.2) && true)) = decide (p = q)
  rw [fr_eqv, fr_eqv, Bool.and_true]
  by_cases h1 : p.1 = q.1
  · by_cases h2 : p.2 = q.2
    · rw [decide_eq_true h1, decide_eq_true h2, decide_eq_true (Prod.ext h1 h2)]
      rfl
    · rw [decide_eq_false h2, Bool.and_false, decide_eq_false (fun z => h2 (by rw [z]))]
  · rw [decide_eq_false h1, Bool.false_and, decide_eq_false (fun z => h1 (by rw [z]))]
theorem pts_eqv : ∀ (ps qs : List Pt), PyData.eqvAll (pts ps) (pts qs) = decide (ps = qs)
  | [], [] => rfl
  | [], _ :: _ => rfl
  | _ :: _, [] => rfl
  | p :: ps, q :: qs => by
    show (PyData.eqv (pt p) (pt q) && PyData.eqvAll (pts ps) (pts qs)) = decide (p :: ps = q :: qs)
    rw [pt_eqv, pts_eqv ps qs]
    by_cases h1 : p = q
    · by_cases h2 : ps = qs
      · subst h1 h2; simp
      · rw [decide_eq_false h2, Bool.and_false, decide_eq_false (fun z => h2 (List.cons.inj z).2)]
    · rw [decide_eq_false h1, Bool.false_and, decide_eq_false (fun z => h1 (List.cons.inj z).1)]
theorem sh_pt {p : Pt} : Sh 2 (pt p) := ⟨rfl, Nat.le_refl _⟩
theorem sh_ptsL {ps : List Pt} : Sh 3 (.list (pts ps)) := sh_list fun d m => by
  obtain ⟨q, _, rfl⟩ := List.mem_map.mp m
  exact sh_pt
theorem sh_ptsT {ps : List Pt} : Sh 3 (.tuple (pts ps)) := sh_tuple fun d m => by
  obtain ⟨q, _, rfl⟩ := List.mem_map.mp m
  exact sh_pt
/-- a list or a tuple -/
def SeqD (d : D) (ds : List D) : Prop := d = .list ds ∨ d = .tuple ds
/-- top and bottom of the second less the first -/
def gapN (p q : Rat) : Int := q.num * (p.den : Int) - p.num * (q.den : Int)
def gapD (p q : Rat) : Int := (p.den : Int) * (q.den : Int)
def cGap : Ct := fun ds k => ∃ (p q : Rat) (n : Nat), ds = [fr p, fr q] ∧ bt p n ∧ bt q n ∧ n ≤ 10000000 ∧ k.rt (.tuple [.int (gapN p q), .int (gapD p q)])
theorem gap_v {p q : Rat} {n : Nat} (hp : bt p n) (hq : bt q n) (h : n ≤ 10000000) : cGap [fr p, fr q] (kv (.tuple [.int (gapN p q), .int (gapD p q)])) := ⟨p, q, n, rfl, hp, hq, h, rfl⟩
theorem gapD_pos (p q : Rat) : 0 < gapD p q := Int.mul_pos (by have := p.den_pos; omega) (by have := q.den_pos; omega)
theorem gap_bits {p q : Rat} {n : Nat} (hp : bt p n) (hq : bt q n) : (gapN p q).natAbs < 2 ^ (2 * n + 1) ∧ (gapD p q).natAbs < 2 ^ (2 * n) := by
  have e : n + n = 2 * n := by omega
  refine ⟨abs_sub_lt (a := n + n) (b := n + n) (abs_mul_lt hq.1 (j := (p.den : Int)) hp.2) (abs_mul_lt hp.1 (j := (q.den : Int)) hq.2) (by omega) (by omega), ?_⟩
  have := abs_mul_lt (i := (p.den : Int)) hp.2 (j := (q.den : Int)) hq.2
  rw [e] at this
  exact this
theorem mk_rat (q : Rat) : (q.num : Rat) = q * (q.den : Rat) := by
  have h := Rat.divInt_eq_div q.num (q.den : Int)
  rw [q_mk] at h
  have hd : ((q.den : Int) : Rat) ≠ 0 := fun z => den_ne q (Rat.intCast_inj.mp z)
  rw [Rat.intCast_natCast] at h hd
  grind
theorem gap_rat (p q : Rat) : (gapN p q : Rat) = (q - p) * (gapD p q : Rat) ∧ (gapD p q : Rat) ≠ 0 := by
  have h1 := mk_rat p
  have h2 := mk_rat q
  constructor
  · unfold gapN gapD
    rw [Rat.intCast_sub, Rat.intCast_mul, Rat.intCast_mul, Rat.intCast_mul, Rat.intCast_natCast, Rat.intCast_natCast, h1, h2]
    grind
  · intro z
    have := Rat.intCast_eq_zero_iff.mp z
    have := gapD_pos p q
    omega
def slN (a b : Pt) : Int := gapN a.2 b.2 * gapD a.1 b.1
def slD (a b : Pt) : Int := gapD a.2 b.2 * gapN a.1 b.1
def cSlope : Ct := fun ds k => ∃ (a b : Pt) (n : Nat), ds = [pt a, pt b] ∧ bp a n ∧ bp b n ∧ n ≤ 5000000 ∧ k.rt (.tuple [.int (slN a b), .int (slD a b)])
theorem slope_v {a b : Pt} {n : Nat} (hp : bp a n) (hq : bp b n) (h : n ≤ 5000000) : cSlope [pt a, pt b] (kv (.tuple [.int (slN a b), .int (slD a b)])) := ⟨a, b, n, rfl, hp, hq, h, rfl⟩
theorem slope_bits {a b : Pt} {n : Nat} (hp : bp a n) (hq : bp b n) : (slN a b).natAbs < 2 ^ (4 * n + 1) ∧ (slD a b).natAbs < 2 ^ (4 * n + 1) := by
  obtain ⟨h1, h2⟩ := gap_bits hp.1 hq.1
  obtain ⟨h3, h4⟩ := gap_bits hp.2 hq.2
  have e1 : 2 * n + 1 + 2 * n = 4 * n + 1 := by omega
  have e2 : 2 * n + (2 * n + 1) = 4 * n + 1 := by omega
  refine ⟨?_, ?_⟩
  · have := abs_mul_lt h3 h2
    rw [e1] at this
    exact this
  · have := abs_mul_lt h4 h1
    rw [e2] at this
    exact this
theorem slope_rat (a b : Pt) : ∃ e : Rat, e ≠ 0 ∧ (slN a b : Rat) = (b.2 - a.2) * e ∧ (slD a b : Rat) = (b.1 - a.1) * e := by
  obtain ⟨h1, h2⟩ := gap_rat a.1 b.1
  obtain ⟨h3, h4⟩ := gap_rat a.2 b.2
  refine ⟨(gapD a.1 b.1 : Rat) * (gapD a.2 b.2 : Rat), ?_, ?_, ?_⟩
  · intro z
    rcases Rat.mul_eq_zero.mp z with q | q
    · exact h2 q
    · exact h4 q
  · unfold slN
    rw [Rat.intCast_mul, h3]
    grind
  · unfold slD
    rw [Rat.intCast_mul, h1]
    grind
theorem straight_iff (a b c : Pt) : slN a b * slD b c = slN b c * slD a b ↔ straight a b c := by
  obtain ⟨e, he, h1, h2⟩ := slope_rat a b
  obtain ⟨f, hf, h3, h4⟩ := slope_rat b c
  have z : slN a b * slD b c = slN b c * slD a b ↔ ((slN a b * slD b c : Int) : Rat) = ((slN b c * slD a b : Int) : Rat) := Rat.intCast_inj.symm
  rw [z, Rat.intCast_mul, Rat.intCast_mul, h1, h2, h3, h4]
  unfold straight
  constructor
  · intro h
    grind
  · intro h
    grind
def cStraight : Ct := fun ds k => ∃ (a b c : Pt) (n : Nat), ds = [pt a, pt b, pt c] ∧ bp a n ∧ bp b n ∧ bp c n ∧ n ≤ 2000000 ∧ k.rt (.bool (decide (straight a b c)))
theorem straight_v {a b c : Pt} {n : Nat} (ha : bp a n) (hb : bp b n) (hc : bp c n) (h : n ≤ 2000000) : cStraight [pt a, pt b, pt c] (kv (.bool (decide (straight a b c)))) := ⟨a, b, c, n, rfl, ha, hb, hc, h, rfl⟩
def cLook (C : Addr) : Ct := fun ds k => ∃ (d : D) (ps : List Pt) (n : Nat), ds = [d] ∧ SeqD d (pts ps) ∧ bl ps n ∧ n ≤ 10000000 ∧ ps.length ≤ 100000 ∧ (¬ GoodL ps → k.ex (.ref C)) ∧ (GoodL ps → k.rt .none)
def cLineOf (C : Addr) : Ct := fun ds k => ∃ (d : D) (ps : List Pt) (n : Nat), ds = [d] ∧ SeqD d (pts ps) ∧ bl ps n ∧ n ≤ 2000000 ∧ ps.length ≤ 100000 ∧ (¬ GoodL ps → k.ex (.ref C)) ∧ (GoodL ps → k.rt (.tuple (pts (lineOf ps))))
theorem lineOf_v {C : Addr} {d : D} {ps : List Pt} {n : Nat} (hd : SeqD d (pts ps)) (hb : bl ps n) (hn : n ≤ 2000000) (hl : ps.length ≤ 100000) (hg : GoodL ps) : cLineOf C [d] (kv (.tuple (pts (lineOf ps)))) :=
  ⟨d, ps, n, rfl, hd, hb, hn, hl, fun z => absurd hg z, fun _ => rfl⟩
theorem lineOf_x {C : Addr} {d : D} {ps : List Pt} {n : Nat} (hd : SeqD d (pts ps)) (hb : bl ps n) (hn : n ≤ 2000000) (hl : ps.length ≤ 100000) (hg : ¬ GoodL ps) : cLineOf C [d] (kx (.ref C)) :=
  ⟨d, ps, n, rfl, hd, hb, hn, hl, fun _ => rfl, fun z => absurd z hg⟩
/-- a line's end -/
def lineEnd (ps : List Pt) : Pt := match ps with | [] => (0, 0) | p :: r => lastP p r
theorem lastP_mem : ∀ (r : List Pt) (a : Pt), lastP a r ∈ a :: r
  | [], a => List.mem_cons_self
  | b :: r, a => List.mem_cons_of_mem _ (lastP_mem r b)
theorem lastP_at : ∀ (r : List Pt) (a : Pt), ∃ s, a :: r = s ++ [lastP a r]
  | [], a => ⟨[], rfl⟩
  | b :: r, a => by
    obtain ⟨s, e⟩ := lastP_at r b
    exact ⟨a :: s, congrArg (a :: ·) e⟩
theorem lineEnd_at {ps : List Pt} (h : ps ≠ []) : atI (pts ps) (-1) = some (pt (lineEnd ps)) := by
  cases ps with
  | nil => exact absurd rfl h
  | cons a r =>
    obtain ⟨s, e⟩ := lastP_at r a
    show atI (pts (a :: r)) (-1) = some (pt (lastP a r))
    rw [e, pts_append]
    exact atI_last1 _ _
def cLength : Ct := fun ds k => ∃ ps : List Pt, ds = [.tuple (pts ps)] ∧ ps ≠ [] ∧ k.rt (fr (lineEnd ps).1)
theorem length_v {ps : List Pt} (h : ps ≠ []) : cLength [.tuple (pts ps)] (kv (fr (lineEnd ps).1)) := ⟨ps, rfl, h, rfl⟩
def cHeight : Ct := fun ds k => ∃ ps : List Pt, ds = [.tuple (pts ps)] ∧ ps ≠ [] ∧ k.rt (fr (lineEnd ps).2)
theorem height_v {ps : List Pt} (h : ps ≠ []) : cHeight [.tuple (pts ps)] (kv (fr (lineEnd ps).2)) := ⟨ps, rfl, h, rfl⟩
/-! ### lines told with fewest points -/
theorem red_id : ∀ (r : List Pt) (a b : Pt), canonFrom a (b :: r) → red a b r = b :: r
  | [], a, b, _ => rfl
  | c :: r, a, b, h => by
    unfold red
    rw [if_neg h.1, red_id r b c h.2]
theorem red_mem : ∀ (r : List Pt) (a b p : Pt), p ∈ red a b r → p ∈ b :: r
  | [], a, b, p, h => h
  | c :: r, a, b, p, h => by
    unfold red at h
    split at h
    · exact List.mem_cons_of_mem _ (red_mem r a c p h)
    · rcases List.mem_cons.mp h with rfl | h
      · exact List.mem_cons_self
      · exact List.mem_cons_of_mem _ (red_mem r b c p h)
def Canon : List Pt → Prop
  | [] => True
  | a :: r => canonFrom a r
theorem goodL_ne {ps : List Pt} (h : GoodL ps) : ps ≠ [] := fun z => by
  subst z
  exact h
theorem lineOf_good {ps : List Pt} (h : GoodL ps) : GoodL (lineOf ps) := by
  match ps, h with
  | [a], h => exact h
  | a :: b :: r, h =>
    rw [lineOf_more]
    exact ⟨h.1, red_good r a b h.2⟩
theorem lineOf_canon {ps : List Pt} (h : GoodL ps) : Canon (lineOf ps) := by
  match ps, h with
  | [a], h => exact trivial
  | a :: b :: r, h =>
    rw [lineOf_more]
    exact red_canon r a b h.2
theorem lineOf_id {ps : List Pt} (h : Canon ps) : lineOf ps = ps := by
  match ps, h with
  | [], _ => rfl
  | [a], _ => rfl
  | a :: b :: r, h =>
    rw [lineOf_more, red_id r a b h]
theorem lineOf_end {ps : List Pt} : lineEnd (lineOf ps) = lineEnd ps := by
  match ps with
  | [] => rfl
  | [a] => rfl
  | a :: b :: r =>
    rw [lineOf_more]
    exact red_last r a b a
theorem lineOf_mem {ps : List Pt} {p : Pt} (h : p ∈ lineOf ps) : p ∈ ps := by
  match ps, h with
  | [a], h => exact h
  | a :: b :: r, h =>
    rw [lineOf_more] at h
    rcases List.mem_cons.mp h with rfl | h
    · exact List.mem_cons_self
    · exact List.mem_cons_of_mem _ (red_mem r a b p h)
theorem lineOf_bl {ps : List Pt} {n : Nat} (h : bl ps n) : bl (lineOf ps) n := fun p hp => h p (lineOf_mem hp)
theorem lineOf_ev {ps : List Pt} (h : GoodL ps) (x : Rat) : lineEv (lineOf ps) x = lineEv ps x := by
  match ps, h with
  | [a], h => rfl
  | a :: b :: r, h =>
    rw [lineOf_more]
    exact red_ev r a b x h.2
theorem red_len : ∀ (r : List Pt) (a b : Pt), (red a b r).length ≤ r.length + 1
  | [], a, b => Nat.le_refl _
  | c :: r, a, b => by
    unfold red
    split
    · have := red_len r a c
      simp
      omega
    · have := red_len r b c
      simp
      omega
theorem lineOf_len (ps : List Pt) : (lineOf ps).length ≤ ps.length := by
  match ps with
  | [] => exact Nat.le_refl _
  | [a] => exact Nat.le_refl _
  | a :: b :: r =>
    rw [lineOf_more]
    have := red_len r a b
    simp
    omega
theorem mem_cut {α : Type} {xs : List α} {i k : Nat} {x : α} (h : x ∈ (xs.take k).drop i) : x ∈ xs := List.mem_of_mem_take (List.mem_of_mem_drop h)
theorem cut_ints (ns : List Int) (i k : Nat) : cutD (ns.map PyData.int) (some (i : Int)) (some (k : Int)) = ((ns.take k).drop i).map PyData.int := by
  rw [cut_mid, ← List.map_take, ← List.map_drop]
theorem cut_intsL (ns : List Int) (i k : Nat) : ((ns.take k).drop i).length ≤ k - i := by
  rw [List.length_drop, List.length_take]
  omega
theorem tuple_eqv (xs ys : List D) : PyData.eqv (.tuple xs) (.tuple ys) = PyData.eqvAll xs ys := rfl
theorem list_eqv (xs ys : List D) : PyData.eqv (.list xs) (.list ys) = PyData.eqvAll xs ys := rfl
theorem log2_le {ns : List Int} (h : ∀ n ∈ ns, Builtin.Int.intBits n ≤ 1048576) : ∀ n ∈ ns, n.natAbs.log2 ≤ 1048576 := fun n hn => log2_bits (h n hn)
/-! #### values found -/
theorem goodFrom_le : ∀ (r : List Pt) (a : Pt) (j : Nat) (p : Pt), goodFrom a r → (a :: r)[j]? = some p → a.1 ≤ p.1
  | r, a, 0, p, _, h => by
    obtain rfl := Option.some.inj h
    exact Rat.le_refl
  | [], a, j + 1, p, _, h => by simp at h
  | b :: r, a, j + 1, p, g, h => by
    have := goodFrom_le r b j p g.2.2 h
    have := g.1
    grind
theorem goodFrom_lt {r : List Pt} {a p : Pt} {j : Nat} (g : goodFrom a r) (h : (a :: r)[j + 1]? = some p) : a.1 < p.1 := by
  cases r with
  | nil => simp at h
  | cons b r =>
    have := goodFrom_le r b j p g.2.2 h
    have := g.1
    grind
theorem evF_seg : ∀ (r : List Pt) (a : Pt) (j : Nat) (p q : Pt) (x : Rat), goodFrom a r → (a :: r)[j]? = some p → (a :: r)[j + 1]? = some q → p.1 < x → x ≤ q.1 → evF a r x = interp p q x
  | [], a, j, p, q, x, _, _, h, _, _ => by simp at h
  | b :: r, a, 0, p, q, x, _, hp, hq, _, h2 => by
    obtain rfl := Option.some.inj hp
    obtain rfl := Option.some.inj hq
    exact evF_at h2
  | b :: r, a, j + 1, p, q, x, g, hp, hq, h1, h2 => by
    have := goodFrom_le r b j p g.2.2 hp
    rw [evF_beyond (by grind)]
    exact evF_seg r b j p q x g.2.2 hp hq h1 h2
theorem evF_pt : ∀ (r : List Pt) (a : Pt) (j : Nat) (p : Pt), goodFrom a r → (a :: r)[j]? = some p → evF a r p.1 = p.2
  | [], a, 0, p, _, h => by
    obtain rfl := Option.some.inj h
    rfl
  | [], a, j + 1, p, _, h => by simp at h
  | b :: r, a, 0, p, g, h => by
    obtain rfl := Option.some.inj h
    have := g.1
    rw [evF_at (by grind)]
    exact (interp_ends g.1).1
  | b :: r, a, 1, p, g, h => by
    obtain rfl : b = p := Option.some.inj h
    rw [evF_at Rat.le_refl]
    exact (interp_ends g.1).2
  | b :: r, a, j + 2, p, g, h => by
    have := goodFrom_lt g.2.2 (j := j) h
    rw [evF_beyond (by grind)]
    exact evF_pt r b (j + 1) p g.2.2 h
theorem lineEv_pt {ps : List Pt} {j : Nat} {p : Pt} (g : GoodL ps) (h : ps[j]? = some p) : lineEv ps p.1 = p.2 := by
  cases ps with
  | nil => cases h
  | cons a r => exact evF_pt r a j p g.2 h
theorem lineEv_seg {ps : List Pt} {j : Nat} {p q : Pt} {x : Rat} (g : GoodL ps) (hp : ps[j]? = some p) (hq : ps[j + 1]? = some q) (h1 : p.1 < x) (h2 : x ≤ q.1) : lineEv ps x = interp p q x := by
  cases ps with
  | nil => cases hp
  | cons a r => exact evF_seg r a j p q x g.2 hp hq h1 h2
theorem lineEnd_last {ps : List Pt} (h : ps ≠ []) : ps[ps.length - 1]? = some (lineEnd ps) := by
  cases ps with
  | nil => exact absurd rfl h
  | cons a r =>
    obtain ⟨s, e⟩ := lastP_at r a
    show (a :: r)[(a :: r).length - 1]? = some (lastP a r)
    rw [e]
    simp
theorem good_zero {ps : List Pt} (h : GoodL ps) : ps[0]? = some (0, 0) := by
  cases ps with
  | nil => exact h.elim
  | cons a r => rw [h.1]; rfl
theorem lineEnd_mem {ps : List Pt} (h : ps ≠ []) : lineEnd ps ∈ ps := List.mem_of_getElem? (lineEnd_last h)
theorem good_nonneg {ps : List Pt} (h : GoodL ps) {p : Pt} (hp : p ∈ ps) : 0 ≤ p.1 ∧ p.1 ≤ (lineEnd ps).1 := by
  cases ps with
  | nil => exact h.elim
  | cons a r =>
    obtain ⟨rfl, g⟩ := h
    obtain ⟨j, hj⟩ := List.getElem?_of_mem hp
    refine ⟨goodFrom_le r (0, 0) j p g hj, ?_⟩
    have q : ∀ (r : List Pt) (a : Pt) (j : Nat), goodFrom a r → (a :: r)[j]? = some p → p.1 ≤ (lastP a r).1 := by
      intro r
      induction r with
      | nil =>
        intro a j _ h
        cases j with
        | zero => obtain rfl := Option.some.inj h; exact Rat.le_refl
        | succ j => simp at h
      | cons b r ih =>
        intro a j g h
        cases j with
        | zero =>
          obtain rfl := Option.some.inj h
          exact lastP_ge (b :: r) a g
        | succ j => exact ih b j g.2.2 h
    exact q r (0, 0) j g hj
def cBetween : Ct := fun ds k => ∃ (a b : Pt) (x : Rat) (n : Nat), ds = [pt a, pt b, fr x] ∧ bp a n ∧ bp b n ∧ bt x n ∧ n ≤ 1000000 ∧ a.1 < b.1 ∧ k.rt (fr (interp a b x))
theorem between_v {a b : Pt} {x : Rat} {n : Nat} (ha : bp a n) (hb : bp b n) (hx : bt x n) (h : n ≤ 1000000) (hl : a.1 < b.1) : cBetween [pt a, pt b, fr x] (kv (fr (interp a b x))) := ⟨a, b, x, n, rfl, ha, hb, hx, h, hl, rfl⟩
theorem between_rat {a b : Pt} {x : Rat} (hl : a.1 < b.1) : gapD a.1 x * slD a b ≠ 0 ∧ Rat.divInt (gapN a.1 x * slN a b) (gapD a.1 x * slD a b) = (x - a.1) * ((b.2 - a.2) / (b.1 - a.1)) := by
  obtain ⟨e, he, h1, h2⟩ := slope_rat a b
  obtain ⟨g1, g2⟩ := gap_rat a.1 x
  have e1 : b.1 - a.1 ≠ 0 := by grind
  have hn : slD a b ≠ 0 := fun z => by
    rw [z] at h2
    have : (b.1 - a.1) * e = 0 := h2.symm
    rcases Rat.mul_eq_zero.mp this with q | q
    · exact e1 q
    · exact he q
  have hd := gapD_pos a.1 x
  have h0 : gapD a.1 x * slD a b ≠ 0 := fun z => by
    rcases Int.mul_eq_zero.mp z with q | q
    · omega
    · exact hn q
  refine ⟨h0, ?_⟩
  rw [Rat.divInt_eq_div, Rat.intCast_mul, Rat.intCast_mul, h1, h2, g1]
  grind
def cValue (C : Addr) : Ct := fun ds k => ∃ (ps : List Pt) (x : Rat) (n : Nat), ds = [.tuple (pts ps), fr x] ∧ GoodL ps ∧ bl ps n ∧ bt x n ∧ n ≤ 1000000 ∧ ps.length ≤ 100000 ∧ ((x < 0 ∨ (lineEnd ps).1 < x) → k.ex (.ref C)) ∧ (¬ (x < 0 ∨ (lineEnd ps).1 < x) → k.rt (fr (lineEv ps x)))
theorem value_v {C : Addr} {ps : List Pt} {x : Rat} {n : Nat} (g : GoodL ps) (hb : bl ps n) (hx : bt x n) (hn : n ≤ 1000000) (hl : ps.length ≤ 100000) (h : ¬ (x < 0 ∨ (lineEnd ps).1 < x)) : cValue C [.tuple (pts ps), fr x] (kv (fr (lineEv ps x))) := ⟨ps, x, n, rfl, g, hb, hx, hn, hl, fun z => absurd z h, fun _ => rfl⟩
theorem value_x {C : Addr} {ps : List Pt} {x : Rat} {n : Nat} (g : GoodL ps) (hb : bl ps n) (hx : bt x n) (hn : n ≤ 1000000) (hl : ps.length ≤ 100000) (h : x < 0 ∨ (lineEnd ps).1 < x) : cValue C [.tuple (pts ps), fr x] (kx (.ref C)) := ⟨ps, x, n, rfl, g, hb, hx, hn, hl, fun _ => rfl, fun z => absurd h z⟩
def cLawValue : Ct := fun ds k => ∃ (a : Pt) (r : List Pt) (x : Rat) (n : Nat), ds = [.tuple (pts (a :: r)), fr x] ∧ goodFrom a r ∧ bl (a :: r) n ∧ bt x n ∧ n ≤ 4000000 ∧ (a :: r).length ≤ 100000 ∧ a.1 ≤ x ∧ x ≤ (lastP a r).1 ∧ k.rt (fr (evF a r x))
theorem lawValue_g {a : Pt} {r : List Pt} {x : Rat} {n : Nat} (g : goodFrom a r) (hb : bl (a :: r) n) (hx : bt x n) (hn : n ≤ 4000000) (hl : (a :: r).length ≤ 100000) (h1 : a.1 ≤ x) (h2 : x ≤ (lastP a r).1) : cLawValue [.tuple (pts (a :: r)), fr x] (kv (fr (evF a r x))) := ⟨a, r, x, n, rfl, g, hb, hx, hn, hl, h1, h2, rfl⟩
theorem lawValue_v {ps : List Pt} {x : Rat} {n : Nat} (g : GoodL ps) (hb : bl ps n) (hx : bt x n) (hn : n ≤ 4000000) (hl : ps.length ≤ 100000) (h : ¬ (x < 0 ∨ (lineEnd ps).1 < x)) : cLawValue [.tuple (pts ps), fr x] (kv (fr (lineEv ps x))) := by
  cases ps with
  | nil => exact g.elim
  | cons a r =>
    obtain ⟨rfl, g⟩ := g
    exact ⟨(0, 0), r, x, n, rfl, g, hb, hx, hn, hl, Rat.not_lt.mp fun c => h (.inl c), Rat.not_lt.mp fun c => h (.inr c), rfl⟩
theorem num_posR {q : Rat} (h : 0 < q) : 0 < q.num := by
  have := Rat.lt_iff (a := 0) (b := q) |>.mp h
  have e : (0 : Rat).num * (q.den : Int) < q.num * ((0 : Rat).den : Int) := this
  rw [show (0 : Rat).num = 0 from rfl, show ((0 : Rat).den : Int) = 1 from rfl] at e
  omega
theorem fr_inv {q : Rat} (h : 0 < q) : PyData.tuple [.int (q.den : Int), .int q.num] = fr q⁻¹ := by
  have hn : 0 < q.num := num_posR h
  have e := Rat.inv_def q
  have e1 : q⁻¹.num = q.den := by
    rw [Rat.num_inv, Int.sign_eq_one_of_pos hn]; omega
  have e2 : (q⁻¹.den : Int) = q.num := by
    rw [Rat.den_inv]
    split
    · omega
    · omega
  unfold fr
  rw [e1, e2]
theorem bt_inv {q : Rat} {n : Nat} (h : bt q n) (h0 : 0 < q) : bt q⁻¹ n := by
  have e := fr_inv h0
  have e' : PyData.tuple [.int (q.den : Int), .int q.num] = .tuple [.int q⁻¹.num, .int (q⁻¹.den : Int)] := e
  injection e' with e'
  injection e' with a b
  injection b with b _
  injection a with a
  injection b with b
  have hn : 0 < q.num := num_posR h0
  obtain ⟨h1, h2⟩ := h
  refine ⟨by rw [← a]; exact h2, ?_⟩
  have : (q⁻¹.den : Int).natAbs < 2 ^ n := by rw [← b]; exact h1
  exact this
end Pu

set_option maxRecDepth 100000
namespace Pu
open PySem PySem.Spec PyProof.Rows L2
/-! ### slices with a step -/
def pick3 {α : Type} (xs : List α) (lo hi st : Option Int) : List α :=
  (sliceRange (sliceBounds lo hi st xs.length).1 (sliceBounds lo hi st xs.length).2.1 (sliceBounds lo hi st xs.length).2.2).filterMap (xs[·]?)
def SlR3 (X : Cx) (r : V → Option Int → Option Int → Option Int → Hp → VK → Prop) : Prop :=
  ∀ (pins : List (Addr × Obj)) (s : Shared) (σ : L2.St) (H : Hp) (x : V) (v vl vu vs : Value) (lo hi st : Option Int) (sl : Addr) (Q : VK), Inv X pins σ H s → RelV x v → s.heap.IsSliceOf sl vl vu vs → IsPart vl lo → IsPart vu hi → IsPart vs st → r x lo hi st H Q →
    ∃ T id, typeLookup (.type T) "__getitem__" = pure (some (.builtin id)) ∧ s.TypeIs v T ∧ wpAny (model X.prog X.w) X.A (getItem v (.ref sl)) (EP X pins σ Q) X.xe s
def tSl3 (r : V → Option Int → Option Int → Option Int → Hp → VK → Prop) (te : TE) (tl th ts : TO) : TE := fun σ H Q => te σ H fun x H1 => tl σ H1 fun l H2 => th σ H2 fun u H3 => ts σ H3 fun c H4 => r x l u c H4 Q
section
variable {X : Cx} {e : Expr} {te : TE} {lo hi : Option Expr} {st : Expr} {tl th ts : TO} {pos p2 : Pos}
theorem pe_slice3 {r : V → Option Int → Option Int → Option Int → Hp → VK → Prop} (hr : SlR3 X r) (he : PE X e te) (hl : PO X lo tl) (hu : PO X hi th) (hs : PO X (some st) ts) : PE X (.Subscript e (.Slice lo hi (some st) p2) pos) (tSl3 r te tl th ts) := by
  refine ⟨fun pins s σ H Q I h => ?_⟩
  refine Subscript_ (thn (he.run pins s σ H _ I h) fun v s1 ⟨x, H1, I1, r1, q1⟩ => ?_)
  refine wpAny_Slice (thn (hl.run pins s1 σ H1 _ I1 q1) fun vl s2 ⟨l, H2, I2, pl, q2⟩ => thn (hu.run pins s2 σ H2 _ I2 q2) fun vu s3 ⟨u, H3, I3, pu, q3⟩ => thn (hs.run pins s3 σ H3 _ I3 q3) fun vs s4 ⟨c, H4, I4, pc, q4⟩ => ?_)
  have I5 : Inv X pins σ H4 { s4 with heap := s4.heap.push { cls := .type "slice", data := .fields #[vl, vu, vs] } } := I4.kept (t' := s4.toks) fun b ob q => Heap.get?_push_of_some _ q
  obtain ⟨T, id, hT, ht, hg⟩ := hr pins { s4 with heap := s4.heap.push { cls := .type "slice", data := .fields #[vl, vu, vs] } } σ H4 x v vl vu vs l u c s4.heap.objs.size Q I5 r1 (Heap.IsSliceOf.new ..) pl pu pc q4
  show wpAny (model X.prog X.w) X.A (subscriptTail e (.Slice lo hi (some st) p2) v (.ref s4.heap.objs.size)) (EP X pins σ Q) X.xe { s4 with heap := s4.heap.push { cls := .type "slice", data := .fields #[vl, vu, vs] } }
  exact tail_any (ops := [v, .ref s4.heap.objs.size]) ht hT hg (by with_unfolding_all rfl)
end
theorem vals_some : ∀ xs : List V, ∃ us : List Value, us.length = xs.length := fun xs => ⟨List.replicate xs.length .none, List.length_replicate⟩
theorem pick3_size {α : Type} (xs : List α) (lo hi st : Option Int) : (pick3 xs lo hi st).length ≤ xs.length := by
  have key : ∀ (β : Type) (ys : List β), ys.length = xs.length → (pick3 ys lo hi st).length = (pick3 xs lo hi st).length := by
    intro β ys hl
    unfold pick3
    rw [hl]
    generalize sliceRange (sliceBounds lo hi st xs.length).1 (sliceBounds lo hi st xs.length).2.1 (sliceBounds lo hi st xs.length).2.2 = ix
    induction ix with
    | nil => rfl
    | cons i ix ih =>
      rw [List.filterMap_cons, List.filterMap_cons]
      by_cases h : i < xs.length
      · rw [List.getElem?_eq_getElem h, List.getElem?_eq_getElem (by omega : i < ys.length)]
        simp [ih]
      · rw [List.getElem?_eq_none (by omega), List.getElem?_eq_none (by omega)]
        exact ih
  have h := slicePick_size_le (List.replicate xs.length Value.none).toArray lo hi st
  rw [← key Value (List.replicate xs.length Value.none) List.length_replicate]
  have e : slicePick (List.replicate xs.length Value.none).toArray lo hi st = (pick3 (List.replicate xs.length Value.none) lo hi st).toArray := by
    unfold slicePick pick3
    rw [List.size_toArray]
    congr 2
    funext x
    exact List.getElem?_toArray
  rw [e, List.size_toArray, List.size_toArray] at h
  rw [List.length_replicate] at h
  exact h
/-- xs[lo:hi:st] of a list: a new list -/
def rSlL3 (K : PySem.W.Frag) : V → Option Int → Option Int → Option Int → Hp → VK → Prop := fun x lo hi st H Q => ∃ a xs, x = .ref a ∧ st ≠ some 0 ∧ SqL K H a xs ∧ ∀ p, H p = none → Q (.ref p) (upd H p (.lst (pick3 xs lo hi st)))
theorem vals_pick {xs : List V} {its : List Value} (r : Vals xs its) : ∀ ix : List Nat, Vals (ix.filterMap (xs[·]?)) (ix.filterMap (its.toArray[·]?))
  | [] => .nil
  | i :: ix => by
    have ih := vals_pick r ix
    rw [List.filterMap_cons, List.filterMap_cons]
    have eg : its.toArray[i]? = its[i]? := by simp
    cases e : xs[i]? with
    | none =>
      rw [eg, r.none_of e]
      exact ih
    | some x =>
      obtain ⟨u, hu, hr⟩ := r.get e
      rw [eg, hu]
      exact .cons hr ih
theorem sl3_list {X : Cx} : SlR3 X (rSlL3 X.K) := by
  intro pins s σ H x v vl vu vs lo hi st sl Q I rx hs pl pu pc h
  obtain ⟨a, xs, rfl, h0, hx, q⟩ := h
  cases rx
  obtain ⟨its, r, ht, hz⟩ := I.list hx
  have hlen := r.length
  refine ⟨"list", _, slot_list_getitem.lookup, ht.isList.typeIs, ?_⟩
  refine wpAny_getItem_list_slice ht.isList hs pl pu pc h0 ?_ (by rw [List.size_toArray] <;> omega)
  have hp := vals_pick r (sliceRange (sliceBounds lo hi st xs.length).1 (sliceBounds lo hi st xs.length).2.1 (sliceBounds lo hi st xs.length).2.2)
  have e : slicePick its.toArray lo hi st = ((sliceRange (sliceBounds lo hi st xs.length).1 (sliceBounds lo hi st xs.length).2.1 (sliceBounds lo hi st xs.length).2.2).filterMap (its.toArray[·]?)).toArray := by
    unfold slicePick
    rw [List.size_toArray, ← hlen]
  rw [e]
  refine ⟨.ref s.heap.objs.size, _, I.laid (t' := s.toks) (o := .lst (pick3 xs lo hi st)) (fun b ob q => Heap.get?_push_of_some _ q) (Nat.le_refl _) ?_, rfl, q _ (I.hok.fresh (Nat.le_refl _))⟩
  exact ⟨Nat.le_trans (pick3_size xs lo hi st) hz, _, 0, hp, Heap.get?_push_size _ rfl⟩
def rInt1 : List V → Hp → VK → Prop := fun xs H Q => (∃ i, xs = [.int i] ∧ Q (.int i) H) ∨ ∃ k, xs = [.bl k] ∧ Q (.int (if k then 1 else 0)) H
theorem c_intA {X : Cx} : CallR X (.type "int") rInt1 := call_int1
theorem v_intB {K : Frag} {ta : TE} {ρ : En} {b : Bool} (ha : Ev K ta ρ (.bool b)) : Ev K (tCB rInt1 (tCons ta tNil)) ρ (.int (if b then 1 else 0)) := v_call1 ha fun R H x s dx Q q => by
  cases dx
  exact .inr ⟨b, rfl, q _ R H (Grow.refl s) (.int _)⟩
theorem v_intI {K : Frag} {ta : TE} {ρ : En} {i : Int} (ha : Ev K ta ρ (.int i)) : Ev K (tCB rInt1 (tCons ta tNil)) ρ (.int i) := v_call1 ha fun R H x s dx Q q => by
  cases dx
  exact .inl ⟨i, rfl, q _ R H (Grow.refl s) (.int _)⟩
theorem o_inD {X : Cx} {K : Frag} (hu : X.A.units + 65 < cLine) (hK : X.K = K := by rfl) : OpR X (compareOp .In) (rInD K) := by subst hK; exact op_inD hu
theorem o_notInD {X : Cx} {K : Frag} (hu : X.A.units + 65 < cLine) (hK : X.K = K := by rfl) : OpR X (compareOp .NotIn) (rNotInD K) := by subst hK; exact op_notInD hu
theorem units65 {k : Nat} {A : Around} (r : Room k A) : A.units + 65 < cLine := by have := r.un; omega
theorem v_inD {K : Frag} {ta tb : TE} {ρ : En} {d : D} {ds : List D} (ha : Ev K ta ρ d) (hb : EvL K tb ρ ds) (s1 : SeqAt.shaped d = true) (s2 : SeqAt.shaped (.list ds) = true) : Ev K (tOp (rInD K) ta tb) ρ (.bool (ds.any fun z => PyData.eqv z d)) := fun R0 H0 R σ H a Q q =>
  ha R0 H0 R σ H a _ fun x R1 H1 g1 dx => hb R0 H0 R1 σ H1 (a.grow g1) _ fun p vs R2 H2 g2 sq dy => by
    have g := g1.trans g2
    exact ⟨d, ds, dp_mono g.sub _ _ (dp_mono g2.rd _ _ dx), .lst sq (dpa_mono g.sub _ _ dy), s1, s2, q _ R2 H2 g (.bl _)⟩
theorem v_notInD {K : Frag} {ta tb : TE} {ρ : En} {d : D} {ds : List D} (ha : Ev K ta ρ d) (hb : EvL K tb ρ ds) (s1 : SeqAt.shaped d = true) (s2 : SeqAt.shaped (.list ds) = true) : Ev K (tOp (rNotInD K) ta tb) ρ (.bool (!ds.any fun z => PyData.eqv z d)) := fun R0 H0 R σ H a Q q =>
  ha R0 H0 R σ H a _ fun x R1 H1 g1 dx => hb R0 H0 R1 σ H1 (a.grow g1) _ fun p vs R2 H2 g2 sq dy => by
    have g := g1.trans g2
    exact ⟨d, ds, dp_mono g.sub _ _ (dp_mono g2.rd _ _ dx), .lst sq (dpa_mono g.sub _ _ dy), s1, s2, q _ R2 H2 g (.bl _)⟩
theorem s3_list {X : Cx} {K : Frag} (hK : X.K = K := by rfl) : SlR3 X (rSlL3 K) := by subst hK; exact sl3_list
theorem dpa_getB : ∀ {K : Frag} {R : Hp} {vs : List V} {ds : List D} (_ : DpAll K R vs ds) (i : Nat), (vs[i]? = none ∧ ds[i]? = none) ∨ ∃ v d, vs[i]? = some v ∧ ds[i]? = some d ∧ Dp K R v d
  | _, _, [], [], .nil, i => .inl ⟨rfl, rfl⟩
  | _, _, v :: vs, d :: ds, .cons h t, 0 => .inr ⟨v, d, rfl, rfl, h⟩
  | _, _, v :: vs, d :: ds, .cons h t, i + 1 => dpa_getB t i
theorem dpa_picks {K : Frag} {R : Hp} {vs : List V} {ds : List D} (h : DpAll K R vs ds) : ∀ ix : List Nat, DpAll K R (ix.filterMap (vs[·]?)) (ix.filterMap (ds[·]?))
  | [] => .nil
  | i :: ix => by
    have ih := dpa_picks h ix
    rw [List.filterMap_cons, List.filterMap_cons]
    rcases dpa_getB h i with ⟨e1, e2⟩ | ⟨v, d, e1, e2, hd⟩
    · rw [e1, e2]; exact ih
    · rw [e1, e2]; exact .cons hd ih
theorem dpa_pick3 {K : Frag} {R : Hp} {vs : List V} {ds : List D} (h : DpAll K R vs ds) (lo hi st : Option Int) : DpAll K R (pick3 vs lo hi st) (pick3 ds lo hi st) := by
  unfold pick3
  rw [dpa_len h]
  exact dpa_picks h _
theorem f_sl3 {K : Frag} {te : TE} {ρ : En} {ds : List D} {tl th ts : TO} {lo hi st : Option Int} (ha : EvL K te ρ ds) (h1 : EvO K tl ρ lo) (h2 : EvO K th ρ hi) (h3 : EvO K ts ρ st) (h0 : st ≠ some 0) : EvF K (tSl3 (rSlL3 K) te tl th ts) ρ (pick3 ds lo hi st) := fun R0 H0 R σ H a Q q =>
  ha R0 H0 R σ H a _ fun p vs R1 H1 g1 sq dx => h1 R0 H0 R1 σ H1 (a.grow g1) _ fun R2 H2 g2 => h2 R0 H0 R2 σ H2 (a.grow (g1.trans g2)) _ fun R3 H3 g3 => h3 R0 H0 R3 σ H3 (a.grow ((g1.trans g2).trans g3)) _ fun R4 H4 g4 => by
    have g := ((g1.trans g2).trans g3).trans g4
    have g24 := (g2.trans g3).trans g4
    exact ⟨p, vs, rfl, h0, g24.hp.seq sq, fun l hl => q l _ R4 _ (g.trans (Grow.hide g.sub hl)) (g.hp.free hl) (g.sub.free hl) upd_same (dpa_pick3 (dpa_mono g24.rd _ _ dx) lo hi st)⟩
theorem pick3_map {α β : Type} (f : α → β) (xs : List α) (lo hi st : Option Int) : pick3 (xs.map f) lo hi st = (pick3 xs lo hi st).map f := by
  unfold pick3
  rw [List.length_map, List.map_filterMap]
  congr 1
  funext i
  rw [List.getElem?_map]
theorem pick3_mem {α : Type} {xs : List α} {lo hi st : Option Int} {x : α} (h : x ∈ pick3 xs lo hi st) : x ∈ xs := by
  unfold pick3 at h
  obtain ⟨i, _, e⟩ := List.mem_filterMap.mp h
  exact List.mem_of_getElem? e
end Pu

set_option maxRecDepth 100000
namespace Pu
open PySem PySem.Spec PyProof.Rows L2
/-! ### walks: reversed, zip, enumerate -/
section
variable {X : Cx} {K : Frag} {tg e e2 : Expr} {te te2 : TE} {ta : TA} {p pos tpos : Pos} {elts : List Expr} {kk : Nat}
theorem w_rev (hg : Gl X "reversed") (hm : X.mg "reversed" = none) (he : PE X e te) (hs : starEach [e] X.env = (false, eval e X.env) :: starEach [] X.env := by rfl) (hK : X.K = K := by rfl) : PI X tg (.Call (.Name "reversed" p) [e] [] pos) (RT.iRevA K te) := by
  subst hK
  exact RT.pi_revA hg hm he hs
theorem w_zip (hg : Gl X "zip") (hm : X.mg "zip" = none) (ha : PA X [e, e2] ta) (hs : starEach [e, e2] X.env = (false, eval e X.env) :: starEach [e2] X.env := by rfl) (hpl : (backTo pos (starEach [e2] X.env)).any (·.1) = false := by rfl) (hK : X.K = K := by rfl) :
    PI X (.Tuple elts kk tpos) (.Call (.Name "zip" p) [e, e2] [] pos) (RZ.iZipA K ta) := by
  subst hK
  exact RZ.pi_zipA hg hm ha hs hpl
theorem w_enum (hg : Gl X "enumerate") (hm : X.mg "enumerate" = none) (ha : PA X [e] ta) (hs : starEach [e] X.env = [(false, eval e X.env)] := by rfl) (hK : X.K = K := by rfl) : PI X (.Tuple elts kk tpos) (.Call (.Name "enumerate" p) [e] [] pos) (iEnum K ta) := by
  subst hK
  exact pi_enum hg hm ha hs
theorem g_lst {es : List Expr} {kk : Nat} {t : TGs} {n : Nat} {pos : Pos} (hc : X.calm = true) (h : PGs X es t) (hn : (assignEach es X.env).length = n := by rfl) (hst : (assignEach es X.env).findIdx? (·.1) = none := by rfl) (hK : X.K = K := by rfl) : PG X (.Tuple es kk pos) (gLst K n t) := by
  subst hK
  exact pg_lst hc h hn hst
end
section
variable {K : Frag} {ρ : En} {te : TE} {ta tb : TE} {ds es : List D}
/-- a, b, c, d = a list of four -/
theorem sd_lst4 {W : WX} {ex : Value → En → Prop} {k : Ko} {i1 i2 i3 i4 : Nat} {d1 d2 d3 d4 : D} (h : EvL K te ρ [d1, d2, d3, d4]) (hk : k.nx ((((ρ.set i1 (.val d1)).set i2 (.val d2)).set i3 (.val d3)).set i4 (.val d4))) :
    Sd K W ex (tAsg te (gLst K 4 (gCons (gName i1) (gCons (gName i2) (gCons (gName i3) (gCons (gName i4) gNil)))))) ρ k := fun R0 H0 ok R σ H a D m =>
  h R0 H0 R σ H a _ fun p vs R1 H1 g1 sq dv => by
    cases dv with
    | cons e1 dv =>
      cases dv with
      | cons e2 dv =>
        cases dv with
        | cons e3 dv =>
          cases dv with
          | cons e4 dv =>
            cases dv
            have a1 := a.grow g1
            exact ⟨p, _, rfl, sq, rfl, _, _, rfl, _, _, rfl, _, _, rfl, _, _, rfl, rfl, m.nx _ R1 _ H1 hk ((((a1.set e1).set e2).set e3).set e4)⟩
theorem rev_at {α : Type} {xs : List α} {i : Nat} {x : α} (h : xs.reverse[i]? = some x) : i < xs.length ∧ xs[xs.length - 1 - i]? = some x := by
  have hi := getElem?_lt h
  rw [List.length_reverse] at hi
  rw [List.getElem?_reverse hi] at h
  exact ⟨hi, h⟩
theorem id_revL (h : Ev K te ρ (.list ds)) : Id K (RT.iRevA K te) ρ ds.reverse := fun R0 H0 R σ H a Rr q => h R0 H0 R σ H a _ fun v R1 H1 g1 dv => by
  cases dv with
  | lst hs ha =>
    rename_i p vs
    refine ⟨p, vs, rfl, .inl ⟨g1.sub.seq hs, q _ R1 H1 g1 fun R2 H2 s2 sh => ⟨fun i d e => ?_, ?_⟩⟩⟩
    · obtain ⟨hi, e⟩ := rev_at e
      obtain ⟨v, h1, h2⟩ := dpa_get ha e
      have hl := dpa_len ha
      refine ⟨⟨by omega, vs, v, sh.seq (s2.seq hs), by rw [hl]; exact h1⟩, fun x H3 y => ?_⟩
      obtain ⟨rfl, y⟩ := y
      have z := y vs (sh.seq (s2.seq hs))
      rw [hl, h1] at z
      cases z
      exact ⟨R2, Grow.refl sh, dp_mono s2 _ _ h2⟩
    · rw [List.length_reverse, ← dpa_len ha]
      exact Nat.le_refl _
theorem id_revT (h : Ev K te ρ (.tuple ds)) : Id K (RT.iRevA K te) ρ ds.reverse := fun R0 H0 R σ H a Rr q => h R0 H0 R σ H a _ fun v R1 H1 g1 dv => by
  cases dv with
  | tup hs ha =>
    rename_i p vs
    refine ⟨p, vs, rfl, .inr ⟨sqt_mono g1.sub hs, q _ R1 H1 g1 fun R2 H2 s2 sh => ⟨fun i d e => ?_, ?_⟩⟩⟩
    · obtain ⟨hi, e⟩ := rev_at e
      obtain ⟨v, h1, h2⟩ := dpa_get ha e
      have hl := dpa_len ha
      refine ⟨⟨by omega, vs, v, sqt_mono sh (sqt_mono s2 hs), by rw [hl]; exact h1⟩, fun x H3 y => ?_⟩
      obtain ⟨rfl, y⟩ := y
      have z := y vs (sqt_mono sh (sqt_mono s2 hs))
      rw [hl, h1] at z
      cases z
      exact ⟨R2, Grow.refl sh, dp_mono s2 _ _ h2⟩
    · rw [List.length_reverse, ← dpa_len ha]
      exact Nat.le_refl _
def zipD (ds es : List D) : List D := List.zipWith (fun d e => .tuple [d, e]) ds es
theorem zipD_at {i : Nat} {d : D} (h : (zipD ds es)[i]? = some d) : ∃ x y, ds[i]? = some x ∧ es[i]? = some y ∧ d = .tuple [x, y] := by
  unfold zipD at h
  rw [List.getElem?_zipWith] at h
  cases h1 : ds[i]? with
  | none => rw [h1] at h; simp at h
  | some x =>
    cases h2 : es[i]? with
    | none => rw [h1, h2] at h; simp at h
    | some y =>
      rw [h1, h2] at h
      exact ⟨x, y, rfl, rfl, (Option.some.inj h).symm⟩
theorem zipD_len : (zipD ds es).length = min ds.length es.length := by unfold zipD; rw [List.length_zipWith]
theorem id_zipLL (h : EvA K (tCons ta (tCons tb tNil)) ρ [.list ds, .list es]) : Id K (RZ.iZipA K (tCons ta (tCons tb tNil))) ρ (zipD ds es) := fun R0 H0 R σ H a Rr q => h R0 H0 R σ H a _ fun vs R1 H1 g1 dv => by
  cases dv with
  | cons e1 dv =>
    cases dv with
    | cons e2 dv =>
      cases dv
      cases e1 with
      | lst hs ha =>
        cases e2 with
        | lst ht hb =>
          rename_i p xs p' ys
          refine ⟨p, p', xs, ys, rfl, .inl ⟨g1.sub.seq hs, g1.sub.seq ht, q _ R1 H1 g1 fun R2 H2 s2 sh => ⟨fun i d e => ?_, ?_⟩⟩⟩
          · obtain ⟨x, y, ex, ey, rfl⟩ := zipD_at e
            obtain ⟨v, h1, h2⟩ := dpa_get ha ex
            obtain ⟨w, h3, h4⟩ := dpa_get hb ey
            refine ⟨⟨xs, ys, v, w, sh.seq (s2.seq hs), sh.seq (s2.seq ht), h1, h3⟩, fun z H3 yl => ?_⟩
            obtain ⟨T, v', w', rfl, hT, rfl, y1, y2⟩ := yl
            have z1 := y1 xs (sh.seq (s2.seq hs))
            have z2 := y2 ys (sh.seq (s2.seq ht))
            rw [h1] at z1
            rw [h3] at z2
            cases z1
            cases z2
            have g := Grow.alloc (o := .tup [v, w]) sh hT
            exact ⟨_, g, .tup (SqT.of upd_same) (.cons (dp_mono (s2.trans g.rd) _ _ h2) (.cons (dp_mono (s2.trans g.rd) _ _ h4) .nil))⟩
          · refine ⟨xs, ys, sh.seq (s2.seq hs), sh.seq (s2.seq ht), ?_⟩
            rw [zipD_len, dpa_len ha, dpa_len hb]
            omega
theorem id_zipTT (h : EvA K (tCons ta (tCons tb tNil)) ρ [.tuple ds, .tuple es]) : Id K (RZ.iZipA K (tCons ta (tCons tb tNil))) ρ (zipD ds es) := fun R0 H0 R σ H a Rr q => h R0 H0 R σ H a _ fun vs R1 H1 g1 dv => by
  cases dv with
  | cons e1 dv =>
    cases dv with
    | cons e2 dv =>
      cases dv
      cases e1 with
      | tup hs ha =>
        cases e2 with
        | tup ht hb =>
          rename_i p xs p' ys
          refine ⟨p, p', xs, ys, rfl, .inr ⟨sqt_mono g1.sub hs, sqt_mono g1.sub ht, q _ R1 H1 g1 fun R2 H2 s2 sh => ⟨fun i d e => ?_, ?_⟩⟩⟩
          · obtain ⟨x, y, ex, ey, rfl⟩ := zipD_at e
            obtain ⟨v, h1, h2⟩ := dpa_get ha ex
            obtain ⟨w, h3, h4⟩ := dpa_get hb ey
            refine ⟨⟨xs, ys, v, w, sqt_mono sh (sqt_mono s2 hs), sqt_mono sh (sqt_mono s2 ht), h1, h3⟩, fun z H3 yl => ?_⟩
            obtain ⟨T, v', w', rfl, hT, rfl, y1, y2⟩ := yl
            have z1 := y1 xs (sqt_mono sh (sqt_mono s2 hs))
            have z2 := y2 ys (sqt_mono sh (sqt_mono s2 ht))
            rw [h1] at z1
            rw [h3] at z2
            cases z1
            cases z2
            have g := Grow.alloc (o := .tup [v, w]) sh hT
            exact ⟨_, g, .tup (SqT.of upd_same) (.cons (dp_mono (s2.trans g.rd) _ _ h2) (.cons (dp_mono (s2.trans g.rd) _ _ h4) .nil))⟩
          · refine ⟨xs, ys, sqt_mono sh (sqt_mono s2 hs), sqt_mono sh (sqt_mono s2 ht), ?_⟩
            rw [zipD_len, dpa_len ha, dpa_len hb]
            omega
def enumD (ds : List D) : List D := ds.zipIdx.map fun x => .tuple [.int (x.2 : Int), x.1]
theorem enumD_at {i : Nat} {d : D} (h : (enumD ds)[i]? = some d) : ∃ x, ds[i]? = some x ∧ d = .tuple [.int (i : Int), x] := by
  unfold enumD at h
  rw [List.getElem?_map, List.getElem?_zipIdx] at h
  cases h1 : ds[i]? with
  | none => rw [h1] at h; simp at h
  | some x =>
    rw [h1] at h
    refine ⟨x, rfl, ?_⟩
    have := Option.some.inj h
    rw [← this]
    simp
theorem enumD_len : (enumD ds).length = ds.length := by unfold enumD; rw [List.length_map, List.length_zipIdx]
theorem id_enumL (h : EvA K (tCons te tNil) ρ [.list ds]) : Id K (iEnum K (tCons te tNil)) ρ (enumD ds) := fun R0 H0 R σ H a Rr q => h R0 H0 R σ H a _ fun vs R1 H1 g1 dv => by
  cases dv with
  | cons e1 dv =>
    cases dv
    cases e1 with
    | lst hs ha =>
      rename_i p xs
      refine ⟨p, xs, rfl, g1.sub.seq hs, q _ R1 H1 g1 fun R2 H2 s2 sh => ⟨fun i d e => ?_, ?_⟩⟩
      · obtain ⟨x, ex, rfl⟩ := enumD_at e
        obtain ⟨v, h1, h2⟩ := dpa_get ha ex
        refine ⟨⟨xs, v, sh.seq (s2.seq hs), h1⟩, fun z H3 yl => ?_⟩
        obtain ⟨T, v', rfl, hT, rfl, y1⟩ := yl
        have z1 := y1 xs (sh.seq (s2.seq hs))
        rw [h1] at z1
        cases z1
        have g := Grow.alloc (o := .tup [.int ((i : Nat) : Int), v]) sh hT
        exact ⟨_, g, .tup (SqT.of upd_same) (.cons (.int _) (.cons (dp_mono (s2.trans g.rd) _ _ h2) .nil))⟩
      · refine ⟨xs, sh.seq (s2.seq hs), ?_⟩
        rw [enumD_len, dpa_len ha]
        exact Nat.le_refl _
/-- a list or a tuple -/
theorem ev_ixQ {d0 d : D} {i : Int} (hd : SeqD d0 ds) (ha : Ev K ta ρ d0) (hb : Ev K tb ρ (.int i)) (e : atI ds i = some d) : Ev K (tOp (rIx K) ta tb) ρ d := by
  rcases hd with rfl | rfl
  · exact ev_ixSL ha.l hb e
  · exact ev_ixST ha hb e
theorem a_lenQ {d0 : D} (hd : SeqD d0 ds) (ha : Ev K ta ρ d0) : Ev K (tCB (rLenA K) (tCons ta tNil)) ρ (.int ds.length) := by
  rcases hd with rfl | rfl
  · exact a_lenL ha.l
  · exact a_lenT ha
theorem w_seqQ {d0 : D} (hd : SeqD d0 ds) (ha : Ev K ta ρ d0) : Id K (iSeq K ta) ρ ds := by
  rcases hd with rfl | rfl
  · exact w_list ha
  · exact w_tup ha
end
end Pu

set_option maxRecDepth 100000
namespace Pu
open PySem PySem.Spec PyProof.Rows L2
/-! ### lines that follow a function; two lines merged -/
theorem evF_affine : ∀ (r : List Pt) (a : Pt) (u v : Rat), goodFrom a r → a.1 ≤ u → u < v → v ≤ (lastP a r).1 → (∀ p ∈ r, ¬ (u < p.1 ∧ p.1 < v)) → ∃ k m : Rat, 0 ≤ m ∧ ∀ x, u ≤ x → x ≤ v → evF a r x = k + m * x
  | [], a, u, v, _, h1, h2, h3, _ => by
    have h3' : v ≤ a.1 := h3
    grind
  | b :: s, a, u, v, g, h1, h2, h3, hno => by
    obtain ⟨g1, g2, g3⟩ := g
    by_cases hb : v ≤ b.1
    · refine ⟨a.2 - a.1 * ((b.2 - a.2) / (b.1 - a.1)), (b.2 - a.2) / (b.1 - a.1), ?_, fun x _ hx => ?_⟩
      · have e1 : 0 < b.1 - a.1 := by grind
        have e2 : 0 ≤ b.2 - a.2 := by grind
        have := Rat.mul_nonneg e2 (Rat.le_of_lt (Rat.inv_pos.mpr e1))
        rw [Rat.div_def]
        exact this
      · rw [evF_at (by grind)]
        unfold interp
        grind
    · have hbu : b.1 ≤ u := by
        have := hno b List.mem_cons_self
        grind
      obtain ⟨k, m, hm, h⟩ := evF_affine s b u v g3 hbu h2 h3 fun p hp => hno p (List.mem_cons_of_mem _ hp)
      refine ⟨k, m, hm, fun x hx1 hx2 => ?_⟩
      by_cases hx : x ≤ b.1
      · have e : x = b.1 := by grind
        have h' := h x hx1 hx2
        rw [e] at h' ⊢
        rw [evF_at Rat.le_refl, (interp_ends g1).2]
        rw [evF_pt s b 0 b g3 rfl] at h'
        exact h'
      · rw [evF_beyond hx]
        exact h x hx1 hx2
theorem lineEv_affine {ps : List Pt} {u v : Rat} (g : GoodL ps) (h1 : 0 ≤ u) (h2 : u < v) (h3 : v ≤ (lineEnd ps).1) (hno : ∀ p ∈ ps, ¬ (u < p.1 ∧ p.1 < v)) : ∃ k m : Rat, 0 ≤ m ∧ ∀ x, u ≤ x → x ≤ v → lineEv ps x = k + m * x := by
  cases ps with
  | nil => exact g.elim
  | cons a r =>
    obtain ⟨rfl, g⟩ := g
    exact evF_affine r (0, 0) u v g h1 h2 h3 fun p hp => hno p (List.mem_cons_of_mem _ hp)
/-- strictly on -/
def upFrom : Rat → List Pt → Prop
  | _, [] => True
  | x, p :: r => x < p.1 ∧ upFrom p.1 r
theorem upFrom_good : ∀ (r : List Pt) (a : Pt), goodFrom a r → upFrom a.1 r
  | [], _, _ => trivial
  | b :: r, a, g => ⟨g.1, upFrom_good r b g.2.2⟩
theorem upFrom_mono : ∀ (r : List Pt) (x y : Rat), upFrom y r → x ≤ y → upFrom x r
  | [], _, _, _, _ => trivial
  | p :: r, x, y, h, e => ⟨by have := h.1; grind, h.2⟩
theorem upFrom_lt : ∀ (r : List Pt) (x : Rat), upFrom x r → ∀ p ∈ r, x < p.1
  | [], _, _, p, hp => nomatch hp
  | q :: r, x, h, p, hp => by
    rcases List.mem_cons.mp hp with rfl | hp
    · exact h.1
    · have := upFrom_lt r q.1 h.2 p hp
      have := h.1
      grind
theorem upFrom_map {f : Pt → Pt} (hf : ∀ p, (f p).1 = p.1) : ∀ (r : List Pt) (x : Rat), upFrom x r → upFrom x (r.map f)
  | [], _, _ => trivial
  | p :: r, x, h => ⟨by rw [hf]; exact h.1, by rw [hf]; exact upFrom_map hf r p.1 h.2⟩
theorem fun_good {f : Rat → Rat} {e : Rat} : ∀ (r : List Pt) (a : Pt), upFrom a.1 r → a.2 = f a.1 → (∀ p ∈ r, p.2 = f p.1) → (lastP a r).1 ≤ e →
    (∀ u v, a.1 ≤ u → u < v → v ≤ e → (∀ p ∈ r, ¬ (u < p.1 ∧ p.1 < v)) → ∃ k m : Rat, 0 ≤ m ∧ ∀ x, u ≤ x → x ≤ v → f x = k + m * x) →
    goodFrom a r ∧ ∀ x, a.1 ≤ x → x ≤ (lastP a r).1 → evF a r x = f x
  | [], a, _, ha, _, _, _ => ⟨trivial, fun x h1 h2 => by
    have h2' : x ≤ a.1 := h2
    have : x = a.1 := by grind
    rw [this, ← ha]
    rfl⟩
  | b :: r, a, hu, ha, hr, he, hf => by
    obtain ⟨h1, h2⟩ := hu
    have hb := hr b List.mem_cons_self
    have hnob : ∀ p ∈ b :: r, ¬ (a.1 < p.1 ∧ p.1 < b.1) := fun p hp => by
      rcases List.mem_cons.mp hp with rfl | hp
      · grind
      · have := upFrom_lt r b.1 h2 p hp
        grind
    have hbl : b.1 ≤ (lastP b r).1 := by
      rcases List.mem_cons.mp (lastP_mem r b) with q | q
      · rw [q]; exact Rat.le_refl
      · exact Rat.le_of_lt (upFrom_lt r b.1 h2 _ q)
    have he' : (lastP b r).1 ≤ e := he
    obtain ⟨k, m, hm, hkm⟩ := hf a.1 b.1 Rat.le_refl h1 (by grind) hnob
    have ea := hkm a.1 Rat.le_refl (Rat.le_of_lt h1)
    have eb := hkm b.1 (Rat.le_of_lt h1) Rat.le_refl
    obtain ⟨g, hx⟩ := fun_good r b h2 hb (fun p hp => hr p (List.mem_cons_of_mem _ hp)) he' fun u v h3 h4 h5 hno => hf u v (by grind) h4 h5 fun p hp => by
      rcases List.mem_cons.mp hp with rfl | hp
      · grind
      · exact hno p hp
    refine ⟨⟨h1, ?_, g⟩, fun x hx1 hx2 => ?_⟩
    · have := Rat.mul_le_mul_of_nonneg_left (Rat.le_of_lt h1) hm
      grind
    · by_cases hb1 : x ≤ b.1
      · rw [evF_at hb1, hkm x hx1 hb1]
        unfold interp
        rw [ha, hb, ea, eb]
        have : b.1 - a.1 ≠ 0 := by grind
        grind
      · rw [evF_beyond hb1]
        exact hx x (by grind) hx2
def mergeP : List Pt → List Pt → List Pt
  | [], bs => bs
  | a :: as, [] => a :: mergeP as []
  | a :: as, b :: bs => if b.1 < a.1 then b :: mergeP (a :: as) bs else if b.1 = a.1 then a :: mergeP as bs else a :: mergeP as (b :: bs)
  termination_by as bs => as.length + bs.length
theorem mergeP_nil (bs : List Pt) : mergeP [] bs = bs := by rw [mergeP]
theorem mergeP_none (a : Pt) (as : List Pt) : mergeP (a :: as) [] = a :: mergeP as [] := by rw [mergeP]
theorem mergeP_cons (a b : Pt) (as bs : List Pt) : mergeP (a :: as) (b :: bs) = if b.1 < a.1 then b :: mergeP (a :: as) bs else if b.1 = a.1 then a :: mergeP as bs else a :: mergeP as (b :: bs) := by rw [mergeP]
theorem mergeP_mem : ∀ (n : Nat) (as bs : List Pt), as.length + bs.length ≤ n → ∀ p ∈ mergeP as bs, p ∈ as ∨ p ∈ bs
  | n, [], bs, _, p, hp => by
    rw [mergeP_nil] at hp
    exact .inr hp
  | 0, a :: as, bs, hn, p, hp => absurd hn (by simp)
  | n + 1, a :: as, [], hn, p, hp => by
    rw [mergeP_none] at hp
    rcases List.mem_cons.mp hp with rfl | hp
    · exact .inl List.mem_cons_self
    · rcases mergeP_mem n as [] (by simp at hn ⊢; omega) p hp with h | h
      · exact .inl (List.mem_cons_of_mem _ h)
      · exact .inr h
  | n + 1, a :: as, b :: bs, hn, p, hp => by
    rw [mergeP_cons] at hp
    split at hp
    · rcases List.mem_cons.mp hp with rfl | hp
      · exact .inr List.mem_cons_self
      · rcases mergeP_mem n (a :: as) bs (by simp at hn ⊢; omega) p hp with h | h
        · exact .inl h
        · exact .inr (List.mem_cons_of_mem _ h)
    · split at hp
      · rcases List.mem_cons.mp hp with rfl | hp
        · exact .inl List.mem_cons_self
        · rcases mergeP_mem n as bs (by simp at hn ⊢; omega) p hp with h | h
          · exact .inl (List.mem_cons_of_mem _ h)
          · exact .inr (List.mem_cons_of_mem _ h)
      · rcases List.mem_cons.mp hp with rfl | hp
        · exact .inl List.mem_cons_self
        · rcases mergeP_mem n as (b :: bs) (by simp at hn ⊢; omega) p hp with h | h
          · exact .inl (List.mem_cons_of_mem _ h)
          · exact .inr h
theorem mergeP_all : ∀ (n : Nat) (as bs : List Pt), as.length + bs.length ≤ n → ∀ p, p ∈ as ∨ p ∈ bs → ∃ q ∈ mergeP as bs, q.1 = p.1
  | n, [], bs, _, p, hp => by
    rw [mergeP_nil]
    rcases hp with h | h
    · cases h
    · exact ⟨p, h, rfl⟩
  | 0, a :: as, bs, hn, p, hp => absurd hn (by simp)
  | n + 1, a :: as, [], hn, p, hp => by
    rw [mergeP_none]
    rcases hp with h | h
    · rcases List.mem_cons.mp h with rfl | h
      · exact ⟨_, List.mem_cons_self, rfl⟩
      · obtain ⟨q, h1, h2⟩ := mergeP_all n as [] (by simp at hn ⊢; omega) p (.inl h)
        exact ⟨q, List.mem_cons_of_mem _ h1, h2⟩
    · cases h
  | n + 1, a :: as, b :: bs, hn, p, hp => by
    rw [mergeP_cons]
    split
    · rcases hp with h | h
      · obtain ⟨q, h1, h2⟩ := mergeP_all n (a :: as) bs (by simp at hn ⊢; omega) p (.inl h)
        exact ⟨q, List.mem_cons_of_mem _ h1, h2⟩
      · rcases List.mem_cons.mp h with rfl | h
        · exact ⟨_, List.mem_cons_self, rfl⟩
        · obtain ⟨q, h1, h2⟩ := mergeP_all n (a :: as) bs (by simp at hn ⊢; omega) p (.inr h)
          exact ⟨q, List.mem_cons_of_mem _ h1, h2⟩
    · split
      · rename_i heq
        rcases hp with h | h
        · rcases List.mem_cons.mp h with rfl | h
          · exact ⟨_, List.mem_cons_self, rfl⟩
          · obtain ⟨q, h1, h2⟩ := mergeP_all n as bs (by simp at hn ⊢; omega) p (.inl h)
            exact ⟨q, List.mem_cons_of_mem _ h1, h2⟩
        · rcases List.mem_cons.mp h with rfl | h
          · exact ⟨_, List.mem_cons_self, heq.symm⟩
          · obtain ⟨q, h1, h2⟩ := mergeP_all n as bs (by simp at hn ⊢; omega) p (.inr h)
            exact ⟨q, List.mem_cons_of_mem _ h1, h2⟩
      · rcases hp with h | h
        · rcases List.mem_cons.mp h with rfl | h
          · exact ⟨_, List.mem_cons_self, rfl⟩
          · obtain ⟨q, h1, h2⟩ := mergeP_all n as (b :: bs) (by simp at hn ⊢; omega) p (.inl h)
            exact ⟨q, List.mem_cons_of_mem _ h1, h2⟩
        · obtain ⟨q, h1, h2⟩ := mergeP_all n as (b :: bs) (by simp at hn ⊢; omega) p (.inr h)
          exact ⟨q, List.mem_cons_of_mem _ h1, h2⟩
theorem mergeP_up : ∀ (n : Nat) (as bs : List Pt) (x : Rat), as.length + bs.length ≤ n → upFrom x as → upFrom x bs → upFrom x (mergeP as bs)
  | n, [], bs, x, _, _, h => by
    rw [mergeP_nil]
    exact h
  | 0, a :: as, bs, x, hn, h, h' => absurd hn (by simp)
  | n + 1, a :: as, [], x, hn, h, _ => by
    rw [mergeP_none]
    exact ⟨h.1, mergeP_up n as [] a.1 (by simp at hn ⊢; omega) h.2 trivial⟩
  | n + 1, a :: as, b :: bs, x, hn, h, h' => by
    rw [mergeP_cons]
    split
    · rename_i hlt
      exact ⟨h'.1, mergeP_up n (a :: as) bs b.1 (by simp at hn ⊢; omega) ⟨hlt, h.2⟩ h'.2⟩
    · split
      · rename_i heq
        exact ⟨h.1, mergeP_up n as bs a.1 (by simp at hn ⊢; omega) h.2 (by rw [← heq]; exact h'.2)⟩
      · rename_i h1 h2
        exact ⟨h.1, mergeP_up n as (b :: bs) a.1 (by simp at hn ⊢; omega) h.2 ⟨by grind, h'.2⟩⟩
theorem mergeP_len : ∀ (n : Nat) (as bs : List Pt), as.length + bs.length ≤ n → (mergeP as bs).length ≤ as.length + bs.length
  | n, [], bs, _ => by rw [mergeP_nil]; simp
  | 0, a :: as, bs, hn => absurd hn (by simp)
  | n + 1, a :: as, [], hn => by
    rw [mergeP_none]
    have := mergeP_len n as [] (by simp at hn ⊢; omega)
    simp at this ⊢
    exact this
  | n + 1, a :: as, b :: bs, hn => by
    rw [mergeP_cons]
    split
    · have := mergeP_len n (a :: as) bs (by simp at hn ⊢; omega)
      simp at this ⊢
      omega
    · split
      · have := mergeP_len n as bs (by simp at hn ⊢; omega)
        simp at this ⊢
        omega
      · have := mergeP_len n as (b :: bs) (by simp at hn ⊢; omega)
        simp at this ⊢
        omega
theorem upFrom_last : ∀ (r : List Pt) (a : Pt), upFrom a.1 r → ∀ p ∈ a :: r, p.1 ≤ (lastP a r).1
  | [], a, _, p, hp => by
    obtain rfl := List.mem_singleton.mp hp
    exact Rat.le_refl
  | b :: r, a, h, p, hp => by
    have hb := upFrom_last r b h.2 b List.mem_cons_self
    rcases List.mem_cons.mp hp with rfl | hp
    · have := h.1
      show p.1 ≤ (lastP b r).1
      grind
    · exact upFrom_last r b h.2 p hp
def addLine (q : List Pt) (p : Pt) : Pt := (p.1, p.2 + lineEv q p.1)
def sumP (p q : List Pt) : List Pt := mergeP (p.map (addLine q)) (q.map (addLine p))
def sumOf (p q : List Pt) : List Pt := lineOf (sumP p q)
theorem sumP_ok {p q : List Pt} (gp : GoodL p) (gq : GoodL q) (he : (lineEnd p).1 = (lineEnd q).1) :
    GoodL (sumP p q) ∧ (lineEnd (sumP p q)).1 = (lineEnd p).1 ∧ (∀ x, 0 ≤ x → x ≤ (lineEnd p).1 → lineEv (sumP p q) x = lineEv p x + lineEv q x) ∧ (∀ z ∈ sumP p q, (∃ a ∈ p, a.1 = z.1) ∨ ∃ b ∈ q, b.1 = z.1) := by
  have hmem0 : ∀ z ∈ sumP p q, (∃ a ∈ p, z = addLine q a) ∨ ∃ b ∈ q, z = addLine p b := fun z hz => by
    rcases mergeP_mem _ _ _ (Nat.le_refl _) z hz with h | h
    · obtain ⟨a, ha, rfl⟩ := List.mem_map.mp h
      exact .inl ⟨a, ha, rfl⟩
    · obtain ⟨a, ha, rfl⟩ := List.mem_map.mp h
      exact .inr ⟨a, ha, rfl⟩
  have hmem : ∀ z ∈ sumP p q, (∃ a ∈ p, a.1 = z.1) ∨ ∃ b ∈ q, b.1 = z.1 := fun z hz => by
    rcases hmem0 z hz with ⟨a, ha, rfl⟩ | ⟨a, ha, rfl⟩
    · exact .inl ⟨a, ha, rfl⟩
    · exact .inr ⟨a, ha, rfl⟩
  have hfun : ∀ z ∈ sumP p q, z.2 = lineEv p z.1 + lineEv q z.1 := fun z hz => by
    rcases hmem0 z hz with ⟨a, ha, rfl⟩ | ⟨a, ha, rfl⟩
    · obtain ⟨j, hj⟩ := List.getElem?_of_mem ha
      show a.2 + lineEv q a.1 = lineEv p a.1 + lineEv q a.1
      rw [lineEv_pt gp hj]
    · obtain ⟨j, hj⟩ := List.getElem?_of_mem ha
      show a.2 + lineEv p a.1 = lineEv p a.1 + lineEv q a.1
      rw [lineEv_pt gq hj]
      exact Rat.add_comm _ _
  have hall : ∀ a, a ∈ p ∨ a ∈ q → ∃ z ∈ sumP p q, z.1 = a.1 := fun a ha => by
    rcases ha with h | h
    · obtain ⟨z, h1, h2⟩ := mergeP_all _ _ _ (Nat.le_refl _) (addLine q a) (.inl (List.mem_map_of_mem h))
      exact ⟨z, h1, h2⟩
    · obtain ⟨z, h1, h2⟩ := mergeP_all _ _ _ (Nat.le_refl _) (addLine p a) (.inr (List.mem_map_of_mem h))
      exact ⟨z, h1, h2⟩
  cases p with
  | nil => exact gp.elim
  | cons a ps =>
    cases q with
    | nil => exact gq.elim
    | cons b qs =>
      obtain ⟨rfl, hgp⟩ := id gp
      obtain ⟨rfl, hgq⟩ := id gq
      have e0 : addLine ((0, 0) :: qs) (0, 0) = (0, 0) := by
        have := lineEv_pt (j := 0) gq rfl
        show ((0 : Rat), (0 : Rat) + lineEv ((0, 0) :: qs) 0) = (0, 0)
        rw [this]
        show ((0 : Rat), (0 : Rat) + 0) = (0, 0)
        rw [Rat.add_zero]
      have eS : sumP ((0, 0) :: ps) ((0, 0) :: qs) = (0, 0) :: mergeP (ps.map (addLine ((0, 0) :: qs))) (qs.map (addLine ((0, 0) :: ps))) := by
        unfold sumP
        rw [List.map_cons, List.map_cons, mergeP_cons, e0]
        rw [if_neg (by exact Rat.lt_irrefl)]
        rw [if_pos (by rfl)]
      have hup : upFrom 0 (mergeP (ps.map (addLine ((0, 0) :: qs))) (qs.map (addLine ((0, 0) :: ps)))) :=
        mergeP_up _ _ _ _ (Nat.le_refl _) (upFrom_map (f := addLine ((0, 0) :: qs)) (fun _ => rfl) _ _ (upFrom_good ps _ hgp)) (upFrom_map (f := addLine ((0, 0) :: ps)) (fun _ => rfl) _ _ (upFrom_good qs _ hgq))
      rw [eS] at hmem hfun hall ⊢
      generalize mergeP (ps.map (addLine ((0, 0) :: qs))) (qs.map (addLine ((0, 0) :: ps))) = M at hmem hfun hall hup
      have hin : ∀ z ∈ ((0, 0) :: M : List Pt), z.1 ≤ (lineEnd ((0, 0) :: ps)).1 := fun z hz => by
        rcases hmem z hz with ⟨a, ha, e⟩ | ⟨a, ha, e⟩
        · rw [← e]; exact (good_nonneg gp ha).2
        · rw [← e, he]; exact (good_nonneg gq ha).2
      have hend : (lineEnd ((0, 0) :: M)).1 = (lineEnd ((0, 0) :: ps)).1 := by
        have h1 := hin _ (lineEnd_mem (ps := (0, 0) :: M) (by simp))
        obtain ⟨z, hz1, hz2⟩ := hall _ (.inl (lineEnd_mem (goodL_ne gp)))
        have h2 := upFrom_last M (0, 0) hup z hz1
        rw [hz2] at h2
        exact Rat.le_antisymm h1 h2
      have hx := fun_good (f := fun x => lineEv ((0, 0) :: ps) x + lineEv ((0, 0) :: qs) x) (e := (lineEnd ((0, 0) :: ps)).1) M (0, 0) hup (hfun (0, 0) List.mem_cons_self) (fun z hz => hfun z (List.mem_cons_of_mem _ hz)) (by rw [← hend]; exact Rat.le_refl) ?_
      · refine ⟨⟨rfl, hx.1⟩, hend, fun x h1 h2 => hx.2 x h1 (by rw [← hend] at h2; exact h2), hmem⟩
      · intro u v h1 h2 h3 hno
        have hno' : ∀ a : Pt, a ∈ ((0, 0) :: ps : List Pt) ∨ a ∈ ((0, 0) :: qs : List Pt) → ¬ (u < a.1 ∧ a.1 < v) := fun a ha => by
          obtain ⟨z, hz1, hz2⟩ := hall a ha
          rw [← hz2]
          rcases List.mem_cons.mp hz1 with rfl | hz
          · have h1' : (0 : Rat) ≤ u := h1
            show ¬ (u < 0 ∧ 0 < v)
            grind
          · exact hno z hz
        obtain ⟨k1, m1, hm1, e1⟩ := lineEv_affine gp h1 h2 h3 fun z hz => hno' z (.inl hz)
        obtain ⟨k2, m2, hm2, e2⟩ := lineEv_affine gq h1 h2 (he ▸ h3) fun z hz => hno' z (.inr hz)
        refine ⟨k1 + k2, m1 + m2, Rat.add_nonneg hm1 hm2, fun x hx1 hx2 => ?_⟩
        show lineEv _ x + lineEv _ x = _
        rw [e1 x hx1 hx2, e2 x hx1 hx2]
        grind
theorem line_uniq {p q : List Pt} (gp : GoodL p) (gq : GoodL q) (cp : Canon p) (cq : Canon q) (he : (lineEnd p).1 = (lineEnd q).1) (h : ∀ x, 0 ≤ x → x ≤ (lineEnd p).1 → lineEv p x = lineEv q x) : p = q := by
  cases p with
  | nil => exact gp.elim
  | cons a ps =>
    cases q with
    | nil => exact gq.elim
    | cons b qs =>
      obtain ⟨rfl, hgp⟩ := gp
      obtain ⟨rfl, hgq⟩ := gq
      rw [canon_uniq ps qs (0, 0) hgp hgq cp cq he h]
theorem sumOf_ok {p q : List Pt} (gp : GoodL p) (gq : GoodL q) (he : (lineEnd p).1 = (lineEnd q).1) :
    GoodL (sumOf p q) ∧ Canon (sumOf p q) ∧ (lineEnd (sumOf p q)).1 = (lineEnd p).1 ∧ (∀ x, 0 ≤ x → x ≤ (lineEnd p).1 → lineEv (sumOf p q) x = lineEv p x + lineEv q x) ∧ (∀ z ∈ sumOf p q, (∃ a ∈ p, a.1 = z.1) ∨ ∃ b ∈ q, b.1 = z.1) := by
  obtain ⟨h1, h2, h3, h4⟩ := sumP_ok gp gq he
  refine ⟨lineOf_good h1, lineOf_canon h1, ?_, fun x hx1 hx2 => ?_, fun z hz => h4 z (lineOf_mem hz)⟩
  · unfold sumOf
    rw [lineOf_end, h2]
  · unfold sumOf
    rw [lineOf_ev h1, h3 x hx1 hx2]
theorem sumOf_comm {p q : List Pt} (gp : GoodL p) (gq : GoodL q) (he : (lineEnd p).1 = (lineEnd q).1) : sumOf p q = sumOf q p := by
  obtain ⟨g1, c1, e1, v1, _⟩ := sumOf_ok gp gq he
  obtain ⟨g2, c2, e2, v2, _⟩ := sumOf_ok gq gp he.symm
  refine line_uniq g1 g2 c1 c2 (by rw [e1, e2, he]) fun x h1 h2 => ?_
  rw [e1] at h2
  rw [v1 x h1 h2, v2 x h1 (by rw [← he]; exact h2)]
  exact Rat.add_comm _ _
theorem bt_interp {a b : Pt} {x : Rat} {n : Nat} (ha : bp a n) (hb : bp b n) (hx : bt x n) (hl : a.1 < b.1) : bt (interp a b x) (7 * n + 5) := by
  have e : b.1 - a.1 ≠ 0 := by grind
  exact (bt_plus ha.2 (bt_times (bt_minus hx ha.1) (bt_over (bt_minus hb.2 ha.2) (bt_minus hb.1 ha.1) e))).mono (by omega)
theorem bt_evF : ∀ (r : List Pt) (a : Pt) (x : Rat) (n : Nat), goodFrom a r → bl (a :: r) n → bt x n → bt (evF a r x) (7 * n + 5)
  | [], a, x, n, _, h, _ => (h a List.mem_cons_self).2.mono (by omega)
  | b :: r, a, x, n, g, h, hx => by
    by_cases z : x ≤ b.1
    · rw [evF_at z]
      exact bt_interp (h a List.mem_cons_self) (h b (List.mem_cons_of_mem _ List.mem_cons_self)) hx g.1
    · rw [evF_beyond z]
      exact bt_evF r b x n g.2.2 (fun p hp => h p (List.mem_cons_of_mem _ hp)) hx
theorem bt_lineEv {ps : List Pt} {x : Rat} {n : Nat} (g : GoodL ps) (h : bl ps n) (hx : bt x n) : bt (lineEv ps x) (7 * n + 5) := by
  cases ps with
  | nil => exact g.elim
  | cons a r => exact bt_evF r a x n g.2 h hx
theorem bl_addLine {p q : List Pt} {n : Nat} (gq : GoodL q) (hp : bl p n) (hq : bl q n) : bl (p.map (addLine q)) (8 * n + 6) := fun z hz => by
  obtain ⟨a, ha, rfl⟩ := List.mem_map.mp hz
  have := hp a ha
  exact ⟨this.1.mono (by omega), (bt_plus this.2 (bt_lineEv gq hq this.1)).mono (by omega)⟩
theorem bl_sumP {p q : List Pt} {n : Nat} (gp : GoodL p) (gq : GoodL q) (hp : bl p n) (hq : bl q n) : bl (sumP p q) (8 * n + 6) := fun z hz => by
  rcases mergeP_mem _ _ _ (Nat.le_refl _) z hz with h | h
  · exact bl_addLine gq hp hq z h
  · exact bl_addLine gp hq hp z h
theorem sumP_len (p q : List Pt) : (sumP p q).length ≤ p.length + q.length := by
  have := mergeP_len _ (p.map (addLine q)) (q.map (addLine p)) (Nat.le_refl _)
  rw [List.length_map, List.length_map] at this
  exact this
def cMerged : Ct := fun ds k => ∃ (ps qs : List Pt) (n : Nat), ds = [.list (pts ps), .list (pts qs)] ∧ bl ps n ∧ bl qs n ∧ n ≤ 20000000 ∧ ps.length + qs.length ≤ 50000 ∧ k.rt (.list (pts (mergeP ps qs)))
theorem merged_v {ps qs : List Pt} {n : Nat} (h1 : bl ps n) (h2 : bl qs n) (hn : n ≤ 20000000) (hl : ps.length + qs.length ≤ 50000) : cMerged [.list (pts ps), .list (pts qs)] (kv (.list (pts (mergeP ps qs)))) := ⟨ps, qs, n, rfl, h1, h2, hn, hl, rfl⟩
def cSumOf (C : Addr) : Ct := fun ds k => ∃ (ps qs : List Pt) (n : Nat), ds = [.tuple (pts ps), .tuple (pts qs)] ∧ GoodL ps ∧ GoodL qs ∧ bl ps n ∧ bl qs n ∧ n ≤ 200000 ∧ ps.length + qs.length ≤ 50000 ∧ ((lineEnd ps).1 ≠ (lineEnd qs).1 → k.ex (.ref C)) ∧ ((lineEnd ps).1 = (lineEnd qs).1 → k.rt (.tuple (pts (sumOf ps qs))))
theorem sumOf_v {C : Addr} {ps qs : List Pt} {n : Nat} (g1 : GoodL ps) (g2 : GoodL qs) (h1 : bl ps n) (h2 : bl qs n) (hn : n ≤ 200000) (hl : ps.length + qs.length ≤ 50000) (e : (lineEnd ps).1 = (lineEnd qs).1) : cSumOf C [.tuple (pts ps), .tuple (pts qs)] (kv (.tuple (pts (sumOf ps qs)))) := ⟨ps, qs, n, rfl, g1, g2, h1, h2, hn, hl, fun z => absurd e z, fun _ => rfl⟩
theorem sumOf_x {C : Addr} {ps qs : List Pt} {n : Nat} (g1 : GoodL ps) (g2 : GoodL qs) (h1 : bl ps n) (h2 : bl qs n) (hn : n ≤ 200000) (hl : ps.length + qs.length ≤ 50000) (e : (lineEnd ps).1 ≠ (lineEnd qs).1) : cSumOf C [.tuple (pts ps), .tuple (pts qs)] (kx (.ref C)) := ⟨ps, qs, n, rfl, g1, g2, h1, h2, hn, hl, fun _ => rfl, fun z => absurd z e⟩
theorem good_long {P : List Pt} (g : GoodL P) (h : 2 ≤ P.length) : 0 < (lineEnd P).1 := by
  have hl := lineEnd_last (goodL_ne g)
  cases P with
  | nil => exact g.elim
  | cons a r =>
    obtain ⟨rfl, g⟩ := g
    obtain ⟨j, hj⟩ : ∃ j, ((0, 0) :: r : List Pt).length - 1 = j + 1 := ⟨((0, 0) :: r : List Pt).length - 2, by omega⟩
    rw [hj] at hl
    exact goodFrom_lt g hl
theorem lastP_snoc : ∀ (r : List Pt) (a q : Pt), lastP a (r ++ [q]) = q
  | [], _, _ => rfl
  | b :: r, a, q => lastP_snoc r b q
theorem goodFrom_snoc : ∀ (r : List Pt) (a q : Pt), goodFrom a r → (lastP a r).1 < q.1 → (lastP a r).2 ≤ q.2 → goodFrom a (r ++ [q])
  | [], _, _, _, h1, h2 => ⟨h1, h2, trivial⟩
  | b :: r, a, q, g, h1, h2 => ⟨g.1, g.2.1, goodFrom_snoc r b q g.2.2 h1 h2⟩
theorem good_snoc {P : List Pt} {q : Pt} (g : GoodL P) (h1 : (lineEnd P).1 < q.1) (h2 : (lineEnd P).2 ≤ q.2) : GoodL (P ++ [q]) ∧ lineEnd (P ++ [q]) = q := by
  cases P with
  | nil => exact g.elim
  | cons a r =>
    obtain ⟨rfl, g⟩ := g
    exact ⟨⟨rfl, goodFrom_snoc r (0, 0) q g h1 h2⟩, lastP_snoc r (0, 0) q⟩
theorem fls_any {X : List Rat} {x : Rat} (h : x ∈ X) : ((fls X).any fun z => PyData.eqv z (fr x)) = true := by
  rw [List.any_eq_true]
  exact ⟨fr x, List.mem_map_of_mem h, by rw [fr_eqv]; exact decide_eq_true rfl⟩
theorem fr_unit {d : Int} (h : 0 < d) : PyData.tuple [.int 1, .int d] = fr ((d : Rat))⁻¹ := by
  have := fr_inv (q := (d : Rat)) (by exact_mod_cast h)
  exact this
end Pu

set_option maxRecDepth 100000
namespace Pu
open PySem PySem.Spec PyProof.Rows L2
/-! ### one line behind another -/
/-- the first x at which a line is y -/
def firstF : Pt → List Pt → Rat → Rat
  | p, [], _ => p.1
  | p, q :: r, y => if y ≤ p.2 then p.1 else if y ≤ q.2 then p.1 + (y - p.2) * ((q.1 - p.1) / (q.2 - p.2)) else firstF q r y
def lineFirst : List Pt → Rat → Rat
  | [], _ => 0
  | p :: r, y => firstF p r y
theorem evF_low : ∀ (r : List Pt) (a : Pt) (x : Rat), goodFrom a r → a.1 ≤ x → a.2 ≤ evF a r x
  | [], a, x, _, _ => Rat.le_refl
  | b :: r, a, x, g, h => by
    obtain ⟨g1, g2, g3⟩ := g
    by_cases z : x ≤ b.1
    · rw [evF_at z]
      unfold interp
      have e1 : 0 < b.1 - a.1 := by grind
      have e2 : 0 ≤ b.2 - a.2 := by grind
      have e3 : 0 ≤ x - a.1 := by grind
      have := Rat.mul_nonneg e3 (Rat.mul_nonneg e2 (Rat.le_of_lt (Rat.inv_pos.mpr e1)))
      rw [Rat.div_def]
      grind
    · rw [evF_beyond z]
      have := evF_low r b x g3 (by grind)
      grind
theorem firstF_ge : ∀ (r : List Pt) (a : Pt) (y : Rat), goodFrom a r → a.1 ≤ firstF a r y
  | [], a, y, _ => Rat.le_refl
  | b :: r, a, y, g => by
    obtain ⟨g1, g2, g3⟩ := g
    unfold firstF
    split
    · exact Rat.le_refl
    · split
      · have e1 : 0 ≤ b.1 - a.1 := by grind
        have e2 : 0 < b.2 - a.2 := by grind
        have e3 : 0 ≤ y - a.2 := by grind
        have := Rat.mul_nonneg e3 (Rat.mul_nonneg e1 (Rat.le_of_lt (Rat.inv_pos.mpr e2)))
        rw [Rat.div_def]
        grind
      · have := firstF_ge r b y g3
        grind
/-- within a piece -/
theorem seg_first {p q : Pt} {y : Rat} (h1 : p.1 < q.1) (h2 : p.2 < y) (h3 : y ≤ q.2) : p.1 < p.1 + (y - p.2) * ((q.1 - p.1) / (q.2 - p.2)) ∧ p.1 + (y - p.2) * ((q.1 - p.1) / (q.2 - p.2)) ≤ q.1 ∧ interp p q (p.1 + (y - p.2) * ((q.1 - p.1) / (q.2 - p.2))) = y := by
  have e1 : 0 < q.1 - p.1 := by grind
  have e2 : 0 < q.2 - p.2 := by grind
  have e3 : 0 < y - p.2 := by grind
  have e5 : 0 < (q.1 - p.1) / (q.2 - p.2) := by
    rw [Rat.div_def]
    exact Rat.mul_pos e1 (Rat.inv_pos.mpr e2)
  have e4 := Rat.mul_pos e3 e5
  have n1 : q.1 - p.1 ≠ 0 := by grind
  have n2 : q.2 - p.2 ≠ 0 := by grind
  refine ⟨by grind, ?_, ?_⟩
  · have h := Rat.mul_le_mul_of_nonneg_right (show y - p.2 ≤ q.2 - p.2 by grind) (Rat.le_of_lt e5)
    have : (q.2 - p.2) * ((q.1 - p.1) / (q.2 - p.2)) = q.1 - p.1 := by grind
    grind
  · unfold interp
    grind
theorem firstF_ev : ∀ (r : List Pt) (a : Pt) (y : Rat), goodFrom a r → a.2 ≤ y → y ≤ (lastP a r).2 → evF a r (firstF a r y) = y ∧ firstF a r y ≤ (lastP a r).1
  | [], a, y, _, h1, h2 => by
    have h2' : y ≤ a.2 := h2
    exact ⟨by show a.2 = y; grind, Rat.le_refl⟩
  | b :: r, a, y, g, h1, h2 => by
    obtain ⟨g1, g2, g3⟩ := g
    have hb := lastP_ge r b g3
    have hL : lastP a (b :: r) = lastP b r := rfl
    unfold firstF
    split
    · have : y = a.2 := by grind
      rw [evF_at (Rat.le_of_lt g1), (interp_ends g1).1, hL]
      exact ⟨this.symm, by grind⟩
    · split
      · rename_i h3 h4
        obtain ⟨s1, s2, s3⟩ := seg_first g1 (by grind) h4
        rw [evF_at s2, hL]
        exact ⟨s3, by grind⟩
      · rename_i h3 h4
        obtain ⟨i1, i2⟩ := firstF_ev r b y g3 (by grind) h2
        refine ⟨?_, i2⟩
        have hge := firstF_ge r b y g3
        by_cases z : firstF b r y ≤ b.1
        · have e : firstF b r y = b.1 := by grind
          rw [e] at i1 ⊢
          have := evF_pt r b 0 b g3 rfl
          rw [this] at i1
          grind
        · rw [evF_beyond z]
          exact i1
/-- strictly before it the line is lower -/
theorem firstF_min : ∀ (r : List Pt) (a : Pt) (x y : Rat), goodFrom a r → a.1 ≤ x → x < firstF a r y → evF a r x < y
  | [], a, x, y, _, h1, h2 => by
    have : x < a.1 := h2
    grind
  | b :: r, a, x, y, g, h1, h2 => by
    obtain ⟨g1, g2, g3⟩ := g
    unfold firstF at h2
    split at h2
    · grind
    · split at h2
      · rename_i h3 h4
        obtain ⟨s1, s2, s3⟩ := seg_first g1 (show a.2 < y by grind) h4
        rw [evF_at (by grind)]
        unfold interp
        have e1 : 0 < b.1 - a.1 := by grind
        have e2 : 0 < b.2 - a.2 := by grind
        have hm : 0 < (b.2 - a.2) / (b.1 - a.1) := by
          rw [Rat.div_def]
          exact Rat.mul_pos e2 (Rat.inv_pos.mpr e1)
        have n1 : b.1 - a.1 ≠ 0 := by grind
        have n2 : b.2 - a.2 ≠ 0 := by grind
        have h := Rat.mul_lt_mul_of_pos_right (show x - a.1 < (y - a.2) * ((b.1 - a.1) / (b.2 - a.2)) by grind) hm
        have : (y - a.2) * ((b.1 - a.1) / (b.2 - a.2)) * ((b.2 - a.2) / (b.1 - a.1)) = y - a.2 := by grind
        grind
      · rename_i h3 h4
        by_cases z : x ≤ b.1
        · have hi := evF_at (a := a) (r := r) z
          rw [hi]
          have hle : interp a b x ≤ b.2 := by
            unfold interp
            have e1 : 0 < b.1 - a.1 := by grind
            have e2 : 0 ≤ b.2 - a.2 := by grind
            have hm : 0 ≤ (b.2 - a.2) / (b.1 - a.1) := by
              rw [Rat.div_def]
              exact Rat.mul_nonneg e2 (Rat.le_of_lt (Rat.inv_pos.mpr e1))
            have n1 : b.1 - a.1 ≠ 0 := by grind
            have h := Rat.mul_le_mul_of_nonneg_right (show x - a.1 ≤ b.1 - a.1 by grind) hm
            have : (b.1 - a.1) * ((b.2 - a.2) / (b.1 - a.1)) = b.2 - a.2 := by grind
            grind
          grind
        · rw [evF_beyond z]
          exact firstF_min r b x y g3 (by grind) h2
theorem interp_mono {a b : Pt} {x y : Rat} (g1 : a.1 < b.1) (g2 : a.2 ≤ b.2) (h : x ≤ y) : interp a b x ≤ interp a b y := by
  unfold interp
  have e1 : 0 < b.1 - a.1 := by grind
  have e2 : 0 ≤ b.2 - a.2 := by grind
  have hm : 0 ≤ (b.2 - a.2) / (b.1 - a.1) := by
    rw [Rat.div_def]
    exact Rat.mul_nonneg e2 (Rat.le_of_lt (Rat.inv_pos.mpr e1))
  have h := Rat.mul_le_mul_of_nonneg_right (show x - a.1 ≤ y - a.1 by grind) hm
  grind
theorem evF_mono : ∀ (r : List Pt) (a : Pt) (x y : Rat), goodFrom a r → a.1 ≤ x → x ≤ y → evF a r x ≤ evF a r y
  | [], a, x, y, _, _, _ => Rat.le_refl
  | b :: r, a, x, y, g, h0, h => by
    obtain ⟨g1, g2, g3⟩ := g
    by_cases hx : x ≤ b.1
    · rw [evF_at hx]
      by_cases hy : y ≤ b.1
      · rw [evF_at hy]
        exact interp_mono g1 g2 h
      · rw [evF_beyond hy]
        have h1 := interp_mono g1 g2 hx
        rw [(interp_ends g1).2] at h1
        have h2 := evF_low r b y g3 (by grind)
        grind
    · rw [evF_beyond hx, evF_beyond (by grind)]
      exact evF_mono r b x y g3 (by grind) h
theorem lineEv_mono {P : List Pt} {x y : Rat} (g : GoodL P) (h0 : 0 ≤ x) (h : x ≤ y) : lineEv P x ≤ lineEv P y := by
  cases P with
  | nil => exact g.elim
  | cons a r =>
    obtain ⟨rfl, g⟩ := g
    exact evF_mono r (0, 0) x y g h0 h
theorem lineEv_end {P : List Pt} (g : GoodL P) : lineEv P (lineEnd P).1 = (lineEnd P).2 := lineEv_pt g (lineEnd_last (goodL_ne g))
theorem good_ys {P : List Pt} (g : GoodL P) {p : Pt} (hp : p ∈ P) : 0 ≤ p.2 ∧ p.2 ≤ (lineEnd P).2 := by
  obtain ⟨j, hj⟩ := List.getElem?_of_mem hp
  have h := good_nonneg g hp
  have e := lineEv_pt g hj
  have z := lineEv_pt (j := 0) g (good_zero g)
  have h1 := lineEv_mono g (x := 0) (y := p.1) Rat.le_refl h.1
  have h2 := lineEv_mono g h.1 h.2
  rw [e, lineEv_end g] at h2
  have z' : lineEv P 0 = 0 := z
  rw [e, z'] at h1
  exact ⟨h1, h2⟩
theorem lineFirst_ok {P : List Pt} {y : Rat} (g : GoodL P) (h1 : 0 ≤ y) (h2 : y ≤ (lineEnd P).2) : 0 ≤ lineFirst P y ∧ lineFirst P y ≤ (lineEnd P).1 ∧ lineEv P (lineFirst P y) = y ∧ ∀ x, 0 ≤ x → x < lineFirst P y → lineEv P x < y := by
  cases P with
  | nil => exact g.elim
  | cons a r =>
    obtain ⟨rfl, g⟩ := g
    obtain ⟨e1, e2⟩ := firstF_ev r (0, 0) y g h1 h2
    exact ⟨firstF_ge r (0, 0) y g, e2, e1, fun x hx1 hx2 => firstF_min r (0, 0) x y g hx1 hx2⟩
theorem lineFirst_lt {P : List Pt} {y z : Rat} (g : GoodL P) (h1 : 0 ≤ y) (h2 : z ≤ (lineEnd P).2) (h : y < z) : lineFirst P y < lineFirst P z := by
  obtain ⟨a1, a2, a3, _⟩ := lineFirst_ok (y := y) g h1 (by grind)
  obtain ⟨b1, b2, b3, _⟩ := lineFirst_ok (y := z) g (by grind) h2
  apply Rat.not_le.mp
  intro c
  have := lineEv_mono g b1 c
  grind
theorem lineFirst_zero {P : List Pt} (g : GoodL P) : lineFirst P 0 = 0 := by
  cases P with
  | nil => exact g.elim
  | cons a r =>
    obtain ⟨rfl, g⟩ := g
    cases r with
    | nil => rfl
    | cons b r =>
      show firstF (0, 0) (b :: r) 0 = 0
      unfold firstF
      exact if_pos Rat.le_refl
def bhOne (two : List Pt) (a : Pt) : Pt := (lineFirst two a.1, a.2)
def bhTwo (one : List Pt) (b : Pt) : Pt := (b.1, lineEv one b.2)
def behindP (one two : List Pt) : List Pt := mergeP (one.map (bhOne two)) (two.map (bhTwo one))
def behindOf (one two : List Pt) : List Pt := lineOf (behindP one two)
theorem up_first {two : List Pt} (g : GoodL two) : ∀ (r : List Pt) (a : Pt), goodFrom a r → 0 ≤ a.1 → (lastP a r).1 ≤ (lineEnd two).2 → upFrom (lineFirst two a.1) (r.map (bhOne two))
  | [], _, _, _, _ => trivial
  | b :: r, a, h, h0, hl => by
    have hb := lastP_ge r b h.2.2
    have hl' : (lastP b r).1 ≤ (lineEnd two).2 := hl
    exact ⟨lineFirst_lt g h0 (by grind) h.1, up_first g r b h.2.2 (by have := h.1; grind) hl'⟩
theorem behindP_ok {p q : List Pt} (gp : GoodL p) (gq : GoodL q) (he : (lineEnd p).1 = (lineEnd q).2) :
    GoodL (behindP p q) ∧ (lineEnd (behindP p q)).1 = (lineEnd q).1 ∧ (∀ x, 0 ≤ x → x ≤ (lineEnd q).1 → lineEv (behindP p q) x = lineEv p (lineEv q x)) ∧ (∀ z ∈ behindP p q, (∃ a ∈ p, lineFirst q a.1 = z.1) ∨ ∃ b ∈ q, b.1 = z.1) := by
  have hmem0 : ∀ z ∈ behindP p q, (∃ a ∈ p, z = bhOne q a) ∨ ∃ b ∈ q, z = bhTwo p b := fun z hz => by
    rcases mergeP_mem _ _ _ (Nat.le_refl _) z hz with h | h
    · obtain ⟨a, ha, rfl⟩ := List.mem_map.mp h
      exact .inl ⟨a, ha, rfl⟩
    · obtain ⟨a, ha, rfl⟩ := List.mem_map.mp h
      exact .inr ⟨a, ha, rfl⟩
  have hmem : ∀ z ∈ behindP p q, (∃ a ∈ p, lineFirst q a.1 = z.1) ∨ ∃ b ∈ q, b.1 = z.1 := fun z hz => by
    rcases hmem0 z hz with ⟨a, ha, rfl⟩ | ⟨a, ha, rfl⟩
    · exact .inl ⟨a, ha, rfl⟩
    · exact .inr ⟨a, ha, rfl⟩
  have hfun : ∀ z ∈ behindP p q, z.2 = lineEv p (lineEv q z.1) := fun z hz => by
    rcases hmem0 z hz with ⟨a, ha, rfl⟩ | ⟨a, ha, rfl⟩
    · obtain ⟨j, hj⟩ := List.getElem?_of_mem ha
      have hx := good_nonneg gp ha
      obtain ⟨_, _, h3, _⟩ := lineFirst_ok gq hx.1 (by rw [← he]; exact hx.2)
      show a.2 = lineEv p (lineEv q (lineFirst q a.1))
      rw [h3, lineEv_pt gp hj]
    · obtain ⟨j, hj⟩ := List.getElem?_of_mem ha
      show lineEv p a.2 = lineEv p (lineEv q a.1)
      rw [lineEv_pt gq hj]
  have hall1 : ∀ a ∈ p, ∃ z ∈ behindP p q, z.1 = lineFirst q a.1 := fun a h => by
    obtain ⟨z, h1, h2⟩ := mergeP_all _ _ _ (Nat.le_refl _) (bhOne q a) (.inl (List.mem_map_of_mem h))
    exact ⟨z, h1, h2⟩
  have hall2 : ∀ a ∈ q, ∃ z ∈ behindP p q, z.1 = a.1 := fun a h => by
    obtain ⟨z, h1, h2⟩ := mergeP_all _ _ _ (Nat.le_refl _) (bhTwo p a) (.inr (List.mem_map_of_mem h))
    exact ⟨z, h1, h2⟩
  have hin : ∀ z ∈ behindP p q, z.1 ≤ (lineEnd q).1 := fun z hz => by
    rcases hmem z hz with ⟨a, ha, e⟩ | ⟨a, ha, e⟩
    · have hx := good_nonneg gp ha
      obtain ⟨_, h2, _, _⟩ := lineFirst_ok gq hx.1 (by rw [← he]; exact hx.2)
      rw [← e]; exact h2
    · rw [← e]; exact (good_nonneg gq ha).2
  cases p with
  | nil => exact gp.elim
  | cons a ps =>
    cases q with
    | nil => exact gq.elim
    | cons b qs =>
      obtain ⟨rfl, hgp⟩ := id gp
      obtain ⟨rfl, hgq⟩ := id gq
      have e0 : bhOne ((0, 0) :: qs) (0, 0) = (0, 0) := by
        show (lineFirst ((0, 0) :: qs) 0, (0 : Rat)) = (0, 0)
        rw [lineFirst_zero gq]
      have eS : behindP ((0, 0) :: ps) ((0, 0) :: qs) = (0, 0) :: mergeP (ps.map (bhOne ((0, 0) :: qs))) (qs.map (bhTwo ((0, 0) :: ps))) := by
        unfold behindP
        rw [List.map_cons, List.map_cons, mergeP_cons, e0]
        rw [if_neg (by exact Rat.lt_irrefl)]
        rw [if_pos (by rfl)]
      have hup1 := up_first gq ps (0, 0) hgp Rat.le_refl (by rw [← he]; exact Rat.le_refl)
      rw [show lineFirst ((0, 0) :: qs) ((0, 0) : Pt).1 = 0 from lineFirst_zero gq] at hup1
      have hup : upFrom 0 (mergeP (ps.map (bhOne ((0, 0) :: qs))) (qs.map (bhTwo ((0, 0) :: ps)))) :=
        mergeP_up _ _ _ _ (Nat.le_refl _) hup1 (upFrom_map (f := bhTwo ((0, 0) :: ps)) (fun _ => rfl) _ _ (upFrom_good qs _ hgq))
      rw [eS] at hmem hfun hall1 hall2 hin ⊢
      generalize mergeP (ps.map (bhOne ((0, 0) :: qs))) (qs.map (bhTwo ((0, 0) :: ps))) = M at hmem hfun hall1 hall2 hup hin
      have hend : (lineEnd ((0, 0) :: M)).1 = (lineEnd ((0, 0) :: qs)).1 := by
        have h1 := hin _ (lineEnd_mem (ps := (0, 0) :: M) (by simp))
        obtain ⟨z, hz1, hz2⟩ := hall2 _ (lineEnd_mem (goodL_ne gq))
        have h2 := upFrom_last M (0, 0) hup z hz1
        rw [hz2] at h2
        exact Rat.le_antisymm h1 h2
      have hx := fun_good (f := fun x => lineEv ((0, 0) :: ps) (lineEv ((0, 0) :: qs) x)) (e := (lineEnd ((0, 0) :: qs)).1) M (0, 0) hup (hfun (0, 0) List.mem_cons_self) (fun z hz => hfun z (List.mem_cons_of_mem _ hz)) (by rw [← hend]; exact Rat.le_refl) ?_
      · refine ⟨⟨rfl, hx.1⟩, hend, fun x h1 h2 => hx.2 x h1 (by rw [← hend] at h2; exact h2), hmem⟩
      · intro u v h1 h2 h3 hno
        have h1 : (0 : Rat) ≤ u := h1
        have hnoM : ∀ z ∈ ((0, 0) :: M : List Pt), ¬ (u < z.1 ∧ z.1 < v) := fun z hz => by
          rcases List.mem_cons.mp hz with rfl | hz
          · show ¬ (u < 0 ∧ 0 < v)
            grind
          · exact hno z hz
        obtain ⟨k2, m2, hm2, e2⟩ := lineEv_affine gq h1 h2 h3 fun a ha => by
          obtain ⟨z, hz1, hz2⟩ := hall2 a ha
          rw [← hz2]
          exact hnoM z hz1
        have euq := e2 u Rat.le_refl (Rat.le_of_lt h2)
        have evq := e2 v (Rat.le_of_lt h2) Rat.le_refl
        by_cases hm0 : m2 = 0
        · refine ⟨lineEv ((0, 0) :: ps) k2, 0, Rat.le_refl, fun x hx1 hx2 => ?_⟩
          show lineEv _ (lineEv _ x) = _
          rw [e2 x hx1 hx2, hm0]
          have : k2 + 0 * x = k2 := by grind
          rw [this]
          grind
        have hmp : 0 < m2 := by grind
        have hy0 : 0 ≤ lineEv ((0, 0) :: qs) u := by
          have := lineEv_mono gq Rat.le_refl h1
          rw [show lineEv ((0, 0) :: qs) 0 = 0 from lineEv_pt (j := 0) gq rfl] at this
          exact this
        have hyl : lineEv ((0, 0) :: qs) u < lineEv ((0, 0) :: qs) v := by
          have := Rat.mul_lt_mul_of_pos_left h2 hmp
          rw [euq, evq]
          grind
        have hye : lineEv ((0, 0) :: qs) v ≤ (lineEnd ((0, 0) :: ps)).1 := by
          have := lineEv_mono gq (x := v) (by grind) h3
          rw [lineEv_end gq, ← he] at this
          exact this
        obtain ⟨k1, m1, hm1, e1⟩ := lineEv_affine gp hy0 hyl hye fun a ha c => by
          obtain ⟨z, hz1, hz2⟩ := hall1 a ha
          have hx := good_nonneg gp ha
          obtain ⟨f1, f2, f3, f4⟩ := lineFirst_ok gq hx.1 (by rw [← he]; exact hx.2)
          have hzz := hnoM z hz1
          rw [hz2] at hzz
          apply hzz
          constructor
          · apply Rat.not_le.mp
            intro w
            have := lineEv_mono gq f1 w
            rw [f3] at this
            grind
          · apply Rat.not_le.mp
            intro w
            have := lineEv_mono gq (x := v) (by grind) w
            rw [f3] at this
            grind
        refine ⟨k1 + m1 * k2, m1 * m2, Rat.mul_nonneg hm1 hm2, fun x hx1 hx2 => ?_⟩
        show lineEv _ (lineEv _ x) = _
        have a1 := lineEv_mono gq h1 hx1
        have a2 := lineEv_mono gq (x := x) (by grind) hx2
        rw [e1 _ a1 a2, e2 x hx1 hx2]
        grind
theorem behindOf_ok {p q : List Pt} (gp : GoodL p) (gq : GoodL q) (he : (lineEnd p).1 = (lineEnd q).2) :
    GoodL (behindOf p q) ∧ Canon (behindOf p q) ∧ (lineEnd (behindOf p q)).1 = (lineEnd q).1 ∧ (lineEnd (behindOf p q)).2 = (lineEnd p).2 ∧ (∀ x, 0 ≤ x → x ≤ (lineEnd q).1 → lineEv (behindOf p q) x = lineEv p (lineEv q x)) ∧ (∀ z ∈ behindOf p q, (∃ a ∈ p, lineFirst q a.1 = z.1) ∨ ∃ b ∈ q, b.1 = z.1) := by
  obtain ⟨h1, h2, h3, h4⟩ := behindP_ok gp gq he
  have g := lineOf_good h1
  have e1 : (lineEnd (behindOf p q)).1 = (lineEnd q).1 := by
    unfold behindOf
    rw [lineOf_end, h2]
  have v : ∀ x, 0 ≤ x → x ≤ (lineEnd q).1 → lineEv (behindOf p q) x = lineEv p (lineEv q x) := fun x hx1 hx2 => by
    unfold behindOf
    rw [lineOf_ev h1, h3 x hx1 hx2]
  refine ⟨g, lineOf_canon h1, e1, ?_, v, fun z hz => h4 z (lineOf_mem hz)⟩
  have := lineEv_end g
  have g0 : GoodL (behindOf p q) := g
  have w := lineEv_end g0
  rw [e1, v _ (good_nonneg gq (lineEnd_mem (goodL_ne gq))).1 Rat.le_refl, lineEv_end gq, ← he, lineEv_end gp] at w
  exact w.symm
theorem goodFrom_le2 : ∀ (r : List Pt) (a : Pt) (j : Nat) (p : Pt), goodFrom a r → (a :: r)[j]? = some p → a.2 ≤ p.2
  | r, a, 0, p, _, h => by
    obtain rfl := Option.some.inj h
    exact Rat.le_refl
  | [], a, j + 1, p, _, h => by simp at h
  | b :: r, a, j + 1, p, g, h => by
    have := goodFrom_le2 r b j p g.2.2 h
    have := g.2.1
    grind
theorem firstF_seg : ∀ (r : List Pt) (a : Pt) (j : Nat) (p q : Pt) (y : Rat), goodFrom a r → (a :: r)[j]? = some p → (a :: r)[j + 1]? = some q → p.2 < y → y ≤ q.2 → firstF a r y = p.1 + (y - p.2) * ((q.1 - p.1) / (q.2 - p.2))
  | [], a, j, p, q, y, _, _, h, _, _ => by simp at h
  | b :: r, a, 0, p, q, y, _, hp, hq, h1, h2 => by
    obtain rfl := Option.some.inj hp
    obtain rfl := Option.some.inj hq
    unfold firstF
    rw [if_neg (by grind), if_pos h2]
  | b :: r, a, j + 1, p, q, y, g, hp, hq, h1, h2 => by
    have h3 := goodFrom_le2 r b j p g.2.2 hp
    have h4 := g.2.1
    unfold firstF
    rw [if_neg (by grind), if_neg (by grind)]
    exact firstF_seg r b j p q y g.2.2 hp hq h1 h2
theorem firstF_pt : ∀ (r : List Pt) (a : Pt) (j : Nat) (p : Pt), goodFrom a r → (a :: r)[j]? = some p → (∀ i q, i < j → (a :: r)[i]? = some q → q.2 < p.2) → firstF a r p.2 = p.1
  | [], a, 0, p, _, h, _ => by
    obtain rfl := Option.some.inj h
    rfl
  | [], a, j + 1, p, _, h, _ => by simp at h
  | b :: r, a, 0, p, _, h, _ => by
    obtain rfl := Option.some.inj h
    unfold firstF
    exact if_pos Rat.le_refl
  | b :: r, a, 1, p, _, h, hb => by
    obtain rfl : b = p := Option.some.inj h
    have := hb 0 a (by omega) rfl
    unfold firstF
    rw [if_neg (by grind), if_pos Rat.le_refl]
    have : b.2 - a.2 ≠ 0 := by grind
    grind
  | b :: r, a, j + 2, p, g, h, hb => by
    have h1 := hb 0 a (by omega) rfl
    have h2 := hb 1 b (by omega) rfl
    unfold firstF
    rw [if_neg (by grind), if_neg (by grind)]
    exact firstF_pt r b (j + 1) p g.2.2 h fun i q hi hq => hb (i + 1) q (by omega) hq
theorem lineFirst_seg {P : List Pt} {j : Nat} {p q : Pt} {y : Rat} (g : GoodL P) (hp : P[j]? = some p) (hq : P[j + 1]? = some q) (h1 : p.2 < y) (h2 : y ≤ q.2) : lineFirst P y = interp (p.2, p.1) (q.2, q.1) y := by
  cases P with
  | nil => cases hp
  | cons a r => exact firstF_seg r a j p q y g.2 hp hq h1 h2
theorem lineFirst_pt {P : List Pt} {j : Nat} {p : Pt} (g : GoodL P) (hp : P[j]? = some p) (h : ∀ i q, i < j → P[i]? = some q → q.2 < p.2) : lineFirst P p.2 = p.1 := by
  cases P with
  | nil => cases hp
  | cons a r => exact firstF_pt r a j p g.2 hp h
def cExchanged : Ct := fun ds k => ∃ a : Pt, ds = [pt a] ∧ k.rt (pt (a.2, a.1))
theorem exchanged_v {a : Pt} : cExchanged [pt a] (kv (pt (a.2, a.1))) := ⟨a, rfl, rfl⟩
def cFirst : Ct := fun ds k => ∃ (P : List Pt) (y : Rat) (n : Nat), ds = [.tuple (pts P), fr y] ∧ GoodL P ∧ bl P n ∧ bt y n ∧ n ≤ 1000000 ∧ P.length ≤ 100000 ∧ 0 ≤ y ∧ y ≤ (lineEnd P).2 ∧ k.rt (fr (lineFirst P y))
theorem first_v {P : List Pt} {y : Rat} {n : Nat} (g : GoodL P) (hb : bl P n) (hy : bt y n) (hn : n ≤ 1000000) (hl : P.length ≤ 100000) (h1 : 0 ≤ y) (h2 : y ≤ (lineEnd P).2) : cFirst [.tuple (pts P), fr y] (kv (fr (lineFirst P y))) := ⟨P, y, n, rfl, g, hb, hy, hn, hl, h1, h2, rfl⟩
theorem bt_firstF : ∀ (r : List Pt) (a : Pt) (y : Rat) (n : Nat), goodFrom a r → bl (a :: r) n → bt y n → bt (firstF a r y) (7 * n + 5)
  | [], a, y, n, _, h, _ => (h a List.mem_cons_self).1.mono (by omega)
  | b :: r, a, y, n, g, h, hy => by
    have ha := h a List.mem_cons_self
    have hb := h b (List.mem_cons_of_mem _ List.mem_cons_self)
    unfold firstF
    split
    · exact ha.1.mono (by omega)
    · split
      · exact bt_interp (a := (a.2, a.1)) (b := (b.2, b.1)) ⟨ha.2, ha.1⟩ ⟨hb.2, hb.1⟩ hy (by show a.2 < b.2; grind)
      · exact bt_firstF r b y n g.2.2 (fun p hp => h p (List.mem_cons_of_mem _ hp)) hy
theorem bt_lineFirst {P : List Pt} {y : Rat} {n : Nat} (g : GoodL P) (h : bl P n) (hy : bt y n) : bt (lineFirst P y) (7 * n + 5) := by
  cases P with
  | nil => exact g.elim
  | cons a r => exact bt_firstF r a y n g.2 h hy
theorem bl_bhOne {p q : List Pt} {n : Nat} (gq : GoodL q) (hp : bl p n) (hq : bl q n) : bl (p.map (bhOne q)) (7 * n + 5) := fun z hz => by
  obtain ⟨a, ha, rfl⟩ := List.mem_map.mp hz
  have := hp a ha
  exact ⟨bt_lineFirst gq hq this.1, this.2.mono (by omega)⟩
theorem bl_bhTwo {p q : List Pt} {n : Nat} (gp : GoodL p) (hp : bl p n) (hq : bl q n) : bl (q.map (bhTwo p)) (7 * n + 5) := fun z hz => by
  obtain ⟨a, ha, rfl⟩ := List.mem_map.mp hz
  have := hq a ha
  exact ⟨this.1.mono (by omega), bt_lineEv gp hp this.2⟩
theorem bl_behindP {p q : List Pt} {n : Nat} (gp : GoodL p) (gq : GoodL q) (hp : bl p n) (hq : bl q n) : bl (behindP p q) (7 * n + 5) := fun z hz => by
  rcases mergeP_mem _ _ _ (Nat.le_refl _) z hz with h | h
  · exact bl_bhOne gq hp hq z h
  · exact bl_bhTwo gp hp hq z h
theorem behindP_len (p q : List Pt) : (behindP p q).length ≤ p.length + q.length := by
  have := mergeP_len _ (p.map (bhOne q)) (q.map (bhTwo p)) (Nat.le_refl _)
  rw [List.length_map, List.length_map] at this
  exact this
def cBehind (C : Addr) : Ct := fun ds k => ∃ (ps qs : List Pt) (n : Nat), ds = [.tuple (pts ps), .tuple (pts qs)] ∧ GoodL ps ∧ GoodL qs ∧ bl ps n ∧ bl qs n ∧ n ≤ 200000 ∧ ps.length + qs.length ≤ 50000 ∧ ((lineEnd ps).1 ≠ (lineEnd qs).2 → k.ex (.ref C)) ∧ ((lineEnd ps).1 = (lineEnd qs).2 → k.rt (.tuple (pts (behindOf ps qs))))
theorem behind_v {C : Addr} {ps qs : List Pt} {n : Nat} (g1 : GoodL ps) (g2 : GoodL qs) (h1 : bl ps n) (h2 : bl qs n) (hn : n ≤ 200000) (hl : ps.length + qs.length ≤ 50000) (e : (lineEnd ps).1 = (lineEnd qs).2) : cBehind C [.tuple (pts ps), .tuple (pts qs)] (kv (.tuple (pts (behindOf ps qs)))) := ⟨ps, qs, n, rfl, g1, g2, h1, h2, hn, hl, fun z => absurd e z, fun _ => rfl⟩
theorem behind_x {C : Addr} {ps qs : List Pt} {n : Nat} (g1 : GoodL ps) (g2 : GoodL qs) (h1 : bl ps n) (h2 : bl qs n) (hn : n ≤ 200000) (hl : ps.length + qs.length ≤ 50000) (e : (lineEnd ps).1 ≠ (lineEnd qs).2) : cBehind C [.tuple (pts ps), .tuple (pts qs)] (kx (.ref C)) := ⟨ps, qs, n, rfl, g1, g2, h1, h2, hn, hl, fun _ => rfl, fun z => absurd z e⟩
theorem good_step : ∀ {ps : List Pt} {i : Nat} {p q : Pt}, GoodL ps → ps[i]? = some p → ps[i + 1]? = some q → p.1 < q.1 ∧ p.2 ≤ q.2 := fun {ps i p q} g hp hq => by
  have key : ∀ (r : List Pt) (a : Pt) (i : Nat), goodFrom a r → (a :: r)[i]? = some p → (a :: r)[i + 1]? = some q → p.1 < q.1 ∧ p.2 ≤ q.2 := by
    intro r
    induction r with
    | nil => intro a i _ _ h; simp at h
    | cons b r ih =>
      intro a i g hp hq
      cases i with
      | zero =>
        obtain rfl := Option.some.inj hp
        obtain rfl := Option.some.inj hq
        exact ⟨g.1, g.2.1⟩
      | succ i => exact ih b i g.2.2 hp hq
  cases ps with
  | nil => exact g.elim
  | cons a r => exact key r a i g.2 hp hq
end Pu

set_option maxRecDepth 100000
namespace Pu
open PySem PySem.Spec PyProof.Rows L2
/-! ### a line turned about; stretches -/
theorem good_iff (ps : List Pt) : GoodL ps ↔ ps[0]? = some (0, 0) ∧ ∀ i p q, ps[i]? = some p → ps[i + 1]? = some q → p.1 < q.1 ∧ p.2 ≤ q.2 := by
  constructor
  · intro g
    exact ⟨good_zero g, fun i p q h1 h2 => good_step g h1 h2⟩
  · rintro ⟨h0, h⟩
    cases ps with
    | nil => cases h0
    | cons a r =>
      refine ⟨Option.some.inj h0, ?_⟩
      clear h0
      induction r generalizing a with
      | nil => trivial
      | cons b r ih =>
        obtain ⟨h1, h2⟩ := h 0 a b rfl rfl
        exact ⟨h1, h2, ih b fun i p q e1 e2 => h (i + 1) p q e1 e2⟩
theorem canon_iff (ps : List Pt) : Canon ps ↔ ∀ i a b c, ps[i]? = some a → ps[i + 1]? = some b → ps[i + 2]? = some c → ¬ straight a b c := by
  cases ps with
  | nil => exact ⟨fun _ i a b c h => by simp at h, fun _ => trivial⟩
  | cons a r =>
    show canonFrom a r ↔ _
    induction r generalizing a with
    | nil => exact ⟨fun _ i x y z _ h => by simp at h, fun _ => trivial⟩
    | cons b r ih =>
      cases r with
      | nil => exact ⟨fun _ i x y z _ _ h => by simp at h, fun _ => trivial⟩
      | cons c r =>
        show ¬ straight a b c ∧ canonFrom b (c :: r) ↔ _
        rw [ih b]
        constructor
        · rintro ⟨h1, h2⟩ i x y z e1 e2 e3
          cases i with
          | zero =>
            obtain rfl := Option.some.inj e1
            obtain rfl := Option.some.inj e2
            obtain rfl := Option.some.inj e3
            exact h1
          | succ i => exact h2 i x y z e1 e2 e3
        · intro h
          exact ⟨h 0 a b c rfl rfl rfl, fun i x y z e1 e2 e3 => h (i + 1) x y z e1 e2 e3⟩
def turnPt (e p : Pt) : Pt := (e.1 - p.1, e.2 - p.2)
def turnP (ps : List Pt) : List Pt := ps.reverse.map (turnPt (lineEnd ps))
def turnOf (ps : List Pt) : List Pt := lineOf (turnP ps)
theorem turnP_len (ps : List Pt) : (turnP ps).length = ps.length := by unfold turnP; rw [List.length_map, List.length_reverse]
theorem turnP_at {ps : List Pt} {i : Nat} {p : Pt} (h : (turnP ps)[i]? = some p) : i < ps.length ∧ ∃ q, ps[ps.length - 1 - i]? = some q ∧ p = turnPt (lineEnd ps) q := by
  have hi := getElem?_lt h
  rw [turnP_len] at hi
  unfold turnP at h
  rw [List.getElem?_map, List.getElem?_reverse hi] at h
  cases e : ps[ps.length - 1 - i]? with
  | none => rw [e] at h; cases h
  | some q => rw [e] at h; exact ⟨hi, q, rfl, (Option.some.inj h).symm⟩
theorem turnP_of {ps : List Pt} {i : Nat} {q : Pt} (hi : i < ps.length) (h : ps[ps.length - 1 - i]? = some q) : (turnP ps)[i]? = some (turnPt (lineEnd ps) q) := by
  unfold turnP
  rw [List.getElem?_map, List.getElem?_reverse hi, h]
  rfl
theorem turnP_good {ps : List Pt} (g : GoodL ps) : GoodL (turnP ps) := by
  rw [good_iff]
  have h0 := goodL_ne g
  have hp := List.length_pos_iff.mpr h0
  refine ⟨?_, fun i p q h1 h2 => ?_⟩
  · rw [turnP_of hp (q := lineEnd ps) (lineEnd_last h0)]
    unfold turnPt
    rw [Rat.sub_self, Rat.sub_self]
  · obtain ⟨i1, a, ha, rfl⟩ := turnP_at h1
    obtain ⟨i2, b, hb, rfl⟩ := turnP_at h2
    have e : ps.length - 1 - i = (ps.length - 1 - (i + 1)) + 1 := by omega
    rw [e] at ha
    obtain ⟨s1, s2⟩ := good_step g hb ha
    unfold turnPt
    exact ⟨by grind, by grind⟩
theorem turnP_canon {ps : List Pt} (g : Canon ps) : Canon (turnP ps) := by
  rw [canon_iff] at g ⊢
  intro i a b c h1 h2 h3 hs
  obtain ⟨i1, a', ha, rfl⟩ := turnP_at h1
  obtain ⟨i2, b', hb, rfl⟩ := turnP_at h2
  obtain ⟨i3, c', hc, rfl⟩ := turnP_at h3
  have e1 : ps.length - 1 - i = (ps.length - 1 - (i + 2)) + 2 := by omega
  have e2 : ps.length - 1 - (i + 1) = (ps.length - 1 - (i + 2)) + 1 := by omega
  rw [e1] at ha
  rw [e2] at hb
  refine g _ c' b' a' hc hb ha ?_
  unfold straight turnPt at *
  grind
theorem turnP_end {ps : List Pt} (g : GoodL ps) : lineEnd (turnP ps) = lineEnd ps := by
  have h0 := goodL_ne g
  have hp := List.length_pos_iff.mpr h0
  have h := lineEnd_last (goodL_ne (turnP_good g))
  rw [turnP_len] at h
  obtain ⟨_, q, hq, e⟩ := turnP_at h
  rw [show ps.length - 1 - (ps.length - 1) = 0 by omega, good_zero g] at hq
  obtain rfl := Option.some.inj hq
  rw [e]
  unfold turnPt
  exact Prod.ext (by show _ - (0 : Rat) = _; grind) (by show _ - (0 : Rat) = _; grind)
theorem turnPt_turnPt (e p : Pt) : turnPt e (turnPt e p) = p := by
  unfold turnPt
  exact Prod.ext (by show e.1 - (e.1 - p.1) = _; grind) (by show e.2 - (e.2 - p.2) = _; grind)
theorem turnP_turnP {ps : List Pt} (g : GoodL ps) : turnP (turnP ps) = ps := by
  show (turnP ps).reverse.map (turnPt (lineEnd (turnP ps))) = ps
  rw [turnP_end g]
  unfold turnP
  rw [← List.map_reverse, List.reverse_reverse, List.map_map]
  have : (turnPt (lineEnd ps) ∘ turnPt (lineEnd ps)) = id := by
    funext p
    exact turnPt_turnPt _ p
  rw [this, List.map_id]
theorem seg_of {ps : List Pt} {x : Rat} (g : GoodL ps) (h0 : 0 ≤ x) (h1 : x ≤ (lineEnd ps).1) : x = 0 ∨ ∃ j p q, ps[j]? = some p ∧ ps[j + 1]? = some q ∧ p.1 < x ∧ x ≤ q.1 := by
  have key : ∀ (r : List Pt) (a : Pt), goodFrom a r → a.1 < x → x ≤ (lastP a r).1 → ∃ j p q, (a :: r)[j]? = some p ∧ (a :: r)[j + 1]? = some q ∧ p.1 < x ∧ x ≤ q.1 := by
    intro r
    induction r with
    | nil =>
      intro a _ h1 h2
      have h2' : x ≤ a.1 := h2
      grind
    | cons b r ih =>
      intro a g h1 h2
      by_cases hb : x ≤ b.1
      · exact ⟨0, a, b, rfl, rfl, h1, hb⟩
      · obtain ⟨j, p, q, e1, e2, e3⟩ := ih b g.2.2 (by grind) h2
        exact ⟨j + 1, p, q, e1, e2, e3⟩
  cases ps with
  | nil => exact g.elim
  | cons a r =>
    obtain ⟨rfl, g⟩ := g
    by_cases e : x = 0
    · exact .inl e
    · exact .inr (key r (0, 0) g (by show (0 : Rat) < x; grind) h1)
theorem turnP_ev {ps : List Pt} {x : Rat} (g : GoodL ps) (h0 : 0 ≤ x) (h1 : x ≤ (lineEnd ps).1) : lineEv (turnP ps) x = (lineEnd ps).2 - lineEv ps ((lineEnd ps).1 - x) := by
  have gt := turnP_good g
  rcases seg_of gt h0 (by rw [turnP_end g]; exact h1) with rfl | ⟨j, p, q, hp, hq, h2, h3⟩
  · have := lineEv_pt (j := 0) gt (good_zero gt)
    rw [show lineEv (turnP ps) 0 = 0 from this, show (lineEnd ps).1 - 0 = (lineEnd ps).1 by grind, lineEv_end g]
    grind
  · rw [lineEv_seg gt hp hq h2 h3]
    obtain ⟨_, a, ha, rfl⟩ := turnP_at hp
    obtain ⟨i2, b, hb, rfl⟩ := turnP_at hq
    have e1 : ps.length - 1 - j = (ps.length - 1 - (j + 1)) + 1 := by omega
    rw [e1] at ha
    obtain ⟨s1, s2⟩ := good_step g hb ha
    have h2' : (lineEnd ps).1 - a.1 < x := h2
    have h3' : x ≤ (lineEnd ps).1 - b.1 := h3
    have ev : lineEv ps ((lineEnd ps).1 - x) = interp b a ((lineEnd ps).1 - x) := by
      by_cases c : b.1 < (lineEnd ps).1 - x
      · exact lineEv_seg g hb ha c (by grind)
      · have e : (lineEnd ps).1 - x = b.1 := by grind
        rw [e, lineEv_pt g hb, (interp_ends s1).1]
    rw [ev]
    unfold interp turnPt
    have e3 : a.1 - b.1 ≠ 0 := by grind
    show (lineEnd ps).2 - a.2 + (x - ((lineEnd ps).1 - a.1)) * (((lineEnd ps).2 - b.2 - ((lineEnd ps).2 - a.2)) / ((lineEnd ps).1 - b.1 - ((lineEnd ps).1 - a.1))) = (lineEnd ps).2 - (b.2 + ((lineEnd ps).1 - x - b.1) * ((a.2 - b.2) / (a.1 - b.1)))
    rw [show (lineEnd ps).2 - b.2 - ((lineEnd ps).2 - a.2) = a.2 - b.2 by grind, show (lineEnd ps).1 - b.1 - ((lineEnd ps).1 - a.1) = a.1 - b.1 by grind]
    have e4 : (a.1 - b.1) * ((a.2 - b.2) / (a.1 - b.1)) = a.2 - b.2 := by
      rw [Rat.mul_comm]
      exact Rat.div_mul_cancel e3
    grind
theorem turnOf_ok {ps : List Pt} (g : GoodL ps) : GoodL (turnOf ps) ∧ Canon (turnOf ps) ∧ lineEnd (turnOf ps) = lineEnd ps ∧ ∀ x, 0 ≤ x → x ≤ (lineEnd ps).1 → lineEv (turnOf ps) x = (lineEnd ps).2 - lineEv ps ((lineEnd ps).1 - x) := by
  have gt := turnP_good g
  refine ⟨lineOf_good gt, lineOf_canon gt, ?_, fun x h0 h1 => ?_⟩
  · unfold turnOf
    rw [lineOf_end, turnP_end g]
  · unfold turnOf
    rw [lineOf_ev gt, turnP_ev g h0 h1]
theorem turnOf_canon {ps : List Pt} (c : Canon ps) : turnOf ps = turnP ps := lineOf_id (turnP_canon c)
theorem turnOf_turnOf {ps : List Pt} (g : GoodL ps) (c : Canon ps) : turnOf (turnOf ps) = ps := by
  rw [turnOf_canon c, turnOf_canon (turnP_canon c), turnP_turnP g]
theorem bl_turnP {ps : List Pt} {n : Nat} (g : GoodL ps) (h : bl ps n) : bl (turnP ps) (2 * n + 1) := fun p hp => by
  unfold turnP at hp
  obtain ⟨q, hq, rfl⟩ := List.mem_map.mp hp
  have e := h _ (lineEnd_mem (goodL_ne g))
  have b := h q (List.mem_reverse.mp hq)
  exact ⟨(bt_minus e.1 b.1).mono (by omega), (bt_minus e.2 b.2).mono (by omega)⟩
theorem bl_turnOf {ps : List Pt} {n : Nat} (g : GoodL ps) (h : bl ps n) : bl (turnOf ps) (2 * n + 1) := lineOf_bl (bl_turnP g h)
theorem turnOf_len (ps : List Pt) : (turnOf ps).length ≤ ps.length := by
  have := lineOf_len (turnP ps)
  rw [turnP_len] at this
  exact this
/-- the greatest x at which a line comes to y -/
def lineLast (ps : List Pt) (y : Rat) : Rat := (lineEnd ps).1 - lineFirst (turnOf ps) ((lineEnd ps).2 - y)
theorem lineLast_ok {P : List Pt} {y : Rat} (g : GoodL P) (h1 : 0 ≤ y) (h2 : y ≤ (lineEnd P).2) : 0 ≤ lineLast P y ∧ lineLast P y ≤ (lineEnd P).1 ∧ lineEv P (lineLast P y) = y ∧ ∀ x, lineLast P y < x → x ≤ (lineEnd P).1 → y < lineEv P x := by
  obtain ⟨gt, _, et, vt⟩ := turnOf_ok g
  obtain ⟨f1, f2, f3, f4⟩ := lineFirst_ok (y := (lineEnd P).2 - y) gt (by grind) (by rw [et]; grind)
  rw [et] at f2
  rw [vt _ f1 f2] at f3
  unfold lineLast
  refine ⟨by grind, by grind, by grind, fun x h3 h4 => ?_⟩
  have z := f4 ((lineEnd P).1 - x) (by grind) (by grind)
  rw [vt _ (by grind) (by have := f1; grind), show (lineEnd P).1 - ((lineEnd P).1 - x) = x by grind] at z
  grind
theorem first_uniq {P : List Pt} {x y : Rat} (g : GoodL P) (h1 : 0 ≤ y) (h2 : y ≤ (lineEnd P).2) (x0 : 0 ≤ x) (e : lineEv P x = y) (h : ∀ z, 0 ≤ z → z < x → lineEv P z < y) : lineFirst P y = x := by
  obtain ⟨f1, f2, f3, f4⟩ := lineFirst_ok g h1 h2
  apply Rat.le_antisymm
  · apply Rat.not_lt.mp
    intro c
    have := f4 x x0 c
    grind
  · apply Rat.not_lt.mp
    intro c
    have := h _ f1 c
    grind
theorem last_uniq {P : List Pt} {x y : Rat} (g : GoodL P) (h1 : 0 ≤ y) (h2 : y ≤ (lineEnd P).2) (x1 : x ≤ (lineEnd P).1) (e : lineEv P x = y) (h : ∀ z, x < z → z ≤ (lineEnd P).1 → y < lineEv P z) : lineLast P y = x := by
  obtain ⟨f1, f2, f3, f4⟩ := lineLast_ok g h1 h2
  apply Rat.le_antisymm
  · apply Rat.not_lt.mp
    intro c
    have := h _ c f2
    grind
  · apply Rat.not_lt.mp
    intro c
    have := f4 x c x1
    grind
theorem bt_lineLast {P : List Pt} {y : Rat} {n : Nat} (g : GoodL P) (h : bl P n) (hy : bt y n) : bt (lineLast P y) (15 * n + 20) := by
  have e := h _ (lineEnd_mem (goodL_ne g))
  have gt := (turnOf_ok g).1
  have b1 := bt_lineFirst (n := 2 * n + 1) gt (bl_turnOf g h) (y := (lineEnd P).2 - y) ((bt_minus e.2 hy).mono (by omega))
  exact (bt_minus e.1 b1).mono (by omega)
def cTurned : Ct := fun ds k => ∃ (P : List Pt) (n : Nat), ds = [.tuple (pts P)] ∧ GoodL P ∧ bl P n ∧ n ≤ 500000 ∧ P.length ≤ 50000 ∧ k.rt (.tuple (pts (turnOf P)))
theorem turned_v {P : List Pt} {n : Nat} (g : GoodL P) (hb : bl P n) (hn : n ≤ 500000) (hl : P.length ≤ 50000) : cTurned [.tuple (pts P)] (kv (.tuple (pts (turnOf P)))) := ⟨P, n, rfl, g, hb, hn, hl, rfl⟩
def cStretch (C : Addr) : Ct := fun ds k => ∃ (P : List Pt) (y : Rat) (n : Nat), ds = [.tuple (pts P), fr y] ∧ GoodL P ∧ bl P n ∧ bt y n ∧ n ≤ 200000 ∧ P.length ≤ 50000 ∧ ((y < 0 ∨ (lineEnd P).2 < y) → k.ex (.ref C)) ∧ (¬ (y < 0 ∨ (lineEnd P).2 < y) → k.rt (.tuple [fr (lineFirst P y), fr (lineLast P y)]))
theorem stretch_v {C : Addr} {P : List Pt} {y : Rat} {n : Nat} (g : GoodL P) (hb : bl P n) (hy : bt y n) (hn : n ≤ 200000) (hl : P.length ≤ 50000) (h : ¬ (y < 0 ∨ (lineEnd P).2 < y)) : cStretch C [.tuple (pts P), fr y] (kv (.tuple [fr (lineFirst P y), fr (lineLast P y)])) := ⟨P, y, n, rfl, g, hb, hy, hn, hl, fun z => absurd z h, fun _ => rfl⟩
theorem stretch_x {C : Addr} {P : List Pt} {y : Rat} {n : Nat} (g : GoodL P) (hb : bl P n) (hy : bt y n) (hn : n ≤ 200000) (hl : P.length ≤ 50000) (h : y < 0 ∨ (lineEnd P).2 < y) : cStretch C [.tuple (pts P), fr y] (kx (.ref C)) := ⟨P, y, n, rfl, g, hb, hy, hn, hl, fun _ => rfl, fun z => absurd h z⟩
theorem slope_pos {a b : Pt} (h : a.1 < b.1) (h2 : a.2 < b.2) : 0 < (b.2 - a.2) / (b.1 - a.1) := by
  rw [Rat.div_def]
  exact Rat.mul_pos (by grind) (Rat.inv_pos.mpr (by grind))
theorem interp_lt {a b : Pt} {x y : Rat} (h : a.1 < b.1) (h2 : a.2 < b.2) (hx : x < y) : interp a b x < interp a b y := by
  have s := slope_pos h h2
  unfold interp
  have := Rat.mul_lt_mul_of_pos_right (show x - a.1 < y - a.1 by grind) s
  grind
theorem interp_above {a b : Pt} {x y : Rat} (h : a.1 < b.1) (h2 : a.2 ≤ b.2) (hx : a.1 < x) (hy : y ≤ a.2) (hy2 : y < b.2) : y < interp a b x := by
  by_cases e : a.2 < b.2
  · have := interp_lt h e hx
    rw [(interp_ends h).1] at this
    grind
  · have e2 : b.2 - a.2 = 0 := by grind
    unfold interp
    rw [e2, Rat.div_def, Rat.zero_mul, Rat.mul_zero]
    grind
theorem lineEv_zero {P : List Pt} (g : GoodL P) : lineEv P 0 = 0 := lineEv_pt (j := 0) g (good_zero g)
theorem lineEv_range {P : List Pt} {x : Rat} (g : GoodL P) (h0 : 0 ≤ x) (h1 : x ≤ (lineEnd P).1) : 0 ≤ lineEv P x ∧ lineEv P x ≤ (lineEnd P).2 := by
  have a := lineEv_mono g Rat.le_refl h0
  have b := lineEv_mono g h0 h1
  rw [lineEv_zero g] at a
  rw [lineEv_end g] at b
  exact ⟨a, b⟩
theorem behind_assoc {t s f : List Pt} (gt : GoodL t) (gs : GoodL s) (gf : GoodL f) (h1 : (lineEnd t).1 = (lineEnd s).2) (h2 : (lineEnd s).1 = (lineEnd f).2) : behindOf (behindOf t s) f = behindOf t (behindOf s f) := by
  obtain ⟨g1, c1, e1, y1, v1, _⟩ := behindOf_ok gt gs h1
  obtain ⟨g2, c2, e2, y2, v2, _⟩ := behindOf_ok gs gf h2
  obtain ⟨g3, c3, e3, y3, v3, _⟩ := behindOf_ok g1 gf (by rw [e1]; exact h2)
  obtain ⟨g4, c4, e4, y4, v4, _⟩ := behindOf_ok gt g2 (by rw [y2]; exact h1)
  refine line_uniq g3 g4 c3 c4 (by rw [e3, e4, e2]) fun x x0 x1 => ?_
  rw [e3] at x1
  have r := lineEv_range gf x0 x1
  rw [v3 x x0 x1, v4 x x0 (by rw [e2]; exact x1), v1 _ r.1 (by rw [h2]; exact r.2), v2 x x0 x1]
theorem sum_height {p q : List Pt} (gp : GoodL p) (gq : GoodL q) (he : (lineEnd p).1 = (lineEnd q).1) : (lineEnd (sumOf p q)).2 = (lineEnd p).2 + (lineEnd q).2 := by
  obtain ⟨g1, c1, e1, v1, _⟩ := sumOf_ok gp gq he
  have h := good_nonneg gp (lineEnd_mem (goodL_ne gp))
  rw [← lineEv_end g1, e1, v1 _ h.1 Rat.le_refl, lineEv_end gp, he, lineEv_end gq]
theorem behind_sum {t u s : List Pt} (gt : GoodL t) (gu : GoodL u) (gs : GoodL s) (h1 : (lineEnd t).1 = (lineEnd s).2) (h2 : (lineEnd u).1 = (lineEnd s).2) : behindOf (sumOf t u) s = sumOf (behindOf t s) (behindOf u s) := by
  have htu : (lineEnd t).1 = (lineEnd u).1 := by rw [h1, h2]
  obtain ⟨g0, c0, e0, v0, _⟩ := sumOf_ok gt gu htu
  obtain ⟨g1, c1, e1, y1, v1, _⟩ := behindOf_ok gt gs h1
  obtain ⟨g2, c2, e2, y2, v2, _⟩ := behindOf_ok gu gs h2
  obtain ⟨g3, c3, e3, y3, v3, _⟩ := behindOf_ok g0 gs (by rw [e0]; exact h1)
  obtain ⟨g4, c4, e4, v4, _⟩ := sumOf_ok g1 g2 (by rw [e1, e2])
  refine line_uniq g3 g4 c3 c4 (by rw [e3, e4, e1]) fun x x0 x1 => ?_
  rw [e3] at x1
  have r := lineEv_range gs x0 x1
  rw [v3 x x0 x1, v4 x x0 (by rw [e1]; exact x1), v1 x x0 x1, v2 x x0 x1, v0 _ r.1 (by rw [h1]; exact r.2)]
theorem behind_turn {t s : List Pt} (gt : GoodL t) (gs : GoodL s) (h1 : (lineEnd t).1 = (lineEnd s).2) : turnOf (behindOf t s) = behindOf (turnOf t) (turnOf s) := by
  obtain ⟨g1, c1, e1, y1, v1, _⟩ := behindOf_ok gt gs h1
  obtain ⟨g2, c2, e2, v2⟩ := turnOf_ok gt
  obtain ⟨g3, c3, e3, v3⟩ := turnOf_ok gs
  obtain ⟨g4, c4, e4, v4⟩ := turnOf_ok g1
  obtain ⟨g5, c5, e5, y5, v5, _⟩ := behindOf_ok g2 g3 (by rw [e2, e3]; exact h1)
  refine line_uniq g4 g5 c4 c5 (by rw [e4, e5, e1, e3]) fun x x0 x1 => ?_
  rw [e4, e1] at x1
  rw [v4 x x0 (by rw [e1]; exact x1), v5 x x0 (by rw [e3]; exact x1), v3 x x0 x1, y1, e1]
  have r := lineEv_range gs (x := (lineEnd s).1 - x) (by grind) (by grind)
  rw [v1 _ (by grind) (by grind), v2 _ (by grind) (by rw [h1]; grind), h1]
  rw [show (lineEnd s).2 - ((lineEnd s).2 - lineEv s ((lineEnd s).1 - x)) = lineEv s ((lineEnd s).1 - x) by grind]
end Pu

set_option maxRecDepth 100000
namespace Pu
open PySem PySem.Spec PyProof.Rows L2
/-! ### sums, the least and the greatest, of lists and of tuples; places of items; texts among texts -/
section
variable {prog : Program} {w : World} {A : Around} {E : Value → Shared → Prop} {s : Shared} {l : Addr} {its : List Value} {ns : List Int} {Q : Value → Shared → Prop}
/-- the start of a walk over a tuple -/
theorem tup_walk {items : Array Value} (hl : s.heap.IsTuple l items)
    (h : ∀ s₂ : Shared, s₂ = { s with heap := s.heap.push { cls := .type "tuple_iterator", data := .fields #[.ref l, .int 0 0] } } → (s₂.heap.IsTupleIter s.heap.objs.size l 0 ∧ s₂.heap.IsTuple l items) → (∀ b ∈ [s.heap.objs.size, l], b < s₂.heap.objs.size) → l ≠ s.heap.objs.size →
      (∀ h' : Heap, (∀ b o, b ∉ [s.heap.objs.size] → s₂.heap.get? b = some o → h'.get? b = some o) → ∀ b o, s.heap.get? b = some o → h'.get? b = some o) → Q (.ref s.heap.objs.size) s₂) : wpAny (model prog w) A (pyIter (.ref l)) Q E s := by
  have hlt : l < s.heap.objs.size := by
    obtain ⟨o, e, _⟩ := hl
    exact Heap.lt_size e
  have hp : (s.heap.push { cls := .type "tuple_iterator", data := .fields #[.ref l, .int 0 0] }).IsTuple l items := by
    obtain ⟨o, e, r⟩ := hl
    exact ⟨o, Heap.get?_push_of_some _ e, r⟩
  refine wpAny_pyIter_tuple hl (h _ rfl ⟨⟨_, Heap.get?_push_size _ rfl, rfl, rfl⟩, hp⟩ (fun b hb => ?_) (Nat.ne_of_lt hlt) fun h' hk b o e => hk b o (fun hm => ?_) (Heap.get?_push_of_some _ e))
  · have hb' : b = s.heap.objs.size ∨ b = l := by simpa using hb
    show b < (s.heap.push _).objs.size
    rw [Heap.size_push]
    rcases hb' with e | e
    · rw [e]; exact Nat.lt_succ_self _
    · rw [e]; exact Nat.lt_succ_of_lt hlt
  · have hb' : b = s.heap.objs.size := by simpa using hm
    exact absurd (hb' ▸ Heap.lt_size e) (Nat.lt_irrefl _)
theorem val_at (hi : Vals (ns.map V.int) its) : ∀ (i : Nat) (v : Value), its.toArray[i]? = some v → ∃ t, v = .int (ns.getD i 0) t := fun i v h => by
  have h' : its[i]? = some v := by simpa using h
  have hl := hi.length
  have hlt := (List.getElem?_eq_some_iff.mp h').1
  rw [List.length_map] at hl
  have hx : (ns.map V.int)[i]? = some (.int (ns.getD i 0)) := by
    rw [List.getElem?_map, List.getD_eq_getElem?_getD, List.getElem?_eq_getElem (by omega)]
    rfl
  obtain ⟨u, hu, ru⟩ := hi.get hx
  rw [h'] at hu
  cases hu
  exact ru
theorem preSum_take (ns : List Int) : ∀ n, preSum (fun i => ns.getD i 0) n = (ns.take n).sum
  | 0 => by rw [List.take_zero]; rfl
  | n + 1 => by
    show preSum _ n + ns.getD n 0 = _
    rw [preSum_take ns n, List.take_add_one, List.sum_append, List.getD_eq_getElem?_getD]
    cases ns[n]? with
    | none => rfl
    | some x => show _ + x = _ + (x + 0); omega
theorem sum_tup (hh : A.handled = none) (hl : s.heap.IsTuple l its.toArray) (hi : Vals (ns.map V.int) its)
    (h : ∀ h' tk t', (∀ b o, s.heap.get? b = some o → h'.get? b = some o) → Q (.int ns.sum t') { s with heap := h', toks := tk }) : wpAny (model prog w) A (call (.builtin "sum") [.ref l]) Q E s := by
  refine call_sum_walkG (tup_walk hl fun s₂ e st hfp hne hk => ?_)
  subst e
  refine ⟨_, _, _, _, _, _, fun i => ns.getD i 0, rfl, Walks.tuple (A := A.in1) hh _ l hne its.toArray, st, hfp, val_at hi, fun h' tk t' k => ?_⟩
  rw [preSum_take, List.take_of_length_le (by have := hi.length; rw [List.length_map] at this; rw [List.size_toArray]; omega)]
  exact h h' tk t' (hk h' k)
theorem getD_mem' {ns : List Int} {j : Nat} (h : j < ns.length) : ns.getD j 0 ∈ ns := by
  rw [List.getD_eq_getElem?_getD, List.getElem?_eq_getElem h]
  exact List.getElem_mem h
theorem mem_getD' {ns : List Int} {a : Int} (h : a ∈ ns) : ∃ j, j < ns.length ∧ ns.getD j 0 = a := by
  obtain ⟨j, hj⟩ := List.getElem?_of_mem h
  exact ⟨j, (List.getElem?_eq_some_iff.mp hj).1, by rw [List.getD_eq_getElem?_getD, hj]; rfl⟩
theorem max_tup (hh : A.handled = none) (hl : s.heap.IsTuple l its.toArray) (hi : Vals (ns.map V.int) its) (hn : 0 < ns.length)
    (h : ∀ h' tk m t', (∀ b o, s.heap.get? b = some o → h'.get? b = some o) → m ∈ ns → (∀ a, a ∈ ns → a ≤ m) → Q (.int m t') { s with heap := h', toks := tk }) : wpAny (model prog w) A (call (.builtin "max") [.ref l]) Q E s := by
  have hsz : its.toArray.size = ns.length := by
    have := hi.length
    rw [List.length_map] at this
    rw [List.size_toArray, this]
  refine call_max_walk (tup_walk hl fun s₂ e st hfp hne hk => ?_)
  subst e
  refine ⟨_, _, _, _, _, _, _, rfl, Walks.tuple (A := A.in1) hh _ l hne its.toArray, st, hfp, by omega, CmpOf.ints_gt (fun i => ns.getD i 0) (val_at hi), fun v h' tk hv k => ?_⟩
  obtain ⟨t, rfl⟩ := val_at hi _ _ hv
  obtain ⟨h1, h2⟩ := argBest_gt (fun i => ns.getD i 0) (its.toArray.size - 1)
  refine h h' tk _ t (hk h' k) (getD_mem' (by omega)) fun a ha => ?_
  obtain ⟨j, hj, rfl⟩ := mem_getD' ha
  exact h2 j (by omega)
theorem min_tup (hh : A.handled = none) (hl : s.heap.IsTuple l its.toArray) (hi : Vals (ns.map V.int) its) (hn : 0 < ns.length)
    (h : ∀ h' tk m t', (∀ b o, s.heap.get? b = some o → h'.get? b = some o) → m ∈ ns → (∀ a, a ∈ ns → m ≤ a) → Q (.int m t') { s with heap := h', toks := tk }) : wpAny (model prog w) A (call (.builtin "min") [.ref l]) Q E s := by
  have hsz : its.toArray.size = ns.length := by
    have := hi.length
    rw [List.length_map] at this
    rw [List.size_toArray, this]
  refine call_min_walk (tup_walk hl fun s₂ e st hfp hne hk => ?_)
  subst e
  refine ⟨_, _, _, _, _, _, _, rfl, Walks.tuple (A := A.in1) hh _ l hne its.toArray, st, hfp, by omega, CmpOf.ints_lt (fun i => ns.getD i 0) (val_at hi), fun v h' tk hv k => ?_⟩
  obtain ⟨t, rfl⟩ := val_at hi _ _ hv
  obtain ⟨h1, h2⟩ := argBest_lt (fun i => ns.getD i 0) (its.toArray.size - 1)
  refine h h' tk _ t (hk h' k) (getD_mem' (by omega)) fun a ha => ?_
  obtain ⟨j, hj, rfl⟩ := mem_getD' ha
  exact h2 j (by omega)
end
def rSumA (K : Frag) : List V → Hp → VK → Prop := fun vs H Q => ∃ (a : Addr) (ns : List Int), vs = [V.ref a] ∧ (SqL K H a (ns.map V.int) ∨ SqT K H a (ns.map V.int)) ∧ Q (.int ns.sum) H
def rMaxA (K : Frag) : List V → Hp → VK → Prop := fun vs H Q => ∃ (a : Addr) (ns : List Int), vs = [V.ref a] ∧ (SqL K H a (ns.map V.int) ∨ SqT K H a (ns.map V.int)) ∧ 0 < ns.length ∧ ∀ m, m ∈ ns → (∀ y, y ∈ ns → y ≤ m) → Q (.int m) H
def rMinA (K : Frag) : List V → Hp → VK → Prop := fun vs H Q => ∃ (a : Addr) (ns : List Int), vs = [V.ref a] ∧ (SqL K H a (ns.map V.int) ∨ SqT K H a (ns.map V.int)) ∧ 0 < ns.length ∧ ∀ m, m ∈ ns → (∀ y, y ∈ ns → m ≤ y) → Q (.int m) H
section
variable {X : Cx} {K : Frag}
theorem c_sumA (hc : X.calm = true) (hK : X.K = K := by rfl) : CallR X (.builtin "sum") (rSumA K) := by
  subst hK
  intro pins s σ H vs us Q I r h
  obtain ⟨a, ns, rfl, hs | hs, q⟩ := h
  · exact cr_sum hc pins s σ H _ us Q I r ⟨a, ns, rfl, hs, q⟩
  · obtain ⟨its, rv, hl, _⟩ := I.tuple hs
    rw [Vals.ref1 r]
    exact sum_tup (I.ok.hd hc) hl rv fun h' tk t' hk => ⟨.int _, H, I.kept hk, ⟨_, rfl⟩, q⟩
theorem c_maxL (hc : X.calm = true) (hK : X.K = K := by rfl) : CallR X (.builtin "max") (rMaxA K) := by
  subst hK
  intro pins s σ H vs us Q I r h
  obtain ⟨a, ns, rfl, hs | hs, hn, q⟩ := h
  · exact cr_max hc pins s σ H _ us Q I r ⟨a, ns, rfl, hs, hn, q⟩
  · obtain ⟨its, rv, hl, _⟩ := I.tuple hs
    rw [Vals.ref1 r]
    exact max_tup (I.ok.hd hc) hl rv hn fun h' tk m t' hk h1 h2 => ⟨.int _, H, I.kept hk, ⟨_, rfl⟩, q m h1 h2⟩
theorem c_minL (hc : X.calm = true) (hK : X.K = K := by rfl) : CallR X (.builtin "min") (rMinA K) := by
  subst hK
  intro pins s σ H vs us Q I r h
  obtain ⟨a, ns, rfl, hs | hs, hn, q⟩ := h
  · exact cr_min hc pins s σ H _ us Q I r ⟨a, ns, rfl, hs, hn, q⟩
  · obtain ⟨its, rv, hl, _⟩ := I.tuple hs
    rw [Vals.ref1 r]
    exact min_tup (I.ok.hd hc) hl rv hn fun h' tk m t' hk h1 h2 => ⟨.int _, H, I.kept hk, ⟨_, rfl⟩, q m h1 h2⟩
theorem c_allA (hc : X.calm = true) (hK : X.K = K := by rfl) : CallR X (.builtin "all") (rAll K) := by subst hK; exact cr_all hc
theorem c_anyA (hc : X.calm = true) (hK : X.K = K := by rfl) : CallR X (.builtin "any") (rAny K) := by subst hK; exact cr_any hc
theorem m_index (hK : X.K = K := by rfl) : MtR X "list.index" (rIndex K) := by subst hK; exact mt_index
/-- t.index(x), t a tuple of texts that stands from the beginning -/
def rIndexT (K : Frag) : V → List V → Hp → VK → Prop := fun x xs H Q => ∃ (a : Addr) (zs : List Str) (z : Str), x = V.ref a ∧ xs = [.str z] ∧ SqT K H a (zs.map V.str) ∧ z ∈ zs ∧ Q (.int (zs.idxOf z : Nat)) H
theorem strs_are : ∀ {zs : List Str} {us : List Value}, Vals (zs.map V.str) us → StrsAre us zs
  | [], _, h => by cases h; exact .nil
  | z :: zs, _, h => by
    cases h with
    | cons h1 h2 =>
      obtain ⟨t, rfl⟩ := h1
      exact .cons z t (strs_are h2)
theorem m_indexT (hK : X.K = K := by rfl) : MtR X "tuple.index" (rIndexT K) := by
  subst hK
  intro pins s σ H x xs v us Q I rx rxs h
  obtain ⟨a, zs, z, rfl, rfl, hs, hz, q⟩ := h
  cases rx
  cases rxs with
  | cons ry rt =>
    cases rt
    obtain ⟨t, rfl⟩ := ry
    obtain ⟨its, rv, hl, _⟩ := I.tuple hs
    exact SeqAt.tuple_index_strs hl (strs_are rv) hz ⟨.int _, H, I.tok _, ⟨_, rfl⟩, q⟩
end
section
variable {K : Frag} {ρ : En} {ta tb te : TE} {ds es : List D} {d d0 : D}
theorem v_sumQ {ns : List Int} (hd : SeqD d0 (ns.map PyData.int)) (ha : Ev K ta ρ d0) : Ev K (tCB (rSumA K) (tCons ta tNil)) ρ (.int ns.sum) := v_call1 ha fun R H x s dx Q q => by
  rcases hd with rfl | rfl
  · cases dx with
    | lst hs hall =>
      obtain rfl := dpa_ints hall
      exact ⟨_, ns, rfl, .inl (s.seq hs), q _ R H (Grow.refl s) (.int _)⟩
  · cases dx with
    | tup hs hall =>
      obtain rfl := dpa_ints hall
      exact ⟨_, ns, rfl, .inr (sqt_mono s hs), q _ R H (Grow.refl s) (.int _)⟩
theorem v_sumL {ns : List Int} (ha : EvL K ta ρ (ns.map PyData.int)) : Ev K (tCB (rSumA K) (tCons ta tNil)) ρ (.int ns.sum) := fun R0 H0 R σ H a Q q => ha R0 H0 R σ H a _ fun p vs R1 H1 g1 sq dx => by
  obtain rfl := dpa_ints dx
  exact ⟨p, ns, rfl, .inl sq, q _ R1 H1 g1 (.int _)⟩
theorem v_maxQ {ns : List Int} {m : Int} (hd : SeqD d0 (ns.map PyData.int)) (ha : Ev K ta ρ d0) (hm : m ∈ ns) (hle : ∀ y ∈ ns, y ≤ m) : Ev K (tCB (rMaxA K) (tCons ta tNil)) ρ (.int m) := v_call1 ha fun R H x s dx Q q => by
  have key : ∀ k, k ∈ ns → (∀ y, y ∈ ns → y ≤ k) → Q (.int k) H := fun k h1 h2 => by
    have : k = m := Int.le_antisymm (hle k h1) (h2 m hm)
    subst this
    exact q _ R H (Grow.refl s) (.int _)
  rcases hd with rfl | rfl
  · cases dx with
    | lst hs hall =>
      obtain rfl := dpa_ints hall
      exact ⟨_, ns, rfl, .inl (s.seq hs), List.length_pos_of_mem hm, key⟩
  · cases dx with
    | tup hs hall =>
      obtain rfl := dpa_ints hall
      exact ⟨_, ns, rfl, .inr (sqt_mono s hs), List.length_pos_of_mem hm, key⟩
theorem v_minQ {ns : List Int} {m : Int} (hd : SeqD d0 (ns.map PyData.int)) (ha : Ev K ta ρ d0) (hm : m ∈ ns) (hle : ∀ y ∈ ns, m ≤ y) : Ev K (tCB (rMinA K) (tCons ta tNil)) ρ (.int m) := v_call1 ha fun R H x s dx Q q => by
  have key : ∀ k, k ∈ ns → (∀ y, y ∈ ns → k ≤ y) → Q (.int k) H := fun k h1 h2 => by
    have : k = m := Int.le_antisymm (h2 m hm) (hle k h1)
    subst this
    exact q _ R H (Grow.refl s) (.int _)
  rcases hd with rfl | rfl
  · cases dx with
    | lst hs hall =>
      obtain rfl := dpa_ints hall
      exact ⟨_, ns, rfl, .inl (s.seq hs), List.length_pos_of_mem hm, key⟩
  · cases dx with
    | tup hs hall =>
      obtain rfl := dpa_ints hall
      exact ⟨_, ns, rfl, .inr (sqt_mono s hs), List.length_pos_of_mem hm, key⟩
/-- the greatest and the least there are -/
theorem int_max : ∀ {ns : List Int}, ns ≠ [] → ∃ m ∈ ns, ∀ y ∈ ns, y ≤ m
  | [], h => absurd rfl h
  | [n], _ => ⟨n, List.mem_cons_self, fun y hy => by rw [List.mem_singleton.mp hy]; exact Int.le_refl _⟩
  | n :: k :: r, _ => by
    obtain ⟨m, hm, hle⟩ := int_max (ns := k :: r) (by simp)
    by_cases h : m ≤ n
    · exact ⟨n, List.mem_cons_self, fun y hy => by
        rcases List.mem_cons.mp hy with e | hy
        · omega
        · have := hle y hy; omega⟩
    · exact ⟨m, List.mem_cons_of_mem _ hm, fun y hy => by
        rcases List.mem_cons.mp hy with e | hy
        · omega
        · exact hle y hy⟩
theorem int_min : ∀ {ns : List Int}, ns ≠ [] → ∃ m ∈ ns, ∀ y ∈ ns, m ≤ y
  | [], h => absurd rfl h
  | [n], _ => ⟨n, List.mem_cons_self, fun y hy => by rw [List.mem_singleton.mp hy]; exact Int.le_refl _⟩
  | n :: k :: r, _ => by
    obtain ⟨m, hm, hle⟩ := int_min (ns := k :: r) (by simp)
    by_cases h : n ≤ m
    · exact ⟨n, List.mem_cons_self, fun y hy => by
        rcases List.mem_cons.mp hy with e | hy
        · omega
        · have := hle y hy; omega⟩
    · exact ⟨m, List.mem_cons_of_mem _ hm, fun y hy => by
        rcases List.mem_cons.mp hy with e | hy
        · omega
        · exact hle y hy⟩
theorem v_allL {bs : List Bool} (ha : EvL K ta ρ (bs.map PyData.bool)) : Ev K (tCB (rAll K) (tCons ta tNil)) ρ (.bool (bs.all id)) := fun R0 H0 R σ H a Q q => ha R0 H0 R σ H a _ fun p vs R1 H1 g1 sq dx => by
  obtain rfl := dpa_bools dx
  exact ⟨p, bs, rfl, sq, q _ R1 H1 g1 (.bl _)⟩
theorem v_anyL {bs : List Bool} (ha : EvL K ta ρ (bs.map PyData.bool)) : Ev K (tCB (rAny K) (tCons ta tNil)) ρ (.bool (bs.any id)) := fun R0 H0 R σ H a Q q => ha R0 H0 R σ H a _ fun p vs R1 H1 g1 sq dx => by
  obtain rfl := dpa_bools dx
  exact ⟨p, bs, rfl, sq, q _ R1 H1 g1 (.bl _)⟩
/-! texts -/
theorem dpa_strs : ∀ {R : Hp} {vs : List V} {zs : List Str}, DpAll K R vs (zs.map PyData.str) → vs = zs.map V.str
  | _, [], [], _ => rfl
  | _, _, [], h => by cases h; rfl
  | _, _, z :: zs, h => by
    cases h with
    | cons h1 h2 =>
      cases h1
      rw [dpa_strs h2]
      rfl
theorem inV_strs {z : Str} : ∀ {zs : List Str}, inV (.str z) (zs.map V.str) = zs.contains z
  | [] => rfl
  | y :: r => by
    have ih : inV (.str z) (r.map V.str) = r.contains z := inV_strs
    show ((y == z) || inV (.str z) (r.map V.str)) = (y :: r).contains z
    rw [ih, List.contains_cons]
    congr 1
    by_cases e : y = z
    · subst e; rfl
    · have e' : ¬ z = y := fun q => e q.symm
      rw [beq_eq_false_iff_ne.mpr e, beq_eq_false_iff_ne.mpr e']
theorem strs_flat : ∀ zs : List Str, (zs.map V.str).all flatV = true
  | [] => rfl
  | _ :: r => by
    rw [List.map_cons, List.all_cons, strs_flat r]
    rfl
theorem in_strs {z : Str} {zs : List Str} (neg : Bool) (hd : SeqD d0 (zs.map PyData.str)) (ha : Ev K ta ρ (.str z)) (hb : Ev K tb ρ d0) : Ev K (tOp (rIn K neg) ta tb) ρ (.bool (if neg then !zs.contains z else zs.contains z)) := fun R0 H0 R σ H a Q q =>
  ha R0 H0 R σ H a _ fun x R1 H1 g1 dx => hb R0 H0 R1 σ H1 (a.grow g1) _ fun y R2 H2 g2 dy => by
    cases dx
    have fin : ∀ vs, DpAll K R2 vs (zs.map PyData.str) → vs.all flatV = true ∧ Q (.bl (if neg then !inV (.str z) vs else inV (.str z) vs)) H2 := fun vs h => by
      obtain rfl := dpa_strs h
      refine ⟨strs_flat zs, ?_⟩
      rw [inV_strs]
      exact q _ R2 H2 (g1.trans g2) (.bl _)
    rcases hd with rfl | rfl
    · cases dy with
      | lst hs hall =>
        obtain ⟨f1, f2⟩ := fin _ hall
        exact ⟨_, _, rfl, .inl (g2.sub.seq hs), rfl, f1, f2⟩
    · cases dy with
      | tup hs hall =>
        obtain ⟨f1, f2⟩ := fin _ hall
        exact ⟨_, _, rfl, .inr (sqt_mono g2.sub hs), rfl, f1, f2⟩
theorem a_inS {z : Str} {zs : List Str} (hd : SeqD d0 (zs.map PyData.str)) (ha : Ev K ta ρ (.str z)) (hb : Ev K tb ρ d0) : Ev K (tOp (rIn K false) ta tb) ρ (.bool (zs.contains z)) := in_strs false hd ha hb
theorem a_niS {z : Str} {zs : List Str} (hd : SeqD d0 (zs.map PyData.str)) (ha : Ev K ta ρ (.str z)) (hb : Ev K tb ρ d0) : Ev K (tOp (rIn K true) ta tb) ρ (.bool (!zs.contains z)) := in_strs true hd ha hb
theorem str_eqv {a b : Str} : PyData.eqv (.str a) (.str b) = decide (a = b) := by
  show (a == b) = decide (a = b)
  by_cases e : a = b
  · subst e; simp
  · rw [decide_eq_false e]; simpa using e
theorem ev_eqS {a b : Str} (ha : Ev K ta ρ (.str a)) (hb : Ev K tb ρ (.str b)) (h1 : SeqAt.shaped (.str a) = true) (h2 : SeqAt.shaped (.str b) = true) : Ev K (tOp (rEqD K) ta tb) ρ (.bool (decide (a = b))) := Ev.is (ev_eqD ha hb h1 h2) (by rw [str_eqv])
/-- the place of a text in a list; in a tuple of the module's own -/
theorem strs_at {zs : List Str} {z : Str} (h : z ∈ zs) : (zs.map V.str)[zs.idxOf z]? = some (.str z) := by
  have hl := List.idxOf_lt_length_of_mem h
  rw [List.getElem?_map, List.getElem?_eq_getElem hl, List.getElem_idxOf hl]
  rfl
theorem idx_first {α : Type} [BEq α] [LawfulBEq α] {zs : List α} {z y : α} {m : Nat} (h : m < zs.idxOf z) (e : zs[m]? = some y) : (y == z) = false := by
  induction zs generalizing m with
  | nil => cases e
  | cons a r ih =>
    rw [List.idxOf_cons] at h
    by_cases q : (a == z) = true
    · rw [q] at h; exact absurd h (Nat.not_lt_zero _)
    · rw [Bool.not_eq_true] at q
      rw [q] at h
      cases m with
      | zero =>
        obtain rfl := Option.some.inj e
        exact q
      | succ m => exact ih (Nat.lt_of_succ_lt_succ h) e
theorem v_indexS {z : Str} {zs : List Str} (ha : EvL K ta ρ (zs.map PyData.str)) (hb : Ev K tb ρ (.str z)) (hz : z ∈ zs) : Ev K (tBM K "list" (rIndex K) ta (tCons tb tNil)) ρ (.int (zs.idxOf z : Nat)) := fun R0 H0 R σ H a Q q =>
  ha R0 H0 R σ H a _ fun p vs R1 H1 g1 sq dx => ⟨.inl ⟨rfl, _, sq⟩, hb R0 H0 R1 σ H1 (a.grow g1) _ fun y R2 H2 g2 dy => by
    cases dy
    obtain rfl := dpa_strs dx
    refine ⟨p, _, .str z, zs.idxOf z, .str z, rfl, rfl, g2.hp.seq sq, rfl, strs_flat zs, strs_at hz, ?_, fun m z' hm hz' => ?_, q _ R2 H2 (g1.trans g2) (.int _)⟩
    · show (z == z) = true
      simp
    · rw [List.getElem?_map] at hz'
      cases e : zs[m]? with
      | none => rw [e] at hz'; cases hz'
      | some y =>
        rw [e] at hz'
        obtain rfl := Option.some.inj hz'
        exact idx_first hm e⟩
theorem v_indexB {z : Bool} {zs : List Bool} (ha : EvL K ta ρ (zs.map PyData.bool)) (hb : Ev K tb ρ (.bool z)) (hz : z ∈ zs) : Ev K (tBM K "list" (rIndex K) ta (tCons tb tNil)) ρ (.int (zs.idxOf z : Nat)) := fun R0 H0 R σ H a Q q =>
  ha R0 H0 R σ H a _ fun p vs R1 H1 g1 sq dx => ⟨.inl ⟨rfl, _, sq⟩, hb R0 H0 R1 σ H1 (a.grow g1) _ fun y R2 H2 g2 dy => by
    cases dy
    obtain rfl := dpa_bools dx
    have hl := List.idxOf_lt_length_of_mem hz
    refine ⟨p, _, .bl z, zs.idxOf z, .bl z, rfl, rfl, g2.hp.seq sq, rfl, ?_, ?_, ?_, fun m z' hm hz' => ?_, q _ R2 H2 (g1.trans g2) (.int _)⟩
    · rw [List.all_eq_true]
      intro x hx
      obtain ⟨b, _, rfl⟩ := List.mem_map.mp hx
      rfl
    · rw [List.getElem?_map, List.getElem?_eq_getElem hl, List.getElem_idxOf hl]
      rfl
    · show (z == z) = true
      simp
    · rw [List.getElem?_map] at hz'
      cases e : zs[m]? with
      | none => rw [e] at hz'; cases hz'
      | some y =>
        rw [e] at hz'
        obtain rfl := Option.some.inj hz'
        exact idx_first hm e⟩
theorem v_indexT {z : Str} {zs : List Str} {p : Addr} (hd : ∀ H, Dp K H (.ref p) (.tuple (zs.map PyData.str))) (ht : ∃ o, K.lookup p = some o ∧ o.cls = .type "tuple" ∧ o.dict = none) (hb : Ev K tb ρ (.str z)) (hz : z ∈ zs) : Ev K (tBM K "tuple" (rIndexT K) (tC (.ref p)) (tCons tb tNil)) ρ (.int (zs.idxOf z : Nat)) := fun R0 H0 R σ H a Q q =>
  ⟨.inr (.inl ⟨rfl, ht⟩), hb R0 H0 R σ H a _ fun y R2 H2 g2 dy => by
    cases dy
    have := hd H2
    cases this with
    | tup hs hall =>
      obtain rfl := dpa_strs hall
      exact ⟨p, zs, z, rfl, rfl, hs, hz, q _ R2 H2 g2 (.int _)⟩⟩
theorem sh_str {z : Str} (h : (PyData.str z).canLay0 = true) : Sh 0 (.str z) := ⟨h, Nat.le_refl _⟩
end
end Pu

set_option maxRecDepth 100000
set_option maxHeartbeats 1000000
namespace Pu
open PySem PySem.Spec PyProof.Rows L2
/-! ### list(reversed(x)), x a list or a tuple -/
section
variable {prog : Program} {w : World} {A : Around} {E : Value → Shared → Prop} {s : Shared}
/-- list(it), it an iterator that walks -/
theorem list_walk {it : Addr} {T : String} {fp wr : List Addr} {n : Nat} {P : Nat → Value → Prop} {St : Nat → Heap → Prop} {Q : Value → Shared → Prop}
    (W : Walks prog w A.in1.in1 it fp wr n P St) (hself : ∀ (s' : Shared) (Q' : Value → Shared → Prop), St 0 s'.heap → Q' (.ref it) s' → wpAny (model prog w) A.in1.in1 (pyIter (.ref it)) Q' E s') (W' : Walks prog w A.in1.in1 it fp wr n P St)
    (hlt : it < s.heap.objs.size) (hfp : ∀ b ∈ fp, b < s.heap.objs.size) (hst : St 0 s.heap)
    (hty : ∀ s' : Shared, (∀ b o, s.heap.get? b = some o → s'.heap.get? b = some o) → s'.TypeIs (.ref it) T) (hT1 : (Value.type T == Value.type "list") = false) (hT2 : (Value.type T == Value.type "tuple") = false)
    (hhint : ∀ (s' : Shared) (Q' : Bool → Shared → Prop), (∀ b o, s.heap.get? b = some o → s'.heap.get? b = some o) → (∀ (r : Bool) (tk : Nat), Q' r { s' with toks := tk }) → wpAny (model prog w) A.in1.in1 (Builtin.List.listLengthHint (.ref it)) Q' E s')
    (hn : n ≤ sizeLine)
    (hQ : ∀ (h' : Heap) (tk : Nat) (acc : Array Value) (c : Nat), (∀ b o, b ∉ wr → s.heap.get? b = some o → h'.get? b = some o) → h'.get? s.heap.objs.size = some { cls := .type "list", dict := none, data := .seq acc c, slots := #[] } → ItemsOf P acc n → Q (.ref s.heap.objs.size) { s with heap := h', toks := tk }) :
    wpAny (model prog w) A (call (.type "list") [.ref it]) Q E s := by
  have hne : s.heap.objs.size ≠ it := Nat.ne_of_gt hlt
  refine callType_codes (Q₁ := fun obj s₁ => obj = .ref s.heap.objs.size ∧ s₁ = { s with heap := s.heap.push { cls := .type "list", data := .seq #[] } }) F.called_list (F.typeCall_list_1 _) F.entry_list_init (code_list_new _ ⟨rfl, rfl⟩) fun obj s₁ e1 => ?_
  obtain ⟨rfl, rfl⟩ := e1
  have g0 : (s.heap.push { cls := .type "list", data := .seq #[] }).get? s.heap.objs.size = some { cls := .type "list", data := .seq #[] } := Heap.get?_push_size _ rfl
  refine ⟨⟨_, g0, rfl⟩, F.args_list_init_2 _ _, ?_⟩
  show wpAny _ A.in1.in1 (do
    let old ← Builtin.List.listItems (.ref s.heap.objs.size)
    Builtin.List.listUpdate (.ref s.heap.objs.size) (fun _ => #[])
    letGo old.toList.reverse
    Builtin.List.listExtendWith (.ref s.heap.objs.size) (.ref it) .none) _ _ _
  refine wpAny_bind ?_
  unfold Builtin.List.listItems
  refine wpAny_bind (wpAny_seqItems g0 rfl (wpAny_pure ?_))
  refine wpAny_bind ?_
  show wpAny _ A.in1.in1 (updateSeq s.heap.objs.size (fun _ => #[])) _ _ _
  refine wpAny_updateSeq g0 rfl ?_
  have g2 := Heap.get?_update_self (Obj.mapSeq (fun _ => (#[] : Array Value))) g0 rfl
  refine wpAny_bind (wpAny_letGo ?_)
  have keep : ∀ (h : Heap) (f : Obj → Obj), (∀ b o, s.heap.get? b = some o → h.get? b = some o) → ∀ b o, s.heap.get? b = some o → (h.update s.heap.objs.size f).get? b = some o := fun h f q b o e =>
    (Heap.get?_update_other _ _ (Nat.ne_of_gt (Heap.lt_size e))).trans (q b o e)
  have k1 : ∀ b o, s.heap.get? b = some o → (s.heap.push { cls := .type "list", data := .seq #[] }).get? b = some o := fun b o e => Heap.get?_push_of_some _ e
  have k2 := keep _ (Obj.mapSeq (fun _ => (#[] : Array Value))) k1
  have stay : ∀ {h : Heap}, (∀ b o, s.heap.get? b = some o → h.get? b = some o) → St 0 h := fun {h} q => W.frame 0 _ _ hst fun b _ o e => q b o e
  unfold Builtin.List.listExtendWith
  refine wpAny_bind (wpAny_typeOf (hty _ k2) ?_)
  have n1 : Builtin.List.listSameRef (.ref s.heap.objs.size) (.ref it) = false := beq_eq_false_iff_ne.mpr hne
  simp only [n1, hT1, hT2, Bool.or_false, Bool.false_eq_true, if_false]
  refine wpAny_bind (hself _ _ (stay k2) ?_)
  refine wpAny_bind (wpAny_holding (hhint _ _ k2 fun r tk => ?_))
  have fin : ∀ (h : Heap) (tk c : Nat), (∀ b o, s.heap.get? b = some o → h.get? b = some o) → h.get? s.heap.objs.size = some { cls := .type "list", dict := none, data := .seq #[] c, slots := #[] } →
      wpAny (model prog w) A.in1.in1 (again (.builtin "list.extend.loop" ⟨[.ref s.heap.objs.size, .ref it, .none], []⟩)) (fun fin s' => match fin with | .done f => wants (fun r s₂ => r = .none ∧ Q (.ref s.heap.objs.size) s₂) E (.ok f) s' | .again c' => c'.quiet = true ∧ codeAny (model prog w) A.in1 c' (wants (fun r s₂ => r = .none ∧ Q (.ref s.heap.objs.size) s₂) E) s')
        (fun e s' => wants (fun r s₂ => r = .none ∧ Q (.ref s.heap.objs.size) s₂) E (.error e) s') { s with heap := h, toks := tk } := fun h tk c kh g => by
    refine wpAny_pure ⟨plainId_quiet F.plain_extend_loop _, codeAny_extend_loopS W'.toS hn _ (fun z => Nat.lt_irrefl _ (hfp _ z)) _ n 0 _ _ _ rfl (Nat.zero_le _) (stay kh) g (ItemsOf.nil _) fun s' acc' c' mv gS hacc => ?_⟩
    refine ⟨rfl, ?_⟩
    rw [Moved.eq_with mv]
    refine hQ s'.heap s'.toks acc' c' (fun b o hb e => mv.heap b o (fun hm => ?_) (kh b o e)) gS hacc
    rcases List.mem_cons.mp hm with e' | hm
    · exact Nat.lt_irrefl _ (e' ▸ Heap.lt_size e)
    · exact hb hm
  split
  · show wpAny _ A.in1.in1 (rule "list.extend.makes-room" >>= fun _ => Builtin.List.listTouch (.ref s.heap.objs.size) >>= fun _ => again (.builtin "list.extend.loop" ⟨[.ref s.heap.objs.size, .ref it, .none], []⟩)) _ _ _
    refine wpAny_bind (wpAny_rule (wpAny_bind ?_))
    show wpAny _ A.in1.in1 (updateSeq s.heap.objs.size (·.push .none) >>= fun _ => updateSeq s.heap.objs.size (·.pop)) _ _ _
    refine wpAny_bind (wpAny_updateSeq g2 rfl ?_)
    have g3 := Heap.get?_update_self (Obj.mapSeq (·.push Value.none)) g2 rfl
    refine wpAny_updateSeq (hz := by seq_fits) g3 rfl ?_
    have g4 := Heap.get?_update_self (Obj.mapSeq (·.pop)) g3 rfl
    exact fin _ tk _ (keep _ (Obj.mapSeq (·.pop)) (keep _ (Obj.mapSeq (·.push Value.none)) k2)) g4
  · exact fin _ tk _ k2 g2
/-- how long a reversed thing says it is -/
theorem hint_list {it l : Addr} {i : Int} {Q : Bool → Shared → Prop} (hit : s.heap.IsRevIter it l i) (h : ∀ (r : Bool) (tk : Nat), Q r { s with toks := tk }) : wpAny (model prog w) A (Builtin.List.listLengthHint (.ref it)) Q E s := by
  have hT : s.TypeIs (.ref it) "list_reverseiterator" := hit.typeIs
  unfold Builtin.List.listLengthHint
  refine wpAny_bind (wpAny_specialOf hT RT.nolen_lri ?_)
  show wpAny _ A (specialOf (Value.ref it) (Str.ofString "__length_hint__") >>= _) _ _ _
  refine wpAny_bind (wpAny_specialOf hT RT.hint_lri ?_)
  generalize hid : ("list_reverseiterator.__length_hint__" : String) = id0
  wp_delta
  rw [show splitId id0 = some ("list_reverseiterator", "__length_hint__") from by subst hid; decide +kernel]
  subst hid
  refine wpAny_bind (wpAny_isInstance (b := true) hT (by rw [isSubtype_type]; kernel_rfl) ?_)
  refine wpAny_pure ?_
  exact h false s.toks
/-! the same of a tuple -/
theorem nolen_rt : typeLookup (.type "reversed") "__len__" = pure none := by rw [typeLookup_type, builtinLookup_eq_fast]; kernel_rfl
theorem hint_rt : typeLookup (.type "reversed") "__length_hint__" = pure (some (.builtin "reversed.__length_hint__")) := by rw [typeLookup_type, builtinLookup_eq_fast]; kernel_rfl
theorem slot_rt_hint : Slot "reversed" "__length_hint__" "reversed.__length_hint__" :=
  .of (owner := "reversed") (n := "__length_hint__") hint_rt (by decide +kernel) (by decide +kernel) (by decide +kernel) (by first | exact .inl (by decide +kernel) | exact .inr (by decide +kernel)) (by rw [isSubtype_type]; kernel_rfl)
theorem entry_rt_hint : entryFor table "reversed.__length_hint__" = some Builtin.«reversed.__length_hint__» := entryFor_of_tree (by kernel_rfl)
theorem args_rt_hint (a : Value) : argsOk "reversed.__length_hint__" ⟨[a], []⟩ := by
  unfold argsOk
  rw [signature?_of (id := "reversed.__length_hint__") (n := ['_', '_', 't', 'n', 'i', 'h', '_', 'h', 't', 'g', 'n', 'e', 'l', '_', '_']) (o := ['d', 'e', 's', 'r', 'e', 'v', 'e', 'r']) (by kernel_rfl) RT.owner_rt]
  kernel_rfl
theorem type_rt_hint : typeOf (.builtin "reversed.__length_hint__") = pure (.type "method_descriptor") := by
  show builtinType _ = _
  rw [builtinType_eq_fast]
  kernel_rfl
theorem hint_tup {it l : Addr} {items : Array Value} {Q : Bool → Shared → Prop} (hit : RT.IsRt s.heap it l ((items.size : Int) - 1)) (ht : IsTup s.heap l items) (hz : items.size ≤ sizeLine) (h : ∀ (r : Bool) (tk : Nat), Q r { s with toks := tk }) : wpAny (model prog w) A (Builtin.List.listLengthHint (.ref it)) Q E s := by
  have hT : s.TypeIs (.ref it) "reversed" := hit.typeIs
  have hn := line63
  obtain ⟨o, ho, hc, hd⟩ := id hit
  unfold Builtin.List.listLengthHint
  refine wpAny_bind (wpAny_specialOf hT nolen_rt ?_)
  show wpAny _ A (specialOf (Value.ref it) (Str.ofString "__length_hint__") >>= _) _ _ _
  refine wpAny_bind (wpAny_specialOf hT hint_rt ?_)
  generalize hid : ("reversed.__length_hint__" : String) = id0
  wp_delta
  rw [show splitId id0 = some ("reversed", "__length_hint__") from by subst hid; decide +kernel]
  subst hid
  refine wpAny_bind (wpAny_isInstance (b := true) hT (by rw [isSubtype_type]; kernel_rfl) ?_)
  rw [if_neg (by decide)]
  try dsimp only
  rw [if_neg (by decide +kernel)]
  refine wpAny_bind (wpAny_rule ?_)
  unfold bindSpecial
  refine wpAny_bind (wpAny_bind (wpAny_of_eq type_rt_hint ?_))
  rw [if_pos (by decide)]
  refine wpAny_pure ?_
  try dsimp only
  refine wpAny_bind (wpAny_attempt (wpAny_call_entry slot_rt_hint hT entry_rt_hint ?_ (args_rt_hint _)))
  unfold Builtin.«reversed.__length_hint__»
  refine wpAny_bind (wpAny_of_eq (a := Value.ref it) rfl ?_)
  refine wpAny_bind (wpAny_field ho hd (x := .ref l) rfl ?_)
  rw [if_neg (show ¬ ((Value.ref l == Value.none) = true) from by simp)]
  try dsimp only
  refine wpAny_bind (PyProof.Rows.len_tuple ht (by omega) ?_)
  refine wpAny_bind (wpAny_pure ?_)
  try dsimp only
  refine wpAny_bind (wpAny_field (s := { s with toks := s.toks + 1 + 1 }) ho hd (x := rawInt ((items.size : Int) - 1)) rfl ?_)
  show wpAny _ _ (if (items.size : Int) < (items.size : Int) - 1 + 1 then _ else _) _ _ _
  rw [if_neg (by omega)]
  show wpAny _ _ (mkInt ((items.size : Int) - 1 + 1) >>= fun v => ret v) _ _ _
  refine wpAny_bind (wpAny_mkInt ?_)
  refine wpAny_pure ⟨_, rfl, ?_⟩
  try dsimp only
  refine wpAny_bind (wpAny_pure ?_)
  try dsimp only
  have f1 : Builtin.List.listFitsIndex ((items.size : Int) - 1 + 1) = true := by
    unfold Builtin.List.listFitsIndex
    rw [Bool.and_eq_true]
    exact ⟨decide_eq_true (by omega), decide_eq_true (by omega)⟩
  have f2 : Builtin.List.listTooLong ((items.size : Int) - 1 + 1).toNat = false := by
    unfold Builtin.List.listTooLong
    exact decide_eq_false (by omega)
  rw [if_neg (by rw [f1]; decide), if_neg (by omega), if_neg (by rw [f2]; decide)]
  exact wpAny_pure (h _ _)
end
theorem walks_rt {prog : Program} {w : World} {A : Around} (hh : A.handled = none) (I l : Addr) (hne : l ≠ I) (items : Array Value) (hz : items.size ≤ sizeLine) :
    Walks prog w A I [I, l] [I] items.size (fun i v => items[items.size - 1 - i]? = some v) (fun i h => i ≤ items.size ∧ RT.IsRt h I l ((items.size : Int) - 1 - (i : Int)) ∧ IsTup h l items) where
  sub := fun b hb => by
    obtain rfl := List.mem_singleton.mp hb
    exact List.mem_cons_self
  frame := fun _ _ _ x hk => ⟨x.1, x.2.1.at fun o e => hk I (by simp) o e, (let ⟨o, e, r⟩ := x.2.2; ⟨o, hk l (by simp) o e, r⟩)⟩
  item := fun i s Q E hi x hQ => by
    obtain ⟨_, hit, ht⟩ := x
    rw [show (items.size : Int) - 1 - (i : Int) = ((items.size - 1 - i : Nat) : Int) by omega] at hit
    have hx : items[items.size - 1 - i]? = some (items[items.size - 1 - i]'(by omega)) := Array.getElem?_eq_getElem (by omega)
    refine RT.next_rt_item hit ht hx hz fun h' hit' sb => ?_
    rw [show ((items.size - 1 - i : Nat) : Int) - 1 = (items.size : Int) - 1 - ((i + 1 : Nat) : Int) by omega] at hit'
    exact hQ _ h' _ hx ⟨hi, hit', (let ⟨o, e, r⟩ := ht; ⟨o, (sb.2 l hne).trans e, r⟩)⟩ fun b o hb eo => (sb.2 b (fun z => hb (by rw [z]; exact List.mem_cons_self))).trans eo
  done := fun s Q E x hQ => by
    obtain ⟨_, hit, ht⟩ := x
    rw [show (items.size : Int) - 1 - (items.size : Int) = -1 by omega] at hit
    exact RT.next_rt_end hh hit fun h' he => hQ h' s.toks fun b o hb eo => he b o (fun z => hb (by rw [z]; exact List.mem_cons_self)) eo
  self := fun _ _ _ _ x hQ => RT.iter_rt x.2.1 hQ
section
variable {X : Cx} {K : Frag}
/-- list(reversed(x)) -/
def tListRev (K : Frag) (te : TE) : TE := fun σ H Q => te σ H fun v H1 => ∃ (a : Addr) (xs : List V), v = .ref a ∧ (SqL K H1 a xs ∨ SqT K H1 a xs) ∧ ∀ q, H1 q = none → Q (.ref q) (upd H1 q (.lst xs.reverse))
theorem pe_listRev {e : Expr} {te : TE} {p p2 pos pos2 : Pos} (hc : X.calm = true) (hg : Gl X "list") (hm : X.mg "list" = none) (hg2 : Gl X "reversed") (hm2 : X.mg "reversed" = none) (he : PE X e te)
    (hs : starEach [e] X.env = (false, eval e X.env) :: starEach [] X.env := by rfl)
    (hs2 : starEach [.Call (.Name "reversed" p2) [e] [] pos2] X.env = (false, eval (.Call (.Name "reversed" p2) [e] [] pos2) X.env) :: starEach [] X.env := by rfl) (hK : X.K = K := by rfl) :
    PE X (.Call (.Name "list" p) [.Call (.Name "reversed" p2) [e] [] pos2] [] pos) (tListRev K te) := by
  subst hK
  refine ⟨fun pins s σ H Q I h => ?_⟩
  refine Call_ (ld_blt I hg hm boot_list (PyProof.Rows.callWith_type1 (args_cons (Call_ (ld_blt I hg2 hm2 PyProof.Rows.boot_reversed (PyProof.Rows.callWith_type1 (args_cons (thn (he.run pins s σ H _ I h) fun u s1 ⟨v, H1, I1, r1, q1⟩ => args_nil ?_) hs) hs rfl))) hs2) hs2 rfl))
  obtain ⟨a, xs, ev, hq, q⟩ := q1
  subst ev
  obtain rfl : u = Value.ref a := r1
  rcases hq with hq | hq
  case inr =>
    obtain ⟨its, rv, p', hz⟩ := I1.tuple hq
    have hn := line63
    have hnz : its.toArray.size ≤ sizeLine := by rw [List.size_toArray, ← rv.length]; exact hz
    refine RT.call_reversed_tup p' (fun A E Q k => len_tuple p' (by omega) k) (args_nil ?_)
    obtain ⟨ol, hol, hoc⟩ := id p'
    have hne : a ≠ s1.heap.objs.size := Nat.ne_of_lt (Heap.lt_size hol)
    obtain ⟨hr, ehr⟩ : ∃ h, h = s1.heap.push (RT.rtObj a ((its.toArray.size : Int) - 1)) := ⟨_, rfl⟩
    have k0 : ∀ b o, s1.heap.get? b = some o → hr.get? b = some o := fun b o e => by rw [ehr]; exact Heap.get?_push_of_some _ e
    have I2 : Inv X pins σ H1 { s1 with heap := hr, toks := s1.toks + 1 + 1 } := I1.kept (t' := s1.toks + 1 + 1) k0
    have e0 : ((its.toArray.size : Nat) : Int) - 1 - ((0 : Nat) : Int) = (its.toArray.size : Int) - 1 := by omega
    have hri : RT.IsRt hr s1.heap.objs.size a ((its.toArray.size : Int) - 1) := by rw [ehr]; exact ⟨_, Heap.get?_push_size _ rfl, rfl, rfl⟩
    have hlr : IsTup hr a its.toArray := ⟨ol, k0 _ _ hol, hoc⟩
    have hsz : hr.objs.size = s1.heap.objs.size + 1 := by rw [ehr, Heap.size_push]
    rw [← ehr]
    have W := walks_rt (prog := X.prog) (w := X.w) (A := X.A.in1.in1) (I1.ok.hd hc) s1.heap.objs.size a hne its.toArray hnz
    refine list_walk (s := { s1 with heap := hr, toks := s1.toks + 1 + 1 }) (T := "reversed") W (fun s' Q' st h' => RT.iter_rt st.2.1 h') W (by show _ < hr.objs.size; omega) (fun b hb => ?_) ⟨Nat.zero_le _, by rw [e0]; exact hri, hlr⟩
      (fun s' k => RT.IsRt.typeIs (s := s') (hri.at fun o e => k _ o e)) (by decide) (by decide) (fun s' Q' k h' => hint_tup (hri.at fun o e => k _ o e) ⟨ol, k _ _ (k0 _ _ hol), hoc⟩ hnz h') hnz fun h' tk acc c hk hS hacc => ?_
    · have hb' : b = s1.heap.objs.size ∨ b = a := by simpa using hb
      show b < hr.objs.size
      rw [hsz]
      rcases hb' with e | e
      · rw [e]; exact Nat.lt_succ_self _
      · rw [e]; exact Nat.lt_succ_of_lt (Heap.lt_size hol)
    · have hb2 : H1 s1.heap.objs.size = none := I1.hok.fresh (Nat.le_refl _)
      have hf : ∀ b ∈ [s1.heap.objs.size], FpOk X pins H1 b := fun b hb => by
        obtain rfl := List.mem_singleton.mp hb
        exact I1.fpOk (Nat.le_refl _) hb2
      have hfree : H1 hr.objs.size = none := I1.hok.fresh (by rw [hsz]; exact Nat.le_succ _)
      have new : ObjOk X.prog X.w (upd H1 hr.objs.size (.lst xs.reverse)) h' hr.objs.size (.lst xs.reverse) :=
        ⟨by rw [List.length_reverse]; exact hz, acc.toList, c, RT.vals_rev rv hacc, by rw [Array.toArray_toList]; exact hS⟩
      exact ⟨.ref hr.objs.size, upd H1 hr.objs.size (.lst xs.reverse), I2.turnedNew (t' := tk) (ch := [s1.heap.objs.size]) (fun b o hb e => hk b o hb e) hf (Nat.le_refl _) new, rfl, q _ hfree⟩
  obtain ⟨its, rv, p', hz⟩ := I1.list hq
  refine call_reversed_list p'.isList (args_nil ?_)
  have hl := p'.isList
  obtain ⟨ol, hol, _⟩ := id hl
  have hne : a ≠ s1.heap.objs.size := Nat.ne_of_lt (Heap.lt_size hol)
  have hn : its.toArray.size ≤ sizeLine := by rw [List.size_toArray, ← rv.length]; exact hz
  obtain ⟨hr, ehr⟩ : ∃ h, h = s1.heap.push (revObj a ((its.toArray.size : Int) - 1)) := ⟨_, rfl⟩
  have k0 : ∀ b o, s1.heap.get? b = some o → hr.get? b = some o := fun b o e => by rw [ehr]; exact Heap.get?_push_of_some _ e
  have I2 : Inv X pins σ H1 { s1 with heap := hr } := I1.kept (t' := s1.toks) k0
  have e0 : ((its.toArray.size : Nat) : Int) - 1 - ((0 : Nat) : Int) = (its.toArray.size : Int) - 1 := by omega
  have hri : hr.IsRevIter s1.heap.objs.size a ((its.toArray.size : Int) - 1) := by rw [ehr]; exact ⟨_, Heap.get?_push_size _ rfl, rfl, rfl⟩
  have hlr : hr.IsList a its.toArray := by rw [ehr]; exact hl.push _
  have hsz : hr.objs.size = s1.heap.objs.size + 1 := by rw [ehr, Heap.size_push]
  rw [← ehr]
  have W := Walks.listRev (prog := X.prog) (w := X.w) (A := X.A.in1.in1) (I1.ok.hd hc) s1.heap.objs.size a hne its.toArray
  refine list_walk (s := { s1 with heap := hr }) (T := "list_reverseiterator") W (fun s' Q' st h' => wpAny_pyIter_revIter st.2.1 h') W (by show _ < hr.objs.size; omega) (fun b hb => ?_) ⟨Nat.zero_le _, by rw [e0]; exact hri, hlr⟩
    (fun s' k => Heap.IsRevIter.typeIs (s := s') (hri.at fun o e => k _ o e)) (by decide) (by decide) (fun s' Q' k h' => hint_list (hri.at fun o e => k _ o e) h') hn fun h' tk acc c hk hS hacc => ?_
  · have hb' : b = s1.heap.objs.size ∨ b = a := by simpa using hb
    show b < hr.objs.size
    rw [hsz]
    rcases hb' with e | e
    · rw [e]; exact Nat.lt_succ_self _
    · rw [e]; exact Nat.lt_succ_of_lt (Heap.lt_size hol)
  · have hb2 : H1 s1.heap.objs.size = none := I1.hok.fresh (Nat.le_refl _)
    have hf : ∀ b ∈ [s1.heap.objs.size], FpOk X pins H1 b := fun b hb => by
      obtain rfl := List.mem_singleton.mp hb
      exact I1.fpOk (Nat.le_refl _) hb2
    have hfree : H1 hr.objs.size = none := I1.hok.fresh (by rw [hsz]; exact Nat.le_succ _)
    have hlen := rv.length
    have new : ObjOk X.prog X.w (upd H1 hr.objs.size (.lst xs.reverse)) h' hr.objs.size (.lst xs.reverse) := by
      have hv := RT.vals_rev rv hacc
      exact ⟨by rw [List.length_reverse]; exact hz, acc.toList, c, hv, by rw [Array.toArray_toList]; exact hS⟩
    exact ⟨.ref hr.objs.size, upd H1 hr.objs.size (.lst xs.reverse), I2.turnedNew (t' := tk) (ch := [s1.heap.objs.size]) (fun b o hb e => hk b o hb e) hf (Nat.le_refl _) new, rfl, q _ hfree⟩
end
section
variable {K : Frag} {ρ : En} {te : TE} {ds : List D}
theorem f_listRevL (h : EvL K te ρ ds) : EvF K (tListRev K te) ρ ds.reverse := fun R0 H0 R σ H a Q q => h R0 H0 R σ H a _ fun p vs R1 H1 g1 sq dv =>
  ⟨p, vs, rfl, .inl sq, fun l hl => q l _ R1 _ (g1.trans (Grow.hide g1.sub hl)) (g1.hp.free hl) (g1.sub.free hl) upd_same (dpa_rev dv)⟩
theorem f_listRevQ {d0 : D} (hd : SeqD d0 ds) (h : Ev K te ρ d0) : EvF K (tListRev K te) ρ ds.reverse := by
  rcases hd with rfl | rfl
  · exact f_listRevL h.l
  · intro R0 H0 R σ H a Q q
    refine h R0 H0 R σ H a _ fun v R1 H1 g1 dv => ?_
    cases dv with
    | tup hs hall => exact ⟨_, _, rfl, .inr (sqt_mono g1.sub hs), fun l hl => q l _ R1 _ (g1.trans (Grow.hide g1.sub hl)) (g1.hp.free hl) (g1.sub.free hl) upd_same (dpa_rev hall)⟩
end
end Pu

set_option maxRecDepth 100000
set_option maxHeartbeats 1000000
namespace Pu
open PySem PySem.Spec PyProof.Rows L2
/-! ### zip of a list or a tuple with a list or a tuple -/
def SqQ (K : Frag) (t : Bool) (H : Hp) (a : Addr) (xs : List V) : Prop := if t then SqT K H a xs else SqL K H a xs
def itCls (t : Bool) : String := if t then "tuple_iterator" else "list_iterator"
def ItAt (t : Bool) (h : Heap) (it a : Addr) (i : Nat) : Prop := if t then h.IsTupleIter it a i else h.IsListIter it a i
def SeqIs (t : Bool) (h : Heap) (a : Addr) (items : Array Value) : Prop := if t then h.IsTuple a items else h.IsList a items
theorem SeqIs.keep {t : Bool} {h h' : Heap} {a : Addr} {items : Array Value} (x : SeqIs t h a items) (e : ∀ o, h.get? a = some o → h'.get? a = some o) : SeqIs t h' a items := by
  cases t
  · exact Heap.IsList.at x e
  · obtain ⟨o, ho, r⟩ := x
    exact ⟨o, e o ho, r⟩
theorem SeqIs.there {t : Bool} {h : Heap} {a : Addr} {items : Array Value} (x : SeqIs t h a items) : ∃ o, h.get? a = some o := by
  cases t
  · obtain ⟨o, ho, _⟩ := x
    exact ⟨o, ho⟩
  · obtain ⟨o, ho, _⟩ := x
    exact ⟨o, ho⟩
theorem ItAt.keep {t : Bool} {h h' : Heap} {it a : Addr} {i : Nat} (x : ItAt t h it a i) (e : ∀ o, h.get? it = some o → h'.get? it = some o) : ItAt t h' it a i := by
  cases t
  · obtain ⟨o, ho, r⟩ := x
    exact ⟨o, e o ho, r⟩
  · obtain ⟨o, ho, r⟩ := x
    exact ⟨o, e o ho, r⟩
theorem ItAt.there {t : Bool} {h : Heap} {it a : Addr} {i : Nat} (x : ItAt t h it a i) : ∃ o c, h.get? it = some o ∧ o.data = .fields #[.ref a, c] := by
  cases t
  · obtain ⟨o, ho, _, hd⟩ := x
    exact ⟨o, _, ho, hd⟩
  · obtain ⟨o, ho, _, hd⟩ := x
    exact ⟨o, _, ho, hd⟩
theorem draws_seq {prog : Program} {w : World} {A : Around} (t : Bool) (hh : A.handled = none) (it l : Addr) (hne : l ≠ it) (items : Array Value) :
    Draws prog w A it [it, l] items.size (fun i v => items[i]? = some v) (fun i h => ItAt t h it l i ∧ SeqIs t h l items) := by
  cases t
  · exact Draws.list hh it l hne items
  · exact Draws.tuple hh it l hne items
theorem sqQ_seq {X : Cx} {pins : List (Addr × Obj)} {σ : L2.St} {H : Hp} {s : Shared} {t : Bool} {a : Addr} {xs : List V} (I : Inv X pins σ H s) (h : SqQ X.K t H a xs) : ∃ its : List Value, Vals xs its ∧ SeqIs t s.heap a its.toArray := by
  cases t
  · obtain ⟨its, r, p, _⟩ := I.list h
    exact ⟨its, r, p.isList⟩
  · obtain ⟨its, r, p, _⟩ := I.tuple h
    exact ⟨its, r, p⟩
theorem sqQ_inj {X : Cx} {pins : List (Addr × Obj)} {σ : L2.St} {H : Hp} {s : Shared} {t : Bool} {a : Addr} {xs ys : List V} (I : Inv X pins σ H s) (h : SqQ X.K t H a xs) (h' : SqQ X.K t H a ys) : xs = ys := by
  cases t
  · exact I.list_inj h h'
  · exact I.tuple_inj h h'
def ItzQ (K : Frag) (t1 t2 : Bool) (a b : Addr) : It :=
  ⟨fun i H => ∃ (xs ys : List V) (x y : V), SqQ K t1 H a xs ∧ SqQ K t2 H b ys ∧ xs[i]? = some x ∧ ys[i]? = some y,
    fun i H v H' => ∃ T x y, v = .ref T ∧ H T = none ∧ H' = upd H T (.tup [x, y]) ∧ (∀ xs, SqQ K t1 H a xs → xs[i]? = some x) ∧ ∀ ys, SqQ K t2 H b ys → ys[i]? = some y,
    fun i H => ∃ xs ys : List V, SqQ K t1 H a xs ∧ SqQ K t2 H b ys ∧ (xs.length = i ∨ ys.length = i) ∧ i ≤ xs.length ∧ i ≤ ys.length⟩
theorem turn_zipQ {P : Program} {w : World} {K : Frag} {elts : List Expr} {kk : Nat} {tpos : Pos} {t1 t2 : Bool} {a b z TI TO i1 i2 : Addr} (n1 : a ≠ i1) (n2 : b ≠ i2) (S : ZipSep2 z TI TO i1 i2 [i1, a] [i2, b]) :
    Turn P w K (.Tuple elts kk tpos) (ItzQ K t1 t2 a b) [z, TI, TO, i1, i2] z (fun i h => IsZip h z TI TO .none ∧ IsTupOf2 h TI (.ref i1) (.ref i2) ∧ (∃ x y, IsTupOf2 h TO x y) ∧ ItAt t1 h i1 a i ∧ ItAt t2 h i2 b i) where
  mem := List.mem_cons_self
  obj := fun i h st c hc => by
    obtain ⟨hz, hTI, ⟨x, y, hTO⟩, h1, h2⟩ := st
    obtain ⟨o1, c1, e1, d1⟩ := h1.there
    obtain ⟨o2, c2, e2, d2⟩ := h2.there
    have e' : c = z ∨ c = TI ∨ c = TO ∨ c = i1 ∨ c = i2 := by simpa using hc
    rcases e' with q | q | q | q | q
    · rw [q]; exact ⟨_, hz, fun v q => nomatch q⟩
    · rw [q]; exact ⟨_, hTI, fun v q => nomatch q⟩
    · rw [q]; exact ⟨_, hTO, fun v q => nomatch q⟩
    · rw [q]; exact ⟨o1, e1, fun v q => by rw [d1] at q; cases q⟩
    · rw [q]; exact ⟨o2, e2, fun v q => by rw [d2] at q; cases q⟩
  keep := fun i h h' st k => by
    obtain ⟨hz, hTI, ⟨x, y, hTO⟩, h1, h2⟩ := st
    exact ⟨k z (by simp) _ hz, k TI (by simp) _ hTI, ⟨x, y, k TO (by simp) _ hTO⟩, h1.keep fun o q => k i1 (by simp) o q, h2.keep fun o q => k i2 (by simp) o q⟩
  item := by
    intro X hP hw hK hc i pins s σ H E I hf st hg
    subst hP hw hK
    obtain ⟨hz, hTI, ⟨x0, y0, hTO⟩, h1, h2⟩ := st
    obtain ⟨xs, ys, x, y, hqx, hqy, hx, hy⟩ := hg
    obtain ⟨its, rv, p⟩ := sqQ_seq I hqx
    obtain ⟨its2, rv2, p2⟩ := sqQ_seq I hqy
    obtain ⟨u, hu, ru⟩ := rv.get hx
    obtain ⟨u2, hu2, ru2⟩ := rv2.get hy
    have hzl : z < s.heap.objs.size := Heap.lt_size hz
    have D1 := draws_seq (prog := X.prog) (w := X.w) (A := X.A.in1) t1 (I.ok.hd hc) i1 a n1 its.toArray
    have D2 := draws_seq (prog := X.prog) (w := X.w) (A := X.A.in1) t2 (I.ok.hd hc) i2 b n2 its2.toArray
    have l1 : i < its.toArray.size := by rw [List.size_toArray]; exact (List.getElem?_eq_some_iff.mp hu).1
    have l2 : i < its2.toArray.size := by rw [List.size_toArray]; exact (List.getElem?_eq_some_iff.mp hu2).1
    refine wpAny_pyNext_zipD2_item S D1 D2 hz hTI hTO ⟨h1, p⟩ ⟨h2, p2⟩ l1 l2 fun x1 x2 h' tk e1 e2 z' TO' st1 st2 hT hsz hk => ?_
    have q1 : x1 = u := Option.some.inj (e1.symm.trans (by simpa using hu))
    have q2 : x2 = u2 := Option.some.inj (e2.symm.trans (by simpa using hu2))
    subst q1 q2
    refine ⟨_, rfl, wpAny_letOwnedTupleGo_zip (s := { s with heap := h', toks := tk }) z' fun h'' z'' sb => ?_⟩
    have hT2 : h''.get? s.heap.objs.size = some { cls := .type "tuple", data := .seq #[x1, x2] } := (sb.2 _ (Nat.ne_of_gt hzl)).trans hT
    have new : ObjOk X.prog X.w (upd H s.heap.objs.size (.tup [x, y])) h'' s.heap.objs.size (.tup [x, y]) :=
      ⟨by show 2 ≤ sizeLine; decide, [x1, x2], .cons ru (.cons ru2 .nil), ⟨_, hT2, rfl, _, rfl⟩⟩
    have I1 : Inv X pins σ (upd H s.heap.objs.size (.tup [x, y])) { s with heap := h'', toks := tk } :=
      I.turnedNew (t' := tk) (ch := [z, TI, TO, i1, i2]) (fun c o hb q => (sb.2 c (fun q' => hb (by simp [q']))).trans (hk c o (fun q' => hb (by simp [q'])) (fun q' => hb (by simp [q'])) (fun q' => hb (by simp [q'])) (fun q' => hb (by simp [q'])) q)) hf (Nat.le_refl _) new
    refine ⟨.ref s.heap.objs.size, _, I1, rfl, ⟨_, x, y, rfl, I.hok.fresh (Nat.le_refl _), rfl, fun l hl => by rw [sqQ_inj I hl hqx]; exact hx, fun l hl => by rw [sqQ_inj I hl hqy]; exact hy⟩, ⟨z'', ?_, ⟨x1, x2, ?_⟩, ?_, ?_⟩, fun c hcm => ?_⟩
    · exact (sb.2 _ S.TIz).trans (hk _ _ S.TIz S.TITO S.TIi1 S.TIi2 hTI)
    · exact (sb.2 _ S.TOz).trans TO'
    · exact st1.1.keep fun o q => (sb.2 _ (Ne.symm S.zi1)).trans q
    · exact st2.1.keep fun o q => (sb.2 _ (Ne.symm S.zi2)).trans q
    · have hlt : c < s.heap.objs.size := by
        have e' : c = z ∨ c = TI ∨ c = TO ∨ c = i1 ∨ c = i2 := by simpa using hcm
        obtain ⟨_, _, g1, _⟩ := h1.there
        obtain ⟨_, _, g2, _⟩ := h2.there
        rcases e' with q | q | q | q | q
        · rw [q]; exact hzl
        · rw [q]; exact Heap.lt_size hTI
        · rw [q]; exact Heap.lt_size hTO
        · rw [q]; exact Heap.lt_size g1
        · rw [q]; exact Heap.lt_size g2
      rw [upd_ne (Nat.ne_of_lt hlt)]
      exact (hf c hcm).1
  done := by
    intro X hP hw hK hc i pins s σ H E I hf st hg
    subst hP hw hK
    obtain ⟨hz, hTI, ⟨x0, y0, hTO⟩, h1, h2⟩ := st
    obtain ⟨xs, ys, hqx, hqy, hend, hle1, hle2⟩ := hg
    obtain ⟨its, rv, p⟩ := sqQ_seq I hqx
    obtain ⟨its2, rv2, p2⟩ := sqQ_seq I hqy
    have l1 := rv.length
    have l2 := rv2.length
    have D1 := draws_seq (prog := X.prog) (w := X.w) (A := X.A.in1) t1 (I.ok.hd hc) i1 a n1 its.toArray
    have D2 := draws_seq (prog := X.prog) (w := X.w) (A := X.A.in1) t2 (I.ok.hd hc) i2 b n2 its2.toArray
    exact wpAny_pyNext_zipD2_end S D1 D2 hz hTI hTO ⟨h1, p⟩ ⟨h2, p2⟩ (by rw [List.size_toArray]; omega) (by rw [List.size_toArray]; omega) (by rw [List.size_toArray, List.size_toArray]; omega) fun h' tk hk => ⟨rfl, I.turnedL (t' := tk) (ch := [z, TI, TO, i1, i2]) (fun c o hb q =>
      hk c o (fun q' => hb (by simp [q'])) (fun q' => hb (by simp [q'])) (fun q' => hb (by simp [q'])) (fun q' => hb (by simp [q'])) q) hf⟩
  self := fun A i s Q E st h => wpAny_pyIter_zip st.1 h
theorem pyIter_seq {prog : Program} {w : World} {A : Around} {E : Value → Shared → Prop} {s : Shared} {t : Bool} {l : Addr} {items : Array Value} {Q : Value → Shared → Prop} (hl : SeqIs t s.heap l items)
    (hQ : Q (.ref s.heap.objs.size) { s with heap := s.heap.push { cls := .type (itCls t), data := .fields #[.ref l, .int 0 0] } }) : wpAny (model prog w) A (pyIter (.ref l)) Q E s := by
  cases t
  · exact wpAny_pyIter_list hl hQ
  · exact wpAny_pyIter_tuple hl hQ
abbrev zq1 (t1 : Bool) (h : Heap) (l1 : Addr) : Heap := h.push { cls := .type (itCls t1), data := .fields #[.ref l1, .int 0 0] }
abbrev zq2 (t1 t2 : Bool) (h : Heap) (l1 l2 : Addr) : Heap := (zq1 t1 h l1).push { cls := .type (itCls t2), data := .fields #[.ref l2, .int 0 0] }
abbrev zq3 (t1 t2 : Bool) (h : Heap) (l1 l2 : Addr) : Heap := (zq2 t1 t2 h l1 l2).push { cls := .type "tuple", data := .seq #[.ref h.objs.size, .ref (zq1 t1 h l1).objs.size] }
abbrev zq4 (t1 t2 : Bool) (h : Heap) (l1 l2 : Addr) : Heap := (zq3 t1 t2 h l1 l2).push { cls := .type "tuple", data := .seq #[.none, .none] }
abbrev zq5 (t1 t2 : Bool) (h : Heap) (l1 l2 : Addr) : Heap := (zq4 t1 t2 h l1 l2).push { cls := .type "zip", data := .fields #[.none, .bool false, .bool false, .ref (zq2 t1 t2 h l1 l2).objs.size, .ref (zq3 t1 t2 h l1 l2).objs.size] }
theorem meets_zipQ (t1 t2 : Bool) (l1 l2 : Addr) (xs ys : Array Value) :
    PySem.Meets (Builtin.«zip.__new__» ⟨[.type "zip", .ref l1, .ref l2], []⟩) (fun _ R s => SeqIs t1 s.heap l1 xs ∧ SeqIs t2 s.heap l2 ys ∧ R (.ok (.ret (.ref (zq4 t1 t2 s.heap l1 l2).objs.size))) { s with heap := zq5 t1 t2 s.heap l1 l2 }) :=
  .of_wp fun prog w A R s h => by
    obtain ⟨hp, g, d, tk, os⟩ := s
    obtain ⟨hl1, hl2, h⟩ := h
    have hsub := sub_zip
    have L1 : SeqIs t1 (Shared.heap ⟨hp, g, d, tk, os⟩) l1 xs := hl1
    have L2 : SeqIs t2 (Shared.heap ⟨hp.push { cls := .type (itCls t1), data := .fields #[.ref l1, .int 0 0] }, g, d, tk, os⟩) l2 ys := hl2.keep fun o e => Heap.get?_push_of_some _ e
    wp_walk using pyIter_seq L1, pyIter_seq L2
    exact ⟨_, rfl, h⟩
theorem call_zipQ {prog : Program} {w : World} {A : Around} {E : Value → Shared → Prop} {s : Shared} {t1 t2 : Bool} {l1 l2 : Addr} {xs ys : Array Value} {Q : Value → Shared → Prop} (hl1 : SeqIs t1 s.heap l1 xs) (hl2 : SeqIs t2 s.heap l2 ys)
    (h : ∀ h', IsZip h' (s.heap.objs.size + 4) (s.heap.objs.size + 2) (s.heap.objs.size + 3) .none → IsTupOf2 h' (s.heap.objs.size + 2) (.ref s.heap.objs.size) (.ref (s.heap.objs.size + 1)) → IsTupOf2 h' (s.heap.objs.size + 3) .none .none →
      ItAt t1 h' s.heap.objs.size l1 0 → ItAt t2 h' (s.heap.objs.size + 1) l2 0 → (∀ c o, s.heap.get? c = some o → h'.get? c = some o) → Q (.ref (s.heap.objs.size + 4)) { s with heap := h' }) :
    wpAny (model prog w) A (call (.type "zip") [.ref l1, .ref l2]) Q E s := by
  refine callType_new F.called_zip (by decide) (F.typeCall_zip_2 _ _) (F.newCall_zip_2 _ _) (fun obj => F.args_object_init_3 obj _ _) F.entry_zip_new (meets_zipQ t1 t2 l1 l2 xs ys) ⟨hl1, hl2, ?_⟩
  have s1 : (zq1 t1 s.heap l1).objs.size = s.heap.objs.size + 1 := Heap.size_push ..
  have s2 : (zq2 t1 t2 s.heap l1 l2).objs.size = s.heap.objs.size + 2 := by rw [Heap.size_push, s1]
  have s3 : (zq3 t1 t2 s.heap l1 l2).objs.size = s.heap.objs.size + 3 := by rw [Heap.size_push, s2]
  have s4 : (zq4 t1 t2 s.heap l1 l2).objs.size = s.heap.objs.size + 4 := by rw [Heap.size_push, s3]
  have up : ∀ {h : Heap} {o o' : Obj} {a : Addr}, h.get? a = some o → (h.push o').get? a = some o := fun e => Heap.get?_push_of_some _ e
  have g5 : (zq5 t1 t2 s.heap l1 l2).get? (zq4 t1 t2 s.heap l1 l2).objs.size = some _ := Heap.get?_push_size _ rfl
  have g4 : (zq5 t1 t2 s.heap l1 l2).get? (zq3 t1 t2 s.heap l1 l2).objs.size = some _ := up (Heap.get?_push_size _ rfl)
  have g3 : (zq5 t1 t2 s.heap l1 l2).get? (zq2 t1 t2 s.heap l1 l2).objs.size = some _ := up (up (Heap.get?_push_size _ rfl))
  have g2 : (zq5 t1 t2 s.heap l1 l2).get? (zq1 t1 s.heap l1).objs.size = some _ := up (up (up (Heap.get?_push_size _ rfl)))
  have g1 : (zq5 t1 t2 s.heap l1 l2).get? s.heap.objs.size = some _ := up (up (up (up (Heap.get?_push_size _ rfl))))
  show _ ∧ _
  rw [s2, s3, s4] at g5
  rw [s1, s2] at g3
  rw [s3] at g4
  rw [s1] at g2
  rw [s4]
  refine ⟨⟨_, g5, rfl⟩, h _ g5 g3 g4 ?_ ?_ fun c o x => up (up (up (up (up x))))⟩
  · cases t1
    · exact ⟨_, g1, rfl, rfl⟩
    · exact ⟨_, g1, rfl, rfl⟩
  · cases t2
    · exact ⟨_, g2, rfl, rfl⟩
    · exact ⟨_, g2, rfl, rfl⟩
def iZipQ (K : Frag) (ta : TA) : TI := fun σ H R => ta σ H fun vs H1 => ∃ a b xs ys t1 t2, vs = [.ref a, .ref b] ∧ SqQ K t1 H1 a xs ∧ SqQ K t2 H1 b ys ∧ R (ItzQ K t1 t2 a b) H1
theorem w_zipQ {X : Cx} {K : Frag} {e e2 : Expr} {ta : TA} {p pos tpos : Pos} {elts : List Expr} {kk : Nat} (hg : Gl X "zip") (hm : X.mg "zip" = none) (ha : PA X [e, e2] ta)
    (hs : starEach [e, e2] X.env = (false, eval e X.env) :: starEach [e2] X.env := by rfl) (hpl : (backTo pos (starEach [e2] X.env)).any (·.1) = false := by rfl) (hK : X.K = K := by rfl) : PI X (.Tuple elts kk tpos) (.Call (.Name "zip" p) [e, e2] [] pos) (iZipQ K ta) := by
  subst hK
  refine ⟨fun pins s σ H R I h => ?_⟩
  refine Call_ (ld_blt I hg hm PyProof.Rows.boot_zip (PyProof.Rows.callWith_type1 (thn (ha.run pos pins s σ H _ I h) fun us s1 ⟨vs, H1, I1, r1, q1⟩ => ?_) hs hpl))
  obtain ⟨a, b, xs, ys, t1, t2, rfl, hqx, hqy, q⟩ := q1
  cases r1 with
  | cons r rr =>
    cases rr with
    | cons r' rr =>
      cases rr
      cases r
      cases r'
      obtain ⟨n, hn⟩ : ∃ n, n = s1.heap.objs.size := ⟨_, rfl⟩
      have fresh5 : ∀ c, c ∈ [s1.heap.objs.size + 4, s1.heap.objs.size + 2, s1.heap.objs.size + 3, s1.heap.objs.size, s1.heap.objs.size + 1] → FpOk X pins H1 c := fun c hcm => by
        have hle : s1.heap.objs.size ≤ c := by
          have e' : c = s1.heap.objs.size + 4 ∨ c = s1.heap.objs.size + 2 ∨ c = s1.heap.objs.size + 3 ∨ c = s1.heap.objs.size ∨ c = s1.heap.objs.size + 1 := by simpa using hcm
          rw [← hn] at e' ⊢
          have e2 : c = n + 4 ∨ c = n + 2 ∨ c = n + 3 ∨ c = n ∨ c = n + 1 := e'
          rcases e2 with z | z | z | z | z <;> rw [z] <;> first | exact Nat.le_refl _ | exact Nat.le_add_right _ _
        exact I1.fpOk hle (I1.hok.fresh hle)
      obtain ⟨its, rv, p1⟩ := sqQ_seq I1 hqx
      obtain ⟨its2, rv2, p2⟩ := sqQ_seq I1 hqy
      obtain ⟨oa, ha1⟩ := p1.there
      obtain ⟨ob, hb1⟩ := p2.there
      have la : a < s1.heap.objs.size := Heap.lt_size ha1
      have lb : b < s1.heap.objs.size := Heap.lt_size hb1
      refine call_zipQ p1 p2 fun h' hz hTI hTO h1 h2 hk => wpAny_pyIter_zip hz ?_
      have I2 : Inv X pins σ H1 { s1 with heap := h' } := I1.kept (t' := s1.toks) hk
      refine ⟨s1.heap.objs.size + 4, [s1.heap.objs.size + 4, s1.heap.objs.size + 2, s1.heap.objs.size + 3, s1.heap.objs.size, s1.heap.objs.size + 1], _, _, H1, rfl, I2, turn_zipQ (Nat.ne_of_lt la) (Nat.ne_of_lt (Nat.lt_succ_of_lt lb)) ?_, ⟨hz, hTI, ⟨_, _, hTO⟩, h1, h2⟩, fresh5, q⟩
      have nea : ∀ k : Nat, s1.heap.objs.size + k ≠ a := fun k => Nat.ne_of_gt (Nat.lt_of_lt_of_le la (Nat.le_add_right _ _))
      have neb : ∀ k : Nat, s1.heap.objs.size + k ≠ b := fun k => Nat.ne_of_gt (Nat.lt_of_lt_of_le lb (Nat.le_add_right _ _))
      have ne : ∀ j k : Nat, j ≠ k → s1.heap.objs.size + j ≠ s1.heap.objs.size + k := fun j k h e => h (Nat.add_left_cancel e)
      have n0 : ∀ k : Nat, 0 ≠ k → s1.heap.objs.size ≠ s1.heap.objs.size + k := fun k h => ne 0 k h
      have nk : ∀ k : Nat, k ≠ 0 → s1.heap.objs.size + k ≠ s1.heap.objs.size := fun k h => ne k 0 h
      exact {
        TIz := ne 2 4 (by decide), TOz := ne 3 4 (by decide), TITO := ne 2 3 (by decide), TIi1 := nk 2 (by decide), mem1 := List.mem_cons_self
        zf1 := by
          intro z
          rcases List.mem_cons.mp z with z | z
          · exact nk 4 (by decide) z
          · exact nea 4 (List.mem_singleton.mp z)
        Tf1 := by
          intro z
          rcases List.mem_cons.mp z with z | z
          · exact nk 3 (by decide) z
          · exact nea 3 (List.mem_singleton.mp z)
        TIi2 := ne 2 1 (by decide), mem2 := List.mem_cons_self
        zf2 := by
          intro z
          rcases List.mem_cons.mp z with z | z
          · exact ne 4 1 (by decide) z
          · exact neb 4 (List.mem_singleton.mp z)
        Tf2 := by
          intro z
          rcases List.mem_cons.mp z with z | z
          · exact ne 3 1 (by decide) z
          · exact neb 3 (List.mem_singleton.mp z)
        sep1_2 := by
          intro z
          rcases List.mem_cons.mp z with z | z
          · exact n0 1 (by decide) z
          · exact neb 0 (List.mem_singleton.mp z)
        sep2_1 := by
          intro z
          rcases List.mem_cons.mp z with z | z
          · exact nk 1 (by decide) z
          · exact nea 1 (List.mem_singleton.mp z) }
section
variable {K : Frag} {ρ : En} {ta tb : TE} {ds es : List D} {d1 d2 : D}
theorem dp_seqQ {R H : Hp} {v : V} (hd : SeqD d1 ds) (h : Dp K R v d1) : ∃ (p : Addr) (vs : List V) (t : Bool), v = .ref p ∧ DpAll K R vs ds ∧ ∀ H', Same R H' → SqQ K t H' p vs := by
  rcases hd with rfl | rfl
  · cases h with
    | lst hs ha => exact ⟨_, _, false, rfl, ha, fun H' s => s.seq hs⟩
  · cases h with
    | tup hs ha => exact ⟨_, _, true, rfl, ha, fun H' s => sqt_mono s hs⟩
theorem id_zipQ (h1 : SeqD d1 ds) (h2 : SeqD d2 es) (ha : Ev K ta ρ d1) (hb : Ev K tb ρ d2) : Id K (iZipQ K (tCons ta (tCons tb tNil))) ρ (zipD ds es) := fun R0 H0 R σ H a Rr q =>
  ha R0 H0 R σ H a _ fun v R1 H1 g1 dv => hb R0 H0 R1 σ H1 (a.grow g1) _ fun w R2 H2 g2 dw => by
    obtain ⟨p, xs, t1, rfl, dx, kx⟩ := dp_seqQ (H := H1) h1 (dp_mono g2.rd _ _ dv)
    obtain ⟨p', ys, t2, rfl, dy, ky⟩ := dp_seqQ (H := H2) h2 dw
    have lx := dpa_len dx
    have ly := dpa_len dy
    refine ⟨p, p', xs, ys, t1, t2, rfl, kx H2 g2.sub, ky H2 g2.sub, q _ R2 H2 (g1.trans g2) fun R3 H3 s3 sh => ⟨fun i d e => ?_, ?_⟩⟩
    · obtain ⟨x, y, ex, ey, rfl⟩ := zipD_at e
      obtain ⟨v, f1, f2⟩ := dpa_get dx ex
      obtain ⟨w, f3, f4⟩ := dpa_get dy ey
      refine ⟨⟨xs, ys, v, w, kx _ (s3.trans sh), ky _ (s3.trans sh), f1, f3⟩, fun z H4 yl => ?_⟩
      obtain ⟨T, v', w', rfl, hT, rfl, y1, y2⟩ := yl
      have z1 := y1 xs (kx _ (s3.trans sh))
      have z2 := y2 ys (ky _ (s3.trans sh))
      rw [f1] at z1
      rw [f3] at z2
      cases z1
      cases z2
      have g := Grow.alloc (o := .tup [v, w]) sh hT
      exact ⟨_, g, .tup (SqT.of upd_same) (.cons (dp_mono (s3.trans g.rd) _ _ f2) (.cons (dp_mono (s3.trans g.rd) _ _ f4) .nil))⟩
    · refine ⟨xs, ys, kx _ (s3.trans sh), ky _ (s3.trans sh), ?_⟩
      rw [zipD_len]
      omega
end
end Pu

set_option maxRecDepth 100000
namespace Pu
open PySem PySem.Spec PyProof.Rows L2
/-! ### ways of dealing: the plain law -/
def qlist (ns : List Int) : List Rat := ns.map fun i : Int => (i : Rat)
def leAll : List Rat → List Rat → Prop
  | [], [] => True
  | x :: xs, y :: ys => x ≤ y ∧ leAll xs ys
  | _, _ => False
theorem leAll_len : ∀ {xs ys : List Rat}, leAll xs ys → xs.length = ys.length
  | [], [], _ => rfl
  | x :: xs, y :: ys, h => congrArg (· + 1) (leAll_len h.2)
  | [], y :: ys, h => h.elim
  | x :: xs, [], h => h.elim
theorem leAll_refl : ∀ xs : List Rat, leAll xs xs
  | [] => trivial
  | x :: xs => ⟨Rat.le_refl, leAll_refl xs⟩
theorem leAll_sum : ∀ {xs ys : List Rat}, leAll xs ys → qsum xs ≤ qsum ys
  | [], [], _ => Rat.le_refl
  | x :: xs, y :: ys, h => by
    have := leAll_sum h.2
    have := h.1
    show x + qsum xs ≤ y + qsum ys
    grind
  | [], y :: ys, h => h.elim
  | x :: xs, [], h => h.elim
theorem leAll_eq : ∀ {xs ys : List Rat}, leAll xs ys → qsum xs = qsum ys → xs = ys
  | [], [], _, _ => rfl
  | x :: xs, y :: ys, h, e => by
    have s := leAll_sum h.2
    have h1 := h.1
    have e' : x + qsum xs = y + qsum ys := e
    have e1 : x = y := by grind
    have e2 : qsum xs = qsum ys := by grind
    rw [e1, leAll_eq h.2 e2]
  | [], y :: ys, h, _ => h.elim
  | x :: xs, [], h, _ => h.elim
theorem leAll_get : ∀ {xs ys : List Rat} {i : Nat} {x y : Rat}, leAll xs ys → xs[i]? = some x → ys[i]? = some y → x ≤ y
  | [], [], i, x, y, _, h, _ => by simp at h
  | x :: xs, y :: ys, 0, a, b, h, h1, h2 => by
    obtain rfl := Option.some.inj h1
    obtain rfl := Option.some.inj h2
    exact h.1
  | x :: xs, y :: ys, i + 1, a, b, h, h1, h2 => leAll_get (i := i) h.2 h1 h2
  | [], y :: ys, i, _, _, h, _, _ => h.elim
  | x :: xs, [], i, _, _, h, _, _ => h.elim
theorem leAll_of : ∀ {xs ys : List Rat}, xs.length = ys.length → (∀ (i : Nat) (x y : Rat), xs[i]? = some x → ys[i]? = some y → x ≤ y) → leAll xs ys
  | [], [], _, _ => trivial
  | x :: xs, y :: ys, hl, h => ⟨h 0 x y rfl rfl, leAll_of (Nat.succ.inj hl) fun i a b h1 h2 => h (i + 1) a b h1 h2⟩
  | [], y :: ys, hl, _ => absurd hl (by simp)
  | x :: xs, [], hl, _ => absurd hl (by simp)
def zeros (cs : List Rat) : List Rat := cs.map fun _ => 0
theorem zeros_sum : ∀ cs : List Rat, qsum (zeros cs) = 0
  | [] => rfl
  | c :: cs => by
    show (0 : Rat) + qsum (zeros cs) = 0
    rw [zeros_sum cs]
    exact Rat.add_zero 0
/-- a dealing: each from nought to its claim, the catch in sum -/
structure Dl (cs g : List Rat) (q : Rat) : Prop where
  lo : leAll (zeros cs) g
  hi : leAll g cs
  sum : qsum g = q
theorem Dl.len {cs g : List Rat} {q : Rat} (h : Dl cs g q) : g.length = cs.length := leAll_len h.hi
theorem Dl.get {cs g : List Rat} {q : Rat} (h : Dl cs g q) {i : Nat} {x c : Rat} (h1 : g[i]? = some x) (h2 : cs[i]? = some c) : 0 ≤ x ∧ x ≤ c := by
  refine ⟨leAll_get h.lo ?_ h1, leAll_get h.hi h1 h2⟩
  unfold zeros
  rw [List.getElem?_map, h2]
  rfl
theorem Dl.of {cs g : List Rat} {q : Rat} (hl : g.length = cs.length) (h : ∀ (i : Nat) (x c : Rat), g[i]? = some x → cs[i]? = some c → 0 ≤ x ∧ x ≤ c) (hs : qsum g = q) : Dl cs g q := by
  refine ⟨leAll_of (by unfold zeros; rw [List.length_map, hl]) fun i z x hz hx => ?_, leAll_of hl fun i x c hx hc => (h i x c hx hc).2, hs⟩
  unfold zeros at hz
  rw [List.getElem?_map] at hz
  cases e : cs[i]? with
  | none => rw [e] at hz; cases hz
  | some c =>
    rw [e] at hz
    obtain rfl := Option.some.inj hz
    exact (h i x c hx e).1
theorem Dl.nought {cs g : List Rat} (h : Dl cs g 0) : g = zeros cs := (leAll_eq h.lo (by rw [zeros_sum, h.sum])).symm
theorem Dl.full {cs g : List Rat} (h : Dl cs g (qsum cs)) : g = cs := leAll_eq h.hi h.sum
theorem qsum_nonneg : ∀ {xs : List Rat}, (∀ x ∈ xs, 0 ≤ x) → 0 ≤ qsum xs
  | [], _ => Rat.le_refl
  | x :: xs, h => by
    have := h x List.mem_cons_self
    have := qsum_nonneg (xs := xs) fun y hy => h y (List.mem_cons_of_mem _ hy)
    show 0 ≤ x + qsum xs
    grind
theorem qsum_reverse : ∀ xs : List Rat, qsum xs.reverse = qsum xs
  | [] => rfl
  | x :: xs => by
    rw [List.reverse_cons, qsum_append, qsum_reverse xs]
    show qsum xs + (x + 0) = x + qsum xs
    grind
theorem qsum_map_mul (k : Rat) : ∀ xs : List Rat, qsum (xs.map fun x => x * k) = qsum xs * k
  | [] => (Rat.zero_mul k).symm
  | x :: xs => by
    show x * k + qsum (xs.map fun x => x * k) = (x + qsum xs) * k
    rw [qsum_map_mul k xs, Rat.add_mul]
theorem qsum_perm {xs ys : List Rat} (h : xs.Perm ys) : qsum xs = qsum ys := by
  induction h with
  | nil => rfl
  | cons x _ ih => show x + _ = x + _; rw [ih]
  | swap x y l => show y + (x + qsum l) = x + (y + qsum l); grind
  | trans _ _ h1 h2 => rw [h1, h2]
/-! #### one behind the other -/
def rowD : List Rat → Rat → List Rat
  | [], _ => []
  | c :: r, q => (if q < c then q else c) :: rowD r (q - if q < c then q else c)
/-- the same, claim by claim -/
def clip (c q : Rat) : Rat := if q < 0 then 0 else if c < q then c else q
def fillD : Rat → List Rat → Rat → List Rat
  | _, [], _ => []
  | a, c :: r, q => clip c (q - a) :: fillD (a + c) r q
theorem clip_b {c q : Rat} (h : 0 ≤ c) : 0 ≤ clip c q ∧ clip c q ≤ c := by
  unfold clip
  split
  · exact ⟨Rat.le_refl, h⟩
  · split
    · exact ⟨h, Rat.le_refl⟩
    · constructor <;> grind
theorem clip_mono {c p q : Rat} (h : 0 ≤ c) (e : p ≤ q) : clip c p ≤ clip c q := by
  unfold clip
  split <;> split <;> (try split) <;> (try split) <;> grind
theorem clip_turn {c q : Rat} (h : 0 ≤ c) : clip c (c - q) = c - clip c q := by
  unfold clip
  split <;> split <;> (try split) <;> (try split) <;> grind
theorem fillD_len : ∀ (cs : List Rat) (a q : Rat), (fillD a cs q).length = cs.length
  | [], _, _ => rfl
  | c :: r, a, q => congrArg (· + 1) (fillD_len r (a + c) q)
theorem fillD_low : ∀ (cs : List Rat) (a q : Rat), (∀ c ∈ cs, 0 ≤ c) → q ≤ a → qsum (fillD a cs q) = 0
  | [], _, _, _, _ => rfl
  | c :: r, a, q, h, hq => by
    have hc := h c List.mem_cons_self
    show clip c (q - a) + qsum (fillD (a + c) r q) = 0
    rw [fillD_low r (a + c) q (fun x hx => h x (List.mem_cons_of_mem _ hx)) (by grind)]
    unfold clip
    split <;> grind
theorem fillD_sum : ∀ (cs : List Rat) (a q : Rat), (∀ c ∈ cs, 0 ≤ c) → a ≤ q → q ≤ a + qsum cs → qsum (fillD a cs q) = q - a
  | [], a, q, _, h1, h2 => by
    have h2' : q ≤ a + 0 := h2
    show (0 : Rat) = q - a
    grind
  | c :: r, a, q, h, h1, h2 => by
    have hc := h c List.mem_cons_self
    have hr : ∀ x ∈ r, 0 ≤ x := fun x hx => h x (List.mem_cons_of_mem _ hx)
    have h2' : q ≤ a + (c + qsum r) := h2
    show clip c (q - a) + qsum (fillD (a + c) r q) = q - a
    by_cases z : q ≤ a + c
    · rw [fillD_low r (a + c) q hr z]
      unfold clip
      split <;> (try split) <;> grind
    · rw [fillD_sum r (a + c) q hr (by grind) (by grind)]
      unfold clip
      split <;> (try split) <;> grind
theorem fillD_at : ∀ (cs : List Rat) (a q : Rat) (i : Nat) (x : Rat), (fillD a cs q)[i]? = some x → ∃ c, cs[i]? = some c ∧ x = clip c (q - (a + qsum (cs.take i)))
  | [], _, _, i, x, h => by simp [fillD] at h
  | c :: r, a, q, 0, x, h => by
    obtain rfl := Option.some.inj h
    exact ⟨c, rfl, by show clip c (q - a) = clip c (q - (a + 0)); rw [Rat.add_zero]⟩
  | c :: r, a, q, i + 1, x, h => by
    obtain ⟨d, h1, h2⟩ := fillD_at r (a + c) q i x h
    refine ⟨d, h1, ?_⟩
    rw [h2]
    show clip d (q - (a + c + qsum (r.take i))) = clip d (q - (a + (c + qsum (r.take i))))
    rw [Rat.add_assoc]
theorem rowD_fill : ∀ (cs : List Rat) (a q l : Rat), (∀ c ∈ cs, 0 ≤ c) → l = (if q - a < 0 then 0 else q - a) → rowD cs l = fillD a cs q
  | [], _, _, _, _, _ => rfl
  | c :: r, a, q, l, h, hl => by
    have hc := h c List.mem_cons_self
    show (if l < c then l else c) :: rowD r (l - if l < c then l else c) = clip c (q - a) :: fillD (a + c) r q
    have e1 : (if l < c then l else c) = clip c (q - a) := by
      rw [hl]
      unfold clip
      split <;> split <;> (try split) <;> grind
    rw [rowD_fill r (a + c) q _ (fun x hx => h x (List.mem_cons_of_mem _ hx)), e1]
    rw [e1, hl]
    unfold clip
    split <;> (try split) <;> (try split) <;> grind
theorem rowD_is {cs : List Rat} {q : Rat} (h : ∀ c ∈ cs, 0 ≤ c) (hq : 0 ≤ q) : rowD cs q = fillD 0 cs q := rowD_fill cs 0 q q h (by rw [if_neg (by grind)]; grind)
theorem rowD_ok {cs : List Rat} {q : Rat} (h : ∀ c ∈ cs, 0 ≤ c) (h0 : 0 ≤ q) (h1 : q ≤ qsum cs) : Dl cs (rowD cs q) q := by
  rw [rowD_is h h0]
  refine Dl.of (fillD_len cs 0 q) (fun i x c hx hc => ?_) (by rw [fillD_sum cs 0 q h h0 (by grind)]; grind)
  obtain ⟨d, h1, rfl⟩ := fillD_at cs 0 q i x hx
  rw [hc] at h1
  obtain rfl := Option.some.inj h1
  exact clip_b (h c (List.mem_of_getElem? hc))
theorem rowD_mono {cs : List Rat} {p q : Rat} (h : ∀ c ∈ cs, 0 ≤ c) (h0 : 0 ≤ p) (h1 : p ≤ q) : leAll (rowD cs p) (rowD cs q) := by
  rw [rowD_is h h0, rowD_is h (by grind)]
  refine leAll_of (by rw [fillD_len, fillD_len]) fun i x y hx hy => ?_
  obtain ⟨c, hc, rfl⟩ := fillD_at cs 0 p i x hx
  obtain ⟨d, hd, rfl⟩ := fillD_at cs 0 q i y hy
  rw [hc] at hd
  obtain rfl := Option.some.inj hd
  exact clip_mono (h c (List.mem_of_getElem? hc)) (by grind)
/-! #### orders by insertion -/
def insF (le : Nat → Nat → Bool) (x : Nat) : List Nat → List Nat
  | [] => [x]
  | y :: r => if le y x then y :: insF le x r else x :: y :: r
def byF (le : Nat → Nat → Bool) (n : Nat) : List Nat := (List.range n).foldl (fun s x => insF le x s) []
theorem insF_perm (le : Nat → Nat → Bool) (x : Nat) : ∀ s : List Nat, (insF le x s).Perm (x :: s)
  | [] => List.Perm.refl _
  | y :: r => by
    unfold insF
    split
    · exact ((insF_perm le x r).cons y).trans (List.Perm.swap x y r)
    · exact List.Perm.refl _
theorem insF_sorted {le : Nat → Nat → Bool} {x : Nat} (ok : Nat → Prop) (tr : ∀ a b c, ok a → ok b → ok c → le a b = true → le b c = true → le a c = true) (tot : ∀ a b, le a b = false → le b a = true) (hx : ok x) :
    ∀ s : List Nat, (∀ y ∈ s, ok y) → s.Pairwise (fun a b => le a b = true) → (insF le x s).Pairwise (fun a b => le a b = true)
  | [], _, _ => List.pairwise_singleton _ _
  | y :: r, hs, h => by
    have hy := hs y List.mem_cons_self
    obtain ⟨h1, h2⟩ := List.pairwise_cons.mp h
    unfold insF
    split
    · rename_i z
      refine List.pairwise_cons.mpr ⟨fun b hb => ?_, insF_sorted ok tr tot hx r (fun a ha => hs a (List.mem_cons_of_mem _ ha)) h2⟩
      rcases List.mem_cons.mp ((insF_perm le x r).mem_iff.mp hb) with rfl | hb
      · exact z
      · exact h1 b hb
    · rename_i z
      have z' := tot y x (by simpa using z)
      refine List.pairwise_cons.mpr ⟨fun b hb => ?_, h⟩
      rcases List.mem_cons.mp hb with rfl | hb
      · exact z'
      · exact tr x y b hx hy (hs b (List.mem_cons_of_mem _ hb)) z' (h1 b hb)
theorem byF_succ (le : Nat → Nat → Bool) (n : Nat) : byF le (n + 1) = insF le n (byF le n) := by
  unfold byF
  rw [List.range_succ, List.foldl_append]
  rfl
theorem byF_perm (le : Nat → Nat → Bool) : ∀ n, (byF le n).Perm (List.range n)
  | 0 => List.Perm.refl _
  | n + 1 => by
    rw [byF_succ, List.range_succ]
    exact (insF_perm le n _).trans (((byF_perm le n).cons n).trans (by
      have := List.perm_append_comm (l₁ := [n]) (l₂ := List.range n)
      exact this))
theorem byF_sorted {le : Nat → Nat → Bool} (ok : Nat → Prop) (tr : ∀ a b c, ok a → ok b → ok c → le a b = true → le b c = true → le a c = true) (tot : ∀ a b, le a b = false → le b a = true) : ∀ n, (∀ i, i < n → ok i) → (byF le n).Pairwise (fun a b => le a b = true)
  | 0, _ => List.Pairwise.nil
  | n + 1, h => by
    rw [byF_succ]
    refine insF_sorted ok tr tot (h n (Nat.lt_succ_self n)) _ (fun y hy => h y ?_) (byF_sorted ok tr tot n fun i hi => h i (Nat.lt_succ_of_lt hi))
    have := List.mem_range.mp ((byF_perm le n).mem_iff.mp hy)
    omega
theorem byF_len (le : Nat → Nat → Bool) (n : Nat) : (byF le n).length = n := by rw [(byF_perm le n).length_eq, List.length_range]
/-! #### levels -/
def lvl (w c l : Rat) : Rat := if w * l < c then w * l else c
def lvls (ws cs : List Rat) (l : Rat) : List Rat := List.zipWith (fun w c => lvl w c l) ws cs
theorem lvl_b {w c l : Rat} (hw : 0 < w) (hc : 0 ≤ c) (hl : 0 ≤ l) : 0 ≤ lvl w c l ∧ lvl w c l ≤ c := by
  have := Rat.mul_nonneg (Rat.le_of_lt hw) hl
  unfold lvl
  split <;> constructor <;> grind
theorem lvl_mono {w c l m : Rat} (hw : 0 < w) (h : l ≤ m) : lvl w c l ≤ lvl w c m := by
  have := Rat.mul_le_mul_of_nonneg_left h (Rat.le_of_lt hw)
  unfold lvl
  split <;> split <;> grind
theorem lvls_at {ws cs : List Rat} {l x : Rat} {i : Nat} (h : (lvls ws cs l)[i]? = some x) : ∃ w c, ws[i]? = some w ∧ cs[i]? = some c ∧ x = lvl w c l := by
  unfold lvls at h
  rw [List.getElem?_zipWith] at h
  cases h1 : ws[i]? with
  | none => rw [h1] at h; simp at h
  | some w =>
    cases h2 : cs[i]? with
    | none => rw [h1, h2] at h; simp at h
    | some c =>
      rw [h1, h2] at h
      exact ⟨w, c, rfl, rfl, (Option.some.inj h).symm⟩
theorem lvls_of {ws cs : List Rat} {l w c : Rat} {i : Nat} (h1 : ws[i]? = some w) (h2 : cs[i]? = some c) : (lvls ws cs l)[i]? = some (lvl w c l) := by
  unfold lvls
  rw [List.getElem?_zipWith, h1, h2]
theorem lvls_len {ws cs : List Rat} {l : Rat} (h : ws.length = cs.length) : (lvls ws cs l).length = cs.length := by
  unfold lvls
  rw [List.length_zipWith, h, Nat.min_self]
theorem lvls_mono {ws cs : List Rat} {l m : Rat} (hw : ∀ w ∈ ws, 0 < w) (hl : ws.length = cs.length) (h : l ≤ m) : leAll (lvls ws cs l) (lvls ws cs m) := by
  refine leAll_of (by rw [lvls_len hl, lvls_len hl]) fun i x y hx hy => ?_
  obtain ⟨w, c, h1, h2, rfl⟩ := lvls_at hx
  obtain ⟨w', c', h3, h4, rfl⟩ := lvls_at hy
  rw [h1] at h3
  rw [h2] at h4
  obtain rfl := Option.some.inj h3
  obtain rfl := Option.some.inj h4
  exact lvl_mono (hw w (List.mem_of_getElem? h1)) h
theorem lvls_order {ws cs : List Rat} {l m : Rat} (hw : ∀ w ∈ ws, 0 < w) (hl : ws.length = cs.length) (h : qsum (lvls ws cs l) ≤ qsum (lvls ws cs m)) : leAll (lvls ws cs l) (lvls ws cs m) := by
  rcases Rat.le_total (a := l) (b := m) with e | e
  · exact lvls_mono hw hl e
  · have a := lvls_mono (cs := cs) hw hl e
    have s := leAll_sum a
    rw [leAll_eq a (by grind)]
    exact leAll_refl _
theorem lvls_uniq {ws cs : List Rat} {l m : Rat} (hw : ∀ w ∈ ws, 0 < w) (hl : ws.length = cs.length) (h : qsum (lvls ws cs l) = qsum (lvls ws cs m)) : lvls ws cs l = lvls ws cs m :=
  leAll_eq (lvls_order hw hl (by rw [h]; exact Rat.le_refl)) h
/-- the program's way to the level -/
def gD (xs : List Rat) (i : Nat) : Rat := xs.getD i 0
def fullLe (ws cs : List Rat) (i j : Nat) : Bool := decide (gD cs i * gD ws j ≤ gD cs j * gD ws i)
def fillAll (ws : List Rat) (l : Rat) (s : List Rat) (ps : List Nat) : List Rat := ps.foldl (fun s o => s.set o (gD ws o * l)) s
def evenGo (ws cs : List Rat) : List Nat → Rat → Rat → List Rat → List Rat
  | [], _, _, s => s
  | p :: r, left, rest, s => if gD ws p * left < gD cs p * rest then fillAll ws (left / rest) s (p :: r) else evenGo ws cs r (left - gD cs p) (rest - gD ws p) s
def evenD (ws cs : List Rat) (q : Rat) : List Rat := evenGo ws cs (byF (fullLe ws cs) cs.length) q (qsum ws) cs
theorem fillAll_len (ws : List Rat) (l : Rat) : ∀ (ps : List Nat) (s : List Rat), (fillAll ws l s ps).length = s.length
  | [], s => rfl
  | p :: r, s => by
    show (fillAll ws l (s.set p _) r).length = _
    rw [fillAll_len ws l r, List.length_set]
theorem fillAll_at (ws : List Rat) (l : Rat) : ∀ (ps : List Nat) (s : List Rat) (i : Nat), i < s.length → (fillAll ws l s ps)[i]? = if i ∈ ps then some (gD ws i * l) else s[i]?
  | [], s, i, _ => by rw [if_neg (by simp)]; rfl
  | p :: r, s, i, hi => by
    show (fillAll ws l (s.set p _) r)[i]? = _
    rw [fillAll_at ws l r _ i (by rw [List.length_set]; exact hi)]
    by_cases h1 : i ∈ r
    · rw [if_pos h1, if_pos (List.mem_cons_of_mem _ h1)]
    · rw [if_neg h1]
      by_cases h2 : i = p
      · subst h2
        rw [if_pos List.mem_cons_self, List.getElem?_set_self hi]
      · rw [if_neg (by
          intro z
          rcases List.mem_cons.mp z with z | z
          · exact h2 z
          · exact h1 z), List.getElem?_set_ne (fun z => h2 z.symm)]
def psum (f : Nat → Rat) (ps : List Nat) : Rat := qsum (ps.map f)
theorem psum_cons (f : Nat → Rat) (p : Nat) (r : List Nat) : psum f (p :: r) = f p + psum f r := rfl
theorem psum_mul (f : Nat → Rat) (k : Rat) (ps : List Nat) : psum (fun p => f p * k) ps = psum f ps * k := by
  unfold psum
  rw [← qsum_map_mul, List.map_map]
  rfl
theorem psum_congr {f g : Nat → Rat} {ps : List Nat} (h : ∀ p ∈ ps, f p = g p) : psum f ps = psum g ps := by
  unfold psum
  rw [List.map_congr_left h]
theorem psum_pos {f : Nat → Rat} : ∀ {ps : List Nat}, (∀ p ∈ ps, 0 < f p) → ps ≠ [] → 0 < psum f ps
  | [], _, h => absurd rfl h
  | [p], h, _ => by
    have := h p List.mem_cons_self
    show 0 < f p + 0
    grind
  | p :: q :: r, h, _ => by
    have h1 := h p List.mem_cons_self
    have h2 := psum_pos (ps := q :: r) (fun x hx => h x (List.mem_cons_of_mem _ hx)) (by simp)
    rw [psum_cons]
    grind
theorem div_le' {a b k : Rat} (h : 0 < b) (e : a ≤ k * b) : a / b ≤ k := by
  apply Rat.not_lt.mp
  intro z
  have := Rat.mul_lt_mul_of_pos_right z h
  rw [Rat.div_mul_cancel (by grind)] at this
  grind
theorem div_nonneg' {a b : Rat} (h : 0 < b) (e : 0 ≤ a) : 0 ≤ a / b := by
  rw [Rat.div_def]
  exact Rat.mul_nonneg e (Rat.le_of_lt (Rat.inv_pos.mpr h))
theorem le_of_mul {a b k : Rat} (h : 0 < k) (e : a * k ≤ b * k) : a ≤ b := by
  apply Rat.not_lt.mp
  intro z
  have := Rat.mul_lt_mul_of_pos_right z h
  grind
theorem lt_of_mul {a b k : Rat} (h : 0 < k) (e : a * k < b * k) : a < b := by
  apply Rat.not_le.mp
  intro z
  have := Rat.mul_le_mul_of_nonneg_right z (Rat.le_of_lt h)
  grind
theorem evenGo_ok (ws cs : List Rat) (hn : ws.length = cs.length) : ∀ (ps : List Nat) (left rest : Rat) (s : List Rat), s.length = cs.length → (∀ p ∈ ps, p < cs.length ∧ 0 < gD ws p ∧ 0 ≤ gD cs p) → ps.Nodup → ps.Pairwise (fun a b => fullLe ws cs a b = true) → (∀ p ∈ ps, s[p]? = some (gD cs p)) →
    rest = psum (gD ws) ps → 0 ≤ left → left ≤ psum (gD cs) ps → ps ≠ [] →
    ∃ l, 0 ≤ l ∧ left ≤ l * rest ∧ (evenGo ws cs ps left rest s).length = cs.length ∧ (∀ i, i < cs.length → (evenGo ws cs ps left rest s)[i]? = if i ∈ ps then some (lvl (gD ws i) (gD cs i) l) else s[i]?) ∧ psum (fun p => lvl (gD ws p) (gD cs p) l) ps = left
  | [], _, _, _, _, _, _, _, _, _, _, _, h => absurd rfl h
  | p :: r, left, rest, s, hs, hp, hnd, hsort, hsat, hrest, h0, h1, _ => by
    obtain ⟨p1, p2, p3⟩ := hp p List.mem_cons_self
    have hr : ∀ x ∈ r, x < cs.length ∧ 0 < gD ws x ∧ 0 ≤ gD cs x := fun x hx => hp x (List.mem_cons_of_mem _ hx)
    obtain ⟨n1, n2⟩ := List.nodup_cons.mp hnd
    obtain ⟨s1, s2⟩ := List.pairwise_cons.mp hsort
    have hrp : 0 < rest := by
      rw [hrest]
      exact psum_pos (fun x hx => (hp x hx).2.1) (by simp)
    rw [psum_cons] at h1
    have hrest' : rest = gD ws p + psum (gD ws) r := hrest
    unfold evenGo
    by_cases hstop : gD ws p * left < gD cs p * rest
    · rw [if_pos hstop]
      have e0 : left / rest * rest = left := Rat.div_mul_cancel (by grind)
      have hl0 : 0 ≤ left / rest := div_nonneg' hrp h0
      have key : ∀ x ∈ p :: r, gD ws x * (left / rest) < gD cs x := fun x hx => by
        obtain ⟨x1, x2, x3⟩ := hp x hx
        have hpx : gD ws p * (left / rest) < gD cs p := lt_of_mul hrp (by rw [Rat.mul_assoc, e0]; exact hstop)
        rcases List.mem_cons.mp hx with rfl | hxr
        · exact hpx
        · have hle : gD cs p * gD ws x ≤ gD cs x * gD ws p := of_decide_eq_true (s1 x hxr)
          have a1 := Rat.mul_lt_mul_of_pos_right hpx x2
          exact lt_of_mul p2 (by grind)
      refine ⟨left / rest, hl0, by rw [e0]; exact Rat.le_refl, by rw [fillAll_len, hs], fun i hi => ?_, ?_⟩
      · rw [fillAll_at ws _ _ s i (by omega)]
        by_cases hm : i ∈ p :: r
        · rw [if_pos hm, if_pos hm]
          unfold lvl
          rw [if_pos (key i hm)]
        · rw [if_neg hm, if_neg hm]
      · have e : psum (fun x => lvl (gD ws x) (gD cs x) (left / rest)) (p :: r) = psum (fun x => gD ws x * (left / rest)) (p :: r) := psum_congr fun x hx => by
          unfold lvl
          rw [if_pos (key x hx)]
        rw [e, psum_mul, ← hrest, Rat.mul_comm, e0]
    · rw [if_neg hstop]
      have hfill : gD cs p * rest ≤ gD ws p * left := Rat.not_lt.mp hstop
      cases r with
      | nil =>
        have er : rest = gD ws p := by rw [hrest']; show _ + (0 : Rat) = _; grind
        have el : left = gD cs p := by
          have a : left ≤ gD cs p + 0 := h1
          rw [er] at hfill
          have := le_of_mul p2 (a := gD cs p) (b := left) (by grind)
          grind
        have e0 : gD cs p / gD ws p * gD ws p = gD cs p := Rat.div_mul_cancel (by grind)
        have ev : lvl (gD ws p) (gD cs p) (gD cs p / gD ws p) = gD cs p := by
          unfold lvl
          rw [if_neg (by grind)]
        refine ⟨gD cs p / gD ws p, div_nonneg' p2 p3, by rw [er, e0, el]; exact Rat.le_refl, hs, fun i hi => ?_, ?_⟩
        · show s[i]? = _
          by_cases hm : i = p
          · subst hm
            rw [if_pos List.mem_cons_self, hsat i List.mem_cons_self, ev]
          · rw [if_neg (by simpa using hm)]
        · show lvl (gD ws p) (gD cs p) _ + 0 = left
          rw [ev, el]
          grind
      | cons p' r' =>
        have hrr : 0 < rest - gD ws p := by
          have := psum_pos (f := gD ws) (ps := p' :: r') (fun x hx => (hr x hx).2.1) (by simp)
          grind
        have hlc : gD cs p ≤ left := by
          have a1 : gD ws p ≤ rest := by grind
          have a2 := Rat.mul_le_mul_of_nonneg_left a1 p3
          exact le_of_mul p2 (by grind)
        obtain ⟨l, l0, l1, l2, l3, l4⟩ := evenGo_ok ws cs hn (p' :: r') (left - gD cs p) (rest - gD ws p) s hs hr n2 s2 (fun x hx => hsat x (List.mem_cons_of_mem _ hx)) (by grind) (by grind) (by grind) (by simp)
        have hcl : gD cs p ≤ gD ws p * l := by
          -- c * (rest - w) ≤ w * (left - c) ≤ w * l * (rest - w)
          have a1 : gD cs p * (rest - gD ws p) ≤ gD ws p * (left - gD cs p) := by grind
          have a2 := Rat.mul_le_mul_of_nonneg_left l1 (Rat.le_of_lt p2)
          exact le_of_mul hrr (by grind)
        have ev : lvl (gD ws p) (gD cs p) l = gD cs p := by
          unfold lvl
          rw [if_neg (by grind)]
        refine ⟨l, l0, by grind, l2, fun i hi => ?_, by rw [psum_cons, l4, ev]; grind⟩
        rw [l3 i hi]
        by_cases hm : i ∈ p' :: r'
        · rw [if_pos hm, if_pos (List.mem_cons_of_mem _ hm)]
        · rw [if_neg hm]
          by_cases hp' : i = p
          · subst hp'
            rw [if_pos List.mem_cons_self, ev]
            exact hsat i List.mem_cons_self
          · rw [if_neg (by
              intro z
              rcases List.mem_cons.mp z with z | z
              · exact hp' z
              · exact hm z)]
theorem gD_at {xs : List Rat} {i : Nat} {x : Rat} (h : xs[i]? = some x) : gD xs i = x := by
  unfold gD
  rw [List.getD_eq_getElem?_getD, h]
  rfl
theorem at_gD {xs : List Rat} {i : Nat} (h : i < xs.length) : xs[i]? = some (gD xs i) := by
  unfold gD
  rw [List.getD_eq_getElem?_getD, List.getElem?_eq_getElem h]
  rfl
theorem qsum_range (xs : List Rat) : psum (gD xs) (List.range xs.length) = qsum xs := by
  unfold psum
  congr 1
  apply List.ext_getElem?
  intro i
  rw [List.getElem?_map]
  by_cases h : i < xs.length
  · rw [List.getElem?_range h, at_gD h]
    rfl
  · rw [List.getElem?_eq_none (by rw [List.length_range]; omega), List.getElem?_eq_none (by omega)]
    rfl
/-- weights that fit: one for each claim, above nought -/
structure WOk (ws cs : List Rat) : Prop where
  len : ws.length = cs.length
  pos : ∀ w ∈ ws, 0 < w
  nn : ∀ c ∈ cs, 0 ≤ c
theorem evenD_level {ws cs : List Rat} {q : Rat} (h : WOk ws cs) (h0 : 0 ≤ q) (h1 : q ≤ qsum cs) (hne : cs ≠ []) : ∃ l, 0 ≤ l ∧ evenD ws cs q = lvls ws cs l ∧ qsum (evenD ws cs q) = q := by
  have hpos : ∀ i, i < cs.length → 0 < gD ws i := fun i hi => h.pos _ (List.mem_of_getElem? (at_gD (by rw [h.len]; exact hi)))
  have hnn : ∀ i, i < cs.length → 0 ≤ gD cs i := fun i hi => h.nn _ (List.mem_of_getElem? (at_gD hi))
  have hperm := byF_perm (fullLe ws cs) cs.length
  have hmem : ∀ p, p ∈ byF (fullLe ws cs) cs.length ↔ p < cs.length := fun p => by rw [hperm.mem_iff, List.mem_range]
  have hsort := byF_sorted (le := fullLe ws cs) (fun i => i < cs.length) (fun a b c ha hb hc h1 h2 => by
    have e1 : gD cs a * gD ws b ≤ gD cs b * gD ws a := of_decide_eq_true h1
    have e2 : gD cs b * gD ws c ≤ gD cs c * gD ws b := of_decide_eq_true h2
    refine decide_eq_true (le_of_mul (hpos b hb) ?_)
    have f1 := Rat.mul_le_mul_of_nonneg_right e1 (Rat.le_of_lt (hpos c hc))
    have f2 := Rat.mul_le_mul_of_nonneg_right e2 (Rat.le_of_lt (hpos a ha))
    grind) (fun a b h1 => by
    have e1 := of_decide_eq_false h1
    exact decide_eq_true (Rat.le_of_lt (Rat.not_le.mp e1))) cs.length fun i hi => hi
  have hsum : ∀ f : Nat → Rat, psum f (byF (fullLe ws cs) cs.length) = psum f (List.range cs.length) := fun f => qsum_perm (hperm.map f)
  obtain ⟨l, l0, _, l2, l3, l4⟩ := evenGo_ok ws cs h.len (byF (fullLe ws cs) cs.length) q (qsum ws) cs rfl (fun p hp => ⟨(hmem p).mp hp, hpos p ((hmem p).mp hp), hnn p ((hmem p).mp hp)⟩) (hperm.nodup_iff.mpr List.nodup_range) hsort (fun p hp => at_gD ((hmem p).mp hp)) (by rw [hsum, ← h.len, qsum_range]) h0 (by rw [hsum, qsum_range]; exact h1) (fun z => by
    have := byF_len (fullLe ws cs) cs.length
    rw [z] at this
    exact hne (List.eq_nil_of_length_eq_zero this.symm))
  have he : evenD ws cs q = lvls ws cs l := by
    apply List.ext_getElem?
    intro i
    by_cases hi : i < cs.length
    · show (evenGo ws cs _ q (qsum ws) cs)[i]? = _
      rw [l3 i hi, if_pos ((hmem i).mpr hi), lvls_of (at_gD (by rw [h.len]; exact hi)) (at_gD hi)]
    · rw [List.getElem?_eq_none (by show (evenGo ws cs _ q (qsum ws) cs).length ≤ i; rw [l2]; omega), List.getElem?_eq_none (by rw [lvls_len h.len]; omega)]
  refine ⟨l, l0, he, ?_⟩
  rw [he, ← l4, hsum, ← qsum_range (lvls ws cs l), lvls_len h.len]
  refine psum_congr fun i hi => ?_
  have hi' := List.mem_range.mp hi
  exact gD_at (lvls_of (at_gD (by rw [h.len]; exact hi')) (at_gD hi'))
theorem evenD_ok {ws cs : List Rat} {q : Rat} (h : WOk ws cs) (h0 : 0 ≤ q) (h1 : q ≤ qsum cs) (hne : cs ≠ []) : Dl cs (evenD ws cs q) q := by
  obtain ⟨l, l0, e, s⟩ := evenD_level h h0 h1 hne
  refine Dl.of (by rw [e, lvls_len h.len]) (fun i x c hx hc => ?_) s
  rw [e] at hx
  obtain ⟨w, d, h2, h3, rfl⟩ := lvls_at hx
  rw [hc] at h3
  obtain rfl := Option.some.inj h3
  exact lvl_b (h.pos w (List.mem_of_getElem? h2)) (h.nn c (List.mem_of_getElem? hc)) l0
theorem evenD_mono {ws cs : List Rat} {p q : Rat} (h : WOk ws cs) (h0 : 0 ≤ p) (h2 : p ≤ q) (h1 : q ≤ qsum cs) (hne : cs ≠ []) : leAll (evenD ws cs p) (evenD ws cs q) := by
  obtain ⟨l, _, e, s⟩ := evenD_level (q := p) h h0 (by grind) hne
  obtain ⟨m, _, e', s'⟩ := evenD_level (q := q) h (by grind) h1 hne
  rw [e] at s ⊢
  rw [e'] at s' ⊢
  exact lvls_order h.pos h.len (by rw [s, s']; exact h2)
/-- with a known level -/
theorem evenD_of {ws cs : List Rat} {l : Rat} (h : WOk ws cs) (l0 : 0 ≤ l) (hne : cs ≠ []) : evenD ws cs (qsum (lvls ws cs l)) = lvls ws cs l := by
  have b : Dl cs (lvls ws cs l) (qsum (lvls ws cs l)) := Dl.of (lvls_len h.len) (fun i x c hx hc => by
    obtain ⟨w, d, h2, h3, rfl⟩ := lvls_at hx
    rw [hc] at h3
    obtain rfl := Option.some.inj h3
    exact lvl_b (h.pos w (List.mem_of_getElem? h2)) (h.nn c (List.mem_of_getElem? hc)) l0) rfl
  have s0 := leAll_sum b.lo
  have s1 := leAll_sum b.hi
  rw [zeros_sum] at s0
  obtain ⟨m, _, e, s⟩ := evenD_level h s0 s1 hne
  rw [e] at s ⊢
  exact lvls_uniq h.pos h.len s
/-! #### what lacks -/
def lackD (cs gs : List Rat) : List Rat := List.zipWith (fun c g => c - g) cs gs
theorem lackD_at {cs gs : List Rat} {i : Nat} {x : Rat} (h : (lackD cs gs)[i]? = some x) : ∃ c g, cs[i]? = some c ∧ gs[i]? = some g ∧ x = c - g := by
  unfold lackD at h
  rw [List.getElem?_zipWith] at h
  cases h1 : cs[i]? with
  | none => rw [h1] at h; simp at h
  | some c =>
    cases h2 : gs[i]? with
    | none => rw [h1, h2] at h; simp at h
    | some g =>
      rw [h1, h2] at h
      exact ⟨c, g, rfl, rfl, (Option.some.inj h).symm⟩
theorem lackD_of {cs gs : List Rat} {i : Nat} {c g : Rat} (h1 : cs[i]? = some c) (h2 : gs[i]? = some g) : (lackD cs gs)[i]? = some (c - g) := by
  unfold lackD
  rw [List.getElem?_zipWith, h1, h2]
theorem lackD_len {cs gs : List Rat} (h : gs.length = cs.length) : (lackD cs gs).length = cs.length := by
  unfold lackD
  rw [List.length_zipWith, h, Nat.min_self]
theorem lackD_sum : ∀ {cs gs : List Rat}, gs.length = cs.length → qsum (lackD cs gs) = qsum cs - qsum gs
  | [], [], _ => by show (0 : Rat) = 0 - 0; rw [Rat.sub_self]
  | c :: cs, g :: gs, h => by
    show c - g + qsum (lackD cs gs) = c + qsum cs - (g + qsum gs)
    rw [lackD_sum (Nat.succ.inj h)]
    grind
  | [], g :: gs, h => absurd h (by simp)
  | c :: cs, [], h => absurd h (by simp)
theorem lackD_lackD : ∀ {cs gs : List Rat}, gs.length = cs.length → lackD cs (lackD cs gs) = gs
  | [], [], _ => rfl
  | c :: cs, g :: gs, h => by
    show (c - (c - g)) :: lackD cs (lackD cs gs) = g :: gs
    rw [lackD_lackD (Nat.succ.inj h)]
    congr 1
    grind
  | [], g :: gs, h => absurd h (by simp)
  | c :: cs, [], h => absurd h (by simp)
theorem lackD_ok {cs gs : List Rat} {q : Rat} (h : Dl cs gs q) : Dl cs (lackD cs gs) (qsum cs - q) := by
  refine Dl.of (lackD_len h.len) (fun i x c hx hc => ?_) (by rw [lackD_sum h.len, h.sum])
  obtain ⟨d, g, h1, h2, rfl⟩ := lackD_at hx
  rw [hc] at h1
  obtain rfl := Option.some.inj h1
  obtain ⟨b1, b2⟩ := h.get h2 hc
  constructor <;> grind
theorem lackD_mono : ∀ {cs gs hs : List Rat}, gs.length = cs.length → leAll gs hs → leAll (lackD cs hs) (lackD cs gs)
  | [], [], [], _, _ => trivial
  | c :: cs, g :: gs, h :: hs, hl, e => ⟨by have := e.1; show c - h ≤ c - g; grind, lackD_mono (Nat.succ.inj hl) e.2⟩
  | [], g :: gs, _, hl, _ => absurd hl (by simp)
  | c :: cs, [], _, hl, _ => absurd hl (by simp)
  | _, [], h :: hs, _, e => e.elim
  | _, g :: gs, [], _, e => e.elim
/-! #### parts, halves -/
def partD (cs : List Rat) (q : Rat) : List Rat := if qsum cs = 0 then zeros cs else cs.map fun c => c / qsum cs * q
theorem qsum_zero : ∀ {cs : List Rat}, (∀ c ∈ cs, 0 ≤ c) → qsum cs = 0 → ∀ c ∈ cs, c = 0
  | [], _, _, c, h => nomatch h
  | x :: xs, hn, hs, c, h => by
    have a1 := hn x List.mem_cons_self
    have hr : ∀ c ∈ xs, 0 ≤ c := fun c hc => hn c (List.mem_cons_of_mem _ hc)
    have a2 := qsum_nonneg hr
    have hs' : x + qsum xs = 0 := hs
    rcases List.mem_cons.mp h with rfl | h
    · grind
    · exact qsum_zero hr (by grind) c h
theorem partD_map {cs : List Rat} {q : Rat} (hn : ∀ c ∈ cs, 0 ≤ c) : partD cs q = cs.map fun c => c * (q / qsum cs) := by
  unfold partD
  split
  · rename_i h
    unfold zeros
    exact List.map_congr_left fun c hc => by rw [qsum_zero hn h c hc, Rat.zero_mul]
  · exact List.map_congr_left fun c _ => by rw [Rat.div_def, Rat.div_def, Rat.mul_assoc, Rat.mul_comm q]
theorem partD_ok {cs : List Rat} {q : Rat} (hn : ∀ c ∈ cs, 0 ≤ c) (h0 : 0 ≤ q) (h1 : q ≤ qsum cs) : Dl cs (partD cs q) q := by
  rw [partD_map hn]
  have hw := qsum_nonneg hn
  by_cases hz : qsum cs = 0
  · have hq : q = 0 := by grind
    have e : cs.map (fun c => c * (q / qsum cs)) = zeros cs := by
      unfold zeros
      exact List.map_congr_left fun c hc => by rw [qsum_zero hn hz c hc, Rat.zero_mul]
    rw [e, hq]
    refine Dl.of (by unfold zeros; rw [List.length_map]) (fun i x c hx hc => ?_) (zeros_sum cs)
    unfold zeros at hx
    rw [List.getElem?_map, hc] at hx
    obtain rfl := Option.some.inj hx
    exact ⟨Rat.le_refl, hn c (List.mem_of_getElem? hc)⟩
  · have hp : 0 < qsum cs := by grind
    have t0 := div_nonneg' hp h0
    have t1 : q / qsum cs ≤ 1 := div_le' hp (by grind)
    refine Dl.of (by rw [List.length_map]) (fun i x c hx hc => ?_) (by rw [qsum_map_mul, Rat.mul_comm, Rat.div_mul_cancel hz])
    rw [List.getElem?_map, hc] at hx
    obtain rfl := Option.some.inj hx
    have c0 := hn c (List.mem_of_getElem? hc)
    have a2 := Rat.mul_le_mul_of_nonneg_left t1 c0
    exact ⟨Rat.mul_nonneg c0 t0, by grind⟩
theorem partD_mono {cs : List Rat} {p q : Rat} (hn : ∀ c ∈ cs, 0 ≤ c) (h : p ≤ q) : leAll (partD cs p) (partD cs q) := by
  rw [partD_map hn, partD_map hn]
  refine leAll_of (by rw [List.length_map, List.length_map]) fun i x y hx hy => ?_
  rw [List.getElem?_map] at hx hy
  cases e : cs[i]? with
  | none => rw [e] at hx; cases hx
  | some c =>
    rw [e] at hx hy
    obtain rfl := Option.some.inj hx
    obtain rfl := Option.some.inj hy
    refine Rat.mul_le_mul_of_nonneg_left ?_ (hn c (List.mem_of_getElem? e))
    rw [Rat.div_def, Rat.div_def]
    have hw := qsum_nonneg hn
    have hi : 0 ≤ (qsum cs)⁻¹ := by
      by_cases hz : qsum cs = 0
      · rw [hz, Rat.inv_zero]; exact Rat.le_refl
      · exact Rat.le_of_lt (Rat.inv_pos.mpr (by grind))
    exact Rat.mul_le_mul_of_nonneg_right h hi
def ones (cs : List Rat) : List Rat := cs.map fun _ => 1
def hv (xs : List Rat) : List Rat := xs.map fun x => 1 / 2 * x
def halfD (cs : List Rat) (q : Rat) : List Rat := if qsum cs < q + q then lackD cs (hv (evenD (ones cs) cs (qsum cs + qsum cs - (q + q)))) else hv (evenD (ones cs) cs (q + q))
theorem ones_ok {cs : List Rat} (hn : ∀ c ∈ cs, 0 ≤ c) : WOk (ones cs) cs := ⟨by unfold ones; rw [List.length_map], fun w hw => by
  obtain ⟨_, _, rfl⟩ := List.mem_map.mp hw
  decide, hn⟩
theorem hv_sum (xs : List Rat) : qsum (hv xs) = 1 / 2 * qsum xs := by
  have := qsum_map_mul (1 / 2) xs
  rw [Rat.mul_comm, ← this]
  unfold hv
  congr 1
  exact List.map_congr_left fun x _ => Rat.mul_comm _ _
theorem hv_at {xs : List Rat} {i : Nat} {x : Rat} (h : (hv xs)[i]? = some x) : ∃ y, xs[i]? = some y ∧ x = 1 / 2 * y := by
  unfold hv at h
  rw [List.getElem?_map] at h
  cases e : xs[i]? with
  | none => rw [e] at h; cases h
  | some y => rw [e] at h; exact ⟨y, rfl, (Option.some.inj h).symm⟩
theorem hv_len (xs : List Rat) : (hv xs).length = xs.length := List.length_map _
theorem half_dl {cs g : List Rat} {q : Rat} (hn : ∀ c ∈ cs, 0 ≤ c) (h : Dl cs g (q + q)) : Dl cs (hv g) q := by
  refine Dl.of (by rw [hv_len, h.len]) (fun i x c hx hc => ?_) (by rw [hv_sum, h.sum]; grind)
  obtain ⟨y, hy, rfl⟩ := hv_at hx
  obtain ⟨b1, b2⟩ := h.get hy hc
  have := hn c (List.mem_of_getElem? hc)
  constructor <;> grind
theorem halfD_ok {cs : List Rat} {q : Rat} (hn : ∀ c ∈ cs, 0 ≤ c) (h0 : 0 ≤ q) (h1 : q ≤ qsum cs) (hne : cs ≠ []) : Dl cs (halfD cs q) q := by
  unfold halfD
  split
  · rename_i h
    have e := evenD_ok (q := qsum cs + qsum cs - (q + q)) (ones_ok hn) (by grind) (by grind) hne
    have e' := half_dl (q := qsum cs - q) hn (by rw [show qsum cs - q + (qsum cs - q) = qsum cs + qsum cs - (q + q) by grind]; exact e)
    have := lackD_ok e'
    rw [show qsum cs - (qsum cs - q) = q by grind] at this
    exact this
  · exact half_dl hn (evenD_ok (ones_ok hn) (by grind) (by grind) hne)
theorem hv_mono : ∀ {xs ys : List Rat}, leAll xs ys → leAll (hv xs) (hv ys)
  | [], [], _ => trivial
  | x :: xs, y :: ys, h => ⟨by have := h.1; show 1 / 2 * x ≤ 1 / 2 * y; grind, hv_mono h.2⟩
  | [], y :: ys, h => h.elim
  | x :: xs, [], h => h.elim
theorem halfD_mono {cs : List Rat} {p q : Rat} (hn : ∀ c ∈ cs, 0 ≤ c) (h0 : 0 ≤ p) (h2 : p ≤ q) (h1 : q ≤ qsum cs) (hne : cs ≠ []) : leAll (halfD cs p) (halfD cs q) := by
  have ho := ones_ok hn
  unfold halfD
  split
  · rename_i hp
    rw [if_pos (by grind)]
    have el : (hv (evenD (ones cs) cs (qsum cs + qsum cs - (q + q)))).length = cs.length := by rw [hv_len, (evenD_ok ho (by grind) (by grind) hne).len]
    exact lackD_mono el (hv_mono (evenD_mono ho (by grind) (by grind) (by grind) hne))
  · rename_i hp
    split
    · rename_i hq
      have d1 := evenD_ok (q := p + p) ho (by grind) (by grind) hne
      have d2 := evenD_ok (q := qsum cs + qsum cs - (q + q)) ho (by grind) (by grind) hne
      refine leAll_of (by rw [hv_len, d1.len, lackD_len (by rw [hv_len, d2.len])]) fun i x y hx hy => ?_
      obtain ⟨a, ha, rfl⟩ := hv_at hx
      obtain ⟨c, g, hc, hg, rfl⟩ := lackD_at hy
      obtain ⟨b, hb, rfl⟩ := hv_at hg
      have e1 := (d1.get ha hc).2
      have e2 := (d2.get hb hc).2
      grind
    · exact hv_mono (evenD_mono ho (by grind) (by grind) (by grind) hne)
/-! #### the six ways -/
inductive Wy where
  | row | back | even | lack | part | half
deriving DecidableEq
def Wy.s : Wy → Str
  | .row => "row" | .back => "back" | .even => "even" | .lack => "lack" | .part => "part" | .half => "half"
def Wy.con : Wy → Wy
  | .row => .back | .back => .row | .even => .lack | .lack => .even | .part => .part | .half => .half
theorem Wy.con_con (y : Wy) : y.con.con = y := by cases y <;> rfl
/-- has weights -/
def Wy.wd : Wy → Bool
  | .even | .lack => true
  | _ => false
def dealOf (y : Wy) (ws cs : List Rat) (q : Rat) : List Rat :=
  match y with
  | .row => rowD cs q
  | .back => (rowD cs.reverse q).reverse
  | .even => evenD ws cs q
  | .lack => lackD cs (evenD ws cs (qsum cs - q))
  | .part => partD cs q
  | .half => halfD cs q
structure Fit (y : Wy) (ws cs : List Rat) : Prop where
  ne : cs ≠ []
  nn : ∀ c ∈ cs, 0 ≤ c
  wt : y.wd = true → ws.length = cs.length ∧ ∀ w ∈ ws, 0 < w
theorem Fit.ok {y : Wy} {ws cs : List Rat} (h : Fit y ws cs) (e : y.wd = true) : WOk ws cs := ⟨(h.wt e).1, (h.wt e).2, h.nn⟩
theorem Dl.rev {cs g : List Rat} {q : Rat} (h : Dl cs.reverse g q) : Dl cs g.reverse q := by
  have hl := h.len
  rw [List.length_reverse] at hl
  refine Dl.of (by rw [List.length_reverse, hl]) (fun i x c hx hc => ?_) (by rw [qsum_reverse, h.sum])
  have hi := getElem?_lt hc
  rw [List.getElem?_reverse (by omega)] at hx
  exact h.get hx (by rw [List.getElem?_reverse (by omega)]; rw [show cs.length - 1 - (g.length - 1 - i) = i by omega]; exact hc)
theorem dealOf_ok {y : Wy} {ws cs : List Rat} {q : Rat} (h : Fit y ws cs) (h0 : 0 ≤ q) (h1 : q ≤ qsum cs) : Dl cs (dealOf y ws cs q) q := by
  cases y with
  | row => exact rowD_ok h.nn h0 h1
  | back => exact (rowD_ok (cs := cs.reverse) (fun c hc => h.nn c (List.mem_reverse.mp hc)) h0 (by rw [qsum_reverse]; exact h1)).rev
  | even => exact evenD_ok (h.ok rfl) h0 h1 h.ne
  | lack =>
    have := lackD_ok (evenD_ok (q := qsum cs - q) (h.ok rfl) (by grind) (by grind) h.ne)
    rw [show qsum cs - (qsum cs - q) = q by grind] at this
    exact this
  | part => exact partD_ok h.nn h0 h1
  | half => exact halfD_ok h.nn h0 h1 h.ne
theorem leAll_rev {xs ys : List Rat} (h : leAll xs ys) : leAll xs.reverse ys.reverse := by
  have hl := leAll_len h
  refine leAll_of (by rw [List.length_reverse, List.length_reverse, hl]) fun i x y hx hy => ?_
  have hi := getElem?_lt hx
  rw [List.length_reverse] at hi
  rw [List.getElem?_reverse hi] at hx
  rw [List.getElem?_reverse (by omega), ← hl] at hy
  exact leAll_get h hx hy
theorem dealOf_mono {y : Wy} {ws cs : List Rat} {p q : Rat} (h : Fit y ws cs) (h0 : 0 ≤ p) (h2 : p ≤ q) (h1 : q ≤ qsum cs) : leAll (dealOf y ws cs p) (dealOf y ws cs q) := by
  cases y with
  | row => exact rowD_mono h.nn h0 h2
  | back => exact leAll_rev (rowD_mono (cs := cs.reverse) (fun c hc => h.nn c (List.mem_reverse.mp hc)) h0 h2)
  | even => exact evenD_mono (h.ok rfl) h0 h2 h1 h.ne
  | lack =>
    have d := evenD_ok (q := qsum cs - q) (h.ok rfl) (by grind) (by grind) h.ne
    exact lackD_mono d.len (evenD_mono (h.ok rfl) (by grind) (by grind) (by grind) h.ne)
  | part => exact partD_mono h.nn h2
  | half => exact halfD_mono h.nn h0 h2 h1 h.ne
theorem Fit.con {y : Wy} {ws cs : List Rat} (h : Fit y ws cs) : Fit y.con ws cs := ⟨h.ne, h.nn, fun e => h.wt (by cases y <;> first | rfl | exact e)⟩
theorem back_con {cs : List Rat} {q : Rat} (hn : ∀ c ∈ cs, 0 ≤ c) (h0 : 0 ≤ q) (h1 : q ≤ qsum cs) : (rowD cs.reverse q).reverse = lackD cs (rowD cs (qsum cs - q)) := by
  have hr : ∀ c ∈ cs.reverse, 0 ≤ c := fun c hc => hn c (List.mem_reverse.mp hc)
  rw [rowD_is hr h0, rowD_is hn (by grind)]
  apply List.ext_getElem?
  intro i
  by_cases hi : i < cs.length
  · rw [List.getElem?_reverse (by rw [fillD_len, List.length_reverse]; exact hi), fillD_len, List.length_reverse]
    obtain ⟨x, hx⟩ : ∃ x, (fillD 0 cs.reverse q)[cs.length - 1 - i]? = some x := ⟨_, List.getElem?_eq_getElem (by rw [fillD_len, List.length_reverse]; omega)⟩
    obtain ⟨y, hy⟩ : ∃ y, (fillD 0 cs (qsum cs - q))[i]? = some y := ⟨_, List.getElem?_eq_getElem (by rw [fillD_len]; omega)⟩
    obtain ⟨c, hc, e1⟩ := fillD_at _ _ _ _ _ hx
    obtain ⟨d, hd, e2⟩ := fillD_at _ _ _ _ _ hy
    rw [List.getElem?_reverse (by omega), show cs.length - 1 - (cs.length - 1 - i) = i by omega, hd] at hc
    obtain rfl := Option.some.inj hc
    rw [hx, lackD_of hd hy, e1, e2]
    congr 1
    have es : qsum (cs.reverse.take (cs.length - 1 - i)) = qsum cs - qsum (cs.take i) - d := by
      rw [List.take_reverse, qsum_reverse, show cs.length - (cs.length - 1 - i) = i + 1 by omega]
      have a1 : qsum cs = qsum (cs.take (i + 1)) + qsum (cs.drop (i + 1)) := by rw [← qsum_append, List.take_append_drop]
      have a2 := qsum_take hd
      grind
    rw [es, ← clip_turn (hn d (List.mem_of_getElem? hd))]
    congr 1
    grind
  · rw [List.getElem?_eq_none (by rw [List.length_reverse, fillD_len, List.length_reverse]; omega), List.getElem?_eq_none (by rw [lackD_len (by rw [fillD_len])]; omega)]
theorem dealOf_con {y : Wy} {ws cs : List Rat} {q : Rat} (h : Fit y ws cs) (h0 : 0 ≤ q) (h1 : q ≤ qsum cs) : dealOf y.con ws cs q = lackD cs (dealOf y ws cs (qsum cs - q)) := by
  have eq : qsum cs - (qsum cs - q) = q := by grind
  cases y with
  | row => exact back_con h.nn h0 h1
  | back =>
    show rowD cs q = lackD cs (rowD cs.reverse (qsum cs - q)).reverse
    rw [back_con h.nn (by grind) (by grind), eq, lackD_lackD (rowD_ok h.nn h0 h1).len]
  | even => rfl
  | lack =>
    show evenD ws cs q = lackD cs (lackD cs (evenD ws cs (qsum cs - (qsum cs - q))))
    rw [eq, lackD_lackD (evenD_ok (h.ok rfl) h0 h1 h.ne).len]
  | part =>
    show partD cs q = lackD cs (partD cs (qsum cs - q))
    by_cases hz : qsum cs = 0
    · have hq : q = 0 := by grind
      have d1 := partD_ok (q := q) h.nn h0 h1
      have d2 := lackD_ok (partD_ok (q := qsum cs - q) h.nn (by grind) (by grind))
      rw [eq] at d2
      rw [hq] at d1 d2 ⊢
      rw [d1.nought, d2.nought]
    · rw [partD_map h.nn, partD_map h.nn]
      apply List.ext_getElem?
      intro i
      rw [List.getElem?_map]
      cases e : cs[i]? with
      | none =>
        have := List.getElem?_eq_none_iff.mp e
        exact (List.getElem?_eq_none (by rw [lackD_len (by rw [List.length_map])]; omega)).symm
      | some c =>
        rw [lackD_of e (by rw [List.getElem?_map, e]; rfl)]
        show some (c * (q / qsum cs)) = some (c - c * ((qsum cs - q) / qsum cs))
        congr 1
        have e1 : (qsum cs - q) / qsum cs = 1 - q / qsum cs := by
          have := Rat.mul_inv_cancel _ hz
          rw [Rat.div_def, Rat.div_def]
          grind
        rw [e1]
        grind
  | half =>
    show halfD cs q = lackD cs (halfD cs (qsum cs - q))
    have ho := ones_ok h.nn
    by_cases hlt : qsum cs < q + q
    · have e1 : halfD cs (qsum cs - q) = hv (evenD (ones cs) cs (qsum cs - q + (qsum cs - q))) := if_neg (by grind)
      have e2 : halfD cs q = lackD cs (hv (evenD (ones cs) cs (qsum cs + qsum cs - (q + q)))) := if_pos hlt
      rw [e1, e2, show qsum cs - q + (qsum cs - q) = qsum cs + qsum cs - (q + q) by grind]
    · have e2 : halfD cs q = hv (evenD (ones cs) cs (q + q)) := if_neg hlt
      by_cases he : qsum cs = q + q
      · have e1 : halfD cs (qsum cs - q) = hv (evenD (ones cs) cs (qsum cs - q + (qsum cs - q))) := if_neg (by grind)
        rw [e1, e2, show qsum cs - q + (qsum cs - q) = qsum cs by grind, ← he]
        have d := evenD_ok (q := qsum cs) ho (by grind) Rat.le_refl h.ne
        rw [d.full]
        apply List.ext_getElem?
        intro i
        cases e : cs[i]? with
        | none =>
          have := List.getElem?_eq_none_iff.mp e
          rw [List.getElem?_eq_none (by rw [hv_len]; omega), List.getElem?_eq_none (by rw [lackD_len (by rw [hv_len])]; omega)]
        | some c =>
          have e3 : (hv cs)[i]? = some (1 / 2 * c) := by unfold hv; rw [List.getElem?_map, e]; rfl
          rw [e3, lackD_of e e3]
          congr 1
          grind
      · have e1 : halfD cs (qsum cs - q) = lackD cs (hv (evenD (ones cs) cs (qsum cs + qsum cs - (qsum cs - q + (qsum cs - q))))) := if_pos (by grind)
        rw [e1, e2, show qsum cs + qsum cs - (qsum cs - q + (qsum cs - q)) = q + q by grind]
        rw [lackD_lackD (by rw [hv_len, (evenD_ok ho (by grind) (by grind) h.ne).len])]
end Pu

set_option maxRecDepth 100000
namespace Pu
open PySem PySem.Spec PyProof.Rows L2
/-! ### ways: what the program's defs do -/
theorem sd_insert {K : Frag} {ρ : En} {ti te : TE} {d : D} {ds : List D} {W : WX} {ex : Value → En → Prop} {k : Ko} {i n : Nat} (e : ρ[i]? = some (.own ds)) (hi : Ev K ti ρ (.int (n : Int))) (h : Ev K te ρ d) (hl : ds.length ≤ 100000) (hn : n ≤ 100000) (hk : k.nx (ρ.set i (.own (ds.take n ++ [d] ++ ds.drop n)))) :
    Sd K W ex (tDrop (tBM K "list" rInsert (tVar i) (tCons ti (tCons te tNil)))) ρ k := fun R0 H0 ok R σ H a D m => by
  obtain ⟨p, vs, h1, h2, h3, h4, h5⟩ := a.own i ds e
  refine ⟨_, h1, .inl ⟨rfl, _, SqL.of h2⟩, hi R0 H0 R σ H a _ fun v R1 H1 g1 dv => h R0 H0 R1 σ H1 (a.grow g1) _ fun w R2 H2 g2 dw => ?_⟩
  cases dv
  have g := g1.trans g2
  refine ⟨p, vs, (n : Int), w, rfl, rfl, g.hp _ _ h2, ?_, by omega, ?_, m.nx _ R2 _ _ hk ((a.grow g).put e h1 ?_)⟩
  · rw [dpa_len h3]
    exact Nat.lt_of_le_of_lt hl (by decide)
  · have : (100000 : Int) < 2 ^ 63 := by decide
    omega
  · have q := dpa_mono g.rd _ _ h3
    exact dpa_append (dpa_append (dpa_take n q) (.cons dw .nil)) (dpa_drop n q)
theorem insF_cut {le : Nat → Nat → Bool} {x : Nat} : ∀ (s : List Nat) (j : Nat), j ≤ s.length → (∀ (m y : Nat), m < j → s[m]? = some y → le y x = true) → (∀ y, s[j]? = some y → le y x = false) → insF le x s = s.take j ++ [x] ++ s.drop j
  | [], j, hj, _, _ => by
    obtain rfl : j = 0 := by simpa using hj
    rfl
  | y :: r, 0, _, _, h => by
    have := h y rfl
    unfold insF
    rw [this]
    rfl
  | y :: r, j + 1, hj, h1, h2 => by
    have a := h1 0 y (Nat.succ_pos j) rfl
    unfold insF
    rw [a, if_pos rfl, insF_cut r j (by simpa using hj) (fun m z hm hz => h1 (m + 1) z (by omega) hz) fun z hz => h2 z hz]
    rfl
def WAYSL : List Str := ["row", "back", "even", "lack", "part", "half"]
def WEIGHEDL : List Str := ["even", "lack"]
theorem divInt_one (c : Int) : Rat.divInt c 1 = (c : Rat) := by
  rw [Rat.divInt_eq_div]
  show (c : Rat) / ((1 : Int) : Rat) = c
  rw [show ((1 : Int) : Rat) = 1 from rfl]
  grind
theorem made1_v {C : Addr} {c : Int} : cMade C [.int c, .int 1] (kv (fr (c : Rat))) := ⟨c, 1, rfl, fun z => absurd z (by decide), fun _ => by rw [divInt_one]; rfl⟩
theorem made2_v {C : Addr} {a b : Int} (h : b ≠ 0) : cMade C [.int a, .int b] (kv (fr ((a : Rat) / (b : Rat)))) := by
  have := made_v (C := C) (a := a) h
  rw [Rat.divInt_eq_div] at this
  exact this
theorem ints_at {ns : List Int} {i : Nat} {n : Int} {k : Int} (hk : k = (i : Int)) (h : ns[i]? = some n) : atI (ns.map PyData.int) k = some (.int n) := by
  rw [hk]
  exact atI_nat (by rw [List.getElem?_map, h] <;> rfl)
theorem qlist_at {ns : List Int} {i : Nat} {n : Int} (h : ns[i]? = some n) : (qlist ns)[i]? = some (n : Rat) := by
  unfold qlist
  rw [List.getElem?_map, h]
  rfl
theorem qlist_len (ns : List Int) : (qlist ns).length = ns.length := List.length_map _
theorem qlist_sum : ∀ ns : List Int, qsum (qlist ns) = ((ns.sum : Int) : Rat)
  | [] => rfl
  | n :: ns => by
    show (n : Rat) + qsum (qlist ns) = ((n + ns.sum : Int) : Rat)
    rw [qlist_sum ns, Rat.intCast_add]
def iD (ns : List Int) (i : Nat) : Int := ns.getD i 0
theorem iD_at {ns : List Int} {i : Nat} (h : i < ns.length) : ns[i]? = some (iD ns i) := by
  unfold iD
  rw [List.getD_eq_getElem?_getD, List.getElem?_eq_getElem h]
  rfl
theorem gD_qlist (ns : List Int) (i : Nat) : gD (qlist ns) i = ((iD ns i : Int) : Rat) := by
  unfold gD iD
  rw [List.getD_eq_getElem?_getD, List.getD_eq_getElem?_getD]
  unfold qlist
  rw [List.getElem?_map]
  cases ns[i]? <;> rfl
theorem fullLe_int (ws cs : List Int) (i j : Nat) : fullLe (qlist ws) (qlist cs) i j = decide (iD cs i * iD ws j ≤ iD cs j * iD ws i) := by
  unfold fullLe
  rw [gD_qlist, gD_qlist, gD_qlist, gD_qlist]
  congr 1
  rw [← Rat.intCast_mul, ← Rat.intCast_mul, Rat.intCast_le_intCast]
def small (ns : List Int) (B : Nat) : Prop := ∀ n ∈ ns, n.natAbs < 2 ^ B
theorem small_iD {ns : List Int} {B : Nat} (h : small ns B) (i : Nat) : (iD ns i).natAbs < 2 ^ B := by
  by_cases hi : i < ns.length
  · exact h _ (List.mem_of_getElem? (iD_at hi))
  · unfold iD
    rw [List.getD_eq_getElem?_getD, List.getElem?_eq_none (by omega)]
    exact Nat.two_pow_pos B
/-- sums of few -/
theorem sum_small : ∀ {ns : List Int} {B : Nat}, small ns B → ns.sum.natAbs ≤ ns.length * 2 ^ B
  | [], B, _ => by simp
  | n :: ns, B, h => by
    have h1 := h n List.mem_cons_self
    have h2 := sum_small (ns := ns) (B := B) fun m hm => h m (List.mem_cons_of_mem _ hm)
    rw [List.sum_cons, List.length_cons, Nat.succ_mul]
    omega
theorem sum_lt {ns : List Int} {B : Nat} (h : small ns B) (hl : ns.length ≤ 128) : ns.sum.natAbs < 2 ^ (B + 8) := by
  have a := sum_small h
  have e : 2 ^ (B + 8) = 256 * 2 ^ B := by rw [Nat.pow_add]; omega
  have p := Nat.two_pow_pos B
  have b : ns.length * 2 ^ B ≤ 128 * 2 ^ B := Nat.mul_le_mul_right _ hl
  omega
/-- weights that fit a way -/
def wfit (w : Str) (ws : List Int) (n : Nat) : Bool := if WEIGHEDL.contains w then (decide (ws.length = n) && ws.all fun x => decide (1 ≤ x) && decide (x ≤ 1000000)) else decide (ws.length = 0)
def cWFit : Ct := fun ds k => ∃ (w : Str) (dw : D) (ws : List Int) (n : Nat), ds = [.str w, dw, .int (n : Int)] ∧ SeqD dw (ws.map PyData.int) ∧ 1 ≤ n ∧ k.rt (.bool (wfit w ws n))
theorem wfit_v {w : Str} {dw : D} {ws : List Int} {n : Nat} (hd : SeqD dw (ws.map PyData.int)) (hn : 1 ≤ n) : cWFit [.str w, dw, .int (n : Int)] (kv (.bool (wfit w ws n))) := ⟨w, dw, ws, n, rfl, hd, hn, rfl⟩
def badC (cs : List Int) : Bool := decide (cs.length = 0) || cs.any fun c => decide (c < 0)
/-- which refusal comes first: 0 the way, 1 the claims, 2 the weights, 4 none -/
def lookC (w : Str) (ws cs : List Int) : Nat := if WAYSL.contains w then (if badC cs then 1 else if wfit w ws cs.length then 4 else 2) else 0
def cLooked (C0 C1 C2 : Addr) : Ct := fun ds k => ∃ (w : Str) (dw dc : D) (ws cs : List Int), ds = [.str w, dw, dc] ∧ SeqD dw (ws.map PyData.int) ∧ SeqD dc (cs.map PyData.int) ∧
  (lookC w ws cs = 0 → k.ex (.ref C0)) ∧ (lookC w ws cs = 1 → k.ex (.ref C1)) ∧ (lookC w ws cs = 2 → k.ex (.ref C2)) ∧ (lookC w ws cs = 4 → k.rt .none)
def bySort (ws cs : List Int) : List Nat := byF (fullLe (qlist ws) (qlist cs)) cs.length
def natD (ps : List Nat) : List D := ps.map fun p : Nat => .int (p : Int)
def cByFull : Ct := fun ds k => ∃ (dw dc : D) (ws cs : List Int) (B : Nat), ds = [dw, dc] ∧ SeqD dw (ws.map PyData.int) ∧ SeqD dc (cs.map PyData.int) ∧ ws.length = cs.length ∧ cs.length ≤ 1000 ∧ small ws B ∧ small cs B ∧ B ≤ 1000000 ∧ k.rl (natD (bySort ws cs))
theorem byFull_v {dw dc : D} {ws cs : List Int} {B : Nat} (h1 : SeqD dw (ws.map PyData.int)) (h2 : SeqD dc (cs.map PyData.int)) (hl : ws.length = cs.length) (hn : cs.length ≤ 1000) (h3 : small ws B) (h4 : small cs B) (hB : B ≤ 1000000) : cByFull [dw, dc] (kl (natD (bySort ws cs))) := ⟨dw, dc, ws, cs, B, rfl, h1, h2, hl, hn, h3, h4, hB, rfl⟩
theorem natD_len (ps : List Nat) : (natD ps).length = ps.length := List.length_map _
theorem natD_at {ps : List Nat} {i : Nat} {p : Nat} {k : Int} (hk : k = (i : Int)) (h : ps[i]? = some p) : atI (natD ps) k = some (.int (p : Int)) := by
  rw [hk]
  exact atI_nat (by unfold natD; rw [List.getElem?_map, h] <;> rfl)
/-- sizes of what is dealt -/
def dB (n B : Nat) : Nat := n + 200 * (B + 1) + 100
def cEven : Ct := fun ds k => ∃ (dw dc : D) (ws cs : List Int) (q : Rat) (B n : Nat), ds = [dw, dc, fr q] ∧ SeqD dw (ws.map PyData.int) ∧ SeqD dc (cs.map PyData.int) ∧ ws.length = cs.length ∧ cs.length ≤ 64 ∧ (∀ w ∈ ws, 0 < w) ∧ small ws B ∧ small cs B ∧ 0 < B ∧ bt q n ∧ B ≤ 10000 ∧ n ≤ 5000000 ∧ k.rl (fls (evenD (qlist ws) (qlist cs) q))
theorem even_v {dw dc : D} {ws cs : List Int} {q : Rat} {B n : Nat} (h1 : SeqD dw (ws.map PyData.int)) (h2 : SeqD dc (cs.map PyData.int)) (hl : ws.length = cs.length) (hn : cs.length ≤ 64) (hw : ∀ w ∈ ws, 0 < w) (h3 : small ws B) (h4 : small cs B) (hB : 0 < B) (hq : bt q n) (hB2 : B ≤ 10000) (hn2 : n ≤ 5000000) :
    cEven [dw, dc, fr q] (kl (fls (evenD (qlist ws) (qlist cs) q))) := ⟨dw, dc, ws, cs, q, B, n, rfl, h1, h2, hl, hn, hw, h3, h4, hB, hq, hB2, hn2, rfl⟩
theorem bt_div0 {p q : Rat} {a b : Nat} (hp : bt p a) (hq : bt q b) : bt (p / q) (a + b) := by
  by_cases h : q = 0
  · subst h
    rw [Rat.div_def, Rat.inv_zero, Rat.mul_zero]
    exact bt_zero.mono (by have := bt.pos hp; omega)
  · exact bt_over hp hq h
theorem bt_gD {ns : List Int} {B : Nat} (h : small ns B) (hB : 0 < B) (i : Nat) : bt (gD (qlist ns) i) B := by
  rw [gD_qlist]
  exact bt_int (small_iD h i) hB
theorem fillAll_all {P : Rat → Prop} {ws : List Rat} {l : Rat} : ∀ (ps : List Nat) (s : List Rat), (∀ o, P (gD ws o * l)) → (∀ x ∈ s, P x) → ∀ x ∈ fillAll ws l s ps, P x
  | [], s, _, h, x, hx => h x hx
  | p :: r, s, hf, h, x, hx => fillAll_all r (s.set p _) hf (fun y hy => by
    rcases List.mem_or_eq_of_mem_set hy with h1 | h1
    · exact h y h1
    · rw [h1]; exact hf p) x hx
theorem evenGo_bt {ws cs : List Int} {B : Nat} (h1 : small ws B) (h2 : small cs B) (hB : 0 < B) (N : Nat) : ∀ (ps : List Nat) (left rest : Rat) (s : List Rat) (n r : Nat), bt left n → bt rest r → (∀ x ∈ s, bt x N) → n + r + 2 * ps.length * (B + 1) + B ≤ N → ∀ x ∈ evenGo (qlist ws) (qlist cs) ps left rest s, bt x N
  | [], _, _, s, _, _, _, _, h, _, x, hx => h x hx
  | p :: ps, left, rest, s, n, r, hn, hr, h, hN, x, hx => by
    have e : 2 * (p :: ps).length * (B + 1) = 2 * ps.length * (B + 1) + 2 * (B + 1) := by rw [List.length_cons, ← Nat.add_mul]; rfl
    unfold evenGo at hx
    split at hx
    · exact fillAll_all (P := fun x => bt x N) (p :: ps) s (fun o => (bt_times (bt_gD h1 hB o) (bt_div0 hn hr)).mono (by omega)) h x hx
    · exact evenGo_bt h1 h2 hB N ps _ _ s (n + B + 1) (r + B + 1) (bt_minus hn (bt_gD h2 hB p)) (bt_minus hr (bt_gD h1 hB p)) h (by omega) x hx
theorem evenD_bt {ws cs : List Int} {q : Rat} {B n : Nat} (h1 : small ws B) (h2 : small cs B) (hB : 0 < B) (hl : ws.length = cs.length) (hn : cs.length ≤ 64) (hq : bt q n) : ∀ x ∈ evenD (qlist ws) (qlist cs) q, bt x (dB n B) := by
  have hs : bt (qsum (qlist ws)) (B + 8) := by
    rw [qlist_sum]
    exact bt_int (sum_lt h1 (by omega)) (by omega)
  refine evenGo_bt h1 h2 hB (dB n B) _ q _ _ n (B + 8) hq hs (fun x hx => ?_) ?_
  · obtain ⟨c, hc, rfl⟩ := List.mem_map.mp hx
    exact (bt_int (h2 c hc) hB).mono (by unfold dB; omega)
  · rw [byF_len, qlist_len]
    unfold dB
    have : 2 * cs.length * (B + 1) ≤ 128 * (B + 1) := Nat.mul_le_mul_right _ (by omega)
    omega
def cLacking : Ct := fun ds k => ∃ (dc : D) (cs : List Int) (gs : List Rat) (B n : Nat), ds = [dc, .list (fls gs)] ∧ SeqD dc (cs.map PyData.int) ∧ gs.length = cs.length ∧ cs.length ≤ 1000 ∧ small cs B ∧ 0 < B ∧ (∀ g ∈ gs, bt g n) ∧ B + n ≤ 40000000 ∧ k.rl (fls (lackD (qlist cs) gs))
theorem lacking_v {dc : D} {cs : List Int} {gs : List Rat} {B n : Nat} (hd : SeqD dc (cs.map PyData.int)) (hg : gs.length = cs.length) (hn : cs.length ≤ 1000) (h : small cs B) (hB : 0 < B) (hb : ∀ g ∈ gs, bt g n) (hl : B + n ≤ 40000000) : cLacking [dc, .list (fls gs)] (kl (fls (lackD (qlist cs) gs))) := ⟨dc, cs, gs, B, n, rfl, hd, hg, hn, h, hB, hb, hl, rfl⟩
theorem bt_lackD {cs : List Int} {gs : List Rat} {B n : Nat} (h : small cs B) (hB : 0 < B) (hb : ∀ g ∈ gs, bt g n) : ∀ x ∈ lackD (qlist cs) gs, bt x (B + n + 1) := fun x hx => by
  obtain ⟨i, hi⟩ := List.getElem?_of_mem hx
  obtain ⟨c, g, h1, h2, rfl⟩ := lackD_at hi
  obtain ⟨c', hc, rfl⟩ := List.mem_map.mp (List.mem_of_getElem? h1)
  exact bt_minus (bt_int (h c' hc) hB) (hb g (List.mem_of_getElem? h2))
def cRow : Ct := fun ds k => ∃ (dc : D) (cs : List Int) (q : Rat) (B n : Nat), ds = [dc, fr q] ∧ SeqD dc (cs.map PyData.int) ∧ cs.length ≤ 100 ∧ small cs B ∧ 0 < B ∧ bt q n ∧ B ≤ 10000 ∧ n ≤ 5000000 ∧ k.rl (fls (rowD (qlist cs) q))
theorem row_v {dc : D} {cs : List Int} {q : Rat} {B n : Nat} (hd : SeqD dc (cs.map PyData.int)) (hl : cs.length ≤ 100) (h : small cs B) (hB : 0 < B) (hq : bt q n) (hB2 : B ≤ 10000) (hn : n ≤ 5000000) : cRow [dc, fr q] (kl (fls (rowD (qlist cs) q))) := ⟨dc, cs, q, B, n, rfl, hd, hl, h, hB, hq, hB2, hn, rfl⟩
/-- what is left behind i claims -/
def rowL : List Rat → Rat → Nat → Rat
  | _, q, 0 => q
  | [], q, _ + 1 => q
  | c :: r, q, i + 1 => rowL r (q - if q < c then q else c) i
theorem rowL_step : ∀ (cs : List Rat) (q : Rat) (i : Nat) (c : Rat), cs[i]? = some c → rowL cs q (i + 1) = rowL cs q i - (if rowL cs q i < c then rowL cs q i else c) ∧ (rowD cs q)[i]? = some (if rowL cs q i < c then rowL cs q i else c)
  | [], q, i, c, h => by simp at h
  | a :: r, q, 0, c, h => by
    obtain rfl := Option.some.inj h
    refine ⟨?_, rfl⟩
    show rowL r _ 0 = _
    cases r <;> rfl
  | a :: r, q, i + 1, c, h => rowL_step r (q - if q < a then q else a) i c h
/-- left behind claims: nought, or the catch less some of the claims -/
theorem rowL_bt {B : Nat} (hB : 0 < B) : ∀ (cs : List Int) (q : Rat) (n i : Nat), small cs B → bt q n → i ≤ cs.length → bt (rowL (qlist cs) q i) (n + i * (B + 1) + 1)
  | cs, q, n, 0, _, h, _ => by
    have e : rowL (qlist cs) q 0 = q := by cases cs <;> rfl
    rw [e]
    exact h.mono (by omega)
  | [], q, n, i + 1, _, _, h => absurd h (by simp)
  | c :: cs, q, n, i + 1, hs, h, hi => by
    have hr : small cs B := fun x hx => hs x (List.mem_cons_of_mem _ hx)
    have hc := bt_int (hs c List.mem_cons_self) hB
    show bt (rowL (qlist cs) (q - if q < (c : Rat) then q else (c : Rat)) i) _
    rw [Nat.succ_mul]
    split
    · rw [Rat.sub_self]
      have := rowL_bt hB cs 0 1 i hr bt_zero (by simpa using hi)
      have hp := bt.pos h
      exact this.mono (by omega)
    · exact (rowL_bt hB cs _ (n + B + 1) i hr (bt_minus h hc) (by simpa using hi)).mono (by omega)
theorem rowD_btAll {cs : List Int} {q : Rat} {B n : Nat} (hB : 0 < B) (hs : small cs B) (hq : bt q n) (hl : cs.length ≤ 100) : ∀ x ∈ rowD (qlist cs) q, bt x (dB n B) := fun x hx => by
  obtain ⟨i, hi⟩ := List.getElem?_of_mem hx
  have hlen : ∀ (xs : List Rat) (q : Rat), (rowD xs q).length = xs.length := fun xs => by
    induction xs with
    | nil => intro q; rfl
    | cons a r ih => intro q; show (rowD r _).length + 1 = _; rw [ih]; rfl
  have hlt := getElem?_lt hi
  rw [hlen, qlist_len] at hlt
  obtain ⟨_, e⟩ := rowL_step (qlist cs) q i _ (qlist_at (iD_at hlt))
  rw [hi] at e
  obtain rfl := Option.some.inj e
  have b := rowL_bt hB cs q n i hs hq (by omega)
  have hm : i * (B + 1) ≤ 100 * (B + 1) := Nat.mul_le_mul_right _ (by omega)
  split
  · exact b.mono (by unfold dB; omega)
  · exact (bt_int (small_iD hs i) hB).mono (by unfold dB; omega)
def cPart : Ct := fun ds k => ∃ (dc : D) (cs : List Int) (q : Rat) (B n : Nat), ds = [dc, fr q] ∧ SeqD dc (cs.map PyData.int) ∧ cs.length ≤ 100 ∧ small cs B ∧ 0 < B ∧ bt q n ∧ B ≤ 10000 ∧ n ≤ 5000000 ∧ k.rl (fls (partD (qlist cs) q))
theorem part_v {dc : D} {cs : List Int} {q : Rat} {B n : Nat} (hd : SeqD dc (cs.map PyData.int)) (hl : cs.length ≤ 100) (h : small cs B) (hB : 0 < B) (hq : bt q n) (hB2 : B ≤ 10000) (hn : n ≤ 5000000) : cPart [dc, fr q] (kl (fls (partD (qlist cs) q))) := ⟨dc, cs, q, B, n, rfl, hd, hl, h, hB, hq, hB2, hn, rfl⟩
theorem partD_bt {cs : List Int} {q : Rat} {B n : Nat} (hB : 0 < B) (hs : small cs B) (hq : bt q n) (hl : cs.length ≤ 100) : ∀ x ∈ partD (qlist cs) q, bt x (dB n B) := fun x hx => by
  have hS : bt (qsum (qlist cs)) (B + 8) := by
    rw [qlist_sum]
    exact bt_int (sum_lt hs (by omega)) (by omega)
  unfold partD at hx
  split at hx
  · obtain ⟨_, _, rfl⟩ := List.mem_map.mp hx
    exact bt_zero.mono (by unfold dB; omega)
  · obtain ⟨c, hc, rfl⟩ := List.mem_map.mp hx
    obtain ⟨c', hc', rfl⟩ := List.mem_map.mp hc
    exact (bt_times (bt_div0 (bt_int (hs c' hc') hB) hS) hq).mono (by unfold dB; omega)
def cHalf : Ct := fun ds k => ∃ (dc : D) (cs : List Int) (q : Rat) (B n : Nat), ds = [dc, fr q] ∧ SeqD dc (cs.map PyData.int) ∧ cs.length ≤ 64 ∧ cs ≠ [] ∧ (∀ c ∈ cs, 0 ≤ c) ∧ 0 ≤ q ∧ q ≤ qsum (qlist cs) ∧ small cs B ∧ 0 < B ∧ bt q n ∧ B ≤ 10000 ∧ n ≤ 1000000 ∧ k.rl (fls (halfD (qlist cs) q))
theorem ones_q (cs : List Int) : ones (qlist cs) = qlist (cs.map fun _ => 1) := by
  unfold ones qlist
  rw [List.map_map, List.map_map]
  rfl
theorem small_ones {cs : List Int} {B : Nat} (hB : 0 < B) : small (cs.map fun _ => 1) B := fun n hn => by
  obtain ⟨_, _, rfl⟩ := List.mem_map.mp hn
  exact Nat.one_lt_two_pow (by omega)
theorem bt_half : bt (1 / 2) 2 := by
  rw [show (1 / 2 : Rat) = Rat.divInt 1 2 from by rw [Rat.divInt_eq_div]; rfl]
  exact bt_divInt (by decide) (by decide) (by decide)
theorem fr_half : PyData.tuple [.int 1, .int 2] = fr (1 / 2) := by
  rw [fr_unit (by decide), Rat.div_def, Rat.one_mul]
  rfl
theorem bt_hv {gs : List Rat} {n : Nat} (h : ∀ g ∈ gs, bt g n) : ∀ x ∈ hv gs, bt x (n + 2) := fun x hx => by
  obtain ⟨g, hg, rfl⟩ := List.mem_map.mp hx
  have b2 : bt (1 / 2) 2 := by
    rw [show (1 / 2 : Rat) = Rat.divInt 1 2 from by rw [Rat.divInt_eq_div]; rfl]
    exact bt_divInt (by decide) (by decide) (by decide)
  exact (bt_times b2 (h g hg)).mono (by omega)
/-- sizes of whatever is dealt -/
def hB (n B : Nat) : Nat := n + 300 * (B + 1) + 300
theorem halfD_bt {cs : List Int} {q : Rat} {B n : Nat} (h0 : 0 < B) (hs : small cs B) (hq : bt q n) (hl : cs.length ≤ 64) : ∀ x ∈ halfD (qlist cs) q, bt x (hB n B) := fun x hx => by
  have hS : bt (qsum (qlist cs)) (B + 8) := by
    rw [qlist_sum]
    exact bt_int (sum_lt hs (by omega)) (by omega)
  have b1 : bt (q + q) (2 + n) := by
    have e : q + q = ((2 : Int) : Rat) * q := by rw [show (((2 : Int)) : Rat) = 2 from rfl]; grind
    rw [e]
    exact bt_times (bt_int (by decide) (by decide)) hq
  have b2 := bt_minus (bt_plus hS hS) b1
  unfold halfD at hx
  rw [ones_q] at hx
  split at hx
  · have e := evenD_bt (small_ones (cs := cs) h0) hs h0 (by rw [List.length_map]) hl b2
    exact (bt_lackD hs h0 (bt_hv e) x hx).mono (by unfold hB dB; omega)
  · have e := evenD_bt (small_ones (cs := cs) h0) hs h0 (by rw [List.length_map]) hl b1
    exact (bt_hv e x hx).mono (by unfold hB dB; omega)
theorem half_v {dc : D} {cs : List Int} {q : Rat} {B n : Nat} (hd : SeqD dc (cs.map PyData.int)) (hl : cs.length ≤ 64) (hne : cs ≠ []) (hnn : ∀ c ∈ cs, 0 ≤ c) (h0 : 0 ≤ q) (h1 : q ≤ qsum (qlist cs)) (h : small cs B) (hB : 0 < B) (hq : bt q n) (hB2 : B ≤ 10000) (hn : n ≤ 1000000) : cHalf [dc, fr q] (kl (fls (halfD (qlist cs) q))) := ⟨dc, cs, q, B, n, rfl, hd, hl, hne, hnn, h0, h1, h, hB, hq, hB2, hn, rfl⟩
/-- what is asked of claims and weights -/
structure Ask (y : Wy) (ws cs : List Int) (q : Rat) (B n : Nat) : Prop where
  ne : cs ≠ []
  nn : ∀ c ∈ cs, 0 ≤ c
  wt : y.wd = true → ws.length = cs.length ∧ ∀ w ∈ ws, 0 < w
  lo : 0 ≤ q
  hi : q ≤ qsum (qlist cs)
  len : cs.length ≤ 64
  sw : small ws B
  sc : small cs B
  b0 : 0 < B
  b1 : B ≤ 10000
  bq : bt q n
  n1 : n ≤ 1000000
theorem nn_q {cs : List Int} (h : ∀ c ∈ cs, 0 ≤ c) : ∀ c ∈ qlist cs, 0 ≤ c := fun c hc => by
  obtain ⟨c', h', rfl⟩ := List.mem_map.mp hc
  exact_mod_cast h c' h'
theorem Ask.fit {y : Wy} {ws cs : List Int} {q : Rat} {B n : Nat} (h : Ask y ws cs q B n) : Fit y (qlist ws) (qlist cs) :=
  ⟨fun z => h.ne (List.map_eq_nil_iff.mp z), nn_q h.nn, fun e => ⟨by rw [qlist_len, qlist_len]; exact (h.wt e).1, fun w hw => by
    obtain ⟨w', h', rfl⟩ := List.mem_map.mp hw
    exact_mod_cast (h.wt e).2 w' h'⟩⟩
theorem Ask.dl {y : Wy} {ws cs : List Int} {q : Rat} {B n : Nat} (h : Ask y ws cs q B n) : Dl (qlist cs) (dealOf y (qlist ws) (qlist cs) q) q := dealOf_ok h.fit h.lo h.hi
theorem small_rev {cs : List Int} {B : Nat} (h : small cs B) : small cs.reverse B := fun c hc => h c (List.mem_reverse.mp hc)
theorem qlist_rev (cs : List Int) : (qlist cs).reverse = qlist cs.reverse := List.map_reverse.symm
theorem Ask.bt {y : Wy} {ws cs : List Int} {q : Rat} {B n : Nat} (h : Ask y ws cs q B n) : ∀ x ∈ dealOf y (qlist ws) (qlist cs) q, Pu.bt x (hB n B) := fun x hx => by
  have hd : dB n B ≤ hB n B := by unfold dB hB; omega
  cases y with
  | row => exact (rowD_btAll h.b0 h.sc h.bq (by have := h.len; omega) x hx).mono hd
  | back =>
    have hx' := List.mem_reverse.mp hx
    rw [qlist_rev] at hx'
    exact (rowD_btAll h.b0 (small_rev h.sc) h.bq (by have := h.len; rw [List.length_reverse]; omega) x hx').mono hd
  | even => exact (evenD_bt h.sw h.sc h.b0 (h.wt rfl).1 h.len h.bq x hx).mono hd
  | lack =>
    have hS : Pu.bt (qsum (qlist cs)) (B + 8) := by
      rw [qlist_sum]
      exact bt_int (sum_lt h.sc (by have := h.len; omega)) (by omega)
    have e := evenD_bt h.sw h.sc h.b0 (h.wt rfl).1 h.len (bt_minus hS h.bq)
    exact (bt_lackD h.sc h.b0 e x hx).mono (by unfold hB dB; omega)
  | part => exact (partD_bt h.b0 h.sc h.bq (by have := h.len; omega) x hx).mono hd
  | half => exact halfD_bt h.b0 h.sc h.bq h.len x hx
def cDealtBy : Ct := fun ds k => ∃ (y : Wy) (dw dc : D) (ws cs : List Int) (q : Rat) (B n : Nat), ds = [.str y.s, dw, dc, fr q] ∧ SeqD dw (ws.map PyData.int) ∧ SeqD dc (cs.map PyData.int) ∧ Ask y ws cs q B n ∧ k.rl (fls (dealOf y (qlist ws) (qlist cs) q))
theorem dealtBy_v {y : Wy} {dw dc : D} {ws cs : List Int} {q : Rat} {B n : Nat} (h1 : SeqD dw (ws.map PyData.int)) (h2 : SeqD dc (cs.map PyData.int)) (h : Ask y ws cs q B n) : cDealtBy [.str y.s, dw, dc, fr q] (kl (fls (dealOf y (qlist ws) (qlist cs) q))) := ⟨y, dw, dc, ws, cs, q, B, n, rfl, h1, h2, h, rfl⟩
def wyOf (w : Str) : Wy := if w = "row" then .row else if w = "back" then .back else if w = "even" then .even else if w = "lack" then .lack else if w = "part" then .part else .half
theorem wyOf_s (y : Wy) : wyOf y.s = y := by cases y <;> decide
theorem way_cases {w : Str} (h : WAYSL.contains w = true) : ∃ y : Wy, w = y.s := by
  have h' : w ∈ WAYSL := List.contains_iff_mem.mp h
  unfold WAYSL at h'
  simp only [List.mem_cons, List.not_mem_nil, or_false] at h'
  rcases h' with rfl | rfl | rfl | rfl | rfl | rfl
  · exact ⟨.row, rfl⟩
  · exact ⟨.back, rfl⟩
  · exact ⟨.even, rfl⟩
  · exact ⟨.lack, rfl⟩
  · exact ⟨.part, rfl⟩
  · exact ⟨.half, rfl⟩
theorem ways_s (y : Wy) : WAYSL.contains y.s = true := by cases y <;> decide
theorem ways_sh (y : Wy) : SeqAt.shaped (.str y.s) = true := by cases y <;> decide +kernel
theorem weighed_s (y : Wy) : WEIGHEDL.contains y.s = y.wd := by cases y <;> decide
/-- which refusal comes first, with the catch: 3 beyond its bounds -/
def dealC (w : Str) (ws cs : List Int) (q : Rat) : Nat := if lookC w ws cs = 4 then (if q < 0 ∨ qsum (qlist cs) < q then 3 else 4) else lookC w ws cs
def cDealt (C0 C1 C2 C3 : Addr) : Ct := fun ds k => ∃ (w : Str) (dw dc : D) (ws cs : List Int) (q : Rat) (B n : Nat), ds = [.str w, dw, dc, fr q] ∧ SeqD dw (ws.map PyData.int) ∧ SeqD dc (cs.map PyData.int) ∧ cs.length ≤ 64 ∧ small cs B ∧ 20 ≤ B ∧ B ≤ 10000 ∧ bt q n ∧ n ≤ 1000000 ∧
  (dealC w ws cs q = 0 → k.ex (.ref C0)) ∧ (dealC w ws cs q = 1 → k.ex (.ref C1)) ∧ (dealC w ws cs q = 2 → k.ex (.ref C2)) ∧ (dealC w ws cs q = 3 → k.ex (.ref C3)) ∧ (dealC w ws cs q = 4 → k.rl (fls (dealOf (wyOf w) (qlist ws) (qlist cs) q)))
theorem wfit_iff {y : Wy} {ws : List Int} {n : Nat} : wfit y.s ws n = true ↔ if y.wd then ws.length = n ∧ ∀ w ∈ ws, 1 ≤ w ∧ w ≤ 1000000 else ws = [] := by
  unfold wfit
  rw [weighed_s]
  cases y.wd
  · simp
  · simp
theorem small_wt {ws : List Int} {B : Nat} (h : ∀ w ∈ ws, 1 ≤ w ∧ w ≤ 1000000) (hB : 20 ≤ B) : small ws B := fun w hw => by
  obtain ⟨h1, h2⟩ := h w hw
  have : 2 ^ 20 ≤ 2 ^ B := Nat.pow_le_pow_right (by decide) hB
  have e : (2 : Nat) ^ 20 = 1048576 := by decide
  omega
theorem ask_of {y : Wy} {ws cs : List Int} {q : Rat} {B n : Nat} (hc : dealC y.s ws cs q = 4) (hl : cs.length ≤ 64) (hs : small cs B) (h20 : 20 ≤ B) (hB : B ≤ 10000) (hq : bt q n) (hn : n ≤ 1000000) : Ask y ws cs q B n := by
  unfold dealC at hc
  split at hc
  · rename_i hlook
    split at hc
    · cases hc
    · rename_i hin
      unfold lookC at hlook
      rw [if_pos (ways_s y)] at hlook
      split at hlook
      · cases hlook
      · rename_i hbad
        split at hlook
        · rename_i hfit
          have hf := wfit_iff.mp hfit
          unfold badC at hbad
          have hne : cs ≠ [] := fun z => hbad (by rw [z]; rfl)
          have hnn : ∀ c ∈ cs, 0 ≤ c := fun c hc => by
            apply Classical.byContradiction
            intro z
            apply hbad
            rw [Bool.or_eq_true]
            exact .inr (List.any_eq_true.mpr ⟨c, hc, decide_eq_true (by omega)⟩)
          refine ⟨hne, hnn, fun e => ?_, Rat.not_lt.mp fun z => hin (.inl z), Rat.not_lt.mp fun z => hin (.inr z), hl, ?_, hs, by omega, hB, hq, hn⟩
          · rw [e] at hf
            exact ⟨hf.1, fun w hw => by have := (hf.2 w hw).1; omega⟩
          · cases e : y.wd with
            | true => rw [e] at hf; exact small_wt hf.2 h20
            | false => rw [e] at hf; rw [show ws = [] from hf]; exact fun w hw => nomatch hw
        · cases hlook
  · rename_i h4
    exact absurd hc h4
theorem dealC_ok {y : Wy} {ws cs : List Int} {q : Rat} (hne : cs ≠ []) (hnn : ∀ c ∈ cs, 0 ≤ c) (hf : wfit y.s ws cs.length = true) (h0 : 0 ≤ q) (h1 : q ≤ qsum (qlist cs)) : dealC y.s ws cs q = 4 := by
  have hb : badC cs = false := by
    unfold badC
    rw [Bool.or_eq_false_iff]
    refine ⟨decide_eq_false fun z => hne (List.eq_nil_of_length_eq_zero z), ?_⟩
    rw [List.any_eq_false]
    intro c hc
    have := hnn c hc
    rw [decide_eq_true_eq]
    omega
  have hlook : lookC y.s ws cs = 4 := by
    unfold lookC
    rw [if_pos (ways_s y), if_neg (by rw [hb]; decide), if_pos hf]
  unfold dealC
  rw [if_pos hlook, if_neg]
  rintro (z | z)
  · exact Rat.not_lt.mpr h0 z
  · exact Rat.not_lt.mpr h1 z
theorem dealt_v {C0 C1 C2 C3 : Addr} {y : Wy} {dw dc : D} {ws cs : List Int} {q : Rat} {B n : Nat} (h1 : SeqD dw (ws.map PyData.int)) (h2 : SeqD dc (cs.map PyData.int)) (hl : cs.length ≤ 64) (hs : small cs B) (h20 : 20 ≤ B) (hB : B ≤ 10000) (hq : bt q n) (hn : n ≤ 1000000) (hc : dealC y.s ws cs q = 4) :
    cDealt C0 C1 C2 C3 [.str y.s, dw, dc, fr q] (kl (fls (dealOf y (qlist ws) (qlist cs) q))) := ⟨y.s, dw, dc, ws, cs, q, B, n, rfl, h1, h2, hl, hs, h20, hB, hq, hn, (fun e => nomatch hc.symm.trans e), (fun e => nomatch hc.symm.trans e), (fun e => nomatch hc.symm.trans e), (fun e => nomatch hc.symm.trans e), fun _ => by rw [wyOf_s]; rfl⟩
def cContrary (C0 : Addr) : Ct := fun ds k => ∃ w : Str, ds = [.str w] ∧ (WAYSL.contains w = false → k.ex (.ref C0)) ∧ (∀ y : Wy, w = y.s → k.rt (.str y.con.s))
theorem contrary_v {C0 : Addr} {y : Wy} : cContrary C0 [.str y.s] (kv (.str y.con.s)) := ⟨y.s, rfl, (fun z => nomatch (ways_s y).symm.trans z), fun y' e => by
  have : y = y' := by rw [← wyOf_s y, e, wyOf_s]
  rw [this]; rfl⟩
/-! ### a list lent to a call that gives a plain thing -/
def flatD : D → Bool
  | .none | .bool _ | .int _ | .str _ => true
  | _ => false
theorem dp_flat {K : Frag} {R R' : Hp} {v : V} {d : D} (hf : flatD d = true) (h : Dp K R v d) : Dp K R' v d := by
  cases d with
  | none => cases h; exact .non
  | bool b => cases h; exact .bl b
  | int i => cases h; exact .int i
  | str x => cases h; exact .str x
  | list ds => cases hf
  | tuple ds => cases hf
  | dict ds => cases hf
theorem ev_borrow {K : Frag} {te : TE} {ρ : En} {d : D} {ds : List D} (i : Nat) (e : ρ[i]? = some (.own ds)) (h : Ev K te (ρ.set i (.val (.list ds))) d) (hf : flatD d = true := by rfl) : Ev K te ρ d := fun R0 H0 R σ H a Q q => by
  obtain ⟨R', rr, a'⟩ := a.freeze e
  exact h R0 H0 R' σ H a' Q fun v R2 H' g dv => q v R H' ⟨Same.refl R, g.hp, (rr.trans g.rd).trans g.sub, fun b e n => absurd e n⟩ (dp_flat hf dv)
theorem et_borrow {K : Frag} {tt : TT} {ρ : En} {b : Bool} {ds : List D} (i : Nat) (e : ρ[i]? = some (.own ds)) (h : EvT K tt (ρ.set i (.val (.list ds))) b) : EvT K tt ρ b := fun R0 H0 R σ H a Q q => by
  obtain ⟨R', rr, a'⟩ := a.freeze e
  exact h R0 H0 R' σ H a' Q fun R2 H' g => q R H' ⟨Same.refl R, g.hp, (rr.trans g.rd).trans g.sub, fun b e n => absurd e n⟩
/-! ### small things of the laws -/
theorem at_4 {α : Type} {a b c d : α} {k : Int} (h0 : 0 ≤ k) (h : k < 4) : atI [a, b, c, d] k = some (if k = 0 then a else if k = 1 then b else if k = 2 then c else d) := by
  rcases (by omega : k = 0 ∨ k = 1 ∨ k = 2 ∨ k = 3) with rfl | rfl | rfl | rfl <;> rfl
theorem fm_congr {α β : Type} {f g : α → Option β} : ∀ l : List α, (∀ x ∈ l, f x = g x) → l.filterMap f = l.filterMap g
  | [], _ => rfl
  | x :: l, h => by
    rw [List.filterMap_cons, List.filterMap_cons, h x List.mem_cons_self, fm_congr l fun y hy => h y (List.mem_cons_of_mem _ hy)]
theorem range_self {α : Type} : ∀ ys : List α, (List.range ys.length).filterMap (ys[·]?) = ys
  | [] => rfl
  | y :: r => by
    rw [List.length_cons, List.range_succ_eq_map, List.filterMap_cons]
    show y :: ((List.range r.length).map Nat.succ).filterMap _ = y :: r
    rw [List.filterMap_map]
    congr 1
    exact range_self r
theorem pick3_rev {α : Type} (xs : List α) : pick3 xs none none (some (-1)) = xs.reverse := by
  have e1 : sliceBounds none none (some (-1)) xs.length = ((xs.length : Int) - 1, -1, -1) := rfl
  unfold pick3
  rw [e1]
  show (sliceRange ((xs.length : Int) - 1) (-1) (-1)).filterMap (xs[·]?) = _
  have e2 : sliceRange ((xs.length : Int) - 1) (-1) (-1) = (List.range xs.length).map fun k => xs.length - 1 - k := by
    unfold sliceRange
    have ec : (if (-1 : Int) > 0 then (if (xs.length : Int) - 1 < -1 then (-1 - ((xs.length : Int) - 1) + -1 - 1) / -1 else 0) else (if (xs.length : Int) - 1 > -1 then ((xs.length : Int) - 1 - -1 - -1 - 1) / (- -1) else 0)).toNat = xs.length := by
      rw [if_neg (by decide)]
      split
      · have : (- -1 : Int) = 1 := rfl
        rw [this, Int.ediv_one]
        omega
      · omega
    show (List.range (if (-1 : Int) > 0 then (if (xs.length : Int) - 1 < -1 then (-1 - ((xs.length : Int) - 1) + -1 - 1) / -1 else 0) else (if (xs.length : Int) - 1 > -1 then ((xs.length : Int) - 1 - -1 - -1 - 1) / (- -1) else 0)).toNat).map _ = _
    rw [ec]
    refine List.map_congr_left fun k hk => ?_
    have := List.mem_range.mp hk
    omega
  rw [e2, List.filterMap_map]
  have e3 := range_self xs.reverse
  rw [List.length_reverse] at e3
  rw [← e3]
  refine fm_congr _ fun k hk => ?_
  have := List.mem_range.mp hk
  show xs[xs.length - 1 - k]? = xs.reverse[k]?
  rw [List.getElem?_reverse this]
def cLFr : Ct := fun ds k => ∃ a b : Int, ds = [.int a, .int b] ∧ 0 < b ∧ k.rt (fr (Rat.divInt a b))
theorem lfr_v {a b : Int} (h : 0 < b) : cLFr [.int a, .int b] (kv (fr (Rat.divInt a b))) := ⟨a, b, rfl, h, rfl⟩
def e10 (n : Nat) : Int := 10 ^ ((n : Int)).toNat
/-- a catch that a law draws -/
def caBot (c : Int) : Int := if c % 4 = 0 then 1 else if c % 4 = 1 then 2 else if c % 4 = 2 then 1 + c / 4 % 12 else 1 + c / 4 % 10 ^ (9 : Int).toNat
def caughtR (c W : Int) : Rat := Rat.divInt (c % 10 ^ (40 : Int).toNat / 4 % (W * caBot (c % 10 ^ (40 : Int).toNat) + 1)) (caBot (c % 10 ^ (40 : Int).toNat))
theorem caBot_b (c : Int) : 1 ≤ caBot c ∧ caBot c ≤ 1000000000 := by
  unfold caBot
  have e : (10 : Int) ^ (9 : Int).toNat = 1000000000 := by decide
  rw [e]
  split
  · decide
  · split
    · decide
    · split <;> omega
theorem frac_in {t W b : Int} (hb : 0 < b) (h0 : 0 ≤ t) (h1 : t ≤ W * b) : 0 ≤ Rat.divInt t b ∧ Rat.divInt t b ≤ (W : Rat) := by
  refine ⟨Rat.divInt_nonneg h0 (by omega), ?_⟩
  rw [Rat.divInt_eq_div]
  have hb' : (0 : Rat) < ((b : Int) : Rat) := by exact_mod_cast hb
  refine div_le' hb' ?_
  rw [← Rat.intCast_mul]
  exact_mod_cast h1
theorem caught_ok {c W : Int} {B : Nat} (h0 : 0 ≤ W) (hW : W.natAbs < 2 ^ B) : 0 ≤ caughtR c W ∧ caughtR c W ≤ (W : Rat) ∧ bt (caughtR c W) (B + 31) := by
  unfold caughtR
  generalize c % 10 ^ (40 : Int).toNat = d
  obtain ⟨b1, b2⟩ := caBot_b d
  generalize caBot d = b at b1 b2
  have hWb : 0 ≤ W * b := Int.mul_nonneg h0 (by omega)
  have m1 := Int.emod_nonneg (d / 4) (b := W * b + 1) (by omega)
  have m2 := Int.emod_lt_of_pos (d / 4) (b := W * b + 1) (by omega)
  generalize d / 4 % (W * b + 1) = t at m1 m2
  obtain ⟨f1, f2⟩ := frac_in (t := t) (W := W) (b := b) (by omega) m1 (by omega)
  have hb30 : b.natAbs < 2 ^ 30 := by
    have : (2 : Nat) ^ 30 = 1073741824 := by decide
    omega
  have hwb := abs_mul_lt hW hb30
  refine ⟨f1, f2, bt_divInt (by omega) (Nat.lt_of_lt_of_le (show t.natAbs < 2 ^ (B + 30) by omega) (Nat.pow_le_pow_right (by decide) (by omega))) (Nat.lt_of_lt_of_le hb30 (Nat.pow_le_pow_right (by decide) (by omega)))⟩
def cCaught : Ct := fun ds k => ∃ (c W : Int) (B : Nat), ds = [.int c, .int W] ∧ 0 ≤ W ∧ W.natAbs < 2 ^ B ∧ B ≤ 10000 ∧ k.rt (fr (caughtR c W))
theorem caught_v {c W : Int} {B : Nat} (h0 : 0 ≤ W) (hW : W.natAbs < 2 ^ B) (hB : B ≤ 10000) : cCaught [.int c, .int W] (kv (fr (caughtR c W))) := ⟨c, W, B, rfl, h0, hW, hB, rfl⟩
/-- a claim that a law draws -/
def claimOf (m c : Int) : Int := if c % 10 ^ (40 : Int).toNat % 3 = 0 then c % 10 ^ (40 : Int).toNat / 3 % 13 else if c % 10 ^ (40 : Int).toNat % 3 = 1 then c % 10 ^ (40 : Int).toNat / 3 % m else c % 10 ^ (40 : Int).toNat / 3 % 10 ^ (30 : Int).toNat
theorem claimOf_b {m c : Int} (h0 : 0 < m) (h : m ≤ 1000) : 0 ≤ claimOf m c ∧ (claimOf m c).natAbs < 2 ^ 100 := by
  unfold claimOf
  generalize c % 10 ^ (40 : Int).toNat = d
  have e : (10 : Int) ^ (30 : Int).toNat = 1000000000000000000000000000000 := by decide
  have e2 : (2 : Nat) ^ 100 = 1267650600228229401496703205376 := by decide
  rw [e, e2]
  split
  · omega
  · split
    · have := Int.emod_nonneg (d / 3) (b := m) (by omega)
      have := Int.emod_lt_of_pos (d / 3) h0
      omega
    · omega
/-! ### dealings looked at by the laws -/
def ap (x : Int × Int) : D := .tuple [.int x.1, .int x.2]
def prs (q : Rat) : Int × Int := (q.num, (q.den : Int))
theorem fr_ap (q : Rat) : fr q = ap (prs q) := rfl
def cSumIs : Ct := fun ds k => ∃ (gs : List Rat) (q : Rat) (N n : Nat), ds = [.list (fls gs), fr q] ∧ gs.length ≤ 64 ∧ (∀ g ∈ gs, bt g N) ∧ bt q n ∧ N ≤ 300000 ∧ n ≤ 1000000 ∧ k.rt (.bool (decide (qsum gs = q)))
theorem sumIs_v {gs : List Rat} {q : Rat} {N n : Nat} (hl : gs.length ≤ 64) (hb : ∀ g ∈ gs, bt g N) (hq : bt q n) (hN : N ≤ 300000) (hn : n ≤ 1000000) (e : qsum gs = q) : cSumIs [.list (fls gs), fr q] (kv (.bool true)) := ⟨gs, q, N, n, rfl, hl, hb, hq, hN, hn, by rw [decide_eq_true e]; rfl⟩
def cDealing : Ct := fun ds k => ∃ (cs : List Int) (gs : List Rat) (q : Rat) (B N n : Nat), ds = [.list (fls gs), .list (cs.map PyData.int), fr q] ∧ Dl (qlist cs) gs q ∧ cs.length ≤ 64 ∧ small cs B ∧ (∀ g ∈ gs, bt g N) ∧ bt q n ∧ B ≤ 10000 ∧ N ≤ 300000 ∧ n ≤ 1000000 ∧ k.rt (.bool true)
theorem dealing_v {cs : List Int} {gs : List Rat} {q : Rat} {B N n : Nat} (h : Dl (qlist cs) gs q) (hl : cs.length ≤ 64) (hs : small cs B) (hb : ∀ g ∈ gs, bt g N) (hq : bt q n) (hB : B ≤ 10000) (hN : N ≤ 300000) (hn : n ≤ 1000000) : cDealing [.list (fls gs), .list (cs.map PyData.int), fr q] (kv (.bool true)) := ⟨cs, gs, q, B, N, n, rfl, h, hl, hs, hb, hq, hB, hN, hn, rfl⟩
def AtLevel (ws cs : List Int) (am : List (Int × Int)) (l : Rat) (N : Nat) : Prop := am.length = cs.length ∧ ∀ (i : Nat) (x : Int × Int), am[i]? = some x → 0 < x.2 ∧ x.1.natAbs < 2 ^ N ∧ x.2.natAbs < 2 ^ N ∧ (x.1 : Rat) = lvl ((iD ws i : Int) : Rat) ((iD cs i : Int) : Rat) l * (x.2 : Rat)
def cLevel : Ct := fun ds k => ∃ (cs ws : List Int) (am : List (Int × Int)) (l : Rat) (B N : Nat), ds = [.list (cs.map PyData.int), .list (ws.map PyData.int), .list (am.map ap)] ∧ ws.length = cs.length ∧ cs.length ≤ 64 ∧ (∀ w ∈ ws, 0 < w) ∧ small ws B ∧ small cs B ∧ AtLevel ws cs am l N ∧ B ≤ 10000 ∧ N ≤ 1000000 ∧ k.rt (.bool true)
theorem level_v {cs ws : List Int} {am : List (Int × Int)} {l : Rat} {B N : Nat} (hl : ws.length = cs.length) (hn : cs.length ≤ 64) (hw : ∀ w ∈ ws, 0 < w) (h1 : small ws B) (h2 : small cs B) (h : AtLevel ws cs am l N) (hB : B ≤ 10000) (hN : N ≤ 1000000) : cLevel [.list (cs.map PyData.int), .list (ws.map PyData.int), .list (am.map ap)] (kv (.bool true)) := ⟨cs, ws, am, l, B, N, rfl, hl, hn, hw, h1, h2, h, hB, hN, rfl⟩
/-- whole numbers and levels -/
theorem num_den (q : Rat) : (q.num : Rat) = q * ((q.den : Int) : Rat) := by
  have hd : ((q.den : Int) : Rat) ≠ 0 := by
    have : (0 : Int) < (q.den : Int) := by have := q.den_pos; omega
    have : (0 : Rat) < ((q.den : Int) : Rat) := by exact_mod_cast this
    grind
  have e := Rat.div_mul_cancel (a := (q.num : Rat)) (b := ((q.den : Int) : Rat)) hd
  rw [← Rat.divInt_eq_div, q_mk] at e
  exact e.symm
theorem lvl_less {a b c w : Int} {l : Rat} (hb : 0 < b) (h : (a : Rat) = lvl (w : Rat) (c : Rat) l * (b : Rat)) : a < c * b ↔ (w : Rat) * l < (c : Rat) := by
  have hb' : (0 : Rat) < (b : Rat) := by exact_mod_cast hb
  have e : a < c * b ↔ (a : Rat) < (c : Rat) * (b : Rat) := by
    rw [← Rat.intCast_mul]
    exact Rat.intCast_lt_intCast.symm
  rw [e, h]
  unfold lvl
  constructor
  · intro z
    have := lt_of_mul hb' z
    split at this
    · assumption
    · exact absurd this (by grind)
  · intro z
    rw [if_pos z]
    exact Rat.mul_lt_mul_of_pos_right z hb'
theorem evenD_atLevel {ws cs : List Int} {g : List Rat} {l : Rat} {N : Nat} (hl : ws.length = cs.length) (hg : g = lvls (qlist ws) (qlist cs) l) (hb : ∀ x ∈ g, bt x N) : AtLevel ws cs (g.map prs) l N := by
  have hlen : g.length = cs.length := by rw [hg, lvls_len (by rw [qlist_len, qlist_len, hl]), qlist_len]
  refine ⟨by rw [List.length_map, hlen], fun i x hx => ?_⟩
  rw [List.getElem?_map] at hx
  cases e : g[i]? with
  | none => rw [e] at hx; cases hx
  | some q =>
    rw [e] at hx
    obtain rfl := Option.some.inj hx
    have b := hb q (List.mem_of_getElem? e)
    have hi := getElem?_lt e
    have hd : (0 : Int) < (q.den : Int) := by have := q.den_pos; omega
    refine ⟨hd, b.1, b.2, ?_⟩
    rw [hg] at e
    obtain ⟨w, c, h1, h2, h3⟩ := lvls_at e
    rw [qlist_at (iD_at (ns := ws) (i := i) (by omega))] at h1
    rw [qlist_at (iD_at (ns := cs) (i := i) (by omega))] at h2
    obtain rfl := Option.some.inj h1
    obtain rfl := Option.some.inj h2
    rw [← h3]
    exact num_den q
end Pu

set_option maxRecDepth 100000
namespace Pu
open PySem PySem.Spec PyProof.Rows L2
/-! ### what the laws of ways draw; fractions in order -/
def wtOf (c : Int) : Int := 1 + c / 2 % (if c % 2 = 0 then 4 else 10 ^ (6 : Int).toNat)
theorem wtOf_b (c : Int) : 1 ≤ wtOf c ∧ wtOf c ≤ 1000000 := by
  unfold wtOf
  have e : (10 : Int) ^ (6 : Int).toNat = 1000000 := by decide
  rw [e]
  split <;> omega
def wayAt (i : Int) : Wy := if i = 0 then .row else if i = 1 then .back else if i = 2 then .even else if i = 3 then .lack else if i = 4 then .part else .half
theorem wayAt_at {i : Int} (h0 : 0 ≤ i) (h : i < 6) : atI [PyData.str "row", .str "back", .str "even", .str "lack", .str "part", .str "half"] i = some (.str (wayAt i).s) := by
  rcases (by omega : i = 0 ∨ i = 1 ∨ i = 2 ∨ i = 3 ∨ i = 4 ∨ i = 5) with rfl | rfl | rfl | rfl | rfl | rfl <;> rfl
theorem s_shaped (y : Wy) : SeqAt.shaped (.str y.s) = true := by cases y <;> decide +kernel
theorem s_even (y : Wy) : (decide (y.s = "even") || decide (y.s = "lack")) = y.wd := by cases y <;> decide +kernel
def drOne (ns : List Int) : Int := cellAt ns 0 % 10 ^ (30 : Int).toNat
def drY (ns : List Int) : Wy := wayAt (drOne ns % 6)
def drM (ns : List Int) (most : Nat) : Nat := (1 + drOne ns / 6 % (most : Int)).toNat
def drCf (ns : List Int) (k : Nat) : Int := claimOf 13 (cellAt ns (3 + (0 + (k : Int))))
def drWf (ns : List Int) (m : Nat) (k : Nat) : Int := wtOf (cellAt ns (3 + (m : Int) + (0 + (k : Int))) % 10 ^ (30 : Int).toNat)
def wList (b : Bool) (f : Nat → Int) (i : Nat) : List Int := if b then (List.range i).map f else []
def drC (ns : List Int) (most : Nat) : List Int := (List.range (drM ns most)).map (drCf ns)
def drW (ns : List Int) (most : Nat) : List Int := wList (drY ns).wd (drWf ns (drM ns most)) (drM ns most)
theorem drM_b (ns : List Int) {most : Nat} (h : 1 ≤ most) : 1 ≤ drM ns most ∧ drM ns most ≤ most ∧ 1 + drOne ns / 6 % (most : Int) = (drM ns most : Int) := by
  unfold drM
  have := Int.emod_nonneg (drOne ns / 6) (b := (most : Int)) (by omega)
  have := Int.emod_lt_of_pos (drOne ns / 6) (b := (most : Int)) (by omega)
  omega
structure Drawn (y : Wy) (ws cs : List Int) (most : Nat) : Prop where
  ne : cs ≠ []
  len : cs.length ≤ most
  nn : ∀ c ∈ cs, 0 ≤ c
  sm : small cs 100
  fit : wfit y.s ws cs.length = true
  wl : ws = [] ∨ ws.length = cs.length
  wb : ∀ w ∈ ws, 1 ≤ w ∧ w ≤ 1000000
theorem drawn_ok (ns : List Int) {most : Nat} (h : 1 ≤ most) : Drawn (drY ns) (drW ns most) (drC ns most) most := by
  obtain ⟨h1, h2, _⟩ := drM_b ns h
  have hl : (drC ns most).length = drM ns most := by unfold drC; rw [List.length_map, List.length_range]
  have hwb : ∀ w ∈ drW ns most, 1 ≤ w ∧ w ≤ 1000000 := fun w hw => by
    unfold drW wList at hw
    split at hw
    · obtain ⟨k, _, rfl⟩ := List.mem_map.mp hw
      exact wtOf_b _
    · cases hw
  refine ⟨fun z => ?_, by omega, fun c hc => ?_, fun c hc => ?_, ?_, ?_, hwb⟩
  · rw [z] at hl
    have : (0 : Nat) = drM ns most := hl
    omega
  · obtain ⟨k, _, rfl⟩ := List.mem_map.mp hc
    exact (claimOf_b (by decide) (by decide)).1
  · obtain ⟨k, _, rfl⟩ := List.mem_map.mp hc
    exact (claimOf_b (by decide) (by decide)).2
  · refine wfit_iff.mpr ?_
    cases e : (drY ns).wd with
    | true =>
      refine ⟨?_, hwb⟩
      rw [hl]
      unfold drW wList
      rw [e, if_pos rfl, List.length_map, List.length_range]
    | false =>
      unfold drW wList
      rw [e]
      rfl
  · unfold drW wList
    cases (drY ns).wd with
    | true => refine .inr ?_; rw [hl, if_pos rfl, List.length_map, List.length_range]
    | false => exact .inl rfl
def cDrawn : Ct := fun ds k => ∃ (ns : List Int) (most : Nat), ds = [.list (ns.map PyData.int), .int (most : Int)] ∧ 1 ≤ most ∧ most ≤ 12 ∧ k.rt (.tuple [.str (drY ns).s, .list ((drW ns most).map PyData.int), .list ((drC ns most).map PyData.int)])
theorem drawn_v {ns : List Int} {most : Nat} (h : 1 ≤ most) (h2 : most ≤ 12) : cDrawn [.list (ns.map PyData.int), .int (most : Int)] (kv (.tuple [.str (drY ns).s, .list ((drW ns most).map PyData.int), .list ((drC ns most).map PyData.int)])) := ⟨ns, most, rfl, h, h2, rfl⟩
/-! fractions in order -/
def insQ (x : Rat) : List Rat → List Rat
  | [] => [x]
  | y :: r => if y ≤ x then y :: insQ x r else x :: y :: r
def sortQ (qs : List Rat) : List Rat := qs.foldl (fun s x => insQ x s) []
theorem insQ_perm (x : Rat) : ∀ s : List Rat, (insQ x s).Perm (x :: s)
  | [] => List.Perm.refl _
  | y :: r => by
    unfold insQ
    split
    · exact ((insQ_perm x r).cons y).trans (List.Perm.swap x y r)
    · exact List.Perm.refl _
theorem insQ_sorted (x : Rat) : ∀ s : List Rat, s.Pairwise (fun a b => a ≤ b) → (insQ x s).Pairwise (fun a b => a ≤ b)
  | [], _ => List.pairwise_singleton _ _
  | y :: r, h => by
    obtain ⟨h1, h2⟩ := List.pairwise_cons.mp h
    unfold insQ
    split
    · rename_i z
      refine List.pairwise_cons.mpr ⟨fun b hb => ?_, insQ_sorted x r h2⟩
      rcases List.mem_cons.mp ((insQ_perm x r).mem_iff.mp hb) with rfl | hb
      · exact z
      · exact h1 b hb
    · rename_i z
      refine List.pairwise_cons.mpr ⟨fun b hb => ?_, h⟩
      rcases List.mem_cons.mp hb with rfl | hb
      · grind
      · have := h1 b hb
        grind
theorem insQ_cut {x : Rat} : ∀ (s : List Rat) (j : Nat), j ≤ s.length → (∀ (m : Nat) (y : Rat), m < j → s[m]? = some y → y ≤ x) → (∀ y, s[j]? = some y → ¬ y ≤ x) → insQ x s = s.take j ++ [x] ++ s.drop j
  | [], j, hj, _, _ => by
    obtain rfl : j = 0 := by simpa using hj
    rfl
  | y :: r, 0, _, _, h => by
    have := h y rfl
    unfold insQ
    rw [if_neg this]
    rfl
  | y :: r, j + 1, hj, h1, h2 => by
    have a := h1 0 y (Nat.succ_pos j) rfl
    unfold insQ
    rw [if_pos a, insQ_cut r j (by simpa using hj) (fun m z hm hz => h1 (m + 1) z (by omega) hz) fun z hz => h2 z hz]
    rfl
theorem sortQ_snoc (qs : List Rat) (x : Rat) : sortQ (qs ++ [x]) = insQ x (sortQ qs) := by
  unfold sortQ
  rw [List.foldl_append]
  rfl
theorem snoc_ind {α : Type} {P : List α → Prop} (h0 : P []) (h1 : ∀ xs x, P xs → P (xs ++ [x])) (xs : List α) : P xs := by
  have : ∀ ys : List α, P ys.reverse := fun ys => by
    induction ys with
    | nil => exact h0
    | cons a r ih => rw [List.reverse_cons]; exact h1 _ _ ih
  have e := this xs.reverse
  rw [List.reverse_reverse] at e
  exact e
theorem sortQ_perm (qs : List Rat) : (sortQ qs).Perm qs := snoc_ind (P := fun qs => (sortQ qs).Perm qs) (List.Perm.refl _) (fun xs x ih => by
  rw [sortQ_snoc]
  exact ((insQ_perm x _).trans (ih.cons x)).trans (List.perm_append_comm (l₁ := [x]) (l₂ := xs))) qs
theorem sortQ_sorted (qs : List Rat) : (sortQ qs).Pairwise (fun a b => a ≤ b) := snoc_ind (P := fun qs => (sortQ qs).Pairwise (fun a b => a ≤ b)) List.Pairwise.nil (fun xs x ih => by
  rw [sortQ_snoc]
  exact insQ_sorted x _ ih) qs
theorem sorted_at {xs : List Rat} (h : xs.Pairwise fun a b => a ≤ b) {i j : Nat} {a b : Rat} (hi : xs[i]? = some a) (hj : xs[j]? = some b) (hij : i ≤ j) : a ≤ b := by
  rcases Nat.eq_or_lt_of_le hij with rfl | hlt
  · rw [hi] at hj
    obtain rfl := Option.some.inj hj
    exact Rat.le_refl
  · obtain ⟨hi', rfl⟩ := List.getElem?_eq_some_iff.mp hi
    obtain ⟨hj', rfl⟩ := List.getElem?_eq_some_iff.mp hj
    exact List.pairwise_iff_getElem.mp h i j hi' hj' hlt
def cSorted : Ct := fun ds k => ∃ (qs : List Rat) (n : Nat), ds = [.list (fls qs)] ∧ qs.length ≤ 1000 ∧ (∀ q ∈ qs, bt q n) ∧ n ≤ 1000000 ∧ k.rl (fls (sortQ qs))
theorem sorted_v {qs : List Rat} {n : Nat} (hl : qs.length ≤ 1000) (h : ∀ q ∈ qs, bt q n) (hn : n ≤ 1000000) : cSorted [.list (fls qs)] (kl (fls (sortQ qs))) := ⟨qs, n, rfl, hl, h, hn, rfl⟩
def cGrown : Ct := fun ds k => ∃ (xs ys : List Rat) (n : Nat), ds = [.list (fls xs), .list (fls ys)] ∧ leAll xs ys ∧ xs.length ≤ 1000 ∧ (∀ q ∈ xs, bt q n) ∧ (∀ q ∈ ys, bt q n) ∧ n ≤ 1000000 ∧ k.rt (.bool true)
theorem grown_v {xs ys : List Rat} {n : Nat} (h : leAll xs ys) (hl : xs.length ≤ 1000) (h1 : ∀ q ∈ xs, bt q n) (h2 : ∀ q ∈ ys, bt q n) (hn : n ≤ 1000000) : cGrown [.list (fls xs), .list (fls ys)] (kv (.bool true)) := ⟨xs, ys, n, rfl, h, hl, h1, h2, hn, rfl⟩
theorem divInt_lack {c : Int} {q : Rat} : Rat.divInt (c * (q.den : Int) - q.num) (q.den : Int) = (c : Rat) - q := by
  have hd : ((q.den : Int) : Rat) ≠ 0 := by
    have : (0 : Int) < (q.den : Int) := by have := q.den_pos; omega
    have : (0 : Rat) < ((q.den : Int) : Rat) := by exact_mod_cast this
    grind
  rw [Rat.divInt_eq_div, Rat.intCast_sub, Rat.intCast_mul, num_den q]
  grind
def cLawCon : Ct := fun ds k => ∃ (y : Wy) (ws cs : List Int) (q : Rat) (n : Nat), ds = [.str y.s, .list (ws.map PyData.int), .list (cs.map PyData.int), .list (fls (dealOf y (qlist ws) (qlist cs) q)), fr q] ∧ Drawn y ws cs 12 ∧ 0 ≤ q ∧ q ≤ qsum (qlist cs) ∧ bt q n ∧ n ≤ 1000 ∧ k.rt (.bool true)
theorem lawCon_v {y : Wy} {ws cs : List Int} {q : Rat} {n : Nat} (h : Drawn y ws cs 12) (h0 : 0 ≤ q) (h1 : q ≤ qsum (qlist cs)) (hq : bt q n) (hn : n ≤ 1000) : cLawCon [.str y.s, .list (ws.map PyData.int), .list (cs.map PyData.int), .list (fls (dealOf y (qlist ws) (qlist cs) q)), fr q] (kv (.bool true)) := ⟨y, ws, cs, q, n, rfl, h, h0, h1, hq, hn, rfl⟩
theorem Drawn.mono {y : Wy} {ws cs : List Int} {m n : Nat} (h : Drawn y ws cs m) (hm : m ≤ n) : Drawn y ws cs n := ⟨h.ne, Nat.le_trans h.len hm, h.nn, h.sm, h.fit, h.wl, h.wb⟩
theorem Drawn.con {y : Wy} {ws cs : List Int} {m : Nat} (h : Drawn y ws cs m) : Drawn y.con ws cs m := ⟨h.ne, h.len, h.nn, h.sm, by
  have := wfit_iff.mp h.fit
  refine wfit_iff.mpr ?_
  cases y <;> exact this, h.wl, h.wb⟩
theorem Drawn.ok {y : Wy} {ws cs : List Int} {m : Nat} {q : Rat} (h : Drawn y ws cs m) (h0 : 0 ≤ q) (h1 : q ≤ qsum (qlist cs)) : dealC y.s ws cs q = 4 := dealC_ok h.ne h.nn h.fit h0 h1
end Pu

set_option maxRecDepth 100000
namespace Pu
open PySem PySem.Spec PyProof.Rows L2
/-! ### customs -/
inductive Cu where
  | boat (c : Int)
  | knot (y : Wy) (ws : List Int) (ks : List Cu)
theorem Cu.ind {P : Cu → Prop} (hb : ∀ c, P (.boat c)) (hk : ∀ y ws ks, (∀ k ∈ ks, P k) → P (.knot y ws ks)) : ∀ u, P u := fun u =>
  Cu.rec (motive_1 := P) (motive_2 := fun ks => ∀ k ∈ ks, P k) hb (fun y ws ks h => hk y ws ks h) (fun k h => by cases h) (fun k r h1 h2 x hx => by
    rcases List.mem_cons.mp hx with rfl | hx
    · exact h1
    · exact h2 x hx) u
mutual
def Cu.d : Cu → D
  | .boat c => .tuple [.str "boat", .int c]
  | .knot y ws ks => .tuple [.str y.s, .tuple (ws.map PyData.int), .tuple (Cu.dL ks)]
def Cu.dL : List Cu → List D
  | [] => []
  | k :: r => k.d :: Cu.dL r
end
mutual
def Cu.claims : Cu → List Int
  | .boat c => [c]
  | .knot _ _ ks => Cu.claimsL ks
def Cu.claimsL : List Cu → List Int
  | [] => []
  | k :: r => k.claims ++ Cu.claimsL r
end
mutual
def Cu.deep : Cu → Nat
  | .boat _ => 1
  | .knot _ _ ks => 1 + Cu.deepL ks
def Cu.deepL : List Cu → Nat
  | [] => 0
  | k :: r => max k.deep (Cu.deepL r)
end
mutual
def Cu.ok : Cu → Prop
  | .boat c => 0 ≤ c ∧ c ≤ 1000000000
  | .knot y ws ks => (ks ≠ [] ∧ ks.length ≤ 12 ∧ wfit y.s ws ks.length = true) ∧ Cu.okL ks
def Cu.okL : List Cu → Prop
  | [] => True
  | k :: r => k.ok ∧ Cu.okL r
end
theorem Cu.dL_map : ∀ ks : List Cu, Cu.dL ks = ks.map Cu.d
  | [] => rfl
  | k :: r => by rw [Cu.dL, Cu.dL_map r]; rfl
theorem Cu.okL_all : ∀ {ks : List Cu}, Cu.okL ks ↔ ∀ k ∈ ks, k.ok
  | [] => ⟨fun _ k h => (by cases h), fun _ => trivial⟩
  | k :: r => by
    rw [Cu.okL, Cu.okL_all (ks := r)]
    exact ⟨fun h x hx => by
      rcases List.mem_cons.mp hx with rfl | hx
      · exact h.1
      · exact h.2 x hx, fun h => ⟨h k List.mem_cons_self, fun x hx => h x (List.mem_cons_of_mem _ hx)⟩⟩
theorem Cu.deepL_le : ∀ {ks : List Cu} {n : Nat}, Cu.deepL ks ≤ n ↔ ∀ k ∈ ks, k.deep ≤ n
  | [], n => ⟨fun _ k h => (by cases h), fun _ => Nat.zero_le _⟩
  | k :: r, n => by
    rw [Cu.deepL, Nat.max_le, Cu.deepL_le (ks := r)]
    exact ⟨fun h x hx => by
      rcases List.mem_cons.mp hx with rfl | hx
      · exact h.1
      · exact h.2 x hx, fun h => ⟨h k List.mem_cons_self, fun x hx => h x (List.mem_cons_of_mem _ hx)⟩⟩
theorem Cu.deep_kid {y : Wy} {ws : List Int} {ks : List Cu} {k : Cu} (h : k ∈ ks) : k.deep < (Cu.knot y ws ks).deep := by
  have := (Cu.deepL_le (ks := ks) (n := Cu.deepL ks)).mp (Nat.le_refl _) k h
  show k.deep < 1 + Cu.deepL ks
  omega
theorem Cu.ok_kid {y : Wy} {ws : List Int} {ks : List Cu} {k : Cu} (h : (Cu.knot y ws ks).ok) (hk : k ∈ ks) : k.ok := Cu.okL_all.mp h.2 k hk
theorem Cu.claimsL_cut : ∀ (ks : List Cu) (i : Nat) (k : Cu), ks[i]? = some k → Cu.claimsL (ks.take (i + 1)) = Cu.claimsL (ks.take i) ++ k.claims
  | [], i, k, h => by cases h
  | a :: r, 0, k, h => by
    obtain rfl := Option.some.inj h
    show a.claims ++ [] = [] ++ a.claims
    rw [List.append_nil, List.nil_append]
  | a :: r, i + 1, k, h => by
    have := Cu.claimsL_cut r i k h
    show a.claims ++ Cu.claimsL (r.take (i + 1)) = a.claims ++ Cu.claimsL (r.take i) ++ k.claims
    rw [this, List.append_assoc]
theorem Cu.claimsL_le : ∀ (ks : List Cu) (i : Nat), (Cu.claimsL (ks.take i)).length ≤ (Cu.claimsL ks).length
  | [], i => by rw [List.take_nil]; exact Nat.le_refl _
  | a :: r, 0 => Nat.zero_le _
  | a :: r, i + 1 => by
    have := Cu.claimsL_le r i
    show (a.claims ++ Cu.claimsL (r.take i)).length ≤ (a.claims ++ Cu.claimsL r).length
    rw [List.length_append, List.length_append]
    omega
theorem Cu.claimsL_mem : ∀ {ks : List Cu} {k : Cu}, k ∈ ks → k.claims.length ≤ (Cu.claimsL ks).length
  | [], k, h => by cases h
  | a :: r, k, h => by
    show k.claims.length ≤ (a.claims ++ Cu.claimsL r).length
    rw [List.length_append]
    rcases List.mem_cons.mp h with rfl | h
    · omega
    · have := Cu.claimsL_mem h
      omega
theorem Cu.claims_kid {y : Wy} {ws : List Int} {ks : List Cu} {k : Cu} (h : k ∈ ks) : k.claims.length ≤ (Cu.knot y ws ks).claims.length := Cu.claimsL_mem (ks := ks) h
theorem Cu.claims_ne : ∀ {u : Cu}, u.ok → u.claims ≠ [] := fun {u} => Cu.ind (P := fun u => u.ok → u.claims ≠ []) (fun c _ => by
    show [c] ≠ []
    exact List.cons_ne_nil _ _) (fun y ws ks ih h z => by
    have hne := h.1.1
    cases ks with
    | nil => exact hne rfl
    | cons k r =>
      have := ih k List.mem_cons_self (Cu.ok_kid h List.mem_cons_self)
      have z' : k.claims ++ Cu.claimsL r = [] := z
      exact this (List.append_eq_nil_iff.mp z').1) u
theorem Cu.claims_b : ∀ {u : Cu}, u.ok → ∀ c ∈ u.claims, 0 ≤ c ∧ c ≤ 1000000000 := fun {u} => Cu.ind (P := fun u => u.ok → ∀ c ∈ u.claims, 0 ≤ c ∧ c ≤ 1000000000) (fun c h x hx => by
    obtain rfl := List.mem_singleton.mp (show x ∈ [c] from hx)
    exact h) (fun y ws ks ih h c hc => by
    have : ∀ ks : List Cu, (∀ k ∈ ks, k.ok → ∀ c ∈ k.claims, 0 ≤ c ∧ c ≤ 1000000000) → (∀ k ∈ ks, k.ok) → ∀ c ∈ Cu.claimsL ks, 0 ≤ c ∧ c ≤ 1000000000 := fun ks => by
      induction ks with
      | nil => intro _ _ c hc; cases hc
      | cons k r ih2 =>
        intro h1 h2 c hc
        rcases List.mem_append.mp (show c ∈ k.claims ++ Cu.claimsL r from hc) with hc | hc
        · exact h1 k List.mem_cons_self (h2 k List.mem_cons_self) c hc
        · exact ih2 (fun x hx => h1 x (List.mem_cons_of_mem _ hx)) (fun x hx => h2 x (List.mem_cons_of_mem _ hx)) c hc
    exact this ks ih (fun k hk => Cu.ok_kid h hk) c hc) u
theorem Cu.deep_pos (u : Cu) : 1 ≤ u.deep := by
  cases u with
  | boat c => exact Nat.le_refl _
  | knot y ws ks => show 1 ≤ 1 + _; omega
def Cu.isB : Cu → Bool
  | .boat _ => true
  | .knot .. => false
def Cu.sum (u : Cu) : Int := u.claims.sum
def Cu.sums (ks : List Cu) : List Int := ks.map Cu.sum
theorem Cu.sums_sum : ∀ ks : List Cu, (Cu.sums ks).sum = (Cu.claimsL ks).sum
  | [] => rfl
  | k :: r => by
    show (k.sum :: Cu.sums r).sum = (k.claims ++ Cu.claimsL r).sum
    rw [List.sum_cons, List.sum_append, Cu.sums_sum r]
    rfl
mutual
def Cu.deal : Cu → Rat → List Rat
  | .boat _, q => [q]
  | .knot y ws ks, q => Cu.dealL ks (dealOf y (qlist ws) (qlist (ks.map Cu.sum)) q)
def Cu.dealL : List Cu → List Rat → List Rat
  | [], _ => []
  | _ :: _, [] => []
  | k :: r, g :: gs => k.deal g ++ Cu.dealL r gs
end
/-- customs that may stand: not too many boats, not too deep -/
structure Cu.Ok (u : Cu) : Prop where
  ok : u.ok
  few : u.claims.length ≤ 12
  low : u.deep ≤ 8
theorem Cu.Ok.kid {y : Wy} {ws : List Int} {ks : List Cu} {k : Cu} (h : (Cu.knot y ws ks).Ok) (hk : k ∈ ks) : k.Ok := ⟨Cu.ok_kid h.ok hk, Nat.le_trans (Cu.claims_kid hk) h.few, Nat.le_trans (Nat.le_of_lt (Cu.deep_kid hk)) h.low⟩
def cBoat (C : Addr) : Ct := fun ds k => ∃ c : Int, ds = [.int c] ∧ ((c < 0 ∨ 1000000000 < c) → k.ex (.ref C)) ∧ (0 ≤ c ∧ c ≤ 1000000000 → k.rt (Cu.boat c).d)
theorem boat_v {C : Addr} {c : Int} (h0 : 0 ≤ c) (h1 : c ≤ 1000000000) : cBoat C [.int c] (kv (Cu.boat c).d) := ⟨c, rfl, (fun z => by omega), fun _ => rfl⟩
theorem boat_x {C : Addr} {c : Int} (h : c < 0 ∨ 1000000000 < c) : cBoat C [.int c] (kx (.ref C)) := ⟨c, rfl, fun _ => rfl, (fun z => by omega)⟩
def cIsBoat : Ct := fun ds k => ∃ u : Cu, ds = [u.d] ∧ k.rt (.bool u.isB)
theorem isBoat_v {u : Cu} : cIsBoat [u.d] (kv (.bool u.isB)) := ⟨u, rfl, rfl⟩
def cLookW (C : Addr) : Ct := fun ds k => ∃ (w : Str) (dw : D) (ws : List Int) (n : Nat), ds = [.str w, dw, .int (n : Int)] ∧ SeqD dw (ws.map PyData.int) ∧ ws.length ≤ 100000 ∧ (wfit w ws n = false → k.ex (.ref C)) ∧ (wfit w ws n = true → k.rt .none)
theorem lookW_v {C : Addr} {w : Str} {dw : D} {ws : List Int} {n : Nat} (hd : SeqD dw (ws.map PyData.int)) (hl : ws.length ≤ 100000) (h : wfit w ws n = true) : cLookW C [.str w, dw, .int (n : Int)] (kv .none) := ⟨w, dw, ws, n, rfl, hd, hl, (fun z => by rw [h] at z; cases z), fun _ => rfl⟩
theorem lookW_x {C : Addr} {w : Str} {dw : D} {ws : List Int} {n : Nat} (hd : SeqD dw (ws.map PyData.int)) (hl : ws.length ≤ 100000) (h : wfit w ws n = false) : cLookW C [.str w, dw, .int (n : Int)] (kx (.ref C)) := ⟨w, dw, ws, n, rfl, hd, hl, fun _ => rfl, (fun z => by rw [h] at z; cases z)⟩
def cClaimsOf (n : Nat) : Ct := fun ds k => ∃ u : Cu, ds = [u.d] ∧ u.deep ≤ n ∧ u.claims.length ≤ 100000 ∧ k.rl (u.claims.map PyData.int)
theorem claimsOf_v {n : Nat} {u : Cu} (h : u.deep ≤ n) (hl : u.claims.length ≤ 100000) : cClaimsOf n [u.d] (kl (u.claims.map PyData.int)) := ⟨u, rfl, h, hl, rfl⟩
def cClaimOf : Ct := fun ds k => ∃ u : Cu, ds = [u.d] ∧ u.deep ≤ 20 ∧ u.claims.length ≤ 100000 ∧ k.rt (.int u.sum)
theorem claimOf_v {u : Cu} (h : u.deep ≤ 20) (hl : u.claims.length ≤ 100000) : cClaimOf [u.d] (kv (.int u.sum)) := ⟨u, rfl, h, hl, rfl⟩
def cDeepOf (n : Nat) : Ct := fun ds k => ∃ u : Cu, ds = [u.d] ∧ u.ok ∧ u.deep ≤ n ∧ k.rt (.int (u.deep : Int))
theorem deepOf_v {n : Nat} {u : Cu} (h : u.ok) (hd : u.deep ≤ n) : cDeepOf n [u.d] (kv (.int (u.deep : Int))) := ⟨u, rfl, h, hd, rfl⟩
/-- what making a knot comes to: 0 no way, 1 bad weights, 2 too many, 4 made -/
def knotC (w : Str) (ws : List Int) (ks : List Cu) : Nat := if WAYSL.contains w then (if wfit w ws ks.length then (if ks.length = 0 ∨ 12 < ks.length ∨ 12 < (Cu.claimsL ks).length ∨ 8 < 1 + Cu.deepL ks then 2 else 4) else 1) else 0
def cKnot (C0 C1 C2 : Addr) : Ct := fun ds k => ∃ (w : Str) (dw dk : D) (ws : List Int) (ks : List Cu), ds = [.str w, dw, dk] ∧ SeqD dw (ws.map PyData.int) ∧ SeqD dk (ks.map Cu.d) ∧ ws.length ≤ 1000 ∧ (∀ u ∈ ks, u.Ok) ∧
  (knotC w ws ks = 0 → k.ex (.ref C0)) ∧ (knotC w ws ks = 1 → k.ex (.ref C1)) ∧ (knotC w ws ks = 2 → k.ex (.ref C2)) ∧ (knotC w ws ks = 4 → k.rt (Cu.knot (wyOf w) ws ks).d)
theorem knotC_ok {y : Wy} {ws : List Int} {ks : List Cu} (h : (Cu.knot y ws ks).Ok) : knotC y.s ws ks = 4 := by
  obtain ⟨⟨⟨h1, h2, h3⟩, h4⟩, h5, h6⟩ := h
  have h0 : ks.length ≠ 0 := fun z => h1 (List.length_eq_zero_iff.mp z)
  have h5 : (Cu.claimsL ks).length ≤ 12 := h5
  have h6 : 1 + Cu.deepL ks ≤ 8 := h6
  unfold knotC
  rw [if_pos (ways_s y), if_pos h3, if_neg (by omega)]
theorem Cu.Ok.w10 {y : Wy} {ws : List Int} {ks : List Cu} (h : (Cu.knot y ws ks).Ok) : ws.length ≤ 12 := by
  obtain ⟨⟨h1, h2, h3⟩, _⟩ := h.ok
  have := wfit_iff.mp h3
  split at this
  · omega
  · rw [this]; exact Nat.zero_le _
theorem knot_v {C0 C1 C2 : Addr} {y : Wy} {dw dk : D} {ws : List Int} {ks : List Cu} (hw : SeqD dw (ws.map PyData.int)) (hk : SeqD dk (ks.map Cu.d)) (h : (Cu.knot y ws ks).Ok) : cKnot C0 C1 C2 [.str y.s, dw, dk] (kv (Cu.knot y ws ks).d) := by
  have e := knotC_ok h
  have := h.w10
  exact ⟨y.s, dw, dk, ws, ks, rfl, hw, hk, by omega, fun u hu => h.kid hu, (fun z => by rw [e] at z; cases z), (fun z => by rw [e] at z; cases z), (fun z => by rw [e] at z; cases z), fun _ => by rw [wyOf_s]; rfl⟩
theorem knotC_made {y : Wy} {ws : List Int} {ks : List Cu} (h : knotC y.s ws ks = 4) (hk : ∀ u ∈ ks, u.Ok) : (Cu.knot y ws ks).Ok := by
  unfold knotC at h
  rw [if_pos (ways_s y)] at h
  split at h
  · rename_i h3
    split at h
    · cases h
    · rename_i h4
      exact ⟨⟨⟨fun z => h4 (.inl (by rw [z]; rfl)), by omega, h3⟩, Cu.okL_all.mpr fun u hu => (hk u hu).ok⟩, show (Cu.claimsL ks).length ≤ 12 by omega, show 1 + Cu.deepL ks ≤ 8 by omega⟩
  · cases h
/-! what a custom deals -/
theorem Cu.dealL_len : ∀ (ks : List Cu) (gs : List Rat), gs.length = ks.length → (∀ k ∈ ks, ∀ q, (k.deal q).length = k.claims.length) → (Cu.dealL ks gs).length = (Cu.claimsL ks).length
  | [], _, _, _ => rfl
  | k :: r, [], h, _ => by cases h
  | k :: r, g :: gs, h, hk => by
    show (k.deal g ++ Cu.dealL r gs).length = (k.claims ++ Cu.claimsL r).length
    rw [List.length_append, List.length_append, hk k List.mem_cons_self, Cu.dealL_len r gs (by simpa using h) fun x hx => hk x (List.mem_cons_of_mem _ hx)]
theorem qlist_append (a b : List Int) : qlist (a ++ b) = qlist a ++ qlist b := by unfold qlist; rw [List.map_append]
theorem dl_append : ∀ {cs cs' g g' : List Rat} {q q' : Rat}, Dl cs g q → Dl cs' g' q' → Dl (cs ++ cs') (g ++ g') (q + q') := fun {cs cs' g g' q q'} h h' => Dl.of (by rw [List.length_append, List.length_append, h.len, h'.len]) (fun i x c hx hc => by
    by_cases hi : i < g.length
    · rw [List.getElem?_append_left hi] at hx
      rw [List.getElem?_append_left (by rw [← h.len]; exact hi)] at hc
      exact h.get hx hc
    · rw [List.getElem?_append_right (by omega)] at hx
      rw [List.getElem?_append_right (by rw [← h.len]; omega), ← h.len] at hc
      exact h'.get hx hc) (by rw [qsum_append, h.sum, h'.sum])
theorem fit_knot {y : Wy} {ws : List Int} {ks : List Cu} (h : (Cu.knot y ws ks).ok) : Fit y (qlist ws) (qlist (ks.map Cu.sum)) := by
  obtain ⟨⟨h1, h2, h3⟩, h4⟩ := h
  refine ⟨fun z => h1 ?_, fun c hc => ?_, fun e => ?_⟩
  · have := congrArg List.length z
    rw [qlist_len, List.length_map] at this
    exact List.length_eq_zero_iff.mp this
  · obtain ⟨n, hn, rfl⟩ := List.mem_map.mp hc
    obtain ⟨k, hk, rfl⟩ := List.mem_map.mp hn
    have h5 := qsum_nonneg (nn_q fun c hc => (Cu.claims_b (Cu.okL_all.mp h4 k hk) c hc).1)
    rw [qlist_sum] at h5
    exact h5
  · have h6 := wfit_iff.mp h3
    rw [e, if_pos rfl] at h6
    refine ⟨by rw [qlist_len, qlist_len, List.length_map]; exact h6.1, fun w hw => ?_⟩
    obtain ⟨n, hn, rfl⟩ := List.mem_map.mp hw
    have := (h6.2 n hn).1
    have : 0 < n := by omega
    exact_mod_cast this
theorem spc_no {K : Frag} {c : Ct} {vs : List V} {H : Hp} {Q : VK} {E : XK} (h : spc K c vs H Q E) (no : ∀ ds k, c ds k → False) : False := by
  obtain ⟨_, ds, k, _, _, hc, _⟩ := h
  exact no ds k hc
theorem no_claims_of {ds : List D} {k : Kc} (h : cClaimsOf 0 ds k) : False := by
  obtain ⟨u, _, h, _⟩ := h
  have := u.deep_pos
  omega
theorem no_deep_of {ds : List D} {k : Kc} (h : cDeepOf 0 ds k) : False := by
  obtain ⟨u, _, _, h, _⟩ := h
  have := u.deep_pos
  omega
theorem Cu.at_knot {y : Wy} {ws : List Int} {ks : List Cu} : (Cu.knot y ws ks).d = .tuple [.str y.s, .tuple (ws.map PyData.int), .tuple (ks.map Cu.d)] := by
  rw [← Cu.dL_map]
  rfl
theorem y_boat (y : Wy) : decide (y.s = "boat") = false := by cases y <;> decide
/-- a call whose answer is known by what holds of it -/
theorem sd_setP {K : Frag} {ρ : En} {ta : TA} {c : Ct} {ds : List D} {E : L2.St → XK} {W : WX} {ex : Value → En → Prop} {k : Ko} {i : Nat} (P : D → Prop) (ha : EvA K ta ρ ds) (hc : c ds ⟨P, fun _ => False, fun _ => False⟩) (hk : ∀ d, P d → k.nx (ρ.set i (.val d))) : Sd K W ex (tAsg (tCallS (spc K c) E ta) (gName i)) ρ k := fun R0 H0 ok R σ H a D m =>
  ha R0 H0 R σ H a _ fun vs R1 H1 g1 dx => ⟨R1, ds, _, g1.sub, dx, hc, fun d v R' H' h g dv => m.nx _ R' _ H' (hk d h) ((a.grow (g1.trans g)).set dv), fun _ _ _ _ _ h => h.elim, fun _ _ _ h => h.elim⟩
theorem cu_map_at {ks : List Cu} {i : Nat} {d : D} (h : (ks.map Cu.d)[i]? = some d) : ∃ k, ks[i]? = some k ∧ d = k.d := by
  rw [List.getElem?_map] at h
  cases e : ks[i]? with
  | none => rw [e] at h; cases h
  | some k => rw [e] at h; exact ⟨k, rfl, (Option.some.inj h).symm⟩
theorem Cu.claimsL_append : ∀ (a b : List Cu), Cu.claimsL (a ++ b) = Cu.claimsL a ++ Cu.claimsL b
  | [], b => rfl
  | k :: r, b => by
    show k.claims ++ Cu.claimsL (r ++ b) = k.claims ++ Cu.claimsL r ++ Cu.claimsL b
    rw [Cu.claimsL_append r b, List.append_assoc]
theorem Cu.claimsL_ge : ∀ {ks : List Cu}, (∀ k ∈ ks, k.ok) → ks.length ≤ (Cu.claimsL ks).length
  | [], _ => Nat.le_refl _
  | k :: r, h => by
    have h1 := Cu.claimsL_ge (ks := r) fun x hx => h x (List.mem_cons_of_mem _ hx)
    have h2 := List.length_pos_iff.mpr (Cu.claims_ne (h k List.mem_cons_self))
    show r.length + 1 ≤ (k.claims ++ Cu.claimsL r).length
    rw [List.length_append]
    omega
theorem sh_strY (y : Wy) : Sh 0 (.str y.s) := sh_str (by cases y <;> decide +kernel)
theorem Sh.up {n m : Nat} {d : D} (h : Sh n d) (hm : n ≤ m) : Sh m d := ⟨h.1, Nat.le_trans h.2 hm⟩
theorem sh_cu : ∀ u : Cu, Sh (2 * u.deep) u.d := fun u => Cu.ind (P := fun u => Sh (2 * u.deep) u.d) (fun c => (sh_tuple (n := 1) fun d hd => by
    rcases List.mem_cons.mp hd with rfl | hd
    · exact (sh_str (by decide +kernel)).up (by decide)
    · obtain rfl := List.mem_singleton.mp hd
      exact sh_int.up (by decide))) (fun y ws ks ih => by
    rw [Cu.at_knot]
    have hdk : ∀ k ∈ ks, Sh (2 * Cu.deepL ks) k.d := fun k hk => (ih k hk).up (by
      have := Cu.deepL_le.mp (Nat.le_refl (Cu.deepL ks)) k hk
      omega)
    have hs : Sh (2 * Cu.deepL ks + 1 + 1) (.tuple [.str y.s, .tuple (ws.map PyData.int), .tuple (ks.map Cu.d)]) := sh_tuple fun d hd => by
      rcases List.mem_cons.mp hd with rfl | hd
      · exact (sh_strY y).up (by omega)
      · rcases List.mem_cons.mp hd with rfl | hd
        · refine sh_tuple fun d hd => ?_
          obtain ⟨n, _, rfl⟩ := List.mem_map.mp hd
          exact sh_int.up (by omega)
        · obtain rfl := List.mem_singleton.mp hd
          refine sh_tuple fun d hd => ?_
          obtain ⟨k, hk, rfl⟩ := List.mem_map.mp hd
          exact hdk k hk
    exact hs.up (by show 2 * Cu.deepL ks + 1 + 1 ≤ 2 * (1 + Cu.deepL ks); omega)) u
theorem sh_cus {p : List Cu} {n : Nat} (h : ∀ u ∈ p, u.deep ≤ n) : Sh (2 * n + 1) (.list (p.map Cu.d)) := sh_list fun d hd => by
  obtain ⟨u, hu, rfl⟩ := List.mem_map.mp hd
  have := h u hu
  exact (sh_cu u).up (by omega)
/-! what the laws of customs draw -/
def lwM (c : Int) (k : Nat) : Int := ((c + 7919 * (0 + (k : Int)) * (0 + (k : Int)) + (0 + (k : Int))) % 2147483647)
def lwf (c : Int) (k : Nat) : Int := if c % 3 = 0 then 1 + lwM c k * lwM c k % 1000000007 / 8 % 3 else if c % 3 = 1 then 2 + 2 * (lwM c k * lwM c k % 1000000007 / 8 % 4) else 1 + lwM c k * lwM c k % 1000000007 / 8 % 10 ^ (6 : Int).toNat
theorem lwf_b (c : Int) (k : Nat) : 1 ≤ lwf c k ∧ lwf c k ≤ 1000000 := by
  unfold lwf
  have e : (10 : Int) ^ (6 : Int).toNat = 1000000 := by decide
  rw [e]
  generalize lwM c k * lwM c k % 1000000007 / 8 = x
  split
  · omega
  · split <;> omega
def lwOf (y : Wy) (c : Int) (m : Nat) : List Int := wList y.wd (lwf c) m
theorem lwOf_fit (y : Wy) (c : Int) (m : Nat) : wfit y.s (lwOf y c m) m = true := by
  refine wfit_iff.mpr ?_
  unfold lwOf wList
  cases y.wd with
  | true =>
    rw [if_pos rfl, if_pos rfl]
    refine ⟨by rw [List.length_map, List.length_range], fun w hw => ?_⟩
    obtain ⟨k, _, rfl⟩ := List.mem_map.mp hw
    exact lwf_b c k
  | false => rfl
def cLW : Ct := fun ds k => ∃ (y : Wy) (c : Int) (m : Nat), ds = [.str y.s, .int c, .int (m : Int)] ∧ m ≤ 60 ∧ k.rl ((lwOf y c m).map PyData.int)
theorem lw_v {y : Wy} {c : Int} {m : Nat} (h : m ≤ 60) : cLW [.str y.s, .int c, .int (m : Int)] (kl ((lwOf y c m).map PyData.int)) := ⟨y, c, m, rfl, h, rfl⟩
def cCustom : Ct := fun ds k => ∃ ns : List Int, ds = [.list (ns.map PyData.int)] ∧ ns.length ≤ 63 ∧ ∀ u : Cu, u.Ok → k.rt u.d
def isCu (d : D) : Prop := ∃ u : Cu, u.Ok ∧ d = u.d
theorem custom_v {ns : List Int} (h : ns.length ≤ 63) : cCustom [.list (ns.map PyData.int)] ⟨isCu, fun _ => False, fun _ => False⟩ := ⟨ns, rfl, h, fun u hu => ⟨u, hu, rfl⟩⟩
end Pu

set_option maxRecDepth 100000
namespace Pu
open PySem PySem.Spec PyProof.Rows L2
/-! ### what customs deal -/
theorem leAll_append : ∀ {a b c d : List Rat}, leAll a b → leAll c d → leAll (a ++ c) (b ++ d)
  | [], [], _, _, _, h => h
  | x :: xs, y :: ys, _, _, h1, h2 => ⟨h1.1, leAll_append h1.2 h2⟩
theorem Dl.cons {c g : Rat} {cs gs : List Rat} {q : Rat} (h : Dl (c :: cs) (g :: gs) q) : 0 ≤ g ∧ g ≤ c ∧ Dl cs gs (q - g) := ⟨h.lo.1, h.hi.1, h.lo.2, h.hi.2, by
  have := h.sum
  rw [show qsum (g :: gs) = g + qsum gs from rfl] at this
  grind⟩
theorem dealL_cut : ∀ (ks : List Cu) (gs : List Rat) (i : Nat) (k : Cu) (g : Rat), ks[i]? = some k → gs[i]? = some g → Cu.dealL (ks.take (i + 1)) (gs.take (i + 1)) = Cu.dealL (ks.take i) (gs.take i) ++ k.deal g
  | [], _, _, _, _, h, _ => by cases h
  | _ :: _, [], _, _, _, _, h => by cases h
  | a :: r, b :: s, 0, k, g, h1, h2 => by
    obtain rfl := Option.some.inj h1
    obtain rfl := Option.some.inj h2
    show a.deal b ++ Cu.dealL (r.take 0) (s.take 0) = [] ++ a.deal b
    rw [List.take_zero, List.take_zero]
    show a.deal b ++ [] = [] ++ a.deal b
    rw [List.append_nil, List.nil_append]
  | a :: r, b :: s, i + 1, k, g, h1, h2 => by
    have := dealL_cut r s i k g h1 h2
    show a.deal b ++ Cu.dealL (r.take (i + 1)) (s.take (i + 1)) = a.deal b ++ Cu.dealL (r.take i) (s.take i) ++ k.deal g
    rw [this, List.append_assoc]
theorem Cu.sum_rat (u : Cu) : ((u.sum : Int) : Rat) = qsum (qlist u.claims) := (qlist_sum u.claims).symm
theorem dealL_dl : ∀ (ks : List Cu) (gs : List Rat) (Q : Rat), Dl (qlist (ks.map Cu.sum)) gs Q → (∀ k ∈ ks, ∀ q : Rat, 0 ≤ q → q ≤ (k.sum : Rat) → Dl (qlist k.claims) (k.deal q) q) → Dl (qlist (Cu.claimsL ks)) (Cu.dealL ks gs) Q
  | [], gs, Q, h, _ => by
    have hl : gs.length = 0 := h.len
    obtain rfl := List.length_eq_zero_iff.mp hl
    exact h
  | k :: r, [], Q, h, _ => by
    have hl : 0 = (qlist ((k :: r).map Cu.sum)).length := h.len
    rw [qlist_len, List.length_map] at hl
    cases hl
  | k :: r, g :: gs, Q, h, ih => by
    obtain ⟨h0, h1, h2⟩ := Dl.cons (c := (k.sum : Rat)) (cs := qlist (r.map Cu.sum)) h
    have a := ih k List.mem_cons_self g h0 h1
    have b := dealL_dl r gs (Q - g) h2 fun x hx => ih x (List.mem_cons_of_mem _ hx)
    have := dl_append a b
    rw [show g + (Q - g) = Q by grind, ← qlist_append] at this
    exact this
theorem deal_dl : ∀ {u : Cu}, u.ok → ∀ {q : Rat}, 0 ≤ q → q ≤ (u.sum : Rat) → Dl (qlist u.claims) (u.deal q) q := fun {u} => Cu.ind (P := fun u => u.ok → ∀ {q : Rat}, 0 ≤ q → q ≤ (u.sum : Rat) → Dl (qlist u.claims) (u.deal q) q) (fun c _ q h0 h1 => by
    have h1 : q ≤ (([c].sum : Int) : Rat) := h1
    rw [show [c].sum = c by simp] at h1
    refine ⟨⟨h0, trivial⟩, ⟨h1, trivial⟩, ?_⟩
    show q + 0 = q
    grind) (fun y ws ks ih h q h0 h1 => by
    refine dealL_dl ks _ q ?_ fun k hk q h0 h1 => ih k hk (Cu.ok_kid h hk) h0 h1
    refine dealOf_ok (fit_knot h) h0 ?_
    rw [qlist_sum, show (ks.map Cu.sum).sum = (Cu.claimsL ks).sum from Cu.sums_sum ks]
    exact h1) u
theorem dealL_mono : ∀ (ks : List Cu) (gs hs : List Rat) (P Q : Rat), Dl (qlist (ks.map Cu.sum)) gs P → Dl (qlist (ks.map Cu.sum)) hs Q → leAll gs hs → (∀ k ∈ ks, ∀ p q : Rat, 0 ≤ p → p ≤ q → q ≤ (k.sum : Rat) → leAll (k.deal p) (k.deal q)) → leAll (Cu.dealL ks gs) (Cu.dealL ks hs)
  | [], _, _, _, _, _, _, _, _ => trivial
  | k :: r, [], hs, P, Q, h, _, _, _ => by
    have hl : 0 = (qlist ((k :: r).map Cu.sum)).length := h.len
    rw [qlist_len, List.length_map] at hl
    cases hl
  | k :: r, g :: gs, [], P, Q, _, _, z, _ => z.elim
  | k :: r, g :: gs, h :: hs, P, Q, h1, h2, hle, ih => by
    obtain ⟨a0, a1, a2⟩ := Dl.cons (c := (k.sum : Rat)) (cs := qlist (r.map Cu.sum)) h1
    obtain ⟨b0, b1, b2⟩ := Dl.cons (c := (k.sum : Rat)) (cs := qlist (r.map Cu.sum)) h2
    exact leAll_append (ih k List.mem_cons_self g h a0 hle.1 b1) (dealL_mono r gs hs _ _ a2 b2 hle.2 fun x hx => ih x (List.mem_cons_of_mem _ hx))
theorem sums_le {y : Wy} {ws : List Int} {ks : List Cu} {q : Rat} (h : q ≤ ((Cu.knot y ws ks).sum : Rat)) : q ≤ qsum (qlist (ks.map Cu.sum)) := by
  rw [qlist_sum, show (ks.map Cu.sum).sum = (Cu.claimsL ks).sum from Cu.sums_sum ks]
  exact h
theorem deal_mono : ∀ {u : Cu}, u.ok → ∀ {p q : Rat}, 0 ≤ p → p ≤ q → q ≤ (u.sum : Rat) → leAll (u.deal p) (u.deal q) := fun {u} => Cu.ind (P := fun u => u.ok → ∀ {p q : Rat}, 0 ≤ p → p ≤ q → q ≤ (u.sum : Rat) → leAll (u.deal p) (u.deal q)) (fun c _ p q h0 h1 _ => ⟨h1, trivial⟩) (fun y ws ks ih h p q h0 h1 h2 => by
    have f := fit_knot h
    have h3 := sums_le h2
    exact dealL_mono ks _ _ p q (dealOf_ok f h0 (by grind)) (dealOf_ok f (by grind) h3) (dealOf_mono f h0 h1 h3) fun k hk p q a b c => ih k hk (Cu.ok_kid h hk) a b c) u
/-! sizes -/
theorem Cu.Ok.sum_b {u : Cu} (h : u.Ok) : 0 ≤ u.sum ∧ u.sum ≤ 12000000000 := by
  have hb := Cu.claims_b h.ok
  have : ∀ l : List Int, (∀ c ∈ l, 0 ≤ c ∧ c ≤ 1000000000) → 0 ≤ l.sum ∧ l.sum ≤ 1000000000 * l.length := fun l => by
    induction l with
    | nil => intro _; exact ⟨Int.le_refl _, Int.le_refl _⟩
    | cons a r ih =>
      intro h
      have h1 := h a List.mem_cons_self
      have h2 := ih fun c hc => h c (List.mem_cons_of_mem _ hc)
      rw [List.sum_cons, List.length_cons]
      omega
  have h1 := this u.claims hb
  have h2 := h.few
  unfold Cu.sum
  omega
theorem Cu.Ok.sum_lt {u : Cu} (h : u.Ok) : u.sum.natAbs < 2 ^ 40 := by
  have := h.sum_b
  have e : (2 : Nat) ^ 40 = 1099511627776 := by decide
  omega
theorem Cu.Ok.small {u : Cu} (h : u.Ok) : small u.claims 40 := fun c hc => by
  have := Cu.claims_b h.ok c hc
  have e : (2 : Nat) ^ 40 = 1099511627776 := by decide
  omega
theorem sums_small {y : Wy} {ws : List Int} {ks : List Cu} (h : (Cu.knot y ws ks).Ok) : Pu.small (ks.map Cu.sum) 40 := fun c hc => by
  obtain ⟨k, hk, rfl⟩ := List.mem_map.mp hc
  exact (h.kid hk).sum_lt
theorem sums_nn {y : Wy} {ws : List Int} {ks : List Cu} (h : (Cu.knot y ws ks).Ok) : ∀ c ∈ ks.map Cu.sum, 0 ≤ c := fun c hc => by
  obtain ⟨k, hk, rfl⟩ := List.mem_map.mp hc
  exact (h.kid hk).sum_b.1
theorem knot_c4 {y : Wy} {ws : List Int} {ks : List Cu} {q : Rat} (h : (Cu.knot y ws ks).Ok) (h0 : 0 ≤ q) (h1 : q ≤ ((Cu.knot y ws ks).sum : Rat)) : dealC y.s ws (ks.map Cu.sum) q = 4 := dealC_ok (fun z => h.ok.1.1 (List.map_eq_nil_iff.mp z)) (sums_nn h) (by rw [List.length_map]; exact h.ok.1.2.2) h0 (sums_le h1)
theorem knot_ask {y : Wy} {ws : List Int} {ks : List Cu} {q : Rat} {n : Nat} (h : (Cu.knot y ws ks).Ok) (h0 : 0 ≤ q) (h1 : q ≤ ((Cu.knot y ws ks).sum : Rat)) (hq : bt q n) (hn : n ≤ 1000000) : Ask y ws (ks.map Cu.sum) q 40 n := ask_of (knot_c4 h h0 h1) (by have := h.ok.1.2.1; rw [List.length_map]; omega) (sums_small h) (by decide) (by decide) hq hn
theorem dealL_bt : ∀ (ks : List Cu) (gs : List Rat) (m : Nat), gs.length = ks.length → (∀ (i : Nat) (k : Cu) (g : Rat), ks[i]? = some k → gs[i]? = some g → ∀ x ∈ k.deal g, bt x m) → ∀ x ∈ Cu.dealL ks gs, bt x m
  | [], _, _, _, _, x, h => by cases h
  | k :: r, [], _, h, _, _, _ => by cases h
  | k :: r, g :: gs, m, hl, ih, x, h => by
    rcases List.mem_append.mp (show x ∈ k.deal g ++ Cu.dealL r gs from h) with h | h
    · exact ih 0 k g rfl rfl x h
    · exact dealL_bt r gs m (Nat.succ.inj hl) (fun i k g h1 h2 => ih (i + 1) k g h1 h2) x h
theorem deal_bt : ∀ {u : Cu}, u.Ok → ∀ {q : Rat} {n : Nat}, 0 ≤ q → q ≤ (u.sum : Rat) → bt q n → n + u.deep * 13000 ≤ 1000000 → ∀ x ∈ u.deal q, bt x (n + u.deep * 13000) := fun {u} => Cu.ind (P := fun u => u.Ok → ∀ {q : Rat} {n : Nat}, 0 ≤ q → q ≤ (u.sum : Rat) → bt q n → n + u.deep * 13000 ≤ 1000000 → ∀ x ∈ u.deal q, bt x (n + u.deep * 13000)) (fun c _ q n _ _ hq _ x hx => by
    obtain rfl := List.mem_singleton.mp (show x ∈ [q] from hx)
    exact hq.mono (by omega)) (fun y ws ks ih h q n h0 h1 hq hn => by
    have hA := knot_ask h h0 h1 hq (by omega)
    have hgl := hA.dl.len
    rw [qlist_len, List.length_map] at hgl
    refine dealL_bt ks _ _ hgl fun i k g hk hg x hx => ?_
    have hm := List.mem_of_getElem? hk
    have bg := hA.bt g (List.mem_of_getElem? hg)
    have hd := Cu.deep_kid (y := y) (ws := ws) hm
    obtain ⟨g0, g1⟩ := hA.dl.get hg (qlist_at (ns := ks.map Cu.sum) (n := k.sum) (by rw [List.getElem?_map, hk]; rfl))
    have e : hB n 40 = n + 12600 := by unfold hB; omega
    rw [e] at bg
    have h2 := ih k hm (h.kid hm) g0 g1 bg (by omega) x hx
    exact h2.mono (by omega)) u
theorem deal_len {u : Cu} (h : u.ok) {q : Rat} (h0 : 0 ≤ q) (h1 : q ≤ (u.sum : Rat)) : (u.deal q).length = u.claims.length := by
  have := (deal_dl h h0 h1).len
  rw [qlist_len] at this
  exact this
/-! contracts -/
def cDealtOn (n : Nat) : Ct := fun ds k => ∃ (u : Cu) (q : Rat) (N : Nat), ds = [u.d, fr q] ∧ u.Ok ∧ u.deep ≤ n ∧ 0 ≤ q ∧ q ≤ (u.sum : Rat) ∧ bt q N ∧ N + u.deep * 13000 ≤ 1000000 ∧ k.rl (fls (u.deal q))
theorem dealtOn_v {n : Nat} {u : Cu} {q : Rat} {N : Nat} (h : u.Ok) (hd : u.deep ≤ n) (h0 : 0 ≤ q) (h1 : q ≤ (u.sum : Rat)) (hq : bt q N) (hN : N + u.deep * 13000 ≤ 1000000) : cDealtOn n [u.d, fr q] (kl (fls (u.deal q))) := ⟨u, q, N, rfl, h, hd, h0, h1, hq, hN, rfl⟩
theorem no_dealt_on {ds : List D} {k : Kc} (h : cDealtOn 0 ds k) : False := by
  obtain ⟨u, _, _, _, _, h, _⟩ := h
  have := u.deep_pos
  omega
def cShares (C : Addr) : Ct := fun ds k => ∃ (u : Cu) (q : Rat) (N : Nat), ds = [u.d, fr q] ∧ u.Ok ∧ bt q N ∧ N ≤ 800000 ∧ ((q < 0 ∨ (u.sum : Rat) < q) → k.ex (.ref C)) ∧ (0 ≤ q → q ≤ (u.sum : Rat) → k.rl (fls (u.deal q)))
theorem shares_v {C : Addr} {u : Cu} {q : Rat} {N : Nat} (h : u.Ok) (h0 : 0 ≤ q) (h1 : q ≤ (u.sum : Rat)) (hq : bt q N) (hN : N ≤ 800000) : cShares C [u.d, fr q] (kl (fls (u.deal q))) := ⟨u, q, N, rfl, h, hq, hN, (fun z => by grind), fun _ _ => rfl⟩
theorem shares_x {C : Addr} {u : Cu} {q : Rat} {N : Nat} (h : u.Ok) (h0 : q < 0 ∨ (u.sum : Rat) < q) (hq : bt q N) (hN : N ≤ 800000) : cShares C [u.d, fr q] (kx (.ref C)) := ⟨u, q, N, rfl, h, hq, hN, (fun z => rfl), fun _ _ => by grind⟩
theorem shares_b {u : Cu} {q : Rat} {n : Nat} (h : u.Ok) (h0 : 0 ≤ q) (h1 : q ≤ (u.sum : Rat)) (hq : bt q n) (hn : n ≤ 800000) : ∀ x ∈ u.deal q, bt x (n + 104000) := fun x hx => by
  have := h.low
  exact (deal_bt h h0 h1 hq (by omega) x hx).mono (by omega)
/-- a catch beyond a claim, told by whole numbers -/
theorem num_neg {q : Rat} : q.num < 0 ↔ q < 0 := by
  have hdq : (0 : Rat) < ((q.den : Int) : Rat) := by have := q.den_pos; exact_mod_cast this
  rw [← Rat.intCast_lt_intCast, num_den q]
  constructor
  · intro h
    exact lt_of_mul hdq (by rw [Rat.zero_mul]; exact h)
  · intro h
    have := Rat.mul_lt_mul_of_pos_right h hdq
    rw [Rat.zero_mul] at this
    exact this
theorem num_big {W : Int} {q : Rat} : W * (q.den : Int) < q.num ↔ (W : Rat) < q := by
  have hdq : (0 : Rat) < ((q.den : Int) : Rat) := by have := q.den_pos; exact_mod_cast this
  rw [← Rat.intCast_lt_intCast, num_den q, Rat.intCast_mul]
  exact ⟨fun h => lt_of_mul hdq h, fun h => Rat.mul_lt_mul_of_pos_right h hdq⟩
/-- a catch that the laws of customs draw -/
def ctBot (c : Int) : Int := if c % 4 = 0 then 1 else if c % 4 = 1 then 1 + c / 4 % 12 else if c % 4 = 2 then 2 else 1 + c / 4 % 10 ^ (9 : Int).toNat
def catchR (c W : Int) : Rat := Rat.divInt (c / 4 % (W * ctBot c + 1)) (ctBot c)
theorem ctBot_b (c : Int) : 1 ≤ ctBot c ∧ ctBot c ≤ 1000000000 := by
  unfold ctBot
  have e : (10 : Int) ^ (9 : Int).toNat = 1000000000 := by decide
  rw [e]
  split
  · decide
  · split
    · omega
    · split <;> omega
theorem catch_ok {c W : Int} {B : Nat} (h0 : 0 ≤ W) (hW : W.natAbs < 2 ^ B) : 0 ≤ catchR c W ∧ catchR c W ≤ (W : Rat) ∧ bt (catchR c W) (B + 31) := by
  unfold catchR
  obtain ⟨b1, b2⟩ := ctBot_b c
  generalize ctBot c = b at b1 b2
  have hWb : 0 ≤ W * b := Int.mul_nonneg h0 (by omega)
  have m1 := Int.emod_nonneg (c / 4) (b := W * b + 1) (by omega)
  have m2 := Int.emod_lt_of_pos (c / 4) (b := W * b + 1) (by omega)
  generalize c / 4 % (W * b + 1) = t at m1 m2
  obtain ⟨f1, f2⟩ := frac_in (t := t) (W := W) (b := b) (by omega) m1 (by omega)
  have hb30 : b.natAbs < 2 ^ 30 := by
    have : (2 : Nat) ^ 30 = 1073741824 := by decide
    omega
  have hwb := abs_mul_lt hW hb30
  refine ⟨f1, f2, bt_divInt (by omega) (Nat.lt_of_lt_of_le (show t.natAbs < 2 ^ (B + 30) by omega) (Nat.pow_le_pow_right (by decide) (by omega))) (Nat.lt_of_lt_of_le hb30 (Nat.pow_le_pow_right (by decide) (by omega)))⟩
def cCatch : Ct := fun ds k => ∃ (c W : Int) (B : Nat), ds = [.int c, .int W] ∧ 0 ≤ W ∧ W.natAbs < 2 ^ B ∧ B ≤ 10000 ∧ k.rt (fr (catchR c W))
theorem catch_v {c W : Int} {B : Nat} (h0 : 0 ≤ W) (hW : W.natAbs < 2 ^ B) (hB : B ≤ 10000) : cCatch [.int c, .int W] (kv (fr (catchR c W))) := ⟨c, W, B, rfl, h0, hW, hB, rfl⟩
def cSumR : Ct := fun ds k => ∃ (gs : List Rat) (N : Nat), ds = [.list (fls gs)] ∧ gs.length ≤ 64 ∧ (∀ g ∈ gs, bt g N) ∧ N ≤ 300000 ∧ k.rt (fr (qsum gs))
theorem sumR_v {gs : List Rat} {N : Nat} (hl : gs.length ≤ 64) (hb : ∀ g ∈ gs, bt g N) (hN : N ≤ 300000) : cSumR [.list (fls gs)] (kv (fr (qsum gs))) := ⟨gs, N, rfl, hl, hb, hN, rfl⟩
/-! the contrary custom -/
mutual
def Cu.con : Cu → Cu
  | .boat c => .boat c
  | .knot y ws ks => .knot y.con ws (Cu.conL ks)
def Cu.conL : List Cu → List Cu
  | [] => []
  | k :: r => k.con :: Cu.conL r
end
theorem Cu.conL_map : ∀ ks : List Cu, Cu.conL ks = ks.map Cu.con
  | [] => rfl
  | k :: r => by rw [Cu.conL, Cu.conL_map r]; rfl
theorem con_same : ∀ u : Cu, u.con.claims = u.claims ∧ u.con.deep = u.deep := fun u => Cu.ind (P := fun u => u.con.claims = u.claims ∧ u.con.deep = u.deep) (fun c => ⟨rfl, rfl⟩) (fun y ws ks ih => by
    have : ∀ l : List Cu, (∀ k ∈ l, k.con.claims = k.claims ∧ k.con.deep = k.deep) → Cu.claimsL (Cu.conL l) = Cu.claimsL l ∧ Cu.deepL (Cu.conL l) = Cu.deepL l := fun l => by
      induction l with
      | nil => intro _; exact ⟨rfl, rfl⟩
      | cons a r ih2 =>
        intro h
        obtain ⟨h1, h2⟩ := h a List.mem_cons_self
        obtain ⟨h3, h4⟩ := ih2 fun x hx => h x (List.mem_cons_of_mem _ hx)
        constructor
        · show a.con.claims ++ Cu.claimsL (Cu.conL r) = a.claims ++ Cu.claimsL r
          rw [h1, h3]
        · show max a.con.deep (Cu.deepL (Cu.conL r)) = max a.deep (Cu.deepL r)
          rw [h2, h4]
    obtain ⟨h1, h2⟩ := this ks ih
    refine ⟨h1, ?_⟩
    show 1 + Cu.deepL (Cu.conL ks) = 1 + Cu.deepL ks
    rw [h2]) u
theorem con_sum (u : Cu) : u.con.sum = u.sum := by unfold Cu.sum; rw [(con_same u).1]
theorem con_ok : ∀ {u : Cu}, u.ok → u.con.ok := fun {u} => Cu.ind (P := fun u => u.ok → u.con.ok) (fun c h => h) (fun y ws ks ih h => by
    obtain ⟨⟨h1, h2, h3⟩, h4⟩ := h
    have hl : (Cu.conL ks).length = ks.length := by rw [Cu.conL_map, List.length_map]
    refine ⟨⟨fun z => h1 ?_, by rw [hl]; exact h2, ?_⟩, ?_⟩
    · rw [z] at hl
      exact List.length_eq_zero_iff.mp hl.symm
    · rw [hl]
      have := wfit_iff.mp h3
      refine wfit_iff.mpr ?_
      cases y <;> exact this
    · rw [Cu.conL_map]
      refine Cu.okL_all.mpr fun k hk => ?_
      obtain ⟨k', hk', rfl⟩ := List.mem_map.mp hk
      exact ih k' hk' (Cu.okL_all.mp h4 k' hk')) u
theorem Cu.Ok.con {u : Cu} (h : u.Ok) : u.con.Ok := ⟨con_ok h.ok, by rw [(con_same u).1]; exact h.few, by rw [(con_same u).2]; exact h.low⟩
theorem con_con : ∀ u : Cu, u.con.con = u := fun u => Cu.ind (P := fun u => u.con.con = u) (fun c => rfl) (fun y ws ks ih => by
    have : Cu.conL (Cu.conL ks) = ks := by
      rw [Cu.conL_map, Cu.conL_map, List.map_map]
      have : ks.map (Cu.con ∘ Cu.con) = ks.map id := List.map_congr_left fun k hk => ih k hk
      rw [this, List.map_id]
    show Cu.knot y.con.con ws (Cu.conL (Cu.conL ks)) = Cu.knot y ws ks
    rw [this, Wy.con_con]) u
theorem lackD_append : ∀ {a b c d : List Rat}, a.length = b.length → lackD (a ++ c) (b ++ d) = lackD a b ++ lackD c d := fun {a b c d} h => by
  unfold lackD
  exact List.zipWith_append h
theorem dealL_con : ∀ (ks : List Cu) (gs : List Rat) (Q : Rat), Dl (qlist (ks.map Cu.sum)) gs Q → (∀ k ∈ ks, ∀ q : Rat, 0 ≤ q → q ≤ (k.sum : Rat) → k.con.deal ((k.sum : Rat) - q) = lackD (qlist k.claims) (k.deal q) ∧ (k.deal q).length = k.claims.length) → Cu.dealL (Cu.conL ks) (lackD (qlist (ks.map Cu.sum)) gs) = lackD (qlist (Cu.claimsL ks)) (Cu.dealL ks gs)
  | [], _, _, _, _ => rfl
  | k :: r, [], Q, h, _ => by
    have hl : 0 = (qlist ((k :: r).map Cu.sum)).length := h.len
    rw [qlist_len, List.length_map] at hl
    cases hl
  | k :: r, g :: gs, Q, h, ih => by
    obtain ⟨h0, h1, h2⟩ := Dl.cons (c := (k.sum : Rat)) (cs := qlist (r.map Cu.sum)) h
    obtain ⟨a1, a2⟩ := ih k List.mem_cons_self g h0 h1
    have b := dealL_con r gs (Q - g) h2 fun x hx => ih x (List.mem_cons_of_mem _ hx)
    show k.con.deal ((k.sum : Rat) - g) ++ Cu.dealL (Cu.conL r) (lackD (qlist (r.map Cu.sum)) gs) = lackD (qlist (k.claims ++ Cu.claimsL r)) (k.deal g ++ Cu.dealL r gs)
    rw [a1, b, qlist_append, lackD_append (by rw [qlist_len, a2])]
theorem deal_con : ∀ {u : Cu}, u.ok → ∀ {q : Rat}, 0 ≤ q → q ≤ (u.sum : Rat) → u.con.deal ((u.sum : Rat) - q) = lackD (qlist u.claims) (u.deal q) := fun {u} => Cu.ind (P := fun u => u.ok → ∀ {q : Rat}, 0 ≤ q → q ≤ (u.sum : Rat) → u.con.deal ((u.sum : Rat) - q) = lackD (qlist u.claims) (u.deal q)) (fun c _ q _ _ => by
    show [(([c].sum : Int) : Rat) - q] = [(c : Rat) - q]
    rw [show [c].sum = c by simp]) (fun y ws ks ih h q h0 h1 => by
    have hS : qsum (qlist (ks.map Cu.sum)) = ((Cu.knot y ws ks).sum : Rat) := by
      rw [qlist_sum, show (ks.map Cu.sum).sum = (Cu.claimsL ks).sum from Cu.sums_sum ks]
      rfl
    have f := fit_knot h
    have h3 := sums_le h1
    have e : (Cu.conL ks).map Cu.sum = ks.map Cu.sum := by
      rw [Cu.conL_map, List.map_map]
      exact List.map_congr_left fun k _ => con_sum k
    show Cu.dealL (Cu.conL ks) (dealOf y.con (qlist ws) (qlist ((Cu.conL ks).map Cu.sum)) (((Cu.knot y ws ks).sum : Rat) - q)) = lackD (qlist (Cu.claimsL ks)) (Cu.dealL ks (dealOf y (qlist ws) (qlist (ks.map Cu.sum)) q))
    rw [e, ← hS, dealOf_con f (by grind) (by grind), show qsum (qlist (ks.map Cu.sum)) - (qsum (qlist (ks.map Cu.sum)) - q) = q by grind]
    exact dealL_con ks _ q (dealOf_ok f h0 h3) fun k hk q a b => ⟨ih k hk (Cu.ok_kid h hk) a b, deal_len (Cu.ok_kid h hk) a b⟩) u
end Pu

set_option maxRecDepth 100000
namespace Pu
open PySem PySem.Spec PyProof.Rows L2
/-! ### laws of customs: rows of catches in order; kids by themselves -/
def frOf : D → Rat
  | .tuple [.int n, .int d] => Rat.divInt n d
  | _ => 0
theorem frOf_fr (q : Rat) : frOf (fr q) = q := q_mk q
theorem cnt_split (q : Rat) : ∀ xs : List Rat, xs.Pairwise (fun a b => a ≤ b) → (∀ x ∈ xs.take (xs.filter fun x => decide (x < q)).length, x < q) ∧ (∀ x ∈ xs.drop (xs.filter fun x => decide (x < q)).length, q ≤ x)
  | [], _ => ⟨fun x h => (by cases h), fun x h => (by cases h)⟩
  | a :: r, h => by
    obtain ⟨h1, h2⟩ := List.pairwise_cons.mp h
    by_cases z : a < q
    · rw [List.filter_cons_of_pos (by rw [decide_eq_true z])]
      obtain ⟨i1, i2⟩ := cnt_split q r h2
      refine ⟨fun x hx => ?_, i2⟩
      rcases List.mem_cons.mp (show x ∈ a :: r.take _ from hx) with rfl | hx
      · exact z
      · exact i1 x hx
    · have e : (a :: r).filter (fun x => decide (x < q)) = [] := List.filter_eq_nil_iff.mpr fun x hx => by
        rcases List.mem_cons.mp hx with rfl | hx
        · simpa using z
        · have := h1 x hx
          have : ¬ x < q := by grind
          simpa using this
      rw [e]
      refine ⟨fun x hx => (by cases hx), fun x hx => ?_⟩
      rcases List.mem_cons.mp (show x ∈ a :: r from hx) with rfl | hx
      · grind
      · have := h1 x hx
        grind
def putQ (q : Rat) (xs : List Rat) : List Rat := xs.take (xs.filter fun x => decide (x < q)).length ++ [q] ++ xs.drop (xs.filter fun x => decide (x < q)).length
theorem putQ_sorted {q : Rat} {xs : List Rat} (h : xs.Pairwise fun a b => a ≤ b) : (putQ q xs).Pairwise fun a b => a ≤ b := by
  obtain ⟨h1, h2⟩ := cnt_split q xs h
  unfold putQ
  generalize (xs.filter fun x => decide (x < q)).length = n at h1 h2
  have h3 : (xs.take n ++ xs.drop n).Pairwise fun a b => a ≤ b := by rw [List.take_append_drop]; exact h
  obtain ⟨p1, p2, p3⟩ := List.pairwise_append.mp h3
  rw [List.append_assoc]
  refine List.pairwise_append.mpr ⟨p1, List.pairwise_cons.mpr ⟨h2, p2⟩, fun a ha b hb => ?_⟩
  rcases List.mem_cons.mp hb with rfl | hb
  · exact Rat.le_of_lt (h1 a ha)
  · exact p3 a ha b hb
theorem putQ_mem {q x : Rat} {xs : List Rat} : x ∈ putQ q xs ↔ x = q ∨ x ∈ xs := by
  unfold putQ
  generalize (xs.filter fun x => decide (x < q)).length = n
  rw [List.append_assoc, List.mem_append, List.mem_append]
  have : x ∈ xs ↔ x ∈ xs.take n ∨ x ∈ xs.drop n := by rw [← List.mem_append, List.take_append_drop]
  rw [this, List.mem_singleton]
  constructor
  · rintro (h | h | h)
    · exact .inr (.inl h)
    · exact .inl h
    · exact .inr (.inr h)
  · rintro (h | h | h)
    · exact .inr (.inl h)
    · exact .inl h
    · exact .inr (.inr h)
theorem putQ_len {q : Rat} {xs : List Rat} : (putQ q xs).length = xs.length + 1 := by
  unfold putQ
  rw [List.length_append, List.length_append, List.length_take, List.length_drop]
  show min _ _ + 1 + _ = _
  have := List.length_filter_le (fun x => decide (x < q)) xs
  omega
theorem leAll_gap : ∀ {xs ys : List Rat} {i : Nat} {x y : Rat}, leAll xs ys → xs[i]? = some x → ys[i]? = some y → y - x ≤ qsum ys - qsum xs
  | a :: r, b :: s, 0, x, y, h, hx, hy => by
    obtain rfl := Option.some.inj hx
    obtain rfl := Option.some.inj hy
    have := leAll_sum h.2
    show b - a ≤ (b + qsum s) - (a + qsum r)
    grind
  | a :: r, b :: s, i + 1, x, y, h, hx, hy => by
    have h1 := leAll_gap h.2 hx hy
    have h2 := h.1
    show y - x ≤ (b + qsum s) - (a + qsum r)
    grind
  | [], _, _, _, _, _, hx, _ => by cases hx
  | _ :: _, [], _, _, _, h, _, _ => h.elim
def cBetweenF : Ct := fun ds k => ∃ (p q : Rat) (a b : Nat), ds = [fr p, fr q] ∧ bt p a ∧ bt q b ∧ a + b ≤ 40000000 ∧ k.rt (fr (q - p))
theorem betweenF_v {p q : Rat} {a b : Nat} (hp : bt p a) (hq : bt q b) (h : a + b ≤ 40000000) : cBetweenF [fr p, fr q] (kv (fr (q - p))) := ⟨p, q, a, b, rfl, hp, hq, h, rfl⟩
/-! kids by themselves -/
mutual
def Cu.paths : Cu → List Int → Int → List (List Int × Int)
  | .boat _, p, at_ => [(p, at_)]
  | .knot _ _ ks, p, at_ => (p, at_) :: Cu.pathsL ks 0 p at_
def Cu.pathsL : List Cu → Nat → List Int → Int → List (List Int × Int)
  | [], _, _, _ => []
  | k :: r, i, p, at_ => k.paths (p ++ [(i : Int)]) at_ ++ Cu.pathsL r (i + 1) p (at_ + (k.claims.length : Int))
end
theorem pathsL_cut : ∀ (ks : List Cu) (i j : Nat) (k : Cu) (p : List Int) (a : Int), ks[i]? = some k → Cu.pathsL (ks.take (i + 1)) j p a = Cu.pathsL (ks.take i) j p a ++ k.paths (p ++ [((j + i : Nat) : Int)]) (a + ((Cu.claimsL (ks.take i)).length : Int))
  | [], _, _, _, _, _, h => by cases h
  | b :: r, 0, j, k, p, a, h => by
    obtain rfl := Option.some.inj h
    show b.paths (p ++ [(j : Int)]) a ++ Cu.pathsL (r.take 0) _ _ _ = [] ++ b.paths (p ++ [((j + 0 : Nat) : Int)]) (a + ((0 : Nat) : Int))
    rw [List.take_zero, Nat.add_zero, show a + ((0 : Nat) : Int) = a by omega, List.nil_append]
    exact List.append_nil _
  | b :: r, i + 1, j, k, p, a, h => by
    have := pathsL_cut r i (j + 1) k p (a + (b.claims.length : Int)) h
    show b.paths (p ++ [(j : Int)]) a ++ Cu.pathsL (r.take (i + 1)) (j + 1) p (a + (b.claims.length : Int)) = b.paths (p ++ [(j : Int)]) a ++ Cu.pathsL (r.take i) (j + 1) p (a + (b.claims.length : Int)) ++ k.paths (p ++ [((j + (i + 1) : Nat) : Int)]) (a + ((b.claims ++ Cu.claimsL (r.take i)).length : Int))
    rw [this, List.append_assoc, List.length_append, show j + 1 + i = j + (i + 1) by omega, show a + (b.claims.length : Int) + ((Cu.claimsL (r.take i)).length : Int) = a + ((b.claims.length + (Cu.claimsL (r.take i)).length : Nat) : Int) by omega]
theorem pathsL_le : ∀ (ks : List Cu) (j i : Nat) (p : List Int) (a : Int), (Cu.pathsL (ks.take i) j p a).length ≤ (Cu.pathsL ks j p a).length
  | [], j, i, p, a => by rw [List.take_nil]; exact Nat.le_refl _
  | b :: r, j, 0, p, a => Nat.zero_le _
  | b :: r, j, i + 1, p, a => by
    have := pathsL_le r (j + 1) i p (a + (b.claims.length : Int))
    show (b.paths _ a ++ Cu.pathsL (r.take i) (j + 1) p _).length ≤ (b.paths _ a ++ Cu.pathsL r (j + 1) p _).length
    rw [List.length_append, List.length_append]
    omega
theorem paths_len : ∀ {u : Cu}, u.ok → ∀ (p : List Int) (a : Int), (u.paths p a).length ≤ u.claims.length * u.deep := fun {u} => Cu.ind (P := fun u => u.ok → ∀ (p : List Int) (a : Int), (u.paths p a).length ≤ u.claims.length * u.deep) (fun c _ p a => Nat.le_refl _) (fun y ws ks ih h p a => by
    have : ∀ (l : List Cu) (m : Nat), (∀ k ∈ l, k.deep ≤ m) → (∀ k ∈ l, ∀ (p : List Int) (a : Int), (k.paths p a).length ≤ k.claims.length * k.deep) → ∀ (j : Nat) (p : List Int) (a : Int), (Cu.pathsL l j p a).length ≤ (Cu.claimsL l).length * m := fun l m => by
      induction l with
      | nil => intro _ _ j p a; exact Nat.zero_le _
      | cons k r ih2 =>
        intro h1 h2 j p a
        have a1 := h2 k List.mem_cons_self (p ++ [(j : Int)]) a
        have a2 := ih2 (fun x hx => h1 x (List.mem_cons_of_mem _ hx)) (fun x hx => h2 x (List.mem_cons_of_mem _ hx)) (j + 1) p (a + (k.claims.length : Int))
        have a3 := Nat.mul_le_mul_left k.claims.length (h1 k List.mem_cons_self)
        show (k.paths _ a ++ Cu.pathsL r (j + 1) p _).length ≤ (k.claims ++ Cu.claimsL r).length * m
        rw [List.length_append, List.length_append, Nat.add_mul]
        omega
    have h1 := this ks (Cu.deepL ks) (fun k hk => Cu.deepL_le.mp (Nat.le_refl _) k hk) (fun k hk => ih k hk (Cu.ok_kid h hk)) 0 p a
    have h2 := List.length_pos_iff.mpr (Cu.claims_ne h)
    have h3 : (Cu.knot y ws ks).claims = Cu.claimsL ks := rfl
    rw [h3] at h2 ⊢
    show (Cu.pathsL ks 0 p a).length + 1 ≤ (Cu.claimsL ks).length * (1 + Cu.deepL ks)
    rw [Nat.mul_add, Nat.mul_one]
    omega) u
/-- v stands in u behind a path, its boats from a place on -/
inductive Sub : Cu → Cu → List Int → Nat → Prop
  | here (u : Cu) : Sub u u [] 0
  | down {y : Wy} {ws : List Int} {ks : List Cu} {k v : Cu} {p : List Int} {a i : Nat} (h : ks[i]? = some k) (s : Sub k v p a) : Sub (.knot y ws ks) v ((i : Int) :: p) ((Cu.claimsL (ks.take i)).length + a)
theorem paths_sub : ∀ (u : Cu) (p0 : List Int) (a0 : Int) (x : List Int × Int), x ∈ u.paths p0 a0 → ∃ v p a, Sub u v p a ∧ x = (p0 ++ p, a0 + (a : Int)) := fun u => Cu.ind (P := fun u => ∀ (p0 : List Int) (a0 : Int) (x : List Int × Int), x ∈ u.paths p0 a0 → ∃ v p a, Sub u v p a ∧ x = (p0 ++ p, a0 + (a : Int))) (fun c p0 a0 x hx => by
    obtain rfl := List.mem_singleton.mp (show x ∈ [(p0, a0)] from hx)
    exact ⟨_, [], 0, .here _, by rw [List.append_nil, show a0 + ((0 : Nat) : Int) = a0 by omega]⟩) (fun y ws ks ih p0 a0 x hx => by
    rcases List.mem_cons.mp (show x ∈ (p0, a0) :: Cu.pathsL ks 0 p0 a0 from hx) with rfl | hx
    · exact ⟨_, [], 0, .here _, by rw [List.append_nil, show a0 + ((0 : Nat) : Int) = a0 by omega]⟩
    · have : ∀ (l : List Cu) (j : Nat) (a : Int), (∀ k ∈ l, k ∈ ks) → x ∈ Cu.pathsL l j p0 a → ∃ (i : Nat) (k : Cu), l[i]? = some k ∧ x ∈ k.paths (p0 ++ [((j + i : Nat) : Int)]) (a + ((Cu.claimsL (l.take i)).length : Int)) := fun l => by
        induction l with
        | nil => intro j a _ h; cases h
        | cons b r ih2 =>
          intro j a hm h
          rcases List.mem_append.mp (show x ∈ b.paths (p0 ++ [(j : Int)]) a ++ Cu.pathsL r (j + 1) p0 (a + (b.claims.length : Int)) from h) with h | h
          · exact ⟨0, b, rfl, by
              show x ∈ b.paths (p0 ++ [((j + 0 : Nat) : Int)]) (a + ((0 : Nat) : Int))
              rw [Nat.add_zero, show a + ((0 : Nat) : Int) = a by omega]
              exact h⟩
          · obtain ⟨i, k, e, hk⟩ := ih2 (j + 1) _ (fun k hk => hm k (List.mem_cons_of_mem _ hk)) h
            refine ⟨i + 1, k, e, ?_⟩
            show x ∈ k.paths (p0 ++ [((j + (i + 1) : Nat) : Int)]) (a + ((b.claims ++ Cu.claimsL (r.take i)).length : Int))
            rw [List.length_append, show j + (i + 1) = j + 1 + i by omega, show a + ((b.claims.length + (Cu.claimsL (r.take i)).length : Nat) : Int) = a + (b.claims.length : Int) + ((Cu.claimsL (r.take i)).length : Int) by omega]
            exact hk
      obtain ⟨i, k, e, hk⟩ := this ks 0 a0 (fun k hk => hk) hx
      obtain ⟨v, p, a, s, rfl⟩ := ih k (List.mem_of_getElem? e) _ _ x hk
      refine ⟨v, (i : Int) :: p, _, .down e s, ?_⟩
      rw [List.append_assoc, Nat.zero_add]
      congr 1
      omega) u
/-- the custom behind a path -/
def kidAt : Cu → List Int → Option Cu
  | u, [] => some u
  | .boat _, _ :: _ => none
  | .knot _ _ ks, i :: p => if i < 0 then none else match ks[i.toNat]? with
    | none => none
    | some k => kidAt k p
theorem kidAt_nil (u : Cu) : kidAt u [] = some u := by unfold kidAt; rfl
theorem kidAt_boat (c j : Int) (p : List Int) : kidAt (.boat c) (j :: p) = none := by unfold kidAt; rfl
theorem kidAt_knot (y : Wy) (ws : List Int) (ks : List Cu) (j : Int) (p : List Int) : kidAt (.knot y ws ks) (j :: p) = if j < 0 then none else match ks[j.toNat]? with
    | none => none
    | some k => kidAt k p := by
  rw [kidAt]
theorem kidAt_one (v : Cu) (n : Int) : kidAt v [n] = match v with
    | .boat _ => none
    | .knot _ _ ks => if n < 0 then none else ks[n.toNat]? := by
  cases v with
  | boat c => exact kidAt_boat c n []
  | knot y ws ks =>
    rw [kidAt_knot]
    show (if n < 0 then none else _) = if n < 0 then none else ks[n.toNat]?
    split
    · rfl
    · cases ks[n.toNat]? with
      | none => rfl
      | some k => exact kidAt_nil k
theorem kidAt_snoc : ∀ (p : List Int) (u v : Cu) (i : Int), kidAt u p = some v → kidAt u (p ++ [i]) = kidAt v [i]
  | [], u, v, i, h => by
    rw [kidAt_nil] at h
    obtain rfl := Option.some.inj h
    rfl
  | j :: p, .boat c, v, i, h => by rw [kidAt_boat] at h; cases h
  | j :: p, .knot y ws ks, v, i, h => by
    rw [kidAt_knot] at h
    show kidAt (.knot y ws ks) (j :: (p ++ [i])) = _
    rw [kidAt_knot]
    split at h
    · cases h
    · rename_i h0
      rw [if_neg h0]
      cases e : ks[j.toNat]? with
      | none => rw [e] at h; cases h
      | some k =>
        rw [e] at h
        exact kidAt_snoc p k v i h
theorem kidAt_none : ∀ (q r : List Int) (u : Cu), kidAt u q = none → kidAt u (q ++ r) = none
  | [], r, u, h => by rw [kidAt_nil] at h; cases h
  | a :: s, r, .boat c, h => kidAt_boat c a (s ++ r)
  | a :: s, r, .knot y ws ks, h => by
    rw [kidAt_knot] at h
    show kidAt (.knot y ws ks) (a :: (s ++ r)) = none
    rw [kidAt_knot]
    split at h
    · rename_i h0
      rw [if_pos h0]
    · rename_i h0
      rw [if_neg h0]
      cases e : ks[a.toNat]? with
      | none => rfl
      | some k =>
        rw [e] at h
        exact kidAt_none s r k h
theorem sub_kid {u v : Cu} {p : List Int} {a : Nat} (s : Sub u v p a) : kidAt u p = some v := by
  induction s with
  | here u => unfold kidAt; rfl
  | down h s ih =>
    unfold kidAt
    rw [if_neg (by omega), Int.toNat_natCast, h]
    exact ih
theorem sub_ok {u v : Cu} {p : List Int} {a : Nat} (s : Sub u v p a) : u.Ok → v.Ok := by
  induction s with
  | here u => exact id
  | down h s ih => exact fun hu => ih (hu.kid (List.mem_of_getElem? h))
theorem dealL_slice : ∀ (ks : List Cu) (gs : List Rat) (i : Nat) (k : Cu) (g : Rat), (∀ (j : Nat) (k : Cu) (g : Rat), ks[j]? = some k → gs[j]? = some g → (k.deal g).length = k.claims.length) → ks[i]? = some k → gs[i]? = some g → ∀ (a n : Nat), a + n ≤ k.claims.length → (((Cu.dealL ks gs).drop ((Cu.claimsL (ks.take i)).length + a)).take n) = (((k.deal g).drop a).take n)
  | [], _, _, _, _, _, h, _ => by cases h
  | _ :: _, [], _, _, _, _, _, h => by cases h
  | b :: r, c :: s, 0, k, g, hl, h1, h2 => fun a n ha => by
    obtain rfl := Option.some.inj h1
    obtain rfl := Option.some.inj h2
    have h0 := hl 0 b c rfl rfl
    show ((b.deal c ++ Cu.dealL r s).drop (0 + a)).take n = _
    rw [Nat.zero_add, List.drop_append_of_le_length (by omega), List.take_append_of_le_length (by rw [List.length_drop]; omega)]
  | b :: r, c :: s, i + 1, k, g, hl, h1, h2 => fun a n ha => by
    have h0 := hl 0 b c rfl rfl
    have := dealL_slice r s i k g (fun j k g e1 e2 => hl (j + 1) k g e1 e2) h1 h2 a n ha
    show ((b.deal c ++ Cu.dealL r s).drop ((b.claims ++ Cu.claimsL (r.take i)).length + a)).take n = _
    rw [← this, List.length_append, ← h0, Nat.add_assoc, List.drop_append]
    rw [List.drop_eq_nil_of_le (by omega), List.nil_append, show (b.deal c).length + ((Cu.claimsL (r.take i)).length + a) - (b.deal c).length = (Cu.claimsL (r.take i)).length + a by omega]
theorem claimsL_slice_le : ∀ (ks : List Cu) (i : Nat) (k : Cu), ks[i]? = some k → (Cu.claimsL (ks.take i)).length + k.claims.length ≤ (Cu.claimsL ks).length := fun ks i k h => by
  have h1 := Cu.claimsL_le ks (i + 1)
  rw [Cu.claimsL_cut ks i k h, List.length_append] at h1
  exact h1
/-- what a custom's kid gets is what that kid deals by itself -/
theorem sub_deal {u v : Cu} {p : List Int} {a : Nat} (s : Sub u v p a) : u.Ok → a + v.claims.length ≤ u.claims.length ∧ ∀ q : Rat, 0 ≤ q → q ≤ (u.sum : Rat) → ∃ g : Rat, 0 ≤ g ∧ g ≤ (v.sum : Rat) ∧ ((u.deal q).drop a).take v.claims.length = v.deal g ∧ ∀ n, bt q n → n + u.deep * 13000 ≤ 1000000 → bt g (n + u.deep * 13000) := by
  induction s with
  | here u =>
    intro hu
    refine ⟨by omega, fun q h0 h1 => ⟨q, h0, h1, ?_, fun n b _ => b.mono (by omega)⟩⟩
    rw [List.drop_zero, ← deal_len hu.ok h0 h1, List.take_length]
  | @down y ws ks k v p a i h s ih =>
    intro hu
    have hm := List.mem_of_getElem? h
    obtain ⟨i1, i2⟩ := ih (hu.kid hm)
    have hc := claimsL_slice_le ks i k h
    refine ⟨by show (Cu.claimsL (ks.take i)).length + a + v.claims.length ≤ (Cu.claimsL ks).length; omega, fun q h0 h1 => ?_⟩
    have hD := dealOf_ok (fit_knot hu.ok) h0 (sums_le h1)
    have hgl := hD.len
    rw [qlist_len, List.length_map] at hgl
    have hin : ∀ (j : Nat) (k : Cu) (g : Rat), ks[j]? = some k → (dealOf y (qlist ws) (qlist (ks.map Cu.sum)) q)[j]? = some g → 0 ≤ g ∧ g ≤ (k.sum : Rat) := fun j k g e1 e2 => hD.get e2 (qlist_at (ns := ks.map Cu.sum) (n := k.sum) (by rw [List.getElem?_map, e1]; rfl))
    obtain ⟨g, hg⟩ : ∃ g, (dealOf y (qlist ws) (qlist (ks.map Cu.sum)) q)[i]? = some g := ⟨_, List.getElem?_eq_getElem (by rw [hgl]; exact getElem?_lt h)⟩
    obtain ⟨g0, g1⟩ := hin i k g h hg
    obtain ⟨g', a1, a2, a3, a4⟩ := i2 g g0 g1
    refine ⟨g', a1, a2, ?_, fun n b hn => ?_⟩
    rotate_left
    · have hdk := Cu.deep_kid (y := y) (ws := ws) hm
      have hA := knot_ask hu h0 h1 b (by omega)
      have bg := hA.bt g (List.mem_of_getElem? hg)
      rw [show hB n 40 = n + 12600 by unfold hB; omega] at bg
      exact (a4 _ bg (by omega)).mono (by omega)
    rw [← a3]
    exact dealL_slice ks _ i k g (fun j k g e1 e2 => by
      obtain ⟨b0, b1⟩ := hin j k g e1 e2
      exact deal_len (Cu.ok_kid hu.ok (List.mem_of_getElem? e1)) b0 b1) h hg a v.claims.length i1
def cKidAt (C : Addr) : Ct := fun ds k => ∃ (u : Cu) (dp : D) (p : List Int), ds = [u.d, dp] ∧ SeqD dp (p.map PyData.int) ∧ (kidAt u p = none → k.ex (.ref C)) ∧ (∀ v, kidAt u p = some v → k.rt v.d)
theorem kidAt_v {C : Addr} {u v : Cu} {dp : D} {p : List Int} (hd : SeqD dp (p.map PyData.int)) (h : kidAt u p = some v) : cKidAt C [u.d, dp] (kv v.d) := ⟨u, dp, p, rfl, hd, (fun z => by rw [h] at z; cases z), fun w hw => by rw [h] at hw; cases hw; rfl⟩
theorem kidAt_x {C : Addr} {u : Cu} {dp : D} {p : List Int} (hd : SeqD dp (p.map PyData.int)) (h : kidAt u p = none) : cKidAt C [u.d, dp] (kx (.ref C)) := ⟨u, dp, p, rfl, hd, (fun z => rfl), fun w hw => by rw [h] at hw; cases hw⟩
def pD (x : List Int × Int) : D := .tuple [.list (x.1.map PyData.int), .int x.2]
def cPaths (n : Nat) : Ct := fun ds k => ∃ (u : Cu) (p : List Int) (a : Int), ds = [u.d, .list (p.map PyData.int), .int a] ∧ u.Ok ∧ u.deep ≤ n ∧ p.length + u.deep ≤ 1000 ∧ k.rl ((u.paths p a).map pD)
theorem paths_v {n : Nat} {u : Cu} {p : List Int} {a : Int} (h : u.Ok) (hd : u.deep ≤ n) (hp : p.length + u.deep ≤ 1000) : cPaths n [u.d, .list (p.map PyData.int), .int a] (kl ((u.paths p a).map pD)) := ⟨u, p, a, rfl, h, hd, hp, rfl⟩
/-- x is True -/
theorem o_isB {X : Cx} : OpR X (compareOp .Is) rIsB := op_isBl
theorem v_isB {K : Frag} {ρ : En} {ta tb : TE} {a b : Bool} (ha : Ev K ta ρ (.bool a)) (hb : Ev K tb ρ (.bool b)) : Ev K (tOp rIsB ta tb) ρ (.bool (decide (a = b))) := fun R0 H0 R σ H A Q q =>
  ha R0 H0 R σ H A _ fun x R1 H1 g1 dx => hb R0 H0 R1 σ H1 (A.grow g1) _ fun y R2 H2 g2 dy => by
    cases dx; cases dy
    exact ⟨a, b, rfl, rfl, q _ R2 H2 (g1.trans g2) (.bl _)⟩
theorem at_5 {α : Type} {a b c d e : α} {k : Int} (h0 : 0 ≤ k) (h : k < 5) : atI [a, b, c, d, e] k = some (if k = 0 then a else if k = 1 then b else if k = 2 then c else if k = 3 then d else e) := by
  rcases (by omega : k = 0 ∨ k = 1 ∨ k = 2 ∨ k = 3 ∨ k = 4) with rfl | rfl | rfl | rfl | rfl <;> rfl
end Pu

set_option maxRecDepth 100000
namespace Pu
open PySem PySem.Spec PyProof.Rows L2
/-- a call whose answer is known by what holds of it, parted among names -/
theorem sd_asgP {K : Frag} {ρ : En} {ta : TA} {c : Ct} {ds : List D} {E : L2.St → XK} {W : WX} {ex : Value → En → Prop} {k : Ko} {g : TG} (P : D → Prop) (ha : EvA K ta ρ ds) (hc : c ds ⟨P, fun _ => False, fun _ => False⟩) (hk : ∀ d, P d → ∃ ρ2, Gd K g d ρ ρ2 ∧ k.nx ρ2) : Sd K W ex (tAsg (tCallS (spc K c) E ta) g) ρ k := fun R0 H0 ok R σ H a D m =>
  ha R0 H0 R σ H a _ fun vs R1 H1 g1 dx => ⟨R1, ds, _, g1.sub, dx, hc, fun d v R' H' h g2 dv => by
    obtain ⟨ρ2, hg, hn⟩ := hk d h
    exact hg R0 H0 R' v σ H' (a.grow (g1.trans g2)) dv _ fun σ' a' => m.nx _ R' _ H' hn a', fun _ _ _ _ _ h => h.elim, fun _ _ _ h => h.elim⟩
theorem ev_neS {K : Frag} {ρ : En} {ta tb : TE} {a b : Str} (ha : Ev K ta ρ (.str a)) (hb : Ev K tb ρ (.str b)) (h1 : SeqAt.shaped (.str a) = true) (h2 : SeqAt.shaped (.str b) = true) : Ev K (tOp (rNeD K) ta tb) ρ (.bool (!decide (a = b))) := Ev.is (ev_neD ha hb h1 h2) (by rw [str_eqv])
/-- x is not True -/
theorem o_notB {X : Cx} : OpR X (compareOp .IsNot) rNotB := op_notBl
theorem v_notB {K : Frag} {ρ : En} {ta tb : TE} {a b : Bool} (ha : Ev K ta ρ (.bool a)) (hb : Ev K tb ρ (.bool b)) : Ev K (tOp rNotB ta tb) ρ (.bool (!decide (a = b))) := fun R0 H0 R σ H A Q q =>
  ha R0 H0 R σ H A _ fun x R1 H1 g1 dx => hb R0 H0 R1 σ H1 (A.grow g1) _ fun y R2 H2 g2 dy => by
    cases dx; cases dy
    exact ⟨a, b, rfl, rfl, q _ R2 H2 (g1.trans g2) (.bl _)⟩
/-- isinstance of an own list -/
theorem v_isiO {K : Frag} {ρ : En} {ds : List D} {T : String} {b : Bool} {i : Nat} (h : ρ[i]? = some (.own ds)) (hk : kitB "list" T = some b) : Ev K (tCB (rIsi K) (tCons (tVar i) (tCons (tC (.ty T)) tNil))) ρ (.bool b) := fun R0 H0 R σ H a Q q => by
  obtain ⟨p, vs, h1, h2, h3, h4, h5⟩ := a.own i ds h
  exact ⟨_, h1, .ref p, .ty T, _, _, b, rfl, .ty T, .base (.lst h2), kit_ty hk, q _ R H (Grow.refl a.gr.sub) (.bl b)⟩
/-- a dict of texts that is read once, in the tuple that is told -/
theorem sd_dictRet {K : Frag} {ρ : En} {W : WX} {ex : Value → En → Prop} {k : Ko} {i : Nat} {trs : List (TE × TE)} {kvs : List (Key × V)} {te : TE} {tr : TA} {z w : Str} {ds : List D}
    (hp : ∀ σ H (Q : List (V × V) → Hp → Prop), Q (kvs.map fun kv => (kV kv.1, kv.2)) H → tPairs trs σ H Q) (hl : kvs.length ≤ 15) (hi : ∀ v, (ρ.set i (.raw v))[i]? = some (.raw v))
    (ht : ∀ v, Ev K te (ρ.set i (.raw v)) (.str z)) (hv : valV (mergeK [] kvs) (.inr z) = some (.str w)) (hr : ∀ v, EvA K tr (ρ.set i (.raw v)) ds) (hn : ds.length ≤ 1000) (hk : k.rt (.tuple (.str w :: ds))) :
    Sd K W ex (tSeq (tAsg (tDisp trs) (gName i)) (tRet (tTup (tCons (tDGet (tVar i) te) tr)))) ρ k := fun R0 H0 ok R σ H a D m => fun p hfree => hp _ _ _ ⟨upd_same, kvs, rfl, hl, by
  rw [upd_upd]
  have a2 := (a.grow (Grow.hide (o := .dK (mergeK [] kvs)) a.gr.sub hfree)).set_raw (i := i) (v := .ref p)
  refine ⟨.ref p, a2.raw i _ (hi _), ht (.ref p) R0 H0 R _ _ a2 _ fun y R2 H2 g2 dy => ?_⟩
  cases dy
  refine ⟨p, .str w, rfl, ?_, ?_⟩
  · have := DGet.k (k := .inr z) (g2.hp _ _ (upd_same (H := H) (a := p) (o := .dK (mergeK [] kvs))))
    rw [hv] at this
    exact this
  · refine hr (.ref p) R0 H0 R2 _ H2 (a2.grow g2) _ fun vs R3 H3 g3 dvs => ?_
    have hall : DpAll K R3 (V.str w :: vs) (.str w :: ds) := .cons (.str _) dvs
    refine ⟨Nat.le_trans (by rw [dpa_len hall, List.length_cons]; omega) (show 1001 ≤ sizeLine by decide), fun q hq => ?_⟩
    have g4 := Grow.alloc (o := .tup (V.str w :: vs)) g3.sub hq
    exact m.rt _ _ _ _ hk (((a2.grow g2).gr.trans g3).trans g4) (.tup (SqT.of upd_same) (dpa_mono g4.rd _ _ hall))⟩
/-- what stands behind a path, or nothing -/
def oD : Option Cu → D
  | none => .none
  | some v => v.d
def cPath : Ct := fun ds k => ∃ (u : Cu) (c : Int), ds = [u.d, .int c] ∧ u.Ok ∧ ∀ p : List Int, p.length ≤ 100 → k.rt (.tuple [.list (p.map PyData.int), oD (kidAt u p)])
def isPath (u : Cu) (d : D) : Prop := ∃ p : List Int, p.length ≤ 100 ∧ d = .tuple [.list (p.map PyData.int), oD (kidAt u p)]
theorem path_v {u : Cu} {c : Int} (h : u.Ok) : cPath [u.d, .int c] ⟨isPath u, fun _ => False, fun _ => False⟩ := ⟨u, c, rfl, h, fun p hp => ⟨p, hp, rfl⟩⟩
theorem kidAt_ok : ∀ {p : List Int} {u v : Cu}, u.Ok → kidAt u p = some v → v.Ok ∧ p.length + v.deep ≤ u.deep
  | [], u, v, hu, h => by
    rw [kidAt_nil] at h
    obtain rfl := Option.some.inj h
    exact ⟨hu, by show 0 + _ ≤ _; omega⟩
  | j :: p, .boat c, v, hu, h => by rw [kidAt_boat] at h; cases h
  | j :: p, .knot y ws ks, v, hu, h => by
    rw [kidAt_knot] at h
    split at h
    · cases h
    · cases e : ks[j.toNat]? with
      | none => rw [e] at h; cases h
      | some k =>
        rw [e] at h
        have hm := List.mem_of_getElem? e
        obtain ⟨h1, h2⟩ := kidAt_ok (hu.kid hm) h
        have := Cu.deep_kid (y := y) (ws := ws) hm
        exact ⟨h1, by show p.length + 1 + _ ≤ _; omega⟩
end Pu

set_option maxRecDepth 100000
namespace Pu
open PySem PySem.Spec PyProof.Rows L2
section
variable {K : Frag} {ρ : En} {te : TE} {tt : TT} {g : TG}
/-- a comprehension with a test, over things that are told by a function -/
theorem f_filtA {α : Type} {enc : α → D} {xs : List α} {wi : TI} {vs : List Nat} (p : α → Bool) (f : α → D) (hI : Id K wi ρ (xs.map enc)) (hw : Gw g vs)
    (hs : ∀ (i : Nat) (x : α), xs[i]? = some x → ∃ ρ2, Gd K g (enc x) (wipeE ρ vs) ρ2 ∧ EvT K tt ρ2 (p x) ∧ (p x = true → Ev K te ρ2 (f x))) (hl : xs.length ≤ 100000) : EvF K (tLc wi g tt te vs) ρ ((xs.filter p).map f) := fun R0 H0 R σ H a Q q => by
  refine hI R0 H0 R σ H a _ fun J R' H' gr yl => ?_
  intro Dd hD
  refine ⟨fun i n H2 => n = xs.length - i ∧ i ≤ xs.length ∧ ∃ R2 acc, Grow R' H' R2 H2 ∧ R2 Dd = none ∧ H2 Dd = some (.lst acc) ∧ DpAll K R2 acc (((xs.take i).filter p).map f), ⟨xs.length, by simp, Nat.zero_le _, R', [], Grow.hide gr.sub hD, gr.sub.free hD, upd_same, .nil⟩, ?_⟩
  rintro i n H2 ⟨rfl, hi, R2, acc, g2, r2, h2, da⟩
  obtain ⟨y1, y2⟩ := yl R2 H2 g2.rd g2.sub
  by_cases hlt : i < xs.length
  · have hd : xs[i]? = some xs[i] := List.getElem?_eq_getElem hlt
    obtain ⟨go, yld⟩ := y1 i (enc xs[i]) (by rw [List.getElem?_map, hd]; rfl)
    refine .inr ⟨go, fun H3 => ∃ R3 acc, Grow R' H' R3 H3 ∧ R3 Dd = none ∧ H3 Dd = some (.lst acc) ∧ DpAll K R3 acc (((xs.take (i + 1)).filter p).map f), fun H3 ⟨R3, acc, h⟩ => ⟨xs.length - (i + 1), by omega, rfl, hlt, R3, acc, h⟩, fun x H3 y => ?_⟩
    obtain ⟨R3, g3, dx⟩ := yld x H3 y
    obtain ⟨ρ2, hg, ht, he⟩ := hs i xs[i] hd
    have a3 : At K R0 H0 R3 (wipeE ρ vs) (L2.wipe σ vs) H3 := (a.grow ((gr.trans g2).trans g3)).wipe vs
    refine hw x _ H3 _ wipe_wipe ?_
    refine hg R0 H0 R3 x _ H3 a3 dx _ fun σ4 a4 _ => ?_
    refine ht R0 H0 R3 σ4 H3 a4 _ fun R5 H5 g5 => ?_
    have keepD : ∀ {Rz Hz : Hp}, Grow R2 H2 Rz Hz → Rz Dd = none := fun {Rz Hz} gz => by
      cases e : Rz Dd with
      | none => rfl
      | some o =>
        have z := gz.new Dd r2 (by rw [e]; exact fun z => nomatch z)
        rw [h2] at z
        cases z
    have tk : xs.take (i + 1) = xs.take i ++ [xs[i]] := by rw [List.take_add_one, hd]; rfl
    cases hp : p xs[i] with
    | false =>
      refine iteF ⟨R5, acc, (g2.trans g3).trans g5, keepD (g3.trans g5), (g3.trans g5).hp _ _ h2, ?_⟩
      rw [tk, List.filter_append, List.filter_cons_of_neg (by rw [hp]; exact Bool.false_ne_true), List.filter_nil, List.append_nil]
      exact dpa_mono (g3.trans g5).rd _ _ da
    | true =>
      refine iteT (he hp R0 H0 R5 σ4 H5 (a4.grow g5) _ fun y R6 H6 g6 dy => ?_)
      have g36 := (g3.trans g5).trans g6
      refine ⟨acc, g36.hp _ _ h2, ?_, R6, acc ++ [y], ?_, keepD g36, upd_same, ?_⟩
      · rw [dpa_len da, List.length_map]
        have l1 := List.length_filter_le p (xs.take i)
        rw [List.length_take] at l1
        exact Nat.lt_of_le_of_lt (Nat.le_trans l1 (Nat.le_trans (Nat.min_le_right _ _) hl)) (by decide)
      · have G := g2.trans g36
        have hD' : H' Dd = none := hD
        refine ⟨G.rd, fun b o e => ?_, fun b o e => ?_, G.new⟩
        · rw [upd_ne (ne_of_none e hD')]
          exact G.hp _ _ e
        · rw [upd_ne (ne_of_none e (keepD g36))]
          exact G.sub _ _ e
      · rw [tk, List.filter_append, List.filter_cons_of_pos hp, List.filter_nil, List.map_append]
        exact dpa_snoc (dpa_mono g36.rd _ _ da) dy
  · have e : i = xs.length := by omega
    subst e
    rw [List.take_length] at da
    have hn : ((xs.map enc).length) = xs.length := List.length_map _
    rw [hn] at y2
    exact .inl ⟨y2, q Dd acc R2 H2 (gr.trans g2) (gr.hp.free hD) r2 h2 da⟩
end
section
variable {K : Frag} {R0 H0 R H : Hp} {ρ : En} {σ : L2.St}
/-- an own list, for a while seen as data that stays -/
theorem At.peek (a : At K R0 H0 R ρ σ H) {i : Nat} {ds : List D} (e : ρ[i]? = some (.own ds)) : ∃ p vs, H p = some (.lst vs) ∧ R p = none ∧ H0 p = none ∧ At K R0 H0 (upd R p (.lst vs)) (ρ.set i (.val (.list ds))) σ H := by
  obtain ⟨p, vs, h1, h2, h3, h4, h5⟩ := a.own i ds e
  have hl : i < ρ.length := (List.getElem?_eq_some_iff.mp e).1
  have rr : Same R (upd R p (.lst vs)) := same_upd h4
  refine ⟨p, vs, h2, h4, h5, a.gr.show_ h5 h2, by rw [List.length_set]; exact a.len, fun j d q => ?_, fun j es q => ?_, fun j v q => ?_, fun j k b es fs hjk q1 q2 s1 => ?_⟩
  · by_cases hj : i = j
    · subst hj
      rw [List.getElem?_set_self hl] at q
      cases q
      exact ⟨_, h1, .lst (SqL.of upd_same) (dpa_mono rr _ _ h3)⟩
    · rw [List.getElem?_set_ne hj] at q
      obtain ⟨v, g1, g2⟩ := a.val j d q
      exact ⟨v, g1, dp_mono rr _ _ g2⟩
  · have hj : i ≠ j := fun z => by
      subst z
      rw [List.getElem?_set_self hl] at q
      cases q
    rw [List.getElem?_set_ne hj] at q
    obtain ⟨p2, vs2, g1, g2, g3, g4, g5⟩ := a.own j es q
    have np : p2 ≠ p := fun z => a.apart i j p ds es hj e q h1 (by rw [← z]; exact g1)
    exact ⟨p2, vs2, g1, g2, dpa_mono rr _ _ g3, by rw [upd_ne np]; exact g4, g5⟩
  · have hj : i ≠ j := fun z => by
      subst z
      rw [List.getElem?_set_self hl] at q
      cases q
    rw [List.getElem?_set_ne hj] at q
    exact a.raw j v q
  · have n1 : i ≠ j := fun z => by
      subst z
      rw [List.getElem?_set_self hl] at q1; cases q1
    have n2 : i ≠ k := fun z => by
      subst z
      rw [List.getElem?_set_self hl] at q2; cases q2
    rw [List.getElem?_set_ne n1] at q1
    rw [List.getElem?_set_ne n2] at q2
    exact a.apart j k b es fs hjk q1 q2 s1
def less1 (R : Hp) (p : Addr) : Hp := fun b => if b = p then none else R b
theorem less1_ne {R : Hp} {p b : Addr} (h : b ≠ p) : less1 R p b = R b := if_neg h
theorem Grow.less {R' H' : Hp} {p : Addr} {o : HO} (hr : R p = none) (g : Grow (upd R p o) H R' H') : Grow R H (less1 R' p) H' := ⟨fun b x e => by
    have hb : b ≠ p := fun z => by rw [z, hr] at e; cases e
    rw [less1_ne hb]
    exact g.rd b x (by rw [upd_ne hb]; exact e), g.hp, fun b x e => by
    unfold less1 at e
    split at e
    · cases e
    · exact g.sub b x e, fun b e n => by
    unfold less1 at n
    split at n
    · exact absurd rfl n
    · rename_i hb
      exact g.new b (by rw [upd_ne hb]; exact e) n⟩
/-- data in which no list stands -/
def solid : D → Prop
  | .none | .bool _ | .int _ | .str _ => True
  | .tuple ds => ∀ d ∈ ds, (match d with | .none | .bool _ | .int _ | .str _ => True | _ => False)
  | _ => False
theorem dp_less {R : Hp} {p : Addr} {vs : List V} {v : V} {d : D} (hp : R p = some (.lst vs)) (hs : solid d) (h : Dp K R v d) : Dp K (less1 R p) v d := by
  have simple : ∀ {v : V} {d : D}, (match d with | .none | .bool _ | .int _ | .str _ => True | _ => False) → Dp K R v d → Dp K (less1 R p) v d := fun {v d} q h => by
    cases h with
    | non => exact .non
    | bl b => exact .bl b
    | int i => exact .int i
    | str x => exact .str x
    | lst _ _ => exact q.elim
    | tup _ _ => exact q.elim
  cases h with
  | non => exact .non
  | bl b => exact .bl b
  | int i => exact .int i
  | str x => exact .str x
  | lst _ _ => exact hs.elim
  | @tup a xs ds hx ha =>
    have key : ∀ {xs : List V} {ds : List D}, (∀ d ∈ ds, (match d with | .none | .bool _ | .int _ | .str _ => True | _ => False)) → DpAll K R xs ds → DpAll K (less1 R p) xs ds := fun {xs} => by
      induction xs with
      | nil => intro ds hs ha; cases ha; exact .nil
      | cons x r ih =>
        intro ds hs ha
        cases ha with
        | cons h1 h2 => exact .cons (simple (hs _ List.mem_cons_self) h1) (ih (fun d hd => hs d (List.mem_cons_of_mem _ hd)) h2)
    refine .tup ?_ (key hs ha)
    have ne : ∀ {b : Addr} {x : HO}, R b = some x → (∀ zs, x ≠ .lst zs) → less1 R p b = some x := fun {b x} e n => by
      rw [less1_ne (fun z => by rw [z, hp] at e; exact n _ (Option.some.inj e).symm)]
      exact e
    rcases hx with (h | ⟨o, h⟩) | h
    · exact .inl (.inl (ne h fun zs z => nomatch z))
    · exact .inl (.inr ⟨o, ne h fun zs z => nomatch z⟩)
    · exact .inr h
theorem dpa_less {R : Hp} {p : Addr} {vs : List V} (hp : R p = some (.lst vs)) : ∀ {xs : List V} {ds : List D}, (∀ d ∈ ds, solid d) → DpAll K R xs ds → DpAll K (less1 R p) xs ds := fun {xs} => by
  induction xs with
  | nil => intro ds hs ha; cases ha; exact .nil
  | cons x r ih =>
    intro ds hs ha
    cases ha with
    | cons h1 h2 => exact .cons (dp_less hp (hs _ List.mem_cons_self) h1) (ih (fun d hd => hs d (List.mem_cons_of_mem _ hd)) h2)
theorem EvF.peek {te : TE} {i : Nat} {ds es : List D} (e : ρ[i]? = some (.own ds)) (h : EvF K te (ρ.set i (.val (.list ds))) es) (hs : ∀ d ∈ es, solid d) : EvF K te ρ es := fun R0 H0 R σ H a Q q => by
  obtain ⟨p, vs, h2, h3, h4, a1⟩ := a.peek e
  refine h R0 H0 _ σ H a1 Q fun p2 vs2 R' H' g n1 n2 hp dv => ?_
  have hpr : R' p = some (.lst vs) := g.rd _ _ upd_same
  have np : p2 ≠ p := fun z => by rw [z, h2] at n1; cases n1
  exact q p2 vs2 _ H' (g.less h3) n1 (by rw [less1_ne np]; exact n2) hp (dpa_less hpr hs dv)
theorem Ev.peek {te : TE} {i : Nat} {ds : List D} {d : D} (e : ρ[i]? = some (.own ds)) (h : Ev K te (ρ.set i (.val (.list ds))) d) (hs : solid d) : Ev K te ρ d := fun R0 H0 R σ H a Q q => by
  obtain ⟨p, vs, h2, h3, h4, a1⟩ := a.peek e
  refine h R0 H0 _ σ H a1 Q fun v R' H' g dv => ?_
  have hpr : R' p = some (.lst vs) := g.rd _ _ upd_same
  exact q v _ H' (g.less h3) (dp_less hpr hs dv)
theorem EvT.peek {tt : TT} {i : Nat} {ds : List D} {b : Bool} (e : ρ[i]? = some (.own ds)) (h : EvT K tt (ρ.set i (.val (.list ds))) b) : EvT K tt ρ b := fun R0 H0 R σ H a Q q => by
  obtain ⟨p, vs, h2, h3, h4, a1⟩ := a.peek e
  exact h R0 H0 _ σ H a1 Q fun R' H' g => q _ H' (g.less h3)
theorem solid_fls {qs : List Rat} : ∀ d ∈ fls qs, solid d := fun d hd => by
  obtain ⟨q, _, rfl⟩ := List.mem_map.mp hd
  intro x hx
  rcases List.mem_cons.mp hx with rfl | hx
  · exact trivial
  · obtain rfl := List.mem_singleton.mp hx
    exact trivial
theorem solid_ints {ns : List Int} : ∀ d ∈ ns.map PyData.int, solid d := fun d hd => by
  obtain ⟨q, _, rfl⟩ := List.mem_map.mp hd
  exact trivial
end
/-! ### whole fish: places of broken parts, the greatest first, of equal ones the earlier first -/
def insB (f : Nat → Rat) (x : Nat) : List Nat → List Nat
  | [] => [x]
  | y :: r => if f y < f x then x :: y :: r else y :: insB f x r
def sortB (f : Nat → Rat) (n : Nat) : List Nat := (List.range n).foldl (fun s x => insB f x s) []
def aheadB (f : Nat → Rat) (j i : Nat) : Bool := decide (f i < f j) || (decide (f j = f i) && decide (j < i))
theorem aheadB_iff {f : Nat → Rat} {j i : Nat} : aheadB f j i = true ↔ f i < f j ∨ (f j = f i ∧ j < i) := by
  unfold aheadB
  rw [Bool.or_eq_true, Bool.and_eq_true, decide_eq_true_eq, decide_eq_true_eq, decide_eq_true_eq]
theorem sortB_succ (f : Nat → Rat) (n : Nat) : sortB f (n + 1) = insB f n (sortB f n) := by
  unfold sortB
  rw [List.range_succ, List.foldl_append]
  rfl
theorem insB_perm (f : Nat → Rat) (x : Nat) : ∀ s : List Nat, (insB f x s).Perm (x :: s)
  | [] => List.Perm.refl _
  | y :: r => by
    unfold insB
    split
    · exact List.Perm.refl _
    · exact ((insB_perm f x r).cons y).trans (List.Perm.swap x y r)
theorem insB_cut {f : Nat → Rat} {x : Nat} : ∀ (s : List Nat) (j : Nat), j ≤ s.length → (∀ (m y : Nat), m < j → s[m]? = some y → ¬ f y < f x) → (∀ y, s[j]? = some y → f y < f x) → insB f x s = s.take j ++ [x] ++ s.drop j
  | [], j, hj, _, _ => by
    obtain rfl : j = 0 := by simpa using hj
    rfl
  | y :: r, 0, _, _, h => by
    have := h y rfl
    unfold insB
    rw [if_pos this]
    rfl
  | y :: r, j + 1, hj, h1, h2 => by
    have a := h1 0 y (Nat.succ_pos j) rfl
    unfold insB
    rw [if_neg a, insB_cut r j (by simpa using hj) (fun m z hm hz => h1 (m + 1) z (by omega) hz) fun z hz => h2 z hz]
    rfl
theorem insB_sorted {f : Nat → Rat} {x : Nat} : ∀ s : List Nat, (∀ y ∈ s, y < x) → s.Pairwise (fun a b => aheadB f a b = true) → (insB f x s).Pairwise (fun a b => aheadB f a b = true)
  | [], _, _ => List.pairwise_singleton _ _
  | y :: r, hx, h => by
    obtain ⟨h1, h2⟩ := List.pairwise_cons.mp h
    have hy := hx y List.mem_cons_self
    unfold insB
    split
    · rename_i z
      refine List.pairwise_cons.mpr ⟨fun b hb => aheadB_iff.mpr ?_, h⟩
      rcases List.mem_cons.mp hb with rfl | hb
      · exact .inl z
      · have := aheadB_iff.mp (h1 b hb)
        left
        grind
    · rename_i z
      refine List.pairwise_cons.mpr ⟨fun b hb => ?_, insB_sorted r (fun w hw => hx w (List.mem_cons_of_mem _ hw)) h2⟩
      rcases List.mem_cons.mp ((insB_perm f x r).mem_iff.mp hb) with rfl | hb
      · refine aheadB_iff.mpr ?_
        by_cases e : f y = f b
        · exact .inr ⟨e, hy⟩
        · left
          grind
      · exact h1 b hb
theorem sortB_perm (f : Nat → Rat) : ∀ n, (sortB f n).Perm (List.range n)
  | 0 => List.Perm.refl _
  | n + 1 => by
    rw [sortB_succ, List.range_succ]
    exact ((insB_perm f n _).trans ((sortB_perm f n).cons n)).trans (List.perm_append_comm (l₁ := [n]) (l₂ := List.range n))
theorem sortB_lt {f : Nat → Rat} {n y : Nat} (h : y ∈ sortB f n) : y < n := List.mem_range.mp ((sortB_perm f n).mem_iff.mp h)
theorem sortB_sorted (f : Nat → Rat) : ∀ n, (sortB f n).Pairwise (fun a b => aheadB f a b = true)
  | 0 => List.Pairwise.nil
  | n + 1 => by
    rw [sortB_succ]
    exact insB_sorted _ (fun y hy => sortB_lt hy) (sortB_sorted f n)
theorem sortB_len (f : Nat → Rat) (n : Nat) : (sortB f n).length = n := by rw [(sortB_perm f n).length_eq, List.length_range]
theorem sortB_nodup (f : Nat → Rat) (n : Nat) : (sortB f n).Nodup := (sortB_perm f n).nodup_iff.mpr List.nodup_range
theorem rank_of {f : Nat → Rat} {i : Nat} : ∀ (s : List Nat), s.Pairwise (fun a b => aheadB f a b = true) → i ∈ s → ∀ L, i ∈ s.take L ↔ (s.filter fun j => aheadB f j i).length < L
  | [], _, h, _ => by cases h
  | y :: r, hs, hi, 0 => by simp
  | y :: r, hs, hi, L + 1 => by
    obtain ⟨h1, h2⟩ := List.pairwise_cons.mp hs
    rw [List.take_succ_cons]
    by_cases e : i = y
    · subst e
      have : ((i :: r).filter fun j => aheadB f j i) = [] := List.filter_eq_nil_iff.mpr fun b hb z => by
        have hz := aheadB_iff.mp z
        rcases List.mem_cons.mp hb with rfl | hb
        · rcases hz with q | q
          · grind
          · omega
        · have := aheadB_iff.mp (h1 b hb)
          grind
      rw [this]
      exact ⟨fun _ => Nat.succ_pos L, fun _ => List.mem_cons_self⟩
    · have hir : i ∈ r := (List.mem_cons.mp hi).resolve_left e
      have := rank_of r h2 hir L
      rw [List.filter_cons, if_pos (h1 i hir), List.length_cons, List.mem_cons, this]
      constructor
      · rintro (q | q)
        · exact absurd q e
        · omega
      · intro q
        right
        omega
theorem mem_take_sortB {f : Nat → Rat} {n i L : Nat} (hi : i < n) : i ∈ (sortB f n).take L ↔ ((List.range n).filter fun j => aheadB f j i).length < L := by
  rw [rank_of _ (sortB_sorted f n) ((sortB_perm f n).mem_iff.mpr (List.mem_range.mpr hi)), ((sortB_perm f n).filter _).length_eq]
def gAt (gs : List Rat) (i : Nat) : Rat := gs.getD i 0
def partF (gs : List Rat) (i : Nat) : Rat := gAt gs i - ((gAt gs i).floor : Rat)
def leftF (gs : List Rat) (c : Int) : Int := c - (gs.map Rat.floor).sum
def fishOf (gs : List Rat) (c : Int) : List Int := (List.range gs.length).map fun i => (gAt gs i).floor + if i ∈ (sortB (partF gs) gs.length).take (leftF gs c).toNat then 1 else 0
theorem gAt_of {gs : List Rat} {i : Nat} {g : Rat} (h : gs[i]? = some g) : gAt gs i = g := by
  unfold gAt
  rw [List.getD_eq_getElem?_getD, h]
  rfl
theorem fishOf_at {gs : List Rat} {c : Int} {i : Nat} (h : i < gs.length) : (fishOf gs c)[i]? = some ((gAt gs i).floor + if i ∈ (sortB (partF gs) gs.length).take (leftF gs c).toNat then 1 else 0) := by
  unfold fishOf
  rw [List.getElem?_map, List.getElem?_range h]
  rfl
theorem fishOf_len (gs : List Rat) (c : Int) : (fishOf gs c).length = gs.length := by
  unfold fishOf
  rw [List.length_map, List.length_range]
theorem part_b (gs : List Rat) (i : Nat) : 0 ≤ partF gs i ∧ partF gs i < 1 := by
  unfold partF
  have h1 := Rat.floor_le (gAt gs i)
  have h2 := Rat.lt_floor_add_one (gAt gs i)
  grind

theorem insB_congr {f g : Nat → Rat} {x : Nat} (hx : f x = g x) : ∀ s : List Nat, (∀ y ∈ s, f y = g y) → insB f x s = insB g x s
  | [], _ => rfl
  | y :: r, h => by
    unfold insB
    rw [hx, h y List.mem_cons_self, insB_congr hx r fun w hw => h w (List.mem_cons_of_mem _ hw)]
theorem sortB_congr {f g : Nat → Rat} : ∀ {n : Nat}, (∀ i, i < n → f i = g i) → sortB f n = sortB g n
  | 0, _ => rfl
  | n + 1, h => by
    rw [sortB_succ, sortB_succ, sortB_congr (n := n) fun i hi => h i (by omega)]
    exact insB_congr (h n (by omega)) _ fun y hy => h y (by have := sortB_lt hy; omega)
theorem bt_floor {g : Rat} {n : Nat} (h : bt g n) : bt ((g.floor : Int) : Rat) n := by
  refine bt_int (Nat.lt_of_le_of_lt ?_ h.1) h.pos
  rw [Rat.floor_def]
  exact Int.natAbs_ediv_le_natAbs _ _
theorem ixN_nat {n i : Nat} (h : i < n) : ixN n (i : Int) = some i := by
  unfold ixN
  rw [if_pos (by omega), if_pos (by omega), Int.toNat_natCast]
def natsD (s : List Nat) : List D := s.map fun i : Nat => PyData.int (i : Int)
theorem natsD_len (s : List Nat) : (natsD s).length = s.length := List.length_map _
theorem natsD_get {s : List Nat} {i : Nat} {d : D} (h : (natsD s)[i]? = some d) : ∃ n, s[i]? = some n ∧ d = .int (n : Int) := by
  unfold natsD at h
  rw [List.getElem?_map] at h
  cases e : s[i]? with
  | none => rw [e] at h; cases h
  | some n => rw [e] at h; exact ⟨n, rfl, (Option.some.inj h).symm⟩
def cBroken : Ct := fun ds k => ∃ (ps : List Rat) (n : Nat), ds = [.list (fls ps)] ∧ ps.length ≤ 64 ∧ (∀ p ∈ ps, bt p n) ∧ n ≤ 2000000 ∧ k.rl (natsD (sortB (gAt ps) ps.length))
theorem broken_v {ps : List Rat} {n : Nat} (hl : ps.length ≤ 64) (h : ∀ p ∈ ps, bt p n) (hn : n ≤ 2000000) : cBroken [.list (fls ps)] (kl (natsD (sortB (gAt ps) ps.length))) := ⟨ps, n, rfl, hl, h, hn, rfl⟩
def fishU (u : Cu) (c : Int) : List Int := fishOf (u.deal (c : Rat)) c
def cFish (C : Addr) : Ct := fun ds k => ∃ (u : Cu) (c : Int), ds = [u.d, .int c] ∧ u.Ok ∧ ((c < 0 ∨ u.sum < c) → k.ex (.ref C)) ∧ (0 ≤ c → c ≤ u.sum → k.rl ((fishU u c).map PyData.int))
theorem fish_v {C : Addr} {u : Cu} {c : Int} (h : u.Ok) (h0 : 0 ≤ c) (h1 : c ≤ u.sum) : cFish C [u.d, .int c] (kl ((fishU u c).map PyData.int)) := ⟨u, c, rfl, h, (fun z => by omega), fun _ _ => rfl⟩
theorem fish_x {C : Addr} {u : Cu} {c : Int} (h : u.Ok) (h0 : c < 0 ∨ u.sum < c) : cFish C [u.d, .int c] (kx (.ref C)) := ⟨u, c, rfl, h, (fun _ => rfl), fun _ _ => by omega⟩
theorem fishU_len {u : Cu} {c : Int} (h : u.Ok) (h0 : 0 ≤ c) (h1 : c ≤ u.sum) : (fishU u c).length = u.claims.length := by
  unfold fishU
  rw [fishOf_len]
  exact deal_len h.ok (by exact_mod_cast h0) (by exact_mod_cast h1)
theorem qsum_floor : ∀ gs : List Rat, (((gs.map Rat.floor).sum : Int) : Rat) ≤ qsum gs ∧ qsum gs ≤ (((gs.map Rat.floor).sum : Int) : Rat) + (gs.length : Rat)
  | [] => ⟨by show ((0 : Int) : Rat) ≤ 0; grind, by show (0 : Rat) ≤ ((0 : Int) : Rat) + ((0 : Nat) : Rat); grind⟩
  | g :: r => by
    have := qsum_floor r
    have h1 := Rat.floor_le g
    have h2 := Rat.lt_floor_add_one g
    rw [List.map_cons, List.sum_cons, Rat.intCast_add, List.length_cons]
    show _ ≤ g + qsum r ∧ g + qsum r ≤ _
    have e : ((r.length + 1 : Nat) : Rat) = (r.length : Rat) + 1 := by exact_mod_cast rfl
    rw [e]
    grind
theorem left_b {gs : List Rat} {c : Int} (h : qsum gs = (c : Rat)) : 0 ≤ leftF gs c ∧ leftF gs c ≤ (gs.length : Int) := by
  obtain ⟨h1, h2⟩ := qsum_floor gs
  rw [h] at h1 h2
  unfold leftF
  have a : (gs.map Rat.floor).sum ≤ c := by exact_mod_cast h1
  have b : c ≤ (gs.map Rat.floor).sum + (gs.length : Int) := by exact_mod_cast h2
  omega
end Pu

set_option maxRecDepth 100000
namespace Pu
open PySem PySem.Spec PyProof.Rows L2
/-- a call whose answer is a new list, known by what holds of it -/
theorem sd_setPl {K : Frag} {ρ : En} {ta : TA} {c : Ct} {ds : List D} {E : L2.St → XK} {W : WX} {ex : Value → En → Prop} {k : Ko} {i : Nat} (P : List D → Prop) (ha : EvA K ta ρ ds) (hc : c ds ⟨fun _ => False, P, fun _ => False⟩) (hk : ∀ es, P es → k.nx (ρ.set i (.val (.list es)))) : Sd K W ex (tAsg (tCallS (spc K c) E ta) (gName i)) ρ k := fun R0 H0 ok R σ H a D m =>
  ha R0 H0 R σ H a _ fun vs R1 H1 g1 dx => ⟨R1, ds, _, g1.sub, dx, hc, fun _ _ _ _ h => h.elim, fun es p vs' R' H' h g hn hr hp dv => by
    have g2 := (g1.trans g).show_ (g1.hp.free hn) hp
    exact m.nx _ _ _ H' (hk es h) ((a.grow g2).set (.lst (SqL.of upd_same) (dpa_mono (same_upd hr) _ _ dv))), fun _ _ _ h => h.elim⟩
/-! ### customs of claims -/
def ClsP (most : Nat) (B : Int) (cs : List Int) : Prop := 1 ≤ cs.length ∧ cs.length ≤ most ∧ ∀ c ∈ cs, 0 ≤ c ∧ c ≤ B
def isCls (most : Nat) (B : Int) (es : List D) : Prop := ∃ cs, es = cs.map PyData.int ∧ ClsP most B cs
def cClsP (B : Int) : Ct := fun ds k => ∃ (ns : List Int) (at_ : Int) (most : Nat), ds = [.list (ns.map PyData.int), .int at_, .int (most : Int)] ∧ 0 ≤ at_ ∧ 1 ≤ most ∧ most ≤ 12 ∧ ∀ cs, ClsP most B cs → k.rl (cs.map PyData.int)
theorem clsP_v {B : Int} {ns : List Int} {at_ : Int} {most : Nat} (h0 : 0 ≤ at_) (h1 : 1 ≤ most) (h2 : most ≤ 12) : cClsP B [.list (ns.map PyData.int), .int at_, .int (most : Int)] ⟨fun _ => False, isCls most B, fun _ => False⟩ := ⟨ns, at_, most, rfl, h0, h1, h2, fun cs h => ⟨cs, rfl, h⟩⟩
def ktw (c : Int) (k : Nat) : Int := 1 + c / (6 + 13 * (0 + (k : Int))) % 4
def knotOf (c : Int) (ks : List Cu) : Cu := .knot (wayAt (c % 6)) (wList (wayAt (c % 6)).wd (ktw c) ks.length) ks
theorem wList_fit {y : Wy} {f : Nat → Int} {m : Nat} (h : ∀ k, 1 ≤ f k ∧ f k ≤ 1000000) : wfit y.s (wList y.wd f m) m = true := by
  refine wfit_iff.mpr ?_
  unfold wList
  cases y.wd with
  | true =>
    rw [if_pos rfl, if_pos rfl]
    refine ⟨by rw [List.length_map, List.length_range], fun w hw => ?_⟩
    obtain ⟨k, _, rfl⟩ := List.mem_map.mp hw
    exact h k
  | false => rfl
theorem ktw_b (c : Int) (k : Nat) : 1 ≤ ktw c k ∧ ktw c k ≤ 1000000 := by unfold ktw; omega
theorem knotOf_ok {c : Int} {ks : List Cu} (h0 : ks ≠ []) (hl : ks.length ≤ 12) (hk : ∀ u ∈ ks, u.Ok ∧ u.deep ≤ 7) (hc : (Cu.claimsL ks).length ≤ 12) : (knotOf c ks).Ok := by
  have hd : Cu.deepL ks ≤ 7 := Cu.deepL_le.mpr fun u hu => (hk u hu).2
  exact ⟨⟨⟨h0, hl, wList_fit (ktw_b c)⟩, Cu.okL_all.mpr fun u hu => (hk u hu).1.ok⟩, hc, show 1 + Cu.deepL ks ≤ 8 by omega⟩
def cKnotL : Ct := fun ds k => ∃ (c : Int) (ks : List Cu), ds = [.list (ks.map Cu.d), .int c] ∧ ks.length ≤ 12 ∧ (knotOf c ks).Ok ∧ k.rt (knotOf c ks).d
theorem knotL_v {c : Int} {ks : List Cu} (hl : ks.length ≤ 12) (h : (knotOf c ks).Ok) : cKnotL [.list (ks.map Cu.d), .int c] (kv (knotOf c ks).d) := ⟨c, ks, rfl, hl, h, rfl⟩
def isTree (cs : List Int) (d : D) : Prop := ∃ u : Cu, d = u.d ∧ u.Ok ∧ u.claims = cs
def cTree : Ct := fun ds k => ∃ (cs ns : List Int) (at_ : Int), ds = [.list (cs.map PyData.int), .list (ns.map PyData.int), .int at_] ∧ ClsP 6 1000000000 cs ∧ 0 ≤ at_ ∧ ∀ u : Cu, u.Ok → u.claims = cs → k.rt u.d
theorem tree_v {cs ns : List Int} {at_ : Int} (h : ClsP 6 1000000000 cs) (h0 : 0 ≤ at_) : cTree [.list (cs.map PyData.int), .list (ns.map PyData.int), .int at_] ⟨isTree cs, fun _ => False, fun _ => False⟩ := ⟨cs, ns, at_, rfl, h, h0, fun u hu e => ⟨u, rfl, hu, e⟩⟩
theorem sIx_last {n m d : Nat} (h1 : 1 ≤ m) (h2 : m ≤ n) : HT.sIx n d (some (-(m : Int))) = n - m := by
  show (if (-(m : Int)) < 0 then (-(m : Int) + (n : Int)).toNat else min (-(m : Int)).toNat n) = n - m
  rw [if_pos (by omega)]
  omega
theorem cut_last {m : Nat} {xs : List D} (h1 : 1 ≤ m) (h2 : m ≤ xs.length) : cutD xs (some (-(m : Int))) none = xs.drop (xs.length - m) := by
  unfold cutD
  rw [HT.sIx_none, sIx_last h1 h2, List.take_of_length_le (by rw [List.length_drop]; exact Nat.le_refl _)]
theorem cut_init {m : Nat} {xs : List D} (h1 : 1 ≤ m) (h2 : m ≤ xs.length) : cutD xs none (some (-(m : Int))) = xs.take (xs.length - m) := by
  unfold cutD
  rw [HT.sIx_none, sIx_last h1 h2, List.drop_zero, Nat.sub_zero]
end Pu

set_option maxRecDepth 100000
namespace Pu
open PySem PySem.Spec PyProof.Rows L2
/-- // of numbers of any size, in a comprehension too -/
theorem o_fdivC {X : Cx} {e : Env} {l : List Env} (hN : X.base.NoSeer) (ht : X.prog.given.tree = none) (hs : X.stack = e :: l) (hg : e.scope.isGenerator = false) (hc : e.scope.isCoroutine = false) (hb : e.builtins = X.env.builtins) (hl : e.globals = X.env.globals) (hr : Room 35 X.A) : OpR X (binaryOp .FloorDiv) rFdivA := by
  intro pins s σ H x y v u Q I rx ry h
  obtain ⟨i, j, rfl, rfl, hj, q⟩ := h
  obtain ⟨t, rfl⟩ := rx
  obtain ⟨t', rfl⟩ := ry
  have hfr : X.A.frames = some (e :: l) := by rw [I.ok.frames, hs]
  have hd : X.A.depth + Builtin.pylongFrames < recursionLimit := by
    have := hr.dp
    unfold Builtin.pylongFrames
    omega
  have room : PylongRoom (model X.prog X.w) X.A s := PylongRoom.of I.nolimit hd (SeerAt.of (hN.keeps I.bk) ht hfr hg hc (hb.trans I.ok.blt) (hl.trans I.ok.glob))
  exact floordiv_int hj ⟨.int _, H, I.tok _, ⟨_, rfl⟩, q⟩ (.inr room)
theorem part_num (g : Rat) : (g - ((g.floor : Int) : Rat)).num = g.num % (g.den : Int) ∧ (g - ((g.floor : Int) : Rat)).den = g.den := by
  have hd := g.den_pos
  have h2 : g.num % (g.den : Int) = g.num - g.floor * (g.den : Int) := by rw [Rat.floor_def, Int.mul_comm]; exact Int.emod_def _ _
  have e : g - ((g.floor : Int) : Rat) = mkRat (g.num % (g.den : Int)) g.den := by
    rw [h2, ← Rat.divInt_ofNat]
    have h3 : Rat.divInt (g.num - g.floor * (g.den : Int)) (g.den : Int) = Rat.divInt g.num (g.den : Int) - Rat.divInt (g.floor) 1 := by
      rw [Rat.divInt_sub_divInt _ _ (by omega) (by decide)]
      congr 1
      · rw [Int.mul_one]
      · rw [Int.mul_one]
    rw [h3, Rat.num_divInt_den, divInt_one]
  have cop : (g.num % (g.den : Int)).natAbs.Coprime g.den := by
    have := g.reduced
    unfold Nat.Coprime at this ⊢
    have h4 : Nat.gcd (g.num % (g.den : Int)).natAbs g.den = Int.gcd (g.num % (g.den : Int)) (g.den : Int) := rfl
    have h5 : Nat.gcd g.num.natAbs g.den = Int.gcd g.num (g.den : Int) := rfl
    rw [h4, Int.gcd_comm, h2, Int.gcd_sub_mul_right_right, Int.gcd_comm]
    exact this
  rw [e, ← Rat.mk_eq_mkRat (g.num % ↑g.den) g.den (by omega) cop]
  exact ⟨rfl, rfl⟩
theorem rat_eq_cross (p q : Rat) : p = q ↔ p.num * (q.den : Int) = q.num * (p.den : Int) := by
  constructor
  · rintro rfl; rfl
  · intro h
    exact Rat.le_antisymm ((Rat.le_iff p q).mpr (by omega)) ((Rat.le_iff q p).mpr (by omega))
theorem fr_part (g : Rat) : fr (g - ((g.floor : Int) : Rat)) = .tuple [.int (g.num % (g.den : Int)), .int (g.den : Int)] := by
  obtain ⟨h1, h2⟩ := part_num g
  unfold fr
  rw [h1, h2]
theorem fr_intc (c : Int) : fr (c : Rat) = .tuple [.int c, .int 1] := rfl
def fpart (g : Rat) : Rat := g - ((g.floor : Int) : Rat)
theorem gAt_parts {gs : List Rat} {i : Nat} (hi : i < gs.length) : gAt (gs.map fpart) i = partF gs i := by
  obtain ⟨g, hg⟩ : ∃ g, gs[i]? = some g := ⟨_, List.getElem?_eq_getElem hi⟩
  unfold partF
  rw [gAt_of hg]
  exact gAt_of (by rw [List.getElem?_map, hg]; rfl)
def cAheadP : Ct := fun ds k => ∃ (ps : List Rat) (i j N : Nat), ds = [.list (fls ps), .int (i : Int), .int (j : Int)] ∧ i < ps.length ∧ j < ps.length ∧ (∀ p ∈ ps, bt p N) ∧ N ≤ 1000000 ∧ k.rt (.bool (aheadB (gAt ps) i j))
theorem aheadP_v {ps : List Rat} {i j N : Nat} (hi : i < ps.length) (hj : j < ps.length) (h : ∀ p ∈ ps, bt p N) (hN : N ≤ 1000000) : cAheadP [.list (fls ps), .int (i : Int), .int (j : Int)] (kv (.bool (aheadB (gAt ps) i j))) := ⟨ps, i, j, N, rfl, hi, hj, h, hN, rfl⟩
theorem aheadB_self (f : Nat → Rat) (i : Nat) : aheadB f i i = false := by
  cases h : aheadB f i i with
  | false => rfl
  | true =>
    rcases aheadB_iff.mp h with z | ⟨_, z⟩
    · exact absurd z (by grind)
    · exact absurd z (Nat.lt_irrefl _)
theorem aheadB_congr {f g : Nat → Rat} {i j : Nat} (hi : f i = g i) (hj : f j = g j) : aheadB f i j = aheadB g i j := by
  unfold aheadB
  rw [hi, hj]
def cFishDue : Ct := fun ds k => ∃ (u : Cu) (c : Int), ds = [u.d, .int c] ∧ u.Ok ∧ 0 ≤ c ∧ c ≤ u.sum ∧ k.rl ((fishU u c).map PyData.int)
theorem fishDue_v {u : Cu} {c : Int} (h : u.Ok) (h0 : 0 ≤ c) (h1 : c ≤ u.sum) : cFishDue [u.d, .int c] (kl ((fishU u c).map PyData.int)) := ⟨u, c, rfl, h, h0, h1, rfl⟩
def cSameI : Ct := fun ds k => ∃ ns : List Int, ds = [.list (ns.map PyData.int), .list (ns.map PyData.int)] ∧ ns.length ≤ 1000 ∧ k.rt (.bool true)
theorem sameI_v {ns : List Int} (h : ns.length ≤ 1000) : cSameI [.list (ns.map PyData.int), .list (ns.map PyData.int)] (kv (.bool true)) := ⟨ns, rfl, h, rfl⟩
theorem sum_nn : ∀ {cs : List Int}, (∀ c ∈ cs, 0 ≤ c) → 0 ≤ cs.sum
  | [], _ => Int.le_refl _
  | c :: r, h => by
    rw [List.sum_cons]
    have h1 := h c List.mem_cons_self
    have h2 := sum_nn (cs := r) fun x hx => h x (List.mem_cons_of_mem _ hx)
    omega
theorem ClsP.sum_nn {most : Nat} {B : Int} {cs : List Int} (h : ClsP most B cs) : 0 ≤ cs.sum := Pu.sum_nn fun c hc => (h.2.2 c hc).1
end Pu

set_option maxRecDepth 100000
namespace Pu
open PySem PySem.Spec PyProof.Rows L2
/-! ### catches at which some boat gets fewer fish by one fish more -/
def anyFall (xs ys : List Int) : Bool := (List.zipWith (fun b m => decide (m < b)) xs ys).any id
def cFalls : Ct := fun ds k => ∃ xs ys : List Int, ds = [.list (xs.map PyData.int), .list (ys.map PyData.int)] ∧ xs.length ≤ 1000 ∧ k.rt (.bool (anyFall xs ys))
theorem falls_v {xs ys : List Int} (h : xs.length ≤ 1000) : cFalls [.list (xs.map PyData.int), .list (ys.map PyData.int)] (kv (.bool (anyFall xs ys))) := ⟨xs, ys, rfl, h, rfl⟩
def dropsOf (u : Cu) : List Nat := (List.range u.sum.toNat).filter fun k => anyFall (fishU u (k : Int)) (fishU u ((k : Int) + 1))
theorem dropsOf_len (u : Cu) : (dropsOf u).length ≤ u.sum.toNat := by
  have := List.length_filter_le (fun k : Nat => anyFall (fishU u (k : Int)) (fishU u ((k : Int) + 1))) (List.range u.sum.toNat)
  rw [List.length_range] at this
  exact this
def cDrops (C : Addr) : Ct := fun ds k => ∃ u : Cu, ds = [u.d] ∧ u.Ok ∧ (100 < u.sum → k.ex (.ref C)) ∧ (u.sum ≤ 100 → k.rl (natsD (dropsOf u)))
theorem drops_v {C : Addr} {u : Cu} (h : u.Ok) (h1 : u.sum ≤ 100) : cDrops C [u.d] (kl (natsD (dropsOf u))) := ⟨u, rfl, h, (fun z => by omega), fun _ => rfl⟩
theorem drops_x {C : Addr} {u : Cu} (h : u.Ok) (h1 : 100 < u.sum) : cDrops C [u.d] (kx (.ref C)) := ⟨u, rfl, h, (fun z => rfl), fun _ => by omega⟩
theorem natsD_ints (s : List Nat) : natsD s = (s.map fun n : Nat => (n : Int)).map PyData.int := by
  unfold natsD
  rw [List.map_map]
  rfl
theorem anyFall_iff : ∀ {xs ys : List Int}, anyFall xs ys = true ↔ ∃ (i : Nat) (b m : Int), xs[i]? = some b ∧ ys[i]? = some m ∧ m < b
  | [], ys => ⟨(fun h => nomatch h), (fun ⟨i, b, m, h, _⟩ => nomatch h)⟩
  | b :: r, [] => ⟨(fun h => nomatch h), (fun ⟨i, b, m, _, h, _⟩ => nomatch h)⟩
  | b :: r, m :: s => by
    have ih := anyFall_iff (xs := r) (ys := s)
    have e : anyFall (b :: r) (m :: s) = (decide (m < b) || anyFall r s) := rfl
    rw [e, Bool.or_eq_true, decide_eq_true_eq, ih]
    constructor
    · rintro (h | ⟨i, b', m', h1, h2, h3⟩)
      · exact ⟨0, b, m, rfl, rfl, h⟩
      · exact ⟨i + 1, b', m', h1, h2, h3⟩
    · rintro ⟨i, b', m', h1, h2, h3⟩
      cases i with
      | zero =>
        obtain rfl := Option.some.inj h1
        obtain rfl := Option.some.inj h2
        exact .inl h3
      | succ i => exact .inr ⟨i, b', m', h1, h2, h3⟩
theorem sum_le {B : Int} : ∀ {cs : List Int}, (∀ c ∈ cs, c ≤ B) → cs.sum ≤ (cs.length : Int) * B
  | [], _ => by show (0 : Int) ≤ 0 * B; omega
  | c :: r, h => by
    have h1 := h c List.mem_cons_self
    have h2 := sum_le (cs := r) fun x hx => h x (List.mem_cons_of_mem _ hx)
    rw [List.sum_cons, List.length_cons]
    have e : ((r.length + 1 : Nat) : Int) * B = (r.length : Int) * B + B := by rw [Int.natCast_add, Int.add_mul]; omega
    omega
/-- whole shares: no fish is left -/
theorem fishOf_ints {zs : List Int} {c : Int} (h : zs.sum = c) : fishOf (qlist zs) c = zs := by
  have hf : (qlist zs).map Rat.floor = zs := by
    unfold qlist
    rw [List.map_map]
    have : (Rat.floor ∘ fun z : Int => (z : Rat)) = id := by
      funext z
      exact Rat.floor_intCast z
    rw [this, List.map_id]
  have hl : leftF (qlist zs) c = 0 := by
    unfold leftF
    rw [hf, h]
    omega
  refine List.ext_getElem? fun i => ?_
  by_cases hi : i < zs.length
  · rw [fishOf_at (by rw [qlist_len]; exact hi), hl, Int.toNat_zero, List.take_zero, if_neg List.not_mem_nil, Int.add_zero, List.getElem?_eq_getElem hi, gAt_of (qlist_at (List.getElem?_eq_getElem hi)), Rat.floor_intCast]
  · rw [List.getElem?_eq_none_iff.mpr (by rw [fishOf_len, qlist_len]; omega), List.getElem?_eq_none_iff.mpr (by omega)]
def rowZ : List Int → Int → List Int
  | [], _ => []
  | c :: r, q => (if q < c then q else c) :: rowZ r (q - if q < c then q else c)
theorem rowZ_row : ∀ (cs : List Int) (q : Int), rowD (qlist cs) (q : Rat) = qlist (rowZ cs q)
  | [], q => rfl
  | c :: r, q => by
    have e : (if (q : Rat) < (c : Rat) then (q : Rat) else (c : Rat)) = (((if q < c then q else c) : Int) : Rat) := by
      by_cases h : q < c
      · rw [if_pos h, if_pos (by exact_mod_cast h)]
      · rw [if_neg h, if_neg (by intro z; exact h (by exact_mod_cast z))]
    show (if (q : Rat) < (c : Rat) then (q : Rat) else (c : Rat)) :: rowD (qlist r) ((q : Rat) - if (q : Rat) < (c : Rat) then (q : Rat) else (c : Rat)) = (((if q < c then q else c) : Int) : Rat) :: qlist (rowZ r (q - if q < c then q else c))
    rw [e, ← Rat.intCast_sub, rowZ_row r]
def boatsOf (cs : List Int) : List Cu := cs.map Cu.boat
theorem boats_claims : ∀ cs : List Int, Cu.claimsL (boatsOf cs) = cs
  | [] => rfl
  | c :: r => by
    show [c] ++ Cu.claimsL (boatsOf r) = _
    rw [boats_claims r]
    rfl
theorem boats_sums (cs : List Int) : (boatsOf cs).map Cu.sum = cs := by
  unfold boatsOf
  rw [List.map_map]
  have : (Cu.sum ∘ Cu.boat) = id := by
    funext c
    show [c].sum = c
    rw [List.sum_cons, List.sum_nil]
    omega
  rw [this, List.map_id]
theorem boats_deal : ∀ (cs : List Int) (gs : List Rat), gs.length = cs.length → Cu.dealL (boatsOf cs) gs = gs
  | [], [], _ => rfl
  | [], _ :: _, h => by cases h
  | _ :: _, [], h => by cases h
  | c :: r, g :: s, h => by
    show [g] ++ Cu.dealL (boatsOf r) s = _
    rw [boats_deal r s (by simpa using h)]
    rfl
theorem boats_deep (cs : List Int) : Cu.deepL (boatsOf cs) ≤ 1 := Cu.deepL_le.mpr fun k hk => by
  obtain ⟨c, _, rfl⟩ := List.mem_map.mp hk
  exact Nat.le_refl _
theorem rowZ_len : ∀ (cs : List Int) (q : Int), (rowZ cs q).length = cs.length
  | [], q => rfl
  | c :: r, q => by
    show (rowZ r _).length + 1 = r.length + 1
    rw [rowZ_len r]
theorem boats_ok {cs : List Int} (h0 : cs ≠ []) (h : ∀ c ∈ cs, 0 ≤ c ∧ c ≤ 1000000000) (hl : cs.length ≤ 12) : (Cu.knot .row [] (boatsOf cs)).Ok := ⟨⟨⟨fun z => h0 (List.map_eq_nil_iff.mp z), by unfold boatsOf; rw [List.length_map]; exact hl, by unfold boatsOf; rw [List.length_map]; exact wfit_iff.mpr rfl⟩, Cu.okL_all.mpr fun k hk => by
    obtain ⟨c, hc, rfl⟩ := List.mem_map.mp hk
    exact h c hc⟩, by show (Cu.claimsL (boatsOf cs)).length ≤ 12; rw [boats_claims]; exact hl, by have := boats_deep cs; show 1 + _ ≤ 8; omega⟩
theorem leAll_ints : ∀ {xs ys : List Int}, leAll (qlist xs) (qlist ys) → anyFall xs ys = false := fun {xs ys} h => by
  cases e : anyFall xs ys with
  | false => rfl
  | true =>
    obtain ⟨i, b, m, h1, h2, h3⟩ := anyFall_iff.mp e
    have := leAll_get h (qlist_at h1) (qlist_at h2)
    have : b ≤ m := by exact_mod_cast this
    omega
/-- where all shares are whole at all catches, nobody gets fewer -/
theorem drops_none {u : Cu} (hu : u.Ok) (z : Int → List Int) (h : ∀ c, 0 ≤ c → c ≤ u.sum → u.deal (c : Rat) = qlist (z c)) : dropsOf u = [] := by
  unfold dropsOf
  refine List.filter_eq_nil_iff.mpr fun k hk => ?_
  have hk := List.mem_range.mp hk
  have key : ∀ c : Int, 0 ≤ c → c ≤ u.sum → fishU u c = z c := fun c h0 h1 => by
    have hs := (deal_dl hu.ok (q := (c : Rat)) (by exact_mod_cast h0) (by exact_mod_cast h1)).sum
    unfold fishU
    rw [h c h0 h1] at hs ⊢
    rw [qlist_sum] at hs
    exact fishOf_ints (by exact_mod_cast hs)
  rw [key (k : Int) (by omega) (by omega), key ((k : Int) + 1) (by omega) (by omega)]
  have hm := deal_mono hu.ok (p := ((k : Int) : Rat)) (q := (((k : Int) + 1 : Int) : Rat)) (by exact_mod_cast (show (0 : Int) ≤ (k : Int) by omega)) (by exact_mod_cast (show (k : Int) ≤ (k : Int) + 1 by omega)) (by exact_mod_cast (show (k : Int) + 1 ≤ u.sum by omega))
  rw [h _ (by omega) (by omega), h _ (by omega) (by omega)] at hm
  rw [leAll_ints hm]
  exact Bool.false_ne_true
theorem drops_row {cs : List Int} (hu : (Cu.knot .row [] (boatsOf cs)).Ok) : dropsOf (Cu.knot .row [] (boatsOf cs)) = [] := drops_none hu (rowZ cs) fun c _ _ => by
  show Cu.dealL (boatsOf cs) (rowD (qlist ((boatsOf cs).map Cu.sum)) (c : Rat)) = _
  rw [boats_sums, rowZ_row]
  exact boats_deal cs _ (by rw [qlist_len, rowZ_len])
theorem drops_boat {c : Int} (hu : (Cu.boat c).Ok) : dropsOf (Cu.boat c) = [] := drops_none hu (fun c => [c]) fun c _ _ => rfl
end Pu

set_option maxRecDepth 100000
namespace Pu
open PySem PySem.Spec PyProof.Rows L2
/-! ### customs made plain -/
def Wy.ml : Wy → Bool
  | .row | .back | .part => true
  | _ => false
def gcdF (a : Nat) (ws : List Int) : Nat := ws.foldl (fun (a : Nat) w => Int.gcd (a : Int) w) a
def gcdW (ws : List Int) : Nat := gcdF 0 ws
theorem gcdF_dvd : ∀ (ws : List Int) (a d : Nat), d ∣ gcdF a ws ↔ d ∣ a ∧ ∀ w ∈ ws, (d : Int) ∣ w
  | [], a, d => ⟨fun h => ⟨h, fun w hw => by cases hw⟩, fun h => h.1⟩
  | w :: r, a, d => by
    have ih := gcdF_dvd r (Int.gcd (a : Int) w) d
    show d ∣ gcdF (Int.gcd (a : Int) w) r ↔ _
    have e : d ∣ Int.gcd (a : Int) w ↔ d ∣ a ∧ (d : Int) ∣ w := by
      unfold Int.gcd
      rw [Nat.dvd_gcd_iff]
      exact and_congr Iff.rfl Int.ofNat_dvd_left.symm
    rw [ih, e]
    constructor
    · rintro ⟨⟨h1, h2⟩, h3⟩
      exact ⟨h1, fun x hx => by
        rcases List.mem_cons.mp hx with rfl | hx
        · exact h2
        · exact h3 x hx⟩
    · rintro ⟨h1, h2⟩
      exact ⟨⟨h1, h2 w List.mem_cons_self⟩, fun x hx => h2 x (List.mem_cons_of_mem _ hx)⟩
theorem gcdW_dvd {ws : List Int} {d : Nat} : d ∣ gcdW ws ↔ ∀ w ∈ ws, (d : Int) ∣ w := by
  unfold gcdW
  rw [gcdF_dvd]
  exact ⟨fun h => h.2, fun h => ⟨Nat.dvd_zero _, h⟩⟩
def divW (ws : List Int) (g : Nat) : List Int := ws.map fun w => w / (g : Int)
def redW (ws : List Int) : List Int := divW ws (max 1 (gcdW ws))
theorem gcdW_nil : gcdW [] = 0 := rfl
def wOkW (ws : List Int) : Prop := ∀ w ∈ ws, 1 ≤ w ∧ w ≤ 1000000
theorem gcdW_mem {ws : List Int} {w : Int} (hw : w ∈ ws) : ((gcdW ws : Nat) : Int) ∣ w := gcdW_dvd.mp (Nat.dvd_refl _) w hw
theorem gcdW_pos {ws : List Int} (h : wOkW ws) (hn : ws ≠ []) : 1 ≤ gcdW ws := by
  cases ws with
  | nil => exact absurd rfl hn
  | cons w r =>
    have hd := gcdW_mem (ws := w :: r) (w := w) List.mem_cons_self
    have hw := h w List.mem_cons_self
    by_cases z : gcdW (w :: r) = 0
    · rw [z] at hd
      have := Int.zero_dvd.mp hd
      omega
    · omega
theorem redW_len (ws : List Int) : (redW ws).length = ws.length := List.length_map _
theorem redW_ok {ws : List Int} (h : wOkW ws) : wOkW (redW ws) := fun x hx => by
  obtain ⟨w, hw, rfl⟩ := List.mem_map.mp hx
  have hw1 := h w hw
  have hp := gcdW_pos h (fun z => by rw [z] at hw; cases hw)
  have hd := gcdW_mem hw
  rw [show max 1 (gcdW ws) = gcdW ws by omega]
  obtain ⟨q, rfl⟩ := hd
  have hg : (0 : Int) < (gcdW ws : Nat) := by omega
  rw [Int.mul_ediv_cancel_left _ (by omega)]
  have q1 : 1 ≤ q := by
    by_cases z : 0 < q
    · omega
    · have := Int.mul_le_mul_of_nonneg_left (show q ≤ 0 by omega) (Int.le_of_lt hg)
      rw [Int.mul_zero] at this
      omega
  have q2 : q ≤ ((gcdW ws : Nat) : Int) * q := by
    have := Int.mul_le_mul_of_nonneg_right (show (1 : Int) ≤ ((gcdW ws : Nat) : Int) by omega) (show 0 ≤ q by omega)
    omega
  omega
theorem gcdW_red {ws : List Int} (h : wOkW ws) : gcdW (redW ws) ≤ 1 := by
  by_cases hn : ws = []
  · rw [hn]; exact Nat.zero_le _
  · have hp := gcdW_pos h hn
    have hm : max 1 (gcdW ws) = gcdW ws := by omega
    have hd : gcdW (redW ws) * gcdW ws ∣ gcdW ws := gcdW_dvd.mpr fun w hw => by
      have h1 := gcdW_mem (ws := redW ws) (w := w / ((gcdW ws : Nat) : Int)) (by
        unfold redW divW
        rw [hm]
        exact List.mem_map.mpr ⟨w, hw, rfl⟩)
      have h2 := gcdW_mem hw
      have e : w / ((gcdW ws : Nat) : Int) * ((gcdW ws : Nat) : Int) = w := Int.ediv_mul_cancel h2
      have := Int.mul_dvd_mul h1 (Int.dvd_refl ((gcdW ws : Nat) : Int))
      rw [e] at this
      rw [Int.natCast_mul]
      exact this
    have := Nat.le_of_dvd hp hd
    rcases Nat.lt_or_ge 1 (gcdW (redW ws)) with z | z
    · have := Nat.mul_le_mul_right (gcdW ws) z
      omega
    · exact z
theorem redW_id {ws : List Int} (h : gcdW ws ≤ 1) : redW ws = ws := by
  unfold redW divW
  rw [show max 1 (gcdW ws) = 1 by omega]
  have : ws.map (fun w => w / ((1 : Nat) : Int)) = ws.map id := List.map_congr_left fun w _ => Int.ediv_one w
  rw [this, List.map_id]
theorem redW_of {ws : List Int} (h : 1 < gcdW ws) : redW ws = divW ws (gcdW ws) := by
  unfold redW
  rw [show max 1 (gcdW ws) = gcdW ws by omega]
def melt1 (y : Wy) : Cu → List Cu
  | .boat c => [.boat c]
  | .knot z ws ks => if y.ml = true ∧ z = y then ks else [.knot z ws ks]
theorem melt1_knot (y z : Wy) (ws : List Int) (ks : List Cu) : melt1 y (.knot z ws ks) = if y.ml = true ∧ z = y then ks else [.knot z ws ks] := rfl
def melt (y : Wy) (ks : List Cu) : List Cu := ks.flatMap (melt1 y)
def tie (y : Wy) (ws : List Int) : List Cu → Cu
  | [] => .knot y (redW ws) []
  | [k] => k
  | a :: b :: r => .knot y (redW ws) (melt y (a :: b :: r))
theorem tie_more {y : Wy} {ws : List Int} {ks : List Cu} (h : ks.length ≠ 1) : tie y ws ks = .knot y (redW ws) (melt y ks) := by
  cases ks with
  | nil => rfl
  | cons a r =>
    cases r with
    | nil => exact absurd rfl h
    | cons b r => rfl
mutual
def Cu.plain : Cu → Cu
  | .boat c => .boat c
  | .knot y ws ks => tie y ws (Cu.plainL ks)
def Cu.plainL : List Cu → List Cu
  | [] => []
  | k :: r => k.plain :: Cu.plainL r
end
theorem Cu.plainL_map : ∀ ks : List Cu, Cu.plainL ks = ks.map Cu.plain
  | [] => rfl
  | k :: r => by rw [Cu.plainL, Cu.plainL_map r]; rfl
theorem Cu.plainL_len (ks : List Cu) : (Cu.plainL ks).length = ks.length := by rw [Cu.plainL_map, List.length_map]
theorem Cu.deepL_append : ∀ (a b : List Cu), Cu.deepL (a ++ b) = max (Cu.deepL a) (Cu.deepL b)
  | [], b => by
    show Cu.deepL b = max 0 (Cu.deepL b)
    omega
  | k :: r, b => by
    show max k.deep (Cu.deepL (r ++ b)) = max (max k.deep (Cu.deepL r)) (Cu.deepL b)
    rw [Cu.deepL_append r b]
    omega
theorem melt_cons (y : Wy) (k : Cu) (r : List Cu) : melt y (k :: r) = melt1 y k ++ melt y r := rfl
theorem melt_append (y : Wy) (a b : List Cu) : melt y (a ++ b) = melt y a ++ melt y b := List.flatMap_append
theorem melt1_no {y : Wy} (h : y.ml = false) (k : Cu) : melt1 y k = [k] := by
  cases k with
  | boat c => rfl
  | knot z ws ks =>
    rw [melt1_knot, if_neg (fun q => by rw [h] at q; exact Bool.false_ne_true q.1)]
theorem melt_no {y : Wy} (h : y.ml = false) : ∀ ks : List Cu, melt y ks = ks
  | [] => rfl
  | k :: r => by rw [melt_cons, melt1_no h, melt_no h r]; rfl
theorem melt1_claims (y : Wy) (k : Cu) : Cu.claimsL (melt1 y k) = k.claims := by
  cases k with
  | boat c => rfl
  | knot z ws ks =>
    rw [melt1_knot]
    split
    · rfl
    · show (Cu.knot z ws ks).claims ++ [] = _
      rw [List.append_nil]
theorem melt_claims (y : Wy) : ∀ ks : List Cu, Cu.claimsL (melt y ks) = Cu.claimsL ks
  | [] => rfl
  | k :: r => by
    rw [melt_cons, Cu.claimsL_append, melt1_claims, melt_claims y r]
    rfl
theorem melt1_deep (y : Wy) (k : Cu) : Cu.deepL (melt1 y k) ≤ k.deep := by
  cases k with
  | boat c => show max 1 0 ≤ 1; decide
  | knot z ws ks =>
    rw [melt1_knot]
    split
    · show Cu.deepL ks ≤ 1 + Cu.deepL ks; omega
    · show max (Cu.knot z ws ks).deep 0 ≤ _; omega
theorem melt_deep (y : Wy) : ∀ ks : List Cu, Cu.deepL (melt y ks) ≤ Cu.deepL ks
  | [] => Nat.le_refl _
  | k :: r => by
    rw [melt_cons, Cu.deepL_append]
    have h1 := melt1_deep y k
    have h2 := melt_deep y r
    show _ ≤ max k.deep (Cu.deepL r)
    omega
theorem melt1_ok {y : Wy} {k : Cu} (h : k.ok) : (∀ x ∈ melt1 y k, x.ok) ∧ melt1 y k ≠ [] := by
  cases k with
  | boat c => exact ⟨fun x hx => by rcases List.mem_singleton.mp hx with rfl; exact h, List.cons_ne_nil _ _⟩
  | knot z ws ks =>
    rw [melt1_knot]
    split
    · exact ⟨Cu.okL_all.mp h.2, h.1.1⟩
    · exact ⟨fun x hx => by rcases List.mem_singleton.mp hx with rfl; exact h, List.cons_ne_nil _ _⟩
theorem melt_ok {y : Wy} : ∀ {ks : List Cu}, (∀ k ∈ ks, k.ok) → (∀ x ∈ melt y ks, x.ok) ∧ ks.length ≤ (melt y ks).length
  | [], _ => ⟨(fun x hx => by cases hx), Nat.le_refl _⟩
  | k :: r, h => by
    obtain ⟨a1, a2⟩ := melt1_ok (y := y) (h k List.mem_cons_self)
    obtain ⟨b1, b2⟩ := melt_ok (y := y) (ks := r) fun x hx => h x (List.mem_cons_of_mem _ hx)
    rw [melt_cons]
    refine ⟨fun x hx => (List.mem_append.mp hx).elim (a1 x) (b1 x), ?_⟩
    have := List.length_pos_iff.mpr a2
    rw [List.length_append, List.length_cons]
    omega
/-- the same claims, no deeper, valid -/
theorem tie_all {y : Wy} {ws : List Int} {ks : List Cu} (hk : ∀ k ∈ ks, k.ok) (hne : ks ≠ []) (hw : wfit y.s ws ks.length = true) (hl : (Cu.claimsL ks).length ≤ 12) : (tie y ws ks).ok ∧ (tie y ws ks).claims = Cu.claimsL ks ∧ (tie y ws ks).deep ≤ 1 + Cu.deepL ks := by
  by_cases h1 : ks.length = 1
  · obtain ⟨k, rfl⟩ := List.length_eq_one_iff.mp h1
    refine ⟨hk k List.mem_cons_self, ?_, ?_⟩
    · show k.claims = k.claims ++ []
      rw [List.append_nil]
    · show k.deep ≤ 1 + max k.deep 0
      omega
  · rw [tie_more h1]
    obtain ⟨m1, m2⟩ := melt_ok (y := y) hk
    have hge := Cu.claimsL_ge m1
    rw [melt_claims] at hge
    have h0 := List.length_pos_iff.mpr hne
    refine ⟨⟨⟨fun z => by rw [z] at m2; have : ks.length ≤ 0 := m2; omega, by omega, ?_⟩, Cu.okL_all.mpr m1⟩, ?_, ?_⟩
    · have hw' := wfit_iff.mp hw
      refine wfit_iff.mpr ?_
      cases e : y.wd with
      | true =>
        rw [e, if_pos rfl] at hw'
        rw [if_pos rfl, melt_no (by cases y <;> first | rfl | (exact absurd e (by decide)))]
        exact ⟨by rw [redW_len]; exact hw'.1, redW_ok hw'.2⟩
      | false =>
        rw [e] at hw'
        have hw' : ws = [] := hw'
        rw [hw']
        rfl
    · exact melt_claims y ks
    · have := melt_deep y ks
      show 1 + _ ≤ _
      omega
theorem plain_all : ∀ {u : Cu}, u.ok → u.claims.length ≤ 12 → u.plain.ok ∧ u.plain.claims = u.claims ∧ u.plain.deep ≤ u.deep := fun {u} => Cu.ind (P := fun u => u.ok → u.claims.length ≤ 12 → u.plain.ok ∧ u.plain.claims = u.claims ∧ u.plain.deep ≤ u.deep) (fun c h _ => ⟨h, rfl, Nat.le_refl _⟩) (fun y ws ks ih h hl => by
    have key : ∀ l : List Cu, (∀ k ∈ l, k.plain.ok ∧ k.plain.claims = k.claims ∧ k.plain.deep ≤ k.deep) → (∀ k ∈ Cu.plainL l, k.ok) ∧ Cu.claimsL (Cu.plainL l) = Cu.claimsL l ∧ Cu.deepL (Cu.plainL l) ≤ Cu.deepL l := fun l => by
      induction l with
      | nil => intro _; exact ⟨(fun k hk => by cases hk), rfl, Nat.le_refl _⟩
      | cons a r ih2 =>
        intro h
        obtain ⟨h1, h2, h3⟩ := h a List.mem_cons_self
        obtain ⟨a1, a2, a3⟩ := ih2 fun x hx => h x (List.mem_cons_of_mem _ hx)
        refine ⟨fun k hk => ?_, ?_, ?_⟩
        · rcases List.mem_cons.mp (show k ∈ a.plain :: Cu.plainL r from hk) with rfl | hk
          · exact h1
          · exact a1 k hk
        · show a.plain.claims ++ Cu.claimsL (Cu.plainL r) = a.claims ++ Cu.claimsL r
          rw [h2, a2]
        · show max a.plain.deep (Cu.deepL (Cu.plainL r)) ≤ max a.deep (Cu.deepL r)
          omega
    obtain ⟨k1, k2, k3⟩ := key ks fun k hk => ih k hk (Cu.ok_kid h hk) (Nat.le_trans (Cu.claims_kid hk) hl)
    obtain ⟨t1, t2, t3⟩ := tie_all (y := y) (ws := ws) k1 (fun z => h.1.1 (List.length_eq_zero_iff.mp (by rw [← Cu.plainL_len, z]; rfl))) (by rw [Cu.plainL_len]; exact h.1.2.2) (by rw [k2]; exact hl)
    exact ⟨t1, t2.trans k2, by show _ ≤ 1 + Cu.deepL ks; have : (Cu.knot y ws ks).plain.deep ≤ 1 + Cu.deepL (Cu.plainL ks) := t3; omega⟩) u
theorem plainL_claims : ∀ {ks : List Cu}, (∀ k ∈ ks, k.plain.claims = k.claims) → Cu.claimsL (Cu.plainL ks) = Cu.claimsL ks
  | [], _ => rfl
  | k :: r, h => by
    show k.plain.claims ++ Cu.claimsL (Cu.plainL r) = k.claims ++ Cu.claimsL r
    rw [h k List.mem_cons_self, plainL_claims (ks := r) fun x hx => h x (List.mem_cons_of_mem _ hx)]
theorem Cu.Ok.plain {u : Cu} (h : u.Ok) : u.plain.Ok := by
  obtain ⟨a, b, c⟩ := plain_all h.ok h.few
  exact ⟨a, by rw [b]; exact h.few, Nat.le_trans c h.low⟩
/-! contrary and plain -/
theorem ml_con (y : Wy) : y.con.ml = y.ml := by cases y <;> rfl
theorem con_inj {y z : Wy} : y.con = z.con ↔ y = z := ⟨fun h => by rw [← Wy.con_con y, h, Wy.con_con], fun h => by rw [h]⟩
theorem melt1_con (y : Wy) (k : Cu) : melt1 y.con k.con = Cu.conL (melt1 y k) := by
  cases k with
  | boat c => rfl
  | knot z ws ks =>
    show (if y.con.ml = true ∧ z.con = y.con then Cu.conL ks else [Cu.knot z.con ws (Cu.conL ks)]) = Cu.conL (if y.ml = true ∧ z = y then ks else [Cu.knot z ws ks])
    rw [ml_con]
    by_cases q : y.ml = true ∧ z = y
    · rw [if_pos q, if_pos ⟨q.1, con_inj.mpr q.2⟩]
    · rw [if_neg q, if_neg fun w => q ⟨w.1, con_inj.mp w.2⟩]
      rfl
theorem conL_append (a b : List Cu) : Cu.conL (a ++ b) = Cu.conL a ++ Cu.conL b := by rw [Cu.conL_map, Cu.conL_map, Cu.conL_map, List.map_append]
theorem melt_con (y : Wy) : ∀ ks : List Cu, melt y.con (Cu.conL ks) = Cu.conL (melt y ks)
  | [] => rfl
  | k :: r => by
    show melt1 y.con k.con ++ melt y.con (Cu.conL r) = Cu.conL (melt1 y k ++ melt y r)
    rw [melt1_con, melt_con y r, conL_append]
theorem tie_con (y : Wy) (ws : List Int) (ks : List Cu) : (tie y ws ks).con = tie y.con ws (Cu.conL ks) := by
  cases ks with
  | nil => rfl
  | cons a r =>
    cases r with
    | nil => rfl
    | cons b r =>
      show Cu.knot y.con (redW ws) (Cu.conL (melt y (a :: b :: r))) = Cu.knot y.con (redW ws) (melt y.con (Cu.conL (a :: b :: r)))
      rw [melt_con]
theorem plain_con : ∀ u : Cu, u.plain.con = u.con.plain := fun u => Cu.ind (P := fun u => u.plain.con = u.con.plain) (fun c => rfl) (fun y ws ks ih => by
    show (tie y ws (Cu.plainL ks)).con = tie y.con ws (Cu.plainL (Cu.conL ks))
    rw [tie_con]
    congr 1
    rw [Cu.conL_map, Cu.plainL_map, Cu.plainL_map, Cu.conL_map, List.map_map, List.map_map]
    exact List.map_congr_left fun k hk => ih k hk) u
def Cu.isWay (y : Wy) : Cu → Bool
  | .boat _ => false
  | .knot z _ _ => decide (z = y)
mutual
def Cu.pl : Cu → Bool
  | .boat _ => true
  | .knot y ws ks => !(decide (ks.length = 1) || decide (1 < gcdW ws)) && Cu.plL y ks
def Cu.plL (y : Wy) : List Cu → Bool
  | [] => true
  | k :: r => (!(y.ml && k.isWay y) && k.pl) && Cu.plL y r
end
theorem plL_all {y : Wy} : ∀ {ks : List Cu}, Cu.plL y ks = true ↔ ∀ k ∈ ks, (!(y.ml && k.isWay y) && k.pl) = true
  | [] => ⟨fun _ k h => (by cases h), fun _ => rfl⟩
  | k :: r => by
    rw [Cu.plL, Bool.and_eq_true, plL_all (ks := r)]
    exact ⟨fun h x hx => by
      rcases List.mem_cons.mp hx with rfl | hx
      · exact h.1
      · exact h.2 x hx, fun h => ⟨h k List.mem_cons_self, fun x hx => h x (List.mem_cons_of_mem _ hx)⟩⟩
theorem isWay_con (y : Wy) (k : Cu) : k.con.isWay y.con = k.isWay y := by
  cases k with
  | boat c => rfl
  | knot z ws ks => exact decide_eq_decide.mpr con_inj
theorem pl_con : ∀ u : Cu, u.con.pl = u.pl := fun u => Cu.ind (P := fun u => u.con.pl = u.pl) (fun c => rfl) (fun y ws ks ih => by
    have : ∀ l : List Cu, (∀ k ∈ l, k.con.pl = k.pl) → Cu.plL y.con (Cu.conL l) = Cu.plL y l := fun l => by
      induction l with
      | nil => intro _; rfl
      | cons a r ih2 =>
        intro h
        show ((!(y.con.ml && a.con.isWay y.con) && a.con.pl) && Cu.plL y.con (Cu.conL r)) = ((!(y.ml && a.isWay y) && a.pl) && Cu.plL y r)
        rw [ml_con, isWay_con, h a List.mem_cons_self, ih2 fun x hx => h x (List.mem_cons_of_mem _ hx)]
    show (!(decide ((Cu.conL ks).length = 1) || decide (1 < gcdW ws)) && Cu.plL y.con (Cu.conL ks)) = (!(decide (ks.length = 1) || decide (1 < gcdW ws)) && Cu.plL y ks)
    rw [this ks ih, Cu.conL_map, List.length_map]) u
theorem wOk_of {y : Wy} {ws : List Int} {n : Nat} (h : wfit y.s ws n = true) : wOkW ws := by
  have := wfit_iff.mp h
  split at this
  · exact this.2
  · rw [this]; intro w hw; cases hw
theorem melt1_pl {y : Wy} {k : Cu} (h : k.pl = true) : ∀ x ∈ melt1 y k, (!(y.ml && x.isWay y) && x.pl) = true := fun x hx => by
  cases k with
  | boat c =>
    obtain rfl := List.mem_singleton.mp (show x ∈ [Cu.boat c] from hx)
    show (!(y.ml && false) && true) = true
    cases y.ml <;> rfl
  | knot z ws ks =>
    have h' : (!(decide (ks.length = 1) || decide (1 < gcdW ws)) && Cu.plL z ks) = true := h
    rw [melt1_knot] at hx
    split at hx
    · rename_i q
      have := plL_all.mp (Bool.and_eq_true_iff.mp h').2 x hx
      rw [← q.2]
      exact this
    · rename_i q
      obtain rfl := List.mem_singleton.mp hx
      rw [h, Bool.and_true]
      show (!(y.ml && decide (z = y))) = true
      cases e : y.ml with
      | false => rfl
      | true => rw [decide_eq_false (fun w => q ⟨e, w⟩)]; rfl
theorem tie_pl {y : Wy} {ws : List Int} {ks : List Cu} (hk : ∀ k ∈ ks, k.pl = true) (ho : ∀ k ∈ ks, k.ok) (hne : ks ≠ []) (hw : wOkW ws) : (tie y ws ks).pl = true := by
  by_cases h1 : ks.length = 1
  · obtain ⟨k, rfl⟩ := List.length_eq_one_iff.mp h1
    exact hk k List.mem_cons_self
  · rw [tie_more h1]
    have h0 := List.length_pos_iff.mpr hne
    obtain ⟨m1, m2⟩ := melt_ok (y := y) ho
    show (!(decide ((melt y ks).length = 1) || decide (1 < gcdW (redW ws))) && Cu.plL y (melt y ks)) = true
    have hg := gcdW_red hw
    rw [decide_eq_false (by omega), decide_eq_false (by omega), plL_all.mpr fun x hx => ?_]
    · rfl
    · obtain ⟨k, hk', hx⟩ := List.mem_flatMap.mp hx
      exact melt1_pl (hk k hk') x hx
theorem plain_pl : ∀ {u : Cu}, u.ok → u.claims.length ≤ 12 → u.plain.pl = true := fun {u} => Cu.ind (P := fun u => u.ok → u.claims.length ≤ 12 → u.plain.pl = true) (fun c _ _ => rfl) (fun y ws ks ih h hl => by
    refine tie_pl (fun k hk => ?_) (fun k hk => ?_) (fun z => h.1.1 (List.length_eq_zero_iff.mp (by rw [← Cu.plainL_len, z]; rfl))) (wOk_of h.1.2.2)
    · rw [Cu.plainL_map] at hk
      obtain ⟨k', hk', rfl⟩ := List.mem_map.mp hk
      exact ih k' hk' (Cu.ok_kid h hk') (Nat.le_trans (Cu.claims_kid hk') hl)
    · rw [Cu.plainL_map] at hk
      obtain ⟨k', hk', rfl⟩ := List.mem_map.mp hk
      exact (plain_all (Cu.ok_kid h hk') (Nat.le_trans (Cu.claims_kid hk') hl)).1) u
def cDivisor : Ct := fun ds k => ∃ (dw : D) (ws : List Int), ds = [dw] ∧ SeqD dw (ws.map PyData.int) ∧ k.rt (.int ((gcdW ws : Nat) : Int))
theorem divisor_v {dw : D} {ws : List Int} (h : SeqD dw (ws.map PyData.int)) : cDivisor [dw] (kv (.int ((gcdW ws : Nat) : Int))) := ⟨dw, ws, rfl, h, rfl⟩
def cIsPlain (n : Nat) : Ct := fun ds k => ∃ u : Cu, ds = [u.d] ∧ u.Ok ∧ u.deep ≤ n ∧ k.rt (.bool u.pl)
theorem isPlain_v {n : Nat} {u : Cu} (h : u.Ok) (hd : u.deep ≤ n) : cIsPlain n [u.d] (kv (.bool u.pl)) := ⟨u, rfl, h, hd, rfl⟩
def cMelted : Ct := fun ds k => ∃ (y : Wy) (ks : List Cu), ds = [.str y.s, .list (ks.map Cu.d)] ∧ (∀ u ∈ ks, u.ok) ∧ (Cu.claimsL ks).length ≤ 12 ∧ k.rl ((melt y ks).map Cu.d)
theorem melted_v {y : Wy} {ks : List Cu} (h : ∀ u ∈ ks, u.ok) (hl : (Cu.claimsL ks).length ≤ 12) : cMelted [.str y.s, .list (ks.map Cu.d)] (kl ((melt y ks).map Cu.d)) := ⟨y, ks, rfl, h, hl, rfl⟩
def cPlain (n : Nat) : Ct := fun ds k => ∃ u : Cu, ds = [u.d] ∧ u.Ok ∧ u.deep ≤ n ∧ k.rt u.plain.d
theorem plain_v {n : Nat} {u : Cu} (h : u.Ok) (hd : u.deep ≤ n) : cPlain n [u.d] (kv u.plain.d) := ⟨u, rfl, h, hd, rfl⟩
theorem s_melting (y : Wy) : (["row", "back", "part"] : List Str).contains y.s = y.ml := by cases y <;> decide +kernel
theorem s_inj {y z : Wy} : decide (y.s = z.s) = decide (y = z) := by cases y <;> cases z <;> decide +kernel
theorem s_boat (y : Wy) : decide (("boat" : Str) = y.s) = false := by cases y <;> decide +kernel
/-- the word ahead in a custom -/
def Cu.w : Cu → Str
  | .boat _ => "boat"
  | .knot y _ _ => y.s
theorem Cu.w_at (k : Cu) : ∃ ds, k.d = .tuple (.str k.w :: ds) := by
  cases k with
  | boat c => exact ⟨_, rfl⟩
  | knot y ws ks => exact ⟨_, rfl⟩
theorem Cu.w_shaped (k : Cu) : SeqAt.shaped (.str k.w) = true := by
  cases k with
  | boat c => show SeqAt.shaped (.str "boat") = true; decide +kernel
  | knot y ws ks => exact s_shaped y
theorem Cu.w_way (k : Cu) (y : Wy) : decide (k.w = y.s) = k.isWay y := by
  cases k with
  | boat c => exact s_boat y
  | knot z ws ks => exact s_inj
end Pu

set_option maxRecDepth 100000
namespace Pu
open PySem PySem.Spec PyProof.Rows L2
/-! ### () + t; told.extend(t), t a tuple -/
section
variable {prog : Program} {w : World} {A : Around} {E : Value → Shared → Prop} {s : Shared}
theorem cat_tup0 {t b : Addr} {ws : List Value} {Q : Value → Shared → Prop} (ht : IsTup s.heap t (#[] : Array Value)) (hb : IsTup s.heap b ws.toArray) (h : Q (.ref b) s) : wpAny (model prog w) A (binaryOp .Add (.ref t) (.ref b)) Q E s := by
  obtain ⟨⟨cls, dd, data, sl⟩, ho, hc, n, hd⟩ := id ht
  obtain ⟨⟨cls2, dd2, data2, sl2⟩, ho2, hc2, n2, hd2⟩ := id hb
  simp only at hc hd hc2 hd2
  subst hc hd hc2 hd2
  exact PySem.concat_meets ⟨_, ho, rfl⟩ ⟨_, ho2, rfl⟩ noFill_tuple_add seq_tuple_add PySem.F.slot_tuple_add PySem.F.entry_tuple_add (PySem.F.args_tuple_add_2 _ _)
    (tuple_addW0 t b #[] ws.toArray n n2 dd dd2 sl sl2 rfl) ⟨ho, ho2, h⟩
end
def rCatT0 (K : Frag) : R2 := fun x y H Q => ∃ a b ys, x = .ref a ∧ y = .ref b ∧ SqT K H a [] ∧ SqT K H b ys ∧ Q (.ref b) H
theorem op_catT0 {X : Cx} : OpR X (binaryOp .Add) (rCatT0 X.K) := by
  intro pins s σ H x y v u Q I rx ry h
  obtain ⟨a, b, ys, rfl, rfl, ha, hb, q⟩ := h
  cases rx
  cases ry
  obtain ⟨its, r1, p1, _⟩ := I.tuple ha
  obtain ⟨its2, r2, p2, _⟩ := I.tuple hb
  cases r1
  exact cat_tup0 p1 p2 ⟨.ref b, H, I, rfl, q⟩
def rCat0 (K : Frag) : R2 := fun x y H Q => rCatA K x y H Q ∨ rCatT0 K x y H Q
theorem o_plus0 {X : Cx} {K : Frag} (hK : X.K = K := by rfl) : OpR X (binaryOp .Add) (rCat0 K) := by
  subst hK
  exact OpR_or o_plus op_catT0
section
variable {K : Frag} {ρ : En} {ta tb te : TE} {ds es : List D} {i : Nat}
theorem a_add0 {i j : Int} (ha : Ev K ta ρ (.int i)) (hb : Ev K tb ρ (.int j)) : Ev K (tOp (rCat0 K) ta tb) ρ (.int (i + j)) := fun R0 H0 R σ H a Q q =>
  ha R0 H0 R σ H a _ fun x R1 H1 g1 dx => hb R0 H0 R1 σ H1 (a.grow g1) _ fun y R2 H2 g2 dy => by
    cases dx; cases dy
    exact .inl (.inl ⟨i, j, rfl, rfl, q _ R2 H2 (g1.trans g2) (.int _)⟩)
theorem a_catT0 (ha : Ev K ta ρ (.tuple ds)) (hb : Ev K tb ρ (.tuple es)) (hl : ds.length + es.length ≤ 100000) : Ev K (tOp (rCat0 K) ta tb) ρ (.tuple (ds ++ es)) := fun R0 H0 R σ H a Q q =>
  ha R0 H0 R σ H a _ fun x R1 H1 g1 dx => hb R0 H0 R1 σ H1 (a.grow g1) _ fun y R2 H2 g2 dy => by
    have g := g1.trans g2
    cases dx with
    | tup hs hd =>
      cases dy with
      | tup ht he =>
        rename_i p vs b ws
        cases hd with
        | nil => exact .inr ⟨p, b, ws, rfl, rfl, sqt_mono (g2.rd.trans g2.sub) hs, sqt_mono g2.sub ht, q _ R2 H2 g (.tup ht he)⟩
        | @cons v vs' d ds' hd0 hdr =>
          have hd : DpAll K R1 (v :: vs') (d :: ds') := .cons hd0 hdr
          refine .inl (.inr (.inr (.inl ⟨p, b, v :: vs', ws, rfl, rfl, sqt_mono (g2.rd.trans g2.sub) hs, sqt_mono g2.sub ht, List.cons_ne_nil _ _, ?_, fun z => ?_, fun z c hc => ?_⟩)))
          · rw [dpa_len hd, dpa_len he]
            exact Nat.le_trans hl (by decide)
          · subst z
            cases he
            rw [List.append_nil] at q
            exact q _ R2 H2 g (.tup (sqt_mono g2.rd hs) (dpa_mono g2.rd _ _ hd))
          · exact q _ _ _ (g.trans (Grow.alloc g.sub hc)) (.tup (SqT.of upd_same) (dpa_mono (Grow.alloc g.sub hc).rd _ _ (dpa_append (dpa_mono g2.rd _ _ hd) he)))
end
theorem list_extend_tupW (l : Addr) (items : Array Value) (n : Nat) (b : Addr) (items2 : Array Value) (n2 : Nat) (dd2 : Option Addr) (sl2 : Array (Option Value)) (hs0 : ¬(!items.isEmpty && Builtin.List.listTooLong (items.size + items2.size)) = true) (hs1 : items.size ≤ sizeLine) (hs2 : items.size + items2.size ≤ sizeLine + 1) :
    PySem.Meets (Builtin.«list.extend» ⟨[.ref l, .ref b], []⟩) (fun _ R s => s.heap.get? l = some { cls := .type "list", dict := none, data := .seq items n, slots := #[] } ∧ s.heap.get? b = some { cls := .type "tuple", dict := dd2, data := .seq items2 n2, slots := sl2 } ∧ R (.ok (.ret Value.none)) { s with heap := s.heap.update l (Obj.mapSeq fun x => x ++ items2), toks := s.toks }) :=
  .of_wp fun prog w A R s h => by
    obtain ⟨hp, g, d, tk, os⟩ := s; obtain ⟨hl, hb, h⟩ := h
    have f1 := AutoSeq1.idx_int; have f2 := AutoSeq1.sub_tuple_tuple; have f3 := AutoSeq1.sub_list_list; have f4 := AutoSeq1.sub_tuple_list; have f5 := AutoSeq1.sub_list_tuple
    have hz' : (items ++ items2).size ≤ sizeLine + 1 := by rw [Array.size_append]; exact hs2
    wp_walk using (wpAny_updateSeq hl rfl (hz := hs1) (_hz' := hz')), AutoSeq1.wpAny_loadPart' hl, AutoSeq1.wpAny_loadPart' hb
    exact ⟨_, rfl, h⟩
def rExtT (K : Frag) : V → List V → Hp → VK → Prop := fun x vs H Q => ∃ l b xs zs, x = .ref l ∧ vs = [.ref b] ∧ H l = some (.lst xs) ∧ SqT K H b zs ∧ xs.length + zs.length ≤ sizeLine ∧ Q .non (upd H l (.lst (xs ++ zs)))
theorem mt_extT {X : Cx} {K : Frag} (hK : X.K = K := by rfl) : MtM X "list.extend" (rExtT K) := by
  subst hK
  intro pins s σ H x vs v us Q I rx rv h
  obtain ⟨l, b, xs, zs, rfl, rfl, hH, hB, hz, q⟩ := h
  cases rx
  obtain ⟨u, rfl, ru⟩ := rv.one
  cases ru
  obtain ⟨z, its, n, r, hl, e⟩ := I.lstM hH
  obtain ⟨its2, r2, p2, _⟩ := I.tuple hB
  obtain ⟨⟨cls2, dd2, data2, sl2⟩, ho2, hc2, n2, hd2⟩ := id p2
  simp only at hc2 hd2
  subst hc2 hd2
  have hl2 := r2.length
  have hsz : its.toArray.size + its2.toArray.size ≤ sizeLine := by rw [List.size_toArray, List.size_toArray]; omega
  have hlong : ¬ (!its.toArray.isEmpty && Builtin.List.listTooLong (its.toArray.size + its2.toArray.size)) = true := by
    rw [notLongL hsz, Bool.and_false]
    exact Bool.false_ne_true
  refine call_meets F.slot_list_extend ⟨_, e, rfl⟩ F.entry_list_extend (F.args_list_extend_2 _ _)
    (list_extend_tupW l its.toArray n b its2.toArray n2 dd2 sl2 hlong (by rw [List.size_toArray]; omega) (by omega)) ⟨e, ho2, ?_⟩
  refine ⟨.non, _, I.lset (its' := its ++ its2) hH e (by simp) (r.append r2) ?_, rfl, q⟩
  rw [List.length_append]
  omega
theorem sd_extendT {K : Frag} {ρ : En} {te : TE} {ds es : List D} {W : WX} {ex : Value → En → Prop} {k : Ko} {i : Nat} (e : ρ[i]? = some (.own ds)) (h : Ev K te ρ (.tuple es)) (hl : ds.length + es.length ≤ 100000) (hk : k.nx (ρ.set i (.own (ds ++ es)))) : Sd K W ex (tDrop (tBM K "list" (rExtT K) (tVar i) (tCons te tNil))) ρ k := fun R0 H0 ok R σ H a D m => by
  obtain ⟨p, vs, h1, h2, h3, h4, h5⟩ := a.own i ds e
  refine ⟨_, h1, .inl ⟨rfl, _, SqL.of h2⟩, h R0 H0 R σ H a _ fun v R1 H1 g1 dv => ?_⟩
  have a1 := a.grow g1
  cases dv with
  | tup hs hd =>
    rename_i b ws
    refine ⟨p, b, vs, ws, rfl, rfl, g1.hp _ _ h2, sqt_mono g1.sub hs, ?_, m.nx _ R1 _ _ hk (a1.put e h1 (dpa_append (dpa_mono g1.rd _ _ h3) hd))⟩
    rw [dpa_len h3, dpa_len hd]
    exact Nat.le_trans hl (by decide)
theorem bool_eqv {a b : Bool} : PyData.eqv (.bool a) (.bool b) = decide (a = b) := by cases a <;> cases b <;> rfl
end Pu

set_option maxRecDepth 100000
namespace Pu
open PySem PySem.Spec PyProof.Rows L2
/-! ### the single steps to the plain custom -/
def putAt (ks : List Cu) (i : Nat) (vs : List Cu) : List Cu := ks.take i ++ vs ++ ks.drop (i + 1)
theorem cut_at {ks : List Cu} {i : Nat} {k : Cu} (h : ks[i]? = some k) : ks = ks.take i ++ k :: ks.drop (i + 1) := by
  have hl := getElem?_lt h
  have e : ks[i] = k := (List.getElem?_eq_some_iff.mp h).2
  rw [← e]
  exact (List.take_append_drop i ks).symm.trans (by rw [List.drop_eq_getElem_cons hl])
def meltAt (y : Wy) (ws : List Int) (ks : List Cu) (i : Nat) : List Cu := match ks[i]? with
  | some (.knot z _ js) => if y.ml = true ∧ z = y then [.knot y ws (putAt ks i js)] else []
  | _ => []
def hereOf (y : Wy) (ws : List Int) (ks : List Cu) : List Cu := (if ks.length = 1 then ks else []) ++ (List.range ks.length).flatMap (meltAt y ws ks) ++ (if 1 < gcdW ws then [.knot y (divW ws (gcdW ws)) ks] else [])
def inAt (y : Wy) (ws : List Int) (ks : List Cu) (f : Cu → List Cu) (i : Nat) : List Cu := match ks[i]? with
  | some k => (f k).map fun v => .knot y ws (putAt ks i [v])
  | none => []
def stepsF : Nat → Cu → List Cu
  | 0, _ => []
  | _ + 1, .boat _ => []
  | n + 1, .knot y ws ks => hereOf y ws ks ++ (List.range ks.length).flatMap (inAt y ws ks (stepsF n))
mutual
def Cu.mz : Cu → Nat
  | .boat _ => 0
  | .knot _ ws ks => 1 + (if 1 < gcdW ws then 1 else 0) + Cu.mzL ks
def Cu.mzL : List Cu → Nat
  | [] => 0
  | k :: r => k.mz + Cu.mzL r
end
theorem mzL_append : ∀ a b : List Cu, Cu.mzL (a ++ b) = Cu.mzL a + Cu.mzL b
  | [], b => by
    show Cu.mzL b = 0 + Cu.mzL b
    omega
  | k :: r, b => by
    show k.mz + Cu.mzL (r ++ b) = k.mz + Cu.mzL r + Cu.mzL b
    rw [mzL_append r b]
    omega
theorem mzL_at {ks : List Cu} {i : Nat} {k : Cu} (h : ks[i]? = some k) : Cu.mzL ks = Cu.mzL (ks.take i) + k.mz + Cu.mzL (ks.drop (i + 1)) := by
  have := congrArg Cu.mzL (cut_at h)
  rw [mzL_append] at this
  rw [this]
  show _ + (k.mz + _) = _
  omega
theorem mz_le : ∀ {u : Cu}, u.ok → u.mz ≤ 2 * (u.claims.length * u.deep) := fun {u} => Cu.ind (P := fun u => u.ok → u.mz ≤ 2 * (u.claims.length * u.deep)) (fun c _ => Nat.zero_le _) (fun y ws ks ih h => by
    have key : ∀ (l : List Cu) (m : Nat), (∀ k ∈ l, k.deep ≤ m) → (∀ k ∈ l, k.mz ≤ 2 * (k.claims.length * k.deep)) → Cu.mzL l ≤ 2 * ((Cu.claimsL l).length * m) := fun l m => by
      induction l with
      | nil => intro _ _; exact Nat.zero_le _
      | cons k r ih2 =>
        intro h1 h2
        have a1 := h2 k List.mem_cons_self
        have a2 := ih2 (fun x hx => h1 x (List.mem_cons_of_mem _ hx)) (fun x hx => h2 x (List.mem_cons_of_mem _ hx))
        have a3 := Nat.mul_le_mul_left k.claims.length (h1 k List.mem_cons_self)
        show k.mz + Cu.mzL r ≤ 2 * ((k.claims ++ Cu.claimsL r).length * m)
        rw [List.length_append, Nat.add_mul]
        omega
    have h1 := key ks (Cu.deepL ks) (fun k hk => Cu.deepL_le.mp (Nat.le_refl _) k hk) fun k hk => ih k hk (Cu.ok_kid h hk)
    have h2 := List.length_pos_iff.mpr (Cu.claims_ne h)
    have h3 : (Cu.knot y ws ks).claims = Cu.claimsL ks := rfl
    rw [h3] at h2 ⊢
    have e : (Cu.knot y ws ks).deep = 1 + Cu.deepL ks := rfl
    rw [e]
    show 1 + (if 1 < gcdW ws then 1 else 0) + Cu.mzL ks ≤ _
    rw [Nat.mul_add, Nat.mul_one]
    split <;> omega) u
/-- what a step leads to -/
structure Good (u v : Cu) : Prop where
  ok : v.Ok
  cl : v.claims = u.claims
  dp : v.deep ≤ u.deep
  pl : v.plain = u.plain
  mz : v.mz < u.mz
theorem putAt_claims {ks vs : List Cu} {i : Nat} {k : Cu} (h : ks[i]? = some k) (hv : Cu.claimsL vs = k.claims) : Cu.claimsL (putAt ks i vs) = Cu.claimsL ks := by
  have := congrArg Cu.claimsL (cut_at h)
  rw [this]
  unfold putAt
  rw [Cu.claimsL_append, Cu.claimsL_append, Cu.claimsL_append, hv, List.append_assoc]
  rfl
theorem putAt_deep {ks vs : List Cu} {i : Nat} {k : Cu} (h : ks[i]? = some k) (hv : Cu.deepL vs ≤ k.deep) : Cu.deepL (putAt ks i vs) ≤ Cu.deepL ks := by
  have := congrArg Cu.deepL (cut_at h)
  rw [this]
  unfold putAt
  rw [Cu.deepL_append, Cu.deepL_append, Cu.deepL_append]
  show _ ≤ max _ (max k.deep _)
  omega
theorem putAt_mem {ks vs : List Cu} {i : Nat} {x : Cu} (h : x ∈ putAt ks i vs) : x ∈ ks ∨ x ∈ vs := by
  unfold putAt at h
  rcases List.mem_append.mp h with h | h
  · rcases List.mem_append.mp h with h | h
    · exact .inl (List.mem_of_mem_take h)
    · exact .inr h
  · exact .inl (List.mem_of_mem_drop h)
theorem putAt_len {ks vs : List Cu} {i : Nat} (h : i < ks.length) : (putAt ks i vs).length + 1 = ks.length + vs.length := by
  unfold putAt
  rw [List.length_append, List.length_append, List.length_take, List.length_drop]
  omega
theorem putAt_mz {ks vs : List Cu} {i : Nat} {k : Cu} (h : ks[i]? = some k) : Cu.mzL (putAt ks i vs) + k.mz = Cu.mzL ks + Cu.mzL vs := by
  have := mzL_at h
  unfold putAt
  rw [mzL_append, mzL_append]
  omega
theorem plainL_append (a b : List Cu) : Cu.plainL (a ++ b) = Cu.plainL a ++ Cu.plainL b := by rw [Cu.plainL_map, Cu.plainL_map, Cu.plainL_map, List.map_append]
theorem ml_ws {y : Wy} {ws : List Int} {n : Nat} (h : wfit y.s ws n = true) (hm : y.ml = true) : ws = [] := by
  have hw := wfit_iff.mp h
  have : y.wd = false := by cases y <;> first | rfl | (exact absurd hm (by decide))
  rw [this] at hw
  exact hw
theorem good_one {y : Wy} {ws : List Int} {ks : List Cu} (h : (Cu.knot y ws ks).Ok) (h1 : ks.length = 1) : ∀ v ∈ ks, Good (.knot y ws ks) v := fun v hv => by
  obtain ⟨k, rfl⟩ := List.length_eq_one_iff.mp h1
  obtain rfl := List.mem_singleton.mp hv
  have hd := Cu.deep_kid (y := y) (ws := ws) (ks := [v]) List.mem_cons_self
  refine ⟨h.kid List.mem_cons_self, ?_, by omega, rfl, ?_⟩
  · show v.claims = v.claims ++ []
    rw [List.append_nil]
  · show v.mz < 1 + _ + (v.mz + 0)
    omega
theorem good_div {y : Wy} {ws : List Int} {ks : List Cu} (h : (Cu.knot y ws ks).Ok) (hg : 1 < gcdW ws) : Good (.knot y ws ks) (.knot y (divW ws (gcdW ws)) ks) := by
  have hw := wOk_of h.ok.1.2.2
  have e := redW_of hg
  have hg2 := gcdW_red hw
  rw [← e]
  refine ⟨⟨⟨⟨h.ok.1.1, h.ok.1.2.1, ?_⟩, h.ok.2⟩, h.few, h.low⟩, rfl, Nat.le_refl _, ?_, ?_⟩
  · have hf := wfit_iff.mp h.ok.1.2.2
    refine wfit_iff.mpr ?_
    split at hf
    · rename_i q
      rw [if_pos q, redW_len]
      exact ⟨hf.1, redW_ok hw⟩
    · rename_i q
      rw [if_neg q, hf]
      rfl
  · show tie y (redW ws) (Cu.plainL ks) = tie y ws (Cu.plainL ks)
    by_cases h1 : (Cu.plainL ks).length = 1
    · obtain ⟨k, hk⟩ := List.length_eq_one_iff.mp h1
      rw [hk]
      rfl
    · rw [tie_more h1, tie_more h1, redW_id hg2]
  · show 1 + (if 1 < gcdW (redW ws) then 1 else 0) + Cu.mzL ks < 1 + (if 1 < gcdW ws then 1 else 0) + Cu.mzL ks
    rw [if_neg (by omega), if_pos hg]
    omega
theorem good_melt {y : Wy} {ws zs : List Int} {ks js : List Cu} {i : Nat} (h : (Cu.knot y ws ks).Ok) (hi : ks[i]? = some (.knot y zs js)) (hm : y.ml = true) : Good (.knot y ws ks) (.knot y ws (putAt ks i js)) := by
  have hk := h.kid (List.mem_of_getElem? hi)
  have hw0 := ml_ws h.ok.1.2.2 hm
  have hz0 := ml_ws hk.ok.1.2.2 hm
  subst hw0 hz0
  have hil := getElem?_lt hi
  have hc := putAt_claims (vs := js) hi rfl
  have hall : ∀ x ∈ putAt ks i js, x.ok := fun x hx => by
    rcases putAt_mem hx with hx | hx
    · exact Cu.okL_all.mp h.ok.2 x hx
    · exact Cu.okL_all.mp hk.ok.2 x hx
  have hge := Cu.claimsL_ge hall
  have hfew : (Cu.claimsL ks).length ≤ 12 := h.few
  rw [hc] at hge
  have hjs := List.length_pos_iff.mpr hk.ok.1.1
  have hpl := putAt_len (vs := js) hil
  have hd := putAt_deep (vs := js) hi (by show Cu.deepL js ≤ 1 + Cu.deepL js; omega)
  have hmz := putAt_mz (vs := js) hi
  have hkm : (Cu.knot y [] js).mz = 1 + 0 + Cu.mzL js := rfl
  have hlow : 1 + Cu.deepL ks ≤ 8 := h.low
  refine ⟨⟨⟨⟨fun z => by rw [z] at hpl; have : 0 + 1 = ks.length + js.length := hpl; omega, by omega, ?_⟩, Cu.okL_all.mpr hall⟩, by show (Cu.claimsL _).length ≤ 12; rw [hc]; exact hfew, by show 1 + _ ≤ 8; omega⟩, hc, by show 1 + _ ≤ 1 + _; omega, ?_, ?_⟩
  · have hf := wfit_iff.mp h.ok.1.2.2
    refine wfit_iff.mpr ?_
    have : y.wd = false := by cases y <;> first | rfl | (exact absurd hm (by decide))
    rw [this]
    rfl
  · show tie y [] (Cu.plainL (putAt ks i js)) = tie y [] (Cu.plainL ks)
    have e1 : Cu.plainL ks = Cu.plainL (ks.take i) ++ (Cu.knot y [] js).plain :: Cu.plainL (ks.drop (i + 1)) := by
      have := congrArg Cu.plainL (cut_at hi)
      rw [plainL_append] at this
      exact this
    have e2 : Cu.plainL (putAt ks i js) = Cu.plainL (ks.take i) ++ Cu.plainL js ++ Cu.plainL (ks.drop (i + 1)) := by
      unfold putAt
      rw [plainL_append, plainL_append]
    have e3 : (Cu.knot y [] js).plain = tie y [] (Cu.plainL js) := rfl
    rw [e1, e2, e3]
    have hjl := Cu.plainL_len js
    generalize Cu.plainL (ks.take i) = P
    generalize Cu.plainL (ks.drop (i + 1)) = R
    generalize Cu.plainL js = Q at hjl
    by_cases h1 : Q.length = 1
    · obtain ⟨q, rfl⟩ := List.length_eq_one_iff.mp h1
      show tie y [] (P ++ [q] ++ R) = tie y [] (P ++ q :: R)
      rw [List.append_assoc]
      rfl
    · rw [tie_more h1]
      have hQ : 2 ≤ Q.length := by omega
      rw [tie_more (by rw [List.length_append, List.length_append]; omega)]
      have em : melt1 y (.knot y (redW []) (melt y Q)) = melt y Q := by rw [melt1_knot, if_pos ⟨hm, rfl⟩]
      by_cases hPR : P ++ R = []
      · obtain ⟨rfl, rfl⟩ := List.append_eq_nil_iff.mp hPR
        show Cu.knot y (redW []) (melt y ([] ++ Q ++ [])) = Cu.knot y (redW []) (melt y Q)
        rw [List.nil_append, List.append_nil]
      · have hPRl := List.length_pos_iff.mpr hPR
        rw [List.length_append] at hPRl
        rw [tie_more (by rw [List.length_append, List.length_cons]; omega), melt_append, melt_append, melt_append, melt_cons, em, List.append_assoc]
  · show 1 + 0 + Cu.mzL (putAt ks i js) < 1 + 0 + Cu.mzL ks
    omega
theorem good_in {y : Wy} {ws : List Int} {ks : List Cu} {i : Nat} {k v : Cu} (h : (Cu.knot y ws ks).Ok) (hi : ks[i]? = some k) (g : Good k v) : Good (.knot y ws ks) (.knot y ws (putAt ks i [v])) := by
  have hil := getElem?_lt hi
  have hc := putAt_claims (vs := [v]) hi (by show v.claims ++ [] = _; rw [List.append_nil]; exact g.cl)
  have hall : ∀ x ∈ putAt ks i [v], x.ok := fun x hx => by
    rcases putAt_mem hx with hx | hx
    · exact Cu.okL_all.mp h.ok.2 x hx
    · obtain rfl := List.mem_singleton.mp hx
      exact g.ok.ok
  have hpl := putAt_len (vs := [v]) hil
  have hpl : (putAt ks i [v]).length + 1 = ks.length + 1 := hpl
  have hd := putAt_deep (vs := [v]) hi (by show max v.deep 0 ≤ k.deep; have := g.dp; omega)
  have hmz := putAt_mz (vs := [v]) hi
  have hmz : Cu.mzL (putAt ks i [v]) + k.mz = Cu.mzL ks + (v.mz + 0) := hmz
  have hlow : 1 + Cu.deepL ks ≤ 8 := h.low
  have hm := g.mz
  refine ⟨⟨⟨⟨fun z => by rw [z] at hpl; have : 0 + 1 = ks.length + 1 := hpl; omega, by have := h.ok.1.2.1; omega, by rw [show (putAt ks i [v]).length = ks.length by omega]; exact h.ok.1.2.2⟩, Cu.okL_all.mpr hall⟩, by show (Cu.claimsL _).length ≤ 12; rw [hc]; exact h.few, by show 1 + _ ≤ 8; omega⟩, hc, by show 1 + _ ≤ 1 + _; omega, ?_, ?_⟩
  · show tie y ws (Cu.plainL (putAt ks i [v])) = tie y ws (Cu.plainL ks)
    congr 1
    have e1 := congrArg Cu.plainL (cut_at hi)
    rw [e1]
    unfold putAt
    rw [plainL_append, plainL_append, plainL_append]
    show _ ++ [v.plain] ++ _ = _ ++ k.plain :: _
    rw [g.pl, List.append_assoc]
    rfl
  · show 1 + _ + Cu.mzL (putAt ks i [v]) < 1 + _ + Cu.mzL ks
    omega
theorem steps_good : ∀ (n : Nat) (u : Cu), u.Ok → ∀ v ∈ stepsF n u, Good u v
  | 0, _, _, v, hv => by cases hv
  | n + 1, .boat _, _, v, hv => by cases hv
  | n + 1, .knot y ws ks, h, v, hv => by
    rcases List.mem_append.mp (show v ∈ hereOf y ws ks ++ (List.range ks.length).flatMap (inAt y ws ks (stepsF n)) from hv) with hv | hv
    · unfold hereOf at hv
      rcases List.mem_append.mp hv with hv | hv
      · rcases List.mem_append.mp hv with hv | hv
        · split at hv
          · rename_i h1
            exact good_one h h1 v hv
          · cases hv
        · obtain ⟨i, _, hv⟩ := List.mem_flatMap.mp hv
          unfold meltAt at hv
          split at hv
          · rename_i z zs js hi
            split at hv
            · rename_i q
              obtain rfl := List.mem_singleton.mp hv
              obtain ⟨q1, rfl⟩ := q
              exact good_melt h hi q1
            · cases hv
          · cases hv
      · split at hv
        · rename_i hg
          obtain rfl := List.mem_singleton.mp hv
          exact good_div h hg
        · cases hv
    · obtain ⟨i, _, hv⟩ := List.mem_flatMap.mp hv
      unfold inAt at hv
      split at hv
      · rename_i k hi
        obtain ⟨x, hx, rfl⟩ := List.mem_map.mp hv
        exact good_in h hi (steps_good n k (h.kid (List.mem_of_getElem? hi)) x hx)
      · cases hv
theorem flat_nil {f : Nat → List Cu} {n : Nat} : (List.range n).flatMap f = [] ↔ ∀ i, i < n → f i = [] := by
  rw [List.flatMap_eq_nil_iff]
  exact ⟨fun h i hi => h i (List.mem_range.mpr hi), fun h i hi => h i (List.mem_range.mp hi)⟩
theorem meltAt_nil {y : Wy} {ws : List Int} {ks : List Cu} {i : Nat} {k : Cu} (hi : ks[i]? = some k) : meltAt y ws ks i = [] ↔ (y.ml && k.isWay y) = false := by
  unfold meltAt
  rw [hi]
  cases k with
  | boat c => exact ⟨fun _ => Bool.and_false _, fun _ => rfl⟩
  | knot z zs js =>
    show (if y.ml = true ∧ z = y then [Cu.knot y ws (putAt ks i js)] else []) = [] ↔ (y.ml && decide (z = y)) = false
    by_cases q : y.ml = true ∧ z = y
    · rw [if_pos q, q.1, decide_eq_true q.2]
      exact ⟨(fun z => nomatch z), (fun z => nomatch z)⟩
    · rw [if_neg q]
      refine ⟨fun _ => ?_, fun _ => rfl⟩
      cases e : y.ml with
      | false => rfl
      | true => rw [decide_eq_false fun w => q ⟨e, w⟩]; rfl
theorem steps_nil : ∀ (n : Nat) (u : Cu), u.Ok → u.deep ≤ n → (stepsF n u = [] ↔ u.pl = true)
  | 0, u, _, hd => by have := u.deep_pos; omega
  | n + 1, .boat _, _, _ => ⟨fun _ => rfl, fun _ => rfl⟩
  | n + 1, .knot y ws ks, h, hd => by
    have e : stepsF (n + 1) (.knot y ws ks) = hereOf y ws ks ++ (List.range ks.length).flatMap (inAt y ws ks (stepsF n)) := rfl
    have e2 : (Cu.knot y ws ks).pl = (!(decide (ks.length = 1) || decide (1 < gcdW ws)) && Cu.plL y ks) := rfl
    have hne := List.length_pos_iff.mpr h.ok.1.1
    have kid : ∀ (i : Nat) (k : Cu), ks[i]? = some k → (inAt y ws ks (stepsF n) i = [] ↔ k.pl = true) := fun i k hi => by
      have hm := List.mem_of_getElem? hi
      have hdk := Cu.deep_kid (y := y) (ws := ws) hm
      have := steps_nil n k (h.kid hm) (by omega)
      unfold inAt
      rw [hi]
      show (stepsF n k).map _ = [] ↔ _
      rw [List.map_eq_nil_iff]
      exact this
    rw [e, e2, List.append_eq_nil_iff, flat_nil]
    unfold hereOf
    rw [List.append_eq_nil_iff, List.append_eq_nil_iff, flat_nil, Bool.and_eq_true, plL_all, Bool.not_eq_true', Bool.or_eq_false_iff, decide_eq_false_iff_not, decide_eq_false_iff_not]
    constructor
    · rintro ⟨⟨⟨h1, h2⟩, h3⟩, h4⟩
      refine ⟨⟨fun z => ?_, fun z => ?_⟩, fun k hk => ?_⟩
      · rw [if_pos z] at h1
        rw [h1] at hne
        exact absurd hne (by decide)
      · rw [if_pos z] at h3
        cases h3
      · obtain ⟨i, hi⟩ := List.mem_iff_getElem?.mp hk
        have hil := getElem?_lt hi
        rw [(meltAt_nil hi).mp (h2 i hil), (kid i k hi).mp (h4 i hil)]
        rfl
    · rintro ⟨⟨h1, h2⟩, h3⟩
      have key : ∀ (i : Nat) (k : Cu), ks[i]? = some k → (y.ml && k.isWay y) = false ∧ k.pl = true := fun i k hi => by
        have := Bool.and_eq_true_iff.mp (h3 k (List.mem_of_getElem? hi))
        exact ⟨Bool.not_eq_true' _ |>.mp this.1, this.2⟩
      refine ⟨⟨⟨if_neg h1, fun i hi => ?_⟩, if_neg h2⟩, fun i hi => ?_⟩
      · obtain ⟨k, hk⟩ : ∃ k, ks[i]? = some k := ⟨_, List.getElem?_eq_getElem hi⟩
        exact (meltAt_nil hk).mpr (key i k hk).1
      · obtain ⟨k, hk⟩ : ∃ k, ks[i]? = some k := ⟨_, List.getElem?_eq_getElem hi⟩
        exact (kid i k hk).mpr (key i k hk).2
/-- a plain custom stays -/
theorem pl_plain : ∀ u : Cu, u.pl = true → u.plain = u := fun u => Cu.ind (P := fun u => u.pl = true → u.plain = u) (fun c _ => rfl) (fun y ws ks ih h => by
    have e2 : (Cu.knot y ws ks).pl = (!(decide (ks.length = 1) || decide (1 < gcdW ws)) && Cu.plL y ks) := rfl
    rw [e2, Bool.and_eq_true, plL_all, Bool.not_eq_true', Bool.or_eq_false_iff, decide_eq_false_iff_not, decide_eq_false_iff_not] at h
    obtain ⟨⟨h1, h2⟩, h3⟩ := h
    have hk : Cu.plainL ks = ks := by
      rw [Cu.plainL_map]
      have : ks.map Cu.plain = ks.map id := List.map_congr_left fun k hk => ih k hk (Bool.and_eq_true_iff.mp (h3 k hk)).2
      rw [this, List.map_id]
    show tie y ws (Cu.plainL ks) = _
    rw [hk, tie_more h1, redW_id (by omega)]
    congr 1
    have : ∀ l : List Cu, (∀ k ∈ l, (!(y.ml && k.isWay y) && k.pl) = true) → melt y l = l := fun l => by
      induction l with
      | nil => intro _; rfl
      | cons k r ih2 =>
        intro h
        have hk := Bool.and_eq_true_iff.mp (h k List.mem_cons_self)
        rw [melt_cons, ih2 fun x hx => h x (List.mem_cons_of_mem _ hx)]
        cases k with
        | boat c => rfl
        | knot z zs js =>
          rw [melt1_knot, if_neg]
          · rfl
          · rintro ⟨a, b⟩
            have : (!(y.ml && decide (z = y))) = true := hk.1
            rw [a, decide_eq_true b] at this
            cases this
    exact this ks h3) u
theorem flat_len {f : Nat → List Cu} {g : Nat → Nat} (h : ∀ i, (f i).length ≤ g i) : ∀ n, ((List.range n).flatMap f).length ≤ ((List.range n).map g).sum
  | 0 => Nat.le_refl _
  | n + 1 => by
    have := flat_len h n
    have h2 := h n
    rw [List.range_succ, List.flatMap_append, List.map_append, List.length_append, List.sum_append]
    have e : ([n].flatMap f).length = (f n).length := by
      rw [List.flatMap_cons, List.flatMap_nil, List.append_nil]
    have e3 : ([n].map g).sum = g n := by rw [List.map_cons, List.map_nil, List.sum_cons, List.sum_nil]; omega
    omega
theorem mz_sum : ∀ ks : List Cu, (((List.range ks.length).map fun i => match ks[i]? with | some k => k.mz | none => 0)).sum = Cu.mzL ks := fun ks => by
  have : ∀ n, n ≤ ks.length → (((List.range n).map fun i => match ks[i]? with | some k => k.mz | none => 0)).sum = Cu.mzL (ks.take n) := fun n => by
    induction n with
    | zero => intro _; rfl
    | succ n ih =>
      intro hn
      obtain ⟨k, hk⟩ : ∃ k, ks[n]? = some k := ⟨_, List.getElem?_eq_getElem hn⟩
      rw [List.range_succ, List.map_append, List.sum_append, ih (by omega), take_snoc hk, mzL_append]
      show _ + ([match ks[n]? with | some k => k.mz | none => 0]).sum = _ + (k.mz + 0)
      rw [hk, List.sum_cons, List.sum_nil]
  have h := this ks.length (Nat.le_refl _)
  rw [List.take_length] at h
  exact h
theorem sum_mul (c : Nat) : ∀ l : List Nat, (l.map fun x => c * x).sum = c * l.sum
  | [] => rfl
  | x :: r => by rw [List.map_cons, List.sum_cons, List.sum_cons, sum_mul c r, Nat.mul_add]
theorem steps_len : ∀ (n : Nat) (u : Cu), u.Ok → (stepsF n u).length ≤ 14 * u.mz
  | 0, _, _ => Nat.zero_le _
  | n + 1, .boat _, _ => Nat.zero_le _
  | n + 1, .knot y ws ks, h => by
    have hl := h.ok.1.2.1
    show (hereOf y ws ks ++ (List.range ks.length).flatMap (inAt y ws ks (stepsF n))).length ≤ 14 * (1 + (if 1 < gcdW ws then 1 else 0) + Cu.mzL ks)
    have h1 : (hereOf y ws ks).length ≤ 14 := by
      unfold hereOf
      rw [List.length_append, List.length_append]
      have a1 : (if ks.length = 1 then ks else []).length ≤ 1 := by
        split
        · omega
        · exact Nat.zero_le _
      have a3 : (if 1 < gcdW ws then [Cu.knot y (divW ws (gcdW ws)) ks] else []).length ≤ 1 := by
        split
        · exact Nat.le_refl _
        · exact Nat.zero_le _
      have a2 := flat_len (f := meltAt y ws ks) (g := fun _ => 1) (fun i => by
        unfold meltAt
        split
        · split
          · exact Nat.le_refl _
          · exact Nat.zero_le _
        · exact Nat.zero_le _) ks.length
      have a4 : ((List.range ks.length).map fun _ => 1).sum = ks.length := by
        generalize ks.length = m
        induction m with
        | zero => rfl
        | succ m ih => rw [List.range_succ, List.map_append, List.sum_append, ih]; rfl
      omega
    have h2 := flat_len (f := inAt y ws ks (stepsF n)) (g := fun i => 14 * (match ks[i]? with | some k => k.mz | none => 0)) (fun i => by
      unfold inAt
      cases hi : ks[i]? with
      | none => exact Nat.zero_le _
      | some k =>
        show ((stepsF n k).map _).length ≤ 14 * k.mz
        rw [List.length_map]
        exact steps_len n k (h.kid (List.mem_of_getElem? hi))) ks.length
    have h3 := sum_mul 14 ((List.range ks.length).map fun i => match ks[i]? with | some k => k.mz | none => 0)
    rw [List.map_map, mz_sum] at h3
    have h4 : ((List.range ks.length).map fun i => 14 * (match ks[i]? with | some k => k.mz | none => 0)).sum = 14 * Cu.mzL ks := h3
    rw [h4] at h2
    rw [List.length_append]
    split <;> omega
theorem Cu.Ok.mz {u : Cu} (h : u.Ok) : u.mz ≤ 192 := by
  have h1 := mz_le h.ok
  have h2 := Nat.mul_le_mul h.few h.low
  omega
def cSteps (n : Nat) : Ct := fun ds k => ∃ u : Cu, ds = [u.d] ∧ u.Ok ∧ u.deep ≤ n ∧ k.rl ((stepsF n u).map Cu.d)
theorem stepsU_v {n : Nat} {u : Cu} (h : u.Ok) (hd : u.deep ≤ n) : cSteps n [u.d] (kl ((stepsF n u).map Cu.d)) := ⟨u, rfl, h, hd, rfl⟩
end Pu

set_option maxRecDepth 100000
namespace Pu
open PySem PySem.Spec PyProof.Rows L2
/-! ### a list of lists of one's own -/
def joinH (H0 F : Hp) : Hp := fun a => match F a with
  | some o => some o
  | none => H0 a
theorem joinH_some {H0 F : Hp} {a : Addr} {o : HO} (h : F a = some o) : joinH H0 F a = some o := by unfold joinH; rw [h]
theorem joinH_none {H0 F : Hp} {a : Addr} (h : F a = none) : joinH H0 F a = H0 a := by unfold joinH; rw [h]
theorem joinH_free {H0 F : Hp} {a : Addr} (h : joinH H0 F a = none) : F a = none ∧ H0 a = none := by
  cases e : F a with
  | some o => rw [joinH_some e] at h; cases h
  | none => rw [joinH_none e] at h; exact ⟨rfl, h⟩
structure Nest (R0 H0 F : Hp) (p : Addr) (qs : List Addr) (vss : List (List V)) : Prop where
  top : F p = some (.lst (qs.map V.ref))
  sub : ∀ (j : Nat) (q : Addr) (vs : List V), qs[j]? = some q → vss[j]? = some vs → F q = some (.lst vs)
  len : qs.length = vss.length
  nod : qs.Nodup
  ne : p ∉ qs
  all : ∀ a, F a ≠ none → a = p ∨ a ∈ qs
  new : ∀ a, F a ≠ none → R0 a = none ∧ H0 a = none
section
variable {K : Frag} {R0 H0 R H R' H' F : Hp} {ρ : En} {σ : L2.St}
theorem At.unhide (a : At K R0 (joinH H0 F) R ρ σ H) (hn : ∀ x, F x ≠ none → H0 x = none) : At K R0 H0 R ρ σ H where
  gr := ⟨a.gr.rd, fun b x e => a.gr.hp b x (by
    rw [joinH_none, e]
    cases q : F b with
    | none => rfl
    | some o =>
      have := hn b (by rw [q]; exact fun z => nomatch z)
      rw [this] at e
      cases e), a.gr.sub, fun x e n => (joinH_free (a.gr.new x e n)).2⟩
  len := a.len
  val := a.val
  own := fun i ds e => by
    obtain ⟨p, vs, h1, h2, h3, h4, h5⟩ := a.own i ds e
    exact ⟨p, vs, h1, h2, h3, h4, (joinH_free h5).2⟩
  raw := a.raw
  apart := a.apart
theorem At.rehide (a : At K R0 H0 R ρ σ H) (h1 : ∀ x o, F x = some o → H x = some o) (h2 : ∀ x, F x ≠ none → R x = none) (h3 : ∀ (i : Nat) (ds : List D) (p : Addr), ρ[i]? = some (.own ds) → σ[i]? = some (some (.ref p)) → F p = none) : At K R0 (joinH H0 F) R ρ σ H where
  gr := ⟨a.gr.rd, fun b x e => by
    cases q : F b with
    | some o => rw [joinH_some q] at e; cases e; exact h1 b _ q
    | none => rw [joinH_none q] at e; exact a.gr.hp b x e, a.gr.sub, fun x e n => by
    cases q : F x with
    | some o => exact absurd (h2 x (by rw [q]; exact fun z => nomatch z)) n
    | none => rw [joinH_none q]; exact a.gr.new x e n⟩
  len := a.len
  val := a.val
  own := fun i ds e => by
    obtain ⟨p, vs, g1, g2, g3, g4, g5⟩ := a.own i ds e
    exact ⟨p, vs, g1, g2, g3, g4, by rw [joinH_none (h3 i ds p e g1)]; exact g5⟩
  raw := a.raw
  apart := a.apart
end
/-- the state; the list of lists stands in a raw slot -/
def AtN (K : Frag) (R0 H0 R : Hp) (ρf : V → En) (dss : List (List D)) (σ : L2.St) (H : Hp) : Prop := ∃ F p qs vss, Nest R0 H0 F p qs vss ∧ At K R0 (joinH H0 F) R (ρf (.ref p)) σ H ∧ vss.length = dss.length ∧ ∀ (j : Nat) (vs : List V) (ds : List D), vss[j]? = some vs → dss[j]? = some ds → DpAll K R vs ds
section
variable {K : Frag} {R0 H0 R H R' H' : Hp} {ρf : V → En} {dss : List (List D)} {σ : L2.St}
theorem AtN.at (n : AtN K R0 H0 R ρf dss σ H) : ∃ v, At K R0 H0 R (ρf v) σ H := by
  obtain ⟨F, p, qs, vss, N, a, _⟩ := n
  exact ⟨_, a.unhide fun x h => (N.new x h).2⟩
theorem AtN.gr (n : AtN K R0 H0 R ρf dss σ H) : Grow R0 H0 R H := by
  obtain ⟨v, a⟩ := n.at
  exact a.gr
theorem AtN.grow (n : AtN K R0 H0 R ρf dss σ H) (g : Grow R H R' H') : AtN K R0 H0 R' ρf dss σ H' := by
  obtain ⟨F, p, qs, vss, N, a, hl, hd⟩ := n
  exact ⟨F, p, qs, vss, N, a.grow g, hl, fun j vs ds h1 h2 => dpa_mono g.rd _ _ (hd j vs ds h1 h2)⟩
theorem AtN.later (n : AtN K R0 H0 R ρf dss σ H) : AtN K R H0 R ρf dss σ H := by
  obtain ⟨F, p, qs, vss, N, a, hl, hd⟩ := n
  refine ⟨F, p, qs, vss, ⟨N.top, N.sub, N.len, N.nod, N.ne, N.all, fun x h => ⟨?_, (N.new x h).2⟩⟩, a.later a.gr (Same.refl R), hl, hd⟩
  cases e : R x with
  | none => rfl
  | some o =>
    have := (joinH_free (a.gr.new x (N.new x h).1 (by rw [e]; exact fun z => nomatch z))).1
    exact absurd this h
theorem AtN.back (n : AtN K R' H0 R ρf dss σ H) {H1 : Hp} (g : Grow R0 H0 R' H1) : AtN K R0 H0 R ρf dss σ H := by
  obtain ⟨F, p, qs, vss, N, a, hl, hd⟩ := n
  have g2 : Grow R0 (joinH H0 F) R' H := ⟨g.rd, a.gr.hp, a.gr.rd.trans a.gr.sub, fun x e n => by
    cases q : F x with
    | some o => exact absurd (N.new x (by rw [q]; exact fun z => nomatch z)).1 n
    | none => rw [joinH_none q]; exact g.new x e n⟩
  refine ⟨F, p, qs, vss, ⟨N.top, N.sub, N.len, N.nod, N.ne, N.all, fun x h => ⟨?_, (N.new x h).2⟩⟩, a.back g2, hl, hd⟩
  cases e : R0 x with
  | none => rfl
  | some o =>
    have := g.rd x o e
    rw [(N.new x h).1] at this
    cases this
end
/-- a statement in such a state -/
def SdN (K : Frag) (W : WX) (ex : Value → En → Prop) (ts : TS) (ρf : V → En) (dss : List (List D)) (nx : (V → En) → List (List D) → Prop) : Prop := ∀ R0 H0, OkW K W ex R0 H0 → ∀ R σ H, AtN K R0 H0 R ρf dss σ H → ∀ D : Ends, (∀ ρf' dss' R' σ' H', nx ρf' dss' → AtN K R0 H0 R' ρf' dss' σ' H' → D.nx σ' H') → ts D σ H
section
variable {K : Frag} {W : WX} {ex : Value → En → Prop} {ts t u tb : TS} {ρf ρf' : V → En} {dss : List (List D)} {nx : (V → En) → List (List D) → Prop} {ds : List D} {d : D} {g : TG} {te tk : TE} {i : Nat}
theorem sdN_seq (h : SdN K W ex t ρf dss (fun r e => SdN K W ex u r e nx)) : SdN K W ex (tSeq t u) ρf dss nx := fun R0 H0 ok R σ H a D m =>
  h R0 H0 ok R σ H a { D with nx := u D } fun r e R' σ' H' s a' => s R0 H0 ok R' σ' H' a' D m
theorem sdN_imp {nx' : (V → En) → List (List D) → Prop} (h : SdN K W ex ts ρf dss nx) (hi : ∀ r e, nx r e → nx' r e) : SdN K W ex ts ρf dss nx' := fun R0 H0 ok R σ H a D m => h R0 H0 ok R σ H a D fun r e R' σ' H' q a' => m r e R' σ' H' (hi r e q) a'
/-- a statement that does not touch it -/
theorem sdN_frame (h : ∀ v, Sd K W ex ts (ρf v) ⟨fun ρ' => ρ' = ρf' v, fun _ => False, fun _ => False, fun _ => False, fun _ => False⟩) (hn : nx ρf' dss) : SdN K W ex ts ρf dss nx := fun R0 H0 ok R σ H n D m => by
  obtain ⟨F, p, qs, vss, N, a, hl, hd⟩ := n
  refine h (.ref p) R (joinH H0 F) (fun c ρ R2 σ2 H2 e a2 => ok c ρ R2 σ2 H2 e ((a2.back a.gr).unhide fun x h => (N.new x h).2)) R σ H (a.later a.gr (Same.refl R)) D ⟨fun ρ' R' σ' H' e a' => ?_, fun _ _ _ _ z => z.elim, fun _ _ _ _ _ z => z.elim, fun _ _ _ _ z => z.elim, fun _ _ _ _ z => z.elim⟩
  have e' : ρ' = ρf' (.ref p) := e
  subst e'
  exact m ρf' dss R' σ' H' hn ⟨F, p, qs, vss, N, a'.back a.gr, hl, fun j vs ds h1 h2 => dpa_mono a'.gr.rd _ _ (hd j vs ds h1 h2)⟩
theorem sdN_for {wi : TI} (Inv : Nat → (V → En) → List (List D) → Prop) (hI : ∀ v, Id K wi (ρf v) ds) (h0 : Inv 0 ρf dss)
    (hs : ∀ i d r e, ds[i]? = some d → Inv i r e → ∃ r2, (∀ v, Gd K g d (r v) (r2 v)) ∧ SdN K W ex tb r2 e (Inv (i + 1))) (hd : ∀ r e, Inv ds.length r e → nx r e) : SdN K W ex (tFor wi g tb) ρf dss nx := fun R0 H0 ok R σ H n D m => by
  obtain ⟨F, p, qs, vss, N, a, hl, hdd⟩ := n
  refine hI (.ref p) R0 (joinH H0 F) R σ H a _ fun J R' H' gr yl => ?_
  refine ⟨fun i n σ' H2 => n = ds.length - i ∧ i ≤ ds.length ∧ ∃ r e R2, Inv i r e ∧ AtN K R0 H0 R2 r e σ' H2 ∧ Same R' R2, ⟨ds.length, by simp, Nat.zero_le _, ρf, dss, R', h0, AtN.grow ⟨F, p, qs, vss, N, a, hl, hdd⟩ gr, Same.refl _⟩, ?_⟩
  rintro i n σ' H2 ⟨rfl, hi, r, e, R2, w, a2, s2⟩
  obtain ⟨y1, y2⟩ := yl R2 H2 s2 a2.gr.sub
  by_cases hlt : i < ds.length
  · obtain ⟨go, yld⟩ := y1 i ds[i] (List.getElem?_eq_getElem hlt)
    refine .inr ⟨go, fun σ3 H3 => ∃ r3 e3 R3, Inv (i + 1) r3 e3 ∧ AtN K R0 H0 R3 r3 e3 σ3 H3 ∧ Same R' R3, fun σ3 H3 ⟨r3, e3, R3, w3, a3, s3⟩ => ⟨ds.length - (i + 1), by omega, rfl, hlt, r3, e3, R3, w3, a3, s3⟩, fun x H3 y => ?_⟩
    obtain ⟨R3, g3, dx⟩ := yld x H3 y
    obtain ⟨r2, hg, hb⟩ := hs i ds[i] r e (List.getElem?_eq_getElem hlt) w
    obtain ⟨F2, p2, qs2, vss2, N2, b3, hl2, hd2⟩ := a2.grow g3
    refine hg (.ref p2) R0 (joinH H0 F2) R3 x σ' H3 b3 dx _ fun σ4 a4 => ?_
    have c4 : AtN K R0 H0 R3 r2 e σ4 H3 := ⟨F2, p2, qs2, vss2, N2, a4, hl2, hd2⟩
    have G := c4.gr
    exact hb R3 H0 (ok.back G) R3 σ4 H3 c4.later _ fun r5 e5 R5 σ5 H5 q a5 => ⟨r5, e5, R5, q, a5.back G, (s2.trans g3.rd).trans a5.gr.rd⟩
  · have e' : i = ds.length := by omega
    subst e'
    exact .inl ⟨y2, m r e R2 σ' H2 (hd r e w) a2⟩
theorem nodup_at {α : Type} {xs : List α} (h : xs.Nodup) {i j : Nat} {a : α} (h1 : xs[i]? = some a) (h2 : xs[j]? = some a) : i = j := by
  obtain ⟨a1, a2⟩ := List.getElem?_eq_some_iff.mp h1
  obtain ⟨b1, b2⟩ := List.getElem?_eq_some_iff.mp h2
  rcases Nat.lt_trichotomy i j with q | q | q
  · exact absurd (a2.trans b2.symm) ((List.pairwise_iff_getElem.mp h) i j a1 b1 q)
  · exact q
  · exact absurd (b2.trans a2.symm) ((List.pairwise_iff_getElem.mp h) j i b1 a1 q)
/-- x[k].append(e) -/
theorem sdN_append {j : Nat} (hi : ∀ v, (ρf v)[i]? = some (.raw v)) (hk : ∀ v, Ev K tk (ρf v) (.int (j : Int))) (he : ∀ v, Ev K te (ρf v) d) (hj : dss[j]? = some ds) (hlen : ds.length ≤ 100000) (hn : nx ρf (dss.set j (ds ++ [d]))) :
    SdN K W ex (tDrop (tBM K "list" rAppend (tOp (rIx K) (tVar i) tk) (tCons te tNil))) ρf dss nx := fun R0 H0 ok R σ H n D m => by
  obtain ⟨F, p, qs, vss, N, a, hl, hd⟩ := n
  refine ⟨_, a.raw i _ (hi _), hk (.ref p) R0 _ R σ H a _ fun y R1 H1 g1 dy => ?_⟩
  cases dy
  have a1 := a.grow g1
  have hjl := getElem?_lt hj
  obtain ⟨q, hq⟩ : ∃ q, qs[j]? = some q := ⟨_, List.getElem?_eq_getElem (by rw [N.len, hl]; exact hjl)⟩
  obtain ⟨vs, hvs⟩ : ∃ vs, vss[j]? = some vs := ⟨_, List.getElem?_eq_getElem (by rw [hl]; exact hjl)⟩
  have Fq := N.sub j q vs hq hvs
  have hp1 := a1.gr.hp p _ (joinH_some N.top)
  have hq1 := a1.gr.hp q _ (joinH_some Fq)
  refine .inl ⟨p, qs.map V.ref, (j : Int), .ref q, rfl, rfl, SqL.of hp1, atI_nat (by rw [List.getElem?_map, hq]; rfl), ?_⟩
  refine ⟨.inl ⟨rfl, _, SqL.of hq1⟩, he (.ref p) R0 _ R1 σ H1 a1 _ fun v R2 H2 g2 dv => ?_⟩
  have a2 := a1.grow g2
  have hp2 := a2.gr.hp p _ (joinH_some N.top)
  have hq2 := a2.gr.hp q _ (joinH_some Fq)
  have hvl := dpa_len (hd j vs ds hvs hj)
  have hqR : ∀ x, F x ≠ none → R2 x = none := fun x h => by
    cases e : R2 x with
    | none => rfl
    | some o => exact absurd (joinH_free (a2.gr.new x (N.new x h).1 (by rw [e]; exact fun z => nomatch z))).1 h
  have hqm : q ∈ qs := List.mem_of_getElem? hq
  have hpq : p ≠ q := fun z => N.ne (by rw [z]; exact hqm)
  have Fqn : F q ≠ none := by rw [Fq]; exact fun z => nomatch z
  refine ⟨q, vs, v, rfl, rfl, hq2, ?_, ?_⟩
  · rw [hvl]
    exact Nat.lt_of_le_of_lt hlen (by decide)
  have hF' : ∀ x, upd F q (.lst (vs ++ [v])) x ≠ none → F x ≠ none := fun x h => by
    by_cases e : x = q
    · rw [e]; exact Fqn
    · rw [upd_ne e] at h; exact h
  have jF : ∀ x, x ≠ q → joinH H0 (upd F q (.lst (vs ++ [v]))) x = joinH H0 F x := fun x e => by
    unfold joinH
    rw [upd_ne e]
  refine m ρf _ R2 σ _ hn ⟨upd F q (.lst (vs ++ [v])), p, qs, vss.set j (vs ++ [v]), ⟨?_, ?_, ?_, N.nod, N.ne, fun x h => N.all x (hF' x h), fun x h => N.new x (hF' x h)⟩, ⟨?_, a2.len, a2.val, ?_, a2.raw, a2.apart⟩, ?_, ?_⟩
  · rw [upd_ne hpq]; exact N.top
  · intro j2 q2 vs2 h1 h2
    by_cases e : j2 = j
    · subst e
      rw [hq] at h1
      obtain rfl := Option.some.inj h1
      rw [List.getElem?_set_self (getElem?_lt hvs)] at h2
      obtain rfl := Option.some.inj h2
      exact upd_same
    · have : q2 ≠ q := fun z => e (nodup_at N.nod h1 (by rw [hq, z]))
      rw [upd_ne this]
      rw [List.getElem?_set_ne (fun z => e z.symm)] at h2
      exact N.sub j2 q2 vs2 h1 h2
  · rw [List.length_set]; exact N.len
  · refine ⟨a2.gr.rd, fun b x e => ?_, fun b x e => ?_, fun x e n => ?_⟩
    · by_cases q1 : b = q
      · subst q1
        rw [upd_same]
        rw [joinH_some upd_same] at e
        exact e
      · rw [upd_ne q1]
        rw [jF b q1] at e
        exact a2.gr.hp b x e
    · have q1 : b ≠ q := fun z => by rw [z, hqR q Fqn] at e; cases e
      rw [upd_ne q1]
      exact a2.gr.sub b x e
    · have q1 : x ≠ q := fun z => n (by rw [z]; exact hqR q Fqn)
      rw [jF x q1]
      exact a2.gr.new x e n
  · intro i2 ds2 e
    obtain ⟨p2, vs2, h1, h2, h3, h4, h5⟩ := a2.own i2 ds2 e
    have q1 : p2 ≠ q := fun z => Fqn (by rw [← z]; exact (joinH_free h5).1)
    exact ⟨p2, vs2, h1, by rw [upd_ne q1]; exact h2, h3, h4, by rw [jF p2 q1]; exact h5⟩
  · rw [List.length_set, List.length_set]; exact hl
  · intro j2 vs2 ds2 h1 h2
    by_cases e : j2 = j
    · subst e
      rw [List.getElem?_set_self (getElem?_lt hvs)] at h1
      rw [List.getElem?_set_self hjl] at h2
      obtain rfl := Option.some.inj h1
      obtain rfl := Option.some.inj h2
      exact dpa_snoc (dpa_mono (g1.rd.trans g2.rd) _ _ (hd j2 vs ds hvs hj)) dv
    · rw [List.getElem?_set_ne (fun z => e z.symm)] at h1 h2
      exact dpa_mono (g1.rd.trans g2.rd) _ _ (hd j2 vs2 ds2 h1 h2)
/-- the list of lists becomes data that stays -/
theorem AtN.show_ {R0 H0 R H : Hp} {σ : L2.St} (n : AtN K R0 H0 R ρf dss σ H) (hi : ∀ v, (ρf v)[i]? = some (.raw v)) : ∃ R' v, At K R0 H0 R' ((ρf v).set i (.val (.list (dss.map PyData.list)))) σ H := by
  obtain ⟨F, p, qs, vss, N, a, hl, hd⟩ := n
  have b := a.unhide fun x h => (N.new x h).2
  have hR : ∀ x, F x ≠ none → R x = none := fun x h => by
    cases e : R x with
    | none => rfl
    | some o => exact absurd (joinH_free (a.gr.new x (N.new x h).1 (by rw [e]; exact fun z => nomatch z))).1 h
  have rr : Same R (joinH R F) := fun x o e => by
    rw [joinH_none, e]
    cases q : F x with
    | none => rfl
    | some o2 => rw [hR x (by rw [q]; exact fun z => nomatch z)] at e; cases e
  have G : Grow R0 H0 (joinH R F) H := ⟨b.gr.rd.trans rr, b.gr.hp, fun x o e => by
    cases q : F x with
    | some o2 => rw [joinH_some q] at e; cases e; exact a.gr.hp x _ (joinH_some q)
    | none => rw [joinH_none q] at e; exact a.gr.sub x o e, fun x e n => by
    cases q : F x with
    | some o2 => exact (N.new x (by rw [q]; exact fun z => nomatch z)).2
    | none => rw [joinH_none q] at n; exact b.gr.new x e n⟩
  have c : At K R0 H0 (joinH R F) (ρf (.ref p)) σ H := ⟨G, a.len, fun j d e => by
    obtain ⟨v, h1, h2⟩ := a.val j d e
    exact ⟨v, h1, dp_mono rr _ _ h2⟩, fun j ds e => by
    obtain ⟨p2, vs2, h1, h2, h3, h4, h5⟩ := a.own j ds e
    obtain ⟨f1, f2⟩ := joinH_free h5
    exact ⟨p2, vs2, h1, h2, dpa_mono rr _ _ h3, by rw [joinH_none f1]; exact h4, f2⟩, a.raw, a.apart⟩
  have hσ := a.raw i _ (hi (.ref p))
  have key : ∀ (qs : List Addr) (vss : List (List V)) (dss : List (List D)), qs.length = vss.length → vss.length = dss.length → (∀ j q vs ds, qs[j]? = some q → vss[j]? = some vs → dss[j]? = some ds → F q = some (.lst vs) ∧ DpAll K R vs ds) → DpAll K (joinH R F) (qs.map V.ref) (dss.map PyData.list) := fun qs => by
    induction qs with
    | nil =>
      intro vss dss l1 l2 _
      cases vss with
      | nil =>
        cases dss with
        | nil => exact .nil
        | cons _ _ => cases l2
      | cons _ _ => cases l1
    | cons q r ih =>
      intro vss dss l1 l2 h
      cases vss with
      | nil => cases l1
      | cons vs vr =>
        cases dss with
        | nil => cases l2
        | cons ds dr =>
          obtain ⟨h1, h2⟩ := h 0 q vs ds rfl rfl rfl
          exact .cons (.lst (SqL.of (joinH_some h1)) (dpa_mono rr _ _ h2)) (ih vr dr (by simpa using l1) (by simpa using l2) fun j q vs ds e1 e2 e3 => h (j + 1) q vs ds e1 e2 e3)
  have dv : Dp K (joinH R F) (.ref p) (.list (dss.map PyData.list)) := .lst (SqL.of (joinH_some N.top)) (key qs vss dss N.len hl fun j q vs ds e1 e2 e3 => ⟨N.sub j q vs e1 e2, hd j vs ds e2 e3⟩)
  have e := c.set (i := i) dv
  have hset : σ.set i (some (.ref p)) = σ := by
    refine List.ext_getElem? fun k => ?_
    by_cases z : i = k
    · subst z
      rw [List.getElem?_set_self (List.getElem?_eq_some_iff.mp hσ).1, hσ]
    · rw [List.getElem?_set_ne z]
  rw [hset] at e
  exact ⟨_, _, e⟩
/-- rows = [[] for .. in ..]; t; and on with rows as data that stays -/
theorem sd_nest {ρ : En} {k : Ko} {wi : TI} {vs : List Nat} (hI : Id K wi ρ ds) (hw : Gw g vs) (hg : ∀ (j : Nat) (d : D), ds[j]? = some d → ∃ ρ2, Gd K g d (wipeE ρ vs) ρ2) (hl : ds.length ≤ 100000) (hil : i < ρ.length)
    (ht : SdN K W ex t (fun v => ρ.set i (.raw v)) (List.replicate ds.length []) (fun r e => (∀ v, (r v)[i]? = some (.raw v)) ∧ ∀ v, Sd K W ex u ((r v).set i (.val (.list (e.map PyData.list)))) k)) :
    Sd K W ex (tSeq (tAsg (tLc wi g tYes (tLst tNil) vs) (gName i)) (tSeq t u)) ρ k := fun R0 H0 ok R σ H a D m => by
  refine hI R0 H0 R σ H a _ fun J R' H' gr yl => ?_
  intro Dd hD
  refine ⟨fun n l H2 => l = ds.length - n ∧ n ≤ ds.length ∧ ∃ R2 qs, Grow R' H' R2 H2 ∧ R2 Dd = none ∧ H2 Dd = some (.lst (qs.map V.ref)) ∧ qs.length = n ∧ qs.Nodup ∧ Dd ∉ qs ∧ ∀ q ∈ qs, H2 q = some (.lst []) ∧ R2 q = none ∧ H' q = none, ⟨ds.length, by simp, Nat.zero_le _, R', [], Grow.hide gr.sub hD, gr.sub.free hD, upd_same, rfl, .nil, (fun z => by cases z), (fun q z => by cases z)⟩, ?_⟩
  rintro n l H2 ⟨rfl, hn, R2, qs, g2, r2, h2, hlen, hnod, hnot, hall⟩
  obtain ⟨y1, y2⟩ := yl R2 H2 g2.rd g2.sub
  by_cases hlt : n < ds.length
  · have hd : ds[n]? = some ds[n] := List.getElem?_eq_getElem hlt
    obtain ⟨go, yld⟩ := y1 n ds[n] hd
    refine .inr ⟨go, fun H3 => ∃ R3 qs, Grow R' H' R3 H3 ∧ R3 Dd = none ∧ H3 Dd = some (.lst (qs.map V.ref)) ∧ qs.length = n + 1 ∧ qs.Nodup ∧ Dd ∉ qs ∧ ∀ q ∈ qs, H3 q = some (.lst []) ∧ R3 q = none ∧ H' q = none, fun H3 ⟨R3, qs3, h⟩ => ⟨ds.length - (n + 1), by omega, rfl, hlt, R3, qs3, h⟩, fun x H3 y => ?_⟩
    obtain ⟨R3, g3, dx⟩ := yld x H3 y
    obtain ⟨ρ2, hgg⟩ := hg n ds[n] hd
    have a3 : At K R0 H0 R3 (wipeE ρ vs) (L2.wipe σ vs) H3 := (a.grow ((gr.trans g2).trans g3)).wipe vs
    refine hw x _ H3 _ wipe_wipe ?_
    refine hgg R0 H0 R3 x _ H3 a3 dx _ fun σ4 a4 _ => ?_
    refine et_yes (K := K) (ρ := ρ2) R0 H0 R3 σ4 H3 a4 _ fun R5 H5 g5 => ?_
    rw [if_pos rfl]
    have g35 := g3.trans g5
    have keepD : R5 Dd = none := by
      cases e : R5 Dd with
      | none => rfl
      | some o =>
        have z := g35.new Dd r2 (by rw [e]; exact fun z => nomatch z)
        rw [h2] at z
        cases z
    refine ⟨Nat.zero_le _, fun c hc => ?_⟩
    have hD5 := g35.hp _ _ h2
    have cD : Dd ≠ c := fun z => by rw [z, hc] at hD5; cases hD5
    have cq : ∀ q ∈ qs, q ≠ c := fun q hq z => by
      have := g35.hp _ _ (hall q hq).1
      rw [z, hc] at this
      cases this
    have R5c : R5 c = none := g35.sub.free hc
    have g2free : ∀ x, Dd ≠ x → H2 x = none → H' x = none := fun x _ h => g2.hp.free h
    have H'c : H' c = none := g2free c cD (g35.hp.free hc)
    refine ⟨qs.map V.ref, by rw [upd_ne cD]; exact hD5, by rw [List.length_map, hlen]; exact Nat.lt_of_lt_of_le hlt (Nat.le_trans hl (by decide)), R5, qs ++ [c], ?_, keepD, by rw [upd_same, List.map_append]; rfl, by rw [List.length_append, hlen]; rfl, ?_, ?_, ?_⟩
    · have G := g2.trans g35
      refine ⟨G.rd, fun b o e => ?_, fun b o e => ?_, G.new⟩
      · have n1 : b ≠ Dd := fun z => by rw [z, hD] at e; cases e
        have n2 : b ≠ c := fun z => by rw [z, H'c] at e; cases e
        rw [upd_ne n1, upd_ne n2]
        exact G.hp _ _ e
      · have n1 : b ≠ Dd := fun z => by rw [z, keepD] at e; cases e
        have n2 : b ≠ c := fun z => by rw [z, R5c] at e; cases e
        rw [upd_ne n1, upd_ne n2]
        exact G.sub _ _ e
    · refine List.nodup_append.mpr ⟨hnod, List.nodup_cons.mpr ⟨List.not_mem_nil, List.nodup_nil⟩, fun x hx y hy => ?_⟩
      obtain rfl := List.mem_singleton.mp hy
      exact cq x hx
    · intro z
      rcases List.mem_append.mp z with z | z
      · exact hnot z
      · exact cD (List.mem_singleton.mp z)
    · intro q hq
      rcases List.mem_append.mp hq with hq | hq
      · obtain ⟨e1, e2, e3⟩ := hall q hq
        refine ⟨?_, ?_, e3⟩
        · rw [upd_ne (fun z => hnot (by rw [← z]; exact hq)), upd_ne (cq q hq)]
          exact g35.hp _ _ e1
        · cases e : R5 q with
          | none => rfl
          | some o =>
            have z := g35.new q e2 (by rw [e]; exact fun z => nomatch z)
            rw [e1] at z
            cases z
      · obtain rfl := List.mem_singleton.mp hq
        exact ⟨by rw [upd_ne (fun z => cD z.symm), upd_same], R5c, H'c⟩
  · have e : n = ds.length := by omega
    subst e
    refine .inl ⟨y2, ?_⟩
    have GA := gr.trans g2
    have b := (a.grow GA).set_raw (i := i) (v := .ref Dd)
    obtain ⟨F, hF⟩ : ∃ F : Hp, F = fun x => if x = Dd then some (.lst (qs.map V.ref)) else if x ∈ qs then some (.lst []) else none := ⟨_, rfl⟩
    have F1 : F Dd = some (.lst (qs.map V.ref)) := by rw [hF]; exact if_pos rfl
    have F2 : ∀ q ∈ qs, F q = some (.lst []) := fun q hq => by
      rw [hF]
      show (if q = Dd then _ else if q ∈ qs then _ else _) = _
      rw [if_neg (fun z => hnot (by rw [← z]; exact hq)), if_pos hq]
    have F3 : ∀ x, F x ≠ none → x = Dd ∨ x ∈ qs := fun x h => by
      rw [hF] at h
      by_cases e1 : x = Dd
      · exact .inl e1
      · by_cases e2 : x ∈ qs
        · exact .inr e2
        · exact absurd (by show (if x = Dd then _ else if x ∈ qs then _ else _) = _; rw [if_neg e1, if_neg e2]) h
    have FH : ∀ x o, F x = some o → H2 x = some o := fun x o h => by
      rcases F3 x (by rw [h]; exact fun z => nomatch z) with e1 | e1
      · rw [e1, F1] at h
        cases h
        rw [e1]
        exact h2
      · rw [F2 x e1] at h
        cases h
        exact (hall x e1).1
    have FR : ∀ x, F x ≠ none → R2 x = none := fun x h => by
      rcases F3 x h with e1 | e1
      · rw [e1]; exact r2
      · exact (hall x e1).2.1
    have FH' : ∀ x, F x ≠ none → H' x = none := fun x h => by
      rcases F3 x h with e1 | e1
      · rw [e1]; exact hD
      · exact (hall x e1).2.2
    have hFnew : ∀ x, F x ≠ none → R0 x = none ∧ H0 x = none := fun x h => by
      have h0 : H x = none := gr.hp.free (FH' x h)
      exact ⟨a.gr.rd.free (a.gr.sub.free h0), a.gr.hp.free h0⟩
    have c := b.rehide FH FR (fun j ds2 p2 e1 e2 => by
      have nj : j ≠ i := fun z => by
        subst z
        rw [List.getElem?_set_self hil] at e1
        cases e1
      rw [List.getElem?_set_ne (fun z => nj z.symm)] at e1 e2
      obtain ⟨p3, vs3, h1, h3, _⟩ := a.own j ds2 e1
      rw [h1] at e2
      cases e2
      cases q : F p2 with
      | none => rfl
      | some o =>
        have := gr.hp.free (FH' p2 (by rw [q]; exact fun z => nomatch z))
        rw [h3] at this
        cases this)
    have hrep : ∀ (j : Nat) (xs : List V), (List.replicate ds.length ([] : List V))[j]? = some xs → xs = [] := fun j xs h => by
      have := List.mem_of_getElem? h
      exact (List.mem_replicate.mp this).2
    have hrepD : ∀ (j : Nat) (xs : List PyData), (List.replicate ds.length ([] : List PyData))[j]? = some xs → xs = [] := fun j xs h => by
      have := List.mem_of_getElem? h
      exact (List.mem_replicate.mp this).2
    refine ht R0 H0 ok R2 _ H2 ⟨F, Dd, qs, List.replicate ds.length [], ⟨F1, fun j q vs2 h1 h3 => ?_, by rw [hlen, List.length_replicate], hnod, hnot, F3, hFnew⟩, c, by rw [List.length_replicate, List.length_replicate], fun j vs2 ds2 h1 h3 => ?_⟩ _ fun r e R' σ' H' q a' => ?_
    · rw [hrep j vs2 h3]
      exact F2 q (List.mem_of_getElem? h1)
    · rw [hrep j vs2 h1, hrepD j ds2 h3]
      exact .nil
    · obtain ⟨R'', v, a''⟩ := a'.show_ q.1
      exact q.2 v R0 H0 ok R'' σ' H' a'' D m
end
end Pu

set_option maxRecDepth 100000
namespace Pu
open PySem PySem.Spec PyProof.Rows L2
/-! ### lines of ways: the plain law -/
/-- the line in its fewest points that ends at e and goes by f -/
structure IsW (f : Rat → Rat) (e : Pt) (W : List Pt) : Prop where
  good : GoodL W
  canon : Canon W
  last : lineEnd W = e
  ev : ∀ x, 0 ≤ x → x ≤ e.1 → lineEv W x = f x
theorem IsW.uniq {f : Rat → Rat} {e : Pt} {W V : List Pt} (h : IsW f e W) (g : IsW f e V) : W = V := line_uniq h.good g.good h.canon g.canon (by rw [h.last, g.last]) fun x h0 h1 => by
  rw [h.last] at h1
  rw [h.ev x h0 h1, g.ev x h0 h1]
theorem IsW.congr {f g : Rat → Rat} {e : Pt} {W : List Pt} (h : IsW f e W) (hf : ∀ x, 0 ≤ x → x ≤ e.1 → f x = g x) : IsW g e W := ⟨h.good, h.canon, h.last, fun x h0 h1 => (h.ev x h0 h1).trans (hf x h0 h1)⟩
def thinF : Pt → List Pt → List Pt
  | _, [] => []
  | a, b :: r => if b = a then thinF a r else b :: thinF b r
def thin : List Pt → List Pt
  | [] => []
  | a :: r => a :: thinF a r
def onF (f : Rat → Rat) : Pt → List Pt → Prop
  | _, [] => True
  | a, b :: r => (b = a ∨ (a.1 < b.1 ∧ a.2 ≤ b.2 ∧ ∀ x, a.1 ≤ x → x ≤ b.1 → f x = interp a b x)) ∧ onF f b r
theorem thinF_mem : ∀ (r : List Pt) (a p : Pt), p ∈ thinF a r → p ∈ r
  | [], a, p, h => h
  | b :: r, a, p, h => by
    unfold thinF at h
    split at h
    · exact List.mem_cons_of_mem _ (thinF_mem r a p h)
    · rcases List.mem_cons.mp h with rfl | h
      · exact List.mem_cons_self
      · exact List.mem_cons_of_mem _ (thinF_mem r b p h)
theorem thin_mem {P : List Pt} {p : Pt} (h : p ∈ thin P) : p ∈ P := by
  cases P with
  | nil => exact h
  | cons a r =>
    rcases List.mem_cons.mp h with rfl | h
    · exact List.mem_cons_self
    · exact List.mem_cons_of_mem _ (thinF_mem r a p h)
theorem thinF_len : ∀ (r : List Pt) (a : Pt), (thinF a r).length ≤ r.length
  | [], a => Nat.le_refl _
  | b :: r, a => by
    unfold thinF
    split
    · exact Nat.le_succ_of_le (thinF_len r a)
    · exact Nat.succ_le_succ (thinF_len r b)
theorem thin_len (P : List Pt) : (thin P).length ≤ P.length := by
  cases P with
  | nil => exact Nat.le_refl _
  | cons a r => exact Nat.succ_le_succ (thinF_len r a)
theorem thin_ok {f : Rat → Rat} : ∀ (r : List Pt) (a : Pt), onF f a r → goodFrom a (thinF a r) ∧ lastP a (thinF a r) = lastP a r ∧ a.1 ≤ (lastP a r).1 ∧ (f a.1 = a.2 → ∀ x, a.1 ≤ x → x ≤ (lastP a r).1 → evF a (thinF a r) x = f x)
  | [], a, _ => ⟨trivial, rfl, Rat.le_refl, fun h x h1 h2 => by
    have : x = a.1 := Rat.le_antisymm h2 h1
    rw [this, h]
    rfl⟩
  | b :: r, a, h => by
    obtain ⟨h1, h2⟩ := h
    obtain ⟨i1, i2, i3, i4⟩ := thin_ok r b h2
    by_cases e : b = a
    · subst e
      unfold thinF
      rw [if_pos rfl]
      exact ⟨i1, i2, i3, i4⟩
    · obtain ⟨s1, s2, s3⟩ := h1.resolve_left e
      unfold thinF
      rw [if_neg e]
      refine ⟨⟨s1, s2, i1⟩, i2, by show a.1 ≤ (lastP b r).1; grind, fun hf x x0 x1 => ?_⟩
      have hb : f b.1 = b.2 := by rw [s3 b.1 (Rat.le_of_lt s1) Rat.le_refl]; exact (interp_ends s1).2
      by_cases q : x ≤ b.1
      · rw [evF_at q, s3 x x0 q]
      · rw [evF_beyond q]
        exact i4 hb x (by grind) x1
def throughW (P : List Pt) : List Pt := lineOf (thin P)
theorem through_good {f : Rat → Rat} {r : List Pt} (h : onF f (0, 0) r) : GoodL (thin ((0, 0) :: r)) := ⟨rfl, (thin_ok r (0, 0) h).1⟩
theorem through_ok {f : Rat → Rat} {r : List Pt} (h : onF f (0, 0) r) (h0 : f 0 = 0) : IsW f (lastP (0, 0) r) (throughW ((0, 0) :: r)) := by
  obtain ⟨i1, i2, i3, i4⟩ := thin_ok r (0, 0) h
  have g := through_good h
  have e : lineEnd (thin ((0, 0) :: r)) = lastP (0, 0) r := i2
  refine ⟨lineOf_good g, lineOf_canon g, by unfold throughW; rw [lineOf_end, e], fun x x0 x1 => ?_⟩
  unfold throughW
  rw [lineOf_ev g]
  exact i4 h0 x x0 x1
theorem through_bl {P : List Pt} {n : Nat} (h : bl P n) : bl (throughW P) n := lineOf_bl fun p hp => h p (thin_mem hp)
theorem through_len (P : List Pt) : (throughW P).length ≤ P.length := Nat.le_trans (lineOf_len _) (thin_len P)
theorem flat_interp {a b : Pt} {x : Rat} (h : a.2 = b.2) : interp a b x = a.2 := by
  unfold interp
  rw [h]
  grind
theorem div_back {w c : Rat} (hw : 0 < w) : w * (c / w) = c := by
  rw [Rat.div_def]
  have := Rat.mul_inv_cancel w (by grind)
  grind
theorem up_interp {a b : Pt} {x : Rat} (h : a.1 < b.1) (e : b.2 - a.2 = b.1 - a.1) : interp a b x = a.2 + (x - a.1) := by
  have hd : (b.1 - a.1) / (b.1 - a.1) = 1 := by
    rw [Rat.div_def]
    exact Rat.mul_inv_cancel _ (by grind)
  unfold interp
  rw [e, hd]
  grind
/-! row -/
def rowPts (a c s : Rat) : List Pt := [(0, 0), (a, 0), (a + c, c), (s, c)]
theorem row_on {a c s : Rat} (ha : 0 ≤ a) (hc : 0 ≤ c) (hs : a + c ≤ s) : IsW (fun x => clip c (x - a)) (s, c) (throughW (rowPts a c s)) := by
  refine through_ok (f := fun x => clip c (x - a)) (r := [(a, 0), (a + c, c), (s, c)]) ⟨?_, ?_, ?_, trivial⟩ ?_
  · by_cases e : a = 0
    · left; rw [e]
    · right
      refine ⟨by show (0 : Rat) < a; grind, Rat.le_refl, fun x x0 x1 => ?_⟩
      have x1 : x ≤ a := x1
      show clip c (x - a) = interp (0, 0) (a, 0) x
      rw [flat_interp (a := (0, 0)) (b := (a, 0)) rfl]
      show clip c (x - a) = 0
      unfold clip
      by_cases q : x - a < 0
      · rw [if_pos q]
      · rw [if_neg q, if_neg (by grind)]
        grind
  · by_cases e : c = 0
    · left; rw [e]; congr 1; grind
    · right
      refine ⟨by show a < a + c; grind, hc, fun x x0 x1 => ?_⟩
      have x0 : a ≤ x := x0
      have x1 : x ≤ a + c := x1
      rw [up_interp (by show a < a + c; grind) (by show c - 0 = a + c - a; grind)]
      show clip c (x - a) = 0 + (x - a)
      unfold clip
      rw [if_neg (by grind), if_neg (by grind)]
      grind
  · by_cases e : s = a + c
    · left; rw [e]
    · right
      refine ⟨by show a + c < s; grind, Rat.le_refl, fun x x0 x1 => ?_⟩
      have x0 : a + c ≤ x := x0
      show clip c (x - a) = interp (a + c, c) (s, c) x
      rw [flat_interp (a := (a + c, c)) (b := (s, c)) rfl]
      show clip c (x - a) = c
      unfold clip
      rw [if_neg (by grind)]
      by_cases q : c < x - a
      · rw [if_pos q]
      · rw [if_neg q]; grind
  · show clip c (0 - a) = 0
    unfold clip
    by_cases q : 0 - a < 0
    · rw [if_pos q]
    · rw [if_neg q, if_neg (by grind)]
      grind
/-! even -/
theorem lvl_affine {w c l m t : Rat} (hw : 0 < w) (hl : l ≤ m) (t0 : 0 ≤ t) (t1 : t ≤ 1) (h : c ≤ w * l ∨ w * m ≤ c) : lvl w c (l + t * (m - l)) = lvl w c l + t * (lvl w c m - lvl w c l) := by
  have d0 : 0 ≤ m - l := by grind
  have t2 : 0 ≤ t * (m - l) := Rat.mul_nonneg t0 d0
  have t3 : 0 ≤ (1 - t) * (m - l) := Rat.mul_nonneg (by grind) d0
  have a1 : w * l ≤ w * (l + t * (m - l)) := Rat.mul_le_mul_of_nonneg_left (by grind) (Rat.le_of_lt hw)
  have a2 : w * (l + t * (m - l)) ≤ w * m := Rat.mul_le_mul_of_nonneg_left (by grind) (Rat.le_of_lt hw)
  unfold lvl
  rcases h with h | h
  · rw [if_neg (by grind), if_neg (by grind), if_neg (by grind)]
    grind
  · have key : ∀ x, x ≤ c → (if x < c then x else c) = x := fun x hx => by
      by_cases q : x < c
      · rw [if_pos q]
      · rw [if_neg q]; grind
    rw [key _ (by grind), key _ (by grind), key _ h]
    grind
theorem lvls_affine {l m t : Rat} (hl : l ≤ m) (t0 : 0 ≤ t) (t1 : t ≤ 1) : ∀ (ws cs : List Rat), (∀ w ∈ ws, 0 < w) → (∀ (i : Nat) (w c : Rat), ws[i]? = some w → cs[i]? = some c → c ≤ w * l ∨ w * m ≤ c) → qsum (lvls ws cs (l + t * (m - l))) = qsum (lvls ws cs l) + t * (qsum (lvls ws cs m) - qsum (lvls ws cs l))
  | [], cs, _, _ => by
    show (0 : Rat) = 0 + t * (0 - 0)
    grind
  | w :: ws, [], _, _ => by
    show (0 : Rat) = 0 + t * (0 - 0)
    grind
  | w :: ws, c :: cs, hw, h => by
    have ih := lvls_affine hl t0 t1 ws cs (fun x hx => hw x (List.mem_cons_of_mem _ hx)) fun i w c h1 h2 => h (i + 1) w c h1 h2
    have h0 := lvl_affine (t := t) (hw w List.mem_cons_self) hl t0 t1 (h 0 w c rfl rfl)
    show lvl w c _ + qsum (lvls ws cs _) = lvl w c l + qsum (lvls ws cs l) + t * (lvl w c m + qsum (lvls ws cs m) - (lvl w c l + qsum (lvls ws cs l)))
    rw [ih, h0]
    grind
def evenPt (ws cs : List Rat) (k : Nat) (l : Rat) : Pt := (qsum (lvls ws cs l), lvl (gD ws k) (gD cs k) l)
theorem even_on {ws cs : List Rat} {k : Nat} (hk : k < cs.length) (hne : cs ≠ []) (hW : WOk ws cs) : ∀ (r : List Rat) (l : Rat), 0 ≤ l → (l :: r).Pairwise (· < ·) → (∀ (i : Nat) (w c : Rat), ws[i]? = some w → cs[i]? = some c → c ≤ w * l ∨ c / w ∈ r) → onF (fun x => gD (evenD ws cs x) k) (evenPt ws cs k l) (r.map (evenPt ws cs k))
  | [], _, _, _, _ => trivial
  | m :: r, l, l0, hp, h => by
    obtain ⟨hp1, hp2⟩ := List.pairwise_cons.mp hp
    have hlm : l < m := hp1 m List.mem_cons_self
    have hwk := at_gD (xs := ws) (i := k) (by rw [hW.len]; exact hk)
    have hck := at_gD (xs := cs) (i := k) hk
    have hw0 := hW.pos _ (List.mem_of_getElem? hwk)
    have hseg : ∀ (i : Nat) (w c : Rat), ws[i]? = some w → cs[i]? = some c → c ≤ w * l ∨ w * m ≤ c := fun i w c h1 h2 => by
      have hw := hW.pos w (List.mem_of_getElem? h1)
      rcases h i w c h1 h2 with q | q
      · exact .inl q
      · right
        have hm : m ≤ c / w := by
          rcases List.mem_cons.mp q with q | q
          · rw [q]; exact Rat.le_refl
          · exact Rat.le_of_lt ((List.pairwise_cons.mp hp2).1 _ q)
        have := Rat.mul_le_mul_of_nonneg_left hm (Rat.le_of_lt hw)
        rw [div_back hw] at this
        exact this
    refine ⟨?_, even_on hk hne hW r m (by grind) hp2 fun i w c h1 h2 => ?_⟩
    · by_cases e : qsum (lvls ws cs m) = qsum (lvls ws cs l)
      · left
        have := lvls_uniq hW.pos hW.len e
        unfold evenPt
        rw [e]
        congr 1
        have a1 := lvls_of (l := m) hwk hck
        have a2 := lvls_of (l := l) hwk hck
        rw [this, a2] at a1
        exact (Option.some.inj a1).symm
      · right
        have hle := leAll_sum (lvls_mono (cs := cs) hW.pos hW.len (Rat.le_of_lt hlm))
        refine ⟨by show qsum (lvls ws cs l) < qsum (lvls ws cs m); grind, lvl_mono hw0 (Rat.le_of_lt hlm), fun x x0 x1 => ?_⟩
        have x0 : qsum (lvls ws cs l) ≤ x := x0
        have x1 : x ≤ qsum (lvls ws cs m) := x1
        have hd : 0 < qsum (lvls ws cs m) - qsum (lvls ws cs l) := by grind
        obtain ⟨t, ht⟩ : ∃ t, t = (x - qsum (lvls ws cs l)) / (qsum (lvls ws cs m) - qsum (lvls ws cs l)) := ⟨_, rfl⟩
        have htm : t * (qsum (lvls ws cs m) - qsum (lvls ws cs l)) = x - qsum (lvls ws cs l) := by
          rw [ht, Rat.div_def]
          have := Rat.mul_inv_cancel _ (show qsum (lvls ws cs m) - qsum (lvls ws cs l) ≠ 0 by grind)
          grind
        have hinv := Rat.inv_pos.mpr hd
        have t0 : 0 ≤ t := by rw [ht, Rat.div_def]; exact Rat.mul_nonneg (by grind) (Rat.le_of_lt hinv)
        have t1 : t ≤ 1 := by
          rcases (Rat.le_total : t ≤ 1 ∨ 1 ≤ t) with q | q
          · exact q
          · have := Rat.mul_le_mul_of_nonneg_right q (Rat.le_of_lt hd)
            have : t * (qsum (lvls ws cs m) - qsum (lvls ws cs l)) = 1 * (qsum (lvls ws cs m) - qsum (lvls ws cs l)) := by grind
            have : (t - 1) * (qsum (lvls ws cs m) - qsum (lvls ws cs l)) = 0 := by grind
            rcases Rat.mul_eq_zero.mp this with z | z <;> grind
        have hx : qsum (lvls ws cs (l + t * (m - l))) = x := by
          rw [lvls_affine (Rat.le_of_lt hlm) t0 t1 ws cs hW.pos hseg, htm]
          grind
        have hl' : 0 ≤ l + t * (m - l) := by
          have := Rat.mul_nonneg t0 (show 0 ≤ m - l by grind)
          grind
        have hev := evenD_of (l := l + t * (m - l)) hW hl' hne
        rw [hx] at hev
        show gD (evenD ws cs x) k = interp (evenPt ws cs k l) (evenPt ws cs k m) x
        rw [hev, gD_at (lvls_of hwk hck), lvl_affine hw0 (Rat.le_of_lt hlm) t0 t1 (hseg k _ _ hwk hck)]
        unfold interp evenPt
        show _ = lvl (gD ws k) (gD cs k) l + (x - qsum (lvls ws cs l)) * ((lvl (gD ws k) (gD cs k) m - lvl (gD ws k) (gD cs k) l) / (qsum (lvls ws cs m) - qsum (lvls ws cs l)))
        rw [ht, Rat.div_def, Rat.div_def]
        grind
    · rcases h i w c h1 h2 with q | q
      · left
        have hw := hW.pos w (List.mem_of_getElem? h1)
        have := Rat.mul_le_mul_of_nonneg_left (Rat.le_of_lt hlm) (Rat.le_of_lt hw)
        grind
      · rcases List.mem_cons.mp q with q | q
        · left
          have hw := hW.pos w (List.mem_of_getElem? h1)
          have e := div_back (c := c) hw
          rw [q] at e
          rw [e]
          exact Rat.le_refl
        · exact .inr q
theorem lvls_zero : ∀ (ws cs : List Rat), (∀ c ∈ cs, 0 ≤ c) → qsum (lvls ws cs 0) = 0 ∧ ∀ w c, 0 ≤ c → lvl w c 0 = 0
  | ws, cs, h => by
    have key : ∀ w c : Rat, 0 ≤ c → lvl w c 0 = 0 := fun w c hc => by
      unfold lvl
      by_cases q : w * 0 < c
      · rw [if_pos q]; grind
      · rw [if_neg q]; grind
    refine ⟨?_, key⟩
    induction ws generalizing cs with
    | nil => rfl
    | cons w ws ih =>
      cases cs with
      | nil => rfl
      | cons c cs =>
        show lvl w c 0 + qsum (lvls ws cs 0) = 0
        rw [key w c (h c List.mem_cons_self), ih cs fun x hx => h x (List.mem_cons_of_mem _ hx)]
        grind
theorem lvls_full {ws cs : List Rat} {l : Rat} (hl : ws.length = cs.length) (h : ∀ (i : Nat) (w c : Rat), ws[i]? = some w → cs[i]? = some c → c ≤ w * l) : lvls ws cs l = cs := by
  refine List.ext_getElem? fun i => ?_
  by_cases hi : i < cs.length
  · have hw := at_gD (xs := ws) (i := i) (by omega)
    have hc := at_gD (xs := cs) hi
    rw [lvls_of hw hc, hc]
    congr 1
    unfold lvl
    rw [if_neg (by have := h i _ _ hw hc; grind)]
  · rw [List.getElem?_eq_none_iff.mpr (by rw [lvls_len hl]; omega), List.getElem?_eq_none_iff.mpr (by omega)]
def lastQ : Rat → List Rat → Rat
  | a, [] => a
  | _, b :: r => lastQ b r
theorem lastP_map (g : Rat → Pt) : ∀ (r : List Rat) (l : Rat), lastP (g l) (r.map g) = g (lastQ l r)
  | [], l => rfl
  | b :: r, l => lastP_map g r b
theorem lastQ_ge : ∀ (r : List Rat) (l : Rat), (l :: r).Pairwise (· < ·) → l ≤ lastQ l r ∧ ∀ x ∈ r, x ≤ lastQ l r
  | [], l, _ => ⟨Rat.le_refl, fun x h => by cases h⟩
  | b :: r, l, h => by
    obtain ⟨h1, h2⟩ := List.pairwise_cons.mp h
    obtain ⟨i1, i2⟩ := lastQ_ge r b h2
    have := h1 b List.mem_cons_self
    refine ⟨by show l ≤ lastQ b r; grind, fun x hx => ?_⟩
    rcases List.mem_cons.mp hx with rfl | hx
    · exact i1
    · exact i2 x hx
/-- the levels at which claims are full, rising from nought -/
structure Lvs (ws cs : List Rat) (r : List Rat) : Prop where
  up : (0 :: r).Pairwise (· < ·)
  all : ∀ (i : Nat) (w c : Rat), ws[i]? = some w → cs[i]? = some c → c / w = 0 ∨ c / w ∈ r
def evenW (ws cs r : List Rat) (k : Nat) : List Pt := throughW (((0 : Rat) :: r).map (evenPt ws cs k))
theorem evenPt_zero {ws cs : List Rat} {k : Nat} (hW : WOk ws cs) (hk : k < cs.length) : evenPt ws cs k 0 = (0, 0) := by
  have h := lvls_zero ws cs hW.nn
  unfold evenPt
  rw [h.1, h.2 _ _ (hW.nn _ (List.mem_of_getElem? (at_gD hk)))]
theorem evenW_ok {ws cs r : List Rat} {k : Nat} (hk : k < cs.length) (hne : cs ≠ []) (hW : WOk ws cs) (hL : Lvs ws cs r) : IsW (fun x => gD (evenD ws cs x) k) (qsum cs, gD cs k) (evenW ws cs r k) := by
  have e0 := evenPt_zero hW hk
  have hwk := at_gD (xs := ws) (i := k) (by rw [hW.len]; exact hk)
  have hck := at_gD (xs := cs) (i := k) hk
  have hdz : ∀ w c : Rat, 0 < w → c / w = 0 → c = 0 := fun w c hw hz => by
    rw [Rat.div_def] at hz
    have := Rat.mul_inv_cancel w (by grind)
    have hc : c = c * w⁻¹ * w := by grind
    rw [hc, hz]
    grind
  have on := even_on hk hne hW r 0 Rat.le_refl hL.up fun i w c h1 h2 => by
    have hw := hW.pos w (List.mem_of_getElem? h1)
    rcases hL.all i w c h1 h2 with q | q
    · left
      rw [hdz w c hw q]
      grind
    · exact .inr q
  rw [e0] at on
  have h := through_ok on (by
    have := evenD_of (l := 0) hW Rat.le_refl hne
    have hz := lvls_zero ws cs hW.nn
    rw [hz.1] at this
    show gD (evenD ws cs 0) k = 0
    rw [this, gD_at (lvls_of hwk hck), hz.2 _ _ (hW.nn _ (List.mem_of_getElem? hck))])
  have hl : lastP (0, 0) (r.map (evenPt ws cs k)) = (qsum cs, gD cs k) := by
    have := lastP_map (evenPt ws cs k) r 0
    rw [e0] at this
    rw [this]
    obtain ⟨g1, g2⟩ := lastQ_ge r 0 hL.up
    have hf : ∀ (i : Nat) (w c : Rat), ws[i]? = some w → cs[i]? = some c → c ≤ w * lastQ 0 r := fun i w c h1 h2 => by
      have hw := hW.pos w (List.mem_of_getElem? h1)
      rcases hL.all i w c h1 h2 with q | q
      · rw [hdz w c hw q]
        exact Rat.mul_nonneg (Rat.le_of_lt hw) g1
      · have := Rat.mul_le_mul_of_nonneg_left (g2 _ q) (Rat.le_of_lt hw)
        rw [div_back hw] at this
        exact this
    unfold evenPt
    rw [lvls_full hW.len hf]
    congr 1
    unfold lvl
    rw [if_neg (by have := hf k _ _ hwk hck; grind)]
  rw [hl] at h
  unfold evenW
  rw [List.map_cons, e0]
  exact h
end Pu

set_option maxRecDepth 100000
namespace Pu
open PySem PySem.Spec PyProof.Rows L2
/-! part -/
theorem partD_at {cs : List Rat} {k : Nat} {x : Rat} (hk : k < cs.length) (hn : ∀ c ∈ cs, 0 ≤ c) : gD (partD cs x) k = gD cs k * (x / qsum cs) := by
  rw [partD_map hn]
  exact gD_at (by rw [List.getElem?_map, at_gD hk]; rfl)
def partW (s c : Rat) : List Pt := throughW [(0, 0), (s, c)]
theorem part_ok {cs : List Rat} {k : Nat} (hk : k < cs.length) (hn : ∀ c ∈ cs, 0 ≤ c) : IsW (fun x => gD (partD cs x) k) (qsum cs, gD cs k) (partW (qsum cs) (gD cs k)) := by
  have hc := at_gD (xs := cs) hk
  have hc0 := hn _ (List.mem_of_getElem? hc)
  have hs := qsum_nonneg hn
  refine through_ok (f := fun x => gD (partD cs x) k) (r := [(qsum cs, gD cs k)]) ⟨?_, trivial⟩ ?_
  · by_cases e : qsum cs = 0
    · left
      rw [e, qsum_zero hn e _ (List.mem_of_getElem? hc)]
    · right
      refine ⟨by show 0 < qsum cs; grind, hc0, fun x x0 x1 => ?_⟩
      show gD (partD cs x) k = 0 + (x - 0) * ((gD cs k - 0) / (qsum cs - 0))
      rw [partD_at hk hn, Rat.div_def, Rat.div_def, show qsum cs - 0 = qsum cs by grind]
      grind
  · show gD (partD cs 0) k = 0
    rw [partD_at hk hn, Rat.div_def]
    grind
/-! lack -/
theorem lackD_gD {cs gs : List Rat} {k : Nat} (hk : k < cs.length) (hl : gs.length = cs.length) : gD (lackD cs gs) k = gD cs k - gD gs k := gD_at (lackD_of (at_gD hk) (at_gD (by omega)))
theorem turn_ok {f : Rat → Rat} {e : Pt} {W : List Pt} (h : IsW f e W) : IsW (fun x => e.2 - f (e.1 - x)) e (turnOf W) := by
  obtain ⟨g, c, l, ev⟩ := turnOf_ok h.good
  refine ⟨g, c, l.trans h.last, fun x x0 x1 => ?_⟩
  rw [ev x x0 (by rw [h.last]; exact x1), h.last, h.ev _ (by grind) (by grind)]
/-! half -/
theorem onF_iff {f : Rat → Rat} : ∀ (r : List Pt) (a : Pt), onF f a r ↔ ∀ (i : Nat) (p q : Pt), (a :: r)[i]? = some p → (a :: r)[i + 1]? = some q → q = p ∨ (p.1 < q.1 ∧ p.2 ≤ q.2 ∧ ∀ x, p.1 ≤ x → x ≤ q.1 → f x = interp p q x)
  | [], a => ⟨fun _ i p q _ h => (by cases i <;> cases h), fun _ => trivial⟩
  | b :: r, a => by
    have ih := onF_iff (f := f) r b
    constructor
    · rintro ⟨h1, h2⟩ i p q hp hq
      cases i with
      | zero =>
        obtain rfl := Option.some.inj hp
        obtain rfl := Option.some.inj hq
        exact h1
      | succ i => exact ih.mp h2 i p q hp hq
    · intro h
      exact ⟨h 0 a b rfl rfl, ih.mpr fun i p q hp hq => h (i + 1) p q hp hq⟩
def hfPt (p : Pt) : Pt := (1 / 2 * p.1, 1 / 2 * p.2)
def opPt (s c : Rat) (p : Pt) : Pt := (s - p.1, c - p.2)
def halfPts (L : List Pt) (s c : Rat) : List Pt := L.map hfPt ++ (L.map hfPt).reverse.map (opPt s c)
def halfW (L : List Pt) (s c : Rat) : List Pt := throughW (halfPts L s c)
theorem seg_ev {f : Rat → Rat} {e : Pt} {L : List Pt} (h : IsW f e L) {j : Nat} {p q : Pt} {x : Rat} (hp : L[j]? = some p) (hq : L[j + 1]? = some q) (h1 : p.1 ≤ x) (h2 : x ≤ q.1) : f x = interp p q x := by
  have m1 := good_nonneg h.good (List.mem_of_getElem? hp)
  have m2 := good_nonneg h.good (List.mem_of_getElem? hq)
  rw [h.last] at m2
  have hs := good_step h.good hp hq
  rw [← h.ev x (by grind) (by grind)]
  by_cases z : p.1 = x
  · rw [← z, lineEv_pt h.good hp]
    exact (interp_ends hs.1).1.symm
  · exact lineEv_seg h.good hp hq (by grind) h2
theorem half_ratio {a b : Rat} : (1 / 2 * a) / (1 / 2 * b) = a / b := by
  rw [Rat.div_def (1 / 2 * a) (1 / 2 * b), Rat.div_def a b, Rat.inv_mul_rev]
  have : (1 / 2 : Rat)⁻¹ = 2 := by decide +kernel
  rw [this]
  grind
theorem half_ok {g : Rat → Rat} {s c : Rat} {L : List Pt} (h : IsW g (s, c) L) : IsW (fun x => if s < x + x then c - 1 / 2 * g (s + s - (x + x)) else 1 / 2 * g (x + x)) (s, c) (halfW L s c) := by
  have hne := goodL_ne h.good
  have hM := List.length_pos_iff.mpr hne
  have h0 := good_zero h.good
  have hl := lineEnd_last hne
  rw [h.last] at hl
  obtain ⟨r, hr⟩ : ∃ r, halfPts L s c = (0, 0) :: r := by
    cases L with
    | nil => exact absurd rfl hne
    | cons a r =>
      obtain rfl := Option.some.inj h0
      exact ⟨_, by
        show hfPt (0, 0) :: _ = _
        unfold hfPt
        rw [show (1 / 2 * (0 : Rat)) = 0 by grind]⟩
  have atLow : ∀ i, i < L.length → (halfPts L s c)[i]? = (L[i]?).map hfPt := fun i hi => by
    unfold halfPts
    rw [List.getElem?_append_left (by rw [List.length_map]; exact hi), List.getElem?_map]
  have atHigh : ∀ i, L.length ≤ i → i < L.length + L.length → (halfPts L s c)[i]? = (L[L.length + L.length - 1 - i]?).map fun p => opPt s c (hfPt p) := fun i hi hi2 => by
    unfold halfPts
    rw [List.getElem?_append_right (by rw [List.length_map]; exact hi), List.getElem?_map, List.getElem?_reverse (by simp only [List.length_map]; omega), List.length_map, List.getElem?_map, show L.length - 1 - (i - L.length) = L.length + L.length - 1 - i by omega]
    cases L[L.length + L.length - 1 - i]? <;> rfl
  have hlen : (halfPts L s c).length = L.length + L.length := by unfold halfPts; rw [List.length_append, List.length_map, List.length_map, List.length_reverse, List.length_map]
  have hs0 : 0 ≤ s := by
    have := good_nonneg h.good (List.mem_of_getElem? hl)
    exact this.1
  have on : onF (fun x => if s < x + x then c - 1 / 2 * g (s + s - (x + x)) else 1 / 2 * g (x + x)) (0, 0) r := (onF_iff r (0, 0)).mpr fun i p q hp hq => by
    rw [← hr] at hp hq
    have hi := getElem?_lt hq
    rw [hlen] at hi
    by_cases c1 : i + 1 < L.length
    · rw [atLow i (by omega)] at hp
      rw [atLow (i + 1) c1] at hq
      obtain ⟨a, ha⟩ : ∃ a, L[i]? = some a := ⟨_, List.getElem?_eq_getElem (by omega)⟩
      obtain ⟨b, hb⟩ : ∃ b, L[i + 1]? = some b := ⟨_, List.getElem?_eq_getElem c1⟩
      rw [ha] at hp
      rw [hb] at hq
      obtain rfl := Option.some.inj hp
      obtain rfl := Option.some.inj hq
      obtain ⟨s1, s2⟩ := good_step h.good ha hb
      have hbs := (good_nonneg h.good (List.mem_of_getElem? hb)).2
      rw [h.last] at hbs
      have hbs : b.1 ≤ s := hbs
      right
      refine ⟨by show 1 / 2 * a.1 < 1 / 2 * b.1; grind, by show 1 / 2 * a.2 ≤ 1 / 2 * b.2; grind, fun x x0 x1 => ?_⟩
      have x0 : 1 / 2 * a.1 ≤ x := x0
      have x1 : x ≤ 1 / 2 * b.1 := x1
      show (if s < x + x then _ else _) = _
      rw [if_neg (by grind), seg_ev h ha hb (by grind) (by grind)]
      unfold interp hfPt
      show 1 / 2 * (a.2 + (x + x - a.1) * ((b.2 - a.2) / (b.1 - a.1))) = 1 / 2 * a.2 + (x - 1 / 2 * a.1) * ((1 / 2 * b.2 - 1 / 2 * a.2) / (1 / 2 * b.1 - 1 / 2 * a.1))
      rw [show 1 / 2 * b.2 - 1 / 2 * a.2 = 1 / 2 * (b.2 - a.2) by grind, show 1 / 2 * b.1 - 1 / 2 * a.1 = 1 / 2 * (b.1 - a.1) by grind, half_ratio]
      grind
    · by_cases c2 : i + 1 = L.length
      · left
        rw [atLow i (by omega), show i = L.length - 1 by omega, hl] at hp
        rw [atHigh (i + 1) (by omega) (by omega), show L.length + L.length - 1 - (i + 1) = L.length - 1 by omega, hl] at hq
        obtain rfl := Option.some.inj hp
        obtain rfl := Option.some.inj hq
        show (s - 1 / 2 * s, c - 1 / 2 * c) = (1 / 2 * s, 1 / 2 * c)
        congr 1 <;> grind
      · rw [atHigh i (by omega) (by omega)] at hp
        rw [atHigh (i + 1) (by omega) (by omega)] at hq
        obtain ⟨j, hj⟩ : ∃ j, j = L.length + L.length - 1 - (i + 1) := ⟨_, rfl⟩
        rw [← hj] at hq
        rw [show L.length + L.length - 1 - i = j + 1 by omega] at hp
        obtain ⟨a, ha⟩ : ∃ a, L[j]? = some a := ⟨_, List.getElem?_eq_getElem (by omega)⟩
        obtain ⟨b, hb⟩ : ∃ b, L[j + 1]? = some b := ⟨_, List.getElem?_eq_getElem (by omega)⟩
        rw [hb] at hp
        rw [ha] at hq
        obtain rfl := Option.some.inj hp
        obtain rfl := Option.some.inj hq
        obtain ⟨s1, s2⟩ := good_step h.good ha hb
        have hbs := (good_nonneg h.good (List.mem_of_getElem? hb)).2
        rw [h.last] at hbs
        have hbs : b.1 ≤ s := hbs
        right
        refine ⟨by show s - 1 / 2 * b.1 < s - 1 / 2 * a.1; grind, by show c - 1 / 2 * b.2 ≤ c - 1 / 2 * a.2; grind, fun x x0 x1 => ?_⟩
        have x0 : s - 1 / 2 * b.1 ≤ x := x0
        have x1 : x ≤ s - 1 / 2 * a.1 := x1
        have hbase : (if s < x + x then c - 1 / 2 * g (s + s - (x + x)) else 1 / 2 * g (x + x)) = c - 1 / 2 * g (s + s - (x + x)) := by
          by_cases z : s < x + x
          · rw [if_pos z]
          · have e : x + x = s := by grind
            rw [if_neg z, e, show s + s - s = s by grind]
            have hg : g s = c := by
              rw [← h.ev s hs0 Rat.le_refl]
              exact lineEv_pt h.good hl
            rw [hg]
            grind
        show (if s < x + x then _ else _) = _
        rw [hbase, seg_ev h ha hb (by grind) (by grind)]
        unfold interp hfPt opPt
        show c - 1 / 2 * (a.2 + (s + s - (x + x) - a.1) * ((b.2 - a.2) / (b.1 - a.1))) = c - 1 / 2 * b.2 + (x - (s - 1 / 2 * b.1)) * ((c - 1 / 2 * a.2 - (c - 1 / 2 * b.2)) / (s - 1 / 2 * a.1 - (s - 1 / 2 * b.1)))
        rw [show c - 1 / 2 * a.2 - (c - 1 / 2 * b.2) = 1 / 2 * (b.2 - a.2) by grind, show s - 1 / 2 * a.1 - (s - 1 / 2 * b.1) = 1 / 2 * (b.1 - a.1) by grind, half_ratio]
        have hd : (b.1 - a.1) * ((b.2 - a.2) / (b.1 - a.1)) = b.2 - a.2 := div_back (by grind)
        generalize (b.2 - a.2) / (b.1 - a.1) = m at hd
        grind
  have hh := through_ok on (by
    show (if s < 0 + 0 then c - 1 / 2 * g (s + s - (0 + 0)) else 1 / 2 * g (0 + 0)) = 0
    rw [if_neg (by grind), show (0 : Rat) + 0 = 0 by grind, ← h.ev 0 Rat.le_refl hs0, lineEv_zero h.good]
    grind)
  have hlast : lastP (0, 0) r = (s, c) := by
    have hz := lineEnd_last (ps := halfPts L s c) (by rw [hr]; exact List.cons_ne_nil _ _)
    rw [hlen, atHigh _ (by omega) (by omega), show L.length + L.length - 1 - (L.length + L.length - 1) = 0 by omega, h0] at hz
    have hz := Option.some.inj hz
    have : lineEnd (halfPts L s c) = lastP (0, 0) r := by rw [hr]; rfl
    rw [← this, ← hz]
    show (s - 1 / 2 * 0, c - 1 / 2 * 0) = (s, c)
    congr 1 <;> grind
  rw [hlast] at hh
  unfold halfW
  rw [hr]
  exact hh
theorem half_good {g : Rat → Rat} {s c : Rat} {L : List Pt} (h : IsW g (s, c) L) : GoodL (thin (halfPts L s c)) := by
  have hne := goodL_ne h.good
  have hM := List.length_pos_iff.mpr hne
  have h0 := good_zero h.good
  have hl := lineEnd_last hne
  rw [h.last] at hl
  obtain ⟨r, hr⟩ : ∃ r, halfPts L s c = (0, 0) :: r := by
    cases L with
    | nil => exact absurd rfl hne
    | cons a r =>
      obtain rfl := Option.some.inj h0
      exact ⟨_, by
        show hfPt (0, 0) :: _ = _
        unfold hfPt
        rw [show (1 / 2 * (0 : Rat)) = 0 by grind]⟩
  have atLow : ∀ i, i < L.length → (halfPts L s c)[i]? = (L[i]?).map hfPt := fun i hi => by
    unfold halfPts
    rw [List.getElem?_append_left (by rw [List.length_map]; exact hi), List.getElem?_map]
  have atHigh : ∀ i, L.length ≤ i → i < L.length + L.length → (halfPts L s c)[i]? = (L[L.length + L.length - 1 - i]?).map fun p => opPt s c (hfPt p) := fun i hi hi2 => by
    unfold halfPts
    rw [List.getElem?_append_right (by rw [List.length_map]; exact hi), List.getElem?_map, List.getElem?_reverse (by simp only [List.length_map]; omega), List.length_map, List.getElem?_map, show L.length - 1 - (i - L.length) = L.length + L.length - 1 - i by omega]
    cases L[L.length + L.length - 1 - i]? <;> rfl
  have hlen : (halfPts L s c).length = L.length + L.length := by unfold halfPts; rw [List.length_append, List.length_map, List.length_map, List.length_reverse, List.length_map]
  have hs0 : 0 ≤ s := by
    have := good_nonneg h.good (List.mem_of_getElem? hl)
    exact this.1
  have on : onF (fun x => if s < x + x then c - 1 / 2 * g (s + s - (x + x)) else 1 / 2 * g (x + x)) (0, 0) r := (onF_iff r (0, 0)).mpr fun i p q hp hq => by
    rw [← hr] at hp hq
    have hi := getElem?_lt hq
    rw [hlen] at hi
    by_cases c1 : i + 1 < L.length
    · rw [atLow i (by omega)] at hp
      rw [atLow (i + 1) c1] at hq
      obtain ⟨a, ha⟩ : ∃ a, L[i]? = some a := ⟨_, List.getElem?_eq_getElem (by omega)⟩
      obtain ⟨b, hb⟩ : ∃ b, L[i + 1]? = some b := ⟨_, List.getElem?_eq_getElem c1⟩
      rw [ha] at hp
      rw [hb] at hq
      obtain rfl := Option.some.inj hp
      obtain rfl := Option.some.inj hq
      obtain ⟨s1, s2⟩ := good_step h.good ha hb
      have hbs := (good_nonneg h.good (List.mem_of_getElem? hb)).2
      rw [h.last] at hbs
      have hbs : b.1 ≤ s := hbs
      right
      refine ⟨by show 1 / 2 * a.1 < 1 / 2 * b.1; grind, by show 1 / 2 * a.2 ≤ 1 / 2 * b.2; grind, fun x x0 x1 => ?_⟩
      have x0 : 1 / 2 * a.1 ≤ x := x0
      have x1 : x ≤ 1 / 2 * b.1 := x1
      show (if s < x + x then _ else _) = _
      rw [if_neg (by grind), seg_ev h ha hb (by grind) (by grind)]
      unfold interp hfPt
      show 1 / 2 * (a.2 + (x + x - a.1) * ((b.2 - a.2) / (b.1 - a.1))) = 1 / 2 * a.2 + (x - 1 / 2 * a.1) * ((1 / 2 * b.2 - 1 / 2 * a.2) / (1 / 2 * b.1 - 1 / 2 * a.1))
      rw [show 1 / 2 * b.2 - 1 / 2 * a.2 = 1 / 2 * (b.2 - a.2) by grind, show 1 / 2 * b.1 - 1 / 2 * a.1 = 1 / 2 * (b.1 - a.1) by grind, half_ratio]
      grind
    · by_cases c2 : i + 1 = L.length
      · left
        rw [atLow i (by omega), show i = L.length - 1 by omega, hl] at hp
        rw [atHigh (i + 1) (by omega) (by omega), show L.length + L.length - 1 - (i + 1) = L.length - 1 by omega, hl] at hq
        obtain rfl := Option.some.inj hp
        obtain rfl := Option.some.inj hq
        show (s - 1 / 2 * s, c - 1 / 2 * c) = (1 / 2 * s, 1 / 2 * c)
        congr 1 <;> grind
      · rw [atHigh i (by omega) (by omega)] at hp
        rw [atHigh (i + 1) (by omega) (by omega)] at hq
        obtain ⟨j, hj⟩ : ∃ j, j = L.length + L.length - 1 - (i + 1) := ⟨_, rfl⟩
        rw [← hj] at hq
        rw [show L.length + L.length - 1 - i = j + 1 by omega] at hp
        obtain ⟨a, ha⟩ : ∃ a, L[j]? = some a := ⟨_, List.getElem?_eq_getElem (by omega)⟩
        obtain ⟨b, hb⟩ : ∃ b, L[j + 1]? = some b := ⟨_, List.getElem?_eq_getElem (by omega)⟩
        rw [hb] at hp
        rw [ha] at hq
        obtain rfl := Option.some.inj hp
        obtain rfl := Option.some.inj hq
        obtain ⟨s1, s2⟩ := good_step h.good ha hb
        have hbs := (good_nonneg h.good (List.mem_of_getElem? hb)).2
        rw [h.last] at hbs
        have hbs : b.1 ≤ s := hbs
        right
        refine ⟨by show s - 1 / 2 * b.1 < s - 1 / 2 * a.1; grind, by show c - 1 / 2 * b.2 ≤ c - 1 / 2 * a.2; grind, fun x x0 x1 => ?_⟩
        have x0 : s - 1 / 2 * b.1 ≤ x := x0
        have x1 : x ≤ s - 1 / 2 * a.1 := x1
        have hbase : (if s < x + x then c - 1 / 2 * g (s + s - (x + x)) else 1 / 2 * g (x + x)) = c - 1 / 2 * g (s + s - (x + x)) := by
          by_cases z : s < x + x
          · rw [if_pos z]
          · have e : x + x = s := by grind
            rw [if_neg z, e, show s + s - s = s by grind]
            have hg : g s = c := by
              rw [← h.ev s hs0 Rat.le_refl]
              exact lineEv_pt h.good hl
            rw [hg]
            grind
        show (if s < x + x then _ else _) = _
        rw [hbase, seg_ev h ha hb (by grind) (by grind)]
        unfold interp hfPt opPt
        show c - 1 / 2 * (a.2 + (s + s - (x + x) - a.1) * ((b.2 - a.2) / (b.1 - a.1))) = c - 1 / 2 * b.2 + (x - (s - 1 / 2 * b.1)) * ((c - 1 / 2 * a.2 - (c - 1 / 2 * b.2)) / (s - 1 / 2 * a.1 - (s - 1 / 2 * b.1)))
        rw [show c - 1 / 2 * a.2 - (c - 1 / 2 * b.2) = 1 / 2 * (b.2 - a.2) by grind, show s - 1 / 2 * a.1 - (s - 1 / 2 * b.1) = 1 / 2 * (b.1 - a.1) by grind, half_ratio]
        have hd : (b.1 - a.1) * ((b.2 - a.2) / (b.1 - a.1)) = b.2 - a.2 := div_back (by grind)
        generalize (b.2 - a.2) / (b.1 - a.1) = m at hd
        grind
  rw [hr]
  exact through_good on
theorem hv_gD {xs : List Rat} {k : Nat} (hk : k < xs.length) : gD (hv xs) k = 1 / 2 * gD xs k := gD_at (by unfold hv; rw [List.getElem?_map, at_gD hk]; rfl)
theorem half_is {cs : List Rat} {k : Nat} {L : List Pt} (hk : k < cs.length) (hn : ∀ c ∈ cs, 0 ≤ c) (hL : IsW (fun x => gD (evenD (ones cs) cs x) k) (qsum cs, gD cs k) L) : IsW (fun x => gD (halfD cs x) k) (qsum cs, gD cs k) (halfW L (qsum cs) (gD cs k)) := by
  have hne : cs ≠ [] := fun z => by rw [z] at hk; exact absurd hk (Nat.not_lt_zero _)
  refine (half_ok hL).congr fun x x0 x1 => ?_
  have x1 : x ≤ qsum cs := x1
  have hlen : ∀ y, 0 ≤ y → y ≤ qsum cs → (evenD (ones cs) cs y).length = cs.length := fun y y0 y1 => (evenD_ok (ones_ok hn) y0 y1 hne).len
  unfold halfD
  by_cases z : qsum cs < x + x
  · rw [if_pos z, if_pos z, lackD_gD hk (by rw [hv_len]; exact hlen _ (by grind) (by grind)), hv_gD (by rw [hlen _ (by grind) (by grind)]; exact hk)]
  · rw [if_neg z, if_neg z, hv_gD (by rw [hlen _ (by grind) (by grind)]; exact hk)]
/-! row, back -/
def prefQ (cs : List Rat) (k : Nat) : Rat := qsum (cs.take k)
def rowW (cs : List Rat) (k : Nat) : List Pt := throughW (rowPts (prefQ cs k) (gD cs k) (qsum cs))
theorem qsum_split (cs : List Rat) (k : Nat) : qsum cs = qsum (cs.take k) + qsum (cs.drop k) := by
  rw [← qsum_append, List.take_append_drop]
theorem rowW_ok {cs : List Rat} {k : Nat} (hk : k < cs.length) (hn : ∀ c ∈ cs, 0 ≤ c) : IsW (fun x => gD (rowD cs x) k) (qsum cs, gD cs k) (rowW cs k) := by
  have hc := at_gD (xs := cs) hk
  have hc0 := hn _ (List.mem_of_getElem? hc)
  have ha : 0 ≤ prefQ cs k := qsum_nonneg fun c h => hn c (List.mem_of_mem_take h)
  have hb : prefQ cs k + gD cs k ≤ qsum cs := by
    have h1 := qsum_split cs (k + 1)
    have h2 := qsum_take hc
    have h3 : 0 ≤ qsum (cs.drop (k + 1)) := qsum_nonneg fun c h => hn c (List.mem_of_mem_drop h)
    unfold prefQ
    grind
  refine (row_on ha hc0 hb).congr fun x x0 x1 => ?_
  rw [rowD_is hn x0]
  have hx : (fillD 0 cs x)[k]? = some (gD (fillD 0 cs x) k) := at_gD (by rw [fillD_len]; exact hk)
  obtain ⟨c, h1, h2⟩ := fillD_at cs 0 x k _ hx
  rw [hc] at h1
  obtain rfl := Option.some.inj h1
  rw [h2]
  unfold prefQ
  congr 1
  grind
theorem gD_reverse {xs : List Rat} {k : Nat} (hk : k < xs.length) : gD xs.reverse k = gD xs (xs.length - 1 - k) := gD_at (by rw [List.getElem?_reverse hk]; exact at_gD (by omega))
theorem backW_ok {cs : List Rat} {k : Nat} (hk : k < cs.length) (hn : ∀ c ∈ cs, 0 ≤ c) : IsW (fun x => gD ((rowD cs.reverse x).reverse) k) (qsum cs, gD cs k) (rowW cs.reverse (cs.length - 1 - k)) := by
  have h := rowW_ok (cs := cs.reverse) (k := cs.length - 1 - k) (by rw [List.length_reverse]; omega) (fun c hc => hn c (List.mem_reverse.mp hc))
  rw [qsum_reverse, gD_reverse (by omega), show cs.length - 1 - (cs.length - 1 - k) = k by omega] at h
  refine h.congr fun x x0 x1 => ?_
  have hl : (rowD cs.reverse x).length = cs.length := by
    rw [rowD_is (fun c hc => hn c (List.mem_reverse.mp hc)) x0, fillD_len, List.length_reverse]
  rw [gD_reverse (by rw [hl]; exact hk), hl]
/-! the levels -/
def minQ : Rat → List Rat → Rat
  | a, [] => a
  | a, b :: r => minQ (if b < a then b else a) r
theorem minQ_ok : ∀ (r : List Rat) (a : Rat), (minQ a r = a ∨ minQ a r ∈ r) ∧ minQ a r ≤ a ∧ ∀ x ∈ r, minQ a r ≤ x
  | [], a => ⟨.inl rfl, Rat.le_refl, fun x h => by cases h⟩
  | b :: r, a => by
    obtain ⟨h1, h2, h3⟩ := minQ_ok r (if b < a then b else a)
    have e : minQ a (b :: r) = minQ (if b < a then b else a) r := rfl
    rw [e]
    by_cases q : b < a
    · rw [if_pos q] at h1 h2 h3 ⊢
      refine ⟨.inr ?_, by grind, fun x hx => ?_⟩
      · rcases h1 with h1 | h1
        · rw [h1]; exact List.mem_cons_self
        · exact List.mem_cons_of_mem _ h1
      · rcases List.mem_cons.mp hx with rfl | hx
        · exact h2
        · exact h3 x hx
    · rw [if_neg q] at h1 h2 h3 ⊢
      refine ⟨?_, h2, fun x hx => ?_⟩
      · rcases h1 with h1 | h1
        · exact .inl h1
        · exact .inr (List.mem_cons_of_mem _ h1)
      · rcases List.mem_cons.mp hx with rfl | hx
        · grind
        · exact h3 x hx
def levF : Nat → List Rat → Rat → List Rat → List Rat
  | 0, T, _, _ => T
  | _ + 1, T, _, [] => T
  | n + 1, T, t, a :: r => levF n (if minQ a r = t then T else T ++ [minQ a r]) (minQ a r) ((a :: r).filter fun x => !decide (x = minQ a r))
theorem levF_ok : ∀ (n : Nat) (S : List Rat) (t : Rat) (L : List Rat), L.length ≤ n → (S ++ [t]).Pairwise (· < ·) → (∀ x ∈ L, t ≤ x) → ∃ R, levF n (S ++ [t]) t L = S ++ [t] ++ R ∧ (S ++ [t] ++ R).Pairwise (· < ·) ∧ (∀ x ∈ L, x = t ∨ x ∈ R) ∧ (∀ x ∈ R, x ∈ L)
  | 0, S, t, [], _, hp, _ => ⟨[], by rw [List.append_nil]; rfl, by rw [List.append_nil]; exact hp, fun x h => (by cases h), fun x h => h⟩
  | 0, S, t, a :: r, hl, _, _ => absurd hl (Nat.not_succ_le_zero _)
  | n + 1, S, t, [], _, hp, _ => ⟨[], by rw [List.append_nil]; rfl, by rw [List.append_nil]; exact hp, fun x h => (by cases h), fun x h => h⟩
  | n + 1, S, t, a :: r, hl, hp, hx => by
    obtain ⟨m1, m2, m3⟩ := minQ_ok r a
    obtain ⟨m, hm⟩ : ∃ m, m = minQ a r := ⟨_, rfl⟩
    rw [← hm] at m1 m2 m3
    have hmem : m ∈ a :: r := by
      rcases m1 with q | q
      · rw [q]; exact List.mem_cons_self
      · exact List.mem_cons_of_mem _ q
    have hmle : ∀ x ∈ a :: r, m ≤ x := fun x h => by
      rcases List.mem_cons.mp h with rfl | h
      · exact m2
      · exact m3 x h
    have htm := hx m hmem
    obtain ⟨L', hL'⟩ : ∃ L', L' = (a :: r).filter fun x => !decide (x = m) := ⟨_, rfl⟩
    have hL'm : ∀ x, x ∈ L' ↔ x ∈ a :: r ∧ x ≠ m := fun x => by
      rw [hL', List.mem_filter]
      simp
    have hlen : L'.length ≤ n := by
      have h1 : L'.length < (a :: r).length := by
        rw [hL']
        exact List.length_filter_lt_length_iff_exists.mpr ⟨m, hmem, by simp⟩
      omega
    have e : levF (n + 1) (S ++ [t]) t (a :: r) = levF n (if m = t then S ++ [t] else S ++ [t] ++ [m]) m L' := by
      rw [hL', hm]
      rfl
    rw [e]
    by_cases q : m = t
    · rw [if_pos q, q]
      have ih := levF_ok n S t L' hlen hp fun x h => hx x ((hL'm x).mp h).1
      obtain ⟨R, r1, r2, r3, r4⟩ := ih
      refine ⟨R, r1, r2, fun x h => ?_, fun x h => ((hL'm x).mp (r4 x h)).1⟩
      by_cases z : x = m
      · left; rw [z, q]
      · exact r3 x ((hL'm x).mpr ⟨h, z⟩)
    · rw [if_neg q]
      have htm' : t < m := by grind
      have hp' : (S ++ [t] ++ [m]).Pairwise (· < ·) := by
        refine List.pairwise_append.mpr ⟨hp, List.pairwise_singleton _ _, fun x h y hy => ?_⟩
        obtain rfl := List.mem_singleton.mp hy
        rcases List.mem_append.mp h with h | h
        · have := (List.pairwise_append.mp hp).2.2 x h t List.mem_cons_self
          grind
        · obtain rfl := List.mem_singleton.mp h
          exact htm'
      obtain ⟨R, r1, r2, r3, r4⟩ := levF_ok n (S ++ [t]) m L' hlen hp' fun x h => hmle x ((hL'm x).mp h).1
      refine ⟨m :: R, ?_, ?_, fun x h => ?_, fun x h => ?_⟩
      · rw [r1, List.append_assoc (S ++ [t])]
        rfl
      · rw [show S ++ [t] ++ m :: R = S ++ [t] ++ [m] ++ R by rw [List.append_assoc (S ++ [t])]; rfl]
        exact r2
      · right
        by_cases z : x = m
        · rw [z]; exact List.mem_cons_self
        · rcases r3 x ((hL'm x).mpr ⟨h, z⟩) with w | w
          · exact absurd w z
          · exact List.mem_cons_of_mem _ w
      · rcases List.mem_cons.mp h with rfl | h
        · exact hmem
        · exact ((hL'm x).mp (r4 x h)).1
def fullL (ws cs : List Rat) : List Rat := List.zipWith (fun w c => c / w) ws cs
def lvsT (ws cs : List Rat) : List Rat := levF (fullL ws cs).length [0] 0 (fullL ws cs)
theorem div_nn {w c : Rat} (hw : 0 < w) (hc : 0 ≤ c) : 0 ≤ c / w := by
  rw [Rat.div_def]
  exact Rat.mul_nonneg hc (Rat.le_of_lt (Rat.inv_pos.mpr hw))
theorem lvsT_ok {ws cs : List Rat} (hW : WOk ws cs) : ∃ r, lvsT ws cs = 0 :: r ∧ Lvs ws cs r ∧ ∀ x ∈ r, x ∈ fullL ws cs := by
  obtain ⟨R, h1, h2, h3, h4⟩ := levF_ok (fullL ws cs).length [] 0 (fullL ws cs) (Nat.le_refl _) (List.pairwise_singleton _ _) fun x h => by
    unfold fullL at h
    obtain ⟨i, hi⟩ := List.mem_iff_getElem?.mp h
    rw [List.getElem?_zipWith] at hi
    cases e1 : ws[i]? with
    | none => rw [e1] at hi; cases hi
    | some w =>
      cases e2 : cs[i]? with
      | none => rw [e1, e2] at hi; cases hi
      | some c =>
        rw [e1, e2] at hi
        obtain rfl := Option.some.inj hi
        exact div_nn (hW.pos w (List.mem_of_getElem? e1)) (hW.nn c (List.mem_of_getElem? e2))
  refine ⟨R, h1, ⟨h2, fun i w c e1 e2 => h3 (c / w) ?_⟩, h4⟩
  unfold fullL
  exact List.mem_of_getElem? (i := i) (by rw [List.getElem?_zipWith, e1, e2])
/-- the lines of a way -/
def wayLn (y : Wy) (ws cs : List Rat) (k : Nat) : List Pt := match y with
  | .row => rowW cs k
  | .back => rowW cs.reverse (cs.length - 1 - k)
  | .even => evenW ws cs (lvsT ws cs).tail k
  | .lack => turnOf (evenW ws cs (lvsT ws cs).tail k)
  | .part => partW (qsum cs) (gD cs k)
  | .half => halfW (evenW (ones cs) cs (lvsT (ones cs) cs).tail k) (qsum cs) (gD cs k)
theorem evenT_ok {ws cs : List Rat} {k : Nat} (hk : k < cs.length) (hW : WOk ws cs) : IsW (fun x => gD (evenD ws cs x) k) (qsum cs, gD cs k) (evenW ws cs (lvsT ws cs).tail k) := by
  obtain ⟨r, h1, h2, _⟩ := lvsT_ok hW
  have hne : cs ≠ [] := fun z => by rw [z] at hk; exact absurd hk (Nat.not_lt_zero _)
  rw [h1]
  exact evenW_ok hk hne hW h2
theorem wayLn_ok {y : Wy} {ws cs : List Rat} {k : Nat} (h : Fit y ws cs) (hk : k < cs.length) : IsW (fun x => gD (dealOf y ws cs x) k) (qsum cs, gD cs k) (wayLn y ws cs k) := by
  cases y with
  | row => exact rowW_ok hk h.nn
  | back => exact backW_ok hk h.nn
  | even => exact evenT_ok hk (h.ok rfl)
  | lack =>
    refine (turn_ok (evenT_ok hk (h.ok rfl))).congr fun x x0 x1 => ?_
    have x1 : x ≤ qsum cs := x1
    have hd := evenD_ok (q := qsum cs - x) (h.ok rfl) (by grind) (by grind) h.ne
    show gD cs k - gD (evenD ws cs (qsum cs - x)) k = gD (lackD cs (evenD ws cs (qsum cs - x))) k
    rw [lackD_gD hk hd.len]
  | part => exact part_ok hk h.nn
  | half => exact half_is hk h.nn (evenT_ok hk (ones_ok h.nn))
end Pu

set_option maxRecDepth 100000
namespace Pu
open PySem PySem.Spec PyProof.Rows L2
/-! ### lines of ways: sizes, contracts -/
theorem throughW_snoc_aux : ∀ (r : List Pt) (a b : Pt), thinF a (r ++ [b]) = thinF a r ++ (if b = lastP a (thinF a r) then [] else [b])
  | [], a, b => by
    show (if b = a then thinF a [] else b :: thinF b []) = [] ++ (if b = a then [] else [b])
    split <;> rfl
  | c :: r, a, b => by
    show (if c = a then thinF a (r ++ [b]) else c :: thinF c (r ++ [b])) = _
    have e : thinF a (c :: r) = if c = a then thinF a r else c :: thinF c r := rfl
    rw [e]
    by_cases q : c = a
    · rw [if_pos q, if_pos q]
      exact throughW_snoc_aux r a b
    · rw [if_neg q, if_neg q, throughW_snoc_aux r c b]
      rfl
theorem thin_snoc {P : List Pt} {b : Pt} (h : P ≠ []) : thin (P ++ [b]) = if b = lineEnd (thin P) then thin P else thin P ++ [b] := by
  cases P with
  | nil => exact absurd rfl h
  | cons a r =>
    show a :: thinF a (r ++ [b]) = if b = lastP a (thinF a r) then a :: thinF a r else a :: thinF a r ++ [b]
    rw [throughW_snoc_aux]
    split
    · rw [List.append_nil]
    · rfl
theorem thin_ne {P : List Pt} (h : P ≠ []) : thin P ≠ [] := by
  cases P with
  | nil => exact absurd rfl h
  | cons a r => exact List.cons_ne_nil _ _
theorem thin_bl {P : List Pt} {n : Nat} (h : bl P n) : bl (thin P) n := fun p hp => h p (thin_mem hp)
def lnD (W : List Pt) : D := .tuple (pts W)
def lnsD (Ws : List (List Pt)) : List D := Ws.map lnD
def cThrough : Ct := fun ds k => ∃ (P : List Pt) (n : Nat), ds = [.list (pts P)] ∧ GoodL (thin P) ∧ bl P n ∧ n ≤ 1000000 ∧ P ≠ [] ∧ P.length ≤ 1000 ∧ k.rt (lnD (throughW P))
theorem through_v {P : List Pt} {n : Nat} (g : GoodL (thin P)) (h : bl P n) (hn : n ≤ 1000000) (hne : P ≠ []) (hl : P.length ≤ 1000) : cThrough [.list (pts P)] (kv (lnD (throughW P))) := ⟨P, n, rfl, g, h, hn, hne, hl, rfl⟩
/-- claims and weights of a way, of a size -/
structure Wy.In (y : Wy) (ws cs : List Int) (B : Nat) : Prop where
  ne : cs ≠ []
  nn : ∀ c ∈ cs, 0 ≤ c
  len : cs.length ≤ 12
  sc : small cs B
  b0 : 0 < B
  b1 : B ≤ 1000
  wt : y.wd = true → ws.length = cs.length ∧ ∀ w ∈ ws, 1 ≤ w ∧ w ≤ 1000000
theorem Wy.In.fit {y : Wy} {ws cs : List Int} {B : Nat} (h : y.In ws cs B) : Fit y (qlist ws) (qlist cs) := ⟨fun z => h.ne (List.map_eq_nil_iff.mp z), fun c hc => by
  obtain ⟨n, hn, rfl⟩ := List.mem_map.mp hc
  exact_mod_cast h.nn n hn, fun e => ⟨by rw [qlist_len, qlist_len]; exact (h.wt e).1, fun w hw => by
  obtain ⟨n, hn, rfl⟩ := List.mem_map.mp hw
  have := ((h.wt e).2 n hn).1
  exact_mod_cast (show (0 : Int) < n by omega)⟩⟩
def wayLs (y : Wy) (ws cs : List Int) : List (List Pt) := (List.range cs.length).map fun k => wayLn y (qlist ws) (qlist cs) k
theorem wayLs_len (y : Wy) (ws cs : List Int) : (wayLs y ws cs).length = cs.length := by unfold wayLs; rw [List.length_map, List.length_range]
theorem wayLs_at {y : Wy} {ws cs : List Int} {k : Nat} (h : k < cs.length) : (wayLs y ws cs)[k]? = some (wayLn y (qlist ws) (qlist cs) k) := by
  unfold wayLs
  rw [List.getElem?_map, List.getElem?_range h]
  rfl
/-! sizes -/
theorem bt_pref {cs : List Int} {B : Nat} (h : small cs B) (hl : cs.length ≤ 12) (k : Nat) : bt (prefQ (qlist cs) k) (B + 8) := by
  have e : prefQ (qlist cs) k = ((cs.take k).sum : Int) := by
    unfold prefQ
    rw [← qlist_sum]
    unfold qlist
    rw [List.map_take]
  rw [e]
  exact bt_int (sum_lt (fun n hn => h n (List.mem_of_mem_take hn)) (by rw [List.length_take]; omega)) (by omega)
theorem bt_qs {cs : List Int} {B : Nat} (h : small cs B) (hl : cs.length ≤ 12) : bt (qsum (qlist cs)) (B + 8) := by
  rw [qlist_sum]
  exact bt_int (sum_lt h (by omega)) (by omega)
theorem bl_row {cs : List Int} {B : Nat} (h : small cs B) (hB : 0 < B) (hl : cs.length ≤ 12) (k : Nat) : bl (rowPts (prefQ (qlist cs) k) (gD (qlist cs) k) (qsum (qlist cs))) (B + 10) := by
  have h1 := bt_pref h hl k
  have h2 := bt_gD h hB k
  have h3 := bt_qs h hl
  have h4 : bt (prefQ (qlist cs) k + gD (qlist cs) k) (B + 10) := by
    have e : prefQ (qlist cs) k + gD (qlist cs) k = (((cs.take k).sum + iD cs k : Int) : Rat) := by
      rw [gD_qlist, Rat.intCast_add]
      congr 1
      unfold prefQ
      rw [← qlist_sum]
      unfold qlist
      rw [List.map_take]
    rw [e]
    have a1 := sum_lt (ns := cs.take k) (B := B) (fun n hn => h n (List.mem_of_mem_take hn)) (by rw [List.length_take]; omega)
    have a2 := small_iD h k
    exact bt_int (abs_add_lt a1 a2 (by omega) (by omega)) (by omega)
  have hz : bt (0 : Rat) (B + 10) := bt_zero.mono (by omega)
  intro p hp
  rcases List.mem_cons.mp hp with rfl | hp
  · exact ⟨hz, hz⟩
  rcases List.mem_cons.mp hp with rfl | hp
  · exact ⟨h1.mono (by omega), hz⟩
  rcases List.mem_cons.mp hp with rfl | hp
  · exact ⟨h4, h2.mono (by omega)⟩
  obtain rfl := List.mem_singleton.mp hp
  exact ⟨h3.mono (by omega), h2.mono (by omega)⟩
def eB (B : Nat) : Nat := 12 * (B + 41) + 1
theorem bt_lvl {w c l : Rat} {B : Nat} (hw : bt w 20) (hc : bt c B) (hl : bt l (B + 20)) : bt (lvl w c l) (B + 40) := by
  unfold lvl
  split
  · exact (bt_times hw hl).mono (by omega)
  · exact hc.mono (by omega)
theorem bt_lvls {ws cs : List Rat} {l : Rat} {B : Nat} (hw : ∀ w ∈ ws, bt w 20) (hc : ∀ c ∈ cs, bt c B) (hl : bt l (B + 20)) : ∀ x ∈ lvls ws cs l, bt x (B + 40) := fun x hx => by
  obtain ⟨i, hi⟩ := List.mem_iff_getElem?.mp hx
  obtain ⟨w, c, h1, h2, rfl⟩ := lvls_at hi
  exact bt_lvl (hw w (List.mem_of_getElem? h1)) (hc c (List.mem_of_getElem? h2)) hl
theorem bt_evenPt {ws cs : List Rat} {l : Rat} {B k : Nat} (hw : ∀ w ∈ ws, bt w 20) (hc : ∀ c ∈ cs, bt c B) (hlen : cs.length ≤ 12) (hk : k < cs.length) (hwl : ws.length = cs.length) (hl : bt l (B + 20)) : bp (evenPt ws cs k l) (eB B) := by
  have h1 := bt_lvls hw hc hl
  refine ⟨?_, (bt_lvl (hw _ (List.mem_of_getElem? (at_gD (by omega)))) (hc _ (List.mem_of_getElem? (at_gD hk))) hl).mono (by unfold eB; omega)⟩
  have h2 := bt_qsum h1 (lvls ws cs l).length
  rw [List.take_length, lvls_len hwl] at h2
  refine h2.mono ?_
  unfold eB
  have : cs.length * (B + 40 + 1) ≤ 12 * (B + 40 + 1) := Nat.mul_le_mul_right _ hlen
  omega
theorem bt_fullL {ws cs : List Rat} {B : Nat} (hw : ∀ w ∈ ws, bt w 20) (hc : ∀ c ∈ cs, bt c B) : ∀ x ∈ fullL ws cs, bt x (B + 20) := fun x hx => by
  unfold fullL at hx
  obtain ⟨i, hi⟩ := List.mem_iff_getElem?.mp hx
  rw [List.getElem?_zipWith] at hi
  cases e1 : ws[i]? with
  | none => rw [e1] at hi; cases hi
  | some w =>
    cases e2 : cs[i]? with
    | none => rw [e1, e2] at hi; cases hi
    | some c =>
      rw [e1, e2] at hi
      obtain rfl := Option.some.inj hi
      exact bt_div0 (hc c (List.mem_of_getElem? e2)) (hw w (List.mem_of_getElem? e1))
theorem levF_mem : ∀ (n : Nat) (T : List Rat) (t : Rat) (L : List Rat) (x : Rat), x ∈ levF n T t L → x ∈ T ∨ x ∈ L
  | 0, T, t, L, x, h => .inl h
  | n + 1, T, t, [], x, h => .inl h
  | n + 1, T, t, a :: r, x, h => by
    obtain ⟨m1, _, _⟩ := minQ_ok r a
    have hmem : minQ a r ∈ a :: r := by
      rcases m1 with q | q
      · rw [q]; exact List.mem_cons_self
      · exact List.mem_cons_of_mem _ q
    rcases levF_mem n _ _ _ x h with h | h
    · split at h
      · exact .inl h
      · rcases List.mem_append.mp h with h | h
        · exact .inl h
        · obtain rfl := List.mem_singleton.mp h
          exact .inr hmem
    · exact .inr (List.mem_filter.mp h).1
theorem levF_len : ∀ (n : Nat) (T : List Rat) (t : Rat) (L : List Rat), (levF n T t L).length ≤ T.length + n
  | 0, T, t, L => Nat.le_refl _
  | n + 1, T, t, [] => Nat.le_add_right _ _
  | n + 1, T, t, a :: r => by
    have := levF_len n (if minQ a r = t then T else T ++ [minQ a r]) (minQ a r) ((a :: r).filter fun x => !decide (x = minQ a r))
    show (levF n _ _ _).length ≤ _
    have h2 : (if minQ a r = t then T else T ++ [minQ a r]).length ≤ T.length + 1 := by
      split
      · omega
      · rw [List.length_append]; exact Nat.le_refl _
    omega
theorem fullL_len {ws cs : List Rat} (h : ws.length = cs.length) : (fullL ws cs).length = cs.length := by
  unfold fullL
  rw [List.length_zipWith, h, Nat.min_self]
theorem lvsT_b {ws cs : List Rat} {B : Nat} (hl : ws.length = cs.length) (hlen : cs.length ≤ 12) (hw : ∀ w ∈ ws, bt w 20) (hc : ∀ c ∈ cs, bt c B) : (∀ x ∈ lvsT ws cs, bt x (B + 20)) ∧ (lvsT ws cs).length ≤ 13 := by
  refine ⟨fun x hx => ?_, ?_⟩
  · rcases levF_mem _ _ _ _ x hx with h | h
    · obtain rfl := List.mem_singleton.mp h
      exact bt_zero.mono (by omega)
    · exact bt_fullL hw hc x h
  · have := levF_len (fullL ws cs).length [0] 0 (fullL ws cs)
    rw [fullL_len hl] at this
    unfold lvsT
    have e : ([0] : List Rat).length = 1 := rfl
    rw [fullL_len hl]
    omega
theorem even_size {ws cs : List Rat} {B k : Nat} (hW : WOk ws cs) (hlen : cs.length ≤ 12) (hk : k < cs.length) (hw : ∀ w ∈ ws, bt w 20) (hc : ∀ c ∈ cs, bt c B) : bl ((lvsT ws cs).map (evenPt ws cs k)) (eB B) ∧ bl (evenW ws cs (lvsT ws cs).tail k) (eB B) ∧ (evenW ws cs (lvsT ws cs).tail k).length ≤ 13 := by
  obtain ⟨b1, b2⟩ := lvsT_b hW.len hlen hw hc
  obtain ⟨r, h1, h2, h3⟩ := lvsT_ok hW
  have hp : bl ((lvsT ws cs).map (evenPt ws cs k)) (eB B) := fun p hp => by
    obtain ⟨l, hl, rfl⟩ := List.mem_map.mp hp
    exact bt_evenPt hw hc hlen hk hW.len (b1 l hl)
  have he : evenW ws cs (lvsT ws cs).tail k = throughW ((lvsT ws cs).map (evenPt ws cs k)) := by
    rw [h1]
    rfl
  rw [he]
  refine ⟨hp, through_bl hp, Nat.le_trans (through_len _) ?_⟩
  rw [List.length_map]
  exact b2
def wB (B : Nat) : Nat := 2 * eB B + 1
theorem halfPts_bl {L : List Pt} {s c : Rat} {n m : Nat} (h : bl L n) (hs : bt s m) (hc : bt c m) : bl (halfPts L s c) (m + n + 3) := fun p hp => by
  have hh : bt (1 / 2 : Rat) 2 := ⟨by decide +kernel, by decide +kernel⟩
  have low : ∀ q ∈ L, bp (hfPt q) (n + 2) := fun q hq => ⟨(bt_times hh (h q hq).1).mono (by omega), (bt_times hh (h q hq).2).mono (by omega)⟩
  rcases List.mem_append.mp hp with hp | hp
  · obtain ⟨q, hq, rfl⟩ := List.mem_map.mp hp
    exact ⟨(low q hq).1.mono (by omega), (low q hq).2.mono (by omega)⟩
  · obtain ⟨r, hr, rfl⟩ := List.mem_map.mp hp
    obtain ⟨q, hq, rfl⟩ := List.mem_map.mp (List.mem_reverse.mp hr)
    exact ⟨(bt_minus hs (low q hq).1).mono (by omega), (bt_minus hc (low q hq).2).mono (by omega)⟩
theorem way_size {y : Wy} {ws cs : List Int} {B k : Nat} (h : y.In ws cs B) (hk : k < cs.length) : bl (wayLn y (qlist ws) (qlist cs) k) (wB B) ∧ (wayLn y (qlist ws) (qlist cs) k).length ≤ 26 := by
  have hF := h.fit
  have hkq : k < (qlist cs).length := by rw [qlist_len]; exact hk
  have hlq : (qlist cs).length ≤ 12 := by rw [qlist_len]; exact h.len
  have hcb : ∀ c ∈ qlist cs, bt c B := fun c hc => by
    obtain ⟨n, hn, rfl⟩ := List.mem_map.mp hc
    exact bt_int (h.sc n hn) h.b0
  have p20 : (2 : Nat) ^ 20 = 1048576 := by decide
  have hwb : y.wd = true → ∀ w ∈ qlist ws, bt w 20 := fun e w hw => by
    obtain ⟨n, hn, rfl⟩ := List.mem_map.mp hw
    have := (h.wt e).2 n hn
    exact bt_int (by omega) (by decide)
  have hb0 := h.b0
  have hB : B + 10 ≤ wB B := by unfold wB eB; omega
  cases y with
  | row =>
    have h1 := bl_row h.sc h.b0 h.len k
    exact ⟨through_bl (bl_mono h1 hB), Nat.le_trans (through_len _) (by show 4 ≤ 26; decide)⟩
  | back =>
    show bl (rowW (qlist cs).reverse ((qlist cs).length - 1 - k)) _ ∧ (rowW (qlist cs).reverse ((qlist cs).length - 1 - k)).length ≤ 26
    rw [qlist_rev]
    have h1 := bl_row (small_rev h.sc) h.b0 (by rw [List.length_reverse]; exact h.len) ((qlist cs).length - 1 - k)
    exact ⟨through_bl (bl_mono h1 hB), Nat.le_trans (through_len _) (by show 4 ≤ 26; decide)⟩
  | even =>
    obtain ⟨_, h2, h3⟩ := even_size (hF.ok rfl) hlq hkq (hwb rfl) hcb
    exact ⟨bl_mono h2 (by unfold wB; omega), Nat.le_trans h3 (by decide)⟩
  | lack =>
    obtain ⟨_, h2, h3⟩ := even_size (hF.ok rfl) hlq hkq (hwb rfl) hcb
    have hI := evenT_ok hkq (hF.ok rfl)
    exact ⟨bl_turnOf hI.good h2, Nat.le_trans (turnOf_len _) (Nat.le_trans h3 (by decide))⟩
  | part =>
    have h1 : bl [((0 : Rat), (0 : Rat)), (qsum (qlist cs), gD (qlist cs) k)] (wB B) := fun p hp => by
      rcases List.mem_cons.mp hp with rfl | hp
      · exact ⟨bt_zero.mono (by unfold wB; omega), bt_zero.mono (by unfold wB; omega)⟩
      · obtain rfl := List.mem_singleton.mp hp
        exact ⟨(bt_qs h.sc h.len).mono (by omega), (bt_gD h.sc h.b0 k).mono (by omega)⟩
    exact ⟨through_bl h1, Nat.le_trans (through_len _) (by show 2 ≤ 26; decide)⟩
  | half =>
    have hone : ∀ w ∈ ones (qlist cs), bt w 20 := fun w hw => by
      obtain ⟨_, _, rfl⟩ := List.mem_map.mp hw
      exact ⟨by decide, by decide⟩
    obtain ⟨_, h2, h3⟩ := even_size (ones_ok hF.nn) hlq hkq hone hcb
    have h4 := halfPts_bl (s := qsum (qlist cs)) (c := gD (qlist cs) k) h2 (bt_qs h.sc h.len) ((bt_gD h.sc h.b0 k).mono (by omega))
    refine ⟨through_bl (bl_mono h4 (by unfold wB eB; omega)), Nat.le_trans (through_len _) ?_⟩
    unfold halfPts
    rw [List.length_append, List.length_map, List.length_map, List.length_reverse, List.length_map]
    omega
theorem row_thin {a c s : Rat} (ha : 0 ≤ a) (hc : 0 ≤ c) (hs : a + c ≤ s) : GoodL (thin (rowPts a c s)) := by
  have key : ∀ (p q : Pt), p.1 ≤ q.1 → p.2 ≤ q.2 → (p.1 = q.1 → p.2 = q.2) → q = p ∨ (p.1 < q.1 ∧ p.2 ≤ q.2) := fun p q h1 h2 h3 => by
    by_cases e : p.1 = q.1
    · left
      have := h3 e
      obtain ⟨a, b⟩ := p
      obtain ⟨c, d⟩ := q
      show (c, d) = (a, b)
      have e1 : a = c := e
      have e2 : b = d := this
      rw [e1, e2]
    · right
      exact ⟨by grind, h2⟩
  have thin_g : ∀ (r : List Pt) (a : Pt), (∀ (i : Nat) (p q : Pt), (a :: r)[i]? = some p → (a :: r)[i + 1]? = some q → q = p ∨ (p.1 < q.1 ∧ p.2 ≤ q.2)) → goodFrom a (thinF a r) := fun r => by
    induction r with
    | nil => intro a _; trivial
    | cons b r ih =>
      intro a h
      have h0 := h 0 a b rfl rfl
      have hr := ih b fun i p q e1 e2 => h (i + 1) p q e1 e2
      unfold thinF
      by_cases e : b = a
      · rw [if_pos e]
        rw [e] at hr
        exact hr
      · rw [if_neg e]
        obtain ⟨s1, s2⟩ := h0.resolve_left e
        exact ⟨s1, s2, hr⟩
  refine ⟨rfl, thin_g _ _ fun i p q e1 e2 => ?_⟩
  match i, e1, e2 with
  | 0, e1, e2 =>
    obtain rfl := Option.some.inj e1
    obtain rfl := Option.some.inj e2
    exact key _ _ ha Rat.le_refl fun _ => rfl
  | 1, e1, e2 =>
    obtain rfl := Option.some.inj e1
    obtain rfl := Option.some.inj e2
    exact key _ _ (by show a ≤ a + c; grind) hc fun z => by have z : a = a + c := z; show (0 : Rat) = c; grind
  | 2, e1, e2 =>
    obtain rfl := Option.some.inj e1
    obtain rfl := Option.some.inj e2
    exact key _ _ hs Rat.le_refl fun _ => rfl
  | 3, e1, e2 => cases e2
  | n + 4, e1, e2 => cases e1
theorem minQ_snoc : ∀ (r : List Rat) (a x : Rat), minQ a (r ++ [x]) = if x < minQ a r then x else minQ a r
  | [], a, x => rfl
  | b :: r, a, x => minQ_snoc r (if b < a then b else a) x
theorem ways_word {w : Str} (h : WAYSL.contains w = true) : ∃ y : Wy, w = y.s := by
  have h2 := List.elem_iff.mp h
  have hl : WAYSL = (["row", "back", "even", "lack", "part", "half"] : List Str) := by decide +kernel
  rw [hl] at h2
  simp only [List.mem_cons, List.not_mem_nil, or_false] at h2
  rcases h2 with rfl | rfl | rfl | rfl | rfl | rfl
  · exact ⟨.row, rfl⟩
  · exact ⟨.back, rfl⟩
  · exact ⟨.even, rfl⟩
  · exact ⟨.lack, rfl⟩
  · exact ⟨.part, rfl⟩
  · exact ⟨.half, rfl⟩
/-! contracts -/
def cRowL : Ct := fun ds k => ∃ (dc : D) (cs : List Int) (B : Nat), ds = [dc] ∧ SeqD dc (cs.map PyData.int) ∧ (∀ c ∈ cs, 0 ≤ c) ∧ cs.length ≤ 12 ∧ small cs B ∧ 0 < B ∧ B ≤ 1000 ∧ k.rl (lnsD ((List.range cs.length).map fun k => rowW (qlist cs) k))
theorem rowL_v {dc : D} {cs : List Int} {B : Nat} (hd : SeqD dc (cs.map PyData.int)) (hn : ∀ c ∈ cs, 0 ≤ c) (hl : cs.length ≤ 12) (hs : small cs B) (h0 : 0 < B) (h1 : B ≤ 1000) : cRowL [dc] (kl (lnsD ((List.range cs.length).map fun k => rowW (qlist cs) k))) := ⟨dc, cs, B, rfl, hd, hn, hl, hs, h0, h1, rfl⟩
def cLevelOf : Ct := fun ds k => ∃ w c : Int, ds = [.int w, .int c] ∧ 0 < w ∧ k.rt (fr ((c : Rat) / (w : Rat)))
theorem levelOf_v {w c : Int} (h : 0 < w) : cLevelOf [.int w, .int c] (kv (fr ((c : Rat) / (w : Rat)))) := ⟨w, c, rfl, h, rfl⟩
def cGotAt : Ct := fun ds k => ∃ (w c : Int) (l : Rat) (n : Nat), ds = [.int w, .int c, fr l] ∧ w.natAbs < 2 ^ n ∧ c.natAbs < 2 ^ n ∧ bt l n ∧ n ≤ 100000 ∧ k.rt (fr (lvl (w : Rat) (c : Rat) l))
theorem gotAt_v {w c : Int} {l : Rat} {n : Nat} (h1 : w.natAbs < 2 ^ n) (h2 : c.natAbs < 2 ^ n) (h3 : bt l n) (hn : n ≤ 100000) : cGotAt [.int w, .int c, fr l] (kv (fr (lvl (w : Rat) (c : Rat) l))) := ⟨w, c, l, n, rfl, h1, h2, h3, hn, rfl⟩
structure WsIn (ws cs : List Int) (B : Nat) : Prop where
  len : ws.length = cs.length
  few : cs.length ≤ 12
  ne : cs ≠ []
  nn : ∀ c ∈ cs, 0 ≤ c
  wb : ∀ w ∈ ws, 1 ≤ w ∧ w ≤ 1000000
  sc : small cs B
  b0 : 0 < B
  b1 : B ≤ 1000
theorem WsIn.ok {ws cs : List Int} {B : Nat} (h : WsIn ws cs B) : WOk (qlist ws) (qlist cs) := ⟨by rw [qlist_len, qlist_len]; exact h.len, fun w hw => by
  obtain ⟨n, hn, rfl⟩ := List.mem_map.mp hw
  have := (h.wb n hn).1
  exact_mod_cast (show (0 : Int) < n by omega), fun c hc => by
  obtain ⟨n, hn, rfl⟩ := List.mem_map.mp hc
  exact_mod_cast h.nn n hn⟩
theorem WsIn.bw {ws cs : List Int} {B : Nat} (h : WsIn ws cs B) : ∀ w ∈ qlist ws, bt w 20 := fun w hw => by
  have p20 : (2 : Nat) ^ 20 = 1048576 := by decide
  obtain ⟨n, hn, rfl⟩ := List.mem_map.mp hw
  have := h.wb n hn
  exact bt_int (by omega) (by decide)
theorem WsIn.bc {ws cs : List Int} {B : Nat} (h : WsIn ws cs B) : ∀ c ∈ qlist cs, bt c B := fun c hc => by
  obtain ⟨n, hn, rfl⟩ := List.mem_map.mp hc
  exact bt_int (h.sc n hn) h.b0
def cLevels : Ct := fun ds k => ∃ (dw dc : D) (ws cs : List Int) (B : Nat), ds = [dw, dc] ∧ SeqD dw (ws.map PyData.int) ∧ SeqD dc (cs.map PyData.int) ∧ WsIn ws cs B ∧ k.rl (fls (lvsT (qlist ws) (qlist cs)))
theorem levels_v {dw dc : D} {ws cs : List Int} {B : Nat} (h1 : SeqD dw (ws.map PyData.int)) (h2 : SeqD dc (cs.map PyData.int)) (h : WsIn ws cs B) : cLevels [dw, dc] (kl (fls (lvsT (qlist ws) (qlist cs)))) := ⟨dw, dc, ws, cs, B, rfl, h1, h2, h, rfl⟩
def evenLs (ws cs : List Int) : List (List Pt) := (List.range cs.length).map fun k => evenW (qlist ws) (qlist cs) (lvsT (qlist ws) (qlist cs)).tail k
def cEvenL : Ct := fun ds k => ∃ (dw dc : D) (ws cs : List Int) (B : Nat), ds = [dw, dc] ∧ SeqD dw (ws.map PyData.int) ∧ SeqD dc (cs.map PyData.int) ∧ WsIn ws cs B ∧ k.rl (lnsD (evenLs ws cs))
theorem evenL_v {dw dc : D} {ws cs : List Int} {B : Nat} (h1 : SeqD dw (ws.map PyData.int)) (h2 : SeqD dc (cs.map PyData.int)) (h : WsIn ws cs B) : cEvenL [dw, dc] (kl (lnsD (evenLs ws cs))) := ⟨dw, dc, ws, cs, B, rfl, h1, h2, h, rfl⟩
def cHalfL : Ct := fun ds k => ∃ (L : List Pt) (s c : Rat) (n : Nat), ds = [lnD L, fr s, fr c] ∧ GoodL (thin (halfPts L s c)) ∧ bl L n ∧ bt s n ∧ bt c n ∧ n ≤ 100000 ∧ L ≠ [] ∧ L.length ≤ 100 ∧ k.rt (lnD (halfW L s c))
theorem halfL_v {L : List Pt} {s c : Rat} {n : Nat} (g : GoodL (thin (halfPts L s c))) (h : bl L n) (hs : bt s n) (hc : bt c n) (hn : n ≤ 100000) (hne : L ≠ []) (hl : L.length ≤ 100) : cHalfL [lnD L, fr s, fr c] (kv (lnD (halfW L s c))) := ⟨L, s, c, n, rfl, g, h, hs, hc, hn, hne, hl, rfl⟩
def cWayL (C0 C1 C2 : Addr) : Ct := fun ds k => ∃ (w : Str) (dw dc : D) (ws cs : List Int) (B : Nat), ds = [.str w, dw, dc] ∧ SeqD dw (ws.map PyData.int) ∧ SeqD dc (cs.map PyData.int) ∧ cs.length ≤ 12 ∧ small cs B ∧ 0 < B ∧ B ≤ 1000 ∧
  (lookC w ws cs = 0 → k.ex (.ref C0)) ∧ (lookC w ws cs = 1 → k.ex (.ref C1)) ∧ (lookC w ws cs = 2 → k.ex (.ref C2)) ∧ (lookC w ws cs = 4 → ∀ y : Wy, w = y.s → y.In ws cs B → k.rl (lnsD (wayLs y ws cs)))
theorem In_look {y : Wy} {ws cs : List Int} {B : Nat} (h : y.In ws cs B) (hw : y.wd = false → ws = []) : lookC y.s ws cs = 4 := by
  unfold lookC
  rw [show WAYSL.contains y.s = true by cases y <;> decide +kernel, if_pos rfl]
  have e : badC cs = false := by
    unfold badC
    rw [decide_eq_false (fun z => h.ne (List.length_eq_zero_iff.mp z)), Bool.false_or]
    exact List.any_eq_false.mpr fun c hc => by
      have := h.nn c hc
      rw [decide_eq_false (by omega)]
      exact Bool.false_ne_true
  rw [e]
  have hf : wfit y.s ws cs.length = true := wfit_iff.mpr (by
    cases q : y.wd with
    | true => rw [if_pos rfl]; exact h.wt q
    | false => rw [if_neg Bool.false_ne_true]; exact hw q)
  rw [hf]
  rfl
theorem look_In {y : Wy} {ws cs : List Int} {B : Nat} (h : lookC y.s ws cs = 4) (hl : cs.length ≤ 12) (hs : small cs B) (h0 : 0 < B) (h1 : B ≤ 1000) : y.In ws cs B := by
  unfold lookC at h
  rw [show WAYSL.contains y.s = true by cases y <;> decide +kernel, if_pos rfl] at h
  cases e : badC cs with
  | true => rw [e] at h; cases h
  | false =>
    rw [e] at h
    cases f : wfit y.s ws cs.length with
    | false => rw [f] at h; cases h
    | true =>
      unfold badC at e
      rw [Bool.or_eq_false_iff] at e
      have hf := wfit_iff.mp f
      refine ⟨fun z => by rw [z] at e; exact absurd e.1 (by decide), fun c hc => ?_, hl, hs, h0, h1, fun q => by rw [q, if_pos rfl] at hf; exact hf⟩
      have := List.any_eq_false.mp e.2 c hc
      rw [decide_eq_true_eq] at this
      omega
theorem wayL_v {C0 C1 C2 : Addr} {y : Wy} {dw dc : D} {ws cs : List Int} {B : Nat} (h1 : SeqD dw (ws.map PyData.int)) (h2 : SeqD dc (cs.map PyData.int)) (h : y.In ws cs B) (hw : y.wd = false → ws = []) : cWayL C0 C1 C2 [.str y.s, dw, dc] (kl (lnsD (wayLs y ws cs))) := by
  have e := In_look h hw
  exact ⟨y.s, dw, dc, ws, cs, B, rfl, h1, h2, h.len, h.sc, h.b0, h.b1, (fun z => by rw [e] at z; cases z), (fun z => by rw [e] at z; cases z), (fun z => by rw [e] at z; cases z), fun _ z q _ => by
    have : y = z := by
      have := (s_inj (y := y) (z := z)).symm
      rw [decide_eq_true q] at this
      exact of_decide_eq_true this
    rw [this]
    rfl⟩
theorem mul_pos_div {w c : Int} (h : 0 < w) : Rat.divInt c w = (c : Rat) / (w : Rat) := Rat.divInt_eq_div c w
end Pu

set_option maxRecDepth 100000
namespace Pu
open PySem PySem.Spec PyProof.Rows L2
/-! ### lines of customs -/
def ownW (c : Int) : List Pt := if c = 0 then [(0, 0)] else [(0, 0), ((c : Rat), (c : Rat))]
mutual
def Cu.lines : Cu → List (List Pt)
  | .boat c => [ownW c]
  | .knot y ws ks => Cu.linesL ks (wayLs y ws (Cu.sums ks))
def Cu.linesL : List Cu → List (List Pt) → List (List Pt)
  | [], _ => []
  | _ :: _, [] => []
  | k :: r, W :: s => (k.lines.map fun l => behindOf l W) ++ Cu.linesL r s
end
structure LsOk (S : Rat) (cl : List Int) (F : Rat → List Rat) (Ls : List (List Pt)) (X N : Nat) : Prop where
  len : Ls.length = cl.length
  is : ∀ (b : Nat) (W : List Pt), Ls[b]? = some W → IsW (fun x => gD (F x) b) (S, gD (qlist cl) b) W ∧ (∀ p ∈ W, bt p.1 X) ∧ W.length ≤ N
theorem gD_left {xs ys : List Rat} {b : Nat} (h : b < xs.length) : gD (xs ++ ys) b = gD xs b := gD_at (by rw [List.getElem?_append_left h]; exact at_gD h)
theorem gD_right {xs ys : List Rat} {j : Nat} : gD (xs ++ ys) (xs.length + j) = gD ys j := by
  unfold gD
  rw [List.getD_eq_getElem?_getD, List.getD_eq_getElem?_getD, List.getElem?_append_right (by omega), show xs.length + j - xs.length = j by omega]
theorem bt_interp_add {a b : Pt} {x : Rat} {n N : Nat} (ha : bp a N) (hb : bp b N) (hx : bt x n) : bt (interp a b x) (n + 6 * N + 6) := by
  unfold interp
  have h1 := bt_minus hx ha.1
  have h2 := bt_minus hb.2 ha.2
  have h3 := bt_minus hb.1 ha.1
  have h4 := bt_times h1 (bt_div0 h2 h3)
  exact (bt_plus ha.2 h4).mono (by omega)
theorem bt_firstF_add : ∀ (r : List Pt) (a : Pt) (y : Rat) (n N : Nat), bl (a :: r) N → bt y n → bt (firstF a r y) (n + 6 * N + 6)
  | [], a, y, n, N, h, hy => (h a List.mem_cons_self).1.mono (by omega)
  | b :: r, a, y, n, N, h, hy => by
    have ha := h a List.mem_cons_self
    have hb := h b (List.mem_cons_of_mem _ List.mem_cons_self)
    unfold firstF
    split
    · exact ha.1.mono (by omega)
    · split
      · exact bt_interp_add (a := (a.2, a.1)) (b := (b.2, b.1)) ⟨ha.2, ha.1⟩ ⟨hb.2, hb.1⟩ hy
      · exact bt_firstF_add r b y n N (fun p hp => h p (List.mem_cons_of_mem _ hp)) hy
theorem bt_first_add {P : List Pt} {y : Rat} {n N : Nat} (g : GoodL P) (h : bl P N) (hy : bt y n) : bt (lineFirst P y) (n + 6 * N + 6) := by
  cases P with
  | nil => exact g.elim
  | cons a r => exact bt_firstF_add r a y n N h hy
theorem behindOf_len (p q : List Pt) : (behindOf p q).length ≤ p.length + q.length := Nat.le_trans (lineOf_len _) (behindP_len p q)
theorem linesL_ok {S : Rat} : ∀ (ks : List Cu) (Ws : List (List Pt)) (F : Rat → List Rat) (X N : Nat), Ws.length = ks.length → (∀ x, 0 ≤ x → x ≤ S → (F x).length = ks.length) →
    (∀ (j : Nat) (k : Cu) (W : List Pt), ks[j]? = some k → Ws[j]? = some W → IsW (fun x => gD (F x) j) (S, (k.sum : Rat)) W ∧ bl W 1990 ∧ W.length ≤ 26) →
    (∀ k ∈ ks, k.ok ∧ LsOk (k.sum : Rat) k.claims k.deal k.lines X N) → 1990 ≤ X → LsOk S (Cu.claimsL ks) (fun x => Cu.dealL ks (F x)) (Cu.linesL ks Ws) (X + 12000) (N + 26)
  | [], Ws, F, X, N, _, _, _, _, _ => ⟨rfl, fun b W h => by cases h⟩
  | k :: r, [], F, X, N, hl, _, _, _, _ => by cases hl
  | k :: r, W :: s, F, X, N, hl, hF, hW, hk, hX => by
    obtain ⟨hko, hkl⟩ := hk k List.mem_cons_self
    obtain ⟨w1, w2, w3⟩ := hW 0 k W rfl rfl
    have ih := linesL_ok r s (fun x => (F x).tail) X N (by simpa using hl) (fun x x0 x1 => by rw [List.length_tail, hF x x0 x1, List.length_cons]; rfl) (fun j k' W' h1 h2 => by
      obtain ⟨a1, a2, a3⟩ := hW (j + 1) k' W' h1 h2
      refine ⟨a1.congr fun x x0 x1 => ?_, a2, a3⟩
      show gD (F x) (j + 1) = gD (F x).tail j
      cases F x with
      | nil => rfl
      | cons g t => rfl) (fun k' h => hk k' (List.mem_cons_of_mem _ h)) hX
    have hS0 : 0 ≤ S := by
      have := good_nonneg w1.good (List.mem_of_getElem? (lineEnd_last (goodL_ne w1.good)))
      rw [w1.last] at this
      exact this.1
    have hcons : ∀ x, 0 ≤ x → x ≤ S → F x = gD (F x) 0 :: (F x).tail := fun x x0 x1 => by
      have := hF x x0 x1
      cases e : F x with
      | nil => rw [e] at this; cases this
      | cons g t => rfl
    have hg : ∀ x, 0 ≤ x → x ≤ S → 0 ≤ gD (F x) 0 ∧ gD (F x) 0 ≤ (k.sum : Rat) := fun x x0 x1 => by
      have h1 := lineEv_range w1.good x0 (by rw [w1.last]; exact x1)
      rw [w1.last] at h1
      rw [← w1.ev x x0 x1]
      exact h1
    have hdl : ∀ x, 0 ≤ x → x ≤ S → (k.deal (gD (F x) 0)).length = k.claims.length := fun x x0 x1 => deal_len hko (hg x x0 x1).1 (hg x x0 x1).2
    have hkll := hkl.len
    refine ⟨?_, fun b V hb => ?_⟩
    · show ((k.lines.map fun l => behindOf l W) ++ Cu.linesL r s).length = (k.claims ++ Cu.claimsL r).length
      rw [List.length_append, List.length_append, List.length_map, hkll, ih.len]
    have hb : ((k.lines.map fun l => behindOf l W) ++ Cu.linesL r s)[b]? = some V := hb
    by_cases hbl : b < k.lines.length
    · rw [List.getElem?_append_left (by rw [List.length_map]; exact hbl), List.getElem?_map] at hb
      obtain ⟨l, hlb⟩ : ∃ l, k.lines[b]? = some l := ⟨_, List.getElem?_eq_getElem hbl⟩
      rw [hlb] at hb
      obtain rfl := Option.some.inj hb
      obtain ⟨l1, l2, l3⟩ := hkl.is b l hlb
      have he : (lineEnd l).1 = (lineEnd W).2 := by rw [l1.last, w1.last]
      obtain ⟨b1, b2, b3, b4, b5, b6⟩ := behindOf_ok l1.good w1.good he
      refine ⟨⟨b1, b2, ?_, fun x x0 x1 => ?_⟩, fun p hp => ?_, ?_⟩
      · have e1 : (lineEnd (behindOf l W)).1 = S := by rw [b3, w1.last]
        have e2 : (lineEnd (behindOf l W)).2 = gD (qlist (k.claims ++ Cu.claimsL r)) b := by
          rw [b4, l1.last, qlist_append, gD_left (by rw [qlist_len, ← hkll]; exact hbl)]
        show lineEnd (behindOf l W) = (S, gD (qlist (k.claims ++ Cu.claimsL r)) b)
        rw [← e1, ← e2]
      · have x1 : x ≤ S := x1
        obtain ⟨g0, g1⟩ := hg x x0 x1
        rw [b5 x x0 (by rw [w1.last]; exact x1), w1.ev x x0 x1, l1.ev _ g0 g1]
        show gD (k.deal (gD (F x) 0)) b = gD (Cu.dealL (k :: r) (F x)) b
        rw [hcons x x0 x1]
        show _ = gD (k.deal (gD (F x) 0) ++ Cu.dealL r (F x).tail) b
        rw [gD_left (by rw [hdl x x0 x1, ← hkll]; exact hbl)]
        rfl
      · rcases b6 p hp with ⟨a, ha, e⟩ | ⟨q, hq, e⟩
        · rw [← e]
          exact (bt_first_add w1.good w2 (l2 a ha)).mono (by omega)
        · rw [← e]
          exact (w2 q hq).1.mono (by omega)
      · have := behindOf_len l W
        show (behindOf l W).length ≤ N + 26
        omega
    · rw [List.getElem?_append_right (by rw [List.length_map]; omega), List.length_map] at hb
      obtain ⟨v1, v2, v3⟩ := ih.is _ V hb
      refine ⟨?_, v2, v3⟩
      have hbe : b = k.claims.length + (b - k.lines.length) := by rw [← hkll]; omega
      have e2 : gD (qlist (Cu.claimsL (k :: r))) b = gD (qlist (Cu.claimsL r)) (b - k.lines.length) := by
        show gD (qlist (k.claims ++ Cu.claimsL r)) b = _
        rw [qlist_append, hbe]
        have := gD_right (xs := qlist k.claims) (ys := qlist (Cu.claimsL r)) (j := b - k.lines.length)
        rw [qlist_len] at this
        rw [this]
        congr 1
        omega
      rw [e2]
      refine v1.congr fun x x0 x1 => ?_
      have x1 : x ≤ S := x1
      show gD (Cu.dealL r (F x).tail) (b - k.lines.length) = gD (Cu.dealL (k :: r) (F x)) b
      rw [hcons x x0 x1]
      show gD (Cu.dealL r (F x).tail) _ = gD (k.deal (gD (F x) 0) ++ Cu.dealL r (F x).tail) b
      rw [hbe]
      have := gD_right (xs := k.deal (gD (F x) 0)) (ys := Cu.dealL r (F x).tail) (j := b - k.lines.length)
      rw [hdl x x0 x1] at this
      rw [this]
      congr 1
      omega
theorem knot_In {y : Wy} {ws : List Int} {ks : List Cu} (h : (Cu.knot y ws ks).Ok) : y.In ws (Cu.sums ks) 40 := ⟨fun z => h.ok.1.1 (List.map_eq_nil_iff.mp z), sums_nn h, by unfold Cu.sums; rw [List.length_map]; exact h.ok.1.2.1, sums_small h, by decide, by decide, fun e => by
  have hw := wfit_iff.mp h.ok.1.2.2
  rw [e, if_pos rfl] at hw
  unfold Cu.sums
  rw [List.length_map]
  exact hw⟩
theorem knot_ws {y : Wy} {ws : List Int} {ks : List Cu} (h : (Cu.knot y ws ks).Ok) : y.wd = false → ws = [] := fun e => by
  have hw := wfit_iff.mp h.ok.1.2.2
  rw [e] at hw
  exact hw
theorem lines_ok : ∀ {u : Cu}, u.Ok → LsOk (u.sum : Rat) u.claims u.deal u.lines (1990 + (u.deep - 1) * 12000) (2 + u.deep * 26) := fun {u} => Cu.ind (P := fun u => u.Ok → LsOk (u.sum : Rat) u.claims u.deal u.lines (1990 + (u.deep - 1) * 12000) (2 + u.deep * 26)) (fun c h => by
    have hs : (Cu.boat c).sum = c := by
      show [c].sum = c
      rw [List.sum_cons, List.sum_nil]
      omega
    have h0 := h.ok.1
    refine ⟨rfl, fun b W hb => ?_⟩
    cases b with
    | succ b => cases hb
    | zero =>
      obtain rfl := Option.some.inj hb
      rw [hs]
      have e2 : gD (qlist (Cu.boat c).claims) 0 = (c : Rat) := rfl
      rw [e2]
      have hb40 : bt (c : Rat) 40 := bt_int (by have := h.ok.2; omega) (by decide)
      unfold ownW
      by_cases z : c = 0
      · rw [if_pos z, z]
        refine ⟨⟨⟨rfl, trivial⟩, trivial, rfl, fun x x0 x1 => ?_⟩, fun p hp => ?_, by show 1 ≤ _; omega⟩
        · have x1 : x ≤ ((0 : Int) : Rat) := x1
          have : x = 0 := by grind
          rw [this]
          rfl
        · obtain rfl := List.mem_singleton.mp hp
          exact bt_zero.mono (by omega)
      · rw [if_neg z]
        have hc : (0 : Rat) < (c : Rat) := by exact_mod_cast (show 0 < c by omega)
        refine ⟨⟨⟨rfl, hc, Rat.le_of_lt hc, trivial⟩, trivial, rfl, fun x x0 x1 => ?_⟩, fun p hp => ?_, by show 2 ≤ _; omega⟩
        · show evF (0, 0) [((c : Rat), (c : Rat))] x = x
          have x1 : x ≤ (c : Rat) := x1
          rw [evF_at x1, up_interp (a := (0, 0)) (b := ((c : Rat), (c : Rat))) hc rfl]
          show 0 + (x - 0) = x
          grind
        · rcases List.mem_cons.mp hp with rfl | hp
          · exact bt_zero.mono (by omega)
          · obtain rfl := List.mem_singleton.mp hp
            exact hb40.mono (by omega)) (fun y ws ks ih h => by
    have hI := knot_In h
    have hF := hI.fit
    have hlen : (Cu.sums ks).length = ks.length := List.length_map _
    have hS : qsum (qlist (Cu.sums ks)) = ((Cu.knot y ws ks).sum : Rat) := by
      rw [qlist_sum, Cu.sums_sum]
      rfl
    have hd : Cu.deepL ks + 1 = (Cu.knot y ws ks).deep := Nat.add_comm _ _
    have := linesL_ok (S := ((Cu.knot y ws ks).sum : Rat)) ks (wayLs y ws (Cu.sums ks)) (fun x => dealOf y (qlist ws) (qlist (Cu.sums ks)) x) (1990 + (Cu.deepL ks - 1) * 12000) (2 + Cu.deepL ks * 26) (by rw [wayLs_len, hlen]) (fun x x0 x1 => by
      rw [(dealOf_ok hF x0 (by rw [hS]; exact x1)).len, qlist_len, hlen]) (fun j k W h1 h2 => by
      have hj : j < (Cu.sums ks).length := by rw [hlen]; exact getElem?_lt h1
      rw [wayLs_at hj] at h2
      obtain rfl := Option.some.inj h2
      have hw := wayLn_ok (k := j) hF (by rw [qlist_len]; exact hj)
      have e : gD (qlist (Cu.sums ks)) j = (k.sum : Rat) := gD_at (qlist_at (by unfold Cu.sums; rw [List.getElem?_map, h1]; rfl))
      rw [hS, e] at hw
      obtain ⟨s1, s2⟩ := way_size hI hj
      exact ⟨hw, bl_mono s1 (by decide), s2⟩) (fun k hk => by
      have hkd := Cu.deepL_le.mp (Nat.le_refl (Cu.deepL ks)) k hk
      have i := ih k hk (h.kid hk)
      refine ⟨(h.kid hk).ok, i.len, fun b W hb => ?_⟩
      obtain ⟨a1, a2, a3⟩ := i.is b W hb
      have m1 := Nat.mul_le_mul_right 12000 (show k.deep - 1 ≤ Cu.deepL ks - 1 by omega)
      have m2 := Nat.mul_le_mul_right 26 hkd
      exact ⟨a1, fun p hp => (a2 p hp).mono (by omega), by omega⟩) (by omega)
    have hdp : 1 ≤ Cu.deepL ks := by
      cases hks : ks with
      | nil => exact absurd hks h.ok.1.1
      | cons a r =>
        have := a.deep_pos
        show 1 ≤ max a.deep (Cu.deepL r)
        omega
    have e1 : 1990 + (Cu.deepL ks - 1) * 12000 + 12000 = 1990 + ((Cu.knot y ws ks).deep - 1) * 12000 := by rw [← hd]; omega
    have e2 : 2 + Cu.deepL ks * 26 + 26 = 2 + (Cu.knot y ws ks).deep * 26 := by rw [← hd]; omega
    rw [e1, e2] at this
    exact this) u
theorem lines_bl {u : Cu} (h : u.Ok) {b : Nat} {W : List Pt} (hb : u.lines[b]? = some W) : bl W 199990 ∧ W.length ≤ 210 := by
  obtain ⟨a1, a2, a3⟩ := (lines_ok h).is b W hb
  have hlow := h.low
  have hbl := getElem?_lt hb
  rw [(lines_ok h).len] at hbl
  refine ⟨fun p hp => ?_, Nat.le_trans a3 (by omega)⟩
  have bx := a2 p hp
  obtain ⟨p0, p1⟩ := good_nonneg a1.good hp
  rw [a1.last] at p1
  obtain ⟨j, hj⟩ := List.mem_iff_getElem?.mp hp
  have e : p.2 = gD (u.deal p.1) b := by
    rw [← a1.ev p.1 p0 p1]
    exact (lineEv_pt a1.good hj).symm
  have hl := deal_len h.ok p0 p1
  have hb2 := deal_bt h p0 p1 (bx.mono (show 1990 + (u.deep - 1) * 12000 ≤ 1990 + 7 * 12000 by omega)) (by omega) (gD (u.deal p.1) b) (List.mem_of_getElem? (at_gD (xs := u.deal p.1) (i := b) (by rw [hl]; exact hbl)))
  rw [← e] at hb2
  exact ⟨bx.mono (by omega), hb2.mono (by omega)⟩
theorem lines_good {u : Cu} (h : u.Ok) {b : Nat} {W : List Pt} (hb : u.lines[b]? = some W) : GoodL W ∧ Canon W ∧ lineEnd W = ((u.sum : Rat), gD (qlist u.claims) b) := by
  obtain ⟨a1, _, _⟩ := (lines_ok h).is b W hb
  exact ⟨a1.good, a1.canon, a1.last⟩
theorem lines_uniq {u v : Cu} (hu : u.Ok) (hv : v.Ok) (hc : u.claims = v.claims) (h : ∀ x : Rat, 0 ≤ x → x ≤ (u.sum : Rat) → u.deal x = v.deal x) : u.lines = v.lines := by
  have a := lines_ok hu
  have b := lines_ok hv
  have hs : u.sum = v.sum := by unfold Cu.sum; rw [hc]
  refine List.ext_getElem? fun i => ?_
  cases e1 : u.lines[i]? with
  | none =>
    have := List.getElem?_eq_none_iff.mp e1
    exact (List.getElem?_eq_none_iff.mpr (by rw [b.len, ← hc, ← a.len]; exact this)).symm
  | some W =>
    obtain ⟨V, e2⟩ : ∃ V, v.lines[i]? = some V := ⟨_, List.getElem?_eq_getElem (by rw [b.len, ← hc, ← a.len]; exact getElem?_lt e1)⟩
    rw [e2]
    congr 1
    have h2 := (b.is i V e2).1
    rw [← hs, ← hc] at h2
    exact (a.is i W e1).1.uniq (h2.congr fun x x0 x1 => by rw [h x x0 x1])
def cOwnL : Ct := fun ds k => ∃ c : Int, ds = [.int c] ∧ 0 ≤ c ∧ c ≤ 1000000000 ∧ k.rt (lnD (ownW c))
theorem ownL_v {c : Int} (h0 : 0 ≤ c) (h1 : c ≤ 1000000000) : cOwnL [.int c] (kv (lnD (ownW c))) := ⟨c, rfl, h0, h1, rfl⟩
def cKidL : Ct := fun ds k => ∃ (y : Wy) (ws : List Int) (ks : List Cu), ds = [(Cu.knot y ws ks).d] ∧ (Cu.knot y ws ks).Ok ∧ k.rl (lnsD (wayLs y ws (Cu.sums ks)))
theorem kidL_v {y : Wy} {ws : List Int} {ks : List Cu} (h : (Cu.knot y ws ks).Ok) : cKidL [(Cu.knot y ws ks).d] (kl (lnsD (wayLs y ws (Cu.sums ks)))) := ⟨y, ws, ks, rfl, h, rfl⟩
def cLinesOf (n : Nat) : Ct := fun ds k => ∃ u : Cu, ds = [u.d] ∧ u.Ok ∧ u.deep ≤ n ∧ k.rl (lnsD u.lines)
theorem linesOf_v {n : Nat} {u : Cu} (h : u.Ok) (hd : u.deep ≤ n) : cLinesOf n [u.d] (kl (lnsD u.lines)) := ⟨u, rfl, h, hd, rfl⟩
end Pu

set_option maxRecDepth 100000
namespace Pu
open PySem PySem.Spec PyProof.Rows L2
theorem con_lines {u : Cu} (h : u.Ok) : u.con.lines = u.lines.map turnOf := by
  have a := lines_ok h
  have b := lines_ok h.con
  have hs := con_sum u
  have hc := (con_same u).1
  refine List.ext_getElem? fun i => ?_
  rw [List.getElem?_map]
  cases e1 : u.lines[i]? with
  | none =>
    have := List.getElem?_eq_none_iff.mp e1
    exact List.getElem?_eq_none_iff.mpr (by rw [b.len, hc, ← a.len]; exact this)
  | some W =>
    have hi := getElem?_lt e1
    rw [a.len] at hi
    obtain ⟨V, e2⟩ : ∃ V, u.con.lines[i]? = some V := ⟨_, List.getElem?_eq_getElem (by rw [b.len, hc]; exact hi)⟩
    rw [e2]
    show some V = some (turnOf W)
    congr 1
    have h2 := (b.is i V e2).1
    rw [hs, hc] at h2
    refine h2.uniq ((turn_ok (a.is i W e1).1).congr fun x x0 x1 => ?_)
    have x1 : x ≤ (u.sum : Rat) := x1
    show gD (qlist u.claims) i - gD (u.deal ((u.sum : Rat) - x)) i = gD (u.con.deal x) i
    have hd := deal_con h.ok (q := (u.sum : Rat) - x) (by grind) (by grind)
    rw [show (u.sum : Rat) - ((u.sum : Rat) - x) = x by grind] at hd
    have hl := deal_len h.ok (q := (u.sum : Rat) - x) (by grind) (by grind)
    rw [hd, lackD_gD (by rw [qlist_len]; exact hi) (by rw [qlist_len]; exact hl)]
theorem lnsD_at {Ws : List (List Pt)} {i : Nat} {W : List Pt} (h : Ws[i]? = some W) : atI (lnsD Ws) (i : Int) = some (lnD W) := atI_nat (by unfold lnsD; rw [List.getElem?_map, h]; rfl)
theorem lnsD_len (Ws : List (List Pt)) : (lnsD Ws).length = Ws.length := List.length_map _
theorem lnsD_get {Ws : List (List Pt)} {i : Nat} {d : D} (h : (lnsD Ws)[i]? = some d) : ∃ W, Ws[i]? = some W ∧ d = lnD W := by
  unfold lnsD at h
  rw [List.getElem?_map] at h
  cases e : Ws[i]? with
  | none => rw [e] at h; cases h
  | some W => rw [e] at h; exact ⟨W, rfl, (Option.some.inj h).symm⟩
theorem sh_lns {Ws : List (List Pt)} : Sh 4 (.list (lnsD Ws)) := sh_list fun d m => by
  obtain ⟨W, _, rfl⟩ := List.mem_map.mp m
  exact sh_ptsT
theorem ln_eqv (W V : List Pt) : PyData.eqv (lnD W) (lnD V) = decide (W = V) := (tuple_eqv _ _).trans (pts_eqv W V)
/-! ### the customs of the laws of lines -/
theorem lt_of_log2 {i : Int} {n : Nat} (h : i.natAbs.log2 ≤ n) : i.natAbs < 2 ^ (n + 1) := Nat.lt_of_lt_of_le Nat.lt_log2_self (Nat.pow_le_pow_right (by decide) (by omega))
theorem intBits_lt {i : Int} {n : Nat} (h : i.natAbs < 2 ^ n) : Builtin.Int.intBits i ≤ n := by
  unfold Builtin.Int.intBits
  split
  · exact Nat.zero_le _
  · rename_i z
    have hi : i.natAbs ≠ 0 := fun e => z (by
      have : i = 0 := by omega
      rw [this]
      rfl)
    have hn : 0 < n := by
      rcases Nat.eq_zero_or_pos n with e | e
      · rw [e] at h
        have : i.natAbs < 1 := h
        omega
      · exact e
    have := log2_of h hn
    omega
theorem cell_lt {ns : List Int} (h : ∀ n ∈ ns, Builtin.Int.intBits n ≤ 1048576) (k : Int) : (cellAt ns k).natAbs < 2 ^ 1048577 := lt_of_log2 (cell_log2 h k)
theorem small_bits {ns : List Int} (h : ∀ n ∈ ns, Builtin.Int.intBits n ≤ 1048576) : small ns 1048577 := fun n hn => lt_of_log2 (log2_bits (h n hn))
def mixOf (c k : Int) : Int := (c * 48271 + 7919 * k + 23) % 2147483647
theorem mixOf_b (c k : Int) : 0 ≤ mixOf c k ∧ mixOf c k < 2147483647 := ⟨Int.emod_nonneg _ (by decide), Int.emod_lt_of_pos _ (by decide)⟩
def cMix : Ct := fun ds k => ∃ (c : Int) (j : Int) (n : Nat), ds = [.int c, .int j] ∧ c.natAbs < 2 ^ n ∧ n ≤ 2000000 ∧ j.natAbs < 2 ^ 20 ∧ k.rt (.int (mixOf c j))
theorem mix_v {c j : Int} {n : Nat} (h : c.natAbs < 2 ^ n) (hn : n ≤ 2000000) (hj : j.natAbs < 2 ^ 20) : cMix [.int c, .int j] (kv (.int (mixOf c j))) := ⟨c, j, n, rfl, h, hn, hj, rfl⟩
def gw0 (m g : Int) (k : Nat) : Int := 1 + (m + 40692 * (0 + (k : Int)) + 1) ^ (2 : Int).toNat % 998244353 / 7 % g
def knotM (m p : Int) (ks : List Cu) : Cu := .knot (wayAt (m / 7 % 6)) (wList (wayAt (m / 7 % 6)).wd (gw0 m (if p / 3 % 3 / 2 = 0 then 5 else 10 ^ (6 : Int).toNat)) ks.length) ks
theorem gw0_b (m p : Int) (k : Nat) : 1 ≤ gw0 m (if p / 3 % 3 / 2 = 0 then 5 else 10 ^ (6 : Int).toNat) k ∧ gw0 m (if p / 3 % 3 / 2 = 0 then 5 else 10 ^ (6 : Int).toNat) k ≤ 1000000 := by
  have e6 : (10 : Int) ^ (6 : Int).toNat = 1000000 := by decide
  rw [e6]
  unfold gw0
  generalize (m + 40692 * (0 + (k : Int)) + 1) ^ (2 : Int).toNat % 998244353 / 7 = x
  split <;> omega
theorem knotM_ok {m p : Int} {ks : List Cu} (h0 : ks ≠ []) (hl : ks.length ≤ 12) (hk : ∀ u ∈ ks, u.Ok ∧ u.deep ≤ 7) (hc : (Cu.claimsL ks).length ≤ 12) : (knotM m p ks).Ok := by
  have hd : Cu.deepL ks ≤ 7 := Cu.deepL_le.mpr fun u hu => (hk u hu).2
  exact ⟨⟨⟨h0, hl, wList_fit (gw0_b m p)⟩, Cu.okL_all.mpr fun u hu => (hk u hu).1.ok⟩, hc, show 1 + Cu.deepL ks ≤ 8 by omega⟩
def cKnotM : Ct := fun ds k => ∃ (m p : Int) (ks : List Cu) (n : Nat), ds = [.list (ks.map Cu.d), .int m, .int p] ∧ ks.length ≤ 12 ∧ m.natAbs < 2 ^ n ∧ n ≤ 2000000 ∧ k.rt (knotM m p ks).d
theorem knotM_v {m p : Int} {ks : List Cu} {n : Nat} (hl : ks.length ≤ 12) (h : m.natAbs < 2 ^ n) (hn : n ≤ 2000000) : cKnotM [.list (ks.map Cu.d), .int m, .int p] (kv (knotM m p ks).d) := ⟨m, p, ks, n, rfl, hl, h, hn, rfl⟩
def cCustomM : Ct := fun ds k => ∃ (ns : List Int) (p : Int) (most : Nat), ds = [.list (ns.map PyData.int), .int p, .int (most : Int)] ∧ ns.length ≤ 63 ∧ small ns 1048577 ∧ p.natAbs < 2 ^ 1048577 ∧ 1 ≤ most ∧ most ≤ 12 ∧ ∀ u : Cu, u.Ok → k.rt u.d
theorem customM_v {ns : List Int} {p : Int} {most : Nat} (h1 : ns.length ≤ 63) (h2 : small ns 1048577) (h3 : p.natAbs < 2 ^ 1048577) (h4 : 1 ≤ most) (h5 : most ≤ 12) : cCustomM [.list (ns.map PyData.int), .int p, .int (most : Int)] ⟨isCu, fun _ => False, fun _ => False⟩ := ⟨ns, p, most, rfl, h1, h2, h3, h4, h5, fun u hu => ⟨u, hu, rfl⟩⟩
theorem sIx_back {n m d : Nat} (h1 : 1 ≤ m) : HT.sIx n d (some (-(m : Int))) = n - m := by
  show (if (-(m : Int)) < 0 then (-(m : Int) + (n : Int)).toNat else min (-(m : Int)).toNat n) = n - m
  rw [if_pos (by omega)]
  omega
theorem cut_last' {m : Nat} {xs : List D} (h1 : 1 ≤ m) : cutD xs (some (-(m : Int))) none = xs.drop (xs.length - m) := by
  unfold cutD
  rw [HT.sIx_none, sIx_back h1, List.take_of_length_le (by rw [List.length_drop]; exact Nat.le_refl _)]
theorem cut_init' {m : Nat} {xs : List D} (h1 : 1 ≤ m) : cutD xs none (some (-(m : Int))) = xs.take (xs.length - m) := by
  unfold cutD
  rw [HT.sIx_none, sIx_back h1, List.drop_zero, Nat.sub_zero]
/-- x = f(g(..)), what g tells known by what holds of it, f tells a new list -/
theorem sd_setPP {K : Frag} {ρ : En} {ta : TA} {c c2 : Ct} {ds : List D} {E E2 : L2.St → XK} {W : WX} {ex : Value → En → Prop} {k : Ko} {i : Nat} (P : D → Prop) (P2 : D → List D → Prop) (ha : EvA K ta ρ ds) (hc : c ds ⟨P, fun _ => False, fun _ => False⟩) (hc2 : ∀ d, P d → c2 [d] ⟨fun _ => False, P2 d, fun _ => False⟩) (hk : ∀ d es, P d → P2 d es → k.nx (ρ.set i (.val (.list es)))) :
    Sd K W ex (tAsg (tCallS (spc K c2) E (tCons (tCallS (spc K c) E2 ta) tNil)) (gName i)) ρ k := fun R0 H0 ok R σ H a D m =>
  ha R0 H0 R σ H a _ fun vs R1 H1 g1 dx => ⟨R1, ds, _, g1.sub, dx, hc, fun d v R2 H2 hP g2 dv => ⟨R2, [d], _, g2.sub, .cons dv .nil, hc2 d hP, fun _ _ _ _ h => h.elim, fun es p vs' R' H' h g hn hr hp dv' => by
    have G := (g1.trans g2).trans g
    have g3 := G.show_ ((g1.trans g2).hp.free hn) hp
    exact m.nx _ _ _ H' (hk d es hP h) ((a.grow g3).set (.lst (SqL.of upd_same) (dpa_mono (same_upd hr) _ _ dv'))), fun _ _ _ h => h.elim⟩, fun _ _ _ _ _ h => h.elim, fun _ _ _ h => h.elim⟩
mutual
def Cu.allC : Cu → List Cu
  | .boat c => [.boat c]
  | .knot y ws ks => .knot y ws ks :: Cu.allL ks
def Cu.allL : List Cu → List Cu
  | [] => []
  | k :: r => k.allC ++ Cu.allL r
end
theorem allL_cut : ∀ (ks : List Cu) (i : Nat) (k : Cu), ks[i]? = some k → Cu.allL (ks.take (i + 1)) = Cu.allL (ks.take i) ++ k.allC
  | [], i, k, h => by cases h
  | a :: r, 0, k, h => by
    obtain rfl := Option.some.inj h
    show a.allC ++ [] = [] ++ a.allC
    rw [List.append_nil, List.nil_append]
  | a :: r, i + 1, k, h => by
    have := allL_cut r i k h
    show a.allC ++ Cu.allL (r.take (i + 1)) = a.allC ++ Cu.allL (r.take i) ++ k.allC
    rw [this, List.append_assoc]
theorem allL_le : ∀ (ks : List Cu) (i : Nat), (Cu.allL (ks.take i)).length ≤ (Cu.allL ks).length
  | [], i => by rw [List.take_nil]; exact Nat.le_refl _
  | a :: r, 0 => Nat.zero_le _
  | a :: r, i + 1 => by
    have := allL_le r i
    show (a.allC ++ Cu.allL (r.take i)).length ≤ (a.allC ++ Cu.allL r).length
    rw [List.length_append, List.length_append]
    omega
theorem all_ok : ∀ {u : Cu}, u.Ok → (∀ v ∈ u.allC, v.Ok) ∧ u.allC.length ≤ u.claims.length * u.deep ∧ 1 ≤ u.allC.length := fun {u} => Cu.ind (P := fun u => u.Ok → (∀ v ∈ u.allC, v.Ok) ∧ u.allC.length ≤ u.claims.length * u.deep ∧ 1 ≤ u.allC.length) (fun c h => ⟨fun v hv => by
    obtain rfl := List.mem_singleton.mp (show v ∈ [Cu.boat c] from hv)
    exact h, Nat.le_refl _, Nat.le_refl _⟩) (fun y ws ks ih h => by
    have key : ∀ (l : List Cu) (m : Nat), (∀ k ∈ l, k.deep ≤ m) → (∀ k ∈ l, (∀ v ∈ k.allC, v.Ok) ∧ k.allC.length ≤ k.claims.length * k.deep) → (∀ v ∈ Cu.allL l, v.Ok) ∧ (Cu.allL l).length ≤ (Cu.claimsL l).length * m := fun l m => by
      induction l with
      | nil => intro _ _; exact ⟨(fun v hv => by cases hv), Nat.zero_le _⟩
      | cons k r ih2 =>
        intro h1 h2
        obtain ⟨a0, a1⟩ := h2 k List.mem_cons_self
        obtain ⟨b0, b1⟩ := ih2 (fun x hx => h1 x (List.mem_cons_of_mem _ hx)) (fun x hx => h2 x (List.mem_cons_of_mem _ hx))
        have a3 := Nat.mul_le_mul_left k.claims.length (h1 k List.mem_cons_self)
        refine ⟨fun v hv => ?_, ?_⟩
        · rcases List.mem_append.mp (show v ∈ k.allC ++ Cu.allL r from hv) with hv | hv
          · exact a0 v hv
          · exact b0 v hv
        · show (k.allC ++ Cu.allL r).length ≤ (k.claims ++ Cu.claimsL r).length * m
          rw [List.length_append, List.length_append, Nat.add_mul]
          omega
    obtain ⟨k1, k2⟩ := key ks (Cu.deepL ks) (fun k hk => Cu.deepL_le.mp (Nat.le_refl _) k hk) fun k hk => ⟨(ih k hk (h.kid hk)).1, (ih k hk (h.kid hk)).2.1⟩
    have h2 := List.length_pos_iff.mpr (Cu.claims_ne h.ok)
    have h3 : (Cu.knot y ws ks).claims = Cu.claimsL ks := rfl
    rw [h3] at h2 ⊢
    refine ⟨fun v hv => ?_, ?_, ?_⟩
    · rcases List.mem_cons.mp (show v ∈ Cu.knot y ws ks :: Cu.allL ks from hv) with rfl | hv
      · exact h
      · exact k1 v hv
    · show (Cu.allL ks).length + 1 ≤ (Cu.claimsL ks).length * (1 + Cu.deepL ks)
      rw [Nat.mul_add, Nat.mul_one]
      omega
    · show 1 ≤ (Cu.allL ks).length + 1
      omega) u
def cAll (n : Nat) : Ct := fun ds k => ∃ u : Cu, ds = [u.d] ∧ u.Ok ∧ u.deep ≤ n ∧ k.rl (u.allC.map Cu.d)
theorem all_v {n : Nat} {u : Cu} (h : u.Ok) (hd : u.deep ≤ n) : cAll n [u.d] (kl (u.allC.map Cu.d)) := ⟨u, rfl, h, hd, rfl⟩
def isAll (d : D) (es : List D) : Prop := ∃ u : Cu, u.Ok ∧ es = u.allC.map Cu.d
end Pu

set_option maxRecDepth 100000
namespace Pu
open PySem PySem.Spec PyProof.Rows L2
/-! ### the line of one boat; the catches of an amount -/
theorem linesL_at : ∀ (ks : List Cu) (Ws : List (List Pt)) (_ : ∀ k ∈ ks, k.lines.length = k.claims.length) (j : Nat) (k : Cu) (W l : List Pt) (c : Nat), ks[j]? = some k → Ws[j]? = some W → k.lines[c]? = some l → (Cu.linesL ks Ws)[(Cu.claimsL (ks.take j)).length + c]? = some (behindOf l W)
  | [], _, _, _, _, _, _, _, h, _, _ => by cases h
  | _ :: _, [], _, _, _, _, _, _, _, h, _ => by cases h
  | a :: r, b :: s, hl, 0, k, W, l, c, h1, h2, h3 => by
    obtain rfl := Option.some.inj h1
    obtain rfl := Option.some.inj h2
    show ((a.lines.map fun l => behindOf l b) ++ Cu.linesL r s)[0 + c]? = _
    rw [Nat.zero_add, List.getElem?_append_left (by rw [List.length_map]; exact getElem?_lt h3), List.getElem?_map, h3]
    rfl
  | a :: r, b :: s, hl, j + 1, k, W, l, c, h1, h2, h3 => by
    have := linesL_at r s (fun x hx => hl x (List.mem_cons_of_mem _ hx)) j k W l c h1 h2 h3
    have ha := hl a List.mem_cons_self
    show ((a.lines.map fun l => behindOf l b) ++ Cu.linesL r s)[(a.claims ++ Cu.claimsL (r.take j)).length + c]? = _
    rw [List.length_append, List.getElem?_append_right (by rw [List.length_map, ha]; omega), List.length_map, ha, show a.claims.length + (Cu.claimsL (r.take j)).length + c - a.claims.length = (Cu.claimsL (r.take j)).length + c by omega]
    exact this
def cBoatLine (n : Nat) : Ct := fun ds k => ∃ (u : Cu) (b : Nat), ds = [u.d, .int (b : Int)] ∧ u.Ok ∧ u.deep ≤ n ∧ b < u.claims.length ∧ ∀ W, u.lines[b]? = some W → k.rt (lnD W)
theorem boatLine_v {n : Nat} {u : Cu} {b : Nat} {W : List Pt} (h : u.Ok) (hd : u.deep ≤ n) (hb : b < u.claims.length) (hW : u.lines[b]? = some W) : cBoatLine n [u.d, .int (b : Int)] (kv (lnD W)) := ⟨u, b, rfl, h, hd, hb, fun V hV => by rw [hW] at hV; cases hV; rfl⟩
def cCatches (C0 C1 : Addr) : Ct := fun ds k => ∃ (u : Cu) (b : Int) (q : Rat) (n : Nat), ds = [u.d, .int b, fr q] ∧ u.Ok ∧ bt q n ∧ n ≤ 199990 ∧ ((b < 0 ∨ (u.claims.length : Int) ≤ b) → k.ex (.ref C0)) ∧ (¬ b < 0 → b < (u.claims.length : Int) → (q < 0 ∨ gD (qlist u.claims) b.toNat < q) → k.ex (.ref C1)) ∧ (∀ W, ¬ b < 0 → u.lines[b.toNat]? = some W → ¬ (q < 0 ∨ gD (qlist u.claims) b.toNat < q) → k.rt (.tuple [fr (lineFirst W q), fr (lineLast W q)]))
theorem catches_v {C0 C1 : Addr} {u : Cu} {b : Nat} {q : Rat} {n : Nat} {W : List Pt} (h : u.Ok) (hq : bt q n) (hn : n ≤ 199990) (hW : u.lines[b]? = some W) (h0 : 0 ≤ q) (h1 : q ≤ gD (qlist u.claims) b) : cCatches C0 C1 [u.d, .int (b : Int), fr q] (kv (.tuple [fr (lineFirst W q), fr (lineLast W q)])) := by
  have hb := getElem?_lt hW
  rw [(lines_ok h).len] at hb
  refine ⟨u, b, q, n, rfl, h, hq, hn, (fun z => by omega), (fun _ _ z => ?_), fun V _ hV _ => ?_⟩
  · rw [Int.toNat_natCast] at z
    grind
  · rw [Int.toNat_natCast, hW] at hV
    cases hV
    rfl
theorem catches_x0 {C0 C1 : Addr} {u : Cu} {b : Int} {q : Rat} {n : Nat} (h : u.Ok) (hq : bt q n) (hn : n ≤ 199990) (hb : b < 0 ∨ (u.claims.length : Int) ≤ b) : cCatches C0 C1 [u.d, .int b, fr q] (kx (.ref C0)) := ⟨u, b, q, n, rfl, h, hq, hn, (fun _ => rfl), (fun z1 z2 _ => by omega), fun V z1 z2 _ => by
  have := getElem?_lt z2
  rw [(lines_ok h).len] at this
  omega⟩
theorem catches_x1 {C0 C1 : Addr} {u : Cu} {b : Nat} {q : Rat} {n : Nat} (h : u.Ok) (hq : bt q n) (hn : n ≤ 199990) (hb : b < u.claims.length) (ho : q < 0 ∨ gD (qlist u.claims) b < q) : cCatches C0 C1 [u.d, .int (b : Int), fr q] (kx (.ref C1)) := ⟨u, b, q, n, rfl, h, hq, hn, (fun z => by omega), (fun _ _ _ => rfl), fun V _ _ z => by rw [Int.toNat_natCast] at z; exact absurd ho z⟩
end Pu

set_option maxRecDepth 100000
namespace Pu
open PySem PySem.Spec PyProof.Rows L2
/-! ### how long the catches of an amount are -/
theorem behind_first {l W : List Pt} {y : Rat} (gl : GoodL l) (gW : GoodL W) (he : (lineEnd l).1 = (lineEnd W).2) (h0 : 0 ≤ y) (h1 : y ≤ (lineEnd l).2) : lineFirst (behindOf l W) y = lineFirst W (lineFirst l y) := by
  obtain ⟨b1, b2, b3, b4, b5, b6⟩ := behindOf_ok gl gW he
  obtain ⟨f1, f2, f3, f4⟩ := lineFirst_ok gl h0 h1
  obtain ⟨e1, e2, e3, e4⟩ := lineFirst_ok (y := lineFirst l y) gW f1 (by rw [← he]; exact f2)
  refine first_uniq b1 h0 (by rw [b4]; exact h1) e1 ?_ fun z z0 z1 => ?_
  · rw [b5 _ e1 e2, e3, f3]
  · have z2 : z ≤ (lineEnd W).1 := by grind
    rw [b5 z z0 z2]
    exact f4 _ (lineEv_range gW z0 z2).1 (e4 z z0 z1)
theorem linesL_get : ∀ (ks : List Cu) (Ws : List (List Pt)) (b : Nat) (V : List Pt), (Cu.linesL ks Ws)[b]? = some V → ∃ (j : Nat) (k : Cu) (W l : List Pt) (c : Nat), ks[j]? = some k ∧ Ws[j]? = some W ∧ k.lines[c]? = some l ∧ V = behindOf l W
  | [], _, _, _, h => by cases h
  | _ :: _, [], _, _, h => by cases h
  | k :: r, W :: s, b, V, h => by
    have h : ((k.lines.map fun l => behindOf l W) ++ Cu.linesL r s)[b]? = some V := h
    by_cases hb : b < k.lines.length
    · rw [List.getElem?_append_left (by rw [List.length_map]; exact hb), List.getElem?_map] at h
      obtain ⟨l, hl⟩ : ∃ l, k.lines[b]? = some l := ⟨_, List.getElem?_eq_getElem hb⟩
      rw [hl] at h
      exact ⟨0, k, W, l, b, rfl, rfl, hl, (Option.some.inj h).symm⟩
    · rw [List.getElem?_append_right (by rw [List.length_map]; omega)] at h
      obtain ⟨j, k', W', l, c, h1, h2, h3, h4⟩ := linesL_get r s _ V h
      exact ⟨j + 1, k', W', l, c, h1, h2, h3, h4⟩
theorem lines_first_bt : ∀ {u : Cu}, u.Ok → ∀ {b : Nat} {W : List Pt} {y : Rat} {n : Nat}, u.lines[b]? = some W → 0 ≤ y → y ≤ (lineEnd W).2 → bt y n → bt (lineFirst W y) (n + u.deep * 12000) := fun {u} => Cu.ind (P := fun u => u.Ok → ∀ {b : Nat} {W : List Pt} {y : Rat} {n : Nat}, u.lines[b]? = some W → 0 ≤ y → y ≤ (lineEnd W).2 → bt y n → bt (lineFirst W y) (n + u.deep * 12000)) (fun c h b W y n hW y0 y1 hy => by
    obtain ⟨g1, g2, g3⟩ := lines_good h hW
    refine (bt_first_add (N := 40) g1 ?_ hy).mono (show n + 6 * 40 + 6 ≤ n + 1 * 12000 by omega)
    cases b with
    | succ b => cases hW
    | zero =>
      obtain rfl := Option.some.inj hW
      have h0 := h.ok.1
      have hb40 : bt (c : Rat) 40 := bt_int (by have := h.ok.2; omega) (by decide)
      have hz : bp ((0, 0) : Pt) 40 := ⟨bt_zero.mono (by omega), bt_zero.mono (by omega)⟩
      intro p hp
      unfold ownW at hp
      split at hp
      · obtain rfl := List.mem_singleton.mp hp
        exact hz
      · rcases List.mem_cons.mp hp with rfl | hp
        · exact hz
        · obtain rfl := List.mem_singleton.mp hp
          exact ⟨hb40, hb40⟩) (fun y ws ks ih h b V x n hV x0 x1 hx => by
    have hI := knot_In h
    have hF := hI.fit
    have hlen : (Cu.sums ks).length = ks.length := List.length_map _
    obtain ⟨j, k, W, l, c, hk, hW, hl, rfl⟩ := linesL_get ks _ b V hV
    have hm := List.mem_of_getElem? hk
    have hko := h.kid hm
    have hdk := Cu.deep_kid (y := y) (ws := ws) hm
    have hj : j < (Cu.sums ks).length := by rw [hlen]; exact getElem?_lt hk
    rw [wayLs_at hj] at hW
    obtain rfl := Option.some.inj hW
    have hw := wayLn_ok (k := j) hF (by rw [qlist_len]; exact hj)
    have e : gD (qlist (Cu.sums ks)) j = (k.sum : Rat) := gD_at (qlist_at (by unfold Cu.sums; rw [List.getElem?_map, hk]; rfl))
    rw [e] at hw
    obtain ⟨s1, s2⟩ := way_size hI hj
    obtain ⟨g1, g2, g3⟩ := lines_good hko hl
    have he : (lineEnd l).1 = (lineEnd (wayLn y (qlist ws) (qlist (Cu.sums ks)) j)).2 := by rw [g3, hw.last]
    have hx1 : x ≤ (lineEnd l).2 := by
      rw [← (behindOf_ok g1 hw.good he).2.2.2.1]
      exact x1
    rw [behind_first g1 hw.good he x0 hx1]
    have hb := ih k hm hko hl x0 hx1 hx
    have hmul := Nat.mul_le_mul_right 12000 hdk
    exact (bt_first_add hw.good (bl_mono s1 (show _ ≤ 1990 by decide)) hb).mono (by omega)) u
theorem lines_last_bt {u : Cu} (h : u.Ok) {b : Nat} {W : List Pt} {y : Rat} {n : Nat} (hW : u.lines[b]? = some W) (y0 : 0 ≤ y) (y1 : y ≤ (lineEnd W).2) (hy : bt y n) : bt (lineLast W y) (n + u.deep * 12000 + 100) := by
  have hV : u.con.lines[b]? = some (turnOf W) := by rw [con_lines h, List.getElem?_map, hW]; rfl
  obtain ⟨g1, g2, g3⟩ := lines_good h hW
  obtain ⟨v1, v2, v3⟩ := lines_good h.con hV
  have hc := con_same u
  have hlow := h.sum_b
  have hlt := h.sum_lt
  have e1 : (lineEnd W).1 = (u.sum : Rat) := by rw [g3]
  have e2 : (lineEnd (turnOf W)).2 = (lineEnd W).2 := by rw [v3, g3, hc.1]
  have hbl := getElem?_lt hW
  rw [(lines_ok h).len] at hbl
  have hcb : bt (lineEnd W).2 40 := by
    rw [g3]
    show bt (gD (qlist u.claims) b) 40
    have hci := Cu.claims_b h.ok
    obtain ⟨c, hc⟩ : ∃ c, u.claims[b]? = some c := ⟨_, List.getElem?_eq_getElem hbl⟩
    rw [gD_at (qlist_at hc)]
    have := hci c (List.mem_of_getElem? hc)
    exact bt_int (by omega) (by decide)
  unfold lineLast
  have hf := lines_first_bt h.con hV (y := (lineEnd W).2 - y) (by grind) (by rw [e2]; grind) (bt_minus hcb hy)
  rw [hc.2] at hf
  rw [e1]
  exact (bt_minus (bt_int (n := 45) (by omega) (by decide)) hf).mono (by omega)
/-- the catches of what a boat gets -/
structure CatchesOf (u : Cu) (b : Nat) (x : Rat) (W : List Pt) : Prop where
  y0 : 0 ≤ gD (u.deal x) b
  y1 : gD (u.deal x) b ≤ gD (qlist u.claims) b
  yb : ∀ n, bt x n → n ≤ 800000 → bt (gD (u.deal x) b) (n + u.deep * 13000)
  f0 : 0 ≤ lineFirst W (gD (u.deal x) b)
  f1 : lineFirst W (gD (u.deal x) b) ≤ x
  l0 : x ≤ lineLast W (gD (u.deal x) b)
  l1 : lineLast W (gD (u.deal x) b) ≤ (u.sum : Rat)
  fe : gD (u.deal (lineFirst W (gD (u.deal x) b))) b = gD (u.deal x) b
  le : gD (u.deal (lineLast W (gD (u.deal x) b))) b = gD (u.deal x) b
theorem catchesOf_ok {u : Cu} (h : u.Ok) {b : Nat} {W : List Pt} (hW : u.lines[b]? = some W) {x : Rat} (x0 : 0 ≤ x) (x1 : x ≤ (u.sum : Rat)) : CatchesOf u b x W := by
  have hi := ((lines_ok h).is b W hW).1
  obtain ⟨g1, g2, g3⟩ := lines_good h hW
  have hbl := getElem?_lt hW
  rw [(lines_ok h).len] at hbl
  have hl := deal_len h.ok x0 x1
  have e1 : (lineEnd W).1 = (u.sum : Rat) := by rw [g3]
  have e2 : (lineEnd W).2 = gD (qlist u.claims) b := by rw [g3]
  have ev := hi.ev x x0 x1
  have hr := lineEv_range g1 x0 (by rw [e1]; exact x1)
  rw [ev] at hr
  have hr : 0 ≤ gD (u.deal x) b ∧ gD (u.deal x) b ≤ (lineEnd W).2 := hr
  obtain ⟨f1, f2, f3, f4⟩ := lineFirst_ok g1 hr.1 hr.2
  obtain ⟨l1, l2, l3, l4⟩ := lineLast_ok g1 hr.1 hr.2
  refine ⟨hr.1, by rw [← e2]; exact hr.2, fun n hn hle => ?_, f1, ?_, ?_, by rw [← e1]; exact l2, ?_, ?_⟩
  · have hd := h.low
    exact deal_bt h x0 x1 hn (by omega) _ (List.mem_of_getElem? (at_gD (by rw [hl]; exact hbl)))
  · refine Rat.not_lt.mp fun z => ?_
    have := f4 x x0 z
    rw [ev] at this
    exact absurd this (Rat.lt_irrefl)
  · refine Rat.not_lt.mp fun z => ?_
    have := l4 x z (by rw [e1]; exact x1)
    rw [ev] at this
    exact absurd this (Rat.lt_irrefl)
  · have := hi.ev _ f1 (show _ ≤ (u.sum : Rat) by rw [← e1]; exact f2)
    rw [f3] at this
    exact this.symm
  · have := hi.ev _ l1 (show _ ≤ (u.sum : Rat) by rw [← e1]; exact l2)
    rw [l3] at this
    exact this.symm
structure CatchAt (u : Cu) (b : Nat) (y F L : Rat) : Prop where
  f0 : 0 ≤ F
  fl : F ≤ L
  l1 : L ≤ (u.sum : Rat)
  mid : ∀ x, F ≤ x → x ≤ L → gD (u.deal x) b = y
  lo : ∀ x, 0 ≤ x → x < F → gD (u.deal x) b < y
  hi : ∀ x, L < x → x ≤ (u.sum : Rat) → y < gD (u.deal x) b
theorem catchAt_ok {u : Cu} (h : u.Ok) {b : Nat} {W : List Pt} (hW : u.lines[b]? = some W) {y : Rat} (y0 : 0 ≤ y) (y1 : y ≤ gD (qlist u.claims) b) : CatchAt u b y (lineFirst W y) (lineLast W y) := by
  have hi := ((lines_ok h).is b W hW).1
  obtain ⟨g1, g2, g3⟩ := lines_good h hW
  have hbl := getElem?_lt hW
  rw [(lines_ok h).len] at hbl
  have e1 : (lineEnd W).1 = (u.sum : Rat) := by rw [g3]
  have e2 : (lineEnd W).2 = gD (qlist u.claims) b := by rw [g3]
  obtain ⟨f1, f2, f3, f4⟩ := lineFirst_ok g1 y0 (by rw [e2]; exact y1)
  obtain ⟨l1, l2, l3, l4⟩ := lineLast_ok g1 y0 (by rw [e2]; exact y1)
  rw [e1] at f2 l2
  have a1 := hi.ev _ f1 f2
  have a2 := hi.ev _ l1 l2
  rw [f3] at a1
  rw [l3] at a2
  have a1 : y = gD (u.deal (lineFirst W y)) b := a1
  have a2 : y = gD (u.deal (lineLast W y)) b := a2
  have fl : lineFirst W y ≤ lineLast W y := Rat.not_lt.mp fun z => by
    have := f4 _ l1 z
    rw [l3] at this
    exact absurd this Rat.lt_irrefl
  have mono : ∀ p q : Rat, 0 ≤ p → p ≤ q → q ≤ (u.sum : Rat) → gD (u.deal p) b ≤ gD (u.deal q) b := fun p q p0 pq q1 => leAll_get (deal_mono h.ok p0 pq q1) (at_gD (by rw [deal_len h.ok p0 (Rat.le_trans pq q1)]; exact hbl)) (at_gD (by rw [deal_len h.ok (Rat.le_trans p0 pq) q1]; exact hbl))
  refine ⟨f1, fl, l2, fun x x0 x1 => ?_, fun x x0 x1 => ?_, fun x x0 x1 => ?_⟩
  · have m1 := mono _ _ f1 x0 (Rat.le_trans x1 l2)
    have m2 := mono _ _ (Rat.le_trans f1 x0) x1 l2
    rw [← a1] at m1
    rw [← a2] at m2
    exact Rat.le_antisymm m2 m1
  · have := f4 x x0 x1
    rw [hi.ev x x0 (show x ≤ (u.sum : Rat) by grind)] at this
    exact this
  · have := l4 x x0 (by rw [e1]; exact x1)
    rw [hi.ev x (by grind) x1] at this
    exact this
theorem first_mono {W : List Pt} {y z : Rat} (g : GoodL W) (h1 : 0 ≤ y) (h2 : z ≤ (lineEnd W).2) (h : y ≤ z) : lineFirst W y ≤ lineFirst W z := by
  by_cases e : y = z
  · rw [e]; exact Rat.le_refl
  · exact Rat.le_of_lt (lineFirst_lt g h1 h2 (by grind))
theorem last_mono {W : List Pt} {y z : Rat} (g : GoodL W) (h1 : 0 ≤ y) (h2 : z ≤ (lineEnd W).2) (h : y ≤ z) : lineLast W y ≤ lineLast W z := by
  obtain ⟨l1, l2, l3, l4⟩ := lineLast_ok g h1 (show y ≤ (lineEnd W).2 by grind)
  obtain ⟨m1, m2, m3, m4⟩ := lineLast_ok (y := z) g (by grind) h2
  refine Rat.not_lt.mp fun q => ?_
  have := m4 _ q l2
  rw [l3] at this
  grind
theorem first_nil {W : List Pt} (g : GoodL W) : lineFirst W 0 = 0 := lineFirst_zero g
theorem last_nil {W : List Pt} (g : GoodL W) (h : (lineEnd W).2 = 0) : lineLast W 0 = (lineEnd W).1 := by
  have h0 := good_nonneg g (List.mem_of_getElem? (lineEnd_last (goodL_ne g)))
  refine last_uniq g Rat.le_refl (by rw [h]; exact Rat.le_refl) Rat.le_refl ?_ fun z z0 z1 => ?_
  · have := lineEv_range g h0.1 Rat.le_refl
    grind
  · grind
end Pu

set_option maxRecDepth 100000
namespace Pu
open PySem PySem.Spec PyProof.Rows L2
/-! ### lines of ways: turned about; the points of even lines -/
theorem Wy.con_wd (y : Wy) : y.con.wd = y.wd := by cases y <;> rfl
theorem Wy.In.con {y : Wy} {ws cs : List Int} {B : Nat} (h : y.In ws cs B) : y.con.In ws cs B := ⟨h.ne, h.nn, h.len, h.sc, h.b0, h.b1, fun e => h.wt (by rw [← Wy.con_wd]; exact e)⟩
theorem wayLs_con {y : Wy} {ws cs : List Int} {B : Nat} (h : y.In ws cs B) : wayLs y.con ws cs = (wayLs y ws cs).map turnOf := by
  refine List.ext_getElem? fun i => ?_
  rw [List.getElem?_map]
  by_cases hi : i < cs.length
  · rw [wayLs_at hi, wayLs_at hi]
    show some _ = some _
    congr 1
    have a := wayLn_ok (k := i) h.fit (by rw [qlist_len]; exact hi)
    have b := wayLn_ok (k := i) h.con.fit (by rw [qlist_len]; exact hi)
    refine b.uniq ((turn_ok a).congr fun x x0 x1 => ?_)
    have x1 : x ≤ qsum (qlist cs) := x1
    show gD (qlist cs) i - gD (dealOf y (qlist ws) (qlist cs) (qsum (qlist cs) - x)) i = gD (dealOf y.con (qlist ws) (qlist cs) x) i
    rw [dealOf_con h.fit x0 x1, lackD_gD (by rw [qlist_len]; exact hi) (dealOf_ok h.fit (by grind) (by grind)).len]
  · rw [List.getElem?_eq_none_iff.mpr (by rw [wayLs_len]; omega), List.getElem?_eq_none_iff.mpr (by rw [wayLs_len]; omega)]
    rfl
theorem evenW_mem {ws cs r : List Rat} {k : Nat} {p : Pt} (h : p ∈ evenW ws cs r k) : ∃ l, (l = 0 ∨ l ∈ r) ∧ p = evenPt ws cs k l := by
  unfold evenW throughW at h
  have := thin_mem (lineOf_mem h)
  obtain ⟨l, hl, rfl⟩ := List.mem_map.mp this
  exact ⟨l, List.mem_cons.mp hl, rfl⟩
theorem even_pts {ws cs : List Rat} {k : Nat} {p : Pt} (hW : WOk ws cs) (h : p ∈ evenW ws cs (lvsT ws cs).tail k) : ∃ l, (l = 0 ∨ l ∈ fullL ws cs) ∧ p = evenPt ws cs k l := by
  obtain ⟨r, h1, _, h3⟩ := lvsT_ok hW
  obtain ⟨l, hl, rfl⟩ := evenW_mem h
  refine ⟨l, ?_, rfl⟩
  rw [h1] at hl
  rcases hl with e | hl
  · exact .inl e
  · exact .inr (h3 l hl)
theorem fullL_mem {ws cs : List Rat} {l : Rat} (h : l ∈ fullL ws cs) : ∃ (i : Nat) (w c : Rat), ws[i]? = some w ∧ cs[i]? = some c ∧ l = c / w := by
  unfold fullL at h
  obtain ⟨i, hi⟩ := List.mem_iff_getElem?.mp h
  rw [List.getElem?_zipWith] at hi
  cases e1 : ws[i]? with
  | none => rw [e1] at hi; cases hi
  | some w =>
    cases e2 : cs[i]? with
    | none => rw [e1, e2] at hi; cases hi
    | some c =>
      rw [e1, e2] at hi
      exact ⟨i, w, c, e1, e2, (Option.some.inj hi).symm⟩
theorem lvl_le (w c l : Rat) : lvl w c l ≤ c := by
  unfold lvl
  split <;> grind
theorem lvls_top {ws cs : List Rat} {l : Rat} (h : ws.length = cs.length) : leAll (lvls ws cs l) cs := leAll_of (lvls_len h) fun i x y hx hy => by
  obtain ⟨w, c, _, h2, rfl⟩ := lvls_at hx
  rw [h2] at hy
  obtain rfl := Option.some.inj hy
  exact lvl_le _ _ _
theorem lvls_sum_le {ws cs : List Rat} {l : Rat} (h : ws.length = cs.length) : qsum (lvls ws cs l) ≤ qsum cs := leAll_sum (lvls_top h)
theorem even_val {ws cs : List Rat} {k : Nat} {l : Rat} (hk : k < cs.length) (hW : WOk ws cs) (l0 : 0 ≤ l) : lineEv (evenW ws cs (lvsT ws cs).tail k) (qsum (lvls ws cs l)) = gD (lvls ws cs l) k := by
  have hne : cs ≠ [] := fun z => by rw [z] at hk; exact absurd hk (Nat.not_lt_zero _)
  have hz : 0 ≤ qsum (lvls ws cs l) := qsum_nonneg fun x hx => by
    obtain ⟨i, hi⟩ := List.mem_iff_getElem?.mp hx
    obtain ⟨w, c, h1, h2, rfl⟩ := lvls_at hi
    have w0 := hW.pos w (List.mem_of_getElem? h1)
    have c0 := hW.nn c (List.mem_of_getElem? h2)
    unfold lvl
    split
    · exact Rat.mul_nonneg (Rat.le_of_lt w0) l0
    · exact c0
  have := (evenT_ok hk hW).ev _ hz (lvls_sum_le hW.len)
  rw [this]
  show gD (evenD ws cs (qsum (lvls ws cs l))) k = _
  rw [evenD_of hW l0 hne]
theorem qlvls_bt {ws cs : List Int} {l : Rat} {n m : Nat} (hw : ∀ w ∈ ws, 1 ≤ w ∧ w ≤ 1000000) (hc : small cs n) (hn : 0 < n) (hl : bt l m) : ∀ g ∈ lvls (qlist ws) (qlist cs) l, bt g (n + m + 20) := fun g hg => by
  obtain ⟨i, hi⟩ := List.mem_iff_getElem?.mp hg
  obtain ⟨w, c, h1, h2, rfl⟩ := lvls_at hi
  unfold qlist at h1 h2
  rw [List.getElem?_map] at h1 h2
  cases e1 : ws[i]? with
  | none => rw [e1] at h1; cases h1
  | some v =>
    cases e2 : cs[i]? with
    | none => rw [e2] at h2; cases h2
    | some b =>
      rw [e1] at h1
      rw [e2] at h2
      obtain rfl := Option.some.inj h1
      obtain rfl := Option.some.inj h2
      have hv := hw v (List.mem_of_getElem? e1)
      have hb := hc b (List.mem_of_getElem? e2)
      have p20 : (2 : Nat) ^ 20 = 1048576 := by decide
      have bv : bt ((v : Int) : Rat) 20 := bt_int (by omega) (by decide)
      unfold lvl
      split
      · exact (bt_times bv hl).mono (by omega)
      · exact (bt_int hb hn).mono (by omega)
theorem qW_ok {ws cs : List Int} (hl : ws.length = cs.length) (hw : ∀ w ∈ ws, 1 ≤ w ∧ w ≤ 1000000) (hc : ∀ c ∈ cs, 0 ≤ c) : WOk (qlist ws) (qlist cs) := ⟨by rw [qlist_len, qlist_len]; exact hl, fun w h => by
  obtain ⟨n, hn, rfl⟩ := List.mem_map.mp h
  have := (hw n hn).1
  exact_mod_cast (show (0 : Int) < n by omega), nn_q hc⟩
end Pu

set_option maxRecDepth 100000
set_option maxHeartbeats 1000000
namespace Pu
open PySem PySem.Spec PyProof.Rows L2
/-! ### zip of three lists or tuples -/
theorem begins_q (t : Bool) (l : Addr) (items : Array Value) : Begins (.ref l) { cls := .type (itCls t), data := .fields #[.ref l, .int 0 0] } fun h => SeqIs t h l items := by
  cases t
  · exact begins_list l items
  · exact begins_tuple l items
theorem itAt_new {t : Bool} {h : Heap} {it l : Addr} (e : h.get? it = some { cls := .type (itCls t), data := .fields #[.ref l, .int 0 0] }) : ItAt t h it l 0 := by
  cases t
  · exact ⟨_, e, rfl, rfl⟩
  · exact ⟨_, e, rfl, rfl⟩
def ItzQ3 (K : Frag) (t1 t2 t3 : Bool) (a b c : Addr) : It :=
  ⟨fun i H => ∃ (xs ys zs : List V) (x y z : V), SqQ K t1 H a xs ∧ SqQ K t2 H b ys ∧ SqQ K t3 H c zs ∧ xs[i]? = some x ∧ ys[i]? = some y ∧ zs[i]? = some z,
    fun i H v H' => ∃ T x y z, v = .ref T ∧ H T = none ∧ H' = upd H T (.tup [x, y, z]) ∧ (∀ xs, SqQ K t1 H a xs → xs[i]? = some x) ∧ (∀ ys, SqQ K t2 H b ys → ys[i]? = some y) ∧ ∀ zs, SqQ K t3 H c zs → zs[i]? = some z,
    fun i H => ∃ xs ys zs : List V, SqQ K t1 H a xs ∧ SqQ K t2 H b ys ∧ SqQ K t3 H c zs ∧ (xs.length = i ∨ ys.length = i ∨ zs.length = i) ∧ i ≤ xs.length ∧ i ≤ ys.length ∧ i ≤ zs.length⟩
theorem turn_zipQ3 {P : Program} {w : World} {K : Frag} {elts : List Expr} {kk : Nat} {tpos : Pos} {t1 t2 t3 : Bool} {a b c0 z TI TO i1 i2 i3 : Addr} (n1 : a ≠ i1) (n2 : b ≠ i2) (n3 : c0 ≠ i3) (S : ZipSep3 z TI TO i1 i2 i3 [i1, a] [i2, b] [i3, c0]) :
    Turn P w K (.Tuple elts kk tpos) (ItzQ3 K t1 t2 t3 a b c0) [z, TI, TO, i1, i2, i3] z (fun i h => IsZip h z TI TO .none ∧ IsTupOf3 h TI (.ref i1) (.ref i2) (.ref i3) ∧ (∃ x y u, IsTupOf3 h TO x y u) ∧ ItAt t1 h i1 a i ∧ ItAt t2 h i2 b i ∧ ItAt t3 h i3 c0 i) where
  mem := List.mem_cons_self
  obj := fun i h st c hc => by
    obtain ⟨hz, hTI, ⟨x, y, u, hTO⟩, h1, h2, h3⟩ := st
    obtain ⟨o1, c1, e1, d1⟩ := h1.there
    obtain ⟨o2, c2, e2, d2⟩ := h2.there
    obtain ⟨o3, c3, e3, d3⟩ := h3.there
    have e' : c = z ∨ c = TI ∨ c = TO ∨ c = i1 ∨ c = i2 ∨ c = i3 := by simpa using hc
    rcases e' with q | q | q | q | q | q
    · rw [q]; exact ⟨_, hz, fun v q => nomatch q⟩
    · rw [q]; exact ⟨_, hTI, fun v q => nomatch q⟩
    · rw [q]; exact ⟨_, hTO, fun v q => nomatch q⟩
    · rw [q]; exact ⟨o1, e1, fun v q => by rw [d1] at q; cases q⟩
    · rw [q]; exact ⟨o2, e2, fun v q => by rw [d2] at q; cases q⟩
    · rw [q]; exact ⟨o3, e3, fun v q => by rw [d3] at q; cases q⟩
  keep := fun i h h' st k => by
    obtain ⟨hz, hTI, ⟨x, y, u, hTO⟩, h1, h2, h3⟩ := st
    exact ⟨k z (by simp) _ hz, k TI (by simp) _ hTI, ⟨x, y, u, k TO (by simp) _ hTO⟩, h1.keep fun o q => k i1 (by simp) o q, h2.keep fun o q => k i2 (by simp) o q, h3.keep fun o q => k i3 (by simp) o q⟩
  item := by
    intro X hP hw hK hc i pins s σ H E I hf st hg
    subst hP hw hK
    obtain ⟨hz, hTI, ⟨x0, y0, u0, hTO⟩, h1, h2, h3⟩ := st
    obtain ⟨xs, ys, zs, x, y, v, hqx, hqy, hqz, hx, hy, hv⟩ := hg
    obtain ⟨its, rv, p⟩ := sqQ_seq I hqx
    obtain ⟨its2, rv2, p2⟩ := sqQ_seq I hqy
    obtain ⟨its3, rv3, p3⟩ := sqQ_seq I hqz
    obtain ⟨u, hu, ru⟩ := rv.get hx
    obtain ⟨u2, hu2, ru2⟩ := rv2.get hy
    obtain ⟨u3, hu3, ru3⟩ := rv3.get hv
    have hzl : z < s.heap.objs.size := Heap.lt_size hz
    have D1 := draws_seq (prog := X.prog) (w := X.w) (A := X.A.in1) t1 (I.ok.hd hc) i1 a n1 its.toArray
    have D2 := draws_seq (prog := X.prog) (w := X.w) (A := X.A.in1) t2 (I.ok.hd hc) i2 b n2 its2.toArray
    have D3 := draws_seq (prog := X.prog) (w := X.w) (A := X.A.in1) t3 (I.ok.hd hc) i3 c0 n3 its3.toArray
    have l1 : i < its.toArray.size := by rw [List.size_toArray]; exact (List.getElem?_eq_some_iff.mp hu).1
    have l2 : i < its2.toArray.size := by rw [List.size_toArray]; exact (List.getElem?_eq_some_iff.mp hu2).1
    have l3 : i < its3.toArray.size := by rw [List.size_toArray]; exact (List.getElem?_eq_some_iff.mp hu3).1
    refine wpAny_pyNext_zipD3_item S D1 D2 D3 hz hTI hTO ⟨h1, p⟩ ⟨h2, p2⟩ ⟨h3, p3⟩ l1 l2 l3 fun x1 x2 x3 h' tk e1 e2 e3 z' TO' st1 st2 st3 hT hsz hk => ?_
    have q1 : x1 = u := Option.some.inj (e1.symm.trans (by simpa using hu))
    have q2 : x2 = u2 := Option.some.inj (e2.symm.trans (by simpa using hu2))
    have q3 : x3 = u3 := Option.some.inj (e3.symm.trans (by simpa using hu3))
    subst q1 q2 q3
    refine ⟨_, rfl, wpAny_letOwnedTupleGo_zip (s := { s with heap := h', toks := tk }) z' fun h'' z'' sb => ?_⟩
    have hT2 : h''.get? s.heap.objs.size = some { cls := .type "tuple", data := .seq #[x1, x2, x3] } := (sb.2 _ (Nat.ne_of_gt hzl)).trans hT
    have new : ObjOk X.prog X.w (upd H s.heap.objs.size (.tup [x, y, v])) h'' s.heap.objs.size (.tup [x, y, v]) :=
      ⟨by show 3 ≤ sizeLine; decide, [x1, x2, x3], .cons ru (.cons ru2 (.cons ru3 .nil)), ⟨_, hT2, rfl, _, rfl⟩⟩
    have I1 : Inv X pins σ (upd H s.heap.objs.size (.tup [x, y, v])) { s with heap := h'', toks := tk } :=
      I.turnedNew (t' := tk) (ch := [z, TI, TO, i1, i2, i3]) (fun c o hb q => (sb.2 c (fun q' => hb (by simp [q']))).trans (hk c o (fun q' => hb (by simp [q'])) (fun q' => hb (by simp [q'])) (fun q' => hb (by simp [q'])) (fun q' => hb (by simp [q'])) (fun q' => hb (by simp [q'])) q)) hf (Nat.le_refl _) new
    refine ⟨.ref s.heap.objs.size, _, I1, rfl, ⟨_, x, y, v, rfl, I.hok.fresh (Nat.le_refl _), rfl, fun l hl => by rw [sqQ_inj I hl hqx]; exact hx, fun l hl => by rw [sqQ_inj I hl hqy]; exact hy, fun l hl => by rw [sqQ_inj I hl hqz]; exact hv⟩, ⟨z'', ?_, ⟨x1, x2, x3, ?_⟩, ?_, ?_, ?_⟩, fun c hcm => ?_⟩
    · exact (sb.2 _ S.TIz).trans (hk _ _ S.TIz S.TITO S.TIi1 S.TIi2 S.TIi3 hTI)
    · exact (sb.2 _ S.TOz).trans TO'
    · exact st1.1.keep fun o q => (sb.2 _ (Ne.symm S.zi1)).trans q
    · exact st2.1.keep fun o q => (sb.2 _ (Ne.symm S.zi2)).trans q
    · exact st3.1.keep fun o q => (sb.2 _ (Ne.symm S.zi3)).trans q
    · have hlt : c < s.heap.objs.size := by
        have e' : c = z ∨ c = TI ∨ c = TO ∨ c = i1 ∨ c = i2 ∨ c = i3 := by simpa using hcm
        obtain ⟨_, _, g1, _⟩ := h1.there
        obtain ⟨_, _, g2, _⟩ := h2.there
        obtain ⟨_, _, g3, _⟩ := h3.there
        rcases e' with q | q | q | q | q | q
        · rw [q]; exact hzl
        · rw [q]; exact Heap.lt_size hTI
        · rw [q]; exact Heap.lt_size hTO
        · rw [q]; exact Heap.lt_size g1
        · rw [q]; exact Heap.lt_size g2
        · rw [q]; exact Heap.lt_size g3
      rw [upd_ne (Nat.ne_of_lt hlt)]
      exact (hf c hcm).1
  done := by
    intro X hP hw hK hc i pins s σ H E I hf st hg
    subst hP hw hK
    obtain ⟨hz, hTI, ⟨x0, y0, u0, hTO⟩, h1, h2, h3⟩ := st
    obtain ⟨xs, ys, zs, hqx, hqy, hqz, hend, hle1, hle2, hle3⟩ := hg
    obtain ⟨its, rv, p⟩ := sqQ_seq I hqx
    obtain ⟨its2, rv2, p2⟩ := sqQ_seq I hqy
    obtain ⟨its3, rv3, p3⟩ := sqQ_seq I hqz
    have l1 := rv.length
    have l2 := rv2.length
    have l3 := rv3.length
    have D1 := draws_seq (prog := X.prog) (w := X.w) (A := X.A.in1) t1 (I.ok.hd hc) i1 a n1 its.toArray
    have D2 := draws_seq (prog := X.prog) (w := X.w) (A := X.A.in1) t2 (I.ok.hd hc) i2 b n2 its2.toArray
    have D3 := draws_seq (prog := X.prog) (w := X.w) (A := X.A.in1) t3 (I.ok.hd hc) i3 c0 n3 its3.toArray
    exact wpAny_pyNext_zipD3_end S D1 D2 D3 hz hTI hTO ⟨h1, p⟩ ⟨h2, p2⟩ ⟨h3, p3⟩ (by rw [List.size_toArray]; omega) (by rw [List.size_toArray]; omega) (by rw [List.size_toArray]; omega) (by rw [List.size_toArray, List.size_toArray, List.size_toArray]; omega) fun h' tk hk => ⟨rfl, I.turnedL (t' := tk) (ch := [z, TI, TO, i1, i2, i3]) (fun c o hb q =>
      hk c o (fun q' => hb (by simp [q'])) (fun q' => hb (by simp [q'])) (fun q' => hb (by simp [q'])) (fun q' => hb (by simp [q'])) (fun q' => hb (by simp [q'])) q) hf⟩
  self := fun A i s Q E st h => wpAny_pyIter_zip st.1 h
def iZipQ3 (K : Frag) (ta : TA) : TI := fun σ H R => ta σ H fun vs H1 => ∃ a b c xs ys zs t1 t2 t3, vs = [.ref a, .ref b, .ref c] ∧ SqQ K t1 H1 a xs ∧ SqQ K t2 H1 b ys ∧ SqQ K t3 H1 c zs ∧ R (ItzQ3 K t1 t2 t3 a b c) H1
theorem w_zipQ3 {X : Cx} {K : Frag} {e e2 e3 : Expr} {ta : TA} {p pos tpos : Pos} {elts : List Expr} {kk : Nat} (hg : Gl X "zip") (hm : X.mg "zip" = none) (ha : PA X [e, e2, e3] ta)
    (hs : starEach [e, e2, e3] X.env = (false, eval e X.env) :: starEach [e2, e3] X.env := by rfl) (hpl : (backTo pos (starEach [e2, e3] X.env)).any (·.1) = false := by rfl) (hK : X.K = K := by rfl) : PI X (.Tuple elts kk tpos) (.Call (.Name "zip" p) [e, e2, e3] [] pos) (iZipQ3 K ta) := by
  subst hK
  refine ⟨fun pins s σ H R I h => ?_⟩
  refine Call_ (ld_blt I hg hm PyProof.Rows.boot_zip (PyProof.Rows.callWith_type1 (thn (ha.run pos pins s σ H _ I h) fun us s1 ⟨vs, H1, I1, r1, q1⟩ => ?_) hs hpl))
  obtain ⟨a, b, c0, xs, ys, zs, t1, t2, t3, rfl, hqx, hqy, hqz, q⟩ := q1
  cases r1 with
  | cons r rr =>
    cases rr with
    | cons r' rr =>
      cases rr with
      | cons r'' rr =>
        cases rr
        cases r
        cases r'
        cases r''
        obtain ⟨n, hn⟩ : ∃ n, n = s1.heap.objs.size := ⟨_, rfl⟩
        have fresh6 : ∀ c, c ∈ [s1.heap.objs.size + 5, s1.heap.objs.size + 3, s1.heap.objs.size + 4, s1.heap.objs.size, s1.heap.objs.size + 1, s1.heap.objs.size + 2] → FpOk X pins H1 c := fun c hcm => by
          have hle : s1.heap.objs.size ≤ c := by
            have e' : c = s1.heap.objs.size + 5 ∨ c = s1.heap.objs.size + 3 ∨ c = s1.heap.objs.size + 4 ∨ c = s1.heap.objs.size ∨ c = s1.heap.objs.size + 1 ∨ c = s1.heap.objs.size + 2 := by simpa using hcm
            rw [← hn] at e' ⊢
            have e2 : c = n + 5 ∨ c = n + 3 ∨ c = n + 4 ∨ c = n ∨ c = n + 1 ∨ c = n + 2 := e'
            rcases e2 with z | z | z | z | z | z <;> rw [z] <;> first | exact Nat.le_refl _ | exact Nat.le_add_right _ _
          exact I1.fpOk hle (I1.hok.fresh hle)
        obtain ⟨its, rv, p1⟩ := sqQ_seq I1 hqx
        obtain ⟨its2, rv2, p2⟩ := sqQ_seq I1 hqy
        obtain ⟨its3, rv3, p3⟩ := sqQ_seq I1 hqz
        obtain ⟨oa, ha1⟩ := p1.there
        obtain ⟨ob, hb1⟩ := p2.there
        obtain ⟨oc, hc1⟩ := p3.there
        have la : a < s1.heap.objs.size := Heap.lt_size ha1
        have lb : b < s1.heap.objs.size := Heap.lt_size hb1
        have lc : c0 < s1.heap.objs.size := Heap.lt_size hc1
        refine zip_begins3 (begins_q t1 a its.toArray) (begins_q t2 b its2.toArray) (begins_q t3 c0 its3.toArray) p1 p2 p3 fun h' hz hTI hTO h1 h2 h3 hsz hk => wpAny_pyIter_zip hz ?_
        have I2 : Inv X pins σ H1 { s1 with heap := h' } := I1.kept (t' := s1.toks) hk
        refine ⟨s1.heap.objs.size + 5, [s1.heap.objs.size + 5, s1.heap.objs.size + 3, s1.heap.objs.size + 4, s1.heap.objs.size, s1.heap.objs.size + 1, s1.heap.objs.size + 2], _, _, H1, rfl, I2, turn_zipQ3 (Nat.ne_of_lt la) (Nat.ne_of_lt (Nat.lt_succ_of_lt lb)) (Nat.ne_of_lt (Nat.lt_succ_of_lt (Nat.lt_succ_of_lt lc))) ?_, ⟨hz, hTI, ⟨_, _, _, hTO⟩, itAt_new h1, itAt_new h2, itAt_new h3⟩, fresh6, q⟩
        exact zip_sep3 (N := s1.heap.objs.size) (fp1 := [a]) (fp2 := [b]) (fp3 := [c0]) (fun x hx => by rw [List.mem_singleton.mp hx]; exact la) (fun x hx => by rw [List.mem_singleton.mp hx]; exact lb) (fun x hx => by rw [List.mem_singleton.mp hx]; exact lc)
def zip3D : List D → List D → List D → List D
  | x :: a, y :: b, z :: c => .tuple [x, y, z] :: zip3D a b c
  | _, _, _ => []
theorem zip3D_at : ∀ {a b c : List D} {i : Nat} {d : D}, (zip3D a b c)[i]? = some d → ∃ x y z, a[i]? = some x ∧ b[i]? = some y ∧ c[i]? = some z ∧ d = .tuple [x, y, z]
  | x :: a, y :: b, z :: c, 0, d, h => ⟨x, y, z, rfl, rfl, rfl, (Option.some.inj h).symm⟩
  | x :: a, y :: b, z :: c, i + 1, d, h => zip3D_at (a := a) (b := b) (c := c) (i := i) h
  | [], _, _, _, _, h => by simp [zip3D] at h
  | _ :: _, [], _, _, _, h => by simp [zip3D] at h
  | _ :: _, _ :: _, [], _, _, h => by simp [zip3D] at h
theorem zip3D_len : ∀ {a b c : List D}, (zip3D a b c).length = min (min a.length b.length) c.length
  | x :: a, y :: b, z :: c => by
    show (zip3D a b c).length + 1 = min (min (a.length + 1) (b.length + 1)) (c.length + 1)
    rw [zip3D_len]
    omega
  | [], _, _ => by simp [zip3D]
  | _ :: _, [], _ => by simp [zip3D]
  | _ :: _, _ :: _, [] => by simp [zip3D]
section
variable {K : Frag} {ρ : En} {ta tb tc : TE} {ds es fs : List D} {d1 d2 d3 : D}
theorem id_zipQ3 (h1 : SeqD d1 ds) (h2 : SeqD d2 es) (h3 : SeqD d3 fs) (ha : Ev K ta ρ d1) (hb : Ev K tb ρ d2) (hc : Ev K tc ρ d3) : Id K (iZipQ3 K (tCons ta (tCons tb (tCons tc tNil)))) ρ (zip3D ds es fs) := fun R0 H0 R σ H a Rr q =>
  ha R0 H0 R σ H a _ fun v R1 H1 g1 dv => hb R0 H0 R1 σ H1 (a.grow g1) _ fun w R2 H2 g2 dw => hc R0 H0 R2 σ H2 ((a.grow g1).grow g2) _ fun u R5 H5 g5 du => by
    obtain ⟨p, xs, t1, rfl, dx, kx⟩ := dp_seqQ (H := H1) h1 (dp_mono g5.rd _ _ (dp_mono g2.rd _ _ dv))
    obtain ⟨p', ys, t2, rfl, dy, ky⟩ := dp_seqQ (H := H2) h2 (dp_mono g5.rd _ _ dw)
    obtain ⟨p'', zs, t3, rfl, dz, kz⟩ := dp_seqQ (H := H5) h3 du
    have lx := dpa_len dx
    have ly := dpa_len dy
    have lz := dpa_len dz
    refine ⟨p, p', p'', xs, ys, zs, t1, t2, t3, rfl, kx H5 g5.sub, ky H5 g5.sub, kz H5 g5.sub, q _ R5 H5 ((g1.trans g2).trans g5) fun R3 H3 s3 sh => ⟨fun i d e => ?_, ?_⟩⟩
    · obtain ⟨x, y, z0, ex, ey, ez, rfl⟩ := zip3D_at e
      obtain ⟨v, f1, f2⟩ := dpa_get dx ex
      obtain ⟨w, f3, f4⟩ := dpa_get dy ey
      obtain ⟨u, f5, f6⟩ := dpa_get dz ez
      refine ⟨⟨xs, ys, zs, v, w, u, kx _ (s3.trans sh), ky _ (s3.trans sh), kz _ (s3.trans sh), f1, f3, f5⟩, fun z H4 yl => ?_⟩
      obtain ⟨T, v', w', u', rfl, hT, rfl, y1, y2, y3⟩ := yl
      have z1 := y1 xs (kx _ (s3.trans sh))
      have z2 := y2 ys (ky _ (s3.trans sh))
      have z3 := y3 zs (kz _ (s3.trans sh))
      rw [f1] at z1
      rw [f3] at z2
      rw [f5] at z3
      cases z1
      cases z2
      cases z3
      have g := Grow.alloc (o := .tup [v, w, u]) sh hT
      exact ⟨_, g, .tup (SqT.of upd_same) (.cons (dp_mono (s3.trans g.rd) _ _ f2) (.cons (dp_mono (s3.trans g.rd) _ _ f4) (.cons (dp_mono (s3.trans g.rd) _ _ f6) .nil)))⟩
    · refine ⟨xs, ys, zs, kx _ (s3.trans sh), ky _ (s3.trans sh), kz _ (s3.trans sh), ?_⟩
      rw [zip3D_len]
      omega
end
end Pu

set_option maxRecDepth 100000
set_option maxHeartbeats 1000000
namespace Pu
open PySem PySem.Spec PyProof.Rows L2
/-! ### the plain custom deals alike -/
theorem dl_one {c q : Rat} {g : List Rat} (h : Dl [c] g q) : g = [q] := by
  have hl := h.len
  have hs := h.sum
  match g, hl with
  | [x], _ =>
    have e : x + 0 = q := hs
    rw [← e, Rat.add_zero]
theorem lvls_scale {g l : Rat} (hg : g ≠ 0) : ∀ ws cs : List Rat, lvls (ws.map fun w => w / g) cs (l * g) = lvls ws cs l
  | [], _ => rfl
  | _ :: _, [] => rfl
  | w :: ws, c :: cs => by
    show lvl (w / g) c (l * g) :: lvls (ws.map fun w => w / g) cs (l * g) = lvl w c l :: lvls ws cs l
    rw [lvls_scale hg ws cs]
    have e : w / g * (l * g) = w * l := by
      rw [Rat.div_def]
      have : g⁻¹ * g = 1 := Rat.inv_mul_cancel g hg
      grind
    unfold lvl
    rw [e]
theorem evenD_scale {ws cs : List Rat} {q g : Rat} (hg : 0 < g) (h : WOk ws cs) (h0 : 0 ≤ q) (h1 : q ≤ qsum cs) (hne : cs ≠ []) : evenD (ws.map fun w => w / g) cs q = evenD ws cs q := by
  have h' : WOk (ws.map fun w => w / g) cs := ⟨by rw [List.length_map]; exact h.len, fun x hx => by
    obtain ⟨w, hw, rfl⟩ := List.mem_map.mp hx
    have := h.pos w hw
    rw [Rat.div_def]
    exact Rat.mul_pos this (Rat.inv_pos.mpr hg), h.nn⟩
  obtain ⟨l, l0, e, s⟩ := evenD_level h h0 h1 hne
  obtain ⟨l', l0', e', s'⟩ := evenD_level h' h0 h1 hne
  have hs := lvls_scale (l := l) (g := g) (by grind) ws cs
  rw [e', e, ← hs]
  refine lvls_uniq h'.pos h'.len ?_
  rw [← e', s', hs, ← e, s]
theorem qlist_div {ws : List Int} {g : Nat} (h0 : 0 < g) (h : ∀ w ∈ ws, (g : Int) ∣ w) : qlist (divW ws g) = (qlist ws).map fun w => w / ((g : Int) : Rat) := by
  unfold qlist divW
  rw [List.map_map, List.map_map]
  refine List.map_congr_left fun w hw => ?_
  obtain ⟨k, rfl⟩ := h w hw
  show (((g : Int) * k / (g : Int) : Int) : Rat) = (((g : Int) * k : Int) : Rat) / ((g : Int) : Rat)
  rw [Int.mul_ediv_cancel_left k (by omega)]
  have hg : ((g : Int) : Rat) ≠ 0 := by exact_mod_cast (by omega : (g : Int) ≠ 0)
  rw [Rat.intCast_mul, Rat.div_def, Rat.mul_comm ((g : Int) : Rat) (k : Rat), Rat.mul_assoc, Rat.mul_inv_cancel _ hg, Rat.mul_one]
theorem dealOf_red {y : Wy} {ws cs : List Int} {q : Rat} (hf : Fit y (qlist ws) (qlist cs)) (hw : y.wd = true → wOkW ws ∧ ws ≠ []) (h0 : 0 ≤ q) (h1 : q ≤ qsum (qlist cs)) : dealOf y (qlist (redW ws)) (qlist cs) q = dealOf y (qlist ws) (qlist cs) q := by
  by_cases hy : y.wd = true
  · obtain ⟨ho, hn⟩ := hw hy
    have hW := hf.ok hy
    have hg := gcdW_pos ho hn
    have e : qlist (redW ws) = (qlist ws).map fun w => w / (((gcdW ws : Nat) : Int) : Rat) := by
      have : redW ws = divW ws (gcdW ws) := by
        unfold redW
        rw [Nat.max_eq_right hg]
      rw [this]
      exact qlist_div hg fun w hw => gcdW_mem hw
    have hgp : (0 : Rat) < (((gcdW ws : Nat) : Int) : Rat) := by exact_mod_cast (by omega : (0 : Int) < ((gcdW ws : Nat) : Int))
    rw [e]
    cases y with
    | even => exact evenD_scale hgp hW h0 h1 hf.ne
    | lack =>
      show lackD _ (evenD _ _ _) = lackD _ (evenD _ _ _)
      rw [evenD_scale hgp hW (by grind) (by grind) hf.ne]
    | row => cases hy
    | back => cases hy
    | part => cases hy
    | half => cases hy
  · cases y with
    | even => exact absurd rfl hy
    | lack => exact absurd rfl hy
    | row => rfl
    | back => rfl
    | part => rfl
    | half => rfl
theorem fill_append : ∀ (cs ds : List Rat) (a q : Rat), fillD a (cs ++ ds) q = fillD a cs q ++ fillD (a + qsum cs) ds q
  | [], ds, a, q => by
    show fillD a ds q = fillD (a + 0) ds q
    rw [Rat.add_zero]
  | c :: cs, ds, a, q => by
    show clip c (q - a) :: fillD (a + c) (cs ++ ds) q = clip c (q - a) :: (fillD (a + c) cs q ++ fillD (a + (c + qsum cs)) ds q)
    rw [fill_append cs ds (a + c) q, Rat.add_assoc]
theorem dealL_append : ∀ (ks ls : List Cu) (gs hs : List Rat), ks.length = gs.length → Cu.dealL (ks ++ ls) (gs ++ hs) = Cu.dealL ks gs ++ Cu.dealL ls hs
  | [], ls, [], hs, _ => rfl
  | k :: ks, ls, g :: gs, hs, h => by
    show k.deal g ++ Cu.dealL (ks ++ ls) (gs ++ hs) = (k.deal g ++ Cu.dealL ks gs) ++ Cu.dealL ls hs
    rw [dealL_append ks ls gs hs (Nat.succ.inj h), List.append_assoc]
  | [], _, _ :: _, _, h => absurd h (by simp)
  | _ :: _, _, [], _, h => absurd h (by simp)
theorem fill_clip : ∀ (cs : List Rat) (a P S q : Rat), (∀ c ∈ cs, 0 ≤ c) → 0 ≤ P → P + qsum cs ≤ S → fillD P cs (clip S (q - a)) = fillD (a + P) cs q
  | [], _, _, _, _, _, _, _ => rfl
  | c :: cs, a, P, S, q, hn, h0, h1 => by
    have hc := hn c List.mem_cons_self
    have hr : 0 ≤ qsum cs := qsum_nonneg fun x hx => hn x (List.mem_cons_of_mem _ hx)
    have h1' : P + (c + qsum cs) ≤ S := h1
    show clip c (clip S (q - a) - P) :: fillD (P + c) cs (clip S (q - a)) = clip c (q - (a + P)) :: fillD (a + P + c) cs q
    rw [fill_clip cs a (P + c) S q (fun x hx => hn x (List.mem_cons_of_mem _ hx)) (by grind) (by grind), Rat.add_assoc]
    congr 1
    unfold clip
    grind
theorem sums_rat (ks : List Cu) : qsum (qlist (ks.map Cu.sum)) = (((Cu.claimsL ks).sum : Int) : Rat) := by
  rw [qlist_sum, show (ks.map Cu.sum).sum = (Cu.claimsL ks).sum from Cu.sums_sum ks]
theorem sum_nn_ok {k : Cu} (h : k.ok) : 0 ≤ k.sum := sum_nn fun c hc => (Cu.claims_b h c hc).1
theorem sums_nnq {ks : List Cu} (h : ∀ k ∈ ks, k.ok) : ∀ c ∈ qlist (ks.map Cu.sum), 0 ≤ c := fun c hc => by
  unfold qlist at hc
  rw [List.map_map] at hc
  obtain ⟨k, hk, rfl⟩ := List.mem_map.mp hc
  have := sum_nn_ok (h k hk)
  show (0 : Rat) ≤ ((k.sum : Int) : Rat)
  exact_mod_cast this
theorem melt1_rat (y : Wy) (k : Cu) : qsum (qlist ((melt1 y k).map Cu.sum)) = (k.sum : Rat) := by
  rw [sums_rat, melt1_claims]
  rfl
theorem deal_one (k : Cu) (g : Rat) : Cu.dealL [k] [g] = k.deal g := by
  show k.deal g ++ [] = k.deal g
  rw [List.append_nil]
theorem melt_row : ∀ (ks : List Cu) (a q : Rat), (∀ k ∈ ks, k.ok) → Cu.dealL (melt .row ks) (fillD a (qlist ((melt .row ks).map Cu.sum)) q) = Cu.dealL ks (fillD a (qlist (ks.map Cu.sum)) q)
  | [], _, _, _ => rfl
  | k :: r, a, q, h => by
    have hk := h k List.mem_cons_self
    rw [melt_cons, List.map_append, qlist_append, fill_append, dealL_append _ _ _ _ (by rw [fillD_len, qlist_len, List.length_map]), melt1_rat, melt_row r _ q fun x hx => h x (List.mem_cons_of_mem _ hx)]
    show _ = k.deal (clip (k.sum : Rat) (q - a)) ++ Cu.dealL r (fillD (a + (k.sum : Rat)) (qlist (r.map Cu.sum)) q)
    congr 1
    have one : Cu.dealL [k] (fillD a (qlist ([k].map Cu.sum)) q) = k.deal (clip (k.sum : Rat) (q - a)) := deal_one k _
    cases k with
    | boat c => exact one
    | knot z ws js =>
      rw [melt1_knot]
      by_cases hz : z = .row
      · rw [if_pos ⟨rfl, hz⟩]
        subst hz
        have hS : qsum (qlist (js.map Cu.sum)) = ((Cu.knot .row ws js).sum : Rat) := sums_rat js
        have hj : ∀ k ∈ js, k.ok := fun k hk' => Cu.ok_kid hk hk'
        have hnn := sums_nnq hj
        have hs0 : (0 : Rat) ≤ ((Cu.knot .row ws js).sum : Rat) := by exact_mod_cast sum_nn_ok hk
        show _ = Cu.dealL js (rowD (qlist (js.map Cu.sum)) (clip ((Cu.knot .row ws js).sum : Rat) (q - a)))
        rw [rowD_is hnn (clip_b hs0).1, fill_clip _ a 0 _ q hnn (by decide) (by rw [hS]; grind), Rat.add_zero]
      · rw [if_neg fun e => hz e.2]
        exact one
theorem melt_part : ∀ (ks : List Cu) (t : Rat), (∀ k ∈ ks, k.ok) → Cu.dealL (melt .part ks) ((qlist ((melt .part ks).map Cu.sum)).map (· * t)) = Cu.dealL ks ((qlist (ks.map Cu.sum)).map (· * t))
  | [], _, _ => rfl
  | k :: r, t, h => by
    have hk := h k List.mem_cons_self
    rw [melt_cons, List.map_append, qlist_append, List.map_append, dealL_append _ _ _ _ (by rw [List.length_map, qlist_len, List.length_map]), melt_part r t fun x hx => h x (List.mem_cons_of_mem _ hx)]
    show _ = k.deal ((k.sum : Rat) * t) ++ Cu.dealL r ((qlist (r.map Cu.sum)).map (· * t))
    congr 1
    have one : Cu.dealL [k] ((qlist ([k].map Cu.sum)).map (· * t)) = k.deal ((k.sum : Rat) * t) := deal_one k _
    cases k with
    | boat c => exact one
    | knot z ws js =>
      rw [melt1_knot]
      by_cases hz : z = .part
      · rw [if_pos ⟨rfl, hz⟩]
        subst hz
        have hS : qsum (qlist (js.map Cu.sum)) = ((Cu.knot .part ws js).sum : Rat) := sums_rat js
        have hj : ∀ k ∈ js, k.ok := fun k hk' => Cu.ok_kid hk hk'
        have hnn := sums_nnq hj
        show _ = Cu.dealL js (partD (qlist (js.map Cu.sum)) (((Cu.knot .part ws js).sum : Rat) * t))
        rw [partD_map hnn]
        refine congrArg (Cu.dealL js) (List.map_congr_left fun c hc => ?_)
        by_cases hz : qsum (qlist (js.map Cu.sum)) = 0
        · rw [qsum_zero hnn hz c hc, Rat.zero_mul, Rat.zero_mul]
        · rw [← hS, Rat.div_def, Rat.mul_comm (qsum _) t, Rat.mul_assoc, Rat.mul_inv_cancel _ hz, Rat.mul_one]
      · rw [if_neg fun e => hz e.2]
        exact one
theorem tie_row {ws : List Int} {ks : List Cu} {q : Rat} (h : (Cu.knot .row ws ks).ok) (h0 : 0 ≤ q) (h1 : q ≤ ((Cu.knot .row ws ks).sum : Rat)) (hm : ks.length ≠ 1) : (Cu.knot .row (redW ws) (melt .row ks)).deal q = (Cu.knot .row ws ks).deal q := by
  have hk : ∀ k ∈ ks, k.ok := fun k hk => Cu.ok_kid h hk
  have hmk := (melt_ok (y := .row) hk).1
  show Cu.dealL _ (rowD _ q) = Cu.dealL _ (rowD _ q)
  rw [rowD_is (sums_nnq hmk) h0, rowD_is (sums_nnq hk) h0]
  exact melt_row ks 0 q hk
theorem tie_deal {y : Wy} {ws : List Int} {ks : List Cu} {q : Rat} (h : (Cu.knot y ws ks).ok) (hl : (Cu.claimsL ks).length ≤ 12) (h0 : 0 ≤ q) (h1 : q ≤ ((Cu.knot y ws ks).sum : Rat)) : (tie y ws ks).deal q = (Cu.knot y ws ks).deal q := by
  have hk : ∀ k ∈ ks, k.ok := fun k hk => Cu.ok_kid h hk
  have hf := fit_knot h
  have h1' := sums_le h1
  by_cases hm : ks.length = 1
  · obtain ⟨k, rfl⟩ := List.length_eq_one_iff.mp hm
    show k.deal q = Cu.dealL [k] (dealOf y (qlist ws) (qlist [k.sum]) q)
    have := dl_one (dealOf_ok hf h0 h1')
    rw [show dealOf y (qlist ws) (qlist [k.sum]) q = [q] from this, deal_one]
  · rw [tie_more hm]
    have hmk := (melt_ok (y := y) hk).1
    have hS : qsum (qlist ((melt y ks).map Cu.sum)) = qsum (qlist (ks.map Cu.sum)) := by rw [sums_rat, sums_rat, melt_claims]
    by_cases hy : y.ml = true
    · cases y with
      | even => cases hy
      | lack => cases hy
      | half => cases hy
      | row => exact tie_row h h0 h1 hm
      | part =>
        show Cu.dealL _ (partD _ q) = Cu.dealL _ (partD _ q)
        rw [partD_map (sums_nnq hmk), partD_map (sums_nnq hk), hS]
        exact melt_part ks _ hk
      | back =>
        have h2 := tie_all (y := .back) (ws := ws) hk h.1.1 h.1.2.2 hl
        rw [tie_more hm] at h2
        obtain ⟨o2, c2, _⟩ := h2
        have s2 : (Cu.knot .back (redW ws) (melt .back ks)).sum = (Cu.knot .back ws ks).sum := by
          unfold Cu.sum
          rw [c2]
          rfl
        have hc := con_ok h
        have e1 := deal_con h h0 h1
        have e2 := deal_con o2 h0 (by rw [s2]; exact h1)
        have hcl : (Cu.conL ks).length ≠ 1 := by rw [Cu.conL_map, List.length_map]; exact hm
        have hsum := con_sum (.knot .back ws ks)
        have e3 : (Cu.knot .row (redW ws) (melt .row (Cu.conL ks))).deal (((Cu.knot .back ws ks).sum : Rat) - q) = (Cu.knot .row ws (Cu.conL ks)).deal (((Cu.knot .back ws ks).sum : Rat) - q) := tie_row hc (by grind) (by
          rw [show (Cu.knot .row ws (Cu.conL ks)).sum = (Cu.knot .back ws ks).sum from hsum]
          grind) hcl
        have e4 : (Cu.knot .back (redW ws) (melt .back ks)).con = Cu.knot .row (redW ws) (melt .row (Cu.conL ks)) := by
          show Cu.knot .row (redW ws) (Cu.conL (melt .back ks)) = _
          rw [show Cu.conL (melt .back ks) = melt .row (Cu.conL ks) from (melt_con .back ks).symm]
        rw [s2, e4, e3] at e2
        have e5 : lackD (qlist (Cu.knot .back (redW ws) (melt .back ks)).claims) ((Cu.knot .back (redW ws) (melt .back ks)).deal q) = lackD (qlist (Cu.knot .back ws ks).claims) ((Cu.knot .back ws ks).deal q) := e2.symm.trans e1
        have c3 : (Cu.knot .back (redW ws) (melt .back ks)).claims = (Cu.knot .back ws ks).claims := c2
        have l1 : ((Cu.knot .back ws ks).deal q).length = (qlist (Cu.knot .back ws ks).claims).length := by rw [deal_len h h0 h1, qlist_len]
        have l2 : ((Cu.knot .back (redW ws) (melt .back ks)).deal q).length = (qlist (Cu.knot .back ws ks).claims).length := by rw [deal_len o2 h0 (by rw [s2]; exact h1), qlist_len, c3]
        rw [c3] at e5
        have e6 := congrArg (lackD (qlist (Cu.knot .back ws ks).claims)) e5
        rwa [lackD_lackD l1, lackD_lackD l2] at e6
    · have hy' : y.ml = false := by simpa using hy
      rw [melt_no hy']
      show Cu.dealL ks _ = Cu.dealL ks _
      rw [dealOf_red hf (fun hw => ?_) h0 h1']
      have := wfit_iff.mp h.1.2.2
      rw [if_pos hw] at this
      refine ⟨this.2, fun e => h.1.1 ?_⟩
      rw [e] at this
      exact List.length_eq_zero_iff.mp this.1.symm
theorem dealL_map (f : Cu → Cu) : ∀ (ks : List Cu) (gs : List Rat), (∀ (i : Nat) (k : Cu) (g : Rat), ks[i]? = some k → gs[i]? = some g → (f k).deal g = k.deal g) → Cu.dealL (ks.map f) gs = Cu.dealL ks gs
  | [], _, _ => rfl
  | _ :: _, [], _ => rfl
  | k :: r, g :: gs, h => by
    show (f k).deal g ++ Cu.dealL (r.map f) gs = k.deal g ++ Cu.dealL r gs
    rw [h 0 k g rfl rfl, dealL_map f r gs fun i x y hx hy => h (i + 1) x y (by simpa using hx) (by simpa using hy)]
theorem deal_plain : ∀ {u : Cu}, u.ok → u.claims.length ≤ 12 → ∀ {q : Rat}, 0 ≤ q → q ≤ (u.sum : Rat) → u.plain.deal q = u.deal q := fun {u} => Cu.ind (P := fun u => u.ok → u.claims.length ≤ 12 → ∀ {q : Rat}, 0 ≤ q → q ≤ (u.sum : Rat) → u.plain.deal q = u.deal q) (fun c _ _ q _ _ => rfl) (fun y ws ks ih h hl q h0 h1 => by
    have hk : ∀ k ∈ ks, k.ok := fun k hk => Cu.ok_kid h hk
    have hl' : (Cu.claimsL ks).length ≤ 12 := hl
    have hkl : ∀ k ∈ ks, k.claims.length ≤ 12 := fun k hk => Nat.le_trans (Cu.claimsL_mem hk) hl'
    have hpc : ∀ k ∈ ks, k.plain.claims = k.claims := fun k hk' => (plain_all (hk k hk') (hkl k hk')).2.1
    have hcl := plainL_claims hpc
    have hp : ∀ k ∈ Cu.plainL ks, k.ok := fun x hx => by
      rw [Cu.plainL_map] at hx
      obtain ⟨k, hk', rfl⟩ := List.mem_map.mp hx
      exact (plain_all (hk k hk') (hkl k hk')).1
    have hs : (Cu.plainL ks).map Cu.sum = ks.map Cu.sum := by
      rw [Cu.plainL_map, List.map_map]
      refine List.map_congr_left fun k hk' => ?_
      show k.plain.claims.sum = k.claims.sum
      rw [hpc k hk']
    have ho : (Cu.knot y ws (Cu.plainL ks)).ok := ⟨⟨fun e => h.1.1 (by
      have := congrArg List.length e
      rw [Cu.plainL_len] at this
      exact List.length_eq_zero_iff.mp this), by rw [Cu.plainL_len]; exact h.1.2.1, by rw [Cu.plainL_len]; exact h.1.2.2⟩, Cu.okL_all.mpr hp⟩
    have e := tie_deal ho (by rw [hcl]; exact hl') h0 (by
      rw [show (Cu.knot y ws (Cu.plainL ks)).sum = (Cu.knot y ws ks).sum by
        show (Cu.claimsL (Cu.plainL ks)).sum = (Cu.claimsL ks).sum
        rw [hcl]]
      exact h1)
    show (tie y ws (Cu.plainL ks)).deal q = Cu.dealL ks (dealOf y (qlist ws) (qlist (ks.map Cu.sum)) q)
    rw [e]
    show Cu.dealL (Cu.plainL ks) (dealOf y (qlist ws) (qlist ((Cu.plainL ks).map Cu.sum)) q) = _
    rw [hs, Cu.plainL_map]
    have hd := dealOf_ok (fit_knot h) h0 (sums_le h1)
    refine dealL_map _ ks _ fun i k g hi hg => ?_
    have hm := List.mem_of_getElem? hi
    have hb := hd.get hg (qlist_at (by rw [List.getElem?_map, hi]; rfl))
    exact ih k hm (hk k hm) (hkl k hm) hb.1 hb.2) u
theorem plain_lines {u : Cu} (h : u.Ok) : u.plain.lines = u.lines := lines_uniq h.plain h (plain_all h.ok h.few).2.1 fun x h0 h1 => by
  have hs : u.plain.sum = u.sum := by
    unfold Cu.sum
    rw [(plain_all h.ok h.few).2.1]
  rw [hs] at h1
  exact deal_plain h.ok h.few h0 h1
end Pu

set_option maxRecDepth 100000
set_option maxHeartbeats 1000000
namespace Pu
open PySem PySem.Spec PyProof.Rows L2
/-! ### a loop over an own list that does not change in it -/
mutual
/-- no list stands in it -/
def noL : D → Bool
  | .none | .bool _ | .int _ | .str _ => true
  | .tuple ds => noLs ds
  | .list _ | .dict _ => false
def noLs : List D → Bool
  | [] => true
  | d :: r => noL d && noLs r
end
theorem noLs_all : ∀ {ds : List D}, (∀ d ∈ ds, noL d = true) → noLs ds = true
  | [], _ => rfl
  | d :: r, h => by
    show (noL d && noLs r) = true
    rw [h d List.mem_cons_self, noLs_all fun x hx => h x (List.mem_cons_of_mem _ hx)]
    rfl
theorem noL_fr (q : Rat) : noL (fr q) = true := rfl
theorem noL_tup {ds : List D} (h : ∀ d ∈ ds, noL d = true) : noL (.tuple ds) = true := noLs_all h
theorem noL_ints (ns : List Int) : ∀ d ∈ ns.map PyData.int, noL d = true := fun d hd => by
  obtain ⟨n, _, rfl⟩ := List.mem_map.mp hd
  rfl
theorem noL_pt (p : Pt) : noL (pt p) = true := rfl
theorem noL_ln (W : List Pt) : noL (lnD W) = true := noL_tup fun d hd => by
  obtain ⟨p, _, rfl⟩ := List.mem_map.mp (show d ∈ W.map pt from hd)
  exact noL_pt p
theorem noL_cu : ∀ u : Cu, noL u.d = true := Cu.ind (fun c => rfl) fun y ws ks ih => by
  rw [Cu.at_knot]
  refine noL_tup fun d hd => ?_
  rcases List.mem_cons.mp hd with rfl | hd
  · rfl
  rcases List.mem_cons.mp hd with rfl | hd
  · exact noL_tup (noL_ints ws)
  obtain rfl := List.mem_singleton.mp hd
  refine noL_tup fun d hd => ?_
  obtain ⟨k, hk, rfl⟩ := List.mem_map.mp hd
  exact ih k hk
section
variable {K : Frag} {R : Hp} {p : Addr} {vs : List V}
theorem sqt_less {a : Addr} {xs : List V} (hp : R p = some (.lst vs)) (h : SqT K R a xs) : SqT K (less1 R p) a xs := by
  have ne : ∀ {b : Addr} {x : HO}, R b = some x → (∀ zs, x ≠ .lst zs) → less1 R p b = some x := fun {b x} e n => by
    rw [less1_ne (fun z => by rw [z, hp] at e; exact n _ (Option.some.inj e).symm)]
    exact e
  rcases h with (h | ⟨o, h⟩) | h
  · exact .inl (.inl (ne h fun zs z => nomatch z))
  · exact .inl (.inr ⟨o, ne h fun zs z => nomatch z⟩)
  · exact .inr h
mutual
theorem dp_lessN (hp : R p = some (.lst vs)) : ∀ (d : PyData) (v : V), noL d = true → Dp K R v d → Dp K (less1 R p) v d
  | .none, _, _, h => by cases h; exact .non
  | .bool b, _, _, h => by cases h; exact .bl b
  | .int i, _, _, h => by cases h; exact .int i
  | .str x, _, _, h => by cases h; exact .str x
  | .list ds, _, n, _ => by cases n
  | .tuple ds, _, n, h => by
    cases h with
    | tup hs ha => exact .tup (sqt_less hp hs) (dpa_lessN hp ds _ n ha)
  | .dict _, _, n, _ => by cases n
theorem dpa_lessN (hp : R p = some (.lst vs)) : ∀ (ds : List PyData) (ws : List V), noLs ds = true → DpAll K R ws ds → DpAll K (less1 R p) ws ds
  | [], _, _, h => by cases h; exact .nil
  | d :: ds, _, n, h => by
    have n' : (noL d && noLs ds) = true := n
    rw [Bool.and_eq_true] at n'
    cases h with
    | cons h1 h2 => exact .cons (dp_lessN hp d _ n'.1 h1) (dpa_lessN hp ds _ n'.2 h2)
end
end
/-- no list of values can be read as both -/
def Apart (ds es : List D) : Prop := ∀ (K : Frag) (R : Hp) (vs : List V), DpAll K R vs ds → DpAll K R vs es → False
theorem apart_len {ds es : List D} (h : ds.length ≠ es.length) : Apart ds es := fun K R vs a b => h ((dpa_len a).symm.trans (dpa_len b))
theorem apart_ints {ds : List D} {ns : List Int} (h : ∃ xs r, ds = .tuple xs :: r) : Apart ds (ns.map PyData.int) := fun K R vs a b => by
  obtain ⟨xs, r, rfl⟩ := h
  cases a with
  | cons h1 h2 =>
    cases h1 with
    | tup hs ha =>
      cases ns with
      | nil => cases b
      | cons n ns =>
        cases b with
        | cons g1 g2 => cases g1
/-- what is kept of a slot -/
def Kept (ds : List D) : Sl → Sl → Prop
  | _, .un => True
  | .raw v, .raw w => w = v
  | .val d, .val e => e = d ∧ (noL d = true ∨ ∃ es, d = .list es ∧ (∀ x ∈ es, noL x = true) ∧ Apart ds es)
  | .own d, .own e => e = d ∧ ∀ x ∈ d, noL x = true
  | _, _ => False
def KeptR (ds : List D) : En → En → Prop
  | [], [] => True
  | s :: r, t :: u => Kept ds s t ∧ KeptR ds r u
  | _, _ => False
def KeptL (ds : List D) : Nat → En → En → Prop
  | 0, _ :: r, t :: u => t = .own ds ∧ KeptR ds r u
  | n + 1, s :: r, t :: u => Kept ds s t ∧ KeptL ds n r u
  | _, _, _ => False
theorem kept_val {ds : List D} {d : D} (h : noL d = true) : Kept ds (.val d) (.val d) := ⟨rfl, .inl h⟩
theorem kept_ints {ds : List D} {ns : List Int} (h : ∃ xs r, ds = .tuple xs :: r) : Kept ds (.val (.list (ns.map PyData.int))) (.val (.list (ns.map PyData.int))) := ⟨rfl, .inr ⟨_, rfl, noL_ints ns, apart_ints h⟩⟩
theorem kept_un {ds : List D} {s : Sl} : Kept ds s .un := by
  cases s <;> exact trivial
theorem keptR_at {ds : List D} : ∀ {ρ ρ' : En}, KeptR ds ρ ρ' → ρ'.length = ρ.length ∧ ∀ (j : Nat) (t : Sl), ρ'[j]? = some t → ∃ s, ρ[j]? = some s ∧ Kept ds s t
  | [], [], _ => ⟨rfl, fun j t h => by simp at h⟩
  | s :: r, t :: u, h => by
    obtain ⟨h1, h2⟩ := h
    obtain ⟨l, q⟩ := keptR_at h2
    refine ⟨by simp [l], fun j x e => ?_⟩
    cases j with
    | zero => exact ⟨s, rfl, by rw [← (Option.some.inj (show some t = some x from e))]; exact h1⟩
    | succ j => exact q j x (by simpa using e)
  | [], _ :: _, h => h.elim
  | _ :: _, [], h => h.elim
theorem keptL_at {ds : List D} : ∀ {i : Nat} {ρ ρ' : En}, KeptL ds i ρ ρ' → ρ'.length = ρ.length ∧ ρ'[i]? = some (.own ds) ∧ ∀ (j : Nat) (t : Sl), j ≠ i → ρ'[j]? = some t → ∃ s, ρ[j]? = some s ∧ Kept ds s t
  | 0, s :: r, t :: u, h => by
    obtain ⟨rfl, h2⟩ := h
    obtain ⟨l, q⟩ := keptR_at h2
    refine ⟨by simp [l], rfl, fun j x n e => ?_⟩
    cases j with
    | zero => exact absurd rfl n
    | succ j => exact q j x (by simpa using e)
  | n + 1, s :: r, t :: u, h => by
    obtain ⟨h1, h2⟩ := h
    obtain ⟨l, o, q⟩ := keptL_at h2
    refine ⟨by simp [l], by simpa using o, fun j x m e => ?_⟩
    cases j with
    | zero => exact ⟨s, rfl, by rw [← (Option.some.inj (show some t = some x from e))]; exact h1⟩
    | succ j => exact q j x (by omega) (by simpa using e)
  | 0, [], _, h => by cases h
  | 0, _ :: _, [], h => by cases h
  | _ + 1, [], _, h => by cases h
  | _ + 1, _ :: _, [], h => by cases h
section
variable {K : Frag} {R0 H0 R H : Hp} {ρ ρ' : En} {σ : L2.St}
theorem At.to_raw (a : At K R0 H0 R ρ σ H) {i : Nat} {v : V} (h : σ[i]? = some (some v)) : At K R0 H0 R (ρ.set i (.raw v)) σ H := by
  have z := a.set_raw (i := i) (v := v)
  have e : σ.set i (some v) = σ := by
    apply List.ext_getElem?
    intro n
    by_cases hn : i = n
    · subst hn
      rw [List.getElem?_set_self (List.getElem?_eq_some_iff.mp h).1, h]
    · rw [List.getElem?_set_ne hn]
  rw [e] at z
  exact z
/-- the list is one's own again -/
theorem At.unlend {R2 : Hp} {p : Addr} {vs : List V} {ds : List D} {i : Nat} (a : At K R0 H0 R2 ρ σ H) (hr : ρ[i]? = some (.raw (.ref p))) (h0 : H0 p = none) (r0 : R0 p = none) (hp : R2 p = some (.lst vs)) (hd : DpAll K (less1 R2 p) vs ds) (hk : KeptL ds i ρ ρ') : At K R0 H0 (less1 R2 p) ρ' σ H := by
  obtain ⟨hl, ho, hk⟩ := keptL_at hk
  have sp : σ[i]? = some (some (.ref p)) := a.raw i _ hr
  have hpH := a.gr.sub p _ hp
  have ownp : ∀ (j : Nat) (es : List D), j ≠ i → ρ'[j]? = some (.own es) → ρ[j]? = some (.own es) ∧ (∀ x ∈ es, noL x = true) := fun j es n e => by
    obtain ⟨s, h1, h2⟩ := hk j _ n e
    cases s with
    | own d => obtain ⟨rfl, h3⟩ := h2; exact ⟨h1, h3⟩
    | un => exact h2.elim
    | val d => exact h2.elim
    | raw v => exact h2.elim
  have notp : ∀ (j : Nat) (es : List D), j ≠ i → ρ'[j]? = some (.own es) → σ[j]? ≠ some (some (.ref p)) := fun j es n e z => by
    obtain ⟨h1, _⟩ := ownp j es n e
    obtain ⟨p2, vs2, q1, q2, q3, q4, q5⟩ := a.own j es h1
    rw [z] at q1
    cases q1
    rw [hp] at q4
    cases q4
  refine ⟨⟨fun b o e => ?_, a.gr.hp, fun b o e => ?_, fun b e n => ?_⟩, by rw [a.len, hl], fun j d e => ?_, fun j es e => ?_, fun j v e => ?_, fun j k b es fs hjk e1 e2 s1 s2 => ?_⟩
  · rw [less1_ne (fun z => by rw [z, r0] at e; cases e)]
    exact a.gr.rd b o e
  · unfold less1 at e
    split at e
    · cases e
    · exact a.gr.sub b o e
  · unfold less1 at n
    split at n
    · exact absurd rfl n
    · exact a.gr.new b e n
  · by_cases hj : j = i
    · rw [hj, ho] at e
      cases e
    · obtain ⟨s, h1, h2⟩ := hk j _ hj e
      cases s with
      | val d' =>
        obtain ⟨rfl, h3⟩ := h2
        obtain ⟨v, g1, g2⟩ := a.val j _ h1
        refine ⟨v, g1, ?_⟩
        rcases h3 with h3 | ⟨es, rfl, h4, h5⟩
        · exact dp_lessN hp _ _ h3 g2
        · cases g2 with
          | @lst b xs _ hs ha =>
            have key : SqL K (less1 R2 p) b xs := by
              rcases hs with (h | ⟨o, h⟩) | h
              · refine .inl (.inl ?_)
                rw [less1_ne (fun z => ?_)]
                · exact h
                · subst z
                  rw [hp] at h
                  cases h
                  exact h5 _ _ _ hd (dpa_lessN hp _ _ (noLs_all h4) ha)
              · refine .inl (.inr ⟨o, ?_⟩)
                rw [less1_ne (fun z => by rw [z, hp] at h; cases h)]
                exact h
              · exact .inr h
            exact .lst key (dpa_lessN hp _ _ (noLs_all h4) ha)
      | un => exact h2.elim
      | own d => exact h2.elim
      | raw v => exact h2.elim
  · by_cases hj : j = i
    · subst hj
      rw [ho] at e
      cases e
      exact ⟨p, vs, sp, hpH, hd, by unfold less1; rw [if_pos rfl], h0⟩
    · obtain ⟨h1, h3⟩ := ownp j es hj e
      obtain ⟨p2, vs2, q1, q2, q3, q4, q5⟩ := a.own j es h1
      have np : p2 ≠ p := fun z => by rw [z, hp] at q4; cases q4
      exact ⟨p2, vs2, q1, q2, dpa_lessN hp _ _ (noLs_all h3) q3, by rw [less1_ne np]; exact q4, q5⟩
  · by_cases hj : j = i
    · rw [hj, ho] at e
      cases e
    · obtain ⟨s, h1, h2⟩ := hk j _ hj e
      cases s with
      | raw w =>
        have e2 : v = w := h2
        rw [e2]
        exact a.raw j _ h1
      | un => exact h2.elim
      | own d => exact h2.elim
      | val v => exact h2.elim
  · by_cases hj : j = i
    · subst hj
      rw [sp] at s1
      cases s1
      exact notp k fs (fun z => hjk z.symm) e2 s2
    · by_cases hk' : k = i
      · subst hk'
        rw [sp] at s2
        cases s2
        exact notp j es hj e1 s1
      · exact a.apart j k b es fs hjk (ownp j es hj e1).1 (ownp k fs hk' e2).1 s1 s2
end
section
variable {K : Frag} {R0 H0 R H : Hp} {ρ : En} {σ : L2.St}
theorem At.peek2 (a : At K R0 H0 R ρ σ H) {i : Nat} {ds : List D} (e : ρ[i]? = some (.own ds)) : ∃ p vs, σ[i]? = some (some (.ref p)) ∧ DpAll K R vs ds ∧ H p = some (.lst vs) ∧ R p = none ∧ H0 p = none ∧ At K R0 H0 (upd R p (.lst vs)) (ρ.set i (.val (.list ds))) σ H := by
  obtain ⟨p, vs, h1, h2, h3, h4, h5⟩ := a.own i ds e
  have hl : i < ρ.length := (List.getElem?_eq_some_iff.mp e).1
  have rr : Same R (upd R p (.lst vs)) := same_upd h4
  refine ⟨p, vs, h1, h3, h2, h4, h5, a.gr.show_ h5 h2, by rw [List.length_set]; exact a.len, fun j d q => ?_, fun j es q => ?_, fun j v q => ?_, fun j k b es fs hjk q1 q2 s1 => ?_⟩
  · by_cases hj : i = j
    · subst hj
      rw [List.getElem?_set_self hl] at q
      cases q
      exact ⟨_, h1, .lst (SqL.of upd_same) (dpa_mono rr _ _ h3)⟩
    · rw [List.getElem?_set_ne hj] at q
      obtain ⟨v, g1, g2⟩ := a.val j d q
      exact ⟨v, g1, dp_mono rr _ _ g2⟩
  · have hj : i ≠ j := fun z => by
      subst z
      rw [List.getElem?_set_self hl] at q
      cases q
    rw [List.getElem?_set_ne hj] at q
    obtain ⟨p2, vs2, g1, g2, g3, g4, g5⟩ := a.own j es q
    have np : p2 ≠ p := fun z => a.apart i j p ds es hj e q h1 (by rw [← z]; exact g1)
    exact ⟨p2, vs2, g1, g2, dpa_mono rr _ _ g3, by rw [upd_ne np]; exact g4, g5⟩
  · have hj : i ≠ j := fun z => by
      subst z
      rw [List.getElem?_set_self hl] at q
      cases q
    rw [List.getElem?_set_ne hj] at q
    exact a.raw j v q
  · have n1 : i ≠ j := fun z => by
      subst z
      rw [List.getElem?_set_self hl] at q1; cases q1
    have n2 : i ≠ k := fun z => by
      subst z
      rw [List.getElem?_set_self hl] at q2; cases q2
    rw [List.getElem?_set_ne n1] at q1
    rw [List.getElem?_set_ne n2] at q2
    exact a.apart j k b es fs hjk q1 q2 s1
end
section
variable {K : Frag} {ρ : En} {W : WX} {ex : Value → En → Prop} {k : Ko} {g : TG} {tb : TS} {ds es : List D} {i : Nat}
/-- slots whose values are known only as such, for a while -/
def rawsE (f : Nat → V) : List (Nat × D) → En → En
  | [], ρ => ρ
  | x :: r, ρ => (rawsE f r ρ).set x.1 (.raw (f x.1))
def valsE : List (Nat × D) → En → En
  | [], ρ => ρ
  | x :: r, ρ => (valsE r ρ).set x.1 (.val x.2)
theorem At.to_val {R0 H0 R H : Hp} {σ : L2.St} (a : At K R0 H0 R ρ σ H) {j : Nat} {v : V} {d : D} (h : σ[j]? = some (some v)) (hd : Dp K R v d) : At K R0 H0 R (ρ.set j (.val d)) σ H := by
  have z := a.set (i := j) hd
  have e : σ.set j (some v) = σ := by
    apply List.ext_getElem?
    intro n
    by_cases hn : j = n
    · subst hn
      rw [List.getElem?_set_self (List.getElem?_eq_some_iff.mp h).1, h]
    · rw [List.getElem?_set_ne hn]
  rw [e] at z
  exact z
theorem At.raws {R0 H0 R H : Hp} {σ : L2.St} {f : Nat → V} (a : At K R0 H0 R ρ σ H) : ∀ fz : List (Nat × D), (∀ x ∈ fz, σ[x.1]? = some (some (f x.1))) → At K R0 H0 R (rawsE f fz ρ) σ H
  | [], _ => a
  | x :: r, h => (At.raws a r fun y hy => h y (List.mem_cons_of_mem _ hy)).to_raw (h x List.mem_cons_self)
theorem At.vals {R0 H0 R H : Hp} {σ : L2.St} {f : Nat → V} (a : At K R0 H0 R ρ σ H) : ∀ fz : List (Nat × D), (∀ x ∈ fz, σ[x.1]? = some (some (f x.1)) ∧ Dp K R (f x.1) x.2) → At K R0 H0 R (valsE fz ρ) σ H
  | [], _ => a
  | x :: r, h => (At.vals a r fun y hy => h y (List.mem_cons_of_mem _ hy)).to_val (h x List.mem_cons_self).1 (h x List.mem_cons_self).2
/-- a loop over what an own list tells; in the loop the list's slot is a bare value, and so are the slots fz, which come back as they were -/
theorem sd_forO {wi : TI} (fz : List (Nat × D)) (Inv : Nat → V → (Nat → V) → En → Prop) (e : ρ[i]? = some (.own ds)) (hz : ∀ x ∈ fz, ρ[x.1]? = some (.val x.2)) (hI : Id K wi (ρ.set i (.val (.list ds))) es) (h0 : ∀ v f, Inv 0 v f (rawsE f fz (ρ.set i (.raw v)))) (hr : ∀ j v f ρ', Inv j v f ρ' → ρ'[i]? = some (.raw v) ∧ ∀ x ∈ fz, ρ'[x.1]? = some (.raw (f x.1)))
    (hs : ∀ j v f d ρ', es[j]? = some d → Inv j v f ρ' → ∃ ρ2, Gd K g d ρ' ρ2 ∧ Sd K W ex tb ρ2 { k with nx := Inv (j + 1) v f, ct := Inv (j + 1) v f, bk := fun _ => False }) (hd : ∀ v f ρ', Inv es.length v f ρ' → ∃ ρ2, KeptL ds i ρ' ρ2 ∧ k.nx (valsE fz ρ2)) : Sd K W ex (tFor wi g tb) ρ k := fun R0 H0 ok R σ H a D m => by
  obtain ⟨p, vs, sp, hdd, hp, rp, h0p, aP⟩ := a.peek2 e
  have r0 : R0 p = none := by
    cases q : R0 p with
    | none => rfl
    | some o =>
      have := a.gr.rd p o q
      rw [rp] at this
      cases this
  obtain ⟨f, hf⟩ : ∃ f : Nat → V, f = fun j => match σ[j]? with | some (some w) => w | _ => .non := ⟨_, rfl⟩
  have hfz : ∀ x ∈ fz, σ[x.1]? = some (some (f x.1)) ∧ Dp K R (f x.1) x.2 := fun x hx => by
    obtain ⟨w, g1, g2⟩ := a.val _ _ (hz x hx)
    rw [hf]
    simp only [g1]
    exact ⟨trivial, g2⟩
  refine hI R0 H0 _ σ H aP _ fun J R' H' gr yl => ?_
  have a1 : At K R0 H0 R' (rawsE f fz (ρ.set i (.raw (.ref p)))) σ H' := by
    have := (aP.grow gr).to_raw (i := i) sp
    rw [List.set_set] at this
    exact this.raws fz fun x hx => (hfz x hx).1
  refine ⟨fun j n σ' H2 => n = es.length - j ∧ j ≤ es.length ∧ ∃ ρ' R2, Inv j (.ref p) f ρ' ∧ At K R0 H0 R2 ρ' σ' H2 ∧ Same R' R2, ⟨es.length, by simp, Nat.zero_le _, _, R', h0 _ _, a1, Same.refl _⟩, ?_⟩
  rintro j n σ' H2 ⟨rfl, hj, ρ', R2, w, a2, s2⟩
  obtain ⟨y1, y2⟩ := yl R2 H2 s2 a2.gr.sub
  by_cases hlt : j < es.length
  · obtain ⟨go, yld⟩ := y1 j es[j] (List.getElem?_eq_getElem hlt)
    refine .inr ⟨go, fun σ3 H3 => ∃ ρ3 R3, Inv (j + 1) (.ref p) f ρ3 ∧ At K R0 H0 R3 ρ3 σ3 H3 ∧ Same R' R3, fun σ3 H3 ⟨ρ3, R3, w3, a3, s3⟩ => ⟨es.length - (j + 1), by omega, rfl, hlt, ρ3, R3, w3, a3, s3⟩, fun x H3 y => ?_⟩
    obtain ⟨R3, g3, dx⟩ := yld x H3 y
    obtain ⟨ρ2, hg, hb⟩ := hs j (.ref p) f es[j] ρ' (List.getElem?_eq_getElem hlt) w
    have a3 := a2.grow g3
    refine hg R0 H0 R3 x σ' H3 a3 dx _ fun σ4 a4 => ?_
    have G := a3.gr
    refine hb R3 H0 (ok.back G) R3 σ4 H3 (a4.later G (Same.refl _)) _ ⟨fun r R5 σ5 H5 q a5 => ⟨r, R5, q, a5.back G, (s2.trans g3.rd).trans a5.gr.rd⟩, (m.back G).rt, (m.back G).rl, fun _ _ _ _ q _ => q.elim, fun r R5 σ5 H5 q a5 => ⟨r, R5, q, a5.back G, (s2.trans g3.rd).trans a5.gr.rd⟩⟩
  · have ej : j = es.length := by omega
    subst ej
    obtain ⟨ρ2, hk, hn⟩ := hd _ _ _ w
    obtain ⟨hri, hrz⟩ := hr _ _ _ _ w
    have hp2 : R2 p = some (.lst vs) := s2 _ _ (gr.rd _ _ upd_same)
    have hsm : Same R (less1 R2 p) := fun b o q => by
      have hb : b ≠ p := fun z => by rw [z, rp] at q; cases q
      rw [less1_ne hb]
      exact s2 _ _ (gr.rd _ _ (by rw [upd_ne hb]; exact q))
    have hd2 : DpAll K (less1 R2 p) vs ds := dpa_mono hsm _ _ hdd
    have b := a2.unlend hri h0p r0 hp2 hd2 hk
    exact .inl ⟨y2, m.nx _ _ _ _ hn (b.vals (f := f) fz fun x hx => ⟨a2.raw _ _ (hrz x hx), dp_mono hsm _ _ (hfz x hx).2⟩)⟩
end
end Pu

set_option maxRecDepth 100000
set_option maxHeartbeats 1000000
namespace Pu
open PySem PySem.Spec PyProof.Rows L2
/-! ### lines of ways, as the laws write them -/
def rowLs (cs : List Int) : List (List Pt) := (List.range cs.length).map fun k => rowW (qlist cs) k
theorem row_lns (ws cs : List Int) : lnsD (wayLs .row ws cs) = lnsD (rowLs cs) := rfl
theorem back_lns (ws cs : List Int) : lnsD (wayLs .back ws cs) = (lnsD (rowLs cs.reverse)).reverse := by
  unfold rowLs
  refine List.ext_getElem? fun k => ?_
  rw [List.length_reverse]
  by_cases hkc : k < cs.length
  · rw [List.getElem?_reverse (by unfold lnsD; rw [List.length_map, List.length_map, List.length_range]; exact hkc)]
    unfold lnsD
    rw [List.getElem?_map, wayLs_at hkc, List.length_map, List.length_map, List.length_range, List.getElem?_map, List.getElem?_map, List.getElem?_range (by omega)]
    show some (lnD (rowW (qlist cs).reverse ((qlist cs).length - 1 - k))) = some (lnD (rowW (qlist cs.reverse) (cs.length - 1 - k)))
    rw [qlist_rev, qlist_len]
  · rw [List.getElem?_eq_none_iff.mpr (by unfold lnsD; rw [List.length_map, wayLs_len]; omega), List.getElem?_eq_none_iff.mpr (by rw [List.length_reverse]; unfold lnsD; rw [List.length_map, List.length_map, List.length_range]; omega)]
theorem part_lns (ws cs : List Int) : lnsD (wayLs .part ws cs) = cs.map fun c : Int => lnD (partW (qsum (qlist cs)) (c : Rat)) := by
  unfold lnsD wayLs
  rw [List.map_map]
  refine List.ext_getElem? fun k => ?_
  by_cases hkc : k < cs.length
  · rw [List.getElem?_map, List.getElem?_map, List.getElem?_range hkc, List.getElem?_eq_getElem hkc]
    show some (lnD (partW (qsum (qlist cs)) (gD (qlist cs) k))) = some _
    rw [gD_at (qlist_at (List.getElem?_eq_getElem hkc))]
  · rw [List.getElem?_eq_none_iff.mpr (by rw [List.length_map, List.length_range]; omega), List.getElem?_eq_none_iff.mpr (by rw [List.length_map]; omega)]
theorem part_thin {cs : List Int} {c : Int} (hn : ∀ c ∈ cs, 0 ≤ c) (hc : c ∈ cs) : GoodL (thin [((0 : Rat), (0 : Rat)), (qsum (qlist cs), (c : Rat))]) := by
  have hq := nn_q hn
  have hm : ((c : Int) : Rat) ∈ qlist cs := List.mem_map.mpr ⟨c, hc, rfl⟩
  have hs0 : 0 ≤ qsum (qlist cs) := qsum_nonneg hq
  have c0 : (0 : Rat) ≤ (c : Rat) := by exact_mod_cast hn c hc
  have hz : qsum (qlist cs) = 0 → (c : Rat) = 0 := fun z => qsum_zero hq z _ hm
  show (((0 : Rat), (0 : Rat)) = (0, 0)) ∧ goodFrom (0, 0) (thinF (0, 0) [(qsum (qlist cs), (c : Rat))])
  refine ⟨rfl, ?_⟩
  unfold thinF
  by_cases q : (qsum (qlist cs), (c : Rat)) = ((0 : Rat), (0 : Rat))
  · rw [if_pos q]
    exact trivial
  · rw [if_neg q]
    refine ⟨?_, c0, trivial⟩
    show 0 < qsum (qlist cs)
    by_cases z : qsum (qlist cs) = 0
    · exact absurd (by rw [z, hz z]) q
    · grind
/-- a list of things of one's own, or a tuple, put into a new list -/
theorem f_listQ {K : Frag} {ρ : En} {ta : TE} {ds : List D} {d0 : D} (hd : SeqD d0 ds) (ha : Ev K ta ρ d0) : EvF K (tCB (rLst K) (tCons ta tNil)) ρ ds := by
  rcases hd with rfl | rfl
  · exact f_listL ha.l
  · exact f_listT ha
end Pu

set_option maxRecDepth 100000
set_option maxHeartbeats 1000000
namespace Pu
open PySem PySem.Spec PyProof.Rows L2
/-! ### no fish is better elsewhere -/
theorem isum_perm {xs ys : List Int} (h : xs.Perm ys) : xs.sum = ys.sum := by
  induction h with
  | nil => rfl
  | cons x _ ih => rw [List.sum_cons, List.sum_cons, ih]
  | swap x y l => rw [List.sum_cons, List.sum_cons, List.sum_cons, List.sum_cons]; omega
  | trans _ _ h1 h2 => exact h1.trans h2
theorem isum_map_add {α : Type} (f g : α → Int) : ∀ xs : List α, (xs.map fun x => f x + g x).sum = (xs.map f).sum + (xs.map g).sum
  | [] => rfl
  | x :: r => by
    rw [List.map_cons, List.map_cons, List.map_cons, List.sum_cons, List.sum_cons, List.sum_cons, isum_map_add f g r]
    omega
theorem ind_take : ∀ (S : List Nat) (L : Nat), S.Nodup → L ≤ S.length → (S.map fun i => if i ∈ S.take L then (1 : Int) else 0).sum = (L : Int)
  | [], L, _, h => by
    have : L = 0 := by simpa using h
    subst this
    rfl
  | x :: r, 0, _, _ => by
    have : ∀ S : List Nat, (S.map fun i => if i ∈ (x :: r).take 0 then (1 : Int) else 0).sum = 0 := fun S => by
      induction S with
      | nil => rfl
      | cons y s ih => rw [List.map_cons, List.sum_cons, ih, List.take_zero, if_neg List.not_mem_nil]; rfl
    exact this (x :: r)
  | x :: r, L + 1, hn, h => by
    obtain ⟨hx, hr⟩ := List.nodup_cons.mp hn
    rw [List.map_cons, List.sum_cons, List.take_succ_cons, if_pos List.mem_cons_self]
    have e : (r.map fun i => if i ∈ x :: r.take L then (1 : Int) else 0) = r.map fun i => if i ∈ r.take L then (1 : Int) else 0 := List.map_congr_left fun i hi => by
      have hne : i ≠ x := fun z => hx (z ▸ hi)
      by_cases q : i ∈ r.take L
      · rw [if_pos q, if_pos (List.mem_cons_of_mem _ q)]
      · rw [if_neg q, if_neg fun z => (List.mem_cons.mp z).elim hne q]
    rw [e, ind_take r L hr (by simpa using h)]
    omega
theorem map_gAt (gs : List Rat) : (List.range gs.length).map (gAt gs) = gs := by
  refine List.ext_getElem? fun i => ?_
  by_cases hi : i < gs.length
  · rw [List.getElem?_map, List.getElem?_range hi, List.getElem?_eq_getElem hi]
    exact congrArg some (gAt_of (List.getElem?_eq_getElem hi))
  · rw [List.getElem?_eq_none_iff.mpr (by rw [List.length_map, List.length_range]; omega), List.getElem?_eq_none_iff.mpr (by omega)]
theorem fish_sum {gs : List Rat} {c : Int} (h : qsum gs = (c : Rat)) : (fishOf gs c).sum = c := by
  obtain ⟨l0, l1⟩ := left_b h
  unfold fishOf
  rw [isum_map_add (fun i => (gAt gs i).floor) (fun i => if i ∈ (sortB (partF gs) gs.length).take (leftF gs c).toNat then (1 : Int) else 0)]
  have e1 : ((List.range gs.length).map fun i => (gAt gs i).floor) = gs.map Rat.floor := by
    have := congrArg (List.map Rat.floor) (map_gAt gs)
    rwa [List.map_map] at this
  have e2 := isum_perm ((sortB_perm (partF gs) gs.length).map fun i => if i ∈ (sortB (partF gs) gs.length).take (leftF gs c).toNat then (1 : Int) else 0)
  rw [ind_take _ _ (sortB_nodup _ _) (by rw [sortB_len]; omega)] at e2
  rw [e1, ← e2]
  unfold leftF at l0 ⊢
  omega
def extraF (gs : List Rat) (c : Int) (i : Nat) : Int := if i ∈ (sortB (partF gs) gs.length).take (leftF gs c).toNat then 1 else 0
theorem fish_at {gs : List Rat} {c : Int} {i : Nat} (h : i < gs.length) : (fishOf gs c)[i]? = some ((gAt gs i).floor + extraF gs c i) := fishOf_at h
theorem extra_01 (gs : List Rat) (c : Int) (i : Nat) : extraF gs c i = 0 ∨ extraF gs c i = 1 := by
  unfold extraF
  split
  · exact .inr rfl
  · exact .inl rfl
theorem extra_iff {gs : List Rat} {c : Int} {i : Nat} (h : i < gs.length) : extraF gs c i = 1 ↔ ((List.range gs.length).filter fun j => aheadB (partF gs) j i).length < (leftF gs c).toNat := by
  unfold extraF
  rw [← mem_take_sortB h]
  split
  · rename_i q; exact ⟨fun _ => q, fun _ => rfl⟩
  · rename_i q; exact ⟨fun z => absurd z (by decide), fun z => absurd z q⟩
/-- of two, the one with the extra fish is ahead -/
theorem extra_ahead {gs : List Rat} {c : Int} {i j : Nat} (hi : i < gs.length) (hj : j < gs.length) (h1 : extraF gs c i = 1) (h0 : extraF gs c j = 0) : partF gs j < partF gs i ∨ (partF gs i = partF gs j ∧ i < j) := by
  have q1 := (extra_iff hi).mp h1
  have q0 : ¬ ((List.range gs.length).filter fun k => aheadB (partF gs) k j).length < (leftF gs c).toNat := fun z => by
    have := (extra_iff hj).mpr z
    omega
  refine Classical.byContradiction fun hn => ?_
  have hij : i ≠ j := fun z => by rw [z, h0] at h1; cases h1
  -- then j is ahead of i
  have hji : partF gs i < partF gs j ∨ (partF gs j = partF gs i ∧ j < i) := by
    rcases Rat.le_total (a := partF gs i) (b := partF gs j) with h | h
    · by_cases e : partF gs i = partF gs j
      · exact .inr ⟨e.symm, by
          have : ¬ i < j := fun z => hn (.inr ⟨e, z⟩)
          omega⟩
      · exact .inl (by grind)
    · by_cases e : partF gs i = partF gs j
      · exact .inr ⟨e.symm, by
          have : ¬ i < j := fun z => hn (.inr ⟨e, z⟩)
          omega⟩
      · exact absurd (.inl (by grind)) hn
  have sub : ∀ k, aheadB (partF gs) k j = true → aheadB (partF gs) k i = true := fun k hk => by
    rw [aheadB_iff] at hk ⊢
    grind
  have le : ((List.range gs.length).filter fun k => aheadB (partF gs) k j).length ≤ ((List.range gs.length).filter fun k => aheadB (partF gs) k i).length := by
    rw [← List.countP_eq_length_filter, ← List.countP_eq_length_filter]
    exact List.countP_mono_left fun k _ hk => sub k hk
  omega
theorem fr_part' (gs : List Rat) (i : Nat) : gAt gs i = ((gAt gs i).floor : Rat) + partF gs i := by
  unfold partF
  grind
theorem fish_better {gs : List Rat} {c : Int} {i j : Nat} (hi : i < gs.length) (hj : j < gs.length) (hij : i ≠ j) :
    0 < 1 - (extraF gs c i : Rat) + partF gs i + (extraF gs c j : Rat) - partF gs j ∨ (0 = 1 - (extraF gs c i : Rat) + partF gs i + (extraF gs c j : Rat) - partF gs j ∧ i < j) := by
  obtain ⟨a0, a1⟩ := part_b gs i
  obtain ⟨b0, b1⟩ := part_b gs j
  rcases extra_01 gs c i with e | e
  · refine .inl ?_
    rcases extra_01 gs c j with f | f
    · rw [e, f]
      grind
    · rw [e, f]
      grind
  · rcases extra_01 gs c j with f | f
    · rcases extra_ahead hi hj e f with h | ⟨h, hl⟩
      · refine .inl ?_
        rw [e, f]
        grind
      · refine .inr ⟨?_, hl⟩
        rw [e, f]
        grind
    · refine .inl ?_
      rw [e, f]
      grind
/-- who gets an extra fish has a broken part -/
theorem qsum_parts : ∀ gs : List Rat, qsum gs = (((gs.map Rat.floor).sum : Int) : Rat) + qsum (gs.map fpart)
  | [] => by
    show (0 : Rat) = ((0 : Int) : Rat) + 0
    rw [Rat.add_zero]
    rfl
  | g :: r => by
    show g + qsum r = (((g.floor + (r.map Rat.floor).sum : Int)) : Rat) + (fpart g + qsum (r.map fpart))
    rw [qsum_parts r, Rat.intCast_add]
    unfold fpart
    grind
theorem pos_many : ∀ ps : List Rat, (∀ p ∈ ps, 0 ≤ p ∧ p < 1) → qsum ps ≤ ((ps.filter fun p => decide (0 < p)).length : Rat) ∧ (0 < qsum ps → qsum ps < ((ps.filter fun p => decide (0 < p)).length : Rat))
  | [], _ => ⟨Rat.le_refl, fun h => absurd h (Rat.not_lt.mpr Rat.le_refl)⟩
  | p :: r, h => by
    obtain ⟨h0, h1⟩ := h p List.mem_cons_self
    obtain ⟨q0, q1⟩ := pos_many r fun x hx => h x (List.mem_cons_of_mem _ hx)
    by_cases hp : 0 < p
    · rw [List.filter_cons_of_pos (by simpa using hp), List.length_cons]
      have e : ((((r.filter fun p => decide (0 < p)).length + 1 : Nat)) : Rat) = (((r.filter fun p => decide (0 < p)).length : Nat) : Rat) + 1 := by push_cast; rfl
      rw [e]
      show p + qsum r ≤ _ ∧ (0 < p + qsum r → p + qsum r < _)
      refine ⟨by grind, fun _ => by grind⟩
    · rw [List.filter_cons_of_neg (by simpa using hp)]
      have e : p = 0 := by grind
      show p + qsum r ≤ _ ∧ (0 < p + qsum r → p + qsum r < _)
      rw [e, Rat.zero_add]
      exact ⟨q0, q1⟩
theorem extra_part {gs : List Rat} {c : Int} {i : Nat} (h : qsum gs = (c : Rat)) (hi : i < gs.length) (e : extraF gs c i = 1) : 0 < partF gs i := by
  refine Classical.byContradiction fun hn => ?_
  have hz : partF gs i = 0 := by have := (part_b gs i).1; grind
  have q := (extra_iff hi).mp e
  obtain ⟨l0, l1⟩ := left_b h
  -- all with a broken part are ahead
  have le : ((List.range gs.length).filter fun j => decide (0 < partF gs j)).length ≤ ((List.range gs.length).filter fun k => aheadB (partF gs) k i).length := by
    rw [← List.countP_eq_length_filter, ← List.countP_eq_length_filter]
    refine List.countP_mono_left fun k _ hk => ?_
    rw [aheadB_iff, hz]
    exact .inl (of_decide_eq_true hk)
  have hps : (List.range gs.length).map (partF gs) = gs.map fpart := by
    have := congrArg (List.map fpart) (map_gAt gs)
    rw [List.map_map] at this
    exact this
  have hl : ((List.range gs.length).filter fun j => decide (0 < partF gs j)).length = ((gs.map fpart).filter fun p => decide (0 < p)).length := by
    rw [← hps, List.filter_map, List.length_map]
    rfl
  have hb : ∀ p ∈ gs.map fpart, 0 ≤ p ∧ p < 1 := fun p hp => by
    rw [← hps] at hp
    obtain ⟨j, _, rfl⟩ := List.mem_map.mp hp
    exact part_b gs j
  obtain ⟨m0, m1⟩ := pos_many _ hb
  have hq := qsum_parts gs
  rw [h] at hq
  have hL : ((leftF gs c : Int) : Rat) = qsum (gs.map fpart) := by
    unfold leftF
    rw [Rat.intCast_sub]
    grind
  have hLn : ((((leftF gs c).toNat : Nat)) : Rat) = ((leftF gs c : Int) : Rat) := by
    have : (((leftF gs c).toNat : Nat) : Int) = leftF gs c := Int.toNat_of_nonneg l0
    rw [← this]
    rfl
  have hpos : 0 < qsum (gs.map fpart) := by
    rw [← hL]
    have : (0 : Int) < leftF gs c := by omega
    exact_mod_cast this
  have := m1 hpos
  rw [← hL, ← hLn] at this
  have h2 : (leftF gs c).toNat < ((gs.map fpart).filter fun p => decide (0 < p)).length := by exact_mod_cast this
  omega
theorem fish_near {gs : List Rat} {c k : Int} {i : Nat} (h : qsum gs = (c : Rat)) (hi : i < gs.length) (h0 : 0 ≤ gAt gs i) (h1 : gAt gs i ≤ (k : Rat)) :
    0 ≤ (gAt gs i).floor + extraF gs c i ∧ (gAt gs i).floor + extraF gs c i ≤ k ∧ (((gAt gs i).floor + extraF gs c i : Int) : Rat) - gAt gs i < 1 ∧ gAt gs i - (((gAt gs i).floor + extraF gs c i : Int) : Rat) < 1 := by
  obtain ⟨a0, a1⟩ := part_b gs i
  have hg := fr_part' gs i
  have f0 : 0 ≤ (gAt gs i).floor := by
    have := Rat.le_floor_iff (x := 0) (a := gAt gs i)
    exact this.mpr (by exact_mod_cast h0)
  rw [Rat.intCast_add]
  rcases extra_01 gs c i with e | e
  · rw [e]
    refine ⟨by omega, ?_, ?_, ?_⟩
    · have : (((gAt gs i).floor : Int) : Rat) ≤ (k : Rat) := by grind
      have : (gAt gs i).floor ≤ k := by exact_mod_cast this
      omega
    · grind
    · grind
  · have hp := extra_part h hi e
    rw [e]
    refine ⟨by omega, ?_, ?_, ?_⟩
    · have : (((gAt gs i).floor : Int) : Rat) < (k : Rat) := by grind
      have : (gAt gs i).floor < k := by exact_mod_cast this
      omega
    · grind
    · grind
/-! ### the same with whole numbers -/
def farI (m : Int) (p q : Rat) : Int := (m * (p.den : Int) - p.num) * (q.den : Int)
theorem far_rat (m : Int) (p q : Rat) : ((farI m p q : Int) : Rat) = ((m : Rat) - p) * (((p.den : Int) : Rat) * ((q.den : Int) : Rat)) := by
  unfold farI
  have e := num_den p
  rw [Rat.intCast_mul, Rat.intCast_sub, Rat.intCast_mul]
  rw [e]
  grind
theorem den_pos' (p : Rat) : (0 : Rat) < ((p.den : Int) : Rat) := by
  have : (0 : Int) < (p.den : Int) := by have := p.den_pos; omega
  exact_mod_cast this
theorem far_cmp (f g : Int) (p q : Rat) : ((farI (f - 1) p q * farI (f - 1) p q + farI (g + 1) q p * farI (g + 1) q p - (farI f p q * farI f p q + farI g q p * farI g q p) : Int) : Rat)
    = 2 * (1 - ((f : Rat) - p) + ((g : Rat) - q)) * ((((p.den : Int) : Rat) * ((q.den : Int) : Rat)) * (((p.den : Int) : Rat) * ((q.den : Int) : Rat))) := by
  rw [Rat.intCast_sub, Rat.intCast_add, Rat.intCast_add, Rat.intCast_mul, Rat.intCast_mul, Rat.intCast_mul, Rat.intCast_mul, far_rat, far_rat, far_rat, far_rat, Rat.intCast_sub, Rat.intCast_add]
  grind
theorem far_ok {gs : List Rat} {c : Int} {i j : Nat} (hi : i < gs.length) (hj : j < gs.length) (hij : i ≠ j) {f g : Int} (hf : f = (gAt gs i).floor + extraF gs c i) (hg : g = (gAt gs j).floor + extraF gs c j) :
    farI f (gAt gs i) (gAt gs j) * farI f (gAt gs i) (gAt gs j) + farI g (gAt gs j) (gAt gs i) * farI g (gAt gs j) (gAt gs i) < farI (f - 1) (gAt gs i) (gAt gs j) * farI (f - 1) (gAt gs i) (gAt gs j) + farI (g + 1) (gAt gs j) (gAt gs i) * farI (g + 1) (gAt gs j) (gAt gs i)
    ∨ (farI (f - 1) (gAt gs i) (gAt gs j) * farI (f - 1) (gAt gs i) (gAt gs j) + farI (g + 1) (gAt gs j) (gAt gs i) * farI (g + 1) (gAt gs j) (gAt gs i) = farI f (gAt gs i) (gAt gs j) * farI f (gAt gs i) (gAt gs j) + farI g (gAt gs j) (gAt gs i) * farI g (gAt gs j) (gAt gs i) ∧ i < j) := by
  have e := far_cmp f g (gAt gs i) (gAt gs j)
  have hD : (0 : Rat) < ((((gAt gs i).den : Int) : Rat) * (((gAt gs j).den : Int) : Rat)) := Rat.mul_pos (den_pos' _) (den_pos' _)
  have hDD := Rat.mul_pos hD hD
  have e1 := fr_part' gs i
  have e2 := fr_part' gs j
  have hx : 1 - ((f : Rat) - gAt gs i) + ((g : Rat) - gAt gs j) = 1 - (extraF gs c i : Rat) + partF gs i + (extraF gs c j : Rat) - partF gs j := by
    rw [hf, hg, Rat.intCast_add, Rat.intCast_add]
    grind
  rw [hx] at e
  generalize ((((gAt gs i).den : Int) : Rat) * (((gAt gs j).den : Int) : Rat)) * ((((gAt gs i).den : Int) : Rat) * (((gAt gs j).den : Int) : Rat)) = D at e hDD
  generalize farI (f - 1) (gAt gs i) (gAt gs j) * farI (f - 1) (gAt gs i) (gAt gs j) + farI (g + 1) (gAt gs j) (gAt gs i) * farI (g + 1) (gAt gs j) (gAt gs i) = A at e ⊢
  generalize farI f (gAt gs i) (gAt gs j) * farI f (gAt gs i) (gAt gs j) + farI g (gAt gs j) (gAt gs i) * farI g (gAt gs j) (gAt gs i) = B at e ⊢
  rcases fish_better (c := c) hi hj hij with h | ⟨h, hl⟩
  · refine .inl ?_
    generalize 1 - (extraF gs c i : Rat) + partF gs i + (extraF gs c j : Rat) - partF gs j = X at e h
    have : (0 : Rat) < ((A - B : Int) : Rat) := by
      rw [e]
      exact Rat.mul_pos (Rat.mul_pos (by decide) h) hDD
    have : (0 : Int) < A - B := by exact_mod_cast this
    omega
  · refine .inr ⟨?_, hl⟩
    rw [← h, Rat.mul_zero, Rat.zero_mul] at e
    have : A - B = 0 := by exact_mod_cast e
    omega
theorem near_int {f : Int} {g : Rat} (h1 : (f : Rat) - g < 1) (h2 : g - (f : Rat) < 1) : ((f * (g.den : Int) - g.num).natAbs : Int) < (g.den : Int) := by
  have hd := den_pos' g
  have e := num_den g
  have a1 : ((f * (g.den : Int) - g.num : Int) : Rat) < ((g.den : Int) : Rat) := by
    rw [Rat.intCast_sub, Rat.intCast_mul, e]
    have := Rat.mul_lt_mul_of_pos_right h1 hd
    grind
  have a2 : ((-(g.den : Int) : Int) : Rat) < ((f * (g.den : Int) - g.num : Int) : Rat) := by
    rw [Rat.intCast_sub, Rat.intCast_mul, e, Rat.intCast_neg]
    have := Rat.mul_lt_mul_of_pos_right h2 hd
    grind
  have b1 : f * (g.den : Int) - g.num < (g.den : Int) := by exact_mod_cast a1
  have b2 : -(g.den : Int) < f * (g.den : Int) - g.num := by exact_mod_cast a2
  omega
end Pu

set_option maxRecDepth 100000
set_option maxHeartbeats 1000000
namespace Pu
open PySem PySem.Spec PyProof.Rows L2
/-! ### each two of those who are dealt to, alone -/
theorem gD_two (a b : Rat) : gD [a, b] 0 = a ∧ gD [a, b] 1 = b := ⟨rfl, rfl⟩
theorem qsum_two (a b : Rat) : qsum [a, b] = a + b := by
  show a + (b + 0) = a + b
  rw [Rat.add_zero]
theorem rowD_two (a b s : Rat) : rowD [a, b] s = [if s < a then s else a, if s - (if s < a then s else a) < b then s - (if s < a then s else a) else b] := rfl
theorem row_pair {a b P Q q : Rat} (ha : 0 ≤ a) (hb : 0 ≤ b) (h : P + a ≤ Q) : rowD [a, b] (clip a (q - P) + clip b (q - Q)) = [clip a (q - P), clip b (q - Q)] := by
  rw [rowD_two]
  have key : clip a (q - P) = a ∨ clip b (q - Q) = 0 := by
    unfold clip
    grind
  obtain ⟨a0, a1⟩ := clip_b (q := q - P) ha
  obtain ⟨b0, b1⟩ := clip_b (q := q - Q) hb
  generalize clip a (q - P) = x at *
  generalize clip b (q - Q) = y at *
  rcases key with rfl | rfl
  · by_cases e : x + y < x
    · exact absurd e (by grind)
    · rw [if_neg e]
      have e2 : x + y - x = y := by grind
      rw [e2]
      by_cases f : y < b
      · rw [if_pos f]
      · rw [if_neg f]
        have : y = b := by grind
        rw [this]
  · rw [Rat.add_zero]
    by_cases e : x < a
    · rw [if_pos e]
      have e2 : x - x = 0 := by grind
      rw [e2]
      by_cases f : (0 : Rat) < b
      · rw [if_pos f]
      · rw [if_neg f]
        have : b = 0 := by grind
        rw [this]
    · have : x = a := by grind
      subst this
      rw [if_neg e]
      have e2 : x - x = 0 := by grind
      rw [e2]
      by_cases f : (0 : Rat) < b
      · rw [if_pos f]
      · rw [if_neg f]
        have : b = 0 := by grind
        rw [this]
theorem qsum_take_mono {cs : List Rat} (hn : ∀ c ∈ cs, 0 ≤ c) {i j : Nat} (hij : i < j) (hj : j < cs.length) : qsum (cs.take i) + gD cs i ≤ qsum (cs.take j) := by
  have e := qsum_take (at_gD (xs := cs) (i := i) (by omega))
  have h : (cs.take j) = cs.take (i + 1) ++ (cs.take j).drop (i + 1) := by
    have := (List.take_append_drop (i + 1) (cs.take j)).symm
    rw [List.take_take, Nat.min_eq_left (by omega)] at this
    exact this
  rw [h, qsum_append, e]
  have : 0 ≤ qsum ((cs.take j).drop (i + 1)) := qsum_nonneg fun x hx => hn x (List.mem_of_mem_take (List.mem_of_mem_drop hx))
  grind
theorem row_deal_pair {cs : List Rat} {q : Rat} (hn : ∀ c ∈ cs, 0 ≤ c) (h0 : 0 ≤ q) {i j : Nat} (hij : i < j) (hj : j < cs.length) : rowD [gD cs i, gD cs j] (gD (rowD cs q) i + gD (rowD cs q) j) = [gD (rowD cs q) i, gD (rowD cs q) j] := by
  rw [rowD_is hn h0]
  have hl := fillD_len cs 0 q
  have at_ : ∀ k, k < cs.length → gD (fillD 0 cs q) k = clip (gD cs k) (q - qsum (cs.take k)) := fun k hk => by
    obtain ⟨c, hc, e⟩ := fillD_at cs 0 q k _ (at_gD (xs := fillD 0 cs q) (i := k) (by omega))
    rw [e, gD_at hc, Rat.zero_add]
  have nn : ∀ k, k < cs.length → 0 ≤ gD cs k := fun k hk => hn _ (List.mem_of_getElem? (at_gD hk))
  rw [at_ i (by omega), at_ j hj]
  exact row_pair (nn i (by omega)) (nn j hj) (qsum_take_mono hn hij hj)
theorem wok_two {ws cs : List Rat} (h : WOk ws cs) {i j : Nat} (hi : i < cs.length) (hj : j < cs.length) : WOk [gD ws i, gD ws j] [gD cs i, gD cs j] := by
  refine ⟨rfl, fun w hw => ?_, fun c hc => ?_⟩
  · rcases List.mem_cons.mp hw with rfl | hw
    · exact h.pos _ (List.mem_of_getElem? (at_gD (by rw [h.len]; exact hi)))
    · obtain rfl := List.mem_singleton.mp hw
      exact h.pos _ (List.mem_of_getElem? (at_gD (by rw [h.len]; exact hj)))
  · rcases List.mem_cons.mp hc with rfl | hc
    · exact h.nn _ (List.mem_of_getElem? (at_gD hi))
    · obtain rfl := List.mem_singleton.mp hc
      exact h.nn _ (List.mem_of_getElem? (at_gD hj))
theorem gD_lvls {ws cs : List Rat} {l : Rat} (hl : ws.length = cs.length) {k : Nat} (hk : k < cs.length) : gD (lvls ws cs l) k = lvl (gD ws k) (gD cs k) l := gD_at (lvls_of (at_gD (by omega)) (at_gD hk))
theorem lvls_two (w v c d l : Rat) : lvls [w, v] [c, d] l = [lvl w c l, lvl v d l] := rfl
/-- at one level each two are at it -/
theorem even_two {ws cs : List Rat} (h : WOk ws cs) {l : Rat} (l0 : 0 ≤ l) {i j : Nat} (hi : i < cs.length) (hj : j < cs.length) : evenD [gD ws i, gD ws j] [gD cs i, gD cs j] (gD (lvls ws cs l) i + gD (lvls ws cs l) j) = [gD (lvls ws cs l) i, gD (lvls ws cs l) j] := by
  have e := evenD_of (wok_two h hi hj) l0 (List.cons_ne_nil _ _)
  rw [lvls_two, qsum_two] at e
  rw [gD_lvls h.len hi, gD_lvls h.len hj]
  exact e
theorem lackD_two (a b x y : Rat) : lackD [a, b] [x, y] = [a - x, b - y] := rfl
theorem hv_two (x y : Rat) : hv [x, y] = [1 / 2 * x, 1 / 2 * y] := rfl
theorem ones_two (a b : Rat) : ones [a, b] = [1, 1] := rfl
theorem gD_ones {cs : List Rat} {k : Nat} (hk : k < cs.length) : gD (ones cs) k = 1 := by
  unfold ones
  exact gD_at (by rw [List.getElem?_map, at_gD hk]; rfl)
theorem half_two {cs : List Rat} (hn : ∀ c ∈ cs, 0 ≤ c) {l : Rat} (l0 : 0 ≤ l) {i j : Nat} (hi : i < cs.length) (hj : j < cs.length) : evenD [1, 1] [gD cs i, gD cs j] (gD (lvls (ones cs) cs l) i + gD (lvls (ones cs) cs l) j) = [gD (lvls (ones cs) cs l) i, gD (lvls (ones cs) cs l) j] := by
  have := even_two (ones_ok hn) l0 hi hj
  rwa [gD_ones hi, gD_ones hj] at this
theorem deal_pair {y : Wy} {ws cs : List Rat} {q : Rat} (h : Fit y ws cs) (h0 : 0 ≤ q) (h1 : q ≤ qsum cs) {i j : Nat} (hij : i < j) (hj : j < cs.length) :
    dealOf y [gD ws i, gD ws j] [gD cs i, gD cs j] (gD (dealOf y ws cs q) i + gD (dealOf y ws cs q) j) = [gD (dealOf y ws cs q) i, gD (dealOf y ws cs q) j] := by
  have hi : i < cs.length := by omega
  have nn : ∀ k, k < cs.length → 0 ≤ gD cs k := fun k hk => h.nn _ (List.mem_of_getElem? (at_gD hk))
  cases y with
  | row => exact row_deal_pair h.nn h0 hij hj
  | back =>
    show (rowD [gD cs i, gD cs j].reverse _).reverse = _
    have hl : (rowD cs.reverse q).length = cs.length := by rw [rowD_is (fun c hc => h.nn c (List.mem_reverse.mp hc)) h0, fillD_len, List.length_reverse]
    have gd : ∀ k, k < cs.length → gD (dealOf .back ws cs q) k = gD (rowD cs.reverse q) (cs.length - 1 - k) := fun k hk => by
      show gD (rowD cs.reverse q).reverse k = _
      rw [gD_reverse (by omega), hl]
    have gc : ∀ k, k < cs.length → gD cs k = gD cs.reverse (cs.length - 1 - k) := fun k hk => by
      have := gD_reverse (xs := cs.reverse) (k := k) (by rw [List.length_reverse]; exact hk)
      rw [List.reverse_reverse, List.length_reverse] at this
      exact this
    rw [gd i hi, gd j hj, gc i hi, gc j hj]
    have := row_deal_pair (cs := cs.reverse) (q := q) (fun c hc => h.nn c (List.mem_reverse.mp hc)) h0 (i := cs.length - 1 - j) (j := cs.length - 1 - i) (by omega) (by rw [List.length_reverse]; omega)
    show (rowD [gD cs.reverse (cs.length - 1 - j), gD cs.reverse (cs.length - 1 - i)] _).reverse = _
    rw [Rat.add_comm, this]
    rfl
  | even =>
    obtain ⟨l, l0, e, _⟩ := evenD_level (h.ok rfl) h0 h1 h.ne
    show evenD _ _ (gD (evenD ws cs q) i + gD (evenD ws cs q) j) = [gD (evenD ws cs q) i, gD (evenD ws cs q) j]
    rw [e]
    exact even_two (h.ok rfl) l0 hi hj
  | lack =>
    have hw := h.ok rfl
    obtain ⟨l, l0, e, _⟩ := evenD_level (q := qsum cs - q) hw (by grind) (by grind) h.ne
    have hl : (lvls ws cs l).length = cs.length := lvls_len hw.len
    have gd : ∀ k, k < cs.length → gD (dealOf .lack ws cs q) k = gD cs k - gD (lvls ws cs l) k := fun k hk => by
      show gD (lackD cs (evenD ws cs (qsum cs - q))) k = _
      rw [e]
      exact lackD_gD hk hl
    rw [gd i hi, gd j hj]
    show lackD [gD cs i, gD cs j] (evenD _ _ (qsum [gD cs i, gD cs j] - (gD cs i - gD (lvls ws cs l) i + (gD cs j - gD (lvls ws cs l) j)))) = _
    rw [qsum_two, show gD cs i + gD cs j - (gD cs i - gD (lvls ws cs l) i + (gD cs j - gD (lvls ws cs l) j)) = gD (lvls ws cs l) i + gD (lvls ws cs l) j by grind, even_two hw l0 hi hj, lackD_two]
  | part =>
    have gd : ∀ k, k < cs.length → gD (dealOf .part ws cs q) k = gD cs k * (q / qsum cs) := fun k hk => partD_at hk h.nn
    rw [gd i hi, gd j hj]
    show partD [gD cs i, gD cs j] _ = _
    rw [partD_map (fun c hc => by
      rcases List.mem_cons.mp hc with rfl | hc
      · exact nn i hi
      · obtain rfl := List.mem_singleton.mp hc
        exact nn j hj), qsum_two]
    generalize q / qsum cs = t
    have ni := nn i hi
    have nj := nn j hj
    generalize gD cs i = a at *
    generalize gD cs j = b at *
    show [a * ((a * t + b * t) / (a + b)), b * ((a * t + b * t) / (a + b))] = _
    by_cases z : a + b = 0
    · have ea : a = 0 := by grind
      have eb : b = 0 := by grind
      rw [ea, eb, Rat.zero_mul, Rat.zero_mul]
    · have e : (a * t + b * t) / (a + b) = t := by
        rw [show a * t + b * t = t * (a + b) by grind, Rat.div_def, Rat.mul_assoc, Rat.mul_inv_cancel _ z, Rat.mul_one]
      rw [e]
  | half =>
    show halfD [gD cs i, gD cs j] (gD (halfD cs q) i + gD (halfD cs q) j) = [gD (halfD cs q) i, gD (halfD cs q) j]
    have hO := ones_ok h.nn
    have ni := nn i hi
    have nj := nn j hj
    have lb : ∀ (l : Rat) (k : Nat), 0 ≤ l → k < cs.length → 0 ≤ gD (lvls (ones cs) cs l) k ∧ gD (lvls (ones cs) cs l) k ≤ gD cs k := fun l k l0 hk => by
      rw [gD_lvls hO.len hk, gD_ones hk]
      exact lvl_b (by decide) (nn k hk) l0
    by_cases hq : qsum cs < q + q
    · obtain ⟨l, l0, e, _⟩ := evenD_level (q := qsum cs + qsum cs - (q + q)) hO (by grind) (by grind) h.ne
      have hl : (hv (lvls (ones cs) cs l)).length = cs.length := by rw [hv_len, lvls_len hO.len]
      have gd : ∀ k, k < cs.length → gD (halfD cs q) k = gD cs k - 1 / 2 * gD (lvls (ones cs) cs l) k := fun k hk => by
        unfold halfD
        rw [if_pos hq, e, lackD_gD hk hl, hv_gD (by rw [lvls_len hO.len]; exact hk)]
      rw [gd i hi, gd j hj]
      obtain ⟨i0, i1⟩ := lb l i l0 hi
      obtain ⟨j0, j1⟩ := lb l j l0 hj
      have e2 := half_two h.nn l0 hi hj
      generalize gD (lvls (ones cs) cs l) i = x at *
      generalize gD (lvls (ones cs) cs l) j = z at *
      unfold halfD
      rw [qsum_two, ones_two]
      by_cases c : gD cs i + gD cs j < gD cs i - 1 / 2 * x + (gD cs j - 1 / 2 * z) + (gD cs i - 1 / 2 * x + (gD cs j - 1 / 2 * z))
      · rw [if_pos c, show gD cs i + gD cs j + (gD cs i + gD cs j) - (gD cs i - 1 / 2 * x + (gD cs j - 1 / 2 * z) + (gD cs i - 1 / 2 * x + (gD cs j - 1 / 2 * z))) = x + z by grind, e2, hv_two, lackD_two]
      · have hx : x = gD cs i := by grind
        have hz : z = gD cs j := by grind
        rw [if_neg c, show gD cs i - 1 / 2 * x + (gD cs j - 1 / 2 * z) + (gD cs i - 1 / 2 * x + (gD cs j - 1 / 2 * z)) = x + z by grind, e2, hv_two, hx, hz]
        congr 1
        · grind
        · congr 1
          grind
    · obtain ⟨l, l0, e, _⟩ := evenD_level (q := q + q) hO (by grind) (by grind) h.ne
      have gd : ∀ k, k < cs.length → gD (halfD cs q) k = 1 / 2 * gD (lvls (ones cs) cs l) k := fun k hk => by
        unfold halfD
        rw [if_neg hq, e, hv_gD (by rw [lvls_len hO.len]; exact hk)]
      rw [gd i hi, gd j hj]
      obtain ⟨i0, i1⟩ := lb l i l0 hi
      obtain ⟨j0, j1⟩ := lb l j l0 hj
      have e2 := half_two h.nn l0 hi hj
      generalize gD (lvls (ones cs) cs l) i = x at *
      generalize gD (lvls (ones cs) cs l) j = z at *
      unfold halfD
      rw [qsum_two, ones_two, if_neg (by grind), show 1 / 2 * x + 1 / 2 * z + (1 / 2 * x + 1 / 2 * z) = x + z by grind, e2, hv_two]
/-- the pair's two amounts are what the way deals to them alone -/
def pairOk (y : Wy) (ws cs xs : List Rat) (i j : Nat) : Prop := 0 ≤ gD xs i + gD xs j ∧ gD xs i + gD xs j ≤ gD cs i + gD cs j ∧ dealOf y [gD ws i, gD ws j] [gD cs i, gD cs j] (gD xs i + gD xs j) = [gD xs i, gD xs j]
theorem fit_two {y : Wy} {ws cs : List Rat} (h : Fit y ws cs) {i j : Nat} (hi : i < cs.length) (hj : j < cs.length) : Fit y [gD ws i, gD ws j] [gD cs i, gD cs j] := by
  refine ⟨List.cons_ne_nil _ _, fun c hc => ?_, fun hy => ⟨rfl, fun w hw => ?_⟩⟩
  · rcases List.mem_cons.mp hc with rfl | hc
    · exact h.nn _ (List.mem_of_getElem? (at_gD hi))
    · obtain rfl := List.mem_singleton.mp hc
      exact h.nn _ (List.mem_of_getElem? (at_gD hj))
  · obtain ⟨hl, hp⟩ := h.wt hy
    rcases List.mem_cons.mp hw with rfl | hw
    · exact hp _ (List.mem_of_getElem? (at_gD (by omega)))
    · obtain rfl := List.mem_singleton.mp hw
      exact hp _ (List.mem_of_getElem? (at_gD (by omega)))
theorem dl_gD {cs g : List Rat} {q : Rat} (h : Dl cs g q) {k : Nat} (hk : k < cs.length) : 0 ≤ gD g k ∧ gD g k ≤ gD cs k := h.get (at_gD (by rw [h.len]; exact hk)) (at_gD hk)
theorem pairOk_deal {y : Wy} {ws cs : List Rat} {q : Rat} (h : Fit y ws cs) (h0 : 0 ≤ q) (h1 : q ≤ qsum cs) {i j : Nat} (hij : i < j) (hj : j < cs.length) : pairOk y ws cs (dealOf y ws cs q) i j := by
  have hd := dealOf_ok h h0 h1
  obtain ⟨i0, i1⟩ := dl_gD hd (k := i) (by omega)
  obtain ⟨j0, j1⟩ := dl_gD hd hj
  exact ⟨by grind, by grind, deal_pair h h0 h1 hij hj⟩
theorem list_gD_eq {xs ys : List Rat} (hl : xs.length = ys.length) (h : ∀ k, k < xs.length → gD xs k = gD ys k) : xs = ys := by
  refine List.ext_getElem? fun k => ?_
  by_cases hk : k < xs.length
  · rw [at_gD hk, at_gD (by omega), h k hk]
  · rw [List.getElem?_eq_none_iff.mpr (by omega), List.getElem?_eq_none_iff.mpr (by omega)]
/-- pairs of two dealings cannot lie across -/
theorem pair_cross {y : Wy} {w v c d a b a' b' : Rat} (h : Fit y [w, v] [c, d]) (h1 : 0 ≤ a + b) (h2 : a + b ≤ c + d) (h3 : dealOf y [w, v] [c, d] (a + b) = [a, b]) (g1 : 0 ≤ a' + b') (g2 : a' + b' ≤ c + d) (g3 : dealOf y [w, v] [c, d] (a' + b') = [a', b']) : ¬ (a < a' ∧ b' < b) := by
  rintro ⟨x, z⟩
  rcases Rat.le_total (a := a + b) (b := a' + b') with e | e
  · have m := dealOf_mono h h1 e (by rw [qsum_two]; exact g2)
    rw [h3, g3] at m
    have := leAll_get m (i := 1) rfl rfl
    grind
  · have m := dealOf_mono h g1 e (by rw [qsum_two]; exact h2)
    rw [h3, g3] at m
    have := leAll_get m (i := 0) rfl rfl
    grind
theorem exists_above : ∀ {xs ys : List Rat}, xs.length = ys.length → qsum xs = qsum ys → xs ≠ ys → (∃ i, i < xs.length ∧ gD xs i < gD ys i) ∧ ∃ j, j < xs.length ∧ gD ys j < gD xs j := fun {xs ys} hl hs hne => by
  constructor
  · refine Classical.byContradiction fun hn => hne ?_
    refine (leAll_eq (xs := ys) (ys := xs) (leAll_of hl.symm fun i x y hx hy => ?_) hs.symm).symm
    have hi := getElem?_lt hy
    have : ¬ gD xs i < gD ys i := fun z => hn ⟨i, hi, z⟩
    rw [gD_at hx, gD_at hy] at this
    grind
  · refine Classical.byContradiction fun hn => hne ?_
    refine leAll_eq (leAll_of hl fun i x y hx hy => ?_) hs
    have hi := getElem?_lt hx
    have : ¬ gD ys i < gD xs i := fun z => hn ⟨i, hi, z⟩
    rw [gD_at hx, gD_at hy] at this
    grind
/-- amounts each two of which are dealt rightly are dealt rightly -/
theorem pairs_all {y : Wy} {ws cs xs : List Rat} (h : Fit y ws cs) (hl : xs.length = cs.length) (h0 : 0 ≤ qsum xs) (h1 : qsum xs ≤ qsum cs) (hp : ∀ i j, i < j → j < cs.length → pairOk y ws cs xs i j) : xs = dealOf y ws cs (qsum xs) := by
  refine Classical.byContradiction fun hne => ?_
  have hd := dealOf_ok h h0 h1
  obtain ⟨⟨i, hi, xi⟩, j, hj, xj⟩ := exists_above (by rw [hl, hd.len]) hd.sum.symm hne
  rw [hl] at hi hj
  have hij : i ≠ j := fun e => by rw [e] at xi; grind
  rcases Nat.lt_or_gt_of_ne hij with e | e
  · obtain ⟨p1, p2, p3⟩ := hp i j e hj
    obtain ⟨q1, q2, q3⟩ := pairOk_deal h h0 h1 e hj
    exact pair_cross (fit_two h hi hj) p1 p2 p3 q1 q2 q3 ⟨xi, xj⟩
  · obtain ⟨p1, p2, p3⟩ := hp j i e hi
    obtain ⟨q1, q2, q3⟩ := pairOk_deal h h0 h1 e hi
    exact pair_cross (fit_two h hj hi) q1 q2 q3 p1 p2 p3 ⟨xj, xi⟩
theorem pairs_iff {y : Wy} {ws cs xs : List Rat} (h : Fit y ws cs) (hl : xs.length = cs.length) (h0 : 0 ≤ qsum xs) (h1 : qsum xs ≤ qsum cs) : xs = dealOf y ws cs (qsum xs) ↔ ∀ i j, i < j → j < cs.length → pairOk y ws cs xs i j :=
  ⟨fun e i j hij hj => by
    have := pairOk_deal h h0 h1 hij hj
    rwa [← e] at this, pairs_all h hl h0 h1⟩
end Pu

set_option maxRecDepth 100000
set_option maxHeartbeats 1000000
namespace Pu
open PySem PySem.Spec PyProof.Rows L2
/-! ### customs drawn, as the later laws draw them -/
def clF (c kd : Int) : Int := if (kd + c % 7 / 5) % 4 = 0 then c / 7 % 13 else if (kd + c % 7 / 5) % 4 = 1 then c / 7 % 4 else if (kd + c % 7 / 5) % 4 = 2 then c / 7 % (10 ^ (9 : Int).toNat + 1) else c / 91 % 60 * 10 ^ (6 : Int).toNat
theorem clF_b (c kd : Int) : 0 ≤ clF c kd ∧ clF c kd ≤ 1000000000 := by
  have e9 : (10 : Int) ^ (9 : Int).toNat = 1000000000 := by decide
  have e6 : (10 : Int) ^ (6 : Int).toNat = 1000000 := by decide
  unfold clF
  rw [e9, e6]
  split
  · omega
  · split
    · omega
    · split <;> omega
def cClmF : Ct := fun ds k => ∃ c kd : Int, ds = [.int c, .int kd] ∧ k.rt (.int (clF c kd))
theorem clmF_v {c kd : Int} : cClmF [.int c, .int kd] (kv (.int (clF c kd))) := ⟨c, kd, rfl, rfl⟩
theorem at_6 {α : Type} {a b c d e f : α} {k : Int} (h0 : 0 ≤ k) (h : k < 6) : atI [a, b, c, d, e, f] k = some (if k = 0 then a else if k = 1 then b else if k = 2 then c else if k = 3 then d else if k = 4 then e else f) := by
  have : k = 0 ∨ k = 1 ∨ k = 2 ∨ k = 3 ∨ k = 4 ∨ k = 5 := by omega
  rcases this with rfl | rfl | rfl | rfl | rfl | rfl <;> rfl
def wayF (i : Int) : Wy := if i = 0 then .even else if i = 1 then .row else if i = 2 then .lack else if i = 3 then .half else if i = 4 then .part else .back
theorem wayF_at {i : Int} (h0 : 0 ≤ i) (h : i < 6) : atI [PyData.str "even", .str "row", .str "lack", .str "half", .str "part", .str "back"] i = some (.str (wayF i).s) := by
  have : i = 0 ∨ i = 1 ∨ i = 2 ∨ i = 3 ∨ i = 4 ∨ i = 5 := by omega
  rcases this with rfl | rfl | rfl | rfl | rfl | rfl <;> rfl
def restF (r : Int) : Nat → Int
  | 0 => r
  | n + 1 => restF r n / 3
def mostF (c : Int) : Int := if c / 6 % 4 = 3 then 10 ^ (6 : Int).toNat else 3
def wtsF (c : Int) (k : Nat) : Int := 1 + restF (c / 24) k % mostF c
theorem wtsF_b (c : Int) (k : Nat) : 1 ≤ wtsF c k ∧ wtsF c k ≤ 1000000 := by
  have e6 : (10 : Int) ^ (6 : Int).toNat = 1000000 := by decide
  unfold wtsF mostF
  rw [e6]
  split <;> omega
def knF (c : Int) (ks : List Cu) : Cu := .knot (wayF (c % 6)) (wList (wayF (c % 6)).wd (wtsF c) ks.length) ks
theorem knF_ok {c : Int} {ks : List Cu} (h0 : ks ≠ []) (hl : ks.length ≤ 12) (hk : ∀ u ∈ ks, u.Ok ∧ u.deep ≤ 7) (hc : (Cu.claimsL ks).length ≤ 12) : (knF c ks).Ok := by
  refine ⟨⟨⟨h0, hl, wList_fit (wtsF_b c)⟩, Cu.okL_all.mpr fun u hu => (hk u hu).1.ok⟩, hc, ?_⟩
  show 1 + Cu.deepL ks ≤ 8
  have : Cu.deepL ks ≤ 7 := Cu.deepL_le.mpr fun u hu => (hk u hu).2
  omega
def cKnF : Ct := fun ds k => ∃ (c : Int) (ks : List Cu), ds = [.int c, .list (ks.map Cu.d)] ∧ ks.length ≤ 12 ∧ (knF c ks).Ok ∧ k.rt (knF c ks).d
theorem knF_v {c : Int} {ks : List Cu} (hl : ks.length ≤ 12) (h : (knF c ks).Ok) : cKnF [.int c, .list (ks.map Cu.d)] (kv (knF c ks).d) := ⟨c, ks, rfl, hl, h, rfl⟩
theorem s_weighed (y : Wy) : (["even", "lack"] : List Str).contains y.s = y.wd := weighed_s y
def cCusF : Ct := fun ds k => ∃ ns : List Int, ds = [.list (ns.map PyData.int)] ∧ ns.length ≤ 63 ∧ ∀ u : Cu, u.Ok → k.rt u.d
theorem cusF_v {ns : List Int} (h : ns.length ≤ 63) : cCusF [.list (ns.map PyData.int)] ⟨isCu, fun _ => False, fun _ => False⟩ := ⟨ns, rfl, h, fun u hu => ⟨u, hu, rfl⟩⟩
end Pu

set_option maxRecDepth 100000
set_option maxHeartbeats 1000000
namespace Pu
open PySem PySem.Spec PyProof.Rows L2
/-! ### closer bounds of what is dealt -/
theorem isum_b {ns : List Int} {B : Nat} (h : small ns B) (hl : ns.length ≤ 128) : ns.sum.natAbs < 2 ^ (B + 8) := sum_lt h hl
/-- the sum at a level: the full ones' claims, and the others' weights times the level -/
theorem lvls_split (l : Rat) : ∀ (ws cs : List Int), ws.length = cs.length → (∀ w ∈ ws, 0 < w) → ∃ as rs : List Int, as.length ≤ cs.length ∧ rs.length ≤ ws.length ∧ (∀ a ∈ as, a ∈ cs) ∧ (∀ r ∈ rs, r ∈ ws) ∧ qsum (lvls (qlist ws) (qlist cs) l) = (as.sum : Rat) + (rs.sum : Rat) * l ∧ (∀ (i : Nat) (w c : Int), ws[i]? = some w → cs[i]? = some c → (w : Rat) * l < (c : Rat) → w ∈ rs)
  | [], [], _, _ => ⟨[], [], Nat.le_refl _, Nat.le_refl _, fun _ h => h, fun _ h => h, by
      show (0 : Rat) = ((0 : Int) : Rat) + ((0 : Int) : Rat) * l
      grind, fun i w c h => by simp at h⟩
  | w :: ws, c :: cs, hl, hw => by
    obtain ⟨as, rs, a1, a2, a3, a4, a5, a6⟩ := lvls_split l ws cs (Nat.succ.inj hl) fun x hx => hw x (List.mem_cons_of_mem _ hx)
    have e : qsum (lvls (qlist (w :: ws)) (qlist (c :: cs)) l) = lvl (w : Rat) (c : Rat) l + qsum (lvls (qlist ws) (qlist cs) l) := rfl
    by_cases h : (w : Rat) * l < (c : Rat)
    · refine ⟨as, w :: rs, by simp; omega, by simp; omega, fun a ha => List.mem_cons_of_mem _ (a3 a ha), fun r hr => ?_, ?_, fun i w' c' h1 h2 h3 => ?_⟩
      · rcases List.mem_cons.mp hr with rfl | hr
        · exact List.mem_cons_self
        · exact List.mem_cons_of_mem _ (a4 r hr)
      · rw [e, a5, List.sum_cons, Rat.intCast_add]
        unfold lvl
        rw [if_pos h]
        grind
      · cases i with
        | zero =>
          obtain rfl := Option.some.inj (show some w = some w' from h1)
          exact List.mem_cons_self
        | succ i => exact List.mem_cons_of_mem _ (a6 i w' c' (by simpa using h1) (by simpa using h2) h3)
    · refine ⟨c :: as, rs, by simp; omega, by simp; omega, fun a ha => ?_, fun r hr => List.mem_cons_of_mem _ (a4 r hr), ?_, fun i w' c' h1 h2 h3 => ?_⟩
      · rcases List.mem_cons.mp ha with rfl | ha
        · exact List.mem_cons_self
        · exact List.mem_cons_of_mem _ (a3 a ha)
      · rw [e, a5, List.sum_cons, Rat.intCast_add]
        unfold lvl
        rw [if_neg h]
        grind
      · cases i with
        | zero =>
          obtain rfl := Option.some.inj (show some w = some w' from h1)
          obtain rfl := Option.some.inj (show some c = some c' from h2)
          exact absurd h3 h
        | succ i => exact a6 i w' c' (by simpa using h1) (by simpa using h2) h3
  | [], _ :: _, h, _ => absurd h (by simp)
  | _ :: _, [], h, _ => absurd h (by simp)
theorem sum_pos_of {rs : List Int} (h : ∀ r ∈ rs, 0 < r) (hne : rs ≠ []) : 0 < rs.sum := by
  induction rs with
  | nil => exact absurd rfl hne
  | cons r s ih =>
    rw [List.sum_cons]
    have h1 := h r List.mem_cons_self
    by_cases e : s = []
    · rw [e]; simpa using h1
    · have := ih (fun x hx => h x (List.mem_cons_of_mem _ hx)) e
      omega
theorem evenD_bt2 {ws cs : List Int} {q : Rat} {B n : Nat} (hl : ws.length = cs.length) (hn : cs.length ≤ 64) (hne : cs ≠ []) (hw : ∀ w ∈ ws, 1 ≤ w ∧ w ≤ 1000000) (hc : ∀ c ∈ cs, 0 ≤ c) (hs : small cs B) (hB : 0 < B) (h0 : 0 ≤ q) (h1 : q ≤ qsum (qlist cs)) (hq : bt q n) : ∀ x ∈ evenD (qlist ws) (qlist cs) q, bt x (n + B + 60) := fun x hx => by
  obtain ⟨l, l0, e, s⟩ := evenD_level (qW_ok hl hw hc) h0 h1 (fun z => hne (by
    have := congrArg List.length z
    rw [qlist_len] at this
    exact List.length_eq_zero_iff.mp this))
  rw [e] at hx
  obtain ⟨i, hi⟩ := List.mem_iff_getElem?.mp hx
  obtain ⟨w, c, hwi, hci, rfl⟩ := lvls_at hi
  obtain ⟨w', hw', rfl⟩ : ∃ w' : Int, ws[i]? = some w' ∧ w = (w' : Rat) := by
    unfold qlist at hwi
    rw [List.getElem?_map] at hwi
    cases q : ws[i]? with
    | none => rw [q] at hwi; cases hwi
    | some v => rw [q] at hwi; exact ⟨v, rfl, (Option.some.inj hwi).symm⟩
  obtain ⟨c', hc', rfl⟩ : ∃ c' : Int, cs[i]? = some c' ∧ c = (c' : Rat) := by
    unfold qlist at hci
    rw [List.getElem?_map] at hci
    cases q : cs[i]? with
    | none => rw [q] at hci; cases hci
    | some v => rw [q] at hci; exact ⟨v, rfl, (Option.some.inj hci).symm⟩
  have bc : bt ((c' : Int) : Rat) B := bt_int (hs c' (List.mem_of_getElem? hc')) hB
  obtain ⟨as, rs, a1, a2, a3, a4, a5, a6⟩ := lvls_split l ws cs hl fun w h => by have := hw w h; omega
  unfold lvl
  split
  · rename_i hlt
    have hm := a6 i w' c' hw' hc' hlt
    have hR := sum_pos_of (fun r hr => by have := hw r (a4 r hr); omega) (List.ne_nil_of_mem hm)
    rw [← e, s] at a5
    have bA : bt ((as.sum : Int) : Rat) (B + 8) := bt_int (isum_b (fun a ha => hs a (a3 a ha)) (by omega)) (by omega)
    have bR : bt ((rs.sum : Int) : Rat) 28 := bt_int (isum_b (B := 20) (fun r hr => by
      have := hw r (a4 r hr)
      have p20 : (2 : Nat) ^ 20 = 1048576 := by decide
      omega) (by omega)) (by decide)
    have bw : bt ((w' : Int) : Rat) 20 := bt_int (by
      have := hw w' (List.mem_of_getElem? hw')
      have p20 : (2 : Nat) ^ 20 = 1048576 := by decide
      omega) (by decide)
    have hRq : ((rs.sum : Int) : Rat) ≠ 0 := by
      intro z
      have : rs.sum = 0 := by exact_mod_cast z
      omega
    have el : (w' : Rat) * l = (w' : Rat) * ((q - (as.sum : Rat)) / (rs.sum : Rat)) := by
      rw [a5]
      congr 1
      rw [show (as.sum : Rat) + (rs.sum : Rat) * l - (as.sum : Rat) = l * (rs.sum : Rat) by grind, Rat.div_def, Rat.mul_assoc, Rat.mul_inv_cancel _ hRq, Rat.mul_one]
    rw [el]
    exact (bt_times bw (bt_over (bt_minus hq bA) bR hRq)).mono (by omega)
  · exact bc.mono (by omega)
theorem clip_bt {c q : Rat} {n m : Nat} (hc : bt c m) (hq : bt q n) : bt (clip c q) (n + m) := by
  unfold clip
  have := hc.pos
  have := hq.pos
  split
  · exact bt_zero.mono (by omega)
  · split
    · exact hc.mono (by omega)
    · exact hq.mono (by omega)
theorem qlist_take (cs : List Int) (k : Nat) : (qlist cs).take k = qlist (cs.take k) := by
  unfold qlist
  rw [List.map_take]
theorem small_take {cs : List Int} {B : Nat} (h : small cs B) (k : Nat) : small (cs.take k) B := fun c hc => h c (List.mem_of_mem_take hc)
theorem rowD_bt2 {cs : List Int} {q : Rat} {B n : Nat} (hn : cs.length ≤ 64) (hc : ∀ c ∈ cs, 0 ≤ c) (hs : small cs B) (hB : 0 < B) (h0 : 0 ≤ q) (hq : bt q n) : ∀ x ∈ rowD (qlist cs) q, bt x (n + B + B + 20) := fun x hx => by
  rw [rowD_is (nn_q hc) h0] at hx
  obtain ⟨i, hi⟩ := List.mem_iff_getElem?.mp hx
  obtain ⟨c, hci, rfl⟩ := fillD_at _ _ _ _ _ hi
  have bc : bt c B := by
    obtain ⟨v, hv, rfl⟩ := List.mem_map.mp (List.mem_of_getElem? hci)
    exact bt_int (hs v hv) hB
  have bA : bt (0 + qsum ((qlist cs).take i)) (B + 8) := by
    rw [Rat.zero_add, qlist_take, qlist_sum]
    exact bt_int (isum_b (small_take hs i) (by rw [List.length_take]; omega)) (by omega)
  exact (clip_bt bc (bt_minus hq bA)).mono (by omega)
theorem bt_twice {q : Rat} {n : Nat} (h : bt q n) : bt (q + q) (n + 2) := by
  have h2 : bt (2 : Rat) 2 := ⟨by decide +kernel, by decide +kernel⟩
  rw [show q + q = 2 * q by grind]
  exact (bt_times h2 h).mono (by omega)
structure Din (y : Wy) (ws cs : List Int) (B : Nat) : Prop where
  ne : cs ≠ []
  nn : ∀ c ∈ cs, 0 ≤ c
  len : cs.length ≤ 64
  sc : small cs B
  b0 : 0 < B
  wt : y.wd = true → ws.length = cs.length ∧ ∀ w ∈ ws, 1 ≤ w ∧ w ≤ 1000000
theorem bt_lack {cs : List Int} {gs : List Rat} {B n : Nat} (hs : small cs B) (hB : 0 < B) (hg : ∀ g ∈ gs, bt g n) : ∀ x ∈ lackD (qlist cs) gs, bt x (B + n + 1) := bt_lackD hs hB hg
theorem dealOf_bt2 {y : Wy} {ws cs : List Int} {q : Rat} {B n : Nat} (h : Din y ws cs B) (h0 : 0 ≤ q) (h1 : q ≤ qsum (qlist cs)) (hq : bt q n) : ∀ x ∈ dealOf y (qlist ws) (qlist cs) q, bt x (n + 3 * B + 90) := fun x hx => by
  have hb0 := h.b0
  have bS : bt (qsum (qlist cs)) (B + 8) := by
    rw [qlist_sum]
    exact bt_int (isum_b h.sc (by have := h.len; omega)) (by omega)
  have h1s : ∀ os : List Int, os = cs.map (fun _ => 1) → os.length = cs.length ∧ (∀ w ∈ os, 1 ≤ w ∧ w ≤ 1000000) ∧ qlist os = ones (qlist cs) := fun os e => by
    refine ⟨by rw [e, List.length_map], fun w hw => ?_, by rw [e, ← ones_q]⟩
    rw [e] at hw
    obtain ⟨_, _, rfl⟩ := List.mem_map.mp hw
    decide
  cases y with
  | row => exact (rowD_bt2 h.len h.nn h.sc hb0 h0 hq x hx).mono (by omega)
  | back =>
    have hx' : x ∈ (rowD (qlist cs).reverse q).reverse := hx
    rw [List.mem_reverse, qlist_rev] at hx'
    exact (rowD_bt2 (by rw [List.length_reverse]; exact h.len) (fun c hc => h.nn c (List.mem_reverse.mp hc)) (small_rev h.sc) hb0 h0 hq x hx').mono (by omega)
  | even =>
    obtain ⟨hl, hw⟩ := h.wt rfl
    exact (evenD_bt2 hl h.len h.ne hw h.nn h.sc hb0 h0 h1 hq x hx).mono (by omega)
  | lack =>
    obtain ⟨hl, hw⟩ := h.wt rfl
    have := evenD_bt2 hl h.len h.ne hw h.nn h.sc hb0 (q := qsum (qlist cs) - q) (by grind) (by grind) (bt_minus bS hq)
    exact (bt_lack h.sc hb0 this x hx).mono (by omega)
  | part =>
    have hx' : x ∈ partD (qlist cs) q := hx
    rw [partD_map (nn_q h.nn)] at hx'
    obtain ⟨c, hc, rfl⟩ := List.mem_map.mp hx'
    obtain ⟨v, hv, rfl⟩ := List.mem_map.mp hc
    exact (bt_times (bt_int (h.sc v hv) hb0) (bt_div0 hq bS)).mono (by omega)
  | half =>
    obtain ⟨ol, ow, oq⟩ := h1s _ rfl
    have hx' : x ∈ halfD (qlist cs) q := hx
    unfold halfD at hx'
    rw [← oq] at hx'
    split at hx'
    · have e : qsum (qlist cs) + qsum (qlist cs) - (q + q) = (qsum (qlist cs) - q) + (qsum (qlist cs) - q) := by grind
      rw [e] at hx'
      have := evenD_bt2 ol h.len h.ne ow h.nn h.sc hb0 (q := (qsum (qlist cs) - q) + (qsum (qlist cs) - q)) (by grind) (by grind) (bt_twice (bt_minus bS hq))
      exact (bt_lack h.sc hb0 (bt_hv this) x hx').mono (by omega)
    · have := evenD_bt2 ol h.len h.ne ow h.nn h.sc hb0 (q := q + q) (by grind) (by grind) (bt_twice hq)
      exact (bt_hv this x hx').mono (by omega)
theorem knot_din {y : Wy} {ws : List Int} {ks : List Cu} (h : (Cu.knot y ws ks).Ok) : Din y ws (ks.map Cu.sum) 40 := by
  have hl := h.ok.1.2.1
  refine ⟨fun z => h.ok.1.1 (by
    have := congrArg List.length z
    rw [List.length_map] at this
    exact List.length_eq_zero_iff.mp this), sums_nn h, by rw [List.length_map]; omega, sums_small h, by decide, fun hy => ?_⟩
  have := wfit_iff.mp h.ok.1.2.2
  rw [if_pos hy] at this
  rw [List.length_map]
  exact this
theorem deal_bt2 : ∀ {u : Cu}, u.Ok → ∀ {q : Rat} {n : Nat}, 0 ≤ q → q ≤ (u.sum : Rat) → bt q n → ∀ x ∈ u.deal q, bt x (n + u.deep * 210) := fun {u} => Cu.ind (P := fun u => u.Ok → ∀ {q : Rat} {n : Nat}, 0 ≤ q → q ≤ (u.sum : Rat) → bt q n → ∀ x ∈ u.deal q, bt x (n + u.deep * 210)) (fun c _ q n _ _ hq x hx => by
    have hx' : x ∈ [q] := hx
    obtain rfl := List.mem_singleton.mp hx'
    exact hq.mono (by omega)) (fun y ws ks ih h q n h0 h1 hq x hx => by
    have hd := knot_din h
    have h1' := sums_le h1
    have hg := dealOf_bt2 hd h0 h1' hq
    have hdl := dealOf_ok (fit_knot h.ok) h0 h1'
    have hx' : x ∈ Cu.dealL ks (dealOf y (qlist ws) (qlist (ks.map Cu.sum)) q) := hx
    refine (dealL_bt ks _ (n + (Cu.knot y ws ks).deep * 210) (by rw [hdl.len, qlist_len, List.length_map]) (fun i k g hk hgi => ?_) x hx')
    have hm := List.mem_of_getElem? hk
    have hb := hdl.get hgi (qlist_at (by rw [List.getElem?_map, hk]; rfl))
    have hdp := Cu.deep_kid (y := y) (ws := ws) hm
    intro z hz
    refine (ih k hm (h.kid hm) hb.1 hb.2 (hg g (List.mem_of_getElem? hgi)) z hz).mono ?_
    have : (k.deep + 1) * 210 ≤ (Cu.knot y ws ks).deep * 210 := Nat.mul_le_mul_right _ hdp
    omega) u
theorem shares_b2 {u : Cu} {q : Rat} {n : Nat} (h : u.Ok) (h0 : 0 ≤ q) (h1 : q ≤ (u.sum : Rat)) (hq : bt q n) : ∀ x ∈ u.deal q, bt x (n + 1680) := fun x hx => (deal_bt2 h h0 h1 hq x hx).mono (by have := h.low; omega)
end Pu

set_option maxRecDepth 100000
set_option maxHeartbeats 1000000
namespace Pu
open PySem PySem.Spec PyProof.Rows L2
/-! ### amounts, kid by kid -/
def partsF : List Cu → List Rat → List (List Rat)
  | [], _ => []
  | k :: r, xs => xs.take k.claims.length :: partsF r (xs.drop k.claims.length)
theorem partsF_len : ∀ (ks : List Cu) (xs : List Rat), (partsF ks xs).length = ks.length
  | [], _ => rfl
  | k :: r, xs => by
    show (partsF r _).length + 1 = r.length + 1
    rw [partsF_len r]
theorem partsF_at : ∀ (ks : List Cu) (xs : List Rat) (i : Nat) (k : Cu), ks[i]? = some k → (partsF ks xs)[i]? = some ((xs.drop (Cu.claimsL (ks.take i)).length).take k.claims.length)
  | [], _, i, k, h => by simp at h
  | x :: r, xs, 0, k, h => by
    obtain rfl := Option.some.inj (show some x = some k from h)
    rfl
  | x :: r, xs, i + 1, k, h => by
    have := partsF_at r (xs.drop x.claims.length) i k (by simpa using h)
    show (partsF r _)[i]? = _
    rw [this, List.drop_drop]
    congr 3
    show _ = (x.claims ++ Cu.claimsL (r.take i)).length
    rw [List.length_append]
theorem partsF_cut (ks : List Cu) (xs : List Rat) (i : Nat) (k : Cu) (h : ks[i]? = some k) : partsF (ks.take (i + 1)) xs = partsF (ks.take i) xs ++ [(xs.drop (Cu.claimsL (ks.take i)).length).take k.claims.length] := by
  have hi := getElem?_lt h
  refine List.ext_getElem? fun j => ?_
  by_cases hj : j < i
  · obtain ⟨kj, hkj⟩ : ∃ kj, ks[j]? = some kj := ⟨_, List.getElem?_eq_getElem (by omega)⟩
    rw [List.getElem?_append_left (by rw [partsF_len, List.length_take]; omega), partsF_at _ xs j kj (by rw [List.getElem?_take_of_lt (by omega)]; exact hkj), partsF_at _ xs j kj (by rw [List.getElem?_take_of_lt hj]; exact hkj), List.take_take, List.take_take, Nat.min_eq_left (by omega), Nat.min_eq_left (by omega)]
  · by_cases hj2 : j = i
    · subst hj2
      rw [partsF_at _ xs j k (by rw [List.getElem?_take_of_lt (by omega)]; exact h), List.getElem?_append_right (by rw [partsF_len, List.length_take]; omega), partsF_len, List.length_take, Nat.min_eq_left (by omega), Nat.sub_self, List.take_take, Nat.min_eq_left (by omega)]
      rfl
    · rw [List.getElem?_eq_none_iff.mpr (by rw [partsF_len, List.length_take]; omega), List.getElem?_eq_none_iff.mpr (by rw [List.length_append, partsF_len, List.length_take]; simp; omega)]
def sumsF (ks : List Cu) (xs : List Rat) : List Rat := (partsF ks xs).map qsum
theorem sumsF_len (ks : List Cu) (xs : List Rat) : (sumsF ks xs).length = ks.length := by
  unfold sumsF
  rw [List.length_map, partsF_len]
theorem sumsF_sum : ∀ (ks : List Cu) (xs : List Rat), xs.length = (Cu.claimsL ks).length → qsum (sumsF ks xs) = qsum xs
  | [], xs, h => by
    have : xs = [] := List.length_eq_zero_iff.mp h
    rw [this]
    rfl
  | k :: r, xs, h => by
    have hl : xs.length = k.claims.length + (Cu.claimsL r).length := by
      rw [h]
      show (k.claims ++ Cu.claimsL r).length = _
      rw [List.length_append]
    show qsum (xs.take k.claims.length) + qsum (sumsF r (xs.drop k.claims.length)) = qsum xs
    rw [sumsF_sum r _ (by rw [List.length_drop]; omega), ← qsum_append, List.take_append_drop]
/-- the parts of what a knot's kids deal -/
theorem parts_deal : ∀ (ks : List Cu) (gs : List Rat), gs.length = ks.length → (∀ (i : Nat) (k : Cu) (g : Rat), ks[i]? = some k → gs[i]? = some g → (k.deal g).length = k.claims.length) → partsF ks (Cu.dealL ks gs) = List.zipWith (fun k g => k.deal g) ks gs
  | [], [], _, _ => rfl
  | k :: r, g :: gs, hl, h => by
    have e := h 0 k g rfl rfl
    show (k.deal g ++ Cu.dealL r gs).take k.claims.length :: partsF r ((k.deal g ++ Cu.dealL r gs).drop k.claims.length) = k.deal g :: List.zipWith (fun k g => k.deal g) r gs
    rw [← e, List.take_left', List.drop_left', parts_deal r gs (Nat.succ.inj hl) fun i k' g' h1 h2 => h (i + 1) k' g' (by simpa using h1) (by simpa using h2)]
    · rfl
    · rfl
  | [], _ :: _, hl, _ => absurd hl (by simp)
  | _ :: _, [], hl, _ => absurd hl (by simp)
/-! ### the first pair that is wrong -/
def isFirst (W : Nat → Nat → Bool) (n : Nat) : Option (Nat × Nat) → Prop
  | none => ∀ i j, i < j → j < n → W i j = false
  | some (i, j) => i < j ∧ j < n ∧ W i j = true ∧ ∀ a b, a < b → b < n → (a < i ∨ (a = i ∧ b < j)) → W a b = false
theorem isFirst_uniq {W : Nat → Nat → Bool} {n : Nat} : ∀ {o p : Option (Nat × Nat)}, isFirst W n o → isFirst W n p → o = p
  | none, none, _, _ => rfl
  | none, some (i, j), h, g => by
    obtain ⟨g1, g2, g3, _⟩ := g
    rw [h i j g1 g2] at g3
    cases g3
  | some (i, j), none, h, g => by
    obtain ⟨g1, g2, g3, _⟩ := h
    rw [g i j g1 g2] at g3
    cases g3
  | some (i, j), some (a, b), h, g => by
    obtain ⟨h1, h2, h3, h4⟩ := h
    obtain ⟨g1, g2, g3, g4⟩ := g
    by_cases e : i < a ∨ (i = a ∧ j < b)
    · rw [g4 i j h1 h2 e] at h3
      cases h3
    · by_cases f : a < i ∨ (a = i ∧ b < j)
      · rw [h4 a b g1 g2 f] at g3
        cases g3
      · have : i = a ∧ j = b := by omega
        rw [this.1, this.2]
instance (y : Wy) (ws cs xs : List Rat) (i j : Nat) : Decidable (pairOk y ws cs xs i j) := by
  unfold pairOk
  infer_instance
def wrongW (y : Wy) (ws : List Int) (ks : List Cu) (ss : List Rat) (i j : Nat) : Bool := !decide (pairOk y (qlist ws) (qlist (ks.map Cu.sum)) ss i j)
abbrev Wr := Option (List Nat × Nat × Nat)
mutual
def isWrong : Cu → List Rat → Wr → Prop
  | .boat _, _, o => o = none
  | .knot y ws ks, xs, o => (∃ i j, isFirst (wrongW y ws ks (sumsF ks xs)) ks.length (some (i, j)) ∧ o = some ([], i, j)) ∨ (isFirst (wrongW y ws ks (sumsF ks xs)) ks.length none ∧ isWrongL ks xs 0 o)
def isWrongL : List Cu → List Rat → Nat → Wr → Prop
  | [], _, _, o => o = none
  | k :: r, xs, m, o => (∃ p i j, isWrong k (xs.take k.claims.length) (some (p, i, j)) ∧ o = some (m :: p, i, j)) ∨ (isWrong k (xs.take k.claims.length) none ∧ isWrongL r (xs.drop k.claims.length) (m + 1) o)
end
theorem isWrongL_uniq : ∀ (ks : List Cu) (xs : List Rat) (m : Nat) (o p : Wr), (∀ k ∈ ks, ∀ xs o p, isWrong k xs o → isWrong k xs p → o = p) → isWrongL ks xs m o → isWrongL ks xs m p → o = p
  | [], _, _, o, p, _, h, g => by
    have h' : o = none := h
    have g' : p = none := g
    rw [h', g']
  | k :: r, xs, m, o, p, ih, h, g => by
    have hk := ih k List.mem_cons_self (xs.take k.claims.length)
    rcases h with ⟨a, i, j, h1, rfl⟩ | ⟨h1, h2⟩
    · rcases g with ⟨b, i', j', g1, rfl⟩ | ⟨g1, _⟩
      · have := hk _ _ h1 g1
        cases this
        rfl
      · have := hk _ _ h1 g1
        cases this
    · rcases g with ⟨b, i', j', g1, rfl⟩ | ⟨g1, g2⟩
      · have := hk _ _ h1 g1
        cases this
      · exact isWrongL_uniq r _ _ o p (fun k hk => ih k (List.mem_cons_of_mem _ hk)) h2 g2
theorem isWrong_uniq : ∀ (u : Cu) (xs : List Rat) (o p : Wr), isWrong u xs o → isWrong u xs p → o = p := fun u => Cu.ind (P := fun u => ∀ (xs : List Rat) (o p : Wr), isWrong u xs o → isWrong u xs p → o = p) (fun c xs o p h g => by
    have h' : o = none := h
    have g' : p = none := g
    rw [h', g']) (fun y ws ks ih xs o p h g => by
    rcases h with ⟨i, j, h1, rfl⟩ | ⟨h1, h2⟩
    · rcases g with ⟨a, b, g1, rfl⟩ | ⟨g1, _⟩
      · have := isFirst_uniq h1 g1
        cases this
        rfl
      · have := isFirst_uniq h1 g1
        cases this
    · rcases g with ⟨a, b, g1, rfl⟩ | ⟨g1, g2⟩
      · have := isFirst_uniq h1 g1
        cases this
      · exact isWrongL_uniq ks xs 0 o p ih h2 g2) u
/-! ### no pair is wrong: just what the custom deals -/
def within (cs : List Int) (xs : List Rat) : Prop := xs.length = cs.length ∧ ∀ (i : Nat) (x : Rat) (c : Int), xs[i]? = some x → cs[i]? = some c → 0 ≤ x ∧ x ≤ (c : Rat)
theorem within_dl {cs : List Int} {xs : List Rat} (h : within cs xs) : Dl (qlist cs) xs (qsum xs) := Dl.of (by rw [h.1, qlist_len]) (fun i x c hx hc => by
    unfold qlist at hc
    rw [List.getElem?_map] at hc
    cases e : cs[i]? with
    | none => rw [e] at hc; cases hc
    | some v =>
      rw [e] at hc
      obtain rfl := Option.some.inj hc
      exact h.2 i x v hx e) rfl
theorem within_of {cs : List Int} {xs : List Rat} {q : Rat} (h : Dl (qlist cs) xs q) : within cs xs := ⟨by rw [h.len, qlist_len], fun i x c hx hc => h.get hx (qlist_at hc)⟩
theorem within_sum {u : Cu} {xs : List Rat} (h : within u.claims xs) : 0 ≤ qsum xs ∧ qsum xs ≤ (u.sum : Rat) := by
  have hd := within_dl h
  have h1 := leAll_sum hd.lo
  have h2 := leAll_sum hd.hi
  rw [zeros_sum] at h1
  rw [Cu.sum_rat]
  exact ⟨h1, h2⟩
theorem within_part : ∀ (ks : List Cu) (xs : List Rat), within (Cu.claimsL ks) xs → ∀ (i : Nat) (k : Cu), ks[i]? = some k → within k.claims ((xs.drop (Cu.claimsL (ks.take i)).length).take k.claims.length)
  | [], _, _, i, k, h => by simp at h
  | x :: r, xs, hw, i, k, h => by
    obtain ⟨hl, hb⟩ := hw
    have hl' : xs.length = x.claims.length + (Cu.claimsL r).length := by
      rw [hl]
      show (x.claims ++ Cu.claimsL r).length = _
      rw [List.length_append]
    cases i with
    | zero =>
      obtain rfl := Option.some.inj (show some x = some k from h)
      refine ⟨by
        show (xs.take x.claims.length).length = _
        rw [List.length_take]
        omega, fun j a c ha hc => ?_⟩
      have hj := getElem?_lt hc
      refine hb j a c ?_ ?_
      · have ha' : (xs.take x.claims.length)[j]? = some a := ha
        rwa [List.getElem?_take_of_lt hj] at ha'
      · show (x.claims ++ Cu.claimsL r)[j]? = _
        rw [List.getElem?_append_left hj]
        exact hc
    | succ i =>
      have := within_part r (xs.drop x.claims.length) ⟨by rw [List.length_drop]; omega, fun j a c ha hc => by
        rw [List.getElem?_drop] at ha
        refine hb _ a c ha ?_
        show (x.claims ++ Cu.claimsL r)[x.claims.length + j]? = _
        rw [List.getElem?_append_right (by omega), Nat.add_sub_cancel_left]
        exact hc⟩ i k (by simpa using h)
      rw [List.drop_drop] at this
      have e : (Cu.claimsL ((x :: r).take (i + 1))).length = x.claims.length + (Cu.claimsL (r.take i)).length := by
        show (x.claims ++ Cu.claimsL (r.take i)).length = _
        rw [List.length_append]
      rw [e]
      exact this
theorem sums_dl {y : Wy} {ws : List Int} {ks : List Cu} {xs : List Rat} (h : (Cu.knot y ws ks).ok) (hw : within (Cu.claimsL ks) xs) : Dl (qlist (ks.map Cu.sum)) (sumsF ks xs) (qsum xs) := by
  refine Dl.of (by rw [sumsF_len, qlist_len, List.length_map]) (fun i x c hx hc => ?_) (sumsF_sum ks xs hw.1)
  unfold sumsF at hx
  rw [List.getElem?_map] at hx
  obtain ⟨k, hk⟩ : ∃ k, ks[i]? = some k := ⟨_, List.getElem?_eq_getElem (by
    have := getElem?_lt hc
    rw [qlist_len, List.length_map] at this
    exact this)⟩
  rw [partsF_at ks xs i k hk] at hx
  obtain rfl := Option.some.inj hx
  have hc' := qlist_at (ns := ks.map Cu.sum) (i := i) (n := k.sum) (by rw [List.getElem?_map, hk]; rfl)
  rw [hc'] at hc
  obtain rfl := Option.some.inj hc
  exact within_sum (within_part ks xs hw i k hk)
theorem noW_iff {y : Wy} {ws : List Int} {ks : List Cu} {ss : List Rat} : isFirst (wrongW y ws ks ss) ks.length none ↔ ∀ i j, i < j → j < ks.length → pairOk y (qlist ws) (qlist (ks.map Cu.sum)) ss i j := by
  constructor
  · intro h i j hij hj
    have := h i j hij hj
    unfold wrongW at this
    simpa using this
  · intro h i j hij hj
    unfold wrongW
    simpa using h i j hij hj
theorem isWrongL_none : ∀ (ks : List Cu) (xs : List Rat) (m : Nat), isWrongL ks xs m none ↔ ∀ (i : Nat) (k : Cu), ks[i]? = some k → isWrong k ((xs.drop (Cu.claimsL (ks.take i)).length).take k.claims.length) none
  | [], _, _ => ⟨fun _ i k h => by simp at h, fun _ => rfl⟩
  | x :: r, xs, m => by
    have ih := isWrongL_none r (xs.drop x.claims.length) (m + 1)
    constructor
    · intro h i k hk
      rcases h with ⟨_, _, _, _, z⟩ | ⟨h1, h2⟩
      · cases z
      · cases i with
        | zero =>
          obtain rfl := Option.some.inj (show some x = some k from hk)
          exact h1
        | succ i =>
          have := ih.mp h2 i k (by simpa using hk)
          rw [List.drop_drop] at this
          have e : (Cu.claimsL ((x :: r).take (i + 1))).length = x.claims.length + (Cu.claimsL (r.take i)).length := by
            show (x.claims ++ Cu.claimsL (r.take i)).length = _
            rw [List.length_append]
          rw [e]
          exact this
    · intro h
      refine .inr ⟨h 0 x rfl, ih.mpr fun i k hk => ?_⟩
      have := h (i + 1) k (by simpa using hk)
      have e : (Cu.claimsL ((x :: r).take (i + 1))).length = x.claims.length + (Cu.claimsL (r.take i)).length := by
        show (x.claims ++ Cu.claimsL (r.take i)).length = _
        rw [List.length_append]
      rw [e, ← List.drop_drop] at this
      exact this
theorem dealL_zip : ∀ (ks : List Cu) (gs : List Rat) (xs : List Rat), xs.length = (Cu.claimsL ks).length → (∀ (i : Nat) (k : Cu) (g : Rat), ks[i]? = some k → gs[i]? = some g → (xs.drop (Cu.claimsL (ks.take i)).length).take k.claims.length = k.deal g) → gs.length = ks.length → xs = Cu.dealL ks gs
  | [], _, xs, h, _, _ => List.length_eq_zero_iff.mp h
  | _ :: _, [], _, _, _, hl => absurd hl (by simp)
  | k :: r, g :: gs, xs, h, hp, hl => by
    have h0 := hp 0 k g rfl rfl
    have h0' : xs.take k.claims.length = k.deal g := h0
    have hlx : xs.length = k.claims.length + (Cu.claimsL r).length := by
      rw [h]
      show (k.claims ++ Cu.claimsL r).length = _
      rw [List.length_append]
    have := dealL_zip r gs (xs.drop k.claims.length) (by rw [List.length_drop]; omega) (fun i k' g' h1 h2 => by
      have := hp (i + 1) k' g' (by simpa using h1) (by simpa using h2)
      have e : (Cu.claimsL ((k :: r).take (i + 1))).length = k.claims.length + (Cu.claimsL (r.take i)).length := by
        show (k.claims ++ Cu.claimsL (r.take i)).length = _
        rw [List.length_append]
      rw [e, ← List.drop_drop] at this
      exact this) (Nat.succ.inj hl)
    show xs = k.deal g ++ Cu.dealL r gs
    rw [← this, ← h0', List.take_append_drop]
/-- no pair of any knot is wrong just where the amounts are what the custom deals at their sum -/
theorem wrong_none : ∀ {u : Cu}, u.ok → ∀ {xs : List Rat}, within u.claims xs → (isWrong u xs none ↔ xs = u.deal (qsum xs)) := fun {u} => Cu.ind (P := fun u => u.ok → ∀ {xs : List Rat}, within u.claims xs → (isWrong u xs none ↔ xs = u.deal (qsum xs))) (fun c _ xs hw => by
    obtain ⟨x, rfl⟩ := List.length_eq_one_iff.mp hw.1
    refine ⟨fun _ => ?_, fun _ => rfl⟩
    show [x] = [x + 0]
    rw [Rat.add_zero]) (fun y ws ks ih h xs hw => by
    have hw' : within (Cu.claimsL ks) xs := hw
    have hd := sums_dl h hw'
    have hs := within_sum hw
    have hf := fit_knot h
    have hsum := sumsF_sum ks xs hw'.1
    have h1' : qsum xs ≤ qsum (qlist (ks.map Cu.sum)) := sums_le hs.2
    have pi := pairs_iff hf hd.len (by rw [hsum]; exact hs.1) (by rw [hsum]; exact h1')
    rw [hsum] at pi
    have hlen : (qlist (ks.map Cu.sum)).length = ks.length := by rw [qlist_len, List.length_map]
    have kid : ∀ (i : Nat) (k : Cu), ks[i]? = some k → (isWrong k ((xs.drop (Cu.claimsL (ks.take i)).length).take k.claims.length) none ↔ (xs.drop (Cu.claimsL (ks.take i)).length).take k.claims.length = k.deal (gD (sumsF ks xs) i)) := fun i k hk => by
      have hm := List.mem_of_getElem? hk
      have := ih k hm (Cu.ok_kid h hm) (within_part ks xs hw' i k hk)
      have e : gD (sumsF ks xs) i = qsum ((xs.drop (Cu.claimsL (ks.take i)).length).take k.claims.length) := by
        unfold sumsF
        exact gD_at (by rw [List.getElem?_map, partsF_at ks xs i k hk]; rfl)
      rw [e]
      exact this
    constructor
    · intro hz
      rcases hz with ⟨_, _, _, z⟩ | ⟨z1, z2⟩
      · cases z
      · have p := pi.mpr fun i j hij hj => noW_iff.mp z1 i j hij (by rw [hlen] at hj; exact hj)
        have kk := (isWrongL_none ks xs 0).mp z2
        show xs = Cu.dealL ks (dealOf y (qlist ws) (qlist (ks.map Cu.sum)) (qsum xs))
        rw [← p]
        exact dealL_zip ks _ xs hw'.1 (fun i k g h1 h2 => by
          rw [← gD_at h2]
          exact (kid i k h1).mp (kk i k h1)) (sumsF_len ks xs)
    · intro hz
      have hz' : xs = Cu.dealL ks (dealOf y (qlist ws) (qlist (ks.map Cu.sum)) (qsum xs)) := hz
      have hdl := dealOf_ok hf hs.1 h1'
      obtain ⟨gs, hgs⟩ : ∃ gs, gs = dealOf y (qlist ws) (qlist (ks.map Cu.sum)) (qsum xs) := ⟨_, rfl⟩
      rw [← hgs] at hz' hdl
      have hgl : gs.length = ks.length := by rw [hdl.len, hlen]
      have hkl : ∀ (i : Nat) (k : Cu) (g : Rat), ks[i]? = some k → gs[i]? = some g → (k.deal g).length = k.claims.length ∧ qsum (k.deal g) = g := fun i k g h1 h2 => by
        have hb := hdl.get h2 (qlist_at (by rw [List.getElem?_map, h1]; rfl))
        have hk := Cu.ok_kid h (List.mem_of_getElem? h1)
        exact ⟨deal_len hk hb.1 hb.2, (deal_dl hk hb.1 hb.2).sum⟩
      have hp := parts_deal ks gs hgl fun i k g h1 h2 => (hkl i k g h1 h2).1
      rw [← hz'] at hp
      have hsg : sumsF ks xs = gs := by
        unfold sumsF
        rw [hp]
        refine List.ext_getElem? fun i => ?_
        by_cases hi : i < ks.length
        · obtain ⟨k, hk⟩ : ∃ k, ks[i]? = some k := ⟨_, List.getElem?_eq_getElem hi⟩
          obtain ⟨g, hg⟩ : ∃ g, gs[i]? = some g := ⟨_, List.getElem?_eq_getElem (by omega)⟩
          rw [List.getElem?_map, List.getElem?_zipWith, hk, hg]
          exact congrArg some (hkl i k g hk hg).2
        · rw [List.getElem?_eq_none_iff.mpr (by rw [List.length_map, List.length_zipWith]; omega), List.getElem?_eq_none_iff.mpr (by omega)]
      refine .inr ⟨noW_iff.mpr fun i j hij hj => ?_, (isWrongL_none ks xs 0).mpr fun i k hk => ?_⟩
      · exact pi.mp (by rw [hsg, hgs]) i j hij (by rw [hlen]; exact hj)
      · refine (kid i k hk).mpr ?_
        have hpi := partsF_at ks xs i k hk
        obtain ⟨g, hg⟩ : ∃ g, gs[i]? = some g := ⟨_, List.getElem?_eq_getElem (by have := getElem?_lt hk; omega)⟩
        rw [hp, List.getElem?_zipWith, hk, hg] at hpi
        rw [hsg, gD_at hg]
        exact (Option.some.inj hpi).symm) u
end Pu

set_option maxRecDepth 100000
set_option maxHeartbeats 1000000
namespace Pu
open PySem PySem.Spec PyProof.Rows L2
/-! ### contracts of what finds back -/
def cLookMany (C : Addr) : Ct := fun ds k => ∃ (u : Cu) (d : D) (es : List D), ds = [u.d, d] ∧ SeqD d es ∧ u.deep ≤ 20 ∧ u.claims.length ≤ 100000 ∧ (es.length ≠ u.claims.length → k.ex (.ref C)) ∧ (es.length = u.claims.length → k.rt .none)
theorem lookMany_v {C : Addr} {u : Cu} {d : D} {es : List D} (hd : SeqD d es) (h1 : u.deep ≤ 20) (h2 : u.claims.length ≤ 100000) (h : es.length = u.claims.length) : cLookMany C [u.d, d] (kv .none) := ⟨u, d, es, rfl, hd, h1, h2, fun z => absurd h z, fun _ => rfl⟩
theorem lookMany_x {C : Addr} {u : Cu} {d : D} {es : List D} (hd : SeqD d es) (h1 : u.deep ≤ 20) (h2 : u.claims.length ≤ 100000) (h : es.length ≠ u.claims.length) : cLookMany C [u.d, d] (kx (.ref C)) := ⟨u, d, es, rfl, hd, h1, h2, fun _ => rfl, fun z => absurd z h⟩
def beyQ (q : Rat) (c : Int) : Bool := decide (q < 0) || decide ((c : Rat) < q)
def cBeyond : Ct := fun ds k => ∃ (q : Rat) (c : Int) (n : Nat), ds = [fr q, .int c] ∧ bt q n ∧ c.natAbs < 2 ^ n ∧ n ≤ 10000000 ∧ k.rt (.bool (beyQ q c))
theorem beyond_v {q : Rat} {c : Int} {n : Nat} (h : bt q n) (hc : c.natAbs < 2 ^ n) (hn : n ≤ 10000000) : cBeyond [fr q, .int c] (kv (.bool (beyQ q c))) := ⟨q, c, n, rfl, h, hc, hn, rfl⟩
theorem beyQ_no {q : Rat} {c : Int} : beyQ q c = false ↔ 0 ≤ q ∧ q ≤ (c : Rat) := by
  unfold beyQ
  rw [Bool.or_eq_false_iff, decide_eq_false_iff_not, decide_eq_false_iff_not]
  constructor
  · rintro ⟨a, b⟩
    exact ⟨by grind, by grind⟩
  · rintro ⟨a, b⟩
    exact ⟨by grind, by grind⟩
def partsD (ps : List (List Rat)) : List D := ps.map fun p => .list (fls p)
def cPartsOf : Ct := fun ds k => ∃ (y : Wy) (ws : List Int) (ks : List Cu) (xs : List Rat), ds = [(Cu.knot y ws ks).d, .list (fls xs)] ∧ (Cu.knot y ws ks).Ok ∧ xs.length = (Cu.claimsL ks).length ∧ k.rl (partsD (partsF ks xs))
theorem partsOf_v {y : Wy} {ws : List Int} {ks : List Cu} {xs : List Rat} (h : (Cu.knot y ws ks).Ok) (hl : xs.length = (Cu.claimsL ks).length) : cPartsOf [(Cu.knot y ws ks).d, .list (fls xs)] (kl (partsD (partsF ks xs))) := ⟨y, ws, ks, xs, rfl, h, hl, rfl⟩
def cPairWrong : Ct := fun ds k => ∃ (y : Wy) (ws : List Int) (ks : List Cu) (ss : List Rat) (i j n : Nat), ds = [(Cu.knot y ws ks).d, .list (fls ss), .int (i : Int), .int (j : Int)] ∧ (Cu.knot y ws ks).Ok ∧ ss.length = ks.length ∧ i < ks.length ∧ j < ks.length ∧ (∀ s ∈ ss, bt s n) ∧ n ≤ 400000 ∧ k.rt (.bool (wrongW y ws ks ss i j))
theorem pairWrong_v {y : Wy} {ws : List Int} {ks : List Cu} {ss : List Rat} {i j n : Nat} (h : (Cu.knot y ws ks).Ok) (hl : ss.length = ks.length) (hi : i < ks.length) (hj : j < ks.length) (hb : ∀ s ∈ ss, bt s n) (hn : n ≤ 400000) : cPairWrong [(Cu.knot y ws ks).d, .list (fls ss), .int (i : Int), .int (j : Int)] (kv (.bool (wrongW y ws ks ss i j))) := ⟨y, ws, ks, ss, i, j, n, rfl, h, hl, hi, hj, hb, hn, rfl⟩
def optP : Option (Nat × Nat) → D
  | none => .none
  | some (i, j) => .tuple [.int (i : Int), .int (j : Int)]
def cPairIn : Ct := fun ds k => ∃ (y : Wy) (ws : List Int) (ks : List Cu) (ss : List Rat) (n : Nat), ds = [(Cu.knot y ws ks).d, .list (fls ss)] ∧ (Cu.knot y ws ks).Ok ∧ ss.length = ks.length ∧ (∀ s ∈ ss, bt s n) ∧ n ≤ 400000 ∧ ∀ o, isFirst (wrongW y ws ks ss) ks.length o → k.rt (optP o)
def isPairIn (y : Wy) (ws : List Int) (ks : List Cu) (ss : List Rat) (d : D) : Prop := ∃ o, isFirst (wrongW y ws ks ss) ks.length o ∧ d = optP o
theorem pairIn_v {y : Wy} {ws : List Int} {ks : List Cu} {ss : List Rat} {n : Nat} (h : (Cu.knot y ws ks).Ok) (hl : ss.length = ks.length) (hb : ∀ s ∈ ss, bt s n) (hn : n ≤ 400000) : cPairIn [(Cu.knot y ws ks).d, .list (fls ss)] ⟨isPairIn y ws ks ss, fun _ => False, fun _ => False⟩ := ⟨y, ws, ks, ss, n, rfl, h, hl, hb, hn, fun o ho => ⟨o, ho, rfl⟩⟩
def wrD (path : List Nat) : Wr → D
  | none => .none
  | some (p, i, j) => .tuple [.str "pair", .tuple (natD (path ++ p)), .int (i : Int), .int (j : Int)]
def cWrong (n : Nat) : Ct := fun ds k => ∃ (u : Cu) (xs : List Rat) (path : List Nat) (N : Nat), ds = [u.d, .list (fls xs), .tuple (natD path)] ∧ u.Ok ∧ u.deep ≤ n ∧ xs.length = u.claims.length ∧ (∀ x ∈ xs, bt x N) ∧ N ≤ 30000 ∧ path.length + u.deep ≤ 100 ∧ ∀ o, isWrong u xs o → k.rt (wrD path o)
def isWr (u : Cu) (xs : List Rat) (path : List Nat) (d : D) : Prop := ∃ o, isWrong u xs o ∧ d = wrD path o
theorem wrong_v {n : Nat} {u : Cu} {xs : List Rat} {path : List Nat} {N : Nat} (h : u.Ok) (hd : u.deep ≤ n) (hl : xs.length = u.claims.length) (hb : ∀ x ∈ xs, bt x N) (hN : N ≤ 30000) (hp : path.length + u.deep ≤ 100) : cWrong n [u.d, .list (fls xs), .tuple (natD path)] ⟨isWr u xs path, fun _ => False, fun _ => False⟩ := ⟨u, xs, path, N, rfl, h, hd, hl, hb, hN, hp, fun o ho => ⟨o, ho, rfl⟩⟩
def isOver (cs : List Int) (xs : List Rat) : Option Nat → Prop
  | none => ∀ (i : Nat) (x : Rat) (c : Int), xs[i]? = some x → cs[i]? = some c → beyQ x c = false
  | some m => (∃ x c, xs[m]? = some x ∧ cs[m]? = some c ∧ beyQ x c = true) ∧ ∀ (i : Nat) (x : Rat) (c : Int), i < m → xs[i]? = some x → cs[i]? = some c → beyQ x c = false
theorem isOver_uniq {cs : List Int} {xs : List Rat} : ∀ {o p : Option Nat}, isOver cs xs o → isOver cs xs p → o = p
  | none, none, _, _ => rfl
  | none, some m, h, g => by
    obtain ⟨⟨x, c, h1, h2, h3⟩, _⟩ := g
    rw [h m x c h1 h2] at h3
    cases h3
  | some m, none, h, g => by
    obtain ⟨⟨x, c, h1, h2, h3⟩, _⟩ := h
    rw [g m x c h1 h2] at h3
    cases h3
  | some m, some l, h, g => by
    obtain ⟨⟨x, c, h1, h2, h3⟩, h4⟩ := h
    obtain ⟨⟨x', c', g1, g2, g3⟩, g4⟩ := g
    by_cases e : m < l
    · rw [g4 m x c e h1 h2] at h3
      cases h3
    · by_cases f : l < m
      · rw [h4 l x' c' f g1 g2] at g3
        cases g3
      · rw [show m = l by omega]
theorem isOver_none {cs : List Int} {xs : List Rat} (hl : xs.length = cs.length) : isOver cs xs none ↔ within cs xs := ⟨fun h => ⟨hl, fun i x c hx hc => beyQ_no.mp (h i x c hx hc)⟩, fun h i x c hx hc => beyQ_no.mpr (h.2 i x c hx hc)⟩
/-- the told paper -/
inductive isFound (u : Cu) (xs : List Rat) : D → Prop
  | over (m : Nat) (h : isOver u.claims xs (some m)) : isFound u xs (.tuple [.str "over", .int (m : Int)])
  | pair (p : List Nat) (i j : Nat) (h : isOver u.claims xs none) (w : isWrong u xs (some (p, i, j))) : isFound u xs (.tuple [.str "pair", .tuple (natD p), .int (i : Int), .int (j : Int)])
  | catch_ (h : isOver u.claims xs none) (w : isWrong u xs none) : isFound u xs (.tuple [.str "catch", fr (qsum xs)])
theorem isFound_uniq {u : Cu} {xs : List Rat} {d e : D} (h : isFound u xs d) (g : isFound u xs e) : d = e := by
  cases h with
  | over m h =>
    cases g with
    | over l g =>
      have := isOver_uniq h g
      cases this
      rfl
    | pair p i j g w => exact absurd (isOver_uniq h g) (fun z => nomatch z)
    | catch_ g w => exact absurd (isOver_uniq h g) (fun z => nomatch z)
  | pair p i j h w =>
    cases g with
    | over l g => exact absurd (isOver_uniq h g) (fun z => nomatch z)
    | pair p' i' j' g w' =>
      have := isWrong_uniq u xs _ _ w w'
      cases this
      rfl
    | catch_ g w' => exact absurd (isWrong_uniq u xs _ _ w w') (fun z => nomatch z)
  | catch_ h w =>
    cases g with
    | over l g => exact absurd (isOver_uniq h g) (fun z => nomatch z)
    | pair p' i' j' g w' => exact absurd (isWrong_uniq u xs _ _ w w') (fun z => nomatch z)
    | catch_ g w' => rfl
def cFound (C : Addr) : Ct := fun ds k => ∃ (u : Cu) (d : D) (xs : List Rat) (N : Nat), ds = [u.d, d] ∧ SeqD d (fls xs) ∧ u.Ok ∧ (∀ x ∈ xs, bt x N) ∧ N ≤ 30000 ∧ xs.length ≤ 1000 ∧ (xs.length ≠ u.claims.length → k.ex (.ref C)) ∧ (xs.length = u.claims.length → ∀ r, isFound u xs r → k.rt r)
theorem found_v {C : Addr} {u : Cu} {d r : D} {xs : List Rat} {N : Nat} (hd : SeqD d (fls xs)) (h : u.Ok) (hb : ∀ x ∈ xs, bt x N) (hN : N ≤ 30000) (hl : xs.length = u.claims.length) (hr : isFound u xs r) : cFound C [u.d, d] (kv r) := ⟨u, d, xs, N, rfl, hd, h, hb, hN, by have := h.few; omega, fun z => absurd hl z, fun _ r' hr' => isFound_uniq hr' hr⟩
theorem foundP_v {C : Addr} {u : Cu} {d : D} {xs : List Rat} {N : Nat} (hd : SeqD d (fls xs)) (h : u.Ok) (hb : ∀ x ∈ xs, bt x N) (hN : N ≤ 30000) (hl : xs.length = u.claims.length) : cFound C [u.d, d] ⟨isFound u xs, fun _ => False, fun _ => False⟩ := ⟨u, d, xs, N, rfl, hd, h, hb, hN, by have := h.few; omega, fun z => absurd hl z, fun _ r' hr' => hr'⟩
theorem found_x {C : Addr} {u : Cu} {d : D} {xs : List Rat} {N : Nat} (hd : SeqD d (fls xs)) (h : u.Ok) (hb : ∀ x ∈ xs, bt x N) (hN : N ≤ 30000) (h3 : xs.length ≤ 1000) (hl : xs.length ≠ u.claims.length) : cFound C [u.d, d] (kx (.ref C)) := ⟨u, d, xs, N, rfl, hd, h, hb, hN, h3, fun _ => rfl, fun z => absurd z hl⟩
/-! sizes of sums -/
theorem bt_sum12 {xs : List Rat} {N : Nat} (hl : xs.length ≤ 12) (hb : ∀ x ∈ xs, bt x N) : ∀ i, i ≤ xs.length → bt (qsum (xs.take i)) (12 * (N + 1) + 1) := fun i hi => (bt_qsum hb i).mono (by
  have := Nat.mul_le_mul_right (N + 1) (show i ≤ 12 by omega)
  omega)
theorem bt_all12 {xs : List Rat} {N : Nat} (hl : xs.length ≤ 12) (hb : ∀ x ∈ xs, bt x N) : bt (qsum xs) (12 * (N + 1) + 1) := by
  have := bt_sum12 hl hb xs.length (Nat.le_refl _)
  rwa [List.take_length] at this
theorem total12_v {xs : List Rat} {N : Nat} (hl : xs.length ≤ 12) (hb : ∀ x ∈ xs, bt x N) (hN : N ≤ 100000) : cTotal [.list (fls xs)] (kv (fr (qsum xs))) := total_v hb (bt_sum12 hl hb) (by omega)
theorem parts_mem {ks : List Cu} {xs p : List Rat} (h : p ∈ partsF ks xs) : (∀ x ∈ p, x ∈ xs) ∧ p.length ≤ xs.length := by
  obtain ⟨i, hi⟩ := List.mem_iff_getElem?.mp h
  have hil := getElem?_lt hi
  rw [partsF_len] at hil
  rw [partsF_at ks xs i _ (List.getElem?_eq_getElem hil)] at hi
  obtain rfl := Option.some.inj hi
  refine ⟨fun x hx => List.mem_of_mem_drop (List.mem_of_mem_take hx), ?_⟩
  rw [List.length_take, List.length_drop]
  omega
theorem bt_sumsF {ks : List Cu} {xs : List Rat} {N : Nat} (hl : xs.length ≤ 12) (hb : ∀ x ∈ xs, bt x N) : ∀ s ∈ sumsF ks xs, bt s (12 * (N + 1) + 1) := fun s hs => by
  unfold sumsF at hs
  obtain ⟨p, hp, rfl⟩ := List.mem_map.mp hs
  obtain ⟨h1, h2⟩ := parts_mem hp
  exact bt_all12 (by omega) fun x hx => hb x (h1 x hx)
theorem partsD_at {ps : List (List Rat)} {i : Nat} {p : List Rat} {k : Int} (hk : k = (i : Int)) (h : ps[i]? = some p) : atI (partsD ps) k = some (.list (fls p)) := by
  subst hk
  exact atI_nat (by unfold partsD; rw [List.getElem?_map, h]; rfl)
theorem fls_map_qsum (ps : List (List Rat)) : fls (ps.map qsum) = ps.map fun p => fr (qsum p) := by
  unfold fls
  rw [List.map_map]
  rfl
theorem dealOf_any {y : Wy} (h : y.wd = false) (ws vs cs : List Rat) (q : Rat) : dealOf y ws cs q = dealOf y vs cs q := by
  cases y with
  | even => cases h
  | lack => cases h
  | row => rfl
  | back => rfl
  | part => rfl
  | half => rfl
theorem fls_two (a b : Rat) : fls [a, b] = [fr a, fr b] := rfl
theorem fls_eqvL (xs ys : List Rat) : PyData.eqv (.list (fls xs)) (.list (fls ys)) = decide (xs = ys) := by
  rw [list_eqv]
  exact fls_eqv xs ys
end Pu

set_option maxRecDepth 100000
set_option maxHeartbeats 1000000
namespace Pu
open PySem PySem.Spec PyProof.Rows L2
/-! ### enumerate of a list or a tuple -/
set_option maxHeartbeats 4000000 in
theorem meets_enumQ {v : Value} {o : Obj} {H : Heap → Prop} (B : Begins v o H) : PySem.Meets (Builtin.«enumerate.__new__» ⟨[.type "enumerate", v], []⟩) (fun _ R s => H s.heap ∧
    R (.ok (.ret (.ref (s.heap.push o).objs.size))) { s with heap := (s.heap.push o).push { cls := .type "enumerate", data := .fields #[.none, .bool false, .ref s.heap.objs.size, rawInt 0, .none, .none] } }) := .of_wp fun prog w A R s q => by
  obtain ⟨hp, g, d, tk, os⟩ := s
  obtain ⟨qh, q⟩ := q
  have e1 := sub_enumerate
  have e2 : ∀ {A2 : Around} {E2 : Value → Shared → Prop} {Q2 : Value → Shared → Prop}, Q2 (.ref hp.objs.size) ⟨hp.push o, g, d, tk, os⟩ → wpAny (model prog w) A2 (pyIter v) Q2 E2 ⟨hp, g, d, tk, os⟩ := fun z => B.iter prog w _ _ ⟨hp, g, d, tk, os⟩ _ qh z
  wp_walk using e2
  refine wpAny_stack_any fun st => wpAny_pure ?_
  split
  · rename_i c _ _ _ _ _
    cases (c == Value.type "enumerate") <;> (wp_walk using e2; exact ⟨_, rfl, q⟩)
  · wp_walk using e2
    exact ⟨_, rfl, q⟩
theorem call_enumQ {prog : Program} {w : World} {A : Around} {E : Value → Shared → Prop} {s : Shared} {v : Value} {o : Obj} {H : Heap → Prop} {Q : Value → Shared → Prop} (B : Begins v o H) (h1 : H s.heap)
    (h : ∀ h', IsEnum h' (s.heap.objs.size + 1) s.heap.objs.size 0 .none → h'.get? s.heap.objs.size = some o → h'.objs.size = s.heap.objs.size + 2 → (∀ b x, s.heap.get? b = some x → h'.get? b = some x) → Q (.ref (s.heap.objs.size + 1)) { s with heap := h' }) :
    wpAny (model prog w) A (call (.type "enumerate") [v]) Q E s := by
  refine callType_new F.called_enumerate (by decide) (F.typeCall_enumerate_1 _) (F.newCall_enumerate_1 _) (fun obj => F.args_object_init_2 obj _) F.entry_enumerate_new (meets_enumQ B) ⟨h1, ?_⟩
  have z1 : (s.heap.push o).objs.size = s.heap.objs.size + 1 := Heap.size_push ..
  show _ ∧ _
  rw [z1]
  obtain ⟨oe, hoe⟩ : ∃ oe : Obj, oe = { cls := .type "enumerate", data := .fields #[.none, .bool false, .ref s.heap.objs.size, rawInt 0, .none, .none] } := ⟨_, rfl⟩
  have z2 : ((s.heap.push o).push oe).get? (s.heap.objs.size + 1) = some oe := by
    have := Heap.get?_push_size (s.heap.push o) (o := oe) (by rw [hoe]; rfl)
    rw [z1] at this
    exact this
  rw [← hoe]
  rw [hoe] at z2 ⊢
  exact ⟨⟨_, z2, rfl⟩, h _ z2 (Heap.get?_push_of_some _ (Heap.get?_push_size _ B.free)) (by rw [Heap.size_push, z1]) fun b x q => Heap.get?_push_of_some _ (Heap.get?_push_of_some _ q)⟩
def ItEQ (K : Frag) (t : Bool) (a : Addr) : It :=
  ⟨fun i H => ∃ (xs : List V) (x : V), SqQ K t H a xs ∧ xs[i]? = some x,
    fun i H v H' => ∃ T x, v = .ref T ∧ H T = none ∧ H' = upd H T (.tup [.int (i : Nat), x]) ∧ ∀ xs, SqQ K t H a xs → xs[i]? = some x,
    fun i H => ∃ xs : List V, SqQ K t H a xs ∧ xs.length = i⟩
theorem turn_enumQ {P : Program} {w : World} {K : Frag} {elts : List Expr} {kk : Nat} {tpos : Pos} {t : Bool} {a e it : Addr} (hei : e ≠ it) (hai : a ≠ it) (hea : e ≠ a) :
    Turn P w K (.Tuple elts kk tpos) (ItEQ K t a) [e, it] e (fun i h => (∃ old, IsEnum h e it ((i : Nat) : Int) old) ∧ ItAt t h it a i) where
  mem := List.mem_cons_self
  obj := fun i h st b hb => by
    obtain ⟨⟨old, he⟩, hi⟩ := st
    obtain ⟨o, c, e1, d1⟩ := hi.there
    rcases List.mem_cons.mp hb with rfl | hb
    · exact ⟨_, he, fun v q => nomatch q⟩
    · obtain rfl := List.mem_singleton.mp hb
      exact ⟨o, e1, fun v q => by rw [d1] at q; cases q⟩
  keep := fun i h h' st k => by
    obtain ⟨⟨old, he⟩, hi⟩ := st
    exact ⟨⟨old, k e List.mem_cons_self _ he⟩, hi.keep fun o q => k it (List.mem_cons_of_mem _ List.mem_cons_self) o q⟩
  item := by
    intro X hP hw hK hc i pins s σ H E I hf st hg
    subst hP hw hK
    obtain ⟨⟨old, he⟩, hi⟩ := st
    obtain ⟨xs, x, hq, hx⟩ := hg
    obtain ⟨its, rv, p⟩ := sqQ_seq I hq
    obtain ⟨u, hu, ru⟩ := rv.get hx
    have hel : e < s.heap.objs.size := Heap.lt_size he
    have D1 := draws_seq (prog := X.prog) (w := X.w) (A := X.A.in1) t (I.ok.hd hc) it a hai its.toArray
    have l1 : i < its.toArray.size := by rw [List.size_toArray]; exact (List.getElem?_eq_some_iff.mp hu).1
    refine wpAny_pyNext_enum_itemC D1 he ⟨hi, p⟩ l1 hei (by
      intro z
      rcases List.mem_cons.mp z with z | z
      · exact hei z
      · exact hea (List.mem_singleton.mp z)) fun x1 h' tk e1 ho st1 hT hsz hk => ?_
    have q1 : x1 = u := Option.some.inj (e1.symm.trans (by simpa using hu))
    subst q1
    refine ⟨_, rfl, wpAny_letOwnedTupleGo_enum (s := { s with heap := h', toks := tk + 1 }) ho fun h'' he' sb => ?_⟩
    have hT2 : h''.get? s.heap.objs.size = some { cls := .type "tuple", data := .seq #[.int i tk, x1] } := (sb.2 _ (Nat.ne_of_gt hel)).trans hT
    have new : ObjOk X.prog X.w (upd H s.heap.objs.size (.tup [.int (i : Nat), x])) h'' s.heap.objs.size (.tup [.int (i : Nat), x]) := ⟨by show 2 ≤ sizeLine; decide, [.int i tk, x1], .cons ⟨_, rfl⟩ (.cons ru .nil), ⟨_, hT2, rfl, _, rfl⟩⟩
    have I1 : Inv X pins σ (upd H s.heap.objs.size (.tup [.int (i : Nat), x])) { s with heap := h'', toks := tk + 1 } :=
      I.turnedNew (t' := tk + 1) (ch := [e, it]) (fun c o hb q => (sb.2 c (fun q' => hb (by simp [q']))).trans (hk c o (fun q' => hb (by simp [q'])) (fun q' => hb (by simp [q'])) q)) hf (Nat.le_refl _) new
    refine ⟨.ref s.heap.objs.size, _, I1, rfl, ⟨_, x, rfl, I.hok.fresh (Nat.le_refl _), rfl, fun l hl => by rw [sqQ_inj I hl hq]; exact hx⟩, ⟨⟨x1, ?_⟩, ?_⟩, fun c hcm => ?_⟩
    · have en : ((i + 1 : Nat) : Int) = (i : Int) + 1 := by omega
      rw [en]
      exact he'
    · exact st1.1.keep fun o q => (sb.2 _ (Ne.symm hei)).trans q
    · have hlt : c < s.heap.objs.size := by
        obtain ⟨_, _, g1, _⟩ := hi.there
        rcases List.mem_cons.mp hcm with rfl | hcm
        · exact hel
        · obtain rfl := List.mem_singleton.mp hcm
          exact Heap.lt_size g1
      rw [upd_ne (Nat.ne_of_lt hlt)]
      exact (hf c hcm).1
  done := by
    intro X hP hw hK hc i pins s σ H E I hf st hg
    subst hP hw hK
    obtain ⟨⟨old, he⟩, hi⟩ := st
    obtain ⟨xs, hq, hend⟩ := hg
    obtain ⟨its, rv, p⟩ := sqQ_seq I hq
    have l1 := rv.length
    have D1 := draws_seq (prog := X.prog) (w := X.w) (A := X.A.in1) t (I.ok.hd hc) it a hai its.toArray
    have hsz : its.toArray.size = i := by rw [List.size_toArray]; omega
    refine wpAny_pyNext_enum_endD D1 he (by rw [hsz]; exact ⟨hi, p⟩) fun h' eb => ⟨rfl, I.turnedL (t' := s.toks) (ch := [e, it]) (fun c o hb q => eb c o (fun q' => hb (by simp [q'])) q) hf⟩
  self := fun A i s Q E st h => let ⟨⟨_, he⟩, _⟩ := st; wpAny_pyIter_enum he h
def iEnumQ (K : Frag) (ta : TA) : TI := fun σ H R => ta σ H fun vs H1 => ∃ a xs t, vs = [.ref a] ∧ SqQ K t H1 a xs ∧ R (ItEQ K t a) H1
theorem w_enumQ {X : Cx} {K : Frag} {e : Expr} {ta : TA} {p pos tpos : Pos} {elts : List Expr} {kk : Nat} (hg : Gl X "enumerate") (hm : X.mg "enumerate" = none) (ha : PA X [e] ta) (hs : starEach [e] X.env = [(false, eval e X.env)] := by rfl) (hK : X.K = K := by rfl) :
    PI X (.Tuple elts kk tpos) (.Call (.Name "enumerate" p) [e] [] pos) (iEnumQ K ta) := by
  subst hK
  refine ⟨fun pins s σ H R I h => ?_⟩
  refine Call_ (ld_blt I hg hm boot_enumerate (PyProof.Rows.callWith_type1 (thn (ha.run pos pins s σ H _ I h) fun us s1 ⟨vs, H1, I1, r1, q1⟩ => ?_) hs rfl))
  obtain ⟨a, xs, t, rfl, hq, q⟩ := q1
  cases r1 with
  | cons r rr =>
    cases rr
    cases r
    obtain ⟨its, rv, p'⟩ := sqQ_seq I1 hq
    obtain ⟨oa, ha1⟩ := p'.there
    have la : a < s1.heap.objs.size := Heap.lt_size ha1
    refine call_enumQ (begins_q t a its.toArray) p' fun h' he hit hsz hk => wpAny_pyIter_enum he ?_
    have I2 : Inv X pins σ H1 { s1 with heap := h' } := I1.kept (t' := s1.toks) hk
    refine ⟨s1.heap.objs.size + 1, [s1.heap.objs.size + 1, s1.heap.objs.size], _, _, H1, rfl, I2, turn_enumQ (Nat.succ_ne_self _) (Nat.ne_of_lt la) (Nat.ne_of_gt (Nat.lt_succ_of_lt la)), ⟨⟨.none, he⟩, itAt_new hit⟩, fun b hb => ?_, q⟩
    have hle : s1.heap.objs.size ≤ b := by
      rcases List.mem_cons.mp hb with rfl | hb
      · exact Nat.le_add_right _ _
      · rw [List.mem_singleton.mp hb]
        exact Nat.le_refl _
    exact I1.fpOk hle (I1.hok.fresh hle)
section
variable {K : Frag} {ρ : En} {te : TE} {ds : List D} {d0 : D}
theorem id_enumQ (h1 : SeqD d0 ds) (ha : Ev K te ρ d0) : Id K (iEnumQ K (tCons te tNil)) ρ (enumD ds) := fun R0 H0 R σ H a Rr q => ha R0 H0 R σ H a _ fun v R1 H1 g1 dv => by
  obtain ⟨p, xs, t, rfl, dx, kx⟩ := dp_seqQ (H := H1) h1 dv
  have lx := dpa_len dx
  refine ⟨p, xs, t, rfl, kx H1 g1.sub, q _ R1 H1 g1 fun R3 H3 s3 sh => ⟨fun i d e => ?_, ⟨xs, kx _ (s3.trans sh), by rw [enumD_len]; exact lx⟩⟩⟩
  obtain ⟨x, ex, rfl⟩ := enumD_at e
  obtain ⟨v, f1, f2⟩ := dpa_get dx ex
  refine ⟨⟨xs, v, kx _ (s3.trans sh), f1⟩, fun z H4 yl => ?_⟩
  obtain ⟨T, v', rfl, hT, rfl, y1⟩ := yl
  have z1 := y1 xs (kx _ (s3.trans sh))
  rw [f1] at z1
  cases z1
  have g := Grow.alloc (o := .tup [.int (i : Nat), v]) sh hT
  exact ⟨_, g, .tup (SqT.of upd_same) (.cons (.int _) (.cons (dp_mono (s3.trans g.rd) _ _ f2) .nil))⟩
end
end Pu

set_option maxRecDepth 100000
set_option maxHeartbeats 1000000
namespace Pu
open PySem PySem.Spec PyProof.Rows L2
/-! ### what papers show -/
def subA : Cu → List Rat → List Int → List Rat
  | _, xs, [] => xs
  | .boat _, xs, _ :: _ => xs
  | .knot _ _ ks, xs, i :: p => match ks[i.toNat]? with
    | some k => subA k ((partsF ks xs).getD i.toNat []) p
    | none => xs
theorem subA_nil (u : Cu) (xs : List Rat) : subA u xs [] = xs := by
  cases u <;> rfl
theorem subA_knot (y : Wy) (ws : List Int) (ks : List Cu) (xs : List Rat) (i : Int) (p : List Int) : subA (.knot y ws ks) xs (i :: p) = match ks[i.toNat]? with | some k => subA k ((partsF ks xs).getD i.toNat []) p | none => xs := rfl
theorem kidAt_cons {u v : Cu} {i : Int} {p : List Int} (h : kidAt u (i :: p) = some v) : ∃ y ws ks k, u = .knot y ws ks ∧ 0 ≤ i ∧ ks[i.toNat]? = some k ∧ kidAt k p = some v := by
  cases u with
  | boat c => rw [kidAt_boat] at h; cases h
  | knot y ws ks =>
    rw [kidAt_knot] at h
    split at h
    · cases h
    · rename_i h0
      cases e : ks[i.toNat]? with
      | none => rw [e] at h; cases h
      | some k => rw [e] at h; exact ⟨y, ws, ks, k, rfl, by omega, e, h⟩
theorem partsF_getD {ks : List Cu} {xs : List Rat} {i : Nat} {k : Cu} (h : ks[i]? = some k) : (partsF ks xs).getD i [] = (xs.drop (Cu.claimsL (ks.take i)).length).take k.claims.length := by
  rw [List.getD_eq_getElem?_getD, partsF_at ks xs i k h]
  rfl
theorem subA_len : ∀ (p : List Int) (u v : Cu) (xs : List Rat), kidAt u p = some v → xs.length = u.claims.length → (subA u xs p).length = v.claims.length
  | [], u, v, xs, h, hl => by
    rw [kidAt_nil] at h
    cases h
    rw [subA_nil]
    exact hl
  | i :: p, u, v, xs, h, hl => by
    obtain ⟨y, ws, ks, k, rfl, h0, hk, hp⟩ := kidAt_cons h
    rw [subA_knot, hk]
    refine subA_len p k v _ hp ?_
    rw [partsF_getD hk, List.length_take, List.length_drop]
    have h1 : xs.length = (Cu.claimsL ks).length := hl
    have := claimsL_slice_le ks i.toNat k hk
    omega
theorem subA_mem : ∀ (p : List Int) (u v : Cu) (xs : List Rat), kidAt u p = some v → ∀ x ∈ subA u xs p, x ∈ xs
  | [], u, v, xs, h => fun x hx => by rwa [subA_nil] at hx
  | i :: p, u, v, xs, h => fun x hx => by
    obtain ⟨y, ws, ks, k, rfl, h0, hk, hp⟩ := kidAt_cons h
    rw [subA_knot, hk] at hx
    have := subA_mem p k v _ hp x hx
    rw [partsF_getD hk] at this
    exact List.mem_of_mem_drop (List.mem_of_mem_take this)
theorem subA_snoc : ∀ (p : List Int) (u : Cu) (y : Wy) (ws : List Int) (ks : List Cu) (k : Cu) (xs : List Rat) (i : Int), kidAt u p = some (.knot y ws ks) → 0 ≤ i → ks[i.toNat]? = some k → subA u xs (p ++ [i]) = (partsF ks (subA u xs p)).getD i.toNat []
  | [], u, y, ws, ks, k, xs, i, h, h0, hk => by
    rw [kidAt_nil] at h
    cases h
    show subA _ xs [i] = _
    rw [subA_knot, hk, subA_nil]
    show subA k _ [] = _
    rw [subA_nil]
  | j :: p, u, y, ws, ks, k, xs, i, h, h0, hk => by
    obtain ⟨y', ws', ks', k', rfl, h0', hk', hp⟩ := kidAt_cons h
    show subA _ xs (j :: (p ++ [i])) = _
    rw [subA_knot, subA_knot, hk']
    exact subA_snoc p k' y ws ks k _ i hp h0 hk
def pairSh (u : Cu) (xs : List Rat) (p : List Int) (i j : Int) : Bool := match kidAt u p with
  | some (.knot y ws ks) => decide (0 ≤ i ∧ i < j ∧ j < (ks.length : Int)) && wrongW y ws ks (sumsF ks (subA u xs p)) i.toNat j.toNat
  | _ => false
theorem pairSh_none {u : Cu} {xs : List Rat} {p : List Int} {i j : Int} (h : kidAt u p = none) : pairSh u xs p i j = false := by
  unfold pairSh
  rw [h]
theorem pairSh_boat {u : Cu} {xs : List Rat} {p : List Int} {i j c : Int} (h : kidAt u p = some (.boat c)) : pairSh u xs p i j = false := by
  unfold pairSh
  rw [h]
theorem pairSh_knot {u : Cu} {xs : List Rat} {p : List Int} {i j : Int} {y : Wy} {ws : List Int} {ks : List Cu} (h : kidAt u p = some (.knot y ws ks)) : pairSh u xs p i j = (decide (0 ≤ i ∧ i < j ∧ j < (ks.length : Int)) && wrongW y ws ks (sumsF ks (subA u xs p)) i.toNat j.toNat) := by
  unfold pairSh
  rw [h]
inductive Pap where
  | catch_ (q : Rat)
  | over (m : Int)
  | pair (t : Bool) (p : List Int) (i j : Int)
def pathD (t : Bool) (p : List Int) : D := if t then .tuple (p.map PyData.int) else .list (p.map PyData.int)
theorem pathD_q (t : Bool) (p : List Int) : SeqD (pathD t p) (p.map PyData.int) := by
  cases t
  · exact .inl rfl
  · exact .inr rfl
def Pap.d : Pap → D
  | .catch_ q => .tuple [.str "catch", fr q]
  | .over m => .tuple [.str "over", .int m]
  | .pair t p i j => .tuple [.str "pair", pathD t p, .int i, .int j]
def dealtB (u : Cu) (xs : List Rat) (q : Rat) : Bool := decide (0 ≤ q ∧ q ≤ (u.sum : Rat) ∧ u.deal q = xs)
def overB (cs : List Int) (xs : List Rat) (m : Int) : Bool := decide (0 ≤ m ∧ m < (cs.length : Int)) && beyQ (gD xs m.toNat) (iD cs m.toNat)
def Pap.sh (u : Cu) (xs : List Rat) : Pap → Bool
  | .catch_ q => dealtB u xs q
  | .over m => overB u.claims xs m
  | .pair _ p i j => pairSh u xs p i j
def cIsDealt : Ct := fun ds k => ∃ (u : Cu) (d : D) (xs : List Rat) (q : Rat) (N n : Nat), ds = [u.d, d, fr q] ∧ SeqD d (fls xs) ∧ u.Ok ∧ (∀ x ∈ xs, bt x N) ∧ bt q n ∧ n ≤ 700000 ∧ k.rt (.bool (dealtB u xs q))
theorem isDealt_v {u : Cu} {d : D} {xs : List Rat} {q : Rat} {N n : Nat} (hd : SeqD d (fls xs)) (h : u.Ok) (hb : ∀ x ∈ xs, bt x N) (hq : bt q n) (hn : n ≤ 700000) : cIsDealt [u.d, d, fr q] (kv (.bool (dealtB u xs q))) := ⟨u, d, xs, q, N, n, rfl, hd, h, hb, hq, hn, rfl⟩
def cAmountsAt : Ct := fun ds k => ∃ (u v : Cu) (xs : List Rat) (dp : D) (p : List Int), ds = [u.d, .list (fls xs), dp] ∧ SeqD dp (p.map PyData.int) ∧ u.Ok ∧ xs.length = u.claims.length ∧ kidAt u p = some v ∧ k.rt (.list (fls (subA u xs p)))
theorem amountsAt_v {u v : Cu} {xs : List Rat} {dp : D} {p : List Int} (hd : SeqD dp (p.map PyData.int)) (h : u.Ok) (hl : xs.length = u.claims.length) (hv : kidAt u p = some v) : cAmountsAt [u.d, .list (fls xs), dp] (kv (.list (fls (subA u xs p)))) := ⟨u, v, xs, dp, p, rfl, hd, h, hl, hv, rfl⟩
def cIsPair : Ct := fun ds k => ∃ (u : Cu) (d : D) (xs : List Rat) (dp : D) (p : List Int) (i j : Int) (N : Nat), ds = [u.d, d, dp, .int i, .int j] ∧ SeqD d (fls xs) ∧ SeqD dp (p.map PyData.int) ∧ u.Ok ∧ xs.length = u.claims.length ∧ (∀ x ∈ xs, bt x N) ∧ N ≤ 30000 ∧ k.rt (.bool (pairSh u xs p i j))
theorem isPair_v {u : Cu} {d : D} {xs : List Rat} {dp : D} {p : List Int} {i j : Int} {N : Nat} (hd : SeqD d (fls xs)) (hp : SeqD dp (p.map PyData.int)) (h : u.Ok) (hl : xs.length = u.claims.length) (hb : ∀ x ∈ xs, bt x N) (hN : N ≤ 30000) : cIsPair [u.d, d, dp, .int i, .int j] (kv (.bool (pairSh u xs p i j))) := ⟨u, d, xs, dp, p, i, j, N, rfl, hd, hp, h, hl, hb, hN, rfl⟩
def Pap.fine : Pap → Prop
  | .catch_ q => bt q 700000
  | _ => True
def cShows (C : Addr) : Ct := fun ds k => ∃ (u : Cu) (d : D) (xs : List Rat) (P : Pap) (N : Nat), ds = [u.d, d, P.d] ∧ SeqD d (fls xs) ∧ u.Ok ∧ (∀ x ∈ xs, bt x N) ∧ N ≤ 30000 ∧ P.fine ∧ (xs.length ≠ u.claims.length → k.ex (.ref C)) ∧ (xs.length = u.claims.length → k.rt (.bool (P.sh u xs)))
theorem shows_v {C : Addr} {u : Cu} {d : D} {xs : List Rat} {P : Pap} {N : Nat} (hd : SeqD d (fls xs)) (h : u.Ok) (hb : ∀ x ∈ xs, bt x N) (hN : N ≤ 30000) (hP : P.fine) (hl : xs.length = u.claims.length) : cShows C [u.d, d, P.d] (kv (.bool (P.sh u xs))) := ⟨u, d, xs, P, N, rfl, hd, h, hb, hN, hP, fun z => absurd hl z, fun _ => rfl⟩
theorem shows_x {C : Addr} {u : Cu} {d : D} {xs : List Rat} {P : Pap} {N : Nat} (hd : SeqD d (fls xs)) (h : u.Ok) (hb : ∀ x ∈ xs, bt x N) (hN : N ≤ 30000) (hP : P.fine) (hl : xs.length ≠ u.claims.length) : cShows C [u.d, d, P.d] (kx (.ref C)) := ⟨u, d, xs, P, N, rfl, hd, h, hb, hN, hP, fun _ => rfl, fun z => absurd z hl⟩
/-- papers that are told, as papers -/
theorem found_pap {u : Cu} {xs : List Rat} {r : D} (h : isFound u xs r) : ∃ P : Pap, r = P.d := by
  cases h with
  | over m h => exact ⟨.over m, rfl⟩
  | pair p i j h w =>
    refine ⟨.pair true (p.map fun n : Nat => (n : Int)) i j, ?_⟩
    show PyData.tuple _ = .tuple [.str "pair", .tuple ((p.map fun n : Nat => (n : Int)).map PyData.int), _, _]
    rw [List.map_map]
    rfl
  | catch_ h w => exact ⟨.catch_ _, rfl⟩
end Pu

set_option maxRecDepth 100000
set_option maxHeartbeats 1000000
namespace Pu
open PySem PySem.Spec PyProof.Rows L2
/-! ### what the laws of papers draw -/
def cShared : Ct := fun ds k => ∃ a b : Int, ds = [.int a, .int b] ∧ 0 ≤ a ∧ 0 ≤ b ∧ k.rt (.int (Int.gcd a b : Int))
theorem shared_v {a b : Int} (h0 : 0 ≤ a) (h1 : 0 ≤ b) : cShared [.int a, .int b] (kv (.int (Int.gcd a b : Int))) := ⟨a, b, rfl, h0, h1, rfl⟩
def cfBot (c : Int) : Int := if c % 5 = 0 then 1 else if c % 5 = 1 then 1 else if c % 5 = 2 then 2 else if c % 5 = 3 then 12 else 1 + c / 5 % 97
theorem cfBot_b (c : Int) : 1 ≤ cfBot c ∧ cfBot c ≤ 97 := by
  unfold cfBot
  split
  · omega
  · split
    · omega
    · split
      · omega
      · split <;> omega
def e40 (c : Int) : Int := c % 10 ^ (40 : Int).toNat
def catchF (W c : Int) : Rat := Rat.divInt (e40 c / 485 % (W * cfBot (e40 c) + 1)) (cfBot (e40 c))
theorem catchF_ok {c W : Int} {B : Nat} (h0 : 0 ≤ W) (hW : W.natAbs < 2 ^ B) : 0 ≤ catchF W c ∧ catchF W c ≤ (W : Rat) ∧ bt (catchF W c) (B + 7) := by
  obtain ⟨b0, b1⟩ := cfBot_b (e40 c)
  unfold catchF
  generalize e40 c = x at b0 b1
  generalize cfBot x = b at b0 b1
  have p7 : (2 : Nat) ^ 7 = 128 := by decide
  have hb7 : b.natAbs < 2 ^ 7 := by omega
  have hw : 0 ≤ W * b := Int.mul_nonneg h0 (by omega)
  have t0 := Int.emod_nonneg (x / 485) (b := W * b + 1) (by omega)
  have t1 := Int.emod_lt_of_pos (x / 485) (b := W * b + 1) (by omega)
  obtain ⟨f0, f1⟩ := frac_in (W := W) (b := b) (by omega) t0 (by omega)
  refine ⟨f0, f1, bt_divInt (by omega) ?_ (Nat.lt_of_lt_of_le hb7 (Nat.pow_le_pow_right (by decide) (by omega)))⟩
  have := abs_mul_lt hW hb7
  omega
def cCatchF : Ct := fun ds k => ∃ (W c : Int) (B : Nat), ds = [.int W, .int c] ∧ 0 ≤ W ∧ W.natAbs < 2 ^ B ∧ B ≤ 10000 ∧ k.rt (fr (catchF W c))
theorem catchF_v {W c : Int} {B : Nat} (h0 : 0 ≤ W) (hW : W.natAbs < 2 ^ B) (hB : B ≤ 10000) : cCatchF [.int W, .int c] (kv (fr (catchF W c))) := ⟨W, c, B, rfl, h0, hW, hB, rfl⟩
def Amts (u : Cu) (xs : List Rat) : Prop := xs.length = u.claims.length ∧ ∀ x ∈ xs, bt x 2500
def isAmts (u : Cu) (es : List D) : Prop := ∃ xs, es = fls xs ∧ Amts u xs
def cAmts : Ct := fun ds k => ∃ (u : Cu) (c : Int), ds = [u.d, .int c] ∧ u.Ok ∧ ∀ xs, Amts u xs → k.rl (fls xs)
theorem amts_v {u : Cu} {c : Int} (h : u.Ok) : cAmts [u.d, .int c] ⟨fun _ => False, isAmts u, fun _ => False⟩ := ⟨u, c, rfl, h, fun xs hx => ⟨xs, rfl, hx⟩⟩
theorem fr_neg (q : Rat) : fr (-q) = .tuple [.int (0 - q.num), .int (q.den : Int)] := by
  unfold fr
  rw [Rat.neg_num, Rat.neg_den, Int.zero_sub]
/-- two alike things, as papers hold them -/
def alP : Nat → D → Prop
  | 0, _ => False
  | _ + 1, .int _ => True
  | _ + 1, .str z => SeqAt.shaped (.str z) = true
  | n + 1, .tuple ds => ds.length ≤ 10000 ∧ ∀ d ∈ ds, alP n d
  | _ + 1, _ => False
def cAlikeP (n : Nat) : Ct := fun ds k => ∃ d : D, ds = [d, d] ∧ alP n d ∧ k.rt (.bool true)
theorem alikeP_v {n : Nat} {d : D} (h : alP n d) : cAlikeP n [d, d] (kv (.bool true)) := ⟨d, rfl, h, rfl⟩
theorem alP_ints {n : Nat} {ds : List D} (h : ∀ d ∈ ds, ∃ i : Int, d = .int i) (hl : ds.length ≤ 10000) : alP (n + 2) (.tuple ds) := ⟨hl, fun d hd => by
  obtain ⟨i, rfl⟩ := h d hd
  trivial⟩
theorem alP_fr (n : Nat) (q : Rat) : alP (n + 2) (fr q) := alP_ints (fun d hd => by
  rcases List.mem_cons.mp hd with rfl | hd
  · exact ⟨_, rfl⟩
  · obtain rfl := List.mem_singleton.mp hd
    exact ⟨_, rfl⟩) (by show 2 ≤ 10000; decide)
theorem isWrong_path : ∀ (u : Cu) (xs : List Rat) (p : List Nat) (i j : Nat), isWrong u xs (some (p, i, j)) → p.length < u.deep := fun u => Cu.ind (P := fun u => ∀ (xs : List Rat) (p : List Nat) (i j : Nat), isWrong u xs (some (p, i, j)) → p.length < u.deep) (fun c xs p i j h => by cases (show some (p, i, j) = none from h)) (fun y ws ks ih xs p i j h => by
    rcases h with ⟨a, b, _, e⟩ | ⟨_, h⟩
    · cases e
      show 0 < 1 + _
      omega
    · have key : ∀ (ks : List Cu) (xs : List Rat) (m : Nat), (∀ k ∈ ks, ∀ (xs : List Rat) (p : List Nat) (i j : Nat), isWrong k xs (some (p, i, j)) → p.length < k.deep) → isWrongL ks xs m (some (p, i, j)) → p.length < 1 + Cu.deepL ks := by
        intro ks
        induction ks with
        | nil => intro xs m _ h; cases (show some (p, i, j) = none from h)
        | cons k r ihr =>
          intro xs m hk h
          rcases h with ⟨q, a, b, h1, e⟩ | ⟨_, h2⟩
          · cases e
            have := hk k List.mem_cons_self _ _ _ _ h1
            show q.length + 1 < 1 + max k.deep (Cu.deepL r)
            omega
          · have := ihr _ _ (fun k h => hk k (List.mem_cons_of_mem _ h)) h2
            show p.length < 1 + max k.deep (Cu.deepL r)
            omega
      exact key ks xs 0 ih h) u
theorem alP_found {u : Cu} {xs : List Rat} {r : D} (hu : u.Ok) (h : isFound u xs r) : alP 10 r := by
  cases h with
  | over m h =>
    refine ⟨by show 2 ≤ 10000; decide, fun d hd => ?_⟩
    rcases List.mem_cons.mp hd with rfl | hd
    · show SeqAt.shaped (.str "over") = true
      decide +kernel
    · obtain rfl := List.mem_singleton.mp hd
      trivial
  | pair p i j h w =>
    have := isWrong_path u xs p i j w
    have := hu.low
    refine ⟨by show 4 ≤ 10000; decide, fun d hd => ?_⟩
    rcases List.mem_cons.mp hd with rfl | hd
    · show SeqAt.shaped (.str "pair") = true
      decide +kernel
    rcases List.mem_cons.mp hd with rfl | hd
    · refine alP_ints (n := 7) (fun d hd => ?_) (by unfold natD; rw [List.length_map]; omega)
      obtain ⟨m, _, rfl⟩ := List.mem_map.mp hd
      exact ⟨_, rfl⟩
    rcases List.mem_cons.mp hd with rfl | hd
    · trivial
    · obtain rfl := List.mem_singleton.mp hd
      trivial
  | catch_ h w =>
    refine ⟨by show 2 ≤ 10000; decide, fun d hd => ?_⟩
    rcases List.mem_cons.mp hd with rfl | hd
    · show SeqAt.shaped (.str "catch") = true
      decide +kernel
    · obtain rfl := List.mem_singleton.mp hd
      exact alP_fr 7 _
/-- of what is dealt the catch is told -/
theorem found_deal {u : Cu} {q : Rat} (h : u.Ok) (h0 : 0 ≤ q) (h1 : q ≤ (u.sum : Rat)) : isFound u (u.deal q) (.tuple [.str "catch", fr q]) := by
  have hd := deal_dl h.ok h0 h1
  have hw := within_of hd
  have e := hd.sum
  have := isFound.catch_ ((isOver_none hw.1).mpr hw) ((wrong_none h.ok hw).mpr (by rw [e]))
  rw [e] at this
  exact this
theorem bt_third : bt (1 / 3 : Rat) 2 := ⟨by decide +kernel, by decide +kernel⟩
end Pu

set_option maxRecDepth 100000
set_option maxHeartbeats 1000000
namespace Pu
open PySem PySem.Spec PyProof.Rows L2
/-! ### the first of an own list taken off, and something of it put at the end -/
section
variable {K : Frag} {ρ : En} {W : WX} {ex : Value → En → Prop} {k : Ko} {ds : List D} {i j : Nat} {tq : TE}
theorem sd_popAppend {a c P f : Int} (e : ρ[i]? = some (.own (.int a :: ds))) (hj : ρ[j]? = some (.val (.int c))) (hij : i ≠ j) (hm : CMulB a f) (hq : Ev K tq (ρ.set i (.own ds)) (.int P)) (hP : 0 < P) (hl : ds.length ≤ 100000) (hk : k.nx (ρ.set i (.own (ds ++ [.int ((a * f + c) % P)])))) :
    Sd K W ex (tDrop (tBM K "list" rAppend (tVar i) (tCons (tOp rMod (tOp (rCatA K) (tOp rMul (tBM K "list" rPopAt (tVar i) (tCons (tC (.int 0)) tNil)) (tC (.int f))) (tVar j)) tq) tNil))) ρ k := fun R0 H0 ok R σ H A D m => by
  obtain ⟨p, vs, h1, h2, h3, h4, h5⟩ := A.own i _ e
  have hil : i < ρ.length := (List.getElem?_eq_some_iff.mp e).1
  cases h3 with
  | @cons v vs' _ _ d1 d2 =>
    cases d1
    have a1 := A.put e h1 d2
    have e1 : (ρ.set i (.own ds))[i]? = some (.own ds) := List.getElem?_set_self hil
    obtain ⟨w, w1, w2⟩ := a1.val j (.int c) (by rw [List.getElem?_set_ne hij]; exact hj)
    cases w2
    refine ⟨_, h1, .inl ⟨rfl, _, SqL.of h2⟩, ?_⟩
    refine ⟨_, h1, .inl ⟨rfl, _, SqL.of h2⟩, p, _, 0, 0, _, rfl, rfl, h2, by decide, by decide, ?_, rfl, ?_⟩
    · have : (decide ((0 : Int) ≤ 0) && decide ((0 : Int) < (((V.int a :: vs').length : Nat) : Int))) = true := by
        rw [Bool.and_eq_true, decide_eq_true_eq, decide_eq_true_eq]
        refine ⟨by decide, ?_⟩
        rw [List.length_cons]
        omega
      exact if_pos this
    refine ⟨a, f, rfl, rfl, hm, _, w1, .inl ⟨a * f, c, rfl, rfl, ?_⟩⟩
    refine hq R0 H0 R σ _ a1 _ fun x R1 H1 g1 dx => ?_
    cases dx
    refine ⟨a * f + c, P, rfl, rfl, by omega, ?_⟩
    have a2 := a1.grow g1
    have hp2 := g1.hp _ _ (show upd H p (.lst vs') p = some (.lst vs') from upd_same)
    refine ⟨p, vs', _, rfl, rfl, hp2, ?_, ?_⟩
    · rw [dpa_len d2]
      exact Nat.lt_of_le_of_lt hl (by decide)
    · have a3 := a2.put e1 h1 (dpa_snoc (dpa_mono g1.rd _ _ d2) (Dp.int ((a * f + c).fmod P)))
      rw [List.set_set] at a3
      have ef : (a * f + c).fmod P = (a * f + c) % P := Int.fmod_eq_emod_of_nonneg _ (by omega)
      rw [ef] at a3
      show D.nx σ (upd H1 p (HO.lst (vs' ++ [.int ((a * f + c).fmod P)])))
      rw [ef]
      exact m.nx _ R1 _ _ hk a3
end
def cFold : Ct := fun ds k => ∃ (ns : List Int) (s m : Nat), ds = [.list (ns.map PyData.int), .int (s : Int), .int (m : Int)] ∧ ns.length ≤ 63 ∧ small ns 1048577 ∧ 1 ≤ m ∧ m ≤ 100 ∧ ∀ cs : List Int, cs.length ≤ m → k.rl (cs.map PyData.int)
def isFold (m : Nat) (es : List D) : Prop := ∃ cs : List Int, es = cs.map PyData.int ∧ cs.length ≤ m
theorem fold_v {ns : List Int} {s m : Nat} (h : ns.length ≤ 63) (hs : small ns 1048577) (h1 : 1 ≤ m) (h2 : m ≤ 100) : cFold [.list (ns.map PyData.int), .int (s : Int), .int (m : Int)] ⟨fun _ => False, isFold m, fun _ => False⟩ := ⟨ns, s, m, rfl, h, hs, h1, h2, fun cs hc => ⟨cs, rfl, hc⟩⟩
end Pu

set_option maxRecDepth 100000
set_option maxHeartbeats 1000000
namespace Pu
open PySem PySem.Spec PyProof.Rows L2
/-! ### a loop over a list of which only something is known -/
def IdP (K : Frag) (wi : TI) (ρ : En) (P : List D → Prop) : Prop := ∀ R0 H0 R σ H, At K R0 H0 R ρ σ H → ∀ Rr : It → Hp → Prop, (∀ J R' H' ds, P ds → Grow R H R' H' → Yl K J R' ds → Rr J H') → wi σ H Rr
section
variable {K : Frag} {ρ : En} {W : WX} {ex : Value → En → Prop} {k : Ko} {g : TG} {tb : TS} {ta : TA} {c : Ct} {es : List D} {E : L2.St → XK}
theorem w_callP (P : List D → Prop) (ha : EvA K ta ρ es) (hc : c es ⟨fun _ => False, P, fun _ => False⟩) : IdP K (iSeq K (tCallS (spc K c) E ta)) ρ P := fun R0 H0 R σ H a Rr q => ha R0 H0 R σ H a _ fun vs R1 H1 g1 dx => by
  refine ⟨R1, es, _, g1.sub, dx, hc, fun _ _ _ _ h => h.elim, fun fs p vs' R' H' h g2 hn hr hp dv => ?_, fun _ _ _ h => h.elim⟩
  have g3 := g2.show_ hn hp
  have ha2 := dpa_mono (same_upd (o := .lst vs') hr) _ _ dv
  have sq : SqL K (upd R' p (.lst vs')) p vs' := SqL.of upd_same
  refine ⟨p, rfl, .inl ⟨⟨_, g3.sub.seq sq⟩, q _ _ H' fs h (g1.trans g3) fun R2 H2 s2 sh => ⟨fun i d e => ?_, ⟨vs', sh.seq (s2.seq sq), Nat.le_of_eq (dpa_len ha2)⟩⟩⟩⟩
  obtain ⟨v, h1, h2⟩ := dpa_get ha2 e
  refine ⟨⟨vs', v, sh.seq (s2.seq sq), h1⟩, fun x H3 y => ?_⟩
  obtain ⟨rfl, y⟩ := y
  have z := y vs' (sh.seq (s2.seq sq))
  rw [h1] at z
  cases z
  exact ⟨R2, Grow.refl sh, dp_mono s2 _ _ h2⟩
theorem sd_forP {wi : TI} (P : List D → Prop) (hI : IdP K wi ρ P)
    (h : ∀ ds, P ds → ∃ Inv : Nat → En → Prop, Inv 0 ρ ∧ (∀ i d ρ', ds[i]? = some d → Inv i ρ' → ∃ ρ2, Gd K g d ρ' ρ2 ∧ Sd K W ex tb ρ2 { k with nx := Inv (i + 1), ct := Inv (i + 1), bk := k.nx }) ∧ ∀ ρ', Inv ds.length ρ' → k.nx ρ') : Sd K W ex (tFor wi g tb) ρ k := fun R0 H0 ok R σ H a D m => by
  refine hI R0 H0 R σ H a _ fun J R' H' ds hP gr yl => ?_
  obtain ⟨Inv, h0, hs, hd⟩ := h ds hP
  refine ⟨fun i n σ' H2 => n = ds.length - i ∧ i ≤ ds.length ∧ ∃ ρ' R2, Inv i ρ' ∧ At K R0 H0 R2 ρ' σ' H2 ∧ Same R' R2, ⟨ds.length, by simp, Nat.zero_le _, ρ, R', h0, a.grow gr, Same.refl _⟩, ?_⟩
  rintro i n σ' H2 ⟨rfl, hi, ρ', R2, w, a2, s2⟩
  obtain ⟨y1, y2⟩ := yl R2 H2 s2 a2.gr.sub
  by_cases hlt : i < ds.length
  · obtain ⟨go, yld⟩ := y1 i ds[i] (List.getElem?_eq_getElem hlt)
    refine .inr ⟨go, fun σ3 H3 => ∃ ρ3 R3, Inv (i + 1) ρ3 ∧ At K R0 H0 R3 ρ3 σ3 H3 ∧ Same R' R3, fun σ3 H3 ⟨ρ3, R3, w3, a3, s3⟩ => ⟨ds.length - (i + 1), by omega, rfl, hlt, ρ3, R3, w3, a3, s3⟩, fun x H3 y => ?_⟩
    obtain ⟨R3, g3, dx⟩ := yld x H3 y
    obtain ⟨ρ2, hg, hb⟩ := hs i ds[i] ρ' (List.getElem?_eq_getElem hlt) w
    have a3 := a2.grow g3
    refine hg R0 H0 R3 x σ' H3 a3 dx _ fun σ4 a4 => ?_
    have G := a3.gr
    refine hb R3 H0 (ok.back G) R3 σ4 H3 (a4.later G (Same.refl _)) _ ⟨fun r R5 σ5 H5 q a5 => ⟨r, R5, q, a5.back G, (s2.trans g3.rd).trans a5.gr.rd⟩, (m.back G).rt, (m.back G).rl, fun r R5 σ5 H5 q a5 => m.nx r R5 σ5 H5 q (a5.back G), fun r R5 σ5 H5 q a5 => ⟨r, R5, q, a5.back G, (s2.trans g3.rd).trans a5.gr.rd⟩⟩
  · have e : i = ds.length := by omega
    subst e
    exact .inl ⟨y2, m.nx _ _ _ _ (hd ρ' w) a2⟩
end
/-- whether amounts are what the custom deals at their sum -/
def Due (u : Cu) (xs : List Rat) : Prop := within u.claims xs ∧ xs = u.deal (qsum xs)
theorem found_cases {u : Cu} {xs : List Rat} {r : D} (hu : u.Ok) (hl : xs.length = u.claims.length) (h : isFound u xs r) : (Due u xs ∧ r = .tuple [.str "catch", fr (qsum xs)]) ∨ (¬ Due u xs ∧ ((∃ m : Nat, isOver u.claims xs (some m) ∧ r = .tuple [.str "over", .int (m : Int)]) ∨ (within u.claims xs ∧ ∃ (p : List Nat) (i j : Nat), isWrong u xs (some (p, i, j)) ∧ r = .tuple [.str "pair", .tuple (natD p), .int (i : Int), .int (j : Int)]))) := by
  cases h with
  | over m h =>
    refine .inr ⟨fun z => ?_, .inl ⟨m, h, rfl⟩⟩
    exact absurd (isOver_uniq h ((isOver_none hl).mpr z.1)) (fun z => nomatch z)
  | pair p i j h w =>
    have hw := (isOver_none hl).mp h
    refine .inr ⟨fun z => ?_, .inr ⟨hw, p, i, j, w, rfl⟩⟩
    exact absurd (isWrong_uniq u xs _ _ w ((wrong_none hu.ok hw).mpr z.2)) (fun z => nomatch z)
  | catch_ h w =>
    have hw := (isOver_none hl).mp h
    exact .inl ⟨⟨hw, (wrong_none hu.ok hw).mp w⟩, rfl⟩
theorem due_of {u : Cu} {xs : List Rat} {q : Rat} (hu : u.Ok) (h0 : 0 ≤ q) (h1 : q ≤ (u.sum : Rat)) (e : xs = u.deal q) : Due u xs := by
  have hd := deal_dl hu.ok h0 h1
  rw [← e] at hd
  exact ⟨within_of hd, by rw [hd.sum]; exact e⟩
theorem wth_filter {cs : List Int} {xs : List Rat} (hl : xs.length = cs.length) : ((List.range cs.length).filter fun k => decide ((gD xs k).num < 0) || decide (((iD cs k : Int) : Rat) < gD xs k)) = [] ↔ within cs xs := by
  rw [List.filter_eq_nil_iff]
  constructor
  · intro h
    refine ⟨hl, fun i x c hx hc => ?_⟩
    have hi := getElem?_lt hc
    have := h i (List.mem_range.mpr hi)
    rw [Bool.or_eq_true, decide_eq_true_eq, decide_eq_true_eq, num_neg, gD_at hx] at this
    have ec : iD cs i = c := by
      have := iD_at hi
      rw [hc] at this
      exact (Option.some.inj this).symm
    rw [ec] at this
    have h1 : ¬ x < 0 := fun z => this (.inl z)
    have h2 : ¬ (c : Rat) < x := fun z => this (.inr z)
    exact ⟨by grind, by grind⟩
  · intro h k hk
    have hk := List.mem_range.mp hk
    obtain ⟨a, b⟩ := h.2 k _ _ (at_gD (by omega)) (iD_at hk)
    rw [Bool.or_eq_true, decide_eq_true_eq, decide_eq_true_eq, num_neg]
    rintro (z | z)
    · grind
    · grind
end Pu

set_option maxRecDepth 100000
set_option maxHeartbeats 1000000
namespace Pu
open PySem PySem.Spec PyProof.Rows L2
/-! ### papers of what is lacking, and of the plain custom -/
theorem canLay_over : (PyData.str "over").canLay0 = true := by decide +kernel
theorem canLay_pair : (PyData.str "pair").canLay0 = true := by decide +kernel
theorem canLay_catch : (PyData.str "catch").canLay0 = true := by decide +kernel
theorem sh_catch (q : Rat) : Sh 3 (.tuple [.str "catch", fr q]) := (sh_tuple (n := 1) fun d m => by
  rcases List.mem_cons.mp m with rfl | m
  · exact (sh_str canLay_catch).mono (by decide)
  · obtain rfl := List.mem_singleton.mp m
    exact sh_fr).mono (by decide)
theorem sh_found {u : Cu} {xs : List Rat} {r : D} (h : isFound u xs r) : Sh 3 r := by
  cases h with
  | over m h =>
    refine (sh_tuple (n := 0) fun d m => ?_).mono (by decide)
    rcases List.mem_cons.mp m with rfl | m
    · exact sh_str canLay_over
    · obtain rfl := List.mem_singleton.mp m
      exact sh_int
  | pair p i j h w =>
    refine (sh_tuple (n := 2) fun d m => ?_).mono (by decide)
    rcases List.mem_cons.mp m with rfl | m
    · exact (sh_str canLay_pair).mono (by decide)
    rcases List.mem_cons.mp m with rfl | m
    · exact (sh_tuple (n := 0) fun d m => by
        obtain ⟨_, _, rfl⟩ := List.mem_map.mp m
        exact sh_int).mono (by decide)
    rcases List.mem_cons.mp m with rfl | m
    · exact sh_int.mono (by decide)
    · obtain rfl := List.mem_singleton.mp m
      exact sh_int.mono (by decide)
  | catch_ h w => exact sh_catch _
theorem qsum_lack {cs gs : List Rat} (h : gs.length = cs.length) : qsum (lackD cs gs) = qsum cs - qsum gs := lackD_sum h
theorem pairOk_con {y : Wy} {ws cs xs : List Rat} (h : Fit y ws cs) (hl : xs.length = cs.length) {i j : Nat} (hi : i < cs.length) (hj : j < cs.length) : pairOk y.con ws cs (lackD cs xs) i j ↔ pairOk y ws cs xs i j := by
  unfold pairOk
  rw [lackD_gD hi hl, lackD_gD hj hl]
  have hf := fit_two h hi hj
  generalize gD cs i = c at *
  generalize gD cs j = d at *
  generalize gD xs i = a at *
  generalize gD xs j = b at *
  have e : c - a + (d - b) = qsum [c, d] - (a + b) := by rw [qsum_two]; grind
  constructor
  · rintro ⟨h0, h1, h2⟩
    have s0 : 0 ≤ a + b := by grind
    have s1 : a + b ≤ c + d := by grind
    refine ⟨s0, s1, ?_⟩
    have hd := dealOf_con hf (q := qsum [c, d] - (a + b)) (by rw [qsum_two]; grind) (by rw [qsum_two]; grind)
    rw [show qsum [c, d] - (qsum [c, d] - (a + b)) = a + b by grind, ← e, h2] at hd
    have hl2 := (dealOf_ok hf s0 (by rw [qsum_two]; exact s1)).len
    have := congrArg (lackD [c, d]) hd
    rw [lackD_lackD hl2, lackD_two] at this
    rw [← this, show c - (c - a) = a by grind, show d - (d - b) = b by grind]
  · rintro ⟨s0, s1, h2⟩
    refine ⟨by grind, by grind, ?_⟩
    rw [e, dealOf_con hf (by rw [qsum_two]; grind) (by rw [qsum_two]; grind), show qsum [c, d] - (qsum [c, d] - (a + b)) = a + b by grind, h2, lackD_two]
theorem lackD_take : ∀ (cs gs : List Rat) (n : Nat), (lackD cs gs).take n = lackD (cs.take n) (gs.take n)
  | _, _, 0 => rfl
  | [], _, _ + 1 => rfl
  | _ :: _, [], _ + 1 => rfl
  | c :: cs, g :: gs, n + 1 => by
    show (c - g) :: (lackD cs gs).take n = (c - g) :: lackD (cs.take n) (gs.take n)
    rw [lackD_take cs gs n]
theorem lackD_drop : ∀ (cs gs : List Rat) (n : Nat), cs.length = gs.length → (lackD cs gs).drop n = lackD (cs.drop n) (gs.drop n)
  | _, _, 0, _ => rfl
  | [], [], _ + 1, _ => rfl
  | c :: cs, g :: gs, n + 1, h => lackD_drop cs gs n (Nat.succ.inj h)
  | [], _ :: _, _, h => absurd h (by simp)
  | _ :: _, [], _, h => absurd h (by simp)
theorem qlist_drop (cs : List Int) (k : Nat) : (qlist cs).drop k = qlist (cs.drop k) := by
  unfold qlist
  rw [List.map_drop]
/-- the parts of what is lacking -/
theorem parts_lack : ∀ (ks : List Cu) (xs : List Rat), xs.length = (Cu.claimsL ks).length → sumsF (Cu.conL ks) (lackD (qlist (Cu.claimsL ks)) xs) = lackD (qlist (ks.map Cu.sum)) (sumsF ks xs)
  | [], _, _ => rfl
  | k :: r, xs, h => by
    have hl : xs.length = k.claims.length + (Cu.claimsL r).length := by
      rw [h]
      show (k.claims ++ Cu.claimsL r).length = _
      rw [List.length_append]
    have hc : k.con.claims = k.claims := (con_same k).1
    have e1 : (lackD (qlist (k.claims ++ Cu.claimsL r)) xs).take k.claims.length = lackD (qlist k.claims) (xs.take k.claims.length) := by
      rw [lackD_take, qlist_take, List.take_left]
    have e2 : (lackD (qlist (k.claims ++ Cu.claimsL r)) xs).drop k.claims.length = lackD (qlist (Cu.claimsL r)) (xs.drop k.claims.length) := by
      rw [lackD_drop _ _ _ (by rw [qlist_len, List.length_append]; omega), qlist_drop, List.drop_left]
    show qsum ((lackD (qlist (k.claims ++ Cu.claimsL r)) xs).take k.con.claims.length) :: sumsF (Cu.conL r) ((lackD (qlist (k.claims ++ Cu.claimsL r)) xs).drop k.con.claims.length) = ((k.sum : Rat) - qsum (xs.take k.claims.length)) :: lackD (qlist (r.map Cu.sum)) (sumsF r (xs.drop k.claims.length))
    rw [hc, e1, e2, parts_lack r _ (by rw [List.length_drop]; omega), qsum_lack (by rw [List.length_take, qlist_len]; omega), Cu.sum_rat]
theorem wrongW_con {y : Wy} {ws : List Int} {ks : List Cu} {ss : List Rat} (h : (Cu.knot y ws ks).ok) (hl : ss.length = ks.length) {i j : Nat} (hi : i < ks.length) (hj : j < ks.length) : wrongW y.con ws (Cu.conL ks) (lackD (qlist (ks.map Cu.sum)) ss) i j = wrongW y ws ks ss i j := by
  have e : (Cu.conL ks).map Cu.sum = ks.map Cu.sum := by
    rw [Cu.conL_map, List.map_map]
    exact List.map_congr_left fun k _ => con_sum k
  have hq : (qlist (ks.map Cu.sum)).length = ks.length := by rw [qlist_len, List.length_map]
  unfold wrongW
  rw [e]
  congr 1
  exact decide_eq_decide.mpr (pairOk_con (fit_knot h) (by rw [hl, hq]) (by rw [hq]; exact hi) (by rw [hq]; exact hj))
theorem isFirst_congr {W V : Nat → Nat → Bool} {n : Nat} (h : ∀ i j, i < j → j < n → W i j = V i j) : ∀ {o : Option (Nat × Nat)}, isFirst W n o → isFirst V n o
  | none, g => fun i j h1 h2 => by rw [← h i j h1 h2]; exact g i j h1 h2
  | some (i, j), ⟨g1, g2, g3, g4⟩ => ⟨g1, g2, by rw [← h i j g1 g2]; exact g3, fun a b h1 h2 h3 => by rw [← h a b h1 h2]; exact g4 a b h1 h2 h3⟩
theorem isWrong_con : ∀ {u : Cu}, u.ok → ∀ {xs : List Rat} {o : Wr}, xs.length = u.claims.length → isWrong u xs o → isWrong u.con (lackD (qlist u.claims) xs) o := fun {u} => Cu.ind (P := fun u => u.ok → ∀ {xs : List Rat} {o : Wr}, xs.length = u.claims.length → isWrong u xs o → isWrong u.con (lackD (qlist u.claims) xs) o) (fun c _ xs o _ h => h) (fun y ws ks ih h xs o hl hw => by
    have hl' : xs.length = (Cu.claimsL ks).length := hl
    have hp := parts_lack ks xs hl'
    have hsl := sumsF_len ks xs
    have hcl : (Cu.conL ks).length = ks.length := by rw [Cu.conL_map, List.length_map]
    have conv : ∀ {q : Option (Nat × Nat)}, isFirst (wrongW y ws ks (sumsF ks xs)) ks.length q → isFirst (wrongW y.con ws (Cu.conL ks) (sumsF (Cu.conL ks) (lackD (qlist (Cu.claimsL ks)) xs))) (Cu.conL ks).length q := fun {q} g => by
      rw [hcl, hp]
      exact isFirst_congr (fun i j h1 h2 => (wrongW_con h hsl (by omega) h2).symm) g
    rcases hw with ⟨i, j, h1, rfl⟩ | ⟨h1, h2⟩
    · exact .inl ⟨i, j, conv h1, rfl⟩
    · refine .inr ⟨conv h1, ?_⟩
      have key : ∀ (ks : List Cu) (xs : List Rat) (m : Nat) (o : Wr), (∀ k ∈ ks, k.ok ∧ ∀ {xs : List Rat} {o : Wr}, xs.length = k.claims.length → isWrong k xs o → isWrong k.con (lackD (qlist k.claims) xs) o) → xs.length = (Cu.claimsL ks).length → isWrongL ks xs m o → isWrongL (Cu.conL ks) (lackD (qlist (Cu.claimsL ks)) xs) m o := by
        intro ks
        induction ks with
        | nil => intro xs m o _ _ h; exact h
        | cons k r ihr =>
          intro xs m o hk hx h
          have hlx : xs.length = k.claims.length + (Cu.claimsL r).length := by
            rw [hx]
            show (k.claims ++ Cu.claimsL r).length = _
            rw [List.length_append]
          have hc : k.con.claims = k.claims := (con_same k).1
          have e1 : (lackD (qlist (k.claims ++ Cu.claimsL r)) xs).take k.claims.length = lackD (qlist k.claims) (xs.take k.claims.length) := by
            rw [lackD_take, qlist_take, List.take_left]
          have e2 : (lackD (qlist (k.claims ++ Cu.claimsL r)) xs).drop k.claims.length = lackD (qlist (Cu.claimsL r)) (xs.drop k.claims.length) := by
            rw [lackD_drop _ _ _ (by rw [qlist_len, List.length_append]; omega), qlist_drop, List.drop_left]
          obtain ⟨_, hk1⟩ := hk k List.mem_cons_self
          show (∃ p i j, isWrong k.con ((lackD (qlist (k.claims ++ Cu.claimsL r)) xs).take k.con.claims.length) (some (p, i, j)) ∧ o = some (m :: p, i, j)) ∨ (isWrong k.con ((lackD (qlist (k.claims ++ Cu.claimsL r)) xs).take k.con.claims.length) none ∧ isWrongL (Cu.conL r) ((lackD (qlist (k.claims ++ Cu.claimsL r)) xs).drop k.con.claims.length) (m + 1) o)
          rw [hc, e1, e2]
          rcases h with ⟨p, i, j, g1, rfl⟩ | ⟨g1, g2⟩
          · exact .inl ⟨p, i, j, hk1 (by rw [List.length_take]; omega) g1, rfl⟩
          · exact .inr ⟨hk1 (by rw [List.length_take]; omega) g1, ihr _ _ _ (fun k hk' => hk k (List.mem_cons_of_mem _ hk')) (by rw [List.length_drop]; omega) g2⟩
      exact key ks xs 0 o (fun k hk => ⟨Cu.ok_kid h hk, fun {xs o} a b => ih k hk (Cu.ok_kid h hk) a b⟩) hl' h2) u
theorem beyQ_lack {c : Int} {x : Rat} : beyQ ((c : Rat) - x) c = beyQ x c := by
  unfold beyQ
  have e1 : decide ((c : Rat) - x < 0) = decide ((c : Rat) < x) := decide_eq_decide.mpr ⟨fun h => by grind, fun h => by grind⟩
  have e2 : decide ((c : Rat) < (c : Rat) - x) = decide (x < 0) := decide_eq_decide.mpr ⟨fun h => by grind, fun h => by grind⟩
  rw [e1, e2, Bool.or_comm]
theorem lack_at {cs : List Int} {xs : List Rat} (hl : xs.length = cs.length) {i : Nat} {z : Rat} {c : Int} (h : (lackD (qlist cs) xs)[i]? = some z) (hc : cs[i]? = some c) : ∃ x, xs[i]? = some x ∧ z = (c : Rat) - x := by
  obtain ⟨c', g, h1, h2, rfl⟩ := lackD_at h
  rw [qlist_at hc] at h1
  cases h1
  exact ⟨g, h2, rfl⟩
theorem isOver_lack {cs : List Int} {xs : List Rat} (hl : xs.length = cs.length) : ∀ {o : Option Nat}, isOver cs xs o → isOver cs (lackD (qlist cs) xs) o
  | none, h => fun i z c hz hc => by
    obtain ⟨x, hx, rfl⟩ := lack_at hl hz hc
    rw [beyQ_lack]
    exact h i x c hx hc
  | some m, ⟨⟨x, c, h1, h2, h3⟩, h4⟩ => ⟨⟨_, c, lackD_of (qlist_at h2) h1, h2, by rw [beyQ_lack]; exact h3⟩, fun i z c hi hz hc => by
    obtain ⟨x, hx, rfl⟩ := lack_at hl hz hc
    rw [beyQ_lack]
    exact h4 i x c hi hx hc⟩
/-- the paper of what is lacking by the contrary -/
def conR (u : Cu) (xs : List Rat) : D → D
  | .tuple [.str w, d] => if w = "catch" then .tuple [.str "catch", fr ((u.sum : Rat) + -(qsum xs))] else .tuple [.str w, d]
  | d => d
theorem found_con {u : Cu} {xs : List Rat} {r : D} (hu : u.Ok) (hl : xs.length = u.claims.length) (h : isFound u xs r) : isFound u.con (lackD (qlist u.claims) xs) (conR u xs r) := by
  have hc := (con_same u).1
  cases h with
  | over m h =>
    have := isFound.over (u := u.con) (xs := lackD (qlist u.claims) xs) m (by rw [hc]; exact isOver_lack hl h)
    exact this
  | pair p i j h w => exact .pair p i j (by rw [hc]; exact isOver_lack hl h) (isWrong_con hu.ok hl w)
  | catch_ h w =>
    have := isFound.catch_ (u := u.con) (xs := lackD (qlist u.claims) xs) (by rw [hc]; exact isOver_lack hl h) (isWrong_con hu.ok hl w)
    rw [qsum_lack (by rw [hl, qlist_len]), ← Cu.sum_rat, show (u.sum : Rat) - qsum xs = (u.sum : Rat) + -(qsum xs) by grind] at this
    exact this
theorem due_plain {u : Cu} {xs : List Rat} (hu : u.Ok) : Due u.plain xs ↔ Due u xs := by
  have hc := (plain_all hu.ok hu.few).2.1
  unfold Due
  rw [hc]
  constructor
  · rintro ⟨h1, h2⟩
    obtain ⟨s0, s1⟩ := within_sum h1
    rw [deal_plain hu.ok hu.few s0 s1] at h2
    exact ⟨h1, h2⟩
  · rintro ⟨h1, h2⟩
    obtain ⟨s0, s1⟩ := within_sum h1
    rw [deal_plain hu.ok hu.few s0 s1]
    exact ⟨h1, h2⟩
end Pu

set_option maxRecDepth 100000
set_option maxHeartbeats 1000000
namespace Pu
open PySem PySem.Spec PyProof.Rows L2
section
variable {K : Frag} {ρ : En} {ta tb : TE} {ds es : List D}
section
variable {ta : TA}
theorem id_rngN {n : Nat} (h : EvA K ta ρ [.int (n : Int)]) (hn : n ≤ 1000000) : Id K (iRng1 ta) ρ (rangeD 0 n) := by
  have := id_rng1 h (by omega) (by omega)
  rwa [Int.toNat_natCast] at this
theorem id_rngN2 {i n : Nat} (h : EvA K ta ρ [.int (i : Int), .int (n : Int)]) (hi : i ≤ 1000000) (hn : n ≤ 1000000) : Id K (iRng2 ta) ρ (rangeD (i : Int) (n - i)) := by
  have := id_rng2 h ⟨by omega, by omega, by omega, by omega⟩
  rwa [show ((n : Int) - (i : Int)).toNat = n - i by omega] at this
end
theorem a_cat0 (ha : EvM K ta ρ ds) (hb : EvM K tb ρ es) (hl : ds.length + es.length ≤ 100000) : EvF K (tOp (rCat0 K) ta tb) ρ (ds ++ es) := fun R0 H0 R σ H a Q q =>
  ha.l R0 H0 R σ H a _ fun p vs R1 H1 g1 hp dx => hb.l R0 H0 R1 σ H1 (a.grow g1) _ fun b ws R2 H2 g2 hb dy => by
    have g := g1.trans g2
    refine .inl (.inr (.inl ⟨p, b, vs, ws, rfl, rfl, g2.hp.seq hp, hb, ?_, fun c hc => q c _ R2 _ (g.trans (Grow.hide g.sub hc)) (g.hp.free hc) (g.sub.free hc) upd_same (dpa_append (dpa_mono g2.rd _ _ dx) dy)⟩))
    rw [dpa_len dx, dpa_len dy]
    exact Nat.le_trans hl (by decide)
end
/-! ### the pairs of all knots -/
def intP (p : List Nat) : List Int := p.map fun n : Nat => (n : Int)
theorem natD_intP (p : List Nat) : (intP p).map PyData.int = natD p := by
  unfold intP natD
  rw [List.map_map]
  rfl
def prRow (p : List Nat) (i n : Nat) : List Pap := (List.range n).map fun j => .pair true (intP p) (i : Int) ((i + 1 + j : Nat) : Int)
theorem prRow_succ (p : List Nat) (i n : Nat) : prRow p i (n + 1) = prRow p i n ++ [.pair true (intP p) (i : Int) ((i + 1 + n : Nat) : Int)] := by
  unfold prRow
  rw [List.range_succ, List.map_append]
  rfl
theorem prRow_len (p : List Nat) (i n : Nat) : (prRow p i n).length = n := by
  unfold prRow
  rw [List.length_map, List.length_range]
def prP (p : List Nat) (n : Nat) : Nat → List Pap
  | 0 => []
  | i + 1 => prP p n i ++ prRow p i (n - (i + 1))
theorem prP_len (p : List Nat) (n : Nat) : ∀ i, (prP p n i).length ≤ i * n
  | 0 => Nat.zero_le _
  | i + 1 => by
    have := prP_len p n i
    show (prP p n i ++ prRow p i (n - (i + 1))).length ≤ _
    rw [List.length_append, prRow_len, Nat.succ_mul]
    omega
theorem prP_mem (p : List Nat) (n i j : Nat) (hj : j < n) (hij : i < j) : ∀ m, i < m → Pap.pair true (intP p) (i : Int) (j : Int) ∈ prP p n m
  | 0, h => absurd h (Nat.not_lt_zero _)
  | m + 1, h => by
    show _ ∈ prP p n m ++ prRow p m (n - (m + 1))
    by_cases e : i < m
    · exact List.mem_append_left _ (prP_mem p n i j hj hij m e)
    · obtain rfl : i = m := by omega
      refine List.mem_append_right _ (List.mem_map.mpr ⟨j - (i + 1), List.mem_range.mpr (by omega), ?_⟩)
      rw [show i + 1 + (j - (i + 1)) = j by omega]
theorem prP_pair (p : List Nat) (n : Nat) : ∀ m, ∀ P ∈ prP p n m, ∃ p i j, P = .pair true p i j
  | 0, P, h => by cases h
  | m + 1, P, h => by
    rcases List.mem_append.mp (show P ∈ prP p n m ++ prRow p m (n - (m + 1)) from h) with h | h
    · exact prP_pair p n m P h
    · obtain ⟨j, _, rfl⟩ := List.mem_map.mp h
      exact ⟨_, _, _, rfl⟩
mutual
def papsOf : Cu → List Nat → List Pap
  | .boat _, _ => []
  | .knot _ _ ks, p => prP p ks.length ks.length ++ papsL ks p 0
def papsL : List Cu → List Nat → Nat → List Pap
  | [], _, _ => []
  | k :: r, p, m => papsOf k (p ++ [m]) ++ papsL r p (m + 1)
end
theorem papsOf_knot (y : Wy) (ws : List Int) (ks : List Cu) (p : List Nat) : papsOf (.knot y ws ks) p = prP p ks.length ks.length ++ papsL ks p 0 := by
  rw [papsOf]
theorem papsL_nil (p : List Nat) (m : Nat) : papsL [] p m = [] := by rw [papsL]
theorem papsL_cons (k : Cu) (r : List Cu) (p : List Nat) (m : Nat) : papsL (k :: r) p m = papsOf k (p ++ [m]) ++ papsL r p (m + 1) := by rw [papsL]
theorem papsL_cut : ∀ (ks : List Cu) (p : List Nat) (m i : Nat) (k : Cu), ks[i]? = some k → papsL (ks.take (i + 1)) p m = papsL (ks.take i) p m ++ papsOf k (p ++ [m + i])
  | [], _, _, i, k, h => by simp at h
  | x :: r, p, m, 0, k, h => by
    obtain rfl := Option.some.inj (show some x = some k from h)
    show papsL [x] p m = papsL [] p m ++ _
    rw [papsL_cons, papsL_nil, papsL_nil, List.append_nil]
    rfl
  | x :: r, p, m, i + 1, k, h => by
    show papsL (x :: r.take (i + 1)) p m = papsL (x :: r.take i) p m ++ _
    rw [papsL_cons, papsL_cons, papsL_cut r p (m + 1) i k (by simpa using h), List.append_assoc, show m + 1 + i = m + (i + 1) by omega]
theorem papsL_len (D : Nat) : ∀ (ks : List Cu) (p : List Nat) (m : Nat), (∀ k ∈ ks, ∀ p, (papsOf k p).length ≤ 144 * (k.claims.length * D)) → (papsL ks p m).length ≤ 144 * ((Cu.claimsL ks).length * D)
  | [], p, m, _ => by rw [papsL_nil]; exact Nat.zero_le _
  | k :: r, p, m, h => by
    have h1 := h k List.mem_cons_self (p ++ [m])
    have h2 := papsL_len D r p (m + 1) fun k hk => h k (List.mem_cons_of_mem _ hk)
    show _ ≤ 144 * ((k.claims ++ Cu.claimsL r).length * D)
    rw [papsL_cons, List.length_append, List.length_append, Nat.add_mul]
    omega
theorem paps_len : ∀ {u : Cu}, u.ok → ∀ (D : Nat), u.deep ≤ D → ∀ p, (papsOf u p).length ≤ 144 * (u.claims.length * D) := fun {u} => Cu.ind (P := fun u => u.ok → ∀ (D : Nat), u.deep ≤ D → ∀ p, (papsOf u p).length ≤ 144 * (u.claims.length * D)) (fun c _ D _ p => by rw [papsOf]; exact Nat.zero_le _) (fun y ws ks ih h D hD p => by
    have hdp := Cu.deep_pos (.knot y ws ks)
    obtain ⟨E, rfl⟩ : ∃ E, D = E + 1 := ⟨D - 1, by omega⟩
    have hL := papsL_len E ks p 0 fun k hk p => ih k hk (Cu.ok_kid h hk) E (by have := Cu.deep_kid (y := y) (ws := ws) hk; omega) p
    have hp := prP_len p ks.length ks.length
    have hn := h.1.2.1
    have hc := List.length_pos_iff.mpr (Cu.claims_ne h)
    have hc' : 0 < (Cu.claimsL ks).length := hc
    have hm := Nat.mul_le_mul hn hn
    show _ ≤ 144 * ((Cu.claimsL ks).length * (E + 1))
    rw [papsOf_knot, List.length_append, Nat.mul_succ]
    omega) u
theorem paps_few {u : Cu} (h : u.Ok) (p : List Nat) : (papsOf u p).length ≤ 13824 := by
  have := paps_len h.ok 8 h.low p
  have := h.few
  omega
theorem papsL_pair : ∀ (ks : List Cu) (p : List Nat) (m : Nat), (∀ k ∈ ks, ∀ p, ∀ P ∈ papsOf k p, ∃ p i j, P = .pair true p i j) → ∀ P ∈ papsL ks p m, ∃ p i j, P = .pair true p i j
  | [], p, m, _, P, h => by rw [papsL_nil] at h; cases h
  | k :: r, p, m, ih, P, h => by
    rw [papsL_cons] at h
    rcases List.mem_append.mp h with h | h
    · exact ih k List.mem_cons_self _ P h
    · exact papsL_pair r p (m + 1) (fun k hk => ih k (List.mem_cons_of_mem _ hk)) P h
theorem paps_pair : ∀ (u : Cu) (p : List Nat), ∀ P ∈ papsOf u p, ∃ p i j, P = .pair true p i j := fun u => Cu.ind (P := fun u => ∀ (p : List Nat), ∀ P ∈ papsOf u p, ∃ p i j, P = .pair true p i j) (fun c p P h => by rw [papsOf] at h; cases h) (fun y ws ks ih p P h => by
    rw [papsOf_knot] at h
    rcases List.mem_append.mp h with h | h
    · exact prP_pair p _ _ P h
    · exact papsL_pair ks p 0 ih P h) u
/-- a wrong pair that is told is among all pairs -/
theorem wrongL_mem : ∀ (ks : List Cu) (xs : List Rat) (p : List Nat) (m : Nat) (q : List Nat) (i j : Nat), (∀ k ∈ ks, ∀ xs p q i j, isWrong k xs (some (q, i, j)) → Pap.pair true (intP (p ++ q)) (i : Int) (j : Int) ∈ papsOf k p) → isWrongL ks xs m (some (q, i, j)) → Pap.pair true (intP (p ++ q)) (i : Int) (j : Int) ∈ papsL ks p m
  | [], xs, p, m, q, i, j, _, h => by cases (show some (q, i, j) = none from h)
  | k :: r, xs, p, m, q, i, j, ih, h => by
    rw [papsL_cons]
    rcases h with ⟨q', a, b, h1, h2⟩ | ⟨_, h2⟩
    · cases h2
      refine List.mem_append_left _ ?_
      have := ih k List.mem_cons_self _ (p ++ [m]) q' i j h1
      rwa [List.append_assoc] at this
    · exact List.mem_append_right _ (wrongL_mem r _ p (m + 1) q i j (fun k hk => ih k (List.mem_cons_of_mem _ hk)) h2)
theorem wrong_mem : ∀ (u : Cu) (xs : List Rat) (p q : List Nat) (i j : Nat), isWrong u xs (some (q, i, j)) → Pap.pair true (intP (p ++ q)) (i : Int) (j : Int) ∈ papsOf u p := fun u => Cu.ind (P := fun u => ∀ (xs : List Rat) (p q : List Nat) (i j : Nat), isWrong u xs (some (q, i, j)) → Pap.pair true (intP (p ++ q)) (i : Int) (j : Int) ∈ papsOf u p) (fun c xs p q i j h => by cases (show some (q, i, j) = none from h)) (fun y ws ks ih xs p q i j h => by
    rw [papsOf_knot]
    rcases h with ⟨a, b, h1, h2⟩ | ⟨_, h2⟩
    · cases h2
      obtain ⟨h3, h4, _⟩ := h1
      rw [List.append_nil]
      exact List.mem_append_left _ (prP_mem p _ i j h4 h3 _ (by omega))
    · exact List.mem_append_right _ (wrongL_mem ks xs p 0 q i j ih h2)) u
/-- ... and it shows -/
theorem wrongL_shown : ∀ (ks : List Cu) (xs : List Rat) (m : Nat) (q : List Nat) (i j : Nat), isWrongL ks xs m (some (q, i, j)) → ∃ (t : Nat) (k : Cu) (q' : List Nat), q = (m + t) :: q' ∧ ks[t]? = some k ∧ isWrong k ((xs.drop (Cu.claimsL (ks.take t)).length).take k.claims.length) (some (q', i, j))
  | [], xs, m, q, i, j, h => by cases (show some (q, i, j) = none from h)
  | k :: r, xs, m, q, i, j, h => by
    rcases h with ⟨q', a, b, h1, h2⟩ | ⟨_, h2⟩
    · cases h2
      exact ⟨0, k, q', rfl, rfl, h1⟩
    · obtain ⟨t, k', q', h3, h4, h5⟩ := wrongL_shown r _ (m + 1) q i j h2
      refine ⟨t + 1, k', q', by rw [h3]; congr 1; omega, by simpa using h4, ?_⟩
      rw [List.drop_drop] at h5
      have e : (Cu.claimsL ((k :: r).take (t + 1))).length = k.claims.length + (Cu.claimsL (r.take t)).length := by
        show (k.claims ++ Cu.claimsL (r.take t)).length = _
        rw [List.length_append]
      rw [e]
      exact h5
theorem pairSh_cons {y : Wy} {ws : List Int} {ks : List Cu} {xs : List Rat} {t : Nat} {k : Cu} {p : List Int} {i j : Int} (hk : ks[t]? = some k) : pairSh (.knot y ws ks) xs ((t : Int) :: p) i j = pairSh k ((xs.drop (Cu.claimsL (ks.take t)).length).take k.claims.length) p i j := by
  have e : kidAt (.knot y ws ks) ((t : Int) :: p) = kidAt k p := by
    rw [kidAt_knot, if_neg (by omega), Int.toNat_natCast, hk]
  have s : subA (.knot y ws ks) xs ((t : Int) :: p) = subA k ((xs.drop (Cu.claimsL (ks.take t)).length).take k.claims.length) p := by
    rw [subA_knot, Int.toNat_natCast, hk]
    show subA k ((partsF ks xs).getD t []) p = _
    rw [partsF_getD hk]
  unfold pairSh
  rw [e, s]
theorem wrong_shown : ∀ (u : Cu) (xs : List Rat) (q : List Nat) (i j : Nat), isWrong u xs (some (q, i, j)) → pairSh u xs (intP q) (i : Int) (j : Int) = true := fun u => Cu.ind (P := fun u => ∀ (xs : List Rat) (q : List Nat) (i j : Nat), isWrong u xs (some (q, i, j)) → pairSh u xs (intP q) (i : Int) (j : Int) = true) (fun c xs q i j h => by cases (show some (q, i, j) = none from h)) (fun y ws ks ih xs q i j h => by
    rcases h with ⟨a, b, h1, h2⟩ | ⟨_, h2⟩
    · cases h2
      obtain ⟨h3, h4, h5, _⟩ := h1
      rw [pairSh_knot (show kidAt _ (intP []) = _ from kidAt_nil _), Int.toNat_natCast, Int.toNat_natCast, show subA (.knot y ws ks) xs (intP []) = xs from subA_nil _ _, h5, decide_eq_true ⟨by omega, by omega, by omega⟩]
      rfl
    · obtain ⟨t, k, q', rfl, h4, h5⟩ := wrongL_shown ks xs 0 q i j h2
      have : intP ((0 + t) :: q') = (t : Int) :: intP q' := by
        rw [Nat.zero_add]
        rfl
      rw [this, pairSh_cons h4]
      exact ih k (List.mem_of_getElem? h4) _ q' i j h5) u
/-- no pair shows where none is wrong -/
theorem none_shown : ∀ (u : Cu) (xs : List Rat) (p : List Int) (i j : Int), isWrong u xs none → pairSh u xs p i j = false := fun u => Cu.ind (P := fun u => ∀ (xs : List Rat) (p : List Int) (i j : Int), isWrong u xs none → pairSh u xs p i j = false) (fun c xs p i j _ => by
    cases p with
    | nil => exact pairSh_boat (kidAt_nil _)
    | cons a p => exact pairSh_none (kidAt_boat _ _ _)) (fun y ws ks ih xs p i j h => by
    rcases h with ⟨_, _, _, z⟩ | ⟨h1, h2⟩
    · cases z
    · cases p with
      | nil =>
        rw [pairSh_knot (kidAt_nil _), subA_nil]
        by_cases c : 0 ≤ i ∧ i < j ∧ j < (ks.length : Int)
        · rw [h1 i.toNat j.toNat (by omega) (by omega), Bool.and_false]
        · rw [decide_eq_false c, Bool.false_and]
      | cons a p =>
        by_cases ha : a < 0
        · exact pairSh_none (by rw [kidAt_knot, if_pos ha])
        · cases e : ks[a.toNat]? with
          | none => exact pairSh_none (by rw [kidAt_knot, if_neg ha, e])
          | some k =>
            have ea : a = ((a.toNat : Nat) : Int) := by omega
            rw [ea, pairSh_cons e]
            exact ih k (List.mem_of_getElem? e) _ p i j ((isWrongL_none ks xs 0).mp h2 a.toNat k e)) u
/-! papers are alike to themselves -/
theorem sh_pap : ∀ (P : Pap), Sh 3 P.d
  | .catch_ q => sh_catch q
  | .over m => (sh_tuple (n := 0) fun d h => by
    rcases List.mem_cons.mp h with rfl | h
    · exact sh_str canLay_over
    · obtain rfl := List.mem_singleton.mp h
      exact sh_int).mono (by decide)
  | .pair t p i j => (sh_tuple (n := 2) fun d h => by
    rcases List.mem_cons.mp h with rfl | h
    · exact (sh_str canLay_pair).mono (by decide)
    rcases List.mem_cons.mp h with rfl | h
    · have hp : ∀ d ∈ p.map PyData.int, Sh 0 d := fun d h => by
        obtain ⟨_, _, rfl⟩ := List.mem_map.mp h
        exact sh_int
      cases t
      · exact (sh_list (n := 0) hp).mono (by decide)
      · exact (sh_tuple (n := 0) hp).mono (by decide)
    rcases List.mem_cons.mp h with rfl | h
    · exact sh_int.mono (by decide)
    · obtain rfl := List.mem_singleton.mp h
      exact sh_int.mono (by decide)).mono (by decide)
def cPapers (n : Nat) : Ct := fun ds k => ∃ (u : Cu) (p : List Nat), ds = [u.d, .tuple (natD p)] ∧ u.Ok ∧ u.deep ≤ n ∧ p.length + u.deep ≤ 100 ∧ k.rl ((papsOf u p).map Pap.d)
theorem papers_v {n : Nat} {u : Cu} {p : List Nat} (h : u.Ok) (hd : u.deep ≤ n) (hp : p.length + u.deep ≤ 100) : cPapers n [u.d, .tuple (natD p)] (kl ((papsOf u p).map Pap.d)) := ⟨u, p, rfl, h, hd, hp, rfl⟩
/-! all papers but the catch -/
def against (u : Cu) : List Pap := (List.range u.claims.length).map (fun k : Nat => Pap.over (k : Int)) ++ papsOf u []
theorem against_few {u : Cu} (h : u.Ok) : (against u).length ≤ 13836 := by
  have := paps_few h []
  have := h.few
  unfold against
  rw [List.length_append, List.length_map, List.length_range]
  omega
def shownD (u : Cu) (xs : List Rat) : List D := (((against u).filter fun P => P.sh u xs).map Pap.d) ++ (if dealtB u xs (qsum xs) then [(Pap.catch_ (qsum xs)).d] else [])
theorem neq_head {a b : Str} {r q : List D} (h : PyData.eqv (.str a) (.str b) = false) : PyData.eqv (.tuple (.str a :: r)) (.tuple (.str b :: q)) = false := by
  show (PyData.eqv (.str a) (.str b) && PyData.eqvAll r q) = false
  rw [h, Bool.false_and]
theorem against_neq {u : Cu} {P : Pap} (h : P ∈ against u) (q : Rat) : PyData.eqv P.d (Pap.catch_ q).d = false := by
  unfold against at h
  rcases List.mem_append.mp h with h | h
  · obtain ⟨k, _, rfl⟩ := List.mem_map.mp h
    exact neq_head (by decide +kernel)
  · obtain ⟨p, i, j, rfl⟩ := paps_pair u [] P h
    exact neq_head (by decide +kernel)
theorem shownD_ok {u : Cu} {xs : List Rat} {r : D} (hu : u.Ok) (hl : xs.length = u.claims.length) (h : isFound u xs r) : (PyData.eqv (.list (shownD u xs)) (.list []) || ((shownD u xs).any (fun z => PyData.eqv z (Pap.catch_ (qsum xs)).d) && decide ((1 : Int) < ((shownD u xs).length : Int)))) = false ∧ ((shownD u xs).any fun z => PyData.eqv z r) = true := by
  have ne : ∀ (d : D) (ds : List D), PyData.eqv (.list (d :: ds)) (.list []) = false := fun d ds => rfl
  have rr : PyData.eqv r r = true := SeqAt.eqv_refl _ (sh_found h).1
  have any_of : ∀ (ds : List D), r ∈ ds → (ds.any fun z => PyData.eqv z r) = true := fun ds hm => List.any_eq_true.mpr ⟨r, hm, rr⟩
  rcases found_cases hu hl h with ⟨hD, rfl⟩ | ⟨hD, hc⟩
  · have hw := (wrong_none hu.ok hD.1).mpr hD.2
    have hs := within_sum hD.1
    have e1 : ((against u).filter fun P => P.sh u xs) = [] := by
      rw [List.filter_eq_nil_iff]
      intro P hP
      unfold against at hP
      rcases List.mem_append.mp hP with hP | hP
      · obtain ⟨k, hk, rfl⟩ := List.mem_map.mp hP
        have hk := List.mem_range.mp hk
        show ¬ (decide _ && beyQ (gD xs (k : Int).toNat) (iD u.claims (k : Int).toNat)) = true
        rw [Int.toNat_natCast, beyQ_no.mpr (hD.1.2 k _ _ (at_gD (by omega)) (iD_at hk)), Bool.and_false]
        exact Bool.false_ne_true
      · obtain ⟨p, i, j, rfl⟩ := paps_pair u [] P hP
        show ¬ pairSh u xs p i j = true
        rw [none_shown u xs p i j hw]
        exact Bool.false_ne_true
    have e2 : dealtB u xs (qsum xs) = true := decide_eq_true ⟨hs.1, hs.2, hD.2.symm⟩
    have e : shownD u xs = [(Pap.catch_ (qsum xs)).d] := by
      unfold shownD
      rw [e1, e2]
      rfl
    rw [e]
    refine ⟨?_, any_of _ List.mem_cons_self⟩
    rw [ne]
    simp
  · have e2 : dealtB u xs (qsum xs) = false := by
      refine decide_eq_false fun z => hD ?_
      exact due_of hu z.1 z.2.1 z.2.2.symm
    have e : shownD u xs = ((against u).filter fun P => P.sh u xs).map Pap.d := by
      unfold shownD
      rw [e2]
      exact List.append_nil _
    have hm : r ∈ shownD u xs := by
      rw [e]
      rcases hc with ⟨m, hm, rfl⟩ | ⟨_, p, i, j, hw, rfl⟩
      · obtain ⟨⟨x, c, hx, hc, hb⟩, _⟩ := hm
        have hml := getElem?_lt hc
        refine List.mem_map.mpr ⟨.over (m : Int), List.mem_filter.mpr ⟨List.mem_append_left _ (List.mem_map.mpr ⟨m, List.mem_range.mpr hml, rfl⟩), ?_⟩, rfl⟩
        show (decide _ && beyQ (gD xs (m : Int).toNat) (iD u.claims (m : Int).toNat)) = true
        rw [Int.toNat_natCast, gD_at hx]
        have : iD u.claims m = c := by
          have := iD_at hml
          rw [hc] at this
          exact (Option.some.inj this).symm
        rw [this, hb, decide_eq_true ⟨by omega, by omega⟩]
        rfl
      · refine List.mem_map.mpr ⟨.pair true (intP p) (i : Int) (j : Int), List.mem_filter.mpr ⟨List.mem_append_right _ (wrong_mem u xs [] p i j hw), wrong_shown u xs p i j hw⟩, ?_⟩
        show PyData.tuple [.str "pair", .tuple ((intP p).map PyData.int), _, _] = _
        rw [natD_intP]
    have hne : ((shownD u xs).any fun z => PyData.eqv z (Pap.catch_ (qsum xs)).d) = false := by
      rw [Bool.eq_false_iff]
      intro z
      obtain ⟨y, hy, hz⟩ := List.any_eq_true.mp z
      rw [e] at hy
      obtain ⟨P, hP, rfl⟩ := List.mem_map.mp hy
      rw [against_neq (List.mem_filter.mp hP).1] at hz
      cases hz
    refine ⟨?_, any_of _ hm⟩
    rw [hne, Bool.false_and, Bool.or_false]
    cases e3 : shownD u xs with
    | nil => rw [e3] at hm; cases hm
    | cons d ds => exact ne d ds
theorem shownD_sh (u : Cu) (xs : List Rat) : ∀ d ∈ shownD u xs, Sh 3 d := fun d h => by
  unfold shownD at h
  rcases List.mem_append.mp h with h | h
  · obtain ⟨P, _, rfl⟩ := List.mem_map.mp h
    exact sh_pap P
  · split at h
    · obtain rfl := List.mem_singleton.mp h
      exact sh_pap _
    · cases h
/-! there is always a paper to tell -/
theorem least_nat {P : Nat → Prop} : ∀ n, P n → ∃ m, P m ∧ ∀ k, k < m → ¬ P k := fun n => by
  induction n using Nat.strongRecOn with
  | _ n ih =>
    intro h
    by_cases c : ∃ k, k < n ∧ P k
    · obtain ⟨k, hk, hp⟩ := c
      exact ih k hk hp
    · exact ⟨n, h, fun k hk hp => c ⟨k, hk, hp⟩⟩
theorem isFirst_ex (W : Nat → Nat → Bool) (n : Nat) : ∃ o, isFirst W n o := by
  by_cases c : ∃ i, ∃ j, i < j ∧ j < n ∧ W i j = true
  · obtain ⟨i, hi⟩ := c
    obtain ⟨i, ⟨j, hj⟩, hi⟩ := least_nat (P := fun i => ∃ j, i < j ∧ j < n ∧ W i j = true) i hi
    obtain ⟨j, ⟨h1, h2, h3⟩, hj⟩ := least_nat (P := fun j => i < j ∧ j < n ∧ W i j = true) j hj
    refine ⟨some (i, j), h1, h2, h3, fun a b h4 h5 h6 => ?_⟩
    rcases h6 with h6 | ⟨rfl, h6⟩
    · exact Bool.eq_false_iff.mpr fun z => hi a h6 ⟨b, h4, h5, z⟩
    · exact Bool.eq_false_iff.mpr fun z => hj b h6 ⟨h4, h5, z⟩
  · exact ⟨none, fun i j h1 h2 => Bool.eq_false_iff.mpr fun z => c ⟨i, j, h1, h2, z⟩⟩
theorem wrongL_ex : ∀ (ks : List Cu) (xs : List Rat) (m : Nat), (∀ k ∈ ks, ∀ xs, ∃ o, isWrong k xs o) → ∃ o, isWrongL ks xs m o
  | [], _, _, _ => ⟨none, rfl⟩
  | k :: r, xs, m, h => by
    obtain ⟨o, ho⟩ := h k List.mem_cons_self (xs.take k.claims.length)
    cases o with
    | some w => exact ⟨some (m :: w.1, w.2.1, w.2.2), .inl ⟨w.1, w.2.1, w.2.2, ho, rfl⟩⟩
    | none =>
      obtain ⟨o, h2⟩ := wrongL_ex r (xs.drop k.claims.length) (m + 1) fun k hk => h k (List.mem_cons_of_mem _ hk)
      exact ⟨o, .inr ⟨ho, h2⟩⟩
theorem wrong_ex : ∀ (u : Cu) (xs : List Rat), ∃ o, isWrong u xs o := fun u => Cu.ind (P := fun u => ∀ xs, ∃ o, isWrong u xs o) (fun _ _ => ⟨none, rfl⟩) (fun y ws ks ih xs => by
    obtain ⟨o, ho⟩ := isFirst_ex (wrongW y ws ks (sumsF ks xs)) ks.length
    cases o with
    | some ij => exact ⟨some ([], ij.1, ij.2), .inl ⟨ij.1, ij.2, ho, rfl⟩⟩
    | none =>
      obtain ⟨o, h2⟩ := wrongL_ex ks xs 0 ih
      exact ⟨o, .inr ⟨ho, h2⟩⟩) u
theorem found_ex {u : Cu} {xs : List Rat} (hl : xs.length = u.claims.length) : ∃ r, isFound u xs r := by
  by_cases c : ∃ (i : Nat) (x : Rat) (c : Int), xs[i]? = some x ∧ u.claims[i]? = some c ∧ beyQ x c = true
  · obtain ⟨i, hi⟩ := c
    obtain ⟨m, hm, hlt⟩ := least_nat (P := fun i => ∃ (x : Rat) (c : Int), xs[i]? = some x ∧ u.claims[i]? = some c ∧ beyQ x c = true) i hi
    exact ⟨_, .over m ⟨hm, fun i x c h h1 h2 => Bool.eq_false_iff.mpr fun z => hlt i h ⟨x, c, h1, h2, z⟩⟩⟩
  · have h : isOver u.claims xs none := fun i x c' h1 h2 => Bool.eq_false_iff.mpr fun z => c ⟨i, x, c', h1, h2, z⟩
    obtain ⟨o, ho⟩ := wrong_ex u xs
    cases o with
    | none => exact ⟨_, .catch_ h ho⟩
    | some w => exact ⟨_, .pair w.1 w.2.1 w.2.2 h ho⟩
end Pu

set_option maxRecDepth 100000
set_option maxHeartbeats 1000000
namespace Pu
open PySem PySem.Spec PyProof.Rows L2
/-! ### a right pair, way by way -/
def atLv (a b c d w v : Rat) : Bool :=
  if a < c then (decide (b = a * v / w) || (decide (b = d) && decide (b < a * v / w)))
  else if b < d then !decide (b * w / v < c) else true
theorem lvl_lt {w c l : Rat} (h : w * l < c) : lvl w c l = w * l := by
  unfold lvl
  rw [if_pos h]
theorem lvl_ge {w c l : Rat} (h : c ≤ w * l) : lvl w c l = c := by
  unfold lvl
  rw [if_neg (by grind)]
theorem div_lvl {w v a l : Rat} (hw : 0 < w) (h : a = w * l) : a * v / w = v * l := by
  subst h
  have hw' : w ≠ 0 := by grind
  rw [Rat.div_def, show w * l * v * w⁻¹ = v * l * (w * w⁻¹) by grind, Rat.mul_inv_cancel w hw', Rat.mul_one]
theorem lvl_div {w a : Rat} (hw : 0 < w) : w * (a / w) = a := by
  have hw' : w ≠ 0 := by grind
  rw [Rat.div_def, show w * (a * w⁻¹) = a * (w * w⁻¹) by grind, Rat.mul_inv_cancel w hw', Rat.mul_one]
theorem div_nnQ {a w : Rat} (hw : 0 < w) (ha : 0 ≤ a) : 0 ≤ a / w := by
  rw [Rat.div_def]
  exact Rat.mul_nonneg ha (Rat.le_of_lt (Rat.inv_pos.mpr hw))
theorem even2_iff {a b c d w v : Rat} (hw : 0 < w) (hv : 0 < v) (a0 : 0 ≤ a) (a1 : a ≤ c) (b0 : 0 ≤ b) (b1 : b ≤ d) : evenD [w, v] [c, d] (a + b) = [a, b] ↔ atLv a b c d w v = true := by
  have hW : WOk [w, v] [c, d] := ⟨rfl, fun x hx => by
    rcases List.mem_cons.mp hx with rfl | hx
    · exact hw
    · obtain rfl := List.mem_singleton.mp hx
      exact hv, fun x hx => by
    rcases List.mem_cons.mp hx with rfl | hx
    · grind
    · obtain rfl := List.mem_singleton.mp hx
      grind⟩
  have back : ∀ l, 0 ≤ l → lvl w c l = a → lvl v d l = b → evenD [w, v] [c, d] (a + b) = [a, b] := fun l l0 e1 e2 => by
    have e := evenD_of hW l0 (List.cons_ne_nil _ _)
    rw [lvls_two, e1, e2, qsum_two] at e
    exact e
  unfold atLv
  constructor
  · intro h
    obtain ⟨l, l0, e, _⟩ := evenD_level (q := a + b) hW (by grind) (by rw [qsum_two]; grind) (List.cons_ne_nil _ _)
    rw [h, lvls_two] at e
    have e1 : a = lvl w c l := (List.cons.inj e).1
    have e2 : b = lvl v d l := (List.cons.inj (List.cons.inj e).2).1
    by_cases ha : a < c
    · rw [if_pos ha]
      have hlt : w * l < c := by
        by_cases z : w * l < c
        · exact z
        · rw [lvl_ge (by grind)] at e1
          grind
      rw [lvl_lt hlt] at e1
      rw [div_lvl hw e1, Bool.or_eq_true, Bool.and_eq_true, decide_eq_true_eq, decide_eq_true_eq, decide_eq_true_eq]
      by_cases z : v * l < d
      · rw [lvl_lt z] at e2
        exact .inl e2
      · rw [lvl_ge (by grind)] at e2
        by_cases y : d = v * l
        · exact .inl (by rw [e2]; exact y)
        · exact .inr ⟨e2, by grind⟩
    · rw [if_neg ha]
      by_cases hb : b < d
      · rw [if_pos hb]
        have hlt : v * l < d := by
          by_cases z : v * l < d
          · exact z
          · rw [lvl_ge (by grind)] at e2
            grind
        rw [lvl_lt hlt] at e2
        rw [div_lvl hv e2]
        by_cases z : w * l < c
        · rw [lvl_lt z] at e1
          grind
        · rw [decide_eq_false z]
          rfl
      · rw [if_neg hb]
  · intro h
    by_cases ha : a < c
    · rw [if_pos ha] at h
      have hl := lvl_div (a := a) hw
      have l0 := div_nnQ hw a0
      generalize a / w = l at hl l0
      rw [div_lvl hw hl.symm, Bool.or_eq_true, Bool.and_eq_true, decide_eq_true_eq, decide_eq_true_eq, decide_eq_true_eq] at h
      refine back l l0 (by rw [lvl_lt (by grind)]; exact hl) ?_
      rcases h with h | ⟨h, h'⟩
      · by_cases z : v * l < d
        · rw [lvl_lt z]
          exact h.symm
        · rw [lvl_ge (by grind)]
          grind
      · rw [lvl_ge (by grind)]
        exact h.symm
    · rw [if_neg ha] at h
      by_cases hb : b < d
      · rw [if_pos hb] at h
        have hl := lvl_div (a := b) hv
        have l0 := div_nnQ hv b0
        generalize b / v = l at hl l0
        rw [div_lvl hv hl.symm] at h
        have h' : ¬ w * l < c := by simpa using h
        exact back l l0 (by rw [lvl_ge (by grind)]; grind) (by rw [lvl_lt (by grind)]; exact hl)
      · have c0 : 0 ≤ c := by grind
        have d0 : 0 ≤ d := by grind
        have h1 := lvl_div (a := c) hw
        have h2 := lvl_div (a := d) hv
        have p1 := div_nnQ hw c0
        have p2 := div_nnQ hv d0
        generalize c / w = l at h1 p1
        generalize d / v = m at h2 p2
        have q1 := Rat.mul_nonneg (Rat.le_of_lt hw) p2
        have q2 := Rat.mul_nonneg (Rat.le_of_lt hv) p1
        exact back (l + m) (by grind) (by rw [lvl_ge (by grind)]; grind) (by rw [lvl_ge (by grind)]; grind)
def byH (a b c d : Rat) : Bool := if c < 2 * a then false else if d < 2 * b then false else atLv (2 * a) (2 * b) c d 1 1
def pairW (y : Wy) (w v c d a b : Rat) : Bool := match y with
  | .row => decide (c - a = 0) || decide (b = 0)
  | .back => decide (d - b = 0) || decide (a = 0)
  | .part => decide (a * d = b * c)
  | .even => atLv a b c d w v
  | .lack => atLv (c - a) (d - b) c d w v
  | .half => if 2 * (a + b) ≤ c + d then byH a b c d else byH (c - a) (d - b) c d
def inB (a b c d : Rat) : Bool := !(decide (a < 0) || (decide (b < 0) || (decide (c - a < 0) || decide (d - b < 0))))
theorem inB_iff {a b c d : Rat} : inB a b c d = true ↔ (0 ≤ a ∧ a ≤ c) ∧ 0 ≤ b ∧ b ≤ d := by
  unfold inB
  rw [Bool.not_eq_true', Bool.or_eq_false_iff, Bool.or_eq_false_iff, Bool.or_eq_false_iff, decide_eq_false_iff_not, decide_eq_false_iff_not, decide_eq_false_iff_not, decide_eq_false_iff_not]
  constructor
  · rintro ⟨h1, h2, h3, h4⟩
    exact ⟨⟨by grind, by grind⟩, by grind, by grind⟩
  · rintro ⟨⟨h1, h2⟩, h3, h4⟩
    exact ⟨by grind, by grind, by grind, by grind⟩
def pairR (y : Wy) (w v c d a b : Rat) : Bool := inB a b c d && pairW y w v c d a b
theorem hv2_iff {x y a b : Rat} {l : List Rat} (h : l = [x, y]) : hv l = [a, b] ↔ l = [2 * a, 2 * b] := by
  subst h
  rw [hv_two]
  constructor
  · intro h
    have e1 := (List.cons.inj h).1
    have e2 := (List.cons.inj (List.cons.inj h).2).1
    rw [show 2 * a = x by grind, show 2 * b = y by grind]
  · intro h
    have e1 := (List.cons.inj h).1
    have e2 := (List.cons.inj (List.cons.inj h).2).1
    rw [show 1 / 2 * x = a by grind, show 1 / 2 * y = b by grind]
theorem len_two {l : List Rat} (h : l.length = 2) : ∃ x y, l = [x, y] := by
  match l, h with
  | [x, y], _ => exact ⟨x, y, rfl⟩
theorem lack2_iff {c d x y a b : Rat} {l : List Rat} (h : l = [x, y]) : lackD [c, d] l = [a, b] ↔ l = [c - a, d - b] := by
  subst h
  rw [lackD_two]
  constructor
  · intro h
    have e1 := (List.cons.inj h).1
    have e2 := (List.cons.inj (List.cons.inj h).2).1
    rw [show c - a = x by grind, show d - b = y by grind]
  · intro h
    have e1 := (List.cons.inj h).1
    have e2 := (List.cons.inj (List.cons.inj h).2).1
    rw [show c - x = a by grind, show d - y = b by grind]
theorem byH_iff {a b c d : Rat} (hc : 0 ≤ c) (hd : 0 ≤ d) (a0 : 0 ≤ a) (b0 : 0 ≤ b) (hs : 2 * (a + b) ≤ c + d) : hv (evenD [1, 1] [c, d] (2 * (a + b))) = [a, b] ↔ byH a b c d = true := by
  have hW : WOk [1, 1] [c, d] := ⟨rfl, fun x hx => by
    rcases List.mem_cons.mp hx with rfl | hx
    · decide
    · obtain rfl := List.mem_singleton.mp hx
      decide, fun x hx => by
    rcases List.mem_cons.mp hx with rfl | hx
    · exact hc
    · obtain rfl := List.mem_singleton.mp hx
      exact hd⟩
  have hD := evenD_ok (q := 2 * (a + b)) hW (by grind) (by rw [qsum_two]; exact hs) (List.cons_ne_nil _ _)
  obtain ⟨x, y, hxy⟩ := len_two (l := evenD [1, 1] [c, d] (2 * (a + b))) (by rw [hD.len]; rfl)
  rw [hv2_iff hxy]
  unfold byH
  constructor
  · intro h
    have b1 := hD.get (i := 0) (x := 2 * a) (c := c) (by rw [h]; rfl) rfl
    have b2 := hD.get (i := 1) (x := 2 * b) (c := d) (by rw [h]; rfl) rfl
    rw [if_neg (by grind), if_neg (by grind)]
    rw [show 2 * (a + b) = 2 * a + 2 * b by grind] at h
    exact (even2_iff (by decide) (by decide) b1.1 b1.2 b2.1 b2.2).mp h
  · intro h
    by_cases h1 : c < 2 * a
    · rw [if_pos h1] at h
      cases h
    · by_cases h2 : d < 2 * b
      · rw [if_neg h1, if_pos h2] at h
        cases h
      · rw [if_neg h1, if_neg h2] at h
        have := (even2_iff (by decide) (by decide) (by grind) (by grind) (by grind) (by grind)).mpr h
        rw [show 2 * (a + b) = 2 * a + 2 * b by grind]
        exact this
theorem pairR_iff {y : Wy} {w v c d a b : Rat} (h : Fit y [w, v] [c, d]) : pairR y w v c d a b = true ↔ (0 ≤ a + b ∧ a + b ≤ c + d ∧ dealOf y [w, v] [c, d] (a + b) = [a, b]) := by
  have hc := h.nn c List.mem_cons_self
  have hd := h.nn d (List.mem_cons_of_mem _ List.mem_cons_self)
  by_cases hin : inB a b c d = true
  · obtain ⟨⟨a0, a1⟩, b0, b1⟩ := inB_iff.mp hin
    unfold pairR
    rw [hin, Bool.true_and]
    have hs : 0 ≤ a + b ∧ a + b ≤ c + d := ⟨by grind, by grind⟩
    have key : pairW y w v c d a b = true ↔ dealOf y [w, v] [c, d] (a + b) = [a, b] := by
      cases y with
      | row =>
        show (decide (c - a = 0) || decide (b = 0)) = true ↔ rowD [c, d] (a + b) = [a, b]
        rw [rowD_two, Bool.or_eq_true, decide_eq_true_eq, decide_eq_true_eq]
        constructor
        · rintro (z | z)
          · have e1 : (if a + b < c then a + b else c) = a := by split <;> grind
            rw [e1, show a + b - a = b by grind, show (if b < d then b else d) = b by split <;> grind]
          · have e1 : (if a + b < c then a + b else c) = a := by split <;> grind
            rw [e1, show a + b - a = b by grind, show (if b < d then b else d) = b by split <;> grind]
        · intro z
          have e1 := (List.cons.inj z).1
          split at e1
          · exact .inr (by grind)
          · exact .inl (by grind)
      | back =>
        show (decide (d - b = 0) || decide (a = 0)) = true ↔ (rowD [d, c] (a + b)).reverse = [a, b]
        rw [rowD_two, Bool.or_eq_true, decide_eq_true_eq, decide_eq_true_eq]
        show _ ↔ [_, _] = [a, b]
        constructor
        · rintro (z | z)
          · have e1 : (if a + b < d then a + b else d) = b := by split <;> grind
            rw [e1, show a + b - b = a by grind, show (if a < c then a else c) = a by split <;> grind]
          · have e1 : (if a + b < d then a + b else d) = b := by split <;> grind
            rw [e1, show a + b - b = a by grind, show (if a < c then a else c) = a by split <;> grind]
        · intro z
          have e1 := (List.cons.inj (List.cons.inj z).2).1
          split at e1
          · exact .inr (by grind)
          · exact .inl (by grind)
      | part =>
        show decide (a * d = b * c) = true ↔ partD [c, d] (a + b) = [a, b]
        unfold partD
        rw [qsum_two, decide_eq_true_eq]
        by_cases z : c + d = 0
        · rw [if_pos z]
          have ea : a = 0 := by grind
          have eb : b = 0 := by grind
          rw [ea, eb]
          exact ⟨fun _ => rfl, fun _ => by rw [Rat.zero_mul, Rat.zero_mul]⟩
        · rw [if_neg z]
          have hS := Rat.mul_inv_cancel (c + d) z
          show _ ↔ [c / (c + d) * (a + b), d / (c + d) * (a + b)] = [a, b]
          rw [Rat.div_def, Rat.div_def]
          generalize (c + d)⁻¹ = m at hS
          constructor
          · intro e
            have e1 : c * m * (a + b) = a := by
              have : c * m * (a + b) = m * (c * a + b * c) := by grind
              rw [this, ← e, show m * (c * a + a * d) = a * ((c + d) * m) by grind, hS, Rat.mul_one]
            have e2 : d * m * (a + b) = b := by
              have : d * m * (a + b) = m * (a * d + b * d) := by grind
              rw [this, e, show m * (b * c + b * d) = b * ((c + d) * m) by grind, hS, Rat.mul_one]
            rw [e1, e2]
          · intro e
            have e1 := (List.cons.inj e).1
            have e2 := (List.cons.inj (List.cons.inj e).2).1
            calc a * d = (c * m * (a + b)) * d := by rw [e1]
              _ = (d * m * (a + b)) * c := by grind
              _ = b * c := by rw [e2]
      | even =>
        have hw := (h.wt rfl).2 w List.mem_cons_self
        have hv := (h.wt rfl).2 v (List.mem_cons_of_mem _ List.mem_cons_self)
        exact (even2_iff hw hv a0 a1 b0 b1).symm
      | lack =>
        have hw := (h.wt rfl).2 w List.mem_cons_self
        have hv := (h.wt rfl).2 v (List.mem_cons_of_mem _ List.mem_cons_self)
        have hD := evenD_ok (q := qsum [c, d] - (a + b)) (h.ok rfl) (by rw [qsum_two]; grind) (by grind) (List.cons_ne_nil _ _)
        obtain ⟨x, y, hxy⟩ := len_two (l := evenD [w, v] [c, d] (qsum [c, d] - (a + b))) (by rw [hD.len]; rfl)
        show atLv (c - a) (d - b) c d w v = true ↔ lackD [c, d] (evenD [w, v] [c, d] (qsum [c, d] - (a + b))) = [a, b]
        rw [lack2_iff hxy, qsum_two, show c + d - (a + b) = (c - a) + (d - b) by grind]
        exact (even2_iff hw hv (by grind) (by grind) (by grind) (by grind)).symm
      | half =>
        show (if 2 * (a + b) ≤ c + d then byH a b c d else byH (c - a) (d - b) c d) = true ↔ halfD [c, d] (a + b) = [a, b]
        unfold halfD
        rw [ones_two, qsum_two]
        by_cases z : 2 * (a + b) ≤ c + d
        · rw [if_pos z, if_neg (by grind), show a + b + (a + b) = 2 * (a + b) by grind]
          exact (byH_iff hc hd a0 b0 z).symm
        · rw [if_neg z, if_pos (by grind)]
          have z' : 2 * ((c - a) + (d - b)) ≤ c + d := by grind
          have hb := byH_iff hc hd (a := c - a) (b := d - b) (by grind) (by grind) z'
          rw [show c + d + (c + d) - (a + b + (a + b)) = 2 * ((c - a) + (d - b)) by grind, ← hb]
          have hW : WOk [1, 1] [c, d] := ⟨rfl, fun x hx => by
            rcases List.mem_cons.mp hx with rfl | hx
            · decide
            · obtain rfl := List.mem_singleton.mp hx
              decide, h.nn⟩
          have hD := evenD_ok (q := 2 * ((c - a) + (d - b))) hW (by grind) (by rw [qsum_two]; exact z') (List.cons_ne_nil _ _)
          obtain ⟨x, y, hxy⟩ := len_two (l := evenD [1, 1] [c, d] (2 * ((c - a) + (d - b)))) (by rw [hD.len]; rfl)
          rw [hxy]
          exact (lack2_iff (hv_two x y)).symm
    rw [key]
    exact ⟨fun z => ⟨hs.1, hs.2, z⟩, fun z => z.2.2⟩
  · unfold pairR
    rw [Bool.eq_false_iff.mpr hin, Bool.false_and]
    constructor
    · intro z
      cases z
    · rintro ⟨h0, h1, h2⟩
      have hD := dealOf_ok h (q := a + b) h0 (by rw [qsum_two]; exact h1)
      rw [h2] at hD
      have p1 := hD.get (i := 0) (x := a) (c := c) rfl rfl
      have p2 := hD.get (i := 1) (x := b) (c := d) rfl rfl
      exact absurd (inB_iff.mpr ⟨p1, p2⟩) hin
end Pu

set_option maxRecDepth 100000
set_option maxHeartbeats 1000000
namespace Pu
open PySem PySem.Spec PyProof.Rows L2
/-! ### contracts: pairs way by way -/
theorem frac_lvl {a : Rat} {v w : Int} (hw : 0 < w) : Rat.divInt (a.num * v) ((a.den : Int) * w) = a * (v : Rat) / (w : Rat) := by
  rw [← Rat.divInt_mul_divInt, q_mk, mul_pos_div hw, Rat.div_def, Rat.div_def, Rat.mul_assoc]
def cAtLv : Ct := fun ds k => ∃ (a b : Rat) (c d w v : Int) (N : Nat), ds = [fr a, fr b, .list ([c, d].map PyData.int), .list ([w, v].map PyData.int)] ∧ bt a N ∧ bt b N ∧ N ≤ 1000000 ∧ c.natAbs < 2 ^ 60 ∧ d.natAbs < 2 ^ 60 ∧ 0 < w ∧ 0 < v ∧ w.natAbs < 2 ^ 60 ∧ v.natAbs < 2 ^ 60 ∧ k.rt (.bool (atLv a b c d w v))
theorem atLv_v {a b : Rat} {c d w v : Int} {N : Nat} (ha : bt a N) (hb : bt b N) (hN : N ≤ 1000000) (hc : c.natAbs < 2 ^ 60) (hd : d.natAbs < 2 ^ 60) (hw0 : 0 < w) (hv0 : 0 < v) (hw : w.natAbs < 2 ^ 60) (hv : v.natAbs < 2 ^ 60) : cAtLv [fr a, fr b, .list ([c, d].map PyData.int), .list ([w, v].map PyData.int)] (kv (.bool (atLv a b c d w v))) := ⟨a, b, c, d, w, v, N, rfl, ha, hb, hN, hc, hd, hw0, hv0, hw, hv, rfl⟩
def cByH : Ct := fun ds k => ∃ (a b : Rat) (c d : Int) (N : Nat) (_ _ : Unit), ds = [fr a, fr b, .list ([c, d].map PyData.int)] ∧ bt a N ∧ bt b N ∧ N ≤ 900000 ∧ c.natAbs < 2 ^ 60 ∧ d.natAbs < 2 ^ 60 ∧ k.rt (.bool (byH a b c d))
theorem byH_v {a b : Rat} {c d : Int} {N : Nat} (ha : bt a N) (hb : bt b N) (hN : N ≤ 900000) (hc : c.natAbs < 2 ^ 60) (hd : d.natAbs < 2 ^ 60) : cByH [fr a, fr b, .list ([c, d].map PyData.int)] (kv (.bool (byH a b c d))) := ⟨a, b, c, d, N, (), (), rfl, ha, hb, hN, hc, hd, rfl⟩
def cPairR : Ct := fun ds k => ∃ (y : Wy) (w v c d : Int) (a b : Rat) (N : Nat), ds = [.str y.s, .list ([w, v].map PyData.int), .list ([c, d].map PyData.int), fr a, fr b] ∧ bt a N ∧ bt b N ∧ N ≤ 400000 ∧ c.natAbs < 2 ^ 59 ∧ d.natAbs < 2 ^ 59 ∧ 0 < w ∧ 0 < v ∧ w.natAbs < 2 ^ 60 ∧ v.natAbs < 2 ^ 60 ∧ k.rt (.bool (pairR y w v c d a b))
theorem pairR_v {y : Wy} {w v c d : Int} {a b : Rat} {N : Nat} (ha : bt a N) (hb : bt b N) (hN : N ≤ 400000) (hc : c.natAbs < 2 ^ 59) (hd : d.natAbs < 2 ^ 59) (hw0 : 0 < w) (hv0 : 0 < v) (hw : w.natAbs < 2 ^ 60) (hv : v.natAbs < 2 ^ 60) : cPairR [.str y.s, .list ([w, v].map PyData.int), .list ([c, d].map PyData.int), fr a, fr b] (kv (.bool (pairR y w v c d a b))) := ⟨y, w, v, c, d, a, b, N, rfl, ha, hb, hN, hc, hd, hw0, hv0, hw, hv, rfl⟩
theorem wrongW_pair {y : Wy} {ws : List Int} {ks : List Cu} {ss : List Rat} {i j : Nat} {w v : Int} {a b : Cu} (hok : (Cu.knot y ws ks).ok) (ha : ks[i]? = some a) (hb : ks[j]? = some b) (hw : y.wd = true → iD ws i = w ∧ iD ws j = v) : wrongW y ws ks ss i j = !pairR y w v a.sum b.sum (gD ss i) (gD ss j) := by
  have hf := fit_knot hok
  have hl : (qlist (ks.map Cu.sum)).length = ks.length := by rw [qlist_len, List.length_map]
  have f2 := fit_two hf (i := i) (j := j) (by rw [hl]; exact getElem?_lt ha) (by rw [hl]; exact getElem?_lt hb)
  have hsa : gD (qlist (ks.map Cu.sum)) i = (a.sum : Rat) := gD_at (qlist_at (by rw [List.getElem?_map, ha]; rfl))
  have hsb : gD (qlist (ks.map Cu.sum)) j = (b.sum : Rat) := gD_at (qlist_at (by rw [List.getElem?_map, hb]; rfl))
  rw [hsa, hsb] at f2
  have f3 : Fit y [(w : Rat), (v : Rat)] [(a.sum : Rat), (b.sum : Rat)] := by
    cases e : y.wd with
    | false => exact ⟨f2.ne, f2.nn, fun z => by rw [e] at z; cases z⟩
    | true =>
      obtain ⟨h1, h2⟩ := hw e
      rw [← h1, ← h2]
      have g := f2
      rw [gD_qlist, gD_qlist] at g
      exact g
  have key := pairR_iff (a := gD ss i) (b := gD ss j) f3
  have ed : ∀ q, dealOf y [gD (qlist ws) i, gD (qlist ws) j] [(a.sum : Rat), (b.sum : Rat)] q = dealOf y [(w : Rat), (v : Rat)] [(a.sum : Rat), (b.sum : Rat)] q := fun q => by
    cases e : y.wd with
    | false => exact dealOf_any e _ _ _ _
    | true =>
      obtain ⟨h1, h2⟩ := hw e
      rw [gD_qlist, gD_qlist, h1, h2]
  unfold wrongW
  congr 1
  rw [Bool.eq_iff_iff, decide_eq_true_eq, key]
  unfold pairOk
  rw [hsa, hsb, ed]
def cPairSh : Ct := fun ds k => ∃ (y : Wy) (ws : List Int) (ks : List Cu) (ss : List Rat) (i j n : Nat), ds = [(Cu.knot y ws ks).d, .list (fls ss), .int (i : Int), .int (j : Int)] ∧ (Cu.knot y ws ks).Ok ∧ ss.length = ks.length ∧ i < ks.length ∧ j < ks.length ∧ (∀ s ∈ ss, bt s n) ∧ n ≤ 400000 ∧ k.rt (.bool (wrongW y ws ks ss i j))
theorem pairSh_v {y : Wy} {ws : List Int} {ks : List Cu} {ss : List Rat} {i j n : Nat} (h : (Cu.knot y ws ks).Ok) (hl : ss.length = ks.length) (hi : i < ks.length) (hj : j < ks.length) (hb : ∀ s ∈ ss, bt s n) (hn : n ≤ 400000) : cPairSh [(Cu.knot y ws ks).d, .list (fls ss), .int (i : Int), .int (j : Int)] (kv (.bool (wrongW y ws ks ss i j))) := ⟨y, ws, ks, ss, i, j, n, rfl, h, hl, hi, hj, hb, hn, rfl⟩
theorem num_mul (q : Rat) : q * ((q.den : Int) : Rat) = ((q.num : Int) : Rat) := by
  have h := q_mk q
  have hd : ((q.den : Int) : Rat) ≠ 0 := by
    have := q.den_pos
    intro z
    have : (q.den : Int) = 0 := by exact_mod_cast z
    omega
  rw [Rat.divInt_eq_div] at h
  rw [Rat.div_def] at h
  have e : q * ((q.den : Int) : Rat) = (q.num : Rat) * (((q.den : Int) : Rat)⁻¹ * ((q.den : Int) : Rat)) := by
    rw [← Rat.mul_assoc, h]
  rw [e, Rat.inv_mul_cancel _ hd, Rat.mul_one]
theorem den_pq (q : Rat) : (0 : Rat) < ((q.den : Int) : Rat) := by
  have := q.den_pos
  have h : (0 : Int) < (q.den : Int) := by omega
  exact Rat.intCast_pos.mpr h
theorem part_numR {a b : Rat} {c d : Int} : (a.num * (b.den : Int) * d = b.num * (a.den : Int) * c) ↔ a * (d : Rat) = b * (c : Rat) := by
  have h1 := num_mul a
  have h2 := num_mul b
  have p1 := den_pq a
  have p2 := den_pq b
  have e : (a.num * (b.den : Int) * d = b.num * (a.den : Int) * c) ↔ ((a.num : Int) : Rat) * ((b.den : Int) : Rat) * (d : Rat) = ((b.num : Int) : Rat) * ((a.den : Int) : Rat) * (c : Rat) := by
    rw [← Rat.intCast_mul, ← Rat.intCast_mul, ← Rat.intCast_mul, ← Rat.intCast_mul]
    exact Rat.intCast_inj.symm
  rw [e, ← h1, ← h2]
  generalize ((a.den : Int) : Rat) = p at *
  generalize ((b.den : Int) : Rat) = r at *
  have hpr : 0 < p * r := Rat.mul_pos p1 p2
  constructor
  · intro z
    have z' : p * r * (a * (d : Rat)) = p * r * (b * (c : Rat)) := by grind
    have hi := Rat.inv_mul_cancel (p * r) (by grind)
    calc a * (d : Rat) = (p * r)⁻¹ * (p * r) * (a * (d : Rat)) := by rw [hi, Rat.one_mul]
      _ = (p * r)⁻¹ * (p * r * (a * (d : Rat))) := by rw [Rat.mul_assoc]
      _ = (p * r)⁻¹ * (p * r * (b * (c : Rat))) := by rw [z']
      _ = (p * r)⁻¹ * (p * r) * (b * (c : Rat)) := (Rat.mul_assoc _ _ _).symm
      _ = b * (c : Rat) := by rw [hi, Rat.one_mul]
  · intro z
    have : a * p * r * (d : Rat) = p * r * (a * (d : Rat)) := by grind
    rw [this, z]
    grind
theorem half_num {s : Rat} {m : Int} : (2 * s.num ≤ m * (s.den : Int)) ↔ 2 * s ≤ (m : Rat) := by
  have h1 := num_mul s
  have p1 := den_pq s
  have e : (2 * s.num ≤ m * (s.den : Int)) ↔ (2 : Rat) * ((s.num : Int) : Rat) ≤ (m : Rat) * ((s.den : Int) : Rat) := by
    rw [show (2 : Rat) = ((2 : Int) : Rat) from rfl, ← Rat.intCast_mul, ← Rat.intCast_mul]
    exact Rat.intCast_le_intCast.symm
  rw [e, ← h1]
  generalize ((s.den : Int) : Rat) = p at *
  constructor
  · intro z
    by_cases c : 2 * s ≤ (m : Rat)
    · exact c
    · have : 0 < (2 * s - (m : Rat)) * p := Rat.mul_pos (by grind) p1
      grind
  · intro z
    have : 0 ≤ ((m : Rat) - 2 * s) * p := Rat.mul_nonneg (by grind) (by grind)
    grind
def cDue : Ct := fun ds k => ∃ (u : Cu) (xs : List Rat) (N : Nat), ds = [u.d, .list (fls xs)] ∧ u.Ok ∧ (∀ x ∈ xs, bt x N) ∧ N ≤ 30000 ∧ xs.length = u.claims.length ∧ ∀ r, isFound u xs r → k.rt r
theorem due_v {u : Cu} {xs : List Rat} {N : Nat} {r : D} (h : u.Ok) (hb : ∀ x ∈ xs, bt x N) (hN : N ≤ 30000) (hl : xs.length = u.claims.length) (hr : isFound u xs r) : cDue [u.d, .list (fls xs)] (kv r) := ⟨u, xs, N, rfl, h, hb, hN, hl, fun s hs => isFound_uniq hs hr⟩
theorem alP_up : ∀ (n : Nat) (d : D), alP n d → alP (n + 1) d
  | 0, _, h => h.elim
  | n + 1, .int _, _ => trivial
  | n + 1, .str _, h => h
  | n + 1, .tuple ds, h => ⟨h.1, fun d hd => alP_up n d (h.2 d hd)⟩
  | n + 1, .list _, h => h
  | n + 1, .none, h => h
  | n + 1, .bool _, h => h
theorem alP_mono {n : Nat} {d : D} (h : alP n d) : ∀ {m : Nat}, n ≤ m → alP m d := fun {m} hm => by
  induction hm with
  | refl => exact h
  | step _ ih => exact alP_up _ _ ih
end Pu

set_option maxRecDepth 100000
set_option maxHeartbeats 1000000
namespace Pu
open PySem PySem.Spec PyProof.Rows L2
/-! ### a < b < c < d -/
def tChain3 (r r' r'' : R2) (ta tb tc td : TE) : TE := fun σ H Q => ta σ H fun x H1 => tb σ H1 fun y H2 => r x y H2 fun z H3 => ∃ k, z = .bl k ∧
  (if k = true then tc σ H3 fun w' H4 => r' y w' H4 fun z' H5 => ∃ k', z' = .bl k' ∧ (if k' = true then td σ H5 fun u H6 => r'' w' u H6 Q else Q (.bl false) H5) else Q (.bl false) H3)
section
variable {X : Cx} {a b c d : Expr} {ta tb tc td : TE} {pos : Pos}
theorem pt_chain3 {op op' op'' : CmpOp} {r r' r'' : R2} (ho : OpR X (compareOp op) r) (ho' : OpR X (compareOp op') r') (ho'' : OpR X (compareOp op'') r'') (ha : PE X a ta) (hb : PE X b tb) (hc : PE X c tc) (hd : PE X d td)
    (hm : lastMarks [op, op', op''] [b, c, d] = false := by with_unfolding_all rfl) : PT X (.Compare a [op, op', op''] [b, c, d] pos) (tTest (tChain3 r r' r'' ta tb tc td)) := by
  refine ⟨fun pins s σ H Q I h => ?_⟩
  refine isTrue_chain (thn (ha.run pins s σ H _ I h) fun v s1 ⟨x, H1, I1, r1, q1⟩ => test_link (thn (hb.run pins s1 σ H1 _ I1 q1) fun u s2 ⟨y, H2, I2, r2, q2⟩ =>
    thn (ho pins s2 σ H2 x y v u _ I2 r1 r2 q2) fun d s3 ⟨z, H3, I3, r3, k, e, q3⟩ => ?_)) hm
  subst e
  cases r3
  refine wpAny_truthy_bool ?_
  cases k with
  | false =>
    obtain ⟨k', e', q'⟩ := q3
    cases e'
    exact ite_ff ⟨H3, I3, q'⟩
  | true =>
    refine ite_tt (test_link (thn (hc.run pins s3 σ H3 _ I3 q3) fun w' s4 ⟨z', H4, I4, r4, q4⟩ => thn (ho' pins s4 σ H4 y z' u w' _ I4 r2 r4 q4) fun d' s5 ⟨z2, H5, I5, r5, k2, e2, q5⟩ => ?_))
    subst e2
    cases r5
    refine wpAny_truthy_bool ?_
    cases k2 with
    | false =>
      obtain ⟨k', e', q'⟩ := q5
      cases e'
      exact ite_ff ⟨H5, I5, q'⟩
    | true =>
      refine ite_tt (test_last (thn (hd.run pins s5 σ H5 _ I5 q5) fun w3 s6 ⟨z3, H6, I6, r6, q6⟩ => thn (ho'' pins s6 σ H6 z' z3 w' w3 _ I6 r4 r6 q6) fun d3 s7 ⟨z4, H7, I7, r7, k3, e3, q7⟩ => ?_))
      subst e3
      cases r7
      exact wpAny_truthy_bool ⟨H7, I7, q7⟩
end
section
variable {K : Frag} {ρ : En} {ta tb tc td : TE}
theorem ev_chain3 {f g h : Int → Int → Bool} {i j k l : Int} (ha : Ev K ta ρ (.int i)) (hb : Ev K tb ρ (.int j)) (hc : Ev K tc ρ (.int k)) (hd : Ev K td ρ (.int l)) :
    Ev K (tChain3 (rI0 fun i j => .bl (f i j)) (rI0 fun i j => .bl (g i j)) (rI0 fun i j => .bl (h i j)) ta tb tc td) ρ (.bool (f i j && (g j k && h k l))) := fun R0 H0 R σ H a Q q => ha R0 H0 R σ H a _ fun x R1 H1 g1 dx => hb R0 H0 R1 σ H1 (a.grow g1) _ fun y R2 H2 g2 dy => by
  cases dx; cases dy
  refine ⟨i, j, rfl, rfl, f i j, rfl, ?_⟩
  have G2 := g1.trans g2
  have a2 := a.grow G2
  cases e : f i j with
  | false =>
    refine iteF (q _ R2 H2 G2 ?_)
    rw [e, Bool.false_and]
    exact .bl _
  | true =>
    refine iteT (hc R0 H0 R2 σ H2 a2 _ fun z R3 H3 g3 dz => ?_)
    cases dz
    refine ⟨j, k, rfl, rfl, g j k, rfl, ?_⟩
    have G3 := G2.trans g3
    cases e2 : g j k with
    | false =>
      refine iteF (q _ R3 H3 G3 ?_)
      rw [e, e2, Bool.true_and, Bool.false_and]
      exact .bl _
    | true =>
      refine iteT (hd R0 H0 R3 σ H3 (a.grow G3) _ fun z R4 H4 g4 dz => ?_)
      cases dz
      refine ⟨k, l, rfl, rfl, q _ R4 H4 (G3.trans g4) ?_⟩
      rw [e, e2, Bool.true_and, Bool.true_and]
      exact .bl _
end
/-! ### papers that a law draws, and what it leads to -/
theorem found_pap2 {u : Cu} {xs : List Rat} {r : D} (hu : u.Ok) (hl : xs.length = u.claims.length) (h : isFound u xs r) : ∃ P : Pap, r = P.d ∧ P.sh u xs = true ∧ ∀ q, P = .catch_ q → q = qsum xs := by
  rcases found_cases hu hl h with ⟨hD, rfl⟩ | ⟨hD, hc⟩
  · have hs := within_sum hD.1
    exact ⟨.catch_ (qsum xs), rfl, decide_eq_true ⟨hs.1, hs.2, hD.2.symm⟩, fun q e => by cases e; rfl⟩
  · rcases hc with ⟨m, hm, rfl⟩ | ⟨_, p, i, j, hw, rfl⟩
    · refine ⟨.over (m : Int), rfl, ?_, fun q e => nomatch e⟩
      obtain ⟨⟨x, c, hx, hc, hb⟩, _⟩ := hm
      have hml := getElem?_lt hc
      show (decide _ && beyQ (gD xs (m : Int).toNat) (iD u.claims (m : Int).toNat)) = true
      rw [Int.toNat_natCast, gD_at hx]
      have : iD u.claims m = c := by
        have := iD_at hml
        rw [hc] at this
        exact (Option.some.inj this).symm
      rw [this, hb, decide_eq_true ⟨by omega, by omega⟩]
      rfl
    · refine ⟨.pair true (intP p) (i : Int) (j : Int), ?_, wrong_shown u xs p i j hw, fun q e => nomatch e⟩
      show _ = PyData.tuple [.str "pair", .tuple ((intP p).map PyData.int), _, _]
      rw [natD_intP]
def ledD (u : Cu) (xs : List Rat) (p : List Int) : D := match kidAt u p with
  | none => .none
  | some v => .tuple [v.d, .list (fls (subA u xs p))]
def cLed : Ct := fun ds k => ∃ (u : Cu) (xs : List Rat) (dp : D) (p : List Int), ds = [u.d, .list (fls xs), dp] ∧ SeqD dp (p.map PyData.int) ∧ u.Ok ∧ xs.length = u.claims.length ∧ k.rt (ledD u xs p)
theorem led_v {u : Cu} {xs : List Rat} {dp : D} {p : List Int} (hd : SeqD dp (p.map PyData.int)) (h : u.Ok) (hl : xs.length = u.claims.length) : cLed [u.d, .list (fls xs), dp] (kv (ledD u xs p)) := ⟨u, xs, dp, p, rfl, hd, h, hl, rfl⟩
def cShown : Ct := fun ds k => ∃ (u : Cu) (xs : List Rat) (P : Pap) (N : Nat), ds = [u.d, .list (fls xs), P.d] ∧ u.Ok ∧ (∀ x ∈ xs, bt x N) ∧ N ≤ 30000 ∧ P.fine ∧ xs.length = u.claims.length ∧ k.rt (.bool (P.sh u xs))
theorem shown_v {u : Cu} {xs : List Rat} {P : Pap} {N : Nat} (h : u.Ok) (hb : ∀ x ∈ xs, bt x N) (hN : N ≤ 30000) (hP : P.fine) (hl : xs.length = u.claims.length) : cShown [u.d, .list (fls xs), P.d] (kv (.bool (P.sh u xs))) := ⟨u, xs, P, N, rfl, h, hb, hN, hP, hl, rfl⟩
def Pap.path : Pap → D
  | .pair t p _ _ => pathD t p
  | _ => .tuple []
def Pap.ints : Pap → List Int
  | .pair _ p _ _ => p
  | _ => []
theorem Pap.path_q (P : Pap) : SeqD P.path (P.ints.map PyData.int) := by
  cases P with
  | catch_ q => exact .inr rfl
  | over m => exact .inr rfl
  | pair t p i j => exact pathD_q t p
def cPathIn : Ct := fun ds k => ∃ (P : Pap), ds = [P.d] ∧ k.rt P.path
theorem pathIn_v {P : Pap} : cPathIn [P.d] (kv P.path) := ⟨P, rfl, rfl⟩
def isPaps (es : List D) : Prop := ∃ Ps : List Pap, es = Ps.map Pap.d ∧ (∀ P ∈ Ps, P.fine) ∧ Ps.length ≤ 20
def cDrawnP : Ct := fun ds k => ∃ (u : Cu) (xs : List Rat) (c : Int) (N : Nat), ds = [u.d, .list (fls xs), .int c] ∧ u.Ok ∧ (∀ x ∈ xs, bt x N) ∧ N ≤ 30000 ∧ xs.length = u.claims.length ∧ ∀ Ps : List Pap, (∀ P ∈ Ps, P.fine) → Ps.length ≤ 20 → k.rl (Ps.map Pap.d)
theorem drawnP_v {u : Cu} {xs : List Rat} {c : Int} {N : Nat} (h : u.Ok) (hb : ∀ x ∈ xs, bt x N) (hN : N ≤ 30000) (hl : xs.length = u.claims.length) : cDrawnP [u.d, .list (fls xs), .int c] ⟨fun _ => False, isPaps, fun _ => False⟩ := ⟨u, xs, c, N, rfl, h, hb, hN, hl, fun Ps h1 h2 => ⟨Ps, rfl, h1, h2⟩⟩
end Pu

set_option maxRecDepth 100000
set_option maxHeartbeats 1000000
namespace Pu
open PySem PySem.Spec PyProof.Rows L2
/-! ### texts -/
def rStrI : List V → Hp → VK → Prop := fun xs H Q => ∃ i, xs = [.int i] ∧ i.natAbs.log2 < 1920 ∧ Q (.str (toString i)) H
theorem c_strI {X : Cx} : CallR X (.type "str") rStrI := call_str_int
def rIntS : List V → Hp → VK → Prop := fun xs H Q => ∃ a n, xs = [.str a] ∧ PySem.intText? a = some n ∧ a.length ≤ 640 ∧ Q (.int n) H
theorem c_intS {X : Cx} : CallR X (.type "int") rIntS := call_int_str
def rNiS : R2 := fun x y H Q => ∃ i j, x = .str i ∧ y = .str j ∧ Q (.bl (!(!(Builtin.Str.occurrences j i 0 j.length 1).isEmpty))) H
theorem o_notInS {X : Cx} : OpR X (compareOp .NotIn) rNiS := op_notIn_str
def rMulS : R2 := fun x y H Q => ∃ c n, x = .str ⟨#[c]⟩ ∧ y = .int n ∧ 2 ≤ n ∧ n ≤ 1000 ∧ Q (.str ⟨(List.replicate n.toNat #[c]).foldl (· ++ ·) #[]⟩) H
def signsD (z : Str) : List D := z.cps.toList.map fun c => .str ⟨#[c]⟩
section
variable {K : Frag} {ρ : En} {te ta tb : TE}
theorem id_str {z : Str} (h : Ev K te ρ (.str z)) : Id K (iStr te) ρ (signsD z) := fun R0 H0 R σ H a Rr q => h R0 H0 R σ H a _ fun v R1 H1 g1 dv => by
  cases dv
  refine ⟨z, rfl, q _ R1 H1 g1 fun R2 H2 s2 sh => ⟨fun i d e => ?_, ?_⟩⟩
  · unfold signsD at e
    rw [List.getElem?_map] at e
    cases hc : z.cps.toList[i]? with
    | none => rw [hc] at e; cases e
    | some c =>
      rw [hc] at e
      obtain rfl := Option.some.inj e
      have hc' : z.cps[i]? = some c := by rw [← Array.getElem?_toList]; exact hc
      refine ⟨(Array.getElem?_eq_some_iff.mp hc').1, fun x H3 y => ?_⟩
      obtain ⟨rfl, c', h1, rfl⟩ := y
      rw [hc'] at h1
      cases h1
      exact ⟨R2, Grow.refl sh, .str _⟩
  · show z.cps.size ≤ (signsD z).length
    unfold signsD
    rw [List.length_map, Array.length_toList]
    exact Nat.le_refl _
theorem v_strI {i : Int} (ha : Ev K ta ρ (.int i)) (h : i.natAbs.log2 < 1920) : Ev K (tCB rStrI (tCons ta tNil)) ρ (.str (toString i)) := v_call1 ha fun R H x s dx Q q => by
  cases dx
  exact ⟨i, rfl, h, q _ R H (Grow.refl s) (.str _)⟩
theorem v_intS {a : Str} {n : Int} (ha : Ev K ta ρ (.str a)) (h : PySem.intText? a = some n) (hl : a.length ≤ 640) : Ev K (tCB rIntS (tCons ta tNil)) ρ (.int n) := v_call1 ha fun R H x s dx Q q => by
  cases dx
  exact ⟨a, n, rfl, h, hl, q _ R H (Grow.refl s) (.int _)⟩
theorem v_niS {c : Nat} {z : Str} (ha : Ev K ta ρ (.str ⟨#[c]⟩)) (hb : Ev K tb ρ (.str z)) : Ev K (tOp rNiS ta tb) ρ (.bool (!decide (c ∈ z.cps.toList))) := ev_op2 ha hb fun R H x y s dx dy Q q => by
  cases dx
  cases dy
  refine ⟨_, _, rfl, rfl, ?_⟩
  rw [StrLaws.found_one]
  exact q _ R H (Grow.refl s) (.bl _)
theorem ev_ixS {z : Str} {i : Int} {c : Nat} (ha : Ev K ta ρ (.str z)) (hb : Ev K tb ρ (.int i)) (h : z.length ≤ 100000) (hc : atI z.cps.toList i = some c) : Ev K (tOp (rIx K) ta tb) ρ (.str ⟨#[c]⟩) := ev_op2 ha hb fun R H x y s dx dy Q q => by
  cases dx
  cases dy
  exact .inr (.inr ⟨z, i, c, rfl, rfl, Nat.le_trans h (by decide), hc, q _ R H (Grow.refl s) (.str _)⟩)
theorem a_catS {y z : Str} (ha : Ev K ta ρ (.str y)) (hb : Ev K tb ρ (.str z)) (h : y.length + z.length ≤ 100000) : Ev K (tOp (rCatA K) ta tb) ρ (.str (y ++ z)) := ev_op2 ha hb fun R H x w s dx dy Q q => by
  cases dx
  cases dy
  exact .inr (.inr (.inr ⟨y, z, rfl, rfl, Nat.le_trans h (by decide), q _ R H (Grow.refl s) (.str _)⟩))
theorem a_slS {tl th : TO} {lo hi : Option Int} {z : Str} (ha : Ev K te ρ (.str z)) (hz : z.length ≤ 100000) (h1 : EvO K tl ρ lo) (h2 : EvO K th ρ hi) : Ev K (tSl (rSlA K) te tl th) ρ (.str (cutS z lo hi)) := fun R0 H0 R σ H a Q q =>
  ha R0 H0 R σ H a _ fun x R1 H1 g1 dx => h1 R0 H0 R1 σ H1 (a.grow g1) _ fun R2 H2 g2 => h2 R0 H0 R2 σ H2 (a.grow (g1.trans g2)) _ fun R3 H3 g3 => by
    cases dx
    exact .inr (.inr ⟨z, rfl, Nat.le_trans hz (by decide), q _ R3 H3 ((g1.trans g2).trans g3) (.str _)⟩)
theorem v_mulS {c : Nat} {n : Int} (ha : Ev K ta ρ (.str ⟨#[c]⟩)) (hb : Ev K tb ρ (.int n)) (h1 : 2 ≤ n) (h2 : n ≤ 1000) : Ev K (tOp rMulS ta tb) ρ (.str ⟨(List.replicate n.toNat #[c]).foldl (· ++ ·) #[]⟩) := ev_op2 ha hb fun R H x y s dx dy Q q => by
  cases dx
  cases dy
  exact ⟨c, n, rfl, rfl, h1, h2, q _ R H (Grow.refl s) (.str _)⟩
end
/-! numbers written -/
def digB (w : Str) : Bool := w.cps.toList.all fun c => decide (48 ≤ c) && decide (c ≤ 57)
def okNum (w : Str) : Bool := (decide (1 ≤ w.length) && decide (w.length ≤ 13)) && (!(decide (w.cps.toList.head? = some 48) && decide (1 < w.length)) && digB w)
def numOf (w : Str) : Int := ((NumText.digitsVal w.cps.toList : Nat) : Int)
theorem num_text {w : Str} (h : okNum w = true) : PySem.intText? w = some (numOf w) := by
  unfold okNum at h
  rw [Bool.and_eq_true, Bool.and_eq_true, Bool.and_eq_true, decide_eq_true_eq, decide_eq_true_eq] at h
  obtain ⟨⟨h1, h2⟩, _, h3⟩ := h
  have hl : w.cps.toList.length = w.length := Array.length_toList
  have := SX.int_S (a := w.cps.toList) h3 (fun z => by rw [z] at hl; simp at hl; omega) (by omega)
  exact this
theorem dig_in (c : Nat) : decide (c ∈ ("0123456789" : Str).cps.toList) = (decide (48 ≤ c) && decide (c ≤ 57)) := by
  have e : ("0123456789" : Str).cps.toList = [48, 49, 50, 51, 52, 53, 54, 55, 56, 57] := by decide +kernel
  rw [e]
  simp only [List.mem_cons, List.not_mem_nil, or_false]
  rw [← Bool.decide_and]
  exact decide_eq_decide.mpr (by omega)
/-- plain signsD only -/
def asc (w : Str) : Prop := ∀ c ∈ w.cps.toList, c < 128
theorem one_shaped (c : Nat) (h : c < 128) : SeqAt.shaped (.str ⟨#[c]⟩) = true := by
  have : ∀ c : Fin 128, SeqAt.shaped (.str ⟨#[c.val]⟩) = true := by decide +kernel
  exact this ⟨c, h⟩
theorem one_eq (c d : Nat) : decide ((⟨#[c]⟩ : Str) = ⟨#[d]⟩) = decide (c = d) := decide_eq_decide.mpr ⟨fun h => by
  have := congrArg (fun s : Str => s.cps.toList) h
  exact (List.cons.inj this).1, fun h => by rw [h]⟩
def cNumIn (C : Addr) : Ct := fun ds k => ∃ w : Str, ds = [.str w] ∧ w.length ≤ 1000 ∧ asc w ∧ (okNum w = false → k.ex (.ref C)) ∧ (okNum w = true → k.rt (.int (numOf w)))
theorem numIn_v {C : Addr} {w : Str} (hl : w.length ≤ 1000) (ha : asc w) (h : okNum w = true) : cNumIn C [.str w] (kv (.int (numOf w))) := ⟨w, rfl, hl, ha, (fun z => by rw [h] at z; cases z), fun _ => rfl⟩
theorem numIn_x {C : Addr} {w : Str} (hl : w.length ≤ 1000) (ha : asc w) (h : okNum w = false) : cNumIn C [.str w] (kx (.ref C)) := ⟨w, rfl, hl, ha, (fun _ => rfl), (fun z => by rw [h] at z; cases z)⟩
def numD (w : Str) : D := if okNum w then .int (numOf w) else .none
def cNumDue : Ct := fun ds k => ∃ w : Str, ds = [.str w] ∧ w.length ≤ 1000 ∧ asc w ∧ k.rt (numD w)
theorem numDue_v {w : Str} (hl : w.length ≤ 1000) (ha : asc w) : cNumDue [.str w] (kv (numD w)) := ⟨w, rfl, hl, ha, rfl⟩
def isWord (d : D) : Prop := ∃ w : Str, d = .str w ∧ w.length ≤ 1000 ∧ asc w
def cWord : Ct := fun ds k => ∃ c : Int, ds = [.int c] ∧ ∀ w : Str, w.length ≤ 1000 → asc w → k.rt (.str w)
theorem word_v {c : Int} : cWord [.int c] ⟨isWord, fun _ => False, fun _ => False⟩ := ⟨c, rfl, fun w h h2 => ⟨w, rfl, h, h2⟩⟩
theorem rep_size (c : Nat) : ∀ (n : Nat) (a : Array Nat), ((List.replicate n #[c]).foldl (· ++ ·) a).size = a.size + n
  | 0, a => rfl
  | n + 1, a => by
    rw [List.replicate_succ, List.foldl_cons, rep_size c n, Array.size_append]
    show a.size + 1 + n = _
    omega
theorem o_mulS {X : Cx} : OpR X (binaryOp .Mult) rMulS := by
  intro pins s σ H x y v u Q I rx ry h
  obtain ⟨c, n, rfl, rfl, h1, h2, q⟩ := h
  obtain ⟨t, rfl⟩ := rx
  obtain ⟨t', rfl⟩ := ry
  have hlen : (⟨#[c]⟩ : Str).length = 1 := rfl
  refine P.mul_str (by rw [decide_eq_false (by omega), decide_eq_false (by omega)]; rfl) (fun _ _ => ?_) (fun _ _ => ?_) ?_
  · rw [hlen]
    have : (1 : Int) ≤ (2 ^ 63 - 1) / n := Int.le_ediv_of_mul_le (by omega) (by omega)
    show ¬ (((1 : Nat) : Int) > (2 ^ 63 - 1) / n)
    omega
  · rw [hlen]
    unfold Builtin.Str.tooLong
    have : (1000 : Nat) ≤ sizeLine := by decide
    refine decide_eq_false ?_
    omega
  · rw [if_neg (by omega), if_neg (by
      intro z
      rw [Bool.or_eq_true] at z
      rcases z with z | z
      · have := of_decide_eq_true z
        omega
      · rw [hlen] at z
        cases z)]
    refine ⟨?_, .str _, H, I.tok _, ⟨_, rfl⟩, q⟩
    show ((List.replicate n.toNat #[c]).foldl (· ++ ·) #[]).size ≤ sizeLine
    rw [rep_size]
    have : (1000 : Nat) ≤ sizeLine := by decide
    show 0 + n.toNat ≤ sizeLine
    omega
theorem str_len (i : Int) (h : i.natAbs < 10 ^ 13) : (Str.ofString (toString i)).length ≤ 14 := by
  have := int_text_length_le10 (k := 13) (by decide) h
  rw [PySem.ofString_length]
  exact this
theorem cat_len (y z : Str) : (y ++ z).length = y.length + z.length := by
  show (y.cps ++ z.cps).size = _
  rw [Array.size_append]
  rfl
theorem num_asc {i : Int} (h : 0 ≤ i) : asc (Str.ofString (toString i)) := fun c hc => by
  obtain ⟨n, rfl⟩ : ∃ n : Nat, i = (n : Int) := ⟨i.toNat, by omega⟩
  rw [SX.num_S] at hc
  have := TL.numL_digits n c hc
  omega
theorem asc_cat {y z : Str} (h1 : asc y) (h2 : asc z) : asc (y ++ z) := fun c hc => by
  have : (y ++ z).cps.toList = y.cps.toList ++ z.cps.toList := by
    show (y.cps ++ z.cps).toList = _
    rw [Array.toList_append]
  rw [this] at hc
  rcases List.mem_append.mp hc with hc | hc
  · exact h1 c hc
  · exact h2 c hc
theorem asc_cut {z : Str} (h : asc z) (lo hi : Option Int) : asc (cutS z lo hi) := fun c hc => by
  have : c ∈ ((z.cps.toList.drop (HT.sIx z.length 0 lo)).take (HT.sIx z.length z.length hi - HT.sIx z.length 0 lo)) := by
    have e : (cutS z lo hi).cps.toList = ((z.cps.toList.drop (HT.sIx z.length 0 lo)).take (HT.sIx z.length z.length hi - HT.sIx z.length 0 lo)) := rfl
    rwa [e] at hc
  exact h c (List.mem_of_mem_drop (List.mem_of_mem_take this))
theorem strs_pick (zs : List Str) (hb : (zs.all fun z => decide (z.length ≤ 10) && z.cps.toList.all fun c => decide (c < 128)) = true) {k : Int} (h0 : 0 ≤ k) (h1 : k < (zs.length : Int)) : ∃ y, atI (zs.map PyData.str) k = some (.str y) ∧ y.length ≤ 10 ∧ asc y := by
  obtain ⟨m, rfl⟩ : ∃ m : Nat, k = (m : Int) := ⟨k.toNat, by omega⟩
  have hm : m < zs.length := by omega
  have := List.all_eq_true.mp hb _ (List.getElem_mem hm)
  rw [Bool.and_eq_true, decide_eq_true_eq] at this
  exact ⟨zs[m], atI_nat (by rw [List.getElem?_map, List.getElem?_eq_getElem hm]; rfl), this.1, fun c hc => of_decide_eq_true (List.all_eq_true.mp this.2 c hc)⟩
theorem sign_pick (z : Str) (hb : (z.cps.toList.all fun c => decide (c < 128)) = true) {k : Int} (h0 : 0 ≤ k) (h1 : k < (z.cps.toList.length : Int)) : ∃ c, atI z.cps.toList k = some c ∧ c < 128 := by
  obtain ⟨m, rfl⟩ : ∃ m : Nat, k = (m : Int) := ⟨k.toNat, by omega⟩
  have hm : m < z.cps.toList.length := by omega
  exact ⟨z.cps.toList[m], atI_nat (List.getElem?_eq_getElem hm), of_decide_eq_true (List.all_eq_true.mp hb _ (List.getElem_mem hm))⟩
theorem asc_one {c : Nat} (h : c < 128) : asc ⟨#[c]⟩ := fun d hd => by
  have : d = c := by simpa using hd
  omega
theorem rep_mem (c : Nat) : ∀ (n : Nat) (a : Array Nat) (d : Nat), d ∈ ((List.replicate n #[c]).foldl (· ++ ·) a).toList → d ∈ a.toList ∨ d = c
  | 0, a, d, h => .inl h
  | n + 1, a, d, h => by
    rw [List.replicate_succ, List.foldl_cons] at h
    rcases rep_mem c n _ d h with h | h
    · rw [Array.toList_append] at h
      rcases List.mem_append.mp h with h | h
      · exact .inl h
      · exact .inr (by simpa using h)
    · exact .inr h
theorem asc_rep {c : Nat} (h : c < 128) (n : Nat) : asc ⟨(List.replicate n #[c]).foldl (· ++ ·) #[]⟩ := fun d hd => by
  rcases rep_mem c n #[] d hd with h2 | h2
  · simp at h2
  · omega
theorem rep_len (c n : Nat) : (⟨(List.replicate n #[c]).foldl (· ++ ·) #[]⟩ : Str).length = n := by
  show ((List.replicate n #[c]).foldl (· ++ ·) #[]).size = n
  rw [rep_size]
  show 0 + n = n
  omega
end Pu

local macro_rules | `(tactic| walk_at "kit") => `(tactic| first | exact Pu.kit_int_int | exact Pu.kit_int_bool | exact Pu.kit_int_tuple | exact Pu.kit_int_list | exact Pu.kit_int_str | exact Pu.kit_bool_int | exact Pu.kit_bool_bool | exact Pu.kit_bool_tuple | exact Pu.kit_bool_list | exact Pu.kit_bool_str | exact Pu.kit_tuple_int | exact Pu.kit_tuple_bool | exact Pu.kit_tuple_tuple | exact Pu.kit_tuple_list | exact Pu.kit_tuple_str | exact Pu.kit_list_int | exact Pu.kit_list_bool | exact Pu.kit_list_tuple | exact Pu.kit_list_list | exact Pu.kit_list_str | exact Pu.kit_str_int | exact Pu.kit_str_bool | exact Pu.kit_str_tuple | exact Pu.kit_str_list | exact Pu.kit_str_str | exact Pu.kit_NoneType_int | exact Pu.kit_NoneType_bool | exact Pu.kit_NoneType_tuple | exact Pu.kit_NoneType_list | exact Pu.kit_NoneType_str)
local macro_rules | `(tactic| walk_at "side") => `(tactic| first
  | assumption
  | omega
  | decide
  | rfl
  | (unfold Pu.CMulB; decide +kernel)
  | (unfold Pu.CPowW; decide +kernel))
local macro_rules | `(tactic| walk_at "wl") => `(tactic| first
  | (with_reducible apply Pu.w_list; walk_at "ev")
  | (with_reducible apply Pu.w_tup; walk_at "ev"))
local macro_rules | `(tactic| walk_at "es") => `(tactic| first
  | walk_at "ev"
  | (intro hx; walk_at "ev")
  | walk_at "side")
local macro_rules | `(tactic| walk_at "ev") => `(tactic| first
  | with_reducible exact Pu.ev_int
  | exact Pu.ev_var rfl
  | with_reducible exact Pu.ev_bl
  | with_reducible exact Pu.ev_non
  | with_reducible exact Pu.ev_str
  | exact Pu.evl_own rfl
  | with_reducible exact Pu.o_none
  | ((with_reducible apply Pu.o_some) <;> walk_at "ev")
  | ((with_reducible apply Pu.a_add) <;> walk_at "ev")
  | ((with_reducible apply Pu.v_sub) <;> walk_at "ev")
  | ((with_reducible apply Pu.v_mul) <;> walk_at "es")
  | ((with_reducible apply Pu.v_emod) <;> walk_at "es")
  | ((with_reducible apply Pu.v_div) <;> walk_at "es")
  | ((with_reducible apply Pu.v_fdiv) <;> walk_at "es")
  | ((with_reducible apply Pu.v_divA) <;> walk_at "es")
  | ((with_reducible apply Pu.v_fdivA) <;> walk_at "es")
  | ((with_reducible apply Pu.v_pow) <;> walk_at "es")
  | ((with_reducible apply Pu.v_neg) <;> walk_at "ev")
  | ((with_reducible apply Pu.v_lt) <;> walk_at "ev")
  | ((with_reducible apply Pu.v_le) <;> walk_at "ev")
  | ((with_reducible apply Pu.v_gt) <;> walk_at "ev")
  | ((with_reducible apply Pu.v_ge) <;> walk_at "ev")
  | ((with_reducible apply Pu.ev_eqD) <;> walk_at "es")
  | ((with_reducible apply Pu.ev_neD) <;> walk_at "es")
  | ((with_reducible apply Pu.v_isN) <;> walk_at "ev")
  | ((with_reducible apply Pu.v_notN) <;> walk_at "ev")
  | ((with_reducible apply Pu.ev_ixST) <;> walk_at "es")
  | ((with_reducible apply Pu.ev_ixSL) <;> walk_at "es")
  | ((with_reducible apply Pu.v_abs) <;> walk_at "ev")
  | ((with_reducible apply Pu.a_inI) <;> walk_at "ev")
  | ((with_reducible apply Pu.a_niI) <;> walk_at "ev")
  | ((with_reducible apply Pu.v_max2) <;> walk_at "ev")
  | ((with_reducible apply Pu.v_min2) <;> walk_at "ev")
  | ((with_reducible apply Pu.a_lenL) <;> walk_at "ev")
  | ((with_reducible apply Pu.a_lenT) <;> walk_at "ev")
  | ((with_reducible apply Pu.v_isi (b := true)) <;> first | walk_at "ev" | walk_at "kit")
  | ((with_reducible apply Pu.v_isi (b := false)) <;> first | walk_at "ev" | walk_at "kit")
  | with_reducible exact Pu.ev_fr0
  | with_reducible exact Pu.ev_fr1
  | ((with_reducible apply Pu.ev_tup) <;> first | walk_at "ev" | exact Nat.le_of_ble_eq_true rfl)
  | with_reducible exact Pu.ea_nil
  | ((with_reducible apply Pu.ea_cons) <;> walk_at "ev")
  | ((with_reducible apply Pu.et_test) <;> walk_at "ev")
  | ((with_reducible apply Pu.et_B) <;> walk_at "ev")
  | ((with_reducible apply Pu.et_not) <;> walk_at "ev")
  | ((with_reducible apply Pu.et_and) <;> walk_at "es")
  | ((with_reducible apply Pu.et_or) <;> walk_at "es")
  | ((with_reducible apply Pu.ev_andV) <;> walk_at "es")
  | ((with_reducible apply Pu.ev_orV) <;> walk_at "es")
  | ((with_reducible apply Pu.ev_notV) <;> walk_at "ev")
  | ((with_reducible apply Pu.ev_call) <;> first | walk_at "ev" | walk_at "cc")
  | (with_reducible apply Pu.EvF.l; walk_at "ef")
  | (with_reducible apply Pu.Ev.l; walk_at "ev")
  | ((with_reducible apply Pu.v_tupleL) <;> walk_at "ev")
  | ((with_reducible apply Pu.v_tupleT) <;> walk_at "ev")
  | ((with_reducible apply Pu.a_catT) <;> walk_at "es")
  | (with_reducible apply Pu.EvF.v; walk_at "ef"))
local macro_rules | `(tactic| walk_at "ef") => `(tactic| first
  | ((with_reducible apply Pu.evf_lst) <;> first | walk_at "ev" | exact Nat.le_of_ble_eq_true rfl)
  | ((with_reducible apply Pu.evf_call) <;> first | walk_at "ev" | walk_at "cc")
  | ((with_reducible apply Pu.a_slL) <;> walk_at "es")
  | ((with_reducible apply Pu.f_listL) <;> walk_at "ev")
  | ((with_reducible apply Pu.f_listT) <;> walk_at "ev")
  | ((with_reducible apply Pu.a_cat) <;> first | walk_at "em" | walk_at "side"))
local macro_rules | `(tactic| walk_at "em") => `(tactic| first
  | exact Pu.evm_own rfl
  | (with_reducible apply Pu.EvF.m; walk_at "ef"))
local macro_rules | `(tactic| walk_at "cc") => `(tactic| first
  | assumption
  | exact Pu.cell_v (by omega)
  | exact Pu.whole_v
  | exact Pu.gcd_v (by omega) (by omega)
  | exact Pu.plus_v (by assumption) (by assumption) (by omega)
  | exact Pu.minus_v (by assumption) (by assumption) (by omega)
  | exact Pu.times_v (by assumption) (by assumption) (by omega)
  | exact Pu.less_v (by assumption) (by assumption) (by omega)
  | exact Pu.floor_v (by assumption) (by omega)
  | exact Pu.gap_v (by assumption) (by assumption) (by omega)
  | exact Pu.slope_v (by assumption) (by assumption) (by omega)
  | exact Pu.straight_v (by assumption) (by assumption) (by assumption) (by omega)
  | exact Pu.length_v (by assumption)
  | exact Pu.height_v (by assumption)
  | exact Pu.total_v (by assumption) (by assumption) (by omega))

namespace Law
open PySem PySem.Spec PyProof.Rows L2 Pu
def topS (i : Nat) : Stmt := PySem.Challenge.pw_catchhall_k56_numbers_read.main.body.getD i (.Pass ⟨0, 0, 0, 0⟩)
abbrev s_number_in : Stmt := topS 16
abbrev s__law_whole : Stmt := topS 18
abbrev s__law_word : Stmt := topS 19
abbrev s__law_due : Stmt := topS 20
abbrev s_law : Stmt := topS 21
structure Ad where
  number_in : Addr
  _law_whole : Addr
  _law_word : Addr
  _law_due : Addr
  law : Addr
  CatchError : Addr
  NoFraction : Addr
  BadLine : Addr
  Outside : Addr
  Unlike : Addr
  BadWay : Addr
  BadWeights : Addr
  BadClaim : Addr
  TooMany : Addr
  NoBoat : Addr
  BadCatch : Addr
  NoText : Addr
structure ClsTxt (K : Frag) (mg : Str → Option Value) (x : Str) (C : Addr) : Prop where
  g : mg x = some (.ref C)
  x : PySem.W.excIn K C [.type "ValueError", .type "Exception", .type "BaseException", .type "object"] "ValueError.__new__" = true
  k : PySem.W.keepIn K (.ref C) = true
  b : PySem.W.subIn K (.ref C) (.type "BaseException") = some true
  t : PySem.W.typeIn K (.ref C) = some (.type "type")
  e : ExcC K C
section
variable {P : Program} {w : World} {K : Frag} {mg : Str → Option Value} {base : Heap} {A : Ad}
structure Txt (K : Frag) (mg : Str → Option Value) (A : Ad) : Prop where
  f_number_in : FnAt K mg "number_in" s_number_in ["word"] A.number_in
  f__law_whole : FnAt K mg "_law_whole" s__law_whole ["found"] A._law_whole
  f__law_word : FnAt K mg "_law_word" s__law_word ["cell"] A._law_word
  f__law_due : FnAt K mg "_law_due" s__law_due ["word"] A._law_due
  f_law : FnAt K mg "law" s_law ["script"] A.law
  c_CatchError : ClsTxt K mg "CatchError" A.CatchError
  c_NoFraction : ClsTxt K mg "NoFraction" A.NoFraction
  c_BadLine : ClsTxt K mg "BadLine" A.BadLine
  c_Outside : ClsTxt K mg "Outside" A.Outside
  c_Unlike : ClsTxt K mg "Unlike" A.Unlike
  c_BadWay : ClsTxt K mg "BadWay" A.BadWay
  c_BadWeights : ClsTxt K mg "BadWeights" A.BadWeights
  c_BadClaim : ClsTxt K mg "BadClaim" A.BadClaim
  c_TooMany : ClsTxt K mg "TooMany" A.TooMany
  c_NoBoat : ClsTxt K mg "NoBoat" A.NoBoat
  c_BadCatch : ClsTxt K mg "BadCatch" A.BadCatch
  c_NoText : ClsTxt K mg "NoText" A.NoText
  h_NoText_CatchError : PySem.W.exmOne K (.ref A.NoText) (.ref A.CatchError) = some true
  y_NoText_NoText : PySem.W.kitOne K (.ref A.NoText) (.ref A.NoText) = some true
  y_NoText_ValueError : PySem.W.kitOne K (.ref A.NoText) (.type "ValueError") = some true
  n_NoText_BadCatch : PySem.W.kitOne K (.ref A.NoText) (.ref A.BadCatch) = some false
  n_NoText_BadClaim : PySem.W.kitOne K (.ref A.NoText) (.ref A.BadClaim) = some false
  n_NoText_BadLine : PySem.W.kitOne K (.ref A.NoText) (.ref A.BadLine) = some false
  n_NoText_BadWay : PySem.W.kitOne K (.ref A.NoText) (.ref A.BadWay) = some false
  n_NoText_BadWeights : PySem.W.kitOne K (.ref A.NoText) (.ref A.BadWeights) = some false
  n_NoText_NoBoat : PySem.W.kitOne K (.ref A.NoText) (.ref A.NoBoat) = some false
  n_NoText_NoFraction : PySem.W.kitOne K (.ref A.NoText) (.ref A.NoFraction) = some false
  n_NoText_Outside : PySem.W.kitOne K (.ref A.NoText) (.ref A.Outside) = some false
  n_NoText_TooMany : PySem.W.kitOne K (.ref A.NoText) (.ref A.TooMany) = some false
  n_NoText_Unlike : PySem.W.kitOne K (.ref A.NoText) (.ref A.Unlike) = some false
  m_FIGURES : ∃ t, mg "FIGURES" = some (.str "0123456789" t)
  m_MOST_FIGURES : ∃ t, mg "MOST_FIGURES" = some (.int 13 t)
  z_ValueError : mg "ValueError" = none
  z_bool : mg "bool" = none
  z_int : mg "int" = none
  z_isinstance : mg "isinstance" = none
  z_len : mg "len" = none
  z_str : mg "str" = none
theorem sc_number_in : FnScope ["word", "sign"] ["word"] (defScope s_number_in) := ⟨rfl, rfl, rfl, by decide +kernel, rfl, by decide +kernel, by decide +kernel⟩
theorem ok_number_in (T : Txt K mg A) (hN : base.NoSeer) (hT : P.given.tree = none)  : Ok P w K mg base 1 "number_in" ["word"] (spc K (cNumIn A.NoText)) := by
  refine T.f_number_in.ok sc_number_in _ (fun ds k hc => by obtain ⟨_, rfl, _⟩ := hc; rfl) (fun cdv A' outer s H vs Q E hr h => ⟨_, (pss_cons (ps_if (PW.pt (pw_or (pt_not (pt_chain o_le o_le pe_int (pe_callB (c_lenA (K := K)) (by rfl) T.z_len (by decide +kernel) (pa_cons (pv 0) pa_nil)) (pe_gInt rfl T.m_MOST_FIGURES))) (pw_or1 (PW.pt (pw_and (pt_cmpR (o_eq (K := K) hr.units) (pe_ix (i_any (K := K)) (pv 0) pe_int (fun _ _ => rfl)) pe_str (nomark _)) (pw_and1 (pt_cmpR o_gt (pe_callB (c_lenA (K := K)) (by rfl) T.z_len (by decide +kernel) (pa_cons (pv 0) pa_nil)) pe_int (nomark _)))))))) (pss_one (ps_raiseC rfl (takes_of rfl rfl rfl rfl) T.c_NoText.x T.c_NoText.g T.c_NoText.k T.c_NoText.b T.c_NoText.t rfl)) pss_nil)
  (pss_cons (ps_for (passes_of rfl) rfl (pi_str (pv 0)) (pg_name (i := 1) sc_number_in.nd rfl (by first | exact Or.inl rfl | exact Or.inr rfl)) (pss_one (ps_if (pt_cmpR o_notInS (pv 1) (pe_gStr rfl T.m_FIGURES) (by rfl)) (pss_one (ps_raiseC rfl (takes_of rfl rfl rfl rfl) T.c_NoText.x T.c_NoText.g T.c_NoText.k T.c_NoText.b T.c_NoText.t rfl)) pss_nil)))
  (pss_one (ps_ret (pe_callTy (c_intS) (by rfl) T.z_int (by decide +kernel) (pa_cons (pv 0) pa_nil)))))), body_of h fun ds k hc => ?_⟩)
  obtain ⟨w, rfl, hl, ha, hx, hv⟩ := hc
  show Sd K _ _ _ [.val (.str w), .un] _
  have hll : w.cps.toList.length = w.length := Array.length_toList
  have hok : okNum w = ((decide (1 ≤ w.length) && decide (w.length ≤ 13)) && (!(decide (w.cps.toList.head? = some 48) && decide (1 < w.length)) && digB w)) := rfl
  by_cases hA : (decide (1 ≤ w.length) && decide (w.length ≤ 13)) = true
  · have hA' := hA
    rw [Bool.and_eq_true, decide_eq_true_eq, decide_eq_true_eq] at hA'
    obtain ⟨c, cs, hcs⟩ : ∃ c cs, w.cps.toList = c :: cs := by
      cases e : w.cps.toList with
      | nil => rw [e] at hll; simp at hll; omega
      | cons c cs => exact ⟨c, cs, rfl⟩
    have hat : atI w.cps.toList 0 = some c := atI_nat (j := 0) (by rw [hcs]; rfl)
    have hc128 := ha c (by rw [hcs]; exact List.mem_cons_self)
    have hhd : decide (w.cps.toList.head? = some 48) = decide (c = 48) := by
      rw [hcs]
      exact decide_eq_decide.mpr ⟨fun h => Option.some.inj h, fun h => by rw [h]; rfl⟩
    rw [hA, Bool.true_and, hhd] at hok
    have chA : (decide ((1 : Int) ≤ (w.length : Int)) && decide ((w.length : Int) ≤ 13)) = true := by
      rw [decide_eq_true (by omega), decide_eq_true (by omega)]
      rfl
    refine sd_seq (sd_ifS (b := (!(decide ((1 : Int) ≤ (w.length : Int)) && decide ((w.length : Int) ≤ 13))) || (decide (c = 48) && decide ((1 : Int) < (w.length : Int)))) (et_or (et_not (et_test (ev_chainI (f := fun i j => decide (i ≤ j)) (g := fun i j => decide (i ≤ j)) ev_int (a_lenS (ev_var rfl) (by omega)) fun _ => ev_int))) fun _ => et_and (EvT.is (et_test (ev_eqS (a := ⟨#[c]⟩) (b := "0") (ev_ixS (ev_var rfl) ev_int (by omega) hat) ev_str (one_shaped c hc128) (by decide +kernel))) (one_eq c 48)) fun _ => et_test (v_gt (a_lenS (ev_var rfl) (by omega)) ev_int)) (fun z => ?_) (fun z => sd_next ?_))
    · rw [chA, Bool.not_true, Bool.false_or, Bool.and_eq_true, decide_eq_true_eq, decide_eq_true_eq] at z
      refine sd_raise (hx ?_)
      rw [hok, decide_eq_true z.1, decide_eq_true (show 1 < w.length by omega)]
      rfl
    · rw [chA, Bool.not_true, Bool.false_or] at z
      have z2 : (decide (c = 48) && decide (1 < w.length)) = false := by
        rw [← z]
        congr 1
        exact decide_eq_decide.mpr (by omega)
      rw [z2, Bool.not_false, Bool.true_and] at hok
      refine sd_seq (sd_for (ds := signsD w) (fun i ρ => (∃ z1 : Sl, ρ = [.val (.str w), z1]) ∧ ∀ (j : Nat) (c : Nat), j < i → w.cps.toList[j]? = some c → (decide (48 ≤ c) && decide (c ≤ 57)) = true) (id_str (ev_var rfl)) ⟨⟨_, rfl⟩, fun j c h => absurd h (Nat.not_lt_zero _)⟩ ?_ ?_)
      · rintro i d ρ' hd ⟨⟨z1, rfl⟩, hi0⟩
        obtain ⟨c', hc', rfl⟩ : ∃ c', w.cps.toList[i]? = some c' ∧ d = .str ⟨#[c']⟩ := by
          unfold signsD at hd
          rw [List.getElem?_map] at hd
          cases e : w.cps.toList[i]? with
          | none => rw [e] at hd; cases hd
          | some c' => rw [e] at hd; exact ⟨c', rfl, (Option.some.inj hd).symm⟩
        refine ⟨_, gd_name, ?_⟩
        refine sd_ifS (b := !(decide (48 ≤ c') && decide (c' ≤ 57))) (EvT.is (et_test (v_niS (ev_var rfl) ev_str)) (by rw [dig_in])) (fun z => ?_) (fun z => sd_next ⟨⟨_, rfl⟩, fun j c2 h1 h2 => ?_⟩)
        · refine sd_raise (hx ?_)
          rw [hok, Bool.eq_false_iff]
          intro y
          have := List.all_eq_true.mp y c' (List.mem_of_getElem? hc')
          rw [this] at z
          cases z
        · by_cases e : j < i
          · exact hi0 j c2 e h2
          · obtain rfl : j = i := by omega
            rw [hc'] at h2
            cases h2
            simpa using z
      · rintro ρ ⟨⟨z1, rfl⟩, hi0⟩
        have hlen : (signsD w).length = w.cps.toList.length := by unfold signsD; rw [List.length_map]
        rw [hlen] at hi0
        have hdig : digB w = true := List.all_eq_true.mpr fun c hc => by
          obtain ⟨j, hj⟩ := List.mem_iff_getElem?.mp hc
          exact hi0 j c (getElem?_lt hj) hj
        rw [hdig] at hok
        exact sd_ret (v_intS (ev_var rfl) (num_text hok) (by omega)) (hv hok)
  · have hA' : (decide (1 ≤ w.length) && decide (w.length ≤ 13)) = false := Bool.eq_false_iff.mpr hA
    rw [hA', Bool.false_and] at hok
    have chA : (decide ((1 : Int) ≤ (w.length : Int)) && decide ((w.length : Int) ≤ 13)) = false := by
      rw [← hA']
      congr 1
      · exact decide_eq_decide.mpr (by omega)
      · exact decide_eq_decide.mpr (by omega)
    refine sd_seq (sd_ifS (b := true) (EvT.is (et_or (y := true) (et_not (et_test (ev_chainI (f := fun i j => decide (i ≤ j)) (g := fun i j => decide (i ≤ j)) ev_int (a_lenS (ev_var rfl) (by omega)) fun _ => ev_int))) fun z => by rw [chA] at z; cases z) (by rw [chA]; rfl)) (fun _ => sd_raise (hx hok)) (fun z => nomatch z))
theorem sc__law_whole : FnScope ["found"] ["found"] (defScope s__law_whole) := ⟨rfl, rfl, rfl, by decide +kernel, rfl, by decide +kernel, by decide +kernel⟩
theorem ok__law_whole (T : Txt K mg A) (hN : base.NoSeer) (hT : P.given.tree = none)  : Ok P w K mg base 1 "_law_whole" ["found"] (spc K cWhole) := by
  refine T.f__law_whole.ok sc__law_whole _ (fun ds k hc => by obtain ⟨_, rfl, _⟩ := hc; rfl) (fun cdv A' outer s H vs Q E hr h => ⟨_, (pss_one (ps_ret (pe_and (pe_callB (c_isiA (K := K)) (by rfl) T.z_isinstance (by decide +kernel) (pa_cons (pv 0) (pa_cons (pe_bltn (v := .ty "int") (by rfl) T.z_int (by decide +kernel) rfl) pa_nil))) (pe_one (pe_not (pe_callB (c_isiA (K := K)) (by rfl) T.z_isinstance (by decide +kernel) (pa_cons (pv 0) (pa_cons (pe_bltn (v := .ty "bool") (by rfl) T.z_bool (by decide +kernel) rfl) pa_nil)))))))), body_of h fun ds k hc => ?_⟩)
  obtain ⟨i, rfl, hk⟩ := hc
  show Sd K _ _ _ [.val (.int i)] _
  exact sd_ret (d := .bool (true && !false)) (by walk_at "ev") hk
theorem sc__law_word : FnScope ["cell", "figures", "way", "at"] ["cell"] (defScope s__law_word) := ⟨rfl, rfl, rfl, by decide +kernel, rfl, by decide +kernel, by decide +kernel⟩
theorem ok__law_word (T : Txt K mg A) (hN : base.NoSeer) (hT : P.given.tree = none)  : Ok P w K mg base 1 "_law_word" ["cell"] (spc K cWord) := by
  refine T.f__law_word.ok sc__law_word _ (fun ds k hc => by obtain ⟨_, rfl, _⟩ := hc; rfl) (fun cdv A' outer s H vs Q E hr h => ⟨_, (pss_cons (ps_set (i := 0) sc__law_word.nd rfl (by first | exact Or.inl rfl | exact Or.inr rfl) (pe_op o_mod (pv 0) (pe_op o_pow pe_int pe_int)))
  (pss_cons (ps_set (i := 1) sc__law_word.nd rfl (by first | exact Or.inl rfl | exact Or.inr rfl) (pe_callTy (c_strI) (by rfl) T.z_str (by decide +kernel) (pa_cons (pe_op o_mod (pe_op o_fdiv (pv 0) pe_int) (pe_op o_pow pe_int pe_int)) pa_nil)))
  (pss_cons (ps_set (i := 2) sc__law_word.nd rfl (by first | exact Or.inl rfl | exact Or.inr rfl) (pe_op o_mod (pv 0) pe_int))
  (pss_cons (ps_if (pt_cmpR (o_eq (K := K) hr.units) (pv 2) pe_int (nomark _)) (pss_one (ps_set (i := 1) sc__law_word.nd rfl (by first | exact Or.inl rfl | exact Or.inr rfl) (pe_op (o_plus (K := K)) (pe_ix (i_any (K := K)) (pe_lst (pa_cons pe_str (pa_cons pe_str (pa_cons pe_str (pa_cons pe_str (pa_cons pe_str pa_nil)))))) (pe_op o_mod (pe_op o_fdiv (pv 0) pe_int) pe_int) (fun _ _ => rfl)) (pv 1)))) pss_nil)
  (pss_cons (ps_if (pt_cmpR (o_eq (K := K) hr.units) (pv 2) pe_int (nomark _)) (pss_one (ps_set (i := 1) sc__law_word.nd rfl (by first | exact Or.inl rfl | exact Or.inr rfl) (pe_op (o_plus (K := K)) (pv 1) (pe_ix (i_any (K := K)) (pe_lst (pa_cons pe_str (pa_cons pe_str (pa_cons pe_str (pa_cons pe_str pa_nil))))) (pe_op o_mod (pe_op o_fdiv (pv 0) pe_int) pe_int) (fun _ _ => rfl))))) pss_nil)
  (pss_cons (ps_if (pt_cmpR (o_eq (K := K) hr.units) (pv 2) pe_int (nomark _)) (pss_cons (ps_set (i := 3) sc__law_word.nd rfl (by first | exact Or.inl rfl | exact Or.inr rfl) (pe_op o_mod (pe_op o_fdiv (pv 0) pe_int) (pe_op (o_plus (K := K)) (pe_callB (c_lenA (K := K)) (by rfl) T.z_len (by decide +kernel) (pa_cons (pv 1) pa_nil)) pe_int)))
  (pss_one (ps_set (i := 1) sc__law_word.nd rfl (by first | exact Or.inl rfl | exact Or.inr rfl) (pe_op (o_plus (K := K)) (pe_op (o_plus (K := K)) (pe_slice (s_any (K := K)) (pv 1) po_none (po_some (pv 3))) (pe_ix (i_any (K := K)) pe_str (pe_op o_mod (pe_op o_fdiv (pv 0) pe_int) pe_int) (fun _ _ => rfl))) (pe_slice (s_any (K := K)) (pv 1) (po_some (pv 3)) po_none))))) pss_nil)
  (pss_cons (ps_if (pt_cmpR (o_eq (K := K) hr.units) (pv 2) pe_int (nomark _)) (pss_one (ps_set (i := 1) sc__law_word.nd rfl (by first | exact Or.inl rfl | exact Or.inr rfl) (pe_ix (i_any (K := K)) (pe_lst (pa_cons pe_str (pa_cons pe_str (pa_cons pe_str (pa_cons pe_str (pa_cons pe_str (pa_cons pe_str (pa_cons pe_str (pa_cons pe_str (pa_cons pe_str (pa_cons pe_str pa_nil))))))))))) (pe_op o_mod (pe_op o_fdiv (pv 0) pe_int) pe_int) (fun _ _ => rfl)))) pss_nil)
  (pss_cons (ps_if (pt_cmpR (o_eq (K := K) hr.units) (pv 2) pe_int (nomark _)) (pss_one (ps_set (i := 1) sc__law_word.nd rfl (by first | exact Or.inl rfl | exact Or.inr rfl) (pe_op o_mulS pe_str (pe_op (o_plus (K := K)) pe_int (pe_op o_mod (pe_op o_fdiv (pv 0) pe_int) pe_int))))) pss_nil)
  (pss_one (ps_ret (pv 1))))))))))), body_of h fun ds k hc => ?_⟩)
  obtain ⟨c, rfl, hk⟩ := hc
  show Sd K _ _ _ [.val (.int c), .un, .un, .un] _
  obtain ⟨x, hx⟩ : ∃ x, x = c % 10 ^ (40 : Int).toNat := ⟨_, rfl⟩
  have x0 : 0 ≤ x := by rw [hx]; exact Int.emod_nonneg c (by decide)
  refine sd_seq (sd_set (d := .int x) (by rw [hx]; exact v_emod (ev_var rfl) (by walk_at "ev") (by decide)) ?_)
  clear hx
  obtain ⟨i, hi⟩ : ∃ i, i = x / 6 % 10 ^ (13 : Int).toNat := ⟨_, rfl⟩
  have e13 : (10 : Int) ^ (13 : Int).toNat = 10000000000000 := by decide
  have n13 : (10 : Nat) ^ 13 = 10000000000000 := by decide
  have i0 : 0 ≤ i := by rw [hi, e13]; omega
  have ib : i.natAbs < 10 ^ 13 := by rw [hi, e13, n13]; omega
  have il : i.natAbs.log2 < 1920 := by
    have : i.natAbs.log2 < 44 := by
      by_cases z : i.natAbs = 0
      · rw [z]
        decide
      · exact (Nat.log2_lt z).mpr (by rw [n13] at ib; omega)
    omega
  have wl := str_len i ib
  have wa : asc (Str.ofString (toString i)) := num_asc i0
  refine sd_seq (sd_set (d := .str (Str.ofString (toString i))) (v_strI (by rw [hi]; exact v_emod (v_div (ev_var rfl) ev_int (by decide) (by decide)) (by walk_at "ev") (by decide)) il) ?_)
  generalize Str.ofString (toString i) = w at wl wa
  refine sd_seq (sd_set (d := .int (x % 6)) (v_emod (ev_var rfl) ev_int (by decide)) ?_)
  have et : ∀ (j : Int) (ρ : En), ρ[2]? = some (.val (.int (x % 6))) → EvT K (tTest (tOp (rEqD K) (tVar 2) (tC (V.int j)))) ρ (PyData.eqv (.int (x % 6)) (.int j)) := fun j ρ h => et_test (ev_eqD (ev_var h) ev_int rfl rfl)
  refine sd_seq (sd_ifJ (fun ρ => ∃ w : Str, ρ = [.val (.int x), .val (.str w), .val (.int (x % 6)), .un] ∧ w.length ≤ 24 ∧ asc w) (et 1 _ rfl) (fun _ => ?_) (fun _ => sd_next ⟨_, rfl, by omega, wa⟩) ?_)
  · obtain ⟨y, hy, yl, ya⟩ := strs_pick ["0", "+", "-", " ", "00"] (by decide +kernel) (k := x / 6 % 5) (by omega) (by show x / 6 % 5 < 5; omega)
    exact sd_set (d := .str (y ++ w)) (a_catS (ev_ixSL (ds := (["0", "+", "-", " ", "00"] : List Str).map PyData.str) (EvF.l (evf_lst (ea_cons ev_str (ea_cons ev_str (ea_cons ev_str (ea_cons ev_str (ea_cons ev_str ea_nil))))) (by exact Nat.le_of_ble_eq_true rfl))) (by walk_at "ev") hy) (ev_var rfl) (by omega)) ⟨_, rfl, by rw [cat_len]; omega, asc_cat ya wa⟩
  clear wl wa
  rintro ρ ⟨w, rfl, wl, wa⟩
  refine sd_seq (sd_ifJ (fun ρ => ∃ w : Str, ρ = [.val (.int x), .val (.str w), .val (.int (x % 6)), .un] ∧ w.length ≤ 34 ∧ asc w) (et 2 _ rfl) (fun _ => ?_) (fun _ => sd_next ⟨_, rfl, by omega, wa⟩) ?_)
  · obtain ⟨y, hy, yl, ya⟩ := strs_pick [" ", "\n", "_", ".0"] (by decide +kernel) (k := x / 6 % 4) (by omega) (by show x / 6 % 4 < 4; omega)
    exact sd_set (d := .str (w ++ y)) (a_catS (ev_var rfl) (ev_ixSL (ds := ([" ", "\n", "_", ".0"] : List Str).map PyData.str) (EvF.l (evf_lst (ea_cons ev_str (ea_cons ev_str (ea_cons ev_str (ea_cons ev_str ea_nil)))) (by exact Nat.le_of_ble_eq_true rfl))) (by walk_at "ev") hy) (by omega)) ⟨_, rfl, by rw [cat_len]; omega, asc_cat wa ya⟩
  clear wl wa
  rintro ρ ⟨w, rfl, wl, wa⟩
  refine sd_seq (sd_ifJ (fun ρ => ∃ (w : Str) (z3 : Sl), ρ = [.val (.int x), .val (.str w), .val (.int (x % 6)), z3] ∧ w.length ≤ 69 ∧ asc w) (et 3 _ rfl) (fun _ => ?_) (fun _ => sd_next ⟨_, _, rfl, by omega, wa⟩) ?_)
  · obtain ⟨a, ha⟩ : ∃ a, a = x / 99 % ((w.length : Int) + 1) := ⟨_, rfl⟩
    refine sd_seq (sd_set (d := .int a) (by
      rw [ha]
      exact v_emod (v_div (ev_var rfl) ev_int (by decide) (by decide)) (a_add (a_lenS (ev_var rfl) (by omega)) ev_int) (by omega)) ?_)
    obtain ⟨s, hs, sb⟩ := sign_pick "_+- .,eO'x" (by decide +kernel) (k := x / 6 % 10) (by omega) (by
      rw [show ("_+- .,eO'x" : Str).cps.toList.length = 10 by decide +kernel]
      omega)
    have l1 := cutS_length w none (some a)
    have l2 := cutS_length w (some a) none
    have ls : (⟨#[s]⟩ : Str).length = 1 := rfl
    exact sd_set (d := .str (cutS w none (some a) ++ ⟨#[s]⟩ ++ cutS w (some a) none)) (a_catS (a_catS (a_slS (ev_var rfl) (by omega) o_none (o_some (ev_var rfl))) (ev_ixS ev_str (by walk_at "ev") (by decide +kernel) hs) (by rw [ls]; omega)) (a_slS (ev_var rfl) (by omega) (o_some (ev_var rfl)) o_none) (by rw [cat_len, ls]; omega)) ⟨_, _, rfl, by rw [cat_len, cat_len, ls]; omega, asc_cat (asc_cat (asc_cut wa _ _) (asc_one sb)) (asc_cut wa _ _)⟩
  clear wl wa
  rintro ρ ⟨w, z3, rfl, wl, wa⟩
  refine sd_seq (sd_ifJ (fun ρ => ∃ (w : Str), ρ = [.val (.int x), .val (.str w), .val (.int (x % 6)), z3] ∧ w.length ≤ 69 ∧ asc w) (et 4 _ rfl) (fun _ => ?_) (fun _ => sd_next ⟨_, rfl, wl, wa⟩) ?_)
  · obtain ⟨y, hy, yl, ya⟩ := strs_pick ["", "-", "0", "-0", "00", "+1", "1_0", "-1", " ", "a"] (by decide +kernel) (k := x / 6 % 10) (by omega) (by show x / 6 % 10 < 10; omega)
    exact sd_set (d := .str y) (ev_ixSL (ds := (["", "-", "0", "-0", "00", "+1", "1_0", "-1", " ", "a"] : List Str).map PyData.str) (EvF.l (evf_lst (ea_cons ev_str (ea_cons ev_str (ea_cons ev_str (ea_cons ev_str (ea_cons ev_str (ea_cons ev_str (ea_cons ev_str (ea_cons ev_str (ea_cons ev_str (ea_cons ev_str ea_nil)))))))))) (by exact Nat.le_of_ble_eq_true rfl))) (by walk_at "ev") hy) ⟨_, rfl, by omega, ya⟩
  clear wl wa
  rintro ρ ⟨w, rfl, wl, wa⟩
  refine sd_seq (sd_ifJ (fun ρ => ∃ (w : Str), ρ = [.val (.int x), .val (.str w), .val (.int (x % 6)), z3] ∧ w.length ≤ 69 ∧ asc w) (et 5 _ rfl) (fun _ => ?_) (fun _ => sd_next ⟨_, rfl, wl, wa⟩) ?_)
  · have e8 : ("8" : Str) = ⟨#[56]⟩ := by decide +kernel
    refine sd_set (d := .str ⟨(List.replicate (11 + x / 6 % 5).toNat #[56]).foldl (· ++ ·) #[]⟩) (v_mulS (by rw [← e8]; exact ev_str) (by walk_at "ev") (by omega) (by omega)) ⟨_, rfl, by rw [rep_len]; omega, asc_rep (by decide) _⟩
  clear wl wa
  rintro ρ ⟨w, rfl, wl, wa⟩
  exact sd_ret (ev_var rfl) (hk w (by omega) wa)
theorem sc__law_due : FnScope ["word", "sign"] ["word"] (defScope s__law_due) := ⟨rfl, rfl, rfl, by decide +kernel, rfl, by decide +kernel, by decide +kernel⟩
theorem ok__law_due (T : Txt K mg A) (hN : base.NoSeer) (hT : P.given.tree = none)  : Ok P w K mg base 1 "_law_due" ["word"] (spc K cNumDue) := by
  refine T.f__law_due.ok sc__law_due _ (fun ds k hc => by obtain ⟨_, rfl, _⟩ := hc; rfl) (fun cdv A' outer s H vs Q E hr h => ⟨_, (pss_cons (ps_if (PW.pt (pw_or (pt_not (pt_chain o_le o_le pe_int (pe_callB (c_lenA (K := K)) (by rfl) T.z_len (by decide +kernel) (pa_cons (pv 0) pa_nil)) pe_int)) (pw_or1 (PW.pt (pw_and (pt_cmpR (o_eq (K := K) hr.units) (pe_ix (i_any (K := K)) (pv 0) pe_int (fun _ _ => rfl)) pe_str (nomark _)) (pw_and1 (pt_cmpR o_gt (pe_callB (c_lenA (K := K)) (by rfl) T.z_len (by decide +kernel) (pa_cons (pv 0) pa_nil)) pe_int (nomark _)))))))) (pss_one (ps_ret pe_non)) pss_nil)
  (pss_cons (ps_for (passes_of rfl) rfl (pi_str (pv 0)) (pg_name (i := 1) sc__law_due.nd rfl (by first | exact Or.inl rfl | exact Or.inr rfl)) (pss_one (ps_if (pt_cmpR o_notInS (pv 1) pe_str (by rfl)) (pss_one (ps_ret pe_non)) pss_nil)))
  (pss_one (ps_ret (pe_callTy (c_intS) (by rfl) T.z_int (by decide +kernel) (pa_cons (pv 0) pa_nil)))))), body_of h fun ds k hc => ?_⟩)
  obtain ⟨w, rfl, hl, ha, hk⟩ := hc
  show Sd K _ _ _ [.val (.str w), .un] _
  have hn : okNum w = false → k.rt .none := fun z => by
    unfold numD at hk
    rw [z] at hk
    exact hk
  have hv : okNum w = true → k.rt (.int (numOf w)) := fun z => by
    unfold numD at hk
    rw [z] at hk
    exact hk
  have hll : w.cps.toList.length = w.length := Array.length_toList
  have hok : okNum w = ((decide (1 ≤ w.length) && decide (w.length ≤ 13)) && (!(decide (w.cps.toList.head? = some 48) && decide (1 < w.length)) && digB w)) := rfl
  by_cases hA : (decide (1 ≤ w.length) && decide (w.length ≤ 13)) = true
  · have hA' := hA
    rw [Bool.and_eq_true, decide_eq_true_eq, decide_eq_true_eq] at hA'
    obtain ⟨c, cs, hcs⟩ : ∃ c cs, w.cps.toList = c :: cs := by
      cases e : w.cps.toList with
      | nil => rw [e] at hll; simp at hll; omega
      | cons c cs => exact ⟨c, cs, rfl⟩
    have hat : atI w.cps.toList 0 = some c := atI_nat (j := 0) (by rw [hcs]; rfl)
    have hc128 := ha c (by rw [hcs]; exact List.mem_cons_self)
    have hhd : decide (w.cps.toList.head? = some 48) = decide (c = 48) := by
      rw [hcs]
      exact decide_eq_decide.mpr ⟨fun h => Option.some.inj h, fun h => by rw [h]; rfl⟩
    rw [hA, Bool.true_and, hhd] at hok
    have chA : (decide ((1 : Int) ≤ (w.length : Int)) && decide ((w.length : Int) ≤ 13)) = true := by
      rw [decide_eq_true (by omega), decide_eq_true (by omega)]
      rfl
    refine sd_seq (sd_ifS (b := (!(decide ((1 : Int) ≤ (w.length : Int)) && decide ((w.length : Int) ≤ 13))) || (decide (c = 48) && decide ((1 : Int) < (w.length : Int)))) (et_or (et_not (et_test (ev_chainI (f := fun i j => decide (i ≤ j)) (g := fun i j => decide (i ≤ j)) ev_int (a_lenS (ev_var rfl) (by omega)) fun _ => ev_int))) fun _ => et_and (EvT.is (et_test (ev_eqS (a := ⟨#[c]⟩) (b := "0") (ev_ixS (ev_var rfl) ev_int (by omega) hat) ev_str (one_shaped c hc128) (by decide +kernel))) (one_eq c 48)) fun _ => et_test (v_gt (a_lenS (ev_var rfl) (by omega)) ev_int)) (fun z => ?_) (fun z => sd_next ?_))
    · rw [chA, Bool.not_true, Bool.false_or, Bool.and_eq_true, decide_eq_true_eq, decide_eq_true_eq] at z
      refine sd_ret (d := .none) ev_non (hn ?_)
      rw [hok, decide_eq_true z.1, decide_eq_true (show 1 < w.length by omega)]
      rfl
    · rw [chA, Bool.not_true, Bool.false_or] at z
      have z2 : (decide (c = 48) && decide (1 < w.length)) = false := by
        rw [← z]
        congr 1
        exact decide_eq_decide.mpr (by omega)
      rw [z2, Bool.not_false, Bool.true_and] at hok
      refine sd_seq (sd_for (ds := signsD w) (fun i ρ => (∃ z1 : Sl, ρ = [.val (.str w), z1]) ∧ ∀ (j : Nat) (c : Nat), j < i → w.cps.toList[j]? = some c → (decide (48 ≤ c) && decide (c ≤ 57)) = true) (id_str (ev_var rfl)) ⟨⟨_, rfl⟩, fun j c h => absurd h (Nat.not_lt_zero _)⟩ ?_ ?_)
      · rintro i d ρ' hd ⟨⟨z1, rfl⟩, hi0⟩
        obtain ⟨c', hc', rfl⟩ : ∃ c', w.cps.toList[i]? = some c' ∧ d = .str ⟨#[c']⟩ := by
          unfold signsD at hd
          rw [List.getElem?_map] at hd
          cases e : w.cps.toList[i]? with
          | none => rw [e] at hd; cases hd
          | some c' => rw [e] at hd; exact ⟨c', rfl, (Option.some.inj hd).symm⟩
        refine ⟨_, gd_name, ?_⟩
        refine sd_ifS (b := !(decide (48 ≤ c') && decide (c' ≤ 57))) (EvT.is (et_test (v_niS (ev_var rfl) ev_str)) (by rw [dig_in])) (fun z => ?_) (fun z => sd_next ⟨⟨_, rfl⟩, fun j c2 h1 h2 => ?_⟩)
        · refine sd_ret (d := .none) ev_non (hn ?_)
          rw [hok, Bool.eq_false_iff]
          intro y
          have := List.all_eq_true.mp y c' (List.mem_of_getElem? hc')
          rw [this] at z
          cases z
        · by_cases e : j < i
          · exact hi0 j c2 e h2
          · obtain rfl : j = i := by omega
            rw [hc'] at h2
            cases h2
            simpa using z
      · rintro ρ ⟨⟨z1, rfl⟩, hi0⟩
        have hlen : (signsD w).length = w.cps.toList.length := by unfold signsD; rw [List.length_map]
        rw [hlen] at hi0
        have hdig : digB w = true := List.all_eq_true.mpr fun c hc => by
          obtain ⟨j, hj⟩ := List.mem_iff_getElem?.mp hc
          exact hi0 j c (getElem?_lt hj) hj
        rw [hdig] at hok
        exact sd_ret (v_intS (ev_var rfl) (num_text hok) (by omega)) (hv hok)
  · have hA' : (decide (1 ≤ w.length) && decide (w.length ≤ 13)) = false := Bool.eq_false_iff.mpr hA
    rw [hA', Bool.false_and] at hok
    have chA : (decide ((1 : Int) ≤ (w.length : Int)) && decide ((w.length : Int) ≤ 13)) = false := by
      rw [← hA']
      congr 1
      · exact decide_eq_decide.mpr (by omega)
      · exact decide_eq_decide.mpr (by omega)
    refine sd_seq (sd_ifS (b := true) (EvT.is (et_or (y := true) (et_not (et_test (ev_chainI (f := fun i j => decide (i ≤ j)) (g := fun i j => decide (i ≤ j)) ev_int (a_lenS (ev_var rfl) (by omega)) fun _ => ev_int))) fun z => by rw [chA] at z; cases z) (by rw [chA]; rfl)) (fun _ => sd_ret (d := .none) ev_non (hn hok)) (fun z => nomatch z))
theorem sc_law : FnScope ["script", "cell", "word", "found", "kept", "e", "due"] ["script"] (defScope s_law) := ⟨rfl, rfl, rfl, by decide +kernel, rfl, by decide +kernel, by decide +kernel⟩
theorem ok_law {f : Addr} {fd : FuncData} (F : Fun K "law" "law" s_law f fd) (T : Txt K mg A) (hN : base.NoSeer) (hT : P.given.tree = none) (fn__law_word : Ok P w K mg base 1 "_law_word" ["cell"] (spc K cWord)) (fn_number_in : Ok P w K mg base 1 "number_in" ["word"] (spc K (cNumIn A.NoText))) (fn__law_due : Ok P w K mg base 1 "_law_due" ["word"] (spc K cNumDue)) (fn__law_whole : Ok P w K mg base 1 "_law_whole" ["found"] (spc K cWhole)) : FnOk P w K mg base CX0 2 f fd ["script"] (spc K cLaw) := by
  refine FnAt.law F sc_law _ cLaw_len (fun cdv A' outer s H vs Q E hr h => ⟨_, (pss_cons (ps_for PassesOwn.never rfl (w_seq (K := K) (pe_op (o_plus (K := K)) (pe_lst (pa_cons pe_int pa_nil)) (pe_slice (s_any (K := K)) (pv 0) po_none (po_some pe_int)))) (pg_name (i := 1) sc_law.nd rfl (by first | exact Or.inl rfl | exact Or.inr rfl)) (pss_cons (ps_set (i := 2) sc_law.nd rfl (by first | exact Or.inl rfl | exact Or.inr rfl) (pe_fn fn__law_word (hr.mono (by decide)) takes0 rfl (pa_cons (pv 1) pa_nil)))
  (pss_cons (ps_set (i := 3) sc_law.nd rfl (by first | exact Or.inl rfl | exact Or.inr rfl) pe_non)
  (pss_cons (ps_set (i := 4) sc_law.nd rfl (by first | exact Or.inl rfl | exact Or.inr rfl) (pe_lst pa_nil))
  (pss_cons (t_tryAs (K := K) (i := 5) rfl rfl sc_law.nd rfl rfl ⟨rfl, by decide, .inl T.c_CatchError.g⟩ takes0
    (fun W pn xe tk po => (pss_one (ps_set (i := 3) sc_law.nd rfl (by first | exact Or.inl rfl | exact Or.inr rfl) (pe_fn fn_number_in (hr.mono (by decide)) tk rfl (pa_cons (pv 2) pa_nil)))))
    (fun a oe cls d pn hz hf => (pss_cons (ps_set (i := 4) sc_law.nd rfl (by first | exact Or.inl rfl | exact Or.inr rfl) (pe_lst (pa_cons (pe_callB (c_isX (K := K) hz hf) (by rfl) T.z_isinstance (by decide +kernel) (pa_cons (pv 5) (pa_cons (pe_glob (v := .ref A.NoText) rfl T.c_NoText.g rfl) pa_nil))) (pa_cons (pe_callB (c_isX (K := K) hz hf) (by rfl) T.z_isinstance (by decide +kernel) (pa_cons (pv 5) (pa_cons (pe_bltn (v := .ty "ValueError") (by rfl) T.z_ValueError (by decide +kernel) rfl) pa_nil))) pa_nil))))
  (pss_cons (ps_expr (b_m (K := K) PySem.F.plainAttrs_list PySem.F.slot_list_append PySem.F.type_list_append mt_append (pv 4) (pa_cons (pe_not (pe_callB (c_isX (K := K) hz hf) (by rfl) T.z_isinstance (by decide +kernel) (pa_cons (pv 5) (pa_cons (pe_tup (pa_cons (pe_glob (v := .ref A.BadCatch) rfl T.c_BadCatch.g rfl) (pa_cons (pe_glob (v := .ref A.BadClaim) rfl T.c_BadClaim.g rfl) (pa_cons (pe_glob (v := .ref A.BadLine) rfl T.c_BadLine.g rfl) (pa_cons (pe_glob (v := .ref A.BadWay) rfl T.c_BadWay.g rfl) (pa_cons (pe_glob (v := .ref A.BadWeights) rfl T.c_BadWeights.g rfl) (pa_cons (pe_glob (v := .ref A.NoBoat) rfl T.c_NoBoat.g rfl) (pa_cons (pe_glob (v := .ref A.NoFraction) rfl T.c_NoFraction.g rfl) pa_nil)))))))) pa_nil)))) pa_nil)))
  (pss_one (ps_if (pt_val (pe_callB (c_isX (K := K) hz hf) (by rfl) T.z_isinstance (by decide +kernel) (pa_cons (pv 5) (pa_cons (pe_tup (pa_cons (pe_glob (v := .ref A.Outside) rfl T.c_Outside.g rfl) (pa_cons (pe_glob (v := .ref A.TooMany) rfl T.c_TooMany.g rfl) (pa_cons (pe_glob (v := .ref A.Unlike) rfl T.c_Unlike.g rfl) pa_nil)))) pa_nil)))) (pss_one (ps_set (i := 4) sc_law.nd rfl (by first | exact Or.inl rfl | exact Or.inr rfl) (pe_lst (pa_cons pe_bl pa_nil)))) pss_nil))))))
  (pss_cons (ps_set (i := 6) sc_law.nd rfl (by first | exact Or.inl rfl | exact Or.inr rfl) (pe_fn fn__law_due (hr.mono (by decide)) takes0 rfl (pa_cons (pv 2) pa_nil)))
  (pss_cons (ps_if (PW.pt (pw_and (pt_cmpR o_isN (pv 6) pe_non (nomark _)) (pw_and1 (pt_cmpR (o_ne (K := K) hr.units) (pv 4) (pe_lst (pa_cons pe_bl (pa_cons pe_bl (pa_cons pe_bl pa_nil)))) (nomark _))))) (pss_one (ps_ret pe_bl)) pss_nil)
  (pss_one (ps_if (PW.pt (pw_and (pt_cmpR o_notN (pv 6) pe_non (nomark _)) (pw_and1 (PW.pt (pw_or (pt_cmpR (o_ne (K := K) hr.units) (pv 4) (pe_lst pa_nil) (nomark _)) (pw_or (pt_not (pt_val (pe_fn fn__law_whole (hr.mono (by decide)) takes0 rfl (pa_cons (pv 3) pa_nil)))) (pw_or1 (pt_cmpR (o_ne (K := K) hr.units) (pv 3) (pv 6) (nomark _))))))))) (pss_one (ps_ret pe_bl)) pss_nil)))))))))
  (pss_one (ps_ret pe_bl))), body_law h fun ds k hc => ?_⟩)
  obtain ⟨ns, rfl, h63, hbits, hk⟩ := hc
  show Sd K _ _ _ [.val (.list (ns.map PyData.int)), .un, .un, .un, .un, .un, .un] _
  have cutN : ∀ n : Nat, cutD (ns.map PyData.int) none (some (n : Int)) = (ns.take n).map PyData.int := fun n => by rw [cut_to, List.map_take]
  have hcl := List.length_take_le 60 ns
  obtain ⟨ms, hms⟩ : ∃ ms, ms = [0] ++ ns.take 60 := ⟨_, rfl⟩
  refine sd_seq (sd_for (ds := ms.map PyData.int) (fun i ρ => ∃ z1 z2 z3 z4 z6 : Sl, ρ = [.val (.list (ns.map PyData.int)), z1, z2, z3, z4, .un, z6]) (by
    rw [hms, List.map_append, ← cutN]
    exact w_list (EvF.v (a_cat (EvF.m (evf_lst (ea_cons ev_int ea_nil) (by exact Nat.le_of_ble_eq_true rfl))) (EvF.m (a_slL (ev_var rfl).l o_none (o_some ev_int))) (by rw [cutN]; show 1 + ((ns.take 60).map PyData.int).length ≤ 100000; rw [List.length_map]; omega)))) ⟨_, _, _, _, _, rfl⟩ ?_ ?_)
  · rintro i d ρ' hd ⟨z1, z2, z3, z4, z6, rfl⟩
    obtain ⟨c, hc, rfl⟩ : ∃ c : Int, ms[i]? = some c ∧ d = .int c := by
      rw [List.getElem?_map] at hd
      cases e : ms[i]? with
      | none => rw [e] at hd; cases hd
      | some c => rw [e] at hd; exact ⟨c, rfl, (Option.some.inj hd).symm⟩
    refine ⟨_, gd_name, ?_⟩
    refine sd_seq (sd_setP isWord (ea_cons (ev_var rfl) ea_nil) word_v ?_)
    rintro _ ⟨w, rfl, wl, wa⟩
    refine sd_seq (sd_set ev_non ?_)
    refine sd_seq (sd_own (ds := []) (by walk_at "ef") ?_)
    have sE : SeqAt.shaped (.list []) = true := by decide +kernel
    have sT : SeqAt.shaped (.list [.bool true, .bool true, .bool true]) = true := by decide +kernel
    cases hok : okNum w with
    | true =>
      have hd : numD w = .int (numOf w) := by
        unfold numD
        rw [hok]
        rfl
      refine sd_seq (sd_tryAs fun W' => ?_)
      refine sd_set (d := .int (numOf w)) (ev_call (ea_cons (ev_var rfl) ea_nil) (numIn_v wl wa hok)) ?_
      refine sd_freeze 4 rfl ?_
      refine sd_seq (sd_set (d := .int (numOf w)) (by rw [← hd]; exact ev_call (ea_cons (ev_var rfl) ea_nil) (numDue_v wl wa)) ?_)
      refine sd_seq (sd_ifS (b := false && true) (et_and (x := false) (EvT.is (et_test (v_isN (ev_var rfl))) rfl) fun z => nomatch z) (fun z => nomatch z) (fun _ => sd_next ?_))
      exact sd_ifS (b := false) (EvT.is (et_and (et_test (v_notN (ev_var rfl))) fun _ => et_or (et_test (ev_neD (d1 := .list []) (d2 := .list []) (ev_var rfl) (EvF.v (evf_lst ea_nil (by exact Nat.le_of_ble_eq_true rfl))) sE sE)) fun _ => et_or (et_not (et_B (ev_call (ea_cons (ev_var rfl) ea_nil) whole_v))) fun _ => et_test (ev_neD (d1 := .int (numOf w)) (d2 := .int (numOf w)) (ev_var rfl) (ev_var rfl) rfl rfl)) (by
        rw [eqv_int, decide_eq_true rfl]
        rfl)) (fun z => nomatch z) (fun _ => sd_next ⟨_, _, _, _, _, rfl⟩)
    | false =>
      have hd : numD w = .none := by
        unfold numD
        rw [hok]
        rfl
      refine sd_seq (sd_tryAs fun W' => ?_)
      refine sd_setx (evx_call (ea_cons (ev_var rfl) ea_nil) (numIn_x wl wa hok)) ⟨true, T.h_NoText_CatchError, fun _ a => ?_, fun e => nomatch e⟩
      refine sd_seq (sd_own (ds := [.bool true, .bool true]) (evf_lst (ea_cons (a_isX rfl T.c_NoText.e (fun u h => h) T.y_NoText_NoText rfl) (ea_cons (a_isX rfl T.c_NoText.e (fun u h => h) T.y_NoText_ValueError rfl) ea_nil)) (by exact Nat.le_of_ble_eq_true rfl)) ?_)
      refine sd_seq (sd_append (d := .bool (!false)) rfl (ev_notV (a_isXT (cs := [A.BadCatch, A.BadClaim, A.BadLine, A.BadWay, A.BadWeights, A.NoBoat, A.NoFraction]) rfl rfl T.c_NoText.e (kitAny_no fun c m => by
        simp only [List.map_cons, List.map_nil, List.mem_cons, List.not_mem_nil, or_false] at m
        rcases m with rfl | rfl | rfl | rfl | rfl | rfl | rfl
        · exact T.n_NoText_BadCatch
        · exact T.n_NoText_BadClaim
        · exact T.n_NoText_BadLine
        · exact T.n_NoText_BadWay
        · exact T.n_NoText_BadWeights
        · exact T.n_NoText_NoBoat
        · exact T.n_NoText_NoFraction) (Nat.le_of_ble_eq_true rfl) rfl)) (by exact Nat.le_of_ble_eq_true rfl) ?_)
      refine sd_ifS (b := false) (et_B (a_isXT (cs := [A.Outside, A.TooMany, A.Unlike]) rfl rfl T.c_NoText.e (kitAny_no fun c m => by
        simp only [List.map_cons, List.map_nil, List.mem_cons, List.not_mem_nil, or_false] at m
        rcases m with rfl | rfl | rfl
        · exact T.n_NoText_Outside
        · exact T.n_NoText_TooMany
        · exact T.n_NoText_Unlike) (Nat.le_of_ble_eq_true rfl) rfl)) (fun z => nomatch z) (fun _ => sd_next ?_)
      refine sd_freeze 4 rfl ?_
      refine sd_seq (sd_set (d := .none) (by rw [← hd]; exact ev_call (ea_cons (ev_var rfl) ea_nil) (numDue_v wl wa)) ?_)
      refine sd_seq (sd_ifS (b := false) (EvT.is (et_and (et_test (v_isN (ev_var rfl))) fun _ => et_test (ev_neD (d1 := .list [.bool true, .bool true, .bool true]) (d2 := .list [.bool true, .bool true, .bool true]) (ev_var rfl) (EvF.v (evf_lst (ea_cons ev_bl (ea_cons ev_bl (ea_cons ev_bl ea_nil))) (by exact Nat.le_of_ble_eq_true rfl))) sT sT)) (by decide +kernel)) (fun z => nomatch z) (fun _ => sd_next ?_))
      exact sd_ifS (b := false && true) (et_and (x := false) (EvT.is (et_test (v_notN (ev_var rfl))) rfl) fun z => nomatch z) (fun z => nomatch z) (fun _ => sd_next ⟨_, _, _, _, _, rfl⟩)
  · rintro ρ ⟨z1, z2, z3, z4, z6, rfl⟩
    exact sd_ret ev_bl hk
end
theorem all_mk {l : PySem.W.OpenLaw} {w : World} {K : Frag} {h : Heap} {mg : Str → Option Value} {f0 f1 f2 f3 f4 C0 C1 C2 C3 C4 C5 C6 C7 C8 C9 C10 C11 fa : Addr} {od0 an0 od1 an1 od2 an2 od3 an3 od4 an4 : Option Addr} {sl0 sl1 sl2 sl3 sl4 : Array (Option Value)} {oc0 kV0 dc0 pm0 cd0 ct0 oc1 kV1 dc1 pm1 cd1 ct1 oc2 kV2 dc2 pm2 cd2 ct2 oc3 kV3 dc3 pm3 cd3 ct3 oc4 kV4 dc4 pm4 cd4 ct4 : Value} {t_FIGURES t_MOST_FIGURES : Tok}  (X : K.In h) (G : h.Ns mainGlobals mg) (hfa : mg "law" = some (.ref fa)) (hT : l.prog.given.tree = none)
    (a0 : PySem.W.nsIn K mainGlobals "number_in" = some (some (.ref f0)))
    (l0 : K.lookup f0 = some ⟨oc0, od0, .func (PySem.W.fnOf "number_in" "number_in" (defArgs s_number_in) (defBody s_number_in) (defScope s_number_in) .none kV0 dc0 pm0 an0 cd0 ct0), sl0⟩)
    (c0 : PySem.W.codeIn K cd0 "number_in" = true)
    (k0 : PySem.W.keepIn K (.ref f0) = true)
    (a1 : PySem.W.nsIn K mainGlobals "_law_whole" = some (some (.ref f1)))
    (l1 : K.lookup f1 = some ⟨oc1, od1, .func (PySem.W.fnOf "_law_whole" "_law_whole" (defArgs s__law_whole) (defBody s__law_whole) (defScope s__law_whole) .none kV1 dc1 pm1 an1 cd1 ct1), sl1⟩)
    (c1 : PySem.W.codeIn K cd1 "_law_whole" = true)
    (k1 : PySem.W.keepIn K (.ref f1) = true)
    (a2 : PySem.W.nsIn K mainGlobals "_law_word" = some (some (.ref f2)))
    (l2 : K.lookup f2 = some ⟨oc2, od2, .func (PySem.W.fnOf "_law_word" "_law_word" (defArgs s__law_word) (defBody s__law_word) (defScope s__law_word) .none kV2 dc2 pm2 an2 cd2 ct2), sl2⟩)
    (c2 : PySem.W.codeIn K cd2 "_law_word" = true)
    (k2 : PySem.W.keepIn K (.ref f2) = true)
    (a3 : PySem.W.nsIn K mainGlobals "_law_due" = some (some (.ref f3)))
    (l3 : K.lookup f3 = some ⟨oc3, od3, .func (PySem.W.fnOf "_law_due" "_law_due" (defArgs s__law_due) (defBody s__law_due) (defScope s__law_due) .none kV3 dc3 pm3 an3 cd3 ct3), sl3⟩)
    (c3 : PySem.W.codeIn K cd3 "_law_due" = true)
    (k3 : PySem.W.keepIn K (.ref f3) = true)
    (a4 : PySem.W.nsIn K mainGlobals "law" = some (some (.ref f4)))
    (l4 : K.lookup f4 = some ⟨oc4, od4, .func (PySem.W.fnOf "law" "law" (defArgs s_law) (defBody s_law) (defScope s_law) .none kV4 dc4 pm4 an4 cd4 ct4), sl4⟩)
    (c4 : PySem.W.codeIn K cd4 "law" = true)
    (k4 : PySem.W.keepIn K (.ref f4) = true)
    (aC0 : PySem.W.nsIn K mainGlobals "CatchError" = some (some (.ref C0)))
    (xC0 : PySem.W.excIn K C0 [.type "ValueError", .type "Exception", .type "BaseException", .type "object"] "ValueError.__new__" = true)
    (kC0 : PySem.W.keepIn K (.ref C0) = true)
    (bC0 : PySem.W.subIn K (.ref C0) (.type "BaseException") = some true)
    (tC0 : PySem.W.typeIn K (.ref C0) = some (.type "type"))
    (hg0 : PySem.W.findIn K (.ref C0) "__getattribute__" = some (some (.builtin "BaseException.__getattribute__")))
    (hk0 : PySem.W.findIn K (.ref C0) "__getattr__" = some none)
    (hd0 : PySem.W.hasDictIn K C0 = true)
    (ha0 : PySem.W.findIn K (.ref C0) "__class__" = some (some (.builtin "object.__class__")))
    (hm0 : PySem.W.mroIn K C0 (.type "object") = some true)
    (aC1 : PySem.W.nsIn K mainGlobals "NoFraction" = some (some (.ref C1)))
    (xC1 : PySem.W.excIn K C1 [.type "ValueError", .type "Exception", .type "BaseException", .type "object"] "ValueError.__new__" = true)
    (kC1 : PySem.W.keepIn K (.ref C1) = true)
    (bC1 : PySem.W.subIn K (.ref C1) (.type "BaseException") = some true)
    (tC1 : PySem.W.typeIn K (.ref C1) = some (.type "type"))
    (hg1 : PySem.W.findIn K (.ref C1) "__getattribute__" = some (some (.builtin "BaseException.__getattribute__")))
    (hk1 : PySem.W.findIn K (.ref C1) "__getattr__" = some none)
    (hd1 : PySem.W.hasDictIn K C1 = true)
    (ha1 : PySem.W.findIn K (.ref C1) "__class__" = some (some (.builtin "object.__class__")))
    (hm1 : PySem.W.mroIn K C1 (.type "object") = some true)
    (aC2 : PySem.W.nsIn K mainGlobals "BadLine" = some (some (.ref C2)))
    (xC2 : PySem.W.excIn K C2 [.type "ValueError", .type "Exception", .type "BaseException", .type "object"] "ValueError.__new__" = true)
    (kC2 : PySem.W.keepIn K (.ref C2) = true)
    (bC2 : PySem.W.subIn K (.ref C2) (.type "BaseException") = some true)
    (tC2 : PySem.W.typeIn K (.ref C2) = some (.type "type"))
    (hg2 : PySem.W.findIn K (.ref C2) "__getattribute__" = some (some (.builtin "BaseException.__getattribute__")))
    (hk2 : PySem.W.findIn K (.ref C2) "__getattr__" = some none)
    (hd2 : PySem.W.hasDictIn K C2 = true)
    (ha2 : PySem.W.findIn K (.ref C2) "__class__" = some (some (.builtin "object.__class__")))
    (hm2 : PySem.W.mroIn K C2 (.type "object") = some true)
    (aC3 : PySem.W.nsIn K mainGlobals "Outside" = some (some (.ref C3)))
    (xC3 : PySem.W.excIn K C3 [.type "ValueError", .type "Exception", .type "BaseException", .type "object"] "ValueError.__new__" = true)
    (kC3 : PySem.W.keepIn K (.ref C3) = true)
    (bC3 : PySem.W.subIn K (.ref C3) (.type "BaseException") = some true)
    (tC3 : PySem.W.typeIn K (.ref C3) = some (.type "type"))
    (hg3 : PySem.W.findIn K (.ref C3) "__getattribute__" = some (some (.builtin "BaseException.__getattribute__")))
    (hk3 : PySem.W.findIn K (.ref C3) "__getattr__" = some none)
    (hd3 : PySem.W.hasDictIn K C3 = true)
    (ha3 : PySem.W.findIn K (.ref C3) "__class__" = some (some (.builtin "object.__class__")))
    (hm3 : PySem.W.mroIn K C3 (.type "object") = some true)
    (aC4 : PySem.W.nsIn K mainGlobals "Unlike" = some (some (.ref C4)))
    (xC4 : PySem.W.excIn K C4 [.type "ValueError", .type "Exception", .type "BaseException", .type "object"] "ValueError.__new__" = true)
    (kC4 : PySem.W.keepIn K (.ref C4) = true)
    (bC4 : PySem.W.subIn K (.ref C4) (.type "BaseException") = some true)
    (tC4 : PySem.W.typeIn K (.ref C4) = some (.type "type"))
    (hg4 : PySem.W.findIn K (.ref C4) "__getattribute__" = some (some (.builtin "BaseException.__getattribute__")))
    (hk4 : PySem.W.findIn K (.ref C4) "__getattr__" = some none)
    (hd4 : PySem.W.hasDictIn K C4 = true)
    (ha4 : PySem.W.findIn K (.ref C4) "__class__" = some (some (.builtin "object.__class__")))
    (hm4 : PySem.W.mroIn K C4 (.type "object") = some true)
    (aC5 : PySem.W.nsIn K mainGlobals "BadWay" = some (some (.ref C5)))
    (xC5 : PySem.W.excIn K C5 [.type "ValueError", .type "Exception", .type "BaseException", .type "object"] "ValueError.__new__" = true)
    (kC5 : PySem.W.keepIn K (.ref C5) = true)
    (bC5 : PySem.W.subIn K (.ref C5) (.type "BaseException") = some true)
    (tC5 : PySem.W.typeIn K (.ref C5) = some (.type "type"))
    (hg5 : PySem.W.findIn K (.ref C5) "__getattribute__" = some (some (.builtin "BaseException.__getattribute__")))
    (hk5 : PySem.W.findIn K (.ref C5) "__getattr__" = some none)
    (hd5 : PySem.W.hasDictIn K C5 = true)
    (ha5 : PySem.W.findIn K (.ref C5) "__class__" = some (some (.builtin "object.__class__")))
    (hm5 : PySem.W.mroIn K C5 (.type "object") = some true)
    (aC6 : PySem.W.nsIn K mainGlobals "BadWeights" = some (some (.ref C6)))
    (xC6 : PySem.W.excIn K C6 [.type "ValueError", .type "Exception", .type "BaseException", .type "object"] "ValueError.__new__" = true)
    (kC6 : PySem.W.keepIn K (.ref C6) = true)
    (bC6 : PySem.W.subIn K (.ref C6) (.type "BaseException") = some true)
    (tC6 : PySem.W.typeIn K (.ref C6) = some (.type "type"))
    (hg6 : PySem.W.findIn K (.ref C6) "__getattribute__" = some (some (.builtin "BaseException.__getattribute__")))
    (hk6 : PySem.W.findIn K (.ref C6) "__getattr__" = some none)
    (hd6 : PySem.W.hasDictIn K C6 = true)
    (ha6 : PySem.W.findIn K (.ref C6) "__class__" = some (some (.builtin "object.__class__")))
    (hm6 : PySem.W.mroIn K C6 (.type "object") = some true)
    (aC7 : PySem.W.nsIn K mainGlobals "BadClaim" = some (some (.ref C7)))
    (xC7 : PySem.W.excIn K C7 [.type "ValueError", .type "Exception", .type "BaseException", .type "object"] "ValueError.__new__" = true)
    (kC7 : PySem.W.keepIn K (.ref C7) = true)
    (bC7 : PySem.W.subIn K (.ref C7) (.type "BaseException") = some true)
    (tC7 : PySem.W.typeIn K (.ref C7) = some (.type "type"))
    (hg7 : PySem.W.findIn K (.ref C7) "__getattribute__" = some (some (.builtin "BaseException.__getattribute__")))
    (hk7 : PySem.W.findIn K (.ref C7) "__getattr__" = some none)
    (hd7 : PySem.W.hasDictIn K C7 = true)
    (ha7 : PySem.W.findIn K (.ref C7) "__class__" = some (some (.builtin "object.__class__")))
    (hm7 : PySem.W.mroIn K C7 (.type "object") = some true)
    (aC8 : PySem.W.nsIn K mainGlobals "TooMany" = some (some (.ref C8)))
    (xC8 : PySem.W.excIn K C8 [.type "ValueError", .type "Exception", .type "BaseException", .type "object"] "ValueError.__new__" = true)
    (kC8 : PySem.W.keepIn K (.ref C8) = true)
    (bC8 : PySem.W.subIn K (.ref C8) (.type "BaseException") = some true)
    (tC8 : PySem.W.typeIn K (.ref C8) = some (.type "type"))
    (hg8 : PySem.W.findIn K (.ref C8) "__getattribute__" = some (some (.builtin "BaseException.__getattribute__")))
    (hk8 : PySem.W.findIn K (.ref C8) "__getattr__" = some none)
    (hd8 : PySem.W.hasDictIn K C8 = true)
    (ha8 : PySem.W.findIn K (.ref C8) "__class__" = some (some (.builtin "object.__class__")))
    (hm8 : PySem.W.mroIn K C8 (.type "object") = some true)
    (aC9 : PySem.W.nsIn K mainGlobals "NoBoat" = some (some (.ref C9)))
    (xC9 : PySem.W.excIn K C9 [.type "ValueError", .type "Exception", .type "BaseException", .type "object"] "ValueError.__new__" = true)
    (kC9 : PySem.W.keepIn K (.ref C9) = true)
    (bC9 : PySem.W.subIn K (.ref C9) (.type "BaseException") = some true)
    (tC9 : PySem.W.typeIn K (.ref C9) = some (.type "type"))
    (hg9 : PySem.W.findIn K (.ref C9) "__getattribute__" = some (some (.builtin "BaseException.__getattribute__")))
    (hk9 : PySem.W.findIn K (.ref C9) "__getattr__" = some none)
    (hd9 : PySem.W.hasDictIn K C9 = true)
    (ha9 : PySem.W.findIn K (.ref C9) "__class__" = some (some (.builtin "object.__class__")))
    (hm9 : PySem.W.mroIn K C9 (.type "object") = some true)
    (aC10 : PySem.W.nsIn K mainGlobals "BadCatch" = some (some (.ref C10)))
    (xC10 : PySem.W.excIn K C10 [.type "ValueError", .type "Exception", .type "BaseException", .type "object"] "ValueError.__new__" = true)
    (kC10 : PySem.W.keepIn K (.ref C10) = true)
    (bC10 : PySem.W.subIn K (.ref C10) (.type "BaseException") = some true)
    (tC10 : PySem.W.typeIn K (.ref C10) = some (.type "type"))
    (hg10 : PySem.W.findIn K (.ref C10) "__getattribute__" = some (some (.builtin "BaseException.__getattribute__")))
    (hk10 : PySem.W.findIn K (.ref C10) "__getattr__" = some none)
    (hd10 : PySem.W.hasDictIn K C10 = true)
    (ha10 : PySem.W.findIn K (.ref C10) "__class__" = some (some (.builtin "object.__class__")))
    (hm10 : PySem.W.mroIn K C10 (.type "object") = some true)
    (aC11 : PySem.W.nsIn K mainGlobals "NoText" = some (some (.ref C11)))
    (xC11 : PySem.W.excIn K C11 [.type "ValueError", .type "Exception", .type "BaseException", .type "object"] "ValueError.__new__" = true)
    (kC11 : PySem.W.keepIn K (.ref C11) = true)
    (bC11 : PySem.W.subIn K (.ref C11) (.type "BaseException") = some true)
    (tC11 : PySem.W.typeIn K (.ref C11) = some (.type "type"))
    (hg11 : PySem.W.findIn K (.ref C11) "__getattribute__" = some (some (.builtin "BaseException.__getattribute__")))
    (hk11 : PySem.W.findIn K (.ref C11) "__getattr__" = some none)
    (hd11 : PySem.W.hasDictIn K C11 = true)
    (ha11 : PySem.W.findIn K (.ref C11) "__class__" = some (some (.builtin "object.__class__")))
    (hm11 : PySem.W.mroIn K C11 (.type "object") = some true)
    (hn : PySem.W.specialIn K (.builtin "object.__class__") "__get__" = some (some (.builtin "getset_descriptor.__get__")))
    (ht : PySem.W.takesIn K (.builtin "object.__class__") = some true)
    (h_NoText_CatchError : PySem.W.exmOne K (.ref C11) (.ref C0) = some true)
    (y_NoText_NoText : PySem.W.kitOne K (.ref C11) (.ref C11) = some true)
    (y_NoText_ValueError : PySem.W.kitOne K (.ref C11) (.type "ValueError") = some true)
    (n_NoText_BadCatch : PySem.W.kitOne K (.ref C11) (.ref C10) = some false)
    (n_NoText_BadClaim : PySem.W.kitOne K (.ref C11) (.ref C7) = some false)
    (n_NoText_BadLine : PySem.W.kitOne K (.ref C11) (.ref C2) = some false)
    (n_NoText_BadWay : PySem.W.kitOne K (.ref C11) (.ref C5) = some false)
    (n_NoText_BadWeights : PySem.W.kitOne K (.ref C11) (.ref C6) = some false)
    (n_NoText_NoBoat : PySem.W.kitOne K (.ref C11) (.ref C9) = some false)
    (n_NoText_NoFraction : PySem.W.kitOne K (.ref C11) (.ref C1) = some false)
    (n_NoText_Outside : PySem.W.kitOne K (.ref C11) (.ref C3) = some false)
    (n_NoText_TooMany : PySem.W.kitOne K (.ref C11) (.ref C8) = some false)
    (n_NoText_Unlike : PySem.W.kitOne K (.ref C11) (.ref C4) = some false)
    (mk_FIGURES : PySem.W.nsIn K mainGlobals "FIGURES" = some (some (.str "0123456789" t_FIGURES)))
    (mk_MOST_FIGURES : PySem.W.nsIn K mainGlobals "MOST_FIGURES" = some (some (.int 13 t_MOST_FIGURES)))
    (z_ValueError : PySem.W.nsIn K mainGlobals "ValueError" = some none)
    (z_bool : PySem.W.nsIn K mainGlobals "bool" = some none)
    (z_int : PySem.W.nsIn K mainGlobals "int" = some none)
    (z_isinstance : PySem.W.nsIn K mainGlobals "isinstance" = some none)
    (z_len : PySem.W.nsIn K mainGlobals "len" = some none)
    (z_str : PySem.W.nsIn K mainGlobals "str" = some none) :
    ∃ fd : FuncData, (∀ (s : Shared) (v : Value), BindsTo s fd ⟨[v], []⟩ [("script", v)]) ∧ ∀ base : Heap, K.In base → base.Ns mainGlobals mg → base.NoSeer → FnOk l.prog w K mg base CX0 2 fa fd ["script"] (spc K cLaw) := by
  have e := hfa.symm.trans (PySem.W.mg_of X G a4)
  cases e
  have F0 := fun_mk (st := s_number_in) l0 c0 k0
  have b0 := F0.binds (ps := ["word"]) fun _ _ _ _ _ _ us hl => match us, hl with | [_], _ => rfl
  have F1 := fun_mk (st := s__law_whole) l1 c1 k1
  have b1 := F1.binds (ps := ["found"]) fun _ _ _ _ _ _ us hl => match us, hl with | [_], _ => rfl
  have F2 := fun_mk (st := s__law_word) l2 c2 k2
  have b2 := F2.binds (ps := ["cell"]) fun _ _ _ _ _ _ us hl => match us, hl with | [_], _ => rfl
  have F3 := fun_mk (st := s__law_due) l3 c3 k3
  have b3 := F3.binds (ps := ["word"]) fun _ _ _ _ _ _ us hl => match us, hl with | [_], _ => rfl
  have F4 := fun_mk (st := s_law) l4 c4 k4
  have b4 := F4.binds (ps := ["script"]) fun _ _ _ _ _ _ us hl => match us, hl with | [_], _ => rfl
  have T : Txt K mg (⟨f0, f1, f2, f3, f4, C0, C1, C2, C3, C4, C5, C6, C7, C8, C9, C10, C11⟩ : Ad) := { f_number_in := ⟨PySem.W.mg_of X G a0, _, F0, b0⟩, f__law_whole := ⟨PySem.W.mg_of X G a1, _, F1, b1⟩, f__law_word := ⟨PySem.W.mg_of X G a2, _, F2, b2⟩, f__law_due := ⟨PySem.W.mg_of X G a3, _, F3, b3⟩, f_law := ⟨PySem.W.mg_of X G a4, _, F4, b4⟩, c_CatchError := ⟨PySem.W.mg_of X G aC0, xC0, kC0, bC0, tC0, ⟨hg0, hk0, bC0, hd0, ha0, hn, ht, hm0⟩⟩, c_NoFraction := ⟨PySem.W.mg_of X G aC1, xC1, kC1, bC1, tC1, ⟨hg1, hk1, bC1, hd1, ha1, hn, ht, hm1⟩⟩, c_BadLine := ⟨PySem.W.mg_of X G aC2, xC2, kC2, bC2, tC2, ⟨hg2, hk2, bC2, hd2, ha2, hn, ht, hm2⟩⟩, c_Outside := ⟨PySem.W.mg_of X G aC3, xC3, kC3, bC3, tC3, ⟨hg3, hk3, bC3, hd3, ha3, hn, ht, hm3⟩⟩, c_Unlike := ⟨PySem.W.mg_of X G aC4, xC4, kC4, bC4, tC4, ⟨hg4, hk4, bC4, hd4, ha4, hn, ht, hm4⟩⟩, c_BadWay := ⟨PySem.W.mg_of X G aC5, xC5, kC5, bC5, tC5, ⟨hg5, hk5, bC5, hd5, ha5, hn, ht, hm5⟩⟩, c_BadWeights := ⟨PySem.W.mg_of X G aC6, xC6, kC6, bC6, tC6, ⟨hg6, hk6, bC6, hd6, ha6, hn, ht, hm6⟩⟩, c_BadClaim := ⟨PySem.W.mg_of X G aC7, xC7, kC7, bC7, tC7, ⟨hg7, hk7, bC7, hd7, ha7, hn, ht, hm7⟩⟩, c_TooMany := ⟨PySem.W.mg_of X G aC8, xC8, kC8, bC8, tC8, ⟨hg8, hk8, bC8, hd8, ha8, hn, ht, hm8⟩⟩, c_NoBoat := ⟨PySem.W.mg_of X G aC9, xC9, kC9, bC9, tC9, ⟨hg9, hk9, bC9, hd9, ha9, hn, ht, hm9⟩⟩, c_BadCatch := ⟨PySem.W.mg_of X G aC10, xC10, kC10, bC10, tC10, ⟨hg10, hk10, bC10, hd10, ha10, hn, ht, hm10⟩⟩, c_NoText := ⟨PySem.W.mg_of X G aC11, xC11, kC11, bC11, tC11, ⟨hg11, hk11, bC11, hd11, ha11, hn, ht, hm11⟩⟩, h_NoText_CatchError := h_NoText_CatchError, y_NoText_NoText := y_NoText_NoText, y_NoText_ValueError := y_NoText_ValueError, n_NoText_BadCatch := n_NoText_BadCatch, n_NoText_BadClaim := n_NoText_BadClaim, n_NoText_BadLine := n_NoText_BadLine, n_NoText_BadWay := n_NoText_BadWay, n_NoText_BadWeights := n_NoText_BadWeights, n_NoText_NoBoat := n_NoText_NoBoat, n_NoText_NoFraction := n_NoText_NoFraction, n_NoText_Outside := n_NoText_Outside, n_NoText_TooMany := n_NoText_TooMany, n_NoText_Unlike := n_NoText_Unlike, m_FIGURES := ⟨_, PySem.W.mg_of X G mk_FIGURES⟩, m_MOST_FIGURES := ⟨_, PySem.W.mg_of X G mk_MOST_FIGURES⟩, z_ValueError := PySem.W.mg_none_of X G z_ValueError, z_bool := PySem.W.mg_none_of X G z_bool, z_int := PySem.W.mg_none_of X G z_int, z_isinstance := PySem.W.mg_none_of X G z_isinstance, z_len := PySem.W.mg_none_of X G z_len, z_str := PySem.W.mg_none_of X G z_str }
  refine ⟨PySem.W.fnOf "law" "law" (defArgs s_law) (defBody s_law) (defScope s_law) .none kV4 dc4 pm4 an4 cd4 ct4, fun s v => .of_eq rfl, fun base _ _ hN => ?_⟩
  have fn_number_in := ok_number_in (P := l.prog) (w := w) (base := base) T hN hT 
  have fn__law_whole := ok__law_whole (P := l.prog) (w := w) (base := base) T hN hT 
  have fn__law_word := ok__law_word (P := l.prog) (w := w) (base := base) T hN hT 
  have fn__law_due := ok__law_due (P := l.prog) (w := w) (base := base) T hN hT 
  exact ok_law F4 T hN hT fn__law_word fn_number_in fn__law_due fn__law_whole
theorem walk {l : PySem.W.OpenLaw} {q : Program} {loose : List Str} {XP : (Str → Option Value) → Heap → Prop} {YP : World → Heap → Prop} {d : DefRec} {K : Params → Frag} (hn : l.most = some 63) (hdf : d.params.defaults = []) (hq : importsNone q = true)
    (hY : ∀ (w : World) (h : Heap), YP w h → (K w.params).In h)
    (F : ∀ (w : World) (mg : Str → Option Value) (fa : Addr) (h : Heap), (K w.params).In h → h.Ns mainGlobals mg → mg d.name = some (.ref fa) →
      ∃ fd : FuncData, (∀ (s : Shared) (u : Value), BindsTo s fd ⟨[u], []⟩ [("script", u)]) ∧ ∀ base : Heap, (K w.params).In base → base.Ns mainGlobals mg → base.NoSeer → FnOk l.prog w (K w.params) mg base CX0 2 fa fd ["script"] (spc (K w.params) cLaw)) :
    PySem.W.WalkO q loose XP YP l.row.toRowW d [] (fun f vs => PySem.call f vs) :=
  Pu.walk_ofS (n := 63) (k := 2) (x := "script") (CX := fun _ => CX0) (sp := fun w => spc (K w.params) cLaw) hn (by decide) hdf ⟨rfl, by decide, by decide⟩ hq hY F
    (fun w H a ns hl hb _ hS => ⟨H, [.list (ns.map PyData.int)], kv (.bool true), Same.refl H, .cons (.lst hS (dpa_of_ints ns)) .nil, ⟨ns, rfl, hl, hb, rfl⟩,
      fun e v R' H' h g dv => by cases (show e = _ from h); cases dv; rfl, fun _ _ _ _ _ h => h.elim, fun _ _ _ h => h.elim⟩) fun _ _ _ _ _ z => z
end Law
open PySem PySem.W PyProof.Rows
set_option maxRecDepth 100000 in
set_option maxHeartbeats 0 in
theorem PySem.Challenge.cw_catchhall_k56_numbers_read_holds : PySem.Challenge.rw_catchhall_k56_numbers_read.Holds := by
  w_on; o_law; k_head; (case hw => w_witness2)
  k_fill
  refine Law.walk (l := PySem.Challenge.rw_catchhall_k56_numbers_read) rfl rfl (by decide +kernel) (fun w h Y => PySem.W.kIn_of Y) ?F
  case F =>
    intro w mg fa h KX G hmg
    refine' Law.all_mk KX G hmg rfl ?a0 ?l0 ?c0 ?k0 ?a1 ?l1 ?c1 ?k1 ?a2 ?l2 ?c2 ?k2 ?a3 ?l3 ?c3 ?k3 ?a4 ?l4 ?c4 ?k4 ?aC0 ?xC0 ?kC0 ?bC0 ?tC0 ?hg0 ?hk0 ?hd0 ?ha0 ?hm0 ?aC1 ?xC1 ?kC1 ?bC1 ?tC1 ?hg1 ?hk1 ?hd1 ?ha1 ?hm1 ?aC2 ?xC2 ?kC2 ?bC2 ?tC2 ?hg2 ?hk2 ?hd2 ?ha2 ?hm2 ?aC3 ?xC3 ?kC3 ?bC3 ?tC3 ?hg3 ?hk3 ?hd3 ?ha3 ?hm3 ?aC4 ?xC4 ?kC4 ?bC4 ?tC4 ?hg4 ?hk4 ?hd4 ?ha4 ?hm4 ?aC5 ?xC5 ?kC5 ?bC5 ?tC5 ?hg5 ?hk5 ?hd5 ?ha5 ?hm5 ?aC6 ?xC6 ?kC6 ?bC6 ?tC6 ?hg6 ?hk6 ?hd6 ?ha6 ?hm6 ?aC7 ?xC7 ?kC7 ?bC7 ?tC7 ?hg7 ?hk7 ?hd7 ?ha7 ?hm7 ?aC8 ?xC8 ?kC8 ?bC8 ?tC8 ?hg8 ?hk8 ?hd8 ?ha8 ?hm8 ?aC9 ?xC9 ?kC9 ?bC9 ?tC9 ?hg9 ?hk9 ?hd9 ?ha9 ?hm9 ?aC10 ?xC10 ?kC10 ?bC10 ?tC10 ?hg10 ?hk10 ?hd10 ?ha10 ?hm10 ?aC11 ?xC11 ?kC11 ?bC11 ?tC11 ?hg11 ?hk11 ?hd11 ?ha11 ?hm11 ?hn ?ht ?h_NoText_CatchError ?y_NoText_NoText ?y_NoText_ValueError ?n_NoText_BadCatch ?n_NoText_BadClaim ?n_NoText_BadLine ?n_NoText_BadWay ?n_NoText_BadWeights ?n_NoText_NoBoat ?n_NoText_NoFraction ?n_NoText_Outside ?n_NoText_TooMany ?n_NoText_Unlike ?mk_FIGURES ?mk_MOST_FIGURES ?z_ValueError ?z_bool ?z_int ?z_isinstance ?z_len ?z_str
    (case a0 => k_is)
    (case l0 => k_is)
    (case c0 => k_is)
    (case k0 => k_is)
    (case a1 => k_is)
    (case l1 => k_is)
    (case c1 => k_is)
    (case k1 => k_is)
    (case a2 => k_is)
    (case l2 => k_is)
    (case c2 => k_is)
    (case k2 => k_is)
    (case a3 => k_is)
    (case l3 => k_is)
    (case c3 => k_is)
    (case k3 => k_is)
    (case a4 => k_is)
    (case l4 => k_is)
    (case c4 => k_is)
    (case k4 => k_is)
    (case aC0 => k_is)
    (case xC0 => k_exc)
    (case kC0 => k_is)
    (case bC0 => k_is)
    (case tC0 => k_is)
    (case hg0 => k_is)
    (case hk0 => k_is)
    (case hd0 => k_is)
    (case ha0 => k_is)
    (case hm0 => k_is)
    (case aC1 => k_is)
    (case xC1 => k_exc)
    (case kC1 => k_is)
    (case bC1 => k_is)
    (case tC1 => k_is)
    (case hg1 => k_is)
    (case hk1 => k_is)
    (case hd1 => k_is)
    (case ha1 => k_is)
    (case hm1 => k_is)
    (case aC2 => k_is)
    (case xC2 => k_exc)
    (case kC2 => k_is)
    (case bC2 => k_is)
    (case tC2 => k_is)
    (case hg2 => k_is)
    (case hk2 => k_is)
    (case hd2 => k_is)
    (case ha2 => k_is)
    (case hm2 => k_is)
    (case aC3 => k_is)
    (case xC3 => k_exc)
    (case kC3 => k_is)
    (case bC3 => k_is)
    (case tC3 => k_is)
    (case hg3 => k_is)
    (case hk3 => k_is)
    (case hd3 => k_is)
    (case ha3 => k_is)
    (case hm3 => k_is)
    (case aC4 => k_is)
    (case xC4 => k_exc)
    (case kC4 => k_is)
    (case bC4 => k_is)
    (case tC4 => k_is)
    (case hg4 => k_is)
    (case hk4 => k_is)
    (case hd4 => k_is)
    (case ha4 => k_is)
    (case hm4 => k_is)
    (case aC5 => k_is)
    (case xC5 => k_exc)
    (case kC5 => k_is)
    (case bC5 => k_is)
    (case tC5 => k_is)
    (case hg5 => k_is)
    (case hk5 => k_is)
    (case hd5 => k_is)
    (case ha5 => k_is)
    (case hm5 => k_is)
    (case aC6 => k_is)
    (case xC6 => k_exc)
    (case kC6 => k_is)
    (case bC6 => k_is)
    (case tC6 => k_is)
    (case hg6 => k_is)
    (case hk6 => k_is)
    (case hd6 => k_is)
    (case ha6 => k_is)
    (case hm6 => k_is)
    (case aC7 => k_is)
    (case xC7 => k_exc)
    (case kC7 => k_is)
    (case bC7 => k_is)
    (case tC7 => k_is)
    (case hg7 => k_is)
    (case hk7 => k_is)
    (case hd7 => k_is)
    (case ha7 => k_is)
    (case hm7 => k_is)
    (case aC8 => k_is)
    (case xC8 => k_exc)
    (case kC8 => k_is)
    (case bC8 => k_is)
    (case tC8 => k_is)
    (case hg8 => k_is)
    (case hk8 => k_is)
    (case hd8 => k_is)
    (case ha8 => k_is)
    (case hm8 => k_is)
    (case aC9 => k_is)
    (case xC9 => k_exc)
    (case kC9 => k_is)
    (case bC9 => k_is)
    (case tC9 => k_is)
    (case hg9 => k_is)
    (case hk9 => k_is)
    (case hd9 => k_is)
    (case ha9 => k_is)
    (case hm9 => k_is)
    (case aC10 => k_is)
    (case xC10 => k_exc)
    (case kC10 => k_is)
    (case bC10 => k_is)
    (case tC10 => k_is)
    (case hg10 => k_is)
    (case hk10 => k_is)
    (case hd10 => k_is)
    (case ha10 => k_is)
    (case hm10 => k_is)
    (case aC11 => k_is)
    (case xC11 => k_exc)
    (case kC11 => k_is)
    (case bC11 => k_is)
    (case tC11 => k_is)
    (case hg11 => k_is)
    (case hk11 => k_is)
    (case hd11 => k_is)
    (case ha11 => k_is)
    (case hm11 => k_is)
    (case hn => k_is)
    (case ht => k_is)
    (case h_NoText_CatchError => first | k_is | rfl | decide +kernel)
    (case y_NoText_NoText => first | k_is | rfl | decide +kernel)
    (case y_NoText_ValueError => first | k_is | rfl | decide +kernel)
    (case n_NoText_BadCatch => first | k_is | rfl | decide +kernel)
    (case n_NoText_BadClaim => first | k_is | rfl | decide +kernel)
    (case n_NoText_BadLine => first | k_is | rfl | decide +kernel)
    (case n_NoText_BadWay => first | k_is | rfl | decide +kernel)
    (case n_NoText_BadWeights => first | k_is | rfl | decide +kernel)
    (case n_NoText_NoBoat => first | k_is | rfl | decide +kernel)
    (case n_NoText_NoFraction => first | k_is | rfl | decide +kernel)
    (case n_NoText_Outside => first | k_is | rfl | decide +kernel)
    (case n_NoText_TooMany => first | k_is | rfl | decide +kernel)
    (case n_NoText_Unlike => first | k_is | rfl | decide +kernel)
    (case mk_FIGURES => k_is)
    (case mk_MOST_FIGURES => k_is)
    (case z_ValueError => k_is)
    (case z_bool => k_is)
    (case z_int => k_is)
    (case z_isinstance => k_is)
    (case z_len => k_is)
    (case z_str => k_is)
