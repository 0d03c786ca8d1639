import PyProof.Rows.All
import Wide.All
import OpenK.AllK
import Wide.FinOn
import HandS.ForMost
import HandS.Wide
import KE.SortData
import HandS.Walk
import HandS.TryOnly
import PySem.Challenge.RW_branchdepth_k25_whole_sides_put_together
set_option Elab.async false
set_option linter.all false
set_option maxRecDepth 100000
set_option maxHeartbeats 4000000
namespace Bd
/-! ### sizes by places -/
abbrev Sz := List (Option Rat)
/-- the size at a place, none beyond -/
def at' (a : Sz) (k : Nat) : Option Rat := a.getD k none

theorem at_lt {a : Sz} {k : Nat} {z : Rat} (h : at' a k = some z) : k < a.length := by
  unfold at' at h
  rw [List.getD_eq_getElem?_getD] at h
  by_cases q : k < a.length
  · exact q
  · rw [List.getElem?_eq_none (by omega)] at h
    cases h
theorem at_get {a : Sz} {k : Nat} {o : Option Rat} (h : a[k]? = some o) : at' a k = o := by
  unfold at'
  rw [List.getD_eq_getElem?_getD, h]
  rfl
theorem at_ext {a b : Sz} (hl : a.length = b.length) (h : ∀ k, at' a k = at' b k) : a = b := by
  apply List.ext_getElem hl
  intro k h1 h2
  have e1 := at_get (List.getElem?_eq_getElem h1)
  have e2 := at_get (List.getElem?_eq_getElem h2)
  rw [← e1, ← e2]
  exact h k

/-! ### rationals -/
theorem mul_le_r {a b c : Rat} (h : a ≤ b) (hc : 0 ≤ c) : a * c ≤ b * c := Rat.mul_le_mul_of_nonneg_right h hc
theorem mul_lt_r {a b c : Rat} (h : a < b) (hc : 0 < c) : a * c < b * c := Rat.mul_lt_mul_of_pos_right h hc
theorem le_of_mul {a b c : Rat} (h : a * c ≤ b * c) (hc : 0 < c) : a ≤ b := Rat.le_of_mul_le_mul_right h hc
theorem lt_of_mul {a b c : Rat} (h : a * c < b * c) (hc : 0 < c) : a < b := Rat.lt_of_mul_lt_mul_right h (Rat.le_of_lt hc)
theorem cast_lt {a b : Nat} (h : a < b) : (0 : Rat) < (b : Rat) - (a : Rat) := by
  have := Rat.natCast_lt_natCast.mpr h
  grind
theorem cast_le {a b : Nat} (h : a ≤ b) : (0 : Rat) ≤ (b : Rat) - (a : Rat) := by
  have := Rat.natCast_le_natCast.mpr h
  grind

/-! ### least and greatest place of the least value over a slope -/
structure Ext (a : Sz) (σ : Rat) (u v : Nat) : Prop where
  le : u ≤ v
  ex : ∃ x y, at' a u = some x ∧ at' a v = some y ∧ y - x = σ * ((v : Rat) - u) ∧
    ∀ k z, at' a k = some z → x + σ * ((k : Rat) - u) ≤ z ∧ (k < u ∨ v < k → x + σ * ((k : Rat) - u) < z)

theorem Ext.uniq {a : Sz} {σ : Rat} {u v u' v' : Nat} (h : Ext a σ u v) (h' : Ext a σ u' v') : u = u' ∧ v = v' := by
  obtain ⟨l, x, y, e1, e2, e3, q⟩ := h
  obtain ⟨l', x', y', e1', e2', e3', q'⟩ := h'
  have a1 := q _ _ e1'
  have a2 := q _ _ e2'
  have b1 := q' _ _ e1
  have b2 := q' _ _ e2
  have c1 : ¬ (u' < u ∨ v < u') := fun z => by
    have := a1.2 z
    have := b1.1
    grind
  have c2 : ¬ (v' < u ∨ v < v') := fun z => by
    have := a2.2 z
    have := b1.1
    grind
  have c3 : ¬ (u < u' ∨ v' < u) := fun z => by
    have := b1.2 z
    have := a1.1
    grind
  have c4 : ¬ (v < u' ∨ v' < v) := fun z => by
    have := b2.2 z
    have := a1.1
    grind
  omega

theorem ext_upto (a : Sz) (σ : Rat) : ∀ n : Nat, (∀ k, k < n → at' a k = none) ∨ ∃ u v x y, u ≤ v ∧ v < n ∧ at' a u = some x ∧ at' a v = some y ∧ y - x = σ * ((v : Rat) - u) ∧
    ∀ k z, k < n → at' a k = some z → x + σ * ((k : Rat) - u) ≤ z ∧ (k < u ∨ v < k → x + σ * ((k : Rat) - u) < z)
  | 0 => .inl fun k h => absurd h (Nat.not_lt_zero k)
  | n + 1 => by
    rcases ext_upto a σ n with h | ⟨u, v, x, y, l, hv, e1, e2, e3, q⟩
    · cases e : at' a n with
      | none =>
        refine .inl fun k hk => ?_
        by_cases z : k = n
        · rw [z]; exact e
        · exact h k (by omega)
      | some z =>
        refine .inr ⟨n, n, z, z, Nat.le_refl _, Nat.lt_succ_self _, e, e, by grind, fun k w hk hw => ?_⟩
        by_cases hn : k = n
        · subst hn
          rw [e] at hw
          cases hw
          exact ⟨by grind, fun z => by omega⟩
        · rw [h k (by omega)] at hw
          cases hw
    · cases e : at' a n with
      | none =>
        refine .inr ⟨u, v, x, y, l, by omega, e1, e2, e3, fun k w hk hw => ?_⟩
        by_cases hn : k = n
        · subst hn
          rw [e] at hw
          cases hw
        · exact q k w (by omega) hw
      | some z =>
        by_cases c1 : z < x + σ * ((n : Rat) - u)
        · refine .inr ⟨n, n, z, z, Nat.le_refl _, Nat.lt_succ_self _, e, e, by grind, fun k w hk hw => ?_⟩
          by_cases hn : k = n
          · subst hn
            rw [e] at hw
            cases hw
            exact ⟨by grind, fun z => by omega⟩
          · have := (q k w (by omega) hw).1
            have : z + σ * ((k : Rat) - n) < w := by grind
            exact ⟨Rat.le_of_lt this, fun _ => this⟩
        · by_cases c2 : z = x + σ * ((n : Rat) - u)
          · refine .inr ⟨u, n, x, z, by omega, by omega, e1, e, by grind, fun k w hk hw => ?_⟩
            by_cases hn : k = n
            · subst hn
              rw [e] at hw
              cases hw
              exact ⟨by grind, fun z => by omega⟩
            · have := q k w (by omega) hw
              exact ⟨this.1, fun zz => this.2 (by omega)⟩
          · refine .inr ⟨u, v, x, y, l, by omega, e1, e2, e3, fun k w hk hw => ?_⟩
            by_cases hn : k = n
            · subst hn
              rw [e] at hw
              cases hw
              have : x + σ * ((k : Rat) - u) < z := by grind
              exact ⟨Rat.le_of_lt this, fun _ => this⟩
            · exact q k w (by omega) hw

theorem Ext.any {a : Sz} {j : Nat} {z : Rat} (h : at' a j = some z) (σ : Rat) : ∃ u v, Ext a σ u v := by
  rcases ext_upto a σ a.length with q | ⟨u, v, x, y, l, hv, e1, e2, e3, q⟩
  · rw [q j (at_lt h)] at h
    cases h
  · exact ⟨u, v, l, x, y, e1, e2, e3, fun k z e => q k z (at_lt e) e⟩

/-! ### put together -/
structure IsJoin (a b c : Sz) : Prop where
  len : c.length = a.length + b.length - 1
  from_ : ∀ k z, at' c k = some z → ∃ i j x y, i + j = k ∧ at' a i = some x ∧ at' b j = some y ∧ z = x + y
  to_ : ∀ i j x y, at' a i = some x → at' b j = some y → ∃ z, at' c (i + j) = some z ∧ z ≤ x + y

theorem IsJoin.ext {a b c : Sz} {σ : Rat} {u v u' v' : Nat} (J : IsJoin a b c) (h : Ext a σ u v) (h' : Ext b σ u' v') : Ext c σ (u + u') (v + v') := by
  obtain ⟨l, x, y, e1, e2, e3, q⟩ := h
  obtain ⟨l', x', y', e1', e2', e3', q'⟩ := h'
  have low : ∀ k z, at' c k = some z → (x + x') + σ * ((k : Rat) - ((u + u' : Nat) : Rat)) ≤ z ∧ (k < u + u' ∨ v + v' < k → (x + x') + σ * ((k : Rat) - ((u + u' : Nat) : Rat)) < z) := by
    intro k z hk
    obtain ⟨i, j, p, r, rfl, hi, hj, rfl⟩ := J.from_ k z hk
    have p1 := q i p hi
    have p2 := q' j r hj
    have e := Rat.natCast_add i j
    have e' := Rat.natCast_add u u'
    rw [e, e']
    refine ⟨by have := p1.1; have := p2.1; grind, fun w => ?_⟩
    by_cases hw : i < u ∨ v < i
    · have := p1.2 hw
      have := p2.1
      grind
    · have := p1.1
      have := p2.2 (by omega)
      grind
  obtain ⟨z1, hz1, lz1⟩ := J.to_ u u' x x' e1 e1'
  obtain ⟨z2, hz2, lz2⟩ := J.to_ v v' y y' e2 e2'
  have eu := Rat.natCast_add u u'
  have ev := Rat.natCast_add v v'
  have f1 := (low _ _ hz1).1
  have f2 := (low _ _ hz2).1
  have g1 : z1 = x + x' := by grind
  have g2 : z2 = y + y' := by grind
  subst g1 g2
  refine ⟨by omega, _, _, hz1, hz2, by grind, low⟩

/-- three put together: the same sizes -/
theorem IsJoin.assoc {a b c ab abc bc abc' : Sz} (ha : 0 < a.length) (hb : 0 < b.length) (hc : 0 < c.length) (J1 : IsJoin a b ab) (J2 : IsJoin ab c abc) (J3 : IsJoin b c bc) (J4 : IsJoin a bc abc') : abc = abc' := by
  have k1 : ∀ k z, at' abc k = some z → ∃ w, at' abc' k = some w ∧ w ≤ z := by
    intro k z h
    obtain ⟨i, j, x, y, rfl, h1, h2, rfl⟩ := J2.from_ k z h
    obtain ⟨i', j', x', y', rfl, h3, h4, rfl⟩ := J1.from_ i x h1
    obtain ⟨w, h5, l5⟩ := J3.to_ j' j y' y h4 h2
    obtain ⟨w', h6, l6⟩ := J4.to_ i' (j' + j) x' w h3 h5
    exact ⟨w', by rw [Nat.add_assoc]; exact h6, by grind⟩
  have k2 : ∀ k z, at' abc' k = some z → ∃ w, at' abc k = some w ∧ w ≤ z := by
    intro k z h
    obtain ⟨i, j, x, y, rfl, h1, h2, rfl⟩ := J4.from_ k z h
    obtain ⟨i', j', x', y', rfl, h3, h4, rfl⟩ := J3.from_ j y h2
    obtain ⟨w, h5, l5⟩ := J1.to_ i i' x x' h1 h3
    obtain ⟨w', h6, l6⟩ := J2.to_ (i + i') j' w y' h5 h4
    exact ⟨w', by rw [← Nat.add_assoc]; exact h6, by grind⟩
  refine at_ext (by rw [J2.len, J4.len, J1.len, J3.len]; omega) fun k => ?_
  cases e1 : at' abc k with
  | none =>
    cases e2 : at' abc' k with
    | none => rfl
    | some z =>
      obtain ⟨w, hw, _⟩ := k2 k z e2
      rw [e1] at hw
      cases hw
  | some z =>
    obtain ⟨w, hw, l⟩ := k1 k z e1
    obtain ⟨w', hw', l'⟩ := k2 k w hw
    rw [e1] at hw'
    cases hw'
    rw [hw, Rat.le_antisymm l l']

/-! ### where it begins -/
def Begin (a : Sz) (f : Nat) : Prop := (∃ z, at' a f = some z) ∧ ∀ k, k < f → at' a k = none
theorem Begin.uniq {a : Sz} {f g : Nat} (h : Begin a f) (h' : Begin a g) : f = g := by
  obtain ⟨⟨z, e⟩, q⟩ := h
  obtain ⟨⟨z', e'⟩, q'⟩ := h'
  have c1 : ¬ f < g := fun l => by rw [q' f l] at e; cases e
  have c2 : ¬ g < f := fun l => by rw [q g l] at e'; cases e'
  omega
theorem IsJoin.begin {a b c : Sz} {f g : Nat} (J : IsJoin a b c) (h : Begin a f) (h' : Begin b g) : Begin c (f + g) := by
  obtain ⟨⟨z, e⟩, q⟩ := h
  obtain ⟨⟨z', e'⟩, q'⟩ := h'
  obtain ⟨w, hw, _⟩ := J.to_ _ _ _ _ e e'
  refine ⟨⟨w, hw⟩, fun k hk => ?_⟩
  cases ek : at' c k with
  | none => rfl
  | some y =>
    obtain ⟨i, j, p, r, rfl, hi, hj, _⟩ := J.from_ k y ek
    by_cases hi' : i < f
    · rw [q i hi'] at hi
      cases hi
    · rw [q' j (by omega)] at hj
      cases hj

/-! ### the sides -/
abbrev Sd := Nat × Nat × Rat
def slope (x y : Rat) (s t : Nat) : Rat := (y - x) / ((t : Rat) - (s : Rat))
theorem slope_mul {x y : Rat} {s t : Nat} (h : s < t) : slope x y s t * ((t : Rat) - s) = y - x := by
  unfold slope
  exact Rat.div_mul_cancel (by have := cast_lt h; grind)

/-- the best corner from s among the places below n -/
def Best (a : Sz) (s n : Nat) (x : Rat) : Option (Nat × Rat) → Prop
  | none => ∀ t, s < t → t < n → at' a t = none
  | some (f, σ) => s < f ∧ f < n ∧ (∃ y, at' a f = some y ∧ y - x = σ * ((f : Rat) - s)) ∧
      ∀ t z, s < t → t < n → at' a t = some z → x + σ * ((t : Rat) - s) ≤ z ∧ (f < t → x + σ * ((t : Rat) - s) < z)
theorem Best.start {a : Sz} {s : Nat} {x : Rat} : Best a s (s + 1) x none := fun t h1 h2 => by omega
theorem Best.skip {a : Sz} {s n : Nat} {x : Rat} {r : Option (Nat × Rat)} (B : Best a s n x r) (e : at' a n = none) : Best a s (n + 1) x r := by
  match r, B with
  | none, B =>
    intro t h1 h2
    by_cases z : t = n
    · rw [z]; exact e
    · exact B t h1 (by omega)
  | some (f, σ), B =>
    obtain ⟨h1, h2, h3, h4⟩ := B
    refine ⟨h1, by omega, h3, fun t z h5 h6 h7 => ?_⟩
    by_cases q : t = n
    · rw [q, e] at h7; cases h7
    · exact h4 t z h5 (by omega) h7
/-- no corner so far, or one whose slope is not less than the new one: the new one is taken -/
theorem Best.take {a : Sz} {s n : Nat} {x z : Rat} {r : Option (Nat × Rat)} (hn : s < n) (B : Best a s n x r) (e : at' a n = some z) (hr : ∀ f σ, r = some (f, σ) → slope x z s n ≤ σ) : Best a s (n + 1) x (some (n, slope x z s n)) := by
  have hs : 0 < (n : Rat) - s := cast_lt hn
  have m := slope_mul (x := x) (y := z) hn
  refine ⟨hn, by omega, ⟨z, e, m.symm⟩, fun t w h5 h6 h7 => ?_⟩
  by_cases q : t = n
  · subst q
    rw [e] at h7
    cases h7
    exact ⟨by grind, fun z => by omega⟩
  · refine ⟨?_, fun z => by omega⟩
    match r, B with
    | none, B => rw [B t h5 (by omega)] at h7; cases h7
    | some (f, σ), B =>
      obtain ⟨h1, h2, h3, h4⟩ := B
      have l1 := (h4 t w h5 (by omega) h7).1
      have l2 := mul_le_r (hr f σ rfl) (cast_le (Nat.le_of_lt h5))
      grind
theorem Best.leave {a : Sz} {s n f : Nat} {x z σ : Rat} (hn : s < n) (B : Best a s n x (some (f, σ))) (e : at' a n = some z) (hr : σ < slope x z s n) : Best a s (n + 1) x (some (f, σ)) := by
  have hs : 0 < (n : Rat) - s := cast_lt hn
  have m := slope_mul (x := x) (y := z) hn
  obtain ⟨h1, h2, h3, h4⟩ := B
  refine ⟨h1, by omega, h3, fun t w h5 h6 h7 => ?_⟩
  by_cases q : t = n
  · subst q
    rw [e] at h7
    cases h7
    have l := mul_lt_r hr hs
    have : x + σ * ((t : Rat) - s) < z := by grind
    exact ⟨Rat.le_of_lt this, fun _ => this⟩
  · exact h4 t w h5 (by omega) h7

/-- the sides up to the place s -/
structure SInv (a : Sz) (L : List Sd) (s : Nat) : Prop where
  lt : s < a.length
  here : ∃ x, at' a s = some x
  side : ∀ u v σ, (u, v, σ) ∈ L → u < v ∧ v ≤ s ∧ Ext a σ u v
  up : L.Pairwise fun p q => p.2.2 < q.2.2
  cover : ∀ k z, at' a k = some z → k < s → ∃ u v σ, (u, v, σ) ∈ L ∧ u ≤ k ∧ k < v
  turn : ∀ k z t w x, at' a s = some x → at' a k = some z → at' a t = some w → k < s → s < t → (x - z) * ((t : Rat) - s) < (w - x) * ((s : Rat) - k)
  few : L.length ≤ s
theorem SInv.start {a : Sz} {f : Nat} (h : Begin a f) : SInv a [] f := by
  obtain ⟨⟨z, e⟩, q⟩ := h
  refine ⟨at_lt e, ⟨z, e⟩, fun u v σ h => (by cases h), .nil, fun k z h1 h2 => ?_, fun k z t w x _ h1 _ h2 _ => ?_, Nat.zero_le _⟩
  · rw [q k h2] at h1; cases h1
  · rw [q k h2] at h1; cases h1
theorem SInv.next {a : Sz} {L : List Sd} {s f : Nat} {x σ : Rat} (S : SInv a L s) (hx : at' a s = some x) (B : Best a s a.length x (some (f, σ))) : SInv a (L ++ [(s, f, σ)]) f := by
  obtain ⟨h1, h2, ⟨y, hy, m⟩, h4⟩ := B
  have hsf : 0 < (f : Rat) - s := cast_lt h1
  -- the new side lies below all
  have new : Ext a σ s f := by
    refine ⟨Nat.le_of_lt h1, x, y, hx, hy, m, fun k z hk => ?_⟩
    by_cases c : k < s
    · have t := S.turn k z f y x hx hk hy c h1
      have hks : 0 < (s : Rat) - k := cast_lt c
      rw [m] at t
      have : (x - z) * ((f : Rat) - s) < (σ * ((s : Rat) - k)) * ((f : Rat) - s) := by
        have e : (σ * ((s : Rat) - k)) * ((f : Rat) - s) = σ * ((f : Rat) - s) * ((s : Rat) - k) := by grind
        rw [e]
        exact t
      have := lt_of_mul this hsf
      have : x + σ * ((k : Rat) - s) < z := by grind
      exact ⟨Rat.le_of_lt this, fun _ => this⟩
    · by_cases c2 : k = s
      · subst c2
        rw [hx] at hk
        cases hk
        exact ⟨by grind, fun z => by omega⟩
      · have := h4 k z (by omega) (at_lt hk) hk
        exact ⟨this.1, fun z => this.2 (by omega)⟩
  have newer := new.ex
  obtain ⟨x', y', hx', hy', m', low⟩ := newer
  rw [hx] at hx'; cases hx'
  rw [hy] at hy'; cases hy'
  refine ⟨h2, ⟨y, hy⟩, fun u v τ hm => ?_, ?_, fun k z hk hkf => ?_, fun k z t w x2 hx2 hk ht hkf hft => ?_, ?_⟩
  · rcases List.mem_append.mp hm with hm | hm
    · obtain ⟨g1, g2, g3⟩ := S.side u v τ hm
      exact ⟨g1, by omega, g3⟩
    · rw [List.mem_singleton] at hm
      cases hm
      exact ⟨h1, Nat.le_refl _, new⟩
  · refine List.pairwise_append.mpr ⟨S.up, List.pairwise_singleton _ _, fun p hp q hq => ?_⟩
    rw [List.mem_singleton] at hq
    subst hq
    obtain ⟨u, v, τ⟩ := p
    obtain ⟨g1, g2, g3⟩ := S.side u v τ hp
    obtain ⟨p1, p2, hu, hv, _, q⟩ := g3.ex
    have b1 := (q s x hx).1
    have b2 := (low u p1 hu).2 (.inl (by omega))
    have hus : 0 < (s : Rat) - u := cast_lt (by omega)
    have : τ * ((s : Rat) - u) < σ * ((s : Rat) - u) := by grind
    exact lt_of_mul this hus
  · by_cases c : k < s
    · obtain ⟨u, v, τ, g1, g2, g3⟩ := S.cover k z hk c
      exact ⟨u, v, τ, List.mem_append_left _ g1, g2, g3⟩
    · exact ⟨s, f, σ, List.mem_append_right _ (List.mem_singleton.mpr rfl), by omega, hkf⟩
  · rw [hy] at hx2; cases hx2
    have b1 := (low t w ht).2 (.inr hft)
    have b2 := (low k z hk).1
    have hkf' : 0 < (f : Rat) - k := cast_lt hkf
    have hft' : 0 < (t : Rat) - f := cast_lt hft
    have c1 : σ * ((t : Rat) - f) < w - y := by grind
    have c2 : y - z ≤ σ * ((f : Rat) - k) := by grind
    have d1 := mul_lt_r c1 hkf'
    have d2 := mul_le_r c2 (Rat.le_of_lt hft')
    grind
  · rw [List.length_append]
    have := S.few
    show L.length + 1 ≤ f
    omega

/-- all sides are there -/
structure IsSides (a : Sz) (L : List Sd) : Prop where
  mem : ∀ u v σ, (u, v, σ) ∈ L ↔ u < v ∧ Ext a σ u v
  up : L.Pairwise fun p q => p.2.2 < q.2.2
  few : L.length ≤ a.length
theorem SInv.done {a : Sz} {L : List Sd} {s : Nat} (S : SInv a L s) (hs : a.length ≤ s + 1) : IsSides a L := by
  have hlt := S.lt
  refine ⟨fun u v σ => ⟨fun h => ⟨(S.side u v σ h).1, (S.side u v σ h).2.2⟩, fun ⟨huv, E⟩ => ?_⟩, S.up, by have := S.few; omega⟩
  obtain ⟨l, x, y, hx, hy, m, q⟩ := E
  have hv := at_lt hy
  obtain ⟨u', v', τ, hm, g1, g2⟩ := S.cover u x hx (by omega)
  obtain ⟨g3, g4, E'⟩ := S.side u' v' τ hm
  obtain ⟨l', x', y', hx', hy', m', q'⟩ := E'
  have a1 := (q v' y' hy').1
  have a2 := (q' u x hx).1
  have a3 := (q u' x' hx').1
  have a4 := (q' v y hy).1
  have p1 : 0 < (v' : Rat) - u := cast_lt g2
  have p2 : 0 < (v : Rat) - u' := cast_lt (by omega)
  have s1 : σ ≤ τ := by
    refine le_of_mul (c := (v' : Rat) - u) ?_ p1
    grind
  have s2 : τ ≤ σ := by
    refine le_of_mul (c := (v : Rat) - u') ?_ p2
    grind
  have s3 : σ = τ := Rat.le_antisymm s1 s2
  subst s3
  have e := Ext.uniq (⟨l, x, y, hx, hy, m, q⟩ : Ext a σ u v) ⟨l', x', y', hx', hy', m', q'⟩
  rw [e.1, e.2]
  exact hm

/-! ### lengths by slopes -/
abbrev Ln := Rat × Nat
def lengths (L : List Sd) : List Ln := L.map fun p => (p.2.2, p.2.1 - p.1)
/-- the first length of this slope, 0 where there is none -/
def look : List Ln → Rat → Nat
  | [], _ => 0
  | p :: r, σ => if p.1 = σ then p.2 else look r σ
/-- more of a slope -/
def bump : List Ln → Rat → Nat → List Ln
  | [], σ, n => [(σ, n)]
  | p :: r, σ, n => if p.1 = σ then (p.1, p.2 + n) :: r else p :: bump r σ n
def merged (A B : List Ln) : List Ln := B.foldl (fun A p => bump A p.1 p.2) A
/-- slopes once each, no length 0 -/
structure Good (A : List Ln) : Prop where
  nd : (A.map (·.1)).Nodup
  pos : ∀ p ∈ A, 0 < p.2

theorem look_none : ∀ {A : List Ln} {σ : Rat}, σ ∉ A.map (·.1) → look A σ = 0
  | [], _, _ => rfl
  | p :: r, σ, h => by
    rw [List.map_cons, List.mem_cons, not_or] at h
    show (if p.1 = σ then p.2 else look r σ) = 0
    rw [if_neg (fun e => h.1 e.symm)]
    exact look_none h.2
theorem look_mem : ∀ {A : List Ln} {σ : Rat} {n : Nat}, (A.map (·.1)).Nodup → (σ, n) ∈ A → look A σ = n
  | p :: r, σ, n, hn, h => by
    show (if p.1 = σ then p.2 else look r σ) = n
    rw [List.map_cons, List.nodup_cons] at hn
    rcases List.mem_cons.mp h with e | h
    · rw [← e, if_pos rfl]
    · have : σ ∈ r.map (·.1) := List.mem_map.mpr ⟨_, h, rfl⟩
      rw [if_neg (fun e => hn.1 (by rw [e]; exact this))]
      exact look_mem hn.2 h
theorem mem_look : ∀ {A : List Ln} {σ : Rat} {n : Nat}, look A σ = n → 0 < n → (σ, n) ∈ A
  | [], σ, n, h, hp => by
    have : (0 : Nat) = n := h
    omega
  | p :: r, σ, n, h, hp => by
    have h' : (if p.1 = σ then p.2 else look r σ) = n := h
    by_cases c : p.1 = σ
    · rw [if_pos c] at h'
      rw [← c, ← h']
      exact List.mem_cons_self
    · rw [if_neg c] at h'
      exact List.mem_cons_of_mem _ (mem_look h' hp)
theorem Good.mem {A : List Ln} (G : Good A) (σ : Rat) (n : Nat) : (σ, n) ∈ A ↔ look A σ = n ∧ 0 < n :=
  ⟨fun h => ⟨look_mem G.nd h, G.pos _ h⟩, fun h => mem_look h.1 h.2⟩
theorem nodup_of_map {α β : Type} {f : α → β} : ∀ {l : List α}, (l.map f).Nodup → l.Nodup
  | [], _ => .nil
  | x :: r, h => by
    rw [List.map_cons, List.nodup_cons] at h
    exact List.nodup_cons.mpr ⟨fun m => h.1 (List.mem_map.mpr ⟨_, m, rfl⟩), nodup_of_map h.2⟩
theorem Good.perm {A B : List Ln} (G : Good A) (G' : Good B) (h : ∀ σ, look A σ = look B σ) : A.Perm B := by
  refine (List.perm_ext_iff_of_nodup (nodup_of_map G.nd) (nodup_of_map G'.nd)).mpr fun ⟨σ, n⟩ => ?_
  rw [G.mem, G'.mem, h]
theorem look_bump : ∀ (A : List Ln) (σ τ : Rat) (n : Nat), look (bump A σ n) τ = look A τ + if σ = τ then n else 0
  | [], σ, τ, n => by
    show (if σ = τ then n else 0) = 0 + if σ = τ then n else 0
    omega
  | p :: r, σ, τ, n => by
    have ih := look_bump r σ τ n
    unfold bump
    by_cases c : p.1 = σ
    · rw [if_pos c]
      show (if p.1 = τ then p.2 + n else look r τ) = (if p.1 = τ then p.2 else look r τ) + if σ = τ then n else 0
      by_cases d : p.1 = τ
      · rw [if_pos d, if_pos d, if_pos (c.symm.trans d)]
      · rw [if_neg d, if_neg d, if_neg (fun e => d (c.trans e))]
        omega
    · rw [if_neg c]
      show (if p.1 = τ then p.2 else look (bump r σ n) τ) = (if p.1 = τ then p.2 else look r τ) + if σ = τ then n else 0
      by_cases d : p.1 = τ
      · rw [if_pos d, if_pos d, if_neg (fun e => c (d.trans e.symm))]
        omega
      · rw [if_neg d, if_neg d, ih]
theorem mem_bump : ∀ {A : List Ln} {σ τ : Rat} {n : Nat}, τ ∈ (bump A σ n).map (·.1) → τ = σ ∨ τ ∈ A.map (·.1)
  | [], σ, τ, n, h => by
    have : τ ∈ [σ] := h
    exact .inl (List.mem_singleton.mp this)
  | p :: r, σ, τ, n, h => by
    unfold bump at h
    by_cases c : p.1 = σ
    · rw [if_pos c] at h
      exact .inr h
    · rw [if_neg c, List.map_cons] at h
      rcases List.mem_cons.mp h with e | h
      · exact .inr (by rw [e]; exact List.mem_cons_self)
      · rcases mem_bump h with e | h
        · exact .inl e
        · exact .inr (List.mem_cons_of_mem _ h)
theorem Good.bump : ∀ {A : List Ln} {σ : Rat} {n : Nat}, Good A → 0 < n → Good (bump A σ n)
  | [], σ, n, G, hn => ⟨List.nodup_cons.mpr ⟨List.not_mem_nil, .nil⟩, fun p h => by
      have : p ∈ [(σ, n)] := h
      rw [List.mem_singleton.mp this]
      exact hn⟩
  | p :: r, σ, n, G, hn => by
    have nd := G.nd
    rw [List.map_cons, List.nodup_cons] at nd
    have G' : Good r := ⟨nd.2, fun q h => G.pos q (List.mem_cons_of_mem _ h)⟩
    unfold Bd.bump
    by_cases c : p.1 = σ
    · rw [if_pos c]
      refine ⟨G.nd, fun q h => ?_⟩
      rcases List.mem_cons.mp h with e | h
      · rw [e]
        show 0 < p.2 + n
        omega
      · exact G'.pos q h
    · rw [if_neg c]
      have ih := G'.bump (σ := σ) hn
      refine ⟨?_, fun q h => ?_⟩
      · rw [List.map_cons, List.nodup_cons]
        refine ⟨fun h => ?_, ih.nd⟩
        rcases mem_bump h with e | h
        · exact c e
        · exact nd.1 h
      · rcases List.mem_cons.mp h with e | h
        · rw [e]
          exact G.pos _ List.mem_cons_self
        · exact ih.pos q h
theorem merged_good : ∀ {B A : List Ln}, Good A → Good B → Good (merged A B) ∧ ∀ σ, look (merged A B) σ = look A σ + look B σ
  | [], A, G, _ => ⟨G, fun σ => rfl⟩
  | p :: r, A, G, G' => by
    have nd := G'.nd
    rw [List.map_cons, List.nodup_cons] at nd
    have Gr : Good r := ⟨nd.2, fun q h => G'.pos q (List.mem_cons_of_mem _ h)⟩
    have Gb : Good (Bd.bump A p.1 p.2) := G.bump (G'.pos p List.mem_cons_self)
    have ih := merged_good Gb Gr
    refine ⟨ih.1, fun σ => ?_⟩
    have e : look (merged (Bd.bump A p.1 p.2) r) σ = _ := ih.2 σ
    show look (merged (Bd.bump A p.1 p.2) r) σ = look A σ + if p.1 = σ then p.2 else look r σ
    rw [e, look_bump]
    by_cases c : p.1 = σ
    · rw [if_pos c, if_pos c, look_none (A := r) (by rw [← c]; exact nd.1)]
      omega
    · rw [if_neg c, if_neg c]
      omega

theorem IsSides.good {a : Sz} {L : List Sd} (S : IsSides a L) : Good (lengths L) := by
  refine ⟨?_, fun p h => ?_⟩
  · have e : (lengths L).map (·.1) = L.map fun p => p.2.2 := by
      unfold lengths
      rw [List.map_map]
      rfl
    rw [e]
    refine List.Pairwise.map (S := fun x y => x ≠ y) _ ?_ S.up
    intro p q h e
    rw [e] at h
    exact Rat.lt_irrefl h
  · obtain ⟨⟨u, v, σ⟩, hm, rfl⟩ := List.mem_map.mp h
    have := ((S.mem u v σ).mp hm).1
    show 0 < v - u
    omega
theorem IsSides.look {a : Sz} {L : List Sd} (S : IsSides a L) {σ : Rat} {u v : Nat} (E : Ext a σ u v) : look (lengths L) σ = v - u := by
  by_cases c : u < v
  · exact look_mem S.good.nd (List.mem_map.mpr ⟨(u, v, σ), (S.mem u v σ).mpr ⟨c, E⟩, rfl⟩)
  · cases e : Bd.look (lengths L) σ with
    | zero => omega
    | succ n =>
      have := mem_look e (Nat.succ_pos n)
      obtain ⟨⟨u', v', τ⟩, hm, q⟩ := List.mem_map.mp this
      have hm' := (S.mem u' v' τ).mp hm
      have eτ : τ = σ := congrArg Prod.fst q
      subst eτ
      have := E.uniq hm'.2
      omega

/-- THE LAW: the lengths of what is put together are those of both, merged -/
theorem main_perm {a b c : Sz} {La Lb Lc : List Sd} {i j : Nat} {x y : Rat} (ha : at' a i = some x) (hb : at' b j = some y) (J : IsJoin a b c) (Sa : IsSides a La) (Sb : IsSides b Lb) (Sc : IsSides c Lc) :
    (lengths Lc).Perm (merged (lengths La) (lengths Lb)) := by
  have M := merged_good Sa.good Sb.good
  refine Good.perm Sc.good M.1 fun σ => ?_
  obtain ⟨u, v, E⟩ := Ext.any ha σ
  obtain ⟨u', v', E'⟩ := Ext.any hb σ
  have h1 := E.le
  have h2 := E'.le
  rw [M.2, Sa.look E, Sb.look E', Sc.look (J.ext E E')]
  omega
end Bd
namespace Bd
/-! ### fractions as pairs -/
/-- both parts below 2 ^ k -/
def Sm (k : Nat) (q : Rat) : Prop := q.num.natAbs < 2 ^ k ∧ q.den < 2 ^ k
theorem pow_up {n k l : Nat} (h : n < 2 ^ k) (hl : k ≤ l) : n < 2 ^ l := Nat.lt_of_lt_of_le h (Nat.pow_le_pow_right (by decide) hl)
theorem Sm.up {k l : Nat} {q : Rat} (h : Sm k q) (hl : k ≤ l) : Sm l q := ⟨pow_up h.1 hl, pow_up h.2 hl⟩
theorem Sm.den {k : Nat} {q : Rat} (h : Sm k q) : ((q.den : Int)).natAbs < 2 ^ k := by
  rw [Int.natAbs_natCast]
  exact h.2
theorem gcd_pos {t b : Int} (h : 0 < b) : 0 < Int.gcd t b := Nat.pos_of_ne_zero fun e => by
  have := (Int.gcd_eq_zero_iff.mp e).2
  omega
theorem divInt_num {t b : Int} (h : 0 < b) : (Rat.divInt t b).num = t / (Int.gcd t b : Int) := by
  rw [Rat.num_divInt, Int.sign_eq_one_of_pos h, Int.one_mul, Int.gcd_comm]
theorem divInt_den {t b : Int} (h : 0 < b) : ((Rat.divInt t b).den : Int) = b / (Int.gcd t b : Int) := by
  rw [Rat.den_divInt, if_neg (by omega), Int.gcd_comm, Int.natCast_ediv, Int.natAbs_of_nonneg (by omega)]
theorem divInt_sm {t b : Int} {k : Nat} (h : 0 < b) (ht : t.natAbs < 2 ^ k) (hb : b.natAbs < 2 ^ k) : Sm k (Rat.divInt t b) := by
  refine ⟨?_, ?_⟩
  · rw [divInt_num h]
    exact Nat.lt_of_le_of_lt (Int.natAbs_ediv_le_natAbs _ _) ht
  · have e := divInt_den (t := t) h
    have : (Rat.divInt t b).den = (b / (Int.gcd t b : Int)).natAbs := by
      rw [← e]
      exact (Int.natAbs_natCast _).symm
    rw [this]
    exact Nat.lt_of_le_of_lt (Int.natAbs_ediv_le_natAbs _ _) hb
theorem mul_bits {i j : Int} {a b : Nat} (ha : i.natAbs < 2 ^ a) (hb : j.natAbs < 2 ^ b) : (i * j).natAbs < 2 ^ (a + b) := by
  rw [Int.natAbs_mul, Nat.pow_add]
  exact Nat.mul_lt_mul'' ha hb
theorem add_bits {i j : Int} {a : Nat} (ha : i.natAbs < 2 ^ a) (hb : j.natAbs < 2 ^ a) : (i + j).natAbs < 2 ^ (a + 1) := by
  rw [Nat.pow_succ]
  omega
theorem sub_bits {i j : Int} {a : Nat} (ha : i.natAbs < 2 ^ a) (hb : j.natAbs < 2 ^ a) : (i - j).natAbs < 2 ^ (a + 1) := by
  rw [Nat.pow_succ]
  omega
theorem den_pos' (q : Rat) : (0 : Int) < q.den := Int.natCast_pos.mpr q.den_pos

theorem add_eq (u v : Rat) : u + v = Rat.divInt (u.num * v.den + v.num * u.den) (u.den * v.den) := by
  rw [Rat.add_def', ← Rat.divInt_ofNat, Int.natCast_mul]
theorem sub_eq (u v : Rat) : u - v = Rat.divInt (u.num * v.den - v.num * u.den) (u.den * v.den) := by
  rw [Rat.sub_def', ← Rat.divInt_ofNat, Int.natCast_mul]
theorem div_eq (u v : Rat) : u / v = Rat.divInt (u.num * v.den) (u.den * v.num) := by
  rw [Rat.div_def, Rat.inv_def]
  have : u * Rat.divInt v.den v.num = Rat.divInt u.num u.den * Rat.divInt v.den v.num := by rw [Rat.num_divInt_den]
  rw [this, Rat.divInt_mul_divInt]
theorem num_pos' {v : Rat} (h : 0 < v) : 0 < v.num := by
  have := (Rat.lt_iff 0 v).mp h
  simp at this
  exact this
theorem dens_pos (u v : Rat) : (0 : Int) < (u.den : Int) * v.den := Int.mul_pos (den_pos' u) (den_pos' v)
theorem add_sm {u v : Rat} {k l : Nat} (hu : Sm k u) (hv : Sm l v) : Sm (k + l + 1) (u + v) := by
  rw [add_eq]
  refine divInt_sm (dens_pos u v) (add_bits (mul_bits hu.1 hv.den) ?_) (pow_up (mul_bits hu.den hv.den) (by omega))
  have := mul_bits hv.1 hu.den
  rw [Nat.add_comm] at this
  exact this
theorem sub_sm {u v : Rat} {k l : Nat} (hu : Sm k u) (hv : Sm l v) : Sm (k + l + 1) (u - v) := by
  rw [sub_eq]
  refine divInt_sm (dens_pos u v) (sub_bits (mul_bits hu.1 hv.den) ?_) (pow_up (mul_bits hu.den hv.den) (by omega))
  have := mul_bits hv.1 hu.den
  rw [Nat.add_comm] at this
  exact this
theorem div_sm {u v : Rat} {k l : Nat} (hu : Sm k u) (hv : Sm l v) (h : 0 < v) : Sm (k + l) (u / v) := by
  rw [div_eq]
  exact divInt_sm (Int.mul_pos (den_pos' u) (num_pos' h)) (mul_bits hu.1 hv.den) (mul_bits hu.den hv.1)
theorem int_sm {n : Int} {k : Nat} (h : n.natAbs < 2 ^ (k + 1)) : Sm (k + 1) (n : Rat) :=
  ⟨h, by rw [Rat.den_intCast]; exact Nat.one_lt_two_pow (by omega)⟩
theorem mul_len {i j : Int} {a b : Nat} (ha : i.natAbs < 2 ^ a) (hb : j.natAbs < 2 ^ b) : (i * j).natAbs < 2 ^ (a + b) := mul_bits ha hb
end Bd
namespace Bd
open PySem PySem.Spec PyProof.Rows L2
/-! ### the text -/
def topS (i : Nat) : Stmt := PySem.Challenge.pw_branchdepth_k25_whole_sides_put_together.main.body.getD i (.Pass ⟨0, 0, 0, 0⟩)
abbrev sCommon : Stmt := topS 1
abbrev sFraction : Stmt := topS 2
abbrev sPlus : Stmt := topS 3
abbrev sMinus : Stmt := topS 4
abbrev sOver : Stmt := topS 5
abbrev sIsLess : Stmt := topS 6
abbrev sSlope : Stmt := topS 8
abbrev sCorner : Stmt := topS 9
abbrev sFirst : Stmt := topS 10
abbrev sSides : Stmt := topS 11
abbrev sLesser : Stmt := topS 12
abbrev sLeast : Stmt := topS 13
abbrev sJoined : Stmt := topS 14
abbrev sBag : Stmt := topS 16
abbrev sTake : Stmt := topS 17
abbrev sLow : Stmt := topS 18
abbrev sSizes : Stmt := topS 19
abbrev sLengths : Stmt := topS 20
abbrev sMerged : Stmt := topS 21
abbrev sBegin : Stmt := topS 22
abbrev sLaw : Stmt := topS 23
theorem gcd_emod (x y : Int) : Int.gcd y (x % y) = Int.gcd y x := by
  have e : x % y = x + y * (-(x / y)) := by
    rw [Int.emod_def, Int.mul_neg]
    omega
  rw [e, Int.gcd_add_mul_left_right]
/-! ### heaps -/
theorem same_upd {H : Hp} {p : Addr} {o : HO} (h : H p = none) : Same H (upd H p o) := fun b x e => by
  rw [upd_ne (ne_of_none e h)]
  exact e
theorem same_tup {K : PySem.W.Frag} {H H' : Hp} {a : Addr} {xs : List V} (e : Same H H') (h : SqT K H a xs) : SqT K H' a xs := by
  rcases h with (h | ⟨o, h⟩) | h
  · exact .inl (.inl (e _ _ h))
  · exact .inl (.inr ⟨o, e _ _ h⟩)
  · exact .inr h
/-- the value is the fraction q -/
def IsQ (K : PySem.W.Frag) (H : Hp) (v : V) (q : Rat) : Prop := ∃ a, v = .ref a ∧ SqT K H a [.int q.num, .int (q.den : Int)]
/-- the value is a size, or None -/
def IsO (K : PySem.W.Frag) (H : Hp) (v : V) : Option Rat → Prop
  | none => v = .non
  | some q => IsQ K H v q
theorem IsQ.same {K : PySem.W.Frag} {H H' : Hp} {v : V} {q : Rat} (e : Same H H') (h : IsQ K H v q) : IsQ K H' v q := by
  obtain ⟨a, rfl, h⟩ := h
  exact ⟨a, rfl, same_tup e h⟩
theorem IsO.same {K : PySem.W.Frag} {H H' : Hp} {v : V} {o : Option Rat} (e : Same H H') (h : IsO K H v o) : IsO K H' v o := by
  cases o with
  | none => exact h
  | some q => exact IsQ.same e h
section
variable {P : Program} {w : World} {K : PySem.W.Frag} {mg : Str → Option Value} {base : Heap}
/-! ### common -/
theorem scCommon : FnScope ["one", "other"] ["one", "other"] (defScope sCommon) := ⟨rfl, rfl, rfl, by decide +kernel, rfl, by decide +kernel, by decide +kernel⟩
def spCommon (K : PySem.W.Frag) : Sp := fun vs H Q _ => ∃ a b : Int, vs = [.int a, .int b] ∧ 0 ≤ b ∧ Q (.int (Int.gcd a b)) H
theorem ok_common {f : Addr} {fd : FuncData} {k : Nat} (F : Fun K "common" "common" sCommon f fd) (ma : mg "abs" = none) : FnOk P w K mg base CX0 (k + 1) f fd ["one", "other"] (spCommon K) := by
  refine F.ok scCommon (fun vs H Q E h => ?_) (fun cdv A outer s H vs Q E hr h => ?_)
  · obtain ⟨a, b, rfl, _⟩ := h
    rfl
  · obtain ⟨a, b, rfl, hb, q⟩ := h
    refine ⟨_, pss_cons (ps_while PassesOwn.never (pt_cmpR op_ne (pv 1) pe_int (nomark _))
        (pss_one (ps_par (i := 0) (j := 1) (by rfl) scCommon.nd rfl rfl (by decide) rfl rfl (pa_cons (pv 1) (pa_cons (pe_op op_modN (pv 0) (pv 1)) pa_nil)) (by rfl))))
      (pss_one (ps_ret (pe_callB call_abs (by rfl) ma (by decide +kernel) (pa_cons (pv 0) pa_nil)))), ?_⟩
    refine while_by (fun σ H' => ∃ x y : Int, σ = [some (.int x), some (.int y)] ∧ 0 ≤ y ∧ Int.gcd x y = Int.gcd a b ∧ H' = H) (fun σ _ => match σ with | [_, some (.int y)] => y.natAbs | _ => 0) ⟨a, b, rfl, hb, rfl, rfl⟩ (fun σ H' hp => ?_) (fun σ H' Q1 Q2 hm h => ?_)
    · obtain ⟨x, y, rfl, hy, hg, rfl⟩ := hp
      refine ⟨.int y, rfl, rfl, _, rfl, ?_⟩
      by_cases e : y = 0
      · subst e
        refine iteF ?_
        refine ⟨.int x, rfl, x, rfl, ?_⟩
        have e1 : (if x < 0 then -x else x) = ((Int.gcd a b : Nat) : Int) := by
          rw [← hg, Int.gcd_zero]
          split <;> omega
        rw [e1]
        exact q
      · have hd : (!decide (V.int y = V.int 0)) = true := by
          rw [decide_eq_false (fun z => e (V.int.inj z))]
          rfl
        rw [hd]
        refine iteT ?_
        have hy0 : 0 < y := by omega
        have hm : x.fmod y = x % y := Int.fmod_eq_emod_of_nonneg _ hy
        have h1 := Int.emod_nonneg x (show y ≠ 0 by omega)
        have h2 := Int.emod_lt_of_pos x hy0
        refine ⟨.int y, rfl, .int x, rfl, .int y, rfl, x, y, rfl, rfl, e, _, _, rfl, ⟨y, x.fmod y, rfl, by rw [hm]; exact h1, ?_, rfl⟩, ?_⟩
        · rw [hm, ← hg, Int.gcd_comm x y]
          exact gcd_emod x y
        · show (x.fmod y).natAbs < y.natAbs
          rw [hm]
          omega
    · obtain ⟨v, e, h1, k, h2, h3⟩ := h
      exact ⟨v, e, h1, k, h2, hm _ _ h3⟩
/-! ### fraction -/
theorem scFraction : FnScope ["top", "bottom", "part"] ["top", "bottom"] (defScope sFraction) := ⟨rfl, rfl, rfl, by decide +kernel, rfl, by decide +kernel, by decide +kernel⟩
def spFraction (K : PySem.W.Frag) : Sp := fun vs H Q _ => ∃ a b : Int, vs = [.int a, .int b] ∧ 0 < b ∧ b.natAbs < 2 ^ 9000 ∧ ∀ H' v, Same H H' → IsQ K H' v (Rat.divInt a b) → Q v H'
theorem ok_fraction {f f1 : Addr} {fd fd1 : FuncData} {k : Nat} (F : Fun K "fraction" "fraction" sFraction f fd) (F1 : Fun K "common" "common" sCommon f1 fd1) (b1 : Binds K fd1 ["one", "other"] []) (g1 : mg "common" = some (.ref f1))
    (G1 : FnOk P w K mg base CX0 k f1 fd1 ["one", "other"] (spCommon K)) : FnOk P w K mg base CX0 (k + 1) f fd ["top", "bottom"] (spFraction K) := by
  refine F.ok scFraction (fun vs H Q E h => ?_) (fun cdv A outer s H vs Q E hr h => ?_)
  · obtain ⟨a, b, rfl, _⟩ := h
    rfl
  · obtain ⟨a, b, rfl, hb, hs, q⟩ := h
    refine ⟨_, pss_cons (ps_set (i := 2) scFraction.nd rfl (.inl rfl) (pe_call G1 hr (by rfl) g1 F1.kp b1 .nil pass0 (pa_cons (pv 0) (pa_cons (pv 1) pa_nil))))
      (pss_cons (ps_if (pt_cmpR op_lt (pv 1) pe_int (nomark _)) (pss_one (ps_set (i := 2) scFraction.nd rfl (.inl rfl) (pe_op op_sub pe_int (pv 2)))) pss_nil)
      (pss_one (ps_ret (pe_tup (pa_cons (pe_op op_fdivW (pv 0) (pv 2)) (pa_cons (pe_op op_fdivW (pv 1) (pv 2)) pa_nil)))))), ?_⟩
    have hg : (0 : Int) < (Int.gcd a b : Int) := Int.natCast_pos.mpr (gcd_pos hb)
    have hle : ((Int.gcd a b : Nat) : Int).natAbs < 2 ^ 9000 := by
      rw [Int.natAbs_natCast]
      refine Nat.lt_of_le_of_lt ?_ hs
      have := Nat.le_of_dvd (by omega) (Int.gcd_dvd_natAbs_right a b)
      exact this
    have hw : CDivW a (Int.gcd a b) ∧ CDivW b (Int.gcd a b) := ⟨wide_div hg hle (by decide) (by decide), wide_div hg hle (by decide) (by decide)⟩
    refine ⟨.int a, rfl, .int b, rfl, a, b, rfl, Int.le_of_lt hb, .int b, rfl, b, 0, rfl, rfl, _, rfl, ?_⟩
    rw [decide_eq_false (show ¬ b < 0 by omega)]
    refine iteF ?_
    refine ⟨.int a, rfl, .int _, rfl, a, _, rfl, rfl, hw.1, .int b, rfl, .int _, rfl, b, _, rfl, rfl, hw.2, (by show 2 ≤ sizeLine; decide), fun t ht => ?_⟩
    refine q _ _ (same_upd ht) ⟨t, rfl, .inl (.inl ?_)⟩
    rw [divInt_num hb, divInt_den hb]
    exact upd_same
/-! ### plus, minus, over, is_less -/
theorem scPlus : FnScope ["u", "v"] ["u", "v"] (defScope sPlus) := ⟨rfl, rfl, rfl, by decide +kernel, rfl, by decide +kernel, by decide +kernel⟩
theorem scMinus : FnScope ["u", "v"] ["u", "v"] (defScope sMinus) := ⟨rfl, rfl, rfl, by decide +kernel, rfl, by decide +kernel, by decide +kernel⟩
theorem scOver : FnScope ["u", "v"] ["u", "v"] (defScope sOver) := ⟨rfl, rfl, rfl, by decide +kernel, rfl, by decide +kernel, by decide +kernel⟩
theorem scIsLess : FnScope ["u", "v"] ["u", "v"] (defScope sIsLess) := ⟨rfl, rfl, rfl, by decide +kernel, rfl, by decide +kernel, by decide +kernel⟩
def spPlus (K : PySem.W.Frag) : Sp := fun vs H Q _ => ∃ (x y : V) (u v : Rat), vs = [x, y] ∧ IsQ K H x u ∧ IsQ K H y v ∧ Sm 1000 u ∧ Sm 1000 v ∧ ∀ H' r, Same H H' → IsQ K H' r (u + v) → Q r H'
def spMinus (K : PySem.W.Frag) : Sp := fun vs H Q _ => ∃ (x y : V) (u v : Rat), vs = [x, y] ∧ IsQ K H x u ∧ IsQ K H y v ∧ Sm 1000 u ∧ Sm 1000 v ∧ ∀ H' r, Same H H' → IsQ K H' r (u - v) → Q r H'
def spOver (K : PySem.W.Frag) : Sp := fun vs H Q _ => ∃ (x y : V) (u v : Rat), vs = [x, y] ∧ IsQ K H x u ∧ IsQ K H y v ∧ Sm 3000 u ∧ Sm 1000 v ∧ 0 < v ∧ ∀ H' r, Same H H' → IsQ K H' r (u / v) → Q r H'
def spIsLess (K : PySem.W.Frag) : Sp := fun vs H Q _ => ∃ (x y : V) (u v : Rat), vs = [x, y] ∧ IsQ K H x u ∧ IsQ K H y v ∧ Sm 9000 u ∧ Sm 9000 v ∧ Q (.bl (decide (u < v))) H
theorem wm {i j : Int} {a b : Nat} (ha : i.natAbs < 2 ^ (a + 1)) (hb : j.natAbs < 2 ^ (b + 1)) (h : a + b ≤ 999998) : CMulW i j := wide_mul ha hb (Nat.succ_pos _) (Nat.succ_pos _) (by omega)
theorem ok_plus {f f1 : Addr} {fd fd1 : FuncData} {k : Nat} (F : Fun K "plus" "plus" sPlus f fd) (F1 : Fun K "fraction" "fraction" sFraction f1 fd1) (b1 : Binds K fd1 ["top", "bottom"] []) (g1 : mg "fraction" = some (.ref f1))
    (G1 : FnOk P w K mg base CX0 k f1 fd1 ["top", "bottom"] (spFraction K)) : FnOk P w K mg base CX0 (k + 1) f fd ["u", "v"] (spPlus K) := by
  refine F.ok scPlus (fun vs H Q E h => ?_) (fun cdv A outer s H vs Q E hr h => ?_)
  · obtain ⟨x, y, u, v, rfl, _⟩ := h
    rfl
  · obtain ⟨x, y, u, v, rfl, ⟨p, rfl, hp⟩, ⟨r, rfl, hr2⟩, su, sv, q⟩ := h
    refine ⟨_, pss_one (ps_ret (pe_call G1 hr (by rfl) g1 F1.kp b1 .nil pass0 (pa_cons
        (pe_op op_add (pe_op op_mulW (pe_ix ix_tup (pv 0) pe_int (fun _ _ => rfl)) (pe_ix ix_tup (pv 1) pe_int (fun _ _ => rfl))) (pe_op op_mulW (pe_ix ix_tup (pv 1) pe_int (fun _ _ => rfl)) (pe_ix ix_tup (pv 0) pe_int (fun _ _ => rfl))))
        (pa_cons (pe_op op_mulW (pe_ix ix_tup (pv 0) pe_int (fun _ _ => rfl)) (pe_ix ix_tup (pv 1) pe_int (fun _ _ => rfl))) pa_nil)))), ?_⟩
    refine ⟨.ref p, rfl, p, _, 0, _, rfl, rfl, hp, atI_nat (j := 0) rfl, .ref r, rfl, r, _, 1, _, rfl, rfl, hr2, atI_nat (j := 1) rfl, _, _, rfl, rfl, wm su.1 sv.den (by decide), ?_⟩
    refine ⟨.ref r, rfl, r, _, 0, _, rfl, rfl, hr2, atI_nat (j := 0) rfl, .ref p, rfl, p, _, 1, _, rfl, rfl, hp, atI_nat (j := 1) rfl, _, _, rfl, rfl, wm sv.1 su.den (by decide), _, _, rfl, rfl, ?_⟩
    refine ⟨.ref p, rfl, p, _, 1, _, rfl, rfl, hp, atI_nat (j := 1) rfl, .ref r, rfl, r, _, 1, _, rfl, rfl, hr2, atI_nat (j := 1) rfl, _, _, rfl, rfl, wm su.den sv.den (by decide), ?_⟩
    refine ⟨_, _, rfl, dens_pos u v, pow_up (mul_bits su.den sv.den) (by decide), fun H' z sm hz => q H' z sm ?_⟩
    rw [add_eq]
    exact hz
theorem ok_minus {f f1 : Addr} {fd fd1 : FuncData} {k : Nat} (F : Fun K "minus" "minus" sMinus f fd) (F1 : Fun K "fraction" "fraction" sFraction f1 fd1) (b1 : Binds K fd1 ["top", "bottom"] []) (g1 : mg "fraction" = some (.ref f1))
    (G1 : FnOk P w K mg base CX0 k f1 fd1 ["top", "bottom"] (spFraction K)) : FnOk P w K mg base CX0 (k + 1) f fd ["u", "v"] (spMinus K) := by
  refine F.ok scMinus (fun vs H Q E h => ?_) (fun cdv A outer s H vs Q E hr h => ?_)
  · obtain ⟨x, y, u, v, rfl, _⟩ := h
    rfl
  · obtain ⟨x, y, u, v, rfl, ⟨p, rfl, hp⟩, ⟨r, rfl, hr2⟩, su, sv, q⟩ := h
    refine ⟨_, pss_one (ps_ret (pe_call G1 hr (by rfl) g1 F1.kp b1 .nil pass0 (pa_cons
        (pe_op op_sub (pe_op op_mulW (pe_ix ix_tup (pv 0) pe_int (fun _ _ => rfl)) (pe_ix ix_tup (pv 1) pe_int (fun _ _ => rfl))) (pe_op op_mulW (pe_ix ix_tup (pv 1) pe_int (fun _ _ => rfl)) (pe_ix ix_tup (pv 0) pe_int (fun _ _ => rfl))))
        (pa_cons (pe_op op_mulW (pe_ix ix_tup (pv 0) pe_int (fun _ _ => rfl)) (pe_ix ix_tup (pv 1) pe_int (fun _ _ => rfl))) pa_nil)))), ?_⟩
    refine ⟨.ref p, rfl, p, _, 0, _, rfl, rfl, hp, atI_nat (j := 0) rfl, .ref r, rfl, r, _, 1, _, rfl, rfl, hr2, atI_nat (j := 1) rfl, _, _, rfl, rfl, wm su.1 sv.den (by decide), ?_⟩
    refine ⟨.ref r, rfl, r, _, 0, _, rfl, rfl, hr2, atI_nat (j := 0) rfl, .ref p, rfl, p, _, 1, _, rfl, rfl, hp, atI_nat (j := 1) rfl, _, _, rfl, rfl, wm sv.1 su.den (by decide), _, _, rfl, rfl, ?_⟩
    refine ⟨.ref p, rfl, p, _, 1, _, rfl, rfl, hp, atI_nat (j := 1) rfl, .ref r, rfl, r, _, 1, _, rfl, rfl, hr2, atI_nat (j := 1) rfl, _, _, rfl, rfl, wm su.den sv.den (by decide), ?_⟩
    refine ⟨_, _, rfl, dens_pos u v, pow_up (mul_bits su.den sv.den) (by decide), fun H' z sm hz => q H' z sm ?_⟩
    rw [sub_eq]
    exact hz
theorem ok_over {f f1 : Addr} {fd fd1 : FuncData} {k : Nat} (F : Fun K "over" "over" sOver f fd) (F1 : Fun K "fraction" "fraction" sFraction f1 fd1) (b1 : Binds K fd1 ["top", "bottom"] []) (g1 : mg "fraction" = some (.ref f1))
    (G1 : FnOk P w K mg base CX0 k f1 fd1 ["top", "bottom"] (spFraction K)) : FnOk P w K mg base CX0 (k + 1) f fd ["u", "v"] (spOver K) := by
  refine F.ok scOver (fun vs H Q E h => ?_) (fun cdv A outer s H vs Q E hr h => ?_)
  · obtain ⟨x, y, u, v, rfl, _⟩ := h
    rfl
  · obtain ⟨x, y, u, v, rfl, ⟨p, rfl, hp⟩, ⟨r, rfl, hr2⟩, su, sv, hv, q⟩ := h
    refine ⟨_, pss_one (ps_ret (pe_call G1 hr (by rfl) g1 F1.kp b1 .nil pass0 (pa_cons
        (pe_op op_mulW (pe_ix ix_tup (pv 0) pe_int (fun _ _ => rfl)) (pe_ix ix_tup (pv 1) pe_int (fun _ _ => rfl)))
        (pa_cons (pe_op op_mulW (pe_ix ix_tup (pv 0) pe_int (fun _ _ => rfl)) (pe_ix ix_tup (pv 1) pe_int (fun _ _ => rfl))) pa_nil)))), ?_⟩
    refine ⟨.ref p, rfl, p, _, 0, _, rfl, rfl, hp, atI_nat (j := 0) rfl, .ref r, rfl, r, _, 1, _, rfl, rfl, hr2, atI_nat (j := 1) rfl, _, _, rfl, rfl, wm su.1 sv.den (by decide), ?_⟩
    refine ⟨.ref p, rfl, p, _, 1, _, rfl, rfl, hp, atI_nat (j := 1) rfl, .ref r, rfl, r, _, 0, _, rfl, rfl, hr2, atI_nat (j := 0) rfl, _, _, rfl, rfl, wm su.den sv.1 (by decide), ?_⟩
    refine ⟨_, _, rfl, Int.mul_pos (den_pos' u) (num_pos' hv), pow_up (mul_bits su.den sv.1) (by decide), fun H' z sm hz => q H' z sm ?_⟩
    rw [div_eq]
    exact hz
theorem ok_isless {f : Addr} {fd : FuncData} {k : Nat} (F : Fun K "is_less" "is_less" sIsLess f fd) : FnOk P w K mg base CX0 (k + 1) f fd ["u", "v"] (spIsLess K) := by
  refine F.ok scIsLess (fun vs H Q E h => ?_) (fun cdv A outer s H vs Q E hr h => ?_)
  · obtain ⟨x, y, u, v, rfl, _⟩ := h
    rfl
  · obtain ⟨x, y, u, v, rfl, ⟨p, rfl, hp⟩, ⟨r, rfl, hr2⟩, su, sv, q⟩ := h
    refine ⟨_, pss_one (ps_ret (pe_cmpR op_lt
        (pe_op op_mulW (pe_ix ix_tup (pv 0) pe_int (fun _ _ => rfl)) (pe_ix ix_tup (pv 1) pe_int (fun _ _ => rfl)))
        (pe_op op_mulW (pe_ix ix_tup (pv 1) pe_int (fun _ _ => rfl)) (pe_ix ix_tup (pv 0) pe_int (fun _ _ => rfl))) (nomark _))), ?_⟩
    refine ⟨.ref p, rfl, p, _, 0, _, rfl, rfl, hp, atI_nat (j := 0) rfl, .ref r, rfl, r, _, 1, _, rfl, rfl, hr2, atI_nat (j := 1) rfl, _, _, rfl, rfl, wm su.1 sv.den (by decide), ?_⟩
    refine ⟨.ref r, rfl, r, _, 0, _, rfl, rfl, hr2, atI_nat (j := 0) rfl, .ref p, rfl, p, _, 1, _, rfl, rfl, hp, atI_nat (j := 1) rfl, _, _, rfl, rfl, wm sv.1 su.den (by decide), _, _, rfl, rfl, ?_⟩
    have e : decide (u.num * (v.den : Int) < v.num * (u.den : Int)) = decide (u < v) := decide_eq_decide.mpr (Rat.lt_iff u v).symm
    show Q (.bl (decide (u.num * (v.den : Int) < v.num * (u.den : Int)))) H
    rw [e]
    exact q
end
end Bd
namespace Bd
open PySem PySem.Spec PyProof.Rows L2
/-- at a stands the list of the sizes z -/
def IsSz (K : PySem.W.Frag) (H : Hp) (a : Addr) (z : Sz) : Prop := z.length ≤ 1000 ∧ ∃ vs, SqL K H a vs ∧ vs.length = z.length ∧ ∀ i v, vs[i]? = some v → IsO K H v (at' z i)
theorem IsSz.same {K : PySem.W.Frag} {H H' : Hp} {a : Addr} {z : Sz} (e : Same H H') (h : IsSz K H a z) : IsSz K H' a z := by
  obtain ⟨h0, vs, h1, h2, h3⟩ := h
  exact ⟨h0, vs, e.seq h1, h2, fun i v hi => (h3 i v hi).same e⟩
theorem IsSz.get {K : PySem.W.Frag} {H : Hp} {a : Addr} {z : Sz} (h : IsSz K H a z) {t : Nat} (ht : t < z.length) : ∃ vs v, SqL K H a vs ∧ vs.length = z.length ∧ vs[t]? = some v ∧ IsO K H v (at' z t) := by
  obtain ⟨h0, vs, h1, h2, h3⟩ := h
  have e : vs[t]? = some vs[t] := List.getElem?_eq_getElem (by omega)
  exact ⟨vs, vs[t], h1, h2, e, h3 _ _ e⟩
theorem same_new {H H' : Hp} {p : Addr} {o : HO} (s : Same H H') (h : H p = none) : Same H (upd H' p o) := fun b x e => by
  rw [upd_ne (ne_of_none e h)]
  exact s b x e
theorem isO_non {K : PySem.W.Frag} {H : Hp} {v : V} {o : Option Rat} (h : IsO K H v o) : decide (v = .non) = o.isNone := by
  cases o with
  | none =>
    have e : v = .non := h
    subst e
    rfl
  | some q =>
    obtain ⟨a, rfl, _⟩ := h
    exact decide_eq_false fun z => by cases z
/-- all sizes small -/
def SmZ (k : Nat) (z : Sz) : Prop := ∀ i q, at' z i = some q → Sm k q
section
variable {P : Program} {w : World} {K : PySem.W.Frag} {mg : Str → Option Value} {base : Heap}
/-! ### slope_between -/
theorem scSlope : FnScope ["sizes", "s", "t"] ["sizes", "s", "t"] (defScope sSlope) := ⟨rfl, rfl, rfl, by decide +kernel, rfl, by decide +kernel, by decide +kernel⟩
def spSlope (K : PySem.W.Frag) : Sp := fun vs H Q _ => ∃ (a : Addr) (z : Sz) (s t : Nat) (x y : Rat), vs = [.ref a, .int (s : Nat), .int (t : Nat)] ∧ IsSz K H a z ∧ at' z s = some x ∧ at' z t = some y ∧ s < t ∧ Sm 400 x ∧ Sm 400 y ∧ ∀ H' r, Same H H' → IsQ K H' r (slope x y s t) → Q r H'
theorem slope_eq (x y : Rat) {s t : Nat} (h : s < t) : slope x y s t = (y - x) / (Rat.divInt ((t : Int) - (s : Int)) 1) := by
  unfold slope
  have e : Rat.divInt ((t : Int) - (s : Int)) 1 = (t : Rat) - (s : Rat) := by
    rw [Rat.divInt_eq_div, Rat.intCast_sub, Rat.intCast_natCast, Rat.intCast_natCast]
    show ((t : Rat) - s) / ((1 : Int) : Rat) = _
    rw [Rat.intCast_one, Rat.div_def, Rat.inv_eq_of_mul_eq_one (Rat.one_mul 1), Rat.mul_one]
  rw [e]
theorem ok_slope {f f1 f2 f3 : Addr} {fd fd1 fd2 fd3 : FuncData} (F : Fun K "slope_between" "slope_between" sSlope f fd)
    (F1 : Fun K "fraction" "fraction" sFraction f1 fd1) (b1 : Binds K fd1 ["top", "bottom"] []) (g1 : mg "fraction" = some (.ref f1)) (G1 : FnOk P w K mg base CX0 2 f1 fd1 ["top", "bottom"] (spFraction K))
    (F2 : Fun K "minus" "minus" sMinus f2 fd2) (b2 : Binds K fd2 ["u", "v"] []) (g2 : mg "minus" = some (.ref f2)) (G2 : FnOk P w K mg base CX0 3 f2 fd2 ["u", "v"] (spMinus K))
    (F3 : Fun K "over" "over" sOver f3 fd3) (b3 : Binds K fd3 ["u", "v"] []) (g3 : mg "over" = some (.ref f3)) (G3 : FnOk P w K mg base CX0 3 f3 fd3 ["u", "v"] (spOver K)) :
    FnOk P w K mg base CX0 4 f fd ["sizes", "s", "t"] (spSlope K) := by
  refine F.ok scSlope (fun vs H Q E h => ?_) (fun cdv A outer s H vs Q E hr h => ?_)
  · obtain ⟨a, z, s, t, x, y, rfl, _⟩ := h
    rfl
  · obtain ⟨a, z, i, j, x, y, rfl, hz, hx, hy, hij, sx, sy, q⟩ := h
    refine ⟨_, pss_one (ps_ret (pe_call G3 hr (by rfl) g3 F3.kp b3 .nil pass0 (pa_cons
      (pe_call G2 hr (by rfl) g2 F2.kp b2 .nil pass0 (pa_cons (pe_ix ix_list (pv 0) (pv 2) (fun _ _ => rfl)) (pa_cons (pe_ix ix_list (pv 0) (pv 1) (fun _ _ => rfl)) pa_nil)))
      (pa_cons (pe_call G1 (hr.mono (by decide)) (by rfl) g1 F1.kp b1 .nil pass0 (pa_cons (pe_op op_sub (pv 2) (pv 1)) (pa_cons pe_int pa_nil))) pa_nil)))), ?_⟩
    obtain ⟨vs, v1, l1, e1, i1, o1⟩ := hz.get (at_lt hy)
    obtain ⟨vs', v2, l2, e2, i2, o2⟩ := hz.get (at_lt hx)
    rw [hy] at o1
    rw [hx] at o2
    have hlen := hz.1
    have hjl := at_lt hy
    refine ⟨.ref a, rfl, .int j, rfl, a, vs, j, v1, rfl, rfl, l1, atI_nat i1, .ref a, rfl, .int i, rfl, a, vs', i, v2, rfl, rfl, l2, atI_nat i2, v1, v2, y, x, rfl, o1, o2, sy.up (by decide), sx.up (by decide), fun H1 r s1 hr1 => ?_⟩
    have hb : ((j : Int) - (i : Int)).natAbs < 2 ^ 999 := by
      have : (2 : Nat) ^ 10 ≤ 2 ^ 999 := Nat.pow_le_pow_right (by decide) (by decide)
      omega
    have hp : (0 : Rat) < Rat.divInt ((j : Int) - (i : Int)) 1 := by
      rw [Rat.lt_iff]
      have h1 := divInt_num (t := (j : Int) - (i : Int)) (b := 1) (by decide)
      rw [h1, Int.gcd_one]
      simp
      omega
    refine ⟨.int j, rfl, .int i, rfl, j, i, rfl, rfl, _, 1, rfl, by decide, Nat.one_lt_two_pow (by decide), fun H2 r2 s2 hr2 => ?_⟩
    refine ⟨r, r2, y - x, _, rfl, hr1.same s2, hr2, (sub_sm sy sx).up (by decide), (divInt_sm (k := 999) (by decide) hb (Nat.one_lt_two_pow (by decide))).up (by decide), hp, fun H3 r3 s3 hr3 => ?_⟩
    refine q H3 r3 (s1.trans (s2.trans s3)) ?_
    rw [slope_eq x y hij]
    exact hr3
/-! ### next_corner -/
theorem scCorner : FnScope ["sizes", "s", "found", "slope", "t", "here"] ["sizes", "s"] (defScope sCorner) := ⟨rfl, rfl, rfl, by decide +kernel, rfl, by decide +kernel, by decide +kernel⟩
/-- what next_corner holds: the corner so far and its slope -/
def IsR (K : PySem.W.Frag) (H : Hp) (v1 v2 : V) : Option (Nat × Rat) → Prop
  | none => v1 = .non ∧ v2 = .non
  | some (f, σ) => v1 = .int (f : Nat) ∧ IsQ K H v2 σ
theorem IsR.same {K : PySem.W.Frag} {H H' : Hp} {v1 v2 : V} {r : Option (Nat × Rat)} (e : Same H H') (h : IsR K H v1 v2 r) : IsR K H' v1 v2 r := by
  match r, h with
  | none, h => exact h
  | some (f, σ), h => exact ⟨h.1, h.2.same e⟩
def spCorner (K : PySem.W.Frag) : Sp := fun vs H Q _ => ∃ (a : Addr) (z : Sz) (s : Nat) (x : Rat), vs = [.ref a, .int (s : Nat)] ∧ IsSz K H a z ∧ at' z s = some x ∧ SmZ 400 z ∧
  ∀ H' p v1 v2 r, Same H H' → SqT K H' p [v1, v2] → IsR K H' v1 v2 r → Best z s z.length x r → Q (.ref p) H'
theorem slope_sm {x y : Rat} {s t : Nat} (sx : Sm 400 x) (sy : Sm 400 y) (h : s < t) (ht : t ≤ 1000) : Sm 9000 (slope x y s t) := by
  rw [slope_eq x y h]
  have hb : ((t : Int) - (s : Int)).natAbs < 2 ^ 999 := by
    have : (2 : Nat) ^ 10 ≤ 2 ^ 999 := Nat.pow_le_pow_right (by decide) (by decide)
    omega
  have hp : (0 : Rat) < Rat.divInt ((t : Int) - (s : Int)) 1 := by
    rw [Rat.lt_iff]
    have h1 := divInt_num (t := (t : Int) - (s : Int)) (b := 1) (by decide)
    rw [h1, Int.gcd_one]
    simp
    omega
  exact (div_sm (sub_sm sy sx) (divInt_sm (k := 999) (by decide) hb (Nat.one_lt_two_pow (by decide))) hp).up (by decide)
theorem Best.sm {z : Sz} {s n f : Nat} {x σ : Rat} (hz : SmZ 400 z) (hl : z.length ≤ 1000) (hx : at' z s = some x) (B : Best z s n x (some (f, σ))) : Sm 9000 σ := by
  obtain ⟨h1, h2, ⟨y, hy, m⟩, h4⟩ := B
  have e : σ = slope x y s f := by
    have hs : 0 < (f : Rat) - s := cast_lt h1
    have m' := slope_mul (x := x) (y := y) h1
    refine Rat.le_antisymm (le_of_mul (c := (f : Rat) - s) ?_ hs) (le_of_mul (c := (f : Rat) - s) ?_ hs)
    · rw [m', m]; exact Rat.le_refl
    · rw [m', m]; exact Rat.le_refl
  rw [e]
  have := at_lt hy
  exact slope_sm (hz _ _ hx) (hz _ _ hy) h1 (by omega)
theorem ok_corner {f f1 f2 : Addr} {fd fd1 fd2 : FuncData} (F : Fun K "next_corner" "next_corner" sCorner f fd) (ml : mg "len" = none) (mr : mg "range" = none)
    (F1 : Fun K "slope_between" "slope_between" sSlope f1 fd1) (b1 : Binds K fd1 ["sizes", "s", "t"] []) (g1 : mg "slope_between" = some (.ref f1)) (G1 : FnOk P w K mg base CX0 4 f1 fd1 ["sizes", "s", "t"] (spSlope K))
    (F2 : Fun K "is_less" "is_less" sIsLess f2 fd2) (b2 : Binds K fd2 ["u", "v"] []) (g2 : mg "is_less" = some (.ref f2)) (G2 : FnOk P w K mg base CX0 1 f2 fd2 ["u", "v"] (spIsLess K)) :
    FnOk P w K mg base CX0 5 f fd ["sizes", "s"] (spCorner K) := by
  refine F.ok scCorner (fun vs H Q E h => ?_) (fun cdv A outer s H vs Q E hr h => ?_)
  · obtain ⟨a, z, s, x, rfl, _⟩ := h
    rfl
  · obtain ⟨a, z, s, x, rfl, hz, hx, sm, q⟩ := h
    refine ⟨_, pss_cons (ps_set (i := 2) scCorner.nd rfl (.inl rfl) pe_non) (pss_cons (ps_set (i := 3) scCorner.nd rfl (.inl rfl) pe_non)
      (pss_cons (ps_for PassesOwn.never rfl (pi_range2 (by rfl) mr (pa_cons (pe_op op_add (pv 1) pe_int) (pa_cons (pe_callB call_len_seq (by rfl) ml PySem.boot_len (pa_cons (pv 0) pa_nil)) pa_nil))) (pg_name (i := 4) scCorner.nd rfl (.inl rfl))
        (pss_one (ps_if (pt_cmpR op_notN (pe_ix ix_list (pv 0) (pv 4) (fun _ _ => rfl)) pe_non (nomark _))
          (pss_cons (ps_set (i := 5) scCorner.nd rfl (.inl rfl) (pe_call G1 hr (by rfl) g1 F1.kp b1 .nil pass0 (pa_cons (pv 0) (pa_cons (pv 1) (pa_cons (pv 4) pa_nil)))))
          (pss_one (ps_if (PW.pt (pw_or (pt_cmpR op_isN (pv 3) pe_non (nomark _)) (pw_or1 (pt_not (pt_val (pe_call G2 (hr.mono (by decide)) (by rfl) g2 F2.kp b2 .nil pass0 (pa_cons (pv 3) (pa_cons (pv 5) pa_nil)))))))) 
            (pss_cons (ps_set (i := 2) scCorner.nd rfl (.inl rfl) (pv 4)) (pss_one (ps_set (i := 3) scCorner.nd rfl (.inl rfl) (pv 5)))) pss_nil)))
          pss_nil)))
      (pss_one (ps_ret (pe_tup (pa_cons (pv 2) (pa_cons (pv 3) pa_nil))))))), ?_⟩
    have hs := at_lt hx
    have hlen := hz.1
    obtain ⟨h0, vs, hl, hvl, hall⟩ := hz
    have hz : IsSz K H a z := ⟨h0, vs, hl, hvl, hall⟩
    refine ⟨.int s, rfl, s, 1, rfl, rfl, .ref a, rfl, a, vs, rfl, .inl hl, (s : Int) + 1, (vs.length : Nat), rfl, ⟨by omega, by omega, by omega, by omega⟩, ?_⟩
    refine for_range (lo := (s : Int) + 1) (n := ((vs.length : Int) - ((s : Int) + 1)).toNat) (fun i σ H' => ∃ r v2 v3 y4 y5, σ = [some (.ref a), some (.int (s : Nat)), some v2, some v3, y4, y5] ∧ Same H H' ∧ IsR K H' v2 v3 r ∧ Best z s (s + 1 + i) x r)
      ⟨none, .non, .non, none, none, rfl, Same.refl _, ⟨rfl, rfl⟩, Best.start⟩ (fun i σ H1 hi hp => ?_) (fun σ H1 hp => ?_)
    · obtain ⟨r, v2, v3, y4, y5, rfl, s1, hr1, B⟩ := hp
      have ei : (s : Int) + 1 + (i : Int) = ((s + 1 + i : Nat) : Int) := by omega
      have hn : s + 1 + i < z.length := by omega
      have hlt : s < s + 1 + i := by omega
      rw [ei]
      obtain ⟨vs1, v, l1, e1, i1, o1⟩ := (hz.same s1).get hn
      refine ⟨.ref a, rfl, .int _, rfl, a, vs1, _, v, rfl, rfl, l1, atI_nat i1, rfl, _, rfl, ?_⟩
      rw [isO_non o1]
      cases ez : at' z (s + 1 + i) with
      | none =>
        refine iteF ?_
        exact ⟨r, v2, v3, _, _, rfl, s1, hr1, B.skip ez⟩
      | some y =>
        refine iteT ?_
        refine ⟨.ref a, rfl, .int _, rfl, .int _, rfl, a, z, s, s + 1 + i, x, y, rfl, hz.same s1, hx, ez, by omega, sm _ _ hx, sm _ _ ez, fun H2 u s2 hu => ?_⟩
        match r, hr1, B with
        | none, hr1, B =>
          obtain ⟨rfl, rfl⟩ := hr1
          refine ⟨.non, rfl, rfl, _, rfl, ?_⟩
          refine iteT (iteT ?_)
          exact ⟨.int _, rfl, u, rfl, some (s + 1 + i, slope x y s (s + 1 + i)), _, _, _, _, rfl, s1.trans s2, ⟨rfl, hu⟩, B.take hlt ez (fun f σ z => by cases z)⟩
        | some (f, σ), hr1, B =>
          obtain ⟨rfl, hq⟩ := hr1
          obtain ⟨b, rfl, hb⟩ := hq
          refine ⟨.ref b, rfl, rfl, _, rfl, ?_⟩
          rw [decide_eq_false (show ¬ V.ref b = V.non by intro z; cases z)]
          refine iteF ?_
          refine ⟨.ref b, rfl, u, rfl, .ref b, u, σ, slope x y s (s + 1 + i), rfl, ⟨b, rfl, same_tup s2 hb⟩, hu, B.sm sm h0 hx, slope_sm (sm _ _ hx) (sm _ _ ez) (by omega) (by omega), _, rfl, ?_⟩
          by_cases c : σ < slope x y s (s + 1 + i)
          · rw [decide_eq_true c]
            refine iteF ?_
            exact ⟨some (f, σ), _, _, _, _, rfl, s1.trans s2, ⟨rfl, b, rfl, same_tup s2 hb⟩, B.leave hlt ez c⟩
          · rw [decide_eq_false c]
            refine iteT ?_
            exact ⟨.int _, rfl, u, rfl, some (s + 1 + i, slope x y s (s + 1 + i)), _, _, _, _, rfl, s1.trans s2, ⟨rfl, hu⟩, B.take hlt ez (fun f' σ' z => by cases z; exact Rat.not_lt.mp c)⟩
    · obtain ⟨r, v2, v3, y4, y5, rfl, s1, hr1, B⟩ := hp
      have e : s + 1 + ((vs.length : Int) - ((s : Int) + 1)).toNat = z.length := by omega
      rw [e] at B
      refine ⟨v2, rfl, v3, rfl, (by show 2 ≤ sizeLine; decide), fun t ht => ?_⟩
      exact q _ t v2 v3 r (s1.trans (same_upd ht)) (.inl (.inl upd_same)) (hr1.same (same_upd ht)) B
end
end Bd
namespace Bd
open PySem PySem.Spec PyProof.Rows L2
section
variable {P : Program} {w : World} {K : PySem.W.Frag} {mg : Str → Option Value} {base : Heap}
/-! ### first_place, _law_begin -/
def spBegin (K : PySem.W.Frag) : Sp := fun vs H Q _ => ∃ (a : Addr) (z : Sz) (f : Nat), vs = [.ref a] ∧ IsSz K H a z ∧ Begin z f ∧ ∀ H', Same H H' → Q (.int (f : Nat)) H'
theorem scFirst : FnScope ["sizes", "at", "size"] ["sizes"] (defScope sFirst) := ⟨rfl, rfl, rfl, by decide +kernel, rfl, by decide +kernel, by decide +kernel⟩
theorem scBegin : FnScope ["_law_sizes_here", "_law_k"] ["_law_sizes_here"] (defScope sBegin) := ⟨rfl, rfl, rfl, by decide +kernel, rfl, by decide +kernel, by decide +kernel⟩
/-- what the list made so far holds -/
def FirstAcc (f i : Nat) (acc : List V) : Prop := acc.length ≤ i ∧ (i ≤ f → acc = []) ∧ (f < i → acc[0]? = some (.int (f : Nat)))
theorem FirstAcc.skip {z : Sz} {f i : Nat} {acc : List V} (B : Begin z f) (h : FirstAcc f i acc) (e : at' z i = none) : FirstAcc f (i + 1) acc := by
  obtain ⟨h1, h2, h3⟩ := h
  obtain ⟨⟨x, hx⟩, _⟩ := B
  have hne : i ≠ f := fun q => by
    subst q
    rw [e] at hx
    cases hx
  exact ⟨by omega, fun q => h2 (by omega), fun q => h3 (by omega)⟩
theorem FirstAcc.take {z : Sz} {f i : Nat} {acc : List V} {y : Rat} (B : Begin z f) (h : FirstAcc f i acc) (e : at' z i = some y) : FirstAcc f (i + 1) (acc ++ [.int (i : Nat)]) := by
  obtain ⟨h1, h2, h3⟩ := h
  have hle : f ≤ i := Nat.le_of_not_lt fun q => by
    rw [B.2 i q] at e
    cases e
  refine ⟨by rw [List.length_append]; show acc.length + 1 ≤ i + 1; omega, fun q => by omega, fun _ => ?_⟩
  by_cases q : f < i
  · have := h3 q
    cases acc with
    | nil => cases this
    | cons v r => exact this
  · have q' : i = f := by omega
    subst q'
    rw [h2 (Nat.le_refl _)]
    rfl
theorem ok_first {f : Addr} {fd : FuncData} {k : Nat} (F : Fun K "first_place" "first_place" sFirst f fd) (me : mg "enumerate" = none) : FnOk P w K mg base CX0 (k + 1) f fd ["sizes"] (spBegin K) := by
  refine F.ok scFirst (fun vs H Q E h => ?_) (fun cdv A outer s H vs Q E hr h => ?_)
  · obtain ⟨a, z, f, rfl, _⟩ := h
    rfl
  · obtain ⟨a, z, f, rfl, hz, hB, q⟩ := h
    refine ⟨_, pss_one (ps_ret (pe_ix ix_list (pe_lc (own := [("at", 1), ("size", 2)]) (g := gTup K 2 (gCons (gName 1) (gCons (gName 2) gNil))) rfl scFirst.nd (pi_enum (by rfl) me (pa_cons (pv 0) pa_nil)) (blkOk_by (N := ["sizes", "at", "size"]) (sc := defScope sFirst) (by decide +kernel))
      (fun _ _ _ _ _ => pg_tup rfl (pgs_cons (pg_name (i := 1) scFirst.nd rfl (Or.inl rfl)) (pgs_cons (pg_name (i := 2) scFirst.nd rfl (Or.inl rfl)) pgs_nil)))
      (fun _ _ _ _ _ => pts_one (pt_cmpR op_notN (pv 2) pe_non (nomark _))) (fun _ _ _ _ _ => pv 1)) pe_int (fun _ _ => rfl))), ?_⟩
    obtain ⟨h0, vs, hl, hvl, hall⟩ := hz
    have hf : f < z.length := by
      obtain ⟨⟨x, hx⟩, _⟩ := hB
      exact at_lt hx
    refine ⟨.ref a, rfl, a, vs, rfl, hl, fun D hD => ?_⟩
    refine lc_it (walk_enum (K := K) (a := a) (xs := vs)) (fun i H' => Same H H' ∧ ∃ acc, H' D = some (.lst acc) ∧ FirstAcc f i acc) ⟨same_upd hD, [], upd_same, Nat.zero_le _, fun _ => rfl, fun q => by omega⟩
      (fun i H' _ hp => hp.1.seq hl) (fun i v H1 H2 hi hp hy => ?_) (fun H1 hp => ?_)
    · obtain ⟨s1, acc, eD, hacc⟩ := hp
      obtain ⟨T, x, y, rfl, nT, rfl, ex, ey⟩ := hy
      cases ex
      have eD' : (upd H1 T (.tup [.int (i : Nat), y])) D = some (.lst acc) := by
        rw [upd_ne (ne_of_none eD nT)]
        exact eD
      have s2 : Same H (upd H1 T (.tup [.int (i : Nat), y])) := s1.trans (same_upd nT)
      have o := (hall i y ey).same s2
      refine ⟨T, _, rfl, .inl (.inl upd_same), rfl, _, _, rfl, _, _, rfl, rfl, rfl, y, rfl, rfl, _, rfl, ?_⟩
      rw [isO_non o]
      cases ez : at' z i with
      | none =>
        refine iteF ?_
        exact ⟨s2, acc, eD', hacc.skip hB ez⟩
      | some r =>
        refine iteT ?_
        have hlen := hacc.1
        exact ⟨_, rfl, acc, eD', small1000 (by omega), same_new s2 hD, _, upd_same, hacc.take hB ez⟩
    · obtain ⟨s1, acc, eD, hacc⟩ := hp
      exact ⟨D, acc, 0, _, rfl, rfl, .inl (.inl eD), atI_nat (j := 0) (hacc.2.2 (by omega)), q H1 s1⟩
theorem ok_begin {f : Addr} {fd : FuncData} {k : Nat} (F : Fun K "_law_begin" "_law_begin" sBegin f fd) (ml : mg "len" = none) (mr : mg "range" = none) : FnOk P w K mg base CX0 (k + 1) f fd ["_law_sizes_here"] (spBegin K) := by
  refine F.ok scBegin (fun vs H Q E h => ?_) (fun cdv A outer s H vs Q E hr h => ?_)
  · obtain ⟨a, z, f, rfl, _⟩ := h
    rfl
  · obtain ⟨a, z, f, rfl, hz, hB, q⟩ := h
    refine ⟨_, pss_one (ps_ret (pe_ix ix_list (pe_lc (own := [("_law_k", 1)]) rfl scBegin.nd (pi_range1 (by rfl) mr (pa_cons (pe_callB call_len_seq (by rfl) ml PySem.boot_len (pa_cons (pv 0) pa_nil)) pa_nil)) (blkOk_by (N := ["_law_sizes_here", "_law_k"]) (sc := defScope sBegin) (by decide +kernel))
      (fun _ _ _ _ _ => pg_name (i := 1) scBegin.nd rfl (Or.inl rfl))
      (fun _ _ _ _ _ => pts_one (pt_cmpR op_notN (pe_ix (r := rIxL K) ix_list (pv 0) (pv 1) (fun _ _ => rfl)) pe_non (nomark _))) (fun _ _ _ _ _ => pv 1)) pe_int (fun _ _ => rfl))), ?_⟩
    obtain ⟨h0, vs, hl, hvl, hall⟩ := hz
    have hz : IsSz K H a z := ⟨h0, vs, hl, hvl, hall⟩
    have hf : f < z.length := by
      obtain ⟨⟨x, hx⟩, _⟩ := hB
      exact at_lt hx
    refine ⟨.ref a, rfl, a, vs, rfl, .inl hl, (vs.length : Nat), rfl, by omega, by omega, fun D hD => ?_⟩
    refine lc_range (lo := 0) (n := ((vs.length : Nat) : Int).toNat) (fun i H' => Same H H' ∧ ∃ acc, H' D = some (.lst acc) ∧ FirstAcc f i acc) ⟨same_upd hD, [], upd_same, Nat.zero_le _, fun _ => rfl, fun q => by omega⟩
      (fun i H1 hi hp => ?_) (fun H1 hp => ?_)
    · obtain ⟨s1, acc, eD, hacc⟩ := hp
      have ei : (0 : Int) + (i : Int) = ((i : Nat) : Int) := by omega
      rw [ei]
      obtain ⟨vs1, v, l1, e1, i1, o1⟩ := (hz.same s1).get (t := i) (by omega)
      refine ⟨rfl, .ref a, rfl, .int _, rfl, a, vs1, _, v, rfl, rfl, l1, atI_nat i1, rfl, _, rfl, ?_⟩
      rw [isO_non o1]
      cases ez : at' z i with
      | none =>
        refine iteF ?_
        exact ⟨s1, acc, eD, hacc.skip hB ez⟩
      | some r =>
        refine iteT ?_
        have hlen := hacc.1
        exact ⟨_, rfl, acc, eD, small1000 (by omega), same_new s1 hD, _, upd_same, hacc.take hB ez⟩
    · obtain ⟨s1, acc, eD, hacc⟩ := hp
      exact ⟨D, acc, 0, _, rfl, rfl, .inl (.inl eD), atI_nat (j := 0) (hacc.2.2 (by omega)), q H1 s1⟩
/-! ### sides -/
theorem scSides : FnScope ["sizes", "found", "s", "t", "slope"] ["sizes"] (defScope sSides) := ⟨rfl, rfl, rfl, by decide +kernel, rfl, by decide +kernel, by decide +kernel⟩
/-- the value is a side -/
def IsSd1 (K : PySem.W.Frag) (H : Hp) (v : V) (p : Sd) : Prop := ∃ b c, v = .ref b ∧ SqT K H b [.int (p.1 : Nat), .int (p.2.1 : Nat), c] ∧ IsQ K H c p.2.2
/-- at a stands the list of the sides L -/
def IsSd (K : PySem.W.Frag) (H : Hp) (a : Addr) (L : List Sd) : Prop := ∃ vs, SqL K H a vs ∧ Paired (IsSd1 K H) vs L
theorem IsSd1.same {K : PySem.W.Frag} {H H' : Hp} {v : V} {p : Sd} (e : Same H H') (h : IsSd1 K H v p) : IsSd1 K H' v p := by
  obtain ⟨b, c, rfl, h1, h2⟩ := h
  exact ⟨b, c, rfl, same_tup e h1, h2.same e⟩
theorem IsSd.same {K : PySem.W.Frag} {H H' : Hp} {a : Addr} {L : List Sd} (e : Same H H') (h : IsSd K H a L) : IsSd K H' a L := by
  obtain ⟨vs, h1, h2⟩ := h
  exact ⟨vs, e.seq h1, Paired.mapP h2 fun _ _ q => q.same e⟩
theorem paired_snoc {α β : Type} {R : α → β → Prop} {a : α} {b : β} (h : R a b) : ∀ {l : List α} {m : List β}, Paired R l m → Paired R (l ++ [a]) (m ++ [b])
  | _, _, .nil => .cons h .nil
  | _, _, .cons q t => .cons q (paired_snoc h t)
/-- the last size is there -/
def LastSome (z : Sz) : Prop := ∃ x, at' z (z.length - 1) = some x
def spSides (K : PySem.W.Frag) : Sp := fun vs H Q _ => ∃ (a : Addr) (z : Sz) (f : Nat), vs = [.ref a] ∧ IsSz K H a z ∧ Begin z f ∧ LastSome z ∧ SmZ 400 z ∧ ∀ H' p L, Same H H' → IsSd K H' p L → IsSides z L → Q (.ref p) H'
theorem ok_sides {f f1 f2 : Addr} {fd fd1 fd2 : FuncData} (F : Fun K "sides" "sides" sSides f fd) (ml : mg "len" = none)
    (F1 : Fun K "first_place" "first_place" sFirst f1 fd1) (b1 : Binds K fd1 ["sizes"] []) (g1 : mg "first_place" = some (.ref f1)) (G1 : FnOk P w K mg base CX0 1 f1 fd1 ["sizes"] (spBegin K))
    (F2 : Fun K "next_corner" "next_corner" sCorner f2 fd2) (b2 : Binds K fd2 ["sizes", "s"] []) (g2 : mg "next_corner" = some (.ref f2)) (G2 : FnOk P w K mg base CX0 5 f2 fd2 ["sizes", "s"] (spCorner K)) :
    FnOk P w K mg base CX0 6 f fd ["sizes"] (spSides K) := by
  refine F.ok scSides (fun vs H Q E h => ?_) (fun cdv A outer s H vs Q E hr h => ?_)
  · obtain ⟨a, z, f, rfl, _⟩ := h
    rfl
  · obtain ⟨a, z, f, rfl, hz, hB, hL, sm, q⟩ := h
    refine ⟨_, pss_cons (ps_set (i := 1) scSides.nd rfl (.inl rfl) (pe_lst pa_nil))
      (pss_cons (ps_set (i := 2) scSides.nd rfl (.inl rfl) (pe_call G1 (hr.mono (by decide)) (by rfl) g1 F1.kp b1 .nil pass0 (pa_cons (pv 0) pa_nil)))
      (pss_cons (ps_while PassesOwn.never (pt_cmpR op_lt (pv 2) (pe_op op_sub (pe_callB call_len_seq (by rfl) ml PySem.boot_len (pa_cons (pv 0) pa_nil)) pe_int) (nomark _))
        (pss_cons (ps_asg (pe_call G2 hr (by rfl) g2 F2.kp b2 .nil pass0 (pa_cons (pv 0) (pa_cons (pv 2) pa_nil))) (pg_tup rfl (pgs_cons (pg_name (i := 3) scSides.nd rfl (.inl rfl)) (pgs_cons (pg_name (i := 4) scSides.nd rfl (.inl rfl)) pgs_nil))))
        (pss_cons (ps_expr (pe_bm PySem.F.plainAttrs_list PySem.F.slot_list_append PySem.F.type_list_append mt_append (pv 1) (pa_cons (pe_tup (pa_cons (pv 2) (pa_cons (pv 3) (pa_cons (pv 4) pa_nil)))) pa_nil)))
        (pss_one (ps_set (i := 2) scSides.nd rfl (.inl rfl) (pv 3))))))
      (pss_one (ps_ret (pv 1))))), ?_⟩
    have h0 := hz.1
    refine ⟨Nat.zero_le _, fun D hD => ?_⟩
    have s0 : Same H (upd H D (.lst [])) := same_upd hD
    refine ⟨.ref a, rfl, a, z, f, rfl, hz.same s0, hB, fun H1 s1 => ?_⟩
    refine while_by (fun σ H' => ∃ (s : Nat) (L : List Sd) (vs : List V) (y3 y4 : Option V), σ = [some (.ref a), some (.ref D), some (.int (s : Nat)), y3, y4] ∧ Same H H' ∧ H' D = some (.lst vs) ∧ Paired (IsSd1 K H') vs L ∧ SInv z L s)
      (fun σ _ => match σ with | [_, _, some (.int s), _, _] => z.length - s.toNat | _ => 0) ⟨f, [], [], none, none, rfl, s0.trans s1, s1 _ _ upd_same, .nil, SInv.start hB⟩ (fun σ H2 hp => ?_) (fun σ H' Q1 Q2 hm h => ?_)
    · obtain ⟨s, L, vs, y3, y4, rfl, s2, eD, hp, S⟩ := hp
      obtain ⟨_, zs, hl, hvl, hall⟩ := hz.same s2
      refine ⟨.int _, rfl, .ref a, rfl, a, zs, rfl, .inl hl, _, 1, rfl, rfl, _, _, rfl, rfl, _, rfl, ?_⟩
      have hlt := S.lt
      by_cases c : ((s : Nat) : Int) < ((zs.length : Nat) : Int) - 1
      · rw [decide_eq_true c]
        refine iteT ?_
        obtain ⟨x, hx⟩ := S.here
        refine ⟨.ref a, rfl, .int _, rfl, a, z, s, x, rfl, hz.same s2, hx, sm, fun H3 p v1 v2 r s3 hT hR B => ?_⟩
        match r, hR, B with
        | none, hR, B =>
          obtain ⟨y, hy⟩ := hL
          have := B (z.length - 1) (by omega) (by omega)
          rw [this] at hy
          cases hy
        | some (g, σ), hR, B =>
          obtain ⟨rfl, hq⟩ := hR
          refine ⟨p, _, rfl, hT, rfl, _, _, rfl, _, _, rfl, rfl, ?_⟩
          have eD3 := s3 _ _ eD
          refine ⟨.ref D, rfl, .inl ⟨rfl, _, .inl (.inl eD3)⟩, .int _, rfl, .int _, rfl, v2, rfl, (by show 3 ≤ sizeLine; decide), fun t ht => ?_⟩
          have eDt : (upd H3 t (.tup [.int (s : Nat), .int (g : Nat), v2])) D = some (.lst vs) := by
            rw [upd_ne (ne_of_none eD3 ht)]
            exact eD3
          have s4 : Same H2 (upd H3 t (.tup [.int (s : Nat), .int (g : Nat), v2])) := s3.trans (same_upd ht)
          have hlen : vs.length = L.length := hp.length
          have hfew := S.few
          refine ⟨D, _, _, rfl, rfl, eDt, small1000 (by omega), .int _, rfl, ⟨g, L ++ [(s, g, σ)], vs ++ [.ref t], _, _, rfl, same_new (s2.trans s4) hD, upd_same, ?_, S.next hx B⟩, ?_⟩
          · have k : ∀ {v : V} {pp : Sd}, IsSd1 K (upd H3 t (.tup [.int (s : Nat), .int (g : Nat), v2])) v pp → IsSd1 K (upd (upd H3 t (.tup [.int (s : Nat), .int (g : Nat), v2])) D (.lst (vs ++ [.ref t]))) v pp := fun {v pp} h => by
              obtain ⟨b, c, rfl, h1, h2⟩ := h
              obtain ⟨b', rfl, h3⟩ := h2
              have tk : ∀ {b : Addr} {xs : List V}, SqT K (upd H3 t (.tup [.int (s : Nat), .int (g : Nat), v2])) b xs → SqT K (upd (upd H3 t (.tup [.int (s : Nat), .int (g : Nat), v2])) D (.lst (vs ++ [.ref t]))) b xs := fun {b xs} h => by
                rcases h with (h | ⟨o, h⟩) | h
                · exact .inl (.inl (by rw [upd_ne (ne_of h eDt (by intro z; cases z))]; exact h))
                · exact .inl (.inr ⟨o, by rw [upd_ne (ne_of h eDt (by intro z; cases z))]; exact h⟩)
                · exact .inr h
              exact ⟨b, _, rfl, tk h1, b', rfl, tk h3⟩
            refine paired_snoc (k ⟨t, v2, rfl, .inl (.inl upd_same), hq.same (same_upd ht)⟩) (Paired.mapP hp fun v pp h => k (h.same s4))
          · have h1 := B.1
            show z.length - (g : Int).toNat < z.length - (s : Int).toNat
            have h2 := B.2.1
            omega
      · rw [decide_eq_false c]
        refine iteF ?_
        exact ⟨.ref D, rfl, q H2 D L s2 ⟨vs, .inl (.inl eD), hp⟩ (S.done (by omega))⟩
    · obtain ⟨v, e, v2, e2, p, xs, e3, h4, i, j, e5, e6, i1, j1, e7, e8, k, e9, h10⟩ := h
      exact ⟨v, e, v2, e2, p, xs, e3, h4, i, j, e5, e6, i1, j1, e7, e8, k, e9, hm _ _ h10⟩
end
end Bd
namespace Bd
open PySem PySem.Spec PyProof.Rows L2
/-- the least sum of sizes at places below n of a and those of b that come to k -/
def Least (a b : Sz) (k n : Nat) : Option Rat → Prop
  | none => ∀ i j x y, i < n → i + j = k → at' a i = some x → at' b j = some y → False
  | some z => (∃ i j x y, i + j = k ∧ at' a i = some x ∧ at' b j = some y ∧ z = x + y) ∧ ∀ i j x y, i < n → i + j = k → at' a i = some x → at' b j = some y → z ≤ x + y
theorem Least.start (a b : Sz) (k : Nat) : Least a b k 0 none := fun i j x y h => absurd h (Nat.not_lt_zero i)
theorem Least.skip {a b : Sz} {k n : Nat} {o : Option Rat} (L : Least a b k n o) (h : ∀ j x y, n + j = k → at' a n = some x → at' b j = some y → False) : Least a b k (n + 1) o := by
  cases o with
  | none =>
    intro i j x y h1 h2 h3 h4
    by_cases e : i = n
    · subst e
      exact h j x y h2 h3 h4
    · exact L i j x y (by omega) h2 h3 h4
  | some z =>
    refine ⟨L.1, fun i j x y h1 h2 h3 h4 => ?_⟩
    by_cases e : i = n
    · subst e
      exact (h j x y h2 h3 h4).elim
    · exact L.2 i j x y (by omega) h2 h3 h4
theorem Least.take {a b : Sz} {k n j : Nat} {o o' : Option Rat} {x y : Rat} (L : Least a b k n o) (hk : n + j = k) (hx : at' a n = some x) (hy : at' b j = some y) (h : (o' = some (x + y) ∧ ∀ z, o = some z → x + y ≤ z) ∨ ∃ z, o = some z ∧ o' = some z ∧ z ≤ x + y) : Least a b k (n + 1) o' := by
  have all : ∀ z, z ≤ x + y → (∀ i j x y, i < n → i + j = k → at' a i = some x → at' b j = some y → z ≤ x + y) → ∀ i j x y, i < n + 1 → i + j = k → at' a i = some x → at' b j = some y → z ≤ x + y := by
    intro z h1 h2 i j' x' y' h3 h4 h5 h6
    by_cases e : i = n
    · subst e
      have ej : j' = j := by omega
      subst ej
      rw [hx] at h5
      rw [hy] at h6
      cases h5
      cases h6
      exact h1
    · exact h2 i j' x' y' (by omega) h4 h5 h6
  rcases h with ⟨rfl, h⟩ | ⟨z, rfl, rfl, h⟩
  · refine ⟨⟨n, j, x, y, hk, hx, hy, rfl⟩, all _ Rat.le_refl ?_⟩
    cases o with
    | none => exact fun i j x y h1 h2 h3 h4 => (L i j x y h1 h2 h3 h4).elim
    | some z => exact fun i j x' y' h1 h2 h3 h4 => Rat.le_trans (h z rfl) (L.2 i j x' y' h1 h2 h3 h4)
  · exact ⟨L.1, all z h L.2⟩
theorem Least.sm {a b : Sz} {k n : Nat} {z : Rat} {ka kb : Nat} (ha : SmZ ka a) (hb : SmZ kb b) (L : Least a b k n (some z)) : Sm (ka + kb + 1) z := by
  obtain ⟨⟨i, j, x, y, _, h1, h2, rfl⟩, _⟩ := L
  exact add_sm (ha _ _ h1) (hb _ _ h2)
/-- all places done -/
theorem join_of {a b os : Sz} (hl : os.length = a.length + b.length - 1) (h : ∀ j, j < os.length → Least a b j a.length (at' os j)) : IsJoin a b os := by
  refine ⟨hl, fun k z hz => ?_, fun i j x y hx hy => ?_⟩
  · have L := h k (at_lt hz)
    rw [hz] at L
    exact L.1
  · have h1 := at_lt hx
    have h2 := at_lt hy
    have L := h (i + j) (by omega)
    cases e : at' os (i + j) with
    | none =>
      rw [e] at L
      exact (L i j x y h1 rfl hx hy).elim
    | some z =>
      rw [e] at L
      exact ⟨z, rfl, L.2 i j x y h1 rfl hx hy⟩
theorem join_sm {a b c : Sz} {ka kb : Nat} (J : IsJoin a b c) (ha : SmZ ka a) (hb : SmZ kb b) : SmZ (ka + kb + 1) c := by
  intro k z hz
  obtain ⟨i, j, x, y, _, h1, h2, rfl⟩ := J.from_ k z hz
  exact add_sm (ha _ _ h1) (hb _ _ h2)
section
variable {P : Program} {w : World} {K : PySem.W.Frag} {mg : Str → Option Value} {base : Heap}
/-! ### lesser -/
theorem scLesser : FnScope ["one", "other"] ["one", "other"] (defScope sLesser) := ⟨rfl, rfl, rfl, by decide +kernel, rfl, by decide +kernel, by decide +kernel⟩
def spLesser (K : PySem.W.Frag) : Sp := fun vs H Q _ => ∃ (v1 v2 : V) (o : Option Rat) (r : Rat), vs = [v1, v2] ∧ IsO K H v1 o ∧ IsQ K H v2 r ∧ (∀ x, o = some x → Sm 9000 x) ∧ Sm 9000 r ∧
  ∀ v o', IsO K H v o' → ((o' = some r ∧ ∀ z, o = some z → r ≤ z) ∨ ∃ z, o = some z ∧ o' = some z ∧ z ≤ r) → Q v H
theorem ok_lesser {f f1 : Addr} {fd fd1 : FuncData} {k : Nat} (F : Fun K "lesser" "lesser" sLesser f fd) (F1 : Fun K "is_less" "is_less" sIsLess f1 fd1) (b1 : Binds K fd1 ["u", "v"] []) (g1 : mg "is_less" = some (.ref f1))
    (G1 : FnOk P w K mg base CX0 k f1 fd1 ["u", "v"] (spIsLess K)) : FnOk P w K mg base CX0 (k + 1) f fd ["one", "other"] (spLesser K) := by
  refine F.ok scLesser (fun vs H Q E h => ?_) (fun cdv A outer s H vs Q E hr h => ?_)
  · obtain ⟨v1, v2, o, r, rfl, _⟩ := h
    rfl
  · obtain ⟨v1, v2, o, r, rfl, h1, h2, s1, s2, q⟩ := h
    refine ⟨_, pss_cons (ps_if (PW.pt (pw_or (pt_cmpR op_isN (pv 0) pe_non (nomark _)) (pw_or1 (PW.pt (pw_and (pt_cmpR op_notN (pv 1) pe_non (nomark _)) (pw_and1 (pt_val (pe_call G1 hr (by rfl) g1 F1.kp b1 .nil pass0 (pa_cons (pv 1) (pa_cons (pv 0) pa_nil)))))))))) 
      (pss_one (ps_ret (pv 1))) pss_nil) (pss_one (ps_ret (pv 0))), ?_⟩
    refine ⟨v1, rfl, rfl, _, rfl, ?_⟩
    rw [isO_non h1]
    cases o with
    | none =>
      refine iteT (iteT ?_)
      exact ⟨v2, rfl, q v2 (some r) h2 (.inl ⟨rfl, fun z e => by cases e⟩)⟩
    | some z =>
      refine iteF ?_
      refine ⟨v2, rfl, rfl, _, rfl, ?_⟩
      rw [isO_non (show IsO K H v2 (some r) from h2)]
      refine iteT ?_
      refine ⟨v2, rfl, v1, rfl, v2, v1, r, z, rfl, h2, h1, s2, s1 z rfl, _, rfl, ?_⟩
      by_cases c : r < z
      · rw [decide_eq_true c]
        refine iteT ?_
        exact ⟨v2, rfl, q v2 (some r) h2 (.inl ⟨rfl, fun z' e => by cases e; exact Rat.le_of_lt c⟩)⟩
      · rw [decide_eq_false c]
        refine iteF ?_
        exact ⟨v1, rfl, q v1 (some z) h1 (.inr ⟨z, rfl, rfl, Rat.not_lt.mp c⟩)⟩
/-! ### least_at -/
theorem scLeast : FnScope ["one", "other", "k", "found", "i"] ["one", "other", "k"] (defScope sLeast) := ⟨rfl, rfl, rfl, by decide +kernel, rfl, by decide +kernel, by decide +kernel⟩
def spLeast (K : PySem.W.Frag) : Sp := fun vs H Q _ => ∃ (a b : Addr) (x y : Sz) (k : Nat), vs = [.ref a, .ref b, .int (k : Nat)] ∧ IsSz K H a x ∧ IsSz K H b y ∧ SmZ 400 x ∧ SmZ 400 y ∧
  ∀ H' v o, Same H H' → IsO K H' v o → Least x y k x.length o → Q v H'
theorem ok_least {f f1 f2 : Addr} {fd fd1 fd2 : FuncData} (F : Fun K "least_at" "least_at" sLeast f fd) (ml : mg "len" = none) (mr : mg "range" = none)
    (F1 : Fun K "lesser" "lesser" sLesser f1 fd1) (b1 : Binds K fd1 ["one", "other"] []) (g1 : mg "lesser" = some (.ref f1)) (G1 : FnOk P w K mg base CX0 2 f1 fd1 ["one", "other"] (spLesser K))
    (F2 : Fun K "plus" "plus" sPlus f2 fd2) (b2 : Binds K fd2 ["u", "v"] []) (g2 : mg "plus" = some (.ref f2)) (G2 : FnOk P w K mg base CX0 3 f2 fd2 ["u", "v"] (spPlus K)) :
    FnOk P w K mg base CX0 4 f fd ["one", "other", "k"] (spLeast K) := by
  refine F.ok scLeast (fun vs H Q E h => ?_) (fun cdv A outer s H vs Q E hr h => ?_)
  · obtain ⟨a, b, x, y, k, rfl, _⟩ := h
    rfl
  · obtain ⟨a, b, x, y, k, rfl, hx, hy, sx, sy, q⟩ := h
    refine ⟨_, pss_cons (ps_set (i := 3) scLeast.nd rfl (.inl rfl) pe_non)
      (pss_cons (ps_for PassesOwn.never rfl (pi_range1 (by rfl) mr (pa_cons (pe_callB call_len_seq (by rfl) ml PySem.boot_len (pa_cons (pv 0) pa_nil)) pa_nil)) (pg_name (i := 4) scLeast.nd rfl (.inl rfl))
        (pss_one (ps_if (PW.pt (pw_and (pt_chain op_le op_lt pe_int (pe_op op_sub (pv 2) (pv 4)) (pe_callB call_len_seq (by rfl) ml PySem.boot_len (pa_cons (pv 1) pa_nil)))
            (pw_and (pt_cmpR op_notN (pe_ix ix_list (pv 0) (pv 4) (fun _ _ => rfl)) pe_non (nomark _))
            (pw_and1 (pt_cmpR op_notN (pe_ix ix_list (pv 1) (pe_op op_sub (pv 2) (pv 4)) (fun _ _ => rfl)) pe_non (nomark _))))))
          (pss_one (ps_set (i := 3) scLeast.nd rfl (.inl rfl) (pe_call G1 (hr.mono (by decide)) (by rfl) g1 F1.kp b1 .nil pass0 (pa_cons (pv 3)
            (pa_cons (pe_call G2 hr (by rfl) g2 F2.kp b2 .nil pass0 (pa_cons (pe_ix ix_list (pv 0) (pv 4) (fun _ _ => rfl)) (pa_cons (pe_ix ix_list (pv 1) (pe_op op_sub (pv 2) (pv 4)) (fun _ _ => rfl)) pa_nil))) pa_nil)))))
          pss_nil)))
      (pss_one (ps_ret (pv 3)))), ?_⟩
    obtain ⟨h0, vs, hl, hvl, hall⟩ := hx
    have hx : IsSz K H a x := ⟨h0, vs, hl, hvl, hall⟩
    obtain ⟨h0', us, hl', hul, hall'⟩ := hy
    have hy : IsSz K H b y := ⟨h0', us, hl', hul, hall'⟩
    refine ⟨.ref a, rfl, a, vs, rfl, .inl hl, (vs.length : Nat), rfl, by omega, by omega, ?_⟩
    refine for_range (lo := 0) (n := ((vs.length : Nat) : Int).toNat) (fun i σ H' => ∃ o v3 y4, σ = [some (.ref a), some (.ref b), some (.int (k : Nat)), some v3, y4] ∧ Same H H' ∧ IsO K H' v3 o ∧ Least x y k i o)
      ⟨none, .non, none, rfl, Same.refl _, rfl, Least.start x y k⟩ (fun i σ H1 hi hp => ?_) (fun σ H1 hp => ?_)
    · obtain ⟨o, v3, y4, rfl, s1, ho, L⟩ := hp
      have ei : (0 : Int) + (i : Int) = ((i : Nat) : Int) := by omega
      rw [ei]
      refine ⟨.int _, rfl, .int _, rfl, _, _, rfl, rfl, 0, _, rfl, rfl, _, rfl, ?_⟩
      by_cases c1 : (0 : Int) ≤ (k : Int) - (i : Int)
      · rw [decide_eq_true c1]
        refine iteT ?_
        refine ⟨.ref b, rfl, b, us, rfl, .inl (s1.seq hl'), _, _, rfl, rfl, _, rfl, ?_⟩
        by_cases c2 : (k : Int) - (i : Int) < ((us.length : Nat) : Int)
        · rw [decide_eq_true c2]
          refine iteT ?_
          have ek : (k : Int) - (i : Int) = ((k - i : Nat) : Int) := by omega
          have hki : i + (k - i) = k := by omega
          obtain ⟨vs1, v, l1, e1, i1, o1⟩ := (hx.same s1).get (t := i) (by omega)
          obtain ⟨us1, u, l2, e2, i2, o2⟩ := (hy.same s1).get (t := k - i) (by omega)
          refine ⟨.ref a, rfl, .int _, rfl, a, vs1, _, v, rfl, rfl, l1, atI_nat i1, rfl, _, rfl, ?_⟩
          rw [isO_non o1]
          cases ex : at' x i with
          | none =>
            refine iteF (iteF ?_)
            exact ⟨o, v3, _, rfl, s1, ho, L.skip fun j p r _ h => by rw [ex] at h; cases h⟩
          | some p =>
            refine iteT ?_
            refine ⟨.ref b, rfl, .int _, rfl, .int _, rfl, _, _, rfl, rfl, b, us1, _, u, rfl, rfl, l2, by rw [ek]; exact atI_nat i2, rfl, _, rfl, ?_⟩
            rw [isO_non o2]
            cases ey : at' y (k - i) with
            | none =>
              refine iteF ?_
              refine ⟨o, v3, _, rfl, s1, ho, L.skip fun j p' r h1 _ h => ?_⟩
              have ej : j = k - i := by omega
              rw [ej, ey] at h
              cases h
            | some r =>
              refine iteT ?_
              rw [ex] at o1
              rw [ey] at o2
              refine ⟨v3, rfl, .ref a, rfl, .int _, rfl, a, vs1, _, v, rfl, rfl, l1, atI_nat i1, .ref b, rfl, .int _, rfl, .int _, rfl, _, _, rfl, rfl, b, us1, _, u, rfl, rfl, l2, by rw [ek]; exact atI_nat i2, v, u, p, r, rfl, o1, o2, (sx _ _ ex).up (by decide), (sy _ _ ey).up (by decide), fun H2 t s2 ht => ?_⟩
              refine ⟨v3, t, o, p + r, rfl, ho.same s2, ht, fun z e => by subst e; exact (L.sm sx sy).up (by decide), (add_sm (sx _ _ ex) (sy _ _ ey)).up (by decide), fun v' o' hv' h' => ?_⟩
              exact ⟨o', v', _, rfl, s1.trans s2, hv', L.take hki ex ey h'⟩
        · rw [decide_eq_false c2]
          refine iteF (iteF ?_)
          refine ⟨o, v3, _, rfl, s1, ho, L.skip fun j p r h1 _ h => ?_⟩
          have := at_lt h
          omega
      · rw [decide_eq_false c1]
        refine iteF ⟨_, rfl, iteF (iteF ?_)⟩
        exact ⟨o, v3, _, rfl, s1, ho, L.skip fun j p r h1 _ h => by omega⟩
    · obtain ⟨o, v3, y4, rfl, s1, ho, L⟩ := hp
      rw [Int.toNat_natCast, hvl] at L
      exact ⟨v3, rfl, q H1 v3 o s1 ho L⟩
/-! ### joined -/
/-- a tuple stands as it is when a list changes -/
theorem tup_upd {H : Hp} {D b : Addr} {acc xs : List V} {o : HO} (eD : H D = some (.lst acc)) (h : SqT K H b xs) : SqT K (upd H D o) b xs := by
  rcases h with (h | ⟨o, h⟩) | h
  · exact .inl (.inl (by rw [upd_ne (ne_of h eD (by intro z; cases z))]; exact h))
  · exact .inl (.inr ⟨o, by rw [upd_ne (ne_of h eD (by intro z; cases z))]; exact h⟩)
  · exact .inr h
theorem isQ_upd {H : Hp} {D : Addr} {acc : List V} {ob : HO} {v : V} {q : Rat} (eD : H D = some (.lst acc)) (h : IsQ K H v q) : IsQ K (upd H D ob) v q := by
  obtain ⟨b, rfl, h⟩ := h
  exact ⟨b, rfl, tup_upd eD h⟩
theorem isO_upd {H : Hp} {D : Addr} {acc : List V} {ob : HO} {v : V} {o : Option Rat} (eD : H D = some (.lst acc)) (h : IsO K H v o) : IsO K (upd H D ob) v o := by
  cases o with
  | none => exact h
  | some q => exact isQ_upd eD h
theorem scJoined : FnScope ["one", "other", "k"] ["one", "other"] (defScope sJoined) := ⟨rfl, rfl, rfl, by decide +kernel, rfl, by decide +kernel, by decide +kernel⟩
def spJoined (K : PySem.W.Frag) : Sp := fun vs H Q _ => ∃ (a b : Addr) (x y : Sz), vs = [.ref a, .ref b] ∧ IsSz K H a x ∧ IsSz K H b y ∧ SmZ 400 x ∧ SmZ 400 y ∧ x.length + y.length ≤ 1000 ∧ 0 < x.length + y.length ∧
  ∀ H' p z, Same H H' → IsSz K H' p z → IsJoin x y z → Q (.ref p) H'
theorem at_snoc_last {os : Sz} {o : Option Rat} : at' (os ++ [o]) os.length = o := by
  unfold at'
  rw [List.getD_eq_getElem?_getD, List.getElem?_append_right (Nat.le_refl _), Nat.sub_self]
  rfl
theorem at_snoc {os : Sz} {o : Option Rat} {j : Nat} (h : j < os.length) : at' (os ++ [o]) j = at' os j := by
  unfold at'
  rw [List.getD_eq_getElem?_getD, List.getD_eq_getElem?_getD, List.getElem?_append_left h]
theorem ok_joined {f f1 : Addr} {fd fd1 : FuncData} {k : Nat} (F : Fun K "joined" "joined" sJoined f fd) (ml : mg "len" = none) (mr : mg "range" = none)
    (F1 : Fun K "least_at" "least_at" sLeast f1 fd1) (b1 : Binds K fd1 ["one", "other", "k"] []) (g1 : mg "least_at" = some (.ref f1)) (G1 : FnOk P w K mg base CX0 k f1 fd1 ["one", "other", "k"] (spLeast K)) :
    FnOk P w K mg base CX0 (k + 1) f fd ["one", "other"] (spJoined K) := by
  refine F.ok scJoined (fun vs H Q E h => ?_) (fun cdv A outer s H vs Q E hr h => ?_)
  · obtain ⟨a, b, x, y, rfl, _⟩ := h
    rfl
  · obtain ⟨a, b, x, y, rfl, hx, hy, sx, sy, hlen, hpos, q⟩ := h
    refine ⟨_, pss_one (ps_ret (pe_lc (own := [("k", 2)]) rfl scJoined.nd
      (pi_range1 (by rfl) mr (pa_cons (pe_op op_sub (pe_op op_add (pe_callB call_len_seq (by rfl) ml PySem.boot_len (pa_cons (pv 0) pa_nil)) (pe_callB call_len_seq (by rfl) ml PySem.boot_len (pa_cons (pv 1) pa_nil))) pe_int) pa_nil))
      (blkOk_by (N := ["one", "other", "k"]) (sc := defScope sJoined) (by decide +kernel))
      (fun _ _ _ _ _ => pg_name (i := 2) scJoined.nd rfl (Or.inl rfl))
      (fun _ _ _ _ _ => pts_nil) (fun _ _ _ _ _ => pe_call G1 hr (by rfl) g1 F1.kp b1 .nil pass0 (pa_cons (pv 0) (pa_cons (pv 1) (pa_cons (pv 2) pa_nil)))))), ?_⟩
    obtain ⟨h0, vs, hl, hvl, hall⟩ := hx
    have hx : IsSz K H a x := ⟨h0, vs, hl, hvl, hall⟩
    obtain ⟨h0', us, hl', hul, hall'⟩ := hy
    have hy : IsSz K H b y := ⟨h0', us, hl', hul, hall'⟩
    refine ⟨.ref a, rfl, a, vs, rfl, .inl hl, .ref b, rfl, b, us, rfl, .inl hl', _, _, rfl, rfl, _, 1, rfl, rfl, _, rfl, by omega, by omega, fun D hD => ?_⟩
    refine lc_range (lo := 0) (n := (((vs.length : Nat) : Int) + ((us.length : Nat) : Int) - 1).toNat) (fun i H' => Same H H' ∧ ∃ acc os, H' D = some (.lst acc) ∧ acc.length = i ∧ os.length = i ∧ (∀ j v, acc[j]? = some v → IsO K H' v (at' os j)) ∧ ∀ j, j < i → Least x y j x.length (at' os j))
      ⟨same_upd hD, [], [], upd_same, rfl, rfl, fun j v e => (by cases e), fun j h => absurd h (Nat.not_lt_zero j)⟩
      (fun i H1 hi hp => ?_) (fun H1 hp => ?_)
    · obtain ⟨s1, acc, os, eD, e1, e2, e3, e4⟩ := hp
      have ei : (0 : Int) + (i : Int) = ((i : Nat) : Int) := by omega
      rw [ei]
      refine ⟨rfl, .ref a, rfl, .ref b, rfl, .int _, rfl, a, b, x, y, i, rfl, hx.same s1, hy.same s1, sx, sy, fun H2 v o s2 ho L => ?_⟩
      have s3 := s1.trans s2
      have eD2 := s2 _ _ eD
      refine ⟨acc, eD2, small1000 (by omega), same_new s3 hD, acc ++ [v], os ++ [o], upd_same, by rw [List.length_append, e1]; rfl, by rw [List.length_append, e2]; rfl, fun j u hj => isO_upd eD2 ?_, fun j hj => ?_⟩
      · by_cases c : j < i
        · rw [List.getElem?_append_left (by omega)] at hj
          rw [at_snoc (by omega)]
          exact (e3 j u hj).same s2
        · have hj2 : j < (acc ++ [v]).length := (List.getElem?_eq_some_iff.mp hj).1
          rw [List.length_append] at hj2
          have hj3 : j < acc.length + 1 := hj2
          have ej : j = acc.length := by omega
          subst ej
          rw [List.getElem?_append_right (Nat.le_refl _), Nat.sub_self] at hj
          have ev : v = u := Option.some.inj hj
          subst ev
          have : acc.length = os.length := by omega
          rw [this, at_snoc_last]
          exact ho
      · by_cases c : j < i
        · rw [at_snoc (by omega)]
          exact e4 j c
        · have ej : j = os.length := by omega
          subst ej
          rw [at_snoc_last, e2]
          exact L
    · obtain ⟨s1, acc, os, eD, e1, e2, e3, e4⟩ := hp
      have e5 : (((vs.length : Nat) : Int) + ((us.length : Nat) : Int) - 1).toNat = x.length + y.length - 1 := by omega
      rw [e5] at e1 e2 e4
      exact q H1 D os s1 ⟨by omega, acc, .inl (.inl eD), by omega, e3⟩ (join_of e2 (by rw [e2]; exact e4))
end
end Bd
namespace Bd
open PySem PySem.Spec PyProof.Rows L2
/-- a bag of digits -/
def Bag (H : Hp) (p : Addr) : Prop := ∃ g r : Int, H p = some (.lst [.int g, .int r]) ∧ 0 ≤ g ∧ 0 ≤ r ∧ r < 2 ^ 31
/-- all that was tracked but p is as it was -/
def But (p : Addr) (H H' : Hp) : Prop := ∀ b o, b ≠ p → H b = some o → H' b = some o
theorem But.refl (p : Addr) (H : Hp) : But p H H := fun _ _ _ h => h
theorem But.trans {p : Addr} {H H1 H2 : Hp} (a : But p H H1) (b : But p H1 H2) : But p H H2 := fun c o hc h => b c o hc (a c o hc h)
theorem same_but {H H' : Hp} (s : Same H H') (p : Addr) : But p H H' := fun b o _ h => s b o h
theorem but_upd (p : Addr) (H : Hp) (o : HO) : But p H (upd H p o) := fun b u hb h => by
  rw [upd_ne hb]
  exact h
theorem but_new {p q : Addr} {H H' : Hp} {o : HO} (s : But p H H') (h : H q = none) : But p H (upd H' q o) := fun b x hb e => by
  rw [upd_ne (ne_of_none e h)]
  exact s b x hb e
/-- p was new: nothing that was there has changed -/
theorem But.same {p : Addr} {H H' : Hp} (s : But p H H') (h : H p = none) : Same H H' := fun b o e => s b o (ne_of_none e h) e
theorem tup_but {K : PySem.W.Frag} {H H' : Hp} {p b : Addr} {acc xs : List V} (s : But p H H') (e : H p = some (.lst acc)) (h : SqT K H b xs) : SqT K H' b xs := by
  rcases h with (h | ⟨o, h⟩) | h
  · exact .inl (.inl (s _ _ (ne_of h e (by intro z; cases z)) h))
  · exact .inl (.inr ⟨o, s _ _ (ne_of h e (by intro z; cases z)) h⟩)
  · exact .inr h
theorem isO_but {K : PySem.W.Frag} {H H' : Hp} {p : Addr} {acc : List V} {v : V} {o : Option Rat} (s : But p H H') (e : H p = some (.lst acc)) (h : IsO K H v o) : IsO K H' v o := by
  cases o with
  | none => exact h
  | some q =>
    obtain ⟨b, rfl, h⟩ := h
    exact ⟨b, rfl, tup_but s e h⟩
theorem begin_any {z : Sz} : ∀ {k : Nat} {x : Rat}, at' z k = some x → ∃ f, Begin z f := by
  intro k
  induction k using Nat.strongRecOn with
  | ind k ih =>
    intro x hx
    by_cases h : ∃ j, j < k ∧ ∃ y, at' z j = some y
    · obtain ⟨j, hj, y, hy⟩ := h
      exact ih j hj hy
    · refine ⟨k, ⟨x, hx⟩, fun j hj => ?_⟩
      cases e : at' z j with
      | none => rfl
      | some y => exact (h ⟨j, hj, y, e⟩).elim
section
variable {P : Program} {w : World} {K : PySem.W.Frag} {mg : Str → Option Value} {base : Heap}
/-! ### _law_bag -/
theorem scBag : FnScope ["_law_script", "_law_at", "_law_cell", "_law_great"] ["_law_script", "_law_at"] (defScope sBag) := ⟨rfl, rfl, rfl, by decide +kernel, rfl, by decide +kernel, by decide +kernel⟩
def spBag (K : PySem.W.Frag) : Sp := fun vs H Q _ => ∃ (a : Addr) (ns : List Int) (i : Nat), vs = [.ref a, .int (i : Nat)] ∧ SqL K H a (ns.map V.int) ∧ ∀ H' p, Same H H' → H p = none → Bag H' p → Q (.ref p) H'
theorem ok_bag {f : Addr} {fd : FuncData} {k : Nat} (F : Fun K "_law_bag" "_law_bag" sBag f fd) (ml : mg "len" = none) (ma : mg "abs" = none) : FnOk P w K mg base CX0 (k + 1) f fd ["_law_script", "_law_at"] (spBag K) := by
  refine F.ok scBag (fun vs H Q E h => ?_) (fun cdv A outer s H vs Q E hr h => ?_)
  · obtain ⟨a, ns, i, rfl, _⟩ := h
    rfl
  · obtain ⟨a, ns, i, rfl, hl, q⟩ := h
    refine ⟨_, pss_cons (ps_set (i := 2) scBag.nd rfl (.inl rfl) pe_int)
      (pss_cons (ps_if (pt_cmpR op_lt (pv 1) (pe_callB call_len_seq (by rfl) ml PySem.boot_len (pa_cons (pv 0) pa_nil)) (nomark _)) (pss_one (ps_set (i := 2) scBag.nd rfl (.inl rfl) (pe_ix ix_list (pv 0) (pv 1) (fun _ _ => rfl)))) pss_nil)
      (pss_cons (ps_set (i := 3) scBag.nd rfl (.inl rfl) pe_int)
      (pss_cons (ps_if (pt_cmpR op_ge (pe_callB call_abs (by rfl) ma (by decide +kernel) (pa_cons (pv 2) pa_nil)) (pe_op op_pow pe_int pe_int) (nomark _)) (pss_one (ps_set (i := 3) scBag.nd rfl (.inl rfl) (pe_callB call_abs (by rfl) ma (by decide +kernel) (pa_cons (pv 2) pa_nil)))) pss_nil)
      (pss_one (ps_ret (pe_lst (pa_cons (pv 3) (pa_cons (pe_op op_add (pe_op op_mod (pe_op op_add (pe_op op_add (pv 2) (pe_op op_mul pe_int (pv 1))) pe_int) pe_int) pe_int) pa_nil)))))))), ?_⟩
    have hb : ∀ n : Int, 0 ≤ n % 2147483629 + 1 ∧ n % 2147483629 + 1 < 2 ^ 31 := fun n => by
      have h1 := Int.emod_nonneg n (show (2147483629 : Int) ≠ 0 by decide)
      have h2 := Int.emod_lt_of_pos n (show (0 : Int) < 2147483629 by decide)
      omega
    have ha : ∀ n : Int, 0 ≤ (if n < 0 then -n else n) := fun n => by
      split <;> omega
    refine ⟨.int _, rfl, .ref a, rfl, a, _, rfl, .inl hl, _, _, rfl, rfl, _, rfl, ite2 (fun c1 => ?_) (fun c1 => ?_)⟩
    · have c2 := of_decide_eq_true c1
      rw [List.length_map] at c2
      refine ⟨.ref a, rfl, .int _, rfl, a, _, _, .int (ns[i]'(by omega)), rfl, rfl, hl, atI_nat (j := i) (by rw [List.getElem?_map, List.getElem?_eq_getElem (by omega)]; rfl), ?_⟩
      refine ⟨_, rfl, _, rfl, 10, 18, rfl, rfl, ⟨by decide, by decide, by decide⟩, _, _, rfl, rfl, _, rfl, ite2 (fun c3 => ?_) (fun c3 => ?_)⟩
      · refine ⟨_, rfl, _, rfl, ?_⟩
        refine ⟨_, rfl, _, rfl, _, rfl, _, _, rfl, rfl, .inl ⟨by decide, by decide⟩, _, _, rfl, rfl, _, _, rfl, rfl, _, _, rfl, rfl, (by show (0 : Int) < 2147483629; decide), _, _, rfl, rfl, (by show 2 ≤ sizeLine; decide), fun p hp => ?_⟩
        refine q _ p (same_upd hp) hp ⟨_, _, upd_same, ?_, (hb _).1, (hb _).2⟩
        exact ha _
      · skip
        refine ⟨_, rfl, _, rfl, _, rfl, _, _, rfl, rfl, .inl ⟨by decide, by decide⟩, _, _, rfl, rfl, _, _, rfl, rfl, _, _, rfl, rfl, (by show (0 : Int) < 2147483629; decide), _, _, rfl, rfl, (by show 2 ≤ sizeLine; decide), fun p hp => ?_⟩
        refine q _ p (same_upd hp) hp ⟨_, _, upd_same, ?_, (hb _).1, (hb _).2⟩
        exact Int.le_refl 0
    · skip
      refine ⟨_, rfl, _, rfl, 10, 18, rfl, rfl, ⟨by decide, by decide, by decide⟩, _, _, rfl, rfl, _, rfl, ite2 (fun c3 => ?_) (fun c3 => ?_)⟩
      · refine ⟨_, rfl, _, rfl, ?_⟩
        refine ⟨_, rfl, _, rfl, _, rfl, _, _, rfl, rfl, .inl ⟨by decide, by decide⟩, _, _, rfl, rfl, _, _, rfl, rfl, _, _, rfl, rfl, (by show (0 : Int) < 2147483629; decide), _, _, rfl, rfl, (by show 2 ≤ sizeLine; decide), fun p hp => ?_⟩
        refine q _ p (same_upd hp) hp ⟨_, _, upd_same, ?_, (hb _).1, (hb _).2⟩
        exact ha _
      · skip
        refine ⟨_, rfl, _, rfl, _, rfl, _, _, rfl, rfl, .inl ⟨by decide, by decide⟩, _, _, rfl, rfl, _, _, rfl, rfl, _, _, rfl, rfl, (by show (0 : Int) < 2147483629; decide), _, _, rfl, rfl, (by show 2 ≤ sizeLine; decide), fun p hp => ?_⟩
        refine q _ p (same_upd hp) hp ⟨_, _, upd_same, ?_, (hb _).1, (hb _).2⟩
        exact Int.le_refl 0
/-! ### _law_take -/
theorem scTake : FnScope ["_law_bag_here", "_law_many", "_law_digit"] ["_law_bag_here", "_law_many"] (defScope sTake) := ⟨rfl, rfl, rfl, by decide +kernel, rfl, by decide +kernel, by decide +kernel⟩
def spTake (K : PySem.W.Frag) : Sp := fun vs H Q _ => ∃ (p : Addr) (m : Int), vs = [.ref p, .int m] ∧ 0 < m ∧ m < 1099511627776 ∧ Bag H p ∧ ∀ H' (d : Int), 0 ≤ d → d < m → But p H H' → Bag H' p → Q (.int d) H'
theorem ok_take {f : Addr} {fd : FuncData} {k : Nat} (F : Fun K "_law_take" "_law_take" sTake f fd) : FnOk P w K mg base CX0 (k + 1) f fd ["_law_bag_here", "_law_many"] (spTake K) := by
  refine F.ok scTake (fun vs H Q E h => ?_) (fun cdv A outer s H vs Q E hr h => ?_)
  · obtain ⟨p, m, rfl, _⟩ := h
    rfl
  · obtain ⟨p, m, rfl, hm, hm2, ⟨g, r, eB, hg, hr0, hr1⟩, q⟩ := h
    refine ⟨_, pss_cons (ps_if (pt_cmpR op_gt (pe_ix ix_list (pv 0) pe_int (fun _ _ => rfl)) pe_int (nomark _))
        (pss_cons (ps_set (i := 2) scTake.nd rfl (.inl rfl) (pe_op op_mod (pe_ix ix_list (pv 0) pe_int (fun _ _ => rfl)) (pv 1)))
        (pss_cons (ps_asg (pe_op op_fdivW (pe_ix ix_list (pv 0) pe_int (fun _ _ => rfl)) (pv 1)) (pg_sub (pv 0) pe_int set_list))
        (pss_one (ps_ret (pv 2))))) pss_nil)
      (pss_cons (ps_asg (pe_op op_mod (pe_op op_add (pe_op op_mul (pe_ix ix_list (pv 0) pe_int (fun _ _ => rfl)) pe_int) pe_int) pe_int) (pg_sub (pv 0) pe_int set_list))
      (pss_one (ps_ret (pe_op op_mod (pe_op op_mod (pe_op op_mul (pe_op op_fdiv (pe_ix ix_list (pv 0) pe_int (fun _ _ => rfl)) pe_int) pe_int) pe_int) (pv 1))))), ?_⟩
    have hl : SqL K H p [.int g, .int r] := .inl (.inl eB)
    have e40 : (2 : Nat) ^ 40 = 1099511627776 := by decide
    have hmn : m.natAbs < 2 ^ 40 := by
      rw [e40]
      omega
    have hw : CDivW g m := wide_div hm hmn (by decide) (by decide)
    refine ⟨.ref p, rfl, p, _, 0, _, rfl, rfl, hl, atI_nat (j := 0) rfl, g, 0, rfl, rfl, _, rfl, ite2 (fun c => ?_) (fun c => ?_)⟩
    · refine ⟨.ref p, rfl, p, _, 0, _, rfl, rfl, hl, atI_nat (j := 0) rfl, .int m, rfl, g, m, rfl, rfl, hm, ?_⟩
      refine ⟨.ref p, rfl, p, _, 0, _, rfl, rfl, hl, atI_nat (j := 0) rfl, .int m, rfl, g, m, rfl, rfl, hw, ?_⟩
      refine ⟨.ref p, rfl, p, _, 0, 0, rfl, rfl, eB, rfl, _, rfl, ?_⟩
      exact q _ _ (Int.emod_nonneg _ (by omega)) (Int.emod_lt_of_pos _ hm) (but_upd _ _ _) ⟨_, _, upd_same, Int.ediv_nonneg hg (by omega), hr0, hr1⟩
    · refine ⟨.ref p, rfl, p, _, 1, _, rfl, rfl, hl, atI_nat (j := 1) rfl, r, 48271, rfl, rfl, .inl ⟨by omega, by omega⟩, _, 11, rfl, rfl, _, 2147483647, rfl, rfl, (by show (0 : Int) < 2147483647; decide), ?_⟩
      have h1 := Int.emod_nonneg (r * 48271 + 11) (show (2147483647 : Int) ≠ 0 by decide)
      have h2 := Int.emod_lt_of_pos (r * 48271 + 11) (show (0 : Int) < 2147483647 by decide)
      refine ⟨.ref p, rfl, p, _, 1, 1, rfl, rfl, eB, rfl, ?_⟩
      refine ⟨.ref p, rfl, p, [.int g, .int ((r * 48271 + 11) % 2147483647)], 1, _, rfl, rfl, .inl (.inl upd_same), atI_nat (j := 1) rfl, _, 8, rfl, rfl, ⟨by decide, by decide⟩, _, 69621, rfl, rfl, .inr ⟨by decide, by decide⟩, _, 2147483629, rfl, rfl, (by show (0 : Int) < 2147483629; decide), .int m, rfl, _, m, rfl, rfl, hm, ?_⟩
      exact q _ _ (Int.emod_nonneg _ (by omega)) (Int.emod_lt_of_pos _ hm) (but_upd _ _ _) ⟨_, _, upd_same, hg, h1, by omega⟩
/-! ### _law_low -/
theorem scLow : FnScope ["_law_top", "_law_bottom", "_law_one", "_law_other", "_law_rest"] ["_law_top", "_law_bottom"] (defScope sLow) := ⟨rfl, rfl, rfl, by decide +kernel, rfl, by decide +kernel, by decide +kernel⟩
def spLow (K : PySem.W.Frag) : Sp := fun vs H Q _ => ∃ a b : Int, vs = [.int a, .int b] ∧ 0 < b ∧ b.natAbs < 2 ^ 9000 ∧ ∀ H' v, Same H H' → IsQ K H' v (Rat.divInt a b) → Q v H'
theorem abs_gcd (a b : Int) : Int.gcd (if a < 0 then -a else a) (if b < 0 then -b else b) = Int.gcd a b := by
  have h : ∀ x : Int, (if x < 0 then -x else x).natAbs = x.natAbs := fun x => by
    split
    · exact Int.natAbs_neg x
    · rfl
  show Nat.gcd _ _ = Nat.gcd _ _
  rw [h, h]
theorem ok_low {f : Addr} {fd : FuncData} {k : Nat} (F : Fun K "_law_low" "_law_low" sLow f fd) (ma : mg "abs" = none) : FnOk P w K mg base CX0 (k + 1) f fd ["_law_top", "_law_bottom"] (spLow K) := by
  refine F.ok scLow (fun vs H Q E h => ?_) (fun cdv A outer s H vs Q E hr h => ?_)
  · obtain ⟨a, b, rfl, _⟩ := h
    rfl
  · obtain ⟨a, b, rfl, hb, hs, q⟩ := h
    refine ⟨_, pss_cons (ps_par (i := 2) (j := 3) (by rfl) scLow.nd rfl rfl (by decide) rfl rfl (pa_cons (pe_callB call_abs (by rfl) ma (by decide +kernel) (pa_cons (pv 0) pa_nil)) (pa_cons (pe_callB call_abs (by rfl) ma (by decide +kernel) (pa_cons (pv 1) pa_nil)) pa_nil)) (by rfl))
      (pss_cons (ps_while PassesOwn.never (pt_cmpR op_gt (pv 3) pe_int (nomark _))
        (pss_cons (ps_set (i := 4) scLow.nd rfl (.inl rfl) (pe_op op_modN (pv 2) (pv 3)))
        (pss_cons (ps_set (i := 2) scLow.nd rfl (.inl rfl) (pv 3)) (pss_one (ps_set (i := 3) scLow.nd rfl (.inl rfl) (pv 4))))))
      (pss_cons (ps_if (pt_cmpR op_lt (pv 1) pe_int (nomark _)) (pss_one (ps_set (i := 2) scLow.nd rfl (.inl rfl) (pe_un un_neg (pv 2)))) pss_nil)
      (pss_one (ps_ret (pe_tup (pa_cons (pe_op op_fdivW (pv 0) (pv 2)) (pa_cons (pe_op op_fdivW (pv 1) (pv 2)) pa_nil))))))), ?_⟩
    refine ⟨.int a, rfl, a, rfl, .int b, rfl, b, rfl, _, _, rfl, ?_⟩
    refine while_by (fun σ H' => ∃ (x y : Int) (y4 : Option V), σ = [some (.int a), some (.int b), some (.int x), some (.int y), y4] ∧ 0 ≤ x ∧ 0 ≤ y ∧ Int.gcd x y = Int.gcd a b ∧ H' = H) (fun σ _ => match σ with | [_, _, _, some (.int y), _] => y.natAbs | _ => 0)
      ⟨_, _, none, rfl, by split <;> omega, by split <;> omega, abs_gcd a b, rfl⟩ (fun σ H' hp => ?_) (fun σ H' Q1 Q2 hm h => ?_)
    · obtain ⟨x, y, y4, rfl, hx, hy, hg, rfl⟩ := hp
      refine ⟨.int y, rfl, y, 0, rfl, rfl, _, rfl, ?_⟩
      by_cases e : 0 < y
      · rw [decide_eq_true e]
        refine iteT ?_
        have hm : x.fmod y = x % y := Int.fmod_eq_emod_of_nonneg _ hy
        have h1 := Int.emod_nonneg x (show y ≠ 0 by omega)
        have h2 := Int.emod_lt_of_pos x e
        refine ⟨.int x, rfl, .int y, rfl, x, y, rfl, rfl, by omega, .int y, rfl, .int _, rfl, ⟨y, x.fmod y, _, rfl, hy, by rw [hm]; exact h1, ?_, rfl⟩, ?_⟩
        · rw [hm, ← hg, Int.gcd_comm x y]
          exact gcd_emod x y
        · show (x.fmod y).natAbs < y.natAbs
          rw [hm]
          omega
      · rw [decide_eq_false e]
        refine iteF ?_
        have ey : y = 0 := by omega
        subst ey
        rw [Int.gcd_zero] at hg
        have ex : x = ((Int.gcd a b : Nat) : Int) := by omega
        subst ex
        refine ⟨.int b, rfl, b, 0, rfl, rfl, _, rfl, ?_⟩
        rw [decide_eq_false (show ¬ b < 0 by omega)]
        refine iteF ?_
        have hg : (0 : Int) < (Int.gcd a b : Int) := Int.natCast_pos.mpr (gcd_pos hb)
        have hle : ((Int.gcd a b : Nat) : Int).natAbs < 2 ^ 9000 := by
          rw [Int.natAbs_natCast]
          refine Nat.lt_of_le_of_lt ?_ hs
          exact Nat.le_of_dvd (by omega) (Int.gcd_dvd_natAbs_right a b)
        have hw : CDivW a (Int.gcd a b) ∧ CDivW b (Int.gcd a b) := ⟨wide_div hg hle (by decide) (by decide), wide_div hg hle (by decide) (by decide)⟩
        refine ⟨.int a, rfl, .int _, rfl, a, _, rfl, rfl, hw.1, .int b, rfl, .int _, rfl, b, _, rfl, rfl, hw.2, (by show 2 ≤ sizeLine; decide), fun t ht => ?_⟩
        refine q _ _ (same_upd ht) ⟨t, rfl, .inl (.inl ?_)⟩
        rw [divInt_num hb, divInt_den hb]
        exact upd_same
    · obtain ⟨v, e, i, j, e1, e2, k, e3, h4⟩ := h
      exact ⟨v, e, i, j, e1, e2, k, e3, hm _ _ h4⟩
end
end Bd
namespace Bd
open PySem PySem.Spec PyProof.Rows L2
theorem Bag.lst {H : Hp} {p : Addr} (b : Bag H p) : ∃ acc, H p = some (.lst acc) := by
  obtain ⟨g, r, e, _⟩ := b
  exact ⟨_, e⟩
theorem Bag.same {H H' : Hp} {p : Addr} (s : Same H H') (b : Bag H p) : Bag H' p := by
  obtain ⟨g, r, e, h⟩ := b
  exact ⟨g, r, s _ _ e, h⟩
theorem Bag.upd {H : Hp} {p D : Addr} {o : HO} (h : D ≠ p) (b : Bag H p) : Bag (upd H D o) p := by
  obtain ⟨g, r, e, q⟩ := b
  exact ⟨g, r, by rw [upd_ne h.symm]; exact e, q⟩
theorem but_free {p D : Addr} {H H' : Hp} (s : But p H H') (b : Bag H' p) (h : H' D = none) : H D = none := by
  cases e : H D with
  | none => rfl
  | some o =>
    by_cases c : D = p
    · obtain ⟨acc, q⟩ := b.lst
      rw [c, q] at h
      cases h
    · rw [s D o c e] at h
      cases h
/-- in the midst of making a list of sizes at D, by the bag at p -/
structure Mid (K : PySem.W.Frag) (p D : Addr) (H H' : Hp) (vs : List V) (z : Sz) : Prop where
  but : But p H H'
  bag : Bag H' p
  at_ : H' D = some (.lst vs)
  len : vs.length = z.length
  all : ∀ j v, vs[j]? = some v → IsO K H' v (at' z j)
  sm : SmZ 40 z
section
variable {P : Program} {w : World} {K : PySem.W.Frag} {mg : Str → Option Value} {base : Heap} {p D : Addr} {H H' H2 : Hp} {vs : List V} {z : Sz}
theorem Mid.take (M : Mid K p D H H' vs z) (hD : D ≠ p) (b : But p H' H2) (g : Bag H2 p) : Mid K p D H H2 vs z := by
  obtain ⟨acc, e⟩ := M.bag.lst
  exact ⟨M.but.trans b, g, b _ _ hD M.at_, M.len, fun j v h => isO_but b e (M.all j v h), M.sm⟩
theorem Mid.same (M : Mid K p D H H' vs z) (s : Same H' H2) : Mid K p D H H2 vs z :=
  ⟨M.but.trans (same_but s p), M.bag.same s, s _ _ M.at_, M.len, fun j v h => (M.all j v h).same s, M.sm⟩
theorem all_snoc {v : V} {o : Option Rat} {vs : List V} {z : Sz} (len : vs.length = z.length) (h : ∀ j u, vs[j]? = some u → IsO K H u (at' z j)) (hv : IsO K H v o) : ∀ j u, (vs ++ [v])[j]? = some u → IsO K H u (at' (z ++ [o]) j) := by
  intro j u hj
  by_cases c : j < vs.length
  · rw [List.getElem?_append_left c] at hj
    rw [at_snoc (by omega)]
    exact h j u hj
  · have hj2 : j < (vs ++ [v]).length := (List.getElem?_eq_some_iff.mp hj).1
    rw [List.length_append] at hj2
    have hj3 : j < vs.length + 1 := hj2
    have ej : j = vs.length := by omega
    subst ej
    rw [List.getElem?_append_right (Nat.le_refl _), Nat.sub_self] at hj
    have ev : v = u := Option.some.inj hj
    subst ev
    rw [len, at_snoc_last]
    exact hv
theorem smz_snoc {z : Sz} {o : Option Rat} {k : Nat} (h : SmZ k z) (ho : ∀ q, o = some q → Sm k q) : SmZ k (z ++ [o]) := by
  intro j q hq
  have hj := at_lt hq
  rw [List.length_append] at hj
  have hj3 : j < z.length + 1 := hj
  by_cases c : j < z.length
  · rw [at_snoc c] at hq
    exact h j q hq
  · have ej : j = z.length := by omega
    subst ej
    rw [at_snoc_last] at hq
    exact ho q hq
theorem Mid.append {v : V} {o : Option Rat} (M : Mid K p D H H' vs z) (hD : D ≠ p) (h0 : H D = none) (hv : IsO K H' v o) (ho : ∀ q, o = some q → Sm 40 q) : Mid K p D H (upd H' D (.lst (vs ++ [v]))) (vs ++ [v]) (z ++ [o]) :=
  ⟨but_new M.but h0, M.bag.upd hD, upd_same, by rw [List.length_append, List.length_append, M.len]; rfl, fun j u hj => isO_upd M.at_ (all_snoc M.len M.all hv j u hj), smz_snoc M.sm ho⟩
/-! ### _law_sizes -/
theorem scSizes : FnScope ["_law_bag_here", "_law_most", "_law_far", "_law_found", "_law_k", "_law_size"] ["_law_bag_here", "_law_most"] (defScope sSizes) := ⟨rfl, rfl, rfl, by decide +kernel, rfl, by decide +kernel, by decide +kernel⟩
def spSizes (K : PySem.W.Frag) : Sp := fun vs H Q _ => ∃ (p : Addr), vs = [.ref p, .int 13] ∧ Bag H p ∧ ∀ H' q z, But p H H' → IsSz K H' q z → 0 < z.length → z.length ≤ 13 → LastSome z → SmZ 40 z → Q (.ref q) H'
theorem far_at (d : Int) (h0 : 0 ≤ d) (h1 : d < 4) : ∃ far : Int, atI [V.int 4, .int 12, .int 60, .int ((10 : Int) ^ (Int.toNat 9))] d = some (.int far) ∧ 4 ≤ far ∧ far ≤ 1000000000 := by
  rcases (by omega : d = 0 ∨ d = 1 ∨ d = 2 ∨ d = 3) with rfl | rfl | rfl | rfl
  · exact ⟨4, rfl, by decide, by decide⟩
  · exact ⟨12, rfl, by decide, by decide⟩
  · exact ⟨60, rfl, by decide, by decide⟩
  · exact ⟨(10 : Int) ^ (Int.toNat 9), rfl, by decide, by decide⟩
theorem low_at (d : Int) (h0 : 0 ≤ d) (h1 : d < 4) : ∃ m : Int, atI [V.int 1, .int 1, .int 2, .int 12] d = some (.int m) ∧ 1 ≤ m ∧ m ≤ 12 := by
  rcases (by omega : d = 0 ∨ d = 1 ∨ d = 2 ∨ d = 3) with rfl | rfl | rfl | rfl
  · exact ⟨1, rfl, by decide, by decide⟩
  · exact ⟨1, rfl, by decide, by decide⟩
  · exact ⟨2, rfl, by decide, by decide⟩
  · exact ⟨12, rfl, by decide, by decide⟩
theorem pow40 : (2 : Nat) ^ 40 = 1099511627776 := by decide
theorem pow9000 {n : Nat} (h : n < 2 ^ 40) : n < 2 ^ 9000 := pow_up h (by decide)
theorem ok_sizes {f f1 f2 : Addr} {fd fd1 fd2 : FuncData} {k : Nat} (F : Fun K "_law_sizes" "_law_sizes" sSizes f fd) (mr : mg "range" = none)
    (F1 : Fun K "_law_take" "_law_take" sTake f1 fd1) (b1 : Binds K fd1 ["_law_bag_here", "_law_many"] []) (g1 : mg "_law_take" = some (.ref f1)) (G1 : FnOk P w K mg base CX0 k f1 fd1 ["_law_bag_here", "_law_many"] (spTake K))
    (F2 : Fun K "_law_low" "_law_low" sLow f2 fd2) (b2 : Binds K fd2 ["_law_top", "_law_bottom"] []) (g2 : mg "_law_low" = some (.ref f2)) (G2 : FnOk P w K mg base CX0 k f2 fd2 ["_law_top", "_law_bottom"] (spLow K)) :
    FnOk P w K mg base CX0 (k + 1) f fd ["_law_bag_here", "_law_most"] (spSizes K) := by
  refine F.ok scSizes (fun vs H Q E h => ?_) (fun cdv A outer s H vs Q E hr h => ?_)
  · obtain ⟨p, rfl, _⟩ := h
    rfl
  · obtain ⟨p, rfl, hb, q⟩ := h
    refine ⟨_, pss_cons (ps_set (i := 2) scSizes.nd rfl (.inl rfl) (pe_ix ix_list (pe_lst (pa_cons pe_int (pa_cons pe_int (pa_cons pe_int (pa_cons (pe_op op_pow pe_int pe_int) pa_nil)))))
          (pe_call G1 hr (by rfl) g1 F1.kp b1 .nil pass0 (pa_cons (pv 0) (pa_cons pe_int pa_nil))) (fun _ _ => rfl)))
      (pss_cons (ps_set (i := 3) scSizes.nd rfl (.inl rfl) (pe_lst pa_nil))
      (pss_cons (ps_for PassesOwn.never rfl (pi_range1 (by rfl) mr (pa_cons (pe_call G1 hr (by rfl) g1 F1.kp b1 .nil pass0 (pa_cons (pv 0) (pa_cons (pv 1) pa_nil))) pa_nil)) (pg_name (i := 4) scSizes.nd rfl (.inl rfl))
        (pss_cons (ps_set (i := 5) scSizes.nd rfl (.inl rfl) (pe_call G2 hr (by rfl) g2 F2.kp b2 .nil pass0 (pa_cons
            (pe_op op_sub (pe_call G1 hr (by rfl) g1 F1.kp b1 .nil pass0 (pa_cons (pv 0) (pa_cons (pe_op op_add (pe_op op_mul pe_int (pv 2)) pe_int) pa_nil))) (pe_op op_fdiv (pv 2) pe_int))
            (pa_cons (pe_op op_add pe_int (pe_call G1 hr (by rfl) g1 F1.kp b1 .nil pass0 (pa_cons (pv 0) (pa_cons (pe_ix ix_list (pe_lst (pa_cons pe_int (pa_cons pe_int (pa_cons pe_int (pa_cons pe_int pa_nil)))))
              (pe_call G1 hr (by rfl) g1 F1.kp b1 .nil pass0 (pa_cons (pv 0) (pa_cons pe_int pa_nil))) (fun _ _ => rfl)) pa_nil)))) pa_nil))))
        (pss_one (ps_if (pt_cmpR op_eq (pe_call G1 hr (by rfl) g1 F1.kp b1 .nil pass0 (pa_cons (pv 0) (pa_cons pe_int pa_nil))) pe_int (nomark _))
          (pss_one (ps_expr (pe_bm PySem.F.plainAttrs_list PySem.F.slot_list_append PySem.F.type_list_append mt_append (pv 3) (pa_cons pe_non pa_nil))))
          (pss_one (ps_expr (pe_bm PySem.F.plainAttrs_list PySem.F.slot_list_append PySem.F.type_list_append mt_append (pv 3) (pa_cons (pv 5) pa_nil))))))))
      (pss_one (ps_ret (pe_op op_cat (pv 3) (pe_lst (pa_cons (pe_call G2 hr (by rfl) g2 F2.kp b2 .nil pass0 (pa_cons
          (pe_call G1 hr (by rfl) g1 F1.kp b1 .nil pass0 (pa_cons (pv 0) (pa_cons (pe_op op_add (pv 2) pe_int) pa_nil)))
          (pa_cons (pe_op op_add pe_int (pe_call G1 hr (by rfl) g1 F1.kp b1 .nil pass0 (pa_cons (pv 0) (pa_cons pe_int pa_nil)))) pa_nil))) pa_nil))))))), ?_⟩
    -- _law_far
    refine ⟨10, 9, rfl, rfl, ⟨by decide, by decide, by decide⟩, (by show 4 ≤ sizeLine; decide), fun l hl => ?_⟩
    have hlp : l ≠ p := by
      obtain ⟨acc, e⟩ := hb.lst
      exact (ne_of_none e hl).symm
    refine ⟨.ref p, rfl, p, 4, rfl, by decide, by decide, hb.same (same_upd hl), fun H1 d hd0 hd4 u1 hb1 => ?_⟩
    obtain ⟨far, hfar, hf0, hf1⟩ := far_at d hd0 hd4
    refine ⟨l, _, d, .int far, rfl, rfl, .inl (.inl (u1 _ _ hlp upd_same)), hfar, ?_⟩
    -- _law_found = []
    refine ⟨Nat.zero_le _, fun D hD => ?_⟩
    have t1 : But p H H1 := (same_but (same_upd hl) p).trans u1
    have hDp : D ≠ p := by
      obtain ⟨acc, e⟩ := hb1.lst
      exact (ne_of_none e hD).symm
    have hD0 : H D = none := but_free t1 hb1 hD
    have M0 : Mid K p D H (upd H1 D (.lst [])) [] [] := ⟨t1.trans (same_but (same_upd hD) p), hb1.upd hDp, upd_same, rfl, fun j v h => (by cases h), fun i q h => (by cases h)⟩
    -- the loop
    refine ⟨.ref p, rfl, .int 13, rfl, p, 13, rfl, by decide, by decide, M0.bag, fun H2 n hn0 hn1 u2 hb2 => ?_⟩
    refine ⟨n, rfl, by omega, by omega, ?_⟩
    refine for_range (lo := 0) (n := n.toNat) (fun i σ H' => ∃ vs z y4 y5, σ = [some (.ref p), some (.int 13), some (.int far), some (.ref D), y4, y5] ∧ z.length = i ∧ Mid K p D H H' vs z)
      ⟨[], [], none, none, rfl, rfl, M0.take hDp u2 hb2⟩ (fun i σ H3 hi hp => ?_) (fun σ H3 hp => ?_)
    · obtain ⟨vs, z, y4, y5, rfl, hz, M⟩ := hp
      refine ⟨.ref p, rfl, .int far, rfl, 2, far, rfl, rfl, .inl ⟨by decide, by decide⟩, _, 1, rfl, rfl, p, 2 * far + 1, rfl, by omega, by omega, M.bag, fun H4 d1 a0 a1 u4 hb4 => ?_⟩
      have M4 := M.take hDp u4 hb4
      refine ⟨.int far, rfl, far, 2, rfl, rfl, ⟨by decide, by decide⟩, d1, far / 2, rfl, rfl, ?_⟩
      refine ⟨.ref p, rfl, (by show 4 ≤ sizeLine; decide), fun l2 hl2 => ?_⟩
      have hlp2 : l2 ≠ p := by
        obtain ⟨acc, e⟩ := hb4.lst
        exact (ne_of_none e hl2).symm
      have M5 := M4.same (same_upd (o := .lst [.int 1, .int 1, .int 2, .int 12]) hl2)
      refine ⟨.ref p, rfl, p, 4, rfl, by decide, by decide, M5.bag, fun H6 d2 c0 c1 u6 hb6 => ?_⟩
      obtain ⟨m, hm, hm0, hm1⟩ := low_at d2 c0 c1
      have M6 := M5.take hDp u6 hb6
      refine ⟨l2, _, d2, .int m, rfl, rfl, .inl (.inl (u6 _ _ hlp2 upd_same)), hm, p, m, rfl, by omega, by omega, M6.bag, fun H7 d3 e0 e1 u7 hb7 => ?_⟩
      have M7 := M6.take hDp u7 hb7
      have hs1 : (d1 - far / 2).natAbs < 2 ^ 40 := by
        rw [pow40]
        omega
      have hs2 : (1 + d3).natAbs < 2 ^ 40 := by
        rw [pow40]
        omega
      refine ⟨1, d3, rfl, rfl, d1 - far / 2, 1 + d3, rfl, by omega, pow9000 hs2, fun H8 v s8 hv => ?_⟩
      have M8 := M7.same s8
      refine ⟨.ref p, rfl, p, 4, rfl, by decide, by decide, M8.bag, fun H9 d4 f0 f1 u9 hb9 => ?_⟩
      have M9 := M8.take hDp u9 hb9
      have hlen := M9.len
      refine ⟨rfl, _, rfl, ite2 (fun c => ?_) (fun c => ?_)⟩
      · exact ⟨.ref D, rfl, .inl ⟨rfl, _, .inl (.inl M9.at_)⟩, D, _, _, rfl, rfl, M9.at_, small1000 (by omega), _, z ++ [none], _, _, rfl, by rw [List.length_append, hz]; rfl, M9.append hDp hD0 rfl (fun q e => by cases e)⟩
      · obtain ⟨acc, ep⟩ := M8.bag.lst
        have hv9 := isO_but (o := some _) u9 ep hv
        exact ⟨.ref D, rfl, .inl ⟨rfl, _, .inl (.inl M9.at_)⟩, v, rfl, D, _, _, rfl, rfl, M9.at_, small1000 (by omega), _, z ++ [some _], _, _, rfl, by rw [List.length_append, hz]; rfl, M9.append hDp hD0 hv9 (fun q e => by cases e; exact divInt_sm (by omega) hs1 hs2)⟩
    · obtain ⟨vs, z, y4, y5, rfl, hz, M⟩ := hp
      refine ⟨.ref D, rfl, .ref p, rfl, .int far, rfl, far, 1, rfl, rfl, p, far + 1, rfl, by omega, by omega, M.bag, fun H4 d1 a0 a1 u4 hb4 => ?_⟩
      have M4 := M.take hDp u4 hb4
      refine ⟨.ref p, rfl, p, 3, rfl, by decide, by decide, M4.bag, fun H5 d2 c0 c1 u5 hb5 => ?_⟩
      have M5 := M4.take hDp u5 hb5
      have hs1 : d1.natAbs < 2 ^ 40 := by
        rw [pow40]
        omega
      have hs2 : (1 + d2).natAbs < 2 ^ 40 := by
        rw [pow40]
        omega
      refine ⟨1, d2, rfl, rfl, d1, 1 + d2, rfl, by omega, pow9000 hs2, fun H6 v s6 hv => ?_⟩
      have M6 := M5.same s6
      refine ⟨(by show 1 ≤ sizeLine; decide), fun l hl => ?_⟩
      have M7 := M6.same (same_upd (o := .lst [v]) hl)
      have hlen := M7.len
      refine ⟨D, l, vs, [v], rfl, rfl, M7.at_, upd_same, Nat.le_of_lt (small1000 (by rw [show [v].length = 1 from rfl]; omega)), fun t ht => ?_⟩
      have M8 := M7.same (same_upd (o := .lst (vs ++ [v])) ht)
      have hv8 : IsO K _ v (some (Rat.divInt d1 (1 + d2))) := (IsQ.same (same_upd (o := .lst [v]) hl) hv).same (same_upd (o := .lst (vs ++ [v])) ht)
      refine q _ t (z ++ [some (Rat.divInt d1 (1 + d2))]) M8.but ⟨?_, vs ++ [v], .inl (.inl upd_same), ?_, all_snoc M8.len M8.all hv8⟩ ?_ ?_ ?_ ?_
      · rw [List.length_append]
        show z.length + 1 ≤ 1000
        omega
      · rw [List.length_append, List.length_append, hlen]
        rfl
      · rw [List.length_append]
        show 0 < z.length + 1
        omega
      · rw [List.length_append]
        show z.length + 1 ≤ 13
        omega
      · refine ⟨Rat.divInt d1 (1 + d2), ?_⟩
        have : (z ++ [some (Rat.divInt d1 (1 + d2))]).length - 1 = z.length := by
          rw [List.length_append]
          rfl
        rw [this]
        exact at_snoc_last
      · exact smz_snoc M8.sm (fun q e => by cases e; exact divInt_sm (by omega) hs1 hs2)
end
end Bd
namespace Bd
open PySem PySem.Spec PyProof.Rows L2
/-! ### data -/
def encQ (q : Rat) : PyData := .tuple [.int q.num, .int (q.den : Int)]
def encO : Option Rat → PyData
  | none => .none
  | some q => encQ q
def encLn (p : Ln) : PyData := .list [encQ p.1, .int (p.2 : Int)]
theorem lay_list {β : Type} {f : β → PyData} (h : ∀ b, (f b).canLay0 = true) : ∀ bs : List β, PyData.canLayAll0 (bs.map f) = true
  | [] => by simp [PyData.canLayAll0]
  | b :: bs => by
    rw [List.map_cons, PyData.canLayAll0, h b, lay_list h bs]
    rfl
theorem depth_list {β : Type} {f : β → PyData} {n : Nat} (h : ∀ b, (f b).depth ≤ n) : ∀ bs : List β, PyData.depthAll (bs.map f) ≤ n
  | [] => by simp [PyData.depthAll]
  | b :: bs => by
    rw [List.map_cons, PyData.depthAll]
    exact Nat.max_le.mpr ⟨h b, depth_list h bs⟩
theorem lay_Q (q : Rat) : (encQ q).canLay0 = true := by simp [encQ, PyData.canLay0, PyData.canLayAll0]
theorem lay_O (o : Option Rat) : (encO o).canLay0 = true := by
  cases o with
  | none => simp [encO, PyData.canLay0]
  | some q => exact lay_Q q
theorem lay_Ln (p : Ln) : (encLn p).canLay0 = true := by simp [encLn, encQ, PyData.canLay0, PyData.canLayAll0]
theorem depth_Q (q : Rat) : (encQ q).depth = 1 := by simp [encQ, PyData.depth, PyData.depthAll]
theorem depth_O (o : Option Rat) : (encO o).depth ≤ 1 := by
  cases o with
  | none => simp [encO, PyData.depth]
  | some q => exact Nat.le_of_eq (depth_Q q)
theorem depth_Ln (p : Ln) : (encLn p).depth = 2 := by simp [encLn, encQ, PyData.depth, PyData.depthAll]
theorem shaped_of {d : PyData} (h1 : d.canLay0 = true) (h2 : d.depth ≤ 64) : SeqAt.shaped d = true := by
  unfold SeqAt.shaped
  rw [h1, decide_eq_true h2]
  rfl
theorem shaped_Q (q : Rat) : SeqAt.shaped (encQ q) = true := shaped_of (lay_Q q) (by rw [depth_Q]; decide)
theorem shaped_list {β : Type} {f : β → PyData} {n : Nat} (h : ∀ b, (f b).canLay0 = true) (h' : ∀ b, (f b).depth ≤ n) (hn : n ≤ 60) (bs : List β) : SeqAt.shaped (.list (bs.map f)) = true := by
  refine shaped_of ?_ ?_
  · rw [PyData.canLay0]
    exact lay_list h bs
  · rw [PyData.depth]
    have := depth_list h' bs
    omega
theorem shaped_Lns (A : List Ln) : SeqAt.shaped (.list (A.map encLn)) = true := shaped_list lay_Ln (fun b => Nat.le_of_eq (depth_Ln b)) (by decide) A
theorem shaped_Os (A : Sz) : SeqAt.shaped (.list (A.map encO)) = true := shaped_list lay_O depth_O (by decide) A
theorem eqv_Q (q r : Rat) : PyData.eqv (encQ q) (encQ r) = decide (q = r) := by
  have e : PyData.eqv (encQ q) (encQ r) = (q.num == r.num && ((q.den : Int) == (r.den : Int) && true)) := by simp [encQ, PyData.eqv, PyData.eqvAll]
  rw [e]
  by_cases c : q = r
  · subst c
    simp
  · rw [decide_eq_false c]
    cases h1 : (q.num == r.num) with
    | false => rfl
    | true =>
      cases h2 : ((q.den : Int) == (r.den : Int)) with
      | false => rfl
      | true =>
        have a1 : q.num = r.num := by simpa using h1
        have a2 : q.den = r.den := Int.ofNat.inj (eq_of_beq (by simpa using h2))
        exact (c (Rat.ext a1 a2)).elim
theorem eqv_nil (ds : List PyData) : PyData.eqv (.list ds) (.list []) = ds.isEmpty := by
  cases ds with
  | nil => simp [PyData.eqv, PyData.eqvAll]
  | cons d r => simp [PyData.eqv, PyData.eqvAll]
theorem eqv_self {d : PyData} (h : SeqAt.shaped d = true) : PyData.eqv d d = true := SeqAt.eqv_refl d (SeqAt.canLay_of_shaped h)
/-! ### the order of pairs of a slope and a length -/
theorem alike_Q (q r : Rat) : PySem.W.alike (encQ q) (encQ r) = true := by simp [encQ, PySem.W.alike, PySem.W.alikeAll]
theorem alike_Ln (p q : Ln) : PySem.W.alike (encLn p) (encLn q) = true := by simp [encLn, encQ, PySem.W.alike, PySem.W.alikeAll]
theorem lt_Ln (p q : Ln) : PySem.W.dataLt (encLn p) (encLn q) = if p.1 = q.1 then decide (p.2 < q.2) else PySem.W.dataLt (encQ p.1) (encQ q.1) := by
  unfold encLn
  rw [PySem.W.dataLt_list, PySem.W.dataLt_cons (alike_Q _ _), PySem.W.dataLt_cons (by simp [PySem.W.alike]), eqv_Q, PySem.W.dataLt_int]
  have e : PyProof.Rows.lexLt itemOrd (PySem.W.keyToksAll []) (PySem.W.keyToksAll []) = false := lex_irrefl _
  rw [e]
  by_cases c : p.1 = q.1
  · rw [if_pos (decide_eq_true c), if_pos c]
    by_cases d : p.2 = q.2
    · simp [PyData.eqv, d]
    · have d' : ¬ ((p.2 : Int) = (q.2 : Int)) := by omega
      simp [PyData.eqv, d']
  · rw [if_neg (by simpa using c), if_neg c]
theorem lt_Q (q r : Rat) : PySem.W.dataLt (encQ q) (encQ r) = decide (q.num < r.num ∨ (q.num = r.num ∧ (q.den : Int) < (r.den : Int))) := PySem.W.dataLt_ii _ _ _ _
def leLn : Ln → Ln → Bool := PySem.W.dataLe false encLn
theorem leLn_eq (p q : Ln) : leLn p q = !PySem.W.dataLt (encLn q) (encLn p) := rfl
theorem leLn_total : PySem.W.TotalLe leLn := PySem.W.sortLe_total (listOrd itemOrd) false fun b => PySem.W.keyToks (encLn b)
theorem leLn_anti (p q : Ln) (h1 : leLn p q = true) (h2 : leLn q p = true) : p = q := by
  rw [leLn_eq, lt_Ln] at h1 h2
  by_cases c : p.1 = q.1
  · rw [if_pos c.symm] at h1
    rw [if_pos c] at h2
    have a1 : ¬ q.2 < p.2 := by simpa using h1
    have a2 : ¬ p.2 < q.2 := by simpa using h2
    exact Prod.ext c (by omega)
  · rw [if_neg (fun e => c e.symm), lt_Q] at h1
    rw [if_neg c, lt_Q] at h2
    have a1 : ¬ (q.1.num < p.1.num ∨ (q.1.num = p.1.num ∧ (q.1.den : Int) < (p.1.den : Int))) := fun z => by
      rw [decide_eq_true z] at h1
      cases h1
    have a2 : ¬ (p.1.num < q.1.num ∨ (p.1.num = q.1.num ∧ (p.1.den : Int) < (q.1.den : Int))) := fun z => by
      rw [decide_eq_true z] at h2
      cases h2
    exact (c (Rat.ext (by omega) (by omega))).elim
theorem sort_perm {A B : List Ln} (h : A.Perm B) : A.mergeSort leLn = B.mergeSort leLn := by
  refine List.Perm.eq_of_pairwise (le := fun a b => leLn a b = true) (fun a b _ _ h1 h2 => leLn_anti a b h1 h2) (PySem.W.sort_pairwise leLn_total A) (PySem.W.sort_pairwise leLn_total B) ?_
  exact ((List.mergeSort_perm A leLn).trans h).trans (List.mergeSort_perm B leLn).symm
/-! ### sorted over such pairs -/
theorem each_of {β : Type} {S : V → β → Prop} : ∀ {xs : List V} {bs : List β} {us : List Value}, Paired S xs bs → Vals xs us → PySem.W.EachIs (fun v b => ∃ y, RelV y v ∧ S y b) us bs
  | _, _, _, .nil, .nil => .nil
  | _, _, _, .cons h t, .cons r s => .cons ⟨_, r, h⟩ (each_of t s)
theorem of_each {β : Type} {S : V → β → Prop} : ∀ {us : List Value} {bs : List β}, PySem.W.EachIs (fun v b => ∃ y, RelV y v ∧ S y b) us bs → ∃ xs, Vals xs us ∧ Paired S xs bs
  | _, _, .nil => ⟨[], .nil, .nil⟩
  | _, _, .cons ⟨y, r, h⟩ t => by
    obtain ⟨xs, h1, h2⟩ := of_each t
    exact ⟨y :: xs, .cons r h1, .cons h h2⟩
def rSortedLn (K : PySem.W.Frag) : List V → Hp → VK → Prop := fun vs H Q => ∃ (a : Addr) (xs : List V) (bs : List Ln), vs = [V.ref a] ∧ SqL K H a xs ∧ Paired (fun x b => Dp K H x (encLn b)) xs bs ∧ bs.length ≤ sizeLine ∧
  ∀ ys p, Paired (fun y b => Dp K H y (encLn b)) ys (bs.mergeSort leLn) → H p = none → Q (.ref p) (upd H p (.lst ys))
theorem cr_sortedLn {X : Cx} (hu : X.A.units + 64 < cLine) : CallR X (.builtin "sorted") (rSortedLn X.K) := by
  intro pins s σ H vs us Q I r h
  obtain ⟨a, xs, bs, rfl, hs, hx, hsz, q⟩ := h
  obtain ⟨items, hvals, hList, _⟩ := I.list hs
  obtain ⟨arg, rfl, harg⟩ := vals1 r
  obtain rfl : arg = Value.ref a := harg
  have e := each_of hx hvals
  refine PySem.W.sorted_data (R := fun v b => ∃ y, RelV y v ∧ Dp X.K H y (encLn b)) (enc := encLn) (vs := items) (bs := bs) hList.isList e (e.mono fun v b ⟨y, r, d⟩ => Dp.reads I _ _ _ d r) (PySem.W.AllAlike.of alike_Ln) (PySem.W.Sortable.others fun b => ⟨(by intro z; cases z), (by intro xs z; cases z)⟩) hsz (fun b _ => by rw [depth_Ln]; omega) fun out ho eo => ?_
  obtain ⟨ys, h1, h2⟩ := of_each eo
  obtain ⟨c, hc⟩ := sortedAll_at s.heap items (List.toArray out)
  have hlen : ys.length ≤ sizeLine := by
    rw [h1.length, ho]
    exact hsz
  refine ⟨.ref (s.heap.objs.size + 1), upd H (s.heap.objs.size + 1) (.lst ys), I.laid (t' := s.toks) (fun b o => sortedAll_old) (Nat.le_succ _) ⟨hlen, out, c, h1, hc⟩, rfl, q ys _ h2 (I.hok.fresh (Nat.le_succ _))⟩
/-! ### xs[i] op= e: the reading of xs[i], i from 0 on -/
def rItem (K : PySem.W.Frag) : V → V → Hp → VK → Prop := fun x y H Q => ∃ (p : Addr) (xs : List V) (j : Nat) (v : V), x = .ref p ∧ y = .int (j : Nat) ∧ SqL K H p xs ∧ xs[j]? = some v ∧ Q v H
theorem get_item {X : Cx} : PGet X (rItem X.K) := by
  intro pins s σ H x y ov iv Q I ho hi h
  obtain ⟨p, xs, j, v, rfl, rfl, hs, hv, q⟩ := h
  obtain rfl : ov = Value.ref p := ho
  obtain ⟨tk, rfl⟩ := hi
  obtain ⟨items, hvals, hList, hsize⟩ := I.list hs
  obtain ⟨val, hval, hrel⟩ := hvals.get hv
  have hj := (List.getElem?_eq_some_iff.mp hv).1
  have hline : sizeLine < 2 ^ 63 := by decide
  refine wpAny_getItem_list hList.isList (Int.natCast_nonneg j) (by omega) (x := val) ?_ ⟨v, H, I, hrel, q⟩
  rw [Int.toNat_natCast]
  simpa using hval
end Bd
namespace Bd
open PySem PySem.Spec PyProof.Rows L2
/-! ### lists side by side -/
theorem paired_get {α β : Type} {R : α → β → Prop} : ∀ {l : List α} {m : List β} {i : Nat} {a : α}, Paired R l m → l[i]? = some a → ∃ b, m[i]? = some b ∧ R a b
  | _, _, _, _, .nil, h => by cases h
  | _, _, 0, _, .cons r _, h => by cases h; exact ⟨_, rfl, r⟩
  | _, _, i + 1, a, .cons _ t, h => by
    obtain ⟨b, h1, h2⟩ := paired_get (i := i) (a := a) t h
    exact ⟨b, h1, h2⟩
theorem paired_len {α β : Type} {R : α → β → Prop} : ∀ {l : List α} {m : List β}, Paired R l m → l.length = m.length
  | _, _, .nil => rfl
  | _, _, .cons _ t => congrArg (· + 1) (paired_len t)
theorem take_snoc {α : Type} {l : List α} {i : Nat} {a : α} (h : l[i]? = some a) : l.take (i + 1) = l.take i ++ [a] := by
  rw [List.take_add_one, h]
  rfl
theorem dpAll_of {β : Type} {K : PySem.W.Frag} {H : Hp} {f : β → PyData} : ∀ {xs : List V} {bs : List β}, Paired (fun x b => Dp K H x (f b)) xs bs → DpAll K H xs (bs.map f)
  | _, _, .nil => .nil
  | _, _, .cons h t => .cons h (dpAll_of t)
theorem IsQ.dp {K : PySem.W.Frag} {H : Hp} {v : V} {q : Rat} (h : IsQ K H v q) : Dp K H v (encQ q) := by
  obtain ⟨a, rfl, h⟩ := h
  exact .tup h (.cons (.int _) (.cons (.int _) .nil))
theorem IsO.dp {K : PySem.W.Frag} {H : Hp} {v : V} {o : Option Rat} (h : IsO K H v o) : Dp K H v (encO o) := by
  cases o with
  | none =>
    have e : v = .non := h
    subst e
    exact .non
  | some q => exact IsQ.dp h
/-- the list at b is a slope and a length -/
def IsLn1 (K : PySem.W.Frag) (H : Hp) (b : Addr) (p : Ln) : Prop := ∃ c, SqL K H b [c, .int (p.2 : Nat)] ∧ IsQ K H c p.1
/-- at a stands the list of the lengths A -/
def IsLn (K : PySem.W.Frag) (H : Hp) (a : Addr) (A : List Ln) : Prop := ∃ ps : List Addr, SqL K H a (ps.map V.ref) ∧ Paired (IsLn1 K H) ps A
theorem IsLn1.same {K : PySem.W.Frag} {H H' : Hp} {b : Addr} {p : Ln} (e : Same H H') (h : IsLn1 K H b p) : IsLn1 K H' b p := by
  obtain ⟨c, h1, h2⟩ := h
  exact ⟨c, e.seq h1, h2.same e⟩
theorem IsLn.same {K : PySem.W.Frag} {H H' : Hp} {a : Addr} {A : List Ln} (e : Same H H') (h : IsLn K H a A) : IsLn K H' a A := by
  obtain ⟨ps, h1, h2⟩ := h
  exact ⟨ps, e.seq h1, Paired.mapP h2 fun _ _ q => q.same e⟩
theorem IsLn1.dp {K : PySem.W.Frag} {H : Hp} {b : Addr} {p : Ln} (h : IsLn1 K H b p) : Dp K H (.ref b) (encLn p) := by
  obtain ⟨c, h1, h2⟩ := h
  exact .lst h1 (.cons h2.dp (.cons (.int _) .nil))
theorem seq_upd {K : PySem.W.Frag} {H : Hp} {D b : Addr} {xs : List V} {o : HO} (h : b ≠ D) (q : SqL K H b xs) : SqL K (upd H D o) b xs := by
  rcases q with (q | ⟨u, q⟩) | q
  · exact .inl (.inl (by rw [upd_ne h]; exact q))
  · exact .inl (.inr ⟨u, by rw [upd_ne h]; exact q⟩)
  · exact .inr q
theorem paired_map {α β γ : Type} {R : γ → β → Prop} {f : α → γ} : ∀ {l : List α} {m : List β}, Paired (fun a b => R (f a) b) l m → Paired R (l.map f) m
  | _, _, .nil => .nil
  | _, _, .cons h t => .cons h (paired_map t)
section
variable {P : Program} {w : World} {K : PySem.W.Frag} {mg : Str → Option Value} {base : Heap}
/-! ### _law_lengths -/
theorem scLengths : FnScope ["_law_found", "_law_made", "_law_s", "_law_t", "_law_slope"] ["_law_found"] (defScope sLengths) := ⟨rfl, rfl, rfl, by decide +kernel, rfl, by decide +kernel, by decide +kernel⟩
def spLengths (K : PySem.W.Frag) : Sp := fun vs H Q _ => ∃ (a : Addr) (L : List Sd), vs = [.ref a] ∧ IsSd K H a L ∧ L.length ≤ 1000 ∧ (∀ p ∈ L, p.1 ≤ p.2.1) ∧ ∀ H' p, Same H H' → IsLn K H' p (lengths L) → Q (.ref p) H'
theorem ok_lengths {f : Addr} {fd : FuncData} {k : Nat} (F : Fun K "_law_lengths" "_law_lengths" sLengths f fd) : FnOk P w K mg base CX0 (k + 1) f fd ["_law_found"] (spLengths K) := by
  refine F.ok scLengths (fun vs H Q E h => ?_) (fun cdv A outer s H vs Q E hr h => ?_)
  · obtain ⟨a, L, rfl, _⟩ := h
    rfl
  · obtain ⟨a, L, rfl, ⟨vs, hl, hp⟩, hlen, hle, q⟩ := h
    refine ⟨_, pss_cons (ps_set (i := 1) scLengths.nd rfl (.inl rfl) (pe_lst pa_nil))
      (pss_cons (ps_for PassesOwn.never rfl (pi_list (pv 0)) (pg_tup rfl (pgs_cons (pg_name (i := 2) scLengths.nd rfl (.inl rfl)) (pgs_cons (pg_name (i := 3) scLengths.nd rfl (.inl rfl)) (pgs_cons (pg_name (i := 4) scLengths.nd rfl (.inl rfl)) pgs_nil))))
        (pss_one (ps_expr (pe_bm PySem.F.plainAttrs_list PySem.F.slot_list_append PySem.F.type_list_append mt_append (pv 1) (pa_cons (pe_lst (pa_cons (pv 4) (pa_cons (pe_op op_sub (pv 3) (pv 2)) pa_nil))) pa_nil)))))
      (pss_one (ps_ret (pv 1)))), ?_⟩
    refine ⟨Nat.zero_le _, fun D hD => ?_⟩
    have s0 : Same H (upd H D (.lst [])) := same_upd hD
    have hvl := paired_len hp
    refine ⟨.ref a, rfl, a, rfl, ⟨vs, s0.seq hl⟩, for_list (xs := vs) (fun i σ H' => ∃ (ps : List Addr) (y2 y3 y4 : Option V), σ = [some (.ref a), some (.ref D), y2, y3, y4] ∧ Same H H' ∧ H' D = some (.lst (ps.map V.ref)) ∧ Paired (fun b p => b ≠ D ∧ IsLn1 K H' b p) ps (lengths (L.take i)))
      ⟨[], none, none, none, rfl, s0, upd_same, .nil⟩ (fun i σ H1 _ hp1 => ?_) (fun i x σ H1 hx hp1 => ?_) (fun σ H1 hp1 => ?_)⟩
    · obtain ⟨_, _, _, _, _, s1, _⟩ := hp1
      exact s1.seq hl
    · obtain ⟨ps, y2, y3, y4, rfl, s1, eD, hps⟩ := hp1
      obtain ⟨⟨u, v, σ⟩, hL, hsd⟩ := paired_get hp hx
      obtain ⟨b, c, rfl, hT, hc⟩ := hsd
      have huv : u ≤ v := hle _ (List.mem_of_getElem? hL)
      have hi : i < L.length := (List.getElem?_eq_some_iff.mp hL).1
      refine ⟨b, _, rfl, same_tup s1 hT, rfl, _, _, rfl, _, _, rfl, _, _, rfl, rfl, ?_⟩
      refine ⟨.ref D, rfl, .inl ⟨rfl, _, .inl (.inl eD)⟩, c, rfl, .int _, rfl, .int _, rfl, _, _, rfl, rfl, (by show 2 ≤ sizeLine; decide), fun l hl2 => ?_⟩
      have eDl : (upd H1 l (.lst [c, .int ((v : Int) - (u : Int))])) D = some (.lst (ps.map V.ref)) := by
        rw [upd_ne (ne_of_none eD hl2)]
        exact eD
      have hlD : l ≠ D := (ne_of_none eD hl2).symm
      have s2 : Same H1 (upd H1 l (.lst [c, .int ((v : Int) - (u : Int))])) := same_upd hl2
      have hpl := paired_len hps
      have hll : (lengths (L.take i)).length ≤ 1000 := by
        unfold lengths
        rw [List.length_map, List.length_take]
        omega
      refine ⟨D, _, _, rfl, rfl, eDl, small1000 (by rw [List.length_map]; omega), ps ++ [l], _, _, _, rfl, same_new (s1.trans s2) hD, ?_, ?_⟩
      · rw [upd_same, List.map_append]
        rfl
      · have eL : lengths (L.take (i + 1)) = lengths (L.take i) ++ [(σ, v - u)] := by
          rw [take_snoc hL]
          unfold lengths
          rw [List.map_append]
          rfl
        rw [eL]
        refine paired_snoc ⟨hlD, c, ?_, isQ_upd eDl ((hc.same s1).same s2)⟩ (Paired.mapP hps fun b' p h => ⟨h.1, (h.2.same s2).elim fun c' h' => ⟨c', seq_upd h.1 h'.1, isQ_upd eDl h'.2⟩⟩)
        refine .inl (.inl ?_)
        rw [upd_ne hlD, upd_same]
        have e : (v : Int) - (u : Int) = ((v - u : Nat) : Int) := by omega
        show some (HO.lst [c, .int ((v : Int) - (u : Int))]) = _
        rw [e]
    · obtain ⟨ps, y2, y3, y4, rfl, s1, eD, hps⟩ := hp1
      rw [hvl, List.take_length] at hps
      exact ⟨.ref D, rfl, q H1 D s1 ⟨ps, .inl (.inl eD), Paired.mapP hps fun _ _ h => h.2⟩⟩
/-! ### _law_merged -/
def picks : List Addr → List Ln → Rat → List Addr
  | b :: bs, p :: r, σ => if p.1 = σ then b :: picks bs r σ else picks bs r σ
  | _, _, _ => []
def sels : List Ln → Rat → List Ln
  | p :: r, σ => if p.1 = σ then p :: sels r σ else sels r σ
  | [], _ => []
/-- an element of the found list -/
def El (K : PySem.W.Frag) (H0 H : Hp) (D : Addr) (b : Addr) (p : Ln) : Prop := b ≠ D ∧ H0 b = none ∧ ∃ c, H b = some (.lst [c, .int (p.2 : Nat)]) ∧ IsQ K H c p.1
structure Fnd (K : PySem.W.Frag) (H0 H : Hp) (D : Addr) (ps : List Addr) (A : List Ln) : Prop where
  same : Same H0 H
  at_ : H D = some (.lst (ps.map V.ref))
  nd : ps.Nodup
  all : Paired (El K H0 H D) ps A
theorem El.same {H0 H H' : Hp} {D b : Addr} {p : Ln} (s : Same H H') (h : El K H0 H D b p) : El K H0 H' D b p := by
  obtain ⟨h1, h2, c, h3, h4⟩ := h
  exact ⟨h1, h2, c, s _ _ h3, h4.same s⟩
theorem Fnd.then {H0 H H' : Hp} {D : Addr} {ps : List Addr} {A : List Ln} (F : Fnd K H0 H D ps A) (s : Same H H') : Fnd K H0 H' D ps A :=
  ⟨F.same.trans s, s _ _ F.at_, F.nd, Paired.mapP F.all fun _ _ h => h.same s⟩
theorem El.there {H0 H : Hp} {D : Addr} : ∀ {ps : List Addr} {A : List Ln}, Paired (El K H0 H D) ps A → ∀ b ∈ ps, ∃ p, El K H0 H D b p
  | _, _, .nil, b, h => by cases h
  | _, _, .cons r t, b, h => by
    rcases List.mem_cons.mp h with e | h
    · rw [e]
      exact ⟨_, r⟩
    · exact El.there t b h
theorem Fnd.snoc {H0 H : Hp} {D l : Addr} {ps : List Addr} {A : List Ln} {c : V} {σ : Rat} {n : Nat} (F : Fnd K H0 H D ps A) (hD : H0 D = none) (hl : H l = none) (hc : IsQ K H c σ) :
    Fnd K H0 (upd (upd H l (.lst [c, .int (n : Nat)])) D (.lst (ps.map V.ref ++ [.ref l]))) D (ps ++ [l]) (A ++ [(σ, n)]) := by
  have s1 : Same H (upd H l (.lst [c, .int (n : Nat)])) := same_upd hl
  have hlD : l ≠ D := (ne_of_none F.at_ hl).symm
  have eD : (upd H l (.lst [c, .int (n : Nat)])) D = some (.lst (ps.map V.ref)) := s1 _ _ F.at_
  refine ⟨same_new (F.same.trans s1) hD, by rw [upd_same, List.map_append]; rfl, ?_, paired_snoc ⟨hlD, F.same.free hl, c, by rw [upd_ne hlD, upd_same], isQ_upd eD (hc.same s1)⟩ (Paired.mapP F.all fun b p h => ?_)⟩
  · refine List.nodup_append.mpr ⟨F.nd, List.nodup_cons.mpr ⟨List.not_mem_nil, .nil⟩, fun x hx y hy e => ?_⟩
    rw [List.mem_singleton] at hy
    obtain ⟨p, _, _, c', h3, _⟩ := El.there F.all x hx
    rw [e, hy, hl] at h3
    cases h3
  · obtain ⟨h1, h2, c', h3, h4⟩ := h.same s1
    exact ⟨h1, h2, c', by rw [upd_ne h1]; exact h3, isQ_upd eD h4⟩
theorem bump_all {H0 H : Hp} {D b : Addr} {σ : Rat} {m : Nat} : ∀ {ps : List Addr} {A : List Ln} {rest : List Addr}, ps.Nodup → Paired (El K H0 H D) ps A → picks ps A σ = b :: rest →
    ∃ c n, b ≠ D ∧ H0 b = none ∧ H b = some (.lst [c, .int ((n : Nat) : Int)]) ∧ b ∈ ps ∧ Paired (El K H0 (upd H b (.lst [c, .int ((n + m : Nat) : Int)])) D) ps (bump A σ m)
  | _, _, _, _, .nil, h => by cases h
  | b0 :: bs, p :: r, rest, hn, .cons r0 t, h => by
    rw [List.nodup_cons] at hn
    by_cases e : p.1 = σ
    · have h' : b0 :: picks bs r σ = b :: rest := by
        have := h
        unfold picks at this
        rw [if_pos e] at this
        exact this
      cases h'
      obtain ⟨h1, h2, c, h3, h4⟩ := r0
      refine ⟨c, p.2, h1, h2, h3, List.mem_cons_self, ?_⟩
      unfold bump
      rw [if_pos e]
      refine .cons ⟨h1, h2, c, upd_same, isQ_upd h3 h4⟩ ?_
      have far : ∀ {bs : List Addr} {r : List Ln}, b ∉ bs → Paired (El K H0 H D) bs r → Paired (El K H0 (upd H b (.lst [c, .int ((p.2 + m : Nat) : Int)])) D) bs r := by
        intro bs r hb hp
        induction hp with
        | nil => exact .nil
        | cons q t ih =>
          rw [List.mem_cons, not_or] at hb
          obtain ⟨g1, g2, c', g3, g4⟩ := q
          exact .cons ⟨g1, g2, c', by rw [upd_ne (fun z => hb.1 z.symm)]; exact g3, isQ_upd h3 g4⟩ (ih hb.2)
      exact far hn.1 t
    · have h' : picks bs r σ = b :: rest := by
        have := h
        unfold picks at this
        rw [if_neg e] at this
        exact this
      obtain ⟨c, n, a1, a2, a3, a4, a5⟩ := bump_all (m := m) hn.2 t h'
      refine ⟨c, n, a1, a2, a3, List.mem_cons_of_mem _ a4, ?_⟩
      unfold bump
      rw [if_neg e]
      obtain ⟨g1, g2, c', g3, g4⟩ := r0
      refine .cons ⟨g1, g2, c', ?_, isQ_upd a3 g4⟩ a5
      rw [upd_ne (fun z => hn.1 (by rw [z]; exact a4))]
      exact g3
theorem Fnd.bump {H0 H : Hp} {D b : Addr} {ps rest : List Addr} {A : List Ln} {σ : Rat} {m : Nat} (F : Fnd K H0 H D ps A) (h : picks ps A σ = b :: rest) :
    ∃ c n, H b = some (.lst [c, .int ((n : Nat) : Int)]) ∧ Fnd K H0 (upd H b (.lst [c, .int ((n + m : Nat) : Int)])) D ps (bump A σ m) := by
  obtain ⟨c, n, a1, a2, a3, a4, a5⟩ := bump_all (m := m) F.nd F.all h
  exact ⟨c, n, a3, same_new F.same a2, by rw [upd_ne a1.symm]; exact F.at_, F.nd, a5⟩
theorem picks_case {R : Addr → Ln → Prop} {σ : Rat} {m : Nat} : ∀ {ps : List Addr} {A : List Ln}, Paired R ps A → (sels A σ = [] ∧ bump A σ m = A ++ [(σ, m)]) ∨ ∃ b rest p rest', picks ps A σ = b :: rest ∧ sels A σ = p :: rest'
  | _, _, .nil => .inl ⟨rfl, rfl⟩
  | b :: bs, p :: r, .cons _ t => by
    by_cases e : p.1 = σ
    · refine .inr ⟨b, picks bs r σ, p, sels r σ, ?_, ?_⟩
      · show (if p.1 = σ then b :: picks bs r σ else picks bs r σ) = _
        rw [if_pos e]
      · rw [sels, if_pos e]
    · rcases picks_case (m := m) t with ⟨h1, h2⟩ | ⟨b', rest, p', rest', h1, h2⟩
      · refine .inl ⟨?_, ?_⟩
        · rw [sels, if_neg e]
          exact h1
        · rw [Bd.bump, if_neg e, h2]
          rfl
      · refine .inr ⟨b', rest, p', rest', ?_, ?_⟩
        · unfold picks
          rw [if_neg e]
          exact h1
        · rw [sels, if_neg e]
          exact h2
theorem picks_dp {H0 H : Hp} {D : Addr} {σ : Rat} : ∀ {ps : List Addr} {A : List Ln}, Paired (El K H0 H D) ps A → Paired (fun x b => Dp K H x (encLn b)) ((picks ps A σ).map V.ref) (sels A σ)
  | _, _, .nil => .nil
  | b :: bs, p :: r, .cons q t => by
    unfold picks
    rw [sels]
    by_cases e : p.1 = σ
    · rw [if_pos e, if_pos e]
      obtain ⟨h1, h2, c, h3, h4⟩ := q
      exact .cons (IsLn1.dp ⟨c, .inl (.inl h3), h4⟩) (picks_dp t)
    · rw [if_neg e, if_neg e]
      exact picks_dp t
theorem picks_snoc {σ : Rat} {b : Addr} {p : Ln} : ∀ {ps : List Addr} {A : List Ln}, ps.length = A.length → picks (ps ++ [b]) (A ++ [p]) σ = picks ps A σ ++ (if p.1 = σ then [b] else [])
  | [], [], _ => by
    show (if p.1 = σ then b :: picks [] [] σ else picks [] [] σ) = [] ++ (if p.1 = σ then [b] else [])
    by_cases e : p.1 = σ
    · rw [if_pos e, if_pos e]
      rfl
    · rw [if_neg e, if_neg e]
      rfl
  | b0 :: bs, p0 :: r, h => by
    have ih := picks_snoc (σ := σ) (b := b) (p := p) (ps := bs) (A := r) (by simpa using h)
    show (if p0.1 = σ then b0 :: picks (bs ++ [b]) (r ++ [p]) σ else picks (bs ++ [b]) (r ++ [p]) σ) = (if p0.1 = σ then b0 :: picks bs r σ else picks bs r σ) ++ _
    rw [ih]
    by_cases e : p0.1 = σ
    · rw [if_pos e, if_pos e]
      rfl
    · rw [if_neg e, if_neg e]
theorem picks_len {σ : Rat} : ∀ (ps : List Addr) (A : List Ln), (picks ps A σ).length ≤ ps.length
  | [], _ => Nat.zero_le _
  | b :: bs, [] => Nat.zero_le _
  | b :: bs, p :: r => by
    have ih := picks_len (σ := σ) bs r
    unfold picks
    by_cases e : p.1 = σ
    · rw [if_pos e]
      exact Nat.succ_le_succ ih
    · rw [if_neg e]
      exact Nat.le_succ_of_le ih
theorem bump_len : ∀ (A : List Ln) (σ : Rat) (m : Nat), (Bd.bump A σ m).length ≤ A.length + 1
  | [], σ, m => Nat.le_refl _
  | p :: r, σ, m => by
    have ih := bump_len r σ m
    unfold Bd.bump
    by_cases e : p.1 = σ
    · rw [if_pos e]
      exact Nat.le_succ _
    · rw [if_neg e]
      exact Nat.succ_le_succ ih
theorem merged_snoc (A B : List Ln) (p : Ln) : merged A (B ++ [p]) = Bd.bump (merged A B) p.1 p.2 := by
  unfold merged
  rw [List.foldl_append]
  rfl
theorem merged_len : ∀ (B A : List Ln), (merged A B).length ≤ A.length + B.length
  | [], A => Nat.le_refl _
  | p :: r, A => by
    have h1 := merged_len r (Bd.bump A p.1 p.2)
    have h2 := bump_len A p.1 p.2
    show (merged (Bd.bump A p.1 p.2) r).length ≤ A.length + (r.length + 1)
    omega
end
end Bd
namespace Bd
open PySem PySem.Spec PyProof.Rows L2
section
variable {P : Program} {w : World} {K : PySem.W.Frag} {mg : Str → Option Value} {base : Heap}
theorem scMerged : FnScope ["_law_one", "_law_other", "_law_found", "_law_slope", "_law_size", "_law_some", "_law_pair"] ["_law_one", "_law_other"] (defScope sMerged) := ⟨rfl, rfl, rfl, by decide +kernel, rfl, by decide +kernel, by decide +kernel⟩
def spMerged (K : PySem.W.Frag) : Sp := fun vs H Q _ => ∃ (a b : Addr) (A B : List Ln), vs = [.ref a, .ref b] ∧ IsLn K H a A ∧ IsLn K H b B ∧ A.length + B.length ≤ 1000 ∧ ∀ H' p, Same H H' → IsLn K H' p (merged A B) → Q (.ref p) H'
def rListOf (K : PySem.W.Frag) : List V → Hp → VK → Prop := fun xs H Q => ∃ p ys, xs = [.ref p] ∧ (SqL K H p ys ∨ SqT K H p ys) ∧ ∀ l, H l = none → Q (.ref l) (upd H l (.lst ys))
theorem ok_merged {f : Addr} {fd : FuncData} {k : Nat} (F : Fun K "_law_merged" "_law_merged" sMerged f fd) (mt : mg "list" = none) : FnOk P w K mg base CX0 (k + 1) f fd ["_law_one", "_law_other"] (spMerged K) := by
  refine F.ok scMerged (fun vs H Q E h => ?_) (fun cdv A outer s H vs Q E hr h => ?_)
  · obtain ⟨a, b, A, B, rfl, _⟩ := h
    rfl
  · obtain ⟨a, b, M, B, rfl, ⟨ps1, ha, hA⟩, ⟨qs, hb, hB⟩, hlen, q⟩ := h
    refine ⟨_, pss_cons (ps_setLc (i := 2) (own := [("_law_pair", 6)]) rfl scMerged.nd rfl rfl (sw_true rfl rfl rfl (by decide +kernel)) (pi_list (pv 0)) (blkOk_by (N := ["_law_one", "_law_other", "_law_found", "_law_slope", "_law_size", "_law_some", "_law_pair"]) (sc := defScope sMerged) (by decide +kernel))
        (fun _ _ _ _ _ => pg_name (i := 6) scMerged.nd rfl (Or.inl rfl)) (fun _ _ _ _ _ => pts_nil) (fun _ _ _ _ _ => pe_callTy (r := rListOf K) call_list_of (by rfl) mt (by decide +kernel) (pa_cons (pv 6) pa_nil)))
      (pss_cons (ps_for PassesOwn.never rfl (pi_list (pv 1)) (pg_lst rfl (pgs_cons (pg_name (i := 3) scMerged.nd rfl (.inr rfl)) (pgs_cons (pg_name (i := 4) scMerged.nd rfl (.inl rfl)) pgs_nil)))
        (pss_cons (ps_setLc (i := 5) (own := [("_law_pair", 6)]) rfl scMerged.nd rfl rfl (sw_true rfl rfl rfl (by decide +kernel)) (pi_list (pv 2)) (blkOk_by (N := ["_law_one", "_law_other", "_law_found", "_law_slope", "_law_size", "_law_some", "_law_pair"]) (sc := defScope sMerged) (by decide +kernel))
            (fun _ _ _ _ _ => pg_name (i := 6) scMerged.nd rfl (Or.inl rfl)) (fun _ _ _ _ _ => pts_one (pt_cmpR (r := rEqD K) (op_eqD hr.units) (pe_ix (r := rIxL K) ix_list (pv 6) pe_int (fun _ _ => rfl)) (pv 3) (nomark _))) (fun _ _ _ _ _ => pv 6))
        (pss_one (ps_if (pt_cmpR (op_eqD hr.units) (pv 5) (pe_lst pa_nil) (nomark _))
          (pss_one (ps_expr (pe_bm PySem.F.plainAttrs_list PySem.F.slot_list_append PySem.F.type_list_append mt_append (pv 2) (pa_cons (pe_lst (pa_cons (pv 3) (pa_cons (pv 4) pa_nil))) pa_nil))))
          (pss_one (ps_augS (pe_ix ix_list (pv 5) pe_int (fun _ _ => rfl)) pe_int get_item (pv 4) ip_add set_list))))))
      (pss_one (ps_ret (pv 2)))), ?_⟩
    have hl1 := paired_len hA
    have hl2 := paired_len hB
    -- the copies
    refine ⟨.ref a, rfl, a, rfl, ⟨_, ha⟩, fun D hD => ?_⟩
    refine lc_list (K := K) (a := a) (xs := ps1.map V.ref) (fun i H' => ∃ ps, Fnd K H H' D ps (M.take i)) ⟨[], same_upd hD, upd_same, .nil, .nil⟩ (fun i H' _ hp => ?_) (fun i x H1 hx hp => ?_) (fun H1 hp => ?_)
    · obtain ⟨ps, Fd⟩ := hp
      exact Fd.same.seq ha
    · obtain ⟨ps, Fd⟩ := hp
      rw [List.getElem?_map] at hx
      obtain ⟨b', hb', rfl⟩ := Option.map_eq_some_iff.mp hx
      obtain ⟨⟨σ, n⟩, hp1, c, h3, h4⟩ := paired_get hA hb'
      have hpl := paired_len Fd.all
      rw [List.length_take] at hpl
      have hi : i < M.length := (List.getElem?_eq_some_iff.mp hp1).1
      refine ⟨rfl, .ref b', rfl, b', _, rfl, .inl (Fd.same.seq h3), fun l hl => ?_⟩
      refine ⟨ps.map V.ref, same_upd hl _ _ Fd.at_, small1000 (by rw [List.length_map]; omega), ps ++ [l], ?_⟩
      rw [take_snoc hp1]
      exact Fd.snoc hD hl (h4.same Fd.same)
    · obtain ⟨ps, Fd⟩ := hp
      rw [List.length_map, hl1, List.take_length] at Fd
      -- the loop
      refine ⟨.ref b, rfl, b, rfl, ⟨_, Fd.same.seq hb⟩, for_list (xs := qs.map V.ref) (fun i σ H' => ∃ (ps : List Addr) (y3 y4 y5 : Option V), σ = [some (.ref a), some (.ref b), some (.ref D), y3, y4, y5, none] ∧ Fnd K H H' D ps (merged M (B.take i)))
        ⟨ps, none, none, none, rfl, Fd⟩ (fun i σ H2 _ hp2 => ?_) (fun i x σ H2 hx hp2 => ?_) (fun σ H2 hp2 => ?_)⟩
      · obtain ⟨_, _, _, _, _, Fd2⟩ := hp2
        exact Fd2.same.seq hb
      · obtain ⟨ps, y3, y4, y5, rfl, Fd2⟩ := hp2
        rw [List.getElem?_map] at hx
        obtain ⟨b', hb', rfl⟩ := Option.map_eq_some_iff.mp hx
        obtain ⟨⟨σ, m⟩, hp1, v3, h3, h4⟩ := paired_get hB hb'
        have hv3 : IsQ K H2 v3 σ := h4.same Fd2.same
        have hi : i < B.length := (List.getElem?_eq_some_iff.mp hp1).1
        have hml := merged_len (B.take i) M
        rw [List.length_take] at hml
        have hpl := paired_len Fd2.all
        refine ⟨b', _, rfl, Fd2.same.seq h3, rfl, _, _, rfl, _, _, rfl, rfl, ?_⟩
        -- those of this slope
        refine ⟨.ref D, rfl, D, rfl, ⟨_, .inl (.inl Fd2.at_)⟩, fun D2 hD2 => ?_⟩
        have s2 : ∀ {o : HO}, Same H2 (upd H2 D2 o) := same_upd hD2
        refine lc_list (K := K) (a := D) (xs := ps.map V.ref) (fun j H' => H' = upd H2 D2 (.lst ((picks (ps.take j) ((merged M (B.take i)).take j) σ).map V.ref))) rfl (fun j H' _ hp => ?_) (fun j x H3 hx hp => ?_) (fun H3 hp => ?_)
        · subst hp
          exact .inl (.inl (s2 _ _ Fd2.at_))
        · subst hp
          rw [List.getElem?_map] at hx
          obtain ⟨b2, hb2, rfl⟩ := Option.map_eq_some_iff.mp hx
          obtain ⟨⟨τ, n⟩, hp2, hE⟩ := paired_get Fd2.all hb2
          obtain ⟨g1, g2, c, g3, g4⟩ := hE
          have hj : j < (merged M (B.take i)).length := (List.getElem?_eq_some_iff.mp hp2).1
          have e1 : (ps.take j).length = ((merged M (B.take i)).take j).length := by
            rw [List.length_take, List.length_take, hpl]
          refine ⟨rfl, .ref b2, rfl, b2, _, 0, c, rfl, rfl, .inl (.inl (s2 _ _ g3)), atI_nat (j := 0) rfl, v3, rfl, encQ τ, encQ σ, (g4.same s2).dp, (hv3.same s2).dp, shaped_Q τ, shaped_Q σ, _, rfl, ?_⟩
          rw [eqv_Q]
          rw [take_snoc hb2, take_snoc hp2, picks_snoc e1]
          by_cases c1 : τ = σ
          · rw [decide_eq_true c1, if_pos c1]
            refine iteT ?_
            refine ⟨.ref b2, rfl, _, upd_same, small1000 ?_, ?_⟩
            · rw [List.length_map]
              have := picks_len (σ := σ) (ps.take j) ((merged M (B.take i)).take j)
              rw [List.length_take] at this
              omega
            · rw [upd_upd, List.map_append]
              rfl
          · rw [decide_eq_false c1, if_neg c1, List.append_nil]
            exact iteF rfl
        · subst hp
          rw [List.length_map, List.take_length, hpl, List.take_length]
          have Fd3 := Fd2.then (s2 (o := .lst ((picks ps (merged M (B.take i)) σ).map V.ref)))
          have hD2' : (upd H2 D2 (.lst ((picks ps (merged M (B.take i)) σ).map V.ref))) D2 = some (.lst ((picks ps (merged M (B.take i)) σ).map V.ref)) := upd_same
          refine ⟨.ref D2, rfl, Nat.zero_le _, fun D3 hD3 => ?_⟩
          have Fd4 := Fd3.then (same_upd (o := .lst []) hD3)
          refine ⟨_, _, .lst (.inl (.inl (same_upd hD3 _ _ hD2'))) (dpAll_of (picks_dp Fd4.all)), .lst (.inl (.inl upd_same)) .nil, shaped_Lns _, shaped_Lns [], _, rfl, ?_⟩
          rw [eqv_nil]
          have eT : merged M (B.take (i + 1)) = bump (merged M (B.take i)) σ m := by
            rw [take_snoc hp1, merged_snoc]
          have hv4 : IsQ K (upd (upd H2 D2 (.lst ((picks ps (merged M (B.take i)) σ).map V.ref))) D3 (.lst [])) v3 σ := (hv3.same s2).same (same_upd hD3)
          rcases picks_case (σ := σ) (m := m) Fd4.all with ⟨e1, e2⟩ | ⟨b2, rest, p2, rest2, e1, e2⟩
          · rw [e1]
            refine iteT ?_
            refine ⟨.ref D, rfl, .inl ⟨rfl, _, .inl (.inl Fd4.at_)⟩, v3, rfl, .int _, rfl, (by show 2 ≤ sizeLine; decide), fun l hl => ?_⟩
            have Fd5 := Fd4.snoc (n := m) hD hl hv4
            refine ⟨D, _, _, rfl, rfl, same_upd hl _ _ Fd4.at_, small1000 (by rw [List.length_map]; omega), ps ++ [l], _, _, _, rfl, ?_⟩
            rw [eT, e2]
            exact Fd5
          · rw [e2]
            refine iteF ?_
            obtain ⟨c, n, h5, Fd5⟩ := Fd4.bump (m := m) e1
            refine ⟨.ref D2, rfl, D2, _, 0, .ref b2, rfl, rfl, .inl (.inl (same_upd hD3 _ _ hD2')), atI_nat (j := 0) (by rw [e1]; rfl), ?_⟩
            refine ⟨b2, _, 1, _, rfl, rfl, .inl (.inl h5), rfl, .int _, rfl, (n : Int), (m : Int), rfl, rfl, b2, _, 1, 1, rfl, rfl, h5, rfl, ps, _, _, _, rfl, ?_⟩
            rw [eT]
            exact Fd5
      · obtain ⟨ps, y3, y4, y5, rfl, Fd2⟩ := hp2
        rw [List.length_map, hl2, List.take_length] at Fd2
        exact ⟨.ref D, rfl, q H2 D Fd2.same ⟨ps, .inl (.inl Fd2.at_), Paired.mapP Fd2.all fun b p h => h.2.2.elim fun c h' => ⟨c, .inl (.inl h'.1), h'.2⟩⟩⟩
end
end Bd
namespace Bd
open PySem PySem.Spec PyProof.Rows L2
theorem paired_of {α β : Type} {R : α → β → Prop} : ∀ {l : List α} {m : List β}, l.length = m.length → (∀ (i : Nat) a b, l[i]? = some a → m[i]? = some b → R a b) → Paired R l m
  | [], [], _, _ => .nil
  | a :: l, b :: m, h, q => .cons (q 0 a b rfl rfl) (paired_of (by simpa using h) fun i x y hx hy => q (i + 1) x y hx hy)
theorem IsSz.dp {K : PySem.W.Frag} {H : Hp} {a : Addr} {z : Sz} (h : IsSz K H a z) : Dp K H (.ref a) (.list (z.map encO)) := by
  obtain ⟨h0, vs, h1, h2, h3⟩ := h
  refine .lst h1 (dpAll_of (paired_of h2 fun i v o hv ho => ?_))
  have := h3 i v hv
  rw [at_get ho] at this
  exact this.dp
theorem IsLn.dps {K : PySem.W.Frag} {H : Hp} {a : Addr} {A : List Ln} (h : IsLn K H a A) : ∃ xs, SqL K H a xs ∧ Paired (fun x b => Dp K H x (encLn b)) xs A := by
  obtain ⟨ps, h1, h2⟩ := h
  exact ⟨_, h1, paired_map (R := fun x b => Dp K H x (encLn b)) (f := V.ref) (Paired.mapP h2 fun _ _ q => q.dp)⟩
mutual
theorem dp_same {K : PySem.W.Frag} {H H' : Hp} (s : Same H H') : ∀ {v : V} {d : PyData}, Dp K H v d → Dp K H' v d
  | _, _, .non => .non
  | _, _, .bl b => .bl b
  | _, _, .int i => .int i
  | _, _, .str x => .str x
  | _, _, .lst h t => .lst (s.seq h) (dpAll_same s t)
  | _, _, .tup h t => .tup (same_tup s h) (dpAll_same s t)
theorem dpAll_same {K : PySem.W.Frag} {H H' : Hp} (s : Same H H') : ∀ {vs : List V} {ds : List PyData}, DpAll K H vs ds → DpAll K H' vs ds
  | _, _, .nil => .nil
  | _, _, .cons h t => .cons (dp_same s h) (dpAll_same s t)
end
theorem last_join {a b c : Sz} (J : IsJoin a b c) (ha : 0 < a.length) (hb : 0 < b.length) (la : LastSome a) (lb : LastSome b) : LastSome c := by
  obtain ⟨x, hx⟩ := la
  obtain ⟨y, hy⟩ := lb
  obtain ⟨z, hz, _⟩ := J.to_ _ _ _ _ hx hy
  refine ⟨z, ?_⟩
  have e : c.length - 1 = (a.length - 1) + (b.length - 1) := by
    rw [J.len]
    omega
  rw [e]
  exact hz
theorem sides_le {a : Sz} {L : List Sd} (S : IsSides a L) : ∀ p ∈ L, p.1 ≤ p.2.1 := fun ⟨u, v, σ⟩ h => Nat.le_of_lt ((S.mem u v σ).mp h).1
theorem lengths_len (L : List Sd) : (lengths L).length = L.length := List.length_map _
theorem rgc2 (j : Int) (h1 : 2 ≤ j) (h2 : j ≤ 6) : ∃ n, RgC 0 j 2 n := by
  rcases (by omega : j = 2 ∨ j = 3 ∨ j = 4 ∨ j = 5 ∨ j = 6) with rfl | rfl | rfl | rfl | rfl
  all_goals exact ⟨_, by decide, by decide, by decide, rfl⟩
section
variable {P : Program} {w : World} {K : PySem.W.Frag} {mg : Str → Option Value} {base : Heap}
theorem scLaw : FnScope ["_law_script", "_law_at", "_law_bag_here", "_law_one", "_law_other", "_law_both", "_law_due", "_law_found"] ["_law_script"] (defScope sLaw) := ⟨rfl, rfl, rfl, by decide +kernel, rfl, by decide +kernel, by decide +kernel⟩
def spLaw (K : PySem.W.Frag) : Sp := fun vs H Q _ => ∃ (a : Addr) (ns : List Int), vs = [.ref a] ∧ SqL K H a (ns.map V.int) ∧ ns.length ≤ 63 ∧ ∀ H', Q (.bl true) H'
theorem ok_law {f fb fz fj fs fl fm ff : Addr} {fd fdb fdz fdj fds fdl fdm fdf : FuncData} (F : Fun K "law" "law" sLaw f fd) (ml : mg "len" = none) (mr : mg "range" = none) (mx : mg "max" = none) (mn : mg "min" = none) (ms : mg "sorted" = none)
    (Fb : Fun K "_law_bag" "_law_bag" sBag fb fdb) (bb : Binds K fdb ["_law_script", "_law_at"] []) (gb : mg "_law_bag" = some (.ref fb)) (Gb : FnOk P w K mg base CX0 1 fb fdb ["_law_script", "_law_at"] (spBag K))
    (Fz : Fun K "_law_sizes" "_law_sizes" sSizes fz fdz) (bz : Binds K fdz ["_law_bag_here", "_law_most"] []) (gz : mg "_law_sizes" = some (.ref fz)) (Gz : FnOk P w K mg base CX0 2 fz fdz ["_law_bag_here", "_law_most"] (spSizes K))
    (Fj : Fun K "joined" "joined" sJoined fj fdj) (bj : Binds K fdj ["one", "other"] []) (gj : mg "joined" = some (.ref fj)) (Gj : FnOk P w K mg base CX0 5 fj fdj ["one", "other"] (spJoined K))
    (Fs : Fun K "sides" "sides" sSides fs fds) (bs : Binds K fds ["sizes"] []) (gs : mg "sides" = some (.ref fs)) (Gs : FnOk P w K mg base CX0 6 fs fds ["sizes"] (spSides K))
    (Fl : Fun K "_law_lengths" "_law_lengths" sLengths fl fdl) (bl : Binds K fdl ["_law_found"] []) (gl : mg "_law_lengths" = some (.ref fl)) (Gl : FnOk P w K mg base CX0 1 fl fdl ["_law_found"] (spLengths K))
    (Fm : Fun K "_law_merged" "_law_merged" sMerged fm fdm) (bm : Binds K fdm ["_law_one", "_law_other"] []) (gm : mg "_law_merged" = some (.ref fm)) (Gm : FnOk P w K mg base CX0 1 fm fdm ["_law_one", "_law_other"] (spMerged K))
    (Ff : Fun K "_law_begin" "_law_begin" sBegin ff fdf) (bf : Binds K fdf ["_law_sizes_here"] []) (gf : mg "_law_begin" = some (.ref ff)) (Gf : FnOk P w K mg base CX0 1 ff fdf ["_law_sizes_here"] (spBegin K)) :
    FnOk P w K mg base CX0 7 f fd ["_law_script"] (spLaw K) := by
  refine F.ok scLaw (fun vs H Q E h => ?_) (fun cdv A outer s H vs Q E hr h => ?_)
  · obtain ⟨a, ns, rfl, _⟩ := h
    rfl
  · obtain ⟨a, ns, rfl, hS, hlen, q⟩ := h
    refine ⟨_, pss_cons (ps_for PassesOwn.never rfl (pi_range3 (by rfl) mr (pa_cons pe_int (pa_cons (pe_callB (call_max2 rfl) (by rfl) mx (by decide +kernel) (pa_cons pe_int (pa_cons (pe_callB (call_min2 rfl) (by rfl) mn (by decide +kernel) (pa_cons pe_int (pa_cons (pe_callB call_len_seq (by rfl) ml PySem.boot_len (pa_cons (pv 0) pa_nil)) pa_nil))) pa_nil))) (pa_cons pe_int pa_nil)))) (pg_name (i := 1) scLaw.nd rfl (.inl rfl))
        (pss_cons (ps_set (i := 2) scLaw.nd rfl (.inl rfl) (pe_call Gb (hr.mono (by decide)) (by rfl) gb Fb.kp bb .nil pass0 (pa_cons (pv 0) (pa_cons (pv 1) pa_nil))))
        (pss_cons (ps_set (i := 3) scLaw.nd rfl (.inl rfl) (pe_call Gz (hr.mono (by decide)) (by rfl) gz Fz.kp bz .nil pass0 (pa_cons (pv 2) (pa_cons pe_int pa_nil))))
        (pss_cons (ps_set (i := 4) scLaw.nd rfl (.inl rfl) (pe_call Gz (hr.mono (by decide)) (by rfl) gz Fz.kp bz .nil pass0 (pa_cons (pe_call Gb (hr.mono (by decide)) (by rfl) gb Fb.kp bb .nil pass0 (pa_cons (pv 0) (pa_cons (pe_op op_add (pv 1) pe_int) pa_nil))) (pa_cons pe_int pa_nil))))
        (pss_cons (ps_set (i := 5) scLaw.nd rfl (.inl rfl) (pe_call Gj (hr.mono (by decide)) (by rfl) gj Fj.kp bj .nil pass0 (pa_cons (pv 3) (pa_cons (pv 4) pa_nil))))
        (pss_cons (ps_set (i := 6) scLaw.nd rfl (.inl rfl) (pe_call Gm (hr.mono (by decide)) (by rfl) gm Fm.kp bm .nil pass0 (pa_cons (pe_call Gl (hr.mono (by decide)) (by rfl) gl Fl.kp bl .nil pass0 (pa_cons (pe_call Gs hr (by rfl) gs Fs.kp bs .nil pass0 (pa_cons (pv 3) pa_nil)) pa_nil)) (pa_cons (pe_call Gl (hr.mono (by decide)) (by rfl) gl Fl.kp bl .nil pass0 (pa_cons (pe_call Gs hr (by rfl) gs Fs.kp bs .nil pass0 (pa_cons (pv 4) pa_nil)) pa_nil)) pa_nil))))
        (pss_cons (ps_set (i := 7) scLaw.nd rfl (.inl rfl) (pe_call Gl (hr.mono (by decide)) (by rfl) gl Fl.kp bl .nil pass0 (pa_cons (pe_call Gs hr (by rfl) gs Fs.kp bs .nil pass0 (pa_cons (pv 5) pa_nil)) pa_nil)))
        (pss_cons (ps_if (PW.pt (pw_or (pt_cmpR (op_neD hr.units) (pe_callB (cr_sortedLn hr.units) (by rfl) ms (by decide +kernel) (pa_cons (pv 7) pa_nil)) (pe_callB (cr_sortedLn hr.units) (by rfl) ms (by decide +kernel) (pa_cons (pv 6) pa_nil)) (nomark _)) (pw_or1 (pt_cmpR op_ne (pe_call Gf (hr.mono (by decide)) (by rfl) gf Ff.kp bf .nil pass0 (pa_cons (pv 5) pa_nil)) (pe_op op_add (pe_call Gf (hr.mono (by decide)) (by rfl) gf Ff.kp bf .nil pass0 (pa_cons (pv 3) pa_nil)) (pe_call Gf (hr.mono (by decide)) (by rfl) gf Ff.kp bf .nil pass0 (pa_cons (pv 4) pa_nil))) (nomark _))))) (pss_one (ps_ret pe_bl)) pss_nil)
        (pss_one (ps_if (pt_cmpR (op_neD hr.units) (pe_call Gj (hr.mono (by decide)) (by rfl) gj Fj.kp bj .nil pass0 (pa_cons (pv 5) (pa_cons (pv 3) pa_nil))) (pe_call Gj (hr.mono (by decide)) (by rfl) gj Fj.kp bj .nil pass0 (pa_cons (pv 3) (pa_cons (pe_call Gj (hr.mono (by decide)) (by rfl) gj Fj.kp bj .nil pass0 (pa_cons (pv 4) (pa_cons (pv 3) pa_nil))) pa_nil))) (nomark _)) (pss_one (ps_ret pe_bl)) pss_nil))))))))))
      (pss_one (ps_ret pe_bl)), ?_⟩
    have hj : ∀ n : Int, 2 ≤ (if (if n < 6 then n else 6) > 2 then (if n < 6 then n else 6) else 2) ∧ (if (if n < 6 then n else 6) > 2 then (if n < 6 then n else 6) else 2) ≤ 6 := fun n => by
      split <;> split <;> omega
    obtain ⟨n, hn⟩ := rgc2 _ (hj ((ns.map V.int).length : Nat)).1 (hj ((ns.map V.int).length : Nat)).2
    refine ⟨.ref a, rfl, a, _, rfl, .inl hS, 6, _, rfl, 2, _, rfl, 0, _, 2, n, rfl, hn, ?_⟩
    refine for_rangeC (lo := 0) (c := 2) (n := n) (fun i σ H' => ∃ y1 y2 y3 y4 y5 y6 y7, σ = [some (.ref a), y1, y2, y3, y4, y5, y6, y7] ∧ Same H H') ⟨none, none, none, none, none, none, none, rfl, Same.refl H⟩ (fun i σ H0 hi hp => ?_) (fun σ H1 hp => ?_)
    · obtain ⟨y1, y2, y3, y4, y5, y6, y7, rfl, s0⟩ := hp
      have ei : (0 : Int) + ((i : Nat) : Int) * 2 = ((i * 2 : Nat) : Int) := by omega
      rw [ei]
      -- both bags, both sizes
      refine ⟨.ref a, rfl, .int _, rfl, a, ns, i * 2, rfl, s0.seq hS, fun H1 p1 s1 n1 B1 => ?_⟩
      refine ⟨.ref p1, rfl, p1, rfl, B1, fun H2 q1 z1 u2 Z1 l1 m1 t1 r1 => ?_⟩
      have s2 : Same H0 H2 := ((same_but s1 p1).trans u2).same n1
      refine ⟨.ref a, rfl, .int _, rfl, _, 1, rfl, rfl, a, ns, i * 2 + 1, rfl, (s0.trans s2).seq hS, fun H3 p2 s3 n2 B2 => ?_⟩
      refine ⟨p2, rfl, B2, fun H4 q2 z2 u4 Z2 l2 m2 t2 r2 => ?_⟩
      have s4 : Same H2 H4 := ((same_but s3 p2).trans u4).same n2
      have Z1' := Z1.same s4
      have sm1 : SmZ 400 z1 := fun i q h => (r1 i q h).up (by decide)
      have sm2 : SmZ 400 z2 := fun i q h => (r2 i q h).up (by decide)
      -- put together
      refine ⟨.ref q1, rfl, .ref q2, rfl, q1, q2, z1, z2, rfl, Z1', Z2, sm1, sm2, by omega, by omega, fun H5 q3 z3 s5 Z3 J => ?_⟩
      have sm3 : SmZ 400 z3 := fun i q h => (join_sm J r1 r2 i q h).up (by decide)
      have t3 : LastSome z3 := last_join J l1 l2 t1 t2
      have len3 := J.len
      obtain ⟨x1, hx1⟩ := id t1
      obtain ⟨x2, hx2⟩ := id t2
      obtain ⟨f1, hf1⟩ := begin_any hx1
      obtain ⟨f2, hf2⟩ := begin_any hx2
      have hf3 := J.begin hf1 hf2
      -- the sides of both, merged
      refine ⟨.ref q1, rfl, q1, z1, f1, rfl, Z1'.same s5, hf1, t1, sm1, fun H6 d1 L1 s6 D1 S1 => ?_⟩
      have few1 := S1.few
      refine ⟨d1, L1, rfl, D1, by omega, sides_le S1, fun H7 e1 s7 E1 => ?_⟩
      refine ⟨.ref q2, rfl, q2, z2, f2, rfl, Z2.same (s5.trans (s6.trans s7)), hf2, t2, sm2, fun H8 d2 L2 s8 D2 S2 => ?_⟩
      have few2 := S2.few
      refine ⟨d2, L2, rfl, D2, by omega, sides_le S2, fun H9 e2 s9 E2 => ?_⟩
      refine ⟨e1, e2, lengths L1, lengths L2, rfl, E1.same (s8.trans s9), E2, by rw [lengths_len, lengths_len]; omega, fun H10 e3 s10 E3 => ?_⟩
      -- the sides of what is put together
      have s510 : Same H5 H10 := s6.trans (s7.trans (s8.trans (s9.trans s10)))
      refine ⟨.ref q3, rfl, q3, z3, f1 + f2, rfl, Z3.same s510, hf3, t3, sm3, fun H11 d4 L4 s11 D4 S4 => ?_⟩
      have few4 := S4.few
      refine ⟨d4, L4, rfl, D4, by omega, sides_le S4, fun H12 e4 s12 E4 => ?_⟩
      have hperm := main_perm hx1 hx2 J S1 S2 S4
      have lm := merged_len (lengths L2) (lengths L1)
      rw [lengths_len, lengths_len] at lm
      -- sorted
      obtain ⟨xs4, h41, h42⟩ := E4.dps
      refine ⟨.ref e4, rfl, e4, xs4, lengths L4, rfl, h41, h42, Nat.le_of_lt (small1000 (by rw [lengths_len]; omega)), fun ys4 o4 h43 n4 => ?_⟩
      obtain ⟨xs3, h31, h32⟩ := ((E3.same (s11.trans s12)).same (same_upd (o := .lst ys4) n4)).dps
      refine ⟨.ref e3, rfl, e3, xs3, merged (lengths L1) (lengths L2), rfl, h31, h32, Nat.le_of_lt (small1000 (by omega)), fun ys3 o3 h33 n3 => ?_⟩
      have k4 : Same H12 (upd H12 o4 (.lst ys4)) := same_upd n4
      have k3 : Same (upd H12 o4 (.lst ys4)) (upd (upd H12 o4 (.lst ys4)) o3 (.lst ys3)) := same_upd n3
      refine ⟨_, _, .lst (.inl (.inl (k3 _ _ upd_same))) (dpAll_of (Paired.mapP h43 fun _ _ h => dp_same (k4.trans k3) h)), .lst (.inl (.inl upd_same)) (dpAll_of (Paired.mapP h33 fun _ _ h => dp_same k3 h)), shaped_Lns _, shaped_Lns _, _, rfl, ?_⟩
      rw [sort_perm hperm, eqv_self (shaped_Lns _)]
      refine iteF ?_
      -- where they begin
      have s13 : Same H5 (upd (upd H12 o4 (.lst ys4)) o3 (.lst ys3)) := s510.trans (s11.trans (s12.trans (k4.trans k3)))
      refine ⟨.ref q3, rfl, q3, z3, f1 + f2, rfl, Z3.same s13, hf3, fun H14 s14 => ?_⟩
      refine ⟨.ref q1, rfl, q1, z1, f1, rfl, Z1'.same (s5.trans (s13.trans s14)), hf1, fun H15 s15 => ?_⟩
      refine ⟨.ref q2, rfl, q2, z2, f2, rfl, Z2.same (s5.trans (s13.trans (s14.trans s15))), hf2, fun H16 s16 => ?_⟩
      refine ⟨_, _, rfl, rfl, rfl, _, rfl, ?_⟩
      have ef : V.int ((f1 + f2 : Nat) : Int) = V.int ((f1 : Int) + (f2 : Int)) := by rw [Int.natCast_add]
      rw [decide_eq_true ef]
      refine iteF ?_
      -- three put together
      have s516 : Same H5 H16 := s13.trans (s14.trans (s15.trans s16))
      refine ⟨.ref q3, rfl, .ref q1, rfl, q3, q1, z3, z1, rfl, Z3.same s516, Z1'.same (s5.trans s516), sm3, sm1, by omega, by omega, fun H17 c1 w1 s17 W1 J1 => ?_⟩
      refine ⟨.ref q1, rfl, .ref q2, rfl, .ref q1, rfl, q2, q1, z2, z1, rfl, Z2.same (s5.trans (s516.trans s17)), Z1'.same (s5.trans (s516.trans s17)), sm2, sm1, by omega, by omega, fun H18 c2 w2 s18 W2 J2 => ?_⟩
      have lw2 := J2.len
      have sm4 : SmZ 400 w2 := fun i q h => (join_sm J2 r2 r1 i q h).up (by decide)
      refine ⟨q1, c2, z1, w2, rfl, Z1'.same (s5.trans (s516.trans (s17.trans s18))), W2, sm1, sm4, by omega, by omega, fun H19 c3 w3 s19 W3 J3 => ?_⟩
      have ew : w1 = w3 := IsJoin.assoc l1 l2 l1 J J1 J2 J3
      subst ew
      refine ⟨_, _, dp_same (s18.trans s19) W1.dp, W3.dp, shaped_Os _, shaped_Os _, _, rfl, ?_⟩
      rw [eqv_self (shaped_Os _)]
      refine iteF ?_
      exact ⟨_, _, _, _, _, _, _, rfl, s0.trans (s2.trans (s4.trans (s5.trans (s516.trans (s17.trans (s18.trans s19))))))⟩
    · exact q H1
end
end Bd
namespace Bd
open PySem PySem.Spec PyProof.Rows L2
/-! ### what the top has written -/
theorem all_mk {l : PySem.W.OpenLaw} {w : World} {K : PySem.W.Frag} {h : Heap} {mg : Str → Option Value} {fa f1 f2 f3 f4 f5 f6 f7 f8 f9 f10 f11 f12 f13 f14 f15 f16 f17 f18 f19 f20 f21 : Addr} (X : K.In h) (G : h.Ns mainGlobals mg) (hfa : mg "law" = some (.ref fa))
    {od1 an1 od2 an2 od3 an3 od4 an4 od5 an5 od6 an6 od7 an7 od8 an8 od9 an9 od10 an10 od11 an11 od12 an12 od13 an13 od14 an14 od15 an15 od16 an16 od17 an17 od18 an18 od19 an19 od20 an20 od21 an21 : Option Addr} {sl1 sl2 sl3 sl4 sl5 sl6 sl7 sl8 sl9 sl10 sl11 sl12 sl13 sl14 sl15 sl16 sl17 sl18 sl19 sl20 sl21 : Array (Option Value)} {oc1 kV1 dc1 pm1 cd1 ct1 oc2 kV2 dc2 pm2 cd2 ct2 oc3 kV3 dc3 pm3 cd3 ct3 oc4 kV4 dc4 pm4 cd4 ct4 oc5 kV5 dc5 pm5 cd5 ct5 oc6 kV6 dc6 pm6 cd6 ct6 oc7 kV7 dc7 pm7 cd7 ct7 oc8 kV8 dc8 pm8 cd8 ct8 oc9 kV9 dc9 pm9 cd9 ct9 oc10 kV10 dc10 pm10 cd10 ct10 oc11 kV11 dc11 pm11 cd11 ct11 oc12 kV12 dc12 pm12 cd12 ct12 oc13 kV13 dc13 pm13 cd13 ct13 oc14 kV14 dc14 pm14 cd14 ct14 oc15 kV15 dc15 pm15 cd15 ct15 oc16 kV16 dc16 pm16 cd16 ct16 oc17 kV17 dc17 pm17 cd17 ct17 oc18 kV18 dc18 pm18 cd18 ct18 oc19 kV19 dc19 pm19 cd19 ct19 oc20 kV20 dc20 pm20 cd20 ct20 oc21 kV21 dc21 pm21 cd21 ct21 : Value}
    (a1 : PySem.W.nsIn K mainGlobals "common" = some (some (.ref f1))) (l1 : K.lookup f1 = some ⟨oc1, od1, .func (PySem.W.fnOf "common" "common" (defArgs sCommon) (defBody sCommon) (defScope sCommon) .none kV1 dc1 pm1 an1 cd1 ct1), sl1⟩) (c1 : PySem.W.codeIn K cd1 "common" = true) (k1 : PySem.W.keepIn K (.ref f1) = true)
    (a2 : PySem.W.nsIn K mainGlobals "fraction" = some (some (.ref f2))) (l2 : K.lookup f2 = some ⟨oc2, od2, .func (PySem.W.fnOf "fraction" "fraction" (defArgs sFraction) (defBody sFraction) (defScope sFraction) .none kV2 dc2 pm2 an2 cd2 ct2), sl2⟩) (c2 : PySem.W.codeIn K cd2 "fraction" = true) (k2 : PySem.W.keepIn K (.ref f2) = true)
    (a3 : PySem.W.nsIn K mainGlobals "plus" = some (some (.ref f3))) (l3 : K.lookup f3 = some ⟨oc3, od3, .func (PySem.W.fnOf "plus" "plus" (defArgs sPlus) (defBody sPlus) (defScope sPlus) .none kV3 dc3 pm3 an3 cd3 ct3), sl3⟩) (c3 : PySem.W.codeIn K cd3 "plus" = true) (k3 : PySem.W.keepIn K (.ref f3) = true)
    (a4 : PySem.W.nsIn K mainGlobals "minus" = some (some (.ref f4))) (l4 : K.lookup f4 = some ⟨oc4, od4, .func (PySem.W.fnOf "minus" "minus" (defArgs sMinus) (defBody sMinus) (defScope sMinus) .none kV4 dc4 pm4 an4 cd4 ct4), sl4⟩) (c4 : PySem.W.codeIn K cd4 "minus" = true) (k4 : PySem.W.keepIn K (.ref f4) = true)
    (a5 : PySem.W.nsIn K mainGlobals "over" = some (some (.ref f5))) (l5 : K.lookup f5 = some ⟨oc5, od5, .func (PySem.W.fnOf "over" "over" (defArgs sOver) (defBody sOver) (defScope sOver) .none kV5 dc5 pm5 an5 cd5 ct5), sl5⟩) (c5 : PySem.W.codeIn K cd5 "over" = true) (k5 : PySem.W.keepIn K (.ref f5) = true)
    (a6 : PySem.W.nsIn K mainGlobals "is_less" = some (some (.ref f6))) (l6 : K.lookup f6 = some ⟨oc6, od6, .func (PySem.W.fnOf "is_less" "is_less" (defArgs sIsLess) (defBody sIsLess) (defScope sIsLess) .none kV6 dc6 pm6 an6 cd6 ct6), sl6⟩) (c6 : PySem.W.codeIn K cd6 "is_less" = true) (k6 : PySem.W.keepIn K (.ref f6) = true)
    (a7 : PySem.W.nsIn K mainGlobals "slope_between" = some (some (.ref f7))) (l7 : K.lookup f7 = some ⟨oc7, od7, .func (PySem.W.fnOf "slope_between" "slope_between" (defArgs sSlope) (defBody sSlope) (defScope sSlope) .none kV7 dc7 pm7 an7 cd7 ct7), sl7⟩) (c7 : PySem.W.codeIn K cd7 "slope_between" = true) (k7 : PySem.W.keepIn K (.ref f7) = true)
    (a8 : PySem.W.nsIn K mainGlobals "next_corner" = some (some (.ref f8))) (l8 : K.lookup f8 = some ⟨oc8, od8, .func (PySem.W.fnOf "next_corner" "next_corner" (defArgs sCorner) (defBody sCorner) (defScope sCorner) .none kV8 dc8 pm8 an8 cd8 ct8), sl8⟩) (c8 : PySem.W.codeIn K cd8 "next_corner" = true) (k8 : PySem.W.keepIn K (.ref f8) = true)
    (a9 : PySem.W.nsIn K mainGlobals "first_place" = some (some (.ref f9))) (l9 : K.lookup f9 = some ⟨oc9, od9, .func (PySem.W.fnOf "first_place" "first_place" (defArgs sFirst) (defBody sFirst) (defScope sFirst) .none kV9 dc9 pm9 an9 cd9 ct9), sl9⟩) (c9 : PySem.W.codeIn K cd9 "first_place" = true) (k9 : PySem.W.keepIn K (.ref f9) = true)
    (a10 : PySem.W.nsIn K mainGlobals "sides" = some (some (.ref f10))) (l10 : K.lookup f10 = some ⟨oc10, od10, .func (PySem.W.fnOf "sides" "sides" (defArgs sSides) (defBody sSides) (defScope sSides) .none kV10 dc10 pm10 an10 cd10 ct10), sl10⟩) (c10 : PySem.W.codeIn K cd10 "sides" = true) (k10 : PySem.W.keepIn K (.ref f10) = true)
    (a11 : PySem.W.nsIn K mainGlobals "lesser" = some (some (.ref f11))) (l11 : K.lookup f11 = some ⟨oc11, od11, .func (PySem.W.fnOf "lesser" "lesser" (defArgs sLesser) (defBody sLesser) (defScope sLesser) .none kV11 dc11 pm11 an11 cd11 ct11), sl11⟩) (c11 : PySem.W.codeIn K cd11 "lesser" = true) (k11 : PySem.W.keepIn K (.ref f11) = true)
    (a12 : PySem.W.nsIn K mainGlobals "least_at" = some (some (.ref f12))) (l12 : K.lookup f12 = some ⟨oc12, od12, .func (PySem.W.fnOf "least_at" "least_at" (defArgs sLeast) (defBody sLeast) (defScope sLeast) .none kV12 dc12 pm12 an12 cd12 ct12), sl12⟩) (c12 : PySem.W.codeIn K cd12 "least_at" = true) (k12 : PySem.W.keepIn K (.ref f12) = true)
    (a13 : PySem.W.nsIn K mainGlobals "joined" = some (some (.ref f13))) (l13 : K.lookup f13 = some ⟨oc13, od13, .func (PySem.W.fnOf "joined" "joined" (defArgs sJoined) (defBody sJoined) (defScope sJoined) .none kV13 dc13 pm13 an13 cd13 ct13), sl13⟩) (c13 : PySem.W.codeIn K cd13 "joined" = true) (k13 : PySem.W.keepIn K (.ref f13) = true)
    (a14 : PySem.W.nsIn K mainGlobals "_law_bag" = some (some (.ref f14))) (l14 : K.lookup f14 = some ⟨oc14, od14, .func (PySem.W.fnOf "_law_bag" "_law_bag" (defArgs sBag) (defBody sBag) (defScope sBag) .none kV14 dc14 pm14 an14 cd14 ct14), sl14⟩) (c14 : PySem.W.codeIn K cd14 "_law_bag" = true) (k14 : PySem.W.keepIn K (.ref f14) = true)
    (a15 : PySem.W.nsIn K mainGlobals "_law_take" = some (some (.ref f15))) (l15 : K.lookup f15 = some ⟨oc15, od15, .func (PySem.W.fnOf "_law_take" "_law_take" (defArgs sTake) (defBody sTake) (defScope sTake) .none kV15 dc15 pm15 an15 cd15 ct15), sl15⟩) (c15 : PySem.W.codeIn K cd15 "_law_take" = true) (k15 : PySem.W.keepIn K (.ref f15) = true)
    (a16 : PySem.W.nsIn K mainGlobals "_law_low" = some (some (.ref f16))) (l16 : K.lookup f16 = some ⟨oc16, od16, .func (PySem.W.fnOf "_law_low" "_law_low" (defArgs sLow) (defBody sLow) (defScope sLow) .none kV16 dc16 pm16 an16 cd16 ct16), sl16⟩) (c16 : PySem.W.codeIn K cd16 "_law_low" = true) (k16 : PySem.W.keepIn K (.ref f16) = true)
    (a17 : PySem.W.nsIn K mainGlobals "_law_sizes" = some (some (.ref f17))) (l17 : K.lookup f17 = some ⟨oc17, od17, .func (PySem.W.fnOf "_law_sizes" "_law_sizes" (defArgs sSizes) (defBody sSizes) (defScope sSizes) .none kV17 dc17 pm17 an17 cd17 ct17), sl17⟩) (c17 : PySem.W.codeIn K cd17 "_law_sizes" = true) (k17 : PySem.W.keepIn K (.ref f17) = true)
    (a18 : PySem.W.nsIn K mainGlobals "_law_lengths" = some (some (.ref f18))) (l18 : K.lookup f18 = some ⟨oc18, od18, .func (PySem.W.fnOf "_law_lengths" "_law_lengths" (defArgs sLengths) (defBody sLengths) (defScope sLengths) .none kV18 dc18 pm18 an18 cd18 ct18), sl18⟩) (c18 : PySem.W.codeIn K cd18 "_law_lengths" = true) (k18 : PySem.W.keepIn K (.ref f18) = true)
    (a19 : PySem.W.nsIn K mainGlobals "_law_merged" = some (some (.ref f19))) (l19 : K.lookup f19 = some ⟨oc19, od19, .func (PySem.W.fnOf "_law_merged" "_law_merged" (defArgs sMerged) (defBody sMerged) (defScope sMerged) .none kV19 dc19 pm19 an19 cd19 ct19), sl19⟩) (c19 : PySem.W.codeIn K cd19 "_law_merged" = true) (k19 : PySem.W.keepIn K (.ref f19) = true)
    (a20 : PySem.W.nsIn K mainGlobals "_law_begin" = some (some (.ref f20))) (l20 : K.lookup f20 = some ⟨oc20, od20, .func (PySem.W.fnOf "_law_begin" "_law_begin" (defArgs sBegin) (defBody sBegin) (defScope sBegin) .none kV20 dc20 pm20 an20 cd20 ct20), sl20⟩) (c20 : PySem.W.codeIn K cd20 "_law_begin" = true) (k20 : PySem.W.keepIn K (.ref f20) = true)
    (a21 : PySem.W.nsIn K mainGlobals "law" = some (some (.ref f21))) (l21 : K.lookup f21 = some ⟨oc21, od21, .func (PySem.W.fnOf "law" "law" (defArgs sLaw) (defBody sLaw) (defScope sLaw) .none kV21 dc21 pm21 an21 cd21 ct21), sl21⟩) (c21 : PySem.W.codeIn K cd21 "law" = true) (k21 : PySem.W.keepIn K (.ref f21) = true)
    (z1 : PySem.W.nsIn K mainGlobals "abs" = some none) (z2 : PySem.W.nsIn K mainGlobals "len" = some none) (z3 : PySem.W.nsIn K mainGlobals "range" = some none) (z4 : PySem.W.nsIn K mainGlobals "enumerate" = some none) (z5 : PySem.W.nsIn K mainGlobals "list" = some none) (z6 : PySem.W.nsIn K mainGlobals "max" = some none) (z7 : PySem.W.nsIn K mainGlobals "min" = some none) (z8 : PySem.W.nsIn K mainGlobals "sorted" = some none) :
    ∃ fd : FuncData, (∀ (s : Shared) (v : Value), BindsTo s fd ⟨[v], []⟩ [("_law_script", v)]) ∧ ∀ base : Heap, K.In base → base.Ns mainGlobals mg → FnOk l.prog w K mg base CX0 7 fa fd ["_law_script"] (spLaw K) := by
  have e := hfa.symm.trans (PySem.W.mg_of X G a21)
  cases e
  have F1 := fun_mk (st := sCommon) l1 c1 k1
  have b1 := F1.binds (ps := ["one", "other"]) fun _ _ _ _ _ _ us hl => match us, hl with | [_, _], _ => rfl
  have g1 := PySem.W.mg_of X G a1
  have F2 := fun_mk (st := sFraction) l2 c2 k2
  have b2 := F2.binds (ps := ["top", "bottom"]) fun _ _ _ _ _ _ us hl => match us, hl with | [_, _], _ => rfl
  have g2 := PySem.W.mg_of X G a2
  have F3 := fun_mk (st := sPlus) l3 c3 k3
  have b3 := F3.binds (ps := ["u", "v"]) fun _ _ _ _ _ _ us hl => match us, hl with | [_, _], _ => rfl
  have g3 := PySem.W.mg_of X G a3
  have F4 := fun_mk (st := sMinus) l4 c4 k4
  have b4 := F4.binds (ps := ["u", "v"]) fun _ _ _ _ _ _ us hl => match us, hl with | [_, _], _ => rfl
  have g4 := PySem.W.mg_of X G a4
  have F5 := fun_mk (st := sOver) l5 c5 k5
  have b5 := F5.binds (ps := ["u", "v"]) fun _ _ _ _ _ _ us hl => match us, hl with | [_, _], _ => rfl
  have g5 := PySem.W.mg_of X G a5
  have F6 := fun_mk (st := sIsLess) l6 c6 k6
  have b6 := F6.binds (ps := ["u", "v"]) fun _ _ _ _ _ _ us hl => match us, hl with | [_, _], _ => rfl
  have g6 := PySem.W.mg_of X G a6
  have F7 := fun_mk (st := sSlope) l7 c7 k7
  have b7 := F7.binds (ps := ["sizes", "s", "t"]) fun _ _ _ _ _ _ us hl => match us, hl with | [_, _, _], _ => rfl
  have g7 := PySem.W.mg_of X G a7
  have F8 := fun_mk (st := sCorner) l8 c8 k8
  have b8 := F8.binds (ps := ["sizes", "s"]) fun _ _ _ _ _ _ us hl => match us, hl with | [_, _], _ => rfl
  have g8 := PySem.W.mg_of X G a8
  have F9 := fun_mk (st := sFirst) l9 c9 k9
  have b9 := F9.binds (ps := ["sizes"]) fun _ _ _ _ _ _ us hl => match us, hl with | [_], _ => rfl
  have g9 := PySem.W.mg_of X G a9
  have F10 := fun_mk (st := sSides) l10 c10 k10
  have b10 := F10.binds (ps := ["sizes"]) fun _ _ _ _ _ _ us hl => match us, hl with | [_], _ => rfl
  have g10 := PySem.W.mg_of X G a10
  have F11 := fun_mk (st := sLesser) l11 c11 k11
  have b11 := F11.binds (ps := ["one", "other"]) fun _ _ _ _ _ _ us hl => match us, hl with | [_, _], _ => rfl
  have g11 := PySem.W.mg_of X G a11
  have F12 := fun_mk (st := sLeast) l12 c12 k12
  have b12 := F12.binds (ps := ["one", "other", "k"]) fun _ _ _ _ _ _ us hl => match us, hl with | [_, _, _], _ => rfl
  have g12 := PySem.W.mg_of X G a12
  have F13 := fun_mk (st := sJoined) l13 c13 k13
  have b13 := F13.binds (ps := ["one", "other"]) fun _ _ _ _ _ _ us hl => match us, hl with | [_, _], _ => rfl
  have g13 := PySem.W.mg_of X G a13
  have F14 := fun_mk (st := sBag) l14 c14 k14
  have b14 := F14.binds (ps := ["_law_script", "_law_at"]) fun _ _ _ _ _ _ us hl => match us, hl with | [_, _], _ => rfl
  have g14 := PySem.W.mg_of X G a14
  have F15 := fun_mk (st := sTake) l15 c15 k15
  have b15 := F15.binds (ps := ["_law_bag_here", "_law_many"]) fun _ _ _ _ _ _ us hl => match us, hl with | [_, _], _ => rfl
  have g15 := PySem.W.mg_of X G a15
  have F16 := fun_mk (st := sLow) l16 c16 k16
  have b16 := F16.binds (ps := ["_law_top", "_law_bottom"]) fun _ _ _ _ _ _ us hl => match us, hl with | [_, _], _ => rfl
  have g16 := PySem.W.mg_of X G a16
  have F17 := fun_mk (st := sSizes) l17 c17 k17
  have b17 := F17.binds (ps := ["_law_bag_here", "_law_most"]) fun _ _ _ _ _ _ us hl => match us, hl with | [_, _], _ => rfl
  have g17 := PySem.W.mg_of X G a17
  have F18 := fun_mk (st := sLengths) l18 c18 k18
  have b18 := F18.binds (ps := ["_law_found"]) fun _ _ _ _ _ _ us hl => match us, hl with | [_], _ => rfl
  have g18 := PySem.W.mg_of X G a18
  have F19 := fun_mk (st := sMerged) l19 c19 k19
  have b19 := F19.binds (ps := ["_law_one", "_law_other"]) fun _ _ _ _ _ _ us hl => match us, hl with | [_, _], _ => rfl
  have g19 := PySem.W.mg_of X G a19
  have F20 := fun_mk (st := sBegin) l20 c20 k20
  have b20 := F20.binds (ps := ["_law_sizes_here"]) fun _ _ _ _ _ _ us hl => match us, hl with | [_], _ => rfl
  have g20 := PySem.W.mg_of X G a20
  have F21 := fun_mk (st := sLaw) l21 c21 k21
  have m_abs := PySem.W.mg_none_of X G z1
  have m_len := PySem.W.mg_none_of X G z2
  have m_range := PySem.W.mg_none_of X G z3
  have m_enumerate := PySem.W.mg_none_of X G z4
  have m_list := PySem.W.mg_none_of X G z5
  have m_max := PySem.W.mg_none_of X G z6
  have m_min := PySem.W.mg_none_of X G z7
  have m_sorted := PySem.W.mg_none_of X G z8
  refine ⟨PySem.W.fnOf "law" "law" (defArgs sLaw) (defBody sLaw) (defScope sLaw) .none kV21 dc21 pm21 an21 cd21 ct21, fun s v => .of_eq rfl, fun base _ _ => ?_⟩
  have G1 : FnOk l.prog w K mg base CX0 1 f1 _ ["one", "other"] (spCommon K) := ok_common (k := 0) F1 m_abs 
  have G2 : FnOk l.prog w K mg base CX0 2 f2 _ ["top", "bottom"] (spFraction K) := ok_fraction (k := 1) F2  F1 b1 g1 G1
  have G3 : FnOk l.prog w K mg base CX0 3 f3 _ ["u", "v"] (spPlus K) := ok_plus (k := 2) F3  F2 b2 g2 G2
  have G4 : FnOk l.prog w K mg base CX0 3 f4 _ ["u", "v"] (spMinus K) := ok_minus (k := 2) F4  F2 b2 g2 G2
  have G5 : FnOk l.prog w K mg base CX0 3 f5 _ ["u", "v"] (spOver K) := ok_over (k := 2) F5  F2 b2 g2 G2
  have G6 : FnOk l.prog w K mg base CX0 1 f6 _ ["u", "v"] (spIsLess K) := ok_isless (k := 0) F6  
  have G7 : FnOk l.prog w K mg base CX0 4 f7 _ ["sizes", "s", "t"] (spSlope K) := ok_slope F7  F2 b2 g2 G2 F4 b4 g4 G4 F5 b5 g5 G5
  have G8 : FnOk l.prog w K mg base CX0 5 f8 _ ["sizes", "s"] (spCorner K) := ok_corner F8 m_len m_range F7 b7 g7 G7 F6 b6 g6 G6
  have G9 : FnOk l.prog w K mg base CX0 1 f9 _ ["sizes"] (spBegin K) := ok_first (k := 0) F9 m_enumerate 
  have G10 : FnOk l.prog w K mg base CX0 6 f10 _ ["sizes"] (spSides K) := ok_sides F10 m_len F9 b9 g9 G9 F8 b8 g8 G8
  have G11 : FnOk l.prog w K mg base CX0 2 f11 _ ["one", "other"] (spLesser K) := ok_lesser (k := 1) F11  F6 b6 g6 G6
  have G12 : FnOk l.prog w K mg base CX0 4 f12 _ ["one", "other", "k"] (spLeast K) := ok_least F12 m_len m_range F11 b11 g11 G11 F3 b3 g3 G3
  have G13 : FnOk l.prog w K mg base CX0 5 f13 _ ["one", "other"] (spJoined K) := ok_joined (k := 4) F13 m_len m_range F12 b12 g12 G12
  have G14 : FnOk l.prog w K mg base CX0 1 f14 _ ["_law_script", "_law_at"] (spBag K) := ok_bag (k := 0) F14 m_len m_abs 
  have G15 : FnOk l.prog w K mg base CX0 1 f15 _ ["_law_bag_here", "_law_many"] (spTake K) := ok_take (k := 0) F15  
  have G16 : FnOk l.prog w K mg base CX0 1 f16 _ ["_law_top", "_law_bottom"] (spLow K) := ok_low (k := 0) F16 m_abs 
  have G17 : FnOk l.prog w K mg base CX0 2 f17 _ ["_law_bag_here", "_law_most"] (spSizes K) := ok_sizes (k := 1) F17 m_range F15 b15 g15 G15 F16 b16 g16 G16
  have G18 : FnOk l.prog w K mg base CX0 1 f18 _ ["_law_found"] (spLengths K) := ok_lengths (k := 0) F18  
  have G19 : FnOk l.prog w K mg base CX0 1 f19 _ ["_law_one", "_law_other"] (spMerged K) := ok_merged (k := 0) F19 m_list 
  have G20 : FnOk l.prog w K mg base CX0 1 f20 _ ["_law_sizes_here"] (spBegin K) := ok_begin (k := 0) F20 m_len m_range 
  exact ok_law F21 m_len m_range m_max m_min m_sorted F14 b14 g14 G14 F17 b17 g17 G17 F13 b13 g13 G13 F10 b10 g10 G10 F18 b18 g18 G18 F19 b19 g19 G19 F20 b20 g20 G20
end Bd
open PySem PySem.W PyProof.Rows
set_option maxHeartbeats 0 in
theorem PySem.Challenge.cw_branchdepth_k25_whole_sides_put_together_holds : PySem.Challenge.rw_branchdepth_k25_whole_sides_put_together.Holds := by
  w_on; o_law; k_head; (case hw => w_witness2)
  k_fill
  refine L2.walk_of (l := PySem.Challenge.rw_branchdepth_k25_whole_sides_put_together) (n := 63) (k := 7) (x := "_law_script") (CX := fun _ => L2.CX0) (sp := fun w => Bd.spLaw _) rfl (by decide) rfl ⟨rfl, by decide, by decide⟩ (fun w h Y => PySem.W.kIn_of Y) ?F (fun _ _ a ns hl _ hS => ⟨a, ns, rfl, hS, hl, fun _ => rfl⟩) (fun _ _ _ _ _ h => h)
  case F =>
    intro w mg fa h KX G hmg
    refine' Bd.all_mk KX G hmg ?a1 ?l1 ?c1 ?k1 ?a2 ?l2 ?c2 ?k2 ?a3 ?l3 ?c3 ?k3 ?a4 ?l4 ?c4 ?k4 ?a5 ?l5 ?c5 ?k5 ?a6 ?l6 ?c6 ?k6 ?a7 ?l7 ?c7 ?k7 ?a8 ?l8 ?c8 ?k8 ?a9 ?l9 ?c9 ?k9 ?a10 ?l10 ?c10 ?k10 ?a11 ?l11 ?c11 ?k11 ?a12 ?l12 ?c12 ?k12 ?a13 ?l13 ?c13 ?k13 ?a14 ?l14 ?c14 ?k14 ?a15 ?l15 ?c15 ?k15 ?a16 ?l16 ?c16 ?k16 ?a17 ?l17 ?c17 ?k17 ?a18 ?l18 ?c18 ?k18 ?a19 ?l19 ?c19 ?k19 ?a20 ?l20 ?c20 ?k20 ?a21 ?l21 ?c21 ?k21 ?z1 ?z2 ?z3 ?z4 ?z5 ?z6 ?z7 ?z8
    (case a1 => k_is)
    (case l1 => k_is)
    (case c1 => k_is)
    (case k1 => k_is)
    (case a2 => k_is)
    (case l2 => k_is)
    (case c2 => k_is)
    (case k2 => k_is)
    (case a3 => k_is)
    (case l3 => k_is)
    (case c3 => k_is)
    (case k3 => k_is)
    (case a4 => k_is)
    (case l4 => k_is)
    (case c4 => k_is)
    (case k4 => k_is)
    (case a5 => k_is)
    (case l5 => k_is)
    (case c5 => k_is)
    (case k5 => k_is)
    (case a6 => k_is)
    (case l6 => k_is)
    (case c6 => k_is)
    (case k6 => k_is)
    (case a7 => k_is)
    (case l7 => k_is)
    (case c7 => k_is)
    (case k7 => k_is)
    (case a8 => k_is)
    (case l8 => k_is)
    (case c8 => k_is)
    (case k8 => k_is)
    (case a9 => k_is)
    (case l9 => k_is)
    (case c9 => k_is)
    (case k9 => k_is)
    (case a10 => k_is)
    (case l10 => k_is)
    (case c10 => k_is)
    (case k10 => k_is)
    (case a11 => k_is)
    (case l11 => k_is)
    (case c11 => k_is)
    (case k11 => k_is)
    (case a12 => k_is)
    (case l12 => k_is)
    (case c12 => k_is)
    (case k12 => k_is)
    (case a13 => k_is)
    (case l13 => k_is)
    (case c13 => k_is)
    (case k13 => k_is)
    (case a14 => k_is)
    (case l14 => k_is)
    (case c14 => k_is)
    (case k14 => k_is)
    (case a15 => k_is)
    (case l15 => k_is)
    (case c15 => k_is)
    (case k15 => k_is)
    (case a16 => k_is)
    (case l16 => k_is)
    (case c16 => k_is)
    (case k16 => k_is)
    (case a17 => k_is)
    (case l17 => k_is)
    (case c17 => k_is)
    (case k17 => k_is)
    (case a18 => k_is)
    (case l18 => k_is)
    (case c18 => k_is)
    (case k18 => k_is)
    (case a19 => k_is)
    (case l19 => k_is)
    (case c19 => k_is)
    (case k19 => k_is)
    (case a20 => k_is)
    (case l20 => k_is)
    (case c20 => k_is)
    (case k20 => k_is)
    (case a21 => k_is)
    (case l21 => k_is)
    (case c21 => k_is)
    (case k21 => k_is)
    (case z1 => k_is)
    (case z2 => k_is)
    (case z3 => k_is)
    (case z4 => k_is)
    (case z5 => k_is)
    (case z6 => k_is)
    (case z7 => k_is)
    (case z8 => k_is)
