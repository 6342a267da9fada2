/- YtojbflghmjfbpaaGreatDoorB5, a part of the proof that the claim's law answers true for every input, made small by program from the texts of this repo's wip/. No condition beyond those that the statements bear. -/
import Derived.Test.YtojbflghmjfbpaaGreatDoorB4
import Derived.Test.YtojbflghmjfbpaaGreatDoorRows
import Derived.ProofKit
import Derived.LaidMore
import Derived.OpenShut
import Derived.Lay
import Derived.Lib.SmallJoins
import Derived.Stop.Joined
namespace Go.Cham
open Go Go.RowKit
theorem Zeu {a b : Rat} : Xo a b = 0 ↔ a = b := by
  unfold Xo
  by_cases h : a < b
  · rw [if_pos h]; constructor
    · intro e; cases e
    · intro e; subst e; grind
  · by_cases h2 : b < a
    · rw [if_neg h, if_pos h2]; constructor
      · intro e; cases e
      · intro e; subst e; grind
    · rw [if_neg h, if_neg h2]; constructor
      · intro _; grind
      · intro _; rfl
theorem lex4_cases (x y z u : Int) : (x ≠ 0 ∧ Zb5 x y z u = x) ∨ (x = 0 ∧ y ≠ 0 ∧ Zb5 x y z u = y) ∨ (x = 0 ∧ y = 0 ∧ z ≠ 0 ∧ Zb5 x y z u = z) ∨ (x = 0 ∧ y = 0 ∧ z = 0 ∧ Zb5 x y z u = u) := by
  by_cases h : x = 0
  · by_cases h1 : y = 0
    · by_cases h2 : z = 0
      · exact Or.inr (Or.inr (Or.inr ⟨h, h1, h2, (lex4_3 h h1 h2).symm⟩))
      · exact Or.inr (Or.inr (Or.inl ⟨h, h1, h2, (lex4_2 h h1 h2).symm⟩))
    · exact Or.inr (Or.inl ⟨h, h1, (lex4_1 h h1).symm⟩)
  · exact Or.inl ⟨h, (lex4_0 h).symm⟩
theorem cmp4_zero {a b c d e f g h : Rat} : Zb5 (Xo a e) (Xo b f) (Xo c g) (Xo d h) = 0 ↔ (a = e ∧ b = f ∧ c = g ∧ d = h) := by
  have c1 := lex4_cases (Xo a e) (Xo b f) (Xo c g) (Xo d h)
  rw [← @Zeu a e, ← @Zeu b f, ← @Zeu c g, ← @Zeu d h]
  omega
theorem Zeg {p q : Rat} : YJ (rtxt p) = YJ (rtxt q) ↔ p = q := by
  constructor
  · intro h
    have := congrArg bl h
    rw [XM (rtxt_lt p), XM (rtxt_lt q)] at this
    exact rtxt_inj this
  · intro h; rw [h]
theorem list4_eq {a b c d e f g h : ByteArray} : ([a, b, c, d] = [e, f, g, h]) ↔ (a = e ∧ b = f ∧ c = g ∧ d = h) := by simp
theorem cmp4_txt {a b c d e f g h : Rat} : Zb5 (Xo a e) (Xo b f) (Xo c g) (Xo d h) = 0 ↔ [YJ (rtxt a), YJ (rtxt b), YJ (rtxt c), YJ (rtxt d)] = [YJ (rtxt e), YJ (rtxt f), YJ (rtxt g), YJ (rtxt h)] := by
  rw [cmp4_zero, list4_eq, Zeg, Zeg, Zeg, Zeg]
end Go.Cham
namespace Go.Cham
open Go Go.RowKit
theorem ite_iff {p q : Prop} [Decidable p] [Decidable q] (h : p ↔ q) : (if p then (1 : Int) else 0) = if q then 1 else 0 := by
  by_cases e : p
  · rw [if_pos e, if_pos (h.1 e)]
  · rw [if_neg e, if_neg (fun z => e (h.2 z))]
theorem nine {p : Prop} [Decidable p] (h : (if p then (1 : Int) else 0) = 0) : ¬ p := fun e => by rw [if_pos e] at h; cases h
end Go.Cham
namespace Go.Cham
open Go Go.RowKit
theorem pv_pn {x y z u : List Nat} (h : Zcl x y z u = 0) : pn (pvA x y z u) (pvB x y z u) (pvC x y z u) (pvD x y z u) (pvA x y z u) = pvA x y z u ∧ pn (pvA x y z u) (pvB x y z u) (pvC x y z u) (pvD x y z u) (pvB x y z u) = pvB x y z u ∧
    pn (pvA x y z u) (pvB x y z u) (pvC x y z u) (pvD x y z u) (pvC x y z u) = pvC x y z u ∧ pn (pvA x y z u) (pvB x y z u) (pvC x y z u) (pvD x y z u) (pvD x y z u) = pvD x y z u := by
  unfold pvA pvB pvC pvD
  rw [if_pos h, if_pos h, if_pos h, if_pos h]
  exact pn_pn (nz3.1 (perr_zero h).2.2.2.2)
theorem sc_ne {k a b c : Rat} (h : ¬ ((k * a).num = 0 ∧ (k * b).num = 0 ∧ (k * c).num = 0)) : k ≠ 0 := by
  rintro rfl
  apply h
  rw [num0, num0, num0, Rat.zero_mul, Rat.zero_mul, Rat.zero_mul]
  exact ⟨rfl, rfl, rfl⟩
theorem sc_zero {k a b c : Rat} (h : (k * a).num = 0 ∧ (k * b).num = 0 ∧ (k * c).num = 0) (hz : ¬ (a = 0 ∧ b = 0 ∧ c = 0)) : Yx k.num = 0 := by
  rw [num0, num0, num0] at h
  rw [Yp, num0]
  refine Classical.byContradiction fun hk => hz ⟨?_, ?_, ?_⟩
  · exact (Rat.mul_eq_zero.1 h.1).resolve_left hk
  · exact (Rat.mul_eq_zero.1 h.2.1).resolve_left hk
  · exact (Rat.mul_eq_zero.1 h.2.2).resolve_left hk
theorem sq_nn (a : Rat) : 0 ≤ a * a := by
  rcases (Rat.le_total : (0 : Rat) ≤ a ∨ a ≤ 0) with h | h
  · exact Rat.mul_nonneg h h
  · have := Rat.mul_nonneg (show 0 ≤ -a by grind) (show 0 ≤ -a by grind)
    grind
theorem sq_pos {a : Rat} (h : a ≠ 0) : 0 < a * a := by
  have h1 := sq_nn a
  have h2 : a * a ≠ 0 := fun e => by rcases Rat.mul_eq_zero.1 e with q | q <;> exact h q
  grind
theorem dot_pos {a b c : Rat} (hz : ¬ (a = 0 ∧ b = 0 ∧ c = 0)) : 0 < (((0 + (a * a)) + (b * b)) + (c * c)) := by
  have h1 := sq_nn a; have h2 := sq_nn b; have h3 := sq_nn c
  by_cases ha : a = 0
  · by_cases hb : b = 0
    · have hc : c ≠ 0 := fun e => hz ⟨ha, hb, e⟩
      have := sq_pos hc
      grind
    · have := sq_pos hb
      grind
  · have := sq_pos ha
    grind
theorem dot_sgn {a b c : Rat} (hz : ¬ (a = 0 ∧ b = 0 ∧ c = 0)) : Yx (((0 + (a * a)) + (b * b)) + (c * c)).num = 1 := by
  have h := dot_pos hz
  rcases sgnQ (((0 + (a * a)) + (b * b)) + (c * c)) with ⟨_, g⟩ | ⟨_, g⟩ | ⟨g, _⟩
  · exfalso; grind
  · exfalso; grind
  · exact g
theorem foot_zero {a b c d p q r : Rat} (hz : ¬ (a = 0 ∧ b = 0 ∧ c = 0)) :
    ((((0 + (a * (p - ((((((0 + (a * p)) + (b * q)) + (c * r)) - d) / (((0 + (a * a)) + (b * b)) + (c * c))) * a)))) + (b * (q - ((((((0 + (a * p)) + (b * q)) + (c * r)) - d) / (((0 + (a * a)) + (b * b)) + (c * c))) * b)))) + (c * (r - ((((((0 + (a * p)) + (b * q)) + (c * r)) - d) / (((0 + (a * a)) + (b * b)) + (c * c))) * c)))) - d) = 0 := by
  have h := dot_pos hz
  have hne : (((0 + (a * a)) + (b * b)) + (c * c)) ≠ 0 := by grind
  have e := Rat.div_mul_cancel (a := ((((0 + (a * p)) + (b * q)) + (c * r)) - d)) hne
  generalize ((((0 + (a * p)) + (b * q)) + (c * r)) - d) / (((0 + (a * a)) + (b * b)) + (c * c)) = t at e
  grind
theorem Zdm {q : Rat} (h : q = 0) : Yx q.num = 0 := by rw [h]; rfl
theorem through_eq {a b c d p0 p1 p2 q0 q1 q2 r0 r1 r2 : Rat} (hz : ¬ (a = 0 ∧ b = 0 ∧ c = 0)) (hpn : pn a b c d a = a ∧ pn a b c d b = b ∧ pn a b c d c = c ∧ pn a b c d d = d)
    (hp : ((((0 + (a * p0)) + (b * p1)) + (c * p2)) - d) = 0) (hq : ((((0 + (a * q0)) + (b * q1)) + (c * q2)) - d) = 0) (hr : ((((0 + (a * r0)) + (b * r1)) + (c * r2)) - d) = 0) {x y z u : Rat}
    (hx : x = ((q1 - p1) * (r2 - p2)) - ((q2 - p2) * (r1 - p1))) (hy : y = ((q2 - p2) * (r0 - p0)) - ((q0 - p0) * (r2 - p2))) (hw : z = ((q0 - p0) * (r1 - p1)) - ((q1 - p1) * (r0 - p0))) (hu : u = (((0 + (x * p0)) + (y * p1)) + (z * p2)))
    (hn : ¬ (x.num = 0 ∧ y.num = 0 ∧ z.num = 0)) : pn x y z u x = a ∧ pn x y z u y = b ∧ pn x y z u z = c ∧ pn x y z u u = d := by
  have k1 : a * (q0 - p0) + b * (q1 - p1) + c * (q2 - p2) = 0 := by grind
  have k2 : a * (r0 - p0) + b * (r1 - p1) + c * (r2 - p2) = 0 := by grind
  generalize q0 - p0 = u0 at *
  generalize q1 - p1 = u1 at *
  generalize q2 - p2 = u2 at *
  generalize r0 - p0 = v0 at *
  generalize r1 - p1 = v1 at *
  generalize r2 - p2 = v2 at *
  have m1 : a * y = b * x := by rw [hx, hy]; grind
  have m2 : a * z = c * x := by rw [hx, hw]; grind
  have m3 : b * z = c * y := by rw [hy, hw]; grind
  have hd : d = a * p0 + b * p1 + c * p2 := by grind
  have ht : ∃ t : Rat, x = t * a ∧ y = t * b ∧ z = t * c := by
    by_cases ha : a = 0
    · by_cases hb : b = 0
      · have hc : c ≠ 0 := fun e => hz ⟨ha, hb, e⟩
        refine ⟨z / c, ?_, ?_, ?_⟩
        · have e := Rat.div_mul_cancel (a := z) hc; subst ha; have : c * x = 0 := by grind
          rcases Rat.mul_eq_zero.1 this with q | q
          · exact absurd q hc
          · rw [q]; grind
        · subst hb; have : c * y = 0 := by grind
          rcases Rat.mul_eq_zero.1 this with q | q
          · exact absurd q hc
          · rw [q]; grind
        · exact (Rat.div_mul_cancel hc).symm
      · have e := Rat.div_mul_cancel (a := y) hb
        refine ⟨y / b, ?_, e.symm, ?_⟩
        · subst ha; have : b * x = 0 := by grind
          rcases Rat.mul_eq_zero.1 this with q | q
          · exact absurd q hb
          · rw [q]; grind
        · generalize y / b = t at e; subst e
          have : b * (z - t * c) = 0 := by grind
          rcases Rat.mul_eq_zero.1 this with q | q
          · exact absurd q hb
          · grind
    · have e := Rat.div_mul_cancel (a := x) ha
      refine ⟨x / a, e.symm, ?_, ?_⟩
      · generalize x / a = t at e; subst e
        have : a * (y - t * b) = 0 := by grind
        rcases Rat.mul_eq_zero.1 this with q | q
        · exact absurd q ha
        · grind
      · generalize x / a = t at e; subst e
        have : a * (z - t * c) = 0 := by grind
        rcases Rat.mul_eq_zero.1 this with q | q
        · exact absurd q ha
        · grind
  obtain ⟨t, e1, e2, e3⟩ := ht
  have ht0 : t ≠ 0 := by
    rintro rfl
    apply hn
    rw [num0, num0, num0, e1, e2, e3]
    refine ⟨?_, ?_, ?_⟩ <;> grind
  have e4 : u = t * d := by rw [hu, hd, e1, e2, e3]; grind
  obtain ⟨f1, f2, f3, f4⟩ := pn_mul (d := d) hz ht0 e1 e2 e3 e4
  exact ⟨f1.trans hpn.1, f2.trans hpn.2.1, f3.trans hpn.2.2.1, f4.trans hpn.2.2.2⟩
theorem flip_zero {x y z x' y' z' : Rat} (h1 : x' = -x) (h2 : y' = -y) (h3 : z' = -z) : (x'.num = 0 ∧ y'.num = 0 ∧ z'.num = 0) ↔ (x.num = 0 ∧ y.num = 0 ∧ z.num = 0) := by
  rw [num0, num0, num0, num0, num0, num0, h1, h2, h3]
  constructor <;> rintro ⟨g1, g2, g3⟩ <;> refine ⟨?_, ?_, ?_⟩ <;> grind
theorem eq4_cmp {a b c d e f g h : Rat} (q : a = e ∧ b = f ∧ c = g ∧ d = h) : Zb5 (Xo a e) (Xo b f) (Xo c g) (Xo d h) = 0 := cmp4_zero.2 q
theorem eq4_nz {a b c d e f g h : Rat} (q : a = e ∧ b = f ∧ c = g ∧ d = h) (hz : ¬ (e.num = 0 ∧ f.num = 0 ∧ g.num = 0)) : ¬ (a.num = 0 ∧ b.num = 0 ∧ c.num = 0) := by
  obtain ⟨rfl, rfl, rfl, rfl⟩ := q
  exact hz
end Go.Cham
namespace Go.Cham
open Go Go.RowKit Go.Proofs
noncomputable section
def ls_r : List Rw := [⟨[3, 0], 0, 0⟩, ⟨[3, 1], 0, 0⟩, ⟨[3, 2], 0, 0⟩, ⟨[3, 3], 0, 0⟩, ⟨[3, 4], 0, 0⟩, ⟨[3, 5], 0, 0⟩, ⟨[3, 6], 0, 0⟩, ⟨[3, 7], 0, 0⟩, ⟨[3, 8], 0, 0⟩, ⟨[3, 9], 0, 0⟩, ⟨[3, 10], 0, 0⟩, ⟨[3, 11], 0, 0⟩, ⟨[3, 12], 0, 0⟩, ⟨[3, 13], 0, 0⟩, ⟨[50, 0, 1, 2, 3], 0, 351808⟩, ⟨[54, 0, 1, 2, 3], 0, 351808⟩, ⟨[58, 0, 1, 2, 3], 0, 351808⟩, ⟨[62, 0, 1, 2, 3], 0, 351808⟩, ⟨[38, 4], 0, 900⟩, ⟨[46, 14, 15, 16, 17, 14], 0, 135100480⟩, ⟨[46, 14, 15, 16, 17, 15], 0, 135100480⟩, ⟨[46, 14, 15, 16, 17, 16], 0, 135100480⟩, ⟨[46, 14, 15, 16, 17, 17], 0, 135100480⟩, ⟨[30, 18, 14], 0, 352708⟩, ⟨[30, 18, 15], 0, 352708⟩, ⟨[30, 18, 16], 0, 352708⟩, ⟨[30, 18, 17], 0, 352708⟩, ⟨[46, 23, 24, 25, 26, 23], 0, 135446080⟩, ⟨[46, 23, 24, 25, 26, 24], 0, 135446080⟩, ⟨[46, 23, 24, 25, 26, 25], 0, 135446080⟩, ⟨[46, 23, 24, 25, 26, 26], 0, 135446080⟩, ⟨[43, 27], 0, 135446080⟩, ⟨[43, 28], 0, 135446080⟩, ⟨[43, 29], 0, 135446080⟩, ⟨[43, 30], 0, 135446080⟩, ⟨[43, 14], 0, 351808⟩, ⟨[43, 15], 0, 351808⟩, ⟨[43, 16], 0, 351808⟩, ⟨[43, 17], 0, 351808⟩, ⟨[66, 5, 6, 7], 0, 900⟩, ⟨[70, 5, 6, 7], 0, 900⟩, ⟨[74, 5, 6, 7], 0, 900⟩, ⟨[30, 14, 39], 0, 352708⟩, ⟨[6], 0, 351808⟩, ⟨[22, 43, 42], 0, 704517⟩, ⟨[30, 15, 40], 0, 352708⟩, ⟨[22, 44, 45], 0, 1057226⟩, ⟨[30, 16, 41], 0, 352708⟩, ⟨[22, 46, 47], 0, 1409935⟩, ⟨[26, 48, 17], 0, 1761744⟩, ⟨[30, 14, 14], 0, 703616⟩, ⟨[22, 43, 50], 0, 1055425⟩, ⟨[30, 15, 15], 0, 703616⟩, ⟨[22, 51, 52], 0, 1759042⟩, ⟨[30, 16, 16], 0, 703616⟩, ⟨[22, 53, 54], 0, 2462659⟩, ⟨[34, 49, 55], 0, 4224403⟩, ⟨[30, 56, 14], 0, 4576211⟩, ⟨[30, 56, 15], 0, 4576211⟩, ⟨[30, 56, 16], 0, 4576211⟩, ⟨[26, 39, 57], 0, 4577112⟩, ⟨[26, 40, 58], 0, 4577112⟩, ⟨[26, 41, 59], 0, 4577112⟩, ⟨[30, 14, 60], 0, 4928920⟩, ⟨[22, 43, 63], 0, 5280729⟩, ⟨[30, 15, 61], 0, 4928920⟩, ⟨[22, 64, 65], 0, 10209650⟩, ⟨[30, 16, 62], 0, 4928920⟩, ⟨[22, 66, 67], 0, 15138571⟩, ⟨[26, 68, 17], 0, 15490380⟩, ⟨[66, 8, 9, 10], 0, 900⟩, ⟨[70, 8, 9, 10], 0, 900⟩, ⟨[74, 8, 9, 10], 0, 900⟩, ⟨[30, 14, 70], 0, 352708⟩, ⟨[22, 43, 73], 0, 704517⟩, ⟨[30, 15, 71], 0, 352708⟩, ⟨[22, 74, 75], 0, 1057226⟩, ⟨[30, 16, 72], 0, 352708⟩, ⟨[22, 76, 77], 0, 1409935⟩, ⟨[26, 78, 17], 0, 1761744⟩, ⟨[34, 79, 55], 0, 4224403⟩, ⟨[30, 80, 14], 0, 4576211⟩, ⟨[30, 80, 15], 0, 4576211⟩, ⟨[30, 80, 16], 0, 4576211⟩, ⟨[26, 70, 81], 0, 4577112⟩, ⟨[26, 71, 82], 0, 4577112⟩, ⟨[26, 72, 83], 0, 4577112⟩, ⟨[30, 14, 84], 0, 4928920⟩, ⟨[22, 43, 87], 0, 5280729⟩, ⟨[30, 15, 85], 0, 4928920⟩, ⟨[22, 88, 89], 0, 10209650⟩, ⟨[30, 16, 86], 0, 4928920⟩, ⟨[22, 90, 91], 0, 15138571⟩, ⟨[26, 92, 17], 0, 15490380⟩, ⟨[66, 11, 12, 13], 0, 900⟩, ⟨[70, 11, 12, 13], 0, 900⟩, ⟨[74, 11, 12, 13], 0, 900⟩, ⟨[30, 14, 94], 0, 352708⟩, ⟨[22, 43, 97], 0, 704517⟩, ⟨[30, 15, 95], 0, 352708⟩, ⟨[22, 98, 99], 0, 1057226⟩, ⟨[30, 16, 96], 0, 352708⟩, ⟨[22, 100, 101], 0, 1409935⟩, ⟨[26, 102, 17], 0, 1761744⟩, ⟨[34, 103, 55], 0, 4224403⟩, ⟨[30, 104, 14], 0, 4576211⟩, ⟨[30, 104, 15], 0, 4576211⟩, ⟨[30, 104, 16], 0, 4576211⟩, ⟨[26, 94, 105], 0, 4577112⟩, ⟨[26, 95, 106], 0, 4577112⟩, ⟨[26, 96, 107], 0, 4577112⟩, ⟨[30, 14, 108], 0, 4928920⟩, ⟨[22, 43, 111], 0, 5280729⟩, ⟨[30, 15, 109], 0, 4928920⟩, ⟨[22, 112, 113], 0, 10209650⟩, ⟨[30, 16, 110], 0, 4928920⟩, ⟨[22, 114, 115], 0, 15138571⟩, ⟨[26, 116, 17], 0, 15490380⟩, ⟨[26, 84, 60], 0, 9154225⟩, ⟨[26, 85, 61], 0, 9154225⟩, ⟨[26, 86, 62], 0, 9154225⟩, ⟨[26, 108, 60], 0, 9154225⟩, ⟨[26, 109, 61], 0, 9154225⟩, ⟨[26, 110, 62], 0, 9154225⟩, ⟨[30, 119, 123], 0, 18308450⟩, ⟨[30, 120, 122], 0, 18308450⟩, ⟨[26, 124, 125], 0, 36616901⟩, ⟨[30, 120, 121], 0, 18308450⟩, ⟨[30, 118, 123], 0, 18308450⟩, ⟨[26, 127, 128], 0, 36616901⟩, ⟨[30, 118, 122], 0, 18308450⟩, ⟨[30, 119, 121], 0, 18308450⟩, ⟨[26, 130, 131], 0, 36616901⟩, ⟨[30, 126, 60], 0, 41194013⟩, ⟨[22, 43, 133], 0, 41545822⟩, ⟨[30, 129, 61], 0, 41194013⟩, ⟨[22, 134, 135], 0, 82739836⟩, ⟨[30, 132, 62], 0, 41194013⟩, ⟨[22, 136, 137], 0, 123933850⟩, ⟨[46, 126, 129, 132, 138, 126], 0, 47590604608⟩, ⟨[46, 126, 129, 132, 138, 129], 0, 47590604608⟩, ⟨[46, 126, 129, 132, 138, 132], 0, 47590604608⟩, ⟨[46, 126, 129, 132, 138, 138], 0, 47590604608⟩, ⟨[26, 60, 84], 0, 9154225⟩, ⟨[26, 61, 85], 0, 9154225⟩, ⟨[26, 62, 86], 0, 9154225⟩, ⟨[26, 108, 84], 0, 9154225⟩, ⟨[26, 109, 85], 0, 9154225⟩, ⟨[26, 110, 86], 0, 9154225⟩, ⟨[30, 144, 148], 0, 18308450⟩, ⟨[30, 145, 147], 0, 18308450⟩, ⟨[26, 149, 150], 0, 36616901⟩, ⟨[30, 145, 146], 0, 18308450⟩, ⟨[30, 143, 148], 0, 18308450⟩, ⟨[26, 152, 153], 0, 36616901⟩, ⟨[30, 143, 147], 0, 18308450⟩, ⟨[30, 144, 146], 0, 18308450⟩, ⟨[26, 155, 156], 0, 36616901⟩, ⟨[30, 151, 84], 0, 41194013⟩, ⟨[22, 43, 158], 0, 41545822⟩, ⟨[30, 154, 85], 0, 41194013⟩, ⟨[22, 159, 160], 0, 82739836⟩, ⟨[30, 157, 86], 0, 41194013⟩, ⟨[22, 161, 162], 0, 123933850⟩, ⟨[46, 151, 154, 157, 163, 151], 0, 47590604608⟩, ⟨[46, 151, 154, 157, 163, 154], 0, 47590604608⟩, ⟨[46, 151, 154, 157, 163, 157], 0, 47590604608⟩, ⟨[46, 151, 154, 157, 163, 163], 0, 47590604608⟩, ⟨[26, 84, 108], 0, 9154225⟩, ⟨[26, 85, 109], 0, 9154225⟩, ⟨[26, 86, 110], 0, 9154225⟩, ⟨[26, 60, 108], 0, 9154225⟩, ⟨[26, 61, 109], 0, 9154225⟩, ⟨[26, 62, 110], 0, 9154225⟩, ⟨[30, 169, 173], 0, 18308450⟩, ⟨[30, 170, 172], 0, 18308450⟩, ⟨[26, 174, 175], 0, 36616901⟩, ⟨[30, 170, 171], 0, 18308450⟩, ⟨[30, 168, 173], 0, 18308450⟩, ⟨[26, 177, 178], 0, 36616901⟩, ⟨[30, 168, 172], 0, 18308450⟩, ⟨[30, 169, 171], 0, 18308450⟩, ⟨[26, 180, 181], 0, 36616901⟩, ⟨[30, 176, 108], 0, 41194013⟩, ⟨[22, 43, 183], 0, 41545822⟩, ⟨[30, 179, 109], 0, 41194013⟩, ⟨[22, 184, 185], 0, 82739836⟩, ⟨[30, 182, 110], 0, 41194013⟩, ⟨[22, 186, 187], 0, 123933850⟩, ⟨[46, 176, 179, 182, 188, 176], 0, 47590604608⟩, ⟨[46, 176, 179, 182, 188, 179], 0, 47590604608⟩, ⟨[46, 176, 179, 182, 188, 182], 0, 47590604608⟩, ⟨[46, 176, 179, 182, 188, 188], 0, 47590604608⟩, ⟨[10, 0, 0], 0, 64⟩, ⟨[10, 1, 0], 0, 64⟩]
def ls_T (cs : CL) : Tb := ⟨ls_r, cs, 100000000000⟩
def Zcp (cs : CL) (r : SV Ato) : Prop := RunT symTab5 (ls_T cs) 6 [.agg (cTs [0, 1, 2, 3]), .at_ (.t 4), .agg (cTs [5, 6, 7]), .agg (cTs [8, 9, 10]), .agg (cTs [11, 12, 13])] r 900
def Zv (l : List ByteArray) : Nat → AV := rho (ls_T []) (baseS l)
theorem Yq (l : List ByteArray) (i : Nat) {r : Rw} (h : ls_r[i]? = some r) {q : Rat} (hq : semK (baseS l) (Zv l) r.key = .q q) : (Zv l i).rat = q := row_rat (R := ls_r) (km := 100000000000) (by kernel_rfl) h hq
theorem ls_u (l : List ByteArray) (i : Nat) {r : Rw} (h : ls_r[i]? = some r) {q : ByteArray} (hq : semK (baseS l) (Zv l) r.key = .s q) : (Zv l i).txt = q := row_txt (R := ls_r) (km := 100000000000) (by kernel_rfl) h hq
set_option maxRecDepth 100000
def ls_k0 : CL := ([9, 43, 43, 43], 1) :: []
def ls_k1 : CL := ([12, 0], 1) :: ls_k0
theorem ls_p32 : Zcp ls_k1 (.bool true) := fun _ _ _ => by kernel_rfl
def ls_k2 : CL := ([12, 0], 0) :: ls_k0
def ls_k3 : CL := ([12, 1], 1) :: ls_k2
theorem ls_p31 : Zcp ls_k3 (.bool true) := fun _ _ _ => by kernel_rfl
def ls_k4 : CL := ([12, 1], 0) :: ls_k2
def ls_k5 : CL := ([12, 2], 1) :: ls_k4
theorem ls_p30 : Zcp ls_k5 (.bool true) := fun _ _ _ => by kernel_rfl
def ls_k6 : CL := ([12, 2], 0) :: ls_k4
def ls_k7 : CL := ([12, 3], 1) :: ls_k6
theorem ls_p29 : Zcp ls_k7 (.bool true) := fun _ _ _ => by kernel_rfl
def ls_k8 : CL := ([12, 3], 0) :: ls_k6
def ls_k9 : CL := ([12, 4], 1) :: ls_k8
theorem ls_p28 : Zcp ls_k9 (.bool true) := fun _ _ _ => by kernel_rfl
def ls_k10 : CL := ([12, 4], 0) :: ls_k8
def ls_k11 : CL := ([12, 5], 1) :: ls_k10
theorem ls_p27 : Zcp ls_k11 (.bool true) := fun _ _ _ => by kernel_rfl
def ls_k12 : CL := ([12, 5], 0) :: ls_k10
def ls_k13 : CL := ([12, 6], 1) :: ls_k12
theorem ls_p26 : Zcp ls_k13 (.bool true) := fun _ _ _ => by kernel_rfl
def ls_k14 : CL := ([12, 6], 0) :: ls_k12
def ls_k15 : CL := ([12, 7], 1) :: ls_k14
theorem ls_p25 : Zcp ls_k15 (.bool true) := fun _ _ _ => by kernel_rfl
def ls_k16 : CL := ([12, 7], 0) :: ls_k14
def ls_k17 : CL := ([12, 8], 1) :: ls_k16
theorem ls_p24 : Zcp ls_k17 (.bool true) := fun _ _ _ => by kernel_rfl
def ls_k18 : CL := ([12, 8], 0) :: ls_k16
def ls_k19 : CL := ([12, 9], 1) :: ls_k18
theorem ls_p23 : Zcp ls_k19 (.bool true) := fun _ _ _ => by kernel_rfl
def ls_k20 : CL := ([12, 9], 0) :: ls_k18
def ls_k21 : CL := ([12, 10], 1) :: ls_k20
theorem ls_p22 : Zcp ls_k21 (.bool true) := fun _ _ _ => by kernel_rfl
def ls_k22 : CL := ([12, 10], 0) :: ls_k20
def ls_k23 : CL := ([12, 11], 1) :: ls_k22
theorem ls_p21 : Zcp ls_k23 (.bool true) := fun _ _ _ => by kernel_rfl
def ls_k24 : CL := ([12, 11], 0) :: ls_k22
def ls_k25 : CL := ([12, 12], 1) :: ls_k24
theorem ls_p20 : Zcp ls_k25 (.bool true) := fun _ _ _ => by kernel_rfl
def ls_k26 : CL := ([12, 12], 0) :: ls_k24
def ls_k27 : CL := ([12, 13], 1) :: ls_k26
theorem ls_p19 : Zcp ls_k27 (.bool true) := fun _ _ _ => by kernel_rfl
def ls_k28 : CL := ([12, 13], 0) :: ls_k26
def ls_k29 (nh15 : Nat) : CL := ([7, 0, 1, 2, 3], .ofNat (.succ nh15)) :: ls_k28
def ls_k30 (nh15 : Nat) (nh16 : Nat) : CL := ([4, 4], .ofNat (.succ nh16)) :: (ls_k29 nh15)
theorem ls_p18 (nh15 : Nat) (nh16 : Nat) : Zcp (ls_k30 nh15 nh16) (.bool true) := fun _ _ _ => by kernel_rfl
def ls_k31 (nh15 : Nat) : CL := ([4, 4], 0) :: (ls_k29 nh15)
theorem ls_p17 (nh15 : Nat) : Zcp (ls_k31 nh15) (.bool true) := fun _ _ _ => by kernel_rfl
def ls_k32 : CL := ([1, 117], 0) :: ([1, 93], 0) :: ([1, 69], 0) :: ([1, 55], 1) :: ([10, 19, 20, 21, 22, 14, 15, 16, 17], 0) :: ([9, 19, 20, 21], 0) :: ([9, 14, 15, 16], 0) :: ([7, 0, 1, 2, 3], 0) :: ls_k28
def ls_k33 (nh24 : Nat) : CL := ([4, 4], .ofNat (.succ nh24)) :: ls_k32
def ls_k34 (nh24 : Nat) : CL := ([15, 35, 36, 37, 38], 1) :: (ls_k33 nh24)
theorem ls_p16 (nh24 : Nat) : Zcp (ls_k34 nh24) (.bool true) := fun _ _ _ => by kernel_rfl
def ls_k35 (nh24 : Nat) : CL := ([15, 35, 36, 37, 38], 0) :: (ls_k33 nh24)
theorem ls_p15 (nh24 : Nat) : Zcp (ls_k35 nh24) (.bool true) := fun _ _ _ => by kernel_rfl
def ls_k36 : CL := ([4, 4], 0) :: ls_k32
def ls_k37 : CL := ([1, 18], 0) :: ([9, 23, 24, 25], 1) :: ls_k36
def ls_k38 (nh28 : Nat) : CL := ([11, 5, 6, 7], .ofNat (.succ nh28)) :: ls_k37
theorem ls_p14 (nh28 : Nat) : Zcp (ls_k38 nh28) (.bool true) := fun _ _ _ => by kernel_rfl
def ls_k39 : CL := ([11, 5, 6, 7], 0) :: ls_k37
def ls_k40 (nh29 : Nat) : CL := ([11, 8, 9, 10], .ofNat (.succ nh29)) :: ls_k39
theorem ls_p13 (nh29 : Nat) : Zcp (ls_k40 nh29) (.bool true) := fun _ _ _ => by kernel_rfl
def ls_k41 : CL := ([11, 8, 9, 10], 0) :: ls_k39
def ls_k42 (nh30 : Nat) : CL := ([11, 11, 12, 13], .ofNat (.succ nh30)) :: ls_k41
theorem ls_p12 (nh30 : Nat) : Zcp (ls_k42 nh30) (.bool true) := fun _ _ _ => by kernel_rfl
def ls_k43 : CL := ([11, 11, 12, 13], 0) :: ls_k41
def ls_k44 : CL := ([9, 176, 179, 182], 1) :: ([9, 151, 154, 157], 1) :: ([9, 126, 129, 132], 1) :: ls_k43
theorem ls_p11 : Zcp ls_k44 (.bool true) := fun _ _ _ => by kernel_rfl
def ls_k45 : CL := ([10, 189, 190, 191, 192, 14, 15, 16, 17], 0) :: ([9, 189, 190, 191], 0) :: ([9, 176, 179, 182], 0) :: ([10, 164, 165, 166, 167, 14, 15, 16, 17], 0) :: ([9, 164, 165, 166], 0) :: ([9, 151, 154, 157], 0) :: ([10, 139, 140, 141, 142, 14, 15, 16, 17], 0) :: ([9, 139, 140, 141], 0) :: ([9, 126, 129, 132], 0) :: ls_k43
theorem ls_p10 : Zcp ls_k45 (.bool true) := fun _ _ _ => by kernel_rfl
def ls_k46 : CL := ([8, 31, 32, 33, 34, 35, 36, 37, 38], 1) :: ([10, 27, 28, 29, 30, 14, 15, 16, 17], 0) :: ([9, 27, 28, 29], 0) :: ([9, 23, 24, 25], 0) :: ls_k36
def ls_k47 : CL := ([1, 18], 1) :: ls_k46
def ls_k48 (nh46 : Nat) : CL := ([11, 5, 6, 7], .ofNat (.succ nh46)) :: ls_k47
theorem ls_p9 (nh46 : Nat) : Zcp (ls_k48 nh46) (.bool true) := fun _ _ _ => by kernel_rfl
def ls_k49 : CL := ([11, 5, 6, 7], 0) :: ls_k47
def ls_k50 (nh47 : Nat) : CL := ([11, 8, 9, 10], .ofNat (.succ nh47)) :: ls_k49
theorem ls_p8 (nh47 : Nat) : Zcp (ls_k50 nh47) (.bool true) := fun _ _ _ => by kernel_rfl
def ls_k51 : CL := ([11, 8, 9, 10], 0) :: ls_k49
def ls_k52 (nh48 : Nat) : CL := ([11, 11, 12, 13], .ofNat (.succ nh48)) :: ls_k51
theorem ls_p7 (nh48 : Nat) : Zcp (ls_k52 nh48) (.bool true) := fun _ _ _ => by kernel_rfl
def ls_k53 : CL := ([11, 11, 12, 13], 0) :: ls_k51
def ls_k54 : CL := ([9, 176, 179, 182], 1) :: ([9, 151, 154, 157], 1) :: ([9, 126, 129, 132], 1) :: ls_k53
theorem ls_p6 : Zcp ls_k54 (.bool true) := fun _ _ _ => by kernel_rfl
def ls_k55 : CL := ([10, 189, 190, 191, 192, 14, 15, 16, 17], 0) :: ([9, 189, 190, 191], 0) :: ([9, 176, 179, 182], 0) :: ([10, 164, 165, 166, 167, 14, 15, 16, 17], 0) :: ([9, 164, 165, 166], 0) :: ([9, 151, 154, 157], 0) :: ([10, 139, 140, 141, 142, 14, 15, 16, 17], 0) :: ([9, 139, 140, 141], 0) :: ([9, 126, 129, 132], 0) :: ls_k53
theorem ls_p5 : Zcp ls_k55 (.bool true) := fun _ _ _ => by kernel_rfl
def ls_k56 : CL := ([1, 18], (-1)) :: ls_k46
def ls_k57 (nh60 : Nat) : CL := ([11, 5, 6, 7], .ofNat (.succ nh60)) :: ls_k56
theorem ls_p4 (nh60 : Nat) : Zcp (ls_k57 nh60) (.bool true) := fun _ _ _ => by kernel_rfl
def ls_k58 : CL := ([11, 5, 6, 7], 0) :: ls_k56
def ls_k59 (nh61 : Nat) : CL := ([11, 8, 9, 10], .ofNat (.succ nh61)) :: ls_k58
theorem ls_p3 (nh61 : Nat) : Zcp (ls_k59 nh61) (.bool true) := fun _ _ _ => by kernel_rfl
def ls_k60 : CL := ([11, 8, 9, 10], 0) :: ls_k58
def ls_k61 (nh62 : Nat) : CL := ([11, 11, 12, 13], .ofNat (.succ nh62)) :: ls_k60
theorem ls_p2 (nh62 : Nat) : Zcp (ls_k61 nh62) (.bool true) := fun _ _ _ => by kernel_rfl
def ls_k62 : CL := ([11, 11, 12, 13], 0) :: ls_k60
def ls_k63 : CL := ([9, 176, 179, 182], 1) :: ([9, 151, 154, 157], 1) :: ([9, 126, 129, 132], 1) :: ls_k62
theorem ls_p1 : Zcp ls_k63 (.bool true) := fun _ _ _ => by kernel_rfl
def ls_k64 : CL := ([10, 189, 190, 191, 192, 14, 15, 16, 17], 0) :: ([9, 189, 190, 191], 0) :: ([9, 176, 179, 182], 0) :: ([10, 164, 165, 166, 167, 14, 15, 16, 17], 0) :: ([9, 164, 165, 166], 0) :: ([9, 151, 154, 157], 0) :: ([10, 139, 140, 141, 142, 14, 15, 16, 17], 0) :: ([9, 139, 140, 141], 0) :: ([9, 126, 129, 132], 0) :: ls_k62
theorem ls_p0 : Zcp ls_k64 (.bool true) := fun _ _ _ => by kernel_rfl
theorem den_txt {T : Tb} {ρ : Nat → AV} {hT : Cs T ρ} {bd : Nat → Nat} {G : Gh} {i : Nat} {s : ByteArray} (e : ρ i = .s s) : Den (DS hT bd) G (.at_ (.t i)) (.string s) := .at_ ⟨s, e, rfl⟩
theorem ls_law {S : Sh} {w : World} (hS : Ya S w) (l : List ByteArray) :
    Calls Tryz.prog 6 [(.agg ([(.string (tx l 0)), (.string (tx l 1)), (.string (tx l 2)), (.string (tx l 3))] : List Value).toArray), (.string (tx l 4)), (.agg ([(.string (tx l 5)), (.string (tx l 6)), (.string (tx l 7))] : List Value).toArray), (.agg ([(.string (tx l 8)), (.string (tx l 9)), (.string (tx l 10))] : List Value).toArray), (.agg ([(.string (tx l 11)), (.string (tx l 12)), (.string (tx l 13))] : List Value).toArray)].toArray w (Ret S w (fun S v => v = .bool true)) := by
  have leaf := fun cs hc (h : Zcp cs (.bool true)) => sym_ground symTab5_OK (K := 0) (base := baseS l) (by kernel_rfl) (Nat.zero_le _) (by kernel_rfl) hS (fun _ _ => (.cons (.agg (cTs_mk (is := [0, 1, 2, 3]) (ss := [tx l 0, tx l 1, tx l 2, tx l 3]) ⟨by kernel_rfl, by kernel_rfl, by kernel_rfl, by kernel_rfl, trivial⟩)) (.cons (den_txt (i := 4) (s := tx l 4) (by kernel_rfl)) (.cons (.agg (cTs_mk (is := [5, 6, 7]) (ss := [tx l 5, tx l 6, tx l 7]) ⟨by kernel_rfl, by kernel_rfl, by kernel_rfl, trivial⟩)) (.cons (.agg (cTs_mk (is := [8, 9, 10]) (ss := [tx l 8, tx l 9, tx l 10]) ⟨by kernel_rfl, by kernel_rfl, by kernel_rfl, trivial⟩)) (.cons (.agg (cTs_mk (is := [11, 12, 13]) (ss := [tx l 11, tx l 12, tx l 13]) ⟨by kernel_rfl, by kernel_rfl, by kernel_rfl, trivial⟩)) .nil)))))) cs hc (r := .bool true) h (u := .bool true) rfl
  have r14 := Yq l 14 rfl rfl
  have r15 := Yq l 15 rfl rfl
  have r16 := Yq l 16 rfl rfl
  have r17 := Yq l 17 rfl rfl
  have p0 : ZD (Zv l) [7, 0, 1, 2, 3] = 0 → ZD (Zv l) [9, 14, 15, 16] = 0 := fun h => (by kernel_rfl : ZD (Zv l) [9, 14, 15, 16] = (if ((Zv l 14).rat).num = 0 ∧ ((Zv l 15).rat).num = 0 ∧ ((Zv l 16).rat).num = 0 then (1 : Int) else 0)).trans (by rw [r14, r15, r16]; exact if_neg (pv_nz ((by kernel_rfl : ZD (Zv l) [7, 0, 1, 2, 3] = Zcl (bl (Zv l 0).txt) (bl (Zv l 1).txt) (bl (Zv l 2).txt) (bl (Zv l 3).txt)).symm.trans h)))
  have p1 : ZD (Zv l) [7, 0, 1, 2, 3] = 0 → ¬ ((Zv l 14).rat.num = 0 ∧ (Zv l 15).rat.num = 0 ∧ (Zv l 16).rat.num = 0) := fun h => nine ((by kernel_rfl : ZD (Zv l) [9, 14, 15, 16] = (if ((Zv l 14).rat).num = 0 ∧ ((Zv l 15).rat).num = 0 ∧ ((Zv l 16).rat).num = 0 then (1 : Int) else 0)).symm.trans (p0 h))
  have p2 : ZD (Zv l) [7, 0, 1, 2, 3] = 0 → pn (Zv l 14).rat (Zv l 15).rat (Zv l 16).rat (Zv l 17).rat (Zv l 14).rat = (Zv l 14).rat ∧ pn (Zv l 14).rat (Zv l 15).rat (Zv l 16).rat (Zv l 17).rat (Zv l 15).rat = (Zv l 15).rat ∧ pn (Zv l 14).rat (Zv l 15).rat (Zv l 16).rat (Zv l 17).rat (Zv l 16).rat = (Zv l 16).rat ∧ pn (Zv l 14).rat (Zv l 15).rat (Zv l 16).rat (Zv l 17).rat (Zv l 17).rat = (Zv l 17).rat := fun h => by rw [r14, r15, r16, r17]; exact pv_pn ((by kernel_rfl : ZD (Zv l) [7, 0, 1, 2, 3] = Zcl (bl (Zv l 0).txt) (bl (Zv l 1).txt) (bl (Zv l 2).txt) (bl (Zv l 3).txt)).symm.trans h)
  have r19 := Yq l 19 rfl rfl
  have r20 := Yq l 20 rfl rfl
  have r21 := Yq l 21 rfl rfl
  have r22 := Yq l 22 rfl rfl
  have r23 := Yq l 23 rfl rfl
  have r24 := Yq l 24 rfl rfl
  have r25 := Yq l 25 rfl rfl
  have r26 := Yq l 26 rfl rfl
  have r27 := Yq l 27 rfl rfl
  have r28 := Yq l 28 rfl rfl
  have r29 := Yq l 29 rfl rfl
  have r30 := Yq l 30 rfl rfl
  have eA : ZD (Zv l) [7, 0, 1, 2, 3] = 0 → (Zv l 19).rat = (Zv l 14).rat ∧ (Zv l 20).rat = (Zv l 15).rat ∧ (Zv l 21).rat = (Zv l 16).rat ∧ (Zv l 22).rat = (Zv l 17).rat := fun h => ⟨r19.trans (p2 h).1, r20.trans (p2 h).2.1, r21.trans (p2 h).2.2.1, r22.trans (p2 h).2.2.2⟩
  have sz : ZD (Zv l) [9, 23, 24, 25] = 0 → ¬ (((Zv l 18).rat * (Zv l 14).rat).num = 0 ∧ ((Zv l 18).rat * (Zv l 15).rat).num = 0 ∧ ((Zv l 18).rat * (Zv l 16).rat).num = 0) := fun g => by have g := nine ((by kernel_rfl : ZD (Zv l) [9, 23, 24, 25] = (if ((Zv l 23).rat).num = 0 ∧ ((Zv l 24).rat).num = 0 ∧ ((Zv l 25).rat).num = 0 then (1 : Int) else 0)).symm.trans g); rw [r23, r24, r25] at g; exact g
  have eB : ZD (Zv l) [7, 0, 1, 2, 3] = 0 → ZD (Zv l) [9, 23, 24, 25] = 0 → (Zv l 27).rat = (Zv l 14).rat ∧ (Zv l 28).rat = (Zv l 15).rat ∧ (Zv l 29).rat = (Zv l 16).rat ∧ (Zv l 30).rat = (Zv l 17).rat := fun h g => by
    obtain ⟨f1, f2, f3, f4⟩ := pn_mul (d := (Zv l 17).rat) (nz3.1 (p1 h)) (sc_ne (sz g)) rfl rfl rfl (d' := (Zv l 18).rat * (Zv l 17).rat) rfl
    rw [r27, r28, r29, r30, r23, r24, r25, r26]
    exact ⟨f1.trans (p2 h).1, f2.trans (p2 h).2.1, f3.trans (p2 h).2.2.1, f4.trans (p2 h).2.2.2⟩
  have s1 : ZD (Zv l) [9, 23, 24, 25] = 0 → ZD (Zv l) [1, 18] ≠ 0 := fun g z => sc_ne (sz g) (num0.1 (Yp.1 ((by kernel_rfl : ZD (Zv l) [1, 18] = Yx ((Zv l 18).rat).num).symm.trans z)))
  have s2 : ZD (Zv l) [7, 0, 1, 2, 3] = 0 → ZD (Zv l) [9, 23, 24, 25] = 1 → ZD (Zv l) [1, 18] = 0 := fun h g => (by kernel_rfl : ZD (Zv l) [1, 18] = Yx ((Zv l 18).rat).num).trans (by have g := (by kernel_rfl : ZD (Zv l) [9, 23, 24, 25] = (if ((Zv l 23).rat).num = 0 ∧ ((Zv l 24).rat).num = 0 ∧ ((Zv l 25).rat).num = 0 then (1 : Int) else 0)).symm.trans g; rw [r23, r24, r25] at g; exact sc_zero (Classical.byContradiction fun z => absurd ((if_neg z).symm.trans g) (by decide)) (nz3.1 (p1 h)))
  have r31 := ls_u l 31 rfl rfl
  have r32 := ls_u l 32 rfl rfl
  have r33 := ls_u l 33 rfl rfl
  have r34 := ls_u l 34 rfl rfl
  have r35 := ls_u l 35 rfl rfl
  have r36 := ls_u l 36 rfl rfl
  have r37 := ls_u l 37 rfl rfl
  have r38 := ls_u l 38 rfl rfl
  have t1 : ZD (Zv l) [7, 0, 1, 2, 3] = 0 → ZD (Zv l) [9, 23, 24, 25] = 0 → ZD (Zv l) [8, 31, 32, 33, 34, 35, 36, 37, 38] = 1 := fun h g => (by kernel_rfl : ZD (Zv l) [8, 31, 32, 33, 34, 35, 36, 37, 38] = (if [(Zv l 31).txt, (Zv l 32).txt, (Zv l 33).txt, (Zv l 34).txt] = [(Zv l 35).txt, (Zv l 36).txt, (Zv l 37).txt, (Zv l 38).txt] then (1 : Int) else 0)).trans (by rw [r31, r32, r33, r34, r35, r36, r37, r38]; exact if_pos (cmp4_txt.1 (eq4_cmp (eB h g))))
  have r43 := Yq l 43 rfl rfl
  have r50 := Yq l 50 rfl rfl
  have r51 := Yq l 51 rfl rfl
  have r52 := Yq l 52 rfl rfl
  have r53 := Yq l 53 rfl rfl
  have r54 := Yq l 54 rfl rfl
  have r55 := Yq l 55 rfl rfl
  have d1 : ZD (Zv l) [7, 0, 1, 2, 3] = 0 → ZD (Zv l) [1, 55] = 1 := fun h => (by kernel_rfl : ZD (Zv l) [1, 55] = Yx ((Zv l 55).rat).num).trans (by rw [r55, r53, r51, r43, r50, r52, r54]; exact dot_sgn (nz3.1 (p1 h)))
  have r42 := Yq l 42 rfl rfl
  have r44 := Yq l 44 rfl rfl
  have r45 := Yq l 45 rfl rfl
  have r46 := Yq l 46 rfl rfl
  have r47 := Yq l 47 rfl rfl
  have r48 := Yq l 48 rfl rfl
  have r49 := Yq l 49 rfl rfl
  have r56 := Yq l 56 rfl rfl
  have r57 := Yq l 57 rfl rfl
  have r60 := Yq l 60 rfl rfl
  have r58 := Yq l 58 rfl rfl
  have r61 := Yq l 61 rfl rfl
  have r59 := Yq l 59 rfl rfl
  have r62 := Yq l 62 rfl rfl
  have f0 : ZD (Zv l) [7, 0, 1, 2, 3] = 0 → ((((0 + ((Zv l 14).rat * (Zv l 60).rat)) + ((Zv l 15).rat * (Zv l 61).rat)) + ((Zv l 16).rat * (Zv l 62).rat)) - (Zv l 17).rat) = 0 := fun h => by rw [r60, r57, r61, r58, r62, r59, r56, r49, r48, r46, r44, r42, r45, r47, r55, r53, r51, r43, r50, r52, r54]; exact foot_zero (nz3.1 (p1 h))
  have r63 := Yq l 63 rfl rfl
  have r64 := Yq l 64 rfl rfl
  have r65 := Yq l 65 rfl rfl
  have r66 := Yq l 66 rfl rfl
  have r67 := Yq l 67 rfl rfl
  have r68 := Yq l 68 rfl rfl
  have r69 := Yq l 69 rfl rfl
  have g0 : ZD (Zv l) [7, 0, 1, 2, 3] = 0 → ZD (Zv l) [1, 69] = 0 := fun h => (by kernel_rfl : ZD (Zv l) [1, 69] = Yx ((Zv l 69).rat).num).trans (by rw [r69, r68, r66, r64, r43, r63, r65, r67]; exact Zdm (f0 h))
  have r73 := Yq l 73 rfl rfl
  have r74 := Yq l 74 rfl rfl
  have r75 := Yq l 75 rfl rfl
  have r76 := Yq l 76 rfl rfl
  have r77 := Yq l 77 rfl rfl
  have r78 := Yq l 78 rfl rfl
  have r79 := Yq l 79 rfl rfl
  have r80 := Yq l 80 rfl rfl
  have r81 := Yq l 81 rfl rfl
  have r84 := Yq l 84 rfl rfl
  have r82 := Yq l 82 rfl rfl
  have r85 := Yq l 85 rfl rfl
  have r83 := Yq l 83 rfl rfl
  have r86 := Yq l 86 rfl rfl
  have f1 : ZD (Zv l) [7, 0, 1, 2, 3] = 0 → ((((0 + ((Zv l 14).rat * (Zv l 84).rat)) + ((Zv l 15).rat * (Zv l 85).rat)) + ((Zv l 16).rat * (Zv l 86).rat)) - (Zv l 17).rat) = 0 := fun h => by rw [r84, r81, r85, r82, r86, r83, r80, r79, r78, r76, r74, r73, r75, r77, r55, r53, r51, r43, r50, r52, r54]; exact foot_zero (nz3.1 (p1 h))
  have r87 := Yq l 87 rfl rfl
  have r88 := Yq l 88 rfl rfl
  have r89 := Yq l 89 rfl rfl
  have r90 := Yq l 90 rfl rfl
  have r91 := Yq l 91 rfl rfl
  have r92 := Yq l 92 rfl rfl
  have r93 := Yq l 93 rfl rfl
  have g1 : ZD (Zv l) [7, 0, 1, 2, 3] = 0 → ZD (Zv l) [1, 93] = 0 := fun h => (by kernel_rfl : ZD (Zv l) [1, 93] = Yx ((Zv l 93).rat).num).trans (by rw [r93, r92, r90, r88, r43, r87, r89, r91]; exact Zdm (f1 h))
  have r97 := Yq l 97 rfl rfl
  have r98 := Yq l 98 rfl rfl
  have r99 := Yq l 99 rfl rfl
  have r100 := Yq l 100 rfl rfl
  have r101 := Yq l 101 rfl rfl
  have r102 := Yq l 102 rfl rfl
  have r103 := Yq l 103 rfl rfl
  have r104 := Yq l 104 rfl rfl
  have r105 := Yq l 105 rfl rfl
  have r108 := Yq l 108 rfl rfl
  have r106 := Yq l 106 rfl rfl
  have r109 := Yq l 109 rfl rfl
  have r107 := Yq l 107 rfl rfl
  have r110 := Yq l 110 rfl rfl
  have f2 : ZD (Zv l) [7, 0, 1, 2, 3] = 0 → ((((0 + ((Zv l 14).rat * (Zv l 108).rat)) + ((Zv l 15).rat * (Zv l 109).rat)) + ((Zv l 16).rat * (Zv l 110).rat)) - (Zv l 17).rat) = 0 := fun h => by rw [r108, r105, r109, r106, r110, r107, r104, r103, r102, r100, r98, r97, r99, r101, r55, r53, r51, r43, r50, r52, r54]; exact foot_zero (nz3.1 (p1 h))
  have r111 := Yq l 111 rfl rfl
  have r112 := Yq l 112 rfl rfl
  have r113 := Yq l 113 rfl rfl
  have r114 := Yq l 114 rfl rfl
  have r115 := Yq l 115 rfl rfl
  have r116 := Yq l 116 rfl rfl
  have r117 := Yq l 117 rfl rfl
  have g2 : ZD (Zv l) [7, 0, 1, 2, 3] = 0 → ZD (Zv l) [1, 117] = 0 := fun h => (by kernel_rfl : ZD (Zv l) [1, 117] = Yx ((Zv l 117).rat).num).trans (by rw [r117, r116, r114, r112, r43, r111, r113, r115]; exact Zdm (f2 h))
  have r119 := Yq l 119 rfl rfl
  have r123 := Yq l 123 rfl rfl
  have r124 := Yq l 124 rfl rfl
  have r120 := Yq l 120 rfl rfl
  have r122 := Yq l 122 rfl rfl
  have r125 := Yq l 125 rfl rfl
  have r126 := Yq l 126 rfl rfl
  have r121 := Yq l 121 rfl rfl
  have r127 := Yq l 127 rfl rfl
  have r118 := Yq l 118 rfl rfl
  have r128 := Yq l 128 rfl rfl
  have r129 := Yq l 129 rfl rfl
  have r130 := Yq l 130 rfl rfl
  have r131 := Yq l 131 rfl rfl
  have r132 := Yq l 132 rfl rfl
  have r133 := Yq l 133 rfl rfl
  have r134 := Yq l 134 rfl rfl
  have r135 := Yq l 135 rfl rfl
  have r136 := Yq l 136 rfl rfl
  have r137 := Yq l 137 rfl rfl
  have r138 := Yq l 138 rfl rfl
  have r139 := Yq l 139 rfl rfl
  have r140 := Yq l 140 rfl rfl
  have r141 := Yq l 141 rfl rfl
  have r142 := Yq l 142 rfl rfl
  have e0 : ZD (Zv l) [7, 0, 1, 2, 3] = 0 → ZD (Zv l) [9, 126, 129, 132] = 0 → (Zv l 139).rat = (Zv l 14).rat ∧ (Zv l 140).rat = (Zv l 15).rat ∧ (Zv l 141).rat = (Zv l 16).rat ∧ (Zv l 142).rat = (Zv l 17).rat := fun h g => by
    have z := through_eq (nz3.1 (p1 h)) (p2 h) (f0 h) (f1 h) (f2 h) (x := (Zv l 126).rat) (y := (Zv l 129).rat) (z := (Zv l 132).rat) (u := (Zv l 138).rat) (by rw [r126, r124, r119, r123, r125, r120, r122]) (by rw [r129, r127, r120, r121, r128, r118, r123]) (by rw [r132, r130, r118, r122, r131, r119, r121]) (by rw [r138, r136, r134, r43, r133, r135, r137]) (nine ((by kernel_rfl : ZD (Zv l) [9, 126, 129, 132] = (if ((Zv l 126).rat).num = 0 ∧ ((Zv l 129).rat).num = 0 ∧ ((Zv l 132).rat).num = 0 then (1 : Int) else 0)).symm.trans g))
    exact ⟨r139.trans z.1, r140.trans z.2.1, r141.trans z.2.2.1, r142.trans z.2.2.2⟩
  have r144 := Yq l 144 rfl rfl
  have r148 := Yq l 148 rfl rfl
  have r149 := Yq l 149 rfl rfl
  have r145 := Yq l 145 rfl rfl
  have r147 := Yq l 147 rfl rfl
  have r150 := Yq l 150 rfl rfl
  have r151 := Yq l 151 rfl rfl
  have r146 := Yq l 146 rfl rfl
  have r152 := Yq l 152 rfl rfl
  have r143 := Yq l 143 rfl rfl
  have r153 := Yq l 153 rfl rfl
  have r154 := Yq l 154 rfl rfl
  have r155 := Yq l 155 rfl rfl
  have r156 := Yq l 156 rfl rfl
  have r157 := Yq l 157 rfl rfl
  have r158 := Yq l 158 rfl rfl
  have r159 := Yq l 159 rfl rfl
  have r160 := Yq l 160 rfl rfl
  have r161 := Yq l 161 rfl rfl
  have r162 := Yq l 162 rfl rfl
  have r163 := Yq l 163 rfl rfl
  have r164 := Yq l 164 rfl rfl
  have r165 := Yq l 165 rfl rfl
  have r166 := Yq l 166 rfl rfl
  have r167 := Yq l 167 rfl rfl
  have x1 : ∀ {y : Int}, ZD (Zv l) [9, 126, 129, 132] = y → ZD (Zv l) [9, 151, 154, 157] = y := fun h => (by kernel_rfl : ZD (Zv l) [9, 151, 154, 157] = (if ((Zv l 151).rat).num = 0 ∧ ((Zv l 154).rat).num = 0 ∧ ((Zv l 157).rat).num = 0 then (1 : Int) else 0)).trans ((ite_iff (flip_zero (by rw [r151, r149, r144, r148, r150, r145, r147, r126, r124, r119, r123, r125, r120, r122]; grind) (by rw [r154, r152, r145, r146, r153, r143, r148, r129, r127, r120, r121, r128, r118, r123]; grind) (by rw [r157, r155, r143, r147, r156, r144, r146, r132, r130, r118, r122, r131, r119, r121]; grind))).trans ((by kernel_rfl : ZD (Zv l) [9, 126, 129, 132] = (if ((Zv l 126).rat).num = 0 ∧ ((Zv l 129).rat).num = 0 ∧ ((Zv l 132).rat).num = 0 then (1 : Int) else 0)).symm.trans h))
  have e1 : ZD (Zv l) [7, 0, 1, 2, 3] = 0 → ZD (Zv l) [9, 151, 154, 157] = 0 → (Zv l 164).rat = (Zv l 14).rat ∧ (Zv l 165).rat = (Zv l 15).rat ∧ (Zv l 166).rat = (Zv l 16).rat ∧ (Zv l 167).rat = (Zv l 17).rat := fun h g => by
    have z := through_eq (nz3.1 (p1 h)) (p2 h) (f1 h) (f0 h) (f2 h) (x := (Zv l 151).rat) (y := (Zv l 154).rat) (z := (Zv l 157).rat) (u := (Zv l 163).rat) (by rw [r151, r149, r144, r148, r150, r145, r147]) (by rw [r154, r152, r145, r146, r153, r143, r148]) (by rw [r157, r155, r143, r147, r156, r144, r146]) (by rw [r163, r161, r159, r43, r158, r160, r162]) (nine ((by kernel_rfl : ZD (Zv l) [9, 151, 154, 157] = (if ((Zv l 151).rat).num = 0 ∧ ((Zv l 154).rat).num = 0 ∧ ((Zv l 157).rat).num = 0 then (1 : Int) else 0)).symm.trans g))
    exact ⟨r164.trans z.1, r165.trans z.2.1, r166.trans z.2.2.1, r167.trans z.2.2.2⟩
  have r169 := Yq l 169 rfl rfl
  have r173 := Yq l 173 rfl rfl
  have r174 := Yq l 174 rfl rfl
  have r170 := Yq l 170 rfl rfl
  have r172 := Yq l 172 rfl rfl
  have r175 := Yq l 175 rfl rfl
  have r176 := Yq l 176 rfl rfl
  have r171 := Yq l 171 rfl rfl
  have r177 := Yq l 177 rfl rfl
  have r168 := Yq l 168 rfl rfl
  have r178 := Yq l 178 rfl rfl
  have r179 := Yq l 179 rfl rfl
  have r180 := Yq l 180 rfl rfl
  have r181 := Yq l 181 rfl rfl
  have r182 := Yq l 182 rfl rfl
  have r183 := Yq l 183 rfl rfl
  have r184 := Yq l 184 rfl rfl
  have r185 := Yq l 185 rfl rfl
  have r186 := Yq l 186 rfl rfl
  have r187 := Yq l 187 rfl rfl
  have r188 := Yq l 188 rfl rfl
  have r189 := Yq l 189 rfl rfl
  have r190 := Yq l 190 rfl rfl
  have r191 := Yq l 191 rfl rfl
  have r192 := Yq l 192 rfl rfl
  have x2 : ∀ {y : Int}, ZD (Zv l) [9, 126, 129, 132] = y → ZD (Zv l) [9, 176, 179, 182] = y := fun h => (by kernel_rfl : ZD (Zv l) [9, 176, 179, 182] = (if ((Zv l 176).rat).num = 0 ∧ ((Zv l 179).rat).num = 0 ∧ ((Zv l 182).rat).num = 0 then (1 : Int) else 0)).trans ((ite_iff (flip_zero (by rw [r176, r174, r169, r173, r175, r170, r172, r126, r124, r119, r123, r125, r120, r122]; grind) (by rw [r179, r177, r170, r171, r178, r168, r173, r129, r127, r120, r121, r128, r118, r123]; grind) (by rw [r182, r180, r168, r172, r181, r169, r171, r132, r130, r118, r122, r131, r119, r121]; grind))).trans ((by kernel_rfl : ZD (Zv l) [9, 126, 129, 132] = (if ((Zv l 126).rat).num = 0 ∧ ((Zv l 129).rat).num = 0 ∧ ((Zv l 132).rat).num = 0 then (1 : Int) else 0)).symm.trans h))
  have e2 : ZD (Zv l) [7, 0, 1, 2, 3] = 0 → ZD (Zv l) [9, 176, 179, 182] = 0 → (Zv l 189).rat = (Zv l 14).rat ∧ (Zv l 190).rat = (Zv l 15).rat ∧ (Zv l 191).rat = (Zv l 16).rat ∧ (Zv l 192).rat = (Zv l 17).rat := fun h g => by
    have z := through_eq (nz3.1 (p1 h)) (p2 h) (f2 h) (f1 h) (f0 h) (x := (Zv l 176).rat) (y := (Zv l 179).rat) (z := (Zv l 182).rat) (u := (Zv l 188).rat) (by rw [r176, r174, r169, r173, r175, r170, r172]) (by rw [r179, r177, r170, r171, r178, r168, r173]) (by rw [r182, r180, r168, r172, r181, r169, r171]) (by rw [r188, r186, r184, r43, r183, r185, r187]) (nine ((by kernel_rfl : ZD (Zv l) [9, 176, 179, 182] = (if ((Zv l 176).rat).num = 0 ∧ ((Zv l 179).rat).num = 0 ∧ ((Zv l 182).rat).num = 0 then (1 : Int) else 0)).symm.trans g))
    exact ⟨r189.trans z.1, r190.trans z.2.1, r191.trans z.2.2.1, r192.trans z.2.2.2⟩
  have a0 : ZD (Zv l) [7, 0, 1, 2, 3] = 0 → ZD (Zv l) [9, 19, 20, 21] = 0 ∧ ZD (Zv l) [10, 19, 20, 21, 22, 14, 15, 16, 17] = 0 := fun h => ⟨(by kernel_rfl : ZD (Zv l) [9, 19, 20, 21] = (if ((Zv l 19).rat).num = 0 ∧ ((Zv l 20).rat).num = 0 ∧ ((Zv l 21).rat).num = 0 then (1 : Int) else 0)).trans (if_neg (eq4_nz (eA h) (p1 h))), (by kernel_rfl : ZD (Zv l) [10, 19, 20, 21, 22, 14, 15, 16, 17] = Zb5 (Xo (Zv l 19).rat (Zv l 14).rat) (Xo (Zv l 20).rat (Zv l 15).rat) (Xo (Zv l 21).rat (Zv l 16).rat) (Xo (Zv l 22).rat (Zv l 17).rat)).trans (eq4_cmp (eA h))⟩
  have a1 : ZD (Zv l) [7, 0, 1, 2, 3] = 0 → ZD (Zv l) [9, 23, 24, 25] = 0 → ZD (Zv l) [9, 27, 28, 29] = 0 ∧ ZD (Zv l) [10, 27, 28, 29, 30, 14, 15, 16, 17] = 0 := fun h g => ⟨(by kernel_rfl : ZD (Zv l) [9, 27, 28, 29] = (if ((Zv l 27).rat).num = 0 ∧ ((Zv l 28).rat).num = 0 ∧ ((Zv l 29).rat).num = 0 then (1 : Int) else 0)).trans (if_neg (eq4_nz (eB h g) (p1 h))), (by kernel_rfl : ZD (Zv l) [10, 27, 28, 29, 30, 14, 15, 16, 17] = Zb5 (Xo (Zv l 27).rat (Zv l 14).rat) (Xo (Zv l 28).rat (Zv l 15).rat) (Xo (Zv l 29).rat (Zv l 16).rat) (Xo (Zv l 30).rat (Zv l 17).rat)).trans (eq4_cmp (eB h g))⟩
  have a2 : ZD (Zv l) [7, 0, 1, 2, 3] = 0 → ZD (Zv l) [9, 126, 129, 132] = 0 → ZD (Zv l) [9, 139, 140, 141] = 0 ∧ ZD (Zv l) [10, 139, 140, 141, 142, 14, 15, 16, 17] = 0 := fun h g => ⟨(by kernel_rfl : ZD (Zv l) [9, 139, 140, 141] = (if ((Zv l 139).rat).num = 0 ∧ ((Zv l 140).rat).num = 0 ∧ ((Zv l 141).rat).num = 0 then (1 : Int) else 0)).trans (if_neg (eq4_nz (e0 h g) (p1 h))), (by kernel_rfl : ZD (Zv l) [10, 139, 140, 141, 142, 14, 15, 16, 17] = Zb5 (Xo (Zv l 139).rat (Zv l 14).rat) (Xo (Zv l 140).rat (Zv l 15).rat) (Xo (Zv l 141).rat (Zv l 16).rat) (Xo (Zv l 142).rat (Zv l 17).rat)).trans (eq4_cmp (e0 h g))⟩
  have a3 : ZD (Zv l) [7, 0, 1, 2, 3] = 0 → ZD (Zv l) [9, 151, 154, 157] = 0 → ZD (Zv l) [9, 164, 165, 166] = 0 ∧ ZD (Zv l) [10, 164, 165, 166, 167, 14, 15, 16, 17] = 0 := fun h g => ⟨(by kernel_rfl : ZD (Zv l) [9, 164, 165, 166] = (if ((Zv l 164).rat).num = 0 ∧ ((Zv l 165).rat).num = 0 ∧ ((Zv l 166).rat).num = 0 then (1 : Int) else 0)).trans (if_neg (eq4_nz (e1 h g) (p1 h))), (by kernel_rfl : ZD (Zv l) [10, 164, 165, 166, 167, 14, 15, 16, 17] = Zb5 (Xo (Zv l 164).rat (Zv l 14).rat) (Xo (Zv l 165).rat (Zv l 15).rat) (Xo (Zv l 166).rat (Zv l 16).rat) (Xo (Zv l 167).rat (Zv l 17).rat)).trans (eq4_cmp (e1 h g))⟩
  have a4 : ZD (Zv l) [7, 0, 1, 2, 3] = 0 → ZD (Zv l) [9, 176, 179, 182] = 0 → ZD (Zv l) [9, 189, 190, 191] = 0 ∧ ZD (Zv l) [10, 189, 190, 191, 192, 14, 15, 16, 17] = 0 := fun h g => ⟨(by kernel_rfl : ZD (Zv l) [9, 189, 190, 191] = (if ((Zv l 189).rat).num = 0 ∧ ((Zv l 190).rat).num = 0 ∧ ((Zv l 191).rat).num = 0 then (1 : Int) else 0)).trans (if_neg (eq4_nz (e2 h g) (p1 h))), (by kernel_rfl : ZD (Zv l) [10, 189, 190, 191, 192, 14, 15, 16, 17] = Zb5 (Xo (Zv l 189).rat (Zv l 14).rat) (Xo (Zv l 190).rat (Zv l 15).rat) (Xo (Zv l 191).rat (Zv l 16).rat) (Xo (Zv l 192).rat (Zv l 17).rat)).trans (eq4_cmp (e2 h g))⟩
  have h0 : ZD (Zv l) [9, 43, 43, 43] = 1 := by kernel_rfl
  have H0 : Csl (Zv l) ls_k0 := .cons h0 .nil
  rcases Zar (Zv l) (t := 12) (is := [0]) (by decide) with h1 | h1; rotate_left
  · exact leaf ls_k1 (.cons h1 H0) ls_p32
  have H2 : Csl (Zv l) ls_k2 := .cons h1 H0
  rcases Zar (Zv l) (t := 12) (is := [1]) (by decide) with h2 | h2; rotate_left
  · exact leaf ls_k3 (.cons h2 H2) ls_p31
  have H4 : Csl (Zv l) ls_k4 := .cons h2 H2
  rcases Zar (Zv l) (t := 12) (is := [2]) (by decide) with h3 | h3; rotate_left
  · exact leaf ls_k5 (.cons h3 H4) ls_p30
  have H6 : Csl (Zv l) ls_k6 := .cons h3 H4
  rcases Zar (Zv l) (t := 12) (is := [3]) (by decide) with h4 | h4; rotate_left
  · exact leaf ls_k7 (.cons h4 H6) ls_p29
  have H8 : Csl (Zv l) ls_k8 := .cons h4 H6
  rcases Zar (Zv l) (t := 12) (is := [4]) (by decide) with h5 | h5; rotate_left
  · exact leaf ls_k9 (.cons h5 H8) ls_p28
  have H10 : Csl (Zv l) ls_k10 := .cons h5 H8
  rcases Zar (Zv l) (t := 12) (is := [5]) (by decide) with h6 | h6; rotate_left
  · exact leaf ls_k11 (.cons h6 H10) ls_p27
  have H12 : Csl (Zv l) ls_k12 := .cons h6 H10
  rcases Zar (Zv l) (t := 12) (is := [6]) (by decide) with h7 | h7; rotate_left
  · exact leaf ls_k13 (.cons h7 H12) ls_p26
  have H14 : Csl (Zv l) ls_k14 := .cons h7 H12
  rcases Zar (Zv l) (t := 12) (is := [7]) (by decide) with h8 | h8; rotate_left
  · exact leaf ls_k15 (.cons h8 H14) ls_p25
  have H16 : Csl (Zv l) ls_k16 := .cons h8 H14
  rcases Zar (Zv l) (t := 12) (is := [8]) (by decide) with h9 | h9; rotate_left
  · exact leaf ls_k17 (.cons h9 H16) ls_p24
  have H18 : Csl (Zv l) ls_k18 := .cons h9 H16
  rcases Zar (Zv l) (t := 12) (is := [9]) (by decide) with h10 | h10; rotate_left
  · exact leaf ls_k19 (.cons h10 H18) ls_p23
  have H20 : Csl (Zv l) ls_k20 := .cons h10 H18
  rcases Zar (Zv l) (t := 12) (is := [10]) (by decide) with h11 | h11; rotate_left
  · exact leaf ls_k21 (.cons h11 H20) ls_p22
  have H22 : Csl (Zv l) ls_k22 := .cons h11 H20
  rcases Zar (Zv l) (t := 12) (is := [11]) (by decide) with h12 | h12; rotate_left
  · exact leaf ls_k23 (.cons h12 H22) ls_p21
  have H24 : Csl (Zv l) ls_k24 := .cons h12 H22
  rcases Zar (Zv l) (t := 12) (is := [12]) (by decide) with h13 | h13; rotate_left
  · exact leaf ls_k25 (.cons h13 H24) ls_p20
  have H26 : Csl (Zv l) ls_k26 := .cons h13 H24
  rcases Zar (Zv l) (t := 12) (is := [13]) (by decide) with h14 | h14; rotate_left
  · exact leaf ls_k27 (.cons h14 H26) ls_p19
  have H28 : Csl (Zv l) ls_k28 := .cons h14 H26
  rcases XX (Zv l) (t := 7) (is := [0, 1, 2, 3]) (by decide) with h15 | ⟨nh15, h15⟩; rotate_left
  · have H29 : Csl (Zv l) (ls_k29 nh15) := .cons h15 H28
    rcases XX (Zv l) (t := 4) (is := [4]) (by decide) with h16 | ⟨nh16, h16⟩; rotate_left
    · exact leaf (ls_k30 nh15 nh16) (.cons h16 H29) (ls_p18 nh15 nh16)
    exact leaf (ls_k31 nh15) (.cons h16 H29) (ls_p17 nh15)
  have h17 : ZD (Zv l) [9, 14, 15, 16] = 0 := p0 h15
  have h18 : ZD (Zv l) [9, 19, 20, 21] = 0 := (a0 h15).1
  have h19 : ZD (Zv l) [10, 19, 20, 21, 22, 14, 15, 16, 17] = 0 := (a0 h15).2
  have h20 : ZD (Zv l) [1, 55] = 1 := d1 h15
  have h21 : ZD (Zv l) [1, 69] = 0 := g0 h15
  have h22 : ZD (Zv l) [1, 93] = 0 := g1 h15
  have h23 : ZD (Zv l) [1, 117] = 0 := g2 h15
  have H32 : Csl (Zv l) ls_k32 := .cons h23 (.cons h22 (.cons h21 (.cons h20 (.cons h19 (.cons h18 (.cons h17 (.cons h15 H28)))))))
  rcases XX (Zv l) (t := 4) (is := [4]) (by decide) with h24 | ⟨nh24, h24⟩; rotate_left
  · have H33 : Csl (Zv l) (ls_k33 nh24) := .cons h24 H32
    rcases Zar (Zv l) (t := 15) (is := [35, 36, 37, 38]) (by decide) with h25 | h25; rotate_left
    · exact leaf (ls_k34 nh24) (.cons h25 H33) (ls_p16 nh24)
    exact leaf (ls_k35 nh24) (.cons h25 H33) (ls_p15 nh24)
  have H36 : Csl (Zv l) ls_k36 := .cons h24 H32
  rcases Zar (Zv l) (t := 9) (is := [23, 24, 25]) (by decide) with h26 | h26; rotate_left
  · have h27 : ZD (Zv l) [1, 18] = 0 := s2 h15 h26
    have H37 : Csl (Zv l) ls_k37 := .cons h27 (.cons h26 H36)
    rcases XX (Zv l) (t := 11) (is := [5, 6, 7]) (by decide) with h28 | ⟨nh28, h28⟩; rotate_left
    · exact leaf (ls_k38 nh28) (.cons h28 H37) (ls_p14 nh28)
    have H39 : Csl (Zv l) ls_k39 := .cons h28 H37
    rcases XX (Zv l) (t := 11) (is := [8, 9, 10]) (by decide) with h29 | ⟨nh29, h29⟩; rotate_left
    · exact leaf (ls_k40 nh29) (.cons h29 H39) (ls_p13 nh29)
    have H41 : Csl (Zv l) ls_k41 := .cons h29 H39
    rcases XX (Zv l) (t := 11) (is := [11, 12, 13]) (by decide) with h30 | ⟨nh30, h30⟩; rotate_left
    · exact leaf (ls_k42 nh30) (.cons h30 H41) (ls_p12 nh30)
    have H43 : Csl (Zv l) ls_k43 := .cons h30 H41
    rcases Zar (Zv l) (t := 9) (is := [126, 129, 132]) (by decide) with h31 | h31; rotate_left
    · have h32 : ZD (Zv l) [9, 151, 154, 157] = 1 := x1 h31
      have h33 : ZD (Zv l) [9, 176, 179, 182] = 1 := x2 h31
      exact leaf ls_k44 (.cons h33 (.cons h32 (.cons h31 H43))) ls_p11
    have h34 : ZD (Zv l) [9, 139, 140, 141] = 0 := (a2 h15 h31).1
    have h35 : ZD (Zv l) [10, 139, 140, 141, 142, 14, 15, 16, 17] = 0 := (a2 h15 h31).2
    have h36 : ZD (Zv l) [9, 151, 154, 157] = 0 := x1 h31
    have h37 : ZD (Zv l) [9, 164, 165, 166] = 0 := (a3 h15 h36).1
    have h38 : ZD (Zv l) [10, 164, 165, 166, 167, 14, 15, 16, 17] = 0 := (a3 h15 h36).2
    have h39 : ZD (Zv l) [9, 176, 179, 182] = 0 := x2 h31
    have h40 : ZD (Zv l) [9, 189, 190, 191] = 0 := (a4 h15 h39).1
    have h41 : ZD (Zv l) [10, 189, 190, 191, 192, 14, 15, 16, 17] = 0 := (a4 h15 h39).2
    exact leaf ls_k45 (.cons h41 (.cons h40 (.cons h39 (.cons h38 (.cons h37 (.cons h36 (.cons h35 (.cons h34 (.cons h31 H43))))))))) ls_p10
  have h42 : ZD (Zv l) [9, 27, 28, 29] = 0 := (a1 h15 h26).1
  have h43 : ZD (Zv l) [10, 27, 28, 29, 30, 14, 15, 16, 17] = 0 := (a1 h15 h26).2
  have h44 : ZD (Zv l) [8, 31, 32, 33, 34, 35, 36, 37, 38] = 1 := t1 h15 h26
  have H46 : Csl (Zv l) ls_k46 := .cons h44 (.cons h43 (.cons h42 (.cons h26 H36)))
  rcases Zd5 (Zv l) (t := 1) (is := [18]) (by decide) with h45 | h45 | h45; rotate_left
  · exact absurd h45 (s1 h26)
  · have H47 : Csl (Zv l) ls_k47 := .cons h45 H46
    rcases XX (Zv l) (t := 11) (is := [5, 6, 7]) (by decide) with h46 | ⟨nh46, h46⟩; rotate_left
    · exact leaf (ls_k48 nh46) (.cons h46 H47) (ls_p9 nh46)
    have H49 : Csl (Zv l) ls_k49 := .cons h46 H47
    rcases XX (Zv l) (t := 11) (is := [8, 9, 10]) (by decide) with h47 | ⟨nh47, h47⟩; rotate_left
    · exact leaf (ls_k50 nh47) (.cons h47 H49) (ls_p8 nh47)
    have H51 : Csl (Zv l) ls_k51 := .cons h47 H49
    rcases XX (Zv l) (t := 11) (is := [11, 12, 13]) (by decide) with h48 | ⟨nh48, h48⟩; rotate_left
    · exact leaf (ls_k52 nh48) (.cons h48 H51) (ls_p7 nh48)
    have H53 : Csl (Zv l) ls_k53 := .cons h48 H51
    rcases Zar (Zv l) (t := 9) (is := [126, 129, 132]) (by decide) with h49 | h49; rotate_left
    · have h50 : ZD (Zv l) [9, 151, 154, 157] = 1 := x1 h49
      have h51 : ZD (Zv l) [9, 176, 179, 182] = 1 := x2 h49
      exact leaf ls_k54 (.cons h51 (.cons h50 (.cons h49 H53))) ls_p6
    have h52 : ZD (Zv l) [9, 139, 140, 141] = 0 := (a2 h15 h49).1
    have h53 : ZD (Zv l) [10, 139, 140, 141, 142, 14, 15, 16, 17] = 0 := (a2 h15 h49).2
    have h54 : ZD (Zv l) [9, 151, 154, 157] = 0 := x1 h49
    have h55 : ZD (Zv l) [9, 164, 165, 166] = 0 := (a3 h15 h54).1
    have h56 : ZD (Zv l) [10, 164, 165, 166, 167, 14, 15, 16, 17] = 0 := (a3 h15 h54).2
    have h57 : ZD (Zv l) [9, 176, 179, 182] = 0 := x2 h49
    have h58 : ZD (Zv l) [9, 189, 190, 191] = 0 := (a4 h15 h57).1
    have h59 : ZD (Zv l) [10, 189, 190, 191, 192, 14, 15, 16, 17] = 0 := (a4 h15 h57).2
    exact leaf ls_k55 (.cons h59 (.cons h58 (.cons h57 (.cons h56 (.cons h55 (.cons h54 (.cons h53 (.cons h52 (.cons h49 H53))))))))) ls_p5
  have H56 : Csl (Zv l) ls_k56 := .cons h45 H46
  rcases XX (Zv l) (t := 11) (is := [5, 6, 7]) (by decide) with h60 | ⟨nh60, h60⟩; rotate_left
  · exact leaf (ls_k57 nh60) (.cons h60 H56) (ls_p4 nh60)
  have H58 : Csl (Zv l) ls_k58 := .cons h60 H56
  rcases XX (Zv l) (t := 11) (is := [8, 9, 10]) (by decide) with h61 | ⟨nh61, h61⟩; rotate_left
  · exact leaf (ls_k59 nh61) (.cons h61 H58) (ls_p3 nh61)
  have H60 : Csl (Zv l) ls_k60 := .cons h61 H58
  rcases XX (Zv l) (t := 11) (is := [11, 12, 13]) (by decide) with h62 | ⟨nh62, h62⟩; rotate_left
  · exact leaf (ls_k61 nh62) (.cons h62 H60) (ls_p2 nh62)
  have H62 : Csl (Zv l) ls_k62 := .cons h62 H60
  rcases Zar (Zv l) (t := 9) (is := [126, 129, 132]) (by decide) with h63 | h63; rotate_left
  · have h64 : ZD (Zv l) [9, 151, 154, 157] = 1 := x1 h63
    have h65 : ZD (Zv l) [9, 176, 179, 182] = 1 := x2 h63
    exact leaf ls_k63 (.cons h65 (.cons h64 (.cons h63 H62))) ls_p1
  have h66 : ZD (Zv l) [9, 139, 140, 141] = 0 := (a2 h15 h63).1
  have h67 : ZD (Zv l) [10, 139, 140, 141, 142, 14, 15, 16, 17] = 0 := (a2 h15 h63).2
  have h68 : ZD (Zv l) [9, 151, 154, 157] = 0 := x1 h63
  have h69 : ZD (Zv l) [9, 164, 165, 166] = 0 := (a3 h15 h68).1
  have h70 : ZD (Zv l) [10, 164, 165, 166, 167, 14, 15, 16, 17] = 0 := (a3 h15 h68).2
  have h71 : ZD (Zv l) [9, 176, 179, 182] = 0 := x2 h63
  have h72 : ZD (Zv l) [9, 189, 190, 191] = 0 := (a4 h15 h71).1
  have h73 : ZD (Zv l) [10, 189, 190, 191, 192, 14, 15, 16, 17] = 0 := (a4 h15 h71).2
  exact leaf ls_k64 (.cons h73 (.cons h72 (.cons h71 (.cons h70 (.cons h69 (.cons h68 (.cons h67 (.cons h66 (.cons h63 H62))))))))) ls_p0
theorem claw05_PlaneSame {S : Sh} {w : World} (hS : Ya S w) {x0 x1 x2 x3 x4 x5 x6 x7 x8 x9 x10 x11 x12 x13 : ByteArray} :
    Calls Tryz.prog 6 [(.agg ([(.string x0), (.string x1), (.string x2), (.string x3)] : List Value).toArray), (.string x4), (.agg ([(.string x5), (.string x6), (.string x7)] : List Value).toArray), (.agg ([(.string x8), (.string x9), (.string x10)] : List Value).toArray), (.agg ([(.string x11), (.string x12), (.string x13)] : List Value).toArray)].toArray w (Ret S w (fun S v => v = .bool true)) := ls_law hS [x0, x1, x2, x3, x4, x5, x6, x7, x8, x9, x10, x11, x12, x13]
end
end Go.Cham
namespace Go.Cham
open Go Go.RowKit Go.ChangeShapes Go.WideShapes Go.ChangeAt Go.Joins Go.Deep
section
variable {H : Type} {enc : TypeId × Value → H} {P : Program}
theorem open_strs4 {W : World} {base b0 : Nat} {r : Reach} {spare : Nat → Bool} {held : Bool} {t ts : TypeId} {f0 f1 f2 f3 : Field} {v : Value} {d : DataW H} {p : List MemPlace} (hs : P.underlying t = some (.struct #[f0, f1, f2, f3])) (hone : oneCellFields P #[f0, f1, f2, f3] = true) (hC : P.cellsOf t = 4)
    (hts : P.underlying ts = some .string) (h0 : f0.type = ts) (h1 : f1.type = ts) (h2 : f2.type = ts) (h3 : f3.type = ts) (hv : Value.okWide P W r b0 t v) (h : DataW.Trod enc P W base spare held t v d p) :
    ∃ s0 s1 s2 s3 : ByteArray, v = .agg ([(.string s0), (.string s1), (.string s2), (.string s3)] : List Value).toArray ∧ p = [] ∧ ∀ (W' : World) (base' : Nat) (sp : Nat → Bool) (hd : Bool), DataW.Trod enc P W' base' sp hd t v d [] := by
  obtain ⟨v0, v1, v2, v3, y0, y1, y2, y3, n, rfl, rfl, rfl, t0, t1, t2, t3⟩ := open_agg4 hs hone hC hv h
  obtain ⟨s0, e0, rfl, z0⟩ := DataW.trod_string (by rw [h0]; exact hts) t0
  obtain ⟨s1, e1, rfl, z1⟩ := DataW.trod_string (by rw [h1]; exact hts) t1
  obtain ⟨s2, e2, rfl, z2⟩ := DataW.trod_string (by rw [h2]; exact hts) t2
  obtain ⟨s3, e3, rfl, z3⟩ := DataW.trod_string (by rw [h3]; exact hts) t3
  cases e0; cases e1; cases e2; cases e3
  exact ⟨s0, s1, s2, s3, rfl, rfl, fun W' base' sp hd => shut_agg4 (y0 := (_, [])) (y1 := (_, [])) (y2 := (_, [])) (y3 := (_, [])) hs hone hC ⟨1, by simp [DataW.trod, h0, hts, z0]⟩ ⟨1, by simp [DataW.trod, h1, hts, z1]⟩ ⟨1, by simp [DataW.trod, h2, hts, z2]⟩ ⟨1, by simp [DataW.trod, h3, hts, z3]⟩⟩
theorem open_strs3 {W : World} {base b0 : Nat} {r : Reach} {spare : Nat → Bool} {held : Bool} {t ts : TypeId} {f0 f1 f2 : Field} {v : Value} {d : DataW H} {p : List MemPlace} (hs : P.underlying t = some (.struct #[f0, f1, f2])) (hone : oneCellFields P #[f0, f1, f2] = true) (hC : P.cellsOf t = 3)
    (hts : P.underlying ts = some .string) (h0 : f0.type = ts) (h1 : f1.type = ts) (h2 : f2.type = ts) (hv : Value.okWide P W r b0 t v) (h : DataW.Trod enc P W base spare held t v d p) :
    ∃ s0 s1 s2 : ByteArray, v = .agg ([(.string s0), (.string s1), (.string s2)] : List Value).toArray ∧ p = [] ∧ ∀ (W' : World) (base' : Nat) (sp : Nat → Bool) (hd : Bool), DataW.Trod enc P W' base' sp hd t v d [] := by
  obtain ⟨v0, v1, v2, y0, y1, y2, n, rfl, rfl, rfl, t0, t1, t2⟩ := open_agg3 hs hone hC hv h
  obtain ⟨s0, e0, rfl, z0⟩ := DataW.trod_string (by rw [h0]; exact hts) t0
  obtain ⟨s1, e1, rfl, z1⟩ := DataW.trod_string (by rw [h1]; exact hts) t1
  obtain ⟨s2, e2, rfl, z2⟩ := DataW.trod_string (by rw [h2]; exact hts) t2
  cases e0; cases e1; cases e2
  exact ⟨s0, s1, s2, rfl, rfl, fun W' base' sp hd => shut_agg3 (y0 := (_, [])) (y1 := (_, [])) (y2 := (_, [])) hs hone hC ⟨1, by simp [DataW.trod, h0, hts, z0]⟩ ⟨1, by simp [DataW.trod, h1, hts, z1]⟩ ⟨1, by simp [DataW.trod, h2, hts, z2]⟩⟩
theorem open_str1 {W : World} {base b0 : Nat} {r : Reach} {spare : Nat → Bool} {held : Bool} {t : TypeId} {v : Value} {d : DataW H} {p : List MemPlace} (ht : P.underlying t = some .string) (hv : Value.okWide P W r b0 t v) (h : DataW.Trod enc P W base spare held t v d p) :
    ∃ s : ByteArray, v = .string s ∧ p = [] ∧ ∀ (W' : World) (base' : Nat) (sp : Nat → Bool) (hd : Bool), DataW.Trod enc P W' base' sp hd t v d [] := by
  obtain ⟨s, rfl⟩ := okWide_string ht hv
  obtain ⟨fuel, hf⟩ := h
  obtain ⟨s', e, hx, z⟩ := DataW.trod_string ht hf
  simp [Value.cells] at e
  subst e
  simp only [Prod.mk.injEq] at hx
  obtain ⟨rfl, rfl⟩ := hx
  exact ⟨s, rfl, rfl, fun W' base' sp hd => ⟨1, by simp [DataW.trod, Value.cells, ht, z]⟩⟩
theorem post_kept {f : Func} {s : ChangeSpec} {apart fresh handsOn : Bool} {W W' : World} {args : Array Value} {v : Value} {ds gs : List (DataW H)} (hW : DataW.Whole enc P f.params.toList s.vars apart W args.toList ds gs [])
    (hres : ∀ (b : Nat) (sp : Nat → Bool) (hd : Bool), DataW.TrodAll enc P W' b sp hd f.resultTypes.toList (v.resultList f.resultTypes.size) (s.fn H (ds ++ gs)).results [])
    (hargs : ∀ sp : Nat → Bool, DataW.TrodAll enc P W' 0 sp true f.params.toList args.toList (s.fn H (ds ++ gs)).args [])
    (hvars : ∀ sp : Nat → Bool, DataW.TrodVars enc P W' sp s.vars (s.fn H (ds ++ gs)).vars []) (hb : Below W.heap.size W W') :
    s.post enc P f apart fresh handsOn false W args v W' :=
  ⟨ds, gs, [], [], [], [], hW, hres _ _ _, hargs _, hvars _, Below.frame hb _, fun e => by cases e⟩
end
end Go.Cham
