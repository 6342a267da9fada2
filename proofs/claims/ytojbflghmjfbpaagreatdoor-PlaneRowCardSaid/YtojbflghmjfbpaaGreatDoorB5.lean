/- YtojbflghmjfbpaaGreatDoorB5, a part of the proof that the claim's law answers true for every input, made small by program from the texts of this repo's wip/. No condition beyond those that the statements bear. -/
import Derived.Test.YtojbflghmjfbpaaGreatDoorB4
import Derived.Test.YtojbflghmjfbpaaGreatDoorRows
import Derived.ProofKit
import Derived.LaidMore
import Derived.OpenShut
import Derived.Lay
import Derived.Lib.SmallJoins
import Derived.Stop.Joined
namespace Go.Cham
open Go Go.RowKit Go.Proofs
noncomputable section
def pWorks : PrF Ato := fun l => match l with
  | [] => some (.bool true)
  | _ => none
def valsB (T : Tb) (need : Nat) (x : Int) (is : List Nat) : List Nat → Option (List Nat)
  | [] => some []
  | o :: os => match findV T (keyE x (o :: is)) with
    | some (k, r) => match Nat.ble need r.d with
      | true => match valsB T need x is os with
        | some ks => some (k :: ks)
        | none => none
      | false => none
    | none => none
def pTexts (T : Tb) (t need : Nat) (ops : List Nat) (n : Nat) : PrF Ato := fun l => match l with
  | [.agg ts] => match asTs ts with
    | some is => match Nat.beq is.length n with
      | true => match is.all (shortB T) with
        | true => match condGo (t :: is) T.conds with
          | some x => match valsB T need x is ops with
            | some ks => some (.tup [.agg (cQs ks), .int .i64 x])
            | none => none
          | none => none
        | false => none
      | false => none
    | none => none
  | _ => none
def pCmpP (T : Tb) : PrF Ato := fun l => match l with
  | [.agg x, .agg y] => match asQs T 4 x with
    | some is => match asQs T 4 y with
      | some js => match is, js with
        | [a, b, c, d], [e, f, g, h] => match limB T 100000000000 [a, b, c, d, e, f, g, h] with
          | true => match Nat.ble (Nat.add (Nat.mul (mxC T [a, b, c, d, e, f, g, h]) T.km) (mxD T [a, b, c, d, e, f, g, h])) 100000000000 with
            | true => match yesNo T [9, a, b, c] with
              | some u => match yesNo T [9, e, f, g] with
                | some v => match u || v with
                  | false => match condGo [10, a, b, c, d, e, f, g, h] T.conds with
                    | some z => some (.int .i64 z)
                    | none => none
                  | true => none
                | none => none
              | none => none
            | false => none
          | false => none
        | _, _ => none
      | none => none
    | none => none
  | _ => none
section
variable {T : Tb} {K : Nat} {base ρ : Nat → AV} {bd : Nat → Nat} {G : Gh} {T0 : Tb} {hT : Cs T0 ρ}
set_option maxRecDepth 100000 in
theorem pWorks_ok : Xp Tryz.prog (DS hT bd) 11 pWorks := by
  intro args r hr G w vs hd hS
  unfold pWorks at hr
  split at hr
  · cases hr
    cases hd
    refine .ret (by kernel_rfl) (works_s hS) fun S' v hv => ?_
    rw [hv]; exact .bool _
  · cases hr
theorem valsB_ok (hg : YB T K base ρ bd) {need : Nat} {x : Int} {is : List Nat} : ∀ {ops ks : List Nat} {qs : List Rat}, valsB T need x is ops = some ks → ops.length = qs.length →
    (x = 0 → ∀ i (h : i < ops.length) (h' : i < qs.length), 10 < ops[i] ∧ semL ops[i] (is.map ρ) = .q qs[i]) → (x ≠ 0 → ∀ q ∈ qs, q = 0) → 0 ≤ x → Qs ρ bd need ks qs
  | [], ks, [], h, _, _, _, _ => by
    simp only [valsB, Option.some.injEq] at h; subst h; trivial
  | [], _, _ :: _, _, hl, _, _, _ => by cases hl
  | _ :: _, _, [], _, hl, _, _, _ => by cases hl
  | o :: os, ks, q :: qs, h, hl, h1, h2, hx => by
    unfold valsB at h
    split at h
    · rename_i k r hf
      split at h
      · rename_i hb
        split at h
        · rename_i ks' hks
          cases h
          have hb' := Nat.le_of_ble_eq_true hb
          obtain ⟨f1, f2⟩ := XR hf
          obtain ⟨f3, f4⟩ := hg.row _ _ f1
          refine ⟨?_, by rw [f4]; omega, valsB_ok hg hks (by simpa using hl) (fun e i hi hi' => by
            have := h1 e (i + 1) (by simp; omega) (by simp; omega)
            simpa using this) (fun e q hq => h2 e q (by simp [hq])) hx⟩
          rw [f3, f2]
          unfold keyE
          split
          · split
            · have := h1 rfl 0 (by simp) (by simp)
              simp only [List.getElem_cons_zero] at this
              rw [semK_op this.1]
              exact this.2
            · have := h2 (by simp; omega) q (by simp)
              rw [this]; rfl
          · omega
        · cases h
      · cases h
    · cases h
theorem TsE.vals : ∀ {is : List Nat} {ss : List ByteArray}, TsE ρ is ss → is.map ρ = ss.map AV.s
  | [], [], _ => rfl
  | i :: is, s :: ss, h => by rw [List.map_cons, List.map_cons, h.1, TsE.vals h.2]
  | [], _ :: _, h => h.elim
  | _ :: _, [], h => h.elim
theorem TsE.short (hg : YB T K base ρ bd) : ∀ {is : List Nat} {ss : List ByteArray}, TsE ρ is ss → is.all (shortB T) = true → ∀ s ∈ ss, s.size ≤ 1024
  | [], [], _, _, s, hs => by cases hs
  | i :: is, u :: ss, h, ha, s, hs => by
    simp only [List.all_cons, Bool.and_eq_true] at ha
    rcases List.mem_cons.1 hs with rfl | hs
    · have := shortB_ok hg ha.1
      rw [h.1] at this
      exact this
    · exact TsE.short hg h.2 ha.2 s hs
  | [], _ :: _, h, _, _, _ => h.elim
  | _ :: _, [], h, _, _, _ => h.elim
theorem TsE.len : ∀ {is : List Nat} {ss : List ByteArray}, TsE ρ is ss → is.length = ss.length
  | [], [], _ => rfl
  | i :: is, s :: ss, h => by rw [List.length_cons, List.length_cons, TsE.len h.2]
  | [], _ :: _, h => h.elim
  | _ :: _, [], h => h.elim
theorem pTexts_ok (hg : YB T K base ρ bd) {f t need n : Nat} {ops : List Nat} (he : ZW Tryz.prog f = true)
    (h : ∀ {S : Sh} {w : World} {ss : List ByteArray}, Yb S w → ss.length = n → (∀ s ∈ ss, s.size ≤ 1024) → ∃ (E : Int) (qs : List Rat), Calls Tryz.prog f [.agg (ss.map Value.string).toArray].toArray w (Ret S w (fun S v => ∃ c0 : List Value, v = .tuple [.agg c0.toArray, .int .i64 E].toArray ∧ Fs S c0 qs need)) ∧
      semT t (ss.map AV.s) = E ∧ ops.length = qs.length ∧ (E = 0 → ∀ i (h : i < ops.length) (h' : i < qs.length), 10 < ops[i] ∧ semL ops[i] (ss.map AV.s) = .q qs[i]) ∧ (E ≠ 0 → ∀ q ∈ qs, q = 0) ∧ 0 ≤ E) : Xp Tryz.prog (DS hT bd) f (pTexts T t need ops n) := by
  intro args r hr G w vs hd hS
  unfold pTexts at hr
  split at hr
  · rename_i ts
    split at hr
    · rename_i is his
      split at hr
      · rename_i hn
        rw [YI] at hn
        split at hr
        · rename_i hs
          split at hr
          · rename_i x hx
            split at hr
            · rename_i ks hks
              cases hr
              cases hd with
              | cons x1 x2 =>
                cases x2
                cases x1 with
                | agg x1 =>
                  obtain ⟨ss, rfl, hts⟩ := asTs_ok his x1
                  obtain ⟨E, qs, hC, hE, hl, h1, h2, h3⟩ := h (ss := ss) hS (by rw [← hts.len]; exact hn) (hts.short hg hs)
                  have hEx : E = x := by
                    have h9 := hg.cond _ (Za8 hx)
                    have h8 : ZH ρ (t :: is) = semT t (is.map ρ) := rfl
                    rw [hts.vals] at h8
                    rw [← hE, ← h8]
                    exact h9
                  subst hEx
                  have hQ := valsB_ok hg hks hl (by rw [hts.vals]; exact h1) h2 h3
                  refine .ret he hC fun S' v ⟨c0, ev, hF⟩ => ?_
                  rw [ev]
                  exact .tup (.cons (.agg (XU hQ hF)) (.cons (.int _ _) .nil))
            · cases hr
          · cases hr
        · cases hr
      · cases hr
    · cases hr
  · cases hr
set_option maxRecDepth 100000 in
theorem pPlaneParse_ok (hg : YB T K base ρ bd) : Xp Tryz.prog (DS hT bd) 20 (pTexts T 7 351808 [50, 54, 58, 62] 4) := by
  refine pTexts_ok hg (by kernel_rfl) fun {S w ss} hS hl hz => ?_
  match ss, hl, hz with
  | [x0, x1, x2, x3], _, hz =>
    refine ⟨_, _, plane_Parse_s hS (hz x0 (by simp)) (hz x1 (by simp)) (hz x2 (by simp)) (hz x3 (by simp)), rfl, rfl, fun _ i hi hi' => ?_, fun e q hq => ?_, perr_nn _ _ _ _⟩
    · match i, hi with
      | 0, _ => exact ⟨by simp, rfl⟩
      | 1, _ => exact ⟨by simp, rfl⟩
      | 2, _ => exact ⟨by simp, rfl⟩
      | 3, _ => exact ⟨by simp, rfl⟩
    · simp only [List.mem_cons, List.not_mem_nil, or_false] at hq
      rcases hq with rfl | rfl | rfl | rfl
      · exact if_neg e
      · exact if_neg e
      · exact if_neg e
      · exact if_neg e
set_option maxRecDepth 100000 in
theorem pVecParse_ok (hg : YB T K base ρ bd) : Xp Tryz.prog (DS hT bd) 13 (pTexts T 11 900 [66, 70, 74] 3) := by
  refine pTexts_ok hg (by kernel_rfl) fun {S w ss} hS hl hz => ?_
  match ss, hl, hz with
  | [x0, x1, x2], _, hz =>
    refine ⟨_, _, vec_Parse_s hS (hz x0 (by simp)) (hz x1 (by simp)) (hz x2 (by simp)), rfl, rfl, fun _ i hi hi' => ?_, fun e q hq => ?_, verr_nn _ _ _⟩
    · match i, hi with
      | 0, _ => exact ⟨by simp, rfl⟩
      | 1, _ => exact ⟨by simp, rfl⟩
      | 2, _ => exact ⟨by simp, rfl⟩
    · simp only [List.mem_cons, List.not_mem_nil, or_false] at hq
      rcases hq with rfl | rfl | rfl
      · exact if_neg e
      · exact if_neg e
      · exact if_neg e
set_option maxRecDepth 100000 in
theorem pCmpP_ok (hg : YB T K base ρ bd) : Xp Tryz.prog (DS hT bd) 21 (pCmpP T) := by
  intro args r hr G w vs hd hS
  unfold pCmpP at hr
  split at hr
  · rename_i x y
    split at hr
    · rename_i is his
      split at hr
      · rename_i js hjs
        split at hr
        · rename_i a b c d e f g h
          split at hr
          · rename_i hl
            split at hr
            · rename_i hm
              have hm' := mx_lim hg.km hm
              have hmx := mx_ok hg hl
              split at hr
              · rename_i u hu
                split at hr
                · rename_i v hv
                  split at hr
                  · rename_i huv
                    simp only [Bool.or_eq_false_iff] at huv
                    obtain ⟨rfl, rfl⟩ := huv
                    split at hr
                    · rename_i z hz
                      cases hr
                      cases hd with
                      | cons x1 x2 =>
                        cases x2 with
                        | cons x3 x4 =>
                          cases x4
                          cases x1 with
                          | agg x1 =>
                            cases x3 with
                            | agg x3 =>
                              have h1 := Zd1 hg his x1 (k := mxC T [a, b, c, d, e, f, g, h] * K + mxD T [a, b, c, d, e, f, g, h]) (fun i hi => hmx i (by simp at hi ⊢; omega))
                              have h2 := Zd1 hg hjs x3 (k := mxC T [a, b, c, d, e, f, g, h] * K + mxD T [a, b, c, d, e, f, g, h]) (fun i hi => hmx i (by simp at hi ⊢; omega))
                              refine .ret (by kernel_rfl) (plane_Cmp_s hS h1 h2 hm' (of_decide_eq_false (zero_yes hg hu)) (of_decide_eq_false (zero_yes hg hv))) fun S' v hv => ?_
                              have hc : Qy (ZZ (ρ a).rat (ρ e).rat) (ZZ (ρ b).rat (ρ f).rat) (ZZ (ρ c).rat (ρ g).rat) (ZZ (ρ d).rat (ρ h).rat) = z := hg.cond _ (Za8 hz)
                              rw [hv, hc]
                              exact .int _ _
                    · cases hr
                  · cases hr
                · cases hr
              · cases hr
            · cases hr
          · cases hr
        · cases hr
      · cases hr
    · cases hr
  · cases hr
end
def symTab5 (T : Tb) : List (Nat × PrF Ato) := (20, pTexts T 7 351808 [50, 54, 58, 62] 4) :: (13, pTexts T 11 900 [66, 70, 74] 3) :: (21, pCmpP T) :: (11, pWorks) :: symTab4 T
theorem symTab5_OK : TabOK symTab5 := by
  intro T K base ρ bd T0 hT hg p hp
  simp only [symTab5, List.mem_cons] at hp
  rcases hp with rfl | rfl | rfl | rfl | hp
  · exact pPlaneParse_ok hg
  · exact pVecParse_ok hg
  · exact pCmpP_ok hg
  · exact pWorks_ok
  · exact Zcm hg p hp
end
end Go.Cham
namespace Go.Cham
open Go Go.RowKit
theorem perr_zero {x y z u : List Nat} (h : Zdf x y z u = 0) : YP x = 0 ∧ YP y = 0 ∧ YP z = 0 ∧ YP u = 0 ∧ ¬ ((Xt x).num = 0 ∧ (Xt y).num = 0 ∧ (Xt z).num = 0) := by
  unfold Zdf at h
  split at h
  · rename_i h1; exact absurd h h1
  · split at h
    · rename_i h1; exact absurd h h1
    · split at h
      · rename_i h1; exact absurd h h1
      · split at h
        · rename_i h1; exact absurd h h1
        · split at h
          · cases h
          · rename_i a b c d e
            exact ⟨Classical.byContradiction a, Classical.byContradiction b, Classical.byContradiction c, Classical.byContradiction d, e⟩
theorem pv_nz0 {x y z u : List Nat} (h : Zdf x y z u = 0) : ¬ (pvA x y z u = 0 ∧ pvB x y z u = 0 ∧ pvC x y z u = 0) := by
  unfold pvA pvB pvC
  rw [if_pos h, if_pos h, if_pos h]
  exact pn_nz (nz3.1 (perr_zero h).2.2.2.2)
theorem pv_nz {x y z u : List Nat} (h : Zdf x y z u = 0) : ¬ ((pvA x y z u).num = 0 ∧ (pvB x y z u).num = 0 ∧ (pvC x y z u).num = 0) := nz3.2 (pv_nz0 h)
end Go.Cham
namespace Go.Cham
open Go Go.RowKit
theorem Zev (a b : Rat) : ZZ a b = 0 - ZZ b a := by
  unfold ZZ
  by_cases h : a < b
  · have h2 : ¬ b < a := by grind
    rw [if_pos h, if_neg h2, if_pos h]; rfl
  · by_cases h2 : b < a
    · rw [if_neg h, if_pos h2, if_pos h2]; rfl
    · rw [if_neg h, if_neg h2, if_neg h2, if_neg h]; rfl
theorem Zeu {a b : Rat} : ZZ a b = 0 ↔ a = b := by
  unfold ZZ
  by_cases h : a < b
  · rw [if_pos h]; constructor
    · intro e; cases e
    · intro e; subst e; grind
  · by_cases h2 : b < a
    · rw [if_neg h, if_pos h2]; constructor
      · intro e; cases e
      · intro e; subst e; grind
    · rw [if_neg h, if_neg h2]; constructor
      · intro _; grind
      · intro _; rfl
theorem QY (a b : Rat) : (ZZ a b = -1 ∧ a < b) ∨ (ZZ a b = 0 ∧ a = b) ∨ (ZZ a b = 1 ∧ b < a) := by
  unfold ZZ
  by_cases h : a < b
  · rw [if_pos h]; exact Or.inl ⟨rfl, h⟩
  · by_cases h2 : b < a
    · rw [if_neg h, if_pos h2]; exact Or.inr (Or.inr ⟨rfl, h2⟩)
    · rw [if_neg h, if_neg h2]; exact Or.inr (Or.inl ⟨rfl, by grind⟩)
theorem Qb (x y z u : Int) : (x ≠ 0 ∧ Qy x y z u = x) ∨ (x = 0 ∧ y ≠ 0 ∧ Qy x y z u = y) ∨ (x = 0 ∧ y = 0 ∧ z ≠ 0 ∧ Qy x y z u = z) ∨ (x = 0 ∧ y = 0 ∧ z = 0 ∧ Qy x y z u = u) := by
  by_cases h : x = 0
  · by_cases h1 : y = 0
    · by_cases h2 : z = 0
      · exact Or.inr (Or.inr (Or.inr ⟨h, h1, h2, (lex4_3 h h1 h2).symm⟩))
      · exact Or.inr (Or.inr (Or.inl ⟨h, h1, h2, (lex4_2 h h1 h2).symm⟩))
    · exact Or.inr (Or.inl ⟨h, h1, (lex4_1 h h1).symm⟩)
  · exact Or.inl ⟨h, (lex4_0 h).symm⟩
theorem cmp4_anti {a b c d e f g h : Rat} : Qy (ZZ a e) (ZZ b f) (ZZ c g) (ZZ d h) = 0 - Qy (ZZ e a) (ZZ f b) (ZZ g c) (ZZ h d) := by
  have h1 := Zev a e; have h2 := Zev b f; have h3 := Zev c g; have h4 := Zev d h
  have c1 := Qb (ZZ a e) (ZZ b f) (ZZ c g) (ZZ d h)
  have c2 := Qb (ZZ e a) (ZZ f b) (ZZ g c) (ZZ h d)
  omega
theorem cmp4_bd (a b c d e f g h : Rat) : -1 ≤ Qy (ZZ a e) (ZZ b f) (ZZ c g) (ZZ d h) ∧ Qy (ZZ a e) (ZZ b f) (ZZ c g) (ZZ d h) ≤ 1 := by
  have h1 := QY a e; have h2 := QY b f; have h3 := QY c g; have h4 := QY d h
  have c1 := Qb (ZZ a e) (ZZ b f) (ZZ c g) (ZZ d h)
  omega
theorem Za9 {a b c d e f g h : Rat} : Qy (ZZ a e) (ZZ b f) (ZZ c g) (ZZ d h) = 0 ↔ (a = e ∧ b = f ∧ c = g ∧ d = h) := by
  have c1 := Qb (ZZ a e) (ZZ b f) (ZZ c g) (ZZ d h)
  rw [← @Zeu a e, ← @Zeu b f, ← @Zeu c g, ← @Zeu d h]
  omega
theorem Zeg {p q : Rat} : YD (Zc9 p) = YD (Zc9 q) ↔ p = q := by
  constructor
  · intro h
    have := congrArg bl h
    rw [XN (rtxt_lt p), XN (rtxt_lt q)] at this
    exact rtxt_inj this
  · intro h; rw [h]
theorem list4_eq {a b c d e f g h : ByteArray} : ([a, b, c, d] = [e, f, g, h]) ↔ (a = e ∧ b = f ∧ c = g ∧ d = h) := by simp
theorem cmp4_txt {a b c d e f g h : Rat} : Qy (ZZ a e) (ZZ b f) (ZZ c g) (ZZ d h) = 0 ↔ [YD (Zc9 a), YD (Zc9 b), YD (Zc9 c), YD (Zc9 d)] = [YD (Zc9 e), YD (Zc9 f), YD (Zc9 g), YD (Zc9 h)] := by
  rw [Za9, list4_eq, Zeg, Zeg, Zeg, Zeg]
theorem cmp4_trans {a b c d e f g h i j k l : Rat} (h1 : Qy (ZZ a e) (ZZ b f) (ZZ c g) (ZZ d h) ≤ 0) (h2 : Qy (ZZ e i) (ZZ f j) (ZZ g k) (ZZ h l) ≤ 0) : ¬ 0 < Qy (ZZ a i) (ZZ b j) (ZZ c k) (ZZ d l) := by
  have c1 := Qb (ZZ a e) (ZZ b f) (ZZ c g) (ZZ d h)
  have c2 := Qb (ZZ e i) (ZZ f j) (ZZ g k) (ZZ h l)
  have c3 := Qb (ZZ a i) (ZZ b j) (ZZ c k) (ZZ d l)
  have t : ∀ x y z : Rat, (ZZ x y = 0 ∧ ZZ y z = ZZ x z) ∨ (ZZ y z = 0 ∧ ZZ x y = ZZ x z) ∨ (ZZ x y = -1 ∧ ZZ y z = -1 ∧ ZZ x z = -1) ∨ (ZZ x y = 1) ∨ (ZZ y z = 1) := by
    intro x y z
    rcases QY x y with ⟨e1, p1⟩ | ⟨e1, p1⟩ | ⟨e1, p1⟩
    · rcases QY y z with ⟨e2, p2⟩ | ⟨e2, p2⟩ | ⟨e2, p2⟩
      · refine Or.inr (Or.inr (Or.inl ⟨e1, e2, ?_⟩)); unfold ZZ; rw [if_pos (by grind)]
      · subst p2; exact Or.inr (Or.inl ⟨e2, rfl⟩)
      · exact Or.inr (Or.inr (Or.inr (Or.inr e2)))
    · subst p1; exact Or.inl ⟨e1, rfl⟩
    · exact Or.inr (Or.inr (Or.inr (Or.inl e1)))
  have t1 := t a e i; have t2 := t b f j; have t3 := t c g k; have t4 := t d h l
  omega
theorem cross_self {a b c : Rat} : (b * c - c * b).num = 0 ∧ (c * a - a * c).num = 0 ∧ (a * b - b * a).num = 0 := by
  rw [num0, num0, num0]; refine ⟨?_, ?_, ?_⟩ <;> grind
theorem cross_swap {a b c e f g : Rat} : ((b * g - c * f).num = 0 ∧ (c * e - a * g).num = 0 ∧ (a * f - b * e).num = 0) ↔ ((f * c - g * b).num = 0 ∧ (g * a - e * c).num = 0 ∧ (e * b - f * a).num = 0) := by
  rw [num0, num0, num0, num0, num0, num0]; constructor <;> rintro ⟨h1, h2, h3⟩ <;> refine ⟨?_, ?_, ?_⟩ <;> grind
theorem add_one_ne (d : Rat) : d + ((1 : Int) : Rat) ≠ d := by
  intro h
  have : ((1 : Int) : Rat) = 0 := by grind
  exact absurd this (by decide +kernel)
end Go.Cham
namespace Go.Cham
open Go Go.RowKit
theorem cmp4_comp {a b c d e f g h i j k l : Rat} {x y z : Int} (h1 : Qy (ZZ a e) (ZZ b f) (ZZ c g) (ZZ d h) = x) (h2 : Qy (ZZ e i) (ZZ f j) (ZZ g k) (ZZ h l) = y) (hz : (x = 0 ∧ y = 0 ∧ z = 0) ∨ (x = -1 ∧ y = -1 ∧ z = -1) ∨ (x = 0 ∧ y = -1 ∧ z = -1) ∨ (x = -1 ∧ y = 0 ∧ z = -1)) :
    Qy (ZZ a i) (ZZ b j) (ZZ c k) (ZZ d l) = z := by
  by_cases hx : x = 0
  · obtain ⟨rfl, rfl, rfl, rfl⟩ := Za9.1 (h1.trans hx)
    rw [h2]; omega
  · by_cases hy : y = 0
    · obtain ⟨rfl, rfl, rfl, rfl⟩ := Za9.1 (h2.trans hy)
      rw [h1]; omega
    · have t := cmp4_trans (h1 ▸ (by omega : x ≤ 0)) (h2 ▸ (by omega : y ≤ 0))
      have hb := cmp4_bd a b c d i j k l
      have n : Qy (ZZ a i) (ZZ b j) (ZZ c k) (ZZ d l) ≠ 0 := fun q => by
        obtain ⟨rfl, rfl, rfl, rfl⟩ := Za9.1 q
        have := @cmp4_anti a b c d e f g h
        omega
      omega
theorem pn_mult {a b c d : Rat} (h : ¬ (a = 0 ∧ b = 0 ∧ c = 0)) : ∃ t : Rat, t ≠ 0 ∧ pn a b c d a = t * a ∧ pn a b c d b = t * b ∧ pn a b c d c = t * c ∧ pn a b c d d = t * d :=
  have hn := nz3.2 h
  ⟨pF a b c d, pF_ne hn, pn_a hn, pn_b hn, pn_c hn, pn_d hn⟩
theorem cross_pn1 {a b c d : Rat} (h : ¬ (a = 0 ∧ b = 0 ∧ c = 0)) : ((b * pn a b c d c) - (c * pn a b c d b)).num = 0 ∧ ((c * pn a b c d a) - (a * pn a b c d c)).num = 0 ∧ ((a * pn a b c d b) - (b * pn a b c d a)).num = 0 := by
  obtain ⟨t, _, e1, e2, e3, _⟩ := pn_mult (d := d) h
  rw [e1, e2, e3, num0, num0, num0]; refine ⟨?_, ?_, ?_⟩ <;> grind
theorem cmp_moved1 {a b c d : Rat} (h : ¬ (a = 0 ∧ b = 0 ∧ c = 0)) {e : Rat} (he : e ≠ d) : ¬ Qy (ZZ a (pn a b c e a)) (ZZ b (pn a b c e b)) (ZZ c (pn a b c e c)) (ZZ d (pn a b c e e)) = 0 := by
  obtain ⟨t, _, e1, e2, e3, e4⟩ := pn_mult (d := e) h
  rw [Za9, e1, e2, e3, e4]
  rintro ⟨h1, h2, h3, h4⟩
  have ht : t = 1 := by
    by_cases ha : a = 0
    · by_cases hb : b = 0
      · have hc : c ≠ 0 := fun q => h ⟨ha, hb, q⟩
        grind
      · grind
    · grind
  subst ht
  apply he; grind
theorem ite_iff {p q : Prop} [Decidable p] [Decidable q] (h : p ↔ q) : (if p then (1 : Int) else 0) = if q then 1 else 0 := by
  by_cases e : p
  · rw [if_pos e, if_pos (h.1 e)]
  · rw [if_neg e, if_neg (fun z => e (h.2 z))]
theorem nine {p : Prop} [Decidable p] (h : (if p then (1 : Int) else 0) = 0) : ¬ p := fun e => by rw [if_pos e] at h; cases h
theorem cross_same {a b c d e f g h : Rat} (hz : Qy (ZZ a e) (ZZ b f) (ZZ c g) (ZZ d h) = 0) : ((b * g) - (c * f)).num = 0 ∧ ((c * e) - (a * g)).num = 0 ∧ ((a * f) - (b * e)).num = 0 := by
  obtain ⟨rfl, rfl, rfl, rfl⟩ := Za9.1 hz
  exact cross_self
end Go.Cham
namespace Go.Cham
open Go Go.RowKit Go.Proofs
noncomputable section
def lr_r : List Rw := [⟨[3, 0], 0, 0⟩, ⟨[3, 1], 0, 0⟩, ⟨[3, 2], 0, 0⟩, ⟨[3, 3], 0, 0⟩, ⟨[3, 4], 0, 0⟩, ⟨[3, 5], 0, 0⟩, ⟨[3, 6], 0, 0⟩, ⟨[3, 7], 0, 0⟩, ⟨[3, 8], 0, 0⟩, ⟨[3, 9], 0, 0⟩, ⟨[3, 10], 0, 0⟩, ⟨[3, 11], 0, 0⟩, ⟨[50, 0, 1, 2, 3], 0, 351808⟩, ⟨[54, 0, 1, 2, 3], 0, 351808⟩, ⟨[58, 0, 1, 2, 3], 0, 351808⟩, ⟨[62, 0, 1, 2, 3], 0, 351808⟩, ⟨[50, 4, 5, 6, 7], 0, 351808⟩, ⟨[54, 4, 5, 6, 7], 0, 351808⟩, ⟨[58, 4, 5, 6, 7], 0, 351808⟩, ⟨[62, 4, 5, 6, 7], 0, 351808⟩, ⟨[50, 8, 9, 10, 11], 0, 351808⟩, ⟨[54, 8, 9, 10, 11], 0, 351808⟩, ⟨[58, 8, 9, 10, 11], 0, 351808⟩, ⟨[62, 8, 9, 10, 11], 0, 351808⟩, ⟨[43, 12], 0, 351808⟩, ⟨[43, 13], 0, 351808⟩, ⟨[43, 14], 0, 351808⟩, ⟨[43, 15], 0, 351808⟩, ⟨[43, 16], 0, 351808⟩, ⟨[43, 17], 0, 351808⟩, ⟨[43, 18], 0, 351808⟩, ⟨[43, 19], 0, 351808⟩, ⟨[10, 1, 0], 0, 64⟩, ⟨[22, 15, 32], 0, 351873⟩, ⟨[46, 12, 13, 14, 33, 12], 0, 135125440⟩, ⟨[46, 12, 13, 14, 33, 13], 0, 135125440⟩, ⟨[46, 12, 13, 14, 33, 14], 0, 135125440⟩, ⟨[46, 12, 13, 14, 33, 33], 0, 135125440⟩, ⟨[30, 13, 14], 0, 703616⟩, ⟨[30, 14, 13], 0, 703616⟩, ⟨[26, 38, 39], 0, 1407233⟩, ⟨[30, 14, 12], 0, 703616⟩, ⟨[30, 12, 14], 0, 703616⟩, ⟨[26, 41, 42], 0, 1407233⟩, ⟨[30, 12, 13], 0, 703616⟩, ⟨[30, 13, 12], 0, 703616⟩, ⟨[26, 44, 45], 0, 1407233⟩, ⟨[30, 13, 36], 0, 135477248⟩, ⟨[30, 14, 35], 0, 135477248⟩, ⟨[26, 47, 48], 0, 270954497⟩, ⟨[30, 14, 34], 0, 135477248⟩, ⟨[30, 12, 36], 0, 135477248⟩, ⟨[26, 50, 51], 0, 270954497⟩, ⟨[30, 12, 35], 0, 135477248⟩, ⟨[30, 13, 34], 0, 135477248⟩, ⟨[26, 53, 54], 0, 270954497⟩, ⟨[30, 13, 18], 0, 703616⟩, ⟨[30, 14, 17], 0, 703616⟩, ⟨[26, 56, 57], 0, 1407233⟩, ⟨[30, 14, 16], 0, 703616⟩, ⟨[30, 12, 18], 0, 703616⟩, ⟨[26, 59, 60], 0, 1407233⟩, ⟨[30, 12, 17], 0, 703616⟩, ⟨[30, 13, 16], 0, 703616⟩, ⟨[26, 62, 63], 0, 1407233⟩, ⟨[30, 17, 14], 0, 703616⟩, ⟨[30, 18, 13], 0, 703616⟩, ⟨[26, 65, 66], 0, 1407233⟩, ⟨[30, 18, 12], 0, 703616⟩, ⟨[30, 16, 14], 0, 703616⟩, ⟨[26, 68, 69], 0, 1407233⟩, ⟨[30, 16, 13], 0, 703616⟩, ⟨[30, 17, 12], 0, 703616⟩, ⟨[26, 71, 72], 0, 1407233⟩, ⟨[6], 0, 351808⟩]
def lr_T (cs : CL) : Tb := ⟨lr_r, cs, 100000000000⟩
def Zax (cs : CL) (r : SV Ato) : Prop := RunT symTab5 (lr_T cs) 4 [.agg (cTs [0, 1, 2, 3]), .agg (cTs [4, 5, 6, 7]), .agg (cTs [8, 9, 10, 11])] r 600
def Yv (l : List ByteArray) : Nat → AV := rho (lr_T []) (Zbv l)
def ZL (l : List ByteArray) (i : Nat) : Rat := (Yv l i).rat
def Xm (l : List ByteArray) (i : Nat) : ByteArray := (Yv l i).txt
theorem Qk (l : List ByteArray) (i : Nat) {r : Rw} (h : lr_r[i]? = some r) {q : Rat} (hq : semK (Zbv l) (Yv l) r.key = .q q) : ZL l i = q := row_rat (R := lr_r) (km := 100000000000) (by kernel_rfl) h hq
theorem lr_u (l : List ByteArray) (i : Nat) {r : Rw} (h : lr_r[i]? = some r) {q : ByteArray} (hq : semK (Zbv l) (Yv l) r.key = .s q) : Xm l i = q := row_txt (R := lr_r) (km := 100000000000) (by kernel_rfl) h hq
set_option maxRecDepth 100000
def lr_k0 : CL := ([12, 0], 0) :: []
def lr_k1 : CL := ([12, 1], 0) :: lr_k0
def lr_k2 : CL := ([12, 2], 0) :: lr_k1
def lr_k3 : CL := ([12, 3], 0) :: lr_k2
def lr_k4 : CL := ([12, 4], 0) :: lr_k3
def lr_k5 : CL := ([12, 5], 0) :: lr_k4
def lr_k6 : CL := ([12, 6], 0) :: lr_k5
def lr_k7 : CL := ([12, 7], 0) :: lr_k6
def lr_k8 : CL := ([12, 8], 0) :: lr_k7
def lr_k9 : CL := ([12, 9], 0) :: lr_k8
def lr_k10 : CL := ([12, 10], 0) :: lr_k9
def lr_k11 : CL := ([12, 11], 0) :: lr_k10
def lr_k12 : CL := ([7, 0, 1, 2, 3], 0) :: lr_k11
def lr_k13 : CL := ([7, 4, 5, 6, 7], 0) :: lr_k12
def lr_k14 : CL := ([7, 8, 9, 10, 11], 0) :: lr_k13
def lr_k15 : CL := ([9, 12, 13, 14], 0) :: lr_k14
def lr_k16 : CL := ([9, 16, 17, 18], 0) :: lr_k15
def lr_k17 : CL := ([9, 40, 43, 46], 1) :: lr_k16
def lr_k18 : CL := ([9, 34, 35, 36], 0) :: lr_k17
def lr_k19 : CL := ([9, 49, 52, 55], 1) :: lr_k18
def lr_k20 : CL := ([10, 12, 13, 14, 15, 16, 17, 18, 19], (-1)) :: lr_k19
def lr_k21 : CL := ([10, 16, 17, 18, 19, 12, 13, 14, 15], 1) :: lr_k20
def lr_k22 : CL := ([8, 24, 25, 26, 27, 28, 29, 30, 31], 0) :: lr_k21
def lr_k23 : CL := ([9, 20, 21, 22], 0) :: lr_k22
def lr_k24 : CL := ([10, 16, 17, 18, 19, 20, 21, 22, 23], (-1)) :: lr_k23
def lr_k25 : CL := ([10, 12, 13, 14, 15, 20, 21, 22, 23], (-1)) :: lr_k24
def lr_k26 : CL := ([10, 12, 13, 14, 15, 34, 35, 36, 37], (-1)) :: lr_k25
def lr_k27 : CL := ([9, 58, 61, 64], 0) :: lr_k26
def lr_k28 : CL := ([9, 67, 70, 73], 0) :: lr_k27
theorem lr_p0 : Zax lr_k28 (.bool true) := fun _ _ _ => by kernel_rfl
def lr_k29 : CL := ([9, 58, 61, 64], 1) :: lr_k26
def lr_k30 : CL := ([9, 67, 70, 73], 1) :: lr_k29
theorem lr_p1 : Zax lr_k30 (.bool true) := fun _ _ _ => by kernel_rfl
def lr_k31 : CL := ([10, 12, 13, 14, 15, 34, 35, 36, 37], 1) :: lr_k25
def lr_k32 : CL := ([9, 58, 61, 64], 0) :: lr_k31
def lr_k33 : CL := ([9, 67, 70, 73], 0) :: lr_k32
theorem lr_p2 : Zax lr_k33 (.bool true) := fun _ _ _ => by kernel_rfl
def lr_k34 : CL := ([9, 58, 61, 64], 1) :: lr_k31
def lr_k35 : CL := ([9, 67, 70, 73], 1) :: lr_k34
theorem lr_p3 : Zax lr_k35 (.bool true) := fun _ _ _ => by kernel_rfl
def lr_k36 : CL := ([10, 16, 17, 18, 19, 20, 21, 22, 23], 0) :: lr_k23
def lr_k37 : CL := ([10, 12, 13, 14, 15, 20, 21, 22, 23], (-1)) :: lr_k36
def lr_k38 : CL := ([10, 12, 13, 14, 15, 34, 35, 36, 37], (-1)) :: lr_k37
def lr_k39 : CL := ([9, 58, 61, 64], 0) :: lr_k38
def lr_k40 : CL := ([9, 67, 70, 73], 0) :: lr_k39
theorem lr_p8 : Zax lr_k40 (.bool true) := fun _ _ _ => by kernel_rfl
def lr_k41 : CL := ([9, 58, 61, 64], 1) :: lr_k38
def lr_k42 : CL := ([9, 67, 70, 73], 1) :: lr_k41
theorem lr_p9 : Zax lr_k42 (.bool true) := fun _ _ _ => by kernel_rfl
def lr_k43 : CL := ([10, 12, 13, 14, 15, 34, 35, 36, 37], 1) :: lr_k37
def lr_k44 : CL := ([9, 58, 61, 64], 0) :: lr_k43
def lr_k45 : CL := ([9, 67, 70, 73], 0) :: lr_k44
theorem lr_p10 : Zax lr_k45 (.bool true) := fun _ _ _ => by kernel_rfl
def lr_k46 : CL := ([9, 58, 61, 64], 1) :: lr_k43
def lr_k47 : CL := ([9, 67, 70, 73], 1) :: lr_k46
theorem lr_p11 : Zax lr_k47 (.bool true) := fun _ _ _ => by kernel_rfl
def lr_k48 : CL := ([10, 16, 17, 18, 19, 20, 21, 22, 23], 1) :: lr_k23
def lr_k49 : CL := ([10, 12, 13, 14, 15, 34, 35, 36, 37], (-1)) :: lr_k48
def lr_k50 : CL := ([9, 58, 61, 64], 0) :: lr_k49
def lr_k51 : CL := ([9, 67, 70, 73], 0) :: lr_k50
theorem lr_p4 : Zax lr_k51 (.bool true) := fun _ _ _ => by kernel_rfl
def lr_k52 : CL := ([9, 58, 61, 64], 1) :: lr_k49
def lr_k53 : CL := ([9, 67, 70, 73], 1) :: lr_k52
theorem lr_p5 : Zax lr_k53 (.bool true) := fun _ _ _ => by kernel_rfl
def lr_k54 : CL := ([10, 12, 13, 14, 15, 34, 35, 36, 37], 1) :: lr_k48
def lr_k55 : CL := ([9, 58, 61, 64], 0) :: lr_k54
def lr_k56 : CL := ([9, 67, 70, 73], 0) :: lr_k55
theorem lr_p6 : Zax lr_k56 (.bool true) := fun _ _ _ => by kernel_rfl
def lr_k57 : CL := ([9, 58, 61, 64], 1) :: lr_k54
def lr_k58 : CL := ([9, 67, 70, 73], 1) :: lr_k57
theorem lr_p7 : Zax lr_k58 (.bool true) := fun _ _ _ => by kernel_rfl
def lr_k59 : CL := ([10, 12, 13, 14, 15, 16, 17, 18, 19], 0) :: lr_k19
def lr_k60 : CL := ([10, 16, 17, 18, 19, 12, 13, 14, 15], 0) :: lr_k59
def lr_k61 : CL := ([8, 24, 25, 26, 27, 28, 29, 30, 31], 1) :: lr_k60
def lr_k62 : CL := ([9, 20, 21, 22], 0) :: lr_k61
def lr_k63 : CL := ([9, 58, 61, 64], 1) :: lr_k62
def lr_k64 : CL := ([9, 67, 70, 73], 1) :: lr_k63
def lr_k65 : CL := ([10, 16, 17, 18, 19, 20, 21, 22, 23], (-1)) :: lr_k64
def lr_k66 : CL := ([10, 12, 13, 14, 15, 20, 21, 22, 23], (-1)) :: lr_k65
def lr_k67 : CL := ([10, 12, 13, 14, 15, 34, 35, 36, 37], (-1)) :: lr_k66
theorem lr_p16 : Zax lr_k67 (.bool true) := fun _ _ _ => by kernel_rfl
def lr_k68 : CL := ([10, 12, 13, 14, 15, 34, 35, 36, 37], 1) :: lr_k66
theorem lr_p17 : Zax lr_k68 (.bool true) := fun _ _ _ => by kernel_rfl
def lr_k69 : CL := ([10, 16, 17, 18, 19, 20, 21, 22, 23], 0) :: lr_k64
def lr_k70 : CL := ([10, 12, 13, 14, 15, 20, 21, 22, 23], 0) :: lr_k69
def lr_k71 : CL := ([10, 12, 13, 14, 15, 34, 35, 36, 37], (-1)) :: lr_k70
theorem lr_p20 : Zax lr_k71 (.bool true) := fun _ _ _ => by kernel_rfl
def lr_k72 : CL := ([10, 12, 13, 14, 15, 34, 35, 36, 37], 1) :: lr_k70
theorem lr_p21 : Zax lr_k72 (.bool true) := fun _ _ _ => by kernel_rfl
def lr_k73 : CL := ([10, 16, 17, 18, 19, 20, 21, 22, 23], 1) :: lr_k64
def lr_k74 : CL := ([10, 12, 13, 14, 15, 34, 35, 36, 37], (-1)) :: lr_k73
theorem lr_p18 : Zax lr_k74 (.bool true) := fun _ _ _ => by kernel_rfl
def lr_k75 : CL := ([10, 12, 13, 14, 15, 34, 35, 36, 37], 1) :: lr_k73
theorem lr_p19 : Zax lr_k75 (.bool true) := fun _ _ _ => by kernel_rfl
def lr_k76 : CL := ([10, 12, 13, 14, 15, 16, 17, 18, 19], 1) :: lr_k19
def lr_k77 : CL := ([10, 16, 17, 18, 19, 12, 13, 14, 15], (-1)) :: lr_k76
def lr_k78 : CL := ([8, 24, 25, 26, 27, 28, 29, 30, 31], 0) :: lr_k77
def lr_k79 : CL := ([10, 12, 13, 14, 15, 34, 35, 36, 37], (-1)) :: lr_k78
def lr_k80 : CL := ([9, 58, 61, 64], 0) :: lr_k79
def lr_k81 : CL := ([9, 67, 70, 73], 0) :: lr_k80
theorem lr_p12 : Zax lr_k81 (.bool true) := fun _ _ _ => by kernel_rfl
def lr_k82 : CL := ([9, 58, 61, 64], 1) :: lr_k79
def lr_k83 : CL := ([9, 67, 70, 73], 1) :: lr_k82
theorem lr_p13 : Zax lr_k83 (.bool true) := fun _ _ _ => by kernel_rfl
def lr_k84 : CL := ([10, 12, 13, 14, 15, 34, 35, 36, 37], 1) :: lr_k78
def lr_k85 : CL := ([9, 58, 61, 64], 0) :: lr_k84
def lr_k86 : CL := ([9, 67, 70, 73], 0) :: lr_k85
theorem lr_p14 : Zax lr_k86 (.bool true) := fun _ _ _ => by kernel_rfl
def lr_k87 : CL := ([9, 58, 61, 64], 1) :: lr_k84
def lr_k88 : CL := ([9, 67, 70, 73], 1) :: lr_k87
theorem lr_p15 : Zax lr_k88 (.bool true) := fun _ _ _ => by kernel_rfl
def lr_k89 (nh14 : Nat) : CL := ([7, 8, 9, 10, 11], .ofNat (.succ nh14)) :: lr_k13
theorem lr_p22 (nh14 : Nat) : Zax (lr_k89 nh14) (.bool true) := fun _ _ _ => by kernel_rfl
def lr_k90 (nh13 : Nat) : CL := ([7, 4, 5, 6, 7], .ofNat (.succ nh13)) :: lr_k12
def lr_k91 (nh13 : Nat) : CL := ([7, 8, 9, 10, 11], 0) :: (lr_k90 nh13)
theorem lr_p23 (nh13 : Nat) : Zax (lr_k91 nh13) (.bool true) := fun _ _ _ => by kernel_rfl
def lr_k92 (nh13 : Nat) (nh68 : Nat) : CL := ([7, 8, 9, 10, 11], .ofNat (.succ nh68)) :: (lr_k90 nh13)
theorem lr_p24 (nh13 : Nat) (nh68 : Nat) : Zax (lr_k92 nh13 nh68) (.bool true) := fun _ _ _ => by kernel_rfl
def lr_k93 (nh12 : Nat) : CL := ([7, 0, 1, 2, 3], .ofNat (.succ nh12)) :: lr_k11
def lr_k94 (nh12 : Nat) : CL := ([7, 4, 5, 6, 7], 0) :: (lr_k93 nh12)
def lr_k95 (nh12 : Nat) : CL := ([7, 8, 9, 10, 11], 0) :: (lr_k94 nh12)
theorem lr_p25 (nh12 : Nat) : Zax (lr_k95 nh12) (.bool true) := fun _ _ _ => by kernel_rfl
def lr_k96 (nh12 : Nat) (nh70 : Nat) : CL := ([7, 8, 9, 10, 11], .ofNat (.succ nh70)) :: (lr_k94 nh12)
theorem lr_p26 (nh12 : Nat) (nh70 : Nat) : Zax (lr_k96 nh12 nh70) (.bool true) := fun _ _ _ => by kernel_rfl
def lr_k97 (nh12 : Nat) (nh69 : Nat) : CL := ([7, 4, 5, 6, 7], .ofNat (.succ nh69)) :: (lr_k93 nh12)
def lr_k98 (nh12 : Nat) (nh69 : Nat) : CL := ([7, 8, 9, 10, 11], 0) :: (lr_k97 nh12 nh69)
theorem lr_p27 (nh12 : Nat) (nh69 : Nat) : Zax (lr_k98 nh12 nh69) (.bool true) := fun _ _ _ => by kernel_rfl
def lr_k99 (nh12 : Nat) (nh69 : Nat) (nh71 : Nat) : CL := ([7, 8, 9, 10, 11], .ofNat (.succ nh71)) :: (lr_k97 nh12 nh69)
theorem lr_p28 (nh12 : Nat) (nh69 : Nat) (nh71 : Nat) : Zax (lr_k99 nh12 nh69 nh71) (.bool true) := fun _ _ _ => by kernel_rfl
def lr_k100 : CL := ([12, 11], 1) :: lr_k10
theorem lr_p29 : Zax lr_k100 (.bool true) := fun _ _ _ => by kernel_rfl
def lr_k101 : CL := ([12, 10], 1) :: lr_k9
theorem lr_p30 : Zax lr_k101 (.bool true) := fun _ _ _ => by kernel_rfl
def lr_k102 : CL := ([12, 9], 1) :: lr_k8
theorem lr_p31 : Zax lr_k102 (.bool true) := fun _ _ _ => by kernel_rfl
def lr_k103 : CL := ([12, 8], 1) :: lr_k7
theorem lr_p32 : Zax lr_k103 (.bool true) := fun _ _ _ => by kernel_rfl
def lr_k104 : CL := ([12, 7], 1) :: lr_k6
theorem lr_p33 : Zax lr_k104 (.bool true) := fun _ _ _ => by kernel_rfl
def lr_k105 : CL := ([12, 6], 1) :: lr_k5
theorem lr_p34 : Zax lr_k105 (.bool true) := fun _ _ _ => by kernel_rfl
def lr_k106 : CL := ([12, 5], 1) :: lr_k4
theorem lr_p35 : Zax lr_k106 (.bool true) := fun _ _ _ => by kernel_rfl
def lr_k107 : CL := ([12, 4], 1) :: lr_k3
theorem lr_p36 : Zax lr_k107 (.bool true) := fun _ _ _ => by kernel_rfl
def lr_k108 : CL := ([12, 3], 1) :: lr_k2
theorem lr_p37 : Zax lr_k108 (.bool true) := fun _ _ _ => by kernel_rfl
def lr_k109 : CL := ([12, 2], 1) :: lr_k1
theorem lr_p38 : Zax lr_k109 (.bool true) := fun _ _ _ => by kernel_rfl
def lr_k110 : CL := ([12, 1], 1) :: lr_k0
theorem lr_p39 : Zax lr_k110 (.bool true) := fun _ _ _ => by kernel_rfl
def lr_k111 : CL := ([12, 0], 1) :: []
theorem lr_p40 : Zax lr_k111 (.bool true) := fun _ _ _ => by kernel_rfl
theorem lr_law {S : Sh} {w : World} (hS : Yb S w) (l : List ByteArray) :
    Calls Tryz.prog 4 [(.agg ([(.string (tx l 0)), (.string (tx l 1)), (.string (tx l 2)), (.string (tx l 3))] : List Value).toArray), (.agg ([(.string (tx l 4)), (.string (tx l 5)), (.string (tx l 6)), (.string (tx l 7))] : List Value).toArray), (.agg ([(.string (tx l 8)), (.string (tx l 9)), (.string (tx l 10)), (.string (tx l 11))] : List Value).toArray)].toArray w (Ret S w (fun S v => v = .bool true)) := by
  have leaf := fun cs hc (h : Zax cs (.bool true)) => sym_ground symTab5_OK (K := 0) (base := Zbv l) (by kernel_rfl) (Nat.zero_le _) (by kernel_rfl) hS (fun _ _ => (.cons (.agg (cTs_mk (is := [0, 1, 2, 3]) (ss := [tx l 0, tx l 1, tx l 2, tx l 3]) ⟨by kernel_rfl, by kernel_rfl, by kernel_rfl, by kernel_rfl, trivial⟩)) (.cons (.agg (cTs_mk (is := [4, 5, 6, 7]) (ss := [tx l 4, tx l 5, tx l 6, tx l 7]) ⟨by kernel_rfl, by kernel_rfl, by kernel_rfl, by kernel_rfl, trivial⟩)) (.cons (.agg (cTs_mk (is := [8, 9, 10, 11]) (ss := [tx l 8, tx l 9, tx l 10, tx l 11]) ⟨by kernel_rfl, by kernel_rfl, by kernel_rfl, by kernel_rfl, trivial⟩)) .nil)))) cs hc (r := .bool true) h (u := .bool true) rfl
  have r12 : (ZL l 12) = (pvA (bl (Xm l 0)) (bl (Xm l 1)) (bl (Xm l 2)) (bl (Xm l 3))) := Qk l 12 rfl rfl
  have r13 : (ZL l 13) = (pvB (bl (Xm l 0)) (bl (Xm l 1)) (bl (Xm l 2)) (bl (Xm l 3))) := Qk l 13 rfl rfl
  have r14 : (ZL l 14) = (pvC (bl (Xm l 0)) (bl (Xm l 1)) (bl (Xm l 2)) (bl (Xm l 3))) := Qk l 14 rfl rfl
  have r15 : (ZL l 15) = (pvD (bl (Xm l 0)) (bl (Xm l 1)) (bl (Xm l 2)) (bl (Xm l 3))) := Qk l 15 rfl rfl
  have r16 : (ZL l 16) = (pvA (bl (Xm l 4)) (bl (Xm l 5)) (bl (Xm l 6)) (bl (Xm l 7))) := Qk l 16 rfl rfl
  have r17 : (ZL l 17) = (pvB (bl (Xm l 4)) (bl (Xm l 5)) (bl (Xm l 6)) (bl (Xm l 7))) := Qk l 17 rfl rfl
  have r18 : (ZL l 18) = (pvC (bl (Xm l 4)) (bl (Xm l 5)) (bl (Xm l 6)) (bl (Xm l 7))) := Qk l 18 rfl rfl
  have r19 : (ZL l 19) = (pvD (bl (Xm l 4)) (bl (Xm l 5)) (bl (Xm l 6)) (bl (Xm l 7))) := Qk l 19 rfl rfl
  have r20 : (ZL l 20) = (pvA (bl (Xm l 8)) (bl (Xm l 9)) (bl (Xm l 10)) (bl (Xm l 11))) := Qk l 20 rfl rfl
  have r21 : (ZL l 21) = (pvB (bl (Xm l 8)) (bl (Xm l 9)) (bl (Xm l 10)) (bl (Xm l 11))) := Qk l 21 rfl rfl
  have r22 : (ZL l 22) = (pvC (bl (Xm l 8)) (bl (Xm l 9)) (bl (Xm l 10)) (bl (Xm l 11))) := Qk l 22 rfl rfl
  have r23 : (ZL l 23) = (pvD (bl (Xm l 8)) (bl (Xm l 9)) (bl (Xm l 10)) (bl (Xm l 11))) := Qk l 23 rfl rfl
  have p0 : ZH (Yv l) [7, 0, 1, 2, 3] = 0 → ZH (Yv l) [9, 12, 13, 14] = 0 := fun h => (by kernel_rfl : ZH (Yv l) [9, 12, 13, 14] = (if ((ZL l 12)).num = 0 ∧ ((ZL l 13)).num = 0 ∧ ((ZL l 14)).num = 0 then (1 : Int) else 0)).trans (by rw [r12, r13, r14]; exact if_neg (pv_nz ((by kernel_rfl : ZH (Yv l) [7, 0, 1, 2, 3] = Zdf (bl (Xm l 0)) (bl (Xm l 1)) (bl (Xm l 2)) (bl (Xm l 3))).symm.trans h)))
  have p1 : ZH (Yv l) [7, 4, 5, 6, 7] = 0 → ZH (Yv l) [9, 16, 17, 18] = 0 := fun h => (by kernel_rfl : ZH (Yv l) [9, 16, 17, 18] = (if ((ZL l 16)).num = 0 ∧ ((ZL l 17)).num = 0 ∧ ((ZL l 18)).num = 0 then (1 : Int) else 0)).trans (by rw [r16, r17, r18]; exact if_neg (pv_nz ((by kernel_rfl : ZH (Yv l) [7, 4, 5, 6, 7] = Zdf (bl (Xm l 4)) (bl (Xm l 5)) (bl (Xm l 6)) (bl (Xm l 7))).symm.trans h)))
  have p2 : ZH (Yv l) [7, 8, 9, 10, 11] = 0 → ZH (Yv l) [9, 20, 21, 22] = 0 := fun h => (by kernel_rfl : ZH (Yv l) [9, 20, 21, 22] = (if ((ZL l 20)).num = 0 ∧ ((ZL l 21)).num = 0 ∧ ((ZL l 22)).num = 0 then (1 : Int) else 0)).trans (by rw [r20, r21, r22]; exact if_neg (pv_nz ((by kernel_rfl : ZH (Yv l) [7, 8, 9, 10, 11] = Zdf (bl (Xm l 8)) (bl (Xm l 9)) (bl (Xm l 10)) (bl (Xm l 11))).symm.trans h)))
  have r24 : (Xm l 24) = (YD (Zc9 (ZL l 12))) := lr_u l 24 rfl rfl
  have r25 : (Xm l 25) = (YD (Zc9 (ZL l 13))) := lr_u l 25 rfl rfl
  have r26 : (Xm l 26) = (YD (Zc9 (ZL l 14))) := lr_u l 26 rfl rfl
  have r27 : (Xm l 27) = (YD (Zc9 (ZL l 15))) := lr_u l 27 rfl rfl
  have r28 : (Xm l 28) = (YD (Zc9 (ZL l 16))) := lr_u l 28 rfl rfl
  have r29 : (Xm l 29) = (YD (Zc9 (ZL l 17))) := lr_u l 29 rfl rfl
  have r30 : (Xm l 30) = (YD (Zc9 (ZL l 18))) := lr_u l 30 rfl rfl
  have r31 : (Xm l 31) = (YD (Zc9 (ZL l 19))) := lr_u l 31 rfl rfl
  have r32 : (ZL l 32) = ((1 : Int) : Rat) := Qk l 32 rfl rfl
  have r33 : (ZL l 33) = ((ZL l 15) + (ZL l 32)) := Qk l 33 rfl rfl
  have r34 : (ZL l 34) = (pn (ZL l 12) (ZL l 13) (ZL l 14) (ZL l 33) (ZL l 12)) := Qk l 34 rfl rfl
  have r35 : (ZL l 35) = (pn (ZL l 12) (ZL l 13) (ZL l 14) (ZL l 33) (ZL l 13)) := Qk l 35 rfl rfl
  have r36 : (ZL l 36) = (pn (ZL l 12) (ZL l 13) (ZL l 14) (ZL l 33) (ZL l 14)) := Qk l 36 rfl rfl
  have r37 : (ZL l 37) = (pn (ZL l 12) (ZL l 13) (ZL l 14) (ZL l 33) (ZL l 33)) := Qk l 37 rfl rfl
  have r38 : (ZL l 38) = ((ZL l 13) * (ZL l 14)) := Qk l 38 rfl rfl
  have r39 : (ZL l 39) = ((ZL l 14) * (ZL l 13)) := Qk l 39 rfl rfl
  have r40 : (ZL l 40) = ((ZL l 38) - (ZL l 39)) := Qk l 40 rfl rfl
  have r41 : (ZL l 41) = ((ZL l 14) * (ZL l 12)) := Qk l 41 rfl rfl
  have r42 : (ZL l 42) = ((ZL l 12) * (ZL l 14)) := Qk l 42 rfl rfl
  have r43 : (ZL l 43) = ((ZL l 41) - (ZL l 42)) := Qk l 43 rfl rfl
  have r44 : (ZL l 44) = ((ZL l 12) * (ZL l 13)) := Qk l 44 rfl rfl
  have r45 : (ZL l 45) = ((ZL l 13) * (ZL l 12)) := Qk l 45 rfl rfl
  have r46 : (ZL l 46) = ((ZL l 44) - (ZL l 45)) := Qk l 46 rfl rfl
  have r47 : (ZL l 47) = ((ZL l 13) * (ZL l 36)) := Qk l 47 rfl rfl
  have r48 : (ZL l 48) = ((ZL l 14) * (ZL l 35)) := Qk l 48 rfl rfl
  have r49 : (ZL l 49) = ((ZL l 47) - (ZL l 48)) := Qk l 49 rfl rfl
  have r50 : (ZL l 50) = ((ZL l 14) * (ZL l 34)) := Qk l 50 rfl rfl
  have r51 : (ZL l 51) = ((ZL l 12) * (ZL l 36)) := Qk l 51 rfl rfl
  have r52 : (ZL l 52) = ((ZL l 50) - (ZL l 51)) := Qk l 52 rfl rfl
  have r53 : (ZL l 53) = ((ZL l 12) * (ZL l 35)) := Qk l 53 rfl rfl
  have r54 : (ZL l 54) = ((ZL l 13) * (ZL l 34)) := Qk l 54 rfl rfl
  have r55 : (ZL l 55) = ((ZL l 53) - (ZL l 54)) := Qk l 55 rfl rfl
  have r56 : (ZL l 56) = ((ZL l 13) * (ZL l 18)) := Qk l 56 rfl rfl
  have r57 : (ZL l 57) = ((ZL l 14) * (ZL l 17)) := Qk l 57 rfl rfl
  have r58 : (ZL l 58) = ((ZL l 56) - (ZL l 57)) := Qk l 58 rfl rfl
  have r59 : (ZL l 59) = ((ZL l 14) * (ZL l 16)) := Qk l 59 rfl rfl
  have r60 : (ZL l 60) = ((ZL l 12) * (ZL l 18)) := Qk l 60 rfl rfl
  have r61 : (ZL l 61) = ((ZL l 59) - (ZL l 60)) := Qk l 61 rfl rfl
  have r62 : (ZL l 62) = ((ZL l 12) * (ZL l 17)) := Qk l 62 rfl rfl
  have r63 : (ZL l 63) = ((ZL l 13) * (ZL l 16)) := Qk l 63 rfl rfl
  have r64 : (ZL l 64) = ((ZL l 62) - (ZL l 63)) := Qk l 64 rfl rfl
  have r65 : (ZL l 65) = ((ZL l 17) * (ZL l 14)) := Qk l 65 rfl rfl
  have r66 : (ZL l 66) = ((ZL l 18) * (ZL l 13)) := Qk l 66 rfl rfl
  have r67 : (ZL l 67) = ((ZL l 65) - (ZL l 66)) := Qk l 67 rfl rfl
  have r68 : (ZL l 68) = ((ZL l 18) * (ZL l 12)) := Qk l 68 rfl rfl
  have r69 : (ZL l 69) = ((ZL l 16) * (ZL l 14)) := Qk l 69 rfl rfl
  have r70 : (ZL l 70) = ((ZL l 68) - (ZL l 69)) := Qk l 70 rfl rfl
  have r71 : (ZL l 71) = ((ZL l 16) * (ZL l 13)) := Qk l 71 rfl rfl
  have r72 : (ZL l 72) = ((ZL l 17) * (ZL l 12)) := Qk l 72 rfl rfl
  have r73 : (ZL l 73) = ((ZL l 71) - (ZL l 72)) := Qk l 73 rfl rfl
  have q1 : ∀ {x : Int}, ZH (Yv l) [10, 12, 13, 14, 15, 16, 17, 18, 19] = x → ZH (Yv l) [10, 16, 17, 18, 19, 12, 13, 14, 15] = 0 - x := fun h => (by kernel_rfl : ZH (Yv l) [10, 16, 17, 18, 19, 12, 13, 14, 15] = Qy (ZZ (ZL l 16) (ZL l 12)) (ZZ (ZL l 17) (ZL l 13)) (ZZ (ZL l 18) (ZL l 14)) (ZZ (ZL l 19) (ZL l 15))).trans (cmp4_anti.trans (by rw [(by kernel_rfl : ZH (Yv l) [10, 12, 13, 14, 15, 16, 17, 18, 19] = Qy (ZZ (ZL l 12) (ZL l 16)) (ZZ (ZL l 13) (ZL l 17)) (ZZ (ZL l 14) (ZL l 18)) (ZZ (ZL l 15) (ZL l 19))).symm.trans h]))
  have q2 : ZH (Yv l) [10, 12, 13, 14, 15, 16, 17, 18, 19] = 0 → ZH (Yv l) [8, 24, 25, 26, 27, 28, 29, 30, 31] = 1 := fun h => (by kernel_rfl : ZH (Yv l) [8, 24, 25, 26, 27, 28, 29, 30, 31] = (if [(Xm l 24), (Xm l 25), (Xm l 26), (Xm l 27)] = [(Xm l 28), (Xm l 29), (Xm l 30), (Xm l 31)] then (1 : Int) else 0)).trans (by rw [r24, r25, r26, r27, r28, r29, r30, r31]; exact if_pos (cmp4_txt.1 ((by kernel_rfl : ZH (Yv l) [10, 12, 13, 14, 15, 16, 17, 18, 19] = Qy (ZZ (ZL l 12) (ZL l 16)) (ZZ (ZL l 13) (ZL l 17)) (ZZ (ZL l 14) (ZL l 18)) (ZZ (ZL l 15) (ZL l 19))).symm.trans h)))
  have q3 : ZH (Yv l) [10, 12, 13, 14, 15, 16, 17, 18, 19] ≠ 0 → ZH (Yv l) [8, 24, 25, 26, 27, 28, 29, 30, 31] = 0 := fun h => (by kernel_rfl : ZH (Yv l) [8, 24, 25, 26, 27, 28, 29, 30, 31] = (if [(Xm l 24), (Xm l 25), (Xm l 26), (Xm l 27)] = [(Xm l 28), (Xm l 29), (Xm l 30), (Xm l 31)] then (1 : Int) else 0)).trans (by rw [r24, r25, r26, r27, r28, r29, r30, r31]; exact if_neg fun z => h ((by kernel_rfl : ZH (Yv l) [10, 12, 13, 14, 15, 16, 17, 18, 19] = Qy (ZZ (ZL l 12) (ZL l 16)) (ZZ (ZL l 13) (ZL l 17)) (ZZ (ZL l 14) (ZL l 18)) (ZZ (ZL l 15) (ZL l 19))).trans (cmp4_txt.2 z)))
  have q4 : ∀ {x y z : Int}, ZH (Yv l) [10, 12, 13, 14, 15, 16, 17, 18, 19] = x → ZH (Yv l) [10, 16, 17, 18, 19, 20, 21, 22, 23] = y → ((x = 0 ∧ y = 0 ∧ z = 0) ∨ (x = -1 ∧ y = -1 ∧ z = -1) ∨ (x = 0 ∧ y = -1 ∧ z = -1) ∨ (x = -1 ∧ y = 0 ∧ z = -1)) → ZH (Yv l) [10, 12, 13, 14, 15, 20, 21, 22, 23] = z := fun h h' g => (by kernel_rfl : ZH (Yv l) [10, 12, 13, 14, 15, 20, 21, 22, 23] = Qy (ZZ (ZL l 12) (ZL l 20)) (ZZ (ZL l 13) (ZL l 21)) (ZZ (ZL l 14) (ZL l 22)) (ZZ (ZL l 15) (ZL l 23))).trans (cmp4_comp ((by kernel_rfl : ZH (Yv l) [10, 12, 13, 14, 15, 16, 17, 18, 19] = Qy (ZZ (ZL l 12) (ZL l 16)) (ZZ (ZL l 13) (ZL l 17)) (ZZ (ZL l 14) (ZL l 18)) (ZZ (ZL l 15) (ZL l 19))).symm.trans h) ((by kernel_rfl : ZH (Yv l) [10, 16, 17, 18, 19, 20, 21, 22, 23] = Qy (ZZ (ZL l 16) (ZL l 20)) (ZZ (ZL l 17) (ZL l 21)) (ZZ (ZL l 18) (ZL l 22)) (ZZ (ZL l 19) (ZL l 23))).symm.trans h') g)
  have z0 : ZH (Yv l) [7, 0, 1, 2, 3] = 0 → ¬ ((ZL l 12) = 0 ∧ (ZL l 13) = 0 ∧ (ZL l 14) = 0) := fun h => nz3.1 (nine ((by kernel_rfl : ZH (Yv l) [9, 12, 13, 14] = (if ((ZL l 12)).num = 0 ∧ ((ZL l 13)).num = 0 ∧ ((ZL l 14)).num = 0 then (1 : Int) else 0)).symm.trans (p0 h)))
  have q5 : ZH (Yv l) [7, 0, 1, 2, 3] = 0 → ZH (Yv l) [9, 34, 35, 36] = 0 := fun h => (by kernel_rfl : ZH (Yv l) [9, 34, 35, 36] = (if ((ZL l 34)).num = 0 ∧ ((ZL l 35)).num = 0 ∧ ((ZL l 36)).num = 0 then (1 : Int) else 0)).trans (by rw [r34, r35, r36, r33, r32]; exact if_neg (nz3.2 (pn_nz (z0 h))))
  have q6 : ZH (Yv l) [9, 40, 43, 46] = 1 := (by kernel_rfl : ZH (Yv l) [9, 40, 43, 46] = (if ((ZL l 40)).num = 0 ∧ ((ZL l 43)).num = 0 ∧ ((ZL l 46)).num = 0 then (1 : Int) else 0)).trans (by rw [r40, r38, r39, r43, r41, r42, r46, r44, r45]; exact if_pos cross_self)
  have q7 : ZH (Yv l) [7, 0, 1, 2, 3] = 0 → ZH (Yv l) [9, 49, 52, 55] = 1 := fun h => (by kernel_rfl : ZH (Yv l) [9, 49, 52, 55] = (if ((ZL l 49)).num = 0 ∧ ((ZL l 52)).num = 0 ∧ ((ZL l 55)).num = 0 then (1 : Int) else 0)).trans (by rw [r49, r47, r48, r52, r50, r51, r36, r55, r53, r35, r54, r34, r33, r32]; exact if_pos (cross_pn1 (z0 h)))
  have q8 : ZH (Yv l) [7, 0, 1, 2, 3] = 0 → ZH (Yv l) [10, 12, 13, 14, 15, 34, 35, 36, 37] ≠ 0 := fun h g => by have g := (by kernel_rfl : ZH (Yv l) [10, 12, 13, 14, 15, 34, 35, 36, 37] = Qy (ZZ (ZL l 12) (ZL l 34)) (ZZ (ZL l 13) (ZL l 35)) (ZZ (ZL l 14) (ZL l 36)) (ZZ (ZL l 15) (ZL l 37))).symm.trans g; rw [r34, r35, r36, r37, r33, r32] at g; exact cmp_moved1 (z0 h) (add_one_ne _) g
  have q9 : ∀ {x : Int}, ZH (Yv l) [9, 58, 61, 64] = x → ZH (Yv l) [9, 67, 70, 73] = x := fun h => (by kernel_rfl : ZH (Yv l) [9, 67, 70, 73] = (if ((ZL l 67)).num = 0 ∧ ((ZL l 70)).num = 0 ∧ ((ZL l 73)).num = 0 then (1 : Int) else 0)).trans (by rw [← h, (by kernel_rfl : ZH (Yv l) [9, 58, 61, 64] = (if ((ZL l 58)).num = 0 ∧ ((ZL l 61)).num = 0 ∧ ((ZL l 64)).num = 0 then (1 : Int) else 0))]; rw [r58, r56, r57, r61, r59, r60, r64, r62, r63, r67, r65, r66, r70, r68, r69, r73, r71, r72]; exact ite_iff cross_swap)
  have qa : ZH (Yv l) [10, 12, 13, 14, 15, 16, 17, 18, 19] = 0 → ZH (Yv l) [9, 58, 61, 64] = 1 := fun h => (by kernel_rfl : ZH (Yv l) [9, 58, 61, 64] = (if ((ZL l 58)).num = 0 ∧ ((ZL l 61)).num = 0 ∧ ((ZL l 64)).num = 0 then (1 : Int) else 0)).trans (by rw [r58, r56, r57, r61, r59, r60, r64, r62, r63]; exact if_pos (cross_same ((by kernel_rfl : ZH (Yv l) [10, 12, 13, 14, 15, 16, 17, 18, 19] = Qy (ZZ (ZL l 12) (ZL l 16)) (ZZ (ZL l 13) (ZL l 17)) (ZZ (ZL l 14) (ZL l 18)) (ZZ (ZL l 15) (ZL l 19))).symm.trans h)))
  rcases Zas (Yv l) (t := 12) (is := [0]) (by decide) with h0 | h0
  · have H0 := Csl.cons h0 (show Csl (Yv l) [] from .nil)
    rcases Zas (Yv l) (t := 12) (is := [1]) (by decide) with h1 | h1
    · have H1 := Csl.cons h1 H0
      rcases Zas (Yv l) (t := 12) (is := [2]) (by decide) with h2 | h2
      · have H2 := Csl.cons h2 H1
        rcases Zas (Yv l) (t := 12) (is := [3]) (by decide) with h3 | h3
        · have H3 := Csl.cons h3 H2
          rcases Zas (Yv l) (t := 12) (is := [4]) (by decide) with h4 | h4
          · have H4 := Csl.cons h4 H3
            rcases Zas (Yv l) (t := 12) (is := [5]) (by decide) with h5 | h5
            · have H5 := Csl.cons h5 H4
              rcases Zas (Yv l) (t := 12) (is := [6]) (by decide) with h6 | h6
              · have H6 := Csl.cons h6 H5
                rcases Zas (Yv l) (t := 12) (is := [7]) (by decide) with h7 | h7
                · have H7 := Csl.cons h7 H6
                  rcases Zas (Yv l) (t := 12) (is := [8]) (by decide) with h8 | h8
                  · have H8 := Csl.cons h8 H7
                    rcases Zas (Yv l) (t := 12) (is := [9]) (by decide) with h9 | h9
                    · have H9 := Csl.cons h9 H8
                      rcases Zas (Yv l) (t := 12) (is := [10]) (by decide) with h10 | h10
                      · have H10 := Csl.cons h10 H9
                        rcases Zas (Yv l) (t := 12) (is := [11]) (by decide) with h11 | h11
                        · have H11 := Csl.cons h11 H10
                          rcases QZ (Yv l) (t := 7) (is := [0, 1, 2, 3]) (by decide) with h12 | ⟨nh12, h12⟩
                          · have H12 := Csl.cons h12 H11
                            rcases QZ (Yv l) (t := 7) (is := [4, 5, 6, 7]) (by decide) with h13 | ⟨nh13, h13⟩
                            · have H13 := Csl.cons h13 H12
                              rcases QZ (Yv l) (t := 7) (is := [8, 9, 10, 11]) (by decide) with h14 | ⟨nh14, h14⟩
                              · have H14 := Csl.cons h14 H13
                                have h15 : ZH (Yv l) [9, 12, 13, 14] = 0 := p0 h12
                                have H15 := Csl.cons h15 H14
                                have h16 : ZH (Yv l) [9, 16, 17, 18] = 0 := p1 h13
                                have H16 := Csl.cons h16 H15
                                have h17 : ZH (Yv l) [9, 40, 43, 46] = 1 := q6
                                have H17 := Csl.cons h17 H16
                                have h18 : ZH (Yv l) [9, 34, 35, 36] = 0 := q5 h12
                                have H18 := Csl.cons h18 H17
                                have h19 : ZH (Yv l) [9, 49, 52, 55] = 1 := q7 h12
                                have H19 := Csl.cons h19 H18
                                rcases Zaa (Yv l) (t := 10) (is := [12, 13, 14, 15, 16, 17, 18, 19]) (by decide) with h20 | h20 | h20
                                · have H20 := Csl.cons h20 H19
                                  have h21 : ZH (Yv l) [10, 16, 17, 18, 19, 12, 13, 14, 15] = 1 := q1 h20
                                  have H21 := Csl.cons h21 H20
                                  have h22 : ZH (Yv l) [8, 24, 25, 26, 27, 28, 29, 30, 31] = 0 := q3 (by rw [h20]; decide)
                                  have H22 := Csl.cons h22 H21
                                  have h23 : ZH (Yv l) [9, 20, 21, 22] = 0 := p2 h14
                                  have H23 := Csl.cons h23 H22
                                  rcases Zaa (Yv l) (t := 10) (is := [16, 17, 18, 19, 20, 21, 22, 23]) (by decide) with h24 | h24 | h24
                                  · have H24 := Csl.cons h24 H23
                                    have h25 : ZH (Yv l) [10, 12, 13, 14, 15, 20, 21, 22, 23] = -1 := q4 h20 h24 (by decide)
                                    have H25 := Csl.cons h25 H24
                                    rcases Zaa (Yv l) (t := 10) (is := [12, 13, 14, 15, 34, 35, 36, 37]) (by decide) with h26 | h26 | h26
                                    · have H26 := Csl.cons h26 H25
                                      rcases Zas (Yv l) (t := 9) (is := [58, 61, 64]) (by decide) with h27 | h27
                                      · have H27 := Csl.cons h27 H26
                                        have h28 : ZH (Yv l) [9, 67, 70, 73] = 0 := q9 h27
                                        have H28 := Csl.cons h28 H27
                                        exact leaf _ H28 (lr_p0)
                                      · have H29 := Csl.cons h27 H26
                                        have h29 : ZH (Yv l) [9, 67, 70, 73] = 1 := q9 h27
                                        have H30 := Csl.cons h29 H29
                                        exact leaf _ H30 (lr_p1)
                                    · exact absurd h26 (q8 h12)
                                    · have H31 := Csl.cons h26 H25
                                      rcases Zas (Yv l) (t := 9) (is := [58, 61, 64]) (by decide) with h30 | h30
                                      · have H32 := Csl.cons h30 H31
                                        have h31 : ZH (Yv l) [9, 67, 70, 73] = 0 := q9 h30
                                        have H33 := Csl.cons h31 H32
                                        exact leaf _ H33 (lr_p2)
                                      · have H34 := Csl.cons h30 H31
                                        have h32 : ZH (Yv l) [9, 67, 70, 73] = 1 := q9 h30
                                        have H35 := Csl.cons h32 H34
                                        exact leaf _ H35 (lr_p3)
                                  · have H36 := Csl.cons h24 H23
                                    have h33 : ZH (Yv l) [10, 12, 13, 14, 15, 20, 21, 22, 23] = -1 := q4 h20 h24 (by decide)
                                    have H37 := Csl.cons h33 H36
                                    rcases Zaa (Yv l) (t := 10) (is := [12, 13, 14, 15, 34, 35, 36, 37]) (by decide) with h34 | h34 | h34
                                    · have H38 := Csl.cons h34 H37
                                      rcases Zas (Yv l) (t := 9) (is := [58, 61, 64]) (by decide) with h35 | h35
                                      · have H39 := Csl.cons h35 H38
                                        have h36 : ZH (Yv l) [9, 67, 70, 73] = 0 := q9 h35
                                        have H40 := Csl.cons h36 H39
                                        exact leaf _ H40 (lr_p8)
                                      · have H41 := Csl.cons h35 H38
                                        have h37 : ZH (Yv l) [9, 67, 70, 73] = 1 := q9 h35
                                        have H42 := Csl.cons h37 H41
                                        exact leaf _ H42 (lr_p9)
                                    · exact absurd h34 (q8 h12)
                                    · have H43 := Csl.cons h34 H37
                                      rcases Zas (Yv l) (t := 9) (is := [58, 61, 64]) (by decide) with h38 | h38
                                      · have H44 := Csl.cons h38 H43
                                        have h39 : ZH (Yv l) [9, 67, 70, 73] = 0 := q9 h38
                                        have H45 := Csl.cons h39 H44
                                        exact leaf _ H45 (lr_p10)
                                      · have H46 := Csl.cons h38 H43
                                        have h40 : ZH (Yv l) [9, 67, 70, 73] = 1 := q9 h38
                                        have H47 := Csl.cons h40 H46
                                        exact leaf _ H47 (lr_p11)
                                  · have H48 := Csl.cons h24 H23
                                    rcases Zaa (Yv l) (t := 10) (is := [12, 13, 14, 15, 34, 35, 36, 37]) (by decide) with h41 | h41 | h41
                                    · have H49 := Csl.cons h41 H48
                                      rcases Zas (Yv l) (t := 9) (is := [58, 61, 64]) (by decide) with h42 | h42
                                      · have H50 := Csl.cons h42 H49
                                        have h43 : ZH (Yv l) [9, 67, 70, 73] = 0 := q9 h42
                                        have H51 := Csl.cons h43 H50
                                        exact leaf _ H51 (lr_p4)
                                      · have H52 := Csl.cons h42 H49
                                        have h44 : ZH (Yv l) [9, 67, 70, 73] = 1 := q9 h42
                                        have H53 := Csl.cons h44 H52
                                        exact leaf _ H53 (lr_p5)
                                    · exact absurd h41 (q8 h12)
                                    · have H54 := Csl.cons h41 H48
                                      rcases Zas (Yv l) (t := 9) (is := [58, 61, 64]) (by decide) with h45 | h45
                                      · have H55 := Csl.cons h45 H54
                                        have h46 : ZH (Yv l) [9, 67, 70, 73] = 0 := q9 h45
                                        have H56 := Csl.cons h46 H55
                                        exact leaf _ H56 (lr_p6)
                                      · have H57 := Csl.cons h45 H54
                                        have h47 : ZH (Yv l) [9, 67, 70, 73] = 1 := q9 h45
                                        have H58 := Csl.cons h47 H57
                                        exact leaf _ H58 (lr_p7)
                                · have H59 := Csl.cons h20 H19
                                  have h48 : ZH (Yv l) [10, 16, 17, 18, 19, 12, 13, 14, 15] = 0 := q1 h20
                                  have H60 := Csl.cons h48 H59
                                  have h49 : ZH (Yv l) [8, 24, 25, 26, 27, 28, 29, 30, 31] = 1 := q2 h20
                                  have H61 := Csl.cons h49 H60
                                  have h50 : ZH (Yv l) [9, 20, 21, 22] = 0 := p2 h14
                                  have H62 := Csl.cons h50 H61
                                  have h51 : ZH (Yv l) [9, 58, 61, 64] = 1 := qa h20
                                  have H63 := Csl.cons h51 H62
                                  have h52 : ZH (Yv l) [9, 67, 70, 73] = 1 := q9 h51
                                  have H64 := Csl.cons h52 H63
                                  rcases Zaa (Yv l) (t := 10) (is := [16, 17, 18, 19, 20, 21, 22, 23]) (by decide) with h53 | h53 | h53
                                  · have H65 := Csl.cons h53 H64
                                    have h54 : ZH (Yv l) [10, 12, 13, 14, 15, 20, 21, 22, 23] = -1 := q4 h20 h53 (by decide)
                                    have H66 := Csl.cons h54 H65
                                    rcases Zaa (Yv l) (t := 10) (is := [12, 13, 14, 15, 34, 35, 36, 37]) (by decide) with h55 | h55 | h55
                                    · have H67 := Csl.cons h55 H66
                                      exact leaf _ H67 (lr_p16)
                                    · exact absurd h55 (q8 h12)
                                    · have H68 := Csl.cons h55 H66
                                      exact leaf _ H68 (lr_p17)
                                  · have H69 := Csl.cons h53 H64
                                    have h56 : ZH (Yv l) [10, 12, 13, 14, 15, 20, 21, 22, 23] = 0 := q4 h20 h53 (by decide)
                                    have H70 := Csl.cons h56 H69
                                    rcases Zaa (Yv l) (t := 10) (is := [12, 13, 14, 15, 34, 35, 36, 37]) (by decide) with h57 | h57 | h57
                                    · have H71 := Csl.cons h57 H70
                                      exact leaf _ H71 (lr_p20)
                                    · exact absurd h57 (q8 h12)
                                    · have H72 := Csl.cons h57 H70
                                      exact leaf _ H72 (lr_p21)
                                  · have H73 := Csl.cons h53 H64
                                    rcases Zaa (Yv l) (t := 10) (is := [12, 13, 14, 15, 34, 35, 36, 37]) (by decide) with h58 | h58 | h58
                                    · have H74 := Csl.cons h58 H73
                                      exact leaf _ H74 (lr_p18)
                                    · exact absurd h58 (q8 h12)
                                    · have H75 := Csl.cons h58 H73
                                      exact leaf _ H75 (lr_p19)
                                · have H76 := Csl.cons h20 H19
                                  have h59 : ZH (Yv l) [10, 16, 17, 18, 19, 12, 13, 14, 15] = -1 := q1 h20
                                  have H77 := Csl.cons h59 H76
                                  have h60 : ZH (Yv l) [8, 24, 25, 26, 27, 28, 29, 30, 31] = 0 := q3 (by rw [h20]; decide)
                                  have H78 := Csl.cons h60 H77
                                  rcases Zaa (Yv l) (t := 10) (is := [12, 13, 14, 15, 34, 35, 36, 37]) (by decide) with h61 | h61 | h61
                                  · have H79 := Csl.cons h61 H78
                                    rcases Zas (Yv l) (t := 9) (is := [58, 61, 64]) (by decide) with h62 | h62
                                    · have H80 := Csl.cons h62 H79
                                      have h63 : ZH (Yv l) [9, 67, 70, 73] = 0 := q9 h62
                                      have H81 := Csl.cons h63 H80
                                      exact leaf _ H81 (lr_p12)
                                    · have H82 := Csl.cons h62 H79
                                      have h64 : ZH (Yv l) [9, 67, 70, 73] = 1 := q9 h62
                                      have H83 := Csl.cons h64 H82
                                      exact leaf _ H83 (lr_p13)
                                  · exact absurd h61 (q8 h12)
                                  · have H84 := Csl.cons h61 H78
                                    rcases Zas (Yv l) (t := 9) (is := [58, 61, 64]) (by decide) with h65 | h65
                                    · have H85 := Csl.cons h65 H84
                                      have h66 : ZH (Yv l) [9, 67, 70, 73] = 0 := q9 h65
                                      have H86 := Csl.cons h66 H85
                                      exact leaf _ H86 (lr_p14)
                                    · have H87 := Csl.cons h65 H84
                                      have h67 : ZH (Yv l) [9, 67, 70, 73] = 1 := q9 h65
                                      have H88 := Csl.cons h67 H87
                                      exact leaf _ H88 (lr_p15)
                              · have H89 := Csl.cons h14 H13
                                exact leaf _ H89 (lr_p22 nh14)
                            · have H90 := Csl.cons h13 H12
                              rcases QZ (Yv l) (t := 7) (is := [8, 9, 10, 11]) (by decide) with h68 | ⟨nh68, h68⟩
                              · have H91 := Csl.cons h68 H90
                                exact leaf _ H91 (lr_p23 nh13)
                              · have H92 := Csl.cons h68 H90
                                exact leaf _ H92 (lr_p24 nh13 nh68)
                          · have H93 := Csl.cons h12 H11
                            rcases QZ (Yv l) (t := 7) (is := [4, 5, 6, 7]) (by decide) with h69 | ⟨nh69, h69⟩
                            · have H94 := Csl.cons h69 H93
                              rcases QZ (Yv l) (t := 7) (is := [8, 9, 10, 11]) (by decide) with h70 | ⟨nh70, h70⟩
                              · have H95 := Csl.cons h70 H94
                                exact leaf _ H95 (lr_p25 nh12)
                              · have H96 := Csl.cons h70 H94
                                exact leaf _ H96 (lr_p26 nh12 nh70)
                            · have H97 := Csl.cons h69 H93
                              rcases QZ (Yv l) (t := 7) (is := [8, 9, 10, 11]) (by decide) with h71 | ⟨nh71, h71⟩
                              · have H98 := Csl.cons h71 H97
                                exact leaf _ H98 (lr_p27 nh12 nh69)
                              · have H99 := Csl.cons h71 H97
                                exact leaf _ H99 (lr_p28 nh12 nh69 nh71)
                        · have H100 := Csl.cons h11 H10
                          exact leaf _ H100 (lr_p29)
                      · have H101 := Csl.cons h10 H9
                        exact leaf _ H101 (lr_p30)
                    · have H102 := Csl.cons h9 H8
                      exact leaf _ H102 (lr_p31)
                  · have H103 := Csl.cons h8 H7
                    exact leaf _ H103 (lr_p32)
                · have H104 := Csl.cons h7 H6
                  exact leaf _ H104 (lr_p33)
              · have H105 := Csl.cons h6 H5
                exact leaf _ H105 (lr_p34)
            · have H106 := Csl.cons h5 H4
              exact leaf _ H106 (lr_p35)
          · have H107 := Csl.cons h4 H3
            exact leaf _ H107 (lr_p36)
        · have H108 := Csl.cons h3 H2
          exact leaf _ H108 (lr_p37)
      · have H109 := Csl.cons h2 H1
        exact leaf _ H109 (lr_p38)
    · have H110 := Csl.cons h1 H0
      exact leaf _ H110 (lr_p39)
  · have H111 := Csl.cons h0 (show Csl (Yv l) [] from .nil)
    exact leaf _ H111 (lr_p40)
theorem claw05_PlaneRow {S : Sh} {w : World} (hS : Yb S w) {x0 x1 x2 x3 x4 x5 x6 x7 x8 x9 x10 x11 : ByteArray} :
    Calls Tryz.prog 4 [(.agg ([(.string x0), (.string x1), (.string x2), (.string x3)] : List Value).toArray), (.agg ([(.string x4), (.string x5), (.string x6), (.string x7)] : List Value).toArray), (.agg ([(.string x8), (.string x9), (.string x10), (.string x11)] : List Value).toArray)].toArray w (Ret S w (fun S v => v = .bool true)) := lr_law hS [x0, x1, x2, x3, x4, x5, x6, x7, x8, x9, x10, x11]
end
end Go.Cham
namespace Go.Cham
open Go Go.RowKit Go.ChangeShapes Go.WideShapes Go.ChangeAt Go.Joins Go.Deep
section
variable {H : Type} {enc : TypeId × Value → H} {P : Program}
theorem open_strs4 {W : World} {base b0 : Nat} {r : Reach} {spare : Nat → Bool} {held : Bool} {t ts : TypeId} {f0 f1 f2 f3 : Field} {v : Value} {d : DataW H} {p : List MemPlace} (hs : P.underlying t = some (.struct #[f0, f1, f2, f3])) (hone : oneCellFields P #[f0, f1, f2, f3] = true) (hC : P.cellsOf t = 4)
    (hts : P.underlying ts = some .string) (h0 : f0.type = ts) (h1 : f1.type = ts) (h2 : f2.type = ts) (h3 : f3.type = ts) (hv : Value.okWide P W r b0 t v) (h : DataW.Trod enc P W base spare held t v d p) :
    ∃ s0 s1 s2 s3 : ByteArray, v = .agg ([(.string s0), (.string s1), (.string s2), (.string s3)] : List Value).toArray ∧ p = [] ∧ ∀ (W' : World) (base' : Nat) (sp : Nat → Bool) (hd : Bool), DataW.Trod enc P W' base' sp hd t v d [] := by
  obtain ⟨v0, v1, v2, v3, y0, y1, y2, y3, n, rfl, rfl, rfl, t0, t1, t2, t3⟩ := open_agg4 hs hone hC hv h
  obtain ⟨s0, e0, rfl, z0⟩ := DataW.trod_string (by rw [h0]; exact hts) t0
  obtain ⟨s1, e1, rfl, z1⟩ := DataW.trod_string (by rw [h1]; exact hts) t1
  obtain ⟨s2, e2, rfl, z2⟩ := DataW.trod_string (by rw [h2]; exact hts) t2
  obtain ⟨s3, e3, rfl, z3⟩ := DataW.trod_string (by rw [h3]; exact hts) t3
  cases e0; cases e1; cases e2; cases e3
  exact ⟨s0, s1, s2, s3, rfl, rfl, fun W' base' sp hd => shut_agg4 (y0 := (_, [])) (y1 := (_, [])) (y2 := (_, [])) (y3 := (_, [])) hs hone hC ⟨1, by simp [DataW.trod, h0, hts, z0]⟩ ⟨1, by simp [DataW.trod, h1, hts, z1]⟩ ⟨1, by simp [DataW.trod, h2, hts, z2]⟩ ⟨1, by simp [DataW.trod, h3, hts, z3]⟩⟩
theorem post_kept {f : Func} {s : ChangeSpec} {apart fresh handsOn : Bool} {W W' : World} {args : Array Value} {v : Value} {ds gs : List (DataW H)} (hW : DataW.Whole enc P f.params.toList s.vars apart W args.toList ds gs [])
    (hres : ∀ (b : Nat) (sp : Nat → Bool) (hd : Bool), DataW.TrodAll enc P W' b sp hd f.resultTypes.toList (v.resultList f.resultTypes.size) (s.fn H (ds ++ gs)).results [])
    (hargs : ∀ sp : Nat → Bool, DataW.TrodAll enc P W' 0 sp true f.params.toList args.toList (s.fn H (ds ++ gs)).args [])
    (hvars : ∀ sp : Nat → Bool, DataW.TrodVars enc P W' sp s.vars (s.fn H (ds ++ gs)).vars []) (hb : Below W.heap.size W W') :
    s.post enc P f apart fresh handsOn false W args v W' :=
  ⟨ds, gs, [], [], [], [], hW, hres _ _ _, hargs _, hvars _, Below.frame hb _, fun e => by cases e⟩
end
end Go.Cham
