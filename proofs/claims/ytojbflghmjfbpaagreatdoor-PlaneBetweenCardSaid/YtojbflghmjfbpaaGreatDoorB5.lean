/- YtojbflghmjfbpaaGreatDoorB5, a part of the proof that the claim's law answers true for every input, made small by program from the texts of this repo's wip/. No condition beyond those that the statements bear. -/
import Derived.Test.YtojbflghmjfbpaaGreatDoorB4
import Derived.Test.YtojbflghmjfbpaaGreatDoorRows
import Derived.ProofKit
import Derived.LaidMore
import Derived.OpenShut
import Derived.Lay
import Derived.Lib.SmallJoins
import Derived.Stop.Joined
namespace Go.Cham
open Go Go.RowKit Go.Proofs
noncomputable section
def fracV (q : Rat) : SV Nat := .agg [.bool (decide (q.num < 0)), .at_ q.num.natAbs, .at_ (q.den - 1)]
theorem fracV_den {S : Sh} {cs : List Value} {q : Rat} {k : Nat} {blk : Nat → Option (Nat × Nat)} (h : Fs S cs [q] k) : Den DN ⟨S, blk⟩ (fracV q) (.agg cs.toArray) := by
  obtain ⟨c0, c1, c2, c3, c4, rfl, h1, h2, _⟩ := h.one
  obtain ⟨us, e, h3⟩ := h1.abs
  have h0 := h1.sign
  simp at h0 e
  subst h0 e
  refine .agg (.one (.bool _) rfl (fun _ => by simp) ?_)
  have := YL.run (D := DN) (G := ⟨S, blk⟩) (a := q.num.natAbs) (us := [c1, c2]) ⟨k, h3⟩ (YL.run (a := q.den - 1) (us := [c3, c4]) ⟨k, h2⟩ .nil)
  simpa using this
def pParse : PrF Nat := fun l => match l with
  | [.str s] => match byteL s with
    | true => match Nat.ble (lenL s) 1000000 with
      | true => some (.tup [fracV (Xp s), .int .i64 (YM s)])
      | false => none
    | false => none
  | _ => none
set_option maxRecDepth 100000 in
theorem pParse_ok : Xl Tryz.prog DN 32 pParse := by
  intro args r hr G w vs hd hS
  unfold pParse at hr
  split at hr
  · rename_i s
    split at hr
    · rename_i hb
      split at hr
      · rename_i hle
        cases hr
        have hle' := Nat.le_of_ble_eq_true hle
        rw [Zao] at hle'
        have hbl := Qh (Zej hb)
        cases hd with
        | cons h1 h2 =>
          cases h2
          cases h1
          refine .ret (by kernel_rfl) (frac_Parse hS (s := YS s) (by rw [ofBl_size]; omega)) fun S' v hv => ?_
          rw [hbl] at hv
          obtain ⟨c0, e, hv⟩ := hv
          rw [e]
          exact .tup (.cons (fracV_den hv) (.cons (.int _ _) .nil))
      · cases hr
    · cases hr
  · cases hr
def isTrue (o : Option (CR Nat)) : Bool := match o with
  | some c => match c.r with
    | .bool b => b
    | _ => false
  | none => false
theorem known {P : Program} {f : FuncId} (hmo : P.follows .mixedOrders = true) {l : List (Nat × PrF Nat)} (hl : ∀ p ∈ l, Xl P DN p.1 p.2) {k : Nat} (he : ZV P f = true)
    (h : isTrue (callB P DN (primOf (mkTab l)) (runN P DN (primOf (mkTab l)) k) 0 f [] .nil 0) = true) {S : Sh} {w : World} (hS : ZZ S w) : Calls P f [].toArray w (Ret S w fun _ v => v = .bool true) := by
  unfold isTrue at h
  split at h
  · rename_i c hc
    split at h
    · rename_i b hb
      subst h
      refine Calls.mono (Zad.toRet he (ev_call hmo (primOf_ok hl) hc hS .nil)) fun e w' ⟨v, S', h1, h2, blk', h3⟩ => ⟨v, S', h1, h2, ?_⟩
      rw [hb] at h3
      cases h3; rfl
    · cases h
  · cases h
def tabPlane : List (Nat × PrF Nat) := (32, pParse) :: tabNat
theorem tabPlane_ok : ∀ p ∈ tabPlane, Xl Tryz.prog DN p.1 p.2 := by
  intro p hp
  rcases List.mem_cons.1 hp with rfl | hp
  · exact pParse_ok
  · exact tabNat_ok p hp
end
end Go.Cham
namespace Go.Cham
open Go Go.RowKit Go.Proofs
noncomputable section
set_option maxRecDepth 100000 in
theorem works_run : isTrue (callB Tryz.prog DN (primOf (mkTab tabPlane)) (runN Tryz.prog DN (primOf (mkTab tabPlane)) 4000) 0 11 [] .nil 0) = true := by kernel_rfl
theorem works_s {S : Sh} {w : World} (hS : ZZ S w) : Calls Tryz.prog 11 [].toArray w (Ret S w fun _ v => v = .bool true) := known mixed tabPlane_ok (by kernel_rfl) works_run hS
end
end Go.Cham
namespace Go.Cham
open Go Go.RowKit Go.Proofs
noncomputable section
def pWorks : PrF Ato := fun l => match l with
  | [] => some (.bool true)
  | _ => none
def valsB (T : Tb) (need : Nat) (x : Int) (is : List Nat) : List Nat → Option (List Nat)
  | [] => some []
  | o :: os => match findV T (keyE x (o :: is)) with
    | some (k, r) => match Nat.ble need r.d with
      | true => match valsB T need x is os with
        | some ks => some (k :: ks)
        | none => none
      | false => none
    | none => none
def pTexts (T : Tb) (t need : Nat) (ops : List Nat) (n : Nat) : PrF Ato := fun l => match l with
  | [.agg ts] => match asTs ts with
    | some is => match Nat.beq is.length n with
      | true => match is.all (shortB T) with
        | true => match condGo (t :: is) T.conds with
          | some x => match valsB T need x is ops with
            | some ks => some (.tup [.agg (cQs ks), .int .i64 x])
            | none => none
          | none => none
        | false => none
      | false => none
    | none => none
  | _ => none
def pCmpP (T : Tb) : PrF Ato := fun l => match l with
  | [.agg x, .agg y] => match asQs T 4 x with
    | some is => match asQs T 4 y with
      | some js => match is, js with
        | [a, b, c, d], [e, f, g, h] => match limB T 100000000000 [a, b, c, d, e, f, g, h] with
          | true => match Nat.ble (Nat.add (Nat.mul (mxC T [a, b, c, d, e, f, g, h]) T.km) (mxD T [a, b, c, d, e, f, g, h])) 100000000000 with
            | true => match yesNo T [9, a, b, c] with
              | some u => match yesNo T [9, e, f, g] with
                | some v => match u || v with
                  | false => match condGo [10, a, b, c, d, e, f, g, h] T.conds with
                    | some z => some (.int .i64 z)
                    | none => none
                  | true => none
                | none => none
              | none => none
            | false => none
          | false => none
        | _, _ => none
      | none => none
    | none => none
  | _ => none
section
variable {T : Tb} {K : Nat} {base ρ : Nat → AV} {bd : Nat → Nat} {G : Gh} {T0 : Tb} {hT : Cs T0 ρ}
set_option maxRecDepth 100000 in
theorem pWorks_ok : Xl Tryz.prog (DS hT bd) 11 pWorks := by
  intro args r hr G w vs hd hS
  unfold pWorks at hr
  split at hr
  · cases hr
    cases hd
    refine .ret (by kernel_rfl) (works_s hS) fun S' v hv => ?_
    rw [hv]; exact .bool _
  · cases hr
theorem valsB_ok (hg : Yz T K base ρ bd) {need : Nat} {x : Int} {is : List Nat} : ∀ {ops ks : List Nat} {qs : List Rat}, valsB T need x is ops = some ks → ops.length = qs.length →
    (x = 0 → ∀ i (h : i < ops.length) (h' : i < qs.length), 10 < ops[i] ∧ semL ops[i] (is.map ρ) = .q qs[i]) → (x ≠ 0 → ∀ q ∈ qs, q = 0) → 0 ≤ x → Qs ρ bd need ks qs
  | [], ks, [], h, _, _, _, _ => by
    simp only [valsB, Option.some.injEq] at h; subst h; trivial
  | [], _, _ :: _, _, hl, _, _, _ => by cases hl
  | _ :: _, _, [], _, hl, _, _, _ => by cases hl
  | o :: os, ks, q :: qs, h, hl, h1, h2, hx => by
    unfold valsB at h
    split at h
    · rename_i k r hf
      split at h
      · rename_i hb
        split at h
        · rename_i ks' hks
          cases h
          have hb' := Nat.le_of_ble_eq_true hb
          obtain ⟨f1, f2⟩ := XQ hf
          obtain ⟨f3, f4⟩ := hg.row _ _ f1
          refine ⟨?_, by rw [f4]; omega, valsB_ok hg hks (by simpa using hl) (fun e i hi hi' => by
            have := h1 e (i + 1) (by simp; omega) (by simp; omega)
            simpa using this) (fun e q hq => h2 e q (by simp [hq])) hx⟩
          rw [f3, f2]
          unfold keyE
          split
          · split
            · have := h1 rfl 0 (by simp) (by simp)
              simp only [List.getElem_cons_zero] at this
              rw [semK_op this.1]
              exact this.2
            · have := h2 (by simp; omega) q (by simp)
              rw [this]; rfl
          · omega
        · cases h
      · cases h
    · cases h
theorem TsE.vals : ∀ {is : List Nat} {ss : List ByteArray}, TsE ρ is ss → is.map ρ = ss.map AV.s
  | [], [], _ => rfl
  | i :: is, s :: ss, h => by rw [List.map_cons, List.map_cons, h.1, TsE.vals h.2]
  | [], _ :: _, h => h.elim
  | _ :: _, [], h => h.elim
theorem TsE.short (hg : Yz T K base ρ bd) : ∀ {is : List Nat} {ss : List ByteArray}, TsE ρ is ss → is.all (shortB T) = true → ∀ s ∈ ss, s.size ≤ 1024
  | [], [], _, _, s, hs => by cases hs
  | i :: is, u :: ss, h, ha, s, hs => by
    simp only [List.all_cons, Bool.and_eq_true] at ha
    rcases List.mem_cons.1 hs with rfl | hs
    · have := shortB_ok hg ha.1
      rw [h.1] at this
      exact this
    · exact TsE.short hg h.2 ha.2 s hs
  | [], _ :: _, h, _, _, _ => h.elim
  | _ :: _, [], h, _, _, _ => h.elim
theorem TsE.len : ∀ {is : List Nat} {ss : List ByteArray}, TsE ρ is ss → is.length = ss.length
  | [], [], _ => rfl
  | i :: is, s :: ss, h => by rw [List.length_cons, List.length_cons, TsE.len h.2]
  | [], _ :: _, h => h.elim
  | _ :: _, [], h => h.elim
theorem pTexts_ok (hg : Yz T K base ρ bd) {f t need n : Nat} {ops : List Nat} (he : ZV Tryz.prog f = true)
    (h : ∀ {S : Sh} {w : World} {ss : List ByteArray}, ZZ S w → ss.length = n → (∀ s ∈ ss, s.size ≤ 1024) → ∃ (E : Int) (qs : List Rat), Calls Tryz.prog f [.agg (ss.map Value.string).toArray].toArray w (Ret S w (fun S v => ∃ c0 : List Value, v = .tuple [.agg c0.toArray, .int .i64 E].toArray ∧ Fs S c0 qs need)) ∧
      semT t (ss.map AV.s) = E ∧ ops.length = qs.length ∧ (E = 0 → ∀ i (h : i < ops.length) (h' : i < qs.length), 10 < ops[i] ∧ semL ops[i] (ss.map AV.s) = .q qs[i]) ∧ (E ≠ 0 → ∀ q ∈ qs, q = 0) ∧ 0 ≤ E) : Xl Tryz.prog (DS hT bd) f (pTexts T t need ops n) := by
  intro args r hr G w vs hd hS
  unfold pTexts at hr
  split at hr
  · rename_i ts
    split at hr
    · rename_i is his
      split at hr
      · rename_i hn
        rw [YA] at hn
        split at hr
        · rename_i hs
          split at hr
          · rename_i x hx
            split at hr
            · rename_i ks hks
              cases hr
              cases hd with
              | cons x1 x2 =>
                cases x2
                cases x1 with
                | agg x1 =>
                  obtain ⟨ss, rfl, hts⟩ := asTs_ok his x1
                  obtain ⟨E, qs, hC, hE, hl, h1, h2, h3⟩ := h (ss := ss) hS (by rw [← hts.len]; exact hn) (hts.short hg hs)
                  have hEx : E = x := by
                    have h9 := hg.cond _ (Za1 hx)
                    have h8 : ZK ρ (t :: is) = semT t (is.map ρ) := rfl
                    rw [hts.vals] at h8
                    rw [← hE, ← h8]
                    exact h9
                  subst hEx
                  have hQ := valsB_ok hg hks hl (by rw [hts.vals]; exact h1) h2 h3
                  refine .ret he hC fun S' v ⟨c0, ev, hF⟩ => ?_
                  rw [ev]
                  exact .tup (.cons (.agg (XT hQ hF)) (.cons (.int _ _) .nil))
            · cases hr
          · cases hr
        · cases hr
      · cases hr
    · cases hr
  · cases hr
set_option maxRecDepth 100000 in
theorem pPlaneParse_ok (hg : Yz T K base ρ bd) : Xl Tryz.prog (DS hT bd) 20 (pTexts T 7 351808 [50, 54, 58, 62] 4) := by
  refine pTexts_ok hg (by kernel_rfl) fun {S w ss} hS hl hz => ?_
  match ss, hl, hz with
  | [x0, x1, x2, x3], _, hz =>
    refine ⟨_, _, plane_Parse_s hS (hz x0 (by simp)) (hz x1 (by simp)) (hz x2 (by simp)) (hz x3 (by simp)), rfl, rfl, fun _ i hi hi' => ?_, fun e q hq => ?_, perr_nn _ _ _ _⟩
    · match i, hi with
      | 0, _ => exact ⟨by simp, rfl⟩
      | 1, _ => exact ⟨by simp, rfl⟩
      | 2, _ => exact ⟨by simp, rfl⟩
      | 3, _ => exact ⟨by simp, rfl⟩
    · simp only [List.mem_cons, List.not_mem_nil, or_false] at hq
      rcases hq with rfl | rfl | rfl | rfl
      · exact if_neg e
      · exact if_neg e
      · exact if_neg e
      · exact if_neg e
set_option maxRecDepth 100000 in
theorem pVecParse_ok (hg : Yz T K base ρ bd) : Xl Tryz.prog (DS hT bd) 13 (pTexts T 11 900 [66, 70, 74] 3) := by
  refine pTexts_ok hg (by kernel_rfl) fun {S w ss} hS hl hz => ?_
  match ss, hl, hz with
  | [x0, x1, x2], _, hz =>
    refine ⟨_, _, vec_Parse_s hS (hz x0 (by simp)) (hz x1 (by simp)) (hz x2 (by simp)), rfl, rfl, fun _ i hi hi' => ?_, fun e q hq => ?_, verr_nn _ _ _⟩
    · match i, hi with
      | 0, _ => exact ⟨by simp, rfl⟩
      | 1, _ => exact ⟨by simp, rfl⟩
      | 2, _ => exact ⟨by simp, rfl⟩
    · simp only [List.mem_cons, List.not_mem_nil, or_false] at hq
      rcases hq with rfl | rfl | rfl
      · exact if_neg e
      · exact if_neg e
      · exact if_neg e
set_option maxRecDepth 100000 in
theorem pCmpP_ok (hg : Yz T K base ρ bd) : Xl Tryz.prog (DS hT bd) 21 (pCmpP T) := by
  intro args r hr G w vs hd hS
  unfold pCmpP at hr
  split at hr
  · rename_i x y
    split at hr
    · rename_i is his
      split at hr
      · rename_i js hjs
        split at hr
        · rename_i a b c d e f g h
          split at hr
          · rename_i hl
            split at hr
            · rename_i hm
              have hm' := mx_lim hg.km hm
              have hmx := mx_ok hg hl
              split at hr
              · rename_i u hu
                split at hr
                · rename_i v hv
                  split at hr
                  · rename_i huv
                    simp only [Bool.or_eq_false_iff] at huv
                    obtain ⟨rfl, rfl⟩ := huv
                    split at hr
                    · rename_i z hz
                      cases hr
                      cases hd with
                      | cons x1 x2 =>
                        cases x2 with
                        | cons x3 x4 =>
                          cases x4
                          cases x1 with
                          | agg x1 =>
                            cases x3 with
                            | agg x3 =>
                              have h1 := Zdn hg his x1 (k := mxC T [a, b, c, d, e, f, g, h] * K + mxD T [a, b, c, d, e, f, g, h]) (fun i hi => hmx i (by simp at hi ⊢; omega))
                              have h2 := Zdn hg hjs x3 (k := mxC T [a, b, c, d, e, f, g, h] * K + mxD T [a, b, c, d, e, f, g, h]) (fun i hi => hmx i (by simp at hi ⊢; omega))
                              refine .ret (by kernel_rfl) (plane_Cmp_s hS h1 h2 hm' (of_decide_eq_false (zero_yes hg hu)) (of_decide_eq_false (zero_yes hg hv))) fun S' v hv => ?_
                              have hc : lex4 (QS (ρ a).rat (ρ e).rat) (QS (ρ b).rat (ρ f).rat) (QS (ρ c).rat (ρ g).rat) (QS (ρ d).rat (ρ h).rat) = z := hg.cond _ (Za1 hz)
                              rw [hv, hc]
                              exact .int _ _
                    · cases hr
                  · cases hr
                · cases hr
              · cases hr
            · cases hr
          · cases hr
        · cases hr
      · cases hr
    · cases hr
  · cases hr
end
def symTab5 (T : Tb) : List (Nat × PrF Ato) := (20, pTexts T 7 351808 [50, 54, 58, 62] 4) :: (13, pTexts T 11 900 [66, 70, 74] 3) :: (21, pCmpP T) :: (11, pWorks) :: symTab4 T
theorem symTab5_OK : TabOK symTab5 := by
  intro T K base ρ bd T0 hT hg p hp
  simp only [symTab5, List.mem_cons] at hp
  rcases hp with rfl | rfl | rfl | rfl | hp
  · exact pPlaneParse_ok hg
  · exact pVecParse_ok hg
  · exact pCmpP_ok hg
  · exact pWorks_ok
  · exact Zcc hg p hp
end
end Go.Cham
namespace Go.Cham
open Go Go.RowKit
theorem perr_zero {x y z u : List Nat} (h : Zdr x y z u = 0) : YM x = 0 ∧ YM y = 0 ∧ YM z = 0 ∧ YM u = 0 ∧ ¬ ((Xp x).num = 0 ∧ (Xp y).num = 0 ∧ (Xp z).num = 0) := by
  unfold Zdr at h
  split at h
  · rename_i h1; exact absurd h h1
  · split at h
    · rename_i h1; exact absurd h h1
    · split at h
      · rename_i h1; exact absurd h h1
      · split at h
        · rename_i h1; exact absurd h h1
        · split at h
          · cases h
          · rename_i a b c d e
            exact ⟨Classical.byContradiction a, Classical.byContradiction b, Classical.byContradiction c, Classical.byContradiction d, e⟩
theorem pv_nz0 {x y z u : List Nat} (h : Zdr x y z u = 0) : ¬ (pvA x y z u = 0 ∧ pvB x y z u = 0 ∧ pvC x y z u = 0) := by
  unfold pvA pvB pvC
  rw [if_pos h, if_pos h, if_pos h]
  exact pn_nz (nz3.1 (perr_zero h).2.2.2.2)
theorem pv_nz {x y z u : List Nat} (h : Zdr x y z u = 0) : ¬ ((pvA x y z u).num = 0 ∧ (pvB x y z u).num = 0 ∧ (pvC x y z u).num = 0) := nz3.2 (pv_nz0 h)
theorem sgnQ (q : Rat) : (Yt q.num = -1 ∧ q < 0) ∨ (Yt q.num = 0 ∧ q = 0) ∨ (Yt q.num = 1 ∧ 0 < q) := by
  rcases sgnZ_cases q.num with h | h | h
  · refine .inl ⟨h, ?_⟩
    have h1 : q.num < 0 := Qk.1 (by omega)
    have : ¬ 0 ≤ q := fun h2 => by
      have := Rat.num_nonneg.2 h2
      omega
    grind
  · exact .inr (.inl ⟨h, num0.1 (Yp.1 h)⟩)
  · refine .inr (.inr ⟨h, ?_⟩)
    have h1 : 0 < q.num := sgnZ_pos.1 (by omega)
    have h2 : 0 ≤ q := Rat.num_nonneg.1 (by omega)
    have h3 : q ≠ 0 := fun e => by rw [e] at h1; exact absurd h1 (by decide)
    grind
theorem half_two : (((1 : Int) : Rat) / ((2 : Int) : Rat)) + (((1 : Int) : Rat) / ((2 : Int) : Rat)) = 1 := by decide +kernel
theorem mid_id (a b c d p q r u v w : Rat) : ((((0 : Rat) + (a * ((((1 : Int) : Rat) / ((2 : Int) : Rat)) * (p + u)))) + (b * ((((1 : Int) : Rat) / ((2 : Int) : Rat)) * (q + v)))) + (c * ((((1 : Int) : Rat) / ((2 : Int) : Rat)) * (r + w))) - d) + ((((0 : Rat) + (a * ((((1 : Int) : Rat) / ((2 : Int) : Rat)) * (p + u)))) + (b * ((((1 : Int) : Rat) / ((2 : Int) : Rat)) * (q + v)))) + (c * ((((1 : Int) : Rat) / ((2 : Int) : Rat)) * (r + w))) - d)
    = ((((0 : Rat) + (a * p)) + (b * q)) + (c * r) - d) + ((((0 : Rat) + (a * u)) + (b * v)) + (c * w) - d) := by
  have h := half_two
  generalize (((1 : Int) : Rat) / ((2 : Int) : Rat)) = t at h
  have e : ∀ x y : Rat, x * (t * y) + x * (t * y) = x * y := fun x y => by
    have : x * (t * y) + x * (t * y) = x * ((t + t) * y) := by grind
    rw [this, h]; grind
  have e1 := e a (p + u); have e2 := e b (q + v); have e3 := e c (r + w)
  grind
theorem mid_cmp (a b c d p q r u v w : Rat) : QS (((((0 : Rat) + (a * ((((1 : Int) : Rat) / ((2 : Int) : Rat)) * (p + u)))) + (b * ((((1 : Int) : Rat) / ((2 : Int) : Rat)) * (q + v)))) + (c * ((((1 : Int) : Rat) / ((2 : Int) : Rat)) * (r + w))) - d) + ((((0 : Rat) + (a * ((((1 : Int) : Rat) / ((2 : Int) : Rat)) * (p + u)))) + (b * ((((1 : Int) : Rat) / ((2 : Int) : Rat)) * (q + v)))) + (c * ((((1 : Int) : Rat) / ((2 : Int) : Rat)) * (r + w))) - d))
    (((((0 : Rat) + (a * p)) + (b * q)) + (c * r) - d) + ((((0 : Rat) + (a * u)) + (b * v)) + (c * w) - d)) = 0 := by
  rw [mid_id]
  unfold QS
  rw [if_neg (by grind), if_neg (by grind)]
theorem sum_sgn {m s : Rat} (h : m + m = s) : Yt s.num = Yt m.num := by
  subst h
  rcases sgnQ m with ⟨h1, h2⟩ | ⟨h1, h2⟩ | ⟨h1, h2⟩ <;> rcases sgnQ (m + m) with ⟨g1, g2⟩ | ⟨g1, g2⟩ | ⟨g1, g2⟩ <;> first | (rw [h1, g1]; done) | (exfalso; grind)
theorem mid_sgn {m u v : Rat} {x y z : Int} (h : m + m = u + v) (hu : Yt u.num = x) (hv : Yt v.num = y) (hz : z = Yt (x + y)) (hxy : 0 ≤ x * y) : Yt m.num = z := by
  subst hu hv
  rcases sgnQ u with ⟨h1, h2⟩ | ⟨h1, h2⟩ | ⟨h1, h2⟩ <;> rcases sgnQ v with ⟨g1, g2⟩ | ⟨g1, g2⟩ | ⟨g1, g2⟩ <;> rw [h1, g1] at hz hxy <;> rcases sgnQ m with ⟨k1, k2⟩ | ⟨k1, k2⟩ | ⟨k1, k2⟩ <;>
    first | (rw [k1, hz]; decide) | (exfalso; grind) | (exfalso; revert hxy; decide)
end Go.Cham
namespace Go.Cham
open Go Go.RowKit Go.Proofs
noncomputable section
def lb_r : List Rw := [⟨[3, 0], 0, 0⟩, ⟨[3, 1], 0, 0⟩, ⟨[3, 2], 0, 0⟩, ⟨[3, 3], 0, 0⟩, ⟨[3, 4], 0, 0⟩, ⟨[3, 5], 0, 0⟩, ⟨[3, 6], 0, 0⟩, ⟨[3, 7], 0, 0⟩, ⟨[3, 8], 0, 0⟩, ⟨[3, 9], 0, 0⟩, ⟨[50, 0, 1, 2, 3], 0, 351808⟩, ⟨[54, 0, 1, 2, 3], 0, 351808⟩, ⟨[58, 0, 1, 2, 3], 0, 351808⟩, ⟨[62, 0, 1, 2, 3], 0, 351808⟩, ⟨[66, 4, 5, 6], 0, 900⟩, ⟨[70, 4, 5, 6], 0, 900⟩, ⟨[74, 4, 5, 6], 0, 900⟩, ⟨[66, 7, 8, 9], 0, 900⟩, ⟨[70, 7, 8, 9], 0, 900⟩, ⟨[74, 7, 8, 9], 0, 900⟩, ⟨[9, 1, 0], 0, 64⟩, ⟨[9, 2, 0], 0, 64⟩, ⟨[42, 20, 21], 0, 128⟩, ⟨[22, 14, 17], 0, 1801⟩, ⟨[22, 15, 18], 0, 1801⟩, ⟨[22, 16, 19], 0, 1801⟩, ⟨[30, 22, 23], 0, 1929⟩, ⟨[30, 22, 24], 0, 1929⟩, ⟨[30, 22, 25], 0, 1929⟩, ⟨[30, 10, 14], 0, 352708⟩, ⟨[6], 0, 351808⟩, ⟨[22, 30, 29], 0, 704517⟩, ⟨[30, 11, 15], 0, 352708⟩, ⟨[22, 31, 32], 0, 1057226⟩, ⟨[30, 12, 16], 0, 352708⟩, ⟨[22, 33, 34], 0, 1409935⟩, ⟨[26, 35, 13], 0, 1761744⟩, ⟨[30, 10, 17], 0, 352708⟩, ⟨[22, 30, 37], 0, 704517⟩, ⟨[30, 11, 18], 0, 352708⟩, ⟨[22, 38, 39], 0, 1057226⟩, ⟨[30, 12, 19], 0, 352708⟩, ⟨[22, 40, 41], 0, 1409935⟩, ⟨[26, 42, 13], 0, 1761744⟩, ⟨[30, 10, 26], 0, 353737⟩, ⟨[22, 30, 44], 0, 705546⟩, ⟨[30, 11, 27], 0, 353737⟩, ⟨[22, 45, 46], 0, 1059284⟩, ⟨[30, 12, 28], 0, 353737⟩, ⟨[22, 47, 48], 0, 1413022⟩, ⟨[26, 49, 13], 0, 1764831⟩, ⟨[22, 36, 43], 0, 3523489⟩, ⟨[22, 50, 50], 0, 3529663⟩]
def lb_T (cs : List (List Nat × Int)) : Tb := ⟨lb_r, cs, 100000000000⟩
def Zds (cs : List (List Nat × Int)) (r : SV Ato) : Prop := RunT symTab5 (lb_T cs) 8 [.agg (cTs [0, 1, 2, 3]), .agg (cTs [4, 5, 6]), .agg (cTs [7, 8, 9])] r 600
def Xq (l : List ByteArray) : Nat → AV := rho (lb_T []) (Zb6 l)
def lb_k0 : List (List Nat × Int) := ([12, 0], 0) :: []
def lb_k1 : List (List Nat × Int) := ([12, 1], 0) :: lb_k0
def lb_k2 : List (List Nat × Int) := ([12, 2], 0) :: lb_k1
def lb_k3 : List (List Nat × Int) := ([12, 3], 0) :: lb_k2
def lb_k4 : List (List Nat × Int) := ([12, 4], 0) :: lb_k3
def lb_k5 : List (List Nat × Int) := ([12, 5], 0) :: lb_k4
def lb_k6 : List (List Nat × Int) := ([12, 6], 0) :: lb_k5
def lb_k7 : List (List Nat × Int) := ([12, 7], 0) :: lb_k6
def lb_k8 : List (List Nat × Int) := ([12, 8], 0) :: lb_k7
def lb_k9 : List (List Nat × Int) := ([12, 9], 0) :: lb_k8
def lb_k10 : List (List Nat × Int) := ([7, 0, 1, 2, 3], 0) :: lb_k9
def lb_k11 : List (List Nat × Int) := ([11, 4, 5, 6], 0) :: lb_k10
def lb_k12 : List (List Nat × Int) := ([11, 7, 8, 9], 0) :: lb_k11
def lb_k13 : List (List Nat × Int) := ([3, 21], 1) :: lb_k12
def lb_k14 : List (List Nat × Int) := ([9, 10, 11, 12], 0) :: lb_k13
def lb_k15 : List (List Nat × Int) := ([1, 36], (-1)) :: lb_k14
def lb_k16 : List (List Nat × Int) := ([1, 43], (-1)) :: lb_k15
def lb_k17 : List (List Nat × Int) := ([1, 50], (-1)) :: lb_k16
def lb_k18 : List (List Nat × Int) := ([2, 52, 51], 0) :: lb_k17
def lb_k19 : List (List Nat × Int) := ([1, 51], (-1)) :: lb_k18
set_option maxRecDepth 100000 in
theorem lb_p0 : Zds lb_k19 (.bool true) := fun _ _ _ => by kernel_rfl
def lb_k20 : List (List Nat × Int) := ([1, 43], 0) :: lb_k15
def lb_k21 : List (List Nat × Int) := ([1, 50], (-1)) :: lb_k20
def lb_k22 : List (List Nat × Int) := ([2, 52, 51], 0) :: lb_k21
def lb_k23 : List (List Nat × Int) := ([1, 51], (-1)) :: lb_k22
set_option maxRecDepth 100000 in
theorem lb_p4 : Zds lb_k23 (.bool true) := fun _ _ _ => by kernel_rfl
def lb_k24 : List (List Nat × Int) := ([1, 43], 1) :: lb_k15
def lb_k25 : List (List Nat × Int) := ([1, 50], (-1)) :: lb_k24
def lb_k26 : List (List Nat × Int) := ([2, 52, 51], 0) :: lb_k25
def lb_k27 : List (List Nat × Int) := ([1, 51], (-1)) :: lb_k26
set_option maxRecDepth 100000 in
theorem lb_p1 : Zds lb_k27 (.bool true) := fun _ _ _ => by kernel_rfl
def lb_k28 : List (List Nat × Int) := ([1, 50], 0) :: lb_k24
def lb_k29 : List (List Nat × Int) := ([2, 52, 51], 0) :: lb_k28
def lb_k30 : List (List Nat × Int) := ([1, 51], 0) :: lb_k29
set_option maxRecDepth 100000 in
theorem lb_p3 : Zds lb_k30 (.bool true) := fun _ _ _ => by kernel_rfl
def lb_k31 : List (List Nat × Int) := ([1, 50], 1) :: lb_k24
def lb_k32 : List (List Nat × Int) := ([2, 52, 51], 0) :: lb_k31
def lb_k33 : List (List Nat × Int) := ([1, 51], 1) :: lb_k32
set_option maxRecDepth 100000 in
theorem lb_p2 : Zds lb_k33 (.bool true) := fun _ _ _ => by kernel_rfl
def lb_k34 : List (List Nat × Int) := ([1, 36], 0) :: lb_k14
def lb_k35 : List (List Nat × Int) := ([1, 43], (-1)) :: lb_k34
def lb_k36 : List (List Nat × Int) := ([1, 50], (-1)) :: lb_k35
def lb_k37 : List (List Nat × Int) := ([2, 52, 51], 0) :: lb_k36
def lb_k38 : List (List Nat × Int) := ([1, 51], (-1)) :: lb_k37
set_option maxRecDepth 100000 in
theorem lb_p10 : Zds lb_k38 (.bool true) := fun _ _ _ => by kernel_rfl
def lb_k39 : List (List Nat × Int) := ([1, 43], 0) :: lb_k34
def lb_k40 : List (List Nat × Int) := ([1, 50], 0) :: lb_k39
def lb_k41 : List (List Nat × Int) := ([2, 52, 51], 0) :: lb_k40
def lb_k42 : List (List Nat × Int) := ([1, 51], 0) :: lb_k41
set_option maxRecDepth 100000 in
theorem lb_p12 : Zds lb_k42 (.bool true) := fun _ _ _ => by kernel_rfl
def lb_k43 : List (List Nat × Int) := ([1, 43], 1) :: lb_k34
def lb_k44 : List (List Nat × Int) := ([1, 50], 1) :: lb_k43
def lb_k45 : List (List Nat × Int) := ([2, 52, 51], 0) :: lb_k44
def lb_k46 : List (List Nat × Int) := ([1, 51], 1) :: lb_k45
set_option maxRecDepth 100000 in
theorem lb_p11 : Zds lb_k46 (.bool true) := fun _ _ _ => by kernel_rfl
def lb_k47 : List (List Nat × Int) := ([1, 36], 1) :: lb_k14
def lb_k48 : List (List Nat × Int) := ([1, 43], (-1)) :: lb_k47
def lb_k49 : List (List Nat × Int) := ([1, 50], (-1)) :: lb_k48
def lb_k50 : List (List Nat × Int) := ([2, 52, 51], 0) :: lb_k49
def lb_k51 : List (List Nat × Int) := ([1, 51], (-1)) :: lb_k50
set_option maxRecDepth 100000 in
theorem lb_p5 : Zds lb_k51 (.bool true) := fun _ _ _ => by kernel_rfl
def lb_k52 : List (List Nat × Int) := ([1, 50], 0) :: lb_k48
def lb_k53 : List (List Nat × Int) := ([2, 52, 51], 0) :: lb_k52
def lb_k54 : List (List Nat × Int) := ([1, 51], 0) :: lb_k53
set_option maxRecDepth 100000 in
theorem lb_p7 : Zds lb_k54 (.bool true) := fun _ _ _ => by kernel_rfl
def lb_k55 : List (List Nat × Int) := ([1, 50], 1) :: lb_k48
def lb_k56 : List (List Nat × Int) := ([2, 52, 51], 0) :: lb_k55
def lb_k57 : List (List Nat × Int) := ([1, 51], 1) :: lb_k56
set_option maxRecDepth 100000 in
theorem lb_p6 : Zds lb_k57 (.bool true) := fun _ _ _ => by kernel_rfl
def lb_k58 : List (List Nat × Int) := ([1, 43], 0) :: lb_k47
def lb_k59 : List (List Nat × Int) := ([1, 50], 1) :: lb_k58
def lb_k60 : List (List Nat × Int) := ([2, 52, 51], 0) :: lb_k59
def lb_k61 : List (List Nat × Int) := ([1, 51], 1) :: lb_k60
set_option maxRecDepth 100000 in
theorem lb_p9 : Zds lb_k61 (.bool true) := fun _ _ _ => by kernel_rfl
def lb_k62 : List (List Nat × Int) := ([1, 43], 1) :: lb_k47
def lb_k63 : List (List Nat × Int) := ([1, 50], 1) :: lb_k62
def lb_k64 : List (List Nat × Int) := ([2, 52, 51], 0) :: lb_k63
def lb_k65 : List (List Nat × Int) := ([1, 51], 1) :: lb_k64
set_option maxRecDepth 100000 in
theorem lb_p8 : Zds lb_k65 (.bool true) := fun _ _ _ => by kernel_rfl
def lb_k66 (nh12 : Nat) : List (List Nat × Int) := ([11, 7, 8, 9], .ofNat (.succ nh12)) :: lb_k11
set_option maxRecDepth 100000 in
theorem lb_p13 (nh12 : Nat) : Zds (lb_k66 nh12) (.bool true) := fun _ _ _ => by kernel_rfl
def lb_k67 (nh11 : Nat) : List (List Nat × Int) := ([11, 4, 5, 6], .ofNat (.succ nh11)) :: lb_k10
def lb_k68 (nh11 : Nat) : List (List Nat × Int) := ([11, 7, 8, 9], 0) :: (lb_k67 nh11)
set_option maxRecDepth 100000 in
theorem lb_p14 (nh11 : Nat) : Zds (lb_k68 nh11) (.bool true) := fun _ _ _ => by kernel_rfl
def lb_k69 (nh11 : Nat) (nh54 : Nat) : List (List Nat × Int) := ([11, 7, 8, 9], .ofNat (.succ nh54)) :: (lb_k67 nh11)
set_option maxRecDepth 100000 in
theorem lb_p15 (nh11 : Nat) (nh54 : Nat) : Zds (lb_k69 nh11 nh54) (.bool true) := fun _ _ _ => by kernel_rfl
def lb_k70 (nh10 : Nat) : List (List Nat × Int) := ([7, 0, 1, 2, 3], .ofNat (.succ nh10)) :: lb_k9
def lb_k71 (nh10 : Nat) : List (List Nat × Int) := ([11, 4, 5, 6], 0) :: (lb_k70 nh10)
def lb_k72 (nh10 : Nat) : List (List Nat × Int) := ([11, 7, 8, 9], 0) :: (lb_k71 nh10)
set_option maxRecDepth 100000 in
theorem lb_p16 (nh10 : Nat) : Zds (lb_k72 nh10) (.bool true) := fun _ _ _ => by kernel_rfl
def lb_k73 (nh10 : Nat) (nh56 : Nat) : List (List Nat × Int) := ([11, 7, 8, 9], .ofNat (.succ nh56)) :: (lb_k71 nh10)
set_option maxRecDepth 100000 in
theorem lb_p17 (nh10 : Nat) (nh56 : Nat) : Zds (lb_k73 nh10 nh56) (.bool true) := fun _ _ _ => by kernel_rfl
def lb_k74 (nh10 : Nat) (nh55 : Nat) : List (List Nat × Int) := ([11, 4, 5, 6], .ofNat (.succ nh55)) :: (lb_k70 nh10)
def lb_k75 (nh10 : Nat) (nh55 : Nat) : List (List Nat × Int) := ([11, 7, 8, 9], 0) :: (lb_k74 nh10 nh55)
set_option maxRecDepth 100000 in
theorem lb_p18 (nh10 : Nat) (nh55 : Nat) : Zds (lb_k75 nh10 nh55) (.bool true) := fun _ _ _ => by kernel_rfl
def lb_k76 (nh10 : Nat) (nh55 : Nat) (nh57 : Nat) : List (List Nat × Int) := ([11, 7, 8, 9], .ofNat (.succ nh57)) :: (lb_k74 nh10 nh55)
set_option maxRecDepth 100000 in
theorem lb_p19 (nh10 : Nat) (nh55 : Nat) (nh57 : Nat) : Zds (lb_k76 nh10 nh55 nh57) (.bool true) := fun _ _ _ => by kernel_rfl
def lb_k77 : List (List Nat × Int) := ([12, 9], 1) :: lb_k8
set_option maxRecDepth 100000 in
theorem lb_p20 : Zds lb_k77 (.bool true) := fun _ _ _ => by kernel_rfl
def lb_k78 : List (List Nat × Int) := ([12, 8], 1) :: lb_k7
set_option maxRecDepth 100000 in
theorem lb_p21 : Zds lb_k78 (.bool true) := fun _ _ _ => by kernel_rfl
def lb_k79 : List (List Nat × Int) := ([12, 7], 1) :: lb_k6
set_option maxRecDepth 100000 in
theorem lb_p22 : Zds lb_k79 (.bool true) := fun _ _ _ => by kernel_rfl
def lb_k80 : List (List Nat × Int) := ([12, 6], 1) :: lb_k5
set_option maxRecDepth 100000 in
theorem lb_p23 : Zds lb_k80 (.bool true) := fun _ _ _ => by kernel_rfl
def lb_k81 : List (List Nat × Int) := ([12, 5], 1) :: lb_k4
set_option maxRecDepth 100000 in
theorem lb_p24 : Zds lb_k81 (.bool true) := fun _ _ _ => by kernel_rfl
def lb_k82 : List (List Nat × Int) := ([12, 4], 1) :: lb_k3
set_option maxRecDepth 100000 in
theorem lb_p25 : Zds lb_k82 (.bool true) := fun _ _ _ => by kernel_rfl
def lb_k83 : List (List Nat × Int) := ([12, 3], 1) :: lb_k2
set_option maxRecDepth 100000 in
theorem lb_p26 : Zds lb_k83 (.bool true) := fun _ _ _ => by kernel_rfl
def lb_k84 : List (List Nat × Int) := ([12, 2], 1) :: lb_k1
set_option maxRecDepth 100000 in
theorem lb_p27 : Zds lb_k84 (.bool true) := fun _ _ _ => by kernel_rfl
def lb_k85 : List (List Nat × Int) := ([12, 1], 1) :: lb_k0
set_option maxRecDepth 100000 in
theorem lb_p28 : Zds lb_k85 (.bool true) := fun _ _ _ => by kernel_rfl
def lb_k86 : List (List Nat × Int) := ([12, 0], 1) :: []
set_option maxRecDepth 100000 in
theorem lb_p29 : Zds lb_k86 (.bool true) := fun _ _ _ => by kernel_rfl
theorem lb_law {S : Sh} {w : World} (hS : ZZ S w) (l : List ByteArray) :
    Calls Tryz.prog 8 [(.agg ([(.string (tx l 0)), (.string (tx l 1)), (.string (tx l 2)), (.string (tx l 3))] : List Value).toArray), (.agg ([(.string (tx l 4)), (.string (tx l 5)), (.string (tx l 6))] : List Value).toArray), (.agg ([(.string (tx l 7)), (.string (tx l 8)), (.string (tx l 9))] : List Value).toArray)].toArray w (Ret S w (fun S v => v = .bool true)) := by
  have leaf := fun cs hc h => sym_ground (f := 8) (k := 600) (args := [.agg (cTs [0, 1, 2, 3]), .agg (cTs [4, 5, 6]), .agg (cTs [7, 8, 9])]) symTab5_OK (R := lb_r) (km := 100000000000) (K := 0) (base := Zb6 l) (vs := [(.agg ([(.string (tx l 0)), (.string (tx l 1)), (.string (tx l 2)), (.string (tx l 3))] : List Value).toArray), (.agg ([(.string (tx l 4)), (.string (tx l 5)), (.string (tx l 6))] : List Value).toArray), (.agg ([(.string (tx l 7)), (.string (tx l 8)), (.string (tx l 9))] : List Value).toArray)]) (by kernel_rfl) (Nat.zero_le _) (by kernel_rfl) hS (fun _ _ => (.cons (.agg (cTs_mk (is := [0, 1, 2, 3]) (ss := [tx l 0, tx l 1, tx l 2, tx l 3]) ⟨by kernel_rfl, by kernel_rfl, by kernel_rfl, by kernel_rfl, trivial⟩)) (.cons (.agg (cTs_mk (is := [4, 5, 6]) (ss := [tx l 4, tx l 5, tx l 6]) ⟨by kernel_rfl, by kernel_rfl, by kernel_rfl, trivial⟩)) (.cons (.agg (cTs_mk (is := [7, 8, 9]) (ss := [tx l 7, tx l 8, tx l 9]) ⟨by kernel_rfl, by kernel_rfl, by kernel_rfl, trivial⟩)) .nil)))) cs hc (r := .bool true) h (u := .bool true) rfl
  have p9 : ZK (Xq l) [7, 0, 1, 2, 3] = 0 → ZK (Xq l) [9, 10, 11, 12] = 0 := fun h => (by kernel_rfl : ZK (Xq l) [9, 10, 11, 12] = (if ((pvA (bl (tx l 0)) (bl (tx l 1)) (bl (tx l 2)) (bl (tx l 3)))).num = 0 ∧ ((pvB (bl (tx l 0)) (bl (tx l 1)) (bl (tx l 2)) (bl (tx l 3)))).num = 0 ∧ ((pvC (bl (tx l 0)) (bl (tx l 1)) (bl (tx l 2)) (bl (tx l 3)))).num = 0 then (1 : Int) else 0)).trans (if_neg (pv_nz ((by kernel_rfl : ZK (Xq l) [7, 0, 1, 2, 3] = Zdr (bl (tx l 0)) (bl (tx l 1)) (bl (tx l 2)) (bl (tx l 3))).symm.trans h)))
  have p2 : ZK (Xq l) [2, 52, 51] = 0 := (by kernel_rfl : ZK (Xq l) [2, 52, 51] = QS ((((((0 : Rat) + ((pvA (bl (tx l 0)) (bl (tx l 1)) (bl (tx l 2)) (bl (tx l 3))) * (((((1 : Int) : Int) : Rat) / (((2 : Int) : Int) : Rat)) * ((vvA (bl (tx l 4)) (bl (tx l 5)) (bl (tx l 6))) + (vvA (bl (tx l 7)) (bl (tx l 8)) (bl (tx l 9))))))) + ((pvB (bl (tx l 0)) (bl (tx l 1)) (bl (tx l 2)) (bl (tx l 3))) * (((((1 : Int) : Int) : Rat) / (((2 : Int) : Int) : Rat)) * ((vvB (bl (tx l 4)) (bl (tx l 5)) (bl (tx l 6))) + (vvB (bl (tx l 7)) (bl (tx l 8)) (bl (tx l 9))))))) + ((pvC (bl (tx l 0)) (bl (tx l 1)) (bl (tx l 2)) (bl (tx l 3))) * (((((1 : Int) : Int) : Rat) / (((2 : Int) : Int) : Rat)) * ((vvC (bl (tx l 4)) (bl (tx l 5)) (bl (tx l 6))) + (vvC (bl (tx l 7)) (bl (tx l 8)) (bl (tx l 9))))))) - (pvD (bl (tx l 0)) (bl (tx l 1)) (bl (tx l 2)) (bl (tx l 3)))) + (((((0 : Rat) + ((pvA (bl (tx l 0)) (bl (tx l 1)) (bl (tx l 2)) (bl (tx l 3))) * (((((1 : Int) : Int) : Rat) / (((2 : Int) : Int) : Rat)) * ((vvA (bl (tx l 4)) (bl (tx l 5)) (bl (tx l 6))) + (vvA (bl (tx l 7)) (bl (tx l 8)) (bl (tx l 9))))))) + ((pvB (bl (tx l 0)) (bl (tx l 1)) (bl (tx l 2)) (bl (tx l 3))) * (((((1 : Int) : Int) : Rat) / (((2 : Int) : Int) : Rat)) * ((vvB (bl (tx l 4)) (bl (tx l 5)) (bl (tx l 6))) + (vvB (bl (tx l 7)) (bl (tx l 8)) (bl (tx l 9))))))) + ((pvC (bl (tx l 0)) (bl (tx l 1)) (bl (tx l 2)) (bl (tx l 3))) * (((((1 : Int) : Int) : Rat) / (((2 : Int) : Int) : Rat)) * ((vvC (bl (tx l 4)) (bl (tx l 5)) (bl (tx l 6))) + (vvC (bl (tx l 7)) (bl (tx l 8)) (bl (tx l 9))))))) - (pvD (bl (tx l 0)) (bl (tx l 1)) (bl (tx l 2)) (bl (tx l 3))))) ((((((0 : Rat) + ((pvA (bl (tx l 0)) (bl (tx l 1)) (bl (tx l 2)) (bl (tx l 3))) * (vvA (bl (tx l 4)) (bl (tx l 5)) (bl (tx l 6))))) + ((pvB (bl (tx l 0)) (bl (tx l 1)) (bl (tx l 2)) (bl (tx l 3))) * (vvB (bl (tx l 4)) (bl (tx l 5)) (bl (tx l 6))))) + ((pvC (bl (tx l 0)) (bl (tx l 1)) (bl (tx l 2)) (bl (tx l 3))) * (vvC (bl (tx l 4)) (bl (tx l 5)) (bl (tx l 6))))) - (pvD (bl (tx l 0)) (bl (tx l 1)) (bl (tx l 2)) (bl (tx l 3)))) + (((((0 : Rat) + ((pvA (bl (tx l 0)) (bl (tx l 1)) (bl (tx l 2)) (bl (tx l 3))) * (vvA (bl (tx l 7)) (bl (tx l 8)) (bl (tx l 9))))) + ((pvB (bl (tx l 0)) (bl (tx l 1)) (bl (tx l 2)) (bl (tx l 3))) * (vvB (bl (tx l 7)) (bl (tx l 8)) (bl (tx l 9))))) + ((pvC (bl (tx l 0)) (bl (tx l 1)) (bl (tx l 2)) (bl (tx l 3))) * (vvC (bl (tx l 7)) (bl (tx l 8)) (bl (tx l 9))))) - (pvD (bl (tx l 0)) (bl (tx l 1)) (bl (tx l 2)) (bl (tx l 3)))))).trans (mid_cmp _ _ _ _ _ _ _ _ _ _)
  have pz : ∀ {x y z : Int}, ZK (Xq l) [1, 36] = x → ZK (Xq l) [1, 43] = y → z = Yt (x + y) → 0 ≤ x * y → ZK (Xq l) [1, 50] = z := fun hx hy hz hxy => (by kernel_rfl : ZK (Xq l) [1, 50] = Yt ((((((0 : Rat) + ((pvA (bl (tx l 0)) (bl (tx l 1)) (bl (tx l 2)) (bl (tx l 3))) * (((((1 : Int) : Int) : Rat) / (((2 : Int) : Int) : Rat)) * ((vvA (bl (tx l 4)) (bl (tx l 5)) (bl (tx l 6))) + (vvA (bl (tx l 7)) (bl (tx l 8)) (bl (tx l 9))))))) + ((pvB (bl (tx l 0)) (bl (tx l 1)) (bl (tx l 2)) (bl (tx l 3))) * (((((1 : Int) : Int) : Rat) / (((2 : Int) : Int) : Rat)) * ((vvB (bl (tx l 4)) (bl (tx l 5)) (bl (tx l 6))) + (vvB (bl (tx l 7)) (bl (tx l 8)) (bl (tx l 9))))))) + ((pvC (bl (tx l 0)) (bl (tx l 1)) (bl (tx l 2)) (bl (tx l 3))) * (((((1 : Int) : Int) : Rat) / (((2 : Int) : Int) : Rat)) * ((vvC (bl (tx l 4)) (bl (tx l 5)) (bl (tx l 6))) + (vvC (bl (tx l 7)) (bl (tx l 8)) (bl (tx l 9))))))) - (pvD (bl (tx l 0)) (bl (tx l 1)) (bl (tx l 2)) (bl (tx l 3))))).num).trans (mid_sgn (mid_id _ _ _ _ _ _ _ _ _ _) ((by kernel_rfl : ZK (Xq l) [1, 36] = Yt ((((((0 : Rat) + ((pvA (bl (tx l 0)) (bl (tx l 1)) (bl (tx l 2)) (bl (tx l 3))) * (vvA (bl (tx l 4)) (bl (tx l 5)) (bl (tx l 6))))) + ((pvB (bl (tx l 0)) (bl (tx l 1)) (bl (tx l 2)) (bl (tx l 3))) * (vvB (bl (tx l 4)) (bl (tx l 5)) (bl (tx l 6))))) + ((pvC (bl (tx l 0)) (bl (tx l 1)) (bl (tx l 2)) (bl (tx l 3))) * (vvC (bl (tx l 4)) (bl (tx l 5)) (bl (tx l 6))))) - (pvD (bl (tx l 0)) (bl (tx l 1)) (bl (tx l 2)) (bl (tx l 3))))).num).symm.trans hx) ((by kernel_rfl : ZK (Xq l) [1, 43] = Yt ((((((0 : Rat) + ((pvA (bl (tx l 0)) (bl (tx l 1)) (bl (tx l 2)) (bl (tx l 3))) * (vvA (bl (tx l 7)) (bl (tx l 8)) (bl (tx l 9))))) + ((pvB (bl (tx l 0)) (bl (tx l 1)) (bl (tx l 2)) (bl (tx l 3))) * (vvB (bl (tx l 7)) (bl (tx l 8)) (bl (tx l 9))))) + ((pvC (bl (tx l 0)) (bl (tx l 1)) (bl (tx l 2)) (bl (tx l 3))) * (vvC (bl (tx l 7)) (bl (tx l 8)) (bl (tx l 9))))) - (pvD (bl (tx l 0)) (bl (tx l 1)) (bl (tx l 2)) (bl (tx l 3))))).num).symm.trans hy) hz hxy)
  have ps : ∀ {z : Int}, ZK (Xq l) [1, 50] = z → ZK (Xq l) [1, 51] = z := fun h => (by kernel_rfl : ZK (Xq l) [1, 51] = Yt (((((((0 : Rat) + ((pvA (bl (tx l 0)) (bl (tx l 1)) (bl (tx l 2)) (bl (tx l 3))) * (vvA (bl (tx l 4)) (bl (tx l 5)) (bl (tx l 6))))) + ((pvB (bl (tx l 0)) (bl (tx l 1)) (bl (tx l 2)) (bl (tx l 3))) * (vvB (bl (tx l 4)) (bl (tx l 5)) (bl (tx l 6))))) + ((pvC (bl (tx l 0)) (bl (tx l 1)) (bl (tx l 2)) (bl (tx l 3))) * (vvC (bl (tx l 4)) (bl (tx l 5)) (bl (tx l 6))))) - (pvD (bl (tx l 0)) (bl (tx l 1)) (bl (tx l 2)) (bl (tx l 3)))) + (((((0 : Rat) + ((pvA (bl (tx l 0)) (bl (tx l 1)) (bl (tx l 2)) (bl (tx l 3))) * (vvA (bl (tx l 7)) (bl (tx l 8)) (bl (tx l 9))))) + ((pvB (bl (tx l 0)) (bl (tx l 1)) (bl (tx l 2)) (bl (tx l 3))) * (vvB (bl (tx l 7)) (bl (tx l 8)) (bl (tx l 9))))) + ((pvC (bl (tx l 0)) (bl (tx l 1)) (bl (tx l 2)) (bl (tx l 3))) * (vvC (bl (tx l 7)) (bl (tx l 8)) (bl (tx l 9))))) - (pvD (bl (tx l 0)) (bl (tx l 1)) (bl (tx l 2)) (bl (tx l 3)))))).num).trans ((sum_sgn (mid_id _ _ _ _ _ _ _ _ _ _)).trans ((by kernel_rfl : ZK (Xq l) [1, 50] = Yt ((((((0 : Rat) + ((pvA (bl (tx l 0)) (bl (tx l 1)) (bl (tx l 2)) (bl (tx l 3))) * (((((1 : Int) : Int) : Rat) / (((2 : Int) : Int) : Rat)) * ((vvA (bl (tx l 4)) (bl (tx l 5)) (bl (tx l 6))) + (vvA (bl (tx l 7)) (bl (tx l 8)) (bl (tx l 9))))))) + ((pvB (bl (tx l 0)) (bl (tx l 1)) (bl (tx l 2)) (bl (tx l 3))) * (((((1 : Int) : Int) : Rat) / (((2 : Int) : Int) : Rat)) * ((vvB (bl (tx l 4)) (bl (tx l 5)) (bl (tx l 6))) + (vvB (bl (tx l 7)) (bl (tx l 8)) (bl (tx l 9))))))) + ((pvC (bl (tx l 0)) (bl (tx l 1)) (bl (tx l 2)) (bl (tx l 3))) * (((((1 : Int) : Int) : Rat) / (((2 : Int) : Int) : Rat)) * ((vvC (bl (tx l 4)) (bl (tx l 5)) (bl (tx l 6))) + (vvC (bl (tx l 7)) (bl (tx l 8)) (bl (tx l 9))))))) - (pvD (bl (tx l 0)) (bl (tx l 1)) (bl (tx l 2)) (bl (tx l 3))))).num).symm.trans h))
  rcases ways2 (Xq l) (t := 12) (is := [0]) (by decide) with h0 | h0
  · skip
    have H0 := Csl.cons h0 (show Csl (Xq l) [] from .nil)
    rcases ways2 (Xq l) (t := 12) (is := [1]) (by decide) with h1 | h1
    · skip
      have H1 := Csl.cons h1 H0
      rcases ways2 (Xq l) (t := 12) (is := [2]) (by decide) with h2 | h2
      · skip
        have H2 := Csl.cons h2 H1
        rcases ways2 (Xq l) (t := 12) (is := [3]) (by decide) with h3 | h3
        · skip
          have H3 := Csl.cons h3 H2
          rcases ways2 (Xq l) (t := 12) (is := [4]) (by decide) with h4 | h4
          · skip
            have H4 := Csl.cons h4 H3
            rcases ways2 (Xq l) (t := 12) (is := [5]) (by decide) with h5 | h5
            · skip
              have H5 := Csl.cons h5 H4
              rcases ways2 (Xq l) (t := 12) (is := [6]) (by decide) with h6 | h6
              · skip
                have H6 := Csl.cons h6 H5
                rcases ways2 (Xq l) (t := 12) (is := [7]) (by decide) with h7 | h7
                · skip
                  have H7 := Csl.cons h7 H6
                  rcases ways2 (Xq l) (t := 12) (is := [8]) (by decide) with h8 | h8
                  · skip
                    have H8 := Csl.cons h8 H7
                    rcases ways2 (Xq l) (t := 12) (is := [9]) (by decide) with h9 | h9
                    · skip
                      have H9 := Csl.cons h9 H8
                      rcases QT (Xq l) (t := 7) (is := [0, 1, 2, 3]) (by decide) with h10 | ⟨nh10, h10⟩
                      · skip
                        have H10 := Csl.cons h10 H9
                        rcases QT (Xq l) (t := 11) (is := [4, 5, 6]) (by decide) with h11 | ⟨nh11, h11⟩
                        · skip
                          have H11 := Csl.cons h11 H10
                          rcases QT (Xq l) (t := 11) (is := [7, 8, 9]) (by decide) with h12 | ⟨nh12, h12⟩
                          · skip
                            have H12 := Csl.cons h12 H11
                            have h13 : ZK (Xq l) [3, 21] = 1 := by kernel_rfl
                            have H13 := Csl.cons h13 H12
                            have h14 : ZK (Xq l) [9, 10, 11, 12] = 0 := p9 h10
                            have H14 := Csl.cons h14 H13
                            rcases Za5 (Xq l) (t := 1) (is := [36]) (by decide) with h15 | h15 | h15
                            · skip
                              have H15 := Csl.cons h15 H14
                              rcases Za5 (Xq l) (t := 1) (is := [43]) (by decide) with h16 | h16 | h16
                              · skip
                                have H16 := Csl.cons h16 H15
                                have h17 : ZK (Xq l) [1, 50] = -1 := pz h15 h16 (by decide) (by decide)
                                have H17 := Csl.cons h17 H16
                                have h18 : ZK (Xq l) [2, 52, 51] = 0 := p2
                                have H18 := Csl.cons h18 H17
                                have h19 : ZK (Xq l) [1, 51] = -1 := ps h17
                                have H19 := Csl.cons h19 H18
                                exact leaf _ H19 (lb_p0)
                              · skip
                                have H20 := Csl.cons h16 H15
                                have h20 : ZK (Xq l) [1, 50] = -1 := pz h15 h16 (by decide) (by decide)
                                have H21 := Csl.cons h20 H20
                                have h21 : ZK (Xq l) [2, 52, 51] = 0 := p2
                                have H22 := Csl.cons h21 H21
                                have h22 : ZK (Xq l) [1, 51] = -1 := ps h20
                                have H23 := Csl.cons h22 H22
                                exact leaf _ H23 (lb_p4)
                              · skip
                                have H24 := Csl.cons h16 H15
                                rcases Za5 (Xq l) (t := 1) (is := [50]) (by decide) with h23 | h23 | h23
                                · skip
                                  have H25 := Csl.cons h23 H24
                                  have h24 : ZK (Xq l) [2, 52, 51] = 0 := p2
                                  have H26 := Csl.cons h24 H25
                                  have h25 : ZK (Xq l) [1, 51] = -1 := ps h23
                                  have H27 := Csl.cons h25 H26
                                  exact leaf _ H27 (lb_p1)
                                · skip
                                  have H28 := Csl.cons h23 H24
                                  have h26 : ZK (Xq l) [2, 52, 51] = 0 := p2
                                  have H29 := Csl.cons h26 H28
                                  have h27 : ZK (Xq l) [1, 51] = 0 := ps h23
                                  have H30 := Csl.cons h27 H29
                                  exact leaf _ H30 (lb_p3)
                                · skip
                                  have H31 := Csl.cons h23 H24
                                  have h28 : ZK (Xq l) [2, 52, 51] = 0 := p2
                                  have H32 := Csl.cons h28 H31
                                  have h29 : ZK (Xq l) [1, 51] = 1 := ps h23
                                  have H33 := Csl.cons h29 H32
                                  exact leaf _ H33 (lb_p2)
                            · skip
                              have H34 := Csl.cons h15 H14
                              rcases Za5 (Xq l) (t := 1) (is := [43]) (by decide) with h30 | h30 | h30
                              · skip
                                have H35 := Csl.cons h30 H34
                                have h31 : ZK (Xq l) [1, 50] = -1 := pz h15 h30 (by decide) (by decide)
                                have H36 := Csl.cons h31 H35
                                have h32 : ZK (Xq l) [2, 52, 51] = 0 := p2
                                have H37 := Csl.cons h32 H36
                                have h33 : ZK (Xq l) [1, 51] = -1 := ps h31
                                have H38 := Csl.cons h33 H37
                                exact leaf _ H38 (lb_p10)
                              · skip
                                have H39 := Csl.cons h30 H34
                                have h34 : ZK (Xq l) [1, 50] = 0 := pz h15 h30 (by decide) (by decide)
                                have H40 := Csl.cons h34 H39
                                have h35 : ZK (Xq l) [2, 52, 51] = 0 := p2
                                have H41 := Csl.cons h35 H40
                                have h36 : ZK (Xq l) [1, 51] = 0 := ps h34
                                have H42 := Csl.cons h36 H41
                                exact leaf _ H42 (lb_p12)
                              · skip
                                have H43 := Csl.cons h30 H34
                                have h37 : ZK (Xq l) [1, 50] = 1 := pz h15 h30 (by decide) (by decide)
                                have H44 := Csl.cons h37 H43
                                have h38 : ZK (Xq l) [2, 52, 51] = 0 := p2
                                have H45 := Csl.cons h38 H44
                                have h39 : ZK (Xq l) [1, 51] = 1 := ps h37
                                have H46 := Csl.cons h39 H45
                                exact leaf _ H46 (lb_p11)
                            · skip
                              have H47 := Csl.cons h15 H14
                              rcases Za5 (Xq l) (t := 1) (is := [43]) (by decide) with h40 | h40 | h40
                              · skip
                                have H48 := Csl.cons h40 H47
                                rcases Za5 (Xq l) (t := 1) (is := [50]) (by decide) with h41 | h41 | h41
                                · skip
                                  have H49 := Csl.cons h41 H48
                                  have h42 : ZK (Xq l) [2, 52, 51] = 0 := p2
                                  have H50 := Csl.cons h42 H49
                                  have h43 : ZK (Xq l) [1, 51] = -1 := ps h41
                                  have H51 := Csl.cons h43 H50
                                  exact leaf _ H51 (lb_p5)
                                · skip
                                  have H52 := Csl.cons h41 H48
                                  have h44 : ZK (Xq l) [2, 52, 51] = 0 := p2
                                  have H53 := Csl.cons h44 H52
                                  have h45 : ZK (Xq l) [1, 51] = 0 := ps h41
                                  have H54 := Csl.cons h45 H53
                                  exact leaf _ H54 (lb_p7)
                                · skip
                                  have H55 := Csl.cons h41 H48
                                  have h46 : ZK (Xq l) [2, 52, 51] = 0 := p2
                                  have H56 := Csl.cons h46 H55
                                  have h47 : ZK (Xq l) [1, 51] = 1 := ps h41
                                  have H57 := Csl.cons h47 H56
                                  exact leaf _ H57 (lb_p6)
                              · skip
                                have H58 := Csl.cons h40 H47
                                have h48 : ZK (Xq l) [1, 50] = 1 := pz h15 h40 (by decide) (by decide)
                                have H59 := Csl.cons h48 H58
                                have h49 : ZK (Xq l) [2, 52, 51] = 0 := p2
                                have H60 := Csl.cons h49 H59
                                have h50 : ZK (Xq l) [1, 51] = 1 := ps h48
                                have H61 := Csl.cons h50 H60
                                exact leaf _ H61 (lb_p9)
                              · skip
                                have H62 := Csl.cons h40 H47
                                have h51 : ZK (Xq l) [1, 50] = 1 := pz h15 h40 (by decide) (by decide)
                                have H63 := Csl.cons h51 H62
                                have h52 : ZK (Xq l) [2, 52, 51] = 0 := p2
                                have H64 := Csl.cons h52 H63
                                have h53 : ZK (Xq l) [1, 51] = 1 := ps h51
                                have H65 := Csl.cons h53 H64
                                exact leaf _ H65 (lb_p8)
                          · skip
                            have H66 := Csl.cons h12 H11
                            exact leaf _ H66 (lb_p13 nh12)
                        · skip
                          have H67 := Csl.cons h11 H10
                          rcases QT (Xq l) (t := 11) (is := [7, 8, 9]) (by decide) with h54 | ⟨nh54, h54⟩
                          · skip
                            have H68 := Csl.cons h54 H67
                            exact leaf _ H68 (lb_p14 nh11)
                          · skip
                            have H69 := Csl.cons h54 H67
                            exact leaf _ H69 (lb_p15 nh11 nh54)
                      · skip
                        have H70 := Csl.cons h10 H9
                        rcases QT (Xq l) (t := 11) (is := [4, 5, 6]) (by decide) with h55 | ⟨nh55, h55⟩
                        · skip
                          have H71 := Csl.cons h55 H70
                          rcases QT (Xq l) (t := 11) (is := [7, 8, 9]) (by decide) with h56 | ⟨nh56, h56⟩
                          · skip
                            have H72 := Csl.cons h56 H71
                            exact leaf _ H72 (lb_p16 nh10)
                          · skip
                            have H73 := Csl.cons h56 H71
                            exact leaf _ H73 (lb_p17 nh10 nh56)
                        · skip
                          have H74 := Csl.cons h55 H70
                          rcases QT (Xq l) (t := 11) (is := [7, 8, 9]) (by decide) with h57 | ⟨nh57, h57⟩
                          · skip
                            have H75 := Csl.cons h57 H74
                            exact leaf _ H75 (lb_p18 nh10 nh55)
                          · skip
                            have H76 := Csl.cons h57 H74
                            exact leaf _ H76 (lb_p19 nh10 nh55 nh57)
                    · skip
                      have H77 := Csl.cons h9 H8
                      exact leaf _ H77 (lb_p20)
                  · skip
                    have H78 := Csl.cons h8 H7
                    exact leaf _ H78 (lb_p21)
                · skip
                  have H79 := Csl.cons h7 H6
                  exact leaf _ H79 (lb_p22)
              · skip
                have H80 := Csl.cons h6 H5
                exact leaf _ H80 (lb_p23)
            · skip
              have H81 := Csl.cons h5 H4
              exact leaf _ H81 (lb_p24)
          · skip
            have H82 := Csl.cons h4 H3
            exact leaf _ H82 (lb_p25)
        · skip
          have H83 := Csl.cons h3 H2
          exact leaf _ H83 (lb_p26)
      · skip
        have H84 := Csl.cons h2 H1
        exact leaf _ H84 (lb_p27)
    · skip
      have H85 := Csl.cons h1 H0
      exact leaf _ H85 (lb_p28)
  · skip
    have H86 := Csl.cons h0 (show Csl (Xq l) [] from .nil)
    exact leaf _ H86 (lb_p29)
theorem Zdl {S : Sh} {w : World} (hS : ZZ S w) {x0 x1 x2 x3 x4 x5 x6 x7 x8 x9 : ByteArray} :
    Calls Tryz.prog 8 [(.agg ([(.string x0), (.string x1), (.string x2), (.string x3)] : List Value).toArray), (.agg ([(.string x4), (.string x5), (.string x6)] : List Value).toArray), (.agg ([(.string x7), (.string x8), (.string x9)] : List Value).toArray)].toArray w (Ret S w (fun S v => v = .bool true)) := lb_law hS [x0, x1, x2, x3, x4, x5, x6, x7, x8, x9]
end
end Go.Cham
namespace Go.Cham
open Go Go.RowKit Go.ChangeShapes Go.WideShapes Go.ChangeAt Go.Joins Go.Deep
section
variable {H : Type} {enc : TypeId × Value → H} {P : Program}
theorem open_strs4 {W : World} {base b0 : Nat} {r : Reach} {spare : Nat → Bool} {held : Bool} {t ts : TypeId} {f0 f1 f2 f3 : Field} {v : Value} {d : DataW H} {p : List MemPlace} (hs : P.underlying t = some (.struct #[f0, f1, f2, f3])) (hone : oneCellFields P #[f0, f1, f2, f3] = true) (hC : P.cellsOf t = 4)
    (hts : P.underlying ts = some .string) (h0 : f0.type = ts) (h1 : f1.type = ts) (h2 : f2.type = ts) (h3 : f3.type = ts) (hv : Value.okWide P W r b0 t v) (h : DataW.Trod enc P W base spare held t v d p) :
    ∃ s0 s1 s2 s3 : ByteArray, v = .agg ([(.string s0), (.string s1), (.string s2), (.string s3)] : List Value).toArray ∧ p = [] ∧ ∀ (W' : World) (base' : Nat) (sp : Nat → Bool) (hd : Bool), DataW.Trod enc P W' base' sp hd t v d [] := by
  obtain ⟨v0, v1, v2, v3, y0, y1, y2, y3, n, rfl, rfl, rfl, t0, t1, t2, t3⟩ := open_agg4 hs hone hC hv h
  obtain ⟨s0, e0, rfl, z0⟩ := DataW.trod_string (by rw [h0]; exact hts) t0
  obtain ⟨s1, e1, rfl, z1⟩ := DataW.trod_string (by rw [h1]; exact hts) t1
  obtain ⟨s2, e2, rfl, z2⟩ := DataW.trod_string (by rw [h2]; exact hts) t2
  obtain ⟨s3, e3, rfl, z3⟩ := DataW.trod_string (by rw [h3]; exact hts) t3
  cases e0; cases e1; cases e2; cases e3
  exact ⟨s0, s1, s2, s3, rfl, rfl, fun W' base' sp hd => shut_agg4 (y0 := (_, [])) (y1 := (_, [])) (y2 := (_, [])) (y3 := (_, [])) hs hone hC ⟨1, by simp [DataW.trod, h0, hts, z0]⟩ ⟨1, by simp [DataW.trod, h1, hts, z1]⟩ ⟨1, by simp [DataW.trod, h2, hts, z2]⟩ ⟨1, by simp [DataW.trod, h3, hts, z3]⟩⟩
theorem open_strs3 {W : World} {base b0 : Nat} {r : Reach} {spare : Nat → Bool} {held : Bool} {t ts : TypeId} {f0 f1 f2 : Field} {v : Value} {d : DataW H} {p : List MemPlace} (hs : P.underlying t = some (.struct #[f0, f1, f2])) (hone : oneCellFields P #[f0, f1, f2] = true) (hC : P.cellsOf t = 3)
    (hts : P.underlying ts = some .string) (h0 : f0.type = ts) (h1 : f1.type = ts) (h2 : f2.type = ts) (hv : Value.okWide P W r b0 t v) (h : DataW.Trod enc P W base spare held t v d p) :
    ∃ s0 s1 s2 : ByteArray, v = .agg ([(.string s0), (.string s1), (.string s2)] : List Value).toArray ∧ p = [] ∧ ∀ (W' : World) (base' : Nat) (sp : Nat → Bool) (hd : Bool), DataW.Trod enc P W' base' sp hd t v d [] := by
  obtain ⟨v0, v1, v2, y0, y1, y2, n, rfl, rfl, rfl, t0, t1, t2⟩ := open_agg3 hs hone hC hv h
  obtain ⟨s0, e0, rfl, z0⟩ := DataW.trod_string (by rw [h0]; exact hts) t0
  obtain ⟨s1, e1, rfl, z1⟩ := DataW.trod_string (by rw [h1]; exact hts) t1
  obtain ⟨s2, e2, rfl, z2⟩ := DataW.trod_string (by rw [h2]; exact hts) t2
  cases e0; cases e1; cases e2
  exact ⟨s0, s1, s2, rfl, rfl, fun W' base' sp hd => shut_agg3 (y0 := (_, [])) (y1 := (_, [])) (y2 := (_, [])) hs hone hC ⟨1, by simp [DataW.trod, h0, hts, z0]⟩ ⟨1, by simp [DataW.trod, h1, hts, z1]⟩ ⟨1, by simp [DataW.trod, h2, hts, z2]⟩⟩
theorem post_kept {f : Func} {s : ChangeSpec} {apart fresh handsOn : Bool} {W W' : World} {args : Array Value} {v : Value} {ds gs : List (DataW H)} (hW : DataW.Whole enc P f.params.toList s.vars apart W args.toList ds gs [])
    (hres : ∀ (b : Nat) (sp : Nat → Bool) (hd : Bool), DataW.TrodAll enc P W' b sp hd f.resultTypes.toList (v.resultList f.resultTypes.size) (s.fn H (ds ++ gs)).results [])
    (hargs : ∀ sp : Nat → Bool, DataW.TrodAll enc P W' 0 sp true f.params.toList args.toList (s.fn H (ds ++ gs)).args [])
    (hvars : ∀ sp : Nat → Bool, DataW.TrodVars enc P W' sp s.vars (s.fn H (ds ++ gs)).vars []) (hb : Below W.heap.size W W') :
    s.post enc P f apart fresh handsOn false W args v W' :=
  ⟨ds, gs, [], [], [], [], hW, hres _ _ _, hargs _, hvars _, Below.frame hb _, fun e => by cases e⟩
end
end Go.Cham
