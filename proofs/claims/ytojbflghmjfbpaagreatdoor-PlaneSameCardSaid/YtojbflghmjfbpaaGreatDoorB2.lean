/- YtojbflghmjfbpaaGreatDoorB2, a part of the proof that the claim's law answers true for every input, made small by program from the texts of this repo's wip/. No condition beyond those that the statements bear. -/
import Derived.Test.YtojbflghmjfbpaaGreatDoorB1
import Derived.Laws.Append
import Derived.Laws.BytesString
namespace Go.Cham
open Go Go.RowKit
section
variable {P : Program} {a : Act} {w : World} {n : Nat} {l : List (Nat × Value)} {K : Value → World → Prop}
variable {d : Option Tmp} {ty : TypeId} {pos : String} {af : Array Edge} {g : Option (Nat × Bool)}
theorem does_appendNil {x y : Operand} {t e : TypeId} {len cap2 : Nat} {p : Option Addr} {ds : List Nat} {S0 S : Sh} {w0 : World} {H : Own} (hL : Zt a n l) (hx : ev l x = some (.slice none 0 0)) (hy : ev l y = some (.slice p len cap2))
    (ht : P.underlying t = some (.slice e)) (hZ : Yu P e = some 1) (hB : Zal P e = some 8) (hz : QH P e = some (.int .u64 0)) (he : e = tU64) (hR : Run S0 w0 S H w) (hD : Dg S p len cap2 ds) (h0 : 0 < len) (hlim : len ≤ 1099511627776)
    (k : ∀ b cap rest w', len ≤ cap → Run S0 w0 S ((b, tU64, Yr ds ++ rest) :: H) w' → K (.slice (some ⟨b, 0, none⟩) len cap) w') : YI P ⟨d, .call ⟨.builtin .append, #[x, y], #[t, t]⟩, ty, pos, af, g⟩ a w K := by
  subst he
  obtain ⟨i, hi, hs, hz', hb⟩ : ∃ i, P.info? tU64 = some i ∧ i.size = 1 ∧ i.zero = some (.int .u64 0) ∧ i.bytes = 8 := by
    unfold Yu at hZ
    unfold Zal at hB
    unfold QH at hz
    cases hi : P.info? tU64 with
    | none => rw [hi] at hZ; simp at hZ
    | some i => rw [hi] at hZ hB hz; exact ⟨i, rfl, by simpa using hZ, by simpa using hz, by simpa using hB⟩
  obtain ⟨b2, rest2, rfl, r⟩ := hD.row h0
  have hrun := run_append_nil (P := P) w t ty tU64 i (.int .u64 0) ht hi hz' ⟨b2, 0, none⟩ len cap2 (Yr ds) (by rw [ZH, hs, Nat.mul_one]; exact hD.hlen) (fun j v hv => by
      have hc := (hR.row r).cell j
      have e1 : (⟨b2, 0, none⟩ : Addr).add j = ⟨b2, j, none⟩ := by rw [Addr.add_lit, Nat.zero_add]
      rw [e1, hc, List.getElem?_append_left (by rcases Nat.lt_or_ge j (Yr ds).length with h | h
                                                · exact h
                                                · rw [List.getElem?_eq_none h] at hv; cases hv)]
      exact hv) h0 (by omega) (by rw [hb]; omega)
  have hge := grownCap_ge w len 0 tU64
  generalize grownCap w len 0 tU64 = cap at hrun hge
  have hR1 : Run S0 w0 S H w.drew := hR.call (Ext.drewN hR.holds 1)
  obtain ⟨rest, hrest⟩ : ∃ rest, (Builtin.zeroCells (Value.int .u64 0).cells (cap - len)) = (rest : List Value).toArray := ⟨_, (Array.toArray_toList).symm⟩
  have hR2 := hR1.newOwn tU64 (Yr ds ++ rest)
  have ec : ((Yr ds).toArray ++ Builtin.zeroCells (Value.int .u64 0).cells (cap - len)) = (Yr ds ++ rest).toArray := by rw [hrest]; simp
  rw [ec] at hrun
  refine Zq (v := .slice (some ⟨w.heap.size, 0, none⟩) len cap) (w' := Xq w.drew (.cells (Yr ds ++ rest).toArray tU64)) ?_ (k _ _ _ _ hge hR2)
  rw [Xe]
  simp only [List.map_toArray, List.map_cons, List.map_nil, hL.ev hx, hL.ev hy]
  show Sem.run P (do let v ← Builtin.append_ #[t, t] ty #[.slice none 0 0, .slice (some ⟨b2, 0, none⟩) len cap2]; (pure (Next.value v) : Sem Next)) w = _
  rw [Ze hrun]
  rfl
end
theorem does_sliceFull {P : Program} {a : Act} {w : World} {n : Nat} {l : List (Nat × Value)} {K : Value → World → Prop} {d : Option Tmp} {ty : TypeId} {pos : String} {af : Array Edge} {g : Option (Nat × Bool)}
    {t e : TypeId} {x u y z : Operand} {b off len cap h i off' len' : Nat} {k0 k1 k2 : IntKind} {vh vi vj : Int} (hL : Zt a n l) (hx : ev l x = some (.slice (some ⟨b, off, none⟩) len cap)) (hu : ev l u = some (.int k0 vh)) (hy : ev l y = some (.int k1 vi)) (hz : ev l z = some (.int k2 vj)) (ht : P.underlying t = some (.slice e)) (hZ : Yu P e = some 1)
    (eh : vh = (h : Int)) (ei : vi = (i : Int)) (ej : vj = (i : Int)) (h1 : h < i) (h2 : i ≤ cap) (eo : off + h = off') (el : i - h = len') (k : K (.slice (some ⟨b, off', none⟩) len' len') w) : YI P ⟨d, .slice t x (some u) (some y) (some z), ty, pos, af, g⟩ a w K := by
  subst eh ei ej eo el
  refine Zq (v := .slice (some ⟨b, off + h, none⟩) (i - h) (i - h)) ?_ k
  simp only [execOp, hL.ev hx, Option.map_some, hL.ev hu, hL.ev hy, hL.ev hz, Instr.sliceAt]
  rw [Ze (w' := w) (a := (.slice (some ⟨b, off + h, none⟩) (i - h) (i - h) : Value))]
  · rfl
  rw [Ze (Zn ht)]
  simp only [Instr.slice]
  rw [Ze (Zn ht)]
  simp only [Instr.sliceBounds]
  rw [Ze (w' := w) (a := (h, i, i)) (by
    rw [Ze (Yg rfl h2), Ze (Yg rfl (Nat.le_refl _)), Ze (Yg rfl (Nat.le_of_lt h1))]; rfl)]
  simp only []
  rw [Ze (Yj hZ)]
  simp only [Nat.mul_one]
  rw [if_neg (by omega)]
  simp only [Option.map_some, XJ]
  rfl
theorem knuth {R T D P V pl vl g K : Nat} (hP : P = T * R + pl) (hpl : pl < R) (hV : V = D * R + vl) (hvl : vl < R) (hD : K ≤ D) (hPV : P < K * V) (hg : g < K) (h1 : g * D ≤ T) (h2 : T < (g + 1) * D ∨ g + 1 = K) : P < (g + 1) * V ∧ g * V ≤ P + V := by
  constructor
  · rcases h2 with h2 | h2
    · have e1 : (T + 1) * R ≤ ((g + 1) * D) * R := Nat.mul_le_mul_right R h2
      have e2 : (g + 1) * V = ((g + 1) * D) * R + (g + 1) * vl := by rw [hV, Nat.mul_add, Nat.mul_assoc]
      rw [Nat.add_mul, Nat.one_mul] at e1
      omega
    · rw [h2]; exact hPV
  · have e1 : g * D * R ≤ T * R := Nat.mul_le_mul_right R h1
    have e2 : g * V = g * D * R + g * vl := by rw [hV, Nat.mul_add, Nat.mul_assoc]
    have e3 : g * vl ≤ D * R := Nat.mul_le_mul (by omega) (by omega)
    omega
theorem knuth_x {R x y z v wl P V pl vl K : Nat} (hP : P = ((x * K + y) * K + z) * R + pl) (hV : V = (v * K + wl) * R + vl) (hvl : vl < R) (hw : wl < K) (hPV : P < K * V) : x ≤ v := by
  rcases Nat.lt_or_ge v x with h | h
  · exfalso
    have h1 : V ≤ (v + 1) * K * R := by
      have : (v * K + wl + 1) * R ≤ ((v + 1) * K) * R := Nat.mul_le_mul_right R (by rw [Nat.add_mul, Nat.one_mul]; omega)
      rw [Nat.add_mul (v * K + wl) 1 R, Nat.one_mul] at this
      omega
    have h2 : K * V ≤ K * ((v + 1) * K * R) := Nat.mul_le_mul_left K h1
    have h3 : ((v + 1) * K * K) * R ≤ ((x * K + y) * K + z) * R := Nat.mul_le_mul_right R (by
      have : (v + 1) * K ≤ x * K := Nat.mul_le_mul_right K h
      have := Nat.mul_le_mul_right K this
      rw [Nat.add_mul (x * K) y K]
      omega)
    have h4 : K * ((v + 1) * K * R) = (v + 1) * K * K * R := by rw [← Nat.mul_assoc, Nat.mul_comm K, Nat.mul_assoc ((v + 1) * K) K R]
    omega
  · exact h
structure QC (V : Nat) (u0 us os : List Nat) (n k : Nat) : Prop where
  lu : us.length = u0.length
  lo : us.length = os.length + n
  ltu : ∀ e ∈ us, e < 18446744073709551616
  lto : ∀ e ∈ os, e < 18446744073709551616
  le : k ≤ os.length
  sum : val W64 u0 = val W64 us + val W64 os * V
  bd : val W64 us < W64 ^ k * V
  z : ∀ j, j < k → os.getD j 0 = 0
theorem rep_getD (m j : Nat) : (List.replicate m 0).getD j 0 = 0 := by simp [List.getD_eq_getElem?_getD, List.getElem?_replicate]; split <;> simp
theorem QC.start {V n m : Nat} {u0 : List Nat} (hm : u0.length = m + n) (hl : ∀ e ∈ u0, e < 18446744073709551616) (hb : val W64 u0 < W64 ^ m * V) : QC V u0 u0 (List.replicate m 0) n m :=
  ⟨rfl, by rw [List.length_replicate]; exact hm, hl, by simp, by simp, by rw [val_rep0, Nat.zero_mul]; rfl, hb, fun j _ => rep_getD m j⟩
theorem drop_val0 {us : List Nat} {N : Nat} (h : val W64 us < W64 ^ N) (hN : N ≤ us.length) : val W64 (us.drop N) = 0 := by
  have h1 := Xu W64 us N hN
  rcases Nat.eq_zero_or_pos (val W64 (us.drop N)) with h2 | h2
  · exact h2
  · have h3 : W64 ^ N * 1 ≤ W64 ^ N * val W64 (us.drop N) := Nat.mul_le_mul_left _ h2
    rw [Nat.mul_one] at h3
    generalize W64 ^ N * val W64 (us.drop N) = A at *
    generalize W64 ^ N = B at *
    omega
theorem pow_V {V n k : Nat} (hV : V < W64 ^ n) {x : Nat} (hx : x < W64 ^ k * V) : x < W64 ^ (k + n) := by
  rw [Nat.pow_add]
  exact Nat.lt_of_lt_of_le hx (Nat.mul_le_mul_left _ (Nat.le_of_lt hV))
structure LongTop (V : Nat) (us : List Nat) (n k P low pl : Nat) : Prop where
  e : val W64 us = low + W64 ^ (k - 1) * P
  hlow : low < W64 ^ (k - 1)
  hP : P < 18446744073709551616 * V
  eP : P = ((us.getD (k - 1 + n) 0 * 18446744073709551616 + us.getD (k - 1 + (n - 1)) 0) * 18446744073709551616 + us.getD (k - 1 + (n - 2)) 0) * W64 ^ (n - 2) + pl
  hpl : pl < W64 ^ (n - 2)
theorem Za7 (d : Nat) (r : List Nat) : val W64 (d :: r) = d + 18446744073709551616 * val W64 r := rfl
theorem top_arith {pl R x y z M : Nat} : pl + R * (z + M * (y + M * (x + M * 0))) = ((x * M + y) * M + z) * R + pl := by
  rw [Nat.mul_zero, Nat.add_zero, Nat.mul_comm M x, Nat.add_comm y, Nat.mul_comm M (x * M + y), Nat.add_comm z, Nat.mul_comm R, Nat.add_comm]
theorem QC.top {V n k : Nat} {u0 us os : List Nat} (h : QC V u0 us os n k) (hk : 0 < k) (hn : 2 ≤ n) (hV : V < W64 ^ n) : ∃ P low pl, LongTop V us n k P low pl := by
  have hle := h.le
  have hlo := h.lo
  have hj : k - 1 + n < us.length := by omega
  have e1 := Xu W64 us (k - 1) (by omega)
  have hb := h.bd
  have hbig : val W64 us < W64 ^ (k - 1 + n + 1) := by
    have := pow_V hV hb
    rwa [show k + n = k - 1 + n + 1 by omega] at this
  have hz := drop_val0 hbig hj
  have e2 := Xu W64 (us.drop (k - 1)) (n - 2) (by rw [List.length_drop]; omega)
  rw [List.drop_drop] at e2
  have d0 : us.drop (k - 1 + (n - 2)) = us.getD (k - 1 + (n - 2)) 0 :: us.getD (k - 1 + (n - 1)) 0 :: us.getD (k - 1 + n) 0 :: us.drop (k - 1 + n + 1) := by
    rw [Ys (n := k - 1 + (n - 2)) (by omega), show k - 1 + (n - 2) + 1 = k - 1 + (n - 1) by omega, Ys (n := k - 1 + (n - 1)) (by omega), show k - 1 + (n - 1) + 1 = k - 1 + n by omega, Ys (n := k - 1 + n) (by omega)]
  rw [d0, Za7, Za7, Za7, hz, top_arith] at e2
  have hl1 := Zdj (B := W64) (by decide) h.ltu (k - 1) (by omega)
  have hl2 := Zdj (B := W64) (ds := us.drop (k - 1)) (by decide) (fun e he => h.ltu e (List.mem_of_mem_drop he)) (n - 2) (by rw [List.length_drop]; omega)
  refine ⟨val W64 (us.drop (k - 1)), val W64 (us.take (k - 1)), _, e1, hl1, ?_, e2, hl2⟩
  have e4 : W64 ^ k = W64 ^ (k - 1) * 18446744073709551616 := by
    have : W64 ^ (k - 1 + 1) = W64 ^ (k - 1) * 18446744073709551616 := Nat.pow_succ _ _
    rwa [show k - 1 + 1 = k by omega] at this
  rw [e4, Nat.mul_assoc] at hb
  have h5 : W64 ^ (k - 1) * val W64 (us.drop (k - 1)) < W64 ^ (k - 1) * (18446744073709551616 * V) := Nat.lt_of_le_of_lt (by rw [e1]; exact Nat.le_add_left _ _) hb
  exact Nat.lt_of_mul_lt_mul_left h5
theorem same_drop {us vs : List Nat} {N : Nat} (hl : us.length = vs.length) (h : ∀ m, N ≤ m → us.getD m 0 = vs.getD m 0) : us.drop N = vs.drop N := by
  apply List.ext_getElem
  · simp [hl]
  · intro i h1 h2
    rw [List.getElem_drop, List.getElem_drop]
    have h3 : N + i < us.length := by simp at h1; omega
    have h4 : N + i < vs.length := by omega
    have h5 := h (N + i) (by omega)
    rw [List.getD_eq_getElem?_getD, List.getD_eq_getElem?_getD, List.getElem?_eq_getElem h3, List.getElem?_eq_getElem h4] at h5
    simpa using h5
theorem top_lt' {us vs : List Nat} {N : Nat} (hv : val W64 vs < W64 ^ N) (hl : us.length = vs.length) (hN : N ≤ us.length) (h : ∀ m, N ≤ m → us.getD m 0 = vs.getD m 0) (ht : ∀ e ∈ us, e < 18446744073709551616) : val W64 us < W64 ^ N := by
  have e := Xu W64 us N hN
  rw [same_drop hl h, drop_val0 hv (by omega), Nat.mul_zero, Nat.add_zero] at e
  rw [e]
  exact Zdj (by decide) ht N hN
theorem long0 {A A1 O V P low g N : Nat} (hA : A = low + O * P) (hlow : low < O) (h1 : A1 + O * (V * g) = A + N * 0) (h2 : P < (g + 1) * V) : A = A1 + O * (V * g) ∧ A1 < O * V := by
  have e1 : O * (P + 1) ≤ O * ((g + 1) * V) := Nat.mul_le_mul_left O h2
  have e2 : O * ((g + 1) * V) = O * (V * g) + O * V := by rw [Nat.add_mul, Nat.one_mul, Nat.mul_add, Nat.mul_comm g V]
  rw [Nat.mul_add, Nat.mul_one] at e1
  rw [Nat.mul_zero, Nat.add_zero] at h1
  omega
theorem long1 {A A1 A2 O V P low g N cy : Nat} (hA : A = low + O * P) (h1 : A1 + O * (V * g) = A + N) (hA1 : A1 < N) (h2 : g * V ≤ P + V) (h3 : A2 + N * cy = A1 + O * V) (hA2 : A2 < N) (hcy : cy ≤ 1) :
    0 < g ∧ A = A2 + O * (V * (g - 1)) ∧ A2 < O * V := by
  have h0 : 0 < g := by
    rcases Nat.eq_zero_or_pos g with e | e
    · subst e; rw [Nat.mul_zero, Nat.mul_zero] at h1; omega
    · exact e
  obtain ⟨p, rfl⟩ : ∃ p, g = p + 1 := ⟨g - 1, by omega⟩
  rw [Nat.add_sub_cancel]
  have e0 : p * V ≤ P := by rw [Nat.add_mul, Nat.one_mul] at h2; omega
  have e1 : O * (p * V) ≤ O * P := Nat.mul_le_mul_left O e0
  have e2 : O * (V * (p + 1)) = O * (V * p) + O * V := by rw [Nat.mul_add V, Nat.mul_one, Nat.mul_add]
  rw [Nat.mul_comm p V] at e1
  have hc : cy = 1 := by
    rcases Nat.lt_or_ge 0 cy with h | h
    · omega
    · have : cy = 0 := by omega
      subst this
      rw [Nat.mul_zero] at h3
      omega
  subst hc
  rw [Nat.mul_one] at h3
  refine ⟨h0, ?_, ?_⟩ <;> omega
theorem QC.next {V n k dg : Nat} {u0 us us' os : List Nat} (h : QC V u0 us os n k) (hk : 0 < k) (hl : us'.length = us.length) (ht : ∀ e ∈ us', e < 18446744073709551616) (hdg : dg < 18446744073709551616)
    (he : val W64 us = val W64 us' + W64 ^ (k - 1) * (V * dg)) (hb : val W64 us' < W64 ^ (k - 1) * V) : QC V u0 us' (os.set (k - 1) dg) n (k - 1) := by
  have hle := h.le
  refine ⟨by rw [hl]; exact h.lu, by rw [hl, List.length_set]; exact h.lo, ht, Zaf h.lto hdg, by rw [List.length_set]; omega, ?_, hb, fun j hj => by rw [Xi (by omega)]; exact h.z j (by omega)⟩
  have hv := Zdi W64 os (k - 1) dg (by omega)
  rw [h.z (k - 1) (by omega), Nat.mul_zero, Nat.add_zero] at hv
  rw [h.sum, he, hv, Nat.add_mul, Nat.mul_assoc, Nat.mul_comm dg V, Nat.add_assoc, Nat.add_comm (W64 ^ (k - 1) * (V * dg))]
theorem QC.done {V n : Nat} {u0 us os : List Nat} (h : QC V u0 us os n 0) : val W64 u0 = val W64 us + val W64 os * V ∧ val W64 us < V := by
  refine ⟨h.sum, ?_⟩
  have := h.bd
  rwa [Nat.pow_zero, Nat.one_mul] at this
theorem long_done {a b p U R Q : Nat} (hb : 0 < b) (hp : 0 < p) (hU : U = a * p) (hs : U = R + Q * (b * p)) (hR : R < b * p) : Q = a / b ∧ R / p = a % b := by
  refine div_fin (p := p) ?_ hp hR hb
  rw [← hU, hs, Nat.mul_assoc]
theorem long_pos {A A1 O V g N : Nat} (h1 : A1 + O * (V * g) = A + N) (h2 : A1 < N) : 0 < g := by
  rcases Nat.eq_zero_or_pos g with e | e
  · subst e; rw [Nat.mul_zero, Nat.mul_zero] at h1; omega
  · exact e
theorem XC {n : Nat} : Zw n = 0 ↔ n = 0 := by
  unfold Zw
  split
  · rename_i h; simp [h]
  · rename_i h; constructor
    · intro h2; omega
    · intro h2; exact absurd h2 h
theorem lz {y : Nat} (h0 : y ≠ 0) (hy : y < 18446744073709551616) : 64 - Zw y < 64 ∧ y * 2 ^ (64 - Zw y) < 18446744073709551616 := by
  have hb := Zex h0
  have h1 := Zdz hy
  have h2 := bitlen_pos h0
  refine ⟨by omega, ?_⟩
  have hps := XS (s := 64 - Zw y) (by omega)
  rw [show 64 - (64 - Zw y) = Zw y by omega] at hps
  rw [← hps, Nat.mul_comm]
  exact Nat.mul_lt_mul_of_pos_left hb.2 (Nat.two_pow_pos _)
theorem cr_top {d : List Nat} {s n : Nat} (hs : s < 64) (h : d.getD (n - 1) 0 * 2 ^ s < 18446744073709551616) : cr d s n = 0 := by
  unfold cr
  split
  · rfl
  · refine Nat.div_eq_of_lt ?_
    have hps := XS (s := s) (by omega)
    rw [← hps, Nat.mul_comm] at h
    exact Nat.lt_of_mul_lt_mul_left h
theorem top2 {ds : List Nat} {n : Nat} (hl : ds.length = n) (hn : 2 ≤ n) (ht : ∀ e ∈ ds, e < 18446744073709551616) : ∃ vl, val W64 ds = (ds.getD (n - 1) 0 * 18446744073709551616 + ds.getD (n - 2) 0) * W64 ^ (n - 2) + vl ∧ vl < W64 ^ (n - 2) := by
  have e2 := Xu W64 ds (n - 2) (by omega)
  have d0 : ds.drop (n - 2) = ds.getD (n - 2) 0 :: ds.getD (n - 1) 0 :: ds.drop n := by
    rw [Ys (n := n - 2) (by omega), show n - 2 + 1 = n - 1 by omega, Ys (n := n - 1) (by omega), show n - 1 + 1 = n by omega]
  have d1 : ds.drop n = [] := List.drop_eq_nil_of_le (by omega)
  have hz : val W64 ([] : List Nat) = 0 := rfl
  rw [d0, d1, Za7, Za7, hz, Nat.mul_zero, Nat.add_zero] at e2
  refine ⟨_, ?_, Zdj (B := W64) (by decide) ht (n - 2) (by omega)⟩
  rw [e2, Nat.mul_comm (W64 ^ (n - 2)), Nat.mul_comm 18446744073709551616, Nat.add_comm (ds.getD (n - 2) 0), Nat.add_comm]
theorem val_top {ds : List Nat} {n : Nat} (hl : ds.length = n) (hn : 1 ≤ n) (ht : ds.getD (n - 1) 0 ≠ 0) : W64 ^ (n - 1) ≤ val W64 ds := by
  have e := Xu W64 ds (n - 1) (by omega)
  rw [Ys (n := n - 1) (by omega), Za7, Nat.mul_add] at e
  have h1 : W64 ^ (n - 1) * 1 ≤ W64 ^ (n - 1) * ds.getD (n - 1) 0 := Nat.mul_le_mul_left _ (Nat.pos_of_ne_zero ht)
  rw [Nat.mul_one] at h1
  rw [e]
  refine Nat.le_trans h1 ?_
  rw [← Nat.add_assoc]
  exact Nat.le_trans (Nat.le_add_left _ _) (Nat.le_add_right _ _)
theorem top_of_val {ds : List Nat} {n : Nat} (hl : ds.length = n) (hn : 1 ≤ n) (ht : ∀ e ∈ ds, e < 18446744073709551616) (hv : W64 ^ (n - 1) ≤ val W64 ds) : 0 < ds.getD (n - 1) 0 := by
  rcases Nat.eq_zero_or_pos (ds.getD (n - 1) 0) with h | h
  · exfalso
    have e := Xu W64 ds (n - 1) (by omega)
    have d1 : ds.drop n = [] := List.drop_eq_nil_of_le (by omega)
    have hz : val W64 ([] : List Nat) = 0 := rfl
    rw [Ys (n := n - 1) (by omega), show n - 1 + 1 = n by omega, d1, Za7, hz, h, Nat.mul_zero, Nat.add_zero] at e
    have := Zdj (B := W64) (by decide) ht (n - 1) (by omega)
    rw [← e] at this
    exact absurd hv (Nat.not_le_of_lt this)
  · exact h
theorem long_start {da db vs u0 : List Nat} {s la lb mm : Nat} (hs : s < 64) (hla : da.length = la) (hlb : db.length = lb) (h2 : 2 ≤ lb) (hba : lb ≤ la) (hta : ∀ e ∈ da, e < 18446744073709551616) (hn : db.getD (lb - 1) 0 ≠ 0)
    (hv : val W64 vs = val W64 db * 2 ^ s) (hvl : vs.length = lb) (hvt : ∀ e ∈ vs, e < 18446744073709551616) (hu : val W64 u0 = val W64 da * 2 ^ s) (hul : u0.length = la + 1) (hut : ∀ e ∈ u0, e < 18446744073709551616) (hm : mm + lb = la + 1) :
    QC (val W64 vs) u0 u0 (List.replicate mm 0) lb mm ∧ val W64 vs < W64 ^ lb ∧ 0 < vs.getD (lb - 1) 0 := by
  have hVn : val W64 vs < W64 ^ lb := by rw [← hvl]; exact Zd7 (by decide) vs hvt
  have hVb : W64 ^ (lb - 1) * 2 ^ s ≤ val W64 vs := by rw [hv]; exact Nat.mul_le_mul_right _ (val_top hlb (by omega) hn)
  have hVt : W64 ^ (lb - 1) ≤ val W64 vs := Nat.le_trans (Nat.le_mul_of_pos_right _ (Nat.two_pow_pos s)) hVb
  refine ⟨QC.start (by omega) hut ?_, hVn, top_of_val hvl (by omega) hvt hVt⟩
  have h1 : val W64 da < W64 ^ la := by rw [← hla]; exact Zd7 (by decide) da hta
  have h3 : W64 ^ la = W64 ^ mm * W64 ^ (lb - 1) := by rw [← Nat.pow_add, show mm + (lb - 1) = la by omega]
  rw [hu]
  refine Nat.lt_of_lt_of_le (Nat.mul_lt_mul_of_pos_right h1 (Nat.two_pow_pos s)) ?_
  rw [h3, Nat.mul_assoc]
  exact Nat.mul_le_mul_left _ hVb
theorem guess_or {g T D : Nat} (h1 : g < 18446744073709551616) (h2 : g * D ≤ T) (h3 : T < (g + 1) * D ∨ g = 18446744073709551615) : g < 18446744073709551616 ∧ g * D ≤ T ∧ (T < (g + 1) * D ∨ g + 1 = 18446744073709551616) := ⟨h1, h2, h3.imp_right (by omega)⟩
end Go.Cham
namespace Go.Cham
open Go Go.RowKit
def Qa (g : Option (Nat × List Value)) (T : TypeId) (cs : List Value) : Own := match g with | none => [] | some x => [(x.1, T, cs ++ x.2)]
def gp (g : Option (Nat × List Value)) : Option Addr := match g with | none => none | some x => some ⟨x.1, 0, none⟩
structure Gw (g : Option (Nat × List Value)) (len cap sz : Nat) (cs : List Value) : Prop where
  hl : cs.length = len * sz
  hc : len ≤ cap
  hn : g = none → cap = 0
  hs : ∀ x, g = some x → (cs ++ x.2).length = cap * sz
theorem Gw.nil (sz : Nat) : Gw none 0 0 sz [] := ⟨by simp, Nat.le_refl _, fun _ => rfl, by simp⟩
theorem Gw.own {b len sz : Nat} {cs : List Value} (h : cs.length = len * sz) : Gw (some (b, [])) len len sz cs := ⟨h, Nat.le_refl _, by simp, by simpa using h⟩
section
variable {P : Program} {a : Act} {w : World} {n : Nat} {l : List (Nat × Value)} {K : Value → World → Prop}
variable {d : Option Tmp} {ty : TypeId} {pos : String} {af : Array Edge} {g0 : Option (Nat × Bool)}
theorem Zak {x y : Operand} {t e : TypeId} {len cap m cap2 sz by_ b2 o2 : Nat} {T2 : TypeId} {z : Value} {g : Option (Nat × List Value)} {cs cs2 vs : List Value} {S0 S : Sh} {w0 : World} {H : Own} (hL : Zt a n l)
    (hx : ev l x = some (.slice (gp g) len cap)) (hy : ev l y = some (.slice (some ⟨b2, o2, none⟩) m cap2))
    (ht : P.underlying t = some (.slice e)) (hZ : Yu P e = some sz) (hB : Zal P e = some by_) (hz : QH P e = some z) (hzs : z.cells.size = sz) (hG : Gw g len cap sz cs) (hR : Run S0 w0 S (Qa g e cs ++ H) w)
    (hv : Has w b2 T2 cs2) (hvs : (cs2.drop o2).take (m * sz) = vs) (hvl : vs.length = m * sz) (ho : ∀ v ∈ vs, one v = true) (h0 : 0 < m) (hlim : (len + m) * by_ ≤ 140737488355328) (hlim2 : len + m ≤ 140737488355328)
    (k : ∀ g' cap' w', Gw g' (len + m) cap' sz (cs ++ vs) → Run S0 w0 S (Qa g' e (cs ++ vs) ++ H) w' → K (.slice (gp g') (len + m) cap') w') : YI P ⟨d, .call ⟨.builtin .append, #[x, y], #[t, t]⟩, ty, pos, af, g0⟩ a w K := by
  obtain ⟨i, hi, hs, hz', hb⟩ := Zcs hZ hB hz
  have hnews := hv.cells hvs
  have fin : ∀ (v : Value) (w' : World), (Builtin.append_ #[t, t] ty #[.slice (gp g) len cap, .slice (some ⟨b2, o2, none⟩) m cap2]).run P w = .ok v w' → K v w' → YI P ⟨d, .call ⟨.builtin .append, #[x, y], #[t, t]⟩, ty, pos, af, g0⟩ a w K := by
    intro v w' hrun hk
    refine Zq (v := v) (w' := w') ?_ hk
    rw [Xe]
    simp only [List.map_toArray, List.map_cons, List.map_nil, hL.ev hx, hL.ev hy]
    show Sem.run P (do let v ← Builtin.append_ #[t, t] ty #[.slice (gp g) len cap, .slice (some ⟨b2, o2, none⟩) m cap2]; (pure (Next.value v) : Sem Next)) w = _
    rw [Ze hrun]
    rfl
  rcases Nat.lt_or_ge cap (len + m) with hg | hg
  · 
    have hR1 : Run S0 w0 S (Qa g e cs ++ H) w.drew := hR.call (Ext.drewN hR.holds 1)
    have hge := grownCap_ge w (len + m) cap e
    have hfit : Builtin.nextslicecap (len + m) cap * i.bytes ≤ 281474976710656 := growslice_fits hg (by rw [hb]; exact hlim)
    obtain ⟨rest, hrest⟩ : ∃ rest, Builtin.zeroCells z.cells (grownCap w (len + m) cap e - (len + m)) = (rest : List Value).toArray := ⟨_, (Array.toArray_toList).symm⟩
    have hrl : rest.length = (grownCap w (len + m) cap e - (len + m)) * sz := by
      have := congrArg Array.size hrest
      simp [Builtin.zeroCells, hzs] at this
      omega
    have hcs : (cs ++ vs).length = (len + m) * sz := by rw [List.length_append, hG.hl, hvl, Nat.add_mul]
    have hR2 := (hR1.newOwn e (cs ++ vs ++ rest))
    have hdrop : ∀ {H' : Own} {w' : World} {x : Nat × TypeId × List Value}, Run S0 w0 S (x :: (Qa g e cs ++ H')) w' → Run S0 w0 S (x :: H') w' := by
      intro H' w' x hr
      have hn := hr.nodup
      refine ⟨hr.ext, fun y hy => hr.own y (by
        rcases List.mem_cons.1 hy with h | h
        · simp [h]
        · simp [h]), ?_⟩
      refine List.Sublist.nodup (List.Sublist.map _ ?_) hn
      exact List.Sublist.cons_cons _ (List.sublist_append_right _ _)
    have hR3 := hdrop hR2
    refine fin (.slice (some ⟨w.heap.size, 0, none⟩) (len + m) (grownCap w (len + m) cap e)) (Xq w.drew (.cells (cs ++ vs ++ rest).toArray e)) ?_ (k (some (w.heap.size, rest)) _ _ ⟨hcs, hge, by simp, ?_⟩ ?_)
    · cases g with
      | none =>
        have hc0 := hG.hn rfl
        have hl0 : len = 0 := by have := hG.hc; omega
        subst hc0 hl0
        have hcs0 : cs = [] := by have := hG.hl; simpa using this
        subst hcs0
        have hrun := run_append_nil (P := P) (w := w) t ty e i z ht hi hz' ⟨b2, o2, none⟩ m cap2 vs (by rw [hs]; exact hvl) hnews h0 (by omega) (by rw [hb]; rw [Nat.zero_add] at hlim; omega)
        simp only [Nat.zero_add, List.nil_append] at hrest ⊢
        refine hrun.trans ?_
        rw [hrest]
        congr 2
        simp
      | some q =>
        have hh : Has w q.1 e (cs ++ q.2) := hR.has (by simp [Qa])
        have hrun := run_append_grow (P := P) (w := w) t ty e i z ht hi hz' ⟨q.1, 0, none⟩ len cap cs (by rw [hs]; exact hG.hl) (hh.cells (o := 0) (k := cs.length) (by simp)) ⟨b2, o2, none⟩ m cap2 vs (by rw [hs]; exact hvl) hnews hg (by omega) hfit
        refine hrun.trans ?_
        rw [hrest]
        congr 2
        simp
    · intro x hx
      simp only [Option.some.injEq] at hx
      subst hx
      rw [List.length_append, hcs, hrl, ← Nat.add_mul]
      congr 1
      omega
    · simpa [Qa] using hR3
  · 
    cases g with
    | none => have := hG.hn rfl; omega
    | some q =>
      obtain ⟨b, rest⟩ := q
      have hl : (cs ++ rest).length = cap * sz := hG.hs _ rfl
      have hh : Has w b e (cs ++ rest) := hR.has (by simp [Qa])
      have hrl : m * sz ≤ rest.length := by
        rw [List.length_append, hG.hl] at hl
        have : (len + m) * sz ≤ cap * sz := Nat.mul_le_mul_right _ hg
        rw [Nat.add_mul] at this
        omega
      obtain ⟨w', h1, h2⟩ := Zbc (P := P) (w := w) t ty e i ht hi b e len cap (cs ++ rest) hh (.slice (some ⟨b2, o2, none⟩) m cap2) m vs rfl (by
        have := run_firstCells_some (P := P) w i.size m ⟨b2, o2, none⟩ m cap2 vs (by rw [hs]; exact hvl) hnews
        exact this) hg (by rw [hs, ← hG.hl, hvl, List.length_append]; omega) ho
      have ec : XY (cs ++ rest) (len * i.size) vs = cs ++ vs ++ rest.drop (m * sz) := by
        unfold XY
        rw [hs, ← hG.hl, hvl, List.take_left, List.drop_length_add_append]
      rw [ec] at h2
      have hR' : Run S0 w0 S ((b, e, cs ++ rest) :: H) w := by simpa [Qa] using hR
      have hR2 := hR'.store (cs ++ vs ++ rest.drop (m * sz)) h2
      refine fin _ _ h1 (k (some (b, rest.drop (m * sz))) cap w' ⟨by rw [List.length_append, hG.hl, hvl, Nat.add_mul], hg, by simp, ?_⟩ (by simpa [Qa] using hR2))
      intro x hx
      simp only [Option.some.injEq] at hx
      subst hx
      rw [List.length_append] at hl ⊢
      simp only [List.length_append, List.length_drop]
      omega
end
theorem Run.mid {S0 S : Sh} {w0 w : World} (H1 : Own) (H2 : Own) {H3 : Own} (h : Run S0 w0 S (H1 ++ (H2 ++ H3)) w) : Run S0 w0 S (H1 ++ H3) w := by
  have hn := h.nodup
  refine ⟨h.ext, fun x hx => h.own x ?_, ?_⟩
  · rcases List.mem_append.1 hx with q | q
    · exact List.mem_append_left _ q
    · exact List.mem_append_right _ (List.mem_append_right _ q)
  · refine List.Sublist.nodup (List.Sublist.map _ ?_) hn
    exact List.Sublist.append_left (List.sublist_append_right _ _) _
theorem Run.freezeG {S0 S : Sh} {w0 w : World} (H1 : Own) {H : Own} {g : Option (Nat × List Value)} {T : TypeId} {cs : List Value} (h : Run S0 w0 S (H1 ++ (Qa g T cs ++ H)) w) :
    ∃ S', S.le S' ∧ (∀ x, g = some x → Row S' x.1 T (cs ++ x.2)) ∧ Run S0 w0 S' (H1 ++ H) w := by
  cases g with
  | none => exact ⟨S, Sh.le.refl S, by simp, by simpa [Qa] using h⟩
  | some x =>
    have h' : Run S0 w0 S ((x.1, T, cs ++ x.2) :: (H1 ++ H)) w := h.perm (by simp [Qa])
    obtain ⟨S', h1, h2, h3⟩ := h'.freeze
    exact ⟨S', h1, fun y hy => by cases hy; exact h2, h3⟩
theorem Gw.some {g : Option (Nat × List Value)} {len cap sz : Nat} {cs : List Value} (h : Gw g len cap sz cs) (h0 : 0 < len) : ∃ b rest, g = some (b, rest) := by
  cases g with
  | none => have := h.hn rfl; have := h.hc; omega
  | some x => exact ⟨x.1, x.2, rfl⟩
def u8s (ds : List Nat) : List Value := ds.map fun d : Nat => .int .u8 (d : Int)
theorem u8s_get {ds : List Nat} {rest : List Value} {j : Nat} (h : j < ds.length) : (u8s ds ++ rest)[j]? = some (.int .u8 ((ds.getD j 0 : Nat) : Int)) := by
  rw [List.getElem?_append_left (by simpa [u8s] using h)]
  simp [u8s, List.getElem?_eq_getElem h, List.getD_eq_getElem?_getD]
theorem u8s_set {ds : List Nat} {rest : List Value} {j d : Nat} (h : j < ds.length) : (u8s ds ++ rest).set j (.int .u8 (d : Int)) = u8s (ds.set j d) ++ rest := by
  rw [List.set_append_left _ _ (by simpa [u8s] using h)]
  simp [u8s, List.map_set]
theorem QN (ds : List Nat) : (u8s ds).length = ds.length := by simp [u8s]
theorem u8s_ones (ds : List Nat) : ∀ v ∈ u8s ds, one v = true := by intro v hv; obtain ⟨d, _, rfl⟩ := List.mem_map.1 hv; rfl
theorem u64s_ones (ds : List Nat) : ∀ v ∈ Yr ds, one v = true := by intro v hv; obtain ⟨d, _, rfl⟩ := List.mem_map.1 hv; rfl
theorem u32s_append (ds es : List Nat) : u32s ds ++ u32s es = u32s (ds ++ es) := by simp [u32s]
theorem u8s_append (ds es : List Nat) : u8s ds ++ u8s es = u8s (ds ++ es) := by simp [u8s]
theorem Zba (ds es : List Nat) : Yr ds ++ Yr es = Yr (ds ++ es) := by simp [Yr]
theorem u64s_split (n : Nat) (ds : List Nat) (rest : List Value) : Yr ds ++ rest = Yr (ds.take n) ++ (Yr (ds.drop n) ++ rest) := by rw [← List.append_assoc, Zba, List.take_append_drop]
theorem u32s_split (n : Nat) (ds : List Nat) (rest : List Value) : u32s ds ++ rest = u32s (ds.take n) ++ (u32s (ds.drop n) ++ rest) := by rw [← List.append_assoc, u32s_append, List.take_append_drop]
theorem Gw.dg {S : Sh} {g : Option (Nat × List Value)} {len cap : Nat} {ds : List Nat} (h : Gw g len cap 1 (Yr ds)) (hr : ∀ x, g = Option.some x → Row S x.1 tU64 (Yr ds ++ x.2)) (hb : len ≤ 281474976710656) (hlt : ∀ d ∈ ds, d < 18446744073709551616) : Dg S (gp g) len cap ds := by
  have hl := h.hl
  rw [ZH, Nat.mul_one] at hl
  refine ⟨hl, h.hc, hb, hlt, fun h0 => ?_⟩
  obtain ⟨b, rest, e⟩ := h.some h0
  exact ⟨b, rest, by rw [e]; rfl, hr _ e⟩
theorem Gw.gd {S : Sh} {g : Option (Nat × List Value)} {len cap : Nat} {ds : List Nat} (h : Gw g len cap 1 (u32s ds)) (hr : ∀ x, g = Option.some x → Row S x.1 tU32 (u32s ds ++ x.2)) (hb : len ≤ 281474976710656) (hlt : ∀ d ∈ ds, d < 65536) : Gd S (gp g) len cap ds := by
  have hl := h.hl
  rw [u32s_length, Nat.mul_one] at hl
  refine ⟨hl, h.hc, hb, hlt, fun h0 => ?_⟩
  obtain ⟨b, rest, e⟩ := h.some h0
  exact ⟨b, 0, [], rest, by rw [e]; rfl, by simpa using hr _ e, rfl⟩
theorem gown_own {S0 S : Sh} {w0 w : World} (H1 : Own) {H : Own} {b : Nat} {rest : List Value} {T : TypeId} {cs : List Value} (h : Run S0 w0 S ((b, T, cs ++ rest) :: (H1 ++ H)) w) : Run S0 w0 S (H1 ++ (Qa (Option.some (b, rest)) T cs ++ H)) w :=
  h.perm (by simp [Qa, List.perm_middle.symm])
theorem gown_out {S0 S : Sh} {w0 w : World} (H1 : Own) {H : Own} {b : Nat} {rest : List Value} {T : TypeId} {cs : List Value} (h : Run S0 w0 S (H1 ++ (Qa (Option.some (b, rest)) T cs ++ H)) w) : Run S0 w0 S ((b, T, cs ++ rest) :: (H1 ++ H)) w :=
  h.perm (by simp [Qa])
theorem gown_swap {S0 S : Sh} {w0 w : World} (H1 : Own) {H2 H3 H : Own} (h : Run S0 w0 S (H1 ++ (H2 ++ (H3 ++ H))) w) : Run S0 w0 S (H1 ++ (H3 ++ (H2 ++ H))) w :=
  h.perm (List.Perm.append_left _ (by rw [← List.append_assoc, ← List.append_assoc]; exact List.Perm.append_right _ List.perm_append_comm))
theorem gown_in {S0 S : Sh} {w0 w : World} (H1 : Own) {H2 H : Own} (h : Run S0 w0 S (H1 ++ (H2 ++ H)) w) : Run S0 w0 S (H2 ++ (H1 ++ H)) w :=
  h.perm (by rw [← List.append_assoc, ← List.append_assoc]; exact List.Perm.append_right _ List.perm_append_comm)
section
variable {P : Program} {a : Act} {w : World} {n : Nat} {l : List (Nat × Value)} {K : Value → World → Prop}
variable {d : Option Tmp} {ty : TypeId} {pos : String} {af : Array Edge} {g0 : Option (Nat × Bool)}
theorem does_append0 {x y : Operand} {t e : TypeId} {len cap cap2 sz : Nat} {p p2 : Option Addr} (hL : Zt a n l)
    (hx : ev l x = Option.some (.slice p len cap)) (hy : ev l y = Option.some (.slice p2 0 cap2)) (ht : P.underlying t = Option.some (.slice e)) (hZ : Yu P e = Option.some sz) (hle : len ≤ cap)
    (k : K (.slice p len cap) w) : YI P ⟨d, .call ⟨.builtin .append, #[x, y], #[t, t]⟩, ty, pos, af, g0⟩ a w K := by
  refine Zq (v := .slice p len cap) (w' := w) ?_ k
  rw [Xe]
  simp only [List.map_toArray, List.map_cons, List.map_nil, hL.ev hx, hL.ev hy]
  have hrun : (Builtin.append_ #[t, t] ty #[.slice p len cap, .slice p2 0 cap2]).run P w = .ok (.slice p len cap) w := by
    simp only [Builtin.append_, List.getElem?_toArray, List.getElem?_cons_zero, List.getElem?_cons_succ]
    rw [Ze (Zn ht)]
    simp only []
    rw [Ze (Yj hZ)]
    rw [Ze (Zn ht)]
    simp only [ZB, Bool.false_eq_true, if_false]
    rw [Ze (w' := w) (a := 0) rfl]
    rw [if_pos (by omega)]
    simp only [Bool.not_false, if_true]
    rw [Ze (w' := w) (a := (#[] : Array Value)) (by
      cases p2 with
      | none => rfl
      | some q => exact run_firstCells_some (P := P) w sz 0 q 0 cap2 [] (by simp) (by simp))]
    cases p with
    | none => rfl
    | some q => rfl
  show Sem.run P (do let v ← Builtin.append_ #[t, t] ty #[.slice p len cap, .slice p2 0 cap2]; (pure (Next.value v) : Sem Next)) w = _
  rw [Ze hrun]
  rfl
theorem does_appendD {x y : Operand} {t : TypeId} {len cap m cap2 : Nat} {p2 : Option Addr} {g : Option (Nat × List Value)} {ds es : List Nat} {S0 S : Sh} {w0 : World} {H : Own} (hL : Zt a n l)
    (hx : ev l x = Option.some (.slice (gp g) len cap)) (hy : ev l y = Option.some (.slice p2 m cap2))
    (ht : P.underlying t = Option.some (.slice tU64)) (hZ : Yu P tU64 = Option.some 1) (hB : Zal P tU64 = Option.some 8) (hz : QH P tU64 = Option.some (.int .u64 0)) (hG : Gw g len cap 1 (Yr ds)) (hR : Run S0 w0 S (Qa g tU64 (Yr ds) ++ H) w)
    (hd : Dg S p2 m cap2 es) (hlim : len + m ≤ 1099511627776)
    (k : ∀ g' cap' w', Gw g' (len + m) cap' 1 (Yr (ds ++ es)) → Run S0 w0 S (Qa g' tU64 (Yr (ds ++ es)) ++ H) w' → K (.slice (gp g') (len + m) cap') w') : YI P ⟨d, .call ⟨.builtin .append, #[x, y], #[t, t]⟩, ty, pos, af, g0⟩ a w K := by
  rcases Nat.eq_zero_or_pos m with e | h0
  · subst e
    have he : es = [] := List.length_eq_zero_iff.1 hd.hlen
    subst he
    refine does_append0 hL hx hy ht hZ hG.hc ?_
    have := k g cap w (by simpa using hG) (by simpa using hR)
    simpa using this
  · obtain ⟨b2, rest2, rfl, r⟩ := hd.row h0
    refine Zak hL hx hy ht hZ hB hz rfl hG hR (hR.row r) (vs := Yr es) ?_ (by rw [ZH, hd.hlen, Nat.mul_one]) (u64s_ones es) h0 (by omega) (by omega) fun g' cap' w' h1 h2 => k g' cap' w' (by rw [← Zba]; exact h1) (by rw [← Zba]; exact h2)
    rw [List.drop_zero, Nat.mul_one, ← hd.hlen, ← ZH es, List.take_left]
end
section
variable {P : Program} {a : Act} {w : World} {n : Nat} {l : List (Nat × Value)} {K : Value → World → Prop}
variable {d : Option Tmp} {ty : TypeId} {pos : String} {af : Array Edge} {g0 : Option (Nat × Bool)}
end
theorem foldl_push (ds : List Nat) (s : ByteArray) : (ds.map fun d : Nat => (d : Int)).foldl (fun r n => r.push (UInt8.ofNat n.toNat)) s = s ++ ⟨(ds.map UInt8.ofNat).toArray⟩ := by
  induction ds generalizing s with
  | nil => apply ByteArray.ext; simp
  | cons d r ih =>
    simp only [List.map_cons, List.foldl_cons]
    rw [ih]
    apply ByteArray.ext
    simp
section
variable {P : Program} {a : Act} {w : World} {n : Nat} {l : List (Nat × Value)} {K : Value → World → Prop}
variable {d : Option Tmp} {ty : TypeId} {pos : String} {af : Array Edge} {g0 : Option (Nat × Bool)}
theorem does_bytesStr {x : Operand} {t u e : TypeId} {b m cap : Nat} {T : TypeId} {ds : List Nat} {rest : List Value} (hL : Zt a n l) (hx : ev l x = Option.some (.slice (Option.some ⟨b, 0, none⟩) m cap)) (hs : P.underlying t = Option.some (.slice e)) (he : P.underlying e = Option.some (.int .u8)) (hd : P.underlying u = Option.some .string)
    (h : Has w b T (u8s ds ++ rest)) (hm : ds.length = m) (k : K (.string ⟨(ds.map UInt8.ofNat).toArray⟩) w) : YI P ⟨d, .convert t u x, ty, pos, af, g0⟩ a w K := by
  subst hm
  refine Zq (v := .string ⟨(ds.map UInt8.ofNat).toArray⟩) (w' := w) ?_ k
  have hl : (loadCells ⟨b, 0, none⟩ ds.length).run P w = .ok ((ds.map fun d : Nat => (d : Int)).map (Value.int .u8)).toArray w := by
    have := Zbb (P := P) h (off := 0) (n := ds.length) (vs := u8s ds) (by rw [List.drop_zero, ← QN ds, List.take_left]) (QN ds)
    rw [this]
    unfold u8s
    rw [List.map_map]
    rfl
  have hrun : (convert t u (.slice (Option.some ⟨b, 0, none⟩) ds.length cap)).run P w = .ok (.string ⟨(ds.map UInt8.ofNat).toArray⟩) w := by
    rw [run_convert_bytes_string w t u e _ _ _ hs he hd, run_bytesToString w _ _ _ _ hl, foldl_push]
    rw [show (ByteArray.empty ++ (⟨(ds.map UInt8.ofNat).toArray⟩ : ByteArray)) = ⟨(ds.map UInt8.ofNat).toArray⟩ from by apply ByteArray.ext; simp]
  simp only [execOp, hL.ev hx]
  show Sem.run P (do let v ← convert t u (.slice (Option.some ⟨b, 0, none⟩) ds.length cap); (pure (Next.value v) : Sem Next)) w = _
  rw [Ze hrun]
  rfl
end
end Go.Cham
namespace Go.Cham
open Go Go.RowKit
section
variable {P : Program} {S0 : Sh} {w0 : World} {H0 : Own} {E0 : Zac} {st : Nat → Nat} {ops : Array Oper} {V : Nat → KV} {n : Nat} {l : List (Nat × Value)} {lz : Olds} {S1 : Sh} {i : Nat} {o : Oper}
theorem does_storeRA {done : Nat → Bool} {S : Sh} {E : Zac} {a : Act} {w : World} {t : TypeId} {x y : Operand} {b k off : Nat} {T : TypeId} {cs cs' : List Value} {v : Value} {l' : List (Nat × Value)} {R : Sh → List Value → Prop} {hR : ∀ S S' cs, S.le S' → R S cs → R S' cs}
    {ty : TypeId} {pos : String} {af : Array Edge} {g : Option (Nat × Bool)}
    (h : At S0 w0 H0 E0 st ops V n l lz S1 i ⟨none, .store t x y, ty, pos, af, g⟩ done S E a w) (hL : Zt a n l') (hx : ev l' x = some (.pointer (some ⟨b, off, none⟩))) (hy : ev l' y = some v) (hE0 : (k, b, T, cs, false) ∈ E0) (hst : st k = i)
    (hZ : Yu P t = some 1) (ho : one v = true) (hvc : v.cells.toList = [v]) (hoff : off < cs.length) (hcs : cs.set off v = cs') (hV : V i = .stored k T R hR) (hr : R S cs') :
    YI P ⟨none, .store t x y, ty, pos, af, g⟩ a w (Post S0 w0 H0 st V i ⟨none, .store t x y, ty, pos, af, g⟩ done S E) := by
  obtain ⟨cs0, s, hE, _, _, hf⟩ := h.le0 _ _ _ _ _ hE0
  have hs : s = false := by
    cases s with
    | false => rfl
    | true =>
      have := h.inv.sealed _ hE rfl
      simp only [hst, h.not] at this
      cases this
  subst hs
  have hc0 := hf rfl
  subst hc0
  obtain ⟨E1, E2, rfl⟩ := List.append_of_mem hE
  have hfront := h.run.perm Zef
  have hlen : cs'.length = cs0.length := by rw [← hcs]; simp
  have hvs : v.cells.size = 1 := by have := congrArg List.length hvc; simpa using this
  refine Zc0 (cs' := cs') hL hx hy hfront (by rw [hZ, hvs]) (by rw [hvs]; show off + 1 ≤ cs0.length; omega) (fun u hu => by rw [hvc] at hu; simp at hu; rw [hu]; exact ho) ?_ fun w' r => ?_
  · rw [hvc, ← hcs]
    unfold XY
    rw [List.set_eq_take_append_cons_drop, if_pos hoff]
    simp
  refine ⟨S, E1 ++ (k, b, T, cs', true) :: E2, .refl S, ?_, ⟨r.perm (Zef (x := (k, b, T, cs', true)) (E1 := E1) (E2 := E2) (H := H0)).symm, ?_, ?_, ?_⟩, ?_⟩
  · intro i' b' T' cs' s' hm
    rcases List.mem_append.1 hm with hm | hm
    · exact ⟨cs', s', List.mem_append_left _ hm, rfl, fun e => ⟨rfl, e⟩, fun _ => rfl⟩
    · rcases List.mem_cons.1 hm with hm | hm
      · simp only [Prod.mk.injEq] at hm
        obtain ⟨rfl, rfl, rfl, rfl, rfl⟩ := hm
        exact ⟨_, true, by simp, hlen, (fun e => by cases e), fun e => by cases e⟩
      · exact ⟨cs', s', List.mem_append_right _ (List.mem_cons_of_mem _ hm), rfl, fun e => ⟨rfl, e⟩, fun _ => rfl⟩
  · have := h.inv.nodup; simpa using this
  · intro z hz hlt
    rcases List.mem_append.1 hz with hz | hz
    · simp [h.inv.made z (by simp [hz]) hlt]
    · rcases List.mem_cons.1 hz with rfl | hz
      · have := h.inv.made _ hE hlt
        simpa using Or.inl this
      · simp [h.inv.made z (by simp [hz]) hlt]
  · intro z hz hs
    rcases List.mem_append.1 hz with hz | hz
    · simp [h.inv.sealed z (by simp [hz]) hs]
    · rcases List.mem_cons.1 hz with rfl | hz
      · simp [hst]
      · simp [h.inv.sealed z (by simp [hz]) hs]
  · rw [hV]
    exact ⟨b, cs', by simp, hr⟩
end
end Go.Cham
namespace Go.Cham
open Go
theorem mkRat_num (a : Int) (d : Nat) (hd : d ≠ 0) : (mkRat a d).num = a / (a.natAbs.gcd d : Nat) := by
  unfold mkRat
  rw [dif_neg hd, Rat.normalize_eq]
theorem mkRat_den (a : Int) (d : Nat) (hd : d ≠ 0) : (mkRat a d).den = d / a.natAbs.gcd d := by
  unfold mkRat
  rw [dif_neg hd, Rat.normalize_eq]
theorem mkRat_num1 {a : Int} {d : Nat} (hd : d ≠ 0) (h : a.natAbs.gcd d = 1) : (mkRat a d).num = a := by
  rw [mkRat_num a d hd, h]; simp
theorem mkRat_den1 {a : Int} {d : Nat} (hd : d ≠ 0) (h : a.natAbs.gcd d = 1) : (mkRat a d).den = d := by
  rw [mkRat_den a d hd, h]; simp
def ztxt (z : Int) : List Nat := (if z < 0 then [45] else []) ++ decs z.natAbs
def rtxt (q : Rat) : List Nat := ztxt q.num ++ if q.den = 1 then [] else 47 :: decs q.den
theorem ztxt_lt (z : Int) : ∀ c ∈ ztxt z, c < 256 := by
  intro c hc
  unfold ztxt at hc
  rcases List.mem_append.1 hc with h | h
  · split at h
    · simp at h; omega
    · simp at h
  · exact decs_lt _ c h
theorem rtxt_lt (q : Rat) : ∀ c ∈ rtxt q, c < 256 := by
  intro c hc
  unfold rtxt at hc
  rcases List.mem_append.1 hc with h | h
  · exact ztxt_lt _ c h
  · split at h
    · simp at h
    · rcases List.mem_cons.1 h with h | h
      · omega
      · exact decs_lt _ c h
def Za1 : List Nat → List Nat × List Nat × Bool
  | [] => ([], [], false)
  | c :: r => if c = 47 then ([], r, true) else (c :: (Za1 r).1, (Za1 r).2.1, (Za1 r).2.2)
theorem cutl_no {l : List Nat} (h : 47 ∉ l) : Za1 l = (l, [], false) := by
  induction l with
  | nil => rfl
  | cons c r ih =>
    simp only [List.mem_cons, not_or] at h
    unfold Za1
    rw [if_neg (by omega), ih h.2]
theorem cutl_yes {a b : List Nat} (h : 47 ∉ a) : Za1 (a ++ 47 :: b) = (a, b, true) := by
  induction a with
  | nil => simp [Za1]
  | cons c r ih =>
    simp only [List.mem_cons, not_or] at h
    rw [List.cons_append]
    unfold Za1
    rw [if_neg (by omega), ih h.2]
theorem Qv (l : List Nat) : 47 ∉ (Za1 l).1 ∧ l = (Za1 l).1 ++ (if (Za1 l).2.2 then 47 :: (Za1 l).2.1 else []) := by
  induction l with
  | nil => simp [Za1]
  | cons c r ih =>
    unfold Za1
    split
    · rename_i h; subst h; simp
    · rename_i h
      refine ⟨?_, ?_⟩
      · simp only [List.mem_cons, not_or]; exact ⟨by omega, ih.1⟩
      · simp only [List.cons_append, List.cons.injEq, true_and]; exact ih.2
def Zai (l : List Nat) : List Nat := (Za1 l).1
def fmin (l : List Nat) : Bool := decide ((Zai l).getD 0 0 = 45)
def Zc6 (l : List Nat) : List Nat := if fmin l then (Zai l).drop 1 else Zai l
def ftwo (l : List Nat) : Bool := (Za1 l).2.2
def fden (l : List Nat) : List Nat := if ftwo l then (Za1 l).2.1 else [49]
def fbad (l : List Nat) : Prop := ¬ wd (Zc6 l) ∨ ¬ wd (fden l) ∨ (fmin l = true ∧ Zc6 l = [48])
instance (l : List Nat) : Decidable (fbad l) := by unfold fbad; infer_instance
def QA (l : List Nat) : Prop := 256 < (Zc6 l).length ∨ 256 < (fden l).length
instance (l : List Nat) : Decidable (QA l) := by unfold QA; infer_instance
def fred (l : List Nat) : Prop := ftwo l = true ∧ (Qt (fden l) < 2 ∨ Nat.gcd (Qt (Zc6 l)) (Qt (fden l)) ≠ 1)
instance (l : List Nat) : Decidable (fred l) := by unfold fred; infer_instance
def fraw (l : List Nat) : Int := if fmin l then -(Qt (Zc6 l) : Int) else Qt (Zc6 l)
def YP (l : List Nat) : Int := if fbad l then 12 else if QA l then 3 else if fred l then 12 else 0
def YO (l : List Nat) : Rat := if YP l = 0 then mkRat (fraw l) (Qt (fden l)) else 0
theorem fraw_abs (l : List Nat) : (fraw l).natAbs = Qt (Zc6 l) := by unfold fraw; split <;> simp
theorem ferr_cases (l : List Nat) : (fbad l ∧ YP l = 12) ∨ (¬ fbad l ∧ QA l ∧ YP l = 3) ∨ (¬ fbad l ∧ ¬ QA l ∧ fred l ∧ YP l = 12) ∨ (¬ fbad l ∧ ¬ QA l ∧ ¬ fred l ∧ YP l = 0) := by
  unfold YP
  by_cases h1 : fbad l
  · simp [h1]
  · by_cases h2 : QA l
    · simp [h1, h2]
    · by_cases h3 : fred l <;> simp [h1, h2, h3]
theorem fval_bad {l : List Nat} (h : YP l ≠ 0) : YO l = 0 := if_neg h
theorem fval_ok {l : List Nat} (h : YP l = 0) : YO l = mkRat (fraw l) (Qt (fden l)) := if_pos h
theorem one_pval : Qt [49] = 1 := by decide
theorem Zem {l : List Nat} (h : ¬ fbad l) (h2 : ¬ fred l) : Qt (fden l) ≠ 0 := by
  unfold fden
  cases ht : ftwo l with
  | false => simp [one_pval]
  | true =>
    simp only [fred, ht, true_and, not_or] at h2
    have : fden l = (Za1 l).2.1 := by unfold fden; simp [ht]
    rw [this] at h2
    simp only [↓reduceIte]
    omega
theorem ztxt_no47 (z : Int) : 47 ∉ ztxt z := by
  intro h
  unfold ztxt at h
  rcases List.mem_append.1 h with h | h
  · split at h <;> simp at h
  · have := decs_dig _ _ h; omega
theorem ztxt_inj {a b : Int} (h : ztxt a = ztxt b) : a = b := by
  unfold ztxt at h
  have key : ∀ {m n : Nat}, 45 :: decs m ≠ decs n := by
    intro m n e
    have := decs_dig n 45 (by rw [← e]; simp)
    omega
  split at h <;> split at h
  · simp only [List.singleton_append, List.cons.injEq, true_and] at h
    have := decs_inj h
    omega
  · exact absurd h (by simpa using key)
  · exact absurd h.symm (by simpa using key)
  · simp only [List.nil_append] at h
    have := decs_inj h
    omega
theorem rtxt_cut (q : Rat) : Za1 (rtxt q) = (ztxt q.num, if q.den = 1 then [] else decs q.den, decide (q.den ≠ 1)) := by
  unfold rtxt
  split
  · rename_i h; rw [List.append_nil, cutl_no (ztxt_no47 _)]; simp [h]
  · rename_i h; rw [cutl_yes (ztxt_no47 _)]; simp [h]
theorem rtxt_inj {p q : Rat} (h : rtxt p = rtxt q) : p = q := by
  have hc := congrArg Za1 h
  rw [rtxt_cut, rtxt_cut] at hc
  simp only [Prod.mk.injEq] at hc
  have h1 := ztxt_inj hc.1
  have h2 : p.den = q.den := by
    have hd := hc.2.2
    by_cases hp : p.den = 1
    · by_cases hq : q.den = 1
      · omega
      · simp [hp, hq] at hd
    · by_cases hq : q.den = 1
      · simp [hp, hq] at hd
      · have := hc.2.1
        rw [if_neg hp, if_neg hq] at this
        exact decs_inj this
  exact Rat.ext h1 h2
end Go.Cham
namespace Go.Cham
open Go
theorem Xh (q : Rat) : q * (q.den : Rat) = (q.num : Rat) := by
  have h := Rat.mkRat_self q
  have h0 : (q.den : Rat) ≠ 0 := by
    intro z
    have : q.den = 0 := by exact_mod_cast z
    exact q.den_nz this
  conv => lhs; lhs; rw [← h]
  rw [Rat.mkRat_eq_div]
  grind
def lcmf (n : Nat) (q : Rat) : Nat := n * (q.den / Nat.gcd n q.den)
theorem lcmf_eq (n : Nat) (q : Rat) : lcmf n q = Nat.lcm n q.den := by
  unfold lcmf Nat.lcm
  rw [Nat.mul_div_assoc _ (Nat.gcd_dvd_right _ _)]
theorem lcmf_pos {n : Nat} {q : Rat} (h : n ≠ 0) : lcmf n q ≠ 0 := by
  rw [lcmf_eq]
  exact Nat.lcm_ne_zero h q.den_nz
theorem Zav (n : Nat) (q : Rat) : n ∣ lcmf n q := by rw [lcmf_eq]; exact Nat.dvd_lcm_left _ _
theorem Zcq (n : Nat) (q : Rat) : q.den ∣ lcmf n q := by rw [lcmf_eq]; exact Nat.dvd_lcm_right _ _
def pL (a b c d : Rat) : Nat := lcmf (lcmf (lcmf (lcmf 1 a) b) c) d
def pI (n : Nat) (q : Rat) : Int := q.num * ((n / q.den : Nat) : Int)
def pG (a b c d : Rat) : Nat := Nat.gcd (Nat.gcd (Nat.gcd (Nat.gcd 0 (pI (pL a b c d) a).natAbs) (pI (pL a b c d) b).natAbs) (pI (pL a b c d) c).natAbs) (pI (pL a b c d) d).natAbs
def sgnI (z : Int) : Int := if z < 0 then -1 else 1
def pS (a b c : Int) : Int := if a ≠ 0 then sgnI a else if b ≠ 0 then sgnI b else sgnI c
def quoN (z : Int) (n : Nat) : Int := if z < 0 then -((z.natAbs / n : Nat) : Int) else ((z.natAbs / n : Nat) : Int)
def pnI (a b c d q : Rat) : Int := pS a.num b.num c.num * quoN (pI (pL a b c d) q) (pG a b c d)
def pn (a b c d q : Rat) : Rat := ((pnI a b c d q : Int) : Rat)
theorem pL_pos (a b c d : Rat) : pL a b c d ≠ 0 := lcmf_pos (lcmf_pos (lcmf_pos (lcmf_pos (by decide))))
theorem pL_a (a b c d : Rat) : a.den ∣ pL a b c d := Nat.dvd_trans (Zcq 1 a) (Nat.dvd_trans (Zav _ b) (Nat.dvd_trans (Zav _ c) (Zav _ d)))
theorem pL_b (a b c d : Rat) : b.den ∣ pL a b c d := Nat.dvd_trans (Zcq _ b) (Nat.dvd_trans (Zav _ c) (Zav _ d))
theorem pL_c (a b c d : Rat) : c.den ∣ pL a b c d := Nat.dvd_trans (Zcq _ c) (Zav _ d)
theorem pL_d (a b c d : Rat) : d.den ∣ pL a b c d := Zcq _ d
theorem pI_cast {n : Nat} {q : Rat} (h : q.den ∣ n) : ((pI n q : Int) : Rat) = q * (n : Rat) := by
  obtain ⟨k, rfl⟩ := h
  unfold pI
  rw [Nat.mul_div_cancel_left _ q.den_pos]
  have h1 : ((q.den * k : Nat) : Rat) = (q.den : Rat) * (k : Rat) := Rat.natCast_mul _ _
  have h2 : ((q.num * ((k : Nat) : Int) : Int) : Rat) = (q.num : Rat) * (k : Rat) := Rat.intCast_mul _ _
  rw [h1, h2, ← Rat.mul_assoc, Xh]
theorem Zdo {n : Nat} {q : Rat} (h : q.den ∣ n) (hn : n ≠ 0) : pI n q = 0 ↔ q.num = 0 := by
  unfold pI
  constructor
  · intro e
    rcases Int.mul_eq_zero.1 e with e | e
    · exact e
    · exfalso
      obtain ⟨k, rfl⟩ := h
      rw [Nat.mul_div_cancel_left _ q.den_pos] at e
      have : k = 0 := by omega
      subst this
      exact hn (by simp)
  · intro e; rw [e, Int.zero_mul]
theorem pI_sign {n : Nat} {q : Rat} (h : q.den ∣ n) (hn : n ≠ 0) : pI n q < 0 ↔ q.num < 0 := by
  obtain ⟨k, rfl⟩ := h
  unfold pI
  rw [Nat.mul_div_cancel_left _ q.den_pos]
  have hk : (0 : Int) < (k : Int) := by
    rcases Nat.eq_zero_or_pos k with e | e
    · subst e; simp at hn
    · omega
  constructor
  · intro e
    rcases Int.lt_or_le q.num 0 with h | h
    · exact h
    · have := Int.mul_nonneg h (Int.le_of_lt hk); omega
  · intro e; exact Int.mul_neg_of_neg_of_pos e hk
theorem Zee (a b c d : Rat) : pG a b c d ∣ (pI (pL a b c d) a).natAbs ∧ pG a b c d ∣ (pI (pL a b c d) b).natAbs ∧ pG a b c d ∣ (pI (pL a b c d) c).natAbs ∧ pG a b c d ∣ (pI (pL a b c d) d).natAbs := by
  unfold pG
  generalize (pI (pL a b c d) a).natAbs = x, (pI (pL a b c d) b).natAbs = y, (pI (pL a b c d) c).natAbs = z, (pI (pL a b c d) d).natAbs = u
  refine ⟨?_, ?_, ?_, Nat.gcd_dvd_right _ _⟩
  · exact Nat.dvd_trans (Nat.gcd_dvd_left _ _) (Nat.dvd_trans (Nat.gcd_dvd_left _ _) (Nat.dvd_trans (Nat.gcd_dvd_left _ _) (Nat.gcd_dvd_right _ _)))
  · exact Nat.dvd_trans (Nat.gcd_dvd_left _ _) (Nat.dvd_trans (Nat.gcd_dvd_left _ _) (Nat.gcd_dvd_right _ _))
  · exact Nat.dvd_trans (Nat.gcd_dvd_left _ _) (Nat.gcd_dvd_right _ _)
theorem pG_pos {a b c d : Rat} (h : ¬ (a.num = 0 ∧ b.num = 0 ∧ c.num = 0)) : pG a b c d ≠ 0 := by
  intro e
  obtain ⟨h1, h2, h3, _⟩ := Zee a b c d
  rw [e] at h1 h2 h3
  have z := @Nat.eq_zero_of_zero_dvd
  exact h ⟨(Zdo (pL_a a b c d) (pL_pos a b c d)).1 (Int.natAbs_eq_zero.1 (z h1)), (Zdo (pL_b a b c d) (pL_pos a b c d)).1 (Int.natAbs_eq_zero.1 (z h2)), (Zdo (pL_c a b c d) (pL_pos a b c d)).1 (Int.natAbs_eq_zero.1 (z h3))⟩
theorem Zck {z : Int} {n : Nat} (h : n ∣ z.natAbs) : quoN z n * (n : Int) = z := by
  obtain ⟨k, hk⟩ := h
  unfold quoN
  rcases Nat.eq_zero_or_pos n with e | e
  · subst e
    have : z = 0 := by omega
    subst this; simp
  · rw [hk, Nat.mul_div_cancel_left _ e]
    have h1 : ((k : Nat) : Int) * (n : Int) = ((n * k : Nat) : Int) := by rw [Nat.mul_comm]; simp
    split
    · rw [Int.neg_mul, h1, ← hk]; omega
    · rw [h1, ← hk]; omega
theorem quoN_abs {z : Int} {n : Nat} : (quoN z n).natAbs = z.natAbs / n := by
  unfold quoN
  split
  · rw [Int.natAbs_neg, Int.natAbs_natCast]
  · rw [Int.natAbs_natCast]
theorem quoN_neg {z : Int} {n : Nat} (h : n ∣ z.natAbs) (hn : n ≠ 0) : quoN z n < 0 ↔ z < 0 := by
  have e := Zck h
  have hp : (0 : Int) < (n : Int) := by omega
  constructor
  · intro hq
    have := Int.mul_neg_of_neg_of_pos hq hp
    omega
  · intro hz
    rcases Int.lt_or_le (quoN z n) 0 with h | h
    · exact h
    · have := Int.mul_nonneg h (Int.le_of_lt hp); omega
structure Prim (a b c d : Int) : Prop where
  one : Nat.gcd (Nat.gcd (Nat.gcd a.natAbs b.natAbs) c.natAbs) d.natAbs = 1
  nz : ¬ (a = 0 ∧ b = 0 ∧ c = 0)
  pos : 0 < a ∨ a = 0 ∧ 0 < b ∨ a = 0 ∧ b = 0 ∧ 0 < c
theorem gcd4_mul (n a b c d : Nat) : Nat.gcd (Nat.gcd (Nat.gcd (n * a) (n * b)) (n * c)) (n * d) = n * Nat.gcd (Nat.gcd (Nat.gcd a b) c) d := by
  rw [Nat.gcd_mul_left, Nat.gcd_mul_left, Nat.gcd_mul_left]
theorem sgn_cases (z : Int) : (sgnI z = -1 ∧ z < 0) ∨ (sgnI z = 1 ∧ 0 ≤ z) := by unfold sgnI; split <;> omega
theorem pS_cases (a b c : Int) : pS a b c = -1 ∨ pS a b c = 1 := by
  unfold pS sgnI
  by_cases h1 : a ≠ 0
  · rw [if_pos h1]; by_cases h : a < 0 <;> simp [h]
  · rw [if_neg h1]
    by_cases h2 : b ≠ 0
    · rw [if_pos h2]; by_cases h : b < 0 <;> simp [h]
    · rw [if_neg h2]; by_cases h : c < 0 <;> simp [h]
theorem natAbs_pS (a b c z : Int) : (pS a b c * z).natAbs = z.natAbs := by
  rcases pS_cases a b c with h | h <;> rw [h] <;> simp
theorem pn_prim {a b c d : Rat} (h : ¬ (a.num = 0 ∧ b.num = 0 ∧ c.num = 0)) : Prim (pnI a b c d a) (pnI a b c d b) (pnI a b c d c) (pnI a b c d d) := by
  have hG := pG_pos (d := d) h
  obtain ⟨h1, h2, h3, h4⟩ := Zee a b c d
  have hL := pL_pos a b c d
  have s1 := quoN_neg h1 hG
  have s2 := quoN_neg h2 hG
  have s3 := quoN_neg h3 hG
  have e1 := Zck h1
  have e2 := Zck h2
  have e3 := Zck h3
  have z1 := Zdo (pL_a a b c d) hL
  have z2 := Zdo (pL_b a b c d) hL
  have z3 := Zdo (pL_c a b c d) hL
  have n1 := pI_sign (pL_a a b c d) hL
  have n2 := pI_sign (pL_b a b c d) hL
  have n3 := pI_sign (pL_c a b c d) hL
  have q1 : quoN (pI (pL a b c d) a) (pG a b c d) = 0 ↔ a.num = 0 := by
    rw [← z1]; constructor
    · intro e; rw [e, Int.zero_mul] at e1; exact e1.symm
    · intro e; rw [e] at e1; rcases Int.mul_eq_zero.1 e1 with q | q
      · rw [e]; exact q
      · omega
  have q2 : quoN (pI (pL a b c d) b) (pG a b c d) = 0 ↔ b.num = 0 := by
    rw [← z2]; constructor
    · intro e; rw [e, Int.zero_mul] at e2; exact e2.symm
    · intro e; rw [e] at e2; rcases Int.mul_eq_zero.1 e2 with q | q
      · rw [e]; exact q
      · omega
  have q3 : quoN (pI (pL a b c d) c) (pG a b c d) = 0 ↔ c.num = 0 := by
    rw [← z3]; constructor
    · intro e; rw [e, Int.zero_mul] at e3; exact e3.symm
    · intro e; rw [e] at e3; rcases Int.mul_eq_zero.1 e3 with q | q
      · rw [e]; exact q
      · omega
  refine ⟨?_, ?_, ?_⟩
  · unfold pnI
    simp only [natAbs_pS, quoN_abs]
    have hg : pG a b c d * Nat.gcd (Nat.gcd (Nat.gcd ((pI (pL a b c d) a).natAbs / pG a b c d) ((pI (pL a b c d) b).natAbs / pG a b c d)) ((pI (pL a b c d) c).natAbs / pG a b c d)) ((pI (pL a b c d) d).natAbs / pG a b c d) = pG a b c d * 1 := by
      rw [← gcd4_mul, Nat.mul_div_cancel' h1, Nat.mul_div_cancel' h2, Nat.mul_div_cancel' h3, Nat.mul_div_cancel' h4, Nat.mul_one]
      conv => rhs; unfold pG
      rw [Nat.gcd_zero_left]
    exact Nat.eq_of_mul_eq_mul_left (by omega) hg
  · rintro ⟨r1, r2, r3⟩
    unfold pnI at r1 r2 r3
    have key : ∀ z : Int, pS a.num b.num c.num * z = 0 → z = 0 := fun z hz => by
      rcases pS_cases a.num b.num c.num with e | e <;> rw [e] at hz <;> omega
    exact h ⟨q1.1 (key _ r1), q2.1 (key _ r2), q3.1 (key _ r3)⟩
  · unfold pnI
    generalize quoN (pI (pL a b c d) a) (pG a b c d) = x at *
    generalize quoN (pI (pL a b c d) b) (pG a b c d) = y at *
    generalize quoN (pI (pL a b c d) c) (pG a b c d) = z at *
    have n1' := s1.trans n1
    have n2' := s2.trans n2
    have n3' := s3.trans n3
    unfold pS
    by_cases ha : a.num = 0
    · rw [if_neg (by simpa using ha)]
      have hx := q1.2 ha
      subst hx
      by_cases hb : b.num = 0
      · rw [if_neg (by simpa using hb)]
        have hy := q2.2 hb
        subst hy
        have hc : c.num ≠ 0 := fun e => h ⟨ha, hb, e⟩
        have hz : z ≠ 0 := fun e => hc (q3.1 e)
        right; right
        refine ⟨by simp, by simp, ?_⟩
        rcases sgn_cases c.num with ⟨e, f⟩ | ⟨e, f⟩ <;> rw [e] <;> omega
      · rw [if_pos (by simpa using hb)]
        have hy : y ≠ 0 := fun e => hb (q2.1 e)
        right; left
        refine ⟨by simp, ?_⟩
        rcases sgn_cases b.num with ⟨e, f⟩ | ⟨e, f⟩ <;> rw [e] <;> omega
    · rw [if_pos (by simpa using ha)]
      have hx : x ≠ 0 := fun e => ha (q1.1 e)
      left
      rcases sgn_cases a.num with ⟨e, f⟩ | ⟨e, f⟩ <;> rw [e] <;> omega
theorem prim_unique {a b c d a' b' c' d' : Int} (p : Prim a b c d) (p' : Prim a' b' c' d') {m : Int} {n : Nat} (hn : n ≠ 0) (h1 : a' * n = m * a) (h2 : b' * n = m * b) (h3 : c' * n = m * c) (h4 : d' * n = m * d) :
    a' = a ∧ b' = b ∧ c' = c ∧ d' = d := by
  have ab : ∀ {x y : Int}, x * n = m * y → n * x.natAbs = m.natAbs * y.natAbs := fun {x y} e => by
    have := congrArg Int.natAbs e
    rw [Int.natAbs_mul, Int.natAbs_mul, Int.natAbs_natCast] at this
    rw [← this, Nat.mul_comm]
  have hg := gcd4_mul n a'.natAbs b'.natAbs c'.natAbs d'.natAbs
  rw [ab h1, ab h2, ab h3, ab h4, gcd4_mul, p.one, p'.one, Nat.mul_one, Nat.mul_one] at hg
  have hp : (0 : Int) < (n : Int) := by omega
  have hm : m = n ∨ m = -(n : Int) := by omega
  rcases hm with hm | hm
  · subst hm
    have key : ∀ {x y : Int}, x * n = n * y → x = y := fun {x y} e => by rw [Int.mul_comm] at e; exact Int.eq_of_mul_eq_mul_left (by omega) e
    exact ⟨key h1, key h2, key h3, key h4⟩
  · exfalso
    subst hm
    have key : ∀ {x y : Int}, x * n = -(n : Int) * y → x = -y := fun {x y} e => by
      rw [Int.mul_comm, Int.neg_mul, ← Int.mul_neg] at e
      exact Int.eq_of_mul_eq_mul_left (by omega) e
    have k1 := key h1
    have k2 := key h2
    have k3 := key h3
    have q := p.pos
    have q' := p'.pos
    omega
def pF (a b c d : Rat) : Rat := (pS a.num b.num c.num : Rat) * (pL a b c d : Rat) / (pG a b c d : Rat)
theorem pn_eq {a b c d q : Rat} (h : ¬ (a.num = 0 ∧ b.num = 0 ∧ c.num = 0)) (hq : q.den ∣ pL a b c d) (hg : pG a b c d ∣ (pI (pL a b c d) q).natAbs) : pn a b c d q = pF a b c d * q := by
  have hG := pG_pos (d := d) h
  have e := Zck hg
  have e2 : ((quoN (pI (pL a b c d) q) (pG a b c d) : Int) : Rat) * (pG a b c d : Rat) = q * (pL a b c d : Rat) := by
    rw [← pI_cast hq, ← e, Rat.intCast_mul]
    rw [show ((quoN (quoN (pI (pL a b c d) q) (pG a b c d) * ((pG a b c d : Nat) : Int)) (pG a b c d) : Int) : Rat) = ((quoN (pI (pL a b c d) q) (pG a b c d) : Int) : Rat) by rw [e]]
    rfl
  have hG' : (pG a b c d : Rat) ≠ 0 := by
    intro z
    exact hG (by exact_mod_cast z)
  unfold pn pnI pF
  rw [Rat.intCast_mul]
  generalize ((quoN (pI (pL a b c d) q) (pG a b c d) : Int) : Rat) = x at *
  generalize (pG a b c d : Rat) = g at *
  generalize (pL a b c d : Rat) = r at *
  generalize ((pS a.num b.num c.num : Int) : Rat) = s
  grind
theorem pn_a {a b c d : Rat} (h : ¬ (a.num = 0 ∧ b.num = 0 ∧ c.num = 0)) : pn a b c d a = pF a b c d * a := pn_eq h (pL_a a b c d) (Zee a b c d).1
theorem pn_b {a b c d : Rat} (h : ¬ (a.num = 0 ∧ b.num = 0 ∧ c.num = 0)) : pn a b c d b = pF a b c d * b := pn_eq h (pL_b a b c d) (Zee a b c d).2.1
theorem pn_c {a b c d : Rat} (h : ¬ (a.num = 0 ∧ b.num = 0 ∧ c.num = 0)) : pn a b c d c = pF a b c d * c := pn_eq h (pL_c a b c d) (Zee a b c d).2.2.1
theorem pn_d {a b c d : Rat} (h : ¬ (a.num = 0 ∧ b.num = 0 ∧ c.num = 0)) : pn a b c d d = pF a b c d * d := pn_eq h (pL_d a b c d) (Zee a b c d).2.2.2
theorem pF_ne {a b c d : Rat} (h : ¬ (a.num = 0 ∧ b.num = 0 ∧ c.num = 0)) : pF a b c d ≠ 0 := by
  have hG := pG_pos (d := d) h
  have hG' : (pG a b c d : Rat) ≠ 0 := by intro z; exact hG (by exact_mod_cast z)
  have hL' : (pL a b c d : Rat) ≠ 0 := by intro z; exact pL_pos a b c d (by exact_mod_cast z)
  unfold pF
  rcases pS_cases a.num b.num c.num with e | e <;> rw [e]
  · intro z
    have : ((-1 : Int) : Rat) = -1 := rfl
    rw [this] at z
    grind
  · intro z
    have : ((1 : Int) : Rat) = 1 := rfl
    rw [this] at z
    grind
theorem num0 {q : Rat} : q.num = 0 ↔ q = 0 := ⟨fun h => Rat.num_eq_zero.mp h, fun h => by rw [h]; rfl⟩
theorem nz3 {a b c : Rat} : ¬ (a.num = 0 ∧ b.num = 0 ∧ c.num = 0) ↔ ¬ (a = 0 ∧ b = 0 ∧ c = 0) := by rw [num0, num0, num0]
theorem pn_mul {a b c d a' b' c' d' t : Rat} (h : ¬ (a = 0 ∧ b = 0 ∧ c = 0)) (ht : t ≠ 0) (h1 : a' = t * a) (h2 : b' = t * b) (h3 : c' = t * c) (h4 : d' = t * d) :
    pn a' b' c' d' a' = pn a b c d a ∧ pn a' b' c' d' b' = pn a b c d b ∧ pn a' b' c' d' c' = pn a b c d c ∧ pn a' b' c' d' d' = pn a b c d d := by
  have h' : ¬ (a' = 0 ∧ b' = 0 ∧ c' = 0) := by
    rintro ⟨r1, r2, r3⟩
    refine h ⟨?_, ?_, ?_⟩
    · grind
    · grind
    · grind
  have hz := nz3.2 h
  have hz' := nz3.2 h'
  have p := pn_prim (d := d) hz
  have p' := pn_prim (d := d') hz'
  have f1 := pF_ne (d := d) hz
  let r : Rat := pF a' b' c' d' * t / pF a b c d
  have key : ∀ {x y z : Rat}, pF a' b' c' d' * (t * x) = y → pF a b c d * x = z → y * (r.den : Rat) = (r.num : Rat) * z := by
    intro x y z e1 e2
    have er : (r.num : Rat) = r * (r.den : Rat) := (Xh r).symm
    rw [er]
    have er2 : r * pF a b c d = pF a' b' c' d' * t := by
      show pF a' b' c' d' * t / pF a b c d * pF a b c d = _
      grind
    have : y = r * z := by rw [← e1, ← e2, ← Rat.mul_assoc, ← Rat.mul_assoc, er2]
    rw [this]
    grind
  have c1 := key ((congrArg (pF a' b' c' d' * ·) h1.symm).trans (pn_a hz').symm) (pn_a hz).symm
  have c2 := key ((congrArg (pF a' b' c' d' * ·) h2.symm).trans (pn_b hz').symm) (pn_b hz).symm
  have c3 := key ((congrArg (pF a' b' c' d' * ·) h3.symm).trans (pn_c hz').symm) (pn_c hz).symm
  have c4 := key ((congrArg (pF a' b' c' d' * ·) h4.symm).trans (pn_d hz').symm) (pn_d hz).symm
  unfold pn at c1 c2 c3 c4
  have toI : ∀ {x y : Int}, (x : Rat) * (r.den : Rat) = (r.num : Rat) * (y : Rat) → x * (r.den : Int) = r.num * y := by
    intro x y e
    have e2 : ((x * (r.den : Int) : Int) : Rat) = ((r.num * y : Int) : Rat) := by
      rw [Rat.intCast_mul, Rat.intCast_mul]; exact e
    exact_mod_cast e2
  obtain ⟨u1, u2, u3, u4⟩ := prim_unique p p' r.den_nz (toI c1) (toI c2) (toI c3) (toI c4)
  unfold pn
  rw [u1, u2, u3, u4]
  exact ⟨rfl, rfl, rfl, rfl⟩
theorem pn_nz {a b c d : Rat} (h : ¬ (a = 0 ∧ b = 0 ∧ c = 0)) : ¬ (pn a b c d a = 0 ∧ pn a b c d b = 0 ∧ pn a b c d c = 0) := by
  have p := pn_prim (d := d) (nz3.2 h)
  rintro ⟨r1, r2, r3⟩
  unfold pn at r1 r2 r3
  exact p.nz ⟨by exact_mod_cast r1, by exact_mod_cast r2, by exact_mod_cast r3⟩
theorem pn_pn {a b c d : Rat} (h : ¬ (a = 0 ∧ b = 0 ∧ c = 0)) :
    let a' := pn a b c d a; let b' := pn a b c d b; let c' := pn a b c d c; let d' := pn a b c d d
    pn a' b' c' d' a' = a' ∧ pn a' b' c' d' b' = b' ∧ pn a' b' c' d' c' = c' ∧ pn a' b' c' d' d' = d' := by
  have hz := nz3.2 h
  exact pn_mul (t := pF a b c d) h (pF_ne hz) (pn_a hz) (pn_b hz) (pn_c hz) (pn_d hz)
end Go.Cham
namespace Go.Cham
open Go
theorem ten19 : 10 ^ 19 = 10000000000000000000 := by decide
theorem pow19_split {i : Nat} (hi : i ≤ 19) : 10 ^ 19 = 10 ^ i * 10 ^ (19 - i) := by rw [← Nat.pow_add]; congr 1; omega
theorem text_split {V i : Nat} (hi : i ≤ 19) : V / 10 ^ i = V / 10000000000000000000 * 10 ^ (19 - i) + V % 10000000000000000000 / 10 ^ i := by
  have h := Nat.div_add_mod V 10000000000000000000
  have hp := pow19_split hi
  rw [ten19] at hp
  have hpos : 0 < 10 ^ i := Nat.pow_pos (by decide)
  conv => lhs; rw [← h, hp, Nat.mul_assoc, Nat.add_comm, Nat.add_mul_div_left _ _ hpos]
  rw [← hp, Nat.mul_comm (10 ^ (19 - i)), Nat.add_comm]
theorem text_dig {V i : Nat} (hi : i < 19) : V / 10 ^ i % 10 = V % 10000000000000000000 / 10 ^ i % 10 := by
  rw [text_split (Nat.le_of_lt hi)]
  have e : 10 ^ (19 - i) = 10 * 10 ^ (18 - i) := by rw [show 19 - i = (18 - i) + 1 by omega, Nat.pow_succ, Nat.mul_comm]
  rw [e, ← Nat.mul_assoc, Nat.mul_comm _ 10, Nat.mul_assoc, Nat.mul_add_mod]
theorem text_nz {V i : Nat} (hi : i ≤ 19) (h : 0 < V / 10000000000000000000 ∨ 0 < V % 10000000000000000000 / 10 ^ i) : V / 10 ^ i ≠ 0 := by
  rw [text_split hi]
  have : 0 < 10 ^ (19 - i) := Nat.pow_pos (by decide)
  rcases h with h | h
  · exact Nat.ne_of_gt (Nat.lt_of_lt_of_le (Nat.mul_pos h this) (Nat.le_add_right _ _))
  · exact Nat.ne_of_gt (Nat.lt_of_lt_of_le h (Nat.le_add_left _ _))
theorem Zdv (a m i : Nat) : a / 10 ^ (m + i) = a / 10 ^ m / 10 ^ i := by rw [Nat.pow_add, Nat.div_div_eq_div_mul]
theorem text_out {a m i V rr : Nat} {o : List Nat} (hV : V = a / 10 ^ m) (hi : i < 19) (ho : o = ((ZP 10 a).take (m + i)).map (· + 48)) (hr : rr = V % 10000000000000000000 / 10 ^ i) (h : 0 < V / 10000000000000000000 ∨ 0 < rr) :
    o ++ [48 + rr % 10] = ((ZP 10 a).take (m + (i + 1))).map (· + 48) := by
  subst ho hr
  have hz : a / 10 ^ (m + i) ≠ 0 := by rw [Zdv, ← hV]; exact text_nz (by omega) h
  rw [show m + (i + 1) = (m + i) + 1 by omega, digs_take_succ (by decide) _ _ hz, List.map_append, Zdv, ← hV, List.map_cons, List.map_nil, text_dig (V := V) hi, Nat.add_comm 48]
theorem text_rr {V i : Nat} : V % 10000000000000000000 / 10 ^ i / 10 = V % 10000000000000000000 / 10 ^ (i + 1) := by rw [Nat.div_div_eq_div_mul, ← Nat.pow_succ]
theorem Zea {a m i V : Nat} (hV : V = a / 10 ^ m) (hi : i ≤ 19) (h : i = 19 ∨ (V / 10000000000000000000 = 0 ∧ V % 10000000000000000000 / 10 ^ i = 0)) : V / 10000000000000000000 = a / 10 ^ (m + i) := by
  rw [Zdv, ← hV, text_split hi]
  rcases h with h | ⟨h1, h2⟩
  · subst h
    have : V % 10000000000000000000 / 10 ^ 19 = 0 := Nat.div_eq_of_lt (by rw [ten19]; exact Nat.mod_lt _ (by decide))
    rw [this]; simp
  · rw [h1, h2]; simp
theorem text_done {a m : Nat} {o : List Nat} (ha : a ≠ 0) (h : a / 10 ^ m = 0) (ho : o = ((ZP 10 a).take m).map (· + 48)) : o = (ZP 10 a).map (· + 48) ∧ 0 < o.length := by
  rw [digs_take_all (by decide) h] at ho
  refine ⟨ho, ?_⟩
  rw [ho, List.length_map, QJ (by decide) ha]
  simp
theorem text_fin {a : Nat} {o us : List Nat} (ha : a ≠ 0) (ho : o = (ZP 10 a).map (· + 48)) (h : us = o.reverse) : YJ us = txt a := by
  unfold txt decs
  rw [if_neg ha, h, ho]
theorem val_pos {d : List Nat} (hz : d.getLast? ≠ some 0) (h : 0 < d.length) : 0 < val W64 d := by
  have h1 := digs_val (B := W64) (by decide) d
  rcases Nat.eq_zero_or_pos (val W64 d) with e | e
  · exfalso
    have := val_ge_pow (B := W64) (by decide) d (by intro e; subst e; simp at h) hz
    have : 0 < W64 ^ (d.length - 1) := Nat.pow_pos (by decide)
    omega
  · exact e
theorem Zeh {ds : List Nat} {n : Nat} (hn : n ≤ ds.length) (h : n = 0 ∨ ds.getD (n - 1) 0 ≠ 0) : (ds.take n).getLast? ≠ some 0 := by
  rcases Nat.eq_zero_or_pos n with e | e
  · subst e; simp
  · rcases h with h | h
    · omega
    · rw [List.getLast?_eq_getElem?]
      have hl : (ds.take n).length = n := by simp; omega
      rw [hl, List.getElem?_take, if_pos (by omega)]
      rw [List.getD_eq_getElem?_getD, List.getElem?_eq_getElem (by omega)] at h
      rw [List.getElem?_eq_getElem (by omega)]
      simpa using h
theorem lt_take {ds : List Nat} {n B : Nat} (h : ∀ e ∈ ds, e < B) : ∀ e ∈ ds.take n, e < B := fun e he => h e (List.mem_of_mem_take he)
structure Ze1 (o us : List Nat) (i : Nat) : Prop where
  len : us.length = o.length
  get : ∀ k, k < o.length → us.getD k 0 = if k < i ∨ o.length ≤ k + i then o.getD (o.length - 1 - k) 0 else o.getD k 0
theorem Ze1.start (o : List Nat) : Ze1 o o 0 := ⟨rfl, fun k hk => by rw [if_neg (by omega)]⟩
theorem Ze1.step {o us : List Nat} {i j : Nat} (h : Ze1 o us i) (hj : j + i + 1 = o.length) (hi : i < j) : Ze1 o ((us.set i (us.getD j 0)).set j (us.getD i 0)) (i + 1) := by
  refine ⟨by simp [h.len], fun k hk => ?_⟩
  have e1 : us.getD j 0 = o.getD j 0 := by rw [h.get j (by omega), if_neg (by omega)]
  have e2 : us.getD i 0 = o.getD i 0 := by rw [h.get i (by omega), if_neg (by omega)]
  rw [e1, e2]
  by_cases hkj : k = j
  · subst hkj
    rw [if_pos (by omega), YA (by rw [List.length_set, h.len]; omega)]
    congr 1; omega
  · rw [Xi (by omega)]
    by_cases hki : k = i
    · subst hki
      rw [if_pos (by omega), YA (by rw [h.len]; omega)]
      congr 1; omega
    · rw [Xi (by omega), h.get k hk]
      by_cases hc : k < i ∨ o.length ≤ k + i
      · rw [if_pos hc, if_pos (by omega)]
      · rw [if_neg hc, if_neg (by omega)]
theorem Ze1.done {o us : List Nat} {i j : Nat} (h : Ze1 o us i) (hj : j + i + 1 = o.length) (hi : ¬ i < j) (hij : i ≤ j + 1) : us = o.reverse := by
  apply List.ext_getElem (by simp [h.len])
  intro k h1 h2
  have hk : k < o.length := by rw [← h.len]; exact h1
  have hg := h.get k hk
  rw [List.getD_eq_getElem?_getD, List.getElem?_eq_getElem h1] at hg
  simp only [Option.getD_some] at hg
  rw [hg, List.getElem_reverse]
  have hget : ∀ q, q < o.length → o.getD q 0 = o[q]! := fun q hq => by simp [List.getD_eq_getElem?_getD, List.getElem?_eq_getElem hq, hq]
  split
  · rw [hget _ (by omega)]; simp [show o.length - 1 - k < o.length by omega]
  · have : k = o.length - 1 - k := by omega
    rw [hget k hk]
    simp only [hk, getElem!_pos]
    congr 1
theorem Gw.retake {b rest len cap n} {d ds : List Nat} (h : Gw (Option.some (b, rest)) len cap 1 (Yr d)) (hl : ds.length = d.length) (hn : n ≤ len) : Gw (Option.some (b, Yr (ds.drop n) ++ rest)) n cap 1 (Yr (ds.take n)) := by
  have h1 := h.hl
  have h2 := h.hs _ rfl
  have h3 := h.hc
  rw [ZH] at h1
  simp only [List.length_append, ZH] at h2
  refine ⟨by rw [ZH, List.length_take]; omega, by omega, by simp, fun x hx => ?_⟩
  cases hx
  simp only [List.length_append, ZH, List.length_take, List.length_drop]
  omega
theorem digs_nil {B n : Nat} (hB : 2 ≤ B) (h : (ZP B n).length = 0) : n = 0 := by
  have := Yn hB n
  rw [List.length_eq_zero_iff.1 h] at this
  exact this.symm
theorem digs10_len {a k : Nat} (h : a ≤ 2 ^ k) : (ZP 10 a).length ≤ k + 1 := by
  have := Zbn h
  unfold decs at this
  split at this
  · rename_i e; rw [e, Xg]; simp
  · simpa using this
theorem text_pos {ds : List Nat} {n V : Nat} (hn : n ≤ ds.length) (hz : n = 0 ∨ ds.getD (n - 1) 0 ≠ 0) (h0 : 0 < n) (hv : val W64 (ds.take n) = val W64 ds) (hV : val W64 ds = V) : 0 < V := by
  rw [← hV, ← hv]
  exact val_pos (Zeh hn hz) (by simp; omega)
theorem text_zero {ds : List Nat} {n V : Nat} (h0 : ¬ 0 < n) (hv : val W64 (ds.take n) = val W64 ds) (hV : val W64 ds = V) : V = 0 := by
  rw [← hV, ← hv, show n = 0 by omega]; rfl
end Go.Cham
namespace Go.Cham
open Go Go.RowKit
section
variable {P : Program} {a : Act} {w : World} {n : Nat} {l : List (Nat × Value)} {K : Value → World → Prop}
variable {d : Option Tmp} {ty : TypeId} {pos : String} {af : Array Edge} {g0 : Option (Nat × Bool)}
theorem XH {t : TypeId} {x y : Operand} {kd : IntKind} {i : Int} {s : ByteArray} {j : Nat} (hL : Zt a n l) (hx : ev l x = some (.string s)) (hy : ev l y = some (.int kd i))
    (ht : P.underlying t = some .string) (hj : i = (j : Int)) (h : j < s.size) (k : K (.int .u8 (((bl s).getD j 0 : Nat) : Int)) w) : YI P ⟨d, .index t x y, ty, pos, af, g0⟩ a w K := by
  rw [← bl_getD s j h] at k
  refine Zeq (c := s.data.toList.getD j 0) hL hx hy ht ?_ ?_ k
  · first | omega | (constructor <;> omega)
  · exact str_at ⟨h, hj⟩
end
theorem QD {s : ByteArray} (h : ¬ s = (⟨#[]⟩ : ByteArray)) : 0 < s.size := by
  rcases Nat.eq_zero_or_pos s.size with e | e
  · exfalso; apply h
    apply bl_inj
    rw [List.length_eq_zero_iff.1 (show (bl s).length = 0 by rw [YZ]; exact e)]
    rfl
  · exact e
theorem Qd {s : ByteArray} (h : s = (⟨#[]⟩ : ByteArray)) : ¬ wd (bl s) := by subst h; exact fun h => h.1 rfl
theorem XK {l : List Nat} (h1 : 1 < l.length) (h : l.getD 0 0 = 48) : ¬ wd l := fun hw => by rcases hw.2.2 with q | q <;> omega
theorem not_wd_at {l : List Nat} {i : Nat} (hi : i < l.length) (h : l.getD i 0 < 48 ∨ 57 < l.getD i 0) : ¬ wd l := fun hw => by
  have := hw.2.1 (l.getD i 0) (by rw [List.getD_eq_getElem?_getD, List.getElem?_eq_getElem hi]; simp)
  omega
theorem wd_of {l : List Nat} {i : Nat} (h0 : 0 < l.length) (h48 : l.length = 1 ∨ l.getD 0 0 ≠ 48) (hi : l.length ≤ i) (h : ∀ k, k < i → 48 ≤ l.getD k 0 ∧ l.getD k 0 ≤ 57) : wd l := by
  refine ⟨by intro e; subst e; simp at h0, fun c hc => ?_, h48⟩
  obtain ⟨k, hk, rfl⟩ := List.getElem_of_mem hc
  have := h k (by omega)
  rw [List.getD_eq_getElem?_getD, List.getElem?_eq_getElem hk] at this
  simpa using this
theorem dig_step {l : List Nat} {i : Nat} (h : ∀ k, k < i → 48 ≤ l.getD k 0 ∧ l.getD k 0 ≤ 57) (hi : ¬ (l.getD i 0 < 48) ∧ ¬ (57 < l.getD i 0)) : ∀ k, k < i + 1 → 48 ≤ l.getD k 0 ∧ l.getD k 0 ≤ 57 := fun k hk => by
  rcases Nat.lt_or_ge k i with q | q
  · exact h k q
  · have : k = i := by omega
    subst this; omega
theorem pval_append (l m : List Nat) : Qt (l ++ m) = Qt l * 10 ^ m.length + Qt m := by
  unfold Qt
  rw [List.reverse_append, List.map_append, QM, List.length_map, List.length_reverse]
  rw [Nat.mul_comm, Nat.add_comm]
theorem pval_take_succ {l : List Nat} {i : Nat} (h : i < l.length) : Qt (l.take (i + 1)) = 10 * Qt (l.take i) + (l.getD i 0 - 48) := by
  rw [List.take_succ_eq_append_getElem h, pval_snoc, List.getD_eq_getElem?_getD, List.getElem?_eq_getElem h]; rfl
theorem pval_take_lt {l : List Nat} {i : Nat} (h : ∀ c ∈ l, 48 ≤ c ∧ c ≤ 57) : Qt (l.take i) < 10 ^ i := by
  have h1 := pval_lt (l := l.take i) (fun c hc => h c (List.mem_of_mem_take hc))
  refine Nat.lt_of_lt_of_le h1 (Nat.pow_le_pow_right (by decide) ?_)
  rw [List.length_take]; omega
theorem digit_at {l : List Nat} {i : Nat} (h : ∀ c ∈ l, 48 ≤ c ∧ c ≤ 57) (hi : i < l.length) : 48 ≤ l.getD i 0 ∧ l.getD i 0 ≤ 57 := by
  refine h _ ?_
  rw [List.getD_eq_getElem?_getD, List.getElem?_eq_getElem hi]; simp
theorem pow10_le {i : Nat} (h : i ≤ 19) : 10 ^ i ≤ 10000000000000000000 := by rw [← ten19]; exact Nat.pow_le_pow_right (by decide) h
structure ByInv (d us : List Nat) (y c0 i c : Nat) : Prop where
  len : us.length = d.length
  lt : ∀ e ∈ us, e < 18446744073709551616
  sum : val W64 (us.take i) + W64 ^ i * c = val W64 (d.take i) * y + c0
  rest : ∀ k, i ≤ k → us.getD k 0 = d.getD k 0
  cb : c < y
theorem ByInv.start {d : List Nat} {y c0 : Nat} (h : ∀ e ∈ d, e < 18446744073709551616) (hc : c0 < y) : ByInv d d y c0 0 c0 := ⟨rfl, h, by simp [val], fun _ _ => rfl, hc⟩
theorem by_sum {A B T X x y c c' o c0 : Nat} (h : A + T * c = B * y + c0) (hx : o + X * c' = x * y + c) : A + T * o + T * X * c' = (B + T * x) * y + c0 := by
  have e := congrArg (T * ·) hx
  simp only [Nat.mul_add] at e
  rw [Nat.add_mul, Nat.mul_assoc T x y, Nat.mul_assoc T X c']
  omega
theorem ByInv.step {d us : List Nat} {y c0 i c o c' : Nat} (h : ByInv d us y c0 i c) (hi : i < d.length) (hy : y < 18446744073709551616)
    (ho : o = (us.getD i 0 * y % 18446744073709551616 + c + 0) % 18446744073709551616) (hc : c' = us.getD i 0 * y / 18446744073709551616 + (us.getD i 0 * y % 18446744073709551616 + c + 0) / 18446744073709551616) : ByInv d (us.set i o) y c0 (i + 1) c' := by
  have hx : us.getD i 0 < 18446744073709551616 := ZQ h.lt (by decide) _
  have hsum : o + 18446744073709551616 * c' = us.getD i 0 * y + c := by omega
  refine ⟨by simp [h.len], Zaf h.lt (by omega), ?_, fun k hk => ?_, ?_⟩
  · rw [YG _ _ _ (by rw [List.length_set, h.len]; omega), Zcg, YA (by rw [h.len]; omega), YG _ _ _ hi, ← h.rest i (Nat.le_refl _), Nat.pow_succ]
    exact by_sum h.sum hsum
  · rw [Xi (by omega)]; exact h.rest k (by omega)
  · have h1 : us.getD i 0 * y ≤ 18446744073709551615 * y := Nat.mul_le_mul_right _ (by omega)
    have h2 := h.cb
    omega
theorem by_lt {x y c : Nat} (hx : x < 18446744073709551616) (hc : c < y) : x * y / 18446744073709551616 + (x * y % 18446744073709551616 + c + 0) / 18446744073709551616 < y := by
  have h1 : x * y ≤ 18446744073709551615 * y := Nat.mul_le_mul_right _ (by omega)
  omega
theorem ByInv.done {d us : List Nat} {y c0 i c : Nat} (h : ByInv d us y c0 i c) (hi : d.length ≤ i) (hi2 : i = d.length) : val W64 us + W64 ^ us.length * c = val W64 d * y + c0 := by
  have hs := h.sum
  rw [List.take_of_length_le (by rw [h.len]; omega), List.take_of_length_le hi] at hs
  rw [h.len, ← hi2]; exact hs
theorem val_snoc (ds : List Nat) (c : Nat) : val W64 (ds ++ [c]) = val W64 ds + W64 ^ ds.length * c := by rw [QM]; simp [val]
theorem lt_snoc {ds : List Nat} {c B : Nat} (h : ∀ e ∈ ds, e < B) (hc : c < B) : ∀ e ∈ ds ++ [c], e < B := by
  intro e he
  rcases List.mem_append.1 he with q | q
  · exact h e q
  · simp at q; omega
theorem parse_next {l t : List Nat} {k n V c : Nat} (ht : t = l.drop k) (hV : V = Qt (l.take k)) (hn : n ≤ t.length) (hc : c = Qt (t.take n)) : V * 10 ^ n + c = Qt (l.take (k + n)) := by
  have e : l.take (k + n) = l.take k ++ t.take n := by rw [ht, List.take_add]
  rw [e, pval_append, ← hV, ← hc]
  congr 2
  rw [List.length_take]
  congr 1
  omega
theorem Gw.same {g : Option (Nat × List Value)} {len cap : Nat} {d ds : List Nat} (h : Gw g len cap 1 (Yr d)) (hl : ds.length = d.length) : Gw g len cap 1 (Yr ds) := by
  have h1 := h.hl
  rw [ZH] at h1
  refine ⟨by rw [ZH]; omega, h.hc, h.hn, fun x hx => ?_⟩
  have := h.hs x hx
  simp only [List.length_append, ZH] at this ⊢
  omega
end Go.Cham
namespace Go.Cham
open Go
theorem Gn.rek {S : Sh} {c : Value} {n k k' : Nat} (h : Gn S c n k) (hk : n ≤ 2 ^ k') : Gn S c n k' := ⟨hk, h.2⟩
theorem Gn.cut {S : Sh} {p : Option Addr} {len cap n k : Nat} {ds : List Nat} (h : Gd S p len cap ds) (hn : n ≤ len) (hz : n = 0 ∨ ds.getD (n - 1) 0 ≠ 0) (hv : val W16 (ds.take n) = val W16 ds) (hk : val W16 ds ≤ 2 ^ k) : Gn S (.slice p n cap) (val W16 ds) k := by
  have hl := h.hlen
  refine Gn.ofGd (ds := ds.take n) ⟨by rw [List.length_take]; omega, by have := h.hcap; omega, by have := h.hbig; omega, fun d hd => h.hlt d (List.mem_of_mem_take hd), fun h0 => ?_⟩ (Zeh (by omega) hz) hv.symm hk
  obtain ⟨b, off, pre, rest, e, r, q⟩ := h.row (by omega)
  refine ⟨b, off, pre, u32s (ds.drop n) ++ rest, e, ?_, q⟩
  rw [show pre ++ u32s (ds.take n) ++ (u32s (ds.drop n) ++ rest) = pre ++ u32s ds ++ rest from by rw [List.append_assoc, ← u32s_split, List.append_assoc]]
  exact r
structure Add16 (x y us : List Nat) (i c : Nat) : Prop where
  len : us.length = i
  lt : ∀ e ∈ us, e < 65536
  c1 : c ≤ 1
  sum : val W16 us + W16 ^ i * c = val W16 (x.take i) + val W16 (y.take i)
theorem Add16.start {x y : List Nat} : Add16 x y [] 0 0 := ⟨rfl, by simp, by omega, by simp [val]⟩
theorem take16 (ds : List Nat) (i : Nat) : val W16 (ds.take (i + 1)) = val W16 (ds.take i) + W16 ^ i * ds.getD i 0 := by
  rcases Nat.lt_or_ge i ds.length with h | h
  · exact YG _ _ _ h
  · rw [List.take_of_length_le (by omega), List.take_of_length_le h, Zc5 h]; simp
theorem val16_snoc (ds : List Nat) (c : Nat) : val W16 (ds ++ [c]) = val W16 ds + W16 ^ ds.length * c := by rw [QM]; simp [val]
theorem add16_sum {A T c X Y x y o c' : Nat} (h : A + T * c = X + Y) (hx : o + 65536 * c' = c + x + y) : (A + T * o) + T * 65536 * c' = (X + T * x) + (Y + T * y) := by
  have e := congrArg (T * ·) hx
  simp only [Nat.mul_add] at e
  rw [Nat.mul_assoc T 65536 c']
  omega
theorem Add16.step {x y us : List Nat} {i c : Nat} (h : Add16 x y us i c) (hx : ∀ e ∈ x, e < 65536) (hy : ∀ e ∈ y, e < 65536) {s : Nat} (hs : s = c + x.getD i 0 + y.getD i 0) : Add16 x y (us ++ [s % 65536]) (i + 1) (s / 65536) := by
  have h1 := ZQ hx (by decide) i
  have h2 := ZQ hy (by decide) i
  have h3 := h.c1
  refine ⟨by rw [List.length_append, h.len]; rfl, lt_snoc h.lt (Nat.mod_lt _ (by decide)), by omega, ?_⟩
  rw [val16_snoc, h.len, take16, take16, Nat.pow_succ]
  exact add16_sum h.sum (by omega)
theorem Add16.done {x y us : List Nat} {i : Nat} (h : Add16 x y us i 0) (hx : x.length ≤ i) (hy : y.length ≤ i) : val W16 us = val W16 x + val W16 y := by
  have := h.sum
  rw [List.take_of_length_le hx, List.take_of_length_le hy] at this
  simpa using this
structure Sub16 (x y us : List Nat) (i c : Nat) : Prop where
  len : us.length = i
  lt : ∀ e ∈ us, e < 65536
  c1 : c ≤ 1
  sum : val W16 us + val W16 (y.take i) = val W16 (x.take i) + W16 ^ i * c
theorem Sub16.start {x y : List Nat} : Sub16 x y [] 0 0 := ⟨rfl, by simp, by omega, by simp [val]⟩
theorem sub16_sum {A T c X Y x y o c' : Nat} (h : A + Y = X + T * c) (hx : o + y + c = x + 65536 * c') : (A + T * o) + (Y + T * y) = (X + T * x) + T * 65536 * c' := by
  have e := congrArg (T * ·) hx
  simp only [Nat.mul_add] at e
  rw [Nat.mul_assoc T 65536 c']
  omega
theorem Sub16.step {x y us : List Nat} {i c : Nat} (h : Sub16 x y us i c) (hx : ∀ e ∈ x, e < 65536) (hy : ∀ e ∈ y, e < 65536) {s : Nat} (hs : s = x.getD i 0 + 65536 - c - y.getD i 0) : Sub16 x y (us ++ [s % 65536]) (i + 1) (1 - s / 65536) := by
  have h1 := ZQ hx (by decide) i
  have h2 := ZQ hy (by decide) i
  have h3 := h.c1
  refine ⟨by rw [List.length_append, h.len]; rfl, lt_snoc h.lt (Nat.mod_lt _ (by decide)), by omega, ?_⟩
  rw [val16_snoc, h.len, take16, take16, Nat.pow_succ]
  exact sub16_sum h.sum (by omega)
theorem Sub16.done {x y us : List Nat} {i c : Nat} (h : Sub16 x y us i c) (hx : x.length = i) (hle : val W16 y ≤ val W16 x) (hy : y.length ≤ i) : val W16 us = val W16 x - val W16 y := by
  have hs := h.sum
  rw [List.take_of_length_le hy, List.take_of_length_le (show x.length ≤ i by omega)] at hs
  have hl := Zd7 (B := W16) (by decide) us h.lt
  rw [h.len] at hl
  exact borrow0 hs hl hle h.c1
structure Mul16 (x y us : List Nat) (i j c : Nat) : Prop where
  len : us.length = x.length + y.length
  lt : ∀ e ∈ us, e < 65536
  cb : c < 65536
  sum : val W16 us + W16 ^ (i + j) * c = val W16 (x.take i) * val W16 y + W16 ^ i * (x.getD i 0 * val W16 (y.take j))
  zero : ∀ k, i + j ≤ k → i + y.length ≤ k → us.getD k 0 = 0
  Zdd : y.length < j → c = 0
theorem Mul16.start {x y : List Nat} {n : Nat} (hn : n = x.length + y.length) : Mul16 x y (List.replicate n 0) 0 0 0 :=
  ⟨by simp [hn], by simp, by decide, by rw [val_rep0]; simp [val], fun k _ _ => rep_getD _ _, fun h => by omega⟩
theorem mul16_sum {A A' T c R Q x yj Y c' o u : Nat} (h1 : A' + T * u = A + T * o) (h2 : A + T * c = R + Q * (x * Y)) (h3 : o + 65536 * c' = u + c + x * yj) {P : Nat} (hT : T = Q * P) : A' + T * 65536 * c' = R + Q * (x * (Y + P * yj)) := by
  have e := congrArg (T * ·) h3
  simp only [Nat.mul_add] at e
  rw [Nat.mul_assoc T 65536 c']
  have e2 : T * (x * yj) = Q * (x * (P * yj)) := by rw [hT]; simp only [Nat.mul_assoc, Nat.mul_left_comm, Nat.mul_comm]
  rw [Nat.mul_add x, Nat.mul_add Q]
  omega
theorem mul16_le {x y : Nat} (hx : x < 65536) (hy : y < 65536) : x * y ≤ 4294836225 := by
  have := Nat.mul_le_mul (Nat.le_of_lt_succ hx) (Nat.le_of_lt_succ hy)
  omega
theorem Mul16.step {x y us : List Nat} {i j c m s : Nat} (h : Mul16 x y us i j c) (hx : ∀ e ∈ x, e < 65536) (hy : ∀ e ∈ y, e < 65536) (hm : m = i + j) (hi : i < x.length) (hj : j ≤ y.length)
    (hs : s = us.getD m 0 + c + x.getD i 0 * y.getD j 0) : Mul16 x y (us.set m (s % 65536)) i (j + 1) (s / 65536) := by
  subst hm
  have hx1 := ZQ hx (by decide) i
  have hy1 := ZQ hy (by decide) j
  have hu1 := ZQ h.lt (by decide) (i + j)
  have hp := mul16_le hx1 hy1
  have hc := h.cb
  have hv := Zdi W16 us (i + j) (s % 65536)
  rcases Nat.lt_or_ge (i + j) us.length with hlt | hge
  · have hv := hv hlt
    refine ⟨by simp [h.len], Zaf h.lt (Nat.mod_lt _ (by decide)), by omega, ?_, fun k h1 h2 => ?_, fun hl => ?_⟩
    · rw [show i + (j + 1) = (i + j) + 1 by omega, Nat.pow_succ, take16]
      exact mul16_sum hv h.sum (by omega) (Nat.pow_add _ _ _)
    · rw [Xi (by omega)]; exact h.zero k (by omega) h2
    · have hjj : j = y.length := by omega
      have h0 : us.getD (i + j) 0 = 0 := h.zero _ (Nat.le_refl _) (by omega)
      have h1 : y.getD j 0 = 0 := Zc5 (by omega)
      rw [hs, h0, h1]
      simp
      exact hc
  · 
    exfalso
    have := h.len
    omega
theorem Mul16.next {x y us : List Nat} {i j : Nat} (h : Mul16 x y us i j 0) (hj : y.length ≤ j) (hj2 : j ≤ y.length + 1) (hi : i < x.length) : Mul16 x y us (i + 1) 0 0 := by
  refine ⟨h.len, h.lt, by decide, ?_, fun k h1 h2 => h.zero k (by omega) (by omega), fun h => by omega⟩
  have := h.sum
  rw [List.take_of_length_le hj] at this
  simp only [Nat.mul_zero, Nat.add_zero, List.take_zero, val] at this ⊢
  rw [this, take16, Nat.add_mul, Nat.mul_assoc]
theorem Mul16.done {x y us : List Nat} {i : Nat} (h : Mul16 x y us i 0 0) (hi : x.length ≤ i) : val W16 us = val W16 x * val W16 y := by
  have := h.sum
  rw [List.take_of_length_le hi] at this
  simpa [val] using this
structure Div16 (x qs : List Nat) (b kk r : Nat) : Prop where
  len : qs.length = x.length
  lt : ∀ e ∈ qs, e < 65536
  le : kk ≤ x.length
  sum : val W16 (x.drop kk) = val W16 (qs.drop kk) * b + r
  rb : r < b
  low : ∀ k, k < kk → qs.getD k 0 = 0
theorem Div16.start {x : List Nat} {n b : Nat} (hb : 0 < b) (hn : n = x.length) : Div16 x (List.replicate n 0) b n 0 :=
  ⟨by simp [hn], by simp, by omega, by rw [hn, List.drop_length, List.drop_eq_nil_of_le (by simp)]; simp [val], hb, fun k _ => rep_getD _ _⟩
theorem Div16.top {x qs : List Nat} {b kk r : Nat} (h : Div16 x qs b kk r) (hx : ∀ e ∈ x, e < 65536) : x.getD (kk - 1) 0 + 65536 * r < 65536 * b := by
  have h1 := ZQ hx (by decide) (kk - 1)
  have h2 := h.rb
  omega
theorem div16_sum {X Q x q r b r' : Nat} (h : X = Q * b + r) (h2 : x + 65536 * r = q * b + r') : x + 65536 * X = (q + 65536 * Q) * b + r' := by
  rw [h, Nat.add_mul, Nat.mul_assoc 65536 Q b]
  omega
theorem Div16.step {x qs : List Nat} {b kk r q : Nat} (h : Div16 x qs b kk r) (hk : 0 < kk) (hq : q < 65536) (h1 : q * b ≤ x.getD (kk - 1) 0 + 65536 * r) (h2 : x.getD (kk - 1) 0 + 65536 * r < (q + 1) * b) :
    Div16 x (qs.set (kk - 1) q) b (kk - 1) (x.getD (kk - 1) 0 + 65536 * r - q * b) := by
  have hl := h.le
  have hlen := h.len
  refine ⟨by simp [h.len], Zaf h.lt hq, by omega, ?_, by rw [Nat.add_mul] at h2; omega, fun k hk' => ?_⟩
  · rw [Ys (ds := x) (by omega), Ys (ds := qs.set (kk - 1) q) (by rw [List.length_set]; omega), YA (by omega), show kk - 1 + 1 = kk by omega, List.drop_set_of_lt (by omega)]
    exact div16_sum h.sum (by omega)
  · rw [Xi (by omega)]; exact h.low k (by omega)
theorem Div16.done {x qs : List Nat} {b r : Nat} (h : Div16 x qs b 0 r) : val W16 qs = val W16 x / b ∧ r = val W16 x % b := by
  have hs := h.sum
  simp only [List.drop_zero] at hs
  have hb := h.rb
  constructor
  · rw [hs, Nat.mul_comm, Nat.mul_add_div (by omega), Nat.div_eq_of_lt hb]; omega
  · rw [hs, Nat.mul_comm, Nat.mul_add_mod, Nat.mod_eq_of_lt hb]
structure Half (r b lo hi : Nat) : Prop where
  le : lo * b ≤ r
  lt : r < hi * b
  top : hi ≤ 65536
theorem Half.start {r b : Nat} (h : r < 65536 * b) : Half r b 0 65536 := ⟨by omega, h, Nat.le_refl _⟩
section
open Go.RowKit
variable {P : Program} {a : Act} {w : World} {n : Nat} {l : List (Nat × Value)} {K : Value → World → Prop}
variable {d : Option Tmp} {ty : TypeId} {pos : String} {af : Array Edge} {g0 : Option (Nat × Bool)}
end
end Go.Cham
namespace Go.Cham
open Go
def sI (mi : Bool) (a : Nat) : Int := if mi = true then -(a : Int) else a
def Yx (z : Int) : Int := if z = 0 then 0 else if z < 0 then -1 else 1
def cmpZ (a b : Int) : Int := if a < b then -1 else if b < a then 1 else 0
def Xo (a b : Rat) : Int := if a < b then -1 else if b < a then 1 else 0
theorem Yp {z : Int} : Yx z = 0 ↔ z = 0 := by
  unfold Yx
  split
  · simp_all
  · split <;> simp_all
theorem Qm {z : Int} : Yx z < 0 ↔ z < 0 := by
  unfold Yx
  split
  · omega
  · split <;> omega
theorem sgnZ_pos {z : Int} : 0 < Yx z ↔ 0 < z := by
  unfold Yx
  split
  · omega
  · split <;> omega
theorem sgnZ_cases (z : Int) : Yx z = -1 ∨ Yx z = 0 ∨ Yx z = 1 := by
  unfold Yx
  split
  · simp
  · split <;> simp
theorem bitlen_one {n : Nat} : Zw n = 1 ↔ n = 1 := by
  unfold Zw
  split
  · omega
  · rename_i h
    constructor
    · intro e
      have h1 : n.log2 = 0 := by omega
      have := (Nat.log2_lt (n := n) (k := 1) h).1 (by omega)
      omega
    · intro e; subst e; rfl
theorem bitlen_gt1 {n : Nat} : 1 < Zw n ↔ 1 < n := by
  have h0 := @XC n
  have h1 := @bitlen_one n
  omega
theorem sI_abs (mi : Bool) (a : Nat) : (sI mi a).natAbs = a := by unfold sI; cases mi <;> simp
theorem mul_sI {a b : Int} : sI (decide (¬ (decide (a < 0)) = (decide (b < 0)))) (a.natAbs * b.natAbs) = a * b := by
  unfold sI
  rcases Int.lt_or_le a 0 with ha | ha <;> rcases Int.lt_or_le b 0 with hb | hb
  · have e : a * b = (-a) * (-b) := by rw [Int.neg_mul_neg]
    rw [e]
    simp only [ha, hb, decide_true, not_true_eq_false, decide_false, Bool.false_eq_true, if_false]
    rw [Int.natCast_mul]; congr 1 <;> omega
  · simp only [ha, show ¬ b < 0 by omega, decide_true, decide_false]
    simp only [Bool.true_eq_false, not_false_eq_true, decide_true, if_true]
    rw [Int.natCast_mul, ← Int.neg_mul]; congr 1 <;> omega
  · simp only [hb, show ¬ a < 0 by omega, decide_true, decide_false]
    simp only [Bool.false_eq_true, not_false_eq_true, decide_true, if_true]
    rw [Int.natCast_mul, ← Int.mul_neg]; congr 1 <;> omega
  · simp only [show ¬ a < 0 by omega, show ¬ b < 0 by omega, decide_false, not_true_eq_false, Bool.false_eq_true, if_false]
    rw [Int.natCast_mul]; congr 1 <;> omega
theorem add_sI {a b : Int} (h : (decide (a < 0)) = (decide (b < 0))) : sI (decide (a < 0)) (a.natAbs + b.natAbs) = a + b := by
  rw [decide_eq_decide] at h
  unfold sI
  by_cases ha : a < 0
  · rw [if_pos (decide_eq_true ha)]; have := h.1 ha; omega
  · rw [if_neg (by simpa using ha)]; have : ¬ b < 0 := fun q => ha (h.2 q); omega
theorem dif_sI {a b : Int} (h : ¬ (decide (a < 0)) = (decide (b < 0))) (hl : b.natAbs ≤ a.natAbs) : sI (decide (a < 0)) (a.natAbs - b.natAbs) = a + b := by
  rw [decide_eq_decide] at h
  unfold sI
  by_cases ha : a < 0
  · rw [if_pos (decide_eq_true ha)]; have : ¬ b < 0 := fun q => h ⟨fun _ => q, fun _ => ha⟩; omega
  · rw [if_neg (by simpa using ha)]; have : b < 0 := by
      rcases Int.lt_or_le b 0 with q | q
      · exact q
      · exact absurd ⟨fun p => absurd p ha, fun p => by omega⟩ h
    omega
theorem neg_sI {a : Int} : sI (!(decide (a < 0))) a.natAbs = -a := by
  unfold sI
  by_cases ha : a < 0
  · simp [ha]; omega
  · simp [ha]; omega
theorem cmpZ_nn {a b : Int} (ha : ¬ a < 0) (hb : ¬ b < 0) : cmpN a.natAbs b.natAbs = cmpZ a b := by unfold cmpN cmpZ; repeat' split <;> omega
theorem cmpZ_np {a b : Int} (ha : a < 0) (hb : ¬ b < 0) : cmpZ a b = -1 := by unfold cmpZ; rw [if_pos (by omega)]
theorem cmpZ_pn {a b : Int} (ha : ¬ a < 0) (hb : b < 0) : cmpZ a b = 1 := by unfold cmpZ; rw [if_neg (by omega), if_pos (by omega)]
theorem cmpZ_neg {a b : Int} (ha : a < 0) (hb : b < 0) : cmpN b.natAbs a.natAbs = cmpZ a b := by unfold cmpN cmpZ; repeat' split <;> omega
theorem den_ne {q : Rat} : (q.den : Rat) ≠ 0 := by
  intro z
  have : q.den = 0 := by exact_mod_cast z
  exact q.den_nz this
theorem mkRat_rat (q : Rat) : mkRat q.num q.den = q := Rat.mkRat_self q
theorem mkRat_one (z : Int) : mkRat z 1 = (z : Rat) := by
  rw [Rat.mkRat_eq_div]
  have : ((1 : Nat) : Rat) = 1 := rfl
  rw [this]
  grind
theorem mkRat_add {a b : Rat} : mkRat (a.num * (b.den : Int) + b.num * (a.den : Int)) (a.den * b.den) = a + b := by
  rw [Rat.mkRat_eq_div]
  have ha := Xh a
  have hb := Xh b
  have h1 : ((a.num * (b.den : Int) + b.num * (a.den : Int) : Int) : Rat) = (a.num : Rat) * (b.den : Rat) + (b.num : Rat) * (a.den : Rat) := by rw [Rat.intCast_add, Rat.intCast_mul, Rat.intCast_mul]; rfl
  have h2 : ((a.den * b.den : Nat) : Rat) = (a.den : Rat) * (b.den : Rat) := Rat.natCast_mul _ _
  rw [h1, h2, ← ha, ← hb]
  have h3 := @den_ne a
  have h4 := @den_ne b
  grind
theorem mkRat_sub {a b : Rat} : mkRat (a.num * (b.den : Int) - b.num * (a.den : Int)) (a.den * b.den) = a - b := by
  rw [Rat.mkRat_eq_div]
  have ha := Xh a
  have hb := Xh b
  have h1 : ((a.num * (b.den : Int) - b.num * (a.den : Int) : Int) : Rat) = (a.num : Rat) * (b.den : Rat) - (b.num : Rat) * (a.den : Rat) := by rw [Rat.intCast_sub, Rat.intCast_mul, Rat.intCast_mul]; rfl
  have h2 : ((a.den * b.den : Nat) : Rat) = (a.den : Rat) * (b.den : Rat) := Rat.natCast_mul _ _
  rw [h1, h2, ← ha, ← hb]
  have h3 := @den_ne a
  have h4 := @den_ne b
  grind
theorem mkRat_mul {a b : Rat} : mkRat (a.num * b.num) (a.den * b.den) = a * b := by
  rw [Rat.mkRat_eq_div]
  have ha := Xh a
  have hb := Xh b
  have h1 : ((a.num * b.num : Int) : Rat) = (a.num : Rat) * (b.num : Rat) := Rat.intCast_mul _ _
  have h2 : ((a.den * b.den : Nat) : Rat) = (a.den : Rat) * (b.den : Rat) := Rat.natCast_mul _ _
  rw [h1, h2, ← ha, ← hb]
  have h3 := @den_ne a
  have h4 := @den_ne b
  grind
theorem mkRat_div {a b : Rat} (hb0 : b.num ≠ 0) : mkRat (a.num * Yx b.num * (b.den : Int)) (a.den * b.num.natAbs) = a / b := by
  rw [Rat.mkRat_eq_div]
  have ha := Xh a
  have hb := Xh b
  have h1 : ((a.num * Yx b.num * (b.den : Int) : Int) : Rat) = (a.num : Rat) * ((Yx b.num : Int) : Rat) * (b.den : Rat) := by rw [Rat.intCast_mul, Rat.intCast_mul]; rfl
  have h2 : ((a.den * b.num.natAbs : Nat) : Rat) = (a.den : Rat) * ((b.num.natAbs : Nat) : Rat) := Rat.natCast_mul _ _
  have h5 : ((b.num.natAbs : Nat) : Rat) = ((Yx b.num : Int) : Rat) * (b.num : Rat) := by
    rw [← Rat.intCast_mul]
    have : ((b.num.natAbs : Nat) : Int) = Yx b.num * b.num := by
      unfold Yx
      split
      · omega
      · split <;> omega
    rw [← this]; rfl
  have h6 : ((Yx b.num : Int) : Rat) * ((Yx b.num : Int) : Rat) = 1 := by
    rw [← Rat.intCast_mul]
    have : Yx b.num * Yx b.num = 1 := by
      unfold Yx
      rw [if_neg hb0]
      split <;> rfl
    rw [this]; rfl
  have h7 : (b.num : Rat) ≠ 0 := by intro z; exact hb0 (by exact_mod_cast z)
  rw [h1, h2, h5]
  have h3 := @den_ne a
  have h4 := @den_ne b
  have hb' : b ≠ 0 := by intro e; subst e; exact hb0 rfl
  have h8 : ((Yx b.num : Int) : Rat) ≠ 0 := by intro e; rw [e] at h6; simp at h6
  rw [← ha, ← hb]
  generalize ((Yx b.num : Int) : Rat) = s at *
  grind
theorem mkRat_num0 {z : Int} {d : Nat} (hd : 0 < d) (h : ¬ 1 < z.natAbs.gcd d) : (mkRat z d).num = z ∧ (mkRat z d).den = d := by
  have hg : z.natAbs.gcd d = 1 := by
    have := Nat.gcd_pos_of_pos_right z.natAbs hd
    omega
  exact ⟨mkRat_num1 (by omega) hg, mkRat_den1 (by omega) hg⟩
theorem sI_div {z : Int} {g : Nat} (h : g ∣ z.natAbs) (mi : Bool) (hm : mi = true ↔ z < 0) : sI mi (z.natAbs / g) = z / (g : Int) := by
  obtain ⟨k, hk⟩ := h
  unfold sI
  rcases Nat.eq_zero_or_pos g with e | e
  · subst e; simp
  · rw [hk, Nat.mul_div_cancel_left _ e]
    cases mi with
    | true =>
      have hz := hm.1 rfl
      have : z = (g : Int) * (-(k : Int)) := by
        rw [Int.mul_neg, ← Int.natCast_mul, ← hk]; omega
      rw [this, Int.mul_ediv_cancel_left _ (by omega)]; rfl
    | false =>
      have hz : ¬ z < 0 := fun q => by have := hm.2 q; cases this
      have : z = (g : Int) * (k : Int) := by
        rw [← Int.natCast_mul, ← hk]; omega
      rw [this, Int.mul_ediv_cancel_left _ (by omega)]; rfl
theorem Zcn {z : Int} {d : Nat} (hd : 0 < d) (mi : Bool) (hm : mi = true ↔ z < 0) : sI mi (z.natAbs / z.natAbs.gcd d) = (mkRat z d).num := by
  rw [mkRat_num _ _ (by omega), sI_div (Nat.gcd_dvd_left _ _) mi hm]
theorem mkRat_deng {z : Int} {d : Nat} (hd : 0 < d) : d / z.natAbs.gcd d = (mkRat z d).den := (mkRat_den _ _ (by omega)).symm
theorem Xd {z : Int} {d k : Nat} (hd : 0 < d) (h : d ≤ 2 ^ k) : (mkRat z d).den ≤ 2 ^ k := by
  rw [mkRat_den _ _ (by omega)]; exact Nat.le_trans (Nat.div_le_self _ _) h
theorem Xc {z : Int} {d k : Nat} (hd : 0 < d) (h : z.natAbs ≤ 2 ^ k) : (mkRat z d).num.natAbs ≤ 2 ^ k := by
  rw [← Zcn hd (decide (z < 0)) (by simp), sI_abs]
  exact Nat.le_trans (Nat.div_le_self _ _) h
theorem In.le {S : Sh} {cs : List Value} {z : Int} {k : Nat} (h : In S cs z k) : z.natAbs ≤ 2 ^ k := by
  obtain ⟨us, _, hn⟩ := h.abs
  exact hn.1
theorem In.rek {S : Sh} {cs : List Value} {z : Int} {k k' : Nat} (h : In S cs z k) (hk : z.natAbs ≤ 2 ^ k') : In S cs z k' := by
  obtain ⟨a, b, c, d, e, f, g, i, j⟩ := h
  refine ⟨a, b, c, d, e, f, ?_, i, j⟩
  rw [i] at hk
  cases a <;> simpa using hk
theorem Na.rek {S : Sh} {cs : List Value} {n k k' : Nat} (h : Na S cs n k) (hk : n ≤ 2 ^ k') : Na S cs n k' := ⟨hk, h.2⟩
theorem In.cases {S : Sh} {cs : List Value} {z : Int} {k : Nat} (h : In S cs z k) : (∃ c1 c2 m, cs = [.bool true, c1, c2] ∧ Na S [c1, c2] m k ∧ z = -(m : Int) ∧ 0 < m) ∨ (∃ c1 c2 m, cs = [.bool false, c1, c2] ∧ Na S [c1, c2] m k ∧ z = (m : Int)) := by
  obtain ⟨neg, c1, c2, m, e, hn, hm, hz, h0⟩ := h
  cases neg with
  | true =>
    refine .inl ⟨c1, c2, m, e, ⟨hm, c1, c2, rfl, hn⟩, by simpa using hz, ?_⟩
    rcases Nat.eq_zero_or_pos m with q | q
    · have := h0 q; cases this
    · exact q
  | false => exact .inr ⟨c1, c2, m, e, ⟨hm, c1, c2, rfl, hn⟩, by simpa using hz⟩
theorem Na.toR {S : Sh} {cs : List Value} {n m k k' : Nat} (h : Na S cs n k) (e : n = m) (hk : m ≤ 2 ^ k') : Na S cs m k' := by subst e; exact ⟨hk, h.2⟩
theorem In.toR {S : Sh} {cs : List Value} {z y : Int} {k k' : Nat} (h : In S cs z k) (e : z = y) (hk : y.natAbs ≤ 2 ^ k') : In S cs y k' := by subst e; exact h.rek hk
theorem Gn.toR {S : Sh} {c : Value} {n m k k' : Nat} (h : Gn S c n k) (e : n = m) (hk : m ≤ 2 ^ k') : Gn S c m k' := by subst e; exact ⟨hk, h.2⟩
theorem u64_wrap_neg {n : Int} (h0 : n < 0) (h1 : -9223372036854775808 ≤ n) : IntKind.u64.wrap n = n + 18446744073709551616 := by
  have : IntKind.u64.wrap n = n % 18446744073709551616 := by simp [IntKind.wrap, IntKind.bits, IntKind.signed]
  rw [this]; omega
theorem u64_wrap_neg2 {n : Int} (h0 : n < 0) (h1 : -9223372036854775808 ≤ n) : IntKind.u64.wrap (0 - (n + 18446744073709551616)) = ((n.natAbs : Nat) : Int) := by
  have : IntKind.u64.wrap (0 - (n + 18446744073709551616)) = (0 - (n + 18446744073709551616)) % 18446744073709551616 := by simp [IntKind.wrap, IntKind.bits, IntKind.signed]
  rw [this]; omega
theorem den_one {q : Rat} (h : q.den - 1 = 0) : q.den = 1 := by have := q.den_pos; omega
theorem Zcm {q : Rat} (h : q.den = 1) : (q.num : Rat) = q := by
  have := mkRat_rat q
  rw [h, mkRat_one] at this
  exact this
theorem cast_add' {a b : Rat} (ha : a.den = 1) (hb : b.den = 1) : ((a.num + b.num : Int) : Rat) = a + b := by rw [Rat.intCast_add, Zcm ha, Zcm hb]
theorem cast_sub' {a b : Rat} (ha : a.den = 1) (hb : b.den = 1) : ((a.num - b.num : Int) : Rat) = a - b := by rw [Rat.intCast_sub, Zcm ha, Zcm hb]
theorem cast_mul' {a b : Rat} (ha : a.den = 1) (hb : b.den = 1) : ((a.num * b.num : Int) : Rat) = a * b := by rw [Rat.intCast_mul, Zcm ha, Zcm hb]
theorem cmpQ_den {a b : Rat} : cmpZ (a.num * (b.den : Int)) (b.num * (a.den : Int)) = Xo a b := by
  unfold cmpZ Xo
  simp only [Rat.lt_iff]
theorem cmpQ_int {a b : Rat} (ha : a.den = 1) (hb : b.den = 1) : cmpZ a.num b.num = Xo a b := by
  rw [← cmpQ_den, ha, hb]; simp
theorem neg_num (a : Rat) : (-a).num = -a.num ∧ (-a).den = a.den := ⟨rfl, rfl⟩
theorem Fs.ofInt {S : Sh} {cs : List Value} {z : Int} {k : Nat} (h : In S cs z k) : Fs S (cs ++ [.int .u64 0, .slice none 0 0]) [(z : Rat)] k :=
  Fs.mk (q := (z : Rat)) h (Na.zero S k) Nat.one_le_two_pow
theorem Fs.ofParts {S : Sh} {us vs : List Value} {z : Int} {n k k' K : Nat} {q : Rat} (h1 : In S us z k) (h2 : Na S vs n k') (e1 : z = q.num) (e2 : n = q.den - 1) (b1 : q.num.natAbs ≤ 2 ^ K) (b2 : q.den ≤ 2 ^ K) : Fs S (us ++ vs) [q] K := by
  subst e1 e2
  exact Fs.mk (h1.rek b1) (h2.rek (by omega)) b2
theorem ztxt_neg {a : Int} (h : a < 0) : (⟨#[45]⟩ : ByteArray) ++ txt a.natAbs = YJ (ztxt a) := by
  unfold ztxt txt
  rw [if_pos h, ← Zap]
  rfl
theorem ztxt_nn {a : Int} (h : ¬ a < 0) : txt a.natAbs = YJ (ztxt a) := by
  unfold ztxt txt
  rw [if_neg h]; rfl
theorem rtxt_int {q : Rat} (h : q.den = 1) : YJ (ztxt q.num) = YJ (rtxt q) := by unfold rtxt; rw [if_pos h, List.append_nil]
theorem rtxt_frac {q : Rat} (h : ¬ q.den = 1) : YJ (ztxt q.num) ++ (⟨#[47]⟩ : ByteArray) ++ txt q.den = YJ (rtxt q) := by
  unfold rtxt txt
  rw [if_neg h, show (⟨#[47]⟩ : ByteArray) = YJ [47] from rfl, Zap, Zap, List.append_assoc]; rfl
theorem ofBl_size (l : List Nat) : (YJ l).size = l.length := by unfold YJ; show (List.map UInt8.ofNat l).toArray.size = _; simp
theorem ztxt_len {z : Int} {k : Nat} (h : z.natAbs ≤ 2 ^ k) : (ztxt z).length ≤ k + 2 := by
  unfold ztxt
  have := Zbn h
  rw [List.length_append]
  split <;> simp <;> omega
end Go.Cham
namespace Go.Cham
open Go Go.RowKit Go.Proofs
theorem ret_of_below {P : Program} {f : FuncId} {args : Array Value} {S : Sh} {w : World} {v : Value} (hS : Ya S w) (h : Calls P f args w fun e w' => e = .returned v ∧ Below w.heap.size w w') : Calls P f args w (Ret S w (fun _ u => u = v)) := by
  refine Calls.mono h fun e w' ⟨h1, h2⟩ => ⟨v, S, h1, ⟨Sh.le.refl S, fun b o hb => ?_, fun b o hb => .inl ⟨o, hb⟩, h2⟩, rfl⟩
  rw [h2.block b (Ya.lt hS hb)]
  exact hS b o hb
def trimD (s : ByteArray) : ByteArray := ⟨(Lib.trimS s.data.toList [48, 49, 50, 51, 52, 53, 54, 55, 56, 57]).toArray⟩
theorem dig_mem {x : UInt8} : ([48, 49, 50, 51, 52, 53, 54, 55, 56, 57] : List UInt8).contains x = true ↔ 48 ≤ x.toNat ∧ x.toNat ≤ 57 := by
  revert x
  have key : ∀ n : Nat, n < 256 → (([48, 49, 50, 51, 52, 53, 54, 55, 56, 57] : List UInt8).contains (UInt8.ofNat n) = true ↔ 48 ≤ n ∧ n ≤ 57) := by decide +kernel
  intro x
  have := key x.toNat x.toNat_lt
  simpa using this
theorem Zeo {α : Type} {p : α → Bool} {l : List α} : l.dropWhile p = [] ↔ ∀ x ∈ l, p x = true := by
  induction l with
  | nil => simp
  | cons a r ih =>
    rw [List.dropWhile_cons]
    split
    · rename_i h; rw [ih]; simp [h]
    · rename_i h; simp [h]
theorem mem_of_trimRight {l cs : List UInt8} {x : UInt8} (h : ∀ y ∈ Lib.trimRightS l cs, cs.contains y = true) (hx : x ∈ l) : cs.contains x = true := by
  unfold Lib.trimRightS at h
  rcases Classical.em (l.reverse.dropWhile (cs.contains ·) = []) with e | e
  · exact Zeo.1 e x (by simpa using hx)
  · exfalso
    match e2 : l.reverse.dropWhile (cs.contains ·), e with
    | a :: r, _ =>
      have h1 : ¬ cs.contains a = true := by
        have := List.head_dropWhile_not (cs.contains ·) (l := l.reverse) (by rw [e2]; simp)
        simp only [e2, List.head_cons] at this
        rw [this]; simp
      exact h1 (h a (by rw [e2]; simp))
theorem trimD_nil {s : ByteArray} : trimD s = (⟨#[]⟩ : ByteArray) ↔ ∀ c ∈ bl s, 48 ≤ c ∧ c ≤ 57 := by
  have e1 : trimD s = (⟨#[]⟩ : ByteArray) ↔ Lib.trimS s.data.toList [48, 49, 50, 51, 52, 53, 54, 55, 56, 57] = [] := by
    unfold trimD
    constructor
    · intro h
      have := congrArg (fun x : ByteArray => x.data.toList) h
      simpa using this
    · intro h; rw [h]
  rw [e1]
  unfold Lib.trimS Lib.trimLeftS
  rw [Zeo]
  constructor
  · intro h c hc
    unfold bl at hc
    obtain ⟨x, hx, rfl⟩ := List.mem_map.1 hc
    exact dig_mem.1 (mem_of_trimRight h hx)
  · intro h x hx
    refine dig_mem.2 (h x.toNat (List.mem_map.2 ⟨x, ?_, rfl⟩))
    unfold Lib.trimRightS at hx
    rw [List.mem_reverse] at hx
    have := (List.dropWhile_sublist _).subset hx
    simpa using this
def tpre (s : ByteArray) : ByteArray := if (bl s).getD 0 0 = 45 then YJ ((bl s).drop 1) else s
theorem u8_toNat_45 {x : UInt8} : x.toNat = 45 ↔ x = 45 := by
  constructor
  · intro h; apply UInt8.toNat_inj.1; simpa using h
  · intro h; subst h; rfl
theorem tpre_lib (s : ByteArray) : (⟨(Lib.trimPrefix s.data.toList [45]).toArray⟩ : ByteArray) = tpre s := by
  unfold Lib.trimPrefix Lib.hasPrefix tpre
  have e : bl s = s.data.toList.map UInt8.toNat := rfl
  cases h : s.data.toList with
  | nil =>
    rw [e, h]
    simp
    apply ByteArray.ext
    rw [← Array.toArray_toList (xs := s.data), h]
  | cons x r =>
    rw [e, h]
    simp only [List.map_cons, List.getD_cons_zero, List.drop_succ_cons, List.drop_zero, List.isPrefixOf, Bool.and_true, List.length_singleton, beq_iff_eq]
    by_cases hx : x = 45
    · subst hx
      simp only [↓reduceIte]
      rw [if_pos (by rfl)]
      unfold YJ
      rw [List.map_map]
      have : (UInt8.ofNat ∘ UInt8.toNat) = id := by funext x; simp
      rw [this, List.map_id]
    · rw [if_neg (fun q => hx q.symm), if_neg (fun q => hx (u8_toNat_45.1 q))]
      apply ByteArray.ext
      rw [← Array.toArray_toList (xs := s.data), h]
theorem bl_drop1 (s : ByteArray) : bl (YJ ((bl s).drop 1)) = (bl s).drop 1 := XM (fun c hc => bl_lt s c (List.mem_of_mem_drop hc))
theorem bl_tpre (s : ByteArray) : bl (tpre s) = if (bl s).getD 0 0 = 45 then (bl s).drop 1 else bl s := by
  unfold tpre
  split
  · exact bl_drop1 s
  · rfl
def idx47 (l : List Nat) : Int := if ftwo l = true then ((Zai l).length : Int) else -1
theorem idx47_lib (s : ByteArray) : Lib.indexByte s.data.toList 47 = idx47 (bl s) := by
  show _ = idx47 (s.data.toList.map UInt8.toNat)
  induction s.data.toList with
  | nil => rfl
  | cons x r ih =>
    have hx : (x == 47) = decide (x.toNat = 47) := by
      by_cases h : x = 47
      · subst h; rfl
      · have : x.toNat ≠ 47 := fun q => h (by apply UInt8.toNat_inj.1; simpa using q)
        simp [h, this]
    unfold Lib.indexByte
    rw [hx, ih]
    unfold idx47 ftwo Zai
    simp only [List.map_cons, Za1]
    by_cases h : x.toNat = 47
    · simp [h]
    · simp only [h, decide_false, Bool.false_eq_true, if_false]
      cases (Za1 (r.map UInt8.toNat)).2.2 with
      | false => simp
      | true =>
        simp only [if_true, List.length_cons]
        rw [if_neg (by simp)]
        rfl
theorem Zca {l : List Nat} (h : ∀ c ∈ l, c < 256) : (∀ c ∈ (Za1 l).1, c < 256) ∧ (∀ c ∈ (Za1 l).2.1, c < 256) := by
  have hb := (Qv l).2
  cases ht : (Za1 l).2.2 with
  | true =>
    rw [ht] at hb
    simp only [if_true] at hb
    exact ⟨fun c hc => h c (by rw [hb]; simp [hc]), fun c hc => h c (by rw [hb]; simp [hc])⟩
  | false =>
    rw [ht] at hb
    simp only [Bool.false_eq_true, if_false, List.append_nil] at hb
    refine ⟨fun c hc => h c (by rw [hb]; exact hc), ?_⟩
    have : (Za1 l).2.1 = [] := by
      have hno : 47 ∉ l := by rw [hb]; exact (Qv l).1
      rw [cutl_no hno]
    rw [this]; simp
theorem idx47_neg {l : List Nat} (h : ¬ 0 ≤ idx47 l) : ftwo l = false ∧ Zai l = l ∧ (Za1 l).2.1 = [] := by
  unfold idx47 at h
  cases ht : ftwo l with
  | true => rw [ht] at h; simp at h
  | false =>
    have hb := (Qv l).2
    have ht' : (Za1 l).2.2 = false := ht
    rw [ht'] at hb
    simp only [Bool.false_eq_true, if_false, List.append_nil] at hb
    have hno : 47 ∉ l := by rw [hb]; exact (Qv l).1
    exact ⟨rfl, hb.symm, by rw [cutl_no hno]⟩
theorem idx47_pos {l : List Nat} (h : 0 ≤ idx47 l) : ftwo l = true ∧ idx47 l = ((Zai l).length : Int) ∧ l = Zai l ++ 47 :: (Za1 l).2.1 := by
  unfold idx47 at h ⊢
  cases ht : ftwo l with
  | false => rw [ht] at h; simp at h
  | true =>
    have hb := (Qv l).2
    have ht' : (Za1 l).2.2 = true := ht
    rw [ht'] at hb
    exact ⟨rfl, by simp, by simpa [Zai] using hb⟩
theorem cut_left {s : ByteArray} {n : Nat} (h : bl s = Zai (bl s) ++ 47 :: (Za1 (bl s)).2.1) (hn : n = (Zai (bl s)).length) : s.extract 0 n = YJ (Zai (bl s)) := by
  apply bl_inj
  rw [Zc4, XM (l := Zai (bl s)) (Zca (bl_lt s)).1, List.drop_zero, hn]
  exact (congrArg (List.take _) h).trans (List.take_left)
theorem cut_right {s : ByteArray} {n : Nat} (h : bl s = Zai (bl s) ++ 47 :: (Za1 (bl s)).2.1) (hn : n = (Zai (bl s)).length + 1) : s.extract n s.size = YJ (Za1 (bl s)).2.1 := by
  apply bl_inj
  rw [Zc4, XM (Zca (bl_lt s)).2, List.take_of_length_le (by rw [YZ]; omega), hn]
  have h' : bl s = (Zai (bl s) ++ [47]) ++ (Za1 (bl s)).2.1 := by rw [List.append_assoc]; exact h
  have hl : (Zai (bl s)).length + 1 = (Zai (bl s) ++ [47]).length := by simp
  rw [hl]
  exact (congrArg (List.drop _) h').trans List.drop_left
theorem Zdk {S : Sh} {w : World} (hS : Ya S w) {s sep : ByteArray} (hsep : sep = ⟨#[45]⟩) : Calls Tryz.prog 95 [.string s, .string sep].toArray w (Ret S w (fun _ v => v = .string (tpre s))) := by
  subst hsep; rw [← tpre_lib]; exact QW hS (Tryz.strings_TrimPrefix s ⟨#[45]⟩ w)
theorem strings_TrimR {S : Sh} {w : World} (hS : Ya S w) {s sep : ByteArray} (hsep : sep = ⟨#[48, 49, 50, 51, 52, 53, 54, 55, 56, 57]⟩) (hs : s.size ≤ 9223372036854775807) : Calls Tryz.prog 149 [.string s, .string sep].toArray w (Ret S w (fun _ v => v = .string (trimD s))) := by
  subst hsep; exact ret_of_below hS (Tryz.strings_Trim_digits s w hs)
theorem Zec {S : Sh} {w : World} (hS : Ya S w) {s sep : ByteArray} (hsep : sep = ⟨#[47]⟩) : Calls Tryz.prog 169 [.string s, .string sep].toArray w (Ret S w (fun _ v => v = .int .i64 (idx47 (bl s)))) := by
  subst hsep; rw [← idx47_lib]; exact QW hS (Tryz.stringslite_Index_one s 47 w)
theorem fsize_tpre {s nm : ByteArray} (h : bl nm = Zai (bl s)) : bl (tpre nm) = Zc6 (bl s) := by
  rw [bl_tpre, h]
  unfold Zc6 fmin
  by_cases q : (Zai (bl s)).getD 0 0 = 45 <;> simp only [q, if_true, if_false, decide_true, decide_false, Bool.false_eq_true]
theorem Zb7 {s nm sz : ByteArray} (h : bl nm = Zai (bl s)) (h2 : bl sz = Zc6 (bl s)) : ((sz.size : Nat) : Int) < ((nm.size : Nat) : Int) ↔ fmin (bl s) = true := by
  rw [← YZ, ← YZ, h, h2]
  unfold Zc6
  cases hm : fmin (bl s) with
  | false => simp
  | true =>
    have : (Zai (bl s)).length ≠ 0 := by
      intro e
      rw [List.length_eq_zero_iff] at e
      unfold fmin at hm
      rw [e] at hm
      simp at hm
    simp only [if_true, List.length_drop, iff_true]
    omega
theorem str48 {sz : ByteArray} : sz = (⟨#[48]⟩ : ByteArray) ↔ bl sz = [48] := ⟨fun h => by rw [h]; rfl, fun h => bl_inj (by rw [h]; rfl)⟩
theorem fden_not {s : ByteArray} (h : ¬ ftwo (bl s) = true) : fden (bl s) = [49] := by unfold fden; rw [if_neg h]
theorem fden_two {s : ByteArray} (h : ftwo (bl s) = true) : fden (bl s) = (Za1 (bl s)).2.1 := by unfold fden; rw [if_pos h]
theorem cutl_len (l : List Nat) : (Zai l).length ≤ l.length ∧ (Za1 l).2.1.length ≤ l.length := by
  have hb := (Qv l).2
  have hl := congrArg List.length hb
  cases ht : (Za1 l).2.2 with
  | true => rw [ht] at hl; simp only [List.length_append, if_true, List.length_cons] at hl; exact ⟨by unfold Zai; omega, by omega⟩
  | false =>
    rw [ht] at hl
    simp only [Bool.false_eq_true, if_false, List.append_nil] at hl
    have hno : 47 ∉ l := by
      have h1 := (Qv l).1
      have h2 := (Qv l).2
      rw [ht] at h2
      simp only [Bool.false_eq_true, if_false, List.append_nil] at h2
      rwa [← h2] at h1
    have : (Za1 l).2.1 = [] := by rw [cutl_no hno]
    exact ⟨by unfold Zai; omega, by rw [this]; simp⟩
theorem fsize_len (l : List Nat) : (Zc6 l).length ≤ l.length := by
  have := (cutl_len l).1
  unfold Zc6
  split
  · rw [List.length_drop]; omega
  · exact this
theorem fden_len (l : List Nat) : (fden l).length ≤ l.length + 1 := by
  have := (cutl_len l).2
  unfold fden
  split
  · omega
  · simp
theorem dig_wd {l : List Nat} {n : Nat} (h0 : 0 < n) (h : ∀ c ∈ l, 48 ≤ c ∧ c ≤ 57) (h1 : n = l.length ∧ (l.length = 1 ∨ ¬ l.getD 0 0 = 48)) : wd l := ⟨by intro e; subst e; have := h1.1; simp at this; omega, h, h1.2⟩
theorem fraw_sI (l : List Nat) : fraw l = sI (fmin l) (Qt (Zc6 l)) := rfl
theorem Zel {l : List Nat} (h : fbad l) : YP l = 12 ∧ YO l = 0 := by
  have e : YP l = 12 := by unfold YP; rw [if_pos h]
  exact ⟨e, fval_bad (by rw [e]; decide)⟩
theorem Zaz {l : List Nat} (h : ¬ fbad l) (h2 : QA l) : YP l = 3 ∧ YO l = 0 := by
  have e : YP l = 3 := by unfold YP; rw [if_neg h, if_pos h2]
  exact ⟨e, fval_bad (by rw [e]; decide)⟩
theorem ferr_red {l : List Nat} (h : ¬ fbad l) (h2 : ¬ QA l) (h3 : fred l) : YP l = 12 ∧ YO l = 0 := by
  have e : YP l = 12 := by unfold YP; rw [if_neg h, if_neg h2, if_pos h3]
  exact ⟨e, fval_bad (by rw [e]; decide)⟩
theorem ferr_ok {l : List Nat} (h : ¬ fbad l) (h2 : ¬ QA l) (h3 : ¬ fred l) : YP l = 0 ∧ YO l = mkRat (sI (fmin l) (Qt (Zc6 l))) (Qt (fden l)) := by
  have e : YP l = 0 := by unfold YP; rw [if_neg h, if_neg h2, if_neg h3]
  exact ⟨e, by rw [fval_ok e, fraw_sI]⟩
theorem fval_bdB {k : Nat} (hB : ∀ l : List Nat, (∀ c ∈ l, 48 ≤ c ∧ c ≤ 57) → l.length ≤ 256 → Qt l ≤ 2 ^ k) (l : List Nat) : (YO l).num.natAbs ≤ 2 ^ k ∧ (YO l).den ≤ 2 ^ k := by
  by_cases h : YP l = 0
  · rcases ferr_cases l with h1 | h1 | h1 | h1
    · omega
    · omega
    · omega
    · have hb := h1.1
      have hl := h1.2.1
      simp only [fbad, not_or, Classical.not_not, not_and] at hb
      simp only [QA, not_or, Nat.not_lt] at hl
      have hd := Zem h1.1 h1.2.2.1
      rw [fval_ok h]
      exact ⟨Xc (by omega) (by rw [fraw_abs]; exact hB _ hb.1.2.1 hl.1), Xd (by omega) (hB _ hb.2.1.2.1 hl.2)⟩
  · rw [fval_bad h]; exact ⟨Nat.zero_le _, Nat.one_le_two_pow⟩
theorem Xr : ∀ l : List Nat, (YO l).num.natAbs ≤ 2 ^ 900 ∧ (YO l).den ≤ 2 ^ 900 := fval_bdB (k := 900) (fun _ h hl => pval_le h hl)
theorem Fs.num_le {S : Sh} {cs : List Value} {q : Rat} {k : Nat} (h : Fs S cs [q] k) : q.num.natAbs ≤ 2 ^ k := by
  obtain ⟨us, _, hi⟩ := h.num
  exact hi.le
theorem Fs.toR {S : Sh} {cs : List Value} {p q : Rat} {k k' : Nat} (h : Fs S cs [p] k) (e : [p] = [q]) (hk : q.num.natAbs ≤ 2 ^ k' ∧ q.den ≤ 2 ^ k') : Fs S cs [q] k' := by
  have e' : p = q := by simpa using e
  subst e'
  obtain ⟨a, b, c, d, e, rfl, h1, h2, _⟩ := h.one
  exact Fr.fs ⟨a, b, c, d, e, rfl, h1.rek hk.1, h2.rek (by omega), hk.2⟩
theorem add_bd {a b : Rat} {ka kb : Nat} (h1 : a.num.natAbs ≤ 2 ^ ka) (h2 : a.den ≤ 2 ^ ka) (h3 : b.num.natAbs ≤ 2 ^ kb) (h4 : b.den ≤ 2 ^ kb) : (a + b).num.natAbs ≤ 2 ^ (ka + kb + 1) ∧ (a + b).den ≤ 2 ^ (ka + kb + 1) := by
  rw [← mkRat_add]
  have hd := Nat.mul_pos a.den_pos b.den_pos
  have e : 2 ^ (ka + kb + 1) = 2 ^ ka * 2 ^ kb + 2 ^ ka * 2 ^ kb := by rw [Nat.pow_succ, Nat.pow_add]; omega
  have p1 := Nat.mul_le_mul h1 h4
  have p2 := Nat.mul_le_mul h3 h2
  have p3 := Nat.mul_le_mul h2 h4
  rw [Nat.mul_comm (2 ^ kb)] at p2
  refine ⟨Xc hd ?_, Xd hd (by omega)⟩
  have q1 := Int.natAbs_mul a.num (b.den : Int)
  have q2 := Int.natAbs_mul b.num (a.den : Int)
  rw [Int.natAbs_natCast] at q1 q2
  have q3 := Int.natAbs_add_le (a.num * (b.den : Int)) (b.num * (a.den : Int))
  omega
theorem sub_bd {a b : Rat} {ka kb : Nat} (h1 : a.num.natAbs ≤ 2 ^ ka) (h2 : a.den ≤ 2 ^ ka) (h3 : b.num.natAbs ≤ 2 ^ kb) (h4 : b.den ≤ 2 ^ kb) : (a - b).num.natAbs ≤ 2 ^ (ka + kb + 1) ∧ (a - b).den ≤ 2 ^ (ka + kb + 1) := by
  rw [Rat.sub_eq_add_neg]
  exact add_bd h1 h2 (by rw [(neg_num b).1, Int.natAbs_neg]; exact h3) h4
theorem mul_bd {a b : Rat} {ka kb : Nat} (h1 : a.num.natAbs ≤ 2 ^ ka) (h2 : a.den ≤ 2 ^ ka) (h3 : b.num.natAbs ≤ 2 ^ kb) (h4 : b.den ≤ 2 ^ kb) : (a * b).num.natAbs ≤ 2 ^ (ka + kb) ∧ (a * b).den ≤ 2 ^ (ka + kb) := by
  rw [← mkRat_mul, Nat.pow_add]
  have hd := Nat.mul_pos a.den_pos b.den_pos
  have p1 := Nat.mul_le_mul h1 h3
  have p3 := Nat.mul_le_mul h2 h4
  rw [← Nat.pow_add] at p1 p3 ⊢
  exact ⟨Xc hd (by rw [Int.natAbs_mul]; exact p1), Xd hd p3⟩
theorem div_bd {a b : Rat} {ka kb : Nat} (h1 : a.num.natAbs ≤ 2 ^ ka) (h2 : a.den ≤ 2 ^ ka) (h3 : b.num.natAbs ≤ 2 ^ kb) (h4 : b.den ≤ 2 ^ kb) (h0 : b.num ≠ 0) : (a / b).num.natAbs ≤ 2 ^ (ka + kb) ∧ (a / b).den ≤ 2 ^ (ka + kb) := by
  rw [← mkRat_div h0]
  have hd := Nat.mul_pos a.den_pos (show 0 < b.num.natAbs by omega)
  have p1 := Nat.mul_le_mul h1 h4
  have p3 := Nat.mul_le_mul h2 h3
  rw [← Nat.pow_add] at p1 p3
  refine ⟨Xc hd ?_, Xd hd p3⟩
  rw [Int.natAbs_mul, Int.natAbs_mul, Int.natAbs_natCast]
  have : (Yx b.num).natAbs = 1 := by
    rcases sgnZ_cases b.num with e | e | e
    · rw [e]; rfl
    · exact absurd (Yp.1 e) h0
    · rw [e]; rfl
  rw [this, Nat.mul_one]; exact p1
theorem mkRat_quo {a b : Int} (h : b ≠ 0) : mkRat (if b < 0 then -a else a) b.natAbs = (a : Rat) / (b : Rat) := by
  rw [Rat.mkRat_eq_div]
  have hb : (b : Rat) ≠ 0 := by intro z; exact h (by exact_mod_cast z)
  split
  · have e : ((b.natAbs : Nat) : Rat) = -(b : Rat) := by
      have : ((b.natAbs : Nat) : Int) = -b := by omega
      rw [← Rat.intCast_neg, ← this]; rfl
    rw [e, Rat.intCast_neg]
    grind
  · have e : ((b.natAbs : Nat) : Rat) = (b : Rat) := by
      have : ((b.natAbs : Nat) : Int) = b := by omega
      rw [← Rat.intCast_natCast, this]
    rw [e]
theorem quo_bd {a b : Int} {ka kb : Nat} (h1 : a.natAbs ≤ 2 ^ ka) (h2 : b.natAbs ≤ 2 ^ kb) (h : b ≠ 0) : ((a : Rat) / (b : Rat)).num.natAbs ≤ 2 ^ (ka + kb) ∧ ((a : Rat) / (b : Rat)).den ≤ 2 ^ (ka + kb) := by
  rw [← mkRat_quo h]
  have hd : 0 < b.natAbs := by omega
  refine ⟨Xc hd ?_, Xd hd (Nat.le_trans h2 (YQ (by omega)))⟩
  refine Nat.le_trans ?_ (Nat.le_trans h1 (YQ (by omega)))
  split <;> omega
end Go.Cham
namespace Go.Cham
open Go Go.RowKit
section
variable {P : Program} {a : Act} {w : World} {n : Nat} {l : List (Nat × Value)} {K : Value → World → Prop}
variable {d : Option Tmp} {ty : TypeId} {pos : String} {af : Array Edge} {g0 : Option (Nat × Bool)}
end
def Is (S : Sh) : List Value → List Int → Nat → Prop
  | cs, [], _ => cs = []
  | cs, q :: r, k => ∃ us vs, cs = us ++ vs ∧ In S us q k ∧ Is S vs r k
theorem Is.up {S S' : Sh} {k : Nat} (l : S.le S') : ∀ {qs : List Int} {cs : List Value}, Is S cs qs k → Is S' cs qs k
  | [], _, h => h
  | _ :: _, _, ⟨us, vs, e, h1, h2⟩ => ⟨us, vs, e, h1.up l, Is.up l h2⟩
theorem Is.wide {S : Sh} {k k' : Nat} (hk : k ≤ k') : ∀ {qs : List Int} {cs : List Value}, Is S cs qs k → Is S cs qs k'
  | [], _, h => h
  | _ :: _, _, ⟨us, vs, e, h1, h2⟩ => ⟨us, vs, e, h1.wide hk, Is.wide hk h2⟩
theorem Is.len {S : Sh} {k : Nat} : ∀ {qs : List Int} {cs : List Value}, Is S cs qs k → cs.length = 3 * qs.length
  | [], _, h => by simp [show _ = [] from h]
  | _ :: _, _, ⟨us, vs, e, h1, h2⟩ => by rw [e, List.length_append, h1.len, Is.len h2, List.length_cons]; omega
theorem Is.ones {S : Sh} {k : Nat} : ∀ {qs : List Int} {cs : List Value}, Is S cs qs k → ∀ u ∈ cs, one u = true
  | [], _, h => by simp [show _ = [] from h]
  | _ :: _, _, ⟨us, vs, e, h1, h2⟩ => by
    subst e
    intro u hu
    rcases List.mem_append.1 hu with h | h
    · exact h1.ones u h
    · exact Is.ones h2 u h
theorem Is.one {S : Sh} {cs : List Value} {q : Int} {k : Nat} (h : Is S cs [q] k) : In S cs q k := by
  obtain ⟨us, vs, e, h1, h2⟩ := h
  have : vs = [] := h2
  subst this
  simpa [e] using h1
theorem Is.append {S : Sh} {k : Nat} : ∀ {qs rs : List Int} {cs us : List Value}, Is S cs qs k → Is S us rs k → Is S (cs ++ us) (qs ++ rs) k
  | [], _, _, _, h, h' => by rw [show _ = [] from h]; simpa using h'
  | _ :: _, _, _, _, ⟨us, vs, e, h1, h2⟩, h' => ⟨us, _, by rw [e, List.append_assoc], h1, Is.append h2 h'⟩
theorem Is.drop {S : Sh} {k : Nat} : ∀ {qs : List Int} {cs : List Value} (i : Nat), Is S cs qs k → Is S (cs.drop (3 * i)) (qs.drop i) k
  | _, _, 0, h => by simpa using h
  | [], _, i + 1, h => by rw [show _ = [] from h]; rfl
  | _ :: r, _, i + 1, ⟨us, vs, e, h1, h2⟩ => by
    subst e
    rw [show 3 * (i + 1) = us.length + 3 * i by rw [h1.len]; omega, List.drop_length_add_append]
    exact Is.drop i h2
theorem Is.take {S : Sh} {k : Nat} : ∀ {qs : List Int} {cs : List Value} (i : Nat), Is S cs qs k → Is S (cs.take (3 * i)) (qs.take i) k
  | _, _, 0, h => by simp [Is]
  | [], _, i + 1, h => by rw [show _ = [] from h]; rfl
  | _ :: r, _, i + 1, ⟨us, vs, e, h1, h2⟩ => by
    subst e
    rw [show 3 * (i + 1) = us.length + 3 * i by rw [h1.len]; omega, List.take_length_add_append]
    exact ⟨us, _, rfl, h1, Is.take i h2⟩
theorem Is.part {S : Sh} {qs : List Int} {cs : List Value} {k : Nat} (i j : Nat) (h : Is S cs qs k) : ∃ us, (cs.drop (3 * i)).take (3 * j) = us ∧ Is S us ((qs.drop i).take j) k := ⟨_, rfl, (h.drop i).take j⟩
theorem Is.set {S : Sh} {qs : List Int} {cs us : List Value} {q : Int} {k : Nat} (i : Nat) (h : Is S cs qs k) (h' : Is S us [q] k) (hi : i < qs.length) : ∃ vs, XY cs (3 * i) us = vs ∧ Is S vs (qs.set i q) k := by
  refine ⟨_, rfl, ?_⟩
  unfold XY
  rw [h'.len]
  have h1 := (h.take i).append h'
  have h2 := h1.append (h.drop (i + 1))
  have e1 : 3 * i + 3 * [q].length = 3 * (i + 1) := by simp; omega
  rw [e1]
  have e2 : qs.take i ++ [q] ++ qs.drop (i + 1) = qs.set i q := by rw [List.set_eq_take_append_cons_drop, if_pos hi]; simp
  rw [← e2]
  exact h2
theorem In.is {S : Sh} {cs : List Value} {q : Int} {k : Nat} (h : In S cs q k) : Is S cs [q] k := ⟨cs, [], by simp, h, rfl⟩
theorem Is.at {S : Sh} {zs : List Int} {cs : List Value} {k : Nat} (i : Nat) {z : Int} (h : Is S cs zs k) (hz : zs[i]? = some z) : ∃ us, (cs.drop (3 * i)).take 3 = us ∧ In S us z k := by
  obtain ⟨us, e, h1⟩ := h.part i 1
  refine ⟨us, e, ?_⟩
  have : (zs.drop i).take 1 = [z] := by
    have hi : i < zs.length := by
      rcases Nat.lt_or_ge i zs.length with q | q
      · exact q
      · rw [List.getElem?_eq_none q] at hz; cases hz
    rw [List.drop_eq_getElem_cons hi]
    rw [List.getElem?_eq_getElem hi] at hz
    simp at hz
    simp [hz]
  rw [this] at h1
  exact h1.one
theorem Is.zero4 (S : Sh) (k : Nat) : Is S [.bool false, .int .u64 0, .slice none 0 0, .bool false, .int .u64 0, .slice none 0 0, .bool false, .int .u64 0, .slice none 0 0, .bool false, .int .u64 0, .slice none 0 0] [0, 0, 0, 0] k :=
  ((In.zero S k).is.append ((In.zero S k).is.append ((In.zero S k).is.append (In.zero S k).is)))
theorem Is.to {S : Sh} {cs : List Value} {qs qs' : List Int} {k k' : Nat} (h : Is S cs qs k) (e : qs = qs') (hk : k ≤ k') : Is S cs qs' k' := e ▸ h.wide hk
theorem Fs.zero3 (S : Sh) (k : Nat) : Fs S [.bool false, .int .u64 0, .slice none 0 0, .int .u64 0, .slice none 0 0, .bool false, .int .u64 0, .slice none 0 0, .int .u64 0, .slice none 0 0, .bool false, .int .u64 0, .slice none 0 0, .int .u64 0, .slice none 0 0] [0, 0, 0] k :=
  (Fs.zero S k).append ((Fs.zero S k).append (Fs.zero S k))
theorem Fs.zero4 (S : Sh) (k : Nat) : Fs S [.bool false, .int .u64 0, .slice none 0 0, .int .u64 0, .slice none 0 0, .bool false, .int .u64 0, .slice none 0 0, .int .u64 0, .slice none 0 0, .bool false, .int .u64 0, .slice none 0 0, .int .u64 0, .slice none 0 0, .bool false, .int .u64 0, .slice none 0 0, .int .u64 0, .slice none 0 0] [0, 0, 0, 0] k :=
  (Fs.zero S k).append (Fs.zero3 S k)
def verr (x y z : List Nat) : Int := if YP x ≠ 0 then YP x else if YP y ≠ 0 then YP y else YP z
theorem verr_0 {x y z : List Nat} (h : ¬ YP x = 0) : verr x y z = YP x := if_pos h
theorem verr_1 {x y z : List Nat} (h : YP x = 0) (h2 : ¬ YP y = 0) : verr x y z = YP y := by unfold verr; rw [if_neg (by simpa using h), if_pos h2]
theorem verr_2 {x y z : List Nat} (h : YP x = 0) (h2 : YP y = 0) : verr x y z = YP z := by unfold verr; rw [if_neg (by simpa using h), if_neg (by simpa using h2)]
theorem Run.sub {S0 S : Sh} {w0 w : World} {H H' : Own} (h : Run S0 w0 S H w) (hs : H'.Sublist H) : Run S0 w0 S H' w := ⟨h.ext, fun x hx => h.own x (hs.subset hx), List.Sublist.nodup (List.Sublist.map _ hs) h.nodup⟩
end Go.Cham
namespace Go.Cham
open Go Go.RowKit
section
variable {P : Program} {a : Act} {w : World} {n : Nat} {l : List (Nat × Value)} {K : Value → World → Prop}
variable {d : Option Tmp} {ty : TypeId} {pos : String} {af : Array Edge} {g0 : Option (Nat × Bool)}
end
def Zb5 (x y z u : Int) : Int := if x ≠ 0 then x else if y ≠ 0 then y else if z ≠ 0 then z else u
theorem lex4_0 {x y z u : Int} (h : x ≠ 0) : x = Zb5 x y z u := (if_pos h).symm
theorem lex4_1 {x y z u : Int} (h : x = 0) (h1 : y ≠ 0) : y = Zb5 x y z u := by unfold Zb5; rw [if_neg (by omega), if_pos h1]
theorem lex4_2 {x y z u : Int} (h : x = 0) (h1 : y = 0) (h2 : z ≠ 0) : z = Zb5 x y z u := by unfold Zb5; rw [if_neg (by omega), if_neg (by omega), if_pos h2]
theorem lex4_3 {x y z u : Int} (h : x = 0) (h1 : y = 0) (h2 : z = 0) : u = Zb5 x y z u := by unfold Zb5; rw [if_neg (by omega), if_neg (by omega), if_neg (by omega)]
def Zcl (x y z u : List Nat) : Int := if YP x ≠ 0 then YP x else if YP y ≠ 0 then YP y else if YP z ≠ 0 then YP z else if YP u ≠ 0 then YP u else if (YO x).num = 0 ∧ (YO y).num = 0 ∧ (YO z).num = 0 then 2 else 0
theorem perr_0 {x y z u : List Nat} (h : ¬ YP x = 0) : Zcl x y z u = YP x := if_pos h
theorem perr_1 {x y z u : List Nat} (h : YP x = 0) (h2 : ¬ YP y = 0) : Zcl x y z u = YP y := by unfold Zcl; rw [if_neg (by simpa using h), if_pos h2]
theorem perr_2 {x y z u : List Nat} (h : YP x = 0) (h2 : YP y = 0) (h3 : ¬ YP z = 0) : Zcl x y z u = YP z := by unfold Zcl; rw [if_neg (by simpa using h), if_neg (by simpa using h2), if_pos h3]
theorem perr_3 {x y z u : List Nat} (h : YP x = 0) (h2 : YP y = 0) (h3 : YP z = 0) (h4 : ¬ YP u = 0) : Zcl x y z u = YP u := by unfold Zcl; rw [if_neg (by simpa using h), if_neg (by simpa using h2), if_neg (by simpa using h3), if_pos h4]
theorem perr_4 {x y z u : List Nat} (h : YP x = 0) (h2 : YP y = 0) (h3 : YP z = 0) (h4 : YP u = 0) (h5 : (YO x).num = 0 ∧ (YO y).num = 0 ∧ (YO z).num = 0) : Zcl x y z u = 2 := by unfold Zcl; rw [if_neg (by simpa using h), if_neg (by simpa using h2), if_neg (by simpa using h3), if_neg (by simpa using h4), if_pos h5]
theorem perr_5 {x y z u : List Nat} (h : YP x = 0) (h2 : YP y = 0) (h3 : YP z = 0) (h4 : YP u = 0) (h5 : ¬ ((YO x).num = 0 ∧ (YO y).num = 0 ∧ (YO z).num = 0)) : Zcl x y z u = 0 := by unfold Zcl; rw [if_neg (by simpa using h), if_neg (by simpa using h2), if_neg (by simpa using h3), if_neg (by simpa using h4), if_neg h5]
end Go.Cham
namespace Go.Cham
open Go Go.RowKit
def pvA (x y z u : List Nat) : Rat := if Zcl x y z u = 0 then pn (YO x) (YO y) (YO z) (YO u) (YO x) else 0
def pvB (x y z u : List Nat) : Rat := if Zcl x y z u = 0 then pn (YO x) (YO y) (YO z) (YO u) (YO y) else 0
def pvC (x y z u : List Nat) : Rat := if Zcl x y z u = 0 then pn (YO x) (YO y) (YO z) (YO u) (YO z) else 0
def pvD (x y z u : List Nat) : Rat := if Zcl x y z u = 0 then pn (YO x) (YO y) (YO z) (YO u) (YO u) else 0
def vvA (x y z : List Nat) : Rat := if verr x y z = 0 then YO x else 0
def vvB (x y z : List Nat) : Rat := if verr x y z = 0 then YO y else 0
def vvC (x y z : List Nat) : Rat := if verr x y z = 0 then YO z else 0
inductive AV where
  | n (a : Nat)
  | z (a : Int)
  | q (a : Rat)
  | s (a : ByteArray)
def AV.neg : AV → Bool
  | .z a => decide (a < 0)
  | .q r => decide (r.num < 0)
  | _ => false
def AV.abs : AV → Nat
  | .n a => a
  | .z a => a.natAbs
  | .q r => r.num.natAbs
  | _ => 0
def AV.dn : AV → Nat
  | .q r => r.den - 1
  | _ => 0
def AV.kind : AV → Nat
  | .n _ => 0
  | .z _ => 1
  | .q _ => 2
  | .s _ => 3
def AV.nat : AV → Nat
  | .n a => a
  | _ => 0
def AV.int : AV → Int
  | .z a => a
  | _ => 0
def AV.rat : AV → Rat
  | .q a => a
  | _ => 0
def AV.txt : AV → ByteArray
  | .s a => a
  | _ => ⟨#[]⟩
def AV.of (k : Nat) : AV := match k with
  | 0 => .n 0
  | 1 => .z 0
  | 2 => .q 0
  | _ => .s ⟨#[]⟩
theorem AV.k0 {x : AV} (h : x.kind = 0) : x = .n x.nat := by cases x <;> first | rfl | cases h
theorem AV.k1 {x : AV} (h : x.kind = 1) : x = .z x.int := by cases x <;> first | rfl | cases h
theorem AV.k2 {x : AV} (h : x.kind = 2) : x = .q x.rat := by cases x <;> first | rfl | cases h
theorem AV.k3 {x : AV} (h : x.kind = 3) : x = .s x.txt := by cases x <;> first | rfl | cases h
def semX (o : Nat) (l : List AV) : AV := match o, l with
  | 43, [x] => .s (YJ (rtxt x.rat))
  | 46, [a, b, c, d, q] => .q (pn a.rat b.rat c.rat d.rat q.rat)
  | 50, [x, y, z, u] => .q (pvA (bl x.txt) (bl y.txt) (bl z.txt) (bl u.txt))
  | 54, [x, y, z, u] => .q (pvB (bl x.txt) (bl y.txt) (bl z.txt) (bl u.txt))
  | 58, [x, y, z, u] => .q (pvC (bl x.txt) (bl y.txt) (bl z.txt) (bl u.txt))
  | 62, [x, y, z, u] => .q (pvD (bl x.txt) (bl y.txt) (bl z.txt) (bl u.txt))
  | 66, [x, y, z] => .q (vvA (bl x.txt) (bl y.txt) (bl z.txt))
  | 70, [x, y, z] => .q (vvB (bl x.txt) (bl y.txt) (bl z.txt))
  | 44, [x] => .n (x.rat.den - 1)
  | 45, [x] => .z (-(x.nat : Int))
  | 48, [x, y] => .n (x.nat - y.nat)
  | 78, [x, y] => .q (mkRat x.int y.nat)
  | 74, [x, y, z] => .q (vvC (bl x.txt) (bl y.txt) (bl z.txt))
  | o, _ => .of (o % 4)
def semL (o : Nat) (l : List AV) : AV := match o, l with
  | 12, [x] => .n x.int.natAbs
  | 13, [x] => .z x.rat.num
  | 16, [x] => .n x.rat.den
  | 20, [x] => .n x.rat.num.natAbs
  | 24, [x, y] => .n (x.nat * y.nat)
  | 28, [x, y] => .n (Nat.gcd x.nat y.nat)
  | 32, [x, y] => .n (x.nat / y.nat)
  | 36, [x, y] => .n (x.nat + y.nat)
  | 40, [x, y] => .n (x.nat % y.nat)
  | 17, [x] => .z x.nat
  | 21, [x, y] => .z (sI x.neg y.nat)
  | 25, [x] => .z (-x.int)
  | 29, [x, y] => .z (x.int + y.int)
  | 33, [x, y] => .z (x.int - y.int)
  | 37, [x, y] => .z (x.int * y.int)
  | 14, [x] => .q (x.int : Rat)
  | 18, [x] => .q (-x.rat)
  | 22, [x, y] => .q (x.rat + y.rat)
  | 26, [x, y] => .q (x.rat - y.rat)
  | 30, [x, y] => .q (x.rat * y.rat)
  | 34, [x, y] => .q (x.rat / y.rat)
  | 38, [x] => .q (YO (bl x.txt))
  | 42, [x, y] => .q ((x.int : Rat) / (y.int : Rat))
  | o, l => semX o l
def semK (base f : Nat → AV) (key : List Nat) : AV := match key with
  | [0, i] => .n (base i).nat
  | [1, i] => .z (base i).int
  | [2, i] => .q (base i).rat
  | [3, i] => .s (base i).txt
  | [4, a] => .n a
  | [5] => .z 0
  | [6] => .q 0
  | [9, a, s] => .z (if s = 0 then (a : Int) else -(a : Int))
  | [10, a, s] => .q (if s = 0 then ((a : Int) : Rat) else ((-(a : Int) : Int) : Rat))
  | o :: is => semL o (is.map f)
  | [] => .n 0
structure Rw where
  key : List Nat
  c : Nat
  d : Nat
abbrev CL := List (List Nat × Int)
structure Tb where
  rows : List Rw
  conds : List (List Nat × Int)
  km : Nat
def opOf (key : List Nat) : Nat := match key with
  | [] => 0
  | o :: _ => o
theorem AV.of_kind (k : Nat) (h : k < 4) : (AV.of k).kind = k := by
  match k, h with
  | 0, _ => rfl
  | 1, _ => rfl
  | 2, _ => rfl
  | 3, _ => rfl
theorem semX_kind (o : Nat) (l : List AV) : (semX o l).kind = o % 4 := by
  unfold semX
  split
  all_goals first | rfl | skip
  exact AV.of_kind _ (Nat.mod_lt _ (by omega))
theorem semL_kind (o : Nat) (l : List AV) : (semL o l).kind = o % 4 := by
  unfold semL
  split
  all_goals first | rfl | skip
  exact semX_kind _ _
theorem semK_kind (base f : Nat → AV) (key : List Nat) : (semK base f key).kind = opOf key % 4 := by
  unfold semK
  split
  all_goals first | rfl | exact semL_kind _ _ | simp [AV.kind, opOf]
noncomputable section
def eqN (l : List Nat) : List Nat → Bool := List.rec (fun m => List.rec true (fun _ _ _ => false) m) (fun a _ ih m => List.rec false (fun b r _ => Bool.rec false (ih r) (Nat.beq a b)) m) l
theorem eqN_eq : ∀ {l m : List Nat}, eqN l m = true → l = m
  | [], [], _ => rfl
  | [], _ :: _, h => by cases h
  | _ :: _, [], h => by cases h
  | a :: l, b :: m, h => by
    have h' : (Bool.rec false (eqN l m) (Nat.beq a b) : Bool) = true := h
    cases hb : Nat.beq a b with
    | false => rw [hb] at h'; cases h'
    | true =>
      rw [hb] at h'
      rw [YF] at hb
      rw [hb, eqN_eq h']
def condGo (key : List Nat) (l : List (List Nat × Int)) : Option Int := List.rec none (fun c _ ih => Bool.rec ih (some c.2) (eqN c.1 key)) l
theorem Za2 {key : List Nat} {x : Int} : ∀ {l : List (List Nat × Int)}, condGo key l = some x → (key, x) ∈ l
  | [], h => by cases h
  | c :: r, h => by
    have h' : (Bool.rec (condGo key r) (some c.2) (eqN c.1 key) : Option Int) = some x := h
    cases he : eqN c.1 key with
    | false => rw [he] at h'; exact List.mem_cons_of_mem _ (Za2 h')
    | true =>
      rw [he] at h'
      simp only [Option.some.injEq] at h'
      rw [← eqN_eq he, ← h']
      exact List.mem_cons_self ..
def txtsEq (l : List AV) : Int := if (l.take (l.length / 2)).map AV.txt = (l.drop (l.length / 2)).map AV.txt then 1 else 0
def semU (t : Nat) (l : List AV) : Int := match t, l with
  | 7, [x, y, z, u] => Zcl (bl x.txt) (bl y.txt) (bl z.txt) (bl u.txt)
  | 8, l => txtsEq l
  | 9, [x, y, z] => if x.rat.num = 0 ∧ y.rat.num = 0 ∧ z.rat.num = 0 then 1 else 0
  | 10, [a, b, c, d, e, f, g, h] => Zb5 (Xo a.rat e.rat) (Xo b.rat f.rat) (Xo c.rat g.rat) (Xo d.rat h.rat)
  | 11, [x, y, z] => verr (bl x.txt) (bl y.txt) (bl z.txt)
  | 12, [x] => if 1024 < x.txt.size then 1 else 0
  | 16, [x] => (Zw x.nat : Nat)
  | 17, [x, y] => cmpZ x.int y.int
  | 18, [x, y] => if y.nat ≤ x.nat then 1 else 0
  | 15, [x, y, z, u] => if [x.txt, y.txt, z.txt, u.txt] = [YJ [48], YJ [48], YJ [49], YJ [48]] then 1 else 0
  | _, _ => 0
def semT (t : Nat) (l : List AV) : Int := match t, l with
  | 1, [x] => Yx x.rat.num
  | 2, [x, y] => Xo x.rat y.rat
  | 3, [x] => Yx x.int
  | 4, [x] => YP (bl x.txt)
  | 5, [x] => if x.nat = 0 then 1 else 0
  | 6, [x, y] => cmpN x.nat y.nat
  | t, l => semU t l
def ZD (ρ : Nat → AV) (key : List Nat) : Int := match key with
  | [] => 0
  | t :: is => semT t (is.map ρ)
def Cs (T : Tb) (ρ : Nat → AV) : Prop := ∀ c ∈ T.conds, ZD ρ c.1 = c.2
def Csl (ρ : Nat → AV) : List (List Nat × Int) → Prop
  | [] => True
  | c :: r => ZD ρ c.1 = c.2 ∧ Csl ρ r
theorem Csl.nil {ρ : Nat → AV} : Csl ρ [] := trivial
theorem Csl.cons {ρ : Nat → AV} {k : List Nat} {v : Int} {l : List (List Nat × Int)} (h : ZD ρ k = v) (hl : Csl ρ l) : Csl ρ ((k, v) :: l) := ⟨h, hl⟩
theorem Csl.all {ρ : Nat → AV} : ∀ {l : List (List Nat × Int)}, Csl ρ l → ∀ c ∈ l, ZD ρ c.1 = c.2
  | [], _, c, h => by cases h
  | d :: r, h, c, hc => by
    rcases List.mem_cons.1 hc with rfl | hc
    · exact h.1
    · exact Csl.all h.2 c hc
end
end Go.Cham
namespace Go.Cham
open Go Go.RowKit
noncomputable section
inductive Ato where
  | s (i : Nat)
  | a (i : Nat)
  | d (i : Nat)
  | t (i : Nat)
  | l (i : Nat)
def yesNo (T : Tb) (key : List Nat) : Option Bool := match condGo key T.conds with
  | some x => match x with
    | .ofNat n => match n with
      | 0 => some false
      | 1 => some true
      | _ => none
    | _ => none
  | none => none
theorem Zcd {T : Tb} {ρ : Nat → AV} (hT : Cs T ρ) {key : List Nat} {b : Bool} (h : yesNo T key = some b) : ZD ρ key = if b then 1 else 0 := by
  unfold yesNo at h
  split at h
  · rename_i x hx
    have h1 := hT _ (Za2 hx)
    split at h
    · split at h
      · cases h; exact h1
      · cases h; exact h1
      · cases h
    · cases h
  · cases h
def namesT (l : List (TC Ato)) : Option (List Nat) := List.rec (some []) (fun c _ ih => match c with
  | .at_ (.t i) => match ih with
    | some is => some (i :: is)
    | none => none
  | _ => none) l
def teqD (T : Tb) (l m : List (TC Ato)) : Option Bool := match namesT l with
  | some is => match namesT m with
    | some js => match Nat.beq is.length js.length with
      | true => yesNo T (8 :: (appL is js))
      | false => none
    | none => match m with
      | [.k [48], .k [48], .k [49], .k [48]] => match is with
        | [a, b, c, d] => yesNo T [15, a, b, c, d]
        | _ => none
      | _ => none
  | none => none
def predS (ρ : Nat → AV) (bd : Nat → Nat) (x : Ato) (S : Sh) (cs : List Value) : Prop := match x with
    | .s i => cs = [.bool (ρ i).neg]
    | .a i => Na S cs (ρ i).abs (bd i)
    | .d i => Na S cs (ρ i).dn (bd i) ∧ (ρ i).dn + 1 ≤ 2 ^ bd i
    | .t i => ∃ s, ρ i = .s s ∧ cs = [.string s]
    | .l i => ∃ s, ρ i = .s s ∧ cs = [.int .i64 s.size]
theorem namesT_ok {ρ : Nat → AV} {bd : Nat → Nat} {S : Sh} : ∀ {l : List (TC Ato)} {is : List Nat} {us : List ByteArray}, namesT l = some is → TxtL (predS ρ bd) S l us → us = is.map fun i => (ρ i).txt
  | [], is, us, h, hu => by
    have h' : some [] = some is := h
    cases h'
    cases us with
    | nil => rfl
    | cons u r => exact hu.elim
  | .k s :: l, is, us, h, hu => by cases (show (none : Option (List Nat)) = some is from h)
  | .at_ (.s i) :: l, is, us, h, hu => by cases (show (none : Option (List Nat)) = some is from h)
  | .at_ (.a i) :: l, is, us, h, hu => by cases (show (none : Option (List Nat)) = some is from h)
  | .at_ (.d i) :: l, is, us, h, hu => by cases (show (none : Option (List Nat)) = some is from h)
  | .at_ (.l i) :: l, is, us, h, hu => by cases (show (none : Option (List Nat)) = some is from h)
  | .at_ (.t i) :: l, is, us, h, hu => by
    have h' : (match namesT l with
      | some is => some (i :: is)
      | none => none) = some is := h
    cases hn : namesT l with
    | none => rw [hn] at h'; cases h'
    | some js =>
      rw [hn] at h'
      cases h'
      cases us with
      | nil => exact hu.elim
      | cons u r =>
        obtain ⟨⟨s, e, hv⟩, h2⟩ := hu
        simp only [List.cons.injEq, Value.string.injEq, and_true] at hv
        subst hv
        rw [List.map_cons, ← namesT_ok hn h2, e]
        rfl
theorem ite_dec {p : Prop} [Decidable p] {b : Bool} (h : (if p then (1 : Int) else 0) = if b then 1 else 0) : decide p = b := by
  by_cases hp : p
  · cases b
    · rw [if_pos hp] at h; cases h
    · simp [hp]
  · cases b
    · simp [hp]
    · rw [if_neg hp] at h; cases h
theorem teqD_ok {T : Tb} {ρ : Nat → AV} {bd : Nat → Nat} (hT : Cs T ρ) {l m : List (TC Ato)} {r : Bool} {S : Sh} {us vs : List ByteArray} (h : teqD T l m = some r) (h1 : TxtL (predS ρ bd) S l us) (h2 : TxtL (predS ρ bd) S m vs) : decide (us = vs) = r := by
  unfold teqD at h
  split at h
  · rename_i is his
    have e1 := namesT_ok his h1
    split at h
    · rename_i js hjs
      have e2 := namesT_ok hjs h2
      split at h
      · rename_i hn
        rw [YF] at hn
        have h3 := Zcd hT h
        rw [QB] at h3
        have h4 : txtsEq ((is ++ js).map ρ) = if r then 1 else 0 := h3
        unfold txtsEq at h4
        have e3 : ((is ++ js).map ρ).length / 2 = (is.map ρ).length := by simp; omega
        rw [e3, List.map_append, List.take_left, List.drop_left, List.map_map, List.map_map] at h4
        rw [e1, e2]
        exact ite_dec h4
      · cases h
    · split at h
      · split at h
        · rename_i a b c d
          have h3 : (if [(ρ a).txt, (ρ b).txt, (ρ c).txt, (ρ d).txt] = [YJ [48], YJ [48], YJ [49], YJ [48]] then (1 : Int) else 0) = if r then 1 else 0 := Zcd hT h
          have e2 : vs = [YJ [48], YJ [48], YJ [49], YJ [48]] := by
            match vs, h2 with
            | [v0, v1, v2, v3], h2 =>
              obtain ⟨q0, q1, q2, q3, _⟩ := h2
              rw [q0, q1, q2, q3]
          rw [e1, e2]
          exact ite_dec h3
        · cases h
      · cases h
  · cases h
def DS {T : Tb} {ρ : Nat → AV} (hT : Cs T ρ) (bd : Nat → Nat) : Dom Ato where
  size := fun x => match x with
    | .s _ => 1
    | .a _ => 2
    | .d _ => 2
    | .t _ => 1
    | .l _ => 1
  pred := predS ρ bd
  up := fun {x S S' cs} l h => by
    cases x with
    | s i => exact h
    | a i => exact Na.up h l
    | d i => exact ⟨h.1.up l, h.2⟩
    | t i => exact h
    | l i => exact h
  len := fun {x S cs} h => by
    cases x with
    | s i => have h' : cs = [.bool (ρ i).neg] := h; rw [h']; rfl
    | a i => exact Na.len h
    | d i => exact h.1.len
    | t i => obtain ⟨s, _, rfl⟩ := h; rfl
    | l i => obtain ⟨s, _, rfl⟩ := h; rfl
  ones := fun {x S cs} h => by
    cases x with
    | s i => have h' : cs = [.bool (ρ i).neg] := h; rw [h']; intro u hu; simp at hu; subst hu; rfl
    | a i => exact Na.ones h
    | d i => exact h.1.ones
    | t i => obtain ⟨s, _, rfl⟩ := h; intro u hu; simp at hu; subst hu; rfl
    | l i => obtain ⟨s, _, rfl⟩ := h; intro u hu; simp at hu; subst hu; rfl
  txt := fun x => match x with
    | .t _ => true
    | _ => false
  txt_ok := fun {x S cs} h hp => by
    cases x with
    | t i => obtain ⟨s, _, rfl⟩ := hp; exact ⟨s, rfl⟩
    | s i => cases h
    | a i => cases h
    | d i => cases h
    | l i => cases h
  teq := fun l m => teqD T l m
  teq_ok := fun h h1 h2 => teqD_ok (bd := bd) hT h h1 h2
  tlen := fun x => match x with
    | .t i => some (.l i)
    | _ => none
  tlen_ok := fun {x y S v} h hp => by
    split at h
    · rename_i i
      cases h
      obtain ⟨s, e, h1⟩ := hp
      simp only [List.cons.injEq, and_true] at h1
      exact ⟨s, h1, s, e, rfl⟩
    · cases h
  igt := fun x j => match x with
    | .l i => match j with
      | .ofNat c => match Nat.beq c 1024 with
        | true => yesNo T [12, i]
        | false => none
      | _ => none
    | _ => none
  igt_ok := fun {x j r S v} h hp => by
    split at h
    · rename_i i
      split at h
      · rename_i c
        split at h
        · rename_i hc
          rw [YF] at hc
          subst hc
          obtain ⟨s, e, h1⟩ := hp
          simp only [List.cons.injEq, and_true] at h1
          refine ⟨_, h1, ?_⟩
          have h3 : (if 1024 < (ρ i).txt.size then (1 : Int) else 0) = if r then 1 else 0 := Zcd hT h
          rw [e] at h3
          have h4 : (if 1024 < s.size then (1 : Int) else 0) = if r then 1 else 0 := h3
          by_cases e : 1024 < s.size
          · cases r <;> simp [e] at h4 ⊢; omega
          · cases r <;> simp [e] at h4 ⊢; omega
        · cases h
      · cases h
    · cases h
variable {ρ : Nat → AV} {bd : Nat → Nat} {G : Gh} {T0 : Tb} {hT : Cs T0 ρ}
def Rp (S : Sh) (x : AV) (k : Nat) (v : Value) : Prop := match x with
  | .n a => ∃ cs, v = .agg cs.toArray ∧ Na S cs a k
  | .z a => ∃ cs, v = .agg cs.toArray ∧ In S cs a k
  | .q a => ∃ cs, v = .agg cs.toArray ∧ Fs S cs [a] k
  | .s a => v = .string a
def cN (i : Nat) : List (SV Ato) := [.at_ (.a i)]
def cZ (i : Nat) : List (SV Ato) := [.at_ (.s i), .at_ (.a i)]
def cQ (i : Nat) : List (SV Ato) := [.at_ (.s i), .at_ (.a i), .at_ (.d i)]
theorem In.split {S : Sh} {cs : List Value} {z : Int} {k : Nat} (h : In S cs z k) : ∃ us, cs = .bool (decide (z < 0)) :: us ∧ Na S us z.natAbs k := by
  have h1 := h.sign
  obtain ⟨us, e, h2⟩ := h.abs
  have h3 := h.len
  match cs, h3 with
  | [a, b, c], _ =>
    simp at h1 e
    subst h1 e
    exact ⟨_, rfl, h2⟩
theorem In.join {S : Sh} {us : List Value} {z : Int} {k : Nat} (h : Na S us z.natAbs k) : In S (.bool (decide (z < 0)) :: us) z k := by
  refine In.mk h ?_ fun h0 => ?_
  · by_cases hz : z < 0
    · simp [hz]; omega
    · simp [hz]; omega
  · simp; omega
theorem Fs.split {S : Sh} {cs : List Value} {q : Rat} {k : Nat} (h : Fs S cs [q] k) : ∃ us vs, cs = .bool (decide (q.num < 0)) :: us ++ vs ∧ Na S us q.num.natAbs k ∧ Na S vs (q.den - 1) k ∧ q.den ≤ 2 ^ k := by
  obtain ⟨c0, c1, c2, c3, c4, rfl, h1, h2, h3⟩ := h.one
  obtain ⟨us, e, h4⟩ := h1.split
  simp at e
  obtain ⟨rfl, rfl⟩ := e
  exact ⟨_, _, rfl, h4, h2, h3⟩
theorem Fs.join {S : Sh} {us vs : List Value} {q : Rat} {k : Nat} (h1 : Na S us q.num.natAbs k) (h2 : Na S vs (q.den - 1) k) (h3 : q.den ≤ 2 ^ k) : Fs S (.bool (decide (q.num < 0)) :: us ++ vs) [q] k :=
  Fs.mk (In.join h1) h2 h3
theorem YN.runs {a : Ato} {us : List Value} {cs : List (SV Ato)} {vs vs' : List Value} (h : (DS hT bd).pred a G.S us) (hs : YN (DS hT bd) G cs vs') (e : vs = us ++ vs') : YN (DS hT bd) G (.at_ a :: cs) vs := e ▸ .run h hs
theorem YN.runI {a : Ato} {cs : List (SV Ato)} {vs : List Value} (h : YN (DS hT bd) G (.at_ a :: cs) vs) : ∃ us vs', vs = us ++ vs' ∧ (DS hT bd).pred a G.S us ∧ YN (DS hT bd) G cs vs' := by
  cases h with
  | one h ho hn hs => exact absurd rfl (hn _)
  | run h hs => exact ⟨_, _, rfl, h, hs⟩
theorem cN_mk {i k a : Nat} {cs us : List Value} {r : List (SV Ato)} (e : ρ i = .n a) (h : Na G.S cs a k) (hk : k ≤ bd i) (hr : YN (DS hT bd) G r us) : YN (DS hT bd) G (cN i ++ r) (cs ++ us) :=
  .run (D := DS hT bd) (show Na G.S cs (ρ i).abs (bd i) by rw [e]; exact h.wide hk) hr
theorem cZ_mk {i k : Nat} {a : Int} {cs us : List Value} {r : List (SV Ato)} (e : ρ i = .z a) (h : In G.S cs a k) (hk : k ≤ bd i) (hr : YN (DS hT bd) G r us) : YN (DS hT bd) G (cZ i ++ r) (cs ++ us) := by
  obtain ⟨us', rfl, h1⟩ := h.split
  refine .runs (us := [.bool (decide (a < 0))]) (show _ = [Value.bool (ρ i).neg] by rw [e]; rfl) (.runs (us := us') (show Na G.S us' (ρ i).abs (bd i) by rw [e]; exact h1.wide hk) hr rfl) (by simp)
theorem cQ_mk {i k : Nat} {a : Rat} {cs us : List Value} {r : List (SV Ato)} (e : ρ i = .q a) (h : Fs G.S cs [a] k) (hk : k ≤ bd i) (hr : YN (DS hT bd) G r us) : YN (DS hT bd) G (cQ i ++ r) (cs ++ us) := by
  obtain ⟨us', vs', rfl, h1, h2, h3⟩ := h.split
  refine .runs (us := [.bool (decide (a.num < 0))]) (show _ = [Value.bool (ρ i).neg] by rw [e]; rfl) (.runs (us := us') (show Na G.S us' (ρ i).abs (bd i) by rw [e]; exact h1.wide hk) (.runs (us := vs') (show Na G.S vs' (ρ i).dn (bd i) ∧ (ρ i).dn + 1 ≤ 2 ^ bd i by
    rw [e]
    refine ⟨h2.wide hk, Nat.le_trans ?_ (YQ hk)⟩
    show a.den - 1 + 1 ≤ 2 ^ k
    have := a.den_pos
    omega) hr rfl) rfl) (by simp)
theorem cN_of {i a : Nat} {vs : List Value} {r : List (SV Ato)} (e : ρ i = .n a) (h : YN (DS hT bd) G (cN i ++ r) vs) : ∃ cs us, vs = cs ++ us ∧ Na G.S cs a (bd i) ∧ YN (DS hT bd) G r us := by
  obtain ⟨us, vs', rfl, h1, h2⟩ := YN.runI h
  have h1' : Na G.S us (ρ i).abs (bd i) := h1
  rw [e] at h1'
  exact ⟨_, _, rfl, h1', h2⟩
theorem cZ_of {i : Nat} {a : Int} {vs : List Value} {r : List (SV Ato)} (e : ρ i = .z a) (h : YN (DS hT bd) G (cZ i ++ r) vs) : ∃ cs us, vs = cs ++ us ∧ In G.S cs a (bd i) ∧ YN (DS hT bd) G r us := by
  obtain ⟨u1, v1, rfl, h1, h2⟩ := YN.runI h
  obtain ⟨u2, v2, rfl, h3, h4⟩ := YN.runI h2
  have h1' : u1 = [Value.bool (ρ i).neg] := h1
  have h3' : Na G.S u2 (ρ i).abs (bd i) := h3
  rw [e] at h1' h3'
  subst h1'
  exact ⟨_ :: u2, v2, rfl, In.join h3', h4⟩
theorem cQ_of {i : Nat} {a : Rat} {vs : List Value} {r : List (SV Ato)} (e : ρ i = .q a) (h : YN (DS hT bd) G (cQ i ++ r) vs) : ∃ cs us, vs = cs ++ us ∧ Fs G.S cs [a] (bd i) ∧ YN (DS hT bd) G r us := by
  obtain ⟨u1, v1, rfl, h1, h2⟩ := YN.runI h
  obtain ⟨u2, v2, rfl, h3, h4⟩ := YN.runI h2
  obtain ⟨u3, v3, rfl, h5, h6⟩ := YN.runI h4
  have h1' : u1 = [Value.bool (ρ i).neg] := h1
  have h3' : Na G.S u2 (ρ i).abs (bd i) := h3
  have h5' : Na G.S u3 (ρ i).dn (bd i) ∧ (ρ i).dn + 1 ≤ 2 ^ bd i := h5
  rw [e] at h1' h3' h5'
  subst h1'
  refine ⟨_ :: u2 ++ u3, v3, by simp [AV.neg], Fs.join h3' h5'.1 ?_, h6⟩
  have := h5'.2
  show a.den ≤ 2 ^ bd i
  have h7 : AV.dn (.q a) = a.den - 1 := rfl
  omega
end
end Go.Cham
namespace Go.Cham
open Go Go.RowKit
def ext (f : Nat → AV) (n : Nat) (x : AV) : Nat → AV := fun j => if j = n then x else f j
def avs (base : Nat → AV) : List Rw → Nat → (Nat → AV) → Nat → AV
  | [], _, f => f
  | r :: rs, n, f => avs base rs (n + 1) (ext f n (semK base f r.key))
def rho (T : Tb) (base : Nat → AV) : Nat → AV := avs base T.rows 0 fun _ => .n 0
theorem avs_lt {base : Nat → AV} : ∀ {rs : List Rw} {n : Nat} {f : Nat → AV} {j : Nat}, j < n → avs base rs n f j = f j
  | [], _, _, _, _ => rfl
  | r :: rs, n, f, j, h => by
    simp only [avs]
    rw [avs_lt (Nat.lt_succ_of_lt h)]
    simp [ext, Nat.ne_of_lt h]
def aheadR (n : Nat) (r : Rw) : Bool := match r.key with
  | [] => true
  | o :: is => Nat.ble o 10 || is.all fun i => Nat.ble (Nat.succ i) n
def Qn : List Rw → Nat → Bool
  | [], _ => true
  | r :: rs, n => aheadR n r && Qn rs (n + 1)
theorem semK_congr {base f g : Nat → AV} {n : Nat} {r : Rw} (h : aheadR n r = true) (hfg : ∀ j, j < n → f j = g j) : semK base f r.key = semK base g r.key := by
  unfold aheadR at h
  unfold semK
  split <;> first | rfl | skip
  rename_i o is h0 h1 h2 h3 h4 h5 h6 h7 h8 hk
  rw [hk] at h
  simp only [Bool.or_eq_true] at h
  rcases h with h | h
  · have := Nat.le_of_ble_eq_true h
    have e : ∀ l l' : List AV, o ≤ 10 → semL o l = semL o l' := by
      intro l l' ho
      have h9 : ∀ l, semL o l = .of (o % 4) := by
        intro l
        unfold semL
        split <;> first | omega | skip
        unfold semX
        split <;> first | rfl | omega
      rw [h9, h9]
    exact e _ _ this
  · congr 1
    refine List.map_congr_left fun j hj => hfg j ?_
    have := List.all_eq_true.1 h j hj
    exact Nat.le_of_ble_eq_true this
theorem avs_at {base : Nat → AV} : ∀ {rs : List Rw} {n : Nat} {f : Nat → AV} {i : Nat} {r : Rw}, Qn rs n = true → rs[i]? = some r → avs base rs n f (n + i) = semK base (avs base rs n f) r.key
  | [], _, _, _, _, _, h => by simp at h
  | r0 :: rs, n, f, i, r, ha, h => by
    simp only [Qn, Bool.and_eq_true] at ha
    cases i with
    | zero =>
      simp at h
      subst h
      rw [Nat.add_zero]
      have e : avs base (r0 :: rs) n f n = semK base f r0.key := by
        simp only [avs]
        rw [avs_lt (Nat.lt_succ_self n)]
        simp [ext]
      rw [e]
      exact semK_congr ha.1 fun j hj => (avs_lt hj).symm
    | succ i =>
      simp at h
      have := avs_at (base := base) (f := ext f n (semK base f r0.key)) ha.2 h
      simp only [avs]
      rw [show n + (i + 1) = n + 1 + i by omega]
      exact this
end Go.Cham
namespace Go.Cham
open Go Go.RowKit
noncomputable section
def rwTr (rows : List Rw) : Nat → Tr Rw := List.rec (fun _ => .nil) (fun r _ ih n => (ih (Nat.succ n)).put n (some r)) rows
theorem rwTr_at : ∀ {rows : List Rw} {n i : Nat} {r : Rw}, (rwTr rows n).at i = some r → ∃ j, i = n + j ∧ rows[j]? = some r
  | [], n, i, r, h => by
    have h' : (Tr.nil : Tr Rw).at i = some r := h
    unfold Tr.at at h'
    rw [Tr.get_nil] at h'
    cases h'
  | r0 :: rs, n, i, r, h => by
    have h' : ((rwTr rs (n + 1)).put n (some r0)).at i = some r := h
    rw [Tr.at_put_if] at h'
    split at h'
    · rename_i e
      exact ⟨0, by omega, by simpa using h'⟩
    · obtain ⟨j, e, h2⟩ := rwTr_at h'
      exact ⟨j + 1, by omega, by simpa using h2⟩
def Zat (T : Tb) (i : Nat) : Option Rw := (rwTr T.rows 0).at i
theorem rowAt_mem {T : Tb} {i : Nat} {r : Rw} (h : Zat T i = some r) : T.rows[i]? = some r := by
  obtain ⟨j, e, h2⟩ := rwTr_at h
  rw [e, Nat.zero_add]
  exact h2
def findGo (key : List Nat) (rows : List Rw) : Nat → Option Nat := List.rec (fun _ => none) (fun r _ ih i => Bool.rec (ih (Nat.succ i)) (some i) (eqN r.key key)) rows
def findV (T : Tb) (key : List Nat) : Option (Nat × Rw) := match findGo key T.rows 0 with
  | some k => match Zat T k with
    | some r => match eqN r.key key with
      | true => some (k, r)
      | false => none
    | none => none
  | none => none
theorem XT {T : Tb} {key : List Nat} {k : Nat} {r : Rw} (h : findV T key = some (k, r)) : Zat T k = some r ∧ r.key = key := by
  unfold findV at h
  split at h
  · split at h
    · rename_i r' hr
      split at h
      · rename_i he
        cases h
        exact ⟨hr, eqN_eq he⟩
      · cases h
    · cases h
  · cases h
structure YB (T : Tb) (K : Nat) (base ρ : Nat → AV) (bd : Nat → Nat) : Prop where
  row : ∀ i r, Zat T i = some r → ρ i = semK base ρ r.key ∧ bd i = r.c * K + r.d
  km : K ≤ T.km
  cond : Cs T ρ
def Zcb (T : Tb) (K : Nat) (i : Nat) : Nat := match Zat T i with
  | some r => r.c * K + r.d
  | none => 0
theorem YB.mk' {T : Tb} {K : Nat} {base : Nat → AV} (ha : Qn T.rows 0 = true) (hk : K ≤ T.km) (hc : Cs T (rho T base)) : YB T K base (rho T base) (Zcb T K) where
  row i r h := by
    refine ⟨?_, by unfold Zcb; rw [h]⟩
    have := avs_at (base := base) (f := fun _ => .n 0) ha (rowAt_mem h)
    rw [Nat.zero_add] at this
    exact this
  km := hk
  cond := hc
def isK (T : Tb) (i k : Nat) : Bool := match Zat T i with
  | some r => Nat.beq (Nat.mod (opOf r.key) 4) k
  | none => false
def leB (a b : Rw) : Bool := Nat.ble a.c b.c && Nat.ble a.d b.d
def viaR (T : Tb) (i o : Nat) : Option Nat := match Zat T i with
  | some r => match findV T [o, i] with
    | some (k, r') => match leB r r' with
      | true => some k
      | false => none
    | none => none
  | none => none
theorem semK_op {base f : Nat → AV} {o : Nat} {is : List Nat} (ho : 10 < o) : semK base f (o :: is) = semL o (is.map f) := by
  match o, ho with
  | n + 11, _ => rfl
section
variable {T : Tb} {K : Nat} {base ρ : Nat → AV} {bd : Nat → Nat} {G : Gh}
theorem Zei (hg : YB T K base ρ bd) {i k : Nat} (h : isK T i k = true) : (ρ i).kind = k := by
  unfold isK at h
  split at h
  · rename_i r hr
    rw [YF] at h
    rw [(hg.row i r hr).1, semK_kind]
    exact h
  · cases h
theorem leB_ok {a b : Rw} (h : leB a b = true) (K : Nat) : a.c * K + a.d ≤ b.c * K + b.d := by
  unfold leB at h
  simp only [Bool.and_eq_true] at h
  have h1 := Nat.le_of_ble_eq_true h.1
  have h2 := Nat.le_of_ble_eq_true h.2
  exact Nat.add_le_add (Nat.mul_le_mul_right _ h1) h2
theorem viaR_ok (hg : YB T K base ρ bd) {i o k : Nat} (h : viaR T i o = some k) (ho : 10 < o) : ρ k = semL o [ρ i] ∧ bd i ≤ bd k := by
  unfold viaR at h
  split at h
  · rename_i r hr
    split at h
    · rename_i k' r' hf
      split at h
      · rename_i hl
        cases h
        obtain ⟨h1, h2⟩ := XT hf
        obtain ⟨h3, h4⟩ := hg.row _ _ h1
        refine ⟨?_, by rw [h4, (hg.row _ _ hr).2]; exact leB_ok hl K⟩
        rw [h3, h2, semK_op ho]
        rfl
      · cases h
    · cases h
  · cases h
end
end
end Go.Cham
namespace Go.Cham
open Go Go.RowKit
noncomputable section
def asN' (T : Tb) (l : List (SV Ato)) : Option Nat := match l with
  | [.at_ (.a i)] => match isK T i 0 with
    | true => some i
    | false => match isK T i 1 with
      | true => viaR T i 12
      | false => match isK T i 2 with
        | true => viaR T i 20
        | false => none
  | [.at_ (.d i)] => match isK T i 2 with
    | true => viaR T i 44
    | false => none
  | [.int .u64 (.ofNat a), .sl none 0 0] => match Nat.ble a 18446744073709551615 with
    | true => match findV T [4, a] with
      | some (k, r) => match Nat.ble 64 r.d with
        | true => some k
        | false => none
      | none => none
    | false => none
  | _ => none
def asZ' (T : Tb) (l : List (SV Ato)) : Option Nat := match l with
  | [.at_ (.s i), .at_ (.a j)] => match Nat.beq i j with
    | true => match isK T i 1 with
      | true => some i
      | false => match isK T i 2 with
        | true => viaR T i 13
        | false => none
    | false => none
  | [.bool false, .int .u64 (.ofNat 0), .sl none 0 0] => match findV T [5] with
    | some (k, _) => some k
    | none => none
  | _ => none
def asQ' (T : Tb) (l : List (SV Ato)) : Option Nat := match l with
  | [.at_ (.s i), .at_ (.a j), .at_ (.d k)] => match Nat.beq i j with
    | true => match Nat.beq i k with
      | true => match isK T i 2 with
        | true => some i
        | false => none
      | false => none
    | false => none
  | [.bool false, .int .u64 (.ofNat 0), .sl none 0 0, .int .u64 (.ofNat 0), .sl none 0 0] => match findV T [6] with
    | some (k, _) => some k
    | none => none
  | _ => none
def asA (T : Tb) (k : Nat) (x : SV Ato) : Option Nat := match x with
  | .agg l => match k with
    | 0 => asN' T l
    | 1 => asZ' T l
    | 2 => asQ' T l
    | _ => none
  | .at_ a => match a with
    | .t i => match Nat.beq k 3 with
      | true => match isK T i 3 with
        | true => some i
        | false => none
      | false => none
    | _ => none
  | _ => none
section
variable {T : Tb} {K : Nat} {base ρ : Nat → AV} {bd : Nat → Nat} {G : Gh} {T0 : Tb} {hT : Cs T0 ρ}
theorem YN.nilI {D : Dom Ato} {vs : List Value} (h : YN D G [] vs) : vs = [] := by cases h; rfl
theorem asN_ok (hg : YB T K base ρ bd) {l : List (SV Ato)} {i : Nat} {vs : List Value} (h : asN' T l = some i) (hd : YN (DS hT bd) G l vs) : Rp G.S (ρ i) (bd i) (.agg vs.toArray) := by
  unfold asN' at h
  split at h
  · rename_i j
    obtain ⟨us, vs', rfl, h1, h2⟩ := YN.runI hd
    have := h2.nilI; subst this
    rw [List.append_nil]
    have h1' : Na G.S us (ρ j).abs (bd j) := h1
    split at h
    · rename_i hk
      cases h
      have e := AV.k0 (Zei hg hk)
      rw [e] at h1' ⊢
      exact ⟨_, rfl, h1'⟩
    · split at h
      · rename_i hk
        obtain ⟨e2, hb⟩ := viaR_ok hg h (by decide)
        have e := AV.k1 (Zei hg hk)
        rw [e] at h1'
        rw [e2]
        exact ⟨_, rfl, h1'.wide hb⟩
      · split at h
        · rename_i hk
          obtain ⟨e2, hb⟩ := viaR_ok hg h (by decide)
          have e := AV.k2 (Zei hg hk)
          rw [e] at h1'
          rw [e2]
          exact ⟨_, rfl, h1'.wide hb⟩
        · cases h
  · rename_i j
    obtain ⟨us, vs', rfl, h1, h2⟩ := YN.runI hd
    have := h2.nilI; subst this
    rw [List.append_nil]
    have h1' : Na G.S us (ρ j).dn (bd j) ∧ (ρ j).dn + 1 ≤ 2 ^ bd j := h1
    split at h
    · rename_i hk
      obtain ⟨e2, hb⟩ := viaR_ok hg h (by decide)
      have e := AV.k2 (Zei hg hk)
      rw [e] at h1'
      rw [e2]
      exact ⟨_, rfl, h1'.1.wide hb⟩
    · cases h
  · rename_i a
    split at h
    · rename_i ha
      split at h
      · rename_i k r hf
        split at h
        · rename_i hd2
          cases h
          obtain ⟨h1, h2⟩ := XT hf
          obtain ⟨h3, h4⟩ := hg.row _ _ h1
          have ha' := Nat.le_of_ble_eq_true ha
          have hd2' := Nat.le_of_ble_eq_true hd2
          rw [h3, h2, h4]
          cases hd with
          | one x1 _ _ x2 =>
            cases x1
            cases x2 with
            | one x3 _ _ x4 =>
              cases x3
              cases x4
              refine ⟨_, rfl, ?_, _, _, rfl, .small _ (by omega)⟩
              have h64 : (2 : Nat) ^ 64 ≤ 2 ^ (r.c * K + r.d) := YQ (by omega)
              have : (2 : Nat) ^ 64 = 18446744073709551616 := by decide
              omega
        · cases h
      · cases h
    · cases h
  · cases h
theorem asZ_ok (hg : YB T K base ρ bd) {l : List (SV Ato)} {i : Nat} {vs : List Value} (h : asZ' T l = some i) (hd : YN (DS hT bd) G l vs) : Rp G.S (ρ i) (bd i) (.agg vs.toArray) := by
  unfold asZ' at h
  split at h
  · rename_i i' j
    split at h
    · rename_i hij
      rw [YF] at hij
      subst hij
      split at h
      · rename_i hk
        cases h
        have e := AV.k1 (Zei hg hk)
        obtain ⟨cs, us, rfl, h1, h2⟩ := cZ_of (r := []) e hd
        have := h2.nilI; subst this
        rw [List.append_nil, e]
        exact ⟨_, rfl, h1⟩
      · split at h
        · rename_i hk
          obtain ⟨e2, hb⟩ := viaR_ok hg h (by decide)
          have e := AV.k2 (Zei hg hk)
          obtain ⟨u1, v1, rfl, h1, h2⟩ := YN.runI hd
          obtain ⟨u2, v2, rfl, h3, h4⟩ := YN.runI h2
          have := h4.nilI; subst this
          have h1' : u1 = [Value.bool (ρ i').neg] := h1
          have h3' : Na G.S u2 (ρ i').abs (bd i') := h3
          rw [e] at h1' h3'
          subst h1'
          rw [e2, List.append_nil]
          exact ⟨_, rfl, (In.join h3').wide hb⟩
        · cases h
    · cases h
  · split at h
    · rename_i k r hf
      cases h
      obtain ⟨h1, h2⟩ := XT hf
      rw [(hg.row _ _ h1).1, h2]
      cases hd with
      | one x1 _ _ x2 =>
        cases x1
        cases x2 with
        | one x3 _ _ x4 =>
          cases x3
          cases x4 with
          | one x5 _ _ x6 =>
            cases x5
            cases x6
            exact ⟨_, rfl, In.zero _ _⟩
    · cases h
  · cases h
theorem asQ_ok (hg : YB T K base ρ bd) {l : List (SV Ato)} {i : Nat} {vs : List Value} (h : asQ' T l = some i) (hd : YN (DS hT bd) G l vs) : Rp G.S (ρ i) (bd i) (.agg vs.toArray) := by
  unfold asQ' at h
  split at h
  · rename_i i' j k
    split at h
    · rename_i hij
      rw [YF] at hij
      subst hij
      split at h
      · rename_i hik
        rw [YF] at hik
        subst hik
        split at h
        · rename_i hk
          cases h
          have e := AV.k2 (Zei hg hk)
          obtain ⟨cs, us, rfl, h1, h2⟩ := cQ_of (r := []) e hd
          have := h2.nilI; subst this
          rw [List.append_nil, e]
          exact ⟨_, rfl, h1⟩
        · cases h
      · cases h
    · cases h
  · split at h
    · rename_i k r hf
      cases h
      obtain ⟨h1, h2⟩ := XT hf
      rw [(hg.row _ _ h1).1, h2]
      cases hd with
      | one x1 _ _ x2 =>
        cases x1
        cases x2 with
        | one x3 _ _ x4 =>
          cases x3
          cases x4 with
          | one x5 _ _ x6 =>
            cases x5
            cases x6 with
            | one x7 _ _ x8 =>
              cases x7
              cases x8 with
              | one x9 _ _ x10 =>
                cases x9
                cases x10
                exact ⟨_, rfl, Fs.zero _ _⟩
    · cases h
  · cases h
theorem asA_ok (hg : YB T K base ρ bd) {k i : Nat} {x : SV Ato} {v : Value} (h : asA T k x = some i) (hd : Den (DS hT bd) G x v) : Rp G.S (ρ i) (bd i) v := by
  unfold asA at h
  split at h
  · cases hd with
    | agg hl =>
      split at h
      · exact asN_ok hg h hl
      · exact asZ_ok hg h hl
      · exact asQ_ok hg h hl
      · cases h
  · split at h
    · rename_i j
      split at h
      · split at h
        · rename_i hk
          cases h
          cases hd with
          | at_ hp =>
            obtain ⟨s, e, hc⟩ := hp
            rw [e]
            have : v = .string s := by simpa using hc
            exact this
        · cases h
      · cases h
    · cases h
  · cases h
end
end
end Go.Cham
namespace Go.Cham
open Go Go.RowKit
noncomputable section
def getA (T : Tb) (kds : List Nat) : List (SV Ato) → Option (List Nat) := List.rec (fun l => match l with
    | [] => some []
    | _ => none) (fun k _ ih l => match l with
    | x :: r => match asA T k x with
      | some i => match isK T i k with
        | true => match ih r with
          | some is => some (i :: is)
          | none => none
        | false => none
      | none => none
    | [] => none) kds
def Reps (S : Sh) : List Nat → List AV → List Nat → List Value → Prop
  | [], [], [], [] => True
  | kd :: kds, x :: xs, k :: ks, v :: vs => x.kind = kd ∧ Rp S x k v ∧ Reps S kds xs ks vs
  | _, _, _, _ => False
def limB (T : Tb) (lim : Nat) (is : List Nat) : Bool := is.all fun i => match Zat T i with
  | some r => Nat.ble (Nat.add (Nat.mul r.c T.km) r.d) lim
  | none => false
def sumC (T : Tb) (is : List Nat) : Nat := List.rec 0 (fun i _ s => match Zat T i with
  | some r => Nat.add r.c s
  | none => s) is
def sumD (T : Tb) (is : List Nat) : Nat := List.rec 0 (fun i _ s => match Zat T i with
  | some r => Nat.add r.d s
  | none => s) is
def sumB (T : Tb) (e : Nat) (is : List Nat) (r : Rw) : Bool := Nat.ble (sumC T is) r.c && Nat.ble (Nat.add (sumD T is) e) r.d
def resV (kd k : Nat) : SV Ato := match kd with
  | 0 => .agg (cN k)
  | 1 => .agg (cZ k)
  | 2 => .agg (cQ k)
  | _ => .at_ (.t k)
def opV (T : Tb) (op lim e : Nat) (is : List Nat) : Option (SV Ato) := match limB T lim is with
  | true => match findV T (op :: is) with
    | some (k, r) => match sumB T e is r with
      | true => some (resV (Nat.mod op 4) k)
      | false => none
    | none => none
  | false => none
def tstV (T : Tb) (t lim : Nat) (is : List Nat) : Option Int := match limB T lim is with
  | true => condGo (t :: is) T.conds
  | false => none
def pO (T : Tb) (kds : List Nat) (op lim e : Nat) : PrF Ato := fun l => match getA T kds l with
  | some is => opV T op lim e is
  | none => none
def pT (T : Tb) (kds : List Nat) (t lim : Nat) : PrF Ato := fun l => match getA T kds l with
  | some is => match tstV T t lim is with
    | some x => some (.int .i64 x)
    | none => none
  | none => none
section
variable {T : Tb} {K : Nat} {base ρ : Nat → AV} {bd : Nat → Nat} {G : Gh} {T0 : Tb} {hT : Cs T0 ρ}
theorem Qe (hg : YB T K base ρ bd) : ∀ {kds : List Nat} {l : List (SV Ato)} {is : List Nat} {vs : List Value}, getA T kds l = some is → XF (DS hT bd) G l vs → Reps G.S kds (is.map ρ) (is.map bd) vs
  | [], l, is, vs, h, hd => by
    cases l with
    | nil =>
      have h' : some [] = some is := h
      cases h'
      cases hd
      trivial
    | cons x r => cases (show (none : Option (List Nat)) = some is from h)
  | k :: kds, l, is, vs, h, hd => by
    cases l with
    | nil => cases (show (none : Option (List Nat)) = some is from h)
    | cons x r =>
      have h' : (match asA T k x with
        | some i => match isK T i k with
          | true => match getA T kds r with
            | some is => some (i :: is)
            | none => none
          | false => none
        | none => none) = some is := h
      split at h'
      · rename_i i hi
        split at h'
        · rename_i hk
          split at h'
          · rename_i is' his
            cases h'
            cases hd with
            | cons h1 h2 => exact ⟨Zei hg hk, asA_ok hg hi h1, Qe hg his h2⟩
          · cases h'
        · cases h'
      · cases h'
theorem limB_ok (hg : YB T K base ρ bd) {lim : Nat} {is : List Nat} (h : limB T lim is = true) : ∀ k ∈ is.map bd, k ≤ lim := by
  intro k hk
  obtain ⟨i, hi, rfl⟩ := List.mem_map.1 hk
  have := List.all_eq_true.1 h i hi
  split at this
  · rename_i r hr
    have h1 := Nat.le_of_ble_eq_true this
    rw [(hg.row i r hr).2]
    exact Nat.le_trans (Nat.add_le_add_right (Nat.mul_le_mul_left _ hg.km) _) h1
  · cases this
theorem sum_ok (hg : YB T K base ρ bd) {lim : Nat} : ∀ {is : List Nat}, limB T lim is = true → (is.map bd).sum = sumC T is * K + sumD T is
  | [], _ => by simp [sumC, sumD]
  | i :: is, h => by
    have h1 : (limB T lim [i] && limB T lim is) = true := by simpa [limB] using h
    simp only [Bool.and_eq_true] at h1
    have ih := sum_ok hg h1.2
    have h2 : (match Zat T i with
      | some r => Nat.ble (Nat.add (Nat.mul r.c T.km) r.d) lim
      | none => false) = true := by simpa [limB] using h1.1
    split at h2
    · rename_i r hr
      have e1 : sumC T (i :: is) = r.c + sumC T is := by
        show (match Zat T i with
          | some r => Nat.add r.c (sumC T is)
          | none => sumC T is) = _
        rw [hr]; rfl
      have e2 : sumD T (i :: is) = r.d + sumD T is := by
        show (match Zat T i with
          | some r => Nat.add r.d (sumD T is)
          | none => sumD T is) = _
        rw [hr]; rfl
      rw [List.map_cons, List.sum_cons, ih, e1, e2, (hg.row i r hr).2, Nat.add_mul]
      omega
    · cases h2
theorem YT {S : Sh} {blk : Nat → Option (Nat × Nat)} {kd k : Nat} {v : Value} (hk : (ρ k).kind = kd) (h : Rp S (ρ k) (bd k) v) : Den (DS hT bd) ⟨S, blk⟩ (resV kd k) v := by
  cases hx : ρ k with
  | n a =>
    rw [hx] at hk h
    subst hk
    obtain ⟨cs, rfl, h1⟩ := h
    have := cN_mk (hT := hT) (bd := bd) (G := ⟨S, blk⟩) hx h1 (Nat.le_refl _) .nil
    have q := Den.agg this
    simp only [List.append_nil] at q
    exact q
  | z a =>
    rw [hx] at hk h
    subst hk
    obtain ⟨cs, rfl, h1⟩ := h
    have := cZ_mk (hT := hT) (bd := bd) (G := ⟨S, blk⟩) hx h1 (Nat.le_refl _) .nil
    have q := Den.agg this
    simp only [List.append_nil] at q
    exact q
  | q a =>
    rw [hx] at hk h
    subst hk
    obtain ⟨cs, rfl, h1⟩ := h
    have := cQ_mk (hT := hT) (bd := bd) (G := ⟨S, blk⟩) hx h1 (Nat.le_refl _) .nil
    have q := Den.agg this
    simp only [List.append_nil] at q
    exact q
  | s a =>
    rw [hx] at hk h
    subst hk
    have h' : v = .string a := h
    subst h'
    exact .at_ ⟨a, hx, rfl⟩
theorem Zdb (hg : YB T K base ρ bd) {op lim e : Nat} {is : List Nat} {r : SV Ato} (h : opV T op lim e is = some r) (ho : 10 < op) :
    ∃ k, r = resV (op % 4) k ∧ (ρ k).kind = op % 4 ∧ ρ k = semL op (is.map ρ) ∧ (∀ k ∈ is.map bd, k ≤ lim) ∧ (is.map bd).sum + e ≤ bd k := by
  unfold opV at h
  split at h
  · rename_i hl
    split at h
    · rename_i k r' hf
      split at h
      · rename_i hs
        simp only [Option.some.injEq] at h
        obtain ⟨h1, h2⟩ := XT hf
        obtain ⟨h3, h4⟩ := hg.row _ _ h1
        rw [h2, semK_op ho] at h3
        refine ⟨k, h.symm, by rw [h3]; exact semL_kind _ _, h3, limB_ok hg hl, ?_⟩
        unfold sumB at hs
        simp only [Bool.and_eq_true] at hs
        have a1 := Nat.le_of_ble_eq_true hs.1
        have a2 := Nat.le_of_ble_eq_true hs.2
        rw [sum_ok hg hl, h4, Nat.add_assoc]
        exact Nat.add_le_add (Nat.mul_le_mul_right _ a1) a2
      · cases h
    · cases h
  · cases h
theorem tstV_ok (hg : YB T K base ρ bd) {t lim : Nat} {is : List Nat} {x : Int} (h : tstV T t lim is = some x) : semT t (is.map ρ) = x ∧ (∀ k ∈ is.map bd, k ≤ lim) := by
  unfold tstV at h
  split at h
  · rename_i hl
    exact ⟨hg.cond _ (Za2 h), limB_ok hg hl⟩
  · cases h
theorem pO_ok (hg : YB T K base ρ bd) {P : Program} {f : FuncId} {kds : List Nat} {op lim e : Nat} (he : ZW P f = true) (ho : 10 < op)
    (h : ∀ S w vs xs ks k, Ya S w → Reps S kds xs ks vs → (∀ k ∈ ks, k ≤ lim) → ks.sum + e ≤ k → Calls P f vs.toArray w (Ret S w fun S' v => Rp S' (semL op xs) k v)) : Xp P (DS hT bd) f (pO T kds op lim e) := by
  intro args r hr G w vs hd hS
  unfold pO at hr
  split at hr
  · rename_i is his
    obtain ⟨k, rfl, h1, h2, h3, h4⟩ := Zdb hg hr ho
    refine .ret he (h _ _ _ _ _ (bd k) hS (Qe hg his hd) h3 h4) fun S' v hv => ?_
    rw [← h2] at hv
    exact YT h1 hv
  · cases hr
theorem pT_ok (hg : YB T K base ρ bd) {P : Program} {f : FuncId} {kds : List Nat} {t lim : Nat} (he : ZW P f = true)
    (h : ∀ S w vs xs ks, Ya S w → Reps S kds xs ks vs → (∀ k ∈ ks, k ≤ lim) → Calls P f vs.toArray w (Ret S w fun _ v => v = .int .i64 (semT t xs))) : Xp P (DS hT bd) f (pT T kds t lim) := by
  intro args r hr G w vs hd hS
  unfold pT at hr
  split at hr
  · rename_i is his
    split at hr
    · rename_i x hx
      cases hr
      obtain ⟨h1, h2⟩ := tstV_ok hg hx
      refine .ret he (h _ _ _ _ _ hS (Qe hg his hd) h2) fun S' v hv => ?_
      rw [hv, h1]
      exact .int _ _
    · cases hr
  · cases hr
theorem Reps.cons {S : Sh} {kd : Nat} {kds : List Nat} {xs : List AV} {ks : List Nat} {vs : List Value} (h : Reps S (kd :: kds) xs ks vs) : ∃ x xs' k ks' v vs', xs = x :: xs' ∧ ks = k :: ks' ∧ vs = v :: vs' ∧ x.kind = kd ∧ Rp S x k v ∧ Reps S kds xs' ks' vs' := by
  cases xs with
  | nil => simp [Reps] at h
  | cons x xs => cases ks with
    | nil => simp [Reps] at h
    | cons k ks => cases vs with
      | nil => simp [Reps] at h
      | cons v vs => exact ⟨x, xs, k, ks, v, vs, rfl, rfl, rfl, h.1, h.2.1, h.2.2⟩
theorem Reps.nilI {S : Sh} {xs : List AV} {ks : List Nat} {vs : List Value} (h : Reps S [] xs ks vs) : xs = [] ∧ ks = [] ∧ vs = [] := by
  cases xs <;> cases ks <;> cases vs <;> simp_all [Reps]
theorem Reps.one {S : Sh} {kd : Nat} {xs : List AV} {ks : List Nat} {vs : List Value} (h : Reps S [kd] xs ks vs) : ∃ x k v, xs = [x] ∧ ks = [k] ∧ vs = [v] ∧ x.kind = kd ∧ Rp S x k v := by
  obtain ⟨x, xs', k, ks', v, vs', rfl, rfl, rfl, h1, h2, h3⟩ := h.cons
  obtain ⟨rfl, rfl, rfl⟩ := h3.nilI
  exact ⟨x, k, v, rfl, rfl, rfl, h1, h2⟩
theorem Reps.two {S : Sh} {kd kd' : Nat} {xs : List AV} {ks : List Nat} {vs : List Value} (h : Reps S [kd, kd'] xs ks vs) : ∃ x k v x' k' v', xs = [x, x'] ∧ ks = [k, k'] ∧ vs = [v, v'] ∧ x.kind = kd ∧ Rp S x k v ∧ x'.kind = kd' ∧ Rp S x' k' v' := by
  obtain ⟨x, xs', k, ks', v, vs', rfl, rfl, rfl, h1, h2, h3⟩ := h.cons
  obtain ⟨x', k', v', rfl, rfl, rfl, h4, h5⟩ := h3.one
  exact ⟨x, k, v, x', k', v', rfl, rfl, rfl, h1, h2, h4, h5⟩
theorem Rp.q {S : Sh} {x : AV} {k : Nat} {v : Value} (hk : x.kind = 2) (h : Rp S x k v) : ∃ cs, v = .agg cs.toArray ∧ Fs S cs [x.rat] k := by rw [AV.k2 hk] at h; exact h
theorem Rp.z {S : Sh} {x : AV} {k : Nat} {v : Value} (hk : x.kind = 1) (h : Rp S x k v) : ∃ cs, v = .agg cs.toArray ∧ In S cs x.int k := by rw [AV.k1 hk] at h; exact h
theorem Rp.n {S : Sh} {x : AV} {k : Nat} {v : Value} (hk : x.kind = 0) (h : Rp S x k v) : ∃ cs, v = .agg cs.toArray ∧ Na S cs x.nat k := by rw [AV.k0 hk] at h; exact h
theorem Rp.s {S : Sh} {x : AV} {k : Nat} {v : Value} (hk : x.kind = 3) (h : Rp S x k v) : v = .string x.txt := by rw [AV.k3 hk] at h; exact h
end
end
end Go.Cham
namespace Go.Cham
open Go Go.RowKit Go.Proofs
set_option maxRecDepth 20000 in
theorem nat_Of {S : Sh} {w : World} (hS : Ya S w) {n : Nat} (hn : n < 18446744073709551616) : Calls Tryz.prog 76 [(.int .u64 ((n : Nat) : Int))].toArray w (Ret S w (fun S v => ∃ (c0 : List Value), v = .agg c0.toArray ∧ Na S c0 (n) (64))) := by
 refine ZK (n := 5) Tryz.func76 rfl rfl ?_
 intro ac0 L0
 replace L0 : Zt ac0 5 [(0, (.int .u64 (n : Int)))] := L0
 have R0 : Run S w S [] w := .start hS
 refine wp_seq (Za (so L0 rfl (ZG (cs := zN1) ZO R0 rfl ?_)))
 intro b1 _ R1 _ L1
 refine sn (wp_seq (Za (sm L1 rfl ?_)))
 intro _ L2
 have h1 : Na S [(.int .u64 (n : Int)), (.slice none 0 0)] (n) (64) := Na.ofLow hn
 exact so L2 rfl (ZC (cs := [(.int .u64 (n : Int)), (.slice none 0 0)]) L2 ZO XD (.cons rfl Yd rfl (by decide) .nil) (by rfl) fun _ L3 => Zs L3 rfl rfl (Zi L3 rfl rfl R1 Zk h1.len rfl h1.ones fun _ R2 _ L4 => sn (wp_ret ((Zo (rs := Tryz.f76.results.toList) L4 rfl (Res.aggW rfl ZE Zk (R2.has (List.Mem.head _)) h1.len Res.nil) (⟨_, _, rfl, R2.ext, ⟨_, rfl, (h1.to rfl (by omega))⟩⟩))))))
set_option maxRecDepth 20000 in
theorem YV {S : Sh} {w : World} (hS : Ya S w) {c_a : List Value} {a : Nat} {k_a : Nat} (h_a : Na S c_a (a) (k_a)) : Calls Tryz.prog 140 [(.agg (c_a : List Value).toArray)].toArray w (Ret S w (fun S v => ∃ (p0 : Option Addr) (len0 : Nat) (cap0 : Nat), v = .slice p0 len0 cap0 ∧ (ZP W64 a).length = len0 ∧ len0 ≤ cap0 ∧ len0 ≤ 281474976710656 ∧ Dg S p0 len0 cap0 (ZP W64 a))) := by
 refine ZK (n := 14) Tryz.func140 rfl rfl ?_
 intro ac0 L0
 replace L0 : Zt ac0 14 [(0, (.agg (c_a : List Value).toArray))] := L0
 have R0 : Run S w S [] w := .start hS
 obtain ⟨hb_a, ⟨hs_a, rfl⟩ | ⟨hw_a, lo_a, bb_a, len_a, cap_a, rest_a, hlo_a, rfl, rw_a, hd_a, h2_a⟩⟩ := h_a.open
 ·refine wp_seq (Za (so L0 rfl (ZN (cs := [(.int .u64 (a : Int)), (.slice none 0 0)]) L0 rfl R0 rfl ?_)))
  intro b1 _ _ l1 r1 R1 _ L1
  refine sa L1 rfl fun _ L2 => sn (wp_seq (wp_seq (Za (so L2 rfl (Zd (off' := 1) L2 rfl ZL rfl fun _ L3 => so L3 rfl (Zg L3 rfl YC (R1.row r1) rfl fun _ L4 => so L4 rfl (does_neqNil L4 rfl rfl Tryz.underlying30 fun _ L5 => sn ?_)))))))
  refine Zm L5 rfl rfl (wp_skip ((Zc (wp_seq (wp_seq (Za (so L5 rfl (Zd (off' := 0) L5 rfl Yd rfl ?_))))))))
  intro _ L6
  refine so L6 rfl (Zg L6 rfl Ym (R1.row r1) rfl fun _ L7 => ?_)
  by_cases t1 : (a : Int) = (0 : Int)
  ·refine so L7 rfl (bT t1 (fun _ => ZZ L7 rfl rfl) fun _ L8 => ?_)
   have L9 := (L8.kp [1, 2, 10] rfl); clear L8
   refine sn (Zp L9 rfl rfl (wp_seq (Za (sa L9 rfl ?_))))
   intro _ L10
   exact sn (wp_ret ((Zy (Zo (rs := Tryz.f140.results.toList) L10 rfl (.tmp rfl Res.nil) (⟨_, _, rfl, R1.ext, ⟨_, _, _, rfl, (by rw [show a = 0 by omega, Xg]; rfl), (Nat.le_refl _), (by omega), (by rw [show a = 0 by omega, Xg]; exact Dg.nil)⟩⟩)))))
  ·refine so L7 rfl (bF t1 (fun _ => ZZ L7 rfl rfl) fun _ L11 => ?_)
   have L12 := (L11.kp [1, 2, 10] rfl); clear L11
   refine sn (Zm L12 rfl rfl (wp_skip ((Zc (wp_seq (Za (so L12 rfl (Zd (off' := 0) L12 rfl Yd rfl ?_))))))))
   intro _ L13
   refine so L13 rfl (Zg L13 rfl Ym (R1.row r1) rfl fun _ L14 => so L14 rfl (Xn (cs := (Yr [a] ++ [])) L14 Tryz.underlying30 ZA Qc (.cons rfl rfl (by decide) .nil) [[(.int .u64 (a : Int))]] rfl rfl (by rfl) (by decide) R1 fun b2 _ R2 _ L15 => sa L15 rfl fun _ L16 => ?_))
   have L17 := (L16.kp [2] rfl); clear L16
   refine sn ?_
   obtain ⟨S2, l2, r2, R3⟩ := (R2).freeze
   have hd1 : Dg S2 (some ⟨b2, 0, none⟩) 1 1 ([a]) := ⟨by first | (simp; done) | (simp; omega) | omega, by omega, by omega, by simp; omega, fun _ => ⟨_, _, rfl, r2⟩⟩
   exact wp_ret ((Zo (rs := Tryz.f140.results.toList) L17 rfl (.tmp rfl Res.nil) (⟨_, _, rfl, R3.ext, ⟨_, _, _, rfl, (by rw [digs_small (by omega) (by omega)]; rfl), (Nat.le_refl _), (by omega), (hd1.cast (digs_small (by omega) (by omega)).symm)⟩⟩)))
 ·have hl_a := hd_a.hlen; have hc_a := hd_a.hcap; have hg_a := hd_a.hbig
  have hW_a : 18446744073709551616 ≤ a := hw_a
  refine wp_seq (Za (so L0 rfl (ZN (cs := [(.int .u64 (lo_a : Int)), (.slice (some ⟨bb_a, 0, none⟩) len_a cap_a)]) L0 rfl R0 rfl ?_)))
  intro b3 _ _ l3 r3 R4 _ L18
  refine sa L18 rfl fun _ L19 => sn (wp_seq (wp_seq (Za (so L19 rfl (Zd (off' := 1) L19 rfl ZL rfl fun _ L20 => so L20 rfl (Zg L20 rfl YC (R4.row r3) rfl fun _ L21 => so L21 rfl (does_neqNil L21 rfl rfl Tryz.underlying30 fun _ L22 => sn ?_)))))))
  refine Zp L22 rfl rfl (wp_seq (Za (so L22 rfl (Zd (off' := 1) L22 rfl ZL rfl ?_))))
  intro _ L23
  exact so L23 rfl (Zg L23 rfl YC (R4.row r3) rfl fun _ L24 => sa L24 rfl fun _ L25 => sn (wp_ret ((Zy (Zo (rs := Tryz.f140.results.toList) (L25.kp [1, 2] rfl) rfl (.tmp rfl Res.nil) (⟨_, _, rfl, R4.ext, ⟨_, _, _, rfl, (hd_a.up l3).hlen, (hd_a.up l3).hcap, (hd_a.up l3).hbig, (hd_a.up l3)⟩⟩))))))
set_option maxRecDepth 20000 in
theorem Zbe {S : Sh} {w : World} (hS : Ya S w) {p_d : Option Addr} {len_d cap_d : Nat} {d : List Nat} (hd_d : Dg S p_d len_d cap_d d) {k : Nat} (hk : val W64 d ≤ 2 ^ k) : Calls Tryz.prog 135 [(.slice p_d len_d cap_d)].toArray w (Ret S w (fun S v => ∃ (c0 : List Value), v = .agg c0.toArray ∧ Na S c0 (val W64 d) (k))) := by
 refine ZK (n := 33) Tryz.func135 rfl rfl ?_
 intro ac0 L0
 replace L0 : Zt ac0 33 [(0, (.slice p_d len_d cap_d))] := L0
 have R0 : Run S w S [] w := .start hS
 have hl_d := hd_d.hlen; have hc_d := hd_d.hcap; have hg_d := hd_d.hbig
 refine wp_seq (Za (so L0 rfl (ZG (cs := zN1) ZO R0 rfl ?_)))
 intro b1 _ R1 _ L1
 refine sn (wp_seq (Za (sm L1 rfl ?_)))
 intro _ L2
 refine so L2 rfl (ZM L2 rfl Tryz.underlying30 fun _ L3 => sa L3 rfl fun _ L4 => sn (wp_seq (wp_block ?_)))
 refine Yb (fun m ac ww => ∃ (S' : Sh) (n : Nat), S.le S' ∧ Zt ac 33 [(0, (.slice p_d len_d cap_d)), (2, (.pointer (some ⟨b1, 0, none⟩))), (3, (.int .i64 ((n : Nat) : Int)))] ∧ Run S w S' [(b1, 32, zN1)] ww ∧ (n ≤ len_d) ∧ (val W64 (d.take n) = val W64 d) ∧ m = n)
  (len_d) ⟨S, len_d, Sh.le.refl _, (L4.kp [3, 2, 0] rfl), R1, (by omega), (by rw [List.take_of_length_le (by omega)]), rfl⟩ ?_
 rintro m_1 ac1 _ ⟨S1, n, l1, L5, R2, hn, hv, m1⟩
 refine wp_seq (wp_seq (Za (sm L5 rfl ?_)))
 intro _ L6
 by_cases t1 : (0 : Int) < (n : Int)
 ·refine so L6 rfl (bT t1 (fun _ => ZS L6 rfl rfl) fun _ L7 => sm L7 rfl fun _ L8 => son L8 rfl (Zh L8 rfl fun _ L9 => son L9 rfl (Zh L9 rfl fun _ L10 => son L10 rfl (ZR (z := ((n : Int) - (1 : Int))) L10 rfl rfl (IntWalk.i64_in _ (by omega)) fun _ L11 => ?_))))
  obtain ⟨b2, rest_1, rfl, r1⟩ := (hd_d.up l1).row (by omega)
  refine son L11 rfl (Zr ((n - 1)) L11 rfl rfl Tryz.underlying30 ZA (by omega) (by omega) fun _ L12 => son L12 rfl (Zg (v := (.int .u64 ((d.getD ((n - 1)) 0 : Nat) : Int))) L12 rfl Ym (R2.row r1) (by rw [Nat.zero_add]; exact ZX (by omega)) fun _ L13 => ?_))
  by_cases t2 : ((d.getD ((n - 1)) 0 : Nat) : Int) = (0 : Int)
  ·refine son L13 rfl (bT t2 (fun _ => ZZ L13 rfl rfl) fun _ L14 => so L14 rfl (Zj L14 rfl rfl fun _ L15 => sn (Zp L15 rfl rfl (wp_skip ((Zc (wp_block (Za (sm L15 rfl fun _ L16 => so L16 rfl (ZR (z := ((n : Int) - (1 : Int))) L16 rfl rfl (IntWalk.i64_in _ (by omega)) fun _ L17 => ?_))))))))))
   refine sa L17 rfl fun a17 L18 => Yy ((ZI (Zc ?_)))
   have e1 : (((n : Int) - (1 : Int)) : Int) = (((n - 1) : Nat) : Int) := by omega
   have L19 : Zt a17 33 [(3, (.int .i64 (((n - 1) : Nat) : Int)))] := by have q := (L18.kp [3] rfl); rw [e1] at q; exact q
   exact ⟨(n - 1), (by omega), S1, (n - 1), l1, (L18.keep (L18.keep (L19.keep (Zt.none _ L18) (t := 3) rfl) (t := 2) rfl) (t := 0) rfl), R2, (by omega), (by rw [← hv]; exact Zd6 (by omega) (by omega) (by omega)), rfl⟩
  ·refine son L13 rfl (bF t2 (fun _ => ZZ L13 rfl rfl) fun _ L20 => so L20 rfl (Zj L20 rfl rfl fun _ L21 => sn (Zm L21 rfl rfl (wp_exit ((Zz (Zz (YR (Zc (wp_seq (wp_seq (Za (sm L21 rfl fun _ L22 => ?_)))))))))))))
   have L23 := (L22.kp [0, 2, 3, 18] rfl); clear L22
   refine sn (wp_block (wp_seq (Za ?_)))
   have t3 : ¬ ((n : Int) = (0 : Int)) := by omega
   refine so L23 rfl (bF t3 (fun _ => ZZ L23 rfl rfl) fun _ L24 => sa L24 rfl fun _ L25 => sn (Zm L25 rfl rfl (wp_seq (Za ?_))))
   by_cases t4 : (n : Int) = (1 : Int)
   ·refine so L25 rfl (bT t4 (fun _ => ZZ L25 rfl rfl) fun _ L26 => sa L26 rfl fun _ L27 => sn (Zp L27 rfl rfl (wp_seq (Za (sm L27 rfl fun _ L28 => so L28 rfl (Zr (0) L28 rfl rfl Tryz.underlying30 ZA (by omega) (by omega) fun _ L29 => so L29 rfl (Zg (v := (.int .u64 ((d.getD (0) 0 : Nat) : Int))) L29 rfl Ym (R2.row r1) (by rw [Nat.zero_add]; exact ZX (by omega)) fun _ L30 => ?_)))))))
    have h1 : Na S1 [(.int .u64 ((d.getD (0) 0 : Nat) : Int)), (.slice none 0 0)] (val W64 d) (k) := by (have e : val W64 d = d.getD 0 0 := (by rw [← hv, show n = 1 by omega]; exact val_one (by omega))); rw [e]; exact Na.ofLowK (ZQ hd_d.hlt (by decide) 0) (by rw [← e]; exact hk)
    exact so L30 rfl (ZC (cs := [(.int .u64 ((d.getD (0) 0 : Nat) : Int)), (.slice none 0 0)]) L30 ZO XD (.cons rfl Yd rfl (by decide) .nil) (by rfl) fun _ L31 => Zs L31 rfl rfl (Zi L31 rfl rfl R2 Zk h1.len rfl h1.ones fun _ R3 _ L32 => sn (wp_ret ((Yz (Zy (Zo (rs := Tryz.f135.results.toList) (L32.kp [0, 2, 3] rfl) rfl (Res.aggW rfl ZE Zk (R3.has (List.Mem.head _)) h1.len Res.nil) (⟨_, _, rfl, R3.ext, ⟨_, rfl, (h1.to rfl (by omega))⟩⟩))))))))
   ·refine so L25 rfl (bF t4 (fun _ => ZZ L25 rfl rfl) fun _ L34 => sa L34 rfl fun _ L35 => sn (Zm L35 rfl rfl (wp_skip ((ZI (Zc (wp_seq (Za (sm L35 rfl fun _ L36 => sm L36 rfl fun _ L37 => ?_)))))))))
    refine sm L37 rfl fun _ L38 => so L38 rfl (does_slice3 (i := n) (j := n) L38 rfl rfl rfl Tryz.underlying30 ZA (by omega) (by omega) fun _ L39 => ?_)
    have h2 : Na S1 [(.int .u64 (0 : Int)), (.slice (some ⟨b2, 0, none⟩) (n) (n))] (val W64 d) (k) := Na.cut r1 (by omega) (by omega) (by omega) hd_d.hlt (by omega) hv hk
    exact so L39 rfl (ZC (cs := [(.int .u64 (0 : Int)), (.slice (some ⟨b2, 0, none⟩) (n) (n))]) L39 ZO XD (.cons rfl ZL rfl (by decide) .nil) (by rfl) fun _ L40 => Zs L40 rfl rfl (Zi L40 rfl rfl R2 Zk h2.len rfl h2.ones fun _ R4 _ L41 => sn (wp_ret ((Zo (rs := Tryz.f135.results.toList) (L41.kp [2] rfl) rfl (Res.aggW rfl ZE Zk (R4.has (List.Mem.head _)) h2.len Res.nil) (⟨_, _, rfl, R4.ext, ⟨_, rfl, (h2.to rfl (by omega))⟩⟩))))))
 ·refine so L6 rfl (bF t1 (fun _ => ZS L6 rfl rfl) fun _ L43 => sm L43 rfl fun _ L44 => sof L44 rfl fun _ L45 => sof L45 rfl fun _ L46 => sof L46 rfl fun _ L47 => sof L47 rfl fun _ L48 => sof L48 rfl fun _ L49 => ?_)
  refine sof L49 rfl fun _ L50 => so L50 rfl (Zj L50 rfl rfl fun _ L51 => ?_)
  have L52 := (L51.kp [0, 2, 3, 6, 7, 8, 15] rfl); clear L51
  refine sn (Zm L52 rfl rfl (wp_exit ((Zz (Zz (YR (Zc (wp_seq (wp_seq (Za (sm L52 rfl ?_)))))))))))
  intro _ L53
  refine sn (wp_block (wp_seq (Za ?_)))
  have t5 : (n : Int) = (0 : Int) := by omega
  refine so L53 rfl (bT t5 (fun _ => ZZ L53 rfl rfl) fun _ L54 => sa L54 rfl fun _ L55 => ?_)
  have L56 := (L55.kp [0, 2, 3, 18, 19] rfl); clear L55
  refine sn (Zp L56 rfl rfl (wp_seq (Za ?_)))
  have h3 : Na S1 zN1 (val W64 d) (k) := by rw [show val W64 d = 0 from by rw [← hv, show n = 0 by omega]; rfl]; exact Na.zero _ _
  exact so L56 rfl (ZC (cs := zN1) L56 ZO XD .nil (by rfl) fun _ L57 => Zs L57 rfl rfl (Zi L57 rfl rfl R2 Zk h3.len rfl h3.ones fun _ R5 _ L58 => sn (wp_ret ((Yz (Zy (Zo (rs := Tryz.f135.results.toList) L58 rfl (Res.aggW rfl ZE Zk (R5.has (List.Mem.head _)) h3.len Res.nil) (⟨_, _, rfl, R5.ext, ⟨_, rfl, (h3.to rfl (by omega))⟩⟩))))))))
end Go.Cham
namespace Go.Cham
open Go Go.RowKit Go.Proofs
set_option maxRecDepth 20000 in
theorem Yw {S : Sh} {w : World} (hS : Ya S w) {c_a : List Value} {a : Nat} {k_a : Nat} (h_a : Na S c_a (a) (k_a)) : Calls Tryz.prog 98 [(.agg (c_a : List Value).toArray)].toArray w (Ret S w (fun S v => v = .int .i64 (((Zw a : Nat) : Int)))) := by
 refine ZK (n := 24) Tryz.func98 rfl rfl ?_
 intro ac0 L0
 replace L0 : Zt ac0 24 [(0, (.agg (c_a : List Value).toArray))] := L0
 have R0 : Run S w S [] w := .start hS
 have hbl := bitlen_le (k := 64) (n := (ZP W64 a).getD ((ZP W64 a).length - 1) 0) (Nat.le_of_lt (ZQ (Zdw (B := W64) (by decide) _) (by decide) _))
 obtain ⟨hb_a, ⟨hs_a, rfl⟩ | ⟨hw_a, lo_a, bb_a, len_a, cap_a, rest_a, hlo_a, rfl, rw_a, hd_a, h2_a⟩⟩ := h_a.open
 ·refine wp_seq (Za (so L0 rfl (ZN (cs := [(.int .u64 (a : Int)), (.slice none 0 0)]) L0 rfl R0 rfl ?_)))
  intro b1 _ _ l1 r1 R1 _ L1
  refine sa L1 rfl fun _ L2 => sn (wp_seq (wp_seq (Za (so L2 rfl (Zd (off' := 1) L2 rfl ZL rfl fun _ L3 => so L3 rfl (Zg L3 rfl YC (R1.row r1) rfl fun _ L4 => so L4 rfl (ZT L4 rfl rfl Tryz.underlying30 fun _ L5 => sn ?_)))))))
  refine Zp L5 rfl rfl (wp_seq (Za (so L5 rfl (Zd (off' := 0) L5 rfl Yd rfl ?_))))
  intro _ L6
  refine so L6 rfl (Zg L6 rfl Ym (R1.row r1) rfl fun _ L7 => so L7 rfl (Zl L7 rfl ent_150 (bits_Len64R R1.holds (x := a) (hs_a)) fun v_1 _ _ x1 v1 => ?_))
  have R2 := R1.call x1
  obtain rfl := v1
  intro _ L8
  exact sa L8 rfl fun _ L9 => sn (wp_ret ((Zy (Zo (rs := Tryz.f98.results.toList) (L9.kp [1, 2] rfl) rfl (.tmp rfl Res.nil) (⟨_, _, rfl, R2.ext, rfl⟩)))))
 ·have hl_a := hd_a.hlen; have hc_a := hd_a.hcap; have hg_a := hd_a.hbig
  have hW_a : 18446744073709551616 ≤ a := hw_a
  refine wp_seq (Za (so L0 rfl (ZN (cs := [(.int .u64 (lo_a : Int)), (.slice (some ⟨bb_a, 0, none⟩) len_a cap_a)]) L0 rfl R0 rfl ?_)))
  intro b2 _ _ l3 r2 R3 _ L11
  refine sa L11 rfl fun _ L12 => sn (wp_seq (wp_seq (Za (so L12 rfl (Zd (off' := 1) L12 rfl ZL rfl fun _ L13 => so L13 rfl (Zg L13 rfl YC (R3.row r2) rfl fun _ L14 => so L14 rfl (ZT L14 rfl rfl Tryz.underlying30 fun _ L15 => sn ?_)))))))
  refine Zm L15 rfl rfl (wp_skip ((Zc (wp_seq ?_))))
  have L16 := (L15.kp [1, 2] rfl)
  refine Zu (E0 := []) (H0 := []) (n := 24) mixed 14 [] (fun k => 0) (Zce [
    .is (.pointer (some ⟨b2, 1, none⟩)),
    .is (.slice (some ⟨bb_a, 0, none⟩) len_a cap_a),
    .is (.int .i64 (len_a : Int)),
    .is (.int .i64 ((len_a : Int) - (1 : Int))),
    .is (.int .i64 ((64 : Int) * ((len_a : Int) - (1 : Int)))),
    .is (.pointer (some ⟨b2, 1, none⟩)),
    .is (.slice (some ⟨bb_a, 0, none⟩) len_a cap_a),
    .is (.pointer (some ⟨b2, 1, none⟩)),
    .is (.slice (some ⟨bb_a, 0, none⟩) len_a cap_a),
    .is (.int .i64 (len_a : Int)),
    .is (.int .i64 ((len_a : Int) - (1 : Int))),
    .is (.pointer (some ⟨bb_a, (0 + ((len_a - 1))), none⟩)),
    .is (.int .u64 (((ZP W64 a).getD ((len_a - 1)) 0 : Nat) : Int)),
    .is (.int .i64 (((Zw ((ZP W64 a).getD ((len_a - 1)) 0) : Nat) : Int)))]) L16 R3 (by simp) (by simp) (by rfl) (by rfl) (by simp) (ZU ?_) ?_
  ·refine (And.intro ?_ (And.intro ?_ (And.intro ?_ (And.intro ?_ (And.intro ?_ (And.intro ?_ (And.intro ?_ (And.intro ?_ (And.intro ?_ (And.intro ?_ (And.intro ?_ (And.intro ?_ (And.intro ?_ (And.intro ?_ trivial))))))))))))))
   ·exact Zb rfl (fun _ _ _ _ _ A1 => (Zd (off' := 1) A1.live rfl ZL rfl (A1.same rfl)))
   ·refine Zb rfl (fun _ _ _ _ _ A2 => ?_)
    obtain ⟨_, e1, rfl⟩ := A2.known 0 rfl
    exact Zg (A2.live.add e1) rfl YC (A2.run.row (r2.up A2.le)) rfl (A2.same rfl)
   ·refine Zb rfl (fun _ _ _ _ _ A3 => ?_)
    obtain ⟨_, e2, rfl⟩ := A3.known 1 rfl
    exact ZM (A3.live.add e2) rfl Tryz.underlying30 (A3.same rfl)
   ·refine Zb rfl (fun _ _ _ _ _ A4 => ?_)
    obtain ⟨_, e3, rfl⟩ := A4.known 2 rfl
    exact ZR (z := ((len_a : Int) - (1 : Int))) (A4.live.add e3) rfl rfl (IntWalk.i64_in _ (by omega)) (A4.same rfl)
   ·refine Zb rfl (fun _ _ _ _ _ A5 => ?_)
    obtain ⟨_, e4, rfl⟩ := A5.known 3 rfl
    exact Xx (z := ((64 : Int) * ((len_a : Int) - (1 : Int)))) (A5.live.add e4) rfl rfl (IntWalk.i64_in _ (by omega)) (A5.same rfl)
   ·exact Zb rfl (fun _ _ _ _ _ A6 => (Zd (off' := 1) A6.live rfl ZL rfl (A6.same rfl)))
   ·refine Zb rfl (fun _ _ _ _ _ A7 => ?_)
    obtain ⟨_, e5, rfl⟩ := A7.known 5 rfl
    exact Zg (A7.live.add e5) rfl YC (A7.run.row (r2.up A7.le)) rfl (A7.same rfl)
   ·exact Zb rfl (fun _ _ _ _ _ A8 => (Zd (off' := 1) A8.live rfl ZL rfl (A8.same rfl)))
   ·refine Zb rfl (fun _ _ _ _ _ A9 => ?_)
    obtain ⟨_, e6, rfl⟩ := A9.known 7 rfl
    exact Zg (A9.live.add e6) rfl YC (A9.run.row (r2.up A9.le)) rfl (A9.same rfl)
   ·refine Zb rfl (fun _ _ _ _ _ A10 => ?_)
    obtain ⟨_, e7, rfl⟩ := A10.known 8 rfl
    exact ZM (A10.live.add e7) rfl Tryz.underlying30 (A10.same rfl)
   ·refine Zb rfl (fun _ _ _ _ _ A11 => ?_)
    obtain ⟨_, e8, rfl⟩ := A11.known 9 rfl
    exact ZR (z := ((len_a : Int) - (1 : Int))) (A11.live.add e8) rfl rfl (IntWalk.i64_in _ (by omega)) (A11.same rfl)
   ·refine Zb rfl (fun _ _ _ _ _ A12 => ?_)
    obtain ⟨_, e9, rfl⟩ := A12.known 6 rfl
    obtain ⟨_, e10, rfl⟩ := A12.known 10 rfl
    exact Zr ((len_a - 1)) ((A12.live.add e9).add e10) rfl rfl Tryz.underlying30 ZA (by omega) (by omega) (A12.same rfl)
   ·refine Zb rfl (fun _ _ _ _ _ A13 => ?_)
    obtain ⟨_, e11, rfl⟩ := A13.known 11 rfl
    exact Zg (v := (.int .u64 (((ZP W64 a).getD ((len_a - 1)) 0 : Nat) : Int))) (A13.live.add e11) rfl Ym (A13.run.row (rw_a.up (l3.trans A13.le))) (by rw [Nat.zero_add]; exact ZX (by omega)) (A13.same rfl)
   ·refine Zb rfl (fun _ _ _ _ _ A14 => ?_)
    obtain ⟨_, e12, rfl⟩ := A14.known 12 rfl
    exact Zl (A14.live.add e12) rfl ent_150 (bits_Len64R A14.run.holds (x := ((ZP W64 a).getD ((len_a - 1)) 0)) (ZQ (Zdw (B := W64) (by decide) _) (by decide) _)) fun v_2 _ _ x2 v2 => (A14.post x2.le (A14.run.call x2) v2)
  ·intro S19 _ _ w19 l5 E1 R5 n1 L31 K1
   obtain ⟨_, e13, rfl⟩ := K1 4 (by decide)
   have L32 := L31.add e13; clear L31
   obtain ⟨_, e14, rfl⟩ := K1 13 (by decide)
   have L33 := L32.add e14; clear L32
   have R6 : Run _ _ S19 [] w19 := Yh R5 n1 [] (by simp) (by simp)
   rw [hl_a] at hbl
   exact so L33 rfl (ZJ (z := (((64 : Int) * ((len_a : Int) - (1 : Int))) + ((Zw ((ZP W64 a).getD ((len_a - 1)) 0) : Nat) : Int))) L33 rfl rfl (IntWalk.i64_in _ (by omega)) fun _ L34 => sa L34 rfl fun _ L35 => sn (wp_ret ((Zo (rs := Tryz.f98.results.toList) L35 rfl (.tmp rfl Res.nil) (⟨_, _, rfl, R6.ext, (by have e := bitlen_digs hw_a; rw [hl_a] at e; exact Zbv (by omega))⟩)))))
set_option maxRecDepth 20000 in
theorem nat_Cmp {S : Sh} {w : World} (hS : Ya S w) {c_a : List Value} {a : Nat} {k_a : Nat} (h_a : Na S c_a (a) (k_a)) {c_b : List Value} {b : Nat} {k_b : Nat} (h_b : Na S c_b (b) (k_b)) : Calls Tryz.prog 133 [(.agg (c_a : List Value).toArray), (.agg (c_b : List Value).toArray)].toArray w (Ret S w (fun S v => v = .int .i64 (cmpN a b))) := by
 refine ZK (n := 49) Tryz.func133 rfl rfl ?_
 intro ac0 L0
 replace L0 : Zt ac0 49 [(0, (.agg (c_a : List Value).toArray)), (1, (.agg (c_b : List Value).toArray))] := L0
 have R0 : Run S w S [] w := .start hS
 refine wp_seq (Za (so L0 rfl (ZN (cs := c_a) L0 rfl R0 rfl ?_)))
 intro b1 _ _ l1 r1 R1 _ L1
 refine so L1 rfl (ZN (cs := c_b) L1 rfl R1 rfl fun b2 _ _ l2 r2 R2 _ L2 => sa L2 rfl fun _ L3 => sn (wp_seq ?_))
 have L4 := (L3.kp [2, 3, 4] rfl)
 refine Zu (E0 := []) (H0 := []) (n := 49) mixed 3 [] (fun k => 0) (Zce [
   .is (.agg (c_a : List Value).toArray),
   .sat (fun S v => ∃ (p0 : Option Addr) (len0 : Nat) (cap0 : Nat), v = .slice p0 len0 cap0 ∧ (ZP W64 a).length = len0 ∧ len0 ≤ cap0 ∧ len0 ≤ 281474976710656 ∧ Dg S p0 len0 cap0 (ZP W64 a)) (fun _ _ _ l ⟨p0, n0, m0, e, g0, f0, j0, h0⟩ => ⟨p0, n0, m0, e, g0, f0, j0, h0.up l⟩),
   .is (.agg (c_b : List Value).toArray)]) L4 R2 (by simp) (by simp) (by rfl) (by rfl) (by simp) (ZU ?_) ?_
 ·refine (And.intro ?_ (And.intro ?_ (And.intro ?_ trivial)))
  ·exact Zb rfl (fun _ _ _ _ _ A1 => (Zx A1.live rfl ZE Zk (A1.run.row (r1.up (l2.trans A1.le))) h_a.len (A1.same rfl)))
  ·refine Zb rfl (fun _ _ _ _ _ A2 => ?_)
   obtain ⟨_, e1, rfl⟩ := A2.known 0 rfl
   exact Zl (A2.live.add e1) rfl Zb9 (YV A2.run.holds (h_a.up (l1.trans (l2.trans A2.le))) ) fun v_1 _ _ x1 v1 => (A2.post x1.le (A2.run.call x1) v1)
  ·exact Zb rfl (fun _ _ _ _ _ A3 => (Zx A3.live rfl ZE Zk (A3.run.row (r2.up A3.le)) h_b.len (A3.same rfl)))
 ·intro S7 _ _ w7 l4 E1 R4 n1 L8 K1
  obtain ⟨_, e2, p1, len1, cap1, rfl, y1, z1, hg1, hd1⟩ := K1 1 (by decide)
  have L9 := L8.add e2; clear L8
  obtain ⟨_, e3, rfl⟩ := K1 2 (by decide)
  have L10 := L9.add e3; clear L9
  have R5 : Run _ _ S7 [] w7 := Yh R4 n1 [] (by simp) (by simp)
  refine so L10 rfl (Zl L10 rfl Zb9 (YV R5.holds (h_b.up (l1.trans (l2.trans l4))) ) fun v_2 S8 _ x2 v2 => ?_)
  have R6 := R5.call x2; have l5 := x2.le
  obtain ⟨p2, len2, cap2, rfl, y2, z2, hg2, hd2⟩ := v2
  intro _ L11
  refine sa L11 rfl fun _ L12 => sa L12 rfl fun _ L13 => ?_
  have L14 := (L13.kp [4, 5, 6] rfl); clear L13
  refine sn (wp_seq (wp_seq (Za (sm L14 rfl ?_))))
  intro _ L15
  refine so L15 rfl (ZM L15 rfl Tryz.underlying30 fun _ L16 => sm L16 rfl fun _ L17 => so L17 rfl (ZM L17 rfl Tryz.underlying30 fun _ L18 => ?_))
  by_cases t1 : ¬ (len1 : Int) = (len2 : Int)
  ·refine so L18 rfl (bT t1 (fun _ => Yo L18 rfl rfl) fun _ L19 => sn (Zp L19 rfl rfl (wp_seq (wp_seq (Za (sm L19 rfl fun _ L20 => so L20 rfl (ZM L20 rfl Tryz.underlying30 fun _ L21 => sm L21 rfl fun _ L22 => ?_)))))))
   refine so L22 rfl (ZM L22 rfl Tryz.underlying30 fun _ L23 => ?_)
   by_cases t2 : (len1 : Int) < (len2 : Int)
   ·refine so L23 rfl (bT t2 (fun _ => ZF L23 rfl rfl) fun _ L24 => ?_)
    have L25 := (L24.kp [4, 5, 6, 21] rfl); clear L24
    refine sn (Zp L25 rfl rfl (wp_seq (Za (sa L25 rfl ?_))))
    intro _ L26
    exact sn (wp_ret ((Zy (Zy (Zo (rs := Tryz.f133.results.toList) L26 rfl (.tmp rfl Res.nil) (⟨_, _, rfl, R6.ext, (by rw [cmpN_lt (Zdx (B := W64) (by decide) (by omega))]; rfl)⟩))))))
   ·refine so L23 rfl (bF t2 (fun _ => ZF L23 rfl rfl) fun _ L27 => ?_)
    have L28 := (L27.kp [4, 5, 6, 21] rfl); clear L27
    refine sn (Zm L28 rfl rfl (wp_skip ((Zc (wp_seq (Za (sa L28 rfl ?_)))))))
    intro _ L29
    exact sn (wp_ret ((Zy (Zo (rs := Tryz.f133.results.toList) L29 rfl (.tmp rfl Res.nil) (⟨_, _, rfl, R6.ext, (by rw [cmpN_gt (Zdx (B := W64) (by decide) (by omega))]; rfl)⟩)))))
  ·refine so L18 rfl (bF t1 (fun _ => Yo L18 rfl rfl) fun _ L30 => sn (Zm L30 rfl rfl (wp_skip ((Zc (wp_seq (wp_seq (Za (sm L30 rfl fun _ L31 => so L31 rfl (ZM L31 rfl Tryz.underlying30 fun _ L32 => so L32 rfl (ZR (z := ((len1 : Int) - (1 : Int))) L32 rfl rfl (IntWalk.i64_in _ (by omega)) fun _ L33 => ?_)))))))))))
   refine sa L33 rfl fun a28 L34 => ?_
   have L35 := (L34.kp [4, 5, 6, 7] rfl); clear L34
   refine sn (wp_block ?_)
   have e4 : (((len1 : Int) - (1 : Int)) : Int) = (((((ZP W64 a).length) : Nat) : Int) - (1 : Int)) := by omega
   have L37 : Zt a28 49 [(7, (.int .i64 (((((ZP W64 a).length) : Nat) : Int) - (1 : Int))))] := by have q := (L35.kp [7] rfl); rw [e4] at q; exact q
   refine Yb (fun m ac ww => ∃ (S' : Sh) (k : Nat), S8.le S' ∧ Zt ac 49 [(4, (.int .i64 (0 : Int))), (5, (.slice p1 len1 cap1)), (6, (.slice p2 len2 cap2)), (7, (.int .i64 (((k : Nat) : Int) - (1 : Int))))] ∧ Run S w S' [] ww ∧ (k ≤ (ZP W64 a).length) ∧ ((ZP W64 a).drop k = (ZP W64 b).drop k) ∧ m = k)
    (((ZP W64 a).length)) ⟨S8, ((ZP W64 a).length), Sh.le.refl _, (L35.keep (L35.keep (L35.keep (L37.keep (Zt.none _ L35) (t := 7) rfl) (t := 6) rfl) (t := 5) rfl) (t := 4) rfl), R6, (by omega), (by rw [List.drop_eq_nil_of_le (by omega), List.drop_eq_nil_of_le (by omega)]), rfl⟩ ?_
   rintro m_1 ac1 _ ⟨_, k, l6, L36, R7, hk, hd, m1⟩
   refine wp_seq (wp_seq (Za (sm L36 rfl ?_)))
   intro _ L38
   by_cases t3 : (0 : Int) ≤ ((k : Int) - (1 : Int))
   ·refine so L38 rfl (bT t3 (fun _ => YL L38 rfl rfl) fun _ L39 => sn (Zp L39 rfl rfl (wp_skip ((Zc (wp_seq (wp_block (wp_block (wp_seq ?_)))))))))
    obtain ⟨b3, rest_1, rfl, r3⟩ := (hd1.up (l5.trans l6)).row (by omega)
    obtain ⟨b4, rest_2, rfl, r4⟩ := (hd2.up l6).row (by omega)
    have L40 := (L39.kp [4, 5, 6, 7, 25, 26] rfl)
    refine Zu (E0 := []) (H0 := []) (n := 49) mixed 8 [] (fun k => 0) (Zce [
      .is (.slice (some ⟨b3, 0, none⟩) len1 cap1),
      .is (.int .i64 ((k : Int) - (1 : Int))),
      .is (.pointer (some ⟨b3, (0 + ((k - 1))), none⟩)),
      .is (.int .u64 (((ZP W64 a).getD ((k - 1)) 0 : Nat) : Int)),
      .is (.slice (some ⟨b4, 0, none⟩) len2 cap2),
      .is (.int .i64 ((k : Int) - (1 : Int))),
      .is (.pointer (some ⟨b4, (0 + ((k - 1))), none⟩)),
      .is (.int .u64 (((ZP W64 b).getD ((k - 1)) 0 : Nat) : Int))]) L40 R7 (by simp) (by simp) (by rfl) (by rfl) (by simp) (ZU ?_) ?_
    ·refine (And.intro ?_ (And.intro ?_ (And.intro ?_ (And.intro ?_ (And.intro ?_ (And.intro ?_ (And.intro ?_ (And.intro ?_ trivial))))))))
     ·exact Zb rfl (fun _ _ _ _ _ A4 => (Zh A4.live rfl (A4.same rfl)))
     ·exact Zb rfl (fun _ _ _ _ _ A5 => (Zh A5.live rfl (A5.same rfl)))
     ·refine Zb rfl (fun _ _ _ _ _ A6 => ?_)
      obtain ⟨_, e5, rfl⟩ := A6.known 0 rfl
      obtain ⟨_, e6, rfl⟩ := A6.known 1 rfl
      exact Zr ((k - 1)) ((A6.live.add e5).add e6) rfl rfl Tryz.underlying30 ZA (by omega) (by omega) (A6.same rfl)
     ·refine Zb rfl (fun _ _ _ _ _ A7 => ?_)
      obtain ⟨_, e7, rfl⟩ := A7.known 2 rfl
      exact Zg (v := (.int .u64 (((ZP W64 a).getD ((k - 1)) 0 : Nat) : Int))) (A7.live.add e7) rfl Ym (A7.run.row (r3.up A7.le)) (by rw [Nat.zero_add]; exact ZX (by omega)) (A7.same rfl)
     ·exact Zb rfl (fun _ _ _ _ _ A8 => (Zh A8.live rfl (A8.same rfl)))
     ·exact Zb rfl (fun _ _ _ _ _ A9 => (Zh A9.live rfl (A9.same rfl)))
     ·refine Zb rfl (fun _ _ _ _ _ A10 => ?_)
      obtain ⟨_, e8, rfl⟩ := A10.known 4 rfl
      obtain ⟨_, e9, rfl⟩ := A10.known 5 rfl
      exact Zr ((k - 1)) ((A10.live.add e8).add e9) rfl rfl Tryz.underlying30 ZA (by omega) (by omega) (A10.same rfl)
     ·refine Zb rfl (fun _ _ _ _ _ A11 => ?_)
      obtain ⟨_, e10, rfl⟩ := A11.known 6 rfl
      exact Zg (v := (.int .u64 (((ZP W64 b).getD ((k - 1)) 0 : Nat) : Int))) (A11.live.add e10) rfl Ym (A11.run.row (r4.up A11.le)) (by rw [Nat.zero_add]; exact ZX (by omega)) (A11.same rfl)
    ·intro S18 _ _ w18 l7 E2 R8 n2 L49 K2
     obtain ⟨_, e11, rfl⟩ := K2 0 (by decide)
     have L50 := L49.add e11; clear L49
     obtain ⟨_, e12, rfl⟩ := K2 1 (by decide)
     have L51 := L50.add e12; clear L50
     obtain ⟨_, e13, rfl⟩ := K2 2 (by decide)
     have L52 := L51.add e13; clear L51
     obtain ⟨_, e14, rfl⟩ := K2 3 (by decide)
     have L53 := L52.add e14; clear L52
     obtain ⟨_, e15, rfl⟩ := K2 4 (by decide)
     have L54 := L53.add e15; clear L53
     obtain ⟨_, e16, rfl⟩ := K2 5 (by decide)
     have L55 := L54.add e16; clear L54
     obtain ⟨_, e17, rfl⟩ := K2 6 (by decide)
     have L56 := L55.add e17; clear L55
     obtain ⟨_, e18, rfl⟩ := K2 7 (by decide)
     have L57 := L56.add e18; clear L56
     have R9 : Run _ _ S18 [] w18 := Yh R8 n2 [] (by simp) (by simp)
     by_cases t4 : (((ZP W64 a).getD ((k - 1)) 0 : Nat) : Int) < (((ZP W64 b).getD ((k - 1)) 0 : Nat) : Int)
     ·exact so L57 rfl (bT t4 (fun _ => ZF L57 rfl rfl) fun _ L58 => sa L58 rfl fun _ L59 => sn (Zp L59 rfl rfl (wp_seq (Za (sa L59 rfl fun _ L60 => sn (wp_ret ((Yz (Yz (Zy (Zy (Yz (Zy (Zo (rs := Tryz.f133.results.toList) L60 rfl (.tmp rfl Res.nil) (⟨_, _, rfl, R9.ext, (by rw [cmpN_lt (digs_top_lt (B := W64) (n := k - 1) (by decide) (by omega) (by omega) (by rw [show k - 1 + 1 = k by omega]; first | exact hd | exact hd.symm) (by omega))]; rfl)⟩)))))))))))))))
     ·refine so L57 rfl (bF t4 (fun _ => ZF L57 rfl rfl) fun _ L61 => sa L61 rfl fun _ L62 => sn (Zm L62 rfl rfl (wp_seq ?_)))
      have L63 := (L62.kp [4, 5, 6, 7, 25, 26, 30, 31, 32, 33, 34, 35, 36, 37, 38, 29] rfl)
      refine Zu (E0 := []) (H0 := []) (n := 49) mixed 8 [] (fun k => 0) (Zce [
        .is (.slice (some ⟨b3, 0, none⟩) len1 cap1),
        .is (.int .i64 ((k : Int) - (1 : Int))),
        .is (.pointer (some ⟨b3, (0 + ((k - 1))), none⟩)),
        .is (.int .u64 (((ZP W64 a).getD ((k - 1)) 0 : Nat) : Int)),
        .is (.slice (some ⟨b4, 0, none⟩) len2 cap2),
        .is (.int .i64 ((k : Int) - (1 : Int))),
        .is (.pointer (some ⟨b4, (0 + ((k - 1))), none⟩)),
        .is (.int .u64 (((ZP W64 b).getD ((k - 1)) 0 : Nat) : Int))]) L63 R9 (by simp) (by simp) (by rfl) (by rfl) (by simp) (ZU ?_) ?_
      ·refine (And.intro ?_ (And.intro ?_ (And.intro ?_ (And.intro ?_ (And.intro ?_ (And.intro ?_ (And.intro ?_ (And.intro ?_ trivial))))))))
       ·exact Zb rfl (fun _ _ _ _ _ A12 => (Zh A12.live rfl (A12.same rfl)))
       ·exact Zb rfl (fun _ _ _ _ _ A13 => (Zh A13.live rfl (A13.same rfl)))
       ·refine Zb rfl (fun _ _ _ _ _ A14 => ?_)
        obtain ⟨_, e19, rfl⟩ := A14.known 0 rfl
        obtain ⟨_, e20, rfl⟩ := A14.known 1 rfl
        exact Zr ((k - 1)) ((A14.live.add e19).add e20) rfl rfl Tryz.underlying30 ZA (by omega) (by omega) (A14.same rfl)
       ·refine Zb rfl (fun _ _ _ _ _ A15 => ?_)
        obtain ⟨_, e21, rfl⟩ := A15.known 2 rfl
        exact Zg (v := (.int .u64 (((ZP W64 a).getD ((k - 1)) 0 : Nat) : Int))) (A15.live.add e21) rfl Ym (A15.run.row (r3.up (l7.trans A15.le))) (by rw [Nat.zero_add]; exact ZX (by omega)) (A15.same rfl)
       ·exact Zb rfl (fun _ _ _ _ _ A16 => (Zh A16.live rfl (A16.same rfl)))
       ·exact Zb rfl (fun _ _ _ _ _ A17 => (Zh A17.live rfl (A17.same rfl)))
       ·refine Zb rfl (fun _ _ _ _ _ A18 => ?_)
        obtain ⟨_, e22, rfl⟩ := A18.known 4 rfl
        obtain ⟨_, e23, rfl⟩ := A18.known 5 rfl
        exact Zr ((k - 1)) ((A18.live.add e22).add e23) rfl rfl Tryz.underlying30 ZA (by omega) (by omega) (A18.same rfl)
       ·refine Zb rfl (fun _ _ _ _ _ A19 => ?_)
        obtain ⟨_, e24, rfl⟩ := A19.known 6 rfl
        exact Zg (v := (.int .u64 (((ZP W64 b).getD ((k - 1)) 0 : Nat) : Int))) (A19.live.add e24) rfl Ym (A19.run.row (r4.up (l7.trans A19.le))) (by rw [Nat.zero_add]; exact ZX (by omega)) (A19.same rfl)
      ·intro S27 _ _ w27 l8 E3 R10 n3 L72 K3
       obtain ⟨_, e25, rfl⟩ := K3 0 (by decide)
       have L73 := L72.add e25; clear L72
       obtain ⟨_, e26, rfl⟩ := K3 1 (by decide)
       have L74 := L73.add e26; clear L73
       obtain ⟨_, e27, rfl⟩ := K3 2 (by decide)
       have L75 := L74.add e27; clear L74
       obtain ⟨_, e28, rfl⟩ := K3 3 (by decide)
       have L76 := L75.add e28; clear L75
       obtain ⟨_, e29, rfl⟩ := K3 4 (by decide)
       have L77 := L76.add e29; clear L76
       obtain ⟨_, e30, rfl⟩ := K3 5 (by decide)
       have L78 := L77.add e30; clear L77
       obtain ⟨_, e31, rfl⟩ := K3 6 (by decide)
       have L79 := L78.add e31; clear L78
       obtain ⟨_, e32, rfl⟩ := K3 7 (by decide)
       have L80 := L79.add e32; clear L79
       have R11 : Run _ _ S27 [] w27 := Yh R10 n3 [] (by simp) (by simp)
       by_cases t5 : (((ZP W64 b).getD ((k - 1)) 0 : Nat) : Int) < (((ZP W64 a).getD ((k - 1)) 0 : Nat) : Int)
       ·exact so L80 rfl (bT t5 (fun _ => ZS L80 rfl rfl) fun _ L81 => sa L81 rfl fun _ L82 => sn (Zp L82 rfl rfl (wp_seq (Za (sa L82 rfl fun _ L83 => sn (wp_ret ((Yz (Yz (Zy (Zy (Yz (Zy (Zo (rs := Tryz.f133.results.toList) L83 rfl (.tmp rfl Res.nil) (⟨_, _, rfl, R11.ext, (by rw [cmpN_gt (digs_top_lt (B := W64) (n := k - 1) (by decide) (by omega) (by omega) (by rw [show k - 1 + 1 = k by omega]; first | exact hd | exact hd.symm) (by omega))]; rfl)⟩)))))))))))))))
       ·refine so L80 rfl (bF t5 (fun _ => ZS L80 rfl rfl) fun _ L84 => sa L84 rfl fun _ L85 => sn (Zm L85 rfl rfl (wp_skip ((ZI (ZI (Zc (Za (sm L85 rfl fun _ L86 => so L86 rfl (ZR (z := (((k : Int) - (1 : Int)) - (1 : Int))) L86 rfl rfl (IntWalk.i64_in _ (by omega)) fun _ L87 => sa L87 rfl fun a61 L88 => ?_))))))))))
        refine sn ?_
        have e33 : ((((k : Int) - (1 : Int)) - (1 : Int)) : Int) = ((((k - 1) : Nat) : Int) - (1 : Int)) := by omega
        have L89 : Zt a61 49 [(7, (.int .i64 ((((k - 1) : Nat) : Int) - (1 : Int))))] := by have q := (L88.kp [7] rfl); rw [e33] at q; exact q
        exact ⟨(k - 1), (by omega), S27, (k - 1), (l6.trans (l7.trans l8)), (L88.keep (L88.keep (L88.keep (L89.keep (Zt.none _ L88) (t := 7) rfl) (t := 6) rfl) (t := 5) rfl) (t := 4) rfl), R11, (by omega), (by exact drop_step (by omega) (by omega) (by rw [show k - 1 + 1 = k by omega]; exact hd) (by omega)), rfl⟩
   ·exact so L38 rfl (bF t3 (fun _ => YL L38 rfl rfl) fun _ L90 => sn (Zm L90 rfl rfl (wp_exit ((Zz (Zz (YR (Zc (wp_seq (Za (sa L90 rfl fun _ L91 => sn (wp_ret ((Zo (rs := Tryz.f133.results.toList) (L91.kp [4] rfl) rfl (.tmp rfl Res.nil) (⟨_, _, rfl, R7.ext, (by rw [cmpN_eq (digs_inj (B := W64) (by decide) (by rw [show k = 0 by omega] at hd; exact hd))]; rfl)⟩)))))))))))))))
set_option maxRecDepth 20000 in
theorem nat_Add {S : Sh} {w : World} (hS : Ya S w) {c_a : List Value} {a : Nat} {k_a : Nat} (h_a : Na S c_a (a) (k_a)) {c_b : List Value} {b : Nat} {k_b : Nat} (h_b : Na S c_b (b) (k_b)) (hlim : k_a ≤ 1099511627776) (hlim2 : k_b ≤ 1099511627776) : Calls Tryz.prog 137 [(.agg (c_a : List Value).toArray), (.agg (c_b : List Value).toArray)].toArray w (Ret S w (fun S v => ∃ (c0 : List Value), v = .agg c0.toArray ∧ Na S c0 (a + b) (k_a + k_b + 1))) := by
 refine ZK (n := 86) Tryz.func137 rfl rfl ?_
 intro ac0 L0
 replace L0 : Zt ac0 86 [(0, (.agg (c_a : List Value).toArray)), (1, (.agg (c_b : List Value).toArray))] := L0
 have R0 : Run S w S [] w := .start hS
 have hla := XA h_a.1; have hlb := XA h_b.1
 refine wp_seq (Za (so L0 rfl (ZN (cs := c_a) L0 rfl R0 rfl ?_)))
 intro b1 _ _ l1 r1 R1 _ L1
 refine so L1 rfl (ZN (cs := c_b) L1 rfl R1 rfl fun b2 S2 _ l2 r2 R2 _ L2 => so L2 rfl (ZG (cs := zN1) ZO R2 rfl fun b3 _ R3 _ L3 => sn (wp_scope_straight ?_)))
 refine Qp (fun ac ww => ∃ (S' : Sh) , S2.le S' ∧ Zt ac 86 [(2, (.pointer (some ⟨b1, 0, none⟩))), (3, (.pointer (some ⟨b2, 0, none⟩))), (4, (.pointer (some ⟨b3, 0, none⟩)))] ∧ Run S w S' [(b3, 32, zN1)] ww) ?_ ?_
 ·rintro ac1 _ ⟨_, l3, L4, R4⟩
  refine wp_seq ?_
  have L5 := (L4.kp [2, 3, 4] rfl)
  refine Zu (E0 := []) (H0 := [(b3, 32, zN1)]) (n := 86) mixed 3 [] (fun k => 0) (Zce [
    .is (.agg (c_a : List Value).toArray),
    .sat (fun S v => ∃ (p0 : Option Addr) (len0 : Nat) (cap0 : Nat), v = .slice p0 len0 cap0 ∧ (ZP W64 a).length = len0 ∧ len0 ≤ cap0 ∧ len0 ≤ 281474976710656 ∧ Dg S p0 len0 cap0 (ZP W64 a)) (fun _ _ _ l ⟨p0, n0, m0, e, g0, f0, j0, h0⟩ => ⟨p0, n0, m0, e, g0, f0, j0, h0.up l⟩),
    .is (.agg (c_b : List Value).toArray)]) L5 R4 (by simp) (by simp) (by rfl) (by rfl) (by simp) (ZU ?_) ?_
  ·refine (And.intro ?_ (And.intro ?_ (And.intro ?_ trivial)))
   ·exact Zb rfl (fun _ _ _ _ _ A1 => (Zx A1.live rfl ZE Zk (A1.run.row (r1.up (l2.trans (l3.trans A1.le)))) h_a.len (A1.same rfl)))
   ·refine Zb rfl (fun _ _ _ _ _ A2 => ?_)
    obtain ⟨_, e1, rfl⟩ := A2.known 0 rfl
    exact Zl (A2.live.add e1) rfl Zb9 (YV A2.run.holds (h_a.up (l1.trans (l2.trans (l3.trans A2.le)))) ) fun v_1 _ _ x1 v1 => (A2.post x1.le (A2.run.call x1) v1)
   ·exact Zb rfl (fun _ _ _ _ _ A3 => (Zx A3.live rfl ZE Zk (A3.run.row (r2.up (l3.trans A3.le))) h_b.len (A3.same rfl)))
  ·intro S8 _ _ w9 l5 E1 R6 n1 L9 K1
   obtain ⟨_, e2, p1, len1, cap1, rfl, y1, z1, hg1, hd1⟩ := K1 1 (by decide)
   have L10 := L9.add e2; clear L9
   obtain ⟨_, e3, rfl⟩ := K1 2 (by decide)
   have L11 := L10.add e3; clear L10
   have R7 : Run _ _ S8 [(b3, 32, zN1)] w9 := Yh R6 n1 [] (by simp) (by simp)
   refine so L11 rfl (Zl L11 rfl Zb9 (YV R7.holds (h_b.up (l1.trans (l2.trans (l3.trans l5)))) ) fun v_2 S9 _ x2 v2 => ?_)
   have R8 := R7.call x2; have l6 := x2.le
   obtain ⟨p2, len2, cap2, rfl, y2, z2, hg2, hd2⟩ := v2
   intro _ L12
   refine sa L12 rfl fun _ L13 => sa L13 rfl fun _ L14 => ?_
   have L15 := (L14.kp [4, 7, 8] rfl); clear L14
   refine sn ?_
   refine Qp (fun ac ww => ∃ (S' : Sh) (p_x : Option Addr) (len_x : Nat) (cap_x : Nat) (x : List Nat) (p_y : Option Addr) (len_y : Nat) (cap_y : Nat) (y : List Nat), S9.le S' ∧ Zt ac 86 [(4, (.pointer (some ⟨b3, 0, none⟩))), (7, (.slice p_x len_x cap_x)), (8, (.slice p_y len_y cap_y))] ∧ Run S w S' [(b3, 32, zN1)] ww ∧ (Dg S' p_x len_x cap_x x) ∧ (Dg S' p_y len_y cap_y y) ∧ (val W64 x + val W64 y = a + b) ∧ (len_y ≤ len_x) ∧ (len_x ≤ 17179869185)) ?_ ?_
   ·rintro ac2 _ ⟨S10, p_x, len_x, cap_x, x, p_y, len_y, cap_y, y, l7, L16, R9, hd_x, hd_y, hxy, hyx, hxk⟩
    have hl_x := hd_x.hlen; have hc_x := hd_x.hcap; have hg_x := hd_x.hbig
    have hl_y := hd_y.hlen; have hc_y := hd_y.hcap; have hg_y := hd_y.hbig
    refine wp_seq (Za (sm L16 rfl ?_))
    intro _ L17
    refine so L17 rfl (ZM L17 rfl Tryz.underlying30 fun _ L18 => so L18 rfl (ZJ (z := ((len_x : Int) + (1 : Int))) L18 rfl rfl (IntWalk.i64_in _ (by omega)) fun _ L19 => so L19 rfl (Xs (m := (len_x + 1)) (c := (len_x + 1)) L19 (by first | rfl | (simp [ev, Zah]; omega)) (by first | rfl | (simp [ev, Zah]; omega)) Tryz.underlying30 Qc rfl ZA QK (by omega) (by omega) (by omega) R9 fun b4 _ R10 _ L20 => ?_)))
    rw [Zcf] at R10
    refine sa L20 rfl fun _ L21 => sn (wp_seq (Za (sm L21 rfl fun _ L22 => sm L22 rfl fun _ L23 => so L23 rfl (does_copyDg (m := ((len_x + 1))) (us := (List.replicate ((len_x + 1)) 0)) L23 rfl rfl Tryz.underlying30 ZA R10 hd_x (by simp) (by omega) fun _ R11 _ L24 => ?_))))
    have L25 := (L24.kp [4, 8, 9] rfl); clear L24
    refine sn (wp_seq (Za (sa L25 rfl ?_)))
    intro _ L26
    refine sn (wp_seq (wp_label ((Zc (wp_seq (wp_seq (Za (sm L26 rfl ?_))))))))
    intro _ L27
    refine so L27 rfl (ZM L27 rfl Tryz.underlying30 fun _ L28 => sm L28 rfl fun a22 L29 => sn (wp_block ?_))
    have hxl := hd_x.hlt; have hyl := hd_y.hlt
    have hst : Zdh x y (x ++ (List.replicate ((len_x + 1)) 0).drop len_x) 0 0 := by rw [show (x ++ (List.replicate ((len_x + 1)) 0).drop len_x) = x ++ [0] from by rw [List.drop_replicate, show len_x + 1 - len_x = 1 by omega]; rfl]; exact Zdh.start hxl
    have e4 : ((0 : Int) : Int) = ((0 : Nat) : Int) := by omega
    have L31 : Zt a22 86 [(10, (.int .u64 ((0 : Nat) : Int)))] := by have q := (L29.kp [10] rfl); rw [e4] at q; exact q
    have e5 : ((0 : Int) : Int) = ((0 : Nat) : Int) := by omega
    have L32 : Zt a22 86 [(57, (.int .i64 ((0 : Nat) : Int)))] := by have q := (L29.kp [57] rfl); rw [e5] at q; exact q
    refine Yb (fun m ac ww => ∃ (S' : Sh) (us : List Nat) (i : Nat) (c : Nat), S10.le S' ∧ Zt ac 86 [(4, (.pointer (some ⟨b3, 0, none⟩))), (8, (.slice p_y len_y cap_y)), (9, (.slice (some ⟨b4, 0, none⟩) ((len_x + 1)) ((len_x + 1)))), (10, (.int .u64 ((c : Nat) : Int))), (56, (.int .i64 ((((len_x + 1)) : Nat) : Int))), (57, (.int .i64 ((i : Nat) : Int)))] ∧ Run S w S' [(b4, 29, (Yr us ++ [])), (b3, 32, zN1)] ww ∧ (Zdh x y us i c) ∧ m = (x).length + 1 - i)
     ((x).length + 1 - 0) ⟨S10, (x ++ (List.replicate ((len_x + 1)) 0).drop len_x), 0, 0, Sh.le.refl _, (L29.keep (L29.keep (L29.keep (L31.keep (L29.keep (L32.keep (Zt.none _ L29) (t := 57) rfl) (t := 56) rfl) (t := 10) rfl) (t := 9) rfl) (t := 8) rfl) (t := 4) rfl), (ZY (ZY R11)), (by exact hst), rfl⟩ ?_
    rintro m_1 ac3 _ ⟨S11, us, i, c, l8, L30, R12, hI, m1⟩
    refine wp_seq (Za ?_)
    have hIl := hI.len; have hIe := hI.le; have hIc := hI.c1
    by_cases t1 : (i : Int) < ((((len_x + 1)) : Nat) : Int)
    ·have hIl := hI.len; have hIe := hI.le; have hIc := hI.c1
     refine so L30 rfl (bT t1 (fun _ => ZF L30 rfl rfl) fun _ L33 => sn (wp_seq (Zp L33 rfl rfl (wp_skip ((Zc (wp_seq (wp_block (wp_seq (Za (sm L33 rfl fun _ L34 => sa L34 rfl fun _ L35 => ?_)))))))))))
     refine sn (wp_seq (Za (sa L35 rfl ?_)))
     intro _ L36
     refine sn (wp_seq (wp_seq (Za (sm L36 rfl ?_))))
     intro _ L37
     refine sm L37 rfl fun _ L38 => so L38 rfl (ZM L38 rfl Tryz.underlying30 fun _ L39 => ?_)
     by_cases t2 : (i : Int) < (len_y : Int)
     ·refine so L39 rfl (bT t2 (fun _ => ZF L39 rfl rfl) fun _ L40 => sn (Zp L40 rfl rfl (Za (sm L40 rfl fun _ L41 => sm L41 rfl fun _ L42 => ?_))))
      obtain ⟨b5, rest_1, rfl, r3⟩ := (hd_y.up l8).row (by omega)
      refine so L42 rfl (Zr (i) L42 rfl rfl Tryz.underlying30 ZA (by omega) (by omega) fun _ L43 => so L43 rfl (Zg (v := (.int .u64 ((y.getD (i) 0 : Nat) : Int))) L43 rfl Ym (R12.row r3) (by rw [Nat.zero_add]; exact ZX (by omega)) fun _ L44 => sa L44 rfl fun _ L45 => sn (Za (sm L45 rfl fun _ L46 => sm L46 rfl fun _ L47 => sm L47 rfl fun _ L48 => ?_))))
      refine sm L48 rfl fun _ L49 => so L49 rfl (Zr (i) L49 rfl rfl Tryz.underlying30 ZA (by omega) (by omega) fun _ L50 => so L50 rfl (Zg (v := (.int .u64 ((us.getD (i) 0 : Nat) : Int))) L50 rfl Ym (R12.has (List.Mem.head _)) (by rw [Nat.zero_add]; exact ZX (by omega)) fun _ L51 => sm L51 rfl fun _ L52 => sm L52 rfl fun _ L53 => so L53 rfl (YE (x := (us.getD (i) 0)) (y := (y.getD (i) 0)) (c := c) L53 rfl (by omega) fun _ L54 => sm L54 rfl fun _ L55 => ?_)))
      refine so L55 rfl (Zf L55 rfl rfl fun _ L56 => so L56 rfl (Zf L56 rfl rfl fun _ L57 => so L57 rfl (Zr (i) L57 rfl rfl Tryz.underlying30 ZA (by omega) (by omega) fun _ L58 => Zs L58 rfl rfl (Yk (cs' := (Yr (us.set (i) ((((us.getD (i) 0) + (y.getD (i) 0) + c) % 18446744073709551616))) ++ [])) L58 rfl rfl R12 ZA rfl (by simp only [List.length_append, ZH]; omega) (by rw [Nat.zero_add]; exact YS (by omega)) fun _ R13 _ L59 => sa L59 rfl fun _ L60 => Yy ((ZI (Zc (Za (so L60 rfl (ZJ (z := ((i : Int) + (1 : Int))) L60 rfl rfl (IntWalk.i64_in _ (by omega)) fun _ L61 => ?_))))))))))
      refine sm L61 rfl fun a52 L62 => sn ?_
      have e6 : (((((us.getD (i) 0) + (y.getD (i) 0) + c) / 18446744073709551616 : Nat) : Int) : Int) = (((((us.getD (i) 0) + (y.getD (i) 0) + c) / 18446744073709551616) : Nat) : Int) := by omega
      have L63 : Zt a52 86 [(10, (.int .u64 (((((us.getD (i) 0) + (y.getD (i) 0) + c) / 18446744073709551616) : Nat) : Int)))] := by have q := (L62.kp [10] rfl); rw [e6] at q; exact q
      have e7 : (((i : Int) + (1 : Int)) : Int) = (((i + 1) : Nat) : Int) := by omega
      have L64 : Zt a52 86 [(57, (.int .i64 (((i + 1) : Nat) : Int)))] := by have q := (L62.kp [57] rfl); rw [e7] at q; exact q
      exact ⟨(x).length + 1 - (i + 1), (by omega), S11, (us.set (i) ((((us.getD (i) 0) + (y.getD (i) 0) + c) % 18446744073709551616))), (i + 1), (((us.getD (i) 0) + (y.getD (i) 0) + c) / 18446744073709551616), l8, (L62.keep (L62.keep (L62.keep (L63.keep (L62.keep (L64.keep (Zt.none _ L62) (t := 57) rfl) (t := 56) rfl) (t := 10) rfl) (t := 9) rfl) (t := 8) rfl) (t := 4) rfl), (ZY (ZY R13)), (by first | exact hI.step hyl (by omega) | (have q := hI.step hyl (by omega); rw [Zc5 (y := y) (i := i) (by omega)] at q; exact q)), rfl⟩
     ·refine so L39 rfl (bF t2 (fun _ => ZF L39 rfl rfl) fun _ L65 => sn (Zm L65 rfl rfl (wp_seq (Za (sm L65 rfl fun _ L66 => ?_)))))
      by_cases t3 : (c : Int) = (0 : Int)
      ·refine so L66 rfl (bT t3 (fun _ => ZZ L66 rfl rfl) fun _ L67 => sn (Zp L67 rfl rfl (wp_exit ((Zz (in_miss rfl (Zz (Zz (YR (Zc (wp_seq (Za (sm L67 rfl fun _ L68 => ?_)))))))))))))
       obtain ⟨S12, l9, r4, R14⟩ := (R12).freeze
       have hd3 : Dg S12 (some ⟨b4, 0, none⟩) ((len_x + 1)) ((len_x + 1)) us := ⟨by first | rfl | omega, by omega, by omega, hI.lt, fun _ => ⟨_, _, rfl, r4⟩⟩
       refine so L68 rfl (Zl L68 rfl Zbj (Zbe R14.holds (k := (k_a + k_b + 1)) hd3 (by rw [hI.done hxl hyl (by omega) (by omega), hxy]; exact sum_pow h_a.1 h_b.1)) fun v_3 _ _ x3 v3 => ?_)
       have R15 := R14.call x3
       obtain ⟨cs_1, rfl, h1⟩ := v3
       intro _ L69
       exact Zs L69 rfl rfl (Zi L69 rfl rfl R15 Zk h1.len rfl h1.ones fun _ R16 _ L70 => (sn (wp_ret ((Qr (Zo (rs := Tryz.f137.results.toList) (L70.kp [4] rfl) rfl (Res.aggW rfl ZE Zk (R16.has (List.Mem.head _)) h1.len Res.nil) (⟨_, _, rfl, R16.ext, ⟨_, rfl, (h1.to (by rw [hI.done hxl hyl (by omega) (by omega)]; exact hxy) (by omega))⟩⟩)))))))
      ·refine so L66 rfl (bF t3 (fun _ => ZZ L66 rfl rfl) fun _ L72 => sn (Zm L72 rfl rfl (wp_skip ((Zc (Za (sm L72 rfl fun _ L73 => sm L73 rfl fun _ L74 => sm L74 rfl fun _ L75 => sm L75 rfl fun _ L76 => ?_)))))))
       refine so L76 rfl (Zr (i) L76 rfl rfl Tryz.underlying30 ZA (by omega) (by omega) fun _ L77 => so L77 rfl (Zg (v := (.int .u64 ((us.getD (i) 0 : Nat) : Int))) L77 rfl Ym (R12.has (List.Mem.head _)) (by rw [Nat.zero_add]; exact ZX (by omega)) fun _ L78 => sm L78 rfl fun _ L79 => sm L79 rfl fun _ L80 => so L80 rfl (YE (x := (us.getD (i) 0)) (y := 0) (c := c) L80 rfl (by omega) fun _ L81 => sm L81 rfl fun _ L82 => so L82 rfl (Zf L82 rfl rfl fun _ L83 => ?_))))
       refine so L83 rfl (Zf L83 rfl rfl fun _ L84 => so L84 rfl (Zr (i) L84 rfl rfl Tryz.underlying30 ZA (by omega) (by omega) fun _ L85 => Zs L85 rfl rfl (Yk (cs' := (Yr (us.set (i) ((((us.getD (i) 0) + 0 + c) % 18446744073709551616))) ++ [])) L85 rfl rfl R12 ZA rfl (by simp only [List.length_append, ZH]; omega) (by rw [Nat.zero_add]; exact YS (by omega)) fun _ R17 _ L86 => sa L86 rfl fun _ L87 => Yy ((ZI (Zc (Za (so L87 rfl (ZJ (z := ((i : Int) + (1 : Int))) L87 rfl rfl (IntWalk.i64_in _ (by omega)) fun _ L88 => sm L88 rfl fun a76 L89 => ?_)))))))))
       refine sn ?_
       have e8 : (((((us.getD (i) 0) + 0 + c) / 18446744073709551616 : Nat) : Int) : Int) = (((((us.getD (i) 0) + 0 + c) / 18446744073709551616) : Nat) : Int) := by omega
       have L90 : Zt a76 86 [(10, (.int .u64 (((((us.getD (i) 0) + 0 + c) / 18446744073709551616) : Nat) : Int)))] := by have q := (L89.kp [10] rfl); rw [e8] at q; exact q
       have e9 : (((i : Int) + (1 : Int)) : Int) = (((i + 1) : Nat) : Int) := by omega
       have L91 : Zt a76 86 [(57, (.int .i64 (((i + 1) : Nat) : Int)))] := by have q := (L89.kp [57] rfl); rw [e9] at q; exact q
       exact ⟨(x).length + 1 - (i + 1), (by omega), S11, (us.set (i) ((((us.getD (i) 0) + 0 + c) % 18446744073709551616))), (i + 1), (((us.getD (i) 0) + 0 + c) / 18446744073709551616), l8, (L89.keep (L89.keep (L89.keep (L90.keep (L89.keep (L91.keep (Zt.none _ L89) (t := 57) rfl) (t := 56) rfl) (t := 10) rfl) (t := 9) rfl) (t := 8) rfl) (t := 4) rfl), (ZY (ZY R17)), (by first | exact hI.step hyl (by omega) | (have q := hI.step hyl (by omega); rw [Zc5 (y := y) (i := i) (by omega)] at q; exact q)), rfl⟩
    ·have hIl := hI.len; have hIe := hI.le; have hIc := hI.c1
     refine so L30 rfl (bF t1 (fun _ => ZF L30 rfl rfl) fun _ L92 => sn (wp_seq (Zm L92 rfl rfl (wp_exit ((Zz (Zz (YR (Zc (wp_seq (Za (sm L92 rfl fun _ L93 => ?_))))))))))))
     obtain ⟨S14, l11, r5, R18⟩ := (R12).freeze
     have hd4 : Dg S14 (some ⟨b4, 0, none⟩) ((len_x + 1)) ((len_x + 1)) us := ⟨by first | rfl | omega, by omega, by omega, hI.lt, fun _ => ⟨_, _, rfl, r5⟩⟩
     refine so L93 rfl (Zl L93 rfl Zbj (Zbe R18.holds (k := (k_a + k_b + 1)) hd4 (by rw [hI.done hxl hyl (by omega) (by omega), hxy]; exact sum_pow h_a.1 h_b.1)) fun v_4 _ _ x4 v4 => ?_)
     have R19 := R18.call x4
     obtain ⟨c2, rfl, h2⟩ := v4
     intro _ L94
     exact Zs L94 rfl rfl (Zi L94 rfl rfl R19 Zk h2.len rfl h2.ones fun _ R20 _ L95 => (sn (wp_ret ((Qr (Zo (rs := Tryz.f137.results.toList) (L95.kp [4] rfl) rfl (Res.aggW rfl ZE Zk (R20.has (List.Mem.head _)) h2.len Res.nil) (⟨_, _, rfl, R20.ext, ⟨_, rfl, (h2.to (by rw [hI.done hxl hyl (by omega) (by omega)]; exact hxy) (by omega))⟩⟩)))))))
   ·skip
    refine wp_seq (Za (sm L15 rfl ?_))
    intro _ L97
    refine so L97 rfl (ZM L97 rfl Tryz.underlying30 fun _ L98 => sm L98 rfl fun _ L99 => so L99 rfl (ZM L99 rfl Tryz.underlying30 fun _ L100 => ?_))
    by_cases t4 : (len1 : Int) < (len2 : Int)
    ·refine so L100 rfl (bT t4 (fun _ => ZF L100 rfl rfl) fun _ L101 => sn (Zp L101 rfl rfl (Za (sm L101 rfl fun _ L102 => sm L102 rfl fun _ L103 => sa L103 rfl fun _ L104 => sa L104 rfl fun _ L105 => ?_))))
     exact sn (⟨S9, p2, len2, cap2, (ZP W64 b), p1, len1, cap1, (ZP W64 a), Sh.le.refl _, ((L105.kp [4, 7, 8] rfl).kp [8, 7, 4] rfl), R8, (by exact hd2), (by exact (hd1.up l6)), (by simp only [Yn (show 2 ≤ W64 by decide)]; try omega), (by omega), (by omega)⟩)
    ·exact so L100 rfl (bF t4 (fun _ => ZF L100 rfl rfl) fun _ L107 => sn (Zm L107 rfl rfl (wp_skip ((Zc (⟨S9, p1, len1, cap1, (ZP W64 a), p2, len2, cap2, (ZP W64 b), Sh.le.refl _, (L107.kp [8, 7, 4] rfl), R8, (by exact (hd1.up l6)), (by exact hd2), (by simp only [Yn (show 2 ≤ W64 by decide)]; try omega), (by omega), (by omega)⟩))))))
 ·skip
  obtain ⟨hb_a, ⟨hs_a, rfl⟩ | ⟨hw_a, lo_a, bb_a, len_a, cap_a, rest_a, hlo_a, rfl, rw_a, hd_a, h2_a⟩⟩ := h_a.open
  ·obtain ⟨hb_b, ⟨hs_b, rfl⟩ | ⟨hw_b, lo_b, bb_b, len_b, cap_b, rest_b, hlo_b, rfl, rw_b, hd_b, h2_b⟩⟩ := h_b.open
   ·refine wp_seq (Za (so L3 rfl (Zd (off' := 1) L3 rfl ZL rfl ?_)))
    intro _ L108
    refine so L108 rfl (Zg L108 rfl YC (R3.row (r1.up l2)) rfl fun _ L109 => so L109 rfl (ZT L109 rfl rfl Tryz.underlying30 fun _ L110 => sm L110 rfl fun _ L111 => son L111 rfl (Zd (off' := 1) L111 rfl ZL rfl fun _ L112 => son L112 rfl (Zg L112 rfl YC (R3.row r2) rfl fun _ L113 => son L113 rfl (ZT L113 rfl rfl Tryz.underlying30 fun _ L114 => so L114 rfl (Zj L114 rfl rfl fun _ L115 => ?_))))))
    have L116 := (L115.kp [2, 3, 4, 20] rfl); clear L115
    refine sn (Zp L116 rfl rfl (wp_seq (Za (so L116 rfl (Zd (off' := 0) L116 rfl Yd rfl ?_)))))
    intro _ L117
    refine so L117 rfl (Zg L117 rfl Ym (R3.row (r1.up l2)) rfl fun _ L118 => so L118 rfl (Zd (off' := 0) L118 rfl Yd rfl fun _ L119 => so L119 rfl (Zg L119 rfl Ym (R3.row r2) rfl fun _ L120 => so L120 rfl (YE (x := a) (y := b) (c := 0) L120 rfl (by omega) fun _ L121 => sm L121 rfl fun _ L122 => so L122 rfl (Zf L122 rfl rfl fun _ L123 => so L123 rfl (Zf L123 rfl rfl fun _ L124 => ?_))))))
    refine sa L124 rfl fun _ L125 => sa L125 rfl fun _ L126 => ?_
    have L127 := (L126.kp [2, 3, 4, 5, 6] rfl); clear L126
    refine sn (wp_seq (wp_seq (Za (sm L127 rfl ?_))))
    intro _ L128
    by_cases t5 : (((a + b + 0) / 18446744073709551616 : Nat) : Int) = (0 : Int)
    ·refine so L128 rfl (bT t5 (fun _ => ZZ L128 rfl rfl) fun _ L129 => sn (Zp L129 rfl rfl (wp_seq (Za (sm L129 rfl fun _ L130 => ?_)))))
     have h3 : Na S2 [(.int .u64 (((a + b + 0) % 18446744073709551616 : Nat) : Int)), (.slice none 0 0)] (a + b) (k_a + k_b + 1) := Na.ofLowE (by omega) (by omega) (sum_pow hb_a hb_b)
     exact so L130 rfl (ZC (cs := [(.int .u64 (((a + b + 0) % 18446744073709551616 : Nat) : Int)), (.slice none 0 0)]) L130 ZO XD (.cons rfl Yd rfl (by decide) .nil) (by rfl) fun _ L131 => Zs L131 rfl rfl (Zi L131 rfl rfl R3 Zk h3.len rfl h3.ones fun _ R21 _ L132 => sn (wp_ret ((Zy (Zy (Qr (Zo (rs := Tryz.f137.results.toList) L132 rfl (Res.aggW rfl ZE Zk (R21.has (List.Mem.head _)) h3.len Res.nil) (⟨_, _, rfl, R21.ext, ⟨_, rfl, (h3.to rfl (by omega))⟩⟩)))))))))
    ·refine so L128 rfl (bF t5 (fun _ => ZZ L128 rfl rfl) fun _ L133 => sn (Zm L133 rfl rfl (wp_skip ((Zc (wp_seq (Za (sm L133 rfl fun _ L134 => sm L134 rfl fun _ L135 => so L135 rfl (Xn (cs := (Yr [((a + b + 0) % 18446744073709551616), ((a + b + 0) / 18446744073709551616)] ++ [])) L135 Tryz.underlying30 ZA Qc (.cons rfl rfl (by decide) (.cons rfl rfl (by decide) .nil)) [[(.int .u64 (((a + b + 0) % 18446744073709551616 : Nat) : Int))], [(.int .u64 (((a + b + 0) / 18446744073709551616 : Nat) : Int))]] rfl rfl (by rfl) (by decide) R3 fun b6 _ R22 _ L136 => ?_)))))))))
     obtain ⟨S16, l13, r6, R23⟩ := (R22).freeze
     have hd5 : Dg S16 (some ⟨b6, 0, none⟩) 2 2 ([((a + b + 0) % 18446744073709551616), ((a + b + 0) / 18446744073709551616)]) := ⟨by first | rfl | omega, by omega, by omega, by simp; omega, fun _ => ⟨_, _, rfl, r6⟩⟩
     have h4 : Na S16 [(.int .u64 (0 : Int)), (.slice (some ⟨b6, 0, none⟩) 2 2)] (a + b) (k_a + k_b + 1) := Na.ofDg (lo := 0) (by decide) hd5 (by omega) (by simp; omega) (by simp only [val, W64]; omega) (sum_pow hb_a hb_b)
     exact so L136 rfl (ZC (cs := [(.int .u64 (0 : Int)), (.slice (some ⟨b6, 0, none⟩) 2 2)]) L136 ZO XD (.cons rfl ZL rfl (by decide) .nil) (by rfl) fun _ L137 => Zs L137 rfl rfl (Zi L137 rfl rfl R23 Zk h4.len rfl h4.ones fun _ R24 _ L138 => sn (wp_ret ((Zy (Qr (Zo (rs := Tryz.f137.results.toList) (L138.kp [2, 3, 4] rfl) rfl (Res.aggW rfl ZE Zk (R24.has (List.Mem.head _)) h4.len Res.nil) (⟨_, _, rfl, R24.ext, ⟨_, rfl, (h4.to rfl (by omega))⟩⟩))))))))
   ·have hl_b := hd_b.hlen; have hc_b := hd_b.hcap; have hg_b := hd_b.hbig
    have hW_b : 18446744073709551616 ≤ b := hw_b
    refine wp_seq (Za (so L3 rfl (Zd (off' := 1) L3 rfl ZL rfl ?_)))
    intro _ L140
    refine so L140 rfl (Zg L140 rfl YC (R3.row (r1.up l2)) rfl fun _ L141 => so L141 rfl (ZT L141 rfl rfl Tryz.underlying30 fun _ L142 => sm L142 rfl fun _ L143 => son L143 rfl (Zd (off' := 1) L143 rfl ZL rfl fun _ L144 => son L144 rfl (Zg L144 rfl YC (R3.row r2) rfl fun _ L145 => son L145 rfl (ZT L145 rfl rfl Tryz.underlying30 fun _ L146 => so L146 rfl (Zj L146 rfl rfl fun _ L147 => ?_))))))
    have L148 := (L147.kp [2, 3, 4, 20] rfl); clear L147
    exact sn (Zm L148 rfl rfl (wp_skip ((Zc (⟨S2, Sh.le.refl _, (L148.kp [4, 3, 2] rfl), R3⟩)))))
  ·have hl_a := hd_a.hlen; have hc_a := hd_a.hcap; have hg_a := hd_a.hbig
   have hW_a : 18446744073709551616 ≤ a := hw_a
   obtain ⟨hb_b, ⟨hs_b, rfl⟩ | ⟨hw_b, lo_b, bb_b, len_b, cap_b, rest_b, hlo_b, rfl, rw_b, hd_b, h2_b⟩⟩ := h_b.open
   ·refine wp_seq (Za (so L3 rfl (Zd (off' := 1) L3 rfl ZL rfl ?_)))
    intro _ L149
    refine so L149 rfl (Zg L149 rfl YC (R3.row (r1.up l2)) rfl fun _ L150 => so L150 rfl (ZT L150 rfl rfl Tryz.underlying30 fun _ L151 => sm L151 rfl fun _ L152 => sof L152 rfl fun _ L153 => sof L153 rfl fun _ L154 => sof L154 rfl fun _ L155 => so L155 rfl (Zj L155 rfl rfl fun _ L156 => ?_)))
    have L157 := (L156.kp [2, 3, 4, 20] rfl); clear L156
    exact sn (Zm L157 rfl rfl (wp_skip ((Zc (⟨S2, Sh.le.refl _, (L157.kp [4, 3, 2] rfl), R3⟩)))))
   ·have hl_b := hd_b.hlen; have hc_b := hd_b.hcap; have hg_b := hd_b.hbig
    have hW_b : 18446744073709551616 ≤ b := hw_b
    refine wp_seq (Za (so L3 rfl (Zd (off' := 1) L3 rfl ZL rfl ?_)))
    intro _ L158
    refine so L158 rfl (Zg L158 rfl YC (R3.row (r1.up l2)) rfl fun _ L159 => so L159 rfl (ZT L159 rfl rfl Tryz.underlying30 fun _ L160 => sm L160 rfl fun _ L161 => sof L161 rfl fun _ L162 => sof L162 rfl fun _ L163 => sof L163 rfl fun _ L164 => so L164 rfl (Zj L164 rfl rfl fun _ L165 => ?_)))
    have L166 := (L165.kp [2, 3, 4, 20] rfl); clear L165
    exact sn (Zm L166 rfl rfl (wp_skip ((Zc (⟨S2, Sh.le.refl _, (L166.kp [4, 3, 2] rfl), R3⟩)))))
end Go.Cham
namespace Go.Cham
open Go Go.RowKit Go.Proofs
set_option maxRecDepth 20000 in
theorem nat_Sub {S : Sh} {w : World} (hS : Ya S w) {c_a : List Value} {a : Nat} {k_a : Nat} (h_a : Na S c_a (a) (k_a)) {c_b : List Value} {b : Nat} {k_b : Nat} (h_b : Na S c_b (b) (k_b)) (hlim : k_a ≤ 1099511627776) : Calls Tryz.prog 145 [(.agg (c_a : List Value).toArray), (.agg (c_b : List Value).toArray)].toArray w (Ret S w (fun S v => ((a < b) ∧ ∃ (c0 : List Value), v = .tuple [.agg c0.toArray, .int .i64 (10)].toArray ∧ Na S c0 (0) (0)) ∨ ((b ≤ a) ∧ ∃ (c0 : List Value), v = .tuple [.agg c0.toArray, .int .i64 (0)].toArray ∧ Na S c0 (a - b) (k_a)))) := by
 refine ZK (n := 66) Tryz.func145 rfl rfl ?_
 intro ac0 L0
 replace L0 : Zt ac0 66 [(0, (.agg (c_a : List Value).toArray)), (1, (.agg (c_b : List Value).toArray))] := L0
 have R0 : Run S w S [] w := .start hS
 have hla := XA h_a.1; have hcmp := @cmpN_neg a b
 refine wp_seq (Za (so L0 rfl (ZN (cs := c_a) L0 rfl R0 rfl ?_)))
 intro b1 _ _ l1 r1 R1 _ L1
 refine so L1 rfl (ZN (cs := c_b) L1 rfl R1 rfl fun b2 _ _ l2 r2 R2 _ L2 => so L2 rfl (ZG (cs := zN1) ZO R2 rfl fun b3 _ R3 _ L3 => sa L3 rfl fun _ L4 => sn (wp_scope_straight (wp_seq (wp_seq (Za (so L4 rfl (Zx L4 rfl ZE Zk (R3.row (r1.up l2)) h_a.len fun _ L5 => ?_))))))))
 refine so L5 rfl (Zx L5 rfl ZE Zk (R3.row r2) h_b.len fun _ L6 => so L6 rfl (Zl L6 rfl ent_133 (nat_Cmp R3.holds (h_a.up (l1.trans l2)) (h_b.up (l1.trans l2)) ) fun v_1 S3 _ x1 v1 => ?_))
 have R4 := R3.call x1; have l3 := x1.le
 obtain rfl := v1
 intro _ L7
 by_cases t1 : (cmpN a b) < (0 : Int)
 ·refine so L7 rfl (bT t1 (fun _ => ZF L7 rfl rfl) fun _ L8 => ?_)
  have L9 := (L8.kp [2, 3, 4, 5, 14] rfl); clear L8
  refine sn (Zp L9 rfl rfl (wp_seq (Za ?_)))
  have h1 : Na S3 zN1 (0) (0) := Na.zero _ _
  exact so L9 rfl (ZC (cs := zN1) L9 ZO XD .nil (by rfl) fun _ L10 => Zs L10 rfl rfl (Zi L10 rfl rfl R4 Zk h1.len rfl h1.ones fun _ R5 _ L11 => sa L11 rfl fun _ L12 => sn (wp_ret ((Zy (Qr (Zo (rs := Tryz.f145.results.toList) L12 rfl (Res.aggW rfl ZE Zk (R5.has (List.Mem.head _)) h1.len (.tmp rfl Res.nil)) (⟨_, _, rfl, R5.ext, (Or.inl ⟨by first | assumption | omega | (simp_all; done), ⟨_, rfl, (h1.to rfl (by omega))⟩⟩)⟩))))))))
 ·refine so L7 rfl (bF t1 (fun _ => ZF L7 rfl rfl) fun _ L13 => ?_)
  have L14 := (L13.kp [2, 3, 4, 5, 14] rfl); clear L13
  refine sn (Zm L14 rfl rfl (wp_skip ((Zc (wp_seq (wp_seq ?_))))))
  obtain ⟨hb_a, ⟨hs_a, rfl⟩ | ⟨hw_a, lo_a, bb_a, len_a, cap_a, rest_a, hlo_a, rfl, rw_a, hd_a, h2_a⟩⟩ := h_a.open
  ·refine Za (so L14 rfl (Zd (off' := 1) L14 rfl ZL rfl ?_))
   intro _ L15
   refine so L15 rfl (Zg L15 rfl YC (R4.row (r1.up (l2.trans l3))) rfl fun _ L16 => so L16 rfl (ZT L16 rfl rfl Tryz.underlying30 fun _ L17 => sn (Zp L17 rfl rfl (wp_seq ?_))))
   obtain ⟨hb_b, ⟨hs_b, rfl⟩ | ⟨hw_b, lo_b, bb_b, len_b, cap_b, rest_b, hlo_b, rfl, rw_b, hd_b, h2_b⟩⟩ := h_b.open
   ·refine Za (so L17 rfl (Zd (off' := 0) L17 rfl Yd rfl ?_))
    intro _ L18
    refine so L18 rfl (Zg L18 rfl Ym (R4.row (r1.up (l2.trans l3))) rfl fun _ L19 => so L19 rfl (Zd (off' := 0) L19 rfl Yd rfl fun _ L20 => so L20 rfl (Zg L20 rfl Ym (R4.row (r2.up l3)) rfl fun _ L21 => ?_)))
    have hba : ((a - b : Nat) : Int) = (a : Int) - (b : Int) := by omega
    refine so L21 rfl (ZR (z := ((a : Int) - (b : Int))) L21 rfl rfl (IntWalk.u64_in _ (by omega)) fun _ L22 => ?_)
    have h2 : Na S3 [(.int .u64 ((a : Int) - (b : Int))), (.slice none 0 0)] (a - b) (k_a) := by rw [show (a : Int) - (b : Int) = ((a - b : Nat) : Int) by omega]; exact Na.ofLowE rfl (by omega) (Nat.le_trans (Nat.sub_le _ _) hb_a)
    exact so L22 rfl (ZC (cs := [(.int .u64 ((a : Int) - (b : Int))), (.slice none 0 0)]) L22 ZO XD (.cons rfl Yd rfl (by decide) .nil) (by rfl) fun _ L23 => Zs L23 rfl rfl (Zi L23 rfl rfl R4 Zk h2.len rfl h2.ones fun _ R6 _ L24 => sa L24 rfl fun _ L25 => sn (wp_ret ((Zy (Qr (Zo (rs := Tryz.f145.results.toList) (L25.kp [2, 3, 4, 5] rfl) rfl (Res.aggW rfl ZE Zk (R6.has (List.Mem.head _)) h2.len (.tmp rfl Res.nil)) (⟨_, _, rfl, R6.ext, (Or.inr ⟨by first | assumption | omega | (simp_all; done), ⟨_, rfl, (h2.to rfl (by omega))⟩⟩)⟩))))))))
   ·have hl_b := hd_b.hlen; have hc_b := hd_b.hcap; have hg_b := hd_b.hbig
    have hW_b : 18446744073709551616 ≤ b := hw_b
    exfalso; omega
  ·have hl_a := hd_a.hlen; have hc_a := hd_a.hcap; have hg_a := hd_a.hbig
   have hW_a : 18446744073709551616 ≤ a := hw_a
   refine Za (so L14 rfl (Zd (off' := 1) L14 rfl ZL rfl ?_))
   intro _ L27
   refine so L27 rfl (Zg L27 rfl YC (R4.row (r1.up (l2.trans l3))) rfl fun _ L28 => so L28 rfl (ZT L28 rfl rfl Tryz.underlying30 fun _ L29 => sn (Zm L29 rfl rfl (wp_skip ((Zc (wp_seq ?_)))))))
   have hmono := Zes (show b ≤ a by omega)
   refine Za (so L29 rfl (Zd (off' := 1) L29 rfl ZL rfl ?_))
   intro _ L30
   refine so L30 rfl (Zg L30 rfl YC (R4.row (r1.up (l2.trans l3))) rfl fun _ L31 => so L31 rfl (ZM L31 rfl Tryz.underlying30 fun _ L32 => so L32 rfl (Xs (m := len_a) (c := len_a) L32 (by first | rfl | (simp [ev, Zah]; omega)) (by first | rfl | (simp [ev, Zah]; omega)) Tryz.underlying30 Qc rfl ZA QK (by omega) (by omega) (by omega) R4 fun b4 _ R7 _ L33 => ?_)))
   rw [Zcf] at R7
   refine sa L33 rfl fun _ L34 => ?_
   have L35 := (L34.kp [2, 3, 4, 5, 6] rfl); clear L34
   refine sn (wp_seq (Za (sm L35 rfl ?_)))
   intro _ L36
   refine so L36 rfl (Zd (off' := 1) L36 rfl ZL rfl fun _ L37 => so L37 rfl (Zg L37 rfl YC (R7.row (r1.up (l2.trans l3))) rfl fun _ L38 => so L38 rfl (does_copyDg (m := (len_a)) (us := (List.replicate (len_a) 0)) L38 rfl rfl Tryz.underlying30 ZA R7 (hd_a.up (l1.trans (l2.trans l3))) (by simp) (by omega) fun _ R8 _ L39 => ?_)))
   have L40 := (L39.kp [3, 4, 5, 6] rfl); clear L39
   refine sn (wp_seq (Za (so L40 rfl (Zx L40 rfl ZE Zk (R8.row (r2.up l3)) h_b.len ?_))))
   intro _ L41
   refine so L41 rfl (Zl L41 rfl Zb9 (YV R8.holds (h_b.up (l1.trans (l2.trans l3))) ) fun v_2 S4 _ x2 v2 => ?_)
   have R9 := R8.call x2; have l4 := x2.le
   obtain ⟨p1, len1, cap1, rfl, y1, z1, hg1, hd1⟩ := v2
   intro _ L42
   refine sa L42 rfl fun _ L43 => sa L43 rfl fun _ L44 => sn (wp_seq (wp_label ((Zc (wp_seq (wp_seq (Za (sm L44 rfl fun _ L45 => so L45 rfl (ZM L45 rfl Tryz.underlying30 fun _ L46 => ?_)))))))))
   refine sm L46 rfl fun a42 L47 => sn (wp_block ?_)
   have hxl := (hd_a.up (l1.trans (l2.trans (l3.trans l4)))).hlt; have hyl := hd1.hlt
   have hst : Zdg (ZP W64 a) (ZP W64 b) ((ZP W64 a) ++ (List.replicate (len_a) 0).drop len_a) 0 0 := by rw [show ((ZP W64 a) ++ (List.replicate (len_a) 0).drop len_a) = (ZP W64 a) from by rw [List.drop_replicate, show len_a - len_a = 0 by omega]; simp]; exact Zdg.start hxl
   have e1 : ((0 : Int) : Int) = ((0 : Nat) : Int) := by omega
   have L49 : Zt a42 66 [(8, (.int .u64 ((0 : Nat) : Int)))] := by have q := (L47.kp [8] rfl); rw [e1] at q; exact q
   have e2 : ((0 : Int) : Int) = ((0 : Nat) : Int) := by omega
   have L50 : Zt a42 66 [(37, (.int .i64 ((0 : Nat) : Int)))] := by have q := (L47.kp [37] rfl); rw [e2] at q; exact q
   refine Yb (fun m ac ww => ∃ (S' : Sh) (us : List Nat) (i : Nat) (c : Nat), S4.le S' ∧ Zt ac 66 [(4, (.pointer (some ⟨b3, 0, none⟩))), (5, (.int .i64 (0 : Int))), (6, (.slice (some ⟨b4, 0, none⟩) (len_a) (len_a))), (7, (.slice p1 len1 cap1)), (8, (.int .u64 ((c : Nat) : Int))), (36, (.int .i64 (((len_a) : Nat) : Int))), (37, (.int .i64 ((i : Nat) : Int)))] ∧ Run S w S' [(b4, 29, (Yr us ++ [])), (b3, 32, zN1)] ww ∧ (Zdg (ZP W64 a) (ZP W64 b) us i c) ∧ m = ((ZP W64 a)).length - i)
    (((ZP W64 a)).length - 0) ⟨S4, ((ZP W64 a) ++ (List.replicate (len_a) 0).drop len_a), 0, 0, Sh.le.refl _, (L47.keep (L47.keep (L47.keep (L47.keep (L49.keep (L47.keep (L50.keep (Zt.none _ L47) (t := 37) rfl) (t := 36) rfl) (t := 8) rfl) (t := 7) rfl) (t := 6) rfl) (t := 5) rfl) (t := 4) rfl), (ZY (ZY R9)), (by exact hst), rfl⟩ ?_
   rintro m_1 ac1 _ ⟨S5, us, i, c, l5, L48, R10, hI, m1⟩
   refine wp_seq (Za ?_)
   have hIl := hI.len; have hIe := hI.le; have hIc := hI.c1
   by_cases t2 : (i : Int) < (((len_a) : Nat) : Int)
   ·have hIl := hI.len; have hIe := hI.le; have hIc := hI.c1
    refine so L48 rfl (bT t2 (fun _ => ZF L48 rfl rfl) fun _ L51 => sn (wp_seq (Zp L51 rfl rfl (wp_skip ((Zc (wp_seq (wp_block (wp_seq (Za (sm L51 rfl fun _ L52 => sa L52 rfl fun _ L53 => ?_)))))))))))
    refine sn (wp_seq (Za (sa L53 rfl ?_)))
    intro _ L54
    refine sn (wp_seq (wp_seq (Za (sm L54 rfl ?_))))
    intro _ L55
    refine sm L55 rfl fun _ L56 => so L56 rfl (ZM L56 rfl Tryz.underlying30 fun _ L57 => ?_)
    by_cases t3 : (i : Int) < (len1 : Int)
    ·refine so L57 rfl (bT t3 (fun _ => ZF L57 rfl rfl) fun _ L58 => sn (Zp L58 rfl rfl (Za (sm L58 rfl fun _ L59 => sm L59 rfl fun _ L60 => ?_))))
     obtain ⟨b5, rest_1, rfl, r3⟩ := (hd1.up l5).row (by omega)
     refine so L60 rfl (Zr (i) L60 rfl rfl Tryz.underlying30 ZA (by omega) (by omega) fun _ L61 => so L61 rfl (Zg (v := (.int .u64 (((ZP W64 b).getD (i) 0 : Nat) : Int))) L61 rfl Ym (R10.row r3) (by rw [Nat.zero_add]; exact ZX (by omega)) fun _ L62 => sa L62 rfl fun _ L63 => sn (Za (sm L63 rfl fun _ L64 => sm L64 rfl fun _ L65 => sm L65 rfl fun _ L66 => ?_))))
     refine sm L66 rfl fun _ L67 => so L67 rfl (Zr (i) L67 rfl rfl Tryz.underlying30 ZA (by omega) (by omega) fun _ L68 => so L68 rfl (Zg (v := (.int .u64 ((us.getD (i) 0 : Nat) : Int))) L68 rfl Ym (R10.has (List.Mem.head _)) (by rw [Nat.zero_add]; exact ZX (by omega)) fun _ L69 => sm L69 rfl fun _ L70 => sm L70 rfl fun _ L71 => so L71 rfl (Zcz (x := (us.getD (i) 0)) (y := ((ZP W64 b).getD (i) 0)) (c := c) L71 rfl (by omega) fun _ L72 => sm L72 rfl fun _ L73 => ?_)))
     refine so L73 rfl (Zf L73 rfl rfl fun _ L74 => so L74 rfl (Zf L74 rfl rfl fun _ L75 => so L75 rfl (Zr (i) L75 rfl rfl Tryz.underlying30 ZA (by omega) (by omega) fun _ L76 => Zs L76 rfl rfl (Yk (cs' := (Yr (us.set (i) ((((us.getD (i) 0) + 18446744073709551616 - ((ZP W64 b).getD (i) 0) - c) % 18446744073709551616))) ++ [])) L76 rfl rfl R10 ZA rfl (by simp only [List.length_append, ZH]; omega) (by rw [Nat.zero_add]; exact YS (by omega)) fun _ R11 _ L77 => sa L77 rfl fun _ L78 => Yy ((ZI (Zc (Za (so L78 rfl (ZJ (z := ((i : Int) + (1 : Int))) L78 rfl rfl (IntWalk.i64_in _ (by omega)) fun _ L79 => ?_))))))))))
     refine sm L79 rfl fun a72 L80 => sn ?_
     have e3 : (((if (us.getD (i) 0) < ((ZP W64 b).getD (i) 0) + c then 1 else 0 : Nat) : Int) : Int) = (((if (us.getD (i) 0) < ((ZP W64 b).getD (i) 0) + c then 1 else 0) : Nat) : Int) := by omega
     have L81 : Zt a72 66 [(8, (.int .u64 (((if (us.getD (i) 0) < ((ZP W64 b).getD (i) 0) + c then 1 else 0) : Nat) : Int)))] := by have q := (L80.kp [8] rfl); rw [e3] at q; exact q
     have e4 : (((i : Int) + (1 : Int)) : Int) = (((i + 1) : Nat) : Int) := by omega
     have L82 : Zt a72 66 [(37, (.int .i64 (((i + 1) : Nat) : Int)))] := by have q := (L80.kp [37] rfl); rw [e4] at q; exact q
     exact ⟨((ZP W64 a)).length - (i + 1), (by omega), S5, (us.set (i) ((((us.getD (i) 0) + 18446744073709551616 - ((ZP W64 b).getD (i) 0) - c) % 18446744073709551616))), (i + 1), (if (us.getD (i) 0) < ((ZP W64 b).getD (i) 0) + c then 1 else 0), l5, (L80.keep (L80.keep (L80.keep (L80.keep (L81.keep (L80.keep (L82.keep (Zt.none _ L80) (t := 37) rfl) (t := 36) rfl) (t := 8) rfl) (t := 7) rfl) (t := 6) rfl) (t := 5) rfl) (t := 4) rfl), (ZY (ZY R11)), (by first | exact hI.step hxl hyl (by omega) | (have q := hI.step hxl hyl (by omega); rw [Zc5 (y := (ZP W64 b)) (i := i) (by omega)] at q; exact q)), rfl⟩
    ·refine so L57 rfl (bF t3 (fun _ => ZF L57 rfl rfl) fun _ L83 => sn (Zm L83 rfl rfl (wp_seq (Za (sm L83 rfl fun _ L84 => ?_)))))
     by_cases t4 : (c : Int) = (0 : Int)
     ·refine so L84 rfl (bT t4 (fun _ => ZZ L84 rfl rfl) fun _ L85 => sn (Zp L85 rfl rfl (wp_exit ((Zz (in_miss rfl (Zz (Zz (YR (Zc (wp_seq (Za (sm L85 rfl fun _ L86 => ?_)))))))))))))
      obtain ⟨S6, l6, r4, R12⟩ := (R10).freeze
      have hd2 : Dg S6 (some ⟨b4, 0, none⟩) (len_a) (len_a) us := ⟨by first | rfl | omega, by omega, by omega, hI.lt, fun _ => ⟨_, _, rfl, r4⟩⟩
      refine so L86 rfl (Zl L86 rfl Zbj (Zbe R12.holds (k := k_a) hd2 (by rw [hI.done hyl (by simp only [Yn (show 2 ≤ W64 by decide)]; omega) (by omega) (by omega)]; simp only [Yn (show 2 ≤ W64 by decide)]; exact Nat.le_trans (Nat.sub_le _ _) h_a.1)) fun v_3 _ _ x3 v3 => ?_)
      have R13 := R12.call x3
      obtain ⟨cs_1, rfl, h3⟩ := v3
      intro _ L87
      exact Zs L87 rfl rfl (Zi L87 rfl rfl R13 Zk h3.len rfl h3.ones fun _ R14 _ L88 => sa L88 rfl fun _ L89 => sn (wp_ret ((Qr (Zo (rs := Tryz.f145.results.toList) (L89.kp [4, 5] rfl) rfl (Res.aggW rfl ZE Zk (R14.has (List.Mem.head _)) h3.len (.tmp rfl Res.nil)) (⟨_, _, rfl, R14.ext, (Or.inr ⟨by first | assumption | omega | (simp_all; done), ⟨_, rfl, (h3.to (by rw [hI.done hyl (by simp only [Yn (show 2 ≤ W64 by decide)]; omega) (by omega) (by omega)]; simp only [Yn (show 2 ≤ W64 by decide)]) (by omega))⟩⟩)⟩))))))
     ·refine so L84 rfl (bF t4 (fun _ => ZZ L84 rfl rfl) fun _ L91 => sn (Zm L91 rfl rfl (wp_skip ((Zc (Za (sm L91 rfl fun _ L92 => sm L92 rfl fun _ L93 => sm L93 rfl fun _ L94 => sm L94 rfl fun _ L95 => ?_)))))))
      refine so L95 rfl (Zr (i) L95 rfl rfl Tryz.underlying30 ZA (by omega) (by omega) fun _ L96 => so L96 rfl (Zg (v := (.int .u64 ((us.getD (i) 0 : Nat) : Int))) L96 rfl Ym (R10.has (List.Mem.head _)) (by rw [Nat.zero_add]; exact ZX (by omega)) fun _ L97 => sm L97 rfl fun _ L98 => sm L98 rfl fun _ L99 => so L99 rfl (Zcz (x := (us.getD (i) 0)) (y := 0) (c := c) L99 rfl (by omega) fun _ L100 => sm L100 rfl fun _ L101 => so L101 rfl (Zf L101 rfl rfl fun _ L102 => ?_))))
      refine so L102 rfl (Zf L102 rfl rfl fun _ L103 => so L103 rfl (Zr (i) L103 rfl rfl Tryz.underlying30 ZA (by omega) (by omega) fun _ L104 => Zs L104 rfl rfl (Yk (cs' := (Yr (us.set (i) ((((us.getD (i) 0) + 18446744073709551616 - 0 - c) % 18446744073709551616))) ++ [])) L104 rfl rfl R10 ZA rfl (by simp only [List.length_append, ZH]; omega) (by rw [Nat.zero_add]; exact YS (by omega)) fun _ R15 _ L105 => sa L105 rfl fun _ L106 => Yy ((ZI (Zc (Za (so L106 rfl (ZJ (z := ((i : Int) + (1 : Int))) L106 rfl rfl (IntWalk.i64_in _ (by omega)) fun _ L107 => sm L107 rfl fun a97 L108 => ?_)))))))))
      refine sn ?_
      have e5 : (((if (us.getD (i) 0) < 0 + c then 1 else 0 : Nat) : Int) : Int) = (((if (us.getD (i) 0) < 0 + c then 1 else 0) : Nat) : Int) := by omega
      have L109 : Zt a97 66 [(8, (.int .u64 (((if (us.getD (i) 0) < 0 + c then 1 else 0) : Nat) : Int)))] := by have q := (L108.kp [8] rfl); rw [e5] at q; exact q
      have e6 : (((i : Int) + (1 : Int)) : Int) = (((i + 1) : Nat) : Int) := by omega
      have L110 : Zt a97 66 [(37, (.int .i64 (((i + 1) : Nat) : Int)))] := by have q := (L108.kp [37] rfl); rw [e6] at q; exact q
      exact ⟨((ZP W64 a)).length - (i + 1), (by omega), S5, (us.set (i) ((((us.getD (i) 0) + 18446744073709551616 - 0 - c) % 18446744073709551616))), (i + 1), (if (us.getD (i) 0) < 0 + c then 1 else 0), l5, (L108.keep (L108.keep (L108.keep (L108.keep (L109.keep (L108.keep (L110.keep (Zt.none _ L108) (t := 37) rfl) (t := 36) rfl) (t := 8) rfl) (t := 7) rfl) (t := 6) rfl) (t := 5) rfl) (t := 4) rfl), (ZY (ZY R15)), (by first | exact hI.step hxl hyl (by omega) | (have q := hI.step hxl hyl (by omega); rw [Zc5 (y := (ZP W64 b)) (i := i) (by omega)] at q; exact q)), rfl⟩
   ·have hIl := hI.len; have hIe := hI.le; have hIc := hI.c1
    refine so L48 rfl (bF t2 (fun _ => ZF L48 rfl rfl) fun _ L111 => sn (wp_seq (Zm L111 rfl rfl (wp_exit ((Zz (Zz (YR (Zc (wp_seq (Za (sm L111 rfl fun _ L112 => ?_))))))))))))
    obtain ⟨S8, l8, r5, R16⟩ := (R10).freeze
    have hd3 : Dg S8 (some ⟨b4, 0, none⟩) (len_a) (len_a) us := ⟨by first | rfl | omega, by omega, by omega, hI.lt, fun _ => ⟨_, _, rfl, r5⟩⟩
    refine so L112 rfl (Zl L112 rfl Zbj (Zbe R16.holds (k := k_a) hd3 (by rw [hI.done hyl (by simp only [Yn (show 2 ≤ W64 by decide)]; omega) (by omega) (by omega)]; simp only [Yn (show 2 ≤ W64 by decide)]; exact Nat.le_trans (Nat.sub_le _ _) h_a.1)) fun v_4 _ _ x4 v4 => ?_)
    have R17 := R16.call x4
    obtain ⟨c2, rfl, h4⟩ := v4
    intro _ L113
    exact Zs L113 rfl rfl (Zi L113 rfl rfl R17 Zk h4.len rfl h4.ones fun _ R18 _ L114 => sa L114 rfl fun _ L115 => sn (wp_ret ((Qr (Zo (rs := Tryz.f145.results.toList) (L115.kp [4, 5] rfl) rfl (Res.aggW rfl ZE Zk (R18.has (List.Mem.head _)) h4.len (.tmp rfl Res.nil)) (⟨_, _, rfl, R18.ext, (Or.inr ⟨by first | assumption | omega | (simp_all; done), ⟨_, rfl, (h4.to (by rw [hI.done hyl (by simp only [Yn (show 2 ≤ W64 by decide)]; omega) (by omega) (by omega)]; simp only [Yn (show 2 ≤ W64 by decide)]) (by omega))⟩⟩)⟩))))))
set_option maxRecDepth 20000 in
theorem nat_Mul {S : Sh} {w : World} (hS : Ya S w) {c_a : List Value} {a : Nat} {k_a : Nat} (h_a : Na S c_a (a) (k_a)) {c_b : List Value} {b : Nat} {k_b : Nat} (h_b : Na S c_b (b) (k_b)) (hlim : k_a ≤ 1099511627776) (hlim2 : k_b ≤ 1099511627776) : Calls Tryz.prog 80 [(.agg (c_a : List Value).toArray), (.agg (c_b : List Value).toArray)].toArray w (Ret S w (fun S v => ∃ (c0 : List Value), v = .agg c0.toArray ∧ Na S c0 (a * b) (k_a + k_b))) := by
 refine ZK (n := 111) Tryz.func80 rfl rfl ?_
 intro ac0 L0
 replace L0 : Zt ac0 111 [(0, (.agg (c_a : List Value).toArray)), (1, (.agg (c_b : List Value).toArray))] := L0
 have R0 : Run S w S [] w := .start hS
 have hla := XA h_a.1; have hlb := XA h_b.1
 refine wp_seq (Za (so L0 rfl (ZN (cs := c_a) L0 rfl R0 rfl ?_)))
 intro b1 _ _ l1 r1 R1 _ L1
 refine so L1 rfl (ZN (cs := c_b) L1 rfl R1 rfl fun b2 S2 _ l2 r2 R2 _ L2 => so L2 rfl (ZG (cs := zN1) ZO R2 rfl fun b3 _ R3 _ L3 => sn ?_))
 refine Qp (fun ac ww => ∃ (S' : Sh) , S2.le S' ∧ Zt ac 111 [(2, (.pointer (some ⟨b1, 0, none⟩))), (3, (.pointer (some ⟨b2, 0, none⟩))), (4, (.pointer (some ⟨b3, 0, none⟩)))] ∧ Run S w S' [(b3, 32, zN1)] ww) ?_ ?_
 ·rintro ac1 _ ⟨_, l3, L4, R4⟩
  refine wp_seq ?_
  have L5 := (L4.kp [2, 3, 4] rfl)
  refine Zu (E0 := []) (H0 := [(b3, 32, zN1)]) (n := 111) mixed 3 [] (fun k => 0) (Zce [
    .is (.agg (c_a : List Value).toArray),
    .sat (fun S v => ∃ (p0 : Option Addr) (len0 : Nat) (cap0 : Nat), v = .slice p0 len0 cap0 ∧ (ZP W64 a).length = len0 ∧ len0 ≤ cap0 ∧ len0 ≤ 281474976710656 ∧ Dg S p0 len0 cap0 (ZP W64 a)) (fun _ _ _ l ⟨p0, n0, m0, e, g0, f0, j0, h0⟩ => ⟨p0, n0, m0, e, g0, f0, j0, h0.up l⟩),
    .is (.agg (c_b : List Value).toArray)]) L5 R4 (by simp) (by simp) (by rfl) (by rfl) (by simp) (ZU ?_) ?_
  ·refine (And.intro ?_ (And.intro ?_ (And.intro ?_ trivial)))
   ·exact Zb rfl (fun _ _ _ _ _ A1 => (Zx A1.live rfl ZE Zk (A1.run.row (r1.up (l2.trans (l3.trans A1.le)))) h_a.len (A1.same rfl)))
   ·refine Zb rfl (fun _ _ _ _ _ A2 => ?_)
    obtain ⟨_, e1, rfl⟩ := A2.known 0 rfl
    exact Zl (A2.live.add e1) rfl Zb9 (YV A2.run.holds (h_a.up (l1.trans (l2.trans (l3.trans A2.le)))) ) fun v_1 _ _ x1 v1 => (A2.post x1.le (A2.run.call x1) v1)
   ·exact Zb rfl (fun _ _ _ _ _ A3 => (Zx A3.live rfl ZE Zk (A3.run.row (r2.up (l3.trans A3.le))) h_b.len (A3.same rfl)))
  ·intro S8 _ _ w9 l5 E1 R6 n1 L9 K1
   obtain ⟨_, e2, p1, len1, cap1, rfl, y1, z1, hg1, hd1⟩ := K1 1 (by decide)
   have L10 := L9.add e2; clear L9
   obtain ⟨_, e3, rfl⟩ := K1 2 (by decide)
   have L11 := L10.add e3; clear L10
   have R7 : Run _ _ S8 [(b3, 32, zN1)] w9 := Yh R6 n1 [] (by simp) (by simp)
   refine so L11 rfl (Zl L11 rfl Zb9 (YV R7.holds (h_b.up (l1.trans (l2.trans (l3.trans l5)))) ) fun v_2 S9 _ x2 v2 => ?_)
   have R8 := R7.call x2; have l6 := x2.le
   obtain ⟨p2, len2, cap2, rfl, y2, z2, hg2, hd2⟩ := v2
   intro _ L12
   refine sa L12 rfl fun _ L13 => sa L13 rfl fun _ L14 => ?_
   have L15 := (L14.kp [4, 7, 8] rfl); clear L14
   refine sn (wp_seq (Za (sm L15 rfl ?_)))
   intro _ L16
   refine so L16 rfl (ZM L16 rfl Tryz.underlying30 fun _ L17 => sm L17 rfl fun _ L18 => so L18 rfl (ZM L18 rfl Tryz.underlying30 fun _ L19 => so L19 rfl (ZJ (z := ((len1 : Int) + (len2 : Int))) L19 rfl rfl (IntWalk.i64_in _ (by omega)) fun _ L20 => so L20 rfl (Xs (m := (len1 + len2)) (c := (len1 + len2)) L20 (by first | rfl | (simp [ev, Zah]; omega)) (by first | rfl | (simp [ev, Zah]; omega)) Tryz.underlying30 Qc rfl ZA QK (by omega) (by omega) (by omega) R8 fun b4 _ R9 _ L21 => ?_))))
   rw [Zcf] at R9
   refine sa L21 rfl fun _ L22 => ?_
   have L23 := (L22.kp [4, 7, 8, 9] rfl); clear L22
   refine sn (wp_seq (wp_seq (Za (sm L23 rfl ?_))))
   intro _ L24
   refine so L24 rfl (ZM L24 rfl Tryz.underlying30 fun _ L25 => sm L25 rfl fun a20 L26 => sn (wp_block ?_))
   have hxl := (hd1.up l6).hlt; have hyl := hd2.hlt
   have e4 : ((0 : Int) : Int) = ((0 : Nat) : Int) := by omega
   have L28 : Zt a20 111 [(52, (.int .i64 ((0 : Nat) : Int)))] := by have q := (L26.kp [52] rfl); rw [e4] at q; exact q
   refine Yb (fun m ac ww => ∃ (S' : Sh) (us : List Nat) (i : Nat), S9.le S' ∧ Zt ac 111 [(4, (.pointer (some ⟨b3, 0, none⟩))), (7, (.slice p1 len1 cap1)), (8, (.slice p2 len2 cap2)), (9, (.slice (some ⟨b4, 0, none⟩) ((len1 + len2)) ((len1 + len2)))), (51, (.int .i64 ((len1 : Nat) : Int))), (52, (.int .i64 ((i : Nat) : Int)))] ∧ Run S w S' [(b4, 29, (Yr us ++ [])), (b3, 32, zN1)] ww ∧ (MulIn (ZP W64 a) (ZP W64 b) us i 0 0) ∧ (i ≤ ((ZP W64 a)).length) ∧ m = ((ZP W64 a)).length - i)
    (((ZP W64 a)).length - 0) ⟨S9, (List.replicate ((len1 + len2)) 0), 0, Sh.le.refl _, (L26.keep (L26.keep (L26.keep (L26.keep (L26.keep (L28.keep (Zt.none _ L26) (t := 52) rfl) (t := 51) rfl) (t := 9) rfl) (t := 8) rfl) (t := 7) rfl) (t := 4) rfl), (ZY (ZY R9)), (by exact MulIn.start (by omega)), (by omega), rfl⟩ ?_
   rintro m_1 ac2 _ ⟨S10, us, i, l7, L27, R10, hI, hi, m1⟩
   refine wp_seq (Za ?_)
   by_cases t1 : (i : Int) < (len1 : Int)
   ·refine so L27 rfl (bT t1 (fun _ => ZF L27 rfl rfl) fun _ L29 => sn (wp_seq (Zp L29 rfl rfl (wp_skip ((Zc (wp_seq (wp_block (wp_seq ?_)))))))))
    have hIl := hI.len
    refine Za (sm L29 rfl ?_)
    intro _ L30
    refine sa L30 rfl fun _ L31 => sn (wp_seq (Za (sa L31 rfl fun _ L32 => sn (wp_seq (wp_seq (Za (sm L32 rfl fun _ L33 => ?_)))))))
    refine so L33 rfl (ZM L33 rfl Tryz.underlying30 fun _ L34 => sm L34 rfl fun a27 L35 => sn (wp_block ?_))
    have e5 : ((0 : Int) : Int) = ((0 : Nat) : Int) := by omega
    have L37 : Zt a27 111 [(11, (.int .u64 ((0 : Nat) : Int)))] := by have q := (L35.kp [11] rfl); rw [e5] at q; exact q
    have e6 : ((0 : Int) : Int) = ((0 : Nat) : Int) := by omega
    have L38 : Zt a27 111 [(57, (.int .i64 ((0 : Nat) : Int)))] := by have q := (L35.kp [57] rfl); rw [e6] at q; exact q
    refine Yb (fun m ac ww => ∃ (S' : Sh) (vs : List Nat) (j : Nat) (c : Nat), S10.le S' ∧ Zt ac 111 [(4, (.pointer (some ⟨b3, 0, none⟩))), (7, (.slice p1 len1 cap1)), (8, (.slice p2 len2 cap2)), (9, (.slice (some ⟨b4, 0, none⟩) ((len1 + len2)) ((len1 + len2)))), (51, (.int .i64 ((len1 : Nat) : Int))), (52, (.int .i64 ((i : Nat) : Int))), (53, (.bool true)), (54, (.int .i64 ((i : Nat) : Int))), (10, (.int .i64 ((i : Nat) : Int))), (11, (.int .u64 ((c : Nat) : Int))), (55, (.slice p2 len2 cap2)), (56, (.int .i64 ((len2 : Nat) : Int))), (57, (.int .i64 ((j : Nat) : Int)))] ∧ Run S w S' [(b4, 29, (Yr vs ++ [])), (b3, 32, zN1)] ww ∧ (MulIn (ZP W64 a) (ZP W64 b) vs i j c) ∧ (j ≤ ((ZP W64 b)).length) ∧ m = ((ZP W64 b)).length - j)
     (((ZP W64 b)).length - 0) ⟨S10, us, 0, 0, Sh.le.refl _, (L35.keep (L35.keep (L35.keep (L35.keep (L35.keep (L35.keep (L35.keep (L35.keep (L35.keep (L37.keep (L35.keep (L35.keep (L38.keep (Zt.none _ L35) (t := 57) rfl) (t := 56) rfl) (t := 55) rfl) (t := 11) rfl) (t := 10) rfl) (t := 54) rfl) (t := 53) rfl) (t := 52) rfl) (t := 51) rfl) (t := 9) rfl) (t := 8) rfl) (t := 7) rfl) (t := 4) rfl), (ZY (ZY R10)), (by exact hI), (by omega), rfl⟩ ?_
    rintro m_2 ac3 _ ⟨S11, vs, j, c, l8, L36, R11, hJ, hj, m2⟩
    refine wp_seq (Za ?_)
    by_cases t2 : (j : Int) < (len2 : Int)
    ·refine so L36 rfl (bT t2 (fun _ => ZF L36 rfl rfl) fun _ L39 => sn (wp_seq (Zp L39 rfl rfl (wp_skip ((Zc (wp_seq (wp_block (wp_seq ?_)))))))))
     have hJl := hJ.len; have hJc := hJ.c1
     obtain ⟨hm1, hm2, hm3⟩ := mul_step (x := (ZP W64 a).getD i 0) (y := (ZP W64 b).getD j 0) (c := c) (u := vs.getD (i + j) 0) (ZQ hxl (by decide) _) (ZQ hyl (by decide) _) hJ.c1 (ZQ hJ.lt (by decide) _)
     refine Za (sm L39 rfl ?_)
     intro _ L40
     refine sa L40 rfl fun _ L41 => sn (wp_seq ?_)
     obtain ⟨b5, rest_1, rfl, r3⟩ := (hd1.up (l6.trans (l7.trans l8))).row (by omega)
     obtain ⟨b6, rest_2, rfl, r4⟩ := (hd2.up (l7.trans l8)).row (by omega)
     have L42 := (L41.kp [4, 7, 8, 9, 51, 52, 53, 54, 10, 11, 55, 56, 57, 58, 59, 12] rfl)
     refine Zu (E0 := []) (H0 := [(b4, 29, (Yr vs ++ [])), (b3, 32, zN1)]) (n := 111) mixed 13 [] (fun k => 0) (Zce [
       .is (.slice (some ⟨b5, 0, none⟩) len1 cap1),
       .is (.int .i64 (i : Int)),
       .is (.pointer (some ⟨b5, (0 + (i)), none⟩)),
       .is (.int .u64 (((ZP W64 a).getD (i) 0 : Nat) : Int)),
       .is (.slice (some ⟨b6, 0, none⟩) len2 cap2),
       .is (.int .i64 (j : Int)),
       .is (.pointer (some ⟨b6, (0 + (j)), none⟩)),
       .is (.int .u64 (((ZP W64 b).getD (j) 0 : Nat) : Int)),
       .is (.tuple [.int .u64 (((((ZP W64 a).getD (i) 0) * ((ZP W64 b).getD (j) 0) / 18446744073709551616 : Nat) : Int)), .int .u64 (((((ZP W64 a).getD (i) 0) * ((ZP W64 b).getD (j) 0) % 18446744073709551616 : Nat) : Int))].toArray),
       .is (.tuple [(.int .u64 ((((ZP W64 a).getD (i) 0) * ((ZP W64 b).getD (j) 0) / 18446744073709551616 : Nat) : Int)), (.int .u64 ((((ZP W64 a).getD (i) 0) * ((ZP W64 b).getD (j) 0) % 18446744073709551616 : Nat) : Int))].toArray),
       .is (.int .u64 ((((ZP W64 a).getD (i) 0) * ((ZP W64 b).getD (j) 0) / 18446744073709551616 : Nat) : Int)),
       .is (.int .u64 ((((ZP W64 a).getD (i) 0) * ((ZP W64 b).getD (j) 0) % 18446744073709551616 : Nat) : Int)),
       .is (.int .u64 ((((ZP W64 a).getD (i) 0) * ((ZP W64 b).getD (j) 0) / 18446744073709551616 : Nat) : Int))]) L42 R11 (by simp) (by simp) (by rfl) (by rfl) (by simp) (ZU ?_) ?_
     ·refine (And.intro ?_ (And.intro ?_ (And.intro ?_ (And.intro ?_ (And.intro ?_ (And.intro ?_ (And.intro ?_ (And.intro ?_ (And.intro ?_ (And.intro ?_ (And.intro ?_ (And.intro ?_ (And.intro ?_ trivial)))))))))))))
      ·exact Zb rfl (fun _ _ _ _ _ A4 => (Zh A4.live rfl (A4.same rfl)))
      ·exact Zb rfl (fun _ _ _ _ _ A5 => (Zh A5.live rfl (A5.same rfl)))
      ·refine Zb rfl (fun _ _ _ _ _ A6 => ?_)
       obtain ⟨_, e7, rfl⟩ := A6.known 0 rfl
       obtain ⟨_, e8, rfl⟩ := A6.known 1 rfl
       exact Zr (i) ((A6.live.add e7).add e8) rfl rfl Tryz.underlying30 ZA (by omega) (by omega) (A6.same rfl)
      ·refine Zb rfl (fun _ _ _ _ _ A7 => ?_)
       obtain ⟨_, e9, rfl⟩ := A7.known 2 rfl
       exact Zg (v := (.int .u64 (((ZP W64 a).getD (i) 0 : Nat) : Int))) (A7.live.add e9) rfl Ym (A7.run.row (r3.up A7.le)) (by rw [Nat.zero_add]; exact ZX (by omega)) (A7.same rfl)
      ·exact Zb rfl (fun _ _ _ _ _ A8 => (Zh A8.live rfl (A8.same rfl)))
      ·exact Zb rfl (fun _ _ _ _ _ A9 => (Zh A9.live rfl (A9.same rfl)))
      ·refine Zb rfl (fun _ _ _ _ _ A10 => ?_)
       obtain ⟨_, e10, rfl⟩ := A10.known 4 rfl
       obtain ⟨_, e11, rfl⟩ := A10.known 5 rfl
       exact Zr (j) ((A10.live.add e10).add e11) rfl rfl Tryz.underlying30 ZA (by omega) (by omega) (A10.same rfl)
      ·refine Zb rfl (fun _ _ _ _ _ A11 => ?_)
       obtain ⟨_, e12, rfl⟩ := A11.known 6 rfl
       exact Zg (v := (.int .u64 (((ZP W64 b).getD (j) 0 : Nat) : Int))) (A11.live.add e12) rfl Ym (A11.run.row (r4.up A11.le)) (by rw [Nat.zero_add]; exact ZX (by omega)) (A11.same rfl)
      ·refine Zb rfl (fun _ _ _ _ _ A12 => ?_)
       obtain ⟨_, e13, rfl⟩ := A12.known 3 rfl
       obtain ⟨_, e14, rfl⟩ := A12.known 7 rfl
       exact Zl ((A12.live.add e13).add e14) rfl ent_139 (Qk A12.run.holds (x := ((ZP W64 a).getD (i) 0)) (y := ((ZP W64 b).getD (j) 0)) (ZQ hxl (by decide) _) (ZQ hyl (by decide) _)) fun v_3 _ _ x3 v3 => (A12.post x3.le (A12.run.call x3) v3)
      ·refine Zb rfl (fun _ _ _ _ _ A13 => ?_)
       obtain ⟨_, e15, rfl⟩ := A13.known 8 rfl
       exact Zh (A13.live.add e15) rfl (A13.same rfl)
      ·refine Zb rfl (fun _ _ _ _ _ A14 => ?_)
       obtain ⟨_, e16, rfl⟩ := A14.known 9 rfl
       exact Zf (A14.live.add e16) rfl rfl (A14.same rfl)
      ·refine Zb rfl (fun _ _ _ _ _ A15 => ?_)
       obtain ⟨_, e17, rfl⟩ := A15.known 9 rfl
       exact Zf (A15.live.add e17) rfl rfl (A15.same rfl)
      ·refine Zb rfl (fun _ _ _ _ _ A16 => ?_)
       obtain ⟨_, e18, rfl⟩ := A16.known 10 rfl
       exact XL (A16.live.add e18) rfl (A16.same rfl)
     ·intro S26 _ _ w28 l10 E2 R13 n2 L56 K2
      obtain ⟨_, e19, rfl⟩ := K2 0 (by decide)
      have L57 := L56.add e19; clear L56
      obtain ⟨_, e20, rfl⟩ := K2 1 (by decide)
      have L58 := L57.add e20; clear L57
      obtain ⟨_, e21, rfl⟩ := K2 2 (by decide)
      have L59 := L58.add e21; clear L58
      obtain ⟨_, e22, rfl⟩ := K2 3 (by decide)
      have L60 := L59.add e22; clear L59
      obtain ⟨_, e23, rfl⟩ := K2 4 (by decide)
      have L61 := L60.add e23; clear L60
      obtain ⟨_, e24, rfl⟩ := K2 5 (by decide)
      have L62 := L61.add e24; clear L61
      obtain ⟨_, e25, rfl⟩ := K2 6 (by decide)
      have L63 := L62.add e25; clear L62
      obtain ⟨_, e26, rfl⟩ := K2 7 (by decide)
      have L64 := L63.add e26; clear L63
      obtain ⟨_, e27, rfl⟩ := K2 8 (by decide)
      have L65 := L64.add e27; clear L64
      obtain ⟨_, e28, rfl⟩ := K2 9 (by decide)
      have L66 := L65.add e28; clear L65
      obtain ⟨_, e29, rfl⟩ := K2 10 (by decide)
      have L67 := L66.add e29; clear L66
      obtain ⟨_, e30, rfl⟩ := K2 11 (by decide)
      have L68 := L67.add e30; clear L67
      obtain ⟨_, e31, rfl⟩ := K2 12 (by decide)
      have L69 := L68.add e31; clear L68
      have R14 : Run _ _ S26 [(b4, 29, (Yr vs ++ [])), (b3, 32, zN1)] w28 := Yh R13 n2 [] (by simp) (by simp)
      refine sa L69 rfl fun _ L70 => sn (wp_seq (Za (sa L70 rfl fun _ L71 => sn (wp_seq (Za (sm L71 rfl fun _ L72 => sm L72 rfl fun _ L73 => ?_))))))
      refine so L73 rfl (YE (x := (((ZP W64 a).getD (i) 0) * ((ZP W64 b).getD (j) 0) % 18446744073709551616)) (y := c) (c := 0) L73 rfl (by omega) fun _ L74 => sm L74 rfl fun _ L75 => so L75 rfl (Zf L75 rfl rfl fun _ L76 => so L76 rfl (Zf L76 rfl rfl fun _ L77 => sa L77 rfl fun _ L78 => sa L78 rfl fun _ L79 => sn ?_)))
      refine wp_seq (Za (sm L79 rfl ?_))
      intro _ L80
      refine sm L80 rfl fun _ L81 => so L81 rfl (ZJ (z := (((((ZP W64 a).getD (i) 0) * ((ZP W64 b).getD (j) 0) / 18446744073709551616 : Nat) : Int) + ((((((ZP W64 a).getD (i) 0) * ((ZP W64 b).getD (j) 0) % 18446744073709551616) + c + 0) / 18446744073709551616 : Nat) : Int))) L81 rfl rfl (IntWalk.u64_in _ (by omega)) fun _ L82 => sa L82 rfl fun _ L83 => sn (wp_seq (Za (sm L83 rfl fun _ L84 => sm L84 rfl fun _ L85 => ?_))))
      refine sm L85 rfl fun _ L86 => so L86 rfl (ZJ (z := ((i : Int) + (j : Int))) L86 rfl rfl (IntWalk.i64_in _ (by omega)) fun _ L87 => sm L87 rfl fun _ L88 => sm L88 rfl fun _ L89 => sm L89 rfl fun _ L90 => so L90 rfl (ZJ (z := ((i : Int) + (j : Int))) L90 rfl rfl (IntWalk.i64_in _ (by omega)) fun _ L91 => so L91 rfl (Zr ((i + j)) L91 rfl rfl Tryz.underlying30 ZA (by omega) (by omega) fun _ L92 => ?_)))
      refine so L92 rfl (Zg (v := (.int .u64 ((vs.getD ((i + j)) 0 : Nat) : Int))) L92 rfl Ym (R14.has (List.Mem.head _)) (by rw [Nat.zero_add]; exact ZX (by omega)) fun _ L93 => sm L93 rfl fun _ L94 => so L94 rfl (YE (x := (vs.getD ((i + j)) 0)) (y := (((((ZP W64 a).getD (i) 0) * ((ZP W64 b).getD (j) 0) % 18446744073709551616) + c + 0) % 18446744073709551616)) (c := 0) L94 rfl (by omega) fun _ L95 => sm L95 rfl fun _ L96 => so L96 rfl (Zf L96 rfl rfl fun _ L97 => so L97 rfl (Zf L97 rfl rfl fun _ L98 => so L98 rfl (Zr ((i + j)) L98 rfl rfl Tryz.underlying30 ZA (by omega) (by omega) fun _ L99 => ?_)))))
      refine Zs L99 rfl rfl (Yk (cs' := (Yr (vs.set ((i + j)) ((((vs.getD ((i + j)) 0) + (((((ZP W64 a).getD (i) 0) * ((ZP W64 b).getD (j) 0) % 18446744073709551616) + c + 0) % 18446744073709551616) + 0) % 18446744073709551616))) ++ [])) L99 rfl rfl R14 ZA rfl (by simp only [List.length_append, ZH]; omega) (by rw [Nat.zero_add]; exact YS (by omega)) fun _ R15 _ L100 => sa L100 rfl fun _ L101 => sn (Za (sm L101 rfl fun _ L102 => sm L102 rfl fun _ L103 => so L103 rfl (ZJ (z := ((((((ZP W64 a).getD (i) 0) * ((ZP W64 b).getD (j) 0) / 18446744073709551616 : Nat) : Int) + ((((((ZP W64 a).getD (i) 0) * ((ZP W64 b).getD (j) 0) % 18446744073709551616) + c + 0) / 18446744073709551616 : Nat) : Int)) + ((((vs.getD ((i + j)) 0) + (((((ZP W64 a).getD (i) 0) * ((ZP W64 b).getD (j) 0) % 18446744073709551616) + c + 0) % 18446744073709551616) + 0) / 18446744073709551616 : Nat) : Int))) L103 rfl rfl (IntWalk.u64_in _ (by omega)) fun _ L104 => sa L104 rfl fun _ L105 => ?_))))
      refine Yy ((ZI (Zc (Za (so L105 rfl (ZJ (z := ((j : Int) + (1 : Int))) L105 rfl rfl (IntWalk.i64_in _ (by omega)) ?_))))))
      intro _ L106
      refine sm L106 rfl fun a82 L107 => sn ?_
      have e32 : (((((((ZP W64 a).getD (i) 0) * ((ZP W64 b).getD (j) 0) / 18446744073709551616 : Nat) : Int) + ((((((ZP W64 a).getD (i) 0) * ((ZP W64 b).getD (j) 0) % 18446744073709551616) + c + 0) / 18446744073709551616 : Nat) : Int)) + ((((vs.getD ((i + j)) 0) + (((((ZP W64 a).getD (i) 0) * ((ZP W64 b).getD (j) 0) % 18446744073709551616) + c + 0) % 18446744073709551616) + 0) / 18446744073709551616 : Nat) : Int)) : Int) = (((((((ZP W64 a).getD (i) 0) * ((ZP W64 b).getD (j) 0) / 18446744073709551616) + (((((ZP W64 a).getD (i) 0) * ((ZP W64 b).getD (j) 0) % 18446744073709551616) + c + 0) / 18446744073709551616)) + (((vs.getD ((i + j)) 0) + (((((ZP W64 a).getD (i) 0) * ((ZP W64 b).getD (j) 0) % 18446744073709551616) + c + 0) % 18446744073709551616) + 0) / 18446744073709551616)) : Nat) : Int) := by omega
      have L108 : Zt a82 111 [(11, (.int .u64 (((((((ZP W64 a).getD (i) 0) * ((ZP W64 b).getD (j) 0) / 18446744073709551616) + (((((ZP W64 a).getD (i) 0) * ((ZP W64 b).getD (j) 0) % 18446744073709551616) + c + 0) / 18446744073709551616)) + (((vs.getD ((i + j)) 0) + (((((ZP W64 a).getD (i) 0) * ((ZP W64 b).getD (j) 0) % 18446744073709551616) + c + 0) % 18446744073709551616) + 0) / 18446744073709551616)) : Nat) : Int)))] := by have q := (L107.kp [11] rfl); rw [e32] at q; exact q
      have e33 : (((j : Int) + (1 : Int)) : Int) = (((j + 1) : Nat) : Int) := by omega
      have L109 : Zt a82 111 [(57, (.int .i64 (((j + 1) : Nat) : Int)))] := by have q := (L107.kp [57] rfl); rw [e33] at q; exact q
      exact ⟨((ZP W64 b)).length - (j + 1), (by omega), S26, (vs.set ((i + j)) ((((vs.getD ((i + j)) 0) + (((((ZP W64 a).getD (i) 0) * ((ZP W64 b).getD (j) 0) % 18446744073709551616) + c + 0) % 18446744073709551616) + 0) % 18446744073709551616))), (j + 1), (((((ZP W64 a).getD (i) 0) * ((ZP W64 b).getD (j) 0) / 18446744073709551616) + (((((ZP W64 a).getD (i) 0) * ((ZP W64 b).getD (j) 0) % 18446744073709551616) + c + 0) / 18446744073709551616)) + (((vs.getD ((i + j)) 0) + (((((ZP W64 a).getD (i) 0) * ((ZP W64 b).getD (j) 0) % 18446744073709551616) + c + 0) % 18446744073709551616) + 0) / 18446744073709551616)), (l8.trans l10), (L107.keep (L107.keep (L107.keep (L107.keep (L107.keep (L107.keep (L107.keep (L107.keep (L107.keep (L108.keep (L107.keep (L107.keep (L109.keep (Zt.none _ L107) (t := 57) rfl) (t := 56) rfl) (t := 55) rfl) (t := 11) rfl) (t := 10) rfl) (t := 54) rfl) (t := 53) rfl) (t := 52) rfl) (t := 51) rfl) (t := 9) rfl) (t := 8) rfl) (t := 7) rfl) (t := 4) rfl), (ZY (ZY R15)), (by exact hJ.step rfl hxl hyl (by omega) (by omega) (by omega) hm2 hm3), (by omega), rfl⟩
    ·refine so L36 rfl (bF t2 (fun _ => ZF L36 rfl rfl) fun _ L110 => sn (wp_seq (Zm L110 rfl rfl (wp_exit ((Zz (Zz (YR (Zc ?_)))))))))
     have hJl := hJ.len; have hJc := hJ.c1
     refine Za (sm L110 rfl ?_)
     intro _ L111
     refine sm L111 rfl fun _ L112 => sm L112 rfl fun _ L113 => so L113 rfl (ZM L113 rfl Tryz.underlying30 fun _ L114 => so L114 rfl (ZJ (z := ((i : Int) + (len2 : Int))) L114 rfl rfl (IntWalk.i64_in _ (by omega)) fun _ L115 => sm L115 rfl fun _ L116 => so L116 rfl (Zr ((i + len2)) L116 rfl rfl Tryz.underlying30 ZA (by omega) (by omega) fun _ L117 => Zs L117 rfl rfl (Yk (cs' := (Yr (vs.set ((i + len2)) (c)) ++ [])) L117 rfl rfl R11 ZA rfl (by simp only [List.length_append, ZH]; omega) (by rw [Nat.zero_add]; exact YS (by omega)) fun _ R16 _ L118 => ?_))))
     refine Yy ((ZI (Zc (Za (so L118 rfl (ZJ (z := ((i : Int) + (1 : Int))) L118 rfl rfl (IntWalk.i64_in _ (by omega)) ?_))))))
     intro _ L119
     refine sm L119 rfl fun a93 L120 => sn ?_
     have e34 : (((i : Int) + (1 : Int)) : Int) = (((i + 1) : Nat) : Int) := by omega
     have L121 : Zt a93 111 [(52, (.int .i64 (((i + 1) : Nat) : Int)))] := by have q := (L120.kp [52] rfl); rw [e34] at q; exact q
     exact ⟨((ZP W64 a)).length - (i + 1), (by omega), S11, (vs.set ((i + len2)) (c)), (i + 1), (l7.trans l8), (L120.keep (L120.keep (L120.keep (L120.keep (L120.keep (L121.keep (Zt.none _ L120) (t := 52) rfl) (t := 51) rfl) (t := 9) rfl) (t := 8) rfl) (t := 7) rfl) (t := 4) rfl), (ZY (ZY R16)), (by exact hJ.next (by omega) (by omega) (by omega) (by omega)), (by omega), rfl⟩
   ·refine so L27 rfl (bF t1 (fun _ => ZF L27 rfl rfl) fun _ L122 => sn (wp_seq (Zm L122 rfl rfl (wp_exit ((Zz (Zz (YR (Zc (wp_seq (Za (sm L122 rfl fun _ L123 => ?_))))))))))))
    obtain ⟨S27, l11, r5, R17⟩ := (R10).freeze
    have hd3 : Dg S27 (some ⟨b4, 0, none⟩) ((len1 + len2)) ((len1 + len2)) us := ⟨by first | rfl | (have := hI.len; omega) | omega, by omega, by omega, hI.lt, fun _ => ⟨_, _, rfl, r5⟩⟩
    refine so L123 rfl (Zl L123 rfl Zbj (Zbe R17.holds (k := (k_a + k_b)) hd3 (by rw [hI.done (by omega)]; simp only [Yn (show 2 ≤ W64 by decide)]; exact prod_pow h_a.1 h_b.1)) fun v_4 _ _ x4 v4 => ?_)
    have R18 := R17.call x4
    obtain ⟨cs_1, rfl, h1⟩ := v4
    intro _ L124
    exact Zs L124 rfl rfl (Zi L124 rfl rfl R18 Zk h1.len rfl h1.ones fun _ R19 _ L125 => (sn (wp_ret ((Zo (rs := Tryz.f80.results.toList) (L125.kp [4] rfl) rfl (Res.aggW rfl ZE Zk (R19.has (List.Mem.head _)) h1.len Res.nil) (⟨_, _, rfl, R19.ext, ⟨_, rfl, (h1.to (by rw [hI.done (by omega)]; simp only [Yn (show 2 ≤ W64 by decide)]) (by omega))⟩⟩))))))
 ·skip
  obtain ⟨hb_a, ⟨hs_a, rfl⟩ | ⟨hw_a, lo_a, bb_a, len_a, cap_a, rest_a, hlo_a, rfl, rw_a, hd_a, h2_a⟩⟩ := h_a.open
  ·obtain ⟨hb_b, ⟨hs_b, rfl⟩ | ⟨hw_b, lo_b, bb_b, len_b, cap_b, rest_b, hlo_b, rfl, rw_b, hd_b, h2_b⟩⟩ := h_b.open
   ·refine wp_seq (Za (so L3 rfl (Zd (off' := 1) L3 rfl ZL rfl ?_)))
    intro _ L127
    refine so L127 rfl (Zg L127 rfl YC (R3.row (r1.up l2)) rfl fun _ L128 => so L128 rfl (ZT L128 rfl rfl Tryz.underlying30 fun _ L129 => sm L129 rfl fun _ L130 => son L130 rfl (Zd (off' := 1) L130 rfl ZL rfl fun _ L131 => son L131 rfl (Zg L131 rfl YC (R3.row r2) rfl fun _ L132 => son L132 rfl (ZT L132 rfl rfl Tryz.underlying30 fun _ L133 => so L133 rfl (Zj L133 rfl rfl fun _ L134 => ?_))))))
    have L135 := (L134.kp [2, 3, 4, 23] rfl); clear L134
    refine sn (Zp L135 rfl rfl (wp_seq (Za (so L135 rfl (Zd (off' := 0) L135 rfl Yd rfl ?_)))))
    intro _ L136
    refine so L136 rfl (Zg L136 rfl Ym (R3.row (r1.up l2)) rfl fun _ L137 => so L137 rfl (Zd (off' := 0) L137 rfl Yd rfl fun _ L138 => so L138 rfl (Zg L138 rfl Ym (R3.row r2) rfl fun _ L139 => so L139 rfl (Zl L139 rfl ent_139 (Qk R3.holds (x := a) (y := b) (hs_a) (hs_b)) fun v_5 S29 _ x5 v5 => ?_))))
    have R20 := R3.call x5
    obtain rfl := v5
    intro _ L140
    refine sm L140 rfl fun _ L141 => so L141 rfl (Zf L141 rfl rfl fun _ L142 => so L142 rfl (Zf L142 rfl rfl fun _ L143 => sa L143 rfl fun _ L144 => sa L144 rfl fun _ L145 => ?_))
    have L146 := (L145.kp [2, 3, 4, 5, 6] rfl); clear L145
    refine sn (wp_seq (wp_seq ?_))
    have hab : a * b ≤ 18446744073709551615 * 18446744073709551615 := Nat.mul_le_mul (by omega) (by omega)
    refine Za (sm L146 rfl ?_)
    intro _ L147
    by_cases t3 : ((a * b / 18446744073709551616 : Nat) : Int) = (0 : Int)
    ·refine so L147 rfl (bT t3 (fun _ => ZZ L147 rfl rfl) fun _ L148 => sn (Zp L148 rfl rfl (wp_seq (Za (sm L148 rfl fun _ L149 => ?_)))))
     have h2 : Na S29 [(.int .u64 ((a * b % 18446744073709551616 : Nat) : Int)), (.slice none 0 0)] (a * b) (k_a + k_b) := Na.ofLowE (by omega) (by omega) (prod_pow hb_a hb_b)
     exact so L149 rfl (ZC (cs := [(.int .u64 ((a * b % 18446744073709551616 : Nat) : Int)), (.slice none 0 0)]) L149 ZO XD (.cons rfl Yd rfl (by decide) .nil) (by rfl) fun _ L150 => Zs L150 rfl rfl (Zi L150 rfl rfl R20 Zk h2.len rfl h2.ones fun _ R21 _ L151 => sn (wp_ret ((Zy (Zy (Zo (rs := Tryz.f80.results.toList) L151 rfl (Res.aggW rfl ZE Zk (R21.has (List.Mem.head _)) h2.len Res.nil) (⟨_, _, rfl, R21.ext, ⟨_, rfl, (h2.to rfl (by omega))⟩⟩))))))))
    ·refine so L147 rfl (bF t3 (fun _ => ZZ L147 rfl rfl) fun _ L152 => sn (Zm L152 rfl rfl (wp_skip ((Zc (wp_seq (Za (sm L152 rfl fun _ L153 => sm L153 rfl fun _ L154 => so L154 rfl (Xn (cs := (Yr [(a * b % 18446744073709551616), (a * b / 18446744073709551616)] ++ [])) L154 Tryz.underlying30 ZA Qc (.cons rfl rfl (by decide) (.cons rfl rfl (by decide) .nil)) [[(.int .u64 ((a * b % 18446744073709551616 : Nat) : Int))], [(.int .u64 ((a * b / 18446744073709551616 : Nat) : Int))]] rfl rfl (by rfl) (by decide) R20 fun b7 _ R22 _ L155 => ?_)))))))))
     obtain ⟨S30, l14, r6, R23⟩ := (R22).freeze
     have hd4 : Dg S30 (some ⟨b7, 0, none⟩) 2 2 ([(a * b % 18446744073709551616), (a * b / 18446744073709551616)]) := ⟨by first | rfl | (have := hI.len; omega) | omega, by omega, by omega, by simp; omega, fun _ => ⟨_, _, rfl, r6⟩⟩
     have h3 : Na S30 [(.int .u64 (0 : Int)), (.slice (some ⟨b7, 0, none⟩) 2 2)] (a * b) (k_a + k_b) := Na.ofDg (lo := 0) (by decide) hd4 (by omega) (by simp; omega) (by simp only [val, W64]; omega) (prod_pow hb_a hb_b)
     exact so L155 rfl (ZC (cs := [(.int .u64 (0 : Int)), (.slice (some ⟨b7, 0, none⟩) 2 2)]) L155 ZO XD (.cons rfl ZL rfl (by decide) .nil) (by rfl) fun _ L156 => Zs L156 rfl rfl (Zi L156 rfl rfl R23 Zk h3.len rfl h3.ones fun _ R24 _ L157 => sn (wp_ret ((Zy (Zo (rs := Tryz.f80.results.toList) (L157.kp [2, 3, 4] rfl) rfl (Res.aggW rfl ZE Zk (R24.has (List.Mem.head _)) h3.len Res.nil) (⟨_, _, rfl, R24.ext, ⟨_, rfl, (h3.to rfl (by omega))⟩⟩)))))))
   ·have hl_b := hd_b.hlen; have hc_b := hd_b.hcap; have hg_b := hd_b.hbig
    have hW_b : 18446744073709551616 ≤ b := hw_b
    refine wp_seq (Za (so L3 rfl (Zd (off' := 1) L3 rfl ZL rfl ?_)))
    intro _ L159
    refine so L159 rfl (Zg L159 rfl YC (R3.row (r1.up l2)) rfl fun _ L160 => so L160 rfl (ZT L160 rfl rfl Tryz.underlying30 fun _ L161 => sm L161 rfl fun _ L162 => son L162 rfl (Zd (off' := 1) L162 rfl ZL rfl fun _ L163 => son L163 rfl (Zg L163 rfl YC (R3.row r2) rfl fun _ L164 => son L164 rfl (ZT L164 rfl rfl Tryz.underlying30 fun _ L165 => so L165 rfl (Zj L165 rfl rfl fun _ L166 => ?_))))))
    have L167 := (L166.kp [2, 3, 4, 23] rfl); clear L166
    exact sn (Zm L167 rfl rfl (wp_skip ((Zc (⟨S2, Sh.le.refl _, (L167.kp [4, 3, 2] rfl), R3⟩)))))
  ·have hl_a := hd_a.hlen; have hc_a := hd_a.hcap; have hg_a := hd_a.hbig
   have hW_a : 18446744073709551616 ≤ a := hw_a
   obtain ⟨hb_b, ⟨hs_b, rfl⟩ | ⟨hw_b, lo_b, bb_b, len_b, cap_b, rest_b, hlo_b, rfl, rw_b, hd_b, h2_b⟩⟩ := h_b.open
   ·refine wp_seq (Za (so L3 rfl (Zd (off' := 1) L3 rfl ZL rfl ?_)))
    intro _ L168
    refine so L168 rfl (Zg L168 rfl YC (R3.row (r1.up l2)) rfl fun _ L169 => so L169 rfl (ZT L169 rfl rfl Tryz.underlying30 fun _ L170 => sm L170 rfl fun _ L171 => sof L171 rfl fun _ L172 => sof L172 rfl fun _ L173 => sof L173 rfl fun _ L174 => so L174 rfl (Zj L174 rfl rfl fun _ L175 => ?_)))
    have L176 := (L175.kp [2, 3, 4, 23] rfl); clear L175
    exact sn (Zm L176 rfl rfl (wp_skip ((Zc (⟨S2, Sh.le.refl _, (L176.kp [4, 3, 2] rfl), R3⟩)))))
   ·have hl_b := hd_b.hlen; have hc_b := hd_b.hcap; have hg_b := hd_b.hbig
    have hW_b : 18446744073709551616 ≤ b := hw_b
    refine wp_seq (Za (so L3 rfl (Zd (off' := 1) L3 rfl ZL rfl ?_)))
    intro _ L177
    refine so L177 rfl (Zg L177 rfl YC (R3.row (r1.up l2)) rfl fun _ L178 => so L178 rfl (ZT L178 rfl rfl Tryz.underlying30 fun _ L179 => sm L179 rfl fun _ L180 => sof L180 rfl fun _ L181 => sof L181 rfl fun _ L182 => sof L182 rfl fun _ L183 => so L183 rfl (Zj L183 rfl rfl fun _ L184 => ?_)))
    have L185 := (L184.kp [2, 3, 4, 23] rfl); clear L184
    exact sn (Zm L185 rfl rfl (wp_skip ((Zc (⟨S2, Sh.le.refl _, (L185.kp [4, 3, 2] rfl), R3⟩)))))
end Go.Cham
