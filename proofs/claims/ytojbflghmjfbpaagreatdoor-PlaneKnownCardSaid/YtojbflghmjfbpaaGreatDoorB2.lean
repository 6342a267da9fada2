/- YtojbflghmjfbpaaGreatDoorB2, a part of the proof that the claim's law answers true for every input, made small by program from the texts of this repo's wip/. No condition beyond those that the statements bear. -/
import Derived.Test.YtojbflghmjfbpaaGreatDoorB1
import Derived.Laws.Append
namespace Go.Cham
open Go Go.RowKit Go.Proofs
set_option maxRecDepth 20000 in
theorem Yt {S : Sh} {w : World} (hS : Yw S w) {c_a : List Value} {a : Nat} {k_a : Nat} (h_a : Na S c_a (a) (k_a))  : Calls Tryz.prog 98 [(.agg (c_a : List Value).toArray)].toArray w (Ret S w (fun S v => v = .int .i64 (((ZF a : Nat) : Int)))) := by
 refine ZT (n := 24) Tryz.func98 rfl rfl ?_
 intro ac0 L0
 replace L0 : Zz ac0 24 [(0, (.agg (c_a : List Value).toArray))] := L0
 have R0 : Run S w S [] w := .start hS
 have hbl := bitlen_le (k := 64) (n := (ZQ W64 a).getD ((ZQ W64 a).length - 1) 0) (Nat.le_of_lt (ZR (digs_lt (B := W64) (by decide) _) (by decide) _))
 obtain ⟨hb_a, ⟨hs_a, rfl⟩ | ⟨hw_a, lo_a, bb_a, len_a, cap_a, rest_a, hlo_a, rfl, rw_a, hd_a, h2_a⟩⟩ := h_a.open
 ·refine wp_seq (Za (so L0 rfl (Yq (cs := [(.int .u64 ((a : Nat) : Int)), (.slice none 0 0)]) L0 rfl R0 rfl ?_)))
  intro b1 _ _ l1 r1 R1 _ L1
  refine so L1 rfl (Zc L1 rfl fun _ L2 => (sn (wp_seq (wp_seq (Za (so L2 rfl (Zo (off' := 1) L2 rfl ZL rfl fun _ L3 => (so L3 rfl (Zl L3 rfl Yu (R1.row r1) rfl fun _ L4 => (so L4 rfl (ZV L4 rfl rfl Tryz.underlying30 fun _ L5 => (sn ?_))))))))))))
  refine Zs L5 rfl rfl (wp_seq (Za (so L5 rfl (Zo (off' := 0) L5 rfl Yb rfl ?_))))
  intro _ L6
  refine so L6 rfl (Zl L6 rfl Yi (R1.row r1) rfl fun _ L7 => (so L7 rfl (Zp L7 rfl ent_150 (bits_Len64R R1.holds (x := a)    (hs_a)) fun v_1 _ _ x1 v1 => ?_)))
  have R2 := R1.call x1
  obtain rfl := v1
  intro _ L8
  exact so L8 rfl (Zc L8 rfl fun _ L9 => (sn (wp_ret ((ZE (Zv (rs := Tryz.f98.results.toList) (L9.kp [1, 2] rfl) rfl (.tmp rfl Res.nil) (⟨_, _, rfl, R2.ext, rfl⟩)))))))
 ·have hl_a := hd_a.hlen; have hc_a := hd_a.hcap; have hg_a := hd_a.hbig
  have hW_a : 18446744073709551616 ≤ a := hw_a
  refine wp_seq (Za (so L0 rfl (Yq (cs := [(.int .u64 ((lo_a : Nat) : Int)), (.slice (some ⟨bb_a, 0, none⟩) len_a cap_a)]) L0 rfl R0 rfl ?_)))
  intro b2 _ _ l3 r2 R3 _ L11
  refine so L11 rfl (Zc L11 rfl fun _ L12 => (sn (wp_seq (wp_seq (Za (so L12 rfl (Zo (off' := 1) L12 rfl ZL rfl fun _ L13 => (so L13 rfl (Zl L13 rfl Yu (R3.row r2) rfl fun _ L14 => (so L14 rfl (ZV L14 rfl rfl Tryz.underlying30 fun _ L15 => (sn ?_))))))))))))
  refine Zn L15 rfl rfl (wp_skip ((Ze (wp_seq ?_))))
  have L16 := (L15.kp [1, 2] rfl)
  refine Zy (E0 := []) (H0 := []) (n := 24) mixed 14 [] (fun k =>  0) (Zaf [
    .is (.pointer (some ⟨b2, 1, none⟩)),
    .is (.slice (some ⟨bb_a, 0, none⟩) len_a cap_a),
    .is (.int .i64 ((len_a : Nat) : Int)),
    .is (.int .i64 (((len_a : Nat) : Int) - (1 : Int))),
    .is (.int .i64 ((64 : Int) * (((len_a : Nat) : Int) - (1 : Int)))),
    .is (.pointer (some ⟨b2, 1, none⟩)),
    .is (.slice (some ⟨bb_a, 0, none⟩) len_a cap_a),
    .is (.pointer (some ⟨b2, 1, none⟩)),
    .is (.slice (some ⟨bb_a, 0, none⟩) len_a cap_a),
    .is (.int .i64 ((len_a : Nat) : Int)),
    .is (.int .i64 (((len_a : Nat) : Int) - (1 : Int))),
    .is (.pointer (some ⟨bb_a, (0 + ((len_a - 1))), none⟩)),
    .is (.int .u64 (((ZQ W64 a).getD ((len_a - 1)) 0 : Nat) : Int)),
    .is (.int .i64 (((ZF ((ZQ W64 a).getD ((len_a - 1)) 0) : Nat) : Int)))]) L16 R3 (by simp) (by simp) (by rfl) (by rfl) (by simp) (ZU ?_) ?_
  ·refine (And.intro ?_ (And.intro ?_ (And.intro ?_ (And.intro ?_ (And.intro ?_ (And.intro ?_ (And.intro ?_ (And.intro ?_ (And.intro ?_ (And.intro ?_ (And.intro ?_ (And.intro ?_ (And.intro ?_ (And.intro ?_ trivial))))))))))))))
   ·exact Zd rfl (fun _ _ _ _ _ A1 => (Zo (off' := 1) A1.live rfl ZL rfl (A1.same  rfl)))
   ·refine Zd rfl (fun _ _ _ _ _ A2 => ?_)
    obtain ⟨_, e1, rfl⟩ := A2.known 0 rfl
    exact Zl (A2.live.add e1) rfl Yu (A2.run.row (r2.up A2.le)) rfl (A2.same  rfl)
   ·refine Zd rfl (fun _ _ _ _ _ A3 => ?_)
    obtain ⟨_, e2, rfl⟩ := A3.known 1 rfl
    exact ZO (A3.live.add e2) rfl Tryz.underlying30 (A3.same  rfl)
   ·refine Zd rfl (fun _ _ _ _ _ A4 => ?_)
    obtain ⟨_, e3, rfl⟩ := A4.known 2 rfl
    exact ZS (z := (((len_a : Nat) : Int) - (1 : Int))) (A4.live.add e3) rfl rfl (IntWalk.i64_in _ (by omega)) (A4.same  rfl)
   ·refine Zd rfl (fun _ _ _ _ _ A5 => ?_)
    obtain ⟨_, e4, rfl⟩ := A5.known 3 rfl
    exact Xa (z := ((64 : Int) * (((len_a : Nat) : Int) - (1 : Int)))) (A5.live.add e4) rfl rfl (IntWalk.i64_in _ (by omega)) (A5.same  rfl)
   ·exact Zd rfl (fun _ _ _ _ _ A6 => (Zo (off' := 1) A6.live rfl ZL rfl (A6.same  rfl)))
   ·refine Zd rfl (fun _ _ _ _ _ A7 => ?_)
    obtain ⟨_, e5, rfl⟩ := A7.known 5 rfl
    exact Zl (A7.live.add e5) rfl Yu (A7.run.row (r2.up A7.le)) rfl (A7.same  rfl)
   ·exact Zd rfl (fun _ _ _ _ _ A8 => (Zo (off' := 1) A8.live rfl ZL rfl (A8.same  rfl)))
   ·refine Zd rfl (fun _ _ _ _ _ A9 => ?_)
    obtain ⟨_, e6, rfl⟩ := A9.known 7 rfl
    exact Zl (A9.live.add e6) rfl Yu (A9.run.row (r2.up A9.le)) rfl (A9.same  rfl)
   ·refine Zd rfl (fun _ _ _ _ _ A10 => ?_)
    obtain ⟨_, e7, rfl⟩ := A10.known 8 rfl
    exact ZO (A10.live.add e7) rfl Tryz.underlying30 (A10.same  rfl)
   ·refine Zd rfl (fun _ _ _ _ _ A11 => ?_)
    obtain ⟨_, e8, rfl⟩ := A11.known 9 rfl
    exact ZS (z := (((len_a : Nat) : Int) - (1 : Int))) (A11.live.add e8) rfl rfl (IntWalk.i64_in _ (by omega)) (A11.same  rfl)
   ·refine Zd rfl (fun _ _ _ _ _ A12 => ?_)
    obtain ⟨_, e9, rfl⟩ := A12.known 6 rfl
    obtain ⟨_, e10, rfl⟩ := A12.known 10 rfl
    exact Zu ((len_a - 1)) ((A12.live.add e9).add e10) rfl rfl Tryz.underlying30 ZB (by omega) (by omega) (A12.same  rfl)
   ·refine Zd rfl (fun _ _ _ _ _ A13 => ?_)
    obtain ⟨_, e11, rfl⟩ := A13.known 11 rfl
    exact Zl (v := (.int .u64 (((ZQ W64 a).getD ((len_a - 1)) 0 : Nat) : Int))) (A13.live.add e11) rfl Yi (A13.run.row (rw_a.up (l3.trans A13.le))) (by rw [Nat.zero_add]; exact ZW (by omega)) (A13.same  rfl)
   ·refine Zd rfl (fun _ _ _ _ _ A14 => ?_)
    obtain ⟨_, e12, rfl⟩ := A14.known 12 rfl
    exact Zp (A14.live.add e12) rfl ent_150 (bits_Len64R A14.run.holds (x := ((ZQ W64 a).getD ((len_a - 1)) 0))    (ZR (digs_lt (B := W64) (by decide) _) (by decide) _)) fun v_2 _ _ x2 v2 => (A14.post x2.le (A14.run.call x2) v2)
  ·intro S19 _ _ w19 l5 E1 R5 n1 L31 K1
   obtain ⟨_, e13, rfl⟩ := K1 4 (by decide)
   have L32 := L31.add e13; clear L31
   obtain ⟨_, e14, rfl⟩ := K1 13 (by decide)
   have L33 := L32.add e14; clear L32
   have R6 : Run _ _ S19 [] w19 := Yc R5 n1 [] (by simp) (by simp)
   rw [hl_a] at hbl
   exact so L33 rfl (ZK (z := (((64 : Int) * (((len_a : Nat) : Int) - (1 : Int))) + ((ZF ((ZQ W64 a).getD ((len_a - 1)) 0) : Nat) : Int))) L33 rfl rfl (IntWalk.i64_in _ (by omega)) fun _ L34 => (so L34 rfl (Zc L34 rfl fun _ L35 => (sn (wp_ret ((Zv (rs := Tryz.f98.results.toList) L35 rfl (.tmp rfl Res.nil) (⟨_, _, rfl, R6.ext, (by have e := bitlen_digs hw_a; rw [hl_a] at e; exact int_eq (by omega))⟩))))))))
set_option maxRecDepth 20000 in
theorem nat_Cmp {S : Sh} {w : World} (hS : Yw S w) {c_a : List Value} {a : Nat} {k_a : Nat} (h_a : Na S c_a (a) (k_a)) {c_b : List Value} {b : Nat} {k_b : Nat} (h_b : Na S c_b (b) (k_b))  : Calls Tryz.prog 133 [(.agg (c_a : List Value).toArray), (.agg (c_b : List Value).toArray)].toArray w (Ret S w (fun S v => v = .int .i64 (cmpN a b))) := by
 refine ZT (n := 49) Tryz.func133 rfl rfl ?_
 intro ac0 L0
 replace L0 : Zz ac0 49 [(0, (.agg (c_a : List Value).toArray)), (1, (.agg (c_b : List Value).toArray))] := L0
 have R0 : Run S w S [] w := .start hS
 refine wp_seq (Za (so L0 rfl (Yq (cs := c_a) L0 rfl R0 rfl ?_)))
 intro b1 _ _ l1 r1 R1 _ L1
 refine so L1 rfl (Yq (cs := c_b) L1 rfl R1 rfl fun b2 _ _ l2 r2 R2 _ L2 => (so L2 rfl (Zc L2 rfl fun _ L3 => (sn (wp_seq ?_)))))
 have L4 := (L3.kp [2, 3, 4] rfl)
 refine Zy (E0 := []) (H0 := []) (n := 49) mixed 3 [] (fun k =>  0) (Zaf [
   .is (.agg (c_a : List Value).toArray),
   .sat (fun S v => ∃ (p0 : Option Addr) (len0 : Nat) (cap0 : Nat), v = .slice p0 len0 cap0 ∧ (ZQ W64 a).length = len0 ∧ len0 ≤ cap0 ∧ len0 ≤ 281474976710656 ∧ Dg S p0 len0 cap0 (ZQ W64 a)) (fun _ _ _ l ⟨p0, n0, m0, e, g0, f0, j0, h0⟩ => ⟨p0, n0, m0, e, g0, f0, j0, h0.up l⟩),
   .is (.agg (c_b : List Value).toArray)]) L4 R2 (by simp) (by simp) (by rfl) (by rfl) (by simp) (ZU ?_) ?_
 ·refine (And.intro ?_ (And.intro ?_ (And.intro ?_ trivial)))
  ·exact Zd rfl (fun _ _ _ _ _ A1 => (Zt A1.live rfl ZJ Zk (A1.run.row (r1.up (l2.trans A1.le))) h_a.len (A1.same  rfl)))
  ·refine Zd rfl (fun _ _ _ _ _ A2 => ?_)
   obtain ⟨_, e1, rfl⟩ := A2.known 0 rfl
   exact Zp (A2.live.add e1) rfl Zap (YE A2.run.holds    (h_a.up (l1.trans (l2.trans A2.le))) ) fun v_1 _ _ x1 v1 => (A2.post x1.le (A2.run.call x1) v1)
  ·exact Zd rfl (fun _ _ _ _ _ A3 => (Zt A3.live rfl ZJ Zk (A3.run.row (r2.up A3.le)) h_b.len (A3.same  rfl)))
 ·intro S7 _ _ w7 l4 E1 R4 n1 L8 K1
  obtain ⟨_, e2, p1, len1, cap1, rfl, y1, z1, hg1, hd1⟩ := K1 1 (by decide)
  have L9 := L8.add e2; clear L8
  obtain ⟨_, e3, rfl⟩ := K1 2 (by decide)
  have L10 := L9.add e3; clear L9
  have R5 : Run _ _ S7 [] w7 := Yc R4 n1 [] (by simp) (by simp)
  refine so L10 rfl (Zp L10 rfl Zap (YE R5.holds    (h_b.up (l1.trans (l2.trans l4))) ) fun v_2 S8 _ x2 v2 => ?_)
  have R6 := R5.call x2; have l5 := x2.le
  obtain ⟨p2, len2, cap2, rfl, y2, z2, hg2, hd2⟩ := v2
  intro _ L11
  refine so L11 rfl (Zc L11 rfl fun _ L12 => (so L12 rfl (Zc L12 rfl fun _ L13 => ?_)))
  have L14 := (L13.kp [4, 5, 6] rfl); clear L13
  refine sn (wp_seq (wp_seq (Za (so L14 rfl (Zb L14 rfl ?_)))))
  intro _ L15
  refine so L15 rfl (ZO L15 rfl Tryz.underlying30 fun _ L16 => (so L16 rfl (Zb L16 rfl fun _ L17 => (so L17 rfl (ZO L17 rfl Tryz.underlying30 fun _ L18 => ?_)))))
  by_cases t1 : ¬ ((len1 : Nat) : Int) = ((len2 : Nat) : Int)
  ·refine so L18 rfl (Zf (b := true) (decide_eq_true t1) (fun _ k_ => Yj L18 rfl rfl k_) fun _ L19 => (sn (Zs L19 rfl rfl (wp_seq (wp_seq (Za (so L19 rfl (Zb L19 rfl fun _ L20 => (so L20 rfl (ZO L20 rfl Tryz.underlying30 fun _ L21 => (so L21 rfl (Zb L21 rfl fun _ L22 => ?_))))))))))))
   refine so L22 rfl (ZO L22 rfl Tryz.underlying30 fun _ L23 => ?_)
   by_cases t2 : ((len1 : Nat) : Int) < ((len2 : Nat) : Int)
   ·refine so L23 rfl (Zf (b := true) (decide_eq_true t2) (fun _ k_ => ZH L23 rfl rfl k_) fun _ L24 => ?_)
    have L25 := (L24.kp [4, 5, 6, 21] rfl); clear L24
    refine sn (Zs L25 rfl rfl (wp_seq (Za (so L25 rfl (Zc L25 rfl ?_)))))
    intro _ L26
    exact sn (wp_ret ((ZE (ZE (Zv (rs := Tryz.f133.results.toList) L26 rfl (.tmp rfl Res.nil) (⟨_, _, rfl, R6.ext, (by rw [cmpN_lt (Zbs (B := W64) (by decide) (by omega))]; rfl)⟩))))))
   ·refine so L23 rfl (Zf (b := false) (decide_eq_false t2) (fun _ k_ => ZH L23 rfl rfl k_) fun _ L27 => ?_)
    have L28 := (L27.kp [4, 5, 6, 21] rfl); clear L27
    refine sn (Zn L28 rfl rfl (wp_skip ((Ze (wp_seq (Za (so L28 rfl (Zc L28 rfl ?_))))))))
    intro _ L29
    exact sn (wp_ret ((ZE (Zv (rs := Tryz.f133.results.toList) L29 rfl (.tmp rfl Res.nil) (⟨_, _, rfl, R6.ext, (by rw [cmpN_gt (Zbs (B := W64) (by decide) (by omega))]; rfl)⟩)))))
  ·refine so L18 rfl (Zf (b := false) (decide_eq_false t1) (fun _ k_ => Yj L18 rfl rfl k_) fun _ L30 => (sn (Zn L30 rfl rfl (wp_skip ((Ze (wp_seq (wp_seq (Za (so L30 rfl (Zb L30 rfl fun _ L31 => (so L31 rfl (ZO L31 rfl Tryz.underlying30 fun _ L32 => (so L32 rfl (ZS (z := (((len1 : Nat) : Int) - (1 : Int))) L32 rfl rfl (IntWalk.i64_in _ (by omega)) fun _ L33 => ?_)))))))))))))))
   refine so L33 rfl (Zc L33 rfl fun a28 L34 => ?_)
   have L35 := (L34.kp [4, 5, 6, 7] rfl); clear L34
   refine sn (wp_block ?_)
   have e4 : ((((len1 : Nat) : Int) - (1 : Int)) : Int) = (((((ZQ W64 a).length) : Nat) : Int) - (1 : Int)) := by omega
   have L37 : Zz a28 49 [(7, (.int .i64 (((((ZQ W64 a).length) : Nat) : Int) - (1 : Int))))] := by have q := (L35.kp [7] rfl); rw [e4] at q; exact q
   refine ZZ (fun m ac ww => ∃ (S' : Sh) (k : Nat), S8.le S' ∧ Zz ac 49 [(4, (.int .i64 (0 : Int))), (5, (.slice p1 len1 cap1)), (6, (.slice p2 len2 cap2)), (7, (.int .i64 (((k : Nat) : Int) - (1 : Int))))] ∧ Run S w S' [] ww ∧ (k ≤ (ZQ W64 a).length) ∧ ((ZQ W64 a).drop k = (ZQ W64 b).drop k) ∧ m = k)
    (((ZQ W64 a).length)) ⟨S8, ((ZQ W64 a).length), Sh.le.refl _, (L35.keep (L35.keep (L35.keep (L37.keep (Zz.none _ L35) (t := 7) rfl) (t := 6) rfl) (t := 5) rfl) (t := 4) rfl), R6, (by omega), (by rw [List.drop_eq_nil_of_le (by omega), List.drop_eq_nil_of_le (by omega)]), rfl⟩ ?_
   rintro m_1 ac1 _ ⟨_, k, l6, L36, R7, hk, hd, m1⟩
   refine wp_seq (wp_seq (Za (so L36 rfl (Zb L36 rfl ?_))))
   intro _ L38
   by_cases t3 : (0 : Int) ≤ (((k : Nat) : Int) - (1 : Int))
   ·refine so L38 rfl (Zf (b := true) (decide_eq_true t3) (fun _ k_ => YA L38 rfl rfl k_) fun _ L39 => (sn (Zs L39 rfl rfl (wp_skip ((Ze (wp_seq (wp_block (wp_block (wp_seq ?_))))))))))
    obtain ⟨b3, rest_1, rfl, r3⟩ := (hd1.up (l5.trans l6)).row (by omega)
    obtain ⟨b4, rest_2, rfl, r4⟩ := (hd2.up l6).row (by omega)
    have L40 := (L39.kp [4, 5, 6, 7, 25, 26] rfl)
    refine Zy (E0 := []) (H0 := []) (n := 49) mixed 8 [] (fun k =>  0) (Zaf [
      .is (.slice (some ⟨b3, 0, none⟩) len1 cap1),
      .is (.int .i64 (((k : Nat) : Int) - (1 : Int))),
      .is (.pointer (some ⟨b3, (0 + ((k - 1))), none⟩)),
      .is (.int .u64 (((ZQ W64 a).getD ((k - 1)) 0 : Nat) : Int)),
      .is (.slice (some ⟨b4, 0, none⟩) len2 cap2),
      .is (.int .i64 (((k : Nat) : Int) - (1 : Int))),
      .is (.pointer (some ⟨b4, (0 + ((k - 1))), none⟩)),
      .is (.int .u64 (((ZQ W64 b).getD ((k - 1)) 0 : Nat) : Int))]) L40 R7 (by simp) (by simp) (by rfl) (by rfl) (by simp) (ZU ?_) ?_
    ·refine (And.intro ?_ (And.intro ?_ (And.intro ?_ (And.intro ?_ (And.intro ?_ (And.intro ?_ (And.intro ?_ (And.intro ?_ trivial))))))))
     ·exact Zd rfl (fun _ _ _ _ _ A4 => (Zb A4.live rfl (A4.same  rfl)))
     ·exact Zd rfl (fun _ _ _ _ _ A5 => (Zb A5.live rfl (A5.same  rfl)))
     ·refine Zd rfl (fun _ _ _ _ _ A6 => ?_)
      obtain ⟨_, e5, rfl⟩ := A6.known 0 rfl
      obtain ⟨_, e6, rfl⟩ := A6.known 1 rfl
      exact Zu ((k - 1)) ((A6.live.add e5).add e6) rfl rfl Tryz.underlying30 ZB (by omega) (by omega) (A6.same  rfl)
     ·refine Zd rfl (fun _ _ _ _ _ A7 => ?_)
      obtain ⟨_, e7, rfl⟩ := A7.known 2 rfl
      exact Zl (v := (.int .u64 (((ZQ W64 a).getD ((k - 1)) 0 : Nat) : Int))) (A7.live.add e7) rfl Yi (A7.run.row (r3.up A7.le)) (by rw [Nat.zero_add]; exact ZW (by omega)) (A7.same  rfl)
     ·exact Zd rfl (fun _ _ _ _ _ A8 => (Zb A8.live rfl (A8.same  rfl)))
     ·exact Zd rfl (fun _ _ _ _ _ A9 => (Zb A9.live rfl (A9.same  rfl)))
     ·refine Zd rfl (fun _ _ _ _ _ A10 => ?_)
      obtain ⟨_, e8, rfl⟩ := A10.known 4 rfl
      obtain ⟨_, e9, rfl⟩ := A10.known 5 rfl
      exact Zu ((k - 1)) ((A10.live.add e8).add e9) rfl rfl Tryz.underlying30 ZB (by omega) (by omega) (A10.same  rfl)
     ·refine Zd rfl (fun _ _ _ _ _ A11 => ?_)
      obtain ⟨_, e10, rfl⟩ := A11.known 6 rfl
      exact Zl (v := (.int .u64 (((ZQ W64 b).getD ((k - 1)) 0 : Nat) : Int))) (A11.live.add e10) rfl Yi (A11.run.row (r4.up A11.le)) (by rw [Nat.zero_add]; exact ZW (by omega)) (A11.same  rfl)
    ·intro S18 _ _ w18 l7 E2 R8 n2 L49 K2
     obtain ⟨_, e11, rfl⟩ := K2 0 (by decide)
     have L50 := L49.add e11; clear L49
     obtain ⟨_, e12, rfl⟩ := K2 1 (by decide)
     have L51 := L50.add e12; clear L50
     obtain ⟨_, e13, rfl⟩ := K2 2 (by decide)
     have L52 := L51.add e13; clear L51
     obtain ⟨_, e14, rfl⟩ := K2 3 (by decide)
     have L53 := L52.add e14; clear L52
     obtain ⟨_, e15, rfl⟩ := K2 4 (by decide)
     have L54 := L53.add e15; clear L53
     obtain ⟨_, e16, rfl⟩ := K2 5 (by decide)
     have L55 := L54.add e16; clear L54
     obtain ⟨_, e17, rfl⟩ := K2 6 (by decide)
     have L56 := L55.add e17; clear L55
     obtain ⟨_, e18, rfl⟩ := K2 7 (by decide)
     have L57 := L56.add e18; clear L56
     have R9 : Run _ _ S18 [] w18 := Yc R8 n2 [] (by simp) (by simp)
     by_cases t4 : (((ZQ W64 a).getD ((k - 1)) 0 : Nat) : Int) < (((ZQ W64 b).getD ((k - 1)) 0 : Nat) : Int)
     ·exact so L57 rfl (Zf (b := true) (decide_eq_true t4) (fun _ k_ => ZH L57 rfl rfl k_) fun _ L58 => (so L58 rfl (Zc L58 rfl fun _ L59 => (sn (Zs L59 rfl rfl (wp_seq (Za (so L59 rfl (Zc L59 rfl fun _ L60 => (sn (wp_ret ((Yx (Yx (ZE (ZE (Yx (ZE (Zv (rs := Tryz.f133.results.toList) L60 rfl (.tmp rfl Res.nil) (⟨_, _, rfl, R9.ext, (by rw [cmpN_lt (digs_top_lt (B := W64) (n := k - 1) (by decide) (by omega) (by omega) (by rw [show k - 1 + 1 = k by omega]; first | exact hd | exact hd.symm) (by omega))]; rfl)⟩))))))))))))))))))))
     ·refine so L57 rfl (Zf (b := false) (decide_eq_false t4) (fun _ k_ => ZH L57 rfl rfl k_) fun _ L61 => (so L61 rfl (Zc L61 rfl fun _ L62 => (sn (Zn L62 rfl rfl (wp_seq ?_))))))
      have L63 := (L62.kp [4, 5, 6, 7, 25, 26, 30, 31, 32, 33, 34, 35, 36, 37, 38, 29] rfl)
      refine Zy (E0 := []) (H0 := []) (n := 49) mixed 8 [] (fun k =>  0) (Zaf [
        .is (.slice (some ⟨b3, 0, none⟩) len1 cap1),
        .is (.int .i64 (((k : Nat) : Int) - (1 : Int))),
        .is (.pointer (some ⟨b3, (0 + ((k - 1))), none⟩)),
        .is (.int .u64 (((ZQ W64 a).getD ((k - 1)) 0 : Nat) : Int)),
        .is (.slice (some ⟨b4, 0, none⟩) len2 cap2),
        .is (.int .i64 (((k : Nat) : Int) - (1 : Int))),
        .is (.pointer (some ⟨b4, (0 + ((k - 1))), none⟩)),
        .is (.int .u64 (((ZQ W64 b).getD ((k - 1)) 0 : Nat) : Int))]) L63 R9 (by simp) (by simp) (by rfl) (by rfl) (by simp) (ZU ?_) ?_
      ·refine (And.intro ?_ (And.intro ?_ (And.intro ?_ (And.intro ?_ (And.intro ?_ (And.intro ?_ (And.intro ?_ (And.intro ?_ trivial))))))))
       ·exact Zd rfl (fun _ _ _ _ _ A12 => (Zb A12.live rfl (A12.same  rfl)))
       ·exact Zd rfl (fun _ _ _ _ _ A13 => (Zb A13.live rfl (A13.same  rfl)))
       ·refine Zd rfl (fun _ _ _ _ _ A14 => ?_)
        obtain ⟨_, e19, rfl⟩ := A14.known 0 rfl
        obtain ⟨_, e20, rfl⟩ := A14.known 1 rfl
        exact Zu ((k - 1)) ((A14.live.add e19).add e20) rfl rfl Tryz.underlying30 ZB (by omega) (by omega) (A14.same  rfl)
       ·refine Zd rfl (fun _ _ _ _ _ A15 => ?_)
        obtain ⟨_, e21, rfl⟩ := A15.known 2 rfl
        exact Zl (v := (.int .u64 (((ZQ W64 a).getD ((k - 1)) 0 : Nat) : Int))) (A15.live.add e21) rfl Yi (A15.run.row (r3.up (l7.trans A15.le))) (by rw [Nat.zero_add]; exact ZW (by omega)) (A15.same  rfl)
       ·exact Zd rfl (fun _ _ _ _ _ A16 => (Zb A16.live rfl (A16.same  rfl)))
       ·exact Zd rfl (fun _ _ _ _ _ A17 => (Zb A17.live rfl (A17.same  rfl)))
       ·refine Zd rfl (fun _ _ _ _ _ A18 => ?_)
        obtain ⟨_, e22, rfl⟩ := A18.known 4 rfl
        obtain ⟨_, e23, rfl⟩ := A18.known 5 rfl
        exact Zu ((k - 1)) ((A18.live.add e22).add e23) rfl rfl Tryz.underlying30 ZB (by omega) (by omega) (A18.same  rfl)
       ·refine Zd rfl (fun _ _ _ _ _ A19 => ?_)
        obtain ⟨_, e24, rfl⟩ := A19.known 6 rfl
        exact Zl (v := (.int .u64 (((ZQ W64 b).getD ((k - 1)) 0 : Nat) : Int))) (A19.live.add e24) rfl Yi (A19.run.row (r4.up (l7.trans A19.le))) (by rw [Nat.zero_add]; exact ZW (by omega)) (A19.same  rfl)
      ·intro S27 _ _ w27 l8 E3 R10 n3 L72 K3
       obtain ⟨_, e25, rfl⟩ := K3 0 (by decide)
       have L73 := L72.add e25; clear L72
       obtain ⟨_, e26, rfl⟩ := K3 1 (by decide)
       have L74 := L73.add e26; clear L73
       obtain ⟨_, e27, rfl⟩ := K3 2 (by decide)
       have L75 := L74.add e27; clear L74
       obtain ⟨_, e28, rfl⟩ := K3 3 (by decide)
       have L76 := L75.add e28; clear L75
       obtain ⟨_, e29, rfl⟩ := K3 4 (by decide)
       have L77 := L76.add e29; clear L76
       obtain ⟨_, e30, rfl⟩ := K3 5 (by decide)
       have L78 := L77.add e30; clear L77
       obtain ⟨_, e31, rfl⟩ := K3 6 (by decide)
       have L79 := L78.add e31; clear L78
       obtain ⟨_, e32, rfl⟩ := K3 7 (by decide)
       have L80 := L79.add e32; clear L79
       have R11 : Run _ _ S27 [] w27 := Yc R10 n3 [] (by simp) (by simp)
       by_cases t5 : (((ZQ W64 b).getD ((k - 1)) 0 : Nat) : Int) < (((ZQ W64 a).getD ((k - 1)) 0 : Nat) : Int)
       ·exact so L80 rfl (Zf (b := true) (decide_eq_true t5) (fun _ k_ => ZP L80 rfl rfl k_) fun _ L81 => (so L81 rfl (Zc L81 rfl fun _ L82 => (sn (Zs L82 rfl rfl (wp_seq (Za (so L82 rfl (Zc L82 rfl fun _ L83 => (sn (wp_ret ((Yx (Yx (ZE (ZE (Yx (ZE (Zv (rs := Tryz.f133.results.toList) L83 rfl (.tmp rfl Res.nil) (⟨_, _, rfl, R11.ext, (by rw [cmpN_gt (digs_top_lt (B := W64) (n := k - 1) (by decide) (by omega) (by omega) (by rw [show k - 1 + 1 = k by omega]; first | exact hd | exact hd.symm) (by omega))]; rfl)⟩))))))))))))))))))))
       ·refine so L80 rfl (Zf (b := false) (decide_eq_false t5) (fun _ k_ => ZP L80 rfl rfl k_) fun _ L84 => (so L84 rfl (Zc L84 rfl fun _ L85 => (sn (Zn L85 rfl rfl (wp_skip ((ZI (ZI (Ze (Za (so L85 rfl (Zb L85 rfl fun _ L86 => (so L86 rfl (ZS (z := ((((k : Nat) : Int) - (1 : Int)) - (1 : Int))) L86 rfl rfl (IntWalk.i64_in _ (by omega)) fun _ L87 => (so L87 rfl (Zc L87 rfl fun a61 L88 => ?_)))))))))))))))))
        refine sn ?_
        have e33 : (((((k : Nat) : Int) - (1 : Int)) - (1 : Int)) : Int) = ((((k - 1) : Nat) : Int) - (1 : Int)) := by omega
        have L89 : Zz a61 49 [(7, (.int .i64 ((((k - 1) : Nat) : Int) - (1 : Int))))] := by have q := (L88.kp [7] rfl); rw [e33] at q; exact q
        exact ⟨(k - 1), (by omega), S27, (k - 1), (l6.trans (l7.trans l8)), (L88.keep (L88.keep (L88.keep (L89.keep (Zz.none _ L88) (t := 7) rfl) (t := 6) rfl) (t := 5) rfl) (t := 4) rfl), R11, (by omega), (by exact drop_step (by omega) (by omega) (by rw [show k - 1 + 1 = k by omega]; exact hd) (by omega)), rfl⟩
   ·exact so L38 rfl (Zf (b := false) (decide_eq_false t3) (fun _ k_ => YA L38 rfl rfl k_) fun _ L90 => (sn (Zn L90 rfl rfl (wp_exit ((ZA (ZA (YB (Ze (wp_seq (Za (so L90 rfl (Zc L90 rfl fun _ L91 => (sn (wp_ret ((Zv (rs := Tryz.f133.results.toList) (L91.kp [4] rfl) rfl (.tmp rfl Res.nil) (⟨_, _, rfl, R7.ext, (by rw [cmpN_eq (digs_inj (B := W64) (by decide) (by rw [show k = 0 by omega] at hd; exact hd))]; rfl)⟩))))))))))))))))))
set_option maxRecDepth 20000 in
theorem nat_Add {S : Sh} {w : World} (hS : Yw S w) {c_a : List Value} {a : Nat} {k_a : Nat} (h_a : Na S c_a (a) (k_a)) {c_b : List Value} {b : Nat} {k_b : Nat} (h_b : Na S c_b (b) (k_b)) (hlim : k_a ≤ 1099511627776) (hlim2 : k_b ≤ 1099511627776) : Calls Tryz.prog 137 [(.agg (c_a : List Value).toArray), (.agg (c_b : List Value).toArray)].toArray w (Ret S w (fun S v => ∃ (c0 : List Value), v = .agg c0.toArray ∧ Na S c0 (a + b) (k_a + k_b + 1))) := by
 refine ZT (n := 86) Tryz.func137 rfl rfl ?_
 intro ac0 L0
 replace L0 : Zz ac0 86 [(0, (.agg (c_a : List Value).toArray)), (1, (.agg (c_b : List Value).toArray))] := L0
 have R0 : Run S w S [] w := .start hS
 have hla := Xc h_a.1; have hlb := Xc h_b.1
 refine wp_seq (Za (so L0 rfl (Yq (cs := c_a) L0 rfl R0 rfl ?_)))
 intro b1 _ _ l1 r1 R1 _ L1
 refine so L1 rfl (Yq (cs := c_b) L1 rfl R1 rfl fun b2 S2 _ l2 r2 R2 _ L2 => (so L2 rfl (ZM (cs := zN1) ZN R2 rfl fun b3 _ R3 _ L3 => (sn (wp_scope_straight ?_)))))
 refine XG (fun ac ww => ∃ (S' : Sh) , S2.le S' ∧ Zz ac 86 [(2, (.pointer (some ⟨b1, 0, none⟩))), (3, (.pointer (some ⟨b2, 0, none⟩))), (4, (.pointer (some ⟨b3, 0, none⟩)))] ∧ Run S w S' [(b3, 32, zN1)] ww) ?_ ?_
 ·rintro ac1 _ ⟨_, l3, L4, R4⟩
  refine wp_seq ?_
  have L5 := (L4.kp [2, 3, 4] rfl)
  refine Zy (E0 := []) (H0 := [(b3, 32, zN1)]) (n := 86) mixed 3 [] (fun k =>  0) (Zaf [
    .is (.agg (c_a : List Value).toArray),
    .sat (fun S v => ∃ (p0 : Option Addr) (len0 : Nat) (cap0 : Nat), v = .slice p0 len0 cap0 ∧ (ZQ W64 a).length = len0 ∧ len0 ≤ cap0 ∧ len0 ≤ 281474976710656 ∧ Dg S p0 len0 cap0 (ZQ W64 a)) (fun _ _ _ l ⟨p0, n0, m0, e, g0, f0, j0, h0⟩ => ⟨p0, n0, m0, e, g0, f0, j0, h0.up l⟩),
    .is (.agg (c_b : List Value).toArray)]) L5 R4 (by simp) (by simp) (by rfl) (by rfl) (by simp) (ZU ?_) ?_
  ·refine (And.intro ?_ (And.intro ?_ (And.intro ?_ trivial)))
   ·exact Zd rfl (fun _ _ _ _ _ A1 => (Zt A1.live rfl ZJ Zk (A1.run.row (r1.up (l2.trans (l3.trans A1.le)))) h_a.len (A1.same  rfl)))
   ·refine Zd rfl (fun _ _ _ _ _ A2 => ?_)
    obtain ⟨_, e1, rfl⟩ := A2.known 0 rfl
    exact Zp (A2.live.add e1) rfl Zap (YE A2.run.holds    (h_a.up (l1.trans (l2.trans (l3.trans A2.le)))) ) fun v_1 _ _ x1 v1 => (A2.post x1.le (A2.run.call x1) v1)
   ·exact Zd rfl (fun _ _ _ _ _ A3 => (Zt A3.live rfl ZJ Zk (A3.run.row (r2.up (l3.trans A3.le))) h_b.len (A3.same  rfl)))
  ·intro S8 _ _ w9 l5 E1 R6 n1 L9 K1
   obtain ⟨_, e2, p1, len1, cap1, rfl, y1, z1, hg1, hd1⟩ := K1 1 (by decide)
   have L10 := L9.add e2; clear L9
   obtain ⟨_, e3, rfl⟩ := K1 2 (by decide)
   have L11 := L10.add e3; clear L10
   have R7 : Run _ _ S8 [(b3, 32, zN1)] w9 := Yc R6 n1 [] (by simp) (by simp)
   refine so L11 rfl (Zp L11 rfl Zap (YE R7.holds    (h_b.up (l1.trans (l2.trans (l3.trans l5)))) ) fun v_2 S9 _ x2 v2 => ?_)
   have R8 := R7.call x2; have l6 := x2.le
   obtain ⟨p2, len2, cap2, rfl, y2, z2, hg2, hd2⟩ := v2
   intro _ L12
   refine so L12 rfl (Zc L12 rfl fun _ L13 => (so L13 rfl (Zc L13 rfl fun _ L14 => ?_)))
   have L15 := (L14.kp [4, 7, 8] rfl); clear L14
   refine sn ?_
   refine XG (fun ac ww => ∃ (S' : Sh) (p_x : Option Addr) (len_x : Nat) (cap_x : Nat) (x : List Nat) (p_y : Option Addr) (len_y : Nat) (cap_y : Nat) (y : List Nat), S9.le S' ∧ Zz ac 86 [(4, (.pointer (some ⟨b3, 0, none⟩))), (7, (.slice p_x len_x cap_x)), (8, (.slice p_y len_y cap_y))] ∧ Run S w S' [(b3, 32, zN1)] ww ∧ (Dg S' p_x len_x cap_x x) ∧ (Dg S' p_y len_y cap_y y) ∧ (val W64 x + val W64 y = a + b) ∧ (len_y ≤ len_x) ∧ (len_x ≤ 17179869185)) ?_ ?_
   ·rintro ac2 _ ⟨S10, p_x, len_x, cap_x, x, p_y, len_y, cap_y, y, l7, L16, R9, hd_x, hd_y, hxy, hyx, hxk⟩
    have hl_x := hd_x.hlen; have hc_x := hd_x.hcap; have hg_x := hd_x.hbig
    have hl_y := hd_y.hlen; have hc_y := hd_y.hcap; have hg_y := hd_y.hbig
    refine wp_seq (Za (so L16 rfl (Zb L16 rfl ?_)))
    intro _ L17
    refine so L17 rfl (ZO L17 rfl Tryz.underlying30 fun _ L18 => (so L18 rfl (ZK (z := (((len_x : Nat) : Int) + (1 : Int))) L18 rfl rfl (IntWalk.i64_in _ (by omega)) fun _ L19 => (so L19 rfl (YV (m := (len_x + 1)) (c := (len_x + 1)) L19 (by first | rfl | (simp [ev, QC]; omega)) (by first | rfl | (simp [ev, QC]; omega)) Tryz.underlying30 Xv rfl ZB XY (by omega) (by omega) (by omega) R9 fun b4 _ R10 _ L20 => ?_)))))
    rw [Zat] at R10
    refine so L20 rfl (Zc L20 rfl fun _ L21 => (sn (wp_seq (Za (so L21 rfl (Zb L21 rfl fun _ L22 => (so L22 rfl (Zb L22 rfl fun _ L23 => (so L23 rfl (does_copyDg (m := ((len_x + 1))) (us := (List.replicate ((len_x + 1)) 0)) L23 rfl rfl Tryz.underlying30 ZB R10 hd_x (by simp) (by omega) fun _ R11 _ L24 => ?_))))))))))
    have L25 := (L24.kp [4, 8, 9] rfl); clear L24
    refine sn (wp_seq (Za (so L25 rfl (Zc L25 rfl ?_))))
    intro _ L26
    refine sn (wp_seq (wp_label ((Ze (wp_seq (wp_seq (Za (so L26 rfl (Zb L26 rfl ?_)))))))))
    intro _ L27
    refine so L27 rfl (ZO L27 rfl Tryz.underlying30 fun _ L28 => (so L28 rfl (Zb L28 rfl fun a22 L29 => (sn (wp_block ?_)))))
    have hxl := hd_x.hlt; have hyl := hd_y.hlt
    have hst : Zbk x y (x ++ (List.replicate ((len_x + 1)) 0).drop len_x) 0 0 := by rw [show (x ++ (List.replicate ((len_x + 1)) 0).drop len_x) = x ++ [0] from by rw [List.drop_replicate, show len_x + 1 - len_x = 1 by omega]; rfl]; exact Zbk.start hxl
    have e4 : ((0 : Int) : Int) = ((0 : Nat) : Int) := by omega
    have L31 : Zz a22 86 [(10, (.int .u64 ((0 : Nat) : Int)))] := by have q := (L29.kp [10] rfl); rw [e4] at q; exact q
    have e5 : ((0 : Int) : Int) = ((0 : Nat) : Int) := by omega
    have L32 : Zz a22 86 [(57, (.int .i64 ((0 : Nat) : Int)))] := by have q := (L29.kp [57] rfl); rw [e5] at q; exact q
    refine ZZ (fun m ac ww => ∃ (S' : Sh) (us : List Nat) (i : Nat) (c : Nat), S10.le S' ∧ Zz ac 86 [(4, (.pointer (some ⟨b3, 0, none⟩))), (8, (.slice p_y len_y cap_y)), (9, (.slice (some ⟨b4, 0, none⟩) ((len_x + 1)) ((len_x + 1)))), (10, (.int .u64 ((c : Nat) : Int))), (56, (.int .i64 ((((len_x + 1)) : Nat) : Int))), (57, (.int .i64 ((i : Nat) : Int)))] ∧ Run S w S' [(b4, 29, (Yl us ++ [])), (b3, 32, zN1)] ww ∧ (Zbk x y us i c) ∧ m = (x).length + 1 - i)
     ((x).length + 1 - 0) ⟨S10, (x ++ (List.replicate ((len_x + 1)) 0).drop len_x), 0, 0, Sh.le.refl _, (L29.keep (L29.keep (L29.keep (L31.keep (L29.keep (L32.keep (Zz.none _ L29) (t := 57) rfl) (t := 56) rfl) (t := 10) rfl) (t := 9) rfl) (t := 8) rfl) (t := 4) rfl), (ZX (ZX R11)), (by exact hst), rfl⟩ ?_
    rintro m_1 ac3 _ ⟨S11, us, i, c, l8, L30, R12, hI, m1⟩
    refine wp_seq (Za ?_)
    have hIl := hI.len; have hIe := hI.le; have hIc := hI.c1
    by_cases t1 : ((i : Nat) : Int) < ((((len_x + 1)) : Nat) : Int)
    ·have hIl := hI.len; have hIe := hI.le; have hIc := hI.c1
     refine so L30 rfl (Zf (b := true) (decide_eq_true t1) (fun _ k_ => ZH L30 rfl rfl k_) fun _ L33 => (sn (wp_seq (Zs L33 rfl rfl (wp_skip ((Ze (wp_seq (wp_block (wp_seq (Za (so L33 rfl (Zb L33 rfl fun _ L34 => (so L34 rfl (Zc L34 rfl fun _ L35 => ?_)))))))))))))))
     refine sn (wp_seq (Za (so L35 rfl (Zc L35 rfl ?_))))
     intro _ L36
     refine sn (wp_seq (wp_seq (Za (so L36 rfl (Zb L36 rfl ?_)))))
     intro _ L37
     refine so L37 rfl (Zb L37 rfl fun _ L38 => (so L38 rfl (ZO L38 rfl Tryz.underlying30 fun _ L39 => ?_)))
     by_cases t2 : ((i : Nat) : Int) < ((len_y : Nat) : Int)
     ·refine so L39 rfl (Zf (b := true) (decide_eq_true t2) (fun _ k_ => ZH L39 rfl rfl k_) fun _ L40 => (sn (Zs L40 rfl rfl (Za (so L40 rfl (Zb L40 rfl fun _ L41 => (so L41 rfl (Zb L41 rfl fun _ L42 => ?_))))))))
      obtain ⟨b5, rest_1, rfl, r3⟩ := (hd_y.up l8).row (by omega)
      refine so L42 rfl (Zu (i) L42 rfl rfl Tryz.underlying30 ZB (by omega) (by omega) fun _ L43 => (so L43 rfl (Zl (v := (.int .u64 ((y.getD (i) 0 : Nat) : Int))) L43 rfl Yi (R12.row r3) (by rw [Nat.zero_add]; exact ZW (by omega)) fun _ L44 => (so L44 rfl (Zc L44 rfl fun _ L45 => (sn (Za (so L45 rfl (Zb L45 rfl fun _ L46 => (so L46 rfl (Zb L46 rfl fun _ L47 => (so L47 rfl (Zb L47 rfl fun _ L48 => ?_)))))))))))))
      refine so L48 rfl (Zb L48 rfl fun _ L49 => (so L49 rfl (Zu (i) L49 rfl rfl Tryz.underlying30 ZB (by omega) (by omega) fun _ L50 => (so L50 rfl (Zl (v := (.int .u64 ((us.getD (i) 0 : Nat) : Int))) L50 rfl Yi (R12.has (List.Mem.head _)) (by rw [Nat.zero_add]; exact ZW (by omega)) fun _ L51 => (so L51 rfl (Zb L51 rfl fun _ L52 => (so L52 rfl (Zb L52 rfl fun _ L53 => (so L53 rfl (Yv (x := (us.getD (i) 0)) (y := (y.getD (i) 0)) (c := c) L53 rfl (by omega) fun _ L54 => (so L54 rfl (Zb L54 rfl fun _ L55 => ?_)))))))))))))
      refine so L55 rfl (Zh L55 rfl rfl fun _ L56 => (so L56 rfl (Zh L56 rfl rfl fun _ L57 => (so L57 rfl (Zu (i) L57 rfl rfl Tryz.underlying30 ZB (by omega) (by omega) fun _ L58 => (Zx L58 rfl rfl (Yh (cs' := (Yl (us.set (i) ((((us.getD (i) 0) + (y.getD (i) 0) + c) % 18446744073709551616))) ++ [])) L58 rfl rfl R12 ZB rfl (by simp only [List.length_append, ZG]; omega) (by rw [Nat.zero_add]; exact YC (by omega)) fun _ R13 _ L59 => (so L59 rfl (Zc L59 rfl fun _ L60 => (Yr ((ZI (Ze (Za (so L60 rfl (ZK (z := (((i : Nat) : Int) + (1 : Int))) L60 rfl rfl (IntWalk.i64_in _ (by omega)) fun _ L61 => ?_))))))))))))))))
      refine so L61 rfl (Zb L61 rfl fun a52 L62 => (sn ?_))
      have e6 : (((((us.getD (i) 0) + (y.getD (i) 0) + c) / 18446744073709551616 : Nat) : Int) : Int) = (((((us.getD (i) 0) + (y.getD (i) 0) + c) / 18446744073709551616) : Nat) : Int) := by omega
      have L63 : Zz a52 86 [(10, (.int .u64 (((((us.getD (i) 0) + (y.getD (i) 0) + c) / 18446744073709551616) : Nat) : Int)))] := by have q := (L62.kp [10] rfl); rw [e6] at q; exact q
      have e7 : ((((i : Nat) : Int) + (1 : Int)) : Int) = (((i + 1) : Nat) : Int) := by omega
      have L64 : Zz a52 86 [(57, (.int .i64 (((i + 1) : Nat) : Int)))] := by have q := (L62.kp [57] rfl); rw [e7] at q; exact q
      exact ⟨(x).length + 1 - (i + 1), (by omega), S11, (us.set (i) ((((us.getD (i) 0) + (y.getD (i) 0) + c) % 18446744073709551616))), (i + 1), (((us.getD (i) 0) + (y.getD (i) 0) + c) / 18446744073709551616), l8, (L62.keep (L62.keep (L62.keep (L63.keep (L62.keep (L64.keep (Zz.none _ L62) (t := 57) rfl) (t := 56) rfl) (t := 10) rfl) (t := 9) rfl) (t := 8) rfl) (t := 4) rfl), (ZX (ZX R13)), (by first | exact hI.step hyl (by omega) | (have q := hI.step hyl (by omega); rw [Zbc (y := y) (i := i) (by omega)] at q; exact q)), rfl⟩
     ·refine so L39 rfl (Zf (b := false) (decide_eq_false t2) (fun _ k_ => ZH L39 rfl rfl k_) fun _ L65 => (sn (Zn L65 rfl rfl (wp_seq (Za (so L65 rfl (Zb L65 rfl fun _ L66 => ?_)))))))
      by_cases t3 : ((c : Nat) : Int) = (0 : Int)
      ·refine so L66 rfl (Zf (b := true) (decide_eq_true t3) (fun _ k_ => ZY L66 rfl rfl k_) fun _ L67 => (sn (Zs L67 rfl rfl (wp_exit ((ZA (in_miss rfl (ZA (ZA (YB (Ze (wp_seq (Za (so L67 rfl (Zb L67 rfl fun _ L68 => ?_)))))))))))))))
       obtain ⟨S12, l9, r4, R14⟩ := (R12).freeze
       have hd3 : Dg S12 (some ⟨b4, 0, none⟩) ((len_x + 1)) ((len_x + 1)) us := ⟨by first | rfl | omega, by omega, by omega, hI.lt, fun _ => ⟨_, _, rfl, r4⟩⟩
       refine so L68 rfl (Zp L68 rfl QV (QS R14.holds  (k := (k_a + k_b + 1))  hd3 (by rw [hI.done hxl hyl (by omega) (by omega), hxy]; exact sum_pow h_a.1 h_b.1)) fun v_3 _ _ x3 v3 => ?_)
       have R15 := R14.call x3
       obtain ⟨cs_1, rfl, h1⟩ := v3
       intro _ L69
       exact Zx L69 rfl rfl (Zi L69 rfl rfl R15 Zk h1.len rfl h1.ones fun _ R16 _ L70 => (sn (wp_ret ((XH (Zv (rs := Tryz.f137.results.toList) (L70.kp [4] rfl) rfl (Res.aggW rfl ZJ Zk (R16.has (List.Mem.head _)) h1.len Res.nil) (⟨_, _, rfl, R16.ext, ⟨_, rfl, (h1.to (by rw [hI.done hxl hyl (by omega) (by omega)]; exact hxy) (by omega))⟩⟩)))))))
      ·refine so L66 rfl (Zf (b := false) (decide_eq_false t3) (fun _ k_ => ZY L66 rfl rfl k_) fun _ L72 => (sn (Zn L72 rfl rfl (wp_skip ((Ze (Za (so L72 rfl (Zb L72 rfl fun _ L73 => (so L73 rfl (Zb L73 rfl fun _ L74 => (so L74 rfl (Zb L74 rfl fun _ L75 => (so L75 rfl (Zb L75 rfl fun _ L76 => ?_)))))))))))))))
       refine so L76 rfl (Zu (i) L76 rfl rfl Tryz.underlying30 ZB (by omega) (by omega) fun _ L77 => (so L77 rfl (Zl (v := (.int .u64 ((us.getD (i) 0 : Nat) : Int))) L77 rfl Yi (R12.has (List.Mem.head _)) (by rw [Nat.zero_add]; exact ZW (by omega)) fun _ L78 => (so L78 rfl (Zb L78 rfl fun _ L79 => (so L79 rfl (Zb L79 rfl fun _ L80 => (so L80 rfl (Yv (x := (us.getD (i) 0)) (y := 0) (c := c) L80 rfl (by omega) fun _ L81 => (so L81 rfl (Zb L81 rfl fun _ L82 => (so L82 rfl (Zh L82 rfl rfl fun _ L83 => ?_)))))))))))))
       refine so L83 rfl (Zh L83 rfl rfl fun _ L84 => (so L84 rfl (Zu (i) L84 rfl rfl Tryz.underlying30 ZB (by omega) (by omega) fun _ L85 => (Zx L85 rfl rfl (Yh (cs' := (Yl (us.set (i) ((((us.getD (i) 0) + 0 + c) % 18446744073709551616))) ++ [])) L85 rfl rfl R12 ZB rfl (by simp only [List.length_append, ZG]; omega) (by rw [Nat.zero_add]; exact YC (by omega)) fun _ R17 _ L86 => (so L86 rfl (Zc L86 rfl fun _ L87 => (Yr ((ZI (Ze (Za (so L87 rfl (ZK (z := (((i : Nat) : Int) + (1 : Int))) L87 rfl rfl (IntWalk.i64_in _ (by omega)) fun _ L88 => (so L88 rfl (Zb L88 rfl fun a76 L89 => ?_))))))))))))))))
       refine sn ?_
       have e8 : (((((us.getD (i) 0) + 0 + c) / 18446744073709551616 : Nat) : Int) : Int) = (((((us.getD (i) 0) + 0 + c) / 18446744073709551616) : Nat) : Int) := by omega
       have L90 : Zz a76 86 [(10, (.int .u64 (((((us.getD (i) 0) + 0 + c) / 18446744073709551616) : Nat) : Int)))] := by have q := (L89.kp [10] rfl); rw [e8] at q; exact q
       have e9 : ((((i : Nat) : Int) + (1 : Int)) : Int) = (((i + 1) : Nat) : Int) := by omega
       have L91 : Zz a76 86 [(57, (.int .i64 (((i + 1) : Nat) : Int)))] := by have q := (L89.kp [57] rfl); rw [e9] at q; exact q
       exact ⟨(x).length + 1 - (i + 1), (by omega), S11, (us.set (i) ((((us.getD (i) 0) + 0 + c) % 18446744073709551616))), (i + 1), (((us.getD (i) 0) + 0 + c) / 18446744073709551616), l8, (L89.keep (L89.keep (L89.keep (L90.keep (L89.keep (L91.keep (Zz.none _ L89) (t := 57) rfl) (t := 56) rfl) (t := 10) rfl) (t := 9) rfl) (t := 8) rfl) (t := 4) rfl), (ZX (ZX R17)), (by first | exact hI.step hyl (by omega) | (have q := hI.step hyl (by omega); rw [Zbc (y := y) (i := i) (by omega)] at q; exact q)), rfl⟩
    ·have hIl := hI.len; have hIe := hI.le; have hIc := hI.c1
     refine so L30 rfl (Zf (b := false) (decide_eq_false t1) (fun _ k_ => ZH L30 rfl rfl k_) fun _ L92 => (sn (wp_seq (Zn L92 rfl rfl (wp_exit ((ZA (ZA (YB (Ze (wp_seq (Za (so L92 rfl (Zb L92 rfl fun _ L93 => ?_))))))))))))))
     obtain ⟨S14, l11, r5, R18⟩ := (R12).freeze
     have hd4 : Dg S14 (some ⟨b4, 0, none⟩) ((len_x + 1)) ((len_x + 1)) us := ⟨by first | rfl | omega, by omega, by omega, hI.lt, fun _ => ⟨_, _, rfl, r5⟩⟩
     refine so L93 rfl (Zp L93 rfl QV (QS R18.holds  (k := (k_a + k_b + 1))  hd4 (by rw [hI.done hxl hyl (by omega) (by omega), hxy]; exact sum_pow h_a.1 h_b.1)) fun v_4 _ _ x4 v4 => ?_)
     have R19 := R18.call x4
     obtain ⟨c2, rfl, h2⟩ := v4
     intro _ L94
     exact Zx L94 rfl rfl (Zi L94 rfl rfl R19 Zk h2.len rfl h2.ones fun _ R20 _ L95 => (sn (wp_ret ((XH (Zv (rs := Tryz.f137.results.toList) (L95.kp [4] rfl) rfl (Res.aggW rfl ZJ Zk (R20.has (List.Mem.head _)) h2.len Res.nil) (⟨_, _, rfl, R20.ext, ⟨_, rfl, (h2.to (by rw [hI.done hxl hyl (by omega) (by omega)]; exact hxy) (by omega))⟩⟩)))))))
   ·skip
    refine wp_seq (Za (so L15 rfl (Zb L15 rfl ?_)))
    intro _ L97
    refine so L97 rfl (ZO L97 rfl Tryz.underlying30 fun _ L98 => (so L98 rfl (Zb L98 rfl fun _ L99 => (so L99 rfl (ZO L99 rfl Tryz.underlying30 fun _ L100 => ?_)))))
    by_cases t4 : ((len1 : Nat) : Int) < ((len2 : Nat) : Int)
    ·refine so L100 rfl (Zf (b := true) (decide_eq_true t4) (fun _ k_ => ZH L100 rfl rfl k_) fun _ L101 => (sn (Zs L101 rfl rfl (Za (so L101 rfl (Zb L101 rfl fun _ L102 => (so L102 rfl (Zb L102 rfl fun _ L103 => (so L103 rfl (Zc L103 rfl fun _ L104 => (so L104 rfl (Zc L104 rfl fun _ L105 => ?_))))))))))))
     exact sn (⟨S9, p2, len2, cap2, (ZQ W64 b), p1, len1, cap1, (ZQ W64 a), Sh.le.refl _, ((L105.kp [4, 7, 8] rfl).kp [8, 7, 4] rfl), R8, (by exact hd2), (by exact (hd1.up l6)), (by simp only [Yk (show 2 ≤ W64 by decide)]; try omega), (by omega), (by omega)⟩)
    ·exact so L100 rfl (Zf (b := false) (decide_eq_false t4) (fun _ k_ => ZH L100 rfl rfl k_) fun _ L107 => (sn (Zn L107 rfl rfl (wp_skip ((Ze (⟨S9, p1, len1, cap1, (ZQ W64 a), p2, len2, cap2, (ZQ W64 b), Sh.le.refl _, (L107.kp [8, 7, 4] rfl), R8, (by exact (hd1.up l6)), (by exact hd2), (by simp only [Yk (show 2 ≤ W64 by decide)]; try omega), (by omega), (by omega)⟩)))))))
 ·skip
  obtain ⟨hb_a, ⟨hs_a, rfl⟩ | ⟨hw_a, lo_a, bb_a, len_a, cap_a, rest_a, hlo_a, rfl, rw_a, hd_a, h2_a⟩⟩ := h_a.open
  ·obtain ⟨hb_b, ⟨hs_b, rfl⟩ | ⟨hw_b, lo_b, bb_b, len_b, cap_b, rest_b, hlo_b, rfl, rw_b, hd_b, h2_b⟩⟩ := h_b.open
   ·refine wp_seq (Za (so L3 rfl (Zo (off' := 1) L3 rfl ZL rfl ?_)))
    intro _ L108
    refine so L108 rfl (Zl L108 rfl Yu (R3.row (r1.up l2)) rfl fun _ L109 => (so L109 rfl (ZV L109 rfl rfl Tryz.underlying30 fun _ L110 => (so L110 rfl (Zb L110 rfl fun _ L111 => (Zr L111 rfl rfl rfl rfl rfl (Zo (off' := 1) L111 rfl ZL rfl fun _ L112 => (Zr L112 rfl rfl rfl rfl rfl (Zl L112 rfl Yu (R3.row r2) rfl fun _ L113 => (Zr L113 rfl rfl rfl rfl rfl (ZV L113 rfl rfl Tryz.underlying30 fun _ L114 => (so L114 rfl (Zj L114 rfl rfl fun _ L115 => ?_)))))))))))))
    have L116 := (L115.kp [2, 3, 4, 20] rfl); clear L115
    refine sn (Zs L116 rfl rfl (wp_seq (Za (so L116 rfl (Zo (off' := 0) L116 rfl Yb rfl ?_)))))
    intro _ L117
    refine so L117 rfl (Zl L117 rfl Yi (R3.row (r1.up l2)) rfl fun _ L118 => (so L118 rfl (Zo (off' := 0) L118 rfl Yb rfl fun _ L119 => (so L119 rfl (Zl L119 rfl Yi (R3.row r2) rfl fun _ L120 => (so L120 rfl (Yv (x := a) (y := b) (c := 0) L120 rfl (by omega) fun _ L121 => (so L121 rfl (Zb L121 rfl fun _ L122 => (so L122 rfl (Zh L122 rfl rfl fun _ L123 => (so L123 rfl (Zh L123 rfl rfl fun _ L124 => ?_)))))))))))))
    refine so L124 rfl (Zc L124 rfl fun _ L125 => (so L125 rfl (Zc L125 rfl fun _ L126 => ?_)))
    have L127 := (L126.kp [2, 3, 4, 5, 6] rfl); clear L126
    refine sn (wp_seq (wp_seq (Za (so L127 rfl (Zb L127 rfl ?_)))))
    intro _ L128
    by_cases t5 : (((a + b + 0) / 18446744073709551616 : Nat) : Int) = (0 : Int)
    ·refine so L128 rfl (Zf (b := true) (decide_eq_true t5) (fun _ k_ => ZY L128 rfl rfl k_) fun _ L129 => (sn (Zs L129 rfl rfl (wp_seq (Za (so L129 rfl (Zb L129 rfl fun _ L130 => ?_)))))))
     have h3 : Na S2 [(.int .u64 (((a + b + 0) % 18446744073709551616 : Nat) : Int)), (.slice none 0 0)] (a + b) (k_a + k_b + 1) := Na.ofLowE (by omega) (by omega) (sum_pow hb_a hb_b)
     exact so L130 rfl (ZD (cs := [(.int .u64 (((a + b + 0) % 18446744073709551616 : Nat) : Int)), (.slice none 0 0)]) L130 ZN Xf (.cons rfl Yb rfl (by decide) .nil) (by rfl) fun _ L131 => (Zx L131 rfl rfl (Zi L131 rfl rfl R3 Zk h3.len rfl h3.ones fun _ R21 _ L132 => (sn (wp_ret ((ZE (ZE (XH (Zv (rs := Tryz.f137.results.toList) L132 rfl (Res.aggW rfl ZJ Zk (R21.has (List.Mem.head _)) h3.len Res.nil) (⟨_, _, rfl, R21.ext, ⟨_, rfl, (h3.to rfl (by omega))⟩⟩)))))))))))
    ·refine so L128 rfl (Zf (b := false) (decide_eq_false t5) (fun _ k_ => ZY L128 rfl rfl k_) fun _ L133 => (sn (Zn L133 rfl rfl (wp_skip ((Ze (wp_seq (Za (so L133 rfl (Zb L133 rfl fun _ L134 => (so L134 rfl (Zb L134 rfl fun _ L135 => (so L135 rfl (YQ (cs := (Yl [((a + b + 0) % 18446744073709551616), ((a + b + 0) / 18446744073709551616)] ++ [])) L135 Tryz.underlying30 ZB Xv (.cons rfl rfl (by decide) (.cons rfl rfl (by decide) .nil)) [[(.int .u64 (((a + b + 0) % 18446744073709551616 : Nat) : Int))], [(.int .u64 (((a + b + 0) / 18446744073709551616 : Nat) : Int))]] rfl rfl (by rfl) (by decide) R3 fun b6 _ R22 _ L136 => ?_))))))))))))))
     obtain ⟨S16, l13, r6, R23⟩ := (R22).freeze
     have hd5 : Dg S16 (some ⟨b6, 0, none⟩) 2 2 ([((a + b + 0) % 18446744073709551616), ((a + b + 0) / 18446744073709551616)]) := ⟨by first | rfl | omega, by omega, by omega, by simp; omega, fun _ => ⟨_, _, rfl, r6⟩⟩
     have h4 : Na S16 [(.int .u64 (0 : Int)), (.slice (some ⟨b6, 0, none⟩) 2 2)] (a + b) (k_a + k_b + 1) := Na.ofDg (lo := 0) (by decide) hd5 (by omega) (by simp; omega) (by simp only [val, W64]; omega) (sum_pow hb_a hb_b)
     exact so L136 rfl (ZD (cs := [(.int .u64 (0 : Int)), (.slice (some ⟨b6, 0, none⟩) 2 2)]) L136 ZN Xf (.cons rfl ZL rfl (by decide) .nil) (by rfl) fun _ L137 => (Zx L137 rfl rfl (Zi L137 rfl rfl R23 Zk h4.len rfl h4.ones fun _ R24 _ L138 => (sn (wp_ret ((ZE (XH (Zv (rs := Tryz.f137.results.toList) (L138.kp [2, 3, 4] rfl) rfl (Res.aggW rfl ZJ Zk (R24.has (List.Mem.head _)) h4.len Res.nil) (⟨_, _, rfl, R24.ext, ⟨_, rfl, (h4.to rfl (by omega))⟩⟩))))))))))
   ·have hl_b := hd_b.hlen; have hc_b := hd_b.hcap; have hg_b := hd_b.hbig
    have hW_b : 18446744073709551616 ≤ b := hw_b
    refine wp_seq (Za (so L3 rfl (Zo (off' := 1) L3 rfl ZL rfl ?_)))
    intro _ L140
    refine so L140 rfl (Zl L140 rfl Yu (R3.row (r1.up l2)) rfl fun _ L141 => (so L141 rfl (ZV L141 rfl rfl Tryz.underlying30 fun _ L142 => (so L142 rfl (Zb L142 rfl fun _ L143 => (Zr L143 rfl rfl rfl rfl rfl (Zo (off' := 1) L143 rfl ZL rfl fun _ L144 => (Zr L144 rfl rfl rfl rfl rfl (Zl L144 rfl Yu (R3.row r2) rfl fun _ L145 => (Zr L145 rfl rfl rfl rfl rfl (ZV L145 rfl rfl Tryz.underlying30 fun _ L146 => (so L146 rfl (Zj L146 rfl rfl fun _ L147 => ?_)))))))))))))
    have L148 := (L147.kp [2, 3, 4, 20] rfl); clear L147
    exact sn (Zn L148 rfl rfl (wp_skip ((Ze (⟨S2, Sh.le.refl _, (L148.kp [4, 3, 2] rfl), R3⟩)))))
  ·have hl_a := hd_a.hlen; have hc_a := hd_a.hcap; have hg_a := hd_a.hbig
   have hW_a : 18446744073709551616 ≤ a := hw_a
   obtain ⟨hb_b, ⟨hs_b, rfl⟩ | ⟨hw_b, lo_b, bb_b, len_b, cap_b, rest_b, hlo_b, rfl, rw_b, hd_b, h2_b⟩⟩ := h_b.open
   ·refine wp_seq (Za (so L3 rfl (Zo (off' := 1) L3 rfl ZL rfl ?_)))
    intro _ L149
    refine so L149 rfl (Zl L149 rfl Yu (R3.row (r1.up l2)) rfl fun _ L150 => (so L150 rfl (ZV L150 rfl rfl Tryz.underlying30 fun _ L151 => (so L151 rfl (Zb L151 rfl fun _ L152 => (Zm L152 rfl rfl rfl rfl rfl rfl fun _ L153 => (Zm L153 rfl rfl rfl rfl rfl rfl fun _ L154 => (Zm L154 rfl rfl rfl rfl rfl rfl fun _ L155 => (so L155 rfl (Zj L155 rfl rfl fun _ L156 => ?_))))))))))
    have L157 := (L156.kp [2, 3, 4, 20] rfl); clear L156
    exact sn (Zn L157 rfl rfl (wp_skip ((Ze (⟨S2, Sh.le.refl _, (L157.kp [4, 3, 2] rfl), R3⟩)))))
   ·have hl_b := hd_b.hlen; have hc_b := hd_b.hcap; have hg_b := hd_b.hbig
    have hW_b : 18446744073709551616 ≤ b := hw_b
    refine wp_seq (Za (so L3 rfl (Zo (off' := 1) L3 rfl ZL rfl ?_)))
    intro _ L158
    refine so L158 rfl (Zl L158 rfl Yu (R3.row (r1.up l2)) rfl fun _ L159 => (so L159 rfl (ZV L159 rfl rfl Tryz.underlying30 fun _ L160 => (so L160 rfl (Zb L160 rfl fun _ L161 => (Zm L161 rfl rfl rfl rfl rfl rfl fun _ L162 => (Zm L162 rfl rfl rfl rfl rfl rfl fun _ L163 => (Zm L163 rfl rfl rfl rfl rfl rfl fun _ L164 => (so L164 rfl (Zj L164 rfl rfl fun _ L165 => ?_))))))))))
    have L166 := (L165.kp [2, 3, 4, 20] rfl); clear L165
    exact sn (Zn L166 rfl rfl (wp_skip ((Ze (⟨S2, Sh.le.refl _, (L166.kp [4, 3, 2] rfl), R3⟩)))))
end Go.Cham
namespace Go.Cham
open Go Go.RowKit Go.Proofs
set_option maxRecDepth 20000 in
theorem nat_Sub {S : Sh} {w : World} (hS : Yw S w) {c_a : List Value} {a : Nat} {k_a : Nat} (h_a : Na S c_a (a) (k_a)) {c_b : List Value} {b : Nat} {k_b : Nat} (h_b : Na S c_b (b) (k_b)) (hlim : k_a ≤ 1099511627776) : Calls Tryz.prog 145 [(.agg (c_a : List Value).toArray), (.agg (c_b : List Value).toArray)].toArray w (Ret S w (fun S v => ((a < b) ∧ ∃ (c0 : List Value), v = .tuple [.agg c0.toArray, .int .i64 (10)].toArray ∧ Na S c0 (0) (0)) ∨ ((b ≤ a) ∧ ∃ (c0 : List Value), v = .tuple [.agg c0.toArray, .int .i64 (0)].toArray ∧ Na S c0 (a - b) (k_a)))) := by
 refine ZT (n := 66) Tryz.func145 rfl rfl ?_
 intro ac0 L0
 replace L0 : Zz ac0 66 [(0, (.agg (c_a : List Value).toArray)), (1, (.agg (c_b : List Value).toArray))] := L0
 have R0 : Run S w S [] w := .start hS
 have hla := Xc h_a.1; have hcmp := @cmpN_neg a b
 refine wp_seq (Za (so L0 rfl (Yq (cs := c_a) L0 rfl R0 rfl ?_)))
 intro b1 _ _ l1 r1 R1 _ L1
 refine so L1 rfl (Yq (cs := c_b) L1 rfl R1 rfl fun b2 _ _ l2 r2 R2 _ L2 => (so L2 rfl (ZM (cs := zN1) ZN R2 rfl fun b3 _ R3 _ L3 => (so L3 rfl (Zc L3 rfl fun _ L4 => (sn (wp_scope_straight (wp_seq (wp_seq (Za (so L4 rfl (Zt L4 rfl ZJ Zk (R3.row (r1.up l2)) h_a.len fun _ L5 => ?_))))))))))))
 refine so L5 rfl (Zt L5 rfl ZJ Zk (R3.row r2) h_b.len fun _ L6 => (so L6 rfl (Zp L6 rfl ent_133 (nat_Cmp R3.holds    (h_a.up (l1.trans l2)) (h_b.up (l1.trans l2)) ) fun v_1 S3 _ x1 v1 => ?_)))
 have R4 := R3.call x1; have l3 := x1.le
 obtain rfl := v1
 intro _ L7
 by_cases t1 : (cmpN a b) < (0 : Int)
 ·refine so L7 rfl (Zf (b := true) (decide_eq_true t1) (fun _ k_ => ZH L7 rfl rfl k_) fun _ L8 => ?_)
  have L9 := (L8.kp [2, 3, 4, 5, 14] rfl); clear L8
  refine sn (Zs L9 rfl rfl (wp_seq (Za ?_)))
  have h1 : Na S3 zN1 (0) (0) := Na.zero _ _
  exact so L9 rfl (ZD (cs := zN1) L9 ZN Xf .nil (by rfl) fun _ L10 => (Zx L10 rfl rfl (Zi L10 rfl rfl R4 Zk h1.len rfl h1.ones fun _ R5 _ L11 => (so L11 rfl (Zc L11 rfl fun _ L12 => (sn (wp_ret ((ZE (XH (Zv (rs := Tryz.f145.results.toList) L12 rfl (Res.aggW rfl ZJ Zk (R5.has (List.Mem.head _)) h1.len (.tmp rfl Res.nil)) (⟨_, _, rfl, R5.ext, (Or.inl ⟨by first | assumption | omega | (simp_all; done), ⟨_, rfl, (h1.to rfl (by omega))⟩⟩)⟩))))))))))))
 ·refine so L7 rfl (Zf (b := false) (decide_eq_false t1) (fun _ k_ => ZH L7 rfl rfl k_) fun _ L13 => ?_)
  have L14 := (L13.kp [2, 3, 4, 5, 14] rfl); clear L13
  refine sn (Zn L14 rfl rfl (wp_skip ((Ze (wp_seq (wp_seq ?_))))))
  obtain ⟨hb_a, ⟨hs_a, rfl⟩ | ⟨hw_a, lo_a, bb_a, len_a, cap_a, rest_a, hlo_a, rfl, rw_a, hd_a, h2_a⟩⟩ := h_a.open
  ·refine Za (so L14 rfl (Zo (off' := 1) L14 rfl ZL rfl ?_))
   intro _ L15
   refine so L15 rfl (Zl L15 rfl Yu (R4.row (r1.up (l2.trans l3))) rfl fun _ L16 => (so L16 rfl (ZV L16 rfl rfl Tryz.underlying30 fun _ L17 => (sn (Zs L17 rfl rfl (wp_seq ?_))))))
   obtain ⟨hb_b, ⟨hs_b, rfl⟩ | ⟨hw_b, lo_b, bb_b, len_b, cap_b, rest_b, hlo_b, rfl, rw_b, hd_b, h2_b⟩⟩ := h_b.open
   ·refine Za (so L17 rfl (Zo (off' := 0) L17 rfl Yb rfl ?_))
    intro _ L18
    refine so L18 rfl (Zl L18 rfl Yi (R4.row (r1.up (l2.trans l3))) rfl fun _ L19 => (so L19 rfl (Zo (off' := 0) L19 rfl Yb rfl fun _ L20 => (so L20 rfl (Zl L20 rfl Yi (R4.row (r2.up l3)) rfl fun _ L21 => ?_)))))
    have hba : ((a - b : Nat) : Int) = (a : Int) - (b : Int) := by omega
    refine so L21 rfl (ZS (z := (((a : Nat) : Int) - ((b : Nat) : Int))) L21 rfl rfl (IntWalk.u64_in _ (by omega)) fun _ L22 => ?_)
    have h2 : Na S3 [(.int .u64 (((a : Nat) : Int) - ((b : Nat) : Int))), (.slice none 0 0)] (a - b) (k_a) := by rw [show (a : Int) - (b : Int) = ((a - b : Nat) : Int) by omega]; exact Na.ofLowE rfl (by omega) (Nat.le_trans (Nat.sub_le _ _) hb_a)
    exact so L22 rfl (ZD (cs := [(.int .u64 (((a : Nat) : Int) - ((b : Nat) : Int))), (.slice none 0 0)]) L22 ZN Xf (.cons rfl Yb rfl (by decide) .nil) (by rfl) fun _ L23 => (Zx L23 rfl rfl (Zi L23 rfl rfl R4 Zk h2.len rfl h2.ones fun _ R6 _ L24 => (so L24 rfl (Zc L24 rfl fun _ L25 => (sn (wp_ret ((ZE (XH (Zv (rs := Tryz.f145.results.toList) (L25.kp [2, 3, 4, 5] rfl) rfl (Res.aggW rfl ZJ Zk (R6.has (List.Mem.head _)) h2.len (.tmp rfl Res.nil)) (⟨_, _, rfl, R6.ext, (Or.inr ⟨by first | assumption | omega | (simp_all; done), ⟨_, rfl, (h2.to rfl (by omega))⟩⟩)⟩))))))))))))
   ·have hl_b := hd_b.hlen; have hc_b := hd_b.hcap; have hg_b := hd_b.hbig
    have hW_b : 18446744073709551616 ≤ b := hw_b
    exfalso; omega
  ·have hl_a := hd_a.hlen; have hc_a := hd_a.hcap; have hg_a := hd_a.hbig
   have hW_a : 18446744073709551616 ≤ a := hw_a
   refine Za (so L14 rfl (Zo (off' := 1) L14 rfl ZL rfl ?_))
   intro _ L27
   refine so L27 rfl (Zl L27 rfl Yu (R4.row (r1.up (l2.trans l3))) rfl fun _ L28 => (so L28 rfl (ZV L28 rfl rfl Tryz.underlying30 fun _ L29 => (sn (Zn L29 rfl rfl (wp_skip ((Ze (wp_seq ?_)))))))))
   have hmono := Zch (show b ≤ a by omega)
   refine Za (so L29 rfl (Zo (off' := 1) L29 rfl ZL rfl ?_))
   intro _ L30
   refine so L30 rfl (Zl L30 rfl Yu (R4.row (r1.up (l2.trans l3))) rfl fun _ L31 => (so L31 rfl (ZO L31 rfl Tryz.underlying30 fun _ L32 => (so L32 rfl (YV (m := len_a) (c := len_a) L32 (by first | rfl | (simp [ev, QC]; omega)) (by first | rfl | (simp [ev, QC]; omega)) Tryz.underlying30 Xv rfl ZB XY (by omega) (by omega) (by omega) R4 fun b4 _ R7 _ L33 => ?_)))))
   rw [Zat] at R7
   refine so L33 rfl (Zc L33 rfl fun _ L34 => ?_)
   have L35 := (L34.kp [2, 3, 4, 5, 6] rfl); clear L34
   refine sn (wp_seq (Za (so L35 rfl (Zb L35 rfl ?_))))
   intro _ L36
   refine so L36 rfl (Zo (off' := 1) L36 rfl ZL rfl fun _ L37 => (so L37 rfl (Zl L37 rfl Yu (R7.row (r1.up (l2.trans l3))) rfl fun _ L38 => (so L38 rfl (does_copyDg (m := (len_a)) (us := (List.replicate (len_a) 0)) L38 rfl rfl Tryz.underlying30 ZB R7 (hd_a.up (l1.trans (l2.trans l3))) (by simp) (by omega) fun _ R8 _ L39 => ?_)))))
   have L40 := (L39.kp [3, 4, 5, 6] rfl); clear L39
   refine sn (wp_seq (Za (so L40 rfl (Zt L40 rfl ZJ Zk (R8.row (r2.up l3)) h_b.len ?_))))
   intro _ L41
   refine so L41 rfl (Zp L41 rfl Zap (YE R8.holds    (h_b.up (l1.trans (l2.trans l3))) ) fun v_2 S4 _ x2 v2 => ?_)
   have R9 := R8.call x2; have l4 := x2.le
   obtain ⟨p1, len1, cap1, rfl, y1, z1, hg1, hd1⟩ := v2
   intro _ L42
   refine so L42 rfl (Zc L42 rfl fun _ L43 => (so L43 rfl (Zc L43 rfl fun _ L44 => (sn (wp_seq (wp_label ((Ze (wp_seq (wp_seq (Za (so L44 rfl (Zb L44 rfl fun _ L45 => (so L45 rfl (ZO L45 rfl Tryz.underlying30 fun _ L46 => ?_)))))))))))))))
   refine so L46 rfl (Zb L46 rfl fun a42 L47 => (sn (wp_block ?_)))
   have hxl := (hd_a.up (l1.trans (l2.trans (l3.trans l4)))).hlt; have hyl := hd1.hlt
   have hst : Zbj (ZQ W64 a) (ZQ W64 b) ((ZQ W64 a) ++ (List.replicate (len_a) 0).drop len_a) 0 0 := by rw [show ((ZQ W64 a) ++ (List.replicate (len_a) 0).drop len_a) = (ZQ W64 a) from by rw [List.drop_replicate, show len_a - len_a = 0 by omega]; simp]; exact Zbj.start hxl
   have e1 : ((0 : Int) : Int) = ((0 : Nat) : Int) := by omega
   have L49 : Zz a42 66 [(8, (.int .u64 ((0 : Nat) : Int)))] := by have q := (L47.kp [8] rfl); rw [e1] at q; exact q
   have e2 : ((0 : Int) : Int) = ((0 : Nat) : Int) := by omega
   have L50 : Zz a42 66 [(37, (.int .i64 ((0 : Nat) : Int)))] := by have q := (L47.kp [37] rfl); rw [e2] at q; exact q
   refine ZZ (fun m ac ww => ∃ (S' : Sh) (us : List Nat) (i : Nat) (c : Nat), S4.le S' ∧ Zz ac 66 [(4, (.pointer (some ⟨b3, 0, none⟩))), (5, (.int .i64 (0 : Int))), (6, (.slice (some ⟨b4, 0, none⟩) (len_a) (len_a))), (7, (.slice p1 len1 cap1)), (8, (.int .u64 ((c : Nat) : Int))), (36, (.int .i64 (((len_a) : Nat) : Int))), (37, (.int .i64 ((i : Nat) : Int)))] ∧ Run S w S' [(b4, 29, (Yl us ++ [])), (b3, 32, zN1)] ww ∧ (Zbj (ZQ W64 a) (ZQ W64 b) us i c) ∧ m = ((ZQ W64 a)).length - i)
    (((ZQ W64 a)).length - 0) ⟨S4, ((ZQ W64 a) ++ (List.replicate (len_a) 0).drop len_a), 0, 0, Sh.le.refl _, (L47.keep (L47.keep (L47.keep (L47.keep (L49.keep (L47.keep (L50.keep (Zz.none _ L47) (t := 37) rfl) (t := 36) rfl) (t := 8) rfl) (t := 7) rfl) (t := 6) rfl) (t := 5) rfl) (t := 4) rfl), (ZX (ZX R9)), (by exact hst), rfl⟩ ?_
   rintro m_1 ac1 _ ⟨S5, us, i, c, l5, L48, R10, hI, m1⟩
   refine wp_seq (Za ?_)
   have hIl := hI.len; have hIe := hI.le; have hIc := hI.c1
   by_cases t2 : ((i : Nat) : Int) < (((len_a) : Nat) : Int)
   ·have hIl := hI.len; have hIe := hI.le; have hIc := hI.c1
    refine so L48 rfl (Zf (b := true) (decide_eq_true t2) (fun _ k_ => ZH L48 rfl rfl k_) fun _ L51 => (sn (wp_seq (Zs L51 rfl rfl (wp_skip ((Ze (wp_seq (wp_block (wp_seq (Za (so L51 rfl (Zb L51 rfl fun _ L52 => (so L52 rfl (Zc L52 rfl fun _ L53 => ?_)))))))))))))))
    refine sn (wp_seq (Za (so L53 rfl (Zc L53 rfl ?_))))
    intro _ L54
    refine sn (wp_seq (wp_seq (Za (so L54 rfl (Zb L54 rfl ?_)))))
    intro _ L55
    refine so L55 rfl (Zb L55 rfl fun _ L56 => (so L56 rfl (ZO L56 rfl Tryz.underlying30 fun _ L57 => ?_)))
    by_cases t3 : ((i : Nat) : Int) < ((len1 : Nat) : Int)
    ·refine so L57 rfl (Zf (b := true) (decide_eq_true t3) (fun _ k_ => ZH L57 rfl rfl k_) fun _ L58 => (sn (Zs L58 rfl rfl (Za (so L58 rfl (Zb L58 rfl fun _ L59 => (so L59 rfl (Zb L59 rfl fun _ L60 => ?_))))))))
     obtain ⟨b5, rest_1, rfl, r3⟩ := (hd1.up l5).row (by omega)
     refine so L60 rfl (Zu (i) L60 rfl rfl Tryz.underlying30 ZB (by omega) (by omega) fun _ L61 => (so L61 rfl (Zl (v := (.int .u64 (((ZQ W64 b).getD (i) 0 : Nat) : Int))) L61 rfl Yi (R10.row r3) (by rw [Nat.zero_add]; exact ZW (by omega)) fun _ L62 => (so L62 rfl (Zc L62 rfl fun _ L63 => (sn (Za (so L63 rfl (Zb L63 rfl fun _ L64 => (so L64 rfl (Zb L64 rfl fun _ L65 => (so L65 rfl (Zb L65 rfl fun _ L66 => ?_)))))))))))))
     refine so L66 rfl (Zb L66 rfl fun _ L67 => (so L67 rfl (Zu (i) L67 rfl rfl Tryz.underlying30 ZB (by omega) (by omega) fun _ L68 => (so L68 rfl (Zl (v := (.int .u64 ((us.getD (i) 0 : Nat) : Int))) L68 rfl Yi (R10.has (List.Mem.head _)) (by rw [Nat.zero_add]; exact ZW (by omega)) fun _ L69 => (so L69 rfl (Zb L69 rfl fun _ L70 => (so L70 rfl (Zb L70 rfl fun _ L71 => (so L71 rfl (Za5 (x := (us.getD (i) 0)) (y := ((ZQ W64 b).getD (i) 0)) (c := c) L71 rfl (by omega) fun _ L72 => (so L72 rfl (Zb L72 rfl fun _ L73 => ?_)))))))))))))
     refine so L73 rfl (Zh L73 rfl rfl fun _ L74 => (so L74 rfl (Zh L74 rfl rfl fun _ L75 => (so L75 rfl (Zu (i) L75 rfl rfl Tryz.underlying30 ZB (by omega) (by omega) fun _ L76 => (Zx L76 rfl rfl (Yh (cs' := (Yl (us.set (i) ((((us.getD (i) 0) + 18446744073709551616 - ((ZQ W64 b).getD (i) 0) - c) % 18446744073709551616))) ++ [])) L76 rfl rfl R10 ZB rfl (by simp only [List.length_append, ZG]; omega) (by rw [Nat.zero_add]; exact YC (by omega)) fun _ R11 _ L77 => (so L77 rfl (Zc L77 rfl fun _ L78 => (Yr ((ZI (Ze (Za (so L78 rfl (ZK (z := (((i : Nat) : Int) + (1 : Int))) L78 rfl rfl (IntWalk.i64_in _ (by omega)) fun _ L79 => ?_))))))))))))))))
     refine so L79 rfl (Zb L79 rfl fun a72 L80 => (sn ?_))
     have e3 : (((if (us.getD (i) 0) < ((ZQ W64 b).getD (i) 0) + c then 1 else 0 : Nat) : Int) : Int) = (((if (us.getD (i) 0) < ((ZQ W64 b).getD (i) 0) + c then 1 else 0) : Nat) : Int) := by omega
     have L81 : Zz a72 66 [(8, (.int .u64 (((if (us.getD (i) 0) < ((ZQ W64 b).getD (i) 0) + c then 1 else 0) : Nat) : Int)))] := by have q := (L80.kp [8] rfl); rw [e3] at q; exact q
     have e4 : ((((i : Nat) : Int) + (1 : Int)) : Int) = (((i + 1) : Nat) : Int) := by omega
     have L82 : Zz a72 66 [(37, (.int .i64 (((i + 1) : Nat) : Int)))] := by have q := (L80.kp [37] rfl); rw [e4] at q; exact q
     exact ⟨((ZQ W64 a)).length - (i + 1), (by omega), S5, (us.set (i) ((((us.getD (i) 0) + 18446744073709551616 - ((ZQ W64 b).getD (i) 0) - c) % 18446744073709551616))), (i + 1), (if (us.getD (i) 0) < ((ZQ W64 b).getD (i) 0) + c then 1 else 0), l5, (L80.keep (L80.keep (L80.keep (L80.keep (L81.keep (L80.keep (L82.keep (Zz.none _ L80) (t := 37) rfl) (t := 36) rfl) (t := 8) rfl) (t := 7) rfl) (t := 6) rfl) (t := 5) rfl) (t := 4) rfl), (ZX (ZX R11)), (by first | exact hI.step hxl hyl (by omega) | (have q := hI.step hxl hyl (by omega); rw [Zbc (y := (ZQ W64 b)) (i := i) (by omega)] at q; exact q)), rfl⟩
    ·refine so L57 rfl (Zf (b := false) (decide_eq_false t3) (fun _ k_ => ZH L57 rfl rfl k_) fun _ L83 => (sn (Zn L83 rfl rfl (wp_seq (Za (so L83 rfl (Zb L83 rfl fun _ L84 => ?_)))))))
     by_cases t4 : ((c : Nat) : Int) = (0 : Int)
     ·refine so L84 rfl (Zf (b := true) (decide_eq_true t4) (fun _ k_ => ZY L84 rfl rfl k_) fun _ L85 => (sn (Zs L85 rfl rfl (wp_exit ((ZA (in_miss rfl (ZA (ZA (YB (Ze (wp_seq (Za (so L85 rfl (Zb L85 rfl fun _ L86 => ?_)))))))))))))))
      obtain ⟨S6, l6, r4, R12⟩ := (R10).freeze
      have hd2 : Dg S6 (some ⟨b4, 0, none⟩) (len_a) (len_a) us := ⟨by first | rfl | omega, by omega, by omega, hI.lt, fun _ => ⟨_, _, rfl, r4⟩⟩
      refine so L86 rfl (Zp L86 rfl QV (QS R12.holds  (k := k_a)  hd2 (by rw [hI.done hyl (by simp only [Yk (show 2 ≤ W64 by decide)]; omega) (by omega) (by omega)]; simp only [Yk (show 2 ≤ W64 by decide)]; exact Nat.le_trans (Nat.sub_le _ _) h_a.1)) fun v_3 _ _ x3 v3 => ?_)
      have R13 := R12.call x3
      obtain ⟨cs_1, rfl, h3⟩ := v3
      intro _ L87
      exact Zx L87 rfl rfl (Zi L87 rfl rfl R13 Zk h3.len rfl h3.ones fun _ R14 _ L88 => (so L88 rfl (Zc L88 rfl fun _ L89 => (sn (wp_ret ((XH (Zv (rs := Tryz.f145.results.toList) (L89.kp [4, 5] rfl) rfl (Res.aggW rfl ZJ Zk (R14.has (List.Mem.head _)) h3.len (.tmp rfl Res.nil)) (⟨_, _, rfl, R14.ext, (Or.inr ⟨by first | assumption | omega | (simp_all; done), ⟨_, rfl, (h3.to (by rw [hI.done hyl (by simp only [Yk (show 2 ≤ W64 by decide)]; omega) (by omega) (by omega)]; simp only [Yk (show 2 ≤ W64 by decide)]) (by omega))⟩⟩)⟩)))))))))
     ·refine so L84 rfl (Zf (b := false) (decide_eq_false t4) (fun _ k_ => ZY L84 rfl rfl k_) fun _ L91 => (sn (Zn L91 rfl rfl (wp_skip ((Ze (Za (so L91 rfl (Zb L91 rfl fun _ L92 => (so L92 rfl (Zb L92 rfl fun _ L93 => (so L93 rfl (Zb L93 rfl fun _ L94 => (so L94 rfl (Zb L94 rfl fun _ L95 => ?_)))))))))))))))
      refine so L95 rfl (Zu (i) L95 rfl rfl Tryz.underlying30 ZB (by omega) (by omega) fun _ L96 => (so L96 rfl (Zl (v := (.int .u64 ((us.getD (i) 0 : Nat) : Int))) L96 rfl Yi (R10.has (List.Mem.head _)) (by rw [Nat.zero_add]; exact ZW (by omega)) fun _ L97 => (so L97 rfl (Zb L97 rfl fun _ L98 => (so L98 rfl (Zb L98 rfl fun _ L99 => (so L99 rfl (Za5 (x := (us.getD (i) 0)) (y := 0) (c := c) L99 rfl (by omega) fun _ L100 => (so L100 rfl (Zb L100 rfl fun _ L101 => (so L101 rfl (Zh L101 rfl rfl fun _ L102 => ?_)))))))))))))
      refine so L102 rfl (Zh L102 rfl rfl fun _ L103 => (so L103 rfl (Zu (i) L103 rfl rfl Tryz.underlying30 ZB (by omega) (by omega) fun _ L104 => (Zx L104 rfl rfl (Yh (cs' := (Yl (us.set (i) ((((us.getD (i) 0) + 18446744073709551616 - 0 - c) % 18446744073709551616))) ++ [])) L104 rfl rfl R10 ZB rfl (by simp only [List.length_append, ZG]; omega) (by rw [Nat.zero_add]; exact YC (by omega)) fun _ R15 _ L105 => (so L105 rfl (Zc L105 rfl fun _ L106 => (Yr ((ZI (Ze (Za (so L106 rfl (ZK (z := (((i : Nat) : Int) + (1 : Int))) L106 rfl rfl (IntWalk.i64_in _ (by omega)) fun _ L107 => (so L107 rfl (Zb L107 rfl fun a97 L108 => ?_))))))))))))))))
      refine sn ?_
      have e5 : (((if (us.getD (i) 0) < 0 + c then 1 else 0 : Nat) : Int) : Int) = (((if (us.getD (i) 0) < 0 + c then 1 else 0) : Nat) : Int) := by omega
      have L109 : Zz a97 66 [(8, (.int .u64 (((if (us.getD (i) 0) < 0 + c then 1 else 0) : Nat) : Int)))] := by have q := (L108.kp [8] rfl); rw [e5] at q; exact q
      have e6 : ((((i : Nat) : Int) + (1 : Int)) : Int) = (((i + 1) : Nat) : Int) := by omega
      have L110 : Zz a97 66 [(37, (.int .i64 (((i + 1) : Nat) : Int)))] := by have q := (L108.kp [37] rfl); rw [e6] at q; exact q
      exact ⟨((ZQ W64 a)).length - (i + 1), (by omega), S5, (us.set (i) ((((us.getD (i) 0) + 18446744073709551616 - 0 - c) % 18446744073709551616))), (i + 1), (if (us.getD (i) 0) < 0 + c then 1 else 0), l5, (L108.keep (L108.keep (L108.keep (L108.keep (L109.keep (L108.keep (L110.keep (Zz.none _ L108) (t := 37) rfl) (t := 36) rfl) (t := 8) rfl) (t := 7) rfl) (t := 6) rfl) (t := 5) rfl) (t := 4) rfl), (ZX (ZX R15)), (by first | exact hI.step hxl hyl (by omega) | (have q := hI.step hxl hyl (by omega); rw [Zbc (y := (ZQ W64 b)) (i := i) (by omega)] at q; exact q)), rfl⟩
   ·have hIl := hI.len; have hIe := hI.le; have hIc := hI.c1
    refine so L48 rfl (Zf (b := false) (decide_eq_false t2) (fun _ k_ => ZH L48 rfl rfl k_) fun _ L111 => (sn (wp_seq (Zn L111 rfl rfl (wp_exit ((ZA (ZA (YB (Ze (wp_seq (Za (so L111 rfl (Zb L111 rfl fun _ L112 => ?_))))))))))))))
    obtain ⟨S8, l8, r5, R16⟩ := (R10).freeze
    have hd3 : Dg S8 (some ⟨b4, 0, none⟩) (len_a) (len_a) us := ⟨by first | rfl | omega, by omega, by omega, hI.lt, fun _ => ⟨_, _, rfl, r5⟩⟩
    refine so L112 rfl (Zp L112 rfl QV (QS R16.holds  (k := k_a)  hd3 (by rw [hI.done hyl (by simp only [Yk (show 2 ≤ W64 by decide)]; omega) (by omega) (by omega)]; simp only [Yk (show 2 ≤ W64 by decide)]; exact Nat.le_trans (Nat.sub_le _ _) h_a.1)) fun v_4 _ _ x4 v4 => ?_)
    have R17 := R16.call x4
    obtain ⟨c2, rfl, h4⟩ := v4
    intro _ L113
    exact Zx L113 rfl rfl (Zi L113 rfl rfl R17 Zk h4.len rfl h4.ones fun _ R18 _ L114 => (so L114 rfl (Zc L114 rfl fun _ L115 => (sn (wp_ret ((XH (Zv (rs := Tryz.f145.results.toList) (L115.kp [4, 5] rfl) rfl (Res.aggW rfl ZJ Zk (R18.has (List.Mem.head _)) h4.len (.tmp rfl Res.nil)) (⟨_, _, rfl, R18.ext, (Or.inr ⟨by first | assumption | omega | (simp_all; done), ⟨_, rfl, (h4.to (by rw [hI.done hyl (by simp only [Yk (show 2 ≤ W64 by decide)]; omega) (by omega) (by omega)]; simp only [Yk (show 2 ≤ W64 by decide)]) (by omega))⟩⟩)⟩)))))))))
set_option maxRecDepth 20000 in
theorem nat_Mul {S : Sh} {w : World} (hS : Yw S w) {c_a : List Value} {a : Nat} {k_a : Nat} (h_a : Na S c_a (a) (k_a)) {c_b : List Value} {b : Nat} {k_b : Nat} (h_b : Na S c_b (b) (k_b)) (hlim : k_a ≤ 1099511627776) (hlim2 : k_b ≤ 1099511627776) : Calls Tryz.prog 80 [(.agg (c_a : List Value).toArray), (.agg (c_b : List Value).toArray)].toArray w (Ret S w (fun S v => ∃ (c0 : List Value), v = .agg c0.toArray ∧ Na S c0 (a * b) (k_a + k_b))) := by
 refine ZT (n := 111) Tryz.func80 rfl rfl ?_
 intro ac0 L0
 replace L0 : Zz ac0 111 [(0, (.agg (c_a : List Value).toArray)), (1, (.agg (c_b : List Value).toArray))] := L0
 have R0 : Run S w S [] w := .start hS
 have hla := Xc h_a.1; have hlb := Xc h_b.1
 refine wp_seq (Za (so L0 rfl (Yq (cs := c_a) L0 rfl R0 rfl ?_)))
 intro b1 _ _ l1 r1 R1 _ L1
 refine so L1 rfl (Yq (cs := c_b) L1 rfl R1 rfl fun b2 S2 _ l2 r2 R2 _ L2 => (so L2 rfl (ZM (cs := zN1) ZN R2 rfl fun b3 _ R3 _ L3 => (sn ?_))))
 refine XG (fun ac ww => ∃ (S' : Sh) , S2.le S' ∧ Zz ac 111 [(2, (.pointer (some ⟨b1, 0, none⟩))), (3, (.pointer (some ⟨b2, 0, none⟩))), (4, (.pointer (some ⟨b3, 0, none⟩)))] ∧ Run S w S' [(b3, 32, zN1)] ww) ?_ ?_
 ·rintro ac1 _ ⟨_, l3, L4, R4⟩
  refine wp_seq ?_
  have L5 := (L4.kp [2, 3, 4] rfl)
  refine Zy (E0 := []) (H0 := [(b3, 32, zN1)]) (n := 111) mixed 3 [] (fun k =>  0) (Zaf [
    .is (.agg (c_a : List Value).toArray),
    .sat (fun S v => ∃ (p0 : Option Addr) (len0 : Nat) (cap0 : Nat), v = .slice p0 len0 cap0 ∧ (ZQ W64 a).length = len0 ∧ len0 ≤ cap0 ∧ len0 ≤ 281474976710656 ∧ Dg S p0 len0 cap0 (ZQ W64 a)) (fun _ _ _ l ⟨p0, n0, m0, e, g0, f0, j0, h0⟩ => ⟨p0, n0, m0, e, g0, f0, j0, h0.up l⟩),
    .is (.agg (c_b : List Value).toArray)]) L5 R4 (by simp) (by simp) (by rfl) (by rfl) (by simp) (ZU ?_) ?_
  ·refine (And.intro ?_ (And.intro ?_ (And.intro ?_ trivial)))
   ·exact Zd rfl (fun _ _ _ _ _ A1 => (Zt A1.live rfl ZJ Zk (A1.run.row (r1.up (l2.trans (l3.trans A1.le)))) h_a.len (A1.same  rfl)))
   ·refine Zd rfl (fun _ _ _ _ _ A2 => ?_)
    obtain ⟨_, e1, rfl⟩ := A2.known 0 rfl
    exact Zp (A2.live.add e1) rfl Zap (YE A2.run.holds    (h_a.up (l1.trans (l2.trans (l3.trans A2.le)))) ) fun v_1 _ _ x1 v1 => (A2.post x1.le (A2.run.call x1) v1)
   ·exact Zd rfl (fun _ _ _ _ _ A3 => (Zt A3.live rfl ZJ Zk (A3.run.row (r2.up (l3.trans A3.le))) h_b.len (A3.same  rfl)))
  ·intro S8 _ _ w9 l5 E1 R6 n1 L9 K1
   obtain ⟨_, e2, p1, len1, cap1, rfl, y1, z1, hg1, hd1⟩ := K1 1 (by decide)
   have L10 := L9.add e2; clear L9
   obtain ⟨_, e3, rfl⟩ := K1 2 (by decide)
   have L11 := L10.add e3; clear L10
   have R7 : Run _ _ S8 [(b3, 32, zN1)] w9 := Yc R6 n1 [] (by simp) (by simp)
   refine so L11 rfl (Zp L11 rfl Zap (YE R7.holds    (h_b.up (l1.trans (l2.trans (l3.trans l5)))) ) fun v_2 S9 _ x2 v2 => ?_)
   have R8 := R7.call x2; have l6 := x2.le
   obtain ⟨p2, len2, cap2, rfl, y2, z2, hg2, hd2⟩ := v2
   intro _ L12
   refine so L12 rfl (Zc L12 rfl fun _ L13 => (so L13 rfl (Zc L13 rfl fun _ L14 => ?_)))
   have L15 := (L14.kp [4, 7, 8] rfl); clear L14
   refine sn (wp_seq (Za (so L15 rfl (Zb L15 rfl ?_))))
   intro _ L16
   refine so L16 rfl (ZO L16 rfl Tryz.underlying30 fun _ L17 => (so L17 rfl (Zb L17 rfl fun _ L18 => (so L18 rfl (ZO L18 rfl Tryz.underlying30 fun _ L19 => (so L19 rfl (ZK (z := (((len1 : Nat) : Int) + ((len2 : Nat) : Int))) L19 rfl rfl (IntWalk.i64_in _ (by omega)) fun _ L20 => (so L20 rfl (YV (m := (len1 + len2)) (c := (len1 + len2)) L20 (by first | rfl | (simp [ev, QC]; omega)) (by first | rfl | (simp [ev, QC]; omega)) Tryz.underlying30 Xv rfl ZB XY (by omega) (by omega) (by omega) R8 fun b4 _ R9 _ L21 => ?_)))))))))
   rw [Zat] at R9
   refine so L21 rfl (Zc L21 rfl fun _ L22 => ?_)
   have L23 := (L22.kp [4, 7, 8, 9] rfl); clear L22
   refine sn (wp_seq (wp_seq (Za (so L23 rfl (Zb L23 rfl ?_)))))
   intro _ L24
   refine so L24 rfl (ZO L24 rfl Tryz.underlying30 fun _ L25 => (so L25 rfl (Zb L25 rfl fun a20 L26 => (sn (wp_block ?_)))))
   have hxl := (hd1.up l6).hlt; have hyl := hd2.hlt
   have e4 : ((0 : Int) : Int) = ((0 : Nat) : Int) := by omega
   have L28 : Zz a20 111 [(52, (.int .i64 ((0 : Nat) : Int)))] := by have q := (L26.kp [52] rfl); rw [e4] at q; exact q
   refine ZZ (fun m ac ww => ∃ (S' : Sh) (us : List Nat) (i : Nat), S9.le S' ∧ Zz ac 111 [(4, (.pointer (some ⟨b3, 0, none⟩))), (7, (.slice p1 len1 cap1)), (8, (.slice p2 len2 cap2)), (9, (.slice (some ⟨b4, 0, none⟩) ((len1 + len2)) ((len1 + len2)))), (51, (.int .i64 ((len1 : Nat) : Int))), (52, (.int .i64 ((i : Nat) : Int)))] ∧ Run S w S' [(b4, 29, (Yl us ++ [])), (b3, 32, zN1)] ww ∧ (MulIn (ZQ W64 a) (ZQ W64 b) us i 0 0) ∧ (i ≤ ((ZQ W64 a)).length) ∧ m = ((ZQ W64 a)).length - i)
    (((ZQ W64 a)).length - 0) ⟨S9, (List.replicate ((len1 + len2)) 0), 0, Sh.le.refl _, (L26.keep (L26.keep (L26.keep (L26.keep (L26.keep (L28.keep (Zz.none _ L26) (t := 52) rfl) (t := 51) rfl) (t := 9) rfl) (t := 8) rfl) (t := 7) rfl) (t := 4) rfl), (ZX (ZX R9)), (by exact MulIn.start (by omega)), (by omega), rfl⟩ ?_
   rintro m_1 ac2 _ ⟨S10, us, i, l7, L27, R10, hI, hi, m1⟩
   refine wp_seq (Za ?_)
   by_cases t1 : ((i : Nat) : Int) < ((len1 : Nat) : Int)
   ·refine so L27 rfl (Zf (b := true) (decide_eq_true t1) (fun _ k_ => ZH L27 rfl rfl k_) fun _ L29 => (sn (wp_seq (Zs L29 rfl rfl (wp_skip ((Ze (wp_seq (wp_block (wp_seq ?_))))))))))
    have hIl := hI.len
    refine Za (so L29 rfl (Zb L29 rfl ?_))
    intro _ L30
    refine so L30 rfl (Zc L30 rfl fun _ L31 => (sn (wp_seq (Za (so L31 rfl (Zc L31 rfl fun _ L32 => (sn (wp_seq (wp_seq (Za (so L32 rfl (Zb L32 rfl fun _ L33 => ?_))))))))))))
    refine so L33 rfl (ZO L33 rfl Tryz.underlying30 fun _ L34 => (so L34 rfl (Zb L34 rfl fun a27 L35 => (sn (wp_block ?_)))))
    have e5 : ((0 : Int) : Int) = ((0 : Nat) : Int) := by omega
    have L37 : Zz a27 111 [(11, (.int .u64 ((0 : Nat) : Int)))] := by have q := (L35.kp [11] rfl); rw [e5] at q; exact q
    have e6 : ((0 : Int) : Int) = ((0 : Nat) : Int) := by omega
    have L38 : Zz a27 111 [(57, (.int .i64 ((0 : Nat) : Int)))] := by have q := (L35.kp [57] rfl); rw [e6] at q; exact q
    refine ZZ (fun m ac ww => ∃ (S' : Sh) (vs : List Nat) (j : Nat) (c : Nat), S10.le S' ∧ Zz ac 111 [(4, (.pointer (some ⟨b3, 0, none⟩))), (7, (.slice p1 len1 cap1)), (8, (.slice p2 len2 cap2)), (9, (.slice (some ⟨b4, 0, none⟩) ((len1 + len2)) ((len1 + len2)))), (51, (.int .i64 ((len1 : Nat) : Int))), (52, (.int .i64 ((i : Nat) : Int))), (53, (.bool true)), (54, (.int .i64 ((i : Nat) : Int))), (10, (.int .i64 ((i : Nat) : Int))), (11, (.int .u64 ((c : Nat) : Int))), (55, (.slice p2 len2 cap2)), (56, (.int .i64 ((len2 : Nat) : Int))), (57, (.int .i64 ((j : Nat) : Int)))] ∧ Run S w S' [(b4, 29, (Yl vs ++ [])), (b3, 32, zN1)] ww ∧ (MulIn (ZQ W64 a) (ZQ W64 b) vs i j c) ∧ (j ≤ ((ZQ W64 b)).length) ∧ m = ((ZQ W64 b)).length - j)
     (((ZQ W64 b)).length - 0) ⟨S10, us, 0, 0, Sh.le.refl _, (L35.keep (L35.keep (L35.keep (L35.keep (L35.keep (L35.keep (L35.keep (L35.keep (L35.keep (L37.keep (L35.keep (L35.keep (L38.keep (Zz.none _ L35) (t := 57) rfl) (t := 56) rfl) (t := 55) rfl) (t := 11) rfl) (t := 10) rfl) (t := 54) rfl) (t := 53) rfl) (t := 52) rfl) (t := 51) rfl) (t := 9) rfl) (t := 8) rfl) (t := 7) rfl) (t := 4) rfl), (ZX (ZX R10)), (by exact hI), (by omega), rfl⟩ ?_
    rintro m_2 ac3 _ ⟨S11, vs, j, c, l8, L36, R11, hJ, hj, m2⟩
    refine wp_seq (Za ?_)
    by_cases t2 : ((j : Nat) : Int) < ((len2 : Nat) : Int)
    ·refine so L36 rfl (Zf (b := true) (decide_eq_true t2) (fun _ k_ => ZH L36 rfl rfl k_) fun _ L39 => (sn (wp_seq (Zs L39 rfl rfl (wp_skip ((Ze (wp_seq (wp_block (wp_seq ?_))))))))))
     have hJl := hJ.len; have hJc := hJ.c1
     obtain ⟨hm1, hm2, hm3⟩ := mul_step (x := (ZQ W64 a).getD i 0) (y := (ZQ W64 b).getD j 0) (c := c) (u := vs.getD (i + j) 0) (ZR hxl (by decide) _) (ZR hyl (by decide) _) hJ.c1 (ZR hJ.lt (by decide) _)
     refine Za (so L39 rfl (Zb L39 rfl ?_))
     intro _ L40
     refine so L40 rfl (Zc L40 rfl fun _ L41 => (sn (wp_seq ?_)))
     obtain ⟨b5, rest_1, rfl, r3⟩ := (hd1.up (l6.trans (l7.trans l8))).row (by omega)
     obtain ⟨b6, rest_2, rfl, r4⟩ := (hd2.up (l7.trans l8)).row (by omega)
     have L42 := (L41.kp [4, 7, 8, 9, 51, 52, 53, 54, 10, 11, 55, 56, 57, 58, 59, 12] rfl)
     refine Zy (E0 := []) (H0 := [(b4, 29, (Yl vs ++ [])), (b3, 32, zN1)]) (n := 111) mixed 13 [] (fun k =>  0) (Zaf [
       .is (.slice (some ⟨b5, 0, none⟩) len1 cap1),
       .is (.int .i64 ((i : Nat) : Int)),
       .is (.pointer (some ⟨b5, (0 + (i)), none⟩)),
       .is (.int .u64 (((ZQ W64 a).getD (i) 0 : Nat) : Int)),
       .is (.slice (some ⟨b6, 0, none⟩) len2 cap2),
       .is (.int .i64 ((j : Nat) : Int)),
       .is (.pointer (some ⟨b6, (0 + (j)), none⟩)),
       .is (.int .u64 (((ZQ W64 b).getD (j) 0 : Nat) : Int)),
       .is (.tuple [.int .u64 (((((ZQ W64 a).getD (i) 0) * ((ZQ W64 b).getD (j) 0) / 18446744073709551616 : Nat) : Int)), .int .u64 (((((ZQ W64 a).getD (i) 0) * ((ZQ W64 b).getD (j) 0) % 18446744073709551616 : Nat) : Int))].toArray),
       .is (.tuple [(.int .u64 ((((ZQ W64 a).getD (i) 0) * ((ZQ W64 b).getD (j) 0) / 18446744073709551616 : Nat) : Int)), (.int .u64 ((((ZQ W64 a).getD (i) 0) * ((ZQ W64 b).getD (j) 0) % 18446744073709551616 : Nat) : Int))].toArray),
       .is (.int .u64 ((((ZQ W64 a).getD (i) 0) * ((ZQ W64 b).getD (j) 0) / 18446744073709551616 : Nat) : Int)),
       .is (.int .u64 ((((ZQ W64 a).getD (i) 0) * ((ZQ W64 b).getD (j) 0) % 18446744073709551616 : Nat) : Int)),
       .is (.int .u64 ((((ZQ W64 a).getD (i) 0) * ((ZQ W64 b).getD (j) 0) / 18446744073709551616 : Nat) : Int))]) L42 R11 (by simp) (by simp) (by rfl) (by rfl) (by simp) (ZU ?_) ?_
     ·refine (And.intro ?_ (And.intro ?_ (And.intro ?_ (And.intro ?_ (And.intro ?_ (And.intro ?_ (And.intro ?_ (And.intro ?_ (And.intro ?_ (And.intro ?_ (And.intro ?_ (And.intro ?_ (And.intro ?_ trivial)))))))))))))
      ·exact Zd rfl (fun _ _ _ _ _ A4 => (Zb A4.live rfl (A4.same  rfl)))
      ·exact Zd rfl (fun _ _ _ _ _ A5 => (Zb A5.live rfl (A5.same  rfl)))
      ·refine Zd rfl (fun _ _ _ _ _ A6 => ?_)
       obtain ⟨_, e7, rfl⟩ := A6.known 0 rfl
       obtain ⟨_, e8, rfl⟩ := A6.known 1 rfl
       exact Zu (i) ((A6.live.add e7).add e8) rfl rfl Tryz.underlying30 ZB (by omega) (by omega) (A6.same  rfl)
      ·refine Zd rfl (fun _ _ _ _ _ A7 => ?_)
       obtain ⟨_, e9, rfl⟩ := A7.known 2 rfl
       exact Zl (v := (.int .u64 (((ZQ W64 a).getD (i) 0 : Nat) : Int))) (A7.live.add e9) rfl Yi (A7.run.row (r3.up A7.le)) (by rw [Nat.zero_add]; exact ZW (by omega)) (A7.same  rfl)
      ·exact Zd rfl (fun _ _ _ _ _ A8 => (Zb A8.live rfl (A8.same  rfl)))
      ·exact Zd rfl (fun _ _ _ _ _ A9 => (Zb A9.live rfl (A9.same  rfl)))
      ·refine Zd rfl (fun _ _ _ _ _ A10 => ?_)
       obtain ⟨_, e10, rfl⟩ := A10.known 4 rfl
       obtain ⟨_, e11, rfl⟩ := A10.known 5 rfl
       exact Zu (j) ((A10.live.add e10).add e11) rfl rfl Tryz.underlying30 ZB (by omega) (by omega) (A10.same  rfl)
      ·refine Zd rfl (fun _ _ _ _ _ A11 => ?_)
       obtain ⟨_, e12, rfl⟩ := A11.known 6 rfl
       exact Zl (v := (.int .u64 (((ZQ W64 b).getD (j) 0 : Nat) : Int))) (A11.live.add e12) rfl Yi (A11.run.row (r4.up A11.le)) (by rw [Nat.zero_add]; exact ZW (by omega)) (A11.same  rfl)
      ·refine Zd rfl (fun _ _ _ _ _ A12 => ?_)
       obtain ⟨_, e13, rfl⟩ := A12.known 3 rfl
       obtain ⟨_, e14, rfl⟩ := A12.known 7 rfl
       exact Zp ((A12.live.add e13).add e14) rfl ent_139 (XB A12.run.holds (x := ((ZQ W64 a).getD (i) 0)) (y := ((ZQ W64 b).getD (j) 0))    (ZR hxl (by decide) _) (ZR hyl (by decide) _)) fun v_3 _ _ x3 v3 => (A12.post x3.le (A12.run.call x3) v3)
      ·refine Zd rfl (fun _ _ _ _ _ A13 => ?_)
       obtain ⟨_, e15, rfl⟩ := A13.known 8 rfl
       exact Zb (A13.live.add e15) rfl (A13.same  rfl)
      ·refine Zd rfl (fun _ _ _ _ _ A14 => ?_)
       obtain ⟨_, e16, rfl⟩ := A14.known 9 rfl
       exact Zh (A14.live.add e16) rfl rfl (A14.same  rfl)
      ·refine Zd rfl (fun _ _ _ _ _ A15 => ?_)
       obtain ⟨_, e17, rfl⟩ := A15.known 9 rfl
       exact Zh (A15.live.add e17) rfl rfl (A15.same  rfl)
      ·refine Zd rfl (fun _ _ _ _ _ A16 => ?_)
       obtain ⟨_, e18, rfl⟩ := A16.known 10 rfl
       exact Zc (A16.live.add e18) rfl (A16.same  rfl)
     ·intro S26 _ _ w28 l10 E2 R13 n2 L56 K2
      obtain ⟨_, e19, rfl⟩ := K2 0 (by decide)
      have L57 := L56.add e19; clear L56
      obtain ⟨_, e20, rfl⟩ := K2 1 (by decide)
      have L58 := L57.add e20; clear L57
      obtain ⟨_, e21, rfl⟩ := K2 2 (by decide)
      have L59 := L58.add e21; clear L58
      obtain ⟨_, e22, rfl⟩ := K2 3 (by decide)
      have L60 := L59.add e22; clear L59
      obtain ⟨_, e23, rfl⟩ := K2 4 (by decide)
      have L61 := L60.add e23; clear L60
      obtain ⟨_, e24, rfl⟩ := K2 5 (by decide)
      have L62 := L61.add e24; clear L61
      obtain ⟨_, e25, rfl⟩ := K2 6 (by decide)
      have L63 := L62.add e25; clear L62
      obtain ⟨_, e26, rfl⟩ := K2 7 (by decide)
      have L64 := L63.add e26; clear L63
      obtain ⟨_, e27, rfl⟩ := K2 8 (by decide)
      have L65 := L64.add e27; clear L64
      obtain ⟨_, e28, rfl⟩ := K2 9 (by decide)
      have L66 := L65.add e28; clear L65
      obtain ⟨_, e29, rfl⟩ := K2 10 (by decide)
      have L67 := L66.add e29; clear L66
      obtain ⟨_, e30, rfl⟩ := K2 11 (by decide)
      have L68 := L67.add e30; clear L67
      obtain ⟨_, e31, rfl⟩ := K2 12 (by decide)
      have L69 := L68.add e31; clear L68
      have R14 : Run _ _ S26 [(b4, 29, (Yl vs ++ [])), (b3, 32, zN1)] w28 := Yc R13 n2 [] (by simp) (by simp)
      refine so L69 rfl (Zc L69 rfl fun _ L70 => (sn (wp_seq (Za (so L70 rfl (Zc L70 rfl fun _ L71 => (sn (wp_seq (Za (so L71 rfl (Zb L71 rfl fun _ L72 => (so L72 rfl (Zb L72 rfl fun _ L73 => ?_)))))))))))))
      refine so L73 rfl (Yv (x := (((ZQ W64 a).getD (i) 0) * ((ZQ W64 b).getD (j) 0) % 18446744073709551616)) (y := c) (c := 0) L73 rfl (by omega) fun _ L74 => (so L74 rfl (Zb L74 rfl fun _ L75 => (so L75 rfl (Zh L75 rfl rfl fun _ L76 => (so L76 rfl (Zh L76 rfl rfl fun _ L77 => (so L77 rfl (Zc L77 rfl fun _ L78 => (so L78 rfl (Zc L78 rfl fun _ L79 => (sn ?_))))))))))))
      refine wp_seq (Za (so L79 rfl (Zb L79 rfl ?_)))
      intro _ L80
      refine so L80 rfl (Zb L80 rfl fun _ L81 => (so L81 rfl (ZK (z := (((((ZQ W64 a).getD (i) 0) * ((ZQ W64 b).getD (j) 0) / 18446744073709551616 : Nat) : Int) + ((((((ZQ W64 a).getD (i) 0) * ((ZQ W64 b).getD (j) 0) % 18446744073709551616) + c + 0) / 18446744073709551616 : Nat) : Int))) L81 rfl rfl (IntWalk.u64_in _ (by omega)) fun _ L82 => (so L82 rfl (Zc L82 rfl fun _ L83 => (sn (wp_seq (Za (so L83 rfl (Zb L83 rfl fun _ L84 => (so L84 rfl (Zb L84 rfl fun _ L85 => ?_))))))))))))
      refine so L85 rfl (Zb L85 rfl fun _ L86 => (so L86 rfl (ZK (z := (((i : Nat) : Int) + ((j : Nat) : Int))) L86 rfl rfl (IntWalk.i64_in _ (by omega)) fun _ L87 => (so L87 rfl (Zb L87 rfl fun _ L88 => (so L88 rfl (Zb L88 rfl fun _ L89 => (so L89 rfl (Zb L89 rfl fun _ L90 => (so L90 rfl (ZK (z := (((i : Nat) : Int) + ((j : Nat) : Int))) L90 rfl rfl (IntWalk.i64_in _ (by omega)) fun _ L91 => (so L91 rfl (Zu ((i + j)) L91 rfl rfl Tryz.underlying30 ZB (by omega) (by omega) fun _ L92 => ?_)))))))))))))
      refine so L92 rfl (Zl (v := (.int .u64 ((vs.getD ((i + j)) 0 : Nat) : Int))) L92 rfl Yi (R14.has (List.Mem.head _)) (by rw [Nat.zero_add]; exact ZW (by omega)) fun _ L93 => (so L93 rfl (Zb L93 rfl fun _ L94 => (so L94 rfl (Yv (x := (vs.getD ((i + j)) 0)) (y := (((((ZQ W64 a).getD (i) 0) * ((ZQ W64 b).getD (j) 0) % 18446744073709551616) + c + 0) % 18446744073709551616)) (c := 0) L94 rfl (by omega) fun _ L95 => (so L95 rfl (Zb L95 rfl fun _ L96 => (so L96 rfl (Zh L96 rfl rfl fun _ L97 => (so L97 rfl (Zh L97 rfl rfl fun _ L98 => (so L98 rfl (Zu ((i + j)) L98 rfl rfl Tryz.underlying30 ZB (by omega) (by omega) fun _ L99 => ?_)))))))))))))
      refine Zx L99 rfl rfl (Yh (cs' := (Yl (vs.set ((i + j)) ((((vs.getD ((i + j)) 0) + (((((ZQ W64 a).getD (i) 0) * ((ZQ W64 b).getD (j) 0) % 18446744073709551616) + c + 0) % 18446744073709551616) + 0) % 18446744073709551616))) ++ [])) L99 rfl rfl R14 ZB rfl (by simp only [List.length_append, ZG]; omega) (by rw [Nat.zero_add]; exact YC (by omega)) fun _ R15 _ L100 => (so L100 rfl (Zc L100 rfl fun _ L101 => (sn (Za (so L101 rfl (Zb L101 rfl fun _ L102 => (so L102 rfl (Zb L102 rfl fun _ L103 => (so L103 rfl (ZK (z := ((((((ZQ W64 a).getD (i) 0) * ((ZQ W64 b).getD (j) 0) / 18446744073709551616 : Nat) : Int) + ((((((ZQ W64 a).getD (i) 0) * ((ZQ W64 b).getD (j) 0) % 18446744073709551616) + c + 0) / 18446744073709551616 : Nat) : Int)) + ((((vs.getD ((i + j)) 0) + (((((ZQ W64 a).getD (i) 0) * ((ZQ W64 b).getD (j) 0) % 18446744073709551616) + c + 0) % 18446744073709551616) + 0) / 18446744073709551616 : Nat) : Int))) L103 rfl rfl (IntWalk.u64_in _ (by omega)) fun _ L104 => (so L104 rfl (Zc L104 rfl fun _ L105 => ?_)))))))))))))
      refine Yr ((ZI (Ze (Za (so L105 rfl (ZK (z := (((j : Nat) : Int) + (1 : Int))) L105 rfl rfl (IntWalk.i64_in _ (by omega)) ?_))))))
      intro _ L106
      refine so L106 rfl (Zb L106 rfl fun a82 L107 => (sn ?_))
      have e32 : (((((((ZQ W64 a).getD (i) 0) * ((ZQ W64 b).getD (j) 0) / 18446744073709551616 : Nat) : Int) + ((((((ZQ W64 a).getD (i) 0) * ((ZQ W64 b).getD (j) 0) % 18446744073709551616) + c + 0) / 18446744073709551616 : Nat) : Int)) + ((((vs.getD ((i + j)) 0) + (((((ZQ W64 a).getD (i) 0) * ((ZQ W64 b).getD (j) 0) % 18446744073709551616) + c + 0) % 18446744073709551616) + 0) / 18446744073709551616 : Nat) : Int)) : Int) = (((((((ZQ W64 a).getD (i) 0) * ((ZQ W64 b).getD (j) 0) / 18446744073709551616) + (((((ZQ W64 a).getD (i) 0) * ((ZQ W64 b).getD (j) 0) % 18446744073709551616) + c + 0) / 18446744073709551616)) + (((vs.getD ((i + j)) 0) + (((((ZQ W64 a).getD (i) 0) * ((ZQ W64 b).getD (j) 0) % 18446744073709551616) + c + 0) % 18446744073709551616) + 0) / 18446744073709551616)) : Nat) : Int) := by omega
      have L108 : Zz a82 111 [(11, (.int .u64 (((((((ZQ W64 a).getD (i) 0) * ((ZQ W64 b).getD (j) 0) / 18446744073709551616) + (((((ZQ W64 a).getD (i) 0) * ((ZQ W64 b).getD (j) 0) % 18446744073709551616) + c + 0) / 18446744073709551616)) + (((vs.getD ((i + j)) 0) + (((((ZQ W64 a).getD (i) 0) * ((ZQ W64 b).getD (j) 0) % 18446744073709551616) + c + 0) % 18446744073709551616) + 0) / 18446744073709551616)) : Nat) : Int)))] := by have q := (L107.kp [11] rfl); rw [e32] at q; exact q
      have e33 : ((((j : Nat) : Int) + (1 : Int)) : Int) = (((j + 1) : Nat) : Int) := by omega
      have L109 : Zz a82 111 [(57, (.int .i64 (((j + 1) : Nat) : Int)))] := by have q := (L107.kp [57] rfl); rw [e33] at q; exact q
      exact ⟨((ZQ W64 b)).length - (j + 1), (by omega), S26, (vs.set ((i + j)) ((((vs.getD ((i + j)) 0) + (((((ZQ W64 a).getD (i) 0) * ((ZQ W64 b).getD (j) 0) % 18446744073709551616) + c + 0) % 18446744073709551616) + 0) % 18446744073709551616))), (j + 1), (((((ZQ W64 a).getD (i) 0) * ((ZQ W64 b).getD (j) 0) / 18446744073709551616) + (((((ZQ W64 a).getD (i) 0) * ((ZQ W64 b).getD (j) 0) % 18446744073709551616) + c + 0) / 18446744073709551616)) + (((vs.getD ((i + j)) 0) + (((((ZQ W64 a).getD (i) 0) * ((ZQ W64 b).getD (j) 0) % 18446744073709551616) + c + 0) % 18446744073709551616) + 0) / 18446744073709551616)), (l8.trans l10), (L107.keep (L107.keep (L107.keep (L107.keep (L107.keep (L107.keep (L107.keep (L107.keep (L107.keep (L108.keep (L107.keep (L107.keep (L109.keep (Zz.none _ L107) (t := 57) rfl) (t := 56) rfl) (t := 55) rfl) (t := 11) rfl) (t := 10) rfl) (t := 54) rfl) (t := 53) rfl) (t := 52) rfl) (t := 51) rfl) (t := 9) rfl) (t := 8) rfl) (t := 7) rfl) (t := 4) rfl), (ZX (ZX R15)), (by exact hJ.step rfl hxl hyl (by omega) (by omega) (by omega) hm2 hm3), (by omega), rfl⟩
    ·refine so L36 rfl (Zf (b := false) (decide_eq_false t2) (fun _ k_ => ZH L36 rfl rfl k_) fun _ L110 => (sn (wp_seq (Zn L110 rfl rfl (wp_exit ((ZA (ZA (YB (Ze ?_))))))))))
     have hJl := hJ.len; have hJc := hJ.c1
     refine Za (so L110 rfl (Zb L110 rfl ?_))
     intro _ L111
     refine so L111 rfl (Zb L111 rfl fun _ L112 => (so L112 rfl (Zb L112 rfl fun _ L113 => (so L113 rfl (ZO L113 rfl Tryz.underlying30 fun _ L114 => (so L114 rfl (ZK (z := (((i : Nat) : Int) + ((len2 : Nat) : Int))) L114 rfl rfl (IntWalk.i64_in _ (by omega)) fun _ L115 => (so L115 rfl (Zb L115 rfl fun _ L116 => (so L116 rfl (Zu ((i + len2)) L116 rfl rfl Tryz.underlying30 ZB (by omega) (by omega) fun _ L117 => (Zx L117 rfl rfl (Yh (cs' := (Yl (vs.set ((i + len2)) (c)) ++ [])) L117 rfl rfl R11 ZB rfl (by simp only [List.length_append, ZG]; omega) (by rw [Nat.zero_add]; exact YC (by omega)) fun _ R16 _ L118 => ?_)))))))))))))
     refine Yr ((ZI (Ze (Za (so L118 rfl (ZK (z := (((i : Nat) : Int) + (1 : Int))) L118 rfl rfl (IntWalk.i64_in _ (by omega)) ?_))))))
     intro _ L119
     refine so L119 rfl (Zb L119 rfl fun a93 L120 => (sn ?_))
     have e34 : ((((i : Nat) : Int) + (1 : Int)) : Int) = (((i + 1) : Nat) : Int) := by omega
     have L121 : Zz a93 111 [(52, (.int .i64 (((i + 1) : Nat) : Int)))] := by have q := (L120.kp [52] rfl); rw [e34] at q; exact q
     exact ⟨((ZQ W64 a)).length - (i + 1), (by omega), S11, (vs.set ((i + len2)) (c)), (i + 1), (l7.trans l8), (L120.keep (L120.keep (L120.keep (L120.keep (L120.keep (L121.keep (Zz.none _ L120) (t := 52) rfl) (t := 51) rfl) (t := 9) rfl) (t := 8) rfl) (t := 7) rfl) (t := 4) rfl), (ZX (ZX R16)), (by exact hJ.next (by omega) (by omega) (by omega) (by omega)), (by omega), rfl⟩
   ·refine so L27 rfl (Zf (b := false) (decide_eq_false t1) (fun _ k_ => ZH L27 rfl rfl k_) fun _ L122 => (sn (wp_seq (Zn L122 rfl rfl (wp_exit ((ZA (ZA (YB (Ze (wp_seq (Za (so L122 rfl (Zb L122 rfl fun _ L123 => ?_))))))))))))))
    obtain ⟨S27, l11, r5, R17⟩ := (R10).freeze
    have hd3 : Dg S27 (some ⟨b4, 0, none⟩) ((len1 + len2)) ((len1 + len2)) us := ⟨by first | rfl | (have := hI.len; omega) | omega, by omega, by omega, hI.lt, fun _ => ⟨_, _, rfl, r5⟩⟩
    refine so L123 rfl (Zp L123 rfl QV (QS R17.holds  (k := (k_a + k_b))  hd3 (by rw [hI.done (by omega)]; simp only [Yk (show 2 ≤ W64 by decide)]; exact prod_pow h_a.1 h_b.1)) fun v_4 _ _ x4 v4 => ?_)
    have R18 := R17.call x4
    obtain ⟨cs_1, rfl, h1⟩ := v4
    intro _ L124
    exact Zx L124 rfl rfl (Zi L124 rfl rfl R18 Zk h1.len rfl h1.ones fun _ R19 _ L125 => (sn (wp_ret ((Zv (rs := Tryz.f80.results.toList) (L125.kp [4] rfl) rfl (Res.aggW rfl ZJ Zk (R19.has (List.Mem.head _)) h1.len Res.nil) (⟨_, _, rfl, R19.ext, ⟨_, rfl, (h1.to (by rw [hI.done (by omega)]; simp only [Yk (show 2 ≤ W64 by decide)]) (by omega))⟩⟩))))))
 ·skip
  obtain ⟨hb_a, ⟨hs_a, rfl⟩ | ⟨hw_a, lo_a, bb_a, len_a, cap_a, rest_a, hlo_a, rfl, rw_a, hd_a, h2_a⟩⟩ := h_a.open
  ·obtain ⟨hb_b, ⟨hs_b, rfl⟩ | ⟨hw_b, lo_b, bb_b, len_b, cap_b, rest_b, hlo_b, rfl, rw_b, hd_b, h2_b⟩⟩ := h_b.open
   ·refine wp_seq (Za (so L3 rfl (Zo (off' := 1) L3 rfl ZL rfl ?_)))
    intro _ L127
    refine so L127 rfl (Zl L127 rfl Yu (R3.row (r1.up l2)) rfl fun _ L128 => (so L128 rfl (ZV L128 rfl rfl Tryz.underlying30 fun _ L129 => (so L129 rfl (Zb L129 rfl fun _ L130 => (Zr L130 rfl rfl rfl rfl rfl (Zo (off' := 1) L130 rfl ZL rfl fun _ L131 => (Zr L131 rfl rfl rfl rfl rfl (Zl L131 rfl Yu (R3.row r2) rfl fun _ L132 => (Zr L132 rfl rfl rfl rfl rfl (ZV L132 rfl rfl Tryz.underlying30 fun _ L133 => (so L133 rfl (Zj L133 rfl rfl fun _ L134 => ?_)))))))))))))
    have L135 := (L134.kp [2, 3, 4, 23] rfl); clear L134
    refine sn (Zs L135 rfl rfl (wp_seq (Za (so L135 rfl (Zo (off' := 0) L135 rfl Yb rfl ?_)))))
    intro _ L136
    refine so L136 rfl (Zl L136 rfl Yi (R3.row (r1.up l2)) rfl fun _ L137 => (so L137 rfl (Zo (off' := 0) L137 rfl Yb rfl fun _ L138 => (so L138 rfl (Zl L138 rfl Yi (R3.row r2) rfl fun _ L139 => (so L139 rfl (Zp L139 rfl ent_139 (XB R3.holds (x := a) (y := b)    (hs_a) (hs_b)) fun v_5 S29 _ x5 v5 => ?_)))))))
    have R20 := R3.call x5
    obtain rfl := v5
    intro _ L140
    refine so L140 rfl (Zb L140 rfl fun _ L141 => (so L141 rfl (Zh L141 rfl rfl fun _ L142 => (so L142 rfl (Zh L142 rfl rfl fun _ L143 => (so L143 rfl (Zc L143 rfl fun _ L144 => (so L144 rfl (Zc L144 rfl fun _ L145 => ?_)))))))))
    have L146 := (L145.kp [2, 3, 4, 5, 6] rfl); clear L145
    refine sn (wp_seq (wp_seq ?_))
    have hab : a * b ≤ 18446744073709551615 * 18446744073709551615 := Nat.mul_le_mul (by omega) (by omega)
    refine Za (so L146 rfl (Zb L146 rfl ?_))
    intro _ L147
    by_cases t3 : ((a * b / 18446744073709551616 : Nat) : Int) = (0 : Int)
    ·refine so L147 rfl (Zf (b := true) (decide_eq_true t3) (fun _ k_ => ZY L147 rfl rfl k_) fun _ L148 => (sn (Zs L148 rfl rfl (wp_seq (Za (so L148 rfl (Zb L148 rfl fun _ L149 => ?_)))))))
     have h2 : Na S29 [(.int .u64 ((a * b % 18446744073709551616 : Nat) : Int)), (.slice none 0 0)] (a * b) (k_a + k_b) := Na.ofLowE (by omega) (by omega) (prod_pow hb_a hb_b)
     exact so L149 rfl (ZD (cs := [(.int .u64 ((a * b % 18446744073709551616 : Nat) : Int)), (.slice none 0 0)]) L149 ZN Xf (.cons rfl Yb rfl (by decide) .nil) (by rfl) fun _ L150 => (Zx L150 rfl rfl (Zi L150 rfl rfl R20 Zk h2.len rfl h2.ones fun _ R21 _ L151 => (sn (wp_ret ((ZE (ZE (Zv (rs := Tryz.f80.results.toList) L151 rfl (Res.aggW rfl ZJ Zk (R21.has (List.Mem.head _)) h2.len Res.nil) (⟨_, _, rfl, R21.ext, ⟨_, rfl, (h2.to rfl (by omega))⟩⟩))))))))))
    ·refine so L147 rfl (Zf (b := false) (decide_eq_false t3) (fun _ k_ => ZY L147 rfl rfl k_) fun _ L152 => (sn (Zn L152 rfl rfl (wp_skip ((Ze (wp_seq (Za (so L152 rfl (Zb L152 rfl fun _ L153 => (so L153 rfl (Zb L153 rfl fun _ L154 => (so L154 rfl (YQ (cs := (Yl [(a * b % 18446744073709551616), (a * b / 18446744073709551616)] ++ [])) L154 Tryz.underlying30 ZB Xv (.cons rfl rfl (by decide) (.cons rfl rfl (by decide) .nil)) [[(.int .u64 ((a * b % 18446744073709551616 : Nat) : Int))], [(.int .u64 ((a * b / 18446744073709551616 : Nat) : Int))]] rfl rfl (by rfl) (by decide) R20 fun b7 _ R22 _ L155 => ?_))))))))))))))
     obtain ⟨S30, l14, r6, R23⟩ := (R22).freeze
     have hd4 : Dg S30 (some ⟨b7, 0, none⟩) 2 2 ([(a * b % 18446744073709551616), (a * b / 18446744073709551616)]) := ⟨by first | rfl | (have := hI.len; omega) | omega, by omega, by omega, by simp; omega, fun _ => ⟨_, _, rfl, r6⟩⟩
     have h3 : Na S30 [(.int .u64 (0 : Int)), (.slice (some ⟨b7, 0, none⟩) 2 2)] (a * b) (k_a + k_b) := Na.ofDg (lo := 0) (by decide) hd4 (by omega) (by simp; omega) (by simp only [val, W64]; omega) (prod_pow hb_a hb_b)
     exact so L155 rfl (ZD (cs := [(.int .u64 (0 : Int)), (.slice (some ⟨b7, 0, none⟩) 2 2)]) L155 ZN Xf (.cons rfl ZL rfl (by decide) .nil) (by rfl) fun _ L156 => (Zx L156 rfl rfl (Zi L156 rfl rfl R23 Zk h3.len rfl h3.ones fun _ R24 _ L157 => (sn (wp_ret ((ZE (Zv (rs := Tryz.f80.results.toList) (L157.kp [2, 3, 4] rfl) rfl (Res.aggW rfl ZJ Zk (R24.has (List.Mem.head _)) h3.len Res.nil) (⟨_, _, rfl, R24.ext, ⟨_, rfl, (h3.to rfl (by omega))⟩⟩)))))))))
   ·have hl_b := hd_b.hlen; have hc_b := hd_b.hcap; have hg_b := hd_b.hbig
    have hW_b : 18446744073709551616 ≤ b := hw_b
    refine wp_seq (Za (so L3 rfl (Zo (off' := 1) L3 rfl ZL rfl ?_)))
    intro _ L159
    refine so L159 rfl (Zl L159 rfl Yu (R3.row (r1.up l2)) rfl fun _ L160 => (so L160 rfl (ZV L160 rfl rfl Tryz.underlying30 fun _ L161 => (so L161 rfl (Zb L161 rfl fun _ L162 => (Zr L162 rfl rfl rfl rfl rfl (Zo (off' := 1) L162 rfl ZL rfl fun _ L163 => (Zr L163 rfl rfl rfl rfl rfl (Zl L163 rfl Yu (R3.row r2) rfl fun _ L164 => (Zr L164 rfl rfl rfl rfl rfl (ZV L164 rfl rfl Tryz.underlying30 fun _ L165 => (so L165 rfl (Zj L165 rfl rfl fun _ L166 => ?_)))))))))))))
    have L167 := (L166.kp [2, 3, 4, 23] rfl); clear L166
    exact sn (Zn L167 rfl rfl (wp_skip ((Ze (⟨S2, Sh.le.refl _, (L167.kp [4, 3, 2] rfl), R3⟩)))))
  ·have hl_a := hd_a.hlen; have hc_a := hd_a.hcap; have hg_a := hd_a.hbig
   have hW_a : 18446744073709551616 ≤ a := hw_a
   obtain ⟨hb_b, ⟨hs_b, rfl⟩ | ⟨hw_b, lo_b, bb_b, len_b, cap_b, rest_b, hlo_b, rfl, rw_b, hd_b, h2_b⟩⟩ := h_b.open
   ·refine wp_seq (Za (so L3 rfl (Zo (off' := 1) L3 rfl ZL rfl ?_)))
    intro _ L168
    refine so L168 rfl (Zl L168 rfl Yu (R3.row (r1.up l2)) rfl fun _ L169 => (so L169 rfl (ZV L169 rfl rfl Tryz.underlying30 fun _ L170 => (so L170 rfl (Zb L170 rfl fun _ L171 => (Zm L171 rfl rfl rfl rfl rfl rfl fun _ L172 => (Zm L172 rfl rfl rfl rfl rfl rfl fun _ L173 => (Zm L173 rfl rfl rfl rfl rfl rfl fun _ L174 => (so L174 rfl (Zj L174 rfl rfl fun _ L175 => ?_))))))))))
    have L176 := (L175.kp [2, 3, 4, 23] rfl); clear L175
    exact sn (Zn L176 rfl rfl (wp_skip ((Ze (⟨S2, Sh.le.refl _, (L176.kp [4, 3, 2] rfl), R3⟩)))))
   ·have hl_b := hd_b.hlen; have hc_b := hd_b.hcap; have hg_b := hd_b.hbig
    have hW_b : 18446744073709551616 ≤ b := hw_b
    refine wp_seq (Za (so L3 rfl (Zo (off' := 1) L3 rfl ZL rfl ?_)))
    intro _ L177
    refine so L177 rfl (Zl L177 rfl Yu (R3.row (r1.up l2)) rfl fun _ L178 => (so L178 rfl (ZV L178 rfl rfl Tryz.underlying30 fun _ L179 => (so L179 rfl (Zb L179 rfl fun _ L180 => (Zm L180 rfl rfl rfl rfl rfl rfl fun _ L181 => (Zm L181 rfl rfl rfl rfl rfl rfl fun _ L182 => (Zm L182 rfl rfl rfl rfl rfl rfl fun _ L183 => (so L183 rfl (Zj L183 rfl rfl fun _ L184 => ?_))))))))))
    have L185 := (L184.kp [2, 3, 4, 23] rfl); clear L184
    exact sn (Zn L185 rfl rfl (wp_skip ((Ze (⟨S2, Sh.le.refl _, (L185.kp [4, 3, 2] rfl), R3⟩)))))
end Go.Cham
namespace Go.Cham
open Go Go.RowKit
def RetO (S0 : Sh) (w0 : World) (S : Sh) (b : Nat) (T : TypeId) (rest : List Value) (H : Own) (V : Sh → Value → List Nat → Prop) : Ending → World → Prop :=
  fun e w' => ∃ v S' ds, e = .returned v ∧ S.le S' ∧ Run S0 w0 S' ((b, T, Yl ds ++ rest) :: H) w' ∧ V S' v ds
def RetN (S : Sh) (w : World) (V : Sh → Value → Own → Prop) : Ending → World → Prop :=
  fun e w' => ∃ v S' H, e = .returned v ∧ Run S w S' H w' ∧ V S' v H
theorem Run.callN {S0 S S' : Sh} {w0 w w' : World} {H H' : Own} (h : Run S0 w0 S H w) (k : Run S w S' H' w') : Run S0 w0 S' (H' ++ H) w' := by
  have hc := h.call k.ext
  refine ⟨hc.ext, fun x hx => ?_, ?_⟩
  · rcases List.mem_append.1 hx with hx | hx
    · obtain ⟨a, b, c⟩ := k.own x hx
      exact ⟨a, b, Nat.le_trans h.ext.below.size c⟩
    · exact hc.own x hx
  · rw [List.map_append, List.nodup_append]
    refine ⟨k.nodup, hc.nodup, fun a ha b hb => ?_⟩
    obtain ⟨x, hx, rfl⟩ := List.mem_map.1 ha
    obtain ⟨y, hy, rfl⟩ := List.mem_map.1 hb
    have h1 := (k.own x hx).2.2
    have h2 := h.lt hy
    omega
theorem Zb0 (x : Nat) : IntKind.u64.wrap (x : Int) = ((x % 18446744073709551616 : Nat) : Int) := by
  have : IntKind.u64.wrap (x : Int) = (x : Int) % 18446744073709551616 := by simp [IntKind.wrap, IntKind.bits, IntKind.signed]
  rw [this]; omega
theorem u64_wrapS {x y : Nat} (hy : y ≤ 18446744073709551616) : IntKind.u64.wrap ((x : Int) - (y : Int)) = (((x + 18446744073709551616 - y) % 18446744073709551616 : Nat) : Int) := by
  have : IntKind.u64.wrap ((x : Int) - (y : Int)) = ((x : Int) - (y : Int)) % 18446744073709551616 := by simp [IntKind.wrap, IntKind.bits, IntKind.signed]
  rw [this]; omega
theorem Zb1 {x y : Nat} : IntKind.u64.wrap ((x : Int) * (y : Int)) = ((x * y % 18446744073709551616 : Nat) : Int) := by
  rw [← Int.natCast_mul]; exact Zb0 _
theorem u64_wrapA {x y : Nat} : IntKind.u64.wrap ((x : Int) + (y : Int)) = (((x + y) % 18446744073709551616 : Nat) : Int) := by
  rw [← Int.natCast_add]; exact Zb0 _
section
variable {P : Program} {a : Act} {w : World} {n : Nat} {l : List (Nat × Value)} {K : Value → World → Prop}
variable {d : Option Tmp} {ty : TypeId} {pos : String} {af : Array Edge} {g : Option (Nat × Bool)}
theorem QH {t u : TypeId} {x y : Operand} {i s : Nat} {ky : IntKind} (hL : Zz a n l) (hx : ev l x = some (.int .u64 (i : Int))) (hy : ev l y = some (.int ky (s : Int))) (hs : s ≤ 64) (k : K (.int .u64 ((i * 2 ^ s % 18446744073709551616 : Nat) : Int)) w) : YG P ⟨d, .binOp .shl t x y u, ty, pos, af, g⟩ a w K := by
  refine Zw (v := .int .u64 ((i * 2 ^ s % 18446744073709551616 : Nat) : Int)) (by
    rw [Yf, hL.ev hx, hL.ev hy, Yp]
    simp only [ZC, binOp]
    rw [shift_shl .u64 ky _ _ (by omega) (by simp only [IntKind.bits]; omega)]
    have e : (i : Int) * 2 ^ (s : Int).toNat = ((i * 2 ^ s : Nat) : Int) := by simp
    rw [e, Zb0]; rfl) k
theorem Xy {t u : TypeId} {x y : Operand} {i s : Nat} {ky : IntKind} (hL : Zz a n l) (hx : ev l x = some (.int .u64 (i : Int))) (hy : ev l y = some (.int ky (s : Int))) (hs : s ≤ 64) (k : K (.int .u64 ((i / 2 ^ s : Nat) : Int)) w) : YG P ⟨d, .binOp .shr t x y u, ty, pos, af, g⟩ a w K := by
  refine Zw (v := .int .u64 ((i / 2 ^ s : Nat) : Int)) (by
    rw [Yf, hL.ev hx, hL.ev hy, Yp]
    simp only [ZC, binOp]
    rw [shift_shr .u64 ky _ _ (by omega) (by simp only [IntKind.bits]; omega)]
    have e : (i : Int) / 2 ^ (s : Int).toNat = ((i / 2 ^ s : Nat) : Int) := by simp
    rw [e]; rfl) k
theorem bits64 (f : BitVec 64 → BitVec 64 → BitVec 64) (x y z : Nat) (h : (f (BitVec.ofInt 64 x) (BitVec.ofInt 64 y)).toNat = z) (hz : z < 18446744073709551616) : IntKind.u64.wrap ((f (BitVec.ofInt 64 x) (BitVec.ofInt 64 y)).toNat : Int) = (z : Int) := by
  rw [h, Zb0]; omega
theorem Zcc {t u : TypeId} {x y : Operand} {i j z : Nat} (hL : Zz a n l) (hx : ev l x = some (.int .u64 (i : Int))) (hy : ev l y = some (.int .u64 (j : Int))) (hi : i < 18446744073709551616) (hj : j < 18446744073709551616) (hz : i ||| j = z) (k : K (.int .u64 (z : Int)) w) : YG P ⟨d, .binOp .or t x y u, ty, pos, af, g⟩ a w K := by
  subst hz
  have hlt : i ||| j < 2 ^ 64 := Nat.or_lt_two_pow hi hj
  refine Zw (v := .int .u64 ((i ||| j : Nat) : Int)) (by
    rw [Yf, hL.ev hx, hL.ev hy, Yp]
    simp only [ZC, binOp, ne_eq, not_true, if_false]
    rw [intBits_or]
    have e : bits .or .u64 (i : Int) (j : Int) = ((i ||| j : Nat) : Int) := by
      refine bits64 (fun a b => a ||| b) i j _ ?_ hlt
      simp only [BitVec.toNat_or, BitVec.ofInt_natCast, BitVec.toNat_ofNat]
      rw [Nat.mod_eq_of_lt (by omega), Nat.mod_eq_of_lt (by omega)]
    rw [e]; rfl) k
theorem does_and32 {t u : TypeId} {x y : Operand} {i : Nat} (hL : Zz a n l) (hx : ev l x = some (.int .u64 (i : Int))) (hy : ev l y = some (.int .u64 4294967295)) (hi : i < 18446744073709551616) (k : K (.int .u64 ((i % 4294967296 : Nat) : Int)) w) : YG P ⟨d, .binOp .and t x y u, ty, pos, af, g⟩ a w K := by
  refine Zw (v := .int .u64 ((i % 4294967296 : Nat) : Int)) (by
    rw [Yf, hL.ev hx, hL.ev hy, Yp]
    simp only [ZC, binOp, ne_eq, not_true, if_false]
    rw [intBits_and]
    have e : bits .and .u64 (i : Int) 4294967295 = ((i % 4294967296 : Nat) : Int) := by
      refine bits64 (fun a b => a &&& b) i 4294967295 _ ?_ (by omega)
      simp only [BitVec.toNat_and, BitVec.ofInt_natCast, BitVec.toNat_ofNat]
      rw [Nat.mod_eq_of_lt (by omega), show 4294967295 % 2 ^ 64 = 2 ^ 32 - 1 from rfl, Nat.and_two_pow_sub_one_eq_mod]
    rw [e]; rfl) k
end
theorem or_sum {a b i : Nat} (h : b < 2 ^ i) : (2 ^ i * a) ||| b = 2 ^ i * a + b := (Nat.two_pow_add_eq_or_of_lt h a).symm
theorem dq_init {K v w u z q r : Nat} (hq : q * v + r = u) (hr : r < v) (hz : z < K) : u * K + z < (q + 1) * (v * K + w) := by
  have e : (q + 1) * (v * K + w) = (q * v) * K + q * w + v * K + w := by
    rw [Nat.add_mul, Nat.mul_add, Nat.one_mul, Nat.mul_assoc]; omega
  have e2 : u * K = (q * v) * K + r * K := by rw [← hq, Nat.add_mul]
  have e3 : (r + 1) * K ≤ v * K := Nat.mul_le_mul_right K hr
  rw [Nat.add_mul, Nat.one_mul] at e3
  omega
theorem dq_step {K v w u z q r : Nat} (hq : q * v + r = u) (hz : z < K) (hu : u < v * K + w) (h : K ≤ q ∨ r * K + z < q * w) : 0 < q ∧ (q - 1) * v + (r + v) = u ∧ u * K + z < (q - 1 + 1) * (v * K + w) := by
  have h0 : 0 < q := by
    rcases h with h | h
    · have : 0 < K := by omega
      omega
    · rcases Nat.eq_zero_or_pos q with e | e
      · subst e; simp at h
      · exact e
  obtain ⟨p, rfl⟩ : ∃ p, q = p + 1 := ⟨q - 1, by omega⟩
  refine ⟨h0, ?_, ?_⟩
  · rw [Nat.add_sub_cancel, ← hq, Nat.add_mul]; omega
  · rw [Nat.add_sub_cancel]
    have e : (p + 1) * (v * K + w) = ((p + 1) * v) * K + (p + 1) * w := by rw [Nat.mul_add, Nat.mul_assoc]
    have e2 : u * K = ((p + 1) * v) * K + r * K := by rw [← hq, Nat.add_mul]
    rcases h with h | h
    · have h1 : K * (u + 1) ≤ (p + 1) * (v * K + w) := Nat.mul_le_mul h hu
      rw [Nat.mul_add, Nat.mul_one, Nat.mul_comm] at h1
      omega
    · omega
theorem Qj {K v w u z q r : Nat} (hq : q * v + r = u) (h : q * w ≤ r * K + z) : q * (v * K + w) ≤ u * K + z := by
  have e : q * (v * K + w) = (q * v) * K + q * w := by rw [Nat.mul_add, Nat.mul_assoc]
  have e2 : u * K = (q * v) * K + r * K := by rw [← hq, Nat.add_mul]
  omega
theorem Xq {K v w u z q r : Nat} (hq : q * v + r = u) (hw : w < K) (hr : K ≤ r) (hk : q ≤ K) : q * (v * K + w) ≤ u * K + z := by
  refine Qj hq ?_
  have h1 : q * w ≤ K * K := Nat.mul_le_mul hk (Nat.le_of_lt hw)
  have h2 : K * K ≤ r * K := Nat.mul_le_mul_right K hr
  omega
structure Norm (h lo y s Y v w u z1 z0 : Nat) : Prop where
  hs : s < 64
  hY : Y = y * 2 ^ s
  hY2 : Y < 18446744073709551616
  hv : Y = v * 4294967296 + w
  hw : w < 4294967296
  hv2 : 2147483648 ≤ v
  hu : u * 18446744073709551616 + (z1 * 4294967296 + z0) = (h * 18446744073709551616 + lo) * 2 ^ s
  hz1 : z1 < 4294967296
  hz0 : z0 < 4294967296
  hu2 : u < Y
theorem Xp {s : Nat} (hs : s ≤ 64) : 2 ^ s * 2 ^ (64 - s) = 18446744073709551616 := by
  rw [← Nat.pow_add, show s + (64 - s) = 64 by omega]
theorem norm_start {h lo y : Nat} (hy : y < 18446744073709551616) (hh : h < y) (hl : lo < 18446744073709551616) :
    Norm h lo y (64 - ZF y) (y * 2 ^ (64 - ZF y) % 18446744073709551616) (y * 2 ^ (64 - ZF y) % 18446744073709551616 / 2 ^ 32) (y * 2 ^ (64 - ZF y) % 18446744073709551616 % 4294967296)
      ((h * 2 ^ (64 - ZF y) % 18446744073709551616) ||| (lo / 2 ^ (64 - (64 - ZF y)))) (lo * 2 ^ (64 - ZF y) % 18446744073709551616 / 2 ^ 32) (lo * 2 ^ (64 - ZF y) % 18446744073709551616 % 4294967296) := by
  have hb := Zcl (n := y) (by omega)
  have hb1 : ZF y ≤ 64 := by
    rcases Nat.lt_or_ge 64 (ZF y) with h1 | h1
    · have : 2 ^ 64 ≤ 2 ^ (ZF y - 1) := Nat.pow_le_pow_right (by decide) (by omega)
      have e : (2 : Nat) ^ 64 = 18446744073709551616 := rfl
      omega
    · exact h1
  have hb0 := bitlen_pos (n := y) (by omega)
  generalize hs : 64 - ZF y = s
  have hs2 : ZF y = 64 - s := by omega
  rw [hs2] at hb
  have hs3 : s < 64 := by omega
  clear hb0 hb1 hs hs2
  have hps := Xp (s := s) (by omega)
  have hp63 : 2 ^ s * 2 ^ (64 - s - 1) = 9223372036854775808 := by rw [← Nat.pow_add, show s + (64 - s - 1) = 63 by omega]
  have hY1 : y * 2 ^ s < 18446744073709551616 := by rw [← hps, Nat.mul_comm]; exact Nat.mul_lt_mul_of_pos_left hb.2 (Nat.two_pow_pos s)
  have hY0 : 9223372036854775808 ≤ y * 2 ^ s := by rw [← hp63, Nat.mul_comm]; exact Nat.mul_le_mul_right _ hb.1
  have hh1 : h * 2 ^ s + 2 ^ s ≤ y * 2 ^ s := by rw [← Nat.succ_mul]; exact Nat.mul_le_mul_right _ hh
  have hp0 : 0 < 2 ^ s := Nat.two_pow_pos s
  have e1 : h * 2 ^ s % 18446744073709551616 = 2 ^ s * h := by rw [Nat.mod_eq_of_lt (by omega), Nat.mul_comm]
  have hlo : lo / 2 ^ (64 - s) < 2 ^ s := by rw [Nat.div_lt_iff_lt_mul (Nat.two_pow_pos _), hps]; exact hl
  rw [e1, or_sum hlo, Nat.mod_eq_of_lt hY1]
  have e3 : (lo * 2 ^ s) / 18446744073709551616 = lo / 2 ^ (64 - s) := by
    rw [← hps, Nat.mul_comm lo, Nat.mul_div_mul_left _ _ hp0]
  have e5 : (2 : Nat) ^ 32 = 4294967296 := rfl
  have e6 := Nat.div_add_mod (lo * 2 ^ s) 18446744073709551616
  rw [e3] at e6
  have hm := Nat.mod_lt (lo * 2 ^ s) (show 18446744073709551616 > 0 by decide)
  have e7 : (2 ^ s * h + lo / 2 ^ (64 - s)) * 18446744073709551616 + lo * 2 ^ s % 18446744073709551616 = (h * 18446744073709551616 + lo) * 2 ^ s := by
    rw [Nat.add_mul, Nat.add_mul]
    have : h * 18446744073709551616 * 2 ^ s = 2 ^ s * h * 18446744073709551616 := by rw [Nat.mul_assoc, Nat.mul_comm 18446744073709551616, ← Nat.mul_assoc, Nat.mul_comm h]
    omega
  have e8 : 2 ^ s * h = h * 2 ^ s := Nat.mul_comm _ _
  generalize lo * 2 ^ s % 18446744073709551616 = m at *
  generalize lo / 2 ^ (64 - s) = c at *
  generalize hYv : y * 2 ^ s = Y at *
  rw [e5]
  refine ⟨hs3, hYv.symm ▸ rfl, by omega, by omega, by omega, by omega, ?_, by omega, by omega, by omega⟩
  rw [← e7]
  omega
theorem norm_u21 {A B u1 Y : Nat} (h1 : B ≤ A + u1) (h2 : A + u1 < B + Y) (hY : Y ≤ 18446744073709551616) : ((A % 18446744073709551616 + u1) % 18446744073709551616 + 18446744073709551616 - B % 18446744073709551616) % 18446744073709551616 + B = A + u1 := by omega
theorem div_fin {m q y p r0 : Nat} (e : m * p = r0 + q * y * p) (hp : 0 < p) (hr : r0 < y * p) (hy : 0 < y) : q = m / y ∧ r0 / p = m % y := by
  have hmq : q * y ≤ m := by
    rcases Nat.lt_or_ge m (q * y) with h | h
    · have := Nat.mul_le_mul_right p h
      rw [Nat.succ_mul] at this
      omega
    · exact h
  have hr0 : r0 = (m - q * y) * p := by rw [Nat.sub_mul]; omega
  have hlt : m - q * y < y := by
    rw [hr0] at hr
    exact Nat.lt_of_mul_lt_mul_right hr
  have hm : m = q * y + (m - q * y) := by omega
  generalize m - q * y = t at *
  subst hm
  constructor
  · rw [Nat.mul_comm q y, Nat.mul_add_div (by omega), Nat.div_eq_of_lt hlt]; rfl
  · rw [hr0, Nat.mul_div_cancel _ hp, Nat.mul_comm q y, Nat.mul_add_mod, Nat.mod_eq_of_lt hlt]
theorem div64_done {h lo y s Y v w u z1 z0 q1 q0 r1 r0 : Nat} (N : Norm h lo y s Y v w u z1 z0) (h1 : r1 + q1 * Y = u * 4294967296 + z1) (h0 : r0 + q0 * Y = r1 * 4294967296 + z0) (hr : r0 < Y) (hy : 0 < y) :
    q1 * 4294967296 + q0 = (h * 18446744073709551616 + lo) / y ∧ r0 / 2 ^ s = (h * 18446744073709551616 + lo) % y := by
  have e : (h * 18446744073709551616 + lo) * 2 ^ s = r0 + (q1 * 4294967296 + q0) * Y := by
    rw [← N.hu, Nat.add_mul, Nat.mul_right_comm]
    omega
  have hp : 0 < 2 ^ s := Nat.two_pow_pos s
  rw [N.hY] at e hr
  rw [← Nat.mul_assoc] at e
  exact div_fin e hp hr hy
theorem dq_small {v w u q r : Nat} (hq : q * v + r = u) (hu : u < v * 4294967296 + w) (hw : w < 4294967296) (hv : 2147483648 ≤ v) : q ≤ 4294967297 := by
  rcases Nat.lt_or_ge 4294967297 q with h | h
  · have := Nat.mul_le_mul_right v h
    simp only [Nat.succ_eq_add_one] at this
    omega
  · exact h
theorem dq_lt {K Y u z q : Nat} (h : q * Y ≤ u * K + z) (hz : z < K) (hu : u < Y) : q < K := by
  rcases Nat.lt_or_ge q K with h1 | h1
  · exact h1
  · have h2 := Nat.mul_le_mul h1 (Nat.succ_le_of_lt hu)
    rw [Nat.succ_eq_add_one, Nat.mul_add, Nat.mul_one, Nat.mul_comm K] at h2
    have h3 : q * (u + 1) ≤ q * Y := Nat.mul_le_mul_left q hu
    have h4 : K * (u + 1) ≤ q * Y := Nat.le_trans (Nat.mul_le_mul_right _ h1) h3
    rw [Nat.mul_add, Nat.mul_one, Nat.mul_comm K] at h4
    omega
theorem int_eq2 {k k' : IntKind} {x y x' y' : Int} (h : x = x') (h' : y = y') : pack [.int k x, .int k' y] = .tuple [.int k x', .int k' y'].toArray := by subst h h'; rfl
theorem Zbu {y : Nat} (h : y < 18446744073709551616) : ZF y ≤ 64 := by
  by_cases h0 : y = 0
  · subst h0; rw [bitlen_zero]; omega
  · have hb := Zcl h0
    rcases Nat.lt_or_ge 64 (ZF y) with h1 | h1
    · have : 2 ^ 64 ≤ 2 ^ (ZF y - 1) := Nat.pow_le_pow_right (by decide) (by omega)
      have e : (2 : Nat) ^ 64 = 18446744073709551616 := rfl
      omega
    · exact h1
theorem mod_hint {u v q : Nat} (hq : q = u / v) (hv : 0 < v) : q * v ≤ u ∧ u < q * v + v := by
  have h1 := Nat.div_add_mod u v
  have h2 := Nat.mod_lt u hv
  rw [← hq, Nat.mul_comm] at h1
  omega
theorem dq_step2 {K v w u z q r : Nat} (hq : q * v + r = u) (h : r * K + z < q * w) : 0 < q ∧ (q - 1) * v + (r + v) = u ∧ u * K + z < (q - 1 + 1) * (v * K + w) := by
  have h0 : 0 < q := by
    rcases Nat.eq_zero_or_pos q with e | e
    · subst e; simp at h
    · exact e
  obtain ⟨p, rfl⟩ : ∃ p, q = p + 1 := ⟨q - 1, by omega⟩
  refine ⟨h0, ?_, ?_⟩
  · rw [Nat.add_sub_cancel, ← hq, Nat.add_mul]; omega
  · rw [Nat.add_sub_cancel]
    have e : (p + 1) * (v * K + w) = ((p + 1) * v) * K + (p + 1) * w := by rw [Nat.mul_add, Nat.mul_assoc]
    have e2 : u * K = ((p + 1) * v) * K + r * K := by rw [← hq, Nat.add_mul]
    omega
def cr (d : List Nat) (n i : Nat) : Nat := if i = 0 then 0 else d.getD (i - 1) 0 / 2 ^ (64 - n)
structure Zco (d us : List Nat) (n m i : Nat) : Prop where
  len : us.length = m
  le : i ≤ m
  sum : val W64 (us.take i) + W64 ^ i * cr d n i = val W64 (d.take i) * 2 ^ n
  rest : us.drop i = List.replicate (m - i) 0
  lt : ∀ e ∈ us, e < 18446744073709551616
theorem Zco.start {d : List Nat} {n m : Nat} : Zco d (List.replicate m 0) n m 0 := ⟨by simp, by omega, by simp [val, cr], by simp, by simp⟩
theorem shl_parts {x n : Nat} (hn : n < 64) : x * 2 ^ n = x * 2 ^ n % 18446744073709551616 + 18446744073709551616 * (x / 2 ^ (64 - n)) := by
  have h1 := Xp (s := n) (by omega)
  have h2 : x * 2 ^ n / 18446744073709551616 = x / 2 ^ (64 - n) := by rw [← h1, Nat.mul_comm x, Nat.mul_div_mul_left _ _ (Nat.two_pow_pos n)]
  have h3 := Nat.div_add_mod (x * 2 ^ n) 18446744073709551616
  rw [h2] at h3
  omega
theorem shl_mult {x n : Nat} (hn : n < 64) : x * 2 ^ n % 18446744073709551616 = 2 ^ n * (x % 2 ^ (64 - n)) := by
  have h1 := Xp (s := n) (by omega)
  rw [← h1, Nat.mul_comm x, Nat.mul_mod_mul_left]
theorem up_or {x c n : Nat} (hn : n < 64) (hc : c < 2 ^ n) : (x * 2 ^ n % 18446744073709551616) ||| c = x * 2 ^ n % 18446744073709551616 + c := by rw [shl_mult hn, or_sum hc]
theorem cr_lt {d : List Nat} {n i : Nat} (hn : n < 64) (hd : ∀ e ∈ d, e < 18446744073709551616) : cr d n i < 2 ^ n := by
  unfold cr
  split
  · exact Nat.two_pow_pos n
  · rw [Nat.div_lt_iff_lt_mul (Nat.two_pow_pos _), Xp (by omega)]; exact ZR hd (by decide) _
theorem add_pow_lt {x n c : Nat} (hn : n < 64) (hc : c < 2 ^ n) : x * 2 ^ n % 18446744073709551616 + c < 18446744073709551616 := by
  have h := Nat.or_lt_two_pow (x := x * 2 ^ n % 18446744073709551616) (y := c) (n := 64) (Nat.mod_lt _ (by decide)) (Nat.lt_of_lt_of_le hc (Nat.pow_le_pow_right (by decide) (by omega)))
  rw [up_or hn hc] at h
  exact h
theorem up_sum {V P c X N o x c' : Nat} (h : V + P * c = X * N) (hx : x * N + c = o + 18446744073709551616 * c') : (V + P * o) + P * 18446744073709551616 * c' = (X + P * x) * N := by
  have e1 : P * (x * N + c) = P * (o + 18446744073709551616 * c') := by rw [hx]
  rw [Nat.mul_add, Nat.mul_add] at e1
  rw [Nat.add_mul, ← h, Nat.mul_assoc P x N, Nat.mul_assoc P]
  omega
theorem Zco.step {d us : List Nat} {n m i o : Nat} (h : Zco d us n m i) (hn : n < 64) (hd : ∀ e ∈ d, e < 18446744073709551616) (hi : i < m) (ho : o = d.getD i 0 * 2 ^ n % 18446744073709551616 + cr d n i) : Zco d (us.set i o) n m (i + 1) := by
  have hc := cr_lt (i := i) hn hd
  have hol : o < 18446744073709551616 := by rw [ho]; exact add_pow_lt hn hc
  have hlen : i < us.length := by rw [h.len]; exact hi
  have hle := hi
  have hr := h.rest
  refine ⟨by rw [List.length_set]; exact h.len, hle, ?_, ?_, Qo h.lt hol⟩
  · have hs := h.sum
    have e1 : val W64 ((us.set i o).take (i + 1)) = val W64 (us.take i) + W64 ^ i * o := by
      rw [Yy W64 _ i (by rw [List.length_set]; exact hlen), Zau, Ys hlen]
    have e2 : val W64 (d.take (i + 1)) = val W64 (d.take i) + W64 ^ i * d.getD i 0 := Yz d i
    have e3 : cr d n (i + 1) = d.getD i 0 / 2 ^ (64 - n) := by unfold cr; rw [if_neg (by omega), Nat.add_sub_cancel]
    have e4 : W64 ^ (i + 1) = W64 ^ i * W64 := Nat.pow_succ _ _
    rw [e1, e2, e3, e4]
    refine up_sum hs ?_
    rw [ho]
    have := shl_parts (x := d.getD i 0) hn
    omega
  · have h1 : (us.set i o).drop (i + 1) = us.drop (i + 1) := by rw [List.drop_set_of_lt (by omega)]
    have h2 : us.drop (i + 1) = (us.drop i).drop 1 := by rw [List.drop_drop]
    rw [h1, h2, hr, List.drop_replicate]
    congr 1
theorem Zco.done {d us : List Nat} {n m i : Nat} (h : Zco d us n m i) (hi : ¬ i < m) (hm : d.length ≤ m) : val W64 us + W64 ^ m * cr d n m = val W64 d * 2 ^ n := by
  have hle := h.le
  obtain rfl : i = m := by omega
  have hs := h.sum
  rw [List.take_of_length_le (by rw [h.len]; exact Nat.le_refl _), List.take_of_length_le hm] at hs
  exact hs
end Go.Cham
namespace Go.Cham
open Go Go.RowKit Go.Proofs
theorem XU {S : Sh} {w : World} (hS : Yw S w) {x : Nat} (hx : x < 18446744073709551616) : Calls Tryz.prog 162 [.int .u64 ((x : Nat) : Int)].toArray w (Ret S w (fun _ v => v = .int .i64 ((64 - ZF x : Nat) : Int))) := by
 have h := Zbe hS hx
 have e : (64 - ((ZF x : Nat) : Int)) = ((64 - ZF x : Nat) : Int) := by have := Zbu hx; omega
 rw [e] at h
 exact h
set_option maxRecDepth 20000 in
theorem Zal {S : Sh} {w : World} (hS : Yw S w) {h : Nat} {lo : Nat} {y : Nat} (hh : h < y) (hl : lo < 18446744073709551616) (hy : y < 18446744073709551616) : Calls Tryz.prog 161 [(.int .u64 ((h : Nat) : Int)), (.int .u64 ((lo : Nat) : Int)), (.int .u64 ((y : Nat) : Int))].toArray w (Ret S w (fun S v => v = .tuple [.int .u64 ((((h * 18446744073709551616 + lo) / y : Nat) : Int)), .int .u64 ((((h * 18446744073709551616 + lo) % y : Nat) : Int))].toArray)) := by
 refine ZT (n := 135) Tryz.func161 rfl rfl ?_
 intro ac0 L0
 replace L0 : Zz ac0 135 [(0, (.int .u64 ((h : Nat) : Int))), (1, (.int .u64 ((lo : Nat) : Int))), (2, (.int .u64 ((y : Nat) : Int)))] := L0
 have R0 : Run S w S [] w := .start hS
 have hbl := Zbu hy
 refine wp_seq (Za (so L0 rfl (Zc L0 rfl ?_)))
 intro _ L1
 refine so L1 rfl (Zc L1 rfl fun _ L2 => (sn (wp_seq (wp_seq (Za (so L2 rfl (Zb L2 rfl fun _ L3 => ?_)))))))
 have t1 : ¬ (((y : Nat) : Int) = (0 : Int)) := by omega
 refine so L3 rfl (Zf (b := false) (decide_eq_false t1) (fun _ k_ => ZY L3 rfl rfl k_) fun _ L4 => (sn (Zn L4 rfl rfl (wp_skip ((Ze (wp_seq (wp_seq (Za (so L4 rfl (Zb L4 rfl fun _ L5 => (so L5 rfl (Zb L5 rfl fun _ L6 => ?_)))))))))))))
 have t2 : ¬ (((y : Nat) : Int) ≤ ((h : Nat) : Int)) := by omega
 refine so L6 rfl (Zf (b := false) (decide_eq_false t2) (fun _ k_ => Qu L6 rfl rfl k_) fun _ L7 => (sn (Zn L7 rfl rfl (wp_skip ((Ze (wp_seq (wp_seq (Za (so L7 rfl (Zb L7 rfl fun _ L8 => ?_)))))))))))
 by_cases t3 : ((h : Nat) : Int) = (0 : Int)
 ·refine so L8 rfl (Zf (b := true) (decide_eq_true t3) (fun _ k_ => ZY L8 rfl rfl k_) fun _ L9 => ?_)
  have L10 := (L9.kp [0, 1, 2, 6, 7, 27] rfl); clear L9
  refine sn (Zs L10 rfl rfl (wp_seq ?_))
  have L11 := (L10.kp [0, 1, 2, 7] rfl)
  refine Zy (E0 := []) (H0 := []) (n := 135) mixed 7 [] (fun k =>  0) (Zaf [
    .is (.int .u64 ((lo : Nat) : Int)),
    .is (.int .u64 ((y : Nat) : Int)),
    .is (.int .u64 (((lo : Nat) : Int) / ((y : Nat) : Int))),
    .is (.int .u64 ((lo : Nat) : Int)),
    .is (.int .u64 ((y : Nat) : Int)),
    .is (.int .u64 (((lo : Nat) : Int) % ((y : Nat) : Int))),
    .is (.int .u64 (((lo : Nat) : Int) / ((y : Nat) : Int)))]) L11 R0 (by simp) (by simp) (by rfl) (by rfl) (by simp) (ZU ?_) ?_
  ·refine (And.intro ?_ (And.intro ?_ (And.intro ?_ (And.intro ?_ (And.intro ?_ (And.intro ?_ (And.intro ?_ trivial)))))))
   ·exact Zd rfl (fun _ _ _ _ _ A1 => (Zb A1.live rfl (A1.same  rfl)))
   ·exact Zd rfl (fun _ _ _ _ _ A2 => (Zb A2.live rfl (A2.same  rfl)))
   ·refine Zd rfl (fun _ _ _ _ _ A3 => ?_)
    obtain ⟨_, e1, rfl⟩ := A3.known 0 rfl
    obtain ⟨_, e2, rfl⟩ := A3.known 1 rfl
    exact Za8 (z := (((lo : Nat) : Int) / ((y : Nat) : Int))) ((A3.live.add e1).add e2) rfl rfl (by omega) (quo_nn (k := .u64) (by omega) (by omega) (show _ ≤ (18446744073709551615 : Int) by omega)) (A3.same  rfl)
   ·exact Zd rfl (fun _ _ _ _ _ A4 => (Zb A4.live rfl (A4.same  rfl)))
   ·exact Zd rfl (fun _ _ _ _ _ A5 => (Zb A5.live rfl (A5.same  rfl)))
   ·refine Zd rfl (fun _ _ _ _ _ A6 => ?_)
    obtain ⟨_, e3, rfl⟩ := A6.known 3 rfl
    obtain ⟨_, e4, rfl⟩ := A6.known 4 rfl
    exact Za7 (z := (((lo : Nat) : Int) % ((y : Nat) : Int))) ((A6.live.add e3).add e4) rfl rfl (by omega) (rem_nn (by omega)) (A6.same  rfl)
   ·refine Zd rfl (fun _ _ _ _ _ A7 => ?_)
    obtain ⟨_, e5, rfl⟩ := A7.known 2 rfl
    exact Zc (A7.live.add e5) rfl (A7.same  rfl)
  ·intro S8 _ _ w8 l1 E1 R1 n1 L19 K1
   obtain ⟨_, e6, rfl⟩ := K1 5 (by decide)
   have L20 := L19.add e6; clear L19
   obtain ⟨_, e7, rfl⟩ := K1 6 (by decide)
   have L21 := L20.add e7; clear L20
   have R2 : Run _ _ S8 [] w8 := Yc R1 n1 [] (by simp) (by simp)
   exact so L21 rfl (Zc L21 rfl fun _ L22 => (sn (wp_ret ((ZE (Zv (rs := Tryz.f161.results.toList) L22 rfl (.tmp rfl (.tmp rfl Res.nil)) (⟨_, _, rfl, R2.ext, (by exact int_eq2 (by rw [show h = 0 by omega, Nat.zero_mul, Nat.zero_add]; simp) (by rw [show h = 0 by omega, Nat.zero_mul, Nat.zero_add]; simp))⟩)))))))
 ·refine so L8 rfl (Zf (b := false) (decide_eq_false t3) (fun _ k_ => ZY L8 rfl rfl k_) fun _ L23 => ?_)
  have L24 := (L23.kp [0, 1, 2, 6, 7, 27] rfl); clear L23
  refine sn (Zn L24 rfl rfl (wp_skip ((Ze (wp_seq (Za (so L24 rfl (Zb L24 rfl ?_))))))))
  intro _ L25
  refine so L25 rfl (Zp L25 rfl ent_162 (XU R0.holds (x := y)    (hy)) fun v_1 S9 _ x1 v1 => ?_)
  have R3 := R0.call x1
  obtain rfl := v1
  intro _ L26
  refine so L26 rfl (Qv (z := (((64 - ZF y : Nat) : Int))) L26 rfl rfl Tryz.underlying194 (IntWalk.u64_in _ (by omega)) fun _ L27 => (so L27 rfl (Zc L27 rfl fun _ L28 => (sn (wp_seq (Za (so L28 rfl (Zb L28 rfl fun _ L29 => (so L29 rfl (Zb L29 rfl fun _ L30 => (so L30 rfl (QH (i := y) (s := ((64 - ZF y))) L30 rfl rfl (by omega) fun _ L31 => ?_))))))))))))
  refine so L31 rfl (Zc L31 rfl fun _ L32 => ?_)
  have L33 := (L32.kp [0, 1, 2, 6, 7, 8] rfl); clear L32
  refine sn (wp_seq (Za (so L33 rfl (Zb L33 rfl ?_))))
  intro _ L34
  refine so L34 rfl (Xy (i := (y * 2 ^ ((64 - ZF y)) % 18446744073709551616)) (s := 32) L34 rfl rfl (by omega) fun _ L35 => (so L35 rfl (Zc L35 rfl fun _ L36 => (sn (wp_seq (Za (so L36 rfl (Zb L36 rfl fun _ L37 => (so L37 rfl (does_and32 (i := (y * 2 ^ ((64 - ZF y)) % 18446744073709551616)) L37 rfl rfl (by omega) fun _ L38 => (so L38 rfl (Zc L38 rfl fun _ L39 => ?_))))))))))))
  refine sn (wp_seq (Za (so L39 rfl (Zb L39 rfl ?_))))
  intro _ L40
  refine so L40 rfl (Zb L40 rfl fun _ L41 => (so L41 rfl (QH (i := h) (s := ((64 - ZF y))) L41 rfl rfl (by omega) fun _ L42 => (so L42 rfl (Zb L42 rfl fun _ L43 => (so L43 rfl (Zb L43 rfl fun _ L44 => (so L44 rfl (ZS (z := ((64 - (64 - ZF y) : Nat) : Int)) L44 rfl rfl (u64_to (by omega) (by omega)) fun _ L45 => (so L45 rfl (Xy (i := lo) (s := (64 - (64 - ZF y))) L45 rfl rfl (by omega) fun _ L46 => (so L46 rfl (Zcc (i := (h * 2 ^ ((64 - ZF y)) % 18446744073709551616)) (j := (lo / 2 ^ (64 - (64 - ZF y)))) (z := (h * 2 ^ ((64 - ZF y)) % 18446744073709551616) ||| (lo / 2 ^ (64 - (64 - ZF y)))) L46 rfl rfl (by omega) (by exact Nat.lt_of_le_of_lt (Nat.div_le_self _ _) hl) rfl fun _ L47 => ?_)))))))))))))
  refine so L47 rfl (Zc L47 rfl fun _ L48 => ?_)
  have L49 := (L48.kp [1, 2, 6, 7, 8, 9, 10, 11] rfl); clear L48
  refine sn (wp_seq (Za (so L49 rfl (Zb L49 rfl ?_))))
  intro _ L50
  refine so L50 rfl (Zb L50 rfl fun _ L51 => (so L51 rfl (QH (i := lo) (s := ((64 - ZF y))) L51 rfl rfl (by omega) fun _ L52 => (so L52 rfl (Zc L52 rfl fun _ L53 => (sn (wp_seq (Za (so L53 rfl (Zb L53 rfl fun _ L54 => (so L54 rfl (Xy (i := (lo * 2 ^ ((64 - ZF y)) % 18446744073709551616)) (s := 32) L54 rfl rfl (by omega) fun _ L55 => ?_))))))))))))
  refine so L55 rfl (Zc L55 rfl fun _ L56 => ?_)
  have L57 := (L56.kp [2, 6, 7, 8, 9, 10, 11, 12, 13] rfl); clear L56
  refine sn ?_
  refine XG (fun ac ww => ∃ (S' : Sh) (Y : Nat) (s : Nat) (v : Nat) (wl : Nat) (u : Nat) (z1 : Nat) (z0 : Nat), S9.le S' ∧ Zz ac 135 [(6, (.int .u64 (0 : Int))), (7, (.int .u64 (0 : Int))), (2, (.int .u64 ((Y : Nat) : Int))), (8, (.int .u64 ((s : Nat) : Int))), (9, (.int .u64 ((v : Nat) : Int))), (10, (.int .u64 ((wl : Nat) : Int))), (11, (.int .u64 ((u : Nat) : Int))), (13, (.int .u64 ((z1 : Nat) : Int))), (14, (.int .u64 ((z0 : Nat) : Int)))] ∧ Run S w S' [] ww ∧ (Norm h lo y s Y v wl u z1 z0)) ?_ ?_
  ·rintro ac1 _ ⟨S10, Y, s, v, wl, u, z1, z0, l3, L58, R4, N⟩
   have hs := N.hs; have hY2 := N.hY2; have hvw := N.hv; have hw := N.hw; have hv2 := N.hv2; have hz_z1 := N.hz1; have hz_z0 := N.hz0; have hu2 := N.hu2
   have hu_u : u < v * 4294967296 + wl := by omega
   refine XG (fun ac ww => ∃ (S' : Sh) (qa : Nat), S10.le S' ∧ Zz ac 135 [(6, (.int .u64 (0 : Int))), (7, (.int .u64 (0 : Int))), (2, (.int .u64 ((Y : Nat) : Int))), (8, (.int .u64 ((s : Nat) : Int))), (9, (.int .u64 ((v : Nat) : Int))), (10, (.int .u64 ((wl : Nat) : Int))), (11, (.int .u64 ((u : Nat) : Int))), (13, (.int .u64 ((z1 : Nat) : Int))), (14, (.int .u64 ((z0 : Nat) : Int))), (15, (.int .u64 ((qa : Nat) : Int)))] ∧ Run S w S' [] ww ∧ (qa = u / v)) ?_ ?_
   ·rintro ac2 _ ⟨S11, qa, l4, L59, R5, hqa0⟩
    obtain ⟨hqa3, hqa4⟩ := mod_hint hqa0 (by omega)
    refine XG (fun ac ww => ∃ (S' : Sh) (qa' : Nat) (ra' : Nat), S11.le S' ∧ Zz ac 135 [(6, (.int .u64 (0 : Int))), (7, (.int .u64 (0 : Int))), (2, (.int .u64 ((Y : Nat) : Int))), (8, (.int .u64 ((s : Nat) : Int))), (9, (.int .u64 ((v : Nat) : Int))), (10, (.int .u64 ((wl : Nat) : Int))), (11, (.int .u64 ((u : Nat) : Int))), (13, (.int .u64 ((z1 : Nat) : Int))), (14, (.int .u64 ((z0 : Nat) : Int))), (15, (.int .u64 ((qa' : Nat) : Int))), (16, (.int .u64 ((ra' : Nat) : Int)))] ∧ Run S w S' [] ww ∧ (qa' * v + ra' = u) ∧ (ra' < v)) ?_ ?_
    ·rintro ac3 _ ⟨S12, qa', ra', l5, L60, R6, hqa'1, hqa'2⟩
     refine XG (fun ac ww => ∃ (S' : Sh) (qb : Nat), S12.le S' ∧ Zz ac 135 [(6, (.int .u64 (0 : Int))), (7, (.int .u64 (0 : Int))), (2, (.int .u64 ((Y : Nat) : Int))), (8, (.int .u64 ((s : Nat) : Int))), (9, (.int .u64 ((v : Nat) : Int))), (10, (.int .u64 ((wl : Nat) : Int))), (11, (.int .u64 ((u : Nat) : Int))), (13, (.int .u64 ((z1 : Nat) : Int))), (14, (.int .u64 ((z0 : Nat) : Int))), (15, (.int .u64 ((qb : Nat) : Int)))] ∧ Run S w S' [] ww ∧ (qb * (v * 4294967296 + wl) ≤ u * 4294967296 + z1) ∧ (u * 4294967296 + z1 < (qb + 1) * (v * 4294967296 + wl))) ?_ ?_
     ·rintro ac4 _ ⟨S13, qb, l6, L61, R7, hqb1, hqb2⟩
      rw [← hvw] at hqb1 hqb2
      have hqb5 := dq_lt hqb1 hz_z1 (by omega)
      rw [Nat.add_mul, Nat.one_mul] at hqb2
      refine XG (fun ac ww => ∃ (S' : Sh) (ub : Nat), S13.le S' ∧ Zz ac 135 [(6, (.int .u64 (0 : Int))), (7, (.int .u64 (0 : Int))), (2, (.int .u64 ((Y : Nat) : Int))), (8, (.int .u64 ((s : Nat) : Int))), (9, (.int .u64 ((v : Nat) : Int))), (10, (.int .u64 ((wl : Nat) : Int))), (14, (.int .u64 ((z0 : Nat) : Int))), (15, (.int .u64 ((qb : Nat) : Int))), (17, (.int .u64 ((ub : Nat) : Int)))] ∧ Run S w S' [] ww ∧ (ub + qb * Y = u * 4294967296 + z1)) ?_ ?_
      ·rintro ac5 _ ⟨S14, ub, l7, L62, R8, hub⟩
       have hubY : ub < Y := by omega
       have hu_ub : ub < v * 4294967296 + wl := by omega
       refine XG (fun ac ww => ∃ (S' : Sh) (qc : Nat), S14.le S' ∧ Zz ac 135 [(6, (.int .u64 (0 : Int))), (7, (.int .u64 (0 : Int))), (2, (.int .u64 ((Y : Nat) : Int))), (8, (.int .u64 ((s : Nat) : Int))), (9, (.int .u64 ((v : Nat) : Int))), (10, (.int .u64 ((wl : Nat) : Int))), (14, (.int .u64 ((z0 : Nat) : Int))), (15, (.int .u64 ((qb : Nat) : Int))), (17, (.int .u64 ((ub : Nat) : Int))), (18, (.int .u64 ((qc : Nat) : Int)))] ∧ Run S w S' [] ww ∧ (qc = ub / v)) ?_ ?_
       ·rintro ac6 _ ⟨S15, qc, l8, L63, R9, hqc0⟩
        obtain ⟨hqc3, hqc4⟩ := mod_hint hqc0 (by omega)
        refine XG (fun ac ww => ∃ (S' : Sh) (qc' : Nat) (rc' : Nat), S15.le S' ∧ Zz ac 135 [(6, (.int .u64 (0 : Int))), (7, (.int .u64 (0 : Int))), (2, (.int .u64 ((Y : Nat) : Int))), (8, (.int .u64 ((s : Nat) : Int))), (9, (.int .u64 ((v : Nat) : Int))), (10, (.int .u64 ((wl : Nat) : Int))), (14, (.int .u64 ((z0 : Nat) : Int))), (15, (.int .u64 ((qb : Nat) : Int))), (17, (.int .u64 ((ub : Nat) : Int))), (18, (.int .u64 ((qc' : Nat) : Int))), (16, (.int .u64 ((rc' : Nat) : Int)))] ∧ Run S w S' [] ww ∧ (qc' * v + rc' = ub) ∧ (rc' < v)) ?_ ?_
        ·rintro ac7 _ ⟨S16, qc', rc', l9, L64, R10, hqc'1, hqc'2⟩
         refine XG (fun ac ww => ∃ (S' : Sh) (qd : Nat), S16.le S' ∧ Zz ac 135 [(6, (.int .u64 (0 : Int))), (7, (.int .u64 (0 : Int))), (2, (.int .u64 ((Y : Nat) : Int))), (8, (.int .u64 ((s : Nat) : Int))), (14, (.int .u64 ((z0 : Nat) : Int))), (15, (.int .u64 ((qb : Nat) : Int))), (17, (.int .u64 ((ub : Nat) : Int))), (18, (.int .u64 ((qd : Nat) : Int)))] ∧ Run S w S' [] ww ∧ (qd * (v * 4294967296 + wl) ≤ ub * 4294967296 + z0) ∧ (ub * 4294967296 + z0 < (qd + 1) * (v * 4294967296 + wl))) ?_ ?_
         ·rintro ac8 _ ⟨_, qd, l10, L65, R11, hqd1, hqd2⟩
          rw [← hvw] at hqd1 hqd2
          have hqd5 := dq_lt hqd1 hz_z0 (by omega)
          rw [Nat.add_mul, Nat.one_mul] at hqd2
          refine wp_seq (Za (so L65 rfl (Zb L65 rfl ?_)))
          intro _ L66
          refine so L66 rfl (Xa (z := (((qb : Nat) : Int) * (4294967296 : Int))) L66 rfl rfl (IntWalk.u64_in _ (by omega)) fun _ L67 => (so L67 rfl (Zb L67 rfl fun _ L68 => (so L68 rfl (ZK (z := ((((qb : Nat) : Int) * (4294967296 : Int)) + ((qd : Nat) : Int))) L68 rfl rfl (IntWalk.u64_in _ (by omega)) fun _ L69 => (so L69 rfl (Zb L69 rfl fun _ L70 => (so L70 rfl (Xa (z := ((ub * 4294967296 % 18446744073709551616 : Nat) : Int)) L70 rfl rfl (Zb1 (x := ub) (y := 4294967296)) fun _ L71 => (so L71 rfl (Zb L71 rfl fun _ L72 => (so L72 rfl (ZK (z := ((((ub * 4294967296 % 18446744073709551616) + z0) % 18446744073709551616 : Nat) : Int)) L72 rfl rfl (u64_wrapA (x := (ub * 4294967296 % 18446744073709551616)) (y := z0)) fun _ L73 => ?_)))))))))))))
          refine so L73 rfl (Zb L73 rfl fun _ L74 => (so L74 rfl (Zb L74 rfl fun _ L75 => (so L75 rfl (Xa (z := ((qd * Y % 18446744073709551616 : Nat) : Int)) L75 rfl rfl (Zb1 (x := qd) (y := Y)) fun _ L76 => (so L76 rfl (ZS (z := ((((((ub * 4294967296 % 18446744073709551616) + z0) % 18446744073709551616) + 18446744073709551616 - (qd * Y % 18446744073709551616)) % 18446744073709551616 : Nat) : Int)) L76 rfl rfl (u64_wrapS (x := (((ub * 4294967296 % 18446744073709551616) + z0) % 18446744073709551616)) (y := (qd * Y % 18446744073709551616)) (by omega)) fun _ L77 => (so L77 rfl (Zb L77 rfl fun _ L78 => (so L78 rfl (Xy (i := (((((ub * 4294967296 % 18446744073709551616) + z0) % 18446744073709551616) + 18446744073709551616 - (qd * Y % 18446744073709551616)) % 18446744073709551616)) (s := s) L78 rfl rfl (by omega) fun _ L79 => (so L79 rfl (Zc L79 rfl fun _ L80 => ?_)))))))))))))
          refine so L80 rfl (Zc L80 rfl fun _ L81 => (sn (wp_ret ((Zv (rs := Tryz.f161.results.toList) (L81.kp [6, 7] rfl) rfl (.tmp rfl (.tmp rfl Res.nil)) ?_)))))
          have hub0 := norm_u21 hqd1 hqd2 (by omega)
          obtain ⟨hq_, hr_⟩ := div64_done N hub hub0 (by omega) (by omega)
          exact ⟨_, _, rfl, R11.ext, (by rw [← hq_, ← hr_]; exact int_eq2 (by omega) rfl)⟩
         ·skip
          refine wp_block ?_
          refine ZZ (fun m ac ww => ∃ (S' : Sh) (q2 : Nat) (r2 : Nat), S16.le S' ∧ Zz ac 135 [(6, (.int .u64 (0 : Int))), (7, (.int .u64 (0 : Int))), (2, (.int .u64 ((Y : Nat) : Int))), (8, (.int .u64 ((s : Nat) : Int))), (9, (.int .u64 ((v : Nat) : Int))), (10, (.int .u64 ((wl : Nat) : Int))), (14, (.int .u64 ((z0 : Nat) : Int))), (15, (.int .u64 ((qb : Nat) : Int))), (17, (.int .u64 ((ub : Nat) : Int))), (18, (.int .u64 ((q2 : Nat) : Int))), (16, (.int .u64 ((r2 : Nat) : Int)))] ∧ Run S w S' [] ww ∧ (q2 * v + r2 = ub) ∧ (r2 < 4294967296) ∧ (ub * 4294967296 + z0 < (q2 + 1) * (v * 4294967296 + wl)) ∧ (q2 ≤ 4294967297) ∧ m = q2)
           (qc') ⟨S16, qc', rc', Sh.le.refl _, (L64.kp [16, 18, 17, 15, 14, 10, 9, 8, 2, 7, 6] rfl), R10, (by exact hqc'1), (by omega), (by exact dq_init hqc'1 hqc'2 hz_z0), (by exact dq_small hqc'1 hu_ub hw hv2), rfl⟩ ?_
          rintro m_1 ac9 _ ⟨S18, q2, r2, l11, L83, R12, hE, hEr, hEu, hEk, m1⟩
          refine wp_seq (wp_seq ?_)
          have hqw : q2 < 4294967296 → q2 * wl ≤ 4294967295 * 4294967295 := fun h => Nat.mul_le_mul (by omega) (by omega)
          refine Za (so L83 rfl (Zb L83 rfl ?_))
          intro _ L84
          by_cases t4 : (4294967296 : Int) ≤ ((q2 : Nat) : Int)
          ·refine so L84 rfl (Zf (b := true) (decide_eq_true t4) (fun _ k_ => YA L84 rfl rfl k_) fun _ L85 => (so L85 rfl (Zb L85 rfl fun _ L86 => (Zm L86 rfl rfl rfl rfl rfl rfl fun _ L87 => (Zm L87 rfl rfl rfl rfl rfl rfl fun _ L88 => (Zm L88 rfl rfl rfl rfl rfl rfl fun _ L89 => (Zm L89 rfl rfl rfl rfl rfl rfl fun _ L90 => (Zm L90 rfl rfl rfl rfl rfl rfl fun _ L91 => ?_))))))))
           refine Zm L91 rfl rfl rfl rfl rfl rfl fun _ L92 => (Zm L92 rfl rfl rfl rfl rfl rfl fun _ L93 => (Zm L93 rfl rfl rfl rfl rfl rfl fun _ L94 => (so L94 rfl (Zj L94 rfl rfl fun _ L95 => ?_))))
           have L96 := (L95.kp [6, 7, 2, 8, 9, 10, 14, 15, 17, 18, 16, 102, 103, 104, 113] rfl); clear L95
           refine sn (Zs L96 rfl rfl (wp_skip ((Ze (wp_block (wp_seq ?_))))))
           have hor : 4294967296 ≤ q2 ∨ r2 * 4294967296 + z0 < q2 * wl := by omega
           obtain ⟨hE0, hE', hEu'⟩ := dq_step hE hz_z0 hu_ub hor
           refine Za (so L96 rfl (Zb L96 rfl ?_))
           intro _ L97
           refine so L97 rfl (ZS (z := (((q2 : Nat) : Int) - (1 : Int))) L97 rfl rfl (IntWalk.u64_in _ (by omega)) fun _ L98 => (so L98 rfl (Zc L98 rfl fun _ L99 => (sn (wp_seq (Za (so L99 rfl (Zb L99 rfl fun _ L100 => (so L100 rfl (Zb L100 rfl fun _ L101 => (so L101 rfl (ZK (z := (((r2 : Nat) : Int) + ((v : Nat) : Int))) L101 rfl rfl (IntWalk.u64_in _ (by omega)) fun _ L102 => ?_))))))))))))
           refine so L102 rfl (Zc L102 rfl fun _ L103 => (sn (wp_seq (Za (so L103 rfl (Zb L103 rfl fun _ L104 => ?_))))))
           by_cases t5 : (4294967296 : Int) ≤ (((r2 : Nat) : Int) + ((v : Nat) : Int))
           ·refine so L104 rfl (Zf (b := true) (decide_eq_true t5) (fun _ k_ => YA L104 rfl rfl k_) fun a86 L105 => (sn (Zs L105 rfl rfl (wp_exit ((in_miss rfl (ZA (YB (Ze ?_)))))))))
            have e8 : ((((q2 : Nat) : Int) - (1 : Int)) : Int) = (((q2 - 1) : Nat) : Int) := by first | omega | simp
            have L106 : Zz a86 135 [(18, (.int .u64 (((q2 - 1) : Nat) : Int)))] := by have q := (L105.kp [18] rfl); rw [e8] at q; exact q
            exact ⟨S18, (q2 - 1), l11, (L105.keep (L105.keep (L105.keep (L105.keep (L105.keep (L105.keep (L105.keep (L106.keep (Zz.none _ L105) (t := 18) rfl) (t := 17) rfl) (t := 15) rfl) (t := 14) rfl) (t := 8) rfl) (t := 2) rfl) (t := 7) rfl) (t := 6) rfl), R12, (by first | exact Xq hE' hw (by omega) (by omega) | exact Qj hE (by omega)), (by first | exact hEu' | exact hEu)⟩
           ·refine so L104 rfl (Zf (b := false) (decide_eq_false t5) (fun _ k_ => YA L104 rfl rfl k_) fun a87 L107 => (sn (Zn L107 rfl rfl (wp_skip ((ZI (Ze ?_)))))))
            have e9 : ((((q2 : Nat) : Int) - (1 : Int)) : Int) = (((q2 - 1) : Nat) : Int) := by first | omega | simp
            have L108 : Zz a87 135 [(18, (.int .u64 (((q2 - 1) : Nat) : Int)))] := by have q := (L107.kp [18] rfl); rw [e9] at q; exact q
            have e10 : ((((r2 : Nat) : Int) + ((v : Nat) : Int)) : Int) = (((r2 + v) : Nat) : Int) := by first | omega | simp
            have L109 : Zz a87 135 [(16, (.int .u64 (((r2 + v) : Nat) : Int)))] := by have q := (L107.kp [16] rfl); rw [e10] at q; exact q
            exact ⟨(q2 - 1), (by omega), S18, (q2 - 1), (r2 + v), l11, (L107.keep (L107.keep (L107.keep (L107.keep (L107.keep (L107.keep (L107.keep (L107.keep (L107.keep (L108.keep (L109.keep (Zz.none _ L107) (t := 16) rfl) (t := 18) rfl) (t := 17) rfl) (t := 15) rfl) (t := 14) rfl) (t := 10) rfl) (t := 9) rfl) (t := 8) rfl) (t := 2) rfl) (t := 7) rfl) (t := 6) rfl), R12, (by exact hE'), (by omega), (by exact hEu'), (by omega), rfl⟩
          ·refine so L84 rfl (Zf (b := false) (decide_eq_false t4) (fun _ k_ => YA L84 rfl rfl k_) fun _ L110 => (so L110 rfl (Zb L110 rfl fun _ L111 => (Zr L111 rfl rfl rfl rfl rfl (Zb L111 rfl fun _ L112 => (Zr L112 rfl rfl rfl rfl rfl (Zb L112 rfl fun _ L113 => (Zr L113 rfl rfl rfl rfl rfl (Xa (z := (((q2 : Nat) : Int) * ((wl : Nat) : Int))) L113 rfl rfl (IntWalk.u64_in _ (by omega)) fun _ L114 => (Zr L114 rfl rfl rfl rfl rfl (Zb L114 rfl fun _ L115 => (Zr L115 rfl rfl rfl rfl rfl (Xa (z := ((4294967296 : Int) * ((r2 : Nat) : Int))) L115 rfl rfl (IntWalk.u64_in _ (by omega)) fun _ L116 => ?_)))))))))))))
           refine Zr L116 rfl rfl rfl rfl rfl (Zb L116 rfl fun _ L117 => (Zr L117 rfl rfl rfl rfl rfl (ZK (z := (((4294967296 : Int) * ((r2 : Nat) : Int)) + ((z0 : Nat) : Int))) L117 rfl rfl (IntWalk.u64_in _ (by omega)) fun _ L118 => ?_)))
           by_cases t6 : (((4294967296 : Int) * ((r2 : Nat) : Int)) + ((z0 : Nat) : Int)) < (((q2 : Nat) : Int) * ((wl : Nat) : Int))
           ·refine Zr L118 rfl rfl rfl rfl rfl (Zf (b := true) (decide_eq_true t6) (fun _ k_ => ZP L118 rfl rfl k_) fun _ L119 => (so L119 rfl (Zj L119 rfl rfl fun _ L120 => (sn (Zs L120 rfl rfl (wp_skip ((Ze (wp_block (wp_seq ?_))))))))))
            have hor : 4294967296 ≤ q2 ∨ r2 * 4294967296 + z0 < q2 * wl := by omega
            obtain ⟨hE0, hE', hEu'⟩ := dq_step hE hz_z0 hu_ub hor
            refine Za (so L120 rfl (Zb L120 rfl ?_))
            intro _ L121
            refine so L121 rfl (ZS (z := (((q2 : Nat) : Int) - (1 : Int))) L121 rfl rfl (IntWalk.u64_in _ (by omega)) fun _ L122 => (so L122 rfl (Zc L122 rfl fun _ L123 => (sn (wp_seq (Za (so L123 rfl (Zb L123 rfl fun _ L124 => (so L124 rfl (Zb L124 rfl fun _ L125 => (so L125 rfl (ZK (z := (((r2 : Nat) : Int) + ((v : Nat) : Int))) L125 rfl rfl (IntWalk.u64_in _ (by omega)) fun _ L126 => ?_))))))))))))
            refine so L126 rfl (Zc L126 rfl fun _ L127 => (sn (wp_seq (Za (so L127 rfl (Zb L127 rfl fun _ L128 => ?_))))))
            by_cases t7 : (4294967296 : Int) ≤ (((r2 : Nat) : Int) + ((v : Nat) : Int))
            ·refine so L128 rfl (Zf (b := true) (decide_eq_true t7) (fun _ k_ => YA L128 rfl rfl k_) fun a107 L129 => (sn (Zs L129 rfl rfl (wp_exit ((in_miss rfl (ZA (YB (Ze ?_)))))))))
             have e11 : ((((q2 : Nat) : Int) - (1 : Int)) : Int) = (((q2 - 1) : Nat) : Int) := by first | omega | simp
             have L130 : Zz a107 135 [(18, (.int .u64 (((q2 - 1) : Nat) : Int)))] := by have q := (L129.kp [18] rfl); rw [e11] at q; exact q
             exact ⟨S18, (q2 - 1), l11, (L129.keep (L129.keep (L129.keep (L129.keep (L129.keep (L129.keep (L129.keep (L130.keep (Zz.none _ L129) (t := 18) rfl) (t := 17) rfl) (t := 15) rfl) (t := 14) rfl) (t := 8) rfl) (t := 2) rfl) (t := 7) rfl) (t := 6) rfl), R12, (by first | exact Xq hE' hw (by omega) (by omega) | exact Qj hE (by omega)), (by first | exact hEu' | exact hEu)⟩
            ·refine so L128 rfl (Zf (b := false) (decide_eq_false t7) (fun _ k_ => YA L128 rfl rfl k_) fun a108 L131 => (sn (Zn L131 rfl rfl (wp_skip ((ZI (Ze ?_)))))))
             have e12 : ((((q2 : Nat) : Int) - (1 : Int)) : Int) = (((q2 - 1) : Nat) : Int) := by first | omega | simp
             have L132 : Zz a108 135 [(18, (.int .u64 (((q2 - 1) : Nat) : Int)))] := by have q := (L131.kp [18] rfl); rw [e12] at q; exact q
             have e13 : ((((r2 : Nat) : Int) + ((v : Nat) : Int)) : Int) = (((r2 + v) : Nat) : Int) := by first | omega | simp
             have L133 : Zz a108 135 [(16, (.int .u64 (((r2 + v) : Nat) : Int)))] := by have q := (L131.kp [16] rfl); rw [e13] at q; exact q
             exact ⟨(q2 - 1), (by omega), S18, (q2 - 1), (r2 + v), l11, (L131.keep (L131.keep (L131.keep (L131.keep (L131.keep (L131.keep (L131.keep (L131.keep (L131.keep (L132.keep (L133.keep (Zz.none _ L131) (t := 16) rfl) (t := 18) rfl) (t := 17) rfl) (t := 15) rfl) (t := 14) rfl) (t := 10) rfl) (t := 9) rfl) (t := 8) rfl) (t := 2) rfl) (t := 7) rfl) (t := 6) rfl), R12, (by exact hE'), (by omega), (by exact hEu'), (by omega), rfl⟩
           ·exact Zr L118 rfl rfl rfl rfl rfl (Zf (b := false) (decide_eq_false t6) (fun _ k_ => ZP L118 rfl rfl k_) fun _ L134 => (so L134 rfl (Zj L134 rfl rfl fun _ L135 => (sn (Zn L135 rfl rfl (wp_exit ((ZA (ZA (YB (Ze (⟨S18, q2, l11, (L135.kp [18, 17, 15, 14, 8, 2, 7, 6] rfl), R12, (by first | exact Xq hE' hw (by omega) (by omega) | exact Qj hE (by omega)), (by first | exact hEu' | exact hEu)⟩))))))))))))
        ·skip
         refine Za (so L63 rfl (Zb L63 rfl ?_))
         intro _ L136
         refine so L136 rfl (Zb L136 rfl fun _ L137 => (so L137 rfl (Zb L137 rfl fun _ L138 => (so L138 rfl (Xa (z := (((qc : Nat) : Int) * ((v : Nat) : Int))) L138 rfl rfl (IntWalk.u64_in _ (by omega)) fun _ L139 => (so L139 rfl (ZS (z := (((ub : Nat) : Int) - (((qc : Nat) : Int) * ((v : Nat) : Int)))) L139 rfl rfl (IntWalk.u64_in _ (by omega)) fun _ L140 => (so L140 rfl (Zc L140 rfl fun a116 L141 => ?_)))))))))
         have L142 := (L141.kp [6, 7, 2, 8, 9, 10, 14, 15, 17, 18, 16] rfl); clear L141
         refine sn ?_
         have e14 : ((((ub : Nat) : Int) - (((qc : Nat) : Int) * ((v : Nat) : Int))) : Int) = (((ub - (qc * v)) : Nat) : Int) := by first | omega | simp
         have L143 : Zz a116 135 [(16, (.int .u64 (((ub - (qc * v)) : Nat) : Int)))] := by have q := (L142.kp [16] rfl); rw [e14] at q; exact q
         exact ⟨S15, qc, (ub - (qc * v)), Sh.le.refl _, (L142.keep (L142.keep (L142.keep (L142.keep (L142.keep (L142.keep (L142.keep (L142.keep (L142.keep (L142.keep (L143.keep (Zz.none _ L142) (t := 16) rfl) (t := 18) rfl) (t := 17) rfl) (t := 15) rfl) (t := 14) rfl) (t := 10) rfl) (t := 9) rfl) (t := 8) rfl) (t := 2) rfl) (t := 7) rfl) (t := 6) rfl), R9, (by omega), (by omega)⟩
       ·skip
        refine Za (so L62 rfl (Zb L62 rfl ?_))
        intro _ L144
        refine so L144 rfl (Zb L144 rfl fun _ L145 => (so L145 rfl (Za8 (z := (((ub : Nat) : Int) / ((v : Nat) : Int))) L145 rfl rfl (by omega) (quo_nn (k := .u64) (by omega) (by omega) (show _ ≤ (18446744073709551615 : Int) by omega)) fun _ L146 => (so L146 rfl (Zc L146 rfl fun a120 L147 => (sn ?_))))))
        have e15 : ((((ub : Nat) : Int) / ((v : Nat) : Int)) : Int) = (((ub / v) : Nat) : Int) := by first | omega | simp
        have L148 : Zz a120 135 [(18, (.int .u64 (((ub / v) : Nat) : Int)))] := by have q := (L147.kp [18] rfl); rw [e15] at q; exact q
        exact ⟨S14, (ub / v), Sh.le.refl _, (L147.keep (L147.keep (L147.keep (L147.keep (L147.keep (L147.keep (L147.keep (L147.keep (L147.keep (L148.keep (Zz.none _ L147) (t := 18) rfl) (t := 17) rfl) (t := 15) rfl) (t := 14) rfl) (t := 10) rfl) (t := 9) rfl) (t := 8) rfl) (t := 2) rfl) (t := 7) rfl) (t := 6) rfl), R8, (by rfl)⟩
      ·skip
       refine Za (so L61 rfl (Zb L61 rfl ?_))
       intro _ L149
       refine so L149 rfl (Xa (z := ((u * 4294967296 % 18446744073709551616 : Nat) : Int)) L149 rfl rfl (Zb1 (x := u) (y := 4294967296)) fun _ L150 => (so L150 rfl (Zb L150 rfl fun _ L151 => (so L151 rfl (ZK (z := ((((u * 4294967296 % 18446744073709551616) + z1) % 18446744073709551616 : Nat) : Int)) L151 rfl rfl (u64_wrapA (x := (u * 4294967296 % 18446744073709551616)) (y := z1)) fun _ L152 => (so L152 rfl (Zb L152 rfl fun _ L153 => (so L153 rfl (Zb L153 rfl fun _ L154 => (so L154 rfl (Xa (z := ((qb * Y % 18446744073709551616 : Nat) : Int)) L154 rfl rfl (Zb1 (x := qb) (y := Y)) fun _ L155 => (so L155 rfl (ZS (z := ((((((u * 4294967296 % 18446744073709551616) + z1) % 18446744073709551616) + 18446744073709551616 - (qb * Y % 18446744073709551616)) % 18446744073709551616 : Nat) : Int)) L155 rfl rfl (u64_wrapS (x := (((u * 4294967296 % 18446744073709551616) + z1) % 18446744073709551616)) (y := (qb * Y % 18446744073709551616)) (by omega)) fun _ L156 => ?_)))))))))))))
       refine so L156 rfl (Zc L156 rfl fun a129 L157 => ?_)
       have L158 := (L157.kp [6, 7, 2, 8, 9, 10, 14, 15, 17] rfl); clear L157
       refine sn ?_
       have e16 : (((((((u * 4294967296 % 18446744073709551616) + z1) % 18446744073709551616) + 18446744073709551616 - (qb * Y % 18446744073709551616)) % 18446744073709551616 : Nat) : Int) : Int) = (((((((u * 4294967296 % 18446744073709551616) + z1) % 18446744073709551616) + 18446744073709551616 - (qb * Y % 18446744073709551616)) % 18446744073709551616) : Nat) : Int) := by first | omega | simp
       have L159 : Zz a129 135 [(17, (.int .u64 (((((((u * 4294967296 % 18446744073709551616) + z1) % 18446744073709551616) + 18446744073709551616 - (qb * Y % 18446744073709551616)) % 18446744073709551616) : Nat) : Int)))] := by have q := (L158.kp [17] rfl); rw [e16] at q; exact q
       exact ⟨S13, (((((u * 4294967296 % 18446744073709551616) + z1) % 18446744073709551616) + 18446744073709551616 - (qb * Y % 18446744073709551616)) % 18446744073709551616), Sh.le.refl _, (L158.keep (L158.keep (L158.keep (L158.keep (L158.keep (L158.keep (L158.keep (L158.keep (L159.keep (Zz.none _ L158) (t := 17) rfl) (t := 15) rfl) (t := 14) rfl) (t := 10) rfl) (t := 9) rfl) (t := 8) rfl) (t := 2) rfl) (t := 7) rfl) (t := 6) rfl), R7, (by exact norm_u21 hqb1 hqb2 (by omega))⟩
     ·skip
      refine wp_block ?_
      refine ZZ (fun m ac ww => ∃ (S' : Sh) (q1 : Nat) (r1 : Nat), S12.le S' ∧ Zz ac 135 [(6, (.int .u64 (0 : Int))), (7, (.int .u64 (0 : Int))), (2, (.int .u64 ((Y : Nat) : Int))), (8, (.int .u64 ((s : Nat) : Int))), (9, (.int .u64 ((v : Nat) : Int))), (10, (.int .u64 ((wl : Nat) : Int))), (11, (.int .u64 ((u : Nat) : Int))), (13, (.int .u64 ((z1 : Nat) : Int))), (14, (.int .u64 ((z0 : Nat) : Int))), (15, (.int .u64 ((q1 : Nat) : Int))), (16, (.int .u64 ((r1 : Nat) : Int)))] ∧ Run S w S' [] ww ∧ (q1 * v + r1 = u) ∧ (r1 < 4294967296) ∧ (u * 4294967296 + z1 < (q1 + 1) * (v * 4294967296 + wl)) ∧ (q1 ≤ 4294967297) ∧ m = q1)
       (qa') ⟨S12, qa', ra', Sh.le.refl _, (L60.kp [16, 15, 14, 13, 11, 10, 9, 8, 2, 7, 6] rfl), R6, (by exact hqa'1), (by omega), (by exact dq_init hqa'1 hqa'2 hz_z1), (by exact dq_small hqa'1 hu_u hw hv2), rfl⟩ ?_
      rintro m_2 ac10 _ ⟨S19, q1, r1, l12, L160, R13, hD, hDr, hDu, hDk, m2⟩
      refine wp_seq (wp_seq ?_)
      have hqw : q1 < 4294967296 → q1 * wl ≤ 4294967295 * 4294967295 := fun h => Nat.mul_le_mul (by omega) (by omega)
      refine Za (so L160 rfl (Zb L160 rfl ?_))
      intro _ L161
      by_cases t8 : (4294967296 : Int) ≤ ((q1 : Nat) : Int)
      ·refine so L161 rfl (Zf (b := true) (decide_eq_true t8) (fun _ k_ => YA L161 rfl rfl k_) fun _ L162 => (so L162 rfl (Zb L162 rfl fun _ L163 => (Zm L163 rfl rfl rfl rfl rfl rfl fun _ L164 => (Zm L164 rfl rfl rfl rfl rfl rfl fun _ L165 => (Zm L165 rfl rfl rfl rfl rfl rfl fun _ L166 => (Zm L166 rfl rfl rfl rfl rfl rfl fun _ L167 => (Zm L167 rfl rfl rfl rfl rfl rfl fun _ L168 => ?_))))))))
       refine Zm L168 rfl rfl rfl rfl rfl rfl fun _ L169 => (Zm L169 rfl rfl rfl rfl rfl rfl fun _ L170 => (Zm L170 rfl rfl rfl rfl rfl rfl fun _ L171 => (so L171 rfl (Zj L171 rfl rfl fun _ L172 => ?_))))
       have L173 := (L172.kp [6, 7, 2, 8, 9, 10, 11, 13, 14, 15, 16, 67, 68, 69, 78] rfl); clear L172
       refine sn (Zs L173 rfl rfl (wp_skip ((Ze (wp_block (wp_seq ?_))))))
       have hor : 4294967296 ≤ q1 ∨ r1 * 4294967296 + z1 < q1 * wl := by omega
       obtain ⟨hD0, hD', hDu'⟩ := dq_step hD hz_z1 hu_u hor
       refine Za (so L173 rfl (Zb L173 rfl ?_))
       intro _ L174
       refine so L174 rfl (ZS (z := (((q1 : Nat) : Int) - (1 : Int))) L174 rfl rfl (IntWalk.u64_in _ (by omega)) fun _ L175 => (so L175 rfl (Zc L175 rfl fun _ L176 => (sn (wp_seq (Za (so L176 rfl (Zb L176 rfl fun _ L177 => (so L177 rfl (Zb L177 rfl fun _ L178 => (so L178 rfl (ZK (z := (((r1 : Nat) : Int) + ((v : Nat) : Int))) L178 rfl rfl (IntWalk.u64_in _ (by omega)) fun _ L179 => ?_))))))))))))
       refine so L179 rfl (Zc L179 rfl fun _ L180 => (sn (wp_seq (Za (so L180 rfl (Zb L180 rfl fun _ L181 => ?_))))))
       by_cases t9 : (4294967296 : Int) ≤ (((r1 : Nat) : Int) + ((v : Nat) : Int))
       ·refine so L181 rfl (Zf (b := true) (decide_eq_true t9) (fun _ k_ => YA L181 rfl rfl k_) fun a150 L182 => (sn (Zs L182 rfl rfl (wp_exit ((in_miss rfl (ZA (YB (Ze ?_)))))))))
        have e17 : ((((q1 : Nat) : Int) - (1 : Int)) : Int) = (((q1 - 1) : Nat) : Int) := by first | omega | simp
        have L183 : Zz a150 135 [(15, (.int .u64 (((q1 - 1) : Nat) : Int)))] := by have q := (L182.kp [15] rfl); rw [e17] at q; exact q
        exact ⟨S19, (q1 - 1), l12, (L182.keep (L182.keep (L182.keep (L182.keep (L182.keep (L182.keep (L182.keep (L182.keep (L182.keep (L183.keep (Zz.none _ L182) (t := 15) rfl) (t := 14) rfl) (t := 13) rfl) (t := 11) rfl) (t := 10) rfl) (t := 9) rfl) (t := 8) rfl) (t := 2) rfl) (t := 7) rfl) (t := 6) rfl), R13, (by first | exact Xq hD' hw (by omega) (by omega) | exact Qj hD (by omega)), (by first | exact hDu' | exact hDu)⟩
       ·refine so L181 rfl (Zf (b := false) (decide_eq_false t9) (fun _ k_ => YA L181 rfl rfl k_) fun a151 L184 => (sn (Zn L184 rfl rfl (wp_skip ((ZI (Ze ?_)))))))
        have e18 : ((((q1 : Nat) : Int) - (1 : Int)) : Int) = (((q1 - 1) : Nat) : Int) := by first | omega | simp
        have L185 : Zz a151 135 [(15, (.int .u64 (((q1 - 1) : Nat) : Int)))] := by have q := (L184.kp [15] rfl); rw [e18] at q; exact q
        have e19 : ((((r1 : Nat) : Int) + ((v : Nat) : Int)) : Int) = (((r1 + v) : Nat) : Int) := by first | omega | simp
        have L186 : Zz a151 135 [(16, (.int .u64 (((r1 + v) : Nat) : Int)))] := by have q := (L184.kp [16] rfl); rw [e19] at q; exact q
        exact ⟨(q1 - 1), (by omega), S19, (q1 - 1), (r1 + v), l12, (L184.keep (L184.keep (L184.keep (L184.keep (L184.keep (L184.keep (L184.keep (L184.keep (L184.keep (L185.keep (L186.keep (Zz.none _ L184) (t := 16) rfl) (t := 15) rfl) (t := 14) rfl) (t := 13) rfl) (t := 11) rfl) (t := 10) rfl) (t := 9) rfl) (t := 8) rfl) (t := 2) rfl) (t := 7) rfl) (t := 6) rfl), R13, (by exact hD'), (by omega), (by exact hDu'), (by omega), rfl⟩
      ·refine so L161 rfl (Zf (b := false) (decide_eq_false t8) (fun _ k_ => YA L161 rfl rfl k_) fun _ L187 => (so L187 rfl (Zb L187 rfl fun _ L188 => (Zr L188 rfl rfl rfl rfl rfl (Zb L188 rfl fun _ L189 => (Zr L189 rfl rfl rfl rfl rfl (Zb L189 rfl fun _ L190 => (Zr L190 rfl rfl rfl rfl rfl (Xa (z := (((q1 : Nat) : Int) * ((wl : Nat) : Int))) L190 rfl rfl (IntWalk.u64_in _ (by omega)) fun _ L191 => (Zr L191 rfl rfl rfl rfl rfl (Zb L191 rfl fun _ L192 => (Zr L192 rfl rfl rfl rfl rfl (Xa (z := ((4294967296 : Int) * ((r1 : Nat) : Int))) L192 rfl rfl (IntWalk.u64_in _ (by omega)) fun _ L193 => ?_)))))))))))))
       refine Zr L193 rfl rfl rfl rfl rfl (Zb L193 rfl fun _ L194 => (Zr L194 rfl rfl rfl rfl rfl (ZK (z := (((4294967296 : Int) * ((r1 : Nat) : Int)) + ((z1 : Nat) : Int))) L194 rfl rfl (IntWalk.u64_in _ (by omega)) fun _ L195 => ?_)))
       by_cases t10 : (((4294967296 : Int) * ((r1 : Nat) : Int)) + ((z1 : Nat) : Int)) < (((q1 : Nat) : Int) * ((wl : Nat) : Int))
       ·refine Zr L195 rfl rfl rfl rfl rfl (Zf (b := true) (decide_eq_true t10) (fun _ k_ => ZP L195 rfl rfl k_) fun _ L196 => (so L196 rfl (Zj L196 rfl rfl fun _ L197 => (sn (Zs L197 rfl rfl (wp_skip ((Ze (wp_block (wp_seq ?_))))))))))
        have hor : 4294967296 ≤ q1 ∨ r1 * 4294967296 + z1 < q1 * wl := by omega
        obtain ⟨hD0, hD', hDu'⟩ := dq_step hD hz_z1 hu_u hor
        refine Za (so L197 rfl (Zb L197 rfl ?_))
        intro _ L198
        refine so L198 rfl (ZS (z := (((q1 : Nat) : Int) - (1 : Int))) L198 rfl rfl (IntWalk.u64_in _ (by omega)) fun _ L199 => (so L199 rfl (Zc L199 rfl fun _ L200 => (sn (wp_seq (Za (so L200 rfl (Zb L200 rfl fun _ L201 => (so L201 rfl (Zb L201 rfl fun _ L202 => (so L202 rfl (ZK (z := (((r1 : Nat) : Int) + ((v : Nat) : Int))) L202 rfl rfl (IntWalk.u64_in _ (by omega)) fun _ L203 => ?_))))))))))))
        refine so L203 rfl (Zc L203 rfl fun _ L204 => (sn (wp_seq (Za (so L204 rfl (Zb L204 rfl fun _ L205 => ?_))))))
        by_cases t11 : (4294967296 : Int) ≤ (((r1 : Nat) : Int) + ((v : Nat) : Int))
        ·refine so L205 rfl (Zf (b := true) (decide_eq_true t11) (fun _ k_ => YA L205 rfl rfl k_) fun a171 L206 => (sn (Zs L206 rfl rfl (wp_exit ((in_miss rfl (ZA (YB (Ze ?_)))))))))
         have e20 : ((((q1 : Nat) : Int) - (1 : Int)) : Int) = (((q1 - 1) : Nat) : Int) := by first | omega | simp
         have L207 : Zz a171 135 [(15, (.int .u64 (((q1 - 1) : Nat) : Int)))] := by have q := (L206.kp [15] rfl); rw [e20] at q; exact q
         exact ⟨S19, (q1 - 1), l12, (L206.keep (L206.keep (L206.keep (L206.keep (L206.keep (L206.keep (L206.keep (L206.keep (L206.keep (L207.keep (Zz.none _ L206) (t := 15) rfl) (t := 14) rfl) (t := 13) rfl) (t := 11) rfl) (t := 10) rfl) (t := 9) rfl) (t := 8) rfl) (t := 2) rfl) (t := 7) rfl) (t := 6) rfl), R13, (by first | exact Xq hD' hw (by omega) (by omega) | exact Qj hD (by omega)), (by first | exact hDu' | exact hDu)⟩
        ·refine so L205 rfl (Zf (b := false) (decide_eq_false t11) (fun _ k_ => YA L205 rfl rfl k_) fun a172 L208 => (sn (Zn L208 rfl rfl (wp_skip ((ZI (Ze ?_)))))))
         have e21 : ((((q1 : Nat) : Int) - (1 : Int)) : Int) = (((q1 - 1) : Nat) : Int) := by first | omega | simp
         have L209 : Zz a172 135 [(15, (.int .u64 (((q1 - 1) : Nat) : Int)))] := by have q := (L208.kp [15] rfl); rw [e21] at q; exact q
         have e22 : ((((r1 : Nat) : Int) + ((v : Nat) : Int)) : Int) = (((r1 + v) : Nat) : Int) := by first | omega | simp
         have L210 : Zz a172 135 [(16, (.int .u64 (((r1 + v) : Nat) : Int)))] := by have q := (L208.kp [16] rfl); rw [e22] at q; exact q
         exact ⟨(q1 - 1), (by omega), S19, (q1 - 1), (r1 + v), l12, (L208.keep (L208.keep (L208.keep (L208.keep (L208.keep (L208.keep (L208.keep (L208.keep (L208.keep (L209.keep (L210.keep (Zz.none _ L208) (t := 16) rfl) (t := 15) rfl) (t := 14) rfl) (t := 13) rfl) (t := 11) rfl) (t := 10) rfl) (t := 9) rfl) (t := 8) rfl) (t := 2) rfl) (t := 7) rfl) (t := 6) rfl), R13, (by exact hD'), (by omega), (by exact hDu'), (by omega), rfl⟩
       ·exact Zr L195 rfl rfl rfl rfl rfl (Zf (b := false) (decide_eq_false t10) (fun _ k_ => ZP L195 rfl rfl k_) fun _ L211 => (so L211 rfl (Zj L211 rfl rfl fun _ L212 => (sn (Zn L212 rfl rfl (wp_exit ((ZA (ZA (YB (Ze (⟨S19, q1, l12, (L212.kp [15, 14, 13, 11, 10, 9, 8, 2, 7, 6] rfl), R13, (by first | exact Xq hD' hw (by omega) (by omega) | exact Qj hD (by omega)), (by first | exact hDu' | exact hDu)⟩))))))))))))
    ·skip
     refine Za (so L59 rfl (Zb L59 rfl ?_))
     intro _ L213
     refine so L213 rfl (Zb L213 rfl fun _ L214 => (so L214 rfl (Zb L214 rfl fun _ L215 => (so L215 rfl (Xa (z := (((qa : Nat) : Int) * ((v : Nat) : Int))) L215 rfl rfl (IntWalk.u64_in _ (by omega)) fun _ L216 => (so L216 rfl (ZS (z := (((u : Nat) : Int) - (((qa : Nat) : Int) * ((v : Nat) : Int)))) L216 rfl rfl (IntWalk.u64_in _ (by omega)) fun _ L217 => (so L217 rfl (Zc L217 rfl fun a180 L218 => ?_)))))))))
     have L219 := (L218.kp [6, 7, 2, 8, 9, 10, 11, 13, 14, 15, 16] rfl); clear L218
     refine sn ?_
     have e23 : ((((u : Nat) : Int) - (((qa : Nat) : Int) * ((v : Nat) : Int))) : Int) = (((u - (qa * v)) : Nat) : Int) := by first | omega | simp
     have L220 : Zz a180 135 [(16, (.int .u64 (((u - (qa * v)) : Nat) : Int)))] := by have q := (L219.kp [16] rfl); rw [e23] at q; exact q
     exact ⟨S11, qa, (u - (qa * v)), Sh.le.refl _, (L219.keep (L219.keep (L219.keep (L219.keep (L219.keep (L219.keep (L219.keep (L219.keep (L219.keep (L219.keep (L220.keep (Zz.none _ L219) (t := 16) rfl) (t := 15) rfl) (t := 14) rfl) (t := 13) rfl) (t := 11) rfl) (t := 10) rfl) (t := 9) rfl) (t := 8) rfl) (t := 2) rfl) (t := 7) rfl) (t := 6) rfl), R5, (by omega), (by omega)⟩
   ·skip
    refine Za (so L58 rfl (Zb L58 rfl ?_))
    intro _ L221
    refine so L221 rfl (Zb L221 rfl fun _ L222 => (so L222 rfl (Za8 (z := (((u : Nat) : Int) / ((v : Nat) : Int))) L222 rfl rfl (by omega) (quo_nn (k := .u64) (by omega) (by omega) (show _ ≤ (18446744073709551615 : Int) by omega)) fun _ L223 => (so L223 rfl (Zc L223 rfl fun a184 L224 => (sn ?_))))))
    have e24 : ((((u : Nat) : Int) / ((v : Nat) : Int)) : Int) = (((u / v) : Nat) : Int) := by first | omega | simp
    have L225 : Zz a184 135 [(15, (.int .u64 (((u / v) : Nat) : Int)))] := by have q := (L224.kp [15] rfl); rw [e24] at q; exact q
    exact ⟨S10, (u / v), Sh.le.refl _, (L224.keep (L224.keep (L224.keep (L224.keep (L224.keep (L224.keep (L224.keep (L224.keep (L224.keep (L225.keep (Zz.none _ L224) (t := 15) rfl) (t := 14) rfl) (t := 13) rfl) (t := 11) rfl) (t := 10) rfl) (t := 9) rfl) (t := 8) rfl) (t := 2) rfl) (t := 7) rfl) (t := 6) rfl), R4, (by rfl)⟩
  ·skip
   refine Za (so L57 rfl (Zb L57 rfl ?_))
   intro _ L226
   refine so L226 rfl (does_and32 (i := (lo * 2 ^ ((64 - ZF y)) % 18446744073709551616)) L226 rfl rfl (by omega) fun _ L227 => (so L227 rfl (Zc L227 rfl fun a187 L228 => (sn ?_))))
   have e25 : (((y * 2 ^ ((64 - ZF y)) % 18446744073709551616 : Nat) : Int) : Int) = (((y * 2 ^ ((64 - ZF y)) % 18446744073709551616) : Nat) : Int) := by first | omega | simp
   have L229 : Zz a187 135 [(2, (.int .u64 (((y * 2 ^ ((64 - ZF y)) % 18446744073709551616) : Nat) : Int)))] := by have q := (L228.kp [2] rfl); rw [e25] at q; exact q
   have e26 : ((((64 - ZF y : Nat) : Int)) : Int) = ((((64 - ZF y)) : Nat) : Int) := by first | omega | simp
   have L230 : Zz a187 135 [(8, (.int .u64 ((((64 - ZF y)) : Nat) : Int)))] := by have q := (L228.kp [8] rfl); rw [e26] at q; exact q
   have e27 : ((((y * 2 ^ ((64 - ZF y)) % 18446744073709551616) / 2 ^ 32 : Nat) : Int) : Int) = ((((y * 2 ^ ((64 - ZF y)) % 18446744073709551616) / 2 ^ 32) : Nat) : Int) := by first | omega | simp
   have L231 : Zz a187 135 [(9, (.int .u64 ((((y * 2 ^ ((64 - ZF y)) % 18446744073709551616) / 2 ^ 32) : Nat) : Int)))] := by have q := (L228.kp [9] rfl); rw [e27] at q; exact q
   have e28 : ((((y * 2 ^ ((64 - ZF y)) % 18446744073709551616) % 4294967296 : Nat) : Int) : Int) = ((((y * 2 ^ ((64 - ZF y)) % 18446744073709551616) % 4294967296) : Nat) : Int) := by first | omega | simp
   have L232 : Zz a187 135 [(10, (.int .u64 ((((y * 2 ^ ((64 - ZF y)) % 18446744073709551616) % 4294967296) : Nat) : Int)))] := by have q := (L228.kp [10] rfl); rw [e28] at q; exact q
   have e29 : ((((h * 2 ^ ((64 - ZF y)) % 18446744073709551616) ||| (lo / 2 ^ (64 - (64 - ZF y))) : Nat) : Int) : Int) = ((((h * 2 ^ ((64 - ZF y)) % 18446744073709551616) ||| (lo / 2 ^ (64 - (64 - ZF y)))) : Nat) : Int) := by first | omega | simp
   have L233 : Zz a187 135 [(11, (.int .u64 ((((h * 2 ^ ((64 - ZF y)) % 18446744073709551616) ||| (lo / 2 ^ (64 - (64 - ZF y)))) : Nat) : Int)))] := by have q := (L228.kp [11] rfl); rw [e29] at q; exact q
   have e30 : ((((lo * 2 ^ ((64 - ZF y)) % 18446744073709551616) / 2 ^ 32 : Nat) : Int) : Int) = ((((lo * 2 ^ ((64 - ZF y)) % 18446744073709551616) / 2 ^ 32) : Nat) : Int) := by first | omega | simp
   have L234 : Zz a187 135 [(13, (.int .u64 ((((lo * 2 ^ ((64 - ZF y)) % 18446744073709551616) / 2 ^ 32) : Nat) : Int)))] := by have q := (L228.kp [13] rfl); rw [e30] at q; exact q
   have e31 : ((((lo * 2 ^ ((64 - ZF y)) % 18446744073709551616) % 4294967296 : Nat) : Int) : Int) = ((((lo * 2 ^ ((64 - ZF y)) % 18446744073709551616) % 4294967296) : Nat) : Int) := by first | omega | simp
   have L235 : Zz a187 135 [(14, (.int .u64 ((((lo * 2 ^ ((64 - ZF y)) % 18446744073709551616) % 4294967296) : Nat) : Int)))] := by have q := (L228.kp [14] rfl); rw [e31] at q; exact q
   exact ⟨S9, (y * 2 ^ ((64 - ZF y)) % 18446744073709551616), ((64 - ZF y)), ((y * 2 ^ ((64 - ZF y)) % 18446744073709551616) / 2 ^ 32), ((y * 2 ^ ((64 - ZF y)) % 18446744073709551616) % 4294967296), ((h * 2 ^ ((64 - ZF y)) % 18446744073709551616) ||| (lo / 2 ^ (64 - (64 - ZF y)))), ((lo * 2 ^ ((64 - ZF y)) % 18446744073709551616) / 2 ^ 32), ((lo * 2 ^ ((64 - ZF y)) % 18446744073709551616) % 4294967296), Sh.le.refl _, (L228.keep (L228.keep (L229.keep (L230.keep (L231.keep (L232.keep (L233.keep (L234.keep (L235.keep (Zz.none _ L228) (t := 14) rfl) (t := 13) rfl) (t := 11) rfl) (t := 10) rfl) (t := 9) rfl) (t := 8) rfl) (t := 2) rfl) (t := 7) rfl) (t := 6) rfl), R3, (by exact norm_start hy hh hl)⟩
end Go.Cham
namespace Go.Cham
open Go Go.RowKit
theorem Yd {P : Program} {Q : Exit → Act → World → Prop} {ops : Array Oper} {o : Oper} {rest : List Oper} {a : Act} {w : World} {n : Nat} {l : List (Nat × Value)} {d j e : Nat} {b : Bool} (hL : Zz a n l) (hg : o.guard = some (j, b)) (hj : (ops[j]?).bind (·.dst) = some e) (he : QC l e = some undef) (hd : o.dst = some d)
    (hn : Nat.blt d n = true) (h : ∀ a', Zz a' n ((d, undef) :: l) → Xe P ops Q rest a' w) : Xe P ops Q (o :: rest) a w := by
  simp only [Xe]
  rw [if_neg (by simp [Region.wanted, hg, yielded, hj, hL.at_ e _ he, undef])]
  rw [hd]
  exact h _ (hL.put (by simpa [Nat.blt_eq] using hn) undef)
theorem cr0 {d : List Nat} {n i : Nat} (hd : ∀ e ∈ d, e < 18446744073709551616) (h : ¬ (0 < i ∧ i ≤ d.length ∧ 0 < n)) : cr d n i = 0 := by
  unfold cr
  by_cases h0 : i = 0
  · rw [if_pos h0]
  rw [if_neg h0]
  by_cases h1 : d.length < i
  · rw [Zbc (by omega), Nat.zero_div]
  · have : n = 0 := by omega
    subst this
    exact Nat.div_eq_of_lt (ZR hd (by decide) _)
theorem up_or1 {d us : List Nat} {n i : Nat} (hn : n < 64) (hd : ∀ e ∈ d, e < 18446744073709551616) (hi : i < us.length) (h0 : 0 < i) :
    (us.set i (d.getD i 0 * 2 ^ n % 18446744073709551616)).getD i 0 ||| d.getD (i - 1) 0 / 2 ^ (64 - n) = d.getD i 0 * 2 ^ n % 18446744073709551616 + cr d n i := by
  have hc := cr_lt (i := i) hn hd
  have e : d.getD (i - 1) 0 / 2 ^ (64 - n) = cr d n i := by unfold cr; rw [if_neg (by omega)]
  rw [Ys hi, e, up_or hn hc]
theorem up_or0 {d us : List Nat} {n m i : Nat} (h : Zco d us n m i) (hd : d.length ≤ i) (h0 : 0 < i) :
    us.getD i 0 ||| d.getD (i - 1) 0 / 2 ^ (64 - n) = d.getD i 0 * 2 ^ n % 18446744073709551616 + cr d n i := by
  have e : d.getD (i - 1) 0 / 2 ^ (64 - n) = cr d n i := by unfold cr; rw [if_neg (by omega)]
  have e2 : us.getD i 0 = 0 := by
    have h1 : us.getD i 0 = (us.drop i).getD 0 0 := by simp [List.getD_eq_getElem?_getD]
    rw [h1, h.rest]; simp [List.getD_eq_getElem?_getD, List.getElem?_replicate]; split <;> simp
  rw [e, e2, Zbc hd, Nat.zero_mul, Nat.zero_mod, Nat.zero_add, Nat.zero_or]
theorem Zco.step' {d us us' : List Nat} {n m i : Nat} (h : Zco d us n m i) (hn : n < 64) (hd : ∀ e ∈ d, e < 18446744073709551616) (hi : i < m) (e : us' = us.set i (d.getD i 0 * 2 ^ n % 18446744073709551616 + cr d n i)) : Zco d us' n m (i + 1) := by
  subst e; exact h.step hn hd hi rfl
theorem QN {d us : List Nat} {n i : Nat} (hd : ∀ e ∈ d, e < 18446744073709551616) (h : ¬ (0 < i ∧ i ≤ d.length ∧ 0 < n)) : us.set i (d.getD i 0 * 2 ^ n % 18446744073709551616) = us.set i (d.getD i 0 * 2 ^ n % 18446744073709551616 + cr d n i) := by rw [cr0 hd h]; rfl
theorem QO {d us : List Nat} {n m i : Nat} (hI : Zco d us n m i) (hi : i < m) (hd : ∀ e ∈ d, e < 18446744073709551616) (hl : d.length ≤ i) (h : ¬ (0 < i ∧ i ≤ d.length ∧ 0 < n)) : us = us.set i (d.getD i 0 * 2 ^ n % 18446744073709551616 + cr d n i) := by
  rw [cr0 hd h, Zbc hl, Nat.zero_mul, Nat.zero_mod]
  have hlen : i < us.length := by rw [hI.len]; exact hi
  have h1 : us.getD i 0 = 0 := by
    have h1 : us.getD i 0 = (us.drop i).getD 0 0 := by simp [List.getD_eq_getElem?_getD]
    rw [h1, hI.rest]; simp [List.getD_eq_getElem?_getD, List.getElem?_replicate]; split <;> simp
  rw [List.getD_eq_getElem?_getD, List.getElem?_eq_getElem hlen] at h1
  simp only [Option.getD_some] at h1
  apply List.ext_getElem
  · simp
  · intro k hk hk'
    rw [List.getElem_set]
    split
    · rename_i e; subst e; exact h1
    · rfl
structure Zab (d us : List Nat) (n i : Nat) : Prop where
  len : us.length = d.length
  le : i ≤ d.length
  sum : 2 ^ n * val W64 (us.take i) + d.getD 0 0 % 2 ^ n = val W64 (d.take i) + W64 ^ i * (d.getD i 0 % 2 ^ n)
  lt : ∀ e ∈ us, e < 18446744073709551616
theorem Zab.start {d : List Nat} {n : Nat} : Zab d (List.replicate d.length 0) n 0 := ⟨by simp, by omega, by simp [val], by simp⟩
theorem div_pow_lt {x n : Nat} (hn : n ≤ 64) (hx : x < 18446744073709551616) : x / 2 ^ n < 2 ^ (64 - n) := by
  rw [Nat.div_lt_iff_lt_mul (Nat.two_pow_pos _), Nat.mul_comm, Xp hn]; exact hx
theorem down_mult {x n : Nat} (hn : n ≤ 64) : x * 2 ^ (64 - n) % 18446744073709551616 = 2 ^ (64 - n) * (x % 2 ^ n) := by
  have h1 := Xp (s := n) hn
  rw [← h1, Nat.mul_comm (2 ^ n), Nat.mul_comm x, Nat.mul_mod_mul_left]
theorem down_or {x y n : Nat} (hn : n ≤ 64) (hx : x < 18446744073709551616) : (x / 2 ^ n) ||| (y * 2 ^ (64 - n) % 18446744073709551616) = x / 2 ^ n + 2 ^ (64 - n) * (y % 2 ^ n) := by
  rw [down_mult hn, Nat.or_comm, or_sum (div_pow_lt hn hx), Nat.add_comm]
theorem down_sum {N V D P a b c o M x T : Nat} (h : N * V + a = D + P * b) (ho : o = x + T * c) (hx : N * x + b = M) (hT : N * T = 18446744073709551616) : N * (V + P * o) + a = (D + P * M) + P * 18446744073709551616 * c := by
  have e1 : P * (N * x + b) = P * M := by rw [hx]
  have e2 : N * (T * c) = 18446744073709551616 * c := by rw [← Nat.mul_assoc, hT]
  have e3 : N * (P * o) = P * (N * x) + P * (N * (T * c)) := by rw [ho, ← Nat.mul_add, ← Nat.mul_add, Nat.mul_left_comm]
  rw [Nat.mul_add] at e1
  rw [Nat.mul_add, e3, e2, Nat.mul_assoc P 18446744073709551616 c]
  omega
theorem Zab.step {d us us' : List Nat} {n i : Nat} (h : Zab d us n i) (hn : n < 64) (hd : ∀ e ∈ d, e < 18446744073709551616) (hi : i < d.length) (e : us' = us.set i (d.getD i 0 / 2 ^ n + 2 ^ (64 - n) * (d.getD (i + 1) 0 % 2 ^ n))) : Zab d us' n (i + 1) := by
  subst e
  have hlen : i < us.length := by rw [h.len]; exact hi
  have hle := hi
  have hol : d.getD i 0 / 2 ^ n + 2 ^ (64 - n) * (d.getD (i + 1) 0 % 2 ^ n) < 18446744073709551616 := by
    rw [← down_or (by omega) (ZR hd (by decide) i)]
    exact Nat.or_lt_two_pow (n := 64) (Nat.lt_of_le_of_lt (Nat.div_le_self _ _) (ZR hd (by decide) i)) (Nat.mod_lt _ (by decide))
  refine ⟨by rw [List.length_set]; exact h.len, hle, ?_, Qo h.lt hol⟩
  have hs := h.sum
  have hp : W64 ^ (i + 1) = W64 ^ i * 18446744073709551616 := Nat.pow_succ _ _
  rw [Yy W64 _ i (by rw [List.length_set]; exact hlen), Zau, Ys hlen, Yz d i, hp]
  exact down_sum hs rfl (Nat.div_add_mod _ _) (Xp (by omega))
theorem down_case0 {d us : List Nat} {n i : Nat} (h : ¬ (i + 1 < d.length ∧ 0 < n)) : us.set i (d.getD i 0 / 2 ^ n) = us.set i (d.getD i 0 / 2 ^ n + 2 ^ (64 - n) * (d.getD (i + 1) 0 % 2 ^ n)) := by
  have : d.getD (i + 1) 0 % 2 ^ n = 0 := by
    by_cases h1 : i + 1 < d.length
    · obtain rfl : n = 0 := by omega
      exact Nat.mod_one _
    · rw [Zbc (by omega), Nat.zero_mod]
  rw [this]; rfl
theorem down_or1 {d us : List Nat} {n i : Nat} (hn : n < 64) (hd : ∀ e ∈ d, e < 18446744073709551616) (hi : i < us.length) :
    (us.set i (d.getD i 0 / 2 ^ n)).getD i 0 ||| (d.getD (i + 1) 0 * 2 ^ (64 - n) % 18446744073709551616) = d.getD i 0 / 2 ^ n + 2 ^ (64 - n) * (d.getD (i + 1) 0 % 2 ^ n) := by
  rw [Ys hi, down_or (by omega) (ZR hd (by decide) i)]
theorem Zab.done {d us : List Nat} {n i : Nat} (h : Zab d us n i) (hi : ¬ i < d.length) : val W64 us = val W64 d / 2 ^ n := by
  have hle := h.le
  obtain rfl : i = d.length := by omega
  have hs := h.sum
  rw [List.take_of_length_le (by rw [h.len]; exact Nat.le_refl _), List.take_of_length_le (Nat.le_refl _), Zbc (Nat.le_refl _), Nat.zero_mod, Nat.mul_zero, Nat.add_zero] at hs
  have hp := Nat.two_pow_pos n
  rw [← hs, Nat.mul_add_div hp, Nat.div_eq_of_lt (Nat.mod_lt _ hp)]
  rfl
structure Zbw (p v us : List Nat) (o d i c b : Nat) : Prop where
  len : us.length = p.length
  lt : ∀ e ∈ us, e < 18446744073709551616
  hc : c < 18446744073709551616
  hb : b ≤ 1
  cz : v.length < i → c = 0
  sum : val W64 us + W64 ^ o * (val W64 (v.take i) * d) = val W64 p + W64 ^ (o + i) * (c + b)
  out : ∀ m, m < o ∨ o + i ≤ m → us.getD m 0 = p.getD m 0
theorem Zbw.start {p v : List Nat} {o d : Nat} (h : ∀ e ∈ p, e < 18446744073709551616) : Zbw p v p o d 0 0 0 := ⟨rfl, h, by decide, by decide, fun _ => rfl, by simp [val], fun _ _ => rfl⟩
theorem away_sum {A A' P u u' O X d C c b x l c' b' Y : Nat} (h1 : A' + P * u = A + P * u') (h2 : A + O * (X * d) = Y + P * (c + b)) (h3 : x * d + c = l + 18446744073709551616 * c') (h4 : u' + l + b = u + 18446744073709551616 * b') (hP : P = O * C) :
    A' + O * ((X + C * x) * d) = Y + P * 18446744073709551616 * (c' + b') := by
  have e1 : P * (x * d + c) = P * (l + 18446744073709551616 * c') := by rw [h3]
  have e2 : P * (u' + l + b) = P * (u + 18446744073709551616 * b') := by rw [h4]
  have e3 : O * ((X + C * x) * d) = O * (X * d) + P * (x * d) := by rw [hP, Nat.add_mul, Nat.mul_add, Nat.mul_assoc, Nat.mul_assoc]
  have e4 : P * 18446744073709551616 * (c' + b') = P * (18446744073709551616 * c') + P * (18446744073709551616 * b') := by rw [Nat.mul_assoc, Nat.mul_add, Nat.mul_add]
  rw [Nat.mul_add] at h2 e1 e2
  rw [Nat.mul_add] at e1 e2
  rw [Nat.mul_add] at e2
  rw [e3, e4]
  omega
theorem Zbw.step {p v us : List Nat} {o d i c b m : Nat} (h : Zbw p v us o d i c b) (hm : m = o + i) (hi : o + i < p.length) {l c' u' b' : Nat} (h1 : u' < 18446744073709551616) (h2 : c' < 18446744073709551616) (h3 : b' ≤ 1)
    (h4 : v.getD i 0 * d + c = l + 18446744073709551616 * c') (h5 : u' + l + b = us.getD m 0 + 18446744073709551616 * b') (h6 : v.length < i + 1 → c' = 0) : Zbw p v (us.set m u') o d (i + 1) c' b' := by
  subst hm
  refine ⟨by rw [List.length_set]; exact h.len, Qo h.lt h1, h2, h3, h6, ?_, fun k hk => by rw [YL (by omega)]; exact h.out k (by omega)⟩
  have hv := Zbl W64 us (o + i) u' (by rw [h.len]; exact hi)
  have hs := h.sum
  have hp : W64 ^ (o + (i + 1)) = W64 ^ (o + i) * 18446744073709551616 := Nat.pow_succ _ _
  have hq : W64 ^ (o + i) = W64 ^ o * W64 ^ i := Nat.pow_add _ _ _
  rw [Yz v i, hp]
  exact away_sum hv hs h4 h5 hq
structure Zbv (p v us : List Nat) (o i c : Nat) : Prop where
  len : us.length = p.length
  lt : ∀ e ∈ us, e < 18446744073709551616
  hc : c ≤ 1
  sum : val W64 us + W64 ^ (o + i) * c = val W64 p + W64 ^ o * val W64 (v.take i)
  out : ∀ m, m < o ∨ o + i ≤ m → us.getD m 0 = p.getD m 0
theorem Zbv.start {p v : List Nat} {o : Nat} (h : ∀ e ∈ p, e < 18446744073709551616) : Zbv p v p o 0 0 := ⟨rfl, h, by decide, by simp [val], fun _ _ => rfl⟩
theorem back_sum {A A' P u u' O X C c x c' Y : Nat} (h1 : A' + P * u = A + P * u') (h2 : A + P * c = Y + O * X) (h3 : u' + 18446744073709551616 * c' = u + x + c) (hP : P = O * C) : A' + P * 18446744073709551616 * c' = Y + O * (X + C * x) := by
  have e1 : P * (u' + 18446744073709551616 * c') = P * (u + x + c) := by rw [h3]
  have e3 : O * (X + C * x) = O * X + P * x := by rw [hP, Nat.mul_add, Nat.mul_assoc]
  rw [Nat.mul_add, Nat.mul_add, Nat.mul_add] at e1
  rw [e3, Nat.mul_assoc]
  omega
theorem Zbv.step {p v us : List Nat} {o i c m : Nat} (h : Zbv p v us o i c) (hm : m = o + i) (hi : o + i < p.length) {u' c' : Nat} (h1 : u' < 18446744073709551616) (h2 : c' ≤ 1) (h3 : u' + 18446744073709551616 * c' = us.getD m 0 + v.getD i 0 + c) : Zbv p v (us.set m u') o (i + 1) c' := by
  subst hm
  refine ⟨by rw [List.length_set]; exact h.len, Qo h.lt h1, h2, ?_, fun k hk => by rw [YL (by omega)]; exact h.out k (by omega)⟩
  have hv := Zbl W64 us (o + i) u' (by rw [h.len]; exact hi)
  have hs := h.sum
  have hp : W64 ^ (o + (i + 1)) = W64 ^ (o + i) * 18446744073709551616 := Nat.pow_succ _ _
  have hq : W64 ^ (o + i) = W64 ^ o * W64 ^ i := Nat.pow_add _ _ _
  rw [Yz v i, hp]
  exact back_sum hv hs h3 hq
structure XZ (d us : List Nat) (dv k r : Nat) : Prop where
  len : us.length = d.length
  le : k ≤ d.length
  lt : ∀ e ∈ us, e < 18446744073709551616
  hr : r < dv
  low : us.take k = d.take k
  sum : val W64 (d.drop k) = val W64 (us.drop k) * dv + r
theorem XZ.start {d : List Nat} {dv : Nat} (h : ∀ e ∈ d, e < 18446744073709551616) (h0 : 0 < dv) : XZ d d dv d.length 0 := ⟨rfl, Nat.le_refl _, h, h0, rfl, by simp [val]⟩
theorem short_sum {D U dv r x q r' : Nat} (h : D = U * dv + r) (hq : q = (r * 18446744073709551616 + x) / dv) (hr : r' = (r * 18446744073709551616 + x) % dv) : x + 18446744073709551616 * D = (q + 18446744073709551616 * U) * dv + r' := by
  have h1 := Nat.div_add_mod (r * 18446744073709551616 + x) dv
  rw [← hq, ← hr, Nat.mul_comm] at h1
  rw [h, Nat.add_mul, Nat.mul_add, Nat.mul_assoc]
  omega
theorem XZ.step {d us : List Nat} {dv k r j : Nat} (h : XZ d us dv k r) (hj : j = k - 1) (hk : 0 < k) {q r' : Nat} (hq : q = (r * 18446744073709551616 + us.getD j 0) / dv) (hr : r' = (r * 18446744073709551616 + us.getD j 0) % dv) (hd : ∀ e ∈ d, e < 18446744073709551616) : XZ d (us.set j q) dv (k - 1) r' := by
  subst hj
  have hle := h.le
  have hlen : k - 1 < us.length := by rw [h.len]; omega
  have e1 : us.getD (k - 1) 0 = d.getD (k - 1) 0 := by
    have h1 : (us.take k).getD (k - 1) 0 = us.getD (k - 1) 0 := by simp [List.getD_eq_getElem?_getD, List.getElem?_take, show k - 1 < k by omega]
    have h2 : (d.take k).getD (k - 1) 0 = d.getD (k - 1) 0 := by simp [List.getD_eq_getElem?_getD, List.getElem?_take, show k - 1 < k by omega]
    rw [← h1, ← h2, h.low]
  have hdv : 0 < dv := by have := h.hr; omega
  have hql : q < 18446744073709551616 := by
    rw [hq]
    refine Nat.div_lt_of_lt_mul ?_
    have h1 := h.hr
    have h2 := ZR h.lt (show 0 < 18446744073709551616 by decide) (k - 1)
    have h3 : (r + 1) * 18446744073709551616 ≤ dv * 18446744073709551616 := Nat.mul_le_mul_right _ h1
    omega
  refine ⟨by rw [List.length_set]; exact h.len, by omega, Qo h.lt hql, by rw [hr]; exact Nat.mod_lt _ hdv, ?_, ?_⟩
  · rw [Zau]
    have h1 : us.take (k - 1) = (us.take k).take (k - 1) := by rw [List.take_take, Nat.min_eq_left (by omega)]
    have h2 : d.take (k - 1) = (d.take k).take (k - 1) := by rw [List.take_take, Nat.min_eq_left (by omega)]
    rw [h1, h2, h.low]
  · have h1 : (us.set (k - 1) q).drop (k - 1) = q :: us.drop k := by
      rw [Ym (by rw [List.length_set]; exact hlen), Ys hlen, show k - 1 + 1 = k by omega, List.drop_set_of_lt (by omega)]
    have h2 : d.drop (k - 1) = d.getD (k - 1) 0 :: d.drop k := by rw [Ym (by omega), show k - 1 + 1 = k by omega]
    rw [h1, h2]
    simp only [val]
    rw [e1] at hq hr
    exact short_sum h.sum hq hr
theorem XZ.done {d us : List Nat} {dv r : Nat} (h : XZ d us dv 0 r) : val W64 us = val W64 d / dv ∧ r = val W64 d % dv := by
  have hs := h.sum
  have hr := h.hr
  rw [List.drop_zero, List.drop_zero] at hs
  rw [hs, Nat.mul_comm]
  constructor
  · rw [Nat.mul_add_div (by omega), Nat.div_eq_of_lt hr]; rfl
  · rw [Nat.mul_add_mod, Nat.mod_eq_of_lt hr]
theorem sub_step {x l b : Nat} (hx : x < 18446744073709551616) (hl : l < 18446744073709551616) (hb : b ≤ 1) : (x + 18446744073709551616 - l - b) % 18446744073709551616 + l + b = x + 18446744073709551616 * (if x < l + b then 1 else 0) ∧ (if x < l + b then 1 else 0) ≤ 1 := by
  split <;> omega
end Go.Cham
namespace Go.Cham
open Go Go.RowKit Go.Proofs
set_option maxRecDepth 20000 in
theorem nat_guess {S : Sh} {w : World} (hS : Yw S w) {x : Nat} {y : Nat} {z : Nat} {vh : Nat} {wl : Nat} (hxv : x ≤ vh) (hv0 : 0 < vh) (hv : vh < 18446744073709551616) (hy : y < 18446744073709551616) (hz : z < 18446744073709551616) (hw : wl < 18446744073709551616) : Calls Tryz.prog 164 [(.int .u64 ((x : Nat) : Int)), (.int .u64 ((y : Nat) : Int)), (.int .u64 ((z : Nat) : Int)), (.int .u64 ((vh : Nat) : Int)), (.int .u64 ((wl : Nat) : Int))].toArray w (Ret S w (fun S v => ∃ g, v = .int .u64 ((g : Nat) : Int) ∧ g < 18446744073709551616 ∧ g * (vh * 18446744073709551616 + wl) ≤ (x * 18446744073709551616 + y) * 18446744073709551616 + z ∧ ((x * 18446744073709551616 + y) * 18446744073709551616 + z < (g + 1) * (vh * 18446744073709551616 + wl) ∨ g = 18446744073709551615))) := by
 refine ZT (n := 67) Tryz.func164 rfl rfl ?_
 intro ac0 L0
 replace L0 : Zz ac0 67 [(0, (.int .u64 ((x : Nat) : Int))), (1, (.int .u64 ((y : Nat) : Int))), (2, (.int .u64 ((z : Nat) : Int))), (3, (.int .u64 ((vh : Nat) : Int))), (4, (.int .u64 ((wl : Nat) : Int)))] := L0
 have R0 : Run S w S [] w := .start hS
 refine wp_seq (Za (so L0 rfl (Zc L0 rfl ?_)))
 intro _ L1
 refine sn (wp_seq (Za (so L1 rfl (Zc L1 rfl ?_))))
 intro _ L2
 refine so L2 rfl (Zc L2 rfl fun _ L3 => (sn (wp_seq (wp_seq (Za (so L3 rfl (Zb L3 rfl fun _ L4 => (so L4 rfl (Zb L4 rfl fun _ L5 => ?_)))))))))
 by_cases t1 : ((x : Nat) : Int) < ((vh : Nat) : Int)
 ·refine so L5 rfl (Zf (b := true) (decide_eq_true t1) (fun _ k_ => ZH L5 rfl rfl k_) fun _ L6 => (sn (Zs L6 rfl rfl (Za (so L6 rfl (Zb L6 rfl fun _ L7 => (so L7 rfl (Zb L7 rfl fun _ L8 => (so L8 rfl (Zb L8 rfl fun _ L9 => (so L9 rfl (Zp L9 rfl ent_161 (Zal R0.holds (h := x) (lo := y) (y := vh)    (by omega) (hy) (by omega)) fun v_1 S1 _ x1 v1 => ?_))))))))))))
  have R1 := R0.call x1
  obtain rfl := v1
  intro _ L10
  refine so L10 rfl (Zb L10 rfl fun _ L11 => (so L11 rfl (Zh L11 rfl rfl fun _ L12 => (so L12 rfl (Zh L12 rfl rfl fun _ L13 => (so L13 rfl (Zc L13 rfl fun _ L14 => (so L14 rfl (Zc L14 rfl fun a15 L15 => ?_)))))))))
  have L16 := (L15.kp [2, 3, 4, 10, 11, 12] rfl); clear L15
  refine sn (wp_block ?_)
  have e1 : ((((x * 18446744073709551616 + y) / vh : Nat) : Int) : Int) = ((((x * 18446744073709551616 + y) / vh) : Nat) : Int) := by omega
  have L18 : Zz a15 67 [(11, (.int .u64 ((((x * 18446744073709551616 + y) / vh) : Nat) : Int)))] := by have q := (L16.kp [11] rfl); rw [e1] at q; exact q
  have e2 : ((((x * 18446744073709551616 + y) % vh : Nat) : Int) : Int) = ((((x * 18446744073709551616 + y) % vh) : Nat) : Int) := by omega
  have L19 : Zz a15 67 [(12, (.int .u64 ((((x * 18446744073709551616 + y) % vh) : Nat) : Int)))] := by have q := (L16.kp [12] rfl); rw [e2] at q; exact q
  refine ZZ (fun m ac ww => ∃ (S' : Sh) (d : Nat) (r : Nat), S1.le S' ∧ Zz ac 67 [(2, (.int .u64 ((z : Nat) : Int))), (3, (.int .u64 ((vh : Nat) : Int))), (4, (.int .u64 ((wl : Nat) : Int))), (10, (.int .u64 (0 : Int))), (11, (.int .u64 ((d : Nat) : Int))), (12, (.int .u64 ((r : Nat) : Int)))] ∧ Run S w S' [] ww ∧ (d * vh + r = x * 18446744073709551616 + y) ∧ (r < 18446744073709551616) ∧ (d < 18446744073709551616) ∧ ((x * 18446744073709551616 + y) * 18446744073709551616 + z < (d + 1) * (vh * 18446744073709551616 + wl) ∨ d = 18446744073709551615) ∧ m = d)
   (((x * 18446744073709551616 + y) / vh)) ⟨S1, ((x * 18446744073709551616 + y) / vh), ((x * 18446744073709551616 + y) % vh), Sh.le.refl _, (L16.keep (L16.keep (L16.keep (L16.keep (L18.keep (L19.keep (Zz.none _ L16) (t := 12) rfl) (t := 11) rfl) (t := 10) rfl) (t := 4) rfl) (t := 3) rfl) (t := 2) rfl), R1, (by first | exact Nat.div_add_mod' _ _ | omega), (by first | exact Nat.lt_trans (Nat.mod_lt _ (by omega)) hv | omega), (by first | exact Nat.div_lt_of_lt_mul (by omega) | omega), (by first | exact Or.inr rfl | exact Or.inl (dq_init (Nat.div_add_mod' _ _) (Nat.mod_lt _ (by omega)) hz)), rfl⟩ ?_
  rintro m_1 ac1 _ ⟨_, d, r, l2, L17, R2, hD, hr, hdl, hu, m1⟩
  refine wp_block (wp_seq (Za (so L17 rfl (Zb L17 rfl ?_))))
  intro _ L20
  refine so L20 rfl (Zb L20 rfl fun _ L21 => (so L21 rfl (Zp L21 rfl ent_139 (XB R2.holds (x := d) (y := wl)    (hdl) (by omega)) fun v_2 S3 _ x2 v2 => ?_)))
  have R3 := R2.call x2; have l3 := x2.le
  obtain rfl := v2
  intro _ L22
  refine so L22 rfl (Zb L22 rfl fun _ L23 => (so L23 rfl (Zh L23 rfl rfl fun _ L24 => (so L24 rfl (Zh L24 rfl rfl fun _ L25 => (so L25 rfl (Zc L25 rfl fun _ L26 => (so L26 rfl (Zc L26 rfl fun _ L27 => (sn (wp_seq (wp_seq ?_))))))))))))
  refine Za (so L27 rfl (Zb L27 rfl ?_))
  intro _ L28
  refine so L28 rfl (Zb L28 rfl fun _ L29 => ?_)
  by_cases t2 : ((d * wl / 18446744073709551616 : Nat) : Int) < ((r : Nat) : Int)
  ·refine so L29 rfl (Zf (b := true) (decide_eq_true t2) (fun _ k_ => ZH L29 rfl rfl k_) fun _ L30 => (so L30 rfl (Zb L30 rfl fun _ L31 => (Zm L31 rfl rfl rfl rfl rfl rfl fun _ L32 => (Zm L32 rfl rfl rfl rfl rfl rfl fun _ L33 => (Zm L33 rfl rfl rfl rfl rfl rfl fun _ L34 => (Zm L34 rfl rfl rfl rfl rfl rfl fun _ L35 => (Yd L35 rfl rfl rfl rfl rfl fun _ L36 => ?_))))))))
   refine Yd L36 rfl rfl rfl rfl rfl ?_
   intro _ L37
   refine Yd L37 rfl rfl rfl rfl rfl ?_
   intro _ L38
   refine Zm L38 rfl rfl rfl rfl rfl rfl fun _ L39 => (so L39 rfl (Zj L39 rfl rfl fun _ L40 => ?_))
   have L41 := (L40.kp [2, 3, 4, 10, 11, 12, 37, 38, 39, 36, 40, 41, 14, 15, 42, 43, 44, 45, 54] rfl); clear L40
   refine sn (Zs L41 rfl rfl (wp_seq (Za (so L41 rfl (Zb L41 rfl ?_)))))
   intro _ L42
   exact so L42 rfl (Zc L42 rfl fun _ L43 => (sn (wp_ret ((ZE (Yx (ZE (Yx (Zv (rs := Tryz.f164.results.toList) L43 rfl (.tmp rfl Res.nil) (⟨_, _, rfl, R3.ext, ⟨d, rfl, (by omega), (by exact Qj hD (by omega)), (by exact hu)⟩⟩))))))))))
  ·refine so L29 rfl (Zf (b := false) (decide_eq_false t2) (fun _ k_ => ZH L29 rfl rfl k_) fun _ L44 => (so L44 rfl (Zb L44 rfl fun _ L45 => (Zr L45 rfl rfl rfl rfl rfl (Zb L45 rfl fun _ L46 => (Zr L46 rfl rfl rfl rfl rfl (Zb L46 rfl fun _ L47 => ?_)))))))
   by_cases t3 : ((d * wl / 18446744073709551616 : Nat) : Int) = ((r : Nat) : Int)
   ·refine Zr L47 rfl rfl rfl rfl rfl (Zf (b := true) (decide_eq_true t3) (fun _ k_ => ZY L47 rfl rfl k_) fun _ L48 => (Zr L48 rfl rfl rfl rfl rfl (Zb L48 rfl fun _ L49 => (Zr L49 rfl rfl rfl rfl rfl (Zb L49 rfl fun _ L50 => (Zr L50 rfl rfl rfl rfl rfl (Zb L50 rfl fun _ L51 => ?_)))))))
    by_cases t4 : ((d * wl % 18446744073709551616 : Nat) : Int) ≤ ((z : Nat) : Int)
    ·refine Zr L51 rfl rfl rfl rfl rfl (Zf (b := true) (decide_eq_true t4) (fun _ k_ => Qu L51 rfl rfl k_) fun _ L52 => (Zr L52 rfl rfl rfl rfl rfl (Zj L52 rfl rfl fun _ L53 => (so L53 rfl (Zj L53 rfl rfl fun _ L54 => (sn (Zs L54 rfl rfl (wp_seq (Za (so L54 rfl (Zb L54 rfl fun _ L55 => (so L55 rfl (Zc L55 rfl fun _ L56 => ?_)))))))))))))
     exact sn (wp_ret ((ZE (Yx (ZE (Yx (Zv (rs := Tryz.f164.results.toList) L56 rfl (.tmp rfl Res.nil) (⟨_, _, rfl, R3.ext, ⟨d, rfl, (by omega), (by exact Qj hD (by omega)), (by exact hu)⟩⟩))))))))
    ·refine Zr L51 rfl rfl rfl rfl rfl (Zf (b := false) (decide_eq_false t4) (fun _ k_ => Qu L51 rfl rfl k_) fun _ L57 => (Zr L57 rfl rfl rfl rfl rfl (Zj L57 rfl rfl fun _ L58 => (so L58 rfl (Zj L58 rfl rfl fun _ L59 => (sn (Zn L59 rfl rfl (wp_skip ((Ze (wp_seq ?_)))))))))))
     have hor : r * 18446744073709551616 + z < d * wl := by omega
     obtain ⟨hd0, hD', hu'⟩ := dq_step2 hD hor
     refine Za (so L59 rfl (Zb L59 rfl ?_))
     intro _ L60
     refine so L60 rfl (ZS (z := (((d : Nat) : Int) - (1 : Int))) L60 rfl rfl (IntWalk.u64_in _ (by omega)) fun _ L61 => (so L61 rfl (Zc L61 rfl fun _ L62 => (sn (wp_seq (Za (so L62 rfl (Zc L62 rfl fun _ L63 => (sn (wp_seq (Za (so L63 rfl (Zb L63 rfl fun _ L64 => ?_)))))))))))))
     refine so L64 rfl (Zb L64 rfl fun _ L65 => (so L65 rfl (Yv (x := r) (y := vh) (c := 0) L65 rfl (by omega) fun _ L66 => (so L66 rfl (Zb L66 rfl fun _ L67 => (so L67 rfl (Zh L67 rfl rfl fun _ L68 => (so L68 rfl (Zh L68 rfl rfl fun _ L69 => (so L69 rfl (Zc L69 rfl fun _ L70 => (so L70 rfl (Zc L70 rfl fun _ L71 => ?_)))))))))))))
     refine sn (wp_seq (Za (so L71 rfl (Zb L71 rfl ?_))))
     intro _ L72
     by_cases t5 : ¬ (((r + vh + 0) / 18446744073709551616 : Nat) : Int) = (0 : Int)
     ·exact so L72 rfl (Zf (b := true) (decide_eq_true t5) (fun _ k_ => Yj L72 rfl rfl k_) fun _ L73 => (sn (Zs L73 rfl rfl (wp_seq (Za (so L73 rfl (Zb L73 rfl fun _ L74 => (so L74 rfl (Zc L74 rfl fun _ L75 => (sn (wp_ret ((Yx (ZE (Yx (Zv (rs := Tryz.f164.results.toList) L75 rfl (.tmp rfl Res.nil) (⟨_, _, rfl, R3.ext, ⟨(d - 1), (by exact int_eq (by omega)), (by omega), (by exact Xq hD' hw (by omega) (by omega)), (by exact Or.inl hu')⟩⟩)))))))))))))))))
     ·refine so L72 rfl (Zf (b := false) (decide_eq_false t5) (fun _ k_ => Yj L72 rfl rfl k_) fun a71 L76 => (sn (Zn L76 rfl rfl (wp_skip ((ZI (Ze ?_)))))))
      have e3 : ((((d : Nat) : Int) - (1 : Int)) : Int) = (((d - 1) : Nat) : Int) := by omega
      have L77 : Zz a71 67 [(11, (.int .u64 (((d - 1) : Nat) : Int)))] := by have q := (L76.kp [11] rfl); rw [e3] at q; exact q
      have e4 : ((((r + vh + 0) % 18446744073709551616 : Nat) : Int) : Int) = ((((r + vh + 0) % 18446744073709551616) : Nat) : Int) := by omega
      have L78 : Zz a71 67 [(12, (.int .u64 ((((r + vh + 0) % 18446744073709551616) : Nat) : Int)))] := by have q := (L76.kp [12] rfl); rw [e4] at q; exact q
      exact ⟨(d - 1), (by omega), S3, (d - 1), ((r + vh + 0) % 18446744073709551616), (l2.trans l3), (L76.keep (L76.keep (L76.keep (L76.keep (L77.keep (L78.keep (Zz.none _ L76) (t := 12) rfl) (t := 11) rfl) (t := 10) rfl) (t := 4) rfl) (t := 3) rfl) (t := 2) rfl), R3, (by rw [show (r + vh + 0) % 18446744073709551616 = r + vh by omega]; exact hD'), (by omega), (by omega), (by exact Or.inl hu'), rfl⟩
   ·refine Zr L47 rfl rfl rfl rfl rfl (Zf (b := false) (decide_eq_false t3) (fun _ k_ => ZY L47 rfl rfl k_) fun _ L79 => (Zr L79 rfl rfl rfl rfl rfl (Zb L79 rfl fun _ L80 => (Zm L80 rfl rfl rfl rfl rfl rfl fun _ L81 => (Zm L81 rfl rfl rfl rfl rfl rfl fun _ L82 => (Zm L82 rfl rfl rfl rfl rfl rfl fun _ L83 => (Zr L83 rfl rfl rfl rfl rfl (Zj L83 rfl rfl fun _ L84 => (so L84 rfl (Zj L84 rfl rfl fun _ L85 => ?_))))))))))
    refine sn (Zn L85 rfl rfl (wp_skip ((Ze (wp_seq ?_)))))
    have hor : r * 18446744073709551616 + z < d * wl := by omega
    obtain ⟨hd0, hD', hu'⟩ := dq_step2 hD hor
    refine Za (so L85 rfl (Zb L85 rfl ?_))
    intro _ L86
    refine so L86 rfl (ZS (z := (((d : Nat) : Int) - (1 : Int))) L86 rfl rfl (IntWalk.u64_in _ (by omega)) fun _ L87 => (so L87 rfl (Zc L87 rfl fun _ L88 => (sn (wp_seq (Za (so L88 rfl (Zc L88 rfl fun _ L89 => (sn (wp_seq (Za (so L89 rfl (Zb L89 rfl fun _ L90 => ?_)))))))))))))
    refine so L90 rfl (Zb L90 rfl fun _ L91 => (so L91 rfl (Yv (x := r) (y := vh) (c := 0) L91 rfl (by omega) fun _ L92 => (so L92 rfl (Zb L92 rfl fun _ L93 => (so L93 rfl (Zh L93 rfl rfl fun _ L94 => (so L94 rfl (Zh L94 rfl rfl fun _ L95 => (so L95 rfl (Zc L95 rfl fun _ L96 => (so L96 rfl (Zc L96 rfl fun _ L97 => ?_)))))))))))))
    refine sn (wp_seq (Za (so L97 rfl (Zb L97 rfl ?_))))
    intro _ L98
    by_cases t6 : ¬ (((r + vh + 0) / 18446744073709551616 : Nat) : Int) = (0 : Int)
    ·exact so L98 rfl (Zf (b := true) (decide_eq_true t6) (fun _ k_ => Yj L98 rfl rfl k_) fun _ L99 => (sn (Zs L99 rfl rfl (wp_seq (Za (so L99 rfl (Zb L99 rfl fun _ L100 => (so L100 rfl (Zc L100 rfl fun _ L101 => (sn (wp_ret ((Yx (ZE (Yx (Zv (rs := Tryz.f164.results.toList) L101 rfl (.tmp rfl Res.nil) (⟨_, _, rfl, R3.ext, ⟨(d - 1), (by exact int_eq (by omega)), (by omega), (by exact Xq hD' hw (by omega) (by omega)), (by exact Or.inl hu')⟩⟩)))))))))))))))))
    ·refine so L98 rfl (Zf (b := false) (decide_eq_false t6) (fun _ k_ => Yj L98 rfl rfl k_) fun a95 L102 => (sn (Zn L102 rfl rfl (wp_skip ((ZI (Ze ?_)))))))
     have e5 : ((((d : Nat) : Int) - (1 : Int)) : Int) = (((d - 1) : Nat) : Int) := by omega
     have L103 : Zz a95 67 [(11, (.int .u64 (((d - 1) : Nat) : Int)))] := by have q := (L102.kp [11] rfl); rw [e5] at q; exact q
     have e6 : ((((r + vh + 0) % 18446744073709551616 : Nat) : Int) : Int) = ((((r + vh + 0) % 18446744073709551616) : Nat) : Int) := by omega
     have L104 : Zz a95 67 [(12, (.int .u64 ((((r + vh + 0) % 18446744073709551616) : Nat) : Int)))] := by have q := (L102.kp [12] rfl); rw [e6] at q; exact q
     exact ⟨(d - 1), (by omega), S3, (d - 1), ((r + vh + 0) % 18446744073709551616), (l2.trans l3), (L102.keep (L102.keep (L102.keep (L102.keep (L103.keep (L104.keep (Zz.none _ L102) (t := 12) rfl) (t := 11) rfl) (t := 10) rfl) (t := 4) rfl) (t := 3) rfl) (t := 2) rfl), R3, (by rw [show (r + vh + 0) % 18446744073709551616 = r + vh by omega]; exact hD'), (by omega), (by omega), (by exact Or.inl hu'), rfl⟩
 ·refine so L5 rfl (Zf (b := false) (decide_eq_false t1) (fun _ k_ => ZH L5 rfl rfl k_) fun _ L105 => (sn (Zn L105 rfl rfl (wp_seq (Za (so L105 rfl (Zc L105 rfl fun _ L106 => (sn (wp_seq (Za (so L106 rfl (Zb L106 rfl fun _ L107 => ?_))))))))))))
  refine so L107 rfl (Zb L107 rfl fun _ L108 => (so L108 rfl (Yv (x := y) (y := vh) (c := 0) L108 rfl (by omega) fun _ L109 => (so L109 rfl (Zb L109 rfl fun _ L110 => (so L110 rfl (Zh L110 rfl rfl fun _ L111 => (so L111 rfl (Zh L111 rfl rfl fun _ L112 => (so L112 rfl (Zc L112 rfl fun _ L113 => (so L113 rfl (Zc L113 rfl fun _ L114 => ?_)))))))))))))
  have L115 := (L114.kp [2, 3, 4, 10, 11, 12, 13] rfl); clear L114
  refine sn (wp_seq (Za (so L115 rfl (Zb L115 rfl ?_))))
  intro _ L116
  by_cases t7 : ¬ (((y + vh + 0) / 18446744073709551616 : Nat) : Int) = (0 : Int)
  ·exact so L116 rfl (Zf (b := true) (decide_eq_true t7) (fun _ k_ => Yj L116 rfl rfl k_) fun _ L117 => (sn (Zs L117 rfl rfl (wp_seq (Za (so L117 rfl (Zb L117 rfl fun _ L118 => (so L118 rfl (Zc L118 rfl fun _ L119 => (sn (wp_ret ((ZE (Zv (rs := Tryz.f164.results.toList) L119 rfl (.tmp rfl Res.nil) (⟨_, _, rfl, R0.ext, ⟨18446744073709551615, rfl, (by omega), (by exact Xq (K := 18446744073709551616) (r := y + vh) (by omega) (by omega) (by omega) (by omega)), (by exact Or.inr rfl)⟩⟩)))))))))))))))
  ·refine so L116 rfl (Zf (b := false) (decide_eq_false t7) (fun _ k_ => Yj L116 rfl rfl k_) fun a110 L120 => (sn (Zn L120 rfl rfl (wp_skip ((Ze (wp_block ?_)))))))
   have e7 : ((18446744073709551615 : Int) : Int) = ((18446744073709551615 : Nat) : Int) := by omega
   have L122 : Zz a110 67 [(11, (.int .u64 ((18446744073709551615 : Nat) : Int)))] := by have q := (L120.kp [11] rfl); rw [e7] at q; exact q
   have e8 : ((((y + vh + 0) % 18446744073709551616 : Nat) : Int) : Int) = ((((y + vh + 0) % 18446744073709551616) : Nat) : Int) := by omega
   have L123 : Zz a110 67 [(12, (.int .u64 ((((y + vh + 0) % 18446744073709551616) : Nat) : Int)))] := by have q := (L120.kp [12] rfl); rw [e8] at q; exact q
   refine ZZ (fun m ac ww => ∃ (S' : Sh) (d : Nat) (r : Nat), S.le S' ∧ Zz ac 67 [(2, (.int .u64 ((z : Nat) : Int))), (3, (.int .u64 ((vh : Nat) : Int))), (4, (.int .u64 ((wl : Nat) : Int))), (10, (.int .u64 (0 : Int))), (11, (.int .u64 ((d : Nat) : Int))), (12, (.int .u64 ((r : Nat) : Int)))] ∧ Run S w S' [] ww ∧ (d * vh + r = x * 18446744073709551616 + y) ∧ (r < 18446744073709551616) ∧ (d < 18446744073709551616) ∧ ((x * 18446744073709551616 + y) * 18446744073709551616 + z < (d + 1) * (vh * 18446744073709551616 + wl) ∨ d = 18446744073709551615) ∧ m = d)
    (18446744073709551615) ⟨S, 18446744073709551615, ((y + vh + 0) % 18446744073709551616), Sh.le.refl _, (L120.keep (L120.keep (L120.keep (L120.keep (L122.keep (L123.keep (Zz.none _ L120) (t := 12) rfl) (t := 11) rfl) (t := 10) rfl) (t := 4) rfl) (t := 3) rfl) (t := 2) rfl), R0, (by first | exact Nat.div_add_mod' _ _ | omega), (by first | exact Nat.lt_trans (Nat.mod_lt _ (by omega)) hv | omega), (by first | exact Nat.div_lt_of_lt_mul (by omega) | omega), (by first | exact Or.inr rfl | exact Or.inl (dq_init (Nat.div_add_mod' _ _) (Nat.mod_lt _ (by omega)) hz)), rfl⟩ ?_
   rintro m_2 ac2 _ ⟨_, d, r, l4, L121, R4, hD, hr, hdl, hu, m2⟩
   refine wp_block (wp_seq (Za (so L121 rfl (Zb L121 rfl ?_))))
   intro _ L124
   refine so L124 rfl (Zb L124 rfl fun _ L125 => (so L125 rfl (Zp L125 rfl ent_139 (XB R4.holds (x := d) (y := wl)    (hdl) (by omega)) fun v_3 S5 _ x3 v3 => ?_)))
   have R5 := R4.call x3; have l5 := x3.le
   obtain rfl := v3
   intro _ L126
   refine so L126 rfl (Zb L126 rfl fun _ L127 => (so L127 rfl (Zh L127 rfl rfl fun _ L128 => (so L128 rfl (Zh L128 rfl rfl fun _ L129 => (so L129 rfl (Zc L129 rfl fun _ L130 => (so L130 rfl (Zc L130 rfl fun _ L131 => (sn (wp_seq (wp_seq ?_))))))))))))
   refine Za (so L131 rfl (Zb L131 rfl ?_))
   intro _ L132
   refine so L132 rfl (Zb L132 rfl fun _ L133 => ?_)
   by_cases t8 : ((d * wl / 18446744073709551616 : Nat) : Int) < ((r : Nat) : Int)
   ·refine so L133 rfl (Zf (b := true) (decide_eq_true t8) (fun _ k_ => ZH L133 rfl rfl k_) fun _ L134 => (so L134 rfl (Zb L134 rfl fun _ L135 => (Zm L135 rfl rfl rfl rfl rfl rfl fun _ L136 => (Zm L136 rfl rfl rfl rfl rfl rfl fun _ L137 => (Zm L137 rfl rfl rfl rfl rfl rfl fun _ L138 => (Zm L138 rfl rfl rfl rfl rfl rfl fun _ L139 => (Yd L139 rfl rfl rfl rfl rfl fun _ L140 => ?_))))))))
    refine Yd L140 rfl rfl rfl rfl rfl ?_
    intro _ L141
    refine Yd L141 rfl rfl rfl rfl rfl ?_
    intro _ L142
    refine Zm L142 rfl rfl rfl rfl rfl rfl fun _ L143 => (so L143 rfl (Zj L143 rfl rfl fun _ L144 => ?_))
    have L145 := (L144.kp [2, 3, 4, 10, 11, 12, 37, 38, 39, 36, 40, 41, 14, 15, 42, 43, 44, 45, 54] rfl); clear L144
    refine sn (Zs L145 rfl rfl (wp_seq (Za (so L145 rfl (Zb L145 rfl ?_)))))
    intro _ L146
    exact so L146 rfl (Zc L146 rfl fun _ L147 => (sn (wp_ret ((ZE (Yx (ZE (Yx (Zv (rs := Tryz.f164.results.toList) L147 rfl (.tmp rfl Res.nil) (⟨_, _, rfl, R5.ext, ⟨d, rfl, (by omega), (by exact Qj hD (by omega)), (by exact hu)⟩⟩))))))))))
   ·refine so L133 rfl (Zf (b := false) (decide_eq_false t8) (fun _ k_ => ZH L133 rfl rfl k_) fun _ L148 => (so L148 rfl (Zb L148 rfl fun _ L149 => (Zr L149 rfl rfl rfl rfl rfl (Zb L149 rfl fun _ L150 => (Zr L150 rfl rfl rfl rfl rfl (Zb L150 rfl fun _ L151 => ?_)))))))
    by_cases t9 : ((d * wl / 18446744073709551616 : Nat) : Int) = ((r : Nat) : Int)
    ·refine Zr L151 rfl rfl rfl rfl rfl (Zf (b := true) (decide_eq_true t9) (fun _ k_ => ZY L151 rfl rfl k_) fun _ L152 => (Zr L152 rfl rfl rfl rfl rfl (Zb L152 rfl fun _ L153 => (Zr L153 rfl rfl rfl rfl rfl (Zb L153 rfl fun _ L154 => (Zr L154 rfl rfl rfl rfl rfl (Zb L154 rfl fun _ L155 => ?_)))))))
     by_cases t10 : ((d * wl % 18446744073709551616 : Nat) : Int) ≤ ((z : Nat) : Int)
     ·refine Zr L155 rfl rfl rfl rfl rfl (Zf (b := true) (decide_eq_true t10) (fun _ k_ => Qu L155 rfl rfl k_) fun _ L156 => (Zr L156 rfl rfl rfl rfl rfl (Zj L156 rfl rfl fun _ L157 => (so L157 rfl (Zj L157 rfl rfl fun _ L158 => (sn (Zs L158 rfl rfl (wp_seq (Za (so L158 rfl (Zb L158 rfl fun _ L159 => (so L159 rfl (Zc L159 rfl fun _ L160 => ?_)))))))))))))
      exact sn (wp_ret ((ZE (Yx (ZE (Yx (Zv (rs := Tryz.f164.results.toList) L160 rfl (.tmp rfl Res.nil) (⟨_, _, rfl, R5.ext, ⟨d, rfl, (by omega), (by exact Qj hD (by omega)), (by exact hu)⟩⟩))))))))
     ·refine Zr L155 rfl rfl rfl rfl rfl (Zf (b := false) (decide_eq_false t10) (fun _ k_ => Qu L155 rfl rfl k_) fun _ L161 => (Zr L161 rfl rfl rfl rfl rfl (Zj L161 rfl rfl fun _ L162 => (so L162 rfl (Zj L162 rfl rfl fun _ L163 => (sn (Zn L163 rfl rfl (wp_skip ((Ze (wp_seq ?_)))))))))))
      have hor : r * 18446744073709551616 + z < d * wl := by omega
      obtain ⟨hd0, hD', hu'⟩ := dq_step2 hD hor
      refine Za (so L163 rfl (Zb L163 rfl ?_))
      intro _ L164
      refine so L164 rfl (ZS (z := (((d : Nat) : Int) - (1 : Int))) L164 rfl rfl (IntWalk.u64_in _ (by omega)) fun _ L165 => (so L165 rfl (Zc L165 rfl fun _ L166 => (sn (wp_seq (Za (so L166 rfl (Zc L166 rfl fun _ L167 => (sn (wp_seq (Za (so L167 rfl (Zb L167 rfl fun _ L168 => ?_)))))))))))))
      refine so L168 rfl (Zb L168 rfl fun _ L169 => (so L169 rfl (Yv (x := r) (y := vh) (c := 0) L169 rfl (by omega) fun _ L170 => (so L170 rfl (Zb L170 rfl fun _ L171 => (so L171 rfl (Zh L171 rfl rfl fun _ L172 => (so L172 rfl (Zh L172 rfl rfl fun _ L173 => (so L173 rfl (Zc L173 rfl fun _ L174 => (so L174 rfl (Zc L174 rfl fun _ L175 => ?_)))))))))))))
      refine sn (wp_seq (Za (so L175 rfl (Zb L175 rfl ?_))))
      intro _ L176
      by_cases t11 : ¬ (((r + vh + 0) / 18446744073709551616 : Nat) : Int) = (0 : Int)
      ·exact so L176 rfl (Zf (b := true) (decide_eq_true t11) (fun _ k_ => Yj L176 rfl rfl k_) fun _ L177 => (sn (Zs L177 rfl rfl (wp_seq (Za (so L177 rfl (Zb L177 rfl fun _ L178 => (so L178 rfl (Zc L178 rfl fun _ L179 => (sn (wp_ret ((Yx (ZE (Yx (Zv (rs := Tryz.f164.results.toList) L179 rfl (.tmp rfl Res.nil) (⟨_, _, rfl, R5.ext, ⟨(d - 1), (by exact int_eq (by omega)), (by omega), (by exact Xq hD' hw (by omega) (by omega)), (by exact Or.inl hu')⟩⟩)))))))))))))))))
      ·refine so L176 rfl (Zf (b := false) (decide_eq_false t11) (fun _ k_ => Yj L176 rfl rfl k_) fun a166 L180 => (sn (Zn L180 rfl rfl (wp_skip ((ZI (Ze ?_)))))))
       have e9 : ((((d : Nat) : Int) - (1 : Int)) : Int) = (((d - 1) : Nat) : Int) := by omega
       have L181 : Zz a166 67 [(11, (.int .u64 (((d - 1) : Nat) : Int)))] := by have q := (L180.kp [11] rfl); rw [e9] at q; exact q
       have e10 : ((((r + vh + 0) % 18446744073709551616 : Nat) : Int) : Int) = ((((r + vh + 0) % 18446744073709551616) : Nat) : Int) := by omega
       have L182 : Zz a166 67 [(12, (.int .u64 ((((r + vh + 0) % 18446744073709551616) : Nat) : Int)))] := by have q := (L180.kp [12] rfl); rw [e10] at q; exact q
       exact ⟨(d - 1), (by omega), S5, (d - 1), ((r + vh + 0) % 18446744073709551616), (l4.trans l5), (L180.keep (L180.keep (L180.keep (L180.keep (L181.keep (L182.keep (Zz.none _ L180) (t := 12) rfl) (t := 11) rfl) (t := 10) rfl) (t := 4) rfl) (t := 3) rfl) (t := 2) rfl), R5, (by rw [show (r + vh + 0) % 18446744073709551616 = r + vh by omega]; exact hD'), (by omega), (by omega), (by exact Or.inl hu'), rfl⟩
    ·refine Zr L151 rfl rfl rfl rfl rfl (Zf (b := false) (decide_eq_false t9) (fun _ k_ => ZY L151 rfl rfl k_) fun _ L183 => (Zr L183 rfl rfl rfl rfl rfl (Zb L183 rfl fun _ L184 => (Zm L184 rfl rfl rfl rfl rfl rfl fun _ L185 => (Zm L185 rfl rfl rfl rfl rfl rfl fun _ L186 => (Zm L186 rfl rfl rfl rfl rfl rfl fun _ L187 => (Zr L187 rfl rfl rfl rfl rfl (Zj L187 rfl rfl fun _ L188 => (so L188 rfl (Zj L188 rfl rfl fun _ L189 => ?_))))))))))
     refine sn (Zn L189 rfl rfl (wp_skip ((Ze (wp_seq ?_)))))
     have hor : r * 18446744073709551616 + z < d * wl := by omega
     obtain ⟨hd0, hD', hu'⟩ := dq_step2 hD hor
     refine Za (so L189 rfl (Zb L189 rfl ?_))
     intro _ L190
     refine so L190 rfl (ZS (z := (((d : Nat) : Int) - (1 : Int))) L190 rfl rfl (IntWalk.u64_in _ (by omega)) fun _ L191 => (so L191 rfl (Zc L191 rfl fun _ L192 => (sn (wp_seq (Za (so L192 rfl (Zc L192 rfl fun _ L193 => (sn (wp_seq (Za (so L193 rfl (Zb L193 rfl fun _ L194 => ?_)))))))))))))
     refine so L194 rfl (Zb L194 rfl fun _ L195 => (so L195 rfl (Yv (x := r) (y := vh) (c := 0) L195 rfl (by omega) fun _ L196 => (so L196 rfl (Zb L196 rfl fun _ L197 => (so L197 rfl (Zh L197 rfl rfl fun _ L198 => (so L198 rfl (Zh L198 rfl rfl fun _ L199 => (so L199 rfl (Zc L199 rfl fun _ L200 => (so L200 rfl (Zc L200 rfl fun _ L201 => ?_)))))))))))))
     refine sn (wp_seq (Za (so L201 rfl (Zb L201 rfl ?_))))
     intro _ L202
     by_cases t12 : ¬ (((r + vh + 0) / 18446744073709551616 : Nat) : Int) = (0 : Int)
     ·exact so L202 rfl (Zf (b := true) (decide_eq_true t12) (fun _ k_ => Yj L202 rfl rfl k_) fun _ L203 => (sn (Zs L203 rfl rfl (wp_seq (Za (so L203 rfl (Zb L203 rfl fun _ L204 => (so L204 rfl (Zc L204 rfl fun _ L205 => (sn (wp_ret ((Yx (ZE (Yx (Zv (rs := Tryz.f164.results.toList) L205 rfl (.tmp rfl Res.nil) (⟨_, _, rfl, R5.ext, ⟨(d - 1), (by exact int_eq (by omega)), (by omega), (by exact Xq hD' hw (by omega) (by omega)), (by exact Or.inl hu')⟩⟩)))))))))))))))))
     ·refine so L202 rfl (Zf (b := false) (decide_eq_false t12) (fun _ k_ => Yj L202 rfl rfl k_) fun a190 L206 => (sn (Zn L206 rfl rfl (wp_skip ((ZI (Ze ?_)))))))
      have e11 : ((((d : Nat) : Int) - (1 : Int)) : Int) = (((d - 1) : Nat) : Int) := by omega
      have L207 : Zz a190 67 [(11, (.int .u64 (((d - 1) : Nat) : Int)))] := by have q := (L206.kp [11] rfl); rw [e11] at q; exact q
      have e12 : ((((r + vh + 0) % 18446744073709551616 : Nat) : Int) : Int) = ((((r + vh + 0) % 18446744073709551616) : Nat) : Int) := by omega
      have L208 : Zz a190 67 [(12, (.int .u64 ((((r + vh + 0) % 18446744073709551616) : Nat) : Int)))] := by have q := (L206.kp [12] rfl); rw [e12] at q; exact q
      exact ⟨(d - 1), (by omega), S5, (d - 1), ((r + vh + 0) % 18446744073709551616), (l4.trans l5), (L206.keep (L206.keep (L206.keep (L206.keep (L207.keep (L208.keep (Zz.none _ L206) (t := 12) rfl) (t := 11) rfl) (t := 10) rfl) (t := 4) rfl) (t := 3) rfl) (t := 2) rfl), R5, (by rw [show (r + vh + 0) % 18446744073709551616 = r + vh by omega]; exact hD'), (by omega), (by omega), (by exact Or.inl hu'), rfl⟩
set_option maxRecDepth 20000 in
theorem nat_up {S : Sh} {w : World} (hS : Yw S w) {p_d : Option Addr} {len_d cap_d : Nat} {d : List Nat} (hd_d : Dg S p_d len_d cap_d d) {n : Nat} {sz : Nat} (hn : n < 64) (hm : len_d ≤ sz) (hm2 : sz ≤ 1099511627776) : Calls Tryz.prog 163 [(.slice p_d len_d cap_d), (.int .i64 ((n : Nat) : Int)), (.int .i64 ((sz : Nat) : Int))].toArray w (RetN S w (fun S v H => ∃ (b : Nat) (ds : List Nat), H = [(b, tU64, Yl ds ++ [])] ∧ v = .slice (some ⟨b, 0, none⟩) (sz) (sz) ∧ ds.length = sz ∧ (∀ e ∈ ds, e < 18446744073709551616) ∧ val W64 ds + W64 ^ sz * cr d n sz = val W64 d * 2 ^ n)) := by
 refine ZT (n := 57) Tryz.func163 rfl rfl ?_
 intro ac0 L0
 replace L0 : Zz ac0 57 [(0, (.slice p_d len_d cap_d)), (1, (.int .i64 ((n : Nat) : Int))), (2, (.int .i64 ((sz : Nat) : Int)))] := L0
 have R0 : Run S w S [] w := .start hS
 have hl_d := hd_d.hlen; have hc_d := hd_d.hcap; have hg_d := hd_d.hbig
 refine wp_seq (Za (so L0 rfl (Zc L0 rfl ?_)))
 intro _ L1
 refine sn (wp_seq (Za (so L1 rfl (Zb L1 rfl ?_))))
 intro _ L2
 refine so L2 rfl (YV (m := sz) (c := sz) L2 (by first | rfl | (simp [ev, QC]; omega)) (by first | rfl | (simp [ev, QC]; omega)) Tryz.underlying30 Xv rfl ZB XY (by omega) (by omega) (by omega) R0 fun b1 _ R1 _ L3 => ?_)
 rw [Zat] at R1
 refine so L3 rfl (Zc L3 rfl fun _ L4 => (sn (wp_seq (wp_seq (Za (so L4 rfl (Zb L4 rfl fun _ L5 => (so L5 rfl (ZO L5 rfl Tryz.underlying30 fun _ L6 => (so L6 rfl (Zb L6 rfl fun a7 L7 => (sn ?_))))))))))))
 refine wp_block ?_
 have e1 : ((0 : Int) : Int) = ((0 : Nat) : Int) := by omega
 have L9 : Zz a7 57 [(13, (.int .i64 ((0 : Nat) : Int)))] := by have q := (L7.kp [13] rfl); rw [e1] at q; exact q
 refine ZZ (fun m ac ww => ∃ (S' : Sh) (us : List Nat) (i : Nat), S.le S' ∧ Zz ac 57 [(0, (.slice p_d len_d cap_d)), (1, (.int .i64 ((n : Nat) : Int))), (6, (.slice none 0 0)), (7, (.slice (some ⟨b1, 0, none⟩) (sz) (sz))), (12, (.int .i64 (((sz) : Nat) : Int))), (13, (.int .i64 ((i : Nat) : Int)))] ∧ Run S w S' [(b1, 29, (Yl us ++ []))] ww ∧ (Zco d us n sz i) ∧ m = sz - i)
  (sz - 0) ⟨S, (List.replicate (sz) 0), 0, Sh.le.refl _, (L7.keep (L7.keep (L7.keep (L7.keep (L7.keep (L9.keep (Zz.none _ L7) (t := 13) rfl) (t := 12) rfl) (t := 7) rfl) (t := 6) rfl) (t := 1) rfl) (t := 0) rfl), R1, (by exact Zco.start), rfl⟩ ?_
 rintro m_1 ac1 _ ⟨S1, us, i, l1, L8, R2, hI, m1⟩
 refine wp_seq (Za ?_)
 by_cases t1 : ((i : Nat) : Int) < (((sz) : Nat) : Int)
 ·refine so L8 rfl (Zf (b := true) (decide_eq_true t1) (fun _ k_ => ZH L8 rfl rfl k_) fun _ L10 => (sn (wp_seq (Zs L10 rfl rfl (wp_skip ((Ze (wp_seq (wp_block (wp_seq ?_))))))))))
  have hIl := hI.len; have hIe := hI.le
  refine Za (so L10 rfl (Zb L10 rfl ?_))
  intro _ L11
  refine so L11 rfl (Zc L11 rfl fun _ L12 => (sn (wp_seq (wp_seq (Za (so L12 rfl (Zb L12 rfl fun _ L13 => (so L13 rfl (Zb L13 rfl fun _ L14 => (so L14 rfl (ZO L14 rfl Tryz.underlying30 fun _ L15 => ?_)))))))))))
  by_cases t2 : ((i : Nat) : Int) < ((len_d : Nat) : Int)
  ·refine so L15 rfl (Zf (b := true) (decide_eq_true t2) (fun _ k_ => ZH L15 rfl rfl k_) fun _ L16 => (sn (Zs L16 rfl rfl (Za (so L16 rfl (Zb L16 rfl fun _ L17 => (so L17 rfl (Zb L17 rfl fun _ L18 => (so L18 rfl (Zb L18 rfl fun _ L19 => (so L19 rfl (Zb L19 rfl fun _ L20 => ?_))))))))))))
   obtain ⟨b2, rest_1, rfl, r1⟩ := (hd_d.up l1).row (by omega)
   refine so L20 rfl (Zu (i) L20 rfl rfl Tryz.underlying30 ZB (by omega) (by omega) fun _ L21 => (so L21 rfl (Zl (v := (.int .u64 ((d.getD (i) 0 : Nat) : Int))) L21 rfl Yi (R2.row r1) (by rw [Nat.zero_add]; exact ZW (by omega)) fun _ L22 => (so L22 rfl (Zb L22 rfl fun _ L23 => (so L23 rfl (QH (i := (d.getD (i) 0)) (s := n) L23 rfl rfl (by omega) fun _ L24 => (so L24 rfl (Zu (i) L24 rfl rfl Tryz.underlying30 ZB (by omega) (by omega) fun _ L25 => (Zx L25 rfl rfl (Yh (cs' := (Yl (us.set (i) (((d.getD (i) 0) * 2 ^ n % 18446744073709551616))) ++ [])) L25 rfl rfl R2 ZB rfl (by simp only [List.length_append, ZG]; omega) (by rw [Nat.zero_add]; exact YC (by omega)) fun _ R3 _ L26 => (sn ?_))))))))))))
   refine wp_seq (Za (so L26 rfl (Zb L26 rfl ?_)))
   intro _ L27
   by_cases t3 : (0 : Int) < ((i : Nat) : Int)
   ·refine so L27 rfl (Zf (b := true) (decide_eq_true t3) (fun _ k_ => ZP L27 rfl rfl k_) fun _ L28 => (so L28 rfl (Zb L28 rfl fun _ L29 => (Zr L29 rfl rfl rfl rfl rfl (Zb L29 rfl fun _ L30 => (Zr L30 rfl rfl rfl rfl rfl (Zb L30 rfl fun _ L31 => (Zr L31 rfl rfl rfl rfl rfl (ZO L31 rfl Tryz.underlying30 fun _ L32 => ?_)))))))))
    have t4 : ((i : Nat) : Int) ≤ ((len_d : Nat) : Int) := by omega
    refine Zr L32 rfl rfl rfl rfl rfl (Zf (b := true) (decide_eq_true t4) (fun _ k_ => Qu L32 rfl rfl k_) fun _ L33 => (so L33 rfl (Zj L33 rfl rfl fun _ L34 => (so L34 rfl (Zb L34 rfl fun _ L35 => (Zr L35 rfl rfl rfl rfl rfl (Zb L35 rfl fun _ L36 => ?_)))))))
    by_cases t5 : (0 : Int) < ((n : Nat) : Int)
    ·refine Zr L36 rfl rfl rfl rfl rfl (Zf (b := true) (decide_eq_true t5) (fun _ k_ => ZP L36 rfl rfl k_) fun _ L37 => (so L37 rfl (Zj L37 rfl rfl fun _ L38 => (sn (Zs L38 rfl rfl ?_)))))
     have L39 := (L38.kp [0, 1, 6, 7, 12, 13, 14, 15, 8, 16, 17, 18, 19, 20, 21, 22, 23, 24, 25, 26, 27, 28, 29, 30, 31, 32, 33, 34, 35, 36, 37, 38, 39, 40] rfl)
     refine Zy (E0 := []) (H0 := [(b1, 29, (Yl (us.set (i) (((d.getD (i) 0) * 2 ^ n % 18446744073709551616))) ++ []))]) (n := 57) mixed 12 [] (fun k =>  0) (Zaf [
       .is (.slice (some ⟨b1, 0, none⟩) (sz) (sz)),
       .is (.int .i64 ((i : Nat) : Int)),
       .is (.pointer (some ⟨b1, (0 + (i)), none⟩)),
       .is (.int .u64 (((us.set (i) (((d.getD (i) 0) * 2 ^ n % 18446744073709551616))).getD (i) 0 : Nat) : Int)),
       .is (.slice (some ⟨b2, 0, none⟩) len_d cap_d),
       .is (.int .i64 ((i : Nat) : Int)),
       .is (.int .i64 (((i : Nat) : Int) - (1 : Int))),
       .is (.pointer (some ⟨b2, (0 + ((i - 1))), none⟩)),
       .is (.int .u64 ((d.getD ((i - 1)) 0 : Nat) : Int)),
       .is (.int .i64 ((n : Nat) : Int)),
       .is (.int .i64 ((64 - n : Nat) : Int)),
       .is (.int .u64 (((d.getD ((i - 1)) 0) / 2 ^ (64 - n) : Nat) : Int))]) L39 R3 (by simp) (by simp) (by rfl) (by rfl) (by simp) (ZU ?_) ?_
     ·refine (And.intro ?_ (And.intro ?_ (And.intro ?_ (And.intro ?_ (And.intro ?_ (And.intro ?_ (And.intro ?_ (And.intro ?_ (And.intro ?_ (And.intro ?_ (And.intro ?_ (And.intro ?_ trivial))))))))))))
      ·exact Zd rfl (fun _ _ _ _ _ A1 => (Zb A1.live rfl (A1.same  rfl)))
      ·exact Zd rfl (fun _ _ _ _ _ A2 => (Zb A2.live rfl (A2.same  rfl)))
      ·refine Zd rfl (fun _ _ _ _ _ A3 => ?_)
       obtain ⟨_, e2, rfl⟩ := A3.known 0 rfl
       obtain ⟨_, e3, rfl⟩ := A3.known 1 rfl
       exact Zu (i) ((A3.live.add e2).add e3) rfl rfl Tryz.underlying30 ZB (by omega) (by omega) (A3.same  rfl)
      ·refine Zd rfl (fun _ _ _ _ _ A4 => ?_)
       obtain ⟨_, e4, rfl⟩ := A4.known 2 rfl
       exact Zl (v := (.int .u64 (((us.set (i) (((d.getD (i) 0) * 2 ^ n % 18446744073709551616))).getD (i) 0 : Nat) : Int))) (A4.live.add e4) rfl Yi (A4.run.has (List.mem_append_right _ (List.Mem.head _))) (by rw [Nat.zero_add]; exact ZW (by first | omega | (simp only [List.length_set]; omega))) (A4.same  rfl)
      ·exact Zd rfl (fun _ _ _ _ _ A5 => (Zb A5.live rfl (A5.same  rfl)))
      ·exact Zd rfl (fun _ _ _ _ _ A6 => (Zb A6.live rfl (A6.same  rfl)))
      ·refine Zd rfl (fun _ _ _ _ _ A7 => ?_)
       obtain ⟨_, e5, rfl⟩ := A7.known 5 rfl
       exact ZS (z := (((i : Nat) : Int) - (1 : Int))) (A7.live.add e5) rfl rfl (IntWalk.i64_in _ (by omega)) (A7.same  rfl)
      ·refine Zd rfl (fun _ _ _ _ _ A8 => ?_)
       obtain ⟨_, e6, rfl⟩ := A8.known 4 rfl
       obtain ⟨_, e7, rfl⟩ := A8.known 6 rfl
       exact Zu ((i - 1)) ((A8.live.add e6).add e7) rfl rfl Tryz.underlying30 ZB (by omega) (by omega) (A8.same  rfl)
      ·refine Zd rfl (fun _ _ _ _ _ A9 => ?_)
       obtain ⟨_, e8, rfl⟩ := A9.known 7 rfl
       exact Zl (v := (.int .u64 ((d.getD ((i - 1)) 0 : Nat) : Int))) (A9.live.add e8) rfl Yi (A9.run.row (r1.up A9.le)) (by rw [Nat.zero_add]; exact ZW (by omega)) (A9.same  rfl)
      ·exact Zd rfl (fun _ _ _ _ _ A10 => (Zb A10.live rfl (A10.same  rfl)))
      ·refine Zd rfl (fun _ _ _ _ _ A11 => ?_)
       obtain ⟨_, e9, rfl⟩ := A11.known 9 rfl
       exact ZS (z := ((64 - n : Nat) : Int)) (A11.live.add e9) rfl rfl (i64_to (by omega) (by omega)) (A11.same  rfl)
      ·refine Zd rfl (fun _ _ _ _ _ A12 => ?_)
       obtain ⟨_, e10, rfl⟩ := A12.known 8 rfl
       obtain ⟨_, e11, rfl⟩ := A12.known 10 rfl
       exact Xy (i := (d.getD ((i - 1)) 0)) (s := (64 - n)) ((A12.live.add e10).add e11) rfl rfl (by omega) (A12.same  rfl)
     ·intro S14 _ _ w16 l2 E1 R4 n1 L52 K1
      obtain ⟨_, e12, rfl⟩ := K1 0 (by decide)
      have L53 := L52.add e12; clear L52
      obtain ⟨_, e13, rfl⟩ := K1 1 (by decide)
      have L54 := L53.add e13; clear L53
      obtain ⟨_, e14, rfl⟩ := K1 2 (by decide)
      have L55 := L54.add e14; clear L54
      obtain ⟨_, e15, rfl⟩ := K1 3 (by decide)
      have L56 := L55.add e15; clear L55
      obtain ⟨_, e16, rfl⟩ := K1 4 (by decide)
      have L57 := L56.add e16; clear L56
      obtain ⟨_, e17, rfl⟩ := K1 5 (by decide)
      have L58 := L57.add e17; clear L57
      obtain ⟨_, e18, rfl⟩ := K1 6 (by decide)
      have L59 := L58.add e18; clear L58
      obtain ⟨_, e19, rfl⟩ := K1 7 (by decide)
      have L60 := L59.add e19; clear L59
      obtain ⟨_, e20, rfl⟩ := K1 8 (by decide)
      have L61 := L60.add e20; clear L60
      obtain ⟨_, e21, rfl⟩ := K1 9 (by decide)
      have L62 := L61.add e21; clear L61
      obtain ⟨_, e22, rfl⟩ := K1 10 (by decide)
      have L63 := L62.add e22; clear L62
      obtain ⟨_, e23, rfl⟩ := K1 11 (by decide)
      have L64 := L63.add e23; clear L63
      have R5 : Run _ _ S14 [(b1, 29, (Yl (us.set (i) (((d.getD (i) 0) * 2 ^ n % 18446744073709551616))) ++ []))] w16 := Yc R4 n1 [] (by simp) (by simp)
      refine so L64 rfl (Zcc (i := ((us.set (i) (((d.getD (i) 0) * 2 ^ n % 18446744073709551616))).getD (i) 0)) (j := ((d.getD ((i - 1)) 0) / 2 ^ (64 - n))) (z := d.getD i 0 * 2 ^ n % 18446744073709551616 + cr d n i) L64 rfl rfl (by first | exact ZR (Qo hI.lt (Nat.mod_lt _ (by decide))) (by decide) _ | exact ZR hI.lt (by decide) _) (by exact Nat.lt_of_le_of_lt (Nat.div_le_self _ _) (ZR hd_d.hlt (by decide) _)) (by first | exact up_or1 hn hd_d.hlt (by omega) (by omega) | exact up_or0 hI (by omega) (by omega)) fun _ L65 => (so L65 rfl (Zu (i) L65 rfl rfl Tryz.underlying30 ZB (by omega) (by omega) fun _ L66 => (Zx L66 rfl rfl (Yh (cs' := (Yl ((us.set (i) (((d.getD (i) 0) * 2 ^ n % 18446744073709551616))).set (i) ((d.getD i 0 * 2 ^ n % 18446744073709551616 + cr d n i))) ++ [])) L66 rfl rfl R5 ZB rfl (by simp only [List.length_append, ZG]; first | omega | (simp only [List.length_set]; omega)) (by rw [Nat.zero_add]; exact YC (by first | omega | (simp only [List.length_set]; omega))) fun _ R6 _ L67 => (Yr ((ZI (Ze (Za (so L67 rfl (ZK (z := (((i : Nat) : Int) + (1 : Int))) L67 rfl rfl (IntWalk.i64_in _ (by omega)) fun _ L68 => (so L68 rfl (Zb L68 rfl fun a54 L69 => (sn ?_)))))))))))))))
      have e24 : ((((i : Nat) : Int) + (1 : Int)) : Int) = (((i + 1) : Nat) : Int) := by omega
      have L70 : Zz a54 57 [(13, (.int .i64 (((i + 1) : Nat) : Int)))] := by have q := (L69.kp [13] rfl); rw [e24] at q; exact q
      exact ⟨sz - (i + 1), (by omega), S14, ((us.set (i) (((d.getD (i) 0) * 2 ^ n % 18446744073709551616))).set (i) ((d.getD i 0 * 2 ^ n % 18446744073709551616 + cr d n i))), (i + 1), (l1.trans l2), (L69.keep (L69.keep (L69.keep (L69.keep (L69.keep (L70.keep (Zz.none _ L69) (t := 13) rfl) (t := 12) rfl) (t := 7) rfl) (t := 6) rfl) (t := 1) rfl) (t := 0) rfl), R6, (by first | exact hI.step' hn hd_d.hlt (by omega) rfl | exact hI.step' hn hd_d.hlt (by omega) List.set_set | exact hI.step' hn hd_d.hlt (by omega) (List.set_set ..) | exact hI.step' hn hd_d.hlt (by omega) (QN hd_d.hlt (by omega)) | exact hI.step' hn hd_d.hlt (by omega) (QO hI (by omega) hd_d.hlt (by omega) (by omega))), rfl⟩
    ·refine Zr L36 rfl rfl rfl rfl rfl (Zf (b := false) (decide_eq_false t5) (fun _ k_ => ZP L36 rfl rfl k_) fun _ L71 => (so L71 rfl (Zj L71 rfl rfl fun _ L72 => (sn (Zn L72 rfl rfl (wp_skip ((ZI (Ze (Za (so L72 rfl (ZK (z := (((i : Nat) : Int) + (1 : Int))) L72 rfl rfl (IntWalk.i64_in _ (by omega)) fun _ L73 => (so L73 rfl (Zb L73 rfl fun a58 L74 => (sn ?_)))))))))))))))
     have e25 : ((((i : Nat) : Int) + (1 : Int)) : Int) = (((i + 1) : Nat) : Int) := by omega
     have L75 : Zz a58 57 [(13, (.int .i64 (((i + 1) : Nat) : Int)))] := by have q := (L74.kp [13] rfl); rw [e25] at q; exact q
     exact ⟨sz - (i + 1), (by omega), S1, (us.set (i) (((d.getD (i) 0) * 2 ^ n % 18446744073709551616))), (i + 1), l1, (L74.keep (L74.keep (L74.keep (L74.keep (L74.keep (L75.keep (Zz.none _ L74) (t := 13) rfl) (t := 12) rfl) (t := 7) rfl) (t := 6) rfl) (t := 1) rfl) (t := 0) rfl), R3, (by first | exact hI.step' hn hd_d.hlt (by omega) rfl | exact hI.step' hn hd_d.hlt (by omega) List.set_set | exact hI.step' hn hd_d.hlt (by omega) (List.set_set ..) | exact hI.step' hn hd_d.hlt (by omega) (QN hd_d.hlt (by omega)) | exact hI.step' hn hd_d.hlt (by omega) (QO hI (by omega) hd_d.hlt (by omega) (by omega))), rfl⟩
   ·refine so L27 rfl (Zf (b := false) (decide_eq_false t3) (fun _ k_ => ZP L27 rfl rfl k_) fun _ L76 => (so L76 rfl (Zb L76 rfl fun _ L77 => (Zm L77 rfl rfl rfl rfl rfl rfl fun _ L78 => (Zm L78 rfl rfl rfl rfl rfl rfl fun _ L79 => (Zm L79 rfl rfl rfl rfl rfl rfl fun _ L80 => (Zm L80 rfl rfl rfl rfl rfl rfl fun _ L81 => (so L81 rfl (Zj L81 rfl rfl fun _ L82 => ?_)))))))))
    refine so L82 rfl (Zb L82 rfl fun _ L83 => (Zm L83 rfl rfl rfl rfl rfl rfl fun _ L84 => (Zm L84 rfl rfl rfl rfl rfl rfl fun _ L85 => (so L85 rfl (Zj L85 rfl rfl fun _ L86 => ?_)))))
    have L87 := (L86.kp [0, 1, 6, 7, 12, 13, 14, 15, 8, 16, 17, 18, 19, 20, 21, 22, 23, 24, 25, 26, 27, 28, 29, 30, 31, 36, 37, 40] rfl); clear L86
    refine sn (Zn L87 rfl rfl (wp_skip ((ZI (Ze (Za (so L87 rfl (ZK (z := (((i : Nat) : Int) + (1 : Int))) L87 rfl rfl (IntWalk.i64_in _ (by omega)) ?_))))))))
    intro _ L88
    refine so L88 rfl (Zb L88 rfl fun a71 L89 => (sn ?_))
    have e26 : ((((i : Nat) : Int) + (1 : Int)) : Int) = (((i + 1) : Nat) : Int) := by omega
    have L90 : Zz a71 57 [(13, (.int .i64 (((i + 1) : Nat) : Int)))] := by have q := (L89.kp [13] rfl); rw [e26] at q; exact q
    exact ⟨sz - (i + 1), (by omega), S1, (us.set (i) (((d.getD (i) 0) * 2 ^ n % 18446744073709551616))), (i + 1), l1, (L89.keep (L89.keep (L89.keep (L89.keep (L89.keep (L90.keep (Zz.none _ L89) (t := 13) rfl) (t := 12) rfl) (t := 7) rfl) (t := 6) rfl) (t := 1) rfl) (t := 0) rfl), R3, (by first | exact hI.step' hn hd_d.hlt (by omega) rfl | exact hI.step' hn hd_d.hlt (by omega) List.set_set | exact hI.step' hn hd_d.hlt (by omega) (List.set_set ..) | exact hI.step' hn hd_d.hlt (by omega) (QN hd_d.hlt (by omega)) | exact hI.step' hn hd_d.hlt (by omega) (QO hI (by omega) hd_d.hlt (by omega) (by omega))), rfl⟩
  ·refine so L15 rfl (Zf (b := false) (decide_eq_false t2) (fun _ k_ => ZH L15 rfl rfl k_) fun _ L91 => (sn (Zn L91 rfl rfl (wp_skip ((Ze (wp_seq (Za (so L91 rfl (Zb L91 rfl fun _ L92 => ?_))))))))))
   by_cases t6 : (0 : Int) < ((i : Nat) : Int)
   ·refine so L92 rfl (Zf (b := true) (decide_eq_true t6) (fun _ k_ => ZP L92 rfl rfl k_) fun _ L93 => (so L93 rfl (Zb L93 rfl fun _ L94 => (Zr L94 rfl rfl rfl rfl rfl (Zb L94 rfl fun _ L95 => (Zr L95 rfl rfl rfl rfl rfl (Zb L95 rfl fun _ L96 => (Zr L96 rfl rfl rfl rfl rfl (ZO L96 rfl Tryz.underlying30 fun _ L97 => ?_)))))))))
    by_cases t7 : ((i : Nat) : Int) ≤ ((len_d : Nat) : Int)
    ·refine Zr L97 rfl rfl rfl rfl rfl (Zf (b := true) (decide_eq_true t7) (fun _ k_ => Qu L97 rfl rfl k_) fun _ L98 => (so L98 rfl (Zj L98 rfl rfl fun _ L99 => (so L99 rfl (Zb L99 rfl fun _ L100 => (Zr L100 rfl rfl rfl rfl rfl (Zb L100 rfl fun _ L101 => ?_)))))))
     by_cases t8 : (0 : Int) < ((n : Nat) : Int)
     ·refine Zr L101 rfl rfl rfl rfl rfl (Zf (b := true) (decide_eq_true t8) (fun _ k_ => ZP L101 rfl rfl k_) fun _ L102 => (so L102 rfl (Zj L102 rfl rfl fun _ L103 => (sn (Zs L103 rfl rfl ?_)))))
      obtain ⟨b3, rest_2, rfl, r2⟩ := (hd_d.up l1).row (by omega)
      have L104 := (L103.kp [0, 1, 6, 7, 12, 13, 14, 15, 8, 16, 17, 18, 19, 29, 30, 31, 32, 33, 34, 35, 36, 37, 38, 39, 40] rfl)
      refine Zy (E0 := []) (H0 := [(b1, 29, (Yl us ++ []))]) (n := 57) mixed 12 [] (fun k =>  0) (Zaf [
        .is (.slice (some ⟨b1, 0, none⟩) (sz) (sz)),
        .is (.int .i64 ((i : Nat) : Int)),
        .is (.pointer (some ⟨b1, (0 + (i)), none⟩)),
        .is (.int .u64 ((us.getD (i) 0 : Nat) : Int)),
        .is (.slice (some ⟨b3, 0, none⟩) len_d cap_d),
        .is (.int .i64 ((i : Nat) : Int)),
        .is (.int .i64 (((i : Nat) : Int) - (1 : Int))),
        .is (.pointer (some ⟨b3, (0 + ((i - 1))), none⟩)),
        .is (.int .u64 ((d.getD ((i - 1)) 0 : Nat) : Int)),
        .is (.int .i64 ((n : Nat) : Int)),
        .is (.int .i64 ((64 - n : Nat) : Int)),
        .is (.int .u64 (((d.getD ((i - 1)) 0) / 2 ^ (64 - n) : Nat) : Int))]) L104 R2 (by simp) (by simp) (by rfl) (by rfl) (by simp) (ZU ?_) ?_
      ·refine (And.intro ?_ (And.intro ?_ (And.intro ?_ (And.intro ?_ (And.intro ?_ (And.intro ?_ (And.intro ?_ (And.intro ?_ (And.intro ?_ (And.intro ?_ (And.intro ?_ (And.intro ?_ trivial))))))))))))
       ·exact Zd rfl (fun _ _ _ _ _ A13 => (Zb A13.live rfl (A13.same  rfl)))
       ·exact Zd rfl (fun _ _ _ _ _ A14 => (Zb A14.live rfl (A14.same  rfl)))
       ·refine Zd rfl (fun _ _ _ _ _ A15 => ?_)
        obtain ⟨_, e27, rfl⟩ := A15.known 0 rfl
        obtain ⟨_, e28, rfl⟩ := A15.known 1 rfl
        exact Zu (i) ((A15.live.add e27).add e28) rfl rfl Tryz.underlying30 ZB (by omega) (by omega) (A15.same  rfl)
       ·refine Zd rfl (fun _ _ _ _ _ A16 => ?_)
        obtain ⟨_, e29, rfl⟩ := A16.known 2 rfl
        exact Zl (v := (.int .u64 ((us.getD (i) 0 : Nat) : Int))) (A16.live.add e29) rfl Yi (A16.run.has (List.mem_append_right _ (List.Mem.head _))) (by rw [Nat.zero_add]; exact ZW (by first | omega | (simp only [List.length_set]; omega))) (A16.same  rfl)
       ·exact Zd rfl (fun _ _ _ _ _ A17 => (Zb A17.live rfl (A17.same  rfl)))
       ·exact Zd rfl (fun _ _ _ _ _ A18 => (Zb A18.live rfl (A18.same  rfl)))
       ·refine Zd rfl (fun _ _ _ _ _ A19 => ?_)
        obtain ⟨_, e30, rfl⟩ := A19.known 5 rfl
        exact ZS (z := (((i : Nat) : Int) - (1 : Int))) (A19.live.add e30) rfl rfl (IntWalk.i64_in _ (by omega)) (A19.same  rfl)
       ·refine Zd rfl (fun _ _ _ _ _ A20 => ?_)
        obtain ⟨_, e31, rfl⟩ := A20.known 4 rfl
        obtain ⟨_, e32, rfl⟩ := A20.known 6 rfl
        exact Zu ((i - 1)) ((A20.live.add e31).add e32) rfl rfl Tryz.underlying30 ZB (by omega) (by omega) (A20.same  rfl)
       ·refine Zd rfl (fun _ _ _ _ _ A21 => ?_)
        obtain ⟨_, e33, rfl⟩ := A21.known 7 rfl
        exact Zl (v := (.int .u64 ((d.getD ((i - 1)) 0 : Nat) : Int))) (A21.live.add e33) rfl Yi (A21.run.row (r2.up A21.le)) (by rw [Nat.zero_add]; exact ZW (by omega)) (A21.same  rfl)
       ·exact Zd rfl (fun _ _ _ _ _ A22 => (Zb A22.live rfl (A22.same  rfl)))
       ·refine Zd rfl (fun _ _ _ _ _ A23 => ?_)
        obtain ⟨_, e34, rfl⟩ := A23.known 9 rfl
        exact ZS (z := ((64 - n : Nat) : Int)) (A23.live.add e34) rfl rfl (i64_to (by omega) (by omega)) (A23.same  rfl)
       ·refine Zd rfl (fun _ _ _ _ _ A24 => ?_)
        obtain ⟨_, e35, rfl⟩ := A24.known 8 rfl
        obtain ⟨_, e36, rfl⟩ := A24.known 10 rfl
        exact Xy (i := (d.getD ((i - 1)) 0)) (s := (64 - n)) ((A24.live.add e35).add e36) rfl rfl (by omega) (A24.same  rfl)
      ·intro S27 _ _ w30 l3 E2 R7 n2 L117 K2
       obtain ⟨_, e37, rfl⟩ := K2 0 (by decide)
       have L118 := L117.add e37; clear L117
       obtain ⟨_, e38, rfl⟩ := K2 1 (by decide)
       have L119 := L118.add e38; clear L118
       obtain ⟨_, e39, rfl⟩ := K2 2 (by decide)
       have L120 := L119.add e39; clear L119
       obtain ⟨_, e40, rfl⟩ := K2 3 (by decide)
       have L121 := L120.add e40; clear L120
       obtain ⟨_, e41, rfl⟩ := K2 4 (by decide)
       have L122 := L121.add e41; clear L121
       obtain ⟨_, e42, rfl⟩ := K2 5 (by decide)
       have L123 := L122.add e42; clear L122
       obtain ⟨_, e43, rfl⟩ := K2 6 (by decide)
       have L124 := L123.add e43; clear L123
       obtain ⟨_, e44, rfl⟩ := K2 7 (by decide)
       have L125 := L124.add e44; clear L124
       obtain ⟨_, e45, rfl⟩ := K2 8 (by decide)
       have L126 := L125.add e45; clear L125
       obtain ⟨_, e46, rfl⟩ := K2 9 (by decide)
       have L127 := L126.add e46; clear L126
       obtain ⟨_, e47, rfl⟩ := K2 10 (by decide)
       have L128 := L127.add e47; clear L127
       obtain ⟨_, e48, rfl⟩ := K2 11 (by decide)
       have L129 := L128.add e48; clear L128
       have R8 : Run _ _ S27 [(b1, 29, (Yl us ++ []))] w30 := Yc R7 n2 [] (by simp) (by simp)
       refine so L129 rfl (Zcc (i := (us.getD (i) 0)) (j := ((d.getD ((i - 1)) 0) / 2 ^ (64 - n))) (z := d.getD i 0 * 2 ^ n % 18446744073709551616 + cr d n i) L129 rfl rfl (by first | exact ZR (Qo hI.lt (Nat.mod_lt _ (by decide))) (by decide) _ | exact ZR hI.lt (by decide) _) (by exact Nat.lt_of_le_of_lt (Nat.div_le_self _ _) (ZR hd_d.hlt (by decide) _)) (by first | exact up_or1 hn hd_d.hlt (by omega) (by omega) | exact up_or0 hI (by omega) (by omega)) fun _ L130 => (so L130 rfl (Zu (i) L130 rfl rfl Tryz.underlying30 ZB (by omega) (by omega) fun _ L131 => (Zx L131 rfl rfl (Yh (cs' := (Yl (us.set (i) ((d.getD i 0 * 2 ^ n % 18446744073709551616 + cr d n i))) ++ [])) L131 rfl rfl R8 ZB rfl (by simp only [List.length_append, ZG]; first | omega | (simp only [List.length_set]; omega)) (by rw [Nat.zero_add]; exact YC (by first | omega | (simp only [List.length_set]; omega))) fun _ R9 _ L132 => (Yr ((ZI (Ze (Za (so L132 rfl (ZK (z := (((i : Nat) : Int) + (1 : Int))) L132 rfl rfl (IntWalk.i64_in _ (by omega)) fun _ L133 => (so L133 rfl (Zb L133 rfl fun a102 L134 => (sn ?_)))))))))))))))
       have e49 : ((((i : Nat) : Int) + (1 : Int)) : Int) = (((i + 1) : Nat) : Int) := by omega
       have L135 : Zz a102 57 [(13, (.int .i64 (((i + 1) : Nat) : Int)))] := by have q := (L134.kp [13] rfl); rw [e49] at q; exact q
       exact ⟨sz - (i + 1), (by omega), S27, (us.set (i) ((d.getD i 0 * 2 ^ n % 18446744073709551616 + cr d n i))), (i + 1), (l1.trans l3), (L134.keep (L134.keep (L134.keep (L134.keep (L134.keep (L135.keep (Zz.none _ L134) (t := 13) rfl) (t := 12) rfl) (t := 7) rfl) (t := 6) rfl) (t := 1) rfl) (t := 0) rfl), R9, (by first | exact hI.step' hn hd_d.hlt (by omega) rfl | exact hI.step' hn hd_d.hlt (by omega) List.set_set | exact hI.step' hn hd_d.hlt (by omega) (List.set_set ..) | exact hI.step' hn hd_d.hlt (by omega) (QN hd_d.hlt (by omega)) | exact hI.step' hn hd_d.hlt (by omega) (QO hI (by omega) hd_d.hlt (by omega) (by omega))), rfl⟩
     ·refine Zr L101 rfl rfl rfl rfl rfl (Zf (b := false) (decide_eq_false t8) (fun _ k_ => ZP L101 rfl rfl k_) fun _ L136 => (so L136 rfl (Zj L136 rfl rfl fun _ L137 => (sn (Zn L137 rfl rfl (wp_skip ((ZI (Ze (Za (so L137 rfl (ZK (z := (((i : Nat) : Int) + (1 : Int))) L137 rfl rfl (IntWalk.i64_in _ (by omega)) fun _ L138 => (so L138 rfl (Zb L138 rfl fun a106 L139 => (sn ?_)))))))))))))))
      have e50 : ((((i : Nat) : Int) + (1 : Int)) : Int) = (((i + 1) : Nat) : Int) := by omega
      have L140 : Zz a106 57 [(13, (.int .i64 (((i + 1) : Nat) : Int)))] := by have q := (L139.kp [13] rfl); rw [e50] at q; exact q
      exact ⟨sz - (i + 1), (by omega), S1, us, (i + 1), l1, (L139.keep (L139.keep (L139.keep (L139.keep (L139.keep (L140.keep (Zz.none _ L139) (t := 13) rfl) (t := 12) rfl) (t := 7) rfl) (t := 6) rfl) (t := 1) rfl) (t := 0) rfl), R2, (by first | exact hI.step' hn hd_d.hlt (by omega) rfl | exact hI.step' hn hd_d.hlt (by omega) List.set_set | exact hI.step' hn hd_d.hlt (by omega) (List.set_set ..) | exact hI.step' hn hd_d.hlt (by omega) (QN hd_d.hlt (by omega)) | exact hI.step' hn hd_d.hlt (by omega) (QO hI (by omega) hd_d.hlt (by omega) (by omega))), rfl⟩
    ·refine Zr L97 rfl rfl rfl rfl rfl (Zf (b := false) (decide_eq_false t7) (fun _ k_ => Qu L97 rfl rfl k_) fun _ L141 => (so L141 rfl (Zj L141 rfl rfl fun _ L142 => (so L142 rfl (Zb L142 rfl fun _ L143 => (Zm L143 rfl rfl rfl rfl rfl rfl fun _ L144 => (Zm L144 rfl rfl rfl rfl rfl rfl fun _ L145 => (so L145 rfl (Zj L145 rfl rfl fun _ L146 => (sn ?_))))))))))
     refine Zn L146 rfl rfl (wp_skip ((ZI (Ze (Za (so L146 rfl (ZK (z := (((i : Nat) : Int) + (1 : Int))) L146 rfl rfl (IntWalk.i64_in _ (by omega)) ?_)))))))
     intro _ L147
     refine so L147 rfl (Zb L147 rfl fun a114 L148 => (sn ?_))
     have e51 : ((((i : Nat) : Int) + (1 : Int)) : Int) = (((i + 1) : Nat) : Int) := by omega
     have L149 : Zz a114 57 [(13, (.int .i64 (((i + 1) : Nat) : Int)))] := by have q := (L148.kp [13] rfl); rw [e51] at q; exact q
     exact ⟨sz - (i + 1), (by omega), S1, us, (i + 1), l1, (L148.keep (L148.keep (L148.keep (L148.keep (L148.keep (L149.keep (Zz.none _ L148) (t := 13) rfl) (t := 12) rfl) (t := 7) rfl) (t := 6) rfl) (t := 1) rfl) (t := 0) rfl), R2, (by first | exact hI.step' hn hd_d.hlt (by omega) rfl | exact hI.step' hn hd_d.hlt (by omega) List.set_set | exact hI.step' hn hd_d.hlt (by omega) (List.set_set ..) | exact hI.step' hn hd_d.hlt (by omega) (QN hd_d.hlt (by omega)) | exact hI.step' hn hd_d.hlt (by omega) (QO hI (by omega) hd_d.hlt (by omega) (by omega))), rfl⟩
   ·refine so L92 rfl (Zf (b := false) (decide_eq_false t6) (fun _ k_ => ZP L92 rfl rfl k_) fun _ L150 => (so L150 rfl (Zb L150 rfl fun _ L151 => (Zm L151 rfl rfl rfl rfl rfl rfl fun _ L152 => (Zm L152 rfl rfl rfl rfl rfl rfl fun _ L153 => (Zm L153 rfl rfl rfl rfl rfl rfl fun _ L154 => (Zm L154 rfl rfl rfl rfl rfl rfl fun _ L155 => (so L155 rfl (Zj L155 rfl rfl fun _ L156 => ?_)))))))))
    refine so L156 rfl (Zb L156 rfl fun _ L157 => (Zm L157 rfl rfl rfl rfl rfl rfl fun _ L158 => (Zm L158 rfl rfl rfl rfl rfl rfl fun _ L159 => (so L159 rfl (Zj L159 rfl rfl fun _ L160 => ?_)))))
    have L161 := (L160.kp [0, 1, 6, 7, 12, 13, 14, 15, 8, 16, 17, 18, 19, 29, 30, 31, 36, 37, 40] rfl); clear L160
    refine sn (Zn L161 rfl rfl (wp_skip ((ZI (Ze (Za (so L161 rfl (ZK (z := (((i : Nat) : Int) + (1 : Int))) L161 rfl rfl (IntWalk.i64_in _ (by omega)) ?_))))))))
    intro _ L162
    refine so L162 rfl (Zb L162 rfl fun a127 L163 => (sn ?_))
    have e52 : ((((i : Nat) : Int) + (1 : Int)) : Int) = (((i + 1) : Nat) : Int) := by omega
    have L164 : Zz a127 57 [(13, (.int .i64 (((i + 1) : Nat) : Int)))] := by have q := (L163.kp [13] rfl); rw [e52] at q; exact q
    exact ⟨sz - (i + 1), (by omega), S1, us, (i + 1), l1, (L163.keep (L163.keep (L163.keep (L163.keep (L163.keep (L164.keep (Zz.none _ L163) (t := 13) rfl) (t := 12) rfl) (t := 7) rfl) (t := 6) rfl) (t := 1) rfl) (t := 0) rfl), R2, (by first | exact hI.step' hn hd_d.hlt (by omega) rfl | exact hI.step' hn hd_d.hlt (by omega) List.set_set | exact hI.step' hn hd_d.hlt (by omega) (List.set_set ..) | exact hI.step' hn hd_d.hlt (by omega) (QN hd_d.hlt (by omega)) | exact hI.step' hn hd_d.hlt (by omega) (QO hI (by omega) hd_d.hlt (by omega) (by omega))), rfl⟩
 ·refine so L8 rfl (Zf (b := false) (decide_eq_false t1) (fun _ k_ => ZH L8 rfl rfl k_) fun _ L165 => (sn (wp_seq (Zn L165 rfl rfl (wp_exit ((ZA (ZA (YB (Ze (wp_seq ?_)))))))))))
  have hIl := hI.len; have hIe := hI.le
  refine Za (so L165 rfl (Zb L165 rfl ?_))
  intro _ L166
  exact so L166 rfl (Zc L166 rfl fun _ L167 => (sn (wp_ret ((Zv (rs := Tryz.f163.results.toList) (L167.kp [6] rfl) rfl (.tmp rfl Res.nil) (⟨_, S1, _, rfl, R2, b1, us, rfl, by rfl, by exact hI.len, by exact hI.lt, by exact hI.done (by omega) (by omega)⟩))))))
set_option maxRecDepth 20000 in
theorem nat_down {S : Sh} {w : World} (hS : Yw S w) {p_d : Option Addr} {len_d cap_d : Nat} {d : List Nat} (hd_d : Dg S p_d len_d cap_d d) {n : Nat} {k : Nat} (hn : n < 64) (hk : val W64 d / 2 ^ n ≤ 2 ^ k) (hm2 : len_d ≤ 1099511627776) : Calls Tryz.prog 167 [(.slice p_d len_d cap_d), (.int .i64 ((n : Nat) : Int))].toArray w (Ret S w (fun S v => ∃ (c0 : List Value), v = .agg c0.toArray ∧ Na S c0 (val W64 d / 2 ^ n) (k))) := by
 refine ZT (n := 50) Tryz.func167 rfl rfl ?_
 intro ac0 L0
 replace L0 : Zz ac0 50 [(0, (.slice p_d len_d cap_d)), (1, (.int .i64 ((n : Nat) : Int)))] := L0
 have R0 : Run S w S [] w := .start hS
 have hl_d := hd_d.hlen; have hc_d := hd_d.hcap; have hg_d := hd_d.hbig
 refine wp_seq (Za (so L0 rfl (ZM (cs := zN1) ZN R0 rfl ?_)))
 intro b1 _ R1 _ L1
 refine sn (wp_seq (Za (so L1 rfl (Zb L1 rfl ?_))))
 intro _ L2
 refine so L2 rfl (ZO L2 rfl Tryz.underlying30 fun _ L3 => (so L3 rfl (YV (m := len_d) (c := len_d) L3 (by first | rfl | (simp [ev, QC]; omega)) (by first | rfl | (simp [ev, QC]; omega)) Tryz.underlying30 Xv rfl ZB XY (by omega) (by omega) (by omega) R1 fun b2 _ R2 _ L4 => ?_)))
 rw [Zat] at R2
 refine so L4 rfl (Zc L4 rfl fun _ L5 => (sn (wp_seq (wp_seq (Za (so L5 rfl (Zb L5 rfl fun _ L6 => (so L6 rfl (ZO L6 rfl Tryz.underlying30 fun _ L7 => (so L7 rfl (Zb L7 rfl fun a8 L8 => (sn ?_))))))))))))
 refine wp_block ?_
 have e1 : ((0 : Int) : Int) = ((0 : Nat) : Int) := by omega
 have L10 : Zz a8 50 [(12, (.int .i64 ((0 : Nat) : Int)))] := by have q := (L8.kp [12] rfl); rw [e1] at q; exact q
 refine ZZ (fun m ac ww => ∃ (S' : Sh) (us : List Nat) (i : Nat), S.le S' ∧ Zz ac 50 [(0, (.slice p_d len_d cap_d)), (1, (.int .i64 ((n : Nat) : Int))), (4, (.pointer (some ⟨b1, 0, none⟩))), (5, (.slice (some ⟨b2, 0, none⟩) (len_d) (len_d))), (11, (.int .i64 ((len_d : Nat) : Int))), (12, (.int .i64 ((i : Nat) : Int)))] ∧ Run S w S' [(b2, 29, (Yl us ++ [])), (b1, 32, zN1)] ww ∧ (Zab d us n i) ∧ m = d.length - i)
  (d.length - 0) ⟨S, (List.replicate (len_d) 0), 0, Sh.le.refl _, (L8.keep (L8.keep (L8.keep (L8.keep (L8.keep (L10.keep (Zz.none _ L8) (t := 12) rfl) (t := 11) rfl) (t := 5) rfl) (t := 4) rfl) (t := 1) rfl) (t := 0) rfl), (ZX (ZX R2)), (by rw [← hl_d]; exact Zab.start), rfl⟩ ?_
 rintro m_1 ac1 _ ⟨S1, us, i, l1, L9, R3, hI, m1⟩
 refine wp_seq (Za ?_)
 by_cases t1 : ((i : Nat) : Int) < ((len_d : Nat) : Int)
 ·refine so L9 rfl (Zf (b := true) (decide_eq_true t1) (fun _ k_ => ZH L9 rfl rfl k_) fun _ L11 => (sn (wp_seq (Zs L11 rfl rfl (wp_skip ((Ze (wp_seq (wp_block (wp_seq ?_))))))))))
  have hIl := hI.len; have hIe := hI.le
  refine Za (so L11 rfl (Zb L11 rfl ?_))
  intro _ L12
  refine so L12 rfl (Zc L12 rfl fun _ L13 => (sn (wp_seq (Za (so L13 rfl (Zb L13 rfl fun _ L14 => (so L14 rfl (Zb L14 rfl fun _ L15 => (so L15 rfl (Zb L15 rfl fun _ L16 => (so L16 rfl (Zb L16 rfl fun _ L17 => ?_))))))))))))
  obtain ⟨b3, rest_1, rfl, r1⟩ := (hd_d.up l1).row (by omega)
  refine so L17 rfl (Zu (i) L17 rfl rfl Tryz.underlying30 ZB (by omega) (by omega) fun _ L18 => (so L18 rfl (Zl (v := (.int .u64 ((d.getD (i) 0 : Nat) : Int))) L18 rfl Yi (R3.row r1) (by rw [Nat.zero_add]; exact ZW (by omega)) fun _ L19 => (so L19 rfl (Zb L19 rfl fun _ L20 => (so L20 rfl (Xy (i := (d.getD (i) 0)) (s := n) L20 rfl rfl (by omega) fun _ L21 => (so L21 rfl (Zu (i) L21 rfl rfl Tryz.underlying30 ZB (by omega) (by omega) fun _ L22 => (Zx L22 rfl rfl (Yh (cs' := (Yl (us.set (i) (((d.getD (i) 0) / 2 ^ n))) ++ [])) L22 rfl rfl R3 ZB rfl (by simp only [List.length_append, ZG]; omega) (by rw [Nat.zero_add]; exact YC (by omega)) fun _ R4 _ L23 => (sn ?_))))))))))))
  refine wp_seq (Za (so L23 rfl (Zb L23 rfl ?_)))
  intro _ L24
  refine so L24 rfl (ZK (z := (((i : Nat) : Int) + (1 : Int))) L24 rfl rfl (IntWalk.i64_in _ (by omega)) fun _ L25 => (so L25 rfl (Zb L25 rfl fun _ L26 => (so L26 rfl (ZO L26 rfl Tryz.underlying30 fun _ L27 => ?_)))))
  by_cases t2 : (((i : Nat) : Int) + (1 : Int)) < ((len_d : Nat) : Int)
  ·refine so L27 rfl (Zf (b := true) (decide_eq_true t2) (fun _ k_ => ZH L27 rfl rfl k_) fun _ L28 => (so L28 rfl (Zb L28 rfl fun _ L29 => (Zr L29 rfl rfl rfl rfl rfl (Zb L29 rfl fun _ L30 => ?_)))))
   by_cases t3 : (0 : Int) < ((n : Nat) : Int)
   ·refine Zr L30 rfl rfl rfl rfl rfl (Zf (b := true) (decide_eq_true t3) (fun _ k_ => ZP L30 rfl rfl k_) fun _ L31 => (so L31 rfl (Zj L31 rfl rfl fun _ L32 => (sn (Zs L32 rfl rfl ?_)))))
    have L33 := (L32.kp [0, 1, 4, 5, 11, 12, 13, 14, 6, 15, 16, 17, 18, 19, 20, 21, 22, 23, 24, 25, 26, 27, 28, 29, 30, 31, 32] rfl)
    refine Zy (E0 := []) (H0 := [(b2, 29, (Yl (us.set (i) (((d.getD (i) 0) / 2 ^ n))) ++ [])), (b1, 32, zN1)]) (n := 50) mixed 12 [] (fun k =>  0) (Zaf [
      .is (.slice (some ⟨b2, 0, none⟩) (len_d) (len_d)),
      .is (.int .i64 ((i : Nat) : Int)),
      .is (.pointer (some ⟨b2, (0 + (i)), none⟩)),
      .is (.int .u64 (((us.set (i) (((d.getD (i) 0) / 2 ^ n))).getD (i) 0 : Nat) : Int)),
      .is (.slice (some ⟨b3, 0, none⟩) len_d cap_d),
      .is (.int .i64 ((i : Nat) : Int)),
      .is (.int .i64 (((i : Nat) : Int) + (1 : Int))),
      .is (.pointer (some ⟨b3, (0 + ((i + 1))), none⟩)),
      .is (.int .u64 ((d.getD ((i + 1)) 0 : Nat) : Int)),
      .is (.int .i64 ((n : Nat) : Int)),
      .is (.int .i64 ((64 - n : Nat) : Int)),
      .is (.int .u64 (((d.getD ((i + 1)) 0) * 2 ^ (64 - n) % 18446744073709551616 : Nat) : Int))]) L33 R4 (by simp) (by simp) (by rfl) (by rfl) (by simp) (ZU ?_) ?_
    ·refine (And.intro ?_ (And.intro ?_ (And.intro ?_ (And.intro ?_ (And.intro ?_ (And.intro ?_ (And.intro ?_ (And.intro ?_ (And.intro ?_ (And.intro ?_ (And.intro ?_ (And.intro ?_ trivial))))))))))))
     ·exact Zd rfl (fun _ _ _ _ _ A1 => (Zb A1.live rfl (A1.same  rfl)))
     ·exact Zd rfl (fun _ _ _ _ _ A2 => (Zb A2.live rfl (A2.same  rfl)))
     ·refine Zd rfl (fun _ _ _ _ _ A3 => ?_)
      obtain ⟨_, e2, rfl⟩ := A3.known 0 rfl
      obtain ⟨_, e3, rfl⟩ := A3.known 1 rfl
      exact Zu (i) ((A3.live.add e2).add e3) rfl rfl Tryz.underlying30 ZB (by omega) (by omega) (A3.same  rfl)
     ·refine Zd rfl (fun _ _ _ _ _ A4 => ?_)
      obtain ⟨_, e4, rfl⟩ := A4.known 2 rfl
      exact Zl (v := (.int .u64 (((us.set (i) (((d.getD (i) 0) / 2 ^ n))).getD (i) 0 : Nat) : Int))) (A4.live.add e4) rfl Yi (A4.run.has (List.mem_append_right _ (List.Mem.head _))) (by rw [Nat.zero_add]; exact ZW (by first | omega | (simp only [List.length_set]; omega))) (A4.same  rfl)
     ·exact Zd rfl (fun _ _ _ _ _ A5 => (Zb A5.live rfl (A5.same  rfl)))
     ·exact Zd rfl (fun _ _ _ _ _ A6 => (Zb A6.live rfl (A6.same  rfl)))
     ·refine Zd rfl (fun _ _ _ _ _ A7 => ?_)
      obtain ⟨_, e5, rfl⟩ := A7.known 5 rfl
      exact ZK (z := (((i : Nat) : Int) + (1 : Int))) (A7.live.add e5) rfl rfl (IntWalk.i64_in _ (by omega)) (A7.same  rfl)
     ·refine Zd rfl (fun _ _ _ _ _ A8 => ?_)
      obtain ⟨_, e6, rfl⟩ := A8.known 4 rfl
      obtain ⟨_, e7, rfl⟩ := A8.known 6 rfl
      exact Zu ((i + 1)) ((A8.live.add e6).add e7) rfl rfl Tryz.underlying30 ZB (by omega) (by omega) (A8.same  rfl)
     ·refine Zd rfl (fun _ _ _ _ _ A9 => ?_)
      obtain ⟨_, e8, rfl⟩ := A9.known 7 rfl
      exact Zl (v := (.int .u64 ((d.getD ((i + 1)) 0 : Nat) : Int))) (A9.live.add e8) rfl Yi (A9.run.row (r1.up A9.le)) (by rw [Nat.zero_add]; exact ZW (by omega)) (A9.same  rfl)
     ·exact Zd rfl (fun _ _ _ _ _ A10 => (Zb A10.live rfl (A10.same  rfl)))
     ·refine Zd rfl (fun _ _ _ _ _ A11 => ?_)
      obtain ⟨_, e9, rfl⟩ := A11.known 9 rfl
      exact ZS (z := ((64 - n : Nat) : Int)) (A11.live.add e9) rfl rfl (i64_to (by omega) (by omega)) (A11.same  rfl)
     ·refine Zd rfl (fun _ _ _ _ _ A12 => ?_)
      obtain ⟨_, e10, rfl⟩ := A12.known 8 rfl
      obtain ⟨_, e11, rfl⟩ := A12.known 10 rfl
      exact QH (i := (d.getD ((i + 1)) 0)) (s := (64 - n)) ((A12.live.add e10).add e11) rfl rfl (by omega) (A12.same  rfl)
    ·intro S14 _ _ w17 l2 E1 R5 n1 L46 K1
     obtain ⟨_, e12, rfl⟩ := K1 0 (by decide)
     have L47 := L46.add e12; clear L46
     obtain ⟨_, e13, rfl⟩ := K1 1 (by decide)
     have L48 := L47.add e13; clear L47
     obtain ⟨_, e14, rfl⟩ := K1 2 (by decide)
     have L49 := L48.add e14; clear L48
     obtain ⟨_, e15, rfl⟩ := K1 3 (by decide)
     have L50 := L49.add e15; clear L49
     obtain ⟨_, e16, rfl⟩ := K1 4 (by decide)
     have L51 := L50.add e16; clear L50
     obtain ⟨_, e17, rfl⟩ := K1 5 (by decide)
     have L52 := L51.add e17; clear L51
     obtain ⟨_, e18, rfl⟩ := K1 6 (by decide)
     have L53 := L52.add e18; clear L52
     obtain ⟨_, e19, rfl⟩ := K1 7 (by decide)
     have L54 := L53.add e19; clear L53
     obtain ⟨_, e20, rfl⟩ := K1 8 (by decide)
     have L55 := L54.add e20; clear L54
     obtain ⟨_, e21, rfl⟩ := K1 9 (by decide)
     have L56 := L55.add e21; clear L55
     obtain ⟨_, e22, rfl⟩ := K1 10 (by decide)
     have L57 := L56.add e22; clear L56
     obtain ⟨_, e23, rfl⟩ := K1 11 (by decide)
     have L58 := L57.add e23; clear L57
     have R6 : Run _ _ S14 [(b2, 29, (Yl (us.set (i) (((d.getD (i) 0) / 2 ^ n))) ++ [])), (b1, 32, zN1)] w17 := Yc R5 n1 [] (by simp) (by simp)
     refine so L58 rfl (Zcc (i := ((us.set (i) (((d.getD (i) 0) / 2 ^ n))).getD (i) 0)) (j := ((d.getD ((i + 1)) 0) * 2 ^ (64 - n) % 18446744073709551616)) (z := d.getD i 0 / 2 ^ n + 2 ^ (64 - n) * (d.getD (i + 1) 0 % 2 ^ n)) L58 rfl rfl (by exact ZR (Qo hI.lt (Nat.lt_of_le_of_lt (Nat.div_le_self _ _) (ZR hd_d.hlt (by decide) _))) (by decide) _) (by exact Nat.mod_lt _ (by decide)) (by exact down_or1 hn hd_d.hlt (by omega)) fun _ L59 => (so L59 rfl (Zu (i) L59 rfl rfl Tryz.underlying30 ZB (by omega) (by omega) fun _ L60 => (Zx L60 rfl rfl (Yh (cs' := (Yl ((us.set (i) (((d.getD (i) 0) / 2 ^ n))).set (i) ((d.getD i 0 / 2 ^ n + 2 ^ (64 - n) * (d.getD (i + 1) 0 % 2 ^ n)))) ++ [])) L60 rfl rfl R6 ZB rfl (by simp only [List.length_append, ZG]; first | omega | (simp only [List.length_set]; omega)) (by rw [Nat.zero_add]; exact YC (by first | omega | (simp only [List.length_set]; omega))) fun _ R7 _ L61 => (Yr ((ZI (Ze (Za (so L61 rfl (ZK (z := (((i : Nat) : Int) + (1 : Int))) L61 rfl rfl (IntWalk.i64_in _ (by omega)) fun _ L62 => (so L62 rfl (Zb L62 rfl fun a48 L63 => (sn ?_)))))))))))))))
     have e24 : ((((i : Nat) : Int) + (1 : Int)) : Int) = (((i + 1) : Nat) : Int) := by omega
     have L64 : Zz a48 50 [(12, (.int .i64 (((i + 1) : Nat) : Int)))] := by have q := (L63.kp [12] rfl); rw [e24] at q; exact q
     exact ⟨d.length - (i + 1), (by omega), S14, ((us.set (i) (((d.getD (i) 0) / 2 ^ n))).set (i) ((d.getD i 0 / 2 ^ n + 2 ^ (64 - n) * (d.getD (i + 1) 0 % 2 ^ n)))), (i + 1), (l1.trans l2), (L63.keep (L63.keep (L63.keep (L63.keep (L63.keep (L64.keep (Zz.none _ L63) (t := 12) rfl) (t := 11) rfl) (t := 5) rfl) (t := 4) rfl) (t := 1) rfl) (t := 0) rfl), (ZX (ZX R7)), (by first | exact hI.step hn hd_d.hlt (by omega) List.set_set | exact hI.step hn hd_d.hlt (by omega) (List.set_set ..) | exact hI.step hn hd_d.hlt (by omega) (down_case0 (by omega))), rfl⟩
   ·refine Zr L30 rfl rfl rfl rfl rfl (Zf (b := false) (decide_eq_false t3) (fun _ k_ => ZP L30 rfl rfl k_) fun _ L65 => (so L65 rfl (Zj L65 rfl rfl fun _ L66 => (sn (Zn L66 rfl rfl (wp_skip ((ZI (Ze (Za (so L66 rfl (ZK (z := (((i : Nat) : Int) + (1 : Int))) L66 rfl rfl (IntWalk.i64_in _ (by omega)) fun _ L67 => (so L67 rfl (Zb L67 rfl fun a52 L68 => (sn ?_)))))))))))))))
    have e25 : ((((i : Nat) : Int) + (1 : Int)) : Int) = (((i + 1) : Nat) : Int) := by omega
    have L69 : Zz a52 50 [(12, (.int .i64 (((i + 1) : Nat) : Int)))] := by have q := (L68.kp [12] rfl); rw [e25] at q; exact q
    exact ⟨d.length - (i + 1), (by omega), S1, (us.set (i) (((d.getD (i) 0) / 2 ^ n))), (i + 1), l1, (L68.keep (L68.keep (L68.keep (L68.keep (L68.keep (L69.keep (Zz.none _ L68) (t := 12) rfl) (t := 11) rfl) (t := 5) rfl) (t := 4) rfl) (t := 1) rfl) (t := 0) rfl), (ZX (ZX R4)), (by first | exact hI.step hn hd_d.hlt (by omega) List.set_set | exact hI.step hn hd_d.hlt (by omega) (List.set_set ..) | exact hI.step hn hd_d.hlt (by omega) (down_case0 (by omega))), rfl⟩
  ·refine so L27 rfl (Zf (b := false) (decide_eq_false t2) (fun _ k_ => ZH L27 rfl rfl k_) fun _ L70 => (so L70 rfl (Zb L70 rfl fun _ L71 => (Zm L71 rfl rfl rfl rfl rfl rfl fun _ L72 => (Zm L72 rfl rfl rfl rfl rfl rfl fun _ L73 => (so L73 rfl (Zj L73 rfl rfl fun _ L74 => (sn (Zn L74 rfl rfl (wp_skip ((ZI (Ze ?_)))))))))))))
   refine Za (so L74 rfl (ZK (z := (((i : Nat) : Int) + (1 : Int))) L74 rfl rfl (IntWalk.i64_in _ (by omega)) ?_))
   intro _ L75
   refine so L75 rfl (Zb L75 rfl fun a59 L76 => (sn ?_))
   have e26 : ((((i : Nat) : Int) + (1 : Int)) : Int) = (((i + 1) : Nat) : Int) := by omega
   have L77 : Zz a59 50 [(12, (.int .i64 (((i + 1) : Nat) : Int)))] := by have q := (L76.kp [12] rfl); rw [e26] at q; exact q
   exact ⟨d.length - (i + 1), (by omega), S1, (us.set (i) (((d.getD (i) 0) / 2 ^ n))), (i + 1), l1, (L76.keep (L76.keep (L76.keep (L76.keep (L76.keep (L77.keep (Zz.none _ L76) (t := 12) rfl) (t := 11) rfl) (t := 5) rfl) (t := 4) rfl) (t := 1) rfl) (t := 0) rfl), (ZX (ZX R4)), (by first | exact hI.step hn hd_d.hlt (by omega) List.set_set | exact hI.step hn hd_d.hlt (by omega) (List.set_set ..) | exact hI.step hn hd_d.hlt (by omega) (down_case0 (by omega))), rfl⟩
 ·refine so L9 rfl (Zf (b := false) (decide_eq_false t1) (fun _ k_ => ZH L9 rfl rfl k_) fun _ L78 => (sn (wp_seq (Zn L78 rfl rfl (wp_exit ((ZA (ZA (YB (Ze (wp_seq ?_)))))))))))
  have hIl := hI.len; have hIe := hI.le
  refine Za (so L78 rfl (Zb L78 rfl ?_))
  intro _ L79
  obtain ⟨S15, l3, r2, R8⟩ := (R3).freeze
  have hd1 : Dg S15 (some ⟨b2, 0, none⟩) (len_d) (len_d) us := ⟨by first | rfl | omega, by omega, by omega, hI.lt, fun _ => ⟨_, _, rfl, r2⟩⟩
  refine so L79 rfl (Zp L79 rfl QV (QS R8.holds  (k := k)  hd1 (by rw [hI.done (by omega)]; exact hk)) fun v_1 _ _ x1 v1 => ?_)
  have R9 := R8.call x1
  obtain ⟨c1, rfl, h1⟩ := v1
  intro _ L80
  exact Zx L80 rfl rfl (Zi L80 rfl rfl R9 Zk h1.len rfl h1.ones fun _ R10 _ L81 => (sn (wp_ret ((Zv (rs := Tryz.f167.results.toList) (L81.kp [4] rfl) rfl (Res.aggW rfl ZJ Zk (R10.has (List.Mem.head _)) h1.len Res.nil) (⟨_, _, rfl, R10.ext, ⟨_, rfl, (h1.to (by exact hI.done (by omega)) (by omega))⟩⟩))))))
end Go.Cham
namespace Go.Cham
open Go Go.RowKit Go.Proofs
set_option maxRecDepth 20000 in
theorem nat_short {S0 S : Sh} {w0 w : World} {H0 : Own} {b_d off_d len_d cap_d : Nat} {d : List Nat} {rest_d : List Value} {dv : Nat} (R0 : Run S0 w0 S ((b_d, 29, (Yl d ++ rest_d)) :: H0) w) (h0 : 0 < dv) (hdv : dv < 18446744073709551616) (hoff : off_d = 0) (hlen : len_d = d.length) (hlt : ∀ e ∈ d, e < 18446744073709551616) (hbig : len_d ≤ 281474976710656) : Calls Tryz.prog 134 [(.slice (some ⟨b_d, off_d, none⟩) len_d cap_d), (.int .u64 ((dv : Nat) : Int))].toArray w (RetO S0 w0 S b_d 29 rest_d H0 (fun S v ds => v = .int .u64 (((val W64 d % dv : Nat) : Int)) ∧ ds.length = d.length ∧ (∀ e ∈ ds, e < 18446744073709551616) ∧ val W64 ds = val W64 d / dv)) := by
 refine ZT (n := 28) Tryz.func134 rfl rfl ?_
 intro ac0 L0
 replace L0 : Zz ac0 28 [(0, (.slice (some ⟨b_d, off_d, none⟩) len_d cap_d)), (1, (.int .u64 ((dv : Nat) : Int)))] := L0
 refine wp_seq (Za (so L0 rfl (Zc L0 rfl ?_)))
 intro _ L1
 refine sn (wp_seq (Za (so L1 rfl (Zc L1 rfl ?_))))
 intro _ L2
 refine sn (wp_seq (wp_seq (Za (so L2 rfl (Zb L2 rfl ?_)))))
 intro _ L3
 refine so L3 rfl (ZO L3 rfl Tryz.underlying30 fun _ L4 => (so L4 rfl (ZS (z := (((len_d : Nat) : Int) - (1 : Int))) L4 rfl rfl (IntWalk.i64_in _ (by omega)) fun _ L5 => (so L5 rfl (Zc L5 rfl fun a6 L6 => (sn (wp_block ?_)))))))
 have e1 : ((0 : Int) : Int) = ((0 : Nat) : Int) := by omega
 have L8 : Zz a6 28 [(5, (.int .u64 ((0 : Nat) : Int)))] := by have q := (L6.kp [5] rfl); rw [e1] at q; exact q
 have e2 : ((((len_d : Nat) : Int) - (1 : Int)) : Int) = (((d.length : Nat) : Int) - (1 : Int)) := by omega
 have L9 : Zz a6 28 [(6, (.int .i64 (((d.length : Nat) : Int) - (1 : Int))))] := by have q := (L6.kp [6] rfl); rw [e2] at q; exact q
 refine ZZ (fun m ac ww => ∃ (S' : Sh) (us : List Nat) (k : Nat) (r : Nat), S.le S' ∧ Zz ac 28 [(0, (.slice (some ⟨b_d, off_d, none⟩) len_d cap_d)), (1, (.int .u64 ((dv : Nat) : Int))), (4, (.int .u64 (0 : Int))), (5, (.int .u64 ((r : Nat) : Int))), (6, (.int .i64 (((k : Nat) : Int) - (1 : Int))))] ∧ Run S0 w0 S' ((b_d, 29, (Yl us ++ rest_d)) :: H0) ww ∧ (XZ d us dv k r) ∧ m = k)
  (d.length) ⟨S, d, d.length, 0, Sh.le.refl _, (L6.keep (L6.keep (L6.keep (L8.keep (L9.keep (Zz.none _ L6) (t := 6) rfl) (t := 5) rfl) (t := 4) rfl) (t := 1) rfl) (t := 0) rfl), R0, (by exact XZ.start hlt h0), rfl⟩ ?_
 rintro m_1 ac1 _ ⟨S1, us, k, r, l1, L7, R1, hI, m1⟩
 refine wp_seq (wp_seq (Za (so L7 rfl (Zb L7 rfl ?_))))
 intro _ L10
 by_cases t1 : (0 : Int) ≤ (((k : Nat) : Int) - (1 : Int))
 ·refine so L10 rfl (Zf (b := true) (decide_eq_true t1) (fun _ k_ => YA L10 rfl rfl k_) fun _ L11 => (sn (Zs L11 rfl rfl (wp_skip ((Ze (wp_seq (wp_block ?_))))))))
  have hIe := hI.le; have hIl := hI.len; have hIr := hI.hr
  refine Za (so L11 rfl (Zb L11 rfl ?_))
  intro _ L12
  refine so L12 rfl (Zb L12 rfl fun _ L13 => (so L13 rfl (Zb L13 rfl fun _ L14 => (so L14 rfl (Zb L14 rfl fun _ L15 => (so L15 rfl (Zb L15 rfl fun _ L16 => (so L16 rfl (Zu ((k - 1)) L16 rfl rfl Tryz.underlying30 ZB (by omega) (by omega) fun _ L17 => (so L17 rfl (Zl (v := (.int .u64 ((us.getD (off_d + ((k - 1))) 0 : Nat) : Int))) L17 rfl Yi (R1.has (List.Mem.head _)) (ZW (by omega)) fun _ L18 => (so L18 rfl (Zb L18 rfl fun _ L19 => ?_)))))))))))))
  refine so L19 rfl (Zp L19 rfl ent_161 (Zal R1.holds (h := r) (lo := (us.getD (off_d + ((k - 1))) 0)) (y := dv)    (by omega) (ZR hI.lt (by decide) _) (by omega)) fun v_1 S2 _ x1 v1 => ?_)
  have R2 := R1.call x1; have l2 := x1.le
  obtain rfl := v1
  intro _ L20
  refine so L20 rfl (Zb L20 rfl fun _ L21 => (so L21 rfl (Zh L21 rfl rfl fun _ L22 => (so L22 rfl (Zh L22 rfl rfl fun _ L23 => (so L23 rfl (Zu ((k - 1)) L23 rfl rfl Tryz.underlying30 ZB (by omega) (by omega) fun _ L24 => (Zx L24 rfl rfl (Yh (cs' := (Yl (us.set (off_d + ((k - 1))) (((r * 18446744073709551616 + (us.getD (off_d + ((k - 1))) 0)) / dv))) ++ rest_d)) L24 rfl rfl R2 ZB rfl (by simp only [List.length_append, ZG]; omega) (by exact YC (by omega)) fun _ R3 _ L25 => (so L25 rfl (Zc L25 rfl fun _ L26 => (Yr ((ZI (Ze ?_)))))))))))))))
  refine Za (so L26 rfl (Zb L26 rfl ?_))
  intro _ L27
  refine so L27 rfl (ZS (z := ((((k : Nat) : Int) - (1 : Int)) - (1 : Int))) L27 rfl rfl (IntWalk.i64_in _ (by omega)) fun _ L28 => (so L28 rfl (Zc L28 rfl fun a26 L29 => (sn ?_))))
  have e3 : ((((r * 18446744073709551616 + (us.getD (off_d + ((k - 1))) 0)) % dv : Nat) : Int) : Int) = ((((r * 18446744073709551616 + (us.getD (off_d + ((k - 1))) 0)) % dv) : Nat) : Int) := by omega
  have L30 : Zz a26 28 [(5, (.int .u64 ((((r * 18446744073709551616 + (us.getD (off_d + ((k - 1))) 0)) % dv) : Nat) : Int)))] := by have q := (L29.kp [5] rfl); rw [e3] at q; exact q
  have e4 : (((((k : Nat) : Int) - (1 : Int)) - (1 : Int)) : Int) = ((((k - 1) : Nat) : Int) - (1 : Int)) := by omega
  have L31 : Zz a26 28 [(6, (.int .i64 ((((k - 1) : Nat) : Int) - (1 : Int))))] := by have q := (L29.kp [6] rfl); rw [e4] at q; exact q
  exact ⟨(k - 1), (by omega), S2, (us.set (off_d + ((k - 1))) (((r * 18446744073709551616 + (us.getD (off_d + ((k - 1))) 0)) / dv))), (k - 1), ((r * 18446744073709551616 + (us.getD (off_d + ((k - 1))) 0)) % dv), (l1.trans l2), (L29.keep (L29.keep (L29.keep (L30.keep (L31.keep (Zz.none _ L29) (t := 6) rfl) (t := 5) rfl) (t := 4) rfl) (t := 1) rfl) (t := 0) rfl), R3, (by exact hI.step (by omega) (by omega) rfl rfl hlt), rfl⟩
 ·refine so L10 rfl (Zf (b := false) (decide_eq_false t1) (fun _ k_ => YA L10 rfl rfl k_) fun _ L32 => (sn (Zn L32 rfl rfl (wp_exit ((ZA (ZA (YB (Ze (wp_seq (Za (so L32 rfl (Zb L32 rfl fun _ L33 => (so L33 rfl (Zc L33 rfl fun _ L34 => (sn (wp_ret ((Zv (rs := Tryz.f134.results.toList) (L34.kp [4] rfl) rfl (.tmp rfl Res.nil) ?_)))))))))))))))))))
  have hIe := hI.le
  obtain rfl : k = 0 := by omega
  obtain ⟨hq_, hr_⟩ := hI.done
  exact ⟨_, S1, us, rfl, l1, R1, ⟨by rw [← hr_]; rfl, by exact hI.len, by exact hI.lt, by exact hq_⟩⟩
set_option maxRecDepth 20000 in
theorem nat_away {S0 S : Sh} {w0 w : World} {H0 : Own} {b_p off_p len_p cap_p : Nat} {p : List Nat} {rest_p : List Value} {p_u : Option Addr} {len_u cap_u : Nat} {u : List Nat} (hd_u : Dg S p_u len_u cap_u u) {d : Nat} (R0 : Run S0 w0 S ((b_p, 29, (Yl p ++ rest_p)) :: H0) w) (hlt : ∀ e ∈ p, e < 18446744073709551616) (hfit : off_p + len_p ≤ p.length) (hul : len_u < len_p) (hd : d < 18446744073709551616) (hlp : len_p ≤ 1099511627777) : Calls Tryz.prog 165 [(.slice (some ⟨b_p, off_p, none⟩) len_p cap_p), (.slice p_u len_u cap_u), (.int .u64 ((d : Nat) : Int))].toArray w (RetO S0 w0 S b_p 29 rest_p H0 (fun S v ds => ∃ (bw : Nat), v = .bool (decide (bw ≠ 0)) ∧ ds.length = p.length ∧ (∀ e ∈ ds, e < 18446744073709551616) ∧ bw ≤ 1 ∧ val W64 ds + W64 ^ off_p * (val W64 u * d) = val W64 p + W64 ^ (off_p + len_p) * bw ∧ (∀ j, j < off_p ∨ off_p + len_p ≤ j → ds.getD j 0 = p.getD j 0))) := by
 refine ZT (n := 56) Tryz.func165 rfl rfl ?_
 intro ac0 L0
 replace L0 : Zz ac0 56 [(0, (.slice (some ⟨b_p, off_p, none⟩) len_p cap_p)), (1, (.slice p_u len_u cap_u)), (2, (.int .u64 ((d : Nat) : Int)))] := L0
 have hl_u := hd_u.hlen; have hc_u := hd_u.hcap; have hg_u := hd_u.hbig
 refine wp_seq (Za (so L0 rfl (Zc L0 rfl ?_)))
 intro _ L1
 refine sn (wp_seq (Za (so L1 rfl (Zc L1 rfl ?_))))
 intro _ L2
 refine so L2 rfl (Zc L2 rfl fun _ L3 => (sn (wp_seq (wp_seq (Za (so L3 rfl (Zb L3 rfl fun _ L4 => (so L4 rfl (ZO L4 rfl Tryz.underlying30 fun _ L5 => (so L5 rfl (Zb L5 rfl fun a6 L6 => (sn ?_))))))))))))
 refine wp_block ?_
 have e1 : ((0 : Int) : Int) = ((0 : Nat) : Int) := by omega
 have L8 : Zz a6 56 [(7, (.int .u64 ((0 : Nat) : Int)))] := by have q := (L6.kp [7] rfl); rw [e1] at q; exact q
 have e2 : ((0 : Int) : Int) = ((0 : Nat) : Int) := by omega
 have L9 : Zz a6 56 [(8, (.int .u64 ((0 : Nat) : Int)))] := by have q := (L6.kp [8] rfl); rw [e2] at q; exact q
 have e3 : ((0 : Int) : Int) = ((0 : Nat) : Int) := by omega
 have L10 : Zz a6 56 [(15, (.int .i64 ((0 : Nat) : Int)))] := by have q := (L6.kp [15] rfl); rw [e3] at q; exact q
 refine ZZ (fun m ac ww => ∃ (S' : Sh) (us : List Nat) (i : Nat) (c : Nat) (bo : Nat), S.le S' ∧ Zz ac 56 [(0, (.slice (some ⟨b_p, off_p, none⟩) len_p cap_p)), (1, (.slice p_u len_u cap_u)), (2, (.int .u64 ((d : Nat) : Int))), (6, (.bool false)), (7, (.int .u64 ((c : Nat) : Int))), (8, (.int .u64 ((bo : Nat) : Int))), (14, (.int .i64 ((len_p : Nat) : Int))), (15, (.int .i64 ((i : Nat) : Int)))] ∧ Run S0 w0 S' ((b_p, 29, (Yl us ++ rest_p)) :: H0) ww ∧ (Zbw p u us off_p d i c bo) ∧ (i ≤ len_p) ∧ m = len_p - i)
  (len_p - 0) ⟨S, p, 0, 0, 0, Sh.le.refl _, (L6.keep (L6.keep (L6.keep (L6.keep (L8.keep (L9.keep (L6.keep (L10.keep (Zz.none _ L6) (t := 15) rfl) (t := 14) rfl) (t := 8) rfl) (t := 7) rfl) (t := 6) rfl) (t := 2) rfl) (t := 1) rfl) (t := 0) rfl), R0, (by exact Zbw.start hlt), (by omega), rfl⟩ ?_
 rintro m_1 ac1 _ ⟨S1, us, i, c, bo, l1, L7, R1, hI, hi, m1⟩
 refine wp_seq (Za ?_)
 by_cases t1 : ((i : Nat) : Int) < ((len_p : Nat) : Int)
 ·refine so L7 rfl (Zf (b := true) (decide_eq_true t1) (fun _ k_ => ZH L7 rfl rfl k_) fun _ L11 => (sn (wp_seq (Zs L11 rfl rfl (wp_skip ((Ze (wp_seq (wp_block (wp_seq ?_))))))))))
  have hms := (mul_step (x := u.getD i 0) (y := d) (c := c) (u := 0) (ZR hd_u.hlt (by decide) _) hd hI.hc (by decide)).1; have hIl := hI.len; have hIb := hI.hb; have hIc := hI.hc
  refine Za (so L11 rfl (Zb L11 rfl ?_))
  intro _ L12
  refine so L12 rfl (Zc L12 rfl fun _ L13 => (sn (wp_seq (Za (so L13 rfl (Zc L13 rfl fun _ L14 => (so L14 rfl (Zc L14 rfl fun _ L15 => (so L15 rfl (Zc L15 rfl fun _ L16 => (sn (wp_seq ?_))))))))))))
  refine wp_seq (Za (so L16 rfl (Zb L16 rfl ?_)))
  intro _ L17
  refine so L17 rfl (Zb L17 rfl fun _ L18 => (so L18 rfl (ZO L18 rfl Tryz.underlying30 fun _ L19 => ?_)))
  by_cases t2 : ((i : Nat) : Int) < ((len_u : Nat) : Int)
  ·refine so L19 rfl (Zf (b := true) (decide_eq_true t2) (fun _ k_ => ZH L19 rfl rfl k_) fun _ L20 => (sn (Zs L20 rfl rfl (Za (so L20 rfl (Zb L20 rfl fun _ L21 => (so L21 rfl (Zb L21 rfl fun _ L22 => ?_))))))))
   obtain ⟨b1, rest_1, rfl, r1⟩ := (hd_u.up l1).row (by omega)
   refine so L22 rfl (Zu (i) L22 rfl rfl Tryz.underlying30 ZB (by omega) (by omega) fun _ L23 => (so L23 rfl (Zl (v := (.int .u64 ((u.getD (i) 0 : Nat) : Int))) L23 rfl Yi (R1.row r1) (by rw [Nat.zero_add]; exact ZW (by omega)) fun _ L24 => (so L24 rfl (Zb L24 rfl fun _ L25 => (so L25 rfl (Zp L25 rfl ent_139 (XB R1.holds (x := (u.getD (i) 0)) (y := d)    (ZR hd_u.hlt (by decide) _) (hd)) fun v_1 S2 _ x1 v1 => ?_)))))))
   have R2 := R1.call x1; have l2 := x1.le
   obtain rfl := v1
   intro _ L26
   refine so L26 rfl (Zb L26 rfl fun _ L27 => (so L27 rfl (Zh L27 rfl rfl fun _ L28 => (so L28 rfl (Zh L28 rfl rfl fun _ L29 => (so L29 rfl (Zc L29 rfl fun _ L30 => (so L30 rfl (Zc L30 rfl fun _ L31 => (sn (wp_seq (Za ?_))))))))))))
   refine so L31 rfl (Zb L31 rfl fun _ L32 => (so L32 rfl (Zb L32 rfl fun _ L33 => (so L33 rfl (Yv (x := ((u.getD (i) 0) * d % 18446744073709551616)) (y := c) (c := 0) L33 rfl (by omega) fun _ L34 => (so L34 rfl (Zb L34 rfl fun _ L35 => (so L35 rfl (Zh L35 rfl rfl fun _ L36 => (so L36 rfl (Zh L36 rfl rfl fun _ L37 => (so L37 rfl (Zc L37 rfl fun _ L38 => ?_)))))))))))))
   refine so L38 rfl (Zc L38 rfl fun _ L39 => (sn (wp_seq (Za (so L39 rfl (Zb L39 rfl fun _ L40 => (so L40 rfl (Zb L40 rfl fun _ L41 => (so L41 rfl (ZK (z := ((((u.getD (i) 0) * d / 18446744073709551616 : Nat) : Int) + (((((u.getD (i) 0) * d % 18446744073709551616) + c + 0) / 18446744073709551616 : Nat) : Int))) L41 rfl rfl (IntWalk.u64_in _ (by omega)) fun _ L42 => (so L42 rfl (Zc L42 rfl fun _ L43 => ?_))))))))))))
   refine sn (Za (so L43 rfl (Zb L43 rfl ?_)))
   intro _ L44
   refine so L44 rfl (Zb L44 rfl fun _ L45 => (so L45 rfl (Zb L45 rfl fun _ L46 => (so L46 rfl (Zb L46 rfl fun _ L47 => (so L47 rfl (Zu (i) L47 rfl rfl Tryz.underlying30 ZB (by omega) (by omega) fun _ L48 => (so L48 rfl (Zl (v := (.int .u64 ((us.getD (off_p + (i)) 0 : Nat) : Int))) L48 rfl Yi (R2.has (List.Mem.head _)) (ZW (by omega)) fun _ L49 => (so L49 rfl (Zb L49 rfl fun _ L50 => (so L50 rfl (Zb L50 rfl fun _ L51 => ?_)))))))))))))
   refine so L51 rfl (Za5 (x := (us.getD (off_p + (i)) 0)) (y := ((((u.getD (i) 0) * d % 18446744073709551616) + c + 0) % 18446744073709551616)) (c := bo) L51 rfl (by omega) fun _ L52 => (so L52 rfl (Zb L52 rfl fun _ L53 => (so L53 rfl (Zh L53 rfl rfl fun _ L54 => (so L54 rfl (Zh L54 rfl rfl fun _ L55 => (so L55 rfl (Zu (i) L55 rfl rfl Tryz.underlying30 ZB (by omega) (by omega) fun _ L56 => (Zx L56 rfl rfl (Yh (cs' := (Yl (us.set (off_p + (i)) ((((us.getD (off_p + (i)) 0) + 18446744073709551616 - ((((u.getD (i) 0) * d % 18446744073709551616) + c + 0) % 18446744073709551616) - bo) % 18446744073709551616))) ++ rest_p)) L56 rfl rfl R2 ZB rfl (by simp only [List.length_append, ZG]; omega) (by exact YC (by omega)) fun _ R3 _ L57 => (so L57 rfl (Zc L57 rfl fun _ L58 => ?_)))))))))))))
   refine Yr ((ZI (Ze (Za (so L58 rfl (ZK (z := (((i : Nat) : Int) + (1 : Int))) L58 rfl rfl (IntWalk.i64_in _ (by omega)) ?_))))))
   intro _ L59
   refine so L59 rfl (Zb L59 rfl fun a56 L60 => (sn ?_))
   have e4 : (((((u.getD (i) 0) * d / 18446744073709551616 : Nat) : Int) + (((((u.getD (i) 0) * d % 18446744073709551616) + c + 0) / 18446744073709551616 : Nat) : Int)) : Int) = (((((u.getD (i) 0) * d / 18446744073709551616) + ((((u.getD (i) 0) * d % 18446744073709551616) + c + 0) / 18446744073709551616)) : Nat) : Int) := by omega
   have L61 : Zz a56 56 [(7, (.int .u64 (((((u.getD (i) 0) * d / 18446744073709551616) + ((((u.getD (i) 0) * d % 18446744073709551616) + c + 0) / 18446744073709551616)) : Nat) : Int)))] := by have q := (L60.kp [7] rfl); rw [e4] at q; exact q
   have e5 : (((if (us.getD (off_p + (i)) 0) < ((((u.getD (i) 0) * d % 18446744073709551616) + c + 0) % 18446744073709551616) + bo then 1 else 0 : Nat) : Int) : Int) = (((if (us.getD (off_p + (i)) 0) < ((((u.getD (i) 0) * d % 18446744073709551616) + c + 0) % 18446744073709551616) + bo then 1 else 0) : Nat) : Int) := by omega
   have L62 : Zz a56 56 [(8, (.int .u64 (((if (us.getD (off_p + (i)) 0) < ((((u.getD (i) 0) * d % 18446744073709551616) + c + 0) % 18446744073709551616) + bo then 1 else 0) : Nat) : Int)))] := by have q := (L60.kp [8] rfl); rw [e5] at q; exact q
   have e6 : ((((i : Nat) : Int) + (1 : Int)) : Int) = (((i + 1) : Nat) : Int) := by omega
   have L63 : Zz a56 56 [(15, (.int .i64 (((i + 1) : Nat) : Int)))] := by have q := (L60.kp [15] rfl); rw [e6] at q; exact q
   exact ⟨len_p - (i + 1), (by omega), S2, (us.set (off_p + (i)) ((((us.getD (off_p + (i)) 0) + 18446744073709551616 - ((((u.getD (i) 0) * d % 18446744073709551616) + c + 0) % 18446744073709551616) - bo) % 18446744073709551616))), (i + 1), (((u.getD (i) 0) * d / 18446744073709551616) + ((((u.getD (i) 0) * d % 18446744073709551616) + c + 0) / 18446744073709551616)), (if (us.getD (off_p + (i)) 0) < ((((u.getD (i) 0) * d % 18446744073709551616) + c + 0) % 18446744073709551616) + bo then 1 else 0), (l1.trans l2), (L60.keep (L60.keep (L60.keep (L60.keep (L61.keep (L62.keep (L60.keep (L63.keep (Zz.none _ L60) (t := 15) rfl) (t := 14) rfl) (t := 8) rfl) (t := 7) rfl) (t := 6) rfl) (t := 2) rfl) (t := 1) rfl) (t := 0) rfl), R3, (by first | (obtain ⟨hs1, hs2⟩ := sub_step (x := us.getD (off_p + (i)) 0) (l := (u.getD (i) 0 * d % 18446744073709551616 + c + 0) % 18446744073709551616) (b := bo) (ZR hI.lt (by decide) _) (Nat.mod_lt _ (by decide)) hI.hb; exact hI.step rfl (by omega) (Nat.mod_lt _ (by decide)) (by omega) hs2 (by omega) hs1 (fun _ => by omega)) | (obtain ⟨hs1, hs2⟩ := sub_step (x := us.getD (off_p + (i)) 0) (l := (0 + c + 0) % 18446744073709551616) (b := bo) (ZR hI.lt (by decide) _) (Nat.mod_lt _ (by decide)) hI.hb; exact hI.step rfl (by omega) (Nat.mod_lt _ (by decide)) (by omega) hs2 (by rw [Zbc (y := u) (i := i) (by omega)]; omega) hs1 (fun _ => by omega))), (by omega), rfl⟩
  ·refine so L19 rfl (Zf (b := false) (decide_eq_false t2) (fun _ k_ => ZH L19 rfl rfl k_) fun _ L64 => (sn (Zn L64 rfl rfl (wp_skip ((Ze (wp_seq (Za (so L64 rfl (Zb L64 rfl fun _ L65 => (so L65 rfl (Zb L65 rfl fun _ L66 => (so L66 rfl (Yv (x := 0) (y := c) (c := 0) L66 rfl (by omega) fun _ L67 => ?_))))))))))))))
   refine so L67 rfl (Zb L67 rfl fun _ L68 => (so L68 rfl (Zh L68 rfl rfl fun _ L69 => (so L69 rfl (Zh L69 rfl rfl fun _ L70 => (so L70 rfl (Zc L70 rfl fun _ L71 => (so L71 rfl (Zc L71 rfl fun _ L72 => (sn (wp_seq (Za ?_))))))))))))
   refine so L72 rfl (Zb L72 rfl fun _ L73 => (so L73 rfl (Zb L73 rfl fun _ L74 => (so L74 rfl (ZK (z := ((0 : Int) + (((0 + c + 0) / 18446744073709551616 : Nat) : Int))) L74 rfl rfl (IntWalk.u64_in _ (by omega)) fun _ L75 => (so L75 rfl (Zc L75 rfl fun _ L76 => (sn (Za (so L76 rfl (Zb L76 rfl fun _ L77 => (so L77 rfl (Zb L77 rfl fun _ L78 => ?_)))))))))))))
   refine so L78 rfl (Zb L78 rfl fun _ L79 => (so L79 rfl (Zb L79 rfl fun _ L80 => (so L80 rfl (Zu (i) L80 rfl rfl Tryz.underlying30 ZB (by omega) (by omega) fun _ L81 => (so L81 rfl (Zl (v := (.int .u64 ((us.getD (off_p + (i)) 0 : Nat) : Int))) L81 rfl Yi (R1.has (List.Mem.head _)) (ZW (by omega)) fun _ L82 => (so L82 rfl (Zb L82 rfl fun _ L83 => (so L83 rfl (Zb L83 rfl fun _ L84 => (so L84 rfl (Za5 (x := (us.getD (off_p + (i)) 0)) (y := ((0 + c + 0) % 18446744073709551616)) (c := bo) L84 rfl (by omega) fun _ L85 => ?_)))))))))))))
   refine so L85 rfl (Zb L85 rfl fun _ L86 => (so L86 rfl (Zh L86 rfl rfl fun _ L87 => (so L87 rfl (Zh L87 rfl rfl fun _ L88 => (so L88 rfl (Zu (i) L88 rfl rfl Tryz.underlying30 ZB (by omega) (by omega) fun _ L89 => (Zx L89 rfl rfl (Yh (cs' := (Yl (us.set (off_p + (i)) ((((us.getD (off_p + (i)) 0) + 18446744073709551616 - ((0 + c + 0) % 18446744073709551616) - bo) % 18446744073709551616))) ++ rest_p)) L89 rfl rfl R1 ZB rfl (by simp only [List.length_append, ZG]; omega) (by exact YC (by omega)) fun _ R4 _ L90 => (so L90 rfl (Zc L90 rfl fun _ L91 => (Yr ((ZI (Ze ?_)))))))))))))))
   refine Za (so L91 rfl (ZK (z := (((i : Nat) : Int) + (1 : Int))) L91 rfl rfl (IntWalk.i64_in _ (by omega)) ?_))
   intro _ L92
   refine so L92 rfl (Zb L92 rfl fun a86 L93 => (sn ?_))
   have e7 : (((0 : Int) + (((0 + c + 0) / 18446744073709551616 : Nat) : Int)) : Int) = (((0 + ((0 + c + 0) / 18446744073709551616)) : Nat) : Int) := by omega
   have L94 : Zz a86 56 [(7, (.int .u64 (((0 + ((0 + c + 0) / 18446744073709551616)) : Nat) : Int)))] := by have q := (L93.kp [7] rfl); rw [e7] at q; exact q
   have e8 : (((if (us.getD (off_p + (i)) 0) < ((0 + c + 0) % 18446744073709551616) + bo then 1 else 0 : Nat) : Int) : Int) = (((if (us.getD (off_p + (i)) 0) < ((0 + c + 0) % 18446744073709551616) + bo then 1 else 0) : Nat) : Int) := by omega
   have L95 : Zz a86 56 [(8, (.int .u64 (((if (us.getD (off_p + (i)) 0) < ((0 + c + 0) % 18446744073709551616) + bo then 1 else 0) : Nat) : Int)))] := by have q := (L93.kp [8] rfl); rw [e8] at q; exact q
   have e9 : ((((i : Nat) : Int) + (1 : Int)) : Int) = (((i + 1) : Nat) : Int) := by omega
   have L96 : Zz a86 56 [(15, (.int .i64 (((i + 1) : Nat) : Int)))] := by have q := (L93.kp [15] rfl); rw [e9] at q; exact q
   exact ⟨len_p - (i + 1), (by omega), S1, (us.set (off_p + (i)) ((((us.getD (off_p + (i)) 0) + 18446744073709551616 - ((0 + c + 0) % 18446744073709551616) - bo) % 18446744073709551616))), (i + 1), (0 + ((0 + c + 0) / 18446744073709551616)), (if (us.getD (off_p + (i)) 0) < ((0 + c + 0) % 18446744073709551616) + bo then 1 else 0), l1, (L93.keep (L93.keep (L93.keep (L93.keep (L94.keep (L95.keep (L93.keep (L96.keep (Zz.none _ L93) (t := 15) rfl) (t := 14) rfl) (t := 8) rfl) (t := 7) rfl) (t := 6) rfl) (t := 2) rfl) (t := 1) rfl) (t := 0) rfl), R4, (by first | (obtain ⟨hs1, hs2⟩ := sub_step (x := us.getD (off_p + (i)) 0) (l := (u.getD (i) 0 * d % 18446744073709551616 + c + 0) % 18446744073709551616) (b := bo) (ZR hI.lt (by decide) _) (Nat.mod_lt _ (by decide)) hI.hb; exact hI.step rfl (by omega) (Nat.mod_lt _ (by decide)) (by omega) hs2 (by omega) hs1 (fun _ => by omega)) | (obtain ⟨hs1, hs2⟩ := sub_step (x := us.getD (off_p + (i)) 0) (l := (0 + c + 0) % 18446744073709551616) (b := bo) (ZR hI.lt (by decide) _) (Nat.mod_lt _ (by decide)) hI.hb; exact hI.step rfl (by omega) (Nat.mod_lt _ (by decide)) (by omega) hs2 (by rw [Zbc (y := u) (i := i) (by omega)]; omega) hs1 (fun _ => by omega))), (by omega), rfl⟩
 ·refine so L7 rfl (Zf (b := false) (decide_eq_false t1) (fun _ k_ => ZH L7 rfl rfl k_) fun _ L97 => (sn (wp_seq (Zn L97 rfl rfl (wp_exit ((ZA (ZA (YB (Ze (wp_seq (Za (so L97 rfl (Zb L97 rfl fun _ L98 => ?_))))))))))))))
  by_cases t3 : ¬ ((bo : Nat) : Int) = (0 : Int)
  ·refine so L98 rfl (Zf (b := true) (decide_eq_true t3) (fun _ k_ => Yj L98 rfl rfl k_) fun _ L99 => (so L99 rfl (Zc L99 rfl fun _ L100 => (sn (wp_ret ((Zv (rs := Tryz.f165.results.toList) (L100.kp [6] rfl) rfl (.tmp rfl Res.nil) ?_)))))))
   obtain rfl : i = len_p := by omega
   have hc0 := hI.cz (by omega)
   have hs := hI.sum
   rw [hc0, Nat.zero_add, List.take_of_length_le (by omega)] at hs
   exact ⟨_, S1, us, rfl, l1, R1, ⟨bo, by first | exact congrArg Value.bool (decide_eq_true (by omega)).symm | exact congrArg Value.bool (decide_eq_false (by omega)).symm, by exact hI.len, by exact hI.lt, by exact hI.hb, by exact hs, by exact hI.out⟩⟩
  ·refine so L98 rfl (Zf (b := false) (decide_eq_false t3) (fun _ k_ => Yj L98 rfl rfl k_) fun _ L102 => (so L102 rfl (Zc L102 rfl fun _ L103 => (sn (wp_ret ((Zv (rs := Tryz.f165.results.toList) (L103.kp [6] rfl) rfl (.tmp rfl Res.nil) ?_)))))))
   obtain rfl : i = len_p := by omega
   have hc0 := hI.cz (by omega)
   have hs := hI.sum
   rw [hc0, Nat.zero_add, List.take_of_length_le (by omega)] at hs
   exact ⟨_, S1, us, rfl, l1, R1, ⟨bo, by first | exact congrArg Value.bool (decide_eq_true (by omega)).symm | exact congrArg Value.bool (decide_eq_false (by omega)).symm, by exact hI.len, by exact hI.lt, by exact hI.hb, by exact hs, by exact hI.out⟩⟩
set_option maxRecDepth 20000 in
theorem nat_back {S0 S : Sh} {w0 w : World} {H0 : Own} {b_p off_p len_p cap_p : Nat} {p : List Nat} {rest_p : List Value} {p_u : Option Addr} {len_u cap_u : Nat} {u : List Nat} (hd_u : Dg S p_u len_u cap_u u) (R0 : Run S0 w0 S ((b_p, 29, (Yl p ++ rest_p)) :: H0) w) (hlt : ∀ e ∈ p, e < 18446744073709551616) (hfit : off_p + len_p ≤ p.length) (hul : len_u < len_p) (hlp : len_p ≤ 1099511627777) : Calls Tryz.prog 166 [(.slice (some ⟨b_p, off_p, none⟩) len_p cap_p), (.slice p_u len_u cap_u)].toArray w (RetO S0 w0 S b_p 29 rest_p H0 (fun S v ds => ∃ (cy : Nat), v = .tuple #[] ∧ ds.length = p.length ∧ (∀ e ∈ ds, e < 18446744073709551616) ∧ cy ≤ 1 ∧ val W64 ds + W64 ^ (off_p + len_p) * cy = val W64 p + W64 ^ off_p * val W64 u ∧ (∀ j, j < off_p ∨ off_p + len_p ≤ j → ds.getD j 0 = p.getD j 0))) := by
 refine ZT (n := 34) Tryz.func166 rfl rfl ?_
 intro ac0 L0
 replace L0 : Zz ac0 34 [(0, (.slice (some ⟨b_p, off_p, none⟩) len_p cap_p)), (1, (.slice p_u len_u cap_u))] := L0
 have hl_u := hd_u.hlen; have hc_u := hd_u.hcap; have hg_u := hd_u.hbig
 refine wp_seq (Za (so L0 rfl (Zc L0 rfl ?_)))
 intro _ L1
 refine sn (wp_seq (Za (so L1 rfl (Zb L1 rfl ?_))))
 intro _ L2
 refine so L2 rfl (ZO L2 rfl Tryz.underlying30 fun _ L3 => (so L3 rfl (Zb L3 rfl fun a4 L4 => (sn (wp_block ?_)))))
 have e1 : ((0 : Int) : Int) = ((0 : Nat) : Int) := by omega
 have L6 : Zz a4 34 [(4, (.int .u64 ((0 : Nat) : Int)))] := by have q := (L4.kp [4] rfl); rw [e1] at q; exact q
 have e2 : ((0 : Int) : Int) = ((0 : Nat) : Int) := by omega
 have L7 : Zz a4 34 [(9, (.int .i64 ((0 : Nat) : Int)))] := by have q := (L4.kp [9] rfl); rw [e2] at q; exact q
 refine ZZ (fun m ac ww => ∃ (S' : Sh) (us : List Nat) (i : Nat) (c : Nat), S.le S' ∧ Zz ac 34 [(0, (.slice (some ⟨b_p, off_p, none⟩) len_p cap_p)), (1, (.slice p_u len_u cap_u)), (4, (.int .u64 ((c : Nat) : Int))), (8, (.int .i64 ((len_p : Nat) : Int))), (9, (.int .i64 ((i : Nat) : Int)))] ∧ Run S0 w0 S' ((b_p, 29, (Yl us ++ rest_p)) :: H0) ww ∧ (Zbv p u us off_p i c) ∧ (i ≤ len_p) ∧ m = len_p - i)
  (len_p - 0) ⟨S, p, 0, 0, Sh.le.refl _, (L4.keep (L4.keep (L6.keep (L4.keep (L7.keep (Zz.none _ L4) (t := 9) rfl) (t := 8) rfl) (t := 4) rfl) (t := 1) rfl) (t := 0) rfl), R0, (by exact Zbv.start hlt), (by omega), rfl⟩ ?_
 rintro m_1 ac1 _ ⟨S1, us, i, c, l1, L5, R1, hI, hi, m1⟩
 refine wp_seq (Za ?_)
 by_cases t1 : ((i : Nat) : Int) < ((len_p : Nat) : Int)
 ·refine so L5 rfl (Zf (b := true) (decide_eq_true t1) (fun _ k_ => ZH L5 rfl rfl k_) fun _ L8 => (sn (wp_seq (Zs L8 rfl rfl (wp_skip ((Ze (wp_seq (wp_block (wp_seq ?_))))))))))
  have hIl := hI.len; have hIc := hI.hc; have hx1 := ZR hI.lt (show 0 < 18446744073709551616 by decide) (off_p + (i)); have hx2 := ZR hd_u.hlt (show 0 < 18446744073709551616 by decide) i
  refine Za (so L8 rfl (Zb L8 rfl ?_))
  intro _ L9
  refine so L9 rfl (Zc L9 rfl fun _ L10 => (sn (wp_seq (Za (so L10 rfl (Zc L10 rfl fun _ L11 => (sn (wp_seq (wp_seq (Za (so L11 rfl (Zb L11 rfl fun _ L12 => ?_))))))))))))
  refine so L12 rfl (Zb L12 rfl fun _ L13 => (so L13 rfl (ZO L13 rfl Tryz.underlying30 fun _ L14 => ?_)))
  by_cases t2 : ((i : Nat) : Int) < ((len_u : Nat) : Int)
  ·refine so L14 rfl (Zf (b := true) (decide_eq_true t2) (fun _ k_ => ZH L14 rfl rfl k_) fun _ L15 => (sn (Zs L15 rfl rfl (Za (so L15 rfl (Zb L15 rfl fun _ L16 => (so L16 rfl (Zb L16 rfl fun _ L17 => ?_))))))))
   obtain ⟨b1, rest_1, rfl, r1⟩ := (hd_u.up l1).row (by omega)
   refine so L17 rfl (Zu (i) L17 rfl rfl Tryz.underlying30 ZB (by omega) (by omega) fun _ L18 => (so L18 rfl (Zl (v := (.int .u64 ((u.getD (i) 0 : Nat) : Int))) L18 rfl Yi (R1.row r1) (by rw [Nat.zero_add]; exact ZW (by omega)) fun _ L19 => (so L19 rfl (Zc L19 rfl fun _ L20 => (sn (Za (so L20 rfl (Zb L20 rfl fun _ L21 => (so L21 rfl (Zb L21 rfl fun _ L22 => (so L22 rfl (Zb L22 rfl fun _ L23 => ?_)))))))))))))
   refine so L23 rfl (Zb L23 rfl fun _ L24 => (so L24 rfl (Zu (i) L24 rfl rfl Tryz.underlying30 ZB (by omega) (by omega) fun _ L25 => (so L25 rfl (Zl (v := (.int .u64 ((us.getD (off_p + (i)) 0 : Nat) : Int))) L25 rfl Yi (R1.has (List.Mem.head _)) (ZW (by omega)) fun _ L26 => (so L26 rfl (Zb L26 rfl fun _ L27 => (so L27 rfl (Zb L27 rfl fun _ L28 => (so L28 rfl (Yv (x := (us.getD (off_p + (i)) 0)) (y := (u.getD (i) 0)) (c := c) L28 rfl (by omega) fun _ L29 => (so L29 rfl (Zb L29 rfl fun _ L30 => ?_)))))))))))))
   refine so L30 rfl (Zh L30 rfl rfl fun _ L31 => (so L31 rfl (Zh L31 rfl rfl fun _ L32 => (so L32 rfl (Zu (i) L32 rfl rfl Tryz.underlying30 ZB (by omega) (by omega) fun _ L33 => (Zx L33 rfl rfl (Yh (cs' := (Yl (us.set (off_p + (i)) ((((us.getD (off_p + (i)) 0) + (u.getD (i) 0) + c) % 18446744073709551616))) ++ rest_p)) L33 rfl rfl R1 ZB rfl (by simp only [List.length_append, ZG]; omega) (by exact YC (by omega)) fun _ R2 _ L34 => (so L34 rfl (Zc L34 rfl fun _ L35 => (Yr ((ZI (Ze (Za (so L35 rfl (ZK (z := (((i : Nat) : Int) + (1 : Int))) L35 rfl rfl (IntWalk.i64_in _ (by omega)) fun _ L36 => ?_))))))))))))))))
   refine so L36 rfl (Zb L36 rfl fun a34 L37 => (sn ?_))
   have e3 : (((((us.getD (off_p + (i)) 0) + (u.getD (i) 0) + c) / 18446744073709551616 : Nat) : Int) : Int) = (((((us.getD (off_p + (i)) 0) + (u.getD (i) 0) + c) / 18446744073709551616) : Nat) : Int) := by omega
   have L38 : Zz a34 34 [(4, (.int .u64 (((((us.getD (off_p + (i)) 0) + (u.getD (i) 0) + c) / 18446744073709551616) : Nat) : Int)))] := by have q := (L37.kp [4] rfl); rw [e3] at q; exact q
   have e4 : ((((i : Nat) : Int) + (1 : Int)) : Int) = (((i + 1) : Nat) : Int) := by omega
   have L39 : Zz a34 34 [(9, (.int .i64 (((i + 1) : Nat) : Int)))] := by have q := (L37.kp [9] rfl); rw [e4] at q; exact q
   exact ⟨len_p - (i + 1), (by omega), S1, (us.set (off_p + (i)) ((((us.getD (off_p + (i)) 0) + (u.getD (i) 0) + c) % 18446744073709551616))), (i + 1), (((us.getD (off_p + (i)) 0) + (u.getD (i) 0) + c) / 18446744073709551616), l1, (L37.keep (L37.keep (L38.keep (L37.keep (L39.keep (Zz.none _ L37) (t := 9) rfl) (t := 8) rfl) (t := 4) rfl) (t := 1) rfl) (t := 0) rfl), R2, (by first | exact hI.step rfl (by omega) (Nat.mod_lt _ (by decide)) (by omega) (by omega) | exact hI.step rfl (by omega) (Nat.mod_lt _ (by decide)) (by omega) (by rw [Zbc (y := u) (i := i) (by omega)]; omega)), (by omega), rfl⟩
  ·refine so L14 rfl (Zf (b := false) (decide_eq_false t2) (fun _ k_ => ZH L14 rfl rfl k_) fun _ L40 => (sn (Zn L40 rfl rfl (wp_skip ((Ze (Za (so L40 rfl (Zb L40 rfl fun _ L41 => (so L41 rfl (Zb L41 rfl fun _ L42 => (so L42 rfl (Zb L42 rfl fun _ L43 => (so L43 rfl (Zb L43 rfl fun _ L44 => ?_)))))))))))))))
   refine so L44 rfl (Zu (i) L44 rfl rfl Tryz.underlying30 ZB (by omega) (by omega) fun _ L45 => (so L45 rfl (Zl (v := (.int .u64 ((us.getD (off_p + (i)) 0 : Nat) : Int))) L45 rfl Yi (R1.has (List.Mem.head _)) (ZW (by omega)) fun _ L46 => (so L46 rfl (Zb L46 rfl fun _ L47 => (so L47 rfl (Zb L47 rfl fun _ L48 => (so L48 rfl (Yv (x := (us.getD (off_p + (i)) 0)) (y := 0) (c := c) L48 rfl (by omega) fun _ L49 => (so L49 rfl (Zb L49 rfl fun _ L50 => (so L50 rfl (Zh L50 rfl rfl fun _ L51 => ?_)))))))))))))
   refine so L51 rfl (Zh L51 rfl rfl fun _ L52 => (so L52 rfl (Zu (i) L52 rfl rfl Tryz.underlying30 ZB (by omega) (by omega) fun _ L53 => (Zx L53 rfl rfl (Yh (cs' := (Yl (us.set (off_p + (i)) ((((us.getD (off_p + (i)) 0) + 0 + c) % 18446744073709551616))) ++ rest_p)) L53 rfl rfl R1 ZB rfl (by simp only [List.length_append, ZG]; omega) (by exact YC (by omega)) fun _ R3 _ L54 => (so L54 rfl (Zc L54 rfl fun _ L55 => (Yr ((ZI (Ze (Za (so L55 rfl (ZK (z := (((i : Nat) : Int) + (1 : Int))) L55 rfl rfl (IntWalk.i64_in _ (by omega)) fun _ L56 => (so L56 rfl (Zb L56 rfl fun a52 L57 => ?_))))))))))))))))
   refine sn ?_
   have e5 : (((((us.getD (off_p + (i)) 0) + 0 + c) / 18446744073709551616 : Nat) : Int) : Int) = (((((us.getD (off_p + (i)) 0) + 0 + c) / 18446744073709551616) : Nat) : Int) := by omega
   have L58 : Zz a52 34 [(4, (.int .u64 (((((us.getD (off_p + (i)) 0) + 0 + c) / 18446744073709551616) : Nat) : Int)))] := by have q := (L57.kp [4] rfl); rw [e5] at q; exact q
   have e6 : ((((i : Nat) : Int) + (1 : Int)) : Int) = (((i + 1) : Nat) : Int) := by omega
   have L59 : Zz a52 34 [(9, (.int .i64 (((i + 1) : Nat) : Int)))] := by have q := (L57.kp [9] rfl); rw [e6] at q; exact q
   exact ⟨len_p - (i + 1), (by omega), S1, (us.set (off_p + (i)) ((((us.getD (off_p + (i)) 0) + 0 + c) % 18446744073709551616))), (i + 1), (((us.getD (off_p + (i)) 0) + 0 + c) / 18446744073709551616), l1, (L57.keep (L57.keep (L58.keep (L57.keep (L59.keep (Zz.none _ L57) (t := 9) rfl) (t := 8) rfl) (t := 4) rfl) (t := 1) rfl) (t := 0) rfl), R3, (by first | exact hI.step rfl (by omega) (Nat.mod_lt _ (by decide)) (by omega) (by omega) | exact hI.step rfl (by omega) (Nat.mod_lt _ (by decide)) (by omega) (by rw [Zbc (y := u) (i := i) (by omega)]; omega)), (by omega), rfl⟩
 ·refine so L5 rfl (Zf (b := false) (decide_eq_false t1) (fun _ k_ => ZH L5 rfl rfl k_) fun _ L60 => (sn (wp_seq (Zn L60 rfl rfl (wp_exit ((ZA (ZA (YB (body_end (rs := Tryz.f166.results.toList) L60 rfl Res.nil ?_))))))))))
  obtain rfl : i = len_p := by omega
  have hs := hI.sum
  rw [List.take_of_length_le (by omega)] at hs
  exact ⟨_, S1, us, rfl, l1, R1, ⟨c, by rfl, by exact hI.len, by exact hI.lt, by exact hI.hc, by exact hs, by exact hI.out⟩⟩
end Go.Cham
namespace Go.Cham
open Go Go.RowKit
section
variable {P : Program} {a : Act} {w : World} {n : Nat} {l : List (Nat × Value)} {K : Value → World → Prop}
variable {d : Option Tmp} {ty : TypeId} {pos : String} {af : Array Edge} {g : Option (Nat × Bool)}
theorem does_appendNil {x y : Operand} {t e : TypeId} {len cap2 : Nat} {p : Option Addr} {ds : List Nat} {S0 S : Sh} {w0 : World} {H : Own} (hL : Zz a n l) (hx : ev l x = some (.slice none 0 0)) (hy : ev l y = some (.slice p len cap2))
    (ht : P.underlying t = some (.slice e)) (hZ : Yo P e = some 1) (hB : Qx P e = some 8) (hz : XF P e = some (.int .u64 0)) (he : e = tU64) (hR : Run S0 w0 S H w) (hD : Dg S p len cap2 ds) (h0 : 0 < len) (hlim : len ≤ 1099511627776)
    (k : ∀ b cap rest w', len ≤ cap → Run S0 w0 S ((b, tU64, Yl ds ++ rest) :: H) w' → K (.slice (some ⟨b, 0, none⟩) len cap) w') : YG P ⟨d, .call ⟨.builtin .append, #[x, y], #[t, t]⟩, ty, pos, af, g⟩ a w K := by
  subst he
  obtain ⟨i, hi, hs, hz', hb⟩ : ∃ i, P.info? tU64 = some i ∧ i.size = 1 ∧ i.zero = some (.int .u64 0) ∧ i.bytes = 8 := by
    unfold Yo at hZ
    unfold Qx at hB
    unfold XF at hz
    cases hi : P.info? tU64 with
    | none => rw [hi] at hZ; simp at hZ
    | some i => rw [hi] at hZ hB hz; exact ⟨i, rfl, by simpa using hZ, by simpa using hz, by simpa using hB⟩
  obtain ⟨b2, rest2, rfl, r⟩ := hD.row h0
  have hrun := run_append_nil (P := P) w t ty tU64 i (.int .u64 0) ht hi hz' ⟨b2, 0, none⟩ len cap2 (Yl ds) (by rw [ZG, hs, Nat.mul_one]; exact hD.hlen) (fun j v hv => by
      have hc := (hR.row r).cell j
      have e1 : (⟨b2, 0, none⟩ : Addr).add j = ⟨b2, j, none⟩ := by rw [Addr.add_lit, Nat.zero_add]
      rw [e1, hc, List.getElem?_append_left (by rcases Nat.lt_or_ge j (Yl ds).length with h | h
                                                · exact h
                                                · rw [List.getElem?_eq_none h] at hv; cases hv)]
      exact hv) h0 (by omega) (by rw [hb]; omega)
  have hge := grownCap_ge w len 0 tU64
  generalize grownCap w len 0 tU64 = cap at hrun hge
  have hR1 : Run S0 w0 S H w.drew := hR.call (Ext.drewN hR.holds 1)
  obtain ⟨rest, hrest⟩ : ∃ rest, (Builtin.zeroCells (Value.int .u64 0).cells (cap - len)) = (rest : List Value).toArray := ⟨_, (Array.toArray_toList).symm⟩
  have hR2 := hR1.newOwn tU64 (Yl ds ++ rest)
  have ec : ((Yl ds).toArray ++ Builtin.zeroCells (Value.int .u64 0).cells (cap - len)) = (Yl ds ++ rest).toArray := by rw [hrest]; simp
  rw [ec] at hrun
  refine Zw (v := .slice (some ⟨w.heap.size, 0, none⟩) len cap) (w' := YR w.drew (.cells (Yl ds ++ rest).toArray tU64)) ?_ (k _ _ _ _ hge hR2)
  rw [YF]
  simp only [List.map_toArray, List.map_cons, List.map_nil, hL.ev hx, hL.ev hy]
  show Sem.run P (do let v ← Builtin.append_ #[t, t] ty #[.slice none 0 0, .slice (some ⟨b2, 0, none⟩) len cap2]; (pure (Next.value v) : Sem Next)) w = _
  rw [Zg hrun]
  rfl
end
theorem does_sliceFull {P : Program} {a : Act} {w : World} {n : Nat} {l : List (Nat × Value)} {K : Value → World → Prop} {d : Option Tmp} {ty : TypeId} {pos : String} {af : Array Edge} {g : Option (Nat × Bool)}
    {t e : TypeId} {x u y z : Operand} {b off len cap h i off' len' : Nat} {k0 k1 k2 : IntKind} {vh vi vj : Int} (hL : Zz a n l) (hx : ev l x = some (.slice (some ⟨b, off, none⟩) len cap)) (hu : ev l u = some (.int k0 vh)) (hy : ev l y = some (.int k1 vi)) (hz : ev l z = some (.int k2 vj)) (ht : P.underlying t = some (.slice e)) (hZ : Yo P e = some 1)
    (eh : vh = (h : Int)) (ei : vi = (i : Int)) (ej : vj = (i : Int)) (h1 : h < i) (h2 : i ≤ cap) (eo : off + h = off') (el : i - h = len') (k : K (.slice (some ⟨b, off', none⟩) len' len') w) : YG P ⟨d, .slice t x (some u) (some y) (some z), ty, pos, af, g⟩ a w K := by
  subst eh ei ej eo el
  refine Zw (v := .slice (some ⟨b, off + h, none⟩) (i - h) (i - h)) ?_ k
  simp only [execOp, hL.ev hx, Option.map_some, hL.ev hu, hL.ev hy, hL.ev hz, Instr.sliceAt]
  rw [Zg (w' := w) (a := (.slice (some ⟨b, off + h, none⟩) (i - h) (i - h) : Value))]
  · rfl
  rw [Zg (Zq ht)]
  simp only [Instr.slice]
  rw [Zg (Zq ht)]
  simp only [Instr.sliceBounds]
  rw [Zg (w' := w) (a := (h, i, i)) (by
    rw [Zg (Ye rfl h2), Zg (Ye rfl (Nat.le_refl _)), Zg (Ye rfl (Nat.le_of_lt h1))]; rfl)]
  simp only []
  rw [Zg (Yg hZ)]
  simp only [Nat.mul_one]
  rw [if_neg (by omega)]
  simp only [Option.map_some, Xk]
  rfl
theorem knuth {R T D P V pl vl g K : Nat} (hP : P = T * R + pl) (hpl : pl < R) (hV : V = D * R + vl) (hvl : vl < R) (hD : K ≤ D) (hPV : P < K * V) (hg : g < K) (h1 : g * D ≤ T) (h2 : T < (g + 1) * D ∨ g + 1 = K) : P < (g + 1) * V ∧ g * V ≤ P + V := by
  constructor
  · rcases h2 with h2 | h2
    · have e1 : (T + 1) * R ≤ ((g + 1) * D) * R := Nat.mul_le_mul_right R h2
      have e2 : (g + 1) * V = ((g + 1) * D) * R + (g + 1) * vl := by rw [hV, Nat.mul_add, Nat.mul_assoc]
      rw [Nat.add_mul, Nat.one_mul] at e1
      omega
    · rw [h2]; exact hPV
  · have e1 : g * D * R ≤ T * R := Nat.mul_le_mul_right R h1
    have e2 : g * V = g * D * R + g * vl := by rw [hV, Nat.mul_add, Nat.mul_assoc]
    have e3 : g * vl ≤ D * R := Nat.mul_le_mul (by omega) (by omega)
    omega
theorem knuth_x {R x y z v wl P V pl vl K : Nat} (hP : P = ((x * K + y) * K + z) * R + pl) (hV : V = (v * K + wl) * R + vl) (hvl : vl < R) (hw : wl < K) (hPV : P < K * V) : x ≤ v := by
  rcases Nat.lt_or_ge v x with h | h
  · exfalso
    have h1 : V ≤ (v + 1) * K * R := by
      have : (v * K + wl + 1) * R ≤ ((v + 1) * K) * R := Nat.mul_le_mul_right R (by rw [Nat.add_mul, Nat.one_mul]; omega)
      rw [Nat.add_mul (v * K + wl) 1 R, Nat.one_mul] at this
      omega
    have h2 : K * V ≤ K * ((v + 1) * K * R) := Nat.mul_le_mul_left K h1
    have h3 : ((v + 1) * K * K) * R ≤ ((x * K + y) * K + z) * R := Nat.mul_le_mul_right R (by
      have : (v + 1) * K ≤ x * K := Nat.mul_le_mul_right K h
      have := Nat.mul_le_mul_right K this
      rw [Nat.add_mul (x * K) y K]
      omega)
    have h4 : K * ((v + 1) * K * R) = (v + 1) * K * K * R := by rw [← Nat.mul_assoc, Nat.mul_comm K, Nat.mul_assoc ((v + 1) * K) K R]
    omega
  · exact h
structure XQ (V : Nat) (u0 us os : List Nat) (n k : Nat) : Prop where
  lu : us.length = u0.length
  lo : us.length = os.length + n
  ltu : ∀ e ∈ us, e < 18446744073709551616
  lto : ∀ e ∈ os, e < 18446744073709551616
  le : k ≤ os.length
  sum : val W64 u0 = val W64 us + val W64 os * V
  bd : val W64 us < W64 ^ k * V
  z : ∀ j, j < k → os.getD j 0 = 0
theorem rep_getD (m j : Nat) : (List.replicate m 0).getD j 0 = 0 := by simp [List.getD_eq_getElem?_getD, List.getElem?_replicate]; split <;> simp
theorem XQ.start {V n m : Nat} {u0 : List Nat} (hm : u0.length = m + n) (hl : ∀ e ∈ u0, e < 18446744073709551616) (hb : val W64 u0 < W64 ^ m * V) : XQ V u0 u0 (List.replicate m 0) n m :=
  ⟨rfl, by rw [List.length_replicate]; exact hm, hl, by simp, by simp, by rw [val_rep0, Nat.zero_mul]; rfl, hb, fun j _ => rep_getD m j⟩
theorem drop_val0 {us : List Nat} {N : Nat} (h : val W64 us < W64 ^ N) (hN : N ≤ us.length) : val W64 (us.drop N) = 0 := by
  have h1 := YX W64 us N hN
  rcases Nat.eq_zero_or_pos (val W64 (us.drop N)) with h2 | h2
  · exact h2
  · have h3 : W64 ^ N * 1 ≤ W64 ^ N * val W64 (us.drop N) := Nat.mul_le_mul_left _ h2
    rw [Nat.mul_one] at h3
    generalize W64 ^ N * val W64 (us.drop N) = A at *
    generalize W64 ^ N = B at *
    omega
theorem pow_V {V n k : Nat} (hV : V < W64 ^ n) {x : Nat} (hx : x < W64 ^ k * V) : x < W64 ^ (k + n) := by
  rw [Nat.pow_add]
  exact Nat.lt_of_lt_of_le hx (Nat.mul_le_mul_left _ (Nat.le_of_lt hV))
structure LongTop (V : Nat) (us : List Nat) (n k P low pl : Nat) : Prop where
  e : val W64 us = low + W64 ^ (k - 1) * P
  hlow : low < W64 ^ (k - 1)
  hP : P < 18446744073709551616 * V
  eP : P = ((us.getD (k - 1 + n) 0 * 18446744073709551616 + us.getD (k - 1 + (n - 1)) 0) * 18446744073709551616 + us.getD (k - 1 + (n - 2)) 0) * W64 ^ (n - 2) + pl
  hpl : pl < W64 ^ (n - 2)
theorem QM (d : Nat) (r : List Nat) : val W64 (d :: r) = d + 18446744073709551616 * val W64 r := rfl
theorem top_arith {pl R x y z M : Nat} : pl + R * (z + M * (y + M * (x + M * 0))) = ((x * M + y) * M + z) * R + pl := by
  rw [Nat.mul_zero, Nat.add_zero, Nat.mul_comm M x, Nat.add_comm y, Nat.mul_comm M (x * M + y), Nat.add_comm z, Nat.mul_comm R, Nat.add_comm]
theorem XQ.top {V n k : Nat} {u0 us os : List Nat} (h : XQ V u0 us os n k) (hk : 0 < k) (hn : 2 ≤ n) (hV : V < W64 ^ n) : ∃ P low pl, LongTop V us n k P low pl := by
  have hle := h.le
  have hlo := h.lo
  have hj : k - 1 + n < us.length := by omega
  have e1 := YX W64 us (k - 1) (by omega)
  have hb := h.bd
  have hbig : val W64 us < W64 ^ (k - 1 + n + 1) := by
    have := pow_V hV hb
    rwa [show k + n = k - 1 + n + 1 by omega] at this
  have hz := drop_val0 hbig hj
  have e2 := YX W64 (us.drop (k - 1)) (n - 2) (by rw [List.length_drop]; omega)
  rw [List.drop_drop] at e2
  have d0 : us.drop (k - 1 + (n - 2)) = us.getD (k - 1 + (n - 2)) 0 :: us.getD (k - 1 + (n - 1)) 0 :: us.getD (k - 1 + n) 0 :: us.drop (k - 1 + n + 1) := by
    rw [Ym (n := k - 1 + (n - 2)) (by omega), show k - 1 + (n - 2) + 1 = k - 1 + (n - 1) by omega, Ym (n := k - 1 + (n - 1)) (by omega), show k - 1 + (n - 1) + 1 = k - 1 + n by omega, Ym (n := k - 1 + n) (by omega)]
  rw [d0, QM, QM, QM, hz, top_arith] at e2
  have hl1 := Zbm (B := W64) (by decide) h.ltu (k - 1) (by omega)
  have hl2 := Zbm (B := W64) (ds := us.drop (k - 1)) (by decide) (fun e he => h.ltu e (List.mem_of_mem_drop he)) (n - 2) (by rw [List.length_drop]; omega)
  refine ⟨val W64 (us.drop (k - 1)), val W64 (us.take (k - 1)), _, e1, hl1, ?_, e2, hl2⟩
  have e4 : W64 ^ k = W64 ^ (k - 1) * 18446744073709551616 := by
    have : W64 ^ (k - 1 + 1) = W64 ^ (k - 1) * 18446744073709551616 := Nat.pow_succ _ _
    rwa [show k - 1 + 1 = k by omega] at this
  rw [e4, Nat.mul_assoc] at hb
  have h5 : W64 ^ (k - 1) * val W64 (us.drop (k - 1)) < W64 ^ (k - 1) * (18446744073709551616 * V) := Nat.lt_of_le_of_lt (by rw [e1]; exact Nat.le_add_left _ _) hb
  exact Nat.lt_of_mul_lt_mul_left h5
theorem same_drop {us vs : List Nat} {N : Nat} (hl : us.length = vs.length) (h : ∀ m, N ≤ m → us.getD m 0 = vs.getD m 0) : us.drop N = vs.drop N := by
  apply List.ext_getElem
  · simp [hl]
  · intro i h1 h2
    rw [List.getElem_drop, List.getElem_drop]
    have h3 : N + i < us.length := by simp at h1; omega
    have h4 : N + i < vs.length := by omega
    have h5 := h (N + i) (by omega)
    rw [List.getD_eq_getElem?_getD, List.getD_eq_getElem?_getD, List.getElem?_eq_getElem h3, List.getElem?_eq_getElem h4] at h5
    simpa using h5
theorem top_lt' {us vs : List Nat} {N : Nat} (hv : val W64 vs < W64 ^ N) (hl : us.length = vs.length) (hN : N ≤ us.length) (h : ∀ m, N ≤ m → us.getD m 0 = vs.getD m 0) (ht : ∀ e ∈ us, e < 18446744073709551616) : val W64 us < W64 ^ N := by
  have e := YX W64 us N hN
  rw [same_drop hl h, drop_val0 hv (by omega), Nat.mul_zero, Nat.add_zero] at e
  rw [e]
  exact Zbm (by decide) ht N hN
theorem long0 {A A1 O V P low g N : Nat} (hA : A = low + O * P) (hlow : low < O) (h1 : A1 + O * (V * g) = A + N * 0) (h2 : P < (g + 1) * V) : A = A1 + O * (V * g) ∧ A1 < O * V := by
  have e1 : O * (P + 1) ≤ O * ((g + 1) * V) := Nat.mul_le_mul_left O h2
  have e2 : O * ((g + 1) * V) = O * (V * g) + O * V := by rw [Nat.add_mul, Nat.one_mul, Nat.mul_add, Nat.mul_comm g V]
  rw [Nat.mul_add, Nat.mul_one] at e1
  rw [Nat.mul_zero, Nat.add_zero] at h1
  omega
theorem long1 {A A1 A2 O V P low g N cy : Nat} (hA : A = low + O * P) (h1 : A1 + O * (V * g) = A + N) (hA1 : A1 < N) (h2 : g * V ≤ P + V) (h3 : A2 + N * cy = A1 + O * V) (hA2 : A2 < N) (hcy : cy ≤ 1) :
    0 < g ∧ A = A2 + O * (V * (g - 1)) ∧ A2 < O * V := by
  have h0 : 0 < g := by
    rcases Nat.eq_zero_or_pos g with e | e
    · subst e; rw [Nat.mul_zero, Nat.mul_zero] at h1; omega
    · exact e
  obtain ⟨p, rfl⟩ : ∃ p, g = p + 1 := ⟨g - 1, by omega⟩
  rw [Nat.add_sub_cancel]
  have e0 : p * V ≤ P := by rw [Nat.add_mul, Nat.one_mul] at h2; omega
  have e1 : O * (p * V) ≤ O * P := Nat.mul_le_mul_left O e0
  have e2 : O * (V * (p + 1)) = O * (V * p) + O * V := by rw [Nat.mul_add V, Nat.mul_one, Nat.mul_add]
  rw [Nat.mul_comm p V] at e1
  have hc : cy = 1 := by
    rcases Nat.lt_or_ge 0 cy with h | h
    · omega
    · have : cy = 0 := by omega
      subst this
      rw [Nat.mul_zero] at h3
      omega
  subst hc
  rw [Nat.mul_one] at h3
  refine ⟨h0, ?_, ?_⟩ <;> omega
theorem XQ.next {V n k dg : Nat} {u0 us us' os : List Nat} (h : XQ V u0 us os n k) (hk : 0 < k) (hl : us'.length = us.length) (ht : ∀ e ∈ us', e < 18446744073709551616) (hdg : dg < 18446744073709551616)
    (he : val W64 us = val W64 us' + W64 ^ (k - 1) * (V * dg)) (hb : val W64 us' < W64 ^ (k - 1) * V) : XQ V u0 us' (os.set (k - 1) dg) n (k - 1) := by
  have hle := h.le
  refine ⟨by rw [hl]; exact h.lu, by rw [hl, List.length_set]; exact h.lo, ht, Qo h.lto hdg, by rw [List.length_set]; omega, ?_, hb, fun j hj => by rw [YL (by omega)]; exact h.z j (by omega)⟩
  have hv := Zbl W64 os (k - 1) dg (by omega)
  rw [h.z (k - 1) (by omega), Nat.mul_zero, Nat.add_zero] at hv
  rw [h.sum, he, hv, Nat.add_mul, Nat.mul_assoc, Nat.mul_comm dg V, Nat.add_assoc, Nat.add_comm (W64 ^ (k - 1) * (V * dg))]
theorem XQ.done {V n : Nat} {u0 us os : List Nat} (h : XQ V u0 us os n 0) : val W64 u0 = val W64 us + val W64 os * V ∧ val W64 us < V := by
  refine ⟨h.sum, ?_⟩
  have := h.bd
  rwa [Nat.pow_zero, Nat.one_mul] at this
theorem long_done {a b p U R Q : Nat} (hb : 0 < b) (hp : 0 < p) (hU : U = a * p) (hs : U = R + Q * (b * p)) (hR : R < b * p) : Q = a / b ∧ R / p = a % b := by
  refine div_fin (p := p) ?_ hp hR hb
  rw [← hU, hs, Nat.mul_assoc]
theorem long_pos {A A1 O V g N : Nat} (h1 : A1 + O * (V * g) = A + N) (h2 : A1 < N) : 0 < g := by
  rcases Nat.eq_zero_or_pos g with e | e
  · subst e; rw [Nat.mul_zero, Nat.mul_zero] at h1; omega
  · exact e
theorem QJ {n : Nat} : ZF n = 0 ↔ n = 0 := by
  unfold ZF
  split
  · rename_i h; simp [h]
  · rename_i h; constructor
    · intro h2; omega
    · intro h2; exact absurd h2 h
theorem lz {y : Nat} (h0 : y ≠ 0) (hy : y < 18446744073709551616) : 64 - ZF y < 64 ∧ y * 2 ^ (64 - ZF y) < 18446744073709551616 := by
  have hb := Zcl h0
  have h1 := Zbu hy
  have h2 := bitlen_pos h0
  refine ⟨by omega, ?_⟩
  have hps := Xp (s := 64 - ZF y) (by omega)
  rw [show 64 - (64 - ZF y) = ZF y by omega] at hps
  rw [← hps, Nat.mul_comm]
  exact Nat.mul_lt_mul_of_pos_left hb.2 (Nat.two_pow_pos _)
theorem cr_top {d : List Nat} {s n : Nat} (hs : s < 64) (h : d.getD (n - 1) 0 * 2 ^ s < 18446744073709551616) : cr d s n = 0 := by
  unfold cr
  split
  · rfl
  · refine Nat.div_eq_of_lt ?_
    have hps := Xp (s := s) (by omega)
    rw [← hps, Nat.mul_comm] at h
    exact Nat.lt_of_mul_lt_mul_left h
theorem top2 {ds : List Nat} {n : Nat} (hl : ds.length = n) (hn : 2 ≤ n) (ht : ∀ e ∈ ds, e < 18446744073709551616) : ∃ vl, val W64 ds = (ds.getD (n - 1) 0 * 18446744073709551616 + ds.getD (n - 2) 0) * W64 ^ (n - 2) + vl ∧ vl < W64 ^ (n - 2) := by
  have e2 := YX W64 ds (n - 2) (by omega)
  have d0 : ds.drop (n - 2) = ds.getD (n - 2) 0 :: ds.getD (n - 1) 0 :: ds.drop n := by
    rw [Ym (n := n - 2) (by omega), show n - 2 + 1 = n - 1 by omega, Ym (n := n - 1) (by omega), show n - 1 + 1 = n by omega]
  have d1 : ds.drop n = [] := List.drop_eq_nil_of_le (by omega)
  have hz : val W64 ([] : List Nat) = 0 := rfl
  rw [d0, d1, QM, QM, hz, Nat.mul_zero, Nat.add_zero] at e2
  refine ⟨_, ?_, Zbm (B := W64) (by decide) ht (n - 2) (by omega)⟩
  rw [e2, Nat.mul_comm (W64 ^ (n - 2)), Nat.mul_comm 18446744073709551616, Nat.add_comm (ds.getD (n - 2) 0), Nat.add_comm]
theorem val_top {ds : List Nat} {n : Nat} (hl : ds.length = n) (hn : 1 ≤ n) (ht : ds.getD (n - 1) 0 ≠ 0) : W64 ^ (n - 1) ≤ val W64 ds := by
  have e := YX W64 ds (n - 1) (by omega)
  rw [Ym (n := n - 1) (by omega), QM, Nat.mul_add] at e
  have h1 : W64 ^ (n - 1) * 1 ≤ W64 ^ (n - 1) * ds.getD (n - 1) 0 := Nat.mul_le_mul_left _ (Nat.pos_of_ne_zero ht)
  rw [Nat.mul_one] at h1
  rw [e]
  refine Nat.le_trans h1 ?_
  rw [← Nat.add_assoc]
  exact Nat.le_trans (Nat.le_add_left _ _) (Nat.le_add_right _ _)
theorem top_of_val {ds : List Nat} {n : Nat} (hl : ds.length = n) (hn : 1 ≤ n) (ht : ∀ e ∈ ds, e < 18446744073709551616) (hv : W64 ^ (n - 1) ≤ val W64 ds) : 0 < ds.getD (n - 1) 0 := by
  rcases Nat.eq_zero_or_pos (ds.getD (n - 1) 0) with h | h
  · exfalso
    have e := YX W64 ds (n - 1) (by omega)
    have d1 : ds.drop n = [] := List.drop_eq_nil_of_le (by omega)
    have hz : val W64 ([] : List Nat) = 0 := rfl
    rw [Ym (n := n - 1) (by omega), show n - 1 + 1 = n by omega, d1, QM, hz, h, Nat.mul_zero, Nat.add_zero] at e
    have := Zbm (B := W64) (by decide) ht (n - 1) (by omega)
    rw [← e] at this
    exact absurd hv (Nat.not_le_of_lt this)
  · exact h
theorem long_start {da db vs u0 : List Nat} {s la lb mm : Nat} (hs : s < 64) (hla : da.length = la) (hlb : db.length = lb) (h2 : 2 ≤ lb) (hba : lb ≤ la) (hta : ∀ e ∈ da, e < 18446744073709551616) (hn : db.getD (lb - 1) 0 ≠ 0)
    (hv : val W64 vs = val W64 db * 2 ^ s) (hvl : vs.length = lb) (hvt : ∀ e ∈ vs, e < 18446744073709551616) (hu : val W64 u0 = val W64 da * 2 ^ s) (hul : u0.length = la + 1) (hut : ∀ e ∈ u0, e < 18446744073709551616) (hm : mm + lb = la + 1) :
    XQ (val W64 vs) u0 u0 (List.replicate mm 0) lb mm ∧ val W64 vs < W64 ^ lb ∧ 0 < vs.getD (lb - 1) 0 := by
  have hVn : val W64 vs < W64 ^ lb := by rw [← hvl]; exact Zbz (by decide) vs hvt
  have hVb : W64 ^ (lb - 1) * 2 ^ s ≤ val W64 vs := by rw [hv]; exact Nat.mul_le_mul_right _ (val_top hlb (by omega) hn)
  have hVt : W64 ^ (lb - 1) ≤ val W64 vs := Nat.le_trans (Nat.le_mul_of_pos_right _ (Nat.two_pow_pos s)) hVb
  refine ⟨XQ.start (by omega) hut ?_, hVn, top_of_val hvl (by omega) hvt hVt⟩
  have h1 : val W64 da < W64 ^ la := by rw [← hla]; exact Zbz (by decide) da hta
  have h3 : W64 ^ la = W64 ^ mm * W64 ^ (lb - 1) := by rw [← Nat.pow_add, show mm + (lb - 1) = la by omega]
  rw [hu]
  refine Nat.lt_of_lt_of_le (Nat.mul_lt_mul_of_pos_right h1 (Nat.two_pow_pos s)) ?_
  rw [h3, Nat.mul_assoc]
  exact Nat.mul_le_mul_left _ hVb
theorem guess_or {g T D : Nat} (h1 : g < 18446744073709551616) (h2 : g * D ≤ T) (h3 : T < (g + 1) * D ∨ g = 18446744073709551615) : g < 18446744073709551616 ∧ g * D ≤ T ∧ (T < (g + 1) * D ∨ g + 1 = 18446744073709551616) := ⟨h1, h2, h3.imp_right (by omega)⟩
end Go.Cham
