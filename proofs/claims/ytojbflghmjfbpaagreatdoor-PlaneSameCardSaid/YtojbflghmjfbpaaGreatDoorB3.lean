/- YtojbflghmjfbpaaGreatDoorB3, a part of the proof that the claim's law answers true for every input, made small by program from the texts of this repo's wip/. No condition beyond those that the statements bear. -/
import Derived.Test.YtojbflghmjfbpaaGreatDoorB2
import Derived.Test.YtojbflghmjfbpaaGreatDoorProg
import Derived.KernelRfl
namespace Go.Cham
open Go Go.RowKit Go.Proofs
theorem QG {S : Sh} {w : World} (hS : Ya S w) {x : Nat} (hx : x < 18446744073709551616) : Calls Tryz.prog 162 [.int .u64 ((x : Nat) : Int)].toArray w (Ret S w (fun _ v => v = .int .i64 ((64 - Zw x : Nat) : Int))) := by
 have h := Zc7 hS hx
 have e : (64 - ((Zw x : Nat) : Int)) = ((64 - Zw x : Nat) : Int) := by have := Zdz hx; omega
 rw [e] at h
 exact h
set_option maxRecDepth 20000 in
theorem Zb4 {S : Sh} {w : World} (hS : Ya S w) {h : Nat} {lo : Nat} {y : Nat} (hh : h < y) (hl : lo < 18446744073709551616) (hy : y < 18446744073709551616) : Calls Tryz.prog 161 [(.int .u64 ((h : Nat) : Int)), (.int .u64 ((lo : Nat) : Int)), (.int .u64 ((y : Nat) : Int))].toArray w (Ret S w (fun S v => v = .tuple [.int .u64 ((((h * 18446744073709551616 + lo) / y : Nat) : Int)), .int .u64 ((((h * 18446744073709551616 + lo) % y : Nat) : Int))].toArray)) := by
 refine ZK (n := 135) Tryz.func161 rfl rfl ?_
 intro ac0 L0
 replace L0 : Zt ac0 135 [(0, (.int .u64 (h : Int))), (1, (.int .u64 (lo : Int))), (2, (.int .u64 (y : Int)))] := L0
 have R0 : Run S w S [] w := .start hS
 have hbl := Zdz hy
 refine wp_seq (Za (sa L0 rfl ?_))
 intro _ L1
 refine sa L1 rfl fun _ L2 => sn (wp_seq (wp_seq (Za (sm L2 rfl fun _ L3 => ?_))))
 have t1 : ¬ ((y : Int) = (0 : Int)) := by omega
 refine so L3 rfl (bF t1 (fun _ => ZZ L3 rfl rfl) fun _ L4 => sn (Zm L4 rfl rfl (wp_skip ((Zc (wp_seq (wp_seq (Za (sm L4 rfl fun _ L5 => sm L5 rfl fun _ L6 => ?_)))))))))
 have t2 : ¬ ((y : Int) ≤ (h : Int)) := by omega
 refine so L6 rfl (bF t2 (fun _ => Zaj L6 rfl rfl) fun _ L7 => sn (Zm L7 rfl rfl (wp_skip ((Zc (wp_seq (wp_seq (Za (sm L7 rfl fun _ L8 => ?_)))))))))
 by_cases t3 : (h : Int) = (0 : Int)
 ·refine so L8 rfl (bT t3 (fun _ => ZZ L8 rfl rfl) fun _ L9 => ?_)
  have L10 := (L9.kp [0, 1, 2, 6, 7, 27] rfl); clear L9
  refine sn (Zp L10 rfl rfl (wp_seq ?_))
  have L11 := (L10.kp [0, 1, 2, 7] rfl)
  refine Zu (E0 := []) (H0 := []) (n := 135) mixed 7 [] (fun k => 0) (Zce [
    .is (.int .u64 (lo : Int)),
    .is (.int .u64 (y : Int)),
    .is (.int .u64 ((lo : Int) / (y : Int))),
    .is (.int .u64 (lo : Int)),
    .is (.int .u64 (y : Int)),
    .is (.int .u64 ((lo : Int) % (y : Int))),
    .is (.int .u64 ((lo : Int) / (y : Int)))]) L11 R0 (by simp) (by simp) (by rfl) (by rfl) (by simp) (ZU ?_) ?_
  ·refine (And.intro ?_ (And.intro ?_ (And.intro ?_ (And.intro ?_ (And.intro ?_ (And.intro ?_ (And.intro ?_ trivial)))))))
   ·exact Zb rfl (fun _ _ _ _ _ A1 => (Zh A1.live rfl (A1.same rfl)))
   ·exact Zb rfl (fun _ _ _ _ _ A2 => (Zh A2.live rfl (A2.same rfl)))
   ·refine Zb rfl (fun _ _ _ _ _ A3 => ?_)
    obtain ⟨_, e1, rfl⟩ := A3.known 0 rfl
    obtain ⟨_, e2, rfl⟩ := A3.known 1 rfl
    exact Zc2 (z := ((lo : Int) / (y : Int))) ((A3.live.add e1).add e2) rfl rfl (by omega) (quo_nn (k := .u64) (by omega) (by omega) (show _ ≤ (18446744073709551615 : Int) by omega)) (A3.same rfl)
   ·exact Zb rfl (fun _ _ _ _ _ A4 => (Zh A4.live rfl (A4.same rfl)))
   ·exact Zb rfl (fun _ _ _ _ _ A5 => (Zh A5.live rfl (A5.same rfl)))
   ·refine Zb rfl (fun _ _ _ _ _ A6 => ?_)
    obtain ⟨_, e3, rfl⟩ := A6.known 3 rfl
    obtain ⟨_, e4, rfl⟩ := A6.known 4 rfl
    exact Zc1 (z := ((lo : Int) % (y : Int))) ((A6.live.add e3).add e4) rfl rfl (by omega) (rem_nn (by omega)) (A6.same rfl)
   ·refine Zb rfl (fun _ _ _ _ _ A7 => ?_)
    obtain ⟨_, e5, rfl⟩ := A7.known 2 rfl
    exact XL (A7.live.add e5) rfl (A7.same rfl)
  ·intro S8 _ _ w8 l1 E1 R1 n1 L19 K1
   obtain ⟨_, e6, rfl⟩ := K1 5 (by decide)
   have L20 := L19.add e6; clear L19
   obtain ⟨_, e7, rfl⟩ := K1 6 (by decide)
   have L21 := L20.add e7; clear L20
   have R2 : Run _ _ S8 [] w8 := Yh R1 n1 [] (by simp) (by simp)
   exact sa L21 rfl fun _ L22 => sn (wp_ret ((Zy (Zo (rs := Tryz.f161.results.toList) L22 rfl (.tmp rfl (.tmp rfl Res.nil)) (⟨_, _, rfl, R2.ext, (by exact int_eq2 (by rw [show h = 0 by omega, Nat.zero_mul, Nat.zero_add]; simp) (by rw [show h = 0 by omega, Nat.zero_mul, Nat.zero_add]; simp))⟩)))))
 ·refine so L8 rfl (bF t3 (fun _ => ZZ L8 rfl rfl) fun _ L23 => ?_)
  have L24 := (L23.kp [0, 1, 2, 6, 7, 27] rfl); clear L23
  refine sn (Zm L24 rfl rfl (wp_skip ((Zc (wp_seq (Za (sm L24 rfl ?_)))))))
  intro _ L25
  refine so L25 rfl (Zl L25 rfl ent_162 (QG R0.holds (x := y) (hy)) fun v_1 S9 _ x1 v1 => ?_)
  have R3 := R0.call x1
  obtain rfl := v1
  intro _ L26
  refine so L26 rfl (XR (z := (((64 - Zw y : Nat) : Int))) L26 rfl rfl Tryz.underlying194 (IntWalk.u64_in _ (by omega)) fun _ L27 => sa L27 rfl fun _ L28 => sn (wp_seq (Za (sm L28 rfl fun _ L29 => sm L29 rfl fun _ L30 => so L30 rfl (Za0 (i := y) (s := ((64 - Zw y))) L30 rfl rfl (by omega) fun _ L31 => ?_)))))
  refine sa L31 rfl fun _ L32 => ?_
  have L33 := (L32.kp [0, 1, 2, 6, 7, 8] rfl); clear L32
  refine sn (wp_seq (Za (sm L33 rfl ?_)))
  intro _ L34
  refine so L34 rfl (Qh (i := (y * 2 ^ ((64 - Zw y)) % 18446744073709551616)) (s := 32) L34 rfl rfl (by omega) fun _ L35 => sa L35 rfl fun _ L36 => sn (wp_seq (Za (sm L36 rfl fun _ L37 => so L37 rfl (does_and32 (i := (y * 2 ^ ((64 - Zw y)) % 18446744073709551616)) L37 rfl rfl (by omega) fun _ L38 => sa L38 rfl fun _ L39 => ?_)))))
  refine sn (wp_seq (Za (sm L39 rfl ?_)))
  intro _ L40
  refine sm L40 rfl fun _ L41 => so L41 rfl (Za0 (i := h) (s := ((64 - Zw y))) L41 rfl rfl (by omega) fun _ L42 => sm L42 rfl fun _ L43 => sm L43 rfl fun _ L44 => so L44 rfl (ZR (z := ((64 - (64 - Zw y) : Nat) : Int)) L44 rfl rfl (u64_to (by omega) (by omega)) fun _ L45 => so L45 rfl (Qh (i := lo) (s := (64 - (64 - Zw y))) L45 rfl rfl (by omega) fun _ L46 => so L46 rfl (Zep (i := (h * 2 ^ ((64 - Zw y)) % 18446744073709551616)) (j := (lo / 2 ^ (64 - (64 - Zw y)))) (z := (h * 2 ^ ((64 - Zw y)) % 18446744073709551616) ||| (lo / 2 ^ (64 - (64 - Zw y)))) L46 rfl rfl (by omega) (by exact Nat.lt_of_le_of_lt (Nat.div_le_self _ _) hl) rfl fun _ L47 => ?_))))
  refine sa L47 rfl fun _ L48 => ?_
  have L49 := (L48.kp [1, 2, 6, 7, 8, 9, 10, 11] rfl); clear L48
  refine sn (wp_seq (Za (sm L49 rfl ?_)))
  intro _ L50
  refine sm L50 rfl fun _ L51 => so L51 rfl (Za0 (i := lo) (s := ((64 - Zw y))) L51 rfl rfl (by omega) fun _ L52 => sa L52 rfl fun _ L53 => sn (wp_seq (Za (sm L53 rfl fun _ L54 => so L54 rfl (Qh (i := (lo * 2 ^ ((64 - Zw y)) % 18446744073709551616)) (s := 32) L54 rfl rfl (by omega) fun _ L55 => ?_)))))
  refine sa L55 rfl fun _ L56 => ?_
  have L57 := (L56.kp [2, 6, 7, 8, 9, 10, 11, 12, 13] rfl); clear L56
  refine sn ?_
  refine Qp (fun ac ww => ∃ (S' : Sh) (Y : Nat) (s : Nat) (v : Nat) (wl : Nat) (u : Nat) (z1 : Nat) (z0 : Nat), S9.le S' ∧ Zt ac 135 [(6, (.int .u64 (0 : Int))), (7, (.int .u64 (0 : Int))), (2, (.int .u64 ((Y : Nat) : Int))), (8, (.int .u64 ((s : Nat) : Int))), (9, (.int .u64 ((v : Nat) : Int))), (10, (.int .u64 ((wl : Nat) : Int))), (11, (.int .u64 ((u : Nat) : Int))), (13, (.int .u64 ((z1 : Nat) : Int))), (14, (.int .u64 ((z0 : Nat) : Int)))] ∧ Run S w S' [] ww ∧ (Norm h lo y s Y v wl u z1 z0)) ?_ ?_
  ·rintro ac1 _ ⟨S10, Y, s, v, wl, u, z1, z0, l3, L58, R4, N⟩
   have hs := N.hs; have hY2 := N.hY2; have hvw := N.hv; have hw := N.hw; have hv2 := N.hv2; have hz_z1 := N.hz1; have hz_z0 := N.hz0; have hu2 := N.hu2
   have hu_u : u < v * 4294967296 + wl := by omega
   refine Qp (fun ac ww => ∃ (S' : Sh) (qa : Nat), S10.le S' ∧ Zt ac 135 [(6, (.int .u64 (0 : Int))), (7, (.int .u64 (0 : Int))), (2, (.int .u64 ((Y : Nat) : Int))), (8, (.int .u64 ((s : Nat) : Int))), (9, (.int .u64 ((v : Nat) : Int))), (10, (.int .u64 ((wl : Nat) : Int))), (11, (.int .u64 ((u : Nat) : Int))), (13, (.int .u64 ((z1 : Nat) : Int))), (14, (.int .u64 ((z0 : Nat) : Int))), (15, (.int .u64 ((qa : Nat) : Int)))] ∧ Run S w S' [] ww ∧ (qa = u / v)) ?_ ?_
   ·rintro ac2 _ ⟨S11, qa, l4, L59, R5, hqa0⟩
    obtain ⟨hqa3, hqa4⟩ := mod_hint hqa0 (by omega)
    refine Qp (fun ac ww => ∃ (S' : Sh) (qa' : Nat) (ra' : Nat), S11.le S' ∧ Zt ac 135 [(6, (.int .u64 (0 : Int))), (7, (.int .u64 (0 : Int))), (2, (.int .u64 ((Y : Nat) : Int))), (8, (.int .u64 ((s : Nat) : Int))), (9, (.int .u64 ((v : Nat) : Int))), (10, (.int .u64 ((wl : Nat) : Int))), (11, (.int .u64 ((u : Nat) : Int))), (13, (.int .u64 ((z1 : Nat) : Int))), (14, (.int .u64 ((z0 : Nat) : Int))), (15, (.int .u64 ((qa' : Nat) : Int))), (16, (.int .u64 ((ra' : Nat) : Int)))] ∧ Run S w S' [] ww ∧ (qa' * v + ra' = u) ∧ (ra' < v)) ?_ ?_
    ·rintro ac3 _ ⟨S12, qa', ra', l5, L60, R6, hqa'1, hqa'2⟩
     refine Qp (fun ac ww => ∃ (S' : Sh) (qb : Nat), S12.le S' ∧ Zt ac 135 [(6, (.int .u64 (0 : Int))), (7, (.int .u64 (0 : Int))), (2, (.int .u64 ((Y : Nat) : Int))), (8, (.int .u64 ((s : Nat) : Int))), (9, (.int .u64 ((v : Nat) : Int))), (10, (.int .u64 ((wl : Nat) : Int))), (11, (.int .u64 ((u : Nat) : Int))), (13, (.int .u64 ((z1 : Nat) : Int))), (14, (.int .u64 ((z0 : Nat) : Int))), (15, (.int .u64 ((qb : Nat) : Int)))] ∧ Run S w S' [] ww ∧ (qb * (v * 4294967296 + wl) ≤ u * 4294967296 + z1) ∧ (u * 4294967296 + z1 < (qb + 1) * (v * 4294967296 + wl))) ?_ ?_
     ·rintro ac4 _ ⟨S13, qb, l6, L61, R7, hqb1, hqb2⟩
      rw [← hvw] at hqb1 hqb2
      have hqb5 := dq_lt hqb1 hz_z1 (by omega)
      rw [Nat.add_mul, Nat.one_mul] at hqb2
      refine Qp (fun ac ww => ∃ (S' : Sh) (ub : Nat), S13.le S' ∧ Zt ac 135 [(6, (.int .u64 (0 : Int))), (7, (.int .u64 (0 : Int))), (2, (.int .u64 ((Y : Nat) : Int))), (8, (.int .u64 ((s : Nat) : Int))), (9, (.int .u64 ((v : Nat) : Int))), (10, (.int .u64 ((wl : Nat) : Int))), (14, (.int .u64 ((z0 : Nat) : Int))), (15, (.int .u64 ((qb : Nat) : Int))), (17, (.int .u64 ((ub : Nat) : Int)))] ∧ Run S w S' [] ww ∧ (ub + qb * Y = u * 4294967296 + z1)) ?_ ?_
      ·rintro ac5 _ ⟨S14, ub, l7, L62, R8, hub⟩
       have hubY : ub < Y := by omega
       have hu_ub : ub < v * 4294967296 + wl := by omega
       refine Qp (fun ac ww => ∃ (S' : Sh) (qc : Nat), S14.le S' ∧ Zt ac 135 [(6, (.int .u64 (0 : Int))), (7, (.int .u64 (0 : Int))), (2, (.int .u64 ((Y : Nat) : Int))), (8, (.int .u64 ((s : Nat) : Int))), (9, (.int .u64 ((v : Nat) : Int))), (10, (.int .u64 ((wl : Nat) : Int))), (14, (.int .u64 ((z0 : Nat) : Int))), (15, (.int .u64 ((qb : Nat) : Int))), (17, (.int .u64 ((ub : Nat) : Int))), (18, (.int .u64 ((qc : Nat) : Int)))] ∧ Run S w S' [] ww ∧ (qc = ub / v)) ?_ ?_
       ·rintro ac6 _ ⟨S15, qc, l8, L63, R9, hqc0⟩
        obtain ⟨hqc3, hqc4⟩ := mod_hint hqc0 (by omega)
        refine Qp (fun ac ww => ∃ (S' : Sh) (qc' : Nat) (rc' : Nat), S15.le S' ∧ Zt ac 135 [(6, (.int .u64 (0 : Int))), (7, (.int .u64 (0 : Int))), (2, (.int .u64 ((Y : Nat) : Int))), (8, (.int .u64 ((s : Nat) : Int))), (9, (.int .u64 ((v : Nat) : Int))), (10, (.int .u64 ((wl : Nat) : Int))), (14, (.int .u64 ((z0 : Nat) : Int))), (15, (.int .u64 ((qb : Nat) : Int))), (17, (.int .u64 ((ub : Nat) : Int))), (18, (.int .u64 ((qc' : Nat) : Int))), (16, (.int .u64 ((rc' : Nat) : Int)))] ∧ Run S w S' [] ww ∧ (qc' * v + rc' = ub) ∧ (rc' < v)) ?_ ?_
        ·rintro ac7 _ ⟨S16, qc', rc', l9, L64, R10, hqc'1, hqc'2⟩
         refine Qp (fun ac ww => ∃ (S' : Sh) (qd : Nat), S16.le S' ∧ Zt ac 135 [(6, (.int .u64 (0 : Int))), (7, (.int .u64 (0 : Int))), (2, (.int .u64 ((Y : Nat) : Int))), (8, (.int .u64 ((s : Nat) : Int))), (14, (.int .u64 ((z0 : Nat) : Int))), (15, (.int .u64 ((qb : Nat) : Int))), (17, (.int .u64 ((ub : Nat) : Int))), (18, (.int .u64 ((qd : Nat) : Int)))] ∧ Run S w S' [] ww ∧ (qd * (v * 4294967296 + wl) ≤ ub * 4294967296 + z0) ∧ (ub * 4294967296 + z0 < (qd + 1) * (v * 4294967296 + wl))) ?_ ?_
         ·rintro ac8 _ ⟨_, qd, l10, L65, R11, hqd1, hqd2⟩
          rw [← hvw] at hqd1 hqd2
          have hqd5 := dq_lt hqd1 hz_z0 (by omega)
          rw [Nat.add_mul, Nat.one_mul] at hqd2
          refine wp_seq (Za (sm L65 rfl ?_))
          intro _ L66
          refine so L66 rfl (Xx (z := ((qb : Int) * (4294967296 : Int))) L66 rfl rfl (IntWalk.u64_in _ (by omega)) fun _ L67 => sm L67 rfl fun _ L68 => so L68 rfl (ZJ (z := (((qb : Int) * (4294967296 : Int)) + (qd : Int))) L68 rfl rfl (IntWalk.u64_in _ (by omega)) fun _ L69 => sm L69 rfl fun _ L70 => so L70 rfl (Xx (z := ((ub * 4294967296 % 18446744073709551616 : Nat) : Int)) L70 rfl rfl (Zd9 (x := ub) (y := 4294967296)) fun _ L71 => sm L71 rfl fun _ L72 => so L72 rfl (ZJ (z := ((((ub * 4294967296 % 18446744073709551616) + z0) % 18446744073709551616 : Nat) : Int)) L72 rfl rfl (u64_wrapA (x := (ub * 4294967296 % 18446744073709551616)) (y := z0)) fun _ L73 => ?_))))
          refine sm L73 rfl fun _ L74 => sm L74 rfl fun _ L75 => so L75 rfl (Xx (z := ((qd * Y % 18446744073709551616 : Nat) : Int)) L75 rfl rfl (Zd9 (x := qd) (y := Y)) fun _ L76 => so L76 rfl (ZR (z := ((((((ub * 4294967296 % 18446744073709551616) + z0) % 18446744073709551616) + 18446744073709551616 - (qd * Y % 18446744073709551616)) % 18446744073709551616 : Nat) : Int)) L76 rfl rfl (u64_wrapS (x := (((ub * 4294967296 % 18446744073709551616) + z0) % 18446744073709551616)) (y := (qd * Y % 18446744073709551616)) (by omega)) fun _ L77 => sm L77 rfl fun _ L78 => so L78 rfl (Qh (i := (((((ub * 4294967296 % 18446744073709551616) + z0) % 18446744073709551616) + 18446744073709551616 - (qd * Y % 18446744073709551616)) % 18446744073709551616)) (s := s) L78 rfl rfl (by omega) fun _ L79 => sa L79 rfl fun _ L80 => ?_)))
          refine sa L80 rfl fun _ L81 => sn (wp_ret ((Zo (rs := Tryz.f161.results.toList) (L81.kp [6, 7] rfl) rfl (.tmp rfl (.tmp rfl Res.nil)) ?_)))
          have hub0 := norm_u21 hqd1 hqd2 (by omega)
          obtain ⟨hq_, hr_⟩ := div64_done N hub hub0 (by omega) (by omega)
          exact ⟨_, _, rfl, R11.ext, (by rw [← hq_, ← hr_]; exact int_eq2 (by omega) rfl)⟩
         ·skip
          refine wp_block ?_
          refine Yb (fun m ac ww => ∃ (S' : Sh) (q2 : Nat) (r2 : Nat), S16.le S' ∧ Zt ac 135 [(6, (.int .u64 (0 : Int))), (7, (.int .u64 (0 : Int))), (2, (.int .u64 ((Y : Nat) : Int))), (8, (.int .u64 ((s : Nat) : Int))), (9, (.int .u64 ((v : Nat) : Int))), (10, (.int .u64 ((wl : Nat) : Int))), (14, (.int .u64 ((z0 : Nat) : Int))), (15, (.int .u64 ((qb : Nat) : Int))), (17, (.int .u64 ((ub : Nat) : Int))), (18, (.int .u64 ((q2 : Nat) : Int))), (16, (.int .u64 ((r2 : Nat) : Int)))] ∧ Run S w S' [] ww ∧ (q2 * v + r2 = ub) ∧ (r2 < 4294967296) ∧ (ub * 4294967296 + z0 < (q2 + 1) * (v * 4294967296 + wl)) ∧ (q2 ≤ 4294967297) ∧ m = q2)
           (qc') ⟨S16, qc', rc', Sh.le.refl _, (L64.kp [16, 18, 17, 15, 14, 10, 9, 8, 2, 7, 6] rfl), R10, (by exact hqc'1), (by omega), (by exact dq_init hqc'1 hqc'2 hz_z0), (by exact dq_small hqc'1 hu_ub hw hv2), rfl⟩ ?_
          rintro m_1 ac9 _ ⟨S18, q2, r2, l11, L83, R12, hE, hEr, hEu, hEk, m1⟩
          refine wp_seq (wp_seq ?_)
          have hqw : q2 < 4294967296 → q2 * wl ≤ 4294967295 * 4294967295 := fun h => Nat.mul_le_mul (by omega) (by omega)
          refine Za (sm L83 rfl ?_)
          intro _ L84
          by_cases t4 : (4294967296 : Int) ≤ (q2 : Int)
          ·refine so L84 rfl (bT t4 (fun _ => YL L84 rfl rfl) fun _ L85 => sm L85 rfl fun _ L86 => sof L86 rfl fun _ L87 => sof L87 rfl fun _ L88 => sof L88 rfl fun _ L89 => sof L89 rfl fun _ L90 => sof L90 rfl fun _ L91 => ?_)
           refine sof L91 rfl fun _ L92 => sof L92 rfl fun _ L93 => sof L93 rfl fun _ L94 => so L94 rfl (Zj L94 rfl rfl fun _ L95 => ?_)
           have L96 := (L95.kp [6, 7, 2, 8, 9, 10, 14, 15, 17, 18, 16, 102, 103, 104, 113] rfl); clear L95
           refine sn (Zp L96 rfl rfl (wp_skip ((Zc (wp_block (wp_seq ?_))))))
           have hor : 4294967296 ≤ q2 ∨ r2 * 4294967296 + z0 < q2 * wl := by omega
           obtain ⟨hE0, hE', hEu'⟩ := dq_step hE hz_z0 hu_ub hor
           refine Za (sm L96 rfl ?_)
           intro _ L97
           refine so L97 rfl (ZR (z := ((q2 : Int) - (1 : Int))) L97 rfl rfl (IntWalk.u64_in _ (by omega)) fun _ L98 => sa L98 rfl fun _ L99 => sn (wp_seq (Za (sm L99 rfl fun _ L100 => sm L100 rfl fun _ L101 => so L101 rfl (ZJ (z := ((r2 : Int) + (v : Int))) L101 rfl rfl (IntWalk.u64_in _ (by omega)) fun _ L102 => ?_)))))
           refine sa L102 rfl fun _ L103 => sn (wp_seq (Za (sm L103 rfl fun _ L104 => ?_)))
           by_cases t5 : (4294967296 : Int) ≤ ((r2 : Int) + (v : Int))
           ·refine so L104 rfl (bT t5 (fun _ => YL L104 rfl rfl) fun a86 L105 => sn (Zp L105 rfl rfl (wp_exit ((in_miss rfl (Zz (YR (Zc ?_))))))))
            have e8 : (((q2 : Int) - (1 : Int)) : Int) = (((q2 - 1) : Nat) : Int) := by first | omega | simp
            have L106 : Zt a86 135 [(18, (.int .u64 (((q2 - 1) : Nat) : Int)))] := by have q := (L105.kp [18] rfl); rw [e8] at q; exact q
            exact ⟨S18, (q2 - 1), l11, (L105.keep (L105.keep (L105.keep (L105.keep (L105.keep (L105.keep (L105.keep (L106.keep (Zt.none _ L105) (t := 18) rfl) (t := 17) rfl) (t := 15) rfl) (t := 14) rfl) (t := 8) rfl) (t := 2) rfl) (t := 7) rfl) (t := 6) rfl), R12, (by first | exact XU hE' hw (by omega) (by omega) | exact QZ hE (by omega)), (by first | exact hEu' | exact hEu)⟩
           ·refine so L104 rfl (bF t5 (fun _ => YL L104 rfl rfl) fun a87 L107 => sn (Zm L107 rfl rfl (wp_skip ((ZI (Zc ?_))))))
            have e9 : (((q2 : Int) - (1 : Int)) : Int) = (((q2 - 1) : Nat) : Int) := by first | omega | simp
            have L108 : Zt a87 135 [(18, (.int .u64 (((q2 - 1) : Nat) : Int)))] := by have q := (L107.kp [18] rfl); rw [e9] at q; exact q
            have e10 : (((r2 : Int) + (v : Int)) : Int) = (((r2 + v) : Nat) : Int) := by first | omega | simp
            have L109 : Zt a87 135 [(16, (.int .u64 (((r2 + v) : Nat) : Int)))] := by have q := (L107.kp [16] rfl); rw [e10] at q; exact q
            exact ⟨(q2 - 1), (by omega), S18, (q2 - 1), (r2 + v), l11, (L107.keep (L107.keep (L107.keep (L107.keep (L107.keep (L107.keep (L107.keep (L107.keep (L107.keep (L108.keep (L109.keep (Zt.none _ L107) (t := 16) rfl) (t := 18) rfl) (t := 17) rfl) (t := 15) rfl) (t := 14) rfl) (t := 10) rfl) (t := 9) rfl) (t := 8) rfl) (t := 2) rfl) (t := 7) rfl) (t := 6) rfl), R12, (by exact hE'), (by omega), (by exact hEu'), (by omega), rfl⟩
          ·refine so L84 rfl (bF t4 (fun _ => YL L84 rfl rfl) fun _ L110 => sm L110 rfl fun _ L111 => son L111 rfl (Zh L111 rfl fun _ L112 => son L112 rfl (Zh L112 rfl fun _ L113 => son L113 rfl (Xx (z := ((q2 : Int) * (wl : Int))) L113 rfl rfl (IntWalk.u64_in _ (by omega)) fun _ L114 => son L114 rfl (Zh L114 rfl fun _ L115 => son L115 rfl (Xx (z := ((4294967296 : Int) * (r2 : Int))) L115 rfl rfl (IntWalk.u64_in _ (by omega)) fun _ L116 => ?_))))))
           refine son L116 rfl (Zh L116 rfl fun _ L117 => son L117 rfl (ZJ (z := (((4294967296 : Int) * (r2 : Int)) + (z0 : Int))) L117 rfl rfl (IntWalk.u64_in _ (by omega)) fun _ L118 => ?_))
           by_cases t6 : (((4294967296 : Int) * (r2 : Int)) + (z0 : Int)) < ((q2 : Int) * (wl : Int))
           ·refine son L118 rfl (bT t6 (fun _ => ZS L118 rfl rfl) fun _ L119 => so L119 rfl (Zj L119 rfl rfl fun _ L120 => sn (Zp L120 rfl rfl (wp_skip ((Zc (wp_block (wp_seq ?_))))))))
            have hor : 4294967296 ≤ q2 ∨ r2 * 4294967296 + z0 < q2 * wl := by omega
            obtain ⟨hE0, hE', hEu'⟩ := dq_step hE hz_z0 hu_ub hor
            refine Za (sm L120 rfl ?_)
            intro _ L121
            refine so L121 rfl (ZR (z := ((q2 : Int) - (1 : Int))) L121 rfl rfl (IntWalk.u64_in _ (by omega)) fun _ L122 => sa L122 rfl fun _ L123 => sn (wp_seq (Za (sm L123 rfl fun _ L124 => sm L124 rfl fun _ L125 => so L125 rfl (ZJ (z := ((r2 : Int) + (v : Int))) L125 rfl rfl (IntWalk.u64_in _ (by omega)) fun _ L126 => ?_)))))
            refine sa L126 rfl fun _ L127 => sn (wp_seq (Za (sm L127 rfl fun _ L128 => ?_)))
            by_cases t7 : (4294967296 : Int) ≤ ((r2 : Int) + (v : Int))
            ·refine so L128 rfl (bT t7 (fun _ => YL L128 rfl rfl) fun a107 L129 => sn (Zp L129 rfl rfl (wp_exit ((in_miss rfl (Zz (YR (Zc ?_))))))))
             have e11 : (((q2 : Int) - (1 : Int)) : Int) = (((q2 - 1) : Nat) : Int) := by first | omega | simp
             have L130 : Zt a107 135 [(18, (.int .u64 (((q2 - 1) : Nat) : Int)))] := by have q := (L129.kp [18] rfl); rw [e11] at q; exact q
             exact ⟨S18, (q2 - 1), l11, (L129.keep (L129.keep (L129.keep (L129.keep (L129.keep (L129.keep (L129.keep (L130.keep (Zt.none _ L129) (t := 18) rfl) (t := 17) rfl) (t := 15) rfl) (t := 14) rfl) (t := 8) rfl) (t := 2) rfl) (t := 7) rfl) (t := 6) rfl), R12, (by first | exact XU hE' hw (by omega) (by omega) | exact QZ hE (by omega)), (by first | exact hEu' | exact hEu)⟩
            ·refine so L128 rfl (bF t7 (fun _ => YL L128 rfl rfl) fun a108 L131 => sn (Zm L131 rfl rfl (wp_skip ((ZI (Zc ?_))))))
             have e12 : (((q2 : Int) - (1 : Int)) : Int) = (((q2 - 1) : Nat) : Int) := by first | omega | simp
             have L132 : Zt a108 135 [(18, (.int .u64 (((q2 - 1) : Nat) : Int)))] := by have q := (L131.kp [18] rfl); rw [e12] at q; exact q
             have e13 : (((r2 : Int) + (v : Int)) : Int) = (((r2 + v) : Nat) : Int) := by first | omega | simp
             have L133 : Zt a108 135 [(16, (.int .u64 (((r2 + v) : Nat) : Int)))] := by have q := (L131.kp [16] rfl); rw [e13] at q; exact q
             exact ⟨(q2 - 1), (by omega), S18, (q2 - 1), (r2 + v), l11, (L131.keep (L131.keep (L131.keep (L131.keep (L131.keep (L131.keep (L131.keep (L131.keep (L131.keep (L132.keep (L133.keep (Zt.none _ L131) (t := 16) rfl) (t := 18) rfl) (t := 17) rfl) (t := 15) rfl) (t := 14) rfl) (t := 10) rfl) (t := 9) rfl) (t := 8) rfl) (t := 2) rfl) (t := 7) rfl) (t := 6) rfl), R12, (by exact hE'), (by omega), (by exact hEu'), (by omega), rfl⟩
           ·exact son L118 rfl (bF t6 (fun _ => ZS L118 rfl rfl) fun _ L134 => so L134 rfl (Zj L134 rfl rfl fun _ L135 => sn (Zm L135 rfl rfl (wp_exit ((Zz (Zz (YR (Zc (⟨S18, q2, l11, (L135.kp [18, 17, 15, 14, 8, 2, 7, 6] rfl), R12, (by first | exact XU hE' hw (by omega) (by omega) | exact QZ hE (by omega)), (by first | exact hEu' | exact hEu)⟩))))))))))
        ·skip
         refine Za (sm L63 rfl ?_)
         intro _ L136
         refine sm L136 rfl fun _ L137 => sm L137 rfl fun _ L138 => so L138 rfl (Xx (z := ((qc : Int) * (v : Int))) L138 rfl rfl (IntWalk.u64_in _ (by omega)) fun _ L139 => so L139 rfl (ZR (z := ((ub : Int) - ((qc : Int) * (v : Int)))) L139 rfl rfl (IntWalk.u64_in _ (by omega)) fun _ L140 => sa L140 rfl fun a116 L141 => ?_))
         have L142 := (L141.kp [6, 7, 2, 8, 9, 10, 14, 15, 17, 18, 16] rfl); clear L141
         refine sn ?_
         have e14 : (((ub : Int) - ((qc : Int) * (v : Int))) : Int) = (((ub - (qc * v)) : Nat) : Int) := by first | omega | simp
         have L143 : Zt a116 135 [(16, (.int .u64 (((ub - (qc * v)) : Nat) : Int)))] := by have q := (L142.kp [16] rfl); rw [e14] at q; exact q
         exact ⟨S15, qc, (ub - (qc * v)), Sh.le.refl _, (L142.keep (L142.keep (L142.keep (L142.keep (L142.keep (L142.keep (L142.keep (L142.keep (L142.keep (L142.keep (L143.keep (Zt.none _ L142) (t := 16) rfl) (t := 18) rfl) (t := 17) rfl) (t := 15) rfl) (t := 14) rfl) (t := 10) rfl) (t := 9) rfl) (t := 8) rfl) (t := 2) rfl) (t := 7) rfl) (t := 6) rfl), R9, (by omega), (by omega)⟩
       ·skip
        refine Za (sm L62 rfl ?_)
        intro _ L144
        refine sm L144 rfl fun _ L145 => so L145 rfl (Zc2 (z := ((ub : Int) / (v : Int))) L145 rfl rfl (by omega) (quo_nn (k := .u64) (by omega) (by omega) (show _ ≤ (18446744073709551615 : Int) by omega)) fun _ L146 => sa L146 rfl fun a120 L147 => sn ?_)
        have e15 : (((ub : Int) / (v : Int)) : Int) = (((ub / v) : Nat) : Int) := by first | omega | simp
        have L148 : Zt a120 135 [(18, (.int .u64 (((ub / v) : Nat) : Int)))] := by have q := (L147.kp [18] rfl); rw [e15] at q; exact q
        exact ⟨S14, (ub / v), Sh.le.refl _, (L147.keep (L147.keep (L147.keep (L147.keep (L147.keep (L147.keep (L147.keep (L147.keep (L147.keep (L148.keep (Zt.none _ L147) (t := 18) rfl) (t := 17) rfl) (t := 15) rfl) (t := 14) rfl) (t := 10) rfl) (t := 9) rfl) (t := 8) rfl) (t := 2) rfl) (t := 7) rfl) (t := 6) rfl), R8, (by rfl)⟩
      ·skip
       refine Za (sm L61 rfl ?_)
       intro _ L149
       refine so L149 rfl (Xx (z := ((u * 4294967296 % 18446744073709551616 : Nat) : Int)) L149 rfl rfl (Zd9 (x := u) (y := 4294967296)) fun _ L150 => sm L150 rfl fun _ L151 => so L151 rfl (ZJ (z := ((((u * 4294967296 % 18446744073709551616) + z1) % 18446744073709551616 : Nat) : Int)) L151 rfl rfl (u64_wrapA (x := (u * 4294967296 % 18446744073709551616)) (y := z1)) fun _ L152 => sm L152 rfl fun _ L153 => sm L153 rfl fun _ L154 => so L154 rfl (Xx (z := ((qb * Y % 18446744073709551616 : Nat) : Int)) L154 rfl rfl (Zd9 (x := qb) (y := Y)) fun _ L155 => so L155 rfl (ZR (z := ((((((u * 4294967296 % 18446744073709551616) + z1) % 18446744073709551616) + 18446744073709551616 - (qb * Y % 18446744073709551616)) % 18446744073709551616 : Nat) : Int)) L155 rfl rfl (u64_wrapS (x := (((u * 4294967296 % 18446744073709551616) + z1) % 18446744073709551616)) (y := (qb * Y % 18446744073709551616)) (by omega)) fun _ L156 => ?_))))
       refine sa L156 rfl fun a129 L157 => ?_
       have L158 := (L157.kp [6, 7, 2, 8, 9, 10, 14, 15, 17] rfl); clear L157
       refine sn ?_
       have e16 : (((((((u * 4294967296 % 18446744073709551616) + z1) % 18446744073709551616) + 18446744073709551616 - (qb * Y % 18446744073709551616)) % 18446744073709551616 : Nat) : Int) : Int) = (((((((u * 4294967296 % 18446744073709551616) + z1) % 18446744073709551616) + 18446744073709551616 - (qb * Y % 18446744073709551616)) % 18446744073709551616) : Nat) : Int) := by first | omega | simp
       have L159 : Zt a129 135 [(17, (.int .u64 (((((((u * 4294967296 % 18446744073709551616) + z1) % 18446744073709551616) + 18446744073709551616 - (qb * Y % 18446744073709551616)) % 18446744073709551616) : Nat) : Int)))] := by have q := (L158.kp [17] rfl); rw [e16] at q; exact q
       exact ⟨S13, (((((u * 4294967296 % 18446744073709551616) + z1) % 18446744073709551616) + 18446744073709551616 - (qb * Y % 18446744073709551616)) % 18446744073709551616), Sh.le.refl _, (L158.keep (L158.keep (L158.keep (L158.keep (L158.keep (L158.keep (L158.keep (L158.keep (L159.keep (Zt.none _ L158) (t := 17) rfl) (t := 15) rfl) (t := 14) rfl) (t := 10) rfl) (t := 9) rfl) (t := 8) rfl) (t := 2) rfl) (t := 7) rfl) (t := 6) rfl), R7, (by exact norm_u21 hqb1 hqb2 (by omega))⟩
     ·skip
      refine wp_block ?_
      refine Yb (fun m ac ww => ∃ (S' : Sh) (q1 : Nat) (r1 : Nat), S12.le S' ∧ Zt ac 135 [(6, (.int .u64 (0 : Int))), (7, (.int .u64 (0 : Int))), (2, (.int .u64 ((Y : Nat) : Int))), (8, (.int .u64 ((s : Nat) : Int))), (9, (.int .u64 ((v : Nat) : Int))), (10, (.int .u64 ((wl : Nat) : Int))), (11, (.int .u64 ((u : Nat) : Int))), (13, (.int .u64 ((z1 : Nat) : Int))), (14, (.int .u64 ((z0 : Nat) : Int))), (15, (.int .u64 ((q1 : Nat) : Int))), (16, (.int .u64 ((r1 : Nat) : Int)))] ∧ Run S w S' [] ww ∧ (q1 * v + r1 = u) ∧ (r1 < 4294967296) ∧ (u * 4294967296 + z1 < (q1 + 1) * (v * 4294967296 + wl)) ∧ (q1 ≤ 4294967297) ∧ m = q1)
       (qa') ⟨S12, qa', ra', Sh.le.refl _, (L60.kp [16, 15, 14, 13, 11, 10, 9, 8, 2, 7, 6] rfl), R6, (by exact hqa'1), (by omega), (by exact dq_init hqa'1 hqa'2 hz_z1), (by exact dq_small hqa'1 hu_u hw hv2), rfl⟩ ?_
      rintro m_2 ac10 _ ⟨S19, q1, r1, l12, L160, R13, hD, hDr, hDu, hDk, m2⟩
      refine wp_seq (wp_seq ?_)
      have hqw : q1 < 4294967296 → q1 * wl ≤ 4294967295 * 4294967295 := fun h => Nat.mul_le_mul (by omega) (by omega)
      refine Za (sm L160 rfl ?_)
      intro _ L161
      by_cases t8 : (4294967296 : Int) ≤ (q1 : Int)
      ·refine so L161 rfl (bT t8 (fun _ => YL L161 rfl rfl) fun _ L162 => sm L162 rfl fun _ L163 => sof L163 rfl fun _ L164 => sof L164 rfl fun _ L165 => sof L165 rfl fun _ L166 => sof L166 rfl fun _ L167 => sof L167 rfl fun _ L168 => ?_)
       refine sof L168 rfl fun _ L169 => sof L169 rfl fun _ L170 => sof L170 rfl fun _ L171 => so L171 rfl (Zj L171 rfl rfl fun _ L172 => ?_)
       have L173 := (L172.kp [6, 7, 2, 8, 9, 10, 11, 13, 14, 15, 16, 67, 68, 69, 78] rfl); clear L172
       refine sn (Zp L173 rfl rfl (wp_skip ((Zc (wp_block (wp_seq ?_))))))
       have hor : 4294967296 ≤ q1 ∨ r1 * 4294967296 + z1 < q1 * wl := by omega
       obtain ⟨hD0, hD', hDu'⟩ := dq_step hD hz_z1 hu_u hor
       refine Za (sm L173 rfl ?_)
       intro _ L174
       refine so L174 rfl (ZR (z := ((q1 : Int) - (1 : Int))) L174 rfl rfl (IntWalk.u64_in _ (by omega)) fun _ L175 => sa L175 rfl fun _ L176 => sn (wp_seq (Za (sm L176 rfl fun _ L177 => sm L177 rfl fun _ L178 => so L178 rfl (ZJ (z := ((r1 : Int) + (v : Int))) L178 rfl rfl (IntWalk.u64_in _ (by omega)) fun _ L179 => ?_)))))
       refine sa L179 rfl fun _ L180 => sn (wp_seq (Za (sm L180 rfl fun _ L181 => ?_)))
       by_cases t9 : (4294967296 : Int) ≤ ((r1 : Int) + (v : Int))
       ·refine so L181 rfl (bT t9 (fun _ => YL L181 rfl rfl) fun a150 L182 => sn (Zp L182 rfl rfl (wp_exit ((in_miss rfl (Zz (YR (Zc ?_))))))))
        have e17 : (((q1 : Int) - (1 : Int)) : Int) = (((q1 - 1) : Nat) : Int) := by first | omega | simp
        have L183 : Zt a150 135 [(15, (.int .u64 (((q1 - 1) : Nat) : Int)))] := by have q := (L182.kp [15] rfl); rw [e17] at q; exact q
        exact ⟨S19, (q1 - 1), l12, (L182.keep (L182.keep (L182.keep (L182.keep (L182.keep (L182.keep (L182.keep (L182.keep (L182.keep (L183.keep (Zt.none _ L182) (t := 15) rfl) (t := 14) rfl) (t := 13) rfl) (t := 11) rfl) (t := 10) rfl) (t := 9) rfl) (t := 8) rfl) (t := 2) rfl) (t := 7) rfl) (t := 6) rfl), R13, (by first | exact XU hD' hw (by omega) (by omega) | exact QZ hD (by omega)), (by first | exact hDu' | exact hDu)⟩
       ·refine so L181 rfl (bF t9 (fun _ => YL L181 rfl rfl) fun a151 L184 => sn (Zm L184 rfl rfl (wp_skip ((ZI (Zc ?_))))))
        have e18 : (((q1 : Int) - (1 : Int)) : Int) = (((q1 - 1) : Nat) : Int) := by first | omega | simp
        have L185 : Zt a151 135 [(15, (.int .u64 (((q1 - 1) : Nat) : Int)))] := by have q := (L184.kp [15] rfl); rw [e18] at q; exact q
        have e19 : (((r1 : Int) + (v : Int)) : Int) = (((r1 + v) : Nat) : Int) := by first | omega | simp
        have L186 : Zt a151 135 [(16, (.int .u64 (((r1 + v) : Nat) : Int)))] := by have q := (L184.kp [16] rfl); rw [e19] at q; exact q
        exact ⟨(q1 - 1), (by omega), S19, (q1 - 1), (r1 + v), l12, (L184.keep (L184.keep (L184.keep (L184.keep (L184.keep (L184.keep (L184.keep (L184.keep (L184.keep (L185.keep (L186.keep (Zt.none _ L184) (t := 16) rfl) (t := 15) rfl) (t := 14) rfl) (t := 13) rfl) (t := 11) rfl) (t := 10) rfl) (t := 9) rfl) (t := 8) rfl) (t := 2) rfl) (t := 7) rfl) (t := 6) rfl), R13, (by exact hD'), (by omega), (by exact hDu'), (by omega), rfl⟩
      ·refine so L161 rfl (bF t8 (fun _ => YL L161 rfl rfl) fun _ L187 => sm L187 rfl fun _ L188 => son L188 rfl (Zh L188 rfl fun _ L189 => son L189 rfl (Zh L189 rfl fun _ L190 => son L190 rfl (Xx (z := ((q1 : Int) * (wl : Int))) L190 rfl rfl (IntWalk.u64_in _ (by omega)) fun _ L191 => son L191 rfl (Zh L191 rfl fun _ L192 => son L192 rfl (Xx (z := ((4294967296 : Int) * (r1 : Int))) L192 rfl rfl (IntWalk.u64_in _ (by omega)) fun _ L193 => ?_))))))
       refine son L193 rfl (Zh L193 rfl fun _ L194 => son L194 rfl (ZJ (z := (((4294967296 : Int) * (r1 : Int)) + (z1 : Int))) L194 rfl rfl (IntWalk.u64_in _ (by omega)) fun _ L195 => ?_))
       by_cases t10 : (((4294967296 : Int) * (r1 : Int)) + (z1 : Int)) < ((q1 : Int) * (wl : Int))
       ·refine son L195 rfl (bT t10 (fun _ => ZS L195 rfl rfl) fun _ L196 => so L196 rfl (Zj L196 rfl rfl fun _ L197 => sn (Zp L197 rfl rfl (wp_skip ((Zc (wp_block (wp_seq ?_))))))))
        have hor : 4294967296 ≤ q1 ∨ r1 * 4294967296 + z1 < q1 * wl := by omega
        obtain ⟨hD0, hD', hDu'⟩ := dq_step hD hz_z1 hu_u hor
        refine Za (sm L197 rfl ?_)
        intro _ L198
        refine so L198 rfl (ZR (z := ((q1 : Int) - (1 : Int))) L198 rfl rfl (IntWalk.u64_in _ (by omega)) fun _ L199 => sa L199 rfl fun _ L200 => sn (wp_seq (Za (sm L200 rfl fun _ L201 => sm L201 rfl fun _ L202 => so L202 rfl (ZJ (z := ((r1 : Int) + (v : Int))) L202 rfl rfl (IntWalk.u64_in _ (by omega)) fun _ L203 => ?_)))))
        refine sa L203 rfl fun _ L204 => sn (wp_seq (Za (sm L204 rfl fun _ L205 => ?_)))
        by_cases t11 : (4294967296 : Int) ≤ ((r1 : Int) + (v : Int))
        ·refine so L205 rfl (bT t11 (fun _ => YL L205 rfl rfl) fun a171 L206 => sn (Zp L206 rfl rfl (wp_exit ((in_miss rfl (Zz (YR (Zc ?_))))))))
         have e20 : (((q1 : Int) - (1 : Int)) : Int) = (((q1 - 1) : Nat) : Int) := by first | omega | simp
         have L207 : Zt a171 135 [(15, (.int .u64 (((q1 - 1) : Nat) : Int)))] := by have q := (L206.kp [15] rfl); rw [e20] at q; exact q
         exact ⟨S19, (q1 - 1), l12, (L206.keep (L206.keep (L206.keep (L206.keep (L206.keep (L206.keep (L206.keep (L206.keep (L206.keep (L207.keep (Zt.none _ L206) (t := 15) rfl) (t := 14) rfl) (t := 13) rfl) (t := 11) rfl) (t := 10) rfl) (t := 9) rfl) (t := 8) rfl) (t := 2) rfl) (t := 7) rfl) (t := 6) rfl), R13, (by first | exact XU hD' hw (by omega) (by omega) | exact QZ hD (by omega)), (by first | exact hDu' | exact hDu)⟩
        ·refine so L205 rfl (bF t11 (fun _ => YL L205 rfl rfl) fun a172 L208 => sn (Zm L208 rfl rfl (wp_skip ((ZI (Zc ?_))))))
         have e21 : (((q1 : Int) - (1 : Int)) : Int) = (((q1 - 1) : Nat) : Int) := by first | omega | simp
         have L209 : Zt a172 135 [(15, (.int .u64 (((q1 - 1) : Nat) : Int)))] := by have q := (L208.kp [15] rfl); rw [e21] at q; exact q
         have e22 : (((r1 : Int) + (v : Int)) : Int) = (((r1 + v) : Nat) : Int) := by first | omega | simp
         have L210 : Zt a172 135 [(16, (.int .u64 (((r1 + v) : Nat) : Int)))] := by have q := (L208.kp [16] rfl); rw [e22] at q; exact q
         exact ⟨(q1 - 1), (by omega), S19, (q1 - 1), (r1 + v), l12, (L208.keep (L208.keep (L208.keep (L208.keep (L208.keep (L208.keep (L208.keep (L208.keep (L208.keep (L209.keep (L210.keep (Zt.none _ L208) (t := 16) rfl) (t := 15) rfl) (t := 14) rfl) (t := 13) rfl) (t := 11) rfl) (t := 10) rfl) (t := 9) rfl) (t := 8) rfl) (t := 2) rfl) (t := 7) rfl) (t := 6) rfl), R13, (by exact hD'), (by omega), (by exact hDu'), (by omega), rfl⟩
       ·exact son L195 rfl (bF t10 (fun _ => ZS L195 rfl rfl) fun _ L211 => so L211 rfl (Zj L211 rfl rfl fun _ L212 => sn (Zm L212 rfl rfl (wp_exit ((Zz (Zz (YR (Zc (⟨S19, q1, l12, (L212.kp [15, 14, 13, 11, 10, 9, 8, 2, 7, 6] rfl), R13, (by first | exact XU hD' hw (by omega) (by omega) | exact QZ hD (by omega)), (by first | exact hDu' | exact hDu)⟩))))))))))
    ·skip
     refine Za (sm L59 rfl ?_)
     intro _ L213
     refine sm L213 rfl fun _ L214 => sm L214 rfl fun _ L215 => so L215 rfl (Xx (z := ((qa : Int) * (v : Int))) L215 rfl rfl (IntWalk.u64_in _ (by omega)) fun _ L216 => so L216 rfl (ZR (z := ((u : Int) - ((qa : Int) * (v : Int)))) L216 rfl rfl (IntWalk.u64_in _ (by omega)) fun _ L217 => sa L217 rfl fun a180 L218 => ?_))
     have L219 := (L218.kp [6, 7, 2, 8, 9, 10, 11, 13, 14, 15, 16] rfl); clear L218
     refine sn ?_
     have e23 : (((u : Int) - ((qa : Int) * (v : Int))) : Int) = (((u - (qa * v)) : Nat) : Int) := by first | omega | simp
     have L220 : Zt a180 135 [(16, (.int .u64 (((u - (qa * v)) : Nat) : Int)))] := by have q := (L219.kp [16] rfl); rw [e23] at q; exact q
     exact ⟨S11, qa, (u - (qa * v)), Sh.le.refl _, (L219.keep (L219.keep (L219.keep (L219.keep (L219.keep (L219.keep (L219.keep (L219.keep (L219.keep (L219.keep (L220.keep (Zt.none _ L219) (t := 16) rfl) (t := 15) rfl) (t := 14) rfl) (t := 13) rfl) (t := 11) rfl) (t := 10) rfl) (t := 9) rfl) (t := 8) rfl) (t := 2) rfl) (t := 7) rfl) (t := 6) rfl), R5, (by omega), (by omega)⟩
   ·skip
    refine Za (sm L58 rfl ?_)
    intro _ L221
    refine sm L221 rfl fun _ L222 => so L222 rfl (Zc2 (z := ((u : Int) / (v : Int))) L222 rfl rfl (by omega) (quo_nn (k := .u64) (by omega) (by omega) (show _ ≤ (18446744073709551615 : Int) by omega)) fun _ L223 => sa L223 rfl fun a184 L224 => sn ?_)
    have e24 : (((u : Int) / (v : Int)) : Int) = (((u / v) : Nat) : Int) := by first | omega | simp
    have L225 : Zt a184 135 [(15, (.int .u64 (((u / v) : Nat) : Int)))] := by have q := (L224.kp [15] rfl); rw [e24] at q; exact q
    exact ⟨S10, (u / v), Sh.le.refl _, (L224.keep (L224.keep (L224.keep (L224.keep (L224.keep (L224.keep (L224.keep (L224.keep (L224.keep (L225.keep (Zt.none _ L224) (t := 15) rfl) (t := 14) rfl) (t := 13) rfl) (t := 11) rfl) (t := 10) rfl) (t := 9) rfl) (t := 8) rfl) (t := 2) rfl) (t := 7) rfl) (t := 6) rfl), R4, (by rfl)⟩
  ·skip
   refine Za (sm L57 rfl ?_)
   intro _ L226
   refine so L226 rfl (does_and32 (i := (lo * 2 ^ ((64 - Zw y)) % 18446744073709551616)) L226 rfl rfl (by omega) fun _ L227 => sa L227 rfl fun a187 L228 => sn ?_)
   have e25 : (((y * 2 ^ ((64 - Zw y)) % 18446744073709551616 : Nat) : Int) : Int) = (((y * 2 ^ ((64 - Zw y)) % 18446744073709551616) : Nat) : Int) := by first | omega | simp
   have L229 : Zt a187 135 [(2, (.int .u64 (((y * 2 ^ ((64 - Zw y)) % 18446744073709551616) : Nat) : Int)))] := by have q := (L228.kp [2] rfl); rw [e25] at q; exact q
   have e26 : ((((64 - Zw y : Nat) : Int)) : Int) = ((((64 - Zw y)) : Nat) : Int) := by first | omega | simp
   have L230 : Zt a187 135 [(8, (.int .u64 ((((64 - Zw y)) : Nat) : Int)))] := by have q := (L228.kp [8] rfl); rw [e26] at q; exact q
   have e27 : ((((y * 2 ^ ((64 - Zw y)) % 18446744073709551616) / 2 ^ 32 : Nat) : Int) : Int) = ((((y * 2 ^ ((64 - Zw y)) % 18446744073709551616) / 2 ^ 32) : Nat) : Int) := by first | omega | simp
   have L231 : Zt a187 135 [(9, (.int .u64 ((((y * 2 ^ ((64 - Zw y)) % 18446744073709551616) / 2 ^ 32) : Nat) : Int)))] := by have q := (L228.kp [9] rfl); rw [e27] at q; exact q
   have e28 : ((((y * 2 ^ ((64 - Zw y)) % 18446744073709551616) % 4294967296 : Nat) : Int) : Int) = ((((y * 2 ^ ((64 - Zw y)) % 18446744073709551616) % 4294967296) : Nat) : Int) := by first | omega | simp
   have L232 : Zt a187 135 [(10, (.int .u64 ((((y * 2 ^ ((64 - Zw y)) % 18446744073709551616) % 4294967296) : Nat) : Int)))] := by have q := (L228.kp [10] rfl); rw [e28] at q; exact q
   have e29 : ((((h * 2 ^ ((64 - Zw y)) % 18446744073709551616) ||| (lo / 2 ^ (64 - (64 - Zw y))) : Nat) : Int) : Int) = ((((h * 2 ^ ((64 - Zw y)) % 18446744073709551616) ||| (lo / 2 ^ (64 - (64 - Zw y)))) : Nat) : Int) := by first | omega | simp
   have L233 : Zt a187 135 [(11, (.int .u64 ((((h * 2 ^ ((64 - Zw y)) % 18446744073709551616) ||| (lo / 2 ^ (64 - (64 - Zw y)))) : Nat) : Int)))] := by have q := (L228.kp [11] rfl); rw [e29] at q; exact q
   have e30 : ((((lo * 2 ^ ((64 - Zw y)) % 18446744073709551616) / 2 ^ 32 : Nat) : Int) : Int) = ((((lo * 2 ^ ((64 - Zw y)) % 18446744073709551616) / 2 ^ 32) : Nat) : Int) := by first | omega | simp
   have L234 : Zt a187 135 [(13, (.int .u64 ((((lo * 2 ^ ((64 - Zw y)) % 18446744073709551616) / 2 ^ 32) : Nat) : Int)))] := by have q := (L228.kp [13] rfl); rw [e30] at q; exact q
   have e31 : ((((lo * 2 ^ ((64 - Zw y)) % 18446744073709551616) % 4294967296 : Nat) : Int) : Int) = ((((lo * 2 ^ ((64 - Zw y)) % 18446744073709551616) % 4294967296) : Nat) : Int) := by first | omega | simp
   have L235 : Zt a187 135 [(14, (.int .u64 ((((lo * 2 ^ ((64 - Zw y)) % 18446744073709551616) % 4294967296) : Nat) : Int)))] := by have q := (L228.kp [14] rfl); rw [e31] at q; exact q
   exact ⟨S9, (y * 2 ^ ((64 - Zw y)) % 18446744073709551616), ((64 - Zw y)), ((y * 2 ^ ((64 - Zw y)) % 18446744073709551616) / 2 ^ 32), ((y * 2 ^ ((64 - Zw y)) % 18446744073709551616) % 4294967296), ((h * 2 ^ ((64 - Zw y)) % 18446744073709551616) ||| (lo / 2 ^ (64 - (64 - Zw y)))), ((lo * 2 ^ ((64 - Zw y)) % 18446744073709551616) / 2 ^ 32), ((lo * 2 ^ ((64 - Zw y)) % 18446744073709551616) % 4294967296), Sh.le.refl _, (L228.keep (L228.keep (L229.keep (L230.keep (L231.keep (L232.keep (L233.keep (L234.keep (L235.keep (Zt.none _ L228) (t := 14) rfl) (t := 13) rfl) (t := 11) rfl) (t := 10) rfl) (t := 9) rfl) (t := 8) rfl) (t := 2) rfl) (t := 7) rfl) (t := 6) rfl), R3, (by exact norm_start hy hh hl)⟩
end Go.Cham
namespace Go.Cham
open Go Go.RowKit Go.Proofs
set_option maxRecDepth 20000 in
theorem nat_guess {S : Sh} {w : World} (hS : Ya S w) {x : Nat} {y : Nat} {z : Nat} {vh : Nat} {wl : Nat} (hxv : x ≤ vh) (hv0 : 0 < vh) (hv : vh < 18446744073709551616) (hy : y < 18446744073709551616) (hz : z < 18446744073709551616) (hw : wl < 18446744073709551616) : Calls Tryz.prog 164 [(.int .u64 ((x : Nat) : Int)), (.int .u64 ((y : Nat) : Int)), (.int .u64 ((z : Nat) : Int)), (.int .u64 ((vh : Nat) : Int)), (.int .u64 ((wl : Nat) : Int))].toArray w (Ret S w (fun S v => ∃ g, v = .int .u64 ((g : Nat) : Int) ∧ g < 18446744073709551616 ∧ g * (vh * 18446744073709551616 + wl) ≤ (x * 18446744073709551616 + y) * 18446744073709551616 + z ∧ ((x * 18446744073709551616 + y) * 18446744073709551616 + z < (g + 1) * (vh * 18446744073709551616 + wl) ∨ g = 18446744073709551615))) := by
 refine ZK (n := 67) Tryz.func164 rfl rfl ?_
 intro ac0 L0
 replace L0 : Zt ac0 67 [(0, (.int .u64 (x : Int))), (1, (.int .u64 (y : Int))), (2, (.int .u64 (z : Int))), (3, (.int .u64 (vh : Int))), (4, (.int .u64 (wl : Int)))] := L0
 have R0 : Run S w S [] w := .start hS
 refine wp_seq (Za (sa L0 rfl ?_))
 intro _ L1
 refine sn (wp_seq (Za (sa L1 rfl ?_)))
 intro _ L2
 refine sa L2 rfl fun _ L3 => sn (wp_seq (wp_seq (Za (sm L3 rfl fun _ L4 => sm L4 rfl fun _ L5 => ?_))))
 by_cases t1 : (x : Int) < (vh : Int)
 ·refine so L5 rfl (bT t1 (fun _ => ZF L5 rfl rfl) fun _ L6 => sn (Zp L6 rfl rfl (Za (sm L6 rfl fun _ L7 => sm L7 rfl fun _ L8 => sm L8 rfl fun _ L9 => so L9 rfl (Zl L9 rfl ent_161 (Zb4 R0.holds (h := x) (lo := y) (y := vh) (by omega) (hy) (by omega)) fun v_1 S1 _ x1 v1 => ?_)))))
  have R1 := R0.call x1
  obtain rfl := v1
  intro _ L10
  refine sm L10 rfl fun _ L11 => so L11 rfl (Zf L11 rfl rfl fun _ L12 => so L12 rfl (Zf L12 rfl rfl fun _ L13 => sa L13 rfl fun _ L14 => sa L14 rfl fun a15 L15 => ?_))
  have L16 := (L15.kp [2, 3, 4, 10, 11, 12] rfl); clear L15
  refine sn (wp_block ?_)
  have e1 : ((((x * 18446744073709551616 + y) / vh : Nat) : Int) : Int) = ((((x * 18446744073709551616 + y) / vh) : Nat) : Int) := by omega
  have L18 : Zt a15 67 [(11, (.int .u64 ((((x * 18446744073709551616 + y) / vh) : Nat) : Int)))] := by have q := (L16.kp [11] rfl); rw [e1] at q; exact q
  have e2 : ((((x * 18446744073709551616 + y) % vh : Nat) : Int) : Int) = ((((x * 18446744073709551616 + y) % vh) : Nat) : Int) := by omega
  have L19 : Zt a15 67 [(12, (.int .u64 ((((x * 18446744073709551616 + y) % vh) : Nat) : Int)))] := by have q := (L16.kp [12] rfl); rw [e2] at q; exact q
  refine Yb (fun m ac ww => ∃ (S' : Sh) (d : Nat) (r : Nat), S1.le S' ∧ Zt ac 67 [(2, (.int .u64 ((z : Nat) : Int))), (3, (.int .u64 ((vh : Nat) : Int))), (4, (.int .u64 ((wl : Nat) : Int))), (10, (.int .u64 (0 : Int))), (11, (.int .u64 ((d : Nat) : Int))), (12, (.int .u64 ((r : Nat) : Int)))] ∧ Run S w S' [] ww ∧ (d * vh + r = x * 18446744073709551616 + y) ∧ (r < 18446744073709551616) ∧ (d < 18446744073709551616) ∧ ((x * 18446744073709551616 + y) * 18446744073709551616 + z < (d + 1) * (vh * 18446744073709551616 + wl) ∨ d = 18446744073709551615) ∧ m = d)
   (((x * 18446744073709551616 + y) / vh)) ⟨S1, ((x * 18446744073709551616 + y) / vh), ((x * 18446744073709551616 + y) % vh), Sh.le.refl _, (L16.keep (L16.keep (L16.keep (L16.keep (L18.keep (L19.keep (Zt.none _ L16) (t := 12) rfl) (t := 11) rfl) (t := 10) rfl) (t := 4) rfl) (t := 3) rfl) (t := 2) rfl), R1, (by first | exact Nat.div_add_mod' _ _ | omega), (by first | exact Nat.lt_trans (Nat.mod_lt _ (by omega)) hv | omega), (by first | exact Nat.div_lt_of_lt_mul (by omega) | omega), (by first | exact Or.inr rfl | exact Or.inl (dq_init (Nat.div_add_mod' _ _) (Nat.mod_lt _ (by omega)) hz)), rfl⟩ ?_
  rintro m_1 ac1 _ ⟨_, d, r, l2, L17, R2, hD, hr, hdl, hu, m1⟩
  refine wp_block (wp_seq (Za (sm L17 rfl ?_)))
  intro _ L20
  refine sm L20 rfl fun _ L21 => so L21 rfl (Zl L21 rfl ent_139 (Qk R2.holds (x := d) (y := wl) (hdl) (by omega)) fun v_2 S3 _ x2 v2 => ?_)
  have R3 := R2.call x2; have l3 := x2.le
  obtain rfl := v2
  intro _ L22
  refine sm L22 rfl fun _ L23 => so L23 rfl (Zf L23 rfl rfl fun _ L24 => so L24 rfl (Zf L24 rfl rfl fun _ L25 => sa L25 rfl fun _ L26 => sa L26 rfl fun _ L27 => sn (wp_seq (wp_seq ?_))))
  refine Za (sm L27 rfl ?_)
  intro _ L28
  refine sm L28 rfl fun _ L29 => ?_
  by_cases t2 : ((d * wl / 18446744073709551616 : Nat) : Int) < (r : Int)
  ·refine so L29 rfl (bT t2 (fun _ => ZF L29 rfl rfl) fun _ L30 => sm L30 rfl fun _ L31 => sof L31 rfl fun _ L32 => sof L32 rfl fun _ L33 => sof L33 rfl fun _ L34 => sof L34 rfl fun _ L35 => Ye L35 rfl rfl rfl rfl rfl fun _ L36 => ?_)
   refine Ye L36 rfl rfl rfl rfl rfl ?_
   intro _ L37
   refine Ye L37 rfl rfl rfl rfl rfl ?_
   intro _ L38
   refine sof L38 rfl fun _ L39 => so L39 rfl (Zj L39 rfl rfl fun _ L40 => ?_)
   have L41 := (L40.kp [2, 3, 4, 10, 11, 12, 37, 38, 39, 36, 40, 41, 14, 15, 42, 43, 44, 45, 54] rfl); clear L40
   refine sn (Zp L41 rfl rfl (wp_seq (Za (sm L41 rfl ?_))))
   intro _ L42
   exact sa L42 rfl fun _ L43 => sn (wp_ret ((Zy (Yz (Zy (Yz (Zo (rs := Tryz.f164.results.toList) L43 rfl (.tmp rfl Res.nil) (⟨_, _, rfl, R3.ext, ⟨d, rfl, (by omega), (by exact QZ hD (by omega)), (by exact hu)⟩⟩))))))))
  ·refine so L29 rfl (bF t2 (fun _ => ZF L29 rfl rfl) fun _ L44 => sm L44 rfl fun _ L45 => son L45 rfl (Zh L45 rfl fun _ L46 => son L46 rfl (Zh L46 rfl fun _ L47 => ?_)))
   by_cases t3 : ((d * wl / 18446744073709551616 : Nat) : Int) = (r : Int)
   ·refine son L47 rfl (bT t3 (fun _ => ZZ L47 rfl rfl) fun _ L48 => son L48 rfl (Zh L48 rfl fun _ L49 => son L49 rfl (Zh L49 rfl fun _ L50 => son L50 rfl (Zh L50 rfl fun _ L51 => ?_))))
    by_cases t4 : ((d * wl % 18446744073709551616 : Nat) : Int) ≤ (z : Int)
    ·refine son L51 rfl (bT t4 (fun _ => Zaj L51 rfl rfl) fun _ L52 => son L52 rfl (Zj L52 rfl rfl fun _ L53 => so L53 rfl (Zj L53 rfl rfl fun _ L54 => sn (Zp L54 rfl rfl (wp_seq (Za (sm L54 rfl fun _ L55 => sa L55 rfl fun _ L56 => ?_)))))))
     exact sn (wp_ret ((Zy (Yz (Zy (Yz (Zo (rs := Tryz.f164.results.toList) L56 rfl (.tmp rfl Res.nil) (⟨_, _, rfl, R3.ext, ⟨d, rfl, (by omega), (by exact QZ hD (by omega)), (by exact hu)⟩⟩))))))))
    ·refine son L51 rfl (bF t4 (fun _ => Zaj L51 rfl rfl) fun _ L57 => son L57 rfl (Zj L57 rfl rfl fun _ L58 => so L58 rfl (Zj L58 rfl rfl fun _ L59 => sn (Zm L59 rfl rfl (wp_skip ((Zc (wp_seq ?_))))))))
     have hor : r * 18446744073709551616 + z < d * wl := by omega
     obtain ⟨hd0, hD', hu'⟩ := dq_step2 hD hor
     refine Za (sm L59 rfl ?_)
     intro _ L60
     refine so L60 rfl (ZR (z := ((d : Int) - (1 : Int))) L60 rfl rfl (IntWalk.u64_in _ (by omega)) fun _ L61 => sa L61 rfl fun _ L62 => sn (wp_seq (Za (sa L62 rfl fun _ L63 => sn (wp_seq (Za (sm L63 rfl fun _ L64 => ?_)))))))
     refine sm L64 rfl fun _ L65 => so L65 rfl (YE (x := r) (y := vh) (c := 0) L65 rfl (by omega) fun _ L66 => sm L66 rfl fun _ L67 => so L67 rfl (Zf L67 rfl rfl fun _ L68 => so L68 rfl (Zf L68 rfl rfl fun _ L69 => sa L69 rfl fun _ L70 => sa L70 rfl fun _ L71 => ?_)))
     refine sn (wp_seq (Za (sm L71 rfl ?_)))
     intro _ L72
     by_cases t5 : ¬ (((r + vh + 0) / 18446744073709551616 : Nat) : Int) = (0 : Int)
     ·exact so L72 rfl (bT t5 (fun _ => Yo L72 rfl rfl) fun _ L73 => sn (Zp L73 rfl rfl (wp_seq (Za (sm L73 rfl fun _ L74 => sa L74 rfl fun _ L75 => sn (wp_ret ((Yz (Zy (Yz (Zo (rs := Tryz.f164.results.toList) L75 rfl (.tmp rfl Res.nil) (⟨_, _, rfl, R3.ext, ⟨(d - 1), (by exact Zbv (by omega)), (by omega), (by exact XU hD' hw (by omega) (by omega)), (by exact Or.inl hu')⟩⟩))))))))))))
     ·refine so L72 rfl (bF t5 (fun _ => Yo L72 rfl rfl) fun a71 L76 => sn (Zm L76 rfl rfl (wp_skip ((ZI (Zc ?_))))))
      have e3 : (((d : Int) - (1 : Int)) : Int) = (((d - 1) : Nat) : Int) := by omega
      have L77 : Zt a71 67 [(11, (.int .u64 (((d - 1) : Nat) : Int)))] := by have q := (L76.kp [11] rfl); rw [e3] at q; exact q
      have e4 : ((((r + vh + 0) % 18446744073709551616 : Nat) : Int) : Int) = ((((r + vh + 0) % 18446744073709551616) : Nat) : Int) := by omega
      have L78 : Zt a71 67 [(12, (.int .u64 ((((r + vh + 0) % 18446744073709551616) : Nat) : Int)))] := by have q := (L76.kp [12] rfl); rw [e4] at q; exact q
      exact ⟨(d - 1), (by omega), S3, (d - 1), ((r + vh + 0) % 18446744073709551616), (l2.trans l3), (L76.keep (L76.keep (L76.keep (L76.keep (L77.keep (L78.keep (Zt.none _ L76) (t := 12) rfl) (t := 11) rfl) (t := 10) rfl) (t := 4) rfl) (t := 3) rfl) (t := 2) rfl), R3, (by rw [show (r + vh + 0) % 18446744073709551616 = r + vh by omega]; exact hD'), (by omega), (by omega), (by exact Or.inl hu'), rfl⟩
   ·refine son L47 rfl (bF t3 (fun _ => ZZ L47 rfl rfl) fun _ L79 => son L79 rfl (Zh L79 rfl fun _ L80 => sof L80 rfl fun _ L81 => sof L81 rfl fun _ L82 => sof L82 rfl fun _ L83 => son L83 rfl (Zj L83 rfl rfl fun _ L84 => so L84 rfl (Zj L84 rfl rfl fun _ L85 => ?_))))
    refine sn (Zm L85 rfl rfl (wp_skip ((Zc (wp_seq ?_)))))
    have hor : r * 18446744073709551616 + z < d * wl := by omega
    obtain ⟨hd0, hD', hu'⟩ := dq_step2 hD hor
    refine Za (sm L85 rfl ?_)
    intro _ L86
    refine so L86 rfl (ZR (z := ((d : Int) - (1 : Int))) L86 rfl rfl (IntWalk.u64_in _ (by omega)) fun _ L87 => sa L87 rfl fun _ L88 => sn (wp_seq (Za (sa L88 rfl fun _ L89 => sn (wp_seq (Za (sm L89 rfl fun _ L90 => ?_)))))))
    refine sm L90 rfl fun _ L91 => so L91 rfl (YE (x := r) (y := vh) (c := 0) L91 rfl (by omega) fun _ L92 => sm L92 rfl fun _ L93 => so L93 rfl (Zf L93 rfl rfl fun _ L94 => so L94 rfl (Zf L94 rfl rfl fun _ L95 => sa L95 rfl fun _ L96 => sa L96 rfl fun _ L97 => ?_)))
    refine sn (wp_seq (Za (sm L97 rfl ?_)))
    intro _ L98
    by_cases t6 : ¬ (((r + vh + 0) / 18446744073709551616 : Nat) : Int) = (0 : Int)
    ·exact so L98 rfl (bT t6 (fun _ => Yo L98 rfl rfl) fun _ L99 => sn (Zp L99 rfl rfl (wp_seq (Za (sm L99 rfl fun _ L100 => sa L100 rfl fun _ L101 => sn (wp_ret ((Yz (Zy (Yz (Zo (rs := Tryz.f164.results.toList) L101 rfl (.tmp rfl Res.nil) (⟨_, _, rfl, R3.ext, ⟨(d - 1), (by exact Zbv (by omega)), (by omega), (by exact XU hD' hw (by omega) (by omega)), (by exact Or.inl hu')⟩⟩))))))))))))
    ·refine so L98 rfl (bF t6 (fun _ => Yo L98 rfl rfl) fun a95 L102 => sn (Zm L102 rfl rfl (wp_skip ((ZI (Zc ?_))))))
     have e5 : (((d : Int) - (1 : Int)) : Int) = (((d - 1) : Nat) : Int) := by omega
     have L103 : Zt a95 67 [(11, (.int .u64 (((d - 1) : Nat) : Int)))] := by have q := (L102.kp [11] rfl); rw [e5] at q; exact q
     have e6 : ((((r + vh + 0) % 18446744073709551616 : Nat) : Int) : Int) = ((((r + vh + 0) % 18446744073709551616) : Nat) : Int) := by omega
     have L104 : Zt a95 67 [(12, (.int .u64 ((((r + vh + 0) % 18446744073709551616) : Nat) : Int)))] := by have q := (L102.kp [12] rfl); rw [e6] at q; exact q
     exact ⟨(d - 1), (by omega), S3, (d - 1), ((r + vh + 0) % 18446744073709551616), (l2.trans l3), (L102.keep (L102.keep (L102.keep (L102.keep (L103.keep (L104.keep (Zt.none _ L102) (t := 12) rfl) (t := 11) rfl) (t := 10) rfl) (t := 4) rfl) (t := 3) rfl) (t := 2) rfl), R3, (by rw [show (r + vh + 0) % 18446744073709551616 = r + vh by omega]; exact hD'), (by omega), (by omega), (by exact Or.inl hu'), rfl⟩
 ·refine so L5 rfl (bF t1 (fun _ => ZF L5 rfl rfl) fun _ L105 => sn (Zm L105 rfl rfl (wp_seq (Za (sa L105 rfl fun _ L106 => sn (wp_seq (Za (sm L106 rfl fun _ L107 => ?_))))))))
  refine sm L107 rfl fun _ L108 => so L108 rfl (YE (x := y) (y := vh) (c := 0) L108 rfl (by omega) fun _ L109 => sm L109 rfl fun _ L110 => so L110 rfl (Zf L110 rfl rfl fun _ L111 => so L111 rfl (Zf L111 rfl rfl fun _ L112 => sa L112 rfl fun _ L113 => sa L113 rfl fun _ L114 => ?_)))
  have L115 := (L114.kp [2, 3, 4, 10, 11, 12, 13] rfl); clear L114
  refine sn (wp_seq (Za (sm L115 rfl ?_)))
  intro _ L116
  by_cases t7 : ¬ (((y + vh + 0) / 18446744073709551616 : Nat) : Int) = (0 : Int)
  ·exact so L116 rfl (bT t7 (fun _ => Yo L116 rfl rfl) fun _ L117 => sn (Zp L117 rfl rfl (wp_seq (Za (sm L117 rfl fun _ L118 => sa L118 rfl fun _ L119 => sn (wp_ret ((Zy (Zo (rs := Tryz.f164.results.toList) L119 rfl (.tmp rfl Res.nil) (⟨_, _, rfl, R0.ext, ⟨18446744073709551615, rfl, (by omega), (by exact XU (K := 18446744073709551616) (r := y + vh) (by omega) (by omega) (by omega) (by omega)), (by exact Or.inr rfl)⟩⟩))))))))))
  ·refine so L116 rfl (bF t7 (fun _ => Yo L116 rfl rfl) fun a110 L120 => sn (Zm L120 rfl rfl (wp_skip ((Zc (wp_block ?_))))))
   have e7 : ((18446744073709551615 : Int) : Int) = ((18446744073709551615 : Nat) : Int) := by omega
   have L122 : Zt a110 67 [(11, (.int .u64 ((18446744073709551615 : Nat) : Int)))] := by have q := (L120.kp [11] rfl); rw [e7] at q; exact q
   have e8 : ((((y + vh + 0) % 18446744073709551616 : Nat) : Int) : Int) = ((((y + vh + 0) % 18446744073709551616) : Nat) : Int) := by omega
   have L123 : Zt a110 67 [(12, (.int .u64 ((((y + vh + 0) % 18446744073709551616) : Nat) : Int)))] := by have q := (L120.kp [12] rfl); rw [e8] at q; exact q
   refine Yb (fun m ac ww => ∃ (S' : Sh) (d : Nat) (r : Nat), S.le S' ∧ Zt ac 67 [(2, (.int .u64 ((z : Nat) : Int))), (3, (.int .u64 ((vh : Nat) : Int))), (4, (.int .u64 ((wl : Nat) : Int))), (10, (.int .u64 (0 : Int))), (11, (.int .u64 ((d : Nat) : Int))), (12, (.int .u64 ((r : Nat) : Int)))] ∧ Run S w S' [] ww ∧ (d * vh + r = x * 18446744073709551616 + y) ∧ (r < 18446744073709551616) ∧ (d < 18446744073709551616) ∧ ((x * 18446744073709551616 + y) * 18446744073709551616 + z < (d + 1) * (vh * 18446744073709551616 + wl) ∨ d = 18446744073709551615) ∧ m = d)
    (18446744073709551615) ⟨S, 18446744073709551615, ((y + vh + 0) % 18446744073709551616), Sh.le.refl _, (L120.keep (L120.keep (L120.keep (L120.keep (L122.keep (L123.keep (Zt.none _ L120) (t := 12) rfl) (t := 11) rfl) (t := 10) rfl) (t := 4) rfl) (t := 3) rfl) (t := 2) rfl), R0, (by first | exact Nat.div_add_mod' _ _ | omega), (by first | exact Nat.lt_trans (Nat.mod_lt _ (by omega)) hv | omega), (by first | exact Nat.div_lt_of_lt_mul (by omega) | omega), (by first | exact Or.inr rfl | exact Or.inl (dq_init (Nat.div_add_mod' _ _) (Nat.mod_lt _ (by omega)) hz)), rfl⟩ ?_
   rintro m_2 ac2 _ ⟨_, d, r, l4, L121, R4, hD, hr, hdl, hu, m2⟩
   refine wp_block (wp_seq (Za (sm L121 rfl ?_)))
   intro _ L124
   refine sm L124 rfl fun _ L125 => so L125 rfl (Zl L125 rfl ent_139 (Qk R4.holds (x := d) (y := wl) (hdl) (by omega)) fun v_3 S5 _ x3 v3 => ?_)
   have R5 := R4.call x3; have l5 := x3.le
   obtain rfl := v3
   intro _ L126
   refine sm L126 rfl fun _ L127 => so L127 rfl (Zf L127 rfl rfl fun _ L128 => so L128 rfl (Zf L128 rfl rfl fun _ L129 => sa L129 rfl fun _ L130 => sa L130 rfl fun _ L131 => sn (wp_seq (wp_seq ?_))))
   refine Za (sm L131 rfl ?_)
   intro _ L132
   refine sm L132 rfl fun _ L133 => ?_
   by_cases t8 : ((d * wl / 18446744073709551616 : Nat) : Int) < (r : Int)
   ·refine so L133 rfl (bT t8 (fun _ => ZF L133 rfl rfl) fun _ L134 => sm L134 rfl fun _ L135 => sof L135 rfl fun _ L136 => sof L136 rfl fun _ L137 => sof L137 rfl fun _ L138 => sof L138 rfl fun _ L139 => Ye L139 rfl rfl rfl rfl rfl fun _ L140 => ?_)
    refine Ye L140 rfl rfl rfl rfl rfl ?_
    intro _ L141
    refine Ye L141 rfl rfl rfl rfl rfl ?_
    intro _ L142
    refine sof L142 rfl fun _ L143 => so L143 rfl (Zj L143 rfl rfl fun _ L144 => ?_)
    have L145 := (L144.kp [2, 3, 4, 10, 11, 12, 37, 38, 39, 36, 40, 41, 14, 15, 42, 43, 44, 45, 54] rfl); clear L144
    refine sn (Zp L145 rfl rfl (wp_seq (Za (sm L145 rfl ?_))))
    intro _ L146
    exact sa L146 rfl fun _ L147 => sn (wp_ret ((Zy (Yz (Zy (Yz (Zo (rs := Tryz.f164.results.toList) L147 rfl (.tmp rfl Res.nil) (⟨_, _, rfl, R5.ext, ⟨d, rfl, (by omega), (by exact QZ hD (by omega)), (by exact hu)⟩⟩))))))))
   ·refine so L133 rfl (bF t8 (fun _ => ZF L133 rfl rfl) fun _ L148 => sm L148 rfl fun _ L149 => son L149 rfl (Zh L149 rfl fun _ L150 => son L150 rfl (Zh L150 rfl fun _ L151 => ?_)))
    by_cases t9 : ((d * wl / 18446744073709551616 : Nat) : Int) = (r : Int)
    ·refine son L151 rfl (bT t9 (fun _ => ZZ L151 rfl rfl) fun _ L152 => son L152 rfl (Zh L152 rfl fun _ L153 => son L153 rfl (Zh L153 rfl fun _ L154 => son L154 rfl (Zh L154 rfl fun _ L155 => ?_))))
     by_cases t10 : ((d * wl % 18446744073709551616 : Nat) : Int) ≤ (z : Int)
     ·refine son L155 rfl (bT t10 (fun _ => Zaj L155 rfl rfl) fun _ L156 => son L156 rfl (Zj L156 rfl rfl fun _ L157 => so L157 rfl (Zj L157 rfl rfl fun _ L158 => sn (Zp L158 rfl rfl (wp_seq (Za (sm L158 rfl fun _ L159 => sa L159 rfl fun _ L160 => ?_)))))))
      exact sn (wp_ret ((Zy (Yz (Zy (Yz (Zo (rs := Tryz.f164.results.toList) L160 rfl (.tmp rfl Res.nil) (⟨_, _, rfl, R5.ext, ⟨d, rfl, (by omega), (by exact QZ hD (by omega)), (by exact hu)⟩⟩))))))))
     ·refine son L155 rfl (bF t10 (fun _ => Zaj L155 rfl rfl) fun _ L161 => son L161 rfl (Zj L161 rfl rfl fun _ L162 => so L162 rfl (Zj L162 rfl rfl fun _ L163 => sn (Zm L163 rfl rfl (wp_skip ((Zc (wp_seq ?_))))))))
      have hor : r * 18446744073709551616 + z < d * wl := by omega
      obtain ⟨hd0, hD', hu'⟩ := dq_step2 hD hor
      refine Za (sm L163 rfl ?_)
      intro _ L164
      refine so L164 rfl (ZR (z := ((d : Int) - (1 : Int))) L164 rfl rfl (IntWalk.u64_in _ (by omega)) fun _ L165 => sa L165 rfl fun _ L166 => sn (wp_seq (Za (sa L166 rfl fun _ L167 => sn (wp_seq (Za (sm L167 rfl fun _ L168 => ?_)))))))
      refine sm L168 rfl fun _ L169 => so L169 rfl (YE (x := r) (y := vh) (c := 0) L169 rfl (by omega) fun _ L170 => sm L170 rfl fun _ L171 => so L171 rfl (Zf L171 rfl rfl fun _ L172 => so L172 rfl (Zf L172 rfl rfl fun _ L173 => sa L173 rfl fun _ L174 => sa L174 rfl fun _ L175 => ?_)))
      refine sn (wp_seq (Za (sm L175 rfl ?_)))
      intro _ L176
      by_cases t11 : ¬ (((r + vh + 0) / 18446744073709551616 : Nat) : Int) = (0 : Int)
      ·exact so L176 rfl (bT t11 (fun _ => Yo L176 rfl rfl) fun _ L177 => sn (Zp L177 rfl rfl (wp_seq (Za (sm L177 rfl fun _ L178 => sa L178 rfl fun _ L179 => sn (wp_ret ((Yz (Zy (Yz (Zo (rs := Tryz.f164.results.toList) L179 rfl (.tmp rfl Res.nil) (⟨_, _, rfl, R5.ext, ⟨(d - 1), (by exact Zbv (by omega)), (by omega), (by exact XU hD' hw (by omega) (by omega)), (by exact Or.inl hu')⟩⟩))))))))))))
      ·refine so L176 rfl (bF t11 (fun _ => Yo L176 rfl rfl) fun a166 L180 => sn (Zm L180 rfl rfl (wp_skip ((ZI (Zc ?_))))))
       have e9 : (((d : Int) - (1 : Int)) : Int) = (((d - 1) : Nat) : Int) := by omega
       have L181 : Zt a166 67 [(11, (.int .u64 (((d - 1) : Nat) : Int)))] := by have q := (L180.kp [11] rfl); rw [e9] at q; exact q
       have e10 : ((((r + vh + 0) % 18446744073709551616 : Nat) : Int) : Int) = ((((r + vh + 0) % 18446744073709551616) : Nat) : Int) := by omega
       have L182 : Zt a166 67 [(12, (.int .u64 ((((r + vh + 0) % 18446744073709551616) : Nat) : Int)))] := by have q := (L180.kp [12] rfl); rw [e10] at q; exact q
       exact ⟨(d - 1), (by omega), S5, (d - 1), ((r + vh + 0) % 18446744073709551616), (l4.trans l5), (L180.keep (L180.keep (L180.keep (L180.keep (L181.keep (L182.keep (Zt.none _ L180) (t := 12) rfl) (t := 11) rfl) (t := 10) rfl) (t := 4) rfl) (t := 3) rfl) (t := 2) rfl), R5, (by rw [show (r + vh + 0) % 18446744073709551616 = r + vh by omega]; exact hD'), (by omega), (by omega), (by exact Or.inl hu'), rfl⟩
    ·refine son L151 rfl (bF t9 (fun _ => ZZ L151 rfl rfl) fun _ L183 => son L183 rfl (Zh L183 rfl fun _ L184 => sof L184 rfl fun _ L185 => sof L185 rfl fun _ L186 => sof L186 rfl fun _ L187 => son L187 rfl (Zj L187 rfl rfl fun _ L188 => so L188 rfl (Zj L188 rfl rfl fun _ L189 => ?_))))
     refine sn (Zm L189 rfl rfl (wp_skip ((Zc (wp_seq ?_)))))
     have hor : r * 18446744073709551616 + z < d * wl := by omega
     obtain ⟨hd0, hD', hu'⟩ := dq_step2 hD hor
     refine Za (sm L189 rfl ?_)
     intro _ L190
     refine so L190 rfl (ZR (z := ((d : Int) - (1 : Int))) L190 rfl rfl (IntWalk.u64_in _ (by omega)) fun _ L191 => sa L191 rfl fun _ L192 => sn (wp_seq (Za (sa L192 rfl fun _ L193 => sn (wp_seq (Za (sm L193 rfl fun _ L194 => ?_)))))))
     refine sm L194 rfl fun _ L195 => so L195 rfl (YE (x := r) (y := vh) (c := 0) L195 rfl (by omega) fun _ L196 => sm L196 rfl fun _ L197 => so L197 rfl (Zf L197 rfl rfl fun _ L198 => so L198 rfl (Zf L198 rfl rfl fun _ L199 => sa L199 rfl fun _ L200 => sa L200 rfl fun _ L201 => ?_)))
     refine sn (wp_seq (Za (sm L201 rfl ?_)))
     intro _ L202
     by_cases t12 : ¬ (((r + vh + 0) / 18446744073709551616 : Nat) : Int) = (0 : Int)
     ·exact so L202 rfl (bT t12 (fun _ => Yo L202 rfl rfl) fun _ L203 => sn (Zp L203 rfl rfl (wp_seq (Za (sm L203 rfl fun _ L204 => sa L204 rfl fun _ L205 => sn (wp_ret ((Yz (Zy (Yz (Zo (rs := Tryz.f164.results.toList) L205 rfl (.tmp rfl Res.nil) (⟨_, _, rfl, R5.ext, ⟨(d - 1), (by exact Zbv (by omega)), (by omega), (by exact XU hD' hw (by omega) (by omega)), (by exact Or.inl hu')⟩⟩))))))))))))
     ·refine so L202 rfl (bF t12 (fun _ => Yo L202 rfl rfl) fun a190 L206 => sn (Zm L206 rfl rfl (wp_skip ((ZI (Zc ?_))))))
      have e11 : (((d : Int) - (1 : Int)) : Int) = (((d - 1) : Nat) : Int) := by omega
      have L207 : Zt a190 67 [(11, (.int .u64 (((d - 1) : Nat) : Int)))] := by have q := (L206.kp [11] rfl); rw [e11] at q; exact q
      have e12 : ((((r + vh + 0) % 18446744073709551616 : Nat) : Int) : Int) = ((((r + vh + 0) % 18446744073709551616) : Nat) : Int) := by omega
      have L208 : Zt a190 67 [(12, (.int .u64 ((((r + vh + 0) % 18446744073709551616) : Nat) : Int)))] := by have q := (L206.kp [12] rfl); rw [e12] at q; exact q
      exact ⟨(d - 1), (by omega), S5, (d - 1), ((r + vh + 0) % 18446744073709551616), (l4.trans l5), (L206.keep (L206.keep (L206.keep (L206.keep (L207.keep (L208.keep (Zt.none _ L206) (t := 12) rfl) (t := 11) rfl) (t := 10) rfl) (t := 4) rfl) (t := 3) rfl) (t := 2) rfl), R5, (by rw [show (r + vh + 0) % 18446744073709551616 = r + vh by omega]; exact hD'), (by omega), (by omega), (by exact Or.inl hu'), rfl⟩
set_option maxRecDepth 20000 in
theorem nat_up {S : Sh} {w : World} (hS : Ya S w) {p_d : Option Addr} {len_d cap_d : Nat} {d : List Nat} (hd_d : Dg S p_d len_d cap_d d) {n : Nat} {sz : Nat} (hn : n < 64) (hm : len_d ≤ sz) (hm2 : sz ≤ 1099511627776) : Calls Tryz.prog 163 [(.slice p_d len_d cap_d), (.int .i64 ((n : Nat) : Int)), (.int .i64 ((sz : Nat) : Int))].toArray w (RetN S w (fun S v H => ∃ (b : Nat) (ds : List Nat), H = [(b, tU64, Yr ds ++ [])] ∧ v = .slice (some ⟨b, 0, none⟩) (sz) (sz) ∧ ds.length = sz ∧ (∀ e ∈ ds, e < 18446744073709551616) ∧ val W64 ds + W64 ^ sz * cr d n sz = val W64 d * 2 ^ n)) := by
 refine ZK (n := 57) Tryz.func163 rfl rfl ?_
 intro ac0 L0
 replace L0 : Zt ac0 57 [(0, (.slice p_d len_d cap_d)), (1, (.int .i64 (n : Int))), (2, (.int .i64 (sz : Int)))] := L0
 have R0 : Run S w S [] w := .start hS
 have hl_d := hd_d.hlen; have hc_d := hd_d.hcap; have hg_d := hd_d.hbig
 refine wp_seq (Za (sa L0 rfl ?_))
 intro _ L1
 refine sn (wp_seq (Za (sm L1 rfl ?_)))
 intro _ L2
 refine so L2 rfl (Xs (m := sz) (c := sz) L2 (by first | rfl | (simp [ev, Zah]; omega)) (by first | rfl | (simp [ev, Zah]; omega)) Tryz.underlying30 Qc rfl ZA QK (by omega) (by omega) (by omega) R0 fun b1 _ R1 _ L3 => ?_)
 rw [Zcf] at R1
 refine sa L3 rfl fun _ L4 => sn (wp_seq (wp_seq (Za (sm L4 rfl fun _ L5 => so L5 rfl (ZM L5 rfl Tryz.underlying30 fun _ L6 => sm L6 rfl fun a7 L7 => sn ?_)))))
 refine wp_block ?_
 have e1 : ((0 : Int) : Int) = ((0 : Nat) : Int) := by omega
 have L9 : Zt a7 57 [(13, (.int .i64 ((0 : Nat) : Int)))] := by have q := (L7.kp [13] rfl); rw [e1] at q; exact q
 refine Yb (fun m ac ww => ∃ (S' : Sh) (us : List Nat) (i : Nat), S.le S' ∧ Zt ac 57 [(0, (.slice p_d len_d cap_d)), (1, (.int .i64 ((n : Nat) : Int))), (6, (.slice none 0 0)), (7, (.slice (some ⟨b1, 0, none⟩) (sz) (sz))), (12, (.int .i64 (((sz) : Nat) : Int))), (13, (.int .i64 ((i : Nat) : Int)))] ∧ Run S w S' [(b1, 29, (Yr us ++ []))] ww ∧ (Ze0 d us n sz i) ∧ m = sz - i)
  (sz - 0) ⟨S, (List.replicate (sz) 0), 0, Sh.le.refl _, (L7.keep (L7.keep (L7.keep (L7.keep (L7.keep (L9.keep (Zt.none _ L7) (t := 13) rfl) (t := 12) rfl) (t := 7) rfl) (t := 6) rfl) (t := 1) rfl) (t := 0) rfl), R1, (by exact Ze0.start), rfl⟩ ?_
 rintro m_1 ac1 _ ⟨S1, us, i, l1, L8, R2, hI, m1⟩
 refine wp_seq (Za ?_)
 by_cases t1 : (i : Int) < (((sz) : Nat) : Int)
 ·refine so L8 rfl (bT t1 (fun _ => ZF L8 rfl rfl) fun _ L10 => sn (wp_seq (Zp L10 rfl rfl (wp_skip ((Zc (wp_seq (wp_block (wp_seq ?_)))))))))
  have hIl := hI.len; have hIe := hI.le
  refine Za (sm L10 rfl ?_)
  intro _ L11
  refine sa L11 rfl fun _ L12 => sn (wp_seq (wp_seq (Za (sm L12 rfl fun _ L13 => sm L13 rfl fun _ L14 => so L14 rfl (ZM L14 rfl Tryz.underlying30 fun _ L15 => ?_)))))
  by_cases t2 : (i : Int) < (len_d : Int)
  ·refine so L15 rfl (bT t2 (fun _ => ZF L15 rfl rfl) fun _ L16 => sn (Zp L16 rfl rfl (Za (sm L16 rfl fun _ L17 => sm L17 rfl fun _ L18 => sm L18 rfl fun _ L19 => sm L19 rfl fun _ L20 => ?_))))
   obtain ⟨b2, rest_1, rfl, r1⟩ := (hd_d.up l1).row (by omega)
   refine so L20 rfl (Zr (i) L20 rfl rfl Tryz.underlying30 ZA (by omega) (by omega) fun _ L21 => so L21 rfl (Zg (v := (.int .u64 ((d.getD (i) 0 : Nat) : Int))) L21 rfl Ym (R2.row r1) (by rw [Nat.zero_add]; exact ZX (by omega)) fun _ L22 => sm L22 rfl fun _ L23 => so L23 rfl (Za0 (i := (d.getD (i) 0)) (s := n) L23 rfl rfl (by omega) fun _ L24 => so L24 rfl (Zr (i) L24 rfl rfl Tryz.underlying30 ZA (by omega) (by omega) fun _ L25 => Zs L25 rfl rfl (Yk (cs' := (Yr (us.set (i) (((d.getD (i) 0) * 2 ^ n % 18446744073709551616))) ++ [])) L25 rfl rfl R2 ZA rfl (by simp only [List.length_append, ZH]; omega) (by rw [Nat.zero_add]; exact YS (by omega)) fun _ R3 _ L26 => sn ?_)))))
   refine wp_seq (Za (sm L26 rfl ?_))
   intro _ L27
   by_cases t3 : (0 : Int) < (i : Int)
   ·refine so L27 rfl (bT t3 (fun _ => ZS L27 rfl rfl) fun _ L28 => sm L28 rfl fun _ L29 => son L29 rfl (Zh L29 rfl fun _ L30 => son L30 rfl (Zh L30 rfl fun _ L31 => son L31 rfl (ZM L31 rfl Tryz.underlying30 fun _ L32 => ?_))))
    have t4 : (i : Int) ≤ (len_d : Int) := by omega
    refine son L32 rfl (bT t4 (fun _ => Zaj L32 rfl rfl) fun _ L33 => so L33 rfl (Zj L33 rfl rfl fun _ L34 => sm L34 rfl fun _ L35 => son L35 rfl (Zh L35 rfl fun _ L36 => ?_)))
    by_cases t5 : (0 : Int) < (n : Int)
    ·refine son L36 rfl (bT t5 (fun _ => ZS L36 rfl rfl) fun _ L37 => so L37 rfl (Zj L37 rfl rfl fun _ L38 => sn (Zp L38 rfl rfl ?_)))
     have L39 := (L38.kp [0, 1, 6, 7, 12, 13, 14, 15, 8, 16, 17, 18, 19, 20, 21, 22, 23, 24, 25, 26, 27, 28, 29, 30, 31, 32, 33, 34, 35, 36, 37, 38, 39, 40] rfl)
     refine Zu (E0 := []) (H0 := [(b1, 29, (Yr (us.set (i) (((d.getD (i) 0) * 2 ^ n % 18446744073709551616))) ++ []))]) (n := 57) mixed 12 [] (fun k => 0) (Zce [
       .is (.slice (some ⟨b1, 0, none⟩) (sz) (sz)),
       .is (.int .i64 (i : Int)),
       .is (.pointer (some ⟨b1, (0 + (i)), none⟩)),
       .is (.int .u64 (((us.set (i) (((d.getD (i) 0) * 2 ^ n % 18446744073709551616))).getD (i) 0 : Nat) : Int)),
       .is (.slice (some ⟨b2, 0, none⟩) len_d cap_d),
       .is (.int .i64 (i : Int)),
       .is (.int .i64 ((i : Int) - (1 : Int))),
       .is (.pointer (some ⟨b2, (0 + ((i - 1))), none⟩)),
       .is (.int .u64 ((d.getD ((i - 1)) 0 : Nat) : Int)),
       .is (.int .i64 (n : Int)),
       .is (.int .i64 ((64 - n : Nat) : Int)),
       .is (.int .u64 (((d.getD ((i - 1)) 0) / 2 ^ (64 - n) : Nat) : Int))]) L39 R3 (by simp) (by simp) (by rfl) (by rfl) (by simp) (ZU ?_) ?_
     ·refine (And.intro ?_ (And.intro ?_ (And.intro ?_ (And.intro ?_ (And.intro ?_ (And.intro ?_ (And.intro ?_ (And.intro ?_ (And.intro ?_ (And.intro ?_ (And.intro ?_ (And.intro ?_ trivial))))))))))))
      ·exact Zb rfl (fun _ _ _ _ _ A1 => (Zh A1.live rfl (A1.same rfl)))
      ·exact Zb rfl (fun _ _ _ _ _ A2 => (Zh A2.live rfl (A2.same rfl)))
      ·refine Zb rfl (fun _ _ _ _ _ A3 => ?_)
       obtain ⟨_, e2, rfl⟩ := A3.known 0 rfl
       obtain ⟨_, e3, rfl⟩ := A3.known 1 rfl
       exact Zr (i) ((A3.live.add e2).add e3) rfl rfl Tryz.underlying30 ZA (by omega) (by omega) (A3.same rfl)
      ·refine Zb rfl (fun _ _ _ _ _ A4 => ?_)
       obtain ⟨_, e4, rfl⟩ := A4.known 2 rfl
       exact Zg (v := (.int .u64 (((us.set (i) (((d.getD (i) 0) * 2 ^ n % 18446744073709551616))).getD (i) 0 : Nat) : Int))) (A4.live.add e4) rfl Ym (A4.run.has (List.mem_append_right _ (List.Mem.head _))) (by rw [Nat.zero_add]; exact ZX (by first | omega | (simp only [List.length_set]; omega))) (A4.same rfl)
      ·exact Zb rfl (fun _ _ _ _ _ A5 => (Zh A5.live rfl (A5.same rfl)))
      ·exact Zb rfl (fun _ _ _ _ _ A6 => (Zh A6.live rfl (A6.same rfl)))
      ·refine Zb rfl (fun _ _ _ _ _ A7 => ?_)
       obtain ⟨_, e5, rfl⟩ := A7.known 5 rfl
       exact ZR (z := ((i : Int) - (1 : Int))) (A7.live.add e5) rfl rfl (IntWalk.i64_in _ (by omega)) (A7.same rfl)
      ·refine Zb rfl (fun _ _ _ _ _ A8 => ?_)
       obtain ⟨_, e6, rfl⟩ := A8.known 4 rfl
       obtain ⟨_, e7, rfl⟩ := A8.known 6 rfl
       exact Zr ((i - 1)) ((A8.live.add e6).add e7) rfl rfl Tryz.underlying30 ZA (by omega) (by omega) (A8.same rfl)
      ·refine Zb rfl (fun _ _ _ _ _ A9 => ?_)
       obtain ⟨_, e8, rfl⟩ := A9.known 7 rfl
       exact Zg (v := (.int .u64 ((d.getD ((i - 1)) 0 : Nat) : Int))) (A9.live.add e8) rfl Ym (A9.run.row (r1.up A9.le)) (by rw [Nat.zero_add]; exact ZX (by omega)) (A9.same rfl)
      ·exact Zb rfl (fun _ _ _ _ _ A10 => (Zh A10.live rfl (A10.same rfl)))
      ·refine Zb rfl (fun _ _ _ _ _ A11 => ?_)
       obtain ⟨_, e9, rfl⟩ := A11.known 9 rfl
       exact ZR (z := ((64 - n : Nat) : Int)) (A11.live.add e9) rfl rfl (i64_to (by omega) (by omega)) (A11.same rfl)
      ·refine Zb rfl (fun _ _ _ _ _ A12 => ?_)
       obtain ⟨_, e10, rfl⟩ := A12.known 8 rfl
       obtain ⟨_, e11, rfl⟩ := A12.known 10 rfl
       exact Qh (i := (d.getD ((i - 1)) 0)) (s := (64 - n)) ((A12.live.add e10).add e11) rfl rfl (by omega) (A12.same rfl)
     ·intro S14 _ _ w16 l2 E1 R4 n1 L52 K1
      obtain ⟨_, e12, rfl⟩ := K1 0 (by decide)
      have L53 := L52.add e12; clear L52
      obtain ⟨_, e13, rfl⟩ := K1 1 (by decide)
      have L54 := L53.add e13; clear L53
      obtain ⟨_, e14, rfl⟩ := K1 2 (by decide)
      have L55 := L54.add e14; clear L54
      obtain ⟨_, e15, rfl⟩ := K1 3 (by decide)
      have L56 := L55.add e15; clear L55
      obtain ⟨_, e16, rfl⟩ := K1 4 (by decide)
      have L57 := L56.add e16; clear L56
      obtain ⟨_, e17, rfl⟩ := K1 5 (by decide)
      have L58 := L57.add e17; clear L57
      obtain ⟨_, e18, rfl⟩ := K1 6 (by decide)
      have L59 := L58.add e18; clear L58
      obtain ⟨_, e19, rfl⟩ := K1 7 (by decide)
      have L60 := L59.add e19; clear L59
      obtain ⟨_, e20, rfl⟩ := K1 8 (by decide)
      have L61 := L60.add e20; clear L60
      obtain ⟨_, e21, rfl⟩ := K1 9 (by decide)
      have L62 := L61.add e21; clear L61
      obtain ⟨_, e22, rfl⟩ := K1 10 (by decide)
      have L63 := L62.add e22; clear L62
      obtain ⟨_, e23, rfl⟩ := K1 11 (by decide)
      have L64 := L63.add e23; clear L63
      have R5 : Run _ _ S14 [(b1, 29, (Yr (us.set (i) (((d.getD (i) 0) * 2 ^ n % 18446744073709551616))) ++ []))] w16 := Yh R4 n1 [] (by simp) (by simp)
      refine so L64 rfl (Zep (i := ((us.set (i) (((d.getD (i) 0) * 2 ^ n % 18446744073709551616))).getD (i) 0)) (j := ((d.getD ((i - 1)) 0) / 2 ^ (64 - n))) (z := d.getD i 0 * 2 ^ n % 18446744073709551616 + cr d n i) L64 rfl rfl (by first | exact ZQ (Zaf hI.lt (Nat.mod_lt _ (by decide))) (by decide) _ | exact ZQ hI.lt (by decide) _) (by exact Nat.lt_of_le_of_lt (Nat.div_le_self _ _) (ZQ hd_d.hlt (by decide) _)) (by first | exact up_or1 hn hd_d.hlt (by omega) (by omega) | exact up_or0 hI (by omega) (by omega)) fun _ L65 => so L65 rfl (Zr (i) L65 rfl rfl Tryz.underlying30 ZA (by omega) (by omega) fun _ L66 => Zs L66 rfl rfl (Yk (cs' := (Yr ((us.set (i) (((d.getD (i) 0) * 2 ^ n % 18446744073709551616))).set (i) ((d.getD i 0 * 2 ^ n % 18446744073709551616 + cr d n i))) ++ [])) L66 rfl rfl R5 ZA rfl (by simp only [List.length_append, ZH]; first | omega | (simp only [List.length_set]; omega)) (by rw [Nat.zero_add]; exact YS (by first | omega | (simp only [List.length_set]; omega))) fun _ R6 _ L67 => Yy ((ZI (Zc (Za (so L67 rfl (ZJ (z := ((i : Int) + (1 : Int))) L67 rfl rfl (IntWalk.i64_in _ (by omega)) fun _ L68 => sm L68 rfl fun a54 L69 => sn ?_)))))))))
      have e24 : (((i : Int) + (1 : Int)) : Int) = (((i + 1) : Nat) : Int) := by omega
      have L70 : Zt a54 57 [(13, (.int .i64 (((i + 1) : Nat) : Int)))] := by have q := (L69.kp [13] rfl); rw [e24] at q; exact q
      exact ⟨sz - (i + 1), (by omega), S14, ((us.set (i) (((d.getD (i) 0) * 2 ^ n % 18446744073709551616))).set (i) ((d.getD i 0 * 2 ^ n % 18446744073709551616 + cr d n i))), (i + 1), (l1.trans l2), (L69.keep (L69.keep (L69.keep (L69.keep (L69.keep (L70.keep (Zt.none _ L69) (t := 13) rfl) (t := 12) rfl) (t := 7) rfl) (t := 6) rfl) (t := 1) rfl) (t := 0) rfl), R6, (by first | exact hI.step' hn hd_d.hlt (by omega) rfl | exact hI.step' hn hd_d.hlt (by omega) List.set_set | exact hI.step' hn hd_d.hlt (by omega) (List.set_set ..) | exact hI.step' hn hd_d.hlt (by omega) (Za8 hd_d.hlt (by omega)) | exact hI.step' hn hd_d.hlt (by omega) (Za9 hI (by omega) hd_d.hlt (by omega) (by omega))), rfl⟩
    ·refine son L36 rfl (bF t5 (fun _ => ZS L36 rfl rfl) fun _ L71 => so L71 rfl (Zj L71 rfl rfl fun _ L72 => sn (Zm L72 rfl rfl (wp_skip ((ZI (Zc (Za (so L72 rfl (ZJ (z := ((i : Int) + (1 : Int))) L72 rfl rfl (IntWalk.i64_in _ (by omega)) fun _ L73 => sm L73 rfl fun a58 L74 => sn ?_))))))))))
     have e25 : (((i : Int) + (1 : Int)) : Int) = (((i + 1) : Nat) : Int) := by omega
     have L75 : Zt a58 57 [(13, (.int .i64 (((i + 1) : Nat) : Int)))] := by have q := (L74.kp [13] rfl); rw [e25] at q; exact q
     exact ⟨sz - (i + 1), (by omega), S1, (us.set (i) (((d.getD (i) 0) * 2 ^ n % 18446744073709551616))), (i + 1), l1, (L74.keep (L74.keep (L74.keep (L74.keep (L74.keep (L75.keep (Zt.none _ L74) (t := 13) rfl) (t := 12) rfl) (t := 7) rfl) (t := 6) rfl) (t := 1) rfl) (t := 0) rfl), R3, (by first | exact hI.step' hn hd_d.hlt (by omega) rfl | exact hI.step' hn hd_d.hlt (by omega) List.set_set | exact hI.step' hn hd_d.hlt (by omega) (List.set_set ..) | exact hI.step' hn hd_d.hlt (by omega) (Za8 hd_d.hlt (by omega)) | exact hI.step' hn hd_d.hlt (by omega) (Za9 hI (by omega) hd_d.hlt (by omega) (by omega))), rfl⟩
   ·refine so L27 rfl (bF t3 (fun _ => ZS L27 rfl rfl) fun _ L76 => sm L76 rfl fun _ L77 => sof L77 rfl fun _ L78 => sof L78 rfl fun _ L79 => sof L79 rfl fun _ L80 => sof L80 rfl fun _ L81 => so L81 rfl (Zj L81 rfl rfl fun _ L82 => ?_))
    refine sm L82 rfl fun _ L83 => sof L83 rfl fun _ L84 => sof L84 rfl fun _ L85 => so L85 rfl (Zj L85 rfl rfl fun _ L86 => ?_)
    have L87 := (L86.kp [0, 1, 6, 7, 12, 13, 14, 15, 8, 16, 17, 18, 19, 20, 21, 22, 23, 24, 25, 26, 27, 28, 29, 30, 31, 36, 37, 40] rfl); clear L86
    refine sn (Zm L87 rfl rfl (wp_skip ((ZI (Zc (Za (so L87 rfl (ZJ (z := ((i : Int) + (1 : Int))) L87 rfl rfl (IntWalk.i64_in _ (by omega)) ?_))))))))
    intro _ L88
    refine sm L88 rfl fun a71 L89 => sn ?_
    have e26 : (((i : Int) + (1 : Int)) : Int) = (((i + 1) : Nat) : Int) := by omega
    have L90 : Zt a71 57 [(13, (.int .i64 (((i + 1) : Nat) : Int)))] := by have q := (L89.kp [13] rfl); rw [e26] at q; exact q
    exact ⟨sz - (i + 1), (by omega), S1, (us.set (i) (((d.getD (i) 0) * 2 ^ n % 18446744073709551616))), (i + 1), l1, (L89.keep (L89.keep (L89.keep (L89.keep (L89.keep (L90.keep (Zt.none _ L89) (t := 13) rfl) (t := 12) rfl) (t := 7) rfl) (t := 6) rfl) (t := 1) rfl) (t := 0) rfl), R3, (by first | exact hI.step' hn hd_d.hlt (by omega) rfl | exact hI.step' hn hd_d.hlt (by omega) List.set_set | exact hI.step' hn hd_d.hlt (by omega) (List.set_set ..) | exact hI.step' hn hd_d.hlt (by omega) (Za8 hd_d.hlt (by omega)) | exact hI.step' hn hd_d.hlt (by omega) (Za9 hI (by omega) hd_d.hlt (by omega) (by omega))), rfl⟩
  ·refine so L15 rfl (bF t2 (fun _ => ZF L15 rfl rfl) fun _ L91 => sn (Zm L91 rfl rfl (wp_skip ((Zc (wp_seq (Za (sm L91 rfl fun _ L92 => ?_))))))))
   by_cases t6 : (0 : Int) < (i : Int)
   ·refine so L92 rfl (bT t6 (fun _ => ZS L92 rfl rfl) fun _ L93 => sm L93 rfl fun _ L94 => son L94 rfl (Zh L94 rfl fun _ L95 => son L95 rfl (Zh L95 rfl fun _ L96 => son L96 rfl (ZM L96 rfl Tryz.underlying30 fun _ L97 => ?_))))
    by_cases t7 : (i : Int) ≤ (len_d : Int)
    ·refine son L97 rfl (bT t7 (fun _ => Zaj L97 rfl rfl) fun _ L98 => so L98 rfl (Zj L98 rfl rfl fun _ L99 => sm L99 rfl fun _ L100 => son L100 rfl (Zh L100 rfl fun _ L101 => ?_)))
     by_cases t8 : (0 : Int) < (n : Int)
     ·refine son L101 rfl (bT t8 (fun _ => ZS L101 rfl rfl) fun _ L102 => so L102 rfl (Zj L102 rfl rfl fun _ L103 => sn (Zp L103 rfl rfl ?_)))
      obtain ⟨b3, rest_2, rfl, r2⟩ := (hd_d.up l1).row (by omega)
      have L104 := (L103.kp [0, 1, 6, 7, 12, 13, 14, 15, 8, 16, 17, 18, 19, 29, 30, 31, 32, 33, 34, 35, 36, 37, 38, 39, 40] rfl)
      refine Zu (E0 := []) (H0 := [(b1, 29, (Yr us ++ []))]) (n := 57) mixed 12 [] (fun k => 0) (Zce [
        .is (.slice (some ⟨b1, 0, none⟩) (sz) (sz)),
        .is (.int .i64 (i : Int)),
        .is (.pointer (some ⟨b1, (0 + (i)), none⟩)),
        .is (.int .u64 ((us.getD (i) 0 : Nat) : Int)),
        .is (.slice (some ⟨b3, 0, none⟩) len_d cap_d),
        .is (.int .i64 (i : Int)),
        .is (.int .i64 ((i : Int) - (1 : Int))),
        .is (.pointer (some ⟨b3, (0 + ((i - 1))), none⟩)),
        .is (.int .u64 ((d.getD ((i - 1)) 0 : Nat) : Int)),
        .is (.int .i64 (n : Int)),
        .is (.int .i64 ((64 - n : Nat) : Int)),
        .is (.int .u64 (((d.getD ((i - 1)) 0) / 2 ^ (64 - n) : Nat) : Int))]) L104 R2 (by simp) (by simp) (by rfl) (by rfl) (by simp) (ZU ?_) ?_
      ·refine (And.intro ?_ (And.intro ?_ (And.intro ?_ (And.intro ?_ (And.intro ?_ (And.intro ?_ (And.intro ?_ (And.intro ?_ (And.intro ?_ (And.intro ?_ (And.intro ?_ (And.intro ?_ trivial))))))))))))
       ·exact Zb rfl (fun _ _ _ _ _ A13 => (Zh A13.live rfl (A13.same rfl)))
       ·exact Zb rfl (fun _ _ _ _ _ A14 => (Zh A14.live rfl (A14.same rfl)))
       ·refine Zb rfl (fun _ _ _ _ _ A15 => ?_)
        obtain ⟨_, e27, rfl⟩ := A15.known 0 rfl
        obtain ⟨_, e28, rfl⟩ := A15.known 1 rfl
        exact Zr (i) ((A15.live.add e27).add e28) rfl rfl Tryz.underlying30 ZA (by omega) (by omega) (A15.same rfl)
       ·refine Zb rfl (fun _ _ _ _ _ A16 => ?_)
        obtain ⟨_, e29, rfl⟩ := A16.known 2 rfl
        exact Zg (v := (.int .u64 ((us.getD (i) 0 : Nat) : Int))) (A16.live.add e29) rfl Ym (A16.run.has (List.mem_append_right _ (List.Mem.head _))) (by rw [Nat.zero_add]; exact ZX (by first | omega | (simp only [List.length_set]; omega))) (A16.same rfl)
       ·exact Zb rfl (fun _ _ _ _ _ A17 => (Zh A17.live rfl (A17.same rfl)))
       ·exact Zb rfl (fun _ _ _ _ _ A18 => (Zh A18.live rfl (A18.same rfl)))
       ·refine Zb rfl (fun _ _ _ _ _ A19 => ?_)
        obtain ⟨_, e30, rfl⟩ := A19.known 5 rfl
        exact ZR (z := ((i : Int) - (1 : Int))) (A19.live.add e30) rfl rfl (IntWalk.i64_in _ (by omega)) (A19.same rfl)
       ·refine Zb rfl (fun _ _ _ _ _ A20 => ?_)
        obtain ⟨_, e31, rfl⟩ := A20.known 4 rfl
        obtain ⟨_, e32, rfl⟩ := A20.known 6 rfl
        exact Zr ((i - 1)) ((A20.live.add e31).add e32) rfl rfl Tryz.underlying30 ZA (by omega) (by omega) (A20.same rfl)
       ·refine Zb rfl (fun _ _ _ _ _ A21 => ?_)
        obtain ⟨_, e33, rfl⟩ := A21.known 7 rfl
        exact Zg (v := (.int .u64 ((d.getD ((i - 1)) 0 : Nat) : Int))) (A21.live.add e33) rfl Ym (A21.run.row (r2.up A21.le)) (by rw [Nat.zero_add]; exact ZX (by omega)) (A21.same rfl)
       ·exact Zb rfl (fun _ _ _ _ _ A22 => (Zh A22.live rfl (A22.same rfl)))
       ·refine Zb rfl (fun _ _ _ _ _ A23 => ?_)
        obtain ⟨_, e34, rfl⟩ := A23.known 9 rfl
        exact ZR (z := ((64 - n : Nat) : Int)) (A23.live.add e34) rfl rfl (i64_to (by omega) (by omega)) (A23.same rfl)
       ·refine Zb rfl (fun _ _ _ _ _ A24 => ?_)
        obtain ⟨_, e35, rfl⟩ := A24.known 8 rfl
        obtain ⟨_, e36, rfl⟩ := A24.known 10 rfl
        exact Qh (i := (d.getD ((i - 1)) 0)) (s := (64 - n)) ((A24.live.add e35).add e36) rfl rfl (by omega) (A24.same rfl)
      ·intro S27 _ _ w30 l3 E2 R7 n2 L117 K2
       obtain ⟨_, e37, rfl⟩ := K2 0 (by decide)
       have L118 := L117.add e37; clear L117
       obtain ⟨_, e38, rfl⟩ := K2 1 (by decide)
       have L119 := L118.add e38; clear L118
       obtain ⟨_, e39, rfl⟩ := K2 2 (by decide)
       have L120 := L119.add e39; clear L119
       obtain ⟨_, e40, rfl⟩ := K2 3 (by decide)
       have L121 := L120.add e40; clear L120
       obtain ⟨_, e41, rfl⟩ := K2 4 (by decide)
       have L122 := L121.add e41; clear L121
       obtain ⟨_, e42, rfl⟩ := K2 5 (by decide)
       have L123 := L122.add e42; clear L122
       obtain ⟨_, e43, rfl⟩ := K2 6 (by decide)
       have L124 := L123.add e43; clear L123
       obtain ⟨_, e44, rfl⟩ := K2 7 (by decide)
       have L125 := L124.add e44; clear L124
       obtain ⟨_, e45, rfl⟩ := K2 8 (by decide)
       have L126 := L125.add e45; clear L125
       obtain ⟨_, e46, rfl⟩ := K2 9 (by decide)
       have L127 := L126.add e46; clear L126
       obtain ⟨_, e47, rfl⟩ := K2 10 (by decide)
       have L128 := L127.add e47; clear L127
       obtain ⟨_, e48, rfl⟩ := K2 11 (by decide)
       have L129 := L128.add e48; clear L128
       have R8 : Run _ _ S27 [(b1, 29, (Yr us ++ []))] w30 := Yh R7 n2 [] (by simp) (by simp)
       refine so L129 rfl (Zep (i := (us.getD (i) 0)) (j := ((d.getD ((i - 1)) 0) / 2 ^ (64 - n))) (z := d.getD i 0 * 2 ^ n % 18446744073709551616 + cr d n i) L129 rfl rfl (by first | exact ZQ (Zaf hI.lt (Nat.mod_lt _ (by decide))) (by decide) _ | exact ZQ hI.lt (by decide) _) (by exact Nat.lt_of_le_of_lt (Nat.div_le_self _ _) (ZQ hd_d.hlt (by decide) _)) (by first | exact up_or1 hn hd_d.hlt (by omega) (by omega) | exact up_or0 hI (by omega) (by omega)) fun _ L130 => so L130 rfl (Zr (i) L130 rfl rfl Tryz.underlying30 ZA (by omega) (by omega) fun _ L131 => Zs L131 rfl rfl (Yk (cs' := (Yr (us.set (i) ((d.getD i 0 * 2 ^ n % 18446744073709551616 + cr d n i))) ++ [])) L131 rfl rfl R8 ZA rfl (by simp only [List.length_append, ZH]; first | omega | (simp only [List.length_set]; omega)) (by rw [Nat.zero_add]; exact YS (by first | omega | (simp only [List.length_set]; omega))) fun _ R9 _ L132 => Yy ((ZI (Zc (Za (so L132 rfl (ZJ (z := ((i : Int) + (1 : Int))) L132 rfl rfl (IntWalk.i64_in _ (by omega)) fun _ L133 => sm L133 rfl fun a102 L134 => sn ?_)))))))))
       have e49 : (((i : Int) + (1 : Int)) : Int) = (((i + 1) : Nat) : Int) := by omega
       have L135 : Zt a102 57 [(13, (.int .i64 (((i + 1) : Nat) : Int)))] := by have q := (L134.kp [13] rfl); rw [e49] at q; exact q
       exact ⟨sz - (i + 1), (by omega), S27, (us.set (i) ((d.getD i 0 * 2 ^ n % 18446744073709551616 + cr d n i))), (i + 1), (l1.trans l3), (L134.keep (L134.keep (L134.keep (L134.keep (L134.keep (L135.keep (Zt.none _ L134) (t := 13) rfl) (t := 12) rfl) (t := 7) rfl) (t := 6) rfl) (t := 1) rfl) (t := 0) rfl), R9, (by first | exact hI.step' hn hd_d.hlt (by omega) rfl | exact hI.step' hn hd_d.hlt (by omega) List.set_set | exact hI.step' hn hd_d.hlt (by omega) (List.set_set ..) | exact hI.step' hn hd_d.hlt (by omega) (Za8 hd_d.hlt (by omega)) | exact hI.step' hn hd_d.hlt (by omega) (Za9 hI (by omega) hd_d.hlt (by omega) (by omega))), rfl⟩
     ·refine son L101 rfl (bF t8 (fun _ => ZS L101 rfl rfl) fun _ L136 => so L136 rfl (Zj L136 rfl rfl fun _ L137 => sn (Zm L137 rfl rfl (wp_skip ((ZI (Zc (Za (so L137 rfl (ZJ (z := ((i : Int) + (1 : Int))) L137 rfl rfl (IntWalk.i64_in _ (by omega)) fun _ L138 => sm L138 rfl fun a106 L139 => sn ?_))))))))))
      have e50 : (((i : Int) + (1 : Int)) : Int) = (((i + 1) : Nat) : Int) := by omega
      have L140 : Zt a106 57 [(13, (.int .i64 (((i + 1) : Nat) : Int)))] := by have q := (L139.kp [13] rfl); rw [e50] at q; exact q
      exact ⟨sz - (i + 1), (by omega), S1, us, (i + 1), l1, (L139.keep (L139.keep (L139.keep (L139.keep (L139.keep (L140.keep (Zt.none _ L139) (t := 13) rfl) (t := 12) rfl) (t := 7) rfl) (t := 6) rfl) (t := 1) rfl) (t := 0) rfl), R2, (by first | exact hI.step' hn hd_d.hlt (by omega) rfl | exact hI.step' hn hd_d.hlt (by omega) List.set_set | exact hI.step' hn hd_d.hlt (by omega) (List.set_set ..) | exact hI.step' hn hd_d.hlt (by omega) (Za8 hd_d.hlt (by omega)) | exact hI.step' hn hd_d.hlt (by omega) (Za9 hI (by omega) hd_d.hlt (by omega) (by omega))), rfl⟩
    ·refine son L97 rfl (bF t7 (fun _ => Zaj L97 rfl rfl) fun _ L141 => so L141 rfl (Zj L141 rfl rfl fun _ L142 => sm L142 rfl fun _ L143 => sof L143 rfl fun _ L144 => sof L144 rfl fun _ L145 => so L145 rfl (Zj L145 rfl rfl fun _ L146 => sn ?_)))
     refine Zm L146 rfl rfl (wp_skip ((ZI (Zc (Za (so L146 rfl (ZJ (z := ((i : Int) + (1 : Int))) L146 rfl rfl (IntWalk.i64_in _ (by omega)) ?_)))))))
     intro _ L147
     refine sm L147 rfl fun a114 L148 => sn ?_
     have e51 : (((i : Int) + (1 : Int)) : Int) = (((i + 1) : Nat) : Int) := by omega
     have L149 : Zt a114 57 [(13, (.int .i64 (((i + 1) : Nat) : Int)))] := by have q := (L148.kp [13] rfl); rw [e51] at q; exact q
     exact ⟨sz - (i + 1), (by omega), S1, us, (i + 1), l1, (L148.keep (L148.keep (L148.keep (L148.keep (L148.keep (L149.keep (Zt.none _ L148) (t := 13) rfl) (t := 12) rfl) (t := 7) rfl) (t := 6) rfl) (t := 1) rfl) (t := 0) rfl), R2, (by first | exact hI.step' hn hd_d.hlt (by omega) rfl | exact hI.step' hn hd_d.hlt (by omega) List.set_set | exact hI.step' hn hd_d.hlt (by omega) (List.set_set ..) | exact hI.step' hn hd_d.hlt (by omega) (Za8 hd_d.hlt (by omega)) | exact hI.step' hn hd_d.hlt (by omega) (Za9 hI (by omega) hd_d.hlt (by omega) (by omega))), rfl⟩
   ·refine so L92 rfl (bF t6 (fun _ => ZS L92 rfl rfl) fun _ L150 => sm L150 rfl fun _ L151 => sof L151 rfl fun _ L152 => sof L152 rfl fun _ L153 => sof L153 rfl fun _ L154 => sof L154 rfl fun _ L155 => so L155 rfl (Zj L155 rfl rfl fun _ L156 => ?_))
    refine sm L156 rfl fun _ L157 => sof L157 rfl fun _ L158 => sof L158 rfl fun _ L159 => so L159 rfl (Zj L159 rfl rfl fun _ L160 => ?_)
    have L161 := (L160.kp [0, 1, 6, 7, 12, 13, 14, 15, 8, 16, 17, 18, 19, 29, 30, 31, 36, 37, 40] rfl); clear L160
    refine sn (Zm L161 rfl rfl (wp_skip ((ZI (Zc (Za (so L161 rfl (ZJ (z := ((i : Int) + (1 : Int))) L161 rfl rfl (IntWalk.i64_in _ (by omega)) ?_))))))))
    intro _ L162
    refine sm L162 rfl fun a127 L163 => sn ?_
    have e52 : (((i : Int) + (1 : Int)) : Int) = (((i + 1) : Nat) : Int) := by omega
    have L164 : Zt a127 57 [(13, (.int .i64 (((i + 1) : Nat) : Int)))] := by have q := (L163.kp [13] rfl); rw [e52] at q; exact q
    exact ⟨sz - (i + 1), (by omega), S1, us, (i + 1), l1, (L163.keep (L163.keep (L163.keep (L163.keep (L163.keep (L164.keep (Zt.none _ L163) (t := 13) rfl) (t := 12) rfl) (t := 7) rfl) (t := 6) rfl) (t := 1) rfl) (t := 0) rfl), R2, (by first | exact hI.step' hn hd_d.hlt (by omega) rfl | exact hI.step' hn hd_d.hlt (by omega) List.set_set | exact hI.step' hn hd_d.hlt (by omega) (List.set_set ..) | exact hI.step' hn hd_d.hlt (by omega) (Za8 hd_d.hlt (by omega)) | exact hI.step' hn hd_d.hlt (by omega) (Za9 hI (by omega) hd_d.hlt (by omega) (by omega))), rfl⟩
 ·refine so L8 rfl (bF t1 (fun _ => ZF L8 rfl rfl) fun _ L165 => sn (wp_seq (Zm L165 rfl rfl (wp_exit ((Zz (Zz (YR (Zc (wp_seq ?_))))))))))
  have hIl := hI.len; have hIe := hI.le
  refine Za (sm L165 rfl ?_)
  intro _ L166
  exact sa L166 rfl fun _ L167 => sn (wp_ret ((Zo (rs := Tryz.f163.results.toList) (L167.kp [6] rfl) rfl (.tmp rfl Res.nil) (⟨_, S1, _, rfl, R2, b1, us, rfl, by rfl, by exact hI.len, by exact hI.lt, by exact hI.done (by omega) (by omega)⟩))))
set_option maxRecDepth 20000 in
theorem nat_down {S : Sh} {w : World} (hS : Ya S w) {p_d : Option Addr} {len_d cap_d : Nat} {d : List Nat} (hd_d : Dg S p_d len_d cap_d d) {n : Nat} {k : Nat} (hn : n < 64) (hk : val W64 d / 2 ^ n ≤ 2 ^ k) (hm2 : len_d ≤ 1099511627776) : Calls Tryz.prog 167 [(.slice p_d len_d cap_d), (.int .i64 ((n : Nat) : Int))].toArray w (Ret S w (fun S v => ∃ (c0 : List Value), v = .agg c0.toArray ∧ Na S c0 (val W64 d / 2 ^ n) (k))) := by
 refine ZK (n := 50) Tryz.func167 rfl rfl ?_
 intro ac0 L0
 replace L0 : Zt ac0 50 [(0, (.slice p_d len_d cap_d)), (1, (.int .i64 (n : Int)))] := L0
 have R0 : Run S w S [] w := .start hS
 have hl_d := hd_d.hlen; have hc_d := hd_d.hcap; have hg_d := hd_d.hbig
 refine wp_seq (Za (so L0 rfl (ZG (cs := zN1) ZO R0 rfl ?_)))
 intro b1 _ R1 _ L1
 refine sn (wp_seq (Za (sm L1 rfl ?_)))
 intro _ L2
 refine so L2 rfl (ZM L2 rfl Tryz.underlying30 fun _ L3 => so L3 rfl (Xs (m := len_d) (c := len_d) L3 (by first | rfl | (simp [ev, Zah]; omega)) (by first | rfl | (simp [ev, Zah]; omega)) Tryz.underlying30 Qc rfl ZA QK (by omega) (by omega) (by omega) R1 fun b2 _ R2 _ L4 => ?_))
 rw [Zcf] at R2
 refine sa L4 rfl fun _ L5 => sn (wp_seq (wp_seq (Za (sm L5 rfl fun _ L6 => so L6 rfl (ZM L6 rfl Tryz.underlying30 fun _ L7 => sm L7 rfl fun a8 L8 => sn ?_)))))
 refine wp_block ?_
 have e1 : ((0 : Int) : Int) = ((0 : Nat) : Int) := by omega
 have L10 : Zt a8 50 [(12, (.int .i64 ((0 : Nat) : Int)))] := by have q := (L8.kp [12] rfl); rw [e1] at q; exact q
 refine Yb (fun m ac ww => ∃ (S' : Sh) (us : List Nat) (i : Nat), S.le S' ∧ Zt ac 50 [(0, (.slice p_d len_d cap_d)), (1, (.int .i64 ((n : Nat) : Int))), (4, (.pointer (some ⟨b1, 0, none⟩))), (5, (.slice (some ⟨b2, 0, none⟩) (len_d) (len_d))), (11, (.int .i64 ((len_d : Nat) : Int))), (12, (.int .i64 ((i : Nat) : Int)))] ∧ Run S w S' [(b2, 29, (Yr us ++ [])), (b1, 32, zN1)] ww ∧ (Zbt d us n i) ∧ m = d.length - i)
  (d.length - 0) ⟨S, (List.replicate (len_d) 0), 0, Sh.le.refl _, (L8.keep (L8.keep (L8.keep (L8.keep (L8.keep (L10.keep (Zt.none _ L8) (t := 12) rfl) (t := 11) rfl) (t := 5) rfl) (t := 4) rfl) (t := 1) rfl) (t := 0) rfl), (ZY (ZY R2)), (by rw [← hl_d]; exact Zbt.start), rfl⟩ ?_
 rintro m_1 ac1 _ ⟨S1, us, i, l1, L9, R3, hI, m1⟩
 refine wp_seq (Za ?_)
 by_cases t1 : (i : Int) < (len_d : Int)
 ·refine so L9 rfl (bT t1 (fun _ => ZF L9 rfl rfl) fun _ L11 => sn (wp_seq (Zp L11 rfl rfl (wp_skip ((Zc (wp_seq (wp_block (wp_seq ?_)))))))))
  have hIl := hI.len; have hIe := hI.le
  refine Za (sm L11 rfl ?_)
  intro _ L12
  refine sa L12 rfl fun _ L13 => sn (wp_seq (Za (sm L13 rfl fun _ L14 => sm L14 rfl fun _ L15 => sm L15 rfl fun _ L16 => sm L16 rfl fun _ L17 => ?_)))
  obtain ⟨b3, rest_1, rfl, r1⟩ := (hd_d.up l1).row (by omega)
  refine so L17 rfl (Zr (i) L17 rfl rfl Tryz.underlying30 ZA (by omega) (by omega) fun _ L18 => so L18 rfl (Zg (v := (.int .u64 ((d.getD (i) 0 : Nat) : Int))) L18 rfl Ym (R3.row r1) (by rw [Nat.zero_add]; exact ZX (by omega)) fun _ L19 => sm L19 rfl fun _ L20 => so L20 rfl (Qh (i := (d.getD (i) 0)) (s := n) L20 rfl rfl (by omega) fun _ L21 => so L21 rfl (Zr (i) L21 rfl rfl Tryz.underlying30 ZA (by omega) (by omega) fun _ L22 => Zs L22 rfl rfl (Yk (cs' := (Yr (us.set (i) (((d.getD (i) 0) / 2 ^ n))) ++ [])) L22 rfl rfl R3 ZA rfl (by simp only [List.length_append, ZH]; omega) (by rw [Nat.zero_add]; exact YS (by omega)) fun _ R4 _ L23 => sn ?_)))))
  refine wp_seq (Za (sm L23 rfl ?_))
  intro _ L24
  refine so L24 rfl (ZJ (z := ((i : Int) + (1 : Int))) L24 rfl rfl (IntWalk.i64_in _ (by omega)) fun _ L25 => sm L25 rfl fun _ L26 => so L26 rfl (ZM L26 rfl Tryz.underlying30 fun _ L27 => ?_))
  by_cases t2 : ((i : Int) + (1 : Int)) < (len_d : Int)
  ·refine so L27 rfl (bT t2 (fun _ => ZF L27 rfl rfl) fun _ L28 => sm L28 rfl fun _ L29 => son L29 rfl (Zh L29 rfl fun _ L30 => ?_))
   by_cases t3 : (0 : Int) < (n : Int)
   ·refine son L30 rfl (bT t3 (fun _ => ZS L30 rfl rfl) fun _ L31 => so L31 rfl (Zj L31 rfl rfl fun _ L32 => sn (Zp L32 rfl rfl ?_)))
    have L33 := (L32.kp [0, 1, 4, 5, 11, 12, 13, 14, 6, 15, 16, 17, 18, 19, 20, 21, 22, 23, 24, 25, 26, 27, 28, 29, 30, 31, 32] rfl)
    refine Zu (E0 := []) (H0 := [(b2, 29, (Yr (us.set (i) (((d.getD (i) 0) / 2 ^ n))) ++ [])), (b1, 32, zN1)]) (n := 50) mixed 12 [] (fun k => 0) (Zce [
      .is (.slice (some ⟨b2, 0, none⟩) (len_d) (len_d)),
      .is (.int .i64 (i : Int)),
      .is (.pointer (some ⟨b2, (0 + (i)), none⟩)),
      .is (.int .u64 (((us.set (i) (((d.getD (i) 0) / 2 ^ n))).getD (i) 0 : Nat) : Int)),
      .is (.slice (some ⟨b3, 0, none⟩) len_d cap_d),
      .is (.int .i64 (i : Int)),
      .is (.int .i64 ((i : Int) + (1 : Int))),
      .is (.pointer (some ⟨b3, (0 + ((i + 1))), none⟩)),
      .is (.int .u64 ((d.getD ((i + 1)) 0 : Nat) : Int)),
      .is (.int .i64 (n : Int)),
      .is (.int .i64 ((64 - n : Nat) : Int)),
      .is (.int .u64 (((d.getD ((i + 1)) 0) * 2 ^ (64 - n) % 18446744073709551616 : Nat) : Int))]) L33 R4 (by simp) (by simp) (by rfl) (by rfl) (by simp) (ZU ?_) ?_
    ·refine (And.intro ?_ (And.intro ?_ (And.intro ?_ (And.intro ?_ (And.intro ?_ (And.intro ?_ (And.intro ?_ (And.intro ?_ (And.intro ?_ (And.intro ?_ (And.intro ?_ (And.intro ?_ trivial))))))))))))
     ·exact Zb rfl (fun _ _ _ _ _ A1 => (Zh A1.live rfl (A1.same rfl)))
     ·exact Zb rfl (fun _ _ _ _ _ A2 => (Zh A2.live rfl (A2.same rfl)))
     ·refine Zb rfl (fun _ _ _ _ _ A3 => ?_)
      obtain ⟨_, e2, rfl⟩ := A3.known 0 rfl
      obtain ⟨_, e3, rfl⟩ := A3.known 1 rfl
      exact Zr (i) ((A3.live.add e2).add e3) rfl rfl Tryz.underlying30 ZA (by omega) (by omega) (A3.same rfl)
     ·refine Zb rfl (fun _ _ _ _ _ A4 => ?_)
      obtain ⟨_, e4, rfl⟩ := A4.known 2 rfl
      exact Zg (v := (.int .u64 (((us.set (i) (((d.getD (i) 0) / 2 ^ n))).getD (i) 0 : Nat) : Int))) (A4.live.add e4) rfl Ym (A4.run.has (List.mem_append_right _ (List.Mem.head _))) (by rw [Nat.zero_add]; exact ZX (by first | omega | (simp only [List.length_set]; omega))) (A4.same rfl)
     ·exact Zb rfl (fun _ _ _ _ _ A5 => (Zh A5.live rfl (A5.same rfl)))
     ·exact Zb rfl (fun _ _ _ _ _ A6 => (Zh A6.live rfl (A6.same rfl)))
     ·refine Zb rfl (fun _ _ _ _ _ A7 => ?_)
      obtain ⟨_, e5, rfl⟩ := A7.known 5 rfl
      exact ZJ (z := ((i : Int) + (1 : Int))) (A7.live.add e5) rfl rfl (IntWalk.i64_in _ (by omega)) (A7.same rfl)
     ·refine Zb rfl (fun _ _ _ _ _ A8 => ?_)
      obtain ⟨_, e6, rfl⟩ := A8.known 4 rfl
      obtain ⟨_, e7, rfl⟩ := A8.known 6 rfl
      exact Zr ((i + 1)) ((A8.live.add e6).add e7) rfl rfl Tryz.underlying30 ZA (by omega) (by omega) (A8.same rfl)
     ·refine Zb rfl (fun _ _ _ _ _ A9 => ?_)
      obtain ⟨_, e8, rfl⟩ := A9.known 7 rfl
      exact Zg (v := (.int .u64 ((d.getD ((i + 1)) 0 : Nat) : Int))) (A9.live.add e8) rfl Ym (A9.run.row (r1.up A9.le)) (by rw [Nat.zero_add]; exact ZX (by omega)) (A9.same rfl)
     ·exact Zb rfl (fun _ _ _ _ _ A10 => (Zh A10.live rfl (A10.same rfl)))
     ·refine Zb rfl (fun _ _ _ _ _ A11 => ?_)
      obtain ⟨_, e9, rfl⟩ := A11.known 9 rfl
      exact ZR (z := ((64 - n : Nat) : Int)) (A11.live.add e9) rfl rfl (i64_to (by omega) (by omega)) (A11.same rfl)
     ·refine Zb rfl (fun _ _ _ _ _ A12 => ?_)
      obtain ⟨_, e10, rfl⟩ := A12.known 8 rfl
      obtain ⟨_, e11, rfl⟩ := A12.known 10 rfl
      exact Za0 (i := (d.getD ((i + 1)) 0)) (s := (64 - n)) ((A12.live.add e10).add e11) rfl rfl (by omega) (A12.same rfl)
    ·intro S14 _ _ w17 l2 E1 R5 n1 L46 K1
     obtain ⟨_, e12, rfl⟩ := K1 0 (by decide)
     have L47 := L46.add e12; clear L46
     obtain ⟨_, e13, rfl⟩ := K1 1 (by decide)
     have L48 := L47.add e13; clear L47
     obtain ⟨_, e14, rfl⟩ := K1 2 (by decide)
     have L49 := L48.add e14; clear L48
     obtain ⟨_, e15, rfl⟩ := K1 3 (by decide)
     have L50 := L49.add e15; clear L49
     obtain ⟨_, e16, rfl⟩ := K1 4 (by decide)
     have L51 := L50.add e16; clear L50
     obtain ⟨_, e17, rfl⟩ := K1 5 (by decide)
     have L52 := L51.add e17; clear L51
     obtain ⟨_, e18, rfl⟩ := K1 6 (by decide)
     have L53 := L52.add e18; clear L52
     obtain ⟨_, e19, rfl⟩ := K1 7 (by decide)
     have L54 := L53.add e19; clear L53
     obtain ⟨_, e20, rfl⟩ := K1 8 (by decide)
     have L55 := L54.add e20; clear L54
     obtain ⟨_, e21, rfl⟩ := K1 9 (by decide)
     have L56 := L55.add e21; clear L55
     obtain ⟨_, e22, rfl⟩ := K1 10 (by decide)
     have L57 := L56.add e22; clear L56
     obtain ⟨_, e23, rfl⟩ := K1 11 (by decide)
     have L58 := L57.add e23; clear L57
     have R6 : Run _ _ S14 [(b2, 29, (Yr (us.set (i) (((d.getD (i) 0) / 2 ^ n))) ++ [])), (b1, 32, zN1)] w17 := Yh R5 n1 [] (by simp) (by simp)
     refine so L58 rfl (Zep (i := ((us.set (i) (((d.getD (i) 0) / 2 ^ n))).getD (i) 0)) (j := ((d.getD ((i + 1)) 0) * 2 ^ (64 - n) % 18446744073709551616)) (z := d.getD i 0 / 2 ^ n + 2 ^ (64 - n) * (d.getD (i + 1) 0 % 2 ^ n)) L58 rfl rfl (by exact ZQ (Zaf hI.lt (Nat.lt_of_le_of_lt (Nat.div_le_self _ _) (ZQ hd_d.hlt (by decide) _))) (by decide) _) (by exact Nat.mod_lt _ (by decide)) (by exact down_or1 hn hd_d.hlt (by omega)) fun _ L59 => so L59 rfl (Zr (i) L59 rfl rfl Tryz.underlying30 ZA (by omega) (by omega) fun _ L60 => Zs L60 rfl rfl (Yk (cs' := (Yr ((us.set (i) (((d.getD (i) 0) / 2 ^ n))).set (i) ((d.getD i 0 / 2 ^ n + 2 ^ (64 - n) * (d.getD (i + 1) 0 % 2 ^ n)))) ++ [])) L60 rfl rfl R6 ZA rfl (by simp only [List.length_append, ZH]; first | omega | (simp only [List.length_set]; omega)) (by rw [Nat.zero_add]; exact YS (by first | omega | (simp only [List.length_set]; omega))) fun _ R7 _ L61 => Yy ((ZI (Zc (Za (so L61 rfl (ZJ (z := ((i : Int) + (1 : Int))) L61 rfl rfl (IntWalk.i64_in _ (by omega)) fun _ L62 => sm L62 rfl fun a48 L63 => sn ?_)))))))))
     have e24 : (((i : Int) + (1 : Int)) : Int) = (((i + 1) : Nat) : Int) := by omega
     have L64 : Zt a48 50 [(12, (.int .i64 (((i + 1) : Nat) : Int)))] := by have q := (L63.kp [12] rfl); rw [e24] at q; exact q
     exact ⟨d.length - (i + 1), (by omega), S14, ((us.set (i) (((d.getD (i) 0) / 2 ^ n))).set (i) ((d.getD i 0 / 2 ^ n + 2 ^ (64 - n) * (d.getD (i + 1) 0 % 2 ^ n)))), (i + 1), (l1.trans l2), (L63.keep (L63.keep (L63.keep (L63.keep (L63.keep (L64.keep (Zt.none _ L63) (t := 12) rfl) (t := 11) rfl) (t := 5) rfl) (t := 4) rfl) (t := 1) rfl) (t := 0) rfl), (ZY (ZY R7)), (by first | exact hI.step hn hd_d.hlt (by omega) List.set_set | exact hI.step hn hd_d.hlt (by omega) (List.set_set ..) | exact hI.step hn hd_d.hlt (by omega) (down_case0 (by omega))), rfl⟩
   ·refine son L30 rfl (bF t3 (fun _ => ZS L30 rfl rfl) fun _ L65 => so L65 rfl (Zj L65 rfl rfl fun _ L66 => sn (Zm L66 rfl rfl (wp_skip ((ZI (Zc (Za (so L66 rfl (ZJ (z := ((i : Int) + (1 : Int))) L66 rfl rfl (IntWalk.i64_in _ (by omega)) fun _ L67 => sm L67 rfl fun a52 L68 => sn ?_))))))))))
    have e25 : (((i : Int) + (1 : Int)) : Int) = (((i + 1) : Nat) : Int) := by omega
    have L69 : Zt a52 50 [(12, (.int .i64 (((i + 1) : Nat) : Int)))] := by have q := (L68.kp [12] rfl); rw [e25] at q; exact q
    exact ⟨d.length - (i + 1), (by omega), S1, (us.set (i) (((d.getD (i) 0) / 2 ^ n))), (i + 1), l1, (L68.keep (L68.keep (L68.keep (L68.keep (L68.keep (L69.keep (Zt.none _ L68) (t := 12) rfl) (t := 11) rfl) (t := 5) rfl) (t := 4) rfl) (t := 1) rfl) (t := 0) rfl), (ZY (ZY R4)), (by first | exact hI.step hn hd_d.hlt (by omega) List.set_set | exact hI.step hn hd_d.hlt (by omega) (List.set_set ..) | exact hI.step hn hd_d.hlt (by omega) (down_case0 (by omega))), rfl⟩
  ·refine so L27 rfl (bF t2 (fun _ => ZF L27 rfl rfl) fun _ L70 => sm L70 rfl fun _ L71 => sof L71 rfl fun _ L72 => sof L72 rfl fun _ L73 => so L73 rfl (Zj L73 rfl rfl fun _ L74 => sn (Zm L74 rfl rfl (wp_skip ((ZI (Zc ?_)))))))
   refine Za (so L74 rfl (ZJ (z := ((i : Int) + (1 : Int))) L74 rfl rfl (IntWalk.i64_in _ (by omega)) ?_))
   intro _ L75
   refine sm L75 rfl fun a59 L76 => sn ?_
   have e26 : (((i : Int) + (1 : Int)) : Int) = (((i + 1) : Nat) : Int) := by omega
   have L77 : Zt a59 50 [(12, (.int .i64 (((i + 1) : Nat) : Int)))] := by have q := (L76.kp [12] rfl); rw [e26] at q; exact q
   exact ⟨d.length - (i + 1), (by omega), S1, (us.set (i) (((d.getD (i) 0) / 2 ^ n))), (i + 1), l1, (L76.keep (L76.keep (L76.keep (L76.keep (L76.keep (L77.keep (Zt.none _ L76) (t := 12) rfl) (t := 11) rfl) (t := 5) rfl) (t := 4) rfl) (t := 1) rfl) (t := 0) rfl), (ZY (ZY R4)), (by first | exact hI.step hn hd_d.hlt (by omega) List.set_set | exact hI.step hn hd_d.hlt (by omega) (List.set_set ..) | exact hI.step hn hd_d.hlt (by omega) (down_case0 (by omega))), rfl⟩
 ·refine so L9 rfl (bF t1 (fun _ => ZF L9 rfl rfl) fun _ L78 => sn (wp_seq (Zm L78 rfl rfl (wp_exit ((Zz (Zz (YR (Zc (wp_seq ?_))))))))))
  have hIl := hI.len; have hIe := hI.le
  refine Za (sm L78 rfl ?_)
  intro _ L79
  obtain ⟨S15, l3, r2, R8⟩ := (R3).freeze
  have hd1 : Dg S15 (some ⟨b2, 0, none⟩) (len_d) (len_d) us := ⟨by first | rfl | omega, by omega, by omega, hI.lt, fun _ => ⟨_, _, rfl, r2⟩⟩
  refine so L79 rfl (Zl L79 rfl Zbj (Zbe R8.holds (k := k) hd1 (by rw [hI.done (by omega)]; exact hk)) fun v_1 _ _ x1 v1 => ?_)
  have R9 := R8.call x1
  obtain ⟨c1, rfl, h1⟩ := v1
  intro _ L80
  exact Zs L80 rfl rfl (Zi L80 rfl rfl R9 Zk h1.len rfl h1.ones fun _ R10 _ L81 => (sn (wp_ret ((Zo (rs := Tryz.f167.results.toList) (L81.kp [4] rfl) rfl (Res.aggW rfl ZE Zk (R10.has (List.Mem.head _)) h1.len Res.nil) (⟨_, _, rfl, R10.ext, ⟨_, rfl, (h1.to (by exact hI.done (by omega)) (by omega))⟩⟩))))))
end Go.Cham
namespace Go.Cham
open Go Go.RowKit Go.Proofs
set_option maxRecDepth 20000 in
theorem nat_short {S0 S : Sh} {w0 w : World} {H0 : Own} {b_d off_d len_d cap_d : Nat} {d : List Nat} {rest_d : List Value} {dv : Nat} (R0 : Run S0 w0 S ((b_d, 29, (Yr d ++ rest_d)) :: H0) w) (h0 : 0 < dv) (hdv : dv < 18446744073709551616) (hoff : off_d = 0) (hlen : len_d = d.length) (hlt : ∀ e ∈ d, e < 18446744073709551616) (hbig : len_d ≤ 281474976710656) : Calls Tryz.prog 134 [(.slice (some ⟨b_d, off_d, none⟩) len_d cap_d), (.int .u64 ((dv : Nat) : Int))].toArray w (RetO S0 w0 S b_d 29 rest_d H0 (fun S v ds => v = .int .u64 (((val W64 d % dv : Nat) : Int)) ∧ ds.length = d.length ∧ (∀ e ∈ ds, e < 18446744073709551616) ∧ val W64 ds = val W64 d / dv)) := by
 refine ZK (n := 28) Tryz.func134 rfl rfl ?_
 intro ac0 L0
 replace L0 : Zt ac0 28 [(0, (.slice (some ⟨b_d, off_d, none⟩) len_d cap_d)), (1, (.int .u64 (dv : Int)))] := L0
 refine wp_seq (Za (sa L0 rfl ?_))
 intro _ L1
 refine sn (wp_seq (Za (sa L1 rfl ?_)))
 intro _ L2
 refine sn (wp_seq (wp_seq (Za (sm L2 rfl ?_))))
 intro _ L3
 refine so L3 rfl (ZM L3 rfl Tryz.underlying30 fun _ L4 => so L4 rfl (ZR (z := ((len_d : Int) - (1 : Int))) L4 rfl rfl (IntWalk.i64_in _ (by omega)) fun _ L5 => sa L5 rfl fun a6 L6 => sn (wp_block ?_)))
 have e1 : ((0 : Int) : Int) = ((0 : Nat) : Int) := by omega
 have L8 : Zt a6 28 [(5, (.int .u64 ((0 : Nat) : Int)))] := by have q := (L6.kp [5] rfl); rw [e1] at q; exact q
 have e2 : (((len_d : Int) - (1 : Int)) : Int) = (((d.length : Nat) : Int) - (1 : Int)) := by omega
 have L9 : Zt a6 28 [(6, (.int .i64 (((d.length : Nat) : Int) - (1 : Int))))] := by have q := (L6.kp [6] rfl); rw [e2] at q; exact q
 refine Yb (fun m ac ww => ∃ (S' : Sh) (us : List Nat) (k : Nat) (r : Nat), S.le S' ∧ Zt ac 28 [(0, (.slice (some ⟨b_d, off_d, none⟩) len_d cap_d)), (1, (.int .u64 ((dv : Nat) : Int))), (4, (.int .u64 (0 : Int))), (5, (.int .u64 ((r : Nat) : Int))), (6, (.int .i64 (((k : Nat) : Int) - (1 : Int))))] ∧ Run S0 w0 S' ((b_d, 29, (Yr us ++ rest_d)) :: H0) ww ∧ (QL d us dv k r) ∧ m = k)
  (d.length) ⟨S, d, d.length, 0, Sh.le.refl _, (L6.keep (L6.keep (L6.keep (L8.keep (L9.keep (Zt.none _ L6) (t := 6) rfl) (t := 5) rfl) (t := 4) rfl) (t := 1) rfl) (t := 0) rfl), R0, (by exact QL.start hlt h0), rfl⟩ ?_
 rintro m_1 ac1 _ ⟨S1, us, k, r, l1, L7, R1, hI, m1⟩
 refine wp_seq (wp_seq (Za (sm L7 rfl ?_)))
 intro _ L10
 by_cases t1 : (0 : Int) ≤ ((k : Int) - (1 : Int))
 ·refine so L10 rfl (bT t1 (fun _ => YL L10 rfl rfl) fun _ L11 => sn (Zp L11 rfl rfl (wp_skip ((Zc (wp_seq (wp_block ?_)))))))
  have hIe := hI.le; have hIl := hI.len; have hIr := hI.hr
  refine Za (sm L11 rfl ?_)
  intro _ L12
  refine sm L12 rfl fun _ L13 => sm L13 rfl fun _ L14 => sm L14 rfl fun _ L15 => sm L15 rfl fun _ L16 => so L16 rfl (Zr ((k - 1)) L16 rfl rfl Tryz.underlying30 ZA (by omega) (by omega) fun _ L17 => so L17 rfl (Zg (v := (.int .u64 ((us.getD (off_d + ((k - 1))) 0 : Nat) : Int))) L17 rfl Ym (R1.has (List.Mem.head _)) (ZX (by omega)) fun _ L18 => sm L18 rfl fun _ L19 => ?_))
  refine so L19 rfl (Zl L19 rfl ent_161 (Zb4 R1.holds (h := r) (lo := (us.getD (off_d + ((k - 1))) 0)) (y := dv) (by omega) (ZQ hI.lt (by decide) _) (by omega)) fun v_1 S2 _ x1 v1 => ?_)
  have R2 := R1.call x1; have l2 := x1.le
  obtain rfl := v1
  intro _ L20
  refine sm L20 rfl fun _ L21 => so L21 rfl (Zf L21 rfl rfl fun _ L22 => so L22 rfl (Zf L22 rfl rfl fun _ L23 => so L23 rfl (Zr ((k - 1)) L23 rfl rfl Tryz.underlying30 ZA (by omega) (by omega) fun _ L24 => Zs L24 rfl rfl (Yk (cs' := (Yr (us.set (off_d + ((k - 1))) (((r * 18446744073709551616 + (us.getD (off_d + ((k - 1))) 0)) / dv))) ++ rest_d)) L24 rfl rfl R2 ZA rfl (by simp only [List.length_append, ZH]; omega) (by exact YS (by omega)) fun _ R3 _ L25 => sa L25 rfl fun _ L26 => Yy ((ZI (Zc ?_)))))))
  refine Za (sm L26 rfl ?_)
  intro _ L27
  refine so L27 rfl (ZR (z := (((k : Int) - (1 : Int)) - (1 : Int))) L27 rfl rfl (IntWalk.i64_in _ (by omega)) fun _ L28 => sa L28 rfl fun a26 L29 => sn ?_)
  have e3 : ((((r * 18446744073709551616 + (us.getD (off_d + ((k - 1))) 0)) % dv : Nat) : Int) : Int) = ((((r * 18446744073709551616 + (us.getD (off_d + ((k - 1))) 0)) % dv) : Nat) : Int) := by omega
  have L30 : Zt a26 28 [(5, (.int .u64 ((((r * 18446744073709551616 + (us.getD (off_d + ((k - 1))) 0)) % dv) : Nat) : Int)))] := by have q := (L29.kp [5] rfl); rw [e3] at q; exact q
  have e4 : ((((k : Int) - (1 : Int)) - (1 : Int)) : Int) = ((((k - 1) : Nat) : Int) - (1 : Int)) := by omega
  have L31 : Zt a26 28 [(6, (.int .i64 ((((k - 1) : Nat) : Int) - (1 : Int))))] := by have q := (L29.kp [6] rfl); rw [e4] at q; exact q
  exact ⟨(k - 1), (by omega), S2, (us.set (off_d + ((k - 1))) (((r * 18446744073709551616 + (us.getD (off_d + ((k - 1))) 0)) / dv))), (k - 1), ((r * 18446744073709551616 + (us.getD (off_d + ((k - 1))) 0)) % dv), (l1.trans l2), (L29.keep (L29.keep (L29.keep (L30.keep (L31.keep (Zt.none _ L29) (t := 6) rfl) (t := 5) rfl) (t := 4) rfl) (t := 1) rfl) (t := 0) rfl), R3, (by exact hI.step (by omega) (by omega) rfl rfl hlt), rfl⟩
 ·refine so L10 rfl (bF t1 (fun _ => YL L10 rfl rfl) fun _ L32 => sn (Zm L32 rfl rfl (wp_exit ((Zz (Zz (YR (Zc (wp_seq (Za (sm L32 rfl fun _ L33 => sa L33 rfl fun _ L34 => sn (wp_ret ((Zo (rs := Tryz.f134.results.toList) (L34.kp [4] rfl) rfl (.tmp rfl Res.nil) ?_))))))))))))))
  have hIe := hI.le
  obtain rfl : k = 0 := by omega
  obtain ⟨hq_, hr_⟩ := hI.done
  exact ⟨_, S1, us, rfl, l1, R1, ⟨by rw [← hr_]; rfl, by exact hI.len, by exact hI.lt, by exact hq_⟩⟩
set_option maxRecDepth 20000 in
theorem nat_away {S0 S : Sh} {w0 w : World} {H0 : Own} {b_p off_p len_p cap_p : Nat} {p : List Nat} {rest_p : List Value} {p_u : Option Addr} {len_u cap_u : Nat} {u : List Nat} (hd_u : Dg S p_u len_u cap_u u) {d : Nat} (R0 : Run S0 w0 S ((b_p, 29, (Yr p ++ rest_p)) :: H0) w) (hlt : ∀ e ∈ p, e < 18446744073709551616) (hfit : off_p + len_p ≤ p.length) (hul : len_u < len_p) (hd : d < 18446744073709551616) (hlp : len_p ≤ 1099511627777) : Calls Tryz.prog 165 [(.slice (some ⟨b_p, off_p, none⟩) len_p cap_p), (.slice p_u len_u cap_u), (.int .u64 ((d : Nat) : Int))].toArray w (RetO S0 w0 S b_p 29 rest_p H0 (fun S v ds => ∃ (bw : Nat), v = .bool (decide (bw ≠ 0)) ∧ ds.length = p.length ∧ (∀ e ∈ ds, e < 18446744073709551616) ∧ bw ≤ 1 ∧ val W64 ds + W64 ^ off_p * (val W64 u * d) = val W64 p + W64 ^ (off_p + len_p) * bw ∧ (∀ j, j < off_p ∨ off_p + len_p ≤ j → ds.getD j 0 = p.getD j 0))) := by
 refine ZK (n := 56) Tryz.func165 rfl rfl ?_
 intro ac0 L0
 replace L0 : Zt ac0 56 [(0, (.slice (some ⟨b_p, off_p, none⟩) len_p cap_p)), (1, (.slice p_u len_u cap_u)), (2, (.int .u64 (d : Int)))] := L0
 have hl_u := hd_u.hlen; have hc_u := hd_u.hcap; have hg_u := hd_u.hbig
 refine wp_seq (Za (sa L0 rfl ?_))
 intro _ L1
 refine sn (wp_seq (Za (sa L1 rfl ?_)))
 intro _ L2
 refine sa L2 rfl fun _ L3 => sn (wp_seq (wp_seq (Za (sm L3 rfl fun _ L4 => so L4 rfl (ZM L4 rfl Tryz.underlying30 fun _ L5 => sm L5 rfl fun a6 L6 => sn ?_)))))
 refine wp_block ?_
 have e1 : ((0 : Int) : Int) = ((0 : Nat) : Int) := by omega
 have L8 : Zt a6 56 [(7, (.int .u64 ((0 : Nat) : Int)))] := by have q := (L6.kp [7] rfl); rw [e1] at q; exact q
 have e2 : ((0 : Int) : Int) = ((0 : Nat) : Int) := by omega
 have L9 : Zt a6 56 [(8, (.int .u64 ((0 : Nat) : Int)))] := by have q := (L6.kp [8] rfl); rw [e2] at q; exact q
 have e3 : ((0 : Int) : Int) = ((0 : Nat) : Int) := by omega
 have L10 : Zt a6 56 [(15, (.int .i64 ((0 : Nat) : Int)))] := by have q := (L6.kp [15] rfl); rw [e3] at q; exact q
 refine Yb (fun m ac ww => ∃ (S' : Sh) (us : List Nat) (i : Nat) (c : Nat) (bo : Nat), S.le S' ∧ Zt ac 56 [(0, (.slice (some ⟨b_p, off_p, none⟩) len_p cap_p)), (1, (.slice p_u len_u cap_u)), (2, (.int .u64 ((d : Nat) : Int))), (6, (.bool false)), (7, (.int .u64 ((c : Nat) : Int))), (8, (.int .u64 ((bo : Nat) : Int))), (14, (.int .i64 ((len_p : Nat) : Int))), (15, (.int .i64 ((i : Nat) : Int)))] ∧ Run S0 w0 S' ((b_p, 29, (Yr us ++ rest_p)) :: H0) ww ∧ (Zd2 p u us off_p d i c bo) ∧ (i ≤ len_p) ∧ m = len_p - i)
  (len_p - 0) ⟨S, p, 0, 0, 0, Sh.le.refl _, (L6.keep (L6.keep (L6.keep (L6.keep (L8.keep (L9.keep (L6.keep (L10.keep (Zt.none _ L6) (t := 15) rfl) (t := 14) rfl) (t := 8) rfl) (t := 7) rfl) (t := 6) rfl) (t := 2) rfl) (t := 1) rfl) (t := 0) rfl), R0, (by exact Zd2.start hlt), (by omega), rfl⟩ ?_
 rintro m_1 ac1 _ ⟨S1, us, i, c, bo, l1, L7, R1, hI, hi, m1⟩
 refine wp_seq (Za ?_)
 by_cases t1 : (i : Int) < (len_p : Int)
 ·refine so L7 rfl (bT t1 (fun _ => ZF L7 rfl rfl) fun _ L11 => sn (wp_seq (Zp L11 rfl rfl (wp_skip ((Zc (wp_seq (wp_block (wp_seq ?_)))))))))
  have hms := (mul_step (x := u.getD i 0) (y := d) (c := c) (u := 0) (ZQ hd_u.hlt (by decide) _) hd hI.hc (by decide)).1; have hIl := hI.len; have hIb := hI.hb; have hIc := hI.hc
  refine Za (sm L11 rfl ?_)
  intro _ L12
  refine sa L12 rfl fun _ L13 => sn (wp_seq (Za (sa L13 rfl fun _ L14 => sa L14 rfl fun _ L15 => sa L15 rfl fun _ L16 => sn (wp_seq ?_))))
  refine wp_seq (Za (sm L16 rfl ?_))
  intro _ L17
  refine sm L17 rfl fun _ L18 => so L18 rfl (ZM L18 rfl Tryz.underlying30 fun _ L19 => ?_)
  by_cases t2 : (i : Int) < (len_u : Int)
  ·refine so L19 rfl (bT t2 (fun _ => ZF L19 rfl rfl) fun _ L20 => sn (Zp L20 rfl rfl (Za (sm L20 rfl fun _ L21 => sm L21 rfl fun _ L22 => ?_))))
   obtain ⟨b1, rest_1, rfl, r1⟩ := (hd_u.up l1).row (by omega)
   refine so L22 rfl (Zr (i) L22 rfl rfl Tryz.underlying30 ZA (by omega) (by omega) fun _ L23 => so L23 rfl (Zg (v := (.int .u64 ((u.getD (i) 0 : Nat) : Int))) L23 rfl Ym (R1.row r1) (by rw [Nat.zero_add]; exact ZX (by omega)) fun _ L24 => sm L24 rfl fun _ L25 => so L25 rfl (Zl L25 rfl ent_139 (Qk R1.holds (x := (u.getD (i) 0)) (y := d) (ZQ hd_u.hlt (by decide) _) (hd)) fun v_1 S2 _ x1 v1 => ?_)))
   have R2 := R1.call x1; have l2 := x1.le
   obtain rfl := v1
   intro _ L26
   refine sm L26 rfl fun _ L27 => so L27 rfl (Zf L27 rfl rfl fun _ L28 => so L28 rfl (Zf L28 rfl rfl fun _ L29 => sa L29 rfl fun _ L30 => sa L30 rfl fun _ L31 => sn (wp_seq (Za ?_))))
   refine sm L31 rfl fun _ L32 => sm L32 rfl fun _ L33 => so L33 rfl (YE (x := ((u.getD (i) 0) * d % 18446744073709551616)) (y := c) (c := 0) L33 rfl (by omega) fun _ L34 => sm L34 rfl fun _ L35 => so L35 rfl (Zf L35 rfl rfl fun _ L36 => so L36 rfl (Zf L36 rfl rfl fun _ L37 => sa L37 rfl fun _ L38 => ?_)))
   refine sa L38 rfl fun _ L39 => sn (wp_seq (Za (sm L39 rfl fun _ L40 => sm L40 rfl fun _ L41 => so L41 rfl (ZJ (z := ((((u.getD (i) 0) * d / 18446744073709551616 : Nat) : Int) + (((((u.getD (i) 0) * d % 18446744073709551616) + c + 0) / 18446744073709551616 : Nat) : Int))) L41 rfl rfl (IntWalk.u64_in _ (by omega)) fun _ L42 => sa L42 rfl fun _ L43 => ?_))))
   refine sn (Za (sm L43 rfl ?_))
   intro _ L44
   refine sm L44 rfl fun _ L45 => sm L45 rfl fun _ L46 => sm L46 rfl fun _ L47 => so L47 rfl (Zr (i) L47 rfl rfl Tryz.underlying30 ZA (by omega) (by omega) fun _ L48 => so L48 rfl (Zg (v := (.int .u64 ((us.getD (off_p + (i)) 0 : Nat) : Int))) L48 rfl Ym (R2.has (List.Mem.head _)) (ZX (by omega)) fun _ L49 => sm L49 rfl fun _ L50 => sm L50 rfl fun _ L51 => ?_))
   refine so L51 rfl (Zcz (x := (us.getD (off_p + (i)) 0)) (y := ((((u.getD (i) 0) * d % 18446744073709551616) + c + 0) % 18446744073709551616)) (c := bo) L51 rfl (by omega) fun _ L52 => sm L52 rfl fun _ L53 => so L53 rfl (Zf L53 rfl rfl fun _ L54 => so L54 rfl (Zf L54 rfl rfl fun _ L55 => so L55 rfl (Zr (i) L55 rfl rfl Tryz.underlying30 ZA (by omega) (by omega) fun _ L56 => Zs L56 rfl rfl (Yk (cs' := (Yr (us.set (off_p + (i)) ((((us.getD (off_p + (i)) 0) + 18446744073709551616 - ((((u.getD (i) 0) * d % 18446744073709551616) + c + 0) % 18446744073709551616) - bo) % 18446744073709551616))) ++ rest_p)) L56 rfl rfl R2 ZA rfl (by simp only [List.length_append, ZH]; omega) (by exact YS (by omega)) fun _ R3 _ L57 => sa L57 rfl fun _ L58 => ?_)))))
   refine Yy ((ZI (Zc (Za (so L58 rfl (ZJ (z := ((i : Int) + (1 : Int))) L58 rfl rfl (IntWalk.i64_in _ (by omega)) ?_))))))
   intro _ L59
   refine sm L59 rfl fun a56 L60 => sn ?_
   have e4 : (((((u.getD (i) 0) * d / 18446744073709551616 : Nat) : Int) + (((((u.getD (i) 0) * d % 18446744073709551616) + c + 0) / 18446744073709551616 : Nat) : Int)) : Int) = (((((u.getD (i) 0) * d / 18446744073709551616) + ((((u.getD (i) 0) * d % 18446744073709551616) + c + 0) / 18446744073709551616)) : Nat) : Int) := by omega
   have L61 : Zt a56 56 [(7, (.int .u64 (((((u.getD (i) 0) * d / 18446744073709551616) + ((((u.getD (i) 0) * d % 18446744073709551616) + c + 0) / 18446744073709551616)) : Nat) : Int)))] := by have q := (L60.kp [7] rfl); rw [e4] at q; exact q
   have e5 : (((if (us.getD (off_p + (i)) 0) < ((((u.getD (i) 0) * d % 18446744073709551616) + c + 0) % 18446744073709551616) + bo then 1 else 0 : Nat) : Int) : Int) = (((if (us.getD (off_p + (i)) 0) < ((((u.getD (i) 0) * d % 18446744073709551616) + c + 0) % 18446744073709551616) + bo then 1 else 0) : Nat) : Int) := by omega
   have L62 : Zt a56 56 [(8, (.int .u64 (((if (us.getD (off_p + (i)) 0) < ((((u.getD (i) 0) * d % 18446744073709551616) + c + 0) % 18446744073709551616) + bo then 1 else 0) : Nat) : Int)))] := by have q := (L60.kp [8] rfl); rw [e5] at q; exact q
   have e6 : (((i : Int) + (1 : Int)) : Int) = (((i + 1) : Nat) : Int) := by omega
   have L63 : Zt a56 56 [(15, (.int .i64 (((i + 1) : Nat) : Int)))] := by have q := (L60.kp [15] rfl); rw [e6] at q; exact q
   exact ⟨len_p - (i + 1), (by omega), S2, (us.set (off_p + (i)) ((((us.getD (off_p + (i)) 0) + 18446744073709551616 - ((((u.getD (i) 0) * d % 18446744073709551616) + c + 0) % 18446744073709551616) - bo) % 18446744073709551616))), (i + 1), (((u.getD (i) 0) * d / 18446744073709551616) + ((((u.getD (i) 0) * d % 18446744073709551616) + c + 0) / 18446744073709551616)), (if (us.getD (off_p + (i)) 0) < ((((u.getD (i) 0) * d % 18446744073709551616) + c + 0) % 18446744073709551616) + bo then 1 else 0), (l1.trans l2), (L60.keep (L60.keep (L60.keep (L60.keep (L61.keep (L62.keep (L60.keep (L63.keep (Zt.none _ L60) (t := 15) rfl) (t := 14) rfl) (t := 8) rfl) (t := 7) rfl) (t := 6) rfl) (t := 2) rfl) (t := 1) rfl) (t := 0) rfl), R3, (by first | (obtain ⟨hs1, hs2⟩ := sub_step (x := us.getD (off_p + (i)) 0) (l := (u.getD (i) 0 * d % 18446744073709551616 + c + 0) % 18446744073709551616) (b := bo) (ZQ hI.lt (by decide) _) (Nat.mod_lt _ (by decide)) hI.hb; exact hI.step rfl (by omega) (Nat.mod_lt _ (by decide)) (by omega) hs2 (by omega) hs1 (fun _ => by omega)) | (obtain ⟨hs1, hs2⟩ := sub_step (x := us.getD (off_p + (i)) 0) (l := (0 + c + 0) % 18446744073709551616) (b := bo) (ZQ hI.lt (by decide) _) (Nat.mod_lt _ (by decide)) hI.hb; exact hI.step rfl (by omega) (Nat.mod_lt _ (by decide)) (by omega) hs2 (by rw [Zc5 (y := u) (i := i) (by omega)]; omega) hs1 (fun _ => by omega))), (by omega), rfl⟩
  ·refine so L19 rfl (bF t2 (fun _ => ZF L19 rfl rfl) fun _ L64 => sn (Zm L64 rfl rfl (wp_skip ((Zc (wp_seq (Za (sm L64 rfl fun _ L65 => sm L65 rfl fun _ L66 => so L66 rfl (YE (x := 0) (y := c) (c := 0) L66 rfl (by omega) fun _ L67 => ?_)))))))))
   refine sm L67 rfl fun _ L68 => so L68 rfl (Zf L68 rfl rfl fun _ L69 => so L69 rfl (Zf L69 rfl rfl fun _ L70 => sa L70 rfl fun _ L71 => sa L71 rfl fun _ L72 => sn (wp_seq (Za ?_))))
   refine sm L72 rfl fun _ L73 => sm L73 rfl fun _ L74 => so L74 rfl (ZJ (z := ((0 : Int) + (((0 + c + 0) / 18446744073709551616 : Nat) : Int))) L74 rfl rfl (IntWalk.u64_in _ (by omega)) fun _ L75 => sa L75 rfl fun _ L76 => sn (Za (sm L76 rfl fun _ L77 => sm L77 rfl fun _ L78 => ?_)))
   refine sm L78 rfl fun _ L79 => sm L79 rfl fun _ L80 => so L80 rfl (Zr (i) L80 rfl rfl Tryz.underlying30 ZA (by omega) (by omega) fun _ L81 => so L81 rfl (Zg (v := (.int .u64 ((us.getD (off_p + (i)) 0 : Nat) : Int))) L81 rfl Ym (R1.has (List.Mem.head _)) (ZX (by omega)) fun _ L82 => sm L82 rfl fun _ L83 => sm L83 rfl fun _ L84 => so L84 rfl (Zcz (x := (us.getD (off_p + (i)) 0)) (y := ((0 + c + 0) % 18446744073709551616)) (c := bo) L84 rfl (by omega) fun _ L85 => ?_)))
   refine sm L85 rfl fun _ L86 => so L86 rfl (Zf L86 rfl rfl fun _ L87 => so L87 rfl (Zf L87 rfl rfl fun _ L88 => so L88 rfl (Zr (i) L88 rfl rfl Tryz.underlying30 ZA (by omega) (by omega) fun _ L89 => Zs L89 rfl rfl (Yk (cs' := (Yr (us.set (off_p + (i)) ((((us.getD (off_p + (i)) 0) + 18446744073709551616 - ((0 + c + 0) % 18446744073709551616) - bo) % 18446744073709551616))) ++ rest_p)) L89 rfl rfl R1 ZA rfl (by simp only [List.length_append, ZH]; omega) (by exact YS (by omega)) fun _ R4 _ L90 => sa L90 rfl fun _ L91 => Yy ((ZI (Zc ?_)))))))
   refine Za (so L91 rfl (ZJ (z := ((i : Int) + (1 : Int))) L91 rfl rfl (IntWalk.i64_in _ (by omega)) ?_))
   intro _ L92
   refine sm L92 rfl fun a86 L93 => sn ?_
   have e7 : (((0 : Int) + (((0 + c + 0) / 18446744073709551616 : Nat) : Int)) : Int) = (((0 + ((0 + c + 0) / 18446744073709551616)) : Nat) : Int) := by omega
   have L94 : Zt a86 56 [(7, (.int .u64 (((0 + ((0 + c + 0) / 18446744073709551616)) : Nat) : Int)))] := by have q := (L93.kp [7] rfl); rw [e7] at q; exact q
   have e8 : (((if (us.getD (off_p + (i)) 0) < ((0 + c + 0) % 18446744073709551616) + bo then 1 else 0 : Nat) : Int) : Int) = (((if (us.getD (off_p + (i)) 0) < ((0 + c + 0) % 18446744073709551616) + bo then 1 else 0) : Nat) : Int) := by omega
   have L95 : Zt a86 56 [(8, (.int .u64 (((if (us.getD (off_p + (i)) 0) < ((0 + c + 0) % 18446744073709551616) + bo then 1 else 0) : Nat) : Int)))] := by have q := (L93.kp [8] rfl); rw [e8] at q; exact q
   have e9 : (((i : Int) + (1 : Int)) : Int) = (((i + 1) : Nat) : Int) := by omega
   have L96 : Zt a86 56 [(15, (.int .i64 (((i + 1) : Nat) : Int)))] := by have q := (L93.kp [15] rfl); rw [e9] at q; exact q
   exact ⟨len_p - (i + 1), (by omega), S1, (us.set (off_p + (i)) ((((us.getD (off_p + (i)) 0) + 18446744073709551616 - ((0 + c + 0) % 18446744073709551616) - bo) % 18446744073709551616))), (i + 1), (0 + ((0 + c + 0) / 18446744073709551616)), (if (us.getD (off_p + (i)) 0) < ((0 + c + 0) % 18446744073709551616) + bo then 1 else 0), l1, (L93.keep (L93.keep (L93.keep (L93.keep (L94.keep (L95.keep (L93.keep (L96.keep (Zt.none _ L93) (t := 15) rfl) (t := 14) rfl) (t := 8) rfl) (t := 7) rfl) (t := 6) rfl) (t := 2) rfl) (t := 1) rfl) (t := 0) rfl), R4, (by first | (obtain ⟨hs1, hs2⟩ := sub_step (x := us.getD (off_p + (i)) 0) (l := (u.getD (i) 0 * d % 18446744073709551616 + c + 0) % 18446744073709551616) (b := bo) (ZQ hI.lt (by decide) _) (Nat.mod_lt _ (by decide)) hI.hb; exact hI.step rfl (by omega) (Nat.mod_lt _ (by decide)) (by omega) hs2 (by omega) hs1 (fun _ => by omega)) | (obtain ⟨hs1, hs2⟩ := sub_step (x := us.getD (off_p + (i)) 0) (l := (0 + c + 0) % 18446744073709551616) (b := bo) (ZQ hI.lt (by decide) _) (Nat.mod_lt _ (by decide)) hI.hb; exact hI.step rfl (by omega) (Nat.mod_lt _ (by decide)) (by omega) hs2 (by rw [Zc5 (y := u) (i := i) (by omega)]; omega) hs1 (fun _ => by omega))), (by omega), rfl⟩
 ·refine so L7 rfl (bF t1 (fun _ => ZF L7 rfl rfl) fun _ L97 => sn (wp_seq (Zm L97 rfl rfl (wp_exit ((Zz (Zz (YR (Zc (wp_seq (Za (sm L97 rfl fun _ L98 => ?_))))))))))))
  by_cases t3 : ¬ (bo : Int) = (0 : Int)
  ·refine so L98 rfl (bT t3 (fun _ => Yo L98 rfl rfl) fun _ L99 => sa L99 rfl fun _ L100 => sn (wp_ret ((Zo (rs := Tryz.f165.results.toList) (L100.kp [6] rfl) rfl (.tmp rfl Res.nil) ?_))))
   obtain rfl : i = len_p := by omega
   have hc0 := hI.cz (by omega)
   have hs := hI.sum
   rw [hc0, Nat.zero_add, List.take_of_length_le (by omega)] at hs
   exact ⟨_, S1, us, rfl, l1, R1, ⟨bo, by first | exact congrArg Value.bool (decide_eq_true (by omega)).symm | exact congrArg Value.bool (decide_eq_false (by omega)).symm, by exact hI.len, by exact hI.lt, by exact hI.hb, by exact hs, by exact hI.out⟩⟩
  ·refine so L98 rfl (bF t3 (fun _ => Yo L98 rfl rfl) fun _ L102 => sa L102 rfl fun _ L103 => sn (wp_ret ((Zo (rs := Tryz.f165.results.toList) (L103.kp [6] rfl) rfl (.tmp rfl Res.nil) ?_))))
   obtain rfl : i = len_p := by omega
   have hc0 := hI.cz (by omega)
   have hs := hI.sum
   rw [hc0, Nat.zero_add, List.take_of_length_le (by omega)] at hs
   exact ⟨_, S1, us, rfl, l1, R1, ⟨bo, by first | exact congrArg Value.bool (decide_eq_true (by omega)).symm | exact congrArg Value.bool (decide_eq_false (by omega)).symm, by exact hI.len, by exact hI.lt, by exact hI.hb, by exact hs, by exact hI.out⟩⟩
set_option maxRecDepth 20000 in
theorem nat_back {S0 S : Sh} {w0 w : World} {H0 : Own} {b_p off_p len_p cap_p : Nat} {p : List Nat} {rest_p : List Value} {p_u : Option Addr} {len_u cap_u : Nat} {u : List Nat} (hd_u : Dg S p_u len_u cap_u u) (R0 : Run S0 w0 S ((b_p, 29, (Yr p ++ rest_p)) :: H0) w) (hlt : ∀ e ∈ p, e < 18446744073709551616) (hfit : off_p + len_p ≤ p.length) (hul : len_u < len_p) (hlp : len_p ≤ 1099511627777) : Calls Tryz.prog 166 [(.slice (some ⟨b_p, off_p, none⟩) len_p cap_p), (.slice p_u len_u cap_u)].toArray w (RetO S0 w0 S b_p 29 rest_p H0 (fun S v ds => ∃ (cy : Nat), v = .tuple #[] ∧ ds.length = p.length ∧ (∀ e ∈ ds, e < 18446744073709551616) ∧ cy ≤ 1 ∧ val W64 ds + W64 ^ (off_p + len_p) * cy = val W64 p + W64 ^ off_p * val W64 u ∧ (∀ j, j < off_p ∨ off_p + len_p ≤ j → ds.getD j 0 = p.getD j 0))) := by
 refine ZK (n := 34) Tryz.func166 rfl rfl ?_
 intro ac0 L0
 replace L0 : Zt ac0 34 [(0, (.slice (some ⟨b_p, off_p, none⟩) len_p cap_p)), (1, (.slice p_u len_u cap_u))] := L0
 have hl_u := hd_u.hlen; have hc_u := hd_u.hcap; have hg_u := hd_u.hbig
 refine wp_seq (Za (sa L0 rfl ?_))
 intro _ L1
 refine sn (wp_seq (Za (sm L1 rfl ?_)))
 intro _ L2
 refine so L2 rfl (ZM L2 rfl Tryz.underlying30 fun _ L3 => sm L3 rfl fun a4 L4 => sn (wp_block ?_))
 have e1 : ((0 : Int) : Int) = ((0 : Nat) : Int) := by omega
 have L6 : Zt a4 34 [(4, (.int .u64 ((0 : Nat) : Int)))] := by have q := (L4.kp [4] rfl); rw [e1] at q; exact q
 have e2 : ((0 : Int) : Int) = ((0 : Nat) : Int) := by omega
 have L7 : Zt a4 34 [(9, (.int .i64 ((0 : Nat) : Int)))] := by have q := (L4.kp [9] rfl); rw [e2] at q; exact q
 refine Yb (fun m ac ww => ∃ (S' : Sh) (us : List Nat) (i : Nat) (c : Nat), S.le S' ∧ Zt ac 34 [(0, (.slice (some ⟨b_p, off_p, none⟩) len_p cap_p)), (1, (.slice p_u len_u cap_u)), (4, (.int .u64 ((c : Nat) : Int))), (8, (.int .i64 ((len_p : Nat) : Int))), (9, (.int .i64 ((i : Nat) : Int)))] ∧ Run S0 w0 S' ((b_p, 29, (Yr us ++ rest_p)) :: H0) ww ∧ (Zd1 p u us off_p i c) ∧ (i ≤ len_p) ∧ m = len_p - i)
  (len_p - 0) ⟨S, p, 0, 0, Sh.le.refl _, (L4.keep (L4.keep (L6.keep (L4.keep (L7.keep (Zt.none _ L4) (t := 9) rfl) (t := 8) rfl) (t := 4) rfl) (t := 1) rfl) (t := 0) rfl), R0, (by exact Zd1.start hlt), (by omega), rfl⟩ ?_
 rintro m_1 ac1 _ ⟨S1, us, i, c, l1, L5, R1, hI, hi, m1⟩
 refine wp_seq (Za ?_)
 by_cases t1 : (i : Int) < (len_p : Int)
 ·refine so L5 rfl (bT t1 (fun _ => ZF L5 rfl rfl) fun _ L8 => sn (wp_seq (Zp L8 rfl rfl (wp_skip ((Zc (wp_seq (wp_block (wp_seq ?_)))))))))
  have hIl := hI.len; have hIc := hI.hc; have hx1 := ZQ hI.lt (show 0 < 18446744073709551616 by decide) (off_p + (i)); have hx2 := ZQ hd_u.hlt (show 0 < 18446744073709551616 by decide) i
  refine Za (sm L8 rfl ?_)
  intro _ L9
  refine sa L9 rfl fun _ L10 => sn (wp_seq (Za (sa L10 rfl fun _ L11 => sn (wp_seq (wp_seq (Za (sm L11 rfl fun _ L12 => ?_)))))))
  refine sm L12 rfl fun _ L13 => so L13 rfl (ZM L13 rfl Tryz.underlying30 fun _ L14 => ?_)
  by_cases t2 : (i : Int) < (len_u : Int)
  ·refine so L14 rfl (bT t2 (fun _ => ZF L14 rfl rfl) fun _ L15 => sn (Zp L15 rfl rfl (Za (sm L15 rfl fun _ L16 => sm L16 rfl fun _ L17 => ?_))))
   obtain ⟨b1, rest_1, rfl, r1⟩ := (hd_u.up l1).row (by omega)
   refine so L17 rfl (Zr (i) L17 rfl rfl Tryz.underlying30 ZA (by omega) (by omega) fun _ L18 => so L18 rfl (Zg (v := (.int .u64 ((u.getD (i) 0 : Nat) : Int))) L18 rfl Ym (R1.row r1) (by rw [Nat.zero_add]; exact ZX (by omega)) fun _ L19 => sa L19 rfl fun _ L20 => sn (Za (sm L20 rfl fun _ L21 => sm L21 rfl fun _ L22 => sm L22 rfl fun _ L23 => ?_))))
   refine sm L23 rfl fun _ L24 => so L24 rfl (Zr (i) L24 rfl rfl Tryz.underlying30 ZA (by omega) (by omega) fun _ L25 => so L25 rfl (Zg (v := (.int .u64 ((us.getD (off_p + (i)) 0 : Nat) : Int))) L25 rfl Ym (R1.has (List.Mem.head _)) (ZX (by omega)) fun _ L26 => sm L26 rfl fun _ L27 => sm L27 rfl fun _ L28 => so L28 rfl (YE (x := (us.getD (off_p + (i)) 0)) (y := (u.getD (i) 0)) (c := c) L28 rfl (by omega) fun _ L29 => sm L29 rfl fun _ L30 => ?_)))
   refine so L30 rfl (Zf L30 rfl rfl fun _ L31 => so L31 rfl (Zf L31 rfl rfl fun _ L32 => so L32 rfl (Zr (i) L32 rfl rfl Tryz.underlying30 ZA (by omega) (by omega) fun _ L33 => Zs L33 rfl rfl (Yk (cs' := (Yr (us.set (off_p + (i)) ((((us.getD (off_p + (i)) 0) + (u.getD (i) 0) + c) % 18446744073709551616))) ++ rest_p)) L33 rfl rfl R1 ZA rfl (by simp only [List.length_append, ZH]; omega) (by exact YS (by omega)) fun _ R2 _ L34 => sa L34 rfl fun _ L35 => Yy ((ZI (Zc (Za (so L35 rfl (ZJ (z := ((i : Int) + (1 : Int))) L35 rfl rfl (IntWalk.i64_in _ (by omega)) fun _ L36 => ?_))))))))))
   refine sm L36 rfl fun a34 L37 => sn ?_
   have e3 : (((((us.getD (off_p + (i)) 0) + (u.getD (i) 0) + c) / 18446744073709551616 : Nat) : Int) : Int) = (((((us.getD (off_p + (i)) 0) + (u.getD (i) 0) + c) / 18446744073709551616) : Nat) : Int) := by omega
   have L38 : Zt a34 34 [(4, (.int .u64 (((((us.getD (off_p + (i)) 0) + (u.getD (i) 0) + c) / 18446744073709551616) : Nat) : Int)))] := by have q := (L37.kp [4] rfl); rw [e3] at q; exact q
   have e4 : (((i : Int) + (1 : Int)) : Int) = (((i + 1) : Nat) : Int) := by omega
   have L39 : Zt a34 34 [(9, (.int .i64 (((i + 1) : Nat) : Int)))] := by have q := (L37.kp [9] rfl); rw [e4] at q; exact q
   exact ⟨len_p - (i + 1), (by omega), S1, (us.set (off_p + (i)) ((((us.getD (off_p + (i)) 0) + (u.getD (i) 0) + c) % 18446744073709551616))), (i + 1), (((us.getD (off_p + (i)) 0) + (u.getD (i) 0) + c) / 18446744073709551616), l1, (L37.keep (L37.keep (L38.keep (L37.keep (L39.keep (Zt.none _ L37) (t := 9) rfl) (t := 8) rfl) (t := 4) rfl) (t := 1) rfl) (t := 0) rfl), R2, (by first | exact hI.step rfl (by omega) (Nat.mod_lt _ (by decide)) (by omega) (by omega) | exact hI.step rfl (by omega) (Nat.mod_lt _ (by decide)) (by omega) (by rw [Zc5 (y := u) (i := i) (by omega)]; omega)), (by omega), rfl⟩
  ·refine so L14 rfl (bF t2 (fun _ => ZF L14 rfl rfl) fun _ L40 => sn (Zm L40 rfl rfl (wp_skip ((Zc (Za (sm L40 rfl fun _ L41 => sm L41 rfl fun _ L42 => sm L42 rfl fun _ L43 => sm L43 rfl fun _ L44 => ?_)))))))
   refine so L44 rfl (Zr (i) L44 rfl rfl Tryz.underlying30 ZA (by omega) (by omega) fun _ L45 => so L45 rfl (Zg (v := (.int .u64 ((us.getD (off_p + (i)) 0 : Nat) : Int))) L45 rfl Ym (R1.has (List.Mem.head _)) (ZX (by omega)) fun _ L46 => sm L46 rfl fun _ L47 => sm L47 rfl fun _ L48 => so L48 rfl (YE (x := (us.getD (off_p + (i)) 0)) (y := 0) (c := c) L48 rfl (by omega) fun _ L49 => sm L49 rfl fun _ L50 => so L50 rfl (Zf L50 rfl rfl fun _ L51 => ?_))))
   refine so L51 rfl (Zf L51 rfl rfl fun _ L52 => so L52 rfl (Zr (i) L52 rfl rfl Tryz.underlying30 ZA (by omega) (by omega) fun _ L53 => Zs L53 rfl rfl (Yk (cs' := (Yr (us.set (off_p + (i)) ((((us.getD (off_p + (i)) 0) + 0 + c) % 18446744073709551616))) ++ rest_p)) L53 rfl rfl R1 ZA rfl (by simp only [List.length_append, ZH]; omega) (by exact YS (by omega)) fun _ R3 _ L54 => sa L54 rfl fun _ L55 => Yy ((ZI (Zc (Za (so L55 rfl (ZJ (z := ((i : Int) + (1 : Int))) L55 rfl rfl (IntWalk.i64_in _ (by omega)) fun _ L56 => sm L56 rfl fun a52 L57 => ?_)))))))))
   refine sn ?_
   have e5 : (((((us.getD (off_p + (i)) 0) + 0 + c) / 18446744073709551616 : Nat) : Int) : Int) = (((((us.getD (off_p + (i)) 0) + 0 + c) / 18446744073709551616) : Nat) : Int) := by omega
   have L58 : Zt a52 34 [(4, (.int .u64 (((((us.getD (off_p + (i)) 0) + 0 + c) / 18446744073709551616) : Nat) : Int)))] := by have q := (L57.kp [4] rfl); rw [e5] at q; exact q
   have e6 : (((i : Int) + (1 : Int)) : Int) = (((i + 1) : Nat) : Int) := by omega
   have L59 : Zt a52 34 [(9, (.int .i64 (((i + 1) : Nat) : Int)))] := by have q := (L57.kp [9] rfl); rw [e6] at q; exact q
   exact ⟨len_p - (i + 1), (by omega), S1, (us.set (off_p + (i)) ((((us.getD (off_p + (i)) 0) + 0 + c) % 18446744073709551616))), (i + 1), (((us.getD (off_p + (i)) 0) + 0 + c) / 18446744073709551616), l1, (L57.keep (L57.keep (L58.keep (L57.keep (L59.keep (Zt.none _ L57) (t := 9) rfl) (t := 8) rfl) (t := 4) rfl) (t := 1) rfl) (t := 0) rfl), R3, (by first | exact hI.step rfl (by omega) (Nat.mod_lt _ (by decide)) (by omega) (by omega) | exact hI.step rfl (by omega) (Nat.mod_lt _ (by decide)) (by omega) (by rw [Zc5 (y := u) (i := i) (by omega)]; omega)), (by omega), rfl⟩
 ·refine so L5 rfl (bF t1 (fun _ => ZF L5 rfl rfl) fun _ L60 => sn (wp_seq (Zm L60 rfl rfl (wp_exit ((Zz (Zz (YR (body_end (rs := Tryz.f166.results.toList) L60 rfl Res.nil ?_)))))))))
  obtain rfl : i = len_p := by omega
  have hs := hI.sum
  rw [List.take_of_length_le (by omega)] at hs
  exact ⟨_, S1, us, rfl, l1, R1, ⟨c, by rfl, by exact hI.len, by exact hI.lt, by exact hI.hc, by exact hs, by exact hI.out⟩⟩
end Go.Cham
namespace Go.Cham
open Go Go.RowKit Go.Proofs
set_option maxRecDepth 20000 in
theorem nat_long {S : Sh} {w : World} (hS : Ya S w) {p_da : Option Addr} {len_da cap_da : Nat} {da : List Nat} (hd_da : Dg S p_da len_da cap_da da) {p_db : Option Addr} {len_db cap_db : Nat} {db : List Nat} (hd_db : Dg S p_db len_db cap_db db) {kb : Nat} (h2 : 2 ≤ len_db) (hn : db.getD (len_db - 1) 0 ≠ 0) (hba : len_db ≤ len_da) (hla : len_da ≤ 34359738368) (hk : val W64 da ≤ 2 ^ kb) : Calls Tryz.prog 136 [(.slice p_da len_da cap_da), (.slice p_db len_db cap_db)].toArray w (Ret S w (fun S v => ∃ (c0 : List Value) (c1 : List Value), v = .tuple [.agg c0.toArray, .agg c1.toArray].toArray ∧ Na S c0 (val W64 da / val W64 db) (kb) ∧ Na S c1 (val W64 da % val W64 db) (kb))) := by
 refine ZK (n := 100) Tryz.func136 rfl rfl ?_
 intro ac0 L0
 replace L0 : Zt ac0 100 [(0, (.slice p_da len_da cap_da)), (1, (.slice p_db len_db cap_db))] := L0
 have R0 : Run S w S [] w := .start hS
 have hl_db := hd_db.hlen; have hc_db := hd_db.hcap; have hg_db := hd_db.hbig
 have hl_da := hd_da.hlen; have hc_da := hd_da.hcap; have hg_da := hd_da.hbig
 refine wp_seq (Za (so L0 rfl (ZG (cs := zN1) ZO R0 rfl ?_)))
 intro b1 _ R1 _ L1
 refine so L1 rfl (ZG (cs := zN1) ZO R1 rfl fun b2 _ R2 _ L2 => sn ?_)
 refine Qp (fun ac ww => ∃ (S' : Sh) (s : Nat), S.le S' ∧ Zt ac 100 [(0, (.slice p_da len_da cap_da)), (1, (.slice p_db len_db cap_db)), (4, (.pointer (some ⟨b1, 0, none⟩))), (5, (.pointer (some ⟨b2, 0, none⟩))), (6, (.int .i64 ((len_db : Nat) : Int))), (7, (.int .i64 ((s : Nat) : Int)))] ∧ Run S w S' [(b2, 32, zN1), (b1, 32, zN1)] ww ∧ (s < 64) ∧ (db.getD (len_db - 1) 0 * 2 ^ s < 18446744073709551616)) ?_ ?_
 ·rintro ac1 _ ⟨_, s, l1, L3, R3, hs, htop⟩
  refine wp_seq (Za (sm L3 rfl ?_))
  intro _ L4
  refine sm L4 rfl fun _ L5 => sm L5 rfl fun _ L6 => so L6 rfl (Qi L6 rfl ent_163 (nat_up R3.holds (n := s) (sz := len_db) (hd_db.up l1) (hs) (by omega) (by omega)) ?_)
  rintro _ _ ⟨v1, _, _, rfl, R4, b3, ds1, rfl, rfl, ho1, ho2, ho3⟩
  refine ⟨_, rfl, ?_⟩
  have R5 := R3.callN R4; have l2 := R4.ext.le
  have hvlen := ho1; have hvlt0 := ho2; have hvsum := ho3
  intro _ L7
  refine sa L7 rfl fun _ L8 => ?_
  have L9 := (L8.kp [0, 4, 5, 6, 7, 8] rfl); clear L8
  refine sn (wp_seq ?_)
  obtain ⟨S3, l3, r1, R6⟩ := (R5).freeze
  have hd_1 : Dg S3 (some ⟨b3, 0, none⟩) len_db len_db ds1 := ⟨by first | rfl | omega, by omega, by omega, hvlt0, fun _ => ⟨_, _, rfl, r1⟩⟩
  have hv0 : W64 ^ len_db * cr db s len_db = 0 := by rw [cr_top hs htop]; exact Nat.mul_zero _
  have hvv : val W64 ds1 = val W64 db * 2 ^ s := by rw [← hvsum, hv0]; rfl
  refine Za (sm L9 rfl ?_)
  intro _ L10
  refine sm L10 rfl fun _ L11 => sm L11 rfl fun _ L12 => so L12 rfl (ZM L12 rfl Tryz.underlying30 fun _ L13 => so L13 rfl (ZJ (z := ((len_da : Int) + (1 : Int))) L13 rfl rfl (IntWalk.i64_in _ (by omega)) fun _ L14 => so L14 rfl (Qi L14 rfl ent_163 (nat_up R6.holds (n := s) (sz := (len_da + 1)) (hd_da.up (l1.trans (l2.trans l3))) (hs) (by omega) (by omega)) ?_)))
  rintro _ _ ⟨v2, S4, _, rfl, R7, b4, ds2, rfl, rfl, ho4, ho5, ho6⟩
  refine ⟨_, rfl, ?_⟩
  have R8 := R6.callN R7; have l4 := R7.ext.le
  have hulen := ho4; have hult := ho5; have husum := ho6
  intro _ L15
  refine sa L15 rfl fun _ L16 => ?_
  have L17 := (L16.kp [4, 5, 6, 7, 8, 9] rfl); clear L16
  refine sn ?_
  refine Qp (fun ac ww => ∃ (S' : Sh) (mm : Nat), S4.le S' ∧ Zt ac 100 [(4, (.pointer (some ⟨b1, 0, none⟩))), (5, (.pointer (some ⟨b2, 0, none⟩))), (6, (.int .i64 ((len_db : Nat) : Int))), (7, (.int .i64 ((s : Nat) : Int))), (8, (.slice (some ⟨b3, 0, none⟩) len_db len_db)), (9, (.slice (some ⟨b4, 0, none⟩) (len_da + 1) (len_da + 1))), (10, (.int .i64 ((mm : Nat) : Int)))] ∧ Run S w S' [(b4, 29, (Yr ds2 ++ [])), (b2, 32, zN1), (b1, 32, zN1)] ww ∧ (mm + len_db = len_da + 1)) ?_ ?_
  ·rintro ac2 _ ⟨S5, mm, l5, L18, R9, hmm⟩
   have hu0 : W64 ^ (len_da + 1) * cr da s (len_da + 1) = 0 := by (have e : cr da s (len_da + 1) = 0 := by (unfold cr; rw [if_neg (by omega), Zc5 (by omega)]; exact Nat.zero_div _)); rw [e]; exact Nat.mul_zero _
   have huu : val W64 ds2 = val W64 da * 2 ^ s := by rw [← husum, hu0]; rfl
   refine wp_seq (Za (sm L18 rfl ?_))
   intro _ L19
   refine so L19 rfl (Xs (m := mm) (c := mm) L19 (by first | rfl | (simp [ev, Zah]; omega)) (by first | rfl | (simp [ev, Zah]; omega)) Tryz.underlying30 Qc rfl ZA QK (by omega) (by omega) (by omega) R9 fun b5 _ R10 _ L20 => ?_)
   rw [Zcf] at R10
   refine sa L20 rfl fun _ L21 => sn (wp_seq (wp_seq (Za (sm L21 rfl fun _ L22 => so L22 rfl (ZR (z := ((mm : Int) - (1 : Int))) L22 rfl rfl (IntWalk.i64_in _ (by omega)) fun _ L23 => sa L23 rfl fun _ L24 => ?_)))))
   have L25 := (L24.kp [4, 5, 6, 7, 8, 9, 11, 12] rfl); clear L24
   refine sn (wp_block ?_)
   obtain ⟨hst, hVn, hvtop⟩ := long_start hs hl_da hl_db h2 hba hd_da.hlt hn hvv hvlen (hd_1.up (l4.trans l5)).hlt huu hulen hult hmm
   have hvlt := (hd_1.up (l4.trans l5)).hlt
   obtain ⟨vl, hVe, hvl⟩ := top2 hvlen h2 hvlt
   refine Yb (fun m ac ww => ∃ (S' : Sh) (us : List Nat) (os : List Nat) (kk : Nat), S5.le S' ∧ Zt ac 100 [(4, (.pointer (some ⟨b1, 0, none⟩))), (5, (.pointer (some ⟨b2, 0, none⟩))), (6, (.int .i64 ((len_db : Nat) : Int))), (7, (.int .i64 ((s : Nat) : Int))), (8, (.slice (some ⟨b3, 0, none⟩) len_db len_db)), (9, (.slice (some ⟨b4, 0, none⟩) (len_da + 1) (len_da + 1))), (11, (.slice (some ⟨b5, 0, none⟩) (mm) (mm))), (12, (.int .i64 (((kk : Nat) : Int) - (1 : Int))))] ∧ Run S w S' [(b5, 29, (Yr os ++ [])), (b4, 29, (Yr us ++ [])), (b2, 32, zN1), (b1, 32, zN1)] ww ∧ (QC (val W64 ds1) ds2 us os len_db kk) ∧ (os.length = mm) ∧ m = kk)
    (mm) ⟨S5, ds2, (List.replicate (mm) 0), mm, Sh.le.refl _, (L25.kp [12, 11, 9, 8, 7, 6, 5, 4] rfl), (Zax (Zax (Zax (Zax R10)))), (by exact hst), (by simp), rfl⟩ ?_
   rintro m_1 ac3 _ ⟨_, us, os, kk, l6, L26, R11, hI, hol, m1⟩
   refine wp_seq (wp_seq (Za (sm L26 rfl ?_)))
   intro _ L27
   by_cases t1 : (0 : Int) ≤ ((kk : Int) - (1 : Int))
   ·refine so L27 rfl (bT t1 (fun _ => YL L27 rfl rfl) fun _ L28 => sn (Zp L28 rfl rfl (wp_skip ((Zc (wp_seq (wp_block (wp_seq ?_))))))))
    have hle0 := hI.le; have hlo0 := hI.lo; have hlu0 := hI.lu
    refine Za (sm L28 rfl ?_)
    intro _ L29
    refine sm L29 rfl fun _ L30 => sm L30 rfl fun _ L31 => sm L31 rfl fun _ L32 => so L32 rfl (ZJ (z := (((kk : Int) - (1 : Int)) + (len_db : Int))) L32 rfl rfl (IntWalk.i64_in _ (by omega)) fun _ L33 => so L33 rfl (ZJ (z := ((((kk : Int) - (1 : Int)) + (len_db : Int)) + (1 : Int))) L33 rfl rfl (IntWalk.i64_in _ (by omega)) fun _ L34 => sm L34 rfl fun _ L35 => sm L35 rfl fun _ L36 => ?_))
    refine so L36 rfl (ZJ (z := (((kk : Int) - (1 : Int)) + (len_db : Int))) L36 rfl rfl (IntWalk.i64_in _ (by omega)) fun _ L37 => so L37 rfl (ZJ (z := ((((kk : Int) - (1 : Int)) + (len_db : Int)) + (1 : Int))) L37 rfl rfl (IntWalk.i64_in _ (by omega)) fun _ L38 => so L38 rfl (does_sliceFull (h := (kk - 1)) (i := (((kk - 1) + len_db) + 1)) (off' := ((kk - 1))) (len' := (len_db + 1)) L38 rfl rfl rfl rfl Tryz.underlying30 ZA (by omega) (by omega) (by omega) (by omega) (by omega) (by omega) (by omega) fun _ L39 => sa L39 rfl fun _ L40 => sn (wp_seq ?_))))
    have hlo := hI.lo; have hle := hI.le; have hlu := hI.lu
    obtain ⟨P, low, pl, hT⟩ := hI.top (by omega) h2 hVn
    have hxv := knuth_x hT.eP hVe hvl (ZQ hvlt (by decide) _) hT.hP
    have hN : val W64 us < W64 ^ ((kk - 1) + (len_db + 1)) := by (have q := pow_V hVn hI.bd; rwa [show kk + len_db = (kk - 1) + (len_db + 1) by omega] at q)
    have L41 := (L40.kp [4, 5, 6, 7, 8, 9, 11, 12, 42, 43, 46, 47, 48, 49, 50, 51, 52, 53, 54, 55, 56, 13] rfl)
    refine Zu (E0 := []) (H0 := [(b5, 29, (Yr os ++ [])), (b4, 29, (Yr us ++ [])), (b2, 32, zN1), (b1, 32, zN1)]) (n := 100) mixed 24 [] (fun k => 0) (Zce [
      .is (.slice (some ⟨b4, ((kk - 1)), none⟩) (len_db + 1) (len_db + 1)),
      .is (.int .i64 (len_db : Int)),
      .is (.pointer (some ⟨b4, (((kk - 1)) + (len_db)), none⟩)),
      .is (.int .u64 ((us.getD (((kk - 1)) + (len_db)) 0 : Nat) : Int)),
      .is (.slice (some ⟨b4, ((kk - 1)), none⟩) (len_db + 1) (len_db + 1)),
      .is (.int .i64 (len_db : Int)),
      .is (.int .i64 ((len_db : Int) - (1 : Int))),
      .is (.pointer (some ⟨b4, (((kk - 1)) + ((len_db - 1))), none⟩)),
      .is (.int .u64 ((us.getD (((kk - 1)) + ((len_db - 1))) 0 : Nat) : Int)),
      .is (.slice (some ⟨b4, ((kk - 1)), none⟩) (len_db + 1) (len_db + 1)),
      .is (.int .i64 (len_db : Int)),
      .is (.int .i64 ((len_db : Int) - (2 : Int))),
      .is (.pointer (some ⟨b4, (((kk - 1)) + ((len_db - 2))), none⟩)),
      .is (.int .u64 ((us.getD (((kk - 1)) + ((len_db - 2))) 0 : Nat) : Int)),
      .is (.slice (some ⟨b3, 0, none⟩) len_db len_db),
      .is (.int .i64 (len_db : Int)),
      .is (.int .i64 ((len_db : Int) - (1 : Int))),
      .is (.pointer (some ⟨b3, (0 + ((len_db - 1))), none⟩)),
      .is (.int .u64 ((ds1.getD ((len_db - 1)) 0 : Nat) : Int)),
      .is (.slice (some ⟨b3, 0, none⟩) len_db len_db),
      .is (.int .i64 (len_db : Int)),
      .is (.int .i64 ((len_db : Int) - (2 : Int))),
      .is (.pointer (some ⟨b3, (0 + ((len_db - 2))), none⟩)),
      .is (.int .u64 ((ds1.getD ((len_db - 2)) 0 : Nat) : Int))]) L41 R11 (by simp) (by simp) (by rfl) (by rfl) (by simp) (ZU ?_) ?_
    ·refine (And.intro ?_ (And.intro ?_ (And.intro ?_ (And.intro ?_ (And.intro ?_ (And.intro ?_ (And.intro ?_ (And.intro ?_ (And.intro ?_ (And.intro ?_ (And.intro ?_ (And.intro ?_ (And.intro ?_ (And.intro ?_ (And.intro ?_ (And.intro ?_ (And.intro ?_ (And.intro ?_ (And.intro ?_ (And.intro ?_ (And.intro ?_ (And.intro ?_ (And.intro ?_ (And.intro ?_ trivial))))))))))))))))))))))))
     ·exact Zb rfl (fun _ _ _ _ _ A1 => (Zh A1.live rfl (A1.same rfl)))
     ·exact Zb rfl (fun _ _ _ _ _ A2 => (Zh A2.live rfl (A2.same rfl)))
     ·refine Zb rfl (fun _ _ _ _ _ A3 => ?_)
      obtain ⟨_, e1, rfl⟩ := A3.known 0 rfl
      obtain ⟨_, e2, rfl⟩ := A3.known 1 rfl
      exact Zr (len_db) ((A3.live.add e1).add e2) rfl rfl Tryz.underlying30 ZA (by omega) (by omega) (A3.same rfl)
     ·refine Zb rfl (fun _ _ _ _ _ A4 => ?_)
      obtain ⟨_, e3, rfl⟩ := A4.known 2 rfl
      exact Zg (v := (.int .u64 ((us.getD (((kk - 1)) + (len_db)) 0 : Nat) : Int))) (A4.live.add e3) rfl Ym (A4.run.has (List.mem_append_right _ (List.Mem.tail _ (List.Mem.head _)))) (ZX (by omega)) (A4.same rfl)
     ·exact Zb rfl (fun _ _ _ _ _ A5 => (Zh A5.live rfl (A5.same rfl)))
     ·exact Zb rfl (fun _ _ _ _ _ A6 => (Zh A6.live rfl (A6.same rfl)))
     ·refine Zb rfl (fun _ _ _ _ _ A7 => ?_)
      obtain ⟨_, e4, rfl⟩ := A7.known 5 rfl
      exact ZR (z := ((len_db : Int) - (1 : Int))) (A7.live.add e4) rfl rfl (IntWalk.i64_in _ (by omega)) (A7.same rfl)
     ·refine Zb rfl (fun _ _ _ _ _ A8 => ?_)
      obtain ⟨_, e5, rfl⟩ := A8.known 4 rfl
      obtain ⟨_, e6, rfl⟩ := A8.known 6 rfl
      exact Zr ((len_db - 1)) ((A8.live.add e5).add e6) rfl rfl Tryz.underlying30 ZA (by omega) (by omega) (A8.same rfl)
     ·refine Zb rfl (fun _ _ _ _ _ A9 => ?_)
      obtain ⟨_, e7, rfl⟩ := A9.known 7 rfl
      exact Zg (v := (.int .u64 ((us.getD (((kk - 1)) + ((len_db - 1))) 0 : Nat) : Int))) (A9.live.add e7) rfl Ym (A9.run.has (List.mem_append_right _ (List.Mem.tail _ (List.Mem.head _)))) (ZX (by omega)) (A9.same rfl)
     ·exact Zb rfl (fun _ _ _ _ _ A10 => (Zh A10.live rfl (A10.same rfl)))
     ·exact Zb rfl (fun _ _ _ _ _ A11 => (Zh A11.live rfl (A11.same rfl)))
     ·refine Zb rfl (fun _ _ _ _ _ A12 => ?_)
      obtain ⟨_, e8, rfl⟩ := A12.known 10 rfl
      exact ZR (z := ((len_db : Int) - (2 : Int))) (A12.live.add e8) rfl rfl (IntWalk.i64_in _ (by omega)) (A12.same rfl)
     ·refine Zb rfl (fun _ _ _ _ _ A13 => ?_)
      obtain ⟨_, e9, rfl⟩ := A13.known 9 rfl
      obtain ⟨_, e10, rfl⟩ := A13.known 11 rfl
      exact Zr ((len_db - 2)) ((A13.live.add e9).add e10) rfl rfl Tryz.underlying30 ZA (by omega) (by omega) (A13.same rfl)
     ·refine Zb rfl (fun _ _ _ _ _ A14 => ?_)
      obtain ⟨_, e11, rfl⟩ := A14.known 12 rfl
      exact Zg (v := (.int .u64 ((us.getD (((kk - 1)) + ((len_db - 2))) 0 : Nat) : Int))) (A14.live.add e11) rfl Ym (A14.run.has (List.mem_append_right _ (List.Mem.tail _ (List.Mem.head _)))) (ZX (by omega)) (A14.same rfl)
     ·exact Zb rfl (fun _ _ _ _ _ A15 => (Zh A15.live rfl (A15.same rfl)))
     ·exact Zb rfl (fun _ _ _ _ _ A16 => (Zh A16.live rfl (A16.same rfl)))
     ·refine Zb rfl (fun _ _ _ _ _ A17 => ?_)
      obtain ⟨_, e12, rfl⟩ := A17.known 15 rfl
      exact ZR (z := ((len_db : Int) - (1 : Int))) (A17.live.add e12) rfl rfl (IntWalk.i64_in _ (by omega)) (A17.same rfl)
     ·refine Zb rfl (fun _ _ _ _ _ A18 => ?_)
      obtain ⟨_, e13, rfl⟩ := A18.known 14 rfl
      obtain ⟨_, e14, rfl⟩ := A18.known 16 rfl
      exact Zr ((len_db - 1)) ((A18.live.add e13).add e14) rfl rfl Tryz.underlying30 ZA (by omega) (by omega) (A18.same rfl)
     ·refine Zb rfl (fun _ _ _ _ _ A19 => ?_)
      obtain ⟨_, e15, rfl⟩ := A19.known 17 rfl
      exact Zg (v := (.int .u64 ((ds1.getD ((len_db - 1)) 0 : Nat) : Int))) (A19.live.add e15) rfl Ym (A19.run.row (r1.up (l4.trans (l5.trans (l6.trans A19.le))))) (by rw [Nat.zero_add]; exact ZX (by omega)) (A19.same rfl)
     ·exact Zb rfl (fun _ _ _ _ _ A20 => (Zh A20.live rfl (A20.same rfl)))
     ·exact Zb rfl (fun _ _ _ _ _ A21 => (Zh A21.live rfl (A21.same rfl)))
     ·refine Zb rfl (fun _ _ _ _ _ A22 => ?_)
      obtain ⟨_, e16, rfl⟩ := A22.known 20 rfl
      exact ZR (z := ((len_db : Int) - (2 : Int))) (A22.live.add e16) rfl rfl (IntWalk.i64_in _ (by omega)) (A22.same rfl)
     ·refine Zb rfl (fun _ _ _ _ _ A23 => ?_)
      obtain ⟨_, e17, rfl⟩ := A23.known 19 rfl
      obtain ⟨_, e18, rfl⟩ := A23.known 21 rfl
      exact Zr ((len_db - 2)) ((A23.live.add e17).add e18) rfl rfl Tryz.underlying30 ZA (by omega) (by omega) (A23.same rfl)
     ·refine Zb rfl (fun _ _ _ _ _ A24 => ?_)
      obtain ⟨_, e19, rfl⟩ := A24.known 22 rfl
      exact Zg (v := (.int .u64 ((ds1.getD ((len_db - 2)) 0 : Nat) : Int))) (A24.live.add e19) rfl Ym (A24.run.row (r1.up (l4.trans (l5.trans (l6.trans A24.le))))) (by rw [Nat.zero_add]; exact ZX (by omega)) (A24.same rfl)
    ·intro S31 _ _ w33 l7 E1 R12 n1 L66 K1
     obtain ⟨_, e20, rfl⟩ := K1 0 (by decide)
     have L67 := L66.add e20; clear L66
     obtain ⟨_, e21, rfl⟩ := K1 1 (by decide)
     have L68 := L67.add e21; clear L67
     obtain ⟨_, e22, rfl⟩ := K1 2 (by decide)
     have L69 := L68.add e22; clear L68
     obtain ⟨_, e23, rfl⟩ := K1 3 (by decide)
     have L70 := L69.add e23; clear L69
     obtain ⟨_, e24, rfl⟩ := K1 4 (by decide)
     have L71 := L70.add e24; clear L70
     obtain ⟨_, e25, rfl⟩ := K1 5 (by decide)
     have L72 := L71.add e25; clear L71
     obtain ⟨_, e26, rfl⟩ := K1 6 (by decide)
     have L73 := L72.add e26; clear L72
     obtain ⟨_, e27, rfl⟩ := K1 7 (by decide)
     have L74 := L73.add e27; clear L73
     obtain ⟨_, e28, rfl⟩ := K1 8 (by decide)
     have L75 := L74.add e28; clear L74
     obtain ⟨_, e29, rfl⟩ := K1 9 (by decide)
     have L76 := L75.add e29; clear L75
     obtain ⟨_, e30, rfl⟩ := K1 10 (by decide)
     have L77 := L76.add e30; clear L76
     obtain ⟨_, e31, rfl⟩ := K1 11 (by decide)
     have L78 := L77.add e31; clear L77
     obtain ⟨_, e32, rfl⟩ := K1 12 (by decide)
     have L79 := L78.add e32; clear L78
     obtain ⟨_, e33, rfl⟩ := K1 13 (by decide)
     have L80 := L79.add e33; clear L79
     obtain ⟨_, e34, rfl⟩ := K1 14 (by decide)
     have L81 := L80.add e34; clear L80
     obtain ⟨_, e35, rfl⟩ := K1 15 (by decide)
     have L82 := L81.add e35; clear L81
     obtain ⟨_, e36, rfl⟩ := K1 16 (by decide)
     have L83 := L82.add e36; clear L82
     obtain ⟨_, e37, rfl⟩ := K1 17 (by decide)
     have L84 := L83.add e37; clear L83
     obtain ⟨_, e38, rfl⟩ := K1 18 (by decide)
     have L85 := L84.add e38; clear L84
     obtain ⟨_, e39, rfl⟩ := K1 19 (by decide)
     have L86 := L85.add e39; clear L85
     obtain ⟨_, e40, rfl⟩ := K1 20 (by decide)
     have L87 := L86.add e40; clear L86
     obtain ⟨_, e41, rfl⟩ := K1 21 (by decide)
     have L88 := L87.add e41; clear L87
     obtain ⟨_, e42, rfl⟩ := K1 22 (by decide)
     have L89 := L88.add e42; clear L88
     obtain ⟨_, e43, rfl⟩ := K1 23 (by decide)
     have L90 := L89.add e43; clear L89
     have R13 : Run _ _ S31 [(b5, 29, (Yr os ++ [])), (b4, 29, (Yr us ++ [])), (b2, 32, zN1), (b1, 32, zN1)] w33 := Yh R12 n1 [] (by simp) (by simp)
     refine so L90 rfl (Zl L90 rfl ent_164 (nat_guess R13.holds (x := (us.getD (((kk - 1)) + (len_db)) 0)) (y := (us.getD (((kk - 1)) + ((len_db - 1))) 0)) (z := (us.getD (((kk - 1)) + ((len_db - 2))) 0)) (vh := (ds1.getD ((len_db - 1)) 0)) (wl := (ds1.getD ((len_db - 2)) 0)) (hxv) (hvtop) (ZQ hvlt (by decide) _) (ZQ hI.ltu (by decide) _) (ZQ hI.ltu (by decide) _) (ZQ hvlt (by decide) _)) fun v_3 _ _ x3 v3 => ?_)
     have R14 := R13.call x3; have l8 := x3.le
     obtain ⟨g1, rfl, hg_1, hg2, hg_3⟩ := v3
     intro _ L91
     refine sa L91 rfl fun _ L92 => sn (wp_seq (wp_seq ?_))
     obtain ⟨hgl, hg1, hg3⟩ := guess_or hg_1 hg2 hg_3
     refine Za (sm L92 rfl ?_)
     intro _ L93
     refine sm L93 rfl fun _ L94 => sm L94 rfl fun _ L95 => so L95 rfl (Qi L95 rfl ent_165 (nat_away (d := g1) (hd_1.up (l4.trans (l5.trans (l6.trans (l7.trans l8))))) (by exact (ZY R14)) (hI.ltu) (by omega) (by omega) (hgl) (by omega)) ?_)
     rintro _ _ ⟨v_4, S33, ds3, rfl, l9, R15, v4⟩
     refine ⟨v_4, rfl, ?_⟩
     obtain ⟨bw1, rfl, ho7, ho8, ho9, ho10, ho11⟩ := v4
     have hl1 := ho7; have ht1 := ho8; have hbw := ho9
     obtain ⟨hkn1, hkn2⟩ := knuth hT.eP hT.hpl hVe hvl (K := 18446744073709551616) (by omega) hT.hP hgl hg1 hg3
     have hw0 : bw1 = 0 → val W64 us = val W64 ds3 + W64 ^ (kk - 1) * (val W64 ds1 * g1) ∧ val W64 ds3 < W64 ^ (kk - 1) * val W64 ds1 := fun e => by (have q := ho10; rw [e] at q; exact long0 hT.e hT.hlow q hkn1)
     have hw1 : bw1 = 1 → val W64 ds3 + W64 ^ (kk - 1) * (val W64 ds1 * g1) = val W64 us + W64 ^ ((kk - 1) + (len_db + 1)) := fun e => by (have q := ho10; rw [e, Nat.mul_one] at q; exact q)
     have hwt : val W64 ds3 < W64 ^ ((kk - 1) + (len_db + 1)) := top_lt' hN ho7 (by omega) (fun j hj => ho11 j (Or.inr hj)) ho8
     by_cases hbo : bw1 ≠ 0
     ·rw [decide_eq_true hbo]
      intro _ L96
      refine sn (Zp L96 rfl rfl (wp_seq ?_))
      have hwe := hw1 (by omega)
      have hgp := long_pos hwe hwt
      refine Za (sm L96 rfl ?_)
      intro _ L97
      refine so L97 rfl (ZR (z := ((g1 - 1 : Nat) : Int)) L97 rfl rfl (u64_to (by omega) (by omega)) fun _ L98 => sa L98 rfl fun _ L99 => sn (Za (sm L99 rfl fun _ L100 => sm L100 rfl fun _ L101 => so L101 rfl (Qi L101 rfl ent_166 (nat_back (hd_1.up (l4.trans (l5.trans (l6.trans (l7.trans (l8.trans l9)))))) (by exact R15) (ht1) (by omega) (by omega) (by omega)) ?_))))
      rintro _ _ ⟨v_5, S34, ds4, rfl, l10, R16, v5⟩
      refine ⟨v_5, rfl, ?_⟩
      obtain ⟨cy1, rfl, ho12, ho13, ho14, ho15, ho16⟩ := v5
      have hwt2 : val W64 ds4 < W64 ^ ((kk - 1) + (len_db + 1)) := top_lt' hwt ho12 (by omega) (fun j hj => ho16 j (Or.inr hj)) ho13
      obtain ⟨_, hS_e, hS_b⟩ := long1 hT.e hwe hwt hkn2 ho15 hwt2 ho14
      have hl_u := ho12.trans hl1; have ht_u := ho13; have hdg : g1 - 1 < 18446744073709551616 := by omega
      intro _ L102
      refine sn (Za (sm L102 rfl ?_))
      intro _ L103
      refine sm L103 rfl fun _ L104 => sm L104 rfl fun _ L105 => so L105 rfl (Zr ((kk - 1)) L105 rfl rfl Tryz.underlying30 ZA (by omega) (by omega) fun _ L106 => Zs L106 rfl rfl (Yk (cs' := (Yr (os.set ((kk - 1)) ((g1 - 1))) ++ [])) L106 rfl rfl (ZY R16) ZA rfl (by simp only [List.length_append, ZH]; omega) (by rw [Nat.zero_add]; exact YS (by omega)) fun _ R17 _ L107 => Yy ((ZI (Zc (Za (sm L107 rfl fun _ L108 => so L108 rfl (ZR (z := (((kk : Int) - (1 : Int)) - (1 : Int))) L108 rfl rfl (IntWalk.i64_in _ (by omega)) fun _ L109 => ?_))))))))
      refine sa L109 rfl fun a79 L110 => sn ?_
      have e44 : ((((kk : Int) - (1 : Int)) - (1 : Int)) : Int) = ((((kk - 1) : Nat) : Int) - (1 : Int)) := by omega
      have L111 : Zt a79 100 [(12, (.int .i64 ((((kk - 1) : Nat) : Int) - (1 : Int))))] := by have q := (L110.kp [12] rfl); rw [e44] at q; exact q
      exact ⟨(kk - 1), (by omega), S34, ds4, (os.set ((kk - 1)) ((g1 - 1))), (kk - 1), (l6.trans (l7.trans (l8.trans (l9.trans l10)))), (L110.keep (L110.keep (L110.keep (L110.keep (L110.keep (L110.keep (L110.keep (L111.keep (Zt.none _ L110) (t := 12) rfl) (t := 11) rfl) (t := 9) rfl) (t := 8) rfl) (t := 7) rfl) (t := 6) rfl) (t := 5) rfl) (t := 4) rfl), (Zax (Zax (Zax (Zax R17)))), (by exact hI.next (by omega) hl_u ht_u hdg hS_e hS_b), (by rw [List.length_set]; exact hol), rfl⟩
     ·rw [decide_eq_false hbo]
      intro _ L112
      refine sn (Zm L112 rfl rfl (wp_skip ((Zc ?_))))
      obtain ⟨hS_e, hS_b⟩ := hw0 (by omega)
      have hl_u := hl1; have ht_u := ht1; have hdg := hgl
      refine Za (sm L112 rfl ?_)
      intro _ L113
      refine sm L113 rfl fun _ L114 => sm L114 rfl fun _ L115 => so L115 rfl (Zr ((kk - 1)) L115 rfl rfl Tryz.underlying30 ZA (by omega) (by omega) fun _ L116 => Zs L116 rfl rfl (Yk (cs' := (Yr (os.set ((kk - 1)) (g1)) ++ [])) L116 rfl rfl (ZY R15) ZA rfl (by simp only [List.length_append, ZH]; omega) (by rw [Nat.zero_add]; exact YS (by omega)) fun _ R18 _ L117 => Yy ((ZI (Zc (Za (sm L117 rfl fun _ L118 => so L118 rfl (ZR (z := (((kk : Int) - (1 : Int)) - (1 : Int))) L118 rfl rfl (IntWalk.i64_in _ (by omega)) fun _ L119 => ?_))))))))
      refine sa L119 rfl fun a88 L120 => sn ?_
      have e45 : ((((kk : Int) - (1 : Int)) - (1 : Int)) : Int) = ((((kk - 1) : Nat) : Int) - (1 : Int)) := by omega
      have L121 : Zt a88 100 [(12, (.int .i64 ((((kk - 1) : Nat) : Int) - (1 : Int))))] := by have q := (L120.kp [12] rfl); rw [e45] at q; exact q
      exact ⟨(kk - 1), (by omega), S33, ds3, (os.set ((kk - 1)) (g1)), (kk - 1), (l6.trans (l7.trans (l8.trans l9))), (L120.keep (L120.keep (L120.keep (L120.keep (L120.keep (L120.keep (L120.keep (L121.keep (Zt.none _ L120) (t := 12) rfl) (t := 11) rfl) (t := 9) rfl) (t := 8) rfl) (t := 7) rfl) (t := 6) rfl) (t := 5) rfl) (t := 4) rfl), (Zax (Zax (Zax (Zax R18)))), (by exact hI.next (by omega) hl_u ht_u hdg hS_e hS_b), (by rw [List.length_set]; exact hol), rfl⟩
   ·refine so L27 rfl (bF t1 (fun _ => YL L27 rfl rfl) fun _ L122 => sn (Zm L122 rfl rfl (wp_exit ((Zz (Zz (YR (Zc (wp_seq ?_)))))))))
    have hlu0 := hI.lu
    obtain rfl : kk = 0 := by omega
    obtain ⟨hd1, hd2⟩ := hI.done
    obtain ⟨hq_, hr_⟩ := long_done (b := val W64 db) (by have q := val_top hl_db (by omega) hn; exact Nat.lt_of_lt_of_le (Nat.pow_pos (by decide)) q) (Nat.two_pow_pos s) huu (by rw [← hvv]; exact hd1) (by rw [← hvv]; exact hd2)
    refine Za (sm L122 rfl ?_)
    intro _ L123
    obtain ⟨S35, l11, r2, R19⟩ := (R11).freeze
    have hd_2 : Dg S35 (some ⟨b5, 0, none⟩) (mm) (mm) os := ⟨by first | rfl | omega, by omega, by omega, hI.lto, fun _ => ⟨_, _, rfl, r2⟩⟩
    refine so L123 rfl (Zl L123 rfl Zbj (Zbe R19.holds (k := kb) hd_2 (by rw [hq_]; exact Nat.le_trans (Nat.div_le_self _ _) hk)) fun v_6 _ _ x6 v6 => ?_)
    have R20 := R19.call x6
    obtain ⟨cs_1, rfl, h1⟩ := v6
    intro _ L124
    refine sm L124 rfl fun _ L125 => sm L125 rfl fun _ L126 => ?_
    obtain ⟨S37, l13, r3, R21⟩ := (R20).freeze
    have hd3 : Dg S37 (some ⟨b4, 0, none⟩) (len_da + 1) (len_da + 1) us := ⟨by first | rfl | omega, by omega, by omega, hI.ltu, fun _ => ⟨_, _, rfl, r3⟩⟩
    refine so L126 rfl (Zl L126 rfl ent_167 (nat_down R21.holds (n := s) (k := kb) hd3 (hs) (by rw [hr_]; exact Nat.le_trans (Nat.mod_le _ _) hk) (by omega)) fun v_7 _ _ x7 v7 => ?_)
    have R22 := R21.call x7; have l14 := x7.le
    obtain ⟨c2, rfl, h_2⟩ := v7
    intro _ L127
    exact Zs L127 rfl rfl (Zi L127 rfl rfl (ZY R22) Zk h1.len rfl h1.ones fun _ R23 _ L128 => (Zs L128 rfl rfl (Zi L128 rfl rfl (ZY R23) Zk h_2.len rfl h_2.ones fun _ R24 _ L129 => (sn (wp_ret ((Zo (rs := Tryz.f136.results.toList) (L129.kp [4, 5] rfl) rfl (Res.aggW rfl ZE Zk (R24.has (List.Mem.tail _ (List.Mem.head _))) h1.len (Res.aggW rfl ZE Zk (R24.has (List.Mem.head _)) h_2.len Res.nil)) (⟨_, _, rfl, R24.ext, ⟨_, _, rfl, ((h1.up (l13.trans l14)).to (by exact hq_) (by omega)), (h_2.to (by exact hr_) (by omega))⟩⟩))))))))
  ·skip
   refine Za (sm L17 rfl ?_)
   intro _ L131
   refine so L131 rfl (ZM L131 rfl Tryz.underlying30 fun _ L132 => sm L132 rfl fun _ L133 => so L133 rfl (ZR (z := ((((len_da + 1) : Nat) : Int) - (len_db : Int))) L133 rfl rfl (IntWalk.i64_in _ (by omega)) fun _ L134 => sa L134 rfl fun a101 L135 => sn ?_))
   have e46 : (((((len_da + 1) : Nat) : Int) - (len_db : Int)) : Int) = ((((len_da + 1) - len_db) : Nat) : Int) := by omega
   have L136 : Zt a101 100 [(10, (.int .i64 ((((len_da + 1) - len_db) : Nat) : Int)))] := by have q := (L135.kp [10] rfl); rw [e46] at q; exact q
   exact ⟨S4, ((len_da + 1) - len_db), Sh.le.refl _, (L135.keep (L135.keep (L135.keep (L135.keep (L135.keep (L135.keep (L136.keep (Zt.none _ L135) (t := 10) rfl) (t := 9) rfl) (t := 8) rfl) (t := 7) rfl) (t := 6) rfl) (t := 5) rfl) (t := 4) rfl), (Xj (Xj (Xj R8))), (by omega)⟩
 ·skip
  refine Za (sm L2 rfl ?_)
  intro _ L137
  refine so L137 rfl (ZM L137 rfl Tryz.underlying30 fun _ L138 => sm L138 rfl fun _ L139 => sm L139 rfl fun _ L140 => so L140 rfl (ZM L140 rfl Tryz.underlying30 fun _ L141 => so L141 rfl (ZR (z := ((len_db : Int) - (1 : Int))) L141 rfl rfl (IntWalk.i64_in _ (by omega)) fun _ L142 => ?_)))
  obtain ⟨b6, rest_1, rfl, r4⟩ := hd_db.row (by omega)
  refine so L142 rfl (Zr ((len_db - 1)) L142 rfl rfl Tryz.underlying30 ZA (by omega) (by omega) fun _ L143 => so L143 rfl (Zg (v := (.int .u64 ((db.getD ((len_db - 1)) 0 : Nat) : Int))) L143 rfl Ym (R2.row r4) (by rw [Nat.zero_add]; exact ZX (by omega)) fun _ L144 => so L144 rfl (Zl L144 rfl ent_162 (QG R2.holds (x := (db.getD ((len_db - 1)) 0)) (ZQ hd_db.hlt (by decide) _)) fun v_8 S39 _ x8 v8 => ?_)))
  have R25 := R2.call x8; have l15 := x8.le
  obtain rfl := v8
  intro _ L145
  refine sa L145 rfl fun _ L146 => sa L146 rfl fun a112 L147 => ?_
  have L148 := (L147.kp [0, 1, 4, 5, 6, 7] rfl); clear L147
  refine sn ?_
  have e47 : (((64 - Zw (db.getD ((len_db - 1)) 0) : Nat) : Int) : Int) = (((64 - Zw (db.getD ((len_db - 1)) 0)) : Nat) : Int) := by omega
  have L149 : Zt a112 100 [(7, (.int .i64 (((64 - Zw (db.getD ((len_db - 1)) 0)) : Nat) : Int)))] := by have q := (L148.kp [7] rfl); rw [e47] at q; exact q
  exact ⟨S39, (64 - Zw (db.getD ((len_db - 1)) 0)), l15, (L148.keep (L148.keep (L148.keep (L148.keep (L148.keep (L149.keep (Zt.none _ L148) (t := 7) rfl) (t := 6) rfl) (t := 5) rfl) (t := 4) rfl) (t := 1) rfl) (t := 0) rfl), (ZY (ZY R25)), (by exact (lz hn (ZQ hd_db.hlt (by decide) _)).1), (by exact (lz hn (ZQ hd_db.hlt (by decide) _)).2)⟩
end Go.Cham
namespace Go.Cham
open Go Go.RowKit Go.Proofs
set_option maxRecDepth 20000 in
theorem nat_Div {S : Sh} {w : World} (hS : Ya S w) {c_a : List Value} {a : Nat} {k_a : Nat} (h_a : Na S c_a (a) (k_a)) {c_b : List Value} {b : Nat} {k_b : Nat} (h_b : Na S c_b (b) (k_b)) (hlim : k_a ≤ 1099511627776) : Calls Tryz.prog 77 [(.agg (c_a : List Value).toArray), (.agg (c_b : List Value).toArray)].toArray w (Ret S w (fun S v => ((b = 0) ∧ ∃ (c0 : List Value) (c1 : List Value), v = .tuple [.agg c0.toArray, .agg c1.toArray, .int .i64 (11)].toArray ∧ Na S c0 (0) (0) ∧ Na S c1 (0) (0)) ∨ ((b ≠ 0) ∧ ∃ (c0 : List Value) (c1 : List Value), v = .tuple [.agg c0.toArray, .agg c1.toArray, .int .i64 (0)].toArray ∧ Na S c0 (a / b) (k_a) ∧ Na S c1 (a % b) (k_a)))) := by
 refine ZK (n := 63) Tryz.func77 rfl rfl ?_
 intro ac0 L0
 replace L0 : Zt ac0 63 [(0, (.agg (c_a : List Value).toArray)), (1, (.agg (c_b : List Value).toArray))] := L0
 have R0 : Run S w S [] w := .start hS
 have hbz := @XC b; have hcmp := @cmpN_neg a b; have hla := XA h_a.1
 refine wp_seq (Za (so L0 rfl (ZN (cs := c_a) L0 rfl R0 rfl ?_)))
 intro b1 _ _ l1 r1 R1 _ L1
 refine so L1 rfl (ZN (cs := c_b) L1 rfl R1 rfl fun b2 _ _ l2 r2 R2 _ L2 => so L2 rfl (ZG (cs := zN1) ZO R2 rfl fun b3 _ R3 _ L3 => so L3 rfl (ZG (cs := zN1) ZO R3 rfl fun b4 _ R4 _ L4 => sa L4 rfl fun _ L5 => sn (wp_seq (wp_block (wp_seq (Za ?_)))))))
 refine so L5 rfl (Zx L5 rfl ZE Zk (R4.row r2) h_b.len fun _ L6 => so L6 rfl (Zl L6 rfl Zdf (Yw R4.holds (h_b.up (l1.trans l2)) ) fun v_1 S3 _ x1 v1 => ?_))
 have R5 := R4.call x1; have l3 := x1.le
 obtain rfl := v1
 intro _ L7
 by_cases t1 : ((Zw b : Nat) : Int) = (0 : Int)
 ·refine so L7 rfl (bT t1 (fun _ => ZZ L7 rfl rfl) fun _ L8 => sa L8 rfl fun _ L9 => ?_)
  have L10 := (L9.kp [2, 3, 4, 5, 6, 9] rfl); clear L9
  refine sn (Zp L10 rfl rfl (wp_seq (Za ?_)))
  have h1 : Na S3 zN1 (0) (0) := Na.zero _ _
  refine so L10 rfl (ZC (cs := zN1) L10 ZO XD .nil (by rfl) fun _ L11 => ?_)
  have h2 : Na S3 zN1 (0) (0) := Na.zero _ _
  exact so L11 rfl (ZC (cs := zN1) L11 ZO XD .nil (by rfl) fun _ L12 => Zs L12 rfl rfl (Zi L12 rfl rfl (ZY R5) Zk h1.len rfl h1.ones fun _ R6 _ L13 => Zs L13 rfl rfl (Zi L13 rfl rfl (ZY R6) Zk h2.len rfl h2.ones fun _ R7 _ L14 => sa L14 rfl fun _ L15 => sn (wp_ret ((Yz (Zy (Zo (rs := Tryz.f77.results.toList) L15 rfl (Res.aggW rfl ZE Zk (R7.has (List.Mem.tail _ (List.Mem.head _))) h1.len (Res.aggW rfl ZE Zk (R7.has (List.Mem.head _)) h2.len (.tmp rfl Res.nil))) (⟨_, _, rfl, R7.ext, (Or.inl ⟨by omega, ⟨_, _, rfl, (h1.to rfl (by omega)), (h2.to rfl (by omega))⟩⟩)⟩)))))))))
 ·refine so L7 rfl (bF t1 (fun _ => ZZ L7 rfl rfl) fun _ L16 => sa L16 rfl fun _ L17 => ?_)
  have L18 := (L17.kp [2, 3, 4, 5, 6, 9] rfl); clear L17
  refine sn (Zm L18 rfl rfl (wp_seq (Za (so L18 rfl (Zx L18 rfl ZE Zk (R5.row (r1.up (l2.trans l3))) h_a.len ?_)))))
  intro _ L19
  refine so L19 rfl (Zx L19 rfl ZE Zk (R5.row (r2.up l3)) h_b.len fun _ L20 => so L20 rfl (Zl L20 rfl ent_133 (nat_Cmp R5.holds (h_a.up (l1.trans (l2.trans l3))) (h_b.up (l1.trans (l2.trans l3))) ) fun v_2 _ _ x2 v2 => ?_))
  have R8 := R5.call x2; have l4 := x2.le
  obtain rfl := v2
  intro _ L21
  by_cases t2 : (cmpN a b) < (0 : Int)
  ·refine so L21 rfl (bT t2 (fun _ => ZF L21 rfl rfl) fun _ L22 => sa L22 rfl fun _ L23 => ?_)
   have L24 := (L23.kp [2, 3, 4, 5, 6, 15] rfl); clear L23
   refine sn (Zp L24 rfl rfl (wp_seq ?_))
   have L25 := (L24.kp [2, 3, 4, 5, 6] rfl)
   refine Zu (E0 := [(1000, b3, 32, zN1, false)]) (H0 := [(b4, 32, zN1)]) (n := 63) mixed 3 [] (fun k => if k = 1000 then 2 else 0) (Zce [
     (kvNa (0) (0)),
     .is (.agg (c_a : List Value).toArray),
     .stored 1000 32 (fun S cs => Na S cs (0) (0)) (fun _ _ _ l h => h.up l)]) L25 (ZY R8) (by simp) (by simp) (by rfl) (by rfl) (by simp) (ZU ?_) ?_
   ·refine (And.intro ?_ (And.intro ?_ (And.intro ?_ trivial)))
    ·refine Zb rfl (fun _ S5 _ _ _ A1 => ?_)
     have h3 : Na S5 zN1 (0) (0) := Na.zero _ _
     exact ZC (cs := zN1) A1.live ZO XD .nil (by rfl) (A1.same ⟨_, rfl, h3⟩)
    ·exact Zb rfl (fun _ _ _ _ _ A2 => (Zx A2.live rfl ZE Zk (A2.run.row (r1.up (l2.trans (l3.trans (l4.trans A2.le))))) h_a.len (A2.same rfl)))
    ·refine Zb rfl (fun _ _ _ _ _ A3 => ?_)
     obtain ⟨_, e1, cs_1, rfl, h4⟩ := A3.known 0 rfl
     obtain ⟨c2, q1, m1, z1, _⟩ := A3.le0 _ _ _ _ _ (List.Mem.head _)
     exact Qg A3 (A3.live.add e1) rfl rfl m1 rfl Zk (z1.trans rfl) h4.len h4.ones rfl h4
   ·intro S8 _ _ w12 l5 E1 R9 n1 L29 K1
    obtain ⟨_, e2, rfl⟩ := K1 1 (by decide)
    have L30 := L29.add e2; clear L29
    obtain ⟨b5, c3, m2, h5⟩ := K1 2 (by decide)
    obtain ⟨c4, q2, m3, _, _⟩ := E1 _ _ _ _ _ (List.Mem.head _)
    obtain ⟨hbe1, rfl⟩ := Zdq n1 m2 m3; obtain rfl := hbe1.symm
    have R10 : Run _ _ S8 [(b3, 32, c3), (b4, 32, zN1)] w12 := Yh R9 n1 [(1000, b3, 32, c3, true)] (by simp) (List.forall_mem_cons.2 ⟨m2, (by simp)⟩)
    exact Zs L30 rfl rfl (Zi L30 rfl rfl (ZY R10) Zk h_a.len rfl h_a.ones fun _ R11 _ L31 => sa L31 rfl fun _ L32 => sn (wp_ret ((Yz (Zy (Zo (rs := Tryz.f77.results.toList) L32 rfl (Res.aggW rfl ZE Zk (R11.has (List.Mem.tail _ (List.Mem.head _))) h5.len (Res.aggW rfl ZE Zk (R11.has (List.Mem.head _)) h_a.len (.tmp rfl Res.nil))) (⟨_, _, rfl, R11.ext, (Or.inr ⟨by omega, ⟨_, _, rfl, (h5.to (by exact (Nat.div_eq_of_lt (by omega)).symm) (by omega)), ((h_a.up (l1.trans (l2.trans (l3.trans (l4.trans l5))))).to (by exact (Nat.mod_eq_of_lt (by omega)).symm) (by omega))⟩⟩)⟩)))))))
  ·refine so L21 rfl (bF t2 (fun _ => ZF L21 rfl rfl) fun _ L33 => sa L33 rfl fun _ L34 => ?_)
   have L35 := (L34.kp [2, 3, 4, 5, 6, 15] rfl); clear L34
   refine sn (Zm L35 rfl rfl (wp_seq ?_))
   obtain ⟨hb_a, ⟨hs_a, rfl⟩ | ⟨hw_a, lo_a, bb_a, len_a, cap_a, rest_a, hlo_a, rfl, rw_a, hd_a, h2_a⟩⟩ := h_a.open
   ·refine Za (so L35 rfl (Zd (off' := 1) L35 rfl ZL rfl ?_))
    intro _ L36
    refine so L36 rfl (Zg L36 rfl YC (R8.row (r1.up (l2.trans (l3.trans l4)))) rfl fun _ L37 => so L37 rfl (ZT L37 rfl rfl Tryz.underlying30 fun _ L38 => sa L38 rfl fun _ L39 => sn (Zp L39 rfl rfl (wp_seq ?_))))
    obtain ⟨hb_b, ⟨hs_b, rfl⟩ | ⟨hw_b, lo_b, bb_b, len_b, cap_b, rest_b, hlo_b, rfl, rw_b, hd_b, h2_b⟩⟩ := h_b.open
    ·have L40 := (L39.kp [2, 3, 4, 5, 6] rfl)
     refine Zu (E0 := [(1000, b3, 32, zN1, false)]) (H0 := [(b4, 32, zN1)]) (n := 63) mixed 13 [] (fun k => if k = 1000 then 12 else 0) (Zce [
       .is (.pointer (some ⟨b1, 0, none⟩)),
       .is (.int .u64 (a : Int)),
       .is (.pointer (some ⟨b2, 0, none⟩)),
       .is (.int .u64 (b : Int)),
       .is (.int .u64 ((a : Int) / (b : Int))),
       (kvNa (a / b) (k_a)),
       .is (.pointer (some ⟨b1, 0, none⟩)),
       .is (.int .u64 (a : Int)),
       .is (.pointer (some ⟨b2, 0, none⟩)),
       .is (.int .u64 (b : Int)),
       .is (.int .u64 ((a : Int) % (b : Int))),
       (kvNa (a % b) (k_a)),
       .stored 1000 32 (fun S cs => Na S cs (a / b) (k_a)) (fun _ _ _ l h => h.up l)]) L40 (ZY R8) (by simp) (by simp) (by rfl) (by rfl) (by simp) (ZU ?_) ?_
     ·refine (And.intro ?_ (And.intro ?_ (And.intro ?_ (And.intro ?_ (And.intro ?_ (And.intro ?_ (And.intro ?_ (And.intro ?_ (And.intro ?_ (And.intro ?_ (And.intro ?_ (And.intro ?_ (And.intro ?_ trivial)))))))))))))
      ·exact Zb rfl (fun _ _ _ _ _ A4 => (Zd (off' := 0) A4.live rfl Yd rfl (A4.same rfl)))
      ·refine Zb rfl (fun _ _ _ _ _ A5 => ?_)
       obtain ⟨_, e3, rfl⟩ := A5.known 0 rfl
       exact Zg (A5.live.add e3) rfl Ym (A5.run.row (r1.up (l2.trans (l3.trans (l4.trans A5.le))))) rfl (A5.same rfl)
      ·exact Zb rfl (fun _ _ _ _ _ A6 => (Zd (off' := 0) A6.live rfl Yd rfl (A6.same rfl)))
      ·refine Zb rfl (fun _ _ _ _ _ A7 => ?_)
       obtain ⟨_, e4, rfl⟩ := A7.known 2 rfl
       exact Zg (A7.live.add e4) rfl Ym (A7.run.row (r2.up (l3.trans (l4.trans A7.le)))) rfl (A7.same rfl)
      ·refine Zb rfl (fun _ _ _ _ _ A8 => ?_)
       obtain ⟨_, e5, rfl⟩ := A8.known 1 rfl
       obtain ⟨_, e6, rfl⟩ := A8.known 3 rfl
       exact Zc2 (z := ((a : Int) / (b : Int))) ((A8.live.add e5).add e6) rfl rfl (by omega) (quo_nn (k := .u64) (by omega) (by omega) (show _ ≤ (18446744073709551615 : Int) by omega)) (A8.same rfl)
      ·refine Zb rfl (fun _ S14 _ _ _ A9 => ?_)
       obtain ⟨_, e7, rfl⟩ := A9.known 4 rfl
       have h6 : Na S14 [(.int .u64 ((a : Int) / (b : Int))), (.slice none 0 0)] (a / b) (k_a) := by rw [← Int.natCast_ediv]; exact Na.ofLowK (Nat.lt_of_le_of_lt (Nat.div_le_self _ _) hs_a) (Nat.le_trans (Nat.div_le_self _ _) hb_a)
       exact ZC (cs := [(.int .u64 ((a : Int) / (b : Int))), (.slice none 0 0)]) (A9.live.add e7) ZO XD (.cons rfl Yd rfl (by decide) .nil) (by rfl) (A9.same ⟨_, rfl, h6⟩)
      ·exact Zb rfl (fun _ _ _ _ _ A10 => (Zd (off' := 0) A10.live rfl Yd rfl (A10.same rfl)))
      ·refine Zb rfl (fun _ _ _ _ _ A11 => ?_)
       obtain ⟨_, e8, rfl⟩ := A11.known 6 rfl
       exact Zg (A11.live.add e8) rfl Ym (A11.run.row (r1.up (l2.trans (l3.trans (l4.trans A11.le))))) rfl (A11.same rfl)
      ·exact Zb rfl (fun _ _ _ _ _ A12 => (Zd (off' := 0) A12.live rfl Yd rfl (A12.same rfl)))
      ·refine Zb rfl (fun _ _ _ _ _ A13 => ?_)
       obtain ⟨_, e9, rfl⟩ := A13.known 8 rfl
       exact Zg (A13.live.add e9) rfl Ym (A13.run.row (r2.up (l3.trans (l4.trans A13.le)))) rfl (A13.same rfl)
      ·refine Zb rfl (fun _ _ _ _ _ A14 => ?_)
       obtain ⟨_, e10, rfl⟩ := A14.known 7 rfl
       obtain ⟨_, e11, rfl⟩ := A14.known 9 rfl
       exact Zc1 (z := ((a : Int) % (b : Int))) ((A14.live.add e10).add e11) rfl rfl (by omega) (rem_nn (by omega)) (A14.same rfl)
      ·refine Zb rfl (fun _ S20 _ _ _ A15 => ?_)
       obtain ⟨_, e12, rfl⟩ := A15.known 10 rfl
       have h7 : Na S20 [(.int .u64 ((a : Int) % (b : Int))), (.slice none 0 0)] (a % b) (k_a) := by rw [← Int.natCast_emod]; exact Na.ofLowK (Nat.lt_of_le_of_lt (Nat.mod_le _ _) hs_a) (Nat.le_trans (Nat.mod_le _ _) hb_a)
       exact ZC (cs := [(.int .u64 ((a : Int) % (b : Int))), (.slice none 0 0)]) (A15.live.add e12) ZO XD (.cons rfl Yd rfl (by decide) .nil) (by rfl) (A15.same ⟨_, rfl, h7⟩)
      ·refine Zb rfl (fun _ _ _ _ _ A16 => ?_)
       obtain ⟨_, e13, c5, rfl, h8⟩ := A16.known 5 rfl
       obtain ⟨c6, q3, m4, z2, _⟩ := A16.le0 _ _ _ _ _ (List.Mem.head _)
       exact Qg A16 (A16.live.add e13) rfl rfl m4 rfl Zk (z2.trans rfl) h8.len h8.ones rfl h8
     ·intro S22 _ _ w27 l6 E2 R12 n2 L54 K2
      obtain ⟨_, e14, c7, rfl, h9⟩ := K2 11 (by decide)
      have L55 := L54.add e14; clear L54
      obtain ⟨b6, c8, m5, h10⟩ := K2 12 (by decide)
      obtain ⟨c9, q4, m6, _, _⟩ := E2 _ _ _ _ _ (List.Mem.head _)
      obtain ⟨hbe2, rfl⟩ := Zdq n2 m5 m6; obtain rfl := hbe2.symm
      have R13 : Run _ _ S22 [(b3, 32, c8), (b4, 32, zN1)] w27 := Yh R12 n2 [(1000, b3, 32, c8, true)] (by simp) (List.forall_mem_cons.2 ⟨m5, (by simp)⟩)
      exact Zs L55 rfl rfl (Zi L55 rfl rfl (ZY R13) Zk h9.len rfl h9.ones fun _ R14 _ L56 => sa L56 rfl fun _ L57 => sn (wp_ret ((Yz (Zy (Zo (rs := Tryz.f77.results.toList) L57 rfl (Res.aggW rfl ZE Zk (R14.has (List.Mem.tail _ (List.Mem.head _))) h10.len (Res.aggW rfl ZE Zk (R14.has (List.Mem.head _)) h9.len (.tmp rfl Res.nil))) (⟨_, _, rfl, R14.ext, (Or.inr ⟨by omega, ⟨_, _, rfl, (h10.to rfl (by omega)), (h9.to rfl (by omega))⟩⟩)⟩)))))))
    ·have hl_b := hd_b.hlen; have hc_b := hd_b.hcap; have hg_b := hd_b.hbig
     have hW_b : 18446744073709551616 ≤ b := hw_b
     exfalso; omega
   ·have hl_a := hd_a.hlen; have hc_a := hd_a.hcap; have hg_a := hd_a.hbig
    have hW_a : 18446744073709551616 ≤ a := hw_a
    refine Za (so L35 rfl (Zd (off' := 1) L35 rfl ZL rfl ?_))
    intro _ L58
    refine so L58 rfl (Zg L58 rfl YC (R8.row (r1.up (l2.trans (l3.trans l4)))) rfl fun _ L59 => so L59 rfl (ZT L59 rfl rfl Tryz.underlying30 fun _ L60 => sa L60 rfl fun _ L61 => sn (Zm L61 rfl rfl (wp_seq ?_))))
    obtain ⟨hb_b, ⟨hs_b, rfl⟩ | ⟨hw_b, lo_b, bb_b, len_b, cap_b, rest_b, hlo_b, rfl, rw_b, hd_b, h2_b⟩⟩ := h_b.open
    ·refine Za (so L61 rfl (Zd (off' := 1) L61 rfl ZL rfl ?_))
     intro _ L62
     refine so L62 rfl (Zg L62 rfl YC (R8.row (r2.up (l3.trans l4))) rfl fun _ L63 => so L63 rfl (ZT L63 rfl rfl Tryz.underlying30 fun _ L64 => sa L64 rfl fun _ L65 => ?_))
     have L66 := (L65.kp [2, 3, 4, 5, 6, 38] rfl); clear L65
     refine sn (Zp L66 rfl rfl (wp_seq (Za (so L66 rfl (Zd (off' := 1) L66 rfl ZL rfl ?_)))))
     intro _ L67
     refine so L67 rfl (Zg L67 rfl YC (R8.row (r1.up (l2.trans (l3.trans l4)))) rfl fun _ L68 => so L68 rfl (does_appendNil L68 rfl rfl Tryz.underlying30 ZA QK Qc rfl R8 (hd_a.up (l1.trans (l2.trans (l3.trans l4)))) (by omega) (by omega) fun b7 cap1 rest_1 _ hle1 R15 _ L69 => sa L69 rfl fun _ L70 => sn (wp_seq (Za (sm L70 rfl fun _ L71 => so L71 rfl (Zd (off' := 0) L71 rfl Yd rfl fun _ L72 => ?_))))))
     refine so L72 rfl (Zg L72 rfl Ym (R15.row (r2.up (l3.trans l4))) rfl fun _ L73 => so L73 rfl (Qi L73 rfl ent_134 (nat_short (dv := b) (by exact R15) (by omega) (by omega) (by omega) (by omega) (hd_a.hlt) (by omega)) ?_))
     rintro _ _ ⟨v_3, _, ds1, rfl, l7, R16, v3⟩
     refine ⟨v_3, rfl, ?_⟩
     obtain ⟨rfl, ho1, ho2, ho3⟩ := v3
     have hsl := ho1; have hsx := ho2; have hsq := ho3
     intro _ L74
     refine sa L74 rfl fun _ L75 => ?_
     have L76 := (L75.kp [2, 3, 4, 5, 6, 7, 8] rfl); clear L75
     refine sn (wp_seq (Za (sm L76 rfl ?_)))
     intro _ L77
     obtain ⟨S24, l8, r3, R17⟩ := (R16).freeze
     have hd1 : Dg S24 (some ⟨b7, 0, none⟩) len_a cap1 ds1 := ⟨by first | rfl | omega, by omega, by omega, hsx, fun _ => ⟨_, _, rfl, r3⟩⟩
     refine so L77 rfl (Zl L77 rfl Zbj (Zbe R17.holds (k := k_a) hd1 (by rw [hsq, Yn (by decide)]; exact Nat.le_trans (Nat.div_le_self _ _) h_a.1)) fun v_4 S25 _ x4 v4 => ?_)
     have R18 := R17.call x4
     obtain ⟨c10, rfl, h11⟩ := v4
     intro _ L78
     refine sm L78 rfl fun _ L79 => ?_
     have h12 : Na S25 [(.int .u64 ((val W64 (ZP W64 a) % b : Nat) : Int)), (.slice none 0 0)] (a % b) (k_a) := by rw [Yn (by decide)]; exact Na.ofLowK (Nat.lt_trans (Nat.mod_lt _ (by omega)) hs_b) (Nat.le_trans (Nat.mod_le _ _) hb_a)
     exact so L79 rfl (ZC (cs := [(.int .u64 ((val W64 (ZP W64 a) % b : Nat) : Int)), (.slice none 0 0)]) L79 ZO XD (.cons rfl Yd rfl (by decide) .nil) (by rfl) fun _ L80 => Zs L80 rfl rfl (Zi L80 rfl rfl (ZY R18) Zk h11.len rfl h11.ones fun _ R19 _ L81 => Zs L81 rfl rfl (Zi L81 rfl rfl (ZY R19) Zk h12.len rfl h12.ones fun _ R20 _ L82 => sa L82 rfl fun _ L83 => sn (wp_ret ((Yz (Zy (Zo (rs := Tryz.f77.results.toList) (L83.kp [2, 3, 4, 5, 6] rfl) rfl (Res.aggW rfl ZE Zk (R20.has (List.Mem.tail _ (List.Mem.head _))) h11.len (Res.aggW rfl ZE Zk (R20.has (List.Mem.head _)) h12.len (.tmp rfl Res.nil))) (⟨_, _, rfl, R20.ext, (Or.inr ⟨by omega, ⟨_, _, rfl, (h11.to (by rw [hsq, Yn (by decide)]) (by omega)), (h12.to rfl (by omega))⟩⟩)⟩)))))))))
    ·have hl_b := hd_b.hlen; have hc_b := hd_b.hcap; have hg_b := hd_b.hbig
     have hW_b : 18446744073709551616 ≤ b := hw_b
     refine Za (so L61 rfl (Zd (off' := 1) L61 rfl ZL rfl ?_))
     intro _ L85
     refine so L85 rfl (Zg L85 rfl YC (R8.row (r2.up (l3.trans l4))) rfl fun _ L86 => so L86 rfl (ZT L86 rfl rfl Tryz.underlying30 fun _ L87 => sa L87 rfl fun _ L88 => ?_))
     have L89 := (L88.kp [2, 3, 4, 5, 6, 38] rfl); clear L88
     refine sn (Zm L89 rfl rfl (wp_skip ((ZI (Zc (wp_seq (Za (so L89 rfl (Zd (off' := 1) L89 rfl ZL rfl ?_)))))))))
     intro _ L90
     refine so L90 rfl (Zg L90 rfl YC (R8.row (r1.up (l2.trans (l3.trans l4)))) rfl fun _ L91 => so L91 rfl (Zd (off' := 1) L91 rfl ZL rfl fun _ L92 => so L92 rfl (Zg L92 rfl YC (R8.row (r2.up (l3.trans l4))) rfl fun _ L93 => so L93 rfl (Zl L93 rfl ent_136 (nat_long R8.holds (kb := k_a) (hd_a.up (l1.trans (l2.trans (l3.trans l4)))) (hd_b.up (l1.trans (l2.trans (l3.trans l4)))) (h2_b) (by rw [← hl_b]; exact digs_getLast (by decide) (by omega)) (by have q := Zes (show b ≤ a by omega); omega) (by omega) (by rw [Yn (by decide)]; exact h_a.1)) fun v_5 _ _ x5 v5 => ?_))))
     have R21 := R8.call x5
     obtain ⟨c11, c12, rfl, h13, h14⟩ := v5
     intro _ L94
     refine sm L94 rfl fun _ L95 => so L95 rfl (Zf L95 rfl rfl fun _ L96 => so L96 rfl (Zf L96 rfl rfl fun _ L97 => Zs L97 rfl rfl (Zi L97 rfl rfl (ZY R21) Zk h13.len rfl h13.ones fun _ R22 _ L98 => Zs L98 rfl rfl (Zi L98 rfl rfl (ZY R22) Zk h14.len rfl h14.ones fun _ R23 _ L99 => sn (wp_seq ?_)))))
     have L101 := ((L99.kp [4, 5, 6] rfl).kp [4, 5, 6] rfl)
     refine Zu (E0 := [(1000, b3, 32, c11, false)]) (H0 := [(b4, 32, c12)]) (n := 63) mixed 3 [] (fun k => if k = 1000 then 2 else 0) (Zce [
       .is (.agg (c11 : List Value).toArray),
       .is (.agg (c12 : List Value).toArray),
       .stored 1000 32 (fun S cs => Na S cs (val W64 (ZP W64 a) / val W64 (ZP W64 b)) (k_a)) (fun _ _ _ l h => h.up l)]) L101 (ZY R23) (by simp) (by simp) (by rfl) (by rfl) (by simp) (ZU ?_) ?_
     ·refine (And.intro ?_ (And.intro ?_ (And.intro ?_ trivial)))
      ·exact Zb rfl (fun _ _ _ _ _ A17 => (Zx A17.live rfl ZE Zk (A17.has0 (List.Mem.head _) (by rfl)) h13.len (A17.same rfl)))
      ·exact Zb rfl (fun _ _ _ _ _ A18 => (Zx A18.live rfl ZE Zk (A18.run.has (List.mem_append_right _ (List.Mem.head _))) h14.len (A18.same rfl)))
      ·refine Zb rfl (fun _ _ _ _ _ A19 => ?_)
       obtain ⟨_, e15, rfl⟩ := A19.known 0 rfl
       obtain ⟨c13, q5, m7, z3, _⟩ := A19.le0 _ _ _ _ _ (List.Mem.head _)
       exact Qg A19 (A19.live.add e15) rfl rfl m7 rfl Zk (z3.trans h13.len) h13.len h13.ones rfl (h13.up A19.le)
     ·intro S30 _ _ w40 l11 E3 R24 n3 L105 K3
      obtain ⟨_, e16, rfl⟩ := K3 1 (by decide)
      have L106 := L105.add e16; clear L105
      obtain ⟨b8, c14, m8, h15⟩ := K3 2 (by decide)
      obtain ⟨c15, q6, m9, _, _⟩ := E3 _ _ _ _ _ (List.Mem.head _)
      obtain ⟨hbe3, rfl⟩ := Zdq n3 m8 m9; obtain rfl := hbe3.symm
      have R25 : Run _ _ S30 [(b3, 32, c14), (b4, 32, c12)] w40 := Yh R24 n3 [(1000, b3, 32, c14, true)] (by simp) (List.forall_mem_cons.2 ⟨m8, (by simp)⟩)
      exact Zs L106 rfl rfl (Zi L106 rfl rfl (ZY R25) Zk h14.len h14.len h14.ones fun _ R26 _ L107 => sa L107 rfl fun _ L108 => sn (wp_ret ((Zo (rs := Tryz.f77.results.toList) L108 rfl (Res.aggW rfl ZE Zk (R26.has (List.Mem.tail _ (List.Mem.head _))) h15.len (Res.aggW rfl ZE Zk (R26.has (List.Mem.head _)) h14.len (.tmp rfl Res.nil))) (⟨_, _, rfl, R26.ext, (Or.inr ⟨by omega, ⟨_, _, rfl, (h15.to (by simp only [Yn (show 2 ≤ W64 by decide)]) (by omega)), ((h14.up l11).to (by simp only [Yn (show 2 ≤ W64 by decide)]) (by omega))⟩⟩)⟩)))))
end Go.Cham
namespace Go.Cham
open Go Go.RowKit Go.Proofs
set_option maxRecDepth 20000 in
theorem nat_Gcd {S : Sh} {w : World} (hS : Ya S w) {c_a : List Value} {a : Nat} {k_a : Nat} (h_a : Na S c_a (a) (k_a)) {c_b : List Value} {b : Nat} {k_b : Nat} (h_b : Na S c_b (b) (k_b)) (hlim : k_a + k_b ≤ 1099511627776) : Calls Tryz.prog 79 [(.agg (c_a : List Value).toArray), (.agg (c_b : List Value).toArray)].toArray w (Ret S w (fun S v => ∃ (c0 : List Value), v = .agg c0.toArray ∧ Na S c0 (Nat.gcd a b) ((k_a + k_b)))) := by
 refine ZK (n := 43) Tryz.func79 rfl rfl ?_
 intro ac0 L0
 replace L0 : Zt ac0 43 [(0, (.agg (c_a : List Value).toArray)), (1, (.agg (c_b : List Value).toArray))] := L0
 have R0 : Run S w S [] w := .start hS
 refine wp_seq (Za (so L0 rfl (Zer (cs := c_a) L0 rfl R0 rfl ?_)))
 intro b1 _ R1 _ L1
 refine so L1 rfl (Zer (cs := c_b) L1 rfl R1 rfl fun b2 _ R2 _ L2 => so L2 rfl (ZG (cs := zN1) ZO R2 rfl fun b3 _ R3 _ L3 => sn (wp_seq (wp_block ?_))))
 refine Yb (fun m ac ww => ∃ (S' : Sh) (x : Nat) (y : Nat) (c_x : List Value) (c_y : List Value), S.le S' ∧ Zt ac 43 [(2, (.pointer (some ⟨b1, 0, none⟩))), (3, (.pointer (some ⟨b2, 0, none⟩))), (4, (.pointer (some ⟨b3, 0, none⟩)))] ∧ Run S w S' [(b3, 32, zN1), (b2, 32, c_y), (b1, 32, c_x)] ww ∧ (Na S' c_x x (k_a + k_b)) ∧ (Na S' c_y y (k_a + k_b)) ∧ (Nat.gcd x y = Nat.gcd a b) ∧ m = y)
  (b) ⟨S, a, b, c_a, c_b, Sh.le.refl _, (L3.kp [4, 3, 2] rfl), (Xj (Xj (Xj R3))), (by exact h_a.to rfl (by omega)), (by exact h_b.to rfl (by omega)), (by rfl), rfl⟩ ?_
 rintro m_1 ac1 _ ⟨_, x, y, c_x, c_y, l1, L4, R4, h_x, h_y, hg, m1⟩
 refine wp_seq (wp_seq ?_)
 have hbz := @XC y
 refine Za (so L4 rfl (Zx L4 rfl ZE Zk (R4.has (List.Mem.tail _ (List.Mem.head _))) h_y.len ?_))
 intro _ L5
 refine so L5 rfl (Zl L5 rfl Zdf (Yw R4.holds h_y ) fun v_1 _ _ x1 v1 => ?_)
 have R5 := R4.call x1; have l2 := x1.le
 obtain rfl := v1
 intro _ L6
 by_cases t1 : (0 : Int) < ((Zw y : Nat) : Int)
 ·refine so L6 rfl (bT t1 (fun _ => ZS L6 rfl rfl) fun _ L7 => sn (Zp L7 rfl rfl (wp_skip ((Zc (wp_block (wp_seq (wp_seq ?_))))))))
  obtain ⟨hb_x, ⟨hs_x, rfl⟩ | ⟨hw_x, lo_x, bb_x, len_x, cap_x, rest_x, hlo_x, rfl, rw_x, hd_x, h2_x⟩⟩ := h_x.open
  ·obtain ⟨hb_y, ⟨hs_y, rfl⟩ | ⟨hw_y, lo_y, bb_y, len_y, cap_y, rest_y, hlo_y, rfl, rw_y, hd_y, h2_y⟩⟩ := h_y.open
   ·refine Za (so L7 rfl (Zd (off' := 1) L7 rfl ZL rfl ?_))
    intro _ L8
    refine so L8 rfl (Zg L8 rfl YC (R5.has (List.Mem.tail _ (List.Mem.tail _ (List.Mem.head _)))) rfl fun _ L9 => so L9 rfl (ZT L9 rfl rfl Tryz.underlying30 fun _ L10 => sm L10 rfl fun _ L11 => son L11 rfl (Zd (off' := 1) L11 rfl ZL rfl fun _ L12 => son L12 rfl (Zg L12 rfl YC (R5.has (List.Mem.tail _ (List.Mem.head _))) rfl fun _ L13 => son L13 rfl (ZT L13 rfl rfl Tryz.underlying30 fun _ L14 => so L14 rfl (Zj L14 rfl rfl fun _ L15 => ?_))))))
    refine sn (Zp L15 rfl rfl (wp_seq ?_))
    have L16 := (L15.kp [2, 3, 4, 10, 11, 12, 13, 14, 15, 16, 17, 18, 19, 20] rfl)
    refine Zu (E0 := []) (H0 := [(b3, 32, zN1), (b2, 32, [(.int .u64 (y : Int)), (.slice none 0 0)]), (b1, 32, [(.int .u64 (x : Int)), (.slice none 0 0)])]) (n := 43) mixed 5 [] (fun k => 0) (Zce [
      .is (.pointer (some ⟨b1, 0, none⟩)),
      .is (.int .u64 (x : Int)),
      .is (.pointer (some ⟨b2, 0, none⟩)),
      .is (.int .u64 (y : Int)),
      .is (.int .u64 (x : Int))]) L16 R5 (by simp) (by simp) (by rfl) (by rfl) (by simp) (ZU ?_) ?_
    ·refine (And.intro ?_ (And.intro ?_ (And.intro ?_ (And.intro ?_ (And.intro ?_ trivial)))))
     ·exact Zb rfl (fun _ _ _ _ _ A1 => (Zd (off' := 0) A1.live rfl Yd rfl (A1.same rfl)))
     ·refine Zb rfl (fun _ _ _ _ _ A2 => ?_)
      obtain ⟨_, e1, rfl⟩ := A2.known 0 rfl
      exact Zg (A2.live.add e1) rfl Ym (A2.run.has (List.mem_append_right _ (List.Mem.tail _ (List.Mem.tail _ (List.Mem.head _))))) rfl (A2.same rfl)
     ·exact Zb rfl (fun _ _ _ _ _ A3 => (Zd (off' := 0) A3.live rfl Yd rfl (A3.same rfl)))
     ·refine Zb rfl (fun _ _ _ _ _ A4 => ?_)
      obtain ⟨_, e2, rfl⟩ := A4.known 2 rfl
      exact Zg (A4.live.add e2) rfl Ym (A4.run.has (List.mem_append_right _ (List.Mem.tail _ (List.Mem.head _)))) rfl (A4.same rfl)
     ·refine Zb rfl (fun _ _ _ _ _ A5 => ?_)
      obtain ⟨_, e3, rfl⟩ := A5.known 1 rfl
      exact XL (A5.live.add e3) rfl (A5.same rfl)
    ·intro S8 _ _ w11 l3 E1 R6 n1 L22 K1
     obtain ⟨_, e4, rfl⟩ := K1 0 (by decide)
     have L23 := L22.add e4; clear L22
     obtain ⟨_, e5, rfl⟩ := K1 1 (by decide)
     have L24 := L23.add e5; clear L23
     obtain ⟨_, e6, rfl⟩ := K1 2 (by decide)
     have L25 := L24.add e6; clear L24
     obtain ⟨_, e7, rfl⟩ := K1 3 (by decide)
     have L26 := L25.add e7; clear L25
     obtain ⟨_, e8, rfl⟩ := K1 4 (by decide)
     have L27 := L26.add e8; clear L26
     have R7 : Run _ _ S8 [(b3, 32, zN1), (b2, 32, [(.int .u64 (y : Int)), (.slice none 0 0)]), (b1, 32, [(.int .u64 (x : Int)), (.slice none 0 0)])] w11 := Yh R6 n1 [] (by simp) (by simp)
     refine sa L27 rfl fun _ L28 => sn (wp_seq (wp_block ?_))
     refine Yb (fun m ac ww => ∃ (S' : Sh) (p : Nat) (q : Nat), S8.le S' ∧ Zt ac 43 [(2, (.pointer (some ⟨b1, 0, none⟩))), (3, (.pointer (some ⟨b2, 0, none⟩))), (4, (.pointer (some ⟨b3, 0, none⟩))), (10, (.agg ([(.int .u64 ((y : Nat) : Int)), (.slice none 0 0)] : List Value).toArray)), (11, (.int .i64 ((Zw y : Nat) : Int))), (12, (.bool true)), (13, (.pointer (some ⟨b1, 1, none⟩))), (14, (.slice none 0 0)), (15, (.bool true)), (16, (.bool true)), (17, (.pointer (some ⟨b2, 1, none⟩))), (18, (.slice none 0 0)), (19, (.bool true)), (20, (.bool true)), (21, (.pointer (some ⟨b1, 0, none⟩))), (22, (.int .u64 ((x : Nat) : Int))), (23, (.pointer (some ⟨b2, 0, none⟩))), (24, (.int .u64 ((y : Nat) : Int))), (5, (.int .u64 ((p : Nat) : Int))), (6, (.int .u64 ((q : Nat) : Int)))] ∧ Run S w S' [(b3, 32, zN1), (b2, 32, [(.int .u64 ((y : Nat) : Int)), (.slice none 0 0)]), (b1, 32, [(.int .u64 ((x : Nat) : Int)), (.slice none 0 0)])] ww ∧ (p < 18446744073709551616) ∧ (q < 18446744073709551616) ∧ (Nat.gcd p q = Nat.gcd x y) ∧ m = q)
      (y) ⟨S8, x, y, Sh.le.refl _, (L28.kp [6, 5, 24, 23, 22, 21, 20, 19, 18, 17, 16, 15, 14, 13, 12, 11, 10, 4, 3, 2] rfl), (Xj (Xj (Xj R7))), (by omega), (by omega), (by rfl), rfl⟩ ?_
     rintro m_2 ac2 _ ⟨S9, p, q, l4, L29, R8, hp, hq, hpq, m2⟩
     refine wp_seq (wp_seq (Za (sm L29 rfl ?_)))
     intro _ L30
     by_cases t2 : (0 : Int) < (q : Int)
     ·refine so L30 rfl (bT t2 (fun _ => ZS L30 rfl rfl) fun _ L31 => sn (Zp L31 rfl rfl (wp_skip ((Zc (wp_block ?_))))))
      have L32 := (L31.kp [2, 3, 4, 10, 11, 12, 13, 14, 15, 16, 17, 18, 19, 20, 21, 22, 23, 24, 6, 25, 26] rfl)
      refine Zu (E0 := []) (H0 := [(b3, 32, zN1), (b2, 32, [(.int .u64 (y : Int)), (.slice none 0 0)]), (b1, 32, [(.int .u64 (x : Int)), (.slice none 0 0)])]) (n := 43) mixed 5 [(5, (.int .u64 (p : Int)), 4)] (fun k => 0) (Zce [
        .is (.int .u64 (q : Int)),
        .is (.int .u64 (p : Int)),
        .is (.int .u64 (q : Int)),
        .is (.int .u64 ((p : Int) % (q : Int))),
        .is (.int .u64 (q : Int))]) L32 R8 (by simp) (by simp) (by rfl) (by rfl) (List.forall_mem_cons.2 ⟨L31.at_ 5 _ rfl, (by simp)⟩) (ZU ?_) ?_
      ·refine (And.intro ?_ (And.intro ?_ (And.intro ?_ (And.intro ?_ (And.intro ?_ trivial)))))
       ·exact Zb rfl (fun _ _ _ _ _ A6 => (Zh A6.live rfl (A6.same rfl)))
       ·exact Zb rfl (fun _ _ _ _ _ A7 => (Zh (A7.live.add (A7.old (List.Mem.head _) (by rfl))) rfl (A7.same rfl)))
       ·exact Zb rfl (fun _ _ _ _ _ A8 => (Zh A8.live rfl (A8.same rfl)))
       ·refine Zb rfl (fun _ _ _ _ _ A9 => ?_)
        obtain ⟨_, e9, rfl⟩ := A9.known 1 rfl
        obtain ⟨_, e10, rfl⟩ := A9.known 2 rfl
        exact Zc1 (z := ((p : Int) % (q : Int))) ((A9.live.add e9).add e10) rfl rfl (by omega) (rem_nn (by omega)) (A9.same rfl)
       ·refine Zb rfl (fun _ _ _ _ _ A10 => ?_)
        obtain ⟨_, e11, rfl⟩ := A10.known 0 rfl
        exact XL (A10.live.add e11) rfl (A10.same rfl)
      ·intro S15 _ _ w18 l5 E2 R9 n2 L38 K2
       obtain ⟨_, e12, rfl⟩ := K2 0 (by decide)
       have L39 := L38.add e12; clear L38
       obtain ⟨_, e13, rfl⟩ := K2 1 (by decide)
       have L40 := L39.add e13; clear L39
       obtain ⟨_, e14, rfl⟩ := K2 2 (by decide)
       have L41 := L40.add e14; clear L40
       obtain ⟨_, e15, rfl⟩ := K2 3 (by decide)
       have L42 := L41.add e15; clear L41
       obtain ⟨_, e16, rfl⟩ := K2 4 (by decide)
       have L43 := L42.add e16; clear L42
       have R10 : Run _ _ S15 [(b3, 32, zN1), (b2, 32, [(.int .u64 (y : Int)), (.slice none 0 0)]), (b1, 32, [(.int .u64 (x : Int)), (.slice none 0 0)])] w18 := Yh R9 n2 [] (by simp) (by simp)
       refine sa L43 rfl fun a30 L44 => Yy ((ZI (Zc ?_)))
       have e17 : (((p : Int) % (q : Int)) : Int) = (((p % q) : Nat) : Int) := by first | omega | simp
       have L45 : Zt a30 43 [(6, (.int .u64 (((p % q) : Nat) : Int)))] := by have q := (L44.kp [6] rfl); rw [e17] at q; exact q
       exact ⟨(p % q), (by have qm := Nat.mod_lt p (show q > 0 by omega); omega), S15, q, (p % q), (l4.trans l5), (L44.keep (L44.keep (L44.keep (L44.keep (L44.keep (L44.keep (L44.keep (L44.keep (L44.keep (L44.keep (L44.keep (L44.keep (L44.keep (L44.keep (L44.keep (L44.keep (L44.keep (L44.keep (L44.keep (L45.keep (Zt.none _ L44) (t := 6) rfl) (t := 5) rfl) (t := 24) rfl) (t := 23) rfl) (t := 22) rfl) (t := 21) rfl) (t := 20) rfl) (t := 19) rfl) (t := 18) rfl) (t := 17) rfl) (t := 16) rfl) (t := 15) rfl) (t := 14) rfl) (t := 13) rfl) (t := 12) rfl) (t := 11) rfl) (t := 10) rfl) (t := 4) rfl) (t := 3) rfl) (t := 2) rfl), (Xj (Xj (Xj R10))), (by omega), (by exact Nat.lt_of_le_of_lt (Nat.mod_le _ _) hp), (by rw [← hpq, Nat.gcd_comm p q, Nat.gcd_rec q p, Nat.gcd_comm]), rfl⟩
     ·refine so L30 rfl (bF t2 (fun _ => ZS L30 rfl rfl) fun _ L46 => sn (Zm L46 rfl rfl (wp_exit ((Zz (Zz (YR (Zc (wp_seq ?_)))))))))
      have hpg : p = Nat.gcd x y := by rw [← hpq, show q = 0 by omega, Nat.gcd_zero_right]
      refine Za (sm L46 rfl ?_)
      intro _ L47
      have h1 : Na S9 [(.int .u64 (p : Int)), (.slice none 0 0)] (p) ((k_a + k_b)) := Na.ofLowK hp (by rw [hpg]; exact Nat.le_trans (Nat.gcd_le_right _ (by omega)) hb_y)
      exact so L47 rfl (ZC (cs := [(.int .u64 (p : Int)), (.slice none 0 0)]) L47 ZO XD (.cons rfl Yd rfl (by decide) .nil) (by rfl) fun _ L48 => Zs L48 rfl rfl (Zi L48 rfl rfl R8 Zk h1.len rfl h1.ones fun _ R11 _ L49 => sn (wp_ret ((Zy (Yz (Zy (Yz (Zy (Zo (rs := Tryz.f79.results.toList) L49 rfl (Res.aggW rfl ZE Zk (R11.has (List.Mem.head _)) h1.len Res.nil) (⟨_, _, rfl, R11.ext, ⟨_, rfl, (h1.to (by rw [hpg]; exact hg) (by omega))⟩⟩)))))))))))
   ·have hl_y := hd_y.hlen; have hc_y := hd_y.hcap; have hg_y := hd_y.hbig
    have hW_y : 18446744073709551616 ≤ y := hw_y
    refine Za (so L7 rfl (Zd (off' := 1) L7 rfl ZL rfl ?_))
    intro _ L50
    refine so L50 rfl (Zg L50 rfl YC (R5.has (List.Mem.tail _ (List.Mem.tail _ (List.Mem.head _)))) rfl fun _ L51 => so L51 rfl (ZT L51 rfl rfl Tryz.underlying30 fun _ L52 => sm L52 rfl fun _ L53 => son L53 rfl (Zd (off' := 1) L53 rfl ZL rfl fun _ L54 => son L54 rfl (Zg L54 rfl YC (R5.has (List.Mem.tail _ (List.Mem.head _))) rfl fun _ L55 => son L55 rfl (ZT L55 rfl rfl Tryz.underlying30 fun _ L56 => so L56 rfl (Zj L56 rfl rfl fun _ L57 => ?_))))))
    refine sn (Zm L57 rfl rfl (wp_skip ((Zc (wp_seq (Za (so L57 rfl (Zx L57 rfl ZE Zk (R5.has (List.Mem.tail _ (List.Mem.tail _ (List.Mem.head _)))) h_x.len ?_))))))))
    intro _ L58
    refine so L58 rfl (Zx L58 rfl ZE Zk (R5.has (List.Mem.tail _ (List.Mem.head _))) h_y.len fun _ L59 => so L59 rfl (Zl L59 rfl ent_77 (nat_Div R5.holds (h_x.up l2) (h_y.up l2) (by omega)) fun v_2 _ _ x2 v2 => ?_))
    have R12 := R5.call x2; have l6 := x2.le
    rcases v2 with ⟨t3, c1, c2, rfl, h2, h3⟩ | ⟨t4, c3, c4, rfl, h4, h5⟩
    ·omega
    ·intro _ L60
     refine sm L60 rfl fun _ L61 => so L61 rfl (Zf L61 rfl rfl fun _ L62 => so L62 rfl (Zf L62 rfl rfl fun _ L63 => so L63 rfl (Zf L63 rfl rfl fun _ L64 => so L64 rfl (ZG (cs := zN1) ZO R12 rfl fun b4 _ R13 _ L65 => so L65 rfl (ZG (cs := zN1) ZO R13 rfl fun b5 _ R14 _ L66 => Zs L66 rfl rfl (Zi L66 rfl rfl (ZY R14) Zk h4.len rfl h4.ones fun _ R15 _ L67 => ?_))))))
     refine Zs L67 rfl rfl (Zi L67 rfl rfl (ZY R15) Zk h5.len rfl h5.ones fun _ R16 _ L68 => sa L68 rfl fun _ L69 => sn ?_)
     have L70 := (L69.kp [2, 3, 4, 10, 11, 12, 13, 14, 15, 16, 17, 18, 19, 20, 34, 35, 36, 33, 37, 38, 39, 7, 8] rfl)
     refine Zu (E0 := [(1000, b1, 32, [(.int .u64 (x : Int)), (.slice none 0 0)], false)]) (H0 := [(b5, 32, c4), (b4, 32, c3), (b3, 32, zN1), (b2, 32, [(.int .u64 (lo_y : Int)), (.slice (some ⟨bb_y, 0, none⟩) len_y cap_y)])]) (n := 43) mixed 3 [] (fun k => if k = 1000 then 2 else 0) (Zce [
       .is (.agg ([(.int .u64 (lo_y : Int)), (.slice (some ⟨bb_y, 0, none⟩) len_y cap_y)] : List Value).toArray),
       .is (.agg (c4 : List Value).toArray),
       .stored 1000 32 (fun S cs => Na S cs (y) ((k_a + k_b))) (fun _ _ _ l h => h.up l)]) L70 (Zej R16) (by simp) (by simp) (by rfl) (by rfl) (by simp) (ZU ?_) ?_
     ·refine (And.intro ?_ (And.intro ?_ (And.intro ?_ trivial)))
      ·exact Zb rfl (fun _ _ _ _ _ A11 => (Zx A11.live rfl ZE Zk (A11.run.has (List.mem_append_right _ (List.Mem.tail _ (List.Mem.tail _ (List.Mem.tail _ (List.Mem.head _)))))) h_y.len (A11.same rfl)))
      ·exact Zb rfl (fun _ _ _ _ _ A12 => (Zx A12.live rfl ZE Zk (A12.run.has (List.mem_append_right _ (List.Mem.head _))) h5.len (A12.same rfl)))
      ·refine Zb rfl (fun _ _ _ _ _ A13 => ?_)
       obtain ⟨_, e18, rfl⟩ := A13.known 0 rfl
       obtain ⟨c5, q1, m3, z1, _⟩ := A13.le0 _ _ _ _ _ (List.Mem.head _)
       exact Qg A13 (A13.live.add e18) rfl rfl m3 rfl Zk (z1.trans h_x.len) h_y.len h_y.ones rfl (h_y.up (l2.trans (l6.trans A13.le)))
     ·intro S20 _ _ w28 l7 E3 R17 n3 L74 K3
      obtain ⟨_, e19, rfl⟩ := K3 0 (by decide)
      have L75 := L74.add e19; clear L74
      obtain ⟨_, e20, rfl⟩ := K3 1 (by decide)
      have L76 := L75.add e20; clear L75
      obtain ⟨b6, c6, m4, h6⟩ := K3 2 (by decide)
      obtain ⟨c7, q2, m5, _, _⟩ := E3 _ _ _ _ _ (List.Mem.head _)
      obtain ⟨hbe1, rfl⟩ := Zdq n3 m4 m5; obtain rfl := hbe1.symm
      have R18 : Run _ _ S20 [(b1, 32, c6), (b5, 32, c4), (b4, 32, c3), (b3, 32, zN1), (b2, 32, [(.int .u64 (lo_y : Int)), (.slice (some ⟨bb_y, 0, none⟩) len_y cap_y)])] w28 := Yh R17 n3 [(1000, b1, 32, c6, true)] (by simp) (List.forall_mem_cons.2 ⟨m4, (by simp)⟩)
      exact Zs L76 rfl rfl (Zi L76 rfl rfl (Zej R18) Zk h5.len h_y.len h5.ones fun _ R19 _ L77 => (Yy ((ZI (Zc (⟨(x % y), (by have qm := Nat.mod_lt x (show y > 0 by omega); omega), S20, y, (x % y), c6, c4, (l1.trans (l2.trans (l6.trans l7))), (L77.kp [4, 3, 2] rfl), (Run.init [(b3, 32, zN1), (b2, 32, c4), (b1, 32, c6)] (Zej (ZY (ZY R19)))), (by exact h6.to rfl (by omega)), (by exact (h5.up l7).to rfl (by omega)), (by rw [← hg, Nat.gcd_comm x y, Nat.gcd_rec y x, Nat.gcd_comm]), rfl⟩))))))
  ·have hl_x := hd_x.hlen; have hc_x := hd_x.hcap; have hg_x := hd_x.hbig
   have hW_x : 18446744073709551616 ≤ x := hw_x
   obtain ⟨hb_y, ⟨hs_y, rfl⟩ | ⟨hw_y, lo_y, bb_y, len_y, cap_y, rest_y, hlo_y, rfl, rw_y, hd_y, h2_y⟩⟩ := h_y.open
   ·refine Za (so L7 rfl (Zd (off' := 1) L7 rfl ZL rfl ?_))
    intro _ L78
    refine so L78 rfl (Zg L78 rfl YC (R5.has (List.Mem.tail _ (List.Mem.tail _ (List.Mem.head _)))) rfl fun _ L79 => so L79 rfl (ZT L79 rfl rfl Tryz.underlying30 fun _ L80 => sm L80 rfl fun _ L81 => sof L81 rfl fun _ L82 => sof L82 rfl fun _ L83 => sof L83 rfl fun _ L84 => so L84 rfl (Zj L84 rfl rfl fun _ L85 => ?_)))
    refine sn (Zm L85 rfl rfl (wp_skip ((Zc (wp_seq (Za (so L85 rfl (Zx L85 rfl ZE Zk (R5.has (List.Mem.tail _ (List.Mem.tail _ (List.Mem.head _)))) h_x.len ?_))))))))
    intro _ L86
    refine so L86 rfl (Zx L86 rfl ZE Zk (R5.has (List.Mem.tail _ (List.Mem.head _))) h_y.len fun _ L87 => so L87 rfl (Zl L87 rfl ent_77 (nat_Div R5.holds (h_x.up l2) (h_y.up l2) (by omega)) fun v_3 _ _ x3 v3 => ?_))
    have R20 := R5.call x3; have l8 := x3.le
    rcases v3 with ⟨t5, c8, c9, rfl, h7, h8⟩ | ⟨t6, c10, c11, rfl, h9, h10⟩
    ·omega
    ·intro _ L88
     refine sm L88 rfl fun _ L89 => so L89 rfl (Zf L89 rfl rfl fun _ L90 => so L90 rfl (Zf L90 rfl rfl fun _ L91 => so L91 rfl (Zf L91 rfl rfl fun _ L92 => so L92 rfl (ZG (cs := zN1) ZO R20 rfl fun b7 _ R21 _ L93 => so L93 rfl (ZG (cs := zN1) ZO R21 rfl fun b8 _ R22 _ L94 => Zs L94 rfl rfl (Zi L94 rfl rfl (ZY R22) Zk h9.len rfl h9.ones fun _ R23 _ L95 => ?_))))))
     refine Zs L95 rfl rfl (Zi L95 rfl rfl (ZY R23) Zk h10.len rfl h10.ones fun _ R24 _ L96 => sa L96 rfl fun _ L97 => sn ?_)
     have L98 := (L97.kp [2, 3, 4, 10, 11, 12, 13, 14, 15, 16, 20, 34, 35, 36, 33, 37, 38, 39, 7, 8] rfl)
     refine Zu (E0 := [(1000, b1, 32, [(.int .u64 (lo_x : Int)), (.slice (some ⟨bb_x, 0, none⟩) len_x cap_x)], false)]) (H0 := [(b8, 32, c11), (b7, 32, c10), (b3, 32, zN1), (b2, 32, [(.int .u64 (y : Int)), (.slice none 0 0)])]) (n := 43) mixed 3 [] (fun k => if k = 1000 then 2 else 0) (Zce [
       .is (.agg ([(.int .u64 (y : Int)), (.slice none 0 0)] : List Value).toArray),
       .is (.agg (c11 : List Value).toArray),
       .stored 1000 32 (fun S cs => Na S cs (y) ((k_a + k_b))) (fun _ _ _ l h => h.up l)]) L98 (Zej R24) (by simp) (by simp) (by rfl) (by rfl) (by simp) (ZU ?_) ?_
     ·refine (And.intro ?_ (And.intro ?_ (And.intro ?_ trivial)))
      ·exact Zb rfl (fun _ _ _ _ _ A14 => (Zx A14.live rfl ZE Zk (A14.run.has (List.mem_append_right _ (List.Mem.tail _ (List.Mem.tail _ (List.Mem.tail _ (List.Mem.head _)))))) h_y.len (A14.same rfl)))
      ·exact Zb rfl (fun _ _ _ _ _ A15 => (Zx A15.live rfl ZE Zk (A15.run.has (List.mem_append_right _ (List.Mem.head _))) h10.len (A15.same rfl)))
      ·refine Zb rfl (fun _ _ _ _ _ A16 => ?_)
       obtain ⟨_, e21, rfl⟩ := A16.known 0 rfl
       obtain ⟨c12, q3, m6, z2, _⟩ := A16.le0 _ _ _ _ _ (List.Mem.head _)
       exact Qg A16 (A16.live.add e21) rfl rfl m6 rfl Zk (z2.trans h_x.len) h_y.len h_y.ones rfl (h_y.up (l2.trans (l8.trans A16.le)))
     ·intro S25 _ _ w38 l9 E4 R25 n4 L102 K4
      obtain ⟨_, e22, rfl⟩ := K4 0 (by decide)
      have L103 := L102.add e22; clear L102
      obtain ⟨_, e23, rfl⟩ := K4 1 (by decide)
      have L104 := L103.add e23; clear L103
      obtain ⟨b9, c13, m7, h11⟩ := K4 2 (by decide)
      obtain ⟨c14, q4, m8, _, _⟩ := E4 _ _ _ _ _ (List.Mem.head _)
      obtain ⟨hbe2, rfl⟩ := Zdq n4 m7 m8; obtain rfl := hbe2.symm
      have R26 : Run _ _ S25 [(b1, 32, c13), (b8, 32, c11), (b7, 32, c10), (b3, 32, zN1), (b2, 32, [(.int .u64 (y : Int)), (.slice none 0 0)])] w38 := Yh R25 n4 [(1000, b1, 32, c13, true)] (by simp) (List.forall_mem_cons.2 ⟨m7, (by simp)⟩)
      exact Zs L104 rfl rfl (Zi L104 rfl rfl (Zej R26) Zk h10.len h_y.len h10.ones fun _ R27 _ L105 => (Yy ((ZI (Zc (⟨(x % y), (by have qm := Nat.mod_lt x (show y > 0 by omega); omega), S25, y, (x % y), c13, c11, (l1.trans (l2.trans (l8.trans l9))), (L105.kp [4, 3, 2] rfl), (Run.init [(b3, 32, zN1), (b2, 32, c11), (b1, 32, c13)] (Zej (ZY (ZY R27)))), (by exact h11.to rfl (by omega)), (by exact (h10.up l9).to rfl (by omega)), (by rw [← hg, Nat.gcd_comm x y, Nat.gcd_rec y x, Nat.gcd_comm]), rfl⟩))))))
   ·have hl_y := hd_y.hlen; have hc_y := hd_y.hcap; have hg_y := hd_y.hbig
    have hW_y : 18446744073709551616 ≤ y := hw_y
    refine Za (so L7 rfl (Zd (off' := 1) L7 rfl ZL rfl ?_))
    intro _ L106
    refine so L106 rfl (Zg L106 rfl YC (R5.has (List.Mem.tail _ (List.Mem.tail _ (List.Mem.head _)))) rfl fun _ L107 => so L107 rfl (ZT L107 rfl rfl Tryz.underlying30 fun _ L108 => sm L108 rfl fun _ L109 => sof L109 rfl fun _ L110 => sof L110 rfl fun _ L111 => sof L111 rfl fun _ L112 => so L112 rfl (Zj L112 rfl rfl fun _ L113 => ?_)))
    refine sn (Zm L113 rfl rfl (wp_skip ((Zc (wp_seq (Za (so L113 rfl (Zx L113 rfl ZE Zk (R5.has (List.Mem.tail _ (List.Mem.tail _ (List.Mem.head _)))) h_x.len ?_))))))))
    intro _ L114
    refine so L114 rfl (Zx L114 rfl ZE Zk (R5.has (List.Mem.tail _ (List.Mem.head _))) h_y.len fun _ L115 => so L115 rfl (Zl L115 rfl ent_77 (nat_Div R5.holds (h_x.up l2) (h_y.up l2) (by omega)) fun v_4 _ _ x4 v4 => ?_))
    have R28 := R5.call x4; have l10 := x4.le
    rcases v4 with ⟨t7, c15, c16, rfl, h12, h13⟩ | ⟨t8, c17, c18, rfl, h14, h15⟩
    ·omega
    ·intro _ L116
     refine sm L116 rfl fun _ L117 => so L117 rfl (Zf L117 rfl rfl fun _ L118 => so L118 rfl (Zf L118 rfl rfl fun _ L119 => so L119 rfl (Zf L119 rfl rfl fun _ L120 => so L120 rfl (ZG (cs := zN1) ZO R28 rfl fun b10 _ R29 _ L121 => so L121 rfl (ZG (cs := zN1) ZO R29 rfl fun b11 _ R30 _ L122 => Zs L122 rfl rfl (Zi L122 rfl rfl (ZY R30) Zk h14.len rfl h14.ones fun _ R31 _ L123 => ?_))))))
     refine Zs L123 rfl rfl (Zi L123 rfl rfl (ZY R31) Zk h15.len rfl h15.ones fun _ R32 _ L124 => sa L124 rfl fun _ L125 => sn ?_)
     have L126 := (L125.kp [2, 3, 4, 10, 11, 12, 13, 14, 15, 16, 20, 34, 35, 36, 33, 37, 38, 39, 7, 8] rfl)
     refine Zu (E0 := [(1000, b1, 32, [(.int .u64 (lo_x : Int)), (.slice (some ⟨bb_x, 0, none⟩) len_x cap_x)], false)]) (H0 := [(b11, 32, c18), (b10, 32, c17), (b3, 32, zN1), (b2, 32, [(.int .u64 (lo_y : Int)), (.slice (some ⟨bb_y, 0, none⟩) len_y cap_y)])]) (n := 43) mixed 3 [] (fun k => if k = 1000 then 2 else 0) (Zce [
       .is (.agg ([(.int .u64 (lo_y : Int)), (.slice (some ⟨bb_y, 0, none⟩) len_y cap_y)] : List Value).toArray),
       .is (.agg (c18 : List Value).toArray),
       .stored 1000 32 (fun S cs => Na S cs (y) ((k_a + k_b))) (fun _ _ _ l h => h.up l)]) L126 (Zej R32) (by simp) (by simp) (by rfl) (by rfl) (by simp) (ZU ?_) ?_
     ·refine (And.intro ?_ (And.intro ?_ (And.intro ?_ trivial)))
      ·exact Zb rfl (fun _ _ _ _ _ A17 => (Zx A17.live rfl ZE Zk (A17.run.has (List.mem_append_right _ (List.Mem.tail _ (List.Mem.tail _ (List.Mem.tail _ (List.Mem.head _)))))) h_y.len (A17.same rfl)))
      ·exact Zb rfl (fun _ _ _ _ _ A18 => (Zx A18.live rfl ZE Zk (A18.run.has (List.mem_append_right _ (List.Mem.head _))) h15.len (A18.same rfl)))
      ·refine Zb rfl (fun _ _ _ _ _ A19 => ?_)
       obtain ⟨_, e24, rfl⟩ := A19.known 0 rfl
       obtain ⟨c19, q5, m9, z3, _⟩ := A19.le0 _ _ _ _ _ (List.Mem.head _)
       exact Qg A19 (A19.live.add e24) rfl rfl m9 rfl Zk (z3.trans h_x.len) h_y.len h_y.ones rfl (h_y.up (l2.trans (l10.trans A19.le)))
     ·intro S30 _ _ w48 l11 E5 R33 n5 L130 K5
      obtain ⟨_, e25, rfl⟩ := K5 0 (by decide)
      have L131 := L130.add e25; clear L130
      obtain ⟨_, e26, rfl⟩ := K5 1 (by decide)
      have L132 := L131.add e26; clear L131
      obtain ⟨b12, c20, m10, h16⟩ := K5 2 (by decide)
      obtain ⟨c21, q6, m11, _, _⟩ := E5 _ _ _ _ _ (List.Mem.head _)
      obtain ⟨hbe3, rfl⟩ := Zdq n5 m10 m11; obtain rfl := hbe3.symm
      have R34 : Run _ _ S30 [(b1, 32, c20), (b11, 32, c18), (b10, 32, c17), (b3, 32, zN1), (b2, 32, [(.int .u64 (lo_y : Int)), (.slice (some ⟨bb_y, 0, none⟩) len_y cap_y)])] w48 := Yh R33 n5 [(1000, b1, 32, c20, true)] (by simp) (List.forall_mem_cons.2 ⟨m10, (by simp)⟩)
      exact Zs L132 rfl rfl (Zi L132 rfl rfl (Zej R34) Zk h15.len h_y.len h15.ones fun _ R35 _ L133 => (Yy ((ZI (Zc (⟨(x % y), (by have qm := Nat.mod_lt x (show y > 0 by omega); omega), S30, y, (x % y), c20, c18, (l1.trans (l2.trans (l10.trans l11))), (L133.kp [4, 3, 2] rfl), (Run.init [(b3, 32, zN1), (b2, 32, c18), (b1, 32, c20)] (Zej (ZY (ZY R35)))), (by exact h16.to rfl (by omega)), (by exact (h15.up l11).to rfl (by omega)), (by rw [← hg, Nat.gcd_comm x y, Nat.gcd_rec y x, Nat.gcd_comm]), rfl⟩))))))
 ·refine so L6 rfl (bF t1 (fun _ => ZS L6 rfl rfl) fun _ L134 => sn (Zm L134 rfl rfl (wp_exit ((Zz (Zz (YR (Zc (wp_seq (Za (so L134 rfl (Zx L134 rfl ZE Zk (R5.has (List.Mem.tail _ (List.Mem.tail _ (List.Mem.head _)))) h_x.len fun _ L135 => Zs L135 rfl rfl (Zi L135 rfl rfl R5 Zk h_x.len rfl h_x.ones fun _ R36 _ L136 => sn (wp_ret ((Zo (rs := Tryz.f79.results.toList) (L136.kp [4] rfl) rfl (Res.aggW rfl ZE Zk (R36.has (List.Mem.head _)) h_x.len Res.nil) ?_))))))))))))))))
  exact ⟨_, _, rfl, R36.ext, ⟨_, rfl, ((h_x.up l2).to (by rw [← hg, show y = 0 by omega, Nat.gcd_zero_right]) (by omega))⟩⟩
end Go.Cham
namespace Go.Cham
open Go Go.RowKit Go.Proofs
theorem agg_5 : aggT Tryz.prog 5 = some false := by kernel_rfl
theorem Zda : Yu Tryz.prog 5 = some 1 := by kernel_rfl
theorem bytes_5 : Zal Tryz.prog 5 = some 1 := by kernel_rfl
theorem zero_5 : QH Tryz.prog 5 = some (.int .u8 (0 : Int)) := by kernel_rfl
end Go.Cham
namespace Go.Cham
open Go Go.RowKit Go.Proofs
set_option maxRecDepth 20000 in
theorem Zag {S : Sh} {w : World} (hS : Ya S w) {c_a : List Value} {a : Nat} {k_a : Nat} (h_a : Na S c_a (a) (k_a)) (hlim : k_a ≤ 1099511627776) : Calls Tryz.prog 118 [(.agg (c_a : List Value).toArray)].toArray w (Ret S w (fun S v => v = .string (txt a))) := by
 refine ZK (n := 85) Tryz.func118 rfl rfl ?_
 intro ac0 L0
 replace L0 : Zt ac0 85 [(0, (.agg (c_a : List Value).toArray))] := L0
 have R0 : Run S w S [] w := .start hS
 have hdl := digs10_len h_a.1; have hla := XA h_a.1
 refine wp_seq (Za (so L0 rfl (ZN (cs := c_a) L0 rfl R0 rfl ?_)))
 intro b1 _ _ l1 r1 R1 _ L1
 refine sa L1 rfl fun _ L2 => sn (wp_seq (Za (so L2 rfl (Zx L2 rfl ZE Zk (R1.row r1) h_a.len fun _ L3 => so L3 rfl (Zl L3 rfl Zb9 (YV R1.holds (h_a.up l1) ) fun v_1 S2 w2 x1 v1 => ?_)))))
 have R2 := R1.call x1
 obtain ⟨p1, len1, cap1, rfl, y1, z1, hg1, hd1⟩ := v1
 intro _ L4
 have R3 : Run S w S2 (Qa none 29 (Yr []) ++ []) w2 := R2
 refine so L4 rfl (does_appendD (g := none) (ds := []) (H := []) L4 rfl rfl Tryz.underlying30 ZA QK Qc (Gw.nil 1) R3 hd1 (by omega) fun g1 cap2 w3 hG1 R4 _ L5 => sa L5 rfl fun _ L6 => ?_)
 have L7 := (L6.kp [2, 3] rfl); clear L6
 refine sn (wp_seq (wp_seq (Za (sm L7 rfl ?_))))
 intro _ L8
 refine so L8 rfl (ZM L8 rfl Tryz.underlying30 fun _ L9 => ?_)
 by_cases t1 : (((0 + len1) : Nat) : Int) = (0 : Int)
 ·exact so L9 rfl (bT t1 (fun _ => ZZ L9 rfl rfl) fun _ L10 => sn (Zp L10 rfl rfl (wp_seq (Za (sa L10 rfl fun _ L11 => sn (wp_ret ((Zy (Zo (rs := Tryz.f118.results.toList) L11 rfl (.tmp rfl Res.nil) (⟨_, _, rfl, R4.ext, (by (have e : a = 0 := digs_nil (B := W64) (by decide) (by omega)); subst e; rfl)⟩))))))))))
 ·refine so L9 rfl (bF t1 (fun _ => ZZ L9 rfl rfl) fun _ L12 => sn (Zm L12 rfl rfl (wp_skip ((Zc (wp_seq ?_))))))
  have ha : a ≠ 0 := fun e => by simp [e, Xg] at y1; omega
  refine Za (sa L12 rfl ?_)
  intro _ L13
  refine sn (wp_seq (wp_block ?_))
  have R5 : Run S w S2 (Qa g1 29 (Yr ([] ++ (ZP W64 a))) ++ (Qa none 5 (u8s []) ++ [])) w3 := R4
  refine Yb (fun m ac ww => ∃ (S' : Sh) (mm : Nat) (g_dd : Option (Nat × List Value)) (len_dd : Nat) (cap_dd : Nat) (dd : List Nat) (g_out : Option (Nat × List Value)) (len_out : Nat) (cap_out : Nat) (out : List Nat), S2.le S' ∧ Zt ac 85 [(2, (.string (⟨#[]⟩ : ByteArray))), (3, (.slice (gp g_dd) len_dd cap_dd)), (4, (.slice (gp g_out) len_out cap_out))] ∧ Run S w S' (Qa g_dd 29 (Yr dd) ++ (Qa g_out 5 (u8s out) ++ [])) ww ∧ (Gw g_out len_out cap_out 1 (u8s out)) ∧ (Gw g_dd len_dd cap_dd 1 (Yr dd)) ∧ (∀ e ∈ dd, e < 18446744073709551616) ∧ (dd.getLast? ≠ some 0) ∧ (val W64 dd = a / 10 ^ mm) ∧ (out = ((ZP 10 a).take mm).map (· + 48)) ∧ (len_dd ≤ 1099511627777) ∧ m = val W64 dd)
   (val W64 ([] ++ (ZP W64 a))) ⟨S2, 0, g1, (0 + len1), cap2, ([] ++ (ZP W64 a)), none, 0, 0, [], Sh.le.refl _, (L13.kp [4, 3, 2] rfl), R5, (by exact (Gw.nil 1)), (by exact hG1), (by exact Zdw (by decide) _), (by exact digs_last (by decide) _), (by rw [List.nil_append, Yn (by decide)]; simp), (by simp), (by omega), rfl⟩ ?_
  rintro m_1 ac1 w4 ⟨S3, mm, g_dd, len_dd, cap_dd, dd, g_out, len_out, cap_out, out, l3, L14, R6, hG_out, hG_dd, hd, hz, hv, ho, hb, m1⟩
  have hl_dd := hG_dd.hl; rw [ZH, Nat.mul_one] at hl_dd; have hc_dd := hG_dd.hc
  have hl_out := hG_out.hl; rw [QN, Nat.mul_one] at hl_out; have hc_out := hG_out.hc
  refine wp_seq (wp_seq (Za (sm L14 rfl ?_)))
  intro _ L15
  refine so L15 rfl (ZM L15 rfl Tryz.underlying30 fun _ L16 => ?_)
  by_cases t2 : (0 : Int) < (len_dd : Int)
  ·refine so L16 rfl (bT t2 (fun _ => ZS L16 rfl rfl) fun _ L17 => sn (Zp L17 rfl rfl (wp_skip ((Zc (wp_block (wp_seq ?_)))))))
   obtain ⟨b2, rest_1, rfl⟩ := hG_dd.some (by omega)
   have R7 : Run S w S3 ((b2, 29, (Yr dd ++ rest_1)) :: (Qa g_out 5 (u8s out) ++ [])) w4 := gown_out [] (H := (Qa g_out 5 (u8s out) ++ [])) R6
   refine Za (sm L17 rfl ?_)
   intro _ L18
   refine so L18 rfl (Qi L18 rfl ent_134 (nat_short (dv := 10000000000000000000) (by exact R7) (by omega) (by omega) (by omega) (by omega) (hd) (by omega)) ?_)
   rintro _ _ ⟨v_2, S4, ds1, rfl, l4, R8, v2⟩
   refine ⟨v_2, rfl, ?_⟩
   obtain ⟨rfl, ho1, ho_2, ho3⟩ := v2
   have hsl := ho1; have hsl1 := ho_2; have hsl2 := ho3
   intro _ L19
   refine sa L19 rfl fun _ L20 => sn ?_
   refine Qp (fun ac ww => ∃ (S' : Sh) (n2 : Nat), S4.le S' ∧ Zt ac 85 [(2, (.string (⟨#[]⟩ : ByteArray))), (4, (.slice (gp g_out) len_out cap_out)), (15, (.slice (some ⟨b2, 0, none⟩) len_dd cap_dd)), (16, (.int .i64 ((len_dd : Nat) : Int))), (17, (.bool true)), (18, (.slice (some ⟨b2, 0, none⟩) len_dd cap_dd)), (19, (.int .u64 ((val W64 dd % 10000000000000000000 : Nat) : Int))), (5, (.int .u64 ((val W64 dd % 10000000000000000000 : Nat) : Int))), (3, (.slice (some ⟨b2, 0, none⟩) n2 cap_dd))] ∧ Run S w S' ((b2, 29, (Yr ds1 ++ rest_1)) :: (Qa g_out 5 (u8s out) ++ [])) ww ∧ (n2 ≤ len_dd) ∧ (val W64 (ds1.take n2) = val W64 ds1) ∧ (n2 = 0 ∨ ds1.getD (n2 - 1) 0 ≠ 0)) ?_ ?_
   ·rintro ac2 _ ⟨S5, n2, l5, L21, R9, hn2, hv2, hz2⟩
    refine wp_seq (Za (sa L21 rfl ?_))
    intro a19 L22
    refine sn (wp_block ?_)
    have e1 : (((val W64 dd % 10000000000000000000 : Nat) : Int) : Int) = (((val W64 dd % 10000000000000000000) : Nat) : Int) := by omega
    have L24 : Zt a19 85 [(5, (.int .u64 (((val W64 dd % 10000000000000000000) : Nat) : Int)))] := by have q := (L22.kp [5] rfl); rw [e1] at q; exact q
    have e2 : ((0 : Int) : Int) = ((0 : Nat) : Int) := by omega
    have L25 : Zt a19 85 [(6, (.int .i64 ((0 : Nat) : Int)))] := by have q := (L22.kp [6] rfl); rw [e2] at q; exact q
    refine Yb (fun m ac ww => ∃ (S' : Sh) (i : Nat) (rr : Nat) (g_o2 : Option (Nat × List Value)) (len_o2 : Nat) (cap_o2 : Nat) (o2 : List Nat), S5.le S' ∧ Zt ac 85 [(2, (.string (⟨#[]⟩ : ByteArray))), (4, (.slice (gp g_o2) len_o2 cap_o2)), (15, (.slice (some ⟨b2, 0, none⟩) len_dd cap_dd)), (16, (.int .i64 ((len_dd : Nat) : Int))), (17, (.bool true)), (18, (.slice (some ⟨b2, 0, none⟩) len_dd cap_dd)), (19, (.int .u64 ((val W64 dd % 10000000000000000000 : Nat) : Int))), (5, (.int .u64 ((rr : Nat) : Int))), (3, (.slice (some ⟨b2, 0, none⟩) n2 cap_dd)), (6, (.int .i64 ((i : Nat) : Int)))] ∧ Run S w S' ((b2, 29, (Yr ds1 ++ rest_1)) :: (Qa g_o2 5 (u8s o2) ++ [])) ww ∧ (Gw g_o2 len_o2 cap_o2 1 (u8s o2)) ∧ (i ≤ 19) ∧ (rr = val W64 dd % 10000000000000000000 / 10 ^ i) ∧ (o2 = ((ZP 10 a).take (mm + i)).map (· + 48)) ∧ m = 19 - i)
     (19 - 0) ⟨S5, 0, (val W64 dd % 10000000000000000000), g_out, len_out, cap_out, out, Sh.le.refl _, (L22.keep (L22.keep (L22.keep (L22.keep (L22.keep (L22.keep (L22.keep (L24.keep (L22.keep (L25.keep (Zt.none _ L22) (t := 6) rfl) (t := 3) rfl) (t := 5) rfl) (t := 19) rfl) (t := 18) rfl) (t := 17) rfl) (t := 16) rfl) (t := 15) rfl) (t := 4) rfl) (t := 2) rfl), R9, (by exact hG_out), (by omega), (by simp), (by exact ho), rfl⟩ ?_
    rintro m_2 ac3 w7 ⟨S6, i, rr, g_o2, len_o2, cap_o2, o2, l6, L23, R10, hG_o2, hi, hr, ho2, m2⟩
    have hl_o2 := hG_o2.hl; rw [QN, Nat.mul_one] at hl_o2; have hc_o2 := hG_o2.hc
    refine wp_seq (wp_seq (Za (sm L23 rfl ?_)))
    intro _ L26
    by_cases t3 : (i : Int) < (19 : Int)
    ·refine so L26 rfl (bT t3 (fun _ => ZF L26 rfl rfl) fun _ L27 => sm L27 rfl fun _ L28 => son L28 rfl (Zh L28 rfl fun _ L29 => son L29 rfl (ZM L29 rfl Tryz.underlying30 fun _ L30 => ?_)))
     by_cases t4 : (0 : Int) < (n2 : Int)
     ·refine son L30 rfl (bT t4 (fun _ => ZS L30 rfl rfl) fun _ L31 => son L31 rfl (Zh L31 rfl fun _ L32 => sof L32 rfl fun _ L33 => sof L33 rfl fun _ L34 => son L34 rfl (Zj L34 rfl rfl fun _ L35 => so L35 rfl (Zj L35 rfl rfl fun _ L36 => sn ?_))))
      refine Zp L36 rfl rfl (wp_skip ((Zc (wp_seq (wp_block (wp_seq ?_))))))
      have hrl : rr < 10000000000000000000 := by rw [hr]; exact Nat.lt_of_le_of_lt (Nat.div_le_self _ _) (Nat.mod_lt _ (by decide))
      have hol : o2.length ≤ (ZP 10 a).length := by rw [ho2, List.length_map, List.length_take]; omega
      refine Za (sm L36 rfl ?_)
      intro _ L37
      refine sm L37 rfl fun _ L38 => so L38 rfl (Zc1 (z := ((rr : Int) % (10 : Int))) L38 rfl rfl (by omega) (rem_nn (by omega)) fun _ L39 => so L39 rfl (ZJ (z := ((48 : Int) + ((rr : Int) % (10 : Int)))) L39 rfl rfl (IntWalk.u64_in _ (by omega)) fun _ L40 => so L40 rfl (XR (z := (((48 : Int) + ((rr : Int) % (10 : Int))))) L40 rfl rfl Tryz.underlying5 (IntWalk.u8_in _ (by omega)) fun _ L41 => so L41 rfl (Xn (cs := (u8s [((48 + (rr % 10)))] ++ [])) L41 Tryz.underlying189 Zda zero_5 (.cons rfl rfl (by decide) .nil) [[(.int .u8 (((48 : Int) + ((rr : Int) % (10 : Int)))))]] rfl rfl (by rfl) (by decide) R10 fun b3 _ R11 _ L42 => so L42 rfl (Zak (g := g_o2) (cs := (u8s o2)) (vs := (u8s [((48 + (rr % 10)))])) (H := [(b3, 5, (u8s [((48 + (rr % 10)))] ++ [])), (b2, 29, (Yr ds1 ++ rest_1))] ++ []) L42 rfl rfl Tryz.underlying189 Zda bytes_5 zero_5 rfl hG_o2 (gown_in [(b3, 5, (u8s [((48 + (rr % 10)))] ++ [])), (b2, 29, (Yr ds1 ++ rest_1))] (H2 := Qa g_o2 5 (u8s o2)) (H := []) R11) (R11.has (List.Mem.head _)) rfl rfl (u8s_ones _) (by omega) (by omega) (by omega) fun g2 cap3 w9 hG2 R12 _ L43 => ?_)))))
      rw [u8s_append] at hG2 R12
      have R13 : Run S w S6 ((b3, 5, (u8s [((48 + (rr % 10)))] ++ [])) :: (b2, 29, (Yr ds1 ++ rest_1)) :: (Qa g2 5 (u8s (o2 ++ [((48 + (rr % 10)))])) ++ [])) w9 := gown_in (Qa g2 5 (u8s (o2 ++ [((48 + (rr % 10)))]))) (H2 := [(b3, 5, (u8s [((48 + (rr % 10)))] ++ [])), (b2, 29, (Yr ds1 ++ rest_1))]) (H := []) R12
      refine sa L43 rfl fun _ L44 => sn (Za (sm L44 rfl fun _ L45 => so L45 rfl (Zc2 (z := ((rr : Int) / (10 : Int))) L45 rfl rfl (by omega) (quo_nn (k := .u64) (by omega) (by omega) (show _ ≤ (18446744073709551615 : Int) by omega)) fun _ L46 => sa L46 rfl fun _ L47 => Yy ((ZI (Zc (Za (sm L47 rfl fun _ L48 => ?_))))))))
      refine so L48 rfl (ZJ (z := ((i : Int) + (1 : Int))) L48 rfl rfl (IntWalk.i64_in _ (by omega)) fun _ L49 => sa L49 rfl fun a44 L50 => sn ?_)
      have e3 : (((rr : Int) / (10 : Int)) : Int) = (((rr / 10) : Nat) : Int) := by omega
      have L51 : Zt a44 85 [(5, (.int .u64 (((rr / 10) : Nat) : Int)))] := by have q := (L50.kp [5] rfl); rw [e3] at q; exact q
      have e4 : (((i : Int) + (1 : Int)) : Int) = (((i + 1) : Nat) : Int) := by omega
      have L52 : Zt a44 85 [(6, (.int .i64 (((i + 1) : Nat) : Int)))] := by have q := (L50.kp [6] rfl); rw [e4] at q; exact q
      exact ⟨19 - (i + 1), (by omega), S6, (i + 1), (rr / 10), g2, (len_o2 + 1), cap3, (o2 ++ [((48 + (rr % 10)))]), l6, (L50.keep (L50.keep (L50.keep (L50.keep (L50.keep (L50.keep (L50.keep (L51.keep (L50.keep (L52.keep (Zt.none _ L50) (t := 6) rfl) (t := 3) rfl) (t := 5) rfl) (t := 19) rfl) (t := 18) rfl) (t := 17) rfl) (t := 16) rfl) (t := 15) rfl) (t := 4) rfl) (t := 2) rfl), (Run.mid [(b2, 29, (Yr ds1 ++ rest_1))] [(b3, 5, (u8s [((48 + (rr % 10)))] ++ []))] (ZY R13)), (by exact hG2), (by omega), (by rw [hr]; exact text_rr), (by first | exact text_out hv (by omega) ho2 hr (Or.inr (by omega)) | exact text_out hv (by omega) ho2 hr (Or.inl (text_pos (by omega) hz2 (by omega) hv2 hsl2))), rfl⟩
     ·refine son L30 rfl (bF t4 (fun _ => ZS L30 rfl rfl) fun _ L53 => son L53 rfl (Zh L53 rfl fun _ L54 => son L54 rfl (Zh L54 rfl fun _ L55 => ?_)))
      by_cases t5 : (0 : Int) < (rr : Int)
      ·refine son L55 rfl (bT t5 (fun _ => ZS L55 rfl rfl) fun _ L56 => son L56 rfl (Zj L56 rfl rfl fun _ L57 => so L57 rfl (Zj L57 rfl rfl fun _ L58 => sn (Zp L58 rfl rfl (wp_skip ((Zc (wp_seq (wp_block (wp_seq ?_))))))))))
       have hrl : rr < 10000000000000000000 := by rw [hr]; exact Nat.lt_of_le_of_lt (Nat.div_le_self _ _) (Nat.mod_lt _ (by decide))
       have hol : o2.length ≤ (ZP 10 a).length := by rw [ho2, List.length_map, List.length_take]; omega
       refine Za (sm L58 rfl ?_)
       intro _ L59
       refine sm L59 rfl fun _ L60 => so L60 rfl (Zc1 (z := ((rr : Int) % (10 : Int))) L60 rfl rfl (by omega) (rem_nn (by omega)) fun _ L61 => so L61 rfl (ZJ (z := ((48 : Int) + ((rr : Int) % (10 : Int)))) L61 rfl rfl (IntWalk.u64_in _ (by omega)) fun _ L62 => so L62 rfl (XR (z := (((48 : Int) + ((rr : Int) % (10 : Int))))) L62 rfl rfl Tryz.underlying5 (IntWalk.u8_in _ (by omega)) fun _ L63 => so L63 rfl (Xn (cs := (u8s [((48 + (rr % 10)))] ++ [])) L63 Tryz.underlying189 Zda zero_5 (.cons rfl rfl (by decide) .nil) [[(.int .u8 (((48 : Int) + ((rr : Int) % (10 : Int)))))]] rfl rfl (by rfl) (by decide) R10 fun b4 _ R14 _ L64 => so L64 rfl (Zak (g := g_o2) (cs := (u8s o2)) (vs := (u8s [((48 + (rr % 10)))])) (H := [(b4, 5, (u8s [((48 + (rr % 10)))] ++ [])), (b2, 29, (Yr ds1 ++ rest_1))] ++ []) L64 rfl rfl Tryz.underlying189 Zda bytes_5 zero_5 rfl hG_o2 (gown_in [(b4, 5, (u8s [((48 + (rr % 10)))] ++ [])), (b2, 29, (Yr ds1 ++ rest_1))] (H2 := Qa g_o2 5 (u8s o2)) (H := []) R14) (R14.has (List.Mem.head _)) rfl rfl (u8s_ones _) (by omega) (by omega) (by omega) fun g3 cap4 w11 hG3 R15 _ L65 => ?_)))))
       rw [u8s_append] at hG3 R15
       have R16 : Run S w S6 ((b4, 5, (u8s [((48 + (rr % 10)))] ++ [])) :: (b2, 29, (Yr ds1 ++ rest_1)) :: (Qa g3 5 (u8s (o2 ++ [((48 + (rr % 10)))])) ++ [])) w11 := gown_in (Qa g3 5 (u8s (o2 ++ [((48 + (rr % 10)))]))) (H2 := [(b4, 5, (u8s [((48 + (rr % 10)))] ++ [])), (b2, 29, (Yr ds1 ++ rest_1))]) (H := []) R15
       refine sa L65 rfl fun _ L66 => sn (Za (sm L66 rfl fun _ L67 => so L67 rfl (Zc2 (z := ((rr : Int) / (10 : Int))) L67 rfl rfl (by omega) (quo_nn (k := .u64) (by omega) (by omega) (show _ ≤ (18446744073709551615 : Int) by omega)) fun _ L68 => sa L68 rfl fun _ L69 => Yy ((ZI (Zc (Za (sm L69 rfl fun _ L70 => ?_))))))))
       refine so L70 rfl (ZJ (z := ((i : Int) + (1 : Int))) L70 rfl rfl (IntWalk.i64_in _ (by omega)) fun _ L71 => sa L71 rfl fun a64 L72 => sn ?_)
       have e5 : (((rr : Int) / (10 : Int)) : Int) = (((rr / 10) : Nat) : Int) := by omega
       have L73 : Zt a64 85 [(5, (.int .u64 (((rr / 10) : Nat) : Int)))] := by have q := (L72.kp [5] rfl); rw [e5] at q; exact q
       have e6 : (((i : Int) + (1 : Int)) : Int) = (((i + 1) : Nat) : Int) := by omega
       have L74 : Zt a64 85 [(6, (.int .i64 (((i + 1) : Nat) : Int)))] := by have q := (L72.kp [6] rfl); rw [e6] at q; exact q
       exact ⟨19 - (i + 1), (by omega), S6, (i + 1), (rr / 10), g3, (len_o2 + 1), cap4, (o2 ++ [((48 + (rr % 10)))]), l6, (L72.keep (L72.keep (L72.keep (L72.keep (L72.keep (L72.keep (L72.keep (L73.keep (L72.keep (L74.keep (Zt.none _ L72) (t := 6) rfl) (t := 3) rfl) (t := 5) rfl) (t := 19) rfl) (t := 18) rfl) (t := 17) rfl) (t := 16) rfl) (t := 15) rfl) (t := 4) rfl) (t := 2) rfl), (Run.mid [(b2, 29, (Yr ds1 ++ rest_1))] [(b4, 5, (u8s [((48 + (rr % 10)))] ++ []))] (ZY R16)), (by exact hG3), (by omega), (by rw [hr]; exact text_rr), (by first | exact text_out hv (by omega) ho2 hr (Or.inr (by omega)) | exact text_out hv (by omega) ho2 hr (Or.inl (text_pos (by omega) hz2 (by omega) hv2 hsl2))), rfl⟩
      ·refine son L55 rfl (bF t5 (fun _ => ZS L55 rfl rfl) fun _ L75 => son L75 rfl (Zj L75 rfl rfl fun _ L76 => so L76 rfl (Zj L76 rfl rfl fun _ L77 => sn (Zm L77 rfl rfl (wp_exit ((Zz (Zz (YR (ZI (Zc ?_)))))))))))
       have hq1 := R10; rw [u64s_split n2] at hq1
       have hG4 := Gw.retake (n := n2) (ds := ds1) hG_dd (by omega) (by omega)
       have R17 : Run S w S6 (Qa (some (b2, Yr (ds1.drop n2) ++ rest_1)) 29 (Yr (ds1.take n2)) ++ (Qa g_o2 5 (u8s o2) ++ [])) w7 := gown_own [] (H := (Qa g_o2 5 (u8s o2) ++ [])) hq1
       exact ⟨val W64 (ds1.take n2), (by rw [hv2, hsl2]; exact Nat.lt_of_lt_of_eq (Nat.div_lt_self (val_pos hz (by omega)) (show 1 < 10000000000000000000 by decide)) (by omega)), S6, (mm + i), (some (b2, Yr (ds1.drop n2) ++ rest_1)), n2, cap_dd, (ds1.take n2), g_o2, len_o2, cap_o2, o2, (l3.trans (l4.trans (l5.trans l6))), (L77.kp [4, 3, 2] rfl), R17, (by exact hG_o2), (by exact hG4), (by exact lt_take hsl1), (by exact Zeh (by omega) hz2), (by rw [hv2, hsl2]; first | exact Zea hv (by omega) (Or.inl (by omega)) | exact Zea hv (by omega) (Or.inr ⟨text_zero (by omega) hv2 hsl2, by omega⟩)), (by exact ho2), (by omega), rfl⟩
    ·refine so L26 rfl (bF t3 (fun _ => ZF L26 rfl rfl) fun _ L78 => sm L78 rfl fun _ L79 => sof L79 rfl fun _ L80 => sof L80 rfl fun _ L81 => sof L81 rfl fun _ L82 => sof L82 rfl fun _ L83 => Ye L83 rfl rfl rfl rfl rfl fun _ L84 => ?_)
     refine Ye L84 rfl rfl rfl rfl rfl ?_
     intro _ L85
     refine sof L85 rfl fun _ L86 => so L86 rfl (Zj L86 rfl rfl fun _ L87 => ?_)
     have L88 := (L87.kp [2, 4, 15, 16, 17, 18, 19, 5, 3, 6, 37, 38, 39, 47] rfl); clear L87
     refine sn (Zm L88 rfl rfl (wp_exit ((Zz (Zz (YR (ZI (Zc ?_))))))))
     have hq2 := R10; rw [u64s_split n2] at hq2
     have hG5 := Gw.retake (n := n2) (ds := ds1) hG_dd (by omega) (by omega)
     have R18 : Run S w S6 (Qa (some (b2, Yr (ds1.drop n2) ++ rest_1)) 29 (Yr (ds1.take n2)) ++ (Qa g_o2 5 (u8s o2) ++ [])) w7 := gown_own [] (H := (Qa g_o2 5 (u8s o2) ++ [])) hq2
     exact ⟨val W64 (ds1.take n2), (by rw [hv2, hsl2]; exact Nat.lt_of_lt_of_eq (Nat.div_lt_self (val_pos hz (by omega)) (show 1 < 10000000000000000000 by decide)) (by omega)), S6, (mm + i), (some (b2, Yr (ds1.drop n2) ++ rest_1)), n2, cap_dd, (ds1.take n2), g_o2, len_o2, cap_o2, o2, (l3.trans (l4.trans (l5.trans l6))), (L88.kp [4, 3, 2] rfl), R18, (by exact hG_o2), (by exact hG5), (by exact lt_take hsl1), (by exact Zeh (by omega) hz2), (by rw [hv2, hsl2]; first | exact Zea hv (by omega) (Or.inl (by omega)) | exact Zea hv (by omega) (Or.inr ⟨text_zero (by omega) hv2 hsl2, by omega⟩)), (by exact ho2), (by omega), rfl⟩
   ·skip
    refine wp_block ?_
    refine Yb (fun m ac ww => ∃ (S' : Sh) (n2 : Nat), S4.le S' ∧ Zt ac 85 [(2, (.string (⟨#[]⟩ : ByteArray))), (3, (.slice (some ⟨b2, 0, none⟩) n2 cap_dd)), (4, (.slice (gp g_out) len_out cap_out)), (15, (.slice (some ⟨b2, 0, none⟩) len_dd cap_dd)), (16, (.int .i64 ((len_dd : Nat) : Int))), (17, (.bool true)), (18, (.slice (some ⟨b2, 0, none⟩) len_dd cap_dd)), (19, (.int .u64 ((val W64 dd % 10000000000000000000 : Nat) : Int))), (5, (.int .u64 ((val W64 dd % 10000000000000000000 : Nat) : Int)))] ∧ Run S w S' ((b2, 29, (Yr ds1 ++ rest_1)) :: (Qa g_out 5 (u8s out) ++ [])) ww ∧ (n2 ≤ len_dd) ∧ (val W64 (ds1.take n2) = val W64 ds1) ∧ m = n2)
     (len_dd) ⟨S4, len_dd, Sh.le.refl _, (L20.kp [5, 19, 18, 17, 16, 15, 4, 3, 2] rfl), R8, (by omega), (by rw [List.take_of_length_le (by omega)]), rfl⟩ ?_
    rintro m_3 ac4 _ ⟨S7, n2, l7, L89, R19, hn2, hv2, m3⟩
    refine wp_seq (wp_seq (Za (sm L89 rfl ?_)))
    intro _ L90
    refine so L90 rfl (ZM L90 rfl Tryz.underlying30 fun _ L91 => ?_)
    by_cases t6 : (0 : Int) < (n2 : Int)
    ·refine so L91 rfl (bT t6 (fun _ => ZS L91 rfl rfl) fun _ L92 => sm L92 rfl fun _ L93 => son L93 rfl (Zh L93 rfl fun _ L94 => son L94 rfl (Zh L94 rfl fun _ L95 => son L95 rfl (ZM L95 rfl Tryz.underlying30 fun _ L96 => son L96 rfl (ZR (z := ((n2 : Int) - (1 : Int))) L96 rfl rfl (IntWalk.i64_in _ (by omega)) fun _ L97 => son L97 rfl (Zr ((n2 - 1)) L97 rfl rfl Tryz.underlying30 ZA (by omega) (by omega) fun _ L98 => ?_))))))
     refine son L98 rfl (Zg (v := (.int .u64 ((ds1.getD ((n2 - 1)) 0 : Nat) : Int))) L98 rfl Ym (R19.has (List.Mem.head _)) (by rw [Nat.zero_add]; exact ZX (by omega)) fun _ L99 => ?_)
     by_cases t7 : ((ds1.getD ((n2 - 1)) 0 : Nat) : Int) = (0 : Int)
     ·refine son L99 rfl (bT t7 (fun _ => ZZ L99 rfl rfl) fun _ L100 => so L100 rfl (Zj L100 rfl rfl fun _ L101 => sn (Zp L101 rfl rfl (wp_skip ((Zc (wp_block (Za (sm L101 rfl fun _ L102 => sm L102 rfl fun _ L103 => ?_)))))))))
      exact so L103 rfl (ZM L103 rfl Tryz.underlying30 fun _ L104 => so L104 rfl (ZR (z := ((n2 - 1 : Nat) : Int)) L104 rfl rfl (i64_to (by omega) (by omega)) fun _ L105 => so L105 rfl (does_sliceHi (i := (n2 - 1)) L105 rfl rfl Tryz.underlying30 ZA (by omega) fun _ L106 => sa L106 rfl fun _ L107 => Yy ((ZI (Zc (⟨(n2 - 1), (by omega), S7, (n2 - 1), l7, (L107.kp [5, 19, 18, 17, 16, 15, 4, 3, 2] rfl), R19, (by omega), (by rw [← hv2]; exact Zd6 (by omega) (by omega) (by omega)), rfl⟩)))))))
     ·exact son L99 rfl (bF t7 (fun _ => ZZ L99 rfl rfl) fun _ L108 => so L108 rfl (Zj L108 rfl rfl fun _ L109 => sn (Zm L109 rfl rfl (wp_exit ((Zz (Zz (YR (Zc (⟨S7, n2, l7, (L109.kp [3, 5, 19, 18, 17, 16, 15, 4, 2] rfl), R19, (by omega), (by exact hv2), (by omega)⟩))))))))))
    ·refine so L91 rfl (bF t6 (fun _ => ZS L91 rfl rfl) fun _ L110 => sm L110 rfl fun _ L111 => sof L111 rfl fun _ L112 => sof L112 rfl fun _ L113 => sof L113 rfl fun _ L114 => sof L114 rfl fun _ L115 => sof L115 rfl fun _ L116 => ?_)
     refine sof L116 rfl fun _ L117 => sof L117 rfl fun _ L118 => so L118 rfl (Zj L118 rfl rfl fun _ L119 => ?_)
     have L120 := (L119.kp [2, 3, 4, 15, 16, 17, 18, 19, 5, 20, 21, 22, 23, 31] rfl); clear L119
     exact sn (Zm L120 rfl rfl (wp_exit ((Zz (Zz (YR (Zc (⟨S7, n2, l7, (L120.kp [3, 5, 19, 18, 17, 16, 15, 4, 2] rfl), R19, (by omega), (by exact hv2), (by omega)⟩))))))))
  ·refine so L16 rfl (bF t2 (fun _ => ZS L16 rfl rfl) fun _ L121 => sn (Zm L121 rfl rfl (wp_exit ((Zz (Zz (YR (Zc (wp_seq (wp_seq ?_))))))))))
   have hdd : dd = [] := List.length_eq_zero_iff.1 (by omega)
   obtain ⟨hod, hop⟩ := text_done ha (by rw [← hv, hdd]; rfl) ho
   have hol : out.length = (ZP 10 a).length := by rw [hod, List.length_map]
   have R20 : Run S w S3 (Qa g_out 5 (u8s out) ++ (Qa g_dd 29 (Yr dd) ++ [])) w4 := gown_swap [] R6
   obtain ⟨b5, rest_2, rfl⟩ := hG_out.some (by omega)
   have R21 : Run S w S3 ((b5, 5, (u8s out ++ rest_2)) :: (Qa g_dd 29 (Yr dd) ++ [])) w4 := gown_out [] (H := (Qa g_dd 29 (Yr dd) ++ [])) R20
   refine Za (sm L121 rfl ?_)
   intro _ L122
   refine so L122 rfl (ZM L122 rfl Tryz.underlying189 fun _ L123 => so L123 rfl (ZR (z := ((len_out : Int) - (1 : Int))) L123 rfl rfl (IntWalk.i64_in _ (by omega)) fun _ L124 => sa L124 rfl fun _ L125 => sa L125 rfl fun a113 L126 => ?_))
   have L127 := (L126.kp [2, 4, 7, 8] rfl); clear L126
   refine sn (wp_block ?_)
   have e7 : ((0 : Int) : Int) = ((0 : Nat) : Int) := by omega
   have L129 : Zt a113 85 [(7, (.int .i64 ((0 : Nat) : Int)))] := by have q := (L127.kp [7] rfl); rw [e7] at q; exact q
   have e8 : (((len_out : Int) - (1 : Int)) : Int) = (((len_out - 1) : Nat) : Int) := by omega
   have L130 : Zt a113 85 [(8, (.int .i64 (((len_out - 1) : Nat) : Int)))] := by have q := (L127.kp [8] rfl); rw [e8] at q; exact q
   refine Yb (fun m ac ww => ∃ (S' : Sh) (us : List Nat) (i : Nat) (j : Nat), S3.le S' ∧ Zt ac 85 [(2, (.string (⟨#[]⟩ : ByteArray))), (4, (.slice (some ⟨b5, 0, none⟩) len_out cap_out)), (7, (.int .i64 ((i : Nat) : Int))), (8, (.int .i64 ((j : Nat) : Int)))] ∧ Run S w S' ((b5, 5, (u8s us ++ rest_2)) :: (Qa g_dd 29 (Yr dd) ++ [])) ww ∧ (Ze1 out us i) ∧ (j + i + 1 = len_out) ∧ (i ≤ j + 1) ∧ m = j)
    ((len_out - 1)) ⟨S3, out, 0, (len_out - 1), Sh.le.refl _, (L127.keep (L127.keep (L129.keep (L130.keep (Zt.none _ L127) (t := 8) rfl) (t := 7) rfl) (t := 4) rfl) (t := 2) rfl), R21, (by exact Ze1.start _), (by omega), (by omega), rfl⟩ ?_
   rintro m_4 ac5 _ ⟨_, us, i, j, l8, L128, R22, hI, hj, hij, m4⟩
   refine wp_seq (wp_seq ?_)
   have hIl := hI.len
   refine Za (sm L128 rfl ?_)
   intro _ L131
   refine sm L131 rfl fun _ L132 => ?_
   by_cases t8 : (i : Int) < (j : Int)
   ·refine so L132 rfl (bT t8 (fun _ => ZF L132 rfl rfl) fun _ L133 => sn (Zp L133 rfl rfl (wp_skip ((Zc (wp_seq (wp_block ?_)))))))
    have L134 := (L133.kp [2, 4, 7, 8, 62, 63, 64] rfl)
    refine Zu (E0 := [(1000, b5, 5, (u8s us ++ rest_2), false)]) (H0 := (Qa g_dd 29 (Yr dd) ++ [])) (n := 85) mixed 14 [] (fun k => if k = 1000 then 13 else 0) (Zce [
      .is (.slice (some ⟨b5, 0, none⟩) len_out cap_out),
      .is (.int .i64 (i : Int)),
      .is (.slice (some ⟨b5, 0, none⟩) len_out cap_out),
      .is (.int .i64 (j : Int)),
      .is (.slice (some ⟨b5, 0, none⟩) len_out cap_out),
      .is (.int .i64 (j : Int)),
      .is (.pointer (some ⟨b5, (0 + (j)), none⟩)),
      .is (.int .u8 ((us.getD (j) 0 : Nat) : Int)),
      .is (.slice (some ⟨b5, 0, none⟩) len_out cap_out),
      .is (.int .i64 (i : Int)),
      .is (.pointer (some ⟨b5, (0 + (i)), none⟩)),
      .is (.int .u8 ((us.getD (i) 0 : Nat) : Int)),
      .is (.pointer (some ⟨b5, (0 + (i)), none⟩)),
      .stored 1000 5 (fun _ cs => cs = (u8s (us.set (i) ((us.getD (j) 0))) ++ rest_2)) (fun _ _ _ _ h => h)]) L134 R22 (by simp) (by simp) (by rfl) (by rfl) (by simp) (ZU ?_) ?_
    ·refine (And.intro ?_ (And.intro ?_ (And.intro ?_ (And.intro ?_ (And.intro ?_ (And.intro ?_ (And.intro ?_ (And.intro ?_ (And.intro ?_ (And.intro ?_ (And.intro ?_ (And.intro ?_ (And.intro ?_ (And.intro ?_ trivial))))))))))))))
     ·exact Zb rfl (fun _ _ _ _ _ A1 => (Zh A1.live rfl (A1.same rfl)))
     ·exact Zb rfl (fun _ _ _ _ _ A2 => (Zh A2.live rfl (A2.same rfl)))
     ·exact Zb rfl (fun _ _ _ _ _ A3 => (Zh A3.live rfl (A3.same rfl)))
     ·exact Zb rfl (fun _ _ _ _ _ A4 => (Zh A4.live rfl (A4.same rfl)))
     ·exact Zb rfl (fun _ _ _ _ _ A5 => (Zh A5.live rfl (A5.same rfl)))
     ·exact Zb rfl (fun _ _ _ _ _ A6 => (Zh A6.live rfl (A6.same rfl)))
     ·refine Zb rfl (fun _ _ _ _ _ A7 => ?_)
      obtain ⟨_, e9, rfl⟩ := A7.known 4 rfl
      obtain ⟨_, e10, rfl⟩ := A7.known 5 rfl
      exact Zr (j) ((A7.live.add e9).add e10) rfl rfl Tryz.underlying189 Zda (by omega) (by omega) (A7.same rfl)
     ·refine Zb rfl (fun _ _ _ _ _ A8 => ?_)
      obtain ⟨_, e11, rfl⟩ := A8.known 6 rfl
      exact Zg (v := (.int .u8 ((us.getD (j) 0 : Nat) : Int))) (A8.live.add e11) rfl agg_5 (A8.has0 (List.Mem.head _) (by rfl)) (by rw [Nat.zero_add]; exact u8s_get (by omega)) (A8.same rfl)
     ·exact Zb rfl (fun _ _ _ _ _ A9 => (Zh A9.live rfl (A9.same rfl)))
     ·exact Zb rfl (fun _ _ _ _ _ A10 => (Zh A10.live rfl (A10.same rfl)))
     ·refine Zb rfl (fun _ _ _ _ _ A11 => ?_)
      obtain ⟨_, e12, rfl⟩ := A11.known 8 rfl
      obtain ⟨_, e13, rfl⟩ := A11.known 9 rfl
      exact Zr (i) ((A11.live.add e12).add e13) rfl rfl Tryz.underlying189 Zda (by omega) (by omega) (A11.same rfl)
     ·refine Zb rfl (fun _ _ _ _ _ A12 => ?_)
      obtain ⟨_, e14, rfl⟩ := A12.known 10 rfl
      exact Zg (v := (.int .u8 ((us.getD (i) 0 : Nat) : Int))) (A12.live.add e14) rfl agg_5 (A12.has0 (List.Mem.head _) (by rfl)) (by rw [Nat.zero_add]; exact u8s_get (by omega)) (A12.same rfl)
     ·refine Zb rfl (fun _ _ _ _ _ A13 => ?_)
      obtain ⟨_, e15, rfl⟩ := A13.known 0 rfl
      obtain ⟨_, e16, rfl⟩ := A13.known 1 rfl
      exact Zr (i) ((A13.live.add e15).add e16) rfl rfl Tryz.underlying189 Zda (by omega) (by omega) (A13.same rfl)
     ·refine Zb rfl (fun _ _ _ _ _ A14 => ?_)
      obtain ⟨_, e17, rfl⟩ := A14.known 7 rfl
      obtain ⟨_, e18, rfl⟩ := A14.known 12 rfl
      exact does_storeRA A14 ((A14.live.add e17).add e18) rfl rfl (List.Mem.head _) rfl Zda rfl rfl (by simp only [List.length_append, QN]; omega) (by rw [Nat.zero_add]; exact u8s_set (by omega)) rfl rfl
    ·intro S23 _ _ w28 l9 E1 R23 n1 L149 K1
     obtain ⟨_, e19, rfl⟩ := K1 0 (by decide)
     have L150 := L149.add e19; clear L149
     obtain ⟨_, e20, rfl⟩ := K1 1 (by decide)
     have L151 := L150.add e20; clear L150
     obtain ⟨_, e21, rfl⟩ := K1 2 (by decide)
     have L152 := L151.add e21; clear L151
     obtain ⟨_, e22, rfl⟩ := K1 3 (by decide)
     have L153 := L152.add e22; clear L152
     obtain ⟨_, e23, rfl⟩ := K1 4 (by decide)
     have L154 := L153.add e23; clear L153
     obtain ⟨_, e24, rfl⟩ := K1 5 (by decide)
     have L155 := L154.add e24; clear L154
     obtain ⟨_, e25, rfl⟩ := K1 6 (by decide)
     have L156 := L155.add e25; clear L155
     obtain ⟨_, e26, rfl⟩ := K1 7 (by decide)
     have L157 := L156.add e26; clear L156
     obtain ⟨_, e27, rfl⟩ := K1 8 (by decide)
     have L158 := L157.add e27; clear L157
     obtain ⟨_, e28, rfl⟩ := K1 9 (by decide)
     have L159 := L158.add e28; clear L158
     obtain ⟨_, e29, rfl⟩ := K1 10 (by decide)
     have L160 := L159.add e29; clear L159
     obtain ⟨_, e30, rfl⟩ := K1 11 (by decide)
     have L161 := L160.add e30; clear L160
     obtain ⟨_, e31, rfl⟩ := K1 12 (by decide)
     have L162 := L161.add e31; clear L161
     obtain ⟨b6, c1, m5, rfl⟩ := K1 13 (by decide)
     obtain ⟨c2, q1, m6, _, _⟩ := E1 _ _ _ _ _ (List.Mem.head _)
     obtain ⟨hbe1, rfl⟩ := Zdq n1 m5 m6; obtain rfl := hbe1.symm
     have R24 : Run _ _ S23 ((b5, 5, (u8s (us.set (i) ((us.getD (j) 0))) ++ rest_2)) :: (Qa g_dd 29 (Yr dd) ++ [])) w28 := Yh R23 n1 [(1000, b5, 5, (u8s (us.set (i) ((us.getD (j) 0))) ++ rest_2), true)] (by simp) (List.forall_mem_cons.2 ⟨m5, (by simp)⟩)
     refine so L162 rfl (Zr (j) L162 rfl rfl Tryz.underlying189 Zda (by omega) (by omega) fun _ L163 => Zs L163 rfl rfl (Yk (cs' := (u8s ((us.set (i) ((us.getD (j) 0))).set (j) ((us.getD (i) 0))) ++ rest_2)) L163 rfl rfl R24 Zda rfl (by simp only [List.length_append, QN]; simp only [List.length_set]; omega) (by rw [Nat.zero_add]; exact u8s_set (by simp only [List.length_set]; omega)) fun _ R25 _ L164 => Yy ((ZI (Zc (Za (sm L164 rfl fun _ L165 => so L165 rfl (ZJ (z := ((i : Int) + (1 : Int))) L165 rfl rfl (IntWalk.i64_in _ (by omega)) fun _ L166 => sm L166 rfl fun _ L167 => so L167 rfl (ZR (z := ((j : Int) - (1 : Int))) L167 rfl rfl (IntWalk.i64_in _ (by omega)) fun _ L168 => ?_)))))))))
     refine sa L168 rfl fun _ L169 => sa L169 rfl fun a139 L170 => sn ?_
     have e32 : (((i : Int) + (1 : Int)) : Int) = (((i + 1) : Nat) : Int) := by omega
     have L171 : Zt a139 85 [(7, (.int .i64 (((i + 1) : Nat) : Int)))] := by have q := (L170.kp [7] rfl); rw [e32] at q; exact q
     have e33 : (((j : Int) - (1 : Int)) : Int) = (((j - 1) : Nat) : Int) := by omega
     have L172 : Zt a139 85 [(8, (.int .i64 (((j - 1) : Nat) : Int)))] := by have q := (L170.kp [8] rfl); rw [e33] at q; exact q
     exact ⟨(j - 1), (by omega), S23, ((us.set (i) ((us.getD (j) 0))).set (j) ((us.getD (i) 0))), (i + 1), (j - 1), (l8.trans l9), (L170.keep (L170.keep (L171.keep (L172.keep (Zt.none _ L170) (t := 8) rfl) (t := 7) rfl) (t := 4) rfl) (t := 2) rfl), R25, (by exact hI.step (by omega) (by omega)), (by omega), (by omega), rfl⟩
   ·refine so L132 rfl (bF t8 (fun _ => ZF L132 rfl rfl) fun _ L173 => sn (Zm L173 rfl rfl (wp_exit ((Zz (Zz (YR (Zc (wp_seq (Za (sm L173 rfl fun _ L174 => so L174 rfl (does_bytesStr (ds := us) L174 rfl Tryz.underlying189 Tryz.underlying5 Tryz.underlying9 (R22.has (List.Mem.head _)) (by (have q := hI.len; omega)) fun _ L175 => sa L175 rfl fun _ L176 => ?_))))))))))))
    exact sn (wp_ret ((Zo (rs := Tryz.f118.results.toList) (L176.kp [2] rfl) rfl (.tmp rfl Res.nil) (⟨_, _, rfl, R22.ext, (by exact congrArg Value.string (text_fin ha hod (hI.done (j := j) (by omega) (by omega) (by omega))))⟩))))
end Go.Cham
namespace Go.Cham
open Go Go.RowKit Go.Proofs
set_option maxRecDepth 20000 in
theorem Zau {S : Sh} {w : World} (hS : Ya S w) {s : ByteArray} (hlim : s.size ≤ 1099511627776) : Calls Tryz.prog 97 [(.string s)].toArray w (Ret S w (fun S v => ((¬ wd (bl s)) ∧ ∃ (c0 : List Value), v = .tuple [.agg c0.toArray, .int .i64 (12)].toArray ∧ Na S c0 (0) (0)) ∨ ((wd (bl s) ∧ 256 < s.size) ∧ ∃ (c0 : List Value), v = .tuple [.agg c0.toArray, .int .i64 (3)].toArray ∧ Na S c0 (0) (0)) ∨ ((wd (bl s) ∧ s.size ≤ 256) ∧ ∃ (c0 : List Value), v = .tuple [.agg c0.toArray, .int .i64 (0)].toArray ∧ Na S c0 (Qt (bl s)) (900)))) := by
 refine ZK (n := 109) Tryz.func97 rfl rfl ?_
 intro ac0 L0
 replace L0 : Zt ac0 109 [(0, (.string s))] := L0
 have R0 : Run S w S [] w := .start hS
 have hbs := YZ s
 refine wp_seq (Za (so L0 rfl (ZG (cs := zN1) ZO R0 rfl ?_)))
 intro b1 _ R1 _ L1
 refine sa L1 rfl fun _ L2 => sn ?_
 refine Qp (fun ac ww => ∃ (S' : Sh) , S.le S' ∧ Zt ac 109 [(0, (.string s)), (2, (.pointer (some ⟨b1, 0, none⟩))), (3, (.int .i64 (0 : Int)))] ∧ Run S w S' [(b1, 32, zN1)] ww ∧ (0 < s.size) ∧ ((bl s).length = 1 ∨ (bl s).getD 0 0 ≠ 48)) ?_ ?_
 ·rintro ac1 _ ⟨S1, l1, L3, R2, hne, h48⟩
  refine wp_seq (wp_seq (Za (sm L3 rfl ?_)))
  intro _ L4
  refine so L4 rfl (YY L4 rfl Tryz.underlying9 fun _ L5 => sm L5 rfl fun a5 L6 => sn (wp_block ?_))
  have e1 : ((0 : Int) : Int) = ((0 : Nat) : Int) := by omega
  have L8 : Zt a5 109 [(29, (.int .i64 ((0 : Nat) : Int)))] := by have q := (L6.kp [29] rfl); rw [e1] at q; exact q
  refine Yb (fun m ac ww => ∃ (S' : Sh) (i : Nat), S1.le S' ∧ Zt ac 109 [(0, (.string s)), (2, (.pointer (some ⟨b1, 0, none⟩))), (3, (.int .i64 (0 : Int))), (28, (.int .i64 ((s.size : Nat) : Int))), (29, (.int .i64 ((i : Nat) : Int)))] ∧ Run S w S' [(b1, 32, zN1)] ww ∧ (i ≤ s.size) ∧ (∀ k, k < i → 48 ≤ (bl s).getD k 0 ∧ (bl s).getD k 0 ≤ 57) ∧ m = s.size - i)
   (s.size - 0) ⟨S1, 0, Sh.le.refl _, (L6.keep (L6.keep (L6.keep (L6.keep (L8.keep (Zt.none _ L6) (t := 29) rfl) (t := 28) rfl) (t := 3) rfl) (t := 2) rfl) (t := 0) rfl), R2, (by omega), (by intro k hk; omega), rfl⟩ ?_
  rintro m_1 ac2 w3 ⟨S2, i, l2, L7, R3, hi, hdg, m1⟩
  refine wp_seq (Za ?_)
  by_cases t1 : (i : Int) < ((s.size : Nat) : Int)
  ·refine so L7 rfl (bT t1 (fun _ => ZF L7 rfl rfl) fun _ L9 => sn (wp_seq (Zp L9 rfl rfl (wp_skip ((Zc (wp_seq (wp_block (wp_seq (Za (sm L9 rfl fun _ L10 => sa L10 rfl fun _ L11 => ?_)))))))))))
   refine sn (wp_seq (Za (sm L11 rfl ?_)))
   intro _ L12
   refine sm L12 rfl fun _ L13 => so L13 rfl (XH (j := i) L13 rfl rfl Tryz.underlying9 (by omega) (by omega) fun _ L14 => ?_)
   by_cases t2 : (((bl s).getD (i) 0 : Nat) : Int) < (48 : Int)
   ·refine so L14 rfl (bT t2 (fun _ => ZF L14 rfl rfl) fun _ L15 => sm L15 rfl fun _ L16 => sof L16 rfl fun _ L17 => sof L17 rfl fun _ L18 => sof L18 rfl fun _ L19 => sof L19 rfl fun _ L20 => so L20 rfl (Zj L20 rfl rfl fun _ L21 => ?_))
    refine sn (Zp L21 rfl rfl (wp_seq (Za ?_)))
    have h1 : Na S2 zN1 (0) (0) := Na.zero _ _
    exact so L21 rfl (ZC (cs := zN1) L21 ZO XD .nil (by rfl) fun _ L22 => Zs L22 rfl rfl (Zi L22 rfl rfl R3 Zk h1.len rfl h1.ones fun _ R4 _ L23 => sa L23 rfl fun _ L24 => sn (wp_ret ((Yz (Zy (Zy (Yz (Zy (Zo (rs := Tryz.f97.results.toList) L24 rfl (Res.aggW rfl ZE Zk (R4.has (List.Mem.head _)) h1.len (.tmp rfl Res.nil)) (⟨_, _, rfl, R4.ext, (Or.inl ⟨by exact not_wd_at (i := i) (by omega) (by omega), ⟨_, rfl, (h1.to rfl (by omega))⟩⟩)⟩)))))))))))
   ·refine so L14 rfl (bF t2 (fun _ => ZF L14 rfl rfl) fun _ L25 => sm L25 rfl fun _ L26 => son L26 rfl (Zh L26 rfl fun _ L27 => son L27 rfl (Zh L27 rfl fun _ L28 => son L28 rfl (XH (j := i) L28 rfl rfl Tryz.underlying9 (by omega) (by omega) fun _ L29 => ?_))))
    by_cases t3 : (57 : Int) < (((bl s).getD (i) 0 : Nat) : Int)
    ·refine son L29 rfl (bT t3 (fun _ => ZS L29 rfl rfl) fun _ L30 => so L30 rfl (Zj L30 rfl rfl fun _ L31 => sn (Zp L31 rfl rfl (wp_seq (Za ?_)))))
     have h2 : Na S2 zN1 (0) (0) := Na.zero _ _
     exact so L31 rfl (ZC (cs := zN1) L31 ZO XD .nil (by rfl) fun _ L32 => Zs L32 rfl rfl (Zi L32 rfl rfl R3 Zk h2.len rfl h2.ones fun _ R5 _ L33 => sa L33 rfl fun _ L34 => sn (wp_ret ((Yz (Zy (Zy (Yz (Zy (Zo (rs := Tryz.f97.results.toList) L34 rfl (Res.aggW rfl ZE Zk (R5.has (List.Mem.head _)) h2.len (.tmp rfl Res.nil)) (⟨_, _, rfl, R5.ext, (Or.inl ⟨by exact not_wd_at (i := i) (by omega) (by omega), ⟨_, rfl, (h2.to rfl (by omega))⟩⟩)⟩)))))))))))
    ·refine son L29 rfl (bF t3 (fun _ => ZS L29 rfl rfl) fun _ L35 => so L35 rfl (Zj L35 rfl rfl fun _ L36 => sn (Zm L36 rfl rfl (wp_skip ((ZI (Zc (Za (so L36 rfl (ZJ (z := ((i : Int) + (1 : Int))) L36 rfl rfl (IntWalk.i64_in _ (by omega)) fun _ L37 => sm L37 rfl fun a35 L38 => sn ?_))))))))))
     have e2 : (((i : Int) + (1 : Int)) : Int) = (((i + 1) : Nat) : Int) := by omega
     have L39 : Zt a35 109 [(29, (.int .i64 (((i + 1) : Nat) : Int)))] := by have q := (L38.kp [29] rfl); rw [e2] at q; exact q
     exact ⟨s.size - (i + 1), (by omega), S2, (i + 1), l2, (L38.keep (L38.keep (L38.keep (L38.keep (L39.keep (Zt.none _ L38) (t := 29) rfl) (t := 28) rfl) (t := 3) rfl) (t := 2) rfl) (t := 0) rfl), R3, (by omega), (by exact dig_step hdg ⟨by omega, by omega⟩), rfl⟩
  ·refine so L7 rfl (bF t1 (fun _ => ZF L7 rfl rfl) fun _ L40 => sn (wp_seq (Zm L40 rfl rfl (wp_exit ((Zz (Zz (YR (Zc (wp_seq (wp_seq ?_)))))))))))
   have hwd : wd (bl s) := wd_of (i := i) (by omega) h48 (by omega) hdg
   refine Za (sm L40 rfl ?_)
   intro _ L41
   refine so L41 rfl (YY L41 rfl Tryz.underlying9 fun _ L42 => ?_)
   by_cases t4 : (256 : Int) < ((s.size : Nat) : Int)
   ·refine so L42 rfl (bT t4 (fun _ => ZS L42 rfl rfl) fun _ L43 => ?_)
    have L44 := (L43.kp [0, 2, 3, 46] rfl); clear L43
    refine sn (Zp L44 rfl rfl (wp_seq (Za ?_)))
    have h3 : Na S2 zN1 (0) (0) := Na.zero _ _
    exact so L44 rfl (ZC (cs := zN1) L44 ZO XD .nil (by rfl) fun _ L45 => Zs L45 rfl rfl (Zi L45 rfl rfl R3 Zk h3.len rfl h3.ones fun _ R6 _ L46 => sa L46 rfl fun _ L47 => sn (wp_ret ((Zy (Zo (rs := Tryz.f97.results.toList) L47 rfl (Res.aggW rfl ZE Zk (R6.has (List.Mem.head _)) h3.len (.tmp rfl Res.nil)) (⟨_, _, rfl, R6.ext, (Or.inr (Or.inl ⟨by exact ⟨hwd, by omega⟩, ⟨_, rfl, (h3.to rfl (by omega))⟩⟩))⟩)))))))
   ·refine so L42 rfl (bF t4 (fun _ => ZS L42 rfl rfl) fun _ L48 => ?_)
    have L49 := (L48.kp [0, 2, 3, 46] rfl); clear L48
    refine sn (Zm L49 rfl rfl (wp_skip ((Zc (wp_seq (Za (sa L49 rfl ?_)))))))
    intro _ L50
    refine sn (wp_seq (wp_block ?_))
    have R7 : Run S w S2 ((b1, 32, zN1) :: (Qa none 29 (Yr []) ++ [])) w3 := R3
    refine Yb (fun m ac ww => ∃ (S' : Sh) (t : ByteArray) (kk : Nat) (g_dd : Option (Nat × List Value)) (len_dd : Nat) (cap_dd : Nat) (dd : List Nat), S2.le S' ∧ Zt ac 109 [(0, (.string t)), (2, (.pointer (some ⟨b1, 0, none⟩))), (3, (.int .i64 (0 : Int))), (5, (.slice (gp g_dd) len_dd cap_dd))] ∧ Run S w S' ((b1, 32, zN1) :: (Qa g_dd 29 (Yr dd) ++ [])) ww ∧ (Gw g_dd len_dd cap_dd 1 (Yr dd)) ∧ (∀ e ∈ dd, e < 18446744073709551616) ∧ (bl t = (bl s).drop kk) ∧ (val W64 dd = Qt ((bl s).take kk)) ∧ (len_dd ≤ kk) ∧ (kk + t.size = s.size) ∧ m = t.size)
     (s.size) ⟨S2, s, 0, none, 0, 0, [], Sh.le.refl _, (L50.kp [5, 3, 2, 0] rfl), R7, (by exact (Gw.nil 1)), (by simp), (by simp), (by rfl), (by omega), (by omega), rfl⟩ ?_
    rintro m_2 ac3 w7 ⟨S3, t, kk, g_dd, len_dd, cap_dd, dd, l3, L51, R8, hG_dd, hd, ht, hv, hb, hkk, m2⟩
    have hl_dd := hG_dd.hl; rw [ZH, Nat.mul_one] at hl_dd; have hc_dd := hG_dd.hc
    refine wp_seq (wp_seq (Za (sm L51 rfl ?_)))
    intro _ L52
    refine so L52 rfl (YY L52 rfl Tryz.underlying9 fun _ L53 => ?_)
    by_cases t5 : (0 : Int) < ((t.size : Nat) : Int)
    ·refine so L53 rfl (bT t5 (fun _ => ZS L53 rfl rfl) fun _ L54 => sn (Zp L54 rfl rfl (wp_skip ((Zc (wp_block (wp_seq ?_)))))))
     have hbt := YZ t
     have hdt : ∀ c ∈ bl t, 48 ≤ c ∧ c ≤ 57 := fun c hc => hwd.2.1 c (List.mem_of_mem_drop (by rw [← ht]; exact hc))
     refine Za (sm L54 rfl ?_)
     intro _ L55
     refine so L55 rfl (YY L55 rfl Tryz.underlying9 fun _ L56 => so L56 rfl (ZR (z := (((t.size : Nat) : Int) - (1 : Int))) L56 rfl rfl (IntWalk.i64_in _ (by omega)) fun _ L57 => so L57 rfl (Zc1 (z := ((((t.size : Nat) : Int) - (1 : Int)) % (19 : Int))) L57 rfl rfl (by omega) (rem_nn (by omega)) fun _ L58 => so L58 rfl (ZJ (z := (((t.size - 1) % 19 + 1 : Nat) : Int)) L58 rfl rfl (i64_to (by omega) (by omega)) fun _ L59 => sa L59 rfl fun _ L60 => sn (wp_seq (Za ?_))))))
     refine sa L60 rfl fun _ L61 => sa L61 rfl fun _ L62 => sn ?_
     refine Qp (fun ac ww => ∃ (S' : Sh) (c0 : Nat) (yy : Nat), S3.le S' ∧ Zt ac 109 [(0, (.string t)), (2, (.pointer (some ⟨b1, 0, none⟩))), (3, (.int .i64 (0 : Int))), (5, (.slice (gp g_dd) len_dd cap_dd)), (48, (.string t)), (49, (.int .i64 ((t.size : Nat) : Int))), (50, (.bool true)), (51, (.string t)), (52, (.int .i64 ((t.size : Nat) : Int))), (53, (.int .i64 (((t.size : Nat) : Int) - (1 : Int)))), (54, (.int .i64 ((((t.size : Nat) : Int) - (1 : Int)) % (19 : Int)))), (55, (.int .i64 (((t.size - 1) % 19 + 1 : Nat) : Int))), (6, (.int .i64 (((t.size - 1) % 19 + 1 : Nat) : Int))), (7, (.int .u64 ((c0 : Nat) : Int))), (8, (.int .u64 ((yy : Nat) : Int)))] ∧ Run S w S' ((b1, 32, zN1) :: (Qa g_dd 29 (Yr dd) ++ [])) ww ∧ (c0 = Qt ((bl t).take ((t.size - 1) % 19 + 1))) ∧ (yy = 10 ^ ((t.size - 1) % 19 + 1))) ?_ ?_
     ·rintro ac4 _ ⟨S4, c0, yy, l4, L63, R9, hc0, hyy⟩
      refine wp_seq (wp_seq ?_)
      have hpl := pow10_le (show (t.size - 1) % 19 + 1 ≤ 19 by omega)
      refine Za (sm L63 rfl ?_)
      intro _ L64
      refine so L64 rfl (ZM L64 rfl Tryz.underlying30 fun _ L65 => sm L65 rfl fun a58 L66 => sn (wp_block ?_))
      have e3 : ((0 : Int) : Int) = ((0 : Nat) : Int) := by omega
      have L68 : Zt a58 109 [(73, (.int .i64 ((0 : Nat) : Int)))] := by have q := (L66.kp [73] rfl); rw [e3] at q; exact q
      refine Yb (fun m ac ww => ∃ (S' : Sh) (i : Nat) (cc : Nat) (g_us : Option (Nat × List Value)) (len_us : Nat) (cap_us : Nat) (us : List Nat), S4.le S' ∧ Zt ac 109 [(0, (.string t)), (2, (.pointer (some ⟨b1, 0, none⟩))), (3, (.int .i64 (0 : Int))), (5, (.slice (gp g_us) len_us cap_us)), (48, (.string t)), (49, (.int .i64 ((t.size : Nat) : Int))), (50, (.bool true)), (51, (.string t)), (52, (.int .i64 ((t.size : Nat) : Int))), (53, (.int .i64 (((t.size : Nat) : Int) - (1 : Int)))), (54, (.int .i64 ((((t.size : Nat) : Int) - (1 : Int)) % (19 : Int)))), (55, (.int .i64 (((t.size - 1) % 19 + 1 : Nat) : Int))), (6, (.int .i64 (((t.size - 1) % 19 + 1 : Nat) : Int))), (7, (.int .u64 ((cc : Nat) : Int))), (8, (.int .u64 ((yy : Nat) : Int))), (71, (.slice (gp g_dd) len_dd cap_dd)), (72, (.int .i64 ((len_dd : Nat) : Int))), (73, (.int .i64 ((i : Nat) : Int)))] ∧ Run S w S' ((b1, 32, zN1) :: (Qa g_us 29 (Yr us) ++ [])) ww ∧ (Gw g_us len_us cap_us 1 (Yr us)) ∧ (ByInv dd us yy c0 i cc) ∧ (i ≤ len_dd) ∧ (len_us = len_dd) ∧ m = len_dd - i)
       (len_dd - 0) ⟨S4, 0, c0, g_dd, len_dd, cap_dd, dd, Sh.le.refl _, (L66.keep (L66.keep (L66.keep (L66.keep (L66.keep (L66.keep (L66.keep (L66.keep (L66.keep (L66.keep (L66.keep (L66.keep (L66.keep (L66.keep (L66.keep (L66.keep (L66.keep (L68.keep (Zt.none _ L66) (t := 73) rfl) (t := 72) rfl) (t := 71) rfl) (t := 8) rfl) (t := 7) rfl) (t := 6) rfl) (t := 55) rfl) (t := 54) rfl) (t := 53) rfl) (t := 52) rfl) (t := 51) rfl) (t := 50) rfl) (t := 49) rfl) (t := 48) rfl) (t := 5) rfl) (t := 3) rfl) (t := 2) rfl) (t := 0) rfl), R9, (by exact hG_dd), (by exact ByInv.start hd (by rw [hc0, hyy]; exact pval_take_lt hdt)), (by omega), (by omega), rfl⟩ ?_
      rintro m_3 ac5 w9 ⟨S5, i, cc, g_us, len_us, cap_us, us, l5, L67, R10, hG_us, hI, hi, hlu, m3⟩
      have hl_us := hG_us.hl; rw [ZH, Nat.mul_one] at hl_us; have hc_us := hG_us.hc
      refine wp_seq (Za ?_)
      by_cases t6 : (i : Int) < (len_dd : Int)
      ·refine so L67 rfl (bT t6 (fun _ => ZF L67 rfl rfl) fun _ L69 => sn (wp_seq (Zp L69 rfl rfl (wp_skip ((Zc (wp_seq (wp_block (wp_seq (Za (sm L69 rfl fun _ L70 => sa L70 rfl fun _ L71 => ?_)))))))))))
       refine sn (wp_seq ?_)
       have hIc := hI.cb; have hIn := hI.len
       refine Za (sm L71 rfl ?_)
       intro _ L72
       refine sm L72 rfl fun _ L73 => ?_
       obtain ⟨b2, rest_1, rfl⟩ := hG_us.some (by omega)
       have R11 : Run S w S5 [(b2, 29, (Yr us ++ rest_1)), (b1, 32, zN1)] w9 := gown_out [(b1, 32, zN1)] (H := []) R10
       refine so L73 rfl (Zr (i) L73 rfl rfl Tryz.underlying30 ZA (by omega) (by omega) fun _ L74 => so L74 rfl (Zg (v := (.int .u64 ((us.getD (i) 0 : Nat) : Int))) L74 rfl Ym (R11.has (List.Mem.head _)) (by rw [Nat.zero_add]; exact ZX (by omega)) fun _ L75 => sm L75 rfl fun _ L76 => so L76 rfl (Zl L76 rfl ent_139 (Qk R11.holds (x := (us.getD (i) 0)) (y := yy) (ZQ hI.lt (by decide) _) (by omega)) fun v_1 S6 _ x1 v1 => ?_)))
       have R12 := R11.call x1; have l6 := x1.le
       obtain rfl := v1
       intro _ L77
       refine sm L77 rfl fun _ L78 => so L78 rfl (Zf L78 rfl rfl fun _ L79 => so L79 rfl (Zf L79 rfl rfl fun _ L80 => sa L80 rfl fun _ L81 => sa L81 rfl fun _ L82 => sn (wp_seq (Za ?_))))
       refine sa L82 rfl fun _ L83 => sn (wp_seq (Za (sm L83 rfl fun _ L84 => sm L84 rfl fun _ L85 => sm L85 rfl fun _ L86 => sm L86 rfl fun _ L87 => ?_)))
       refine so L87 rfl (YE (x := ((us.getD (i) 0) * yy % 18446744073709551616)) (y := cc) (c := 0) L87 rfl (by omega) fun _ L88 => sm L88 rfl fun _ L89 => so L89 rfl (Zf L89 rfl rfl fun _ L90 => so L90 rfl (Zf L90 rfl rfl fun _ L91 => so L91 rfl (Zr (i) L91 rfl rfl Tryz.underlying30 ZA (by omega) (by omega) fun _ L92 => Zs L92 rfl rfl (Yk (cs' := (Yr (us.set (i) (((((us.getD (i) 0) * yy % 18446744073709551616) + cc + 0) % 18446744073709551616))) ++ rest_1)) L92 rfl rfl R12 ZA rfl (by simp only [List.length_append, ZH]; omega) (by rw [Nat.zero_add]; exact YS (by omega)) fun w11 R13 _ L93 => sa L93 rfl fun _ L94 => ?_)))))
       refine sn ?_
       have hbl := by_lt (ZQ hI.lt (by decide) i) hI.cb
       refine Za (sm L94 rfl ?_)
       intro _ L95
       refine sm L95 rfl fun _ L96 => so L96 rfl (ZJ (z := ((((us.getD (i) 0) * yy / 18446744073709551616 : Nat) : Int) + (((((us.getD (i) 0) * yy % 18446744073709551616) + cc + 0) / 18446744073709551616 : Nat) : Int))) L96 rfl rfl (IntWalk.u64_in _ (by omega)) fun _ L97 => sa L97 rfl fun _ L98 => Yy ((ZI (Zc (Za (so L98 rfl (ZJ (z := ((i : Int) + (1 : Int))) L98 rfl rfl (IntWalk.i64_in _ (by omega)) fun _ L99 => sm L99 rfl fun a90 L100 => sn ?_)))))))
       have hG1 := Gw.same (ds := (us.set (i) (((((us.getD (i) 0) * yy % 18446744073709551616) + cc + 0) % 18446744073709551616)))) hG_us (by simp)
       have R14 : Run S w S6 ((b1, 32, zN1) :: (Qa (some (b2, rest_1)) 29 (Yr (us.set (i) (((((us.getD (i) 0) * yy % 18446744073709551616) + cc + 0) % 18446744073709551616)))) ++ [])) w11 := gown_own [(b1, 32, zN1)] (H := []) R13
       have e4 : (((((us.getD (i) 0) * yy / 18446744073709551616 : Nat) : Int) + (((((us.getD (i) 0) * yy % 18446744073709551616) + cc + 0) / 18446744073709551616 : Nat) : Int)) : Int) = (((((us.getD (i) 0) * yy / 18446744073709551616) + ((((us.getD (i) 0) * yy % 18446744073709551616) + cc + 0) / 18446744073709551616)) : Nat) : Int) := by omega
       have L101 : Zt a90 109 [(7, (.int .u64 (((((us.getD (i) 0) * yy / 18446744073709551616) + ((((us.getD (i) 0) * yy % 18446744073709551616) + cc + 0) / 18446744073709551616)) : Nat) : Int)))] := by have q := (L100.kp [7] rfl); rw [e4] at q; exact q
       have e5 : (((i : Int) + (1 : Int)) : Int) = (((i + 1) : Nat) : Int) := by omega
       have L102 : Zt a90 109 [(73, (.int .i64 (((i + 1) : Nat) : Int)))] := by have q := (L100.kp [73] rfl); rw [e5] at q; exact q
       exact ⟨len_dd - (i + 1), (by omega), S6, (i + 1), (((us.getD (i) 0) * yy / 18446744073709551616) + ((((us.getD (i) 0) * yy % 18446744073709551616) + cc + 0) / 18446744073709551616)), (some (b2, rest_1)), len_us, cap_us, (us.set (i) (((((us.getD (i) 0) * yy % 18446744073709551616) + cc + 0) % 18446744073709551616))), (l5.trans l6), (L100.keep (L100.keep (L100.keep (L100.keep (L100.keep (L100.keep (L100.keep (L100.keep (L100.keep (L100.keep (L100.keep (L100.keep (L100.keep (L101.keep (L100.keep (L100.keep (L100.keep (L102.keep (Zt.none _ L100) (t := 73) rfl) (t := 72) rfl) (t := 71) rfl) (t := 8) rfl) (t := 7) rfl) (t := 6) rfl) (t := 55) rfl) (t := 54) rfl) (t := 53) rfl) (t := 52) rfl) (t := 51) rfl) (t := 50) rfl) (t := 49) rfl) (t := 48) rfl) (t := 5) rfl) (t := 3) rfl) (t := 2) rfl) (t := 0) rfl), R14, (by exact hG1), (by exact hI.step (by omega) (by omega) (by rfl) (by rfl)), (by omega), (by omega), rfl⟩
      ·refine so L67 rfl (bF t6 (fun _ => ZF L67 rfl rfl) fun _ L103 => sn (wp_seq (Zm L103 rfl rfl (wp_exit ((Zz (Zz (YR (Zc (wp_seq (wp_seq ?_)))))))))))
       have hIc := hI.cb; have hIl := hI.lt; have hIn := hI.len
       refine Za (sm L103 rfl ?_)
       intro _ L104
       by_cases t7 : (0 : Int) < (cc : Int)
       ·refine so L104 rfl (bT t7 (fun _ => ZS L104 rfl rfl) fun _ L105 => sn (Zp L105 rfl rfl (Za (sm L105 rfl fun _ L106 => sm L106 rfl fun _ L107 => so L107 rfl (Xn (cs := (Yr [cc] ++ [])) L107 Tryz.underlying30 ZA Qc (.cons rfl rfl (by decide) .nil) [[(.int .u64 (cc : Int))]] rfl rfl (by rfl) (by decide) R10 fun b3 _ R15 _ L108 => so L108 rfl (Zak (g := g_us) (cs := (Yr us)) (vs := (Yr [cc])) (H := [(b3, 29, (Yr [cc] ++ [])), (b1, 32, zN1)] ++ []) L108 rfl rfl Tryz.underlying30 ZA QK Qc rfl hG_us (gown_in [(b3, 29, (Yr [cc] ++ [])), (b1, 32, zN1)] (H2 := Qa g_us 29 (Yr us)) (H := []) R15) (R15.has (List.Mem.head _)) rfl rfl (u64s_ones _) (by omega) (by omega) (by omega) fun g1 cap1 w13 hG2 R16 _ L109 => ?_))))))
        rw [Zba] at hG2 R16
        have R17 : Run S w S5 ((b3, 29, (Yr [cc] ++ [])) :: (b1, 32, zN1) :: (Qa g1 29 (Yr (us ++ [cc])) ++ [])) w13 := gown_in (Qa g1 29 (Yr (us ++ [cc]))) (H2 := [(b3, 29, (Yr [cc] ++ [])), (b1, 32, zN1)]) (H := []) R16
        refine sa L109 rfl fun _ L110 => sn (Za (sm L110 rfl fun _ L111 => sm L111 rfl fun _ L112 => so L112 rfl (QI (i := ((t.size - 1) % 19 + 1)) (j := t.size) (z := (t.extract (((t.size - 1) % 19 + 1)) (t.size))) L112 rfl Tryz.underlying9 ⟨_, rfl⟩ rfl (by omega) (by omega) rfl fun _ L113 => sa L113 rfl fun _ L114 => Yy ((ZI (Zc ?_))))))
        exact ⟨(t.extract (((t.size - 1) % 19 + 1)) (t.size)).size, (by rw [ByteArray.size_extract]; omega), S5, (t.extract (((t.size - 1) % 19 + 1)) (t.size)), (kk + ((t.size - 1) % 19 + 1)), g1, (len_us + 1), cap1, (us ++ [cc]), (l3.trans (l4.trans l5)), (L114.kp [5, 3, 2, 0] rfl), (Run.mid [(b1, 32, zN1)] [(b3, 29, (Yr [cc] ++ []))] (ZY R17)), (by exact hG2), (by first | exact lt_snoc hIl (by omega) | exact hIl), (by rw [Zc4, ht, List.take_of_length_le (by rw [← ht, YZ]; omega), List.drop_drop]), (by have q := parse_next ht hv (by rw [YZ]; omega) hc0; have r := hI.done (by omega) (by omega); rw [← hyy] at q; first | (rw [val_snoc, ← q]; exact r) | (rw [← q, ← r, show cc = 0 by omega]; simp)), (by omega), (by rw [ByteArray.size_extract]; omega), rfl⟩
       ·refine so L104 rfl (bF t7 (fun _ => ZS L104 rfl rfl) fun _ L115 => sn (Zm L115 rfl rfl (wp_skip ((Zc (Za (sm L115 rfl fun _ L116 => sm L116 rfl fun _ L117 => so L117 rfl (QI (i := ((t.size - 1) % 19 + 1)) (j := t.size) (z := (t.extract (((t.size - 1) % 19 + 1)) (t.size))) L117 rfl Tryz.underlying9 ⟨_, rfl⟩ rfl (by omega) (by omega) rfl fun _ L118 => sa L118 rfl fun _ L119 => ?_))))))))
        exact Yy ((ZI (Zc (⟨(t.extract (((t.size - 1) % 19 + 1)) (t.size)).size, (by rw [ByteArray.size_extract]; omega), S5, (t.extract (((t.size - 1) % 19 + 1)) (t.size)), (kk + ((t.size - 1) % 19 + 1)), g_us, len_us, cap_us, us, (l3.trans (l4.trans l5)), (L119.kp [5, 3, 2, 0] rfl), R10, (by exact hG_us), (by first | exact lt_snoc hIl (by omega) | exact hIl), (by rw [Zc4, ht, List.take_of_length_le (by rw [← ht, YZ]; omega), List.drop_drop]), (by have q := parse_next ht hv (by rw [YZ]; omega) hc0; have r := hI.done (by omega) (by omega); rw [← hyy] at q; first | (rw [val_snoc, ← q]; exact r) | (rw [← q, ← r, show cc = 0 by omega]; simp)), (by omega), (by rw [ByteArray.size_extract]; omega), rfl⟩))))
     ·skip
      refine wp_seq (Za (sm L62 rfl ?_))
      intro _ L120
      refine sm L120 rfl fun a109 L121 => sn (wp_block ?_)
      have e6 : ((0 : Int) : Int) = ((0 : Nat) : Int) := by omega
      have L123 : Zt a109 109 [(7, (.int .u64 ((0 : Nat) : Int)))] := by have q := (L121.kp [7] rfl); rw [e6] at q; exact q
      have e7 : ((1 : Int) : Int) = ((1 : Nat) : Int) := by omega
      have L124 : Zt a109 109 [(8, (.int .u64 ((1 : Nat) : Int)))] := by have q := (L121.kp [8] rfl); rw [e7] at q; exact q
      have e8 : ((0 : Int) : Int) = ((0 : Nat) : Int) := by omega
      have L125 : Zt a109 109 [(57, (.int .i64 ((0 : Nat) : Int)))] := by have q := (L121.kp [57] rfl); rw [e8] at q; exact q
      refine Yb (fun m ac ww => ∃ (S' : Sh) (i : Nat) (cc : Nat) (yy : Nat), S3.le S' ∧ Zt ac 109 [(0, (.string t)), (2, (.pointer (some ⟨b1, 0, none⟩))), (3, (.int .i64 (0 : Int))), (5, (.slice (gp g_dd) len_dd cap_dd)), (48, (.string t)), (49, (.int .i64 ((t.size : Nat) : Int))), (50, (.bool true)), (51, (.string t)), (52, (.int .i64 ((t.size : Nat) : Int))), (53, (.int .i64 (((t.size : Nat) : Int) - (1 : Int)))), (54, (.int .i64 ((((t.size : Nat) : Int) - (1 : Int)) % (19 : Int)))), (55, (.int .i64 (((t.size - 1) % 19 + 1 : Nat) : Int))), (6, (.int .i64 (((t.size - 1) % 19 + 1 : Nat) : Int))), (7, (.int .u64 ((cc : Nat) : Int))), (8, (.int .u64 ((yy : Nat) : Int))), (56, (.int .i64 (((t.size - 1) % 19 + 1 : Nat) : Int))), (57, (.int .i64 ((i : Nat) : Int)))] ∧ Run S w S' ((b1, 32, zN1) :: (Qa g_dd 29 (Yr dd) ++ [])) ww ∧ (i ≤ (t.size - 1) % 19 + 1) ∧ (cc = Qt ((bl t).take i)) ∧ (yy = 10 ^ i) ∧ m = (t.size - 1) % 19 + 1 - i)
       ((t.size - 1) % 19 + 1 - 0) ⟨S3, 0, 0, 1, Sh.le.refl _, (L121.keep (L121.keep (L121.keep (L121.keep (L121.keep (L121.keep (L121.keep (L121.keep (L121.keep (L121.keep (L121.keep (L121.keep (L121.keep (L123.keep (L124.keep (L121.keep (L125.keep (Zt.none _ L121) (t := 57) rfl) (t := 56) rfl) (t := 8) rfl) (t := 7) rfl) (t := 6) rfl) (t := 55) rfl) (t := 54) rfl) (t := 53) rfl) (t := 52) rfl) (t := 51) rfl) (t := 50) rfl) (t := 49) rfl) (t := 48) rfl) (t := 5) rfl) (t := 3) rfl) (t := 2) rfl) (t := 0) rfl), R8, (by omega), (by rfl), (by rfl), rfl⟩ ?_
      rintro m_4 ac6 _ ⟨S7, i, cc, yy, l7, L122, R18, hi, hcc, hyy, m4⟩
      refine wp_seq (Za ?_)
      by_cases t8 : (i : Int) < (((t.size - 1) % 19 + 1 : Nat) : Int)
      ·refine so L122 rfl (bT t8 (fun _ => ZF L122 rfl rfl) fun _ L126 => sn (wp_seq (Zp L126 rfl rfl (wp_skip ((Zc (wp_seq (wp_block (wp_seq (Za (sm L126 rfl fun _ L127 => sa L127 rfl fun _ L128 => ?_)))))))))))
       refine sn ?_
       have hdi := digit_at hdt (show i < (bl t).length by omega)
       have hpl := pow10_le (show i + 1 ≤ 19 by omega); rw [Nat.pow_succ] at hpl
       have hcl : cc < 10 ^ i := by rw [hcc]; exact pval_take_lt hdt
       refine Za (sm L128 rfl ?_)
       intro _ L129
       refine so L129 rfl (Xx (z := ((10 : Int) * (cc : Int))) L129 rfl rfl (IntWalk.u64_in _ (by omega)) fun _ L130 => sm L130 rfl fun _ L131 => sm L131 rfl fun _ L132 => so L132 rfl (XH (j := i) L132 rfl rfl Tryz.underlying9 (by omega) (by omega) fun _ L133 => so L133 rfl (ZR (z := ((((bl t).getD (i) 0 : Nat) : Int) - (48 : Int))) L133 rfl rfl (IntWalk.u8_in _ (by omega)) fun _ L134 => so L134 rfl (XR (z := (((((bl t).getD (i) 0 : Nat) : Int) - (48 : Int)))) L134 rfl rfl Tryz.underlying29 (IntWalk.u64_in _ (by omega)) fun _ L135 => so L135 rfl (ZJ (z := (((10 : Int) * (cc : Int)) + (((((bl t).getD (i) 0 : Nat) : Int) - (48 : Int))))) L135 rfl rfl (IntWalk.u64_in _ (by omega)) fun _ L136 => ?_)))))
       refine sm L136 rfl fun _ L137 => so L137 rfl (Xx (z := ((10 : Int) * (yy : Int))) L137 rfl rfl (IntWalk.u64_in _ (by omega)) fun _ L138 => sa L138 rfl fun _ L139 => sa L139 rfl fun _ L140 => Yy ((ZI (Zc (Za (so L140 rfl (ZJ (z := ((i : Int) + (1 : Int))) L140 rfl rfl (IntWalk.i64_in _ (by omega)) fun _ L141 => sm L141 rfl fun a126 L142 => ?_)))))))
       refine sn ?_
       have e9 : ((((10 : Int) * (cc : Int)) + (((((bl t).getD (i) 0 : Nat) : Int) - (48 : Int)))) : Int) = (((10 * cc + ((bl t).getD (i) 0 - 48)) : Nat) : Int) := by omega
       have L143 : Zt a126 109 [(7, (.int .u64 (((10 * cc + ((bl t).getD (i) 0 - 48)) : Nat) : Int)))] := by have q := (L142.kp [7] rfl); rw [e9] at q; exact q
       have e10 : (((10 : Int) * (yy : Int)) : Int) = (((10 * yy) : Nat) : Int) := by omega
       have L144 : Zt a126 109 [(8, (.int .u64 (((10 * yy) : Nat) : Int)))] := by have q := (L142.kp [8] rfl); rw [e10] at q; exact q
       have e11 : (((i : Int) + (1 : Int)) : Int) = (((i + 1) : Nat) : Int) := by omega
       have L145 : Zt a126 109 [(57, (.int .i64 (((i + 1) : Nat) : Int)))] := by have q := (L142.kp [57] rfl); rw [e11] at q; exact q
       exact ⟨(t.size - 1) % 19 + 1 - (i + 1), (by omega), S7, (i + 1), (10 * cc + ((bl t).getD (i) 0 - 48)), (10 * yy), l7, (L142.keep (L142.keep (L142.keep (L142.keep (L142.keep (L142.keep (L142.keep (L142.keep (L142.keep (L142.keep (L142.keep (L142.keep (L142.keep (L143.keep (L144.keep (L142.keep (L145.keep (Zt.none _ L142) (t := 57) rfl) (t := 56) rfl) (t := 8) rfl) (t := 7) rfl) (t := 6) rfl) (t := 55) rfl) (t := 54) rfl) (t := 53) rfl) (t := 52) rfl) (t := 51) rfl) (t := 50) rfl) (t := 49) rfl) (t := 48) rfl) (t := 5) rfl) (t := 3) rfl) (t := 2) rfl) (t := 0) rfl), R18, (by omega), (by rw [hcc, pval_take_succ (by rw [YZ]; omega)]), (by rw [hyy, Nat.pow_succ, Nat.mul_comm]), rfl⟩
      ·exact so L122 rfl (bF t8 (fun _ => ZF L122 rfl rfl) fun _ L146 => sn (wp_seq (Zm L146 rfl rfl (wp_exit ((Zz (Zz (YR (Zc (⟨S7, cc, yy, l7, (L146.kp [8, 7, 6, 55, 54, 53, 52, 51, 50, 49, 48, 5, 3, 2, 0] rfl), R18, (by rw [hcc]; congr 2; omega), (by rw [hyy]; congr 1; omega)⟩))))))))))
    ·refine so L53 rfl (bF t5 (fun _ => ZS L53 rfl rfl) fun _ L147 => sn (Zm L147 rfl rfl (wp_exit ((Zz (Zz (YR (Zc (wp_seq ?_)))))))))
     have hall : kk = s.size := by omega
     refine Za (sm L147 rfl ?_)
     intro _ L148
     obtain ⟨S8, l8, r1, R19⟩ := Run.freezeG [(b1, 32, zN1)] (H := []) R8
     have R20 : Run S w S8 [(b1, 32, zN1)] w7 := R19
     have hd1 := hG_dd.dg (S := S8) r1 (by omega) (by exact hd)
     refine so L148 rfl (Zl L148 rfl Zbj (Zbe R20.holds (k := 900) hd1 (by rw [hv]; exact pval_le (fun c hc => hwd.2.1 c (List.mem_of_mem_take hc)) (by rw [List.length_take]; omega))) fun v_2 _ _ x2 v2 => ?_)
     have R21 := R20.call x2
     obtain ⟨c1, rfl, h4⟩ := v2
     intro _ L149
     exact Zs L149 rfl rfl (Zi L149 rfl rfl R21 Zk h4.len rfl h4.ones fun _ R22 _ L150 => sa L150 rfl fun _ L151 => sn (wp_ret ((Zo (rs := Tryz.f97.results.toList) (L151.kp [2, 3] rfl) rfl (Res.aggW rfl ZE Zk (R22.has (List.Mem.head _)) h4.len (.tmp rfl Res.nil)) (⟨_, _, rfl, R22.ext, (Or.inr (Or.inr ⟨by exact ⟨hwd, by omega⟩, ⟨_, rfl, (h4.to (by rw [hv, hall, List.take_of_length_le (by omega)]) (by omega))⟩⟩))⟩)))))
 ·skip
  refine wp_seq (Za (sm L2 rfl ?_))
  intro _ L153
  by_cases t9 : s = (⟨#[]⟩ : ByteArray)
  ·refine so L153 rfl (bT t9 (fun _ => Xz L153 rfl rfl) fun _ L154 => sm L154 rfl fun _ L155 => sof L155 rfl fun _ L156 => sof L156 rfl fun _ L157 => sof L157 rfl fun _ L158 => sof L158 rfl fun _ L159 => Ye L159 rfl rfl rfl rfl rfl fun _ L160 => ?_)
   refine Ye L160 rfl rfl rfl rfl rfl ?_
   intro _ L161
   refine Ye L161 rfl rfl rfl rfl rfl ?_
   intro _ L162
   refine sof L162 rfl fun _ L163 => so L163 rfl (Zj L163 rfl rfl fun _ L164 => ?_)
   have L165 := (L164.kp [0, 2, 3, 25] rfl); clear L164
   refine sn (Zp L165 rfl rfl (wp_seq (Za ?_)))
   have h5 : Na S zN1 (0) (0) := Na.zero _ _
   exact so L165 rfl (ZC (cs := zN1) L165 ZO XD .nil (by rfl) fun _ L166 => Zs L166 rfl rfl (Zi L166 rfl rfl R1 Zk h5.len rfl h5.ones fun _ R23 _ L167 => sa L167 rfl fun _ L168 => sn (wp_ret ((Zy (Zo (rs := Tryz.f97.results.toList) L168 rfl (Res.aggW rfl ZE Zk (R23.has (List.Mem.head _)) h5.len (.tmp rfl Res.nil)) (⟨_, _, rfl, R23.ext, (Or.inl ⟨by first | exact Qd (by assumption) | exact XK (by omega) (by omega), ⟨_, rfl, (h5.to rfl (by omega))⟩⟩)⟩)))))))
  ·refine so L153 rfl (bF t9 (fun _ => Xz L153 rfl rfl) fun _ L169 => sm L169 rfl fun _ L170 => son L170 rfl (Zh L170 rfl fun _ L171 => son L171 rfl (YY L171 rfl Tryz.underlying9 fun _ L172 => ?_)))
   by_cases t10 : (1 : Int) < ((s.size : Nat) : Int)
   ·refine son L172 rfl (bT t10 (fun _ => ZS L172 rfl rfl) fun _ L173 => son L173 rfl (Zh L173 rfl fun _ L174 => son L174 rfl (Zh L174 rfl fun _ L175 => son L175 rfl (XH (j := 0) L175 rfl rfl Tryz.underlying9 (by omega) (by omega) fun _ L176 => ?_))))
    by_cases t11 : (((bl s).getD (0) 0 : Nat) : Int) = (48 : Int)
    ·refine son L176 rfl (bT t11 (fun _ => ZZ L176 rfl rfl) fun _ L177 => son L177 rfl (Zj L177 rfl rfl fun _ L178 => so L178 rfl (Zj L178 rfl rfl fun _ L179 => ?_)))
     have L180 := (L179.kp [0, 2, 3, 25] rfl); clear L179
     refine sn (Zp L180 rfl rfl (wp_seq (Za ?_)))
     have h6 : Na S zN1 (0) (0) := Na.zero _ _
     exact so L180 rfl (ZC (cs := zN1) L180 ZO XD .nil (by rfl) fun _ L181 => Zs L181 rfl rfl (Zi L181 rfl rfl R1 Zk h6.len rfl h6.ones fun _ R24 _ L182 => sa L182 rfl fun _ L183 => sn (wp_ret ((Zy (Zo (rs := Tryz.f97.results.toList) L183 rfl (Res.aggW rfl ZE Zk (R24.has (List.Mem.head _)) h6.len (.tmp rfl Res.nil)) (⟨_, _, rfl, R24.ext, (Or.inl ⟨by first | exact Qd (by assumption) | exact XK (by omega) (by omega), ⟨_, rfl, (h6.to rfl (by omega))⟩⟩)⟩)))))))
    ·refine son L176 rfl (bF t11 (fun _ => ZZ L176 rfl rfl) fun _ L184 => son L184 rfl (Zj L184 rfl rfl fun _ L185 => so L185 rfl (Zj L185 rfl rfl fun _ L186 => ?_)))
     have L187 := (L186.kp [0, 2, 3, 25] rfl); clear L186
     exact sn (Zm L187 rfl rfl (wp_skip ((Zc (⟨S, Sh.le.refl _, (L187.kp [3, 2, 0] rfl), R1, (by exact QD (by assumption)), (by have q := YZ s; have q2 := QD (by assumption); omega)⟩)))))
   ·refine son L172 rfl (bF t10 (fun _ => ZS L172 rfl rfl) fun _ L188 => son L188 rfl (Zh L188 rfl fun _ L189 => sof L189 rfl fun _ L190 => sof L190 rfl fun _ L191 => sof L191 rfl fun _ L192 => son L192 rfl (Zj L192 rfl rfl fun _ L193 => so L193 rfl (Zj L193 rfl rfl fun _ L194 => ?_))))
    have L195 := (L194.kp [0, 2, 3, 25] rfl); clear L194
    exact sn (Zm L195 rfl rfl (wp_skip ((Zc (⟨S, Sh.le.refl _, (L195.kp [3, 2, 0] rfl), R1, (by exact QD (by assumption)), (by have q := YZ s; have q2 := QD (by assumption); omega)⟩)))))
end Go.Cham
namespace Go.Cham
open Go Go.RowKit Go.Proofs
theorem Zaq : aggT Tryz.prog 4 = some false := by kernel_rfl
theorem XI : aggT Tryz.prog 34 = some true := by kernel_rfl
theorem Yt : Yu Tryz.prog 34 = some 3 := by kernel_rfl
theorem Qb : QH Tryz.prog 34 = some (.agg ([(.bool false), (.int .u64 (0 : Int)), (.slice none 0 0)] : List Value).toArray) := by kernel_rfl
theorem Yc : QY Tryz.prog 34 0 = some (0, 4, 1) := by kernel_rfl
theorem Yi : QY Tryz.prog 34 1 = some (1, 32, 2) := by kernel_rfl
theorem sok_34 : Zci Tryz.prog 34 = true := by kernel_rfl
theorem ent_76 : ZW Tryz.prog 76 = true := by kernel_rfl
theorem ent_80 : ZW Tryz.prog 80 = true := by kernel_rfl
theorem Zen : ZW Tryz.prog 82 = true := by kernel_rfl
theorem ent_85 : ZW Tryz.prog 85 = true := by kernel_rfl
theorem ent_89 : ZW Tryz.prog 89 = true := by kernel_rfl
theorem ent_118 : ZW Tryz.prog 118 = true := by kernel_rfl
theorem ent_137 : ZW Tryz.prog 137 = true := by kernel_rfl
theorem ent_145 : ZW Tryz.prog 145 = true := by kernel_rfl
end Go.Cham
