/- YtojbflghmjfbpaaGreatDoorB3, a part of the proof that the claim's law answers true for every input, made small by program from the texts of this repo's wip/. No condition beyond those that the statements bear. -/
import Derived.Test.YtojbflghmjfbpaaGreatDoorB2
import Derived.Laws.BytesString
import Derived.Test.YtojbflghmjfbpaaGreatDoorProg
import Derived.KernelRfl
namespace Go.Cham
open Go Go.RowKit Go.Proofs
set_option maxRecDepth 20000 in
theorem nat_long {S : Sh} {w : World} (hS : Yw S w) {p_da : Option Addr} {len_da cap_da : Nat} {da : List Nat} (hd_da : Dg S p_da len_da cap_da da) {p_db : Option Addr} {len_db cap_db : Nat} {db : List Nat} (hd_db : Dg S p_db len_db cap_db db) {kb : Nat} (h2 : 2 ≤ len_db) (hn : db.getD (len_db - 1) 0 ≠ 0) (hba : len_db ≤ len_da) (hla : len_da ≤ 34359738368) (hk : val W64 da ≤ 2 ^ kb) : Calls Tryz.prog 136 [(.slice p_da len_da cap_da), (.slice p_db len_db cap_db)].toArray w (Ret S w (fun S v => ∃ (c0 : List Value) (c1 : List Value), v = .tuple [.agg c0.toArray, .agg c1.toArray].toArray ∧ Na S c0 (val W64 da / val W64 db) (kb) ∧ Na S c1 (val W64 da % val W64 db) (kb))) := by
 refine ZT (n := 100) Tryz.func136 rfl rfl ?_
 intro ac0 L0
 replace L0 : Zz ac0 100 [(0, (.slice p_da len_da cap_da)), (1, (.slice p_db len_db cap_db))] := L0
 have R0 : Run S w S [] w := .start hS
 have hl_db := hd_db.hlen; have hc_db := hd_db.hcap; have hg_db := hd_db.hbig
 have hl_da := hd_da.hlen; have hc_da := hd_da.hcap; have hg_da := hd_da.hbig
 refine wp_seq (Za (so L0 rfl (ZM (cs := zN1) ZN R0 rfl ?_)))
 intro b1 _ R1 _ L1
 refine so L1 rfl (ZM (cs := zN1) ZN R1 rfl fun b2 _ R2 _ L2 => (sn ?_))
 refine XG (fun ac ww => ∃ (S' : Sh) (s : Nat), S.le S' ∧ Zz ac 100 [(0, (.slice p_da len_da cap_da)), (1, (.slice p_db len_db cap_db)), (4, (.pointer (some ⟨b1, 0, none⟩))), (5, (.pointer (some ⟨b2, 0, none⟩))), (6, (.int .i64 ((len_db : Nat) : Int))), (7, (.int .i64 ((s : Nat) : Int)))] ∧ Run S w S' [(b2, 32, zN1), (b1, 32, zN1)] ww ∧ (s < 64) ∧ (db.getD (len_db - 1) 0 * 2 ^ s < 18446744073709551616)) ?_ ?_
 ·rintro ac1 _ ⟨_, s, l1, L3, R3, hs, htop⟩
  refine wp_seq (Za (so L3 rfl (Zb L3 rfl ?_)))
  intro _ L4
  refine so L4 rfl (Zb L4 rfl fun _ L5 => (so L5 rfl (Zb L5 rfl fun _ L6 => (so L6 rfl (Xz L6 rfl ent_163 (nat_up R3.holds (n := s) (sz := len_db)   (hd_db.up l1) (hs) (by omega) (by omega)) ?_)))))
  rintro _ _ ⟨v1, _, _, rfl, R4, b3, ds1, rfl, rfl, ho1, ho2, ho3⟩
  refine ⟨_, rfl, ?_⟩
  have R5 := R3.callN R4; have l2 := R4.ext.le
  have hvlen := ho1; have hvlt0 := ho2; have hvsum := ho3
  intro _ L7
  refine so L7 rfl (Zc L7 rfl fun _ L8 => ?_)
  have L9 := (L8.kp [0, 4, 5, 6, 7, 8] rfl); clear L8
  refine sn (wp_seq ?_)
  obtain ⟨S3, l3, r1, R6⟩ := (R5).freeze
  have hd_1 : Dg S3 (some ⟨b3, 0, none⟩) len_db len_db ds1 := ⟨by first | rfl | omega, by omega, by omega, hvlt0, fun _ => ⟨_, _, rfl, r1⟩⟩
  have hv0 : W64 ^ len_db * cr db s len_db = 0 := by rw [cr_top hs htop]; exact Nat.mul_zero _
  have hvv : val W64 ds1 = val W64 db * 2 ^ s := by rw [← hvsum, hv0]; rfl
  refine Za (so L9 rfl (Zb L9 rfl ?_))
  intro _ L10
  refine so L10 rfl (Zb L10 rfl fun _ L11 => (so L11 rfl (Zb L11 rfl fun _ L12 => (so L12 rfl (ZO L12 rfl Tryz.underlying30 fun _ L13 => (so L13 rfl (ZK (z := (((len_da : Nat) : Int) + (1 : Int))) L13 rfl rfl (IntWalk.i64_in _ (by omega)) fun _ L14 => (so L14 rfl (Xz L14 rfl ent_163 (nat_up R6.holds (n := s) (sz := (len_da + 1))   (hd_da.up (l1.trans (l2.trans l3))) (hs) (by omega) (by omega)) ?_)))))))))
  rintro _ _ ⟨v2, S4, _, rfl, R7, b4, ds2, rfl, rfl, ho4, ho5, ho6⟩
  refine ⟨_, rfl, ?_⟩
  have R8 := R6.callN R7; have l4 := R7.ext.le
  have hulen := ho4; have hult := ho5; have husum := ho6
  intro _ L15
  refine so L15 rfl (Zc L15 rfl fun _ L16 => ?_)
  have L17 := (L16.kp [4, 5, 6, 7, 8, 9] rfl); clear L16
  refine sn ?_
  refine XG (fun ac ww => ∃ (S' : Sh) (mm : Nat), S4.le S' ∧ Zz ac 100 [(4, (.pointer (some ⟨b1, 0, none⟩))), (5, (.pointer (some ⟨b2, 0, none⟩))), (6, (.int .i64 ((len_db : Nat) : Int))), (7, (.int .i64 ((s : Nat) : Int))), (8, (.slice (some ⟨b3, 0, none⟩) len_db len_db)), (9, (.slice (some ⟨b4, 0, none⟩) (len_da + 1) (len_da + 1))), (10, (.int .i64 ((mm : Nat) : Int)))] ∧ Run S w S' [(b4, 29, (Yl ds2 ++ [])), (b2, 32, zN1), (b1, 32, zN1)] ww ∧ (mm + len_db = len_da + 1)) ?_ ?_
  ·rintro ac2 _ ⟨S5, mm, l5, L18, R9, hmm⟩
   have hu0 : W64 ^ (len_da + 1) * cr da s (len_da + 1) = 0 := by (have e : cr da s (len_da + 1) = 0 := by (unfold cr; rw [if_neg (by omega), Zbc (by omega)]; exact Nat.zero_div _)); rw [e]; exact Nat.mul_zero _
   have huu : val W64 ds2 = val W64 da * 2 ^ s := by rw [← husum, hu0]; rfl
   refine wp_seq (Za (so L18 rfl (Zb L18 rfl ?_)))
   intro _ L19
   refine so L19 rfl (YV (m := mm) (c := mm) L19 (by first | rfl | (simp [ev, QC]; omega)) (by first | rfl | (simp [ev, QC]; omega)) Tryz.underlying30 Xv rfl ZB XY (by omega) (by omega) (by omega) R9 fun b5 _ R10 _ L20 => ?_)
   rw [Zat] at R10
   refine so L20 rfl (Zc L20 rfl fun _ L21 => (sn (wp_seq (wp_seq (Za (so L21 rfl (Zb L21 rfl fun _ L22 => (so L22 rfl (ZS (z := (((mm : Nat) : Int) - (1 : Int))) L22 rfl rfl (IntWalk.i64_in _ (by omega)) fun _ L23 => (so L23 rfl (Zc L23 rfl fun _ L24 => ?_)))))))))))
   have L25 := (L24.kp [4, 5, 6, 7, 8, 9, 11, 12] rfl); clear L24
   refine sn (wp_block ?_)
   obtain ⟨hst, hVn, hvtop⟩ := long_start hs hl_da hl_db h2 hba hd_da.hlt hn hvv hvlen (hd_1.up (l4.trans l5)).hlt huu hulen hult hmm
   have hvlt := (hd_1.up (l4.trans l5)).hlt
   obtain ⟨vl, hVe, hvl⟩ := top2 hvlen h2 hvlt
   refine ZZ (fun m ac ww => ∃ (S' : Sh) (us : List Nat) (os : List Nat) (kk : Nat), S5.le S' ∧ Zz ac 100 [(4, (.pointer (some ⟨b1, 0, none⟩))), (5, (.pointer (some ⟨b2, 0, none⟩))), (6, (.int .i64 ((len_db : Nat) : Int))), (7, (.int .i64 ((s : Nat) : Int))), (8, (.slice (some ⟨b3, 0, none⟩) len_db len_db)), (9, (.slice (some ⟨b4, 0, none⟩) (len_da + 1) (len_da + 1))), (11, (.slice (some ⟨b5, 0, none⟩) (mm) (mm))), (12, (.int .i64 (((kk : Nat) : Int) - (1 : Int))))] ∧ Run S w S' [(b5, 29, (Yl os ++ [])), (b4, 29, (Yl us ++ [])), (b2, 32, zN1), (b1, 32, zN1)] ww ∧ (XQ (val W64 ds1) ds2 us os len_db kk) ∧ (os.length = mm) ∧ m = kk)
    (mm) ⟨S5, ds2, (List.replicate (mm) 0), mm, Sh.le.refl _, (L25.kp [12, 11, 9, 8, 7, 6, 5, 4] rfl), (Qr (Qr (Qr (Qr R10)))), (by exact hst), (by simp), rfl⟩ ?_
   rintro m_1 ac3 _ ⟨_, us, os, kk, l6, L26, R11, hI, hol, m1⟩
   refine wp_seq (wp_seq (Za (so L26 rfl (Zb L26 rfl ?_))))
   intro _ L27
   by_cases t1 : (0 : Int) ≤ (((kk : Nat) : Int) - (1 : Int))
   ·refine so L27 rfl (Zf (b := true) (decide_eq_true t1) (fun _ k_ => YA L27 rfl rfl k_) fun _ L28 => (sn (Zs L28 rfl rfl (wp_skip ((Ze (wp_seq (wp_block (wp_seq ?_)))))))))
    have hle0 := hI.le; have hlo0 := hI.lo; have hlu0 := hI.lu
    refine Za (so L28 rfl (Zb L28 rfl ?_))
    intro _ L29
    refine so L29 rfl (Zb L29 rfl fun _ L30 => (so L30 rfl (Zb L30 rfl fun _ L31 => (so L31 rfl (Zb L31 rfl fun _ L32 => (so L32 rfl (ZK (z := ((((kk : Nat) : Int) - (1 : Int)) + ((len_db : Nat) : Int))) L32 rfl rfl (IntWalk.i64_in _ (by omega)) fun _ L33 => (so L33 rfl (ZK (z := (((((kk : Nat) : Int) - (1 : Int)) + ((len_db : Nat) : Int)) + (1 : Int))) L33 rfl rfl (IntWalk.i64_in _ (by omega)) fun _ L34 => (so L34 rfl (Zb L34 rfl fun _ L35 => (so L35 rfl (Zb L35 rfl fun _ L36 => ?_)))))))))))))
    refine so L36 rfl (ZK (z := ((((kk : Nat) : Int) - (1 : Int)) + ((len_db : Nat) : Int))) L36 rfl rfl (IntWalk.i64_in _ (by omega)) fun _ L37 => (so L37 rfl (ZK (z := (((((kk : Nat) : Int) - (1 : Int)) + ((len_db : Nat) : Int)) + (1 : Int))) L37 rfl rfl (IntWalk.i64_in _ (by omega)) fun _ L38 => (so L38 rfl (does_sliceFull (h := (kk - 1)) (i := (((kk - 1) + len_db) + 1)) (off' := ((kk - 1))) (len' := (len_db + 1)) L38 rfl rfl rfl rfl Tryz.underlying30 ZB (by omega) (by omega) (by omega) (by omega) (by omega) (by omega) (by omega) fun _ L39 => (so L39 rfl (Zc L39 rfl fun _ L40 => (sn (wp_seq ?_)))))))))
    have hlo := hI.lo; have hle := hI.le; have hlu := hI.lu
    obtain ⟨P, low, pl, hT⟩ := hI.top (by omega) h2 hVn
    have hxv := knuth_x hT.eP hVe hvl (ZR hvlt (by decide) _) hT.hP
    have hN : val W64 us < W64 ^ ((kk - 1) + (len_db + 1)) := by (have q := pow_V hVn hI.bd; rwa [show kk + len_db = (kk - 1) + (len_db + 1) by omega] at q)
    have L41 := (L40.kp [4, 5, 6, 7, 8, 9, 11, 12, 42, 43, 46, 47, 48, 49, 50, 51, 52, 53, 54, 55, 56, 13] rfl)
    refine Zy (E0 := []) (H0 := [(b5, 29, (Yl os ++ [])), (b4, 29, (Yl us ++ [])), (b2, 32, zN1), (b1, 32, zN1)]) (n := 100) mixed 24 [] (fun k =>  0) (Zaf [
      .is (.slice (some ⟨b4, ((kk - 1)), none⟩) (len_db + 1) (len_db + 1)),
      .is (.int .i64 ((len_db : Nat) : Int)),
      .is (.pointer (some ⟨b4, (((kk - 1)) + (len_db)), none⟩)),
      .is (.int .u64 ((us.getD (((kk - 1)) + (len_db)) 0 : Nat) : Int)),
      .is (.slice (some ⟨b4, ((kk - 1)), none⟩) (len_db + 1) (len_db + 1)),
      .is (.int .i64 ((len_db : Nat) : Int)),
      .is (.int .i64 (((len_db : Nat) : Int) - (1 : Int))),
      .is (.pointer (some ⟨b4, (((kk - 1)) + ((len_db - 1))), none⟩)),
      .is (.int .u64 ((us.getD (((kk - 1)) + ((len_db - 1))) 0 : Nat) : Int)),
      .is (.slice (some ⟨b4, ((kk - 1)), none⟩) (len_db + 1) (len_db + 1)),
      .is (.int .i64 ((len_db : Nat) : Int)),
      .is (.int .i64 (((len_db : Nat) : Int) - (2 : Int))),
      .is (.pointer (some ⟨b4, (((kk - 1)) + ((len_db - 2))), none⟩)),
      .is (.int .u64 ((us.getD (((kk - 1)) + ((len_db - 2))) 0 : Nat) : Int)),
      .is (.slice (some ⟨b3, 0, none⟩) len_db len_db),
      .is (.int .i64 ((len_db : Nat) : Int)),
      .is (.int .i64 (((len_db : Nat) : Int) - (1 : Int))),
      .is (.pointer (some ⟨b3, (0 + ((len_db - 1))), none⟩)),
      .is (.int .u64 ((ds1.getD ((len_db - 1)) 0 : Nat) : Int)),
      .is (.slice (some ⟨b3, 0, none⟩) len_db len_db),
      .is (.int .i64 ((len_db : Nat) : Int)),
      .is (.int .i64 (((len_db : Nat) : Int) - (2 : Int))),
      .is (.pointer (some ⟨b3, (0 + ((len_db - 2))), none⟩)),
      .is (.int .u64 ((ds1.getD ((len_db - 2)) 0 : Nat) : Int))]) L41 R11 (by simp) (by simp) (by rfl) (by rfl) (by simp) (ZU ?_) ?_
    ·refine (And.intro ?_ (And.intro ?_ (And.intro ?_ (And.intro ?_ (And.intro ?_ (And.intro ?_ (And.intro ?_ (And.intro ?_ (And.intro ?_ (And.intro ?_ (And.intro ?_ (And.intro ?_ (And.intro ?_ (And.intro ?_ (And.intro ?_ (And.intro ?_ (And.intro ?_ (And.intro ?_ (And.intro ?_ (And.intro ?_ (And.intro ?_ (And.intro ?_ (And.intro ?_ (And.intro ?_ trivial))))))))))))))))))))))))
     ·exact Zd rfl (fun _ _ _ _ _ A1 => (Zb A1.live rfl (A1.same  rfl)))
     ·exact Zd rfl (fun _ _ _ _ _ A2 => (Zb A2.live rfl (A2.same  rfl)))
     ·refine Zd rfl (fun _ _ _ _ _ A3 => ?_)
      obtain ⟨_, e1, rfl⟩ := A3.known 0 rfl
      obtain ⟨_, e2, rfl⟩ := A3.known 1 rfl
      exact Zu (len_db) ((A3.live.add e1).add e2) rfl rfl Tryz.underlying30 ZB (by omega) (by omega) (A3.same  rfl)
     ·refine Zd rfl (fun _ _ _ _ _ A4 => ?_)
      obtain ⟨_, e3, rfl⟩ := A4.known 2 rfl
      exact Zl (v := (.int .u64 ((us.getD (((kk - 1)) + (len_db)) 0 : Nat) : Int))) (A4.live.add e3) rfl Yi (A4.run.has (List.mem_append_right _ (List.Mem.tail _ (List.Mem.head _)))) (ZW (by omega)) (A4.same  rfl)
     ·exact Zd rfl (fun _ _ _ _ _ A5 => (Zb A5.live rfl (A5.same  rfl)))
     ·exact Zd rfl (fun _ _ _ _ _ A6 => (Zb A6.live rfl (A6.same  rfl)))
     ·refine Zd rfl (fun _ _ _ _ _ A7 => ?_)
      obtain ⟨_, e4, rfl⟩ := A7.known 5 rfl
      exact ZS (z := (((len_db : Nat) : Int) - (1 : Int))) (A7.live.add e4) rfl rfl (IntWalk.i64_in _ (by omega)) (A7.same  rfl)
     ·refine Zd rfl (fun _ _ _ _ _ A8 => ?_)
      obtain ⟨_, e5, rfl⟩ := A8.known 4 rfl
      obtain ⟨_, e6, rfl⟩ := A8.known 6 rfl
      exact Zu ((len_db - 1)) ((A8.live.add e5).add e6) rfl rfl Tryz.underlying30 ZB (by omega) (by omega) (A8.same  rfl)
     ·refine Zd rfl (fun _ _ _ _ _ A9 => ?_)
      obtain ⟨_, e7, rfl⟩ := A9.known 7 rfl
      exact Zl (v := (.int .u64 ((us.getD (((kk - 1)) + ((len_db - 1))) 0 : Nat) : Int))) (A9.live.add e7) rfl Yi (A9.run.has (List.mem_append_right _ (List.Mem.tail _ (List.Mem.head _)))) (ZW (by omega)) (A9.same  rfl)
     ·exact Zd rfl (fun _ _ _ _ _ A10 => (Zb A10.live rfl (A10.same  rfl)))
     ·exact Zd rfl (fun _ _ _ _ _ A11 => (Zb A11.live rfl (A11.same  rfl)))
     ·refine Zd rfl (fun _ _ _ _ _ A12 => ?_)
      obtain ⟨_, e8, rfl⟩ := A12.known 10 rfl
      exact ZS (z := (((len_db : Nat) : Int) - (2 : Int))) (A12.live.add e8) rfl rfl (IntWalk.i64_in _ (by omega)) (A12.same  rfl)
     ·refine Zd rfl (fun _ _ _ _ _ A13 => ?_)
      obtain ⟨_, e9, rfl⟩ := A13.known 9 rfl
      obtain ⟨_, e10, rfl⟩ := A13.known 11 rfl
      exact Zu ((len_db - 2)) ((A13.live.add e9).add e10) rfl rfl Tryz.underlying30 ZB (by omega) (by omega) (A13.same  rfl)
     ·refine Zd rfl (fun _ _ _ _ _ A14 => ?_)
      obtain ⟨_, e11, rfl⟩ := A14.known 12 rfl
      exact Zl (v := (.int .u64 ((us.getD (((kk - 1)) + ((len_db - 2))) 0 : Nat) : Int))) (A14.live.add e11) rfl Yi (A14.run.has (List.mem_append_right _ (List.Mem.tail _ (List.Mem.head _)))) (ZW (by omega)) (A14.same  rfl)
     ·exact Zd rfl (fun _ _ _ _ _ A15 => (Zb A15.live rfl (A15.same  rfl)))
     ·exact Zd rfl (fun _ _ _ _ _ A16 => (Zb A16.live rfl (A16.same  rfl)))
     ·refine Zd rfl (fun _ _ _ _ _ A17 => ?_)
      obtain ⟨_, e12, rfl⟩ := A17.known 15 rfl
      exact ZS (z := (((len_db : Nat) : Int) - (1 : Int))) (A17.live.add e12) rfl rfl (IntWalk.i64_in _ (by omega)) (A17.same  rfl)
     ·refine Zd rfl (fun _ _ _ _ _ A18 => ?_)
      obtain ⟨_, e13, rfl⟩ := A18.known 14 rfl
      obtain ⟨_, e14, rfl⟩ := A18.known 16 rfl
      exact Zu ((len_db - 1)) ((A18.live.add e13).add e14) rfl rfl Tryz.underlying30 ZB (by omega) (by omega) (A18.same  rfl)
     ·refine Zd rfl (fun _ _ _ _ _ A19 => ?_)
      obtain ⟨_, e15, rfl⟩ := A19.known 17 rfl
      exact Zl (v := (.int .u64 ((ds1.getD ((len_db - 1)) 0 : Nat) : Int))) (A19.live.add e15) rfl Yi (A19.run.row (r1.up (l4.trans (l5.trans (l6.trans A19.le))))) (by rw [Nat.zero_add]; exact ZW (by omega)) (A19.same  rfl)
     ·exact Zd rfl (fun _ _ _ _ _ A20 => (Zb A20.live rfl (A20.same  rfl)))
     ·exact Zd rfl (fun _ _ _ _ _ A21 => (Zb A21.live rfl (A21.same  rfl)))
     ·refine Zd rfl (fun _ _ _ _ _ A22 => ?_)
      obtain ⟨_, e16, rfl⟩ := A22.known 20 rfl
      exact ZS (z := (((len_db : Nat) : Int) - (2 : Int))) (A22.live.add e16) rfl rfl (IntWalk.i64_in _ (by omega)) (A22.same  rfl)
     ·refine Zd rfl (fun _ _ _ _ _ A23 => ?_)
      obtain ⟨_, e17, rfl⟩ := A23.known 19 rfl
      obtain ⟨_, e18, rfl⟩ := A23.known 21 rfl
      exact Zu ((len_db - 2)) ((A23.live.add e17).add e18) rfl rfl Tryz.underlying30 ZB (by omega) (by omega) (A23.same  rfl)
     ·refine Zd rfl (fun _ _ _ _ _ A24 => ?_)
      obtain ⟨_, e19, rfl⟩ := A24.known 22 rfl
      exact Zl (v := (.int .u64 ((ds1.getD ((len_db - 2)) 0 : Nat) : Int))) (A24.live.add e19) rfl Yi (A24.run.row (r1.up (l4.trans (l5.trans (l6.trans A24.le))))) (by rw [Nat.zero_add]; exact ZW (by omega)) (A24.same  rfl)
    ·intro S31 _ _ w33 l7 E1 R12 n1 L66 K1
     obtain ⟨_, e20, rfl⟩ := K1 0 (by decide)
     have L67 := L66.add e20; clear L66
     obtain ⟨_, e21, rfl⟩ := K1 1 (by decide)
     have L68 := L67.add e21; clear L67
     obtain ⟨_, e22, rfl⟩ := K1 2 (by decide)
     have L69 := L68.add e22; clear L68
     obtain ⟨_, e23, rfl⟩ := K1 3 (by decide)
     have L70 := L69.add e23; clear L69
     obtain ⟨_, e24, rfl⟩ := K1 4 (by decide)
     have L71 := L70.add e24; clear L70
     obtain ⟨_, e25, rfl⟩ := K1 5 (by decide)
     have L72 := L71.add e25; clear L71
     obtain ⟨_, e26, rfl⟩ := K1 6 (by decide)
     have L73 := L72.add e26; clear L72
     obtain ⟨_, e27, rfl⟩ := K1 7 (by decide)
     have L74 := L73.add e27; clear L73
     obtain ⟨_, e28, rfl⟩ := K1 8 (by decide)
     have L75 := L74.add e28; clear L74
     obtain ⟨_, e29, rfl⟩ := K1 9 (by decide)
     have L76 := L75.add e29; clear L75
     obtain ⟨_, e30, rfl⟩ := K1 10 (by decide)
     have L77 := L76.add e30; clear L76
     obtain ⟨_, e31, rfl⟩ := K1 11 (by decide)
     have L78 := L77.add e31; clear L77
     obtain ⟨_, e32, rfl⟩ := K1 12 (by decide)
     have L79 := L78.add e32; clear L78
     obtain ⟨_, e33, rfl⟩ := K1 13 (by decide)
     have L80 := L79.add e33; clear L79
     obtain ⟨_, e34, rfl⟩ := K1 14 (by decide)
     have L81 := L80.add e34; clear L80
     obtain ⟨_, e35, rfl⟩ := K1 15 (by decide)
     have L82 := L81.add e35; clear L81
     obtain ⟨_, e36, rfl⟩ := K1 16 (by decide)
     have L83 := L82.add e36; clear L82
     obtain ⟨_, e37, rfl⟩ := K1 17 (by decide)
     have L84 := L83.add e37; clear L83
     obtain ⟨_, e38, rfl⟩ := K1 18 (by decide)
     have L85 := L84.add e38; clear L84
     obtain ⟨_, e39, rfl⟩ := K1 19 (by decide)
     have L86 := L85.add e39; clear L85
     obtain ⟨_, e40, rfl⟩ := K1 20 (by decide)
     have L87 := L86.add e40; clear L86
     obtain ⟨_, e41, rfl⟩ := K1 21 (by decide)
     have L88 := L87.add e41; clear L87
     obtain ⟨_, e42, rfl⟩ := K1 22 (by decide)
     have L89 := L88.add e42; clear L88
     obtain ⟨_, e43, rfl⟩ := K1 23 (by decide)
     have L90 := L89.add e43; clear L89
     have R13 : Run _ _ S31 [(b5, 29, (Yl os ++ [])), (b4, 29, (Yl us ++ [])), (b2, 32, zN1), (b1, 32, zN1)] w33 := Yc R12 n1 [] (by simp) (by simp)
     refine so L90 rfl (Zp L90 rfl ent_164 (nat_guess R13.holds (x := (us.getD (((kk - 1)) + (len_db)) 0)) (y := (us.getD (((kk - 1)) + ((len_db - 1))) 0)) (z := (us.getD (((kk - 1)) + ((len_db - 2))) 0)) (vh := (ds1.getD ((len_db - 1)) 0)) (wl := (ds1.getD ((len_db - 2)) 0))    (hxv) (hvtop) (ZR hvlt (by decide) _) (ZR hI.ltu (by decide) _) (ZR hI.ltu (by decide) _) (ZR hvlt (by decide) _)) fun v_3 _ _ x3 v3 => ?_)
     have R14 := R13.call x3; have l8 := x3.le
     obtain ⟨g1, rfl, hg_1, hg2, hg_3⟩ := v3
     intro _ L91
     refine so L91 rfl (Zc L91 rfl fun _ L92 => (sn (wp_seq (wp_seq ?_))))
     obtain ⟨hgl, hg1, hg3⟩ := guess_or hg_1 hg2 hg_3
     refine Za (so L92 rfl (Zb L92 rfl ?_))
     intro _ L93
     refine so L93 rfl (Zb L93 rfl fun _ L94 => (so L94 rfl (Zb L94 rfl fun _ L95 => (so L95 rfl (Xz L95 rfl ent_165 (nat_away (d := g1)   (hd_1.up (l4.trans (l5.trans (l6.trans (l7.trans l8))))) (by exact (ZX R14)) (hI.ltu) (by omega) (by omega) (hgl) (by omega)) ?_)))))
     rintro _ _ ⟨v_4, S33, ds3, rfl, l9, R15, v4⟩
     refine ⟨v_4, rfl, ?_⟩
     obtain ⟨bw1, rfl, ho7, ho8, ho9, ho10, ho11⟩ := v4
     have hl1 := ho7; have ht1 := ho8; have hbw := ho9
     obtain ⟨hkn1, hkn2⟩ := knuth hT.eP hT.hpl hVe hvl (K := 18446744073709551616) (by omega) hT.hP hgl hg1 hg3
     have hw0 : bw1 = 0 → val W64 us = val W64 ds3 + W64 ^ (kk - 1) * (val W64 ds1 * g1) ∧ val W64 ds3 < W64 ^ (kk - 1) * val W64 ds1 := fun e => by (have q := ho10; rw [e] at q; exact long0 hT.e hT.hlow q hkn1)
     have hw1 : bw1 = 1 → val W64 ds3 + W64 ^ (kk - 1) * (val W64 ds1 * g1) = val W64 us + W64 ^ ((kk - 1) + (len_db + 1)) := fun e => by (have q := ho10; rw [e, Nat.mul_one] at q; exact q)
     have hwt : val W64 ds3 < W64 ^ ((kk - 1) + (len_db + 1)) := top_lt' hN ho7 (by omega) (fun j hj => ho11 j (Or.inr hj)) ho8
     by_cases hbo : bw1 ≠ 0
     ·rw [decide_eq_true hbo]
      intro _ L96
      refine sn (Zs L96 rfl rfl (wp_seq ?_))
      have hwe := hw1 (by omega)
      have hgp := long_pos hwe hwt
      refine Za (so L96 rfl (Zb L96 rfl ?_))
      intro _ L97
      refine so L97 rfl (ZS (z := ((g1 - 1 : Nat) : Int)) L97 rfl rfl (u64_to (by omega) (by omega)) fun _ L98 => (so L98 rfl (Zc L98 rfl fun _ L99 => (sn (Za (so L99 rfl (Zb L99 rfl fun _ L100 => (so L100 rfl (Zb L100 rfl fun _ L101 => (so L101 rfl (Xz L101 rfl ent_166 (nat_back    (hd_1.up (l4.trans (l5.trans (l6.trans (l7.trans (l8.trans l9)))))) (by exact R15) (ht1) (by omega) (by omega) (by omega)) ?_)))))))))))
      rintro _ _ ⟨v_5, S34, ds4, rfl, l10, R16, v5⟩
      refine ⟨v_5, rfl, ?_⟩
      obtain ⟨cy1, rfl, ho12, ho13, ho14, ho15, ho16⟩ := v5
      have hwt2 : val W64 ds4 < W64 ^ ((kk - 1) + (len_db + 1)) := top_lt' hwt ho12 (by omega) (fun j hj => ho16 j (Or.inr hj)) ho13
      obtain ⟨_, hS_e, hS_b⟩ := long1 hT.e hwe hwt hkn2 ho15 hwt2 ho14
      have hl_u := ho12.trans hl1; have ht_u := ho13; have hdg : g1 - 1 < 18446744073709551616 := by omega
      intro _ L102
      refine sn (Za (so L102 rfl (Zb L102 rfl ?_)))
      intro _ L103
      refine so L103 rfl (Zb L103 rfl fun _ L104 => (so L104 rfl (Zb L104 rfl fun _ L105 => (so L105 rfl (Zu ((kk - 1)) L105 rfl rfl Tryz.underlying30 ZB (by omega) (by omega) fun _ L106 => (Zx L106 rfl rfl (Yh (cs' := (Yl (os.set ((kk - 1)) ((g1 - 1))) ++ [])) L106 rfl rfl (ZX R16) ZB rfl (by simp only [List.length_append, ZG]; omega) (by rw [Nat.zero_add]; exact YC (by omega)) fun _ R17 _ L107 => (Yr ((ZI (Ze (Za (so L107 rfl (Zb L107 rfl fun _ L108 => (so L108 rfl (ZS (z := ((((kk : Nat) : Int) - (1 : Int)) - (1 : Int))) L108 rfl rfl (IntWalk.i64_in _ (by omega)) fun _ L109 => ?_))))))))))))))))
      refine so L109 rfl (Zc L109 rfl fun a79 L110 => (sn ?_))
      have e44 : (((((kk : Nat) : Int) - (1 : Int)) - (1 : Int)) : Int) = ((((kk - 1) : Nat) : Int) - (1 : Int)) := by omega
      have L111 : Zz a79 100 [(12, (.int .i64 ((((kk - 1) : Nat) : Int) - (1 : Int))))] := by have q := (L110.kp [12] rfl); rw [e44] at q; exact q
      exact ⟨(kk - 1), (by omega), S34, ds4, (os.set ((kk - 1)) ((g1 - 1))), (kk - 1), (l6.trans (l7.trans (l8.trans (l9.trans l10)))), (L110.keep (L110.keep (L110.keep (L110.keep (L110.keep (L110.keep (L110.keep (L111.keep (Zz.none _ L110) (t := 12) rfl) (t := 11) rfl) (t := 9) rfl) (t := 8) rfl) (t := 7) rfl) (t := 6) rfl) (t := 5) rfl) (t := 4) rfl), (Qr (Qr (Qr (Qr R17)))), (by exact hI.next (by omega) hl_u ht_u hdg hS_e hS_b), (by rw [List.length_set]; exact hol), rfl⟩
     ·rw [decide_eq_false hbo]
      intro _ L112
      refine sn (Zn L112 rfl rfl (wp_skip ((Ze ?_))))
      obtain ⟨hS_e, hS_b⟩ := hw0 (by omega)
      have hl_u := hl1; have ht_u := ht1; have hdg := hgl
      refine Za (so L112 rfl (Zb L112 rfl ?_))
      intro _ L113
      refine so L113 rfl (Zb L113 rfl fun _ L114 => (so L114 rfl (Zb L114 rfl fun _ L115 => (so L115 rfl (Zu ((kk - 1)) L115 rfl rfl Tryz.underlying30 ZB (by omega) (by omega) fun _ L116 => (Zx L116 rfl rfl (Yh (cs' := (Yl (os.set ((kk - 1)) (g1)) ++ [])) L116 rfl rfl (ZX R15) ZB rfl (by simp only [List.length_append, ZG]; omega) (by rw [Nat.zero_add]; exact YC (by omega)) fun _ R18 _ L117 => (Yr ((ZI (Ze (Za (so L117 rfl (Zb L117 rfl fun _ L118 => (so L118 rfl (ZS (z := ((((kk : Nat) : Int) - (1 : Int)) - (1 : Int))) L118 rfl rfl (IntWalk.i64_in _ (by omega)) fun _ L119 => ?_))))))))))))))))
      refine so L119 rfl (Zc L119 rfl fun a88 L120 => (sn ?_))
      have e45 : (((((kk : Nat) : Int) - (1 : Int)) - (1 : Int)) : Int) = ((((kk - 1) : Nat) : Int) - (1 : Int)) := by omega
      have L121 : Zz a88 100 [(12, (.int .i64 ((((kk - 1) : Nat) : Int) - (1 : Int))))] := by have q := (L120.kp [12] rfl); rw [e45] at q; exact q
      exact ⟨(kk - 1), (by omega), S33, ds3, (os.set ((kk - 1)) (g1)), (kk - 1), (l6.trans (l7.trans (l8.trans l9))), (L120.keep (L120.keep (L120.keep (L120.keep (L120.keep (L120.keep (L120.keep (L121.keep (Zz.none _ L120) (t := 12) rfl) (t := 11) rfl) (t := 9) rfl) (t := 8) rfl) (t := 7) rfl) (t := 6) rfl) (t := 5) rfl) (t := 4) rfl), (Qr (Qr (Qr (Qr R18)))), (by exact hI.next (by omega) hl_u ht_u hdg hS_e hS_b), (by rw [List.length_set]; exact hol), rfl⟩
   ·refine so L27 rfl (Zf (b := false) (decide_eq_false t1) (fun _ k_ => YA L27 rfl rfl k_) fun _ L122 => (sn (Zn L122 rfl rfl (wp_exit ((ZA (ZA (YB (Ze (wp_seq ?_))))))))))
    have hlu0 := hI.lu
    obtain rfl : kk = 0 := by omega
    obtain ⟨hd1, hd2⟩ := hI.done
    obtain ⟨hq_, hr_⟩ := long_done (b := val W64 db) (by have q := val_top hl_db (by omega) hn; exact Nat.lt_of_lt_of_le (Nat.pow_pos (by decide)) q) (Nat.two_pow_pos s) huu (by rw [← hvv]; exact hd1) (by rw [← hvv]; exact hd2)
    refine Za (so L122 rfl (Zb L122 rfl ?_))
    intro _ L123
    obtain ⟨S35, l11, r2, R19⟩ := (R11).freeze
    have hd_2 : Dg S35 (some ⟨b5, 0, none⟩) (mm) (mm) os := ⟨by first | rfl | omega, by omega, by omega, hI.lto, fun _ => ⟨_, _, rfl, r2⟩⟩
    refine so L123 rfl (Zp L123 rfl QV (QS R19.holds  (k := kb)  hd_2 (by rw [hq_]; exact Nat.le_trans (Nat.div_le_self _ _) hk)) fun v_6 _ _ x6 v6 => ?_)
    have R20 := R19.call x6
    obtain ⟨cs_1, rfl, h1⟩ := v6
    intro _ L124
    refine so L124 rfl (Zb L124 rfl fun _ L125 => (so L125 rfl (Zb L125 rfl fun _ L126 => ?_)))
    obtain ⟨S37, l13, r3, R21⟩ := (R20).freeze
    have hd3 : Dg S37 (some ⟨b4, 0, none⟩) (len_da + 1) (len_da + 1) us := ⟨by first | rfl | omega, by omega, by omega, hI.ltu, fun _ => ⟨_, _, rfl, r3⟩⟩
    refine so L126 rfl (Zp L126 rfl ent_167 (nat_down R21.holds (n := s) (k := kb)  hd3 (hs) (by rw [hr_]; exact Nat.le_trans (Nat.mod_le _ _) hk) (by omega)) fun v_7 _ _ x7 v7 => ?_)
    have R22 := R21.call x7; have l14 := x7.le
    obtain ⟨c2, rfl, h_2⟩ := v7
    intro _ L127
    exact Zx L127 rfl rfl (Zi L127 rfl rfl (ZX R22) Zk h1.len rfl h1.ones fun _ R23 _ L128 => (Zx L128 rfl rfl (Zi L128 rfl rfl (ZX R23) Zk h_2.len rfl h_2.ones fun _ R24 _ L129 => (sn (wp_ret ((Zv (rs := Tryz.f136.results.toList) (L129.kp [4, 5] rfl) rfl (Res.aggW rfl ZJ Zk (R24.has (List.Mem.tail _ (List.Mem.head _))) h1.len (Res.aggW rfl ZJ Zk (R24.has (List.Mem.head _)) h_2.len Res.nil)) (⟨_, _, rfl, R24.ext, ⟨_, _, rfl, ((h1.up (l13.trans l14)).to (by exact hq_) (by omega)), (h_2.to (by exact hr_) (by omega))⟩⟩))))))))
  ·skip
   refine Za (so L17 rfl (Zb L17 rfl ?_))
   intro _ L131
   refine so L131 rfl (ZO L131 rfl Tryz.underlying30 fun _ L132 => (so L132 rfl (Zb L132 rfl fun _ L133 => (so L133 rfl (ZS (z := ((((len_da + 1) : Nat) : Int) - ((len_db : Nat) : Int))) L133 rfl rfl (IntWalk.i64_in _ (by omega)) fun _ L134 => (so L134 rfl (Zc L134 rfl fun a101 L135 => (sn ?_))))))))
   have e46 : (((((len_da + 1) : Nat) : Int) - ((len_db : Nat) : Int)) : Int) = ((((len_da + 1) - len_db) : Nat) : Int) := by omega
   have L136 : Zz a101 100 [(10, (.int .i64 ((((len_da + 1) - len_db) : Nat) : Int)))] := by have q := (L135.kp [10] rfl); rw [e46] at q; exact q
   exact ⟨S4, ((len_da + 1) - len_db), Sh.le.refl _, (L135.keep (L135.keep (L135.keep (L135.keep (L135.keep (L135.keep (L136.keep (Zz.none _ L135) (t := 10) rfl) (t := 9) rfl) (t := 8) rfl) (t := 7) rfl) (t := 6) rfl) (t := 5) rfl) (t := 4) rfl), (YH (YH (YH R8))), (by omega)⟩
 ·skip
  refine Za (so L2 rfl (Zb L2 rfl ?_))
  intro _ L137
  refine so L137 rfl (ZO L137 rfl Tryz.underlying30 fun _ L138 => (so L138 rfl (Zb L138 rfl fun _ L139 => (so L139 rfl (Zb L139 rfl fun _ L140 => (so L140 rfl (ZO L140 rfl Tryz.underlying30 fun _ L141 => (so L141 rfl (ZS (z := (((len_db : Nat) : Int) - (1 : Int))) L141 rfl rfl (IntWalk.i64_in _ (by omega)) fun _ L142 => ?_)))))))))
  obtain ⟨b6, rest_1, rfl, r4⟩ := hd_db.row (by omega)
  refine so L142 rfl (Zu ((len_db - 1)) L142 rfl rfl Tryz.underlying30 ZB (by omega) (by omega) fun _ L143 => (so L143 rfl (Zl (v := (.int .u64 ((db.getD ((len_db - 1)) 0 : Nat) : Int))) L143 rfl Yi (R2.row r4) (by rw [Nat.zero_add]; exact ZW (by omega)) fun _ L144 => (so L144 rfl (Zp L144 rfl ent_162 (XU R2.holds (x := (db.getD ((len_db - 1)) 0))    (ZR hd_db.hlt (by decide) _)) fun v_8 S39 _ x8 v8 => ?_)))))
  have R25 := R2.call x8; have l15 := x8.le
  obtain rfl := v8
  intro _ L145
  refine so L145 rfl (Zc L145 rfl fun _ L146 => (so L146 rfl (Zc L146 rfl fun a112 L147 => ?_)))
  have L148 := (L147.kp [0, 1, 4, 5, 6, 7] rfl); clear L147
  refine sn ?_
  have e47 : (((64 - ZF (db.getD ((len_db - 1)) 0) : Nat) : Int) : Int) = (((64 - ZF (db.getD ((len_db - 1)) 0)) : Nat) : Int) := by omega
  have L149 : Zz a112 100 [(7, (.int .i64 (((64 - ZF (db.getD ((len_db - 1)) 0)) : Nat) : Int)))] := by have q := (L148.kp [7] rfl); rw [e47] at q; exact q
  exact ⟨S39, (64 - ZF (db.getD ((len_db - 1)) 0)), l15, (L148.keep (L148.keep (L148.keep (L148.keep (L148.keep (L149.keep (Zz.none _ L148) (t := 7) rfl) (t := 6) rfl) (t := 5) rfl) (t := 4) rfl) (t := 1) rfl) (t := 0) rfl), (ZX (ZX R25)), (by exact (lz hn (ZR hd_db.hlt (by decide) _)).1), (by exact (lz hn (ZR hd_db.hlt (by decide) _)).2)⟩
end Go.Cham
namespace Go.Cham
open Go Go.RowKit Go.Proofs
set_option maxRecDepth 20000 in
theorem nat_Div {S : Sh} {w : World} (hS : Yw S w) {c_a : List Value} {a : Nat} {k_a : Nat} (h_a : Na S c_a (a) (k_a)) {c_b : List Value} {b : Nat} {k_b : Nat} (h_b : Na S c_b (b) (k_b)) (hlim : k_a ≤ 1099511627776) : Calls Tryz.prog 77 [(.agg (c_a : List Value).toArray), (.agg (c_b : List Value).toArray)].toArray w (Ret S w (fun S v => ((b = 0) ∧ ∃ (c0 : List Value) (c1 : List Value), v = .tuple [.agg c0.toArray, .agg c1.toArray, .int .i64 (11)].toArray ∧ Na S c0 (0) (0) ∧ Na S c1 (0) (0)) ∨ ((b ≠ 0) ∧ ∃ (c0 : List Value) (c1 : List Value), v = .tuple [.agg c0.toArray, .agg c1.toArray, .int .i64 (0)].toArray ∧ Na S c0 (a / b) (k_a) ∧ Na S c1 (a % b) (k_a)))) := by
 refine ZT (n := 63) Tryz.func77 rfl rfl ?_
 intro ac0 L0
 replace L0 : Zz ac0 63 [(0, (.agg (c_a : List Value).toArray)), (1, (.agg (c_b : List Value).toArray))] := L0
 have R0 : Run S w S [] w := .start hS
 have hbz := @QJ b; have hcmp := @cmpN_neg a b; have hla := Xc h_a.1
 refine wp_seq (Za (so L0 rfl (Yq (cs := c_a) L0 rfl R0 rfl ?_)))
 intro b1 _ _ l1 r1 R1 _ L1
 refine so L1 rfl (Yq (cs := c_b) L1 rfl R1 rfl fun b2 _ _ l2 r2 R2 _ L2 => (so L2 rfl (ZM (cs := zN1) ZN R2 rfl fun b3 _ R3 _ L3 => (so L3 rfl (ZM (cs := zN1) ZN R3 rfl fun b4 _ R4 _ L4 => (so L4 rfl (Zc L4 rfl fun _ L5 => (sn (wp_seq (wp_block (wp_seq (Za ?_))))))))))))
 refine so L5 rfl (Zt L5 rfl ZJ Zk (R4.row r2) h_b.len fun _ L6 => (so L6 rfl (Zp L6 rfl Zao (Yt R4.holds    (h_b.up (l1.trans l2)) ) fun v_1 S3 _ x1 v1 => ?_)))
 have R5 := R4.call x1; have l3 := x1.le
 obtain rfl := v1
 intro _ L7
 by_cases t1 : ((ZF b : Nat) : Int) = (0 : Int)
 ·refine so L7 rfl (Zf (b := true) (decide_eq_true t1) (fun _ k_ => ZY L7 rfl rfl k_) fun _ L8 => (so L8 rfl (Zc L8 rfl fun _ L9 => ?_)))
  have L10 := (L9.kp [2, 3, 4, 5, 6, 9] rfl); clear L9
  refine sn (Zs L10 rfl rfl (wp_seq (Za ?_)))
  have h1 : Na S3 zN1 (0) (0) := Na.zero _ _
  refine so L10 rfl (ZD (cs := zN1) L10 ZN Xf .nil (by rfl) fun _ L11 => ?_)
  have h2 : Na S3 zN1 (0) (0) := Na.zero _ _
  exact so L11 rfl (ZD (cs := zN1) L11 ZN Xf .nil (by rfl) fun _ L12 => (Zx L12 rfl rfl (Zi L12 rfl rfl (ZX R5) Zk h1.len rfl h1.ones fun _ R6 _ L13 => (Zx L13 rfl rfl (Zi L13 rfl rfl (ZX R6) Zk h2.len rfl h2.ones fun _ R7 _ L14 => (so L14 rfl (Zc L14 rfl fun _ L15 => (sn (wp_ret ((Yx (ZE (Zv (rs := Tryz.f77.results.toList) L15 rfl (Res.aggW rfl ZJ Zk (R7.has (List.Mem.tail _ (List.Mem.head _))) h1.len (Res.aggW rfl ZJ Zk (R7.has (List.Mem.head _)) h2.len (.tmp rfl Res.nil))) (⟨_, _, rfl, R7.ext, (Or.inl ⟨by omega, ⟨_, _, rfl, (h1.to rfl (by omega)), (h2.to rfl (by omega))⟩⟩)⟩))))))))))))))
 ·refine so L7 rfl (Zf (b := false) (decide_eq_false t1) (fun _ k_ => ZY L7 rfl rfl k_) fun _ L16 => (so L16 rfl (Zc L16 rfl fun _ L17 => ?_)))
  have L18 := (L17.kp [2, 3, 4, 5, 6, 9] rfl); clear L17
  refine sn (Zn L18 rfl rfl (wp_seq (Za (so L18 rfl (Zt L18 rfl ZJ Zk (R5.row (r1.up (l2.trans l3))) h_a.len ?_)))))
  intro _ L19
  refine so L19 rfl (Zt L19 rfl ZJ Zk (R5.row (r2.up l3)) h_b.len fun _ L20 => (so L20 rfl (Zp L20 rfl ent_133 (nat_Cmp R5.holds    (h_a.up (l1.trans (l2.trans l3))) (h_b.up (l1.trans (l2.trans l3))) ) fun v_2 _ _ x2 v2 => ?_)))
  have R8 := R5.call x2; have l4 := x2.le
  obtain rfl := v2
  intro _ L21
  by_cases t2 : (cmpN a b) < (0 : Int)
  ·refine so L21 rfl (Zf (b := true) (decide_eq_true t2) (fun _ k_ => ZH L21 rfl rfl k_) fun _ L22 => (so L22 rfl (Zc L22 rfl fun _ L23 => ?_)))
   have L24 := (L23.kp [2, 3, 4, 5, 6, 15] rfl); clear L23
   refine sn (Zs L24 rfl rfl (wp_seq ?_))
   have L25 := (L24.kp [2, 3, 4, 5, 6] rfl)
   refine Zy (E0 := [(1000, b3, 32, zN1, false)]) (H0 := [(b4, 32, zN1)]) (n := 63) mixed 3 [] (fun k => if k = 1000 then 2 else 0) (Zaf [
     (kvNa (0) (0)),
     .is (.agg (c_a : List Value).toArray),
     .stored 1000 32 (fun S cs => Na S cs (0) (0)) (fun _ _ _ l h => h.up l)]) L25 (ZX R8) (by simp) (by simp) (by rfl) (by rfl) (by simp) (ZU ?_) ?_
   ·refine (And.intro ?_ (And.intro ?_ (And.intro ?_ trivial)))
    ·refine Zd rfl (fun _ S5 _ _ _ A1 => ?_)
     have h3 : Na S5 zN1 (0) (0) := Na.zero _ _
     exact ZD (cs := zN1) A1.live ZN Xf .nil (by rfl) (A1.same  ⟨_, rfl, h3⟩)
    ·exact Zd rfl (fun _ _ _ _ _ A2 => (Zt A2.live rfl ZJ Zk (A2.run.row (r1.up (l2.trans (l3.trans (l4.trans A2.le))))) h_a.len (A2.same  rfl)))
    ·refine Zd rfl (fun _ _ _ _ _ A3 => ?_)
     obtain ⟨_, e1, cs_1, rfl, h4⟩ := A3.known 0 rfl
     obtain ⟨c2, q1, m1, z1, _⟩ := A3.le0 _ _ _ _ _ (List.Mem.head _)
     exact YU A3 (A3.live.add e1) rfl rfl m1 rfl Zk (z1.trans rfl) h4.len h4.ones rfl h4
   ·intro S8 _ _ w12 l5 E1 R9 n1 L29 K1
    obtain ⟨_, e2, rfl⟩ := K1 1 (by decide)
    have L30 := L29.add e2; clear L29
    obtain ⟨b5, c3, m2, h5⟩ := K1 2 (by decide)
    obtain ⟨c4, q2, m3, _, _⟩ := E1 _ _ _ _ _ (List.Mem.head _)
    obtain ⟨hbe1, rfl⟩ := QA n1 m2 m3; obtain rfl := hbe1.symm
    have R10 : Run _ _ S8 [(b3, 32, c3), (b4, 32, zN1)] w12 := Yc R9 n1 [(1000, b3, 32, c3, true)] (by simp) (List.forall_mem_cons.2 ⟨m2, (by simp)⟩)
    exact Zx L30 rfl rfl (Zi L30 rfl rfl (ZX R10) Zk h_a.len rfl h_a.ones fun _ R11 _ L31 => (so L31 rfl (Zc L31 rfl fun _ L32 => (sn (wp_ret ((Yx (ZE (Zv (rs := Tryz.f77.results.toList) L32 rfl (Res.aggW rfl ZJ Zk (R11.has (List.Mem.tail _ (List.Mem.head _))) h5.len (Res.aggW rfl ZJ Zk (R11.has (List.Mem.head _)) h_a.len (.tmp rfl Res.nil))) (⟨_, _, rfl, R11.ext, (Or.inr ⟨by omega, ⟨_, _, rfl, (h5.to (by exact (Nat.div_eq_of_lt (by omega)).symm) (by omega)), ((h_a.up (l1.trans (l2.trans (l3.trans (l4.trans l5))))).to (by exact (Nat.mod_eq_of_lt (by omega)).symm) (by omega))⟩⟩)⟩))))))))))
  ·refine so L21 rfl (Zf (b := false) (decide_eq_false t2) (fun _ k_ => ZH L21 rfl rfl k_) fun _ L33 => (so L33 rfl (Zc L33 rfl fun _ L34 => ?_)))
   have L35 := (L34.kp [2, 3, 4, 5, 6, 15] rfl); clear L34
   refine sn (Zn L35 rfl rfl (wp_seq ?_))
   obtain ⟨hb_a, ⟨hs_a, rfl⟩ | ⟨hw_a, lo_a, bb_a, len_a, cap_a, rest_a, hlo_a, rfl, rw_a, hd_a, h2_a⟩⟩ := h_a.open
   ·refine Za (so L35 rfl (Zo (off' := 1) L35 rfl ZL rfl ?_))
    intro _ L36
    refine so L36 rfl (Zl L36 rfl Yu (R8.row (r1.up (l2.trans (l3.trans l4)))) rfl fun _ L37 => (so L37 rfl (ZV L37 rfl rfl Tryz.underlying30 fun _ L38 => (so L38 rfl (Zc L38 rfl fun _ L39 => (sn (Zs L39 rfl rfl (wp_seq ?_))))))))
    obtain ⟨hb_b, ⟨hs_b, rfl⟩ | ⟨hw_b, lo_b, bb_b, len_b, cap_b, rest_b, hlo_b, rfl, rw_b, hd_b, h2_b⟩⟩ := h_b.open
    ·have L40 := (L39.kp [2, 3, 4, 5, 6] rfl)
     refine Zy (E0 := [(1000, b3, 32, zN1, false)]) (H0 := [(b4, 32, zN1)]) (n := 63) mixed 13 [] (fun k => if k = 1000 then 12 else 0) (Zaf [
       .is (.pointer (some ⟨b1, 0, none⟩)),
       .is (.int .u64 ((a : Nat) : Int)),
       .is (.pointer (some ⟨b2, 0, none⟩)),
       .is (.int .u64 ((b : Nat) : Int)),
       .is (.int .u64 (((a : Nat) : Int) / ((b : Nat) : Int))),
       (kvNa (a / b) (k_a)),
       .is (.pointer (some ⟨b1, 0, none⟩)),
       .is (.int .u64 ((a : Nat) : Int)),
       .is (.pointer (some ⟨b2, 0, none⟩)),
       .is (.int .u64 ((b : Nat) : Int)),
       .is (.int .u64 (((a : Nat) : Int) % ((b : Nat) : Int))),
       (kvNa (a % b) (k_a)),
       .stored 1000 32 (fun S cs => Na S cs (a / b) (k_a)) (fun _ _ _ l h => h.up l)]) L40 (ZX R8) (by simp) (by simp) (by rfl) (by rfl) (by simp) (ZU ?_) ?_
     ·refine (And.intro ?_ (And.intro ?_ (And.intro ?_ (And.intro ?_ (And.intro ?_ (And.intro ?_ (And.intro ?_ (And.intro ?_ (And.intro ?_ (And.intro ?_ (And.intro ?_ (And.intro ?_ (And.intro ?_ trivial)))))))))))))
      ·exact Zd rfl (fun _ _ _ _ _ A4 => (Zo (off' := 0) A4.live rfl Yb rfl (A4.same  rfl)))
      ·refine Zd rfl (fun _ _ _ _ _ A5 => ?_)
       obtain ⟨_, e3, rfl⟩ := A5.known 0 rfl
       exact Zl (A5.live.add e3) rfl Yi (A5.run.row (r1.up (l2.trans (l3.trans (l4.trans A5.le))))) rfl (A5.same  rfl)
      ·exact Zd rfl (fun _ _ _ _ _ A6 => (Zo (off' := 0) A6.live rfl Yb rfl (A6.same  rfl)))
      ·refine Zd rfl (fun _ _ _ _ _ A7 => ?_)
       obtain ⟨_, e4, rfl⟩ := A7.known 2 rfl
       exact Zl (A7.live.add e4) rfl Yi (A7.run.row (r2.up (l3.trans (l4.trans A7.le)))) rfl (A7.same  rfl)
      ·refine Zd rfl (fun _ _ _ _ _ A8 => ?_)
       obtain ⟨_, e5, rfl⟩ := A8.known 1 rfl
       obtain ⟨_, e6, rfl⟩ := A8.known 3 rfl
       exact Za8 (z := (((a : Nat) : Int) / ((b : Nat) : Int))) ((A8.live.add e5).add e6) rfl rfl (by omega) (quo_nn (k := .u64) (by omega) (by omega) (show _ ≤ (18446744073709551615 : Int) by omega)) (A8.same  rfl)
      ·refine Zd rfl (fun _ S14 _ _ _ A9 => ?_)
       obtain ⟨_, e7, rfl⟩ := A9.known 4 rfl
       have h6 : Na S14 [(.int .u64 (((a : Nat) : Int) / ((b : Nat) : Int))), (.slice none 0 0)] (a / b) (k_a) := by rw [← Int.natCast_ediv]; exact Na.ofLowK (Nat.lt_of_le_of_lt (Nat.div_le_self _ _) hs_a) (Nat.le_trans (Nat.div_le_self _ _) hb_a)
       exact ZD (cs := [(.int .u64 (((a : Nat) : Int) / ((b : Nat) : Int))), (.slice none 0 0)]) (A9.live.add e7) ZN Xf (.cons rfl Yb rfl (by decide) .nil) (by rfl) (A9.same  ⟨_, rfl, h6⟩)
      ·exact Zd rfl (fun _ _ _ _ _ A10 => (Zo (off' := 0) A10.live rfl Yb rfl (A10.same  rfl)))
      ·refine Zd rfl (fun _ _ _ _ _ A11 => ?_)
       obtain ⟨_, e8, rfl⟩ := A11.known 6 rfl
       exact Zl (A11.live.add e8) rfl Yi (A11.run.row (r1.up (l2.trans (l3.trans (l4.trans A11.le))))) rfl (A11.same  rfl)
      ·exact Zd rfl (fun _ _ _ _ _ A12 => (Zo (off' := 0) A12.live rfl Yb rfl (A12.same  rfl)))
      ·refine Zd rfl (fun _ _ _ _ _ A13 => ?_)
       obtain ⟨_, e9, rfl⟩ := A13.known 8 rfl
       exact Zl (A13.live.add e9) rfl Yi (A13.run.row (r2.up (l3.trans (l4.trans A13.le)))) rfl (A13.same  rfl)
      ·refine Zd rfl (fun _ _ _ _ _ A14 => ?_)
       obtain ⟨_, e10, rfl⟩ := A14.known 7 rfl
       obtain ⟨_, e11, rfl⟩ := A14.known 9 rfl
       exact Za7 (z := (((a : Nat) : Int) % ((b : Nat) : Int))) ((A14.live.add e10).add e11) rfl rfl (by omega) (rem_nn (by omega)) (A14.same  rfl)
      ·refine Zd rfl (fun _ S20 _ _ _ A15 => ?_)
       obtain ⟨_, e12, rfl⟩ := A15.known 10 rfl
       have h7 : Na S20 [(.int .u64 (((a : Nat) : Int) % ((b : Nat) : Int))), (.slice none 0 0)] (a % b) (k_a) := by rw [← Int.natCast_emod]; exact Na.ofLowK (Nat.lt_of_le_of_lt (Nat.mod_le _ _) hs_a) (Nat.le_trans (Nat.mod_le _ _) hb_a)
       exact ZD (cs := [(.int .u64 (((a : Nat) : Int) % ((b : Nat) : Int))), (.slice none 0 0)]) (A15.live.add e12) ZN Xf (.cons rfl Yb rfl (by decide) .nil) (by rfl) (A15.same  ⟨_, rfl, h7⟩)
      ·refine Zd rfl (fun _ _ _ _ _ A16 => ?_)
       obtain ⟨_, e13, c5, rfl, h8⟩ := A16.known 5 rfl
       obtain ⟨c6, q3, m4, z2, _⟩ := A16.le0 _ _ _ _ _ (List.Mem.head _)
       exact YU A16 (A16.live.add e13) rfl rfl m4 rfl Zk (z2.trans rfl) h8.len h8.ones rfl h8
     ·intro S22 _ _ w27 l6 E2 R12 n2 L54 K2
      obtain ⟨_, e14, c7, rfl, h9⟩ := K2 11 (by decide)
      have L55 := L54.add e14; clear L54
      obtain ⟨b6, c8, m5, h10⟩ := K2 12 (by decide)
      obtain ⟨c9, q4, m6, _, _⟩ := E2 _ _ _ _ _ (List.Mem.head _)
      obtain ⟨hbe2, rfl⟩ := QA n2 m5 m6; obtain rfl := hbe2.symm
      have R13 : Run _ _ S22 [(b3, 32, c8), (b4, 32, zN1)] w27 := Yc R12 n2 [(1000, b3, 32, c8, true)] (by simp) (List.forall_mem_cons.2 ⟨m5, (by simp)⟩)
      exact Zx L55 rfl rfl (Zi L55 rfl rfl (ZX R13) Zk h9.len rfl h9.ones fun _ R14 _ L56 => (so L56 rfl (Zc L56 rfl fun _ L57 => (sn (wp_ret ((Yx (ZE (Zv (rs := Tryz.f77.results.toList) L57 rfl (Res.aggW rfl ZJ Zk (R14.has (List.Mem.tail _ (List.Mem.head _))) h10.len (Res.aggW rfl ZJ Zk (R14.has (List.Mem.head _)) h9.len (.tmp rfl Res.nil))) (⟨_, _, rfl, R14.ext, (Or.inr ⟨by omega, ⟨_, _, rfl, (h10.to rfl (by omega)), (h9.to rfl (by omega))⟩⟩)⟩))))))))))
    ·have hl_b := hd_b.hlen; have hc_b := hd_b.hcap; have hg_b := hd_b.hbig
     have hW_b : 18446744073709551616 ≤ b := hw_b
     exfalso; omega
   ·have hl_a := hd_a.hlen; have hc_a := hd_a.hcap; have hg_a := hd_a.hbig
    have hW_a : 18446744073709551616 ≤ a := hw_a
    refine Za (so L35 rfl (Zo (off' := 1) L35 rfl ZL rfl ?_))
    intro _ L58
    refine so L58 rfl (Zl L58 rfl Yu (R8.row (r1.up (l2.trans (l3.trans l4)))) rfl fun _ L59 => (so L59 rfl (ZV L59 rfl rfl Tryz.underlying30 fun _ L60 => (so L60 rfl (Zc L60 rfl fun _ L61 => (sn (Zn L61 rfl rfl (wp_seq ?_))))))))
    obtain ⟨hb_b, ⟨hs_b, rfl⟩ | ⟨hw_b, lo_b, bb_b, len_b, cap_b, rest_b, hlo_b, rfl, rw_b, hd_b, h2_b⟩⟩ := h_b.open
    ·refine Za (so L61 rfl (Zo (off' := 1) L61 rfl ZL rfl ?_))
     intro _ L62
     refine so L62 rfl (Zl L62 rfl Yu (R8.row (r2.up (l3.trans l4))) rfl fun _ L63 => (so L63 rfl (ZV L63 rfl rfl Tryz.underlying30 fun _ L64 => (so L64 rfl (Zc L64 rfl fun _ L65 => ?_)))))
     have L66 := (L65.kp [2, 3, 4, 5, 6, 38] rfl); clear L65
     refine sn (Zs L66 rfl rfl (wp_seq (Za (so L66 rfl (Zo (off' := 1) L66 rfl ZL rfl ?_)))))
     intro _ L67
     refine so L67 rfl (Zl L67 rfl Yu (R8.row (r1.up (l2.trans (l3.trans l4)))) rfl fun _ L68 => (so L68 rfl (does_appendNil L68 rfl rfl Tryz.underlying30 ZB XY Xv rfl R8 (hd_a.up (l1.trans (l2.trans (l3.trans l4)))) (by omega) (by omega) fun b7 cap1 rest_1 _ hle1 R15 _ L69 => (so L69 rfl (Zc L69 rfl fun _ L70 => (sn (wp_seq (Za (so L70 rfl (Zb L70 rfl fun _ L71 => (so L71 rfl (Zo (off' := 0) L71 rfl Yb rfl fun _ L72 => ?_))))))))))))
     refine so L72 rfl (Zl L72 rfl Yi (R15.row (r2.up (l3.trans l4))) rfl fun _ L73 => (so L73 rfl (Xz L73 rfl ent_134 (nat_short (dv := b)    (by exact R15) (by omega) (by omega) (by omega) (by omega) (hd_a.hlt) (by omega)) ?_)))
     rintro _ _ ⟨v_3, _, ds1, rfl, l7, R16, v3⟩
     refine ⟨v_3, rfl, ?_⟩
     obtain ⟨rfl, ho1, ho2, ho3⟩ := v3
     have hsl := ho1; have hsx := ho2; have hsq := ho3
     intro _ L74
     refine so L74 rfl (Zc L74 rfl fun _ L75 => ?_)
     have L76 := (L75.kp [2, 3, 4, 5, 6, 7, 8] rfl); clear L75
     refine sn (wp_seq (Za (so L76 rfl (Zb L76 rfl ?_))))
     intro _ L77
     obtain ⟨S24, l8, r3, R17⟩ := (R16).freeze
     have hd1 : Dg S24 (some ⟨b7, 0, none⟩) len_a cap1 ds1 := ⟨by first | rfl | omega, by omega, by omega, hsx, fun _ => ⟨_, _, rfl, r3⟩⟩
     refine so L77 rfl (Zp L77 rfl QV (QS R17.holds  (k := k_a)  hd1 (by rw [hsq, Yk (by decide)]; exact Nat.le_trans (Nat.div_le_self _ _) h_a.1)) fun v_4 S25 _ x4 v4 => ?_)
     have R18 := R17.call x4
     obtain ⟨c10, rfl, h11⟩ := v4
     intro _ L78
     refine so L78 rfl (Zb L78 rfl fun _ L79 => ?_)
     have h12 : Na S25 [(.int .u64 ((val W64 (ZQ W64 a) % b : Nat) : Int)), (.slice none 0 0)] (a % b) (k_a) := by rw [Yk (by decide)]; exact Na.ofLowK (Nat.lt_trans (Nat.mod_lt _ (by omega)) hs_b) (Nat.le_trans (Nat.mod_le _ _) hb_a)
     exact so L79 rfl (ZD (cs := [(.int .u64 ((val W64 (ZQ W64 a) % b : Nat) : Int)), (.slice none 0 0)]) L79 ZN Xf (.cons rfl Yb rfl (by decide) .nil) (by rfl) fun _ L80 => (Zx L80 rfl rfl (Zi L80 rfl rfl (ZX R18) Zk h11.len rfl h11.ones fun _ R19 _ L81 => (Zx L81 rfl rfl (Zi L81 rfl rfl (ZX R19) Zk h12.len rfl h12.ones fun _ R20 _ L82 => (so L82 rfl (Zc L82 rfl fun _ L83 => (sn (wp_ret ((Yx (ZE (Zv (rs := Tryz.f77.results.toList) (L83.kp [2, 3, 4, 5, 6] rfl) rfl (Res.aggW rfl ZJ Zk (R20.has (List.Mem.tail _ (List.Mem.head _))) h11.len (Res.aggW rfl ZJ Zk (R20.has (List.Mem.head _)) h12.len (.tmp rfl Res.nil))) (⟨_, _, rfl, R20.ext, (Or.inr ⟨by omega, ⟨_, _, rfl, (h11.to (by rw [hsq, Yk (by decide)]) (by omega)), (h12.to rfl (by omega))⟩⟩)⟩))))))))))))))
    ·have hl_b := hd_b.hlen; have hc_b := hd_b.hcap; have hg_b := hd_b.hbig
     have hW_b : 18446744073709551616 ≤ b := hw_b
     refine Za (so L61 rfl (Zo (off' := 1) L61 rfl ZL rfl ?_))
     intro _ L85
     refine so L85 rfl (Zl L85 rfl Yu (R8.row (r2.up (l3.trans l4))) rfl fun _ L86 => (so L86 rfl (ZV L86 rfl rfl Tryz.underlying30 fun _ L87 => (so L87 rfl (Zc L87 rfl fun _ L88 => ?_)))))
     have L89 := (L88.kp [2, 3, 4, 5, 6, 38] rfl); clear L88
     refine sn (Zn L89 rfl rfl (wp_skip ((ZI (Ze (wp_seq (Za (so L89 rfl (Zo (off' := 1) L89 rfl ZL rfl ?_)))))))))
     intro _ L90
     refine so L90 rfl (Zl L90 rfl Yu (R8.row (r1.up (l2.trans (l3.trans l4)))) rfl fun _ L91 => (so L91 rfl (Zo (off' := 1) L91 rfl ZL rfl fun _ L92 => (so L92 rfl (Zl L92 rfl Yu (R8.row (r2.up (l3.trans l4))) rfl fun _ L93 => (so L93 rfl (Zp L93 rfl ent_136 (nat_long R8.holds  (kb := k_a)  (hd_a.up (l1.trans (l2.trans (l3.trans l4)))) (hd_b.up (l1.trans (l2.trans (l3.trans l4)))) (h2_b) (by rw [← hl_b]; exact digs_getLast (by decide) (by omega)) (by have q := Zch (show b ≤ a by omega); omega) (by omega) (by rw [Yk (by decide)]; exact h_a.1)) fun v_5 _ _ x5 v5 => ?_)))))))
     have R21 := R8.call x5
     obtain ⟨c11, c12, rfl, h13, h14⟩ := v5
     intro _ L94
     refine so L94 rfl (Zb L94 rfl fun _ L95 => (so L95 rfl (Zh L95 rfl rfl fun _ L96 => (so L96 rfl (Zh L96 rfl rfl fun _ L97 => (Zx L97 rfl rfl (Zi L97 rfl rfl (ZX R21) Zk h13.len rfl h13.ones fun _ R22 _ L98 => (Zx L98 rfl rfl (Zi L98 rfl rfl (ZX R22) Zk h14.len rfl h14.ones fun _ R23 _ L99 => (sn (wp_seq ?_)))))))))))
     have L101 := ((L99.kp [4, 5, 6] rfl).kp [4, 5, 6] rfl)
     refine Zy (E0 := [(1000, b3, 32, c11, false)]) (H0 := [(b4, 32, c12)]) (n := 63) mixed 3 [] (fun k => if k = 1000 then 2 else 0) (Zaf [
       .is (.agg (c11 : List Value).toArray),
       .is (.agg (c12 : List Value).toArray),
       .stored 1000 32 (fun S cs => Na S cs (val W64 (ZQ W64 a) / val W64 (ZQ W64 b)) (k_a)) (fun _ _ _ l h => h.up l)]) L101 (ZX R23) (by simp) (by simp) (by rfl) (by rfl) (by simp) (ZU ?_) ?_
     ·refine (And.intro ?_ (And.intro ?_ (And.intro ?_ trivial)))
      ·exact Zd rfl (fun _ _ _ _ _ A17 => (Zt A17.live rfl ZJ Zk (A17.has0 (List.Mem.head _) (by rfl)) h13.len (A17.same  rfl)))
      ·exact Zd rfl (fun _ _ _ _ _ A18 => (Zt A18.live rfl ZJ Zk (A18.run.has (List.mem_append_right _ (List.Mem.head _))) h14.len (A18.same  rfl)))
      ·refine Zd rfl (fun _ _ _ _ _ A19 => ?_)
       obtain ⟨_, e15, rfl⟩ := A19.known 0 rfl
       obtain ⟨c13, q5, m7, z3, _⟩ := A19.le0 _ _ _ _ _ (List.Mem.head _)
       exact YU A19 (A19.live.add e15) rfl rfl m7 rfl Zk (z3.trans h13.len) h13.len h13.ones rfl (h13.up A19.le)
     ·intro S30 _ _ w40 l11 E3 R24 n3 L105 K3
      obtain ⟨_, e16, rfl⟩ := K3 1 (by decide)
      have L106 := L105.add e16; clear L105
      obtain ⟨b8, c14, m8, h15⟩ := K3 2 (by decide)
      obtain ⟨c15, q6, m9, _, _⟩ := E3 _ _ _ _ _ (List.Mem.head _)
      obtain ⟨hbe3, rfl⟩ := QA n3 m8 m9; obtain rfl := hbe3.symm
      have R25 : Run _ _ S30 [(b3, 32, c14), (b4, 32, c12)] w40 := Yc R24 n3 [(1000, b3, 32, c14, true)] (by simp) (List.forall_mem_cons.2 ⟨m8, (by simp)⟩)
      exact Zx L106 rfl rfl (Zi L106 rfl rfl (ZX R25) Zk h14.len h14.len h14.ones fun _ R26 _ L107 => (so L107 rfl (Zc L107 rfl fun _ L108 => (sn (wp_ret ((Zv (rs := Tryz.f77.results.toList) L108 rfl (Res.aggW rfl ZJ Zk (R26.has (List.Mem.tail _ (List.Mem.head _))) h15.len (Res.aggW rfl ZJ Zk (R26.has (List.Mem.head _)) h14.len (.tmp rfl Res.nil))) (⟨_, _, rfl, R26.ext, (Or.inr ⟨by omega, ⟨_, _, rfl, (h15.to (by simp only [Yk (show 2 ≤ W64 by decide)]) (by omega)), ((h14.up l11).to (by simp only [Yk (show 2 ≤ W64 by decide)]) (by omega))⟩⟩)⟩))))))))
end Go.Cham
namespace Go.Cham
open Go Go.RowKit Go.Proofs
set_option maxRecDepth 20000 in
theorem nat_Gcd {S : Sh} {w : World} (hS : Yw S w) {c_a : List Value} {a : Nat} {k_a : Nat} (h_a : Na S c_a (a) (k_a)) {c_b : List Value} {b : Nat} {k_b : Nat} (h_b : Na S c_b (b) (k_b)) (hlim : k_a + k_b ≤ 1099511627776) : Calls Tryz.prog 79 [(.agg (c_a : List Value).toArray), (.agg (c_b : List Value).toArray)].toArray w (Ret S w (fun S v => ∃ (c0 : List Value), v = .agg c0.toArray ∧ Na S c0 (Nat.gcd a b) ((k_a + k_b)))) := by
 refine ZT (n := 43) Tryz.func79 rfl rfl ?_
 intro ac0 L0
 replace L0 : Zz ac0 43 [(0, (.agg (c_a : List Value).toArray)), (1, (.agg (c_b : List Value).toArray))] := L0
 have R0 : Run S w S [] w := .start hS
 refine wp_seq (Za (so L0 rfl (Zcg (cs := c_a) L0 rfl R0 rfl ?_)))
 intro b1 _ R1 _ L1
 refine so L1 rfl (Zcg (cs := c_b) L1 rfl R1 rfl fun b2 _ R2 _ L2 => (so L2 rfl (ZM (cs := zN1) ZN R2 rfl fun b3 _ R3 _ L3 => (sn (wp_seq (wp_block ?_))))))
 refine ZZ (fun m ac ww => ∃ (S' : Sh) (x : Nat) (y : Nat) (c_x : List Value) (c_y : List Value), S.le S' ∧ Zz ac 43 [(2, (.pointer (some ⟨b1, 0, none⟩))), (3, (.pointer (some ⟨b2, 0, none⟩))), (4, (.pointer (some ⟨b3, 0, none⟩)))] ∧ Run S w S' [(b3, 32, zN1), (b2, 32, c_y), (b1, 32, c_x)] ww ∧ (Na S' c_x x (k_a + k_b)) ∧ (Na S' c_y y (k_a + k_b)) ∧ (Nat.gcd x y = Nat.gcd a b) ∧ m = y)
  (b) ⟨S, a, b, c_a, c_b, Sh.le.refl _, (L3.kp [4, 3, 2] rfl), (YH (YH (YH R3))), (by exact h_a.to rfl (by omega)), (by exact h_b.to rfl (by omega)), (by rfl), rfl⟩ ?_
 rintro m_1 ac1 _ ⟨_, x, y, c_x, c_y, l1, L4, R4, h_x, h_y, hg, m1⟩
 refine wp_seq (wp_seq ?_)
 have hbz := @QJ y
 refine Za (so L4 rfl (Zt L4 rfl ZJ Zk (R4.has (List.Mem.tail _ (List.Mem.head _))) h_y.len ?_))
 intro _ L5
 refine so L5 rfl (Zp L5 rfl Zao (Yt R4.holds    h_y ) fun v_1 _ _ x1 v1 => ?_)
 have R5 := R4.call x1; have l2 := x1.le
 obtain rfl := v1
 intro _ L6
 by_cases t1 : (0 : Int) < ((ZF y : Nat) : Int)
 ·refine so L6 rfl (Zf (b := true) (decide_eq_true t1) (fun _ k_ => ZP L6 rfl rfl k_) fun _ L7 => (sn (Zs L7 rfl rfl (wp_skip ((Ze (wp_block (wp_seq (wp_seq ?_)))))))))
  obtain ⟨hb_x, ⟨hs_x, rfl⟩ | ⟨hw_x, lo_x, bb_x, len_x, cap_x, rest_x, hlo_x, rfl, rw_x, hd_x, h2_x⟩⟩ := h_x.open
  ·obtain ⟨hb_y, ⟨hs_y, rfl⟩ | ⟨hw_y, lo_y, bb_y, len_y, cap_y, rest_y, hlo_y, rfl, rw_y, hd_y, h2_y⟩⟩ := h_y.open
   ·refine Za (so L7 rfl (Zo (off' := 1) L7 rfl ZL rfl ?_))
    intro _ L8
    refine so L8 rfl (Zl L8 rfl Yu (R5.has (List.Mem.tail _ (List.Mem.tail _ (List.Mem.head _)))) rfl fun _ L9 => (so L9 rfl (ZV L9 rfl rfl Tryz.underlying30 fun _ L10 => (so L10 rfl (Zb L10 rfl fun _ L11 => (Zr L11 rfl rfl rfl rfl rfl (Zo (off' := 1) L11 rfl ZL rfl fun _ L12 => (Zr L12 rfl rfl rfl rfl rfl (Zl L12 rfl Yu (R5.has (List.Mem.tail _ (List.Mem.head _))) rfl fun _ L13 => (Zr L13 rfl rfl rfl rfl rfl (ZV L13 rfl rfl Tryz.underlying30 fun _ L14 => (so L14 rfl (Zj L14 rfl rfl fun _ L15 => ?_)))))))))))))
    refine sn (Zs L15 rfl rfl (wp_seq ?_))
    have L16 := (L15.kp [2, 3, 4, 10, 11, 12, 13, 14, 15, 16, 17, 18, 19, 20] rfl)
    refine Zy (E0 := []) (H0 := [(b3, 32, zN1), (b2, 32, [(.int .u64 ((y : Nat) : Int)), (.slice none 0 0)]), (b1, 32, [(.int .u64 ((x : Nat) : Int)), (.slice none 0 0)])]) (n := 43) mixed 5 [] (fun k =>  0) (Zaf [
      .is (.pointer (some ⟨b1, 0, none⟩)),
      .is (.int .u64 ((x : Nat) : Int)),
      .is (.pointer (some ⟨b2, 0, none⟩)),
      .is (.int .u64 ((y : Nat) : Int)),
      .is (.int .u64 ((x : Nat) : Int))]) L16 R5 (by simp) (by simp) (by rfl) (by rfl) (by simp) (ZU ?_) ?_
    ·refine (And.intro ?_ (And.intro ?_ (And.intro ?_ (And.intro ?_ (And.intro ?_ trivial)))))
     ·exact Zd rfl (fun _ _ _ _ _ A1 => (Zo (off' := 0) A1.live rfl Yb rfl (A1.same  rfl)))
     ·refine Zd rfl (fun _ _ _ _ _ A2 => ?_)
      obtain ⟨_, e1, rfl⟩ := A2.known 0 rfl
      exact Zl (A2.live.add e1) rfl Yi (A2.run.has (List.mem_append_right _ (List.Mem.tail _ (List.Mem.tail _ (List.Mem.head _))))) rfl (A2.same  rfl)
     ·exact Zd rfl (fun _ _ _ _ _ A3 => (Zo (off' := 0) A3.live rfl Yb rfl (A3.same  rfl)))
     ·refine Zd rfl (fun _ _ _ _ _ A4 => ?_)
      obtain ⟨_, e2, rfl⟩ := A4.known 2 rfl
      exact Zl (A4.live.add e2) rfl Yi (A4.run.has (List.mem_append_right _ (List.Mem.tail _ (List.Mem.head _)))) rfl (A4.same  rfl)
     ·refine Zd rfl (fun _ _ _ _ _ A5 => ?_)
      obtain ⟨_, e3, rfl⟩ := A5.known 1 rfl
      exact Zc (A5.live.add e3) rfl (A5.same  rfl)
    ·intro S8 _ _ w11 l3 E1 R6 n1 L22 K1
     obtain ⟨_, e4, rfl⟩ := K1 0 (by decide)
     have L23 := L22.add e4; clear L22
     obtain ⟨_, e5, rfl⟩ := K1 1 (by decide)
     have L24 := L23.add e5; clear L23
     obtain ⟨_, e6, rfl⟩ := K1 2 (by decide)
     have L25 := L24.add e6; clear L24
     obtain ⟨_, e7, rfl⟩ := K1 3 (by decide)
     have L26 := L25.add e7; clear L25
     obtain ⟨_, e8, rfl⟩ := K1 4 (by decide)
     have L27 := L26.add e8; clear L26
     have R7 : Run _ _ S8 [(b3, 32, zN1), (b2, 32, [(.int .u64 ((y : Nat) : Int)), (.slice none 0 0)]), (b1, 32, [(.int .u64 ((x : Nat) : Int)), (.slice none 0 0)])] w11 := Yc R6 n1 [] (by simp) (by simp)
     refine so L27 rfl (Zc L27 rfl fun _ L28 => (sn (wp_seq (wp_block ?_))))
     refine ZZ (fun m ac ww => ∃ (S' : Sh) (p : Nat) (q : Nat), S8.le S' ∧ Zz ac 43 [(2, (.pointer (some ⟨b1, 0, none⟩))), (3, (.pointer (some ⟨b2, 0, none⟩))), (4, (.pointer (some ⟨b3, 0, none⟩))), (10, (.agg ([(.int .u64 ((y : Nat) : Int)), (.slice none 0 0)] : List Value).toArray)), (11, (.int .i64 ((ZF y : Nat) : Int))), (12, (.bool true)), (13, (.pointer (some ⟨b1, 1, none⟩))), (14, (.slice none 0 0)), (15, (.bool true)), (16, (.bool true)), (17, (.pointer (some ⟨b2, 1, none⟩))), (18, (.slice none 0 0)), (19, (.bool true)), (20, (.bool true)), (21, (.pointer (some ⟨b1, 0, none⟩))), (22, (.int .u64 ((x : Nat) : Int))), (23, (.pointer (some ⟨b2, 0, none⟩))), (24, (.int .u64 ((y : Nat) : Int))), (5, (.int .u64 ((p : Nat) : Int))), (6, (.int .u64 ((q : Nat) : Int)))] ∧ Run S w S' [(b3, 32, zN1), (b2, 32, [(.int .u64 ((y : Nat) : Int)), (.slice none 0 0)]), (b1, 32, [(.int .u64 ((x : Nat) : Int)), (.slice none 0 0)])] ww ∧ (p < 18446744073709551616) ∧ (q < 18446744073709551616) ∧ (Nat.gcd p q = Nat.gcd x y) ∧ m = q)
      (y) ⟨S8, x, y, Sh.le.refl _, (L28.kp [6, 5, 24, 23, 22, 21, 20, 19, 18, 17, 16, 15, 14, 13, 12, 11, 10, 4, 3, 2] rfl), (YH (YH (YH R7))), (by omega), (by omega), (by rfl), rfl⟩ ?_
     rintro m_2 ac2 _ ⟨S9, p, q, l4, L29, R8, hp, hq, hpq, m2⟩
     refine wp_seq (wp_seq (Za (so L29 rfl (Zb L29 rfl ?_))))
     intro _ L30
     by_cases t2 : (0 : Int) < ((q : Nat) : Int)
     ·refine so L30 rfl (Zf (b := true) (decide_eq_true t2) (fun _ k_ => ZP L30 rfl rfl k_) fun _ L31 => (sn (Zs L31 rfl rfl (wp_skip ((Ze (wp_block ?_)))))))
      have L32 := (L31.kp [2, 3, 4, 10, 11, 12, 13, 14, 15, 16, 17, 18, 19, 20, 21, 22, 23, 24, 6, 25, 26] rfl)
      refine Zy (E0 := []) (H0 := [(b3, 32, zN1), (b2, 32, [(.int .u64 ((y : Nat) : Int)), (.slice none 0 0)]), (b1, 32, [(.int .u64 ((x : Nat) : Int)), (.slice none 0 0)])]) (n := 43) mixed 5 [(5, (.int .u64 ((p : Nat) : Int)), 4)] (fun k =>  0) (Zaf [
        .is (.int .u64 ((q : Nat) : Int)),
        .is (.int .u64 ((p : Nat) : Int)),
        .is (.int .u64 ((q : Nat) : Int)),
        .is (.int .u64 (((p : Nat) : Int) % ((q : Nat) : Int))),
        .is (.int .u64 ((q : Nat) : Int))]) L32 R8 (by simp) (by simp) (by rfl) (by rfl) (List.forall_mem_cons.2 ⟨L31.at_ 5 _ rfl, (by simp)⟩) (ZU ?_) ?_
      ·refine (And.intro ?_ (And.intro ?_ (And.intro ?_ (And.intro ?_ (And.intro ?_ trivial)))))
       ·exact Zd rfl (fun _ _ _ _ _ A6 => (Zb A6.live rfl (A6.same  rfl)))
       ·exact Zd rfl (fun _ _ _ _ _ A7 => (Zb (A7.live.add (A7.old (List.Mem.head _) (by rfl))) rfl (A7.same  rfl)))
       ·exact Zd rfl (fun _ _ _ _ _ A8 => (Zb A8.live rfl (A8.same  rfl)))
       ·refine Zd rfl (fun _ _ _ _ _ A9 => ?_)
        obtain ⟨_, e9, rfl⟩ := A9.known 1 rfl
        obtain ⟨_, e10, rfl⟩ := A9.known 2 rfl
        exact Za7 (z := (((p : Nat) : Int) % ((q : Nat) : Int))) ((A9.live.add e9).add e10) rfl rfl (by omega) (rem_nn (by omega)) (A9.same  rfl)
       ·refine Zd rfl (fun _ _ _ _ _ A10 => ?_)
        obtain ⟨_, e11, rfl⟩ := A10.known 0 rfl
        exact Zc (A10.live.add e11) rfl (A10.same  rfl)
      ·intro S15 _ _ w18 l5 E2 R9 n2 L38 K2
       obtain ⟨_, e12, rfl⟩ := K2 0 (by decide)
       have L39 := L38.add e12; clear L38
       obtain ⟨_, e13, rfl⟩ := K2 1 (by decide)
       have L40 := L39.add e13; clear L39
       obtain ⟨_, e14, rfl⟩ := K2 2 (by decide)
       have L41 := L40.add e14; clear L40
       obtain ⟨_, e15, rfl⟩ := K2 3 (by decide)
       have L42 := L41.add e15; clear L41
       obtain ⟨_, e16, rfl⟩ := K2 4 (by decide)
       have L43 := L42.add e16; clear L42
       have R10 : Run _ _ S15 [(b3, 32, zN1), (b2, 32, [(.int .u64 ((y : Nat) : Int)), (.slice none 0 0)]), (b1, 32, [(.int .u64 ((x : Nat) : Int)), (.slice none 0 0)])] w18 := Yc R9 n2 [] (by simp) (by simp)
       refine so L43 rfl (Zc L43 rfl fun a30 L44 => (Yr ((ZI (Ze ?_)))))
       have e17 : ((((p : Nat) : Int) % ((q : Nat) : Int)) : Int) = (((p % q) : Nat) : Int) := by first | omega | simp
       have L45 : Zz a30 43 [(6, (.int .u64 (((p % q) : Nat) : Int)))] := by have q := (L44.kp [6] rfl); rw [e17] at q; exact q
       exact ⟨(p % q), (by have qm := Nat.mod_lt p (show q > 0 by omega); omega), S15, q, (p % q), (l4.trans l5), (L44.keep (L44.keep (L44.keep (L44.keep (L44.keep (L44.keep (L44.keep (L44.keep (L44.keep (L44.keep (L44.keep (L44.keep (L44.keep (L44.keep (L44.keep (L44.keep (L44.keep (L44.keep (L44.keep (L45.keep (Zz.none _ L44) (t := 6) rfl) (t := 5) rfl) (t := 24) rfl) (t := 23) rfl) (t := 22) rfl) (t := 21) rfl) (t := 20) rfl) (t := 19) rfl) (t := 18) rfl) (t := 17) rfl) (t := 16) rfl) (t := 15) rfl) (t := 14) rfl) (t := 13) rfl) (t := 12) rfl) (t := 11) rfl) (t := 10) rfl) (t := 4) rfl) (t := 3) rfl) (t := 2) rfl), (YH (YH (YH R10))), (by omega), (by exact Nat.lt_of_le_of_lt (Nat.mod_le _ _) hp), (by rw [← hpq, Nat.gcd_comm p q, Nat.gcd_rec q p, Nat.gcd_comm]), rfl⟩
     ·refine so L30 rfl (Zf (b := false) (decide_eq_false t2) (fun _ k_ => ZP L30 rfl rfl k_) fun _ L46 => (sn (Zn L46 rfl rfl (wp_exit ((ZA (ZA (YB (Ze (wp_seq ?_))))))))))
      have hpg : p = Nat.gcd x y := by rw [← hpq, show q = 0 by omega, Nat.gcd_zero_right]
      refine Za (so L46 rfl (Zb L46 rfl ?_))
      intro _ L47
      have h1 : Na S9 [(.int .u64 ((p : Nat) : Int)), (.slice none 0 0)] (p) ((k_a + k_b)) := Na.ofLowK hp (by rw [hpg]; exact Nat.le_trans (Nat.gcd_le_right _ (by omega)) hb_y)
      exact so L47 rfl (ZD (cs := [(.int .u64 ((p : Nat) : Int)), (.slice none 0 0)]) L47 ZN Xf (.cons rfl Yb rfl (by decide) .nil) (by rfl) fun _ L48 => (Zx L48 rfl rfl (Zi L48 rfl rfl R8 Zk h1.len rfl h1.ones fun _ R11 _ L49 => (sn (wp_ret ((ZE (Yx (ZE (Yx (ZE (Zv (rs := Tryz.f79.results.toList) L49 rfl (Res.aggW rfl ZJ Zk (R11.has (List.Mem.head _)) h1.len Res.nil) (⟨_, _, rfl, R11.ext, ⟨_, rfl, (h1.to (by rw [hpg]; exact hg) (by omega))⟩⟩)))))))))))))
   ·have hl_y := hd_y.hlen; have hc_y := hd_y.hcap; have hg_y := hd_y.hbig
    have hW_y : 18446744073709551616 ≤ y := hw_y
    refine Za (so L7 rfl (Zo (off' := 1) L7 rfl ZL rfl ?_))
    intro _ L50
    refine so L50 rfl (Zl L50 rfl Yu (R5.has (List.Mem.tail _ (List.Mem.tail _ (List.Mem.head _)))) rfl fun _ L51 => (so L51 rfl (ZV L51 rfl rfl Tryz.underlying30 fun _ L52 => (so L52 rfl (Zb L52 rfl fun _ L53 => (Zr L53 rfl rfl rfl rfl rfl (Zo (off' := 1) L53 rfl ZL rfl fun _ L54 => (Zr L54 rfl rfl rfl rfl rfl (Zl L54 rfl Yu (R5.has (List.Mem.tail _ (List.Mem.head _))) rfl fun _ L55 => (Zr L55 rfl rfl rfl rfl rfl (ZV L55 rfl rfl Tryz.underlying30 fun _ L56 => (so L56 rfl (Zj L56 rfl rfl fun _ L57 => ?_)))))))))))))
    refine sn (Zn L57 rfl rfl (wp_skip ((Ze (wp_seq (Za (so L57 rfl (Zt L57 rfl ZJ Zk (R5.has (List.Mem.tail _ (List.Mem.tail _ (List.Mem.head _)))) h_x.len ?_))))))))
    intro _ L58
    refine so L58 rfl (Zt L58 rfl ZJ Zk (R5.has (List.Mem.tail _ (List.Mem.head _))) h_y.len fun _ L59 => (so L59 rfl (Zp L59 rfl ent_77 (nat_Div R5.holds    (h_x.up l2) (h_y.up l2) (by omega)) fun v_2 _ _ x2 v2 => ?_)))
    have R12 := R5.call x2; have l6 := x2.le
    rcases v2 with ⟨t3, c1, c2, rfl, h2, h3⟩ | ⟨t4, c3, c4, rfl, h4, h5⟩
    ·omega
    ·intro _ L60
     refine so L60 rfl (Zb L60 rfl fun _ L61 => (so L61 rfl (Zh L61 rfl rfl fun _ L62 => (so L62 rfl (Zh L62 rfl rfl fun _ L63 => (so L63 rfl (Zh L63 rfl rfl fun _ L64 => (so L64 rfl (ZM (cs := zN1) ZN R12 rfl fun b4 _ R13 _ L65 => (so L65 rfl (ZM (cs := zN1) ZN R13 rfl fun b5 _ R14 _ L66 => (Zx L66 rfl rfl (Zi L66 rfl rfl (ZX R14) Zk h4.len rfl h4.ones fun _ R15 _ L67 => ?_)))))))))))))
     refine Zx L67 rfl rfl (Zi L67 rfl rfl (ZX R15) Zk h5.len rfl h5.ones fun _ R16 _ L68 => (so L68 rfl (Zc L68 rfl fun _ L69 => (sn ?_))))
     have L70 := (L69.kp [2, 3, 4, 10, 11, 12, 13, 14, 15, 16, 17, 18, 19, 20, 34, 35, 36, 33, 37, 38, 39, 7, 8] rfl)
     refine Zy (E0 := [(1000, b1, 32, [(.int .u64 ((x : Nat) : Int)), (.slice none 0 0)], false)]) (H0 := [(b5, 32, c4), (b4, 32, c3), (b3, 32, zN1), (b2, 32, [(.int .u64 ((lo_y : Nat) : Int)), (.slice (some ⟨bb_y, 0, none⟩) len_y cap_y)])]) (n := 43) mixed 3 [] (fun k => if k = 1000 then 2 else 0) (Zaf [
       .is (.agg ([(.int .u64 ((lo_y : Nat) : Int)), (.slice (some ⟨bb_y, 0, none⟩) len_y cap_y)] : List Value).toArray),
       .is (.agg (c4 : List Value).toArray),
       .stored 1000 32 (fun S cs => Na S cs (y) ((k_a + k_b))) (fun _ _ _ l h => h.up l)]) L70 (Zb8 R16) (by simp) (by simp) (by rfl) (by rfl) (by simp) (ZU ?_) ?_
     ·refine (And.intro ?_ (And.intro ?_ (And.intro ?_ trivial)))
      ·exact Zd rfl (fun _ _ _ _ _ A11 => (Zt A11.live rfl ZJ Zk (A11.run.has (List.mem_append_right _ (List.Mem.tail _ (List.Mem.tail _ (List.Mem.tail _ (List.Mem.head _)))))) h_y.len (A11.same  rfl)))
      ·exact Zd rfl (fun _ _ _ _ _ A12 => (Zt A12.live rfl ZJ Zk (A12.run.has (List.mem_append_right _ (List.Mem.head _))) h5.len (A12.same  rfl)))
      ·refine Zd rfl (fun _ _ _ _ _ A13 => ?_)
       obtain ⟨_, e18, rfl⟩ := A13.known 0 rfl
       obtain ⟨c5, q1, m3, z1, _⟩ := A13.le0 _ _ _ _ _ (List.Mem.head _)
       exact YU A13 (A13.live.add e18) rfl rfl m3 rfl Zk (z1.trans h_x.len) h_y.len h_y.ones rfl (h_y.up (l2.trans (l6.trans A13.le)))
     ·intro S20 _ _ w28 l7 E3 R17 n3 L74 K3
      obtain ⟨_, e19, rfl⟩ := K3 0 (by decide)
      have L75 := L74.add e19; clear L74
      obtain ⟨_, e20, rfl⟩ := K3 1 (by decide)
      have L76 := L75.add e20; clear L75
      obtain ⟨b6, c6, m4, h6⟩ := K3 2 (by decide)
      obtain ⟨c7, q2, m5, _, _⟩ := E3 _ _ _ _ _ (List.Mem.head _)
      obtain ⟨hbe1, rfl⟩ := QA n3 m4 m5; obtain rfl := hbe1.symm
      have R18 : Run _ _ S20 [(b1, 32, c6), (b5, 32, c4), (b4, 32, c3), (b3, 32, zN1), (b2, 32, [(.int .u64 ((lo_y : Nat) : Int)), (.slice (some ⟨bb_y, 0, none⟩) len_y cap_y)])] w28 := Yc R17 n3 [(1000, b1, 32, c6, true)] (by simp) (List.forall_mem_cons.2 ⟨m4, (by simp)⟩)
      exact Zx L76 rfl rfl (Zi L76 rfl rfl (Zb8 R18) Zk h5.len h_y.len h5.ones fun _ R19 _ L77 => (Yr ((ZI (Ze (⟨(x % y), (by have qm := Nat.mod_lt x (show y > 0 by omega); omega), S20, y, (x % y), c6, c4, (l1.trans (l2.trans (l6.trans l7))), (L77.kp [4, 3, 2] rfl), (Run.init [(b3, 32, zN1), (b2, 32, c4), (b1, 32, c6)] (Zb8 (ZX (ZX R19)))), (by exact h6.to rfl (by omega)), (by exact (h5.up l7).to rfl (by omega)), (by rw [← hg, Nat.gcd_comm x y, Nat.gcd_rec y x, Nat.gcd_comm]), rfl⟩))))))
  ·have hl_x := hd_x.hlen; have hc_x := hd_x.hcap; have hg_x := hd_x.hbig
   have hW_x : 18446744073709551616 ≤ x := hw_x
   obtain ⟨hb_y, ⟨hs_y, rfl⟩ | ⟨hw_y, lo_y, bb_y, len_y, cap_y, rest_y, hlo_y, rfl, rw_y, hd_y, h2_y⟩⟩ := h_y.open
   ·refine Za (so L7 rfl (Zo (off' := 1) L7 rfl ZL rfl ?_))
    intro _ L78
    refine so L78 rfl (Zl L78 rfl Yu (R5.has (List.Mem.tail _ (List.Mem.tail _ (List.Mem.head _)))) rfl fun _ L79 => (so L79 rfl (ZV L79 rfl rfl Tryz.underlying30 fun _ L80 => (so L80 rfl (Zb L80 rfl fun _ L81 => (Zm L81 rfl rfl rfl rfl rfl rfl fun _ L82 => (Zm L82 rfl rfl rfl rfl rfl rfl fun _ L83 => (Zm L83 rfl rfl rfl rfl rfl rfl fun _ L84 => (so L84 rfl (Zj L84 rfl rfl fun _ L85 => ?_))))))))))
    refine sn (Zn L85 rfl rfl (wp_skip ((Ze (wp_seq (Za (so L85 rfl (Zt L85 rfl ZJ Zk (R5.has (List.Mem.tail _ (List.Mem.tail _ (List.Mem.head _)))) h_x.len ?_))))))))
    intro _ L86
    refine so L86 rfl (Zt L86 rfl ZJ Zk (R5.has (List.Mem.tail _ (List.Mem.head _))) h_y.len fun _ L87 => (so L87 rfl (Zp L87 rfl ent_77 (nat_Div R5.holds    (h_x.up l2) (h_y.up l2) (by omega)) fun v_3 _ _ x3 v3 => ?_)))
    have R20 := R5.call x3; have l8 := x3.le
    rcases v3 with ⟨t5, c8, c9, rfl, h7, h8⟩ | ⟨t6, c10, c11, rfl, h9, h10⟩
    ·omega
    ·intro _ L88
     refine so L88 rfl (Zb L88 rfl fun _ L89 => (so L89 rfl (Zh L89 rfl rfl fun _ L90 => (so L90 rfl (Zh L90 rfl rfl fun _ L91 => (so L91 rfl (Zh L91 rfl rfl fun _ L92 => (so L92 rfl (ZM (cs := zN1) ZN R20 rfl fun b7 _ R21 _ L93 => (so L93 rfl (ZM (cs := zN1) ZN R21 rfl fun b8 _ R22 _ L94 => (Zx L94 rfl rfl (Zi L94 rfl rfl (ZX R22) Zk h9.len rfl h9.ones fun _ R23 _ L95 => ?_)))))))))))))
     refine Zx L95 rfl rfl (Zi L95 rfl rfl (ZX R23) Zk h10.len rfl h10.ones fun _ R24 _ L96 => (so L96 rfl (Zc L96 rfl fun _ L97 => (sn ?_))))
     have L98 := (L97.kp [2, 3, 4, 10, 11, 12, 13, 14, 15, 16, 20, 34, 35, 36, 33, 37, 38, 39, 7, 8] rfl)
     refine Zy (E0 := [(1000, b1, 32, [(.int .u64 ((lo_x : Nat) : Int)), (.slice (some ⟨bb_x, 0, none⟩) len_x cap_x)], false)]) (H0 := [(b8, 32, c11), (b7, 32, c10), (b3, 32, zN1), (b2, 32, [(.int .u64 ((y : Nat) : Int)), (.slice none 0 0)])]) (n := 43) mixed 3 [] (fun k => if k = 1000 then 2 else 0) (Zaf [
       .is (.agg ([(.int .u64 ((y : Nat) : Int)), (.slice none 0 0)] : List Value).toArray),
       .is (.agg (c11 : List Value).toArray),
       .stored 1000 32 (fun S cs => Na S cs (y) ((k_a + k_b))) (fun _ _ _ l h => h.up l)]) L98 (Zb8 R24) (by simp) (by simp) (by rfl) (by rfl) (by simp) (ZU ?_) ?_
     ·refine (And.intro ?_ (And.intro ?_ (And.intro ?_ trivial)))
      ·exact Zd rfl (fun _ _ _ _ _ A14 => (Zt A14.live rfl ZJ Zk (A14.run.has (List.mem_append_right _ (List.Mem.tail _ (List.Mem.tail _ (List.Mem.tail _ (List.Mem.head _)))))) h_y.len (A14.same  rfl)))
      ·exact Zd rfl (fun _ _ _ _ _ A15 => (Zt A15.live rfl ZJ Zk (A15.run.has (List.mem_append_right _ (List.Mem.head _))) h10.len (A15.same  rfl)))
      ·refine Zd rfl (fun _ _ _ _ _ A16 => ?_)
       obtain ⟨_, e21, rfl⟩ := A16.known 0 rfl
       obtain ⟨c12, q3, m6, z2, _⟩ := A16.le0 _ _ _ _ _ (List.Mem.head _)
       exact YU A16 (A16.live.add e21) rfl rfl m6 rfl Zk (z2.trans h_x.len) h_y.len h_y.ones rfl (h_y.up (l2.trans (l8.trans A16.le)))
     ·intro S25 _ _ w38 l9 E4 R25 n4 L102 K4
      obtain ⟨_, e22, rfl⟩ := K4 0 (by decide)
      have L103 := L102.add e22; clear L102
      obtain ⟨_, e23, rfl⟩ := K4 1 (by decide)
      have L104 := L103.add e23; clear L103
      obtain ⟨b9, c13, m7, h11⟩ := K4 2 (by decide)
      obtain ⟨c14, q4, m8, _, _⟩ := E4 _ _ _ _ _ (List.Mem.head _)
      obtain ⟨hbe2, rfl⟩ := QA n4 m7 m8; obtain rfl := hbe2.symm
      have R26 : Run _ _ S25 [(b1, 32, c13), (b8, 32, c11), (b7, 32, c10), (b3, 32, zN1), (b2, 32, [(.int .u64 ((y : Nat) : Int)), (.slice none 0 0)])] w38 := Yc R25 n4 [(1000, b1, 32, c13, true)] (by simp) (List.forall_mem_cons.2 ⟨m7, (by simp)⟩)
      exact Zx L104 rfl rfl (Zi L104 rfl rfl (Zb8 R26) Zk h10.len h_y.len h10.ones fun _ R27 _ L105 => (Yr ((ZI (Ze (⟨(x % y), (by have qm := Nat.mod_lt x (show y > 0 by omega); omega), S25, y, (x % y), c13, c11, (l1.trans (l2.trans (l8.trans l9))), (L105.kp [4, 3, 2] rfl), (Run.init [(b3, 32, zN1), (b2, 32, c11), (b1, 32, c13)] (Zb8 (ZX (ZX R27)))), (by exact h11.to rfl (by omega)), (by exact (h10.up l9).to rfl (by omega)), (by rw [← hg, Nat.gcd_comm x y, Nat.gcd_rec y x, Nat.gcd_comm]), rfl⟩))))))
   ·have hl_y := hd_y.hlen; have hc_y := hd_y.hcap; have hg_y := hd_y.hbig
    have hW_y : 18446744073709551616 ≤ y := hw_y
    refine Za (so L7 rfl (Zo (off' := 1) L7 rfl ZL rfl ?_))
    intro _ L106
    refine so L106 rfl (Zl L106 rfl Yu (R5.has (List.Mem.tail _ (List.Mem.tail _ (List.Mem.head _)))) rfl fun _ L107 => (so L107 rfl (ZV L107 rfl rfl Tryz.underlying30 fun _ L108 => (so L108 rfl (Zb L108 rfl fun _ L109 => (Zm L109 rfl rfl rfl rfl rfl rfl fun _ L110 => (Zm L110 rfl rfl rfl rfl rfl rfl fun _ L111 => (Zm L111 rfl rfl rfl rfl rfl rfl fun _ L112 => (so L112 rfl (Zj L112 rfl rfl fun _ L113 => ?_))))))))))
    refine sn (Zn L113 rfl rfl (wp_skip ((Ze (wp_seq (Za (so L113 rfl (Zt L113 rfl ZJ Zk (R5.has (List.Mem.tail _ (List.Mem.tail _ (List.Mem.head _)))) h_x.len ?_))))))))
    intro _ L114
    refine so L114 rfl (Zt L114 rfl ZJ Zk (R5.has (List.Mem.tail _ (List.Mem.head _))) h_y.len fun _ L115 => (so L115 rfl (Zp L115 rfl ent_77 (nat_Div R5.holds    (h_x.up l2) (h_y.up l2) (by omega)) fun v_4 _ _ x4 v4 => ?_)))
    have R28 := R5.call x4; have l10 := x4.le
    rcases v4 with ⟨t7, c15, c16, rfl, h12, h13⟩ | ⟨t8, c17, c18, rfl, h14, h15⟩
    ·omega
    ·intro _ L116
     refine so L116 rfl (Zb L116 rfl fun _ L117 => (so L117 rfl (Zh L117 rfl rfl fun _ L118 => (so L118 rfl (Zh L118 rfl rfl fun _ L119 => (so L119 rfl (Zh L119 rfl rfl fun _ L120 => (so L120 rfl (ZM (cs := zN1) ZN R28 rfl fun b10 _ R29 _ L121 => (so L121 rfl (ZM (cs := zN1) ZN R29 rfl fun b11 _ R30 _ L122 => (Zx L122 rfl rfl (Zi L122 rfl rfl (ZX R30) Zk h14.len rfl h14.ones fun _ R31 _ L123 => ?_)))))))))))))
     refine Zx L123 rfl rfl (Zi L123 rfl rfl (ZX R31) Zk h15.len rfl h15.ones fun _ R32 _ L124 => (so L124 rfl (Zc L124 rfl fun _ L125 => (sn ?_))))
     have L126 := (L125.kp [2, 3, 4, 10, 11, 12, 13, 14, 15, 16, 20, 34, 35, 36, 33, 37, 38, 39, 7, 8] rfl)
     refine Zy (E0 := [(1000, b1, 32, [(.int .u64 ((lo_x : Nat) : Int)), (.slice (some ⟨bb_x, 0, none⟩) len_x cap_x)], false)]) (H0 := [(b11, 32, c18), (b10, 32, c17), (b3, 32, zN1), (b2, 32, [(.int .u64 ((lo_y : Nat) : Int)), (.slice (some ⟨bb_y, 0, none⟩) len_y cap_y)])]) (n := 43) mixed 3 [] (fun k => if k = 1000 then 2 else 0) (Zaf [
       .is (.agg ([(.int .u64 ((lo_y : Nat) : Int)), (.slice (some ⟨bb_y, 0, none⟩) len_y cap_y)] : List Value).toArray),
       .is (.agg (c18 : List Value).toArray),
       .stored 1000 32 (fun S cs => Na S cs (y) ((k_a + k_b))) (fun _ _ _ l h => h.up l)]) L126 (Zb8 R32) (by simp) (by simp) (by rfl) (by rfl) (by simp) (ZU ?_) ?_
     ·refine (And.intro ?_ (And.intro ?_ (And.intro ?_ trivial)))
      ·exact Zd rfl (fun _ _ _ _ _ A17 => (Zt A17.live rfl ZJ Zk (A17.run.has (List.mem_append_right _ (List.Mem.tail _ (List.Mem.tail _ (List.Mem.tail _ (List.Mem.head _)))))) h_y.len (A17.same  rfl)))
      ·exact Zd rfl (fun _ _ _ _ _ A18 => (Zt A18.live rfl ZJ Zk (A18.run.has (List.mem_append_right _ (List.Mem.head _))) h15.len (A18.same  rfl)))
      ·refine Zd rfl (fun _ _ _ _ _ A19 => ?_)
       obtain ⟨_, e24, rfl⟩ := A19.known 0 rfl
       obtain ⟨c19, q5, m9, z3, _⟩ := A19.le0 _ _ _ _ _ (List.Mem.head _)
       exact YU A19 (A19.live.add e24) rfl rfl m9 rfl Zk (z3.trans h_x.len) h_y.len h_y.ones rfl (h_y.up (l2.trans (l10.trans A19.le)))
     ·intro S30 _ _ w48 l11 E5 R33 n5 L130 K5
      obtain ⟨_, e25, rfl⟩ := K5 0 (by decide)
      have L131 := L130.add e25; clear L130
      obtain ⟨_, e26, rfl⟩ := K5 1 (by decide)
      have L132 := L131.add e26; clear L131
      obtain ⟨b12, c20, m10, h16⟩ := K5 2 (by decide)
      obtain ⟨c21, q6, m11, _, _⟩ := E5 _ _ _ _ _ (List.Mem.head _)
      obtain ⟨hbe3, rfl⟩ := QA n5 m10 m11; obtain rfl := hbe3.symm
      have R34 : Run _ _ S30 [(b1, 32, c20), (b11, 32, c18), (b10, 32, c17), (b3, 32, zN1), (b2, 32, [(.int .u64 ((lo_y : Nat) : Int)), (.slice (some ⟨bb_y, 0, none⟩) len_y cap_y)])] w48 := Yc R33 n5 [(1000, b1, 32, c20, true)] (by simp) (List.forall_mem_cons.2 ⟨m10, (by simp)⟩)
      exact Zx L132 rfl rfl (Zi L132 rfl rfl (Zb8 R34) Zk h15.len h_y.len h15.ones fun _ R35 _ L133 => (Yr ((ZI (Ze (⟨(x % y), (by have qm := Nat.mod_lt x (show y > 0 by omega); omega), S30, y, (x % y), c20, c18, (l1.trans (l2.trans (l10.trans l11))), (L133.kp [4, 3, 2] rfl), (Run.init [(b3, 32, zN1), (b2, 32, c18), (b1, 32, c20)] (Zb8 (ZX (ZX R35)))), (by exact h16.to rfl (by omega)), (by exact (h15.up l11).to rfl (by omega)), (by rw [← hg, Nat.gcd_comm x y, Nat.gcd_rec y x, Nat.gcd_comm]), rfl⟩))))))
 ·refine so L6 rfl (Zf (b := false) (decide_eq_false t1) (fun _ k_ => ZP L6 rfl rfl k_) fun _ L134 => (sn (Zn L134 rfl rfl (wp_exit ((ZA (ZA (YB (Ze (wp_seq (Za (so L134 rfl (Zt L134 rfl ZJ Zk (R5.has (List.Mem.tail _ (List.Mem.tail _ (List.Mem.head _)))) h_x.len fun _ L135 => (Zx L135 rfl rfl (Zi L135 rfl rfl R5 Zk h_x.len rfl h_x.ones fun _ R36 _ L136 => (sn (wp_ret ((Zv (rs := Tryz.f79.results.toList) (L136.kp [4] rfl) rfl (Res.aggW rfl ZJ Zk (R36.has (List.Mem.head _)) h_x.len Res.nil) ?_)))))))))))))))))))
  exact ⟨_, _, rfl, R36.ext, ⟨_, rfl, ((h_x.up l2).to (by rw [← hg, show y = 0 by omega, Nat.gcd_zero_right]) (by omega))⟩⟩
end Go.Cham
namespace Go.Cham
open Go Go.RowKit
def Xt (g : Option (Nat × List Value)) (T : TypeId) (cs : List Value) : Own := match g with | none => [] | some x => [(x.1, T, cs ++ x.2)]
def gp (g : Option (Nat × List Value)) : Option Addr := match g with | none => none | some x => some ⟨x.1, 0, none⟩
structure Gw (g : Option (Nat × List Value)) (len cap sz : Nat) (cs : List Value) : Prop where
  hl : cs.length = len * sz
  hc : len ≤ cap
  hn : g = none → cap = 0
  hs : ∀ x, g = some x → (cs ++ x.2).length = cap * sz
theorem Gw.nil (sz : Nat) : Gw none 0 0 sz [] := ⟨by simp, Nat.le_refl _, fun _ => rfl, by simp⟩
theorem Gw.own {b len sz : Nat} {cs : List Value} (h : cs.length = len * sz) : Gw (some (b, [])) len len sz cs := ⟨h, Nat.le_refl _, by simp, by simpa using h⟩
section
variable {P : Program} {a : Act} {w : World} {n : Nat} {l : List (Nat × Value)} {K : Value → World → Prop}
variable {d : Option Tmp} {ty : TypeId} {pos : String} {af : Array Edge} {g0 : Option (Nat × Bool)}
theorem Qw {x y : Operand} {t e : TypeId} {len cap m cap2 sz by_ b2 o2 : Nat} {T2 : TypeId} {z : Value} {g : Option (Nat × List Value)} {cs cs2 vs : List Value} {S0 S : Sh} {w0 : World} {H : Own} (hL : Zz a n l)
    (hx : ev l x = some (.slice (gp g) len cap)) (hy : ev l y = some (.slice (some ⟨b2, o2, none⟩) m cap2))
    (ht : P.underlying t = some (.slice e)) (hZ : Yo P e = some sz) (hB : Qx P e = some by_) (hz : XF P e = some z) (hzs : z.cells.size = sz) (hG : Gw g len cap sz cs) (hR : Run S0 w0 S (Xt g e cs ++ H) w)
    (hv : Has w b2 T2 cs2) (hvs : (cs2.drop o2).take (m * sz) = vs) (hvl : vs.length = m * sz) (ho : ∀ v ∈ vs, one v = true) (h0 : 0 < m) (hlim : (len + m) * by_ ≤ 140737488355328) (hlim2 : len + m ≤ 140737488355328)
    (k : ∀ g' cap' w', Gw g' (len + m) cap' sz (cs ++ vs) → Run S0 w0 S (Xt g' e (cs ++ vs) ++ H) w' → K (.slice (gp g') (len + m) cap') w') : YG P ⟨d, .call ⟨.builtin .append, #[x, y], #[t, t]⟩, ty, pos, af, g0⟩ a w K := by
  obtain ⟨i, hi, hs, hz', hb⟩ := Zaz hZ hB hz
  have hnews := hv.cells hvs
  have fin : ∀ (v : Value) (w' : World), (Builtin.append_ #[t, t] ty #[.slice (gp g) len cap, .slice (some ⟨b2, o2, none⟩) m cap2]).run P w = .ok v w' → K v w' → YG P ⟨d, .call ⟨.builtin .append, #[x, y], #[t, t]⟩, ty, pos, af, g0⟩ a w K := by
    intro v w' hrun hk
    refine Zw (v := v) (w' := w') ?_ hk
    rw [YF]
    simp only [List.map_toArray, List.map_cons, List.map_nil, hL.ev hx, hL.ev hy]
    show Sem.run P (do let v ← Builtin.append_ #[t, t] ty #[.slice (gp g) len cap, .slice (some ⟨b2, o2, none⟩) m cap2]; (pure (Next.value v) : Sem Next)) w = _
    rw [Zg hrun]
    rfl
  rcases Nat.lt_or_ge cap (len + m) with hg | hg
  · 
    have hR1 : Run S0 w0 S (Xt g e cs ++ H) w.drew := hR.call (Ext.drewN hR.holds 1)
    have hge := grownCap_ge w (len + m) cap e
    have hfit : Builtin.nextslicecap (len + m) cap * i.bytes ≤ 281474976710656 := growslice_fits hg (by rw [hb]; exact hlim)
    obtain ⟨rest, hrest⟩ : ∃ rest, Builtin.zeroCells z.cells (grownCap w (len + m) cap e - (len + m)) = (rest : List Value).toArray := ⟨_, (Array.toArray_toList).symm⟩
    have hrl : rest.length = (grownCap w (len + m) cap e - (len + m)) * sz := by
      have := congrArg Array.size hrest
      simp [Builtin.zeroCells, hzs] at this
      omega
    have hcs : (cs ++ vs).length = (len + m) * sz := by rw [List.length_append, hG.hl, hvl, Nat.add_mul]
    have hR2 := (hR1.newOwn e (cs ++ vs ++ rest))
    have hdrop : ∀ {H' : Own} {w' : World} {x : Nat × TypeId × List Value}, Run S0 w0 S (x :: (Xt g e cs ++ H')) w' → Run S0 w0 S (x :: H') w' := by
      intro H' w' x hr
      have hn := hr.nodup
      refine ⟨hr.ext, fun y hy => hr.own y (by
        rcases List.mem_cons.1 hy with h | h
        · simp [h]
        · simp [h]), ?_⟩
      refine List.Sublist.nodup (List.Sublist.map _ ?_) hn
      exact List.Sublist.cons_cons _ (List.sublist_append_right _ _)
    have hR3 := hdrop hR2
    refine fin (.slice (some ⟨w.heap.size, 0, none⟩) (len + m) (grownCap w (len + m) cap e)) (YR w.drew (.cells (cs ++ vs ++ rest).toArray e)) ?_ (k (some (w.heap.size, rest)) _ _ ⟨hcs, hge, by simp, ?_⟩ ?_)
    · cases g with
      | none =>
        have hc0 := hG.hn rfl
        have hl0 : len = 0 := by have := hG.hc; omega
        subst hc0 hl0
        have hcs0 : cs = [] := by have := hG.hl; simpa using this
        subst hcs0
        have hrun := run_append_nil (P := P) (w := w) t ty e i z ht hi hz' ⟨b2, o2, none⟩ m cap2 vs (by rw [hs]; exact hvl) hnews h0 (by omega) (by rw [hb]; rw [Nat.zero_add] at hlim; omega)
        simp only [Nat.zero_add, List.nil_append] at hrest ⊢
        refine hrun.trans ?_
        rw [hrest]
        congr 2
        simp
      | some q =>
        have hh : Has w q.1 e (cs ++ q.2) := hR.has (by simp [Xt])
        have hrun := run_append_grow (P := P) (w := w) t ty e i z ht hi hz' ⟨q.1, 0, none⟩ len cap cs (by rw [hs]; exact hG.hl) (hh.cells (o := 0) (k := cs.length) (by simp)) ⟨b2, o2, none⟩ m cap2 vs (by rw [hs]; exact hvl) hnews hg (by omega) hfit
        refine hrun.trans ?_
        rw [hrest]
        congr 2
        simp
    · intro x hx
      simp only [Option.some.injEq] at hx
      subst hx
      rw [List.length_append, hcs, hrl, ← Nat.add_mul]
      congr 1
      omega
    · simpa [Xt] using hR3
  · 
    cases g with
    | none => have := hG.hn rfl; omega
    | some q =>
      obtain ⟨b, rest⟩ := q
      have hl : (cs ++ rest).length = cap * sz := hG.hs _ rfl
      have hh : Has w b e (cs ++ rest) := hR.has (by simp [Xt])
      have hrl : m * sz ≤ rest.length := by
        rw [List.length_append, hG.hl] at hl
        have : (len + m) * sz ≤ cap * sz := Nat.mul_le_mul_right _ hg
        rw [Nat.add_mul] at this
        omega
      obtain ⟨w', h1, h2⟩ := QR (P := P) (w := w) t ty e i ht hi b e len cap (cs ++ rest) hh (.slice (some ⟨b2, o2, none⟩) m cap2) m vs rfl (by
        have := run_firstCells_some (P := P) w i.size m ⟨b2, o2, none⟩ m cap2 vs (by rw [hs]; exact hvl) hnews
        exact this) hg (by rw [hs, ← hG.hl, hvl, List.length_append]; omega) ho
      have ec : XD (cs ++ rest) (len * i.size) vs = cs ++ vs ++ rest.drop (m * sz) := by
        unfold XD
        rw [hs, ← hG.hl, hvl, List.take_left, List.drop_length_add_append]
      rw [ec] at h2
      have hR' : Run S0 w0 S ((b, e, cs ++ rest) :: H) w := by simpa [Xt] using hR
      have hR2 := hR'.store (cs ++ vs ++ rest.drop (m * sz)) h2
      refine fin _ _ h1 (k (some (b, rest.drop (m * sz))) cap w' ⟨by rw [List.length_append, hG.hl, hvl, Nat.add_mul], hg, by simp, ?_⟩ (by simpa [Xt] using hR2))
      intro x hx
      simp only [Option.some.injEq] at hx
      subst hx
      rw [List.length_append] at hl ⊢
      simp only [List.length_append, List.length_drop]
      omega
end
theorem Run.mid {S0 S : Sh} {w0 w : World} (H1 : Own) (H2 : Own) {H3 : Own} (h : Run S0 w0 S (H1 ++ (H2 ++ H3)) w) : Run S0 w0 S (H1 ++ H3) w := by
  have hn := h.nodup
  refine ⟨h.ext, fun x hx => h.own x ?_, ?_⟩
  · rcases List.mem_append.1 hx with q | q
    · exact List.mem_append_left _ q
    · exact List.mem_append_right _ (List.mem_append_right _ q)
  · refine List.Sublist.nodup (List.Sublist.map _ ?_) hn
    exact List.Sublist.append_left (List.sublist_append_right _ _) _
theorem Run.freezeG {S0 S : Sh} {w0 w : World} (H1 : Own) {H : Own} {g : Option (Nat × List Value)} {T : TypeId} {cs : List Value} (h : Run S0 w0 S (H1 ++ (Xt g T cs ++ H)) w) :
    ∃ S', S.le S' ∧ (∀ x, g = some x → Row S' x.1 T (cs ++ x.2)) ∧ Run S0 w0 S' (H1 ++ H) w := by
  cases g with
  | none => exact ⟨S, Sh.le.refl S, by simp, by simpa [Xt] using h⟩
  | some x =>
    have h' : Run S0 w0 S ((x.1, T, cs ++ x.2) :: (H1 ++ H)) w := h.perm (by simp [Xt])
    obtain ⟨S', h1, h2, h3⟩ := h'.freeze
    exact ⟨S', h1, fun y hy => by cases hy; exact h2, h3⟩
theorem Gw.some {g : Option (Nat × List Value)} {len cap sz : Nat} {cs : List Value} (h : Gw g len cap sz cs) (h0 : 0 < len) : ∃ b rest, g = some (b, rest) := by
  cases g with
  | none => have := h.hn rfl; have := h.hc; omega
  | some x => exact ⟨x.1, x.2, rfl⟩
def u8s (ds : List Nat) : List Value := ds.map fun d : Nat => .int .u8 (d : Int)
theorem u8s_get {ds : List Nat} {rest : List Value} {j : Nat} (h : j < ds.length) : (u8s ds ++ rest)[j]? = some (.int .u8 ((ds.getD j 0 : Nat) : Int)) := by
  rw [List.getElem?_append_left (by simpa [u8s] using h)]
  simp [u8s, List.getElem?_eq_getElem h, List.getD_eq_getElem?_getD]
theorem u8s_set {ds : List Nat} {rest : List Value} {j d : Nat} (h : j < ds.length) : (u8s ds ++ rest).set j (.int .u8 (d : Int)) = u8s (ds.set j d) ++ rest := by
  rw [List.set_append_left _ _ (by simpa [u8s] using h)]
  simp [u8s, List.map_set]
theorem Qc (ds : List Nat) : (u8s ds).length = ds.length := by simp [u8s]
theorem u8s_ones (ds : List Nat) : ∀ v ∈ u8s ds, one v = true := by intro v hv; obtain ⟨d, _, rfl⟩ := List.mem_map.1 hv; rfl
theorem u64s_ones (ds : List Nat) : ∀ v ∈ Yl ds, one v = true := by intro v hv; obtain ⟨d, _, rfl⟩ := List.mem_map.1 hv; rfl
theorem u32s_append (ds es : List Nat) : u32s ds ++ u32s es = u32s (ds ++ es) := by simp [u32s]
theorem u8s_append (ds es : List Nat) : u8s ds ++ u8s es = u8s (ds ++ es) := by simp [u8s]
theorem QP (ds es : List Nat) : Yl ds ++ Yl es = Yl (ds ++ es) := by simp [Yl]
theorem u64s_split (n : Nat) (ds : List Nat) (rest : List Value) : Yl ds ++ rest = Yl (ds.take n) ++ (Yl (ds.drop n) ++ rest) := by rw [← List.append_assoc, QP, List.take_append_drop]
theorem u32s_split (n : Nat) (ds : List Nat) (rest : List Value) : u32s ds ++ rest = u32s (ds.take n) ++ (u32s (ds.drop n) ++ rest) := by rw [← List.append_assoc, u32s_append, List.take_append_drop]
theorem Gw.dg {S : Sh} {g : Option (Nat × List Value)} {len cap : Nat} {ds : List Nat} (h : Gw g len cap 1 (Yl ds)) (hr : ∀ x, g = Option.some x → Row S x.1 tU64 (Yl ds ++ x.2)) (hb : len ≤ 281474976710656) (hlt : ∀ d ∈ ds, d < 18446744073709551616) : Dg S (gp g) len cap ds := by
  have hl := h.hl
  rw [ZG, Nat.mul_one] at hl
  refine ⟨hl, h.hc, hb, hlt, fun h0 => ?_⟩
  obtain ⟨b, rest, e⟩ := h.some h0
  exact ⟨b, rest, by rw [e]; rfl, hr _ e⟩
theorem Gw.gd {S : Sh} {g : Option (Nat × List Value)} {len cap : Nat} {ds : List Nat} (h : Gw g len cap 1 (u32s ds)) (hr : ∀ x, g = Option.some x → Row S x.1 tU32 (u32s ds ++ x.2)) (hb : len ≤ 281474976710656) (hlt : ∀ d ∈ ds, d < 65536) : Gd S (gp g) len cap ds := by
  have hl := h.hl
  rw [u32s_length, Nat.mul_one] at hl
  refine ⟨hl, h.hc, hb, hlt, fun h0 => ?_⟩
  obtain ⟨b, rest, e⟩ := h.some h0
  exact ⟨b, 0, [], rest, by rw [e]; rfl, by simpa using hr _ e, rfl⟩
theorem gown_own {S0 S : Sh} {w0 w : World} (H1 : Own) {H : Own} {b : Nat} {rest : List Value} {T : TypeId} {cs : List Value} (h : Run S0 w0 S ((b, T, cs ++ rest) :: (H1 ++ H)) w) : Run S0 w0 S (H1 ++ (Xt (Option.some (b, rest)) T cs ++ H)) w :=
  h.perm (by simp [Xt, List.perm_middle.symm])
theorem gown_out {S0 S : Sh} {w0 w : World} (H1 : Own) {H : Own} {b : Nat} {rest : List Value} {T : TypeId} {cs : List Value} (h : Run S0 w0 S (H1 ++ (Xt (Option.some (b, rest)) T cs ++ H)) w) : Run S0 w0 S ((b, T, cs ++ rest) :: (H1 ++ H)) w :=
  h.perm (by simp [Xt])
theorem gown_swap {S0 S : Sh} {w0 w : World} (H1 : Own) {H2 H3 H : Own} (h : Run S0 w0 S (H1 ++ (H2 ++ (H3 ++ H))) w) : Run S0 w0 S (H1 ++ (H3 ++ (H2 ++ H))) w :=
  h.perm (List.Perm.append_left _ (by rw [← List.append_assoc, ← List.append_assoc]; exact List.Perm.append_right _ List.perm_append_comm))
theorem gown_in {S0 S : Sh} {w0 w : World} (H1 : Own) {H2 H : Own} (h : Run S0 w0 S (H1 ++ (H2 ++ H)) w) : Run S0 w0 S (H2 ++ (H1 ++ H)) w :=
  h.perm (by rw [← List.append_assoc, ← List.append_assoc]; exact List.Perm.append_right _ List.perm_append_comm)
section
variable {P : Program} {a : Act} {w : World} {n : Nat} {l : List (Nat × Value)} {K : Value → World → Prop}
variable {d : Option Tmp} {ty : TypeId} {pos : String} {af : Array Edge} {g0 : Option (Nat × Bool)}
theorem does_append0 {x y : Operand} {t e : TypeId} {len cap cap2 sz : Nat} {p p2 : Option Addr} (hL : Zz a n l)
    (hx : ev l x = Option.some (.slice p len cap)) (hy : ev l y = Option.some (.slice p2 0 cap2)) (ht : P.underlying t = Option.some (.slice e)) (hZ : Yo P e = Option.some sz) (hle : len ≤ cap)
    (k : K (.slice p len cap) w) : YG P ⟨d, .call ⟨.builtin .append, #[x, y], #[t, t]⟩, ty, pos, af, g0⟩ a w K := by
  refine Zw (v := .slice p len cap) (w' := w) ?_ k
  rw [YF]
  simp only [List.map_toArray, List.map_cons, List.map_nil, hL.ev hx, hL.ev hy]
  have hrun : (Builtin.append_ #[t, t] ty #[.slice p len cap, .slice p2 0 cap2]).run P w = .ok (.slice p len cap) w := by
    simp only [Builtin.append_, List.getElem?_toArray, List.getElem?_cons_zero, List.getElem?_cons_succ]
    rw [Zg (Zq ht)]
    simp only []
    rw [Zg (Yg hZ)]
    rw [Zg (Zq ht)]
    simp only [ZC, Bool.false_eq_true, if_false]
    rw [Zg (w' := w) (a := 0) rfl]
    rw [if_pos (by omega)]
    simp only [Bool.not_false, if_true]
    rw [Zg (w' := w) (a := (#[] : Array Value)) (by
      cases p2 with
      | none => rfl
      | some q => exact run_firstCells_some (P := P) w sz 0 q 0 cap2 [] (by simp) (by simp))]
    cases p with
    | none => rfl
    | some q => rfl
  show Sem.run P (do let v ← Builtin.append_ #[t, t] ty #[.slice p len cap, .slice p2 0 cap2]; (pure (Next.value v) : Sem Next)) w = _
  rw [Zg hrun]
  rfl
theorem does_appendD {x y : Operand} {t : TypeId} {len cap m cap2 : Nat} {p2 : Option Addr} {g : Option (Nat × List Value)} {ds es : List Nat} {S0 S : Sh} {w0 : World} {H : Own} (hL : Zz a n l)
    (hx : ev l x = Option.some (.slice (gp g) len cap)) (hy : ev l y = Option.some (.slice p2 m cap2))
    (ht : P.underlying t = Option.some (.slice tU64)) (hZ : Yo P tU64 = Option.some 1) (hB : Qx P tU64 = Option.some 8) (hz : XF P tU64 = Option.some (.int .u64 0)) (hG : Gw g len cap 1 (Yl ds)) (hR : Run S0 w0 S (Xt g tU64 (Yl ds) ++ H) w)
    (hd : Dg S p2 m cap2 es) (hlim : len + m ≤ 1099511627776)
    (k : ∀ g' cap' w', Gw g' (len + m) cap' 1 (Yl (ds ++ es)) → Run S0 w0 S (Xt g' tU64 (Yl (ds ++ es)) ++ H) w' → K (.slice (gp g') (len + m) cap') w') : YG P ⟨d, .call ⟨.builtin .append, #[x, y], #[t, t]⟩, ty, pos, af, g0⟩ a w K := by
  rcases Nat.eq_zero_or_pos m with e | h0
  · subst e
    have he : es = [] := List.length_eq_zero_iff.1 hd.hlen
    subst he
    refine does_append0 hL hx hy ht hZ hG.hc ?_
    have := k g cap w (by simpa using hG) (by simpa using hR)
    simpa using this
  · obtain ⟨b2, rest2, rfl, r⟩ := hd.row h0
    refine Qw hL hx hy ht hZ hB hz rfl hG hR (hR.row r) (vs := Yl es) ?_ (by rw [ZG, hd.hlen, Nat.mul_one]) (u64s_ones es) h0 (by omega) (by omega) fun g' cap' w' h1 h2 => k g' cap' w' (by rw [← QP]; exact h1) (by rw [← QP]; exact h2)
    rw [List.drop_zero, Nat.mul_one, ← hd.hlen, ← ZG es, List.take_left]
end
section
variable {P : Program} {a : Act} {w : World} {n : Nat} {l : List (Nat × Value)} {K : Value → World → Prop}
variable {d : Option Tmp} {ty : TypeId} {pos : String} {af : Array Edge} {g0 : Option (Nat × Bool)}
end
theorem foldl_push (ds : List Nat) (s : ByteArray) : (ds.map fun d : Nat => (d : Int)).foldl (fun r n => r.push (UInt8.ofNat n.toNat)) s = s ++ ⟨(ds.map UInt8.ofNat).toArray⟩ := by
  induction ds generalizing s with
  | nil => apply ByteArray.ext; simp
  | cons d r ih =>
    simp only [List.map_cons, List.foldl_cons]
    rw [ih]
    apply ByteArray.ext
    simp
section
variable {P : Program} {a : Act} {w : World} {n : Nat} {l : List (Nat × Value)} {K : Value → World → Prop}
variable {d : Option Tmp} {ty : TypeId} {pos : String} {af : Array Edge} {g0 : Option (Nat × Bool)}
theorem does_bytesStr {x : Operand} {t u e : TypeId} {b m cap : Nat} {T : TypeId} {ds : List Nat} {rest : List Value} (hL : Zz a n l) (hx : ev l x = Option.some (.slice (Option.some ⟨b, 0, none⟩) m cap)) (hs : P.underlying t = Option.some (.slice e)) (he : P.underlying e = Option.some (.int .u8)) (hd : P.underlying u = Option.some .string)
    (h : Has w b T (u8s ds ++ rest)) (hm : ds.length = m) (k : K (.string ⟨(ds.map UInt8.ofNat).toArray⟩) w) : YG P ⟨d, .convert t u x, ty, pos, af, g0⟩ a w K := by
  subst hm
  refine Zw (v := .string ⟨(ds.map UInt8.ofNat).toArray⟩) (w' := w) ?_ k
  have hl : (loadCells ⟨b, 0, none⟩ ds.length).run P w = .ok ((ds.map fun d : Nat => (d : Int)).map (Value.int .u8)).toArray w := by
    have := QQ (P := P) h (off := 0) (n := ds.length) (vs := u8s ds) (by rw [List.drop_zero, ← Qc ds, List.take_left]) (Qc ds)
    rw [this]
    unfold u8s
    rw [List.map_map]
    rfl
  have hrun : (convert t u (.slice (Option.some ⟨b, 0, none⟩) ds.length cap)).run P w = .ok (.string ⟨(ds.map UInt8.ofNat).toArray⟩) w := by
    rw [run_convert_bytes_string w t u e _ _ _ hs he hd, run_bytesToString w _ _ _ _ hl, foldl_push]
    rw [show (ByteArray.empty ++ (⟨(ds.map UInt8.ofNat).toArray⟩ : ByteArray)) = ⟨(ds.map UInt8.ofNat).toArray⟩ from by apply ByteArray.ext; simp]
  simp only [execOp, hL.ev hx]
  show Sem.run P (do let v ← convert t u (.slice (Option.some ⟨b, 0, none⟩) ds.length cap); (pure (Next.value v) : Sem Next)) w = _
  rw [Zg hrun]
  rfl
end
end Go.Cham
namespace Go.Cham
open Go Go.RowKit
section
variable {P : Program} {S0 : Sh} {w0 : World} {H0 : Own} {E0 : Qf} {st : Nat → Nat} {ops : Array Oper} {V : Nat → KV} {n : Nat} {l : List (Nat × Value)} {lz : Olds} {S1 : Sh} {i : Nat} {o : Oper}
theorem does_storeRA {done : Nat → Bool} {S : Sh} {E : Qf} {a : Act} {w : World} {t : TypeId} {x y : Operand} {b k off : Nat} {T : TypeId} {cs cs' : List Value} {v : Value} {l' : List (Nat × Value)} {R : Sh → List Value → Prop} {hR : ∀ S S' cs, S.le S' → R S cs → R S' cs}
    {ty : TypeId} {pos : String} {af : Array Edge} {g : Option (Nat × Bool)}
    (h : At S0 w0 H0 E0 st ops V n l lz S1 i ⟨none, .store t x y, ty, pos, af, g⟩ done S E a w) (hL : Zz a n l') (hx : ev l' x = some (.pointer (some ⟨b, off, none⟩))) (hy : ev l' y = some v) (hE0 : (k, b, T, cs, false) ∈ E0) (hst : st k = i)
    (hZ : Yo P t = some 1) (ho : one v = true) (hvc : v.cells.toList = [v]) (hoff : off < cs.length) (hcs : cs.set off v = cs') (hV : V i = .stored k T R hR) (hr : R S cs') :
    YG P ⟨none, .store t x y, ty, pos, af, g⟩ a w (Post S0 w0 H0 st V i ⟨none, .store t x y, ty, pos, af, g⟩ done S E) := by
  obtain ⟨cs0, s, hE, _, _, hf⟩ := h.le0 _ _ _ _ _ hE0
  have hs : s = false := by
    cases s with
    | false => rfl
    | true =>
      have := h.inv.sealed _ hE rfl
      simp only [hst, h.not] at this
      cases this
  subst hs
  have hc0 := hf rfl
  subst hc0
  obtain ⟨E1, E2, rfl⟩ := List.append_of_mem hE
  have hfront := h.run.perm Zb6
  have hlen : cs'.length = cs0.length := by rw [← hcs]; simp
  have hvs : v.cells.size = 1 := by have := congrArg List.length hvc; simpa using this
  refine Za6 (cs' := cs') hL hx hy hfront (by rw [hZ, hvs]) (by rw [hvs]; show off + 1 ≤ cs0.length; omega) (fun u hu => by rw [hvc] at hu; simp at hu; rw [hu]; exact ho) ?_ fun w' r => ?_
  · rw [hvc, ← hcs]
    unfold XD
    rw [List.set_eq_take_append_cons_drop, if_pos hoff]
    simp
  refine ⟨S, E1 ++ (k, b, T, cs', true) :: E2, .refl S, ?_, ⟨r.perm (Zb6 (x := (k, b, T, cs', true)) (E1 := E1) (E2 := E2) (H := H0)).symm, ?_, ?_, ?_⟩, ?_⟩
  · intro i' b' T' cs' s' hm
    rcases List.mem_append.1 hm with hm | hm
    · exact ⟨cs', s', List.mem_append_left _ hm, rfl, fun e => ⟨rfl, e⟩, fun _ => rfl⟩
    · rcases List.mem_cons.1 hm with hm | hm
      · simp only [Prod.mk.injEq] at hm
        obtain ⟨rfl, rfl, rfl, rfl, rfl⟩ := hm
        exact ⟨_, true, by simp, hlen, (fun e => by cases e), fun e => by cases e⟩
      · exact ⟨cs', s', List.mem_append_right _ (List.mem_cons_of_mem _ hm), rfl, fun e => ⟨rfl, e⟩, fun _ => rfl⟩
  · have := h.inv.nodup; simpa using this
  · intro z hz hlt
    rcases List.mem_append.1 hz with hz | hz
    · simp [h.inv.made z (by simp [hz]) hlt]
    · rcases List.mem_cons.1 hz with rfl | hz
      · have := h.inv.made _ hE hlt
        simpa using Or.inl this
      · simp [h.inv.made z (by simp [hz]) hlt]
  · intro z hz hs
    rcases List.mem_append.1 hz with hz | hz
    · simp [h.inv.sealed z (by simp [hz]) hs]
    · rcases List.mem_cons.1 hz with rfl | hz
      · simp [hst]
      · simp [h.inv.sealed z (by simp [hz]) hs]
  · rw [hV]
    exact ⟨b, cs', by simp, hr⟩
end
end Go.Cham
namespace Go.Cham
open Go
theorem mkRat_num (a : Int) (d : Nat) (hd : d ≠ 0) : (mkRat a d).num = a / (a.natAbs.gcd d : Nat) := by
  unfold mkRat
  rw [dif_neg hd, Rat.normalize_eq]
theorem mkRat_den (a : Int) (d : Nat) (hd : d ≠ 0) : (mkRat a d).den = d / a.natAbs.gcd d := by
  unfold mkRat
  rw [dif_neg hd, Rat.normalize_eq]
theorem mkRat_num1 {a : Int} {d : Nat} (hd : d ≠ 0) (h : a.natAbs.gcd d = 1) : (mkRat a d).num = a := by
  rw [mkRat_num a d hd, h]; simp
theorem mkRat_den1 {a : Int} {d : Nat} (hd : d ≠ 0) (h : a.natAbs.gcd d = 1) : (mkRat a d).den = d := by
  rw [mkRat_den a d hd, h]; simp
def Zae : List Nat → List Nat × List Nat × Bool
  | [] => ([], [], false)
  | c :: r => if c = 47 then ([], r, true) else (c :: (Zae r).1, (Zae r).2.1, (Zae r).2.2)
theorem cutl_no {l : List Nat} (h : 47 ∉ l) : Zae l = (l, [], false) := by
  induction l with
  | nil => rfl
  | cons c r ih =>
    simp only [List.mem_cons, not_or] at h
    unfold Zae
    rw [if_neg (by omega), ih h.2]
theorem XJ (l : List Nat) : 47 ∉ (Zae l).1 ∧ l = (Zae l).1 ++ (if (Zae l).2.2 then 47 :: (Zae l).2.1 else []) := by
  induction l with
  | nil => simp [Zae]
  | cons c r ih =>
    unfold Zae
    split
    · rename_i h; subst h; simp
    · rename_i h
      refine ⟨?_, ?_⟩
      · simp only [List.mem_cons, not_or]; exact ⟨by omega, ih.1⟩
      · simp only [List.cons_append, List.cons.injEq, true_and]; exact ih.2
def Qs (l : List Nat) : List Nat := (Zae l).1
def fmin (l : List Nat) : Bool := decide ((Qs l).getD 0 0 = 45)
def Zbd (l : List Nat) : List Nat := if fmin l then (Qs l).drop 1 else Qs l
def ftwo (l : List Nat) : Bool := (Zae l).2.2
def fden (l : List Nat) : List Nat := if ftwo l then (Zae l).2.1 else [49]
def fbad (l : List Nat) : Prop := ¬ wd (Zbd l) ∨ ¬ wd (fden l) ∨ (fmin l = true ∧ Zbd l = [48])
instance (l : List Nat) : Decidable (fbad l) := by unfold fbad; infer_instance
def XN (l : List Nat) : Prop := 256 < (Zbd l).length ∨ 256 < (fden l).length
instance (l : List Nat) : Decidable (XN l) := by unfold XN; infer_instance
def fred (l : List Nat) : Prop := ftwo l = true ∧ (XM (fden l) < 2 ∨ Nat.gcd (XM (Zbd l)) (XM (fden l)) ≠ 1)
instance (l : List Nat) : Decidable (fred l) := by unfold fred; infer_instance
def fraw (l : List Nat) : Int := if fmin l then -(XM (Zbd l) : Int) else XM (Zbd l)
def ferr (l : List Nat) : Int := if fbad l then 12 else if XN l then 3 else if fred l then 12 else 0
def fval (l : List Nat) : Rat := if ferr l = 0 then mkRat (fraw l) (XM (fden l)) else 0
theorem fraw_abs (l : List Nat) : (fraw l).natAbs = XM (Zbd l) := by unfold fraw; split <;> simp
theorem ferr_cases (l : List Nat) : (fbad l ∧ ferr l = 12) ∨ (¬ fbad l ∧ XN l ∧ ferr l = 3) ∨ (¬ fbad l ∧ ¬ XN l ∧ fred l ∧ ferr l = 12) ∨ (¬ fbad l ∧ ¬ XN l ∧ ¬ fred l ∧ ferr l = 0) := by
  unfold ferr
  by_cases h1 : fbad l
  · simp [h1]
  · by_cases h2 : XN l
    · simp [h1, h2]
    · by_cases h3 : fred l <;> simp [h1, h2, h3]
theorem fval_bad {l : List Nat} (h : ferr l ≠ 0) : fval l = 0 := if_neg h
theorem fval_ok {l : List Nat} (h : ferr l = 0) : fval l = mkRat (fraw l) (XM (fden l)) := if_pos h
theorem one_pval : XM [49] = 1 := by decide
theorem Zca {l : List Nat} (h : ¬ fbad l) (h2 : ¬ fred l) : XM (fden l) ≠ 0 := by
  unfold fden
  cases ht : ftwo l with
  | false => simp [one_pval]
  | true =>
    simp only [fred, ht, true_and, not_or] at h2
    have : fden l = (Zae l).2.1 := by unfold fden; simp [ht]
    rw [this] at h2
    simp only [↓reduceIte]
    omega
end Go.Cham
namespace Go.Cham
open Go
theorem ten19 : 10 ^ 19 = 10000000000000000000 := by decide
theorem pow19_split {i : Nat} (hi : i ≤ 19) : 10 ^ 19 = 10 ^ i * 10 ^ (19 - i) := by rw [← Nat.pow_add]; congr 1; omega
theorem text_split {V i : Nat} (hi : i ≤ 19) : V / 10 ^ i = V / 10000000000000000000 * 10 ^ (19 - i) + V % 10000000000000000000 / 10 ^ i := by
  have h := Nat.div_add_mod V 10000000000000000000
  have hp := pow19_split hi
  rw [ten19] at hp
  have hpos : 0 < 10 ^ i := Nat.pow_pos (by decide)
  conv => lhs; rw [← h, hp, Nat.mul_assoc, Nat.add_comm, Nat.add_mul_div_left _ _ hpos]
  rw [← hp, Nat.mul_comm (10 ^ (19 - i)), Nat.add_comm]
theorem text_dig {V i : Nat} (hi : i < 19) : V / 10 ^ i % 10 = V % 10000000000000000000 / 10 ^ i % 10 := by
  rw [text_split (Nat.le_of_lt hi)]
  have e : 10 ^ (19 - i) = 10 * 10 ^ (18 - i) := by rw [show 19 - i = (18 - i) + 1 by omega, Nat.pow_succ, Nat.mul_comm]
  rw [e, ← Nat.mul_assoc, Nat.mul_comm _ 10, Nat.mul_assoc, Nat.mul_add_mod]
theorem text_nz {V i : Nat} (hi : i ≤ 19) (h : 0 < V / 10000000000000000000 ∨ 0 < V % 10000000000000000000 / 10 ^ i) : V / 10 ^ i ≠ 0 := by
  rw [text_split hi]
  have : 0 < 10 ^ (19 - i) := Nat.pow_pos (by decide)
  rcases h with h | h
  · exact Nat.ne_of_gt (Nat.lt_of_lt_of_le (Nat.mul_pos h this) (Nat.le_add_right _ _))
  · exact Nat.ne_of_gt (Nat.lt_of_lt_of_le h (Nat.le_add_left _ _))
theorem Zbr (a m i : Nat) : a / 10 ^ (m + i) = a / 10 ^ m / 10 ^ i := by rw [Nat.pow_add, Nat.div_div_eq_div_mul]
theorem text_out {a m i V rr : Nat} {o : List Nat} (hV : V = a / 10 ^ m) (hi : i < 19) (ho : o = ((ZQ 10 a).take (m + i)).map (· + 48)) (hr : rr = V % 10000000000000000000 / 10 ^ i) (h : 0 < V / 10000000000000000000 ∨ 0 < rr) :
    o ++ [48 + rr % 10] = ((ZQ 10 a).take (m + (i + 1))).map (· + 48) := by
  subst ho hr
  have hz : a / 10 ^ (m + i) ≠ 0 := by rw [Zbr, ← hV]; exact text_nz (by omega) h
  rw [show m + (i + 1) = (m + i) + 1 by omega, digs_take_succ (by decide) _ _ hz, List.map_append, Zbr, ← hV, List.map_cons, List.map_nil, text_dig (V := V) hi, Nat.add_comm 48]
theorem text_rr {V i : Nat} : V % 10000000000000000000 / 10 ^ i / 10 = V % 10000000000000000000 / 10 ^ (i + 1) := by rw [Nat.div_div_eq_div_mul, ← Nat.pow_succ]
theorem Zb2 {a m i V : Nat} (hV : V = a / 10 ^ m) (hi : i ≤ 19) (h : i = 19 ∨ (V / 10000000000000000000 = 0 ∧ V % 10000000000000000000 / 10 ^ i = 0)) : V / 10000000000000000000 = a / 10 ^ (m + i) := by
  rw [Zbr, ← hV, text_split hi]
  rcases h with h | ⟨h1, h2⟩
  · subst h
    have : V % 10000000000000000000 / 10 ^ 19 = 0 := Nat.div_eq_of_lt (by rw [ten19]; exact Nat.mod_lt _ (by decide))
    rw [this]; simp
  · rw [h1, h2]; simp
theorem text_done {a m : Nat} {o : List Nat} (ha : a ≠ 0) (h : a / 10 ^ m = 0) (ho : o = ((ZQ 10 a).take m).map (· + 48)) : o = (ZQ 10 a).map (· + 48) ∧ 0 < o.length := by
  rw [digs_take_all (by decide) h] at ho
  refine ⟨ho, ?_⟩
  rw [ho, List.length_map, XX (by decide) ha]
  simp
theorem text_fin {a : Nat} {o us : List Nat} (ha : a ≠ 0) (ho : o = (ZQ 10 a).map (· + 48)) (h : us = o.reverse) : Xg us = txt a := by
  unfold txt decs
  rw [if_neg ha, h, ho]
theorem val_pos {d : List Nat} (hz : d.getLast? ≠ some 0) (h : 0 < d.length) : 0 < val W64 d := by
  have h1 := digs_val (B := W64) (by decide) d
  rcases Nat.eq_zero_or_pos (val W64 d) with e | e
  · exfalso
    have := val_ge_pow (B := W64) (by decide) d (by intro e; subst e; simp at h) hz
    have : 0 < W64 ^ (d.length - 1) := Nat.pow_pos (by decide)
    omega
  · exact e
theorem Zb7 {ds : List Nat} {n : Nat} (hn : n ≤ ds.length) (h : n = 0 ∨ ds.getD (n - 1) 0 ≠ 0) : (ds.take n).getLast? ≠ some 0 := by
  rcases Nat.eq_zero_or_pos n with e | e
  · subst e; simp
  · rcases h with h | h
    · omega
    · rw [List.getLast?_eq_getElem?]
      have hl : (ds.take n).length = n := by simp; omega
      rw [hl, List.getElem?_take, if_pos (by omega)]
      rw [List.getD_eq_getElem?_getD, List.getElem?_eq_getElem (by omega)] at h
      rw [List.getElem?_eq_getElem (by omega)]
      simpa using h
theorem lt_take {ds : List Nat} {n B : Nat} (h : ∀ e ∈ ds, e < B) : ∀ e ∈ ds.take n, e < B := fun e he => h e (List.mem_of_mem_take he)
structure Zcp (o us : List Nat) (i : Nat) : Prop where
  len : us.length = o.length
  get : ∀ k, k < o.length → us.getD k 0 = if k < i ∨ o.length ≤ k + i then o.getD (o.length - 1 - k) 0 else o.getD k 0
theorem Zcp.start (o : List Nat) : Zcp o o 0 := ⟨rfl, fun k hk => by rw [if_neg (by omega)]⟩
theorem Zcp.step {o us : List Nat} {i j : Nat} (h : Zcp o us i) (hj : j + i + 1 = o.length) (hi : i < j) : Zcp o ((us.set i (us.getD j 0)).set j (us.getD i 0)) (i + 1) := by
  refine ⟨by simp [h.len], fun k hk => ?_⟩
  have e1 : us.getD j 0 = o.getD j 0 := by rw [h.get j (by omega), if_neg (by omega)]
  have e2 : us.getD i 0 = o.getD i 0 := by rw [h.get i (by omega), if_neg (by omega)]
  rw [e1, e2]
  by_cases hkj : k = j
  · subst hkj
    rw [if_pos (by omega), Ys (by rw [List.length_set, h.len]; omega)]
    congr 1; omega
  · rw [YL (by omega)]
    by_cases hki : k = i
    · subst hki
      rw [if_pos (by omega), Ys (by rw [h.len]; omega)]
      congr 1; omega
    · rw [YL (by omega), h.get k hk]
      by_cases hc : k < i ∨ o.length ≤ k + i
      · rw [if_pos hc, if_pos (by omega)]
      · rw [if_neg hc, if_neg (by omega)]
theorem Zcp.done {o us : List Nat} {i j : Nat} (h : Zcp o us i) (hj : j + i + 1 = o.length) (hi : ¬ i < j) (hij : i ≤ j + 1) : us = o.reverse := by
  apply List.ext_getElem (by simp [h.len])
  intro k h1 h2
  have hk : k < o.length := by rw [← h.len]; exact h1
  have hg := h.get k hk
  rw [List.getD_eq_getElem?_getD, List.getElem?_eq_getElem h1] at hg
  simp only [Option.getD_some] at hg
  rw [hg, List.getElem_reverse]
  have hget : ∀ q, q < o.length → o.getD q 0 = o[q]! := fun q hq => by simp [List.getD_eq_getElem?_getD, List.getElem?_eq_getElem hq, hq]
  split
  · rw [hget _ (by omega)]; simp [show o.length - 1 - k < o.length by omega]
  · have : k = o.length - 1 - k := by omega
    rw [hget k hk]
    simp only [hk, getElem!_pos]
    congr 1
theorem Gw.retake {b rest len cap n} {d ds : List Nat} (h : Gw (Option.some (b, rest)) len cap 1 (Yl d)) (hl : ds.length = d.length) (hn : n ≤ len) : Gw (Option.some (b, Yl (ds.drop n) ++ rest)) n cap 1 (Yl (ds.take n)) := by
  have h1 := h.hl
  have h2 := h.hs _ rfl
  have h3 := h.hc
  rw [ZG] at h1
  simp only [List.length_append, ZG] at h2
  refine ⟨by rw [ZG, List.length_take]; omega, by omega, by simp, fun x hx => ?_⟩
  cases hx
  simp only [List.length_append, ZG, List.length_take, List.length_drop]
  omega
theorem digs_nil {B n : Nat} (hB : 2 ≤ B) (h : (ZQ B n).length = 0) : n = 0 := by
  have := Yk hB n
  rw [List.length_eq_zero_iff.1 h] at this
  exact this.symm
theorem digs10_len {a k : Nat} (h : a ≤ 2 ^ k) : (ZQ 10 a).length ≤ k + 1 := by
  have := decs_len_le h
  unfold decs at this
  split at this
  · rename_i e; rw [e, YJ]; simp
  · simpa using this
theorem text_pos {ds : List Nat} {n V : Nat} (hn : n ≤ ds.length) (hz : n = 0 ∨ ds.getD (n - 1) 0 ≠ 0) (h0 : 0 < n) (hv : val W64 (ds.take n) = val W64 ds) (hV : val W64 ds = V) : 0 < V := by
  rw [← hV, ← hv]
  exact val_pos (Zb7 hn hz) (by simp; omega)
theorem text_zero {ds : List Nat} {n V : Nat} (h0 : ¬ 0 < n) (hv : val W64 (ds.take n) = val W64 ds) (hV : val W64 ds = V) : V = 0 := by
  rw [← hV, ← hv, show n = 0 by omega]; rfl
end Go.Cham
namespace Go.Cham
open Go Go.RowKit Go.Proofs
theorem agg_5 : aggT Tryz.prog 5 = some false := by kernel_rfl
theorem Zbg : Yo Tryz.prog 5 = some 1 := by kernel_rfl
theorem bytes_5 : Qx Tryz.prog 5 = some 1 := by kernel_rfl
theorem zero_5 : XF Tryz.prog 5 = some (.int .u8 (0 : Int)) := by kernel_rfl
end Go.Cham
namespace Go.Cham
open Go Go.RowKit Go.Proofs
set_option maxRecDepth 20000 in
theorem nat_Nat_Text {S : Sh} {w : World} (hS : Yw S w) {c_a : List Value} {a : Nat} {k_a : Nat} (h_a : Na S c_a (a) (k_a)) (hlim : k_a ≤ 1099511627776) : Calls Tryz.prog 118 [(.agg (c_a : List Value).toArray)].toArray w (Ret S w (fun S v => v = .string (txt a))) := by
 refine ZT (n := 85) Tryz.func118 rfl rfl ?_
 intro ac0 L0
 replace L0 : Zz ac0 85 [(0, (.agg (c_a : List Value).toArray))] := L0
 have R0 : Run S w S [] w := .start hS
 have hdl := digs10_len h_a.1; have hla := Xc h_a.1
 refine wp_seq (Za (so L0 rfl (Yq (cs := c_a) L0 rfl R0 rfl ?_)))
 intro b1 _ _ l1 r1 R1 _ L1
 refine so L1 rfl (Zc L1 rfl fun _ L2 => (sn (wp_seq (Za (so L2 rfl (Zt L2 rfl ZJ Zk (R1.row r1) h_a.len fun _ L3 => (so L3 rfl (Zp L3 rfl Zap (YE R1.holds    (h_a.up l1) ) fun v_1 S2 w2 x1 v1 => ?_))))))))
 have R2 := R1.call x1
 obtain ⟨p1, len1, cap1, rfl, y1, z1, hg1, hd1⟩ := v1
 intro _ L4
 have R3 : Run S w S2 (Xt none 29 (Yl []) ++ []) w2 := R2
 refine so L4 rfl (does_appendD (g := none) (ds := []) (H := []) L4 rfl rfl Tryz.underlying30 ZB XY Xv (Gw.nil 1) R3 hd1 (by omega) fun g1 cap2 w3 hG1 R4 _ L5 => (so L5 rfl (Zc L5 rfl fun _ L6 => ?_)))
 have L7 := (L6.kp [2, 3] rfl); clear L6
 refine sn (wp_seq (wp_seq (Za (so L7 rfl (Zb L7 rfl ?_)))))
 intro _ L8
 refine so L8 rfl (ZO L8 rfl Tryz.underlying30 fun _ L9 => ?_)
 by_cases t1 : (((0 + len1) : Nat) : Int) = (0 : Int)
 ·exact so L9 rfl (Zf (b := true) (decide_eq_true t1) (fun _ k_ => ZY L9 rfl rfl k_) fun _ L10 => (sn (Zs L10 rfl rfl (wp_seq (Za (so L10 rfl (Zc L10 rfl fun _ L11 => (sn (wp_ret ((ZE (Zv (rs := Tryz.f118.results.toList) L11 rfl (.tmp rfl Res.nil) (⟨_, _, rfl, R4.ext, (by (have e : a = 0 := digs_nil (B := W64) (by decide) (by omega)); subst e; rfl)⟩)))))))))))))
 ·refine so L9 rfl (Zf (b := false) (decide_eq_false t1) (fun _ k_ => ZY L9 rfl rfl k_) fun _ L12 => (sn (Zn L12 rfl rfl (wp_skip ((Ze (wp_seq ?_)))))))
  have ha : a ≠ 0 := fun e => by simp [e, YJ] at y1; omega
  refine Za (so L12 rfl (Zc L12 rfl ?_))
  intro _ L13
  refine sn (wp_seq (wp_block ?_))
  have R5 : Run S w S2 (Xt g1 29 (Yl ([] ++ (ZQ W64 a))) ++ (Xt none 5 (u8s []) ++ [])) w3 := R4
  refine ZZ (fun m ac ww => ∃ (S' : Sh) (mm : Nat) (g_dd : Option (Nat × List Value)) (len_dd : Nat) (cap_dd : Nat) (dd : List Nat) (g_out : Option (Nat × List Value)) (len_out : Nat) (cap_out : Nat) (out : List Nat), S2.le S' ∧ Zz ac 85 [(2, (.string (⟨#[]⟩ : ByteArray))), (3, (.slice (gp g_dd) len_dd cap_dd)), (4, (.slice (gp g_out) len_out cap_out))] ∧ Run S w S' (Xt g_dd 29 (Yl dd) ++ (Xt g_out 5 (u8s out) ++ [])) ww ∧ (Gw g_out len_out cap_out 1 (u8s out)) ∧ (Gw g_dd len_dd cap_dd 1 (Yl dd)) ∧ (∀ e ∈ dd, e < 18446744073709551616) ∧ (dd.getLast? ≠ some 0) ∧ (val W64 dd = a / 10 ^ mm) ∧ (out = ((ZQ 10 a).take mm).map (· + 48)) ∧ (len_dd ≤ 1099511627777) ∧ m = val W64 dd)
   (val W64 ([] ++ (ZQ W64 a))) ⟨S2, 0, g1, (0 + len1), cap2, ([] ++ (ZQ W64 a)), none, 0, 0, [], Sh.le.refl _, (L13.kp [4, 3, 2] rfl), R5, (by exact (Gw.nil 1)), (by exact hG1), (by exact digs_lt (by decide) _), (by exact digs_last (by decide) _), (by rw [List.nil_append, Yk (by decide)]; simp), (by simp), (by omega), rfl⟩ ?_
  rintro m_1 ac1 w4 ⟨S3, mm, g_dd, len_dd, cap_dd, dd, g_out, len_out, cap_out, out, l3, L14, R6, hG_out, hG_dd, hd, hz, hv, ho, hb, m1⟩
  have hl_dd := hG_dd.hl; rw [ZG, Nat.mul_one] at hl_dd; have hc_dd := hG_dd.hc
  have hl_out := hG_out.hl; rw [Qc, Nat.mul_one] at hl_out; have hc_out := hG_out.hc
  refine wp_seq (wp_seq (Za (so L14 rfl (Zb L14 rfl ?_))))
  intro _ L15
  refine so L15 rfl (ZO L15 rfl Tryz.underlying30 fun _ L16 => ?_)
  by_cases t2 : (0 : Int) < ((len_dd : Nat) : Int)
  ·refine so L16 rfl (Zf (b := true) (decide_eq_true t2) (fun _ k_ => ZP L16 rfl rfl k_) fun _ L17 => (sn (Zs L17 rfl rfl (wp_skip ((Ze (wp_block (wp_seq ?_))))))))
   obtain ⟨b2, rest_1, rfl⟩ := hG_dd.some (by omega)
   have R7 : Run S w S3 ((b2, 29, (Yl dd ++ rest_1)) :: (Xt g_out 5 (u8s out) ++ [])) w4 := gown_out [] (H := (Xt g_out 5 (u8s out) ++ [])) R6
   refine Za (so L17 rfl (Zb L17 rfl ?_))
   intro _ L18
   refine so L18 rfl (Xz L18 rfl ent_134 (nat_short (dv := 10000000000000000000)    (by exact R7) (by omega) (by omega) (by omega) (by omega) (hd) (by omega)) ?_)
   rintro _ _ ⟨v_2, S4, ds1, rfl, l4, R8, v2⟩
   refine ⟨v_2, rfl, ?_⟩
   obtain ⟨rfl, ho1, ho_2, ho3⟩ := v2
   have hsl := ho1; have hsl1 := ho_2; have hsl2 := ho3
   intro _ L19
   refine so L19 rfl (Zc L19 rfl fun _ L20 => (sn ?_))
   refine XG (fun ac ww => ∃ (S' : Sh) (n2 : Nat), S4.le S' ∧ Zz ac 85 [(2, (.string (⟨#[]⟩ : ByteArray))), (4, (.slice (gp g_out) len_out cap_out)), (15, (.slice (some ⟨b2, 0, none⟩) len_dd cap_dd)), (16, (.int .i64 ((len_dd : Nat) : Int))), (17, (.bool true)), (18, (.slice (some ⟨b2, 0, none⟩) len_dd cap_dd)), (19, (.int .u64 ((val W64 dd % 10000000000000000000 : Nat) : Int))), (5, (.int .u64 ((val W64 dd % 10000000000000000000 : Nat) : Int))), (3, (.slice (some ⟨b2, 0, none⟩) n2 cap_dd))] ∧ Run S w S' ((b2, 29, (Yl ds1 ++ rest_1)) :: (Xt g_out 5 (u8s out) ++ [])) ww ∧ (n2 ≤ len_dd) ∧ (val W64 (ds1.take n2) = val W64 ds1) ∧ (n2 = 0 ∨ ds1.getD (n2 - 1) 0 ≠ 0)) ?_ ?_
   ·rintro ac2 _ ⟨S5, n2, l5, L21, R9, hn2, hv2, hz2⟩
    refine wp_seq (Za (so L21 rfl (Zc L21 rfl ?_)))
    intro a19 L22
    refine sn (wp_block ?_)
    have e1 : (((val W64 dd % 10000000000000000000 : Nat) : Int) : Int) = (((val W64 dd % 10000000000000000000) : Nat) : Int) := by omega
    have L24 : Zz a19 85 [(5, (.int .u64 (((val W64 dd % 10000000000000000000) : Nat) : Int)))] := by have q := (L22.kp [5] rfl); rw [e1] at q; exact q
    have e2 : ((0 : Int) : Int) = ((0 : Nat) : Int) := by omega
    have L25 : Zz a19 85 [(6, (.int .i64 ((0 : Nat) : Int)))] := by have q := (L22.kp [6] rfl); rw [e2] at q; exact q
    refine ZZ (fun m ac ww => ∃ (S' : Sh) (i : Nat) (rr : Nat) (g_o2 : Option (Nat × List Value)) (len_o2 : Nat) (cap_o2 : Nat) (o2 : List Nat), S5.le S' ∧ Zz ac 85 [(2, (.string (⟨#[]⟩ : ByteArray))), (4, (.slice (gp g_o2) len_o2 cap_o2)), (15, (.slice (some ⟨b2, 0, none⟩) len_dd cap_dd)), (16, (.int .i64 ((len_dd : Nat) : Int))), (17, (.bool true)), (18, (.slice (some ⟨b2, 0, none⟩) len_dd cap_dd)), (19, (.int .u64 ((val W64 dd % 10000000000000000000 : Nat) : Int))), (5, (.int .u64 ((rr : Nat) : Int))), (3, (.slice (some ⟨b2, 0, none⟩) n2 cap_dd)), (6, (.int .i64 ((i : Nat) : Int)))] ∧ Run S w S' ((b2, 29, (Yl ds1 ++ rest_1)) :: (Xt g_o2 5 (u8s o2) ++ [])) ww ∧ (Gw g_o2 len_o2 cap_o2 1 (u8s o2)) ∧ (i ≤ 19) ∧ (rr = val W64 dd % 10000000000000000000 / 10 ^ i) ∧ (o2 = ((ZQ 10 a).take (mm + i)).map (· + 48)) ∧ m = 19 - i)
     (19 - 0) ⟨S5, 0, (val W64 dd % 10000000000000000000), g_out, len_out, cap_out, out, Sh.le.refl _, (L22.keep (L22.keep (L22.keep (L22.keep (L22.keep (L22.keep (L22.keep (L24.keep (L22.keep (L25.keep (Zz.none _ L22) (t := 6) rfl) (t := 3) rfl) (t := 5) rfl) (t := 19) rfl) (t := 18) rfl) (t := 17) rfl) (t := 16) rfl) (t := 15) rfl) (t := 4) rfl) (t := 2) rfl), R9, (by exact hG_out), (by omega), (by simp), (by exact ho), rfl⟩ ?_
    rintro m_2 ac3 w7 ⟨S6, i, rr, g_o2, len_o2, cap_o2, o2, l6, L23, R10, hG_o2, hi, hr, ho2, m2⟩
    have hl_o2 := hG_o2.hl; rw [Qc, Nat.mul_one] at hl_o2; have hc_o2 := hG_o2.hc
    refine wp_seq (wp_seq (Za (so L23 rfl (Zb L23 rfl ?_))))
    intro _ L26
    by_cases t3 : ((i : Nat) : Int) < (19 : Int)
    ·refine so L26 rfl (Zf (b := true) (decide_eq_true t3) (fun _ k_ => ZH L26 rfl rfl k_) fun _ L27 => (so L27 rfl (Zb L27 rfl fun _ L28 => (Zr L28 rfl rfl rfl rfl rfl (Zb L28 rfl fun _ L29 => (Zr L29 rfl rfl rfl rfl rfl (ZO L29 rfl Tryz.underlying30 fun _ L30 => ?_)))))))
     by_cases t4 : (0 : Int) < ((n2 : Nat) : Int)
     ·refine Zr L30 rfl rfl rfl rfl rfl (Zf (b := true) (decide_eq_true t4) (fun _ k_ => ZP L30 rfl rfl k_) fun _ L31 => (Zr L31 rfl rfl rfl rfl rfl (Zb L31 rfl fun _ L32 => (Zm L32 rfl rfl rfl rfl rfl rfl fun _ L33 => (Zm L33 rfl rfl rfl rfl rfl rfl fun _ L34 => (Zr L34 rfl rfl rfl rfl rfl (Zj L34 rfl rfl fun _ L35 => (so L35 rfl (Zj L35 rfl rfl fun _ L36 => (sn ?_))))))))))
      refine Zs L36 rfl rfl (wp_skip ((Ze (wp_seq (wp_block (wp_seq ?_))))))
      have hrl : rr < 10000000000000000000 := by rw [hr]; exact Nat.lt_of_le_of_lt (Nat.div_le_self _ _) (Nat.mod_lt _ (by decide))
      have hol : o2.length ≤ (ZQ 10 a).length := by rw [ho2, List.length_map, List.length_take]; omega
      refine Za (so L36 rfl (Zb L36 rfl ?_))
      intro _ L37
      refine so L37 rfl (Zb L37 rfl fun _ L38 => (so L38 rfl (Za7 (z := (((rr : Nat) : Int) % (10 : Int))) L38 rfl rfl (by omega) (rem_nn (by omega)) fun _ L39 => (so L39 rfl (ZK (z := ((48 : Int) + (((rr : Nat) : Int) % (10 : Int)))) L39 rfl rfl (IntWalk.u64_in _ (by omega)) fun _ L40 => (so L40 rfl (Qv (z := (((48 : Int) + (((rr : Nat) : Int) % (10 : Int))))) L40 rfl rfl Tryz.underlying5 (IntWalk.u8_in _ (by omega)) fun _ L41 => (so L41 rfl (YQ (cs := (u8s [((48 + (rr % 10)))] ++ [])) L41 Tryz.underlying189 Zbg zero_5 (.cons rfl rfl (by decide) .nil) [[(.int .u8 (((48 : Int) + (((rr : Nat) : Int) % (10 : Int)))))]] rfl rfl (by rfl) (by decide) R10 fun b3 _ R11 _ L42 => (so L42 rfl (Qw (g := g_o2) (cs := (u8s o2)) (vs := (u8s [((48 + (rr % 10)))])) (H := [(b3, 5, (u8s [((48 + (rr % 10)))] ++ [])), (b2, 29, (Yl ds1 ++ rest_1))] ++ []) L42 rfl rfl Tryz.underlying189 Zbg bytes_5 zero_5 rfl hG_o2 (gown_in [(b3, 5, (u8s [((48 + (rr % 10)))] ++ [])), (b2, 29, (Yl ds1 ++ rest_1))] (H2 := Xt g_o2 5 (u8s o2)) (H := []) R11) (R11.has (List.Mem.head _)) rfl rfl (u8s_ones _) (by omega) (by omega) (by omega) fun g2 cap3 w9 hG2 R12 _ L43 => ?_)))))))))))
      rw [u8s_append] at hG2 R12
      have R13 : Run S w S6 ((b3, 5, (u8s [((48 + (rr % 10)))] ++ [])) :: (b2, 29, (Yl ds1 ++ rest_1)) :: (Xt g2 5 (u8s (o2 ++ [((48 + (rr % 10)))])) ++ [])) w9 := gown_in (Xt g2 5 (u8s (o2 ++ [((48 + (rr % 10)))]))) (H2 := [(b3, 5, (u8s [((48 + (rr % 10)))] ++ [])), (b2, 29, (Yl ds1 ++ rest_1))]) (H := []) R12
      refine so L43 rfl (Zc L43 rfl fun _ L44 => (sn (Za (so L44 rfl (Zb L44 rfl fun _ L45 => (so L45 rfl (Za8 (z := (((rr : Nat) : Int) / (10 : Int))) L45 rfl rfl (by omega) (quo_nn (k := .u64) (by omega) (by omega) (show _ ≤ (18446744073709551615 : Int) by omega)) fun _ L46 => (so L46 rfl (Zc L46 rfl fun _ L47 => (Yr ((ZI (Ze (Za (so L47 rfl (Zb L47 rfl fun _ L48 => ?_))))))))))))))))
      refine so L48 rfl (ZK (z := (((i : Nat) : Int) + (1 : Int))) L48 rfl rfl (IntWalk.i64_in _ (by omega)) fun _ L49 => (so L49 rfl (Zc L49 rfl fun a44 L50 => (sn ?_))))
      have e3 : ((((rr : Nat) : Int) / (10 : Int)) : Int) = (((rr / 10) : Nat) : Int) := by omega
      have L51 : Zz a44 85 [(5, (.int .u64 (((rr / 10) : Nat) : Int)))] := by have q := (L50.kp [5] rfl); rw [e3] at q; exact q
      have e4 : ((((i : Nat) : Int) + (1 : Int)) : Int) = (((i + 1) : Nat) : Int) := by omega
      have L52 : Zz a44 85 [(6, (.int .i64 (((i + 1) : Nat) : Int)))] := by have q := (L50.kp [6] rfl); rw [e4] at q; exact q
      exact ⟨19 - (i + 1), (by omega), S6, (i + 1), (rr / 10), g2, (len_o2 + 1), cap3, (o2 ++ [((48 + (rr % 10)))]), l6, (L50.keep (L50.keep (L50.keep (L50.keep (L50.keep (L50.keep (L50.keep (L51.keep (L50.keep (L52.keep (Zz.none _ L50) (t := 6) rfl) (t := 3) rfl) (t := 5) rfl) (t := 19) rfl) (t := 18) rfl) (t := 17) rfl) (t := 16) rfl) (t := 15) rfl) (t := 4) rfl) (t := 2) rfl), (Run.mid [(b2, 29, (Yl ds1 ++ rest_1))] [(b3, 5, (u8s [((48 + (rr % 10)))] ++ []))] (ZX R13)), (by exact hG2), (by omega), (by rw [hr]; exact text_rr), (by first | exact text_out hv (by omega) ho2 hr (Or.inr (by omega)) | exact text_out hv (by omega) ho2 hr (Or.inl (text_pos (by omega) hz2 (by omega) hv2 hsl2))), rfl⟩
     ·refine Zr L30 rfl rfl rfl rfl rfl (Zf (b := false) (decide_eq_false t4) (fun _ k_ => ZP L30 rfl rfl k_) fun _ L53 => (Zr L53 rfl rfl rfl rfl rfl (Zb L53 rfl fun _ L54 => (Zr L54 rfl rfl rfl rfl rfl (Zb L54 rfl fun _ L55 => ?_)))))
      by_cases t5 : (0 : Int) < ((rr : Nat) : Int)
      ·refine Zr L55 rfl rfl rfl rfl rfl (Zf (b := true) (decide_eq_true t5) (fun _ k_ => ZP L55 rfl rfl k_) fun _ L56 => (Zr L56 rfl rfl rfl rfl rfl (Zj L56 rfl rfl fun _ L57 => (so L57 rfl (Zj L57 rfl rfl fun _ L58 => (sn (Zs L58 rfl rfl (wp_skip ((Ze (wp_seq (wp_block (wp_seq ?_)))))))))))))
       have hrl : rr < 10000000000000000000 := by rw [hr]; exact Nat.lt_of_le_of_lt (Nat.div_le_self _ _) (Nat.mod_lt _ (by decide))
       have hol : o2.length ≤ (ZQ 10 a).length := by rw [ho2, List.length_map, List.length_take]; omega
       refine Za (so L58 rfl (Zb L58 rfl ?_))
       intro _ L59
       refine so L59 rfl (Zb L59 rfl fun _ L60 => (so L60 rfl (Za7 (z := (((rr : Nat) : Int) % (10 : Int))) L60 rfl rfl (by omega) (rem_nn (by omega)) fun _ L61 => (so L61 rfl (ZK (z := ((48 : Int) + (((rr : Nat) : Int) % (10 : Int)))) L61 rfl rfl (IntWalk.u64_in _ (by omega)) fun _ L62 => (so L62 rfl (Qv (z := (((48 : Int) + (((rr : Nat) : Int) % (10 : Int))))) L62 rfl rfl Tryz.underlying5 (IntWalk.u8_in _ (by omega)) fun _ L63 => (so L63 rfl (YQ (cs := (u8s [((48 + (rr % 10)))] ++ [])) L63 Tryz.underlying189 Zbg zero_5 (.cons rfl rfl (by decide) .nil) [[(.int .u8 (((48 : Int) + (((rr : Nat) : Int) % (10 : Int)))))]] rfl rfl (by rfl) (by decide) R10 fun b4 _ R14 _ L64 => (so L64 rfl (Qw (g := g_o2) (cs := (u8s o2)) (vs := (u8s [((48 + (rr % 10)))])) (H := [(b4, 5, (u8s [((48 + (rr % 10)))] ++ [])), (b2, 29, (Yl ds1 ++ rest_1))] ++ []) L64 rfl rfl Tryz.underlying189 Zbg bytes_5 zero_5 rfl hG_o2 (gown_in [(b4, 5, (u8s [((48 + (rr % 10)))] ++ [])), (b2, 29, (Yl ds1 ++ rest_1))] (H2 := Xt g_o2 5 (u8s o2)) (H := []) R14) (R14.has (List.Mem.head _)) rfl rfl (u8s_ones _) (by omega) (by omega) (by omega) fun g3 cap4 w11 hG3 R15 _ L65 => ?_)))))))))))
       rw [u8s_append] at hG3 R15
       have R16 : Run S w S6 ((b4, 5, (u8s [((48 + (rr % 10)))] ++ [])) :: (b2, 29, (Yl ds1 ++ rest_1)) :: (Xt g3 5 (u8s (o2 ++ [((48 + (rr % 10)))])) ++ [])) w11 := gown_in (Xt g3 5 (u8s (o2 ++ [((48 + (rr % 10)))]))) (H2 := [(b4, 5, (u8s [((48 + (rr % 10)))] ++ [])), (b2, 29, (Yl ds1 ++ rest_1))]) (H := []) R15
       refine so L65 rfl (Zc L65 rfl fun _ L66 => (sn (Za (so L66 rfl (Zb L66 rfl fun _ L67 => (so L67 rfl (Za8 (z := (((rr : Nat) : Int) / (10 : Int))) L67 rfl rfl (by omega) (quo_nn (k := .u64) (by omega) (by omega) (show _ ≤ (18446744073709551615 : Int) by omega)) fun _ L68 => (so L68 rfl (Zc L68 rfl fun _ L69 => (Yr ((ZI (Ze (Za (so L69 rfl (Zb L69 rfl fun _ L70 => ?_))))))))))))))))
       refine so L70 rfl (ZK (z := (((i : Nat) : Int) + (1 : Int))) L70 rfl rfl (IntWalk.i64_in _ (by omega)) fun _ L71 => (so L71 rfl (Zc L71 rfl fun a64 L72 => (sn ?_))))
       have e5 : ((((rr : Nat) : Int) / (10 : Int)) : Int) = (((rr / 10) : Nat) : Int) := by omega
       have L73 : Zz a64 85 [(5, (.int .u64 (((rr / 10) : Nat) : Int)))] := by have q := (L72.kp [5] rfl); rw [e5] at q; exact q
       have e6 : ((((i : Nat) : Int) + (1 : Int)) : Int) = (((i + 1) : Nat) : Int) := by omega
       have L74 : Zz a64 85 [(6, (.int .i64 (((i + 1) : Nat) : Int)))] := by have q := (L72.kp [6] rfl); rw [e6] at q; exact q
       exact ⟨19 - (i + 1), (by omega), S6, (i + 1), (rr / 10), g3, (len_o2 + 1), cap4, (o2 ++ [((48 + (rr % 10)))]), l6, (L72.keep (L72.keep (L72.keep (L72.keep (L72.keep (L72.keep (L72.keep (L73.keep (L72.keep (L74.keep (Zz.none _ L72) (t := 6) rfl) (t := 3) rfl) (t := 5) rfl) (t := 19) rfl) (t := 18) rfl) (t := 17) rfl) (t := 16) rfl) (t := 15) rfl) (t := 4) rfl) (t := 2) rfl), (Run.mid [(b2, 29, (Yl ds1 ++ rest_1))] [(b4, 5, (u8s [((48 + (rr % 10)))] ++ []))] (ZX R16)), (by exact hG3), (by omega), (by rw [hr]; exact text_rr), (by first | exact text_out hv (by omega) ho2 hr (Or.inr (by omega)) | exact text_out hv (by omega) ho2 hr (Or.inl (text_pos (by omega) hz2 (by omega) hv2 hsl2))), rfl⟩
      ·refine Zr L55 rfl rfl rfl rfl rfl (Zf (b := false) (decide_eq_false t5) (fun _ k_ => ZP L55 rfl rfl k_) fun _ L75 => (Zr L75 rfl rfl rfl rfl rfl (Zj L75 rfl rfl fun _ L76 => (so L76 rfl (Zj L76 rfl rfl fun _ L77 => (sn (Zn L77 rfl rfl (wp_exit ((ZA (ZA (YB (ZI (Ze ?_))))))))))))))
       have hq1 := R10; rw [u64s_split n2] at hq1
       have hG4 := Gw.retake (n := n2) (ds := ds1) hG_dd (by omega) (by omega)
       have R17 : Run S w S6 (Xt (some (b2, Yl (ds1.drop n2) ++ rest_1)) 29 (Yl (ds1.take n2)) ++ (Xt g_o2 5 (u8s o2) ++ [])) w7 := gown_own [] (H := (Xt g_o2 5 (u8s o2) ++ [])) hq1
       exact ⟨val W64 (ds1.take n2), (by rw [hv2, hsl2]; exact Nat.lt_of_lt_of_eq (Nat.div_lt_self (val_pos hz (by omega)) (show 1 < 10000000000000000000 by decide)) (by omega)), S6, (mm + i), (some (b2, Yl (ds1.drop n2) ++ rest_1)), n2, cap_dd, (ds1.take n2), g_o2, len_o2, cap_o2, o2, (l3.trans (l4.trans (l5.trans l6))), (L77.kp [4, 3, 2] rfl), R17, (by exact hG_o2), (by exact hG4), (by exact lt_take hsl1), (by exact Zb7 (by omega) hz2), (by rw [hv2, hsl2]; first | exact Zb2 hv (by omega) (Or.inl (by omega)) | exact Zb2 hv (by omega) (Or.inr ⟨text_zero (by omega) hv2 hsl2, by omega⟩)), (by exact ho2), (by omega), rfl⟩
    ·refine so L26 rfl (Zf (b := false) (decide_eq_false t3) (fun _ k_ => ZH L26 rfl rfl k_) fun _ L78 => (so L78 rfl (Zb L78 rfl fun _ L79 => (Zm L79 rfl rfl rfl rfl rfl rfl fun _ L80 => (Zm L80 rfl rfl rfl rfl rfl rfl fun _ L81 => (Zm L81 rfl rfl rfl rfl rfl rfl fun _ L82 => (Zm L82 rfl rfl rfl rfl rfl rfl fun _ L83 => (Yd L83 rfl rfl rfl rfl rfl fun _ L84 => ?_))))))))
     refine Yd L84 rfl rfl rfl rfl rfl ?_
     intro _ L85
     refine Zm L85 rfl rfl rfl rfl rfl rfl fun _ L86 => (so L86 rfl (Zj L86 rfl rfl fun _ L87 => ?_))
     have L88 := (L87.kp [2, 4, 15, 16, 17, 18, 19, 5, 3, 6, 37, 38, 39, 47] rfl); clear L87
     refine sn (Zn L88 rfl rfl (wp_exit ((ZA (ZA (YB (ZI (Ze ?_))))))))
     have hq2 := R10; rw [u64s_split n2] at hq2
     have hG5 := Gw.retake (n := n2) (ds := ds1) hG_dd (by omega) (by omega)
     have R18 : Run S w S6 (Xt (some (b2, Yl (ds1.drop n2) ++ rest_1)) 29 (Yl (ds1.take n2)) ++ (Xt g_o2 5 (u8s o2) ++ [])) w7 := gown_own [] (H := (Xt g_o2 5 (u8s o2) ++ [])) hq2
     exact ⟨val W64 (ds1.take n2), (by rw [hv2, hsl2]; exact Nat.lt_of_lt_of_eq (Nat.div_lt_self (val_pos hz (by omega)) (show 1 < 10000000000000000000 by decide)) (by omega)), S6, (mm + i), (some (b2, Yl (ds1.drop n2) ++ rest_1)), n2, cap_dd, (ds1.take n2), g_o2, len_o2, cap_o2, o2, (l3.trans (l4.trans (l5.trans l6))), (L88.kp [4, 3, 2] rfl), R18, (by exact hG_o2), (by exact hG5), (by exact lt_take hsl1), (by exact Zb7 (by omega) hz2), (by rw [hv2, hsl2]; first | exact Zb2 hv (by omega) (Or.inl (by omega)) | exact Zb2 hv (by omega) (Or.inr ⟨text_zero (by omega) hv2 hsl2, by omega⟩)), (by exact ho2), (by omega), rfl⟩
   ·skip
    refine wp_block ?_
    refine ZZ (fun m ac ww => ∃ (S' : Sh) (n2 : Nat), S4.le S' ∧ Zz ac 85 [(2, (.string (⟨#[]⟩ : ByteArray))), (3, (.slice (some ⟨b2, 0, none⟩) n2 cap_dd)), (4, (.slice (gp g_out) len_out cap_out)), (15, (.slice (some ⟨b2, 0, none⟩) len_dd cap_dd)), (16, (.int .i64 ((len_dd : Nat) : Int))), (17, (.bool true)), (18, (.slice (some ⟨b2, 0, none⟩) len_dd cap_dd)), (19, (.int .u64 ((val W64 dd % 10000000000000000000 : Nat) : Int))), (5, (.int .u64 ((val W64 dd % 10000000000000000000 : Nat) : Int)))] ∧ Run S w S' ((b2, 29, (Yl ds1 ++ rest_1)) :: (Xt g_out 5 (u8s out) ++ [])) ww ∧ (n2 ≤ len_dd) ∧ (val W64 (ds1.take n2) = val W64 ds1) ∧ m = n2)
     (len_dd) ⟨S4, len_dd, Sh.le.refl _, (L20.kp [5, 19, 18, 17, 16, 15, 4, 3, 2] rfl), R8, (by omega), (by rw [List.take_of_length_le (by omega)]), rfl⟩ ?_
    rintro m_3 ac4 _ ⟨S7, n2, l7, L89, R19, hn2, hv2, m3⟩
    refine wp_seq (wp_seq (Za (so L89 rfl (Zb L89 rfl ?_))))
    intro _ L90
    refine so L90 rfl (ZO L90 rfl Tryz.underlying30 fun _ L91 => ?_)
    by_cases t6 : (0 : Int) < ((n2 : Nat) : Int)
    ·refine so L91 rfl (Zf (b := true) (decide_eq_true t6) (fun _ k_ => ZP L91 rfl rfl k_) fun _ L92 => (so L92 rfl (Zb L92 rfl fun _ L93 => (Zr L93 rfl rfl rfl rfl rfl (Zb L93 rfl fun _ L94 => (Zr L94 rfl rfl rfl rfl rfl (Zb L94 rfl fun _ L95 => (Zr L95 rfl rfl rfl rfl rfl (ZO L95 rfl Tryz.underlying30 fun _ L96 => (Zr L96 rfl rfl rfl rfl rfl (ZS (z := (((n2 : Nat) : Int) - (1 : Int))) L96 rfl rfl (IntWalk.i64_in _ (by omega)) fun _ L97 => (Zr L97 rfl rfl rfl rfl rfl (Zu ((n2 - 1)) L97 rfl rfl Tryz.underlying30 ZB (by omega) (by omega) fun _ L98 => ?_)))))))))))))
     refine Zr L98 rfl rfl rfl rfl rfl (Zl (v := (.int .u64 ((ds1.getD ((n2 - 1)) 0 : Nat) : Int))) L98 rfl Yi (R19.has (List.Mem.head _)) (by rw [Nat.zero_add]; exact ZW (by omega)) fun _ L99 => ?_)
     by_cases t7 : ((ds1.getD ((n2 - 1)) 0 : Nat) : Int) = (0 : Int)
     ·refine Zr L99 rfl rfl rfl rfl rfl (Zf (b := true) (decide_eq_true t7) (fun _ k_ => ZY L99 rfl rfl k_) fun _ L100 => (so L100 rfl (Zj L100 rfl rfl fun _ L101 => (sn (Zs L101 rfl rfl (wp_skip ((Ze (wp_block (Za (so L101 rfl (Zb L101 rfl fun _ L102 => (so L102 rfl (Zb L102 rfl fun _ L103 => ?_))))))))))))))
      exact so L103 rfl (ZO L103 rfl Tryz.underlying30 fun _ L104 => (so L104 rfl (ZS (z := ((n2 - 1 : Nat) : Int)) L104 rfl rfl (i64_to (by omega) (by omega)) fun _ L105 => (so L105 rfl (does_sliceHi (i := (n2 - 1)) L105 rfl rfl Tryz.underlying30 ZB (by omega) fun _ L106 => (so L106 rfl (Zc L106 rfl fun _ L107 => (Yr ((ZI (Ze (⟨(n2 - 1), (by omega), S7, (n2 - 1), l7, (L107.kp [5, 19, 18, 17, 16, 15, 4, 3, 2] rfl), R19, (by omega), (by rw [← hv2]; exact Zby (by omega) (by omega) (by omega)), rfl⟩))))))))))))
     ·exact Zr L99 rfl rfl rfl rfl rfl (Zf (b := false) (decide_eq_false t7) (fun _ k_ => ZY L99 rfl rfl k_) fun _ L108 => (so L108 rfl (Zj L108 rfl rfl fun _ L109 => (sn (Zn L109 rfl rfl (wp_exit ((ZA (ZA (YB (Ze (⟨S7, n2, l7, (L109.kp [3, 5, 19, 18, 17, 16, 15, 4, 2] rfl), R19, (by omega), (by exact hv2), (by omega)⟩))))))))))))
    ·refine so L91 rfl (Zf (b := false) (decide_eq_false t6) (fun _ k_ => ZP L91 rfl rfl k_) fun _ L110 => (so L110 rfl (Zb L110 rfl fun _ L111 => (Zm L111 rfl rfl rfl rfl rfl rfl fun _ L112 => (Zm L112 rfl rfl rfl rfl rfl rfl fun _ L113 => (Zm L113 rfl rfl rfl rfl rfl rfl fun _ L114 => (Zm L114 rfl rfl rfl rfl rfl rfl fun _ L115 => (Zm L115 rfl rfl rfl rfl rfl rfl fun _ L116 => ?_))))))))
     refine Zm L116 rfl rfl rfl rfl rfl rfl fun _ L117 => (Zm L117 rfl rfl rfl rfl rfl rfl fun _ L118 => (so L118 rfl (Zj L118 rfl rfl fun _ L119 => ?_)))
     have L120 := (L119.kp [2, 3, 4, 15, 16, 17, 18, 19, 5, 20, 21, 22, 23, 31] rfl); clear L119
     exact sn (Zn L120 rfl rfl (wp_exit ((ZA (ZA (YB (Ze (⟨S7, n2, l7, (L120.kp [3, 5, 19, 18, 17, 16, 15, 4, 2] rfl), R19, (by omega), (by exact hv2), (by omega)⟩))))))))
  ·refine so L16 rfl (Zf (b := false) (decide_eq_false t2) (fun _ k_ => ZP L16 rfl rfl k_) fun _ L121 => (sn (Zn L121 rfl rfl (wp_exit ((ZA (ZA (YB (Ze (wp_seq (wp_seq ?_)))))))))))
   have hdd : dd = [] := List.length_eq_zero_iff.1 (by omega)
   obtain ⟨hod, hop⟩ := text_done ha (by rw [← hv, hdd]; rfl) ho
   have hol : out.length = (ZQ 10 a).length := by rw [hod, List.length_map]
   have R20 : Run S w S3 (Xt g_out 5 (u8s out) ++ (Xt g_dd 29 (Yl dd) ++ [])) w4 := gown_swap [] R6
   obtain ⟨b5, rest_2, rfl⟩ := hG_out.some (by omega)
   have R21 : Run S w S3 ((b5, 5, (u8s out ++ rest_2)) :: (Xt g_dd 29 (Yl dd) ++ [])) w4 := gown_out [] (H := (Xt g_dd 29 (Yl dd) ++ [])) R20
   refine Za (so L121 rfl (Zb L121 rfl ?_))
   intro _ L122
   refine so L122 rfl (ZO L122 rfl Tryz.underlying189 fun _ L123 => (so L123 rfl (ZS (z := (((len_out : Nat) : Int) - (1 : Int))) L123 rfl rfl (IntWalk.i64_in _ (by omega)) fun _ L124 => (so L124 rfl (Zc L124 rfl fun _ L125 => (so L125 rfl (Zc L125 rfl fun a113 L126 => ?_)))))))
   have L127 := (L126.kp [2, 4, 7, 8] rfl); clear L126
   refine sn (wp_block ?_)
   have e7 : ((0 : Int) : Int) = ((0 : Nat) : Int) := by omega
   have L129 : Zz a113 85 [(7, (.int .i64 ((0 : Nat) : Int)))] := by have q := (L127.kp [7] rfl); rw [e7] at q; exact q
   have e8 : ((((len_out : Nat) : Int) - (1 : Int)) : Int) = (((len_out - 1) : Nat) : Int) := by omega
   have L130 : Zz a113 85 [(8, (.int .i64 (((len_out - 1) : Nat) : Int)))] := by have q := (L127.kp [8] rfl); rw [e8] at q; exact q
   refine ZZ (fun m ac ww => ∃ (S' : Sh) (us : List Nat) (i : Nat) (j : Nat), S3.le S' ∧ Zz ac 85 [(2, (.string (⟨#[]⟩ : ByteArray))), (4, (.slice (some ⟨b5, 0, none⟩) len_out cap_out)), (7, (.int .i64 ((i : Nat) : Int))), (8, (.int .i64 ((j : Nat) : Int)))] ∧ Run S w S' ((b5, 5, (u8s us ++ rest_2)) :: (Xt g_dd 29 (Yl dd) ++ [])) ww ∧ (Zcp out us i) ∧ (j + i + 1 = len_out) ∧ (i ≤ j + 1) ∧ m = j)
    ((len_out - 1)) ⟨S3, out, 0, (len_out - 1), Sh.le.refl _, (L127.keep (L127.keep (L129.keep (L130.keep (Zz.none _ L127) (t := 8) rfl) (t := 7) rfl) (t := 4) rfl) (t := 2) rfl), R21, (by exact Zcp.start _), (by omega), (by omega), rfl⟩ ?_
   rintro m_4 ac5 _ ⟨_, us, i, j, l8, L128, R22, hI, hj, hij, m4⟩
   refine wp_seq (wp_seq ?_)
   have hIl := hI.len
   refine Za (so L128 rfl (Zb L128 rfl ?_))
   intro _ L131
   refine so L131 rfl (Zb L131 rfl fun _ L132 => ?_)
   by_cases t8 : ((i : Nat) : Int) < ((j : Nat) : Int)
   ·refine so L132 rfl (Zf (b := true) (decide_eq_true t8) (fun _ k_ => ZH L132 rfl rfl k_) fun _ L133 => (sn (Zs L133 rfl rfl (wp_skip ((Ze (wp_seq (wp_block ?_))))))))
    have L134 := (L133.kp [2, 4, 7, 8, 62, 63, 64] rfl)
    refine Zy (E0 := [(1000, b5, 5, (u8s us ++ rest_2), false)]) (H0 := (Xt g_dd 29 (Yl dd) ++ [])) (n := 85) mixed 14 [] (fun k => if k = 1000 then 13 else 0) (Zaf [
      .is (.slice (some ⟨b5, 0, none⟩) len_out cap_out),
      .is (.int .i64 ((i : Nat) : Int)),
      .is (.slice (some ⟨b5, 0, none⟩) len_out cap_out),
      .is (.int .i64 ((j : Nat) : Int)),
      .is (.slice (some ⟨b5, 0, none⟩) len_out cap_out),
      .is (.int .i64 ((j : Nat) : Int)),
      .is (.pointer (some ⟨b5, (0 + (j)), none⟩)),
      .is (.int .u8 ((us.getD (j) 0 : Nat) : Int)),
      .is (.slice (some ⟨b5, 0, none⟩) len_out cap_out),
      .is (.int .i64 ((i : Nat) : Int)),
      .is (.pointer (some ⟨b5, (0 + (i)), none⟩)),
      .is (.int .u8 ((us.getD (i) 0 : Nat) : Int)),
      .is (.pointer (some ⟨b5, (0 + (i)), none⟩)),
      .stored 1000 5 (fun _ cs => cs = (u8s (us.set (i) ((us.getD (j) 0))) ++ rest_2)) (fun _ _ _ _ h => h)]) L134 R22 (by simp) (by simp) (by rfl) (by rfl) (by simp) (ZU ?_) ?_
    ·refine (And.intro ?_ (And.intro ?_ (And.intro ?_ (And.intro ?_ (And.intro ?_ (And.intro ?_ (And.intro ?_ (And.intro ?_ (And.intro ?_ (And.intro ?_ (And.intro ?_ (And.intro ?_ (And.intro ?_ (And.intro ?_ trivial))))))))))))))
     ·exact Zd rfl (fun _ _ _ _ _ A1 => (Zb A1.live rfl (A1.same  rfl)))
     ·exact Zd rfl (fun _ _ _ _ _ A2 => (Zb A2.live rfl (A2.same  rfl)))
     ·exact Zd rfl (fun _ _ _ _ _ A3 => (Zb A3.live rfl (A3.same  rfl)))
     ·exact Zd rfl (fun _ _ _ _ _ A4 => (Zb A4.live rfl (A4.same  rfl)))
     ·exact Zd rfl (fun _ _ _ _ _ A5 => (Zb A5.live rfl (A5.same  rfl)))
     ·exact Zd rfl (fun _ _ _ _ _ A6 => (Zb A6.live rfl (A6.same  rfl)))
     ·refine Zd rfl (fun _ _ _ _ _ A7 => ?_)
      obtain ⟨_, e9, rfl⟩ := A7.known 4 rfl
      obtain ⟨_, e10, rfl⟩ := A7.known 5 rfl
      exact Zu (j) ((A7.live.add e9).add e10) rfl rfl Tryz.underlying189 Zbg (by omega) (by omega) (A7.same  rfl)
     ·refine Zd rfl (fun _ _ _ _ _ A8 => ?_)
      obtain ⟨_, e11, rfl⟩ := A8.known 6 rfl
      exact Zl (v := (.int .u8 ((us.getD (j) 0 : Nat) : Int))) (A8.live.add e11) rfl agg_5 (A8.has0 (List.Mem.head _) (by rfl)) (by rw [Nat.zero_add]; exact u8s_get (by omega)) (A8.same  rfl)
     ·exact Zd rfl (fun _ _ _ _ _ A9 => (Zb A9.live rfl (A9.same  rfl)))
     ·exact Zd rfl (fun _ _ _ _ _ A10 => (Zb A10.live rfl (A10.same  rfl)))
     ·refine Zd rfl (fun _ _ _ _ _ A11 => ?_)
      obtain ⟨_, e12, rfl⟩ := A11.known 8 rfl
      obtain ⟨_, e13, rfl⟩ := A11.known 9 rfl
      exact Zu (i) ((A11.live.add e12).add e13) rfl rfl Tryz.underlying189 Zbg (by omega) (by omega) (A11.same  rfl)
     ·refine Zd rfl (fun _ _ _ _ _ A12 => ?_)
      obtain ⟨_, e14, rfl⟩ := A12.known 10 rfl
      exact Zl (v := (.int .u8 ((us.getD (i) 0 : Nat) : Int))) (A12.live.add e14) rfl agg_5 (A12.has0 (List.Mem.head _) (by rfl)) (by rw [Nat.zero_add]; exact u8s_get (by omega)) (A12.same  rfl)
     ·refine Zd rfl (fun _ _ _ _ _ A13 => ?_)
      obtain ⟨_, e15, rfl⟩ := A13.known 0 rfl
      obtain ⟨_, e16, rfl⟩ := A13.known 1 rfl
      exact Zu (i) ((A13.live.add e15).add e16) rfl rfl Tryz.underlying189 Zbg (by omega) (by omega) (A13.same  rfl)
     ·refine Zd rfl (fun _ _ _ _ _ A14 => ?_)
      obtain ⟨_, e17, rfl⟩ := A14.known 7 rfl
      obtain ⟨_, e18, rfl⟩ := A14.known 12 rfl
      exact does_storeRA A14 ((A14.live.add e17).add e18) rfl rfl (List.Mem.head _) rfl Zbg rfl rfl (by simp only [List.length_append, Qc]; omega) (by rw [Nat.zero_add]; exact u8s_set (by omega)) rfl rfl
    ·intro S23 _ _ w28 l9 E1 R23 n1 L149 K1
     obtain ⟨_, e19, rfl⟩ := K1 0 (by decide)
     have L150 := L149.add e19; clear L149
     obtain ⟨_, e20, rfl⟩ := K1 1 (by decide)
     have L151 := L150.add e20; clear L150
     obtain ⟨_, e21, rfl⟩ := K1 2 (by decide)
     have L152 := L151.add e21; clear L151
     obtain ⟨_, e22, rfl⟩ := K1 3 (by decide)
     have L153 := L152.add e22; clear L152
     obtain ⟨_, e23, rfl⟩ := K1 4 (by decide)
     have L154 := L153.add e23; clear L153
     obtain ⟨_, e24, rfl⟩ := K1 5 (by decide)
     have L155 := L154.add e24; clear L154
     obtain ⟨_, e25, rfl⟩ := K1 6 (by decide)
     have L156 := L155.add e25; clear L155
     obtain ⟨_, e26, rfl⟩ := K1 7 (by decide)
     have L157 := L156.add e26; clear L156
     obtain ⟨_, e27, rfl⟩ := K1 8 (by decide)
     have L158 := L157.add e27; clear L157
     obtain ⟨_, e28, rfl⟩ := K1 9 (by decide)
     have L159 := L158.add e28; clear L158
     obtain ⟨_, e29, rfl⟩ := K1 10 (by decide)
     have L160 := L159.add e29; clear L159
     obtain ⟨_, e30, rfl⟩ := K1 11 (by decide)
     have L161 := L160.add e30; clear L160
     obtain ⟨_, e31, rfl⟩ := K1 12 (by decide)
     have L162 := L161.add e31; clear L161
     obtain ⟨b6, c1, m5, rfl⟩ := K1 13 (by decide)
     obtain ⟨c2, q1, m6, _, _⟩ := E1 _ _ _ _ _ (List.Mem.head _)
     obtain ⟨hbe1, rfl⟩ := QA n1 m5 m6; obtain rfl := hbe1.symm
     have R24 : Run _ _ S23 ((b5, 5, (u8s (us.set (i) ((us.getD (j) 0))) ++ rest_2)) :: (Xt g_dd 29 (Yl dd) ++ [])) w28 := Yc R23 n1 [(1000, b5, 5, (u8s (us.set (i) ((us.getD (j) 0))) ++ rest_2), true)] (by simp) (List.forall_mem_cons.2 ⟨m5, (by simp)⟩)
     refine so L162 rfl (Zu (j) L162 rfl rfl Tryz.underlying189 Zbg (by omega) (by omega) fun _ L163 => (Zx L163 rfl rfl (Yh (cs' := (u8s ((us.set (i) ((us.getD (j) 0))).set (j) ((us.getD (i) 0))) ++ rest_2)) L163 rfl rfl R24 Zbg rfl (by simp only [List.length_append, Qc]; simp only [List.length_set]; omega) (by rw [Nat.zero_add]; exact u8s_set (by simp only [List.length_set]; omega)) fun _ R25 _ L164 => (Yr ((ZI (Ze (Za (so L164 rfl (Zb L164 rfl fun _ L165 => (so L165 rfl (ZK (z := (((i : Nat) : Int) + (1 : Int))) L165 rfl rfl (IntWalk.i64_in _ (by omega)) fun _ L166 => (so L166 rfl (Zb L166 rfl fun _ L167 => (so L167 rfl (ZS (z := (((j : Nat) : Int) - (1 : Int))) L167 rfl rfl (IntWalk.i64_in _ (by omega)) fun _ L168 => ?_))))))))))))))))
     refine so L168 rfl (Zc L168 rfl fun _ L169 => (so L169 rfl (Zc L169 rfl fun a139 L170 => (sn ?_))))
     have e32 : ((((i : Nat) : Int) + (1 : Int)) : Int) = (((i + 1) : Nat) : Int) := by omega
     have L171 : Zz a139 85 [(7, (.int .i64 (((i + 1) : Nat) : Int)))] := by have q := (L170.kp [7] rfl); rw [e32] at q; exact q
     have e33 : ((((j : Nat) : Int) - (1 : Int)) : Int) = (((j - 1) : Nat) : Int) := by omega
     have L172 : Zz a139 85 [(8, (.int .i64 (((j - 1) : Nat) : Int)))] := by have q := (L170.kp [8] rfl); rw [e33] at q; exact q
     exact ⟨(j - 1), (by omega), S23, ((us.set (i) ((us.getD (j) 0))).set (j) ((us.getD (i) 0))), (i + 1), (j - 1), (l8.trans l9), (L170.keep (L170.keep (L171.keep (L172.keep (Zz.none _ L170) (t := 8) rfl) (t := 7) rfl) (t := 4) rfl) (t := 2) rfl), R25, (by exact hI.step (by omega) (by omega)), (by omega), (by omega), rfl⟩
   ·refine so L132 rfl (Zf (b := false) (decide_eq_false t8) (fun _ k_ => ZH L132 rfl rfl k_) fun _ L173 => (sn (Zn L173 rfl rfl (wp_exit ((ZA (ZA (YB (Ze (wp_seq (Za (so L173 rfl (Zb L173 rfl fun _ L174 => (so L174 rfl (does_bytesStr (ds := us) L174 rfl Tryz.underlying189 Tryz.underlying5 Tryz.underlying9 (R22.has (List.Mem.head _)) (by (have q := hI.len; omega)) fun _ L175 => (so L175 rfl (Zc L175 rfl fun _ L176 => ?_)))))))))))))))))
    exact sn (wp_ret ((Zv (rs := Tryz.f118.results.toList) (L176.kp [2] rfl) rfl (.tmp rfl Res.nil) (⟨_, _, rfl, R22.ext, (by exact congrArg Value.string (text_fin ha hod (hI.done (j := j) (by omega) (by omega) (by omega))))⟩))))
end Go.Cham
namespace Go.Cham
open Go Go.RowKit Go.Proofs
noncomputable section
abbrev fNatOf : Nat := 76
def pOf : PrF Nat := fun l => match l with
  | [.int .u64 (.ofNat a)] => match Nat.ble a 18446744073709551615 with
    | true => some (nv a)
    | false => none
  | _ => none
set_option maxRecDepth 100000 in
theorem pOf_ok : PrimK Tryz.prog DN fNatOf pOf := by
  intro args r hr G w vs hd hS
  unfold pOf at hr
  split at hr
  · rename_i a
    split at hr
    · rename_i hle
      simp only [Option.some.injEq] at hr
      subst hr
      have := Nat.le_of_ble_eq_true hle
      cases hd with
      | cons h1 h2 =>
        cases h2
        cases h1
        exact .ret (by kernel_rfl) (nat_Of hS (n := a) (by omega)) fun S' v ⟨c0, e, h⟩ => by rw [e]; exact Zbh h
    · cases hr
  · cases hr
def tabNat : List (Nat × PrF Nat) := [
  (fNatOf, pOf),
  (98, pN1 fun a => .int .i64 (bitB a : Int)),
  (133, pN2 fun a b => .int .i64 (cmpB a b)),
  (137, pN2 fun a b => nv (Nat.add a b)),
  (80, pN2 fun a b => nv (Nat.mul a b)),
  (79, pN2 fun a b => nv (Nat.gcd a b)),
  (145, pN2 fun a b => match Nat.ble b a with | true => .tup [nv (Nat.sub a b), .int .i64 0] | false => .tup [nv 0, .int .i64 10]),
  (77, pN2 fun a b => match Nat.beq b 0 with | true => .tup [nv 0, nv 0, .int .i64 11] | false => .tup [nv (Nat.div a b), nv (Nat.mod a b), .int .i64 0]),
  (118, pN1 fun a => .str (decB a))]
set_option maxRecDepth 100000 in
theorem tabNat_ok : ∀ p ∈ tabNat, PrimK Tryz.prog DN p.1 p.2 := by
  intro p hp
  simp only [tabNat, List.mem_cons, List.not_mem_nil, or_false] at hp
  rcases hp with rfl | rfl | rfl | rfl | rfl | rfl | rfl | rfl | rfl
  · exact pOf_ok
  · exact pN1_ok (by kernel_rfl) fun S w c a hS h => ⟨_, Yt hS h, fun blk S' v hv => by rw [hv, bitB_eq]; exact .int _ _⟩
  · exact pN2_ok (by kernel_rfl) fun S w c d a b hS h k => ⟨_, nat_Cmp hS h k, fun blk S' v hv => by rw [hv, cmpB_eq]; exact .int _ _⟩
  · exact pN2_ok (by kernel_rfl) fun S w c d a b hS h k => ⟨_, nat_Add hS h k (by omega) (by omega), fun blk S' v ⟨c0, e, hv⟩ => by rw [e]; exact Zbh hv⟩
  · exact pN2_ok (by kernel_rfl) fun S w c d a b hS h k => ⟨_, nat_Mul hS h k (by omega) (by omega), fun blk S' v ⟨c0, e, hv⟩ => by rw [e]; exact Zbh hv⟩
  · exact pN2_ok (by kernel_rfl) fun S w c d a b hS h k => ⟨_, nat_Gcd hS h k (by omega), fun blk S' v ⟨c0, e, hv⟩ => by rw [e]; exact Zbh hv⟩
  · refine pN2_ok (by kernel_rfl) fun S w c d a b hS h k => ⟨_, nat_Sub hS h k (by omega), fun blk S' v hv => ?_⟩
    rcases hv with ⟨h1, c0, e, hv⟩ | ⟨h1, c0, e, hv⟩
    · have : Nat.ble b a = false := by
        cases hb : Nat.ble b a with
        | false => rfl
        | true => have := Nat.le_of_ble_eq_true hb; omega
      rw [e, this]
      exact .tup (.cons (Zbh hv) (.cons (.int _ _) .nil))
    · rw [e, Nat.ble_eq_true_of_le h1]
      exact .tup (.cons (Zbh hv) (.cons (.int _ _) .nil))
  · refine pN2_ok (by kernel_rfl) fun S w c d a b hS h k => ⟨_, nat_Div hS h k (by omega), fun blk S' v hv => ?_⟩
    rcases hv with ⟨h1, c0, c1, e, hv, hu⟩ | ⟨h1, c0, c1, e, hv, hu⟩
    · subst h1
      rw [e]
      exact .tup (.cons (Zbh hv) (.cons (Zbh hu) (.cons (.int _ _) .nil)))
    · have : Nat.beq b 0 = false := by
        cases hb : Nat.beq b 0 with
        | false => rfl
        | true => rw [YO] at hb; exact absurd hb h1
      rw [e, this]
      exact .tup (.cons (Zbh hv) (.cons (Zbh hu) (.cons (.int _ _) .nil)))
  · refine pN1_ok (by kernel_rfl) fun S w c a hS h => ⟨_, nat_Nat_Text hS h (by omega), fun blk S' v hv => ?_⟩
    rw [hv, decB_eq]
    exact .str _
end
end Go.Cham
namespace Go.Cham
open Go Go.RowKit
section
variable {P : Program} {a : Act} {w : World} {n : Nat} {l : List (Nat × Value)} {K : Value → World → Prop}
variable {d : Option Tmp} {ty : TypeId} {pos : String} {af : Array Edge} {g0 : Option (Nat × Bool)}
theorem Xj {t : TypeId} {x y : Operand} {kd : IntKind} {i : Int} {s : ByteArray} {j : Nat} (hL : Zz a n l) (hx : ev l x = some (.string s)) (hy : ev l y = some (.int kd i))
    (ht : P.underlying t = some .string) (hj : i = (j : Int)) (h : j < s.size) (k : K (.int .u8 (((bl s).getD j 0 : Nat) : Int)) w) : YG P ⟨d, .index t x y, ty, pos, af, g0⟩ a w K := by
  rw [← bl_getD s j h] at k
  refine Zcf (c := s.data.toList.getD j 0) hL hx hy ht ?_ ?_ k
  · first | omega | (constructor <;> omega)
  · exact str_at ⟨h, hj⟩
end
theorem XR {s : ByteArray} (h : ¬ s = (⟨#[]⟩ : ByteArray)) : 0 < s.size := by
  rcases Nat.eq_zero_or_pos s.size with e | e
  · exfalso; apply h
    apply bl_inj
    rw [List.length_eq_zero_iff.1 (show (bl s).length = 0 by rw [YN]; exact e)]
    rfl
  · exact e
theorem Xw {s : ByteArray} (h : s = (⟨#[]⟩ : ByteArray)) : ¬ wd (bl s) := by subst h; exact fun h => h.1 rfl
theorem Xl {l : List Nat} (h1 : 1 < l.length) (h : l.getD 0 0 = 48) : ¬ wd l := fun hw => by rcases hw.2.2 with q | q <;> omega
theorem not_wd_at {l : List Nat} {i : Nat} (hi : i < l.length) (h : l.getD i 0 < 48 ∨ 57 < l.getD i 0) : ¬ wd l := fun hw => by
  have := hw.2.1 (l.getD i 0) (by rw [List.getD_eq_getElem?_getD, List.getElem?_eq_getElem hi]; simp)
  omega
theorem wd_of {l : List Nat} {i : Nat} (h0 : 0 < l.length) (h48 : l.length = 1 ∨ l.getD 0 0 ≠ 48) (hi : l.length ≤ i) (h : ∀ k, k < i → 48 ≤ l.getD k 0 ∧ l.getD k 0 ≤ 57) : wd l := by
  refine ⟨by intro e; subst e; simp at h0, fun c hc => ?_, h48⟩
  obtain ⟨k, hk, rfl⟩ := List.getElem_of_mem hc
  have := h k (by omega)
  rw [List.getD_eq_getElem?_getD, List.getElem?_eq_getElem hk] at this
  simpa using this
theorem dig_step {l : List Nat} {i : Nat} (h : ∀ k, k < i → 48 ≤ l.getD k 0 ∧ l.getD k 0 ≤ 57) (hi : ¬ (l.getD i 0 < 48) ∧ ¬ (57 < l.getD i 0)) : ∀ k, k < i + 1 → 48 ≤ l.getD k 0 ∧ l.getD k 0 ≤ 57 := fun k hk => by
  rcases Nat.lt_or_ge k i with q | q
  · exact h k q
  · have : k = i := by omega
    subst this; omega
theorem pval_append (l m : List Nat) : XM (l ++ m) = XM l * 10 ^ m.length + XM m := by
  unfold XM
  rw [List.reverse_append, List.map_append, Qb, List.length_map, List.length_reverse]
  rw [Nat.mul_comm, Nat.add_comm]
theorem pval_take_succ {l : List Nat} {i : Nat} (h : i < l.length) : XM (l.take (i + 1)) = 10 * XM (l.take i) + (l.getD i 0 - 48) := by
  rw [List.take_succ_eq_append_getElem h, pval_snoc, List.getD_eq_getElem?_getD, List.getElem?_eq_getElem h]; rfl
theorem pval_take_lt {l : List Nat} {i : Nat} (h : ∀ c ∈ l, 48 ≤ c ∧ c ≤ 57) : XM (l.take i) < 10 ^ i := by
  have h1 := pval_lt (l := l.take i) (fun c hc => h c (List.mem_of_mem_take hc))
  refine Nat.lt_of_lt_of_le h1 (Nat.pow_le_pow_right (by decide) ?_)
  rw [List.length_take]; omega
theorem digit_at {l : List Nat} {i : Nat} (h : ∀ c ∈ l, 48 ≤ c ∧ c ≤ 57) (hi : i < l.length) : 48 ≤ l.getD i 0 ∧ l.getD i 0 ≤ 57 := by
  refine h _ ?_
  rw [List.getD_eq_getElem?_getD, List.getElem?_eq_getElem hi]; simp
theorem pow10_le {i : Nat} (h : i ≤ 19) : 10 ^ i ≤ 10000000000000000000 := by rw [← ten19]; exact Nat.pow_le_pow_right (by decide) h
structure ByInv (d us : List Nat) (y c0 i c : Nat) : Prop where
  len : us.length = d.length
  lt : ∀ e ∈ us, e < 18446744073709551616
  sum : val W64 (us.take i) + W64 ^ i * c = val W64 (d.take i) * y + c0
  rest : ∀ k, i ≤ k → us.getD k 0 = d.getD k 0
  cb : c < y
theorem ByInv.start {d : List Nat} {y c0 : Nat} (h : ∀ e ∈ d, e < 18446744073709551616) (hc : c0 < y) : ByInv d d y c0 0 c0 := ⟨rfl, h, by simp [val], fun _ _ => rfl, hc⟩
theorem by_sum {A B T X x y c c' o c0 : Nat} (h : A + T * c = B * y + c0) (hx : o + X * c' = x * y + c) : A + T * o + T * X * c' = (B + T * x) * y + c0 := by
  have e := congrArg (T * ·) hx
  simp only [Nat.mul_add] at e
  rw [Nat.add_mul, Nat.mul_assoc T x y, Nat.mul_assoc T X c']
  omega
theorem ByInv.step {d us : List Nat} {y c0 i c o c' : Nat} (h : ByInv d us y c0 i c) (hi : i < d.length) (hy : y < 18446744073709551616)
    (ho : o = (us.getD i 0 * y % 18446744073709551616 + c + 0) % 18446744073709551616) (hc : c' = us.getD i 0 * y / 18446744073709551616 + (us.getD i 0 * y % 18446744073709551616 + c + 0) / 18446744073709551616) : ByInv d (us.set i o) y c0 (i + 1) c' := by
  have hx : us.getD i 0 < 18446744073709551616 := ZR h.lt (by decide) _
  have hsum : o + 18446744073709551616 * c' = us.getD i 0 * y + c := by omega
  refine ⟨by simp [h.len], Qo h.lt (by omega), ?_, fun k hk => ?_, ?_⟩
  · rw [Yy _ _ _ (by rw [List.length_set, h.len]; omega), Zau, Ys (by rw [h.len]; omega), Yy _ _ _ hi, ← h.rest i (Nat.le_refl _), Nat.pow_succ]
    exact by_sum h.sum hsum
  · rw [YL (by omega)]; exact h.rest k (by omega)
  · have h1 : us.getD i 0 * y ≤ 18446744073709551615 * y := Nat.mul_le_mul_right _ (by omega)
    have h2 := h.cb
    omega
theorem by_lt {x y c : Nat} (hx : x < 18446744073709551616) (hc : c < y) : x * y / 18446744073709551616 + (x * y % 18446744073709551616 + c + 0) / 18446744073709551616 < y := by
  have h1 : x * y ≤ 18446744073709551615 * y := Nat.mul_le_mul_right _ (by omega)
  omega
theorem ByInv.done {d us : List Nat} {y c0 i c : Nat} (h : ByInv d us y c0 i c) (hi : d.length ≤ i) (hi2 : i = d.length) : val W64 us + W64 ^ us.length * c = val W64 d * y + c0 := by
  have hs := h.sum
  rw [List.take_of_length_le (by rw [h.len]; omega), List.take_of_length_le hi] at hs
  rw [h.len, ← hi2]; exact hs
theorem val_snoc (ds : List Nat) (c : Nat) : val W64 (ds ++ [c]) = val W64 ds + W64 ^ ds.length * c := by rw [Qb]; simp [val]
theorem lt_snoc {ds : List Nat} {c B : Nat} (h : ∀ e ∈ ds, e < B) (hc : c < B) : ∀ e ∈ ds ++ [c], e < B := by
  intro e he
  rcases List.mem_append.1 he with q | q
  · exact h e q
  · simp at q; omega
theorem parse_next {l t : List Nat} {k n V c : Nat} (ht : t = l.drop k) (hV : V = XM (l.take k)) (hn : n ≤ t.length) (hc : c = XM (t.take n)) : V * 10 ^ n + c = XM (l.take (k + n)) := by
  have e : l.take (k + n) = l.take k ++ t.take n := by rw [ht, List.take_add]
  rw [e, pval_append, ← hV, ← hc]
  congr 2
  rw [List.length_take]
  congr 1
  omega
theorem Gw.same {g : Option (Nat × List Value)} {len cap : Nat} {d ds : List Nat} (h : Gw g len cap 1 (Yl d)) (hl : ds.length = d.length) : Gw g len cap 1 (Yl ds) := by
  have h1 := h.hl
  rw [ZG] at h1
  refine ⟨by rw [ZG]; omega, h.hc, h.hn, fun x hx => ?_⟩
  have := h.hs x hx
  simp only [List.length_append, ZG] at this ⊢
  omega
end Go.Cham
namespace Go.Cham
open Go
theorem Gn.rek {S : Sh} {c : Value} {n k k' : Nat} (h : Gn S c n k) (hk : n ≤ 2 ^ k') : Gn S c n k' := ⟨hk, h.2⟩
theorem Gn.cut {S : Sh} {p : Option Addr} {len cap n k : Nat} {ds : List Nat} (h : Gd S p len cap ds) (hn : n ≤ len) (hz : n = 0 ∨ ds.getD (n - 1) 0 ≠ 0) (hv : val W16 (ds.take n) = val W16 ds) (hk : val W16 ds ≤ 2 ^ k) : Gn S (.slice p n cap) (val W16 ds) k := by
  have hl := h.hlen
  refine Gn.ofGd (ds := ds.take n) ⟨by rw [List.length_take]; omega, by have := h.hcap; omega, by have := h.hbig; omega, fun d hd => h.hlt d (List.mem_of_mem_take hd), fun h0 => ?_⟩ (Zb7 (by omega) hz) hv.symm hk
  obtain ⟨b, off, pre, rest, e, r, q⟩ := h.row (by omega)
  refine ⟨b, off, pre, u32s (ds.drop n) ++ rest, e, ?_, q⟩
  rw [show pre ++ u32s (ds.take n) ++ (u32s (ds.drop n) ++ rest) = pre ++ u32s ds ++ rest from by rw [List.append_assoc, ← u32s_split, List.append_assoc]]
  exact r
structure Add16 (x y us : List Nat) (i c : Nat) : Prop where
  len : us.length = i
  lt : ∀ e ∈ us, e < 65536
  c1 : c ≤ 1
  sum : val W16 us + W16 ^ i * c = val W16 (x.take i) + val W16 (y.take i)
theorem Add16.start {x y : List Nat} : Add16 x y [] 0 0 := ⟨rfl, by simp, by omega, by simp [val]⟩
theorem take16 (ds : List Nat) (i : Nat) : val W16 (ds.take (i + 1)) = val W16 (ds.take i) + W16 ^ i * ds.getD i 0 := by
  rcases Nat.lt_or_ge i ds.length with h | h
  · exact Yy _ _ _ h
  · rw [List.take_of_length_le (by omega), List.take_of_length_le h, Zbc h]; simp
theorem val16_snoc (ds : List Nat) (c : Nat) : val W16 (ds ++ [c]) = val W16 ds + W16 ^ ds.length * c := by rw [Qb]; simp [val]
theorem add16_sum {A T c X Y x y o c' : Nat} (h : A + T * c = X + Y) (hx : o + 65536 * c' = c + x + y) : (A + T * o) + T * 65536 * c' = (X + T * x) + (Y + T * y) := by
  have e := congrArg (T * ·) hx
  simp only [Nat.mul_add] at e
  rw [Nat.mul_assoc T 65536 c']
  omega
theorem Add16.step {x y us : List Nat} {i c : Nat} (h : Add16 x y us i c) (hx : ∀ e ∈ x, e < 65536) (hy : ∀ e ∈ y, e < 65536) {s : Nat} (hs : s = c + x.getD i 0 + y.getD i 0) : Add16 x y (us ++ [s % 65536]) (i + 1) (s / 65536) := by
  have h1 := ZR hx (by decide) i
  have h2 := ZR hy (by decide) i
  have h3 := h.c1
  refine ⟨by rw [List.length_append, h.len]; rfl, lt_snoc h.lt (Nat.mod_lt _ (by decide)), by omega, ?_⟩
  rw [val16_snoc, h.len, take16, take16, Nat.pow_succ]
  exact add16_sum h.sum (by omega)
theorem Add16.done {x y us : List Nat} {i : Nat} (h : Add16 x y us i 0) (hx : x.length ≤ i) (hy : y.length ≤ i) : val W16 us = val W16 x + val W16 y := by
  have := h.sum
  rw [List.take_of_length_le hx, List.take_of_length_le hy] at this
  simpa using this
structure Sub16 (x y us : List Nat) (i c : Nat) : Prop where
  len : us.length = i
  lt : ∀ e ∈ us, e < 65536
  c1 : c ≤ 1
  sum : val W16 us + val W16 (y.take i) = val W16 (x.take i) + W16 ^ i * c
theorem Sub16.start {x y : List Nat} : Sub16 x y [] 0 0 := ⟨rfl, by simp, by omega, by simp [val]⟩
theorem sub16_sum {A T c X Y x y o c' : Nat} (h : A + Y = X + T * c) (hx : o + y + c = x + 65536 * c') : (A + T * o) + (Y + T * y) = (X + T * x) + T * 65536 * c' := by
  have e := congrArg (T * ·) hx
  simp only [Nat.mul_add] at e
  rw [Nat.mul_assoc T 65536 c']
  omega
theorem Sub16.step {x y us : List Nat} {i c : Nat} (h : Sub16 x y us i c) (hx : ∀ e ∈ x, e < 65536) (hy : ∀ e ∈ y, e < 65536) {s : Nat} (hs : s = x.getD i 0 + 65536 - c - y.getD i 0) : Sub16 x y (us ++ [s % 65536]) (i + 1) (1 - s / 65536) := by
  have h1 := ZR hx (by decide) i
  have h2 := ZR hy (by decide) i
  have h3 := h.c1
  refine ⟨by rw [List.length_append, h.len]; rfl, lt_snoc h.lt (Nat.mod_lt _ (by decide)), by omega, ?_⟩
  rw [val16_snoc, h.len, take16, take16, Nat.pow_succ]
  exact sub16_sum h.sum (by omega)
theorem Sub16.done {x y us : List Nat} {i c : Nat} (h : Sub16 x y us i c) (hx : x.length = i) (hle : val W16 y ≤ val W16 x) (hy : y.length ≤ i) : val W16 us = val W16 x - val W16 y := by
  have hs := h.sum
  rw [List.take_of_length_le hy, List.take_of_length_le (show x.length ≤ i by omega)] at hs
  have hl := Zbz (B := W16) (by decide) us h.lt
  rw [h.len] at hl
  exact borrow0 hs hl hle h.c1
structure Mul16 (x y us : List Nat) (i j c : Nat) : Prop where
  len : us.length = x.length + y.length
  lt : ∀ e ∈ us, e < 65536
  cb : c < 65536
  sum : val W16 us + W16 ^ (i + j) * c = val W16 (x.take i) * val W16 y + W16 ^ i * (x.getD i 0 * val W16 (y.take j))
  zero : ∀ k, i + j ≤ k → i + y.length ≤ k → us.getD k 0 = 0
  Zbi : y.length < j → c = 0
theorem Mul16.start {x y : List Nat} {n : Nat} (hn : n = x.length + y.length) : Mul16 x y (List.replicate n 0) 0 0 0 :=
  ⟨by simp [hn], by simp, by decide, by rw [val_rep0]; simp [val], fun k _ _ => rep_getD _ _, fun h => by omega⟩
theorem mul16_sum {A A' T c R Q x yj Y c' o u : Nat} (h1 : A' + T * u = A + T * o) (h2 : A + T * c = R + Q * (x * Y)) (h3 : o + 65536 * c' = u + c + x * yj) {P : Nat} (hT : T = Q * P) : A' + T * 65536 * c' = R + Q * (x * (Y + P * yj)) := by
  have e := congrArg (T * ·) h3
  simp only [Nat.mul_add] at e
  rw [Nat.mul_assoc T 65536 c']
  have e2 : T * (x * yj) = Q * (x * (P * yj)) := by rw [hT]; simp only [Nat.mul_assoc, Nat.mul_left_comm, Nat.mul_comm]
  rw [Nat.mul_add x, Nat.mul_add Q]
  omega
theorem mul16_le {x y : Nat} (hx : x < 65536) (hy : y < 65536) : x * y ≤ 4294836225 := by
  have := Nat.mul_le_mul (Nat.le_of_lt_succ hx) (Nat.le_of_lt_succ hy)
  omega
theorem Mul16.step {x y us : List Nat} {i j c m s : Nat} (h : Mul16 x y us i j c) (hx : ∀ e ∈ x, e < 65536) (hy : ∀ e ∈ y, e < 65536) (hm : m = i + j) (hi : i < x.length) (hj : j ≤ y.length)
    (hs : s = us.getD m 0 + c + x.getD i 0 * y.getD j 0) : Mul16 x y (us.set m (s % 65536)) i (j + 1) (s / 65536) := by
  subst hm
  have hx1 := ZR hx (by decide) i
  have hy1 := ZR hy (by decide) j
  have hu1 := ZR h.lt (by decide) (i + j)
  have hp := mul16_le hx1 hy1
  have hc := h.cb
  have hv := Zbl W16 us (i + j) (s % 65536)
  rcases Nat.lt_or_ge (i + j) us.length with hlt | hge
  · have hv := hv hlt
    refine ⟨by simp [h.len], Qo h.lt (Nat.mod_lt _ (by decide)), by omega, ?_, fun k h1 h2 => ?_, fun hl => ?_⟩
    · rw [show i + (j + 1) = (i + j) + 1 by omega, Nat.pow_succ, take16]
      exact mul16_sum hv h.sum (by omega) (Nat.pow_add _ _ _)
    · rw [YL (by omega)]; exact h.zero k (by omega) h2
    · have hjj : j = y.length := by omega
      have h0 : us.getD (i + j) 0 = 0 := h.zero _ (Nat.le_refl _) (by omega)
      have h1 : y.getD j 0 = 0 := Zbc (by omega)
      rw [hs, h0, h1]
      simp
      exact hc
  · 
    exfalso
    have := h.len
    omega
theorem Mul16.next {x y us : List Nat} {i j : Nat} (h : Mul16 x y us i j 0) (hj : y.length ≤ j) (hj2 : j ≤ y.length + 1) (hi : i < x.length) : Mul16 x y us (i + 1) 0 0 := by
  refine ⟨h.len, h.lt, by decide, ?_, fun k h1 h2 => h.zero k (by omega) (by omega), fun h => by omega⟩
  have := h.sum
  rw [List.take_of_length_le hj] at this
  simp only [Nat.mul_zero, Nat.add_zero, List.take_zero, val] at this ⊢
  rw [this, take16, Nat.add_mul, Nat.mul_assoc]
theorem Mul16.done {x y us : List Nat} {i : Nat} (h : Mul16 x y us i 0 0) (hi : x.length ≤ i) : val W16 us = val W16 x * val W16 y := by
  have := h.sum
  rw [List.take_of_length_le hi] at this
  simpa [val] using this
structure Div16 (x qs : List Nat) (b kk r : Nat) : Prop where
  len : qs.length = x.length
  lt : ∀ e ∈ qs, e < 65536
  le : kk ≤ x.length
  sum : val W16 (x.drop kk) = val W16 (qs.drop kk) * b + r
  rb : r < b
  low : ∀ k, k < kk → qs.getD k 0 = 0
theorem Div16.start {x : List Nat} {n b : Nat} (hb : 0 < b) (hn : n = x.length) : Div16 x (List.replicate n 0) b n 0 :=
  ⟨by simp [hn], by simp, by omega, by rw [hn, List.drop_length, List.drop_eq_nil_of_le (by simp)]; simp [val], hb, fun k _ => rep_getD _ _⟩
theorem Div16.top {x qs : List Nat} {b kk r : Nat} (h : Div16 x qs b kk r) (hx : ∀ e ∈ x, e < 65536) : x.getD (kk - 1) 0 + 65536 * r < 65536 * b := by
  have h1 := ZR hx (by decide) (kk - 1)
  have h2 := h.rb
  omega
theorem div16_sum {X Q x q r b r' : Nat} (h : X = Q * b + r) (h2 : x + 65536 * r = q * b + r') : x + 65536 * X = (q + 65536 * Q) * b + r' := by
  rw [h, Nat.add_mul, Nat.mul_assoc 65536 Q b]
  omega
theorem Div16.step {x qs : List Nat} {b kk r q : Nat} (h : Div16 x qs b kk r) (hk : 0 < kk) (hq : q < 65536) (h1 : q * b ≤ x.getD (kk - 1) 0 + 65536 * r) (h2 : x.getD (kk - 1) 0 + 65536 * r < (q + 1) * b) :
    Div16 x (qs.set (kk - 1) q) b (kk - 1) (x.getD (kk - 1) 0 + 65536 * r - q * b) := by
  have hl := h.le
  have hlen := h.len
  refine ⟨by simp [h.len], Qo h.lt hq, by omega, ?_, by rw [Nat.add_mul] at h2; omega, fun k hk' => ?_⟩
  · rw [Ym (ds := x) (by omega), Ym (ds := qs.set (kk - 1) q) (by rw [List.length_set]; omega), Ys (by omega), show kk - 1 + 1 = kk by omega, List.drop_set_of_lt (by omega)]
    exact div16_sum h.sum (by omega)
  · rw [YL (by omega)]; exact h.low k (by omega)
theorem Div16.done {x qs : List Nat} {b r : Nat} (h : Div16 x qs b 0 r) : val W16 qs = val W16 x / b ∧ r = val W16 x % b := by
  have hs := h.sum
  simp only [List.drop_zero] at hs
  have hb := h.rb
  constructor
  · rw [hs, Nat.mul_comm, Nat.mul_add_div (by omega), Nat.div_eq_of_lt hb]; omega
  · rw [hs, Nat.mul_comm, Nat.mul_add_mod, Nat.mod_eq_of_lt hb]
structure Half (r b lo hi : Nat) : Prop where
  le : lo * b ≤ r
  lt : r < hi * b
  top : hi ≤ 65536
theorem Half.start {r b : Nat} (h : r < 65536 * b) : Half r b 0 65536 := ⟨by omega, h, Nat.le_refl _⟩
section
open Go.RowKit
variable {P : Program} {a : Act} {w : World} {n : Nat} {l : List (Nat × Value)} {K : Value → World → Prop}
variable {d : Option Tmp} {ty : TypeId} {pos : String} {af : Array Edge} {g0 : Option (Nat × Bool)}
end
end Go.Cham
namespace Go.Cham
open Go
def sI (mi : Bool) (a : Nat) : Int := if mi = true then -(a : Int) else a
def sgnZ (z : Int) : Int := if z = 0 then 0 else if z < 0 then -1 else 1
theorem sgnZ_neg {z : Int} : sgnZ z < 0 ↔ z < 0 := by
  unfold sgnZ
  split
  · omega
  · split <;> omega
theorem bitlen_one {n : Nat} : ZF n = 1 ↔ n = 1 := by
  unfold ZF
  split
  · omega
  · rename_i h
    constructor
    · intro e
      have h1 : n.log2 = 0 := by omega
      have := (Nat.log2_lt (n := n) (k := 1) h).1 (by omega)
      omega
    · intro e; subst e; rfl
theorem bitlen_gt1 {n : Nat} : 1 < ZF n ↔ 1 < n := by
  have h0 := @QJ n
  have h1 := @bitlen_one n
  omega
theorem sI_abs (mi : Bool) (a : Nat) : (sI mi a).natAbs = a := by unfold sI; cases mi <;> simp
theorem mkRat_one (z : Int) : mkRat z 1 = (z : Rat) := by
  rw [Rat.mkRat_eq_div]
  have : ((1 : Nat) : Rat) = 1 := rfl
  rw [this]
  grind
theorem Qd {z : Int} {d : Nat} (hd : 0 < d) (h : ¬ 1 < z.natAbs.gcd d) : (mkRat z d).num = z ∧ (mkRat z d).den = d := by
  have hg : z.natAbs.gcd d = 1 := by
    have := Nat.gcd_pos_of_pos_right z.natAbs hd
    omega
  exact ⟨mkRat_num1 (by omega) hg, mkRat_den1 (by omega) hg⟩
theorem sI_div {z : Int} {g : Nat} (h : g ∣ z.natAbs) (mi : Bool) (hm : mi = true ↔ z < 0) : sI mi (z.natAbs / g) = z / (g : Int) := by
  obtain ⟨k, hk⟩ := h
  unfold sI
  rcases Nat.eq_zero_or_pos g with e | e
  · subst e; simp
  · rw [hk, Nat.mul_div_cancel_left _ e]
    cases mi with
    | true =>
      have hz := hm.1 rfl
      have : z = (g : Int) * (-(k : Int)) := by
        rw [Int.mul_neg, ← Int.natCast_mul, ← hk]; omega
      rw [this, Int.mul_ediv_cancel_left _ (by omega)]; rfl
    | false =>
      have hz : ¬ z < 0 := fun q => by have := hm.2 q; cases this
      have : z = (g : Int) * (k : Int) := by
        rw [← Int.natCast_mul, ← hk]; omega
      rw [this, Int.mul_ediv_cancel_left _ (by omega)]; rfl
theorem Xx {z : Int} {d : Nat} (hd : 0 < d) (mi : Bool) (hm : mi = true ↔ z < 0) : sI mi (z.natAbs / z.natAbs.gcd d) = (mkRat z d).num := by
  rw [mkRat_num _ _ (by omega), sI_div (Nat.gcd_dvd_left _ _) mi hm]
theorem mkRat_deng {z : Int} {d : Nat} (hd : 0 < d) : d / z.natAbs.gcd d = (mkRat z d).den := (mkRat_den _ _ (by omega)).symm
theorem Qq {z : Int} {d k : Nat} (hd : 0 < d) (h : d ≤ 2 ^ k) : (mkRat z d).den ≤ 2 ^ k := by
  rw [mkRat_den _ _ (by omega)]; exact Nat.le_trans (Nat.div_le_self _ _) h
theorem Qp {z : Int} {d k : Nat} (hd : 0 < d) (h : z.natAbs ≤ 2 ^ k) : (mkRat z d).num.natAbs ≤ 2 ^ k := by
  rw [← Xx hd (decide (z < 0)) (by simp), sI_abs]
  exact Nat.le_trans (Nat.div_le_self _ _) h
theorem In.le {S : Sh} {cs : List Value} {z : Int} {k : Nat} (h : In S cs z k) : z.natAbs ≤ 2 ^ k := by
  obtain ⟨us, _, hn⟩ := h.abs
  exact hn.1
theorem In.rek {S : Sh} {cs : List Value} {z : Int} {k k' : Nat} (h : In S cs z k) (hk : z.natAbs ≤ 2 ^ k') : In S cs z k' := by
  obtain ⟨a, b, c, d, e, f, g, i, j⟩ := h
  refine ⟨a, b, c, d, e, f, ?_, i, j⟩
  rw [i] at hk
  cases a <;> simpa using hk
theorem Na.rek {S : Sh} {cs : List Value} {n k k' : Nat} (h : Na S cs n k) (hk : n ≤ 2 ^ k') : Na S cs n k' := ⟨hk, h.2⟩
theorem In.cases {S : Sh} {cs : List Value} {z : Int} {k : Nat} (h : In S cs z k) : (∃ c1 c2 m, cs = [.bool true, c1, c2] ∧ Na S [c1, c2] m k ∧ z = -(m : Int) ∧ 0 < m) ∨ (∃ c1 c2 m, cs = [.bool false, c1, c2] ∧ Na S [c1, c2] m k ∧ z = (m : Int)) := by
  obtain ⟨neg, c1, c2, m, e, hn, hm, hz, h0⟩ := h
  cases neg with
  | true =>
    refine .inl ⟨c1, c2, m, e, ⟨hm, c1, c2, rfl, hn⟩, by simpa using hz, ?_⟩
    rcases Nat.eq_zero_or_pos m with q | q
    · have := h0 q; cases this
    · exact q
  | false => exact .inr ⟨c1, c2, m, e, ⟨hm, c1, c2, rfl, hn⟩, by simpa using hz⟩
theorem Na.toR {S : Sh} {cs : List Value} {n m k k' : Nat} (h : Na S cs n k) (e : n = m) (hk : m ≤ 2 ^ k') : Na S cs m k' := by subst e; exact ⟨hk, h.2⟩
theorem In.toR {S : Sh} {cs : List Value} {z y : Int} {k k' : Nat} (h : In S cs z k) (e : z = y) (hk : y.natAbs ≤ 2 ^ k') : In S cs y k' := by subst e; exact h.rek hk
theorem Gn.toR {S : Sh} {c : Value} {n m k k' : Nat} (h : Gn S c n k) (e : n = m) (hk : m ≤ 2 ^ k') : Gn S c m k' := by subst e; exact ⟨hk, h.2⟩
theorem Fs.ofInt {S : Sh} {cs : List Value} {z : Int} {k : Nat} (h : In S cs z k) : Fs S (cs ++ [.int .u64 0, .slice none 0 0]) [(z : Rat)] k :=
  Fs.mk (q := (z : Rat)) h (Na.zero S k) Nat.one_le_two_pow
theorem Fs.ofParts {S : Sh} {us vs : List Value} {z : Int} {n k k' K : Nat} {q : Rat} (h1 : In S us z k) (h2 : Na S vs n k') (e1 : z = q.num) (e2 : n = q.den - 1) (b1 : q.num.natAbs ≤ 2 ^ K) (b2 : q.den ≤ 2 ^ K) : Fs S (us ++ vs) [q] K := by
  subst e1 e2
  exact Fs.mk (h1.rek b1) (h2.rek (by omega)) b2
theorem ofBl_size (l : List Nat) : (Xg l).size = l.length := by unfold Xg; show (List.map UInt8.ofNat l).toArray.size = _; simp
end Go.Cham
namespace Go.Cham
open Go Go.RowKit Go.Proofs
theorem ret_of_below {P : Program} {f : FuncId} {args : Array Value} {S : Sh} {w : World} {v : Value} (hS : Yw S w) (h : Calls P f args w fun e w' => e = .returned v ∧ Below w.heap.size w w') : Calls P f args w (Ret S w (fun _ u => u = v)) := by
  refine Calls.mono h fun e w' ⟨h1, h2⟩ => ⟨v, S, h1, ⟨Sh.le.refl S, fun b o hb => ?_, fun b o hb => .inl ⟨o, hb⟩, h2⟩, rfl⟩
  rw [h2.block b (Yw.lt hS hb)]
  exact hS b o hb
def trimD (s : ByteArray) : ByteArray := ⟨(Lib.trimS s.data.toList [48, 49, 50, 51, 52, 53, 54, 55, 56, 57]).toArray⟩
theorem dig_mem {x : UInt8} : ([48, 49, 50, 51, 52, 53, 54, 55, 56, 57] : List UInt8).contains x = true ↔ 48 ≤ x.toNat ∧ x.toNat ≤ 57 := by
  revert x
  have key : ∀ n : Nat, n < 256 → (([48, 49, 50, 51, 52, 53, 54, 55, 56, 57] : List UInt8).contains (UInt8.ofNat n) = true ↔ 48 ≤ n ∧ n ≤ 57) := by decide +kernel
  intro x
  have := key x.toNat x.toNat_lt
  simpa using this
theorem Zcb {α : Type} {p : α → Bool} {l : List α} : l.dropWhile p = [] ↔ ∀ x ∈ l, p x = true := by
  induction l with
  | nil => simp
  | cons a r ih =>
    rw [List.dropWhile_cons]
    split
    · rename_i h; rw [ih]; simp [h]
    · rename_i h; simp [h]
theorem mem_of_trimRight {l cs : List UInt8} {x : UInt8} (h : ∀ y ∈ Lib.trimRightS l cs, cs.contains y = true) (hx : x ∈ l) : cs.contains x = true := by
  unfold Lib.trimRightS at h
  rcases Classical.em (l.reverse.dropWhile (cs.contains ·) = []) with e | e
  · exact Zcb.1 e x (by simpa using hx)
  · exfalso
    match e2 : l.reverse.dropWhile (cs.contains ·), e with
    | a :: r, _ =>
      have h1 : ¬ cs.contains a = true := by
        have := List.head_dropWhile_not (cs.contains ·) (l := l.reverse) (by rw [e2]; simp)
        simp only [e2, List.head_cons] at this
        rw [this]; simp
      exact h1 (h a (by rw [e2]; simp))
theorem trimD_nil {s : ByteArray} : trimD s = (⟨#[]⟩ : ByteArray) ↔ ∀ c ∈ bl s, 48 ≤ c ∧ c ≤ 57 := by
  have e1 : trimD s = (⟨#[]⟩ : ByteArray) ↔ Lib.trimS s.data.toList [48, 49, 50, 51, 52, 53, 54, 55, 56, 57] = [] := by
    unfold trimD
    constructor
    · intro h
      have := congrArg (fun x : ByteArray => x.data.toList) h
      simpa using this
    · intro h; rw [h]
  rw [e1]
  unfold Lib.trimS Lib.trimLeftS
  rw [Zcb]
  constructor
  · intro h c hc
    unfold bl at hc
    obtain ⟨x, hx, rfl⟩ := List.mem_map.1 hc
    exact dig_mem.1 (mem_of_trimRight h hx)
  · intro h x hx
    refine dig_mem.2 (h x.toNat (List.mem_map.2 ⟨x, ?_, rfl⟩))
    unfold Lib.trimRightS at hx
    rw [List.mem_reverse] at hx
    have := (List.dropWhile_sublist _).subset hx
    simpa using this
def tpre (s : ByteArray) : ByteArray := if (bl s).getD 0 0 = 45 then Xg ((bl s).drop 1) else s
theorem u8_toNat_45 {x : UInt8} : x.toNat = 45 ↔ x = 45 := by
  constructor
  · intro h; apply UInt8.toNat_inj.1; simpa using h
  · intro h; subst h; rfl
theorem tpre_lib (s : ByteArray) : (⟨(Lib.trimPrefix s.data.toList [45]).toArray⟩ : ByteArray) = tpre s := by
  unfold Lib.trimPrefix Lib.hasPrefix tpre
  have e : bl s = s.data.toList.map UInt8.toNat := rfl
  cases h : s.data.toList with
  | nil =>
    rw [e, h]
    simp
    apply ByteArray.ext
    rw [← Array.toArray_toList (xs := s.data), h]
  | cons x r =>
    rw [e, h]
    simp only [List.map_cons, List.getD_cons_zero, List.drop_succ_cons, List.drop_zero, List.isPrefixOf, Bool.and_true, List.length_singleton, beq_iff_eq]
    by_cases hx : x = 45
    · subst hx
      simp only [↓reduceIte]
      rw [if_pos (by rfl)]
      unfold Xg
      rw [List.map_map]
      have : (UInt8.ofNat ∘ UInt8.toNat) = id := by funext x; simp
      rw [this, List.map_id]
    · rw [if_neg (fun q => hx q.symm), if_neg (fun q => hx (u8_toNat_45.1 q))]
      apply ByteArray.ext
      rw [← Array.toArray_toList (xs := s.data), h]
theorem bl_drop1 (s : ByteArray) : bl (Xg ((bl s).drop 1)) = (bl s).drop 1 := XP (fun c hc => bl_lt s c (List.mem_of_mem_drop hc))
theorem bl_tpre (s : ByteArray) : bl (tpre s) = if (bl s).getD 0 0 = 45 then (bl s).drop 1 else bl s := by
  unfold tpre
  split
  · exact bl_drop1 s
  · rfl
def idx47 (l : List Nat) : Int := if ftwo l = true then ((Qs l).length : Int) else -1
theorem idx47_lib (s : ByteArray) : Lib.indexByte s.data.toList 47 = idx47 (bl s) := by
  show _ = idx47 (s.data.toList.map UInt8.toNat)
  induction s.data.toList with
  | nil => rfl
  | cons x r ih =>
    have hx : (x == 47) = decide (x.toNat = 47) := by
      by_cases h : x = 47
      · subst h; rfl
      · have : x.toNat ≠ 47 := fun q => h (by apply UInt8.toNat_inj.1; simpa using q)
        simp [h, this]
    unfold Lib.indexByte
    rw [hx, ih]
    unfold idx47 ftwo Qs
    simp only [List.map_cons, Zae]
    by_cases h : x.toNat = 47
    · simp [h]
    · simp only [h, decide_false, Bool.false_eq_true, if_false]
      cases (Zae (r.map UInt8.toNat)).2.2 with
      | false => simp
      | true =>
        simp only [if_true, List.length_cons]
        rw [if_neg (by simp)]
        rfl
theorem Zar {l : List Nat} (h : ∀ c ∈ l, c < 256) : (∀ c ∈ (Zae l).1, c < 256) ∧ (∀ c ∈ (Zae l).2.1, c < 256) := by
  have hb := (XJ l).2
  cases ht : (Zae l).2.2 with
  | true =>
    rw [ht] at hb
    simp only [if_true] at hb
    exact ⟨fun c hc => h c (by rw [hb]; simp [hc]), fun c hc => h c (by rw [hb]; simp [hc])⟩
  | false =>
    rw [ht] at hb
    simp only [Bool.false_eq_true, if_false, List.append_nil] at hb
    refine ⟨fun c hc => h c (by rw [hb]; exact hc), ?_⟩
    have : (Zae l).2.1 = [] := by
      have hno : 47 ∉ l := by rw [hb]; exact (XJ l).1
      rw [cutl_no hno]
    rw [this]; simp
theorem idx47_neg {l : List Nat} (h : ¬ 0 ≤ idx47 l) : ftwo l = false ∧ Qs l = l ∧ (Zae l).2.1 = [] := by
  unfold idx47 at h
  cases ht : ftwo l with
  | true => rw [ht] at h; simp at h
  | false =>
    have hb := (XJ l).2
    have ht' : (Zae l).2.2 = false := ht
    rw [ht'] at hb
    simp only [Bool.false_eq_true, if_false, List.append_nil] at hb
    have hno : 47 ∉ l := by rw [hb]; exact (XJ l).1
    exact ⟨rfl, hb.symm, by rw [cutl_no hno]⟩
theorem idx47_pos {l : List Nat} (h : 0 ≤ idx47 l) : ftwo l = true ∧ idx47 l = ((Qs l).length : Int) ∧ l = Qs l ++ 47 :: (Zae l).2.1 := by
  unfold idx47 at h ⊢
  cases ht : ftwo l with
  | false => rw [ht] at h; simp at h
  | true =>
    have hb := (XJ l).2
    have ht' : (Zae l).2.2 = true := ht
    rw [ht'] at hb
    exact ⟨rfl, by simp, by simpa [Qs] using hb⟩
theorem cut_left {s : ByteArray} {n : Nat} (h : bl s = Qs (bl s) ++ 47 :: (Zae (bl s)).2.1) (hn : n = (Qs (bl s)).length) : s.extract 0 n = Xg (Qs (bl s)) := by
  apply bl_inj
  rw [Zbb, XP (l := Qs (bl s)) (Zar (bl_lt s)).1, List.drop_zero, hn]
  exact (congrArg (List.take _) h).trans (List.take_left)
theorem cut_right {s : ByteArray} {n : Nat} (h : bl s = Qs (bl s) ++ 47 :: (Zae (bl s)).2.1) (hn : n = (Qs (bl s)).length + 1) : s.extract n s.size = Xg (Zae (bl s)).2.1 := by
  apply bl_inj
  rw [Zbb, XP (Zar (bl_lt s)).2, List.take_of_length_le (by rw [YN]; omega), hn]
  have h' : bl s = (Qs (bl s) ++ [47]) ++ (Zae (bl s)).2.1 := by rw [List.append_assoc]; exact h
  have hl : (Qs (bl s)).length + 1 = (Qs (bl s) ++ [47]).length := by simp
  rw [hl]
  exact (congrArg (List.drop _) h').trans List.drop_left
theorem Zbn {S : Sh} {w : World} (hS : Yw S w) {s sep : ByteArray} (hsep : sep = ⟨#[45]⟩) : Calls Tryz.prog 95 [.string s, .string sep].toArray w (Ret S w (fun _ v => v = .string (tpre s))) := by
  subst hsep; rw [← tpre_lib]; exact Qg hS (Tryz.strings_TrimPrefix s ⟨#[45]⟩ w)
theorem strings_TrimR {S : Sh} {w : World} (hS : Yw S w) {s sep : ByteArray} (hsep : sep = ⟨#[48, 49, 50, 51, 52, 53, 54, 55, 56, 57]⟩) (hs : s.size ≤ 9223372036854775807) : Calls Tryz.prog 149 [.string s, .string sep].toArray w (Ret S w (fun _ v => v = .string (trimD s))) := by
  subst hsep; exact ret_of_below hS (Tryz.strings_Trim_digits s w hs)
theorem Zb4 {S : Sh} {w : World} (hS : Yw S w) {s sep : ByteArray} (hsep : sep = ⟨#[47]⟩) : Calls Tryz.prog 169 [.string s, .string sep].toArray w (Ret S w (fun _ v => v = .int .i64 (idx47 (bl s)))) := by
  subst hsep; rw [← idx47_lib]; exact Qg hS (Tryz.stringslite_Index_one s 47 w)
theorem fsize_tpre {s nm : ByteArray} (h : bl nm = Qs (bl s)) : bl (tpre nm) = Zbd (bl s) := by
  rw [bl_tpre, h]
  unfold Zbd fmin
  by_cases q : (Qs (bl s)).getD 0 0 = 45 <;> simp only [q, if_true, if_false, decide_true, decide_false, Bool.false_eq_true]
theorem Zan {s nm sz : ByteArray} (h : bl nm = Qs (bl s)) (h2 : bl sz = Zbd (bl s)) : ((sz.size : Nat) : Int) < ((nm.size : Nat) : Int) ↔ fmin (bl s) = true := by
  rw [← YN, ← YN, h, h2]
  unfold Zbd
  cases hm : fmin (bl s) with
  | false => simp
  | true =>
    have : (Qs (bl s)).length ≠ 0 := by
      intro e
      rw [List.length_eq_zero_iff] at e
      unfold fmin at hm
      rw [e] at hm
      simp at hm
    simp only [if_true, List.length_drop, iff_true]
    omega
theorem str48 {sz : ByteArray} : sz = (⟨#[48]⟩ : ByteArray) ↔ bl sz = [48] := ⟨fun h => by rw [h]; rfl, fun h => bl_inj (by rw [h]; rfl)⟩
theorem fden_not {s : ByteArray} (h : ¬ ftwo (bl s) = true) : fden (bl s) = [49] := by unfold fden; rw [if_neg h]
theorem fden_two {s : ByteArray} (h : ftwo (bl s) = true) : fden (bl s) = (Zae (bl s)).2.1 := by unfold fden; rw [if_pos h]
theorem cutl_len (l : List Nat) : (Qs l).length ≤ l.length ∧ (Zae l).2.1.length ≤ l.length := by
  have hb := (XJ l).2
  have hl := congrArg List.length hb
  cases ht : (Zae l).2.2 with
  | true => rw [ht] at hl; simp only [List.length_append, if_true, List.length_cons] at hl; exact ⟨by unfold Qs; omega, by omega⟩
  | false =>
    rw [ht] at hl
    simp only [Bool.false_eq_true, if_false, List.append_nil] at hl
    have hno : 47 ∉ l := by
      have h1 := (XJ l).1
      have h2 := (XJ l).2
      rw [ht] at h2
      simp only [Bool.false_eq_true, if_false, List.append_nil] at h2
      rwa [← h2] at h1
    have : (Zae l).2.1 = [] := by rw [cutl_no hno]
    exact ⟨by unfold Qs; omega, by rw [this]; simp⟩
theorem fsize_len (l : List Nat) : (Zbd l).length ≤ l.length := by
  have := (cutl_len l).1
  unfold Zbd
  split
  · rw [List.length_drop]; omega
  · exact this
theorem fden_len (l : List Nat) : (fden l).length ≤ l.length + 1 := by
  have := (cutl_len l).2
  unfold fden
  split
  · omega
  · simp
theorem dig_wd {l : List Nat} {n : Nat} (h0 : 0 < n) (h : ∀ c ∈ l, 48 ≤ c ∧ c ≤ 57) (h1 : n = l.length ∧ (l.length = 1 ∨ ¬ l.getD 0 0 = 48)) : wd l := ⟨by intro e; subst e; have := h1.1; simp at this; omega, h, h1.2⟩
theorem fraw_sI (l : List Nat) : fraw l = sI (fmin l) (XM (Zbd l)) := rfl
theorem Zb9 {l : List Nat} (h : fbad l) : ferr l = 12 ∧ fval l = 0 := by
  have e : ferr l = 12 := by unfold ferr; rw [if_pos h]
  exact ⟨e, fval_bad (by rw [e]; decide)⟩
theorem QG {l : List Nat} (h : ¬ fbad l) (h2 : XN l) : ferr l = 3 ∧ fval l = 0 := by
  have e : ferr l = 3 := by unfold ferr; rw [if_neg h, if_pos h2]
  exact ⟨e, fval_bad (by rw [e]; decide)⟩
theorem ferr_red {l : List Nat} (h : ¬ fbad l) (h2 : ¬ XN l) (h3 : fred l) : ferr l = 12 ∧ fval l = 0 := by
  have e : ferr l = 12 := by unfold ferr; rw [if_neg h, if_neg h2, if_pos h3]
  exact ⟨e, fval_bad (by rw [e]; decide)⟩
theorem ferr_ok {l : List Nat} (h : ¬ fbad l) (h2 : ¬ XN l) (h3 : ¬ fred l) : ferr l = 0 ∧ fval l = mkRat (sI (fmin l) (XM (Zbd l))) (XM (fden l)) := by
  have e : ferr l = 0 := by unfold ferr; rw [if_neg h, if_neg h2, if_neg h3]
  exact ⟨e, by rw [fval_ok e, fraw_sI]⟩
theorem fval_bdB {k : Nat} (hB : ∀ l : List Nat, (∀ c ∈ l, 48 ≤ c ∧ c ≤ 57) → l.length ≤ 256 → XM l ≤ 2 ^ k) (l : List Nat) : (fval l).num.natAbs ≤ 2 ^ k ∧ (fval l).den ≤ 2 ^ k := by
  by_cases h : ferr l = 0
  · rcases ferr_cases l with h1 | h1 | h1 | h1
    · omega
    · omega
    · omega
    · have hb := h1.1
      have hl := h1.2.1
      simp only [fbad, not_or, Classical.not_not, not_and] at hb
      simp only [XN, not_or, Nat.not_lt] at hl
      have hd := Zca h1.1 h1.2.2.1
      rw [fval_ok h]
      exact ⟨Qp (by omega) (by rw [fraw_abs]; exact hB _ hb.1.2.1 hl.1), Qq (by omega) (hB _ hb.2.1.2.1 hl.2)⟩
  · rw [fval_bad h]; exact ⟨Nat.zero_le _, Nat.one_le_two_pow⟩
theorem YT : ∀ l : List Nat, (fval l).num.natAbs ≤ 2 ^ 900 ∧ (fval l).den ≤ 2 ^ 900 := fval_bdB (k := 900) (fun _ h hl => pval_le h hl)
theorem Fs.toR {S : Sh} {cs : List Value} {p q : Rat} {k k' : Nat} (h : Fs S cs [p] k) (e : [p] = [q]) (hk : q.num.natAbs ≤ 2 ^ k' ∧ q.den ≤ 2 ^ k') : Fs S cs [q] k' := by
  have e' : p = q := by simpa using e
  subst e'
  obtain ⟨a, b, c, d, e, rfl, h1, h2, _⟩ := h.one
  exact Fr.fs ⟨a, b, c, d, e, rfl, h1.rek hk.1, h2.rek (by omega), hk.2⟩
end Go.Cham
namespace Go.Cham
open Go Go.RowKit Go.Proofs
set_option maxRecDepth 20000 in
theorem QD {S : Sh} {w : World} (hS : Yw S w) {s : ByteArray} (hlim : s.size ≤ 1099511627776) : Calls Tryz.prog 97 [(.string s)].toArray w (Ret S w (fun S v => ((¬ wd (bl s)) ∧ ∃ (c0 : List Value), v = .tuple [.agg c0.toArray, .int .i64 (12)].toArray ∧ Na S c0 (0) (0)) ∨ ((wd (bl s) ∧ 256 < s.size) ∧ ∃ (c0 : List Value), v = .tuple [.agg c0.toArray, .int .i64 (3)].toArray ∧ Na S c0 (0) (0)) ∨ ((wd (bl s) ∧ s.size ≤ 256) ∧ ∃ (c0 : List Value), v = .tuple [.agg c0.toArray, .int .i64 (0)].toArray ∧ Na S c0 (XM (bl s)) (900)))) := by
 refine ZT (n := 109) Tryz.func97 rfl rfl ?_
 intro ac0 L0
 replace L0 : Zz ac0 109 [(0, (.string s))] := L0
 have R0 : Run S w S [] w := .start hS
 have hbs := YN s
 refine wp_seq (Za (so L0 rfl (ZM (cs := zN1) ZN R0 rfl ?_)))
 intro b1 _ R1 _ L1
 refine so L1 rfl (Zc L1 rfl fun _ L2 => (sn ?_))
 refine XG (fun ac ww => ∃ (S' : Sh) , S.le S' ∧ Zz ac 109 [(0, (.string s)), (2, (.pointer (some ⟨b1, 0, none⟩))), (3, (.int .i64 (0 : Int)))] ∧ Run S w S' [(b1, 32, zN1)] ww ∧ (0 < s.size) ∧ ((bl s).length = 1 ∨ (bl s).getD 0 0 ≠ 48)) ?_ ?_
 ·rintro ac1 _ ⟨S1, l1, L3, R2, hne, h48⟩
  refine wp_seq (wp_seq (Za (so L3 rfl (Zb L3 rfl ?_))))
  intro _ L4
  refine so L4 rfl (YM L4 rfl Tryz.underlying9 fun _ L5 => (so L5 rfl (Zb L5 rfl fun a5 L6 => (sn (wp_block ?_)))))
  have e1 : ((0 : Int) : Int) = ((0 : Nat) : Int) := by omega
  have L8 : Zz a5 109 [(29, (.int .i64 ((0 : Nat) : Int)))] := by have q := (L6.kp [29] rfl); rw [e1] at q; exact q
  refine ZZ (fun m ac ww => ∃ (S' : Sh) (i : Nat), S1.le S' ∧ Zz ac 109 [(0, (.string s)), (2, (.pointer (some ⟨b1, 0, none⟩))), (3, (.int .i64 (0 : Int))), (28, (.int .i64 ((s.size : Nat) : Int))), (29, (.int .i64 ((i : Nat) : Int)))] ∧ Run S w S' [(b1, 32, zN1)] ww ∧ (i ≤ s.size) ∧ (∀ k, k < i → 48 ≤ (bl s).getD k 0 ∧ (bl s).getD k 0 ≤ 57) ∧ m = s.size - i)
   (s.size - 0) ⟨S1, 0, Sh.le.refl _, (L6.keep (L6.keep (L6.keep (L6.keep (L8.keep (Zz.none _ L6) (t := 29) rfl) (t := 28) rfl) (t := 3) rfl) (t := 2) rfl) (t := 0) rfl), R2, (by omega), (by intro k hk; omega), rfl⟩ ?_
  rintro m_1 ac2 w3 ⟨S2, i, l2, L7, R3, hi, hdg, m1⟩
  refine wp_seq (Za ?_)
  by_cases t1 : ((i : Nat) : Int) < ((s.size : Nat) : Int)
  ·refine so L7 rfl (Zf (b := true) (decide_eq_true t1) (fun _ k_ => ZH L7 rfl rfl k_) fun _ L9 => (sn (wp_seq (Zs L9 rfl rfl (wp_skip ((Ze (wp_seq (wp_block (wp_seq (Za (so L9 rfl (Zb L9 rfl fun _ L10 => (so L10 rfl (Zc L10 rfl fun _ L11 => ?_)))))))))))))))
   refine sn (wp_seq (Za (so L11 rfl (Zb L11 rfl ?_))))
   intro _ L12
   refine so L12 rfl (Zb L12 rfl fun _ L13 => (so L13 rfl (Xj (j := i) L13 rfl rfl Tryz.underlying9 (by omega) (by omega) fun _ L14 => ?_)))
   by_cases t2 : (((bl s).getD (i) 0 : Nat) : Int) < (48 : Int)
   ·refine so L14 rfl (Zf (b := true) (decide_eq_true t2) (fun _ k_ => ZH L14 rfl rfl k_) fun _ L15 => (so L15 rfl (Zb L15 rfl fun _ L16 => (Zm L16 rfl rfl rfl rfl rfl rfl fun _ L17 => (Zm L17 rfl rfl rfl rfl rfl rfl fun _ L18 => (Zm L18 rfl rfl rfl rfl rfl rfl fun _ L19 => (Zm L19 rfl rfl rfl rfl rfl rfl fun _ L20 => (so L20 rfl (Zj L20 rfl rfl fun _ L21 => ?_)))))))))
    refine sn (Zs L21 rfl rfl (wp_seq (Za ?_)))
    have h1 : Na S2 zN1 (0) (0) := Na.zero _ _
    exact so L21 rfl (ZD (cs := zN1) L21 ZN Xf .nil (by rfl) fun _ L22 => (Zx L22 rfl rfl (Zi L22 rfl rfl R3 Zk h1.len rfl h1.ones fun _ R4 _ L23 => (so L23 rfl (Zc L23 rfl fun _ L24 => (sn (wp_ret ((Yx (ZE (ZE (Yx (ZE (Zv (rs := Tryz.f97.results.toList) L24 rfl (Res.aggW rfl ZJ Zk (R4.has (List.Mem.head _)) h1.len (.tmp rfl Res.nil)) (⟨_, _, rfl, R4.ext, (Or.inl ⟨by exact not_wd_at (i := i) (by omega) (by omega), ⟨_, rfl, (h1.to rfl (by omega))⟩⟩)⟩)))))))))))))))
   ·refine so L14 rfl (Zf (b := false) (decide_eq_false t2) (fun _ k_ => ZH L14 rfl rfl k_) fun _ L25 => (so L25 rfl (Zb L25 rfl fun _ L26 => (Zr L26 rfl rfl rfl rfl rfl (Zb L26 rfl fun _ L27 => (Zr L27 rfl rfl rfl rfl rfl (Zb L27 rfl fun _ L28 => (Zr L28 rfl rfl rfl rfl rfl (Xj (j := i) L28 rfl rfl Tryz.underlying9 (by omega) (by omega) fun _ L29 => ?_)))))))))
    by_cases t3 : (57 : Int) < (((bl s).getD (i) 0 : Nat) : Int)
    ·refine Zr L29 rfl rfl rfl rfl rfl (Zf (b := true) (decide_eq_true t3) (fun _ k_ => ZP L29 rfl rfl k_) fun _ L30 => (so L30 rfl (Zj L30 rfl rfl fun _ L31 => (sn (Zs L31 rfl rfl (wp_seq (Za ?_)))))))
     have h2 : Na S2 zN1 (0) (0) := Na.zero _ _
     exact so L31 rfl (ZD (cs := zN1) L31 ZN Xf .nil (by rfl) fun _ L32 => (Zx L32 rfl rfl (Zi L32 rfl rfl R3 Zk h2.len rfl h2.ones fun _ R5 _ L33 => (so L33 rfl (Zc L33 rfl fun _ L34 => (sn (wp_ret ((Yx (ZE (ZE (Yx (ZE (Zv (rs := Tryz.f97.results.toList) L34 rfl (Res.aggW rfl ZJ Zk (R5.has (List.Mem.head _)) h2.len (.tmp rfl Res.nil)) (⟨_, _, rfl, R5.ext, (Or.inl ⟨by exact not_wd_at (i := i) (by omega) (by omega), ⟨_, rfl, (h2.to rfl (by omega))⟩⟩)⟩)))))))))))))))
    ·refine Zr L29 rfl rfl rfl rfl rfl (Zf (b := false) (decide_eq_false t3) (fun _ k_ => ZP L29 rfl rfl k_) fun _ L35 => (so L35 rfl (Zj L35 rfl rfl fun _ L36 => (sn (Zn L36 rfl rfl (wp_skip ((ZI (Ze (Za (so L36 rfl (ZK (z := (((i : Nat) : Int) + (1 : Int))) L36 rfl rfl (IntWalk.i64_in _ (by omega)) fun _ L37 => (so L37 rfl (Zb L37 rfl fun a35 L38 => (sn ?_)))))))))))))))
     have e2 : ((((i : Nat) : Int) + (1 : Int)) : Int) = (((i + 1) : Nat) : Int) := by omega
     have L39 : Zz a35 109 [(29, (.int .i64 (((i + 1) : Nat) : Int)))] := by have q := (L38.kp [29] rfl); rw [e2] at q; exact q
     exact ⟨s.size - (i + 1), (by omega), S2, (i + 1), l2, (L38.keep (L38.keep (L38.keep (L38.keep (L39.keep (Zz.none _ L38) (t := 29) rfl) (t := 28) rfl) (t := 3) rfl) (t := 2) rfl) (t := 0) rfl), R3, (by omega), (by exact dig_step hdg ⟨by omega, by omega⟩), rfl⟩
  ·refine so L7 rfl (Zf (b := false) (decide_eq_false t1) (fun _ k_ => ZH L7 rfl rfl k_) fun _ L40 => (sn (wp_seq (Zn L40 rfl rfl (wp_exit ((ZA (ZA (YB (Ze (wp_seq (wp_seq ?_))))))))))))
   have hwd : wd (bl s) := wd_of (i := i) (by omega) h48 (by omega) hdg
   refine Za (so L40 rfl (Zb L40 rfl ?_))
   intro _ L41
   refine so L41 rfl (YM L41 rfl Tryz.underlying9 fun _ L42 => ?_)
   by_cases t4 : (256 : Int) < ((s.size : Nat) : Int)
   ·refine so L42 rfl (Zf (b := true) (decide_eq_true t4) (fun _ k_ => ZP L42 rfl rfl k_) fun _ L43 => ?_)
    have L44 := (L43.kp [0, 2, 3, 46] rfl); clear L43
    refine sn (Zs L44 rfl rfl (wp_seq (Za ?_)))
    have h3 : Na S2 zN1 (0) (0) := Na.zero _ _
    exact so L44 rfl (ZD (cs := zN1) L44 ZN Xf .nil (by rfl) fun _ L45 => (Zx L45 rfl rfl (Zi L45 rfl rfl R3 Zk h3.len rfl h3.ones fun _ R6 _ L46 => (so L46 rfl (Zc L46 rfl fun _ L47 => (sn (wp_ret ((ZE (Zv (rs := Tryz.f97.results.toList) L47 rfl (Res.aggW rfl ZJ Zk (R6.has (List.Mem.head _)) h3.len (.tmp rfl Res.nil)) (⟨_, _, rfl, R6.ext, (Or.inr (Or.inl ⟨by exact ⟨hwd, by omega⟩, ⟨_, rfl, (h3.to rfl (by omega))⟩⟩))⟩)))))))))))
   ·refine so L42 rfl (Zf (b := false) (decide_eq_false t4) (fun _ k_ => ZP L42 rfl rfl k_) fun _ L48 => ?_)
    have L49 := (L48.kp [0, 2, 3, 46] rfl); clear L48
    refine sn (Zn L49 rfl rfl (wp_skip ((Ze (wp_seq (Za (so L49 rfl (Zc L49 rfl ?_))))))))
    intro _ L50
    refine sn (wp_seq (wp_block ?_))
    have R7 : Run S w S2 ((b1, 32, zN1) :: (Xt none 29 (Yl []) ++ [])) w3 := R3
    refine ZZ (fun m ac ww => ∃ (S' : Sh) (t : ByteArray) (kk : Nat) (g_dd : Option (Nat × List Value)) (len_dd : Nat) (cap_dd : Nat) (dd : List Nat), S2.le S' ∧ Zz ac 109 [(0, (.string t)), (2, (.pointer (some ⟨b1, 0, none⟩))), (3, (.int .i64 (0 : Int))), (5, (.slice (gp g_dd) len_dd cap_dd))] ∧ Run S w S' ((b1, 32, zN1) :: (Xt g_dd 29 (Yl dd) ++ [])) ww ∧ (Gw g_dd len_dd cap_dd 1 (Yl dd)) ∧ (∀ e ∈ dd, e < 18446744073709551616) ∧ (bl t = (bl s).drop kk) ∧ (val W64 dd = XM ((bl s).take kk)) ∧ (len_dd ≤ kk) ∧ (kk + t.size = s.size) ∧ m = t.size)
     (s.size) ⟨S2, s, 0, none, 0, 0, [], Sh.le.refl _, (L50.kp [5, 3, 2, 0] rfl), R7, (by exact (Gw.nil 1)), (by simp), (by simp), (by rfl), (by omega), (by omega), rfl⟩ ?_
    rintro m_2 ac3 w7 ⟨S3, t, kk, g_dd, len_dd, cap_dd, dd, l3, L51, R8, hG_dd, hd, ht, hv, hb, hkk, m2⟩
    have hl_dd := hG_dd.hl; rw [ZG, Nat.mul_one] at hl_dd; have hc_dd := hG_dd.hc
    refine wp_seq (wp_seq (Za (so L51 rfl (Zb L51 rfl ?_))))
    intro _ L52
    refine so L52 rfl (YM L52 rfl Tryz.underlying9 fun _ L53 => ?_)
    by_cases t5 : (0 : Int) < ((t.size : Nat) : Int)
    ·refine so L53 rfl (Zf (b := true) (decide_eq_true t5) (fun _ k_ => ZP L53 rfl rfl k_) fun _ L54 => (sn (Zs L54 rfl rfl (wp_skip ((Ze (wp_block (wp_seq ?_))))))))
     have hbt := YN t
     have hdt : ∀ c ∈ bl t, 48 ≤ c ∧ c ≤ 57 := fun c hc => hwd.2.1 c (List.mem_of_mem_drop (by rw [← ht]; exact hc))
     refine Za (so L54 rfl (Zb L54 rfl ?_))
     intro _ L55
     refine so L55 rfl (YM L55 rfl Tryz.underlying9 fun _ L56 => (so L56 rfl (ZS (z := (((t.size : Nat) : Int) - (1 : Int))) L56 rfl rfl (IntWalk.i64_in _ (by omega)) fun _ L57 => (so L57 rfl (Za7 (z := ((((t.size : Nat) : Int) - (1 : Int)) % (19 : Int))) L57 rfl rfl (by omega) (rem_nn (by omega)) fun _ L58 => (so L58 rfl (ZK (z := (((t.size - 1) % 19 + 1 : Nat) : Int)) L58 rfl rfl (i64_to (by omega) (by omega)) fun _ L59 => (so L59 rfl (Zc L59 rfl fun _ L60 => (sn (wp_seq (Za ?_))))))))))))
     refine so L60 rfl (Zc L60 rfl fun _ L61 => (so L61 rfl (Zc L61 rfl fun _ L62 => (sn ?_))))
     refine XG (fun ac ww => ∃ (S' : Sh) (c0 : Nat) (yy : Nat), S3.le S' ∧ Zz ac 109 [(0, (.string t)), (2, (.pointer (some ⟨b1, 0, none⟩))), (3, (.int .i64 (0 : Int))), (5, (.slice (gp g_dd) len_dd cap_dd)), (48, (.string t)), (49, (.int .i64 ((t.size : Nat) : Int))), (50, (.bool true)), (51, (.string t)), (52, (.int .i64 ((t.size : Nat) : Int))), (53, (.int .i64 (((t.size : Nat) : Int) - (1 : Int)))), (54, (.int .i64 ((((t.size : Nat) : Int) - (1 : Int)) % (19 : Int)))), (55, (.int .i64 (((t.size - 1) % 19 + 1 : Nat) : Int))), (6, (.int .i64 (((t.size - 1) % 19 + 1 : Nat) : Int))), (7, (.int .u64 ((c0 : Nat) : Int))), (8, (.int .u64 ((yy : Nat) : Int)))] ∧ Run S w S' ((b1, 32, zN1) :: (Xt g_dd 29 (Yl dd) ++ [])) ww ∧ (c0 = XM ((bl t).take ((t.size - 1) % 19 + 1))) ∧ (yy = 10 ^ ((t.size - 1) % 19 + 1))) ?_ ?_
     ·rintro ac4 _ ⟨S4, c0, yy, l4, L63, R9, hc0, hyy⟩
      refine wp_seq (wp_seq ?_)
      have hpl := pow10_le (show (t.size - 1) % 19 + 1 ≤ 19 by omega)
      refine Za (so L63 rfl (Zb L63 rfl ?_))
      intro _ L64
      refine so L64 rfl (ZO L64 rfl Tryz.underlying30 fun _ L65 => (so L65 rfl (Zb L65 rfl fun a58 L66 => (sn (wp_block ?_)))))
      have e3 : ((0 : Int) : Int) = ((0 : Nat) : Int) := by omega
      have L68 : Zz a58 109 [(73, (.int .i64 ((0 : Nat) : Int)))] := by have q := (L66.kp [73] rfl); rw [e3] at q; exact q
      refine ZZ (fun m ac ww => ∃ (S' : Sh) (i : Nat) (cc : Nat) (g_us : Option (Nat × List Value)) (len_us : Nat) (cap_us : Nat) (us : List Nat), S4.le S' ∧ Zz ac 109 [(0, (.string t)), (2, (.pointer (some ⟨b1, 0, none⟩))), (3, (.int .i64 (0 : Int))), (5, (.slice (gp g_us) len_us cap_us)), (48, (.string t)), (49, (.int .i64 ((t.size : Nat) : Int))), (50, (.bool true)), (51, (.string t)), (52, (.int .i64 ((t.size : Nat) : Int))), (53, (.int .i64 (((t.size : Nat) : Int) - (1 : Int)))), (54, (.int .i64 ((((t.size : Nat) : Int) - (1 : Int)) % (19 : Int)))), (55, (.int .i64 (((t.size - 1) % 19 + 1 : Nat) : Int))), (6, (.int .i64 (((t.size - 1) % 19 + 1 : Nat) : Int))), (7, (.int .u64 ((cc : Nat) : Int))), (8, (.int .u64 ((yy : Nat) : Int))), (71, (.slice (gp g_dd) len_dd cap_dd)), (72, (.int .i64 ((len_dd : Nat) : Int))), (73, (.int .i64 ((i : Nat) : Int)))] ∧ Run S w S' ((b1, 32, zN1) :: (Xt g_us 29 (Yl us) ++ [])) ww ∧ (Gw g_us len_us cap_us 1 (Yl us)) ∧ (ByInv dd us yy c0 i cc) ∧ (i ≤ len_dd) ∧ (len_us = len_dd) ∧ m = len_dd - i)
       (len_dd - 0) ⟨S4, 0, c0, g_dd, len_dd, cap_dd, dd, Sh.le.refl _, (L66.keep (L66.keep (L66.keep (L66.keep (L66.keep (L66.keep (L66.keep (L66.keep (L66.keep (L66.keep (L66.keep (L66.keep (L66.keep (L66.keep (L66.keep (L66.keep (L66.keep (L68.keep (Zz.none _ L66) (t := 73) rfl) (t := 72) rfl) (t := 71) rfl) (t := 8) rfl) (t := 7) rfl) (t := 6) rfl) (t := 55) rfl) (t := 54) rfl) (t := 53) rfl) (t := 52) rfl) (t := 51) rfl) (t := 50) rfl) (t := 49) rfl) (t := 48) rfl) (t := 5) rfl) (t := 3) rfl) (t := 2) rfl) (t := 0) rfl), R9, (by exact hG_dd), (by exact ByInv.start hd (by rw [hc0, hyy]; exact pval_take_lt hdt)), (by omega), (by omega), rfl⟩ ?_
      rintro m_3 ac5 w9 ⟨S5, i, cc, g_us, len_us, cap_us, us, l5, L67, R10, hG_us, hI, hi, hlu, m3⟩
      have hl_us := hG_us.hl; rw [ZG, Nat.mul_one] at hl_us; have hc_us := hG_us.hc
      refine wp_seq (Za ?_)
      by_cases t6 : ((i : Nat) : Int) < ((len_dd : Nat) : Int)
      ·refine so L67 rfl (Zf (b := true) (decide_eq_true t6) (fun _ k_ => ZH L67 rfl rfl k_) fun _ L69 => (sn (wp_seq (Zs L69 rfl rfl (wp_skip ((Ze (wp_seq (wp_block (wp_seq (Za (so L69 rfl (Zb L69 rfl fun _ L70 => (so L70 rfl (Zc L70 rfl fun _ L71 => ?_)))))))))))))))
       refine sn (wp_seq ?_)
       have hIc := hI.cb; have hIn := hI.len
       refine Za (so L71 rfl (Zb L71 rfl ?_))
       intro _ L72
       refine so L72 rfl (Zb L72 rfl fun _ L73 => ?_)
       obtain ⟨b2, rest_1, rfl⟩ := hG_us.some (by omega)
       have R11 : Run S w S5 [(b2, 29, (Yl us ++ rest_1)), (b1, 32, zN1)] w9 := gown_out [(b1, 32, zN1)] (H := []) R10
       refine so L73 rfl (Zu (i) L73 rfl rfl Tryz.underlying30 ZB (by omega) (by omega) fun _ L74 => (so L74 rfl (Zl (v := (.int .u64 ((us.getD (i) 0 : Nat) : Int))) L74 rfl Yi (R11.has (List.Mem.head _)) (by rw [Nat.zero_add]; exact ZW (by omega)) fun _ L75 => (so L75 rfl (Zb L75 rfl fun _ L76 => (so L76 rfl (Zp L76 rfl ent_139 (XB R11.holds (x := (us.getD (i) 0)) (y := yy)    (ZR hI.lt (by decide) _) (by omega)) fun v_1 S6 _ x1 v1 => ?_)))))))
       have R12 := R11.call x1; have l6 := x1.le
       obtain rfl := v1
       intro _ L77
       refine so L77 rfl (Zb L77 rfl fun _ L78 => (so L78 rfl (Zh L78 rfl rfl fun _ L79 => (so L79 rfl (Zh L79 rfl rfl fun _ L80 => (so L80 rfl (Zc L80 rfl fun _ L81 => (so L81 rfl (Zc L81 rfl fun _ L82 => (sn (wp_seq (Za ?_))))))))))))
       refine so L82 rfl (Zc L82 rfl fun _ L83 => (sn (wp_seq (Za (so L83 rfl (Zb L83 rfl fun _ L84 => (so L84 rfl (Zb L84 rfl fun _ L85 => (so L85 rfl (Zb L85 rfl fun _ L86 => (so L86 rfl (Zb L86 rfl fun _ L87 => ?_))))))))))))
       refine so L87 rfl (Yv (x := ((us.getD (i) 0) * yy % 18446744073709551616)) (y := cc) (c := 0) L87 rfl (by omega) fun _ L88 => (so L88 rfl (Zb L88 rfl fun _ L89 => (so L89 rfl (Zh L89 rfl rfl fun _ L90 => (so L90 rfl (Zh L90 rfl rfl fun _ L91 => (so L91 rfl (Zu (i) L91 rfl rfl Tryz.underlying30 ZB (by omega) (by omega) fun _ L92 => (Zx L92 rfl rfl (Yh (cs' := (Yl (us.set (i) (((((us.getD (i) 0) * yy % 18446744073709551616) + cc + 0) % 18446744073709551616))) ++ rest_1)) L92 rfl rfl R12 ZB rfl (by simp only [List.length_append, ZG]; omega) (by rw [Nat.zero_add]; exact YC (by omega)) fun w11 R13 _ L93 => (so L93 rfl (Zc L93 rfl fun _ L94 => ?_)))))))))))))
       refine sn ?_
       have hbl := by_lt (ZR hI.lt (by decide) i) hI.cb
       refine Za (so L94 rfl (Zb L94 rfl ?_))
       intro _ L95
       refine so L95 rfl (Zb L95 rfl fun _ L96 => (so L96 rfl (ZK (z := ((((us.getD (i) 0) * yy / 18446744073709551616 : Nat) : Int) + (((((us.getD (i) 0) * yy % 18446744073709551616) + cc + 0) / 18446744073709551616 : Nat) : Int))) L96 rfl rfl (IntWalk.u64_in _ (by omega)) fun _ L97 => (so L97 rfl (Zc L97 rfl fun _ L98 => (Yr ((ZI (Ze (Za (so L98 rfl (ZK (z := (((i : Nat) : Int) + (1 : Int))) L98 rfl rfl (IntWalk.i64_in _ (by omega)) fun _ L99 => (so L99 rfl (Zb L99 rfl fun a90 L100 => (sn ?_)))))))))))))))
       have hG1 := Gw.same (ds := (us.set (i) (((((us.getD (i) 0) * yy % 18446744073709551616) + cc + 0) % 18446744073709551616)))) hG_us (by simp)
       have R14 : Run S w S6 ((b1, 32, zN1) :: (Xt (some (b2, rest_1)) 29 (Yl (us.set (i) (((((us.getD (i) 0) * yy % 18446744073709551616) + cc + 0) % 18446744073709551616)))) ++ [])) w11 := gown_own [(b1, 32, zN1)] (H := []) R13
       have e4 : (((((us.getD (i) 0) * yy / 18446744073709551616 : Nat) : Int) + (((((us.getD (i) 0) * yy % 18446744073709551616) + cc + 0) / 18446744073709551616 : Nat) : Int)) : Int) = (((((us.getD (i) 0) * yy / 18446744073709551616) + ((((us.getD (i) 0) * yy % 18446744073709551616) + cc + 0) / 18446744073709551616)) : Nat) : Int) := by omega
       have L101 : Zz a90 109 [(7, (.int .u64 (((((us.getD (i) 0) * yy / 18446744073709551616) + ((((us.getD (i) 0) * yy % 18446744073709551616) + cc + 0) / 18446744073709551616)) : Nat) : Int)))] := by have q := (L100.kp [7] rfl); rw [e4] at q; exact q
       have e5 : ((((i : Nat) : Int) + (1 : Int)) : Int) = (((i + 1) : Nat) : Int) := by omega
       have L102 : Zz a90 109 [(73, (.int .i64 (((i + 1) : Nat) : Int)))] := by have q := (L100.kp [73] rfl); rw [e5] at q; exact q
       exact ⟨len_dd - (i + 1), (by omega), S6, (i + 1), (((us.getD (i) 0) * yy / 18446744073709551616) + ((((us.getD (i) 0) * yy % 18446744073709551616) + cc + 0) / 18446744073709551616)), (some (b2, rest_1)), len_us, cap_us, (us.set (i) (((((us.getD (i) 0) * yy % 18446744073709551616) + cc + 0) % 18446744073709551616))), (l5.trans l6), (L100.keep (L100.keep (L100.keep (L100.keep (L100.keep (L100.keep (L100.keep (L100.keep (L100.keep (L100.keep (L100.keep (L100.keep (L100.keep (L101.keep (L100.keep (L100.keep (L100.keep (L102.keep (Zz.none _ L100) (t := 73) rfl) (t := 72) rfl) (t := 71) rfl) (t := 8) rfl) (t := 7) rfl) (t := 6) rfl) (t := 55) rfl) (t := 54) rfl) (t := 53) rfl) (t := 52) rfl) (t := 51) rfl) (t := 50) rfl) (t := 49) rfl) (t := 48) rfl) (t := 5) rfl) (t := 3) rfl) (t := 2) rfl) (t := 0) rfl), R14, (by exact hG1), (by exact hI.step (by omega) (by omega) (by rfl) (by rfl)), (by omega), (by omega), rfl⟩
      ·refine so L67 rfl (Zf (b := false) (decide_eq_false t6) (fun _ k_ => ZH L67 rfl rfl k_) fun _ L103 => (sn (wp_seq (Zn L103 rfl rfl (wp_exit ((ZA (ZA (YB (Ze (wp_seq (wp_seq ?_))))))))))))
       have hIc := hI.cb; have hIl := hI.lt; have hIn := hI.len
       refine Za (so L103 rfl (Zb L103 rfl ?_))
       intro _ L104
       by_cases t7 : (0 : Int) < ((cc : Nat) : Int)
       ·refine so L104 rfl (Zf (b := true) (decide_eq_true t7) (fun _ k_ => ZP L104 rfl rfl k_) fun _ L105 => (sn (Zs L105 rfl rfl (Za (so L105 rfl (Zb L105 rfl fun _ L106 => (so L106 rfl (Zb L106 rfl fun _ L107 => (so L107 rfl (YQ (cs := (Yl [cc] ++ [])) L107 Tryz.underlying30 ZB Xv (.cons rfl rfl (by decide) .nil) [[(.int .u64 ((cc : Nat) : Int))]] rfl rfl (by rfl) (by decide) R10 fun b3 _ R15 _ L108 => (so L108 rfl (Qw (g := g_us) (cs := (Yl us)) (vs := (Yl [cc])) (H := [(b3, 29, (Yl [cc] ++ [])), (b1, 32, zN1)] ++ []) L108 rfl rfl Tryz.underlying30 ZB XY Xv rfl hG_us (gown_in [(b3, 29, (Yl [cc] ++ [])), (b1, 32, zN1)] (H2 := Xt g_us 29 (Yl us)) (H := []) R15) (R15.has (List.Mem.head _)) rfl rfl (u64s_ones _) (by omega) (by omega) (by omega) fun g1 cap1 w13 hG2 R16 _ L109 => ?_))))))))))))
        rw [QP] at hG2 R16
        have R17 : Run S w S5 ((b3, 29, (Yl [cc] ++ [])) :: (b1, 32, zN1) :: (Xt g1 29 (Yl (us ++ [cc])) ++ [])) w13 := gown_in (Xt g1 29 (Yl (us ++ [cc]))) (H2 := [(b3, 29, (Yl [cc] ++ [])), (b1, 32, zN1)]) (H := []) R16
        refine so L109 rfl (Zc L109 rfl fun _ L110 => (sn (Za (so L110 rfl (Zb L110 rfl fun _ L111 => (so L111 rfl (Zb L111 rfl fun _ L112 => (so L112 rfl (XW (i := ((t.size - 1) % 19 + 1)) (j := t.size) (z := (t.extract (((t.size - 1) % 19 + 1)) (t.size))) L112 rfl Tryz.underlying9 ⟨_, rfl⟩ rfl (by omega) (by omega) rfl fun _ L113 => (so L113 rfl (Zc L113 rfl fun _ L114 => (Yr ((ZI (Ze ?_)))))))))))))))
        exact ⟨(t.extract (((t.size - 1) % 19 + 1)) (t.size)).size, (by rw [ByteArray.size_extract]; omega), S5, (t.extract (((t.size - 1) % 19 + 1)) (t.size)), (kk + ((t.size - 1) % 19 + 1)), g1, (len_us + 1), cap1, (us ++ [cc]), (l3.trans (l4.trans l5)), (L114.kp [5, 3, 2, 0] rfl), (Run.mid [(b1, 32, zN1)] [(b3, 29, (Yl [cc] ++ []))] (ZX R17)), (by exact hG2), (by first | exact lt_snoc hIl (by omega) | exact hIl), (by rw [Zbb, ht, List.take_of_length_le (by rw [← ht, YN]; omega), List.drop_drop]), (by have q := parse_next ht hv (by rw [YN]; omega) hc0; have r := hI.done (by omega) (by omega); rw [← hyy] at q; first | (rw [val_snoc, ← q]; exact r) | (rw [← q, ← r, show cc = 0 by omega]; simp)), (by omega), (by rw [ByteArray.size_extract]; omega), rfl⟩
       ·refine so L104 rfl (Zf (b := false) (decide_eq_false t7) (fun _ k_ => ZP L104 rfl rfl k_) fun _ L115 => (sn (Zn L115 rfl rfl (wp_skip ((Ze (Za (so L115 rfl (Zb L115 rfl fun _ L116 => (so L116 rfl (Zb L116 rfl fun _ L117 => (so L117 rfl (XW (i := ((t.size - 1) % 19 + 1)) (j := t.size) (z := (t.extract (((t.size - 1) % 19 + 1)) (t.size))) L117 rfl Tryz.underlying9 ⟨_, rfl⟩ rfl (by omega) (by omega) rfl fun _ L118 => (so L118 rfl (Zc L118 rfl fun _ L119 => ?_)))))))))))))))
        exact Yr ((ZI (Ze (⟨(t.extract (((t.size - 1) % 19 + 1)) (t.size)).size, (by rw [ByteArray.size_extract]; omega), S5, (t.extract (((t.size - 1) % 19 + 1)) (t.size)), (kk + ((t.size - 1) % 19 + 1)), g_us, len_us, cap_us, us, (l3.trans (l4.trans l5)), (L119.kp [5, 3, 2, 0] rfl), R10, (by exact hG_us), (by first | exact lt_snoc hIl (by omega) | exact hIl), (by rw [Zbb, ht, List.take_of_length_le (by rw [← ht, YN]; omega), List.drop_drop]), (by have q := parse_next ht hv (by rw [YN]; omega) hc0; have r := hI.done (by omega) (by omega); rw [← hyy] at q; first | (rw [val_snoc, ← q]; exact r) | (rw [← q, ← r, show cc = 0 by omega]; simp)), (by omega), (by rw [ByteArray.size_extract]; omega), rfl⟩))))
     ·skip
      refine wp_seq (Za (so L62 rfl (Zb L62 rfl ?_)))
      intro _ L120
      refine so L120 rfl (Zb L120 rfl fun a109 L121 => (sn (wp_block ?_)))
      have e6 : ((0 : Int) : Int) = ((0 : Nat) : Int) := by omega
      have L123 : Zz a109 109 [(7, (.int .u64 ((0 : Nat) : Int)))] := by have q := (L121.kp [7] rfl); rw [e6] at q; exact q
      have e7 : ((1 : Int) : Int) = ((1 : Nat) : Int) := by omega
      have L124 : Zz a109 109 [(8, (.int .u64 ((1 : Nat) : Int)))] := by have q := (L121.kp [8] rfl); rw [e7] at q; exact q
      have e8 : ((0 : Int) : Int) = ((0 : Nat) : Int) := by omega
      have L125 : Zz a109 109 [(57, (.int .i64 ((0 : Nat) : Int)))] := by have q := (L121.kp [57] rfl); rw [e8] at q; exact q
      refine ZZ (fun m ac ww => ∃ (S' : Sh) (i : Nat) (cc : Nat) (yy : Nat), S3.le S' ∧ Zz ac 109 [(0, (.string t)), (2, (.pointer (some ⟨b1, 0, none⟩))), (3, (.int .i64 (0 : Int))), (5, (.slice (gp g_dd) len_dd cap_dd)), (48, (.string t)), (49, (.int .i64 ((t.size : Nat) : Int))), (50, (.bool true)), (51, (.string t)), (52, (.int .i64 ((t.size : Nat) : Int))), (53, (.int .i64 (((t.size : Nat) : Int) - (1 : Int)))), (54, (.int .i64 ((((t.size : Nat) : Int) - (1 : Int)) % (19 : Int)))), (55, (.int .i64 (((t.size - 1) % 19 + 1 : Nat) : Int))), (6, (.int .i64 (((t.size - 1) % 19 + 1 : Nat) : Int))), (7, (.int .u64 ((cc : Nat) : Int))), (8, (.int .u64 ((yy : Nat) : Int))), (56, (.int .i64 (((t.size - 1) % 19 + 1 : Nat) : Int))), (57, (.int .i64 ((i : Nat) : Int)))] ∧ Run S w S' ((b1, 32, zN1) :: (Xt g_dd 29 (Yl dd) ++ [])) ww ∧ (i ≤ (t.size - 1) % 19 + 1) ∧ (cc = XM ((bl t).take i)) ∧ (yy = 10 ^ i) ∧ m = (t.size - 1) % 19 + 1 - i)
       ((t.size - 1) % 19 + 1 - 0) ⟨S3, 0, 0, 1, Sh.le.refl _, (L121.keep (L121.keep (L121.keep (L121.keep (L121.keep (L121.keep (L121.keep (L121.keep (L121.keep (L121.keep (L121.keep (L121.keep (L121.keep (L123.keep (L124.keep (L121.keep (L125.keep (Zz.none _ L121) (t := 57) rfl) (t := 56) rfl) (t := 8) rfl) (t := 7) rfl) (t := 6) rfl) (t := 55) rfl) (t := 54) rfl) (t := 53) rfl) (t := 52) rfl) (t := 51) rfl) (t := 50) rfl) (t := 49) rfl) (t := 48) rfl) (t := 5) rfl) (t := 3) rfl) (t := 2) rfl) (t := 0) rfl), R8, (by omega), (by rfl), (by rfl), rfl⟩ ?_
      rintro m_4 ac6 _ ⟨S7, i, cc, yy, l7, L122, R18, hi, hcc, hyy, m4⟩
      refine wp_seq (Za ?_)
      by_cases t8 : ((i : Nat) : Int) < (((t.size - 1) % 19 + 1 : Nat) : Int)
      ·refine so L122 rfl (Zf (b := true) (decide_eq_true t8) (fun _ k_ => ZH L122 rfl rfl k_) fun _ L126 => (sn (wp_seq (Zs L126 rfl rfl (wp_skip ((Ze (wp_seq (wp_block (wp_seq (Za (so L126 rfl (Zb L126 rfl fun _ L127 => (so L127 rfl (Zc L127 rfl fun _ L128 => ?_)))))))))))))))
       refine sn ?_
       have hdi := digit_at hdt (show i < (bl t).length by omega)
       have hpl := pow10_le (show i + 1 ≤ 19 by omega); rw [Nat.pow_succ] at hpl
       have hcl : cc < 10 ^ i := by rw [hcc]; exact pval_take_lt hdt
       refine Za (so L128 rfl (Zb L128 rfl ?_))
       intro _ L129
       refine so L129 rfl (Xa (z := ((10 : Int) * ((cc : Nat) : Int))) L129 rfl rfl (IntWalk.u64_in _ (by omega)) fun _ L130 => (so L130 rfl (Zb L130 rfl fun _ L131 => (so L131 rfl (Zb L131 rfl fun _ L132 => (so L132 rfl (Xj (j := i) L132 rfl rfl Tryz.underlying9 (by omega) (by omega) fun _ L133 => (so L133 rfl (ZS (z := ((((bl t).getD (i) 0 : Nat) : Int) - (48 : Int))) L133 rfl rfl (IntWalk.u8_in _ (by omega)) fun _ L134 => (so L134 rfl (Qv (z := (((((bl t).getD (i) 0 : Nat) : Int) - (48 : Int)))) L134 rfl rfl Tryz.underlying29 (IntWalk.u64_in _ (by omega)) fun _ L135 => (so L135 rfl (ZK (z := (((10 : Int) * ((cc : Nat) : Int)) + (((((bl t).getD (i) 0 : Nat) : Int) - (48 : Int))))) L135 rfl rfl (IntWalk.u64_in _ (by omega)) fun _ L136 => ?_)))))))))))))
       refine so L136 rfl (Zb L136 rfl fun _ L137 => (so L137 rfl (Xa (z := ((10 : Int) * ((yy : Nat) : Int))) L137 rfl rfl (IntWalk.u64_in _ (by omega)) fun _ L138 => (so L138 rfl (Zc L138 rfl fun _ L139 => (so L139 rfl (Zc L139 rfl fun _ L140 => (Yr ((ZI (Ze (Za (so L140 rfl (ZK (z := (((i : Nat) : Int) + (1 : Int))) L140 rfl rfl (IntWalk.i64_in _ (by omega)) fun _ L141 => (so L141 rfl (Zb L141 rfl fun a126 L142 => ?_))))))))))))))))
       refine sn ?_
       have e9 : ((((10 : Int) * ((cc : Nat) : Int)) + (((((bl t).getD (i) 0 : Nat) : Int) - (48 : Int)))) : Int) = (((10 * cc + ((bl t).getD (i) 0 - 48)) : Nat) : Int) := by omega
       have L143 : Zz a126 109 [(7, (.int .u64 (((10 * cc + ((bl t).getD (i) 0 - 48)) : Nat) : Int)))] := by have q := (L142.kp [7] rfl); rw [e9] at q; exact q
       have e10 : (((10 : Int) * ((yy : Nat) : Int)) : Int) = (((10 * yy) : Nat) : Int) := by omega
       have L144 : Zz a126 109 [(8, (.int .u64 (((10 * yy) : Nat) : Int)))] := by have q := (L142.kp [8] rfl); rw [e10] at q; exact q
       have e11 : ((((i : Nat) : Int) + (1 : Int)) : Int) = (((i + 1) : Nat) : Int) := by omega
       have L145 : Zz a126 109 [(57, (.int .i64 (((i + 1) : Nat) : Int)))] := by have q := (L142.kp [57] rfl); rw [e11] at q; exact q
       exact ⟨(t.size - 1) % 19 + 1 - (i + 1), (by omega), S7, (i + 1), (10 * cc + ((bl t).getD (i) 0 - 48)), (10 * yy), l7, (L142.keep (L142.keep (L142.keep (L142.keep (L142.keep (L142.keep (L142.keep (L142.keep (L142.keep (L142.keep (L142.keep (L142.keep (L142.keep (L143.keep (L144.keep (L142.keep (L145.keep (Zz.none _ L142) (t := 57) rfl) (t := 56) rfl) (t := 8) rfl) (t := 7) rfl) (t := 6) rfl) (t := 55) rfl) (t := 54) rfl) (t := 53) rfl) (t := 52) rfl) (t := 51) rfl) (t := 50) rfl) (t := 49) rfl) (t := 48) rfl) (t := 5) rfl) (t := 3) rfl) (t := 2) rfl) (t := 0) rfl), R18, (by omega), (by rw [hcc, pval_take_succ (by rw [YN]; omega)]), (by rw [hyy, Nat.pow_succ, Nat.mul_comm]), rfl⟩
      ·exact so L122 rfl (Zf (b := false) (decide_eq_false t8) (fun _ k_ => ZH L122 rfl rfl k_) fun _ L146 => (sn (wp_seq (Zn L146 rfl rfl (wp_exit ((ZA (ZA (YB (Ze (⟨S7, cc, yy, l7, (L146.kp [8, 7, 6, 55, 54, 53, 52, 51, 50, 49, 48, 5, 3, 2, 0] rfl), R18, (by rw [hcc]; congr 2; omega), (by rw [hyy]; congr 1; omega)⟩)))))))))))
    ·refine so L53 rfl (Zf (b := false) (decide_eq_false t5) (fun _ k_ => ZP L53 rfl rfl k_) fun _ L147 => (sn (Zn L147 rfl rfl (wp_exit ((ZA (ZA (YB (Ze (wp_seq ?_))))))))))
     have hall : kk = s.size := by omega
     refine Za (so L147 rfl (Zb L147 rfl ?_))
     intro _ L148
     obtain ⟨S8, l8, r1, R19⟩ := Run.freezeG [(b1, 32, zN1)] (H := []) R8
     have R20 : Run S w S8 [(b1, 32, zN1)] w7 := R19
     have hd1 := hG_dd.dg (S := S8) r1 (by omega) (by exact hd)
     refine so L148 rfl (Zp L148 rfl QV (QS R20.holds  (k := 900)  hd1 (by rw [hv]; exact pval_le (fun c hc => hwd.2.1 c (List.mem_of_mem_take hc)) (by rw [List.length_take]; omega))) fun v_2 _ _ x2 v2 => ?_)
     have R21 := R20.call x2
     obtain ⟨c1, rfl, h4⟩ := v2
     intro _ L149
     exact Zx L149 rfl rfl (Zi L149 rfl rfl R21 Zk h4.len rfl h4.ones fun _ R22 _ L150 => (so L150 rfl (Zc L150 rfl fun _ L151 => (sn (wp_ret ((Zv (rs := Tryz.f97.results.toList) (L151.kp [2, 3] rfl) rfl (Res.aggW rfl ZJ Zk (R22.has (List.Mem.head _)) h4.len (.tmp rfl Res.nil)) (⟨_, _, rfl, R22.ext, (Or.inr (Or.inr ⟨by exact ⟨hwd, by omega⟩, ⟨_, rfl, (h4.to (by rw [hv, hall, List.take_of_length_le (by omega)]) (by omega))⟩⟩))⟩))))))))
 ·skip
  refine wp_seq (Za (so L2 rfl (Zb L2 rfl ?_)))
  intro _ L153
  by_cases t9 : s = (⟨#[]⟩ : ByteArray)
  ·refine so L153 rfl (Zf (b := true) (decide_eq_true t9) (fun _ k_ => Xm L153 rfl rfl k_) fun _ L154 => (so L154 rfl (Zb L154 rfl fun _ L155 => (Zm L155 rfl rfl rfl rfl rfl rfl fun _ L156 => (Zm L156 rfl rfl rfl rfl rfl rfl fun _ L157 => (Zm L157 rfl rfl rfl rfl rfl rfl fun _ L158 => (Zm L158 rfl rfl rfl rfl rfl rfl fun _ L159 => (Yd L159 rfl rfl rfl rfl rfl fun _ L160 => ?_))))))))
   refine Yd L160 rfl rfl rfl rfl rfl ?_
   intro _ L161
   refine Yd L161 rfl rfl rfl rfl rfl ?_
   intro _ L162
   refine Zm L162 rfl rfl rfl rfl rfl rfl fun _ L163 => (so L163 rfl (Zj L163 rfl rfl fun _ L164 => ?_))
   have L165 := (L164.kp [0, 2, 3, 25] rfl); clear L164
   refine sn (Zs L165 rfl rfl (wp_seq (Za ?_)))
   have h5 : Na S zN1 (0) (0) := Na.zero _ _
   exact so L165 rfl (ZD (cs := zN1) L165 ZN Xf .nil (by rfl) fun _ L166 => (Zx L166 rfl rfl (Zi L166 rfl rfl R1 Zk h5.len rfl h5.ones fun _ R23 _ L167 => (so L167 rfl (Zc L167 rfl fun _ L168 => (sn (wp_ret ((ZE (Zv (rs := Tryz.f97.results.toList) L168 rfl (Res.aggW rfl ZJ Zk (R23.has (List.Mem.head _)) h5.len (.tmp rfl Res.nil)) (⟨_, _, rfl, R23.ext, (Or.inl ⟨by first | exact Xw (by assumption) | exact Xl (by omega) (by omega), ⟨_, rfl, (h5.to rfl (by omega))⟩⟩)⟩)))))))))))
  ·refine so L153 rfl (Zf (b := false) (decide_eq_false t9) (fun _ k_ => Xm L153 rfl rfl k_) fun _ L169 => (so L169 rfl (Zb L169 rfl fun _ L170 => (Zr L170 rfl rfl rfl rfl rfl (Zb L170 rfl fun _ L171 => (Zr L171 rfl rfl rfl rfl rfl (YM L171 rfl Tryz.underlying9 fun _ L172 => ?_)))))))
   by_cases t10 : (1 : Int) < ((s.size : Nat) : Int)
   ·refine Zr L172 rfl rfl rfl rfl rfl (Zf (b := true) (decide_eq_true t10) (fun _ k_ => ZP L172 rfl rfl k_) fun _ L173 => (Zr L173 rfl rfl rfl rfl rfl (Zb L173 rfl fun _ L174 => (Zr L174 rfl rfl rfl rfl rfl (Zb L174 rfl fun _ L175 => (Zr L175 rfl rfl rfl rfl rfl (Xj (j := 0) L175 rfl rfl Tryz.underlying9 (by omega) (by omega) fun _ L176 => ?_)))))))
    by_cases t11 : (((bl s).getD (0) 0 : Nat) : Int) = (48 : Int)
    ·refine Zr L176 rfl rfl rfl rfl rfl (Zf (b := true) (decide_eq_true t11) (fun _ k_ => ZY L176 rfl rfl k_) fun _ L177 => (Zr L177 rfl rfl rfl rfl rfl (Zj L177 rfl rfl fun _ L178 => (so L178 rfl (Zj L178 rfl rfl fun _ L179 => ?_)))))
     have L180 := (L179.kp [0, 2, 3, 25] rfl); clear L179
     refine sn (Zs L180 rfl rfl (wp_seq (Za ?_)))
     have h6 : Na S zN1 (0) (0) := Na.zero _ _
     exact so L180 rfl (ZD (cs := zN1) L180 ZN Xf .nil (by rfl) fun _ L181 => (Zx L181 rfl rfl (Zi L181 rfl rfl R1 Zk h6.len rfl h6.ones fun _ R24 _ L182 => (so L182 rfl (Zc L182 rfl fun _ L183 => (sn (wp_ret ((ZE (Zv (rs := Tryz.f97.results.toList) L183 rfl (Res.aggW rfl ZJ Zk (R24.has (List.Mem.head _)) h6.len (.tmp rfl Res.nil)) (⟨_, _, rfl, R24.ext, (Or.inl ⟨by first | exact Xw (by assumption) | exact Xl (by omega) (by omega), ⟨_, rfl, (h6.to rfl (by omega))⟩⟩)⟩)))))))))))
    ·refine Zr L176 rfl rfl rfl rfl rfl (Zf (b := false) (decide_eq_false t11) (fun _ k_ => ZY L176 rfl rfl k_) fun _ L184 => (Zr L184 rfl rfl rfl rfl rfl (Zj L184 rfl rfl fun _ L185 => (so L185 rfl (Zj L185 rfl rfl fun _ L186 => ?_)))))
     have L187 := (L186.kp [0, 2, 3, 25] rfl); clear L186
     exact sn (Zn L187 rfl rfl (wp_skip ((Ze (⟨S, Sh.le.refl _, (L187.kp [3, 2, 0] rfl), R1, (by exact XR (by assumption)), (by have q := YN s; have q2 := XR (by assumption); omega)⟩)))))
   ·refine Zr L172 rfl rfl rfl rfl rfl (Zf (b := false) (decide_eq_false t10) (fun _ k_ => ZP L172 rfl rfl k_) fun _ L188 => (Zr L188 rfl rfl rfl rfl rfl (Zb L188 rfl fun _ L189 => (Zm L189 rfl rfl rfl rfl rfl rfl fun _ L190 => (Zm L190 rfl rfl rfl rfl rfl rfl fun _ L191 => (Zm L191 rfl rfl rfl rfl rfl rfl fun _ L192 => (Zr L192 rfl rfl rfl rfl rfl (Zj L192 rfl rfl fun _ L193 => (so L193 rfl (Zj L193 rfl rfl fun _ L194 => ?_))))))))))
    have L195 := (L194.kp [0, 2, 3, 25] rfl); clear L194
    exact sn (Zn L195 rfl rfl (wp_skip ((Ze (⟨S, Sh.le.refl _, (L195.kp [3, 2, 0] rfl), R1, (by exact XR (by assumption)), (by have q := YN s; have q2 := XR (by assumption); omega)⟩)))))
end Go.Cham
namespace Go.Cham
open Go Go.RowKit Go.Proofs
theorem agg_4 : aggT Tryz.prog 4 = some false := by kernel_rfl
theorem Zad : aggT Tryz.prog 34 = some true := by kernel_rfl
theorem Xb : Yo Tryz.prog 34 = some 3 := by kernel_rfl
theorem zero_34 : XF Tryz.prog 34 = some (.agg ([(.bool false), (.int .u64 (0 : Int)), (.slice none 0 0)] : List Value).toArray) := by kernel_rfl
theorem Za4 : Qi Tryz.prog 34 0 = some (0, 4, 1) := by kernel_rfl
theorem QF : Qi Tryz.prog 34 1 = some (1, 32, 2) := by kernel_rfl
theorem sok_34 : Zav Tryz.prog 34 = true := by kernel_rfl
theorem ent_76 : Yn Tryz.prog 76 = true := by kernel_rfl
theorem ent_82 : Yn Tryz.prog 82 = true := by kernel_rfl
theorem ent_145 : Yn Tryz.prog 145 = true := by kernel_rfl
end Go.Cham
namespace Go.Cham
open Go Go.RowKit Go.Proofs
set_option maxRecDepth 20000 in
theorem Qa {S : Sh} {w : World} (hS : Yw S w) {mi : Bool} {c_a : List Value} {a : Nat} {k_a : Nat} (h_a : Na S c_a (a) (k_a))  : Calls Tryz.prog 82 [(.bool mi), (.agg (c_a : List Value).toArray)].toArray w (Ret S w (fun S v => ∃ (c0 : List Value), v = .agg c0.toArray ∧ In S c0 (sI mi a) (k_a))) := by
 refine ZT (n := 13) Tryz.func82 rfl rfl ?_
 intro ac0 L0
 replace L0 : Zz ac0 13 [(0, (.bool mi)), (1, (.agg (c_a : List Value).toArray))] := L0
 have R0 : Run S w S [] w := .start hS
 have hbz := @QJ a
 obtain rfl | rfl : mi = true ∨ mi = false := by cases mi <;> simp
 ·refine wp_seq (Za (so L0 rfl (Yq (cs := c_a) L0 rfl R0 rfl ?_)))
  intro b1 _ _ l1 r1 R1 _ L1
  refine so L1 rfl (ZM (cs := zI1) zero_34 R1 rfl fun b2 _ R2 _ L2 => (sn (wp_seq ?_)))
  by_cases t1 : (0 : Int) < ((ZF a : Nat) : Int)
  ·have L3 := (L2.kp [0, 3, 4] rfl)
   refine Zy (E0 := []) (H0 := [(b2, 34, zI1)]) (n := 13) mixed 7 [] (fun k =>  0) (Zaf [
     .is (.bool true),
     .is (.bool true),
     .is (.agg (c_a : List Value).toArray),
     .is (.int .i64 (((ZF a : Nat) : Int))),
     .is (.bool true),
     .is (.bool true),
     .is (.agg (c_a : List Value).toArray)]) L3 R2 (by simp) (by simp) (by rfl) (by rfl) (by simp) (ZU ?_) ?_
   ·refine (And.intro ?_ (And.intro ?_ (And.intro ?_ (And.intro ?_ (And.intro ?_ (And.intro ?_ (And.intro ?_ trivial)))))))
    ·exact Zd rfl (fun _ _ _ _ _ A1 => (Zb A1.live rfl (A1.same  rfl)))
    ·refine Zd rfl (fun _ _ _ _ _ A2 => ?_)
     obtain ⟨_, e1, rfl⟩ := A2.known 0 rfl
     exact Zb (A2.live.add e1) rfl (A2.same  rfl)
    ·exact step_on rfl rfl rfl rfl (fun _ _ _ _ _ A3 => (Zt A3.live rfl ZJ Zk (A3.run.row (r1.up A3.le)) h_a.len (A3.same  rfl)))
    ·refine step_on rfl rfl rfl rfl (fun _ _ _ _ _ A4 => ?_)
     obtain ⟨_, e2, rfl⟩ := A4.known 2 rfl
     exact Zp (A4.live.add e2) rfl Zao (Yt A4.run.holds    (h_a.up (l1.trans A4.le)) ) fun v_1 _ _ x1 v1 => (A4.post x1.le (A4.run.call x1) v1)
    ·refine step_on rfl rfl rfl rfl (fun _ _ _ _ _ A5 => ?_)
     obtain ⟨_, e3, rfl⟩ := A5.known 3 rfl
     exact Zf (b := true) (decide_eq_true t1) (fun _ k_ => ZP (A5.live.add e3) rfl rfl k_) (A5.same  rfl)
    ·refine Zd rfl (fun _ _ _ _ _ A6 => ?_)
     obtain ⟨_, e4, rfl⟩ := A6.known 1 rfl
     obtain ⟨_, e5, rfl⟩ := A6.known 4 rfl
     exact Zj ((A6.live.add e4).add e5) rfl rfl (A6.same  rfl)
    ·exact Zd rfl (fun _ _ _ _ _ A7 => (Zt A7.live rfl ZJ Zk (A7.run.row (r1.up A7.le)) h_a.len (A7.same  rfl)))
   ·intro S10 _ _ w11 l3 E1 R4 n1 L11 K1
    obtain ⟨_, e6, rfl⟩ := K1 5 (by decide)
    have L12 := L11.add e6; clear L11
    obtain ⟨_, e7, rfl⟩ := K1 6 (by decide)
    have L13 := L12.add e7; clear L12
    have R5 : Run _ _ S10 [(b2, 34, zI1)] w11 := Yc R4 n1 [] (by simp) (by simp)
    have h1 : In S10 ([(.bool true)] ++ c_a) (sI true a) (k_a) := In.mk (h_a.up (l1.trans l3)) (by rfl) (by intro e; exfalso; omega)
    obtain ⟨c1, e8⟩ : ∃ cs : List Value, ([(.bool true)] ++ c_a) = cs := ⟨_, rfl⟩
    rw [e8] at h1
    exact so L13 rfl (ZD (cs := c1) L13 zero_34 sok_34 (.cons rfl Za4 rfl (by decide) (.cons rfl QF h_a.len (by decide) .nil)) (by exact QX [[(.bool true)], c_a] (by simp [XO, Value.cells, h_a.len]) (by simp [Value.cells, h_a.len]) (by rw [← e8]; simp)) fun _ L14 => (Zx L14 rfl rfl (Zi L14 rfl rfl R5 Xb h1.len rfl h1.ones fun _ R6 _ L15 => (sn (wp_ret ((Zv (rs := Tryz.f82.results.toList) (L15.kp [4] rfl) rfl (Res.aggW rfl Zad Xb (R6.has (List.Mem.head _)) h1.len Res.nil) (⟨_, _, rfl, R6.ext, ⟨_, rfl, (h1.to (by rfl) (by omega))⟩⟩))))))))
  ·have L17 := (L2.kp [0, 3, 4] rfl)
   refine Zy (E0 := []) (H0 := [(b2, 34, zI1)]) (n := 13) mixed 7 [] (fun k =>  0) (Zaf [
     .is (.bool true),
     .is (.bool true),
     .is (.agg (c_a : List Value).toArray),
     .is (.int .i64 (((ZF a : Nat) : Int))),
     .is (.bool false),
     .is (.bool false),
     .is (.agg (c_a : List Value).toArray)]) L17 R2 (by simp) (by simp) (by rfl) (by rfl) (by simp) (ZU ?_) ?_
   ·refine (And.intro ?_ (And.intro ?_ (And.intro ?_ (And.intro ?_ (And.intro ?_ (And.intro ?_ (And.intro ?_ trivial)))))))
    ·exact Zd rfl (fun _ _ _ _ _ A8 => (Zb A8.live rfl (A8.same  rfl)))
    ·refine Zd rfl (fun _ _ _ _ _ A9 => ?_)
     obtain ⟨_, e9, rfl⟩ := A9.known 0 rfl
     exact Zb (A9.live.add e9) rfl (A9.same  rfl)
    ·exact step_on rfl rfl rfl rfl (fun _ _ _ _ _ A10 => (Zt A10.live rfl ZJ Zk (A10.run.row (r1.up A10.le)) h_a.len (A10.same  rfl)))
    ·refine step_on rfl rfl rfl rfl (fun _ _ _ _ _ A11 => ?_)
     obtain ⟨_, e10, rfl⟩ := A11.known 2 rfl
     exact Zp (A11.live.add e10) rfl Zao (Yt A11.run.holds    (h_a.up (l1.trans A11.le)) ) fun v_2 _ _ x2 v2 => (A11.post x2.le (A11.run.call x2) v2)
    ·refine step_on rfl rfl rfl rfl (fun _ _ _ _ _ A12 => ?_)
     obtain ⟨_, e11, rfl⟩ := A12.known 3 rfl
     exact Zf (b := false) (decide_eq_false t1) (fun _ k_ => ZP (A12.live.add e11) rfl rfl k_) (A12.same  rfl)
    ·refine Zd rfl (fun _ _ _ _ _ A13 => ?_)
     obtain ⟨_, e12, rfl⟩ := A13.known 1 rfl
     obtain ⟨_, e13, rfl⟩ := A13.known 4 rfl
     exact Zj ((A13.live.add e12).add e13) rfl rfl (A13.same  rfl)
    ·exact Zd rfl (fun _ _ _ _ _ A14 => (Zt A14.live rfl ZJ Zk (A14.run.row (r1.up A14.le)) h_a.len (A14.same  rfl)))
   ·intro S19 _ _ w21 l5 E2 R8 n2 L25 K2
    obtain ⟨_, e14, rfl⟩ := K2 5 (by decide)
    have L26 := L25.add e14; clear L25
    obtain ⟨_, e15, rfl⟩ := K2 6 (by decide)
    have L27 := L26.add e15; clear L26
    have R9 : Run _ _ S19 [(b2, 34, zI1)] w21 := Yc R8 n2 [] (by simp) (by simp)
    have h2 : In S19 ([(.bool false)] ++ c_a) (sI true a) (k_a) := In.mk (h_a.up (l1.trans l5)) (by (have e : a = 0 := by omega); subst e; rfl) (by intro _; rfl)
    obtain ⟨c2, e16⟩ : ∃ cs : List Value, ([(.bool false)] ++ c_a) = cs := ⟨_, rfl⟩
    rw [e16] at h2
    exact so L27 rfl (ZD (cs := c2) L27 zero_34 sok_34 (.cons rfl Za4 rfl (by decide) (.cons rfl QF h_a.len (by decide) .nil)) (by exact QX [[(.bool false)], c_a] (by simp [XO, Value.cells, h_a.len]) (by simp [Value.cells, h_a.len]) (by rw [← e16]; simp)) fun _ L28 => (Zx L28 rfl rfl (Zi L28 rfl rfl R9 Xb h2.len rfl h2.ones fun _ R10 _ L29 => (sn (wp_ret ((Zv (rs := Tryz.f82.results.toList) (L29.kp [4] rfl) rfl (Res.aggW rfl Zad Xb (R10.has (List.Mem.head _)) h2.len Res.nil) (⟨_, _, rfl, R10.ext, ⟨_, rfl, (h2.to (by rfl) (by omega))⟩⟩))))))))
 ·refine wp_seq (Za (so L0 rfl (Yq (cs := c_a) L0 rfl R0 rfl ?_)))
  intro b3 _ _ l6 r2 R11 _ L31
  refine so L31 rfl (ZM (cs := zI1) zero_34 R11 rfl fun b4 _ R12 _ L32 => (sn (wp_seq ?_)))
  have L33 := (L32.kp [0, 3, 4] rfl)
  refine Zy (E0 := []) (H0 := [(b4, 34, zI1)]) (n := 13) mixed 7 [] (fun k =>  0) (Zaf [
    .is (.bool false),
    .is (.bool false),
    .is undef,
    .is undef,
    .is undef,
    .is (.bool false),
    .is (.agg (c_a : List Value).toArray)]) L33 R12 (by simp) (by simp) (by rfl) (by rfl) (by simp) (ZU ?_) ?_
  ·refine (And.intro ?_ (And.intro ?_ (And.intro ?_ (And.intro ?_ (And.intro ?_ (And.intro ?_ (And.intro ?_ trivial)))))))
   ·exact Zd rfl (fun _ _ _ _ _ A15 => (Zb A15.live rfl (A15.same  rfl)))
   ·refine Zd rfl (fun _ _ _ _ _ A16 => ?_)
    obtain ⟨_, e17, rfl⟩ := A16.known 0 rfl
    exact Zb (A16.live.add e17) rfl (A16.same  rfl)
   ·exact step_off rfl rfl rfl rfl rfl rfl
   ·exact step_off rfl rfl rfl rfl rfl rfl
   ·exact step_off rfl rfl rfl rfl rfl rfl
   ·refine Zd rfl (fun _ _ _ _ _ A17 => ?_)
    obtain ⟨_, e18, rfl⟩ := A17.known 1 rfl
    obtain ⟨_, e19, rfl⟩ := A17.known 4 rfl
    exact Zj ((A17.live.add e18).add e19) rfl rfl (A17.same  rfl)
   ·exact Zd rfl (fun _ _ _ _ _ A18 => (Zt A18.live rfl ZJ Zk (A18.run.row (r2.up A18.le)) h_a.len (A18.same  rfl)))
  ·intro S25 _ _ w29 l7 E3 R13 n3 L38 K3
   obtain ⟨_, e20, rfl⟩ := K3 5 (by decide)
   have L39 := L38.add e20; clear L38
   obtain ⟨_, e21, rfl⟩ := K3 6 (by decide)
   have L40 := L39.add e21; clear L39
   have R14 : Run _ _ S25 [(b4, 34, zI1)] w29 := Yc R13 n3 [] (by simp) (by simp)
   have h3 : In S25 ([(.bool false)] ++ c_a) (sI false a) (k_a) := In.mk (h_a.up (l6.trans l7)) (by rfl) (by intro _; rfl)
   obtain ⟨c3, e22⟩ : ∃ cs : List Value, ([(.bool false)] ++ c_a) = cs := ⟨_, rfl⟩
   rw [e22] at h3
   exact so L40 rfl (ZD (cs := c3) L40 zero_34 sok_34 (.cons rfl Za4 rfl (by decide) (.cons rfl QF h_a.len (by decide) .nil)) (by exact QX [[(.bool false)], c_a] (by simp [XO, Value.cells, h_a.len]) (by simp [Value.cells, h_a.len]) (by rw [← e22]; simp)) fun _ L41 => (Zx L41 rfl rfl (Zi L41 rfl rfl R14 Xb h3.len rfl h3.ones fun _ R15 _ L42 => (sn (wp_ret ((Zv (rs := Tryz.f82.results.toList) (L42.kp [4] rfl) rfl (Res.aggW rfl Zad Xb (R15.has (List.Mem.head _)) h3.len Res.nil) (⟨_, _, rfl, R15.ext, ⟨_, rfl, (h3.to (by rfl) (by omega))⟩⟩))))))))
set_option maxRecDepth 20000 in
theorem Zbf {S : Sh} {w : World} (hS : Yw S w) {c_a : List Value} {a : Int} {k_a : Nat} (h_a : In S c_a (a) (k_a))  : Calls Tryz.prog 84 [(.agg (c_a : List Value).toArray)].toArray w (Ret S w (fun S v => v = .int .i64 (sgnZ a))) := by
 refine ZT (n := 11) Tryz.func84 rfl rfl ?_
 intro ac0 L0
 replace L0 : Zz ac0 11 [(0, (.agg (c_a : List Value).toArray))] := L0
 have R0 : Run S w S [] w := .start hS
 have hbz := @QJ a.natAbs
 refine wp_seq (Za (so L0 rfl (Yq (cs := c_a) L0 rfl R0 rfl ?_)))
 intro b1 _ _ l1 r1 R1 _ L1
 refine so L1 rfl (Zc L1 rfl fun _ L2 => (sn (wp_seq (wp_block (wp_seq (Za (so L2 rfl (Zo (off' := 1) L2 rfl QF rfl fun _ L3 => ?_))))))))
 obtain ⟨c1, e1, h1⟩ := (h_a.up l1).abs
 refine so L3 rfl (Zce L3 rfl ZJ Zk (R1.row r1) e1 h1.len fun _ L4 => (so L4 rfl (Zp L4 rfl Zao (Yt R1.holds    h1 ) fun v_1 _ _ x1 v1 => ?_)))
 have R2 := R1.call x1; have l2 := x1.le
 obtain rfl := v1
 intro _ L5
 by_cases t1 : ((ZF a.natAbs : Nat) : Int) = (0 : Int)
 ·refine so L5 rfl (Zf (b := true) (decide_eq_true t1) (fun _ k_ => ZY L5 rfl rfl k_) fun _ L6 => (so L6 rfl (Zc L6 rfl fun _ L7 => ?_)))
  have L8 := (L7.kp [1, 2, 3] rfl); clear L7
  refine sn (Zs L8 rfl rfl (wp_seq (Za (so L8 rfl (Zc L8 rfl ?_)))))
  intro _ L9
  exact sn (wp_ret ((Yx (ZE (Zv (rs := Tryz.f84.results.toList) L9 rfl (.tmp rfl Res.nil) (⟨_, _, rfl, R2.ext, (by exact int_eq (by rw [show a = 0 by omega]; rfl))⟩))))))
 ·refine so L5 rfl (Zf (b := false) (decide_eq_false t1) (fun _ k_ => ZY L5 rfl rfl k_) fun _ L10 => (so L10 rfl (Zc L10 rfl fun _ L11 => ?_)))
  have L12 := (L11.kp [1, 2, 3] rfl); clear L11
  refine sn (Zn L12 rfl rfl (wp_seq (Za (so L12 rfl (Zo (off' := 0) L12 rfl Za4 rfl ?_)))))
  intro _ L13
  refine so L13 rfl (Zl L13 rfl agg_4 (R2.row (r1.up l2)) h_a.sign fun _ L14 => (so L14 rfl (Zc L14 rfl fun _ L15 => (sn ?_))))
  by_cases t2 : a < 0
  ·refine Zs L15 rfl (decide_eq_true t2) (wp_seq (Za (so L15 rfl (Zc L15 rfl ?_))))
   intro _ L16
   exact sn (wp_ret ((Yx (ZE (Zv (rs := Tryz.f84.results.toList) (L16.kp [2] rfl) rfl (.tmp rfl Res.nil) (⟨_, _, rfl, R2.ext, (by exact int_eq (by unfold sgnZ; rw [if_neg (by omega), if_pos (by assumption)]))⟩))))))
  ·refine Zn L15 rfl (decide_eq_false t2) (wp_skip ((ZI (Ze (wp_seq (Za (so L15 rfl (Zc L15 rfl ?_))))))))
   intro _ L18
   exact sn (wp_ret ((Zv (rs := Tryz.f84.results.toList) (L18.kp [2] rfl) rfl (.tmp rfl Res.nil) (⟨_, _, rfl, R2.ext, (by exact int_eq (by unfold sgnZ; rw [if_neg (by omega), if_neg (by assumption)]))⟩))))
set_option maxRecDepth 20000 in
theorem QL {S : Sh} {w : World} (hS : Yw S w) {c_a : List Value} {a : Int} {k_a : Nat} (h_a : In S c_a (a) (k_a))  : Calls Tryz.prog 113 [(.agg (c_a : List Value).toArray)].toArray w (Ret S w (fun S v => ∃ (c0 : List Value), v = .agg c0.toArray ∧ Na S c0 (a.natAbs) (k_a))) := by
 refine ZT (n := 5) Tryz.func113 rfl rfl ?_
 intro ac0 L0
 replace L0 : Zz ac0 5 [(0, (.agg (c_a : List Value).toArray))] := L0
 have R0 : Run S w S [] w := .start hS
 refine wp_seq (Za (so L0 rfl (Yq (cs := c_a) L0 rfl R0 rfl ?_)))
 intro b1 _ _ l1 r1 R1 _ L1
 refine so L1 rfl (ZM (cs := zN1) ZN R1 rfl fun b2 _ R2 _ L2 => (sn (wp_seq (Za (so L2 rfl (Zo (off' := 1) L2 rfl QF rfl fun _ L3 => ?_))))))
 obtain ⟨c1, e1, h1⟩ := (h_a.up l1).abs
 exact so L3 rfl (Zce L3 rfl ZJ Zk (R2.row r1) e1 h1.len fun _ L4 => (Zx L4 rfl rfl (Zi L4 rfl rfl R2 Zk h1.len rfl h1.ones fun _ R3 _ L5 => (sn (wp_ret ((Zv (rs := Tryz.f113.results.toList) L5 rfl (Res.aggW rfl ZJ Zk (R3.has (List.Mem.head _)) h1.len Res.nil) (⟨_, _, rfl, R3.ext, ⟨_, rfl, (h1.to rfl (by omega))⟩⟩))))))))
end Go.Cham
namespace Go.Cham
open Go Go.RowKit Go.Proofs
theorem Xd : aggT Tryz.prog 36 = some true := by kernel_rfl
theorem Ya : Yo Tryz.prog 36 = some 5 := by kernel_rfl
theorem YK : XF Tryz.prog 36 = some (.agg ([(.bool false), (.int .u64 (0 : Int)), (.slice none 0 0), (.int .u64 (0 : Int)), (.slice none 0 0)] : List Value).toArray) := by kernel_rfl
theorem Za3 : Qi Tryz.prog 36 0 = some (0, 34, 3) := by kernel_rfl
theorem field_36_1 : Qi Tryz.prog 36 1 = some (3, 32, 2) := by kernel_rfl
theorem Xo : Zav Tryz.prog 36 = true := by kernel_rfl
theorem ent_79 : Yn Tryz.prog 79 = true := by kernel_rfl
theorem ent_84 : Yn Tryz.prog 84 = true := by kernel_rfl
theorem ent_113 : Yn Tryz.prog 113 = true := by kernel_rfl
theorem ent_138 : Yn Tryz.prog 138 = true := by kernel_rfl
theorem ent_151 : Yn Tryz.prog 151 = true := by kernel_rfl
end Go.Cham
namespace Go.Cham
open Go Go.RowKit Go.Proofs
set_option maxRecDepth 20000 in
theorem frac_one {S : Sh} {w : World} (hS : Yw S w)   : Calls Tryz.prog 138 [].toArray w (Ret S w (fun S v => ∃ (c0 : List Value), v = .agg c0.toArray ∧ Na S c0 (1) (64))) := by
 refine ZT (n := 2) Tryz.func138 rfl rfl ?_
 intro ac0 L0
 replace L0 : Zz ac0 2 [] := L0
 have R0 : Run S w S [] w := .start hS
 refine wp_seq (Za (so L0 rfl (ZM (cs := zN1) ZN R0 rfl ?_)))
 intro b1 _ R1 _ L1
 refine sn (wp_seq (Za (so L1 rfl (Zp L1 rfl ent_76 (nat_Of R1.holds (n := 1)    (by omega)) ?_))))
 intro v_1 _ _ x1 v1
 have R2 := R1.call x1
 obtain ⟨c1, rfl, h1⟩ := v1
 intro _ L2
 exact Zx L2 rfl rfl (Zi L2 rfl rfl R2 Zk h1.len rfl h1.ones fun _ R3 _ L3 => (sn (wp_ret ((Zv (rs := Tryz.f138.results.toList) L3 rfl (Res.aggW rfl ZJ Zk (R3.has (List.Mem.head _)) h1.len Res.nil) (⟨_, _, rfl, R3.ext, ⟨_, rfl, (h1.to rfl (by omega))⟩⟩))))))
set_option maxRecDepth 20000 in
theorem Za2 {S : Sh} {w : World} (hS : Yw S w) {c_n : List Value} {n : Nat} {k_n : Nat} (h_n : Na S c_n (n) (k_n)) {b_g : Nat} {c_g : List Value} (r_g : Row S b_g 32 c_g) {g : Nat} {k_g : Nat} (h_g : Na S c_g (g) (k_g)) (h0 : 0 < g) (hlim : k_n ≤ 1099511000000) : Calls Tryz.prog 151 [(.agg (c_n : List Value).toArray), (.pointer (some ⟨b_g, 0, none⟩))].toArray w (Ret S w (fun S v => ∃ (c0 : List Value), v = .agg c0.toArray ∧ Na S c0 (n / g) (k_n))) := by
 refine ZT (n := 15) Tryz.func151 rfl rfl ?_
 intro ac0 L0
 replace L0 : Zz ac0 15 [(0, (.agg (c_n : List Value).toArray)), (1, (.pointer (some ⟨b_g, 0, none⟩)))] := L0
 have R0 : Run S w S [] w := .start hS
 refine wp_seq (Za (so L0 rfl (Yq (cs := c_n) L0 rfl R0 rfl ?_)))
 intro b1 _ _ l1 r1 R1 _ L1
 refine so L1 rfl (ZM (cs := zN1) ZN R1 rfl fun b2 _ R2 _ L2 => (sn (wp_seq (Za (so L2 rfl (Zt L2 rfl ZJ Zk (R2.row r1) h_n.len fun _ L3 => (so L3 rfl (Zt L3 rfl ZJ Zk (R2.row (r_g.up l1)) h_g.len fun _ L4 => (so L4 rfl (Zp L4 rfl ent_77 (nat_Div R2.holds    (h_n.up l1) (h_g.up l1) (by omega)) fun v_1 _ _ x1 v1 => ?_))))))))))
 have R3 := R2.call x1
 rcases v1 with ⟨t1, c1, c2, rfl, h1, h2⟩ | ⟨t2, c3, c4, rfl, h3, h4⟩
 ·omega
 ·intro _ L5
  refine so L5 rfl (Zb L5 rfl fun _ L6 => (so L6 rfl (Zh L6 rfl rfl fun _ L7 => (so L7 rfl (Zh L7 rfl rfl fun _ L8 => (so L8 rfl (Zh L8 rfl rfl fun _ L9 => (so L9 rfl (ZM (cs := zN1) ZN R3 rfl fun b3 _ R4 _ L10 => (so L10 rfl (ZM (cs := zN1) ZN R4 rfl fun b4 _ R5 _ L11 => (Zx L11 rfl rfl (Zi L11 rfl rfl (ZX R5) Zk h3.len rfl h3.ones fun _ R6 _ L12 => ?_)))))))))))))
  refine Zx L12 rfl rfl (Zi L12 rfl rfl (ZX R6) Zk h4.len rfl h4.ones fun _ R7 _ L13 => (so L13 rfl (Zc L13 rfl fun _ L14 => ?_)))
  have L15 := (L14.kp [3, 4] rfl); clear L14
  refine sn (wp_seq (Za (so L15 rfl (Zt L15 rfl ZJ Zk (R7.has (List.Mem.tail _ (List.Mem.head _))) h3.len ?_))))
  intro _ L16
  exact Zx L16 rfl rfl (Zi L16 rfl rfl (YH R7) Zk h3.len rfl h3.ones fun _ R8 _ L17 => (sn (wp_ret ((Zv (rs := Tryz.f151.results.toList) L17 rfl (Res.aggW rfl ZJ Zk (R8.has (List.Mem.head _)) h3.len Res.nil) (⟨_, _, rfl, R8.ext, ⟨_, rfl, (h3.to rfl (by omega))⟩⟩))))))
set_option maxRecDepth 20000 in
theorem frac_low {S : Sh} {w : World} (hS : Yw S w) {c_z : List Value} {z : Int} {k_z : Nat} (h_z : In S c_z (z) (k_z)) {c_d : List Value} {d : Nat} {k_d : Nat} (h_d : Na S c_d (d) (k_d)) (h0 : 0 < d) (hlim : k_z + k_d ≤ 1099511000000) : Calls Tryz.prog 99 [(.agg (c_z : List Value).toArray), (.agg (c_d : List Value).toArray)].toArray w (Ret S w (fun S v => ∃ (c0 : List Value), v = .agg c0.toArray ∧ Fs S c0 [mkRat z d] ((k_z + k_d)))) := by
 refine ZT (n := 42) Tryz.func99 rfl rfl ?_
 intro ac0 L0
 replace L0 : Zz ac0 42 [(0, (.agg (c_z : List Value).toArray)), (1, (.agg (c_d : List Value).toArray))] := L0
 have R0 : Run S w S [] w := .start hS
 have hb1 := @bitlen_one d; have hb2 := @bitlen_gt1 (Nat.gcd z.natAbs d); have hsg := @sgnZ_neg z; have hgp := Nat.gcd_pos_of_pos_right z.natAbs h0; have hdq := Nat.div_pos (Nat.le_of_dvd h0 (Nat.gcd_dvd_right z.natAbs d)) hgp
 refine wp_seq (Za (so L0 rfl (Zcg (cs := c_z) L0 rfl R0 rfl ?_)))
 intro b1 _ R1 _ L1
 refine so L1 rfl (Zcg (cs := c_d) L1 rfl R1 rfl fun b2 _ R2 _ L2 => (so L2 rfl (ZM (cs := zF1) YK R2 rfl fun b3 _ R3 _ L3 => (sn (wp_seq (wp_seq (Za (so L3 rfl (Zt L3 rfl ZJ Zk (R3.has (List.Mem.tail _ (List.Mem.head _))) h_d.len fun _ L4 => (so L4 rfl (Zp L4 rfl Zao (Yt R3.holds    h_d ) fun v_1 S1 _ x1 v1 => ?_)))))))))))
 have R4 := R3.call x1; have l1 := x1.le
 obtain rfl := v1
 intro _ L5
 by_cases t1 : ((ZF d : Nat) : Int) = (1 : Int)
 ·refine so L5 rfl (Zf (b := true) (decide_eq_true t1) (fun _ k_ => ZY L5 rfl rfl k_) fun _ L6 => (sn (Zs L6 rfl rfl (wp_seq (Za (so L6 rfl (Zt L6 rfl Zad Xb (R4.has (List.Mem.tail _ (List.Mem.tail _ (List.Mem.head _)))) h_z.len fun _ L7 => ?_)))))))
  have h1 : Fs S1 (c_z ++ zN1) [mkRat z d] (k_z) := (Fs.ofInt (h_z.up l1)).to (by rw [show ((z : Int) : Rat) = mkRat z d from by rw [show d = 1 by omega, mkRat_one]]) (Nat.le_refl _)
  obtain ⟨c1, e1⟩ : ∃ cs : List Value, (c_z ++ zN1) = cs := ⟨_, rfl⟩
  rw [e1] at h1
  exact so L7 rfl (ZD (cs := c1) L7 YK Xo (.cons rfl Za3 h_z.len (by decide) .nil) (by rw [← e1]; simp [XD, YI, Value.cells, h_z.len]) fun _ L8 => (Zx L8 rfl rfl (Zi L8 rfl rfl R4 Ya h1.len rfl h1.ones fun _ R5 _ L9 => (sn (wp_ret ((ZE (Zv (rs := Tryz.f99.results.toList) (L9.kp [2, 3, 4] rfl) rfl (Res.aggW rfl Xd Ya (R5.has (List.Mem.head _)) h1.len Res.nil) (⟨_, _, rfl, R5.ext, ⟨_, rfl, (h1.to rfl (by omega))⟩⟩)))))))))
 ·refine so L5 rfl (Zf (b := false) (decide_eq_false t1) (fun _ k_ => ZY L5 rfl rfl k_) fun _ L11 => (sn (Zn L11 rfl rfl (wp_skip ((Ze (wp_seq ?_)))))))
  have L12 := (L11.kp [2, 3, 4] rfl)
  refine Zy (E0 := []) (H0 := [(b3, 36, zF1), (b2, 32, c_d), (b1, 34, c_z)]) (n := 42) mixed 5 [] (fun k => if k = 4 then 999 else 0) (Zaf [
    .is (.agg (c_z : List Value).toArray),
    (kvNa (z.natAbs) (k_z)),
    .is (.agg (c_d : List Value).toArray),
    (kvNa (Nat.gcd z.natAbs d) ((k_z + k_d))),
    .made 4 32 2]) L12 R4 (by simp) (by simp) (by rfl) (by rfl) (by simp) (ZU ?_) ?_
  ·refine (And.intro ?_ (And.intro ?_ (And.intro ?_ (And.intro ?_ (And.intro ?_ trivial)))))
   ·exact Zd rfl (fun _ _ _ _ _ A1 => (Zt A1.live rfl Zad Xb (A1.run.has (List.mem_append_right _ (List.Mem.tail _ (List.Mem.tail _ (List.Mem.head _))))) h_z.len (A1.same  rfl)))
   ·refine Zd rfl (fun _ _ _ _ _ A2 => ?_)
    obtain ⟨_, e2, rfl⟩ := A2.known 0 rfl
    exact Zp (A2.live.add e2) rfl ent_113 (QL A2.run.holds    (h_z.up (l1.trans A2.le)) ) fun v_2 _ _ x2 v2 => (A2.post x2.le (A2.run.call x2) v2)
   ·exact Zd rfl (fun _ _ _ _ _ A3 => (Zt A3.live rfl ZJ Zk (A3.run.has (List.mem_append_right _ (List.Mem.tail _ (List.Mem.head _)))) h_d.len (A3.same  rfl)))
   ·refine Zd rfl (fun _ _ _ _ _ A4 => ?_)
    obtain ⟨_, e3, c2, rfl, h2⟩ := A4.known 1 rfl
    obtain ⟨_, e4, rfl⟩ := A4.known 2 rfl
    exact Zp ((A4.live.add e3).add e4) rfl ent_79 (nat_Gcd A4.run.holds    h2 (h_d.up (l1.trans A4.le)) (by omega)) fun v_3 _ _ x3 v3 => (A4.post x3.le (A4.run.call x3) v3)
   ·refine Zd rfl (fun _ _ _ _ _ A5 => ?_)
    have L17 := A5.live
    exact QW A5 ZN rfl rfl rfl rfl rfl
  ·intro S9 _ _ w13 l4 E1 R8 n1 L18 K1
   obtain ⟨_, e5, c3, rfl, h3⟩ := K1 3 (by decide)
   have L19 := L18.add e5; clear L18
   obtain ⟨_, e6, b4, c4, q1, rfl, y1, m1⟩ := K1 4 (by decide)
   have L20 := L19.add e6; clear L19
   have R9 : Run _ _ S9 [(b4, 32, c4), (b3, 36, zF1), (b2, 32, c_d), (b1, 34, c_z)] w13 := Yc R8 n1 [(4, b4, 32, c4, q1)] (by simp) (List.forall_mem_cons.2 ⟨m1, (by simp)⟩)
   refine Zx L20 rfl rfl (Zi L20 rfl rfl R9 Zk h3.len y1 h3.ones fun _ R10 _ L21 => (sn (wp_seq (wp_seq ?_))))
   obtain ⟨_, l5, r1, R11⟩ := (R10).freeze
   refine Za (so L21 rfl (Zt L21 rfl ZJ Zk (R11.row r1) h3.len ?_))
   intro _ L22
   refine so L22 rfl (Zp L22 rfl Zao (Yt R11.holds    (h3.up l5) ) fun v_4 _ _ x4 v4 => ?_)
   have R12 := R11.call x4; have l6 := x4.le
   obtain rfl := v4
   intro _ L23
   by_cases t2 : (1 : Int) < ((ZF (Nat.gcd z.natAbs d) : Nat) : Int)
   ·refine so L23 rfl (Zf (b := true) (decide_eq_true t2) (fun _ k_ => ZP L23 rfl rfl k_) fun _ L24 => (sn (Zs L24 rfl rfl (wp_seq (Za (so L24 rfl (Zcd L24 rfl rfl fun _ L25 => (so L25 rfl (Zc L25 rfl fun _ L26 => ?_)))))))))
    have L27 := (L26.kp [2, 3, 4, 6] rfl); clear L26
    refine sn ?_
    by_cases t3 : (sgnZ z) < (0 : Int)
    ·have L28 := (L27.kp [2, 3, 4, 6] rfl)
     refine Zy (E0 := []) (H0 := [(b3, 36, zF1), (b2, 32, c_d), (b1, 34, c_z)]) (n := 42) mixed 10 [] (fun k =>  0) (Zaf [
       .is (.agg (c_z : List Value).toArray),
       .is (.int .i64 (sgnZ z)),
       .is (.bool true),
       .is (.func (.func 151) #[] [(.pointer (some ⟨b4, 0, none⟩))].toArray),
       .is (.agg (c_z : List Value).toArray),
       (kvNa (z.natAbs) (k_z)),
       (kvNa (z.natAbs / (Nat.gcd z.natAbs d)) (k_z)),
       (kvIn (sI true (z.natAbs / (Nat.gcd z.natAbs d))) (k_z)),
       .is (.func (.func 151) #[] [(.pointer (some ⟨b4, 0, none⟩))].toArray),
       .is (.agg (c_d : List Value).toArray)]) L28 R12 (by simp) (by simp) (by rfl) (by rfl) (by simp) (ZU ?_) ?_
     ·refine (And.intro ?_ (And.intro ?_ (And.intro ?_ (And.intro ?_ (And.intro ?_ (And.intro ?_ (And.intro ?_ (And.intro ?_ (And.intro ?_ (And.intro ?_ trivial))))))))))
      ·exact Zd rfl (fun _ _ _ _ _ A6 => (Zt A6.live rfl Zad Xb (A6.run.has (List.mem_append_right _ (List.Mem.tail _ (List.Mem.tail _ (List.Mem.head _))))) h_z.len (A6.same  rfl)))
      ·refine Zd rfl (fun _ _ _ _ _ A7 => ?_)
       obtain ⟨_, e7, rfl⟩ := A7.known 0 rfl
       exact Zp (A7.live.add e7) rfl ent_84 (Zbf A7.run.holds    (h_z.up (l1.trans (l4.trans (l5.trans (l6.trans A7.le))))) ) fun v_5 _ _ x5 v5 => (A7.post x5.le (A7.run.call x5) v5)
      ·refine Zd rfl (fun _ _ _ _ _ A8 => ?_)
       obtain ⟨_, e8, rfl⟩ := A8.known 1 rfl
       exact Zf (b := true) (decide_eq_true t3) (fun _ k_ => ZH (A8.live.add e8) rfl rfl k_) (A8.same  rfl)
      ·exact Zd rfl (fun _ _ _ _ _ A9 => (Zb A9.live rfl (A9.same  rfl)))
      ·exact Zd rfl (fun _ _ _ _ _ A10 => (Zt A10.live rfl Zad Xb (A10.run.has (List.mem_append_right _ (List.Mem.tail _ (List.Mem.tail _ (List.Mem.head _))))) h_z.len (A10.same  rfl)))
      ·refine Zd rfl (fun _ _ _ _ _ A11 => ?_)
       obtain ⟨_, e9, rfl⟩ := A11.known 4 rfl
       exact Zp (A11.live.add e9) rfl ent_113 (QL A11.run.holds    (h_z.up (l1.trans (l4.trans (l5.trans (l6.trans A11.le))))) ) fun v_6 _ _ x6 v6 => (A11.post x6.le (A11.run.call x6) v6)
      ·refine Zd rfl (fun _ _ _ _ _ A12 => ?_)
       obtain ⟨_, e10, rfl⟩ := A12.known 3 rfl
       obtain ⟨_, e11, c5, rfl, h4⟩ := A12.known 5 rfl
       exact Zaq ((A12.live.add e10).add e11) rfl rfl ent_151 (Za2 A12.run.holds    h4 (r1.up (l6.trans A12.le)) (h3.up (l5.trans (l6.trans A12.le))) (by omega) (by omega)) fun v_7 _ _ x7 v7 => (A12.post x7.le (A12.run.call x7) v7)
      ·refine Zd rfl (fun _ _ _ _ _ A13 => ?_)
       obtain ⟨_, e12, rfl⟩ := A13.known 2 rfl
       obtain ⟨_, e13, c6, rfl, h5⟩ := A13.known 6 rfl
       exact Zp ((A13.live.add e12).add e13) rfl ent_82 (Qa A13.run.holds (mi := true)   h5 ) fun v_8 _ _ x8 v8 => (A13.post x8.le (A13.run.call x8) v8)
      ·exact Zd rfl (fun _ _ _ _ _ A14 => (Zb A14.live rfl (A14.same  rfl)))
      ·exact Zd rfl (fun _ _ _ _ _ A15 => (Zt A15.live rfl ZJ Zk (A15.run.has (List.mem_append_right _ (List.Mem.tail _ (List.Mem.head _)))) h_d.len (A15.same  rfl)))
     ·intro S26 _ _ w30 l11 E2 R17 n2 L39 K2
      obtain ⟨_, e14, c7, rfl, h6⟩ := K2 7 (by decide)
      have L40 := L39.add e14; clear L39
      obtain ⟨_, e15, rfl⟩ := K2 8 (by decide)
      have L41 := L40.add e15; clear L40
      obtain ⟨_, e16, rfl⟩ := K2 9 (by decide)
      have L42 := L41.add e16; clear L41
      have R18 : Run _ _ S26 [(b3, 36, zF1), (b2, 32, c_d), (b1, 34, c_z)] w30 := Yc R17 n2 [] (by simp) (by simp)
      refine so L42 rfl (Zaq L42 rfl rfl ent_151 (Za2 R18.holds    (h_d.up (l1.trans (l4.trans (l5.trans (l6.trans l11))))) (r1.up (l6.trans l11)) (h3.up (l5.trans (l6.trans l11))) (by omega) (by omega)) fun v_9 _ _ x9 v9 => ?_)
      have R19 := R18.call x9; have l12 := x9.le
      obtain ⟨c8, rfl, h7⟩ := v9
      intro _ L43
      refine Zx L43 rfl rfl (Zi L43 rfl rfl (YH R19) Xb h6.len h_z.len h6.ones fun _ R20 _ L44 => (Zx L44 rfl rfl (Zi L44 rfl rfl (YH R20) Zk h7.len h_d.len h7.ones fun _ R21 _ L45 => ?_)))
      have L46 := (L45.kp [2, 3, 4] rfl); clear L45
      refine sn (wp_seq ?_)
      have hkn1 : 1 ≤ (d / (Nat.gcd z.natAbs d)) := by omega
      have L47 := (L46.kp [2, 3, 4] rfl)
      refine Zy (E0 := []) (H0 := [(b2, 32, c8), (b1, 34, c7), (b3, 36, zF1)]) (n := 42) mixed 8 [] (fun k => if k = 6 then 7 else 0) (Zaf [
        .is (.agg (c8 : List Value).toArray),
        (kvNa (1) (64)),
        .sat (fun S v => ∃ (c0 : List Value), v = .tuple [.agg c0.toArray, .int .i64 (0)].toArray ∧ Na S c0 ((d / (Nat.gcd z.natAbs d)) - 1) (k_d)) (fun _ _ _ l ⟨c0, e, h0⟩ => ⟨c0, e, h0.up l⟩),
        .sat (fun S v => ∃ (c0 : List Value), v = .tuple [.agg c0.toArray, .int .i64 (0)].toArray ∧ Na S c0 ((d / (Nat.gcd z.natAbs d)) - 1) (k_d)) (fun _ _ _ l ⟨c0, e, h0⟩ => ⟨c0, e, h0.up l⟩),
        (kvNa ((d / (Nat.gcd z.natAbs d)) - 1) (k_d)),
        .is (.int .i64 0),
        .made 6 32 2,
        .stored 6 32 (fun S cs => Na S cs ((d / (Nat.gcd z.natAbs d)) - 1) (k_d)) (fun _ _ _ l h => h.up l)]) L47 R21 (by simp) (by simp) (by rfl) (by rfl) (by simp) (ZU ?_) ?_
      ·refine (And.intro ?_ (And.intro ?_ (And.intro ?_ (And.intro ?_ (And.intro ?_ (And.intro ?_ (And.intro ?_ (And.intro ?_ trivial))))))))
       ·exact Zd rfl (fun _ _ _ _ _ A16 => (Zt A16.live rfl ZJ Zk (A16.run.has (List.mem_append_right _ (List.Mem.head _))) h7.len (A16.same  rfl)))
       ·refine Zd rfl (fun _ _ _ _ _ A17 => (Zp A17.live rfl ent_138 (frac_one A17.run.holds     ) ?_))
        intro v_10 _ _ x10 v10
        exact A17.post x10.le (A17.run.call x10) v10
       ·refine Zd rfl (fun _ _ _ _ _ A18 => ?_)
        obtain ⟨_, e17, rfl⟩ := A18.known 0 rfl
        obtain ⟨_, e18, c9, rfl, h8⟩ := A18.known 1 rfl
        refine Zp ((A18.live.add e17).add e18) rfl ent_145 (nat_Sub A18.run.holds    (h7.up A18.le) h8 (by omega)) fun v_11 _ _ x11 v11 => ?_
        rcases v11 with ⟨t4, v11⟩ | ⟨t5, v11⟩
        ·exact absurd t4 (by first | assumption | omega | (simp_all; done))
        ·exact A18.post x11.le (A18.run.call x11) v11
       ·refine Zd rfl (fun _ _ _ _ _ A19 => ?_)
        obtain ⟨_, e19, c10, rfl, h9⟩ := A19.known 2 rfl
        exact Zb (A19.live.add e19) rfl (A19.same  ⟨_, rfl, h9⟩)
       ·refine Zd rfl (fun _ _ _ _ _ A20 => ?_)
        obtain ⟨_, e20, c11, rfl, h10⟩ := A20.known 3 rfl
        exact Zh (A20.live.add e20) rfl rfl (A20.same  ⟨_, rfl, h10⟩)
       ·refine Zd rfl (fun _ _ _ _ _ A21 => ?_)
        obtain ⟨_, e21, c12, rfl, h11⟩ := A21.known 3 rfl
        exact Zh (A21.live.add e21) rfl rfl (A21.same  rfl)
       ·refine Zd rfl (fun _ _ _ _ _ A22 => ?_)
        have L54 := A22.live
        exact QW A22 ZN rfl rfl rfl rfl rfl
       ·refine Zd rfl (fun _ _ _ _ _ A23 => ?_)
        obtain ⟨_, e22, c13, rfl, h12⟩ := A23.known 4 rfl
        obtain ⟨_, e23, b5, c14, q2, rfl, z1, m2⟩ := A23.known 6 rfl
        exact YU A23 ((A23.live.add e22).add e23) rfl rfl m2 rfl Zk z1 h12.len h12.ones rfl h12
      ·intro S38 _ _ w44 l15 E3 R24 n3 L56 K3
       obtain ⟨_, e24, rfl⟩ := K3 5 (by decide)
       have L57 := L56.add e24; clear L56
       obtain ⟨_, e25, b6, c15, q3, rfl, _, m3⟩ := K3 6 (by decide)
       have L58 := L57.add e25; clear L57
       obtain ⟨b7, c16, m4, h13⟩ := K3 7 (by decide)
       obtain ⟨rfl, rfl⟩ := QA n3 m4 m3
       have R25 : Run _ _ S38 [(b7, 32, c16), (b2, 32, c8), (b1, 34, c7), (b3, 36, zF1)] w44 := Yc R24 n3 [(6, b7, 32, c16, true)] (by simp) (List.forall_mem_cons.2 ⟨m4, (by simp)⟩)
       refine so L58 rfl (Zc L58 rfl fun _ L59 => (sn (wp_seq (Za (so L59 rfl (Zt L59 rfl Zad Xb (R25.has (List.Mem.tail _ (List.Mem.tail _ (List.Mem.head _)))) h6.len fun _ L60 => (so L60 rfl (Zt L60 rfl ZJ Zk (R25.has (List.Mem.head _)) h13.len fun _ L61 => ?_))))))))
       have h14 : Fs S38 (c7 ++ c16) [mkRat z d] ((k_z + k_d)) := Fs.ofParts (h6.up (l12.trans l15)) h13 (by first | exact Xx h0 true (by simp; omega) | exact Xx h0 false (by simp; omega) | exact (Qd h0 (by omega)).1.symm) (by first | rw [mkRat_deng h0] | rw [(Qd h0 (by omega)).2]) (Nat.le_trans (Qp h0 h_z.le) (Xi (by omega))) (Nat.le_trans (Qq h0 h_d.1) (Xi (by omega)))
       obtain ⟨c17, e26⟩ : ∃ cs : List Value, (c7 ++ c16) = cs := ⟨_, rfl⟩
       rw [e26] at h14
       exact so L61 rfl (ZD (cs := c17) L61 YK Xo (.cons rfl Za3 h6.len (by decide) (.cons rfl field_36_1 h13.len (by decide) .nil)) (by exact QX [c7, c16] (by simp [XO, Value.cells, h6.len, h13.len]) (by simp [Value.cells, h6.len, h13.len]) (by rw [← e26]; simp)) fun _ L62 => (Zx L62 rfl rfl (Zi L62 rfl rfl (Qr R25) Ya h14.len rfl h14.ones fun _ R26 _ L63 => (sn (wp_ret ((Zv (rs := Tryz.f99.results.toList) (L63.kp [4] rfl) rfl (Res.aggW rfl Xd Ya (R26.has (List.Mem.head _)) h14.len Res.nil) (⟨_, _, rfl, R26.ext, ⟨_, rfl, (h14.to rfl (by omega))⟩⟩))))))))
    ·have L65 := (L27.kp [2, 3, 4, 6] rfl)
     refine Zy (E0 := []) (H0 := [(b3, 36, zF1), (b2, 32, c_d), (b1, 34, c_z)]) (n := 42) mixed 10 [] (fun k =>  0) (Zaf [
       .is (.agg (c_z : List Value).toArray),
       .is (.int .i64 (sgnZ z)),
       .is (.bool false),
       .is (.func (.func 151) #[] [(.pointer (some ⟨b4, 0, none⟩))].toArray),
       .is (.agg (c_z : List Value).toArray),
       (kvNa (z.natAbs) (k_z)),
       (kvNa (z.natAbs / (Nat.gcd z.natAbs d)) (k_z)),
       (kvIn (sI false (z.natAbs / (Nat.gcd z.natAbs d))) (k_z)),
       .is (.func (.func 151) #[] [(.pointer (some ⟨b4, 0, none⟩))].toArray),
       .is (.agg (c_d : List Value).toArray)]) L65 R12 (by simp) (by simp) (by rfl) (by rfl) (by simp) (ZU ?_) ?_
     ·refine (And.intro ?_ (And.intro ?_ (And.intro ?_ (And.intro ?_ (And.intro ?_ (And.intro ?_ (And.intro ?_ (And.intro ?_ (And.intro ?_ (And.intro ?_ trivial))))))))))
      ·exact Zd rfl (fun _ _ _ _ _ A24 => (Zt A24.live rfl Zad Xb (A24.run.has (List.mem_append_right _ (List.Mem.tail _ (List.Mem.tail _ (List.Mem.head _))))) h_z.len (A24.same  rfl)))
      ·refine Zd rfl (fun _ _ _ _ _ A25 => ?_)
       obtain ⟨_, e27, rfl⟩ := A25.known 0 rfl
       exact Zp (A25.live.add e27) rfl ent_84 (Zbf A25.run.holds    (h_z.up (l1.trans (l4.trans (l5.trans (l6.trans A25.le))))) ) fun v_12 _ _ x12 v12 => (A25.post x12.le (A25.run.call x12) v12)
      ·refine Zd rfl (fun _ _ _ _ _ A26 => ?_)
       obtain ⟨_, e28, rfl⟩ := A26.known 1 rfl
       exact Zf (b := false) (decide_eq_false t3) (fun _ k_ => ZH (A26.live.add e28) rfl rfl k_) (A26.same  rfl)
      ·exact Zd rfl (fun _ _ _ _ _ A27 => (Zb A27.live rfl (A27.same  rfl)))
      ·exact Zd rfl (fun _ _ _ _ _ A28 => (Zt A28.live rfl Zad Xb (A28.run.has (List.mem_append_right _ (List.Mem.tail _ (List.Mem.tail _ (List.Mem.head _))))) h_z.len (A28.same  rfl)))
      ·refine Zd rfl (fun _ _ _ _ _ A29 => ?_)
       obtain ⟨_, e29, rfl⟩ := A29.known 4 rfl
       exact Zp (A29.live.add e29) rfl ent_113 (QL A29.run.holds    (h_z.up (l1.trans (l4.trans (l5.trans (l6.trans A29.le))))) ) fun v_13 _ _ x13 v13 => (A29.post x13.le (A29.run.call x13) v13)
      ·refine Zd rfl (fun _ _ _ _ _ A30 => ?_)
       obtain ⟨_, e30, rfl⟩ := A30.known 3 rfl
       obtain ⟨_, e31, c18, rfl, h15⟩ := A30.known 5 rfl
       exact Zaq ((A30.live.add e30).add e31) rfl rfl ent_151 (Za2 A30.run.holds    h15 (r1.up (l6.trans A30.le)) (h3.up (l5.trans (l6.trans A30.le))) (by omega) (by omega)) fun v_14 _ _ x14 v14 => (A30.post x14.le (A30.run.call x14) v14)
      ·refine Zd rfl (fun _ _ _ _ _ A31 => ?_)
       obtain ⟨_, e32, rfl⟩ := A31.known 2 rfl
       obtain ⟨_, e33, c19, rfl, h16⟩ := A31.known 6 rfl
       exact Zp ((A31.live.add e32).add e33) rfl ent_82 (Qa A31.run.holds (mi := false)   h16 ) fun v_15 _ _ x15 v15 => (A31.post x15.le (A31.run.call x15) v15)
      ·exact Zd rfl (fun _ _ _ _ _ A32 => (Zb A32.live rfl (A32.same  rfl)))
      ·exact Zd rfl (fun _ _ _ _ _ A33 => (Zt A33.live rfl ZJ Zk (A33.run.has (List.mem_append_right _ (List.Mem.tail _ (List.Mem.head _)))) h_d.len (A33.same  rfl)))
     ·intro S53 _ _ w60 l20 E4 R31 n4 L76 K4
      obtain ⟨_, e34, c20, rfl, h17⟩ := K4 7 (by decide)
      have L77 := L76.add e34; clear L76
      obtain ⟨_, e35, rfl⟩ := K4 8 (by decide)
      have L78 := L77.add e35; clear L77
      obtain ⟨_, e36, rfl⟩ := K4 9 (by decide)
      have L79 := L78.add e36; clear L78
      have R32 : Run _ _ S53 [(b3, 36, zF1), (b2, 32, c_d), (b1, 34, c_z)] w60 := Yc R31 n4 [] (by simp) (by simp)
      refine so L79 rfl (Zaq L79 rfl rfl ent_151 (Za2 R32.holds    (h_d.up (l1.trans (l4.trans (l5.trans (l6.trans l20))))) (r1.up (l6.trans l20)) (h3.up (l5.trans (l6.trans l20))) (by omega) (by omega)) fun v_16 _ _ x16 v16 => ?_)
      have R33 := R32.call x16; have l21 := x16.le
      obtain ⟨c21, rfl, h18⟩ := v16
      intro _ L80
      refine Zx L80 rfl rfl (Zi L80 rfl rfl (YH R33) Xb h17.len h_z.len h17.ones fun _ R34 _ L81 => (Zx L81 rfl rfl (Zi L81 rfl rfl (YH R34) Zk h18.len h_d.len h18.ones fun _ R35 _ L82 => ?_)))
      have L83 := (L82.kp [2, 3, 4] rfl); clear L82
      refine sn (wp_seq ?_)
      have hkn2 : 1 ≤ (d / (Nat.gcd z.natAbs d)) := by omega
      have L84 := (L83.kp [2, 3, 4] rfl)
      refine Zy (E0 := []) (H0 := [(b2, 32, c21), (b1, 34, c20), (b3, 36, zF1)]) (n := 42) mixed 8 [] (fun k => if k = 6 then 7 else 0) (Zaf [
        .is (.agg (c21 : List Value).toArray),
        (kvNa (1) (64)),
        .sat (fun S v => ∃ (c0 : List Value), v = .tuple [.agg c0.toArray, .int .i64 (0)].toArray ∧ Na S c0 ((d / (Nat.gcd z.natAbs d)) - 1) (k_d)) (fun _ _ _ l ⟨c0, e, h0⟩ => ⟨c0, e, h0.up l⟩),
        .sat (fun S v => ∃ (c0 : List Value), v = .tuple [.agg c0.toArray, .int .i64 (0)].toArray ∧ Na S c0 ((d / (Nat.gcd z.natAbs d)) - 1) (k_d)) (fun _ _ _ l ⟨c0, e, h0⟩ => ⟨c0, e, h0.up l⟩),
        (kvNa ((d / (Nat.gcd z.natAbs d)) - 1) (k_d)),
        .is (.int .i64 0),
        .made 6 32 2,
        .stored 6 32 (fun S cs => Na S cs ((d / (Nat.gcd z.natAbs d)) - 1) (k_d)) (fun _ _ _ l h => h.up l)]) L84 R35 (by simp) (by simp) (by rfl) (by rfl) (by simp) (ZU ?_) ?_
      ·refine (And.intro ?_ (And.intro ?_ (And.intro ?_ (And.intro ?_ (And.intro ?_ (And.intro ?_ (And.intro ?_ (And.intro ?_ trivial))))))))
       ·exact Zd rfl (fun _ _ _ _ _ A34 => (Zt A34.live rfl ZJ Zk (A34.run.has (List.mem_append_right _ (List.Mem.head _))) h18.len (A34.same  rfl)))
       ·refine Zd rfl (fun _ _ _ _ _ A35 => (Zp A35.live rfl ent_138 (frac_one A35.run.holds     ) ?_))
        intro v_17 _ _ x17 v17
        exact A35.post x17.le (A35.run.call x17) v17
       ·refine Zd rfl (fun _ _ _ _ _ A36 => ?_)
        obtain ⟨_, e37, rfl⟩ := A36.known 0 rfl
        obtain ⟨_, e38, c22, rfl, h19⟩ := A36.known 1 rfl
        refine Zp ((A36.live.add e37).add e38) rfl ent_145 (nat_Sub A36.run.holds    (h18.up A36.le) h19 (by omega)) fun v_18 _ _ x18 v18 => ?_
        rcases v18 with ⟨t6, v18⟩ | ⟨t7, v18⟩
        ·exact absurd t6 (by first | assumption | omega | (simp_all; done))
        ·exact A36.post x18.le (A36.run.call x18) v18
       ·refine Zd rfl (fun _ _ _ _ _ A37 => ?_)
        obtain ⟨_, e39, c23, rfl, h20⟩ := A37.known 2 rfl
        exact Zb (A37.live.add e39) rfl (A37.same  ⟨_, rfl, h20⟩)
       ·refine Zd rfl (fun _ _ _ _ _ A38 => ?_)
        obtain ⟨_, e40, c24, rfl, h21⟩ := A38.known 3 rfl
        exact Zh (A38.live.add e40) rfl rfl (A38.same  ⟨_, rfl, h21⟩)
       ·refine Zd rfl (fun _ _ _ _ _ A39 => ?_)
        obtain ⟨_, e41, c25, rfl, h22⟩ := A39.known 3 rfl
        exact Zh (A39.live.add e41) rfl rfl (A39.same  rfl)
       ·refine Zd rfl (fun _ _ _ _ _ A40 => ?_)
        have L91 := A40.live
        exact QW A40 ZN rfl rfl rfl rfl rfl
       ·refine Zd rfl (fun _ _ _ _ _ A41 => ?_)
        obtain ⟨_, e42, c26, rfl, h23⟩ := A41.known 4 rfl
        obtain ⟨_, e43, b8, c27, q4, rfl, z2, m5⟩ := A41.known 6 rfl
        exact YU A41 ((A41.live.add e42).add e43) rfl rfl m5 rfl Zk z2 h23.len h23.ones rfl h23
      ·intro S65 _ _ w74 l24 E5 R38 n5 L93 K5
       obtain ⟨_, e44, rfl⟩ := K5 5 (by decide)
       have L94 := L93.add e44; clear L93
       obtain ⟨_, e45, b9, c28, q5, rfl, _, m6⟩ := K5 6 (by decide)
       have L95 := L94.add e45; clear L94
       obtain ⟨b10, c29, m7, h24⟩ := K5 7 (by decide)
       obtain ⟨rfl, rfl⟩ := QA n5 m7 m6
       have R39 : Run _ _ S65 [(b10, 32, c29), (b2, 32, c21), (b1, 34, c20), (b3, 36, zF1)] w74 := Yc R38 n5 [(6, b10, 32, c29, true)] (by simp) (List.forall_mem_cons.2 ⟨m7, (by simp)⟩)
       refine so L95 rfl (Zc L95 rfl fun _ L96 => (sn (wp_seq (Za (so L96 rfl (Zt L96 rfl Zad Xb (R39.has (List.Mem.tail _ (List.Mem.tail _ (List.Mem.head _)))) h17.len fun _ L97 => (so L97 rfl (Zt L97 rfl ZJ Zk (R39.has (List.Mem.head _)) h24.len fun _ L98 => ?_))))))))
       have h25 : Fs S65 (c20 ++ c29) [mkRat z d] ((k_z + k_d)) := Fs.ofParts (h17.up (l21.trans l24)) h24 (by first | exact Xx h0 true (by simp; omega) | exact Xx h0 false (by simp; omega) | exact (Qd h0 (by omega)).1.symm) (by first | rw [mkRat_deng h0] | rw [(Qd h0 (by omega)).2]) (Nat.le_trans (Qp h0 h_z.le) (Xi (by omega))) (Nat.le_trans (Qq h0 h_d.1) (Xi (by omega)))
       obtain ⟨c30, e46⟩ : ∃ cs : List Value, (c20 ++ c29) = cs := ⟨_, rfl⟩
       rw [e46] at h25
       exact so L98 rfl (ZD (cs := c30) L98 YK Xo (.cons rfl Za3 h17.len (by decide) (.cons rfl field_36_1 h24.len (by decide) .nil)) (by exact QX [c20, c29] (by simp [XO, Value.cells, h17.len, h24.len]) (by simp [Value.cells, h17.len, h24.len]) (by rw [← e46]; simp)) fun _ L99 => (Zx L99 rfl rfl (Zi L99 rfl rfl (Qr R39) Ya h25.len rfl h25.ones fun _ R40 _ L100 => (sn (wp_ret ((Zv (rs := Tryz.f99.results.toList) (L100.kp [4] rfl) rfl (Res.aggW rfl Xd Ya (R40.has (List.Mem.head _)) h25.len Res.nil) (⟨_, _, rfl, R40.ext, ⟨_, rfl, (h25.to rfl (by omega))⟩⟩))))))))
   ·refine so L23 rfl (Zf (b := false) (decide_eq_false t2) (fun _ k_ => ZP L23 rfl rfl k_) fun _ L102 => (sn (Zn L102 rfl rfl (wp_skip ((Ze (wp_seq ?_)))))))
    have hkn3 : 1 ≤ d := by omega
    have L103 := (L102.kp [2, 3, 4] rfl)
    refine Zy (E0 := []) (H0 := [(b3, 36, zF1), (b2, 32, c_d), (b1, 34, c_z)]) (n := 42) mixed 8 [] (fun k => if k = 6 then 7 else 0) (Zaf [
      .is (.agg (c_d : List Value).toArray),
      (kvNa (1) (64)),
      .sat (fun S v => ∃ (c0 : List Value), v = .tuple [.agg c0.toArray, .int .i64 (0)].toArray ∧ Na S c0 (d - 1) (k_d)) (fun _ _ _ l ⟨c0, e, h0⟩ => ⟨c0, e, h0.up l⟩),
      .sat (fun S v => ∃ (c0 : List Value), v = .tuple [.agg c0.toArray, .int .i64 (0)].toArray ∧ Na S c0 (d - 1) (k_d)) (fun _ _ _ l ⟨c0, e, h0⟩ => ⟨c0, e, h0.up l⟩),
      (kvNa (d - 1) (k_d)),
      .is (.int .i64 0),
      .made 6 32 2,
      .stored 6 32 (fun S cs => Na S cs (d - 1) (k_d)) (fun _ _ _ l h => h.up l)]) L103 R12 (by simp) (by simp) (by rfl) (by rfl) (by simp) (ZU ?_) ?_
    ·refine (And.intro ?_ (And.intro ?_ (And.intro ?_ (And.intro ?_ (And.intro ?_ (And.intro ?_ (And.intro ?_ (And.intro ?_ trivial))))))))
     ·exact Zd rfl (fun _ _ _ _ _ A42 => (Zt A42.live rfl ZJ Zk (A42.run.has (List.mem_append_right _ (List.Mem.tail _ (List.Mem.head _)))) h_d.len (A42.same  rfl)))
     ·refine Zd rfl (fun _ _ _ _ _ A43 => (Zp A43.live rfl ent_138 (frac_one A43.run.holds     ) ?_))
      intro v_19 _ _ x19 v19
      exact A43.post x19.le (A43.run.call x19) v19
     ·refine Zd rfl (fun _ _ _ _ _ A44 => ?_)
      obtain ⟨_, e47, rfl⟩ := A44.known 0 rfl
      obtain ⟨_, e48, c31, rfl, h26⟩ := A44.known 1 rfl
      refine Zp ((A44.live.add e47).add e48) rfl ent_145 (nat_Sub A44.run.holds    (h_d.up (l1.trans (l4.trans (l5.trans (l6.trans A44.le))))) h26 (by omega)) fun v_20 _ _ x20 v20 => ?_
      rcases v20 with ⟨t8, v20⟩ | ⟨t9, v20⟩
      ·exact absurd t8 (by first | assumption | omega | (simp_all; done))
      ·exact A44.post x20.le (A44.run.call x20) v20
     ·refine Zd rfl (fun _ _ _ _ _ A45 => ?_)
      obtain ⟨_, e49, c32, rfl, h27⟩ := A45.known 2 rfl
      exact Zb (A45.live.add e49) rfl (A45.same  ⟨_, rfl, h27⟩)
     ·refine Zd rfl (fun _ _ _ _ _ A46 => ?_)
      obtain ⟨_, e50, c33, rfl, h28⟩ := A46.known 3 rfl
      exact Zh (A46.live.add e50) rfl rfl (A46.same  ⟨_, rfl, h28⟩)
     ·refine Zd rfl (fun _ _ _ _ _ A47 => ?_)
      obtain ⟨_, e51, c34, rfl, h29⟩ := A47.known 3 rfl
      exact Zh (A47.live.add e51) rfl rfl (A47.same  rfl)
     ·refine Zd rfl (fun _ _ _ _ _ A48 => ?_)
      have L110 := A48.live
      exact QW A48 ZN rfl rfl rfl rfl rfl
     ·refine Zd rfl (fun _ _ _ _ _ A49 => ?_)
      obtain ⟨_, e52, c35, rfl, h30⟩ := A49.known 4 rfl
      obtain ⟨_, e53, b11, c36, q6, rfl, z3, m8⟩ := A49.known 6 rfl
      exact YU A49 ((A49.live.add e52).add e53) rfl rfl m8 rfl Zk z3 h30.len h30.ones rfl h30
    ·intro S76 _ _ w86 l27 E6 R43 n6 L112 K6
     obtain ⟨_, e54, rfl⟩ := K6 5 (by decide)
     have L113 := L112.add e54; clear L112
     obtain ⟨_, e55, b12, c37, q7, rfl, _, m9⟩ := K6 6 (by decide)
     have L114 := L113.add e55; clear L113
     obtain ⟨b13, c38, m10, h31⟩ := K6 7 (by decide)
     obtain ⟨rfl, rfl⟩ := QA n6 m10 m9
     have R44 : Run _ _ S76 [(b13, 32, c38), (b3, 36, zF1), (b2, 32, c_d), (b1, 34, c_z)] w86 := Yc R43 n6 [(6, b13, 32, c38, true)] (by simp) (List.forall_mem_cons.2 ⟨m10, (by simp)⟩)
     refine so L114 rfl (Zc L114 rfl fun _ L115 => (sn (wp_seq (Za (so L115 rfl (Zt L115 rfl Zad Xb (R44.has (List.Mem.tail _ (List.Mem.tail _ (List.Mem.tail _ (List.Mem.head _))))) h_z.len fun _ L116 => (so L116 rfl (Zt L116 rfl ZJ Zk (R44.has (List.Mem.head _)) h31.len fun _ L117 => ?_))))))))
     have h32 : Fs S76 (c_z ++ c38) [mkRat z d] ((k_z + k_d)) := Fs.ofParts (h_z.up (l1.trans (l4.trans (l5.trans (l6.trans l27))))) h31 (by first | exact Xx h0 true (by simp; omega) | exact Xx h0 false (by simp; omega) | exact (Qd h0 (by omega)).1.symm) (by first | rw [mkRat_deng h0] | rw [(Qd h0 (by omega)).2]) (Nat.le_trans (Qp h0 h_z.le) (Xi (by omega))) (Nat.le_trans (Qq h0 h_d.1) (Xi (by omega)))
     obtain ⟨c39, e56⟩ : ∃ cs : List Value, (c_z ++ c38) = cs := ⟨_, rfl⟩
     rw [e56] at h32
     exact so L117 rfl (ZD (cs := c39) L117 YK Xo (.cons rfl Za3 h_z.len (by decide) (.cons rfl field_36_1 h31.len (by decide) .nil)) (by exact QX [c_z, c38] (by simp [XO, Value.cells, h_z.len, h31.len]) (by simp [Value.cells, h_z.len, h31.len]) (by rw [← e56]; simp)) fun _ L118 => (Zx L118 rfl rfl (Zi L118 rfl rfl (ZX R44) Ya h32.len rfl h32.ones fun _ R45 _ L119 => (sn (wp_ret ((Zv (rs := Tryz.f99.results.toList) (L119.kp [4] rfl) rfl (Res.aggW rfl Xd Ya (R45.has (List.Mem.head _)) h32.len Res.nil) (⟨_, _, rfl, R45.ext, ⟨_, rfl, (h32.to rfl (by omega))⟩⟩))))))))
end Go.Cham
namespace Go.Cham
open Go Go.RowKit Go.Proofs
theorem ent_94 : Yn Tryz.prog 94 = true := by kernel_rfl
theorem ent_95 : Yn Tryz.prog 95 = true := by kernel_rfl
theorem ent_96 : Yn Tryz.prog 96 = true := by kernel_rfl
theorem ent_97 : Yn Tryz.prog 97 = true := by kernel_rfl
theorem ent_99 : Yn Tryz.prog 99 = true := by kernel_rfl
theorem ent_147 : Yn Tryz.prog 147 = true := by kernel_rfl
theorem ent_149 : Yn Tryz.prog 149 = true := by kernel_rfl
theorem ent_169 : Yn Tryz.prog 169 = true := by kernel_rfl
end Go.Cham
