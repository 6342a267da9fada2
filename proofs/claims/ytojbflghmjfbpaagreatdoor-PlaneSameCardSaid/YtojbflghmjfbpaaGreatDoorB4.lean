/- YtojbflghmjfbpaaGreatDoorB4, a part of the proof that the claim's law answers true for every input, made small by program from the texts of this repo's wip/. No condition beyond those that the statements bear. -/
import Derived.Test.YtojbflghmjfbpaaGreatDoorB3
import Derived.Test.YtojbflghmjfbpaaGreatDoorProg
import Derived.KernelRfl
namespace Go.Cham
open Go Go.RowKit Go.Proofs
set_option maxRecDepth 20000 in
theorem Xa {S : Sh} {w : World} (hS : Ya S w) {mi : Bool} {c_a : List Value} {a : Nat} {k_a : Nat} (h_a : Na S c_a (a) (k_a)) : Calls Tryz.prog 82 [(.bool mi), (.agg (c_a : List Value).toArray)].toArray w (Ret S w (fun S v => ∃ (c0 : List Value), v = .agg c0.toArray ∧ In S c0 (sI mi a) (k_a))) := by
 refine ZK (n := 13) Tryz.func82 rfl rfl ?_
 intro ac0 L0
 replace L0 : Zt ac0 13 [(0, (.bool mi)), (1, (.agg (c_a : List Value).toArray))] := L0
 have R0 : Run S w S [] w := .start hS
 have hbz := @XC a
 obtain rfl | rfl : mi = true ∨ mi = false := by cases mi <;> simp
 ·refine wp_seq (Za (so L0 rfl (ZN (cs := c_a) L0 rfl R0 rfl ?_)))
  intro b1 _ _ l1 r1 R1 _ L1
  refine so L1 rfl (ZG (cs := zI1) Qb R1 rfl fun b2 _ R2 _ L2 => sn (wp_seq ?_))
  by_cases t1 : (0 : Int) < ((Zw a : Nat) : Int)
  ·have L3 := (L2.kp [0, 3, 4] rfl)
   refine Zu (E0 := []) (H0 := [(b2, 34, zI1)]) (n := 13) mixed 7 [] (fun k => 0) (Zce [
     .is (.bool true),
     .is (.bool true),
     .is (.agg (c_a : List Value).toArray),
     .is (.int .i64 (((Zw a : Nat) : Int))),
     .is (.bool true),
     .is (.bool true),
     .is (.agg (c_a : List Value).toArray)]) L3 R2 (by simp) (by simp) (by rfl) (by rfl) (by simp) (ZU ?_) ?_
   ·refine (And.intro ?_ (And.intro ?_ (And.intro ?_ (And.intro ?_ (And.intro ?_ (And.intro ?_ (And.intro ?_ trivial)))))))
    ·exact Zb rfl (fun _ _ _ _ _ A1 => (Zh A1.live rfl (A1.same rfl)))
    ·refine Zb rfl (fun _ _ _ _ _ A2 => ?_)
     obtain ⟨_, e1, rfl⟩ := A2.known 0 rfl
     exact Zh (A2.live.add e1) rfl (A2.same rfl)
    ·exact step_on rfl rfl rfl rfl (fun _ _ _ _ _ A3 => (Zx A3.live rfl ZE Zk (A3.run.row (r1.up A3.le)) h_a.len (A3.same rfl)))
    ·refine step_on rfl rfl rfl rfl (fun _ _ _ _ _ A4 => ?_)
     obtain ⟨_, e2, rfl⟩ := A4.known 2 rfl
     exact Zl (A4.live.add e2) rfl Zdf (Yw A4.run.holds (h_a.up (l1.trans A4.le)) ) fun v_1 _ _ x1 v1 => (A4.post x1.le (A4.run.call x1) v1)
    ·refine step_on rfl rfl rfl rfl (fun _ _ _ _ _ A5 => ?_)
     obtain ⟨_, e3, rfl⟩ := A5.known 3 rfl
     exact Xf (b := true) (decide_eq_true t1) (fun _ k_ => ZS (A5.live.add e3) rfl rfl k_) (A5.same rfl)
    ·refine Zb rfl (fun _ _ _ _ _ A6 => ?_)
     obtain ⟨_, e4, rfl⟩ := A6.known 1 rfl
     obtain ⟨_, e5, rfl⟩ := A6.known 4 rfl
     exact Zj ((A6.live.add e4).add e5) rfl rfl (A6.same rfl)
    ·exact Zb rfl (fun _ _ _ _ _ A7 => (Zx A7.live rfl ZE Zk (A7.run.row (r1.up A7.le)) h_a.len (A7.same rfl)))
   ·intro S10 _ _ w11 l3 E1 R4 n1 L11 K1
    obtain ⟨_, e6, rfl⟩ := K1 5 (by decide)
    have L12 := L11.add e6; clear L11
    obtain ⟨_, e7, rfl⟩ := K1 6 (by decide)
    have L13 := L12.add e7; clear L12
    have R5 : Run _ _ S10 [(b2, 34, zI1)] w11 := Yh R4 n1 [] (by simp) (by simp)
    have h1 : In S10 ([(.bool true)] ++ c_a) (sI true a) (k_a) := In.mk (h_a.up (l1.trans l3)) (by rfl) (by intro e; exfalso; omega)
    obtain ⟨c1, e8⟩ : ∃ cs : List Value, ([(.bool true)] ++ c_a) = cs := ⟨_, rfl⟩
    rw [e8] at h1
    exact so L13 rfl (ZC (cs := c1) L13 Qb sok_34 (.cons rfl Yc rfl (by decide) (.cons rfl Yi h_a.len (by decide) .nil)) (by exact Zet [[(.bool true)], c_a] (by simp [Zao, Value.cells, h_a.len]) (by simp [Value.cells, h_a.len]) (by rw [← e8]; simp)) fun _ L14 => Zs L14 rfl rfl (Zi L14 rfl rfl R5 Yt h1.len rfl h1.ones fun _ R6 _ L15 => sn (wp_ret ((Zo (rs := Tryz.f82.results.toList) (L15.kp [4] rfl) rfl (Res.aggW rfl XI Yt (R6.has (List.Mem.head _)) h1.len Res.nil) (⟨_, _, rfl, R6.ext, ⟨_, rfl, (h1.to (by rfl) (by omega))⟩⟩))))))
  ·have L17 := (L2.kp [0, 3, 4] rfl)
   refine Zu (E0 := []) (H0 := [(b2, 34, zI1)]) (n := 13) mixed 7 [] (fun k => 0) (Zce [
     .is (.bool true),
     .is (.bool true),
     .is (.agg (c_a : List Value).toArray),
     .is (.int .i64 (((Zw a : Nat) : Int))),
     .is (.bool false),
     .is (.bool false),
     .is (.agg (c_a : List Value).toArray)]) L17 R2 (by simp) (by simp) (by rfl) (by rfl) (by simp) (ZU ?_) ?_
   ·refine (And.intro ?_ (And.intro ?_ (And.intro ?_ (And.intro ?_ (And.intro ?_ (And.intro ?_ (And.intro ?_ trivial)))))))
    ·exact Zb rfl (fun _ _ _ _ _ A8 => (Zh A8.live rfl (A8.same rfl)))
    ·refine Zb rfl (fun _ _ _ _ _ A9 => ?_)
     obtain ⟨_, e9, rfl⟩ := A9.known 0 rfl
     exact Zh (A9.live.add e9) rfl (A9.same rfl)
    ·exact step_on rfl rfl rfl rfl (fun _ _ _ _ _ A10 => (Zx A10.live rfl ZE Zk (A10.run.row (r1.up A10.le)) h_a.len (A10.same rfl)))
    ·refine step_on rfl rfl rfl rfl (fun _ _ _ _ _ A11 => ?_)
     obtain ⟨_, e10, rfl⟩ := A11.known 2 rfl
     exact Zl (A11.live.add e10) rfl Zdf (Yw A11.run.holds (h_a.up (l1.trans A11.le)) ) fun v_2 _ _ x2 v2 => (A11.post x2.le (A11.run.call x2) v2)
    ·refine step_on rfl rfl rfl rfl (fun _ _ _ _ _ A12 => ?_)
     obtain ⟨_, e11, rfl⟩ := A12.known 3 rfl
     exact Xf (b := false) (decide_eq_false t1) (fun _ k_ => ZS (A12.live.add e11) rfl rfl k_) (A12.same rfl)
    ·refine Zb rfl (fun _ _ _ _ _ A13 => ?_)
     obtain ⟨_, e12, rfl⟩ := A13.known 1 rfl
     obtain ⟨_, e13, rfl⟩ := A13.known 4 rfl
     exact Zj ((A13.live.add e12).add e13) rfl rfl (A13.same rfl)
    ·exact Zb rfl (fun _ _ _ _ _ A14 => (Zx A14.live rfl ZE Zk (A14.run.row (r1.up A14.le)) h_a.len (A14.same rfl)))
   ·intro S19 _ _ w21 l5 E2 R8 n2 L25 K2
    obtain ⟨_, e14, rfl⟩ := K2 5 (by decide)
    have L26 := L25.add e14; clear L25
    obtain ⟨_, e15, rfl⟩ := K2 6 (by decide)
    have L27 := L26.add e15; clear L26
    have R9 : Run _ _ S19 [(b2, 34, zI1)] w21 := Yh R8 n2 [] (by simp) (by simp)
    have h2 : In S19 ([(.bool false)] ++ c_a) (sI true a) (k_a) := In.mk (h_a.up (l1.trans l5)) (by (have e : a = 0 := by omega); subst e; rfl) (by intro _; rfl)
    obtain ⟨c2, e16⟩ : ∃ cs : List Value, ([(.bool false)] ++ c_a) = cs := ⟨_, rfl⟩
    rw [e16] at h2
    exact so L27 rfl (ZC (cs := c2) L27 Qb sok_34 (.cons rfl Yc rfl (by decide) (.cons rfl Yi h_a.len (by decide) .nil)) (by exact Zet [[(.bool false)], c_a] (by simp [Zao, Value.cells, h_a.len]) (by simp [Value.cells, h_a.len]) (by rw [← e16]; simp)) fun _ L28 => Zs L28 rfl rfl (Zi L28 rfl rfl R9 Yt h2.len rfl h2.ones fun _ R10 _ L29 => sn (wp_ret ((Zo (rs := Tryz.f82.results.toList) (L29.kp [4] rfl) rfl (Res.aggW rfl XI Yt (R10.has (List.Mem.head _)) h2.len Res.nil) (⟨_, _, rfl, R10.ext, ⟨_, rfl, (h2.to (by rfl) (by omega))⟩⟩))))))
 ·refine wp_seq (Za (so L0 rfl (ZN (cs := c_a) L0 rfl R0 rfl ?_)))
  intro b3 _ _ l6 r2 R11 _ L31
  refine so L31 rfl (ZG (cs := zI1) Qb R11 rfl fun b4 _ R12 _ L32 => sn (wp_seq ?_))
  have L33 := (L32.kp [0, 3, 4] rfl)
  refine Zu (E0 := []) (H0 := [(b4, 34, zI1)]) (n := 13) mixed 7 [] (fun k => 0) (Zce [
    .is (.bool false),
    .is (.bool false),
    .is undef,
    .is undef,
    .is undef,
    .is (.bool false),
    .is (.agg (c_a : List Value).toArray)]) L33 R12 (by simp) (by simp) (by rfl) (by rfl) (by simp) (ZU ?_) ?_
  ·refine (And.intro ?_ (And.intro ?_ (And.intro ?_ (And.intro ?_ (And.intro ?_ (And.intro ?_ (And.intro ?_ trivial)))))))
   ·exact Zb rfl (fun _ _ _ _ _ A15 => (Zh A15.live rfl (A15.same rfl)))
   ·refine Zb rfl (fun _ _ _ _ _ A16 => ?_)
    obtain ⟨_, e17, rfl⟩ := A16.known 0 rfl
    exact Zh (A16.live.add e17) rfl (A16.same rfl)
   ·exact step_off rfl rfl rfl rfl rfl rfl
   ·exact step_off rfl rfl rfl rfl rfl rfl
   ·exact step_off rfl rfl rfl rfl rfl rfl
   ·refine Zb rfl (fun _ _ _ _ _ A17 => ?_)
    obtain ⟨_, e18, rfl⟩ := A17.known 1 rfl
    obtain ⟨_, e19, rfl⟩ := A17.known 4 rfl
    exact Zj ((A17.live.add e18).add e19) rfl rfl (A17.same rfl)
   ·exact Zb rfl (fun _ _ _ _ _ A18 => (Zx A18.live rfl ZE Zk (A18.run.row (r2.up A18.le)) h_a.len (A18.same rfl)))
  ·intro S25 _ _ w29 l7 E3 R13 n3 L38 K3
   obtain ⟨_, e20, rfl⟩ := K3 5 (by decide)
   have L39 := L38.add e20; clear L38
   obtain ⟨_, e21, rfl⟩ := K3 6 (by decide)
   have L40 := L39.add e21; clear L39
   have R14 : Run _ _ S25 [(b4, 34, zI1)] w29 := Yh R13 n3 [] (by simp) (by simp)
   have h3 : In S25 ([(.bool false)] ++ c_a) (sI false a) (k_a) := In.mk (h_a.up (l6.trans l7)) (by rfl) (by intro _; rfl)
   obtain ⟨c3, e22⟩ : ∃ cs : List Value, ([(.bool false)] ++ c_a) = cs := ⟨_, rfl⟩
   rw [e22] at h3
   exact so L40 rfl (ZC (cs := c3) L40 Qb sok_34 (.cons rfl Yc rfl (by decide) (.cons rfl Yi h_a.len (by decide) .nil)) (by exact Zet [[(.bool false)], c_a] (by simp [Zao, Value.cells, h_a.len]) (by simp [Value.cells, h_a.len]) (by rw [← e22]; simp)) fun _ L41 => Zs L41 rfl rfl (Zi L41 rfl rfl R14 Yt h3.len rfl h3.ones fun _ R15 _ L42 => sn (wp_ret ((Zo (rs := Tryz.f82.results.toList) (L42.kp [4] rfl) rfl (Res.aggW rfl XI Yt (R15.has (List.Mem.head _)) h3.len Res.nil) (⟨_, _, rfl, R15.ext, ⟨_, rfl, (h3.to (by rfl) (by omega))⟩⟩))))))
set_option maxRecDepth 20000 in
theorem whole_Of {S : Sh} {w : World} (hS : Ya S w) {n : Int} (hn1 : -9223372036854775808 ≤ n) (hn2 : n ≤ 9223372036854775807) : Calls Tryz.prog 90 [(.int .i64 n)].toArray w (Ret S w (fun S v => ∃ (c0 : List Value), v = .agg c0.toArray ∧ In S c0 (n) (64))) := by
 refine ZK (n := 14) Tryz.func90 rfl rfl ?_
 intro ac0 L0
 replace L0 : Zt ac0 14 [(0, (.int .i64 n))] := L0
 have R0 : Run S w S [] w := .start hS
 refine wp_seq (Za (so L0 rfl (ZG (cs := zI1) Qb R0 rfl ?_)))
 intro b1 _ R1 _ L1
 refine sn (wp_seq (wp_seq (Za (sm L1 rfl ?_))))
 intro _ L2
 by_cases t1 : n < (0 : Int)
 ·refine so L2 rfl (bT t1 (fun _ => ZF L2 rfl rfl) fun _ L3 => sn (Zp L3 rfl rfl (wp_seq (Za (sm L3 rfl fun _ L4 => so L4 rfl (XR (z := (n + 18446744073709551616)) L4 rfl rfl Tryz.underlying29 (u64_wrap_neg (by omega) (by omega)) fun _ L5 => so L5 rfl (does_neg (z := ((n.natAbs : Nat) : Int)) L5 rfl (u64_wrap_neg2 (by omega) (by omega)) fun _ L6 => so L6 rfl (Zl L6 rfl ent_76 (nat_Of R1.holds (n := n.natAbs) (by omega)) fun v_1 S1 _ x1 v1 => ?_))))))))
  have R2 := R1.call x1
  obtain ⟨c1, rfl, h1⟩ := v1
  intro _ L7
  have h2 : In S1 ([(.bool true)] ++ c1) (n) (64) := In.mk (neg := true) h1 (by show n = -((n.natAbs : Nat) : Int); omega) (by intro e; exfalso; omega)
  obtain ⟨c2, e1⟩ : ∃ cs : List Value, ([(.bool true)] ++ c1) = cs := ⟨_, rfl⟩
  rw [e1] at h2
  exact so L7 rfl (ZC (cs := c2) L7 Qb sok_34 (.cons rfl Yc rfl (by decide) (.cons rfl Yi h1.len (by decide) .nil)) (by exact Zet [[(.bool true)], c1] (by simp [Zao, Value.cells, h1.len]) (by simp [Value.cells, h1.len]) (by rw [← e1]; simp)) fun _ L8 => Zs L8 rfl rfl (Zi L8 rfl rfl R2 Yt h2.len rfl h2.ones fun _ R3 _ L9 => sn (wp_ret ((Zy (Zo (rs := Tryz.f90.results.toList) (L9.kp [0, 2] rfl) rfl (Res.aggW rfl XI Yt (R3.has (List.Mem.head _)) h2.len Res.nil) (⟨_, _, rfl, R3.ext, ⟨_, rfl, (h2.to rfl (by omega))⟩⟩)))))))
 ·refine so L2 rfl (bF t1 (fun _ => ZF L2 rfl rfl) fun _ L11 => sn (Zm L11 rfl rfl (wp_skip ((Zc (wp_seq (Za (sm L11 rfl fun _ L12 => so L12 rfl (XR (z := ((n.natAbs : Nat) : Int)) L12 rfl rfl Tryz.underlying29 (u64_to (by omega) (by omega)) fun _ L13 => so L13 rfl (Zl L13 rfl ent_76 (nat_Of R1.holds (n := n.natAbs) (by omega)) fun v_2 S2 _ x2 v2 => ?_))))))))))
  have R4 := R1.call x2
  obtain ⟨c3, rfl, h3⟩ := v2
  intro _ L14
  have h4 : In S2 ([(.bool false)] ++ c3) (n) (64) := In.mk (neg := false) h3 (by show n = ((n.natAbs : Nat) : Int); omega) (by intro _; rfl)
  obtain ⟨c4, e2⟩ : ∃ cs : List Value, ([(.bool false)] ++ c3) = cs := ⟨_, rfl⟩
  rw [e2] at h4
  exact so L14 rfl (ZC (cs := c4) L14 Qb sok_34 (.cons rfl Yi h3.len (by decide) .nil) (by rw [← e2]; simp [XY, YU, Value.cells, h3.len]) fun _ L15 => Zs L15 rfl rfl (Zi L15 rfl rfl R4 Yt h4.len rfl h4.ones fun _ R5 _ L16 => sn (wp_ret ((Zo (rs := Tryz.f90.results.toList) (L16.kp [2] rfl) rfl (Res.aggW rfl XI Yt (R5.has (List.Mem.head _)) h4.len Res.nil) (⟨_, _, rfl, R5.ext, ⟨_, rfl, (h4.to rfl (by omega))⟩⟩))))))
set_option maxRecDepth 20000 in
theorem Ql {S : Sh} {w : World} (hS : Ya S w) {c_a : List Value} {a : Int} {k_a : Nat} (h_a : In S c_a (a) (k_a)) : Calls Tryz.prog 84 [(.agg (c_a : List Value).toArray)].toArray w (Ret S w (fun S v => v = .int .i64 (Yx a))) := by
 refine ZK (n := 11) Tryz.func84 rfl rfl ?_
 intro ac0 L0
 replace L0 : Zt ac0 11 [(0, (.agg (c_a : List Value).toArray))] := L0
 have R0 : Run S w S [] w := .start hS
 have hbz := @XC a.natAbs
 refine wp_seq (Za (so L0 rfl (ZN (cs := c_a) L0 rfl R0 rfl ?_)))
 intro b1 _ _ l1 r1 R1 _ L1
 refine sa L1 rfl fun _ L2 => sn (wp_seq (wp_block (wp_seq (Za (so L2 rfl (Zd (off' := 1) L2 rfl Yi rfl fun _ L3 => ?_))))))
 obtain ⟨c1, e1, h1⟩ := (h_a.up l1).abs
 refine so L3 rfl (Yl L3 rfl ZE Zk (R1.row r1) e1 h1.len fun _ L4 => so L4 rfl (Zl L4 rfl Zdf (Yw R1.holds h1 ) fun v_1 _ _ x1 v1 => ?_))
 have R2 := R1.call x1; have l2 := x1.le
 obtain rfl := v1
 intro _ L5
 by_cases t1 : ((Zw a.natAbs : Nat) : Int) = (0 : Int)
 ·refine so L5 rfl (bT t1 (fun _ => ZZ L5 rfl rfl) fun _ L6 => sa L6 rfl fun _ L7 => ?_)
  have L8 := (L7.kp [1, 2, 3] rfl); clear L7
  refine sn (Zp L8 rfl rfl (wp_seq (Za (sa L8 rfl ?_))))
  intro _ L9
  exact sn (wp_ret ((Yz (Zy (Zo (rs := Tryz.f84.results.toList) L9 rfl (.tmp rfl Res.nil) (⟨_, _, rfl, R2.ext, (by exact Zbv (by rw [show a = 0 by omega]; rfl))⟩))))))
 ·refine so L5 rfl (bF t1 (fun _ => ZZ L5 rfl rfl) fun _ L10 => sa L10 rfl fun _ L11 => ?_)
  have L12 := (L11.kp [1, 2, 3] rfl); clear L11
  refine sn (Zm L12 rfl rfl (wp_seq (Za (so L12 rfl (Zd (off' := 0) L12 rfl Yc rfl ?_)))))
  intro _ L13
  refine so L13 rfl (Zg L13 rfl Zaq (R2.row (r1.up l2)) h_a.sign fun _ L14 => sa L14 rfl fun _ L15 => sn ?_)
  by_cases t2 : a < 0
  ·refine Zp L15 rfl (decide_eq_true t2) (wp_seq (Za (sa L15 rfl ?_)))
   intro _ L16
   exact sn (wp_ret ((Yz (Zy (Zo (rs := Tryz.f84.results.toList) (L16.kp [2] rfl) rfl (.tmp rfl Res.nil) (⟨_, _, rfl, R2.ext, (by exact Zbv (by unfold Yx; rw [if_neg (by omega), if_pos (by assumption)]))⟩))))))
  ·refine Zm L15 rfl (decide_eq_false t2) (wp_skip ((ZI (Zc (wp_seq (Za (sa L15 rfl ?_)))))))
   intro _ L18
   exact sn (wp_ret ((Zo (rs := Tryz.f84.results.toList) (L18.kp [2] rfl) rfl (.tmp rfl Res.nil) (⟨_, _, rfl, R2.ext, (by exact Zbv (by unfold Yx; rw [if_neg (by omega), if_neg (by assumption)]))⟩))))
set_option maxRecDepth 20000 in
theorem Za6 {S : Sh} {w : World} (hS : Ya S w) {c_a : List Value} {a : Int} {k_a : Nat} (h_a : In S c_a (a) (k_a)) : Calls Tryz.prog 113 [(.agg (c_a : List Value).toArray)].toArray w (Ret S w (fun S v => ∃ (c0 : List Value), v = .agg c0.toArray ∧ Na S c0 (a.natAbs) (k_a))) := by
 refine ZK (n := 5) Tryz.func113 rfl rfl ?_
 intro ac0 L0
 replace L0 : Zt ac0 5 [(0, (.agg (c_a : List Value).toArray))] := L0
 have R0 : Run S w S [] w := .start hS
 refine wp_seq (Za (so L0 rfl (ZN (cs := c_a) L0 rfl R0 rfl ?_)))
 intro b1 _ _ l1 r1 R1 _ L1
 refine so L1 rfl (ZG (cs := zN1) ZO R1 rfl fun b2 _ R2 _ L2 => sn (wp_seq (Za (so L2 rfl (Zd (off' := 1) L2 rfl Yi rfl fun _ L3 => ?_)))))
 obtain ⟨c1, e1, h1⟩ := (h_a.up l1).abs
 exact so L3 rfl (Yl L3 rfl ZE Zk (R2.row r1) e1 h1.len fun _ L4 => Zs L4 rfl rfl (Zi L4 rfl rfl R2 Zk h1.len rfl h1.ones fun _ R3 _ L5 => sn (wp_ret ((Zo (rs := Tryz.f113.results.toList) L5 rfl (Res.aggW rfl ZE Zk (R3.has (List.Mem.head _)) h1.len Res.nil) (⟨_, _, rfl, R3.ext, ⟨_, rfl, (h1.to rfl (by omega))⟩⟩))))))
set_option maxRecDepth 20000 in
theorem whole_Neg {S : Sh} {w : World} (hS : Ya S w) {c_a : List Value} {a : Int} {k_a : Nat} (h_a : In S c_a (a) (k_a)) : Calls Tryz.prog 85 [(.agg (c_a : List Value).toArray)].toArray w (Ret S w (fun S v => ∃ (c0 : List Value), v = .agg c0.toArray ∧ In S c0 (-a) (k_a))) := by
 refine ZK (n := 9) Tryz.func85 rfl rfl ?_
 intro ac0 L0
 replace L0 : Zt ac0 9 [(0, (.agg (c_a : List Value).toArray))] := L0
 have R0 : Run S w S [] w := .start hS
 refine wp_seq (Za (so L0 rfl (ZN (cs := c_a) L0 rfl R0 rfl ?_)))
 intro b1 _ _ l1 r1 R1 _ L1
 refine so L1 rfl (ZG (cs := zI1) Qb R1 rfl fun b2 _ R2 _ L2 => sn (wp_seq (Za (so L2 rfl (Zd (off' := 0) L2 rfl Yc rfl fun _ L3 => so L3 rfl (Zg L3 rfl Zaq (R2.row r1) h_a.sign fun _ L4 => so L4 rfl (XV L4 rfl rfl fun _ L5 => so L5 rfl (Zd (off' := 1) L5 rfl Yi rfl fun _ L6 => ?_))))))))
 obtain ⟨c1, e1, h1⟩ := (h_a.up l1).abs
 refine so L6 rfl (Yl L6 rfl ZE Zk (R2.row r1) e1 h1.len fun _ L7 => so L7 rfl (Zl L7 rfl Zen (Xa R2.holds (mi := (!(decide (a < 0)))) h1 ) fun v_1 _ _ x1 v1 => ?_))
 have R3 := R2.call x1
 obtain ⟨c2, rfl, h2⟩ := v1
 intro _ L8
 exact Zs L8 rfl rfl (Zi L8 rfl rfl R3 Yt h2.len rfl h2.ones fun _ R4 _ L9 => (sn (wp_ret ((Zo (rs := Tryz.f85.results.toList) (L9.kp [2] rfl) rfl (Res.aggW rfl XI Yt (R4.has (List.Mem.head _)) h2.len Res.nil) (⟨_, _, rfl, R4.ext, ⟨_, rfl, (h2.to (by exact neg_sI) (by omega))⟩⟩))))))
set_option maxRecDepth 20000 in
theorem whole_Add {S : Sh} {w : World} (hS : Ya S w) {c_a : List Value} {a : Int} {k_a : Nat} (h_a : In S c_a (a) (k_a)) {c_b : List Value} {b : Int} {k_b : Nat} (h_b : In S c_b (b) (k_b)) (hlim : k_a ≤ 1099511000000) (hlim2 : k_b ≤ 1099511000000) : Calls Tryz.prog 89 [(.agg (c_a : List Value).toArray), (.agg (c_b : List Value).toArray)].toArray w (Ret S w (fun S v => ∃ (c0 : List Value), v = .agg c0.toArray ∧ In S c0 (a + b) (k_a + k_b + 1))) := by
 refine ZK (n := 40) Tryz.func89 rfl rfl ?_
 intro ac0 L0
 replace L0 : Zt ac0 40 [(0, (.agg (c_a : List Value).toArray)), (1, (.agg (c_b : List Value).toArray))] := L0
 have R0 : Run S w S [] w := .start hS
 have hcmp := @cmpN_neg a.natAbs b.natAbs
 refine wp_seq (Za (so L0 rfl (Zer (cs := c_a) L0 rfl R0 rfl ?_)))
 intro b1 _ R1 _ L1
 refine so L1 rfl (Zer (cs := c_b) L1 rfl R1 rfl fun b2 _ R2 _ L2 => so L2 rfl (ZG (cs := zI1) Qb R2 rfl fun b3 _ R3 _ L3 => sn (wp_seq (wp_seq (Za (so L3 rfl (Zd (off' := 0) L3 rfl Yc rfl fun _ L4 => so L4 rfl (Zg L4 rfl Zaq (R3.has (List.Mem.tail _ (List.Mem.tail _ (List.Mem.head _)))) h_a.sign fun _ L5 => so L5 rfl (Zd (off' := 0) L5 rfl Yc rfl fun _ L6 => ?_)))))))))
 refine so L6 rfl (Zg L6 rfl Zaq (R3.has (List.Mem.tail _ (List.Mem.head _))) h_b.sign fun _ L7 => so L7 rfl (does_eqlB L7 rfl rfl Tryz.underlying4 fun _ L8 => ?_))
 have L9 := (L8.kp [2, 3, 4, 11] rfl); clear L8
 refine sn ?_
 by_cases t1 : (decide (a < 0)) = (decide (b < 0))
 ·refine Zp L9 rfl (decide_eq_true t1) (wp_seq ?_)
  have L10 := (L9.kp [2, 3, 4] rfl)
  refine Zu (E0 := []) (H0 := [(b3, 34, zI1), (b2, 34, c_b), (b1, 34, c_a)]) (n := 40) mixed 7 [] (fun k => 0) (Zce [
    .is (.pointer (some ⟨b1, 0, none⟩)),
    .is (.bool (decide (a < 0))),
    .is (.pointer (some ⟨b1, 1, none⟩)),
    (kvNa (a.natAbs) (k_a)),
    .is (.pointer (some ⟨b2, 1, none⟩)),
    (kvNa (b.natAbs) (k_b)),
    (kvNa (a.natAbs + b.natAbs) (k_a + k_b + 1))]) L10 R3 (by simp) (by simp) (by rfl) (by rfl) (by simp) (ZU ?_) ?_
  ·refine (And.intro ?_ (And.intro ?_ (And.intro ?_ (And.intro ?_ (And.intro ?_ (And.intro ?_ (And.intro ?_ trivial)))))))
   ·exact Zb rfl (fun _ _ _ _ _ A1 => (Zd (off' := 0) A1.live rfl Yc rfl (A1.same rfl)))
   ·refine Zb rfl (fun _ _ _ _ _ A2 => ?_)
    obtain ⟨_, e1, rfl⟩ := A2.known 0 rfl
    exact Zg (A2.live.add e1) rfl Zaq (A2.run.has (List.mem_append_right _ (List.Mem.tail _ (List.Mem.tail _ (List.Mem.head _))))) h_a.sign (A2.same rfl)
   ·exact Zb rfl (fun _ _ _ _ _ A3 => (Zd (off' := 1) A3.live rfl Yi rfl (A3.same rfl)))
   ·refine Zb rfl (fun _ _ _ _ _ A4 => ?_)
    obtain ⟨_, e2, rfl⟩ := A4.known 2 rfl
    obtain ⟨c1, e3, h1⟩ := (h_a.up A4.le).abs
    exact Yl (A4.live.add e2) rfl ZE Zk (A4.run.has (List.mem_append_right _ (List.Mem.tail _ (List.Mem.tail _ (List.Mem.head _))))) e3 h1.len (A4.same ⟨_, rfl, h1⟩)
   ·exact Zb rfl (fun _ _ _ _ _ A5 => (Zd (off' := 1) A5.live rfl Yi rfl (A5.same rfl)))
   ·refine Zb rfl (fun _ _ _ _ _ A6 => ?_)
    obtain ⟨_, e4, rfl⟩ := A6.known 4 rfl
    obtain ⟨c2, e5, h2⟩ := (h_b.up A6.le).abs
    exact Yl (A6.live.add e4) rfl ZE Zk (A6.run.has (List.mem_append_right _ (List.Mem.tail _ (List.Mem.head _)))) e5 h2.len (A6.same ⟨_, rfl, h2⟩)
   ·refine Zb rfl (fun _ _ _ _ _ A7 => ?_)
    obtain ⟨_, e6, c3, rfl, h3⟩ := A7.known 3 rfl
    obtain ⟨_, e7, c4, rfl, h4⟩ := A7.known 5 rfl
    exact Zl ((A7.live.add e6).add e7) rfl ent_137 (nat_Add A7.run.holds h3 h4 (by omega) (by omega)) fun v_1 _ _ x1 v1 => (A7.post x1.le (A7.run.call x1) v1)
  ·intro S9 _ _ w12 l2 E1 R5 n1 L18 K1
   obtain ⟨_, e8, rfl⟩ := K1 1 (by decide)
   have L19 := L18.add e8; clear L18
   obtain ⟨_, e9, c5, rfl, h5⟩ := K1 6 (by decide)
   have L20 := L19.add e9; clear L19
   have R6 : Run _ _ S9 [(b3, 34, zI1), (b2, 34, c_b), (b1, 34, c_a)] w12 := Yh R5 n1 [] (by simp) (by simp)
   refine so L20 rfl (Zl L20 rfl Zen (Xa R6.holds (mi := (decide (a < 0))) h5 ) fun v_2 _ _ x2 v2 => ?_)
   have R7 := R6.call x2
   obtain ⟨c6, rfl, h6⟩ := v2
   intro _ L21
   exact Zs L21 rfl rfl (Zi L21 rfl rfl R7 Yt h6.len rfl h6.ones fun _ R8 _ L22 => (sn (wp_ret ((Zy (Zo (rs := Tryz.f89.results.toList) L22 rfl (Res.aggW rfl XI Yt (R8.has (List.Mem.head _)) h6.len Res.nil) (⟨_, _, rfl, R8.ext, ⟨_, rfl, (h6.to (by exact add_sI (by assumption)) (by omega))⟩⟩)))))))
 ·refine Zm L9 rfl (decide_eq_false t1) (wp_skip ((Zc (wp_seq (wp_seq (Za (so L9 rfl (Zd (off' := 1) L9 rfl Yi rfl ?_))))))))
  intro _ L23
  obtain ⟨c7, e10, h7⟩ := h_a.abs
  refine so L23 rfl (Yl L23 rfl ZE Zk (R3.has (List.Mem.tail _ (List.Mem.tail _ (List.Mem.head _)))) e10 h7.len fun _ L24 => so L24 rfl (Zd (off' := 1) L24 rfl Yi rfl fun _ L25 => ?_))
  obtain ⟨c8, e11, h8⟩ := h_b.abs
  refine so L25 rfl (Yl L25 rfl ZE Zk (R3.has (List.Mem.tail _ (List.Mem.head _))) e11 h8.len fun _ L26 => so L26 rfl (Zl L26 rfl ent_133 (nat_Cmp R3.holds h7 h8 ) fun v_3 _ _ x3 v3 => ?_))
  have R9 := R3.call x3; have l4 := x3.le
  obtain rfl := v3
  intro _ L27
  by_cases t2 : (cmpN a.natAbs b.natAbs) < (0 : Int)
  ·refine so L27 rfl (bT t2 (fun _ => ZF L27 rfl rfl) fun _ L28 => ?_)
   have L29 := (L28.kp [2, 3, 4, 25] rfl); clear L28
   refine sn (Zp L29 rfl rfl (Za (so L29 rfl (Zx L29 rfl XI Yt (R9.has (List.Mem.tail _ (List.Mem.head _))) h_b.len ?_))))
   intro _ L30
   refine so L30 rfl (Zx L30 rfl XI Yt (R9.has (List.Mem.tail _ (List.Mem.tail _ (List.Mem.head _)))) h_a.len fun _ L31 => Zs L31 rfl rfl (Zi L31 rfl rfl (Xj R9) Yt h_b.len h_a.len h_b.ones fun _ R10 _ L32 => Zs L32 rfl rfl (Zi L32 rfl rfl (Xj R10) Yt h_a.len h_b.len h_a.ones fun _ R11 _ L33 => sn (wp_seq (Za (so L33 rfl (Zd (off' := 1) L33 rfl Yi rfl fun _ L34 => ?_)))))))
   obtain ⟨c9, e12, h9⟩ := (h_b.up l4).abs
   refine so L34 rfl (Yl L34 rfl ZE Zk (R11.has (List.Mem.tail _ (List.Mem.head _))) e12 h9.len fun _ L35 => so L35 rfl (Zd (off' := 1) L35 rfl Yi rfl fun _ L36 => ?_))
   obtain ⟨c10, e13, h10⟩ := (h_a.up l4).abs
   refine so L36 rfl (Yl L36 rfl ZE Zk (R11.has (List.Mem.head _)) e13 h10.len fun _ L37 => so L37 rfl (Zl L37 rfl ent_145 (nat_Sub R11.holds h9 h10 (by omega)) fun v_4 _ _ x4 v4 => ?_))
   have R12 := R11.call x4
   rcases v4 with ⟨t3, c11, rfl, h11⟩ | ⟨t4, c12, rfl, h12⟩
   ·omega
   ·intro _ L38
    refine sm L38 rfl fun _ L39 => so L39 rfl (Zf L39 rfl rfl fun _ L40 => so L40 rfl (Zf L40 rfl rfl fun _ L41 => so L41 rfl (ZG (cs := zN1) ZO R12 rfl fun b4 _ R13 _ L42 => Zs L42 rfl rfl (Zi L42 rfl rfl R13 Zk h12.len rfl h12.ones fun _ R14 _ L43 => sa L43 rfl fun _ L44 => ?_))))
    have L45 := (L44.kp [2, 4, 5] rfl); clear L44
    refine sn (wp_seq (Za (so L45 rfl (Zd (off' := 0) L45 rfl Yc rfl ?_))))
    intro _ L46
    refine so L46 rfl (Zg L46 rfl Zaq (R14.has (List.Mem.tail _ (List.Mem.tail _ (List.Mem.head _)))) h_b.sign fun _ L47 => so L47 rfl (Zx L47 rfl ZE Zk (R14.has (List.Mem.head _)) h12.len fun _ L48 => so L48 rfl (Zl L48 rfl Zen (Xa R14.holds (mi := (decide (b < 0))) h12 ) fun v_5 _ _ x5 v5 => ?_)))
    have R15 := R14.call x5
    obtain ⟨c13, rfl, h13⟩ := v5
    intro _ L49
    exact Zs L49 rfl rfl (Zi L49 rfl rfl (Zax R15) Yt h13.len rfl h13.ones fun _ R16 _ L50 => (sn (wp_ret ((Zo (rs := Tryz.f89.results.toList) (L50.kp [4] rfl) rfl (Res.aggW rfl XI Yt (R16.has (List.Mem.head _)) h13.len Res.nil) (⟨_, _, rfl, R16.ext, ⟨_, rfl, (h13.to (by first | exact dif_sI (by assumption) (by omega) | (rw [Int.add_comm a b]; exact dif_sI (fun q => absurd q.symm (by assumption)) (by omega))) (by omega))⟩⟩))))))
  ·refine so L27 rfl (bF t2 (fun _ => ZF L27 rfl rfl) fun _ L52 => ?_)
   have L53 := (L52.kp [2, 3, 4, 25] rfl); clear L52
   refine sn (Zm L53 rfl rfl (wp_skip ((Zc (wp_seq (Za (so L53 rfl (Zd (off' := 1) L53 rfl Yi rfl ?_))))))))
   intro _ L54
   obtain ⟨c14, e14, h14⟩ := (h_a.up l4).abs
   refine so L54 rfl (Yl L54 rfl ZE Zk (R9.has (List.Mem.tail _ (List.Mem.tail _ (List.Mem.head _)))) e14 h14.len fun _ L55 => so L55 rfl (Zd (off' := 1) L55 rfl Yi rfl fun _ L56 => ?_))
   obtain ⟨c15, e15, h15⟩ := (h_b.up l4).abs
   refine so L56 rfl (Yl L56 rfl ZE Zk (R9.has (List.Mem.tail _ (List.Mem.head _))) e15 h15.len fun _ L57 => so L57 rfl (Zl L57 rfl ent_145 (nat_Sub R9.holds h14 h15 (by omega)) fun v_6 _ _ x6 v6 => ?_))
   have R17 := R9.call x6
   rcases v6 with ⟨t5, c16, rfl, h16⟩ | ⟨t6, c17, rfl, h17⟩
   ·omega
   ·intro _ L58
    refine sm L58 rfl fun _ L59 => so L59 rfl (Zf L59 rfl rfl fun _ L60 => so L60 rfl (Zf L60 rfl rfl fun _ L61 => so L61 rfl (ZG (cs := zN1) ZO R17 rfl fun b5 _ R18 _ L62 => Zs L62 rfl rfl (Zi L62 rfl rfl R18 Zk h17.len rfl h17.ones fun _ R19 _ L63 => sa L63 rfl fun _ L64 => ?_))))
    have L65 := (L64.kp [2, 4, 5] rfl); clear L64
    refine sn (wp_seq (Za (so L65 rfl (Zd (off' := 0) L65 rfl Yc rfl ?_))))
    intro _ L66
    refine so L66 rfl (Zg L66 rfl Zaq (R19.has (List.Mem.tail _ (List.Mem.tail _ (List.Mem.tail _ (List.Mem.head _))))) h_a.sign fun _ L67 => so L67 rfl (Zx L67 rfl ZE Zk (R19.has (List.Mem.head _)) h17.len fun _ L68 => so L68 rfl (Zl L68 rfl Zen (Xa R19.holds (mi := (decide (a < 0))) h17 ) fun v_7 _ _ x7 v7 => ?_)))
    have R20 := R19.call x7
    obtain ⟨c18, rfl, h18⟩ := v7
    intro _ L69
    exact Zs L69 rfl rfl (Zi L69 rfl rfl (ZY R20) Yt h18.len rfl h18.ones fun _ R21 _ L70 => (sn (wp_ret ((Zo (rs := Tryz.f89.results.toList) (L70.kp [4] rfl) rfl (Res.aggW rfl XI Yt (R21.has (List.Mem.head _)) h18.len Res.nil) (⟨_, _, rfl, R21.ext, ⟨_, rfl, (h18.to (by first | exact dif_sI (by assumption) (by omega) | (rw [Int.add_comm a b]; exact dif_sI (fun q => absurd q.symm (by assumption)) (by omega))) (by omega))⟩⟩))))))
set_option maxRecDepth 20000 in
theorem whole_Sub {S : Sh} {w : World} (hS : Ya S w) {c_a : List Value} {a : Int} {k_a : Nat} (h_a : In S c_a (a) (k_a)) {c_b : List Value} {b : Int} {k_b : Nat} (h_b : In S c_b (b) (k_b)) (hlim : k_a ≤ 1099511000000) (hlim2 : k_b ≤ 1099511000000) : Calls Tryz.prog 146 [(.agg (c_a : List Value).toArray), (.agg (c_b : List Value).toArray)].toArray w (Ret S w (fun S v => ∃ (c0 : List Value), v = .agg c0.toArray ∧ In S c0 (a - b) (k_a + k_b + 1))) := by
 refine ZK (n := 9) Tryz.func146 rfl rfl ?_
 intro ac0 L0
 replace L0 : Zt ac0 9 [(0, (.agg (c_a : List Value).toArray)), (1, (.agg (c_b : List Value).toArray))] := L0
 have R0 : Run S w S [] w := .start hS
 refine wp_seq (Za (so L0 rfl (ZN (cs := c_a) L0 rfl R0 rfl ?_)))
 intro b1 _ _ l1 r1 R1 _ L1
 refine so L1 rfl (ZN (cs := c_b) L1 rfl R1 rfl fun b2 _ _ l2 r2 R2 _ L2 => so L2 rfl (ZG (cs := zI1) Qb R2 rfl fun b3 _ R3 _ L3 => sn (wp_seq ?_)))
 have L4 := (L3.kp [2, 3, 4] rfl)
 refine Zu (E0 := []) (H0 := [(b3, 34, zI1)]) (n := 9) mixed 3 [] (fun k => 0) (Zce [
   .is (.agg (c_a : List Value).toArray),
   .is (.agg (c_b : List Value).toArray),
   (kvIn (-b) (k_b))]) L4 R3 (by simp) (by simp) (by rfl) (by rfl) (by simp) (ZU ?_) ?_
 ·refine (And.intro ?_ (And.intro ?_ (And.intro ?_ trivial)))
  ·exact Zb rfl (fun _ _ _ _ _ A1 => (Zx A1.live rfl XI Yt (A1.run.row (r1.up (l2.trans A1.le))) h_a.len (A1.same rfl)))
  ·exact Zb rfl (fun _ _ _ _ _ A2 => (Zx A2.live rfl XI Yt (A2.run.row (r2.up A2.le)) h_b.len (A2.same rfl)))
  ·refine Zb rfl (fun _ _ _ _ _ A3 => ?_)
   obtain ⟨_, e1, rfl⟩ := A3.known 1 rfl
   exact Zl (A3.live.add e1) rfl ent_85 (whole_Neg A3.run.holds (h_b.up (l1.trans (l2.trans A3.le))) ) fun v_1 _ _ x1 v1 => (A3.post x1.le (A3.run.call x1) v1)
 ·intro S7 _ _ w8 l4 E1 R5 n1 L8 K1
  obtain ⟨_, e2, rfl⟩ := K1 0 (by decide)
  have L9 := L8.add e2; clear L8
  obtain ⟨_, e3, c1, rfl, h1⟩ := K1 2 (by decide)
  have L10 := L9.add e3; clear L9
  have R6 : Run _ _ S7 [(b3, 34, zI1)] w8 := Yh R5 n1 [] (by simp) (by simp)
  refine so L10 rfl (Zl L10 rfl ent_89 (whole_Add R6.holds (h_a.up (l1.trans (l2.trans l4))) h1 (by omega) (by omega)) fun v_2 _ _ x2 v2 => ?_)
  have R7 := R6.call x2
  obtain ⟨c2, rfl, h2⟩ := v2
  intro _ L11
  exact Zs L11 rfl rfl (Zi L11 rfl rfl R7 Yt h2.len rfl h2.ones fun _ R8 _ L12 => (sn (wp_ret ((Zo (rs := Tryz.f146.results.toList) (L12.kp [4] rfl) rfl (Res.aggW rfl XI Yt (R8.has (List.Mem.head _)) h2.len Res.nil) (⟨_, _, rfl, R8.ext, ⟨_, rfl, (h2.to (by omega) (by omega))⟩⟩))))))
set_option maxRecDepth 20000 in
theorem whole_Mul {S : Sh} {w : World} (hS : Ya S w) {c_a : List Value} {a : Int} {k_a : Nat} (h_a : In S c_a (a) (k_a)) {c_b : List Value} {b : Int} {k_b : Nat} (h_b : In S c_b (b) (k_b)) (hlim : k_a ≤ 1099511000000) (hlim2 : k_b ≤ 1099511000000) : Calls Tryz.prog 81 [(.agg (c_a : List Value).toArray), (.agg (c_b : List Value).toArray)].toArray w (Ret S w (fun S v => ∃ (c0 : List Value), v = .agg c0.toArray ∧ In S c0 (a * b) (k_a + k_b))) := by
 refine ZK (n := 16) Tryz.func81 rfl rfl ?_
 intro ac0 L0
 replace L0 : Zt ac0 16 [(0, (.agg (c_a : List Value).toArray)), (1, (.agg (c_b : List Value).toArray))] := L0
 have R0 : Run S w S [] w := .start hS
 refine wp_seq (Za (so L0 rfl (ZN (cs := c_a) L0 rfl R0 rfl ?_)))
 intro b1 _ _ l1 r1 R1 _ L1
 refine so L1 rfl (ZN (cs := c_b) L1 rfl R1 rfl fun b2 _ _ l2 r2 R2 _ L2 => so L2 rfl (ZG (cs := zI1) Qb R2 rfl fun b3 _ R3 _ L3 => sn (wp_seq ?_)))
 have L4 := (L3.kp [2, 3, 4] rfl)
 refine Zu (E0 := []) (H0 := [(b3, 34, zI1)]) (n := 16) mixed 10 [] (fun k => 0) (Zce [
   .is (.pointer (some ⟨b1, 0, none⟩)),
   .is (.bool (decide (a < 0))),
   .is (.pointer (some ⟨b2, 0, none⟩)),
   .is (.bool (decide (b < 0))),
   .is (.bool (decide (¬ (decide (a < 0)) = (decide (b < 0))))),
   .is (.pointer (some ⟨b1, 1, none⟩)),
   (kvNa (a.natAbs) (k_a)),
   .is (.pointer (some ⟨b2, 1, none⟩)),
   (kvNa (b.natAbs) (k_b)),
   (kvNa (a.natAbs * b.natAbs) (k_a + k_b))]) L4 R3 (by simp) (by simp) (by rfl) (by rfl) (by simp) (ZU ?_) ?_
 ·refine (And.intro ?_ (And.intro ?_ (And.intro ?_ (And.intro ?_ (And.intro ?_ (And.intro ?_ (And.intro ?_ (And.intro ?_ (And.intro ?_ (And.intro ?_ trivial))))))))))
  ·exact Zb rfl (fun _ _ _ _ _ A1 => (Zd (off' := 0) A1.live rfl Yc rfl (A1.same rfl)))
  ·refine Zb rfl (fun _ _ _ _ _ A2 => ?_)
   obtain ⟨_, e1, rfl⟩ := A2.known 0 rfl
   exact Zg (A2.live.add e1) rfl Zaq (A2.run.row (r1.up (l2.trans A2.le))) h_a.sign (A2.same rfl)
  ·exact Zb rfl (fun _ _ _ _ _ A3 => (Zd (off' := 0) A3.live rfl Yc rfl (A3.same rfl)))
  ·refine Zb rfl (fun _ _ _ _ _ A4 => ?_)
   obtain ⟨_, e2, rfl⟩ := A4.known 2 rfl
   exact Zg (A4.live.add e2) rfl Zaq (A4.run.row (r2.up A4.le)) h_b.sign (A4.same rfl)
  ·refine Zb rfl (fun _ _ _ _ _ A5 => ?_)
   obtain ⟨_, e3, rfl⟩ := A5.known 1 rfl
   obtain ⟨_, e4, rfl⟩ := A5.known 3 rfl
   exact does_neqB ((A5.live.add e3).add e4) rfl rfl Tryz.underlying4 (A5.same rfl)
  ·exact Zb rfl (fun _ _ _ _ _ A6 => (Zd (off' := 1) A6.live rfl Yi rfl (A6.same rfl)))
  ·refine Zb rfl (fun _ _ _ _ _ A7 => ?_)
   obtain ⟨_, e5, rfl⟩ := A7.known 5 rfl
   obtain ⟨c1, e6, h1⟩ := (h_a.up (l1.trans (l2.trans A7.le))).abs
   exact Yl (A7.live.add e5) rfl ZE Zk (A7.run.row (r1.up (l2.trans A7.le))) e6 h1.len (A7.same ⟨_, rfl, h1⟩)
  ·exact Zb rfl (fun _ _ _ _ _ A8 => (Zd (off' := 1) A8.live rfl Yi rfl (A8.same rfl)))
  ·refine Zb rfl (fun _ _ _ _ _ A9 => ?_)
   obtain ⟨_, e7, rfl⟩ := A9.known 7 rfl
   obtain ⟨c2, e8, h2⟩ := (h_b.up (l1.trans (l2.trans A9.le))).abs
   exact Yl (A9.live.add e7) rfl ZE Zk (A9.run.row (r2.up A9.le)) e8 h2.len (A9.same ⟨_, rfl, h2⟩)
  ·refine Zb rfl (fun _ _ _ _ _ A10 => ?_)
   obtain ⟨_, e9, c3, rfl, h3⟩ := A10.known 6 rfl
   obtain ⟨_, e10, c4, rfl, h4⟩ := A10.known 8 rfl
   exact Zl ((A10.live.add e9).add e10) rfl ent_80 (nat_Mul A10.run.holds h3 h4 (by omega) (by omega)) fun v_1 _ _ x1 v1 => (A10.post x1.le (A10.run.call x1) v1)
 ·intro S14 _ _ w15 l4 E1 R5 n1 L15 K1
  obtain ⟨_, e11, rfl⟩ := K1 4 (by decide)
  have L16 := L15.add e11; clear L15
  obtain ⟨_, e12, c5, rfl, h5⟩ := K1 9 (by decide)
  have L17 := L16.add e12; clear L16
  have R6 : Run _ _ S14 [(b3, 34, zI1)] w15 := Yh R5 n1 [] (by simp) (by simp)
  refine so L17 rfl (Zl L17 rfl Zen (Xa R6.holds (mi := (decide (¬ (decide (a < 0)) = (decide (b < 0))))) h5 ) fun v_2 _ _ x2 v2 => ?_)
  have R7 := R6.call x2
  obtain ⟨c6, rfl, h6⟩ := v2
  intro _ L18
  exact Zs L18 rfl rfl (Zi L18 rfl rfl R7 Yt h6.len rfl h6.ones fun _ R8 _ L19 => (sn (wp_ret ((Zo (rs := Tryz.f81.results.toList) (L19.kp [4] rfl) rfl (Res.aggW rfl XI Yt (R8.has (List.Mem.head _)) h6.len Res.nil) (⟨_, _, rfl, R8.ext, ⟨_, rfl, (h6.to (by exact mul_sI) (by omega))⟩⟩))))))
set_option maxRecDepth 20000 in
theorem whole_Cmp {S : Sh} {w : World} (hS : Ya S w) {c_a : List Value} {a : Int} {k_a : Nat} (h_a : In S c_a (a) (k_a)) {c_b : List Value} {b : Int} {k_b : Nat} (h_b : In S c_b (b) (k_b)) : Calls Tryz.prog 124 [(.agg (c_a : List Value).toArray), (.agg (c_b : List Value).toArray)].toArray w (Ret S w (fun S v => v = .int .i64 (cmpZ a b))) := by
 refine ZK (n := 28) Tryz.func124 rfl rfl ?_
 intro ac0 L0
 replace L0 : Zt ac0 28 [(0, (.agg (c_a : List Value).toArray)), (1, (.agg (c_b : List Value).toArray))] := L0
 have R0 : Run S w S [] w := .start hS
 rcases h_a.cases with ⟨u_a, v_a, m_a, rfl, hn_a, hz_a, hp_a⟩ | ⟨u_a, v_a, m_a, rfl, hn_a, hz_a⟩
 ·rcases h_b.cases with ⟨u_b, v_b, m_b, rfl, hn_b, hz_b, hp_b⟩ | ⟨u_b, v_b, m_b, rfl, hn_b, hz_b⟩
  ·refine wp_seq (Za (so L0 rfl (ZN (cs := [(.bool true), u_a, v_a]) L0 rfl R0 rfl ?_)))
   intro b1 _ _ l1 r1 R1 _ L1
   refine so L1 rfl (ZN (cs := [(.bool true), u_b, v_b]) L1 rfl R1 rfl fun b2 _ _ l2 r2 R2 _ L2 => sa L2 rfl fun _ L3 => sn (wp_seq (wp_block (wp_seq (Za (so L3 rfl (Zd (off' := 0) L3 rfl Yc rfl fun _ L4 => so L4 rfl (Zg L4 rfl Zaq (R2.row (r1.up l2)) rfl fun _ L5 => ?_))))))))
   refine sm L5 rfl fun _ L6 => son L6 rfl (Zd (off' := 0) L6 rfl Yc rfl fun _ L7 => son L7 rfl (Zg L7 rfl Zaq (R2.row r2) rfl fun _ L8 => so L8 rfl (Zj L8 rfl rfl fun _ L9 => sa L9 rfl fun _ L10 => ?_)))
   have L11 := (L10.kp [2, 3, 4, 5] rfl); clear L10
   refine sn (Zp L11 rfl rfl (wp_seq (Za (so L11 rfl (Zd (off' := 1) L11 rfl Yi rfl ?_)))))
   intro _ L12
   refine so L12 rfl (Yl L12 rfl ZE Zk (R2.row r2) (show _ = [u_b, v_b] from rfl) rfl fun _ L13 => so L13 rfl (Zd (off' := 1) L13 rfl Yi rfl fun _ L14 => so L14 rfl (Yl L14 rfl ZE Zk (R2.row (r1.up l2)) (show _ = [u_a, v_a] from rfl) rfl fun _ L15 => so L15 rfl (Zl L15 rfl ent_133 (nat_Cmp R2.holds (hn_b.up (l1.trans l2)) (hn_a.up (l1.trans l2)) ) fun v_1 _ _ x1 v1 => ?_))))
   have R3 := R2.call x1
   obtain rfl := v1
   intro _ L16
   exact sa L16 rfl fun _ L17 => sn (wp_ret ((Yz (Zy (Zo (rs := Tryz.f124.results.toList) (L17.kp [2, 3, 4] rfl) rfl (.tmp rfl Res.nil) (⟨_, _, rfl, R3.ext, (by exact Zbv (by rw [← cmpZ_neg (by omega) (by omega)]; congr 1 <;> omega))⟩))))))
  ·refine wp_seq (Za (so L0 rfl (ZN (cs := [(.bool true), u_a, v_a]) L0 rfl R0 rfl ?_)))
   intro b3 _ _ l4 r3 R4 _ L19
   refine so L19 rfl (ZN (cs := [(.bool false), u_b, v_b]) L19 rfl R4 rfl fun b4 _ _ l5 r4 R5 _ L20 => sa L20 rfl fun _ L21 => sn (wp_seq (wp_block (wp_seq (Za (so L21 rfl (Zd (off' := 0) L21 rfl Yc rfl fun _ L22 => so L22 rfl (Zg L22 rfl Zaq (R5.row (r3.up l5)) rfl fun _ L23 => ?_))))))))
   refine sm L23 rfl fun _ L24 => son L24 rfl (Zd (off' := 0) L24 rfl Yc rfl fun _ L25 => son L25 rfl (Zg L25 rfl Zaq (R5.row r4) rfl fun _ L26 => so L26 rfl (Zj L26 rfl rfl fun _ L27 => sa L27 rfl fun _ L28 => ?_)))
   have L29 := (L28.kp [2, 3, 4, 5] rfl); clear L28
   refine sn (Zm L29 rfl rfl (wp_seq (Za (so L29 rfl (Zd (off' := 0) L29 rfl Yc rfl ?_)))))
   intro _ L30
   exact so L30 rfl (Zg L30 rfl Zaq (R5.row (r3.up l5)) rfl fun _ L31 => sa L31 rfl fun _ L32 => sn (Zp L32 rfl rfl (wp_seq (Za (sa L32 rfl fun _ L33 => sn (wp_ret ((Yz (Zy (Zo (rs := Tryz.f124.results.toList) L33 rfl (.tmp rfl Res.nil) (⟨_, _, rfl, R5.ext, (by exact Zbv (cmpZ_np (by omega) (by omega)).symm)⟩)))))))))))
 ·rcases h_b.cases with ⟨u_b, v_b, m_b, rfl, hn_b, hz_b, hp_b⟩ | ⟨u_b, v_b, m_b, rfl, hn_b, hz_b⟩
  ·refine wp_seq (Za (so L0 rfl (ZN (cs := [(.bool false), u_a, v_a]) L0 rfl R0 rfl ?_)))
   intro b5 _ _ l6 r5 R6 _ L34
   refine so L34 rfl (ZN (cs := [(.bool true), u_b, v_b]) L34 rfl R6 rfl fun b6 _ _ l7 r6 R7 _ L35 => sa L35 rfl fun _ L36 => sn (wp_seq (wp_block (wp_seq (Za (so L36 rfl (Zd (off' := 0) L36 rfl Yc rfl fun _ L37 => so L37 rfl (Zg L37 rfl Zaq (R7.row (r5.up l7)) rfl fun _ L38 => ?_))))))))
   refine sm L38 rfl fun _ L39 => sof L39 rfl fun _ L40 => sof L40 rfl fun _ L41 => so L41 rfl (Zj L41 rfl rfl fun _ L42 => sa L42 rfl fun _ L43 => ?_)
   have L44 := (L43.kp [2, 3, 4, 5] rfl); clear L43
   refine sn (Zm L44 rfl rfl (wp_seq (Za (so L44 rfl (Zd (off' := 0) L44 rfl Yc rfl ?_)))))
   intro _ L45
   refine so L45 rfl (Zg L45 rfl Zaq (R7.row (r5.up l7)) rfl fun _ L46 => sa L46 rfl fun _ L47 => sn (Zm L47 rfl rfl (wp_seq (Za (so L47 rfl (Zd (off' := 0) L47 rfl Yc rfl fun _ L48 => so L48 rfl (Zg L48 rfl Zaq (R7.row r6) rfl fun _ L49 => sa L49 rfl fun _ L50 => ?_)))))))
   have L51 := (L50.kp [2, 3, 4, 20] rfl); clear L50
   refine sn (Zp L51 rfl rfl (wp_seq (Za (sa L51 rfl ?_))))
   intro _ L52
   exact sn (wp_ret ((Yz (Zy (Zo (rs := Tryz.f124.results.toList) L52 rfl (.tmp rfl Res.nil) (⟨_, _, rfl, R7.ext, (by exact Zbv (cmpZ_pn (by omega) (by omega)).symm)⟩))))))
  ·refine wp_seq (Za (so L0 rfl (ZN (cs := [(.bool false), u_a, v_a]) L0 rfl R0 rfl ?_)))
   intro b7 _ _ l8 r7 R8 _ L53
   refine so L53 rfl (ZN (cs := [(.bool false), u_b, v_b]) L53 rfl R8 rfl fun b8 _ _ l9 r8 R9 _ L54 => sa L54 rfl fun _ L55 => sn (wp_seq (wp_block (wp_seq (Za (so L55 rfl (Zd (off' := 0) L55 rfl Yc rfl fun _ L56 => so L56 rfl (Zg L56 rfl Zaq (R9.row (r7.up l9)) rfl fun _ L57 => ?_))))))))
   refine sm L57 rfl fun _ L58 => sof L58 rfl fun _ L59 => sof L59 rfl fun _ L60 => so L60 rfl (Zj L60 rfl rfl fun _ L61 => sa L61 rfl fun _ L62 => ?_)
   have L63 := (L62.kp [2, 3, 4, 5] rfl); clear L62
   refine sn (Zm L63 rfl rfl (wp_seq (Za (so L63 rfl (Zd (off' := 0) L63 rfl Yc rfl ?_)))))
   intro _ L64
   refine so L64 rfl (Zg L64 rfl Zaq (R9.row (r7.up l9)) rfl fun _ L65 => sa L65 rfl fun _ L66 => sn (Zm L66 rfl rfl (wp_seq (Za (so L66 rfl (Zd (off' := 0) L66 rfl Yc rfl fun _ L67 => so L67 rfl (Zg L67 rfl Zaq (R9.row r8) rfl fun _ L68 => sa L68 rfl fun _ L69 => ?_)))))))
   have L70 := (L69.kp [2, 3, 4, 20] rfl); clear L69
   refine sn (Zm L70 rfl rfl (wp_skip ((ZI (Zc (wp_seq (Za (so L70 rfl (Zd (off' := 1) L70 rfl Yi rfl ?_)))))))))
   intro _ L71
   refine so L71 rfl (Yl L71 rfl ZE Zk (R9.row (r7.up l9)) (show _ = [u_a, v_a] from rfl) rfl fun _ L72 => so L72 rfl (Zd (off' := 1) L72 rfl Yi rfl fun _ L73 => so L73 rfl (Yl L73 rfl ZE Zk (R9.row r8) (show _ = [u_b, v_b] from rfl) rfl fun _ L74 => so L74 rfl (Zl L74 rfl ent_133 (nat_Cmp R9.holds (hn_a.up (l8.trans l9)) (hn_b.up (l8.trans l9)) ) fun v_2 _ _ x2 v2 => ?_))))
   have R10 := R9.call x2
   obtain rfl := v2
   intro _ L75
   exact sa L75 rfl fun _ L76 => sn (wp_ret ((Zo (rs := Tryz.f124.results.toList) (L76.kp [4] rfl) rfl (.tmp rfl Res.nil) (⟨_, _, rfl, R10.ext, (by exact Zbv (by rw [← cmpZ_nn (by omega) (by omega)]; congr 1 <;> omega))⟩))))
set_option maxRecDepth 20000 in
theorem Zc9 {S : Sh} {w : World} (hS : Ya S w) {c_a : List Value} {a : Int} {k_a : Nat} (h_a : In S c_a (a) (k_a)) (hlim : k_a ≤ 1099511000000) : Calls Tryz.prog 117 [(.agg (c_a : List Value).toArray)].toArray w (Ret S w (fun S v => v = .string (YJ (ztxt a)))) := by
 refine ZK (n := 12) Tryz.func117 rfl rfl ?_
 intro ac0 L0
 replace L0 : Zt ac0 12 [(0, (.agg (c_a : List Value).toArray))] := L0
 have R0 : Run S w S [] w := .start hS
 refine wp_seq (Za (so L0 rfl (ZN (cs := c_a) L0 rfl R0 rfl ?_)))
 intro b1 _ _ l1 r1 R1 _ L1
 refine sa L1 rfl fun _ L2 => sn (wp_seq (wp_seq (Za (so L2 rfl (Zd (off' := 0) L2 rfl Yc rfl fun _ L3 => so L3 rfl (Zg L3 rfl Zaq (R1.row r1) h_a.sign fun _ L4 => sn ?_))))))
 by_cases t1 : a < 0
 ·refine Zp L4 rfl (decide_eq_true t1) (wp_seq (Za (so L4 rfl (Zd (off' := 1) L4 rfl Yi rfl ?_))))
  intro _ L5
  obtain ⟨c1, e1, h1⟩ := (h_a.up l1).abs
  refine so L5 rfl (Yl L5 rfl ZE Zk (R1.row r1) e1 h1.len fun _ L6 => so L6 rfl (Zl L6 rfl ent_118 (Zag R1.holds h1 (by omega)) fun v_1 _ _ x1 v1 => ?_))
  have R2 := R1.call x1
  obtain rfl := v1
  intro _ L7
  exact so L7 rfl (Zbm (z := ((⟨#[45]⟩ : ByteArray) ++ (txt a.natAbs))) L7 rfl rfl (by rw [txt_size]; have q := Zbn h_a.le; (show 1 + _ ≤ _); omega) rfl fun _ L8 => sa L8 rfl fun _ L9 => sn (wp_ret ((Zy (Zo (rs := Tryz.f117.results.toList) (L9.kp [1, 2] rfl) rfl (.tmp rfl Res.nil) (⟨_, _, rfl, R2.ext, (by exact congrArg Value.string (ztxt_neg (by assumption)))⟩))))))
 ·refine Zm L4 rfl (decide_eq_false t1) (wp_skip ((Zc (wp_seq (Za (so L4 rfl (Zd (off' := 1) L4 rfl Yi rfl ?_)))))))
  intro _ L11
  obtain ⟨c2, e2, h2⟩ := (h_a.up l1).abs
  refine so L11 rfl (Yl L11 rfl ZE Zk (R1.row r1) e2 h2.len fun _ L12 => so L12 rfl (Zl L12 rfl ent_118 (Zag R1.holds h2 (by omega)) fun v_2 _ _ x2 v2 => ?_))
  have R3 := R1.call x2
  obtain rfl := v2
  intro _ L13
  exact sa L13 rfl fun _ L14 => sn (wp_ret ((Zo (rs := Tryz.f117.results.toList) (L14.kp [2] rfl) rfl (.tmp rfl Res.nil) (⟨_, _, rfl, R3.ext, (by exact congrArg Value.string (ztxt_nn (by assumption)))⟩))))
end Go.Cham
namespace Go.Cham
open Go Go.RowKit Go.Proofs
theorem XE : aggT Tryz.prog 36 = some true := by kernel_rfl
theorem Yf : Yu Tryz.prog 36 = some 5 := by kernel_rfl
theorem Xm : QH Tryz.prog 36 = some (.agg ([(.bool false), (.int .u64 (0 : Int)), (.slice none 0 0), (.int .u64 (0 : Int)), (.slice none 0 0)] : List Value).toArray) := by kernel_rfl
theorem QU : QY Tryz.prog 36 0 = some (0, 34, 3) := by kernel_rfl
theorem field_36_1 : QY Tryz.prog 36 1 = some (3, 32, 2) := by kernel_rfl
theorem Qq : Zci Tryz.prog 36 = true := by kernel_rfl
theorem ent_78 : ZW Tryz.prog 78 = true := by kernel_rfl
theorem ent_79 : ZW Tryz.prog 79 = true := by kernel_rfl
theorem ent_84 : ZW Tryz.prog 84 = true := by kernel_rfl
theorem ent_90 : ZW Tryz.prog 90 = true := by kernel_rfl
theorem ent_138 : ZW Tryz.prog 138 = true := by kernel_rfl
end Go.Cham
namespace Go.Cham
open Go Go.RowKit Go.Proofs
set_option maxRecDepth 20000 in
theorem frac_one {S : Sh} {w : World} (hS : Ya S w) : Calls Tryz.prog 138 [].toArray w (Ret S w (fun S v => ∃ (c0 : List Value), v = .agg c0.toArray ∧ Na S c0 (1) (64))) := by
 refine ZK (n := 2) Tryz.func138 rfl rfl ?_
 intro ac0 L0
 replace L0 : Zt ac0 2 [] := L0
 have R0 : Run S w S [] w := .start hS
 refine wp_seq (Za (so L0 rfl (ZG (cs := zN1) ZO R0 rfl ?_)))
 intro b1 _ R1 _ L1
 refine sn (wp_seq (Za (so L1 rfl (Zl L1 rfl ent_76 (nat_Of R1.holds (n := 1) (by omega)) ?_))))
 intro v_1 _ _ x1 v1
 have R2 := R1.call x1
 obtain ⟨c1, rfl, h1⟩ := v1
 intro _ L2
 exact Zs L2 rfl rfl (Zi L2 rfl rfl R2 Zk h1.len rfl h1.ones fun _ R3 _ L3 => (sn (wp_ret ((Zo (rs := Tryz.f138.results.toList) L3 rfl (Res.aggW rfl ZE Zk (R3.has (List.Mem.head _)) h1.len Res.nil) (⟨_, _, rfl, R3.ext, ⟨_, rfl, (h1.to rfl (by omega))⟩⟩))))))
set_option maxRecDepth 20000 in
theorem frac_Of {S : Sh} {w : World} (hS : Ya S w) {c_a : List Value} {a : Int} {k_a : Nat} (h_a : In S c_a (a) (k_a)) : Calls Tryz.prog 86 [(.agg (c_a : List Value).toArray)].toArray w (Ret S w (fun S v => ∃ (c0 : List Value), v = .agg c0.toArray ∧ Fs S c0 [((a : Int) : Rat)] (k_a))) := by
 refine ZK (n := 5) Tryz.func86 rfl rfl ?_
 intro ac0 L0
 replace L0 : Zt ac0 5 [(0, (.agg (c_a : List Value).toArray))] := L0
 have R0 : Run S w S [] w := .start hS
 refine wp_seq (Za (so L0 rfl (ZN (cs := c_a) L0 rfl R0 rfl ?_)))
 intro b1 S1 _ l1 r1 R1 _ L1
 refine so L1 rfl (ZG (cs := zF1) Xm R1 rfl fun b2 _ R2 _ L2 => sn (wp_seq (Za (so L2 rfl (Zx L2 rfl XI Yt (R2.row r1) h_a.len fun _ L3 => ?_)))))
 have h1 : Fs S1 (c_a ++ zN1) [((a : Int) : Rat)] (k_a) := Fs.ofInt (h_a.up l1)
 obtain ⟨c1, e1⟩ : ∃ cs : List Value, (c_a ++ zN1) = cs := ⟨_, rfl⟩
 rw [e1] at h1
 exact so L3 rfl (ZC (cs := c1) L3 Xm Qq (.cons rfl QU h_a.len (by decide) .nil) (by rw [← e1]; simp [XY, YU, Value.cells, h_a.len]) fun _ L4 => Zs L4 rfl rfl (Zi L4 rfl rfl R2 Yf h1.len rfl h1.ones fun _ R3 _ L5 => sn (wp_ret ((Zo (rs := Tryz.f86.results.toList) L5 rfl (Res.aggW rfl XE Yf (R3.has (List.Mem.head _)) h1.len Res.nil) (⟨_, _, rfl, R3.ext, ⟨_, rfl, (h1.to rfl (by omega))⟩⟩))))))
set_option maxRecDepth 20000 in
theorem frac_Int {S : Sh} {w : World} (hS : Ya S w) {n : Int} (hn1 : -9223372036854775808 ≤ n) (hn2 : n ≤ 9223372036854775807) : Calls Tryz.prog 27 [(.int .i64 n)].toArray w (Ret S w (fun S v => ∃ (c0 : List Value), v = .agg c0.toArray ∧ Fs S c0 [((n : Int) : Rat)] (64))) := by
 refine ZK (n := 6) Tryz.func27 rfl rfl ?_
 intro ac0 L0
 replace L0 : Zt ac0 6 [(0, (.int .i64 n))] := L0
 have R0 : Run S w S [] w := .start hS
 refine wp_seq (Za (so L0 rfl (ZG (cs := zF1) Xm R0 rfl ?_)))
 intro b1 _ R1 _ L1
 refine sn (wp_seq (Za (sm L1 rfl ?_)))
 intro _ L2
 refine so L2 rfl (Zl L2 rfl ent_90 (whole_Of R1.holds (n := n) (by omega) (by omega)) fun v_1 S1 _ x1 v1 => ?_)
 have R2 := R1.call x1
 obtain ⟨c1, rfl, h1⟩ := v1
 intro _ L3
 have h2 : Fs S1 (c1 ++ zN1) [((n : Int) : Rat)] (64) := Fs.ofInt h1
 obtain ⟨c2, e1⟩ : ∃ cs : List Value, (c1 ++ zN1) = cs := ⟨_, rfl⟩
 rw [e1] at h2
 exact so L3 rfl (ZC (cs := c2) L3 Xm Qq (.cons rfl QU h1.len (by decide) .nil) (by rw [← e1]; simp [XY, YU, Value.cells, h1.len]) fun _ L4 => Zs L4 rfl rfl (Zi L4 rfl rfl R2 Yf h2.len rfl h2.ones fun _ R3 _ L5 => sn (wp_ret ((Zo (rs := Tryz.f27.results.toList) L5 rfl (Res.aggW rfl XE Yf (R3.has (List.Mem.head _)) h2.len Res.nil) (⟨_, _, rfl, R3.ext, ⟨_, rfl, (h2.to rfl (by omega))⟩⟩))))))
set_option maxRecDepth 20000 in
theorem frac_Frac_Num {S : Sh} {w : World} (hS : Ya S w) {c_a : List Value} {a : Rat} {k_a : Nat} (h_a : Fs S c_a [a] (k_a)) : Calls Tryz.prog 66 [(.agg (c_a : List Value).toArray)].toArray w (Ret S w (fun S v => ∃ (c0 : List Value), v = .agg c0.toArray ∧ In S c0 (a.num) (k_a))) := by
 refine ZK (n := 5) Tryz.func66 rfl rfl ?_
 intro ac0 L0
 replace L0 : Zt ac0 5 [(0, (.agg (c_a : List Value).toArray))] := L0
 have R0 : Run S w S [] w := .start hS
 refine wp_seq (Za (so L0 rfl (ZN (cs := c_a) L0 rfl R0 rfl ?_)))
 intro b1 _ _ l1 r1 R1 _ L1
 refine so L1 rfl (ZG (cs := zI1) Qb R1 rfl fun b2 _ R2 _ L2 => sn (wp_seq (Za (so L2 rfl (Zd (off' := 0) L2 rfl QU rfl fun _ L3 => ?_)))))
 obtain ⟨c1, e1, h1⟩ := (h_a.up l1).num
 exact so L3 rfl (Yl L3 rfl XI Yt (R2.row r1) e1 h1.len fun _ L4 => Zs L4 rfl rfl (Zi L4 rfl rfl R2 Yt h1.len rfl h1.ones fun _ R3 _ L5 => sn (wp_ret ((Zo (rs := Tryz.f66.results.toList) L5 rfl (Res.aggW rfl XI Yt (R3.has (List.Mem.head _)) h1.len Res.nil) (⟨_, _, rfl, R3.ext, ⟨_, rfl, (h1.to rfl (by omega))⟩⟩))))))
set_option maxRecDepth 20000 in
theorem Zek {S : Sh} {w : World} (hS : Ya S w) {c_a : List Value} {a : Rat} {k_a : Nat} (h_a : Fs S c_a [a] (k_a)) (hlim : k_a ≤ 1099511000000) : Calls Tryz.prog 78 [(.agg (c_a : List Value).toArray)].toArray w (Ret S w (fun S v => ∃ (c0 : List Value), v = .agg c0.toArray ∧ Na S c0 (a.den) (k_a))) := by
 refine ZK (n := 7) Tryz.func78 rfl rfl ?_
 intro ac0 L0
 replace L0 : Zt ac0 7 [(0, (.agg (c_a : List Value).toArray))] := L0
 have R0 : Run S w S [] w := .start hS
 refine wp_seq (Za (so L0 rfl (ZN (cs := c_a) L0 rfl R0 rfl ?_)))
 intro b1 _ _ l1 r1 R1 _ L1
 refine so L1 rfl (ZG (cs := zN1) ZO R1 rfl fun b2 _ R2 _ L2 => sn (wp_seq ?_))
 have L3 := (L2.kp [1, 2] rfl)
 refine Zu (E0 := []) (H0 := [(b2, 32, zN1)]) (n := 7) mixed 3 [] (fun k => 0) (Zce [
   .is (.pointer (some ⟨b1, 3, none⟩)),
   (kvNa (a.den - 1) (k_a)),
   (kvNa (1) (64))]) L3 R2 (by simp) (by simp) (by rfl) (by rfl) (by simp) (ZU ?_) ?_
 ·refine (And.intro ?_ (And.intro ?_ (And.intro ?_ trivial)))
  ·exact Zb rfl (fun _ _ _ _ _ A1 => (Zd (off' := 3) A1.live rfl field_36_1 rfl (A1.same rfl)))
  ·refine Zb rfl (fun _ _ _ _ _ A2 => ?_)
   obtain ⟨_, e1, rfl⟩ := A2.known 0 rfl
   obtain ⟨c1, e2, h1⟩ := (h_a.up (l1.trans A2.le)).less
   exact Yl (A2.live.add e1) rfl ZE Zk (A2.run.row (r1.up A2.le)) e2 h1.len (A2.same ⟨_, rfl, h1⟩)
  ·refine Zb rfl (fun _ _ _ _ _ A3 => (Zl A3.live rfl ent_138 (frac_one A3.run.holds ) ?_))
   intro v_1 _ _ x1 v1
   exact A3.post x1.le (A3.run.call x1) v1
 ·intro S6 _ _ w7 l3 E1 R4 n1 L7 K1
  obtain ⟨_, e3, c2, rfl, h2⟩ := K1 1 (by decide)
  have L8 := L7.add e3; clear L7
  obtain ⟨_, e4, c3, rfl, h3⟩ := K1 2 (by decide)
  have L9 := L8.add e4; clear L8
  have R5 : Run _ _ S6 [(b2, 32, zN1)] w7 := Yh R4 n1 [] (by simp) (by simp)
  refine so L9 rfl (Zl L9 rfl ent_137 (nat_Add R5.holds h2 h3 (by omega) (by omega)) fun v_2 _ _ x2 v2 => ?_)
  have R6 := R5.call x2
  obtain ⟨c4, rfl, h4⟩ := v2
  intro _ L10
  exact Zs L10 rfl rfl (Zi L10 rfl rfl R6 Zk h4.len rfl h4.ones fun _ R7 _ L11 => (sn (wp_ret ((Zo (rs := Tryz.f78.results.toList) L11 rfl (Res.aggW rfl ZE Zk (R7.has (List.Mem.head _)) h4.len Res.nil) (⟨_, _, rfl, R7.ext, ⟨_, rfl, (h4.toR (by have q := a.den_pos; omega) (by exact h_a.den_le))⟩⟩))))))
set_option maxRecDepth 20000 in
theorem frac_Frac_Sign {S : Sh} {w : World} (hS : Ya S w) {c_a : List Value} {a : Rat} {k_a : Nat} (h_a : Fs S c_a [a] (k_a)) : Calls Tryz.prog 45 [(.agg (c_a : List Value).toArray)].toArray w (Ret S w (fun S v => v = .int .i64 (Yx a.num))) := by
 refine ZK (n := 6) Tryz.func45 rfl rfl ?_
 intro ac0 L0
 replace L0 : Zt ac0 6 [(0, (.agg (c_a : List Value).toArray))] := L0
 have R0 : Run S w S [] w := .start hS
 refine wp_seq (Za (so L0 rfl (ZN (cs := c_a) L0 rfl R0 rfl ?_)))
 intro b1 _ _ l1 r1 R1 _ L1
 refine sa L1 rfl fun _ L2 => sn (wp_seq (Za (so L2 rfl (Zd (off' := 0) L2 rfl QU rfl fun _ L3 => ?_))))
 obtain ⟨c1, e1, h1⟩ := (h_a.up l1).num
 refine so L3 rfl (Yl L3 rfl XI Yt (R1.row r1) e1 h1.len fun _ L4 => so L4 rfl (Zl L4 rfl ent_84 (Ql R1.holds h1 ) fun v_1 _ _ x1 v1 => ?_))
 have R2 := R1.call x1
 obtain rfl := v1
 intro _ L5
 exact sa L5 rfl fun _ L6 => sn (wp_ret ((Zo (rs := Tryz.f45.results.toList) (L6.kp [2] rfl) rfl (.tmp rfl Res.nil) (⟨_, _, rfl, R2.ext, rfl⟩))))
end Go.Cham
namespace Go.Cham
open Go Go.RowKit Go.Proofs
noncomputable section
section
variable {T : Tb} {K : Nat} {base ρ : Nat → AV} {bd : Nat → Nat} {T0 : Tb} {hT : Cs T0 ρ} {P : Program} {f : FuncId} {op lim e t : Nat}
theorem sum1 {a e k : Nat} (h : [a].sum + e ≤ k) : a + e ≤ k := by simpa using h
theorem sum2 {a b e k : Nat} (h : [a, b].sum + e ≤ k) : a + b + e ≤ k := by simpa using h
theorem pQQ (hg : YB T K base ρ bd) (he : ZW P f = true) (ho : 10 < op) {F : Rat → Rat → Rat} (hs : ∀ x y, semL op [x, y] = .q (F x.rat y.rat))
    (h : ∀ {S : Sh} {w : World} {c d : List Value} {a b : Rat} {k l : Nat}, Ya S w → Fs S c [a] k → Fs S d [b] l → k ≤ lim → l ≤ lim → Calls P f [.agg c.toArray, .agg d.toArray].toArray w (Ret S w fun S v => ∃ c0 : List Value, v = .agg c0.toArray ∧ Fs S c0 [F a b] (k + l + e))) : Xp P (DS hT bd) f (pO T [2, 2] op lim e) := by
  refine pO_ok hg he ho fun S w vs xs ks k hS hr hl hk => ?_
  obtain ⟨x, k1, v, x', k2, v', rfl, rfl, rfl, h1, h2, h3, h4⟩ := hr.two
  obtain ⟨c, rfl, h5⟩ := h2.q h1
  obtain ⟨d, rfl, h6⟩ := h4.q h3
  refine Calls.mono (h hS h5 h6 (hl _ (by simp)) (hl _ (by simp))) fun e w' ⟨v, S', a1, a2, c0, a3, a4⟩ => ⟨v, S', a1, a2, ?_⟩
  rw [hs]
  exact ⟨c0, a3, a4.wide (sum2 hk)⟩
theorem pZZ (hg : YB T K base ρ bd) (he : ZW P f = true) (ho : 10 < op) {F : Int → Int → Int} (hs : ∀ x y, semL op [x, y] = .z (F x.int y.int))
    (h : ∀ {S : Sh} {w : World} {c d : List Value} {a b : Int} {k l : Nat}, Ya S w → In S c a k → In S d b l → k ≤ lim → l ≤ lim → Calls P f [.agg c.toArray, .agg d.toArray].toArray w (Ret S w fun S v => ∃ c0 : List Value, v = .agg c0.toArray ∧ In S c0 (F a b) (k + l + e))) : Xp P (DS hT bd) f (pO T [1, 1] op lim e) := by
  refine pO_ok hg he ho fun S w vs xs ks k hS hr hl hk => ?_
  obtain ⟨x, k1, v, x', k2, v', rfl, rfl, rfl, h1, h2, h3, h4⟩ := hr.two
  obtain ⟨c, rfl, h5⟩ := h2.z h1
  obtain ⟨d, rfl, h6⟩ := h4.z h3
  refine Calls.mono (h hS h5 h6 (hl _ (by simp)) (hl _ (by simp))) fun e w' ⟨v, S', a1, a2, c0, a3, a4⟩ => ⟨v, S', a1, a2, ?_⟩
  rw [hs]
  exact ⟨c0, a3, a4.wide (sum2 hk)⟩
theorem pNN (hg : YB T K base ρ bd) (he : ZW P f = true) (ho : 10 < op) {F : Nat → Nat → Nat} (hs : ∀ x y, semL op [x, y] = .n (F x.nat y.nat))
    (h : ∀ {S : Sh} {w : World} {c d : List Value} {a b : Nat} {k l : Nat}, Ya S w → Na S c a k → Na S d b l → k ≤ lim → l ≤ lim → Calls P f [.agg c.toArray, .agg d.toArray].toArray w (Ret S w fun S v => ∃ c0 : List Value, v = .agg c0.toArray ∧ Na S c0 (F a b) (k + l + e))) : Xp P (DS hT bd) f (pO T [0, 0] op lim e) := by
  refine pO_ok hg he ho fun S w vs xs ks k hS hr hl hk => ?_
  obtain ⟨x, k1, v, x', k2, v', rfl, rfl, rfl, h1, h2, h3, h4⟩ := hr.two
  obtain ⟨c, rfl, h5⟩ := h2.n h1
  obtain ⟨d, rfl, h6⟩ := h4.n h3
  refine Calls.mono (h hS h5 h6 (hl _ (by simp)) (hl _ (by simp))) fun e w' ⟨v, S', a1, a2, c0, a3, a4⟩ => ⟨v, S', a1, a2, ?_⟩
  rw [hs]
  exact ⟨c0, a3, a4.wide (sum2 hk)⟩
theorem pQz (hg : YB T K base ρ bd) (he : ZW P f = true) (ho : 10 < op) {F : Rat → Int} (hs : ∀ x, semL op [x] = .z (F x.rat))
    (h : ∀ {S : Sh} {w : World} {c : List Value} {a : Rat} {k : Nat}, Ya S w → Fs S c [a] k → k ≤ lim → Calls P f [.agg c.toArray].toArray w (Ret S w fun S v => ∃ c0 : List Value, v = .agg c0.toArray ∧ In S c0 (F a) (k + e))) : Xp P (DS hT bd) f (pO T [2] op lim e) := by
  refine pO_ok hg he ho fun S w vs xs ks k hS hr hl hk => ?_
  obtain ⟨x, k1, v, rfl, rfl, rfl, h1, h2⟩ := hr.one
  obtain ⟨c, rfl, h5⟩ := h2.q h1
  refine Calls.mono (h hS h5 (hl _ (by simp))) fun e w' ⟨v, S', a1, a2, c0, a3, a4⟩ => ⟨v, S', a1, a2, ?_⟩
  rw [hs]
  exact ⟨c0, a3, a4.wide (sum1 hk)⟩
theorem pQn (hg : YB T K base ρ bd) (he : ZW P f = true) (ho : 10 < op) {F : Rat → Nat} (hs : ∀ x, semL op [x] = .n (F x.rat))
    (h : ∀ {S : Sh} {w : World} {c : List Value} {a : Rat} {k : Nat}, Ya S w → Fs S c [a] k → k ≤ lim → Calls P f [.agg c.toArray].toArray w (Ret S w fun S v => ∃ c0 : List Value, v = .agg c0.toArray ∧ Na S c0 (F a) (k + e))) : Xp P (DS hT bd) f (pO T [2] op lim e) := by
  refine pO_ok hg he ho fun S w vs xs ks k hS hr hl hk => ?_
  obtain ⟨x, k1, v, rfl, rfl, rfl, h1, h2⟩ := hr.one
  obtain ⟨c, rfl, h5⟩ := h2.q h1
  refine Calls.mono (h hS h5 (hl _ (by simp))) fun e w' ⟨v, S', a1, a2, c0, a3, a4⟩ => ⟨v, S', a1, a2, ?_⟩
  rw [hs]
  exact ⟨c0, a3, a4.wide (sum1 hk)⟩
theorem pZq (hg : YB T K base ρ bd) (he : ZW P f = true) (ho : 10 < op) {F : Int → Rat} (hs : ∀ x, semL op [x] = .q (F x.int))
    (h : ∀ {S : Sh} {w : World} {c : List Value} {a : Int} {k : Nat}, Ya S w → In S c a k → k ≤ lim → Calls P f [.agg c.toArray].toArray w (Ret S w fun S v => ∃ c0 : List Value, v = .agg c0.toArray ∧ Fs S c0 [F a] (k + e))) : Xp P (DS hT bd) f (pO T [1] op lim e) := by
  refine pO_ok hg he ho fun S w vs xs ks k hS hr hl hk => ?_
  obtain ⟨x, k1, v, rfl, rfl, rfl, h1, h2⟩ := hr.one
  obtain ⟨c, rfl, h5⟩ := h2.z h1
  refine Calls.mono (h hS h5 (hl _ (by simp))) fun e w' ⟨v, S', a1, a2, c0, a3, a4⟩ => ⟨v, S', a1, a2, ?_⟩
  rw [hs]
  exact ⟨c0, a3, a4.wide (sum1 hk)⟩
theorem pZz (hg : YB T K base ρ bd) (he : ZW P f = true) (ho : 10 < op) {F : Int → Int} (hs : ∀ x, semL op [x] = .z (F x.int))
    (h : ∀ {S : Sh} {w : World} {c : List Value} {a : Int} {k : Nat}, Ya S w → In S c a k → k ≤ lim → Calls P f [.agg c.toArray].toArray w (Ret S w fun S v => ∃ c0 : List Value, v = .agg c0.toArray ∧ In S c0 (F a) (k + e))) : Xp P (DS hT bd) f (pO T [1] op lim e) := by
  refine pO_ok hg he ho fun S w vs xs ks k hS hr hl hk => ?_
  obtain ⟨x, k1, v, rfl, rfl, rfl, h1, h2⟩ := hr.one
  obtain ⟨c, rfl, h5⟩ := h2.z h1
  refine Calls.mono (h hS h5 (hl _ (by simp))) fun e w' ⟨v, S', a1, a2, c0, a3, a4⟩ => ⟨v, S', a1, a2, ?_⟩
  rw [hs]
  exact ⟨c0, a3, a4.wide (sum1 hk)⟩
theorem pZn (hg : YB T K base ρ bd) (he : ZW P f = true) (ho : 10 < op) {F : Int → Nat} (hs : ∀ x, semL op [x] = .n (F x.int))
    (h : ∀ {S : Sh} {w : World} {c : List Value} {a : Int} {k : Nat}, Ya S w → In S c a k → k ≤ lim → Calls P f [.agg c.toArray].toArray w (Ret S w fun S v => ∃ c0 : List Value, v = .agg c0.toArray ∧ Na S c0 (F a) (k + e))) : Xp P (DS hT bd) f (pO T [1] op lim e) := by
  refine pO_ok hg he ho fun S w vs xs ks k hS hr hl hk => ?_
  obtain ⟨x, k1, v, rfl, rfl, rfl, h1, h2⟩ := hr.one
  obtain ⟨c, rfl, h5⟩ := h2.z h1
  refine Calls.mono (h hS h5 (hl _ (by simp))) fun e w' ⟨v, S', a1, a2, c0, a3, a4⟩ => ⟨v, S', a1, a2, ?_⟩
  rw [hs]
  exact ⟨c0, a3, a4.wide (sum1 hk)⟩
end
end
end Go.Cham
namespace Go.Cham
open Go Go.RowKit Go.Proofs
noncomputable section
def kV (T : Tb) (key : List Nat) : Option Nat := match findV T key with
  | some (k, r) => match Nat.ble 64 r.d with
    | true => some k
    | false => none
  | none => none
def pConst (T : Tb) (o : Nat) : PrF Ato := fun l => match l with
  | [.int .i64 n] => match n with
    | .ofNat a => match Nat.ble a 9223372036854775807 with
      | true => match kV T [o, a, 0] with
        | some k => some (resV (Nat.mod o 4) k)
        | none => none
      | false => none
    | .negSucc a => match Nat.ble a 9223372036854775807 with
      | true => match kV T [o, Nat.succ a, 1] with
        | some k => some (resV (Nat.mod o 4) k)
        | none => none
      | false => none
  | _ => none
def pNatOf (T : Tb) : PrF Ato := fun l => match l with
  | [.int .u64 (.ofNat a)] => match Nat.ble a 18446744073709551615 with
    | true => match kV T [4, a] with
      | some k => some (resV 0 k)
      | none => none
    | false => none
  | _ => none
def pMakeW (T : Tb) : PrF Ato := fun l => match l with
  | [.bool false, x] => match getA T [0] [x] with
    | some is => opV T 17 10000000000000 0 is
    | none => none
  | [.bool true, x] => match getA T [0] [x] with
    | some is => opV T 45 10000000000000 0 is
    | none => none
  | [.at_ (.s i), x] => match getA T [0] [x] with
    | some is => opV T 21 10000000000000 0 (i :: is)
    | none => none
  | _ => none
def posGo (T : Tb) : Nat → Nat → Bool
  | 0, _ => false
  | n + 1, i => match Zat T i with
    | some r => match r.key with
      | [4, a] => Nat.ble 1 a
      | [16, _] => true
      | [28, i, j] => posGo T n i || posGo T n j
      | [24, i, j] => posGo T n i && posGo T n j
      | [36, i, j] => posGo T n i || posGo T n j
      | _ => false
    | none => false
def nzB (T : Tb) (j : Nat) : Bool := match posGo T 20 j with
  | true => true
  | false => match tstV T 5 10000000000000 [j] with
    | some (.ofNat 0) => true
    | _ => false
def pNatDiv (T : Tb) : PrF Ato := fun l => match getA T [0, 0] l with
  | some is => match is with
    | [i, j] => match nzB T j with
      | true => match opV T 32 100000000000 0 [i, j] with
        | some x => match opV T 40 100000000000 0 [i, j] with
          | some y => some (.tup [x, y, .int .i64 0])
          | none => none
        | none => none
      | _ => none
    | _ => none
  | none => none
def pDivQ (T : Tb) : PrF Ato := fun l => match getA T [2, 2] l with
  | some is => match is with
    | [i, j] => match tstV T 1 100000000000 [j] with
      | some x => match x with
        | .ofNat 0 => none
        | _ => match opV T 34 50000000000 0 [i, j] with
          | some y => some (.tup [y, .int .i64 0])
          | none => none
      | none => none
    | _ => none
  | none => none
def pMakeQ (T : Tb) : PrF Ato := fun l => match getA T [1, 1] l with
  | some is => match is with
    | [i, j] => match tstV T 3 100000000000 [j] with
      | some x => match x with
        | .ofNat 0 => none
        | _ => match opV T 42 50000000000 0 [i, j] with
          | some y => some (.tup [y, .int .i64 0])
          | none => none
      | none => none
    | _ => none
  | none => none
section
variable {T : Tb} {K : Nat} {base ρ : Nat → AV} {bd : Nat → Nat} {T0 : Tb} {hT : Cs T0 ρ}
theorem kV_ok (hg : YB T K base ρ bd) {key : List Nat} {k : Nat} (h : kV T key = some k) : ρ k = semK base ρ key ∧ 64 ≤ bd k := by
  unfold kV at h
  split at h
  · rename_i k' r hf
    split at h
    · rename_i hd
      cases h
      obtain ⟨h1, h2⟩ := XT hf
      obtain ⟨h3, h4⟩ := hg.row _ _ h1
      have := Nat.le_of_ble_eq_true hd
      exact ⟨by rw [h3, h2], by rw [h4]; omega⟩
    · cases h
  · cases h
theorem Zbd (hg : YB T K base ρ bd) : ∀ {n i : Nat}, posGo T n i = true → (ρ i).nat ≠ 0
  | 0, i, h => by simp [posGo] at h
  | n + 1, i, h => by
    unfold posGo at h
    split at h
    · rename_i r hr
      have h1 := (hg.row i r hr).1
      split at h
      · rename_i a hk
        rw [h1, hk]
        exact Nat.ne_of_gt (Nat.le_of_ble_eq_true h)
      · rename_i a hk
        rw [h1, hk]
        show (ρ a).rat.den ≠ 0
        exact (ρ a).rat.den_nz
      · rename_i a b hk
        rw [h1, hk]
        show Nat.gcd (ρ a).nat (ρ b).nat ≠ 0
        intro h0
        have h2 := Nat.gcd_eq_zero_iff.1 h0
        simp only [Bool.or_eq_true] at h
        rcases h with h | h
        · exact Zbd hg h h2.1
        · exact Zbd hg h h2.2
      · rename_i a b hk
        rw [h1, hk]
        show (ρ a).nat * (ρ b).nat ≠ 0
        simp only [Bool.and_eq_true] at h
        exact Nat.mul_ne_zero (Zbd hg h.1) (Zbd hg h.2)
      · rename_i a b hk
        rw [h1, hk]
        show (ρ a).nat + (ρ b).nat ≠ 0
        simp only [Bool.or_eq_true] at h
        rcases h with h | h
        · have := Zbd hg h; omega
        · have := Zbd hg h; omega
      · cases h
    · cases h
theorem nzB_ok (hg : YB T K base ρ bd) {j : Nat} (h : nzB T j = true) : (ρ j).nat ≠ 0 := by
  unfold nzB at h
  split at h
  · rename_i hp
    exact Zbd hg hp
  · split at h
    · rename_i ht
      have h1 := (tstV_ok hg ht).1
      intro h0
      simp [semT, h0] at h1
    · cases h
theorem pNatOf_ok (hg : YB T K base ρ bd) : Xp Tryz.prog (DS hT bd) 76 (pNatOf T) := by
  intro args r hr G w vs hd hS
  unfold pNatOf at hr
  split at hr
  · rename_i a
    split at hr
    · rename_i ha
      split at hr
      · rename_i k hk
        cases hr
        obtain ⟨h1, h2⟩ := kV_ok hg hk
        have ha' := Nat.le_of_ble_eq_true ha
        cases hd with
        | cons x1 x2 =>
          cases x2
          cases x1
          have hk1 : ρ k = .n a := h1
          refine .ret (by kernel_rfl) (nat_Of hS (n := a) (by omega)) fun S' v ⟨c0, e, hv⟩ => YT (by rw [hk1]; kernel_rfl) ?_
          rw [hk1]
          exact ⟨c0, e, hv.wide h2⟩
      · cases hr
    · cases hr
  · cases hr
theorem pInt_ok (hg : YB T K base ρ bd) : Xp Tryz.prog (DS hT bd) 27 (pConst T 10) := by
  intro args r hr G w vs hd hS
  unfold pConst at hr
  split at hr
  · rename_i n
    split at hr
    · rename_i a
      split at hr
      · rename_i ha
        split at hr
        · rename_i k hk
          cases hr
          obtain ⟨h1, h2⟩ := kV_ok hg hk
          have ha' := Nat.le_of_ble_eq_true ha
          cases hd with
          | cons x1 x2 =>
            cases x2
            cases x1
            have hk1 : ρ k = .q ((a : Int) : Rat) := by rw [h1]; rfl
            refine .ret (by kernel_rfl) (frac_Int hS (n := Int.ofNat a) (by simp only [Int.ofNat_eq_natCast]; omega) (by simp only [Int.ofNat_eq_natCast]; omega)) fun S' v ⟨c0, e, hv⟩ => YT (by rw [hk1]; kernel_rfl) ?_
            rw [hk1]
            exact ⟨c0, e, hv.wide h2⟩
        · cases hr
      · cases hr
    · rename_i a
      split at hr
      · rename_i ha
        split at hr
        · rename_i k hk
          cases hr
          obtain ⟨h1, h2⟩ := kV_ok hg hk
          have ha' := Nat.le_of_ble_eq_true ha
          cases hd with
          | cons x1 x2 =>
            cases x2
            cases x1
            have hk1 : ρ k = .q ((Int.negSucc a : Int) : Rat) := by rw [h1]; rfl
            refine .ret (by kernel_rfl) (frac_Int hS (n := Int.negSucc a) (by omega) (by omega)) fun S' v ⟨c0, e, hv⟩ => YT (by rw [hk1]; kernel_rfl) ?_
            rw [hk1]
            exact ⟨c0, e, hv.wide h2⟩
        · cases hr
      · cases hr
  · cases hr
theorem pWOf_ok (hg : YB T K base ρ bd) : Xp Tryz.prog (DS hT bd) 90 (pConst T 9) := by
  intro args r hr G w vs hd hS
  unfold pConst at hr
  split at hr
  · rename_i n
    split at hr
    · rename_i a
      split at hr
      · rename_i ha
        split at hr
        · rename_i k hk
          cases hr
          obtain ⟨h1, h2⟩ := kV_ok hg hk
          have ha' := Nat.le_of_ble_eq_true ha
          cases hd with
          | cons x1 x2 =>
            cases x2
            cases x1
            have hk1 : ρ k = .z (a : Int) := by rw [h1]; rfl
            refine .ret (by kernel_rfl) (whole_Of hS (n := Int.ofNat a) (by simp only [Int.ofNat_eq_natCast]; omega) (by simp only [Int.ofNat_eq_natCast]; omega)) fun S' v ⟨c0, e, hv⟩ => YT (by rw [hk1]; kernel_rfl) ?_
            rw [hk1]
            exact ⟨c0, e, hv.wide h2⟩
        · cases hr
      · cases hr
    · rename_i a
      split at hr
      · rename_i ha
        split at hr
        · rename_i k hk
          cases hr
          obtain ⟨h1, h2⟩ := kV_ok hg hk
          have ha' := Nat.le_of_ble_eq_true ha
          cases hd with
          | cons x1 x2 =>
            cases x2
            cases x1
            have hk1 : ρ k = .z (Int.negSucc a) := by rw [h1]; rfl
            refine .ret (by kernel_rfl) (whole_Of hS (n := Int.negSucc a) (by omega) (by omega)) fun S' v ⟨c0, e, hv⟩ => YT (by rw [hk1]; kernel_rfl) ?_
            rw [hk1]
            exact ⟨c0, e, hv.wide h2⟩
        · cases hr
      · cases hr
  · cases hr
theorem pMakeW_ok (hg : YB T K base ρ bd) : Xp Tryz.prog (DS hT bd) 82 (pMakeW T) := by
  intro args r hr G w vs hd hS
  unfold pMakeW at hr
  split at hr
  · rename_i x
    split at hr
    · rename_i is his
      cases hd with
      | cons x1 x2 =>
        cases x1
        obtain ⟨k, rfl, h1, h2, h3, h4⟩ := Zdb hg hr (by decide)
        obtain ⟨y, k1, v, e1, e2, rfl, h5, h6⟩ := (Qe hg his x2).one
        obtain ⟨c, rfl, h7⟩ := h6.n h5
        rw [e1] at h2
        rw [e2] at h4
        refine .ret (by kernel_rfl) (Xa hS (mi := false) h7) fun S' v ⟨c0, e, hv⟩ => YT h1 ?_
        rw [h2]
        exact ⟨c0, e, hv.wide (sum1 h4)⟩
    · cases hr
  · rename_i x
    split at hr
    · rename_i is his
      cases hd with
      | cons x1 x2 =>
        cases x1
        obtain ⟨k, rfl, h1, h2, h3, h4⟩ := Zdb hg hr (by decide)
        obtain ⟨y, k1, v, e1, e2, rfl, h5, h6⟩ := (Qe hg his x2).one
        obtain ⟨c, rfl, h7⟩ := h6.n h5
        rw [e1] at h2
        rw [e2] at h4
        refine .ret (by kernel_rfl) (Xa hS (mi := true) h7) fun S' v ⟨c0, e, hv⟩ => YT h1 ?_
        rw [h2]
        exact ⟨c0, e, hv.wide (sum1 h4)⟩
    · cases hr
  · rename_i i x
    split at hr
    · rename_i is his
      cases hd with
      | cons x1 x2 =>
        cases x1 with
        | at_ hp =>
          rename_i v1 v0
          have hp' : v1 = Value.bool (ρ i).neg := by simpa [DS, predS] using hp
          subst hp'
          obtain ⟨k, rfl, h1, h2, h3, h4⟩ := Zdb hg hr (by decide)
          obtain ⟨y, k1, v, e1, e2, rfl, h5, h6⟩ := (Qe hg his x2).one
          obtain ⟨c, rfl, h7⟩ := h6.n h5
          rw [List.map_cons, e1] at h2
          rw [List.map_cons, e2] at h4
          have h8 := sum2 h4
          refine .ret (by kernel_rfl) (Xa hS (mi := (ρ i).neg) h7) fun S' v ⟨c0, e, hv⟩ => YT h1 ?_
          rw [h2]
          exact ⟨c0, e, hv.wide (by omega)⟩
    · cases hr
  · cases hr
end
end
end Go.Cham
namespace Go.Cham
open Go Go.RowKit Go.Proofs
noncomputable section
abbrev TabF := Tb → List (Nat × PrF Ato)
def TabOK (tab : TabF) : Prop := ∀ {T : Tb} {K : Nat} {base ρ : Nat → AV} {bd : Nat → Nat} {T0 : Tb} {hT : Cs T0 ρ}, YB T K base ρ bd → ∀ p ∈ tab T, Xp Tryz.prog (DS hT bd) p.1 p.2
def RunT (tab : TabF) (T : Tb) (f : Nat) (args : List (SV Ato)) (r : SV Ato) (k : Nat) : Prop := ∀ (ρ : Nat → AV) (hT : Cs T ρ) (bd : Nat → Nat), (callB Tryz.prog (DS hT bd) (primOf (mkTab (tab T))) (runN Tryz.prog (DS hT bd) (primOf (mkTab (tab T))) k) 0 f args .nil 0).map (fun o => o.r) = some r
theorem sym_call {tab : TabF} (ht : TabOK tab) {T : Tb} {K : Nat} {base : Nat → AV} {f k : Nat} {args : List (SV Ato)} {r : SV Ato} {vs : List Value} {S : Sh} {w : World} (ha : Qn T.rows 0 = true) (hk : K ≤ T.km) (hc : Csl (rho T base) T.conds) (he : ZW Tryz.prog f = true)
    (h : RunT tab T f args r k) (hS : Ya S w)
    (hd : XF (DS (T := T) (ρ := rho T base) hc.all (Zcb T K)) ⟨S, fun _ => none⟩ args vs) : Calls Tryz.prog f vs.toArray w (Ret S w fun S' v => ∃ blk, Den (DS (T := T) (ρ := rho T base) hc.all (Zcb T K)) ⟨S', blk⟩ r v) := by
  obtain ⟨o, ho, rfl⟩ := Option.map_eq_some_iff.1 (h (rho T base) hc.all (Zcb T K))
  exact Zad.toRet he (ev_call mixed (primOf_ok (ht (YB.mk' ha hk hc.all))) ho hS hd)
theorem le1 (k : Nat) : k ≤ 1 * k + 0 := by omega
theorem QV {tab : TabF} (ht : TabOK tab) {R : List Rw} {km K : Nat} {base : Nat → AV} {f k : Nat} {args : List (SV Ato)} {r : SV Ato} {vs : List Value} {S : Sh} {w : World} (ha : Qn R 0 = true) (hk : K ≤ km) (he : ZW Tryz.prog f = true) (hS : Ya S w)
    (hd : ∀ (cs : List (List Nat × Int)) (hc : Csl (rho ⟨R, [], km⟩ base) cs), XF (DS (T := ⟨R, cs, km⟩) (ρ := rho ⟨R, [], km⟩ base) hc.all (Zcb ⟨R, [], km⟩ K)) ⟨S, fun _ => none⟩ args vs)
    (cs : List (List Nat × Int)) (hc : Csl (rho ⟨R, [], km⟩ base) cs) (h : RunT tab ⟨R, cs, km⟩ f args r k) : Calls Tryz.prog f vs.toArray w (Ret S w fun S' v => ∃ blk, Den (DS (T := ⟨R, cs, km⟩) (ρ := rho ⟨R, [], km⟩ base) hc.all (Zcb ⟨R, [], km⟩ K)) ⟨S', blk⟩ r v) :=
  sym_call ht (T := ⟨R, cs, km⟩) (K := K) (base := base) ha hk hc he h hS (hd cs hc)
theorem sym_ground {tab : TabF} (ht : TabOK tab) {R : List Rw} {km K : Nat} {base : Nat → AV} {f k : Nat} {args : List (SV Ato)} {vs : List Value} {S : Sh} {w : World} (ha : Qn R 0 = true) (hk : K ≤ km) (he : ZW Tryz.prog f = true) (hS : Ya S w)
    (hd : ∀ (cs : List (List Nat × Int)) (hc : Csl (rho ⟨R, [], km⟩ base) cs), XF (DS (T := ⟨R, cs, km⟩) (ρ := rho ⟨R, [], km⟩ base) hc.all (Zcb ⟨R, [], km⟩ K)) ⟨S, fun _ => none⟩ args vs)
    (cs : List (List Nat × Int)) (hc : Csl (rho ⟨R, [], km⟩ base) cs) {r : SV Ato} (h : RunT tab ⟨R, cs, km⟩ f args r k) {u : Value} (hg : ground r = some u) : Calls Tryz.prog f vs.toArray w (Ret S w fun _ v => v = u) :=
  Calls.mono (QV ht ha hk he hS hd cs hc h) fun e w' ⟨v, S', h1, h2, blk, h3⟩ => ⟨v, S', h1, h2, (XB hg h3).symm ▸ rfl⟩
def Qs (ρ : Nat → AV) (bd : Nat → Nat) (k : Nat) : List Nat → List Rat → Prop
  | [], [] => True
  | i :: is, q :: qs => ρ i = .q q ∧ k ≤ bd i ∧ Qs ρ bd k is qs
  | _, _ => False
def cQs : List Nat → List (SV Ato)
  | [] => []
  | i :: is => cQ i ++ cQs is
theorem XW {ρ : Nat → AV} {bd : Nat → Nat} {G : Gh} {T0 : Tb} {hT : Cs T0 ρ} {k : Nat} : ∀ {is : List Nat} {qs : List Rat} {cs : List Value}, Qs ρ bd k is qs → Fs G.S cs qs k → YN (DS hT bd) G (cQs is) cs
  | [], [], cs, _, h => by rw [show cs = [] from h]; exact .nil
  | i :: is, q :: qs, cs, hq, ⟨us, vs, e, h1, h2⟩ => by
    rw [e]
    exact cQ_mk hq.1 h1.fs hq.2.1 (XW hq.2.2 h2)
  | [], _ :: _, _, hq, _ => hq.elim
  | _ :: _, [], _, hq, _ => hq.elim
def QsI (ρ : Nat → AV) (bd : Nat → Nat) (k : Nat) : List Nat → List Rat → Prop
  | [], [] => True
  | i :: is, q :: qs => ρ i = .q q ∧ bd i ≤ k ∧ QsI ρ bd k is qs
  | _, _ => False
theorem Zab {ρ : Nat → AV} {bd : Nat → Nat} {G : Gh} {T0 : Tb} {hT : Cs T0 ρ} {k : Nat} : ∀ {is : List Nat} {qs : List Rat} {cs : List Value}, QsI ρ bd k is qs → YN (DS hT bd) G (cQs is) cs → Fs G.S cs qs k
  | [], [], cs, _, h => h.nilI
  | i :: is, q :: qs, cs, hq, h => by
    obtain ⟨us, vs, rfl, h1, h2⟩ := cQ_of hq.1 h
    have h3 := (h1.wide hq.2.1).append (Zab hq.2.2 h2)
    simpa using h3
  | [], _ :: _, _, hq, _ => hq.elim
  | _ :: _, [], _, hq, _ => hq.elim
def cTs (is : List Nat) : List (SV Ato) := is.map fun i => .at_ (.t i)
def TsE (ρ : Nat → AV) : List Nat → List ByteArray → Prop
  | [], [] => True
  | i :: is, s :: ss => ρ i = .s s ∧ TsE ρ is ss
  | _, _ => False
theorem cTs_mk {ρ : Nat → AV} {bd : Nat → Nat} {G : Gh} {T0 : Tb} {hT : Cs T0 ρ} : ∀ {is : List Nat} {ss : List ByteArray}, TsE ρ is ss → YN (DS hT bd) G (cTs is) (ss.map Value.string)
  | [], [], _ => .nil
  | i :: is, s :: ss, h => by
    have := YN.run (D := DS hT bd) (G := G) (a := .t i) (us := [.string s]) ⟨s, h.1, rfl⟩ (cTs_mk h.2)
    exact this
  | [], _ :: _, h => h.elim
  | _ :: _, [], h => h.elim
def tx (l : List ByteArray) (i : Nat) : ByteArray := l.getD i ⟨#[]⟩
def baseS (ss : List ByteArray) : Nat → AV := fun i => .s (ss.getD i ⟨#[]⟩)
def Zc8 (qs : List Rat) : Nat → AV := fun i => .q (qs.getD i 0)
theorem lex4_3w (x y z u : Int) (h1 : x = -1 ∨ x = 0 ∨ x = 1) (h2 : y = -1 ∨ y = 0 ∨ y = 1) (h3 : z = -1 ∨ z = 0 ∨ z = 1) (h4 : u = -1 ∨ u = 0 ∨ u = 1) : Zb5 x y z u = -1 ∨ Zb5 x y z u = 0 ∨ Zb5 x y z u = 1 := by
  unfold Zb5
  split
  · exact h1
  · split
    · exact h2
    · split
      · exact h3
      · exact h4
theorem cmpQ_3w (a b : Rat) : Xo a b = -1 ∨ Xo a b = 0 ∨ Xo a b = 1 := by
  unfold Xo
  split
  · exact .inl rfl
  · split
    · exact .inr (.inr rfl)
    · exact .inr (.inl rfl)
theorem cmpN_3w (a b : Nat) : cmpN a b = -1 ∨ cmpN a b = 0 ∨ cmpN a b = 1 := by
  unfold cmpN
  split
  · exact .inl rfl
  · split
    · exact .inr (.inr rfl)
    · exact .inr (.inl rfl)
theorem ite_2w (p : Prop) [Decidable p] : (if p then (1 : Int) else 0) = 0 ∨ (if p then (1 : Int) else 0) = 1 := by
  split
  · exact .inr rfl
  · exact .inl rfl
theorem Zd5 (ρ : Nat → AV) {t : Nat} {is : List Nat} (h : t = 1 ∨ t = 2 ∨ t = 3 ∨ t = 6 ∨ t = 10) : ZD ρ (t :: is) = -1 ∨ ZD ρ (t :: is) = 0 ∨ ZD ρ (t :: is) = 1 := by
  show semT t (is.map ρ) = -1 ∨ semT t (is.map ρ) = 0 ∨ semT t (is.map ρ) = 1
  unfold semT
  split <;> first | omega | exact sgnZ_cases _ | exact cmpQ_3w _ _ | exact cmpN_3w _ _ | skip
  unfold semU
  split <;> first | omega | exact lex4_3w _ _ _ _ (cmpQ_3w _ _) (cmpQ_3w _ _) (cmpQ_3w _ _) (cmpQ_3w _ _) | exact .inr (.inl rfl)
theorem Zar (ρ : Nat → AV) {t : Nat} {is : List Nat} (h : t = 5 ∨ t = 8 ∨ t = 9 ∨ t = 12 ∨ t = 15 ∨ t = 18) : ZD ρ (t :: is) = 0 ∨ ZD ρ (t :: is) = 1 := by
  show semT t (is.map ρ) = 0 ∨ semT t (is.map ρ) = 1
  unfold semT
  split <;> first | omega | exact ite_2w _ | skip
  unfold semU
  split <;> first | omega | exact ite_2w _ | exact .inl rfl
theorem Zb8 (l : List Nat) : 0 ≤ YP l := by
  unfold YP
  split
  · decide
  · split
    · decide
    · split <;> decide
theorem perr_nn (x y z u : List Nat) : 0 ≤ Zcl x y z u := by
  unfold Zcl
  split
  · exact Zb8 _
  · split
    · exact Zb8 _
    · split
      · exact Zb8 _
      · split
        · exact Zb8 _
        · split <;> decide
theorem verr_nn (x y z : List Nat) : 0 ≤ verr x y z := by
  unfold verr
  split
  · exact Zb8 _
  · split
    · exact Zb8 _
    · exact Zb8 _
theorem XX (ρ : Nat → AV) {t : Nat} {is : List Nat} (h : t = 4 ∨ t = 7 ∨ t = 11 ∨ t = 16) : ZD ρ (t :: is) = 0 ∨ ∃ n, ZD ρ (t :: is) = Int.ofNat (Nat.succ n) := by
  have h1 : 0 ≤ ZD ρ (t :: is) := by
    show 0 ≤ semT t (is.map ρ)
    unfold semT
    split <;> first | omega | exact Zb8 _ | skip
    unfold semU
    split <;> first | omega | exact perr_nn _ _ _ _ | exact verr_nn _ _ _ | exact Int.natCast_nonneg _ | exact Int.le_refl _
  generalize ZD ρ (t :: is) = x at h1
  match x, h1 with
  | .ofNat 0, _ => exact .inl rfl
  | .ofNat (n + 1), _ => exact .inr ⟨n, rfl⟩
theorem waysB (ρ : Nat → AV) {t : Nat} {is : List Nat} (h : t = 16) : ZD ρ (t :: is) = 0 ∨ ZD ρ (t :: is) = 1 ∨ ∃ n, ZD ρ (t :: is) = Int.ofNat (Nat.succ (Nat.succ n)) := by
  rcases XX ρ (t := t) (is := is) (by omega) with h1 | ⟨n, h1⟩
  · exact .inl h1
  · cases n with
    | zero => exact .inr (.inl h1)
    | succ n => exact .inr (.inr ⟨n, h1⟩)
theorem row_val {R : List Rw} {km : Nat} {base : Nat → AV} (ha : Qn R 0 = true) {i : Nat} {r : Rw} (h : R[i]? = some r) : rho ⟨R, [], km⟩ base i = semK base (rho ⟨R, [], km⟩ base) r.key := by
  have := avs_at (base := base) (f := fun _ => .n 0) ha h
  rw [Nat.zero_add] at this
  exact this
theorem row_rat {R : List Rw} {km : Nat} {base : Nat → AV} (ha : Qn R 0 = true) {i : Nat} {r : Rw} (h : R[i]? = some r) {q : Rat} (hq : semK base (rho ⟨R, [], km⟩ base) r.key = .q q) : (rho ⟨R, [], km⟩ base i).rat = q := by rw [row_val ha h, hq]; rfl
theorem row_txt {R : List Rw} {km : Nat} {base : Nat → AV} (ha : Qn R 0 = true) {i : Nat} {r : Rw} (h : R[i]? = some r) {q : ByteArray} (hq : semK base (rho ⟨R, [], km⟩ base) r.key = .s q) : (rho ⟨R, [], km⟩ base i).txt = q := by rw [row_val ha h, hq]; rfl
end
end Go.Cham
namespace Go.Cham
open Go Go.RowKit Go.Proofs
noncomputable section
set_option maxRecDepth 100000
def findL (T : Tb) (i : Nat) (key : List Nat) : Option Nat := match Zat T i with
  | some a => match findV T key with
    | some (k, r) => match leB a r with
      | true => some k
      | false => none
    | none => none
  | none => none
def pDivL (T : Tb) : PrF Ato := fun l => match getA T [0, 0] l with
  | some is => match is with
    | [i, j] => match nzB T j && limB T 1099511000000 [i] with
      | true => match findL T i [32, i, j] with
        | some k => match findL T i [40, i, j] with
          | some l => some (.tup [.agg (cN k), .agg (cN l), .int .i64 0])
          | none => none
        | none => none
      | false => none
    | _ => none
  | none => none
def pSubL (T : Tb) : PrF Ato := fun l => match getA T [0, 0] l with
  | some is => match is with
    | [i, j] => match limB T 1099511000000 [i] with
      | true => match yesNo T [18, i, j] with
        | some b => match b with
          | true => match findL T i [48, i, j] with
            | some k => some (.tup [.agg (cN k), .int .i64 0])
            | none => none
          | false => none
        | none => none
      | false => none
    | _ => none
  | none => none
section
variable {T : Tb} {K : Nat} {base ρ : Nat → AV} {bd : Nat → Nat} {T0 : Tb} {hT : Cs T0 ρ}
theorem findL_ok (hg : YB T K base ρ bd) {i k o : Nat} {is : List Nat} (ho : 10 < o) (h : findL T i (o :: is) = some k) : ρ k = semL o (is.map ρ) ∧ bd i ≤ bd k := by
  unfold findL at h
  split at h
  · rename_i a ha
    split at h
    · rename_i k' r hf
      split at h
      · rename_i hl
        cases h
        obtain ⟨h1, h2⟩ := XT hf
        obtain ⟨h3, h4⟩ := hg.row _ _ h1
        refine ⟨by rw [h3, h2, semK_op ho], ?_⟩
        rw [(hg.row _ _ ha).2, h4]
        exact leB_ok hl K
      · cases h
    · cases h
  · cases h
theorem pDivL_ok (hg : YB T K base ρ bd) : Xp Tryz.prog (DS hT bd) 77 (pDivL T) := by
  intro args r hr G w vs hd hS
  unfold pDivL at hr
  split at hr
  · rename_i is his
    split at hr
    · rename_i i j
      split at hr
      · rename_i ht
        simp only [Bool.and_eq_true] at ht
        split at hr
        · rename_i k hk
          split at hr
          · rename_i l hl
            cases hr
            have hnz := nzB_ok hg ht.1
            have hlim := limB_ok hg ht.2 (bd i) (by simp)
            obtain ⟨a1, a2⟩ := findL_ok hg (by decide) hk
            obtain ⟨b1, b2⟩ := findL_ok hg (by decide) hl
            obtain ⟨x, k1, v, x', k2, v', e1, e2, rfl, c1, c2, c3, c4⟩ := (Qe hg his hd).two
            simp only [List.map_cons, List.map_nil, List.cons.injEq, and_true] at e1 e2
            obtain ⟨rfl, rfl⟩ := e1
            obtain ⟨rfl, rfl⟩ := e2
            obtain ⟨c, rfl, h5⟩ := c2.n c1
            obtain ⟨d, rfl, h6⟩ := c4.n c3
            refine .ret (by kernel_rfl) (nat_Div hS h5 h6 (by omega)) fun S' v hv => ?_
            rcases hv with ⟨z, _⟩ | ⟨_, c0, c1, e, hv, hu⟩
            · exact absurd z hnz
            · rw [e]
              refine .tup (.cons (YT (kd := 0) (by rw [a1]; rfl) ?_) (.cons (YT (kd := 0) (by rw [b1]; rfl) ?_) (.cons (.int _ _) .nil)))
              · rw [a1]; exact ⟨c0, rfl, hv.wide a2⟩
              · rw [b1]; exact ⟨c1, rfl, hu.wide b2⟩
          · cases hr
        · cases hr
      · cases hr
    · cases hr
  · cases hr
theorem pSubL_ok (hg : YB T K base ρ bd) : Xp Tryz.prog (DS hT bd) 145 (pSubL T) := by
  intro args r hr G w vs hd hS
  unfold pSubL at hr
  split at hr
  · rename_i is his
    split at hr
    · rename_i i j
      split at hr
      · rename_i hl
        split at hr
        · rename_i b hb
          split at hr
          · split at hr
            · rename_i k hk
              cases hr
              have hlim := limB_ok hg hl (bd i) (by simp)
              have hle : (if (ρ j).nat ≤ (ρ i).nat then (1 : Int) else 0) = 1 := Zcd hg.cond hb
              obtain ⟨a1, a2⟩ := findL_ok hg (by decide) hk
              obtain ⟨x, k1, v, x', k2, v', e1, e2, rfl, c1, c2, c3, c4⟩ := (Qe hg his hd).two
              simp only [List.map_cons, List.map_nil, List.cons.injEq, and_true] at e1 e2
              obtain ⟨rfl, rfl⟩ := e1
              obtain ⟨rfl, rfl⟩ := e2
              obtain ⟨c, rfl, h5⟩ := c2.n c1
              obtain ⟨d, rfl, h6⟩ := c4.n c3
              refine .ret (by kernel_rfl) (nat_Sub hS h5 h6 (by omega)) fun S' v hv => ?_
              rcases hv with ⟨z, _⟩ | ⟨_, c0, e, hv⟩
              · rw [if_neg (by omega)] at hle; cases hle
              · rw [e]
                refine .tup (.cons (YT (kd := 0) (by rw [a1]; rfl) ?_) (.cons (.int _ _) .nil))
                rw [a1]; exact ⟨c0, rfl, hv.wide a2⟩
            · cases hr
          · cases hr
        · cases hr
      · cases hr
    · cases hr
  · cases hr
theorem parts_of {G : Gh} {i j K k : Nat} {z : Int} {n : Nat} {q : Rat} {vs : List Value} (e : ρ i = .z z) (e' : ρ j = .n n) (h : YN (DS hT bd) G [.at_ (.s i), .at_ (.a i), .at_ (.a j)] vs) (e1 : z = q.num) (e2 : n = q.den - 1) (b1 : q.num.natAbs ≤ 2 ^ k) (b2 : q.den ≤ 2 ^ k) : Fs G.S vs [q] k := by
  obtain ⟨cs, us, rfl, h1, h2⟩ := cZ_of (r := [.at_ (.a j)]) e h
  obtain ⟨cs', us', rfl, h3, h4⟩ := cN_of (r := []) e' h2
  cases h4.nilI
  rw [List.append_nil]
  exact Fs.ofParts h1 h3 e1 e2 b1 b2
theorem mixed_of {G : Gh} {i : Nat} {z : Int} {vs : List Value} (e : ρ i = .z z) (h : YN (DS hT bd) G [.at_ (.s i), .at_ (.a i), .int .u64 0, .sl none 0 0] vs) : Fs G.S vs [(z : Rat)] (bd i) := by
  obtain ⟨cs, us, rfl, h1, h2⟩ := cZ_of (r := [.int .u64 0, .sl none 0 0]) e h
  cases h2 with
  | one x1 _ _ x2 =>
    cases x1
    cases x2 with
    | one x3 _ _ x4 =>
      cases x3
      cases x4
      exact Fs.ofInt h1
theorem cZ_mk1 {G : Gh} {i k : Nat} {a : Int} {cs : List Value} (e : ρ i = .z a) (hk : k ≤ bd i) (h : In G.S cs a k) : YN (DS hT bd) G [.at_ (.s i), .at_ (.a i)] cs := by
  have := cZ_mk (hT := hT) e h hk .nil
  simpa [cZ] using this
theorem cN_mk1 {G : Gh} {i k : Nat} {a : Nat} {cs : List Value} (e : ρ i = .n a) (hk : k ≤ bd i) (h : Na G.S cs a k) : YN (DS hT bd) G [.at_ (.a i)] cs := by
  have := cN_mk (hT := hT) e h hk .nil
  simpa [cN] using this
end
def baseZN (z : Int) (d : Nat) : Nat → AV := fun i => match i with
  | 0 => .z z
  | _ => .n d
def symTabL (T : Tb) : List (Nat × PrF Ato) := [
  (76, pNatOf T), (82, pMakeW T), (77, pDivL T), (145, pSubL T),
  (79, pO T [0, 0] 28 549755000000 0),
  (98, pT T [0] 16 10000000000000),
  (113, pO T [1] 12 10000000000000 0),
  (84, pT T [1] 3 10000000000000)]
theorem symTabL_OK : TabOK symTabL := by
  intro T K base ρ bd T0 hT hg p hp
  simp only [symTabL, List.mem_cons, List.not_mem_nil, or_false] at hp
  rcases hp with rfl | rfl | rfl | rfl | rfl | rfl | rfl | rfl
  · exact pNatOf_ok hg
  · exact pMakeW_ok hg
  · exact pDivL_ok hg
  · exact pSubL_ok hg
  · exact pNN hg (by kernel_rfl) (by decide) (fun _ _ => rfl) fun hS h1 h2 h3 h4 => nat_Gcd hS h1 h2 (by omega)
  · refine pT_ok hg (by kernel_rfl) fun S w vs xs ks hS hr hl => ?_
    obtain ⟨x, k1, v, rfl, rfl, rfl, h1, h2⟩ := hr.one
    obtain ⟨c, rfl, h5⟩ := h2.n h1
    exact Yw hS h5
  · exact pZn hg (by kernel_rfl) (by decide) (fun _ => rfl) fun hS h1 h2 => Za6 hS h1
  · refine pT_ok hg (by kernel_rfl) fun S w vs xs ks hS hr hl => ?_
    obtain ⟨x, k1, v, rfl, rfl, rfl, h1, h2⟩ := hr.one
    obtain ⟨c, rfl, h5⟩ := h2.z h1
    exact Ql hS h5
end
end Go.Cham
namespace Go.Cham
open Go Go.RowKit Go.Proofs
noncomputable section
set_option maxRecDepth 100000
def fl_r : List Rw := [⟨[1, 0], 1, 0⟩, ⟨[0, 1], 1, 0⟩, ⟨[12, 0], 1, 0⟩, ⟨[28, 2, 1], 2, 0⟩, ⟨[4, 1], 0, 64⟩, ⟨[48, 1, 4], 1, 0⟩, ⟨[32, 2, 3], 1, 0⟩, ⟨[40, 2, 3], 1, 0⟩, ⟨[45, 6], 1, 0⟩, ⟨[32, 1, 3], 1, 0⟩, ⟨[40, 1, 3], 1, 0⟩, ⟨[48, 9, 4], 1, 0⟩, ⟨[17, 6], 1, 0⟩]
def fl_T (cs : CL) : Tb := ⟨fl_r, cs, 549755000000⟩
def fl_G (cs : CL) (r : SV Ato) : Prop := RunT symTabL (fl_T cs) 99 [.agg [.at_ (.s 0), .at_ (.a 0)], .agg [.at_ (.a 1)]] r 100
def Zd3 (a0 : Int) (a1 : Nat) : Nat → AV := rho (fl_T []) (baseZN a0 a1)
def fl_k0 : CL := ([16, 1], 1) :: []
theorem fl_p0 : fl_G fl_k0 (.agg [.at_ (.s 0), .at_ (.a 0), .int .u64 0, .sl none 0 0]) := fun _ _ _ => by kernel_rfl
def fl_k1 (nh0 : Nat) : CL := ([16, 1], .ofNat (.succ (.succ nh0))) :: []
def fl_k2 (nh0 : Nat) : CL := ([18, 1, 4], 1) :: ([16, 3], 1) :: (fl_k1 nh0)
theorem fl_p1 (nh0 : Nat) : fl_G (fl_k2 nh0) (.agg [.at_ (.s 0), .at_ (.a 0), .at_ (.a 5)]) := fun _ _ _ => by kernel_rfl
def fl_k3 (nh0 : Nat) (nh1 : Nat) : CL := ([18, 9, 4], 1) :: ([5, 3], 0) :: ([16, 3], .ofNat (.succ (.succ nh1))) :: (fl_k1 nh0)
def fl_k4 (nh0 : Nat) (nh1 : Nat) : CL := ([3, 0], 0) :: (fl_k3 nh0 nh1)
theorem fl_p4 (nh0 : Nat) (nh1 : Nat) : fl_G (fl_k4 nh0 nh1) (.agg [.at_ (.s 12), .at_ (.a 12), .at_ (.a 11)]) := fun _ _ _ => by kernel_rfl
def fl_k5 (nh0 : Nat) (nh1 : Nat) : CL := ([3, 0], 1) :: (fl_k3 nh0 nh1)
theorem fl_p3 (nh0 : Nat) (nh1 : Nat) : fl_G (fl_k5 nh0 nh1) (.agg [.at_ (.s 12), .at_ (.a 12), .at_ (.a 11)]) := fun _ _ _ => by kernel_rfl
def fl_k6 (nh0 : Nat) (nh1 : Nat) : CL := ([3, 0], (-1)) :: (fl_k3 nh0 nh1)
theorem fl_p2 (nh0 : Nat) (nh1 : Nat) : fl_G (fl_k6 nh0 nh1) (.agg [.at_ (.s 8), .at_ (.a 8), .at_ (.a 11)]) := fun _ _ _ => by kernel_rfl
theorem Zay {S : Sh} {w : World} (hS : Ya S w) {c_z : List Value} {a0 : Int} {k_z : Nat} (h_z : In S c_z a0 (k_z)) {c_d : List Value} {a1 : Nat} {k_d : Nat} (h_d : Na S c_d a1 (k_d)) (hp : 0 < a1) (hlim : k_z + k_d ≤ 549755000000) : Calls Tryz.prog 99 [(.agg (c_z : List Value).toArray), (.agg (c_d : List Value).toArray)].toArray w (Ret S w (fun S v => ∃ (c0 : List Value), v = .agg c0.toArray ∧ Fs S c0 [mkRat a0 a1] ((k_z + k_d)))) := by
 have leaf := fun cs hc {r} (h : fl_G cs r) => QV symTabL_OK (K := max k_z k_d) (base := baseZN a0 a1) (by kernel_rfl) (by omega) (by kernel_rfl) hS (fun _ _ => .cons (.agg (cZ_mk1 (i := 0) (a := a0) (k := max k_z k_d) (by kernel_rfl) (le1 _) (h_z.wide (by omega)))) (.cons (.agg (cN_mk1 (i := 1) (a := a1) (k := max k_z k_d) (by kernel_rfl) (le1 _) (h_d.wide (by omega)))) .nil)) cs hc h
 have hgp := Nat.gcd_pos_of_pos_right a0.natAbs hp; have hdq := Nat.div_pos (Nat.le_of_dvd hp (Nat.gcd_dvd_right a0.natAbs a1)) hgp
 rcases waysB (Zd3 a0 a1) (t := 16) (is := [1]) (by decide) with h0 | h0 | ⟨nh0, h0⟩
 ·exact absurd h0 (fun z => by have g := XC.1 (Int.ofNat.inj ((by kernel_rfl : ZD (Zd3 a0 a1) [16, 1] = ((Zw a1 : Nat) : Int)).symm.trans z)); omega)
 ·have H0 : Csl (Zd3 a0 a1) fl_k0 := .cons h0 .nil
  have g0 := ((by kernel_rfl : ZD (Zd3 a0 a1) [16, 1] = ((Zw a1 : Nat) : Int)).symm.trans h0)
  refine Calls.mono (leaf _ H0 fl_p0) fun e w' ⟨v, S', q1, q2, blk, q3⟩ => ⟨v, S', q1, q2, ?_⟩
  cases q3 with
  | agg h4 =>
   exact ⟨_, rfl, (mixed_of (i := 0) (z := a0) (by kernel_rfl) h4).to (by rw [show a1 = 1 by have := @bitlen_one a1; omega, mkRat_one]) (show 1 * max k_z k_d + 0 ≤ _ by omega)⟩
 have H1 : Csl (Zd3 a0 a1) (fl_k1 nh0) := .cons h0 .nil
 rcases waysB (Zd3 a0 a1) (t := 16) (is := [3]) (by decide) with h1 | h1 | ⟨nh1, h1⟩
 ·exact absurd h1 (fun z => by have g := XC.1 (Int.ofNat.inj ((by kernel_rfl : ZD (Zd3 a0 a1) [16, 3] = ((Zw (Nat.gcd (a0).natAbs a1) : Nat) : Int)).symm.trans z)); omega)
 ·have h2 : ZD (Zd3 a0 a1) [18, 1, 4] = 1 := (by kernel_rfl : ZD (Zd3 a0 a1) [18, 1, 4] = (if 1 ≤ a1 then (1 : Int) else 0)).trans (if_pos (by first | omega | exact hdq))
  have H2 : Csl (Zd3 a0 a1) (fl_k2 nh0) := .cons h2 (.cons h1 H1)
  have g0 := ((by kernel_rfl : ZD (Zd3 a0 a1) [16, 1] = ((Zw a1 : Nat) : Int)).symm.trans h0)
  have g1 := ((by kernel_rfl : ZD (Zd3 a0 a1) [16, 3] = ((Zw (Nat.gcd (a0).natAbs a1) : Nat) : Int)).symm.trans h1)
  refine Calls.mono (leaf _ H2 (fl_p1 nh0)) fun e w' ⟨v, S', q1, q2, blk, q3⟩ => ⟨v, S', q1, q2, ?_⟩
  cases q3 with
  | agg h4 =>
   exact ⟨_, rfl, parts_of (i := 0) (j := 5) (K := 0) (z := a0) (n := (a1 - 1)) (by kernel_rfl) (by kernel_rfl) h4 ((mkRat_num0 hp (by have := @bitlen_gt1 (Nat.gcd a0.natAbs a1); omega)).1.symm) (by rw [(mkRat_num0 hp (by have := @bitlen_gt1 (Nat.gcd a0.natAbs a1); omega)).2]) (Nat.le_trans (Xc hp h_z.le) (YQ (by omega))) (Nat.le_trans (Xd hp h_d.1) (YQ (by omega)))⟩
 have h3 : ZD (Zd3 a0 a1) [5, 3] = 0 := (by kernel_rfl : ZD (Zd3 a0 a1) [5, 3] = (if (Nat.gcd (a0).natAbs a1) = 0 then (1 : Int) else 0)).trans (if_neg (by omega))
 have h4 : ZD (Zd3 a0 a1) [18, 9, 4] = 1 := (by kernel_rfl : ZD (Zd3 a0 a1) [18, 9, 4] = (if 1 ≤ (a1 / (Nat.gcd (a0).natAbs a1)) then (1 : Int) else 0)).trans (if_pos (by first | omega | exact hdq))
 have H3 : Csl (Zd3 a0 a1) (fl_k3 nh0 nh1) := .cons h4 (.cons h3 (.cons h1 H1))
 rcases Zd5 (Zd3 a0 a1) (t := 3) (is := [0]) (by decide) with h5 | h5 | h5; rotate_left
 ·have H4 : Csl (Zd3 a0 a1) (fl_k4 nh0 nh1) := .cons h5 H3
  have g0 := ((by kernel_rfl : ZD (Zd3 a0 a1) [16, 1] = ((Zw a1 : Nat) : Int)).symm.trans h0)
  have g1 := ((by kernel_rfl : ZD (Zd3 a0 a1) [16, 3] = ((Zw (Nat.gcd (a0).natAbs a1) : Nat) : Int)).symm.trans h1)
  have g2 := ((by kernel_rfl : ZD (Zd3 a0 a1) [3, 0] = Yx (a0)).symm.trans h5)
  refine Calls.mono (leaf _ H4 (fl_p4 nh0 nh1)) fun e w' ⟨v, S', q1, q2, blk, q3⟩ => ⟨v, S', q1, q2, ?_⟩
  cases q3 with
  | agg h4 =>
   exact ⟨_, rfl, parts_of (i := 12) (j := 11) (K := 0) (z := ((((a0).natAbs / (Nat.gcd (a0).natAbs a1)) : Nat) : Int)) (n := ((a1 / (Nat.gcd (a0).natAbs a1)) - 1)) (by kernel_rfl) (by kernel_rfl) h4 (Zcn hp false (by have := @Qm a0; simp; omega)) (by rw [mkRat_deng hp]) (Nat.le_trans (Xc hp h_z.le) (YQ (by omega))) (Nat.le_trans (Xd hp h_d.1) (YQ (by omega)))⟩
 ·have H5 : Csl (Zd3 a0 a1) (fl_k5 nh0 nh1) := .cons h5 H3
  have g0 := ((by kernel_rfl : ZD (Zd3 a0 a1) [16, 1] = ((Zw a1 : Nat) : Int)).symm.trans h0)
  have g1 := ((by kernel_rfl : ZD (Zd3 a0 a1) [16, 3] = ((Zw (Nat.gcd (a0).natAbs a1) : Nat) : Int)).symm.trans h1)
  have g2 := ((by kernel_rfl : ZD (Zd3 a0 a1) [3, 0] = Yx (a0)).symm.trans h5)
  refine Calls.mono (leaf _ H5 (fl_p3 nh0 nh1)) fun e w' ⟨v, S', q1, q2, blk, q3⟩ => ⟨v, S', q1, q2, ?_⟩
  cases q3 with
  | agg h4 =>
   exact ⟨_, rfl, parts_of (i := 12) (j := 11) (K := 0) (z := ((((a0).natAbs / (Nat.gcd (a0).natAbs a1)) : Nat) : Int)) (n := ((a1 / (Nat.gcd (a0).natAbs a1)) - 1)) (by kernel_rfl) (by kernel_rfl) h4 (Zcn hp false (by have := @Qm a0; simp; omega)) (by rw [mkRat_deng hp]) (Nat.le_trans (Xc hp h_z.le) (YQ (by omega))) (Nat.le_trans (Xd hp h_d.1) (YQ (by omega)))⟩
 have H6 : Csl (Zd3 a0 a1) (fl_k6 nh0 nh1) := .cons h5 H3
 have g0 := ((by kernel_rfl : ZD (Zd3 a0 a1) [16, 1] = ((Zw a1 : Nat) : Int)).symm.trans h0)
 have g1 := ((by kernel_rfl : ZD (Zd3 a0 a1) [16, 3] = ((Zw (Nat.gcd (a0).natAbs a1) : Nat) : Int)).symm.trans h1)
 have g2 := ((by kernel_rfl : ZD (Zd3 a0 a1) [3, 0] = Yx (a0)).symm.trans h5)
 refine Calls.mono (leaf _ H6 (fl_p2 nh0 nh1)) fun e w' ⟨v, S', q1, q2, blk, q3⟩ => ⟨v, S', q1, q2, ?_⟩
 cases q3 with
 | agg h4 =>
  exact ⟨_, rfl, parts_of (i := 8) (j := 11) (K := 0) (z := (-((((a0).natAbs / (Nat.gcd (a0).natAbs a1)) : Nat) : Int))) (n := ((a1 / (Nat.gcd (a0).natAbs a1)) - 1)) (by kernel_rfl) (by kernel_rfl) h4 (Zcn hp true (by have := @Qm a0; simp; omega)) (by rw [mkRat_deng hp]) (Nat.le_trans (Xc hp h_z.le) (YQ (by omega))) (Nat.le_trans (Xd hp h_d.1) (YQ (by omega)))⟩
end
end Go.Cham
namespace Go.Cham
open Go Go.RowKit Go.Proofs
noncomputable section
def pLow (T : Tb) : PrF Ato := fun l => match getA T [1, 0] l with
  | some is => match is with
    | [i, j] => match nzB T j with
      | true => opV T 78 270000000000 0 [i, j]
      | false => none
    | _ => none
  | none => none
section
variable {T : Tb} {K : Nat} {base ρ : Nat → AV} {bd : Nat → Nat} {T0 : Tb} {hT : Cs T0 ρ}
set_option maxRecDepth 100000 in
theorem pLow_ok (hg : YB T K base ρ bd) : Xp Tryz.prog (DS hT bd) 99 (pLow T) := by
  intro args r hr G w vs hd hS
  unfold pLow at hr
  split at hr
  · rename_i is his
    split at hr
    · rename_i i j
      split at hr
      · rename_i hz
        have hnz := nzB_ok hg hz
        obtain ⟨x, k1, v, x', k2, v', e1, e2, rfl, a1, a2, a3, a4⟩ := (Qe hg his hd).two
        simp only [List.map_cons, List.map_nil, List.cons.injEq, and_true] at e1 e2
        obtain ⟨rfl, rfl⟩ := e1
        obtain ⟨rfl, rfl⟩ := e2
        obtain ⟨c, rfl, h5⟩ := a2.z a1
        obtain ⟨d, rfl, h6⟩ := a4.n a3
        obtain ⟨l, rfl, g1, g2, g3, g4⟩ := Zdb hg hr (by decide)
        have b1 := g3 (bd i) (by simp)
        have b2 := g3 (bd j) (by simp)
        simp only [List.map_cons, List.map_nil] at g2 g4
        have b3 := sum2 g4
        refine .ret (by kernel_rfl) (Zay hS h5 h6 (Nat.pos_of_ne_zero hnz) (by omega)) fun S' v hv => YT g1 ?_
        obtain ⟨c0, e, hv⟩ := hv
        rw [g2]
        exact ⟨c0, e, hv.wide (by omega)⟩
      · cases hr
    · cases hr
  · cases hr
end
def baseZ (zs : List Int) : Nat → AV := fun i => .z (zs.getD i 0)
theorem bits0 {q : Rat} (h : ((Zw (q.den - 1) : Nat) : Int) = 0) : q.den = 1 := den_one (XC.1 (by omega))
theorem YM (q : Rat) : q.den - 1 + 1 = q.den := by have := q.den_pos; omega
def Zby (T : Tb) : List (Nat × PrF Ato) := [
  (76, pNatOf T), (90, pConst T 9), (82, pMakeW T), (99, pLow T),
  (137, pO T [0, 0] 36 500000000000 1),
  (80, pO T [0, 0] 24 500000000000 0),
  (98, pT T [0] 16 500000000000),
  (81, pO T [1, 1] 37 500000000000 0),
  (89, pO T [1, 1] 29 500000000000 1),
  (146, pO T [1, 1] 33 500000000000 1),
  (85, pO T [1] 25 500000000000 0),
  (113, pO T [1] 12 500000000000 0),
  (84, pT T [1] 3 500000000000),
  (124, pT T [1, 1] 17 500000000000)]
set_option maxRecDepth 100000 in
theorem QO : TabOK Zby := by
  intro T K base ρ bd T0 hT hg p hp
  simp only [Zby, List.mem_cons, List.not_mem_nil, or_false] at hp
  rcases hp with rfl | rfl | rfl | rfl | rfl | rfl | rfl | rfl | rfl | rfl | rfl | rfl | rfl | rfl
  · exact pNatOf_ok hg
  · exact pWOf_ok hg
  · exact pMakeW_ok hg
  · exact pLow_ok hg
  · exact pNN hg (by kernel_rfl) (by decide) (fun _ _ => rfl) fun hS h1 h2 h3 h4 => nat_Add hS h1 h2 (by omega) (by omega)
  · exact pNN hg (by kernel_rfl) (by decide) (fun _ _ => rfl) fun hS h1 h2 h3 h4 => nat_Mul hS h1 h2 (by omega) (by omega)
  · refine pT_ok hg (by kernel_rfl) fun S w vs xs ks hS hr hl => ?_
    obtain ⟨x, k1, v, rfl, rfl, rfl, h1, h2⟩ := hr.one
    obtain ⟨c, rfl, h5⟩ := h2.n h1
    exact Yw hS h5
  · exact pZZ hg (by kernel_rfl) (by decide) (fun _ _ => rfl) fun hS h1 h2 h3 h4 => whole_Mul hS h1 h2 (by omega) (by omega)
  · exact pZZ hg (by kernel_rfl) (by decide) (fun _ _ => rfl) fun hS h1 h2 h3 h4 => whole_Add hS h1 h2 (by omega) (by omega)
  · exact pZZ hg (by kernel_rfl) (by decide) (fun _ _ => rfl) fun hS h1 h2 h3 h4 => whole_Sub hS h1 h2 (by omega) (by omega)
  · exact pZz hg (by kernel_rfl) (by decide) (fun _ => rfl) fun hS h1 h2 => whole_Neg hS h1
  · exact pZn hg (by kernel_rfl) (by decide) (fun _ => rfl) fun hS h1 h2 => Za6 hS h1
  · refine pT_ok hg (by kernel_rfl) fun S w vs xs ks hS hr hl => ?_
    obtain ⟨x, k1, v, rfl, rfl, rfl, h1, h2⟩ := hr.one
    obtain ⟨c, rfl, h5⟩ := h2.z h1
    exact Ql hS h5
  · refine pT_ok hg (by kernel_rfl) fun S w vs xs ks hS hr hl => ?_
    obtain ⟨x, k1, v, x', k2, v', rfl, rfl, rfl, h1, h2, h3, h4⟩ := hr.two
    obtain ⟨c, rfl, h5⟩ := h2.z h1
    obtain ⟨d, rfl, h6⟩ := h4.z h3
    exact whole_Cmp hS h5 h6
end
end Go.Cham
namespace Go.Cham
open Go Go.RowKit Go.Proofs
noncomputable section
set_option maxRecDepth 100000
def frac_Add_r : List Rw := [⟨[2, 0], 1, 0⟩, ⟨[2, 1], 1, 0⟩, ⟨[44, 0], 1, 0⟩, ⟨[44, 1], 1, 0⟩, ⟨[13, 0], 1, 0⟩, ⟨[13, 1], 1, 0⟩, ⟨[29, 4, 5], 2, 1⟩, ⟨[4, 1], 0, 64⟩, ⟨[36, 3, 7], 1, 65⟩, ⟨[17, 8], 1, 65⟩, ⟨[37, 4, 9], 2, 65⟩, ⟨[36, 2, 7], 1, 65⟩, ⟨[17, 11], 1, 65⟩, ⟨[37, 5, 12], 2, 65⟩, ⟨[29, 10, 13], 4, 131⟩, ⟨[24, 11, 8], 2, 130⟩, ⟨[78, 14, 15], 6, 261⟩]
def QT (cs : CL) : Tb := ⟨frac_Add_r, cs, 50000000000⟩
def Zcy (cs : CL) (r : SV Ato) : Prop := RunT Zby (QT cs) 25 [.agg (cQs [0]), .agg (cQs [1])] r 100
def XQ (a0 a1 : Rat) : Nat → AV := rho (QT []) (Zc8 [a0, a1])
def frac_Add_k0 (nh0 : Nat) : CL := ([16, 2], .ofNat (.succ nh0)) :: []
theorem frac_Add_p2 (nh0 : Nat) : Zcy (frac_Add_k0 nh0) (.agg (cQs [16])) := fun _ _ _ => by kernel_rfl
def Zdu : CL := ([16, 2], 0) :: []
def frac_Add_k2 (nh1 : Nat) : CL := ([16, 3], .ofNat (.succ nh1)) :: Zdu
theorem frac_Add_p1 (nh1 : Nat) : Zcy (frac_Add_k2 nh1) (.agg (cQs [16])) := fun _ _ _ => by kernel_rfl
def frac_Add_k3 : CL := ([16, 3], 0) :: Zdu
theorem frac_Add_p0 : Zcy frac_Add_k3 (.agg [.at_ (.s 6), .at_ (.a 6), .int .u64 0, .sl none 0 0]) := fun _ _ _ => by kernel_rfl
theorem frac_Add_s {S : Sh} {w : World} (hS : Ya S w) {c_a : List Value} {a0 : Rat} {k_a : Nat} (h_a : Fs S c_a [a0] (k_a)) {c_b : List Value} {a1 : Rat} {k_b : Nat} (h_b : Fs S c_b [a1] (k_b)) (hlim : k_a ≤ 50000000000) (hlim2 : k_b ≤ 50000000000) : Calls Tryz.prog 25 [(.agg (c_a : List Value).toArray), (.agg (c_b : List Value).toArray)].toArray w (Ret S w (fun S v => ∃ (c0 : List Value), v = .agg c0.toArray ∧ Fs S c0 [a0 + a1] (k_a + k_b + 1))) := by
 have leaf := fun cs hc {r} (h : Zcy cs r) => QV QO (K := max k_a k_b) (base := (Zc8 [a0, a1])) (by kernel_rfl) (by omega) (by kernel_rfl) hS (fun _ _ => .cons (.agg (XW (is := [0]) (qs := [a0]) (k := max k_a k_b) ⟨by kernel_rfl, le1 _, trivial⟩ (h_a.wide (by omega)))) (.cons (.agg (XW (is := [1]) (qs := [a1]) (k := max k_a k_b) ⟨by kernel_rfl, le1 _, trivial⟩ (h_b.wide (by omega)))) .nil)) cs hc h
 rcases XX (XQ a0 a1) (t := 16) (is := [2]) (by decide) with h0 | ⟨nh0, h0⟩; rotate_left
 ·have H0 : Csl (XQ a0 a1) (frac_Add_k0 nh0) := .cons h0 .nil
  refine Calls.mono (leaf _ H0 (frac_Add_p2 nh0)) fun e w' ⟨v, S', q1, q2, blk, q3⟩ => ⟨v, S', q1, q2, ?_⟩
  cases q3 with
  | agg h4 =>
   have h9 := (Zab (bd := Zcb (QT []) (max k_a k_b)) (is := [16]) (qs := [(mkRat ((a0.num * ((((a1.den - 1) + 1) : Nat) : Int)) + (a1.num * ((((a0.den - 1) + 1) : Nat) : Int))) (((a0.den - 1) + 1) * ((a1.den - 1) + 1)))]) (k := Zcb (QT []) (max k_a k_b) 16) ⟨by kernel_rfl, Nat.le_refl _, trivial⟩ h4)
   exact ⟨_, rfl, h9.toR (by rw [YM, YM, mkRat_add]) (add_bd h_a.num_le h_a.den_le h_b.num_le h_b.den_le)⟩
 have H1 : Csl (XQ a0 a1) Zdu := .cons h0 .nil
 rcases XX (XQ a0 a1) (t := 16) (is := [3]) (by decide) with h1 | ⟨nh1, h1⟩; rotate_left
 ·have H2 : Csl (XQ a0 a1) (frac_Add_k2 nh1) := .cons h1 H1
  refine Calls.mono (leaf _ H2 (frac_Add_p1 nh1)) fun e w' ⟨v, S', q1, q2, blk, q3⟩ => ⟨v, S', q1, q2, ?_⟩
  cases q3 with
  | agg h4 =>
   have h9 := (Zab (bd := Zcb (QT []) (max k_a k_b)) (is := [16]) (qs := [(mkRat ((a0.num * ((((a1.den - 1) + 1) : Nat) : Int)) + (a1.num * ((((a0.den - 1) + 1) : Nat) : Int))) (((a0.den - 1) + 1) * ((a1.den - 1) + 1)))]) (k := Zcb (QT []) (max k_a k_b) 16) ⟨by kernel_rfl, Nat.le_refl _, trivial⟩ h4)
   exact ⟨_, rfl, h9.toR (by rw [YM, YM, mkRat_add]) (add_bd h_a.num_le h_a.den_le h_b.num_le h_b.den_le)⟩
 have H3 : Csl (XQ a0 a1) frac_Add_k3 := .cons h1 H1
 have g0 := ((by kernel_rfl : ZD (XQ a0 a1) [16, 2] = ((Zw (a0.den - 1) : Nat) : Int)).symm.trans h0)
 have g1 := ((by kernel_rfl : ZD (XQ a0 a1) [16, 3] = ((Zw (a1.den - 1) : Nat) : Int)).symm.trans h1)
 refine Calls.mono (leaf _ H3 frac_Add_p0) fun e w' ⟨v, S', q1, q2, blk, q3⟩ => ⟨v, S', q1, q2, ?_⟩
 cases q3 with
 | agg h4 =>
  have h9 := mixed_of (i := 6) (z := (a0.num + a1.num)) (by kernel_rfl) h4
  exact ⟨_, rfl, h9.toR (by rw [cast_add' (bits0 g0) (bits0 g1)]) (add_bd h_a.num_le h_a.den_le h_b.num_le h_b.den_le)⟩
def frac_Sub_r : List Rw := [⟨[2, 0], 1, 0⟩, ⟨[2, 1], 1, 0⟩, ⟨[44, 0], 1, 0⟩, ⟨[44, 1], 1, 0⟩, ⟨[13, 0], 1, 0⟩, ⟨[13, 1], 1, 0⟩, ⟨[33, 4, 5], 2, 1⟩, ⟨[4, 1], 0, 64⟩, ⟨[36, 3, 7], 1, 65⟩, ⟨[17, 8], 1, 65⟩, ⟨[37, 4, 9], 2, 65⟩, ⟨[36, 2, 7], 1, 65⟩, ⟨[17, 11], 1, 65⟩, ⟨[37, 5, 12], 2, 65⟩, ⟨[33, 10, 13], 4, 131⟩, ⟨[24, 11, 8], 2, 130⟩, ⟨[78, 14, 15], 6, 261⟩]
def QQ (cs : CL) : Tb := ⟨frac_Sub_r, cs, 50000000000⟩
def Zcu (cs : CL) (r : SV Ato) : Prop := RunT Zby (QQ cs) 93 [.agg (cQs [0]), .agg (cQs [1])] r 100
def XO (a0 a1 : Rat) : Nat → AV := rho (QQ []) (Zc8 [a0, a1])
def frac_Sub_k0 (nh0 : Nat) : CL := ([16, 2], .ofNat (.succ nh0)) :: []
theorem frac_Sub_p2 (nh0 : Nat) : Zcu (frac_Sub_k0 nh0) (.agg (cQs [16])) := fun _ _ _ => by kernel_rfl
def Zdr : CL := ([16, 2], 0) :: []
def frac_Sub_k2 (nh1 : Nat) : CL := ([16, 3], .ofNat (.succ nh1)) :: Zdr
theorem frac_Sub_p1 (nh1 : Nat) : Zcu (frac_Sub_k2 nh1) (.agg (cQs [16])) := fun _ _ _ => by kernel_rfl
def frac_Sub_k3 : CL := ([16, 3], 0) :: Zdr
theorem frac_Sub_p0 : Zcu frac_Sub_k3 (.agg [.at_ (.s 6), .at_ (.a 6), .int .u64 0, .sl none 0 0]) := fun _ _ _ => by kernel_rfl
theorem frac_Sub_s {S : Sh} {w : World} (hS : Ya S w) {c_a : List Value} {a0 : Rat} {k_a : Nat} (h_a : Fs S c_a [a0] (k_a)) {c_b : List Value} {a1 : Rat} {k_b : Nat} (h_b : Fs S c_b [a1] (k_b)) (hlim : k_a ≤ 50000000000) (hlim2 : k_b ≤ 50000000000) : Calls Tryz.prog 93 [(.agg (c_a : List Value).toArray), (.agg (c_b : List Value).toArray)].toArray w (Ret S w (fun S v => ∃ (c0 : List Value), v = .agg c0.toArray ∧ Fs S c0 [a0 - a1] (k_a + k_b + 1))) := by
 have leaf := fun cs hc {r} (h : Zcu cs r) => QV QO (K := max k_a k_b) (base := (Zc8 [a0, a1])) (by kernel_rfl) (by omega) (by kernel_rfl) hS (fun _ _ => .cons (.agg (XW (is := [0]) (qs := [a0]) (k := max k_a k_b) ⟨by kernel_rfl, le1 _, trivial⟩ (h_a.wide (by omega)))) (.cons (.agg (XW (is := [1]) (qs := [a1]) (k := max k_a k_b) ⟨by kernel_rfl, le1 _, trivial⟩ (h_b.wide (by omega)))) .nil)) cs hc h
 rcases XX (XO a0 a1) (t := 16) (is := [2]) (by decide) with h0 | ⟨nh0, h0⟩; rotate_left
 ·have H0 : Csl (XO a0 a1) (frac_Sub_k0 nh0) := .cons h0 .nil
  refine Calls.mono (leaf _ H0 (frac_Sub_p2 nh0)) fun e w' ⟨v, S', q1, q2, blk, q3⟩ => ⟨v, S', q1, q2, ?_⟩
  cases q3 with
  | agg h4 =>
   have h9 := (Zab (bd := Zcb (QQ []) (max k_a k_b)) (is := [16]) (qs := [(mkRat ((a0.num * ((((a1.den - 1) + 1) : Nat) : Int)) - (a1.num * ((((a0.den - 1) + 1) : Nat) : Int))) (((a0.den - 1) + 1) * ((a1.den - 1) + 1)))]) (k := Zcb (QQ []) (max k_a k_b) 16) ⟨by kernel_rfl, Nat.le_refl _, trivial⟩ h4)
   exact ⟨_, rfl, h9.toR (by rw [YM, YM, mkRat_sub]) (sub_bd h_a.num_le h_a.den_le h_b.num_le h_b.den_le)⟩
 have H1 : Csl (XO a0 a1) Zdr := .cons h0 .nil
 rcases XX (XO a0 a1) (t := 16) (is := [3]) (by decide) with h1 | ⟨nh1, h1⟩; rotate_left
 ·have H2 : Csl (XO a0 a1) (frac_Sub_k2 nh1) := .cons h1 H1
  refine Calls.mono (leaf _ H2 (frac_Sub_p1 nh1)) fun e w' ⟨v, S', q1, q2, blk, q3⟩ => ⟨v, S', q1, q2, ?_⟩
  cases q3 with
  | agg h4 =>
   have h9 := (Zab (bd := Zcb (QQ []) (max k_a k_b)) (is := [16]) (qs := [(mkRat ((a0.num * ((((a1.den - 1) + 1) : Nat) : Int)) - (a1.num * ((((a0.den - 1) + 1) : Nat) : Int))) (((a0.den - 1) + 1) * ((a1.den - 1) + 1)))]) (k := Zcb (QQ []) (max k_a k_b) 16) ⟨by kernel_rfl, Nat.le_refl _, trivial⟩ h4)
   exact ⟨_, rfl, h9.toR (by rw [YM, YM, mkRat_sub]) (sub_bd h_a.num_le h_a.den_le h_b.num_le h_b.den_le)⟩
 have H3 : Csl (XO a0 a1) frac_Sub_k3 := .cons h1 H1
 have g0 := ((by kernel_rfl : ZD (XO a0 a1) [16, 2] = ((Zw (a0.den - 1) : Nat) : Int)).symm.trans h0)
 have g1 := ((by kernel_rfl : ZD (XO a0 a1) [16, 3] = ((Zw (a1.den - 1) : Nat) : Int)).symm.trans h1)
 refine Calls.mono (leaf _ H3 frac_Sub_p0) fun e w' ⟨v, S', q1, q2, blk, q3⟩ => ⟨v, S', q1, q2, ?_⟩
 cases q3 with
 | agg h4 =>
  have h9 := mixed_of (i := 6) (z := (a0.num - a1.num)) (by kernel_rfl) h4
  exact ⟨_, rfl, h9.toR (by rw [cast_sub' (bits0 g0) (bits0 g1)]) (sub_bd h_a.num_le h_a.den_le h_b.num_le h_b.den_le)⟩
def frac_Mul_r : List Rw := [⟨[2, 0], 1, 0⟩, ⟨[2, 1], 1, 0⟩, ⟨[13, 0], 1, 0⟩, ⟨[13, 1], 1, 0⟩, ⟨[37, 2, 3], 2, 0⟩, ⟨[44, 0], 1, 0⟩, ⟨[44, 1], 1, 0⟩, ⟨[4, 1], 0, 64⟩, ⟨[36, 5, 7], 1, 65⟩, ⟨[36, 6, 7], 1, 65⟩, ⟨[24, 8, 9], 2, 130⟩, ⟨[78, 4, 10], 4, 130⟩]
def QR (cs : CL) : Tb := ⟨frac_Mul_r, cs, 50000000000⟩
def Zcv (cs : CL) (r : SV Ato) : Prop := RunT Zby (QR cs) 37 [.agg (cQs [0]), .agg (cQs [1])] r 100
def XP (a0 a1 : Rat) : Nat → AV := rho (QR []) (Zc8 [a0, a1])
def frac_Mul_k0 (nh0 : Nat) : CL := ([16, 5], .ofNat (.succ nh0)) :: []
theorem frac_Mul_p2 (nh0 : Nat) : Zcv (frac_Mul_k0 nh0) (.agg (cQs [11])) := fun _ _ _ => by kernel_rfl
def Zds : CL := ([16, 5], 0) :: []
def frac_Mul_k2 (nh1 : Nat) : CL := ([16, 6], .ofNat (.succ nh1)) :: Zds
theorem frac_Mul_p1 (nh1 : Nat) : Zcv (frac_Mul_k2 nh1) (.agg (cQs [11])) := fun _ _ _ => by kernel_rfl
def frac_Mul_k3 : CL := ([16, 6], 0) :: Zds
theorem frac_Mul_p0 : Zcv frac_Mul_k3 (.agg [.at_ (.s 4), .at_ (.a 4), .int .u64 0, .sl none 0 0]) := fun _ _ _ => by kernel_rfl
theorem frac_Mul_s {S : Sh} {w : World} (hS : Ya S w) {c_a : List Value} {a0 : Rat} {k_a : Nat} (h_a : Fs S c_a [a0] (k_a)) {c_b : List Value} {a1 : Rat} {k_b : Nat} (h_b : Fs S c_b [a1] (k_b)) (hlim : k_a ≤ 50000000000) (hlim2 : k_b ≤ 50000000000) : Calls Tryz.prog 37 [(.agg (c_a : List Value).toArray), (.agg (c_b : List Value).toArray)].toArray w (Ret S w (fun S v => ∃ (c0 : List Value), v = .agg c0.toArray ∧ Fs S c0 [a0 * a1] (k_a + k_b))) := by
 have leaf := fun cs hc {r} (h : Zcv cs r) => QV QO (K := max k_a k_b) (base := (Zc8 [a0, a1])) (by kernel_rfl) (by omega) (by kernel_rfl) hS (fun _ _ => .cons (.agg (XW (is := [0]) (qs := [a0]) (k := max k_a k_b) ⟨by kernel_rfl, le1 _, trivial⟩ (h_a.wide (by omega)))) (.cons (.agg (XW (is := [1]) (qs := [a1]) (k := max k_a k_b) ⟨by kernel_rfl, le1 _, trivial⟩ (h_b.wide (by omega)))) .nil)) cs hc h
 rcases XX (XP a0 a1) (t := 16) (is := [5]) (by decide) with h0 | ⟨nh0, h0⟩; rotate_left
 ·have H0 : Csl (XP a0 a1) (frac_Mul_k0 nh0) := .cons h0 .nil
  refine Calls.mono (leaf _ H0 (frac_Mul_p2 nh0)) fun e w' ⟨v, S', q1, q2, blk, q3⟩ => ⟨v, S', q1, q2, ?_⟩
  cases q3 with
  | agg h4 =>
   have h9 := (Zab (bd := Zcb (QR []) (max k_a k_b)) (is := [11]) (qs := [(mkRat (a0.num * a1.num) (((a0.den - 1) + 1) * ((a1.den - 1) + 1)))]) (k := Zcb (QR []) (max k_a k_b) 11) ⟨by kernel_rfl, Nat.le_refl _, trivial⟩ h4)
   exact ⟨_, rfl, h9.toR (by rw [YM, YM, mkRat_mul]) (mul_bd h_a.num_le h_a.den_le h_b.num_le h_b.den_le)⟩
 have H1 : Csl (XP a0 a1) Zds := .cons h0 .nil
 rcases XX (XP a0 a1) (t := 16) (is := [6]) (by decide) with h1 | ⟨nh1, h1⟩; rotate_left
 ·have H2 : Csl (XP a0 a1) (frac_Mul_k2 nh1) := .cons h1 H1
  refine Calls.mono (leaf _ H2 (frac_Mul_p1 nh1)) fun e w' ⟨v, S', q1, q2, blk, q3⟩ => ⟨v, S', q1, q2, ?_⟩
  cases q3 with
  | agg h4 =>
   have h9 := (Zab (bd := Zcb (QR []) (max k_a k_b)) (is := [11]) (qs := [(mkRat (a0.num * a1.num) (((a0.den - 1) + 1) * ((a1.den - 1) + 1)))]) (k := Zcb (QR []) (max k_a k_b) 11) ⟨by kernel_rfl, Nat.le_refl _, trivial⟩ h4)
   exact ⟨_, rfl, h9.toR (by rw [YM, YM, mkRat_mul]) (mul_bd h_a.num_le h_a.den_le h_b.num_le h_b.den_le)⟩
 have H3 : Csl (XP a0 a1) frac_Mul_k3 := .cons h1 H1
 have g0 := ((by kernel_rfl : ZD (XP a0 a1) [16, 5] = ((Zw (a0.den - 1) : Nat) : Int)).symm.trans h0)
 have g1 := ((by kernel_rfl : ZD (XP a0 a1) [16, 6] = ((Zw (a1.den - 1) : Nat) : Int)).symm.trans h1)
 refine Calls.mono (leaf _ H3 frac_Mul_p0) fun e w' ⟨v, S', q1, q2, blk, q3⟩ => ⟨v, S', q1, q2, ?_⟩
 cases q3 with
 | agg h4 =>
  have h9 := mixed_of (i := 4) (z := (a0.num * a1.num)) (by kernel_rfl) h4
  exact ⟨_, rfl, h9.toR (by rw [cast_mul' (bits0 g0) (bits0 g1)]) (mul_bd h_a.num_le h_a.den_le h_b.num_le h_b.den_le)⟩
def frac_Cmp_r : List Rw := [⟨[2, 0], 1, 0⟩, ⟨[2, 1], 1, 0⟩, ⟨[44, 0], 1, 0⟩, ⟨[44, 1], 1, 0⟩, ⟨[13, 0], 1, 0⟩, ⟨[13, 1], 1, 0⟩, ⟨[4, 1], 0, 64⟩, ⟨[36, 3, 6], 1, 65⟩, ⟨[17, 7], 1, 65⟩, ⟨[37, 4, 8], 2, 65⟩, ⟨[36, 2, 6], 1, 65⟩, ⟨[17, 10], 1, 65⟩, ⟨[37, 5, 11], 2, 65⟩]
def frac_Cmp_T (cs : CL) : Tb := ⟨frac_Cmp_r, cs, 100000000000⟩
def Zcx (cs : CL) (r : SV Ato) : Prop := RunT Zby (frac_Cmp_T cs) 60 [.agg (cQs [0]), .agg (cQs [1])] r 100
def YK (a0 a1 : Rat) : Nat → AV := rho (frac_Cmp_T []) (Zc8 [a0, a1])
def frac_Cmp_k0 (nh0 : Nat) : CL := ([16, 2], .ofNat (.succ nh0)) :: []
theorem frac_Cmp_p2 (nh0 : Nat) (z0 : Int) : Zcx (([17, 9, 12], z0) :: (frac_Cmp_k0 nh0)) (.int .i64 z0) := fun _ _ _ => by kernel_rfl
def Zdt : CL := ([16, 2], 0) :: []
def frac_Cmp_k2 (nh1 : Nat) : CL := ([16, 3], .ofNat (.succ nh1)) :: Zdt
theorem frac_Cmp_p1 (nh1 : Nat) (z0 : Int) : Zcx (([17, 9, 12], z0) :: (frac_Cmp_k2 nh1)) (.int .i64 z0) := fun _ _ _ => by kernel_rfl
def frac_Cmp_k3 : CL := ([16, 3], 0) :: Zdt
theorem frac_Cmp_p0 (z0 : Int) : Zcx (([17, 4, 5], z0) :: frac_Cmp_k3) (.int .i64 z0) := fun _ _ _ => by kernel_rfl
theorem frac_Cmp_s {S : Sh} {w : World} (hS : Ya S w) {c_a : List Value} {a0 : Rat} {k_a : Nat} (h_a : Fs S c_a [a0] (k_a)) {c_b : List Value} {a1 : Rat} {k_b : Nat} (h_b : Fs S c_b [a1] (k_b)) (hlim : k_a ≤ 100000000000) (hlim2 : k_b ≤ 100000000000) : Calls Tryz.prog 60 [(.agg (c_a : List Value).toArray), (.agg (c_b : List Value).toArray)].toArray w (Ret S w (fun S v => v = .int .i64 (Xo a0 a1))) := by
 have leaf := fun cs hc {r} (h : Zcx cs r) => QV QO (K := max k_a k_b) (base := (Zc8 [a0, a1])) (by kernel_rfl) (by omega) (by kernel_rfl) hS (fun _ _ => .cons (.agg (XW (is := [0]) (qs := [a0]) (k := max k_a k_b) ⟨by kernel_rfl, le1 _, trivial⟩ (h_a.wide (by omega)))) (.cons (.agg (XW (is := [1]) (qs := [a1]) (k := max k_a k_b) ⟨by kernel_rfl, le1 _, trivial⟩ (h_b.wide (by omega)))) .nil)) cs hc h
 rcases XX (YK a0 a1) (t := 16) (is := [2]) (by decide) with h0 | ⟨nh0, h0⟩; rotate_left
 ·have H0 : Csl (YK a0 a1) (frac_Cmp_k0 nh0) := .cons h0 .nil
  refine Calls.mono (leaf _ (.cons (show ZD (YK a0 a1) [17, 9, 12] = _ from rfl) H0) (frac_Cmp_p2 nh0 _)) fun e w' ⟨v, S', q1, q2, blk, q3⟩ => ⟨v, S', q1, q2, ?_⟩
  cases q3
  exact congrArg (Value.int .i64) (((by kernel_rfl : ZD (YK a0 a1) [17, 9, 12] = cmpZ (a0.num * ((((a1.den - 1) + 1) : Nat) : Int)) (a1.num * ((((a0.den - 1) + 1) : Nat) : Int)))).trans ((by rw [YM, YM] : cmpZ (a0.num * ((((a1.den - 1) + 1) : Nat) : Int)) (a1.num * ((((a0.den - 1) + 1) : Nat) : Int)) = cmpZ (a0.num * (a1.den : Int)) (a1.num * (a0.den : Int))).trans cmpQ_den))
 have H1 : Csl (YK a0 a1) Zdt := .cons h0 .nil
 rcases XX (YK a0 a1) (t := 16) (is := [3]) (by decide) with h1 | ⟨nh1, h1⟩; rotate_left
 ·have H2 : Csl (YK a0 a1) (frac_Cmp_k2 nh1) := .cons h1 H1
  refine Calls.mono (leaf _ (.cons (show ZD (YK a0 a1) [17, 9, 12] = _ from rfl) H2) (frac_Cmp_p1 nh1 _)) fun e w' ⟨v, S', q1, q2, blk, q3⟩ => ⟨v, S', q1, q2, ?_⟩
  cases q3
  exact congrArg (Value.int .i64) (((by kernel_rfl : ZD (YK a0 a1) [17, 9, 12] = cmpZ (a0.num * ((((a1.den - 1) + 1) : Nat) : Int)) (a1.num * ((((a0.den - 1) + 1) : Nat) : Int)))).trans ((by rw [YM, YM] : cmpZ (a0.num * ((((a1.den - 1) + 1) : Nat) : Int)) (a1.num * ((((a0.den - 1) + 1) : Nat) : Int)) = cmpZ (a0.num * (a1.den : Int)) (a1.num * (a0.den : Int))).trans cmpQ_den))
 have H3 : Csl (YK a0 a1) frac_Cmp_k3 := .cons h1 H1
 have g0 := ((by kernel_rfl : ZD (YK a0 a1) [16, 2] = ((Zw (a0.den - 1) : Nat) : Int)).symm.trans h0)
 have g1 := ((by kernel_rfl : ZD (YK a0 a1) [16, 3] = ((Zw (a1.den - 1) : Nat) : Int)).symm.trans h1)
 refine Calls.mono (leaf _ (.cons (show ZD (YK a0 a1) [17, 4, 5] = _ from rfl) H3) (frac_Cmp_p0 _)) fun e w' ⟨v, S', q1, q2, blk, q3⟩ => ⟨v, S', q1, q2, ?_⟩
 cases q3
 exact congrArg (Value.int .i64) (((by kernel_rfl : ZD (YK a0 a1) [17, 4, 5] = cmpZ a0.num a1.num)).trans (cmpQ_int (bits0 g0) (bits0 g1)))
def frac_Div_r : List Rw := [⟨[2, 0], 1, 0⟩, ⟨[2, 1], 1, 0⟩, ⟨[13, 1], 1, 0⟩, ⟨[9, 1, 1], 0, 64⟩, ⟨[13, 0], 1, 0⟩, ⟨[37, 4, 3], 1, 64⟩, ⟨[4, 1], 0, 64⟩, ⟨[44, 1], 1, 0⟩, ⟨[36, 7, 6], 1, 65⟩, ⟨[17, 8], 1, 65⟩, ⟨[37, 5, 9], 2, 129⟩, ⟨[44, 0], 1, 0⟩, ⟨[36, 11, 6], 1, 65⟩, ⟨[12, 2], 1, 0⟩, ⟨[24, 12, 13], 2, 65⟩, ⟨[78, 10, 14], 4, 194⟩, ⟨[9, 1, 0], 0, 64⟩, ⟨[37, 4, 16], 1, 64⟩, ⟨[37, 17, 9], 2, 129⟩, ⟨[78, 18, 14], 4, 194⟩]
def QS (cs : CL) : Tb := ⟨frac_Div_r, cs, 50000000000⟩
def Zcw (cs : CL) (r : SV Ato) : Prop := RunT Zby (QS cs) 46 [.agg (cQs [0]), .agg (cQs [1])] r 100
def YW (a0 a1 : Rat) : Nat → AV := rho (QS []) (Zc8 [a0, a1])
def frac_Div_k0 : CL := ([3, 2], 0) :: []
theorem frac_Div_p2 : Zcw frac_Div_k0 (.tup [.agg [.bool false, .int .u64 0, .sl none 0 0, .int .u64 0, .sl none 0 0], .int .i64 11]) := fun _ _ _ => by kernel_rfl
def frac_Div_k1 : CL := ([5, 14], 0) :: ([3, 2], 1) :: []
theorem frac_Div_p1 : Zcw frac_Div_k1 (.tup [.agg (cQs [19]), .int .i64 0]) := fun _ _ _ => by kernel_rfl
def frac_Div_k2 : CL := ([5, 14], 0) :: ([3, 2], (-1)) :: []
theorem frac_Div_p0 : Zcw frac_Div_k2 (.tup [.agg (cQs [15]), .int .i64 0]) := fun _ _ _ => by kernel_rfl
theorem frac_Div_s {S : Sh} {w : World} (hS : Ya S w) {c_a : List Value} {a0 : Rat} {k_a : Nat} (h_a : Fs S c_a [a0] (k_a)) {c_b : List Value} {a1 : Rat} {k_b : Nat} (h_b : Fs S c_b [a1] (k_b)) (hlim : k_a ≤ 50000000000) (hlim2 : k_b ≤ 50000000000) : Calls Tryz.prog 46 [(.agg (c_a : List Value).toArray), (.agg (c_b : List Value).toArray)].toArray w (Ret S w (fun S v => ((a1.num = 0) ∧ ∃ (c0 : List Value), v = .tuple [.agg c0.toArray, .int .i64 (11)].toArray ∧ Fs S c0 [0] (0)) ∨ ((a1.num ≠ 0) ∧ ∃ (c0 : List Value), v = .tuple [.agg c0.toArray, .int .i64 (0)].toArray ∧ Fs S c0 [a0 / a1] (k_a + k_b)))) := by
 have leaf := fun cs hc {r} (h : Zcw cs r) => QV QO (K := max k_a k_b) (base := (Zc8 [a0, a1])) (by kernel_rfl) (by omega) (by kernel_rfl) hS (fun _ _ => .cons (.agg (XW (is := [0]) (qs := [a0]) (k := max k_a k_b) ⟨by kernel_rfl, le1 _, trivial⟩ (h_a.wide (by omega)))) (.cons (.agg (XW (is := [1]) (qs := [a1]) (k := max k_a k_b) ⟨by kernel_rfl, le1 _, trivial⟩ (h_b.wide (by omega)))) .nil)) cs hc h
 rcases Zd5 (YW a0 a1) (t := 3) (is := [2]) (by decide) with h0 | h0 | h0; rotate_left
 ·have H0 : Csl (YW a0 a1) frac_Div_k0 := .cons h0 .nil
  have g0 := ((by kernel_rfl : ZD (YW a0 a1) [3, 2] = Yx (a1.num)).symm.trans h0)
  have gz := Yp (z := a1.num); have gn := Qm (z := a1.num)
  refine Calls.mono (leaf _ H0 frac_Div_p2) fun e w' ⟨v, S', q1, q2, blk, q3⟩ => ⟨v, S', q1, q2, ?_⟩
  cases q3 with
  | tup h5 => cases h5 with
   | cons h6 h7 => cases h7 with
    | cons h7 h8 =>
     cases h8
     cases h7
     rw [XB (v := .agg [.bool false, .int .u64 0, .slice none 0 0, .int .u64 0, .slice none 0 0].toArray) rfl h6]
     exact .inl ⟨by omega, _, rfl, Fs.zero _ _⟩
 ·have h1 : ZD (YW a0 a1) [5, 14] = 0 := (by kernel_rfl : ZD (YW a0 a1) [5, 14] = (if (((a0.den - 1) + 1) * (a1.num).natAbs) = 0 then (1 : Int) else 0)).trans (if_neg (Nat.mul_ne_zero (Nat.succ_ne_zero _) (by have g := ((by kernel_rfl : ZD (YW a0 a1) [3, 2] = Yx (a1.num)).symm.trans h0); have g2 := Yp (z := a1.num); omega)))
  have H1 : Csl (YW a0 a1) frac_Div_k1 := .cons h1 (.cons h0 .nil)
  have g0 := ((by kernel_rfl : ZD (YW a0 a1) [3, 2] = Yx (a1.num)).symm.trans h0)
  have gz := Yp (z := a1.num); have gn := Qm (z := a1.num)
  refine Calls.mono (leaf _ H1 frac_Div_p1) fun e w' ⟨v, S', q1, q2, blk, q3⟩ => ⟨v, S', q1, q2, ?_⟩
  cases q3 with
  | tup h5 => cases h5 with
   | cons h6 h7 => cases h7 with
    | cons h7 h8 =>
     cases h8
     cases h7
     cases h6 with
     | agg h4 =>
      have h9 := (Zab (bd := Zcb (QS []) (max k_a k_b)) (is := [19]) (qs := [(mkRat ((a0.num * (1 : Int)) * ((((a1.den - 1) + 1) : Nat) : Int)) (((a0.den - 1) + 1) * (a1.num).natAbs))]) (k := Zcb (QS []) (max k_a k_b) 19) ⟨by kernel_rfl, Nat.le_refl _, trivial⟩ h4)
      refine .inr ⟨by omega, _, rfl, h9.toR ?_ (div_bd h_a.num_le h_a.den_le h_b.num_le h_b.den_le (by omega))⟩
      rw [YM, YM, ← mkRat_div (by omega), g0]
 have h2 : ZD (YW a0 a1) [5, 14] = 0 := (by kernel_rfl : ZD (YW a0 a1) [5, 14] = (if (((a0.den - 1) + 1) * (a1.num).natAbs) = 0 then (1 : Int) else 0)).trans (if_neg (Nat.mul_ne_zero (Nat.succ_ne_zero _) (by have g := ((by kernel_rfl : ZD (YW a0 a1) [3, 2] = Yx (a1.num)).symm.trans h0); have g2 := Yp (z := a1.num); omega)))
 have H2 : Csl (YW a0 a1) frac_Div_k2 := .cons h2 (.cons h0 .nil)
 have g0 := ((by kernel_rfl : ZD (YW a0 a1) [3, 2] = Yx (a1.num)).symm.trans h0)
 have gz := Yp (z := a1.num); have gn := Qm (z := a1.num)
 refine Calls.mono (leaf _ H2 frac_Div_p0) fun e w' ⟨v, S', q1, q2, blk, q3⟩ => ⟨v, S', q1, q2, ?_⟩
 cases q3 with
 | tup h5 => cases h5 with
  | cons h6 h7 => cases h7 with
   | cons h7 h8 =>
    cases h8
    cases h7
    cases h6 with
    | agg h4 =>
     have h9 := (Zab (bd := Zcb (QS []) (max k_a k_b)) (is := [15]) (qs := [(mkRat ((a0.num * ((-1) : Int)) * ((((a1.den - 1) + 1) : Nat) : Int)) (((a0.den - 1) + 1) * (a1.num).natAbs))]) (k := Zcb (QS []) (max k_a k_b) 15) ⟨by kernel_rfl, Nat.le_refl _, trivial⟩ h4)
     refine .inr ⟨by omega, _, rfl, h9.toR ?_ (div_bd h_a.num_le h_a.den_le h_b.num_le h_b.den_le (by omega))⟩
     rw [YM, YM, ← mkRat_div (by omega), g0]
def frac_Make_r : List Rw := [⟨[1, 0], 1, 0⟩, ⟨[1, 1], 1, 0⟩, ⟨[25, 0], 1, 0⟩, ⟨[12, 1], 1, 0⟩, ⟨[78, 2, 3], 2, 0⟩, ⟨[78, 0, 3], 2, 0⟩]
def Qf (cs : CL) : Tb := ⟨frac_Make_r, cs, 50000000000⟩
def Zbi (cs : CL) (r : SV Ato) : Prop := RunT Zby (Qf cs) 65 [.agg [.at_ (.s 0), .at_ (.a 0)], .agg [.at_ (.s 1), .at_ (.a 1)]] r 100
def YD (a0 a1 : Int) : Nat → AV := rho (Qf []) (baseZ [a0, a1])
def frac_Make_k0 : CL := ([3, 1], 0) :: []
theorem frac_Make_p2 : Zbi frac_Make_k0 (.tup [.agg [.bool false, .int .u64 0, .sl none 0 0, .int .u64 0, .sl none 0 0], .int .i64 11]) := fun _ _ _ => by kernel_rfl
def frac_Make_k1 : CL := ([5, 3], 0) :: ([3, 1], 1) :: []
theorem frac_Make_p1 : Zbi frac_Make_k1 (.tup [.agg (cQs [5]), .int .i64 0]) := fun _ _ _ => by kernel_rfl
def frac_Make_k2 : CL := ([5, 3], 0) :: ([3, 1], (-1)) :: []
theorem frac_Make_p0 : Zbi frac_Make_k2 (.tup [.agg (cQs [4]), .int .i64 0]) := fun _ _ _ => by kernel_rfl
theorem frac_Make_s {S : Sh} {w : World} (hS : Ya S w) {c_a : List Value} {a0 : Int} {k_a : Nat} (h_a : In S c_a a0 (k_a)) {c_b : List Value} {a1 : Int} {k_b : Nat} (h_b : In S c_b a1 (k_b)) (hlim : k_a ≤ 50000000000) (hlim2 : k_b ≤ 50000000000) : Calls Tryz.prog 65 [(.agg (c_a : List Value).toArray), (.agg (c_b : List Value).toArray)].toArray w (Ret S w (fun S v => ((a1 = 0) ∧ ∃ (c0 : List Value), v = .tuple [.agg c0.toArray, .int .i64 (11)].toArray ∧ Fs S c0 [0] (0)) ∨ ((a1 ≠ 0) ∧ ∃ (c0 : List Value), v = .tuple [.agg c0.toArray, .int .i64 (0)].toArray ∧ Fs S c0 [(a0 : Rat) / (a1 : Rat)] (k_a + k_b)))) := by
 have leaf := fun cs hc {r} (h : Zbi cs r) => QV QO (K := max k_a k_b) (base := (baseZ [a0, a1])) (by kernel_rfl) (by omega) (by kernel_rfl) hS (fun _ _ => .cons (.agg (cZ_mk1 (i := 0) (a := a0) (k := max k_a k_b) (by kernel_rfl) (le1 _) (h_a.wide (by omega)))) (.cons (.agg (cZ_mk1 (i := 1) (a := a1) (k := max k_a k_b) (by kernel_rfl) (le1 _) (h_b.wide (by omega)))) .nil)) cs hc h
 rcases Zd5 (YD a0 a1) (t := 3) (is := [1]) (by decide) with h0 | h0 | h0; rotate_left
 ·have H0 : Csl (YD a0 a1) frac_Make_k0 := .cons h0 .nil
  have g0 := ((by kernel_rfl : ZD (YD a0 a1) [3, 1] = Yx (a1)).symm.trans h0)
  have gz := Yp (z := a1); have gn := Qm (z := a1)
  refine Calls.mono (leaf _ H0 frac_Make_p2) fun e w' ⟨v, S', q1, q2, blk, q3⟩ => ⟨v, S', q1, q2, ?_⟩
  cases q3 with
  | tup h5 => cases h5 with
   | cons h6 h7 => cases h7 with
    | cons h7 h8 =>
     cases h8
     cases h7
     rw [XB (v := .agg [.bool false, .int .u64 0, .slice none 0 0, .int .u64 0, .slice none 0 0].toArray) rfl h6]
     exact .inl ⟨by omega, _, rfl, Fs.zero _ _⟩
 ·have h1 : ZD (YD a0 a1) [5, 3] = 0 := (by kernel_rfl : ZD (YD a0 a1) [5, 3] = (if (a1).natAbs = 0 then (1 : Int) else 0)).trans (if_neg (fun z => by have g := ((by kernel_rfl : ZD (YD a0 a1) [3, 1] = Yx (a1)).symm.trans h0); have g2 := Yp (z := a1); omega))
  have H1 : Csl (YD a0 a1) frac_Make_k1 := .cons h1 (.cons h0 .nil)
  have g0 := ((by kernel_rfl : ZD (YD a0 a1) [3, 1] = Yx (a1)).symm.trans h0)
  have gz := Yp (z := a1); have gn := Qm (z := a1)
  refine Calls.mono (leaf _ H1 frac_Make_p1) fun e w' ⟨v, S', q1, q2, blk, q3⟩ => ⟨v, S', q1, q2, ?_⟩
  cases q3 with
  | tup h5 => cases h5 with
   | cons h6 h7 => cases h7 with
    | cons h7 h8 =>
     cases h8
     cases h7
     cases h6 with
     | agg h4 =>
      have h9 := (Zab (bd := Zcb (Qf []) (max k_a k_b)) (is := [5]) (qs := [(mkRat a0 (a1).natAbs)]) (k := Zcb (Qf []) (max k_a k_b) 5) ⟨by kernel_rfl, Nat.le_refl _, trivial⟩ h4)
      refine .inr ⟨by omega, _, rfl, h9.toR ?_ (quo_bd h_a.le h_b.le (by omega))⟩
      rw [← mkRat_quo (by omega), if_neg (by omega)]
 have h2 : ZD (YD a0 a1) [5, 3] = 0 := (by kernel_rfl : ZD (YD a0 a1) [5, 3] = (if (a1).natAbs = 0 then (1 : Int) else 0)).trans (if_neg (fun z => by have g := ((by kernel_rfl : ZD (YD a0 a1) [3, 1] = Yx (a1)).symm.trans h0); have g2 := Yp (z := a1); omega))
 have H2 : Csl (YD a0 a1) frac_Make_k2 := .cons h2 (.cons h0 .nil)
 have g0 := ((by kernel_rfl : ZD (YD a0 a1) [3, 1] = Yx (a1)).symm.trans h0)
 have gz := Yp (z := a1); have gn := Qm (z := a1)
 refine Calls.mono (leaf _ H2 frac_Make_p0) fun e w' ⟨v, S', q1, q2, blk, q3⟩ => ⟨v, S', q1, q2, ?_⟩
 cases q3 with
 | tup h5 => cases h5 with
  | cons h6 h7 => cases h7 with
   | cons h7 h8 =>
    cases h8
    cases h7
    cases h6 with
    | agg h4 =>
     have h9 := (Zab (bd := Zcb (Qf []) (max k_a k_b)) (is := [4]) (qs := [(mkRat (-a0) (a1).natAbs)]) (k := Zcb (Qf []) (max k_a k_b) 4) ⟨by kernel_rfl, Nat.le_refl _, trivial⟩ h4)
     refine .inr ⟨by omega, _, rfl, h9.toR ?_ (quo_bd h_a.le h_b.le (by omega))⟩
     rw [← mkRat_quo (by omega), if_pos (by omega)]
end
end Go.Cham
namespace Go.Cham
open Go Go.RowKit Go.Proofs
noncomputable section
def symTab (T : Tb) : List (Nat × PrF Ato) := [
  (25, pO T [2, 2] 22 50000000000 1),
  (93, pO T [2, 2] 26 50000000000 1),
  (37, pO T [2, 2] 30 50000000000 0),
  (86, pO T [1] 14 100000000000 0),
  (66, pO T [2] 13 100000000000 0),
  (78, pO T [2] 16 100000000000 0),
  (60, pT T [2, 2] 2 100000000000),
  (45, pT T [2] 1 100000000000),
  (81, pO T [1, 1] 37 100000000000 0),
  (89, pO T [1, 1] 29 100000000000 1),
  (146, pO T [1, 1] 33 100000000000 1),
  (85, pO T [1] 25 100000000000 0),
  (113, pO T [1] 12 100000000000 0),
  (84, pT T [1] 3 100000000000),
  (80, pO T [0, 0] 24 100000000000 0),
  (79, pO T [0, 0] 28 100000000000 0)]
set_option maxRecDepth 100000 in
theorem symTab_ok {T : Tb} {K : Nat} {base ρ : Nat → AV} {bd : Nat → Nat} {T0 : Tb} {hT : Cs T0 ρ} (hg : YB T K base ρ bd) : ∀ p ∈ symTab T, Xp Tryz.prog (DS hT bd) p.1 p.2 := by
  intro p hp
  simp only [symTab, List.mem_cons, List.not_mem_nil, or_false] at hp
  rcases hp with rfl | rfl | rfl | rfl | rfl | rfl | rfl | rfl | rfl | rfl | rfl | rfl | rfl | rfl | rfl | rfl
  · exact pQQ hg (by kernel_rfl) (by decide) (fun _ _ => rfl) fun hS h1 h2 h3 h4 => frac_Add_s hS h1 h2 h3 h4
  · exact pQQ hg (by kernel_rfl) (by decide) (fun _ _ => rfl) fun hS h1 h2 h3 h4 => frac_Sub_s hS h1 h2 h3 h4
  · exact pQQ hg (by kernel_rfl) (by decide) (fun _ _ => rfl) fun hS h1 h2 h3 h4 => frac_Mul_s hS h1 h2 h3 h4
  · exact pZq hg (by kernel_rfl) (by decide) (fun _ => rfl) fun hS h1 h2 => frac_Of hS h1
  · exact pQz hg (by kernel_rfl) (by decide) (fun _ => rfl) fun hS h1 h2 => frac_Frac_Num hS h1
  · exact pQn hg (by kernel_rfl) (by decide) (fun _ => rfl) fun hS h1 h2 => Zek hS h1 (by omega)
  · refine pT_ok hg (by kernel_rfl) fun S w vs xs ks hS hr hl => ?_
    obtain ⟨x, k1, v, x', k2, v', rfl, rfl, rfl, h1, h2, h3, h4⟩ := hr.two
    obtain ⟨c, rfl, h5⟩ := h2.q h1
    obtain ⟨d, rfl, h6⟩ := h4.q h3
    have e1 := hl k1 (by simp)
    have e2 := hl k2 (by simp)
    exact frac_Cmp_s hS h5 h6 (by omega) (by omega)
  · refine pT_ok hg (by kernel_rfl) fun S w vs xs ks hS hr hl => ?_
    obtain ⟨x, k1, v, rfl, rfl, rfl, h1, h2⟩ := hr.one
    obtain ⟨c, rfl, h5⟩ := h2.q h1
    exact frac_Frac_Sign hS h5
  · exact pZZ hg (by kernel_rfl) (by decide) (fun _ _ => rfl) fun hS h1 h2 h3 h4 => whole_Mul hS h1 h2 (by omega) (by omega)
  · exact pZZ hg (by kernel_rfl) (by decide) (fun _ _ => rfl) fun hS h1 h2 h3 h4 => whole_Add hS h1 h2 (by omega) (by omega)
  · exact pZZ hg (by kernel_rfl) (by decide) (fun _ _ => rfl) fun hS h1 h2 h3 h4 => whole_Sub hS h1 h2 (by omega) (by omega)
  · exact pZz hg (by kernel_rfl) (by decide) (fun _ => rfl) fun hS h1 h2 => whole_Neg hS h1
  · exact pZn hg (by kernel_rfl) (by decide) (fun _ => rfl) fun hS h1 h2 => Za6 hS h1
  · refine pT_ok hg (by kernel_rfl) fun S w vs xs ks hS hr hl => ?_
    obtain ⟨x, k1, v, rfl, rfl, rfl, h1, h2⟩ := hr.one
    obtain ⟨c, rfl, h5⟩ := h2.z h1
    exact Ql hS h5
  · exact pNN hg (by kernel_rfl) (by decide) (fun _ _ => rfl) fun hS h1 h2 h3 h4 => nat_Mul hS h1 h2 (by omega) (by omega)
  · exact pNN hg (by kernel_rfl) (by decide) (fun _ _ => rfl) fun hS h1 h2 h3 h4 => nat_Gcd hS h1 h2 (by omega)
end
end Go.Cham
namespace Go.Cham
open Go Go.RowKit Go.Proofs
noncomputable section
section
variable {T : Tb} {K : Nat} {base ρ : Nat → AV} {bd : Nat → Nat} {T0 : Tb} {hT : Cs T0 ρ}
theorem pNatDiv_ok (hg : YB T K base ρ bd) : Xp Tryz.prog (DS hT bd) 77 (pNatDiv T) := by
  intro args r hr G w vs hd hS
  unfold pNatDiv at hr
  split at hr
  · rename_i is his
    split at hr
    · rename_i i j
      split at hr
      · rename_i ht
        split at hr
        · rename_i x hx
          split at hr
          · rename_i y hy
            cases hr
            have hnz := nzB_ok hg ht
            obtain ⟨k, rfl, h1, h2, h3, h4⟩ := Zdb hg hx (by decide)
            obtain ⟨l, rfl, g1, g2, g3, g4⟩ := Zdb hg hy (by decide)
            obtain ⟨x, k1, v, x', k2, v', e1, e2, rfl, a1, a2, a3, a4⟩ := (Qe hg his hd).two
            simp only [List.map_cons, List.map_nil, List.cons.injEq, and_true] at e1 e2 h2 g2 h3 h4 g4
            obtain ⟨rfl, rfl⟩ := e1
            obtain ⟨rfl, rfl⟩ := e2
            obtain ⟨c, rfl, h5⟩ := a2.n a1
            obtain ⟨d, rfl, h6⟩ := a4.n a3
            have b1 := h3 (bd i) (by simp)
            have b2 := sum2 h4
            have b3 := sum2 g4
            refine .ret (by kernel_rfl) (nat_Div hS h5 h6 (by omega)) fun S' v hv => ?_
            rcases hv with ⟨z, _⟩ | ⟨_, c0, c1, e, hv, hu⟩
            · exact absurd z hnz
            · rw [e]
              refine .tup (.cons (YT h1 ?_) (.cons (YT g1 ?_) (.cons (.int _ _) .nil)))
              · rw [h2]; exact ⟨c0, rfl, hv.wide (by omega)⟩
              · rw [g2]; exact ⟨c1, rfl, hu.wide (by omega)⟩
          · cases hr
        · cases hr
      · cases hr
    · cases hr
  · cases hr
theorem pDivQ_ok (hg : YB T K base ρ bd) : Xp Tryz.prog (DS hT bd) 46 (pDivQ T) := by
  intro args r hr G w vs hd hS
  unfold pDivQ at hr
  split at hr
  · rename_i is his
    split at hr
    · rename_i i j
      obtain ⟨x, k1, v, x', k2, v', e1, e2, rfl, a1, a2, a3, a4⟩ := (Qe hg his hd).two
      simp only [List.map_cons, List.map_nil, List.cons.injEq, and_true] at e1 e2
      obtain ⟨rfl, rfl⟩ := e1
      obtain ⟨rfl, rfl⟩ := e2
      obtain ⟨c, rfl, h5⟩ := a2.q a1
      obtain ⟨d, rfl, h6⟩ := a4.q a3
      split at hr
      · rename_i s ht
        obtain ⟨ht1, ht2⟩ := tstV_ok hg ht
        have ht3 : Yx (ρ j).rat.num = s := ht1
        split at hr
        · cases hr
        · rename_i hnz0
          split at hr
          · rename_i y hy
            cases hr
            obtain ⟨l, rfl, g1, g2, g3, g4⟩ := Zdb hg hy (by decide)
            have b1 := g3 (bd i) (by simp)
            have b2 := g3 (bd j) (by simp)
            simp only [List.map_cons, List.map_nil] at g2 g4
            have b3 := sum2 g4
            have hnz : (ρ j).rat.num ≠ 0 := fun h0 => hnz0 (by rw [← ht3, h0]; rfl)
            refine .ret (by kernel_rfl) (frac_Div_s hS h5 h6 b1 b2) fun S' v hv => ?_
            rcases hv with ⟨z, _⟩ | ⟨_, c0, e, hv⟩
            · exact absurd z hnz
            · rw [e]
              refine .tup (.cons (YT g1 ?_) (.cons (.int _ _) .nil))
              rw [g2]; exact ⟨c0, rfl, hv.wide (by omega)⟩
          · cases hr
      · cases hr
    · cases hr
  · cases hr
theorem pMakeQ_ok (hg : YB T K base ρ bd) : Xp Tryz.prog (DS hT bd) 65 (pMakeQ T) := by
  intro args r hr G w vs hd hS
  unfold pMakeQ at hr
  split at hr
  · rename_i is his
    split at hr
    · rename_i i j
      obtain ⟨x, k1, v, x', k2, v', e1, e2, rfl, a1, a2, a3, a4⟩ := (Qe hg his hd).two
      simp only [List.map_cons, List.map_nil, List.cons.injEq, and_true] at e1 e2
      obtain ⟨rfl, rfl⟩ := e1
      obtain ⟨rfl, rfl⟩ := e2
      obtain ⟨c, rfl, h5⟩ := a2.z a1
      obtain ⟨d, rfl, h6⟩ := a4.z a3
      split at hr
      · rename_i s ht
        obtain ⟨ht1, ht2⟩ := tstV_ok hg ht
        have ht3 : Yx (ρ j).int = s := ht1
        split at hr
        · cases hr
        · rename_i hnz0
          split at hr
          · rename_i y hy
            cases hr
            obtain ⟨l, rfl, g1, g2, g3, g4⟩ := Zdb hg hy (by decide)
            have b1 := g3 (bd i) (by simp)
            have b2 := g3 (bd j) (by simp)
            simp only [List.map_cons, List.map_nil] at g2 g4
            have b3 := sum2 g4
            have hnz : (ρ j).int ≠ 0 := fun h0 => hnz0 (by rw [← ht3, h0]; rfl)
            refine .ret (by kernel_rfl) (frac_Make_s hS h5 h6 b1 b2) fun S' v hv => ?_
            rcases hv with ⟨z, _⟩ | ⟨_, c0, e, hv⟩
            · exact absurd z hnz
            · rw [e]
              refine .tup (.cons (YT g1 ?_) (.cons (.int _ _) .nil))
              rw [g2]; exact ⟨c0, rfl, hv.wide (by omega)⟩
          · cases hr
      · cases hr
    · cases hr
  · cases hr
end
def symTab2 (T : Tb) : List (Nat × PrF Ato) := (76, pNatOf T) :: (27, pConst T 10) :: (90, pConst T 9) :: (82, pMakeW T) :: (77, pNatDiv T) :: (46, pDivQ T) :: (65, pMakeQ T) :: symTab T
theorem symTab2_ok {T : Tb} {K : Nat} {base ρ : Nat → AV} {bd : Nat → Nat} {T0 : Tb} {hT : Cs T0 ρ} (hg : YB T K base ρ bd) : ∀ p ∈ symTab2 T, Xp Tryz.prog (DS hT bd) p.1 p.2 := by
  intro p hp
  simp only [symTab2, List.mem_cons] at hp
  rcases hp with rfl | rfl | rfl | rfl | rfl | rfl | rfl | hp
  · exact pNatOf_ok hg
  · exact pInt_ok hg
  · exact pWOf_ok hg
  · exact pMakeW_ok hg
  · exact pNatDiv_ok hg
  · exact pDivQ_ok hg
  · exact pMakeQ_ok hg
  · exact symTab_ok hg p hp
end
end Go.Cham
namespace Go.Cham
open Go Go.RowKit Go.Proofs
noncomputable section
def zQs : Nat → List (SV Ato)
  | 0 => []
  | n + 1 => .bool false :: .int .u64 0 :: .sl none 0 0 :: .int .u64 0 :: .sl none 0 0 :: zQs n
theorem zero_end3 {T : Tb} {ρ : Nat → AV} {hT : Cs T ρ} {bd : Nat → Nat} {G : Gh} {v : Value} {k : Nat} (h : Den (DS hT bd) G (.agg (zQs 3)) v) : ∃ c0 : List Value, v = .agg c0.toArray ∧ Fs G.S c0 [0, 0, 0] k := by
  rw [XB (v := .agg [.bool false, .int .u64 0, .slice none 0 0, .int .u64 0, .slice none 0 0, .bool false, .int .u64 0, .slice none 0 0, .int .u64 0, .slice none 0 0, .bool false, .int .u64 0, .slice none 0 0, .int .u64 0, .slice none 0 0].toArray) rfl h]
  exact ⟨_, rfl, Fs.zero3 _ _⟩
theorem Zbw {T : Tb} {ρ : Nat → AV} {hT : Cs T ρ} {bd : Nat → Nat} {G : Gh} {v : Value} {k : Nat} (h : Den (DS hT bd) G (.agg (zQs 4)) v) : ∃ c0 : List Value, v = .agg c0.toArray ∧ Fs G.S c0 [0, 0, 0, 0] k := by
  rw [XB (v := .agg [.bool false, .int .u64 0, .slice none 0 0, .int .u64 0, .slice none 0 0, .bool false, .int .u64 0, .slice none 0 0, .int .u64 0, .slice none 0 0, .bool false, .int .u64 0, .slice none 0 0, .int .u64 0, .slice none 0 0, .bool false, .int .u64 0, .slice none 0 0, .int .u64 0, .slice none 0 0].toArray) rfl h]
  exact ⟨_, rfl, Fs.zero4 _ _⟩
theorem pv_err {x y z u : List Nat} (h : Zcl x y z u ≠ 0) : [(0 : Rat), 0, 0, 0] = [pvA x y z u, pvB x y z u, pvC x y z u, pvD x y z u] := by unfold pvA pvB pvC pvD; rw [if_neg h, if_neg h, if_neg h, if_neg h]
theorem pv_ok {x y z u : List Nat} (h : Zcl x y z u = 0) : [pn (YO x) (YO y) (YO z) (YO u) (YO x), pn (YO x) (YO y) (YO z) (YO u) (YO y), pn (YO x) (YO y) (YO z) (YO u) (YO z), pn (YO x) (YO y) (YO z) (YO u) (YO u)] = [pvA x y z u, pvB x y z u, pvC x y z u, pvD x y z u] := by unfold pvA pvB pvC pvD; rw [if_pos h, if_pos h, if_pos h, if_pos h]
theorem vv_err {x y z : List Nat} (h : verr x y z ≠ 0) : [(0 : Rat), 0, 0] = [vvA x y z, vvB x y z, vvC x y z] := by unfold vvA vvB vvC; rw [if_neg h, if_neg h, if_neg h]
theorem vv_ok {x y z : List Nat} (h : verr x y z = 0) : [YO x, YO y, YO z] = [vvA x y z, vvB x y z, vvC x y z] := by unfold vvA vvB vvC; rw [if_pos h, if_pos h, if_pos h]
theorem symTab2_OK : TabOK symTab2 := symTab2_ok
end
end Go.Cham
namespace Go.Cham
open Go Go.RowKit Go.Proofs
theorem ent_94 : ZW Tryz.prog 94 = true := by kernel_rfl
theorem ent_95 : ZW Tryz.prog 95 = true := by kernel_rfl
theorem ent_96 : ZW Tryz.prog 96 = true := by kernel_rfl
theorem ent_97 : ZW Tryz.prog 97 = true := by kernel_rfl
theorem ent_99 : ZW Tryz.prog 99 = true := by kernel_rfl
theorem ent_117 : ZW Tryz.prog 117 = true := by kernel_rfl
theorem ent_147 : ZW Tryz.prog 147 = true := by kernel_rfl
theorem ent_149 : ZW Tryz.prog 149 = true := by kernel_rfl
theorem ent_169 : ZW Tryz.prog 169 = true := by kernel_rfl
end Go.Cham
namespace Go.Cham
open Go Go.RowKit Go.Proofs
set_option maxRecDepth 20000 in
theorem Zde {S : Sh} {w : World} (hS : Ya S w) {c_a : List Value} {a : Rat} {k_a : Nat} (h_a : Fs S c_a [a] (k_a)) (hlim : k_a ≤ 100000000000) : Calls Tryz.prog 55 [(.agg (c_a : List Value).toArray)].toArray w (Ret S w (fun S v => v = .string (YJ (rtxt a)))) := by
 refine ZK (n := 18) Tryz.func55 rfl rfl ?_
 intro ac0 L0
 replace L0 : Zt ac0 18 [(0, (.agg (c_a : List Value).toArray))] := L0
 have R0 : Run S w S [] w := .start hS
 have hzl := ztxt_len h_a.num_le; have hdl := Zbn h_a.den_le; have hbz := @XC (a.den - 1); have hdp := a.den_pos
 refine wp_seq (Za (so L0 rfl (ZN (cs := c_a) L0 rfl R0 rfl ?_)))
 intro b1 _ _ l1 r1 R1 _ L1
 refine sa L1 rfl fun _ L2 => sn (wp_seq (wp_seq (Za (so L2 rfl (Zd (off' := 3) L2 rfl field_36_1 rfl fun _ L3 => ?_)))))
 obtain ⟨c1, e1, h1⟩ := (h_a.up l1).less
 refine so L3 rfl (Yl L3 rfl ZE Zk (R1.row r1) e1 h1.len fun _ L4 => so L4 rfl (Zl L4 rfl Zdf (Yw R1.holds h1 ) fun v_1 _ _ x1 v1 => ?_))
 have R2 := R1.call x1; have l2 := x1.le
 obtain rfl := v1
 intro _ L5
 by_cases t1 : ((Zw (a.den - 1) : Nat) : Int) = (0 : Int)
 ·refine so L5 rfl (bT t1 (fun _ => ZZ L5 rfl rfl) fun _ L6 => sn (Zp L6 rfl rfl (wp_seq (Za (so L6 rfl (Zd (off' := 0) L6 rfl QU rfl fun _ L7 => ?_))))))
  obtain ⟨c2, e2, h2⟩ := (h_a.up (l1.trans l2)).num
  refine so L7 rfl (Yl L7 rfl XI Yt (R2.row (r1.up l2)) e2 h2.len fun _ L8 => so L8 rfl (Zl L8 rfl ent_117 (Zc9 R2.holds h2 (by omega)) fun v_2 _ _ x2 v2 => ?_))
  have R3 := R2.call x2
  obtain rfl := v2
  intro _ L9
  exact sa L9 rfl fun _ L10 => sn (wp_ret ((Zy (Zo (rs := Tryz.f55.results.toList) (L10.kp [1, 2] rfl) rfl (.tmp rfl Res.nil) (⟨_, _, rfl, R3.ext, (by exact congrArg Value.string (rtxt_int (by omega)))⟩)))))
 ·refine so L5 rfl (bF t1 (fun _ => ZZ L5 rfl rfl) fun _ L12 => sn (Zm L12 rfl rfl (wp_skip ((Zc (wp_seq ?_))))))
  have L13 := (L12.kp [1, 2] rfl)
  refine Zu (E0 := []) (H0 := []) (n := 18) mixed 7 [] (fun k => 0) (Zce [
    .is (.pointer (some ⟨b1, 0, none⟩)),
    (kvIn (a.num) (k_a)),
    .is (.string (YJ (ztxt a.num))),
    .is (.string ((YJ (ztxt a.num)) ++ (⟨#[47]⟩ : ByteArray))),
    .is (.agg (c_a : List Value).toArray),
    (kvNa (a.den) (k_a)),
    .is (.string (txt a.den))]) L13 R2 (by simp) (by simp) (by rfl) (by rfl) (by simp) (ZU ?_) ?_
  ·refine (And.intro ?_ (And.intro ?_ (And.intro ?_ (And.intro ?_ (And.intro ?_ (And.intro ?_ (And.intro ?_ trivial)))))))
   ·exact Zb rfl (fun _ _ _ _ _ A1 => (Zd (off' := 0) A1.live rfl QU rfl (A1.same rfl)))
   ·refine Zb rfl (fun _ _ _ _ _ A2 => ?_)
    obtain ⟨_, e3, rfl⟩ := A2.known 0 rfl
    obtain ⟨c3, e4, h3⟩ := (h_a.up (l1.trans (l2.trans A2.le))).num
    exact Yl (A2.live.add e3) rfl XI Yt (A2.run.row (r1.up (l2.trans A2.le))) e4 h3.len (A2.same ⟨_, rfl, h3⟩)
   ·refine Zb rfl (fun _ _ _ _ _ A3 => ?_)
    obtain ⟨_, e5, c4, rfl, h4⟩ := A3.known 1 rfl
    exact Zl (A3.live.add e5) rfl ent_117 (Zc9 A3.run.holds h4 (by omega)) fun v_3 _ _ x3 v3 => (A3.post x3.le (A3.run.call x3) v3)
   ·refine Zb rfl (fun _ _ _ _ _ A4 => ?_)
    obtain ⟨_, e6, rfl⟩ := A4.known 2 rfl
    exact Zbm (z := ((YJ (ztxt a.num)) ++ (⟨#[47]⟩ : ByteArray))) (A4.live.add e6) rfl rfl (by simp only [ByteArray.size_append, ofBl_size, txt_size, show (⟨#[47]⟩ : ByteArray).size = 1 from rfl]; omega) rfl (A4.same rfl)
   ·exact Zb rfl (fun _ _ _ _ _ A5 => (Zx A5.live rfl XE Yf (A5.run.row (r1.up (l2.trans A5.le))) h_a.len (A5.same rfl)))
   ·refine Zb rfl (fun _ _ _ _ _ A6 => ?_)
    obtain ⟨_, e7, rfl⟩ := A6.known 4 rfl
    exact Zl (A6.live.add e7) rfl ent_78 (Zek A6.run.holds (h_a.up (l1.trans (l2.trans A6.le))) (by omega)) fun v_4 _ _ x4 v4 => (A6.post x4.le (A6.run.call x4) v4)
   ·refine Zb rfl (fun _ _ _ _ _ A7 => ?_)
    obtain ⟨_, e8, c5, rfl, h5⟩ := A7.known 5 rfl
    exact Zl (A7.live.add e8) rfl ent_118 (Zag A7.run.holds h5 (by omega)) fun v_5 _ _ x5 v5 => (A7.post x5.le (A7.run.call x5) v5)
  ·intro S14 _ _ w14 l7 E1 R7 n1 L21 K1
   obtain ⟨_, e9, rfl⟩ := K1 3 (by decide)
   have L22 := L21.add e9; clear L21
   obtain ⟨_, e10, rfl⟩ := K1 6 (by decide)
   have L23 := L22.add e10; clear L22
   have R8 : Run _ _ S14 [] w14 := Yh R7 n1 [] (by simp) (by simp)
   exact so L23 rfl (Zbm (z := (((YJ (ztxt a.num)) ++ (⟨#[47]⟩ : ByteArray)) ++ (txt a.den))) L23 rfl rfl (by simp only [ByteArray.size_append, ofBl_size, txt_size, show (⟨#[47]⟩ : ByteArray).size = 1 from rfl]; omega) rfl fun _ L24 => sa L24 rfl fun _ L25 => sn (wp_ret ((Zo (rs := Tryz.f55.results.toList) L25 rfl (.tmp rfl Res.nil) (⟨_, _, rfl, R8.ext, (by exact congrArg Value.string (rtxt_frac (by omega)))⟩)))))
end Go.Cham
namespace Go.Cham
open Go Go.RowKit Go.Proofs
set_option maxRecDepth 20000 in
theorem Zaw {S : Sh} {w : World} (hS : Ya S w) {s : ByteArray} {sep : ByteArray} (hsep : sep = ⟨#[47]⟩) (hs : s.size ≤ 1099511627776) : Calls Tryz.prog 147 [(.string s), (.string sep)].toArray w (Ret S w (fun S v => v = .tuple [.string (YJ (Zai (bl s))), .string (YJ (Za1 (bl s)).2.1), .bool (decide (ftwo (bl s) = true))].toArray)) := by
 refine ZK (n := 23) Tryz.func147 rfl rfl ?_
 intro ac0 L0
 replace L0 : Zt ac0 23 [(0, (.string s)), (1, (.string sep))] := L0
 have R0 : Run S w S [] w := .start hS
 have hsz : sep.size = 1 := by rw [hsep]; rfl
 have hbs := YZ s
 refine wp_seq (Za (sa L0 rfl ?_))
 intro _ L1
 refine sa L1 rfl fun _ L2 => sa L2 rfl fun _ L3 => sn (wp_seq (wp_seq (Za (sm L3 rfl fun _ L4 => sm L4 rfl fun _ L5 => so L5 rfl (Zl L5 rfl ent_169 (Zec R0.holds (s := s) (sep := sep) (by assumption)) fun v_1 _ _ x1 v1 => ?_)))))
 have R1 := R0.call x1
 obtain rfl := v1
 intro _ L6
 refine sa L6 rfl fun _ L7 => sn (wp_seq (Za (sm L7 rfl fun _ L8 => ?_)))
 by_cases t1 : (0 : Int) ≤ (idx47 (bl s))
 ·refine so L8 rfl (bT t1 (fun _ => YL L8 rfl rfl) fun _ L9 => sn (Zp L9 rfl rfl (wp_seq ?_)))
  have hcp := idx47_pos (l := bl s) (by omega)
  have hcl := congrArg List.length hcp.2.2; rw [List.length_append, List.length_cons] at hcl
  have L10 := L9; rw [hcp.2.1] at L10
  have L11 := (L10.kp [0, 1, 5, 6, 7] rfl)
  refine Zu (E0 := []) (H0 := []) (n := 23) mixed 10 [] (fun k => 0) (Zce [
    .is (.string s),
    .is (.int .i64 (((Zai (bl s)).length : Nat) : Int)),
    .is (.string (s.extract (0) (((Zai (bl s)).length)))),
    .is (.string s),
    .is (.int .i64 (((Zai (bl s)).length : Nat) : Int)),
    .is (.string sep),
    .is (.int .i64 ((sep.size : Nat) : Int)),
    .is (.int .i64 ((((Zai (bl s)).length : Nat) : Int) + ((sep.size : Nat) : Int))),
    .is (.string (s.extract ((((Zai (bl s)).length) + sep.size)) (s.size))),
    .is (.string (s.extract (0) (((Zai (bl s)).length))))]) L11 R1 (by simp) (by simp) (by rfl) (by rfl) (by simp) (ZU ?_) ?_
  ·refine (And.intro ?_ (And.intro ?_ (And.intro ?_ (And.intro ?_ (And.intro ?_ (And.intro ?_ (And.intro ?_ (And.intro ?_ (And.intro ?_ (And.intro ?_ trivial))))))))))
   ·exact Zb rfl (fun _ _ _ _ _ A1 => (Zh A1.live rfl (A1.same rfl)))
   ·exact Zb rfl (fun _ _ _ _ _ A2 => (Zh A2.live rfl (A2.same rfl)))
   ·refine Zb rfl (fun _ _ _ _ _ A3 => ?_)
    obtain ⟨_, e1, rfl⟩ := A3.known 0 rfl
    obtain ⟨_, e2, rfl⟩ := A3.known 1 rfl
    exact QI (i := 0) (j := ((Zai (bl s)).length)) (z := (s.extract (0) (((Zai (bl s)).length)))) ((A3.live.add e1).add e2) rfl Tryz.underlying9 rfl ⟨_, rfl⟩ (by omega) (by omega) rfl (A3.same rfl)
   ·exact Zb rfl (fun _ _ _ _ _ A4 => (Zh A4.live rfl (A4.same rfl)))
   ·exact Zb rfl (fun _ _ _ _ _ A5 => (Zh A5.live rfl (A5.same rfl)))
   ·exact Zb rfl (fun _ _ _ _ _ A6 => (Zh A6.live rfl (A6.same rfl)))
   ·refine Zb rfl (fun _ _ _ _ _ A7 => ?_)
    obtain ⟨_, e3, rfl⟩ := A7.known 5 rfl
    exact YY (A7.live.add e3) rfl Tryz.underlying9 (A7.same rfl)
   ·refine Zb rfl (fun _ _ _ _ _ A8 => ?_)
    obtain ⟨_, e4, rfl⟩ := A8.known 4 rfl
    obtain ⟨_, e5, rfl⟩ := A8.known 6 rfl
    exact ZJ (z := ((((Zai (bl s)).length : Nat) : Int) + ((sep.size : Nat) : Int))) ((A8.live.add e4).add e5) rfl rfl (IntWalk.i64_in _ (by omega)) (A8.same rfl)
   ·refine Zb rfl (fun _ _ _ _ _ A9 => ?_)
    obtain ⟨_, e6, rfl⟩ := A9.known 3 rfl
    obtain ⟨_, e7, rfl⟩ := A9.known 7 rfl
    exact QI (i := (((Zai (bl s)).length) + sep.size)) (j := s.size) (z := (s.extract ((((Zai (bl s)).length) + sep.size)) (s.size))) ((A9.live.add e6).add e7) rfl Tryz.underlying9 ⟨_, rfl⟩ rfl (by omega) (by omega) rfl (A9.same rfl)
   ·refine Zb rfl (fun _ _ _ _ _ A10 => ?_)
    obtain ⟨_, e8, rfl⟩ := A10.known 2 rfl
    exact XL (A10.live.add e8) rfl (A10.same rfl)
  ·intro S12 _ _ w12 l2 E1 R2 n1 L22 K1
   obtain ⟨_, e9, rfl⟩ := K1 8 (by decide)
   have L23 := L22.add e9; clear L22
   obtain ⟨_, e10, rfl⟩ := K1 9 (by decide)
   have L24 := L23.add e10; clear L23
   have R3 : Run _ _ S12 [] w12 := Yh R2 n1 [] (by simp) (by simp)
   exact sa L24 rfl fun _ L25 => sa L25 rfl fun _ L26 => sn (wp_ret ((Zy (Zo (rs := Tryz.f147.results.toList) L26 rfl (.tmp rfl (.tmp rfl (.tmp rfl Res.nil))) (⟨_, _, rfl, R3.ext, (by rw [cut_left hcp.2.2 (by omega), cut_right hcp.2.2 (by omega), hcp.1]; rfl)⟩)))))
 ·refine so L8 rfl (bF t1 (fun _ => YL L8 rfl rfl) fun _ L27 => sn (Zm L27 rfl rfl (wp_skip ((Zc (wp_seq ?_))))))
  have hcp := idx47_neg (l := bl s) (by omega)
  refine Za (sm L27 rfl ?_)
  intro _ L28
  exact sa L28 rfl fun _ L29 => sa L29 rfl fun _ L30 => sa L30 rfl fun _ L31 => sn (wp_ret ((Zo (rs := Tryz.f147.results.toList) (L31.kp [4, 5, 6] rfl) rfl (.tmp rfl (.tmp rfl (.tmp rfl Res.nil))) (⟨_, _, rfl, R1.ext, (by rw [hcp.2.1, ofBl_bl, hcp.1, hcp.2.2]; rfl)⟩))))
set_option maxRecDepth 20000 in
theorem strings_Cut {S : Sh} {w : World} (hS : Ya S w) {s : ByteArray} {sep : ByteArray} (hsep : sep = ⟨#[47]⟩) (hs : s.size ≤ 1099511627776) : Calls Tryz.prog 94 [(.string s), (.string sep)].toArray w (Ret S w (fun S v => v = .tuple [.string (YJ (Zai (bl s))), .string (YJ (Za1 (bl s)).2.1), .bool (decide (ftwo (bl s) = true))].toArray)) := by
 refine ZK (n := 13) Tryz.func94 rfl rfl ?_
 intro ac0 L0
 replace L0 : Zt ac0 13 [(0, (.string s)), (1, (.string sep))] := L0
 have R0 : Run S w S [] w := .start hS
 refine wp_seq (Za (sa L0 rfl ?_))
 intro _ L1
 refine sa L1 rfl fun _ L2 => sa L2 rfl fun _ L3 => sn (wp_seq (Za (sm L3 rfl fun _ L4 => sm L4 rfl fun _ L5 => so L5 rfl (Zl L5 rfl ent_147 (Zaw R0.holds (s := s) (sep := sep) (hsep) (by omega)) fun v_1 _ _ x1 v1 => ?_))))
 have R1 := R0.call x1
 obtain rfl := v1
 intro _ L6
 refine so L6 rfl (Zf L6 rfl rfl fun _ L7 => so L7 rfl (Zf L7 rfl rfl fun _ L8 => so L8 rfl (Zf L8 rfl rfl fun _ L9 => sa L9 rfl fun _ L10 => sa L10 rfl fun _ L11 => sa L11 rfl fun _ L12 => sn ?_)))
 exact wp_ret ((Zo (rs := Tryz.f94.results.toList) (L12.kp [4, 5, 6] rfl) rfl (.tmp rfl (.tmp rfl (.tmp rfl Res.nil))) (⟨_, _, rfl, R1.ext, rfl⟩)))
set_option maxRecDepth 20000 in
theorem Zbh {S : Sh} {w : World} (hS : Ya S w) {s : ByteArray} (hlim : s.size ≤ 1099511627776) : Calls Tryz.prog 96 [(.string s)].toArray w (Ret S w (fun S v => ((wd (bl s)) ∧ v = .bool true) ∨ ((¬ (wd (bl s))) ∧ v = .bool false))) := by
 refine ZK (n := 20) Tryz.func96 rfl rfl ?_
 intro ac0 L0
 replace L0 : Zt ac0 20 [(0, (.string s))] := L0
 have R0 : Run S w S [] w := .start hS
 have hbs := YZ s; have htn := @trimD_nil s
 refine wp_seq (Za (sa L0 rfl ?_))
 intro _ L1
 refine sn (wp_seq (Za (sm L1 rfl ?_)))
 intro _ L2
 by_cases t1 : ¬ s = (⟨#[]⟩ : ByteArray)
 ·refine so L2 rfl (bT t1 (fun _ => Zbl L2 rfl rfl) fun _ L3 => sm L3 rfl fun _ L4 => son L4 rfl (Zh L4 rfl fun _ L5 => son L5 rfl (Zl L5 rfl ent_149 (strings_TrimR R0.holds (s := s) (sep := (⟨#[48, 49, 50, 51, 52, 53, 54, 55, 56, 57]⟩ : ByteArray)) (by rfl) (by omega)) fun v_1 _ _ x1 v1 => ?_)))
  have R1 := R0.call x1
  obtain rfl := v1
  intro _ L6
  by_cases t2 : (trimD s) = (⟨#[]⟩ : ByteArray)
  ·refine son L6 rfl (bT t2 (fun _ => Xz L6 rfl rfl) fun _ L7 => so L7 rfl (Zj L7 rfl rfl fun _ L8 => sm L8 rfl fun _ L9 => son L9 rfl (Zh L9 rfl fun _ L10 => son L10 rfl (YY L10 rfl Tryz.underlying9 fun _ L11 => ?_))))
   by_cases t3 : ((s.size : Nat) : Int) = (1 : Int)
   ·refine son L11 rfl (bT t3 (fun _ => ZZ L11 rfl rfl) fun _ L12 => son L12 rfl (Zh L12 rfl fun _ L13 => sof L13 rfl fun _ L14 => sof L14 rfl fun _ L15 => sof L15 rfl fun _ L16 => son L16 rfl (Zj L16 rfl rfl fun _ L17 => so L17 rfl (Zj L17 rfl rfl fun _ L18 => ?_))))
    exact sa L18 rfl fun _ L19 => sn (wp_ret ((Zo (rs := Tryz.f96.results.toList) (L19.kp [2] rfl) rfl (.tmp rfl Res.nil) (⟨_, _, rfl, R1.ext, (Or.inl ⟨by first | exact dig_wd (QD (by assumption)) (htn.1 (by assumption)) (by omega) | exact Qd (Classical.not_not.1 (by assumption)) | (exact fun q => absurd (htn.2 q.2.1) (by assumption)) | exact XK (by have q := QD (s := s) (by assumption); omega) (by omega), rfl⟩)⟩))))
   ·refine son L11 rfl (bF t3 (fun _ => ZZ L11 rfl rfl) fun _ L21 => son L21 rfl (Zh L21 rfl fun _ L22 => son L22 rfl (Zh L22 rfl fun _ L23 => son L23 rfl (XH (j := 0) L23 rfl rfl Tryz.underlying9 (by have q := QD (s := s) (by assumption); omega) (by have q := QD (s := s) (by assumption); omega) fun _ L24 => ?_))))
    by_cases t4 : ¬ (((bl s).getD (0) 0 : Nat) : Int) = (48 : Int)
    ·exact son L24 rfl (bT t4 (fun _ => Yo L24 rfl rfl) fun _ L25 => son L25 rfl (Zj L25 rfl rfl fun _ L26 => so L26 rfl (Zj L26 rfl rfl fun _ L27 => sa L27 rfl fun _ L28 => sn (wp_ret ((Zo (rs := Tryz.f96.results.toList) (L28.kp [2] rfl) rfl (.tmp rfl Res.nil) (⟨_, _, rfl, R1.ext, (Or.inl ⟨by first | exact dig_wd (QD (by assumption)) (htn.1 (by assumption)) (by omega) | exact Qd (Classical.not_not.1 (by assumption)) | (exact fun q => absurd (htn.2 q.2.1) (by assumption)) | exact XK (by have q := QD (s := s) (by assumption); omega) (by omega), rfl⟩)⟩)))))))
    ·exact son L24 rfl (bF t4 (fun _ => Yo L24 rfl rfl) fun _ L30 => son L30 rfl (Zj L30 rfl rfl fun _ L31 => so L31 rfl (Zj L31 rfl rfl fun _ L32 => sa L32 rfl fun _ L33 => sn (wp_ret ((Zo (rs := Tryz.f96.results.toList) (L33.kp [2] rfl) rfl (.tmp rfl Res.nil) (⟨_, _, rfl, R1.ext, (Or.inr ⟨by first | exact dig_wd (QD (by assumption)) (htn.1 (by assumption)) (by omega) | exact Qd (Classical.not_not.1 (by assumption)) | (exact fun q => absurd (htn.2 q.2.1) (by assumption)) | exact XK (by have q := QD (s := s) (by assumption); omega) (by omega), rfl⟩)⟩)))))))
  ·refine son L6 rfl (bF t2 (fun _ => Xz L6 rfl rfl) fun _ L35 => so L35 rfl (Zj L35 rfl rfl fun _ L36 => sm L36 rfl fun _ L37 => sof L37 rfl fun _ L38 => sof L38 rfl fun _ L39 => sof L39 rfl fun _ L40 => sof L40 rfl fun _ L41 => ?_))
   refine Ye L41 rfl rfl rfl rfl rfl ?_
   intro _ L42
   refine Ye L42 rfl rfl rfl rfl rfl ?_
   intro _ L43
   refine Ye L43 rfl rfl rfl rfl rfl ?_
   intro _ L44
   exact sof L44 rfl fun _ L45 => so L45 rfl (Zj L45 rfl rfl fun _ L46 => sa L46 rfl fun _ L47 => sn (wp_ret ((Zo (rs := Tryz.f96.results.toList) (L47.kp [2] rfl) rfl (.tmp rfl Res.nil) (⟨_, _, rfl, R1.ext, (Or.inr ⟨by first | exact dig_wd (QD (by assumption)) (htn.1 (by assumption)) (by omega) | exact Qd (Classical.not_not.1 (by assumption)) | (exact fun q => absurd (htn.2 q.2.1) (by assumption)) | exact XK (by have q := QD (s := s) (by assumption); omega) (by omega), rfl⟩)⟩)))))
 ·refine so L2 rfl (bF t1 (fun _ => Zbl L2 rfl rfl) fun _ L49 => sm L49 rfl fun _ L50 => sof L50 rfl fun _ L51 => sof L51 rfl fun _ L52 => sof L52 rfl fun _ L53 => so L53 rfl (Zj L53 rfl rfl fun _ L54 => sm L54 rfl fun _ L55 => ?_))
  refine sof L55 rfl fun _ L56 => sof L56 rfl fun _ L57 => sof L57 rfl fun _ L58 => sof L58 rfl fun _ L59 => Ye L59 rfl rfl rfl rfl rfl fun _ L60 => Ye L60 rfl rfl rfl rfl rfl fun _ L61 => Ye L61 rfl rfl rfl rfl rfl fun _ L62 => ?_
  exact sof L62 rfl fun _ L63 => so L63 rfl (Zj L63 rfl rfl fun _ L64 => sa L64 rfl fun _ L65 => sn (wp_ret ((Zo (rs := Tryz.f96.results.toList) (L65.kp [2] rfl) rfl (.tmp rfl Res.nil) (⟨_, _, rfl, R0.ext, (Or.inr ⟨by first | exact dig_wd (QD (by assumption)) (htn.1 (by assumption)) (by omega) | exact Qd (Classical.not_not.1 (by assumption)) | (exact fun q => absurd (htn.2 q.2.1) (by assumption)) | exact XK (by have q := QD (s := s) (by assumption); omega) (by omega), rfl⟩)⟩)))))
set_option maxRecDepth 20000 in
theorem frac_Parse {S : Sh} {w : World} (hS : Ya S w) {s : ByteArray} (hlim : s.size ≤ 1099511627775) : Calls Tryz.prog 32 [(.string s)].toArray w (Ret S w (fun S v => ∃ (c0 : List Value), v = .tuple [.agg c0.toArray, .int .i64 (YP (bl s))].toArray ∧ Fs S c0 [YO (bl s)] (900))) := by
 refine ZK (n := 80) Tryz.func32 rfl rfl ?_
 intro ac0 L0
 replace L0 : Zt ac0 80 [(0, (.string s))] := L0
 have R0 : Run S w S [] w := .start hS
 refine wp_seq (Za (so L0 rfl (ZG (cs := zF1) Xm R0 rfl ?_)))
 intro b1 _ R1 _ L1
 refine sa L1 rfl fun _ L2 => sn (wp_seq (Za (sm L2 rfl fun _ L3 => so L3 rfl (Zl L3 rfl ent_94 (strings_Cut R1.holds (s := s) (sep := (⟨#[47]⟩ : ByteArray)) (by rfl) (by omega)) fun v_1 _ _ x1 v1 => ?_))))
 have R2 := R1.call x1
 obtain rfl := v1
 intro _ L4
 refine sm L4 rfl fun _ L5 => so L5 rfl (Zf L5 rfl rfl fun _ L6 => so L6 rfl (Zf L6 rfl rfl fun _ L7 => so L7 rfl (Zf L7 rfl rfl fun _ L8 => sa L8 rfl fun _ L9 => sa L9 rfl fun _ L10 => sa L10 rfl fun _ L11 => ?_)))
 have L12 := (L11.kp [2, 3, 4, 5, 6] rfl); clear L11
 refine sn (wp_seq (Za (sm L12 rfl ?_)))
 intro _ L13
 refine so L13 rfl (Zl L13 rfl ent_95 (Zdk R2.holds (s := (YJ (Zai (bl s)))) (sep := (⟨#[45]⟩ : ByteArray)) (by rfl)) fun v_2 S2 _ x2 v2 => ?_)
 have R3 := R2.call x2
 obtain rfl := v2
 intro _ L14
 refine sa L14 rfl fun _ L15 => sn ?_
 refine Qp (fun ac ww => ∃ (S' : Sh) (nm : ByteArray) (dn : ByteArray) (sz : ByteArray), S2.le S' ∧ Zt ac 80 [(2, (.pointer (some ⟨b1, 0, none⟩))), (3, (.int .i64 (0 : Int))), (6, (.bool (decide (ftwo (bl s) = true)))), (4, (.string nm)), (5, (.string dn)), (7, (.string sz))] ∧ Run S w S' [(b1, 36, zF1)] ww ∧ (bl nm = Zai (bl s)) ∧ (bl sz = Zc6 (bl s)) ∧ (bl dn = fden (bl s))) ?_ ?_
 ·rintro ac1 _ ⟨_, nm, dn, sz, l3, L16, R4, hnm, hsz, hdn⟩
  have hmi := Zb7 hnm hsz; have hsb := YZ sz; have hdb := YZ dn; have hbb := @bitlen_gt1 (Qt (bl dn)); have hb1 := @bitlen_one (Nat.gcd (Qt (bl sz)) (Qt (bl dn)))
  have hszl : sz.size ≤ s.size := by rw [← YZ, ← YZ s, hsz]; exact fsize_len _
  have hdnl : dn.size ≤ s.size + 1 := by rw [← YZ, ← YZ s, hdn]; exact fden_len _
  refine wp_seq (Za (sm L16 rfl ?_))
  intro _ L17
  refine so L17 rfl (YY L17 rfl Tryz.underlying9 fun _ L18 => sm L18 rfl fun _ L19 => so L19 rfl (YY L19 rfl Tryz.underlying9 fun _ L20 => ?_))
  by_cases t1 : ((sz.size : Nat) : Int) < ((nm.size : Nat) : Int)
  ·refine so L20 rfl (bT t1 (fun _ => ZF L20 rfl rfl) fun _ L21 => sa L21 rfl fun _ L22 => ?_)
   have L23 := (L22.kp [2, 3, 6, 5, 7, 8] rfl); clear L22
   refine sn (wp_seq (wp_seq (Za (sm L23 rfl ?_))))
   intro _ L24
   refine so L24 rfl (Zl L24 rfl ent_96 (Zbh R4.holds (s := sz) (by omega)) fun v_3 S4 _ x3 v3 => ?_)
   have R5 := R4.call x3
   rcases v3 with ⟨t2, rfl⟩ | ⟨t3, rfl⟩
   ·intro _ L25
    refine so L25 rfl (XV L25 rfl rfl fun _ L26 => sm L26 rfl fun _ L27 => son L27 rfl (Zh L27 rfl fun _ L28 => son L28 rfl (Zl L28 rfl ent_96 (Zbh R5.holds (s := dn) (by omega)) fun v_4 S5 _ x4 v4 => ?_)))
    have R6 := R5.call x4
    rcases v4 with ⟨t4, rfl⟩ | ⟨t5, rfl⟩
    ·intro _ L29
     refine son L29 rfl (XV L29 rfl rfl fun _ L30 => so L30 rfl (Zj L30 rfl rfl fun _ L31 => sm L31 rfl fun _ L32 => son L32 rfl (Zh L32 rfl fun _ L33 => son L33 rfl (Zh L33 rfl fun _ L34 => son L34 rfl (Zh L34 rfl fun _ L35 => ?_)))))
     by_cases t6 : sz = (⟨#[48]⟩ : ByteArray)
     ·refine son L35 rfl (bT t6 (fun _ => Xz L35 rfl rfl) fun _ L36 => son L36 rfl (Zj L36 rfl rfl fun _ L37 => so L37 rfl (Zj L37 rfl rfl fun _ L38 => ?_)))
      have L39 := (L38.kp [2, 3, 6, 5, 7, 8, 42] rfl); clear L38
      refine sn (Zp L39 rfl rfl (wp_seq (Za ?_)))
      have h1 : Fs S5 zF1 [0] (0) := Fs.zero _ _
      refine so L39 rfl (ZC (cs := zF1) L39 Xm Qq .nil (by rfl) fun _ L40 => Zs L40 rfl rfl (Zi L40 rfl rfl R6 Yf h1.len rfl h1.ones fun _ R7 _ L41 => sa L41 rfl fun _ L42 => sn (wp_ret ((Zy (Zo (rs := Tryz.f32.results.toList) L42 rfl (Res.aggW rfl XE Yf (R7.has (List.Mem.head _)) h1.len (.tmp rfl Res.nil)) ?_))))))
      obtain ⟨her, hvl⟩ := Zel (l := bl s) (by unfold fbad; rw [← hsz, ← hdn]; first | exact Or.inl (by assumption) | exact Or.inr (Or.inl (by assumption)) | exact Or.inr (Or.inr ⟨hmi.1 (by assumption), str48.1 (by assumption)⟩))
      exact ⟨_, _, rfl, R7.ext, ⟨_, (by rw [her]; rfl), (h1.toR (by rw [hvl]) (by exact Xr _))⟩⟩
     ·refine son L35 rfl (bF t6 (fun _ => Xz L35 rfl rfl) fun _ L43 => son L43 rfl (Zj L43 rfl rfl fun _ L44 => so L44 rfl (Zj L44 rfl rfl fun _ L45 => ?_)))
      have L46 := (L45.kp [2, 3, 6, 5, 7, 8, 42] rfl); clear L45
      refine sn (Zm L46 rfl rfl (wp_skip ((Zc (wp_seq ?_)))))
      have hnb : ¬ fbad (bl s) := by (unfold fbad; rw [← hsz, ← hdn]; first | exact fun q => q.elim (fun q => q (by assumption)) (fun q => q.elim (fun q => q (by assumption)) (fun q => absurd (hmi.2 q.1) (by assumption))) | exact fun q => q.elim (fun q => q (by assumption)) (fun q => q.elim (fun q => q (by assumption)) (fun q => absurd (str48.2 q.2) (by assumption))))
      refine Za (sm L46 rfl ?_)
      intro _ L47
      refine so L47 rfl (Zl L47 rfl ent_97 (Zau R6.holds (s := sz) (by omega)) fun v_5 _ _ x5 v5 => ?_)
      have R8 := R6.call x5
      rcases v5 with ⟨t7, c1, rfl, h2⟩ | ⟨t8, c2, rfl, h3⟩ | ⟨t9, c3, rfl, h4⟩
      ·exact absurd t7 (not_not_intro t2)
      ·intro _ L48
       refine sm L48 rfl fun _ L49 => so L49 rfl (Zf L49 rfl rfl fun _ L50 => so L50 rfl (Zf L50 rfl rfl fun _ L51 => so L51 rfl (ZG (cs := zN1) ZO R8 rfl fun b2 _ R9 _ L52 => Zs L52 rfl rfl (Zi L52 rfl rfl R9 Zk h3.len rfl h3.ones fun _ R10 _ L53 => sa L53 rfl fun _ L54 => ?_))))
       have L55 := (L54.kp [2, 3, 6, 5, 8, 9, 10] rfl); clear L54
       refine sn (wp_seq (Za (sm L55 rfl ?_)))
       intro _ L56
       refine so L56 rfl (Zl L56 rfl ent_97 (Zau R10.holds (s := dn) (by omega)) fun v_6 S7 _ x6 v6 => ?_)
       have R11 := R10.call x6
       rcases v6 with ⟨t10, c4, rfl, h5⟩ | ⟨t11, c5, rfl, h6⟩ | ⟨t12, c6, rfl, h7⟩
       ·exact absurd t10 (not_not_intro t4)
       ·intro _ L57
        refine sm L57 rfl fun _ L58 => so L58 rfl (Zf L58 rfl rfl fun _ L59 => so L59 rfl (Zf L59 rfl rfl fun _ L60 => so L60 rfl (ZG (cs := zN1) ZO R11 rfl fun b3 _ R12 _ L61 => Zs L61 rfl rfl (Zi L61 rfl rfl R12 Zk h6.len rfl h6.ones fun _ R13 _ L62 => sa L62 rfl fun _ L63 => ?_))))
        have L64 := (L63.kp [2, 3, 6, 8, 9, 10, 11, 12] rfl); clear L63
        refine sn (wp_seq (wp_seq (Za (sm L64 rfl ?_))))
        intro _ L65
        refine so L65 rfl (Xf (b := true) (by decide) (fun _ k_ => Yo L65 rfl rfl k_) fun _ L66 => sm L66 rfl fun _ L67 => sof L67 rfl fun _ L68 => sof L68 rfl fun _ L69 => so L69 rfl (Zj L69 rfl rfl fun _ L70 => ?_))
        have L71 := (L70.kp [2, 3, 6, 8, 9, 11, 59] rfl); clear L70
        refine sn (Zp L71 rfl rfl (wp_seq (Za ?_)))
        have h8 : Fs S7 zF1 [0] (0) := Fs.zero _ _
        refine so L71 rfl (ZC (cs := zF1) L71 Xm Qq .nil (by rfl) fun _ L72 => Zs L72 rfl rfl (Zi L72 rfl rfl (Xj R13) Yf h8.len rfl h8.ones fun _ R14 _ L73 => sa L73 rfl fun _ L74 => sn (wp_ret ((Zy (Zo (rs := Tryz.f32.results.toList) L74 rfl (Res.aggW rfl XE Yf (R14.has (List.Mem.head _)) h8.len (.tmp rfl Res.nil)) ?_))))))
        obtain ⟨her, hvl⟩ := Zaz hnb (by unfold QA; rw [← hsz, ← hdn]; omega)
        exact ⟨_, _, rfl, R14.ext, ⟨_, (by rw [her]; rfl), (h8.toR (by rw [hvl]) (by exact Xr _))⟩⟩
       ·intro _ L75
        refine sm L75 rfl fun _ L76 => so L76 rfl (Zf L76 rfl rfl fun _ L77 => so L77 rfl (Zf L77 rfl rfl fun _ L78 => so L78 rfl (ZG (cs := zN1) ZO R11 rfl fun b4 _ R15 _ L79 => Zs L79 rfl rfl (Zi L79 rfl rfl R15 Zk h7.len rfl h7.ones fun _ R16 _ L80 => sa L80 rfl fun _ L81 => ?_))))
        have L82 := (L81.kp [2, 3, 6, 8, 9, 10, 11, 12] rfl); clear L81
        refine sn (wp_seq (wp_seq (Za (sm L82 rfl ?_))))
        intro _ L83
        refine so L83 rfl (Xf (b := true) (by decide) (fun _ k_ => Yo L83 rfl rfl k_) fun _ L84 => sm L84 rfl fun _ L85 => sof L85 rfl fun _ L86 => sof L86 rfl fun _ L87 => so L87 rfl (Zj L87 rfl rfl fun _ L88 => ?_))
        have L89 := (L88.kp [2, 3, 6, 8, 9, 11, 59] rfl); clear L88
        refine sn (Zp L89 rfl rfl (wp_seq (Za ?_)))
        have h9 : Fs S7 zF1 [0] (0) := Fs.zero _ _
        refine so L89 rfl (ZC (cs := zF1) L89 Xm Qq .nil (by rfl) fun _ L90 => Zs L90 rfl rfl (Zi L90 rfl rfl (Xj R16) Yf h9.len rfl h9.ones fun _ R17 _ L91 => sa L91 rfl fun _ L92 => sn (wp_ret ((Zy (Zo (rs := Tryz.f32.results.toList) L92 rfl (Res.aggW rfl XE Yf (R17.has (List.Mem.head _)) h9.len (.tmp rfl Res.nil)) ?_))))))
        obtain ⟨her, hvl⟩ := Zaz hnb (by unfold QA; rw [← hsz, ← hdn]; omega)
        exact ⟨_, _, rfl, R17.ext, ⟨_, (by rw [her]; rfl), (h9.toR (by rw [hvl]) (by exact Xr _))⟩⟩
      ·intro _ L93
       refine sm L93 rfl fun _ L94 => so L94 rfl (Zf L94 rfl rfl fun _ L95 => so L95 rfl (Zf L95 rfl rfl fun _ L96 => so L96 rfl (ZG (cs := zN1) ZO R8 rfl fun b5 _ R18 _ L97 => Zs L97 rfl rfl (Zi L97 rfl rfl R18 Zk h4.len rfl h4.ones fun _ R19 _ L98 => sa L98 rfl fun _ L99 => ?_))))
       have L100 := (L99.kp [2, 3, 6, 5, 8, 9, 10] rfl); clear L99
       refine sn (wp_seq (Za (sm L100 rfl ?_)))
       intro _ L101
       refine so L101 rfl (Zl L101 rfl ent_97 (Zau R19.holds (s := dn) (by omega)) fun v_7 S8 _ x7 v7 => ?_)
       have R20 := R19.call x7; have l8 := x7.le
       rcases v7 with ⟨t13, c7, rfl, h10⟩ | ⟨t14, c8, rfl, h11⟩ | ⟨t15, c9, rfl, h12⟩
       ·exact absurd t13 (not_not_intro t4)
       ·intro _ L102
        refine sm L102 rfl fun _ L103 => so L103 rfl (Zf L103 rfl rfl fun _ L104 => so L104 rfl (Zf L104 rfl rfl fun _ L105 => so L105 rfl (ZG (cs := zN1) ZO R20 rfl fun b6 _ R21 _ L106 => Zs L106 rfl rfl (Zi L106 rfl rfl R21 Zk h11.len rfl h11.ones fun _ R22 _ L107 => sa L107 rfl fun _ L108 => ?_))))
        have L109 := (L108.kp [2, 3, 6, 8, 9, 10, 11, 12] rfl); clear L108
        refine sn (wp_seq (wp_seq (Za (sm L109 rfl ?_))))
        intro _ L110
        refine so L110 rfl (Xf (b := false) (by decide) (fun _ k_ => Yo L110 rfl rfl k_) fun _ L111 => sm L111 rfl fun _ L112 => son L112 rfl (Zh L112 rfl fun _ L113 => son L113 rfl (Xf (b := true) (by decide) (fun _ k_ => Yo L113 rfl rfl k_) fun _ L114 => so L114 rfl (Zj L114 rfl rfl fun _ L115 => ?_))))
        have L116 := (L115.kp [2, 3, 6, 8, 9, 11, 59] rfl); clear L115
        refine sn (Zp L116 rfl rfl (wp_seq (Za ?_)))
        have h13 : Fs S8 zF1 [0] (0) := Fs.zero _ _
        refine so L116 rfl (ZC (cs := zF1) L116 Xm Qq .nil (by rfl) fun _ L117 => Zs L117 rfl rfl (Zi L117 rfl rfl (Xj R22) Yf h13.len rfl h13.ones fun _ R23 _ L118 => sa L118 rfl fun _ L119 => sn (wp_ret ((Zy (Zo (rs := Tryz.f32.results.toList) L119 rfl (Res.aggW rfl XE Yf (R23.has (List.Mem.head _)) h13.len (.tmp rfl Res.nil)) ?_))))))
        obtain ⟨her, hvl⟩ := Zaz hnb (by unfold QA; rw [← hsz, ← hdn]; omega)
        exact ⟨_, _, rfl, R23.ext, ⟨_, (by rw [her]; rfl), (h13.toR (by rw [hvl]) (by exact Xr _))⟩⟩
       ·intro _ L120
        refine sm L120 rfl fun _ L121 => so L121 rfl (Zf L121 rfl rfl fun _ L122 => so L122 rfl (Zf L122 rfl rfl fun _ L123 => so L123 rfl (ZG (cs := zN1) ZO R20 rfl fun b7 _ R24 _ L124 => Zs L124 rfl rfl (Zi L124 rfl rfl R24 Zk h12.len rfl h12.ones fun _ R25 _ L125 => sa L125 rfl fun _ L126 => ?_))))
        have L127 := (L126.kp [2, 3, 6, 8, 9, 10, 11, 12] rfl); clear L126
        refine sn (wp_seq (wp_seq (Za (sm L127 rfl ?_))))
        intro _ L128
        refine so L128 rfl (Xf (b := false) (by decide) (fun _ k_ => Yo L128 rfl rfl k_) fun _ L129 => sm L129 rfl fun _ L130 => son L130 rfl (Zh L130 rfl fun _ L131 => son L131 rfl (Xf (b := false) (by decide) (fun _ k_ => Yo L131 rfl rfl k_) fun _ L132 => so L132 rfl (Zj L132 rfl rfl fun _ L133 => ?_))))
        have L134 := (L133.kp [2, 3, 6, 8, 9, 11, 59] rfl); clear L133
        refine sn (Zm L134 rfl rfl (wp_skip ((Zc (wp_seq (wp_seq ?_))))))
        by_cases t16 : ftwo (bl s) = true
        ·have L135 := L134; rw [decide_eq_true t16] at L135
         have hnl : ¬ QA (bl s) := by (unfold QA; rw [← hsz, ← hdn]; omega)
         refine Za (sm L135 rfl ?_)
         intro _ L136
         refine sm L136 rfl fun _ L137 => son L137 rfl (Zx L137 rfl ZE Zk (R25.has (List.Mem.head _)) h12.len fun _ L138 => son L138 rfl (Zl L138 rfl Zdf (Yw R25.holds h12 ) fun v_8 S9 _ x8 v8 => ?_))
         have R26 := R25.call x8; have l9 := x8.le
         obtain rfl := v8
         intro _ L139
         by_cases t17 : ((Zw (Qt (bl dn)) : Nat) : Int) < (2 : Int)
         ·refine son L139 rfl (bT t17 (fun _ => ZF L139 rfl rfl) fun _ L140 => son L140 rfl (Zh L140 rfl fun _ L141 => sof L141 rfl fun _ L142 => sof L142 rfl fun _ L143 => sof L143 rfl fun _ L144 => sof L144 rfl fun _ L145 => sof L145 rfl fun _ L146 => ?_))
          refine son L146 rfl (Zj L146 rfl rfl fun _ L147 => so L147 rfl (Zj L147 rfl rfl fun _ L148 => ?_))
          have L149 := (L148.kp [2, 3, 8, 9, 11, 73] rfl); clear L148
          refine sn (Zp L149 rfl rfl (wp_seq (Za ?_)))
          have h14 : Fs S9 zF1 [0] (0) := Fs.zero _ _
          refine so L149 rfl (ZC (cs := zF1) L149 Xm Qq .nil (by rfl) fun _ L150 => Zs L150 rfl rfl (Zi L150 rfl rfl (Xj R26) Yf h14.len rfl h14.ones fun _ R27 _ L151 => sa L151 rfl fun _ L152 => sn (wp_ret ((Zy (Zo (rs := Tryz.f32.results.toList) L152 rfl (Res.aggW rfl XE Yf (R27.has (List.Mem.head _)) h14.len (.tmp rfl Res.nil)) ?_))))))
          obtain ⟨her, hvl⟩ := ferr_red hnb hnl (by unfold fred; rw [← hsz, ← hdn]; exact ⟨by assumption, by omega⟩)
          exact ⟨_, _, rfl, R27.ext, ⟨_, (by rw [her]; rfl), (h14.toR (by rw [hvl]) (by exact Xr _))⟩⟩
         ·refine son L139 rfl (bF t17 (fun _ => ZF L139 rfl rfl) fun _ L153 => son L153 rfl (Zh L153 rfl fun _ L154 => son L154 rfl (Zx L154 rfl ZE Zk (R26.has (List.Mem.tail _ (List.Mem.head _))) h4.len fun _ L155 => son L155 rfl (Zx L155 rfl ZE Zk (R26.has (List.Mem.head _)) h12.len fun _ L156 => son L156 rfl (Zl L156 rfl ent_79 (nat_Gcd R26.holds (h4.up (l8.trans l9)) (h12.up l9) (by omega)) fun v_9 _ _ x9 v9 => ?_)))))
          have R28 := R26.call x9; have l10 := x9.le
          obtain ⟨c10, rfl, h15⟩ := v9
          intro _ L157
          refine son L157 rfl (Zl L157 rfl Zdf (Yw R28.holds h15 ) fun v_10 S11 _ x10 v10 => ?_)
          have R29 := R28.call x10; have l11 := x10.le
          obtain rfl := v10
          intro _ L158
          by_cases t18 : ¬ ((Zw (Nat.gcd (Qt (bl sz)) (Qt (bl dn))) : Nat) : Int) = (1 : Int)
          ·refine son L158 rfl (bT t18 (fun _ => Yo L158 rfl rfl) fun _ L159 => son L159 rfl (Zj L159 rfl rfl fun _ L160 => so L160 rfl (Zj L160 rfl rfl fun _ L161 => ?_)))
           have L162 := (L161.kp [2, 3, 8, 9, 11, 73] rfl); clear L161
           refine sn (Zp L162 rfl rfl (wp_seq (Za ?_)))
           have h16 : Fs S11 zF1 [0] (0) := Fs.zero _ _
           refine so L162 rfl (ZC (cs := zF1) L162 Xm Qq .nil (by rfl) fun _ L163 => Zs L163 rfl rfl (Zi L163 rfl rfl (Xj R29) Yf h16.len rfl h16.ones fun _ R30 _ L164 => sa L164 rfl fun _ L165 => sn (wp_ret ((Zy (Zo (rs := Tryz.f32.results.toList) L165 rfl (Res.aggW rfl XE Yf (R30.has (List.Mem.head _)) h16.len (.tmp rfl Res.nil)) ?_))))))
           obtain ⟨her, hvl⟩ := ferr_red hnb hnl (by unfold fred; rw [← hsz, ← hdn]; exact ⟨by assumption, by omega⟩)
           exact ⟨_, _, rfl, R30.ext, ⟨_, (by rw [her]; rfl), (h16.toR (by rw [hvl]) (by exact Xr _))⟩⟩
          ·refine son L158 rfl (bF t18 (fun _ => Yo L158 rfl rfl) fun _ L166 => son L166 rfl (Zj L166 rfl rfl fun _ L167 => so L167 rfl (Zj L167 rfl rfl fun _ L168 => ?_)))
           have L169 := (L168.kp [2, 3, 8, 9, 11, 73] rfl); clear L168
           refine sn (Zm L169 rfl rfl (wp_skip ((Zc (wp_seq ?_)))))
           have hnr : ¬ fred (bl s) := by (unfold fred; rw [← hsz, ← hdn]; intro q; first | exact absurd q.1 (by assumption) | exact q.2.elim (fun q => by omega) (fun q => by omega))
           have hdp : 0 < Qt (bl dn) := by rw [hdn]; exact Nat.pos_of_ne_zero (Zem hnb hnr)
           have hmn := @Zb7 s nm sz hnm hsz
           have L170 := (L169.kp [2, 3, 8, 9, 11] rfl)
           refine Zu (E0 := []) (H0 := [(b7, 32, c9), (b5, 32, c3), (b1, 36, zF1)]) (n := 80) mixed 4 [] (fun k => 0) (Zce [
             .is (.bool true),
             .is (.agg (c3 : List Value).toArray),
             (kvIn (sI true (Qt (bl sz))) (900)),
             .is (.agg (c9 : List Value).toArray)]) L170 R29 (by simp) (by simp) (by rfl) (by rfl) (by simp) (ZU ?_) ?_
           ·refine (And.intro ?_ (And.intro ?_ (And.intro ?_ (And.intro ?_ trivial))))
            ·exact Zb rfl (fun _ _ _ _ _ A1 => (Zh A1.live rfl (A1.same rfl)))
            ·exact Zb rfl (fun _ _ _ _ _ A2 => (Zx A2.live rfl ZE Zk (A2.run.has (List.mem_append_right _ (List.Mem.tail _ (List.Mem.head _)))) h4.len (A2.same rfl)))
            ·refine Zb rfl (fun _ _ _ _ _ A3 => ?_)
             obtain ⟨_, e1, rfl⟩ := A3.known 0 rfl
             obtain ⟨_, e2, rfl⟩ := A3.known 1 rfl
             exact Zl ((A3.live.add e1).add e2) rfl Zen (Xa A3.run.holds (mi := true) (h4.up (l8.trans (l9.trans (l10.trans (l11.trans A3.le))))) ) fun v_11 _ _ x11 v11 => (A3.post x11.le (A3.run.call x11) v11)
            ·exact Zb rfl (fun _ _ _ _ _ A4 => (Zx A4.live rfl ZE Zk (A4.run.has (List.mem_append_right _ (List.Mem.head _))) h12.len (A4.same rfl)))
           ·intro S17 _ _ w36 l13 E1 R32 n1 L175 K1
            obtain ⟨_, e3, c11, rfl, h17⟩ := K1 2 (by decide)
            have L176 := L175.add e3; clear L175
            obtain ⟨_, e4, rfl⟩ := K1 3 (by decide)
            have L177 := L176.add e4; clear L176
            have R33 : Run _ _ S17 [(b7, 32, c9), (b5, 32, c3), (b1, 36, zF1)] w36 := Yh R32 n1 [] (by simp) (by simp)
            refine so L177 rfl (Zl L177 rfl ent_99 (Zay R33.holds h17 (h12.up (l9.trans (l10.trans (l11.trans l13)))) (hdp) (by omega)) fun v_12 _ _ x12 v12 => ?_)
            have R34 := R33.call x12
            obtain ⟨c12, rfl, h18⟩ := v12
            intro _ L178
            refine Zs L178 rfl rfl (Zi L178 rfl rfl (Xj R34) Yf h18.len rfl h18.ones fun _ R35 _ L179 => sa L179 rfl fun _ L180 => sn (wp_ret ((Zo (rs := Tryz.f32.results.toList) (L180.kp [2, 3] rfl) rfl (Res.aggW rfl XE Yf (R35.has (List.Mem.head _)) h18.len (.tmp rfl Res.nil)) ?_))))
            obtain ⟨her, hvl⟩ := ferr_ok hnb hnl hnr
            exact ⟨_, _, rfl, R35.ext, ⟨_, (by rw [her]; rfl), (h18.toR (by rw [hvl, ← hsz, ← hdn]; first | rw [show fmin (bl s) = true from hmi.1 (by assumption)] | rw [show fmin (bl s) = false from (by cases q : fmin (bl s); rfl; exact absurd (hmi.2 q) (by assumption))]) (by exact Xr _))⟩⟩
        ·have L182 := L134; rw [decide_eq_false t16] at L182
         have hnl : ¬ QA (bl s) := by (unfold QA; rw [← hsz, ← hdn]; omega)
         refine Za (sm L182 rfl ?_)
         intro _ L183
         refine sm L183 rfl fun _ L184 => sof L184 rfl fun _ L185 => sof L185 rfl fun _ L186 => sof L186 rfl fun _ L187 => sof L187 rfl fun _ L188 => Ye L188 rfl rfl rfl rfl rfl fun _ L189 => Ye L189 rfl rfl rfl rfl rfl fun _ L190 => ?_
         refine Ye L190 rfl rfl rfl rfl rfl ?_
         intro _ L191
         refine Ye L191 rfl rfl rfl rfl rfl ?_
         intro _ L192
         refine Ye L192 rfl rfl rfl rfl rfl ?_
         intro _ L193
         refine sof L193 rfl fun _ L194 => so L194 rfl (Zj L194 rfl rfl fun _ L195 => ?_)
         have L196 := (L195.kp [2, 3, 8, 9, 11, 73] rfl); clear L195
         refine sn (Zm L196 rfl rfl (wp_skip ((Zc (wp_seq ?_)))))
         have hnr : ¬ fred (bl s) := by (unfold fred; rw [← hsz, ← hdn]; intro q; first | exact absurd q.1 (by assumption) | exact q.2.elim (fun q => by omega) (fun q => by omega))
         have hdp : 0 < Qt (bl dn) := by rw [hdn]; exact Nat.pos_of_ne_zero (Zem hnb hnr)
         have hmn := @Zb7 s nm sz hnm hsz
         have L197 := (L196.kp [2, 3, 8, 9, 11] rfl)
         refine Zu (E0 := []) (H0 := [(b7, 32, c9), (b5, 32, c3), (b1, 36, zF1)]) (n := 80) mixed 4 [] (fun k => 0) (Zce [
           .is (.bool true),
           .is (.agg (c3 : List Value).toArray),
           (kvIn (sI true (Qt (bl sz))) (900)),
           .is (.agg (c9 : List Value).toArray)]) L197 R25 (by simp) (by simp) (by rfl) (by rfl) (by simp) (ZU ?_) ?_
         ·refine (And.intro ?_ (And.intro ?_ (And.intro ?_ (And.intro ?_ trivial))))
          ·exact Zb rfl (fun _ _ _ _ _ A5 => (Zh A5.live rfl (A5.same rfl)))
          ·exact Zb rfl (fun _ _ _ _ _ A6 => (Zx A6.live rfl ZE Zk (A6.run.has (List.mem_append_right _ (List.Mem.tail _ (List.Mem.head _)))) h4.len (A6.same rfl)))
          ·refine Zb rfl (fun _ _ _ _ _ A7 => ?_)
           obtain ⟨_, e5, rfl⟩ := A7.known 0 rfl
           obtain ⟨_, e6, rfl⟩ := A7.known 1 rfl
           exact Zl ((A7.live.add e5).add e6) rfl Zen (Xa A7.run.holds (mi := true) (h4.up (l8.trans A7.le)) ) fun v_13 _ _ x13 v13 => (A7.post x13.le (A7.run.call x13) v13)
          ·exact Zb rfl (fun _ _ _ _ _ A8 => (Zx A8.live rfl ZE Zk (A8.run.has (List.mem_append_right _ (List.Mem.head _))) h12.len (A8.same rfl)))
         ·intro S24 _ _ w44 l16 E2 R37 n2 L202 K2
          obtain ⟨_, e7, c13, rfl, h19⟩ := K2 2 (by decide)
          have L203 := L202.add e7; clear L202
          obtain ⟨_, e8, rfl⟩ := K2 3 (by decide)
          have L204 := L203.add e8; clear L203
          have R38 : Run _ _ S24 [(b7, 32, c9), (b5, 32, c3), (b1, 36, zF1)] w44 := Yh R37 n2 [] (by simp) (by simp)
          refine so L204 rfl (Zl L204 rfl ent_99 (Zay R38.holds h19 (h12.up l16) (hdp) (by omega)) fun v_14 _ _ x14 v14 => ?_)
          have R39 := R38.call x14
          obtain ⟨c14, rfl, h20⟩ := v14
          intro _ L205
          refine Zs L205 rfl rfl (Zi L205 rfl rfl (Xj R39) Yf h20.len rfl h20.ones fun _ R40 _ L206 => sa L206 rfl fun _ L207 => sn (wp_ret ((Zo (rs := Tryz.f32.results.toList) (L207.kp [2, 3] rfl) rfl (Res.aggW rfl XE Yf (R40.has (List.Mem.head _)) h20.len (.tmp rfl Res.nil)) ?_))))
          obtain ⟨her, hvl⟩ := ferr_ok hnb hnl hnr
          exact ⟨_, _, rfl, R40.ext, ⟨_, (by rw [her]; rfl), (h20.toR (by rw [hvl, ← hsz, ← hdn]; first | rw [show fmin (bl s) = true from hmi.1 (by assumption)] | rw [show fmin (bl s) = false from (by cases q : fmin (bl s); rfl; exact absurd (hmi.2 q) (by assumption))]) (by exact Xr _))⟩⟩
    ·intro _ L209
     refine son L209 rfl (XV L209 rfl rfl fun _ L210 => so L210 rfl (Zj L210 rfl rfl fun _ L211 => sm L211 rfl fun _ L212 => sof L212 rfl fun _ L213 => sof L213 rfl fun _ L214 => Ye L214 rfl rfl rfl rfl rfl fun _ L215 => Ye L215 rfl rfl rfl rfl rfl fun _ L216 => ?_))
     refine sof L216 rfl fun _ L217 => so L217 rfl (Zj L217 rfl rfl fun _ L218 => ?_)
     have L219 := (L218.kp [2, 3, 6, 5, 7, 8, 42] rfl); clear L218
     refine sn (Zp L219 rfl rfl (wp_seq (Za ?_)))
     have h21 : Fs S5 zF1 [0] (0) := Fs.zero _ _
     refine so L219 rfl (ZC (cs := zF1) L219 Xm Qq .nil (by rfl) fun _ L220 => Zs L220 rfl rfl (Zi L220 rfl rfl R6 Yf h21.len rfl h21.ones fun _ R41 _ L221 => sa L221 rfl fun _ L222 => sn (wp_ret ((Zy (Zo (rs := Tryz.f32.results.toList) L222 rfl (Res.aggW rfl XE Yf (R41.has (List.Mem.head _)) h21.len (.tmp rfl Res.nil)) ?_))))))
     obtain ⟨her, hvl⟩ := Zel (l := bl s) (by unfold fbad; rw [← hsz, ← hdn]; first | exact Or.inl (by assumption) | exact Or.inr (Or.inl (by assumption)) | exact Or.inr (Or.inr ⟨hmi.1 (by assumption), str48.1 (by assumption)⟩))
     exact ⟨_, _, rfl, R41.ext, ⟨_, (by rw [her]; rfl), (h21.toR (by rw [hvl]) (by exact Xr _))⟩⟩
   ·intro _ L223
    refine so L223 rfl (XV L223 rfl rfl fun _ L224 => sm L224 rfl fun _ L225 => sof L225 rfl fun _ L226 => sof L226 rfl fun _ L227 => sof L227 rfl fun _ L228 => so L228 rfl (Zj L228 rfl rfl fun _ L229 => sm L229 rfl fun _ L230 => ?_))
    refine sof L230 rfl fun _ L231 => sof L231 rfl fun _ L232 => Ye L232 rfl rfl rfl rfl rfl fun _ L233 => Ye L233 rfl rfl rfl rfl rfl fun _ L234 => sof L234 rfl fun _ L235 => so L235 rfl (Zj L235 rfl rfl fun _ L236 => ?_)
    have L237 := (L236.kp [2, 3, 6, 5, 7, 8, 42] rfl); clear L236
    refine sn (Zp L237 rfl rfl (wp_seq (Za ?_)))
    have h22 : Fs S4 zF1 [0] (0) := Fs.zero _ _
    refine so L237 rfl (ZC (cs := zF1) L237 Xm Qq .nil (by rfl) fun _ L238 => Zs L238 rfl rfl (Zi L238 rfl rfl R5 Yf h22.len rfl h22.ones fun _ R42 _ L239 => sa L239 rfl fun _ L240 => sn (wp_ret ((Zy (Zo (rs := Tryz.f32.results.toList) L240 rfl (Res.aggW rfl XE Yf (R42.has (List.Mem.head _)) h22.len (.tmp rfl Res.nil)) ?_))))))
    obtain ⟨her, hvl⟩ := Zel (l := bl s) (by unfold fbad; rw [← hsz, ← hdn]; first | exact Or.inl (by assumption) | exact Or.inr (Or.inl (by assumption)) | exact Or.inr (Or.inr ⟨hmi.1 (by assumption), str48.1 (by assumption)⟩))
    exact ⟨_, _, rfl, R42.ext, ⟨_, (by rw [her]; rfl), (h22.toR (by rw [hvl]) (by exact Xr _))⟩⟩
  ·refine so L20 rfl (bF t1 (fun _ => ZF L20 rfl rfl) fun _ L241 => sa L241 rfl fun _ L242 => ?_)
   have L243 := (L242.kp [2, 3, 6, 5, 7, 8] rfl); clear L242
   refine sn (wp_seq (wp_seq (Za (sm L243 rfl ?_))))
   intro _ L244
   refine so L244 rfl (Zl L244 rfl ent_96 (Zbh R4.holds (s := sz) (by omega)) fun v_15 S26 _ x15 v15 => ?_)
   have R43 := R4.call x15
   rcases v15 with ⟨t19, rfl⟩ | ⟨t20, rfl⟩
   ·intro _ L245
    refine so L245 rfl (XV L245 rfl rfl fun _ L246 => sm L246 rfl fun _ L247 => son L247 rfl (Zh L247 rfl fun _ L248 => son L248 rfl (Zl L248 rfl ent_96 (Zbh R43.holds (s := dn) (by omega)) fun v_16 S27 _ x16 v16 => ?_)))
    have R44 := R43.call x16
    rcases v16 with ⟨t21, rfl⟩ | ⟨t22, rfl⟩
    ·intro _ L249
     refine son L249 rfl (XV L249 rfl rfl fun _ L250 => so L250 rfl (Zj L250 rfl rfl fun _ L251 => sm L251 rfl fun _ L252 => son L252 rfl (Zh L252 rfl fun _ L253 => son L253 rfl (Zh L253 rfl fun _ L254 => sof L254 rfl fun _ L255 => sof L255 rfl fun _ L256 => ?_))))
     refine son L256 rfl (Zj L256 rfl rfl fun _ L257 => so L257 rfl (Zj L257 rfl rfl fun _ L258 => ?_))
     have L259 := (L258.kp [2, 3, 6, 5, 7, 8, 42] rfl); clear L258
     refine sn (Zm L259 rfl rfl (wp_skip ((Zc (wp_seq ?_)))))
     have hnb : ¬ fbad (bl s) := by (unfold fbad; rw [← hsz, ← hdn]; first | exact fun q => q.elim (fun q => q (by assumption)) (fun q => q.elim (fun q => q (by assumption)) (fun q => absurd (hmi.2 q.1) (by assumption))) | exact fun q => q.elim (fun q => q (by assumption)) (fun q => q.elim (fun q => q (by assumption)) (fun q => absurd (str48.2 q.2) (by assumption))))
     refine Za (sm L259 rfl ?_)
     intro _ L260
     refine so L260 rfl (Zl L260 rfl ent_97 (Zau R44.holds (s := sz) (by omega)) fun v_17 _ _ x17 v17 => ?_)
     have R45 := R44.call x17
     rcases v17 with ⟨t23, c15, rfl, h23⟩ | ⟨t24, c16, rfl, h24⟩ | ⟨t25, c17, rfl, h25⟩
     ·exact absurd t23 (not_not_intro t19)
     ·intro _ L261
      refine sm L261 rfl fun _ L262 => so L262 rfl (Zf L262 rfl rfl fun _ L263 => so L263 rfl (Zf L263 rfl rfl fun _ L264 => so L264 rfl (ZG (cs := zN1) ZO R45 rfl fun b8 _ R46 _ L265 => Zs L265 rfl rfl (Zi L265 rfl rfl R46 Zk h24.len rfl h24.ones fun _ R47 _ L266 => sa L266 rfl fun _ L267 => ?_))))
      have L268 := (L267.kp [2, 3, 6, 5, 8, 9, 10] rfl); clear L267
      refine sn (wp_seq (Za (sm L268 rfl ?_)))
      intro _ L269
      refine so L269 rfl (Zl L269 rfl ent_97 (Zau R47.holds (s := dn) (by omega)) fun v_18 S29 _ x18 v18 => ?_)
      have R48 := R47.call x18
      rcases v18 with ⟨t26, c18, rfl, h26⟩ | ⟨t27, c19, rfl, h27⟩ | ⟨t28, c20, rfl, h28⟩
      ·exact absurd t26 (not_not_intro t21)
      ·intro _ L270
       refine sm L270 rfl fun _ L271 => so L271 rfl (Zf L271 rfl rfl fun _ L272 => so L272 rfl (Zf L272 rfl rfl fun _ L273 => so L273 rfl (ZG (cs := zN1) ZO R48 rfl fun b9 _ R49 _ L274 => Zs L274 rfl rfl (Zi L274 rfl rfl R49 Zk h27.len rfl h27.ones fun _ R50 _ L275 => sa L275 rfl fun _ L276 => ?_))))
       have L277 := (L276.kp [2, 3, 6, 8, 9, 10, 11, 12] rfl); clear L276
       refine sn (wp_seq (wp_seq (Za (sm L277 rfl ?_))))
       intro _ L278
       refine so L278 rfl (Xf (b := true) (by decide) (fun _ k_ => Yo L278 rfl rfl k_) fun _ L279 => sm L279 rfl fun _ L280 => sof L280 rfl fun _ L281 => sof L281 rfl fun _ L282 => so L282 rfl (Zj L282 rfl rfl fun _ L283 => ?_))
       have L284 := (L283.kp [2, 3, 6, 8, 9, 11, 59] rfl); clear L283
       refine sn (Zp L284 rfl rfl (wp_seq (Za ?_)))
       have h29 : Fs S29 zF1 [0] (0) := Fs.zero _ _
       refine so L284 rfl (ZC (cs := zF1) L284 Xm Qq .nil (by rfl) fun _ L285 => Zs L285 rfl rfl (Zi L285 rfl rfl (Xj R50) Yf h29.len rfl h29.ones fun _ R51 _ L286 => sa L286 rfl fun _ L287 => sn (wp_ret ((Zy (Zo (rs := Tryz.f32.results.toList) L287 rfl (Res.aggW rfl XE Yf (R51.has (List.Mem.head _)) h29.len (.tmp rfl Res.nil)) ?_))))))
       obtain ⟨her, hvl⟩ := Zaz hnb (by unfold QA; rw [← hsz, ← hdn]; omega)
       exact ⟨_, _, rfl, R51.ext, ⟨_, (by rw [her]; rfl), (h29.toR (by rw [hvl]) (by exact Xr _))⟩⟩
      ·intro _ L288
       refine sm L288 rfl fun _ L289 => so L289 rfl (Zf L289 rfl rfl fun _ L290 => so L290 rfl (Zf L290 rfl rfl fun _ L291 => so L291 rfl (ZG (cs := zN1) ZO R48 rfl fun b10 _ R52 _ L292 => Zs L292 rfl rfl (Zi L292 rfl rfl R52 Zk h28.len rfl h28.ones fun _ R53 _ L293 => sa L293 rfl fun _ L294 => ?_))))
       have L295 := (L294.kp [2, 3, 6, 8, 9, 10, 11, 12] rfl); clear L294
       refine sn (wp_seq (wp_seq (Za (sm L295 rfl ?_))))
       intro _ L296
       refine so L296 rfl (Xf (b := true) (by decide) (fun _ k_ => Yo L296 rfl rfl k_) fun _ L297 => sm L297 rfl fun _ L298 => sof L298 rfl fun _ L299 => sof L299 rfl fun _ L300 => so L300 rfl (Zj L300 rfl rfl fun _ L301 => ?_))
       have L302 := (L301.kp [2, 3, 6, 8, 9, 11, 59] rfl); clear L301
       refine sn (Zp L302 rfl rfl (wp_seq (Za ?_)))
       have h30 : Fs S29 zF1 [0] (0) := Fs.zero _ _
       refine so L302 rfl (ZC (cs := zF1) L302 Xm Qq .nil (by rfl) fun _ L303 => Zs L303 rfl rfl (Zi L303 rfl rfl (Xj R53) Yf h30.len rfl h30.ones fun _ R54 _ L304 => sa L304 rfl fun _ L305 => sn (wp_ret ((Zy (Zo (rs := Tryz.f32.results.toList) L305 rfl (Res.aggW rfl XE Yf (R54.has (List.Mem.head _)) h30.len (.tmp rfl Res.nil)) ?_))))))
       obtain ⟨her, hvl⟩ := Zaz hnb (by unfold QA; rw [← hsz, ← hdn]; omega)
       exact ⟨_, _, rfl, R54.ext, ⟨_, (by rw [her]; rfl), (h30.toR (by rw [hvl]) (by exact Xr _))⟩⟩
     ·intro _ L306
      refine sm L306 rfl fun _ L307 => so L307 rfl (Zf L307 rfl rfl fun _ L308 => so L308 rfl (Zf L308 rfl rfl fun _ L309 => so L309 rfl (ZG (cs := zN1) ZO R45 rfl fun b11 _ R55 _ L310 => Zs L310 rfl rfl (Zi L310 rfl rfl R55 Zk h25.len rfl h25.ones fun _ R56 _ L311 => sa L311 rfl fun _ L312 => ?_))))
      have L313 := (L312.kp [2, 3, 6, 5, 8, 9, 10] rfl); clear L312
      refine sn (wp_seq (Za (sm L313 rfl ?_)))
      intro _ L314
      refine so L314 rfl (Zl L314 rfl ent_97 (Zau R56.holds (s := dn) (by omega)) fun v_19 S30 _ x19 v19 => ?_)
      have R57 := R56.call x19; have l22 := x19.le
      rcases v19 with ⟨t29, c21, rfl, h31⟩ | ⟨t30, c22, rfl, h32⟩ | ⟨t31, c23, rfl, h33⟩
      ·exact absurd t29 (not_not_intro t21)
      ·intro _ L315
       refine sm L315 rfl fun _ L316 => so L316 rfl (Zf L316 rfl rfl fun _ L317 => so L317 rfl (Zf L317 rfl rfl fun _ L318 => so L318 rfl (ZG (cs := zN1) ZO R57 rfl fun b12 _ R58 _ L319 => Zs L319 rfl rfl (Zi L319 rfl rfl R58 Zk h32.len rfl h32.ones fun _ R59 _ L320 => sa L320 rfl fun _ L321 => ?_))))
       have L322 := (L321.kp [2, 3, 6, 8, 9, 10, 11, 12] rfl); clear L321
       refine sn (wp_seq (wp_seq (Za (sm L322 rfl ?_))))
       intro _ L323
       refine so L323 rfl (Xf (b := false) (by decide) (fun _ k_ => Yo L323 rfl rfl k_) fun _ L324 => sm L324 rfl fun _ L325 => son L325 rfl (Zh L325 rfl fun _ L326 => son L326 rfl (Xf (b := true) (by decide) (fun _ k_ => Yo L326 rfl rfl k_) fun _ L327 => so L327 rfl (Zj L327 rfl rfl fun _ L328 => ?_))))
       have L329 := (L328.kp [2, 3, 6, 8, 9, 11, 59] rfl); clear L328
       refine sn (Zp L329 rfl rfl (wp_seq (Za ?_)))
       have h34 : Fs S30 zF1 [0] (0) := Fs.zero _ _
       refine so L329 rfl (ZC (cs := zF1) L329 Xm Qq .nil (by rfl) fun _ L330 => Zs L330 rfl rfl (Zi L330 rfl rfl (Xj R59) Yf h34.len rfl h34.ones fun _ R60 _ L331 => sa L331 rfl fun _ L332 => sn (wp_ret ((Zy (Zo (rs := Tryz.f32.results.toList) L332 rfl (Res.aggW rfl XE Yf (R60.has (List.Mem.head _)) h34.len (.tmp rfl Res.nil)) ?_))))))
       obtain ⟨her, hvl⟩ := Zaz hnb (by unfold QA; rw [← hsz, ← hdn]; omega)
       exact ⟨_, _, rfl, R60.ext, ⟨_, (by rw [her]; rfl), (h34.toR (by rw [hvl]) (by exact Xr _))⟩⟩
      ·intro _ L333
       refine sm L333 rfl fun _ L334 => so L334 rfl (Zf L334 rfl rfl fun _ L335 => so L335 rfl (Zf L335 rfl rfl fun _ L336 => so L336 rfl (ZG (cs := zN1) ZO R57 rfl fun b13 _ R61 _ L337 => Zs L337 rfl rfl (Zi L337 rfl rfl R61 Zk h33.len rfl h33.ones fun _ R62 _ L338 => sa L338 rfl fun _ L339 => ?_))))
       have L340 := (L339.kp [2, 3, 6, 8, 9, 10, 11, 12] rfl); clear L339
       refine sn (wp_seq (wp_seq (Za (sm L340 rfl ?_))))
       intro _ L341
       refine so L341 rfl (Xf (b := false) (by decide) (fun _ k_ => Yo L341 rfl rfl k_) fun _ L342 => sm L342 rfl fun _ L343 => son L343 rfl (Zh L343 rfl fun _ L344 => son L344 rfl (Xf (b := false) (by decide) (fun _ k_ => Yo L344 rfl rfl k_) fun _ L345 => so L345 rfl (Zj L345 rfl rfl fun _ L346 => ?_))))
       have L347 := (L346.kp [2, 3, 6, 8, 9, 11, 59] rfl); clear L346
       refine sn (Zm L347 rfl rfl (wp_skip ((Zc (wp_seq (wp_seq ?_))))))
       by_cases t32 : ftwo (bl s) = true
       ·have L348 := L347; rw [decide_eq_true t32] at L348
        have hnl : ¬ QA (bl s) := by (unfold QA; rw [← hsz, ← hdn]; omega)
        refine Za (sm L348 rfl ?_)
        intro _ L349
        refine sm L349 rfl fun _ L350 => son L350 rfl (Zx L350 rfl ZE Zk (R62.has (List.Mem.head _)) h33.len fun _ L351 => son L351 rfl (Zl L351 rfl Zdf (Yw R62.holds h33 ) fun v_20 S31 _ x20 v20 => ?_))
        have R63 := R62.call x20; have l23 := x20.le
        obtain rfl := v20
        intro _ L352
        by_cases t33 : ((Zw (Qt (bl dn)) : Nat) : Int) < (2 : Int)
        ·refine son L352 rfl (bT t33 (fun _ => ZF L352 rfl rfl) fun _ L353 => son L353 rfl (Zh L353 rfl fun _ L354 => sof L354 rfl fun _ L355 => sof L355 rfl fun _ L356 => sof L356 rfl fun _ L357 => sof L357 rfl fun _ L358 => sof L358 rfl fun _ L359 => ?_))
         refine son L359 rfl (Zj L359 rfl rfl fun _ L360 => so L360 rfl (Zj L360 rfl rfl fun _ L361 => ?_))
         have L362 := (L361.kp [2, 3, 8, 9, 11, 73] rfl); clear L361
         refine sn (Zp L362 rfl rfl (wp_seq (Za ?_)))
         have h35 : Fs S31 zF1 [0] (0) := Fs.zero _ _
         refine so L362 rfl (ZC (cs := zF1) L362 Xm Qq .nil (by rfl) fun _ L363 => Zs L363 rfl rfl (Zi L363 rfl rfl (Xj R63) Yf h35.len rfl h35.ones fun _ R64 _ L364 => sa L364 rfl fun _ L365 => sn (wp_ret ((Zy (Zo (rs := Tryz.f32.results.toList) L365 rfl (Res.aggW rfl XE Yf (R64.has (List.Mem.head _)) h35.len (.tmp rfl Res.nil)) ?_))))))
         obtain ⟨her, hvl⟩ := ferr_red hnb hnl (by unfold fred; rw [← hsz, ← hdn]; exact ⟨by assumption, by omega⟩)
         exact ⟨_, _, rfl, R64.ext, ⟨_, (by rw [her]; rfl), (h35.toR (by rw [hvl]) (by exact Xr _))⟩⟩
        ·refine son L352 rfl (bF t33 (fun _ => ZF L352 rfl rfl) fun _ L366 => son L366 rfl (Zh L366 rfl fun _ L367 => son L367 rfl (Zx L367 rfl ZE Zk (R63.has (List.Mem.tail _ (List.Mem.head _))) h25.len fun _ L368 => son L368 rfl (Zx L368 rfl ZE Zk (R63.has (List.Mem.head _)) h33.len fun _ L369 => son L369 rfl (Zl L369 rfl ent_79 (nat_Gcd R63.holds (h25.up (l22.trans l23)) (h33.up l23) (by omega)) fun v_21 _ _ x21 v21 => ?_)))))
         have R65 := R63.call x21; have l24 := x21.le
         obtain ⟨c24, rfl, h36⟩ := v21
         intro _ L370
         refine son L370 rfl (Zl L370 rfl Zdf (Yw R65.holds h36 ) fun v_22 S33 _ x22 v22 => ?_)
         have R66 := R65.call x22; have l25 := x22.le
         obtain rfl := v22
         intro _ L371
         by_cases t34 : ¬ ((Zw (Nat.gcd (Qt (bl sz)) (Qt (bl dn))) : Nat) : Int) = (1 : Int)
         ·refine son L371 rfl (bT t34 (fun _ => Yo L371 rfl rfl) fun _ L372 => son L372 rfl (Zj L372 rfl rfl fun _ L373 => so L373 rfl (Zj L373 rfl rfl fun _ L374 => ?_)))
          have L375 := (L374.kp [2, 3, 8, 9, 11, 73] rfl); clear L374
          refine sn (Zp L375 rfl rfl (wp_seq (Za ?_)))
          have h37 : Fs S33 zF1 [0] (0) := Fs.zero _ _
          refine so L375 rfl (ZC (cs := zF1) L375 Xm Qq .nil (by rfl) fun _ L376 => Zs L376 rfl rfl (Zi L376 rfl rfl (Xj R66) Yf h37.len rfl h37.ones fun _ R67 _ L377 => sa L377 rfl fun _ L378 => sn (wp_ret ((Zy (Zo (rs := Tryz.f32.results.toList) L378 rfl (Res.aggW rfl XE Yf (R67.has (List.Mem.head _)) h37.len (.tmp rfl Res.nil)) ?_))))))
          obtain ⟨her, hvl⟩ := ferr_red hnb hnl (by unfold fred; rw [← hsz, ← hdn]; exact ⟨by assumption, by omega⟩)
          exact ⟨_, _, rfl, R67.ext, ⟨_, (by rw [her]; rfl), (h37.toR (by rw [hvl]) (by exact Xr _))⟩⟩
         ·refine son L371 rfl (bF t34 (fun _ => Yo L371 rfl rfl) fun _ L379 => son L379 rfl (Zj L379 rfl rfl fun _ L380 => so L380 rfl (Zj L380 rfl rfl fun _ L381 => ?_)))
          have L382 := (L381.kp [2, 3, 8, 9, 11, 73] rfl); clear L381
          refine sn (Zm L382 rfl rfl (wp_skip ((Zc (wp_seq ?_)))))
          have hnr : ¬ fred (bl s) := by (unfold fred; rw [← hsz, ← hdn]; intro q; first | exact absurd q.1 (by assumption) | exact q.2.elim (fun q => by omega) (fun q => by omega))
          have hdp : 0 < Qt (bl dn) := by rw [hdn]; exact Nat.pos_of_ne_zero (Zem hnb hnr)
          have hmn := @Zb7 s nm sz hnm hsz
          have L383 := (L382.kp [2, 3, 8, 9, 11] rfl)
          refine Zu (E0 := []) (H0 := [(b13, 32, c23), (b11, 32, c17), (b1, 36, zF1)]) (n := 80) mixed 4 [] (fun k => 0) (Zce [
            .is (.bool false),
            .is (.agg (c17 : List Value).toArray),
            (kvIn (sI false (Qt (bl sz))) (900)),
            .is (.agg (c23 : List Value).toArray)]) L383 R66 (by simp) (by simp) (by rfl) (by rfl) (by simp) (ZU ?_) ?_
          ·refine (And.intro ?_ (And.intro ?_ (And.intro ?_ (And.intro ?_ trivial))))
           ·exact Zb rfl (fun _ _ _ _ _ A9 => (Zh A9.live rfl (A9.same rfl)))
           ·exact Zb rfl (fun _ _ _ _ _ A10 => (Zx A10.live rfl ZE Zk (A10.run.has (List.mem_append_right _ (List.Mem.tail _ (List.Mem.head _)))) h25.len (A10.same rfl)))
           ·refine Zb rfl (fun _ _ _ _ _ A11 => ?_)
            obtain ⟨_, e9, rfl⟩ := A11.known 0 rfl
            obtain ⟨_, e10, rfl⟩ := A11.known 1 rfl
            exact Zl ((A11.live.add e9).add e10) rfl Zen (Xa A11.run.holds (mi := false) (h25.up (l22.trans (l23.trans (l24.trans (l25.trans A11.le))))) ) fun v_23 _ _ x23 v23 => (A11.post x23.le (A11.run.call x23) v23)
           ·exact Zb rfl (fun _ _ _ _ _ A12 => (Zx A12.live rfl ZE Zk (A12.run.has (List.mem_append_right _ (List.Mem.head _))) h33.len (A12.same rfl)))
          ·intro S39 _ _ w79 l27 E3 R69 n3 L388 K3
           obtain ⟨_, e11, c25, rfl, h38⟩ := K3 2 (by decide)
           have L389 := L388.add e11; clear L388
           obtain ⟨_, e12, rfl⟩ := K3 3 (by decide)
           have L390 := L389.add e12; clear L389
           have R70 : Run _ _ S39 [(b13, 32, c23), (b11, 32, c17), (b1, 36, zF1)] w79 := Yh R69 n3 [] (by simp) (by simp)
           refine so L390 rfl (Zl L390 rfl ent_99 (Zay R70.holds h38 (h33.up (l23.trans (l24.trans (l25.trans l27)))) (hdp) (by omega)) fun v_24 _ _ x24 v24 => ?_)
           have R71 := R70.call x24
           obtain ⟨c26, rfl, h39⟩ := v24
           intro _ L391
           refine Zs L391 rfl rfl (Zi L391 rfl rfl (Xj R71) Yf h39.len rfl h39.ones fun _ R72 _ L392 => sa L392 rfl fun _ L393 => sn (wp_ret ((Zo (rs := Tryz.f32.results.toList) (L393.kp [2, 3] rfl) rfl (Res.aggW rfl XE Yf (R72.has (List.Mem.head _)) h39.len (.tmp rfl Res.nil)) ?_))))
           obtain ⟨her, hvl⟩ := ferr_ok hnb hnl hnr
           exact ⟨_, _, rfl, R72.ext, ⟨_, (by rw [her]; rfl), (h39.toR (by rw [hvl, ← hsz, ← hdn]; first | rw [show fmin (bl s) = true from hmi.1 (by assumption)] | rw [show fmin (bl s) = false from (by cases q : fmin (bl s); rfl; exact absurd (hmi.2 q) (by assumption))]) (by exact Xr _))⟩⟩
       ·have L395 := L347; rw [decide_eq_false t32] at L395
        have hnl : ¬ QA (bl s) := by (unfold QA; rw [← hsz, ← hdn]; omega)
        refine Za (sm L395 rfl ?_)
        intro _ L396
        refine sm L396 rfl fun _ L397 => sof L397 rfl fun _ L398 => sof L398 rfl fun _ L399 => sof L399 rfl fun _ L400 => sof L400 rfl fun _ L401 => Ye L401 rfl rfl rfl rfl rfl fun _ L402 => Ye L402 rfl rfl rfl rfl rfl fun _ L403 => ?_
        refine Ye L403 rfl rfl rfl rfl rfl ?_
        intro _ L404
        refine Ye L404 rfl rfl rfl rfl rfl ?_
        intro _ L405
        refine Ye L405 rfl rfl rfl rfl rfl ?_
        intro _ L406
        refine sof L406 rfl fun _ L407 => so L407 rfl (Zj L407 rfl rfl fun _ L408 => ?_)
        have L409 := (L408.kp [2, 3, 8, 9, 11, 73] rfl); clear L408
        refine sn (Zm L409 rfl rfl (wp_skip ((Zc (wp_seq ?_)))))
        have hnr : ¬ fred (bl s) := by (unfold fred; rw [← hsz, ← hdn]; intro q; first | exact absurd q.1 (by assumption) | exact q.2.elim (fun q => by omega) (fun q => by omega))
        have hdp : 0 < Qt (bl dn) := by rw [hdn]; exact Nat.pos_of_ne_zero (Zem hnb hnr)
        have hmn := @Zb7 s nm sz hnm hsz
        have L410 := (L409.kp [2, 3, 8, 9, 11] rfl)
        refine Zu (E0 := []) (H0 := [(b13, 32, c23), (b11, 32, c17), (b1, 36, zF1)]) (n := 80) mixed 4 [] (fun k => 0) (Zce [
          .is (.bool false),
          .is (.agg (c17 : List Value).toArray),
          (kvIn (sI false (Qt (bl sz))) (900)),
          .is (.agg (c23 : List Value).toArray)]) L410 R62 (by simp) (by simp) (by rfl) (by rfl) (by simp) (ZU ?_) ?_
        ·refine (And.intro ?_ (And.intro ?_ (And.intro ?_ (And.intro ?_ trivial))))
         ·exact Zb rfl (fun _ _ _ _ _ A13 => (Zh A13.live rfl (A13.same rfl)))
         ·exact Zb rfl (fun _ _ _ _ _ A14 => (Zx A14.live rfl ZE Zk (A14.run.has (List.mem_append_right _ (List.Mem.tail _ (List.Mem.head _)))) h25.len (A14.same rfl)))
         ·refine Zb rfl (fun _ _ _ _ _ A15 => ?_)
          obtain ⟨_, e13, rfl⟩ := A15.known 0 rfl
          obtain ⟨_, e14, rfl⟩ := A15.known 1 rfl
          exact Zl ((A15.live.add e13).add e14) rfl Zen (Xa A15.run.holds (mi := false) (h25.up (l22.trans A15.le)) ) fun v_25 _ _ x25 v25 => (A15.post x25.le (A15.run.call x25) v25)
         ·exact Zb rfl (fun _ _ _ _ _ A16 => (Zx A16.live rfl ZE Zk (A16.run.has (List.mem_append_right _ (List.Mem.head _))) h33.len (A16.same rfl)))
        ·intro S46 _ _ w87 l30 E4 R74 n4 L415 K4
         obtain ⟨_, e15, c27, rfl, h40⟩ := K4 2 (by decide)
         have L416 := L415.add e15; clear L415
         obtain ⟨_, e16, rfl⟩ := K4 3 (by decide)
         have L417 := L416.add e16; clear L416
         have R75 : Run _ _ S46 [(b13, 32, c23), (b11, 32, c17), (b1, 36, zF1)] w87 := Yh R74 n4 [] (by simp) (by simp)
         refine so L417 rfl (Zl L417 rfl ent_99 (Zay R75.holds h40 (h33.up l30) (hdp) (by omega)) fun v_26 _ _ x26 v26 => ?_)
         have R76 := R75.call x26
         obtain ⟨c28, rfl, h41⟩ := v26
         intro _ L418
         refine Zs L418 rfl rfl (Zi L418 rfl rfl (Xj R76) Yf h41.len rfl h41.ones fun _ R77 _ L419 => sa L419 rfl fun _ L420 => sn (wp_ret ((Zo (rs := Tryz.f32.results.toList) (L420.kp [2, 3] rfl) rfl (Res.aggW rfl XE Yf (R77.has (List.Mem.head _)) h41.len (.tmp rfl Res.nil)) ?_))))
         obtain ⟨her, hvl⟩ := ferr_ok hnb hnl hnr
         exact ⟨_, _, rfl, R77.ext, ⟨_, (by rw [her]; rfl), (h41.toR (by rw [hvl, ← hsz, ← hdn]; first | rw [show fmin (bl s) = true from hmi.1 (by assumption)] | rw [show fmin (bl s) = false from (by cases q : fmin (bl s); rfl; exact absurd (hmi.2 q) (by assumption))]) (by exact Xr _))⟩⟩
    ·intro _ L422
     refine son L422 rfl (XV L422 rfl rfl fun _ L423 => so L423 rfl (Zj L423 rfl rfl fun _ L424 => sm L424 rfl fun _ L425 => sof L425 rfl fun _ L426 => sof L426 rfl fun _ L427 => Ye L427 rfl rfl rfl rfl rfl fun _ L428 => Ye L428 rfl rfl rfl rfl rfl fun _ L429 => ?_))
     refine sof L429 rfl fun _ L430 => so L430 rfl (Zj L430 rfl rfl fun _ L431 => ?_)
     have L432 := (L431.kp [2, 3, 6, 5, 7, 8, 42] rfl); clear L431
     refine sn (Zp L432 rfl rfl (wp_seq (Za ?_)))
     have h42 : Fs S27 zF1 [0] (0) := Fs.zero _ _
     refine so L432 rfl (ZC (cs := zF1) L432 Xm Qq .nil (by rfl) fun _ L433 => Zs L433 rfl rfl (Zi L433 rfl rfl R44 Yf h42.len rfl h42.ones fun _ R78 _ L434 => sa L434 rfl fun _ L435 => sn (wp_ret ((Zy (Zo (rs := Tryz.f32.results.toList) L435 rfl (Res.aggW rfl XE Yf (R78.has (List.Mem.head _)) h42.len (.tmp rfl Res.nil)) ?_))))))
     obtain ⟨her, hvl⟩ := Zel (l := bl s) (by unfold fbad; rw [← hsz, ← hdn]; first | exact Or.inl (by assumption) | exact Or.inr (Or.inl (by assumption)) | exact Or.inr (Or.inr ⟨hmi.1 (by assumption), str48.1 (by assumption)⟩))
     exact ⟨_, _, rfl, R78.ext, ⟨_, (by rw [her]; rfl), (h42.toR (by rw [hvl]) (by exact Xr _))⟩⟩
   ·intro _ L436
    refine so L436 rfl (XV L436 rfl rfl fun _ L437 => sm L437 rfl fun _ L438 => sof L438 rfl fun _ L439 => sof L439 rfl fun _ L440 => sof L440 rfl fun _ L441 => so L441 rfl (Zj L441 rfl rfl fun _ L442 => sm L442 rfl fun _ L443 => ?_))
    refine sof L443 rfl fun _ L444 => sof L444 rfl fun _ L445 => Ye L445 rfl rfl rfl rfl rfl fun _ L446 => Ye L446 rfl rfl rfl rfl rfl fun _ L447 => sof L447 rfl fun _ L448 => so L448 rfl (Zj L448 rfl rfl fun _ L449 => ?_)
    have L450 := (L449.kp [2, 3, 6, 5, 7, 8, 42] rfl); clear L449
    refine sn (Zp L450 rfl rfl (wp_seq (Za ?_)))
    have h43 : Fs S26 zF1 [0] (0) := Fs.zero _ _
    refine so L450 rfl (ZC (cs := zF1) L450 Xm Qq .nil (by rfl) fun _ L451 => Zs L451 rfl rfl (Zi L451 rfl rfl R43 Yf h43.len rfl h43.ones fun _ R79 _ L452 => sa L452 rfl fun _ L453 => sn (wp_ret ((Zy (Zo (rs := Tryz.f32.results.toList) L453 rfl (Res.aggW rfl XE Yf (R79.has (List.Mem.head _)) h43.len (.tmp rfl Res.nil)) ?_))))))
    obtain ⟨her, hvl⟩ := Zel (l := bl s) (by unfold fbad; rw [← hsz, ← hdn]; first | exact Or.inl (by assumption) | exact Or.inr (Or.inl (by assumption)) | exact Or.inr (Or.inr ⟨hmi.1 (by assumption), str48.1 (by assumption)⟩))
    exact ⟨_, _, rfl, R79.ext, ⟨_, (by rw [her]; rfl), (h43.toR (by rw [hvl]) (by exact Xr _))⟩⟩
 ·skip
  refine wp_seq (Za (sm L15 rfl ?_))
  intro _ L454
  refine so L454 rfl (XV L454 rfl rfl fun _ L455 => sn ?_)
  by_cases t35 : ftwo (bl s) = true
  ·exact Zm L455 rfl (by rw [decide_eq_true t35]; rfl) (wp_skip ((Zc (⟨S2, (YJ (Zai (bl s))), (YJ (Za1 (bl s)).2.1), (tpre (YJ (Zai (bl s)))), Sh.le.refl _, (L455.kp [7, 5, 4, 6, 3, 2] rfl), R3, (by exact XM (Zca (bl_lt s)).1), (by exact fsize_tpre (XM (Zca (bl_lt s)).1)), (by first | (rw [fden_not (by assumption)]; rfl) | (rw [fden_two (by assumption)]; exact XM (Zca (bl_lt s)).2))⟩))))
  ·refine Zp L455 rfl (by rw [decide_eq_false t35]; rfl) (Za (sa L455 rfl ?_))
   intro _ L456
   exact sn (⟨S2, (YJ (Zai (bl s))), (⟨#[49]⟩ : ByteArray), (tpre (YJ (Zai (bl s)))), Sh.le.refl _, (L456.kp [7, 5, 4, 6, 3, 2] rfl), R3, (by exact XM (Zca (bl_lt s)).1), (by exact fsize_tpre (XM (Zca (bl_lt s)).1)), (by first | (rw [fden_not (by assumption)]; rfl) | (rw [fden_two (by assumption)]; exact XM (Zca (bl_lt s)).2))⟩)
end Go.Cham
namespace Go.Cham
open Go Go.RowKit Go.Proofs
noncomputable section
theorem YN.splitA {D : Dom Ato} {G : Gh} {B : List (SV Ato)} : ∀ {A : List (SV Ato)} {vs : List Value}, YN D G (A ++ B) vs → ∃ us ws, vs = us ++ ws ∧ YN D G A us ∧ YN D G B ws
  | [], vs, h => ⟨[], vs, rfl, .nil, h⟩
  | x :: A, vs, h => by
    cases h with
    | one h1 h2 h3 h4 =>
      obtain ⟨us, ws, rfl, a1, a2⟩ := YN.splitA (A := A) h4
      exact ⟨_ :: us, ws, rfl, .one h1 h2 h3 a1, a2⟩
    | run h1 h4 =>
      obtain ⟨us, ws, rfl, a1, a2⟩ := YN.splitA (A := A) h4
      exact ⟨_ ++ us, ws, by rw [List.append_assoc], .run h1 a1, a2⟩
def asQ1 (T : Tb) (l : List (SV Ato)) : Option Nat := match asQ' T l with
  | some i => match isK T i 2 with
    | true => some i
    | false => none
  | none => none
def asQs (T : Tb) : Nat → List (SV Ato) → Option (List Nat)
  | 0, l => match l with
    | [] => some []
    | _ => none
  | n + 1, l => match l with
    | x :: .at_ y :: z :: r => match asQ1 T [x, .at_ y, z] with
      | some i => match asQs T n r with
        | some is => some (i :: is)
        | none => none
      | none => none
    | x :: y :: z :: u :: v :: r => match asQ1 T [x, y, z, u, v] with
      | some i => match asQs T n r with
        | some is => some (i :: is)
        | none => none
      | none => none
    | _ => none
def asT1 (x : SV Ato) (ih : Option (List Nat)) : Option (List Nat) := match x with
  | .at_ (.t i) => match ih with
    | some is => some (i :: is)
    | none => none
  | _ => none
def asTs (l : List (SV Ato)) : Option (List Nat) := List.rec (some []) (fun x _ ih => asT1 x ih) l
def mxC (T : Tb) (is : List Nat) : Nat := List.rec 0 (fun i _ s => match Zat T i with
  | some r => match Nat.ble r.c s with
    | true => s
    | false => r.c
  | none => s) is
def mxD (T : Tb) (is : List Nat) : Nat := List.rec 0 (fun i _ s => match Zat T i with
  | some r => match Nat.ble r.d s with
    | true => s
    | false => r.d
  | none => s) is
def shortB (T : Tb) (i : Nat) : Bool := match yesNo T [12, i] with
  | some b => !b
  | none => false
def keyE (x : Int) (key : List Nat) : List Nat := match x with
  | .ofNat n => match n with
    | 0 => key
    | _ + 1 => [6]
  | .negSucc _ => key
def pFParse (T : Tb) : PrF Ato := fun l => match l with
  | [.at_ (.t i)] => match shortB T i with
    | true => match condGo [4, i] T.conds with
      | some x => match findV T (keyE x [38, i]) with
        | some (k, r) => match Nat.ble 900 r.d with
          | true => some (.tup [.agg (cQ k), .int .i64 x])
          | false => none
        | none => none
      | none => none
    | false => none
  | _ => none
def txtK (T : Tb) (i : Nat) : Option (List Nat) := match Zat T i with
  | some r => match r.key with
    | [6] => some [48]
    | [10, a, s] => match s with
      | 0 => some (decB a)
      | _ => none
    | _ => none
  | none => none
def pText (T : Tb) : PrF Ato := fun l => match getA T [2] l with
  | some is => match is with
    | [i] => match txtK T i with
      | some s => match limB T 100000000000 [i] with
        | true => some (.str s)
        | false => none
      | none => opV T 43 100000000000 0 [i]
    | _ => none
  | none => none
section
variable {T : Tb} {K : Nat} {base ρ : Nat → AV} {bd : Nat → Nat} {G : Gh} {T0 : Tb} {hT : Cs T0 ρ}
theorem asQ1_ok (hg : YB T K base ρ bd) {l : List (SV Ato)} {i : Nat} {vs : List Value} (h : asQ1 T l = some i) (hd : YN (DS hT bd) G l vs) : Fs G.S vs [(ρ i).rat] (bd i) := by
  unfold asQ1 at h
  split at h
  · rename_i j hj
    split at h
    · rename_i hk
      cases h
      have h1 := asQ_ok hg hj hd
      have e := AV.k2 (Zei hg hk)
      rw [e] at h1
      obtain ⟨cs, e1, h2⟩ := h1
      simp only [Value.agg.injEq] at e1
      have e2 : vs = cs := by simpa using congrArg Array.toList e1
      rw [e2]
      exact h2
    · cases h
  · cases h
theorem Zd0 (hg : YB T K base ρ bd) {k : Nat} : ∀ {n : Nat} {l : List (SV Ato)} {is : List Nat} {vs : List Value}, asQs T n l = some is → YN (DS hT bd) G l vs → (∀ i ∈ is, bd i ≤ k) → Fs G.S vs (is.map fun i => (ρ i).rat) k
  | 0, l, is, vs, h, hd, hk => by
    unfold asQs at h
    split at h
    · cases h
      rw [hd.nilI]; rfl
    · cases h
  | n + 1, l, is, vs, h, hd, hk => by
    unfold asQs at h
    split at h
    · rename_i x y z r
      split at h
      · rename_i i hi
        split at h
        · rename_i js hjs
          cases h
          obtain ⟨us, ws, rfl, h1, h2⟩ := YN.splitA (A := [x, .at_ y, z]) hd
          exact ((asQ1_ok hg hi h1).wide (hk i (by simp))).append (Zd0 hg hjs h2 fun j hj => hk j (by simp [hj]))
        · cases h
      · cases h
    · rename_i x y z u v r _
      split at h
      · rename_i i hi
        split at h
        · rename_i js hjs
          cases h
          obtain ⟨us, ws, rfl, h1, h2⟩ := YN.splitA (A := [x, y, z, u, v]) hd
          exact ((asQ1_ok hg hi h1).wide (hk i (by simp))).append (Zd0 hg hjs h2 fun j hj => hk j (by simp [hj]))
        · cases h
      · cases h
    · cases h
theorem asTs_ok : ∀ {l : List (SV Ato)} {is : List Nat} {vs : List Value}, asTs l = some is → YN (DS hT bd) G l vs → ∃ ss, vs = ss.map Value.string ∧ TsE ρ is ss
  | [], is, vs, h, hd => by
    have h' : some [] = some is := h
    cases h'
    rw [hd.nilI]; exact ⟨[], rfl, trivial⟩
  | x :: l, is, vs, h, hd => by
    have h' : asT1 x (asTs l) = some is := h
    unfold asT1 at h'
    split at h'
    · split at h'
      · rename_i js hjs
        cases h'
        obtain ⟨us, ws, rfl, ⟨s, e, rfl⟩, h2⟩ := YN.runI hd
        obtain ⟨ss, rfl, h3⟩ := asTs_ok hjs h2
        exact ⟨s :: ss, rfl, e, h3⟩
      · cases h'
    · cases h'
theorem mx_ok (hg : YB T K base ρ bd) {lim : Nat} : ∀ {is : List Nat}, limB T lim is = true → ∀ i ∈ is, bd i ≤ mxC T is * K + mxD T is
  | [], _, i, hi => by cases hi
  | j :: is, h, i, hi => by
    have h1 : (limB T lim [j] && limB T lim is) = true := by simpa [limB] using h
    simp only [Bool.and_eq_true] at h1
    have h2 := List.all_eq_true.1 h1.1 j (by simp)
    split at h2
    · rename_i r hr
      have e1 : r.c ≤ mxC T (j :: is) ∧ mxC T is ≤ mxC T (j :: is) := by
        have e : mxC T (j :: is) = match Nat.ble r.c (mxC T is) with
          | true => mxC T is
          | false => r.c := by
          show (match Zat T j with
            | some r => match Nat.ble r.c (mxC T is) with
              | true => mxC T is
              | false => r.c
            | none => mxC T is) = _
          rw [hr]
        rw [e]
        cases hb : Nat.ble r.c (mxC T is) with
        | true => exact ⟨Nat.le_of_ble_eq_true hb, Nat.le_refl _⟩
        | false =>
          refine ⟨Nat.le_refl _, ?_⟩
          rcases Nat.le_total r.c (mxC T is) with h9 | h9
          · rw [Nat.ble_eq_true_of_le h9] at hb; cases hb
          · exact h9
      have e2 : r.d ≤ mxD T (j :: is) ∧ mxD T is ≤ mxD T (j :: is) := by
        have e : mxD T (j :: is) = match Nat.ble r.d (mxD T is) with
          | true => mxD T is
          | false => r.d := by
          show (match Zat T j with
            | some r => match Nat.ble r.d (mxD T is) with
              | true => mxD T is
              | false => r.d
            | none => mxD T is) = _
          rw [hr]
        rw [e]
        cases hb : Nat.ble r.d (mxD T is) with
        | true => exact ⟨Nat.le_of_ble_eq_true hb, Nat.le_refl _⟩
        | false =>
          refine ⟨Nat.le_refl _, ?_⟩
          rcases Nat.le_total r.d (mxD T is) with h9 | h9
          · rw [Nat.ble_eq_true_of_le h9] at hb; cases hb
          · exact h9
      rcases List.mem_cons.1 hi with rfl | hi
      · rw [(hg.row _ _ hr).2]
        exact Nat.add_le_add (Nat.mul_le_mul_right _ e1.1) e2.1
      · exact Nat.le_trans (mx_ok hg h1.2 i hi) (Nat.add_le_add (Nat.mul_le_mul_right _ e1.2) e2.2)
    · cases h2
theorem mx_lim {lim : Nat} (hK : K ≤ T.km) : ∀ {is : List Nat}, Nat.ble (Nat.add (Nat.mul (mxC T is) T.km) (mxD T is)) lim = true → mxC T is * K + mxD T is ≤ lim := by
  intro is h
  exact Nat.le_trans (Nat.add_le_add_right (Nat.mul_le_mul_left _ hK) _) (Nat.le_of_ble_eq_true h)
theorem shortB_ok (hg : YB T K base ρ bd) {i : Nat} (h : shortB T i = true) : (ρ i).txt.size ≤ 1024 := by
  unfold shortB at h
  split at h
  · rename_i b hb
    have h1 := Zcd hg.cond hb
    cases b with
    | true => cases h
    | false =>
      have h2 : (if 1024 < (ρ i).txt.size then (1 : Int) else 0) = 0 := h1
      split at h2
      · cases h2
      · omega
  · cases h
set_option maxRecDepth 100000 in
theorem pFParse_ok (hg : YB T K base ρ bd) : Xp Tryz.prog (DS hT bd) 32 (pFParse T) := by
  intro args r hr G w vs hd hS
  unfold pFParse at hr
  split at hr
  · rename_i i
    split at hr
    · rename_i hs
      split at hr
      · rename_i x hx
        split at hr
        · rename_i k r' hf
          split at hr
          · rename_i hb
            cases hr
            obtain ⟨h1, h2⟩ := XT hf
            obtain ⟨h3, h4⟩ := hg.row _ _ h1
            rw [h2] at h3
            cases hd with
            | cons x1 x2 =>
              cases x2
              cases x1 with
              | at_ hp =>
                obtain ⟨s, e, hv⟩ := hp
                have hv' := List.cons.inj hv
                obtain ⟨rfl, _⟩ := hv'
                have hsz := shortB_ok hg hs
                rw [e] at hsz
                have hsz' : s.size ≤ 1024 := hsz
                have hc : YP (bl s) = x := by
                  have h9 := hg.cond _ (Za2 hx)
                  have h8 : ZD ρ [4, i] = YP (bl (ρ i).txt) := rfl
                  rw [e] at h8
                  exact h8.symm.trans h9
                have h3' : ρ k = .q (YO (bl s)) := by
                  rw [h3]
                  unfold keyE
                  split
                  · split
                    · show semL 38 [ρ i] = _
                      rw [e]; rfl
                    · show AV.q 0 = _
                      unfold YO
                      rw [if_neg (by rw [hc]; simp; omega)]
                  · show semL 38 [ρ i] = _
                    rw [e]; rfl
                have hb' := Nat.le_of_ble_eq_true hb
                refine .ret (by kernel_rfl) (frac_Parse hS (s := s) (by omega)) fun S' v ⟨c0, ev, hv⟩ => ?_
                rw [ev, hc]
                exact .tup (.cons (YT (kd := 2) (by rw [h3']; rfl) (by rw [h3']; exact ⟨c0, rfl, hv.wide (by omega)⟩)) (.cons (.int _ _) .nil))
          · cases hr
        · cases hr
      · cases hr
    · cases hr
  · cases hr
theorem rtxt_nat (a : Nat) : rtxt (((a : Int)) : Rat) = decs a := by
  unfold rtxt ztxt
  have h1 : (((a : Int)) : Rat).num = (a : Int) := rfl
  have h2 : (((a : Int)) : Rat).den = 1 := rfl
  rw [h1, h2]
  simp
theorem txtK_ok (hg : YB T K base ρ bd) {i : Nat} {s : List Nat} (h : txtK T i = some s) : rtxt (ρ i).rat = s := by
  unfold txtK at h
  split at h
  · rename_i r hr
    have h1 := (hg.row _ _ hr).1
    split at h
    · rename_i hk
      rw [hk] at h1
      cases h
      rw [h1]
      exact (rtxt_nat 0).trans (by rw [← decB_eq]; rfl)
    · rename_i a s' hk
      rw [hk] at h1
      split at h
      · cases h
        rw [h1, decB_eq]
        exact rtxt_nat a
      · cases h
    · cases h
  · cases h
set_option maxRecDepth 100000 in
theorem pText_ok (hg : YB T K base ρ bd) : Xp Tryz.prog (DS hT bd) 55 (pText T) := by
  intro args r hr G w vs hd hS
  unfold pText at hr
  split at hr
  · rename_i is his
    split at hr
    · rename_i i
      obtain ⟨x, k1, v, e1, e2, rfl, h5, h6⟩ := (Qe hg his hd).one
      simp only [List.map_cons, List.map_nil, List.cons.injEq, and_true] at e1 e2
      subst e1 e2
      obtain ⟨c, rfl, h7⟩ := h6.q h5
      split at hr
      · rename_i s hs
        split at hr
        · rename_i hl
          cases hr
          have hb := limB_ok hg hl (bd i) (by simp)
          refine .ret (by kernel_rfl) (Zde hS h7 hb) fun S' v hv => ?_
          rw [hv, txtK_ok hg hs]
          exact .str _
        · cases hr
      · obtain ⟨l, rfl, g1, g2, g3, g4⟩ := Zdb hg hr (by decide)
        have hb := g3 (bd i) (by simp)
        refine .ret (by kernel_rfl) (Zde hS h7 hb) fun S' v hv => YT g1 ?_
        rw [g2]
        exact hv
    · cases hr
  · cases hr
end
def symTab3 (T : Tb) : List (Nat × PrF Ato) := (32, pFParse T) :: (55, pText T) :: symTab2 T
theorem symTab3_OK : TabOK symTab3 := by
  intro T K base ρ bd T0 hT hg p hp
  simp only [symTab3, List.mem_cons] at hp
  rcases hp with rfl | rfl | hp
  · exact pFParse_ok hg
  · exact pText_ok hg
  · exact symTab2_ok hg p hp
end
end Go.Cham
namespace Go.Cham
open Go Go.RowKit Go.Proofs
noncomputable section
set_option maxRecDepth 100000
def vz_r : List Rw := [⟨[2, 0], 1, 0⟩, ⟨[2, 1], 1, 0⟩, ⟨[2, 2], 1, 0⟩]
def vz_T (cs : CL) : Tb := ⟨vz_r, cs, 100000000000⟩
def vz_G (cs : CL) (r : SV Ato) : Prop := RunT symTab3 (vz_T cs) 30 [.agg (cQs [0, 1, 2])] r 60
def vz_R (a0 a1 a2 : Rat) : Nat → AV := rho (vz_T []) (Zc8 [a0, a1, a2])
def vz_k0 : CL := ([1, 0], 1) :: []
theorem vz_p1 : vz_G vz_k0 (.bool false) := fun _ _ _ => by kernel_rfl
def vz_k1 : CL := ([1, 0], (-1)) :: []
theorem vz_p0 : vz_G vz_k1 (.bool false) := fun _ _ _ => by kernel_rfl
def vz_k2 : CL := ([1, 0], 0) :: []
def vz_k3 : CL := ([1, 1], 1) :: vz_k2
theorem vz_p3 : vz_G vz_k3 (.bool false) := fun _ _ _ => by kernel_rfl
def vz_k4 : CL := ([1, 1], (-1)) :: vz_k2
theorem vz_p2 : vz_G vz_k4 (.bool false) := fun _ _ _ => by kernel_rfl
def vz_k5 : CL := ([1, 1], 0) :: vz_k2
def vz_k6 : CL := ([1, 2], 0) :: vz_k5
theorem vz_p6 : vz_G vz_k6 (.bool true) := fun _ _ _ => by kernel_rfl
def vz_k7 : CL := ([1, 2], 1) :: vz_k5
theorem vz_p5 : vz_G vz_k7 (.bool false) := fun _ _ _ => by kernel_rfl
def vz_k8 : CL := ([1, 2], (-1)) :: vz_k5
theorem vz_p4 : vz_G vz_k8 (.bool false) := fun _ _ _ => by kernel_rfl
theorem vec_Zero_s {S : Sh} {w : World} (hS : Ya S w) {c_a : List Value} {a0 a1 a2 : Rat} {k : Nat} (h_a : Fs S c_a [a0, a1, a2] k) (hlim : k ≤ 100000000000) :
  Calls Tryz.prog 30 [(.agg (c_a : List Value).toArray)].toArray w (Ret S w (fun _ v => v = .bool (decide (a0.num = 0 ∧ a1.num = 0 ∧ a2.num = 0)))) := by
 have leaf := fun cs hc {r} (h : vz_G cs r) {u} hg => sym_ground symTab3_OK (K := k) (base := Zc8 [a0, a1, a2]) (by kernel_rfl) hlim (by kernel_rfl) hS (fun _ _ => .cons (.agg (XW (is := [0, 1, 2]) (qs := [a0, a1, a2]) (k := k) ⟨by kernel_rfl, le1 _, by kernel_rfl, le1 _, by kernel_rfl, le1 _, trivial⟩ h_a)) .nil) cs hc (r := r) h (u := u) hg
 rcases Zd5 (vz_R a0 a1 a2) (t := 1) (is := [0]) (by decide) with h0 | h0 | h0; rotate_left 2
 ·have H0 : Csl (vz_R a0 a1 a2) vz_k0 := .cons h0 .nil
  exact Calls.mono (leaf _ H0 vz_p1 rfl) fun e w' ⟨v, S', q1, q2, q3⟩ => ⟨v, S', q1, q2, q3.trans (by rw [decide_eq_false fun z => (by have g := ((by kernel_rfl : ZD (vz_R a0 a1 a2) [1, 0] = Yx (a0).num).symm.trans h0); rw [z.1] at g; cases g)])⟩
 ·have H1 : Csl (vz_R a0 a1 a2) vz_k1 := .cons h0 .nil
  exact Calls.mono (leaf _ H1 vz_p0 rfl) fun e w' ⟨v, S', q1, q2, q3⟩ => ⟨v, S', q1, q2, q3.trans (by rw [decide_eq_false fun z => (by have g := ((by kernel_rfl : ZD (vz_R a0 a1 a2) [1, 0] = Yx (a0).num).symm.trans h0); rw [z.1] at g; cases g)])⟩
 have H2 : Csl (vz_R a0 a1 a2) vz_k2 := .cons h0 .nil
 rcases Zd5 (vz_R a0 a1 a2) (t := 1) (is := [1]) (by decide) with h1 | h1 | h1; rotate_left 2
 ·have H3 : Csl (vz_R a0 a1 a2) vz_k3 := .cons h1 H2
  exact Calls.mono (leaf _ H3 vz_p3 rfl) fun e w' ⟨v, S', q1, q2, q3⟩ => ⟨v, S', q1, q2, q3.trans (by rw [decide_eq_false fun z => (by have g := ((by kernel_rfl : ZD (vz_R a0 a1 a2) [1, 1] = Yx (a1).num).symm.trans h1); rw [z.2.1] at g; cases g)])⟩
 ·have H4 : Csl (vz_R a0 a1 a2) vz_k4 := .cons h1 H2
  exact Calls.mono (leaf _ H4 vz_p2 rfl) fun e w' ⟨v, S', q1, q2, q3⟩ => ⟨v, S', q1, q2, q3.trans (by rw [decide_eq_false fun z => (by have g := ((by kernel_rfl : ZD (vz_R a0 a1 a2) [1, 1] = Yx (a1).num).symm.trans h1); rw [z.2.1] at g; cases g)])⟩
 have H5 : Csl (vz_R a0 a1 a2) vz_k5 := .cons h1 H2
 rcases Zd5 (vz_R a0 a1 a2) (t := 1) (is := [2]) (by decide) with h2 | h2 | h2; rotate_left
 ·have H6 : Csl (vz_R a0 a1 a2) vz_k6 := .cons h2 H5
  exact Calls.mono (leaf _ H6 vz_p6 rfl) fun e w' ⟨v, S', q1, q2, q3⟩ => ⟨v, S', q1, q2, q3.trans (by rw [decide_eq_true ⟨Yp.1 ((by kernel_rfl : ZD (vz_R a0 a1 a2) [1, 0] = Yx (a0).num).symm.trans h0), Yp.1 ((by kernel_rfl : ZD (vz_R a0 a1 a2) [1, 1] = Yx (a1).num).symm.trans h1), Yp.1 ((by kernel_rfl : ZD (vz_R a0 a1 a2) [1, 2] = Yx (a2).num).symm.trans h2)⟩])⟩
 ·have H7 : Csl (vz_R a0 a1 a2) vz_k7 := .cons h2 H5
  exact Calls.mono (leaf _ H7 vz_p5 rfl) fun e w' ⟨v, S', q1, q2, q3⟩ => ⟨v, S', q1, q2, q3.trans (by rw [decide_eq_false fun z => (by have g := ((by kernel_rfl : ZD (vz_R a0 a1 a2) [1, 2] = Yx (a2).num).symm.trans h2); rw [z.2.2] at g; cases g)])⟩
 have H8 : Csl (vz_R a0 a1 a2) vz_k8 := .cons h2 H5
 exact Calls.mono (leaf _ H8 vz_p4 rfl) fun e w' ⟨v, S', q1, q2, q3⟩ => ⟨v, S', q1, q2, q3.trans (by rw [decide_eq_false fun z => (by have g := ((by kernel_rfl : ZD (vz_R a0 a1 a2) [1, 2] = Yx (a2).num).symm.trans h2); rw [z.2.2] at g; cases g)])⟩
end
end Go.Cham
namespace Go.Cham
open Go Go.RowKit Go.Proofs
noncomputable section
set_option maxRecDepth 100000
theorem sI_quo (z : Int) (n : Nat) : sI (decide (z < 0)) (z.natAbs / n) = quoN z n := by unfold sI quoN; simp
theorem sgn_quo {a b c d q : Rat} (h : ¬ (a.num = 0 ∧ b.num = 0 ∧ c.num = 0)) (hq : q.den ∣ pL a b c d) (hg : pG a b c d ∣ (pI (pL a b c d) q).natAbs) : Yx (quoN (pI (pL a b c d) q) (pG a b c d)) = Yx q.num := by
 have e1 := quoN_neg hg (pG_pos h)
 have e2 := pI_sign hq (pL_pos a b c d)
 have e3 := Zdo hq (pL_pos a b c d)
 have e4 := Zck hg
 have e5 : quoN (pI (pL a b c d) q) (pG a b c d) = 0 ↔ q.num = 0 := by
  constructor
  ·intro h9
   rw [h9, Int.zero_mul] at e4
   exact e3.1 e4.symm
  ·intro h9
   rw [e3.2 h9]
   unfold quoN
   simp
 unfold Yx
 by_cases h1 : q.num = 0
 ·rw [if_pos h1, if_pos (e5.2 h1)]
 ·rw [if_neg h1, if_neg (fun h => h1 (e5.1 h))]
  by_cases h2 : q.num < 0
  ·rw [if_pos h2, if_pos (e1.2 (e2.2 h2))]
  ·rw [if_neg h2, if_neg (fun h => h2 (e2.1 (e1.1 h)))]
theorem Qz {z : Int} (h : Yx z = -1) : z < 0 := by
 unfold Yx at h
 split at h
 ·cases h
 ·split at h
  ·assumption
  ·cases h
theorem Qy {z : Int} (h : Yx z = 1) : 0 < z := by
 unfold Yx at h
 split at h
 ·cases h
 ·split at h
  ·cases h
  ·omega
def mk_r : List Rw := [⟨[2, 0], 1, 0⟩, ⟨[2, 1], 1, 0⟩, ⟨[2, 2], 1, 0⟩, ⟨[2, 3], 1, 0⟩, ⟨[4, 1], 0, 64⟩, ⟨[16, 0], 1, 0⟩, ⟨[28, 4, 5], 1, 64⟩, ⟨[32, 5, 6], 2, 64⟩, ⟨[40, 5, 6], 2, 64⟩, ⟨[24, 4, 7], 2, 128⟩, ⟨[16, 1], 1, 0⟩, ⟨[28, 9, 10], 3, 128⟩, ⟨[32, 10, 11], 4, 128⟩, ⟨[40, 10, 11], 4, 128⟩, ⟨[24, 9, 12], 6, 256⟩, ⟨[16, 2], 1, 0⟩, ⟨[28, 14, 15], 7, 256⟩, ⟨[32, 15, 16], 8, 256⟩, ⟨[40, 15, 16], 8, 256⟩, ⟨[24, 14, 17], 14, 512⟩, ⟨[16, 3], 1, 0⟩, ⟨[28, 19, 20], 15, 512⟩, ⟨[32, 20, 21], 16, 512⟩, ⟨[40, 20, 21], 16, 512⟩, ⟨[24, 19, 22], 30, 1024⟩, ⟨[32, 24, 5], 31, 1024⟩, ⟨[40, 24, 5], 31, 1024⟩, ⟨[13, 0], 1, 0⟩, ⟨[17, 25], 31, 1024⟩, ⟨[37, 27, 28], 32, 1024⟩, ⟨[32, 24, 10], 31, 1024⟩, ⟨[40, 24, 10], 31, 1024⟩, ⟨[13, 1], 1, 0⟩, ⟨[17, 30], 31, 1024⟩, ⟨[37, 32, 33], 32, 1024⟩, ⟨[32, 24, 15], 31, 1024⟩, ⟨[40, 24, 15], 31, 1024⟩, ⟨[13, 2], 1, 0⟩, ⟨[17, 35], 31, 1024⟩, ⟨[37, 37, 38], 32, 1024⟩, ⟨[32, 24, 20], 31, 1024⟩, ⟨[40, 24, 20], 31, 1024⟩, ⟨[13, 3], 1, 0⟩, ⟨[17, 40], 31, 1024⟩, ⟨[37, 42, 43], 32, 1024⟩, ⟨[4, 0], 0, 64⟩, ⟨[12, 29], 32, 1024⟩, ⟨[28, 45, 46], 32, 1088⟩, ⟨[12, 34], 32, 1024⟩, ⟨[28, 47, 48], 64, 2112⟩, ⟨[12, 39], 32, 1024⟩, ⟨[28, 49, 50], 96, 3136⟩, ⟨[12, 44], 32, 1024⟩, ⟨[28, 51, 52], 128, 4160⟩, ⟨[32, 46, 53], 160, 5184⟩, ⟨[40, 46, 53], 160, 5184⟩, ⟨[21, 29, 54], 192, 6208⟩, ⟨[32, 48, 53], 160, 5184⟩, ⟨[40, 48, 53], 160, 5184⟩, ⟨[21, 34, 57], 192, 6208⟩, ⟨[32, 50, 53], 160, 5184⟩, ⟨[40, 50, 53], 160, 5184⟩, ⟨[21, 39, 60], 192, 6208⟩, ⟨[32, 52, 53], 160, 5184⟩, ⟨[40, 52, 53], 160, 5184⟩, ⟨[21, 44, 63], 192, 6208⟩, ⟨[25, 56], 192, 6208⟩, ⟨[25, 59], 192, 6208⟩, ⟨[25, 62], 192, 6208⟩, ⟨[25, 65], 192, 6208⟩, ⟨[14, 66], 192, 6208⟩, ⟨[14, 67], 192, 6208⟩, ⟨[14, 68], 192, 6208⟩, ⟨[14, 69], 192, 6208⟩, ⟨[14, 56], 192, 6208⟩, ⟨[14, 59], 192, 6208⟩, ⟨[14, 62], 192, 6208⟩, ⟨[14, 65], 192, 6208⟩]
def mk_T (cs : CL) : Tb := ⟨mk_r, cs, 500000000⟩
def mk_G (cs : CL) (r : SV Ato) : Prop := RunT symTab2 (mk_T cs) 23 [.agg (cQs [0, 1, 2]), .agg (cQs [3])] r 200
def YX (a0 a1 a2 a3 : Rat) : Nat → AV := rho (mk_T []) (Zc8 [a0, a1, a2, a3])
def mk_k0 : CL := ([3, 56], 1) :: ([5, 53], 0) :: ([1, 0], 1) :: []
theorem mk_p1 : mk_G mk_k0 (.tup [.agg (cQs [74, 75, 76, 77]), .int .i64 0]) := fun _ _ _ => by kernel_rfl
def mk_k1 : CL := ([3, 56], (-1)) :: ([5, 53], 0) :: ([1, 0], (-1)) :: []
theorem mk_p0 : mk_G mk_k1 (.tup [.agg (cQs [70, 71, 72, 73]), .int .i64 0]) := fun _ _ _ => by kernel_rfl
def mk_k2 : CL := ([1, 0], 0) :: []
def mk_k3 : CL := ([3, 59], 1) :: ([3, 56], 0) :: ([5, 53], 0) :: ([1, 1], 1) :: mk_k2
theorem mk_p3 : mk_G mk_k3 (.tup [.agg (cQs [74, 75, 76, 77]), .int .i64 0]) := fun _ _ _ => by kernel_rfl
def mk_k4 : CL := ([3, 59], (-1)) :: ([3, 56], 0) :: ([5, 53], 0) :: ([1, 1], (-1)) :: mk_k2
theorem mk_p2 : mk_G mk_k4 (.tup [.agg (cQs [70, 71, 72, 73]), .int .i64 0]) := fun _ _ _ => by kernel_rfl
def mk_k5 : CL := ([1, 1], 0) :: mk_k2
def mk_k6 : CL := ([1, 2], 0) :: mk_k5
theorem mk_p6 : mk_G mk_k6 (.tup [.agg (zQs 4), .int .i64 2]) := fun _ _ _ => by kernel_rfl
def mk_k7 : CL := ([3, 62], 1) :: ([3, 59], 0) :: ([3, 56], 0) :: ([5, 53], 0) :: ([1, 2], 1) :: mk_k5
theorem mk_p5 : mk_G mk_k7 (.tup [.agg (cQs [74, 75, 76, 77]), .int .i64 0]) := fun _ _ _ => by kernel_rfl
def mk_k8 : CL := ([3, 62], (-1)) :: ([3, 59], 0) :: ([3, 56], 0) :: ([5, 53], 0) :: ([1, 2], (-1)) :: mk_k5
theorem mk_p4 : mk_G mk_k8 (.tup [.agg (cQs [70, 71, 72, 73]), .int .i64 0]) := fun _ _ _ => by kernel_rfl
theorem Zco {a0 a1 a2 a3 : Rat} {k : Nat} {cs : List (List Nat × Int)} (hc : Csl (YX a0 a1 a2 a3) cs) {is : List Nat} (hQ : QsI (YX a0 a1 a2 a3) (Zcb (mk_T []) k) (192 * k + 6208) is [pn a0 a1 a2 a3 a0, pn a0 a1 a2 a3 a1, pn a0 a1 a2 a3 a2, pn a0 a1 a2 a3 a3]) {S' : Sh} {blk : Nat → Option (Nat × Nat)} {v : Value} (h3 : Den (DS (T := mk_T cs) (ρ := YX a0 a1 a2 a3) hc.all (Zcb (mk_T []) k)) ⟨S', blk⟩ (.tup [.agg (cQs is), .int .i64 0]) v) :
  ∃ (c0 : List Value), v = .tuple [.agg c0.toArray, .int .i64 0].toArray ∧ Fs S' c0 [pn a0 a1 a2 a3 a0, pn a0 a1 a2 a3 a1, pn a0 a1 a2 a3 a2, pn a0 a1 a2 a3 a3] (192 * k + 6208) := by
 cases h3 with
 | tup h4 => cases h4 with
  | cons h5 h6 => cases h6 with
   | cons h7 h8 =>
    cases h8
    cases h7
    cases h5 with
    | agg h9 => exact ⟨_, rfl, Zab hQ h9⟩
theorem make_zero {T : Tb} {ρ : Nat → AV} {hT : Cs T ρ} {bd : Nat → Nat} {S' : Sh} {blk : Nat → Option (Nat × Nat)} {v : Value} (h3 : Den (DS hT bd) ⟨S', blk⟩ (.tup [.agg (zQs 4), .int .i64 2]) v) :
  ∃ (c0 : List Value), v = .tuple [.agg c0.toArray, .int .i64 2].toArray ∧ Fs S' c0 [0, 0, 0, 0] 0 := by
 cases h3 with
 | tup h4 => cases h4 with
  | cons h5 h6 => cases h6 with
   | cons h7 h8 =>
    cases h8
    cases h7
    obtain ⟨c0, rfl, hF⟩ := Zbw (k := 0) h5
    exact ⟨_, rfl, hF⟩
theorem plane_Make_s {S : Sh} {w : World} (hS : Ya S w) {c_a : List Value} {a0 a1 a2 : Rat} {k_a : Nat} (h_a : Fs S c_a [a0, a1, a2] k_a) {c_y : List Value} {a3 : Rat} {k_y : Nat} (h_y : Fs S c_y [a3] k_y) (hlim : k_a ≤ 250000000) (hlim2 : k_y ≤ 250000000) :
  Calls Tryz.prog 23 [(.agg (c_a : List Value).toArray), (.agg (c_y : List Value).toArray)].toArray w (Ret S w (fun S v => ((a0.num = 0 ∧ a1.num = 0 ∧ a2.num = 0) ∧ ∃ (c0 : List Value), v = .tuple [.agg c0.toArray, .int .i64 (2)].toArray ∧ Fs S c0 [0, 0, 0, 0] (0)) ∨ ((¬ (a0.num = 0 ∧ a1.num = 0 ∧ a2.num = 0)) ∧ ∃ (c0 : List Value), v = .tuple [.agg c0.toArray, .int .i64 (0)].toArray ∧ Fs S c0 [pn a0 a1 a2 a3 a0, pn a0 a1 a2 a3 a1, pn a0 a1 a2 a3 a2, pn a0 a1 a2 a3 a3] (192 * (k_a + k_y) + 6208)))) := by
 have leaf := fun cs hc {r} (h : mk_G cs r) => QV symTab2_OK (K := k_a + k_y) (base := Zc8 [a0, a1, a2, a3]) (by kernel_rfl) (by omega) (by kernel_rfl) hS (fun _ _ => .cons (.agg (XW (is := [0, 1, 2]) (qs := [a0, a1, a2]) (k := k_a + k_y) ⟨by kernel_rfl, le1 _, by kernel_rfl, le1 _, by kernel_rfl, le1 _, trivial⟩ (h_a.wide (Nat.le_add_right k_a k_y)))) (.cons (.agg (XW (is := [3]) (qs := [a3]) (k := k_a + k_y) ⟨by kernel_rfl, le1 _, trivial⟩ (h_y.wide (Nat.le_add_left k_y k_a)))) .nil)) cs hc h
 have pz : ¬ (a0.num = 0 ∧ a1.num = 0 ∧ a2.num = 0) → ZD (YX a0 a1 a2 a3) [5, 53] = 0 := fun h => (by kernel_rfl : ZD (YX a0 a1 a2 a3) [5, 53] = (if pG a0 a1 a2 a3 = 0 then (1 : Int) else 0)).trans (if_neg (pG_pos h))
 have p0 : ¬ (a0.num = 0 ∧ a1.num = 0 ∧ a2.num = 0) → ZD (YX a0 a1 a2 a3) [3, 56] = Yx a0.num := fun h => (by kernel_rfl : ZD (YX a0 a1 a2 a3) [3, 56] = Yx (sI (decide (pI (pL a0 a1 a2 a3) a0 < 0)) ((pI (pL a0 a1 a2 a3) a0).natAbs / pG a0 a1 a2 a3))).trans (by rw [sI_quo]; exact sgn_quo h (pL_a a0 a1 a2 a3) (Zee a0 a1 a2 a3).1)
 have p1 : ¬ (a0.num = 0 ∧ a1.num = 0 ∧ a2.num = 0) → ZD (YX a0 a1 a2 a3) [3, 59] = Yx a1.num := fun h => (by kernel_rfl : ZD (YX a0 a1 a2 a3) [3, 59] = Yx (sI (decide (pI (pL a0 a1 a2 a3) a1 < 0)) ((pI (pL a0 a1 a2 a3) a1).natAbs / pG a0 a1 a2 a3))).trans (by rw [sI_quo]; exact sgn_quo h (pL_b a0 a1 a2 a3) (Zee a0 a1 a2 a3).2.1)
 have p2 : ¬ (a0.num = 0 ∧ a1.num = 0 ∧ a2.num = 0) → ZD (YX a0 a1 a2 a3) [3, 62] = Yx a2.num := fun h => (by kernel_rfl : ZD (YX a0 a1 a2 a3) [3, 62] = Yx (sI (decide (pI (pL a0 a1 a2 a3) a2 < 0)) ((pI (pL a0 a1 a2 a3) a2).natAbs / pG a0 a1 a2 a3))).trans (by rw [sI_quo]; exact sgn_quo h (pL_c a0 a1 a2 a3) (Zee a0 a1 a2 a3).2.2.1)
 have qn : pS a0.num a1.num a2.num = -1 → QsI (YX a0 a1 a2 a3) (Zcb (mk_T []) (k_a + k_y)) (192 * (k_a + k_y) + 6208) [70, 71, 72, 73] [pn a0 a1 a2 a3 a0, pn a0 a1 a2 a3 a1, pn a0 a1 a2 a3 a2, pn a0 a1 a2 a3 a3] := by
  intro hs
  have hq : ∀ q, ((-(sI (decide (pI (pL a0 a1 a2 a3) q < 0)) ((pI (pL a0 a1 a2 a3) q).natAbs / pG a0 a1 a2 a3)) : Int) : Rat) = pn a0 a1 a2 a3 q := fun q => by rw [sI_quo]; unfold pn pnI; rw [hs, Int.neg_mul, Int.one_mul]
  exact ⟨(by kernel_rfl : (YX a0 a1 a2 a3) 70 = .q ((-(sI (decide (pI (pL a0 a1 a2 a3) a0 < 0)) ((pI (pL a0 a1 a2 a3) a0).natAbs / pG a0 a1 a2 a3)) : Int) : Rat)).trans (congrArg AV.q (hq a0)), Nat.le_refl _, (by kernel_rfl : (YX a0 a1 a2 a3) 71 = .q ((-(sI (decide (pI (pL a0 a1 a2 a3) a1 < 0)) ((pI (pL a0 a1 a2 a3) a1).natAbs / pG a0 a1 a2 a3)) : Int) : Rat)).trans (congrArg AV.q (hq a1)), Nat.le_refl _, (by kernel_rfl : (YX a0 a1 a2 a3) 72 = .q ((-(sI (decide (pI (pL a0 a1 a2 a3) a2 < 0)) ((pI (pL a0 a1 a2 a3) a2).natAbs / pG a0 a1 a2 a3)) : Int) : Rat)).trans (congrArg AV.q (hq a2)), Nat.le_refl _, (by kernel_rfl : (YX a0 a1 a2 a3) 73 = .q ((-(sI (decide (pI (pL a0 a1 a2 a3) a3 < 0)) ((pI (pL a0 a1 a2 a3) a3).natAbs / pG a0 a1 a2 a3)) : Int) : Rat)).trans (congrArg AV.q (hq a3)), Nat.le_refl _, trivial⟩
 have qp : pS a0.num a1.num a2.num = 1 → QsI (YX a0 a1 a2 a3) (Zcb (mk_T []) (k_a + k_y)) (192 * (k_a + k_y) + 6208) [74, 75, 76, 77] [pn a0 a1 a2 a3 a0, pn a0 a1 a2 a3 a1, pn a0 a1 a2 a3 a2, pn a0 a1 a2 a3 a3] := by
  intro hs
  have hq : ∀ q, ((sI (decide (pI (pL a0 a1 a2 a3) q < 0)) ((pI (pL a0 a1 a2 a3) q).natAbs / pG a0 a1 a2 a3) : Int) : Rat) = pn a0 a1 a2 a3 q := fun q => by rw [sI_quo]; unfold pn pnI; rw [hs, Int.one_mul]
  exact ⟨(by kernel_rfl : (YX a0 a1 a2 a3) 74 = .q ((sI (decide (pI (pL a0 a1 a2 a3) a0 < 0)) ((pI (pL a0 a1 a2 a3) a0).natAbs / pG a0 a1 a2 a3) : Int) : Rat)).trans (congrArg AV.q (hq a0)), Nat.le_refl _, (by kernel_rfl : (YX a0 a1 a2 a3) 75 = .q ((sI (decide (pI (pL a0 a1 a2 a3) a1 < 0)) ((pI (pL a0 a1 a2 a3) a1).natAbs / pG a0 a1 a2 a3) : Int) : Rat)).trans (congrArg AV.q (hq a1)), Nat.le_refl _, (by kernel_rfl : (YX a0 a1 a2 a3) 76 = .q ((sI (decide (pI (pL a0 a1 a2 a3) a2 < 0)) ((pI (pL a0 a1 a2 a3) a2).natAbs / pG a0 a1 a2 a3) : Int) : Rat)).trans (congrArg AV.q (hq a2)), Nat.le_refl _, (by kernel_rfl : (YX a0 a1 a2 a3) 77 = .q ((sI (decide (pI (pL a0 a1 a2 a3) a3 < 0)) ((pI (pL a0 a1 a2 a3) a3).natAbs / pG a0 a1 a2 a3) : Int) : Rat)).trans (congrArg AV.q (hq a3)), Nat.le_refl _, trivial⟩
 rcases Zd5 (YX a0 a1 a2 a3) (t := 1) (is := [0]) (by decide) with h0 | h0 | h0; rotate_left 2
 ·have h1 : ZD (YX a0 a1 a2 a3) [5, 53] = 0 := pz (fun z => by have g := Qy ((by kernel_rfl : ZD (YX a0 a1 a2 a3) [1, 0] = Yx (a0).num).symm.trans h0); omega)
  have h2 : ZD (YX a0 a1 a2 a3) [3, 56] = 1 := (p0 (fun z => by have g := Qy ((by kernel_rfl : ZD (YX a0 a1 a2 a3) [1, 0] = Yx (a0).num).symm.trans h0); omega)).trans ((by kernel_rfl : ZD (YX a0 a1 a2 a3) [1, 0] = Yx (a0).num).symm.trans h0)
  have H0 : Csl (YX a0 a1 a2 a3) mk_k0 := .cons h2 (.cons h1 (.cons h0 .nil))
  have g0 := Qy ((by kernel_rfl : ZD (YX a0 a1 a2 a3) [1, 0] = Yx (a0).num).symm.trans h0)
  have hs : pS a0.num a1.num a2.num = 1 := by unfold pS sgnI; rw [if_pos (by omega), if_neg (by omega)]
  exact Calls.mono (leaf _ H0 mk_p1) fun e w' ⟨v, S', q1, q2, blk, q3⟩ => ⟨v, S', q1, q2, .inr ⟨fun z => by omega, Zco H0 (qp hs) q3⟩⟩
 ·have h3 : ZD (YX a0 a1 a2 a3) [5, 53] = 0 := pz (fun z => by have g := Qz ((by kernel_rfl : ZD (YX a0 a1 a2 a3) [1, 0] = Yx (a0).num).symm.trans h0); omega)
  have h4 : ZD (YX a0 a1 a2 a3) [3, 56] = -1 := (p0 (fun z => by have g := Qz ((by kernel_rfl : ZD (YX a0 a1 a2 a3) [1, 0] = Yx (a0).num).symm.trans h0); omega)).trans ((by kernel_rfl : ZD (YX a0 a1 a2 a3) [1, 0] = Yx (a0).num).symm.trans h0)
  have H1 : Csl (YX a0 a1 a2 a3) mk_k1 := .cons h4 (.cons h3 (.cons h0 .nil))
  have g0 := Qz ((by kernel_rfl : ZD (YX a0 a1 a2 a3) [1, 0] = Yx (a0).num).symm.trans h0)
  have hs : pS a0.num a1.num a2.num = -1 := by unfold pS sgnI; rw [if_pos (by omega), if_pos (by omega)]
  exact Calls.mono (leaf _ H1 mk_p0) fun e w' ⟨v, S', q1, q2, blk, q3⟩ => ⟨v, S', q1, q2, .inr ⟨fun z => by omega, Zco H1 (qn hs) q3⟩⟩
 have H2 : Csl (YX a0 a1 a2 a3) mk_k2 := .cons h0 .nil
 rcases Zd5 (YX a0 a1 a2 a3) (t := 1) (is := [1]) (by decide) with h5 | h5 | h5; rotate_left 2
 ·have h6 : ZD (YX a0 a1 a2 a3) [5, 53] = 0 := pz (fun z => by have g := Qy ((by kernel_rfl : ZD (YX a0 a1 a2 a3) [1, 1] = Yx (a1).num).symm.trans h5); omega)
  have h7 : ZD (YX a0 a1 a2 a3) [3, 56] = 0 := (p0 (fun z => by have g := Qy ((by kernel_rfl : ZD (YX a0 a1 a2 a3) [1, 1] = Yx (a1).num).symm.trans h5); omega)).trans ((by kernel_rfl : ZD (YX a0 a1 a2 a3) [1, 0] = Yx (a0).num).symm.trans h0)
  have h8 : ZD (YX a0 a1 a2 a3) [3, 59] = 1 := (p1 (fun z => by have g := Qy ((by kernel_rfl : ZD (YX a0 a1 a2 a3) [1, 1] = Yx (a1).num).symm.trans h5); omega)).trans ((by kernel_rfl : ZD (YX a0 a1 a2 a3) [1, 1] = Yx (a1).num).symm.trans h5)
  have H3 : Csl (YX a0 a1 a2 a3) mk_k3 := .cons h8 (.cons h7 (.cons h6 (.cons h5 H2)))
  have g0 := Yp.1 ((by kernel_rfl : ZD (YX a0 a1 a2 a3) [1, 0] = Yx (a0).num).symm.trans h0)
  have g1 := Qy ((by kernel_rfl : ZD (YX a0 a1 a2 a3) [1, 1] = Yx (a1).num).symm.trans h5)
  have hs : pS a0.num a1.num a2.num = 1 := by unfold pS sgnI; rw [if_neg (by omega), if_pos (by omega), if_neg (by omega)]
  exact Calls.mono (leaf _ H3 mk_p3) fun e w' ⟨v, S', q1, q2, blk, q3⟩ => ⟨v, S', q1, q2, .inr ⟨fun z => by omega, Zco H3 (qp hs) q3⟩⟩
 ·have h9 : ZD (YX a0 a1 a2 a3) [5, 53] = 0 := pz (fun z => by have g := Qz ((by kernel_rfl : ZD (YX a0 a1 a2 a3) [1, 1] = Yx (a1).num).symm.trans h5); omega)
  have h10 : ZD (YX a0 a1 a2 a3) [3, 56] = 0 := (p0 (fun z => by have g := Qz ((by kernel_rfl : ZD (YX a0 a1 a2 a3) [1, 1] = Yx (a1).num).symm.trans h5); omega)).trans ((by kernel_rfl : ZD (YX a0 a1 a2 a3) [1, 0] = Yx (a0).num).symm.trans h0)
  have h11 : ZD (YX a0 a1 a2 a3) [3, 59] = -1 := (p1 (fun z => by have g := Qz ((by kernel_rfl : ZD (YX a0 a1 a2 a3) [1, 1] = Yx (a1).num).symm.trans h5); omega)).trans ((by kernel_rfl : ZD (YX a0 a1 a2 a3) [1, 1] = Yx (a1).num).symm.trans h5)
  have H4 : Csl (YX a0 a1 a2 a3) mk_k4 := .cons h11 (.cons h10 (.cons h9 (.cons h5 H2)))
  have g0 := Yp.1 ((by kernel_rfl : ZD (YX a0 a1 a2 a3) [1, 0] = Yx (a0).num).symm.trans h0)
  have g1 := Qz ((by kernel_rfl : ZD (YX a0 a1 a2 a3) [1, 1] = Yx (a1).num).symm.trans h5)
  have hs : pS a0.num a1.num a2.num = -1 := by unfold pS sgnI; rw [if_neg (by omega), if_pos (by omega), if_pos (by omega)]
  exact Calls.mono (leaf _ H4 mk_p2) fun e w' ⟨v, S', q1, q2, blk, q3⟩ => ⟨v, S', q1, q2, .inr ⟨fun z => by omega, Zco H4 (qn hs) q3⟩⟩
 have H5 : Csl (YX a0 a1 a2 a3) mk_k5 := .cons h5 H2
 rcases Zd5 (YX a0 a1 a2 a3) (t := 1) (is := [2]) (by decide) with h12 | h12 | h12; rotate_left
 ·have H6 : Csl (YX a0 a1 a2 a3) mk_k6 := .cons h12 H5
  exact Calls.mono (leaf _ H6 mk_p6) fun e w' ⟨v, S', q1, q2, blk, q3⟩ => ⟨v, S', q1, q2, .inl ⟨⟨Yp.1 ((by kernel_rfl : ZD (YX a0 a1 a2 a3) [1, 0] = Yx (a0).num).symm.trans h0), Yp.1 ((by kernel_rfl : ZD (YX a0 a1 a2 a3) [1, 1] = Yx (a1).num).symm.trans h5), Yp.1 ((by kernel_rfl : ZD (YX a0 a1 a2 a3) [1, 2] = Yx (a2).num).symm.trans h12)⟩, make_zero q3⟩⟩
 ·have h13 : ZD (YX a0 a1 a2 a3) [5, 53] = 0 := pz (fun z => by have g := Qy ((by kernel_rfl : ZD (YX a0 a1 a2 a3) [1, 2] = Yx (a2).num).symm.trans h12); omega)
  have h14 : ZD (YX a0 a1 a2 a3) [3, 56] = 0 := (p0 (fun z => by have g := Qy ((by kernel_rfl : ZD (YX a0 a1 a2 a3) [1, 2] = Yx (a2).num).symm.trans h12); omega)).trans ((by kernel_rfl : ZD (YX a0 a1 a2 a3) [1, 0] = Yx (a0).num).symm.trans h0)
  have h15 : ZD (YX a0 a1 a2 a3) [3, 59] = 0 := (p1 (fun z => by have g := Qy ((by kernel_rfl : ZD (YX a0 a1 a2 a3) [1, 2] = Yx (a2).num).symm.trans h12); omega)).trans ((by kernel_rfl : ZD (YX a0 a1 a2 a3) [1, 1] = Yx (a1).num).symm.trans h5)
  have h16 : ZD (YX a0 a1 a2 a3) [3, 62] = 1 := (p2 (fun z => by have g := Qy ((by kernel_rfl : ZD (YX a0 a1 a2 a3) [1, 2] = Yx (a2).num).symm.trans h12); omega)).trans ((by kernel_rfl : ZD (YX a0 a1 a2 a3) [1, 2] = Yx (a2).num).symm.trans h12)
  have H7 : Csl (YX a0 a1 a2 a3) mk_k7 := .cons h16 (.cons h15 (.cons h14 (.cons h13 (.cons h12 H5))))
  have g0 := Yp.1 ((by kernel_rfl : ZD (YX a0 a1 a2 a3) [1, 0] = Yx (a0).num).symm.trans h0)
  have g1 := Yp.1 ((by kernel_rfl : ZD (YX a0 a1 a2 a3) [1, 1] = Yx (a1).num).symm.trans h5)
  have g2 := Qy ((by kernel_rfl : ZD (YX a0 a1 a2 a3) [1, 2] = Yx (a2).num).symm.trans h12)
  have hs : pS a0.num a1.num a2.num = 1 := by unfold pS sgnI; rw [if_neg (by omega), if_neg (by omega), if_neg (by omega)]
  exact Calls.mono (leaf _ H7 mk_p5) fun e w' ⟨v, S', q1, q2, blk, q3⟩ => ⟨v, S', q1, q2, .inr ⟨fun z => by omega, Zco H7 (qp hs) q3⟩⟩
 have h17 : ZD (YX a0 a1 a2 a3) [5, 53] = 0 := pz (fun z => by have g := Qz ((by kernel_rfl : ZD (YX a0 a1 a2 a3) [1, 2] = Yx (a2).num).symm.trans h12); omega)
 have h18 : ZD (YX a0 a1 a2 a3) [3, 56] = 0 := (p0 (fun z => by have g := Qz ((by kernel_rfl : ZD (YX a0 a1 a2 a3) [1, 2] = Yx (a2).num).symm.trans h12); omega)).trans ((by kernel_rfl : ZD (YX a0 a1 a2 a3) [1, 0] = Yx (a0).num).symm.trans h0)
 have h19 : ZD (YX a0 a1 a2 a3) [3, 59] = 0 := (p1 (fun z => by have g := Qz ((by kernel_rfl : ZD (YX a0 a1 a2 a3) [1, 2] = Yx (a2).num).symm.trans h12); omega)).trans ((by kernel_rfl : ZD (YX a0 a1 a2 a3) [1, 1] = Yx (a1).num).symm.trans h5)
 have h20 : ZD (YX a0 a1 a2 a3) [3, 62] = -1 := (p2 (fun z => by have g := Qz ((by kernel_rfl : ZD (YX a0 a1 a2 a3) [1, 2] = Yx (a2).num).symm.trans h12); omega)).trans ((by kernel_rfl : ZD (YX a0 a1 a2 a3) [1, 2] = Yx (a2).num).symm.trans h12)
 have H8 : Csl (YX a0 a1 a2 a3) mk_k8 := .cons h20 (.cons h19 (.cons h18 (.cons h17 (.cons h12 H5))))
 have g0 := Yp.1 ((by kernel_rfl : ZD (YX a0 a1 a2 a3) [1, 0] = Yx (a0).num).symm.trans h0)
 have g1 := Yp.1 ((by kernel_rfl : ZD (YX a0 a1 a2 a3) [1, 1] = Yx (a1).num).symm.trans h5)
 have g2 := Qz ((by kernel_rfl : ZD (YX a0 a1 a2 a3) [1, 2] = Yx (a2).num).symm.trans h12)
 have hs : pS a0.num a1.num a2.num = -1 := by unfold pS sgnI; rw [if_neg (by omega), if_neg (by omega), if_pos (by omega)]
 exact Calls.mono (leaf _ H8 mk_p4) fun e w' ⟨v, S', q1, q2, blk, q3⟩ => ⟨v, S', q1, q2, .inr ⟨fun z => by omega, Zco H8 (qn hs) q3⟩⟩
end
end Go.Cham
namespace Go.Cham
open Go Go.RowKit Go.Proofs
noncomputable section
def pZero (T : Tb) : PrF Ato := fun l => match l with
  | [.agg n] => match asQs T 3 n with
    | some is => match is with
      | [a, b, c] => match limB T 100000000000 [a, b, c] with
        | true => match Nat.ble (Nat.add (Nat.mul (mxC T [a, b, c]) T.km) (mxD T [a, b, c])) 100000000000 with
          | true => match yesNo T [9, a, b, c] with
            | some x => some (.bool x)
            | none => none
          | false => none
        | false => none
      | _ => none
    | none => none
  | _ => none
def row46 (T : Tb) (a b c d q : Nat) : Option Nat := match findV T [46, a, b, c, d, q] with
  | some (k, r) => match Nat.ble (Nat.mul 384 (mxC T [a, b, c, d])) r.c && Nat.ble (Nat.add (Nat.mul 384 (mxD T [a, b, c, d])) 6208) r.d with
    | true => some k
    | false => none
  | none => none
def zeroRow (T : Tb) : Option Nat := match findV T [6] with
  | some (k, _) => some k
  | none => none
def pMakeP (T : Tb) : PrF Ato := fun l => match l with
  | [.agg n, .agg y] => match asQs T 3 n with
    | some is => match asQs T 1 y with
      | some js => match is, js with
        | [a, b, c], [d] => match limB T 250000000 [a, b, c, d] with
          | true => match Nat.ble (Nat.add (Nat.mul (mxC T [a, b, c, d]) T.km) (mxD T [a, b, c, d])) 250000000 with
            | true => match yesNo T [9, a, b, c] with
              | some x => match x with
                | true => match zeroRow T with
                  | some z => some (.tup [.agg (cQs [z, z, z, z]), .int .i64 2])
                  | none => none
                | false => match row46 T a b c d a with
                  | some i => match row46 T a b c d b with
                    | some j => match row46 T a b c d c with
                      | some k => match row46 T a b c d d with
                        | some l => some (.tup [.agg (cQs [i, j, k, l]), .int .i64 0])
                        | none => none
                      | none => none
                    | none => none
                  | none => none
              | none => none
            | false => none
          | false => none
        | _, _ => none
      | none => none
    | none => none
  | _ => none
section
variable {T : Tb} {K : Nat} {base ρ : Nat → AV} {bd : Nat → Nat} {G : Gh} {T0 : Tb} {hT : Cs T0 ρ}
theorem zero_yes (hg : YB T K base ρ bd) {a b c : Nat} {x : Bool} (h : yesNo T [9, a, b, c] = some x) : decide ((ρ a).rat.num = 0 ∧ (ρ b).rat.num = 0 ∧ (ρ c).rat.num = 0) = x :=
  ite_dec (show (if (ρ a).rat.num = 0 ∧ (ρ b).rat.num = 0 ∧ (ρ c).rat.num = 0 then (1 : Int) else 0) = if x then 1 else 0 from Zcd hg.cond h)
set_option maxRecDepth 100000 in
theorem pZero_ok (hg : YB T K base ρ bd) : Xp Tryz.prog (DS hT bd) 30 (pZero T) := by
  intro args r hr G w vs hd hS
  unfold pZero at hr
  split at hr
  · rename_i n
    split at hr
    · rename_i is his
      split at hr
      · rename_i a b c
        split at hr
        · rename_i hl
          split at hr
          · rename_i hm
            split at hr
            · rename_i x hx
              cases hr
              cases hd with
              | cons x1 x2 =>
                cases x2
                cases x1 with
                | agg x1 =>
                  have h1 := Zd0 hg his x1 (mx_ok hg hl)
                  refine .ret (by kernel_rfl) (vec_Zero_s hS (a0 := (ρ a).rat) (a1 := (ρ b).rat) (a2 := (ρ c).rat) h1 (mx_lim hg.km hm)) fun S' v hv => ?_
                  rw [hv, zero_yes hg hx]
                  exact .bool _
            · cases hr
          · cases hr
        · cases hr
      · cases hr
    · cases hr
  · cases hr
theorem row46_ok (hg : YB T K base ρ bd) {a b c d q k : Nat} (h : row46 T a b c d q = some k) : ρ k = .q (pn (ρ a).rat (ρ b).rat (ρ c).rat (ρ d).rat (ρ q).rat) ∧ 192 * (mxC T [a, b, c, d] * K + mxD T [a, b, c, d] + (mxC T [a, b, c, d] * K + mxD T [a, b, c, d])) + 6208 ≤ bd k := by
  unfold row46 at h
  split at h
  · rename_i k' r hf
    split at h
    · rename_i hb
      cases h
      obtain ⟨h1, h2⟩ := XT hf
      obtain ⟨h3, h4⟩ := hg.row _ _ h1
      rw [h2] at h3
      simp only [Bool.and_eq_true] at hb
      have b1 := Nat.le_of_ble_eq_true hb.1
      have b2 := Nat.le_of_ble_eq_true hb.2
      refine ⟨h3, ?_⟩
      rw [h4]
      have b3 := Nat.mul_le_mul_right K b1
      have b4 : (384 * mxC T [a, b, c, d]) * K = 384 * (mxC T [a, b, c, d] * K) := Nat.mul_assoc _ _ _
      have b5 : Nat.mul 384 (mxC T [a, b, c, d]) * K = 384 * (mxC T [a, b, c, d] * K) := b4
      have b6 : Nat.add (Nat.mul 384 (mxD T [a, b, c, d])) 6208 = 384 * mxD T [a, b, c, d] + 6208 := rfl
      rw [b5] at b3
      rw [b6] at b2
      omega
    · cases h
  · cases h
theorem zeroRow_ok (hg : YB T K base ρ bd) {z : Nat} (h : zeroRow T = some z) : ρ z = .q 0 := by
  unfold zeroRow at h
  split at h
  · rename_i k r hf
    cases h
    obtain ⟨h1, h2⟩ := XT hf
    rw [(hg.row _ _ h1).1, h2]; rfl
  · cases h
set_option maxRecDepth 100000 in
theorem pMakeP_ok (hg : YB T K base ρ bd) : Xp Tryz.prog (DS hT bd) 23 (pMakeP T) := by
  intro args r hr G w vs hd hS
  unfold pMakeP at hr
  split at hr
  · rename_i n y
    split at hr
    · rename_i is his
      split at hr
      · rename_i js hjs
        split at hr
        · rename_i a b c d
          split at hr
          · rename_i hl
            split at hr
            · rename_i hm
              have hm' := mx_lim hg.km hm
              have hmx := mx_ok hg hl
              cases hd with
              | cons x1 x2 =>
                cases x2 with
                | cons x3 x4 =>
                  cases x4
                  cases x1 with
                  | agg x1 =>
                    cases x3 with
                    | agg x3 =>
                      have h1 := Zd0 hg his x1 (k := mxC T [a, b, c, d] * K + mxD T [a, b, c, d]) (fun i hi => hmx i (by simp at hi ⊢; omega))
                      have h2 := Zd0 hg hjs x3 (k := mxC T [a, b, c, d] * K + mxD T [a, b, c, d]) (fun i hi => hmx i (by simp at hi ⊢; omega))
                      have hC := plane_Make_s hS (a0 := (ρ a).rat) (a1 := (ρ b).rat) (a2 := (ρ c).rat) (a3 := (ρ d).rat) h1 h2 hm' hm'
                      split at hr
                      · rename_i x hx
                        have hz := zero_yes hg hx
                        split at hr
                        · have hz' := of_decide_eq_true hz
                          split at hr
                          · rename_i z hzr
                            cases hr
                            have e := zeroRow_ok hg hzr
                            refine .ret (by kernel_rfl) hC fun S' v hv => ?_
                            rcases hv with ⟨_, c0, ev, hF⟩ | ⟨hn, _⟩
                            · rw [ev]
                              exact .tup (.cons (.agg (XW (is := [z, z, z, z]) (qs := [0, 0, 0, 0]) (k := 0) ⟨e, Nat.zero_le _, e, Nat.zero_le _, e, Nat.zero_le _, e, Nat.zero_le _, trivial⟩ hF)) (.cons (.int _ _) .nil))
                            · exact absurd hz' hn
                          · cases hr
                        · have hz' := of_decide_eq_false hz
                          split at hr
                          · rename_i i hi
                            split at hr
                            · rename_i j hj
                              split at hr
                              · rename_i k hk
                                split at hr
                                · rename_i l hl2
                                  cases hr
                                  obtain ⟨e0, f0⟩ := row46_ok hg hi
                                  obtain ⟨e1, f1⟩ := row46_ok hg hj
                                  obtain ⟨e2, f2⟩ := row46_ok hg hk
                                  obtain ⟨e3, f3⟩ := row46_ok hg hl2
                                  refine .ret (by kernel_rfl) hC fun S' v hv => ?_
                                  rcases hv with ⟨hn, _⟩ | ⟨_, c0, ev, hF⟩
                                  · exact absurd hn hz'
                                  · rw [ev]
                                    exact .tup (.cons (.agg (XW (is := [i, j, k, l]) (qs := [_, _, _, _]) ⟨e0, f0, e1, f1, e2, f2, e3, f3, trivial⟩ hF)) (.cons (.int _ _) .nil))
                                · cases hr
                              · cases hr
                            · cases hr
                          · cases hr
                      · cases hr
            · cases hr
          · cases hr
        · cases hr
      · cases hr
    · cases hr
  · cases hr
end
def symTab4 (T : Tb) : List (Nat × PrF Ato) := (30, pZero T) :: (23, pMakeP T) :: symTab3 T
theorem Zch : TabOK symTab4 := by
  intro T K base ρ bd T0 hT hg p hp
  simp only [symTab4, List.mem_cons] at hp
  rcases hp with rfl | rfl | hp
  · exact pZero_ok hg
  · exact pMakeP_ok hg
  · exact symTab3_OK hg p hp
end
end Go.Cham
namespace Go.Cham
open Go Go.RowKit Go.Proofs
noncomputable section
set_option maxRecDepth 100000
def pc_r : List Rw := [⟨[2, 0], 1, 0⟩, ⟨[2, 1], 1, 0⟩, ⟨[2, 2], 1, 0⟩, ⟨[2, 3], 1, 0⟩, ⟨[2, 4], 1, 0⟩, ⟨[2, 5], 1, 0⟩, ⟨[2, 6], 1, 0⟩, ⟨[2, 7], 1, 0⟩]
def pc_T (cs : CL) : Tb := ⟨pc_r, cs, 100000000000⟩
def pc_G (cs : CL) (r : SV Ato) : Prop := RunT symTab4 (pc_T cs) 21 [.agg (cQs [0, 1, 2, 3]), .agg (cQs [4, 5, 6, 7])] r 100
def Zan (a0 a1 a2 a3 a4 a5 a6 a7 : Rat) : Nat → AV := rho (pc_T []) (Zc8 [a0, a1, a2, a3, a4, a5, a6, a7])
def pc_k0 : CL := ([9, 4, 5, 6], 0) :: ([9, 0, 1, 2], 0) :: []
def pc_k1 : CL := ([2, 0, 4], 1) :: pc_k0
theorem pc_p1 : pc_G pc_k1 (.int .i64 1) := fun _ _ _ => by kernel_rfl
def pc_k2 : CL := ([2, 0, 4], (-1)) :: pc_k0
theorem pc_p0 : pc_G pc_k2 (.int .i64 (-1)) := fun _ _ _ => by kernel_rfl
def pc_k3 : CL := ([2, 0, 4], 0) :: pc_k0
def pc_k4 : CL := ([2, 1, 5], 1) :: pc_k3
theorem pc_p3 : pc_G pc_k4 (.int .i64 1) := fun _ _ _ => by kernel_rfl
def pc_k5 : CL := ([2, 1, 5], (-1)) :: pc_k3
theorem pc_p2 : pc_G pc_k5 (.int .i64 (-1)) := fun _ _ _ => by kernel_rfl
def pc_k6 : CL := ([2, 1, 5], 0) :: pc_k3
def pc_k7 : CL := ([2, 2, 6], 1) :: pc_k6
theorem pc_p5 : pc_G pc_k7 (.int .i64 1) := fun _ _ _ => by kernel_rfl
def pc_k8 : CL := ([2, 2, 6], (-1)) :: pc_k6
theorem pc_p4 : pc_G pc_k8 (.int .i64 (-1)) := fun _ _ _ => by kernel_rfl
def pc_k9 : CL := ([2, 2, 6], 0) :: pc_k6
def pc_k10 : CL := ([2, 3, 7], 0) :: pc_k9
theorem pc_p8 : pc_G pc_k10 (.int .i64 0) := fun _ _ _ => by kernel_rfl
def pc_k11 : CL := ([2, 3, 7], 1) :: pc_k9
theorem pc_p7 : pc_G pc_k11 (.int .i64 1) := fun _ _ _ => by kernel_rfl
def pc_k12 : CL := ([2, 3, 7], (-1)) :: pc_k9
theorem pc_p6 : pc_G pc_k12 (.int .i64 (-1)) := fun _ _ _ => by kernel_rfl
theorem plane_Cmp_s {S : Sh} {w : World} (hS : Ya S w) {c_a c_b : List Value} {a0 a1 a2 a3 a4 a5 a6 a7 : Rat} {k : Nat} (h_a : Fs S c_a [a0, a1, a2, a3] k) (h_b : Fs S c_b [a4, a5, a6, a7] k) (hlim : k ≤ 100000000000) (hn1 : ¬ (a0.num = 0 ∧ a1.num = 0 ∧ a2.num = 0)) (hn2 : ¬ (a4.num = 0 ∧ a5.num = 0 ∧ a6.num = 0)) :
  Calls Tryz.prog 21 [(.agg (c_a : List Value).toArray), (.agg (c_b : List Value).toArray)].toArray w (Ret S w (fun _ v => v = .int .i64 (Zb5 (Xo a0 a4) (Xo a1 a5) (Xo a2 a6) (Xo a3 a7)))) := by
 have leaf := fun cs hc {r} (h : pc_G cs r) {u} hg => sym_ground Zch (K := k) (base := Zc8 [a0, a1, a2, a3, a4, a5, a6, a7]) (by kernel_rfl) hlim (by kernel_rfl) hS (fun _ _ => .cons (.agg (XW (is := [0, 1, 2, 3]) (qs := [a0, a1, a2, a3]) (k := k) ⟨by kernel_rfl, le1 _, by kernel_rfl, le1 _, by kernel_rfl, le1 _, by kernel_rfl, le1 _, trivial⟩ h_a)) (.cons (.agg (XW (is := [4, 5, 6, 7]) (qs := [a4, a5, a6, a7]) (k := k) ⟨by kernel_rfl, le1 _, by kernel_rfl, le1 _, by kernel_rfl, le1 _, by kernel_rfl, le1 _, trivial⟩ h_b)) .nil)) cs hc (r := r) h (u := u) hg
 have H0 : Csl (Zan a0 a1 a2 a3 a4 a5 a6 a7) pc_k0 := .cons (show ZD (Zan a0 a1 a2 a3 a4 a5 a6 a7) [9, 4, 5, 6] = 0 from if_neg hn2) (.cons (show ZD (Zan a0 a1 a2 a3 a4 a5 a6 a7) [9, 0, 1, 2] = 0 from if_neg hn1) .nil)
 rcases Zd5 (Zan a0 a1 a2 a3 a4 a5 a6 a7) (t := 2) (is := [0, 4]) (by decide) with h0 | h0 | h0; rotate_left 2
 ·have H1 : Csl (Zan a0 a1 a2 a3 a4 a5 a6 a7) pc_k1 := .cons h0 H0
  exact Calls.mono (leaf _ H1 pc_p1 rfl) fun e w' ⟨v, S', q1, q2, q3⟩ => ⟨v, S', q1, q2, q3.trans (by unfold Zb5; rw [((by kernel_rfl : ZD (Zan a0 a1 a2 a3 a4 a5 a6 a7) [2, 0, 4] = Xo a0 a4).symm.trans h0)]; rfl)⟩
 ·have H2 : Csl (Zan a0 a1 a2 a3 a4 a5 a6 a7) pc_k2 := .cons h0 H0
  exact Calls.mono (leaf _ H2 pc_p0 rfl) fun e w' ⟨v, S', q1, q2, q3⟩ => ⟨v, S', q1, q2, q3.trans (by unfold Zb5; rw [((by kernel_rfl : ZD (Zan a0 a1 a2 a3 a4 a5 a6 a7) [2, 0, 4] = Xo a0 a4).symm.trans h0)]; rfl)⟩
 have H3 : Csl (Zan a0 a1 a2 a3 a4 a5 a6 a7) pc_k3 := .cons h0 H0
 rcases Zd5 (Zan a0 a1 a2 a3 a4 a5 a6 a7) (t := 2) (is := [1, 5]) (by decide) with h1 | h1 | h1; rotate_left 2
 ·have H4 : Csl (Zan a0 a1 a2 a3 a4 a5 a6 a7) pc_k4 := .cons h1 H3
  exact Calls.mono (leaf _ H4 pc_p3 rfl) fun e w' ⟨v, S', q1, q2, q3⟩ => ⟨v, S', q1, q2, q3.trans (by unfold Zb5; rw [((by kernel_rfl : ZD (Zan a0 a1 a2 a3 a4 a5 a6 a7) [2, 0, 4] = Xo a0 a4).symm.trans h0), ((by kernel_rfl : ZD (Zan a0 a1 a2 a3 a4 a5 a6 a7) [2, 1, 5] = Xo a1 a5).symm.trans h1)]; rfl)⟩
 ·have H5 : Csl (Zan a0 a1 a2 a3 a4 a5 a6 a7) pc_k5 := .cons h1 H3
  exact Calls.mono (leaf _ H5 pc_p2 rfl) fun e w' ⟨v, S', q1, q2, q3⟩ => ⟨v, S', q1, q2, q3.trans (by unfold Zb5; rw [((by kernel_rfl : ZD (Zan a0 a1 a2 a3 a4 a5 a6 a7) [2, 0, 4] = Xo a0 a4).symm.trans h0), ((by kernel_rfl : ZD (Zan a0 a1 a2 a3 a4 a5 a6 a7) [2, 1, 5] = Xo a1 a5).symm.trans h1)]; rfl)⟩
 have H6 : Csl (Zan a0 a1 a2 a3 a4 a5 a6 a7) pc_k6 := .cons h1 H3
 rcases Zd5 (Zan a0 a1 a2 a3 a4 a5 a6 a7) (t := 2) (is := [2, 6]) (by decide) with h2 | h2 | h2; rotate_left 2
 ·have H7 : Csl (Zan a0 a1 a2 a3 a4 a5 a6 a7) pc_k7 := .cons h2 H6
  exact Calls.mono (leaf _ H7 pc_p5 rfl) fun e w' ⟨v, S', q1, q2, q3⟩ => ⟨v, S', q1, q2, q3.trans (by unfold Zb5; rw [((by kernel_rfl : ZD (Zan a0 a1 a2 a3 a4 a5 a6 a7) [2, 0, 4] = Xo a0 a4).symm.trans h0), ((by kernel_rfl : ZD (Zan a0 a1 a2 a3 a4 a5 a6 a7) [2, 1, 5] = Xo a1 a5).symm.trans h1), ((by kernel_rfl : ZD (Zan a0 a1 a2 a3 a4 a5 a6 a7) [2, 2, 6] = Xo a2 a6).symm.trans h2)]; rfl)⟩
 ·have H8 : Csl (Zan a0 a1 a2 a3 a4 a5 a6 a7) pc_k8 := .cons h2 H6
  exact Calls.mono (leaf _ H8 pc_p4 rfl) fun e w' ⟨v, S', q1, q2, q3⟩ => ⟨v, S', q1, q2, q3.trans (by unfold Zb5; rw [((by kernel_rfl : ZD (Zan a0 a1 a2 a3 a4 a5 a6 a7) [2, 0, 4] = Xo a0 a4).symm.trans h0), ((by kernel_rfl : ZD (Zan a0 a1 a2 a3 a4 a5 a6 a7) [2, 1, 5] = Xo a1 a5).symm.trans h1), ((by kernel_rfl : ZD (Zan a0 a1 a2 a3 a4 a5 a6 a7) [2, 2, 6] = Xo a2 a6).symm.trans h2)]; rfl)⟩
 have H9 : Csl (Zan a0 a1 a2 a3 a4 a5 a6 a7) pc_k9 := .cons h2 H6
 rcases Zd5 (Zan a0 a1 a2 a3 a4 a5 a6 a7) (t := 2) (is := [3, 7]) (by decide) with h3 | h3 | h3; rotate_left
 ·have H10 : Csl (Zan a0 a1 a2 a3 a4 a5 a6 a7) pc_k10 := .cons h3 H9
  exact Calls.mono (leaf _ H10 pc_p8 rfl) fun e w' ⟨v, S', q1, q2, q3⟩ => ⟨v, S', q1, q2, q3.trans (by unfold Zb5; rw [((by kernel_rfl : ZD (Zan a0 a1 a2 a3 a4 a5 a6 a7) [2, 0, 4] = Xo a0 a4).symm.trans h0), ((by kernel_rfl : ZD (Zan a0 a1 a2 a3 a4 a5 a6 a7) [2, 1, 5] = Xo a1 a5).symm.trans h1), ((by kernel_rfl : ZD (Zan a0 a1 a2 a3 a4 a5 a6 a7) [2, 2, 6] = Xo a2 a6).symm.trans h2), ((by kernel_rfl : ZD (Zan a0 a1 a2 a3 a4 a5 a6 a7) [2, 3, 7] = Xo a3 a7).symm.trans h3)]; rfl)⟩
 ·have H11 : Csl (Zan a0 a1 a2 a3 a4 a5 a6 a7) pc_k11 := .cons h3 H9
  exact Calls.mono (leaf _ H11 pc_p7 rfl) fun e w' ⟨v, S', q1, q2, q3⟩ => ⟨v, S', q1, q2, q3.trans (by unfold Zb5; rw [((by kernel_rfl : ZD (Zan a0 a1 a2 a3 a4 a5 a6 a7) [2, 0, 4] = Xo a0 a4).symm.trans h0), ((by kernel_rfl : ZD (Zan a0 a1 a2 a3 a4 a5 a6 a7) [2, 1, 5] = Xo a1 a5).symm.trans h1), ((by kernel_rfl : ZD (Zan a0 a1 a2 a3 a4 a5 a6 a7) [2, 2, 6] = Xo a2 a6).symm.trans h2), ((by kernel_rfl : ZD (Zan a0 a1 a2 a3 a4 a5 a6 a7) [2, 3, 7] = Xo a3 a7).symm.trans h3)]; rfl)⟩
 have H12 : Csl (Zan a0 a1 a2 a3 a4 a5 a6 a7) pc_k12 := .cons h3 H9
 exact Calls.mono (leaf _ H12 pc_p6 rfl) fun e w' ⟨v, S', q1, q2, q3⟩ => ⟨v, S', q1, q2, q3.trans (by unfold Zb5; rw [((by kernel_rfl : ZD (Zan a0 a1 a2 a3 a4 a5 a6 a7) [2, 0, 4] = Xo a0 a4).symm.trans h0), ((by kernel_rfl : ZD (Zan a0 a1 a2 a3 a4 a5 a6 a7) [2, 1, 5] = Xo a1 a5).symm.trans h1), ((by kernel_rfl : ZD (Zan a0 a1 a2 a3 a4 a5 a6 a7) [2, 2, 6] = Xo a2 a6).symm.trans h2), ((by kernel_rfl : ZD (Zan a0 a1 a2 a3 a4 a5 a6 a7) [2, 3, 7] = Xo a3 a7).symm.trans h3)]; rfl)⟩
def pp_r : List Rw := [⟨[3, 0], 0, 0⟩, ⟨[3, 1], 0, 0⟩, ⟨[3, 2], 0, 0⟩, ⟨[3, 3], 0, 0⟩, ⟨[38, 0], 0, 900⟩, ⟨[38, 1], 0, 900⟩, ⟨[38, 2], 0, 900⟩, ⟨[38, 3], 0, 900⟩, ⟨[46, 4, 5, 6, 7, 4], 0, 351808⟩, ⟨[46, 4, 5, 6, 7, 5], 0, 351808⟩, ⟨[46, 4, 5, 6, 7, 6], 0, 351808⟩, ⟨[46, 4, 5, 6, 7, 7], 0, 351808⟩, ⟨[6], 0, 351808⟩]
def pp_T (cs : CL) : Tb := ⟨pp_r, cs, 100000000000⟩
def pp_G (cs : CL) (r : SV Ato) : Prop := RunT symTab4 (pp_T cs) 20 [.agg (cTs [0, 1, 2, 3])] r 120
def Za5 (x0 x1 x2 x3 : ByteArray) : Nat → AV := rho (pp_T []) (baseS [x0, x1, x2, x3])
def pp_k0 : CL := ([12, 3], 0) :: ([12, 2], 0) :: ([12, 1], 0) :: ([12, 0], 0) :: []
def pp_k1 (nh0 : Nat) : CL := ([4, 0], .ofNat (.succ nh0)) :: pp_k0
theorem pp_p5 (nh0 : Nat) : pp_G (pp_k1 nh0) (.tup [.agg (zQs 4), .int .i64 (.ofNat (.succ nh0))]) := fun _ _ _ => by kernel_rfl
def pp_k2 : CL := ([4, 0], 0) :: pp_k0
def pp_k3 (nh1 : Nat) : CL := ([4, 1], .ofNat (.succ nh1)) :: pp_k2
theorem pp_p4 (nh1 : Nat) : pp_G (pp_k3 nh1) (.tup [.agg (zQs 4), .int .i64 (.ofNat (.succ nh1))]) := fun _ _ _ => by kernel_rfl
def pp_k4 : CL := ([4, 1], 0) :: pp_k2
def pp_k5 (nh2 : Nat) : CL := ([4, 2], .ofNat (.succ nh2)) :: pp_k4
theorem pp_p3 (nh2 : Nat) : pp_G (pp_k5 nh2) (.tup [.agg (zQs 4), .int .i64 (.ofNat (.succ nh2))]) := fun _ _ _ => by kernel_rfl
def pp_k6 : CL := ([4, 2], 0) :: pp_k4
def pp_k7 (nh3 : Nat) : CL := ([4, 3], .ofNat (.succ nh3)) :: pp_k6
theorem pp_p2 (nh3 : Nat) : pp_G (pp_k7 nh3) (.tup [.agg (zQs 4), .int .i64 (.ofNat (.succ nh3))]) := fun _ _ _ => by kernel_rfl
def pp_k8 : CL := ([4, 3], 0) :: pp_k6
def pp_k9 : CL := ([9, 4, 5, 6], 1) :: pp_k8
theorem pp_p1 : pp_G pp_k9 (.tup [.agg (cQs [12, 12, 12, 12]), .int .i64 2]) := fun _ _ _ => by kernel_rfl
def pp_k10 : CL := ([9, 4, 5, 6], 0) :: pp_k8
theorem pp_p0 : pp_G pp_k10 (.tup [.agg (cQs [8, 9, 10, 11]), .int .i64 0]) := fun _ _ _ => by kernel_rfl
theorem plane_Parse_s {S : Sh} {w : World} (hS : Ya S w) {x0 x1 x2 x3 : ByteArray} (hz0 : x0.size ≤ 1024) (hz1 : x1.size ≤ 1024) (hz2 : x2.size ≤ 1024) (hz3 : x3.size ≤ 1024) :
  Calls Tryz.prog 20 [(.agg ([.string x0, .string x1, .string x2, .string x3] : List Value).toArray)].toArray w (Ret S w (fun S v => ∃ c0 : List Value, v = .tuple [.agg c0.toArray, .int .i64 (Zcl (bl x0) (bl x1) (bl x2) (bl x3))].toArray ∧ Fs S c0 [pvA (bl x0) (bl x1) (bl x2) (bl x3), pvB (bl x0) (bl x1) (bl x2) (bl x3), pvC (bl x0) (bl x1) (bl x2) (bl x3), pvD (bl x0) (bl x1) (bl x2) (bl x3)] 351808)) := by
 have leaf := fun cs hc {r} (h : pp_G cs r) => QV Zch (K := 0) (base := (baseS [x0, x1, x2, x3])) (by kernel_rfl) (Nat.zero_le _) (by kernel_rfl) hS (fun _ _ => .cons (.agg (cTs_mk (is := [0, 1, 2, 3]) (ss := [x0, x1, x2, x3]) ⟨by kernel_rfl, by kernel_rfl, by kernel_rfl, by kernel_rfl, trivial⟩)) .nil) cs hc h
 have H0 : Csl (Za5 x0 x1 x2 x3) pp_k0 := .cons (show ZD (Za5 x0 x1 x2 x3) [12, 3] = 0 from if_neg (Nat.not_lt.2 hz3)) (.cons (show ZD (Za5 x0 x1 x2 x3) [12, 2] = 0 from if_neg (Nat.not_lt.2 hz2)) (.cons (show ZD (Za5 x0 x1 x2 x3) [12, 1] = 0 from if_neg (Nat.not_lt.2 hz1)) (.cons (show ZD (Za5 x0 x1 x2 x3) [12, 0] = 0 from if_neg (Nat.not_lt.2 hz0)) .nil)))
 rcases XX (Za5 x0 x1 x2 x3) (t := 4) (is := [0]) (by decide) with h0 | ⟨nh0, h0⟩; rotate_left
 ·have H1 : Csl (Za5 x0 x1 x2 x3) (pp_k1 nh0) := .cons h0 H0
  have g0 := ((by kernel_rfl : ZD (Za5 x0 x1 x2 x3) [4, 0] = YP (bl x0)).symm.trans h0)
  have he : Zcl (bl x0) (bl x1) (bl x2) (bl x3) = Int.ofNat (Nat.succ nh0) := (perr_0 (fun q => absurd (g0.symm.trans q) (by simp; try omega))).trans g0
  refine Calls.mono (leaf _ H1 (pp_p5 nh0)) fun e w' ⟨v, S', q1, q2, blk, q3⟩ => ⟨v, S', q1, q2, ?_⟩
  cases q3 with
  | tup h4 => cases h4 with
   | cons h5 h6 => cases h6 with
    | cons h7 h8 =>
     cases h8
     cases h7
     rw [he]
     obtain ⟨c0, rfl, hF⟩ := Zbw (k := 351808) h5
     exact ⟨_, rfl, hF.to (pv_err (by rw [he]; simp; try omega)) (Nat.le_refl _)⟩
 have H2 : Csl (Za5 x0 x1 x2 x3) pp_k2 := .cons h0 H0
 rcases XX (Za5 x0 x1 x2 x3) (t := 4) (is := [1]) (by decide) with h1 | ⟨nh1, h1⟩; rotate_left
 ·have H3 : Csl (Za5 x0 x1 x2 x3) (pp_k3 nh1) := .cons h1 H2
  have g0 := ((by kernel_rfl : ZD (Za5 x0 x1 x2 x3) [4, 0] = YP (bl x0)).symm.trans h0)
  have g1 := ((by kernel_rfl : ZD (Za5 x0 x1 x2 x3) [4, 1] = YP (bl x1)).symm.trans h1)
  have he : Zcl (bl x0) (bl x1) (bl x2) (bl x3) = Int.ofNat (Nat.succ nh1) := (perr_1 g0 (fun q => absurd (g1.symm.trans q) (by simp; try omega))).trans g1
  refine Calls.mono (leaf _ H3 (pp_p4 nh1)) fun e w' ⟨v, S', q1, q2, blk, q3⟩ => ⟨v, S', q1, q2, ?_⟩
  cases q3 with
  | tup h4 => cases h4 with
   | cons h5 h6 => cases h6 with
    | cons h7 h8 =>
     cases h8
     cases h7
     rw [he]
     obtain ⟨c0, rfl, hF⟩ := Zbw (k := 351808) h5
     exact ⟨_, rfl, hF.to (pv_err (by rw [he]; simp; try omega)) (Nat.le_refl _)⟩
 have H4 : Csl (Za5 x0 x1 x2 x3) pp_k4 := .cons h1 H2
 rcases XX (Za5 x0 x1 x2 x3) (t := 4) (is := [2]) (by decide) with h2 | ⟨nh2, h2⟩; rotate_left
 ·have H5 : Csl (Za5 x0 x1 x2 x3) (pp_k5 nh2) := .cons h2 H4
  have g0 := ((by kernel_rfl : ZD (Za5 x0 x1 x2 x3) [4, 0] = YP (bl x0)).symm.trans h0)
  have g1 := ((by kernel_rfl : ZD (Za5 x0 x1 x2 x3) [4, 1] = YP (bl x1)).symm.trans h1)
  have g2 := ((by kernel_rfl : ZD (Za5 x0 x1 x2 x3) [4, 2] = YP (bl x2)).symm.trans h2)
  have he : Zcl (bl x0) (bl x1) (bl x2) (bl x3) = Int.ofNat (Nat.succ nh2) := (perr_2 g0 g1 (fun q => absurd (g2.symm.trans q) (by simp; try omega))).trans g2
  refine Calls.mono (leaf _ H5 (pp_p3 nh2)) fun e w' ⟨v, S', q1, q2, blk, q3⟩ => ⟨v, S', q1, q2, ?_⟩
  cases q3 with
  | tup h4 => cases h4 with
   | cons h5 h6 => cases h6 with
    | cons h7 h8 =>
     cases h8
     cases h7
     rw [he]
     obtain ⟨c0, rfl, hF⟩ := Zbw (k := 351808) h5
     exact ⟨_, rfl, hF.to (pv_err (by rw [he]; simp; try omega)) (Nat.le_refl _)⟩
 have H6 : Csl (Za5 x0 x1 x2 x3) pp_k6 := .cons h2 H4
 rcases XX (Za5 x0 x1 x2 x3) (t := 4) (is := [3]) (by decide) with h3 | ⟨nh3, h3⟩; rotate_left
 ·have H7 : Csl (Za5 x0 x1 x2 x3) (pp_k7 nh3) := .cons h3 H6
  have g0 := ((by kernel_rfl : ZD (Za5 x0 x1 x2 x3) [4, 0] = YP (bl x0)).symm.trans h0)
  have g1 := ((by kernel_rfl : ZD (Za5 x0 x1 x2 x3) [4, 1] = YP (bl x1)).symm.trans h1)
  have g2 := ((by kernel_rfl : ZD (Za5 x0 x1 x2 x3) [4, 2] = YP (bl x2)).symm.trans h2)
  have g3 := ((by kernel_rfl : ZD (Za5 x0 x1 x2 x3) [4, 3] = YP (bl x3)).symm.trans h3)
  have he : Zcl (bl x0) (bl x1) (bl x2) (bl x3) = Int.ofNat (Nat.succ nh3) := (perr_3 g0 g1 g2 (fun q => absurd (g3.symm.trans q) (by simp; try omega))).trans g3
  refine Calls.mono (leaf _ H7 (pp_p2 nh3)) fun e w' ⟨v, S', q1, q2, blk, q3⟩ => ⟨v, S', q1, q2, ?_⟩
  cases q3 with
  | tup h4 => cases h4 with
   | cons h5 h6 => cases h6 with
    | cons h7 h8 =>
     cases h8
     cases h7
     rw [he]
     obtain ⟨c0, rfl, hF⟩ := Zbw (k := 351808) h5
     exact ⟨_, rfl, hF.to (pv_err (by rw [he]; simp; try omega)) (Nat.le_refl _)⟩
 have H8 : Csl (Za5 x0 x1 x2 x3) pp_k8 := .cons h3 H6
 rcases Zar (Za5 x0 x1 x2 x3) (t := 9) (is := [4, 5, 6]) (by decide) with h4 | h4; rotate_left
 ·have H9 : Csl (Za5 x0 x1 x2 x3) pp_k9 := .cons h4 H8
  have g0 := ((by kernel_rfl : ZD (Za5 x0 x1 x2 x3) [4, 0] = YP (bl x0)).symm.trans h0)
  have g1 := ((by kernel_rfl : ZD (Za5 x0 x1 x2 x3) [4, 1] = YP (bl x1)).symm.trans h1)
  have g2 := ((by kernel_rfl : ZD (Za5 x0 x1 x2 x3) [4, 2] = YP (bl x2)).symm.trans h2)
  have g3 := ((by kernel_rfl : ZD (Za5 x0 x1 x2 x3) [4, 3] = YP (bl x3)).symm.trans h3)
  have g4 := ((by kernel_rfl : ZD (Za5 x0 x1 x2 x3) [9, 4, 5, 6] = (if ((YO (bl x0))).num = 0 ∧ ((YO (bl x1))).num = 0 ∧ ((YO (bl x2))).num = 0 then (1 : Int) else 0)).symm.trans h4)
  have he : Zcl (bl x0) (bl x1) (bl x2) (bl x3) = 2 := perr_4 g0 g1 g2 g3 (Classical.byContradiction fun q => absurd ((if_neg q).symm.trans g4) (by decide))
  refine Calls.mono (leaf _ H9 pp_p1) fun e w' ⟨v, S', q1, q2, blk, q3⟩ => ⟨v, S', q1, q2, ?_⟩
  cases q3 with
  | tup h4 => cases h4 with
   | cons h5 h6 => cases h6 with
    | cons h7 h8 =>
     cases h8
     cases h7
     rw [he]
     cases h5 with
     | agg h9 => exact ⟨_, rfl, (Zab (bd := Zcb (pp_T []) 0) (is := [12, 12, 12, 12]) (k := 351808) (qs := [0, 0, 0, 0]) ⟨by kernel_rfl, by decide, by kernel_rfl, by decide, by kernel_rfl, by decide, by kernel_rfl, by decide, trivial⟩ h9).to (pv_err (by rw [he]; decide)) (Nat.le_refl _)⟩
 have H10 : Csl (Za5 x0 x1 x2 x3) pp_k10 := .cons h4 H8
 have g0 := ((by kernel_rfl : ZD (Za5 x0 x1 x2 x3) [4, 0] = YP (bl x0)).symm.trans h0)
 have g1 := ((by kernel_rfl : ZD (Za5 x0 x1 x2 x3) [4, 1] = YP (bl x1)).symm.trans h1)
 have g2 := ((by kernel_rfl : ZD (Za5 x0 x1 x2 x3) [4, 2] = YP (bl x2)).symm.trans h2)
 have g3 := ((by kernel_rfl : ZD (Za5 x0 x1 x2 x3) [4, 3] = YP (bl x3)).symm.trans h3)
 have g4 := ((by kernel_rfl : ZD (Za5 x0 x1 x2 x3) [9, 4, 5, 6] = (if ((YO (bl x0))).num = 0 ∧ ((YO (bl x1))).num = 0 ∧ ((YO (bl x2))).num = 0 then (1 : Int) else 0)).symm.trans h4)
 have he : Zcl (bl x0) (bl x1) (bl x2) (bl x3) = 0 := perr_5 g0 g1 g2 g3 (fun q => absurd ((if_pos q).symm.trans g4) (by decide))
 refine Calls.mono (leaf _ H10 pp_p0) fun e w' ⟨v, S', q1, q2, blk, q3⟩ => ⟨v, S', q1, q2, ?_⟩
 cases q3 with
 | tup h4 => cases h4 with
  | cons h5 h6 => cases h6 with
   | cons h7 h8 =>
    cases h8
    cases h7
    rw [he]
    cases h5 with
    | agg h9 => exact ⟨_, rfl, (Zab (bd := Zcb (pp_T []) 0) (is := [8, 9, 10, 11]) (k := 351808) (qs := [(pn (YO (bl x0)) (YO (bl x1)) (YO (bl x2)) (YO (bl x3)) (YO (bl x0))), (pn (YO (bl x0)) (YO (bl x1)) (YO (bl x2)) (YO (bl x3)) (YO (bl x1))), (pn (YO (bl x0)) (YO (bl x1)) (YO (bl x2)) (YO (bl x3)) (YO (bl x2))), (pn (YO (bl x0)) (YO (bl x1)) (YO (bl x2)) (YO (bl x3)) (YO (bl x3)))]) ⟨by kernel_rfl, by decide, by kernel_rfl, by decide, by kernel_rfl, by decide, by kernel_rfl, by decide, trivial⟩ h9).to (pv_ok he) (Nat.le_refl _)⟩
def vp_r : List Rw := [⟨[3, 0], 0, 0⟩, ⟨[3, 1], 0, 0⟩, ⟨[3, 2], 0, 0⟩, ⟨[38, 0], 0, 900⟩, ⟨[38, 1], 0, 900⟩, ⟨[38, 2], 0, 900⟩, ⟨[6], 0, 351808⟩]
def vp_T (cs : CL) : Tb := ⟨vp_r, cs, 100000000000⟩
def vp_G (cs : CL) (r : SV Ato) : Prop := RunT symTab4 (vp_T cs) 13 [.agg (cTs [0, 1, 2])] r 120
def vp_R (x0 x1 x2 : ByteArray) : Nat → AV := rho (vp_T []) (baseS [x0, x1, x2])
def vp_k0 : CL := ([12, 2], 0) :: ([12, 1], 0) :: ([12, 0], 0) :: []
def vp_k1 (nh0 : Nat) : CL := ([4, 0], .ofNat (.succ nh0)) :: vp_k0
theorem vp_p3 (nh0 : Nat) : vp_G (vp_k1 nh0) (.tup [.agg (zQs 3), .int .i64 (.ofNat (.succ nh0))]) := fun _ _ _ => by kernel_rfl
def vp_k2 : CL := ([4, 0], 0) :: vp_k0
def vp_k3 (nh1 : Nat) : CL := ([4, 1], .ofNat (.succ nh1)) :: vp_k2
theorem vp_p2 (nh1 : Nat) : vp_G (vp_k3 nh1) (.tup [.agg (zQs 3), .int .i64 (.ofNat (.succ nh1))]) := fun _ _ _ => by kernel_rfl
def vp_k4 : CL := ([4, 1], 0) :: vp_k2
def vp_k5 (nh2 : Nat) : CL := ([4, 2], .ofNat (.succ nh2)) :: vp_k4
theorem vp_p1 (nh2 : Nat) : vp_G (vp_k5 nh2) (.tup [.agg (zQs 3), .int .i64 (.ofNat (.succ nh2))]) := fun _ _ _ => by kernel_rfl
def vp_k6 : CL := ([4, 2], 0) :: vp_k4
theorem vp_p0 : vp_G vp_k6 (.tup [.agg (cQs [3, 4, 5]), .int .i64 0]) := fun _ _ _ => by kernel_rfl
theorem vec_Parse_s {S : Sh} {w : World} (hS : Ya S w) {x0 x1 x2 : ByteArray} (hz0 : x0.size ≤ 1024) (hz1 : x1.size ≤ 1024) (hz2 : x2.size ≤ 1024) :
  Calls Tryz.prog 13 [(.agg ([.string x0, .string x1, .string x2] : List Value).toArray)].toArray w (Ret S w (fun S v => ∃ c0 : List Value, v = .tuple [.agg c0.toArray, .int .i64 (verr (bl x0) (bl x1) (bl x2))].toArray ∧ Fs S c0 [vvA (bl x0) (bl x1) (bl x2), vvB (bl x0) (bl x1) (bl x2), vvC (bl x0) (bl x1) (bl x2)] 900)) := by
 have leaf := fun cs hc {r} (h : vp_G cs r) => QV Zch (K := 0) (base := (baseS [x0, x1, x2])) (by kernel_rfl) (Nat.zero_le _) (by kernel_rfl) hS (fun _ _ => .cons (.agg (cTs_mk (is := [0, 1, 2]) (ss := [x0, x1, x2]) ⟨by kernel_rfl, by kernel_rfl, by kernel_rfl, trivial⟩)) .nil) cs hc h
 have H0 : Csl (vp_R x0 x1 x2) vp_k0 := .cons (show ZD (vp_R x0 x1 x2) [12, 2] = 0 from if_neg (Nat.not_lt.2 hz2)) (.cons (show ZD (vp_R x0 x1 x2) [12, 1] = 0 from if_neg (Nat.not_lt.2 hz1)) (.cons (show ZD (vp_R x0 x1 x2) [12, 0] = 0 from if_neg (Nat.not_lt.2 hz0)) .nil))
 rcases XX (vp_R x0 x1 x2) (t := 4) (is := [0]) (by decide) with h0 | ⟨nh0, h0⟩; rotate_left
 ·have H1 : Csl (vp_R x0 x1 x2) (vp_k1 nh0) := .cons h0 H0
  have g0 := ((by kernel_rfl : ZD (vp_R x0 x1 x2) [4, 0] = YP (bl x0)).symm.trans h0)
  have he : verr (bl x0) (bl x1) (bl x2) = Int.ofNat (Nat.succ nh0) := (verr_0 (fun q => absurd (g0.symm.trans q) (by simp; try omega))).trans g0
  refine Calls.mono (leaf _ H1 (vp_p3 nh0)) fun e w' ⟨v, S', q1, q2, blk, q3⟩ => ⟨v, S', q1, q2, ?_⟩
  cases q3 with
  | tup h4 => cases h4 with
   | cons h5 h6 => cases h6 with
    | cons h7 h8 =>
     cases h8
     cases h7
     rw [he]
     obtain ⟨c0, rfl, hF⟩ := zero_end3 (k := 900) h5
     exact ⟨_, rfl, hF.to (vv_err (by rw [he]; simp; try omega)) (Nat.le_refl _)⟩
 have H2 : Csl (vp_R x0 x1 x2) vp_k2 := .cons h0 H0
 rcases XX (vp_R x0 x1 x2) (t := 4) (is := [1]) (by decide) with h1 | ⟨nh1, h1⟩; rotate_left
 ·have H3 : Csl (vp_R x0 x1 x2) (vp_k3 nh1) := .cons h1 H2
  have g0 := ((by kernel_rfl : ZD (vp_R x0 x1 x2) [4, 0] = YP (bl x0)).symm.trans h0)
  have g1 := ((by kernel_rfl : ZD (vp_R x0 x1 x2) [4, 1] = YP (bl x1)).symm.trans h1)
  have he : verr (bl x0) (bl x1) (bl x2) = Int.ofNat (Nat.succ nh1) := (verr_1 g0 (fun q => absurd (g1.symm.trans q) (by simp; try omega))).trans g1
  refine Calls.mono (leaf _ H3 (vp_p2 nh1)) fun e w' ⟨v, S', q1, q2, blk, q3⟩ => ⟨v, S', q1, q2, ?_⟩
  cases q3 with
  | tup h4 => cases h4 with
   | cons h5 h6 => cases h6 with
    | cons h7 h8 =>
     cases h8
     cases h7
     rw [he]
     obtain ⟨c0, rfl, hF⟩ := zero_end3 (k := 900) h5
     exact ⟨_, rfl, hF.to (vv_err (by rw [he]; simp; try omega)) (Nat.le_refl _)⟩
 have H4 : Csl (vp_R x0 x1 x2) vp_k4 := .cons h1 H2
 rcases XX (vp_R x0 x1 x2) (t := 4) (is := [2]) (by decide) with h2 | ⟨nh2, h2⟩; rotate_left
 ·have H5 : Csl (vp_R x0 x1 x2) (vp_k5 nh2) := .cons h2 H4
  have g0 := ((by kernel_rfl : ZD (vp_R x0 x1 x2) [4, 0] = YP (bl x0)).symm.trans h0)
  have g1 := ((by kernel_rfl : ZD (vp_R x0 x1 x2) [4, 1] = YP (bl x1)).symm.trans h1)
  have g2 := ((by kernel_rfl : ZD (vp_R x0 x1 x2) [4, 2] = YP (bl x2)).symm.trans h2)
  have he : verr (bl x0) (bl x1) (bl x2) = Int.ofNat (Nat.succ nh2) := (verr_2 g0 g1).trans g2
  refine Calls.mono (leaf _ H5 (vp_p1 nh2)) fun e w' ⟨v, S', q1, q2, blk, q3⟩ => ⟨v, S', q1, q2, ?_⟩
  cases q3 with
  | tup h4 => cases h4 with
   | cons h5 h6 => cases h6 with
    | cons h7 h8 =>
     cases h8
     cases h7
     rw [he]
     obtain ⟨c0, rfl, hF⟩ := zero_end3 (k := 900) h5
     exact ⟨_, rfl, hF.to (vv_err (by rw [he]; simp; try omega)) (Nat.le_refl _)⟩
 have H6 : Csl (vp_R x0 x1 x2) vp_k6 := .cons h2 H4
 have g0 := ((by kernel_rfl : ZD (vp_R x0 x1 x2) [4, 0] = YP (bl x0)).symm.trans h0)
 have g1 := ((by kernel_rfl : ZD (vp_R x0 x1 x2) [4, 1] = YP (bl x1)).symm.trans h1)
 have g2 := ((by kernel_rfl : ZD (vp_R x0 x1 x2) [4, 2] = YP (bl x2)).symm.trans h2)
 have he : verr (bl x0) (bl x1) (bl x2) = 0 := (verr_2 g0 g1).trans g2
 refine Calls.mono (leaf _ H6 vp_p0) fun e w' ⟨v, S', q1, q2, blk, q3⟩ => ⟨v, S', q1, q2, ?_⟩
 cases q3 with
 | tup h4 => cases h4 with
  | cons h5 h6 => cases h6 with
   | cons h7 h8 =>
    cases h8
    cases h7
    rw [he]
    cases h5 with
    | agg h9 => exact ⟨_, rfl, (Zab (bd := Zcb (vp_T []) 0) (is := [3, 4, 5]) (k := 900) (qs := [(YO (bl x0)), (YO (bl x1)), (YO (bl x2))]) ⟨by kernel_rfl, by decide, by kernel_rfl, by decide, by kernel_rfl, by decide, trivial⟩ h9).to (vv_ok he) (Nat.le_refl _)⟩
end
end Go.Cham
namespace Go.Cham
open Go Go.RowKit Go.Proofs
noncomputable section
abbrev fNatOf : Nat := 76
def pOf : PrF Nat := fun l => match l with
  | [.int .u64 (.ofNat a)] => match Nat.ble a 18446744073709551615 with
    | true => some (nv a)
    | false => none
  | _ => none
set_option maxRecDepth 100000 in
theorem pOf_ok : Xp Tryz.prog DN fNatOf pOf := by
  intro args r hr G w vs hd hS
  unfold pOf at hr
  split at hr
  · rename_i a
    split at hr
    · rename_i hle
      cases hr
      have := Nat.le_of_ble_eq_true hle
      cases hd with
      | cons h1 h2 =>
        cases h2
        cases h1
        exact .ret (by kernel_rfl) (nat_Of hS (n := a) (by omega)) fun S' v ⟨c0, e, h⟩ => by rw [e]; exact Zdc h
    · cases hr
  · cases hr
def tabNat : List (Nat × PrF Nat) := [
  (fNatOf, pOf),
  (98, pN1 fun a => .int .i64 (bitB a : Int)),
  (133, pN2 fun a b => .int .i64 (cmpB a b)),
  (137, pN2 fun a b => nv (Nat.add a b)),
  (80, pN2 fun a b => nv (Nat.mul a b)),
  (79, pN2 fun a b => nv (Nat.gcd a b)),
  (145, pN2 fun a b => match Nat.ble b a with | true => .tup [nv (Nat.sub a b), .int .i64 0] | false => .tup [nv 0, .int .i64 10]),
  (77, pN2 fun a b => match Nat.beq b 0 with | true => .tup [nv 0, nv 0, .int .i64 11] | false => .tup [nv (Nat.div a b), nv (Nat.mod a b), .int .i64 0]),
  (118, pN1 fun a => .str (decB a))]
set_option maxRecDepth 100000 in
theorem tabNat_ok : ∀ p ∈ tabNat, Xp Tryz.prog DN p.1 p.2 := by
  intro p hp
  simp only [tabNat, List.mem_cons, List.not_mem_nil, or_false] at hp
  rcases hp with rfl | rfl | rfl | rfl | rfl | rfl | rfl | rfl | rfl
  · exact pOf_ok
  · exact pN1_ok (by kernel_rfl) fun S w c a hS h => ⟨_, Yw hS h, fun blk S' v hv => by rw [hv, bitB_eq]; exact .int _ _⟩
  · exact pN2_ok (by kernel_rfl) fun S w c d a b hS h k => ⟨_, nat_Cmp hS h k, fun blk S' v hv => by rw [hv, cmpB_eq]; exact .int _ _⟩
  · exact pN2_ok (by kernel_rfl) fun S w c d a b hS h k => ⟨_, nat_Add hS h k (by omega) (by omega), fun blk S' v ⟨c0, e, hv⟩ => by rw [e]; exact Zdc hv⟩
  · exact pN2_ok (by kernel_rfl) fun S w c d a b hS h k => ⟨_, nat_Mul hS h k (by omega) (by omega), fun blk S' v ⟨c0, e, hv⟩ => by rw [e]; exact Zdc hv⟩
  · exact pN2_ok (by kernel_rfl) fun S w c d a b hS h k => ⟨_, nat_Gcd hS h k (by omega), fun blk S' v ⟨c0, e, hv⟩ => by rw [e]; exact Zdc hv⟩
  · refine pN2_ok (by kernel_rfl) fun S w c d a b hS h k => ⟨_, nat_Sub hS h k (by omega), fun blk S' v hv => ?_⟩
    rcases hv with ⟨h1, c0, e, hv⟩ | ⟨h1, c0, e, hv⟩
    · have : Nat.ble b a = false := by
        cases hb : Nat.ble b a with
        | false => rfl
        | true => have := Nat.le_of_ble_eq_true hb; omega
      rw [e, this]
      exact .tup (.cons (Zdc hv) (.cons (.int _ _) .nil))
    · rw [e, Nat.ble_eq_true_of_le h1]
      exact .tup (.cons (Zdc hv) (.cons (.int _ _) .nil))
  · refine pN2_ok (by kernel_rfl) fun S w c d a b hS h k => ⟨_, nat_Div hS h k (by omega), fun blk S' v hv => ?_⟩
    rcases hv with ⟨h1, c0, c1, e, hv, hu⟩ | ⟨h1, c0, c1, e, hv, hu⟩
    · subst h1
      rw [e]
      exact .tup (.cons (Zdc hv) (.cons (Zdc hu) (.cons (.int _ _) .nil)))
    · have : Nat.beq b 0 = false := by
        cases hb : Nat.beq b 0 with
        | false => rfl
        | true => rw [YF] at hb; exact absurd hb h1
      rw [e, this]
      exact .tup (.cons (Zdc hv) (.cons (Zdc hu) (.cons (.int _ _) .nil)))
  · refine pN1_ok (by kernel_rfl) fun S w c a hS h => ⟨_, Zag hS h (by omega), fun blk S' v hv => ?_⟩
    rw [hv, decB_eq]
    exact .str _
end
end Go.Cham
namespace Go.Cham
open Go Go.RowKit Go.Proofs
noncomputable section
def fracV (q : Rat) : SV Nat := .agg [.bool (decide (q.num < 0)), .at_ q.num.natAbs, .at_ (q.den - 1)]
theorem fracV_den {S : Sh} {cs : List Value} {q : Rat} {k : Nat} {blk : Nat → Option (Nat × Nat)} (h : Fs S cs [q] k) : Den DN ⟨S, blk⟩ (fracV q) (.agg cs.toArray) := by
  obtain ⟨c0, c1, c2, c3, c4, rfl, h1, h2, _⟩ := h.one
  obtain ⟨us, e, h3⟩ := h1.abs
  have h0 := h1.sign
  simp at h0 e
  subst h0 e
  refine .agg (.one (.bool _) rfl (fun _ => by simp) ?_)
  have := YN.run (D := DN) (G := ⟨S, blk⟩) (a := q.num.natAbs) (us := [c1, c2]) ⟨k, h3⟩ (YN.run (a := q.den - 1) (us := [c3, c4]) ⟨k, h2⟩ .nil)
  simpa using this
def pParse : PrF Nat := fun l => match l with
  | [.str s] => match byteL s with
    | true => match Nat.ble (lenL s) 1000000 with
      | true => some (.tup [fracV (YO s), .int .i64 (YP s)])
      | false => none
    | false => none
  | _ => none
set_option maxRecDepth 100000 in
theorem pParse_ok : Xp Tryz.prog DN 32 pParse := by
  intro args r hr G w vs hd hS
  unfold pParse at hr
  split at hr
  · rename_i s
    split at hr
    · rename_i hb
      split at hr
      · rename_i hle
        cases hr
        have hle' := Nat.le_of_ble_eq_true hle
        rw [Zbf] at hle'
        have hbl := XM (Zev hb)
        cases hd with
        | cons h1 h2 =>
          cases h2
          cases h1
          refine .ret (by kernel_rfl) (frac_Parse hS (s := YJ s) (by rw [ofBl_size]; omega)) fun S' v hv => ?_
          rw [hbl] at hv
          obtain ⟨c0, e, hv⟩ := hv
          rw [e]
          exact .tup (.cons (fracV_den hv) (.cons (.int _ _) .nil))
      · cases hr
    · cases hr
  · cases hr
def isTrue (o : Option (CR Nat)) : Bool := match o with
  | some c => match c.r with
    | .bool b => b
    | _ => false
  | none => false
theorem known {P : Program} {f : FuncId} (hmo : P.follows .mixedOrders = true) {l : List (Nat × PrF Nat)} (hl : ∀ p ∈ l, Xp P DN p.1 p.2) {k : Nat} (he : ZW P f = true)
    (h : isTrue (callB P DN (primOf (mkTab l)) (runN P DN (primOf (mkTab l)) k) 0 f [] .nil 0) = true) {S : Sh} {w : World} (hS : Ya S w) : Calls P f [].toArray w (Ret S w fun _ v => v = .bool true) := by
  unfold isTrue at h
  split at h
  · rename_i c hc
    split at h
    · rename_i b hb
      subst h
      refine Calls.mono (Zad.toRet he (ev_call hmo (primOf_ok hl) hc hS .nil)) fun e w' ⟨v, S', h1, h2, blk', h3⟩ => ⟨v, S', h1, h2, ?_⟩
      rw [hb] at h3
      cases h3; rfl
    · cases h
  · cases h
def tabPlane : List (Nat × PrF Nat) := (32, pParse) :: tabNat
theorem tabPlane_ok : ∀ p ∈ tabPlane, Xp Tryz.prog DN p.1 p.2 := by
  intro p hp
  rcases List.mem_cons.1 hp with rfl | hp
  · exact pParse_ok
  · exact tabNat_ok p hp
end
end Go.Cham
namespace Go.Cham
open Go Go.RowKit Go.Proofs
noncomputable section
set_option maxRecDepth 100000 in
theorem works_run : isTrue (callB Tryz.prog DN (primOf (mkTab tabPlane)) (runN Tryz.prog DN (primOf (mkTab tabPlane)) 4000) 0 11 [] .nil 0) = true := by kernel_rfl
theorem works_s {S : Sh} {w : World} (hS : Ya S w) : Calls Tryz.prog 11 [].toArray w (Ret S w fun _ v => v = .bool true) := known mixed tabPlane_ok (by kernel_rfl) works_run hS
end
end Go.Cham
namespace Go.Cham
open Go Go.RowKit Go.Proofs
noncomputable section
set_option maxRecDepth 100000
def pWorks : PrF Ato := fun l => match l with
  | [] => some (.bool true)
  | _ => none
def valsB (T : Tb) (need : Nat) (x : Int) (is : List Nat) : List Nat → Option (List Nat)
  | [] => some []
  | o :: os => match findV T (keyE x (o :: is)) with
    | some (k, r) => match Nat.ble need r.d with
      | true => match valsB T need x is os with
        | some ks => some (k :: ks)
        | none => none
      | false => none
    | none => none
def pTexts (T : Tb) (t need : Nat) (ops : List Nat) (n : Nat) : PrF Ato := fun l => match l with
  | [.agg ts] => match asTs ts with
    | some is => match Nat.beq is.length n with
      | true => match is.all (shortB T) with
        | true => match condGo (t :: is) T.conds with
          | some x => match valsB T need x is ops with
            | some ks => some (.tup [.agg (cQs ks), .int .i64 x])
            | none => none
          | none => none
        | false => none
      | false => none
    | none => none
  | _ => none
def pCmpP (T : Tb) : PrF Ato := fun l => match l with
  | [.agg x, .agg y] => match asQs T 4 x with
    | some is => match asQs T 4 y with
      | some js => match is, js with
        | [a, b, c, d], [e, f, g, h] => match limB T 100000000000 [a, b, c, d, e, f, g, h] with
          | true => match Nat.ble (Nat.add (Nat.mul (mxC T [a, b, c, d, e, f, g, h]) T.km) (mxD T [a, b, c, d, e, f, g, h])) 100000000000 with
            | true => match yesNo T [9, a, b, c] with
              | some u => match yesNo T [9, e, f, g] with
                | some v => match u || v with
                  | false => match condGo [10, a, b, c, d, e, f, g, h] T.conds with
                    | some z => some (.int .i64 z)
                    | none => none
                  | true => none
                | none => none
              | none => none
            | false => none
          | false => none
        | _, _ => none
      | none => none
    | none => none
  | _ => none
section
variable {T : Tb} {K : Nat} {base ρ : Nat → AV} {bd : Nat → Nat} {G : Gh} {T0 : Tb} {hT : Cs T0 ρ}
theorem pWorks_ok : Xp Tryz.prog (DS hT bd) 11 pWorks := by
  intro args r hr G w vs hd hS
  unfold pWorks at hr
  split at hr
  · cases hr
    cases hd
    refine .ret (by kernel_rfl) (works_s hS) fun S' v hv => ?_
    rw [hv]; exact .bool _
  · cases hr
theorem valsB_ok (hg : YB T K base ρ bd) {need : Nat} {x : Int} {is : List Nat} : ∀ {ops ks : List Nat} {qs : List Rat}, valsB T need x is ops = some ks → ops.length = qs.length →
    (x = 0 → ∀ i (h : i < ops.length) (h' : i < qs.length), 10 < ops[i] ∧ semL ops[i] (is.map ρ) = .q qs[i]) → (x ≠ 0 → ∀ q ∈ qs, q = 0) → 0 ≤ x → Qs ρ bd need ks qs
  | [], ks, [], h, _, _, _, _ => by
    simp only [valsB, Option.some.injEq] at h; subst h; trivial
  | [], _, _ :: _, _, hl, _, _, _ => by cases hl
  | _ :: _, _, [], _, hl, _, _, _ => by cases hl
  | o :: os, ks, q :: qs, h, hl, h1, h2, hx => by
    unfold valsB at h
    split at h
    · rename_i k r hf
      split at h
      · rename_i hb
        split at h
        · rename_i ks' hks
          cases h
          have hb' := Nat.le_of_ble_eq_true hb
          obtain ⟨f1, f2⟩ := XT hf
          obtain ⟨f3, f4⟩ := hg.row _ _ f1
          refine ⟨?_, by rw [f4]; omega, valsB_ok hg hks (by simpa using hl) (fun e i hi hi' => by
            have := h1 e (i + 1) (by simp; omega) (by simp; omega)
            simpa using this) (fun e q hq => h2 e q (by simp [hq])) hx⟩
          rw [f3, f2]
          unfold keyE
          split
          · split
            · have := h1 rfl 0 (by simp) (by simp)
              simp only [List.getElem_cons_zero] at this
              rw [semK_op this.1]
              exact this.2
            · have := h2 (by simp; omega) q (by simp)
              rw [this]; rfl
          · omega
        · cases h
      · cases h
    · cases h
theorem TsE.vals : ∀ {is : List Nat} {ss : List ByteArray}, TsE ρ is ss → is.map ρ = ss.map AV.s
  | [], [], _ => rfl
  | i :: is, s :: ss, h => by rw [List.map_cons, List.map_cons, h.1, TsE.vals h.2]
  | [], _ :: _, h => h.elim
  | _ :: _, [], h => h.elim
theorem TsE.short (hg : YB T K base ρ bd) : ∀ {is : List Nat} {ss : List ByteArray}, TsE ρ is ss → is.all (shortB T) = true → ∀ s ∈ ss, s.size ≤ 1024
  | [], [], _, _, s, hs => by cases hs
  | i :: is, u :: ss, h, ha, s, hs => by
    simp only [List.all_cons, Bool.and_eq_true] at ha
    rcases List.mem_cons.1 hs with rfl | hs
    · have := shortB_ok hg ha.1
      rw [h.1] at this
      exact this
    · exact TsE.short hg h.2 ha.2 s hs
  | [], _ :: _, h, _, _, _ => h.elim
  | _ :: _, [], h, _, _, _ => h.elim
theorem TsE.len : ∀ {is : List Nat} {ss : List ByteArray}, TsE ρ is ss → is.length = ss.length
  | [], [], _ => rfl
  | i :: is, s :: ss, h => by rw [List.length_cons, List.length_cons, TsE.len h.2]
  | [], _ :: _, h => h.elim
  | _ :: _, [], h => h.elim
theorem pTexts_ok (hg : YB T K base ρ bd) {f t need n : Nat} {ops : List Nat} (he : ZW Tryz.prog f = true)
    (h : ∀ {S : Sh} {w : World} {ss : List ByteArray}, Ya S w → ss.length = n → (∀ s ∈ ss, s.size ≤ 1024) → ∃ (E : Int) (qs : List Rat), Calls Tryz.prog f [.agg (ss.map Value.string).toArray].toArray w (Ret S w (fun S v => ∃ c0 : List Value, v = .tuple [.agg c0.toArray, .int .i64 E].toArray ∧ Fs S c0 qs need)) ∧
      semT t (ss.map AV.s) = E ∧ ops.length = qs.length ∧ (E = 0 → ∀ i (h : i < ops.length) (h' : i < qs.length), 10 < ops[i] ∧ semL ops[i] (ss.map AV.s) = .q qs[i]) ∧ (E ≠ 0 → ∀ q ∈ qs, q = 0) ∧ 0 ≤ E) : Xp Tryz.prog (DS hT bd) f (pTexts T t need ops n) := by
  intro args r hr G w vs hd hS
  unfold pTexts at hr
  split at hr
  · rename_i ts
    split at hr
    · rename_i is his
      split at hr
      · rename_i hn
        rw [YF] at hn
        split at hr
        · rename_i hs
          split at hr
          · rename_i x hx
            split at hr
            · rename_i ks hks
              cases hr
              cases hd with
              | cons x1 x2 =>
                cases x2
                cases x1 with
                | agg x1 =>
                  obtain ⟨ss, rfl, hts⟩ := asTs_ok his x1
                  obtain ⟨E, qs, hC, hE, hl, h1, h2, h3⟩ := h (ss := ss) hS (by rw [← hts.len]; exact hn) (hts.short hg hs)
                  have hEx : E = x := by
                    have h9 := hg.cond _ (Za2 hx)
                    have h8 : ZD ρ (t :: is) = semT t (is.map ρ) := rfl
                    rw [hts.vals] at h8
                    rw [← hE, ← h8]
                    exact h9
                  subst hEx
                  have hQ := valsB_ok hg hks hl (by rw [hts.vals]; exact h1) h2 h3
                  refine .ret he hC fun S' v ⟨c0, ev, hF⟩ => ?_
                  rw [ev]
                  exact .tup (.cons (.agg (XW hQ hF)) (.cons (.int _ _) .nil))
            · cases hr
          · cases hr
        · cases hr
      · cases hr
    · cases hr
  · cases hr
theorem pPlaneParse_ok (hg : YB T K base ρ bd) : Xp Tryz.prog (DS hT bd) 20 (pTexts T 7 351808 [50, 54, 58, 62] 4) := by
  refine pTexts_ok hg (by kernel_rfl) fun {S w ss} hS hl hz => ?_
  match ss, hl, hz with
  | [x0, x1, x2, x3], _, hz =>
    refine ⟨_, _, plane_Parse_s hS (hz x0 (by simp)) (hz x1 (by simp)) (hz x2 (by simp)) (hz x3 (by simp)), rfl, rfl, fun _ i hi hi' => ?_, fun e q hq => ?_, perr_nn _ _ _ _⟩
    · match i, hi with
      | 0, _ => exact ⟨by simp, rfl⟩
      | 1, _ => exact ⟨by simp, rfl⟩
      | 2, _ => exact ⟨by simp, rfl⟩
      | 3, _ => exact ⟨by simp, rfl⟩
    · simp only [List.mem_cons, List.not_mem_nil, or_false] at hq
      rcases hq with rfl | rfl | rfl | rfl
      · exact if_neg e
      · exact if_neg e
      · exact if_neg e
      · exact if_neg e
theorem pVecParse_ok (hg : YB T K base ρ bd) : Xp Tryz.prog (DS hT bd) 13 (pTexts T 11 900 [66, 70, 74] 3) := by
  refine pTexts_ok hg (by kernel_rfl) fun {S w ss} hS hl hz => ?_
  match ss, hl, hz with
  | [x0, x1, x2], _, hz =>
    refine ⟨_, _, vec_Parse_s hS (hz x0 (by simp)) (hz x1 (by simp)) (hz x2 (by simp)), rfl, rfl, fun _ i hi hi' => ?_, fun e q hq => ?_, verr_nn _ _ _⟩
    · match i, hi with
      | 0, _ => exact ⟨by simp, rfl⟩
      | 1, _ => exact ⟨by simp, rfl⟩
      | 2, _ => exact ⟨by simp, rfl⟩
    · simp only [List.mem_cons, List.not_mem_nil, or_false] at hq
      rcases hq with rfl | rfl | rfl
      · exact if_neg e
      · exact if_neg e
      · exact if_neg e
theorem pCmpP_ok (hg : YB T K base ρ bd) : Xp Tryz.prog (DS hT bd) 21 (pCmpP T) := by
  intro args r hr G w vs hd hS
  unfold pCmpP at hr
  split at hr
  · rename_i x y
    split at hr
    · rename_i is his
      split at hr
      · rename_i js hjs
        split at hr
        · rename_i a b c d e f g h
          split at hr
          · rename_i hl
            split at hr
            · rename_i hm
              have hm' := mx_lim hg.km hm
              have hmx := mx_ok hg hl
              split at hr
              · rename_i u hu
                split at hr
                · rename_i v hv
                  split at hr
                  · rename_i huv
                    simp only [Bool.or_eq_false_iff] at huv
                    obtain ⟨rfl, rfl⟩ := huv
                    split at hr
                    · rename_i z hz
                      cases hr
                      cases hd with
                      | cons x1 x2 =>
                        cases x2 with
                        | cons x3 x4 =>
                          cases x4
                          cases x1 with
                          | agg x1 =>
                            cases x3 with
                            | agg x3 =>
                              have h1 := Zd0 hg his x1 (k := mxC T [a, b, c, d, e, f, g, h] * K + mxD T [a, b, c, d, e, f, g, h]) (fun i hi => hmx i (by simp at hi ⊢; omega))
                              have h2 := Zd0 hg hjs x3 (k := mxC T [a, b, c, d, e, f, g, h] * K + mxD T [a, b, c, d, e, f, g, h]) (fun i hi => hmx i (by simp at hi ⊢; omega))
                              refine .ret (by kernel_rfl) (plane_Cmp_s hS h1 h2 hm' (of_decide_eq_false (zero_yes hg hu)) (of_decide_eq_false (zero_yes hg hv))) fun S' v hv => ?_
                              have hc : Zb5 (Xo (ρ a).rat (ρ e).rat) (Xo (ρ b).rat (ρ f).rat) (Xo (ρ c).rat (ρ g).rat) (Xo (ρ d).rat (ρ h).rat) = z := hg.cond _ (Za2 hz)
                              rw [hv, hc]
                              exact .int _ _
                    · cases hr
                  · cases hr
                · cases hr
              · cases hr
            · cases hr
          · cases hr
        · cases hr
      · cases hr
    · cases hr
  · cases hr
end
def symTab5 (T : Tb) : List (Nat × PrF Ato) := (20, pTexts T 7 351808 [50, 54, 58, 62] 4) :: (13, pTexts T 11 900 [66, 70, 74] 3) :: (21, pCmpP T) :: (11, pWorks) :: symTab4 T
theorem symTab5_OK : TabOK symTab5 := by
  intro T K base ρ bd T0 hT hg p hp
  simp only [symTab5, List.mem_cons] at hp
  rcases hp with rfl | rfl | rfl | rfl | hp
  · exact pPlaneParse_ok hg
  · exact pVecParse_ok hg
  · exact pCmpP_ok hg
  · exact pWorks_ok
  · exact Zch hg p hp
end
end Go.Cham
namespace Go.Cham
open Go Go.RowKit
theorem perr_zero {x y z u : List Nat} (h : Zcl x y z u = 0) : YP x = 0 ∧ YP y = 0 ∧ YP z = 0 ∧ YP u = 0 ∧ ¬ ((YO x).num = 0 ∧ (YO y).num = 0 ∧ (YO z).num = 0) := by
  unfold Zcl at h
  split at h
  · rename_i h1; exact absurd h h1
  · split at h
    · rename_i h1; exact absurd h h1
    · split at h
      · rename_i h1; exact absurd h h1
      · split at h
        · rename_i h1; exact absurd h h1
        · split at h
          · cases h
          · rename_i a b c d e
            exact ⟨Classical.byContradiction a, Classical.byContradiction b, Classical.byContradiction c, Classical.byContradiction d, e⟩
theorem pv_nz0 {x y z u : List Nat} (h : Zcl x y z u = 0) : ¬ (pvA x y z u = 0 ∧ pvB x y z u = 0 ∧ pvC x y z u = 0) := by
  unfold pvA pvB pvC
  rw [if_pos h, if_pos h, if_pos h]
  exact pn_nz (nz3.1 (perr_zero h).2.2.2.2)
theorem pv_nz {x y z u : List Nat} (h : Zcl x y z u = 0) : ¬ ((pvA x y z u).num = 0 ∧ (pvB x y z u).num = 0 ∧ (pvC x y z u).num = 0) := nz3.2 (pv_nz0 h)
theorem sgnQ (q : Rat) : (Yx q.num = -1 ∧ q < 0) ∨ (Yx q.num = 0 ∧ q = 0) ∨ (Yx q.num = 1 ∧ 0 < q) := by
  rcases sgnZ_cases q.num with h | h | h
  · refine .inl ⟨h, ?_⟩
    have h1 : q.num < 0 := Qm.1 (by omega)
    have : ¬ 0 ≤ q := fun h2 => by
      have := Rat.num_nonneg.2 h2
      omega
    grind
  · exact .inr (.inl ⟨h, num0.1 (Yp.1 h)⟩)
  · refine .inr (.inr ⟨h, ?_⟩)
    have h1 : 0 < q.num := sgnZ_pos.1 (by omega)
    have h2 : 0 ≤ q := Rat.num_nonneg.1 (by omega)
    have h3 : q ≠ 0 := fun e => by rw [e] at h1; exact absurd h1 (by decide)
    grind
end Go.Cham
