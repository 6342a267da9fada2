/- YtojbflghmjfbpaaGreatDoorB4, a part of the proof that the claim's law answers true for every input, made small by program from the texts of this repo's wip/. No condition beyond those that the statements bear. -/
import Derived.Test.YtojbflghmjfbpaaGreatDoorB3
import Derived.Test.YtojbflghmjfbpaaGreatDoorRows
import Derived.ProofKit
import Derived.LaidMore
import Derived.OpenShut
import Derived.Lay
import Derived.Lib.SmallJoins
import Derived.Stop.Joined
namespace Go.Cham
open Go Go.RowKit Go.Proofs
set_option maxRecDepth 20000 in
theorem QE {S : Sh} {w : World} (hS : Yw S w) {s : ByteArray} {sep : ByteArray} (hsep : sep = ⟨#[47]⟩) (hs : s.size ≤ 1099511627776) : Calls Tryz.prog 147 [(.string s), (.string sep)].toArray w (Ret S w (fun S v => v = .tuple [.string (Xg (Qs (bl s))), .string (Xg (Zae (bl s)).2.1), .bool (decide (ftwo (bl s) = true))].toArray)) := by
 refine ZT (n := 23) Tryz.func147 rfl rfl ?_
 intro ac0 L0
 replace L0 : Zz ac0 23 [(0, (.string s)), (1, (.string sep))] := L0
 have R0 : Run S w S [] w := .start hS
 have hsz : sep.size = 1 := by rw [hsep]; rfl
 have hbs := YN s
 refine wp_seq (Za (so L0 rfl (Zc L0 rfl ?_)))
 intro _ L1
 refine so L1 rfl (Zc L1 rfl fun _ L2 => (so L2 rfl (Zc L2 rfl fun _ L3 => (sn (wp_seq (wp_seq (Za (so L3 rfl (Zb L3 rfl fun _ L4 => (so L4 rfl (Zb L4 rfl fun _ L5 => (so L5 rfl (Zp L5 rfl ent_169 (Zb4 R0.holds (s := s) (sep := sep)    (by assumption)) fun v_1 _ _ x1 v1 => ?_)))))))))))))
 have R1 := R0.call x1
 obtain rfl := v1
 intro _ L6
 refine so L6 rfl (Zc L6 rfl fun _ L7 => (sn (wp_seq (Za (so L7 rfl (Zb L7 rfl fun _ L8 => ?_))))))
 by_cases t1 : (0 : Int) ≤ (idx47 (bl s))
 ·refine so L8 rfl (Zf (b := true) (decide_eq_true t1) (fun _ k_ => YA L8 rfl rfl k_) fun _ L9 => (sn (Zs L9 rfl rfl (wp_seq ?_))))
  have hcp := idx47_pos (l := bl s) (by omega)
  have hcl := congrArg List.length hcp.2.2; rw [List.length_append, List.length_cons] at hcl
  have L10 := L9; rw [hcp.2.1] at L10
  have L11 := (L10.kp [0, 1, 5, 6, 7] rfl)
  refine Zy (E0 := []) (H0 := []) (n := 23) mixed 10 [] (fun k =>  0) (Zaf [
    .is (.string s),
    .is (.int .i64 (((Qs (bl s)).length : Nat) : Int)),
    .is (.string (s.extract (0) (((Qs (bl s)).length)))),
    .is (.string s),
    .is (.int .i64 (((Qs (bl s)).length : Nat) : Int)),
    .is (.string sep),
    .is (.int .i64 ((sep.size : Nat) : Int)),
    .is (.int .i64 ((((Qs (bl s)).length : Nat) : Int) + ((sep.size : Nat) : Int))),
    .is (.string (s.extract ((((Qs (bl s)).length) + sep.size)) (s.size))),
    .is (.string (s.extract (0) (((Qs (bl s)).length))))]) L11 R1 (by simp) (by simp) (by rfl) (by rfl) (by simp) (ZU ?_) ?_
  ·refine (And.intro ?_ (And.intro ?_ (And.intro ?_ (And.intro ?_ (And.intro ?_ (And.intro ?_ (And.intro ?_ (And.intro ?_ (And.intro ?_ (And.intro ?_ trivial))))))))))
   ·exact Zd rfl (fun _ _ _ _ _ A1 => (Zb A1.live rfl (A1.same  rfl)))
   ·exact Zd rfl (fun _ _ _ _ _ A2 => (Zb A2.live rfl (A2.same  rfl)))
   ·refine Zd rfl (fun _ _ _ _ _ A3 => ?_)
    obtain ⟨_, e1, rfl⟩ := A3.known 0 rfl
    obtain ⟨_, e2, rfl⟩ := A3.known 1 rfl
    exact XW (i := 0) (j := ((Qs (bl s)).length)) (z := (s.extract (0) (((Qs (bl s)).length)))) ((A3.live.add e1).add e2) rfl Tryz.underlying9 rfl ⟨_, rfl⟩ (by omega) (by omega) rfl (A3.same  rfl)
   ·exact Zd rfl (fun _ _ _ _ _ A4 => (Zb A4.live rfl (A4.same  rfl)))
   ·exact Zd rfl (fun _ _ _ _ _ A5 => (Zb A5.live rfl (A5.same  rfl)))
   ·exact Zd rfl (fun _ _ _ _ _ A6 => (Zb A6.live rfl (A6.same  rfl)))
   ·refine Zd rfl (fun _ _ _ _ _ A7 => ?_)
    obtain ⟨_, e3, rfl⟩ := A7.known 5 rfl
    exact YM (A7.live.add e3) rfl Tryz.underlying9 (A7.same  rfl)
   ·refine Zd rfl (fun _ _ _ _ _ A8 => ?_)
    obtain ⟨_, e4, rfl⟩ := A8.known 4 rfl
    obtain ⟨_, e5, rfl⟩ := A8.known 6 rfl
    exact ZK (z := ((((Qs (bl s)).length : Nat) : Int) + ((sep.size : Nat) : Int))) ((A8.live.add e4).add e5) rfl rfl (IntWalk.i64_in _ (by omega)) (A8.same  rfl)
   ·refine Zd rfl (fun _ _ _ _ _ A9 => ?_)
    obtain ⟨_, e6, rfl⟩ := A9.known 3 rfl
    obtain ⟨_, e7, rfl⟩ := A9.known 7 rfl
    exact XW (i := (((Qs (bl s)).length) + sep.size)) (j := s.size) (z := (s.extract ((((Qs (bl s)).length) + sep.size)) (s.size))) ((A9.live.add e6).add e7) rfl Tryz.underlying9 ⟨_, rfl⟩ rfl (by omega) (by omega) rfl (A9.same  rfl)
   ·refine Zd rfl (fun _ _ _ _ _ A10 => ?_)
    obtain ⟨_, e8, rfl⟩ := A10.known 2 rfl
    exact Zc (A10.live.add e8) rfl (A10.same  rfl)
  ·intro S12 _ _ w12 l2 E1 R2 n1 L22 K1
   obtain ⟨_, e9, rfl⟩ := K1 8 (by decide)
   have L23 := L22.add e9; clear L22
   obtain ⟨_, e10, rfl⟩ := K1 9 (by decide)
   have L24 := L23.add e10; clear L23
   have R3 : Run _ _ S12 [] w12 := Yc R2 n1 [] (by simp) (by simp)
   exact so L24 rfl (Zc L24 rfl fun _ L25 => (so L25 rfl (Zc L25 rfl fun _ L26 => (sn (wp_ret ((ZE (Zv (rs := Tryz.f147.results.toList) L26 rfl (.tmp rfl (.tmp rfl (.tmp rfl Res.nil))) (⟨_, _, rfl, R3.ext, (by rw [cut_left hcp.2.2 (by omega), cut_right hcp.2.2 (by omega), hcp.1]; rfl)⟩)))))))))
 ·refine so L8 rfl (Zf (b := false) (decide_eq_false t1) (fun _ k_ => YA L8 rfl rfl k_) fun _ L27 => (sn (Zn L27 rfl rfl (wp_skip ((Ze (wp_seq ?_)))))))
  have hcp := idx47_neg (l := bl s) (by omega)
  refine Za (so L27 rfl (Zb L27 rfl ?_))
  intro _ L28
  exact so L28 rfl (Zc L28 rfl fun _ L29 => (so L29 rfl (Zc L29 rfl fun _ L30 => (so L30 rfl (Zc L30 rfl fun _ L31 => (sn (wp_ret ((Zv (rs := Tryz.f147.results.toList) (L31.kp [4, 5, 6] rfl) rfl (.tmp rfl (.tmp rfl (.tmp rfl Res.nil))) (⟨_, _, rfl, R1.ext, (by rw [hcp.2.1, ofBl_bl, hcp.1, hcp.2.2]; rfl)⟩))))))))))
set_option maxRecDepth 20000 in
theorem strings_Cut {S : Sh} {w : World} (hS : Yw S w) {s : ByteArray} {sep : ByteArray} (hsep : sep = ⟨#[47]⟩) (hs : s.size ≤ 1099511627776) : Calls Tryz.prog 94 [(.string s), (.string sep)].toArray w (Ret S w (fun S v => v = .tuple [.string (Xg (Qs (bl s))), .string (Xg (Zae (bl s)).2.1), .bool (decide (ftwo (bl s) = true))].toArray)) := by
 refine ZT (n := 13) Tryz.func94 rfl rfl ?_
 intro ac0 L0
 replace L0 : Zz ac0 13 [(0, (.string s)), (1, (.string sep))] := L0
 have R0 : Run S w S [] w := .start hS
 refine wp_seq (Za (so L0 rfl (Zc L0 rfl ?_)))
 intro _ L1
 refine so L1 rfl (Zc L1 rfl fun _ L2 => (so L2 rfl (Zc L2 rfl fun _ L3 => (sn (wp_seq (Za (so L3 rfl (Zb L3 rfl fun _ L4 => (so L4 rfl (Zb L4 rfl fun _ L5 => (so L5 rfl (Zp L5 rfl ent_147 (QE R0.holds (s := s) (sep := sep)    (hsep) (by omega)) fun v_1 _ _ x1 v1 => ?_))))))))))))
 have R1 := R0.call x1
 obtain rfl := v1
 intro _ L6
 refine so L6 rfl (Zh L6 rfl rfl fun _ L7 => (so L7 rfl (Zh L7 rfl rfl fun _ L8 => (so L8 rfl (Zh L8 rfl rfl fun _ L9 => (so L9 rfl (Zc L9 rfl fun _ L10 => (so L10 rfl (Zc L10 rfl fun _ L11 => (so L11 rfl (Zc L11 rfl fun _ L12 => (sn ?_))))))))))))
 exact wp_ret ((Zv (rs := Tryz.f94.results.toList) (L12.kp [4, 5, 6] rfl) rfl (.tmp rfl (.tmp rfl (.tmp rfl Res.nil))) (⟨_, _, rfl, R1.ext, rfl⟩)))
set_option maxRecDepth 20000 in
theorem QU {S : Sh} {w : World} (hS : Yw S w) {s : ByteArray} (hlim : s.size ≤ 1099511627776) : Calls Tryz.prog 96 [(.string s)].toArray w (Ret S w (fun S v => ((wd (bl s)) ∧ v = .bool true) ∨ ((¬ (wd (bl s))) ∧ v = .bool false))) := by
 refine ZT (n := 20) Tryz.func96 rfl rfl ?_
 intro ac0 L0
 replace L0 : Zz ac0 20 [(0, (.string s))] := L0
 have R0 : Run S w S [] w := .start hS
 have hbs := YN s; have htn := @trimD_nil s
 refine wp_seq (Za (so L0 rfl (Zc L0 rfl ?_)))
 intro _ L1
 refine sn (wp_seq (Za (so L1 rfl (Zb L1 rfl ?_))))
 intro _ L2
 by_cases t1 : ¬ s = (⟨#[]⟩ : ByteArray)
 ·refine so L2 rfl (Zf (b := true) (decide_eq_true t1) (fun _ k_ => Zbq L2 rfl rfl k_) fun _ L3 => (so L3 rfl (Zb L3 rfl fun _ L4 => (Zr L4 rfl rfl rfl rfl rfl (Zb L4 rfl fun _ L5 => (Zr L5 rfl rfl rfl rfl rfl (Zp L5 rfl ent_149 (strings_TrimR R0.holds (s := s) (sep := (⟨#[48, 49, 50, 51, 52, 53, 54, 55, 56, 57]⟩ : ByteArray))    (by rfl) (by omega)) fun v_1 _ _ x1 v1 => ?_)))))))
  have R1 := R0.call x1
  obtain rfl := v1
  intro _ L6
  by_cases t2 : (trimD s) = (⟨#[]⟩ : ByteArray)
  ·refine Zr L6 rfl rfl rfl rfl rfl (Zf (b := true) (decide_eq_true t2) (fun _ k_ => Xm L6 rfl rfl k_) fun _ L7 => (so L7 rfl (Zj L7 rfl rfl fun _ L8 => (so L8 rfl (Zb L8 rfl fun _ L9 => (Zr L9 rfl rfl rfl rfl rfl (Zb L9 rfl fun _ L10 => (Zr L10 rfl rfl rfl rfl rfl (YM L10 rfl Tryz.underlying9 fun _ L11 => ?_)))))))))
   by_cases t3 : ((s.size : Nat) : Int) = (1 : Int)
   ·refine Zr L11 rfl rfl rfl rfl rfl (Zf (b := true) (decide_eq_true t3) (fun _ k_ => ZY L11 rfl rfl k_) fun _ L12 => (Zr L12 rfl rfl rfl rfl rfl (Zb L12 rfl fun _ L13 => (Zm L13 rfl rfl rfl rfl rfl rfl fun _ L14 => (Zm L14 rfl rfl rfl rfl rfl rfl fun _ L15 => (Zm L15 rfl rfl rfl rfl rfl rfl fun _ L16 => (Zr L16 rfl rfl rfl rfl rfl (Zj L16 rfl rfl fun _ L17 => (so L17 rfl (Zj L17 rfl rfl fun _ L18 => ?_))))))))))
    exact so L18 rfl (Zc L18 rfl fun _ L19 => (sn (wp_ret ((Zv (rs := Tryz.f96.results.toList) (L19.kp [2] rfl) rfl (.tmp rfl Res.nil) (⟨_, _, rfl, R1.ext, (Or.inl ⟨by first | exact dig_wd (XR (by assumption)) (htn.1 (by assumption)) (by omega) | exact Xw (Classical.not_not.1 (by assumption)) | (exact fun q => absurd (htn.2 q.2.1) (by assumption)) | exact Xl (by have q := XR (s := s) (by assumption); omega) (by omega), rfl⟩)⟩))))))
   ·refine Zr L11 rfl rfl rfl rfl rfl (Zf (b := false) (decide_eq_false t3) (fun _ k_ => ZY L11 rfl rfl k_) fun _ L21 => (Zr L21 rfl rfl rfl rfl rfl (Zb L21 rfl fun _ L22 => (Zr L22 rfl rfl rfl rfl rfl (Zb L22 rfl fun _ L23 => (Zr L23 rfl rfl rfl rfl rfl (Xj (j := 0) L23 rfl rfl Tryz.underlying9 (by have q := XR (s := s) (by assumption); omega) (by have q := XR (s := s) (by assumption); omega) fun _ L24 => ?_)))))))
    by_cases t4 : ¬ (((bl s).getD (0) 0 : Nat) : Int) = (48 : Int)
    ·exact Zr L24 rfl rfl rfl rfl rfl (Zf (b := true) (decide_eq_true t4) (fun _ k_ => Yj L24 rfl rfl k_) fun _ L25 => (Zr L25 rfl rfl rfl rfl rfl (Zj L25 rfl rfl fun _ L26 => (so L26 rfl (Zj L26 rfl rfl fun _ L27 => (so L27 rfl (Zc L27 rfl fun _ L28 => (sn (wp_ret ((Zv (rs := Tryz.f96.results.toList) (L28.kp [2] rfl) rfl (.tmp rfl Res.nil) (⟨_, _, rfl, R1.ext, (Or.inl ⟨by first | exact dig_wd (XR (by assumption)) (htn.1 (by assumption)) (by omega) | exact Xw (Classical.not_not.1 (by assumption)) | (exact fun q => absurd (htn.2 q.2.1) (by assumption)) | exact Xl (by have q := XR (s := s) (by assumption); omega) (by omega), rfl⟩)⟩))))))))))))
    ·exact Zr L24 rfl rfl rfl rfl rfl (Zf (b := false) (decide_eq_false t4) (fun _ k_ => Yj L24 rfl rfl k_) fun _ L30 => (Zr L30 rfl rfl rfl rfl rfl (Zj L30 rfl rfl fun _ L31 => (so L31 rfl (Zj L31 rfl rfl fun _ L32 => (so L32 rfl (Zc L32 rfl fun _ L33 => (sn (wp_ret ((Zv (rs := Tryz.f96.results.toList) (L33.kp [2] rfl) rfl (.tmp rfl Res.nil) (⟨_, _, rfl, R1.ext, (Or.inr ⟨by first | exact dig_wd (XR (by assumption)) (htn.1 (by assumption)) (by omega) | exact Xw (Classical.not_not.1 (by assumption)) | (exact fun q => absurd (htn.2 q.2.1) (by assumption)) | exact Xl (by have q := XR (s := s) (by assumption); omega) (by omega), rfl⟩)⟩))))))))))))
  ·refine Zr L6 rfl rfl rfl rfl rfl (Zf (b := false) (decide_eq_false t2) (fun _ k_ => Xm L6 rfl rfl k_) fun _ L35 => (so L35 rfl (Zj L35 rfl rfl fun _ L36 => (so L36 rfl (Zb L36 rfl fun _ L37 => (Zm L37 rfl rfl rfl rfl rfl rfl fun _ L38 => (Zm L38 rfl rfl rfl rfl rfl rfl fun _ L39 => (Zm L39 rfl rfl rfl rfl rfl rfl fun _ L40 => (Zm L40 rfl rfl rfl rfl rfl rfl fun _ L41 => ?_)))))))))
   refine Yd L41 rfl rfl rfl rfl rfl ?_
   intro _ L42
   refine Yd L42 rfl rfl rfl rfl rfl ?_
   intro _ L43
   refine Yd L43 rfl rfl rfl rfl rfl ?_
   intro _ L44
   exact Zm L44 rfl rfl rfl rfl rfl rfl fun _ L45 => (so L45 rfl (Zj L45 rfl rfl fun _ L46 => (so L46 rfl (Zc L46 rfl fun _ L47 => (sn (wp_ret ((Zv (rs := Tryz.f96.results.toList) (L47.kp [2] rfl) rfl (.tmp rfl Res.nil) (⟨_, _, rfl, R1.ext, (Or.inr ⟨by first | exact dig_wd (XR (by assumption)) (htn.1 (by assumption)) (by omega) | exact Xw (Classical.not_not.1 (by assumption)) | (exact fun q => absurd (htn.2 q.2.1) (by assumption)) | exact Xl (by have q := XR (s := s) (by assumption); omega) (by omega), rfl⟩)⟩)))))))))
 ·refine so L2 rfl (Zf (b := false) (decide_eq_false t1) (fun _ k_ => Zbq L2 rfl rfl k_) fun _ L49 => (so L49 rfl (Zb L49 rfl fun _ L50 => (Zm L50 rfl rfl rfl rfl rfl rfl fun _ L51 => (Zm L51 rfl rfl rfl rfl rfl rfl fun _ L52 => (Zm L52 rfl rfl rfl rfl rfl rfl fun _ L53 => (so L53 rfl (Zj L53 rfl rfl fun _ L54 => (so L54 rfl (Zb L54 rfl fun _ L55 => ?_))))))))))
  refine Zm L55 rfl rfl rfl rfl rfl rfl fun _ L56 => (Zm L56 rfl rfl rfl rfl rfl rfl fun _ L57 => (Zm L57 rfl rfl rfl rfl rfl rfl fun _ L58 => (Zm L58 rfl rfl rfl rfl rfl rfl fun _ L59 => (Yd L59 rfl rfl rfl rfl rfl fun _ L60 => (Yd L60 rfl rfl rfl rfl rfl fun _ L61 => (Yd L61 rfl rfl rfl rfl rfl fun _ L62 => ?_))))))
  exact Zm L62 rfl rfl rfl rfl rfl rfl fun _ L63 => (so L63 rfl (Zj L63 rfl rfl fun _ L64 => (so L64 rfl (Zc L64 rfl fun _ L65 => (sn (wp_ret ((Zv (rs := Tryz.f96.results.toList) (L65.kp [2] rfl) rfl (.tmp rfl Res.nil) (⟨_, _, rfl, R0.ext, (Or.inr ⟨by first | exact dig_wd (XR (by assumption)) (htn.1 (by assumption)) (by omega) | exact Xw (Classical.not_not.1 (by assumption)) | (exact fun q => absurd (htn.2 q.2.1) (by assumption)) | exact Xl (by have q := XR (s := s) (by assumption); omega) (by omega), rfl⟩)⟩)))))))))
set_option maxRecDepth 20000 in
theorem frac_Parse {S : Sh} {w : World} (hS : Yw S w) {s : ByteArray} (hlim : s.size ≤ 1099511627775) : Calls Tryz.prog 32 [(.string s)].toArray w (Ret S w (fun S v => ∃ (c0 : List Value), v = .tuple [.agg c0.toArray, .int .i64 (ferr (bl s))].toArray ∧ Fs S c0 [fval (bl s)] (900))) := by
 refine ZT (n := 80) Tryz.func32 rfl rfl ?_
 intro ac0 L0
 replace L0 : Zz ac0 80 [(0, (.string s))] := L0
 have R0 : Run S w S [] w := .start hS
 refine wp_seq (Za (so L0 rfl (ZM (cs := zF1) YK R0 rfl ?_)))
 intro b1 _ R1 _ L1
 refine so L1 rfl (Zc L1 rfl fun _ L2 => (sn (wp_seq (Za (so L2 rfl (Zb L2 rfl fun _ L3 => (so L3 rfl (Zp L3 rfl ent_94 (strings_Cut R1.holds (s := s) (sep := (⟨#[47]⟩ : ByteArray))    (by rfl) (by omega)) fun v_1 _ _ x1 v1 => ?_))))))))
 have R2 := R1.call x1
 obtain rfl := v1
 intro _ L4
 refine so L4 rfl (Zb L4 rfl fun _ L5 => (so L5 rfl (Zh L5 rfl rfl fun _ L6 => (so L6 rfl (Zh L6 rfl rfl fun _ L7 => (so L7 rfl (Zh L7 rfl rfl fun _ L8 => (so L8 rfl (Zc L8 rfl fun _ L9 => (so L9 rfl (Zc L9 rfl fun _ L10 => (so L10 rfl (Zc L10 rfl fun _ L11 => ?_)))))))))))))
 have L12 := (L11.kp [2, 3, 4, 5, 6] rfl); clear L11
 refine sn (wp_seq (Za (so L12 rfl (Zb L12 rfl ?_))))
 intro _ L13
 refine so L13 rfl (Zp L13 rfl ent_95 (Zbn R2.holds (s := (Xg (Qs (bl s)))) (sep := (⟨#[45]⟩ : ByteArray))    (by rfl)) fun v_2 S2 _ x2 v2 => ?_)
 have R3 := R2.call x2
 obtain rfl := v2
 intro _ L14
 refine so L14 rfl (Zc L14 rfl fun _ L15 => (sn ?_))
 refine XG (fun ac ww => ∃ (S' : Sh) (nm : ByteArray) (dn : ByteArray) (sz : ByteArray), S2.le S' ∧ Zz ac 80 [(2, (.pointer (some ⟨b1, 0, none⟩))), (3, (.int .i64 (0 : Int))), (6, (.bool (decide (ftwo (bl s) = true)))), (4, (.string nm)), (5, (.string dn)), (7, (.string sz))] ∧ Run S w S' [(b1, 36, zF1)] ww ∧ (bl nm = Qs (bl s)) ∧ (bl sz = Zbd (bl s)) ∧ (bl dn = fden (bl s))) ?_ ?_
 ·rintro ac1 _ ⟨_, nm, dn, sz, l3, L16, R4, hnm, hsz, hdn⟩
  have hmi := Zan hnm hsz; have hsb := YN sz; have hdb := YN dn; have hbb := @bitlen_gt1 (XM (bl dn)); have hb1 := @bitlen_one (Nat.gcd (XM (bl sz)) (XM (bl dn)))
  have hszl : sz.size ≤ s.size := by rw [← YN, ← YN s, hsz]; exact fsize_len _
  have hdnl : dn.size ≤ s.size + 1 := by rw [← YN, ← YN s, hdn]; exact fden_len _
  refine wp_seq (Za (so L16 rfl (Zb L16 rfl ?_)))
  intro _ L17
  refine so L17 rfl (YM L17 rfl Tryz.underlying9 fun _ L18 => (so L18 rfl (Zb L18 rfl fun _ L19 => (so L19 rfl (YM L19 rfl Tryz.underlying9 fun _ L20 => ?_)))))
  by_cases t1 : ((sz.size : Nat) : Int) < ((nm.size : Nat) : Int)
  ·refine so L20 rfl (Zf (b := true) (decide_eq_true t1) (fun _ k_ => ZH L20 rfl rfl k_) fun _ L21 => (so L21 rfl (Zc L21 rfl fun _ L22 => ?_)))
   have L23 := (L22.kp [2, 3, 6, 5, 7, 8] rfl); clear L22
   refine sn (wp_seq (wp_seq (Za (so L23 rfl (Zb L23 rfl ?_)))))
   intro _ L24
   refine so L24 rfl (Zp L24 rfl ent_96 (QU R4.holds (s := sz)    (by omega)) fun v_3 S4 _ x3 v3 => ?_)
   have R5 := R4.call x3
   rcases v3 with ⟨t2, rfl⟩ | ⟨t3, rfl⟩
   ·intro _ L25
    refine so L25 rfl (XE L25 rfl rfl fun _ L26 => (so L26 rfl (Zb L26 rfl fun _ L27 => (Zr L27 rfl rfl rfl rfl rfl (Zb L27 rfl fun _ L28 => (Zr L28 rfl rfl rfl rfl rfl (Zp L28 rfl ent_96 (QU R5.holds (s := dn)    (by omega)) fun v_4 S5 _ x4 v4 => ?_)))))))
    have R6 := R5.call x4
    rcases v4 with ⟨t4, rfl⟩ | ⟨t5, rfl⟩
    ·intro _ L29
     refine Zr L29 rfl rfl rfl rfl rfl (XE L29 rfl rfl fun _ L30 => (so L30 rfl (Zj L30 rfl rfl fun _ L31 => (so L31 rfl (Zb L31 rfl fun _ L32 => (Zr L32 rfl rfl rfl rfl rfl (Zb L32 rfl fun _ L33 => (Zr L33 rfl rfl rfl rfl rfl (Zb L33 rfl fun _ L34 => (Zr L34 rfl rfl rfl rfl rfl (Zb L34 rfl fun _ L35 => ?_)))))))))))
     by_cases t6 : sz = (⟨#[48]⟩ : ByteArray)
     ·refine Zr L35 rfl rfl rfl rfl rfl (Zf (b := true) (decide_eq_true t6) (fun _ k_ => Xm L35 rfl rfl k_) fun _ L36 => (Zr L36 rfl rfl rfl rfl rfl (Zj L36 rfl rfl fun _ L37 => (so L37 rfl (Zj L37 rfl rfl fun _ L38 => ?_)))))
      have L39 := (L38.kp [2, 3, 6, 5, 7, 8, 42] rfl); clear L38
      refine sn (Zs L39 rfl rfl (wp_seq (Za ?_)))
      have h1 : Fs S5 zF1 [0] (0) := Fs.zero _ _
      refine so L39 rfl (ZD (cs := zF1) L39 YK Xo .nil (by rfl) fun _ L40 => (Zx L40 rfl rfl (Zi L40 rfl rfl R6 Ya h1.len rfl h1.ones fun _ R7 _ L41 => (so L41 rfl (Zc L41 rfl fun _ L42 => (sn (wp_ret ((ZE (Zv (rs := Tryz.f32.results.toList) L42 rfl (Res.aggW rfl Xd Ya (R7.has (List.Mem.head _)) h1.len (.tmp rfl Res.nil)) ?_))))))))))
      obtain ⟨her, hvl⟩ := Zb9 (l := bl s) (by unfold fbad; rw [← hsz, ← hdn]; first | exact Or.inl (by assumption) | exact Or.inr (Or.inl (by assumption)) | exact Or.inr (Or.inr ⟨hmi.1 (by assumption), str48.1 (by assumption)⟩))
      exact ⟨_, _, rfl, R7.ext, ⟨_, (by rw [her]; rfl), (h1.toR (by rw [hvl]) (by exact YT _))⟩⟩
     ·refine Zr L35 rfl rfl rfl rfl rfl (Zf (b := false) (decide_eq_false t6) (fun _ k_ => Xm L35 rfl rfl k_) fun _ L43 => (Zr L43 rfl rfl rfl rfl rfl (Zj L43 rfl rfl fun _ L44 => (so L44 rfl (Zj L44 rfl rfl fun _ L45 => ?_)))))
      have L46 := (L45.kp [2, 3, 6, 5, 7, 8, 42] rfl); clear L45
      refine sn (Zn L46 rfl rfl (wp_skip ((Ze (wp_seq ?_)))))
      have hnb : ¬ fbad (bl s) := by (unfold fbad; rw [← hsz, ← hdn]; first | exact fun q => q.elim (fun q => q (by assumption)) (fun q => q.elim (fun q => q (by assumption)) (fun q => absurd (hmi.2 q.1) (by assumption))) | exact fun q => q.elim (fun q => q (by assumption)) (fun q => q.elim (fun q => q (by assumption)) (fun q => absurd (str48.2 q.2) (by assumption))))
      refine Za (so L46 rfl (Zb L46 rfl ?_))
      intro _ L47
      refine so L47 rfl (Zp L47 rfl ent_97 (QD R6.holds (s := sz)    (by omega)) fun v_5 _ _ x5 v5 => ?_)
      have R8 := R6.call x5
      rcases v5 with ⟨t7, c1, rfl, h2⟩ | ⟨t8, c2, rfl, h3⟩ | ⟨t9, c3, rfl, h4⟩
      ·exact absurd t7 (not_not_intro t2)
      ·intro _ L48
       refine so L48 rfl (Zb L48 rfl fun _ L49 => (so L49 rfl (Zh L49 rfl rfl fun _ L50 => (so L50 rfl (Zh L50 rfl rfl fun _ L51 => (so L51 rfl (ZM (cs := zN1) ZN R8 rfl fun b2 _ R9 _ L52 => (Zx L52 rfl rfl (Zi L52 rfl rfl R9 Zk h3.len rfl h3.ones fun _ R10 _ L53 => (so L53 rfl (Zc L53 rfl fun _ L54 => ?_)))))))))))
       have L55 := (L54.kp [2, 3, 6, 5, 8, 9, 10] rfl); clear L54
       refine sn (wp_seq (Za (so L55 rfl (Zb L55 rfl ?_))))
       intro _ L56
       refine so L56 rfl (Zp L56 rfl ent_97 (QD R10.holds (s := dn)    (by omega)) fun v_6 S7 _ x6 v6 => ?_)
       have R11 := R10.call x6
       rcases v6 with ⟨t10, c4, rfl, h5⟩ | ⟨t11, c5, rfl, h6⟩ | ⟨t12, c6, rfl, h7⟩
       ·exact absurd t10 (not_not_intro t4)
       ·intro _ L57
        refine so L57 rfl (Zb L57 rfl fun _ L58 => (so L58 rfl (Zh L58 rfl rfl fun _ L59 => (so L59 rfl (Zh L59 rfl rfl fun _ L60 => (so L60 rfl (ZM (cs := zN1) ZN R11 rfl fun b3 _ R12 _ L61 => (Zx L61 rfl rfl (Zi L61 rfl rfl R12 Zk h6.len rfl h6.ones fun _ R13 _ L62 => (so L62 rfl (Zc L62 rfl fun _ L63 => ?_)))))))))))
        have L64 := (L63.kp [2, 3, 6, 8, 9, 10, 11, 12] rfl); clear L63
        refine sn (wp_seq (wp_seq (Za (so L64 rfl (Zb L64 rfl ?_)))))
        intro _ L65
        refine so L65 rfl (Zf (b := true) (by decide) (fun _ k_ => Yj L65 rfl rfl k_) fun _ L66 => (so L66 rfl (Zb L66 rfl fun _ L67 => (Zm L67 rfl rfl rfl rfl rfl rfl fun _ L68 => (Zm L68 rfl rfl rfl rfl rfl rfl fun _ L69 => (so L69 rfl (Zj L69 rfl rfl fun _ L70 => ?_)))))))
        have L71 := (L70.kp [2, 3, 6, 8, 9, 11, 59] rfl); clear L70
        refine sn (Zs L71 rfl rfl (wp_seq (Za ?_)))
        have h8 : Fs S7 zF1 [0] (0) := Fs.zero _ _
        refine so L71 rfl (ZD (cs := zF1) L71 YK Xo .nil (by rfl) fun _ L72 => (Zx L72 rfl rfl (Zi L72 rfl rfl (YH R13) Ya h8.len rfl h8.ones fun _ R14 _ L73 => (so L73 rfl (Zc L73 rfl fun _ L74 => (sn (wp_ret ((ZE (Zv (rs := Tryz.f32.results.toList) L74 rfl (Res.aggW rfl Xd Ya (R14.has (List.Mem.head _)) h8.len (.tmp rfl Res.nil)) ?_))))))))))
        obtain ⟨her, hvl⟩ := QG hnb (by unfold XN; rw [← hsz, ← hdn]; omega)
        exact ⟨_, _, rfl, R14.ext, ⟨_, (by rw [her]; rfl), (h8.toR (by rw [hvl]) (by exact YT _))⟩⟩
       ·intro _ L75
        refine so L75 rfl (Zb L75 rfl fun _ L76 => (so L76 rfl (Zh L76 rfl rfl fun _ L77 => (so L77 rfl (Zh L77 rfl rfl fun _ L78 => (so L78 rfl (ZM (cs := zN1) ZN R11 rfl fun b4 _ R15 _ L79 => (Zx L79 rfl rfl (Zi L79 rfl rfl R15 Zk h7.len rfl h7.ones fun _ R16 _ L80 => (so L80 rfl (Zc L80 rfl fun _ L81 => ?_)))))))))))
        have L82 := (L81.kp [2, 3, 6, 8, 9, 10, 11, 12] rfl); clear L81
        refine sn (wp_seq (wp_seq (Za (so L82 rfl (Zb L82 rfl ?_)))))
        intro _ L83
        refine so L83 rfl (Zf (b := true) (by decide) (fun _ k_ => Yj L83 rfl rfl k_) fun _ L84 => (so L84 rfl (Zb L84 rfl fun _ L85 => (Zm L85 rfl rfl rfl rfl rfl rfl fun _ L86 => (Zm L86 rfl rfl rfl rfl rfl rfl fun _ L87 => (so L87 rfl (Zj L87 rfl rfl fun _ L88 => ?_)))))))
        have L89 := (L88.kp [2, 3, 6, 8, 9, 11, 59] rfl); clear L88
        refine sn (Zs L89 rfl rfl (wp_seq (Za ?_)))
        have h9 : Fs S7 zF1 [0] (0) := Fs.zero _ _
        refine so L89 rfl (ZD (cs := zF1) L89 YK Xo .nil (by rfl) fun _ L90 => (Zx L90 rfl rfl (Zi L90 rfl rfl (YH R16) Ya h9.len rfl h9.ones fun _ R17 _ L91 => (so L91 rfl (Zc L91 rfl fun _ L92 => (sn (wp_ret ((ZE (Zv (rs := Tryz.f32.results.toList) L92 rfl (Res.aggW rfl Xd Ya (R17.has (List.Mem.head _)) h9.len (.tmp rfl Res.nil)) ?_))))))))))
        obtain ⟨her, hvl⟩ := QG hnb (by unfold XN; rw [← hsz, ← hdn]; omega)
        exact ⟨_, _, rfl, R17.ext, ⟨_, (by rw [her]; rfl), (h9.toR (by rw [hvl]) (by exact YT _))⟩⟩
      ·intro _ L93
       refine so L93 rfl (Zb L93 rfl fun _ L94 => (so L94 rfl (Zh L94 rfl rfl fun _ L95 => (so L95 rfl (Zh L95 rfl rfl fun _ L96 => (so L96 rfl (ZM (cs := zN1) ZN R8 rfl fun b5 _ R18 _ L97 => (Zx L97 rfl rfl (Zi L97 rfl rfl R18 Zk h4.len rfl h4.ones fun _ R19 _ L98 => (so L98 rfl (Zc L98 rfl fun _ L99 => ?_)))))))))))
       have L100 := (L99.kp [2, 3, 6, 5, 8, 9, 10] rfl); clear L99
       refine sn (wp_seq (Za (so L100 rfl (Zb L100 rfl ?_))))
       intro _ L101
       refine so L101 rfl (Zp L101 rfl ent_97 (QD R19.holds (s := dn)    (by omega)) fun v_7 S8 _ x7 v7 => ?_)
       have R20 := R19.call x7; have l8 := x7.le
       rcases v7 with ⟨t13, c7, rfl, h10⟩ | ⟨t14, c8, rfl, h11⟩ | ⟨t15, c9, rfl, h12⟩
       ·exact absurd t13 (not_not_intro t4)
       ·intro _ L102
        refine so L102 rfl (Zb L102 rfl fun _ L103 => (so L103 rfl (Zh L103 rfl rfl fun _ L104 => (so L104 rfl (Zh L104 rfl rfl fun _ L105 => (so L105 rfl (ZM (cs := zN1) ZN R20 rfl fun b6 _ R21 _ L106 => (Zx L106 rfl rfl (Zi L106 rfl rfl R21 Zk h11.len rfl h11.ones fun _ R22 _ L107 => (so L107 rfl (Zc L107 rfl fun _ L108 => ?_)))))))))))
        have L109 := (L108.kp [2, 3, 6, 8, 9, 10, 11, 12] rfl); clear L108
        refine sn (wp_seq (wp_seq (Za (so L109 rfl (Zb L109 rfl ?_)))))
        intro _ L110
        refine so L110 rfl (Zf (b := false) (by decide) (fun _ k_ => Yj L110 rfl rfl k_) fun _ L111 => (so L111 rfl (Zb L111 rfl fun _ L112 => (Zr L112 rfl rfl rfl rfl rfl (Zb L112 rfl fun _ L113 => (Zr L113 rfl rfl rfl rfl rfl (Zf (b := true) (by decide) (fun _ k_ => Yj L113 rfl rfl k_) fun _ L114 => (so L114 rfl (Zj L114 rfl rfl fun _ L115 => ?_)))))))))
        have L116 := (L115.kp [2, 3, 6, 8, 9, 11, 59] rfl); clear L115
        refine sn (Zs L116 rfl rfl (wp_seq (Za ?_)))
        have h13 : Fs S8 zF1 [0] (0) := Fs.zero _ _
        refine so L116 rfl (ZD (cs := zF1) L116 YK Xo .nil (by rfl) fun _ L117 => (Zx L117 rfl rfl (Zi L117 rfl rfl (YH R22) Ya h13.len rfl h13.ones fun _ R23 _ L118 => (so L118 rfl (Zc L118 rfl fun _ L119 => (sn (wp_ret ((ZE (Zv (rs := Tryz.f32.results.toList) L119 rfl (Res.aggW rfl Xd Ya (R23.has (List.Mem.head _)) h13.len (.tmp rfl Res.nil)) ?_))))))))))
        obtain ⟨her, hvl⟩ := QG hnb (by unfold XN; rw [← hsz, ← hdn]; omega)
        exact ⟨_, _, rfl, R23.ext, ⟨_, (by rw [her]; rfl), (h13.toR (by rw [hvl]) (by exact YT _))⟩⟩
       ·intro _ L120
        refine so L120 rfl (Zb L120 rfl fun _ L121 => (so L121 rfl (Zh L121 rfl rfl fun _ L122 => (so L122 rfl (Zh L122 rfl rfl fun _ L123 => (so L123 rfl (ZM (cs := zN1) ZN R20 rfl fun b7 _ R24 _ L124 => (Zx L124 rfl rfl (Zi L124 rfl rfl R24 Zk h12.len rfl h12.ones fun _ R25 _ L125 => (so L125 rfl (Zc L125 rfl fun _ L126 => ?_)))))))))))
        have L127 := (L126.kp [2, 3, 6, 8, 9, 10, 11, 12] rfl); clear L126
        refine sn (wp_seq (wp_seq (Za (so L127 rfl (Zb L127 rfl ?_)))))
        intro _ L128
        refine so L128 rfl (Zf (b := false) (by decide) (fun _ k_ => Yj L128 rfl rfl k_) fun _ L129 => (so L129 rfl (Zb L129 rfl fun _ L130 => (Zr L130 rfl rfl rfl rfl rfl (Zb L130 rfl fun _ L131 => (Zr L131 rfl rfl rfl rfl rfl (Zf (b := false) (by decide) (fun _ k_ => Yj L131 rfl rfl k_) fun _ L132 => (so L132 rfl (Zj L132 rfl rfl fun _ L133 => ?_)))))))))
        have L134 := (L133.kp [2, 3, 6, 8, 9, 11, 59] rfl); clear L133
        refine sn (Zn L134 rfl rfl (wp_skip ((Ze (wp_seq (wp_seq ?_))))))
        by_cases t16 : ftwo (bl s) = true
        ·have L135 := L134; rw [decide_eq_true t16] at L135
         have hnl : ¬ XN (bl s) := by (unfold XN; rw [← hsz, ← hdn]; omega)
         refine Za (so L135 rfl (Zb L135 rfl ?_))
         intro _ L136
         refine so L136 rfl (Zb L136 rfl fun _ L137 => (Zr L137 rfl rfl rfl rfl rfl (Zt L137 rfl ZJ Zk (R25.has (List.Mem.head _)) h12.len fun _ L138 => (Zr L138 rfl rfl rfl rfl rfl (Zp L138 rfl Zao (Yt R25.holds    h12 ) fun v_8 S9 _ x8 v8 => ?_)))))
         have R26 := R25.call x8; have l9 := x8.le
         obtain rfl := v8
         intro _ L139
         by_cases t17 : ((ZF (XM (bl dn)) : Nat) : Int) < (2 : Int)
         ·refine Zr L139 rfl rfl rfl rfl rfl (Zf (b := true) (decide_eq_true t17) (fun _ k_ => ZH L139 rfl rfl k_) fun _ L140 => (Zr L140 rfl rfl rfl rfl rfl (Zb L140 rfl fun _ L141 => (Zm L141 rfl rfl rfl rfl rfl rfl fun _ L142 => (Zm L142 rfl rfl rfl rfl rfl rfl fun _ L143 => (Zm L143 rfl rfl rfl rfl rfl rfl fun _ L144 => (Zm L144 rfl rfl rfl rfl rfl rfl fun _ L145 => (Zm L145 rfl rfl rfl rfl rfl rfl fun _ L146 => ?_))))))))
          refine Zr L146 rfl rfl rfl rfl rfl (Zj L146 rfl rfl fun _ L147 => (so L147 rfl (Zj L147 rfl rfl fun _ L148 => ?_)))
          have L149 := (L148.kp [2, 3, 8, 9, 11, 73] rfl); clear L148
          refine sn (Zs L149 rfl rfl (wp_seq (Za ?_)))
          have h14 : Fs S9 zF1 [0] (0) := Fs.zero _ _
          refine so L149 rfl (ZD (cs := zF1) L149 YK Xo .nil (by rfl) fun _ L150 => (Zx L150 rfl rfl (Zi L150 rfl rfl (YH R26) Ya h14.len rfl h14.ones fun _ R27 _ L151 => (so L151 rfl (Zc L151 rfl fun _ L152 => (sn (wp_ret ((ZE (Zv (rs := Tryz.f32.results.toList) L152 rfl (Res.aggW rfl Xd Ya (R27.has (List.Mem.head _)) h14.len (.tmp rfl Res.nil)) ?_))))))))))
          obtain ⟨her, hvl⟩ := ferr_red hnb hnl (by unfold fred; rw [← hsz, ← hdn]; exact ⟨by assumption, by omega⟩)
          exact ⟨_, _, rfl, R27.ext, ⟨_, (by rw [her]; rfl), (h14.toR (by rw [hvl]) (by exact YT _))⟩⟩
         ·refine Zr L139 rfl rfl rfl rfl rfl (Zf (b := false) (decide_eq_false t17) (fun _ k_ => ZH L139 rfl rfl k_) fun _ L153 => (Zr L153 rfl rfl rfl rfl rfl (Zb L153 rfl fun _ L154 => (Zr L154 rfl rfl rfl rfl rfl (Zt L154 rfl ZJ Zk (R26.has (List.Mem.tail _ (List.Mem.head _))) h4.len fun _ L155 => (Zr L155 rfl rfl rfl rfl rfl (Zt L155 rfl ZJ Zk (R26.has (List.Mem.head _)) h12.len fun _ L156 => (Zr L156 rfl rfl rfl rfl rfl (Zp L156 rfl ent_79 (nat_Gcd R26.holds    (h4.up (l8.trans l9)) (h12.up l9) (by omega)) fun v_9 _ _ x9 v9 => ?_)))))))))
          have R28 := R26.call x9; have l10 := x9.le
          obtain ⟨c10, rfl, h15⟩ := v9
          intro _ L157
          refine Zr L157 rfl rfl rfl rfl rfl (Zp L157 rfl Zao (Yt R28.holds    h15 ) fun v_10 S11 _ x10 v10 => ?_)
          have R29 := R28.call x10; have l11 := x10.le
          obtain rfl := v10
          intro _ L158
          by_cases t18 : ¬ ((ZF (Nat.gcd (XM (bl sz)) (XM (bl dn))) : Nat) : Int) = (1 : Int)
          ·refine Zr L158 rfl rfl rfl rfl rfl (Zf (b := true) (decide_eq_true t18) (fun _ k_ => Yj L158 rfl rfl k_) fun _ L159 => (Zr L159 rfl rfl rfl rfl rfl (Zj L159 rfl rfl fun _ L160 => (so L160 rfl (Zj L160 rfl rfl fun _ L161 => ?_)))))
           have L162 := (L161.kp [2, 3, 8, 9, 11, 73] rfl); clear L161
           refine sn (Zs L162 rfl rfl (wp_seq (Za ?_)))
           have h16 : Fs S11 zF1 [0] (0) := Fs.zero _ _
           refine so L162 rfl (ZD (cs := zF1) L162 YK Xo .nil (by rfl) fun _ L163 => (Zx L163 rfl rfl (Zi L163 rfl rfl (YH R29) Ya h16.len rfl h16.ones fun _ R30 _ L164 => (so L164 rfl (Zc L164 rfl fun _ L165 => (sn (wp_ret ((ZE (Zv (rs := Tryz.f32.results.toList) L165 rfl (Res.aggW rfl Xd Ya (R30.has (List.Mem.head _)) h16.len (.tmp rfl Res.nil)) ?_))))))))))
           obtain ⟨her, hvl⟩ := ferr_red hnb hnl (by unfold fred; rw [← hsz, ← hdn]; exact ⟨by assumption, by omega⟩)
           exact ⟨_, _, rfl, R30.ext, ⟨_, (by rw [her]; rfl), (h16.toR (by rw [hvl]) (by exact YT _))⟩⟩
          ·refine Zr L158 rfl rfl rfl rfl rfl (Zf (b := false) (decide_eq_false t18) (fun _ k_ => Yj L158 rfl rfl k_) fun _ L166 => (Zr L166 rfl rfl rfl rfl rfl (Zj L166 rfl rfl fun _ L167 => (so L167 rfl (Zj L167 rfl rfl fun _ L168 => ?_)))))
           have L169 := (L168.kp [2, 3, 8, 9, 11, 73] rfl); clear L168
           refine sn (Zn L169 rfl rfl (wp_skip ((Ze (wp_seq ?_)))))
           have hnr : ¬ fred (bl s) := by (unfold fred; rw [← hsz, ← hdn]; intro q; first | exact absurd q.1 (by assumption) | exact q.2.elim (fun q => by omega) (fun q => by omega))
           have hdp : 0 < XM (bl dn) := by rw [hdn]; exact Nat.pos_of_ne_zero (Zca hnb hnr)
           have hmn := @Zan s nm sz hnm hsz
           have L170 := (L169.kp [2, 3, 8, 9, 11] rfl)
           refine Zy (E0 := []) (H0 := [(b7, 32, c9), (b5, 32, c3), (b1, 36, zF1)]) (n := 80) mixed 4 [] (fun k =>  0) (Zaf [
             .is (.bool true),
             .is (.agg (c3 : List Value).toArray),
             (kvIn (sI true (XM (bl sz))) (900)),
             .is (.agg (c9 : List Value).toArray)]) L170 R29 (by simp) (by simp) (by rfl) (by rfl) (by simp) (ZU ?_) ?_
           ·refine (And.intro ?_ (And.intro ?_ (And.intro ?_ (And.intro ?_ trivial))))
            ·exact Zd rfl (fun _ _ _ _ _ A1 => (Zb A1.live rfl (A1.same  rfl)))
            ·exact Zd rfl (fun _ _ _ _ _ A2 => (Zt A2.live rfl ZJ Zk (A2.run.has (List.mem_append_right _ (List.Mem.tail _ (List.Mem.head _)))) h4.len (A2.same  rfl)))
            ·refine Zd rfl (fun _ _ _ _ _ A3 => ?_)
             obtain ⟨_, e1, rfl⟩ := A3.known 0 rfl
             obtain ⟨_, e2, rfl⟩ := A3.known 1 rfl
             exact Zp ((A3.live.add e1).add e2) rfl ent_82 (Qa A3.run.holds (mi := true)   (h4.up (l8.trans (l9.trans (l10.trans (l11.trans A3.le))))) ) fun v_11 _ _ x11 v11 => (A3.post x11.le (A3.run.call x11) v11)
            ·exact Zd rfl (fun _ _ _ _ _ A4 => (Zt A4.live rfl ZJ Zk (A4.run.has (List.mem_append_right _ (List.Mem.head _))) h12.len (A4.same  rfl)))
           ·intro S17 _ _ w36 l13 E1 R32 n1 L175 K1
            obtain ⟨_, e3, c11, rfl, h17⟩ := K1 2 (by decide)
            have L176 := L175.add e3; clear L175
            obtain ⟨_, e4, rfl⟩ := K1 3 (by decide)
            have L177 := L176.add e4; clear L176
            have R33 : Run _ _ S17 [(b7, 32, c9), (b5, 32, c3), (b1, 36, zF1)] w36 := Yc R32 n1 [] (by simp) (by simp)
            refine so L177 rfl (Zp L177 rfl ent_99 (frac_low R33.holds    h17 (h12.up (l9.trans (l10.trans (l11.trans l13)))) (hdp) (by omega)) fun v_12 _ _ x12 v12 => ?_)
            have R34 := R33.call x12
            obtain ⟨c12, rfl, h18⟩ := v12
            intro _ L178
            refine Zx L178 rfl rfl (Zi L178 rfl rfl (YH R34) Ya h18.len rfl h18.ones fun _ R35 _ L179 => (so L179 rfl (Zc L179 rfl fun _ L180 => (sn (wp_ret ((Zv (rs := Tryz.f32.results.toList) (L180.kp [2, 3] rfl) rfl (Res.aggW rfl Xd Ya (R35.has (List.Mem.head _)) h18.len (.tmp rfl Res.nil)) ?_)))))))
            obtain ⟨her, hvl⟩ := ferr_ok hnb hnl hnr
            exact ⟨_, _, rfl, R35.ext, ⟨_, (by rw [her]; rfl), (h18.toR (by rw [hvl, ← hsz, ← hdn]; first | rw [show fmin (bl s) = true from hmi.1 (by assumption)] | rw [show fmin (bl s) = false from (by cases q : fmin (bl s); rfl; exact absurd (hmi.2 q) (by assumption))]) (by exact YT _))⟩⟩
        ·have L182 := L134; rw [decide_eq_false t16] at L182
         have hnl : ¬ XN (bl s) := by (unfold XN; rw [← hsz, ← hdn]; omega)
         refine Za (so L182 rfl (Zb L182 rfl ?_))
         intro _ L183
         refine so L183 rfl (Zb L183 rfl fun _ L184 => (Zm L184 rfl rfl rfl rfl rfl rfl fun _ L185 => (Zm L185 rfl rfl rfl rfl rfl rfl fun _ L186 => (Zm L186 rfl rfl rfl rfl rfl rfl fun _ L187 => (Zm L187 rfl rfl rfl rfl rfl rfl fun _ L188 => (Yd L188 rfl rfl rfl rfl rfl fun _ L189 => (Yd L189 rfl rfl rfl rfl rfl fun _ L190 => ?_)))))))
         refine Yd L190 rfl rfl rfl rfl rfl ?_
         intro _ L191
         refine Yd L191 rfl rfl rfl rfl rfl ?_
         intro _ L192
         refine Yd L192 rfl rfl rfl rfl rfl ?_
         intro _ L193
         refine Zm L193 rfl rfl rfl rfl rfl rfl fun _ L194 => (so L194 rfl (Zj L194 rfl rfl fun _ L195 => ?_))
         have L196 := (L195.kp [2, 3, 8, 9, 11, 73] rfl); clear L195
         refine sn (Zn L196 rfl rfl (wp_skip ((Ze (wp_seq ?_)))))
         have hnr : ¬ fred (bl s) := by (unfold fred; rw [← hsz, ← hdn]; intro q; first | exact absurd q.1 (by assumption) | exact q.2.elim (fun q => by omega) (fun q => by omega))
         have hdp : 0 < XM (bl dn) := by rw [hdn]; exact Nat.pos_of_ne_zero (Zca hnb hnr)
         have hmn := @Zan s nm sz hnm hsz
         have L197 := (L196.kp [2, 3, 8, 9, 11] rfl)
         refine Zy (E0 := []) (H0 := [(b7, 32, c9), (b5, 32, c3), (b1, 36, zF1)]) (n := 80) mixed 4 [] (fun k =>  0) (Zaf [
           .is (.bool true),
           .is (.agg (c3 : List Value).toArray),
           (kvIn (sI true (XM (bl sz))) (900)),
           .is (.agg (c9 : List Value).toArray)]) L197 R25 (by simp) (by simp) (by rfl) (by rfl) (by simp) (ZU ?_) ?_
         ·refine (And.intro ?_ (And.intro ?_ (And.intro ?_ (And.intro ?_ trivial))))
          ·exact Zd rfl (fun _ _ _ _ _ A5 => (Zb A5.live rfl (A5.same  rfl)))
          ·exact Zd rfl (fun _ _ _ _ _ A6 => (Zt A6.live rfl ZJ Zk (A6.run.has (List.mem_append_right _ (List.Mem.tail _ (List.Mem.head _)))) h4.len (A6.same  rfl)))
          ·refine Zd rfl (fun _ _ _ _ _ A7 => ?_)
           obtain ⟨_, e5, rfl⟩ := A7.known 0 rfl
           obtain ⟨_, e6, rfl⟩ := A7.known 1 rfl
           exact Zp ((A7.live.add e5).add e6) rfl ent_82 (Qa A7.run.holds (mi := true)   (h4.up (l8.trans A7.le)) ) fun v_13 _ _ x13 v13 => (A7.post x13.le (A7.run.call x13) v13)
          ·exact Zd rfl (fun _ _ _ _ _ A8 => (Zt A8.live rfl ZJ Zk (A8.run.has (List.mem_append_right _ (List.Mem.head _))) h12.len (A8.same  rfl)))
         ·intro S24 _ _ w44 l16 E2 R37 n2 L202 K2
          obtain ⟨_, e7, c13, rfl, h19⟩ := K2 2 (by decide)
          have L203 := L202.add e7; clear L202
          obtain ⟨_, e8, rfl⟩ := K2 3 (by decide)
          have L204 := L203.add e8; clear L203
          have R38 : Run _ _ S24 [(b7, 32, c9), (b5, 32, c3), (b1, 36, zF1)] w44 := Yc R37 n2 [] (by simp) (by simp)
          refine so L204 rfl (Zp L204 rfl ent_99 (frac_low R38.holds    h19 (h12.up l16) (hdp) (by omega)) fun v_14 _ _ x14 v14 => ?_)
          have R39 := R38.call x14
          obtain ⟨c14, rfl, h20⟩ := v14
          intro _ L205
          refine Zx L205 rfl rfl (Zi L205 rfl rfl (YH R39) Ya h20.len rfl h20.ones fun _ R40 _ L206 => (so L206 rfl (Zc L206 rfl fun _ L207 => (sn (wp_ret ((Zv (rs := Tryz.f32.results.toList) (L207.kp [2, 3] rfl) rfl (Res.aggW rfl Xd Ya (R40.has (List.Mem.head _)) h20.len (.tmp rfl Res.nil)) ?_)))))))
          obtain ⟨her, hvl⟩ := ferr_ok hnb hnl hnr
          exact ⟨_, _, rfl, R40.ext, ⟨_, (by rw [her]; rfl), (h20.toR (by rw [hvl, ← hsz, ← hdn]; first | rw [show fmin (bl s) = true from hmi.1 (by assumption)] | rw [show fmin (bl s) = false from (by cases q : fmin (bl s); rfl; exact absurd (hmi.2 q) (by assumption))]) (by exact YT _))⟩⟩
    ·intro _ L209
     refine Zr L209 rfl rfl rfl rfl rfl (XE L209 rfl rfl fun _ L210 => (so L210 rfl (Zj L210 rfl rfl fun _ L211 => (so L211 rfl (Zb L211 rfl fun _ L212 => (Zm L212 rfl rfl rfl rfl rfl rfl fun _ L213 => (Zm L213 rfl rfl rfl rfl rfl rfl fun _ L214 => (Yd L214 rfl rfl rfl rfl rfl fun _ L215 => (Yd L215 rfl rfl rfl rfl rfl fun _ L216 => ?_)))))))))
     refine Zm L216 rfl rfl rfl rfl rfl rfl fun _ L217 => (so L217 rfl (Zj L217 rfl rfl fun _ L218 => ?_))
     have L219 := (L218.kp [2, 3, 6, 5, 7, 8, 42] rfl); clear L218
     refine sn (Zs L219 rfl rfl (wp_seq (Za ?_)))
     have h21 : Fs S5 zF1 [0] (0) := Fs.zero _ _
     refine so L219 rfl (ZD (cs := zF1) L219 YK Xo .nil (by rfl) fun _ L220 => (Zx L220 rfl rfl (Zi L220 rfl rfl R6 Ya h21.len rfl h21.ones fun _ R41 _ L221 => (so L221 rfl (Zc L221 rfl fun _ L222 => (sn (wp_ret ((ZE (Zv (rs := Tryz.f32.results.toList) L222 rfl (Res.aggW rfl Xd Ya (R41.has (List.Mem.head _)) h21.len (.tmp rfl Res.nil)) ?_))))))))))
     obtain ⟨her, hvl⟩ := Zb9 (l := bl s) (by unfold fbad; rw [← hsz, ← hdn]; first | exact Or.inl (by assumption) | exact Or.inr (Or.inl (by assumption)) | exact Or.inr (Or.inr ⟨hmi.1 (by assumption), str48.1 (by assumption)⟩))
     exact ⟨_, _, rfl, R41.ext, ⟨_, (by rw [her]; rfl), (h21.toR (by rw [hvl]) (by exact YT _))⟩⟩
   ·intro _ L223
    refine so L223 rfl (XE L223 rfl rfl fun _ L224 => (so L224 rfl (Zb L224 rfl fun _ L225 => (Zm L225 rfl rfl rfl rfl rfl rfl fun _ L226 => (Zm L226 rfl rfl rfl rfl rfl rfl fun _ L227 => (Zm L227 rfl rfl rfl rfl rfl rfl fun _ L228 => (so L228 rfl (Zj L228 rfl rfl fun _ L229 => (so L229 rfl (Zb L229 rfl fun _ L230 => ?_))))))))))
    refine Zm L230 rfl rfl rfl rfl rfl rfl fun _ L231 => (Zm L231 rfl rfl rfl rfl rfl rfl fun _ L232 => (Yd L232 rfl rfl rfl rfl rfl fun _ L233 => (Yd L233 rfl rfl rfl rfl rfl fun _ L234 => (Zm L234 rfl rfl rfl rfl rfl rfl fun _ L235 => (so L235 rfl (Zj L235 rfl rfl fun _ L236 => ?_))))))
    have L237 := (L236.kp [2, 3, 6, 5, 7, 8, 42] rfl); clear L236
    refine sn (Zs L237 rfl rfl (wp_seq (Za ?_)))
    have h22 : Fs S4 zF1 [0] (0) := Fs.zero _ _
    refine so L237 rfl (ZD (cs := zF1) L237 YK Xo .nil (by rfl) fun _ L238 => (Zx L238 rfl rfl (Zi L238 rfl rfl R5 Ya h22.len rfl h22.ones fun _ R42 _ L239 => (so L239 rfl (Zc L239 rfl fun _ L240 => (sn (wp_ret ((ZE (Zv (rs := Tryz.f32.results.toList) L240 rfl (Res.aggW rfl Xd Ya (R42.has (List.Mem.head _)) h22.len (.tmp rfl Res.nil)) ?_))))))))))
    obtain ⟨her, hvl⟩ := Zb9 (l := bl s) (by unfold fbad; rw [← hsz, ← hdn]; first | exact Or.inl (by assumption) | exact Or.inr (Or.inl (by assumption)) | exact Or.inr (Or.inr ⟨hmi.1 (by assumption), str48.1 (by assumption)⟩))
    exact ⟨_, _, rfl, R42.ext, ⟨_, (by rw [her]; rfl), (h22.toR (by rw [hvl]) (by exact YT _))⟩⟩
  ·refine so L20 rfl (Zf (b := false) (decide_eq_false t1) (fun _ k_ => ZH L20 rfl rfl k_) fun _ L241 => (so L241 rfl (Zc L241 rfl fun _ L242 => ?_)))
   have L243 := (L242.kp [2, 3, 6, 5, 7, 8] rfl); clear L242
   refine sn (wp_seq (wp_seq (Za (so L243 rfl (Zb L243 rfl ?_)))))
   intro _ L244
   refine so L244 rfl (Zp L244 rfl ent_96 (QU R4.holds (s := sz)    (by omega)) fun v_15 S26 _ x15 v15 => ?_)
   have R43 := R4.call x15
   rcases v15 with ⟨t19, rfl⟩ | ⟨t20, rfl⟩
   ·intro _ L245
    refine so L245 rfl (XE L245 rfl rfl fun _ L246 => (so L246 rfl (Zb L246 rfl fun _ L247 => (Zr L247 rfl rfl rfl rfl rfl (Zb L247 rfl fun _ L248 => (Zr L248 rfl rfl rfl rfl rfl (Zp L248 rfl ent_96 (QU R43.holds (s := dn)    (by omega)) fun v_16 S27 _ x16 v16 => ?_)))))))
    have R44 := R43.call x16
    rcases v16 with ⟨t21, rfl⟩ | ⟨t22, rfl⟩
    ·intro _ L249
     refine Zr L249 rfl rfl rfl rfl rfl (XE L249 rfl rfl fun _ L250 => (so L250 rfl (Zj L250 rfl rfl fun _ L251 => (so L251 rfl (Zb L251 rfl fun _ L252 => (Zr L252 rfl rfl rfl rfl rfl (Zb L252 rfl fun _ L253 => (Zr L253 rfl rfl rfl rfl rfl (Zb L253 rfl fun _ L254 => (Zm L254 rfl rfl rfl rfl rfl rfl fun _ L255 => (Zm L255 rfl rfl rfl rfl rfl rfl fun _ L256 => ?_)))))))))))
     refine Zr L256 rfl rfl rfl rfl rfl (Zj L256 rfl rfl fun _ L257 => (so L257 rfl (Zj L257 rfl rfl fun _ L258 => ?_)))
     have L259 := (L258.kp [2, 3, 6, 5, 7, 8, 42] rfl); clear L258
     refine sn (Zn L259 rfl rfl (wp_skip ((Ze (wp_seq ?_)))))
     have hnb : ¬ fbad (bl s) := by (unfold fbad; rw [← hsz, ← hdn]; first | exact fun q => q.elim (fun q => q (by assumption)) (fun q => q.elim (fun q => q (by assumption)) (fun q => absurd (hmi.2 q.1) (by assumption))) | exact fun q => q.elim (fun q => q (by assumption)) (fun q => q.elim (fun q => q (by assumption)) (fun q => absurd (str48.2 q.2) (by assumption))))
     refine Za (so L259 rfl (Zb L259 rfl ?_))
     intro _ L260
     refine so L260 rfl (Zp L260 rfl ent_97 (QD R44.holds (s := sz)    (by omega)) fun v_17 _ _ x17 v17 => ?_)
     have R45 := R44.call x17
     rcases v17 with ⟨t23, c15, rfl, h23⟩ | ⟨t24, c16, rfl, h24⟩ | ⟨t25, c17, rfl, h25⟩
     ·exact absurd t23 (not_not_intro t19)
     ·intro _ L261
      refine so L261 rfl (Zb L261 rfl fun _ L262 => (so L262 rfl (Zh L262 rfl rfl fun _ L263 => (so L263 rfl (Zh L263 rfl rfl fun _ L264 => (so L264 rfl (ZM (cs := zN1) ZN R45 rfl fun b8 _ R46 _ L265 => (Zx L265 rfl rfl (Zi L265 rfl rfl R46 Zk h24.len rfl h24.ones fun _ R47 _ L266 => (so L266 rfl (Zc L266 rfl fun _ L267 => ?_)))))))))))
      have L268 := (L267.kp [2, 3, 6, 5, 8, 9, 10] rfl); clear L267
      refine sn (wp_seq (Za (so L268 rfl (Zb L268 rfl ?_))))
      intro _ L269
      refine so L269 rfl (Zp L269 rfl ent_97 (QD R47.holds (s := dn)    (by omega)) fun v_18 S29 _ x18 v18 => ?_)
      have R48 := R47.call x18
      rcases v18 with ⟨t26, c18, rfl, h26⟩ | ⟨t27, c19, rfl, h27⟩ | ⟨t28, c20, rfl, h28⟩
      ·exact absurd t26 (not_not_intro t21)
      ·intro _ L270
       refine so L270 rfl (Zb L270 rfl fun _ L271 => (so L271 rfl (Zh L271 rfl rfl fun _ L272 => (so L272 rfl (Zh L272 rfl rfl fun _ L273 => (so L273 rfl (ZM (cs := zN1) ZN R48 rfl fun b9 _ R49 _ L274 => (Zx L274 rfl rfl (Zi L274 rfl rfl R49 Zk h27.len rfl h27.ones fun _ R50 _ L275 => (so L275 rfl (Zc L275 rfl fun _ L276 => ?_)))))))))))
       have L277 := (L276.kp [2, 3, 6, 8, 9, 10, 11, 12] rfl); clear L276
       refine sn (wp_seq (wp_seq (Za (so L277 rfl (Zb L277 rfl ?_)))))
       intro _ L278
       refine so L278 rfl (Zf (b := true) (by decide) (fun _ k_ => Yj L278 rfl rfl k_) fun _ L279 => (so L279 rfl (Zb L279 rfl fun _ L280 => (Zm L280 rfl rfl rfl rfl rfl rfl fun _ L281 => (Zm L281 rfl rfl rfl rfl rfl rfl fun _ L282 => (so L282 rfl (Zj L282 rfl rfl fun _ L283 => ?_)))))))
       have L284 := (L283.kp [2, 3, 6, 8, 9, 11, 59] rfl); clear L283
       refine sn (Zs L284 rfl rfl (wp_seq (Za ?_)))
       have h29 : Fs S29 zF1 [0] (0) := Fs.zero _ _
       refine so L284 rfl (ZD (cs := zF1) L284 YK Xo .nil (by rfl) fun _ L285 => (Zx L285 rfl rfl (Zi L285 rfl rfl (YH R50) Ya h29.len rfl h29.ones fun _ R51 _ L286 => (so L286 rfl (Zc L286 rfl fun _ L287 => (sn (wp_ret ((ZE (Zv (rs := Tryz.f32.results.toList) L287 rfl (Res.aggW rfl Xd Ya (R51.has (List.Mem.head _)) h29.len (.tmp rfl Res.nil)) ?_))))))))))
       obtain ⟨her, hvl⟩ := QG hnb (by unfold XN; rw [← hsz, ← hdn]; omega)
       exact ⟨_, _, rfl, R51.ext, ⟨_, (by rw [her]; rfl), (h29.toR (by rw [hvl]) (by exact YT _))⟩⟩
      ·intro _ L288
       refine so L288 rfl (Zb L288 rfl fun _ L289 => (so L289 rfl (Zh L289 rfl rfl fun _ L290 => (so L290 rfl (Zh L290 rfl rfl fun _ L291 => (so L291 rfl (ZM (cs := zN1) ZN R48 rfl fun b10 _ R52 _ L292 => (Zx L292 rfl rfl (Zi L292 rfl rfl R52 Zk h28.len rfl h28.ones fun _ R53 _ L293 => (so L293 rfl (Zc L293 rfl fun _ L294 => ?_)))))))))))
       have L295 := (L294.kp [2, 3, 6, 8, 9, 10, 11, 12] rfl); clear L294
       refine sn (wp_seq (wp_seq (Za (so L295 rfl (Zb L295 rfl ?_)))))
       intro _ L296
       refine so L296 rfl (Zf (b := true) (by decide) (fun _ k_ => Yj L296 rfl rfl k_) fun _ L297 => (so L297 rfl (Zb L297 rfl fun _ L298 => (Zm L298 rfl rfl rfl rfl rfl rfl fun _ L299 => (Zm L299 rfl rfl rfl rfl rfl rfl fun _ L300 => (so L300 rfl (Zj L300 rfl rfl fun _ L301 => ?_)))))))
       have L302 := (L301.kp [2, 3, 6, 8, 9, 11, 59] rfl); clear L301
       refine sn (Zs L302 rfl rfl (wp_seq (Za ?_)))
       have h30 : Fs S29 zF1 [0] (0) := Fs.zero _ _
       refine so L302 rfl (ZD (cs := zF1) L302 YK Xo .nil (by rfl) fun _ L303 => (Zx L303 rfl rfl (Zi L303 rfl rfl (YH R53) Ya h30.len rfl h30.ones fun _ R54 _ L304 => (so L304 rfl (Zc L304 rfl fun _ L305 => (sn (wp_ret ((ZE (Zv (rs := Tryz.f32.results.toList) L305 rfl (Res.aggW rfl Xd Ya (R54.has (List.Mem.head _)) h30.len (.tmp rfl Res.nil)) ?_))))))))))
       obtain ⟨her, hvl⟩ := QG hnb (by unfold XN; rw [← hsz, ← hdn]; omega)
       exact ⟨_, _, rfl, R54.ext, ⟨_, (by rw [her]; rfl), (h30.toR (by rw [hvl]) (by exact YT _))⟩⟩
     ·intro _ L306
      refine so L306 rfl (Zb L306 rfl fun _ L307 => (so L307 rfl (Zh L307 rfl rfl fun _ L308 => (so L308 rfl (Zh L308 rfl rfl fun _ L309 => (so L309 rfl (ZM (cs := zN1) ZN R45 rfl fun b11 _ R55 _ L310 => (Zx L310 rfl rfl (Zi L310 rfl rfl R55 Zk h25.len rfl h25.ones fun _ R56 _ L311 => (so L311 rfl (Zc L311 rfl fun _ L312 => ?_)))))))))))
      have L313 := (L312.kp [2, 3, 6, 5, 8, 9, 10] rfl); clear L312
      refine sn (wp_seq (Za (so L313 rfl (Zb L313 rfl ?_))))
      intro _ L314
      refine so L314 rfl (Zp L314 rfl ent_97 (QD R56.holds (s := dn)    (by omega)) fun v_19 S30 _ x19 v19 => ?_)
      have R57 := R56.call x19; have l22 := x19.le
      rcases v19 with ⟨t29, c21, rfl, h31⟩ | ⟨t30, c22, rfl, h32⟩ | ⟨t31, c23, rfl, h33⟩
      ·exact absurd t29 (not_not_intro t21)
      ·intro _ L315
       refine so L315 rfl (Zb L315 rfl fun _ L316 => (so L316 rfl (Zh L316 rfl rfl fun _ L317 => (so L317 rfl (Zh L317 rfl rfl fun _ L318 => (so L318 rfl (ZM (cs := zN1) ZN R57 rfl fun b12 _ R58 _ L319 => (Zx L319 rfl rfl (Zi L319 rfl rfl R58 Zk h32.len rfl h32.ones fun _ R59 _ L320 => (so L320 rfl (Zc L320 rfl fun _ L321 => ?_)))))))))))
       have L322 := (L321.kp [2, 3, 6, 8, 9, 10, 11, 12] rfl); clear L321
       refine sn (wp_seq (wp_seq (Za (so L322 rfl (Zb L322 rfl ?_)))))
       intro _ L323
       refine so L323 rfl (Zf (b := false) (by decide) (fun _ k_ => Yj L323 rfl rfl k_) fun _ L324 => (so L324 rfl (Zb L324 rfl fun _ L325 => (Zr L325 rfl rfl rfl rfl rfl (Zb L325 rfl fun _ L326 => (Zr L326 rfl rfl rfl rfl rfl (Zf (b := true) (by decide) (fun _ k_ => Yj L326 rfl rfl k_) fun _ L327 => (so L327 rfl (Zj L327 rfl rfl fun _ L328 => ?_)))))))))
       have L329 := (L328.kp [2, 3, 6, 8, 9, 11, 59] rfl); clear L328
       refine sn (Zs L329 rfl rfl (wp_seq (Za ?_)))
       have h34 : Fs S30 zF1 [0] (0) := Fs.zero _ _
       refine so L329 rfl (ZD (cs := zF1) L329 YK Xo .nil (by rfl) fun _ L330 => (Zx L330 rfl rfl (Zi L330 rfl rfl (YH R59) Ya h34.len rfl h34.ones fun _ R60 _ L331 => (so L331 rfl (Zc L331 rfl fun _ L332 => (sn (wp_ret ((ZE (Zv (rs := Tryz.f32.results.toList) L332 rfl (Res.aggW rfl Xd Ya (R60.has (List.Mem.head _)) h34.len (.tmp rfl Res.nil)) ?_))))))))))
       obtain ⟨her, hvl⟩ := QG hnb (by unfold XN; rw [← hsz, ← hdn]; omega)
       exact ⟨_, _, rfl, R60.ext, ⟨_, (by rw [her]; rfl), (h34.toR (by rw [hvl]) (by exact YT _))⟩⟩
      ·intro _ L333
       refine so L333 rfl (Zb L333 rfl fun _ L334 => (so L334 rfl (Zh L334 rfl rfl fun _ L335 => (so L335 rfl (Zh L335 rfl rfl fun _ L336 => (so L336 rfl (ZM (cs := zN1) ZN R57 rfl fun b13 _ R61 _ L337 => (Zx L337 rfl rfl (Zi L337 rfl rfl R61 Zk h33.len rfl h33.ones fun _ R62 _ L338 => (so L338 rfl (Zc L338 rfl fun _ L339 => ?_)))))))))))
       have L340 := (L339.kp [2, 3, 6, 8, 9, 10, 11, 12] rfl); clear L339
       refine sn (wp_seq (wp_seq (Za (so L340 rfl (Zb L340 rfl ?_)))))
       intro _ L341
       refine so L341 rfl (Zf (b := false) (by decide) (fun _ k_ => Yj L341 rfl rfl k_) fun _ L342 => (so L342 rfl (Zb L342 rfl fun _ L343 => (Zr L343 rfl rfl rfl rfl rfl (Zb L343 rfl fun _ L344 => (Zr L344 rfl rfl rfl rfl rfl (Zf (b := false) (by decide) (fun _ k_ => Yj L344 rfl rfl k_) fun _ L345 => (so L345 rfl (Zj L345 rfl rfl fun _ L346 => ?_)))))))))
       have L347 := (L346.kp [2, 3, 6, 8, 9, 11, 59] rfl); clear L346
       refine sn (Zn L347 rfl rfl (wp_skip ((Ze (wp_seq (wp_seq ?_))))))
       by_cases t32 : ftwo (bl s) = true
       ·have L348 := L347; rw [decide_eq_true t32] at L348
        have hnl : ¬ XN (bl s) := by (unfold XN; rw [← hsz, ← hdn]; omega)
        refine Za (so L348 rfl (Zb L348 rfl ?_))
        intro _ L349
        refine so L349 rfl (Zb L349 rfl fun _ L350 => (Zr L350 rfl rfl rfl rfl rfl (Zt L350 rfl ZJ Zk (R62.has (List.Mem.head _)) h33.len fun _ L351 => (Zr L351 rfl rfl rfl rfl rfl (Zp L351 rfl Zao (Yt R62.holds    h33 ) fun v_20 S31 _ x20 v20 => ?_)))))
        have R63 := R62.call x20; have l23 := x20.le
        obtain rfl := v20
        intro _ L352
        by_cases t33 : ((ZF (XM (bl dn)) : Nat) : Int) < (2 : Int)
        ·refine Zr L352 rfl rfl rfl rfl rfl (Zf (b := true) (decide_eq_true t33) (fun _ k_ => ZH L352 rfl rfl k_) fun _ L353 => (Zr L353 rfl rfl rfl rfl rfl (Zb L353 rfl fun _ L354 => (Zm L354 rfl rfl rfl rfl rfl rfl fun _ L355 => (Zm L355 rfl rfl rfl rfl rfl rfl fun _ L356 => (Zm L356 rfl rfl rfl rfl rfl rfl fun _ L357 => (Zm L357 rfl rfl rfl rfl rfl rfl fun _ L358 => (Zm L358 rfl rfl rfl rfl rfl rfl fun _ L359 => ?_))))))))
         refine Zr L359 rfl rfl rfl rfl rfl (Zj L359 rfl rfl fun _ L360 => (so L360 rfl (Zj L360 rfl rfl fun _ L361 => ?_)))
         have L362 := (L361.kp [2, 3, 8, 9, 11, 73] rfl); clear L361
         refine sn (Zs L362 rfl rfl (wp_seq (Za ?_)))
         have h35 : Fs S31 zF1 [0] (0) := Fs.zero _ _
         refine so L362 rfl (ZD (cs := zF1) L362 YK Xo .nil (by rfl) fun _ L363 => (Zx L363 rfl rfl (Zi L363 rfl rfl (YH R63) Ya h35.len rfl h35.ones fun _ R64 _ L364 => (so L364 rfl (Zc L364 rfl fun _ L365 => (sn (wp_ret ((ZE (Zv (rs := Tryz.f32.results.toList) L365 rfl (Res.aggW rfl Xd Ya (R64.has (List.Mem.head _)) h35.len (.tmp rfl Res.nil)) ?_))))))))))
         obtain ⟨her, hvl⟩ := ferr_red hnb hnl (by unfold fred; rw [← hsz, ← hdn]; exact ⟨by assumption, by omega⟩)
         exact ⟨_, _, rfl, R64.ext, ⟨_, (by rw [her]; rfl), (h35.toR (by rw [hvl]) (by exact YT _))⟩⟩
        ·refine Zr L352 rfl rfl rfl rfl rfl (Zf (b := false) (decide_eq_false t33) (fun _ k_ => ZH L352 rfl rfl k_) fun _ L366 => (Zr L366 rfl rfl rfl rfl rfl (Zb L366 rfl fun _ L367 => (Zr L367 rfl rfl rfl rfl rfl (Zt L367 rfl ZJ Zk (R63.has (List.Mem.tail _ (List.Mem.head _))) h25.len fun _ L368 => (Zr L368 rfl rfl rfl rfl rfl (Zt L368 rfl ZJ Zk (R63.has (List.Mem.head _)) h33.len fun _ L369 => (Zr L369 rfl rfl rfl rfl rfl (Zp L369 rfl ent_79 (nat_Gcd R63.holds    (h25.up (l22.trans l23)) (h33.up l23) (by omega)) fun v_21 _ _ x21 v21 => ?_)))))))))
         have R65 := R63.call x21; have l24 := x21.le
         obtain ⟨c24, rfl, h36⟩ := v21
         intro _ L370
         refine Zr L370 rfl rfl rfl rfl rfl (Zp L370 rfl Zao (Yt R65.holds    h36 ) fun v_22 S33 _ x22 v22 => ?_)
         have R66 := R65.call x22; have l25 := x22.le
         obtain rfl := v22
         intro _ L371
         by_cases t34 : ¬ ((ZF (Nat.gcd (XM (bl sz)) (XM (bl dn))) : Nat) : Int) = (1 : Int)
         ·refine Zr L371 rfl rfl rfl rfl rfl (Zf (b := true) (decide_eq_true t34) (fun _ k_ => Yj L371 rfl rfl k_) fun _ L372 => (Zr L372 rfl rfl rfl rfl rfl (Zj L372 rfl rfl fun _ L373 => (so L373 rfl (Zj L373 rfl rfl fun _ L374 => ?_)))))
          have L375 := (L374.kp [2, 3, 8, 9, 11, 73] rfl); clear L374
          refine sn (Zs L375 rfl rfl (wp_seq (Za ?_)))
          have h37 : Fs S33 zF1 [0] (0) := Fs.zero _ _
          refine so L375 rfl (ZD (cs := zF1) L375 YK Xo .nil (by rfl) fun _ L376 => (Zx L376 rfl rfl (Zi L376 rfl rfl (YH R66) Ya h37.len rfl h37.ones fun _ R67 _ L377 => (so L377 rfl (Zc L377 rfl fun _ L378 => (sn (wp_ret ((ZE (Zv (rs := Tryz.f32.results.toList) L378 rfl (Res.aggW rfl Xd Ya (R67.has (List.Mem.head _)) h37.len (.tmp rfl Res.nil)) ?_))))))))))
          obtain ⟨her, hvl⟩ := ferr_red hnb hnl (by unfold fred; rw [← hsz, ← hdn]; exact ⟨by assumption, by omega⟩)
          exact ⟨_, _, rfl, R67.ext, ⟨_, (by rw [her]; rfl), (h37.toR (by rw [hvl]) (by exact YT _))⟩⟩
         ·refine Zr L371 rfl rfl rfl rfl rfl (Zf (b := false) (decide_eq_false t34) (fun _ k_ => Yj L371 rfl rfl k_) fun _ L379 => (Zr L379 rfl rfl rfl rfl rfl (Zj L379 rfl rfl fun _ L380 => (so L380 rfl (Zj L380 rfl rfl fun _ L381 => ?_)))))
          have L382 := (L381.kp [2, 3, 8, 9, 11, 73] rfl); clear L381
          refine sn (Zn L382 rfl rfl (wp_skip ((Ze (wp_seq ?_)))))
          have hnr : ¬ fred (bl s) := by (unfold fred; rw [← hsz, ← hdn]; intro q; first | exact absurd q.1 (by assumption) | exact q.2.elim (fun q => by omega) (fun q => by omega))
          have hdp : 0 < XM (bl dn) := by rw [hdn]; exact Nat.pos_of_ne_zero (Zca hnb hnr)
          have hmn := @Zan s nm sz hnm hsz
          have L383 := (L382.kp [2, 3, 8, 9, 11] rfl)
          refine Zy (E0 := []) (H0 := [(b13, 32, c23), (b11, 32, c17), (b1, 36, zF1)]) (n := 80) mixed 4 [] (fun k =>  0) (Zaf [
            .is (.bool false),
            .is (.agg (c17 : List Value).toArray),
            (kvIn (sI false (XM (bl sz))) (900)),
            .is (.agg (c23 : List Value).toArray)]) L383 R66 (by simp) (by simp) (by rfl) (by rfl) (by simp) (ZU ?_) ?_
          ·refine (And.intro ?_ (And.intro ?_ (And.intro ?_ (And.intro ?_ trivial))))
           ·exact Zd rfl (fun _ _ _ _ _ A9 => (Zb A9.live rfl (A9.same  rfl)))
           ·exact Zd rfl (fun _ _ _ _ _ A10 => (Zt A10.live rfl ZJ Zk (A10.run.has (List.mem_append_right _ (List.Mem.tail _ (List.Mem.head _)))) h25.len (A10.same  rfl)))
           ·refine Zd rfl (fun _ _ _ _ _ A11 => ?_)
            obtain ⟨_, e9, rfl⟩ := A11.known 0 rfl
            obtain ⟨_, e10, rfl⟩ := A11.known 1 rfl
            exact Zp ((A11.live.add e9).add e10) rfl ent_82 (Qa A11.run.holds (mi := false)   (h25.up (l22.trans (l23.trans (l24.trans (l25.trans A11.le))))) ) fun v_23 _ _ x23 v23 => (A11.post x23.le (A11.run.call x23) v23)
           ·exact Zd rfl (fun _ _ _ _ _ A12 => (Zt A12.live rfl ZJ Zk (A12.run.has (List.mem_append_right _ (List.Mem.head _))) h33.len (A12.same  rfl)))
          ·intro S39 _ _ w79 l27 E3 R69 n3 L388 K3
           obtain ⟨_, e11, c25, rfl, h38⟩ := K3 2 (by decide)
           have L389 := L388.add e11; clear L388
           obtain ⟨_, e12, rfl⟩ := K3 3 (by decide)
           have L390 := L389.add e12; clear L389
           have R70 : Run _ _ S39 [(b13, 32, c23), (b11, 32, c17), (b1, 36, zF1)] w79 := Yc R69 n3 [] (by simp) (by simp)
           refine so L390 rfl (Zp L390 rfl ent_99 (frac_low R70.holds    h38 (h33.up (l23.trans (l24.trans (l25.trans l27)))) (hdp) (by omega)) fun v_24 _ _ x24 v24 => ?_)
           have R71 := R70.call x24
           obtain ⟨c26, rfl, h39⟩ := v24
           intro _ L391
           refine Zx L391 rfl rfl (Zi L391 rfl rfl (YH R71) Ya h39.len rfl h39.ones fun _ R72 _ L392 => (so L392 rfl (Zc L392 rfl fun _ L393 => (sn (wp_ret ((Zv (rs := Tryz.f32.results.toList) (L393.kp [2, 3] rfl) rfl (Res.aggW rfl Xd Ya (R72.has (List.Mem.head _)) h39.len (.tmp rfl Res.nil)) ?_)))))))
           obtain ⟨her, hvl⟩ := ferr_ok hnb hnl hnr
           exact ⟨_, _, rfl, R72.ext, ⟨_, (by rw [her]; rfl), (h39.toR (by rw [hvl, ← hsz, ← hdn]; first | rw [show fmin (bl s) = true from hmi.1 (by assumption)] | rw [show fmin (bl s) = false from (by cases q : fmin (bl s); rfl; exact absurd (hmi.2 q) (by assumption))]) (by exact YT _))⟩⟩
       ·have L395 := L347; rw [decide_eq_false t32] at L395
        have hnl : ¬ XN (bl s) := by (unfold XN; rw [← hsz, ← hdn]; omega)
        refine Za (so L395 rfl (Zb L395 rfl ?_))
        intro _ L396
        refine so L396 rfl (Zb L396 rfl fun _ L397 => (Zm L397 rfl rfl rfl rfl rfl rfl fun _ L398 => (Zm L398 rfl rfl rfl rfl rfl rfl fun _ L399 => (Zm L399 rfl rfl rfl rfl rfl rfl fun _ L400 => (Zm L400 rfl rfl rfl rfl rfl rfl fun _ L401 => (Yd L401 rfl rfl rfl rfl rfl fun _ L402 => (Yd L402 rfl rfl rfl rfl rfl fun _ L403 => ?_)))))))
        refine Yd L403 rfl rfl rfl rfl rfl ?_
        intro _ L404
        refine Yd L404 rfl rfl rfl rfl rfl ?_
        intro _ L405
        refine Yd L405 rfl rfl rfl rfl rfl ?_
        intro _ L406
        refine Zm L406 rfl rfl rfl rfl rfl rfl fun _ L407 => (so L407 rfl (Zj L407 rfl rfl fun _ L408 => ?_))
        have L409 := (L408.kp [2, 3, 8, 9, 11, 73] rfl); clear L408
        refine sn (Zn L409 rfl rfl (wp_skip ((Ze (wp_seq ?_)))))
        have hnr : ¬ fred (bl s) := by (unfold fred; rw [← hsz, ← hdn]; intro q; first | exact absurd q.1 (by assumption) | exact q.2.elim (fun q => by omega) (fun q => by omega))
        have hdp : 0 < XM (bl dn) := by rw [hdn]; exact Nat.pos_of_ne_zero (Zca hnb hnr)
        have hmn := @Zan s nm sz hnm hsz
        have L410 := (L409.kp [2, 3, 8, 9, 11] rfl)
        refine Zy (E0 := []) (H0 := [(b13, 32, c23), (b11, 32, c17), (b1, 36, zF1)]) (n := 80) mixed 4 [] (fun k =>  0) (Zaf [
          .is (.bool false),
          .is (.agg (c17 : List Value).toArray),
          (kvIn (sI false (XM (bl sz))) (900)),
          .is (.agg (c23 : List Value).toArray)]) L410 R62 (by simp) (by simp) (by rfl) (by rfl) (by simp) (ZU ?_) ?_
        ·refine (And.intro ?_ (And.intro ?_ (And.intro ?_ (And.intro ?_ trivial))))
         ·exact Zd rfl (fun _ _ _ _ _ A13 => (Zb A13.live rfl (A13.same  rfl)))
         ·exact Zd rfl (fun _ _ _ _ _ A14 => (Zt A14.live rfl ZJ Zk (A14.run.has (List.mem_append_right _ (List.Mem.tail _ (List.Mem.head _)))) h25.len (A14.same  rfl)))
         ·refine Zd rfl (fun _ _ _ _ _ A15 => ?_)
          obtain ⟨_, e13, rfl⟩ := A15.known 0 rfl
          obtain ⟨_, e14, rfl⟩ := A15.known 1 rfl
          exact Zp ((A15.live.add e13).add e14) rfl ent_82 (Qa A15.run.holds (mi := false)   (h25.up (l22.trans A15.le)) ) fun v_25 _ _ x25 v25 => (A15.post x25.le (A15.run.call x25) v25)
         ·exact Zd rfl (fun _ _ _ _ _ A16 => (Zt A16.live rfl ZJ Zk (A16.run.has (List.mem_append_right _ (List.Mem.head _))) h33.len (A16.same  rfl)))
        ·intro S46 _ _ w87 l30 E4 R74 n4 L415 K4
         obtain ⟨_, e15, c27, rfl, h40⟩ := K4 2 (by decide)
         have L416 := L415.add e15; clear L415
         obtain ⟨_, e16, rfl⟩ := K4 3 (by decide)
         have L417 := L416.add e16; clear L416
         have R75 : Run _ _ S46 [(b13, 32, c23), (b11, 32, c17), (b1, 36, zF1)] w87 := Yc R74 n4 [] (by simp) (by simp)
         refine so L417 rfl (Zp L417 rfl ent_99 (frac_low R75.holds    h40 (h33.up l30) (hdp) (by omega)) fun v_26 _ _ x26 v26 => ?_)
         have R76 := R75.call x26
         obtain ⟨c28, rfl, h41⟩ := v26
         intro _ L418
         refine Zx L418 rfl rfl (Zi L418 rfl rfl (YH R76) Ya h41.len rfl h41.ones fun _ R77 _ L419 => (so L419 rfl (Zc L419 rfl fun _ L420 => (sn (wp_ret ((Zv (rs := Tryz.f32.results.toList) (L420.kp [2, 3] rfl) rfl (Res.aggW rfl Xd Ya (R77.has (List.Mem.head _)) h41.len (.tmp rfl Res.nil)) ?_)))))))
         obtain ⟨her, hvl⟩ := ferr_ok hnb hnl hnr
         exact ⟨_, _, rfl, R77.ext, ⟨_, (by rw [her]; rfl), (h41.toR (by rw [hvl, ← hsz, ← hdn]; first | rw [show fmin (bl s) = true from hmi.1 (by assumption)] | rw [show fmin (bl s) = false from (by cases q : fmin (bl s); rfl; exact absurd (hmi.2 q) (by assumption))]) (by exact YT _))⟩⟩
    ·intro _ L422
     refine Zr L422 rfl rfl rfl rfl rfl (XE L422 rfl rfl fun _ L423 => (so L423 rfl (Zj L423 rfl rfl fun _ L424 => (so L424 rfl (Zb L424 rfl fun _ L425 => (Zm L425 rfl rfl rfl rfl rfl rfl fun _ L426 => (Zm L426 rfl rfl rfl rfl rfl rfl fun _ L427 => (Yd L427 rfl rfl rfl rfl rfl fun _ L428 => (Yd L428 rfl rfl rfl rfl rfl fun _ L429 => ?_)))))))))
     refine Zm L429 rfl rfl rfl rfl rfl rfl fun _ L430 => (so L430 rfl (Zj L430 rfl rfl fun _ L431 => ?_))
     have L432 := (L431.kp [2, 3, 6, 5, 7, 8, 42] rfl); clear L431
     refine sn (Zs L432 rfl rfl (wp_seq (Za ?_)))
     have h42 : Fs S27 zF1 [0] (0) := Fs.zero _ _
     refine so L432 rfl (ZD (cs := zF1) L432 YK Xo .nil (by rfl) fun _ L433 => (Zx L433 rfl rfl (Zi L433 rfl rfl R44 Ya h42.len rfl h42.ones fun _ R78 _ L434 => (so L434 rfl (Zc L434 rfl fun _ L435 => (sn (wp_ret ((ZE (Zv (rs := Tryz.f32.results.toList) L435 rfl (Res.aggW rfl Xd Ya (R78.has (List.Mem.head _)) h42.len (.tmp rfl Res.nil)) ?_))))))))))
     obtain ⟨her, hvl⟩ := Zb9 (l := bl s) (by unfold fbad; rw [← hsz, ← hdn]; first | exact Or.inl (by assumption) | exact Or.inr (Or.inl (by assumption)) | exact Or.inr (Or.inr ⟨hmi.1 (by assumption), str48.1 (by assumption)⟩))
     exact ⟨_, _, rfl, R78.ext, ⟨_, (by rw [her]; rfl), (h42.toR (by rw [hvl]) (by exact YT _))⟩⟩
   ·intro _ L436
    refine so L436 rfl (XE L436 rfl rfl fun _ L437 => (so L437 rfl (Zb L437 rfl fun _ L438 => (Zm L438 rfl rfl rfl rfl rfl rfl fun _ L439 => (Zm L439 rfl rfl rfl rfl rfl rfl fun _ L440 => (Zm L440 rfl rfl rfl rfl rfl rfl fun _ L441 => (so L441 rfl (Zj L441 rfl rfl fun _ L442 => (so L442 rfl (Zb L442 rfl fun _ L443 => ?_))))))))))
    refine Zm L443 rfl rfl rfl rfl rfl rfl fun _ L444 => (Zm L444 rfl rfl rfl rfl rfl rfl fun _ L445 => (Yd L445 rfl rfl rfl rfl rfl fun _ L446 => (Yd L446 rfl rfl rfl rfl rfl fun _ L447 => (Zm L447 rfl rfl rfl rfl rfl rfl fun _ L448 => (so L448 rfl (Zj L448 rfl rfl fun _ L449 => ?_))))))
    have L450 := (L449.kp [2, 3, 6, 5, 7, 8, 42] rfl); clear L449
    refine sn (Zs L450 rfl rfl (wp_seq (Za ?_)))
    have h43 : Fs S26 zF1 [0] (0) := Fs.zero _ _
    refine so L450 rfl (ZD (cs := zF1) L450 YK Xo .nil (by rfl) fun _ L451 => (Zx L451 rfl rfl (Zi L451 rfl rfl R43 Ya h43.len rfl h43.ones fun _ R79 _ L452 => (so L452 rfl (Zc L452 rfl fun _ L453 => (sn (wp_ret ((ZE (Zv (rs := Tryz.f32.results.toList) L453 rfl (Res.aggW rfl Xd Ya (R79.has (List.Mem.head _)) h43.len (.tmp rfl Res.nil)) ?_))))))))))
    obtain ⟨her, hvl⟩ := Zb9 (l := bl s) (by unfold fbad; rw [← hsz, ← hdn]; first | exact Or.inl (by assumption) | exact Or.inr (Or.inl (by assumption)) | exact Or.inr (Or.inr ⟨hmi.1 (by assumption), str48.1 (by assumption)⟩))
    exact ⟨_, _, rfl, R79.ext, ⟨_, (by rw [her]; rfl), (h43.toR (by rw [hvl]) (by exact YT _))⟩⟩
 ·skip
  refine wp_seq (Za (so L15 rfl (Zb L15 rfl ?_)))
  intro _ L454
  refine so L454 rfl (XE L454 rfl rfl fun _ L455 => (sn ?_))
  by_cases t35 : ftwo (bl s) = true
  ·exact Zn L455 rfl (by rw [decide_eq_true t35]; rfl) (wp_skip ((Ze (⟨S2, (Xg (Qs (bl s))), (Xg (Zae (bl s)).2.1), (tpre (Xg (Qs (bl s)))), Sh.le.refl _, (L455.kp [7, 5, 4, 6, 3, 2] rfl), R3, (by exact XP (Zar (bl_lt s)).1), (by exact fsize_tpre (XP (Zar (bl_lt s)).1)), (by first | (rw [fden_not (by assumption)]; rfl) | (rw [fden_two (by assumption)]; exact XP (Zar (bl_lt s)).2))⟩))))
  ·refine Zs L455 rfl (by rw [decide_eq_false t35]; rfl) (Za (so L455 rfl (Zc L455 rfl ?_)))
   intro _ L456
   exact sn (⟨S2, (Xg (Qs (bl s))), (⟨#[49]⟩ : ByteArray), (tpre (Xg (Qs (bl s)))), Sh.le.refl _, (L456.kp [7, 5, 4, 6, 3, 2] rfl), R3, (by exact XP (Zar (bl_lt s)).1), (by exact fsize_tpre (XP (Zar (bl_lt s)).1)), (by first | (rw [fden_not (by assumption)]; rfl) | (rw [fden_two (by assumption)]; exact XP (Zar (bl_lt s)).2))⟩)
end Go.Cham
namespace Go.Cham
open Go Go.RowKit Go.Proofs
noncomputable section
def fracV (q : Rat) : SV Nat := .agg [.bool (decide (q.num < 0)), .at_ q.num.natAbs, .at_ (q.den - 1)]
theorem fracV_den {S : Sh} {cs : List Value} {q : Rat} {k : Nat} {blk : Nat → Option (Nat × Nat)} (h : Fs S cs [q] k) : Den DN ⟨S, blk⟩ (fracV q) (.agg cs.toArray) := by
  obtain ⟨c0, c1, c2, c3, c4, rfl, h1, h2, _⟩ := h.one
  obtain ⟨us, e, h3⟩ := h1.abs
  have h0 := h1.sign
  simp at h0 e
  subst h0 e
  refine .agg (.one (.bool _) rfl (fun _ => by simp) ?_)
  have := XV.run (D := DN) (G := ⟨S, blk⟩) (a := q.num.natAbs) (us := [c1, c2]) ⟨k, h3⟩ (XV.run (a := q.den - 1) (us := [c3, c4]) ⟨k, h2⟩ .nil)
  simpa using this
def pParse : PrF Nat := fun l => match l with
  | [.str s] => match byteL s with
    | true => match Nat.ble (lenL s) 1000000 with
      | true => some (.tup [fracV (fval s), .int .i64 (ferr s)])
      | false => none
    | false => none
  | _ => none
set_option maxRecDepth 100000 in
theorem pParse_ok : PrimK Tryz.prog DN 32 pParse := by
  intro args r hr G w vs hd hS
  unfold pParse at hr
  split at hr
  · rename_i s
    split at hr
    · rename_i hb
      split at hr
      · rename_i hle
        simp only [Option.some.injEq] at hr
        subst hr
        have hle' := Nat.le_of_ble_eq_true hle
        rw [QB] at hle'
        have hbl := XP (Zcj hb)
        cases hd with
        | cons h1 h2 =>
          cases h2
          cases h1
          refine .ret (by kernel_rfl) (frac_Parse hS (s := Xg s) (by rw [ofBl_size]; omega)) fun S' v hv => ?_
          rw [hbl] at hv
          obtain ⟨c0, e, hv⟩ := hv
          rw [e]
          exact .tup (.cons (fracV_den hv) (.cons (.int _ _) .nil))
      · cases hr
    · cases hr
  · cases hr
def isTrue (o : Option (CR Nat)) : Bool := match o with
  | some c => match c.r with
    | .bool b => b
    | _ => false
  | none => false
theorem known {P : Program} {f : FuncId} (hmo : P.follows .mixedOrders = true) {l : List (Nat × PrF Nat)} (hl : ∀ p ∈ l, PrimK P DN p.1 p.2) {k : Nat} (he : Yn P f = true)
    (h : isTrue (callB P DN (primOf (mkTab l)) (runN P DN (primOf (mkTab l)) k) 0 f [] .nil 0) = true) {S : Sh} {w : World} (hS : Yw S w) : Calls P f [].toArray w (Ret S w fun _ v => v = .bool true) := by
  unfold isTrue at h
  split at h
  · rename_i c hc
    split at h
    · rename_i b hb
      subst h
      refine Calls.mono (Qz.toRet he (ev_call hmo (primOf_ok hl) hc hS .nil)) fun e w' ⟨v, S', h1, h2, blk', h3⟩ => ⟨v, S', h1, h2, ?_⟩
      rw [hb] at h3
      cases h3; rfl
    · cases h
  · cases h
def tabPlane : List (Nat × PrF Nat) := (32, pParse) :: tabNat
theorem tabPlane_ok : ∀ p ∈ tabPlane, PrimK Tryz.prog DN p.1 p.2 := by
  intro p hp
  rcases List.mem_cons.1 hp with rfl | hp
  · exact pParse_ok
  · exact tabNat_ok p hp
end
end Go.Cham
namespace Go.Cham
open Go Go.RowKit Go.Proofs
set_option maxRecDepth 1000000 in
theorem claw05_PlaneKnown {S : Sh} {w : World} (hS : Yw S w) : Calls Tryz.prog 10 [].toArray w (Ret S w fun _ v => v = .bool true) :=
  known (k := 4000) mixed tabPlane_ok (by kernel_rfl) (by kernel_rfl) hS
end Go.Cham
namespace Go.Cham
open Go Go.RowKit Go.ChangeShapes Go.WideShapes Go.ChangeAt Go.Joins Go.Deep
section
variable {H : Type} {enc : TypeId × Value → H} {P : Program}
theorem post_kept {f : Func} {s : ChangeSpec} {apart fresh handsOn : Bool} {W W' : World} {args : Array Value} {v : Value} {ds gs : List (DataW H)} (hW : DataW.Whole enc P f.params.toList s.vars apart W args.toList ds gs [])
    (hres : ∀ (b : Nat) (sp : Nat → Bool) (hd : Bool), DataW.TrodAll enc P W' b sp hd f.resultTypes.toList (v.resultList f.resultTypes.size) (s.fn H (ds ++ gs)).results [])
    (hargs : ∀ sp : Nat → Bool, DataW.TrodAll enc P W' 0 sp true f.params.toList args.toList (s.fn H (ds ++ gs)).args [])
    (hvars : ∀ sp : Nat → Bool, DataW.TrodVars enc P W' sp s.vars (s.fn H (ds ++ gs)).vars []) (hb : Below W.heap.size W W') :
    s.post enc P f apart fresh handsOn false W args v W' :=
  ⟨ds, gs, [], [], [], [], hW, hres _ _ _, hargs _, hvars _, Below.frame hb _, fun e => by cases e⟩
end
end Go.Cham
