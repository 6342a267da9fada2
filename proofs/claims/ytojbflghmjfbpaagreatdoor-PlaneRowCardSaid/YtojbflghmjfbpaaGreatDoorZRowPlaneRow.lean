/- The statement of the claim is proved: the law answers true for every input. No condition. -/
import Derived.Test.YtojbflghmjfbpaaGreatDoorB5
import Derived.Test.YtojbflghmjfbpaaGreatDoorTie
import Derived.Test.YtojbflghmjfbpaaGreatDoorCards
import Derived.SevenTiedAt
namespace Go.Proofs.YtojbflghmjfbpaaGreatDoor
open Go Go.Cham Go.ChangeShapes Go.WideShapes Go.ChangeAt Go.RowKit
theorem planeRow_own : ownKnob Tryz.prog.godebug = none := by kernel_rfl
set_option maxRecDepth 100000 in
theorem planeRow_lifted (os : Os) (started : os.Started) (H : Type) (enc : TypeId × Value → H) :
    ReturnsInHanded {} Tryz.checked os 4 .any (fun w args => (Rows.planeRowSpec.pre enc Tryz.prog Tryz.f4 [] false w args ∧ laidMetH Tryz.prog Rows.planeRowRow.laid w) ∧ sizedMet enc Tryz.prog Tryz.f4 (OpenSpec.ofChange Rows.planeRowSpec) false w args)
      (Rows.planeRowSpec.post enc Tryz.prog Tryz.f4 false true false false) := by
  refine returnsInHanded_of_change_and (C := Tryz.checked) (X := fun w _ => laidMetH Tryz.prog Rows.planeRowRow.laid w) (fun _ _ _ hh h => h.of_heap hh) planeRow_own started (by kernel_rfl) Tryz.func4
    (ChangeSpec.witness_shaped (enc := enc) (C := Tryz.checked) (os := os) (X := fun w _ => laidMetH Tryz.prog Rows.planeRowRow.laid w) false (World.laidAll Tryz.prog os Rows.planeRowRow.laid) #[(.agg #[.string ⟨#[]⟩, .string ⟨#[]⟩, .string ⟨#[]⟩, .string ⟨#[]⟩]), (.agg #[.string ⟨#[]⟩, .string ⟨#[]⟩, .string ⟨#[]⟩, .string ⟨#[]⟩]), (.agg #[.string ⟨#[]⟩, .string ⟨#[]⟩, .string ⟨#[]⟩, .string ⟨#[]⟩])] 8 (World.laidAll_os _ _ _)
      (World.shaped_of_ZipB (by kernel_rfl) (by kernel_rfl)) (by kernel_rfl) (by kernel_rfl) (by kernel_rfl)
      (by rw [MakeChecks.laidMetH_plain _ _ _ (by kernel_rfl)]; exact laidMet_laidAll _ (by kernel_rfl) (by kernel_rfl))) ?_
  intro W base args ds gs before hval0 hW hc _ hL _
  have hval : ∀ (j : Nat) t v, Tryz.f4.params[j]? = some t → args[j]? = some v → Value.okWide Tryz.prog W .any base t v := hval0
  have hW' := hW
  obtain ⟨p, q, hA0, hV, rfl, _, _⟩ := hW
  have hA : DataW.TrodAll enc Tryz.prog W 0 (fun _ => true) true Tryz.f4.params.toList args.toList ds p := hA0
  rw [Tryz.params4] at hA hval
  obtain ⟨rfl, rfl⟩ := trodVars_none hV
  obtain ⟨v0, vs0, d0, ds0, p0, q0, hargs, rfl, rfl, h0, r0⟩ := trodAll_cons hA
  obtain ⟨v1, vs1, d1, ds1, p1, q1, rfl, rfl, rfl, h1, r1⟩ := trodAll_cons r0
  obtain ⟨v2, vs2, d2, ds2, p2, q2, rfl, rfl, rfl, h2, r2⟩ := trodAll_cons r1
  obtain ⟨rfl, rfl, rfl⟩ := trodAll_nil r2
  obtain rfl : args = #[v0, v1, v2] := by cases args; simp_all
  obtain ⟨p0, p1, p2, p3, rfl, rfl, s0⟩ := open_strs4 Tryz.underlying63 (by kernel_rfl) (by kernel_rfl) Tryz.underlying9 rfl rfl rfl rfl (hval 0 63 v0 rfl rfl) h0
  obtain ⟨q0, q1, q2, q3, rfl, rfl, s1⟩ := open_strs4 Tryz.underlying63 (by kernel_rfl) (by kernel_rfl) Tryz.underlying9 rfl rfl rfl rfl (hval 1 63 v1 rfl rfl) h1
  obtain ⟨r0, r1, r2, r3, rfl, rfl, s2⟩ := open_strs4 Tryz.underlying63 (by kernel_rfl) (by kernel_rfl) Tryz.underlying9 rfl rfl rfl rfl (hval 2 63 v2 rfl rfl) h2
  clear hA0 hval0
  simp only [List.append_nil] at hW'
  refine ((claw05_PlaneRow (S := fun _ => none) (w := W) (fun b o h => by cases h)) : Calls _ _ _ _ _).mono fun e W' ⟨v, S', he, hx, hv⟩ => ?_
  subst he; subst hv
  exact ⟨_, rfl, post_kept hW' (fun _ _ _ => trodAll_mk1 (shut_bool Tryz.underlying4 _)) (fun sp => (trodAll_cons_mk (s0 W' 0 sp true) (trodAll_cons_mk (s1 W' 0 sp true) (trodAll_cons_mk (s2 W' 0 sp true) trodAll_mk0)))) (fun _ => rfl) hx.below⟩
theorem planeRow_holds : Rows.PlaneRowSaid :=
  OpenClaim.holds_of_wide 4 Tryz.f4 rfl rfl rfl rfl rfl rfl rfl ⟨rfl, rfl, rfl, rfl, rfl⟩ rfl rfl rfl rfl rfl (by kernel_rfl) Tryz.func4 (by kernel_rfl)
    (of_decide_eq_true (by kernel_rfl)) (by unfold Func.isWrapper; first | (rw [if_pos (by decide +kernel)]; kernel_rfl) | (rw [if_neg (by decide +kernel)]; exact ⟨rfl, rfl⟩))
    (fun os started H enc _ => planeRow_lifted os started H enc)
theorem planeRow_card : Rows.PlaneRowCardSaid :=
  Claim7.holds_tied_plain_at .later [] [.data, .pinned] true (true, "8dd16922af27d847e9d6ab52b5cf23485b28b3bd3b95fda2dce64008d4fb45a6") false
    planeRow_holds (fun _ h => by cases h) (by kernel_rfl) (fun _ h => by cases h) planeRow_row_tie rfl ⟨rfl, rfl⟩ (by kernel_rfl) rfl
    (fun f fn hf hfn => by
      obtain rfl : f = 4 := Option.some.inj ((show Tryz.prog.funcNamed "chamfer/chamferlaw05.PlaneRow" = some 4 by kernel_rfl).symm.trans hf) |>.symm
      obtain rfl : fn = Tryz.f4 := (Option.some.inj (Tryz.func4.symm.trans hfn)).symm
      exact ⟨by kernel_rfl, fun j t ht => by
        rw [Tryz.params4] at ht
        have hm : t ∈ [63, 63, 63] := by simpa using Array.mem_of_getElem? ht
        have hall : ([63, 63, 63].all fun u => !Tryz.prog.wantsStandIn u) = true := by kernel_rfl
        exact (show Tryz.prog.wantsStandIn t = false by simpa using List.all_eq_true.1 hall t hm)⟩)
    (by kernel_rfl)
end Go.Proofs.YtojbflghmjfbpaaGreatDoor
