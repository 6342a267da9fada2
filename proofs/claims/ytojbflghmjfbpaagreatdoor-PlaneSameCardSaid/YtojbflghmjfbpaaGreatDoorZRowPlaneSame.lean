/- The statement of the claim is proved: the law answers true for every input. No condition. -/
import Derived.Test.YtojbflghmjfbpaaGreatDoorB5
import Derived.Test.YtojbflghmjfbpaaGreatDoorTie
import Derived.Test.YtojbflghmjfbpaaGreatDoorCards
import Derived.SevenTiedAt
namespace Go.Proofs.YtojbflghmjfbpaaGreatDoor
open Go Go.Cham Go.ChangeShapes Go.WideShapes Go.ChangeAt Go.RowKit
theorem planeSame_own : ownKnob Tryz.prog.godebug = none := by kernel_rfl
set_option maxRecDepth 100000 in
theorem planeSame_lifted (os : Os) (started : os.Started) (H : Type) (enc : TypeId × Value → H) :
    ReturnsInHanded {} Tryz.checked os 6 .any (fun w args => (Rows.planeSameSpec.pre enc Tryz.prog Tryz.f6 [] false w args ∧ laidMetH Tryz.prog Rows.planeSameRow.laid w) ∧ sizedMet enc Tryz.prog Tryz.f6 (OpenSpec.ofChange Rows.planeSameSpec) false w args)
      (Rows.planeSameSpec.post enc Tryz.prog Tryz.f6 false true false false) := by
  refine returnsInHanded_of_change_and (C := Tryz.checked) (X := fun w _ => laidMetH Tryz.prog Rows.planeSameRow.laid w) (fun _ _ _ hh h => h.of_heap hh) planeSame_own started (by kernel_rfl) Tryz.func6
    (ChangeSpec.witness_shaped (enc := enc) (C := Tryz.checked) (os := os) (X := fun w _ => laidMetH Tryz.prog Rows.planeSameRow.laid w) false (World.laidAll Tryz.prog os Rows.planeSameRow.laid) #[(.agg #[.string ⟨#[]⟩, .string ⟨#[]⟩, .string ⟨#[]⟩, .string ⟨#[]⟩]), (.string ⟨#[]⟩), (.agg #[.string ⟨#[]⟩, .string ⟨#[]⟩, .string ⟨#[]⟩]), (.agg #[.string ⟨#[]⟩, .string ⟨#[]⟩, .string ⟨#[]⟩]), (.agg #[.string ⟨#[]⟩, .string ⟨#[]⟩, .string ⟨#[]⟩])] 8 (World.laidAll_os _ _ _)
      (World.shaped_of_ZipB (by kernel_rfl) (by kernel_rfl)) (by kernel_rfl) (by kernel_rfl) (by kernel_rfl)
      (by rw [MakeChecks.laidMetH_plain _ _ _ (by kernel_rfl)]; exact laidMet_laidAll _ (by kernel_rfl) (by kernel_rfl))) ?_
  intro W base args ds gs before hval0 hW hc _ hL _
  have hval : ∀ (j : Nat) t v, Tryz.f6.params[j]? = some t → args[j]? = some v → Value.okWide Tryz.prog W .any base t v := hval0
  have hW' := hW
  obtain ⟨p, q, hA0, hV, rfl, _, _⟩ := hW
  have hA : DataW.TrodAll enc Tryz.prog W 0 (fun _ => true) true Tryz.f6.params.toList args.toList ds p := hA0
  rw [Tryz.params6] at hA hval
  obtain ⟨rfl, rfl⟩ := trodVars_none hV
  obtain ⟨v0, vs0, d0, ds0, p0, q0, hargs, rfl, rfl, h0, r0⟩ := trodAll_cons hA
  obtain ⟨v1, vs1, d1, ds1, p1, q1, rfl, rfl, rfl, h1, r1⟩ := trodAll_cons r0
  obtain ⟨v2, vs2, d2, ds2, p2, q2, rfl, rfl, rfl, h2, r2⟩ := trodAll_cons r1
  obtain ⟨v3, vs3, d3, ds3, p3, q3, rfl, rfl, rfl, h3, r3⟩ := trodAll_cons r2
  obtain ⟨v4, vs4, d4, ds4, p4, q4, rfl, rfl, rfl, h4, r4⟩ := trodAll_cons r3
  obtain ⟨rfl, rfl, rfl⟩ := trodAll_nil r4
  obtain rfl : args = #[v0, v1, v2, v3, v4] := by cases args; simp_all
  obtain ⟨p0, p1, p2, p3, rfl, rfl, s0⟩ := open_strs4 Tryz.underlying63 (by kernel_rfl) (by kernel_rfl) Tryz.underlying9 rfl rfl rfl rfl (hval 0 63 v0 rfl rfl) h0
  obtain ⟨t, rfl, rfl, s1⟩ := open_str1 Tryz.underlying9 (hval 1 9 v1 rfl rfl) h1
  obtain ⟨q0, q1, q2, rfl, rfl, s2⟩ := open_strs3 Tryz.underlying23 (by kernel_rfl) (by kernel_rfl) Tryz.underlying9 rfl rfl rfl (hval 2 23 v2 rfl rfl) h2
  obtain ⟨r0, r1, r2, rfl, rfl, s3⟩ := open_strs3 Tryz.underlying23 (by kernel_rfl) (by kernel_rfl) Tryz.underlying9 rfl rfl rfl (hval 3 23 v3 rfl rfl) h3
  obtain ⟨u0, u1, u2, rfl, rfl, s4⟩ := open_strs3 Tryz.underlying23 (by kernel_rfl) (by kernel_rfl) Tryz.underlying9 rfl rfl rfl (hval 4 23 v4 rfl rfl) h4
  clear hA0 hval0
  simp only [List.append_nil] at hW'
  refine ((claw05_PlaneSame (S := fun _ => none) (w := W) (fun b o h => by cases h)) : Calls _ _ _ _ _).mono fun e W' ⟨v, S', he, hx, hv⟩ => ?_
  subst he; subst hv
  exact ⟨_, rfl, post_kept hW' (fun _ _ _ => trodAll_mk1 (shut_bool Tryz.underlying4 _)) (fun sp => (trodAll_cons_mk (s0 W' 0 sp true) (trodAll_cons_mk (s1 W' 0 sp true) (trodAll_cons_mk (s2 W' 0 sp true) (trodAll_cons_mk (s3 W' 0 sp true) (trodAll_cons_mk (s4 W' 0 sp true) trodAll_mk0)))))) (fun _ => rfl) hx.below⟩
theorem planeSame_holds : Rows.PlaneSameSaid :=
  OpenClaim.holds_of_wide 6 Tryz.f6 rfl rfl rfl rfl rfl rfl rfl ⟨rfl, rfl, rfl, rfl, rfl⟩ rfl rfl rfl rfl rfl (by kernel_rfl) Tryz.func6 (by kernel_rfl)
    (of_decide_eq_true (by kernel_rfl)) (by unfold Func.isWrapper; first | (rw [if_pos (by decide +kernel)]; kernel_rfl) | (rw [if_neg (by decide +kernel)]; exact ⟨rfl, rfl⟩))
    (fun os started H enc _ => planeSame_lifted os started H enc)
theorem planeSame_card : Rows.PlaneSameCardSaid :=
  Claim7.holds_tied_plain_at .later [] [.data, .pinned] true (true, "8dd16922af27d847e9d6ab52b5cf23485b28b3bd3b95fda2dce64008d4fb45a6") false
    planeSame_holds (fun _ h => by cases h) (by kernel_rfl) (fun _ h => by cases h) planeSame_row_tie rfl ⟨rfl, rfl⟩ (by kernel_rfl) rfl
    (fun f fn hf hfn => by
      obtain rfl : f = 6 := Option.some.inj ((show Tryz.prog.funcNamed "chamfer/chamferlaw05.PlaneSame" = some 6 by kernel_rfl).symm.trans hf) |>.symm
      obtain rfl : fn = Tryz.f6 := (Option.some.inj (Tryz.func6.symm.trans hfn)).symm
      exact ⟨by kernel_rfl, fun j t ht => by
        rw [Tryz.params6] at ht
        have hm : t ∈ [63, 9, 23, 23, 23] := by simpa using Array.mem_of_getElem? ht
        have hall : ([63, 9, 23, 23, 23].all fun u => !Tryz.prog.wantsStandIn u) = true := by kernel_rfl
        exact (show Tryz.prog.wantsStandIn t = false by simpa using List.all_eq_true.1 hall t hm)⟩)
    (by kernel_rfl)
end Go.Proofs.YtojbflghmjfbpaaGreatDoor
