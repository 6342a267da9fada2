/- The statement of the claim is proved: the law answers true for every input. No condition. -/
import Derived.Test.YtojbflghmjfbpaaGreatDoorB4
import Derived.Test.YtojbflghmjfbpaaGreatDoorTie
import Derived.Test.YtojbflghmjfbpaaGreatDoorCards
import Derived.SevenTiedAt
namespace Go.Proofs.YtojbflghmjfbpaaGreatDoor
open Go Go.Cham Go.ChangeShapes Go.WideShapes Go.ChangeAt Go.RowKit
theorem planeReads_own:ownKnob Tryz.prog.godebug=none:=by kernel_rfl
set_option maxRecDepth 100000 in
theorem planeReads_lifted (os:Os) (started:os.Started) (H:Type) (enc:TypeId × Value->H):
    ReturnsInHanded {} Tryz.checked os 7 .any (λw args=>(Rows.planeReadsSpec.pre enc Tryz.prog Tryz.f7 [] false w args/\laidMetH Tryz.prog Rows.planeReadsRow.laid w)/\sizedMet enc Tryz.prog Tryz.f7 (OpenSpec.ofChange Rows.planeReadsSpec) false w args)
      (Rows.planeReadsSpec.post enc Tryz.prog Tryz.f7 false true false false):=by
 refine returnsInHanded_of_change_and (C:=Tryz.checked) (X:=λw _=>laidMetH Tryz.prog Rows.planeReadsRow.laid w) (λ_ _ _ hh h=>h.of_heap hh) planeReads_own started (by kernel_rfl) Tryz.func7 (ChangeSpec.witness_shaped (enc:=enc) (C:=Tryz.checked) (os:=os) (X:=λw _=>laidMetH Tryz.prog Rows.planeReadsRow.laid w) false (World.laidAll Tryz.prog os Rows.planeReadsRow.laid) #[(.agg #[.string ⟨#[]⟩,.string ⟨#[]⟩,.string ⟨#[]⟩,.string ⟨#[]⟩]),(.agg #[.string ⟨#[]⟩,.string ⟨#[]⟩,.string ⟨#[]⟩])] 8 (World.laidAll_os _ _ _) (World.shaped_of_ZipB (by kernel_rfl) (by kernel_rfl)) (by kernel_rfl) (by kernel_rfl) (by kernel_rfl) (by rw[MakeChecks.laidMetH_plain _ _ _ (by kernel_rfl)];exact laidMet_laidAll _ (by kernel_rfl) (by kernel_rfl))) ?_;intro W base args ds gs before hval0 hW hc _ hL _;have hval:∀(j:Nat) t v,Tryz.f7.params[j]? =some t->args[j]? =some v->Value.okWide Tryz.prog W .any base t v:=hval0;have hW':=hW;obtain⟨p,q,hA0,hV,rfl,_,_⟩:=hW;have hA:DataW.TrodAll enc Tryz.prog W 0 (λ_=>true) true Tryz.f7.params.toList args.toList ds p:=hA0;rw[Tryz.params7] at hA hval;obtain⟨rfl,rfl⟩:=trodVars_none hV;obtain⟨v0,vs0,d0,ds0,p0,q0,hargs,rfl,rfl,h0,r0⟩:=trodAll_cons hA;obtain⟨v1,vs1,d1,ds1,p1,q1,rfl,rfl,rfl,h1,r1⟩:=trodAll_cons r0;obtain⟨rfl,rfl,rfl⟩:=trodAll_nil r1;obtain rfl:args= #[v0,v1]:=by cases args;simp_all
 obtain⟨a0,a1,a2,a3,rfl,rfl,s0⟩:=open_strs4 Tryz.underlying63 (by kernel_rfl) (by kernel_rfl) Tryz.underlying9 rfl rfl rfl rfl (hval 0 63 v0 rfl rfl) h0;obtain⟨b0,b1,b2,rfl,rfl,s1⟩:=open_strs3 Tryz.underlying23 (by kernel_rfl) (by kernel_rfl) Tryz.underlying9 rfl rfl rfl (hval 1 23 v1 rfl rfl) h1;clear hA0 hval0;simp only[List.append_nil] at hW';refine((claw05_PlaneReads (S:=λ_=>none) (w:=W) (λb o h=>by cases h)):Calls _ _ _ _ _).mono λe W' ⟨v,S',he,hx,hv⟩=>?_;subst he;subst hv;exact⟨_,rfl,post_kept hW' (λ_ _ _=>trodAll_mk1 (shut_bool Tryz.underlying4 _)) (λsp=>(trodAll_cons_mk (s0 W' 0 sp true) (trodAll_cons_mk (s1 W' 0 sp true) trodAll_mk0))) (λ_=>rfl) hx.below⟩
theorem planeReads_holds:Rows.PlaneReadsSaid:=
  OpenClaim.holds_of_wide 7 Tryz.f7 rfl rfl rfl rfl rfl rfl rfl ⟨rfl,rfl,rfl,rfl,rfl⟩ rfl rfl rfl rfl rfl (by kernel_rfl) Tryz.func7 (by kernel_rfl)
    (of_decide_eq_true (by kernel_rfl)) (by unfold Func.isWrapper;first|(rw[if_pos (by decide+kernel)];kernel_rfl)|(rw[if_neg (by decide+kernel)];exact⟨rfl,rfl⟩))
    (λos started H enc _=>planeReads_lifted os started H enc)
theorem planeReads_card:Rows.PlaneReadsCardSaid:=
  Claim7.holds_tied_plain_at .later [] [.data,.pinned] true (true, "8dd16922af27d847e9d6ab52b5cf23485b28b3bd3b95fda2dce64008d4fb45a6") false
    planeReads_holds (λ_ h=>by cases h) (by kernel_rfl) (λ_ h=>by cases h) planeReads_row_tie rfl ⟨rfl,rfl⟩ (by kernel_rfl) rfl
    (λf fn hf hfn=>by
      obtain rfl:f=7:=Option.some.inj ((show Tryz.prog.funcNamed "chamfer/chamferlaw05.PlaneReads" =some 7 by kernel_rfl).symm.trans hf) |>.symm
      obtain rfl:fn=Tryz.f7:=(Option.some.inj (Tryz.func7.symm.trans hfn)).symm
      exact⟨by kernel_rfl,λj t ht=>by
        rw[Tryz.params7] at ht
        have hm:t∈[63,23]:=by simpa using Array.mem_of_getElem? ht
        have hall:([63,23].all λu=> !Tryz.prog.wantsStandIn u)=true:=by kernel_rfl
        exact(show Tryz.prog.wantsStandIn t=false by simpa using List.all_eq_true.1 hall t hm)⟩)
    (by kernel_rfl)
end Go.Proofs.YtojbflghmjfbpaaGreatDoor
