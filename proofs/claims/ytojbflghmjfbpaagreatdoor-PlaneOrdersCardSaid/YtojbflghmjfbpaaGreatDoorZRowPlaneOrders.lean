/- The statement of the claim is proved: the law answers true for every input. No condition. -/
import Derived.Test.YtojbflghmjfbpaaGreatDoorB5
import Derived.Test.YtojbflghmjfbpaaGreatDoorTie
import Derived.Test.YtojbflghmjfbpaaGreatDoorCards
import Derived.SevenTiedAt
namespace Go.Proofs.YtojbflghmjfbpaaGreatDoor
open Go Go.Cham Go.ChangeShapes Go.WideShapes Go.ChangeAt Go.RowKit
theorem planeOrders_own:ownKnob Tryz.prog.godebug=none:=by kernel_rfl
set_option maxRecDepth 100000 in
theorem Zhi(os:Os)(started:os.Started)(H:Type)(enc:TypeId × Value->H):
    ReturnsInHanded {} Tryz.checked os 9 .any (λw args=>(Rows.planeOrdersSpec.pre enc Tryz.prog Tryz.f9 [] false w args/\laidMetH Tryz.prog Rows.planeOrdersRow.laid w)/\sizedMet enc Tryz.prog Tryz.f9 (OpenSpec.ofChange Rows.planeOrdersSpec) false w args)
      (Rows.planeOrdersSpec.post enc Tryz.prog Tryz.f9 false true false false):=by
 refine returnsInHanded_of_change_and (C:=Tryz.checked) (X:=λw _=>laidMetH Tryz.prog Rows.planeOrdersRow.laid w) (λ_ _ _ hh h=>h.of_heap hh) planeOrders_own started (by kernel_rfl) Tryz.func9 (ChangeSpec.witness_shaped (enc:=enc) (C:=Tryz.checked) (os:=os) (X:=λw _=>laidMetH Tryz.prog Rows.planeOrdersRow.laid w) false (World.laidAll Tryz.prog os Rows.planeOrdersRow.laid) #[(.slice none 0 0)] 8 (World.laidAll_os _ _ _) (World.shaped_of_ZipB (by kernel_rfl) (by kernel_rfl)) (by kernel_rfl) (by kernel_rfl) (by kernel_rfl) (by rw[MakeChecks.laidMetH_plain _ _ _ (by kernel_rfl)];exact laidMet_laidAll _ (by kernel_rfl) (by kernel_rfl))) λW base args ds gs before hval0 hW hc _ hL _=>?_;have hval:∀(j:Nat) t v,Tryz.f9.params[j]? =some t->args[j]? =some v->Value.okWide Tryz.prog W .any base t v:=hval0;have hW':=hW;obtain⟨p,q,hA0,hV,rfl,_,_⟩:=hW;have hA:DataW.TrodAll enc Tryz.prog W 0 (λ_=>true) true Tryz.f9.params.toList args.toList ds p:=hA0;rw[Tryz.params9] at hA hval;obtain⟨rfl,rfl⟩:=trodVars_none hV;obtain⟨v0,vs0,d0,ds0,p0,q0,hargs,rfl,rfl,h0,r0⟩:=trodAll_cons hA;obtain⟨rfl,rfl,rfl⟩:=trodAll_nil r0;obtain rfl:args= #[v0]:=by cases args;simp_all
 obtain⟨q,len,cap,ts,rfl,hI⟩:=open_T4s Tryz.underlying110 Tryz.underlying63 (by kernel_rfl) (by kernel_rfl) Tryz.underlying9 rfl rfl rfl rfl (hval 0 110 v0 rfl rfl) h0;clear hval0;simp only[List.append_nil] at hW' hA0;refine((orders_s (allS_holds W) (cap_l:=cap) hI):Calls _ _ _ _ _).mono λe W' ⟨v,S',he,hx,hv⟩=>?_;subst he;subst hv;exact⟨_,rfl,post_read hW' hA0 rfl (kids_rows (by kernel_rfl) (by kernel_rfl)) (slices_full_of Tryz.prog (by kernel_rfl)) (by rw[Tryz.params9];decide) (λ_ _ _=>trodAll_mk1<|shut_bool Tryz.underlying4 _) (λ_=>rfl) hx.below⟩
theorem planeOrders_holds:Rows.PlaneOrdersSaid:=
  OpenClaim.holds_of_wide 9 Tryz.f9 rfl rfl rfl rfl rfl rfl rfl ⟨rfl,rfl,rfl,rfl,rfl⟩ rfl rfl rfl rfl rfl (by kernel_rfl) Tryz.func9 (by kernel_rfl)
    (of_decide_eq_true (by kernel_rfl)) (by unfold Func.isWrapper;first|(rw[if_pos (by decide+kernel)];kernel_rfl)|(rw[if_neg (by decide+kernel)];exact⟨rfl,rfl⟩))
    (λos started H enc _=>Zhi os started H enc)
theorem planeOrders_card:Rows.PlaneOrdersCardSaid:=
  Claim7.holds_tied_plain_at .later [] [.data,.pinned] true (true, "8dd16922af27d847e9d6ab52b5cf23485b28b3bd3b95fda2dce64008d4fb45a6") false
    planeOrders_holds (λ_ h=>by cases h) (by kernel_rfl) (λ_ h=>by cases h) planeOrders_row_tie rfl ⟨rfl,rfl⟩ (by kernel_rfl) rfl
    (λf fn hf hfn=>by
      obtain rfl:f=9:=Option.some.inj ((show Tryz.prog.funcNamed "chamfer/chamferlaw05.PlaneOrders" =some 9 by kernel_rfl).symm.trans hf) |>.symm
      obtain rfl:fn=Tryz.f9:=(Option.some.inj<|Tryz.func9.symm.trans hfn).symm
      exact⟨by kernel_rfl,λj t ht=>by
        rw[Tryz.params9] at ht
        have hm:t∈[110]:=by simpa using Array.mem_of_getElem? ht
        have hall:([110].all λu=> !Tryz.prog.wantsStandIn u)=true:=by kernel_rfl
        exact(show Tryz.prog.wantsStandIn t=false by simpa using List.all_eq_true.1 hall t hm)⟩)
    (by kernel_rfl)
end Go.Proofs.YtojbflghmjfbpaaGreatDoor
