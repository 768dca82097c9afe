/- The statement FnLeansSaid: for every input the law answers true, and each argument reads as it did. Conditions: none. -/
/- Functions: faa impl_DeepUsedBy, fab impl_DeepUses, fac impl_FindPack, fad impl_FindPack_1, fae impl_Order, faf impl_Ring, fag impl_Sorted, fah impl_UsedBy, fai impl_deep, faj impl_graphOf, fak impl_graph_ahead, fal impl_graph_by, fam impl_graph_canBeNext, fan impl_graph_onOf, fao impl_graph_order, fap impl_graph_order_1, faq impl_graph_ring, fas impl_graph_way, fat laws_FnLeans, fau laws_big, fav laws_hasText, faw slices_Clip_string, fax slices_Clone_string, fay slices_Compact_string, faz slices_Contains_string, fba slices_IndexFunc_Pack, fbb slices_IndexFunc_string, fbc slices_Index_string, fbd slices_Sort_string, fbe spec_DrawPacks, fbf spec_l1Below, fbg spec_l1Byte, fbh spec_l1New, fbi spec_l1Once, fbj spec_l1Str, fbk spec_l7Act, fbl spec_l7Cmd, fbm spec_l7DrawNeeds, fbn spec_l7OneNeed, fbo spec_l7Pack, fbp spec_l7Packs. -/
import Derived.Test.YtfaiahlpefmgmaaRows
import Derived.Test.YtfaiahlpefmgmaaKall
import Derived.WalkKit
import Derived.ProofKit
import Derived.OpenShut
import Derived.ShutString
import Derived.ChangeOld
import Derived.Below
import Derived.Carry
import Derived.SizedLaws
set_option linter.unusedSimpArgs false
set_option linter.unusedVariables false
namespace Go.Proofs.Ytfaiahlpefmgmaa.fnLeans
open Go.ChangeShapes Go.WideShapes Go.ChangeAt Go.RowKit
theorem own:ownKnob Try.prog.godebug=none:=by kernel_rfl
theorem plain:([5,37]:List Nat).all (Ev.plainAt Ev.Γ0 [5,37])=true:=by kernel_rfl
theorem laid:laidOutB Try.prog=true:=by kernel_rfl
set_option maxRecDepth 100000 in
theorem lifted (os:Os)(started:os.Started)(H:Type)(enc:TypeId×Value→H):
  ReturnsInHanded {} Try.checked os 4 .any (Rows.fnLeansSpec.pre6 enc Try.prog Try.f4 Rows.fnLeansRow.domain false) (Rows.fnLeansSpec.post enc Try.prog Try.f4 false true false false):=by
 refine returnsInHanded_of_change_sized (C:=Try.checked) own started (by kernel_rfl) Try.func4
  (ChangeSpec.witness6 (enc:=enc) (C:=Try.checked) false ⟨#[],#[.slice none 0 0],[]⟩ 8 (by kernel_rfl) (by kernel_rfl) (by kernel_rfl) (by kernel_rfl)) ?_
 intro W base args ds gs before hval0 hW hcnd hsz0 _
 have hval:∀ (j:Nat) t v,Try.f4.params[j]?=some t→args[j]?=some v→Value.okWide Try.prog W .any base t v:=hval0
 have hW':=hW
 obtain⟨p,q,hA0,hV,rfl,hfz,hnd⟩:=hW
 have hA:DataW.TrodAll enc Try.prog W 0 (fun _=>true) true Try.f4.params.toList args.toList ds p:=hA0
 rw[Try.params4] at hA hval
 obtain⟨v0,vs0,d0,ds0,p0,q0,hargs,rfl,rfl,h0,r0⟩:=trodAll_cons hA
 obtain⟨rfl,rfl,rfl⟩:=trodAll_nil r0
 obtain rfl:args=#[v0]:=by cases args;simp_all
 obtain⟨rfl,rfl⟩:=trodVars_none hV
 have hS:∀ t∈([5,37]:List Nat),Ev.plainAt Ev.Γ0 [5,37] t=true:=List.all_eq_true.1 plain
 have hΓ:Ev.CtxOk Try.prog Ev.Γ0:=Ev.ctxOk_of rfl Ev.tyTab_ok
 obtain⟨n0,cs0,wt0,av0⟩:=Ev.open_arg hΓ hS (t:=37) (r:=Ev.ty37) (by decide) (by kernel_rfl) (hval 0 37 v0 rfl rfl) h0
 obtain⟨x0,e0,b0⟩:=Ev.WT_bytes wt0 (by kernel_rfl:Ev.Γ0.ty 37=some Ev.ty37) rfl (by kernel_rfl:Ev.Γ0.ty 5=some Ev.ty5) rfl rfl
 subst e0
 clear hA0 hval0 hsz0
 refine(Ev.law_out Ev.ok_fat (Ev.c_fat x0 b0) trivial (.cons av0 (.nil))).mono fun e W' ⟨he,bel⟩=>?_
 subst he
 exact⟨_,rfl,_,_,_,[],_,[],hW',trodAll_mk1 (shut_bool (by kernel_rfl) _),trodAll_cons_mk (RowKit.Below.trod laid (by kernel_rfl) (by decide+kernel) h0 bel (fun x hx=>DataW.trod_lt _ _ _ _ h0.choose_spec x hx)) (trodAll_mk0),rfl,bel.frame _,fun h=>by cases h⟩
theorem over:Rows.fnLeansRow.holds Try.pinned (OpenSpec.ofChange Rows.fnLeansSpec):=
 OpenClaim.holds_of_wide 4 Try.f4 rfl rfl rfl rfl rfl rfl rfl ⟨rfl,rfl,rfl,rfl,rfl⟩ rfl rfl rfl rfl rfl (by kernel_rfl) Try.func4 (by kernel_rfl)
  (of_decide_eq_true (by kernel_rfl)) (by unfold Func.isWrapper;first | (rw[if_pos (by decide+kernel)];kernel_rfl) | (rw[if_neg (by decide+kernel)];exact⟨rfl,rfl⟩))
  (fun os started H enc _=>lifted os started H enc)
theorem proved:Rows.FnLeansSaid:=over
#print axioms proved
end Go.Proofs.Ytfaiahlpefmgmaa.fnLeans
namespace Go.Proofs.Ytfaiahlpefmgmaa
theorem fnLeans_holds:Rows.FnLeansSaid:=fnLeans.proved
end Go.Proofs.Ytfaiahlpefmgmaa
