/- The statement FnMadesCardSaid: for every input the law answers true, and each argument reads as it did. Conditions: none. -/
/- Functions: faa bytes_Equal, fab impl_FilesOk, fac impl_GetMade, fad impl_GetText, fae impl_MadeOk, faf impl_NameOk, fag impl_NumText, fah impl_ParseNum, fai impl_ParseTask, faj impl_PathOk, fak impl_PutMade, fal impl_SameMade, fam impl_fileNameOk, fan impl_inRange, fao impl_isFigure, fap impl_isPathByte, faq impl_isSmall, far impl_isTask, fas impl_outsOk, fat impl_putFiles, fau impl_putText, fav impl_textReader_next, faw internal_bytealg_Cutover, fax internal_bytealg_IndexRabinKarp_string, fay internal_bytealg_hashStr_string, faz internal_stringslite_Cut, fba internal_stringslite_Index, fbb internal_stringslite_IndexByte, fbc laws_FnMades, fbd laws_at, fbe laws_big, fbf laws_sameFiles, fbg laws_sameMade, fbh slices_Equal_File, fbi spec_DrawGetMade, fbj spec_DrawMadeOk, fbk spec_DrawPutMade, fbl spec_DrawSameMade, fbm spec_FilesOk, fbn spec_GetMade, fbo spec_GetText, fbp spec_MadeOk, fbq spec_NameOk, fbr spec_NumText, fbs spec_ParseNum, fbt spec_ParseTask, fbu spec_PathOk, fbv spec_PutFile, fbw spec_PutMade, fbx spec_PutText, fby spec_Split, fbz spec_l15Copy, fca spec_l15Made, fcb spec_l16Count, fcc spec_l16Files, fcd spec_l17Any, fce spec_l17Sum, fcf spec_l17Text, fcg spec_l1Below, fch spec_l1Byte, fci spec_l1Digit, fcj spec_l1In, fck spec_l1Int, fcl spec_l1New, fcm spec_l1Once, fcn spec_l1Small, fco spec_l1Str, fcp spec_l5Letter, fcq spec_l5Name, fcr spec_l5Put, fcs strconv_Itoa, fct strings_Count, fcu strings_Cut, fcv strings_Index, fcw strings_Split, fcx strings_explode, fcy strings_genSplit, fcz unicode_utf8_DecodeRuneInString, fda unicode_utf8_RuneCountInString, fdb unicode_utf8_decodeRuneInStringSlow. -/
import Derived.Test.YteofbfalngmmeaaDoorRows
import Derived.Test.YteofbfalngmmeaaDoorKall
import Derived.WalkKit
import Derived.ProofKit
import Derived.OpenShut
import Derived.ShutString
import Derived.ChangeOld
import Derived.Below
import Derived.Carry
import Derived.SizedLaws
import Derived.Test.YteofbfalngmmeaaDoorTie
import Derived.Test.YteofbfalngmmeaaDoorCards
import Derived.LaidMore
import Derived.Lay
import Derived.SevenTiedAt
import Derived.Stop.Joined
import Derived.Stop.LaidErr
set_option linter.unusedSimpArgs false
set_option linter.unusedVariables false
namespace Go.Proofs.YteofbfalngmmeaaDoor.fnMades
open Go.ChangeShapes Go.WideShapes Go.ChangeAt Go.RowKit
theorem own:ownKnob Tryd.prog.godebug=none:=by kernel_rfl
theorem plain:([5,22]:List Nat).all (Ev.plainAt Ev.Γ0 [5,22])=true:=by kernel_rfl
theorem laid:laidOutB Tryd.prog=true:=by kernel_rfl
set_option maxRecDepth 100000 in
theorem lifted (os:Os)(started:os.Started)(H:Type)(enc:TypeId×Value→H):
  ReturnsInHanded {} Tryd.checked os 3 .any (fun w args=>(Rows.fnMadesSpec.pre enc Tryd.prog Tryd.f3 Rows.fnMadesRow.domain false w args∧laidMetH Tryd.prog Rows.fnMadesRow.laid w)∧sizedMet enc Tryd.prog Tryd.f3 (OpenSpec.ofChange Rows.fnMadesSpec) false w args)
   (Rows.fnMadesSpec.post enc Tryd.prog Tryd.f3 false true false false):=by
 refine returnsInHanded_of_change_and (C:=Tryd.checked) (X:=fun w _=>laidMetH Tryd.prog Rows.fnMadesRow.laid w) (fun _ _ _ hh h=>h.of_heap hh) own started (by kernel_rfl) Tryd.func3
  (ChangeSpec.witness_shaped (enc:=enc) (C:=Tryd.checked) (os:=os) (X:=fun w _=>laidMetH Tryd.prog Rows.fnMadesRow.laid w) false (World.laidAll Tryd.prog os Rows.fnMadesRow.laid) #[.slice none 0 0] 8 (World.laidAll_os _ _ _)
   (World.shaped_of_ZipB (by kernel_rfl) (by kernel_rfl)) (by kernel_rfl) (by kernel_rfl) (by kernel_rfl)
   (by rw[MakeChecks.laidMetH_plain _ _ _ (by kernel_rfl)];exact laidMet_laidAll _ (by kernel_rfl) (by kernel_rfl))) ?_
 intro W base args ds gs before hval0 hW hcnd hsz0 hL _
 have hval:∀ (j:Nat) t v,Tryd.f3.params[j]?=some t→args[j]?=some v→Value.okWide Tryd.prog W .any base t v:=hval0
 have hW':=hW
 obtain⟨p,q,hA0,hV,rfl,hfz,hnd⟩:=hW
 have hA:DataW.TrodAll enc Tryd.prog W 0 (fun _=>true) true Tryd.f3.params.toList args.toList ds p:=hA0
 rw[Tryd.params3] at hA hval
 obtain⟨v0,vs0,d0,ds0,p0,q0,hargs,rfl,rfl,h0,r0⟩:=trodAll_cons hA
 obtain⟨rfl,rfl,rfl⟩:=trodAll_nil r0
 obtain rfl:args=#[v0]:=by cases args;simp_all
 obtain⟨rfl,rfl⟩:=trodVars_none hV
 have hS:∀ t∈([5,22]:List Nat),Ev.plainAt Ev.Γ0 [5,22] t=true:=List.all_eq_true.1 plain
 have hΓ:Ev.CtxOk Tryd.prog Ev.Γ0:=Ev.ctxOk_of rfl Ev.tyTab_ok
 obtain⟨n0,cs0,wt0,av0⟩:=Ev.open_arg hΓ hS (t:=22) (r:=Ev.ty22) (by decide) (by kernel_rfl) (hval 0 22 v0 rfl rfl) h0
 obtain⟨x0,e0,b0⟩:=Ev.WT_bytes wt0 (by kernel_rfl:Ev.Γ0.ty 22=some Ev.ty22) rfl (by kernel_rfl:Ev.Γ0.ty 5=some Ev.ty5) rfl rfl
 subst e0
 clear hA0 hval0 hsz0
 have hL2:laidMet Tryd.prog Rows.fnMadesRow.laid W:=by
  have h:=hL
  rw[MakeChecks.laidMetH_plain _ _ _ (by kernel_rfl)] at h
  exact h
 have hT:Lib.TabIs Tryd.prog W "internal/strconv.uint64pow10" .u64 Lib.pow10Tab:=Lib.tabIs_of_head (g:=1) (t:=98) (e:=89) (n:=20) (by kernel_rfl) (by kernel_rfl) (by kernel_rfl) (by kernel_rfl) (by kernel_rfl) (by kernel_rfl) (show laidMet Tryd.prog (("internal/strconv.uint64pow10",Lib.tabData .u64 Lib.pow10Tab)::Rows.fnMadesRow.laid.tail.tail.tail) W from(laidMet.tail (laidMet.tail hL2)))
 refine(Ev.law_out Ev.ok_fbc (Ev.c_fbc x0 b0) (Ev.okTab_start (by kernel_rfl) hT) (.cons av0 (.nil))).mono fun e W' ⟨he,bel⟩=>?_
 subst he
 exact⟨_,rfl,_,_,_,[],_,[],hW',trodAll_mk1 (shut_bool (by kernel_rfl) _),trodAll_cons_mk (RowKit.Below.trod laid (by kernel_rfl) (by decide+kernel) h0 bel (fun x hx=>DataW.trod_lt _ _ _ _ h0.choose_spec x hx)) (trodAll_mk0),rfl,bel.frame _,fun h=>by cases h⟩
theorem over:Rows.fnMadesRow.holds Tryd.pinned (OpenSpec.ofChange Rows.fnMadesSpec):=
 OpenClaim.holds_of_wide 3 Tryd.f3 rfl rfl rfl rfl rfl rfl rfl ⟨rfl,rfl,rfl,rfl,rfl⟩ rfl rfl rfl rfl rfl (by kernel_rfl) Tryd.func3 (by kernel_rfl)
  (of_decide_eq_true (by kernel_rfl)) (by unfold Func.isWrapper;first | (rw[if_pos (by decide+kernel)];kernel_rfl) | (rw[if_neg (by decide+kernel)];exact⟨rfl,rfl⟩))
  (fun os started H enc _=>lifted os started H enc)
theorem proved:Rows.FnMadesCardSaid:=
 Claim7.holds_tied_plain_at .later [] [.data,.data,.data,.data,.pinned] true (true,"155d5ec19d47b5b49db8a869c02cda4a0528de4ecc2dedfaebbd1b708f73bab1") false
  over (fun _ h=>by cases h) (by kernel_rfl) (fun _ h=>by cases h) fnMades_row_tie rfl ⟨rfl,rfl⟩ (by kernel_rfl) rfl
  (fun f fn hf hfn=>by
   obtain rfl:f=3:=Option.some.inj ((show Tryd.prog.funcNamed "loop.example/g00464/laws.FnMades"=some 3 by kernel_rfl).symm.trans hf) |>.symm
   obtain rfl:fn=Tryd.f3:=(Option.some.inj (Tryd.func3.symm.trans hfn)).symm
   exact⟨by kernel_rfl,fun j t ht=>by
    rw[Tryd.params3] at ht
    have hm:t∈[22]:=by simpa using Array.mem_of_getElem? ht
    have hall:([22].all fun u=>!Tryd.prog.wantsStandIn u)=true:=by kernel_rfl
    exact(show Tryd.prog.wantsStandIn t=false by simpa using List.all_eq_true.1 hall t hm)⟩)
  (by kernel_rfl)
#print axioms proved
end Go.Proofs.YteofbfalngmmeaaDoor.fnMades
namespace Go.Proofs.YteofbfalngmmeaaDoor
theorem fnMades_holds:Rows.FnMadesCardSaid:=fnMades.proved
end Go.Proofs.YteofbfalngmmeaaDoor
