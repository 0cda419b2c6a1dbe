/- metewandlaw15.EvalSteps returns true for every list of numbers: the row and its tied card; no condition but the row's own. -/
import Derived.Test.YtecmlmofhabonaaGreatDoorLaw
import Derived.Test.YtecmlmofhabonaaGreatDoorFacts
import Derived.SevenTiedAt
import Derived.Test.YtecmlmofhabonaaGreatDoorTie
import Derived.Test.YtecmlmofhabonaaGreatDoorCards
noncomputable section
namespace Go.Proofs.YtecmlmofhabonaaGreatDoor
open Go Go.Ab Go.Nb Go.E4 Go.Ev Go.ChangeShapes Go.WideShapes Go.RowKit Go.Conc
set_option maxRecDepth 1000000
theorem evalSteps_lifted (os:Os)(started:os.Started)(H:Type)(enc:TypeId×Value→H) :
 ReturnsInLeavingWide {} Tryz.checked os 5 .any (fun w args=>(Rows.evalStepsSpec.pre enc Tryz.prog Tryz.f5 [] false w args∧laidMetH Tryz.prog kl w)∧sizedMet enc Tryz.prog Tryz.f5 (OpenSpec.ofChange Rows.evalStepsSpec) false w args)
  (Rows.evalStepsSpec.post enc Tryz.prog Tryz.f5 false true false false):=by
 refine G9 (C:=Tryz.checked) (X:=fun w _=>laidMetH Tryz.prog kl w) (fun _ _ _ hh h=>h.of_heap hh) Tryz.own started (by kernel_rfl) Tryz.func5
  (ChangeSpec.witness_at (enc:=enc) (C:=Tryz.checked) (os:=os) (X:=fun w _=>laidMetH Tryz.prog kl w) false (Yp os) #[.slice none 0 0] 8 (World.layVars_os _ _ _) (by kernel_rfl) (by kernel_rfl) (by kernel_rfl) (by kernel_rfl) (by kernel_rfl) (Wf os _)) ?_
 intro W base args ds gs before hval0 hW _ _ hL _
 have hW':=hW
 obtain⟨p,q,hA0,hV0,rfl,hfz,hnd⟩:=hW
 have hA:DataW.TrodAll enc Tryz.prog W 0 (fun _=>true) true Tryz.f5.params.toList args.toList ds p:=hA0
 have hV:DataW.TrodVars enc Tryz.prog W (fun _=>true) [] gs q:=hV0
 have hp3:Tryz.f5.params = #[22]:=by kernel_rfl
 rw[hp3] at hA
 obtain⟨v,d,rfl,rfl,hd⟩:=trodAll_one hA
 have hok:=hval0 0 22 v (by rw[hp3];rfl) rfl
 obtain⟨rfl,rfl⟩:gs=[]∧q=[]:=by
  cases gs with
  | nil=>exact⟨rfl,hV⟩
  | cons g r=>exact absurd hV (by intro h;cases h)
 obtain⟨xs,fz,hf,hlt,hn,hback⟩:=WE hL (okWide_slice Tryz.underlying22 hok) hd
 have e1:Rows.evalStepsSpec.fn H ([d]++[]) = { results:=[.lit (.bool true)],args:=[d] }:=by simp[Rows.evalStepsSpec]
 refine(VV hL (Xw xs) hf hlt hn).mono fun e W' ⟨he,hb⟩=>?_
 subst he
 refine⟨_,rfl,_,_,_,[],p,[],hW',?_,?_,?_,N2 hb,fun h=>by cases h⟩
 ·rw[e1];exact trodAll_mk1 (shut_bool Tryz.underlying4 true)
 ·rw[e1,hp3];exact trodAll_mk1 (hback W' hb.block)
 ·rw[e1];rfl
end Go.Proofs.YtecmlmofhabonaaGreatDoor
namespace Go.Proofs.YtecmlmofhabonaaGreatDoor
open Go Go.Ab Go.ChangeShapes Go.WideShapes Go.RowKit Go.Conc
set_option maxRecDepth 1000000
theorem evalSteps_holds:Rows.EvalStepsSaid:=
 OpenClaim.holds_of_wide_leaving 5 Tryz.f5 rfl rfl rfl rfl rfl rfl rfl ⟨rfl,rfl,rfl,rfl,rfl⟩ rfl rfl rfl rfl rfl I5 Tryz.func5 closed inst5 wrap5
  (fun os started H enc _=>evalSteps_lifted os started H enc)
theorem VY:Tryz.prog.mainIs=some (true, "a5ae0b84683adad0f8db137b66c864db1351bf266e636114d1b25ec550765222".toList):=by kernel_rfl
theorem AcU:Rows.evalStepsRow.wfByText (OpenSpec.ofChange Rows.evalStepsSpec)=true:=by kernel_rfl
theorem V6:Rows.evalStepsCard.goes=Rows.evalStepsRow.goesBy Tryz.prog:=by kernel_rfl
theorem S6:true=Tryz.prog.looks []:=by kernel_rfl
theorem QO:Tryz.f5.params = #[22]:=by kernel_rfl
theorem TG:Tryz.prog.wantsStandIn 22=false:=by kernel_rfl
theorem XH:Tryz.prog.funcNamed "metewand/metewandlaw15.EvalSteps" = some 5:=by kernel_rfl
theorem evalSteps_card:Rows.EvalStepsCardSaid:=by
 refine⟨Claim7.tied_new_at .later [.data,.data,.data,.data,.handle,.sentinel,.sentinel,.pinned] true (Claim7.new_of_sixth evalSteps_holds (true, "a5ae0b84683adad0f8db137b66c864db1351bf266e636114d1b25ec550765222") true rfl ⟨rfl,rfl⟩ VY (by rfl)
  (fun f fn hf hfn=>?_)) AcU,(fun _ h=>by cases h),evalSteps_row_tie,(fun h=>by cases h),V6⟩
 obtain rfl:f=5:=Option.some.inj (XH.symm.trans hf) |>.symm
 obtain rfl:fn=Tryz.f5:=(Option.some.inj (Tryz.func5.symm.trans hfn)).symm
 refine⟨S6,fun j t ht=>?_⟩
 rw[QO] at ht
 cases j with
 | zero=>simp at ht;subst ht;exact TG
 | succ j=>simp at ht
end Go.Proofs.YtecmlmofhabonaaGreatDoor
end
