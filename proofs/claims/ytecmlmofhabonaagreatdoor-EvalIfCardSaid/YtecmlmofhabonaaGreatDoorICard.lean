/- metewandlaw15.EvalIf returns true for every list of numbers: the row and its tied card; no condition but the row's own. -/
import Derived.Test.YtecmlmofhabonaaGreatDoorILaw
import Derived.Test.YtecmlmofhabonaaGreatDoorIFacts
import Derived.Test.YtecmlmofhabonaaGreatDoorTie
import Derived.Test.YtecmlmofhabonaaGreatDoorCards
noncomputable section
namespace Go.Proofs.YtecmlmofhabonaaGreatDoor
open Go Go.Ab Go.Nb Go.E4 Go.Ev Go.ChangeShapes Go.WideShapes Go.RowKit Go.Conc
set_option maxRecDepth 1000000
theorem evalIf_lifted (os:Os)(started:os.Started)(H:Type)(enc:TypeId×Value→H) :
 ReturnsInLeavingWide {} Tryz.checked os 4 .any (fun w args=>(Rows.evalIfSpec.pre enc Tryz.prog Tryz.f4 [] false w args∧laidMetH Tryz.prog kl w)∧sizedMet enc Tryz.prog Tryz.f4 (OpenSpec.ofChange Rows.evalIfSpec) false w args)
  (Rows.evalIfSpec.post enc Tryz.prog Tryz.f4 false true false false):=by
 refine Hg (C:=Tryz.checked) (X:=fun w _=>laidMetH Tryz.prog kl w) (fun _ _ _ hh h=>h.of_heap hh) Tryz.own started (by kernel_rfl) Tryz.func4
  (ChangeSpec.witness_at (enc:=enc) (C:=Tryz.checked) (os:=os) (X:=fun w _=>laidMetH Tryz.prog kl w) false (ZV os) #[.slice none 0 0] 8 (World.layVars_os _ _ _) (by kernel_rfl) (by kernel_rfl) (by kernel_rfl) (by kernel_rfl) (by kernel_rfl) (W5 os _)) ?_
 intro W base args ds gs before hval0 hW _ _ hL _;have hW':=hW;obtain⟨p,q,hA0,hV0,rfl,hfz,hnd⟩:=hW;have hA:DataW.TrodAll enc Tryz.prog W 0 (fun _=>true) true Tryz.f4.params.toList args.toList ds p:=hA0;have hV:DataW.TrodVars enc Tryz.prog W (fun _=>true) [] gs q:=hV0;have hp3:Tryz.f4.params = #[22]:=by kernel_rfl
 rw[hp3]at hA;obtain⟨v,d,rfl,rfl,hd⟩:=trodAll_one hA;have hok:=hval0 0 22 v (by rw[hp3];rfl) rfl;obtain⟨rfl,rfl⟩:gs=[]∧q=[]:=by
  cases gs with
  |nil=>exact⟨rfl,hV⟩|cons g r=>exact absurd hV (by intro h;cases h)
 obtain⟨xs,fz,hf,hlt,hn,hback⟩:=W1 hL (okWide_slice Tryz.underlying22 hok) hd;have e1:Rows.evalIfSpec.fn H ([d]++[]) = { results:=[.lit (.bool true)],args:=[d] }:=by simp[Rows.evalIfSpec]
 refine(Xy hL (if_law xs) hf hlt hn).mono fun e W' ⟨he,hb⟩=>?_
 subst he;refine⟨_,rfl,_,_,_,[],p,[],hW',?_,?_,?_,OY hb,fun h=>by cases h⟩
 ·rw[e1];exact trodAll_mk1 (shut_bool Tryz.underlying4 true)
 ·rw[e1,hp3];exact trodAll_mk1 (hback W' hb.block)
 ·rw[e1];rfl
end Go.Proofs.YtecmlmofhabonaaGreatDoor
namespace Go.Proofs.YtecmlmofhabonaaGreatDoor
open Go Go.Ab Go.ChangeShapes Go.WideShapes Go.RowKit Go.Conc
set_option maxRecDepth 1000000
theorem evalIf_holds:Rows.EvalIfSaid:=
 OpenClaim.holds_of_wide_leaving 4 Tryz.f4 rfl rfl rfl rfl rfl rfl rfl ⟨rfl,rfl,rfl,rfl,rfl⟩ rfl rfl rfl rfl rfl named4 Tryz.func4 closed Lz wrap4
  (fun os started H enc _=>evalIf_lifted os started H enc)
theorem W6:Tryz.prog.mainIs=some (true, "a5ae0b84683adad0f8db137b66c864db1351bf266e636114d1b25ec550765222".toList):=by kernel_rfl
theorem AbN:Rows.evalIfRow.wfByText (OpenSpec.ofChange Rows.evalIfSpec)=true:=by kernel_rfl
theorem Xm:Rows.evalIfCard.goes=Rows.evalIfRow.goesBy Tryz.prog:=by kernel_rfl
theorem Uu:true=Tryz.prog.looks []:=by kernel_rfl
theorem SN:Tryz.f4.params = #[22]:=by kernel_rfl
theorem U7:Tryz.prog.wantsStandIn 22=false:=by kernel_rfl
theorem Xg:Tryz.prog.funcNamed "metewand/metewandlaw15.EvalIf" = some 4:=by kernel_rfl
theorem evalIf_card:Rows.EvalIfCardSaid:=by
 refine⟨Claim7.tied_new_at .later [.data,.data,.data,.data,.handle,.sentinel,.sentinel,.pinned] true (Claim7.new_of_sixth evalIf_holds (true, "a5ae0b84683adad0f8db137b66c864db1351bf266e636114d1b25ec550765222") true rfl ⟨rfl,rfl⟩ W6 (by rfl)
  (fun f fn hf hfn=>?_)) AbN,(fun _ h=>by cases h),evalIf_row_tie,(fun h=>by cases h),Xm⟩
 obtain rfl:f=4:=Option.some.inj (Xg.symm.trans hf) |>.symm;obtain rfl:fn=Tryz.f4:=(Option.some.inj (Tryz.func4.symm.trans hfn)).symm;refine⟨Uu,fun j t ht=>?_⟩;rw[SN]at ht;cases j with
 |zero=>simp at ht;subst ht;exact U7
 |succ j=>simp at ht
end Go.Proofs.YtecmlmofhabonaaGreatDoor
end
