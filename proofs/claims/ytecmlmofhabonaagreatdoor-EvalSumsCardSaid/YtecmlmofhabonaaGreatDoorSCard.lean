/- metewandlaw15.EvalSums returns true for every list of numbers: the row and its tied card; no condition but the row's own. -/
import Derived.Test.YtecmlmofhabonaaGreatDoorSLaw
import Derived.Test.YtecmlmofhabonaaGreatDoorSFacts
import Derived.Test.YtecmlmofhabonaaGreatDoorTie
import Derived.Test.YtecmlmofhabonaaGreatDoorCards
noncomputable section
namespace Go.Proofs.YtecmlmofhabonaaGreatDoor
open Go Go.Ab Go.Nb Go.E4 Go.Ev Go.ChangeShapes Go.WideShapes Go.RowKit Go.Conc
set_option maxRecDepth 1000000
theorem evalSums_lifted (os:Os)(started:os.Started)(H:Type)(enc:TypeId×Value→H) :
 ReturnsInLeavingWide {} Tryz.checked os 8 .any (fun w args=>(Rows.evalSumsSpec.pre enc Tryz.prog Tryz.f8 [] false w args∧laidMetH Tryz.prog kl w)∧sizedMet enc Tryz.prog Tryz.f8 (OpenSpec.ofChange Rows.evalSumsSpec) false w args)
  (Rows.evalSumsSpec.post enc Tryz.prog Tryz.f8 false true false false):=by
 refine Ho (C:=Tryz.checked) (X:=fun w _=>laidMetH Tryz.prog kl w) (fun _ _ _ hh h=>h.of_heap hh) Tryz.own started (by kernel_rfl) Tryz.func8
  (ChangeSpec.witness_at (enc:=enc) (C:=Tryz.checked) (os:=os) (X:=fun w _=>laidMetH Tryz.prog kl w) false (Y3 os) #[.slice none 0 0] 8 (World.layVars_os _ _ _) (by kernel_rfl) (by kernel_rfl) (by kernel_rfl) (by kernel_rfl) (by kernel_rfl) (Yi os _)) ?_
 intro W base args ds gs before hval0 hW _ _ hL _;have hW':=hW;obtain⟨p,q,hA0,hV0,rfl,hfz,hnd⟩:=hW;have hA:DataW.TrodAll enc Tryz.prog W 0 (fun _=>true) true Tryz.f8.params.toList args.toList ds p:=hA0;have hV:DataW.TrodVars enc Tryz.prog W (fun _=>true) [] gs q:=hV0;have hp3:Tryz.f8.params = #[22]:=by kernel_rfl
 rw[hp3]at hA;obtain⟨v,d,rfl,rfl,hd⟩:=trodAll_one hA;have hok:=hval0 0 22 v (by rw[hp3];rfl) rfl;obtain⟨rfl,rfl⟩:gs=[]∧q=[]:=by
  cases gs with
  |nil=>exact⟨rfl,hV⟩|cons g r=>exact absurd hV (by intro h;cases h)
 obtain⟨xs,fz,hf,hlt,hn,hback⟩:=Xj hL (okWide_slice Tryz.underlying22 hok) hd;have e1:Rows.evalSumsSpec.fn H ([d]++[]) = { results:=[.lit (.bool true)],args:=[d] }:=by simp[Rows.evalSumsSpec]
 refine(X3 hL (ZA xs) hf hlt hn).mono fun e W' ⟨he,hb⟩=>?_
 subst he;refine⟨_,rfl,_,_,_,[],p,[],hW',?_,?_,?_,Oi hb,fun h=>by cases h⟩
 ·rw[e1];exact trodAll_mk1 (shut_bool Tryz.underlying4 true)
 ·rw[e1,hp3];exact trodAll_mk1 (hback W' hb.block)
 ·rw[e1];rfl
end Go.Proofs.YtecmlmofhabonaaGreatDoor
namespace Go.Proofs.YtecmlmofhabonaaGreatDoor
open Go Go.Ab Go.ChangeShapes Go.WideShapes Go.RowKit Go.Conc
set_option maxRecDepth 1000000
theorem evalSums_holds:Rows.EvalSumsSaid:=
 OpenClaim.holds_of_wide_leaving 8 Tryz.f8 rfl rfl rfl rfl rfl rfl rfl ⟨rfl,rfl,rfl,rfl,rfl⟩ rfl rfl rfl rfl rfl named8 Tryz.func8 closed inst8 wrap8
  (fun os started H enc _=>evalSums_lifted os started H enc)
theorem X2:Tryz.prog.mainIs=some (true, "a5ae0b84683adad0f8db137b66c864db1351bf266e636114d1b25ec550765222".toList):=by kernel_rfl
theorem Ac9:Rows.evalSumsRow.wfByText (OpenSpec.ofChange Rows.evalSumsSpec)=true:=by kernel_rfl
theorem Xe:Rows.evalSumsCard.goes=Rows.evalSumsRow.goesBy Tryz.prog:=by kernel_rfl
theorem Ve:true=Tryz.prog.looks []:=by kernel_rfl
theorem Rg:Tryz.f8.params = #[22]:=by kernel_rfl
theorem Vt:Tryz.prog.wantsStandIn 22=false:=by kernel_rfl
theorem Xq:Tryz.prog.funcNamed "metewand/metewandlaw15.EvalSums" = some 8:=by kernel_rfl
theorem evalSums_card:Rows.EvalSumsCardSaid:=by
 refine⟨Claim7.tied_new_at .later [.data,.data,.data,.data,.handle,.sentinel,.sentinel,.pinned] true (Claim7.new_of_sixth evalSums_holds (true, "a5ae0b84683adad0f8db137b66c864db1351bf266e636114d1b25ec550765222") true rfl ⟨rfl,rfl⟩ X2 (by rfl)
  (fun f fn hf hfn=>?_)) Ac9,(fun _ h=>by cases h),evalSums_row_tie,(fun h=>by cases h),Xe⟩
 obtain rfl:f=8:=Option.some.inj (Xq.symm.trans hf) |>.symm;obtain rfl:fn=Tryz.f8:=(Option.some.inj (Tryz.func8.symm.trans hfn)).symm;refine⟨Ve,fun j t ht=>?_⟩;rw[Rg]at ht;cases j with
 |zero=>simp at ht;subst ht;exact Vt
 |succ j=>simp at ht
end Go.Proofs.YtecmlmofhabonaaGreatDoor
end
