/- What the generators make of any list of numbers. -/
import Derived.Test.YtecmlmofhabonaaGreatDoorGen5
import Derived.Test.YtecmlmofhabonaaGreatDoorGen6
import Derived.Test.YtecmlmofhabonaaGreatDoorGen7
import Derived.Test.YtecmlmofhabonaaGreatDoorNode4
import Derived.Test.YtecmlmofhabonaaGreatDoorGen4
noncomputable section
namespace Go.Ev
open Go Go.Ab Go.Nl Go.Nb Go.RowKit Go.Proofs Go.E4 Go.Ro
set_option maxRecDepth 1000000
theorem r_fun (l:List AV):Jc l 11 [] (fun f=>ZF (FD f)) F3 funT []=true:=by
 have h0:=r_fun0 l;have h1:=r_fun1 l;have h2:=r_fun2 l;have h3:=r_fun3 l;have h4:=r_fun4 l
 unfold runF at h0 h1 h2 h3 h4
 simp only[funT,Jc,List.range,List.range.loop,List.all_cons,List.all_nil,Bool.and_true,List.nil_append,List.cons_append,h0,h1,h2,h3,h4]
theorem f_fun:QT 7 funT=true:=by kernel_rfl
theorem AcZ (l:List AV):EL l [] 10 [] (.ret (.psl (A8.flatMap fun p=>match p.2.1 with | .agg cs=>cs|_=>[]) 5 none))=true:=by kernel_rfl
def bindF:List OF:=[gF 38 [.int .i64 9,.int .i64 5] 1 5 (.agg [.sel 3,.sel 4]),gF 38 [.int .i64 9,.int .i64 5] 5 9 (.agg [.sel 7,.sel 8]),gF 38 [.int .i64 9,.int .i64 5] 9 13 (.agg [.sel 11,.sel 12]),gF 38 [.int .i64 9,.int .i64 5] 13 17 (.agg [.sel 15,.sel 16]),gF 38 [.int .i64 9,.int .i64 5] 17 21 (.agg [.sel 19,.sel 20]),gF 38 [.int .i64 9,.int .i64 5] 21 25 (.agg [.sel 23,.sel 24]),gF 38 [.int .i64 9,.int .i64 5] 25 29 (.agg [.sel 27,.sel 28]),gF 38 [.int .i64 9,.int .i64 5] 29 33 (.agg [.sel 31,.sel 32]),gF 38 [.int .i64 9,.int .i64 5] 33 37 (.agg [.sel 35,.sel 36])]
def bindR:AV:=.psl [.str [97],.emp,.psl [.sel 3,.sel 4] 1 none,.emp,.str [98],.emp,.psl [.sel 7,.sel 8] 1 none,dmU [109],.str [99],.emp,.psl [.sel 11,.sel 12] 1 none,dmU [115],.str [118],.psl [.int .i64 3] 1 none,.psl [.sel 15,.sel 16,.sel 19,.sel 20,.sel 23,.sel 24] 3 none,dmU [109],.str [119],.psl [.int .i64 3] 1 none,.psl [.sel 27,.sel 28,.sel 31,.sel 32,.sel 35,.sel 36] 3 none,.emp] 5 none
theorem r_bind (l:List AV):(bindF.all (fun q=>BH q.N q.args q.l q.res q.u)&&Br (EM l [] bindF [] [] []) 4000 80 1 12 [.ptr 0 0] [(0,stO 1)] (.ret bindR) [(0,some (stO 37))])=true:=by kernel_rfl
theorem Dd (xs:List Int)(t:Nat)(ht:t+3<1000000):∃i:It,∃t',t≤t'∧t'≤t+3∧Fr i.t i.d i.q∧CM P4 gl5 1 38 [.ptr 0 0,.int .i64 9,.int .i64 5] [(0,CJ xs t)] (.ret (.agg [.str i.t,.str i.d])) [(0,some (CJ xs t'))]:=by
 obtain⟨a,t',h1,h2,h3,h4⟩:=Pz (xs:=xs) (f:=38) (args:=[.int .i64 9,.int .i64 5]) (fun _=>rfl) (res:=Yl) (fun _ _=>rfl) (ty:=VE) (t0:=t) ratT [] _ t 3 r_rat f_rat (Rf xs t) rfl rfl ht
 exact⟨⟨_,_,_⟩,t',h1,h2,ZT h3,h4⟩
theorem T0 (xs:List Int)(t:Nat)(ht:t+27<1000000):∃b:Bn,∃t',Rc b∧t≤t'∧t'≤t+27∧CM P4 gl5 1 12 [.ptr 0 0] [(0,CJ xs t)] (.ret (C5 b)) [(0,some (CJ xs t'))]:=by
 obtain⟨i0,t0,a0,b0,c0,m0⟩:=Dd xs t (by omega)
 obtain⟨i1,t1,a1,b1,c1,m1⟩:=Dd xs t0 (by omega)
 obtain⟨i2,t2,a2,b2,c2,m2⟩:=Dd xs t1 (by omega)
 obtain⟨i3,t3,a3,b3,c3,m3⟩:=Dd xs t2 (by omega)
 obtain⟨i4,t4,a4,b4,c4,m4⟩:=Dd xs t3 (by omega)
 obtain⟨i5,t5,a5,b5,c5,m5⟩:=Dd xs t4 (by omega)
 obtain⟨i6,t6,a6,b6,c6,m6⟩:=Dd xs t5 (by omega)
 obtain⟨i7,t7,a7,b7,c7,m7⟩:=Dd xs t6 (by omega)
 obtain⟨i8,t8,a8,b8,c8,m8⟩:=Dd xs t7 (by omega)
 have hr:=r_bind [BE xs,.int .i64 t,.int .u64 (stN xs t),.str i0.t,.str i0.d,.int .i64 t0,.int .u64 (stN xs t0),.str i1.t,.str i1.d,.int .i64 t1,.int .u64 (stN xs t1),.str i2.t,.str i2.d,.int .i64 t2,.int .u64 (stN xs t2),.str i3.t,.str i3.d,.int .i64 t3,.int .u64 (stN xs t3),.str i4.t,.str i4.d,.int .i64 t4,.int .u64 (stN xs t4),.str i5.t,.str i5.d,.int .i64 t5,.int .u64 (stN xs t5),.str i6.t,.str i6.d,.int .i64 t6,.int .u64 (stN xs t6),.str i7.t,.str i7.d,.int .i64 t7,.int .u64 (stN xs t7),.str i8.t,.str i8.d,.int .i64 t8,.int .u64 (stN xs t8)]
 simp only[Bool.and_eq_true] at hr
 have:=Ci (l:=[BE xs,.int .i64 t,.int .u64 (stN xs t),.str i0.t,.str i0.d,.int .i64 t0,.int .u64 (stN xs t0),.str i1.t,.str i1.d,.int .i64 t1,.int .u64 (stN xs t1),.str i2.t,.str i2.d,.int .i64 t2,.int .u64 (stN xs t2),.str i3.t,.str i3.d,.int .i64 t3,.int .u64 (stN xs t3),.str i4.t,.str i4.d,.int .i64 t4,.int .u64 (stN xs t4),.str i5.t,.str i5.d,.int .i64 t5,.int .u64 (stN xs t5),.str i6.t,.str i6.d,.int .i64 t6,.int .u64 (stN xs t6),.str i7.t,.str i7.d,.int .i64 t7,.int .u64 (stN xs t7),.str i8.t,.str i8.d,.int .i64 t8,.int .u64 (stN xs t8)]) (mu:=[]) (all_cons (Ir xs)<|all_cons rfl<|all_cons rfl<|all_cons rfl<|all_cons rfl<|all_cons rfl<|all_cons rfl<|all_cons rfl<|all_cons rfl<|all_cons rfl<|all_cons rfl<|all_cons rfl<|all_cons rfl<|all_cons rfl<|all_cons rfl<|all_cons rfl<|all_cons rfl<|all_cons rfl<|all_cons rfl<|all_cons rfl<|all_cons rfl<|all_cons rfl<|all_cons rfl<|all_cons rfl<|all_cons rfl<|all_cons rfl<|all_cons rfl<|all_cons rfl<|all_cons rfl<|all_cons rfl<|all_cons rfl<|all_cons rfl<|all_cons rfl<|all_cons rfl<|all_cons rfl<|all_cons rfl<|all_cons rfl<|all_cons rfl<|all_cons rfl<|rfl) rfl hr.1 (Aa (D4 m0 rfl rfl rfl rfl)<|Aa (D4 m1 rfl rfl rfl rfl)<|Aa (D4 m2 rfl rfl rfl rfl)<|Aa (D4 m3 rfl rfl rfl rfl)<|Aa (D4 m4 rfl rfl rfl rfl)<|Aa (D4 m5 rfl rfl rfl rfl)<|Aa (D4 m6 rfl rfl rfl rfl)<|Aa (D4 m7 rfl rfl rfl rfl)<|Aa (D4 m8 rfl rfl rfl rfl)<|Ad) Ad Ad Ad hr.2
 exact⟨⟨i0,i1,i2,i3,i4,i5,i6,i7,i8⟩,t8,⟨c0,c1,c2,c3,c4,c5,c6,c7,c8⟩,by omega,by omega,this⟩
theorem WI (xs:List Int)(t:Nat)(ht:t+7<1000000):∃f:FB,∃t',F3 f=true∧t≤t'∧t'≤t+7∧CM P4 gl5 1 11 [.ptr 0 0] [(0,CJ xs t)] (.ret (C4 (FD f))) [(0,some (CJ xs t'))]:=by
 obtain⟨a,t',h1,h2,h3,h4⟩:=Pz (xs:=xs) (f:=11) (args:=[]) (fun _=>rfl) (res:=fun f=>ZF (FD f)) (fun _ a=>by
  match a with
  | none=>rfl
  | some (_,_,_)=>rfl) (ty:=F3) (t0:=t) funT [] _ t 7 r_fun f_fun (Rf xs t) rfl rfl ht
 exact⟨a,t',h3,h1,h2,h4⟩
end Go.Ev
end
