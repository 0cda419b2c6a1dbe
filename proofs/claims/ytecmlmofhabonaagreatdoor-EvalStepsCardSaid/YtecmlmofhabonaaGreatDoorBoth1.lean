/- Operations on values, told of all numbers within the bounds. -/
import Derived.Test.YtecmlmofhabonaaGreatDoorBoth
noncomputable section
namespace Go.Ev
open Go Go.Ab Go.Nl Go.Nb Go.RowKit Go.Proofs Go.E4
set_option maxRecDepth 1000000
noncomputable def EL (l:List AV)(facts:List OF)(f:FuncId)(args:List AV)(r:AM):Bool:=facts.all (fun q=>BH q.N q.args q.l q.res q.u)&&Br (EM l [] facts [] [] []) 4000 80 0 f args [] r []
theorem Bj {l:List AV}(hl:(l.all fun x=>Ay x&&x.cell)=true){facts:List OF}(hf:∀q∈facts,BM (Am l) (mpL []) q){f:FuncId}{args A:List AV}{r R:AM}(h:EL l facts f args r=true)(hA:Au (Am l) noT args=A)(hR:Bu (Am l) noT r=R):VF f A R:=by
 subst hA hR
 unfold EL at h
 simp only[Bool.and_eq_true] at h
 exact Ci hl (mu:=[]) rfl h.1 hf Ad Ad Ad h.2
def AbD (d:Dm):List AV:=[.psl [.emp,.psl [.sel 3,.sel 4,.sel 5,.sel 6] 1 none,Al d,.emp,.psl [.sel 7,.sel 8,.sel 9,.sel 10] 1 none,Al d,.emp,.psl [.sel 11,.sel 12,.sel 13,.sel 14] 1 none,Al d] 3 none]
def retS31 (d:Dm):AM:=.ret (.agg [.psl [.int .i64 3] 1 none,.psl [.sel 3,.sel 4,.sel 5,.sel 6,.sel 7,.sel 8,.sel 9,.sel 10,.sel 11,.sel 12,.sel 13,.sel 14] 3 none,Al d])
theorem Abh (l:List AV):(([.pl,.m,.s,.m2,.ms]:List Dm).all fun d=>EL l AU 269 (AbD d) (retS31 d))=true:=by kernel_rfl
def Aby (d:Dm):List AV:=[.psl [.emp,.psl [.sel 3,.sel 4,.sel 5,.sel 6] 1 none,Al d] 1 none]
def XS:Nat→List OF
 | 0=>AU++([]++[vq 98 [.agg [.sel 3,.sel 4,.sel 5,.sel 6]] (.ret (.tup [.agg [.sel 7,.sel 8],.bool false]))])
 | _=>AU++([]++[vq 98 [.agg [.sel 3,.sel 4,.sel 5,.sel 6]] (.ret (.tup [.agg [.sel 7,.sel 8],.bool true]))])
def retT11 (d:Dm)(k:Nat):AM:=bif Nat.blt k 1 then Cn 13 else .ret (.agg [.emp,.psl [.sel 3,.sel 4,.sel 5,.sel 6] 1 none,Al d])
theorem UY (l:List AV):(([.pl,.m,.s,.m2,.ms]:List Dm).all fun d=>(List.range 2).all fun k=>EL l (XS k) 268 (Aby d) (retT11 d k))=true:=by kernel_rfl
def AbQ (d:Dm):List AV:=[.psl [.emp,.psl [.sel 3,.sel 4,.sel 5,.sel 6] 1 none,Al d,.emp,.psl [.sel 7,.sel 8,.sel 9,.sel 10] 1 none,Al d] 2 none]
def AaO:Nat→List OF
 | 0=>AU++([vq 158 [.agg [.sel 3,.sel 4,.sel 5,.sel 6],.agg [.sel 7,.sel 8,.sel 9,.sel 10]] (.ret (.agg [.sel 11,.sel 12,.sel 13,.sel 14]))]++[vq 98 [.agg [.sel 11,.sel 12,.sel 13,.sel 14]] (.ret (.tup [.agg [.sel 15,.sel 16],.bool false]))])
 | _=>AU++([vq 158 [.agg [.sel 3,.sel 4,.sel 5,.sel 6],.agg [.sel 7,.sel 8,.sel 9,.sel 10]] (.ret (.agg [.sel 11,.sel 12,.sel 13,.sel 14]))]++[vq 98 [.agg [.sel 11,.sel 12,.sel 13,.sel 14]] (.ret (.tup [.agg [.sel 15,.sel 16],.bool true]))])
def retT21 (d:Dm)(k:Nat):AM:=bif Nat.blt k 1 then Cn 13 else .ret (.agg [.emp,.psl [.sel 11,.sel 12,.sel 13,.sel 14] 1 none,Al d])
theorem VC (l:List AV):(([.pl,.m,.s,.m2,.ms]:List Dm).all fun d=>(List.range 2).all fun k=>EL l (AaO k) 268 (AbQ d) (retT21 d k))=true:=by kernel_rfl
def Abn (d:Dm):List AV:=[.psl [.emp,.psl [.sel 3,.sel 4,.sel 5,.sel 6] 1 none,Al d,.emp,.psl [.sel 7,.sel 8,.sel 9,.sel 10] 1 none,Al d,.emp,.psl [.sel 11,.sel 12,.sel 13,.sel 14] 1 none,Al d] 3 none]
def AaA:Nat→List OF
 | 0=>AU++([vq 158 [.agg [.sel 3,.sel 4,.sel 5,.sel 6],.agg [.sel 7,.sel 8,.sel 9,.sel 10]] (.ret (.agg [.sel 15,.sel 16,.sel 17,.sel 18])),vq 158 [.agg [.sel 15,.sel 16,.sel 17,.sel 18],.agg [.sel 11,.sel 12,.sel 13,.sel 14]] (.ret (.agg [.sel 19,.sel 20,.sel 21,.sel 22]))]++[vq 98 [.agg [.sel 19,.sel 20,.sel 21,.sel 22]] (.ret (.tup [.agg [.sel 23,.sel 24],.bool false]))])
 | _=>AU++([vq 158 [.agg [.sel 3,.sel 4,.sel 5,.sel 6],.agg [.sel 7,.sel 8,.sel 9,.sel 10]] (.ret (.agg [.sel 15,.sel 16,.sel 17,.sel 18])),vq 158 [.agg [.sel 15,.sel 16,.sel 17,.sel 18],.agg [.sel 11,.sel 12,.sel 13,.sel 14]] (.ret (.agg [.sel 19,.sel 20,.sel 21,.sel 22]))]++[vq 98 [.agg [.sel 19,.sel 20,.sel 21,.sel 22]] (.ret (.tup [.agg [.sel 23,.sel 24],.bool true]))])
def retT31 (d:Dm)(k:Nat):AM:=bif Nat.blt k 1 then Cn 13 else .ret (.agg [.emp,.psl [.sel 19,.sel 20,.sel 21,.sel 22] 1 none,Al d])
theorem Vp (l:List AV):(([.pl,.m,.s,.m2,.ms]:List Dm).all fun d=>(List.range 2).all fun k=>EL l (AaA k) 268 (Abn d) (retT31 d k))=true:=by kernel_rfl
def AaX (d:Dm):List AV:=[.psl [.emp,.psl [.sel 3,.sel 4,.sel 5,.sel 6] 1 none,Al d,.emp,.psl [.sel 7,.sel 8,.sel 9,.sel 10] 1 none,Al d,.emp,.psl [.sel 11,.sel 12,.sel 13,.sel 14] 1 none,Al d,.emp,.psl [.sel 15,.sel 16,.sel 17,.sel 18] 1 none,Al d] 4 none]
def Zh:Nat→List OF
 | 0=>AU++([vq 158 [.agg [.sel 3,.sel 4,.sel 5,.sel 6],.agg [.sel 7,.sel 8,.sel 9,.sel 10]] (.ret (.agg [.sel 19,.sel 20,.sel 21,.sel 22])),vq 158 [.agg [.sel 19,.sel 20,.sel 21,.sel 22],.agg [.sel 11,.sel 12,.sel 13,.sel 14]] (.ret (.agg [.sel 23,.sel 24,.sel 25,.sel 26])),vq 158 [.agg [.sel 23,.sel 24,.sel 25,.sel 26],.agg [.sel 15,.sel 16,.sel 17,.sel 18]] (.ret (.agg [.sel 27,.sel 28,.sel 29,.sel 30]))]++[vq 98 [.agg [.sel 27,.sel 28,.sel 29,.sel 30]] (.ret (.tup [.agg [.sel 31,.sel 32],.bool false]))])
 | _=>AU++([vq 158 [.agg [.sel 3,.sel 4,.sel 5,.sel 6],.agg [.sel 7,.sel 8,.sel 9,.sel 10]] (.ret (.agg [.sel 19,.sel 20,.sel 21,.sel 22])),vq 158 [.agg [.sel 19,.sel 20,.sel 21,.sel 22],.agg [.sel 11,.sel 12,.sel 13,.sel 14]] (.ret (.agg [.sel 23,.sel 24,.sel 25,.sel 26])),vq 158 [.agg [.sel 23,.sel 24,.sel 25,.sel 26],.agg [.sel 15,.sel 16,.sel 17,.sel 18]] (.ret (.agg [.sel 27,.sel 28,.sel 29,.sel 30]))]++[vq 98 [.agg [.sel 27,.sel 28,.sel 29,.sel 30]] (.ret (.tup [.agg [.sel 31,.sel 32],.bool true]))])
def retT41 (d:Dm)(k:Nat):AM:=bif Nat.blt k 1 then Cn 13 else .ret (.agg [.emp,.psl [.sel 27,.sel 28,.sel 29,.sel 30] 1 none,Al d])
theorem Vu (l:List AV):(([.pl,.m,.s,.m2,.ms]:List Dm).all fun d=>(List.range 2).all fun k=>EL l (Zh k) 268 (AaX d) (retT41 d k))=true:=by kernel_rfl
def factsT13:Nat→List OF
 | 0=>AU++([]++[vq 98 [.agg [.sel 3,.sel 4,.sel 5,.sel 6]] (.ret (.tup [.agg [.sel 15,.sel 16],.bool false]))])
 | 1=>AU++([]++[vq 98 [.agg [.sel 3,.sel 4,.sel 5,.sel 6]] (.ret (.tup [.agg [.sel 15,.sel 16],.bool true])),vq 98 [.agg [.sel 7,.sel 8,.sel 9,.sel 10]] (.ret (.tup [.agg [.sel 17,.sel 18],.bool false]))])
 | 2=>AU++([]++[vq 98 [.agg [.sel 3,.sel 4,.sel 5,.sel 6]] (.ret (.tup [.agg [.sel 15,.sel 16],.bool true])),vq 98 [.agg [.sel 7,.sel 8,.sel 9,.sel 10]] (.ret (.tup [.agg [.sel 17,.sel 18],.bool true])),vq 98 [.agg [.sel 11,.sel 12,.sel 13,.sel 14]] (.ret (.tup [.agg [.sel 19,.sel 20],.bool false]))])
 | _=>AU++([]++[vq 98 [.agg [.sel 3,.sel 4,.sel 5,.sel 6]] (.ret (.tup [.agg [.sel 15,.sel 16],.bool true])),vq 98 [.agg [.sel 7,.sel 8,.sel 9,.sel 10]] (.ret (.tup [.agg [.sel 17,.sel 18],.bool true])),vq 98 [.agg [.sel 11,.sel 12,.sel 13,.sel 14]] (.ret (.tup [.agg [.sel 19,.sel 20],.bool true]))])
def AcY (d:Dm)(k:Nat):List AV:=[.agg [.psl [.int .i64 3] 1 none,.psl [.sel 3,.sel 4,.sel 5,.sel 6,.sel 7,.sel 8,.sel 9,.sel 10,.sel 11,.sel 12,.sel 13,.sel 14] 3 none,Al d],.agg [.emp,.psl (src (.ofNat k)) 1 none,.emp]]
def retP31 (d:Dm):Nat→AM
 | 0=>.ret (.agg [.emp,.psl [.sel 3,.sel 4,.sel 5,.sel 6] 1 none,Al d])
 | 1=>.ret (.agg [.emp,.psl [.sel 7,.sel 8,.sel 9,.sel 10] 1 none,Al d])
 | 2=>.ret (.agg [.emp,.psl [.sel 11,.sel 12,.sel 13,.sel 14] 1 none,Al d])
 | _=>Cn 3
theorem LD (l:List AV):(([.pl,.m,.s,.m2,.ms]:List Dm).all fun d=>(List.range 4).all fun k=>EL l [] 273 (AcY d k) (retP31 d k))=true:=by kernel_rfl
def argsW:List AV:=[.agg [.emp,.psl [.sel 3,.sel 4,.sel 5,.sel 6] 1 none,Al .m],.int .i64 2]
def Tr (b:Bool):List OF:=AU++[vq 161 [sr 1,.agg [.sel 3,.sel 4,.sel 5,.sel 6]] (.ret (.agg [.sel 7,.sel 8,.sel 9,.sel 10])),vq 161 [.agg [.sel 7,.sel 8,.sel 9,.sel 10],.agg [.sel 3,.sel 4,.sel 5,.sel 6]] (.ret (.agg [.sel 11,.sel 12,.sel 13,.sel 14])),vq 165 [.int .i64 2,.int .i64 1] (.ret (sr 2)),vq 98 [.agg [.sel 11,.sel 12,.sel 13,.sel 14]] (.ret (.tup [.agg [.sel 15,.sel 16],.bool b]))]
theorem runsW (l:List AV):(EL l (Tr true) 272 argsW (.ret (.agg [.emp,.psl [.sel 11,.sel 12,.sel 13,.sel 14] 1 none,Al .m2]))&&EL l (Tr false) 272 argsW (Cn 13))=true:=by kernel_rfl
theorem Zv (l:List AV):EL l [vq 165 [.sel 0,.int .i64 1] (.ret (.agg [.sel 1,.sel 2,.sel 3,.sel 4]))] 271 [.sel 0] (.ret (.agg [.emp,.psl [.sel 1,.sel 2,.sel 3,.sel 4] 1 none,.emp]))=true:=by kernel_rfl
structure Wid (k:Nat)(q:Q):Prop where
 num:Fits k q.1
 den:Fits k q.2
 pos:0<q.2
theorem Ex {q:Q}(h:Ok q):Wid 45 q:=by
 have:=h.1
 unfold Be at this
 simp only[Bool.and_eq_true] at this
 exact⟨IE this.1,IE this.2,h.2⟩
theorem BF {k:Nat}{a b:Q}(ha:Wid k a)(hb:Bw b):Wid (k+47) (Ak a b):=by
 have h2:Fits (k+46) (b.1*a.2):=Ao (by omega) (BR hb.num ha.den)
 have h3:=NH (BR ha.num hb.den) h2
 have h4:Fits (k+47) (a.2*b.2):=Ao (by omega) (BR ha.den hb.den)
 have hq:a.2*b.2≠0:=by have:=Int.mul_pos ha.pos hb.pos;omega
 exact⟨(Gv (Ao (by omega) h3) h4).1,(Gv (Ao (by omega) h3) h4).2,Po hq⟩
theorem CO {k:Nat}{q:Q}(h:Wid k q)(hk:k≤400):Wide q:=⟨Ao hk h.num,Ao hk h.den,h.pos⟩
theorem Dv {k:Nat}{a b:Q}(ha:Wid k a)(hk:k≤200)(hb:Bw b):VF 158 [BQ a,BQ b] (.ret (BQ (Ak a b))):=VF.of (Va (Ao hk ha.num) (Ao hk ha.den) ha.pos hb) (by kernel_rfl) (by simp[BP,Bx,Bf,Az,FP])
theorem OI {a:Q}(h:Ok a):Bw (AE (1,1) a):=by
 have hw:=Ex h
 have h1:Fits 46 (1*a.1):=by rw[Int.one_mul];exact Ao (by decide) hw.num
 have h2:Fits 46 (1*a.2):=by rw[Int.one_mul];exact Ao (by decide) hw.den
 have hp:(1:Int)*a.2≠0:=by have:=hw.pos;omega
 exact⟨(Gv h1 h2).1,(Gv h1 h2).2,Po hp⟩
theorem IZ (k:Nat)(h:k<B):(⟨[],[((k:Int),1)],.pl⟩:Vl).av=.agg [.emp,.psl (src (.ofNat k)) 1 none,.emp]:=by
 show AV.agg [.emp,.psl (Pr ((k:Int),1)++[]) 1 none,.emp]=_
 rw[GB (by simpa using h),List.append_nil]
 rfl
def Dk (us:List Vl):AV:=.psl (us.flatMap Vl.c) us.length none
theorem Aa0 (d:Dm)(a0 a1 a2:Q):VF 269 [Dk [⟨[],[a0],d⟩,⟨[],[a1],d⟩,⟨[],[a2],d⟩]] (.ret (⟨[3],[a0,a1,a2],d⟩:Vl).av):=
 Bj (l:=[Ag 1,Ag 2,Ag (-1),sg a0.1,lm a0.1,sg a0.2,lm a0.2,sg a1.1,lm a1.1,sg a1.2,lm a1.2,sg a2.1,lm a2.1,sg a2.2,lm a2.2]) (by(repeat (first|exact rfl|refine all_cons rfl ?_|refine all_cons (Ae _) ?_|refine all_cons (Aj _) ?_))) (AY _) (List.all_eq_true.1 (Abh _) d (by cases d<;>decide)) (by cases d<;>rfl) (by cases d<;>rfl)
theorem Xa (d:Dm){a0:Q}(ha0:Ok a0)(hf0:Be a0=false):VF 268 [Dk [⟨[],[a0],d⟩]] (Cn 13):=
 Bj (l:=[Ag 1,Ag 2,Ag (-1),sg a0.1,lm a0.1,sg a0.2,lm a0.2,Ag a0.1,Ag a0.2]) (by(repeat (first|exact rfl|refine all_cons rfl ?_|refine all_cons (Ae _) ?_|refine all_cons (Aj _) ?_))) (Af (AY _) (Af (Ad) (Aa (Aw (CO (Ex ha0) (by omega)) hf0 rfl rfl) Ad))) (List.all_eq_true.1 (List.all_eq_true.1 (UY _) d (by cases d<;>decide)) 0 (by decide)) (by cases d<;>rfl) (by cases d<;>rfl)
theorem Xp (d:Dm){a0:Q}(ha0:Ok a0)(hf0:Be a0=true):VF 268 [Dk [⟨[],[a0],d⟩]] (.ret (⟨[],[a0],d⟩:Vl).av):=
 Bj (l:=[Ag 1,Ag 2,Ag (-1),sg a0.1,lm a0.1,sg a0.2,lm a0.2,Ag a0.1,Ag a0.2]) (by(repeat (first|exact rfl|refine all_cons rfl ?_|refine all_cons (Ae _) ?_|refine all_cons (Aj _) ?_))) (Af (AY _) (Af (Ad) (Aa (Aw (CO (Ex ha0) (by omega)) hf0 rfl rfl) Ad))) (List.all_eq_true.1 (List.all_eq_true.1 (UY _) d (by cases d<;>decide)) 1 (by decide)) (by cases d<;>rfl) (by cases d<;>rfl)
theorem VJ (d:Dm){a0 a1:Q}(ha0:Ok a0)(ha1:Ok a1)(hf0:Be (Ak a0 a1)=false):VF 268 [Dk [⟨[],[a0],d⟩,⟨[],[a1],d⟩]] (Cn 13):=
 Bj (l:=[Ag 1,Ag 2,Ag (-1),sg a0.1,lm a0.1,sg a0.2,lm a0.2,sg a1.1,lm a1.1,sg a1.2,lm a1.2,sg (Ak a0 a1).1,lm (Ak a0 a1).1,sg (Ak a0 a1).2,lm (Ak a0 a1).2,Ag (Ak a0 a1).1,Ag (Ak a0 a1).2]) (by(repeat (first|exact rfl|refine all_cons rfl ?_|refine all_cons (Ae _) ?_|refine all_cons (Aj _) ?_))) (Af (AY _) (Af (Aa (Ac (Dv (Ex ha0) (by omega) ha1.st) rfl rfl) Ad) (Aa (Aw (CO (BF (Ex ha0) ha1.st) (by omega)) hf0 rfl rfl) Ad))) (List.all_eq_true.1 (List.all_eq_true.1 (VC _) d (by cases d<;>decide)) 0 (by decide)) (by cases d<;>rfl) (by cases d<;>rfl)
theorem Xr (d:Dm){a0 a1:Q}(ha0:Ok a0)(ha1:Ok a1)(hf0:Be (Ak a0 a1)=true):VF 268 [Dk [⟨[],[a0],d⟩,⟨[],[a1],d⟩]] (.ret (⟨[],[(Ak a0 a1)],d⟩:Vl).av):=
 Bj (l:=[Ag 1,Ag 2,Ag (-1),sg a0.1,lm a0.1,sg a0.2,lm a0.2,sg a1.1,lm a1.1,sg a1.2,lm a1.2,sg (Ak a0 a1).1,lm (Ak a0 a1).1,sg (Ak a0 a1).2,lm (Ak a0 a1).2,Ag (Ak a0 a1).1,Ag (Ak a0 a1).2]) (by(repeat (first|exact rfl|refine all_cons rfl ?_|refine all_cons (Ae _) ?_|refine all_cons (Aj _) ?_))) (Af (AY _) (Af (Aa (Ac (Dv (Ex ha0) (by omega) ha1.st) rfl rfl) Ad) (Aa (Aw (CO (BF (Ex ha0) ha1.st) (by omega)) hf0 rfl rfl) Ad))) (List.all_eq_true.1 (List.all_eq_true.1 (VC _) d (by cases d<;>decide)) 1 (by decide)) (by cases d<;>rfl) (by cases d<;>rfl)
theorem Xk (d:Dm){a0 a1 a2:Q}(ha0:Ok a0)(ha1:Ok a1)(ha2:Ok a2)(hf0:Be (Ak (Ak a0 a1) a2)=false):VF 268 [Dk [⟨[],[a0],d⟩,⟨[],[a1],d⟩,⟨[],[a2],d⟩]] (Cn 13):=
 Bj (l:=[Ag 1,Ag 2,Ag (-1),sg a0.1,lm a0.1,sg a0.2,lm a0.2,sg a1.1,lm a1.1,sg a1.2,lm a1.2,sg a2.1,lm a2.1,sg a2.2,lm a2.2,sg (Ak a0 a1).1,lm (Ak a0 a1).1,sg (Ak a0 a1).2,lm (Ak a0 a1).2,sg (Ak (Ak a0 a1) a2).1,lm (Ak (Ak a0 a1) a2).1,sg (Ak (Ak a0 a1) a2).2,lm (Ak (Ak a0 a1) a2).2,Ag (Ak (Ak a0 a1) a2).1,Ag (Ak (Ak a0 a1) a2).2]) (by(repeat (first|exact rfl|refine all_cons rfl ?_|refine all_cons (Ae _) ?_|refine all_cons (Aj _) ?_))) (Af (AY _) (Af (Aa (Ac (Dv (Ex ha0) (by omega) ha1.st) rfl rfl)<|Aa (Ac (Dv (BF (Ex ha0) ha1.st) (by omega) ha2.st) rfl rfl) Ad) (Aa (Aw (CO (BF (BF (Ex ha0) ha1.st) ha2.st) (by omega)) hf0 rfl rfl) Ad))) (List.all_eq_true.1 (List.all_eq_true.1 (Vp _) d (by cases d<;>decide)) 0 (by decide)) (by cases d<;>rfl) (by cases d<;>rfl)
theorem WL (d:Dm){a0 a1 a2:Q}(ha0:Ok a0)(ha1:Ok a1)(ha2:Ok a2)(hf0:Be (Ak (Ak a0 a1) a2)=true):VF 268 [Dk [⟨[],[a0],d⟩,⟨[],[a1],d⟩,⟨[],[a2],d⟩]] (.ret (⟨[],[(Ak (Ak a0 a1) a2)],d⟩:Vl).av):=
 Bj (l:=[Ag 1,Ag 2,Ag (-1),sg a0.1,lm a0.1,sg a0.2,lm a0.2,sg a1.1,lm a1.1,sg a1.2,lm a1.2,sg a2.1,lm a2.1,sg a2.2,lm a2.2,sg (Ak a0 a1).1,lm (Ak a0 a1).1,sg (Ak a0 a1).2,lm (Ak a0 a1).2,sg (Ak (Ak a0 a1) a2).1,lm (Ak (Ak a0 a1) a2).1,sg (Ak (Ak a0 a1) a2).2,lm (Ak (Ak a0 a1) a2).2,Ag (Ak (Ak a0 a1) a2).1,Ag (Ak (Ak a0 a1) a2).2]) (by(repeat (first|exact rfl|refine all_cons rfl ?_|refine all_cons (Ae _) ?_|refine all_cons (Aj _) ?_))) (Af (AY _) (Af (Aa (Ac (Dv (Ex ha0) (by omega) ha1.st) rfl rfl)<|Aa (Ac (Dv (BF (Ex ha0) ha1.st) (by omega) ha2.st) rfl rfl) Ad) (Aa (Aw (CO (BF (BF (Ex ha0) ha1.st) ha2.st) (by omega)) hf0 rfl rfl) Ad))) (List.all_eq_true.1 (List.all_eq_true.1 (Vp _) d (by cases d<;>decide)) 1 (by decide)) (by cases d<;>rfl) (by cases d<;>rfl)
theorem VS (d:Dm){a0 a1 a2 a3:Q}(ha0:Ok a0)(ha1:Ok a1)(ha2:Ok a2)(ha3:Ok a3)(hf0:Be (Ak (Ak (Ak a0 a1) a2) a3)=false):VF 268 [Dk [⟨[],[a0],d⟩,⟨[],[a1],d⟩,⟨[],[a2],d⟩,⟨[],[a3],d⟩]] (Cn 13):=
 Bj (l:=[Ag 1,Ag 2,Ag (-1),sg a0.1,lm a0.1,sg a0.2,lm a0.2,sg a1.1,lm a1.1,sg a1.2,lm a1.2,sg a2.1,lm a2.1,sg a2.2,lm a2.2,sg a3.1,lm a3.1,sg a3.2,lm a3.2,sg (Ak a0 a1).1,lm (Ak a0 a1).1,sg (Ak a0 a1).2,lm (Ak a0 a1).2,sg (Ak (Ak a0 a1) a2).1,lm (Ak (Ak a0 a1) a2).1,sg (Ak (Ak a0 a1) a2).2,lm (Ak (Ak a0 a1) a2).2,sg (Ak (Ak (Ak a0 a1) a2) a3).1,lm (Ak (Ak (Ak a0 a1) a2) a3).1,sg (Ak (Ak (Ak a0 a1) a2) a3).2,lm (Ak (Ak (Ak a0 a1) a2) a3).2,Ag (Ak (Ak (Ak a0 a1) a2) a3).1,Ag (Ak (Ak (Ak a0 a1) a2) a3).2]) (by(repeat (first|exact rfl|refine all_cons rfl ?_|refine all_cons (Ae _) ?_|refine all_cons (Aj _) ?_))) (Af (AY _) (Af (Aa (Ac (Dv (Ex ha0) (by omega) ha1.st) rfl rfl)<|Aa (Ac (Dv (BF (Ex ha0) ha1.st) (by omega) ha2.st) rfl rfl)<|Aa (Ac (Dv (BF (BF (Ex ha0) ha1.st) ha2.st) (by omega) ha3.st) rfl rfl) Ad) (Aa (Aw (CO (BF (BF (BF (Ex ha0) ha1.st) ha2.st) ha3.st) (by omega)) hf0 rfl rfl) Ad))) (List.all_eq_true.1 (List.all_eq_true.1 (Vu _) d (by cases d<;>decide)) 0 (by decide)) (by cases d<;>rfl) (by cases d<;>rfl)
theorem WV (d:Dm){a0 a1 a2 a3:Q}(ha0:Ok a0)(ha1:Ok a1)(ha2:Ok a2)(ha3:Ok a3)(hf0:Be (Ak (Ak (Ak a0 a1) a2) a3)=true):VF 268 [Dk [⟨[],[a0],d⟩,⟨[],[a1],d⟩,⟨[],[a2],d⟩,⟨[],[a3],d⟩]] (.ret (⟨[],[(Ak (Ak (Ak a0 a1) a2) a3)],d⟩:Vl).av):=
 Bj (l:=[Ag 1,Ag 2,Ag (-1),sg a0.1,lm a0.1,sg a0.2,lm a0.2,sg a1.1,lm a1.1,sg a1.2,lm a1.2,sg a2.1,lm a2.1,sg a2.2,lm a2.2,sg a3.1,lm a3.1,sg a3.2,lm a3.2,sg (Ak a0 a1).1,lm (Ak a0 a1).1,sg (Ak a0 a1).2,lm (Ak a0 a1).2,sg (Ak (Ak a0 a1) a2).1,lm (Ak (Ak a0 a1) a2).1,sg (Ak (Ak a0 a1) a2).2,lm (Ak (Ak a0 a1) a2).2,sg (Ak (Ak (Ak a0 a1) a2) a3).1,lm (Ak (Ak (Ak a0 a1) a2) a3).1,sg (Ak (Ak (Ak a0 a1) a2) a3).2,lm (Ak (Ak (Ak a0 a1) a2) a3).2,Ag (Ak (Ak (Ak a0 a1) a2) a3).1,Ag (Ak (Ak (Ak a0 a1) a2) a3).2]) (by(repeat (first|exact rfl|refine all_cons rfl ?_|refine all_cons (Ae _) ?_|refine all_cons (Aj _) ?_))) (Af (AY _) (Af (Aa (Ac (Dv (Ex ha0) (by omega) ha1.st) rfl rfl)<|Aa (Ac (Dv (BF (Ex ha0) ha1.st) (by omega) ha2.st) rfl rfl)<|Aa (Ac (Dv (BF (BF (Ex ha0) ha1.st) ha2.st) (by omega) ha3.st) rfl rfl) Ad) (Aa (Aw (CO (BF (BF (BF (Ex ha0) ha1.st) ha2.st) ha3.st) (by omega)) hf0 rfl rfl) Ad))) (List.all_eq_true.1 (List.all_eq_true.1 (Vu _) d (by cases d<;>decide)) 1 (by decide)) (by cases d<;>rfl) (by cases d<;>rfl)
theorem ZV (d:Dm)(a0 a1 a2:Q):VF 273 [(⟨[3],[a0,a1,a2],d⟩:Vl).av,(⟨[],[(((0:Nat):Int),1)],.pl⟩:Vl).av] (.ret (⟨[],[a0],d⟩:Vl).av):=by
 rw[IZ 0 (by decide)]
 exact Bj (l:=[Ag 1,Ag 2,Ag (-1),sg a0.1,lm a0.1,sg a0.2,lm a0.2,sg a1.1,lm a1.1,sg a1.2,lm a1.2,sg a2.1,lm a2.1,sg a2.2,lm a2.2]) (by(repeat (first|exact rfl|refine all_cons rfl ?_|refine all_cons (Ae _) ?_|refine all_cons (Aj _) ?_))) Ad (List.all_eq_true.1 (List.all_eq_true.1 (LD _) d (by cases d<;>decide)) 0 (by decide)) (by cases d<;>rfl) (by cases d<;>rfl)
theorem Aat (d:Dm)(a0 a1 a2:Q):VF 273 [(⟨[3],[a0,a1,a2],d⟩:Vl).av,(⟨[],[(((1:Nat):Int),1)],.pl⟩:Vl).av] (.ret (⟨[],[a1],d⟩:Vl).av):=by
 rw[IZ 1 (by decide)]
 exact Bj (l:=[Ag 1,Ag 2,Ag (-1),sg a0.1,lm a0.1,sg a0.2,lm a0.2,sg a1.1,lm a1.1,sg a1.2,lm a1.2,sg a2.1,lm a2.1,sg a2.2,lm a2.2]) (by(repeat (first|exact rfl|refine all_cons rfl ?_|refine all_cons (Ae _) ?_|refine all_cons (Aj _) ?_))) Ad (List.all_eq_true.1 (List.all_eq_true.1 (LD _) d (by cases d<;>decide)) 1 (by decide)) (by cases d<;>rfl) (by cases d<;>rfl)
theorem X7 (d:Dm)(a0 a1 a2:Q):VF 273 [(⟨[3],[a0,a1,a2],d⟩:Vl).av,(⟨[],[(((2:Nat):Int),1)],.pl⟩:Vl).av] (.ret (⟨[],[a2],d⟩:Vl).av):=by
 rw[IZ 2 (by decide)]
 exact Bj (l:=[Ag 1,Ag 2,Ag (-1),sg a0.1,lm a0.1,sg a0.2,lm a0.2,sg a1.1,lm a1.1,sg a1.2,lm a1.2,sg a2.1,lm a2.1,sg a2.2,lm a2.2]) (by(repeat (first|exact rfl|refine all_cons rfl ?_|refine all_cons (Ae _) ?_|refine all_cons (Aj _) ?_))) Ad (List.all_eq_true.1 (List.all_eq_true.1 (LD _) d (by cases d<;>decide)) 2 (by decide)) (by cases d<;>rfl) (by cases d<;>rfl)
theorem Yk (d:Dm)(a0 a1 a2:Q):VF 273 [(⟨[3],[a0,a1,a2],d⟩:Vl).av,(⟨[],[(((3:Nat):Int),1)],.pl⟩:Vl).av] (Cn 3):=by
 rw[IZ 3 (by decide)]
 exact Bj (l:=[Ag 1,Ag 2,Ag (-1),sg a0.1,lm a0.1,sg a0.2,lm a0.2,sg a1.1,lm a1.1,sg a1.2,lm a1.2,sg a2.1,lm a2.1,sg a2.2,lm a2.2]) (by(repeat (first|exact rfl|refine all_cons rfl ?_|refine all_cons (Ae _) ?_|refine all_cons (Aj _) ?_))) Ad (List.all_eq_true.1 (List.all_eq_true.1 (LD _) d (by cases d<;>decide)) 3 (by decide)) (by cases d<;>rfl) (by cases d<;>rfl)
def sqQ (a:Q):Q:=AE (AE (1,1) a) a
theorem Qp {a:Q}(h:Ok a){b:Bool}(hb:Be (sqQ a)=b):∀q∈Tr b,BM (Am [Ag 1,Ag 2,Ag (-1),sg a.1,lm a.1,sg a.2,lm a.2,sg (AE (1,1) a).1,lm (AE (1,1) a).1,sg (AE (1,1) a).2,lm (AE (1,1) a).2,sg (sqQ a).1,lm (sqQ a).1,sg (sqQ a).2,lm (sqQ a).2,Ag (sqQ a).1,Ag (sqQ a).2]) (mpL []) q:=by
 have h1:Bw (AE (1,1) a):=OI h
 refine Af (AY _) (Aa (Ac ?_ rfl rfl)<|Aa (Ac (JA h1 h.st) rfl rfl)<|Aa (Ac (GS 2 (by decide)) rfl rfl)<|Aa (Aw (AZ (op:=5) rfl h1 h.st nofun) hb rfl rfl) Ad)
 have:=JA (BV (e:=1) (by decide)).st h.st
 rwa[BW (by decide)] at this
theorem Y4 {a:Q}(h:Ok a)(hb:Be (sqQ a)=true):VF 272 [(⟨[],[a],.m⟩:Vl).av,.int .i64 2] (.ret (⟨[],[sqQ a],.m2⟩:Vl).av):=
 Bj (by(repeat (first|exact rfl|refine all_cons rfl ?_|refine all_cons (Ae _) ?_|refine all_cons (Aj _) ?_))) (Qp h hb) ((Bool.and_eq_true _ _).mp (runsW _)).1 rfl rfl
theorem ZE {a:Q}(h:Ok a)(hb:Be (sqQ a)=false):VF 272 [(⟨[],[a],.m⟩:Vl).av,.int .i64 2] (Cn 13):=
 Bj (by(repeat (first|exact rfl|refine all_cons rfl ?_|refine all_cons (Ae _) ?_|refine all_cons (Aj _) ?_))) (Qp h hb) ((Bool.and_eq_true _ _).mp (runsW _)).2 rfl rfl
theorem whole (i:Int)(hi:i.natAbs<B):VF 271 [.int .i64 i] (.ret (⟨[],[(i,1)],.pl⟩:Vl).av):=
 Bj (l:=[.int .i64 i,sg (low i 1).1,lm (low i 1).1,sg (low i 1).2,lm (low i 1).2]) (by(repeat (first|exact rfl|refine all_cons rfl ?_|refine all_cons (Ae _) ?_|refine all_cons (Aj _) ?_))) (Aa (Ac (NO hi (by decide) (by decide)) rfl rfl) Ad) (Zv _) rfl (by rw[LU];rfl)
inductive X where
 | lit (num den:List Nat) (q:Q) (u:Nat)
 | ref (s:List Nat)
 | bin (op:Nat) (a b:X)
 | neg (a:X)
 | sq (a:X)
 | lst (a b c:X)
 | at (a b:X)
 | tab (n:Nat) (a:X)
 | sum (n:Nat) (a:X)
 | ite (a b c d:X)
 | lett (s:List Nat) (a b:X)
 | call (a:X)
def UW:Nat→List Nat
 | 0=>[]
 | 1=>[109]
 | 2=>[107,109]
 | 3=>[115]
 | _=>[104]
def nmI:List Nat:=[105]
def nmF:List Nat:=[102]
def X.c0:X→AV
 | .lit ..=>.int .i64 0
 | .ref _=>.int .i64 1
 | .bin op _ _=>.int .i64 (.ofNat op)
 | .neg _=>.int .i64 2
 | .sq _=>.int .i64 7
 | .lst ..=>.int .i64 8
 | .at ..=>.int .i64 9
 | .tab ..=>.int .i64 10
 | .sum ..=>.int .i64 11
 | .ite ..=>.int .i64 12
 | .lett ..=>.int .i64 13
 | .call _=>.int .i64 14
def X.c1:X→AV
 | .lit p _ _ _=>.str p
 | _=>.str []
def X.c2:X→AV
 | .lit _ p _ _=>.str p
 | _=>.str []
def X.c3:X→AV
 | .lit _ _ _ u=>.str (UW u)
 | .ref s=>.str s
 | .tab _ _ | .sum _ _=>.str nmI
 | .lett s _ _=>.str s
 | .call _=>.str nmF
 | _=>.str []
def X.c4:X→AV
 | .sq _=>.int .i64 2
 | .tab n _ | .sum n _=>.int .i64 (.ofNat n)
 | _=>.int .i64 0
def X.c5:X→AV
 | .lit .. | .ref _=>.emp
 | .bin _ a b | .at a b | .lett _ a b=>.psl [a.c0,a.c1,a.c2,a.c3,a.c4,a.c5,b.c0,b.c1,b.c2,b.c3,b.c4,b.c5] 2 none
 | .neg a | .sq a | .tab _ a | .sum _ a | .call a=>.psl [a.c0,a.c1,a.c2,a.c3,a.c4,a.c5] 1 none
 | .lst a b c=>.psl [a.c0,a.c1,a.c2,a.c3,a.c4,a.c5,b.c0,b.c1,b.c2,b.c3,b.c4,b.c5,c.c0,c.c1,c.c2,c.c3,c.c4,c.c5] 3 none
 | .ite a b c d=>.psl [a.c0,a.c1,a.c2,a.c3,a.c4,a.c5,b.c0,b.c1,b.c2,b.c3,b.c4,b.c5,c.c0,c.c1,c.c2,c.c3,c.c4,c.c5,d.c0,d.c1,d.c2,d.c3,d.c4,d.c5] 4 none
def X.av (x:X):AV:=.agg [x.c0,x.c1,x.c2,x.c3,x.c4,x.c5]
abbrev Pl (x:AV):Prop:=(Ay x&&x.cell)=true
theorem X.p0 (x:X):Pl x.c0:=by cases x<;>rfl
theorem X.p1 (x:X):Pl x.c1:=by cases x<;>rfl
theorem X.p2 (x:X):Pl x.c2:=by cases x<;>rfl
theorem X.p3 (x:X):Pl x.c3:=by cases x<;>rfl
theorem X.p4 (x:X):Pl x.c4:=by cases x<;>rfl
theorem Pl.v {x:AV}(h:Pl x):Ay x=true:=((Bool.and_eq_true _ _).mp h).1
theorem X.p5:(x:X)→Pl x.c5
 | .lit .. | .ref _=>rfl
 | .bin _ a b | .at a b | .lett _ a b=>by
  have h1:=a.p5.v;have h2:=b.p5.v
  simp[Pl,X.c5,Ay,Bi,AV.cell,a.p0.v,a.p1.v,a.p2.v,a.p3.v,a.p4.v,h1,b.p0.v,b.p1.v,b.p2.v,b.p3.v,b.p4.v,h2]
 | .neg a | .sq a | .tab _ a | .sum _ a | .call a=>by
  have h1:=a.p5.v
  simp[Pl,X.c5,Ay,Bi,AV.cell,a.p0.v,a.p1.v,a.p2.v,a.p3.v,a.p4.v,h1]
 | .lst a b c=>by
  have h1:=a.p5.v;have h2:=b.p5.v;have h3:=c.p5.v
  simp[Pl,X.c5,Ay,Bi,AV.cell,a.p0.v,a.p1.v,a.p2.v,a.p3.v,a.p4.v,h1,b.p0.v,b.p1.v,b.p2.v,b.p3.v,b.p4.v,h2,c.p0.v,c.p1.v,c.p2.v,c.p3.v,c.p4.v,h3]
 | .ite a b c d=>by
  have h1:=a.p5.v;have h2:=b.p5.v;have h3:=c.p5.v;have h4:=d.p5.v
  simp[Pl,X.c5,Ay,Bi,AV.cell,a.p0.v,a.p1.v,a.p2.v,a.p3.v,a.p4.v,h1,b.p0.v,b.p1.v,b.p2.v,b.p3.v,b.p4.v,h2,c.p0.v,c.p1.v,c.p2.v,c.p3.v,c.p4.v,h3,d.p0.v,d.p1.v,d.p2.v,d.p3.v,d.p4.v,h4]
theorem Pl.sh (l:List Nat):Pl (Aq l):=by
 cases l with
 | nil=>rfl
 | cons a r=>
  have:∀l:List Nat,Bi (l.map fun n=>AV.int .i64 (.ofNat n))=true:=fun l=>by
   induction l with
   | nil=>rfl
   | cons a r ih=>simpa[Bi,Ay] using ih
  have h:=this (a::r)
  simp only[Pl,Aq,Ay,h,AV.cell,Bool.and_self]
theorem I4:∀{a b:List AV},Bi a=true→Bi b=true→Bi (a++b)=true
 | [],_,_,h=>h
 | x::xs,b,h1,h2=>by
  simp only[Bi,Bool.and_eq_true] at h1
  simp only[List.cons_append,Bi,Bool.and_eq_true]
  exact⟨h1.1,I4 h1.2 h2⟩
theorem Pl.it (l:List Q):Pl (Ax l):=by
 have:Bi (l.flatMap Pr)=true:=by
  induction l with
  | nil=>rfl
  | cons a r ih=>
   rw[List.flatMap_cons]
   refine I4 ?_ ih
   have h1:=Ae (Ah a.1.natAbs)
   have h2:=Ae (Ah a.2.natAbs)
   simp only[Bool.and_eq_true] at h1 h2
   simp[Pr,Bi,Ay,h1.1,h2.1]
 simp[Pl,Ax,Ay,AV.cell,this]
theorem Pl.dm (d:Dm):Pl (Al d):=by cases d<;>rfl
structure En where
 a:Vl
 b:Vl
 c:Vl
 v:Vl
 w:Vl
 f:X
abbrev ME:=List (AV×AV×Nat)
def dmU (s:List Nat):AV:=.psl [.str s,.str [49],.str [49]] 1 none
def A8:ME:=[(.str [109],.agg [.str [109],.str [49],.str [49],dmU [109]],0),(.str [107,109],.agg [.str [107,109],.str [49,48,48,48],.str [49],dmU [109]],0),(.str [115],.agg [.str [115],.str [49],.str [49],dmU [115]],0),(.str [104],.agg [.str [104],.str [51,54,48,48],.str [49],dmU [115]],0),(.str [107,103],.agg [.str [107,103],.str [49],.str [49],dmU [107,103]],0)]
def lwG (st:AV)(own units:AO)(PZ names:List AV):OL:=
 [(0,.cells 105 [.ptr 1 0,st,.nils,.func (.func 130) [.ptr 0 0] []]),(1,.cells 202 [.map 3,.sl 4 0 1 11 none,.sl 5 0 5 4 none]),(2,own),(3,units),(4,.cells 285 PZ),(5,.cells 204 names)]
def uwG (st:Option AV)(own units:AO)(PZ names:List AV):UL:=
 [(0,st.map fun s=>.cells 105 [.ptr 1 0,s,.nils,.func (.func 130) [.ptr 0 0] []]),(1,some (.cells 202 [.map 3,.sl 4 0 1 11 none,.sl 5 0 5 4 none])),(2,some own),(3,some units),(4,some (.cells 285 PZ)),(5,some (.cells 204 names))]
def G7:List AV:=[.int .i64 0,.str nmF,.psl [.str [120]] 1 none,.sel 18,.sel 19,.sel 20,.sel 21,.sel 22,.sel 23,.int .i64 0,.int .i64 5]
def D6:List AV:=[.str [97],.sel 3,.sel 4,.sel 5,.str [98],.sel 6,.sel 7,.sel 8,.str [99],.sel 9,.sel 10,.sel 11,.str [118],.sel 12,.sel 13,.sel 14,.str [119],.sel 15,.sel 16,.sel 17]
def En.PZ (e:En):List AV:=[.int .i64 0,.str nmF,.psl [.str [120]] 1 none,e.f.c0,e.f.c1,e.f.c2,e.f.c3,e.f.c4,e.f.c5,.int .i64 0,.int .i64 5]
def En.names (e:En):List AV:=[.str [97],Aq e.a.sh,Ax e.a.it,Al e.a.dm,.str [98],Aq e.b.sh,Ax e.b.it,Al e.b.dm,.str [99],Aq e.c.sh,Ax e.c.it,Al e.c.dm,.str [118],Aq e.v.sh,Ax e.v.it,Al e.v.dm,.str [119],Aq e.w.sh,Ax e.w.it,Al e.w.dm]
def lwA (e:En)(n:Int)(own:ME):OL:=lwG (.int .i64 n) (.map own 0) (.map A8 0) e.PZ e.names
def uwA (e:En)(n:Option Int)(own:ME):UL:=uwG (n.map fun n=>.int .i64 n) (.map own 0) (.map A8 0) e.PZ e.names
def scA (f:Int):AV:=.agg [.int .i64 f,.int .i64 5,.map 2]
def lwS (st:Nat)(own:AO):OL:=lwG (.sel st) own (.opq 1) G7 D6
def uwS (st:Option Nat)(own:AO):UL:=uwG (st.map .sel) own (.opq 1) G7 D6
abbrev Rs:=Except Nat (Vl×Int)
def resE:Rs→AM
 | .ok (v,_)=>.ret v.av
 | .error e=>Cn e
def stE:Rs→Option Int
 | .ok (_,n)=>some n
 | .error _=>none
def Ev (e:En)(f:Int)(own:ME)(n:Int)(x:X)(r:Rs):Prop:=CM P4 gl5 6 191 [.ptr 0 0,scA f,x.av] (lwA e n own) (resE r) (uwA e (stE r) own)
def CI (e:En)(n:Int)(r:List AV):List AV:=
 Ag 1::Ag 2::Ag (-1)::Aq e.a.sh::Ax e.a.it::Al e.a.dm::Aq e.b.sh::Ax e.b.it::Al e.b.dm::Aq e.c.sh::Ax e.c.it::Al e.c.dm::Aq e.v.sh::Ax e.v.it::Al e.v.dm::Aq e.w.sh::Ax e.w.it::Al e.w.dm::e.f.c0::e.f.c1::e.f.c2::e.f.c3::e.f.c4::e.f.c5::.int .i64 n::.int .i64 (n+1)::r
abbrev Pls (l:List AV):Prop:=(l.all fun x=>Ay x&&x.cell)=true
theorem px (x:X){r:List AV}(h:Pls r):Pls (x.c0::x.c1::x.c2::x.c3::x.c4::x.c5::r):=all_cons x.p0<|all_cons x.p1<|all_cons x.p2<|all_cons x.p3<|all_cons x.p4<|all_cons x.p5 h
theorem pv (v:Vl){r:List AV}(h:Pls r):Pls (Aq v.sh::Ax v.it::Al v.dm::r):=all_cons (Pl.sh _)<|all_cons (Pl.it _)<|all_cons (Pl.dm _) h
theorem pi (n:Int){r:List AV}(h:Pls r):Pls (.int .i64 n::r):=all_cons rfl h
theorem ps (s:List Nat){r:List AV}(h:Pls r):Pls (.str s::r):=all_cons rfl h
theorem KO (e:En)(n:Int){r:List AV}(h:Pls r):Pls (CI e n r):=ps _<|ps _<|ps _<|pv _<|pv _<|pv _<|pv _<|pv _<|px _<|pi _<|pi _ h
def AN (b:Bool):List NB:=[⟨.add,.sel 24,.int .i64 1,.sel 25⟩,⟨.gtr,.sel 25,.int .i64 5000,.bool b⟩]
theorem step_ok {e:En}{n:Int}{r:List AV}{b:Bool}(h0:0≤n)(h1:n≤5000)(hb:decide (5000<n+1)=b):∀q∈AN b,DL (Am (CI e n r)) q:=
 Aa (Bo n 1 (n+1) rfl rfl rfl rfl (by unfold wrap64;omega))<|Aa (Cg (n+1) 5000 rfl rfl rfl (by
  simp only[BB,inst,decide_true,cond_true,gt_iff_lt]
  rw[hb])) Ad
noncomputable def BO (l:List AV)(mu:List ME)(facts:List OF)(bins:List NB)(f:Int)(c:List AV)(own:AO)(res:AM)(st:Option Nat):Bool:=
 facts.all (fun q=>BH q.N q.args q.l q.res q.u)&&Br (EM l mu facts bins [] []) 4000 80 6 191 [.ptr 0 0,scA f,.agg c] (lwS 24 own) res (uwS st own)
def AI (own:ME):Prop:=(FE own&&DP 0 own)=true
theorem Ce {own:ME}(h:AI own):(([own,A8]:List ME).all fun es=>FE es&&DP 0 es)=true:=all_cons h rfl
theorem Ar {e:En}{n:Int}{own:ME}{r:List AV}(ho:AI own)(hl:Pls r){facts:List OF}{bins:List NB}{f:Int}{c:List AV}{ao:AO}{res:AM}{st:Option Nat}{x:X}{R:Rs}
 (hr:BO (CI e n r) [own,A8] facts bins f c ao res st=true) (hf:∀q∈facts,BM (Am (CI e n r)) (mpL [own,A8]) q) (hb:∀q∈bins,DL (Am (CI e n r)) q)
 (h1:Au (Am (CI e n r)) noT [.ptr 0 0,scA f,.agg c]=[.ptr 0 0,scA f,x.av]) (h2:DE (Am (CI e n r)) noT (mpL [own,A8]) (lwS 24 ao)=lwA e n own) (h3:Bu (Am (CI e n r)) noT res=resE R) (h4:Dh (Am (CI e n r)) noT (mpL [own,A8]) (uwS st ao)=uwA e (stE R) own):Ev e f own n x R:=by
 unfold BO at hr
 simp only[Bool.and_eq_true] at hr
 have:=Ci (KO e n hl) (Ce ho) hr.1 hf hb Ad Ad hr.2
 rw[h1,h2,h3,h4] at this
 exact this
def evF (f:Int)(k i:Nat)(own:AO)(res:AM)(st:Option Nat):OF:=⟨191,6,[.ptr 0 0,scA f,.agg [.sel k,.sel (k+1),.sel (k+2),.sel (k+3),.sel (k+4),.sel (k+5)]],lwS i own,res,uwS st own⟩
def AQ (k:Nat):AM:=.pan [(.iface 168 (.agg [.sel k]),false)]
def AJ (k:Nat):AM:=.ret (.agg [.sel k,.sel (k+1),.sel (k+2)])
end Go.Ev
end
