/- Operations on values, told of all numbers within the bounds. -/
import Derived.Test.YtecmlmofhabonaaGreatDoorTab
noncomputable section
namespace Go.Ev
open Go Go.Ab Go.Nl Go.Nb Go.RowKit Go.Proofs Go.E4
set_option maxRecDepth 1000000
def ratF11:Nat→List OF
 | 0=>[vq 98 [.agg [.sel 11,.sel 12,.sel 13,.sel 14]] (.ret (.tup [.agg [.sel 15,.sel 16],.bool false]))]
 | _=>[vq 98 [.agg [.sel 11,.sel 12,.sel 13,.sel 14]] (.ret (.tup [.agg [.sel 15,.sel 16],.bool true]))]
def PR (b:Bool):List OF:=[vq 166 [.agg [.sel 7,.sel 8,.sel 9,.sel 10]] (.ret (.bool b))]
def opF11 (op:Nat):List OF:=[vq (fop op) [.agg [.sel 3,.sel 4,.sel 5,.sel 6],.agg [.sel 7,.sel 8,.sel 9,.sel 10]] (.ret (.agg [.sel 11,.sel 12,.sel 13,.sel 14]))]
def OW (op:Nat)(du dv:Dm):List AV:=[.int .i64 (.ofNat op),.agg [.emp,.psl [.sel 3,.sel 4,.sel 5,.sel 6] 1 none,Al du],.agg [.emp,.psl [.sel 7,.sel 8,.sel 9,.sel 10] 1 none,Al dv]]
def AaC (d:Dm):AM:=.ret (.agg [.emp,.psl [.sel 11,.sel 12,.sel 13,.sel 14] 1 none,Al d])
def QU (op k:Nat):List OF:=AU++((bif Nat.beq op 6 then PR false else[])++(opF11 op++ratF11 k))
noncomputable def SA (l:List AV)(op:Nat)(du dv:Dm)(k:Nat):Bool:=
 match F2 op du dv with
 | some d=>(QU op k).all (fun q=>BH q.N q.args q.l q.res q.u)&&Br (EM l [] (QU op k) [] [] []) 3000 20 0 74 (OW op du dv) [] (bif Nat.blt k 1 then Cn 13 else AaC d) []
 | none=>false
noncomputable def SM (l:List AV)(du dv:Dm):Bool:=(AU++PR true).all (fun q=>BH q.N q.args q.l q.res q.u)&&Br (EM l [] (AU++PR true) [] [] []) 3000 20 0 74 (OW 6 du dv) [] (Cn 12) []
def ratF13:Nat→List OF
 | 0=>[vq 98 [.agg [.sel 19,.sel 20,.sel 21,.sel 22]] (.ret (.tup [.agg [.sel 31,.sel 32],.bool false]))]
 | 1=>[vq 98 [.agg [.sel 19,.sel 20,.sel 21,.sel 22]] (.ret (.tup [.agg [.sel 31,.sel 32],.bool true])),vq 98 [.agg [.sel 23,.sel 24,.sel 25,.sel 26]] (.ret (.tup [.agg [.sel 33,.sel 34],.bool false]))]
 | 2=>[vq 98 [.agg [.sel 19,.sel 20,.sel 21,.sel 22]] (.ret (.tup [.agg [.sel 31,.sel 32],.bool true])),vq 98 [.agg [.sel 23,.sel 24,.sel 25,.sel 26]] (.ret (.tup [.agg [.sel 33,.sel 34],.bool true])),vq 98 [.agg [.sel 27,.sel 28,.sel 29,.sel 30]] (.ret (.tup [.agg [.sel 35,.sel 36],.bool false]))]
 | _=>[vq 98 [.agg [.sel 19,.sel 20,.sel 21,.sel 22]] (.ret (.tup [.agg [.sel 31,.sel 32],.bool true])),vq 98 [.agg [.sel 23,.sel 24,.sel 25,.sel 26]] (.ret (.tup [.agg [.sel 33,.sel 34],.bool true])),vq 98 [.agg [.sel 27,.sel 28,.sel 29,.sel 30]] (.ret (.tup [.agg [.sel 35,.sel 36],.bool true]))]
def AcE (b:Bool):List OF:=[vq 166 [.agg [.sel 7,.sel 8,.sel 9,.sel 10]] (.ret (.bool b))]
def opF13 (op:Nat):List OF:=[vq (fop op) [.agg [.sel 3,.sel 4,.sel 5,.sel 6],.agg [.sel 7,.sel 8,.sel 9,.sel 10]] (.ret (.agg [.sel 19,.sel 20,.sel 21,.sel 22])),vq (fop op) [.agg [.sel 3,.sel 4,.sel 5,.sel 6],.agg [.sel 11,.sel 12,.sel 13,.sel 14]] (.ret (.agg [.sel 23,.sel 24,.sel 25,.sel 26])),vq (fop op) [.agg [.sel 3,.sel 4,.sel 5,.sel 6],.agg [.sel 15,.sel 16,.sel 17,.sel 18]] (.ret (.agg [.sel 27,.sel 28,.sel 29,.sel 30]))]
def UB (op:Nat)(du dv:Dm):List AV:=[.int .i64 (.ofNat op),.agg [.emp,.psl [.sel 3,.sel 4,.sel 5,.sel 6] 1 none,Al du],.agg [.psl [.int .i64 3] 1 none,.psl [.sel 7,.sel 8,.sel 9,.sel 10,.sel 11,.sel 12,.sel 13,.sel 14,.sel 15,.sel 16,.sel 17,.sel 18] 3 none,Al dv]]
def Yv (d:Dm):AM:=.ret (.agg [.psl [.int .i64 3] 1 none,.psl [.sel 19,.sel 20,.sel 21,.sel 22,.sel 23,.sel 24,.sel 25,.sel 26,.sel 27,.sel 28,.sel 29,.sel 30] 3 none,Al d])
def Sr (op k:Nat):List OF:=AU++((bif Nat.beq op 6 then AcE false else[])++(opF13 op++ratF13 k))
noncomputable def M0 (l:List AV)(op:Nat)(du dv:Dm)(k:Nat):Bool:=
 match F2 op du dv with
 | some d=>(Sr op k).all (fun q=>BH q.N q.args q.l q.res q.u)&&Br (EM l [] (Sr op k) [] [] []) 3000 20 0 74 (UB op du dv) [] (bif Nat.blt k 3 then Cn 13 else Yv d) []
 | none=>false
def ratF31:Nat→List OF
 | 0=>[vq 98 [.agg [.sel 19,.sel 20,.sel 21,.sel 22]] (.ret (.tup [.agg [.sel 31,.sel 32],.bool false]))]
 | 1=>[vq 98 [.agg [.sel 19,.sel 20,.sel 21,.sel 22]] (.ret (.tup [.agg [.sel 31,.sel 32],.bool true])),vq 98 [.agg [.sel 23,.sel 24,.sel 25,.sel 26]] (.ret (.tup [.agg [.sel 33,.sel 34],.bool false]))]
 | 2=>[vq 98 [.agg [.sel 19,.sel 20,.sel 21,.sel 22]] (.ret (.tup [.agg [.sel 31,.sel 32],.bool true])),vq 98 [.agg [.sel 23,.sel 24,.sel 25,.sel 26]] (.ret (.tup [.agg [.sel 33,.sel 34],.bool true])),vq 98 [.agg [.sel 27,.sel 28,.sel 29,.sel 30]] (.ret (.tup [.agg [.sel 35,.sel 36],.bool false]))]
 | _=>[vq 98 [.agg [.sel 19,.sel 20,.sel 21,.sel 22]] (.ret (.tup [.agg [.sel 31,.sel 32],.bool true])),vq 98 [.agg [.sel 23,.sel 24,.sel 25,.sel 26]] (.ret (.tup [.agg [.sel 33,.sel 34],.bool true])),vq 98 [.agg [.sel 27,.sel 28,.sel 29,.sel 30]] (.ret (.tup [.agg [.sel 35,.sel 36],.bool true]))]
def Qj (b:Bool):List OF:=[vq 166 [.agg [.sel 15,.sel 16,.sel 17,.sel 18]] (.ret (.bool b))]
def opF31 (op:Nat):List OF:=[vq (fop op) [.agg [.sel 3,.sel 4,.sel 5,.sel 6],.agg [.sel 15,.sel 16,.sel 17,.sel 18]] (.ret (.agg [.sel 19,.sel 20,.sel 21,.sel 22])),vq (fop op) [.agg [.sel 7,.sel 8,.sel 9,.sel 10],.agg [.sel 15,.sel 16,.sel 17,.sel 18]] (.ret (.agg [.sel 23,.sel 24,.sel 25,.sel 26])),vq (fop op) [.agg [.sel 11,.sel 12,.sel 13,.sel 14],.agg [.sel 15,.sel 16,.sel 17,.sel 18]] (.ret (.agg [.sel 27,.sel 28,.sel 29,.sel 30]))]
def PN (op:Nat)(du dv:Dm):List AV:=[.int .i64 (.ofNat op),.agg [.psl [.int .i64 3] 1 none,.psl [.sel 3,.sel 4,.sel 5,.sel 6,.sel 7,.sel 8,.sel 9,.sel 10,.sel 11,.sel 12,.sel 13,.sel 14] 3 none,Al du],.agg [.emp,.psl [.sel 15,.sel 16,.sel 17,.sel 18] 1 none,Al dv]]
def YM (d:Dm):AM:=.ret (.agg [.psl [.int .i64 3] 1 none,.psl [.sel 19,.sel 20,.sel 21,.sel 22,.sel 23,.sel 24,.sel 25,.sel 26,.sel 27,.sel 28,.sel 29,.sel 30] 3 none,Al d])
def RE (op k:Nat):List OF:=AU++((bif Nat.beq op 6 then Qj false else[])++(opF31 op++ratF31 k))
noncomputable def MX (l:List AV)(op:Nat)(du dv:Dm)(k:Nat):Bool:=
 match F2 op du dv with
 | some d=>(RE op k).all (fun q=>BH q.N q.args q.l q.res q.u)&&Br (EM l [] (RE op k) [] [] []) 3000 20 0 74 (PN op du dv) [] (bif Nat.blt k 3 then Cn 13 else YM d) []
 | none=>false
noncomputable def Tt (l:List AV)(du dv:Dm):Bool:=(AU++Qj true).all (fun q=>BH q.N q.args q.l q.res q.u)&&Br (EM l [] (AU++Qj true) [] [] []) 3000 20 0 74 (PN 6 du dv) [] (Cn 12) []
def ratF33:Nat→List OF
 | 0=>[vq 98 [.agg [.sel 27,.sel 28,.sel 29,.sel 30]] (.ret (.tup [.agg [.sel 39,.sel 40],.bool false]))]
 | 1=>[vq 98 [.agg [.sel 27,.sel 28,.sel 29,.sel 30]] (.ret (.tup [.agg [.sel 39,.sel 40],.bool true])),vq 98 [.agg [.sel 31,.sel 32,.sel 33,.sel 34]] (.ret (.tup [.agg [.sel 41,.sel 42],.bool false]))]
 | 2=>[vq 98 [.agg [.sel 27,.sel 28,.sel 29,.sel 30]] (.ret (.tup [.agg [.sel 39,.sel 40],.bool true])),vq 98 [.agg [.sel 31,.sel 32,.sel 33,.sel 34]] (.ret (.tup [.agg [.sel 41,.sel 42],.bool true])),vq 98 [.agg [.sel 35,.sel 36,.sel 37,.sel 38]] (.ret (.tup [.agg [.sel 43,.sel 44],.bool false]))]
 | _=>[vq 98 [.agg [.sel 27,.sel 28,.sel 29,.sel 30]] (.ret (.tup [.agg [.sel 39,.sel 40],.bool true])),vq 98 [.agg [.sel 31,.sel 32,.sel 33,.sel 34]] (.ret (.tup [.agg [.sel 41,.sel 42],.bool true])),vq 98 [.agg [.sel 35,.sel 36,.sel 37,.sel 38]] (.ret (.tup [.agg [.sel 43,.sel 44],.bool true]))]
def AcP (b:Bool):List OF:=[vq 166 [.agg [.sel 15,.sel 16,.sel 17,.sel 18]] (.ret (.bool b))]
def opF33 (op:Nat):List OF:=[vq (fop op) [.agg [.sel 3,.sel 4,.sel 5,.sel 6],.agg [.sel 15,.sel 16,.sel 17,.sel 18]] (.ret (.agg [.sel 27,.sel 28,.sel 29,.sel 30])),vq (fop op) [.agg [.sel 7,.sel 8,.sel 9,.sel 10],.agg [.sel 19,.sel 20,.sel 21,.sel 22]] (.ret (.agg [.sel 31,.sel 32,.sel 33,.sel 34])),vq (fop op) [.agg [.sel 11,.sel 12,.sel 13,.sel 14],.agg [.sel 23,.sel 24,.sel 25,.sel 26]] (.ret (.agg [.sel 35,.sel 36,.sel 37,.sel 38]))]
def U8 (op:Nat)(du dv:Dm):List AV:=[.int .i64 (.ofNat op),.agg [.psl [.int .i64 3] 1 none,.psl [.sel 3,.sel 4,.sel 5,.sel 6,.sel 7,.sel 8,.sel 9,.sel 10,.sel 11,.sel 12,.sel 13,.sel 14] 3 none,Al du],.agg [.psl [.int .i64 3] 1 none,.psl [.sel 15,.sel 16,.sel 17,.sel 18,.sel 19,.sel 20,.sel 21,.sel 22,.sel 23,.sel 24,.sel 25,.sel 26] 3 none,Al dv]]
def XZ (d:Dm):AM:=.ret (.agg [.psl [.int .i64 3] 1 none,.psl [.sel 27,.sel 28,.sel 29,.sel 30,.sel 31,.sel 32,.sel 33,.sel 34,.sel 35,.sel 36,.sel 37,.sel 38] 3 none,Al d])
def Se (op k:Nat):List OF:=AU++((bif Nat.beq op 6 then AcP false else[])++(opF33 op++ratF33 k))
noncomputable def NG (l:List AV)(op:Nat)(du dv:Dm)(k:Nat):Bool:=
 match F2 op du dv with
 | some d=>(Se op k).all (fun q=>BH q.N q.args q.l q.res q.u)&&Br (EM l [] (Se op k) [] [] []) 3000 20 0 74 (U8 op du dv) [] (bif Nat.blt k 3 then Cn 13 else XZ d) []
 | none=>false
def FF:List (Nat×Dm×Dm):=[(3,.pl,.pl),(3,.m,.m),(3,.s,.s),(3,.m2,.m2),(3,.ms,.ms),(4,.pl,.pl),(4,.m,.m),(4,.s,.s),(4,.m2,.m2),(4,.ms,.ms),(5,.pl,.pl),(5,.pl,.m),(5,.pl,.s),(5,.pl,.m2),(5,.pl,.ms),(5,.m,.m),(5,.ms,.s),(6,.pl,.pl),(6,.m,.pl),(6,.s,.pl),(6,.m2,.pl),(6,.ms,.pl),(6,.m,.m),(6,.m,.ms),(6,.m,.s)]
def Gs:List (Nat×Dm×Dm):=[(5,.pl,.pl),(5,.pl,.m)]
def D9:List (Nat×Dm×Dm):=[(6,.pl,.pl),(6,.m,.pl)]
def Gd:List (Nat×Dm×Dm):=[(3,.pl,.pl),(3,.m,.m),(4,.pl,.pl),(4,.m,.m)]
theorem Vh (l:List AV):(FF.all fun c=>(List.range 2).all fun k=>SA l c.1 c.2.1 c.2.2 k)=true:=by kernel_rfl
theorem AbC (l:List AV):(FF.all fun c=>bif Nat.beq c.1 6 then SM l c.2.1 c.2.2 else true)=true:=by kernel_rfl
theorem LC (l:List AV):(Gs.all fun c=>(List.range 4).all fun k=>M0 l c.1 c.2.1 c.2.2 k)=true:=by kernel_rfl
theorem LQ (l:List AV):(D9.all fun c=>(List.range 4).all fun k=>MX l c.1 c.2.1 c.2.2 k)=true:=by kernel_rfl
theorem AcO (l:List AV):(D9.all fun c=>bif Nat.beq c.1 6 then Tt l c.2.1 c.2.2 else true)=true:=by kernel_rfl
theorem L1 (l:List AV):(Gd.all fun c=>(List.range 4).all fun k=>NG l c.1 c.2.1 c.2.2 k)=true:=by kernel_rfl
def EV (op:Nat):Bool:=Nat.ble 3 op&&Nat.ble op 6
theorem IX {op:Nat}(ho:EV op=true){a b:Q}(ha:Bw a)(hb:Bw b)(hz:op=6→b.1≠0):VF (fop op) [BQ a,BQ b] (.ret (BQ (opQ op a b))):=by
 unfold EV at ho
 simp only[Bool.and_eq_true] at ho
 have h1:=Nat.le_of_ble_eq_true ho.1
 have h2:=Nat.le_of_ble_eq_true ho.2
 have:op=3∨op=4∨op=5∨op=6:=by omega
 rcases this with rfl|rfl|rfl|rfl
 ·exact Zx ha hb
 ·exact AcQ ha hb
 ·exact JA ha hb
 ·exact v_over ha hb (hz rfl)
structure Wide (q:Q):Prop where
 num:Fits 400 q.1
 den:Fits 400 q.2
 pos:0<q.2
theorem Mx {p q:Int}(hp:Fits 400 p)(hq:Fits 400 q)(h0:q≠0):Wide (low p q):=⟨(Gv hp hq).1,(Gv hp hq).2,Po h0⟩
theorem OB {a b:Q}(ha:Bw a)(hb:Bw b):Wide (Ak a b):=
 Mx (Ao (by decide) (NH (BR ha.num hb.den) (BR hb.num ha.den))) (Ao (by decide) (BR ha.den hb.den)) (by have:=Int.mul_pos ha.pos hb.pos;omega)
theorem AZ {op:Nat}(ho:EV op=true){a b:Q}(ha:Bw a)(hb:Bw b)(hz:op=6→b.1≠0):Wide (opQ op a b):=by
 unfold EV at ho
 simp only[Bool.and_eq_true] at ho
 have h1:=Nat.le_of_ble_eq_true ho.1
 have h2:=Nat.le_of_ble_eq_true ho.2
 have:op=3∨op=4∨op=5∨op=6:=by omega
 rcases this with rfl|rfl|rfl|rfl
 ·exact OB ha hb
 ·exact OB ha ⟨Cx (y:=b.1) (by show(-b.1).natAbs≤_;omega) hb.num,hb.den,hb.pos⟩
 ·exact Mx (Ao (by decide) (BR ha.num hb.num)) (Ao (by decide) (BR ha.den hb.den)) (by have:=Int.mul_pos ha.pos hb.pos;omega)
 ·exact Mx (Ao (by decide) (BR ha.num hb.den)) (Ao (by decide) (BR ha.den hb.num)) (Int.mul_ne_zero (by have:=ha.pos;omega) (hz rfl))
theorem Aw {l:List AV}{mu:List (List (AV×AV×Nat))}{q:Q}{a:List AV}{x y:AV}{b:Bool}(h:Wide q)(hb:Be q=b)(ha:Au (Am l) noT a=[BQ q])(hx:inst (Am l) noT (.tup [.agg [x,y],.bool b])=.tup [.agg [Ag q.1,Ag q.2],.bool b]):BM (Am l) (mpL mu) (vq 98 a (.ret (.tup [.agg [x,y],.bool b]))):=by
 subst hb
 exact Ac (v_rat h.num h.den h.pos) ha (by show AM.ret _=_;rw[hx])
theorem FV {α:Type}{p:α→Prop}{b:Bool}{l:List α}(h:b=true→∀q∈l,p q):∀q∈(bif b then l else[]),p q:=by
 cases b with
 | true=>exact h rfl
 | false=>exact Ad
theorem Ip {q:Q}(h:q.1≠0):VF 166 [BQ q] (.ret (.bool false)):=by have:=Td q;rwa[decide_eq_false h] at this
theorem RA {q:Q}(h:q.1=0):VF 166 [BQ q] (.ret (.bool true)):=by have:=Td q;rwa[decide_eq_true h] at this
noncomputable def KW (op:Nat)(a0 b0:Q):List AV:=[Ag 1,Ag 2,Ag (-1),sg a0.1,lm a0.1,sg a0.2,lm a0.2,sg b0.1,lm b0.1,sg b0.2,lm b0.2,sg (opQ op a0 b0).1,lm (opQ op a0 b0).1,sg (opQ op a0 b0).2,lm (opQ op a0 b0).2,Ag (opQ op a0 b0).1,Ag (opQ op a0 b0).2]
theorem L9 (op:Nat)(a0 b0:Q):((KW op a0 b0).all fun x=>Ay x&&x.cell)=true:=by unfold KW;(repeat (first|exact rfl|refine all_cons rfl ?_|refine all_cons (Ae _) ?_|refine all_cons (Aj _) ?_))
theorem PB (op:Nat)(du dv:Dm)(a0 b0:Q):Au (Am (KW op a0 b0)) noT (OW op du dv)=[.int .i64 (.ofNat op),(⟨[],[a0],du⟩:Vl).av,(⟨[],[b0],dv⟩:Vl).av]:=by cases du<;>cases dv<;>rfl
theorem retI11 (op:Nat)(d:Dm)(a0 b0:Q):Bu (Am (KW op a0 b0)) noT (AaC d)=.ret (⟨[],[(opQ op a0 b0)],d⟩:Vl).av:=by cases d<;>rfl
theorem opI11 {op:Nat}(ho:EV op=true){a0 b0:Q}(ha0:Ok a0)(hb0:Ok b0)(hz:op=6→b0.1≠0):∀q∈opF11 op,BM (Am (KW op a0 b0)) (mpL []) q:=
 Aa (Ac (IX ho ha0.st hb0.st hz) rfl rfl) Ad
theorem Xi {op:Nat}{du dv:Dm}(hc:(op,du,dv)∈FF)(ho:EV op=true){a0 b0:Q}(ha0:Ok a0)(hb0:Ok b0)(hz:op=6→b0.1≠0)(hf0:Be (opQ op a0 b0)=false){d:Dm}(hd:F2 op du dv=some d):VF 74 [.int .i64 (.ofNat op),(⟨[],[a0],du⟩:Vl).av,(⟨[],[b0],dv⟩:Vl).av] (Cn 13):=by
 have hr:=List.all_eq_true.1 (List.all_eq_true.1 (Vh (KW op a0 b0)) _ hc) 0 (by decide)
 unfold SA at hr
 rw[hd] at hr
 simp only[Bool.and_eq_true] at hr
 have:=Ci (L9 op a0 b0) (mu:=[]) rfl hr.1 (Af (AY _) (Af (FV fun e=>Aa (Ac (Ip (hz (Nat.eq_of_beq_eq_true e))) rfl rfl) Ad) (Af (opI11 ho ha0 hb0 hz) (Aa (Aw (AZ ho ha0.st hb0.st hz) hf0 rfl rfl) Ad)))) Ad Ad Ad hr.2
 rw[PB] at this
 exact this
theorem Xc {op:Nat}{du dv:Dm}(hc:(op,du,dv)∈FF)(ho:EV op=true){a0 b0:Q}(ha0:Ok a0)(hb0:Ok b0)(hz:op=6→b0.1≠0)(hf0:Be (opQ op a0 b0)=true){d:Dm}(hd:F2 op du dv=some d):VF 74 [.int .i64 (.ofNat op),(⟨[],[a0],du⟩:Vl).av,(⟨[],[b0],dv⟩:Vl).av] (.ret (⟨[],[(opQ op a0 b0)],d⟩:Vl).av):=by
 have hr:=List.all_eq_true.1 (List.all_eq_true.1 (Vh (KW op a0 b0)) _ hc) 1 (by decide)
 unfold SA at hr
 rw[hd] at hr
 simp only[Bool.and_eq_true] at hr
 have:=Ci (L9 op a0 b0) (mu:=[]) rfl hr.1 (Af (AY _) (Af (FV fun e=>Aa (Ac (Ip (hz (Nat.eq_of_beq_eq_true e))) rfl rfl) Ad) (Af (opI11 ho ha0 hb0 hz) (Aa (Aw (AZ ho ha0.st hb0.st hz) hf0 rfl rfl) Ad)))) Ad Ad Ad hr.2
 rw[PB] at this
 have e:=retI11 op d a0 b0;exact e ▸ this
noncomputable def JB (op:Nat)(a0 b0 b1 b2:Q):List AV:=[Ag 1,Ag 2,Ag (-1),sg a0.1,lm a0.1,sg a0.2,lm a0.2,sg b0.1,lm b0.1,sg b0.2,lm b0.2,sg b1.1,lm b1.1,sg b1.2,lm b1.2,sg b2.1,lm b2.1,sg b2.2,lm b2.2,sg (opQ op a0 b0).1,lm (opQ op a0 b0).1,sg (opQ op a0 b0).2,lm (opQ op a0 b0).2,sg (opQ op a0 b1).1,lm (opQ op a0 b1).1,sg (opQ op a0 b1).2,lm (opQ op a0 b1).2,sg (opQ op a0 b2).1,lm (opQ op a0 b2).1,sg (opQ op a0 b2).2,lm (opQ op a0 b2).2,Ag (opQ op a0 b0).1,Ag (opQ op a0 b0).2,Ag (opQ op a0 b1).1,Ag (opQ op a0 b1).2,Ag (opQ op a0 b2).1,Ag (opQ op a0 b2).2]
theorem JQ (op:Nat)(a0 b0 b1 b2:Q):((JB op a0 b0 b1 b2).all fun x=>Ay x&&x.cell)=true:=by unfold JB;(repeat (first|exact rfl|refine all_cons rfl ?_|refine all_cons (Ae _) ?_|refine all_cons (Aj _) ?_))
theorem LN (op:Nat)(du dv:Dm)(a0 b0 b1 b2:Q):Au (Am (JB op a0 b0 b1 b2)) noT (UB op du dv)=[.int .i64 (.ofNat op),(⟨[],[a0],du⟩:Vl).av,(⟨[3],[b0,b1,b2],dv⟩:Vl).av]:=by cases du<;>cases dv<;>rfl
theorem retI13 (op:Nat)(d:Dm)(a0 b0 b1 b2:Q):Bu (Am (JB op a0 b0 b1 b2)) noT (Yv d)=.ret (⟨[3],[(opQ op a0 b0),(opQ op a0 b1),(opQ op a0 b2)],d⟩:Vl).av:=by cases d<;>rfl
theorem UO {op:Nat}(ho:EV op=true){a0 b0 b1 b2:Q}(ha0:Ok a0)(hb0:Ok b0)(hb1:Ok b1)(hb2:Ok b2)(hz:op≠6):∀q∈opF13 op,BM (Am (JB op a0 b0 b1 b2)) (mpL []) q:=
 Aa (Ac (IX ho ha0.st hb0.st (fun e=>absurd e hz)) rfl rfl)<|Aa (Ac (IX ho ha0.st hb1.st (fun e=>absurd e hz)) rfl rfl)<|Aa (Ac (IX ho ha0.st hb2.st (fun e=>absurd e hz)) rfl rfl) Ad
theorem Xs {op:Nat}{du dv:Dm}(hc:(op,du,dv)∈Gs)(ho:EV op=true){a0 b0 b1 b2:Q}(ha0:Ok a0)(hb0:Ok b0)(hb1:Ok b1)(hb2:Ok b2)(hz:op≠6)(hf0:Be (opQ op a0 b0)=false){d:Dm}(hd:F2 op du dv=some d):VF 74 [.int .i64 (.ofNat op),(⟨[],[a0],du⟩:Vl).av,(⟨[3],[b0,b1,b2],dv⟩:Vl).av] (Cn 13):=by
 have hr:=List.all_eq_true.1 (List.all_eq_true.1 (LC (JB op a0 b0 b1 b2)) _ hc) 0 (by decide)
 unfold M0 at hr
 rw[hd] at hr
 simp only[Bool.and_eq_true] at hr
 have:=Ci (JQ op a0 b0 b1 b2) (mu:=[]) rfl hr.1 (Af (AY _) (Af (FV fun e=>absurd (Nat.eq_of_beq_eq_true e) hz) (Af (UO ho ha0 hb0 hb1 hb2 hz) (Aa (Aw (AZ ho ha0.st hb0.st (fun e=>absurd e hz)) hf0 rfl rfl) Ad)))) Ad Ad Ad hr.2
 rw[LN] at this
 exact this
theorem WJ {op:Nat}{du dv:Dm}(hc:(op,du,dv)∈Gs)(ho:EV op=true){a0 b0 b1 b2:Q}(ha0:Ok a0)(hb0:Ok b0)(hb1:Ok b1)(hb2:Ok b2)(hz:op≠6)(hf0:Be (opQ op a0 b0)=true)(hf1:Be (opQ op a0 b1)=false){d:Dm}(hd:F2 op du dv=some d):VF 74 [.int .i64 (.ofNat op),(⟨[],[a0],du⟩:Vl).av,(⟨[3],[b0,b1,b2],dv⟩:Vl).av] (Cn 13):=by
 have hr:=List.all_eq_true.1 (List.all_eq_true.1 (LC (JB op a0 b0 b1 b2)) _ hc) 1 (by decide)
 unfold M0 at hr
 rw[hd] at hr
 simp only[Bool.and_eq_true] at hr
 have:=Ci (JQ op a0 b0 b1 b2) (mu:=[]) rfl hr.1 (Af (AY _) (Af (FV fun e=>absurd (Nat.eq_of_beq_eq_true e) hz) (Af (UO ho ha0 hb0 hb1 hb2 hz) (Aa (Aw (AZ ho ha0.st hb0.st (fun e=>absurd e hz)) hf0 rfl rfl)<|Aa (Aw (AZ ho ha0.st hb1.st (fun e=>absurd e hz)) hf1 rfl rfl) Ad)))) Ad Ad Ad hr.2
 rw[LN] at this
 exact this
theorem Xf {op:Nat}{du dv:Dm}(hc:(op,du,dv)∈Gs)(ho:EV op=true){a0 b0 b1 b2:Q}(ha0:Ok a0)(hb0:Ok b0)(hb1:Ok b1)(hb2:Ok b2)(hz:op≠6)(hf0:Be (opQ op a0 b0)=true)(hf1:Be (opQ op a0 b1)=true)(hf2:Be (opQ op a0 b2)=false){d:Dm}(hd:F2 op du dv=some d):VF 74 [.int .i64 (.ofNat op),(⟨[],[a0],du⟩:Vl).av,(⟨[3],[b0,b1,b2],dv⟩:Vl).av] (Cn 13):=by
 have hr:=List.all_eq_true.1 (List.all_eq_true.1 (LC (JB op a0 b0 b1 b2)) _ hc) 2 (by decide)
 unfold M0 at hr
 rw[hd] at hr
 simp only[Bool.and_eq_true] at hr
 have:=Ci (JQ op a0 b0 b1 b2) (mu:=[]) rfl hr.1 (Af (AY _) (Af (FV fun e=>absurd (Nat.eq_of_beq_eq_true e) hz) (Af (UO ho ha0 hb0 hb1 hb2 hz) (Aa (Aw (AZ ho ha0.st hb0.st (fun e=>absurd e hz)) hf0 rfl rfl)<|Aa (Aw (AZ ho ha0.st hb1.st (fun e=>absurd e hz)) hf1 rfl rfl)<|Aa (Aw (AZ ho ha0.st hb2.st (fun e=>absurd e hz)) hf2 rfl rfl) Ad)))) Ad Ad Ad hr.2
 rw[LN] at this
 exact this
theorem WR {op:Nat}{du dv:Dm}(hc:(op,du,dv)∈Gs)(ho:EV op=true){a0 b0 b1 b2:Q}(ha0:Ok a0)(hb0:Ok b0)(hb1:Ok b1)(hb2:Ok b2)(hz:op≠6)(hf0:Be (opQ op a0 b0)=true)(hf1:Be (opQ op a0 b1)=true)(hf2:Be (opQ op a0 b2)=true){d:Dm}(hd:F2 op du dv=some d):VF 74 [.int .i64 (.ofNat op),(⟨[],[a0],du⟩:Vl).av,(⟨[3],[b0,b1,b2],dv⟩:Vl).av] (.ret (⟨[3],[(opQ op a0 b0),(opQ op a0 b1),(opQ op a0 b2)],d⟩:Vl).av):=by
 have hr:=List.all_eq_true.1 (List.all_eq_true.1 (LC (JB op a0 b0 b1 b2)) _ hc) 3 (by decide)
 unfold M0 at hr
 rw[hd] at hr
 simp only[Bool.and_eq_true] at hr
 have:=Ci (JQ op a0 b0 b1 b2) (mu:=[]) rfl hr.1 (Af (AY _) (Af (FV fun e=>absurd (Nat.eq_of_beq_eq_true e) hz) (Af (UO ho ha0 hb0 hb1 hb2 hz) (Aa (Aw (AZ ho ha0.st hb0.st (fun e=>absurd e hz)) hf0 rfl rfl)<|Aa (Aw (AZ ho ha0.st hb1.st (fun e=>absurd e hz)) hf1 rfl rfl)<|Aa (Aw (AZ ho ha0.st hb2.st (fun e=>absurd e hz)) hf2 rfl rfl) Ad)))) Ad Ad Ad hr.2
 rw[LN] at this
 have e:=retI13 op d a0 b0 b1 b2;exact e ▸ this
noncomputable def IY (op:Nat)(a0 a1 a2 b0:Q):List AV:=[Ag 1,Ag 2,Ag (-1),sg a0.1,lm a0.1,sg a0.2,lm a0.2,sg a1.1,lm a1.1,sg a1.2,lm a1.2,sg a2.1,lm a2.1,sg a2.2,lm a2.2,sg b0.1,lm b0.1,sg b0.2,lm b0.2,sg (opQ op a0 b0).1,lm (opQ op a0 b0).1,sg (opQ op a0 b0).2,lm (opQ op a0 b0).2,sg (opQ op a1 b0).1,lm (opQ op a1 b0).1,sg (opQ op a1 b0).2,lm (opQ op a1 b0).2,sg (opQ op a2 b0).1,lm (opQ op a2 b0).1,sg (opQ op a2 b0).2,lm (opQ op a2 b0).2,Ag (opQ op a0 b0).1,Ag (opQ op a0 b0).2,Ag (opQ op a1 b0).1,Ag (opQ op a1 b0).2,Ag (opQ op a2 b0).1,Ag (opQ op a2 b0).2]
theorem Ib (op:Nat)(a0 a1 a2 b0:Q):((IY op a0 a1 a2 b0).all fun x=>Ay x&&x.cell)=true:=by unfold IY;(repeat (first|exact rfl|refine all_cons rfl ?_|refine all_cons (Ae _) ?_|refine all_cons (Aj _) ?_))
theorem Ka (op:Nat)(du dv:Dm)(a0 a1 a2 b0:Q):Au (Am (IY op a0 a1 a2 b0)) noT (PN op du dv)=[.int .i64 (.ofNat op),(⟨[3],[a0,a1,a2],du⟩:Vl).av,(⟨[],[b0],dv⟩:Vl).av]:=by cases du<;>cases dv<;>rfl
theorem retI31 (op:Nat)(d:Dm)(a0 a1 a2 b0:Q):Bu (Am (IY op a0 a1 a2 b0)) noT (YM d)=.ret (⟨[3],[(opQ op a0 b0),(opQ op a1 b0),(opQ op a2 b0)],d⟩:Vl).av:=by cases d<;>rfl
theorem Vd {op:Nat}(ho:EV op=true){a0 a1 a2 b0:Q}(ha0:Ok a0)(ha1:Ok a1)(ha2:Ok a2)(hb0:Ok b0)(hz:op=6→b0.1≠0):∀q∈opF31 op,BM (Am (IY op a0 a1 a2 b0)) (mpL []) q:=
 Aa (Ac (IX ho ha0.st hb0.st hz) rfl rfl)<|Aa (Ac (IX ho ha1.st hb0.st hz) rfl rfl)<|Aa (Ac (IX ho ha2.st hb0.st hz) rfl rfl) Ad
theorem VZ {op:Nat}{du dv:Dm}(hc:(op,du,dv)∈D9)(ho:EV op=true){a0 a1 a2 b0:Q}(ha0:Ok a0)(ha1:Ok a1)(ha2:Ok a2)(hb0:Ok b0)(hz:op=6→b0.1≠0)(hf0:Be (opQ op a0 b0)=false){d:Dm}(hd:F2 op du dv=some d):VF 74 [.int .i64 (.ofNat op),(⟨[3],[a0,a1,a2],du⟩:Vl).av,(⟨[],[b0],dv⟩:Vl).av] (Cn 13):=by
 have hr:=List.all_eq_true.1 (List.all_eq_true.1 (LQ (IY op a0 a1 a2 b0)) _ hc) 0 (by decide)
 unfold MX at hr
 rw[hd] at hr
 simp only[Bool.and_eq_true] at hr
 have:=Ci (Ib op a0 a1 a2 b0) (mu:=[]) rfl hr.1 (Af (AY _) (Af (FV fun e=>Aa (Ac (Ip (hz (Nat.eq_of_beq_eq_true e))) rfl rfl) Ad) (Af (Vd ho ha0 ha1 ha2 hb0 hz) (Aa (Aw (AZ ho ha0.st hb0.st hz) hf0 rfl rfl) Ad)))) Ad Ad Ad hr.2
 rw[Ka] at this
 exact this
theorem Wd {op:Nat}{du dv:Dm}(hc:(op,du,dv)∈D9)(ho:EV op=true){a0 a1 a2 b0:Q}(ha0:Ok a0)(ha1:Ok a1)(ha2:Ok a2)(hb0:Ok b0)(hz:op=6→b0.1≠0)(hf0:Be (opQ op a0 b0)=true)(hf1:Be (opQ op a1 b0)=false){d:Dm}(hd:F2 op du dv=some d):VF 74 [.int .i64 (.ofNat op),(⟨[3],[a0,a1,a2],du⟩:Vl).av,(⟨[],[b0],dv⟩:Vl).av] (Cn 13):=by
 have hr:=List.all_eq_true.1 (List.all_eq_true.1 (LQ (IY op a0 a1 a2 b0)) _ hc) 1 (by decide)
 unfold MX at hr
 rw[hd] at hr
 simp only[Bool.and_eq_true] at hr
 have:=Ci (Ib op a0 a1 a2 b0) (mu:=[]) rfl hr.1 (Af (AY _) (Af (FV fun e=>Aa (Ac (Ip (hz (Nat.eq_of_beq_eq_true e))) rfl rfl) Ad) (Af (Vd ho ha0 ha1 ha2 hb0 hz) (Aa (Aw (AZ ho ha0.st hb0.st hz) hf0 rfl rfl)<|Aa (Aw (AZ ho ha1.st hb0.st hz) hf1 rfl rfl) Ad)))) Ad Ad Ad hr.2
 rw[Ka] at this
 exact this
theorem VN {op:Nat}{du dv:Dm}(hc:(op,du,dv)∈D9)(ho:EV op=true){a0 a1 a2 b0:Q}(ha0:Ok a0)(ha1:Ok a1)(ha2:Ok a2)(hb0:Ok b0)(hz:op=6→b0.1≠0)(hf0:Be (opQ op a0 b0)=true)(hf1:Be (opQ op a1 b0)=true)(hf2:Be (opQ op a2 b0)=false){d:Dm}(hd:F2 op du dv=some d):VF 74 [.int .i64 (.ofNat op),(⟨[3],[a0,a1,a2],du⟩:Vl).av,(⟨[],[b0],dv⟩:Vl).av] (Cn 13):=by
 have hr:=List.all_eq_true.1 (List.all_eq_true.1 (LQ (IY op a0 a1 a2 b0)) _ hc) 2 (by decide)
 unfold MX at hr
 rw[hd] at hr
 simp only[Bool.and_eq_true] at hr
 have:=Ci (Ib op a0 a1 a2 b0) (mu:=[]) rfl hr.1 (Af (AY _) (Af (FV fun e=>Aa (Ac (Ip (hz (Nat.eq_of_beq_eq_true e))) rfl rfl) Ad) (Af (Vd ho ha0 ha1 ha2 hb0 hz) (Aa (Aw (AZ ho ha0.st hb0.st hz) hf0 rfl rfl)<|Aa (Aw (AZ ho ha1.st hb0.st hz) hf1 rfl rfl)<|Aa (Aw (AZ ho ha2.st hb0.st hz) hf2 rfl rfl) Ad)))) Ad Ad Ad hr.2
 rw[Ka] at this
 exact this
theorem VQ {op:Nat}{du dv:Dm}(hc:(op,du,dv)∈D9)(ho:EV op=true){a0 a1 a2 b0:Q}(ha0:Ok a0)(ha1:Ok a1)(ha2:Ok a2)(hb0:Ok b0)(hz:op=6→b0.1≠0)(hf0:Be (opQ op a0 b0)=true)(hf1:Be (opQ op a1 b0)=true)(hf2:Be (opQ op a2 b0)=true){d:Dm}(hd:F2 op du dv=some d):VF 74 [.int .i64 (.ofNat op),(⟨[3],[a0,a1,a2],du⟩:Vl).av,(⟨[],[b0],dv⟩:Vl).av] (.ret (⟨[3],[(opQ op a0 b0),(opQ op a1 b0),(opQ op a2 b0)],d⟩:Vl).av):=by
 have hr:=List.all_eq_true.1 (List.all_eq_true.1 (LQ (IY op a0 a1 a2 b0)) _ hc) 3 (by decide)
 unfold MX at hr
 rw[hd] at hr
 simp only[Bool.and_eq_true] at hr
 have:=Ci (Ib op a0 a1 a2 b0) (mu:=[]) rfl hr.1 (Af (AY _) (Af (FV fun e=>Aa (Ac (Ip (hz (Nat.eq_of_beq_eq_true e))) rfl rfl) Ad) (Af (Vd ho ha0 ha1 ha2 hb0 hz) (Aa (Aw (AZ ho ha0.st hb0.st hz) hf0 rfl rfl)<|Aa (Aw (AZ ho ha1.st hb0.st hz) hf1 rfl rfl)<|Aa (Aw (AZ ho ha2.st hb0.st hz) hf2 rfl rfl) Ad)))) Ad Ad Ad hr.2
 rw[Ka] at this
 have e:=retI31 op d a0 a1 a2 b0;exact e ▸ this
noncomputable def Ke (op:Nat)(a0 a1 a2 b0 b1 b2:Q):List AV:=[Ag 1,Ag 2,Ag (-1),sg a0.1,lm a0.1,sg a0.2,lm a0.2,sg a1.1,lm a1.1,sg a1.2,lm a1.2,sg a2.1,lm a2.1,sg a2.2,lm a2.2,sg b0.1,lm b0.1,sg b0.2,lm b0.2,sg b1.1,lm b1.1,sg b1.2,lm b1.2,sg b2.1,lm b2.1,sg b2.2,lm b2.2,sg (opQ op a0 b0).1,lm (opQ op a0 b0).1,sg (opQ op a0 b0).2,lm (opQ op a0 b0).2,sg (opQ op a1 b1).1,lm (opQ op a1 b1).1,sg (opQ op a1 b1).2,lm (opQ op a1 b1).2,sg (opQ op a2 b2).1,lm (opQ op a2 b2).1,sg (opQ op a2 b2).2,lm (opQ op a2 b2).2,Ag (opQ op a0 b0).1,Ag (opQ op a0 b0).2,Ag (opQ op a1 b1).1,Ag (opQ op a1 b1).2,Ag (opQ op a2 b2).1,Ag (opQ op a2 b2).2]
theorem JT (op:Nat)(a0 a1 a2 b0 b1 b2:Q):((Ke op a0 a1 a2 b0 b1 b2).all fun x=>Ay x&&x.cell)=true:=by unfold Ke;(repeat (first|exact rfl|refine all_cons rfl ?_|refine all_cons (Ae _) ?_|refine all_cons (Aj _) ?_))
theorem LM (op:Nat)(du dv:Dm)(a0 a1 a2 b0 b1 b2:Q):Au (Am (Ke op a0 a1 a2 b0 b1 b2)) noT (U8 op du dv)=[.int .i64 (.ofNat op),(⟨[3],[a0,a1,a2],du⟩:Vl).av,(⟨[3],[b0,b1,b2],dv⟩:Vl).av]:=by cases du<;>cases dv<;>rfl
theorem retI33 (op:Nat)(d:Dm)(a0 a1 a2 b0 b1 b2:Q):Bu (Am (Ke op a0 a1 a2 b0 b1 b2)) noT (XZ d)=.ret (⟨[3],[(opQ op a0 b0),(opQ op a1 b1),(opQ op a2 b2)],d⟩:Vl).av:=by cases d<;>rfl
theorem U9 {op:Nat}(ho:EV op=true){a0 a1 a2 b0 b1 b2:Q}(ha0:Ok a0)(ha1:Ok a1)(ha2:Ok a2)(hb0:Ok b0)(hb1:Ok b1)(hb2:Ok b2)(hz:op≠6):∀q∈opF33 op,BM (Am (Ke op a0 a1 a2 b0 b1 b2)) (mpL []) q:=
 Aa (Ac (IX ho ha0.st hb0.st (fun e=>absurd e hz)) rfl rfl)<|Aa (Ac (IX ho ha1.st hb1.st (fun e=>absurd e hz)) rfl rfl)<|Aa (Ac (IX ho ha2.st hb2.st (fun e=>absurd e hz)) rfl rfl) Ad
theorem Xe {op:Nat}{du dv:Dm}(hc:(op,du,dv)∈Gd)(ho:EV op=true){a0 a1 a2 b0 b1 b2:Q}(ha0:Ok a0)(ha1:Ok a1)(ha2:Ok a2)(hb0:Ok b0)(hb1:Ok b1)(hb2:Ok b2)(hz:op≠6)(hf0:Be (opQ op a0 b0)=false){d:Dm}(hd:F2 op du dv=some d):VF 74 [.int .i64 (.ofNat op),(⟨[3],[a0,a1,a2],du⟩:Vl).av,(⟨[3],[b0,b1,b2],dv⟩:Vl).av] (Cn 13):=by
 have hr:=List.all_eq_true.1 (List.all_eq_true.1 (L1 (Ke op a0 a1 a2 b0 b1 b2)) _ hc) 0 (by decide)
 unfold NG at hr
 rw[hd] at hr
 simp only[Bool.and_eq_true] at hr
 have:=Ci (JT op a0 a1 a2 b0 b1 b2) (mu:=[]) rfl hr.1 (Af (AY _) (Af (FV fun e=>absurd (Nat.eq_of_beq_eq_true e) hz) (Af (U9 ho ha0 ha1 ha2 hb0 hb1 hb2 hz) (Aa (Aw (AZ ho ha0.st hb0.st (fun e=>absurd e hz)) hf0 rfl rfl) Ad)))) Ad Ad Ad hr.2
 rw[LM] at this
 exact this
theorem Wn {op:Nat}{du dv:Dm}(hc:(op,du,dv)∈Gd)(ho:EV op=true){a0 a1 a2 b0 b1 b2:Q}(ha0:Ok a0)(ha1:Ok a1)(ha2:Ok a2)(hb0:Ok b0)(hb1:Ok b1)(hb2:Ok b2)(hz:op≠6)(hf0:Be (opQ op a0 b0)=true)(hf1:Be (opQ op a1 b1)=false){d:Dm}(hd:F2 op du dv=some d):VF 74 [.int .i64 (.ofNat op),(⟨[3],[a0,a1,a2],du⟩:Vl).av,(⟨[3],[b0,b1,b2],dv⟩:Vl).av] (Cn 13):=by
 have hr:=List.all_eq_true.1 (List.all_eq_true.1 (L1 (Ke op a0 a1 a2 b0 b1 b2)) _ hc) 1 (by decide)
 unfold NG at hr
 rw[hd] at hr
 simp only[Bool.and_eq_true] at hr
 have:=Ci (JT op a0 a1 a2 b0 b1 b2) (mu:=[]) rfl hr.1 (Af (AY _) (Af (FV fun e=>absurd (Nat.eq_of_beq_eq_true e) hz) (Af (U9 ho ha0 ha1 ha2 hb0 hb1 hb2 hz) (Aa (Aw (AZ ho ha0.st hb0.st (fun e=>absurd e hz)) hf0 rfl rfl)<|Aa (Aw (AZ ho ha1.st hb1.st (fun e=>absurd e hz)) hf1 rfl rfl) Ad)))) Ad Ad Ad hr.2
 rw[LM] at this
 exact this
theorem Xd {op:Nat}{du dv:Dm}(hc:(op,du,dv)∈Gd)(ho:EV op=true){a0 a1 a2 b0 b1 b2:Q}(ha0:Ok a0)(ha1:Ok a1)(ha2:Ok a2)(hb0:Ok b0)(hb1:Ok b1)(hb2:Ok b2)(hz:op≠6)(hf0:Be (opQ op a0 b0)=true)(hf1:Be (opQ op a1 b1)=true)(hf2:Be (opQ op a2 b2)=false){d:Dm}(hd:F2 op du dv=some d):VF 74 [.int .i64 (.ofNat op),(⟨[3],[a0,a1,a2],du⟩:Vl).av,(⟨[3],[b0,b1,b2],dv⟩:Vl).av] (Cn 13):=by
 have hr:=List.all_eq_true.1 (List.all_eq_true.1 (L1 (Ke op a0 a1 a2 b0 b1 b2)) _ hc) 2 (by decide)
 unfold NG at hr
 rw[hd] at hr
 simp only[Bool.and_eq_true] at hr
 have:=Ci (JT op a0 a1 a2 b0 b1 b2) (mu:=[]) rfl hr.1 (Af (AY _) (Af (FV fun e=>absurd (Nat.eq_of_beq_eq_true e) hz) (Af (U9 ho ha0 ha1 ha2 hb0 hb1 hb2 hz) (Aa (Aw (AZ ho ha0.st hb0.st (fun e=>absurd e hz)) hf0 rfl rfl)<|Aa (Aw (AZ ho ha1.st hb1.st (fun e=>absurd e hz)) hf1 rfl rfl)<|Aa (Aw (AZ ho ha2.st hb2.st (fun e=>absurd e hz)) hf2 rfl rfl) Ad)))) Ad Ad Ad hr.2
 rw[LM] at this
 exact this
theorem VX {op:Nat}{du dv:Dm}(hc:(op,du,dv)∈Gd)(ho:EV op=true){a0 a1 a2 b0 b1 b2:Q}(ha0:Ok a0)(ha1:Ok a1)(ha2:Ok a2)(hb0:Ok b0)(hb1:Ok b1)(hb2:Ok b2)(hz:op≠6)(hf0:Be (opQ op a0 b0)=true)(hf1:Be (opQ op a1 b1)=true)(hf2:Be (opQ op a2 b2)=true){d:Dm}(hd:F2 op du dv=some d):VF 74 [.int .i64 (.ofNat op),(⟨[3],[a0,a1,a2],du⟩:Vl).av,(⟨[3],[b0,b1,b2],dv⟩:Vl).av] (.ret (⟨[3],[(opQ op a0 b0),(opQ op a1 b1),(opQ op a2 b2)],d⟩:Vl).av):=by
 have hr:=List.all_eq_true.1 (List.all_eq_true.1 (L1 (Ke op a0 a1 a2 b0 b1 b2)) _ hc) 3 (by decide)
 unfold NG at hr
 rw[hd] at hr
 simp only[Bool.and_eq_true] at hr
 have:=Ci (JT op a0 a1 a2 b0 b1 b2) (mu:=[]) rfl hr.1 (Af (AY _) (Af (FV fun e=>absurd (Nat.eq_of_beq_eq_true e) hz) (Af (U9 ho ha0 ha1 ha2 hb0 hb1 hb2 hz) (Aa (Aw (AZ ho ha0.st hb0.st (fun e=>absurd e hz)) hf0 rfl rfl)<|Aa (Aw (AZ ho ha1.st hb1.st (fun e=>absurd e hz)) hf1 rfl rfl)<|Aa (Aw (AZ ho ha2.st hb2.st (fun e=>absurd e hz)) hf2 rfl rfl) Ad)))) Ad Ad Ad hr.2
 rw[LM] at this
 have e:=retI33 op d a0 a1 a2 b0 b1 b2;exact e ▸ this
end Go.Ev
end
