/- metewandlaw15.EvalIf over what the generators make and what eval.Eval returns: it returns true. -/
import Derived.Test.YtecmlmofhabonaaGreatDoorIMeant1
import Derived.Test.YtecmlmofhabonaaGreatDoorIMeant2
import Derived.Test.YtecmlmofhabonaaGreatDoorIGen8
import Derived.Test.YtecmlmofhabonaaGreatDoorIBoth3
import Derived.Test.YtecmlmofhabonaaGreatDoorISize
import Derived.Test.YtecmlmofhabonaaGreatDoorRows
import Derived.LaidSub
import Derived.Lay
import Derived.Lib.LaidU8
import Derived.Stop.Joined
import Derived.ProofKit
noncomputable section
namespace Go.Ev
open Go Go.Ab Go.Nl Go.Nb Go.RowKit Go.Proofs Go.E4
set_option maxRecDepth 1000000
theorem as_ok:∀q∈asMs,Bx (Ag []) (mpL []) q:=by intro q hq;obtain⟨n,_,rfl⟩:=List.mem_map.1 hq;exact Tw rfl
theorem Tn {i n:Nat}(h:Qd i n=true){j:Nat}(h1:i≤j)(h2:j<i+n):mOk j=true:=by have:=zB.1 h (j-i) (zQ.2 (by omega));rwa[show i+(j-i)=j by omega]at this
theorem Zz:mL.map (fun m=>(Ai (Ag []) noT m.a,inst (Ag []) noT m.x))=mL.map (fun m=>(m.a,m.x)):=by kernel_rfl
theorem m_len:mL.length=172:=by kernel_rfl
theorem Ja {j:Nat}(z:Int)(hz:z.natAbs<B)(h:((mAt j).f,(mAt j).a,(mAt j).x)=(132,[nzA z],AV.str ((Bk z).map UInt8.toNat))):VF (mAt j).f (mAt j).a (.ret (mAt j).x):=by simp only[zG]at h;rw[h.1,h.2.1,h.2.2,←I5 hz];exact QK (Aj (by decide) (DC hz))
def mTx:List Nat:=[50,51,73,74,86,115,121,130,140,150]
theorem m_tx:((List.range 172).all fun i=>!Nat.beq (mAt i).f 132||mTx.contains i)=true:=by kernel_rfl
theorem tx50:VF (mAt 50).f (mAt 50).a (.ret (mAt 50).x):=Ja 3 (by decide) (by kernel_rfl)
theorem tx51:VF (mAt 51).f (mAt 51).a (.ret (mAt 51).x):=Ja 1 (by decide) (by kernel_rfl)
theorem tx73:VF (mAt 73).f (mAt 73).a (.ret (mAt 73).x):=Ja 9 (by decide) (by kernel_rfl)
theorem tx74:VF (mAt 74).f (mAt 74).a (.ret (mAt 74).x):=Ja 2 (by decide) (by kernel_rfl)
theorem tx86:VF (mAt 86).f (mAt 86).a (.ret (mAt 86).x):=Ja 10 (by decide) (by kernel_rfl)
theorem tx115:VF (mAt 115).f (mAt 115).a (.ret (mAt 115).x):=Ja 3000 (by decide) (by kernel_rfl)
theorem tx121:VF (mAt 121).f (mAt 121).a (.ret (mAt 121).x):=Ja 200 (by decide) (by kernel_rfl)
theorem tx130:VF (mAt 130).f (mAt 130).a (.ret (mAt 130).x):=Ja 3200 (by decide) (by kernel_rfl)
theorem tx140:VF (mAt 140).f (mAt 140).a (.ret (mAt 140).x):=Ja 0 (by decide) (by kernel_rfl)
theorem tx150:VF (mAt 150).f (mAt 150).a (.ret (mAt 150).x):=Ja 4 (by decide) (by kernel_rfl)
theorem m_all:∀i,i<172→VF (mAt i).f (mAt i).a (.ret (mAt i).x):=by
 intro i
 induction i using Nat.strongRecOn with
 |ind i ih=>
  intro hi;have ho:mOk i=true:=by
   by_cases c0:i<22
   ·exact Tn ms0 (by omega) (by omega)
   by_cases c1:i<43
   ·exact Tn ms1 (by omega) (by omega)
   by_cases c2:i<64
   ·exact Tn ms2 (by omega) (by omega)
   by_cases c3:i<86
   ·exact Tn ms3 (by omega) (by omega)
   by_cases c4:i<108
   ·exact Tn ms4 (by omega) (by omega)
   by_cases c5:i<129
   ·exact Tn ms5 (by omega) (by omega)
   by_cases c6:i<150
   ·exact Tn ms6 (by omega) (by omega)
   exact Tn ms7 (by omega) (by omega)
  have hs:Ai (Ag []) noT (mAt i).a=(mAt i).a∧inst (Ag []) noT (mAt i).x=(mAt i).x:=by
   have hl:i<mL.length:=by rw[m_len];exact hi
   have:=congrArg (fun l=>l[i]?) Zz;simp only[List.getElem?_map,zK hl,Option.map_some,zC,zG]at this;unfold mAt;rw[List.getD,zK hl];exact this
  by_cases h132:(mAt i).f=132
  ·have:=zB.1 m_tx i (zQ.2 hi);rw[h132]at this;have hm:i∈mTx:=by simpa using this
   simp only[mTx,zH,List.not_mem_nil,or_false]at hm;rcases hm with rfl|rfl|rfl|rfl|rfl|rfl|rfl|rfl|rfl|rfl
   ·exact tx50
   ·exact tx51
   ·exact tx73
   ·exact tx74
   ·exact tx86
   ·exact tx115
   ·exact tx121
   ·exact tx130
   ·exact tx140
   ·exact tx150
  ·unfold mOk at ho;have h0:Nat.beq (mAt i).f 132=false:=by
    cases h:Nat.beq (mAt i).f 132 with
    |false=>rfl|true=>exact absurd (zD h) h132
   simp only[h0,Bool.false_or,zA]at ho;refine AbB (fun q hq=>?_) ho.2 hs.1 (congrArg AG.ret hs.2);rcases List.mem_append.1 hq with hq|hq
   ·obtain⟨j,hj,rfl⟩:=List.mem_map.1 hq;have hji:=Ba (zB.1 ho.1 j hj);have hv:=ih j hji (by omega);have hl:j<mL.length:=by rw[m_len];omega
    have hs2:Ai (Ag []) noT (mAt j).a=(mAt j).a∧inst (Ag []) noT (mAt j).x=(mAt j).x:=by have:=congrArg (fun l=>l[j]?) Zz;simp only[List.getElem?_map,zK hl,Option.map_some,zC,zG]at this;unfold mAt;rw[List.getD,zK hl];exact this
    unfold Bx;show Cm P4 gl5 0 (mAt j).f (Ai (Ag []) noT (mAt j).a) [] (.ret (inst (Ag []) noT (mAt j).x)) [];rw[hs2.1,hs2.2];exact hv
   ·exact as_ok q hq
theorem YJ:VF 18 [] (.ret (.bool true)):=m_all 171 (by decide)
end Go.Ev
namespace Go.Ev
open Go Go.Ab Go.Nl Go.Nb Go.RowKit Go.Proofs Go.E4 Go.Ro
set_option maxRecDepth 1000000
def Wn:AV:=.psl ([.int .i64 0,.str nmF,.psl [.str [120]] 1 none]++sls 15 6) 1 none
def VU:AV:=.psl [.str [97],.emp,.psl [.sel 21,.sel 22] 1 none,.emp,.str [98],.emp,.psl [.sel 23,.sel 24] 1 none,dmU [109],.str [99],.emp,.psl [.sel 25,.sel 26] 1 none,dmU [115],.str [118],.psl [.int .i64 3] 1 none,.psl [.sel 27,.sel 28,.sel 29,.sel 30,.sel 31,.sel 32] 3 none,dmU [109],.str [119],.psl [.int .i64 3] 1 none,.psl [.sel 33,.sel 34,.sel 35,.sel 36,.sel 37,.sel 38] 3 none,.emp] 5 none
def OQ (x:AV)(r:AV):OF:=vq 16 [C2,Wn,VU,x] (.ret r)
def st0:AO:=.cells 79 [.sel 0,.int .i64 0,.int .u64 7640891576956012809]
def lwGen:List OF:=[vq 10 [] (.ret C2),vq 18 [] (.ret (.bool true)),⟨11,1,[.ptr 0 0],[(0,st0)],.ret Wn,[(0,some (stO 1))]⟩,gF 12 [] 1 3 VU]
noncomputable def VA (f:FuncId)(l:List AV)(facts:List OF)(bins:List NB):Bool:=facts.all (fun q=>BU q.N q.args q.l q.res q.u)&&JZ (F9 l [] facts bins [] []) 4000 80 0 f [.sel 0] [] (.ret (.bool true)) []
theorem GN {f:FuncId}{l:List AV}(hl:Pls l){facts:List OF}{bins:List NB}(h:VA f l facts bins=true)(hf:∀q∈facts,Bx (Ag l) (mpL []) q)(hb:∀q∈bins,Dg (Ag l) q):Ay P4 gl5 f [Ag l 0] (.bool true):=by unfold VA at h;simp only[zA]at h;exact compC hl (mu:=[]) rfl h.1 hf hb Ad Ad h.2
def RK:List Nat:=[110,111,98,111,100,121]
def noC:List AV:=[.int .i64 1,.str [],.str [],.str RK,.int .i64 0,.emp]
def ifO (d:AV)(a:Nat):AV:=.agg [.emp,.psl [.sel a,.sel (a+1)] 1 none,d]
def ifG:List OF:=lwGen++[gF 14 [.int .i64 2] 3 5 (.sel 57),gF 14 [.int .i64 6] 5 7 (.sel 58),gF 13 [.int .i64 3,.sel 57,.bool false] 7 9 (.agg (sls 39 6)),gF 13 [.int .i64 2,.sel 57,.bool false] 9 11 (.agg (sls 45 6)),gF 13 [.int .i64 3,.sel 58,.bool false] 11 13 (.agg (sls 51 6))]
def ifX (c d:List AV):AV:=.agg [.int .i64 12,.str [],.str [],.str [],.int .i64 0,.psl (sls 39 6++(sls 45 6++(c++d))) 4 none]
def ifF (less:Bool)(r1 r2:AV):List OF:=[OQ (.agg (sls 39 6)) (.tup [ifO (.sel 65) 61,.sel 59,.int .i64 0]),OQ (.agg (sls 45 6)) (.tup [ifO (.sel 65) 63,.sel 60,.int .i64 0]),
 vq 20 [.agg [.sel 61,.sel 62]] (.ret (.bool true)),vq 20 [.agg [.sel 63,.sel 64]] (.ret (.bool true)),vq 21 [.agg [.sel 61,.sel 62],.agg [.sel 63,.sel 64]] (.ret (.bool less)),
 OQ (bif less then ifX (sls 51 6) noC else ifX noC (sls 51 6)) r1,OQ (.agg (sls 51 6)) r2]
def ifQ:AV:=.agg [.sel 66,.sel 67,.sel 68]
def ifE (k:Nat):AV:=.tup [WH,.int .i64 0,.sel k]
theorem ZJ (l:List AV):([true,false].all fun b=>VA 4 l (ifG++(ifF b (.tup [ifQ,.sel 69,.int .i64 0]) (.tup [ifQ,.sel 70,.int .i64 0])++[vq 17 [ifQ,ifQ] (.ret (.bool true))])) [])=true:=by kernel_rfl
theorem YF (l:List AV):([true,false].all fun b=>VA 4 l (ifG++ifF b (ifE 66) (ifE 66)) [⟨.eql,.sel 66,.sel 66,.bool true⟩])=true:=by kernel_rfl
theorem Ac3 (l:List AV):VA 4 l (ifG++[OQ (.agg (sls 39 6)) (ifE 59),OQ (.agg (sls 45 6)) (.tup [ifO (.sel 65) 63,.sel 60,.int .i64 0])]) [⟨.neq,.sel 59,.int .i64 0,.bool true⟩]=true:=by kernel_rfl
theorem AcP (l:List AV):VA 4 l (ifG++[OQ (.agg (sls 39 6)) (.tup [ifO (.sel 65) 61,.sel 59,.int .i64 0]),OQ (.agg (sls 45 6)) (ifE 60)]) [⟨.neq,.sel 60,.int .i64 0,.bool true⟩]=true:=by kernel_rfl
theorem Abu (l:List AV):VA 4 l (ifG++[OQ (.agg (sls 39 6)) (ifE 59),OQ (.agg (sls 45 6)) (ifE 60)]) [⟨.neq,.sel 59,.int .i64 0,.bool true⟩]=true:=by kernel_rfl
theorem r_wno (l:List AV):EU l [] FP 93 [.agg noC,.sel 0] (.ret (.tup []))=true:=by kernel_rfl
theorem PS {e:En}{own:ME}{n:Int}(ho:AU own)(h0:0≤n)(h1:n<5000){ko:Kd}(hko:ko=.pl∨ko=.m∨ko=.s){a b c d:X}{p q:Q}{n0 n1:Int}(k0:Ev e 1 own (n+1) a (.ok (⟨[],[p],ko.dm⟩,n0)))(k1:Ev e 1 own n0 b (.ok (⟨[],[q],ko.dm⟩,n1)))(hp:Ok p)(hq:Ok q){r:Rs}(kr:Ev e 1 own n1 (if decide (p.1*q.2<q.1*p.2) then c else d) r):Ev e 1 own n (.ite a b c d) r:=by
 cases hl:decide (p.1*q.2<q.1*p.2) with
 |true=>
  rw[hl,if_pos rfl]at kr
  match r,kr with
  |.error er,kr=>
   rcases hko with rfl|rfl|rfl
   ·exact LS ho h0 h1 k0 k1 hp hq hl kr
   ·exact M1 ho h0 h1 k0 k1 hp hq hl kr
   ·exact Od ho h0 h1 k0 k1 hp hq hl kr
  |.ok (w,n2),kr=>
   rcases hko with rfl|rfl|rfl
   ·exact LD ho h0 h1 k0 k1 hp hq hl kr
   ·exact MQ ho h0 h1 k0 k1 hp hq hl kr
   ·exact Nr ho h0 h1 k0 k1 hp hq hl kr
 |false=>
  rw[hl,if_neg (by decide)]at kr
  match r,kr with
  |.error er,kr=>
   rcases hko with rfl|rfl|rfl
   ·exact LB ho h0 h1 k0 k1 hp hq hl kr
   ·exact NG ho h0 h1 k0 k1 hp hq hl kr
   ·exact N8 ho h0 h1 k0 k1 hp hq hl kr
  |.ok (w,n2),kr=>
   rcases hko with rfl|rfl|rfl
   ·exact LU ho h0 h1 k0 k1 hp hq hl kr
   ·exact OA ho h0 h1 k0 k1 hp hq hl kr
   ·exact Nc ho h0 h1 k0 k1 hp hq hl kr
theorem if_ev {e:En}{cb:Option (Nat×Q)}(he:EnOk e cb){ko k:Kd}(hko:ko=.pl∨ko=.m∨ko=.s){a b c:X}(ta:Ty 2 false ko a)(tb:Ty 1 false ko b)(tc:Ty 2 false k c){u v:Vl}{n m:Int}(ea:evS e cb [] a 0=.ok (u,n))(eb:evS e cb [] b 0=.ok (v,m)) :
 ∃p q,u=⟨[],[p],ko.dm⟩ ∧v=⟨[],[q],ko.dm⟩ ∧Ok p∧Ok q∧Good e cb [] c k 0∧∀d,Ev e 1 [] 0 (if decide (p.1*q.2<q.1*p.2) then .ite a b c d else .ite a b d c) (shR (n+m+1) (evS e cb [] c 0)):=by
 have ca:=JN ta;have cb':=JN tb;have cc:=JN tc;have k2:Ef 2=83:=by decide
 have k1:Ef 1=19:=by decide
 rw[k2]at ca cc;rw[k1]at cb';obtain⟨vu,gn0,gn1⟩:=(EN he ta (bs0 (by decide)) (n:=0) (by decide) (by omega)).2 u n ea;obtain⟨vv,gm0,gm1⟩:=(EN he tb (bs0 (by decide)) (n:=0) (by decide) (by omega)).2 v m eb;have hka:ko.arr=false:=by rcases hko with rfl|rfl|rfl<;>rfl
 obtain⟨p,rfl,op⟩:=vu.one hka;obtain⟨q,rfl,oq⟩:=vv.one hka;have ea1:evS e cb [] a (0+1)=.ok (⟨[],[p],ko.dm⟩,n+1):=by rw[K4,ea];rfl
 have eb1:evS e cb [] b (n+1)=.ok (⟨[],[q],ko.dm⟩,m+(n+1)):=by have:=K4 e cb (n+1) b [] 0;rw[Int.zero_add,eb]at this;exact this
 have ec1:evS e cb [] c (m+(n+1))=shR (n+m+1) (evS e cb [] c 0):=by have:=K4 e cb (n+m+1) c [] 0;rw[Int.zero_add]at this;rw[show m+(n+1)=n+m+1 by omega];exact this
 have ga:=(EN he ta (bs0 (by decide)) (n:=0+1) (by decide) (by omega)).1;have gb:=(EN he tb (bs0 (by decide)) (n:=n+1) (by omega) (by omega)).1;have gc:=(EN he tc (bs0 (by decide)) (n:=m+(n+1)) (by omega) (by omega)).1;rw[ea1]at ga;rw[eb1]at gb;rw[ec1]at gc;refine⟨p,q,rfl,rfl,op,oq,EN he tc (bs0 (by decide)) (n:=0) (by decide) (by omega),fun d=>?_⟩;cases hl:decide (p.1*q.2<q.1*p.2) with
 |true=>rw[if_pos rfl];exact PS (Dd []) (by decide) (by decide) hko ga gb op oq (by rw[hl,if_pos rfl];exact gc)
 |false=>rw[if_neg (by decide)];exact PS (Dd []) (by decide) (by decide) hko ga gb op oq (by rw[hl,if_neg (by decide)];exact gc)
def outI (v:Vl):AV:=.psl (v.it.flatMap txC) v.it.length none
theorem Aco (v:Vl):Pl (outI v):=by
 have:∀l:List Q,Bb (l.flatMap txC)=true:=fun l=>by
  induction l with
  |nil=>rfl|cons q r ih=>simpa[List.flatMap_cons,txC,Bb,Au]using ih
 have h:=this v.it;simp only[Pl,outI,Au,h,AV.cell,Bool.and_self]
theorem SJ (d:Dm):Pl (J2 d):=by cases d<;>rfl
theorem po (v:Vl){r:List AV}(h:Pls r):Pls (AA v.sh::outI v::J2 v.dm::r):=all_cons (Pl.sh _)<|all_cons (Aco v)<|all_cons (SJ _) h
theorem T6:VF 10 [] (.ret C2):=Cg (l:=[]) rfl Ad (AbV []) rfl rfl
def cbOf:FB→Option (Nat×Q)
 |none=>none|some (k,p,q)=>some (k,((p:Int),(q:Int)))
theorem Tg {k p q:Nat}(h:Im (some (k,p,q))=true):k≤5∧p<10∧0<q∧q<6∧Nat.gcd p q=1:=by simp only[Im,zA]at h;obtain⟨h1,h2,h3,h4,h5⟩:=h;exact⟨zE h1,Ba h2,Ba h3,Ba h4,zD h5⟩
theorem YL {b:Bn}(hb:BnOk b){f:FB}(hf:Im f=true):EnOk (b.en (ES f)) (cbOf f):=by
 refine⟨B8 rfl hb.i0.ok,B8 rfl hb.i1.ok,B8 rfl hb.i2.ok,KX rfl hb.i3.ok hb.i4.ok hb.i5.ok,KX rfl hb.i6.ok hb.i7.ok hb.i8.ok,?_⟩
 match f,hf with
 |none,_=>rfl|some (k,p,q),hf=>
  obtain⟨h1,h2,h3,h4,h5⟩:=Tg hf;refine⟨?_,_,_,rfl,(Ju h2 h3 h4 h5).lit⟩;have:k=0∨k=1∨k=2∨k=3∨k=4∨k=5:=by omega
  simpa using this
theorem Adr {f:FB}(hf:Im f=true):Wk 0 (ES f):=by
 have x:∀{h:Int},0≤h→Sh h (.ref nX):=fun h=>.ref h (by decide)
 have s:Sh 2 (ES f):=by
  match f,hf with
  |none,_=>exact .bin (op:=3) (by decide) (fun h=>by cases h) (x (by decide)) (.bin (op:=5) (h:=0) (by decide) (fun _=>by show(0:Nat)≠2;decide) (.lit (a:=0) (b:=1) (u:=0) (by decide) (by decide) (by decide) (by decide) (by decide) (by decide)) (x (by decide)))
  |some (k,p,q),hf=>obtain⟨h1,h2,h3,h4,h5⟩:=Tg hf;exact .ite (x (by decide)) (.lit (a:=k) (b:=1) (u:=1) (by decide) (by omega) (by decide) (by decide) (Nat.gcd_one_right k) (by decide)) (.bin (op:=5) (h:=0) (by decide) (fun _=>by show(0:Nat)≠2;decide) (.lit (a:=p) (b:=q) (u:=0) (by decide) h2 h3 h4 h5 (by decide)) (x (by decide))) (x (by decide))
 exact s.hi 0 (by decide) (by decide)
structure N2 (xs:List Int)(t1 t2 t3 t4 t5:Nat)(b:Bn)(f x y z:X)(k kc:Kd):Prop where
 m1:Cm P4 gl5 1 11 [.ptr 0 0] [(0,Cn xs 0)] (.ret (DG f)) [(0,some (Cn xs t1))]
 m2:Cm P4 gl5 1 12 [.ptr 0 0] [(0,Cn xs t1)] (.ret (DE b)) [(0,some (Cn xs t2))]
 m3:Cm P4 gl5 1 14 [.ptr 0 0,.int .i64 2] [(0,Cn xs t2)] (.ret (.int .i64 k.n)) [(0,some (Cn xs (t2+1)))]
 m4:Cm P4 gl5 1 14 [.ptr 0 0,.int .i64 6] [(0,Cn xs (t2+1))] (.ret (.int .i64 kc.n)) [(0,some (Cn xs (t2+1+1)))]
 m5:Cm P4 gl5 1 13 [.ptr 0 0,.int .i64 3,.int .i64 k.n,.bool false] [(0,Cn xs (t2+1+1))] (.ret x.av) [(0,some (Cn xs t3))]
 m6:Cm P4 gl5 1 13 [.ptr 0 0,.int .i64 2,.int .i64 k.n,.bool false] [(0,Cn xs t3)] (.ret y.av) [(0,some (Cn xs t4))]
 m7:Cm P4 gl5 1 13 [.ptr 0 0,.int .i64 3,.int .i64 kc.n,.bool false] [(0,Cn xs t4)] (.ret z.av) [(0,some (Cn xs t5))]
def ifB (xs:List Int)(t1 t2 t3 t4 t5:Nat)(b:Bn)(f x y z:X)(k kc:Kd):List AV:=[B0 xs,.int .i64 (t1:Int),.int .u64 (stN xs t1),.int .i64 (t2:Int),.int .u64 (stN xs t2),.int .i64 ((t2+1:Nat):Int),.int .u64 (stN xs (t2+1)),.int .i64 ((t2+1+1:Nat):Int),.int .u64 (stN xs (t2+1+1)),.int .i64 (t3:Int),.int .u64 (stN xs t3),.int .i64 (t4:Int),.int .u64 (stN xs t4),.int .i64 (t5:Int),.int .u64 (stN xs t5),f.c0,f.c1,f.c2,f.c3,f.c4,f.c5]++([.str b.i0.t,.str b.i0.d,.str b.i1.t,.str b.i1.d,.str b.i2.t,.str b.i2.d,.str b.i3.t,.str b.i3.d,.str b.i4.t,.str b.i4.d,.str b.i5.t,.str b.i5.d,.str b.i6.t,.str b.i6.d,.str b.i7.t,.str b.i7.d,.str b.i8.t,.str b.i8.d]++[x.c0,x.c1,x.c2,x.c3,x.c4,x.c5,y.c0,y.c1,y.c2,y.c3,y.c4,y.c5,z.c0,z.c1,z.c2,z.c3,z.c4,z.c5,.int .i64 k.n,.int .i64 kc.n])
section
variable {xs:List Int}{t1 t2 t3 t4 t5:Nat}{b:Bn}{f x y z:X}{k kc:Kd}
theorem Nk:Pls (ifB xs t1 t2 t3 t4 t5 b f x y z k kc):=FH (all_cons (Qr xs)<|all_cons rfl<|all_cons rfl<|all_cons rfl<|all_cons rfl<|all_cons rfl<|all_cons rfl<|all_cons rfl<|all_cons rfl<|all_cons rfl<|all_cons rfl<|all_cons rfl<|all_cons rfl<|all_cons rfl<|all_cons rfl<|px f rfl) (FH rfl (px x<|px y<|px z<|pi _<|pi _ rfl))
theorem G0 (h:N2 xs t1 t2 t3 t4 t5 b f x y z k kc)(r:List AV):∀q∈ifG,Bx (Ag (ifB xs t1 t2 t3 t4 t5 b f x y z k kc++r)) (mpL []) q:=
 Ao (Aa (Ac T6 rfl rfl)<|Aa (Ac YJ rfl rfl)<|Aa h.m1<|Aa (Dr h.m2 rfl rfl rfl rfl)<|Ad)
  (Aa (Dr h.m3 rfl rfl rfl rfl)<|Aa (Dr h.m4 rfl rfl rfl rfl)<|Aa (Dr h.m5 rfl rfl rfl rfl)<|Aa (Dr h.m6 rfl rfl rfl rfl)<|Aa (Dr h.m7 rfl rfl rfl rfl)<|Ad)
def errT (er:Nat):AG:=.ret (.tup [WH,.int .i64 0,.int .i64 (.ofNat er)])
def okT (v:Vl)(n:Int):AG:=.ret (.tup [v.out,.int .i64 n,.int .i64 0])
def oneV (k:Kd)(p:Q):Vl:=⟨[],[p],k.dm⟩
theorem if_ek (hm:N2 xs t1 t2 t3 t4 t5 b f x y z k kc){er:Nat}(h0:er≠0){q:Q}{m:Int}(h1:VF 16 [C2,DG f,DE b,x.av] (errT er))(h2:VF 16 [C2,DG f,DE b,y.av] (okT (oneV k q) m)):Ay P4 gl5 4 [B0 xs] (.bool true):=
 GN (FH Nk (pi _<|pi _<|ps _<|ps _<|ps _<|ps _<|all_cons (SJ _) rfl)) (Ac3 (ifB xs t1 t2 t3 t4 t5 b f x y z k kc++[.int .i64 (.ofNat er),.int .i64 m,.str [],.str [],Aq q.1,Aq q.2,J2 k.dm])) (Ao (G0 hm _) (Aa (Ac h1 rfl rfl)<|Aa (Ac h2 rfl rfl) Ad)) (Aa (Cc (.ofNat er) 0 rfl rfl rfl (by simp[Bv,inst,h0])) Ad)
theorem if_ke (hm:N2 xs t1 t2 t3 t4 t5 b f x y z k kc){er:Nat}(h0:er≠0){q:Q}{m:Int}(h1:VF 16 [C2,DG f,DE b,x.av] (okT (oneV k q) m))(h2:VF 16 [C2,DG f,DE b,y.av] (errT er)):Ay P4 gl5 4 [B0 xs] (.bool true):=
 GN (FH Nk (pi _<|pi _<|ps _<|ps _<|ps _<|ps _<|all_cons (SJ _) rfl)) (AcP (ifB xs t1 t2 t3 t4 t5 b f x y z k kc++[.int .i64 m,.int .i64 (.ofNat er),Aq q.1,Aq q.2,.str [],.str [],J2 k.dm])) (Ao (G0 hm _) (Aa (Ac h1 rfl rfl)<|Aa (Ac h2 rfl rfl) Ad)) (Aa (Cc (.ofNat er) 0 rfl rfl rfl (by simp[Bv,inst,h0])) Ad)
theorem if_ee (hm:N2 xs t1 t2 t3 t4 t5 b f x y z k kc){er er2:Nat}(h0:er≠0)(h1:VF 16 [C2,DG f,DE b,x.av] (errT er))(h2:VF 16 [C2,DG f,DE b,y.av] (errT er2)):Ay P4 gl5 4 [B0 xs] (.bool true):=by have pl:Pls (ifB xs t1 t2 t3 t4 t5 b f x y z k kc++[.int .i64 (.ofNat er),.int .i64 (.ofNat er2)]):=FH Nk (pi _<|pi _ rfl);exact GN pl (Abu _) (Ao (G0 hm _) (Aa (Ac h1 rfl rfl)<|Aa (Ac h2 rfl rfl) Ad)) (Aa (Cc (.ofNat er) 0 rfl rfl rfl (by simp[Bv,inst,h0])) Ad)
structure IfOk (b:Bn)(f x y z:X)(k:Kd)(p q:Q)(n m:Int)(r1 r2:AG):Prop where
 ex:VF 16 [C2,DG f,DE b,x.av] (okT (oneV k p) n)
 ey:VF 16 [C2,DG f,DE b,y.av] (okT (oneV k q) m)
 vp:VF 20 [.agg [Aq p.1,Aq p.2]] (.ret (.bool true))
 vq:VF 20 [.agg [Aq q.1,Aq q.2]] (.ret (.bool true))
 ls:VF 21 [.agg [Aq p.1,Aq p.2],.agg [Aq q.1,Aq q.2]] (.ret (.bool (decide (p.1*q.2<q.1*p.2))))
 ei:VF 16 [C2,DG f,DE b,(if decide (p.1*q.2<q.1*p.2) then X.ite x y z (.ref RK) else X.ite x y (.ref RK) z).av] r1
 ez:VF 16 [C2,DG f,DE b,z.av] r2
theorem if_k (hm:N2 xs t1 t2 t3 t4 t5 b f x y z k kc){p q:Q}{n m i j:Int}{w:Vl}(h:IfOk b f x y z k p q n m (okT w i) (okT w j))(hw:VF 17 [w.out,w.out] (.ret (.bool true))):Ay P4 gl5 4 [B0 xs] (.bool true):=by
 obtain⟨h1,h2,h3,h4,h5,h6,h7⟩:=h;have pl:Pls (ifB xs t1 t2 t3 t4 t5 b f x y z k kc++[.int .i64 n,.int .i64 m,Aq p.1,Aq p.2,Aq q.1,Aq q.2,J2 k.dm,AA w.sh,outI w,J2 w.dm,.int .i64 i,.int .i64 j]):=FH Nk (pi _<|pi _<|ps _<|ps _<|ps _<|ps _<|all_cons (SJ _)<|po w<|pi _<|pi _ rfl);cases hl:decide (p.1*q.2<q.1*p.2) with
 |true=>rw[hl]at h5 h6;exact GN pl (zB.1 (ZJ _) true (by decide)) (Ao (G0 hm _) (Ao (Aa (Ac h1 rfl rfl)<|Aa (Ac h2 rfl rfl)<|Aa (Ac h3 rfl rfl)<|Aa (Ac h4 rfl rfl)<|Aa (Ac h5 rfl rfl)<|Aa (Ac h6 rfl rfl)<|Aa (Ac h7 rfl rfl) Ad) (Aa (Ac hw rfl rfl) Ad))) Ad
 |false=>rw[hl]at h5 h6;exact GN pl (zB.1 (ZJ _) false (by decide)) (Ao (G0 hm _) (Ao (Aa (Ac h1 rfl rfl)<|Aa (Ac h2 rfl rfl)<|Aa (Ac h3 rfl rfl)<|Aa (Ac h4 rfl rfl)<|Aa (Ac h5 rfl rfl)<|Aa (Ac h6 rfl rfl)<|Aa (Ac h7 rfl rfl) Ad) (Aa (Ac hw rfl rfl) Ad))) Ad
theorem if_x (hm:N2 xs t1 t2 t3 t4 t5 b f x y z k kc){p q:Q}{n m:Int}{er:Nat}(h:IfOk b f x y z k p q n m (errT er) (errT er)):Ay P4 gl5 4 [B0 xs] (.bool true):=by
 obtain⟨h1,h2,h3,h4,h5,h6,h7⟩:=h;have pl:Pls (ifB xs t1 t2 t3 t4 t5 b f x y z k kc++[.int .i64 n,.int .i64 m,Aq p.1,Aq p.2,Aq q.1,Aq q.2,J2 k.dm,.int .i64 (.ofNat er)]):=FH Nk (pi _<|pi _<|ps _<|ps _<|ps _<|ps _<|all_cons (SJ _)<|pi _ rfl);cases hl:decide (p.1*q.2<q.1*p.2) with
 |true=>rw[hl]at h5 h6;exact GN pl (zB.1 (YF _) true (by decide)) (Ao (G0 hm _) (Aa (Ac h1 rfl rfl)<|Aa (Ac h2 rfl rfl)<|Aa (Ac h3 rfl rfl)<|Aa (Ac h4 rfl rfl)<|Aa (Ac h5 rfl rfl)<|Aa (Ac h6 rfl rfl)<|Aa (Ac h7 rfl rfl) Ad)) (Aa (Cc (.ofNat er) (.ofNat er) rfl rfl rfl (by simp[Bv,inst])) Ad)
 |false=>rw[hl]at h5 h6;exact GN pl (zB.1 (YF _) false (by decide)) (Ao (G0 hm _) (Aa (Ac h1 rfl rfl)<|Aa (Ac h2 rfl rfl)<|Aa (Ac h3 rfl rfl)<|Aa (Ac h4 rfl rfl)<|Aa (Ac h5 rfl rfl)<|Aa (Ac h6 rfl rfl)<|Aa (Ac h7 rfl rfl) Ad)) (Aa (Cc (.ofNat er) (.ofNat er) rfl rfl rfl (by simp[Bv,inst])) Ad)
end
theorem kd_of {d:Int}(h0:0≤d)(h6:d≤6):∃k:Kd,d=k.n∧(d≤2→k=.pl∨k=.m∨k=.s):=by
 have:d=0∨d=1∨d=2∨d=3∨d=4∨d=5∨d=6:=by omega
 rcases this with rfl|rfl|rfl|rfl|rfl|rfl|rfl
 ·exact⟨.pl,rfl,fun _=>.inl rfl⟩
 ·exact⟨.m,rfl,fun _=>.inr (.inl rfl)⟩
 ·exact⟨.s,rfl,fun _=>.inr (.inr rfl)⟩
 ·exact⟨.m3,rfl,fun h=>absurd h (by decide)⟩
 ·exact⟨.pl3,rfl,fun h=>absurd h (by decide)⟩
 ·exact⟨.m2,rfl,fun h=>absurd h (by decide)⟩
 ·exact⟨.ms,rfl,fun h=>absurd h (by decide)⟩
theorem w_no {d:Int}(h0:0≤d)(h1:d<30):Wk d (.ref RK):=Cj (l:=[.int .i64 d,.int .i64 (d+1)]) (pi _<|pi _<|rfl) (r_wno _) Ad (Cw h0 h1) rfl rfl
theorem if_law (xs:List Int):Ay P4 gl5 4 [B0 xs] (.bool true):=by
 obtain⟨f,t1,hf,_,ht1,m1⟩:=XC xs 0 (by decide);obtain⟨b,t2,hb,_,ht2,m2⟩:=Uz xs t1 (by omega);have hr:=EH xs t2 2;have hr2:=EH xs (t2+1) 6;have m3:=g_up xs t2 2 (by omega) (by decide);have m4:=g_up xs (t2+1) 6 (by omega) (by decide);obtain⟨k,hk,hko⟩:=kd_of hr.1 (Int.le_trans hr.2 (by decide));obtain⟨kc,hkc,_⟩:=kd_of hr2.1 hr2.2;have hko:=hko hr.2;rw[hk]at m3;rw[hkc]at m4;obtain⟨x,t3,_,ht3,gx,m5⟩:=ZU xs k false (t2+1+1) (by omega);obtain⟨y,t4,_,ht4,gy,m6⟩:=YO xs k false t3 (by omega);obtain⟨z,t5,_,ht5,gz,m7⟩:=ZU xs kc false t4 (by omega);have made:N2 xs t1 t2 t3 t4 t5 b (ES f) x y z k kc:=⟨m1,m2,m3,m4,m5,m6,m7⟩;have he:=YL hb hf;have wf:=Adr hf;obtain⟨tx,sx⟩:Ty 2 false k x∧Sh 3 x:=gx;obtain⟨ty,sy⟩:Ty 1 false k y∧Sh 2 y:=gy;obtain⟨tz,sz⟩:Ty 2 false kc z∧Sh 3 z:=gz;have hka:k.arr=false:=by rcases hko with rfl|rfl|rfl<;>rfl
 have cx:=JN tx;have cy:=JN ty;rw[show Ef 2=83 by decide]at cx;rw[show Ef 1=19 by decide]at cy;have gx:=EN he tx (bs0 (by decide)) (n:=0) (by decide) (by omega);have gy:=EN he ty (bs0 (by decide)) (n:=0) (by decide) (by omega);have wx:=sx.hi 0 (by decide) (by decide);have wy:=sy.hi 0 (by decide) (by decide);have wz:=sz.hi 0 (by decide) (by decide);cases ex:evS (b.en (ES f)) (cbOf f) [] x 0 with
 |error er=>
  have g1:=gx.1;rw[ex]at g1;have hx:=eval_err hb wf wx (JF _ _ _ _ ex) g1;cases ey:evS (b.en (ES f)) (cbOf f) [] y 0 with
  |error er2=>have g2:=gy.1;rw[ey]at g2;exact if_ee made (JF _ _ _ _ ex) hx (eval_err hb wf wy (JF _ _ _ _ ey) g2)
  |ok q=>obtain⟨v,m⟩:=q;have g2:=gy.1;rw[ey]at g2;have vv:=(gy.2 v m ey).1;obtain⟨q,rfl,oq⟩:=vv.one hka;exact if_ek made (JF _ _ _ _ ex) hx (eval_ok hb wf wy vv g2)
 |ok q=>
  obtain⟨u,n⟩:=q;have g1:=gx.1;rw[ex]at g1;have vu:=(gx.2 u n ex).1;have hx:=eval_ok hb wf wx vu g1;cases ey:evS (b.en (ES f)) (cbOf f) [] y 0 with
  |error er2=>obtain⟨p,rfl,op⟩:=vu.one hka;have g2:=gy.1;rw[ey]at g2;exact if_ke made (JF _ _ _ _ ey) hx (eval_err hb wf wy (JF _ _ _ _ ey) g2)
  |ok q=>
   obtain⟨v,m⟩:=q;have g2:=gy.1;rw[ey]at g2;have hy:=eval_ok hb wf wy (gy.2 v m ey).1 g2;obtain⟨p,q,rfl,rfl,op,oq,gz,gi⟩:=if_ev he hko tx ty tz ex ey;have gi:=gi (.ref RK);have wi:Wk 0 (if decide (p.1*q.2<q.1*p.2) then X.ite x y z (.ref RK) else X.ite x y (.ref RK) z):=by
    have wx:=sx.hi 1 (by decide) (by decide);have wy:=sy.hi 1 (by decide) (by decide);have wz:=sz.hi 1 (by decide) (by decide);have wn:Wk 1 (.ref RK):=w_no (by decide) (by decide);split
    ·exact AaR (by decide) (by decide) wx wy wz wn
    ·exact AaR (by decide) (by decide) wx wy wn wz
   have gz1:=gz.1;cases ez:evS (b.en (ES f)) (cbOf f) [] z 0 with
   |error er=>have h0:=JF _ _ _ _ ez;rw[ez]at gz1 gi;exact if_x made ⟨hx,hy,Mk op,Mk oq,Za op oq,eval_err hb wf wi h0 gi,eval_err hb wf wz h0 gz1⟩
   |ok r=>obtain⟨w,j⟩:=r;have vw:=(gz.2 w j ez).1;rw[ez]at gz1 gi;exact if_k made ⟨hx,hy,Mk op,Mk oq,Za op oq,eval_ok hb wf wi vw gi,eval_ok hb wf wz vw gz1⟩ (eq_all vw)
end Go.Ev
namespace Go.Ev
open Go Go.Ab Go.Nb Go.E4 Go.RowKit Go.Proofs Go.Proofs.YtecmlmofhabonaaGreatDoor
set_option maxRecDepth 1000000
abbrev kl:List (String×DataW Unit):=Rows.evalStepsRow.laid
abbrev Cv:Value:=.iface 311 (.agg #[.pointer (some ⟨9,165,none⟩)])
theorem et:Tryz.prog.globalNamed "errors.errorType" = some 0:=by kernel_rfl
theorem rt:(Tryz.prog.cutTypes.find? (·.1 == "internal/reflectlite.rtype")).map (·.2)=some 311:=by kernel_rfl
theorem oneRow:((List.range Tryz.prog.types.size).filter fun t=>Tryz.prog.rowNamed t [101,114,114,111,114])=[165]:=by kernel_rfl
theorem Fi {W:World}(h:laidMetH Tryz.prog kl W):W.var? Tryz.prog "errors.errorType" = some #[Cv]:=by
 obtain⟨_,h2⟩:=laidMetH_iff.1 h;have hmem:("errors.errorType",Rows.laid_errors_errorType)∈kl.filter fun x=>x.2.handleName?.isSome:=by rw[show(kl.filter fun x=>x.2.handleName?.isSome)=[("errors.errorType",Rows.laid_errors_errorType)] by kernel_rfl];exact List.mem_singleton.2 rfl
 obtain⟨name,u,ty,e1,e2,e3,e4,e5⟩:=h2 _ hmem;have en:name=[101,114,114,111,114]:=(Option.some.inj e1).symm;subst en;obtain rfl:=Option.some.inj (rt.symm.trans e2);have hm:ty∈(List.range Tryz.prog.types.size).filter fun t=>Tryz.prog.rowNamed t [101,114,114,111,114]:=List.mem_filter.2 ⟨zQ.2 e3,e4⟩
 rw[oneRow]at hm;obtain rfl:=List.mem_singleton.1 hm;have hh:typeHandle Tryz.prog 165=.pointer (some ⟨9,165,none⟩):=by kernel_rfl
 rw[hh]at e5;exact e5
theorem laid5:(Rows.laid_internal_strconv_uint64pow10:DataW Unit)=Lib.tabData .u64 Lib.pow10Tab:=by kernel_rfl
theorem Lx {W:World}(h:laidMetH Tryz.prog kl W):∃cs,W.var? Tryz.prog "internal/strconv.uint64pow10" = some cs∧cs.toList=Lib.pow10Tab.map fun z=>Value.int .u64 z:=by
 obtain⟨h1,_⟩:=laidMetH_iff.1 h;have hmem:("internal/strconv.uint64pow10",Rows.laid_internal_strconv_uint64pow10)∈kl.filter fun x=>x.2.handleName?.isNone:=by refine List.mem_filter.2 ⟨?_,by kernel_rfl⟩;exact zO _ (zO _ (List.mem_cons_self ..))
 obtain⟨g,t,cs,fuel,p,hg,hty,hvar,hd⟩:=Go.Lib.laidMet.reads h1 hmem;obtain rfl:=Option.some.inj (Nv.symm.trans hg);obtain rfl:=Option.some.inj ((show(Tryz.prog.globals[5]?).map (·.type)=some 473 by kernel_rfl).symm.trans hty);rw[laid5]at hd;exact⟨cs,hvar,Lib.cells_of_tab (n:=20) (e:=77) (show Tryz.prog.underlying 473=some (.array 20 77) by kernel_rfl) (show Tryz.prog.underlying 77=some (.int .u64) by kernel_rfl) (by kernel_rfl) (by kernel_rfl) hd⟩
def fz0 (b:Nat):Prop:=b=0∨b=5
theorem globs:Wp.list=[(0,[.raw Cv]),(5,Lib.pow10Tab.map fun z=>AV.int .u64 z)]:=by kernel_rfl
theorem EZ {P:Program}{W:World}{n:String}{g:Nat}{cs:Array Value}(hg:P.globalNamed n=some g)(h:W.var? P n=some cs):Whole W g cs.size:=by
 simp only[World.var?,hg,Option.bind_some]at h;split at h
 ·rename_i c e fr hh;simp only[zC]at h;subst h;exact⟨_,e,fr,hh,rfl⟩
 ·cases h
theorem Ab9 {W:World}(h:laidMetH Tryz.prog kl W)(kc:KC)(fz:Nat→Prop)(hf:∀b,fz0 b→fz b):Wh gl5 ⟨fun _=>none,fz,kc⟩ W:=by
 obtain⟨cs,h1,h2⟩:=Lx h;have h0:VRC ⟨fun _=>none,fz,kc⟩ W 0 [.raw Cv] 0:=by simp only[VRC,VR,and_true];exact⟨_,by simpa using World.var?_cell et (Fi h) 0,rfl⟩
 have h6:VRC ⟨fun _=>none,fz,kc⟩ W 5 (Lib.pow10Tab.map fun z=>AV.int .u64 z) 0:=by
  refine VRC.C1 fun i x hx=>?_
  rw[List.getElem?_map,Option.map_eq_some_iff]at hx;obtain⟨z,hz,rfl⟩:=hx;refine⟨.int .u64 z,?_,by simp only[VR]⟩;rw[Nat.zero_add,World.var?_cell Nv h1 i,←Array.getElem?_toList,h2,List.getElem?_map,hz];rfl
 intro g cells hc;have hm:(g,cells)∈Wp.list:=T.Fk (t:=Wp) (k:=AE) hc;rw[globs]at hm;simp only[zH,List.not_mem_nil,or_false]at hm;rcases hm with e|e<;>cases e
 ·exact⟨hf _ (.inl rfl),h0,EZ et (Fi h)⟩
 ·refine⟨hf _ (.inr rfl),h6,?_⟩;have:=EZ Nv h1;rw[←Array.length_toList,h2,List.length_map]at this;rw[List.length_map];exact this
theorem Zi {W:World}(h:laidMetH Tryz.prog kl W):∀b,fz0 b→b<W.heap.size:=by
 have key:∀(b n:Nat),Whole W b n→b<W.heap.size:=fun b n ⟨_,_,_,hv,_⟩=>(Array.getElem?_eq_some_iff.1 hv).1
 rintro b (rfl|rfl)
 ·exact key _ _ (EZ et (Fi h))
 ·obtain⟨cs,h1,_⟩:=Lx h;exact key _ _ (EZ Nv h1)
noncomputable def laid0 (os:Os):World:=
 let w:=World.holding Tryz.prog os ⟨#[],#[],[]⟩
 { w with heap:=w.heap.modify 0 fun
  |.cells _ t fr=>.cells #[Cv] t fr|o=>o }
abbrev kd:List (String×DataW Unit):=kl.filter fun x=>x.2.handleName?.isNone
abbrev kn:List String:=["math/bits.deBruijn32tab", "math/bits.deBruijn64tab", "internal/strconv.uint64pow10", "unicode/utf8.acceptRanges", "strconv.ErrRange", "strconv.ErrSyntax", "unicode/utf8.first"]
noncomputable def ZV (os:Os):World:=(laid0 os).layVars Tryz.prog (kd.filter fun x=>kn.contains x.1)
theorem kd_all:(kd.filter fun x=>!kn.contains x.1)=[]:=by kernel_rfl
theorem W5 (os:Os)(args:Array Value):laidMetH Tryz.prog kl ((ZV os).forCall (fun _ _=>0) ⟨#[],args,[]⟩).memory:=by refine laidMetH_of_parts ?_ (by kernel_rfl);have h:laidMet Tryz.prog kd (ZV os):=laidMet_layVars (w0:=laid0 os) kn [] rfl (by kernel_rfl) (by kernel_rfl) (by rw[kd_all];exact LaidIn.none);exact h.of_heap (by simp[World.memory,World.forCall,Input.heap])
end Go.Ev
namespace Go.Proofs.YtecmlmofhabonaaGreatDoor
open Go Go.Ab Go.Nb Go.E4 Go.Ev Go.Ro Go.ChangeShapes Go.WideShapes Go.RowKit Go.Conc
set_option maxRecDepth 1000000
theorem OY {w w':World}(e:Below w.heap.size w w'){may:MemPlace→Prop} : w.keptBut w' may:=by
 refine⟨e.os,e.output,fun i hi=>?_⟩;rw[e.block i hi];cases w.heap[i]? with
 |none=>rfl|some x=>cases x<;>first|exact⟨rfl,rfl,rfl,fun _ _=>rfl⟩|exact .inr ⟨rfl,rfl⟩|rfl
theorem WT {w:World}{a:Addr}{v:Value}(h:w.cell? a=some v):a.spot=none:=by
 unfold World.cell? at h;split at h
 ·cases hs:a.spot with
  |none=>rfl|some s=>simp[hs]at h
 ·simp at h
theorem Xy {W:World}(h:laidMetH Tryz.prog kl W){f:FuncId}{xs:List Int}(hL:Ay P4 gl5 f [B0 xs] (.bool true)){v:Value}{fz:Nat→Prop}(hf:∀b,fz0 b→fz b)(hlt:∀b,fz b→b<W.heap.size)
 (hv:∀kc:KC,VR ⟨fun _=>none,fz,kc⟩ W (B0 xs) v):Calls Tryz.prog f #[v] W fun e W'=>e=.returned (.bool true)∧Below W.heap.size W W':=by
 refine(hL ⟨fun _=>none,fz,⟨P4.cellsOf,De.env.sel,De.env.tok,De.env.str,De.env.mp⟩⟩ W #[v] rfl (fun _=>rfl) hlt (Ab9 h _ fz hf) ⟨v,[],rfl,hv _,rfl⟩).mono ?_;rintro e W' ⟨u,rfl,hb,hu⟩;simp only[VR]at hu;subst hu;exact⟨rfl,hb⟩
theorem Tryz.own:ownKnob Tryz.prog.godebug=none:=by kernel_rfl
theorem Y2:Tryz.prog.cellsOf 3=1:=by kernel_rfl
theorem W1 {H:Type}{enc:TypeId×Value→H}{W:World}(h:laidMetH Tryz.prog kl W){v:Value}(hvs:∃a len cap,v=.slice a len cap){d:DataW H}{p:List MemPlace}(hd:DataW.Trod enc Tryz.prog W 0 (fun _=>true) true 22 v d p) :
 ∃(xs:List Int) (fz:Nat→Prop),(∀b,fz0 b→fz b)∧(∀b,fz b→b<W.heap.size)∧(∀kc:KC,VR ⟨fun _=>none,fz,kc⟩ W (B0 xs) v)∧
  ∀W':World,(∀b,b<W.heap.size→W'.heap[b]?=W.heap[b]?)→DataW.Trod enc Tryz.prog W' 0 (fun b=>decide (b<W.heap.size)) true 22 v d p:=by
 obtain⟨a0,l0,c0,rfl⟩:=hvs;obtain⟨fuel,hd⟩:=hd;rcases open_ints Tryz.underlying22 Tryz.underlying3 Y2 hd with⟨h1,h2⟩|⟨a,len,cap,zs,h1,hb,hl,hm,hz,h2,Cv,hw⟩
 ·have e:Value.slice a0 l0 c0=.slice none 0 0:=by simpa[Value.cells]using h1
  rw[e];cases h2;exact⟨[],fz0,fun _ h=>h,Zi h,fun kc=>by simp only[B0,VR];exact⟨none,0,rfl,fun _=>rfl⟩,fun W' _=>shut_slice_nil Tryz.underlying22⟩
 ·have e:Value.slice a0 l0 c0=.slice (some a) len cap:=by simpa[Value.cells]using h1
  rw[e];have hz:zs.length=cap:=by simpa using hz
  cases h2;have hlt:0<zs.length→a.block<W.heap.size:=fun h0=>by
   have hc:=Cv 0 h0;rcases Nat.lt_or_ge a.block W.heap.size with hh|hh
   ·exact hh
   ·have hbl:(a.add 0).block=a.block:=block_add a 0;simp[World.cell?,hbl,Array.getElem?_eq_none hh]at hc
  refine⟨zs.take len,fun b=>fz0 b∨(0<zs.length∧b=a.block),fun _ h=>.inl h,?_,fun kc=>?_,fun W' hW=>?_⟩
  ·rintro b (hb'|⟨h0,rfl⟩)
   ·exact Zi h b hb'
   ·exact hlt h0
  ·cases hx:zs.take len with
   |nil=>
    have h0:len=0:=by have:=congrArg List.length hx;rw[List.length_take,List.length_nil]at this;omega
    subst h0;simp only[B0,VR];exact⟨some a,cap,rfl,nofun⟩
   |cons x xs=>
    have hln:len=xs.length+1:=by have:=congrArg List.length hx;rw[List.length_take,List.length_cons]at this;omega
    have hpos:0<zs.length:=by omega
    have hc:=Cv 0 hpos;have hsp:a.spot=none:=by
     have:=WT hc;unfold Addr.add at this;split at this
     ·exact this
     ·simp_all
    have ha:a=⟨a.block,a.off,none⟩:=by cases a;simp at hsp;subst hsp;rfl
    simp only[B0,VR];refine⟨a.block,a.off,cap,by rw[←ha,hln],by omega,nofun,.inr ⟨hpos,rfl⟩,VRC.C1 fun i y hy=>?_⟩;rw[List.getElem?_map,Option.map_eq_some_iff]at hy;obtain⟨z,hz',rfl⟩:=hy;rw[←hx,List.getElem?_take]at hz';split at hz';case isFalse=>cases hz'
    have hi:i<zs.length:=(zN.1 hz').1;have:=Cv i hi;rw[ha,add_plain]at this;refine⟨_,this,?_⟩;simp only[VR];rw[List.getD,hz'];rfl
  ·refine⟨2,?_⟩;have:=shut_ints (enc:=enc) (P:=Tryz.prog) (w:=W') (base:=0) (spare:=fun b=>decide (b<W.heap.size)) (held:=true) (t:=22) (a:=a) (len:=len) (cap:=cap) (zs:=zs) 0 Tryz.underlying22 Tryz.underlying3 Y2 (Nat.zero_le _) hl hm (by
    by_cases h0:0<zs.length
    ·rw[if_pos (by simpa using hlt h0)];exact hz
    ·split<;>omega) (fun i hi=>by rw[←Cv i hi];have hbl:(a.add i).block=a.block:=block_add a i;simp only[World.cell?,hbl,hW _ (hlt (by omega))]) hw
   exact this
end Go.Proofs.YtecmlmofhabonaaGreatDoor
end
