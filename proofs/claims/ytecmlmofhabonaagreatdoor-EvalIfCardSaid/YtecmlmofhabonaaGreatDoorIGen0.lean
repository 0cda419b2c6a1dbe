/- What the generators make of any list of numbers. -/
import Derived.Test.YtecmlmofhabonaaGreatDoorITab
noncomputable section
namespace Go.Ro
open Go Go.Proofs
def addA (n:Nat):Int:=IntKind.u64.wrap (((n:Int)+1)*13503953896175478587)
def addB (n:Nat)(x:Int):Int:=IntKind.u64.wrap (addA n+IntKind.u64.wrap (IntKind.u64.wrap x*4354685564936845355))
def mixA (st add:Int):Int:=IntKind.u64.wrap (bits BinOp.xor IntKind.u64 st add*11912009170470909681)
def Gw (s1:Int):Int:=bits BinOp.xor IntKind.u64 s1 (s1/2147483648)
def Sr (s:Int):Int:=IntKind.u64.wrap (s*5840696475078001361)
def OV (o:Int):Int:=bits BinOp.xor IntKind.u64 o (o/536870912)/2048
def Oo (b sh n:Nat)(s1:Int)(w:World)(e:Ending)(w':World):Prop:=
 e=.returned (.int .u64 (OV (Sr (Gw s1))))∧∃m,w'=((((w.drewN m).setCell ⟨b,sh+1,none⟩ (.int .i64 ((n:Int)+1))).setCell ⟨b,sh+2,none⟩ (.int .u64 s1)).drew).setCell ⟨b,sh+2,none⟩ (.int .u64 (Gw s1))
set_option maxRecDepth 100000 in
set_option maxHeartbeats 4000000 in
theorem YC (b sh:Nat)(base:Option Addr)(len cap n:Nat)(st:Int)(w:World)(c0:w.cell? ⟨b,sh,none⟩=some (.slice base len cap))(c1:w.cell? ⟨b,sh+1,none⟩=some (.int .i64 (n:Int)))(c2:w.cell? ⟨b,sh+2,none⟩=some (.int .u64 st))
 (f1:w.frozen? ⟨b,sh+1,none⟩=false) (f2:w.frozen? ⟨b,sh+2,none⟩=false) (h1:n<1000000) (hd:decide (n<len)=false) :
 Calls Tryz.prog 45 #[.pointer (some ⟨b,sh,none⟩)] w (Oo b sh n (mixA st (addA n)) w):=by
 go_enter Tryz.func45,Tryz.ntmps45
 go_wp2
 go_quiet (fail)
 go_wp2
 generalize hs1:IntKind.u64.wrap (bits BinOp.xor IntKind.u64 st (IntKind.u64.wrap (((n:Int)+1)*13503953896175478587))*11912009170470909681)=s1;have g2:(((w.drewN nq).setCell ⟨b,sh+1,none⟩ (.int .i64 ((n:Int)+1))).setCell ⟨b,sh+2,none⟩ (.int .u64 s1)).cell? ⟨b,sh+2,none⟩=some (.int .u64 s1):=by simp[World.cell?_setCell_same',World.cell?_setCell_other,c2]
 have k2:(((w.drewN nq).setCell ⟨b,sh+1,none⟩ (.int .i64 ((n:Int)+1))).setCell ⟨b,sh+2,none⟩ (.int .u64 s1)).frozen? ⟨b,sh+2,none⟩=false:=by simp[f2]
 generalize hW:((w.drewN nq).setCell ⟨b,sh+1,none⟩ (.int .i64 ((n:Int)+1))).setCell ⟨b,sh+2,none⟩ (.int .u64 s1)=W3 at g2 k2 ⊢;have HW:=Lib.hid hW;have HS:=Lib.hid hs1;clear hW hs1
 go_still_tail 11,(by kernel_rfl)
 change wpList _ _ _ _ _ W3.drew;have g4:W3.drew.cell? ⟨b,sh+2,none⟩=some (.int .u64 s1):=g2;have k4:W3.drew.frozen? ⟨b,sh+2,none⟩=false:=k2;generalize hW4:W3.drew=w2 at g4 k4 ⊢;have HW4:=Lib.hid hW4;clear hW4
 go_wp2
 go_ret
 have hW4:=HW4.out;have hW:=HW.out;have hs1:=HS.out;subst hW4 hW hs1;exact⟨rfl,nq,rfl⟩
set_option maxRecDepth 100000 in
set_option maxHeartbeats 4000000 in
theorem Acw (b sh nb no:Nat)(len cap n:Nat)(st x:Int)(w:World)(c0:w.cell? ⟨b,sh,none⟩=some (.slice (some ⟨nb,no,none⟩) len cap))(c1:w.cell? ⟨b,sh+1,none⟩=some (.int .i64 (n:Int)))(c2:w.cell? ⟨b,sh+2,none⟩=some (.int .u64 st))
 (cx:w.cell? ⟨nb,no+n,none⟩=some (.int .i64 x))
 (f1:w.frozen? ⟨b,sh+1,none⟩=false) (f2:w.frozen? ⟨b,sh+2,none⟩=false) (h1:n<1000000) (hn:n<len) (_hd:decide (n<len)=true) :
 Calls Tryz.prog 45 #[.pointer (some ⟨b,sh,none⟩)] w (Oo b sh n (mixA st (addB n x)) w):=by
 go_enter Tryz.func45,Tryz.ntmps45
 go_wp2
 go_quiet (fail)
 go_wp2
 go_quiet (fail)
 go_wp2
 rename_i nq1 K1 hK1;generalize hnq:nq1+nq=nq2;generalize hs1:IntKind.u64.wrap (bits BinOp.xor IntKind.u64 st (IntKind.u64.wrap (IntKind.u64.wrap (((n:Int)+1)*13503953896175478587)+IntKind.u64.wrap (IntKind.u64.wrap x*4354685564936845355)))*11912009170470909681)=s1;have g2:(((w.drewN nq2).setCell ⟨b,sh+1,none⟩ (.int .i64 ((n:Int)+1))).setCell ⟨b,sh+2,none⟩ (.int .u64 s1)).cell? ⟨b,sh+2,none⟩=some (.int .u64 s1):=by simp[World.cell?_setCell_same',World.cell?_setCell_other,c2]
 have k2:(((w.drewN nq2).setCell ⟨b,sh+1,none⟩ (.int .i64 ((n:Int)+1))).setCell ⟨b,sh+2,none⟩ (.int .u64 s1)).frozen? ⟨b,sh+2,none⟩=false:=by simp[f2]
 generalize hW:((w.drewN nq2).setCell ⟨b,sh+1,none⟩ (.int .i64 ((n:Int)+1))).setCell ⟨b,sh+2,none⟩ (.int .u64 s1)=W3 at g2 k2 ⊢;have HW:=Lib.hid hW;have HS:=Lib.hid hs1;clear hW hs1
 go_still_tail 11,(by kernel_rfl)
 change wpList _ _ _ _ _ W3.drew;have g4:W3.drew.cell? ⟨b,sh+2,none⟩=some (.int .u64 s1):=g2;have k4:W3.drew.frozen? ⟨b,sh+2,none⟩=false:=k2;generalize hW4:W3.drew=w2 at g4 k4 ⊢;have HW4:=Lib.hid hW4;clear hW4
 go_wp2
 go_ret
 have hW4:=HW4.out;have hW:=HW.out;have hs1:=HS.out;subst hW4 hW hs1;exact⟨rfl,nq2,rfl⟩
def Ht (xs:List Int)(n:Nat)(st:Int):Int:=mixA st (if h:n<xs.length then addB n (xs[n]) else addA n)
def RP (s1:Int)(m:Nat):Int:=if m=0 then 0 else OV (Sr (Gw s1))%((m:Int)+1)
theorem Vm (o:Int):0≤OV o∧OV o<9007199254740992:=by
 have h1:=(bits_within BinOp.xor IntKind.u64 o (o/536870912));have h2:IntKind.u64.min=0:=by decide
 have h3:IntKind.u64.max=18446744073709551615:=by decide
 rw[h2,h3]at h1;unfold OV;omega
theorem S9 (s1:Int)(m:Nat):0≤RP s1 m∧RP s1 m≤m:=by
 unfold RP;split
 ·omega
 ·have h1:(0:Int)<(m:Int)+1:=by omega
  exact⟨Int.emod_nonneg _ (by omega),by have:=Int.emod_lt_of_pos (OV (Sr (Gw s1))) h1;omega⟩
def QI (w:World)(xs:List Int)(base:Option Addr)(len:Nat):Prop:=
 len=xs.length∧(xs=[]∨∃nb no,base=some ⟨nb,no,none⟩ ∧∀(i:Nat) (x:Int),xs[i]?=some x→w.cell? ⟨nb,no+i,none⟩=some (.int .i64 x))
def So (b sh n:Nat)(s1:Int)(w w':World):Prop:=
 ∃k k',w'=((((w.drewN k).setCell ⟨b,sh+1,none⟩ (.int .i64 ((n:Int)+1))).setCell ⟨b,sh+2,none⟩ (.int .u64 s1)).setCell ⟨b,sh+2,none⟩ (.int .u64 (Gw s1))).drewN k'
theorem Sc (xs:List Int)(b sh:Nat)(base:Option Addr)(len cap n:Nat)(st s1 o:Int)(w:World)(hx:QI w xs base len)(c0:w.cell? ⟨b,sh,none⟩=some (.slice base len cap))(c1:w.cell? ⟨b,sh+1,none⟩=some (.int .i64 (n:Int)))(c2:w.cell? ⟨b,sh+2,none⟩=some (.int .u64 st))
 (f1:w.frozen? ⟨b,sh+1,none⟩=false) (f2:w.frozen? ⟨b,sh+2,none⟩=false) (h1:n<1000000) (hs:Ht xs n st=s1) (ho:OV (Sr (Gw s1))=o) :
 Calls Tryz.prog 45 #[.pointer (some ⟨b,sh,none⟩)] w fun e w'=>e=.returned (.int .u64 o)∧So b sh n s1 w w':=by
 have key:∀s2,s2=s1→Calls Tryz.prog 45 #[.pointer (some ⟨b,sh,none⟩)] w (Oo b sh n s2 w)→Calls Tryz.prog 45 #[.pointer (some ⟨b,sh,none⟩)] w fun e w'=>e=.returned (.int .u64 o)∧So b sh n s1 w w':=by
  intro s2 h2 h;subst h2 ho;refine h.mono fun e w' ⟨he,m,hw⟩=>⟨he,m,1,?_⟩
  rw[hw];rfl
 obtain⟨rfl,hx⟩:=hx;unfold Ht at hs;by_cases hn:n<xs.length
 ·rw[dif_pos hn]at hs;rcases hx with rfl|⟨nb,no,rfl,hx⟩
  ·simp at hn
  ·exact key _ hs (Acw b sh nb no _ cap n st _ w c0 c1 c2 (hx n _ (zK hn)) f1 f2 h1 hn (by simpa using hn))
 ·rw[dif_neg hn]at hs;exact key _ hs (YC b sh base _ cap n st w c0 c1 c2 f1 f2 h1 (by simpa using hn))
set_option maxRecDepth 10000 in
theorem Ab8 (xs:List Int)(b sh:Nat)(base:Option Addr)(len cap n:Nat)(st s1:Int)(w:World)(hx:QI w xs base len)(c0:w.cell? ⟨b,sh,none⟩=some (.slice base len cap))(c1:w.cell? ⟨b,sh+1,none⟩=some (.int .i64 (n:Int)))(c2:w.cell? ⟨b,sh+2,none⟩=some (.int .u64 st))
 (f1:w.frozen? ⟨b,sh+1,none⟩=false) (f2:w.frozen? ⟨b,sh+2,none⟩=false) (h1:n<1000000) (hs:Ht xs n st=s1) :
 Calls Tryz.prog 14 #[.pointer (some ⟨b,sh,none⟩),.int .i64 0] w fun e w'=>e=.returned (.int .i64 0)∧So b sh n s1 w w':=by
 have HC:=Lib.hid (Sc xs b sh base len cap n st s1 _ w hx c0 c1 c2 f1 f2 h1 hs rfl);generalize OV (Sr (Gw s1))=o at HC;clear hx c0 c1 c2 f1 f2 hs h1
 go_enter Tryz.func14,Tryz.ntmps14
 go_wp2_with (go_at_call 45;refine HC.out.mono ?_;rintro e w' ⟨rfl,hw⟩;have HW:=Lib.hid hw;clear hw)
 go_ret
 exact⟨rfl,HW.out⟩
set_option maxRecDepth 10000 in
theorem up_pos (xs:List Int)(b sh:Nat)(base:Option Addr)(len cap n m:Nat)(st s1 o:Int)(w:World)(hx:QI w xs base len)(c0:w.cell? ⟨b,sh,none⟩=some (.slice base len cap))(c1:w.cell? ⟨b,sh+1,none⟩=some (.int .i64 (n:Int)))(c2:w.cell? ⟨b,sh+2,none⟩=some (.int .u64 st))
 (f1:w.frozen? ⟨b,sh+1,none⟩=false) (f2:w.frozen? ⟨b,sh+2,none⟩=false) (h1:n<1000000) (hm:0<m) (hm2:m<1000) (hs:Ht xs n st=s1) (ho:OV (Sr (Gw s1))=o) (h0:0≤o) :
 Calls Tryz.prog 14 #[.pointer (some ⟨b,sh,none⟩),.int .i64 (m:Int)] w fun e w'=>e=.returned (.int .i64 (RowKit.wrap64 (o%((m:Int)+1))))∧So b sh n s1 w w':=by
 have HC:=Lib.hid (Sc xs b sh base len cap n st s1 o w hx c0 c1 c2 f1 f2 h1 hs ho);clear hx c0 c1 c2 f1 f2 hs ho h1;have hmm:decide ((m:Int)<1)=false:=by simp;omega
 go_enter Tryz.func14,Tryz.ntmps14
 go_wp2_with (go_at_call 45;refine HC.out.mono ?_;rintro e w' ⟨rfl,hw⟩;have HW:=Lib.hid hw;clear hw)
 go_ret
 exact⟨rfl,HW.out⟩
end Go.Ro
namespace Go.Ev
open Go Go.Ab Go.Nl Go.Nb Go.RowKit Go.Proofs Go.E4 Go.Ro
set_option maxRecDepth 1000000
theorem O5 (w:World)(a:Addr)(v u:Value):(w.setCell a v).setCell a u=w.setCell a u:=by
 have key:((w.setCell a v).setCell a u).heap=(w.setCell a u).heap:=by
  simp only[World.setCell];apply Array.ext_getElem?;intro i;simp only[Array.getElem?_modify];by_cases h:a.block=i
  ·simp only[h,if_true,Option.map_map];congr 1;funext o;cases o<;>simp only[Function.comp];rename_i c e f;by_cases hs:a.spot.isSome
   ·simp[hs]
   ·simp only[hs,Bool.false_eq_true,if_false];congr 1;apply Array.ext_getElem?;intro j;simp only[Array.getElem?_setIfInBounds,Array.size_setIfInBounds];by_cases hj:a.off=j<;>simp[hj]
  ·simp[h]
 show({ w with heap:=((w.setCell a v).setCell a u).heap } : World) = { w with heap:=(w.setCell a u).heap };rw[key]
theorem Abf {k:K}{h:AH}{w:World}(hr:HR k h w)(d:Nat):HR k h { w with drawn:=d }∧Ab.Ev k k h h w { w with drawn:=d }:=by have ev:Ab.Ev k k h h w { w with drawn:=d }:=⟨rfl,rfl,rfl,rfl,zI _,fun _ _ _=>rfl,fun _ arr _ fr hx=>⟨arr,fr,hx,rfl⟩,fun _ _ h=>h,fun _ h=>h,fun o ob _ sh h1 h2 _=>⟨o,ob,sh,h1,h2⟩,zI _,fun _ _=>rfl,fun _ _ h=>.inl h⟩;have le:=ev.le hr;exact⟨⟨fun o ob ho=>let⟨b,sh,g1,g2⟩:=hr.obj o ob ho;⟨b,sh,g1,g2.mono le rfl⟩,hr.inj,hr.nfz,hr.fresh,hr.lt⟩,ev⟩
def B0:List Int→AV
 |[]=>.emp|x::xs=>.psl ((x::xs).map fun n=>.int .i64 n) (xs.length+1) none
def stN (xs:List Int):Nat→Int
 |0=>7640891576956012809|t+1=>Gw (Ht xs t (stN xs t))
def Iu (xs:List Int)(t m:Nat):Int:=RP (Ht xs t (stN xs t)) m
theorem EH (xs:List Int)(t m:Nat):0≤Iu xs t m∧Iu xs t m≤m:=S9 _ m
def rodL (xs:List Int)(t:Nat):List AV:=[B0 xs,.int .i64 t,.int .u64 (stN xs t)]
def Cn (xs:List Int)(t:Nat):AO:=.cells 79 (rodL xs t)
theorem AcW {k:K}{w:World}{xs:List Int}{v:Value}(h:VR k w (B0 xs) v):∃base len cap,v=.slice base len cap∧QI w xs base len:=by
 cases xs with
 |nil=>simp only[B0,VR]at h;obtain⟨a,c,rfl,_⟩:=h;exact⟨a,0,c,rfl,rfl,.inl rfl⟩
 |cons x xs=>simp only[B0,VR]at h;obtain⟨b,sh,c,rfl,_,_,_,h4⟩:=h;refine⟨_,_,c,rfl,rfl,.inr ⟨b,sh,rfl,fun i y hy=>?_⟩⟩;obtain⟨u,q1,q2⟩:=Mt h4 i (.int .i64 y) (by rw[List.getElem?_map,hy];rfl);simp only[VR]at q2;rw[q1,q2]
theorem g_up (xs:List Int)(t m:Nat)(ht:t<1000000)(hm:m<1000):Cm P4 gl5 1 14 [.ptr 0 0,.int .i64 (m:Int)] [(0,Cn xs t)] (.ret (.int .i64 (Iu xs t m))) [(0,some (Cn xs (t+1)))]:=by
 intro k h w vs hk hr hg hsub hn hv;have hgo:h.get 0=some (.cells 79 (rodL xs t)):=hsub (0,Cn xs t) (by simp);simp only[VRL,VR]at hv;obtain⟨v1,r1,e1,⟨b1,s1,hρ1,rfl⟩,v2,r2,rfl,rfl,rfl⟩:=hv;have ev:vs = #[.pointer (some ⟨b1,s1+0,none⟩),.int .i64 (m:Int)]:=Array.ext' (by simpa using e1);subst ev;obtain⟨b,sh,hρ,arr,fr,h1,h2,h3,h4,h5⟩:=hr.obj 0 _ hgo;rw[hρ]at hρ1;simp only[zC,zG]at hρ1;obtain⟨e2,e3⟩:=hρ1;subst e2 e3;obtain⟨v0,a0,c0⟩:=h3 0 (B0 xs) rfl;obtain⟨v1,a1,c1⟩:=h3 1 (.int .i64 t) rfl;obtain⟨v2,a2,c2⟩:=h3 2 (.int .u64 (stN xs t)) rfl;simp only[VR]at c1 c2;subst c1 c2;obtain⟨base,len,cap,rfl,hnums⟩:=AcW c0;have hlen:(rodL xs t).length=3:=rfl;have k0:w.cell? ⟨b,sh,none⟩=some (.slice base len cap):=by rw[cell_of_heap h1];exact a0
 have k1:w.cell? ⟨b,sh+1,none⟩=some (.int .i64 (t:Int)):=by rw[cell_of_heap h1,a1]
 have k2:w.cell? ⟨b,sh+2,none⟩=some (.int .u64 (stN xs t)):=by rw[cell_of_heap h1,a2]
 have f1:w.frozen? ⟨b,sh+1,none⟩=false:=FC h1 h5 (by omega);have f2:w.frozen? ⟨b,sh+2,none⟩=false:=FC h1 h5 (by omega);obtain⟨bd,hbd⟩:=Option.isSome_iff_exists.1 (show Tryz.f14.body.isSome=true by kernel_rfl);have hc:Calls Tryz.prog 14 #[.pointer (some ⟨b,sh+0,none⟩),.int .i64 (m:Int)] w fun e w'=>e=.returned (.int .i64 (Iu xs t m))∧So b sh t (Ht xs t (stN xs t)) w w':=by
  rw[Nat.add_zero];by_cases h0:m=0
  ·subst h0;exact Ab8 xs b sh base len cap t _ _ w hnums k0 k1 k2 f1 f2 ht rfl
  ·have hb:=Vm (Sr (Gw (Ht xs t (stN xs t))));refine(up_pos xs b sh base len cap t m _ _ _ w hnums k0 k1 k2 f1 f2 ht (by omega) hm rfl rfl hb.1).mono fun e w' ⟨he,hw⟩=>⟨?_,hw⟩
   rw[he];unfold Iu RP RowKit.wrap64;rw[if_neg h0];generalize OV (Sr (Gw (Ht xs t (stN xs t))))=o at hb;have q1:(0:Int)<(m:Int)+1:=by omega
   have q2:=Int.emod_nonneg o (show(m:Int)+1≠0 by omega);have q3:=Int.emod_lt_of_pos o q1;congr 2;omega
 refine Fw (E:=De.env) Cs (F:=Tryz.f14) (by kernel_rfl) hbd hc ?_;rintro e' w' ⟨rfl,d1,d2,rfl⟩;rw[O5];obtain⟨q1,e1⟩:=Abf hr (w.drawn+d1);have hsp:CV (rodL xs t) 1 [.int .i64 (.ofNat (t+1)),.int .u64 (stN xs (t+1))]=some (rodL xs (t+1)):=rfl;have hv:VRL k { w with drawn:=w.drawn+d1 } [.int .i64 (.ofNat (t+1)),.int .u64 (stN xs (t+1))] [.int .i64 ((t:Int)+1),.int .u64 (Gw (Ht xs t (stN xs t)))]:=by simp only[VRL];exact⟨_,_,rfl,by simp only[VR];rfl,_,_,rfl,by simp only[VR];rfl,rfl⟩
 obtain⟨_,q2,e2⟩:=HR.setCells (P:=P4) q1 hgo hρ hsp hv (by intro u hu;simp only[zH,List.not_mem_nil,or_false]at hu;rcases hu with rfl|rfl<;>rfl);obtain⟨q3,e3⟩:=Abf q2 ((({ w with drawn:=w.drawn+d1 } : World).setCells b (sh+1) [.int .i64 ((t:Int)+1),.int .u64 (Gw (Ht xs t (stN xs t)))]).drawn+d2);exact⟨_,k,rfl,by simp only[VR],q3,(e1.trans e2).trans e3⟩
end Go.Ev
end
