/- What the generators make of any list of numbers. -/
import Derived.Test.YtecmlmofhabonaaGreatDoorIGen0
import Derived.Test.YtecmlmofhabonaaGreatDoorINode3
noncomputable section
namespace Go.Ev
open Go Go.Ab Go.Nl Go.Nb Go.RowKit Go.Proofs Go.E4 Go.Ro
set_option maxRecDepth 1000000
def Kd.n:Kd→Int
 |.pl=>0|.m=>1|.s=>2|.m3=>3|.pl3=>4|.m2=>5|.ms=>6
inductive Gi where
 |dr (m d:Nat)
 |nz (m:Nat)
 |ch (lv:Int) (k:Kd) (ins:Bool)
 |lf (k:Kd) (ins:Bool)
def stO (p:Nat):AO:=.cells 79 [.sel 0,.sel p,.sel (p+1)]
def gF (f:FuncId)(args:List AV)(p q:Nat)(x:AV):OF:=⟨f,1,.ptr 0 0::args,[(0,stO p)],.ret x,[(0,some (stO q))]⟩
def c6A (k:Nat):AV:=.agg [.sel k,.sel (k+1),.sel (k+2),.sel (k+3),.sel (k+4),.sel (k+5)]
def giF (p q:Nat):Gi→OF
 |.dr m d=>gF 14 [.int .i64 (.ofNat m)] p q (.int .i64 (.ofNat d))|.nz m=>gF 14 [.int .i64 (.ofNat m)] p q (.sel (q+2))|.ch lv k ins=>gF 13 [.int .i64 lv,.int .i64 k.n,.bool ins] p q (c6A (q+2))|.lf k ins=>gF 41 [.int .i64 k.n,.bool ins] p q (c6A (q+2))
def giN:Gi→Nat
 |.dr _ _=>2|.nz _=>3|_=>8
def giB (q:Nat):Gi→List NB
 |.nz _=>[⟨.eql,.sel (q+2),.int .i64 0,.bool false⟩]|_=>[]
def giK (q:Nat):Gi→List Nat
 |.ch .. | .lf ..=>[q+2]|_=>[]
def itF:List Gi→Nat→Nat→List OF
 |[],_,_=>[]|i::r,p,q=>giF p q i::itF r q (q+giN i)
def itB:List Gi→Nat→List NB
 |[],_=>[]|i::r,q=>giB q i++itB r (q+giN i)
def itK:List Gi→Nat→List Nat
 |[],_=>[]|i::r,q=>giK q i++itK r (q+giN i)
def Ek:List Gi→Nat→Nat→Nat×Nat
 |[],p,q=>(p,q)|i::r,_,q=>Ek r q (q+giN i)
theorem WJ:∀(a b:List Gi) (p q:Nat),itF (a++b) p q=itF a p q++itF b (Ek a p q).1 (Ek a p q).2
 |[],_,_,_=>rfl|i::r,b,p,q=>by simp only[List.cons_append,itF,Ek,WJ r b]
theorem WK:∀(a b:List Gi) (p q:Nat),itB (a++b) q=itB a q++itB b (Ek a p q).2
 |[],_,_,_=>rfl|i::r,b,p,q=>by simp only[List.cons_append,itB,Ek,WK r b q,List.append_assoc]
theorem Wg:∀(a b:List Gi) (p q:Nat),itK (a++b) q=itK a q++itK b (Ek a p q).2
 |[],_,_,_=>rfl|i::r,b,p,q=>by simp only[List.cons_append,itK,Ek,Wg r b q,List.append_assoc]
theorem Rn:∀(a b:List Gi) (p q:Nat),Ek (a++b) p q=Ek b (Ek a p q).1 (Ek a p q).2
 |[],_,_,_=>rfl|i::r,b,p,q=>by simp only[List.cons_append,Ek,Rn r b]
inductive Tm where
 |bin (op:Nat)
 |ite
 |lett (s:List Nat)
 |neg
 |tab (n:Nat)
 |lst
 |sum (n:Nat)
 |elt (a b:Nat)
 |call
 |sq
 |same
 |ref (s:List Nat)
 |lit (a b u:Nat)
 |mulb (a b u:Nat) (s:List Nat)
 |divl (a b u a' b' u':Nat)
def litX (a b u:Nat):X:=.lit [48+a] [48+b] ((a:Int),(b:Int)) u
def Tm.mk:Tm→List X→X
 |.bin op,[a,b]=>.bin op a b|.ite,[a,b,c,d]=>.ite a b c d|.lett s,[a,b]=>.lett s a b|.neg,[a]=>.neg a|.tab n,[a]=>.tab n a|.lst,[a,b,c]=>.lst a b c|.sum n,[a]=>.sum n a|.elt i j,[a]=>.at a (litX i j 0)|.call,[a]=>.call a|.sq,[a]=>.sq a|.same,[a]=>a|.ref s,_=>.ref s|.lit a b u,_=>litX a b u|.mulb a b u s,_=>.bin 5 (litX a b u) (.ref s)|.divl a b u a' b' u',_=>.bin 6 (litX a b u) (litX a' b' u')|_,_=>.ref []
def c6L (k:Nat):List AV:=[.sel k,.sel (k+1),.sel (k+2),.sel (k+3),.sel (k+4),.sel (k+5)]
def litL (a b u:Nat):List AV:=[.int .i64 0,.str [48+a],.str [48+b],.str (Wm u),.int .i64 0,.emp]
def Tm.res:Tm→List Nat→AV
 |.bin op,[a,b]=>.agg [.int .i64 (.ofNat op),.str [],.str [],.str [],.int .i64 0,.psl (c6L a++c6L b) 2 none]|.ite,[a,b,c,d]=>.agg [.int .i64 12,.str [],.str [],.str [],.int .i64 0,.psl (c6L a++(c6L b++(c6L c++c6L d))) 4 none]|.lett s,[a,b]=>.agg [.int .i64 13,.str [],.str [],.str s,.int .i64 0,.psl (c6L a++c6L b) 2 none]|.neg,[a]=>.agg [.int .i64 2,.str [],.str [],.str [],.int .i64 0,.psl (c6L a) 1 none]|.tab n,[a]=>.agg [.int .i64 10,.str [],.str [],.str nmI,.int .i64 (.ofNat n),.psl (c6L a) 1 none]|.lst,[a,b,c]=>.agg [.int .i64 8,.str [],.str [],.str [],.int .i64 0,.psl (c6L a++(c6L b++c6L c)) 3 none]|.sum n,[a]=>.agg [.int .i64 11,.str [],.str [],.str nmI,.int .i64 (.ofNat n),.psl (c6L a) 1 none]|.elt i j,[a]=>.agg [.int .i64 9,.str [],.str [],.str [],.int .i64 0,.psl (c6L a++litL i j 0) 2 none]|.call,[a]=>.agg [.int .i64 14,.str [],.str [],.str nmF,.int .i64 0,.psl (c6L a) 1 none]|.sq,[a]=>.agg [.int .i64 7,.str [],.str [],.str [],.int .i64 2,.psl (c6L a) 1 none]|.same,[a]=>.agg (c6L a)|.ref s,[]=>.agg [.int .i64 1,.str [],.str [],.str s,.int .i64 0,.emp]|.lit a b u,[]=>.agg (litL a b u)|.mulb a b u s,[]=>.agg [.int .i64 5,.str [],.str [],.str [],.int .i64 0,.psl (litL a b u++[.int .i64 1,.str [],.str [],.str s,.int .i64 0,.emp]) 2 none]|.divl a b u a' b' u',[]=>.agg [.int .i64 6,.str [],.str [],.str [],.int .i64 0,.psl (litL a b u++litL a' b' u') 2 none]|_,_=>.any
def Tm.ar:Tm→Nat
 |.bin _|.lett _=>2|.ite=>4|.lst=>3|.ref _|.lit .. | .mulb .. | .divl ..=>0|_=>1
structure At6 (σ:Nat→AV)(k:Nat)(x:X):Prop where
 h0:σ k=x.c0
 h1:σ (k+1)=x.c1
 h2:σ (k+2)=x.c2
 h3:σ (k+3)=x.c3
 h4:σ (k+4)=x.c4
 h5:σ (k+5)=x.c5
theorem At6.inst {σ:Nat→AV}{k:Nat}{x:X}(h:At6 σ k x):Ai σ noT (c6L k)=[x.c0,x.c1,x.c2,x.c3,x.c4,x.c5]:=by simp only[c6L,Ai,Go.Ab.inst,h.h0,h.h1,h.h2,h.h3,h.h4,h.h5]
def LN (σ:Nat→AV):List Nat→List X→Prop
 |[],[]=>True|k::ks,x::xs=>At6 σ k x∧LN σ ks xs|_,_=>False
theorem Gt {σ:Nat→AV}{τ:Nat→List Nat} : ∀(a b:List AV),Ai σ τ (a++b)=Ai σ τ a++Ai σ τ b
 |[],_=>rfl|x::xs,b=>by simp only[List.cons_append,Ai,Gt xs b]
theorem Tm.inst {σ:Nat→AV}{tm:Tm}{ks:List Nat}{xs:List X}(h:LN σ ks xs)(ha:Nat.beq ks.length tm.ar=true):Go.Ab.inst σ noT (tm.res ks)=(tm.mk xs).av:=by
 have ha:=zD ha
 match ks,xs,h with
 |[],[],_=>
  cases tm<;>simp only[Tm.ar,List.length_nil]at ha<;>first
   |(exfalso;omega)
   |rfl
 |[k],[x],h=>
  have e:=h.1.inst;cases tm<;>simp only[Tm.ar,List.length_nil,List.length_cons]at ha<;>first
   |(exfalso;omega)
   |(simp only[Tm.res,Tm.mk,Go.Ab.inst,Ai,Gt,e];rfl)
 |[k,k2],[x,x2],h=>
  have e:=h.1.inst;have e2:=h.2.1.inst;cases tm<;>simp only[Tm.ar,List.length_nil,List.length_cons]at ha<;>first
   |(exfalso;omega)
   |(simp only[Tm.res,Tm.mk,Go.Ab.inst,Ai,Gt,e,e2];rfl)
 |[k,k2,k3],[x,x2,x3],h=>
  have e:=h.1.inst;have e2:=h.2.1.inst;have e3:=h.2.2.1.inst;cases tm<;>simp only[Tm.ar,List.length_nil,List.length_cons]at ha<;>first
   |(exfalso;omega)
   |(simp only[Tm.res,Tm.mk,Go.Ab.inst,Ai,Gt,e,e2,e3];rfl)
 |[k,k2,k3,k4],[x,x2,x3,x4],h=>
  have e:=h.1.inst;have e2:=h.2.1.inst;have e3:=h.2.2.1.inst;have e4:=h.2.2.2.1.inst;cases tm<;>simp only[Tm.ar,List.length_nil,List.length_cons]at ha<;>first
   |(exfalso;omega)
   |(simp only[Tm.res,Tm.mk,Go.Ab.inst,Ai,Gt,e,e2,e3,e4];rfl)
 |_::_::_::_::_::_,_,_=>cases tm<;>simp only[Tm.ar,List.length_cons]at ha<;>omega
inductive GT where
 |done (tm:Tm)
 |draw (m:Nat) (next:Nat→GT)
 |once (m:Nat) (zero other:GT)
 |child (lv:Int) (k:Kd) (ins:Bool) (next:GT)
 |leaf (k:Kd) (ins:Bool) (next:GT)
def specs:List Gi→List (Option Int×Kd×Bool)
 |[]=>[]|.ch lv k ins::r=>(some lv,k,ins)::specs r|.lf k ins::r=>(none,k,ins)::specs r|_::r=>specs r
noncomputable def runG (l:List AV)(f:FuncId)(args:List AV)(is:List Gi)(tm:Tm):Bool:=
 (itF is 1 3).all (fun q=>BU q.N q.args q.l q.res q.u)&&(Nat.beq (itK is 3).length tm.ar&&BO (F9 l [] (itF is 1 3) (itB is 3) [] []) 4000 80 1 f (.ptr 0 0::args) [(0,stO 1)] (.ret (tm.res (itK is 3))) [(0,some (stO (Ek is 1 3).1))])
noncomputable def DN (l:List AV)(f:FuncId)(args:List AV)(ty:Tm→List (Option Int×Kd×Bool)→Bool):GT→List Gi→Bool
 |.done tm,is=>runG l f args is tm&&ty tm (specs is)|.draw m next,is=>(List.range (m+1)).all fun d=>DN l f args ty (next d) (is++[.dr m d])
 |.once m z o,is=>DN l f args ty z (is++[.dr m 0])&&DN l f args ty o (is++[.nz m])|.child lv k ins next,is=>DN l f args ty next (is++[.ch lv k ins])|.leaf k ins next,is=>DN l f args ty next (is++[.lf k ins])
theorem Fo {a:List AV}(r:List AV){i:Nat}(h:i<a.length):Ag (a++r) i=Ag a i:=by unfold Ag;rw[List.getElem?_append_left h]
theorem AcS {a b:List AV}{i:Nat}{x:AV}(h:b[i]?=some x):Ag (a++b) (a.length+i)=x:=by unfold Ag;rw[List.getElem?_append_right (by omega),Nat.add_sub_cancel_left,h];rfl
def Ix (f:FuncId)(args:List AV)(xs:List Int)(t:Nat)(B:Nat)(Good:X→Prop):Prop:=
 ∃x t',t≤t'∧t'≤t+B∧Good x∧Cm P4 gl5 1 f (.ptr 0 0::args) [(0,Cn xs t)] (.ret x.av) [(0,some (Cn xs t'))]
theorem Qr (xs:List Int):Pl (B0 xs):=by
 cases xs with
 |nil=>rfl|cons x xs=>
  have:∀l:List Int,Bb (l.map fun n=>AV.int .i64 n)=true:=fun l=>by
   induction l with
   |nil=>rfl|cons a r ih=>simpa[Bb,Au]using ih
  have h:=this (x::xs);simp only[Pl,B0,Au,h,AV.cell,Bool.and_self]
structure Vf (xs:List Int)(t:Nat)(is:List Gi)(pre:List AV)(kids:List X):Prop where
 len:pre.length=(Ek is 1 3).2
 lt:(Ek is 1 3).1+1<pre.length
 plain:Pls pre
 st0:Ag pre 0=B0 xs
 st1:Ag pre (Ek is 1 3).1=.int .i64 t
 st2:Ag pre ((Ek is 1 3).1+1)=.int .u64 (stN xs t)
 facts:∀r,∀q∈itF is 1 3,Bx (Ag (pre++r)) (mpL []) q
 bins:∀r,∀q∈itB is 3,Dg (Ag (pre++r)) q
 kids:∀r,LN (Ag (pre++r)) (itK is 3) kids
theorem PQ {σ:Nat→AV} : ∀{a:List Nat} {xs:List X} {b:List Nat} {ys:List X},LN σ a xs→LN σ b ys→LN σ (a++b) (xs++ys)
 |[],[],_,_,_,h=>h|_::_,_::_,_,_,h,h2=>⟨h.1,PQ h.2 h2⟩
theorem FH {a b:List AV}(h1:Pls a)(h2:Pls b):Pls (a++b):=by unfold Pls;rw[List.all_append,h1,h2];rfl
theorem Ge {σ:Nat→AV}{xs:List Int}{t p:Nat}(h0:σ 0=B0 xs)(h1:σ p=.int .i64 t)(h2:σ (p+1)=.int .u64 (stN xs t)):B7 σ noT (mpL []) (stO p)=Cn xs t:=by simp only[stO,B7,Ai,inst,h0,h1,h2];rfl
theorem Vf.step {xs:List Int}{t:Nat}{is:List Gi}{pre:List AV}{kids:List X}(h:Vf xs t is pre kids){i:Gi}{t':Nat}{new:List AV}{ys:List X}(hn:(AV.int .i64 t'::.int .u64 (stN xs t')::new).length=giN i)(hp:Pls new)
 (hk:∀σ:Nat→AV,(∀j x,(AV.int .i64 t'::.int .u64 (stN xs t')::new)[j]?=some x→σ (pre.length+j)=x)→LN σ (giK pre.length i) ys)
 (hf:∀σ:Nat→AV,(∀j x,(AV.int .i64 t'::.int .u64 (stN xs t')::new)[j]?=some x→σ (pre.length+j)=x)→B7 σ noT (mpL []) (stO (Ek is 1 3).1)=Cn xs t→B7 σ noT (mpL []) (stO pre.length)=Cn xs t'→Bx σ (mpL []) (giF (Ek is 1 3).1 pre.length i)∧∀q∈giB pre.length i,Dg σ q) :
 Vf xs t' (is++[i]) (pre++(.int .i64 t'::.int .u64 (stN xs t')::new)) (kids++ys):=by
 have hlen:=h.len;have hlt:=h.lt;have hg:2≤giN i:=by rw[←hn];simp
 have e1:Ek (is++[i]) 1 3=(pre.length,pre.length+giN i):=by rw[Rn];simp only[Ek,←hlen]
 have hat:∀r j x,(AV.int .i64 t'::.int .u64 (stN xs t')::new)[j]?=some x→Ag ((pre++(.int .i64 t'::.int .u64 (stN xs t')::new))++r) (pre.length+j)=x:=fun r j x hj=>by have hl:j<(AV.int .i64 t'::.int .u64 (stN xs t')::new).length:=(zN.1 hj).1;rw[Fo r (by rw[zR];omega)];exact AcS hj
 have hpre:∀r j,j<pre.length→Ag ((pre++(.int .i64 t'::.int .u64 (stN xs t')::new))++r) j=Ag pre j:=fun r j hj=>by rw[List.append_assoc,Fo _ hj]
 have hst:∀r,B7 (Ag ((pre++(.int .i64 t'::.int .u64 (stN xs t')::new))++r)) noT (mpL []) (stO (Ek is 1 3).1)=Cn xs t:=fun r=>
  Ge (by rw[hpre r 0 (by omega)];exact h.st0) (by rw[hpre r _ (by omega)];exact h.st1) (by rw[hpre r _ hlt];exact h.st2)
 have hst2:∀r,B7 (Ag ((pre++(.int .i64 t'::.int .u64 (stN xs t')::new))++r)) noT (mpL []) (stO pre.length)=Cn xs t':=fun r=>
  Ge (by rw[hpre r 0 (by omega)];exact h.st0) (hat r 0 _ rfl) (hat r 1 _ rfl)
 refine⟨?_,?_,FH h.plain (all_cons rfl<|all_cons rfl hp),?_,?_,?_,fun r=>?_,fun r=>?_,fun r=>?_⟩
 ·rw[e1,zR,hn]
 ·rw[e1,zR,hn];show pre.length+1<_;omega
 ·have:=hpre [] 0 (by omega);rw[List.append_nil]at this;rw[this];exact h.st0
 ·rw[e1];have:=hat [] 0 _ rfl;rw[List.append_nil]at this;exact this
 ·rw[e1];have:=hat [] 1 _ rfl;rw[List.append_nil]at this;exact this
 ·rw[WJ];refine Ao ?_ ?_
  ·rw[List.append_assoc];exact h.facts _
  ·rw[←hlen];exact Aa (hf _ (hat r) (hst r) (hst2 r)).1 Ad
 ·rw[WK _ _ 1];refine Ao ?_ ?_
  ·rw[List.append_assoc];exact h.bins _
  ·rw[←hlen];show ∀q∈giB pre.length i++[],_;rw[List.append_nil];exact(hf _ (hat r) (hst r) (hst2 r)).2
 ·rw[Wg _ _ 1];refine PQ ?_ ?_
  ·rw[List.append_assoc];exact h.kids _
  ·rw[←hlen];show LN _ (giK pre.length i++[]) ys;rw[List.append_nil];exact hk _ (hat r)
theorem Nw {σ:Nat→AV}{p:Nat}{ao:AO}(h:B7 σ noT (mpL []) (stO p)=ao):Dk σ noT (mpL []) [(0,some (stO p))]=[(0,some ao)]:=by simp only[Dk,List.map_cons,List.map_nil,Option.map_some,h]
theorem Of {σ:Nat→AV}{p:Nat}{ao:AO}(h:B7 σ noT (mpL []) (stO p)=ao):DD σ noT (mpL []) [(0,stO p)]=[(0,ao)]:=by simp only[DD,List.map_cons,List.map_nil,h]
theorem Dr {σ:Nat→AV}{f:FuncId}{args A:List AV}{p q:Nat}{x Y:AV}{xs:List Int}{t t':Nat}(hm:Cm P4 gl5 1 f (.ptr 0 0::A) [(0,Cn xs t)] (.ret Y) [(0,some (Cn xs t'))])(hA:Ai σ noT args=A)(hx:inst σ noT x=Y)(h1:B7 σ noT (mpL []) (stO p)=Cn xs t)(h2:B7 σ noT (mpL []) (stO q)=Cn xs t'):Bx σ (mpL []) (gF f args p q x):=by unfold Bx gF;simp only[Of h1,Nw h2,Ai,inst,hA,Bi,hx];exact hm
theorem Qg {σ:Nat→AV}{k:Nat}{x:X}{a b:AV}(h:∀j y,(a::b::[x.c0,x.c1,x.c2,x.c3,x.c4,x.c5])[j]?=some y→σ (k+j)=y):At6 σ (k+2) x:=
 ⟨h 2 _ rfl,h 3 _ rfl,h 4 _ rfl,h 5 _ rfl,h 6 _ rfl,h 7 _ rfl⟩
def FQ (c:Option Int)(b:Bool):Nat→GT→Bool
 |_,.done _=>true|n+1,.draw m next=>Nat.blt m 1000&&(List.range (m+1)).all fun d=>FQ c b n (next d)
 |n+1,.once m z o=>Nat.blt m 1000&&(FQ c b n z&&FQ c b n o)|n+1,.child lv _ _ next=>(match c with|some l=>decide (l=lv)|none=>false)&&FQ c b n next
 |n+1,.leaf _ _ next=>b&&FQ c b n next|_,_=>false
theorem Wt:∀(is:List Gi) (p q:Nat),q≤(Ek is p q).2
 |[],_,_=>zI _|i::r,_,q=>zM (Nat.le_add_right _ _) (Wt r q (q+giN i))
theorem len3 {xs:List Int}{t:Nat}{is:List Gi}{pre:List AV}{kids:List X}(h:Vf xs t is pre kids):3≤pre.length:=by rw[h.len];exact Wt is 1 3
theorem Df:∀(a b:List Gi),specs (a++b)=specs a++specs b
 |[],_=>rfl|.ch .. :: r,b=>by simp only[List.cons_append,specs,Df r b]
 |.lf .. :: r,b=>by simp only[List.cons_append,specs,Df r b]
 |.dr .. :: r,b=>by simp only[List.cons_append,specs,Df r b]
 |.nz _::r,b=>by simp only[List.cons_append,specs,Df r b]
def KG (G:Option Int→Kd→Bool→X→Prop):List (Option Int×Kd×Bool)→List X→Prop
 |[],[]=>True|s::ss,x::xs=>G s.1 s.2.1 s.2.2 x∧KG G ss xs|_,_=>False
theorem Vk {G:Option Int→Kd→Bool→X→Prop} : ∀{a:List (Option Int×Kd×Bool)} {xs:List X} {b:List (Option Int×Kd×Bool)} {ys:List X},KG G a xs→KG G b ys→KG G (a++b) (xs++ys)
 |[],[],_,_,_,h=>h|_::_,_::_,_,_,h,h2=>⟨h.1,Vk h.2 h2⟩
theorem FX {xs:List Int}{f:FuncId}{args:List AV}(hargs:∀σ:Nat→AV,Ai σ noT args=args){ty:Tm→List (Option Int×Kd×Bool)→Bool}{B:Nat}(hB:1≤B){G:Option Int→Kd→Bool→X→Prop}{t0:Nat}{c:Option Int}{b:Bool} :
 ∀(tree:GT) (is:List Gi) (pre:List AV) (kids:List X) (t n:Nat),(∀l,DN l f args ty tree is=true)→FQ c b n tree=true→Vf xs t is pre kids→Ag pre 1=.int .i64 t0→Ag pre 2=.int .u64 (stN xs t0)→KG G (specs is) kids→t+n*B<1000000→
  (∀lv,c=some lv→∀k ins t,t+B<1000000→Ix 13 [.int .i64 lv,.int .i64 k.n,.bool ins] xs t B (G (some lv) k ins))→(b=true→∀k ins t,t+B<1000000→Ix 41 [.int .i64 k.n,.bool ins] xs t B (G none k ins))→
  ∃tm is' kids' t',t≤t'∧t'≤t+n*B∧ty tm (specs is')=true∧KG G (specs is') kids'∧Cm P4 gl5 1 f (.ptr 0 0::args) [(0,Cn xs t0)] (.ret (tm.mk kids').av) [(0,some (Cn xs t'))]
 |.done tm,is,pre,kids,t,n,hc,hf,hi,h1,h2,hk,hn,hch,hlf=>by have hr:=hc pre;simp only[DN,zA]at hr;obtain⟨hr,hty⟩:=hr;unfold runG at hr;simp only[zA]at hr;obtain⟨r1,r2,r3⟩:=hr;have hf:=hi.facts [];have hb:=hi.bins [];have hkk:=hi.kids [];rw[List.append_nil]at hf hb hkk;have:=Gl (l:=pre) (mu:=[]) hi.plain rfl r1 hf hb Ad Ad r3;have e0:B7 (Ag pre) noT (mpL []) (stO 1)=Cn xs t0:=Ge hi.st0 h1 h2;have e1:B7 (Ag pre) noT (mpL []) (stO (Ek is 1 3).1)=Cn xs t:=Ge hi.st0 hi.st1 hi.st2;rw[Of e0,Nw e1]at this;simp only[Ai,inst,Bi,hargs,Tm.inst hkk r2]at this;exact⟨tm,is,kids,t,zI _,Nat.le_add_right _ _,hty,hk,this⟩
 |.draw m next,is,pre,kids,t,n,hc,hf,hi,h1,h2,hk,hn,hch,hlf=>by
  match n,hf with
  |n+1,hf=>
  have hr:=EH xs t m;obtain⟨d,hd⟩:∃d:Nat,Iu xs t m=(d:Int):=⟨(Iu xs t m).toNat,by omega⟩;have hdm:d<m+1:=by omega
  simp only[FQ,zA]at hf;obtain⟨hm,hf⟩:=hf;have hm:=Ba hm;have hmul:(n+1)*B=n*B+B:=Nat.succ_mul n B;have hup:=g_up xs t m (by omega) hm;rw[hd]at hup;have hi2:=hi.step (i:=.dr m d) (t':=t+1) (new:=[]) (ys:=[]) rfl rfl (fun σ _=>trivial) (fun σ hσ e1 e2=>⟨Dr hup rfl rfl e1 e2,Ad⟩);rw[List.append_nil]at hi2;have hlt:=hi.lt;have hp1:∀(b:List AV) i,i<3→Ag (pre++b) i=Ag pre i:=fun b i h=>Fo b (by have:=hi.len;have:=len3 hi;omega)
  obtain⟨tm,is',kids',t',g1,g2,g3⟩:=FX hargs hB (next d) (is++[.dr m d]) _ kids (t+1) n (fun l=>zB.1 (hc l) d (zQ.2 hdm)) (zB.1 hf d (zQ.2 hdm)) hi2 (by rw[hp1 _ 1 (by omega)];exact h1) (by rw[hp1 _ 2 (by omega)];exact h2) (by rw[Df];simpa[specs]using hk) (by omega) hch hlf;exact⟨tm,is',kids',t',by omega,by omega,g3⟩
 |.once m z o,is,pre,kids,t,n,hc,hf,hi,h1,h2,hk,hn,hch,hlf=>by
  match n,hf with
  |n+1,hf=>
  have hr:=EH xs t m;simp only[FQ,zA]at hf;obtain⟨hm,hfz,hfo⟩:=hf;have hm:=Ba hm;have hmul:(n+1)*B=n*B+B:=Nat.succ_mul n B;have hup:=g_up xs t m (by omega) hm;have hc2:∀l,DN l f args ty z (is++[.dr m 0])=true∧DN l f args ty o (is++[.nz m])=true:=fun l=>by have:=hc l;simp only[DN,zA]at this;exact this
  have hp1:∀(b:List AV) i,i<3→Ag (pre++b) i=Ag pre i:=fun b i h=>Fo b (by have:=len3 hi;omega)
  by_cases hz:Iu xs t m=0
  ·rw[hz]at hup;have hi2:=hi.step (i:=.dr m 0) (t':=t+1) (new:=[]) (ys:=[]) rfl rfl (fun σ _=>trivial) (fun σ hσ e1 e2=>⟨Dr hup rfl rfl e1 e2,Ad⟩);rw[List.append_nil]at hi2;obtain⟨tm,is',kids',t',g1,g2,g3⟩:=FX hargs hB z (is++[.dr m 0]) _ kids (t+1) n (fun l=>(hc2 l).1) hfz hi2 (by rw[hp1 _ 1 (by omega)];exact h1) (by rw[hp1 _ 2 (by omega)];exact h2) (by rw[Df];simpa[specs]using hk) (by omega) hch hlf;exact⟨tm,is',kids',t',by omega,by omega,g3⟩
  ·have hi2:=hi.step (i:=.nz m) (t':=t+1) (new:=[.int .i64 (Iu xs t m)]) (ys:=[]) rfl rfl (fun σ _=>trivial) (fun σ hσ e1 e2=>⟨Dr hup rfl (hσ 2 _ rfl) e1 e2,Aa ⟨rfl,.inl ⟨_,_,_,_,hσ 2 _ rfl,rfl,by simp[Bv,inst,hz]⟩⟩ Ad⟩);rw[List.append_nil]at hi2;obtain⟨tm,is',kids',t',g1,g2,g3⟩:=FX hargs hB o (is++[.nz m]) _ kids (t+1) n (fun l=>(hc2 l).2) hfo hi2 (by rw[hp1 _ 1 (by omega)];exact h1) (by rw[hp1 _ 2 (by omega)];exact h2) (by rw[Df];simpa[specs]using hk) (by omega) hch hlf;exact⟨tm,is',kids',t',by omega,by omega,g3⟩
 |.child lv k ins next,is,pre,kids,t,n,hc,hf,hi,h1,h2,hk,hn,hch,hlf=>by
  match n,hf with
  |n+1,hf=>
  have hmul:(n+1)*B=n*B+B:=Nat.succ_mul n B;simp only[FQ,zA]at hf;obtain⟨hcc,hf⟩:=hf;have hcl:c=some lv:=by
   split at hcc
   ·exact congrArg some (of_decide_eq_true hcc)
   ·cases hcc
  obtain⟨x,t1,a1,a2,a3,a4⟩:=hch lv hcl k ins t (by omega);have hp1:∀(b:List AV) i,i<3→Ag (pre++b) i=Ag pre i:=fun b i h=>Fo b (by have:=len3 hi;omega)
  have hi2:=hi.step (i:=.ch lv k ins) (t':=t1) (new:=[x.c0,x.c1,x.c2,x.c3,x.c4,x.c5]) (ys:=[x]) rfl (px x rfl) (fun σ hσ=>⟨Qg hσ,trivial⟩) (fun σ hσ e1 e2=>⟨Dr a4 rfl (by have:=(Qg hσ).inst;show AV.agg (Ai σ noT (c6L (pre.length+2)))=_;rw[this];rfl) e1 e2,Ad⟩);obtain⟨tm,is',kids',t',g1,g2,g3⟩:=FX hargs hB next (is++[.ch lv k ins]) _ (kids++[x]) t1 n (fun l=>hc l) hf hi2 (by rw[hp1 _ 1 (by omega)];exact h1) (by rw[hp1 _ 2 (by omega)];exact h2) (by rw[Df];exact Vk hk ⟨a3,trivial⟩) (by omega) hch hlf
  exact⟨tm,is',kids',t',by omega,by omega,g3⟩
 |.leaf k ins next,is,pre,kids,t,n,hc,hf,hi,h1,h2,hk,hn,hch,hlf=>by
  match n,hf with
  |n+1,hf=>
  have hmul:(n+1)*B=n*B+B:=Nat.succ_mul n B;simp only[FQ,zA]at hf;obtain⟨hcc,hf⟩:=hf;obtain⟨x,t1,a1,a2,a3,a4⟩:=hlf hcc k ins t (by omega);have hp1:∀(b:List AV) i,i<3→Ag (pre++b) i=Ag pre i:=fun b i h=>Fo b (by have:=len3 hi;omega)
  have hi2:=hi.step (i:=.lf k ins) (t':=t1) (new:=[x.c0,x.c1,x.c2,x.c3,x.c4,x.c5]) (ys:=[x]) rfl (px x rfl) (fun σ hσ=>⟨Qg hσ,trivial⟩) (fun σ hσ e1 e2=>⟨Dr a4 rfl (by have:=(Qg hσ).inst;show AV.agg (Ai σ noT (c6L (pre.length+2)))=_;rw[this];rfl) e1 e2,Ad⟩);obtain⟨tm,is',kids',t',g1,g2,g3⟩:=FX hargs hB next (is++[.lf k ins]) _ (kids++[x]) t1 n (fun l=>hc l) hf hi2 (by rw[hp1 _ 1 (by omega)];exact h1) (by rw[hp1 _ 2 (by omega)];exact h2) (by rw[Df];exact Vk hk ⟨a3,trivial⟩) (by omega) hch hlf
  exact⟨tm,is',kids',t',by omega,by omega,g3⟩
def litT (p q u:Nat):GT:=.done (.lit (p/Nat.gcd p q) (q/Nat.gcd p q) u)
def nameK:Kd→List Nat
 |.pl=>nA|.m=>nB|.s=>nC|.m3=>nV|_=>nW
def leafR (k:Kd)(ins:Bool):GT:=
 match k with
 |.pl=>
  let num:GT:=.draw 5 fun p=>.draw 1 fun c=>.draw (if c=0 then 0 else 2) fun q=>litT p (q+1) 0
  bif ins then .draw 1 fun d=>if d=0 then .done (.ref nmI) else num else num
 |.m=>.draw 5 fun n=>.draw 2 fun c=>.done (.lit n 1 (if c=2 then 2 else 1))
 |.s=>.draw 4 fun n=>.draw 1 fun c=>.done (.lit (n+1) 1 (if c=0 then 3 else 4))
 |.m2=>.draw 3 fun n=>.done (.mulb n 1 1 nB)
 |_=>.draw 9 fun n=>.draw 3 fun d=>.done (.divl n 1 1 (d+1) 1 3)
def Z4 (k:Kd)(ins:Bool):GT:=
 match k with
 |.m2|.ms=>leafR k ins|.m3|.pl3=>.draw 1 fun _=>.done (.ref (nameK k))
 |_=>.draw 1 fun d=>if d=0 then .done (.ref (nameK k)) else leafR k ins
def KO (k:Kd)(ins:Bool)(tm:Tm)(sp:List (Option Int×Kd×Bool)):Bool:=
 sp.isEmpty&&match tm with
 |.ref s=>decide (nmK k=some s)||(ins&&(decide (k=.pl)&&decide (s=nmI)))|.lit a b u=>Nat.blt a 10&&(Nat.blt 0 b&&(Nat.blt b 6&&(Nat.beq (Nat.gcd a b) 1&&match k with
  |.pl=>Nat.beq u 0|.m=>Nat.beq b 1&&(Nat.beq u 1||Nat.beq u 2)|.s=>Nat.beq b 1&&(Nat.beq u 3||Nat.beq u 4)|_=>false)))
 |.mulb a b u s=>Nat.blt a 10&&(Nat.beq b 1&&(Nat.beq u 1&&(decide (s=nB)&&decide (k=.m2))))|.divl a b u a' b' u'=>Nat.blt a 10&&(Nat.beq b 1&&(Nat.beq u 1&&(Nat.blt a' 10&&(Nat.beq b' 1&&(Nat.beq u' 3&&decide (k=.ms))))))|_=>false
theorem r_leaf (l:List AV):(kds.all fun k=>[true,false].all fun ins=>DN l 41 [.int .i64 k.n,.bool ins] (KO k ins) (Z4 k ins) [])=true:=by kernel_rfl
theorem f_leaf:(kds.all fun k=>[true,false].all fun ins=>FQ none false 6 (Z4 k ins))=true:=by kernel_rfl
end Go.Ev
end
