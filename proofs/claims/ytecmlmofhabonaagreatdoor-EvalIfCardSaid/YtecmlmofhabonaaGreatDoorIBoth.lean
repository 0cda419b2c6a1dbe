/- Operations on values, told of all numbers within the bounds. -/
import Derived.Test.YtecmlmofhabonaaGreatDoorITab
noncomputable section
namespace Go.Ev
open Go Go.Ab Go.Nl Go.Nb Go.RowKit Go.Proofs Go.E4
set_option maxRecDepth 1000000
def isOp (op:Nat):Bool:=Nat.ble 3 op&&Nat.ble op 6
theorem op_ok {op:Nat}(ho:isOp op=true){a b:Q}(ha:Bu a)(hb:Bu b)(hz:op=6→b.1≠0):VF (fop op) [BH a,BH b] (.ret (BH (opQ op a b))):=by
 unfold isOp at ho;simp only[zA]at ho;have h1:=zE ho.1;have h2:=zE ho.2;have:op=3∨op=4∨op=5∨op=6:=by omega
 rcases this with rfl|rfl|rfl|rfl
 ·exact Z1 ha hb
 ·exact AdG ha hb
 ·exact Ks ha hb
 ·exact v_over ha hb (hz rfl)
structure PV (q:Q):Prop where
 num:Fits 400 q.1
 den:Fits 400 q.2
 pos:0<q.2
 cop:Nat.gcd q.1.natAbs q.2.natAbs=1
theorem No {p q:Int}(hp:Fits 400 p)(hq:Fits 400 q)(h0:q≠0):PV (low p q):=⟨(Gr hp hq).1,(Gr hp hq).2,QS h0,VS h0⟩
theorem Po {a b:Q}(ha:Bu a)(hb:Bu b):PV (ED a b):=
 No (Aj (by decide) (ML (Bo ha.num hb.den) (Bo hb.num ha.den))) (Aj (by decide) (Bo ha.den hb.den)) (by have:=Int.mul_pos ha.pos hb.pos;omega)
theorem IV {op:Nat}(ho:isOp op=true){a b:Q}(ha:Bu a)(hb:Bu b)(hz:op=6→b.1≠0):PV (opQ op a b):=by
 unfold isOp at ho;simp only[zA]at ho;have h1:=zE ho.1;have h2:=zE ho.2;have:op=3∨op=4∨op=5∨op=6:=by omega
 rcases this with rfl|rfl|rfl|rfl
 ·exact Po ha hb
 ·exact Po ha ⟨CF (y:=b.1) (by show(-b.1).natAbs≤_;omega) hb.num,hb.den,hb.pos⟩
 ·exact No (Aj (by decide) (Bo ha.num hb.num)) (Aj (by decide) (Bo ha.den hb.den)) (by have:=Int.mul_pos ha.pos hb.pos;omega)
 ·exact No (Aj (by decide) (Bo ha.num hb.den)) (Aj (by decide) (Bo ha.den hb.num)) (Int.mul_ne_zero (by have:=ha.pos;omega) (hz rfl))
theorem Gd {l:List AV}{mu:List (List (AV×AV×Nat))}{q:Q}{a:List AV}{x y:AV}{b:Bool}(h:PV q)(hb:CI q=b)(ha:Ai (Ag l) noT a=[BH q])(hx:inst (Ag l) noT (.tup [.agg [x,y],.bool b])=.tup [.agg [Aq q.1,Aq q.2],.bool b]):Bx (Ag l) (mpL mu) (vq 98 a (.ret (.tup [.agg [x,y],.bool b]))):=by subst hb;exact Ac (v_rat h.num h.den h.pos) ha (by show AG.ret _=_;rw[hx])
theorem condF {α:Type}{p:α→Prop}{b:Bool}{l:List α}(h:b=true→∀q∈l,p q):∀q∈(bif b then l else[]),p q:=by
 cases b with
 |true=>exact h rfl|false=>exact Ad
noncomputable def ET (l:List AV)(facts:List OF)(f:FuncId)(args:List AV)(r:AG):Bool:=facts.all (fun q=>BU q.N q.args q.l q.res q.u)&&BO (F9 l [] facts [] [] []) 4000 80 0 f args [] r []
theorem Cg {l:List AV}(hl:(l.all fun x=>Au x&&x.cell)=true){facts:List OF}(hf:∀q∈facts,Bx (Ag l) (mpL []) q){f:FuncId}{args A:List AV}{r R:AG}(h:ET l facts f args r=true)(hA:Ai (Ag l) noT args=A)(hR:Bi (Ag l) noT r=R):VF f A R:=by subst hA hR;unfold ET at h;simp only[zA]at h;exact Gl hl (mu:=[]) rfl h.1 hf Ad Ad Ad h.2
def LH (us:List Vl):AV:=.psl (us.flatMap Vl.c) us.length none
structure Wid (k:Nat)(q:Q):Prop where
 num:Fits k q.1
 den:Fits k q.2
 pos:0<q.2
 cop:Nat.gcd q.1.natAbs q.2.natAbs=1
theorem wid0 {q:Q}(h:Ok q):Wid 45 q:=by have:=h.1;unfold CI at this;simp only[zA]at this;exact⟨Ci this.1,Ci this.2,h.2.1,h.2.2⟩
theorem AaD {k:Nat}{a b:Q}(ha:Wid k a)(hb:Bu b):Wid (k+47) (ED a b):=by
 have h2:Fits (k+46) (b.1*a.2):=Aj (by omega) (Bo hb.num ha.den);have h3:=ML (Bo ha.num hb.den) h2;have h4:Fits (k+47) (a.2*b.2):=Aj (by omega) (Bo ha.den hb.den);have hq:a.2*b.2≠0:=by have:=Int.mul_pos ha.pos hb.pos;omega
 exact⟨(Gr (Aj (by omega) h3) h4).1,(Gr (Aj (by omega) h3) h4).2,QS hq,VS hq⟩
theorem SM {k:Nat}{q:Q}(h:Wid k q)(hk:k≤400):PV q:=⟨Aj hk h.num,Aj hk h.den,h.pos,h.cop⟩
theorem Acd {k:Nat}{a b:Q}(ha:Wid k a)(hk:k≤200)(hb:Bu b):VF 158 [BH a,BH b] (.ret (BH (ED a b))):=VF.of (Wz (Aj hk ha.num) (Aj hk ha.den) ha.pos hb) (by kernel_rfl) (by simp[BE,Bq,AY,Aw,FN])
theorem WZ {a:Q}(h:Ok a):Bu (AB (1,1) a):=by
 have hw:=wid0 h;have h1:Fits 46 (1*a.1):=by rw[Int.one_mul];exact Aj (by decide) hw.num
 have h2:Fits 46 (1*a.2):=by rw[Int.one_mul];exact Aj (by decide) hw.den
 have hp:(1:Int)*a.2≠0:=by have:=hw.pos;omega
 exact⟨(Gr h1 h2).1,(Gr h1 h2).2,QS hp⟩
theorem Rh (k:Nat)(h:k<B):(⟨[],[((k:Int),1)],.pl⟩:Vl).av=.agg [.emp,.psl (src (.ofNat k)) 1 none,.emp]:=by show AV.agg [.emp,.psl (Ed ((k:Int),1)++[]) 1 none,.emp]=_;rw[GH (by simpa using h),List.append_nil];rfl
def txC (q:Q):List AV:=[Aq q.1,Aq q.2]
noncomputable def sgQ (A:List Q):List AV:=Aq 1::Aq 2::Aq (-1)::(A.flatMap Ed++A.flatMap txC)
def c4 (i:Nat):List AV:=[.sel (3+4*i),.sel (4+4*i),.sel (5+4*i),.sel (6+4*i)]
def c2 (n i:Nat):List AV:=[.sel (3+4*n+2*i),.sel (4+4*n+2*i)]
abbrev nq (A:List Q)(i:Nat):Q:=A.getD i (0,1)
theorem Vc (A:List Q):((sgQ A).all fun x=>Au x&&x.cell)=true:=by
 have h1:((A.flatMap Ed).all fun x=>Au x&&x.cell)=true:=by rw[List.all_flatMap];exact zB.2 fun q _=>by unfold Ed;(repeat (first|exact rfl|refine all_cons rfl ?_|refine all_cons (Ah _) ?_|refine all_cons (Ak _) ?_))
 have h2:((A.flatMap txC).all fun x=>Au x&&x.cell)=true:=by rw[List.all_flatMap];exact zB.2 fun q _=>by unfold txC;(repeat (first|exact rfl|refine all_cons rfl ?_|refine all_cons (Ah _) ?_|refine all_cons (Ak _) ?_))
 unfold sgQ;refine all_cons rfl (all_cons rfl (all_cons rfl ?_));rw[List.all_append,h1,h2];rfl
theorem Gb {α β:Type}{f:α→List β}{m:Nat} : ∀A:List α,(∀a∈A,(f a).length=m)→(A.flatMap f).length=A.length*m
 |[],_=>by simp
 |a::A,hm=>by rw[List.flatMap_cons,zR,hm a (by simp),Gb A fun b hb=>hm b (by simp[hb]),List.length_cons,Nat.succ_mul,Nat.add_comm]
theorem Iw {α β:Type}{f:α→List β}{m:Nat}(j:Nat)(hj:j<m):∀(A:List α) (i:Nat) (a:α),(∀a∈A,(f a).length=m)→A[i]?=some a→(A.flatMap f)[m*i+j]?=(f a)[j]?
 |[],_,_,_,h=>by cases h
 |b::A,0,a,hm,h=>by cases h;rw[List.flatMap_cons,Nat.mul_zero,Nat.zero_add,List.getElem?_append_left (by rw[hm _ (by simp)];exact hj)]
 |b::A,i+1,a,hm,h=>by
  have e:m*(i+1)+j-m=m*i+j:=by rw[Nat.mul_succ];omega
  rw[List.flatMap_cons,List.getElem?_append_right (by rw[hm b (by simp),Nat.mul_succ];omega),hm b (by simp),e];exact Iw j hj A i a (fun c hc=>hm c (by simp[hc])) h
theorem Yp {A:List Q}{i:Nat}(h:i<A.length):A[i]?=some (nq A i):=by rw[nq,List.getD_eq_getElem?_getD,zK h];rfl
theorem sg4 {A:List Q}{i:Nat}(h:i<A.length)(j:Nat)(hj:j<4):Ag (sgQ A) (3+4*i+j)=((Ed (nq A i))[j]?).getD (.int .i64 0):=by
 have h1:=Iw (f:=Ed) (m:=4) j hj A i _ (fun _ _=>rfl) (Yp h);have h2:=Gb (f:=Ed) (m:=4) A fun _ _=>rfl
 unfold Ag sgQ;rw[show 3+4*i+j=4*i+j+1+1+1 by omega,List.getElem?_cons_succ,List.getElem?_cons_succ,List.getElem?_cons_succ,List.getElem?_append_left (by omega),h1]
theorem sg2 {A:List Q}{i:Nat}(h:i<A.length)(j:Nat)(hj:j<2):Ag (sgQ A) (3+4*A.length+2*i+j)=((txC (nq A i))[j]?).getD (.int .i64 0):=by
 have h1:=Iw (f:=txC) (m:=2) j hj A i _ (fun _ _=>rfl) (Yp h);have h2:=Gb (f:=Ed) (m:=4) A fun _ _=>rfl
 unfold Ag sgQ;rw[show 3+4*A.length+2*i+j=(A.length*4+(2*i+j))+1+1+1 by omega,List.getElem?_cons_succ,List.getElem?_cons_succ,List.getElem?_cons_succ,List.getElem?_append_right (by omega),h2,Nat.add_sub_cancel_left,h1]
theorem Lz {A:List Q}{i:Nat}(h:i<A.length):Ai (Ag (sgQ A)) noT (c4 i)=Ed (nq A i):=by simp only[c4,Ai,inst];rw[show 3+4*i=3+4*i+0 from rfl,show 4+4*i=3+4*i+1 by omega,show 5+4*i=3+4*i+2 by omega,show 6+4*i=3+4*i+3 by omega,sg4 h 0 (by decide),sg4 h 1 (by decide),sg4 h 2 (by decide),sg4 h 3 (by decide)];rfl
theorem AaI {A:List Q}{i:Nat}(h:i<A.length):Ai (Ag (sgQ A)) noT (c2 A.length i)=txC (nq A i):=by simp only[c2,Ai,inst];rw[show 3+4*A.length+2*i=3+4*A.length+2*i+0 from rfl,show 4+4*A.length+2*i=3+4*A.length+2*i+1 by omega,sg2 h 0 (by decide),sg2 h 1 (by decide)];rfl
inductive Fq where
 |op (o i j r:Nat)
 |rat (i:Nat) (b:Bool)
 |zero (i:Nat) (b:Bool)
def Fq.of (n:Nat):Fq→OF
 |.op o i j r=>vq (fop o) [.agg (c4 i),.agg (c4 j)] (.ret (.agg (c4 r)))|.rat i b=>vq 98 [.agg (c4 i)] (.ret (.tup [.agg (c2 n i),.bool b]))|.zero i b=>vq 166 [.agg (c4 i)] (.ret (.bool b))
def Fq.Is (A:List Q):Fq→Prop
 |.op o i j r=>(i<A.length∧j<A.length∧r<A.length)∧VF (fop o) [BH (nq A i),BH (nq A j)] (.ret (BH (nq A r)))|.rat i b=>i<A.length∧PV (nq A i)∧CI (nq A i)=b|.zero i b=>i<A.length∧decide ((nq A i).1=0)=b
theorem Fq.fact {A:List Q}{f:Fq}(h:f.Is A):Bx (Ag (sgQ A)) (mpL []) (f.of A.length):=by
 cases f with
 |op o i j r=>obtain⟨⟨hi,hj,hr⟩,h⟩:=h;exact Ac h (by simp only[Ai,inst,Lz hi,Lz hj];rfl) (by simp only[Bi,inst,Lz hr];rfl)
 |rat i b=>obtain⟨hi,h,hb⟩:=h;exact Gd (q:=nq A i) h hb (by simp only[Ai,inst,Lz hi];rfl) (by show AV.tup [.agg (Ai _ noT (c2 A.length i)),.bool b]=_;rw[AaI hi];rfl)
 |zero i b=>obtain⟨hi,rfl⟩:=h;exact Ac (YQ (nq A i)) (by simp only[Ai,inst,Lz hi];rfl) rfl
theorem Kt {A:List Q}{F:List Fq}(hF:∀f∈F,f.Is A){f:FuncId}{args:List AV}{r R:AG}{Ar:List AV}(h:ET (sgQ A) (BG++F.map (Fq.of A.length)) f args r=true)(hA:Ai (Ag (sgQ A)) noT args=Ar)(hR:Bi (Ag (sgQ A)) noT r=R):VF f Ar R:=
 Cg (Vc A) (Ao (Ir _) fun q hq=>by obtain⟨g,hg,rfl⟩:=List.mem_map.1 hq;exact Fq.fact (hF g hg)) h hA hR
def vC (sh is:List Nat)(d:Dm):List AV:=[AA sh,.psl (is.flatMap c4) is.length none,Ap d]
theorem I2 (σ:Nat→AV):∀a b:List AV,Ai σ noT (a++b)=Ai σ noT a++Ai σ noT b
 |[],_=>rfl|x::a,b=>by simp only[List.cons_append,Ai,I2 σ a b]
theorem Mg (σ:Nat→AV)(sh:List Nat):inst σ noT (AA sh)=AA sh:=by
 have:∀l:List Nat,Ai σ noT (l.map fun n=>.int .i64 (.ofNat n))=l.map fun n=>.int .i64 (.ofNat n):=fun l=>by
  induction l with
  |nil=>rfl|cons n l ih=>simp only[List.map_cons,Ai,inst,ih]
 cases sh with
 |nil=>rfl|cons n l=>simp only[AA,inst,this]
theorem GI {A:List Q}{sh is:List Nat}{d:Dm}(h:∀i∈is,i<A.length):Ai (Ag (sgQ A)) noT (vC sh is d)=(⟨sh,is.map (nq A),d⟩:Vl).c:=by
 have key:∀l:List Nat,(∀i∈l,i<A.length)→Ai (Ag (sgQ A)) noT (l.flatMap c4)=(l.map (nq A)).flatMap Ed:=fun l=>by
  induction l with
  |nil=>intro _;rfl
  |cons i l ih=>intro hl;rw[List.flatMap_cons,I2,Lz (hl i (by simp)),ih fun j hj=>hl j (by simp[hj])];rfl
 show[inst _ noT (AA sh),.psl (Ai _ noT (is.flatMap c4)) is.length none,inst _ noT (Ap d)]=[AA sh,.psl ((is.map (nq A)).flatMap Ed) (is.map (nq A)).length none,Ap d];rw[Mg,key is h,List.length_map];congr 2;cases d<;>rfl
theorem Qt {A:List Q}{sh is:List Nat}{d:Dm}{l:List Q}(h:∀i∈is,i<A.length)(e:is.map (nq A)=l):Bi (Ag (sgQ A)) noT (.ret (.agg (vC sh is d)))=.ret (⟨sh,l,d⟩:Vl).av:=by subst e;show AG.ret (.agg (Ai _ noT (vC sh is d)))=_;rw[GI h];rfl
def dms:List Dm:=[.pl,.m,.s,.m2,.ms]
theorem dm_mem (d:Dm):d∈dms:=by cases d<;>decide
theorem Yv (l:List AV):ET l [vq 165 [.sel 0,.int .i64 1] (.ret (.agg [.sel 1,.sel 2,.sel 3,.sel 4]))] 271 [.sel 0] (.ret (.agg [.emp,.psl [.sel 1,.sel 2,.sel 3,.sel 4] 1 none,.emp]))=true:=by kernel_rfl
theorem whole (i:Int)(hi:i.natAbs<B):VF 271 [.int .i64 i] (.ret (⟨[],[(i,1)],.pl⟩:Vl).av):=
 Cg (l:=.int .i64 i::Ed (low i 1)) (by unfold Ed;(repeat (first|exact rfl|refine all_cons rfl ?_|refine all_cons (Ah _) ?_|refine all_cons (Ak _) ?_))) (Aa (Ac (Oe hi (by decide) (by decide)) rfl rfl) Ad) (Yv _) rfl (by rw[Mh];rfl)
inductive Kd where
 |pl|m|s|m3|pl3|m2|ms
 deriving DecidableEq
def Kd.dm:Kd→Dm
 |.pl|.pl3=>.pl|.m|.m3=>.m|.s=>.s|.m2=>.m2|.ms=>.ms
def Kd.arr:Kd→Bool
 |.m3|.pl3=>true|_=>false
structure VOk (k:Kd)(v:Vl):Prop where
 dm:v.dm=k.dm
 sh:v.sh=if k.arr then[3] else[]
 len:v.it.length=if k.arr then 3 else 1
 it:∀q∈v.it,Ok q
theorem VOk.one {k:Kd}(hk:k.arr=false){v:Vl}(h:VOk k v):∃a,v=⟨[],[a],k.dm⟩ ∧Ok a:=by obtain⟨sh,it,dm⟩:=v;have h1:=h.dm;have h2:=h.sh;have h3:=h.len;have h4:=h.it;simp only[hk]at h1 h2 h3 h4;simp at h2 h3;obtain⟨a,rfl⟩:=List.length_eq_one_iff.1 h3;subst h1 h2;exact⟨a,rfl,h4 a (by simp)⟩
theorem VOk.three {k:Kd}(hk:k.arr=true){v:Vl}(h:VOk k v):∃a b c,v=⟨[3],[a,b,c],k.dm⟩ ∧Ok a∧Ok b∧Ok c:=by
 obtain⟨sh,it,dm⟩:=v;have h1:=h.dm;have h2:=h.sh;have h3:=h.len;have h4:=h.it;simp only[hk]at h1 h2 h3 h4;simp at h2 h3;obtain⟨a,b,c,rfl⟩:∃a b c,it=[a,b,c]:=by
  match it,h3 with
  |[a,b,c],_=>exact⟨a,b,c,rfl⟩
 subst h1 h2;exact⟨a,b,c,rfl,h4 a (by simp),h4 b (by simp),h4 c (by simp)⟩
theorem B8 {k:Kd}(hk:k.arr=false){a:Q}(h:Ok a):VOk k ⟨[],[a],k.dm⟩:=⟨rfl,by simp[hk],by simp[hk],by simpa using h⟩
theorem KX {k:Kd}(hk:k.arr=true){a b c:Q}(ha:Ok a)(hb:Ok b)(hc:Ok c):VOk k ⟨[3],[a,b,c],k.dm⟩:=⟨rfl,by simp[hk],by simp[hk],by simp[ha,hb,hc]⟩
def kdR (op:Nat)(a b:Kd):Option Kd:=match op,a,b with
 |3,x,y=>if x=y then some x else none
 |4,x,y=>if x=y then some x else none
 |5,.pl,x=>some x|5,.m,.m=>some .m2|5,.ms,.s=>some .m|6,x,.pl=>some x|6,.m,.m=>some .pl|6,.m,.ms=>some .s|6,.m,.s=>some .ms|_,_,_=>none
def kds:List Kd:=[.pl,.m,.s,.m3,.pl3,.m2,.ms]
theorem GJ (k:Kd):k∈kds:=by cases k<;>decide
theorem AaZ:([3,4,5,6].all fun op=>kds.all fun a=>kds.all fun b=>match kdR op a b with
 |some k=>decide (dimR op a.dm b.dm=some k.dm)&&(decide (k.arr=(a.arr||b.arr)) && !(Nat.beq op 6&&b.arr))|none=>true)=true:=by decide
theorem RM {op:Nat}(ho:op∈[3,4,5,6]){a b k:Kd}(h:kdR op a b=some k):dimR op a.dm b.dm=some k.dm∧k.arr=(a.arr||b.arr)∧(op=6→b.arr=false):=by have:=zB.1 (zB.1 (zB.1 AaZ op ho) a (GJ a)) b (GJ b);rw[h]at this;simp only[zA,decide_eq_true_eq]at this;refine⟨this.1,this.2.1,fun e=>?_⟩;subst e;simpa using this.2.2
def nk (k:Kd):Nat:=bif k.arr then 3 else 1
def shK (k:Kd):List Nat:=bif k.arr then[3] else[]
def flags:Nat→List (List Bool)
 |0=>[[]]|n+1=>(flags n).map (true :: ·)++(flags n).map (false :: ·)
def pk (n i:Nat):Nat:=bif Nat.beq n 1 then 0 else i
def bF (op nu nv n:Nat)(fl:List Bool):List Fq:=
 (bif Nat.beq op 6 then[.zero nu false] else[])++((List.range n).map (fun i=>.op op (pk nu i) (nu+pk nv i) (nu+nv+i))++(List.range n).map fun i=>.rat (nu+nv+i) (fl.getD i true))
def bA (op:Nat)(a b:Kd):List AV:=[.int .i64 (.ofNat op),.agg (vC (shK a) (List.range (nk a)) a.dm),.agg (vC (shK b) (List.range' (nk a) (nk b)) b.dm)]
noncomputable def Ly (l:List AV)(op:Nat)(a b:Kd):Bool:=match kdR op a b with
 |some k=>(bif Nat.beq op 6 then ET l (BG++[Fq.zero (nk a) true].map (Fq.of (nk a+nk b+nk k))) 74 (bA op a b) (Ho 12) else true)&&(flags (nk k)).all fun fl=>ET l (BG++(bF op (nk a) (nk b) (nk k) fl).map (Fq.of (nk a+nk b+nk k))) 74 (bA op a b) (bif fl.all id then .ret (.agg (vC (shK k) (List.range' (nk a+nk b) (nk k)) k.dm)) else Ho 13)
 |none=>true
theorem runsB3 (l:List AV):(kds.all fun a=>kds.all fun b=>Ly l 3 a b)=true:=by kernel_rfl
theorem runsB4 (l:List AV):(kds.all fun a=>kds.all fun b=>Ly l 4 a b)=true:=by kernel_rfl
theorem runsB5 (l:List AV):(kds.all fun a=>kds.all fun b=>Ly l 5 a b)=true:=by kernel_rfl
theorem runsB6 (l:List AV):(kds.all fun a=>kds.all fun b=>Ly l 6 a b)=true:=by kernel_rfl
theorem runsB (l:List AV){op:Nat}(ho:op∈[3,4,5,6])(a b:Kd):Ly l op a b=true:=by
 have:(kds.all fun a=>kds.all fun b=>Ly l op a b)=true:=by
  simp only[zH,List.not_mem_nil,or_false]at ho;rcases ho with rfl|rfl|rfl|rfl
  ·exact runsB3 l
  ·exact runsB4 l
  ·exact runsB5 l
  ·exact runsB6 l
 exact zB.1 (zB.1 this a (GJ a)) b (GJ b)
end Go.Ev
end
