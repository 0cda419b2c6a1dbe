/- Operations on values, told of all numbers within the bounds. -/
import Derived.Test.YtecmlmofhabonaaGreatDoorIBoth1
noncomputable section
namespace Go.Ev
open Go Go.Ab Go.Nl Go.Nb Go.RowKit Go.Proofs Go.E4
set_option maxRecDepth 1000000
theorem AbD {op:Nat}(ho:op∈[3,4,5,6]):isOp op=true:=by simp only[zH,List.not_mem_nil,or_false]at ho;rcases ho with rfl|rfl|rfl|rfl<;>rfl
theorem VOk.eq {k:Kd}{v:Vl}(h:VOk k v):v=⟨shK k,v.it,k.dm⟩ ∧v.it.length=nk k:=by obtain⟨sh,it,dm⟩:=v;have h1:=h.dm;have h2:=h.sh;have h3:=h.len;simp only at h1 h2 h3;subst h1 h2;unfold nk shK;cases hk:k.arr<;>simp_all
theorem AaN {k:Kd}{l:List Q}(h:l.length=nk k)(ho:∀q∈l,Ok q):VOk k ⟨shK k,l,k.dm⟩:=by
 refine⟨rfl,?_,?_,ho⟩
 ·unfold shK;cases k.arr<;>rfl
 ·rw[show(⟨shK k,l,k.dm⟩:Vl).it=l from rfl,h];unfold nk;cases k.arr<;>rfl
theorem Ls:∀l:List Bool,l∈flags l.length
 |[]=>by simp[flags]
 |b::l=>by have:=Ls l;cases b<;>simp[flags,this]
theorem nq_l {a b:List Q}{i:Nat}(h:i<a.length):nq (a++b) i=nq a i:=by simp[nq,List.getD_eq_getElem?_getD,List.getElem?_append_left h]
theorem nq_r {a b:List Q}{n:Nat}(h:a.length=n)(i:Nat):nq (a++b) (n+i)=nq b i:=by subst h;simp[nq,List.getD_eq_getElem?_getD,List.getElem?_append_right]
theorem GZ {a:List Q}{n s:Nat}{f:Nat→Q}(h:∀i,i<n→f (s+i)=nq a i)(hn:a.length=n):(List.range' s n).map f=a:=by
 refine List.ext_getElem (by simp[hn]) fun i h1 h2=>?_
 have hi:i<n:=by omega
 rw[List.getElem_map,List.getElem_range',Nat.one_mul,h i hi,nq,List.getD_eq_getElem?_getD,zK h2];rfl
theorem pk_lt {n m i:Nat}(h:n=1∨n=m)(hi:i<m):pk n i<n:=by
 unfold pk;rcases h with rfl|rfl
 ·exact Nat.one_pos
 ·cases hb:Nat.beq n 1 with
  |true=>rw[zD hb]at hi ⊢;exact Nat.one_pos
  |false=>exact hi
theorem KW {v:Vl} : NR (Cl v)=bif v.it.all CI then .ret v.av else Ho 13:=by unfold Cl;cases v.it.all CI<;>rfl
theorem S1 (l:List Q){n:Nat}(h:l.length=n):∀i,i<n→(l.map CI).getD i true=CI (nq l i):=fun i hi=>by rw[List.getD_eq_getElem?_getD,List.getElem?_map,nq,List.getD_eq_getElem?_getD,zK (by omega)];rfl
theorem Aba {l:List Q}{n:Nat}(h:l.length=n){p:Q→Prop}(hp:∀i,i<n→p (nq l i)):∀q∈l,p q:=fun q hq=>by obtain⟨i,hi,rfl⟩:=List.mem_iff_getElem.1 hq;have:=hp i (by omega);rwa[nq,List.getD_eq_getElem?_getD,zK hi]at this
theorem TF (k:Kd):nk k=1∨nk k=3:=by unfold nk;cases k.arr<;>simp
theorem ZD {op:Nat}(ho:op∈[3,4,5,6]){ka kb k:Kd}(hk:kdR op ka kb=some k){us vs rs:List Q}(hu:us.length=nk ka)(hv:vs.length=nk kb)(hr:rs.length=nk k)(hz:op=6→(nq vs 0).1≠0)
 (h:∀i,i<nk k→Ok (nq us (pk (nk ka) i))∧Ok (nq vs (pk (nk kb) i))∧nq rs i=opQ op (nq us (pk (nk ka) i)) (nq vs (pk (nk kb) i))) :
 VF 74 [.int .i64 (.ofNat op),(⟨shK ka,us,ka.dm⟩:Vl).av,(⟨shK kb,vs,kb.dm⟩:Vl).av] (NR (Cl ⟨shK k,rs,k.dm⟩))∧∀w,Cl ⟨shK k,rs,k.dm⟩=.ok w→VOk k w:=by
 obtain⟨_,h3,h4⟩:=RM ho hk;have hop:=AbD ho;have hA:(us++(vs++rs)).length=nk ka+nk kb+nk k:=by simp[hu,hv,hr];omega
 have hn:(nk ka=1∨nk ka=nk k)∧(nk kb=1∨nk kb=nk k)∧(op=6→nk kb=1):=by unfold nk;rw[h3];refine⟨?_,?_,fun e=>by rw[h4 e];rfl⟩<;>cases ka.arr<;>cases kb.arr<;>simp
 have hz':∀i,op=6→(nq vs (pk (nk kb) i)).1≠0:=fun i e=>by rw[hn.2.2 e];exact hz e
 have hw:∀i,i<nk k→PV (nq rs i):=fun i hi=>by obtain⟨a,b,e⟩:=h i hi;rw[e];exact IV hop a.st b.st (hz' i)
 have nu:∀i,i<nk ka→nq (us++(vs++rs)) i=nq us i:=fun i hi=>nq_l (by omega)
 have nv:∀i,i<nk kb→nq (us++(vs++rs)) (nk ka+i)=nq vs i:=fun i hi=>by rw[nq_r hu,nq_l (by omega)]
 have nr:∀i,nq (us++(vs++rs)) (nk ka+nk kb+i)=nq rs i:=fun i=>by rw[Nat.add_assoc,nq_r hu,nq_r hv]
 have run:=runsB (sgQ (us++(vs++rs))) ho ka kb;unfold Ly at run;rw[hk]at run;simp only[zA]at run;have run:=zB.1 run.2 (rs.map CI) (by have:=Ls (rs.map CI);rwa[List.length_map,hr]at this);rw[←hA]at run;have:=Kt (Ao (condF fun e=>Aa (x:=Fq.zero (nk ka) false) (p:=Fq.Is (us++(vs++rs))) (⟨by rw[hA];have:=TF kb;omega,by
  have e0:=nv 0 (by have:=TF kb;omega);rw[Nat.add_zero]at e0;rw[e0];exact zL (hz (zD e))⟩) Ad) (Ao (fun f hf=>by
  obtain⟨i,hi,rfl⟩:=List.mem_map.1 hf;have hi:=zQ.1 hi;obtain⟨a,b,e⟩:=h i hi;have l1:=pk_lt hn.1 hi;have l2:=pk_lt hn.2.1 hi;refine⟨⟨by omega,by omega,by omega⟩,?_⟩;rw[nu _ l1,nv _ l2,nr,e];exact op_ok hop a.st b.st (hz' i)) (fun f hf=>by
  obtain⟨i,hi,rfl⟩:=List.mem_map.1 hf;have hi:=zQ.1 hi;refine⟨by omega,?_⟩;rw[nr,S1 rs hr i hi];exact⟨hw i hi,rfl⟩))) run
  (Ar:=[.int .i64 (.ofNat op),(⟨shK ka,us,ka.dm⟩:Vl).av,(⟨shK kb,vs,kb.dm⟩:Vl).av]) (by simp only[bA,Ai,inst];rw[GI (fun i hi=>by have:=zQ.1 hi;omega),GI (fun i hi=>by have:=List.mem_range'_1.1 hi;omega),List.range_eq_range',GZ (a:=us) (fun i hi=>by rw[Nat.zero_add];exact nu i hi) hu,GZ nv hv];rfl)
  (R:=NR (Cl ⟨shK k,rs,k.dm⟩)) (by
   rw[KW,show(rs.map CI).all id=rs.all CI by rw[List.all_map];rfl];cases rs.all CI with
   |true=>exact Qt (fun i hi=>by have:=List.mem_range'_1.1 hi;omega) (GZ (fun i _=>nr i) hr)
   |false=>rfl)
 refine⟨this,fun w hw'=>?_⟩;unfold Cl at hw';split at hw'
 ·rename_i hf;cases hw';refine AaN hr (Aba hr fun i hi=>?_);have hfi:CI (nq rs i)=true:=by have:=zB.1 hf (nq rs i) (by rw[nq,List.getD_eq_getElem?_getD,zK (by omega)];exact List.getElem_mem _);exact this
  exact⟨hfi,(hw i hi).pos,(hw i hi).cop⟩
 ·cases hw'
theorem Kn {op:Nat}(ho:op∈[3,4,5,6]){ka kb k:Kd}(hk:kdR op ka kb=some k){u v:Vl}(hu:VOk ka u)(hv:VOk kb v):VF 74 [.int .i64 (.ofNat op),u.av,v.av] (NR (C6 op u v))∧∀w,C6 op u v=.ok w→VOk k w:=by
 obtain⟨h2,h3,h4⟩:=RM ho hk;by_cases hz:op=6∧v.it.any (fun q=>decide (q.1=0))=true
 ·have e:C6 op u v=.error 12:=by unfold C6;rw[if_pos hz]
  rw[e];refine⟨?_,nofun⟩;obtain⟨rfl,hz⟩:=hz;obtain⟨b,rfl,ob⟩:=hv.one (h4 rfl);have hb0:b.1=0:=by simpa using hz
  obtain⟨eu,lu⟩:=hu.eq;have nb:nk kb=1:=by unfold nk;rw[h4 rfl];rfl
  have sb:shK kb=[]:=by unfold shK;rw[h4 rfl];rfl
  generalize hL:List.replicate (nk k) ((0:Int),(1:Int))=L;have hl:L.length=nk k:=by rw[←hL];simp
  have hA:(u.it++([b]++L)).length=nk ka+nk kb+nk k:=by simp[lu,hl,nb];omega
  have run:=runsB (sgQ (u.it++([b]++L))) ho ka kb;unfold Ly at run;rw[hk]at run;simp only[zA]at run;have run:=run.1;rw[←hA]at run;have nb0:nq (u.it++([b]++L)) (nk ka)=b:=by have:=nq_r (b:=[b]++L) lu 0;rw[Nat.add_zero]at this;rw[this];rfl
  refine Kt (Aa (x:=Fq.zero (nk ka) true) (p:=Fq.Is (u.it++([b]++L))) ⟨by omega,by rw[nb0];exact decide_eq_true hb0⟩ Ad) run ?_ rfl;simp only[bA,Ai,inst];rw[GI (fun i hi=>by have:=zQ.1 hi;omega),GI (fun i hi=>by have:=List.mem_range'_1.1 hi;omega),List.range_eq_range',GZ (a:=u.it) (fun i hi=>by rw[Nat.zero_add];exact nq_l (by omega)) lu,nb,sb,show(List.range' (nk ka) 1).map (nq (u.it++([b]++L)))=[b] by simp only[List.range'_one,List.map_cons,List.map_nil,nb0]];show[_,(⟨shK ka,u.it,ka.dm⟩:Vl).av,_]=_;rw[←eu];rfl
 ·have key:∀sh rs,shK k=sh→rs.length=nk k→(∀i,i<nk k→Ok (nq u.it (pk (nk ka) i))∧Ok (nq v.it (pk (nk kb) i))∧nq rs i=opQ op (nq u.it (pk (nk ka) i)) (nq v.it (pk (nk kb) i)))→C6 op u v=Cl ⟨sh,rs,k.dm⟩ →VF 74 [.int .i64 (.ofNat op),u.av,v.av] (NR (C6 op u v))∧∀w,C6 op u v=.ok w→VOk k w:=by
   intro sh rs e1 e2 e3 e4;subst e1;obtain⟨eu,lu⟩:=hu.eq;obtain⟨ev,lv⟩:=hv.eq;have hz0:op=6→(nq v.it 0).1≠0:=fun e h0=>hz ⟨e,List.any_eq_true.2 ⟨nq v.it 0,by rw[nq,List.getD_eq_getElem?_getD,zK (by have:=TF kb;omega)];exact List.getElem_mem _,decide_eq_true h0⟩⟩
   have:=ZD ho hk lu lv e2 hz0 e3;rw[←eu,←ev]at this;rw[e4];exact this
  have eb:∀{sh rs},(if u.sh=[] then v.sh else u.sh)=sh→ZR op u v=rs→C6 op u v=Cl ⟨sh,rs,k.dm⟩:=by intro sh rs e1 e2;unfold C6;rw[if_neg hz,hu.dm,hv.dm,h2,e1,e2];rfl
  cases hka:ka.arr with
  |false=>
   obtain⟨a,rfl,oa⟩:=hu.one hka;cases hkb:kb.arr with
   |false=>
    obtain⟨b,rfl,ob⟩:=hv.one hkb;rw[hka,hkb]at h3;refine key [] [opQ op a b] (by simp[shK,h3]) (by simp[nk,h3]) (fun i hi=>?_) (eb rfl rfl);simp only[nk,hka,hkb,h3]at hi ⊢;obtain rfl:i=0:=by simpa using hi
    exact⟨oa,ob,rfl⟩
   |true=>
    obtain⟨b0,b1,b2,rfl,o0,o1,o2⟩:=hv.three hkb;rw[hka,hkb]at h3;refine key [3] [opQ op a b0,opQ op a b1,opQ op a b2] (by simp[shK,h3]) (by simp[nk,h3]) (fun i hi=>?_) (eb rfl rfl);simp only[nk,hka,hkb,h3]at hi ⊢
    match i,hi with
    |0,_=>exact⟨oa,o0,rfl⟩|1,_=>exact⟨oa,o1,rfl⟩|2,_=>exact⟨oa,o2,rfl⟩
  |true=>
   obtain⟨a0,a1,a2,rfl,p0,p1,p2⟩:=hu.three hka;cases hkb:kb.arr with
   |false=>
    obtain⟨b,rfl,ob⟩:=hv.one hkb;rw[hka,hkb]at h3;refine key [3] [opQ op a0 b,opQ op a1 b,opQ op a2 b] (by simp[shK,h3]) (by simp[nk,h3]) (fun i hi=>?_) (eb rfl rfl);simp only[nk,hka,hkb,h3]at hi ⊢
    match i,hi with
    |0,_=>exact⟨p0,ob,rfl⟩|1,_=>exact⟨p1,ob,rfl⟩|2,_=>exact⟨p2,ob,rfl⟩
   |true=>
    obtain⟨b0,b1,b2,rfl,o0,o1,o2⟩:=hv.three hkb;rw[hka,hkb]at h3;refine key [3] [opQ op a0 b0,opQ op a1 b1,opQ op a2 b2] (by simp[shK,h3]) (by simp[nk,h3]) (fun i hi=>?_) (eb rfl rfl);simp only[nk,hka,hkb,h3]at hi ⊢
    match i,hi with
    |0,_=>exact⟨p0,o0,rfl⟩|1,_=>exact⟨p1,o1,rfl⟩|2,_=>exact⟨p2,o2,rfl⟩
def dmH:List Vl→Dm
 |[]=>.pl|v::_=>v.dm
def Ip (l:List Vl):Vl:=⟨l.length::(match l with|[]=>[]|v::_=>v.sh),l.flatMap (·.it),dmH l⟩
theorem PK {k:Kd}{l:List Vl}(hl:∀v∈l,VOk k v)(h1:1≤l.length):Ip l=⟨l.length::shK k,l.flatMap (·.it),k.dm⟩:=by
 match l,h1 with
 |v::r,_=>have h:=(hl v (by simp)).eq.1;show(⟨_::v.sh,_,v.dm⟩:Vl)=_;rw[show v.sh=shK k from(congrArg Vl.sh h).trans rfl,show v.dm=k.dm from(congrArg Vl.dm h).trans rfl]
theorem ON {α β:Type}(f:α→List β):∀(l:List α) (g:Nat→List β),(∀i a,l[i]?=some a→g i=f a)→(List.range l.length).flatMap g=l.flatMap f
 |[],_,_=>rfl|a::l,g,h=>by rw[List.length_cons,List.range_succ_eq_map,List.flatMap_cons,h 0 a rfl,List.flatMap_map,List.flatMap_cons];rw[show(List.range l.length).flatMap (fun a=>g a.succ)=l.flatMap f from ON f l (g ∘ Nat.succ) fun i b hb=>h (i+1) b hb]
theorem Mf {k:Kd}{l:List Vl}(hl:∀v∈l,VOk k v)(b:List Q){i:Nat}{v:Vl}(hv:l[i]?=some v){j:Nat}(hj:j<nk k):nq (l.flatMap (·.it)++b) (nk k*i+j)=nq v.it j:=by
 have h1:=Iw (f:=fun v:Vl=>v.it) j hj l i v (fun v hv=>(hl v hv).eq.2) hv;have h2:=Gb (f:=fun v:Vl=>v.it) l fun v hv=>(hl v hv).eq.2
 have h3:=(zN.1 hv).1;have h4:nk k*i+j<(l.flatMap fun v:Vl=>v.it).length:=by rw[h2,Nat.mul_comm l.length];have:=Nat.mul_le_mul_left (nk k) (show i+1≤l.length by omega);rw[Nat.mul_succ]at this;omega
 rw[nq_l h4,nq,List.getD_eq_getElem?_getD,h1,nq,List.getD_eq_getElem?_getD]
theorem J6 {k:Kd}{l:List Vl}(hl:∀v∈l,VOk k v):(l.flatMap (·.it)).length=l.length*nk k:=Gb l fun v hv=>(hl v hv).eq.2
theorem Aao {k:Kd}{l:List Vl}(hl:∀v∈l,VOk k v)(b:List Q):Ai (Ag (sgQ (l.flatMap (·.it)++b))) noT (vCs l.length (nk k) (shK k) k.dm)=l.flatMap Vl.c:=by
 have h2:=J6 hl;have app:∀(r:List Nat) (g:Nat→List AV) (σ:Nat→AV),Ai σ noT (r.flatMap g)=r.flatMap fun i=>Ai σ noT (g i):=fun r g σ=>by
  induction r with
  |nil=>rfl|cons i r ih=>rw[List.flatMap_cons,I2,ih,List.flatMap_cons]
 unfold vCs;rw[app];refine ON Vl.c l _ fun i v hv=>?_
 have hi:=(zN.1 hv).1;have ho:=(hl v (List.mem_of_getElem? hv)).eq;have hlt:=Nat.mul_le_mul_left (nk k) (show i+1≤l.length by omega);rw[Nat.mul_succ,Nat.mul_comm _ l.length]at hlt;rw[GI (fun j hj=>by have:=List.mem_range'_1.1 hj;rw[zR,h2];omega),GZ (a:=v.it) (fun j hj=>Mf hl b hv hj) ho.2];exact congrArg Vl.c ho.1.symm
theorem S5 {k:Kd}{l:List Vl}(hl:∀v∈l,VOk k v)(b:List Q):Ai (Ag (sgQ (l.flatMap (·.it)++b))) noT [.psl (vCs l.length (nk k) (shK k) k.dm) l.length none]=[LH l]:=by simp only[Ai,inst,Aao hl b];rfl
theorem Pu {k:Kd}{l:List Vl}(hl:∀v∈l,VOk k v)(h1:1≤l.length)(h4:l.length≤4):VF 269 [LH l] (.ret (Ip l).av):=by
 have hn:((l.flatMap fun v:Vl=>v.it)++([]:List Q)).length=l.length*nk k:=by rw[List.append_nil];exact J6 hl
 have run:=zB.1 (zB.1 (runsS (sgQ (l.flatMap (·.it)++[]))) _ (Ld h1 h4)) k (GJ k);rw[←hn]at run;refine Kt Ad run (S5 hl []) ?_;rw[PK hl h1];exact Qt (fun i hi=>by have:=List.mem_range'_1.1 hi;omega) (by rw[GZ (a:=l.flatMap (·.it)++[]) (fun i _=>by rw[Nat.zero_add]) rfl,List.append_nil])
def Gp:Kd→Option Kd
 |.pl=>some .pl3|.m=>some .m3|_=>none
theorem Tv {k ka:Kd}(hk:Gp k=some ka):k.arr=false∧ka.arr=true∧ka.dm=k.dm:=by cases k<;>simp[Gp]at hk<;>subst hk<;>exact⟨rfl,rfl,rfl⟩
theorem Rx {k ka:Kd}(hk:Gp k=some ka){u v w:Vl}(hu:VOk k u)(hv:VOk k v)(hw:VOk k w):VF 269 [LH [u,v,w]] (.ret (Ip [u,v,w]).av)∧VOk ka (Ip [u,v,w]):=by refine⟨Pu (k:=k) (by simp[hu,hv,hw]) (by simp) (by simp),?_⟩;have ha:=Tv hk;obtain⟨a,rfl,oa⟩:=hu.one ha.1;obtain⟨b,rfl,ob⟩:=hv.one ha.1;obtain⟨c,rfl,oc⟩:=hw.one ha.1;show VOk ka ⟨[3],[a,b,c],k.dm⟩;rw[←ha.2.2];exact KX ha.2.1 oa ob oc
theorem Zl {k:Kd}{l:List Vl}(hl:∀v∈l,VOk k v)(h1:1≤l.length)(h4:l.length≤4){i:Nat}(hi:i<4):VF 273 [(Ip l).av,(⟨[],[((i:Int),1)],.pl⟩:Vl).av] (match l[i]? with|some v=>.ret v.av|none=>Ho 3):=by
 have hn:((l.flatMap fun v:Vl=>v.it)++([]:List Q)).length=l.length*nk k:=by rw[List.append_nil];exact J6 hl
 have run:=zB.1 (zB.1 (zB.1 (runsP (sgQ (l.flatMap (·.it)++[]))) _ (Ld h1 h4)) k (GJ k)) i (zQ.2 hi);rw[←hn]at run;refine Kt Ad run ?_ ?_
 ·simp only[Ai,inst];rw[GI (fun i hi=>by have:=List.mem_range'_1.1 hi;omega),GZ (a:=l.flatMap (·.it)++[]) (fun i _=>by rw[Nat.zero_add]) rfl,List.append_nil,Rh i (by unfold B;omega),PK hl h1];congr 2
  match i,hi with
  |0,_=>rfl|1,_=>rfl|2,_=>rfl|3,_=>rfl
 ·cases hv:l[i]? with
  |none=>rw[show Nat.blt i l.length=false by have:=List.getElem?_eq_none_iff.1 hv;unfold Nat.blt;rw[Bool.eq_false_iff];intro h;have:=zE h;omega];rfl
  |some v=>have hil:=(zN.1 hv).1;have ho:=(hl v (List.mem_of_getElem? hv)).eq;rw[show Nat.blt i l.length=true from Nat.ble_eq_true_of_le hil];have hlt:=Nat.mul_le_mul_left (nk k) (show i+1≤l.length by omega);rw[Nat.mul_succ,Nat.mul_comm _ l.length]at hlt;have:=Qt (A:=l.flatMap (·.it)++[]) (sh:=shK k) (is:=List.range' (nk k*i) (nk k)) (d:=k.dm) (fun j hj=>by have:=List.mem_range'_1.1 hj;omega) (GZ (a:=v.it) (fun j hj=>Mf hl [] hv hj) ho.2);rw[←ho.1]at this;exact this
def SX (u:Vl)(i:Nat):Except Nat Vl:=match u.it[i]? with
 |some q=>.ok ⟨[],[q],u.dm⟩|none=>.error 3
theorem Zw {k ka:Kd}(hk:Gp k=some ka){u:Vl}(hu:VOk ka u){i:Nat}(hi:i<4):VF 273 [u.av,(⟨[],[((i:Int),1)],.pl⟩:Vl).av] (NR (SX u i))∧∀w,SX u i=.ok w→VOk k w:=by
 have ha:=Tv hk;obtain⟨a,b,c,rfl,oa,ob,oc⟩:=hu.three ha.2.1;rw[ha.2.2];have:=Zl (k:=k) (l:=[⟨[],[a],k.dm⟩,⟨[],[b],k.dm⟩,⟨[],[c],k.dm⟩]) (by simp[B8 ha.1 oa,B8 ha.1 ob,B8 ha.1 oc]) (by simp) (by simp) hi
 match i,hi with
 |0,_=>exact⟨this,fun w hw=>by cases hw;exact B8 ha.1 oa⟩
 |1,_=>exact⟨this,fun w hw=>by cases hw;exact B8 ha.1 ob⟩
 |2,_=>exact⟨this,fun w hw=>by cases hw;exact B8 ha.1 oc⟩
 |3,_=>exact⟨this,nofun⟩
def Ez (l:List Vl)(j:Nat):Q:=match l with
 |[]=>(0,1)|v::r=>r.foldl (fun q w=>ED q (w.it.getD j (0,1))) (v.it.getD j (0,1))
theorem TW {l:List Vl}(hl:l≠[])(v:Vl)(j:Nat):Ez (l++[v]) j=ED (Ez l j) (v.it.getD j (0,1)):=by
 cases l with
 |nil=>exact absurd rfl hl|cons u r=>show(r++[v]).foldl _ _=_;rw[List.foldl_append];rfl
theorem take_succ {l:List Vl}{i:Nat}{v:Vl}(h:l[i]?=some v):l.take (i+1)=l.take i++[v]:=by rw[List.take_add_one,h];rfl
theorem OP {l:List Vl}{i:Nat}{v:Vl}(h:l[i+1]?=some v)(j:Nat):Ez (l.take (i+2)) j=ED (Ez (l.take (i+1)) j) (nq v.it j):=by have hlt:=(zN.1 h).1;rw[take_succ h,TW fun e=>by have:=congrArg List.length e;rw[List.length_take,List.length_nil]at this;omega]
theorem AaK {k:Kd}{v:Vl}(h:VOk k v){j:Nat}(hj:j<nk k):Ok (nq v.it j):=by rw[nq,List.getD_eq_getElem?_getD,zK (by rw[h.eq.2];exact hj)];exact h.it _ (List.getElem_mem _)
theorem Lo {k:Kd}{l:List Vl}(hl:∀v∈l,VOk k v){j:Nat}(hj:j<nk k):∀i,i<l.length→Wid (45+47*i) (Ez (l.take (i+1)) j)
 |0,h=>by
  match l,h with
  |v::r,_=>exact wid0 (AaK (hl v (by simp)) hj)
 |i+1,h=>by rw[OP (zK h)];exact AaD (Lo hl hj i (by omega)) (AaK (hl _ (List.getElem_mem _)) hj).st
def totV (k:Kd)(l:List Vl):Vl:=⟨shK k,(List.range' 0 (nk k)).map (Ez l),k.dm⟩
theorem WO {k:Kd}{l:List Vl}(hl:∀v∈l,VOk k v)(h1:1≤l.length)(h4:l.length≤4):VF 268 [LH l] (NR (Cl (totV k l)))∧∀w,Cl (totV k l)=.ok w→VOk k w:=by
 generalize hS:(List.range (l.length-1)).flatMap (fun i=>(List.range (nk k)).map fun j=>Ez (l.take (i+2)) j)=S;have hlS:S.length=(l.length-1)*nk k:=by rw[←hS,Gb (m:=nk k) _ fun i _=>by simp,List.length_range]
 have nS:∀i,i<l.length-1→∀j,j<nk k→nq S (nk k*i+j)=Ez (l.take (i+2)) j:=fun i hi j hj=>by have:=Iw (f:=fun i=>(List.range (nk k)).map fun j=>Ez (l.take (i+2)) j) (m:=nk k) j hj (List.range (l.length-1)) i i (fun i _=>by simp) (by rw[List.getElem?_range hi]);rw[hS]at this;rw[nq,List.getD_eq_getElem?_getD,this,List.getElem?_map,List.getElem?_range hj];rfl
 have nA:∀i,i<l.length-1→∀j,j<nk k→nq (l.flatMap (·.it)++S) (l.length*nk k+(nk k*i+j))=Ez (l.take (i+2)) j:=fun i hi j hj=>by rw[nq_r (J6 hl)];exact nS i hi j hj
 have hA:(l.flatMap (·.it)++S).length=l.length*nk k+(l.length-1)*nk k:=by rw[zR,J6 hl,hlS]
 have mul:∀{a b:Nat},a<b→nk k*a+nk k≤b*nk k:=fun {a b} h=>by have:=Nat.mul_le_mul_left (nk k) (show a+1≤b from h);rwa[Nat.mul_succ,Nat.mul_comm _ b]at this
 have n0:∀j,j<nk k→nq (l.flatMap (·.it)++S) j=Ez (l.take 1) j:=fun j hj=>by
  have:=Mf hl S (zK (show 0<l.length from h1)) hj;rw[Nat.mul_zero,Nat.zero_add]at this;rw[this]
  match l,h1 with
  |v::r,_=>rfl
 have last:∀j,j<nk k→nq (l.flatMap (·.it)++S) (bif Nat.beq l.length 1 then j else l.length*nk k+(nk k*(l.length-2)+j))=Ez l j∧(bif Nat.beq l.length 1 then j else l.length*nk k+(nk k*(l.length-2)+j))<(l.flatMap (·.it)++S).length:=fun j hj=>by
  rw[hA];cases hb:Nat.beq l.length 1 with
  |true=>have e:=zD hb;have:=n0 j hj;rw[List.take_of_length_le (by omega)]at this;refine⟨this,?_⟩;show j<_;rw[e];omega
  |false=>
   have e:l.length≠1:=fun e=>by rw[e]at hb;cases hb
   have:=nA (l.length-2) (by omega) j hj;rw[show l.length-2+2=l.length by omega,List.take_length]at this;refine⟨this,?_⟩;show l.length*nk k+(nk k*(l.length-2)+j)<_;have:=mul (show l.length-2<l.length-1 by omega);omega
 have hw:∀j,j<nk k→PV (Ez l j):=fun j hj=>by have:=Lo hl hj (l.length-1) (by omega);rw[show l.length-1+1=l.length by omega,List.take_length]at this;exact SM this (by omega)
 generalize hr:(List.range' 0 (nk k)).map (Ez l)=rs;have hrl:rs.length=nk k:=by rw[←hr];simp
 have hrn:∀j,j<nk k→nq rs j=Ez l j:=fun j hj=>by rw[←hr,nq,List.getD_eq_getElem?_getD,List.getElem?_map,List.getElem?_range' hj];simp
 have run:=zB.1 (show((flags (nk k)).all _)=true from runsT (sgQ (l.flatMap (·.it)++S)) h1 h4 k) (rs.map CI) (by have:=Ls (rs.map CI);rwa[List.length_map,hrl]at this);rw[←hA]at run;have:=Kt (Ao (fun f hf=>by
  obtain⟨i,hi,hf⟩:=List.mem_flatMap.1 hf;obtain⟨j,hj,rfl⟩:=List.mem_map.1 hf;have hi:=zQ.1 hi;have hj:=zQ.1 hj;have hv:=zK (show i+1<l.length by omega);have e2:=Mf hl S hv hj;have m1:=mul (show i+1<l.length by omega);have m2:=mul hi;have e1:nq (l.flatMap (·.it)++S) (bif Nat.beq i 0 then j else l.length*nk k+(nk k*(i-1)+j))=Ez (l.take (i+1)) j∧(bif Nat.beq i 0 then j else l.length*nk k+(nk k*(i-1)+j))<(l.flatMap (·.it)++S).length:=by
   cases i with
   |zero=>refine⟨n0 j hj,?_⟩;show j<_;rw[hA];omega
   |succ i=>refine⟨nA i (by omega) j hj,?_⟩;show l.length*nk k+(nk k*i+j)<_;have:=mul (show i<l.length-1 by omega);rw[hA];omega
  refine⟨⟨e1.2,by rw[hA];omega,by rw[hA];omega⟩,?_⟩;rw[e1.1,e2,nA i hi j hj,OP hv];exact Acd (Lo hl hj i (by omega)) (by omega) (AaK (hl _ (List.getElem_mem _)) hj).st) fun f hf=>by
  obtain⟨j,hj,rfl⟩:=List.mem_map.1 hf;have hj:=zQ.1 hj;obtain⟨e1,e2⟩:=last j hj;refine⟨e2,?_⟩;rw[e1,S1 rs hrl j hj,hrn j hj];exact⟨hw j hj,rfl⟩) run (S5 hl S) (R:=NR (Cl (totV k l))) (by
  rw[KW,show(rs.map CI).all id=rs.all CI by rw[List.all_map];rfl,show(totV k l).it=rs from hr];cases rs.all CI with
  |true=>
   have:=Qt (A:=l.flatMap (·.it)++S) (sh:=shK k) (is:=tI l.length (nk k)) (d:=k.dm) (l:=rs) (fun i hi=>by
    obtain⟨j,hj,rfl⟩:=List.mem_map.1 hi;exact(last j (by have:=List.mem_range'_1.1 hj;omega)).2) (by
    unfold tI;rw[List.map_map,←hr];exact List.map_congr_left fun j hj=>(last j (by have:=List.mem_range'_1.1 hj;omega)).1)
   rw[←hr]at this;exact this
  |false=>rfl)
 refine⟨this,fun w hw'=>?_⟩;unfold Cl at hw';split at hw'
 ·rename_i hf;cases hw';refine AaN (by rw[hr];exact hrl) (Aba (n:=nk k) (by rw[hr];exact hrl) fun j hj=>?_);rw[hr,hrn j hj];refine⟨zB.1 hf _ ?_,(hw j hj).pos,(hw j hj).cop⟩;exact List.mem_map_of_mem (List.mem_range'_1.2 (by omega))
 ·cases hw'
def TA (l:List Vl):Except Nat Vl:=match l with
 |[]=>.error 13|v::_=>Cl ⟨v.sh,(List.range' 0 v.it.length).map (Ez l),v.dm⟩
theorem Adk {k:Kd}{l:List Vl}(hl:∀v∈l,VOk k v)(h1:1≤l.length):TA l=Cl (totV k l):=by
 match l,h1 with
 |v::r,_=>have h:=(hl v (by simp)).eq;show Cl ⟨v.sh,(List.range' 0 v.it.length).map _,v.dm⟩=_;rw[h.2,show v.sh=shK k from(congrArg Vl.sh h.1).trans rfl,show v.dm=k.dm from(congrArg Vl.dm h.1).trans rfl];rfl
theorem ZY {k:Kd}{l:List Vl}(hl:∀v∈l,VOk k v)(h1:1≤l.length)(h4:l.length≤4):VF 268 [LH l] (NR (TA l))∧∀w,TA l=.ok w→VOk k w:=by rw[Adk hl h1];exact WO hl h1 h4
def sqQ (a:Q):Q:=AB (AB (1,1) a) a
def sqR (u:Vl):Except Nat Vl:=Cl ⟨[],[sqQ (u.it.headD (0,1))],.m2⟩
theorem sq_ok {u:Vl}(hu:VOk .m u):VF 272 [u.av,.int .i64 2] (NR (sqR u))∧∀w,sqR u=.ok w→VOk .m2 w:=by
 obtain⟨a,rfl,oa⟩:=hu.one rfl;have h1:Bu (AB (1,1) a):=WZ oa;have hw:PV (sqQ a):=IV (op:=5) rfl h1 oa.st nofun;have run:=zB.1 (runsW (sgQ [a,AB (1,1) a,sqQ a])) (CI (sqQ a)) (by cases CI (sqQ a)<;>decide);refine⟨Cg (Vc _) (Ao (Ir _) (Aa (Ac (A:=[sr 1,BH a]) (R:=.ret (BH (AB (1,1) a))) ?_ rfl rfl)<|Aa (Ac (G7 2 (by decide)) rfl rfl)<|Aa (Fq.fact (A:=[a,AB (1,1) a,sqQ a]) (f:=.op 5 1 0 2) ⟨⟨by simp,by simp,by simp⟩,Ks h1 oa.st⟩)<|Aa (Fq.fact (A:=[a,AB (1,1) a,sqQ a]) (f:=.rat 2 (CI (sqQ a))) ⟨by simp,hw,rfl⟩) Ad)) run rfl ?_,fun w hw'=>?_⟩
 ·have:=Ks (BN (e:=1) (by decide)).st oa.st;rwa[BP (by decide)]at this
 ·show _=NR (Cl ⟨[],[sqQ a],.m2⟩);rw[KW,show[sqQ a].all CI=CI (sqQ a) by simp];cases CI (sqQ a)<;>rfl
 ·unfold sqR Cl at hw';split at hw'
  ·rename_i hf;cases hw';refine B8 (k:=.m2) rfl ⟨?_,hw.pos,hw.cop⟩;simpa using hf
  ·cases hw'
inductive X where
 |lit (num den:List Nat) (q:Q) (u:Nat)
 |ref (s:List Nat)
 |bin (op:Nat) (a b:X)
 |neg (a:X)
 |sq (a:X)
 |lst (a b c:X)
 |at (a b:X)
 |tab (n:Nat) (a:X)
 |sum (n:Nat) (a:X)
 |ite (a b c d:X)
 |lett (s:List Nat) (a b:X)
 |call (a:X)
def Wm:Nat→List Nat
 |0=>[]|1=>[109]|2=>[107,109]|3=>[115]|_=>[104]
def nmI:List Nat:=[105]
def nmF:List Nat:=[102]
def X.c0:X→AV
 |.lit ..=>.int .i64 0|.ref _=>.int .i64 1|.bin op _ _=>.int .i64 (.ofNat op)|.neg _=>.int .i64 2|.sq _=>.int .i64 7|.lst ..=>.int .i64 8|.at ..=>.int .i64 9|.tab ..=>.int .i64 10|.sum ..=>.int .i64 11|.ite ..=>.int .i64 12|.lett ..=>.int .i64 13|.call _=>.int .i64 14
def X.c1:X→AV
 |.lit p _ _ _=>.str p|_=>.str []
def X.c2:X→AV
 |.lit _ p _ _=>.str p|_=>.str []
def X.c3:X→AV
 |.lit _ _ _ u=>.str (Wm u)|.ref s=>.str s|.tab _ _|.sum _ _=>.str nmI|.lett s _ _=>.str s|.call _=>.str nmF|_=>.str []
def X.c4:X→AV
 |.sq _=>.int .i64 2|.tab n _|.sum n _=>.int .i64 (.ofNat n)|_=>.int .i64 0
def X.c5:X→AV
 |.lit .. | .ref _=>.emp|.bin _ a b|.at a b|.lett _ a b=>.psl [a.c0,a.c1,a.c2,a.c3,a.c4,a.c5,b.c0,b.c1,b.c2,b.c3,b.c4,b.c5] 2 none|.neg a|.sq a|.tab _ a|.sum _ a|.call a=>.psl [a.c0,a.c1,a.c2,a.c3,a.c4,a.c5] 1 none|.lst a b c=>.psl [a.c0,a.c1,a.c2,a.c3,a.c4,a.c5,b.c0,b.c1,b.c2,b.c3,b.c4,b.c5,c.c0,c.c1,c.c2,c.c3,c.c4,c.c5] 3 none|.ite a b c d=>.psl [a.c0,a.c1,a.c2,a.c3,a.c4,a.c5,b.c0,b.c1,b.c2,b.c3,b.c4,b.c5,c.c0,c.c1,c.c2,c.c3,c.c4,c.c5,d.c0,d.c1,d.c2,d.c3,d.c4,d.c5] 4 none
def X.av (x:X):AV:=.agg [x.c0,x.c1,x.c2,x.c3,x.c4,x.c5]
abbrev Pl (x:AV):Prop:=(Au x&&x.cell)=true
theorem X.p0 (x:X):Pl x.c0:=by cases x<;>rfl
theorem X.p1 (x:X):Pl x.c1:=by cases x<;>rfl
theorem X.p2 (x:X):Pl x.c2:=by cases x<;>rfl
theorem X.p3 (x:X):Pl x.c3:=by cases x<;>rfl
theorem X.p4 (x:X):Pl x.c4:=by cases x<;>rfl
theorem Pl.v {x:AV}(h:Pl x):Au x=true:=((zA _ _).mp h).1
theorem X.p5:(x:X)→Pl x.c5
 |.lit .. | .ref _=>rfl|.bin _ a b|.at a b|.lett _ a b=>by have h1:=a.p5.v;have h2:=b.p5.v;simp[Pl,X.c5,Au,Bb,AV.cell,a.p0.v,a.p1.v,a.p2.v,a.p3.v,a.p4.v,h1,b.p0.v,b.p1.v,b.p2.v,b.p3.v,b.p4.v,h2]
 |.neg a|.sq a|.tab _ a|.sum _ a|.call a=>by have h1:=a.p5.v;simp[Pl,X.c5,Au,Bb,AV.cell,a.p0.v,a.p1.v,a.p2.v,a.p3.v,a.p4.v,h1]
 |.lst a b c=>by have h1:=a.p5.v;have h2:=b.p5.v;have h3:=c.p5.v;simp[Pl,X.c5,Au,Bb,AV.cell,a.p0.v,a.p1.v,a.p2.v,a.p3.v,a.p4.v,h1,b.p0.v,b.p1.v,b.p2.v,b.p3.v,b.p4.v,h2,c.p0.v,c.p1.v,c.p2.v,c.p3.v,c.p4.v,h3]
 |.ite a b c d=>by have h1:=a.p5.v;have h2:=b.p5.v;have h3:=c.p5.v;have h4:=d.p5.v;simp[Pl,X.c5,Au,Bb,AV.cell,a.p0.v,a.p1.v,a.p2.v,a.p3.v,a.p4.v,h1,b.p0.v,b.p1.v,b.p2.v,b.p3.v,b.p4.v,h2,c.p0.v,c.p1.v,c.p2.v,c.p3.v,c.p4.v,h3,d.p0.v,d.p1.v,d.p2.v,d.p3.v,d.p4.v,h4]
theorem Pl.sh (l:List Nat):Pl (AA l):=by
 cases l with
 |nil=>rfl|cons a r=>
  have:∀l:List Nat,Bb (l.map fun n=>AV.int .i64 (.ofNat n))=true:=fun l=>by
   induction l with
   |nil=>rfl|cons a r ih=>simpa[Bb,Au]using ih
  have h:=this (a::r);simp only[Pl,AA,Au,h,AV.cell,Bool.and_self]
theorem JA:∀{a b:List AV},Bb a=true→Bb b=true→Bb (a++b)=true
 |[],_,_,h=>h|x::xs,b,h1,h2=>by simp only[Bb,zA]at h1;simp only[List.cons_append,Bb,zA];exact⟨h1.1,JA h1.2 h2⟩
theorem Pl.it (l:List Q):Pl (AQ l):=by
 have:Bb (l.flatMap Ed)=true:=by
  induction l with
  |nil=>rfl|cons a r ih=>rw[List.flatMap_cons];refine JA ?_ ih;have h1:=Ah (Ae a.1.natAbs);have h2:=Ah (Ae a.2.natAbs);simp only[zA]at h1 h2;simp[Ed,Bb,Au,h1.1,h2.1]
 simp[Pl,AQ,Au,AV.cell,this]
theorem Pl.dm (d:Dm):Pl (Ap d):=by cases d<;>rfl
structure En where
 a:Vl
 b:Vl
 c:Vl
 v:Vl
 w:Vl
 f:X
abbrev ME:=List (AV×AV×Nat)
def dmU (s:List Nat):AV:=.psl [.str s,.str [49],.str [49]] 1 none
def AN:ME:=[(.str [109],.agg [.str [109],.str [49],.str [49],dmU [109]],0),(.str [107,109],.agg [.str [107,109],.str [49,48,48,48],.str [49],dmU [109]],0),(.str [115],.agg [.str [115],.str [49],.str [49],dmU [115]],0),(.str [104],.agg [.str [104],.str [51,54,48,48],.str [49],dmU [115]],0),(.str [107,103],.agg [.str [107,103],.str [49],.str [49],dmU [107,103]],0)]
def lwG (st:AV)(own units:AO)(QB names:List AV):OL:=
 [(0,.cells 105 [.ptr 1 0,st,.nils,.func (.func 130) [.ptr 0 0] []]),(1,.cells 202 [.map 3,.sl 4 0 1 11 none,.sl 5 0 5 4 none]),(2,own),(3,units),(4,.cells 285 QB),(5,.cells 204 names)]
def uwG (st:Option AV)(own units:AO)(QB names:List AV):UL:=
 [(0,st.map fun s=>.cells 105 [.ptr 1 0,s,.nils,.func (.func 130) [.ptr 0 0] []]),(1,some (.cells 202 [.map 3,.sl 4 0 1 11 none,.sl 5 0 5 4 none])),(2,some own),(3,some units),(4,some (.cells 285 QB)),(5,some (.cells 204 names))]
def Hd:List AV:=[.int .i64 0,.str nmF,.psl [.str [120]] 1 none,.sel 18,.sel 19,.sel 20,.sel 21,.sel 22,.sel 23,.int .i64 0,.int .i64 5]
def D3:List AV:=[.str [97],.sel 3,.sel 4,.sel 5,.str [98],.sel 6,.sel 7,.sel 8,.str [99],.sel 9,.sel 10,.sel 11,.str [118],.sel 12,.sel 13,.sel 14,.str [119],.sel 15,.sel 16,.sel 17]
def En.QB (e:En):List AV:=[.int .i64 0,.str nmF,.psl [.str [120]] 1 none,e.f.c0,e.f.c1,e.f.c2,e.f.c3,e.f.c4,e.f.c5,.int .i64 0,.int .i64 5]
def En.names (e:En):List AV:=[.str [97],AA e.a.sh,AQ e.a.it,Ap e.a.dm,.str [98],AA e.b.sh,AQ e.b.it,Ap e.b.dm,.str [99],AA e.c.sh,AQ e.c.it,Ap e.c.dm,.str [118],AA e.v.sh,AQ e.v.it,Ap e.v.dm,.str [119],AA e.w.sh,AQ e.w.it,Ap e.w.dm]
def lwA (e:En)(n:Int)(own:ME):OL:=lwG (.int .i64 n) (.map own 0) (.map AN 0) e.QB e.names
def uwA (e:En)(n:Option Int)(own:ME):UL:=uwG (n.map fun n=>.int .i64 n) (.map own 0) (.map AN 0) e.QB e.names
def scA (f:Int):AV:=.agg [.int .i64 f,.int .i64 5,.map 2]
def lwS (st:Nat)(own:AO):OL:=lwG (.sel st) own (.opq 1) Hd D3
def uwS (st:Option Nat)(own:AO):UL:=uwG (st.map .sel) own (.opq 1) Hd D3
abbrev Rs:=Except Nat (Vl×Int)
def resE:Rs→AG
 |.ok (v,_)=>.ret v.av|.error e=>Ho e
def stE:Rs→Option Int
 |.ok (_,n)=>some n|.error _=>none
def Ev (e:En)(f:Int)(own:ME)(n:Int)(x:X)(r:Rs):Prop:=Cm P4 gl5 6 191 [.ptr 0 0,scA f,x.av] (lwA e n own) (resE r) (uwA e (stE r) own)
def Co (e:En)(n:Int)(r:List AV):List AV:=
 Aq 1::Aq 2::Aq (-1)::AA e.a.sh::AQ e.a.it::Ap e.a.dm::AA e.b.sh::AQ e.b.it::Ap e.b.dm::AA e.c.sh::AQ e.c.it::Ap e.c.dm::AA e.v.sh::AQ e.v.it::Ap e.v.dm::AA e.w.sh::AQ e.w.it::Ap e.w.dm::e.f.c0::e.f.c1::e.f.c2::e.f.c3::e.f.c4::e.f.c5::.int .i64 n::.int .i64 (n+1)::r
abbrev Pls (l:List AV):Prop:=(l.all fun x=>Au x&&x.cell)=true
theorem px (x:X){r:List AV}(h:Pls r):Pls (x.c0::x.c1::x.c2::x.c3::x.c4::x.c5::r):=all_cons x.p0<|all_cons x.p1<|all_cons x.p2<|all_cons x.p3<|all_cons x.p4<|all_cons x.p5 h
theorem pv (v:Vl){r:List AV}(h:Pls r):Pls (AA v.sh::AQ v.it::Ap v.dm::r):=all_cons (Pl.sh _)<|all_cons (Pl.it _)<|all_cons (Pl.dm _) h
theorem pi (n:Int){r:List AV}(h:Pls r):Pls (.int .i64 n::r):=all_cons rfl h
theorem ps (s:List Nat){r:List AV}(h:Pls r):Pls (.str s::r):=all_cons rfl h
theorem KY (e:En)(n:Int){r:List AV}(h:Pls r):Pls (Co e n r):=ps _<|ps _<|ps _<|pv _<|pv _<|pv _<|pv _<|pv _<|px _<|pi _<|pi _ h
def A9 (b:Bool):List NB:=[⟨.add,.sel 24,.int .i64 1,.sel 25⟩,⟨.gtr,.sel 25,.int .i64 5000,.bool b⟩]
theorem step_ok {e:En}{n:Int}{r:List AV}{b:Bool}(h0:0≤n)(h1:n≤5000)(hb:decide (5000<n+1)=b):∀q∈A9 b,Dg (Ag (Co e n r)) q:=
 Aa (Bt n 1 (n+1) rfl rfl rfl rfl (by unfold wrap64;omega))<|Aa (Cc (n+1) 5000 rfl rfl rfl (by simp only[Bv,inst,decide_true,cond_true,gt_iff_lt];rw[hb])) Ad
noncomputable def Cx (l:List AV)(mu:List ME)(facts:List OF)(bins:List NB)(f:Int)(c:List AV)(own:AO)(res:AG)(st:Option Nat):Bool:=
 facts.all (fun q=>BU q.N q.args q.l q.res q.u)&&BO (F9 l mu facts bins [] []) 4000 80 6 191 [.ptr 0 0,scA f,.agg c] (lwS 24 own) res (uwS st own)
def AU (own:ME):Prop:=(EI own&&C9 0 own)=true
theorem Cd {own:ME}(h:AU own):(([own,AN]:List ME).all fun es=>EI es&&C9 0 es)=true:=all_cons h rfl
theorem AL {e:En}{n:Int}{own:ME}{r:List AV}(ho:AU own)(hl:Pls r){facts:List OF}{bins:List NB}{f:Int}{c:List AV}{ao:AO}{res:AG}{st:Option Nat}{x:X}{R:Rs}
 (hr:Cx (Co e n r) [own,AN] facts bins f c ao res st=true) (hf:∀q∈facts,Bx (Ag (Co e n r)) (mpL [own,AN]) q) (hb:∀q∈bins,Dg (Ag (Co e n r)) q)
 (h1:Ai (Ag (Co e n r)) noT [.ptr 0 0,scA f,.agg c]=[.ptr 0 0,scA f,x.av]) (h2:DD (Ag (Co e n r)) noT (mpL [own,AN]) (lwS 24 ao)=lwA e n own) (h3:Bi (Ag (Co e n r)) noT res=resE R) (h4:Dk (Ag (Co e n r)) noT (mpL [own,AN]) (uwS st ao)=uwA e (stE R) own):Ev e f own n x R:=by
 unfold Cx at hr;simp only[zA]at hr;have:=Gl (KY e n hl) (Cd ho) hr.1 hf hb Ad Ad hr.2;rw[h1,h2,h3,h4]at this;exact this
def evF (f:Int)(k i:Nat)(own:AO)(res:AG)(st:Option Nat):OF:=⟨191,6,[.ptr 0 0,scA f,.agg [.sel k,.sel (k+1),.sel (k+2),.sel (k+3),.sel (k+4),.sel (k+5)]],lwS i own,res,uwS st own⟩
def Bl (k:Nat):AG:=.pan [(.iface 168 (.agg [.sel k]),false)]
def Bp (k:Nat):AG:=.ret (.agg [.sel k,.sel (k+1),.sel (k+2)])
end Go.Ev
end
