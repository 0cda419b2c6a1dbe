/- What the reference's numbers as texts are compared, multiplied, divided to; no condition but the numbers' bounds. -/
import Derived.Test.YtecmlmofhabonaaGreatDoorITab
import Derived.Shelf.Strconv.Atoi
import Derived.RangeFuncNested
import Derived.RangeFuncBound
import Derived.Shelf.RegionOpen
import Derived.OwnWalkIn
import Derived.LoopNIn
import Derived.LoopIn
import Derived.Lib.AtoiErrMem
import Derived.Deep.Upon
noncomputable section
namespace Go.Nb
open Go Go.Ab Go.Nl Go.RowKit Go.Proofs Go.E4
set_option maxRecDepth 1000000
theorem Nt {l:List UInt8}(hc:∀d∈l,48≤d.toNat∧d.toNat≤57)(pos:Nat)(hp:pos<(ByteArray.mk l.toArray).size) :
 48≤((ByteArray.mk l.toArray)[pos]'hp).toNat∧((ByteArray.mk l.toArray)[pos]'hp).toNat≤57:=by
 refine hc _ ?_;show(l.toArray[pos]'hp)∈l;simp
end Go.Nb
namespace Go.Nb
open Go Go.Ab Go.Nl Go.RowKit Go.Proofs Go.E4
def IsD (d:UInt8):Prop:=48≤d.toNat∧d.toNat≤57
theorem Zp {u:Nat}(h:u<10):IsD (UInt8.ofNat (48+u)):=by
 have:(UInt8.ofNat (48+u)).toNat=48+u:=by rw[UInt8.toNat_ofNat'];omega
 unfold IsD;omega
theorem WI (u:Nat):∀d∈Lib.decDigits u,IsD d:=by
 induction u using Nat.strongRecOn with
 |_ u ih=>
  intro d hd;rw[Lib.decDigits]at hd;split at hd
  ·rename_i h;rw[List.mem_singleton]at hd;subst hd;exact Zp h
  ·rename_i h;rcases List.mem_append.1 hd with hd|hd
   ·exact ih (u/10) (by omega) d hd
   ·rw[List.mem_singleton]at hd;subst hd;exact Zp (by omega)
theorem Y9 (u:Nat):∃c l,Lib.decDigits u=c::l∧(c=48→u=0):=by
 induction u using Nat.strongRecOn with
 |_ u ih=>
  rw[Lib.decDigits];split
  ·rename_i h;refine⟨_,[],rfl,fun e=>?_⟩;have h1:(UInt8.ofNat (48+u)).toNat=48+u:=by rw[UInt8.toNat_ofNat'];omega
   rw[e]at h1;have:(48:UInt8).toNat=48:=rfl;omega
  ·rename_i h;obtain⟨c,l,h1,h2⟩:=ih (u/10) (by omega);rw[h1];refine⟨c,l++[_],rfl,fun e=>?_⟩;have:=h2 e;omega
theorem Lh (n:Nat):Lib.repeatL [48] n=List.replicate n 48:=by
 induction n with
 |zero=>rfl|succ n ih=>rw[List.replicate_succ,←ih];simp[Lib.repeatL]
theorem Adm (d:Nat):∀x∈DJ d,IsD x:=by
 intro x hx;unfold DJ at hx;rw[Lh]at hx;rcases List.mem_append.1 hx with hx|hx
 ·rw[(List.mem_replicate.1 hx).2];unfold IsD;decide
 ·exact WI d x hx
theorem AdP {d:Nat}(h:d<B):(DJ d).length=9:=by have:=FI (n:=d) (k:=9) (by decide) h;unfold DJ;rw[Lh,zR,List.length_replicate];omega
theorem WG (ds:List Nat):∀i,∀x∈Ch ds i,IsD x
 |0,x,hx=>by cases hx
 |i+1,x,hx=>by
  rcases List.mem_append.1 hx with hx|hx
  ·exact Adm _ x hx
  ·exact WG ds i x hx
theorem Mb {ds:List Nat}(h:∀d∈ds,d<B):∀i,(Ch ds i).length=9*i
 |0=>rfl|i+1=>by show(DJ _++Ch ds i).length=_;rw[zR,AdP (AP h i),Mb h i];omega
theorem NN {k:Nat}{z:Int}(hz:Fits k z)(hk:1≤k):∃c l,Bk z=(if z<0 then[45] else[])++c::l∧(∀d∈c::l,IsD d)∧(c=48→z=0∧l=[])∧(c::l).length≤9*k:=by
 by_cases h0:z=0
 ·subst h0;exact⟨48,[],rfl,by intro d hd;rw[List.mem_singleton]at hd;subst hd;unfold IsD;decide,fun _=>⟨rfl,rfl⟩,by simp;omega⟩
 ·have hds:=Ct z.natAbs;have hlen:(Ae z.natAbs).length≤k:=hz;have hpos:=JS h0;have hlast:=IY z.natAbs;have htop:(Ae z.natAbs).getD ((Ae z.natAbs).length-1) 0≠0:=by intro e;apply hlast;rw[List.getLast?_eq_getElem?];rw[List.getD_eq_getElem?_getD]at e;rw[zK (by omega)]at e ⊢;exact congrArg some e
  unfold Bk;rw[if_neg h0];generalize Ae z.natAbs=ds at *;obtain⟨c,l,h1,h2⟩:=Y9 (ds.getD (ds.length-1) 0);have hL:=FI (n:=ds.getD (ds.length-1) 0) (k:=9) (by decide) (AP hds _);have hD:=WI (ds.getD (ds.length-1) 0);rw[h1]at hL hD ⊢;refine⟨c,l++Ch ds (ds.length-1),rfl,?_,fun e=>absurd (h2 e) htop,?_⟩
  ·intro d hd;rw[←List.cons_append]at hd;rcases List.mem_append.1 hd with hd|hd
   ·exact hD d hd
   ·exact WG _ _ _ hd
  ·rw[←List.cons_append,zR,Mb hds];omega
theorem GO {k:K}{w:World}{l:List UInt8}{v:Value}(h:VR k w (.str (l.map UInt8.toNat)) v):v=.string { data:=l.toArray }:=by
 simp only[VR]at h;obtain⟨s,rfl,hs⟩:=h;have:s.data.toList=l:=by
  refine List.map_inj_right (f:=UInt8.toNat) ?_ |>.1 ?_
  ·intro x y h;exact UInt8.toNat_inj.1 h
  ·simpa using hs
 rw[←this]
inductive Says:List (List UInt8)→List Nat→Prop
 |nil:Says [] []
 |cons {c:List UInt8} {n:Nat} {cs:List (List UInt8)} {ks:List Nat} (ha:Lib.atoi c=some (n:Int)) (hn:n<B) (h:Says cs ks):Says (c::cs) (n::ks)
def FK (z:Int):List UInt8:=if z=0 then[48] else Lib.decDigits ((Ae z.natAbs).getD ((Ae z.natAbs).length-1) 0)++Ch (Ae z.natAbs) ((Ae z.natAbs).length-1)
end Go.Nb
namespace Go.Nb
open Go Go.Ab Go.Nl Go.RowKit Go.Proofs Go.E4 Go.Shelf
set_option maxRecDepth 1000000
attribute [local go_sem] Oper.semAt_some
structure ReadSt (w:World)(rc:Loop)(r:List UInt8)(ys:List Nat)(W:World):Prop where
 text:Boxed W (w.heap.size+2) 9 (.string { data:=r.toArray })
 row:∃v,Boxed W (w.heap.size+1) 147 v∧W.ownsRow w.heap.size 268 1 v ys.length (ys.map fun (d:Nat)=>.int .u32 (d:Int))
 res:W.heap[w.heap.size]?=some (.cells #[.int .i64 0,.slice none 0 0] 149 (0,0))
 loop:W.heap[w.heap.size+4]?=some (.loop rc)
 defs:W.heap[w.heap.size+3]?=some (.deferred (some []))
 below:Below w.heap.size w W
theorem WX {W W':World}{base:Nat}{e:TypeId}{size:Nat}{v:Value}{k:Nat}{xs:List Value}(h:W.ownsRow base e size v k xs)(hk:∀g,some g=v.ownBlock→W'.heap[g]?=W.heap[g]?):W'.ownsRow base e size v k xs:=by
 obtain⟨h1,h2⟩:=h;refine⟨h1,?_⟩;rcases h2 with h2|⟨g,cap,cur,rfl,q1,q2,q3⟩
 ·exact .inl h2
 ·exact .inr ⟨g,cap,cur,rfl,q1,by rw[hk g rfl];exact q2,q3⟩
theorem Gz {W:World}{base:Nat}{e:TypeId}{size:Nat}{v:Value}{k:Nat}{xs:List Value}(h:W.ownsRow base e size v k xs):∀g,some g=v.ownBlock→g<W.heap.size:=by
 intro g hg;rcases h.2 with⟨rfl,_⟩|⟨b,cap,cur,rfl,q1,q2,q3⟩
 ·cases hg
 ·obtain rfl:g=b:=by simpa[Value.ownBlock]using hg
  exact(Array.getElem?_eq_some_iff.1 q2).1
variable {w W:World}{rc:Loop}{r:List UInt8}{ys:List Nat}
theorem St (r:List UInt8)(a:Nat):({ data:=r.toArray } : ByteArray).extract a r.length = { data:=(r.drop a).toArray }:=by rw[Lib.extract_eq];congr 2;exact List.take_of_length_le (by simp)
theorem Ym (r:List UInt8)(a:Nat):({ data:=r.toArray } : ByteArray).extract 0 a = { data:=(r.take a).toArray }:=by rw[Lib.extract_eq];rfl
theorem E1:(Tryz.prog.info? 268).map (fun i=>(i.zero,i.size,i.bytes))=some (some (.int .u32 0),1,4):=by kernel_rfl
end Go.Nb
namespace Go.Nb
open Go Go.Ab Go.Nl Go.RowKit Go.Proofs Go.E4
theorem Lg (z:Int):Bk z=bif decide (z<0) then 45::FK z else FK z:=by
 unfold Bk FK;by_cases h0:z=0
 ·subst h0;rfl
 ·by_cases h1:z<0
  ·simp[h0,h1]
  ·simp[h0,h1]
end Go.Nb
namespace Go.Nb
open Go Go.Ab Go.Nl Go.RowKit Go.Proofs Go.E4
set_option maxRecDepth 1000000
theorem AcU (c:UInt8)(n:Nat)(hn:n<256):(((c.toNat:Int)==(n:Int)):Bool)=(c==UInt8.ofNat n):=by
 rw[Bool.eq_iff_iff];simp only[beq_iff_eq];constructor
 ·intro h;apply UInt8.toNat_inj.1;rw[UInt8.toNat_ofNat'];omega
 ·rintro rfl;rw[UInt8.toNat_ofNat'];omega
def I7 (s:List UInt8):Bool:=s.head?==some 45
def BD (s:List UInt8):List UInt8:=bif I7 s then s.drop 1 else s
theorem Dh (s:List UInt8)(w:World):Calls Tryz.prog 141 #[.string { data:=s.toArray }] w (fun e w'=>e=.returned (.bool (I7 s))∧w'=w):=by
 cases s with
 |nil=>
  go_enter Tryz.func141,Tryz.ntmps141
  go_wp2
  go_ret
  exact⟨rfl,rfl⟩
 |cons c s=>
  have h0:∀h,(({ data:=(c::s).toArray } : ByteArray)[0]'h)=c:=fun _=>rfl
  have hs:({ data:=(c::s).toArray } : ByteArray).size=s.length+1:=by show(c::s).toArray.size=_;simp
  go_enter Tryz.func141,Tryz.ntmps141
  go_wp2
  go_ret
  refine⟨?_,rfl⟩;show Ending.returned (.bool _)=_;rw[show((c.toNat:Int)==45)=_ from AcU c 45 (by decide)];rfl
theorem Eb (s:List UInt8)(w:World):Calls Tryz.prog 143 #[.string { data:=s.toArray }] w (fun e w'=>e=.returned (.string { data:=(BD s).toArray })∧w'=w):=by
 have key:∀b:Bool,I7 s=b→Calls Tryz.prog 143 #[.string { data:=s.toArray }] w (fun e w'=>e=.returned (.string { data:=(BD s).toArray })∧w'=w):=fun b hb=>by
  cases b with
  |false=>
   go_enter Tryz.func143,Tryz.ntmps143
   go_wp2_with fail
   refine(Dh s _).mono ?_;rintro e w1 ⟨rfl,rfl⟩;rw[hb]
   go_wp2
   go_ret
   exact⟨by unfold BD;rw[hb];rfl,rfl⟩
  |true=>
   match s,hb with
   |c::s,hb=>
    have hs:({ data:=(c::s).toArray } : ByteArray).size=s.length+1:=by show(c::s).toArray.size=_;simp
    go_enter Tryz.func143,Tryz.ntmps143
    go_wp2_with fail
    refine(Dh (c::s) _).mono ?_;rintro e w1 ⟨rfl,rfl⟩;rw[hb]
    go_wp2
    go_ret
    refine⟨?_,rfl⟩;show Ending.returned (.string _)=_;rw[show({ data:=(c::s).toArray } : ByteArray).extract 1 (s.length+1) = { data:=s.toArray } from St (c::s) 1];unfold BD;rw[hb];rfl
 exact key _ rfl
set_option maxHeartbeats 2000000 in
theorem Zv (c:UInt8)(l:List UInt8)(hc:∀d∈c::l,48≤d.toNat∧d.toNat≤57)(hz:c=48→l=[])(hl:l.length<1000000)(w:World):Calls Tryz.prog 284 #[.string { data:=(c::l).toArray }] w (fun e w'=>e=.returned (.bool true)∧w'=w):=by
 have h0:∀h,(({ data:=(c::l).toArray } : ByteArray)[0]'h)=c:=fun _=>rfl
 have hs:({ data:=(c::l).toArray } : ByteArray).size=l.length+1:=by show(c::l).toArray.size=_;simp
 have hcw:=Nt hc;have kz:(((l.length:Int)+1==0):Bool)=false:=by rw[beq_eq_false_iff_ne];omega
 have k0:1<(l.length:Int)+1→(((c.toNat:Int)==48):Bool)=false:=fun h=>by rw[beq_eq_false_iff_ne];intro e;have:=hz (UInt8.toNat_inj.1 (by show c.toNat=48;omega));subst this;simp at h
 go_enter Tryz.func284,Tryz.ntmps284
 by_cases h1:1<(l.length:Int)+1;all_goals
  first
   |replace k0:=k0 h1
   |clear k0
  go_wp2
  go_loopw [3] (fun si wr=>∃i:Nat,i≤l.length+1∧si=.int .i64 i∧wr=w) (fun si _=>l.length+1-(intOf si).toNat)
  case atStart=>exact⟨0,Nat.zero_le _,rfl,rfl⟩
  case round=>
   obtain⟨i,hi,rfl,rfl⟩:=hrel;by_cases hp:i<l.length+1
   ·obtain⟨g1,g2⟩:=hcw i (by rw[hs];exact hp);have hg:∀h,(({ data:=(c::l).toArray } : ByteArray)[i]'h).toNat=(({ data:=(c::l).toArray } : ByteArray)[i]'(by rw[hs];exact hp)).toNat:=fun _=>rfl
    generalize (({ data:=(c::l).toArray } : ByteArray)[i]'(by rw[hs];exact hp)).toNat=n at *;have k1:decide ((n:Int)<48)=false:=zL (by omega);have k2:decide ((57:Int)<n)=false:=zL (by omega)
    go_wp2
    exact⟨⟨i+1,by omega,by simp,trivial⟩,by simp[intOf];omega⟩
   ·go_wp2
    go_ret
    exact⟨rfl,rfl⟩
structure Form (s:List UInt8):Prop where
 abs:∃c l,BD s=c::l∧(∀d∈c::l,48≤d.toNat∧d.toNat≤57)∧(c=48→l=[])
 no:s≠[45,48]
 len:s.length<1000000
theorem VT (s:List UInt8):(BD s).length≤s.length:=by
 unfold BD;cases I7 s with
 |false=>exact zI _|true=>simp
theorem Aax {s:List UInt8}(h:Form s)(w:World):Calls Tryz.prog 208 #[.string { data:=s.toArray }] w (fun e w'=>e=.returned (.bool true)∧w'=w):=by
 obtain⟨c,l,h1,h2,h3⟩:=h.abs;have hl:=VT s;have hl2:=h.len;rw[h1]at hl
 go_enter Tryz.func208,Tryz.ntmps208
 go_wp2_with fail
 refine(Eb s _).mono ?_;rintro e w1 ⟨rfl,rfl⟩;rw[h1]
 go_wp2_with fail
 refine(Zv c l h2 h3 (by simp at hl;omega) _).mono ?_;rintro e w2 ⟨rfl,rfl⟩
 go_wp2
 go_ret
 refine⟨?_,rfl⟩;show Ending.returned (.bool (!(s==[45,48])))=_;rw[beq_eq_false_iff_ne.2 h.no];rfl
theorem AbT {s:List UInt8}(h:Form s)(hl:(BD s).length≤400)(w:World):Calls Tryz.prog 140 #[.string { data:=s.toArray }] w (fun e w'=>e=.returned (.int .i64 0)∧w'=w):=by
 have hs:({ data:=(BD s).toArray } : ByteArray).size=(BD s).length:=by show(BD s).toArray.size=_;simp
 go_enter Tryz.func140,Tryz.ntmps140
 go_wp2_with fail
 refine(Aax h _).mono ?_;rintro e w1 ⟨rfl,rfl⟩
 go_wp2_with fail
 refine(Eb s _).mono ?_;rintro e w2 ⟨rfl,rfl⟩
 go_wp2
 go_ret
 exact⟨rfl,rfl⟩
def AT (l:List UInt8):Nat:=l.foldl (fun n d=>10*n+(d.toNat-48)) 0
theorem KZ (l:List UInt8)(d:UInt8):AT (l++[d])=10*AT l+(d.toNat-48):=by simp[AT]
theorem XU {l:List UInt8}{i:Nat}(hi:i<l.length):AT (l.take (i+1))=10*AT (l.take i)+(l[i].toNat-48):=by rw[List.take_add_one,zK hi];exact KZ _ _
theorem Mj:∀{n:Nat} {l:List UInt8},l.length=n→(∀d∈l,d.toNat≤57)→AT l<10^n
 |0,[],_,_=>by decide
 |n+1,l,hl,h=>by
  have hne:l≠[]:=by intro e;subst e;simp at hl
  rw[←List.dropLast_concat_getLast hne,KZ,Nat.pow_succ];have h1:=Mj (n:=n) (l:=l.dropLast) (by simp;omega) (fun d hd=>h d (List.dropLast_subset _ hd));have h2:=h _ (List.getLast_mem hne);omega
def OU (s:List UInt8):Int:=bif I7 s then -(AT (BD s):Int) else(AT (BD s):Int)
theorem WA {s:List UInt8}(h:Form s)(hl:(BD s).length≤15)(w:World):Calls Tryz.prog 210 #[.string { data:=s.toArray }] w (fun e w'=>e=.returned (.tuple #[.int .i64 (OU s),.bool true])∧w'=w):=by
 obtain⟨c,l,h1,h2,h3⟩:=h.abs;have hs:({ data:=(BD s).toArray } : ByteArray).size=(BD s).length:=by show(BD s).toArray.size=_;simp
 have hcw:=Nt (l:=BD s) (by rw[h1];exact h2);have hlt:∀i,i≤(BD s).length→AT ((BD s).take i)<10^15:=fun i hi=>Nat.lt_of_lt_of_le (Mj (n:=i) (by simp;omega) (fun d hd=>(h2 d (by rw[←h1];exact List.mem_of_mem_take hd)).2)) (Nat.pow_le_pow_right (by decide) (by omega))
 have hst:∀i (hi:i<(BD s).length),AT ((BD s).take (i+1))=10*AT ((BD s).take i)+((BD s)[i].toNat-48):=fun i hi=>XU hi
 have hfin:AT ((BD s).take (BD s).length)=AT (BD s):=by rw[List.take_length]
 clear h1 h2 h3
 go_enter Tryz.func210,Tryz.ntmps210
 go_wp2_with fail
 refine(Eb s _).mono ?_;rintro e w1 ⟨rfl,rfl⟩
 go_wp2_with fail
 refine(Aax h _).mono ?_;rintro e w2 ⟨rfl,rfl⟩;have hneg:OU s=bif I7 s then -(AT (BD s):Int) else(AT (BD s):Int):=rfl
 generalize hA:BD s=A at *
 go_wp2
 go_loopw [5,6] (fun nn si wr=>∃i:Nat,i≤A.length∧nn=.int .i64 ((AT (A.take i):Nat):Int)∧si=.int .i64 i∧wr=w2) (fun _ si _=>A.length-(intOf si).toNat)
 case atStart=>exact⟨0,Nat.zero_le _,rfl,rfl,rfl⟩
 case round=>
  obtain⟨i,hi,rfl,rfl,rfl⟩:=hrel;have hlti:=hlt i hi;by_cases hp:i<A.length
  ·obtain⟨g1,g2⟩:=hcw i (by rw[hs];exact hp);have hsti:=hst i hp;have hlt2:=hlt (i+1) hp;have hg:∀h,(({ data:=A.toArray } : ByteArray)[i]'h)=A[i]:=fun _=>by show A.toArray[i]=_;simp
   rw[hg]at g1 g2;generalize hd0:A[i]=d at *;generalize hD:d.toNat=n at *;generalize AT (A.take i)=v at *
   go_wp2
   exact⟨⟨i+1,hp,by rw[hsti];congr 1;omega,by simp,trivial⟩,by simp[intOf];omega⟩
  ·have:i=A.length:=by omega
   subst this;rw[hfin]at *;cases hb:I7 s with
   |false=>
    go_wp2_with fail
    refine(Dh s _).mono ?_;rintro e w3 ⟨rfl,rfl⟩;rw[hb]
    go_wp2
    refine bodyPost_ret (v:=.tuple #[.int .i64 ((AT A:Nat):Int),.bool true]) (by simp[results,Tryz.results210,go_sem]) rfl ⟨?_,rfl⟩;rw[hneg,hb];rfl
   |true=>
    go_wp2_with fail
    refine(Dh s _).mono ?_;rintro e w3 ⟨rfl,rfl⟩;rw[hb]
    go_wp2
    refine bodyPost_ret (v:=.tuple #[.int .i64 (-((AT A:Nat):Int)),.bool true]) (by simp[results,Tryz.results210,go_sem]) rfl ⟨?_,rfl⟩;rw[hneg,hb];rfl
def CZ (a b:List UInt8):Bool:=decide ((BD a).length≤9)&&decide ((BD b).length≤9)
theorem VJ (s:List UInt8):s.length≤(BD s).length+1:=by
 unfold BD;cases I7 s with
 |false=>exact Nat.le_succ _|true=>simp;omega
set_option maxHeartbeats 2000000 in
theorem Dz {a b:List UInt8}(ha:Form a)(hb:Form b)(w:World):Calls Tryz.prog 144 #[.string { data:=a.toArray },.string { data:=b.toArray }] w (fun e w'=>e=.returned (bif CZ a b then .tuple #[.int .i64 (OU a),.int .i64 (OU b),.bool true] else .tuple #[.int .i64 0,.int .i64 0,.bool false])∧w'=w):=by
 have l1:=VJ a;have l2:=VJ b;have m1:=ha.len;have m2:=hb.len;have sa:({ data:=a.toArray } : ByteArray).size=a.length:=by show a.toArray.size=_;simp
 have sb:({ data:=b.toArray } : ByteArray).size=b.length:=by show b.toArray.size=_;simp
 have sc:({ data:=(BD a).toArray } : ByteArray).size=(BD a).length:=by show(BD a).toArray.size=_;simp
 have sd:({ data:=(BD b).toArray } : ByteArray).size=(BD b).length:=by show(BD b).toArray.size=_;simp
 by_cases h1:10<(a.length:Int)
 ·have hs:CZ a b=false:=by unfold CZ;rw[Bool.and_eq_false_iff];exact .inl (zL (by omega))
  go_enter Tryz.func144,Tryz.ntmps144
  go_wp2
  exact bodyPost_ret (v:=.tuple #[.int .i64 0,.int .i64 0,.bool false]) (by simp[results,Tryz.results144,go_sem]) rfl ⟨by first|rfl|(rw[hs];rfl),rfl⟩
 by_cases h2:10<(b.length:Int)
 ·have hs:CZ a b=false:=by unfold CZ;rw[Bool.and_eq_false_iff];exact .inr (zL (by omega))
  go_enter Tryz.func144,Tryz.ntmps144
  go_wp2
  exact bodyPost_ret (v:=.tuple #[.int .i64 0,.int .i64 0,.bool false]) (by simp[results,Tryz.results144,go_sem]) rfl ⟨by first|rfl|(rw[hs];rfl),rfl⟩
 by_cases h3:9<((BD a).length:Int)
 ·have hs:CZ a b=false:=by unfold CZ;rw[Bool.and_eq_false_iff];exact .inl (zL (by omega))
  go_enter Tryz.func144,Tryz.ntmps144
  go_wp2_with fail
  refine(Eb a _).mono ?_;rintro e w1 ⟨rfl,rfl⟩
  go_wp2
  exact bodyPost_ret (v:=.tuple #[.int .i64 0,.int .i64 0,.bool false]) (by simp[results,Tryz.results144,go_sem]) rfl ⟨by first|rfl|(rw[hs];rfl),rfl⟩
 by_cases h4:9<((BD b).length:Int)
 ·have hs:CZ a b=false:=by unfold CZ;rw[Bool.and_eq_false_iff];exact .inr (zL (by omega))
  go_enter Tryz.func144,Tryz.ntmps144
  go_wp2_with fail
  refine(Eb a _).mono ?_;rintro e w1 ⟨rfl,rfl⟩
  go_wp2_with fail
  refine(Eb b _).mono ?_;rintro e w2 ⟨rfl,rfl⟩
  go_wp2
  exact bodyPost_ret (v:=.tuple #[.int .i64 0,.int .i64 0,.bool false]) (by simp[results,Tryz.results144,go_sem]) rfl ⟨by first|rfl|(rw[hs];rfl),rfl⟩
 have hs:CZ a b=true:=by unfold CZ;rw[zA];exact⟨decide_eq_true (by omega),decide_eq_true (by omega)⟩
 go_enter Tryz.func144,Tryz.ntmps144
 go_wp2_with fail
 refine(Eb a _).mono ?_;rintro e w1 ⟨rfl,rfl⟩
 go_wp2_with fail
 refine(Eb b _).mono ?_;rintro e w2 ⟨rfl,rfl⟩
 go_wp2_with fail
 refine(WA ha (by omega) _).mono ?_;rintro e w3 ⟨rfl,rfl⟩
 go_wp2_with fail
 refine(WA hb (by omega) _).mono ?_;rintro e w4 ⟨rfl,rfl⟩
 go_wp2
 exact bodyPost_ret (v:=.tuple #[.int .i64 (OU a),.int .i64 (OU b),.bool true]) (by simp[results,Tryz.results144,go_sem]) rfl ⟨by first|rfl|(rw[hs];rfl),rfl⟩
def SI (w:World)(ds:List Nat)(v:Value):Prop:=
 ∃A c,v=.slice A ds.length c∧ds.length≤c∧(0<ds.length→∃b o,A=some ⟨b,o,none⟩ ∧b<w.heap.size∧∀i,i<ds.length→w.cell? ⟨b,o+i,none⟩=some (.int .i64 ((ds.getD i 0:Nat):Int)))
theorem SI.mono {w w':World}{ds:List Nat}{v:Value}(h:SI w ds v)(hb:Below w.heap.size w w'):SI w' ds v:=by obtain⟨A,c,e,h1,h2⟩:=h;refine⟨A,c,e,h1,fun h0=>?_⟩;obtain⟨b,o,e2,h3,h4⟩:=h2 h0;exact⟨b,o,e2,by have:=hb.size;omega,fun i hi=>by rw[hb.cell (p:=⟨b,o+i,none⟩) h3];exact h4 i hi⟩
def SF (N:Nat):Value→Prop
 |.slice (some p) (_+1) _=>N≤p.block|_=>True
theorem Wx {N n m c:Nat}{A:Option Addr}(h:SF N (.slice A n c))(hm:m≤n):SF N (.slice A m c):=by
 cases m with
 |zero=>cases A<;>trivial
 |succ m=>
  cases n with
  |zero=>omega|succ n=>cases A with
   |none=>trivial|some p=>exact h
theorem SF.up {N M:Nat}{v:Value}(h:SF N v)(hm:M≤N):SF M v:=by
 unfold SF at h ⊢;split at h
 ·exact zM hm h
 ·trivial
theorem TY (l:List Nat):trim (l++[0])=trim l:=by
 induction l with
 |nil=>rfl|cons d l ih=>simp only[List.cons_append,trim,ih]
theorem Xl {l:List Nat}{d:Nat}(h:d≠0):trim (l++[d])=l++[d]:=by
 induction l with
 |nil=>simp[trim,h]|cons e l ih=>simp only[List.cons_append,trim,ih];cases h:l++[d] with
  |nil=>simp at h|cons a b=>rfl
theorem IE {ds:List Nat}{n:Nat}(h:n<ds.length):ds.take (n+1)=ds.take n++[ds.getD n 0]:=by rw[List.take_add_one,zK h,List.getD,zK h];rfl
def lenV:Value→Nat
 |.slice _ n _=>n|_=>0
set_option maxHeartbeats 2000000 in
theorem MP {ds:List Nat}{v:Value}{w:World}(hv:SI w ds v)(hl:ds.length<1000000):Calls Tryz.prog 211 #[v] w (fun e w'=>(∃v',e=.returned v'∧SI w (trim ds) v'∧∀N,SF N v→SF N v')∧w'=w):=by
 obtain⟨A,c,rfl,h1,h2⟩:=hv;have htr:∀n,n<ds.length→trim (ds.take (n+1))=if ds.getD n 0=0 then trim (ds.take n) else ds.take (n+1):=fun n hn=>by
  rw[IE hn];by_cases h0:ds.getD n 0=0
  ·rw[if_pos h0,h0,TY]
  ·rw[if_neg h0,Xl h0]
 have fin:∀n,n≤ds.length→trim ds=ds.take n→∀A',(0<n→A'=A)→SI w (trim ds) (.slice A' n c):=fun n hn ht A' hA=>by rw[ht];refine⟨A',c,by rw[List.length_take,Nat.min_eq_left hn],by rw[List.length_take];omega,fun h0=>?_⟩;rw[List.length_take,Nat.min_eq_left hn]at h0 ⊢;obtain⟨b,o,e,q1,q2⟩:=h2 (by omega);refine⟨b,o,by rw[hA h0,e],q1,fun i hi=>?_⟩;rw[q2 i (by omega),List.getD,List.getD,List.getElem?_take_of_lt hi]
 have hfull:trim ds=trim (ds.take ds.length):=by rw[List.take_length]
 generalize hL:ds.length=L at *
 go_enter Tryz.func211,Tryz.ntmps211
 go_wp2
 go_loopw [0] (fun lv wr=>∃n:Nat,n≤L∧lv=.slice A n c∧trim ds=trim (ds.take n)∧wr=w) (fun lv _=>lenV lv)
 case atStart=>exact⟨L,zI _,rfl,hfull,rfl⟩
 case round=>
  obtain⟨n,hn,rfl,ht,rfl⟩:=hrel;cases n with
  |zero=>
   go_wp2
   go_ret
   exact⟨⟨_,rfl,fin 0 hn (by rw[ht];rfl) A (fun _=>rfl),fun N h=>Wx h hn⟩,rfl⟩
  |succ n=>
   obtain⟨b,o,rfl,q1,q2⟩:=h2 (by omega);have hc:=q2 n (by omega);have hs:=htr n hn;generalize ds.getD n 0=d at *;by_cases h0:d=0
   ·subst h0;rw[if_pos rfl]at hs
    go_wp2
    exact⟨⟨n,by omega,rfl,by rw[ht,hs],trivial⟩,by simp[lenV]⟩
   ·rw[if_neg h0]at hs;have k:(((d:Nat):Int)==0)=false:=by rw[beq_eq_false_iff_ne];omega
    go_wp2
    go_ret
    exact⟨⟨_,rfl,fin (n+1) hn (by rw[ht,hs]) _ (fun _=>rfl),fun N h=>Wx h hn⟩,rfl⟩
def Av:List Nat→Nat
 |[]=>0|x::l=>x+10000*Av l
structure N4 (l:List Nat)(n:Nat):Prop where
 lt:∀d∈l,d<10000
 last:l.getLast?≠some 0
 val:Av l=n
theorem EC (l m:List Nat):Av (l++m)=Av l+10000^l.length*Av m:=by
 induction l with
 |nil=>simp[Av]|cons x l ih=>simp only[List.cons_append,Av,ih,List.length_cons,Nat.pow_succ];rw[Nat.mul_add,Nat.mul_comm (10000^l.length) 10000,Nat.mul_assoc,Nat.add_assoc]
theorem PB:∀l:List Nat,Av (trim l)=Av l
 |[]=>rfl|d::l=>by
  have ih:=PB l;simp only[trim];split
  ·rename_i h;rw[h]at ih;simp only[Av]at ih ⊢;split
   ·rename_i h0;subst h0;rw[←ih];rfl
   ·simp only[Av];rw[←ih]
  ·simp only[Av];rw[ih]
theorem Th:∀{l:List Nat} {d:Nat},d∈trim l→d∈l
 |e::l,d,h=>by
  simp only[trim]at h;split at h
  ·split at h
   ·cases h
   ·rw[List.mem_singleton]at h;subst h;exact List.mem_cons_self ..
  ·rcases zH.1 h with h|h
   ·subst h;exact List.mem_cons_self ..
   ·exact zO _ (Th h)
theorem Gs:∀l:List Nat,(trim l).getLast?≠some 0
 |[]=>by simp[trim]
 |d::l=>by
  have ih:=Gs l;simp only[trim];split
  ·split
   ·simp
   ·rename_i h;simpa using h
  ·rename_i h;cases ht:trim l with
   |nil=>exact absurd ht h|cons a b=>rw[ht]at ih;rw[List.getLast?_cons_cons];exact ih
theorem KD {l:List Nat}(h:∀d∈l,d<10000):N4 (trim l) (Av l):=⟨fun d hd=>h d (Th hd),Gs l,PB l⟩
theorem Ku (l:List Nat):(trim l).length≤l.length:=by
 induction l with
 |nil=>exact zI _|cons d l ih=>
  simp only[trim];split
  ·split<;>simp
  ·simpa using ih
theorem C4 (a b:List UInt8):AT (a++b)=AT a*10^b.length+AT b:=by
 have key:∀(b:List UInt8) (n:Nat),b.foldl (fun n d=>10*n+(d.toNat-48)) n=n*10^b.length+b.foldl (fun n d=>10*n+(d.toNat-48)) 0:=fun b=>by
  induction b with
  |nil=>intro n;simp
  |cons d b ih=>intro n;rw[List.foldl_cons,List.foldl_cons,ih,ih (10*0+_),List.length_cons,Nat.pow_succ,Nat.add_mul,Nat.add_mul,Nat.mul_zero,Nat.zero_mul,Nat.zero_add];rw[←Nat.add_assoc];congr 2;rw[Nat.mul_comm 10 n,Nat.mul_assoc,Nat.mul_comm 10]
 unfold AT;rw[List.foldl_append,key]
theorem Uh {S:List UInt8}{from' i:Nat}(hf:from'≤i)(hi:i<S.length):AT ((S.take (i+1)).drop from')=10*AT ((S.take i).drop from')+(S[i].toNat-48):=by rw[List.take_add_one,zK hi,List.drop_append_of_le_length (by simp;omega)];exact KZ _ _
theorem S7 {S:List UInt8}{f m:Nat}(hf:f≤m)(hm:m≤S.length):AT (S.take m)=AT (S.take f)*10^(m-f)+AT ((S.take m).drop f):=by
 have h:S.take m=S.take f++(S.take m).drop f:=by
  conv=>lhs;rw[←List.take_append_drop f (S.take m)]
  rw[List.take_take,Nat.min_eq_left hf]
 have h2:=congrArg AT h;rw[C4]at h2;rw[h2,List.length_drop,List.length_take,Nat.min_eq_left hm]
end Go.Nb
namespace Go.Nb
open Go Go.Ab Go.Nl Go.RowKit Go.Proofs Go.E4
theorem L6 {P:Program}{ops:Array Oper}{o:Oper}{a:Act}{w:World}{K:Act→World→Prop}{Q:Exit→Act→World→Prop}{E:Prop}
 (hg:o.guard=none) (s x:Operand) (t:TypeId) (hop:o.op=Op.call { callee:=Callee.builtin Builtin.append,args:=#[s,x],argTypes:=#[t,t] })
 (base:Nat) (e:TypeId) (i:TypeInfo) (z:Value) (size bytes:Nat) (ht:P.underlying t=some (.slice e)) (hi:P.info? e=some i) (hz:i.zero=some z)
 (hsize:i.size=size) (hby:i.bytes=bytes) (hzs:z.cells.size=size) (hsz:0<size)
 (v:Value) (n:Nat) (xs:List Value) (hs:a.eval s=v) (hown:w.ownsRow base e size v n xs)
 (ad:Addr) (m c:Nat) (news:List Value) (hx:a.eval x=.slice (some ad) m c) (hl:news.length=m*size) (hnews:∀j u,news[j]?=some u→w.cell? (ad.add j)=some u) (h1:∀u∈news,u.oneCell'=true)
 (h63:n+m≤maxLen) (hbytes:(n+m)*bytes≤140737488355328) (hbase:base≤w.heap.size)
 (hK:∀v' w',w'.ownsRow base e size v' (n+m) (xs++news)→w.grownBy w' v.ownBlock→K (a.put o.dst v') w') :
 if Region.wanted o (yielded ops a.tmps)=true then Oper.wp P o a w K Q else E:=by
 have hw:Region.wanted o (yielded ops a.tmps)=true:=by simp[Region.wanted,hg]
 rw[if_pos hw];obtain⟨v',w',hrun,h2,h3,_⟩:=run_append_own_at (P:=P) w base t o.type e i z size bytes ht hi hz hsize hby hzs hsz v n xs hown ad m c news hl hnews h1 h63 hbytes hbase;unfold Oper.wp;simp[execOp,hop,resolve,invoke,builtin,hs,hx,hrun,Result.andThen];exact hK _ _ h2 h3
end Go.Nb
namespace Go.Nb
open Go Go.Ab Go.Nl Go.RowKit Go.Proofs Go.E4
set_option maxRecDepth 1000000
theorem Sb:(Tryz.prog.info? 3).map (fun i=>(i.zero,i.size,i.bytes))=some (some (.int .i64 0),1,8):=by kernel_rfl
theorem F7 {w:World}{base:Nat}{v:Value}{ds:List Nat}(h:w.ownsRow base 3 1 v ds.length (ds.map (fun d=>Value.int .i64 (d:Nat)))):SI w ds v:=by
 rcases h.2 with⟨e,e2⟩|⟨g,cap,cur,rfl,hg,hh,hc,_,hs,hx⟩
 ·cases ds with
  |nil=>subst e;exact⟨none,0,rfl,zI _,fun h=>absurd h (by simp)⟩
  |cons a l=>simp at e2
 ·refine⟨_,cap,rfl,hc,fun h0=>⟨g,0,rfl,?_,fun i hi=>?_⟩⟩
  ·rcases Nat.lt_or_ge g w.heap.size with h|h
   ·exact h
   ·rw[Array.getElem?_eq_none h]at hh;simp at hh
  ·have h2:cur[i]?=some (.int .i64 (ds.getD i 0:Nat)):=by
    have h3:(cur.toList.take (ds.length*1))[i]?=some (.int .i64 (ds.getD i 0:Nat)):=by rw[hx,List.getElem?_map,List.getD,zK hi];rfl
    rw[List.getElem?_take_of_lt (by omega)]at h3;rw[←Array.getElem?_toList];exact h3
   show w.cell? ⟨g,0+i,none⟩=_;rw[Nat.zero_add];simp only[World.cell?,hh];exact h2
theorem IL {w:World}{base n:Nat}{v:Value}{xs:List Value}(h:w.ownsRow base 3 1 v n xs):SF base v:=by
 rcases h.2 with⟨e,_⟩|⟨g,cap,cur,rfl,hg,_⟩
 ·rw[e];trivial
 ·cases n with
  |zero=>trivial|succ n=>exact hg
def lenS:Value→Nat
 |.string b=>b.size|_=>0
set_option maxHeartbeats 4000000 in
theorem Acq {S:List UInt8}(hd:∀d∈S,48≤d.toNat∧d.toNat≤57)(hl:S.length<1000000)(w:World):Calls Tryz.prog 146 #[.string { data:=S.toArray }] w (fun e w'=>(∃v ds,e=.returned v∧SI w' ds v∧N4 ds (AT S)∧SF w.heap.size v)∧Below w.heap.size w w'):=by
 obtain⟨i0,hi,hz0,hz1,hz2⟩:=info_parts Sb;have hfull:AT S=AT (S.take S.length):=by rw[List.take_length]
 go_enter Tryz.func146,Tryz.ntmps146
 go_wp2
 go_loopw [0,3] (fun sv ov wr=>∃(m:Nat) (os:List Nat),m≤S.length∧sv=.string { data:=(S.take m).toArray }∧os.length≤S.length-m∧(∀d∈os,d<10000)∧Av os+10000^os.length*AT (S.take m)=AT S∧wr.ownsRow w.heap.size 3 1 ov os.length (os.map (fun d=>Value.int .i64 (d:Nat)))∧Below w.heap.size w wr) (fun sv _ _=>lenS sv)
 case atStart=>exact⟨S.length,[],zI _,by rw[List.take_length],by simp,by simp,by rw[List.take_length];simp[Av],World.ownsRow_nil _ _ _ _,Below.refl _ _⟩
 case round=>
  obtain⟨m,os,hm,rfl,hol,hod,hval,hown,hnx⟩:=hrel;have hsz:({ data:=(S.take m).toArray } : ByteArray).size=m:=by show(S.take m).toArray.size=m;simp;omega
  by_cases h0:m=0
  ·subst h0
   go_wp2_with fail
   refine(MP (F7 hown) (by omega)).mono ?_;rintro e w1 ⟨⟨v',rfl,hv',hsf⟩,rfl⟩
   go_wp2
   go_ret
   refine⟨⟨_,_,rfl,hv',?_,hsf _ (IL hown)⟩,hnx⟩;have:=KD hod;rwa[show Av os=AT S by rw[←hval];simp[AT]]at this
  ·generalize hf:m-4=f;have hfm:f<m:=by omega
   have hmax:max (0:Int) ((m:Int)-4)=(f:Int):=by omega
   go_wp2
   have hcw:=Nt (l:=S.take m) (fun d h=>hd d (List.mem_of_mem_take h));have hlt:∀i,f≤i→i≤m→AT ((S.take i).drop f)<10000:=fun i h1 h2=>Nat.lt_of_lt_of_le (Mj (n:=i-f) (by simp;omega) (fun d hd'=>(hd d (List.mem_of_mem_take (List.mem_of_mem_drop hd'))).2)) (Nat.pow_le_pow_right (j:=4) (by decide) (by omega))
   have hst:∀i,f≤i→(hi:i<m)→AT ((S.take (i+1)).drop f)=10*AT ((S.take i).drop f)+(S[i].toNat-48):=fun i h1 h2=>Uh h1 (by omega)
   have hspl:=S7 (S:=S) (f:=f) (m:=m) (by omega) hm;have hown0:AT ((S.take f).drop f)=0:=by rw[List.drop_of_length_le (by simp;omega)];rfl
   have hwsz:=hnx.size
   go_loopw [5,6] (fun nn si wi=>∃i:Nat,f≤i∧i≤m∧nn=.int .i64 ((AT ((S.take i).drop f):Nat):Int)∧si=.int .i64 i∧wi=wr) (fun _ si _=>m-(intOf si).toNat)
   case atStart=>exact⟨f,zI _,by omega,by rw[hown0];rfl,rfl,rfl⟩
   case round=>
    obtain⟨i,hfi,him,rfl,rfl,rfl⟩:=hrel;have hlti:=hlt i hfi him;by_cases hp:i<m
    ·obtain⟨g1,g2⟩:=hcw i (by rw[hsz];exact hp);have hsti:=hst i hfi hp;have hlt2:=hlt (i+1) (by omega) hp;have hg:∀h,(({ data:=(S.take m).toArray } : ByteArray)[i]'h)=S[i]:=fun _=>by show(S.take m).toArray[i]=_;simp
     rw[hg]at g1 g2;generalize hd0:S[i]=d at *;generalize hD:d.toNat=n at *;generalize AT ((S.take i).drop f)=v at *
     go_wp2
     exact⟨⟨i+1,by omega,hp,by rw[hsti];congr 1;omega,by simp,trivial⟩,by simp[intOf];omega⟩
    ·have:i=m:=by omega
     subst this;generalize hc:AT ((S.take i).drop f)=c at *
     go_wp2
     go_region_law (refine L6 rfl _ _ 22 rfl w.heap.size 3 i0 (.int .i64 0) 1 8 Tryz.underlying22 hi hz0 hz1 hz2 rfl (by decide) _ _ _ rfl (hown.alloc _) ⟨wr.heap.size,0,none⟩ 1 1 [.int .i64 (c:Int)] rfl rfl (cell_one_new _ _ _) (fun x hx=>by simp at hx;subst hx;rfl) (by unfold maxLen;omega) (by omega) (by simp;omega) ?_;intro v' w1 hown' hgrow')
     have hbl:Below w.heap.size w w1:=(((hnx.drew).alloc (by show w.heap.size≤wr.heap.size;omega) _).grown hgrow' (by simp;omega) (fun q hq=>(hown.lt q hq).1));clear hgrow';have hex:({ data:=(S.take i).toArray } : ByteArray).extract 0 f = { data:=(S.take f).toArray }:=by rw[Ym,List.take_take,Nat.min_eq_left (by omega)]
     have hvn:Av (os++[c])+10000^(os++[c]).length*AT (S.take f)=AT S:=by
      rw[EC,←hval,hspl];by_cases h4:4≤i
      ·rw[show i-f=4 by omega,zR,Nat.pow_add];simp only[Av,List.length_cons,List.length_nil,Nat.mul_zero,Nat.add_zero,Nat.zero_add,Nat.pow_one];rw[Nat.mul_add,←Nat.add_assoc,Nat.mul_assoc,show 10^4=10000 from rfl,Nat.mul_comm 10000];omega
      ·rw[show f=0 by omega];simp[Av,AT]
     go_wp2
     go_roundw
     case rel=>
      (repeat apply Exists.intro)
      refine⟨?_,rfl⟩;exact⟨f,os++[c],by omega,by rw[hex],by simp;omega,fun d hd'=>by
       rcases List.mem_append.1 hd' with h|h
       ·exact hod d h
       ·rw[List.mem_singleton]at h;subst h;exact hlti,hvn,by rw[List.map_append,zR];exact hown',hbl⟩
     case measure=>
      show(({ data:=(S.take i).toArray } : ByteArray).extract 0 f).size<({ data:=(S.take i).toArray } : ByteArray).size;rw[hex,hsz];show(S.take f).toArray.size<i;simp;omega
theorem Kz:∀{l:List Nat},(∀d∈l,d<10000)→Av l<10000^l.length
 |[],_=>by decide
 |x::l,h=>by
  have h1:=h x (List.mem_cons_self ..);have h2:=Kz (l:=l) fun d hd=>h d (zO _ hd)
  simp only[Av,List.length_cons,Nat.pow_succ];omega
theorem Oy {l:List Nat}(hl:l.getLast?≠some 0)(h0:l≠[]):10000^(l.length-1)≤Av l:=by
 obtain⟨m,x,rfl⟩:∃m x,l=m++[x]:=⟨l.dropLast,l.getLast h0,(List.dropLast_concat_getLast h0).symm⟩;have hx:0<x:=by
  rcases Nat.eq_zero_or_pos x with h|h
  ·subst h;simp at hl
  ·exact h
 rw[EC,zR];simp only[Av,List.length_cons,List.length_nil,Nat.mul_zero,Nat.add_zero,Nat.add_sub_cancel,Nat.zero_add];have:10000^m.length*1≤10000^m.length*x:=Nat.mul_le_mul_left _ hx;omega
theorem ND {a b:List Nat}(ha:∀d∈a,d<10000)(hb:b.getLast?≠some 0)(h:a.length<b.length):Av a<Av b:=by have h1:=Kz ha;have h2:=Oy hb (by intro e;subst e;simp at h);have h3:10000^a.length≤10000^(b.length-1):=Nat.pow_le_pow_right (by decide) (by omega);omega
theorem CN {os:List Nat}(h:∀d∈os,d<10000)(i:Nat):os.getD i 0<10000:=by
 rw[List.getD];cases hi:os[i]? with
 |none=>decide|some d=>exact h d (List.mem_of_getElem? hi)
theorem Wa {a:List Nat}{j:Nat}(hj:j<a.length):Av a=Av (a.take j)+10000^j*(a.getD j 0+10000*Av (a.drop (j+1))):=by
 conv=>lhs;rw[←List.take_append_drop j a]
 rw[EC,List.length_take,Nat.min_eq_left (by omega),Bf a j hj];rfl
theorem Tc {a b:List Nat}{j:Nat}(ha:∀d∈a,d<10000)(hj:j<a.length)(hl:a.length=b.length)(ht:a.drop (j+1)=b.drop (j+1))(h:a.getD j 0<b.getD j 0):Av a<Av b:=by
 rw[Wa hj,Wa (a:=b) (j:=j) (by omega),ht];have h1:=Kz (l:=a.take j) fun d hd=>ha d (List.mem_of_mem_take hd)
 rw[List.length_take,Nat.min_eq_left (by omega)]at h1;have h2:10000^j*(a.getD j 0+10000*Av (b.drop (j+1))+1)≤10000^j*(b.getD j 0+10000*Av (b.drop (j+1))):=Nat.mul_le_mul_left _ (by omega);rw[Nat.mul_add _ _ 1,Nat.mul_one]at h2;omega
set_option maxHeartbeats 2000000 in
theorem ZE {a b:List Nat}{va vb:Value}{w:World}(hva:SI w a va)(hvb:SI w b vb){x y:Nat}(ha:N4 a x)(hb:N4 b y)(hla:a.length<1000000)(_hlb:b.length<1000000):Calls Tryz.prog 145 #[va,vb] w (fun e w'=>e=.returned (.int .i64 (AS x y))∧∃m,w'=w.drewN m):=by
 obtain⟨A,c,rfl,h1,h2⟩:=hva;obtain⟨A',c',rfl,h1',h2'⟩:=hvb;have hx:=ha.val;have hy:=hb.val;have olt:Av a<Av b→AS x y = -1:=fun h=>BL (by rw[hx,hy]at h;exact Int.ofNat_lt.2 h)
 have ogt:Av b<Av a→AS x y=1:=fun h=>BR (by rw[hx,hy]at h;exact Int.ofNat_lt.2 h)
 have oeq:a=b→AS x y=0:=fun h=>BX (by rw[←hx,←hy,h])
 have l1:a.length<b.length→AS x y = -1:=fun h=>olt (ND ha.lt hb.last h)
 have l2:b.length<a.length→AS x y=1:=fun h=>ogt (ND hb.lt ha.last h)
 by_cases hne:a.length=b.length
 ·have kne:(((a.length:Int) != (b.length:Int)):Bool)=false:=by rw[hne];simp
  have fin0:a.drop 0=b.drop 0→AS x y=0:=fun h=>oeq h
  have flt:∀j,j<a.length→a.drop (j+1)=b.drop (j+1)→a.getD j 0<b.getD j 0→AS x y = -1:=fun j hj ht h=>olt (Tc ha.lt hj hne ht h)
  have fgt:∀j,j<a.length→a.drop (j+1)=b.drop (j+1)→b.getD j 0<a.getD j 0→AS x y=1:=fun j hj ht h=>ogt (Tc hb.lt (by omega) hne.symm ht.symm h)
  have feq:∀j,j<a.length→a.drop (j+1)=b.drop (j+1)→a.getD j 0=b.getD j 0→a.drop j=b.drop j:=fun j hj ht h=>IM hj hne ht h
  have hst:a.drop a.length=b.drop a.length:=by rw[List.drop_length,hne,List.drop_length]
  have da:=fun j=>CN ha.lt j
  have db:=fun j=>CN hb.lt j
  generalize AS x y=r at *;clear l1 l2 olt ogt oeq;generalize hL:a.length=L at *;rw[←hne]at h1' h2' ⊢;clear hne _hlb
  go_enter Tryz.func145,Tryz.ntmps145
  go_wp2
  go_loopw [5] (fun si wr=>∃j:Nat,j≤L∧si=.int .i64 ((j:Int)-1)∧a.drop j=b.drop j∧∃m,wr=w.drewN m) (fun si _=>(intOf si+1).toNat)
  case atStart=>exact⟨L,zI _,rfl,hst,0,rfl⟩
  case round=>
   obtain⟨j,hj,rfl,ht,m,rfl⟩:=hrel;cases j with
   |zero=>
    have r0:=fin0 ht;subst r0
    go_wp2
    go_ret
    exact⟨rfl,m,rfl⟩
   |succ j=>
    obtain⟨p,o,rfl,q1,q2⟩:=h2 (by omega);obtain⟨p',o',rfl,q1',q2'⟩:=h2' (by omega);have c1:=q2 j (by omega);have c2:=q2' j (by omega);have flt:=flt j hj ht;have fgt:=fgt j hj ht;have feq:=feq j hj ht;have da:=da j;have db:=db j;have hsi:((j+1:Nat):Int)-1=(j:Int):=by omega
    rw[hsi];generalize a.getD j 0=d at *;generalize b.getD j 0=d' at *;rcases Nat.lt_trichotomy d d' with h|h|h
    ·have r1:=flt h;subst r1
     go_wp2
     go_quiet (fail)
     go_wp2
     go_ret
     exact⟨rfl,_,World.drewN_drewN _ _ _⟩
    ·have r1:=feq h
     go_wp2
     go_quiet (fail)
     go_wp2
     go_quiet (fail)
     go_wp2
     exact⟨⟨j,by omega,rfl,r1,_,rfl⟩,by simp[intOf]⟩
    ·have r1:=fgt h;subst r1
     go_wp2
     go_quiet (fail)
     go_wp2
     go_quiet (fail)
     go_wp2
     go_ret
     exact⟨rfl,_,by rw[World.drewN_drewN,World.drewN_drewN]⟩
 ·rcases Nat.lt_or_gt_of_ne hne with h|h
  ·have r:=l1 h;have k:(((a.length:Int) != (b.length:Int)):Bool)=true:=by simp;omega
   rw[r]
   go_enter Tryz.func145,Tryz.ntmps145
   go_wp2
   go_ret
   exact⟨rfl,0,rfl⟩
  ·have r:=l2 h;have k:(((a.length:Int) != (b.length:Int)):Bool)=true:=by simp;omega
   rw[r]
   go_enter Tryz.func145,Tryz.ntmps145
   go_wp2
   go_ret
   exact⟨rfl,0,rfl⟩
theorem M8:∀(os:List Nat) (i v:Nat),i<os.length→Av (os.set i v)+os.getD i 0*10000^i=Av os+v*10000^i
 |[],i,v,h=>by simp at h
 |o::os,0,v,_=>by show(v+10000*Av os)+o*1=(o+10000*Av os)+v*1;omega
 |o::os,i+1,v,h=>by
  have ih:=M8 os i v (by simpa using h);show(o+10000*Av (os.set i v))+os.getD i 0*10000^(i+1)=(o+10000*Av os)+v*10000^(i+1);have e1:∀z,z*10000^(i+1)=10000*(z*10000^i):=fun z=>by rw[Nat.pow_succ,←Nat.mul_assoc,Nat.mul_comm]
  rw[e1,e1];omega
theorem QQ {os:List Nat}(h:∀d∈os,d<10000){v:Nat}(hv:v<10000)(i:Nat):∀d∈os.set i v,d<10000:=by
 intro d hd;rcases List.mem_or_eq_of_mem_set hd with e|e
 ·exact h d e
 ·rw[e];exact hv
theorem XY (P o c x y V t:Nat)(os os1 os':Nat)(ht:t=c+o+x*y)(h1:os1+o*P=os+(t%10000)*P)(h2:os'=os1+t/10000*(10000*P)+x*(10000*P)*V):os'=os+c*P+x*P*(y+10000*V):=by
 have e1:(t%10000)*P+t/10000*(10000*P)=t*P:=by rw[←Nat.mul_assoc,←Nat.add_mul,Nat.mul_comm (t/10000) 10000,Nat.mod_add_div]
 have e2:t*P=c*P+o*P+x*y*P:=by rw[ht,Nat.add_mul,Nat.add_mul]
 have e3:x*P*(y+10000*V)=x*y*P+x*(10000*P)*V:=by
  rw[Nat.mul_add];congr 1
  ·rw[Nat.mul_assoc,Nat.mul_comm P y,Nat.mul_assoc]
  ·rw[←Nat.mul_assoc (x*P) 10000 V];congr 1;rw[Nat.mul_assoc,Nat.mul_comm P 10000]
 rw[h2,e3];generalize x*(10000*P)*V=A1 at *;generalize x*y*P=A2 at *;generalize o*P=A3 at *;generalize c*P=A4 at *;generalize t/10000*(10000*P)=A5 at *;generalize t%10000*P=A6 at *;generalize t*P=A7 at *;omega
theorem T3 (P b x V o:Nat):o+x*P*b+b*V*(10000*P)=o+b*(x+10000*V)*P:=by
 have e:b*(x+10000*V)*P=x*P*b+b*V*(10000*P):=by
  rw[Nat.mul_add,Nat.add_mul];congr 1
  ·rw[Nat.mul_comm b x,Nat.mul_assoc,Nat.mul_comm b P,←Nat.mul_assoc]
  ·rw[Nat.mul_left_comm b 10000 V,Nat.mul_comm 10000,Nat.mul_assoc]
 omega
theorem Um (n:Nat):Av (List.replicate n 0)=0:=by
 induction n with
 |zero=>rfl|succ n ih=>rw[List.replicate_succ];show 0+10000*Av _=0;rw[ih]
theorem Q5 {wr:World}{N g L cap:Nat}{os:List Nat}(hown:wr.ownsRow N 3 1 (.slice (some ⟨g,0,none⟩) L cap) L (os.map (fun d=>Value.int .i64 (d:Nat))))(hos:os.length=L){j:Nat}(hj:j<L):wr.cell? ⟨g,j,none⟩=some (.int .i64 (os.getD j 0:Nat))∧wr.frozen? ⟨g,j,none⟩=false:=by refine⟨(hown.cellAt j (by omega)).trans ?_,hown.frozenAt j⟩;rw[List.getElem?_map,List.getD,zK (by omega)];rfl
theorem NQ {w wr:World}{N L cap:Nat}{os:List Nat}(hown:wr.ownsRow N 3 1 (.slice (some ⟨N,0,none⟩) L cap) L (os.map (fun d=>Value.int .i64 (d:Nat))))(hnx:Below N w wr)(j d:Nat){v:Int}(hv:v=(d:Nat)) :
 (wr.setCell ⟨N,j,none⟩ (.int .i64 v)).ownsRow N 3 1 (.slice (some ⟨N,0,none⟩) L cap) L ((os.set j d).map (fun d=>Value.int .i64 (d:Nat)))∧Below N w (wr.setCell ⟨N,j,none⟩ (.int .i64 v)):=by
 subst hv;have h:=(hown.stored j (.int .i64 (d:Nat))).1;rw[List.map_set];exact⟨h,hnx.setCell (p:=⟨N,j,none⟩) (zI _) _⟩
theorem Pt (n:Nat):(madeCells (Value.int .i64 0).cells (n*1)).toList=((List.replicate n 0).map (fun d=>Value.int .i64 (d:Nat))):=by rw[show(Value.int .i64 0).cells = #[.int .i64 0] from rfl,toList_madeCells_one];simp
theorem below_drewN {B:Nat}{a w:World}(h:Below B a w)(n:Nat):Below B a (w.drewN n):=⟨h.os,h.tape,h.output,h.size,h.block⟩
set_option maxHeartbeats 3200000 in
theorem QH {a b:List Nat}{va vb:Value}{w:World}(hva:SI w a va)(hvb:SI w b vb)(hda:∀d∈a,d<10000)(hdb:∀d∈b,d<10000)(hLL:a.length+b.length<1000000):Calls Tryz.prog 149 #[va,vb] w (fun e w'=>(∃v ds,e=.returned v∧SI w' ds v∧N4 ds (Av a*Av b)∧ds.length≤a.length+b.length∧SF w.heap.size v)∧Below w.heap.size w w'):=by
 obtain⟨A0,c0,rfl,hc0,h0⟩:=hva;obtain⟨A1,c1,rfl,hc1,h1⟩:=hvb;obtain⟨i0,hi,hz0,hz1,hz2⟩:=info_parts Sb;generalize hL:a.length=L at *;generalize hM:b.length=M at *
 go_enter Tryz.func149,Tryz.ntmps149
 go_wp2_with (at_make;go_loud (refine wpList_make_full _ rfl _ _ 22 rfl w.heap.size 3 i0 (.int .i64 0) 1 Tryz.underlying22 hi hz0 hz1 _ _ _ _ (L+M) rfl rfl (by omega) (by omega) ?b2 ?b3 (zI _) ?_))
 case b2=>rw[hz2];omega
 case b3=>unfold maxLen;omega
 intro w0 hown0 hgrow0
 go_wp2
 go_loopw [6] (fun si wr=>∃(i:Nat) (os:List Nat),i≤L∧si=.int .i64 i∧os.length=L+M∧(∀q∈os,q<10000)∧(∀q,i+M≤q→os.getD q 0=0)∧
  wr.ownsRow w.heap.size 3 1 (.slice (some ⟨w.heap.size,0,none⟩) (L+M) (L+M)) (L+M) (os.map (fun d=>Value.int .i64 (d:Nat)))∧Av os+Av b*Av (a.drop i)*10000^i=Av b*Av a∧Below w.heap.size w wr)
  (fun si _=>(L-(intOf si).toNat))
 case atStart=>
  refine⟨0,List.replicate (L+M) 0,Nat.zero_le _,rfl,by simp,fun q hq=>by rw[List.eq_of_mem_replicate hq];decide,fun q _=>?_,?_,?_,(Below.refl _ _).grown hgrow0 (zI _) (fun k h=>by cases h)⟩
  ·rw[List.getD];cases e:(List.replicate (L+M) 0)[q]? with
   |none=>rfl|some z=>exact List.eq_of_mem_replicate (List.mem_of_getElem? e)
  ·have h:=Pt (L+M);rw[Nat.mul_one]at h;rw[←h];exact hown0
  ·rw[Um,List.drop_zero,Nat.pow_zero];omega
 case round=>
  obtain⟨i,os0,hil,rfl,hos0,hlt0,hz,hown,hx,hnx⟩:=hrel;by_cases hiL:i<L
  ·obtain⟨b0,o0,rfl,hb0,hcell0⟩:=h0 (by omega);have hx1:=CN hda i;generalize hX:a.getD i 0=x at *
   go_wp2
   go_loopw [7,8] (fun cc sk wx=>∃(k c:Nat) (os:List Nat),k≤M∧sk=.int .i64 k∧cc=.int .i64 c∧c<10000∧os.length=L+M∧(∀q∈os,q<10000)∧(∀q,i+M≤q→os.getD q 0=0)∧
    wx.ownsRow w.heap.size 3 1 (.slice (some ⟨w.heap.size,0,none⟩) (L+M) (L+M)) (L+M) (os.map (fun d=>Value.int .i64 (d:Nat)))∧Av os+c*10000^(i+k)+x*10000^(i+k)*Av (b.drop k)=Av os0+x*10000^i*Av b∧Below w.heap.size w wx)
    (fun _ sk _=>(M-(intOf sk).toNat))
   case atStart=>exact⟨0,0,os0,Nat.zero_le _,rfl,rfl,by decide,hos0,hlt0,hz,hown,by simp,hnx⟩
   case round=>
    obtain⟨k,c,os,hkl,rfl,rfl,hc,hos,hlt,hzk,hownk,hxk,hnk⟩:=hrel;by_cases hkM:k<M
    ·obtain⟨b1,o1,rfl,hb1,hcell1⟩:=h1 (by omega);have hc1':=(hnk.cell (p:=⟨b0,o0+i,none⟩) hb0).trans (hcell0 i hiL);rw[hX]at hc1';have hc2':=(hnk.cell (p:=⟨b1,o1+k,none⟩) hb1).trans (hcell1 k hkM);have hy1:=CN hdb k;obtain⟨hco,hfo⟩:=Q5 hownk hos (show i+k<L+M by omega);have ho1:=CN hlt (i+k);have he:((i:Int)+(k:Int)).toNat=i+k:=by omega
     have hs:=fun v=>M8 os (i+k) v (by omega)
     have hne:=fun v q (hq:i+M≤q)=>Go.Nl.getD_set_ne os (i+k) q v (by omega)
     have hd:=Bf b k (by rw[hM];exact hkM);generalize hYY:b.getD k 0=y at *;generalize hOO:os.getD (i+k) 0=o at *;have hxy:x*y≤9999*9999:=Nat.mul_le_mul (by omega) (by omega);have hxyI:((x*y:Nat):Int)=(x:Int)*(y:Int):=Int.natCast_mul x y
     go_wp2
     go_quiet (fail)
     go_wp2
     have hT:(o:Int)+(x:Int)*(y:Int)+(c:Int)=((c+o+x*y:Nat):Int):=by simp only[Int.natCast_add,hxyI];omega
     have hTb:c+o+x*y<100000000:=by omega
     rw[hT,show((c+o+x*y:Nat):Int)/10000=(((c+o+x*y)/10000:Nat):Int) by omega];obtain⟨q1,q2⟩:=NQ (wr:=wr.drewN nq) hownk (below_drewN hnk nq) (i+k) ((c+o+x*y)%10000) (v:=((c+o+x*y:Nat):Int)%10000) (by omega);refine⟨⟨k+1,_,_,hkM,by simp,rfl,by omega,by rw[List.length_set];exact hos,QQ hlt (Nat.mod_lt _ (by decide)) _,fun q hq=>by rw[hne _ q hq];exact hzk q hq,q1,?_,q2⟩,by simp[intOf];omega⟩;rw[←hxk,hd,show i+(k+1)=i+k+1 by omega,Nat.pow_succ',Av];exact XY (10000^(i+k)) o c x y (Av (b.drop (k+1))) (c+o+x*y) (Av os) _ _ rfl (hs _) rfl
    ·have hk':k=M:=by omega
     subst hk';obtain⟨hco,hfo⟩:=Q5 hownk hos (show i+k<L+k by omega);rw[hzk (i+k) (zI _)]at hco;have he:((i:Int)+(k:Int)).toNat=i+k:=by omega
     go_wp2
     have hxk':Av os+c*10000^(i+k)=Av os0+x*10000^i*Av b:=by rw[←hxk,←hM,List.drop_length];rfl
     have hs:=M8 os (i+k) c (by omega);rw[hzk (i+k) (zI _),Nat.zero_mul,Nat.add_zero]at hs;obtain⟨q1,q2⟩:=NQ hownk hnk (i+k) c (v:=(c:Int)) rfl;refine⟨⟨i+1,_,hiL,by simp,by rw[List.length_set];exact hos,QQ hlt hc _,fun q hq=>?_,q1,?_,q2⟩,by simp[intOf];omega⟩
     ·rw[Go.Nl.getD_set_ne os (i+k) q c (by omega)];exact hzk q (by omega)
     ·have hd:=Bf a i (by rw[hL];exact hiL);rw[hX]at hd;rw[hs,hxk',←hx,hd,Nat.pow_succ',Av];exact T3 (10000^i) (Av b) x (Av (a.drop (i+1))) (Av os0)
  ·have hi':i=L:=by omega
   subst hi'
   go_wp2_with fail
   have hvx:Av os0=Av a*Av b:=by rw[←hL,List.drop_length]at hx;simp only[Av,Nat.mul_zero,Nat.zero_mul,Nat.add_zero]at hx;rw[hx,Nat.mul_comm]
   have hso:=hown;rw[←hos0]at hown;have hsi:=F7 hown;rw[hos0]at hsi;refine(MP hsi (by omega)).mono ?_;rintro e w1 ⟨⟨v',rfl,hv',hsf⟩,rfl⟩
   go_wp2
   go_ret
   refine⟨⟨_,_,rfl,hv',?_,?_,hsf _ (IL hso)⟩,hnx⟩
   ·have:=KD hlt0;rwa[hvx]at this
   ·have:=Ku os0;omega
theorem Fb (l:List Nat)(i:Nat):Av (l.take (i+1))=Av (l.take i)+10000^i*l.getD i 0:=by
 by_cases h:i<l.length
 ·rw[IE h,EC,List.length_take,Nat.min_eq_left (by omega)];simp[Av]
 ·rw[List.take_of_length_le (by omega),List.take_of_length_le (by omega),List.getD,List.getElem?_eq_none (by omega)];simp
set_option maxHeartbeats 3200000 in
theorem Adf {a b:List Nat}{va vb:Value}{w:World}(hva:SI w a va)(hvb:SI w b vb)(hda:∀d∈a,d<10000)(hdb:∀d∈b,d<10000)(hla:a.length<1000000)(hlb:b.length≤a.length)(hle:Av b≤Av a):Calls Tryz.prog 340 #[va,vb] w (fun e w'=>(∃v ds,e=.returned v∧SI w' ds v∧N4 ds (Av a-Av b)∧ds.length≤a.length∧SF w.heap.size v)∧Below w.heap.size w w'):=by
 obtain⟨A0,c0,rfl,hc0,h0⟩:=hva;obtain⟨A1,c1,rfl,hc1,h1⟩:=hvb;obtain⟨i0,hi,hz0,hz1,hz2⟩:=info_parts Sb;generalize hL:a.length=L at *;generalize hM:b.length=M at *
 go_enter Tryz.func340,Tryz.ntmps340
 go_wp2
 go_loopw [5,6,7] (fun ov cc si wr=>∃(i c:Nat) (os:List Nat),i≤L∧si=.int .i64 i∧cc=.int .i64 c∧c≤1∧os.length=i∧(∀d∈os,d<10000)∧Av os+Av (b.take i)=Av (a.take i)+c*10000^i∧
  wr.ownsRow w.heap.size 3 1 ov os.length (os.map (fun d=>Value.int .i64 (d:Nat)))∧Below w.heap.size w wr) (fun _ _ si _=>L-(intOf si).toNat)
 case atStart=>exact⟨0,0,[],Nat.zero_le _,rfl,rfl,by omega,rfl,by simp,by simp[Av],World.ownsRow_nil _ _ _ _,Below.refl _ _⟩
 case round=>
  obtain⟨i,c,os,hil,rfl,rfl,hc,hol,hod,hval,hown,hnx⟩:=hrel;have hwsz:=hnx.size;by_cases hiL:i<L
  ·obtain⟨b0,o0,rfl,hb0,hcell0⟩:=h0 (by omega);have hc1':=(hnx.cell (p:=⟨b0,o0+i,none⟩) hb0).trans (hcell0 i hiL);have hx1:=CN hda i;have hta:=Fb a i;have htb:=Fb b i;have hy1:=CN hdb i;have fin:∀(v':Value) (w1:World) (v c':Nat) {z:Int},z=(v:Int)→c'≤1→v<10000→v+c+b.getD i 0=a.getD i 0+10000*c'→
    w1.ownsRow w.heap.size 3 1 v' (os.length+1) (os.map (fun d=>Value.int .i64 (d:Nat))++[.int .i64 z])→Below w.heap.size w w1→
    (∃(i' c'':Nat) (os:List Nat),i'≤L∧Value.int .i64 ((i:Int)+1)=.int .i64 i'∧Value.int .i64 (c':Int)=.int .i64 c''∧c''≤1∧os.length=i'∧(∀d∈os,d<10000)∧Av os+Av (b.take i')=Av (a.take i')+c''*10000^i'∧
     w1.ownsRow w.heap.size 3 1 v' os.length (os.map (fun d=>Value.int .i64 (d:Nat)))∧Below w.heap.size w w1)∧L-(intOf (.int .i64 ((i:Int)+1))).toNat<L-(intOf (.int .i64 (i:Int))).toNat:=by
    rintro v' w1 v c' z rfl hc' hv he hown' hbl;refine⟨⟨i+1,c',os++[v],hiL,by simp,rfl,hc',by simp[hol],fun d hd=>?_,?_,by rw[List.map_append,zR];exact hown',hbl⟩,by simp[intOf];omega⟩
    ·rcases List.mem_append.1 hd with h|h
     ·exact hod d h
     ·rw[List.mem_singleton]at h;subst h;exact hv
    ·rw[EC,hol,hta,htb,Nat.pow_succ'];simp only[Av,Nat.mul_zero,Nat.add_zero];have e:=congrArg (10000^i * ·) he;simp only[Nat.mul_add]at e;have e2:c'*(10000*10000^i)=10000^i*(10000*c'):=by rw[Nat.mul_comm c',Nat.mul_comm 10000 (10000^i),Nat.mul_assoc]
     have e3:10000^i*c=c*10000^i:=Nat.mul_comm _ _;omega
   generalize a.getD i 0=x at *;by_cases hiM:i<M
   ·obtain⟨b1,o1,rfl,hb1,hcell1⟩:=h1 (by omega);have hc2':=(hnx.cell (p:=⟨b1,o1+i,none⟩) hb1).trans (hcell1 i hiM);generalize b.getD i 0=y at *;by_cases hlt:(x:Int)-c-y<0
    ·skip
     go_wp2_with (first
      |(at_builtin;refine wpList_append_own _ rfl _ _ 22 rfl w.heap.size 3 i0 (.int .i64 0) 1 8 Tryz.underlying22 hi hz0 hz1 hz2 rfl (by decide) _ _ _ rfl (hown.alloc _) ⟨wr.heap.size,0,none⟩ 1 1 [.int .i64 ((x:Int)-c-y+10000)] rfl rfl (cell_one_new _ _ _) (fun x hx=>by simp at hx;subst hx;rfl) (by unfold maxLen;omega) (by omega) (by simp;omega) ?_;intro v' w1 hown' hgrow' _))
     have hbl:Below w.heap.size w w1:=(hnx.alloc (by omega) _).grown hgrow' (by simp;omega) (fun q hq=>(hown.lt q hq).1);exact fin _ _ (x+10000-c-y) 1 (by omega) (by omega) (by omega) (by omega) hown' hbl
    ·skip
     go_wp2_with (first
      |(at_builtin;refine wpList_append_own _ rfl _ _ 22 rfl w.heap.size 3 i0 (.int .i64 0) 1 8 Tryz.underlying22 hi hz0 hz1 hz2 rfl (by decide) _ _ _ rfl (hown.alloc _) ⟨wr.heap.size,0,none⟩ 1 1 [.int .i64 ((x:Int)-c-y)] rfl rfl (cell_one_new _ _ _) (fun x hx=>by simp at hx;subst hx;rfl) (by unfold maxLen;omega) (by omega) (by simp;omega) ?_;intro v' w1 hown' hgrow' _))
     have hbl:Below w.heap.size w w1:=(hnx.alloc (by omega) _).grown hgrow' (by simp;omega) (fun q hq=>(hown.lt q hq).1);exact fin _ _ (x-c-y) 0 (by omega) (by omega) (by omega) (by omega) hown' hbl
   ·have hY:b.getD i 0=0:=by rw[List.getD,List.getElem?_eq_none (by omega)];rfl
    rw[hY]at fin;by_cases hlt:(x:Int)-c<0
    ·skip
     go_wp2_with (first
      |(at_builtin;refine wpList_append_own _ rfl _ _ 22 rfl w.heap.size 3 i0 (.int .i64 0) 1 8 Tryz.underlying22 hi hz0 hz1 hz2 rfl (by decide) _ _ _ rfl (hown.alloc _) ⟨wr.heap.size,0,none⟩ 1 1 [.int .i64 ((x:Int)-c+10000)] rfl rfl (cell_one_new _ _ _) (fun x hx=>by simp at hx;subst hx;rfl) (by unfold maxLen;omega) (by omega) (by simp;omega) ?_;intro v' w1 hown' hgrow' _))
     have hbl:Below w.heap.size w w1:=(hnx.alloc (by omega) _).grown hgrow' (by simp;omega) (fun q hq=>(hown.lt q hq).1);exact fin _ _ (x+10000-c) 1 (by omega) (by omega) (by omega) (by omega) hown' hbl
    ·skip
     go_wp2_with (first
      |(at_builtin;refine wpList_append_own _ rfl _ _ 22 rfl w.heap.size 3 i0 (.int .i64 0) 1 8 Tryz.underlying22 hi hz0 hz1 hz2 rfl (by decide) _ _ _ rfl (hown.alloc _) ⟨wr.heap.size,0,none⟩ 1 1 [.int .i64 ((x:Int)-c)] rfl rfl (cell_one_new _ _ _) (fun x hx=>by simp at hx;subst hx;rfl) (by unfold maxLen;omega) (by omega) (by simp;omega) ?_;intro v' w1 hown' hgrow' _))
     have hbl:Below w.heap.size w w1:=(hnx.alloc (by omega) _).grown hgrow' (by simp;omega) (fun q hq=>(hown.lt q hq).1);exact fin _ _ (x-c) 0 (by omega) (by omega) (by omega) (by omega) hown' hbl
  ·have hi':i=L:=by omega
   subst hi'
   go_wp2_with fail
   have hvo:Av os=Av a-Av b:=by
    rw[List.take_of_length_le (by omega),List.take_of_length_le (by omega)]at hval;have h1:=Kz hod;rw[hol]at h1;have:c=0∨c=1:=by omega
    rcases this with rfl|rfl
    ·omega
    ·rw[Nat.one_mul]at hval;omega
   refine(MP (F7 hown) (by omega)).mono ?_;rintro e w1 ⟨⟨v',rfl,hv',hsf⟩,rfl⟩
   go_wp2
   go_ret
   refine⟨⟨_,_,rfl,hv',?_,?_,hsf _ (IL hown)⟩,hnx⟩
   ·have:=KD hod;rwa[hvo]at this
   ·have:=Ku os;omega
theorem Ph {n:Nat}(hn:n<10000)(w:World):Calls Tryz.prog 339 #[.int .i64 (n:Int)] w (fun e w'=>(∃v ds,e=.returned v∧SI w' ds v∧N4 ds n∧ds.length≤1∧SF w.heap.size v)∧Below w.heap.size w w'):=by
 by_cases h:(n:Int)=0
 ·go_enter Tryz.func339,Tryz.ntmps339
  go_wp2
  go_ret
  exact⟨⟨_,[],rfl,⟨none,0,rfl,zI _,fun h=>absurd h (by simp)⟩,⟨by simp,by simp,by simp only[Av];omega⟩,by simp,trivial⟩,Below.refl _ _⟩
 ·go_enter Tryz.func339,Tryz.ntmps339
  go_wp2
  go_ret
  refine⟨⟨_,[n],rfl,⟨_,1,rfl,zI _,fun _=>⟨w.heap.size,0,rfl,by simp,fun i hi=>?_⟩⟩,⟨by simp;exact hn,by simp;omega,by simp[Av]⟩,by simp,zI _⟩,(Below.refl _ _).alloc (zI _) _⟩;have:i=0:=by simp at hi;omega
  subst this;exact cell_one_new w _ _ 0 _ rfl
def gd (a:List Nat)(n j:Nat):Nat:=if j≤n then a.getD (n-j) 0 else 0
def DX (a:List Nat)(n:Nat):Nat→Nat
 |0=>0|j+1=>DX a n j*10000+gd a n j
def gby (b:List Nat)(n:Nat):Nat:=b.getD (n-1) 0*10000+(if 1<n then b.getD (n-2) 0 else 0)
set_option maxHeartbeats 3200000 in
theorem Abt {a b:List Nat}{va vb:Value}{w:World}(hva:SI w a va)(hvb:SI w b vb)(hda:∀d∈a,d<10000)(hdb:∀d∈b,d<10000)(hla:a.length<1000000)(hlb:b.length<1000000)(hb0:0<b.getD (b.length-1) 0)(hb:0<b.length):Calls Tryz.prog 338 #[va,vb] w (fun e w'=>e=.returned (.int .i64 ((min 9999 (DX a b.length 3/gby b b.length):Nat):Int))∧∃m,w'=w.drewN m):=by
 obtain⟨A0,c0,rfl,hc0,h0⟩:=hva;obtain⟨A1,c1,rfl,hc1,h1⟩:=hvb;have hgd:∀j,gd a b.length j<10000:=fun j=>by unfold gd;split;exact CN hda _;decide
 have gt:∀j,j≤3→DX a b.length j<1000000000000:=fun j hj=>by
  have:=hgd 0;have:=hgd 1;have:=hgd 2;have:j=0∨j=1∨j=2∨j=3:=by omega
  rcases this with rfl|rfl|rfl|rfl<;>simp only[DX]<;>omega
 generalize hL:a.length=L at *;generalize hM:b.length=M at *
 go_enter Tryz.func338,Tryz.ntmps338
 go_wp2
 go_loopw [6,8] (fun tv si wr=>∃j:Nat,j≤3∧si=.int .i64 ((M:Int)-j)∧tv=.int .i64 ((DX a M j:Nat):Int)∧∃m,wr=w.drewN m) (fun _ si _=>(intOf si+3-M).toNat)
 case atStart=>exact⟨0,by omega,by simp,rfl,0,rfl⟩
 case round=>
  obtain⟨j,hj,rfl,rfl,m,rfl⟩:=hrel;have gtj:=gt j hj;have hgj:=hgd j;by_cases hj3:j<3
  ·have hg2:DX a M (j+1)=DX a M j*10000+gd a M j:=rfl;have gtj1:=gt (j+1) hj3;by_cases hi0:0≤(M:Int)-j
   ·by_cases hiL:(M:Int)-j<L
    ·obtain⟨b0,o0,rfl,hb0',hcell0⟩:=h0 (by omega);have hc:=hcell0 (M-j) (by omega);have hto:((M:Int)-j).toNat=M-j:=by omega
     have hd:gd a M j=a.getD (M-j) 0:=by unfold gd;rw[if_pos (by omega)]
     rw[←hd]at hc;clear hcell0 h0 hd h1;rw[hg2]at gtj1;generalize gd a M j=d at *;generalize DX a M j=tp at *
     go_wp2
     exact⟨⟨j+1,by omega,by congr 1;omega,by rw[hg2];simp,m,rfl⟩,by simp[intOf];omega⟩
    ·have hd:gd a M j=0:=by unfold gd;rw[if_pos (by omega),List.getD,List.getElem?_eq_none (by omega)];rfl
     rw[hd,Nat.add_zero]at hg2;rw[hg2]at gtj1;clear h0 h1;generalize DX a M j=tp at *
     go_wp2
     exact⟨⟨j+1,by omega,by congr 1;omega,by rw[hg2];simp,m,rfl⟩,by simp[intOf];omega⟩
   ·have hd:gd a M j=0:=by unfold gd;rw[if_neg (by omega)]
    rw[hd,Nat.add_zero]at hg2;rw[hg2]at gtj1;clear h0 h1;generalize DX a M j=tp at *
    go_wp2
    exact⟨⟨j+1,by omega,by congr 1;omega,by rw[hg2];simp,m,rfl⟩,by simp[intOf];omega⟩
  ·have:j=3:=by omega
   subst this;obtain⟨b1,o1,rfl,hb1,hcell1⟩:=h1 hb;have hc1':=hcell1 (M-1) (by omega);have hto1:((M:Int)-1).toNat=M-1:=by omega
   have hy1:=CN hdb (M-1);have hgb:gby b M=b.getD (M-1) 0*10000+(if 1<M then b.getD (M-2) 0 else 0):=rfl;by_cases hM1:1<M
   ·have hc2':=hcell1 (M-2) (by omega);have hto2:((M:Int)-2).toNat=M-2:=by omega
    have hy2:=CN hdb (M-2);rw[if_pos hM1]at hgb;clear hcell1 h0 h1;have hres:((min 9999 (DX a M 3/gby b M):Nat):Int)=min 9999 (wrap64 ((DX a M 3:Int)/((b.getD (M-1) 0:Int)*10000+(b.getD (M-2) 0:Int)))):=by
     rw[hgb];have hq:DX a M 3/(b.getD (M-1) 0*10000+b.getD (M-2) 0)≤DX a M 3:=Nat.div_le_self _ _;have e:(DX a M 3:Int)/((b.getD (M-1) 0:Int)*10000+(b.getD (M-2) 0:Int))=((DX a M 3/(b.getD (M-1) 0*10000+b.getD (M-2) 0):Nat):Int):=by simp
     rw[e,CJ _ (by omega)];omega
    generalize hgb':gby b M=gb at *;generalize b.getD (M-1) 0=y1 at *;generalize b.getD (M-2) 0=y2 at *;generalize htp':DX a M 3=tp at *;have hres2:=hres;have hne:(y1:Int)*10000+(y2:Int)≠0:=by omega
    have hp0:(0:Int)≤(tp:Int):=by omega
    clear hres
    go_wp2
    go_ret
    exact⟨by rw[htp',hgb',hres2];rfl,m,rfl⟩
   ·rw[if_neg hM1,Nat.add_zero]at hgb;clear hcell1 h0 h1;have hres:((min 9999 (DX a M 3/gby b M):Nat):Int)=min 9999 (wrap64 ((DX a M 3:Int)/((b.getD (M-1) 0:Int)*10000))):=by
     rw[hgb];have hq:DX a M 3/(b.getD (M-1) 0*10000)≤DX a M 3:=Nat.div_le_self _ _;have e:(DX a M 3:Int)/((b.getD (M-1) 0:Int)*10000)=((DX a M 3/(b.getD (M-1) 0*10000):Nat):Int):=by simp
     rw[e,CJ _ (by omega)];omega
    generalize hgb':gby b M=gb at *;generalize b.getD (M-1) 0=y1 at *;generalize htp':DX a M 3=tp at *;have hres2:=hres;have hne:(y1:Int)*10000≠0:=by omega
    have hp0:(0:Int)≤(tp:Int):=by omega
    clear hres
    go_wp2
    go_ret
    exact⟨by rw[htp',hgb',hres2];rfl,m,rfl⟩
theorem Lu (w:World){ops:Array Oper}{rest:List Oper}{o:Oper}{a:Act}{Q:Exit→Act→World→Prop}(hgd:o.guard=none)(s x:Operand)(ho:o.op=.call { callee:=.builtin .append,args:=#[s,x],argTypes:=#[22,22] })
 {base n:Nat} {v:Value} {xs:List Value} (hs:a.eval s=v) (hown:w.ownsRow base 3 1 v n xs) (hn:0<n) {rs:List Nat} {rv:Value} (hx:a.eval x=rv) (hrv:SI w rs rv) (hb:n+rs.length<1000000) (hbase:base≤w.heap.size)
 (h:∀v' w',w'.ownsRow base 3 1 v' (n+rs.length) (xs++rs.map (fun d=>Value.int .i64 (d:Nat)))→w.grownBy w' v.ownBlock→wpList Tryz.prog ops Q rest (a.put o.dst v') w'):wpList Tryz.prog ops Q (o::rest) a w:=by
 obtain⟨i0,hi,hz0,hz1,hz2⟩:=info_parts Sb;obtain⟨A,c,rfl,h1,h2⟩:=hrv;cases A with
 |none=>
  have hr:rs=[]:=by
   cases rs with
   |nil=>rfl|cons r l=>obtain⟨b,o,e,_⟩:=h2 (by simp);cases e
  subst hr;obtain⟨g,cap,cur,rfl,hg,hh,hc,rest'⟩:∃g cap cur,v=.slice (some ⟨g,0,none⟩) n cap∧base≤g∧w.heap[g]?=some (.cells cur 3 (0,0))∧n≤cap∧True:=by
   rcases hown.2 with⟨_,e⟩|⟨g,cap,cur,e,h1,h2,h3,_⟩
   ·omega
   ·exact⟨g,cap,cur,e,h1,h2,h3,trivial⟩
  have hrun:=run_append_nothing (P:=Tryz.prog) w 22 22 o.type 3 i0 Tryz.underlying22 hi (some ⟨g,0,none⟩) n cap hc (.slice none 0 c) (Src.ofNil w Tryz.underlying22 c);refine wpList_plain hgd fun K hK'=>?_
  unfold Oper.wp;simp[execOp,ho,resolve,invoke,builtin,hs,hx,hrun,Result.andThen];exact hK' _ _ (h _ _ (by simpa using hown) ⟨rfl,rfl,rfl,zI _,fun _ _ _=>rfl⟩)
 |some p=>
  refine wpList_append_own w hgd s x 22 ho base 3 i0 (.int .i64 0) 1 8 Tryz.underlying22 hi hz0 hz1 hz2 rfl (by decide) v n xs hs hown p rs.length c (rs.map (fun d=>Value.int .i64 (d:Nat))) hx (by simp) (fun j u hu=>?_) (fun u hu=>?_) (by unfold maxLen;omega) (by omega) hbase (fun v' w' q1 q2 _=>h v' w' q1 q2)
  ·rw[List.getElem?_map,Option.map_eq_some_iff]at hu;obtain⟨d,hd,rfl⟩:=hu;have hj:=(zN.1 hd).1;obtain⟨b,o',e,_,q⟩:=h2 (by omega);cases e;have:=q j hj;rw[List.getD,hd]at this;have e:(⟨b,o',none⟩:Addr).add j=⟨b,o'+j,none⟩:=by
    by_cases h0:j=0
    ·subst h0;simp[Addr.add]
    ·simp[Addr.add,h0]
   rw[e];exact this
  ·obtain⟨d,_,rfl⟩:=List.mem_map.1 hu;rfl
theorem VB {x y:List Nat}{m n:Nat}(hx:N4 x m)(hy:N4 y n)(h:m≤n):x.length≤y.length:=by
 rcases Nat.lt_or_ge y.length x.length with h1|h1
 ·have:=ND hy.lt hx.last h1;rw[hx.val,hy.val]at this;omega
 ·exact h1
theorem ZB {l:List Nat}{n:Nat}(h:N4 l n)(h0:0<n):l≠[]:=by rintro rfl;have:=h.val;simp[Av]at this;omega
theorem Zm {l:List Nat}{n:Nat}(h:N4 l n)(h0:0<n):0<l.getD (l.length-1) 0:=by
 have hne:=ZB h h0;have hl:=List.length_pos_iff.2 hne;rcases Nat.eq_zero_or_pos (l.getD (l.length-1) 0) with e|e
 ·exfalso;apply h.last;rw[List.getLast?_eq_getElem?];rw[List.getD,zK (by omega)]at e;rw[zK (by omega)];simpa using e
 ·exact e
theorem IN {l:List Nat}{k:Nat}(h:l.length≤k+3):Av l=Av (l.take k)+10000^k*(l.getD k 0+10000*(l.getD (k+1) 0+10000*l.getD (k+2) 0)):=by have h3:l.take (k+3)=l:=List.take_of_length_le h;have e1:=Fb l (k+2);have e2:=Fb l (k+1);have e3:=Fb l k;rw[show k+2+1=k+3 from rfl,h3]at e1;have p1:10000^(k+1)=10000^k*10000:=rfl;have p2:10000^(k+2)=10000^k*10000*10000:=rfl;rw[e1,show k+2=k+1+1 from rfl,e2,e3,show k+1+1=k+2 from rfl,p1,p2];generalize 10000^k=P;generalize l.getD k 0=x;generalize l.getD (k+1) 0=y;generalize l.getD (k+2) 0=z;simp only[Nat.mul_add,Nat.mul_assoc,Nat.add_assoc]
theorem Aai {r b:List Nat}(hr:∀d∈r,d<10000)(hb:N4 b (Av b))(hb0:0<Av b)(hrb:Av r<10000*Av b)(hrl:r.length≤b.length+1):Av r/Av b≤min 9999 (DX r b.length 3/gby b b.length):=by
 have ht:=Zm hb hb0;have hq:Av r/Av b<10000:=by rw[Nat.div_lt_iff_lt_mul hb0];exact hrb
 have hle:Av r/Av b*Av b≤Av r:=Nat.div_mul_le_self _ _;have hne:=List.length_pos_iff.2 (ZB hb hb0);refine Nat.le_min.2 ⟨by omega,?_⟩;generalize hQ:Av r/Av b=q at *;have hgb:0<gby b b.length:=by unfold gby;omega
 rw[Nat.le_div_iff_mul_le hgb];by_cases h2:1<b.length
 ·obtain⟨k,hk⟩:∃k,b.length=k+2:=⟨b.length-2,by omega⟩;have er:=IN (l:=r) (k:=k) (by omega);have eb:Av b=Av (b.take k)+10000^k*gby b b.length:=by
   rw[IN (l:=b) (k:=k) (by omega)];unfold gby;rw[if_pos h2,hk,show k+2-1=k+1 by omega,show k+2-2=k by omega];have:b.getD (k+2) 0=0:=by rw[List.getD,List.getElem?_eq_none (by omega)];rfl
   rw[this];congr 2;omega
  have etop:DX r b.length 3=r.getD k 0+10000*(r.getD (k+1) 0+10000*r.getD (k+2) 0):=by rw[hk];simp only[DX,gd];rw[if_pos (by omega),if_pos (by omega),if_pos (by omega),show k+2-0=k+2 by omega,show k+2-1=k+1 by omega,show k+2-2=k by omega];omega
  rw[←etop]at er;have hlow:=Kz (l:=r.take k) fun d hd=>hr d (List.mem_of_mem_take hd)
  have hlen:(r.take k).length≤k:=by simp;omega
  have hpow:=Nat.pow_le_pow_right (n:=10000) (by decide) hlen;have hP:0<10000^k:=Nat.pow_pos (by decide);generalize DX r b.length 3=T at *;generalize gby b b.length=G at *;generalize 10000^k=P at *;have h1:q*(P*G)≤Av r:=zM (Nat.mul_le_mul_left q (by omega)) hle;have h3:P*(q*G)<P*(T+1):=by rw[Nat.mul_left_comm]at h1;rw[Nat.mul_add,Nat.mul_one];omega
  have:=Nat.lt_of_mul_lt_mul_left h3;omega
 ·have hb1:b.length=1:=by omega
  have er:=IN (l:=r) (k:=0) (by omega);have eb:=IN (l:=b) (k:=0) (by omega);have z1:b.getD (0+1) 0=0:=by rw[List.getD,List.getElem?_eq_none (by omega)];rfl
  have z2:b.getD (0+2) 0=0:=by rw[List.getD,List.getElem?_eq_none (by omega)];rfl
  have z3:r.getD (0+2) 0=0:=by rw[List.getD,List.getElem?_eq_none (by omega)];rfl
  rw[z1,z2]at eb;rw[z3]at er;simp only[List.take_zero,Av,Nat.pow_zero,Nat.one_mul,Nat.zero_add,Nat.mul_zero,Nat.add_zero]at er eb;rw[hb1];have g0:gd r 1 0=r.getD 1 0:=rfl;have g1:gd r 1 1=r.getD 0 0:=rfl;have g2:gd r 1 2=0:=rfl;have g3:gby b 1=b.getD 0 0*10000:=rfl;simp only[DX];rw[g0,g1,g2,g3];rw[er,eb]at hle;generalize b.getD 0 0=y at *;have e:q*(y*10000)=q*y*10000:=(Nat.mul_assoc _ _ _).symm;rw[e];generalize q*y=z at *;omega
theorem AbF (w:World)(x:Value):(w.alloc (.cells #[x] 3)).ownsRow w.heap.size 3 1 (.slice (some ⟨w.heap.size,0,none⟩) 1 1) 1 [x]:=
 ⟨rfl,.inr ⟨_,1,#[x],rfl,zI _,heap_alloc_new w _,zI _,by decide,rfl,rfl⟩⟩
theorem Io {w w':World}{N g L c:Nat}{xs:List Value}(h:w.ownsRow N 3 1 (.slice (some ⟨g,0,none⟩) L c) L xs)(hb:Below w.heap.size w w'):w'.ownsRow N 3 1 (.slice (some ⟨g,0,none⟩) L c) L xs:=
 WX h fun k hk=>by have:=Gz h k hk;exact hb.block k this
theorem si_set {w:World}{N i:Nat}{x:Value}{rs:List Nat}{rv:Value}(h:SI w rs rv)(hf:SF (N+1) rv):SI (w.setCell ⟨N,i,none⟩ x) rs rv:=by
 obtain⟨A,c,rfl,h1,h2⟩:=h;refine⟨A,c,rfl,h1,fun h0=>?_⟩;obtain⟨b,o,rfl,q1,q2⟩:=h2 h0;have hb:N+1≤b:=by
  cases hn:rs.length with
  |zero=>omega|succ n=>rw[hn]at hf;exact hf
 refine⟨b,o,rfl,?_,fun j hj=>?_⟩
 ·have:=(Below.refl w.heap.size w).size;show b<(w.setCell _ _).heap.size;have e:=congrArg Option.isSome (Below.heap_setCell w ⟨N,i,none⟩ x b (by show b≠N;omega));rw[Array.getElem?_eq_getElem q1]at e;rcases Nat.lt_or_ge b (w.setCell ⟨N,i,none⟩ x).heap.size with h|h
  ·exact h
  ·rw[Array.getElem?_eq_none h]at e;cases e
 ·rw[World.cell?_of_block (w:=w) (Below.heap_setCell w ⟨N,i,none⟩ x b (by show b≠N;omega))];exact q2 j hj
theorem AcM {x r:Nat}{rs:List Nat}(hx:x<10000)(h:N4 rs r):N4 (trim (x::rs)) (x+10000*r):=by
 have:=KD (l:=x::rs) (by
  intro d hd;rcases zH.1 hd with e|e
  ·rw[e];exact hx
  ·exact h.lt d e)
 rwa[show Av (x::rs)=x+10000*r by simp only[Av,h.val]]at this
theorem Pv:∀(qs:List Nat) (j q:Nat),j<qs.length→(qs.set j q).drop j=q::qs.drop (j+1)
 |[],j,q,h=>by simp at h
 |x::qs,0,q,_=>rfl|x::qs,j+1,q,h=>Pv qs j q (by simpa using h)
theorem Zb {x T y:Nat}(hy:0<y):(x+10000*T)/y=(x+10000*(T%y))/y+10000*(T/y)∧(x+10000*T)%y=(x+10000*(T%y))%y:=by
 have h:x+10000*T=(x+10000*(T%y))+y*(10000*(T/y)):=by have:=Nat.div_add_mod T y;have e:y*(10000*(T/y))=10000*(y*(T/y)):=Nat.mul_left_comm _ _ _;rw[e];omega
 rw[h,Nat.add_mul_div_left _ _ hy,Nat.add_mul_mod_self_left];exact⟨rfl,rfl⟩
set_option maxHeartbeats 6400000 in
theorem r_over {a b:List Nat}{va vb:Value}{w:World}(hva:SI w a va)(hvb:SI w b vb)(hda:∀d∈a,d<10000){y:Nat}(hb:N4 b y)(hy:0<y)(hla:a.length<100000)(hlb:b.length<100000):Calls Tryz.prog 285 #[va,vb] w (fun e w'=>(∃vq qs vr rs,e=.returned (.tuple #[vq,vr])∧SI w' qs vq∧N4 qs (Av a/y)∧qs.length≤a.length∧SI w' rs vr∧N4 rs (Av a%y)∧rs.length≤b.length)∧Below w.heap.size w w'):=by
 obtain⟨A0,c0,rfl,hc0,h0⟩:=hva;obtain⟨i0,hi,hz0,hz1,hz2⟩:=info_parts Sb;have hbv:=hb.val;have hbb:N4 b (Av b):=⟨hb.lt,hb.last,rfl⟩;have hbt:=Zm hb hy;have hbl:=List.length_pos_iff.2 (ZB hb hy);generalize hL:a.length=L at *
 go_enter Tryz.func285,Tryz.ntmps285
 go_wp2_with (at_make;go_loud (refine wpList_make_full _ rfl _ _ 22 rfl w.heap.size 3 i0 (.int .i64 0) 1 Tryz.underlying22 hi hz0 hz1 _ _ _ _ L rfl rfl (by omega) (by omega) ?b2 ?b3 (zI _) ?_))
 case b2=>rw[hz2];omega
 case b3=>unfold maxLen;omega
 intro w0 hown0 hgrow0
 go_wp2
 go_loopw [7,8] (fun rv si wr=>∃(j:Nat) (qs rs:List Nat),j≤L∧si=.int .i64 ((j:Int)-1)∧qs.length=L∧(∀q∈qs,q<10000)∧Av (qs.drop j)=Av (a.drop j)/y∧
  wr.ownsRow w.heap.size 3 1 (.slice (some ⟨w.heap.size,0,none⟩) L L) L (qs.map (fun d=>Value.int .i64 (d:Nat)))∧SI wr rs rv∧SF (w.heap.size+1) rv∧N4 rs (Av (a.drop j)%y)∧Below w.heap.size w wr)
  (fun _ si _=>(intOf si+1).toNat)
 case atStart=>
  refine⟨L,List.replicate L 0,[],zI _,rfl,by simp,fun q hq=>by rw[List.eq_of_mem_replicate hq];decide,?_,?_,⟨none,0,rfl,zI _,fun h=>absurd h (by simp)⟩,trivial,?_,(Below.refl _ _).grown hgrow0 (zI _) (fun k h=>by cases h)⟩
  ·rw[List.drop_of_length_le (by simp),List.drop_of_length_le (by omega)];simp[Av]
  ·have h:=Pt L;rw[Nat.mul_one]at h;rw[←h];exact hown0
  ·rw[List.drop_of_length_le (l:=a) (by omega)];exact⟨by simp,by simp,by simp[Av]⟩
 case round=>
  obtain⟨j,qs,rs,hj,rfl,hql,hqd,hqv,hown,hrv,hsf,hrn,hnx⟩:=hrel;have hwl:=Gz hown w.heap.size rfl;cases j with
  |zero=>
   go_wp2_with fail
   have hown1:=hown;rw[←hql]at hown1;have hsq:=F7 hown1;rw[hql]at hsq;refine(MP hsq (by omega)).mono ?_;rintro e w1 ⟨⟨v',rfl,hv',_⟩,rfl⟩
   go_wp2
   refine bodyPost_ret (v:=.tuple #[v',u7]) (by simp[results,Tryz.results285,go_sem]) rfl ?_;rw[List.drop_zero]at hqv hrn;rw[List.drop_zero]at hqv;refine⟨⟨_,_,_,_,rfl,hv',?_,by have:=Ku qs;omega,hrv,hrn,VB hrn hb (Nat.le_of_lt (Nat.mod_lt _ hy))⟩,hnx⟩;have:=KD hqd;rwa[hqv]at this
  |succ j=>
   obtain⟨b0,o0,rfl,hb0,hcell0⟩:=h0 (by omega);have hc1':=(hnx.cell (p:=⟨b0,o0+j,none⟩) hb0).trans (hcell0 j (by omega));have hx1:=CN hda j;have hdr:=Bf a j (by omega);have hsi:((j+1:Nat):Int)-1=(j:Int):=by omega
   have hrl:=VB hrn hb (Nat.le_of_lt (Nat.mod_lt _ hy));rw[hsi];generalize a.getD j 0=x at *
   go_wp2_with (first
    |(at_builtin;refine Lu _ rfl _ _ rfl rfl (AbF _ _) (by decide) rfl (hrv.mono ((Below.refl _ _).alloc (zI _) _)) (by omega) (by simp) ?_;intro v' w1 hown' hgrow'))
   have ho2:w1.ownsRow wr.heap.size 3 1 v' (x::rs).length ((x::rs).map (fun d=>Value.int .i64 (d:Nat))):=by rw[show(x::rs).length=1+rs.length by simp[Nat.add_comm]];exact hown'
   have hb1:Below wr.heap.size wr w1:=((Below.refl wr.heap.size wr).alloc (zI _) _).grown hgrow' (by simp) (fun q hq=>by cases hq;exact zI _);refine(MP (F7 ho2) (by simp;omega)).mono ?_;rintro e w1' ⟨⟨v2,rfl,hv2,hsf2⟩,rfl⟩;have hf2:=hsf2 _ (IL ho2);have hn2:=AcM hx1 hrn;have hl2:=Ku (x::rs);rw[List.length_cons]at hl2;have hry:Av (a.drop (j+1))%y<y:=Nat.mod_lt _ hy;generalize hr0:Av (a.drop (j+1))%y=r at *;have hRb:x+10000*r<10000*y:=by omega
   generalize hRl:trim (x::rs)=R at *;clear hown' hgrow' ho2 hsf2;have hws:=hnx.size;have hx1b:Below w.heap.size w w1':=hnx.trans (hb1.mono hws);have hvb1:=hvb.mono hx1b
   go_wp2_with fail
   refine(Abt hv2 hvb1 hn2.lt hb.lt (by omega) (by omega) hbt hbl).mono ?_;rintro e w2 ⟨rfl,m,rfl⟩;have hge:=Aai hn2.lt hbb (by omega) (by rw[hn2.val,hbv];exact hRb) (by omega);rw[hn2.val,hbv]at hge;generalize hq0:min 9999 (DX R b.length 3/gby b b.length)=q0 at *;have hq9:q0≤9999:=by omega
   have hdm:=Nat.div_add_mod (x+10000*r) y;have hmodlt:(x+10000*r)%y<y:=Nat.mod_lt _ hy;have hqlt:∀q,x+10000*r<y*q→(x+10000*r)/y<q:=fun q h=>by rw[Nat.div_lt_iff_lt_mul hy,Nat.mul_comm q y];exact h
   have hqle:∀q,¬x+10000*r<y*q→q≤(x+10000*r)/y:=fun q h=>by rw[Nat.le_div_iff_mul_le hy,Nat.mul_comm q y];omega
   generalize hQt:(x+10000*r)/y=qt at *;generalize hMt:(x+10000*r)%y=mt at *;clear hq0;have hb2:Below w1'.heap.size w1' (w1'.drewN m):=below_drewN (Below.refl _ _) m;generalize hW2:w1'.drewN m=w2 at *;have hv2':=hv2.mono hb2;have hvb2:=hvb1.mono hb2;have hx2b:Below w.heap.size w w2:=hx1b.trans (hb2.mono hx1b.size);have hown2:=Io (Io hown hb1) hb2;have hwl2:=Gz hown2 w.heap.size rfl
   go_wp2
   go_loopw [9] (fun qv wi=>∃q:Nat,qv=.int .i64 q∧qt≤q∧q≤9999∧Below w2.heap.size w2 wi) (fun qv _=>(intOf qv).toNat)
   case atStart=>exact⟨q0,rfl,hge,hq9,Below.refl _ _⟩
   case round=>
    obtain⟨q,rfl,hqq,hq9,hbi⟩:=hrel
    go_wp2_with fail
    refine(Ph (by omega) _).mono ?_;rintro e w3 ⟨⟨v3,l3,rfl,hs3,hn3,hl3,hf3⟩,hb3⟩;have hi3:=hbi.trans (hb3.mono hbi.size)
    go_wp2_with fail
    refine(QH (hvb2.mono hi3) hs3 hb.lt hn3.lt (by omega)).mono ?_;rintro e w4 ⟨⟨v4,l4,rfl,hs4,hn4,hl4,hf4⟩,hb4⟩;have hi4:=hi3.trans (hb4.mono hi3.size);rw[hb.val,hn3.val]at hn4
    go_wp2_with fail
    refine(ZE hs4 (hv2'.mono hi4) hn4 hn2 (by omega) (by omega)).mono ?_;rintro e w5 ⟨rfl,m5,rfl⟩;have hi5:Below w2.heap.size w2 (w4.drewN m5):=below_drewN hi4 m5;generalize w4.drewN m5=w5 at *;by_cases hgt:x+10000*r<y*q
    ·rw[BR (Int.ofNat_lt.2 hgt)];have hq1:=hqlt q hgt
     go_wp2
     exact⟨⟨q-1,by congr 1;omega,by omega,by omega,hi5⟩,by simp[intOf];omega⟩
    ·have hQ:qt=q:=by have:=hqle q hgt;omega
     have hO':AS (y*q:Nat) (x+10000*r:Nat)≤0:=by
      rcases Nat.lt_or_ge (y*q) (x+10000*r) with h|h
      ·rw[BL (Int.ofNat_lt.2 h)];decide
      ·rw[BX (by omega)];decide
     generalize AS (y*q:Nat) (x+10000*r:Nat)=oo at *;have hx5b:Below w.heap.size w w5:=hx2b.trans (hi5.mono hx2b.size);have hown5:=Io hown2 hi5;obtain⟨hco,hfo⟩:=Q5 hown5 hql (show j<L by omega);obtain⟨q1,q2⟩:=NQ hown5 hx5b j q (v:=(q:Int)) rfl;have hsv5:=si_set (N:=w.heap.size) (i:=j) (x:=.int .i64 (q:Int)) (hv2'.mono hi5) (hf2.up (by omega));have hbv5:SI (w5.setCell ⟨w.heap.size,j,none⟩ (.int .i64 (q:Int))) b vb:=hvb.mono q2;subst hQ;clear hqlt hqle hgt
     go_wp2_with fail
     generalize w5.setCell ⟨w.heap.size,j,none⟩ (.int .i64 (qt:Int))=w6 at *;refine(Ph (by omega) _).mono ?_;rintro e w7 ⟨⟨v7,l7,rfl,hs7,hn7,hl7,hf7⟩,hb7⟩
     go_wp2_with fail
     refine(QH (hbv5.mono hb7) hs7 hb.lt hn7.lt (by omega)).mono ?_;rintro e w8 ⟨⟨v8,l8,rfl,hs8,hn8,hl8,hf8⟩,hb8⟩;rw[hb.val,hn7.val]at hn8;have hi8:=hb7.trans (hb8.mono hb7.size)
     go_wp2_with fail
     refine(Adf (hsv5.mono hi8) hs8 hn2.lt hn8.lt (by omega) (VB hn8 hn2 (by omega)) (by rw[hn8.val,hn2.val];omega)).mono ?_;rintro e w9 ⟨⟨v9,l9,rfl,hs9,hn9,hl9,hf9⟩,hb9⟩;rw[hn2.val,hn8.val,show x+10000*r-y*qt=mt by omega]at hn9;have hi9:=hi8.trans (hb9.mono hi8.size);have hx9:=q2.trans (hi9.mono q2.size);have hown9:=Io q1 hi9;have hds:=Zb (x:=x) (T:=Av (a.drop (j+1))) hy;rw[hr0,hQt,hMt]at hds;have hwl8:=(q2.trans (hi8.mono q2.size)).size;have hwlt:w.heap.size<w8.heap.size:=by have:=Gz (Io q1 hi8) w.heap.size rfl;exact this
     have hva':Av (a.drop j)=x+10000*Av (a.drop (j+1)):=by rw[hdr];rfl
     go_wp2
     refine⟨⟨j,qs.set j qt,l9,by omega,rfl,by rw[List.length_set];exact hql,QQ hqd (by omega) _,?_,hown9,hs9,hf9.up (by omega),?_,hx9⟩,by simp[intOf]⟩
     ·rw[Pv qs j qt (by omega),hva',hds.1,←hqv];rfl
     ·rw[hva',hds.2];exact hn9
def E3 (t:List UInt8):Prop:=∀d∈t,48≤d.toNat∧d.toNat≤57
theorem XO {m:Nat}(h:m<10):(48+UInt8.ofNat m:UInt8).toNat=48+m:=by rw[UInt8.toNat_add,UInt8.toNat_ofNat'];show(48+m%256)%256=_;omega
theorem Fc (d:UInt8)(s:List UInt8):AT (d::s)=(d.toNat-48)*10^s.length+AT s:=by have:=C4 [d] s;rw[List.singleton_append]at this;rw[this];simp[AT]
theorem MK (d:UInt8)(s:List UInt8):(({ data:=#[d] } : ByteArray) ++ { data:=s.toArray }) = { data:=(d::s).toArray }:=by apply ByteArray.ext;simp
theorem Lp (v:Int)(w:World):(convert 276 9 (.slice (some ⟨w.heap.size,0,none⟩) 1 1)).run Tryz.prog (w.alloc (.cells #[.int .u8 v] 5))=.ok (.string { data:=#[UInt8.ofNat v.toNat] }) (w.alloc (.cells #[.int .u8 v] 5)):=by
 have:=run_convert_bytes_arg (P:=Tryz.prog) (w.alloc (.cells #[.int .u8 v] 5)) 276 5 (by kernel_rfl) (by kernel_rfl) w.heap.size 0 1 1 [v] rfl (fun i hi=>by
  have:i=0:=by omega
  subst this;exact cell_one_new w (.int .u8 v) 5 0 _ rfl) 9 (by kernel_rfl)
 rw[this];rfl
set_option maxHeartbeats 4000000 in
theorem r_text {l:List Nat}{n:Nat}{vl:Value}{w:World}(hvl:SI w l vl)(hn:N4 l n)(hll:l.length<100000)(h0':0<l.length):Calls Tryz.prog 212 #[vl] w (fun e w'=>(∃c r,e=.returned (.string { data:=(c::r).toArray })∧E3 (c::r)∧(c=48→r=[])∧AT (c::r)=n∧(c::r).length≤4*l.length)∧Below w.heap.size w w'):=by
 obtain⟨A0,c0,rfl,hc0,h0⟩:=hvl;have hlt:=hn.lt;have hval:=hn.val;generalize hL:l.length=L at *;have kz:(((L:Int)==0):Bool)=false:=by rw[beq_eq_false_iff_ne];omega
 go_enter Tryz.func212,Tryz.ntmps212
 go_wp2
 go_loopw [3,4] (fun ov si wr=>∃(i:Nat) (t:List UInt8),i≤L∧ov=.string { data:=t.toArray }∧si=.int .i64 i∧E3 t∧t.length=4*i∧AT t=Av (l.take i)∧Below w.heap.size w wr) (fun _ si _=>L-(intOf si).toNat)
 case atStart=>exact⟨0,[],Nat.zero_le _,rfl,rfl,(fun _ h=>by cases h),rfl,by simp[AT,Av],Below.refl _ _⟩
 case round=>
  obtain⟨i,t,hiL',rfl,rfl,htd,htl,htv,hnx⟩:=hrel;by_cases hiL:i<L
  ·obtain⟨b0,o0,rfl,hb0,hcell0⟩:=h0 (by omega);have hc1':=(hnx.cell (p:=⟨b0,o0+i,none⟩) hb0).trans (hcell0 i hiL);have hx1:=CN hlt i;have htk:=Fb l i;generalize l.getD i 0=x at *
   go_wp2
   go_loopw [3,5,6] (fun ov nv kv wi=>∃(k:Nat) (s:List UInt8),k≤4∧ov=.string { data:=s.toArray }∧nv=.int .i64 ((x/10^k:Nat):Int)∧kv=.int .i64 k∧E3 s∧s.length=4*i+k∧AT s=AT t+10^(4*i)*(x%10^k)∧Below w.heap.size w wi) (fun _ _ kv _=>4-(intOf kv).toNat)
   case atStart=>exact⟨0,t,by omega,rfl,by simp,rfl,htd,by omega,by simp[Nat.mod_one],hnx⟩
   case round=>
    obtain⟨k,s,hk,rfl,rfl,rfl,hsd,hsl,hsv,hni⟩:=hrel;by_cases hk4:k<4
    ·have hxk:x/10^k<10000:=Nat.lt_of_le_of_lt (Nat.div_le_self _ _) hx1;have hst:x%10^(k+1)=x%10^k+10^k*(x/10^k%10):=Nat.mod_pow_succ;have hdv:x/10^(k+1)=x/10^k/10:=by rw[Nat.pow_succ,Nat.div_div_eq_div_mul]
     generalize x/10^k=z at *;have hcv:=fun v=>Lp v wr
     go_wp2
     have hz10:z%10<10:=Nat.mod_lt _ (by decide);have hdn:=XO hz10;refine⟨⟨k+1,(48+UInt8.ofNat (z%10))::s,by omega,by rw[MK],by rw[hdv];congr 1,by simp,fun d hd=>?_,by simp;omega,?_,hni.alloc hni.size _⟩,by simp[intOf];omega⟩
     ·rcases zH.1 hd with e|e
      ·subst e;omega
      ·exact hsd d e
     ·rw[Fc,hdn,hsl,hsv,hst,Nat.pow_add,Nat.add_sub_cancel_left,Nat.mul_add];have e:z%10*(10^(4*i)*10^k)=10^(4*i)*(10^k*(z%10)):=by rw[Nat.mul_comm (z%10),Nat.mul_assoc]
      rw[e];omega
    ·have:k=4:=by omega
     subst this
     go_wp2
     refine⟨⟨i+1,s,hiL,rfl,by simp,hsd,by omega,?_,hni⟩,by simp[intOf];omega⟩;rw[hsv,htk,htv,Nat.pow_mul,Nat.mod_eq_of_lt (show x<10^4 from hx1)]
  ·have:i=L:=by omega
   subst this;rw[List.take_of_length_le (by omega)]at htv
   go_wp2
   go_loopw [3] (fun ov wi=>∃(c:UInt8) (r:List UInt8),ov=.string { data:=(c::r).toArray }∧E3 (c::r)∧AT (c::r)=n∧(c::r).length≤4*i∧Below w.heap.size w wi) (fun ov _=>lenS ov)
   case atStart=>
    cases t with
    |nil=>simp at htl;omega
    |cons c r=>exact⟨c,r,rfl,htd,by rw[htv,hval],by omega,hnx⟩
   case round=>
    obtain⟨c,r,rfl,hcd,hcv,hcl,hni⟩:=hrel;have hsz:({ data:=(c::r).toArray } : ByteArray).size=r.length+1:=by show(c::r).toArray.size=_;simp
    have hg0:∀h,(({ data:=(c::r).toArray } : ByteArray)[0]'h)=c:=fun _=>rfl
    cases r with
    |nil=>
     go_wp2
     go_ret
     exact⟨⟨c,[],rfl,hcd,fun _=>rfl,hcv,by simpa using hcl⟩,hni⟩
    |cons c' r=>
     by_cases hc:c=48
     ·subst hc;have hex:({ data:=(48::c'::r).toArray } : ByteArray).extract 1 (r.length+1+1) = { data:=(c'::r).toArray }:=St (48::c'::r) 1
      go_wp2
      refine⟨⟨c',r,rfl,fun d hd=>hcd d (zO _ hd),by rw[←hcv,Fc 48];simp,by simp at hcl ⊢;omega,hni⟩,?_⟩;show(c'::r).toArray.size<(48::c'::r).toArray.size;simp
     ·have hcn:(((c.toNat:Int)==48):Bool)=false:=by rw[beq_eq_false_iff_ne];intro e;exact hc (UInt8.toNat_inj.1 (by show c.toNat=48;omega))
      go_wp2
      go_ret
      exact⟨⟨c,c'::r,rfl,hcd,fun h=>absurd h hc,hcv,by simpa using hcl⟩,hni⟩
structure TX (s:List UInt8)(z:Int):Prop where
 form:Form s
 num:OU s=z
theorem Qc {c:UInt8}{r:List UInt8}(h:E3 (c::r)):BD (c::r)=c::r∧I7 (c::r)=false:=by
 have h1:=(h c (List.mem_cons_self ..)).1;have:I7 (c::r)=false:=by unfold I7;rw[List.head?_cons];rw[beq_eq_false_iff_ne];intro e;cases e;exact absurd h1 (by decide)
 unfold BD;rw[this];exact⟨rfl,rfl⟩
theorem abs_neg (r:List UInt8):BD (45::r)=r∧I7 (45::r)=true:=⟨rfl,rfl⟩
theorem JG {c:UInt8}{r:List UInt8}{n:Nat}(h:E3 (c::r))(hz:c=48→r=[])(hv:AT (c::r)=n)(hl:(c::r).length<999999):TX (c::r) (n:Int):=by
 obtain⟨a1,a2⟩:=Qc h;refine⟨⟨⟨c,r,a1,h,hz⟩,fun e=>?_,by omega⟩,?_⟩
 ·cases e;have:=(h 45 (List.mem_cons_self ..)).1;exact absurd this (by decide)
 ·unfold OU;rw[a2,a1,hv];rfl
theorem UT {c:UInt8}{r:List UInt8}{n:Nat}(h:E3 (c::r))(hz:c=48→r=[])(hv:AT (c::r)=n)(hn:0<n)(hl:(c::r).length<999999):TX (45::c::r) (-(n:Int)):=by
 obtain⟨a1,a2⟩:=abs_neg (c::r);refine⟨⟨⟨c,r,a1,h,hz⟩,fun e=>?_,by simp only[List.length_cons]at hl ⊢;omega⟩,?_⟩
 ·cases e;simp[AT]at hv;omega
 ·unfold OU;rw[a2,a1,hv];rfl
theorem Ab2 {c:Nat}{A:Option Addr}(w:World):Calls Tryz.prog 212 #[.slice A 0 c] w (fun e w'=>e=.returned (.string { data:=[(48:UInt8)].toArray })∧w'=w):=by
 go_enter Tryz.func212,Tryz.ntmps212
 go_wp2
 go_ret
 exact⟨rfl,rfl⟩
theorem P5 {l:List Nat}{n:Nat}{vl:Value}{w:World}(hvl:SI w l vl)(hn:N4 l n)(hll:l.length<100000):Calls Tryz.prog 212 #[vl] w (fun e w'=>(∃c r,e=.returned (.string { data:=(c::r).toArray })∧E3 (c::r)∧(c=48→r=[])∧AT (c::r)=n∧(c::r).length≤4*l.length+1)∧Below w.heap.size w w'):=by
 cases l with
 |nil=>
  obtain⟨A,c,rfl,_,_⟩:=hvl;refine(Ab2 w).mono ?_;rintro e w' ⟨rfl,rfl⟩;have:n=0:=by rw[←hn.val];rfl
  subst this;exact⟨⟨48,[],rfl,by intro d hd;rw[List.mem_singleton]at hd;subst hd;decide,fun _=>rfl,rfl,by simp⟩,Below.refl _ _⟩
 |cons a l=>refine(r_text hvl hn hll (by simp)).mono ?_;rintro e w' ⟨⟨c,r,h1,h2,h3,h4,h5⟩,h6⟩;exact⟨⟨c,r,h1,h2,h3,h4,by omega⟩,h6⟩
theorem M5 {b:Bool}{l:List Nat}{n:Nat}{vl:Value}{w:World}(hvl:SI w l vl)(hn:N4 l n)(hll:l.length<100000):Calls Tryz.prog 148 #[.bool b,vl] w (fun e w'=>(∃t,e=.returned (.string { data:=t.toArray })∧TX t (bif b then -(n:Int) else n)∧(BD t).length≤4*l.length+1)∧Below w.heap.size w w'):=by
 have hvl2:=hvl;obtain⟨A,c0,rfl,hc,h0⟩:=hvl;cases b with
 |false=>
  go_enter Tryz.func148,Tryz.ntmps148
  go_wp2_with fail
  refine(P5 hvl2 hn hll).mono ?_;rintro e w' ⟨⟨c,r,rfl,h2,h3,h4,h5⟩,h6⟩
  go_wp2
  go_ret
  exact⟨⟨c::r,rfl,JG h2 h3 h4 (by omega),by rw[(Qc h2).1];exact h5⟩,h6⟩
 |true=>
  by_cases hz:0<(l.length:Int)
  ·go_enter Tryz.func148,Tryz.ntmps148
   go_wp2_with fail
   refine(P5 hvl2 hn hll).mono ?_;rintro e w' ⟨⟨c,r,rfl,h2,h3,h4,h5⟩,h6⟩;have h5':r.length+1≤4*l.length+1:=h5
   go_wp2
   go_ret
   have hp:0<n:=by have:=Oy hn.last (by intro e;subst e;simp at hz);rw[hn.val]at this;have hp:=Nat.pow_pos (n:=l.length-1) (show 0<10000 by decide);omega
   have e:(({ data:=#[45] } : ByteArray) ++ { data:=(c::r).toArray }) = { data:=(45::c::r).toArray }:=MK 45 (c::r);refine⟨⟨45::c::r,?_,UT h2 h3 h4 hp (by omega),by rw[(abs_neg (c::r)).1];exact h5⟩,h6⟩;rw[←e];rfl
  ·go_enter Tryz.func148,Tryz.ntmps148
   go_wp2_with fail
   refine(P5 hvl2 hn hll).mono ?_;rintro e w' ⟨⟨c,r,rfl,h2,h3,h4,h5⟩,h6⟩
   go_wp2
   go_ret
   have:l=[]:=List.eq_nil_of_length_eq_zero (by omega);subst this;have:n=0:=by rw[←hn.val];rfl
   subst this;exact⟨⟨c::r,rfl,JG h2 h3 h4 (by omega),by rw[(Qc h2).1];exact h5⟩,h6⟩
theorem AbE (v:Int)(W:World)(g:Nat)(h:W.cell? ⟨g,0,none⟩=some (.int .u8 v)):(convert 276 9 (.slice (some ⟨g,0,none⟩) 1 1)).run Tryz.prog W=.ok (.string { data:=#[UInt8.ofNat v.toNat] }) W:=by
 have:=run_convert_bytes_arg (P:=Tryz.prog) W 276 5 (by kernel_rfl) (by kernel_rfl) g 0 1 1 [v] rfl (fun i hi=>by
  have:i=0:=by omega
  subst this;exact h) 9 (by kernel_rfl)
 rw[this];rfl
theorem AbS {n:Nat}(h:n<10):(UInt8.ofNat (48+n)).toNat=48+n:=by rw[UInt8.toNat_ofNat'];omega
theorem Ia {n:Nat}(h:n<10):E3 [UInt8.ofNat (48+n)]∧AT [UInt8.ofNat (48+n)]=n:=by
 have e:=AbS h;refine⟨fun d hd=>?_,?_⟩
 ·rw[List.mem_singleton]at hd;subst hd;omega
 ·simp only[AT,List.foldl_cons,List.foldl_nil,e];omega
theorem Zn (c:UInt8)(r:List UInt8)(d:UInt8):(({ data:=(c::r).toArray } : ByteArray) ++ { data:=#[d] }) = { data:=(c::(r++[d])).toArray }:=by apply ByteArray.ext;simp
set_option maxHeartbeats 800000 in
theorem Wq:∀(k n:Nat),n<10^(k+1)→k<18→∀w:World,Calls Tryz.prog 147 #[.int .i64 (n:Int)] w (fun e w'=>(∃c r,e=.returned (.string { data:=(c::r).toArray })∧E3 (c::r)∧(c=48→r=[])∧AT (c::r)=n∧(c::r).length≤k+1)∧Below w.heap.size w w'):=by
 intro k
 induction k with
 |zero=>
  intro n hn _ w;have hn:n<10:=hn;have hcv:=fun v=>Lp v w
  go_enter Tryz.func147,Tryz.ntmps147
  go_wp2
  go_ret
  obtain⟨o1,o2⟩:=Ia hn;exact⟨⟨_,[],rfl,o1,fun _=>rfl,o2,by simp⟩,(Below.refl _ _).alloc (zI _) _⟩
 |succ k ih=>
  intro n hn hk w;have hb:n<1000000000000000000:=Nat.lt_of_lt_of_le hn (Nat.pow_le_pow_right (j:=18) (by decide) (by omega));by_cases h10:n<10
  ·have hcv:=fun v=>Lp v w
   go_enter Tryz.func147,Tryz.ntmps147
   go_wp2
   go_ret
   obtain⟨o1,o2⟩:=Ia h10;exact⟨⟨_,[],rfl,o1,fun _=>rfl,o2,by simp⟩,(Below.refl _ _).alloc (zI _) _⟩
  ·have ih2:∀W:World,Calls Tryz.prog 147 #[.int .i64 (IntKind.i64.wrap ((n:Int)/10))] W (fun e w'=>(∃c r,e=.returned (.string { data:=(c::r).toArray })∧E3 (c::r)∧(c=48→r=[])∧AT (c::r)=n/10∧(c::r).length≤k+1)∧Below W.heap.size W w'):=fun W=>by
    have e:IntKind.i64.wrap ((n:Int)/10)=((n/10:Nat):Int):=by rw[show(n:Int)/10=((n/10:Nat):Int) by omega];simp[IntKind.wrap,IntKind.signed,IntKind.bits];omega
    rw[e];exact ih (n/10) (by rw[Nat.div_lt_iff_lt_mul (by decide)];rw[Nat.pow_succ]at hn;exact hn) (by omega) W
   have hcv:=AbE;have ht:(n:Int).tmod 10=((n%10:Nat):Int):=NL n 10;have hw8:IntKind.u8.wrap (IntKind.i64.wrap (48+((n%10:Nat):Int)))=48+((n%10:Nat):Int):=by simp[IntKind.wrap,IntKind.signed,IntKind.bits];omega
   go_enter Tryz.func147,Tryz.ntmps147
   go_wp2_with fail
   go_region_with (go_at_call 147;refine(ih2 _).mono ?_;rintro e w' ⟨⟨c,r,rfl,h2,h3,h4,h5⟩,h6⟩;have h5':r.length+1≤k+1:=h5;have Cv:=fun h=>h6.cell (p:=⟨w.heap.size,0,none⟩) h)
   all_goals
    go_wp2
    go_ret
    obtain⟨o1,o2⟩:=Ia (n:=n%10) (Nat.mod_lt _ (by decide));have hnz:0<n/10:=Nat.div_pos (by omega) (by decide);have hcc:c=48→False:=fun e=>by have hr:=h3 e;subst e hr;simp[AT]at h4;omega
    refine⟨⟨c,r++[UInt8.ofNat (48+n%10)],?_,?_,fun e=>(hcc e).elim,?_,by simp;omega⟩,?_⟩
    ·simp only[go_sem];simp;exact Zn c r _
    ·intro d hd;rw[←List.cons_append]at hd;rcases List.mem_append.1 hd with h|h
     ·exact h2 d h
     ·exact o1 d h
    ·have:=C4 (c::r) [UInt8.ofNat (48+n%10)];rw[o2,h4]at this;rw[←List.cons_append,this];simp;omega
    ·first
      |exact(((Below.refl _ _).drew).trans h6).alloc h6.size _
      |exact(((Below.refl _ _).drew).alloc (zI _) _).trans (h6.mono (by simp))
theorem I4 {s:List UInt8}(h:E3 s):AT s<10^s.length:=Mj rfl fun d hd=>(h d hd).2
theorem E3.tail {c:UInt8}{s:List UInt8}(h:E3 (c::s)):E3 s:=fun d hd=>h d (zO _ hd)
theorem R3:∀{s t:List UInt8},s.length=t.length→E3 s→E3 t→AT s=AT t→s=t
 |[],[],_,_,_,_=>rfl|[],_::_,hl,_,_,_=>by simp at hl
 |_::_,[],hl,_,_,_=>by simp at hl
 |c::s,d::t,hl,hs,ht,h=>by
  have hl':s.length=t.length:=by simpa using hl
  have h1:=I4 hs.tail;have h2:=I4 ht.tail;have hc:=hs c (List.mem_cons_self ..);have hd:=ht d (List.mem_cons_self ..);rw[Fc,Fc,←hl']at h;rw[←hl']at h2;have key:∀a u P:Nat,u<P→(a*P+u)/P=a:=fun a u P hu=>by rw[Nat.mul_comm,Nat.mul_add_div (by omega),Nat.div_eq_of_lt hu,Nat.add_zero]
  have e1:=key (c.toNat-48) _ _ h1;have e2:=key (d.toNat-48) _ _ h2;rw[h,e2]at e1;have e3:c=d:=UInt8.toNat_inj.1 (by omega);subst e3;rw[R3 hl' hs.tail ht.tail (by omega)]
theorem Mm {c:UInt8}{r:List UInt8}(h:E3 (c::r))(hc:c≠48):10^r.length≤AT (c::r):=by
 have h1:=h c (List.mem_cons_self ..);have:c.toNat≠48:=fun e=>hc (UInt8.toNat_inj.1 e)
 rw[Fc];exact zM (Nat.le_mul_of_pos_left _ (by omega)) (Nat.le_add_right _ _)
theorem AcF {c d:UInt8}{s t:List UInt8}(h1:E3 (c::s))(z1:c=48→s=[])(h2:E3 (d::t))(z2:d=48→t=[])(h:AT (c::s)=AT (d::t)):c::s=d::t:=by
 have key:∀{c d:UInt8} {s t:List UInt8},E3 (c::s)→E3 (d::t)→c≠48→AT (c::s)=AT (d::t)→s.length≤t.length:=by intro c d s t h1 h2 hc h;have a1:=Mm h1 hc;have a2:=I4 h2;rw[h]at a1;have:=(Nat.pow_lt_pow_iff_right (a:=10) (by decide)).1 (Nat.lt_of_le_of_lt a1 a2);simp only[List.length_cons]at this;omega
 have zero:∀{c d:UInt8} {s t:List UInt8},E3 (d::t)→(c=48→s=[])→(d=48→t=[])→c=48→AT (c::s)=AT (d::t)→c::s=d::t:=by
  intro c d s t h2 z1 z2 hc h;have hs:=z1 hc;subst hc hs;by_cases hd:d=48
  ·rw[hd,z2 hd]
  ·have h3:=Mm h2 hd;rw[←h,show AT [48]=0 from rfl]at h3;have:=Nat.pow_pos (n:=t.length) (show 0<10 by decide);omega
 by_cases hc:c=48
 ·exact zero h2 z1 z2 hc h
 ·by_cases hd:d=48
  ·exact(zero h1 z2 z1 hd h.symm).symm
  ·exact R3 (by simp only[List.length_cons];exact congrArg (· + 1) (Nat.le_antisymm (key h1 h2 hc h) (key h2 h1 hd h.symm))) h1 h2 h
theorem neg_cons {s:List UInt8}(h:I7 s=true):s=45::BD s:=by
 unfold BD;rw[h];cases s with
 |nil=>cases h|cons c t=>
  have:c=45:=by simpa[I7]using h
  subst this;rfl
structure TS (s:List UInt8)(z:Int)(c:UInt8)(l:List UInt8):Prop where
 abs:BD s=c::l
 dig:E3 (c::l)
 can:c=48→l=[]
 val:AT (c::l)=z.natAbs
 neg:I7 s=decide (z<0)
 eq:s=if z<0 then 45::c::l else c::l
theorem Cf {s:List UInt8}{z:Int}(h:TX s z):∃c l,TS s z c l:=by
 obtain⟨c,l,h1,h2,h3⟩:=h.form.abs;have hn:=h.num;have hno:=h.form.no;unfold OU at hn;cases hb:I7 s with
 |false=>
  rw[hb,h1]at hn;have hz:¬z<0:=by have:((AT (c::l):Nat):Int)=z:=hn;omega
  have hs:s=c::l:=by rw[←h1];unfold BD;rw[hb];rfl
  exact⟨c,l,h1,h2,h3,by have:((AT (c::l):Nat):Int)=z:=hn;omega,by rw[zL hz];exact hb,by rw[if_neg hz];exact hs⟩
 |true=>
  have hs:=neg_cons hb;rw[hb,h1]at hn;rw[h1]at hs;have hn : -((AT (c::l):Nat):Int)=z:=hn;have h0:AT (c::l)≠0:=fun e=>by
   by_cases hc:c=48
   ·rw[hs,hc,h3 hc]at hno;exact hno rfl
   ·have:=Mm h2 hc;have:=Nat.pow_pos (n:=l.length) (show 0<10 by decide);omega
  have hz:z<0:=by omega
  exact⟨c,l,h1,h2,h3,by omega,by rw[decide_eq_true hz];exact hb,by rw[if_pos hz];exact hs⟩
theorem P1 {s t:List UInt8}{z:Int}(hs:TX s z)(ht:TX t z):s=t:=by obtain⟨c,l,a⟩:=Cf hs;obtain⟨d,m,b⟩:=Cf ht;have e:=AcF a.dig a.can b.dig b.can (a.val.trans b.val.symm);rw[a.eq,b.eq,e]
theorem Zf (u:Nat):AT (Lib.decDigits u)=u:=by
 induction u using Nat.strongRecOn with
 |_ u ih=>
  rw[Lib.decDigits];split
  ·rename_i h;exact(Ia h).2
  ·rename_i h;rw[C4,ih (u/10) (by omega),(Ia (n:=u%10) (by omega)).2];simp only[List.length_cons,List.length_nil,Nat.pow_one,Nat.zero_add];omega
theorem AaG (n:Nat):AT (List.replicate n 48)=0:=by
 induction n with
 |zero=>rfl|succ n ih=>rw[List.replicate_succ,Fc,ih];simp
theorem vt_pad (d:Nat):AT (DJ d)=d:=by unfold DJ;rw[Lh,C4,AaG,Zf,Nat.zero_mul,Nat.zero_add]
theorem Aam {ds:List Nat}(h:∀d∈ds,d<B):∀i,i≤ds.length→AT (Ch ds i)=val (ds.take i)
 |0,_=>rfl|i+1,hi=>by show AT (DJ _++Ch ds i)=_;rw[C4,vt_pad,Aam h i (by omega),Mb h,IE (by omega),GX,List.length_take,Nat.min_eq_left (by omega),Nat.pow_mul];simp only[val,Nat.mul_zero,Nat.add_zero];rw[Nat.mul_comm,Nat.add_comm]
theorem AcL (z:Int):AT (FK z)=z.natAbs:=by
 unfold FK;by_cases h0:z=0
 ·subst h0;rfl
 ·rw[if_neg h0];have hlt:=Ct z.natAbs;have hv:=BW z.natAbs;have hp:0<(Ae z.natAbs).length:=List.length_pos_iff.2 fun e=>by have:=Dq.1 e;omega
  generalize Ae z.natAbs=ds at *;rw[C4,Zf,Aam hlt _ (by omega),Mb hlt,←hv,Nat.pow_mul];obtain⟨n,hn⟩:∃n,ds.length=n+1:=⟨ds.length-1,by omega⟩;rw[hn,Nat.add_sub_cancel];have e:ds=ds.take (n+1):=by rw[←hn,List.take_length]
  conv=>rhs;rw[e]
  rw[IE (by omega),GX,List.length_take,Nat.min_eq_left (by omega)];simp only[val,Nat.mul_zero,Nat.add_zero];rw[Nat.mul_comm,Nat.add_comm]
theorem Mx {k:Nat}{z:Int}(hz:Fits k z)(hk:1≤k)(hk2:k≤10000):TX (Bk z) z:=by
 obtain⟨c,l,h1,h2,h3,h4⟩:=NN hz hk;have e:=Lg z;have hv:=AcL z;by_cases h:z<0
 ·rw[if_pos h]at h1;rw[decide_eq_true h,cond_true]at e;have eb:FK z=c::l:=by rw[h1]at e;simpa using e.symm
  rw[eb]at hv;rw[e,eb,show z = -((z.natAbs:Nat):Int) by omega];exact UT h2 (fun e=>(h3 e).2) hv (by omega) (by omega)
 ·rw[if_neg h,List.nil_append]at h1;rw[zL h,cond_false]at e;have eb:FK z=c::l:=by rw[←e,h1]
  rw[eb]at hv;rw[e,eb];have hz':z=((z.natAbs:Nat):Int):=by omega
  rw[hz'];exact JG h2 (fun e=>(h3 e).2) hv (by omega)
theorem tx_one {s:List UInt8}(h:TX s 1):s=[49]:=P1 h (JG (n:=1) (by intro d hd;rw[List.mem_singleton]at hd;subst hd;decide) (fun _=>rfl) rfl (by decide))
theorem tx_len {s:List UInt8}{z:Int}{n:Nat}(h:TX s z)(hz:z.natAbs<10^n):(BD s).length≤n+1:=by
 obtain⟨c,l,a⟩:=Cf h;rw[a.abs,List.length_cons];by_cases hc:c=48
 ·rw[a.can hc];simp
 ·have:=Mm a.dig hc;rw[a.val]at this;have:=(Nat.pow_lt_pow_iff_right (a:=10) (by decide)).1 (Nat.lt_of_le_of_lt this hz);omega
theorem Ut {s:List UInt8}{z:Int}{n:Nat}(h:TX s z)(hl:(BD s).length≤n):z.natAbs<10^n:=by obtain⟨c,l,a⟩:=Cf h;rw[a.abs]at hl;rw[←a.val];exact Nat.lt_of_lt_of_le (I4 a.dig) (Nat.pow_le_pow_right (by decide) hl)
theorem Aad {s:List UInt8}{z:Int}{n:Nat}(h:TX s z)(hz:z.natAbs<10^n)(hn:n≤4000):TX (BD s) (z.natAbs:Int):=by have hl:=tx_len h hz;obtain⟨c,l,a⟩:=Cf h;rw[a.abs]at hl ⊢;exact JG a.dig a.can a.val (by omega)
theorem Ac5 {s:List UInt8}{z:Int}(h:TX s z):(s==[48])=decide (z=0):=by
 rw[Bool.eq_iff_iff,beq_iff_eq,decide_eq_true_iff];have t0:TX [48] 0:=JG (n:=0) (by intro d hd;rw[List.mem_singleton]at hd;subst hd;decide) (fun _=>rfl) rfl (by decide);constructor
 ·rintro rfl;rw[←h.num,←t0.num]
 ·rintro rfl;exact P1 h t0
theorem Adx {l:List Nat}{v n:Nat}(h:N4 l v)(hv:v<10^n):l.length≤n:=by
 by_cases h0:l=[]
 ·subst h0;simp
 ·have h1:=Oy h.last h0;rw[h.val]at h1;have h2:10^n≤10000^n:=Nat.pow_le_pow_left (by decide) n;have:=(Nat.pow_lt_pow_iff_right (a:=10000) (by decide)).1 (Nat.lt_of_le_of_lt h1 (Nat.lt_of_lt_of_le hv h2));omega
theorem MD {z:Int}(hz:z.natAbs<10^18)(w:World):Calls Tryz.prog 147 #[.int .i64 z] w (fun e w'=>(∃t,e=.returned (.string { data:=t.toArray })∧TX t z)∧Below w.heap.size w w'):=by
 by_cases h:z<0
 ·obtain⟨m,rfl⟩:∃m:Nat,z = -(m:Int):=⟨z.natAbs,by omega⟩;have hm:m<10^18:=by rwa[Int.natAbs_neg,Int.natAbs_natCast]at hz
  have hm2:m<1000000000000000000:=hm
  go_enter Tryz.func147,Tryz.ntmps147
  go_wp2_with fail
  refine(Wq 17 m hm (by decide) _).mono ?_;rintro e w' ⟨⟨c,r,rfl,h2,h3,h4,h5⟩,h6⟩;have h5':r.length+1≤18:=h5
  go_wp2
  go_ret
  have e:(({ data:=#[45] } : ByteArray) ++ { data:=(c::r).toArray }) = { data:=(45::c::r).toArray }:=MK 45 (c::r);refine⟨⟨45::c::r,?_,UT h2 h3 h4 (by omega) (by omega)⟩,h6⟩;rw[←e];rfl
 ·obtain⟨m,rfl⟩:∃m:Nat,z=(m:Int):=⟨z.natAbs,by omega⟩;rw[Int.natAbs_natCast]at hz;refine(Wq 17 m hz (by decide) _).mono ?_;rintro e w' ⟨⟨c,r,rfl,h2,h3,h4,h5⟩,h6⟩;exact⟨⟨c::r,rfl,JG h2 h3 h4 (by omega)⟩,h6⟩
theorem EF {s:List UInt8}{z:Int}{n:Nat}(h:TX s z)(hz:z.natAbs<10^n)(w:World):Calls Tryz.prog 146 #[.string { data:=(BD s).toArray }] w (fun e w'=>(∃v ds,e=.returned v∧SI w' ds v∧N4 ds z.natAbs∧ds.length≤n∧SF w.heap.size v)∧Below w.heap.size w w'):=by have hl:=VT s;have h2:=h.form.len;obtain⟨c,l,a⟩:=Cf h;have hv:=a.val;rw[←a.abs]at hv;refine(Acq (S:=BD s) (by rw[a.abs];exact a.dig) (by omega) w).mono ?_;rintro e w' ⟨⟨v,ds,rfl,q1,q2,q3⟩,q4⟩;rw[hv]at q2;exact⟨⟨v,ds,rfl,q1,q2,Adx q2 hz,q3⟩,q4⟩
theorem IG {s t:List UInt8}{x y:Int}(hs:TX s x)(ht:TX t y)(h:CZ s t=true):x.natAbs<1000000000∧y.natAbs<1000000000:=by unfold CZ at h;rw[zA]at h;exact⟨Ut (n:=9) hs (of_decide_eq_true h.1),Ut (n:=9) ht (of_decide_eq_true h.2)⟩
theorem neg_ne {x y:Int}(m n:Nat)(hm:m=x.natAbs)(hn:n=y.natAbs):(bif !(decide (x<0)==decide (y<0)) then -((m*n:Nat):Int) else((m*n:Nat):Int))=x*y:=by
 subst hm hn;have key:∀a b:Nat,((a*b:Nat):Int)=(a:Int)*b:=fun a b=>Int.natCast_mul a b
 by_cases h1:x<0<;>by_cases h2:y<0
 all_goals
  simp only[h1,h2,decide_true,decide_false,beq_self_eq_true,Bool.not_true,Bool.true_beq,Bool.false_beq,Bool.not_false,cond_false,cond_true];rw[key]
 ·rw[show((x.natAbs:Nat):Int) = -x by omega,show((y.natAbs:Nat):Int) = -y by omega,Int.neg_mul_neg]
 ·rw[show((x.natAbs:Nat):Int) = -x by omega,show((y.natAbs:Nat):Int)=y by omega,Int.neg_mul,Int.neg_neg]
 ·rw[show((x.natAbs:Nat):Int)=x by omega,show((y.natAbs:Nat):Int) = -y by omega,Int.mul_neg,Int.neg_neg]
 ·rw[show((x.natAbs:Nat):Int)=x by omega,show((y.natAbs:Nat):Int)=y by omega]
set_option maxHeartbeats 4000000 in
theorem Aa5 {a b:List UInt8}{x y:Int}{n:Nat}(ha:TX a x)(hb:TX b y)(hx:x.natAbs<10^n)(hy:y.natAbs<10^n)(hn:n≤4000)(w:World):Calls Tryz.prog 105 #[.string { data:=a.toArray },.string { data:=b.toArray }] w (fun e w'=>(∃t,e=.returned (.string { data:=t.toArray })∧TX t (x*y))∧Below w.heap.size w w'):=by
 have na:=ha.num;have nb:=hb.num;cases hs:CZ a b with
 |true=>
  obtain⟨hx9,hy9⟩:=IG ha hb hs;have hm:(x*y).natAbs<1000000000000000000:=by rw[Int.natAbs_mul];have:=Nat.mul_le_mul (show x.natAbs≤999999999 by omega) (show y.natAbs≤999999999 by omega);omega
  have hof:∀W:World,Calls Tryz.prog 147 #[.int .i64 (x*y)] W (fun e w'=>(∃t,e=.returned (.string { data:=t.toArray })∧TX t (x*y))∧Below W.heap.size W w'):=fun W=>MD (z:=x*y) hm W
  clear hx hy
  go_enter Tryz.func105,Tryz.ntmps105
  go_wp2_with fail
  refine(Dz ha.form hb.form _).mono ?_;rintro e w1 ⟨rfl,rfl⟩;rw[hs,na,nb];simp only[cond_true]
  go_wp2_with fail
  refine(hof _).mono ?_;rintro e w2 ⟨⟨t,rfl,ht⟩,h2⟩
  go_wp2
  go_ret
  exact⟨⟨t,rfl,ht⟩,h2⟩
 |false=>
  obtain⟨ca,la,sa⟩:=Cf ha;obtain⟨cb,lb,sb⟩:=Cf hb
  go_enter Tryz.func105,Tryz.ntmps105
  go_wp2_with fail
  refine(Dz ha.form hb.form _).mono ?_;rintro e w1 ⟨rfl,rfl⟩;rw[hs];simp only[cond_false]
  go_wp2_with fail
  refine(Dh a _).mono ?_;rintro e w2 ⟨rfl,rfl⟩;rw[sa.neg]
  go_wp2_with fail
  refine(Dh b _).mono ?_;rintro e w3 ⟨rfl,rfl⟩;rw[sb.neg]
  go_wp2_with fail
  refine(Eb a _).mono ?_;rintro e w4 ⟨rfl,rfl⟩
  go_wp2_with fail
  refine(EF ha hx _).mono ?_;rintro e w5 ⟨⟨v5,l5,rfl,hs5,hn5,hl5,hf5⟩,hb5⟩
  go_wp2_with fail
  refine(Eb b _).mono ?_;rintro e w6 ⟨rfl,rfl⟩
  go_wp2_with fail
  refine(EF hb hy _).mono ?_;rintro e w7 ⟨⟨v7,l7,rfl,hs7,hn7,hl7,hf7⟩,hb7⟩
  go_wp2_with fail
  refine(QH (hs5.mono hb7) hs7 hn5.lt hn7.lt (by omega)).mono ?_;rintro e w8 ⟨⟨v8,l8,rfl,hs8,hn8,hl8,hf8⟩,hb8⟩;rw[hn5.val,hn7.val]at hn8
  go_wp2_with fail
  refine(M5 hs8 hn8 (by omega)).mono ?_;rintro e w9 ⟨⟨t,rfl,ht,_⟩,hb9⟩;rw[neg_ne x.natAbs y.natAbs rfl rfl]at ht
  go_wp2
  go_ret
  exact⟨⟨t,rfl,ht⟩,((hb5.trans (hb7.mono hb5.size)).trans (hb8.mono (hb5.trans (hb7.mono hb5.size)).size)).trans (hb9.mono (zM (hb5.trans (hb7.mono hb5.size)).size hb8.size))⟩
set_option maxHeartbeats 4000000 in
theorem r_cmpT {a b:List UInt8}{x y:Int}{n:Nat}(ha:TX a x)(hb:TX b y)(hx:x.natAbs<10^n)(hy:y.natAbs<10^n)(hn:n≤4000)(w:World):Calls Tryz.prog 104 #[.string { data:=a.toArray },.string { data:=b.toArray }] w (fun e w'=>e=.returned (.int .i64 (AS x y))∧Below w.heap.size w w'):=by
 have na:=ha.num;have nb:=hb.num;cases hs:CZ a b with
 |true=>
  obtain⟨hx9,hy9⟩:=IG ha hb hs;clear hx hy;by_cases h:x<y
  ·have ho:=BL h
   go_enter Tryz.func104,Tryz.ntmps104
   go_wp2_with fail
   refine(Dz ha.form hb.form _).mono ?_;rintro e w1 ⟨rfl,rfl⟩;rw[hs,na,nb];simp only[cond_true]
   go_wp2
   go_ret
   exact⟨by rw[ho];rfl,Below.refl _ _⟩
  ·have ho:AS x y=min 1 (x-y):=by
    by_cases e:x=y
    ·rw[BX e];omega
    ·rw[BR (by omega)];omega
   go_enter Tryz.func104,Tryz.ntmps104
   go_wp2_with fail
   refine(Dz ha.form hb.form _).mono ?_;rintro e w1 ⟨rfl,rfl⟩;rw[hs,na,nb];simp only[cond_true]
   go_wp2
   go_ret
   exact⟨by rw[ho];rfl,Below.refl _ _⟩
 |false=>
  obtain⟨ca,la,sa⟩:=Cf ha;obtain⟨cb,lb,sb⟩:=Cf hb;have cmpn:∀{u v:Nat},AS (u:Int) (v:Int)=AS (u:Int) v:=fun {u v}=>rfl
  by_cases h1:x<0
  ·by_cases h2:y<0
   ·have ho:AS (y.natAbs:Nat) (x.natAbs:Nat)=AS x y:=by
     rcases Int.lt_trichotomy x y with h|h|h
     ·rw[BL h,BL (by omega)]
     ·rw[BX h,BX (by omega)]
     ·rw[BR h,BR (by omega)]
    have ga:=sa.neg;have gb:=sb.neg;rw[decide_eq_true h1]at ga;rw[decide_eq_true h2]at gb
    go_enter Tryz.func104,Tryz.ntmps104
    go_wp2_with fail
    refine(Dz ha.form hb.form _).mono ?_;rintro e w1 ⟨rfl,rfl⟩;rw[hs];simp only[cond_false]
    go_wp2_with fail
    refine(Dh a _).mono ?_;rintro e w2 ⟨rfl,rfl⟩;rw[ga]
    go_wp2_with fail
    refine(Dh b _).mono ?_;rintro e w3 ⟨rfl,rfl⟩;rw[gb]
    go_wp2_with fail
    refine(Dh a _).mono ?_;rintro e w4 ⟨rfl,rfl⟩;rw[ga]
    go_wp2_with fail
    refine(Eb b _).mono ?_;rintro e w5 ⟨rfl,rfl⟩
    go_wp2_with fail
    refine(EF hb hy _).mono ?_;rintro e w6 ⟨⟨v6,l6,rfl,hs6,hn6,hl6,hf6⟩,hb6⟩
    go_wp2_with fail
    refine(Eb a _).mono ?_;rintro e w7 ⟨rfl,rfl⟩
    go_wp2_with fail
    refine(EF ha hx _).mono ?_;rintro e w8 ⟨⟨v8,l8,rfl,hs8,hn8,hl8,hf8⟩,hb8⟩
    go_wp2_with fail
    refine(ZE (hs6.mono hb8) hs8 hn6 hn8 (by omega) (by omega)).mono ?_;rintro e w9 ⟨rfl,m,rfl⟩;rw[ho]
    go_wp2
    go_ret
    exact⟨rfl,below_drewN (hb6.trans (hb8.mono hb6.size)) m⟩
   ·have ho:=BL (show x<y by omega);have ga:=sa.neg;have gb:=sb.neg;rw[decide_eq_true h1]at ga;rw[zL h2]at gb
    go_enter Tryz.func104,Tryz.ntmps104
    go_wp2_with fail
    refine(Dz ha.form hb.form _).mono ?_;rintro e w1 ⟨rfl,rfl⟩;rw[hs];simp only[cond_false]
    go_wp2_with fail
    refine(Dh a _).mono ?_;rintro e w2 ⟨rfl,rfl⟩;rw[ga]
    go_wp2_with fail
    refine(Dh b _).mono ?_;rintro e w3 ⟨rfl,rfl⟩;rw[gb]
    go_wp2_with fail
    refine(Dh a _).mono ?_;rintro e w4 ⟨rfl,rfl⟩;rw[ga]
    go_wp2
    go_ret
    exact⟨by rw[ho];rfl,Below.refl _ _⟩
  ·by_cases h2:y<0
   ·have ho:=BR (show y<x by omega);have ga:=sa.neg;have gb:=sb.neg;rw[zL h1]at ga;rw[decide_eq_true h2]at gb
    go_enter Tryz.func104,Tryz.ntmps104
    go_wp2_with fail
    refine(Dz ha.form hb.form _).mono ?_;rintro e w1 ⟨rfl,rfl⟩;rw[hs];simp only[cond_false]
    go_wp2_with fail
    refine(Dh a _).mono ?_;rintro e w2 ⟨rfl,rfl⟩;rw[ga]
    go_wp2_with fail
    refine(Dh b _).mono ?_;rintro e w3 ⟨rfl,rfl⟩;rw[gb]
    go_wp2_with fail
    refine(Dh a _).mono ?_;rintro e w4 ⟨rfl,rfl⟩;rw[ga]
    go_wp2
    go_ret
    exact⟨by rw[ho];rfl,Below.refl _ _⟩
   ·have ho:AS (x.natAbs:Nat) (y.natAbs:Nat)=AS x y:=by rw[show((x.natAbs:Nat):Int)=x by omega,show((y.natAbs:Nat):Int)=y by omega]
    have ga:=sa.neg;have gb:=sb.neg;rw[zL h1]at ga;rw[zL h2]at gb;have ea:BD a=a:=by unfold BD;rw[ga];rfl
    have eb:BD b=b:=by unfold BD;rw[gb];rfl
    have ca:=fun W=>EF ha hx W
    have cb:=fun W=>EF hb hy W
    rw[ea]at ca;rw[eb]at cb
    go_enter Tryz.func104,Tryz.ntmps104
    go_wp2_with fail
    refine(Dz ha.form hb.form _).mono ?_;rintro e w1 ⟨rfl,rfl⟩;rw[hs];simp only[cond_false]
    go_wp2_with fail
    refine(Dh a _).mono ?_;rintro e w2 ⟨rfl,rfl⟩;rw[ga]
    go_wp2_with fail
    refine(Dh b _).mono ?_;rintro e w3 ⟨rfl,rfl⟩;rw[gb]
    go_wp2_with fail
    refine(Dh a _).mono ?_;rintro e w4 ⟨rfl,rfl⟩;rw[ga]
    go_wp2_with fail
    refine(ca _).mono ?_;rintro e w6 ⟨⟨v6,l6,rfl,hs6,hn6,hl6,hf6⟩,hb6⟩
    go_wp2_with fail
    refine(cb _).mono ?_;rintro e w8 ⟨⟨v8,l8,rfl,hs8,hn8,hl8,hf8⟩,hb8⟩
    go_wp2_with fail
    refine(ZE (hs6.mono hb8) hs8 hn6 hn8 (by omega) (by omega)).mono ?_;rintro e w9 ⟨rfl,m,rfl⟩;rw[ho]
    go_wp2
    go_ret
    exact⟨rfl,below_drewN (hb6.trans (hb8.mono hb6.size)) m⟩
set_option maxHeartbeats 4000000 in
theorem r_quoT {a b:List UInt8}{x y n:Nat}(ha:TX a (x:Int))(hb:TX b (y:Int))(hy0:0<y)(hx:x<10^n)(hy:y<10^n)(hn:n≤4000)(w:World):Calls Tryz.prog 209 #[.string { data:=a.toArray },.string { data:=b.toArray }] w (fun e w'=>(∃s t,e=.returned (.tuple #[.string { data:=s.toArray },.string { data:=t.toArray }])∧TX s ((x/y:Nat):Int)∧TX t ((x%y:Nat):Int))∧Below w.heap.size w w'):=by
 have na:=ha.num;have nb:=hb.num;cases hs:CZ a b with
 |true=>
  obtain⟨hx9,hy9⟩:=IG ha hb hs;rw[Int.natAbs_natCast]at hx9 hy9;have hq:x/y≤x:=Nat.div_le_self _ _;have hm:x%y<y:=Nat.mod_lt _ hy0;have e1:wrap64 ((x:Int)/y)=((x/y:Nat):Int):=by rw[show(x:Int)/y=((x/y:Nat):Int) by simp];exact CJ _ (by generalize x/y=q at *;omega)
  have o1:∀(W:World) (z:Int),z=wrap64 ((x:Int)/y)→Calls Tryz.prog 147 #[.int .i64 z] W (fun e w'=>(∃t,e=.returned (.string { data:=t.toArray })∧TX t ((x/y:Nat):Int))∧Below W.heap.size W w'):=fun W z hz=>by rw[hz,e1];exact MD (z:=((x/y:Nat):Int)) (by rw[Int.natAbs_natCast];exact Nat.lt_of_le_of_lt hq (Nat.lt_trans hx9 (by decide))) W
  have o1a:=fun W=>o1 W _ rfl
  have o1b:∀W:World,Calls Tryz.prog 147 #[.int .i64 (IntKind.i64.wrap ((x:Int)/y))] W (fun e w'=>(∃t,e=.returned (.string { data:=t.toArray })∧TX t ((x/y:Nat):Int))∧Below W.heap.size W w'):=fun W=>o1 W _ (by rw[e1,show(x:Int)/y=((x/y:Nat):Int) by simp];generalize x/y=q at *;simp[IntKind.wrap,IntKind.signed,IntKind.bits];omega)
  clear o1;have o2:∀W:World,Calls Tryz.prog 147 #[.int .i64 ((x:Int).tmod y)] W (fun e w'=>(∃t,e=.returned (.string { data:=t.toArray })∧TX t ((x%y:Nat):Int))∧Below W.heap.size W w'):=fun W=>by rw[show(x:Int).tmod y=((x%y:Nat):Int) from(Int.ofNat_tmod x y).symm];exact MD (z:=((x%y:Nat):Int)) (by rw[Int.natAbs_natCast];exact Nat.lt_trans hm (Nat.lt_trans hy9 (by decide))) W
  have o2b:∀W:World,Calls Tryz.prog 147 #[.int .i64 ((x:Int)%y)] W (fun e w'=>(∃t,e=.returned (.string { data:=t.toArray })∧TX t ((x%y:Nat):Int))∧Below W.heap.size W w'):=fun W=>by have:=o2 W;rwa[show(x:Int).tmod y=(x:Int)%y from Int.tmod_eq_emod_of_nonneg (by omega)]at this
  have hne:((y:Int)==0)=false:=by rw[beq_eq_false_iff_ne];omega
  have hne2:((y:Int)=0)=False:=by simp;omega
  clear hx hy e1
  go_enter Tryz.func209,Tryz.ntmps209
  go_wp2_with fail
  refine(Dz ha.form hb.form _).mono ?_;rintro e w1 ⟨rfl,rfl⟩;rw[hs,na,nb];simp only[cond_true]
  go_wp2_with fail
  go_region_with (go_at_call 147;first|(with_reducible refine(o1a _).mono ?_;rintro e w' ⟨⟨t1,rfl,h1⟩,h2⟩)|(with_reducible refine(o1b _).mono ?_;rintro e w' ⟨⟨t1,rfl,h1⟩,h2⟩)|(with_reducible refine(o2 _).mono ?_;rintro e w'' ⟨⟨t2,rfl,h3⟩,h4⟩)|(with_reducible refine(o2b _).mono ?_;rintro e w'' ⟨⟨t2,rfl,h3⟩,h4⟩))
  all_goals
   go_wp2
   refine bodyPost_ret (v:=.tuple #[.string { data:=t1.toArray },.string { data:=t2.toArray }]) (by simp[results,Tryz.results209,go_sem]) rfl ⟨⟨_,_,rfl,h1,h3⟩,?_⟩;first
    |exact(((Below.refl _ _).drew).trans h2).trans (h4.mono h2.size)
    |exact(((Below.refl _ _).drew).trans h4).trans (h2.mono h4.size)
 |false=>
  obtain⟨ca,la,sa⟩:=Cf ha;obtain⟨cb,lb,sb⟩:=Cf hb;have ga:=sa.neg;have gb:=sb.neg;rw[zL (by omega)]at ga gb;have ca:=fun W=>EF ha (n:=n) (by rw[Int.natAbs_natCast];exact hx) W
  have cb:=fun W=>EF hb (n:=n) (by rw[Int.natAbs_natCast];exact hy) W
  simp only[Int.natAbs_natCast]at ca cb
  go_enter Tryz.func209,Tryz.ntmps209
  go_wp2_with fail
  refine(Dz ha.form hb.form _).mono ?_;rintro e w1 ⟨rfl,rfl⟩;rw[hs];simp only[cond_false]
  go_wp2_with fail
  refine(Eb a _).mono ?_;rintro e w2 ⟨rfl,rfl⟩
  go_wp2_with fail
  refine(ca _).mono ?_;rintro e w3 ⟨⟨v3,l3,rfl,hs3,hn3,hl3,hf3⟩,hb3⟩
  go_wp2_with fail
  refine(Eb b _).mono ?_;rintro e w4 ⟨rfl,rfl⟩
  go_wp2_with fail
  refine(cb _).mono ?_;rintro e w5 ⟨⟨v5,l5,rfl,hs5,hn5,hl5,hf5⟩,hb5⟩;have h5:=hb3.trans (hb5.mono hb3.size)
  go_wp2_with fail
  refine(r_over (hs3.mono hb5) hs5 hn3.lt hn5 hy0 (by omega) (by omega)).mono ?_;rintro e w6 ⟨⟨vq,qs,vr,rs,rfl,g1,g2,g3,g4,g5,g6⟩,hb6⟩;have h6:=h5.trans (hb6.mono h5.size);rw[hn3.val]at g2 g5
  go_wp2_with fail
  refine(Dh a _).mono ?_;rintro e w7 ⟨rfl,rfl⟩;rw[ga]
  go_wp2_with fail
  refine(Dh b _).mono ?_;rintro e w8 ⟨rfl,rfl⟩;rw[gb]
  go_wp2_with fail
  refine(M5 g1 g2 (by omega)).mono ?_;rintro e w9 ⟨⟨s,rfl,hs',_⟩,hb9⟩;have h9:=h6.trans (hb9.mono h6.size)
  go_wp2_with fail
  refine(Dh a _).mono ?_;rintro e w10 ⟨rfl,rfl⟩;rw[ga]
  go_wp2_with fail
  refine(M5 (g4.mono hb9) g5 (by omega)).mono ?_;rintro e w11 ⟨⟨t,rfl,ht,_⟩,hb11⟩
  go_wp2
  refine bodyPost_ret (v:=.tuple #[.string { data:=s.toArray },.string { data:=t.toArray }]) (by simp[results,Tryz.results209,go_sem]) rfl ⟨⟨s,t,rfl,hs',ht⟩,h9.trans (hb11.mono h9.size)⟩
def numS:Value→Nat
 |.string s=>AT s.data.toList|_=>0
theorem WD {t:List UInt8}{v:Nat}(h:TX t (v:Int)):numS (.string { data:=t.toArray })=v:=by obtain⟨c,l,a⟩:=Cf h;show AT t.toArray.toList=v;rw[show t.toArray.toList=t by simp,a.eq,if_neg (by omega),a.val,Int.natAbs_natCast]
set_option maxHeartbeats 4000000 in
theorem Xx {a b:List UInt8}{x y:Int}{n:Nat}(ha:TX a x)(hb:TX b y)(hx:x.natAbs<10^n)(hy:y.natAbs<10^n)(hn:n≤4000)(w:World):Calls Tryz.prog 142 #[.string { data:=a.toArray },.string { data:=b.toArray }] w (fun e w'=>(∃t,e=.returned (.string { data:=t.toArray })∧TX t ((Nat.gcd x.natAbs y.natAbs:Nat):Int))∧Below w.heap.size w w'):=by
 have ta:=Aad ha hx hn;have tb:=Aad hb hy hn;have na:=ta.num;have nb:=tb.num;generalize hA:BD a=A at *;generalize hB:BD b=C at *;generalize x.natAbs=u at *;generalize y.natAbs=v at *;generalize hg:Nat.gcd u v=g at *;cases hs:CZ A C with
 |true=>
  obtain⟨hx9,hy9⟩:=IG ta tb hs;rw[Int.natAbs_natCast]at hx9 hy9;clear hx hy
  go_enter Tryz.func142,Tryz.ntmps142
  go_wp2_with fail
  refine(Eb a _).mono ?_;rintro e w1 ⟨rfl,rfl⟩;rw[hA]
  go_wp2_with fail
  refine(Eb b _).mono ?_;rintro e w2 ⟨rfl,rfl⟩;rw[hB]
  go_wp2_with fail
  refine(Dz ta.form tb.form _).mono ?_;rintro e w3 ⟨rfl,rfl⟩;rw[hs,na,nb];simp only[cond_true]
  go_wp2
  go_loopw [5,6] (fun pv qv wr=>∃p q:Nat,pv=.int .i64 (p:Int)∧qv=.int .i64 (q:Int)∧Nat.gcd p q=g∧p<1000000000∧q<1000000000∧∃m,wr=w3.drewN m) (fun _ qv _=>(intOf qv).toNat)
  case atStart=>exact⟨u,v,rfl,rfl,hg,hx9,hy9,0,rfl⟩
  case round=>
   obtain⟨p,q,rfl,rfl,hgpq,hp,hq,m,rfl⟩:=hrel;by_cases hq0:q=0
   ·subst hq0;rw[Nat.gcd_zero_right]at hgpq;subst hgpq
    go_wp2_with fail
    refine(MD (z:=(p:Int)) (by rw[Int.natAbs_natCast];exact Nat.lt_trans hp (by decide)) _).mono ?_;rintro e w4 ⟨⟨t,rfl,ht⟩,h4⟩
    go_wp2
    go_ret
    exact⟨⟨t,rfl,ht⟩,(below_drewN (Below.refl _ _) m).trans h4⟩
   ·have hne:((q:Int)==0)=false:=by rw[beq_eq_false_iff_ne];omega
    have hne2:((q:Int)=0)=False:=by simp;omega
    have hm:p%q<q:=Nat.mod_lt _ (by omega);have hgn:Nat.gcd q (p%q)=g:=by rw[←hgpq,Nat.gcd_comm p q,Nat.gcd_rec q p,Nat.gcd_comm]
    have et:(p:Int).tmod q=((p%q:Nat):Int):=(Int.ofNat_tmod p q).symm;have et2:(p:Int)%q=((p%q:Nat):Int):=by simp
    have hq0':(q=0)=False:=by simp;omega
    generalize p%q=r at *
    go_wp2
    go_quiet (fail)
    go_wp2
    exact⟨⟨q,r,rfl,rfl,hgn,hq,by omega,_,World.drewN_drewN _ _ _⟩,by simp[intOf];omega⟩
 |false=>
  go_enter Tryz.func142,Tryz.ntmps142
  go_wp2_with fail
  refine(Eb a _).mono ?_;rintro e w1 ⟨rfl,rfl⟩;rw[hA]
  go_wp2_with fail
  refine(Eb b _).mono ?_;rintro e w2 ⟨rfl,rfl⟩;rw[hB]
  go_wp2_with fail
  refine(Dz ta.form tb.form _).mono ?_;rintro e w3 ⟨rfl,rfl⟩;rw[hs];simp only[cond_false]
  go_wp2
  go_loopw [0,1] (fun av bv wr=>∃(s t:List UInt8) (p q:Nat),av=.string { data:=s.toArray }∧bv=.string { data:=t.toArray }∧TX s (p:Int)∧TX t (q:Int)∧Nat.gcd p q=g∧p<10^n∧q<10^n∧Below w3.heap.size w3 wr) (fun _ bv _=>numS bv)
  case atStart=>exact⟨A,C,u,v,rfl,rfl,ta,tb,hg,hx,hy,Below.refl _ _⟩
  case round=>
   obtain⟨s,t,p,q,rfl,rfl,hs',ht,hgpq,hp,hq,hb4⟩:=hrel;have hz:=Ac5 ht;by_cases hq0:q=0
   ·subst hq0;rw[Nat.gcd_zero_right]at hgpq;subst hgpq;have hz:(t==[48])=true:=hz
    go_wp2
    go_ret
    exact⟨⟨s,rfl,hs'⟩,hb4⟩
   ·rw[zL (by omega)]at hz;have hm:p%q<q:=Nat.mod_lt _ (by omega);have hgn:Nat.gcd q (p%q)=g:=by rw[←hgpq,Nat.gcd_comm p q,Nat.gcd_rec q p,Nat.gcd_comm]
    go_wp2_with fail
    refine(r_quoT hs' ht (by omega) hp hq hn _).mono ?_;rintro e w4 ⟨⟨s1,t1,rfl,g1,g2⟩,h4⟩
    go_wp2
    exact⟨⟨t,t1,q,p%q,rfl,rfl,ht,g2,hgn,hq,Nat.lt_trans hm hq,hb4.trans (h4.mono hb4.size)⟩,by rw[WD g2,WD ht];exact hm⟩
end Go.Nb
end
