/- What the generators make of any list of numbers. -/
import Derived.Test.YtecmlmofhabonaaGreatDoorINode4
import Derived.Test.YtecmlmofhabonaaGreatDoorIGen3
noncomputable section
namespace Go.Ev
open Go Go.Ab Go.Nl Go.Nb Go.RowKit Go.Proofs Go.E4 Go.Ro
set_option maxRecDepth 1000000
theorem Ju {a b:Nat}(ha:a<10)(h0:0<b)(h6:b<6)(hg:Nat.gcd a b=1):Fr [48+a] [48+b] ((a:Int),(b:Int)):=by
 refine⟨?_,⟨b,?_,rfl,rfl⟩,by simpa using hg⟩
 ·exact List.mem_append_left _ (List.mem_map.2 ⟨a,zQ.2 ha,rfl⟩)
 ·have:b=1∨b=2∨b=3∨b=4∨b=5:=by omega
  rcases this with rfl|rfl|rfl|rfl|rfl<;>decide
theorem Fr.lit {p d:List Nat}{q:Q}(h:Fr p d q):MU p d q:=⟨h.of,h.ok⟩
def Hi (h:Int)(x:X):Prop:=∀d,0≤d→d+h≤29→Wk d x
def noKm:X→Prop
 |.lit _ _ _ u=>u≠2|_=>True
inductive Sh:Int→X→Prop where
 |lit {h:Int} {a b u:Nat} : 0≤h→a<10→0<b→b<6→Nat.gcd a b=1→u<5→Sh h (litX a b u)
 |ref {h:Int} {s:List Nat} : 0≤h→s∈nmsW→Sh h (.ref s)
 |bin {h:Int} {op:Nat} {a b:X} : op∈[3,4,5,6]→(op=5→noKm a)→Sh h a→Sh h b→Sh (h+1) (.bin op a b)
 |neg {h:Int} {a:X} : Sh h a→Sh (h+1) (.neg a)
 |sq {h:Int} {a:X} : Sh h a→Sh (h+1) (.sq a)
 |lst {h:Int} {a b c:X} : Sh h a→Sh h b→Sh h c→Sh (h+1) (.lst a b c)
 |elt {h:Int} {a b:X} : Sh h a→Sh h b→Sh (h+1) (.at a b)
 |tab {h:Int} {n:Nat} {a:X} : n∈[1,2,3,4]→Sh h a→Sh (h+1) (.tab n a)
 |sum {h:Int} {n:Nat} {a:X} : n∈[1,2,3,4]→Sh h a→Sh (h+1) (.sum n a)
 |ite {h:Int} {a b c d:X} : Sh h a→Sh h b→Sh h c→Sh h d→Sh (h+1) (.ite a b c d)
 |lett {h:Int} {s:List Nat} {a b:X} : s∈Fj→Sh h a→Sh h b→Sh (h+1) (.lett s a b)
 |call {h:Int} {a:X} : Sh h a→Sh (h+1) (.call a)
theorem Sh.F4 {h:Int}{x:X}(s:Sh h x):0≤h:=by induction s<;>omega
theorem Sh.mono {h k:Int}{x:X}(s:Sh h x)(hk:h≤k):Sh k x:=by
 induction s generalizing k with
 |lit h0 h1 h2 h3 h4 h5=>exact .lit (by omega) h1 h2 h3 h4 h5
 |ref h0 h1=>exact .ref (by omega) h1
 |bin ho hq _ _ ia ib=>have:=Sh.bin ho hq (ia (k:=k-1) (by omega)) (ib (by omega));rwa[Int.sub_add_cancel]at this
 |neg _ ia=>have:=Sh.neg (ia (k:=k-1) (by omega));rwa[Int.sub_add_cancel]at this
 |sq _ ia=>have:=Sh.sq (ia (k:=k-1) (by omega));rwa[Int.sub_add_cancel]at this
 |lst _ _ _ ia ib ic=>have:=Sh.lst (ia (k:=k-1) (by omega)) (ib (by omega)) (ic (by omega));rwa[Int.sub_add_cancel]at this
 |elt _ _ ia ib=>have:=Sh.elt (ia (k:=k-1) (by omega)) (ib (by omega));rwa[Int.sub_add_cancel]at this
 |tab hn _ ia=>have:=Sh.tab hn (ia (k:=k-1) (by omega));rwa[Int.sub_add_cancel]at this
 |sum hn _ ia=>have:=Sh.sum hn (ia (k:=k-1) (by omega));rwa[Int.sub_add_cancel]at this
 |ite _ _ _ _ ia ib ic id=>have:=Sh.ite (ia (k:=k-1) (by omega)) (ib (by omega)) (ic (by omega)) (id (by omega));rwa[Int.sub_add_cancel]at this
 |lett hs _ _ ia ib=>have:=Sh.lett hs (ia (k:=k-1) (by omega)) (ib (by omega));rwa[Int.sub_add_cancel]at this
 |call _ ia=>have:=Sh.call (ia (k:=k-1) (by omega));rwa[Int.sub_add_cancel]at this
theorem Sh.hi {h:Int}{x:X}(s:Sh h x):Hi h x:=by
 induction s with
 |lit h0 h1 h2 h3 h4 h5=>exact fun d g1 g2=>w_lit g1 (by omega) h1 h5 (Ju h1 h2 h3 h4).chk
 |ref h0 hs=>exact fun d g1 g2=>w_ref g1 (by omega) hs
 |bin ho _ sa _ ia ib=>have:=sa.F4;exact fun d g1 g2=>w_bin g1 (by omega) ho (ia _ (by omega) (by omega)) (ib _ (by omega) (by omega))
 |neg sa ia=>have:=sa.F4;exact fun d g1 g2=>w_neg g1 (by omega) (ia _ (by omega) (by omega))
 |sq sa ia=>have:=sa.F4;exact fun d g1 g2=>w_sq g1 (by omega) (ia _ (by omega) (by omega))
 |lst sa _ _ ia ib ic=>have:=sa.F4;exact fun d g1 g2=>w_lst g1 (by omega) (ia _ (by omega) (by omega)) (ib _ (by omega) (by omega)) (ic _ (by omega) (by omega))
 |elt sa _ ia ib=>have:=sa.F4;exact fun d g1 g2=>w_at g1 (by omega) (ia _ (by omega) (by omega)) (ib _ (by omega) (by omega))
 |tab hn sa ia=>have:=sa.F4;exact fun d g1 g2=>w_tab g1 (by omega) hn (ia _ (by omega) (by omega))
 |sum hn sa ia=>have:=sa.F4;exact fun d g1 g2=>w_sum g1 (by omega) hn (ia _ (by omega) (by omega))
 |ite sa _ _ _ ia ib ic id=>have:=sa.F4;exact fun d g1 g2=>AaR g1 (by omega) (ia _ (by omega) (by omega)) (ib _ (by omega) (by omega)) (ic _ (by omega) (by omega)) (id _ (by omega) (by omega))
 |lett hs sa _ ia ib=>have:=sa.F4;exact fun d g1 g2=>w_lett g1 (by omega) hs (ia _ (by omega) (by omega)) (ib _ (by omega) (by omega))
 |call sa ia=>have:=sa.F4;exact fun d g1 g2=>Ui g1 (by omega) (ia _ (by omega) (by omega))
theorem nm_mem {k:Kd}{s:List Nat}(h:nmK k=some s):s∈nmsW:=by cases k<;>simp only[nmK,zC,reduceCtorEq]at h<;>subst h<;>decide
theorem AcI {l:Nat}{ins:Bool}{k:Kd}{x:X}(h:Ty l ins k x)(hk:k≠.m):noKm x:=by
 cases h with
 |leaf hl=>cases hl with
  |ref _=>trivial|idx _=>trivial|lit _ _ _=>show(0:Nat)≠2;decide
  |met _ _ _=>exact absurd rfl hk|sec _ _ hu=>rcases hu with rfl|rfl<;>(show(_:Nat)≠2;decide)
 |_=>trivial
def CX (ins0:Option Int)(k:Kd)(ins:Bool)(x:X):Prop:=
 match ins0 with
 |none=>(∀l,Ty l ins k x)∧Sh 1 x|some lv=>Ty (lv-1).toNat ins k x∧Sh lv x
theorem XX {k:Kd}{ins:Bool}{tm:Tm}{sp:List (Option Int×Kd×Bool)}(h:KO k ins tm sp=true){xs:List X}(hx:xs=[]):CX none k ins (tm.mk xs):=by
 subst hx;unfold KO at h;simp only[zA]at h;obtain⟨_,h⟩:=h;split at h
 ·rename_i s;simp only[Bool.or_eq_true,zA,decide_eq_true_eq]at h;rcases h with h|⟨h1,h2,h3⟩
  ·exact⟨fun l=>.leaf (.ref h),(.ref (by decide) (nm_mem h))⟩
  ·subst h2 h3;exact⟨fun l=>.leaf (.idx h1),(.ref (by decide) (by decide))⟩
 ·rename_i a b u;simp only[zA]at h;obtain⟨h1,h2,h3,h4,h5⟩:=h;have h1:=Ba h1;have h2:=Ba h2;have h3:=Ba h3;have h4:=zD h4;have hf:=Ju h1 h2 h3 h4;cases k<;>simp only[Bool.false_eq_true]at h5
  ·have:=zD h5;subst this;exact⟨fun l=>.leaf (.lit hf.lit (by simp only[Int.natAbs_natCast];omega) (by simp only[Int.natAbs_natCast];omega)),(.lit (by decide) h1 h2 h3 h4 (by decide))⟩
  ·simp only[zA,Bool.or_eq_true]at h5;have e:=zD h5.1;subst e;have hu:u=1∨u=2:=h5.2.imp zD zD;exact⟨fun l=>.leaf (.met hf.lit h1 hu),(.lit (by decide) h1 h2 h3 h4 (by omega))⟩
  ·simp only[zA,Bool.or_eq_true]at h5;have e:=zD h5.1;subst e;have hu:u=3∨u=4:=h5.2.imp zD zD;exact⟨fun l=>.leaf (.sec hf.lit h1 hu),(.lit (by decide) h1 h2 h3 h4 (by omega))⟩
 ·rename_i a b u s;simp only[zA,decide_eq_true_eq]at h;obtain⟨h1,h2,h3,rfl,rfl⟩:=h;have h1:=Ba h1;have h2:=zD h2;have h3:=zD h3;subst h2 h3;have hf:=Ju (a:=a) (b:=1) h1 (by decide) (by decide) (Nat.gcd_one_right _);exact⟨fun l=>.leaf2 (ka:=.m) (kb:=.m) (.met hf.lit h1 (.inl rfl)) (.ref rfl) (by decide) rfl rfl (.inl rfl),(Sh.bin (h:=0) (by decide) (fun _=>(by show(1:Nat)≠2;decide)) (.lit (by decide) h1 (by decide) (by decide) (Nat.gcd_one_right _) (by decide)) (.ref (by decide) (by decide)))⟩
 ·rename_i a b u a' b' u';simp only[zA,decide_eq_true_eq]at h;obtain⟨h1,h2,h3,h4,h5,h6,rfl⟩:=h;have h1:=Ba h1;have h2:=zD h2;have h3:=zD h3;have h4:=Ba h4;have h5:=zD h5;have h6:=zD h6;subst h2 h3 h5 h6;have hf:=Ju (a:=a) (b:=1) h1 (by decide) (by decide) (Nat.gcd_one_right _);have hf':=Ju (a:=a') (b:=1) h4 (by decide) (by decide) (Nat.gcd_one_right _);exact⟨fun l=>.leaf2 (ka:=.m) (kb:=.s) (.met hf.lit h1 (.inl rfl)) (.sec hf'.lit h4 (.inl rfl)) (by decide) rfl rfl (.inr rfl),(Sh.bin (h:=0) (by decide) (fun _=>(by show(1:Nat)≠2;decide)) (.lit (by decide) h1 (by decide) (by decide) (Nat.gcd_one_right _) (by decide)) (.lit (by decide) h4 (by decide) (by decide) (Nat.gcd_one_right _) (by decide)))⟩
 ·cases h
theorem SS (xs:List Int)(t:Nat):Vf xs t [] [B0 xs,.int .i64 t,.int .u64 (stN xs t)] []:=
 ⟨rfl,(by decide:1+1<3),all_cons (Qr xs) rfl,rfl,rfl,rfl,fun _=>Ad,fun _=>Ad,fun _=>trivial⟩
theorem NS {p:Kd→Bool→Bool}(h:(kds.all fun k=>[true,false].all fun ins=>p k ins)=true)(k:Kd)(ins:Bool):p k ins=true:=by have:=zB.1 (zB.1 h k (GJ k)) ins (by cases ins<;>simp);exact this
theorem T5 {k:Kd}{ins:Bool}{tm:Tm}{sp:List (Option Int×Kd×Bool)}(h:KO k ins tm sp=true):sp=[]:=by unfold KO at h;simp only[zA,List.isEmpty_iff]at h;exact h.1
theorem OB (xs:List Int)(k:Kd)(ins:Bool)(t:Nat)(ht:t+10<1000000):Ix 41 [.int .i64 k.n,.bool ins] xs t 10 (CX none k ins):=by
 obtain⟨tm,is',kids,t',g1,g2,g3,g4,g5⟩:=FX (xs:=xs) (f:=41) (args:=[.int .i64 k.n,.bool ins]) (fun _=>rfl) (ty:=KO k ins) (B:=1) (zI _) (G:=fun _ _ _ _=>True) (t0:=t) (c:=none) (b:=false) (Z4 k ins) [] _ [] t 6 (fun l=>NS (r_leaf l) k ins) (NS f_leaf k ins) (SS xs t) rfl rfl trivial (by omega) nofun nofun;have hnil:=T5 g3;have hk:kids=[]:=by
  rw[hnil]at g4;cases kids with
  |nil=>rfl|cons _ _=>exact g4.elim
 exact⟨_,t',g1,by omega,XX g3 hk,g5⟩
theorem UD {n:Nat}{k:Kd}{ins:Bool}{tm:Tm}{sp:List (Option Int×Kd×Bool)}(h:EV ((n:Int)+1) k ins tm sp=true){xs:List X}(hx:KG CX sp xs):CX (some ((n:Int)+2)) k ins (tm.mk xs):=by
 have e1:((n:Int)+1-1).toNat=n:=by omega
 have e2:((n:Int)+2-1).toNat=n+1:=by omega
 have up:∀{k ins x},Ty n ins k x→Ty n ins k x:=fun h=>h
 unfold EV at h;unfold CX;simp only[e2];split at h;case h_12=>cases h
 ·rename_i k1 i1;simp only[zA,decide_eq_true_eq]at h;obtain⟨rfl,rfl⟩:=h
  match xs,hx with
  |[a],hx=>exact⟨hx.1.1 _,hx.1.2.mono (by omega)⟩
 ·rename_i op l1 ka i1 l2 kb i2;simp only[zA,decide_eq_true_eq,Bool.not_eq_true']at h;obtain⟨rfl,rfl,rfl,rfl,h5,h6,h7⟩:=h
  match xs,hx with
  |[a,b],hx=>obtain⟨ha,hb,_⟩:=hx;simp only[CX,e1]at ha hb;exact⟨.bin h5 h6 ha.1 hb.1,(Sh.bin h5 (fun e=>AcI ha.1 (fun ek=>by subst e ek;cases h7)) ha.2 hb.2).mono (by omega)⟩
 ·rename_i l1 ka i1 l2 kb i2 l3 kc i3 l4 kd i4;simp only[zA,Bool.or_eq_true,decide_eq_true_eq]at h;obtain⟨rfl,rfl,rfl,rfl,rfl,rfl,rfl,rfl,h5,rfl,rfl,rfl⟩:=h
  match xs,hx with
  |[a,b,c,d],hx=>obtain⟨ha,hb,hc,hd,_⟩:=hx;simp only[CX,e1]at ha hb hc hd;exact⟨.ite h5 ha.1 hb.1 hc.1 hd.1,(Sh.ite ha.2 hb.2 hc.2 hd.2).mono (by omega)⟩
 ·rename_i s l1 ka i1 l2 kb i2;simp only[zA,Bool.or_eq_true,decide_eq_true_eq]at h;obtain⟨rfl,rfl,rfl,rfl,h5,rfl,rfl⟩:=h
  match xs,hx with
  |[a,b],hx=>obtain⟨ha,hb,_⟩:=hx;simp only[CX,e1]at ha hb;exact⟨.lett h5 ha.1 hb.1,(Sh.lett (by rcases h5 with rfl|rfl<;>decide) ha.2 hb.2).mono (by omega)⟩
 ·rename_i l1 ka i1;simp only[zA,decide_eq_true_eq]at h;obtain⟨rfl,rfl,rfl⟩:=h
  match xs,hx with
  |[a],hx=>obtain⟨ha,_⟩:=hx;simp only[CX,e1]at ha;exact⟨.neg ha.1,(Sh.neg ha.2).mono (by omega)⟩
 ·rename_i c l1 ka i1;simp only[zA,decide_eq_true_eq]at h;obtain⟨rfl,rfl,h3,h4⟩:=h;have h3:=zD h3;subst h3
  match xs,hx with
  |[a],hx=>obtain⟨ha,_⟩:=hx;simp only[CX,e1]at ha;exact⟨.tab h4 ha.1,(Sh.tab (by decide) ha.2).mono (by omega)⟩
 ·rename_i l1 ka i1 l2 kb i2 l3 kc i3;simp only[zA,decide_eq_true_eq]at h;obtain⟨rfl,rfl,rfl,rfl,rfl,rfl,rfl,rfl,h4⟩:=h
  match xs,hx with
  |[a,b,c],hx=>obtain⟨ha,hb,hc,_⟩:=hx;simp only[CX,e1]at ha hb hc;exact⟨.lst h4 ha.1 hb.1 hc.1,(Sh.lst ha.2 hb.2 hc.2).mono (by omega)⟩
 ·rename_i c l1 ka i1;simp only[zA,decide_eq_true_eq,Bool.not_eq_true']at h;obtain⟨rfl,rfl,h3,h4,h5,rfl⟩:=h;have h3:=zE h3;have h4:=zE h4;have hm:c∈[1,2,3,4]:=by
   have:c=1∨c=2∨c=3∨c=4:=by omega
   simpa using this
  match xs,hx with
  |[a],hx=>obtain⟨ha,_⟩:=hx;simp only[CX,e1]at ha;exact⟨.sum h5 h3 h4 ha.1,(Sh.sum hm ha.2).mono (by omega)⟩
 ·rename_i i j l1 ka i1;simp only[zA,decide_eq_true_eq]at h;obtain⟨rfl,rfl,h3,h4,h5⟩:=h;have h3:=Ba h3;have h4:=zD h4;subst h4
  match xs,hx with
  |[a],hx=>obtain⟨ha,_⟩:=hx;simp only[CX,e1]at ha;have hf:=Ju (a:=i) (b:=1) (by omega) (by decide) (by decide) (Nat.gcd_one_right _);exact⟨.elt h5 h3 hf.lit ha.1,(Sh.elt ha.2 (.lit (by omega) (by omega) (by decide) (by decide) (Nat.gcd_one_right _) (by decide))).mono (by omega)⟩
 ·rename_i l1 ka i1;simp only[zA,decide_eq_true_eq]at h;obtain⟨rfl,rfl,rfl,rfl⟩:=h
  match xs,hx with
  |[a],hx=>obtain⟨ha,_⟩:=hx;simp only[CX,e1]at ha;exact⟨.call ha.1,(Sh.call ha.2).mono (by omega)⟩
 ·rename_i l1 ka i1;simp only[zA,decide_eq_true_eq]at h;obtain⟨rfl,rfl,rfl,rfl⟩:=h
  match xs,hx with
  |[a],hx=>obtain⟨ha,_⟩:=hx;simp only[CX,e1]at ha;exact⟨.sq ha.1,(Sh.sq ha.2).mono (by omega)⟩
theorem Ix.mono {f:FuncId}{args:List AV}{xs:List Int}{t B C:Nat}(hB:B≤C){G:X→Prop}(h:Ix f args xs t B G):Ix f args xs t C G:=by obtain⟨x,t',h1,h2,h3⟩:=h;exact⟨x,t',h1,by omega,h3⟩
theorem AaE {lv:Int}(hlv:1≤lv){k:Kd}{ins:Bool}{x:X}(h:CX none k ins x):CX (some lv) k ins x:=⟨h.1 _,h.2.mono hlv⟩
def G1 (lv:Option Int)(k:Kd)(ins:Bool)(x:X):Prop:=lv=none∧CX none k ins x
theorem kg1_no {l:Int}{s:Kd×Bool}{r:List (Option Int×Kd×Bool)}{xs:List X}(h:KG G1 ((some l,s)::r) xs):False:=by
 match xs,h with
 |_::_,h=>exact nomatch h.1.1
theorem typed1 (xs:List Int)(k:Kd)(ins:Bool)(t:Nat)(ht:t+10<1000000):Ix 13 [.int .i64 1,.int .i64 k.n,.bool ins] xs t 10 (CX (some 1) k ins):=by
 obtain⟨tm,is',kids,t',g1,g2,g3,g4,g5⟩:=FX (xs:=xs) (f:=13) (args:=[.int .i64 1,.int .i64 k.n,.bool ins]) (fun _=>rfl) (ty:=EV 0 k ins) (B:=10) (by decide) (G:=G1) (t0:=t) (c:=none) (b:=true) (.leaf k ins (.done .same)) [] _ [] t 1 (fun l=>NS (Yy l) k ins) rfl (SS xs t) rfl rfl trivial (by omega) nofun (fun _ k ins t h=>by obtain⟨x,t',a,b,c,d⟩:=OB xs k ins t h;exact⟨x,t',a,b,⟨rfl,c⟩,d⟩);refine⟨_,t',g1,by omega,?_,g5⟩;unfold EV at g3;split at g3
 ·rename_i sp k1 i1 hsp;simp only[zA,decide_eq_true_eq]at g3;obtain⟨rfl,rfl⟩:=g3;rw[hsp]at g4
  match kids,g4 with
  |[a],g4=>exact AaE (by decide) g4.1.2
 all_goals first
  |(cases g3;done)
  |(rename_i hsp;rw[hsp]at g4;exact(kg1_no g4).elim)
theorem Oq {xs:List Int}{n:Nat}{B:Nat}(hB:10≤B)(hr:∀l,(kds.all fun k=>[true,false].all fun ins=>DN l 13 [.int .i64 ((n:Int)+2),.int .i64 k.n,.bool ins] (EV ((n:Int)+1) k ins) (Jo ((n:Int)+1) k ins) [])=true)
 (hf:(kds.all fun k=>[true,false].all fun ins=>FQ (some ((n:Int)+1)) true 8 (Jo ((n:Int)+1) k ins))=true) (hs:16*B<1000000)
 (hch:∀k ins t,t+B<1000000→Ix 13 [.int .i64 ((n:Int)+1),.int .i64 k.n,.bool ins] xs t B (CX (some ((n:Int)+1)) k ins)) (k:Kd) (ins:Bool) (t:Nat) (ht:t+8*B<1000000):Ix 13 [.int .i64 ((n:Int)+2),.int .i64 k.n,.bool ins] xs t (8*B) (CX (some ((n:Int)+2)) k ins):=by
 obtain⟨tm,is',kids,t',g1,g2,g3,g4,g5⟩:=FX (xs:=xs) (f:=13) (args:=[.int .i64 ((n:Int)+2),.int .i64 k.n,.bool ins]) (fun _=>rfl) (ty:=EV ((n:Int)+1) k ins) (B:=B) (by omega) (G:=CX) (t0:=t) (c:=some ((n:Int)+1)) (b:=true) (Jo ((n:Int)+1) k ins) [] _ [] t 8 (fun l=>NS (hr l) k ins) (NS hf k ins) (SS xs t) rfl rfl trivial (by omega) (fun lv e k ins t h=>by cases e;exact hch k ins t h) (fun _ k ins t h=>(OB xs k ins t (by omega)).mono hB);exact⟨_,t',g1,g2,UD g3 g4,g5⟩
theorem YO (xs:List Int)(k:Kd)(ins:Bool)(t:Nat)(ht:t+80<1000000):Ix 13 [.int .i64 2,.int .i64 k.n,.bool ins] xs t 80 (CX (some 2) k ins):=
 Oq (n:=0) (B:=10) (zI _) Z7 VW.1 (by decide) (fun k ins t h=>typed1 xs k ins t h) k ins t ht
theorem ZU (xs:List Int)(k:Kd)(ins:Bool)(t:Nat)(ht:t+640<1000000):Ix 13 [.int .i64 3,.int .i64 k.n,.bool ins] xs t 640 (CX (some 3) k ins):=
 Oq (n:=1) (B:=80) (by decide) ZO VW.2 (by decide) (fun k ins t h=>YO xs k ins t h) k ins t ht
inductive DT (α:Type) where
 |done (a:α)
 |draw (m:Nat) (next:Nat→DT α)
noncomputable def runD (l:List AV)(f:FuncId)(args:List AV)(is:List Gi)(r:AV):Bool:=
 (itF is 1 3).all (fun q=>BU q.N q.args q.l q.res q.u)&&BO (F9 l [] (itF is 1 3) (itB is 3) [] []) 4000 80 1 f (.ptr 0 0::args) [(0,stO 1)] (.ret r) [(0,some (stO (Ek is 1 3).1))]
noncomputable def JE {α:Type}(l:List AV)(f:FuncId)(args:List AV)(res:α→AV)(ty:α→Bool):DT α→List Gi→Bool
 |.done a,is=>runD l f args is (res a)&&ty a|.draw m next,is=>(List.range (m+1)).all fun d=>JE l f args res ty (next d) (is++[.dr m d])
def Tp {α:Type} : Nat→DT α→Bool
 |_,.done _=>true|n+1,.draw m next=>Nat.blt m 1000&&(List.range (m+1)).all fun d=>Tp n (next d)
 |_,_=>false
theorem Qy {α:Type}{xs:List Int}{f:FuncId}{args:List AV}(hargs:∀σ:Nat→AV,Ai σ noT args=args){res:α→AV}(hres:∀(σ:Nat→AV) a,inst σ noT (res a)=res a){ty:α→Bool}{t0:Nat} :
 ∀(tree:DT α) (is:List Gi) (pre:List AV) (t n:Nat),(∀l,JE l f args res ty tree is=true)→Tp n tree=true→Vf xs t is pre []→Ag pre 1=.int .i64 t0→Ag pre 2=.int .u64 (stN xs t0)→t+n<1000000→
  ∃a t',t≤t'∧t'≤t+n∧ty a=true∧Cm P4 gl5 1 f (.ptr 0 0::args) [(0,Cn xs t0)] (.ret (res a)) [(0,some (Cn xs t'))]
 |.done a,is,pre,t,n,hc,hf,hi,h1,h2,hn=>by have hr:=hc pre;simp only[JE,zA]at hr;obtain⟨hr,hty⟩:=hr;unfold runD at hr;simp only[zA]at hr;obtain⟨r1,r3⟩:=hr;have hf:=hi.facts [];have hb:=hi.bins [];rw[List.append_nil]at hf hb;have:=Gl (l:=pre) (mu:=[]) hi.plain rfl r1 hf hb Ad Ad r3;have e0:B7 (Ag pre) noT (mpL []) (stO 1)=Cn xs t0:=Ge hi.st0 h1 h2;have e1:B7 (Ag pre) noT (mpL []) (stO (Ek is 1 3).1)=Cn xs t:=Ge hi.st0 hi.st1 hi.st2;rw[Of e0,Nw e1]at this;simp only[Ai,inst,Bi,hargs,hres]at this;exact⟨a,t,zI _,Nat.le_add_right _ _,hty,this⟩
 |.draw m next,is,pre,t,n,hc,hf,hi,h1,h2,hn=>by
  match n,hf with
  |n+1,hf=>
  have hr:=EH xs t m;obtain⟨d,hd⟩:∃d:Nat,Iu xs t m=(d:Int):=⟨(Iu xs t m).toNat,by omega⟩;have hdm:d<m+1:=by omega
  simp only[Tp,zA]at hf;obtain⟨hm,hf⟩:=hf;have hm:=Ba hm;have hup:=g_up xs t m (by omega) hm;rw[hd]at hup;have hi2:=hi.step (i:=.dr m d) (t':=t+1) (new:=[]) (ys:=[]) rfl rfl (fun σ _=>trivial) (fun σ hσ e1 e2=>⟨Dr hup rfl rfl e1 e2,Ad⟩);rw[List.append_nil]at hi2;have hp1:∀(b:List AV) i,i<3→Ag (pre++b) i=Ag pre i:=fun b i h=>Fo b (by have:=len3 hi;omega)
  obtain⟨a,t',g1,g2,g3⟩:=Qy hargs hres (next d) (is++[.dr m d]) _ (t+1) n (fun l=>zB.1 (hc l) d (zQ.2 hdm)) (zB.1 hf d (zQ.2 hdm)) hi2 (by rw[hp1 _ 1 (by omega)];exact h1) (by rw[hp1 _ 2 (by omega)];exact h2) (by omega);exact⟨a,t',by omega,by omega,g3⟩
def txtI (p:Int):List Nat:=bif decide (p<0) then[45,48+p.natAbs] else[48+p.natAbs]
def redI (p:Int)(q:Nat):Int×Nat:=let g:=Nat.gcd p.natAbs q;(p/(g:Int),q/g)
def AaY (x:Int×Nat):AV:=.agg [.str (txtI x.1),.str [48+x.2]]
def VY (x:Int×Nat):Bool:=decide ((txtI x.1,x.1)∈txs)&&(decide (x.2∈U5)&&Nat.beq (Nat.gcd x.1.natAbs x.2) 1)
def ratT:DT (Int×Nat):=.draw 18 fun p=>.draw 3 fun c=>.draw (match c with|0=>0|1=>0|2=>1|_=>4) fun q=>.done (redI ((p:Int)-9) (q+1))
theorem r_rat (l:List AV):JE l 38 [.int .i64 9,.int .i64 5] AaY VY ratT []=true:=by kernel_rfl
theorem f_rat:Tp 3 ratT=true:=by kernel_rfl
theorem Aah {x:Int×Nat}(h:VY x=true):Fr (txtI x.1) [48+x.2] (x.1,(x.2:Int)):=by simp only[VY,zA,decide_eq_true_eq]at h;exact⟨h.1,⟨x.2,h.2.1,rfl,rfl⟩,zD h.2.2⟩
abbrev FB:=Option (Nat×Nat×Nat)
def ES:FB→X
 |none=>Tf|some (k,p,q)=>RN k [48+p] [48+q] ((p:Int),(q:Int))
def AaB (f:X):AV:=.psl [.int .i64 0,.str nmF,.psl [.str [120]] 1 none,f.c0,f.c1,f.c2,f.c3,f.c4,f.c5] 1 none
def Im:FB→Bool
 |none=>true|some (k,p,q)=>Nat.ble k 5&&(Nat.blt p 10&&(Nat.blt 0 q&&(Nat.blt q 6&&Nat.beq (Nat.gcd p q) 1)))
def funT2:DT FB:=.draw 1 fun d=>match d with
 |0=>.draw 5 fun k=>.draw 4 fun p=>.draw 2 fun q=>.done (some (k,p/Nat.gcd p (q+1),(q+1)/Nat.gcd p (q+1)))
 |_=>.done none
def funT:DT FB:=.draw 0 fun _=>.draw 3 fun c=>.draw (match c with|2=>1|_=>0) fun _=>funT2
noncomputable def runF (l:List AV)(c k q:Nat):Bool:=JE l 11 [] (fun f=>AaB (ES f)) Im funT2 [.dr 0 0,.dr 3 c,.dr k q]
end Go.Ev
end
