/- What the generators make of any list of numbers. -/
import Derived.Test.YtecmlmofhabonaaGreatDoorGen3
import Derived.Test.YtecmlmofhabonaaGreatDoorNode4
import Derived.Test.YtecmlmofhabonaaGreatDoorGen1
noncomputable section
namespace Go.Ev
open Go Go.Ab Go.Nl Go.Nb Go.RowKit Go.Proofs Go.E4 Go.Ro
set_option maxRecDepth 1000000
theorem Je {a b:Nat}(ha:a<10)(h0:0<b)(h6:b<6)(hg:Nat.gcd a b=1):Fr [48+a] [48+b] ((a:Int),(b:Int)):=by
 refine⟨?_,⟨b,?_,rfl,rfl⟩,by simpa using hg⟩
 ·exact List.mem_append_left _ (List.mem_map.2 ⟨a,List.mem_range.2 ha,rfl⟩)
 ·have:b=1∨b=2∨b=3∨b=4∨b=5:=by omega
  rcases this with rfl|rfl|rfl|rfl|rfl<;>decide
theorem Fr.lit {p d:List Nat}{q:Q}(h:Fr p d q):L7 p d q:=⟨h.of,h.ok⟩
def Hi (h:Int)(x:X):Prop:=∀d,0≤d→d+h≤29→Wk d x
theorem GI {a b u:Nat}(ha:a<10)(h0:0<b)(h6:b<6)(hg:Nat.gcd a b=1)(hu:u<5):Hi 0 (P6 a b u):=fun d h1 h2=>w_lit h1 (by omega) ha hu (Je ha h0 h6 hg).chk
theorem Hi.mono {a b:Int}(h:a≤b){x:X}(hx:Hi a x):Hi b x:=fun d h1 h2=>hx d h1 (by omega)
theorem Pv {s:List Nat}(hs:s∈nmsW):Hi 0 (.ref s):=fun d h1 h2=>w_ref h1 (by omega) hs
theorem I3 {op:Nat}(ho:op∈[3,4,5,6]){h:Int}(h0:0≤h){a b:X}(ha:Hi h a)(hb:Hi h b):Hi (h+1) (.bin op a b):=fun d h1 h2=>w_bin h1 (by omega) ho (ha _ (by omega) (by omega)) (hb _ (by omega) (by omega))
theorem nm_mem {k:Kd}{s:List Nat}(h:nmK k=some s):s∈nmsW:=by
 cases k<;>simp only[nmK,Option.some.injEq,reduceCtorEq] at h<;>subst h<;>decide
def CY (ins0:Option Int)(k:Kd)(ins:Bool)(x:X):Prop:=
 match ins0 with
 | none=>(∀l,Ty l ins k x)∧Hi 1 x
 | some lv=>Ty (lv-1).toNat ins k x∧Hi lv x
theorem WN {k:Kd}{ins:Bool}{tm:Tm}{sp:List (Option Int×Kd×Bool)}(h:Kp k ins tm sp=true){xs:List X}(hx:xs=[]):CY none k ins (tm.mk xs):=by
 subst hx
 unfold Kp at h
 simp only[Bool.and_eq_true] at h
 obtain⟨_,h⟩:=h
 split at h
 ·rename_i s
  simp only[Bool.or_eq_true,Bool.and_eq_true,decide_eq_true_eq] at h
  rcases h with h|⟨h1,h2,h3⟩
  ·exact⟨fun l=>.leaf (.ref h),(Pv (nm_mem h)).mono (by decide)⟩
  ·subst h2 h3
   exact⟨fun l=>.leaf (.idx h1),(Pv (by decide)).mono (by decide)⟩
 ·rename_i a b u
  simp only[Bool.and_eq_true] at h
  obtain⟨h1,h2,h3,h4,h5⟩:=h
  have h1:=Bb h1;have h2:=Bb h2;have h3:=Bb h3;have h4:=Nat.eq_of_beq_eq_true h4
  have hf:=Je h1 h2 h3 h4
  cases k<;>simp only[Bool.false_eq_true] at h5
  ·have:=Nat.eq_of_beq_eq_true h5
   subst this
   exact⟨fun l=>.leaf (.lit hf.lit (by simp only[Int.natAbs_natCast];omega) (by simp only[Int.natAbs_natCast];omega)),(GI h1 h2 h3 h4 (by decide)).mono (by decide)⟩
  ·simp only[Bool.and_eq_true,Bool.or_eq_true] at h5
   have e:=Nat.eq_of_beq_eq_true h5.1
   subst e
   have hu:u=1∨u=2:=h5.2.imp Nat.eq_of_beq_eq_true Nat.eq_of_beq_eq_true
   exact⟨fun l=>.leaf (.met hf.lit h1 hu),(GI h1 h2 h3 h4 (by omega)).mono (by decide)⟩
  ·simp only[Bool.and_eq_true,Bool.or_eq_true] at h5
   have e:=Nat.eq_of_beq_eq_true h5.1
   subst e
   have hu:u=3∨u=4:=h5.2.imp Nat.eq_of_beq_eq_true Nat.eq_of_beq_eq_true
   exact⟨fun l=>.leaf (.sec hf.lit h1 hu),(GI h1 h2 h3 h4 (by omega)).mono (by decide)⟩
 ·rename_i a b u s
  simp only[Bool.and_eq_true,decide_eq_true_eq] at h
  obtain⟨h1,h2,h3,rfl,rfl⟩:=h
  have h1:=Bb h1;have h2:=Nat.eq_of_beq_eq_true h2;have h3:=Nat.eq_of_beq_eq_true h3
  subst h2 h3
  have hf:=Je (a:=a) (b:=1) h1 (by decide) (by decide) (Nat.gcd_one_right _)
  exact⟨fun l=>.leaf2 (ka:=.m) (kb:=.m) (.met hf.lit h1 (.inl rfl)) (.ref rfl) (by decide) rfl rfl (.inl rfl),I3 (by decide) (by decide) (GI h1 (by decide) (by decide) (Nat.gcd_one_right _) (by decide)) (Pv (by decide))⟩
 ·rename_i a b u a' b' u'
  simp only[Bool.and_eq_true,decide_eq_true_eq] at h
  obtain⟨h1,h2,h3,h4,h5,h6,rfl⟩:=h
  have h1:=Bb h1;have h2:=Nat.eq_of_beq_eq_true h2;have h3:=Nat.eq_of_beq_eq_true h3;have h4:=Bb h4;have h5:=Nat.eq_of_beq_eq_true h5;have h6:=Nat.eq_of_beq_eq_true h6
  subst h2 h3 h5 h6
  have hf:=Je (a:=a) (b:=1) h1 (by decide) (by decide) (Nat.gcd_one_right _)
  have hf':=Je (a:=a') (b:=1) h4 (by decide) (by decide) (Nat.gcd_one_right _)
  exact⟨fun l=>.leaf2 (ka:=.m) (kb:=.s) (.met hf.lit h1 (.inl rfl)) (.sec hf'.lit h4 (.inl rfl)) (by decide) rfl rfl (.inr rfl),I3 (by decide) (by decide) (GI h1 (by decide) (by decide) (Nat.gcd_one_right _) (by decide)) (GI h4 (by decide) (by decide) (Nat.gcd_one_right _) (by decide))⟩
 ·cases h
theorem Rf (xs:List Int)(t:Nat):T1 xs t [] [BE xs,.int .i64 t,.int .u64 (stN xs t)] []:=
 ⟨rfl,(by decide:1+1<3),all_cons (Ir xs) rfl,rfl,rfl,rfl,fun _=>Ad,fun _=>Ad,fun _=>trivial⟩
theorem Np {p:Kd→Bool→Bool}(h:(kds.all fun k=>[true,false].all fun ins=>p k ins)=true)(k:Kd)(ins:Bool):p k ins=true:=by
 have:=List.all_eq_true.1 (List.all_eq_true.1 h k (Jh k)) ins (by cases ins<;>simp)
 exact this
theorem SG {k:Kd}{ins:Bool}{tm:Tm}{sp:List (Option Int×Kd×Bool)}(h:Kp k ins tm sp=true):sp=[]:=by
 unfold Kp at h
 simp only[Bool.and_eq_true,List.isEmpty_iff] at h
 exact h.1
theorem L4 (xs:List Int)(k:Kd)(ins:Bool)(t:Nat)(ht:t+10<1000000):Hz 41 [.int .i64 k.n,.bool ins] xs t 10 (CY none k ins):=by
 obtain⟨tm,is',kids,t',g1,g2,g3,g4,g5⟩:=FM (xs:=xs) (f:=41) (args:=[.int .i64 k.n,.bool ins]) (fun _=>rfl) (ty:=Kp k ins) (B:=1) (Nat.le_refl _) (G:=fun _ _ _ _=>True) (t0:=t) (c:=none) (b:=false) (YW k ins) [] _ [] t 6 (fun l=>Np (r_leaf l) k ins) (Np f_leaf k ins) (Rf xs t) rfl rfl trivial (by omega) nofun nofun
 have hnil:=SG g3
 have hk:kids=[]:=by
  rw[hnil] at g4
  cases kids with
  | nil=>rfl
  | cons _ _=>exact g4.elim
 exact⟨_,t',g1,by omega,WN g3 hk,g5⟩
theorem Vq {a u:Nat}(ha:a<10)(hu:u<5):Hi 0 (P6 a 1 u):=GI ha (by decide) (by decide) (Nat.gcd_one_right _) hu
theorem TZ {n:Nat}{k:Kd}{ins:Bool}{tm:Tm}{sp:List (Option Int×Kd×Bool)}(h:EZ ((n:Int)+1) k ins tm sp=true){xs:List X}(hx:KG CY sp xs):CY (some ((n:Int)+2)) k ins (tm.mk xs):=by
 have e1:((n:Int)+1-1).toNat=n:=by omega
 have e2:((n:Int)+2-1).toNat=n+1:=by omega
 have up:∀{k ins x},Ty n ins k x→Ty n ins k x:=fun h=>h
 unfold EZ at h
 unfold CY
 simp only[e2]
 split at h
 case h_12=>cases h
 ·rename_i k1 i1
  simp only[Bool.and_eq_true,decide_eq_true_eq] at h
  obtain⟨rfl,rfl⟩:=h
  match xs,hx with
  | [a],hx=>exact⟨hx.1.1 _,hx.1.2.mono (by omega)⟩
 ·rename_i op l1 ka i1 l2 kb i2
  simp only[Bool.and_eq_true,decide_eq_true_eq] at h
  obtain⟨rfl,rfl,rfl,rfl,h5,h6⟩:=h
  match xs,hx with
  | [a,b],hx=>
   obtain⟨ha,hb,_⟩:=hx
   simp only[CY,e1] at ha hb
   exact⟨.bin h5 h6 ha.1 hb.1,(I3 h5 (by omega) ha.2 hb.2).mono (by omega)⟩
 ·rename_i l1 ka i1 l2 kb i2 l3 kc i3 l4 kd i4
  simp only[Bool.and_eq_true,Bool.or_eq_true,decide_eq_true_eq] at h
  obtain⟨rfl,rfl,rfl,rfl,rfl,rfl,rfl,rfl,h5,rfl,rfl,rfl⟩:=h
  match xs,hx with
  | [a,b,c,d],hx=>
   obtain⟨ha,hb,hc,hd,_⟩:=hx
   simp only[CY,e1] at ha hb hc hd
   exact⟨.ite h5 ha.1 hb.1 hc.1 hd.1,fun d h1 h2=>w_ite h1 (by omega) (ha.2 _ (by omega) (by omega)) (hb.2 _ (by omega) (by omega)) (hc.2 _ (by omega) (by omega)) (hd.2 _ (by omega) (by omega))⟩
 ·rename_i s l1 ka i1 l2 kb i2
  simp only[Bool.and_eq_true,Bool.or_eq_true,decide_eq_true_eq] at h
  obtain⟨rfl,rfl,rfl,rfl,h5,rfl,rfl⟩:=h
  match xs,hx with
  | [a,b],hx=>
   obtain⟨ha,hb,_⟩:=hx
   simp only[CY,e1] at ha hb
   exact⟨.lett h5 ha.1 hb.1,fun d h1 h2=>YT h1 (by omega) (by rcases h5 with rfl|rfl<;>decide) (ha.2 _ (by omega) (by omega)) (hb.2 _ (by omega) (by omega))⟩
 ·rename_i l1 ka i1
  simp only[Bool.and_eq_true,decide_eq_true_eq] at h
  obtain⟨rfl,rfl,rfl⟩:=h
  match xs,hx with
  | [a],hx=>
   obtain⟨ha,_⟩:=hx
   simp only[CY,e1] at ha
   exact⟨.neg ha.1,fun d h1 h2=>w_neg h1 (by omega) (ha.2 _ (by omega) (by omega))⟩
 ·rename_i c l1 ka i1
  simp only[Bool.and_eq_true,decide_eq_true_eq] at h
  obtain⟨rfl,rfl,h3,h4⟩:=h
  have h3:=Nat.eq_of_beq_eq_true h3
  subst h3
  match xs,hx with
  | [a],hx=>
   obtain⟨ha,_⟩:=hx
   simp only[CY,e1] at ha
   exact⟨.tab h4 ha.1,fun d h1 h2=>w_tab h1 (by omega) (by decide) (ha.2 _ (by omega) (by omega))⟩
 ·rename_i l1 ka i1 l2 kb i2 l3 kc i3
  simp only[Bool.and_eq_true,decide_eq_true_eq] at h
  obtain⟨rfl,rfl,rfl,rfl,rfl,rfl,rfl,rfl,h4⟩:=h
  match xs,hx with
  | [a,b,c],hx=>
   obtain⟨ha,hb,hc,_⟩:=hx
   simp only[CY,e1] at ha hb hc
   exact⟨.lst h4 ha.1 hb.1 hc.1,fun d h1 h2=>w_lst h1 (by omega) (ha.2 _ (by omega) (by omega)) (hb.2 _ (by omega) (by omega)) (hc.2 _ (by omega) (by omega))⟩
 ·rename_i c l1 ka i1
  simp only[Bool.and_eq_true,decide_eq_true_eq,Bool.not_eq_true'] at h
  obtain⟨rfl,rfl,h3,h4,h5,rfl⟩:=h
  have h3:=Nat.le_of_ble_eq_true h3;have h4:=Nat.le_of_ble_eq_true h4
  have hm:c∈[1,2,3,4]:=by
   have:c=1∨c=2∨c=3∨c=4:=by omega
   simpa using this
  match xs,hx with
  | [a],hx=>
   obtain⟨ha,_⟩:=hx
   simp only[CY,e1] at ha
   exact⟨.sum h5 h3 h4 ha.1,fun d h1 h2=>w_sum h1 (by omega) hm (ha.2 _ (by omega) (by omega))⟩
 ·rename_i i j l1 ka i1
  simp only[Bool.and_eq_true,decide_eq_true_eq] at h
  obtain⟨rfl,rfl,h3,h4,h5⟩:=h
  have h3:=Bb h3;have h4:=Nat.eq_of_beq_eq_true h4
  subst h4
  match xs,hx with
  | [a],hx=>
   obtain⟨ha,_⟩:=hx
   simp only[CY,e1] at ha
   have hf:=Je (a:=i) (b:=1) (by omega) (by decide) (by decide) (Nat.gcd_one_right _)
   exact⟨.elt h5 h3 hf.lit ha.1,fun d h1 h2=>w_at h1 (by omega) (ha.2 _ (by omega) (by omega)) (Vq (by omega) (by decide) _ (by omega) (by omega))⟩
 ·rename_i l1 ka i1
  simp only[Bool.and_eq_true,decide_eq_true_eq] at h
  obtain⟨rfl,rfl,rfl,rfl⟩:=h
  match xs,hx with
  | [a],hx=>
   obtain⟨ha,_⟩:=hx
   simp only[CY,e1] at ha
   exact⟨.call ha.1,fun d h1 h2=>SH h1 (by omega) (ha.2 _ (by omega) (by omega))⟩
 ·rename_i l1 ka i1
  simp only[Bool.and_eq_true,decide_eq_true_eq] at h
  obtain⟨rfl,rfl,rfl,rfl⟩:=h
  match xs,hx with
  | [a],hx=>
   obtain⟨ha,_⟩:=hx
   simp only[CY,e1] at ha
   exact⟨.sq ha.1,fun d h1 h2=>w_sq h1 (by omega) (ha.2 _ (by omega) (by omega))⟩
theorem Hz.mono {f:FuncId}{args:List AV}{xs:List Int}{t B C:Nat}(hB:B≤C){G:X→Prop}(h:Hz f args xs t B G):Hz f args xs t C G:=by
 obtain⟨x,t',h1,h2,h3⟩:=h
 exact⟨x,t',h1,by omega,h3⟩
theorem XT {lv:Int}(hlv:1≤lv){k:Kd}{ins:Bool}{x:X}(h:CY none k ins x):CY (some lv) k ins x:=⟨h.1 _,h.2.mono hlv⟩
def G1 (lv:Option Int)(k:Kd)(ins:Bool)(x:X):Prop:=lv=none∧CY none k ins x
theorem kg1_no {l:Int}{s:Kd×Bool}{r:List (Option Int×Kd×Bool)}{xs:List X}(h:KG G1 ((some l,s)::r) xs):False:=by
 match xs,h with
 | _::_,h=>exact nomatch h.1.1
theorem typed1 (xs:List Int)(k:Kd)(ins:Bool)(t:Nat)(ht:t+10<1000000):Hz 13 [.int .i64 1,.int .i64 k.n,.bool ins] xs t 10 (CY (some 1) k ins):=by
 obtain⟨tm,is',kids,t',g1,g2,g3,g4,g5⟩:=FM (xs:=xs) (f:=13) (args:=[.int .i64 1,.int .i64 k.n,.bool ins]) (fun _=>rfl) (ty:=EZ 0 k ins) (B:=10) (by decide) (G:=G1) (t0:=t) (c:=none) (b:=true) (.leaf k ins (.done .same)) [] _ [] t 1 (fun l=>Np (Zw l) k ins) rfl (Rf xs t) rfl rfl trivial (by omega) nofun (fun _ k ins t h=>by
  obtain⟨x,t',a,b,c,d⟩:=L4 xs k ins t h
  exact⟨x,t',a,b,⟨rfl,c⟩,d⟩)
 refine⟨_,t',g1,by omega,?_,g5⟩
 unfold EZ at g3
 split at g3
 ·rename_i sp k1 i1 hsp
  simp only[Bool.and_eq_true,decide_eq_true_eq] at g3
  obtain⟨rfl,rfl⟩:=g3
  rw[hsp] at g4
  match kids,g4 with
  | [a],g4=>exact XT (by decide) g4.1.2
 all_goals first
  | (cases g3;done)
  | (rename_i hsp;rw[hsp] at g4;exact(kg1_no g4).elim)
theorem Ml {xs:List Int}{n:Nat}{B:Nat}(hB:10≤B)(hr:∀l,(kds.all fun k=>[true,false].all fun ins=>DC l 13 [.int .i64 ((n:Int)+2),.int .i64 k.n,.bool ins] (EZ ((n:Int)+1) k ins) (I6 ((n:Int)+1) k ins) [])=true)
 (hf:(kds.all fun k=>[true,false].all fun ins=>FT (some ((n:Int)+1)) true 8 (I6 ((n:Int)+1) k ins))=true) (hs:16*B<1000000)
 (hch:∀k ins t,t+B<1000000→Hz 13 [.int .i64 ((n:Int)+1),.int .i64 k.n,.bool ins] xs t B (CY (some ((n:Int)+1)) k ins)) (k:Kd) (ins:Bool) (t:Nat) (ht:t+8*B<1000000):Hz 13 [.int .i64 ((n:Int)+2),.int .i64 k.n,.bool ins] xs t (8*B) (CY (some ((n:Int)+2)) k ins):=by
 obtain⟨tm,is',kids,t',g1,g2,g3,g4,g5⟩:=FM (xs:=xs) (f:=13) (args:=[.int .i64 ((n:Int)+2),.int .i64 k.n,.bool ins]) (fun _=>rfl) (ty:=EZ ((n:Int)+1) k ins) (B:=B) (by omega) (G:=CY) (t0:=t) (c:=some ((n:Int)+1)) (b:=true) (I6 ((n:Int)+1) k ins) [] _ [] t 8 (fun l=>Np (hr l) k ins) (Np hf k ins) (Rf xs t) rfl rfl trivial (by omega) (fun lv e k ins t h=>by
  cases e
  exact hch k ins t h) (fun _ k ins t h=>(L4 xs k ins t (by omega)).mono hB)
 exact⟨_,t',g1,g2,TZ g3 g4,g5⟩
theorem typed2 (xs:List Int)(k:Kd)(ins:Bool)(t:Nat)(ht:t+80<1000000):Hz 13 [.int .i64 2,.int .i64 k.n,.bool ins] xs t 80 (CY (some 2) k ins):=
 Ml (n:=0) (B:=10) (Nat.le_refl _) Yi Vm.1 (by decide) (fun k ins t h=>typed1 xs k ins t h) k ins t ht
theorem X9 (xs:List Int)(k:Kd)(ins:Bool)(t:Nat)(ht:t+640<1000000):Hz 13 [.int .i64 3,.int .i64 k.n,.bool ins] xs t 640 (CY (some 3) k ins):=
 Ml (n:=1) (B:=80) (by decide) ZL Vm.2 (by decide) (fun k ins t h=>typed2 xs k ins t h) k ins t ht
inductive DT (α:Type) where
 | done (a:α)
 | draw (m:Nat) (next:Nat→DT α)
noncomputable def runD (l:List AV)(f:FuncId)(args:List AV)(is:List Gi)(r:AV):Bool:=
 (itF is 1 3).all (fun q=>BH q.N q.args q.l q.res q.u)&&Br (EM l [] (itF is 1 3) (itB is 3) [] []) 4000 80 1 f (.ptr 0 0::args) [(0,stO 1)] (.ret r) [(0,some (stO (Em is 1 3).1))]
noncomputable def Jc {α:Type}(l:List AV)(f:FuncId)(args:List AV)(res:α→AV)(ty:α→Bool):DT α→List Gi→Bool
 | .done a,is=>runD l f args is (res a)&&ty a
 | .draw m next,is=>(List.range (m+1)).all fun d=>Jc l f args res ty (next d) (is++[.dr m d])
def QT {α:Type} : Nat→DT α→Bool
 | _,.done _=>true
 | n+1,.draw m next=>Nat.blt m 1000&&(List.range (m+1)).all fun d=>QT n (next d)
 | _,_=>false
theorem Pz {α:Type}{xs:List Int}{f:FuncId}{args:List AV}(hargs:∀σ:Nat→AV,Au σ noT args=args){res:α→AV}(hres:∀(σ:Nat→AV) a,inst σ noT (res a)=res a){ty:α→Bool}{t0:Nat} :
 ∀(tree:DT α) (is:List Gi) (pre:List AV) (t n:Nat),(∀l,Jc l f args res ty tree is=true)→QT n tree=true→T1 xs t is pre []→Am pre 1=.int .i64 t0→Am pre 2=.int .u64 (stN xs t0)→t+n<1000000→
  ∃a t',t≤t'∧t'≤t+n∧ty a=true∧CM P4 gl5 1 f (.ptr 0 0::args) [(0,CJ xs t0)] (.ret (res a)) [(0,some (CJ xs t'))]
 | .done a,is,pre,t,n,hc,hf,hi,h1,h2,hn=>by
  have hr:=hc pre
  simp only[Jc,Bool.and_eq_true] at hr
  obtain⟨hr,hty⟩:=hr
  unfold runD at hr
  simp only[Bool.and_eq_true] at hr
  obtain⟨r1,r3⟩:=hr
  have hf:=hi.facts []
  have hb:=hi.bins []
  rw[List.append_nil] at hf hb
  have:=Ci (l:=pre) (mu:=[]) hi.plain rfl r1 hf hb Ad Ad r3
  have e0:Ca (Am pre) noT (mpL []) (stO 1)=CJ xs t0:=Gb hi.st0 h1 h2
  have e1:Ca (Am pre) noT (mpL []) (stO (Em is 1 3).1)=CJ xs t:=Gb hi.st0 hi.st1 hi.st2
  rw[NU e0,NS e1] at this
  simp only[Au,inst,Bu,hargs,hres] at this
  exact⟨a,t,Nat.le_refl _,Nat.le_add_right _ _,hty,this⟩
 | .draw m next,is,pre,t,n,hc,hf,hi,h1,h2,hn=>by
  match n,hf with
  | n+1,hf=>
  have hr:=FL xs t m
  obtain⟨d,hd⟩:∃d:Nat,Hu xs t m=(d:Int):=⟨(Hu xs t m).toNat,by omega⟩
  have hdm:d<m+1:=by omega
  simp only[QT,Bool.and_eq_true] at hf
  obtain⟨hm,hf⟩:=hf
  have hm:=Bb hm
  have hup:=g_up xs t m (by omega) hm
  rw[hd] at hup
  have hi2:=hi.step (i:=.dr m d) (t':=t+1) (new:=[]) (ys:=[]) rfl rfl (fun σ _=>trivial) (fun σ hσ e1 e2=>⟨D4 hup rfl rfl e1 e2,Ad⟩)
  rw[List.append_nil] at hi2
  have hp1:∀(b:List AV) i,i<3→Am (pre++b) i=Am pre i:=fun b i h=>Fg b (by have:=len3 hi;omega)
  obtain⟨a,t',g1,g2,g3⟩:=Pz hargs hres (next d) (is++[.dr m d]) _ (t+1) n (fun l=>List.all_eq_true.1 (hc l) d (List.mem_range.2 hdm)) (List.all_eq_true.1 hf d (List.mem_range.2 hdm)) hi2 (by rw[hp1 _ 1 (by omega)];exact h1) (by rw[hp1 _ 2 (by omega)];exact h2) (by omega)
  exact⟨a,t',by omega,by omega,g3⟩
def txtI (p:Int):List Nat:=bif decide (p<0) then[45,48+p.natAbs] else[48+p.natAbs]
def redI (p:Int)(q:Nat):Int×Nat:=let g:=Nat.gcd p.natAbs q;(p/(g:Int),q/g)
def Yl (x:Int×Nat):AV:=.agg [.str (txtI x.1),.str [48+x.2]]
def VE (x:Int×Nat):Bool:=decide ((txtI x.1,x.1)∈txs)&&(decide (x.2∈Q8)&&Nat.beq (Nat.gcd x.1.natAbs x.2) 1)
def ratT:DT (Int×Nat):=.draw 18 fun p=>.draw 3 fun c=>.draw (match c with|0=>0|1=>0|2=>1|_=>4) fun q=>.done (redI ((p:Int)-9) (q+1))
theorem r_rat (l:List AV):Jc l 38 [.int .i64 9,.int .i64 5] Yl VE ratT []=true:=by kernel_rfl
theorem f_rat:QT 3 ratT=true:=by kernel_rfl
theorem ZT {x:Int×Nat}(h:VE x=true):Fr (txtI x.1) [48+x.2] (x.1,(x.2:Int)):=by
 simp only[VE,Bool.and_eq_true,decide_eq_true_eq] at h
 exact⟨h.1,⟨x.2,h.2.1,rfl,rfl⟩,Nat.eq_of_beq_eq_true h.2.2⟩
abbrev FB:=Option (Nat×Nat×Nat)
def FD:FB→X
 | none=>Ri
 | some (k,p,q)=>QZ k [48+p] [48+q] ((p:Int),(q:Int))
def ZF (f:X):AV:=.psl [.int .i64 0,.str nmF,.psl [.str [120]] 1 none,f.c0,f.c1,f.c2,f.c3,f.c4,f.c5] 1 none
def F3:FB→Bool
 | none=>true
 | some (k,p,q)=>Nat.ble k 5&&(Nat.blt p 10&&(Nat.blt 0 q&&(Nat.blt q 6&&Nat.beq (Nat.gcd p q) 1)))
def funT2:DT FB:=.draw 1 fun d=>match d with
 | 0=>.draw 5 fun k=>.draw 4 fun p=>.draw 2 fun q=>.done (some (k,p/Nat.gcd p (q+1),(q+1)/Nat.gcd p (q+1)))
 | _=>.done none
def funT:DT FB:=.draw 0 fun _=>.draw 3 fun c=>.draw (match c with|2=>1|_=>0) fun _=>funT2
noncomputable def runF (l:List AV)(c k q:Nat):Bool:=Jc l 11 [] (fun f=>ZF (FD f)) F3 funT2 [.dr 0 0,.dr 3 c,.dr k q]
end Go.Ev
end
