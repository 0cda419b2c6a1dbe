/- Steps add up; how great the numbers of values are. -/
import Derived.Test.YtecmlmofhabonaaGreatDoorSNode6
import Derived.Test.YtecmlmofhabonaaGreatDoorSGen8
noncomputable section
namespace Go.Ev
open Go Go.Ab Go.Nl Go.Nb Go.RowKit Go.Proofs Go.E4 Go.Ro
set_option maxRecDepth 1000000
variable {ins:Bool}{e:En}{n n':Int}{k:Kd}{m:Nat}{cb:Option (Nat×Q)}{v:Vl}{a x:X}
theorem SX {s:List Nat} : ∀(bs:Bs) {o o':Option Vl},(Ak nmI s=true→∃p∈bs,p.1=nmI)→(Ak nmI s=false→o=o')→Ch bs s o=Ch bs s o'
 |[],o,o',h1,h2=>by
  cases hb:Ak nmI s with
  |true=>obtain⟨p,hp,_⟩:=h1 hb;cases hp
  |false=>exact h2 hb
 |p::r,o,o',h1,h2=>by
  show Ch r s _=Ch r s _;cases hp:Ak p.1 s with
  |true=>rfl|false=>
   refine SX r (fun hb=>?_) h2;obtain⟨q,hq,hn⟩:=h1 hb;rcases zH.1 hq with rfl|hq
   ·rw[hn,hb]at hp;cases hp
   ·exact⟨q,hq,hn⟩
theorem WB {u:Vl} : ∀(x:X) (bs:Bs) (n:Int),(∃p∈bs,p.1=nmI)→evS e cb ((nmI,u)::bs) x n=evS e cb bs x n:=by
 have ap:∀(bs:Bs) (t:Bs),(∃p∈bs,p.1=nmI)→∃p∈bs++t,p.1=nmI:=fun bs t ⟨p,hp,h⟩=>⟨p,List.mem_append_left _ hp,h⟩
 intro x
 induction x with
 |lit p d q u=>intro bs n _;rfl
 |ref s=>intro bs n h;simp only[evS];rw[show Ch ((nmI,u)::bs) s (e.nm s)=Ch bs s (e.nm s) from SX bs (fun _=>h) (fun hb=>by rw[hb];rfl)]
 |bin op a b iha ihb=>intro bs n h;simp only[evS,iha bs _ h,ihb bs _ h]
 |neg a iha=>intro bs n h;simp only[evS,iha bs _ h]
 |sq a iha=>intro bs n h;simp only[evS,iha bs _ h]
 |lst a b c iha ihb ihc=>intro bs n h;simp only[evS,iha bs _ h,ihb bs _ h,ihc bs _ h]
 | «at» a b iha ihb=>intro bs n h;simp only[evS,iha bs _ h,ihb bs _ h]
 |tab c a iha=>intro bs n h;simp only[evS,List.cons_append,iha _ _ (ap bs _ h)]
 |sum c a iha=>intro bs n h;simp only[evS,List.cons_append,iha _ _ (ap bs _ h)]
 |ite a b c d iha ihb ihc ihd=>intro bs n h;simp only[evS,iha bs _ h,ihb bs _ h,ihc bs _ h,ihd bs _ h]
 |lett s a b iha ihb=>intro bs n h;simp only[evS,List.cons_append,iha bs _ h,ihb _ _ (ap bs _ h)]
 |call a iha=>intro bs n h;simp only[evS,iha bs _ h]
theorem Zh {i:Nat}{h:Int}(sx:Sh h x):∀(bs:Bs) (n:Int),(∀p∈bs,p.1≠nmI)→evS e cb ((nmI,Dx i)::bs) x n=evS e cb bs (Al i x) n:=by
 have ap:∀(bs:Bs) (s:List Nat) (u:Vl),s≠nmI→(∀p∈bs,p.1≠nmI)→∀p∈bs++[(s,u)],p.1≠nmI:=fun bs s u hs hb p hp=>by
  rcases List.mem_append.1 hp with hp|hp
  ·exact hb p hp
  ·rw[List.mem_singleton.1 hp];exact hs
 have last:∀(bs:Bs) (j:Nat),∃p∈bs++[(nmI,Dx j)],p.1=nmI:=fun bs j=>⟨(nmI,Dx j),List.mem_append_right _ (List.mem_singleton.2 rfl),rfl⟩
 induction sx with
 |lit _ _ _ _ _ _=>intro bs n _;rfl
 | @ref h s _ hs=>
  intro bs n hb;unfold Al;by_cases es:s=nmI
  ·subst es;rw[if_pos rfl];simp only[evS];have:∀(bs:Bs) (o:Option Vl),(∀p∈bs,p.1≠nmI)→Ch bs nmI o=o:=by
    intro bs
    induction bs with
    |nil=>intro o _;rfl
    |cons p r ih=>
     intro o hb;have hp:Ak p.1 nmI=false:=by
      cases hq:Ak p.1 nmI with
      |false=>rfl|true=>exact absurd (EL _ _ hq) (hb p (List.mem_cons_self ..))
     show Ch r nmI (bif Ak p.1 nmI then some p.2 else o)=o;rw[hp];exact ih o fun q hq=>hb q (zO _ hq)
   rw[show Ch ((nmI,Dx i)::bs) nmI (e.nm nmI)=Ch bs nmI (some (Dx i)) from rfl,this bs _ hb];rfl
  ·rw[if_neg es];simp only[evS];have hq:Ak nmI s=false:=by
    cases hq:Ak nmI s with
    |false=>rfl|true=>exact absurd (EL _ _ hq).symm es
   rw[show Ch ((nmI,Dx i)::bs) s (e.nm s)=Ch bs s (e.nm s) by show Ch bs s (bif Ak nmI s then some (Dx i) else e.nm s)=_;rw[hq];rfl]
 |bin _ _ _ _ iha ihb=>intro bs n h;simp only[evS,Al,iha bs _ h,ihb bs _ h]
 |neg _ iha=>intro bs n h;simp only[evS,Al,iha bs _ h]
 |sq _ iha=>intro bs n h;simp only[evS,Al,iha bs _ h]
 |lst _ _ _ iha ihb ihc=>intro bs n h;simp only[evS,Al,iha bs _ h,ihb bs _ h,ihc bs _ h]
 |elt _ _ iha ihb=>intro bs n h;simp only[evS,Al,iha bs _ h,ihb bs _ h]
 |tab _ _ _=>intro bs n h;simp only[evS,Al,List.cons_append,WB _ _ _ (last bs _)]
 |sum _ _ _=>intro bs n h;simp only[evS,Al,List.cons_append,WB _ _ _ (last bs _)]
 |ite _ _ _ _ iha ihb ihc ihd=>intro bs n h;simp only[evS,Al,iha bs _ h,ihb bs _ h,ihc bs _ h,ihd bs _ h]
 | @lett h s a b hs _ _ iha ihb=>
  intro bs n h;have hne:s≠nmI:=by simp only[C0,zH,List.not_mem_nil,or_false]at hs;rcases hs with rfl|rfl|rfl<;>decide
  simp only[evS,Al,List.cons_append,iha bs _ h,ihb _ _ (ap bs s _ hne h)]
 |call _ iha=>intro bs n h;simp only[evS,Al,iha bs _ h]
def Ej:X→List X
 |.lit .. | .ref _=>[]|.bin _ a b|.at a b|.lett _ a b=>[a,b]|.neg a|.sq a|.tab _ a|.sum _ a|.call a=>[a]|.lst a b c=>[a,b,c]|.ite a b c d=>[a,b,c,d]
theorem sh_kid : (∃h,Sh h x)→∀y∈Ej x,∃h,Sh h y:=by
 rintro⟨h,s⟩ y hy;cases s<;>simp only[Ej,On,zH,List.not_mem_nil,or_false]at hy;case bin _ _ ha hb=>rcases hy with rfl|rfl;exact⟨_,ha⟩;exact⟨_,hb⟩
 case neg ha=>subst hy;exact⟨_,ha⟩
 case sq ha=>subst hy;exact⟨_,ha⟩
 case lst ha hb hc=>rcases hy with rfl|rfl|rfl;exact⟨_,ha⟩;exact⟨_,hb⟩;exact⟨_,hc⟩
 case elt ha hb=>rcases hy with rfl|rfl;exact⟨_,ha⟩;exact⟨_,hb⟩
 case tab _ ha=>subst hy;exact⟨_,ha⟩
 case sum _ ha=>subst hy;exact⟨_,ha⟩
 case ite ha hb hc hd=>rcases hy with rfl|rfl|rfl|rfl;exact⟨_,ha⟩;exact⟨_,hb⟩;exact⟨_,hc⟩;exact⟨_,hd⟩
 case lett _ ha hb=>rcases hy with rfl|rfl;exact⟨_,ha⟩;exact⟨_,hb⟩
 case call ha=>subst hy;exact⟨_,ha⟩
theorem AbT (he:EnSz e cb){C:Nat}(hC:65536≤C)(P:X→Prop)(kid:∀x,P x→∀y∈Ej x,P y)
 (lf2:∀{ins op ka kb k a b},Lf ins ka a→Lf ins kb b→op∈[5,6]→kdR op ka kb=some k→ka=.m→(kb=.m∨kb=.s)→P (.bin op a b)→∀{bs:Bs} {n n':Int} {v:Vl},(∀p∈bs,p.1∈B2)→evS e cb bs (.bin op a b) n=.ok (v,n')→SzV C v)
 {l:Nat} (h:Ty l ins k x):P x→∀{bs:Bs} {M:Nat} {n n':Int} {v:Vl},C≤M→l≤2→(∀p∈bs,SzV M p.2)→(∀p∈bs,p.1∈B2)→evS e cb bs x n=.ok (v,n')→SzV (G l M) v:=by
 have pos:∀{M:Nat},C≤M→65536≤M:=fun h=>zM hC h
 have lf:∀{ins k x},Lf ins k x→∀{bs:Bs} {M:Nat} {n n':Int} {v:Vl},C≤M→(∀p∈bs,SzV M p.2)→evS e cb bs x n=.ok (v,n')→SzV M v:=by
  intro ins k x h bs M n n' v hM hb hv;have nm:∀{s:List Nat} {o:Option Vl},(∀w,o=some w→SzV 65536 w)→(match Ch bs s o with|some v=>(.ok (v,n+1):Rs)|none=>.error 4)=.ok (v,n')→SzV M v:=by
   intro s o ho h;cases hf:Ch bs s o with
   |none=>rw[hf]at h;cases h
   |some w=>rw[hf]at h;simp only[Except.ok.injEq,zG]at h;obtain⟨rfl,_⟩:=h;exact WR hb (fun w hw=>(ho w hw).mono (pos hM)) hf
  cases h with
  |ref _=>simp only[evS]at hv;exact nm (fun w hw=>nm_sz he hw) hv
  |idx _=>simp only[evS]at hv;exact nm (fun w hw=>nm_sz he hw) hv
  |lit _ h1 h2=>simp only[evS,Except.ok.injEq,zG]at hv;obtain⟨rfl,_⟩:=hv;intro q hq;simp only[litV,List.mem_singleton]at hq;subst hq;have:=pos hM;exact⟨by omega,by omega⟩
  |met _ hz _=>simp only[evS,Except.ok.injEq,zG]at hv;obtain⟨rfl,_⟩:=hv;exact(Abg hz).mono (pos hM)
  |sec _ hz _=>simp only[evS,Except.ok.injEq,zG]at hv;obtain⟨rfl,_⟩:=hv;exact(Abg hz).mono (pos hM)
 have push:∀{bs:Bs} {M:Nat} {s:List Nat} {u:Vl},(∀p∈bs,SzV M p.2)→SzV M u→∀p∈bs++[(s,u)],SzV M p.2:=by
  intro bs M s u hb hu p hp;rcases List.mem_append.1 hp with hp|hp
  ·exact hb p hp
  ·simp only[List.mem_singleton]at hp;subst hp;exact hu
 have pushn:∀{bs:Bs} {s:List Nat} {u:Vl},(∀p∈bs,p.1∈B2)→s∈B2→∀p∈bs++[(s,u)],p.1∈B2:=by
  intro bs s u hb hu p hp;rcases List.mem_append.1 hp with hp|hp
  ·exact hb p hp
  ·simp only[List.mem_singleton]at hp;subst hp;exact hu
 have idx:∀{M i:Nat},C≤M→i<4→SzV M (Dx i):=by intro M i hM hi q hq;have:=pos hM;simp only[Dx,List.mem_singleton]at hq;subst hq;exact⟨by simp only[Int.natAbs_natCast];omega,by simp;omega⟩
 have one:∀{M:Nat} {z:Int},1≤M→z.natAbs≤1→SzV 1 (⟨[],[(z,1)],.pl⟩:Vl):=by intro M z hM hz q hq;simp only[List.mem_singleton]at hq;subst hq;exact⟨hz,by simp⟩
 induction h with
 |leaf hl=>intro px bs M n n' v hM h2 hb hm hv;exact(lf hl hM hb hv).mono (Fz (zM (zM (by decide) hC) hM))
 | @leaf2 l ins op ka kb k a b ha hb' ho hk hm1 hm2=>intro px bs M n n' v hM h2 hb hm hv;have h1:1≤M:=zM (zM (by decide) hC) hM;exact((lf2 ha hb' ho hk hm1 hm2 px hm hv).mono hM).mono (Fz h1)
 | @bin l ins op ka kb k a b _ _ _ _ iha ihb=>
  intro px bs M n n' v hM h2 hb hm hv;have h1:1≤M:=zM (zM (by decide) hC) hM;have hg:1≤G _ M:=zM h1 (Fz (l:=l) h1);simp only[evS]at hv;cases ha1:evS e cb bs a (n+1) with
  |error _=>rw[ha1]at hv;cases hv
  |ok p=>
  obtain⟨pv,pn⟩:=p;rw[ha1]at hv;simp only at hv;cases hb1:evS e cb bs b pn with
  |error _=>rw[hb1]at hv;cases hv
  |ok q=>
  obtain⟨qv,qn⟩:=q;rw[hb1]at hv;simp only at hv;exact(JU (iha (kid _ px _ (by simp[Ej])) hM (by omega) hb hm ha1) (ihb (kid _ px _ (by simp[Ej])) hM (by omega) hb hm hb1) hg hg (EF hv)).mono (sq_H hg)
 | @ite l ins ko k a b c d _ _ _ _ _ iha ihb ihc ihd=>
  intro px bs M n n' v hM h2 hb hm hv;have h1:1≤M:=zM (zM (by decide) hC) hM;have hg:1≤G _ M:=zM h1 (Fz (l:=l) h1);simp only[evS]at hv;cases ha1:evS e cb bs a (n+1) with
  |error _=>rw[ha1]at hv;cases hv
  |ok p=>
  obtain⟨pv,pn⟩:=p;rw[ha1]at hv;simp only at hv;cases hb1:evS e cb bs b pn with
  |error _=>rw[hb1]at hv;cases hv
  |ok q=>
  obtain⟨qv,qn⟩:=q;rw[hb1]at hv;simp only at hv;by_cases hl:SZ pv qv=true
  ·simp only[hl,if_true]at hv;exact(ihc (kid _ px _ (by simp[Ej])) hM (by omega) hb hm hv).mono (MQ hg)
  ·simp only[hl,Bool.false_eq_true,if_false]at hv;exact(ihd (kid _ px _ (by simp[Ej])) hM (by omega) hb hm hv).mono (MQ hg)
 | @lett l ins k s a b hs _ _ iha ihb=>
  intro px bs M n n' v hM h2 hb hm hv;have h1:1≤M:=zM (zM (by decide) hC) hM;have hg:1≤G _ M:=zM h1 (Fz (l:=l) h1);simp only[evS]at hv;cases ha1:evS e cb bs a (n+1) with
  |error _=>rw[ha1]at hv;cases hv
  |ok p=>
  obtain⟨pv,pn⟩:=p;rw[ha1]at hv;simp only at hv;have hM2:C≤G l M:=zM hM (Fz h1);have:=ihb (kid _ px _ (by simp[Ej])) hM2 (by omega) (push (fun p hp=>(hb p hp).mono (Fz h1)) (iha (kid _ px _ (by simp[Ej])) hM (by omega) hb hm ha1)) (pushn hm (by rcases hs with rfl|rfl<;>decide)) hv;exact this.mono (G_two h1 (by omega))
 | @neg l ins k a _ iha=>
  intro px bs M n n' v hM h2 hb hm hv;have h1:1≤M:=zM (zM (by decide) hC) hM;have hg:1≤G _ M:=zM h1 (Fz (l:=l) h1);simp only[evS]at hv;cases ha1:evS e cb bs a (n+1) with
  |error _=>rw[ha1]at hv;cases hv
  |ok p=>
  obtain⟨pv,pn⟩:=p;rw[ha1]at hv;simp only at hv;have:=JU (one hg (by decide)) (iha (kid _ px _ (by simp[Ej])) hM (by omega) hb hm ha1) (by decide) hg (EF hv);have h4:=AaE hg;refine this.mono ?_;show 2*(1*G l M)≤8*(G l M)^4;omega
 | @tab l ins k ka a _ _ iha=>
  intro px bs M n n' v hM h2 hb hm hv;have h1:1≤M:=zM (zM (by decide) hC) hM;have hg:1≤G _ M:=zM h1 (Fz (l:=l) h1);simp only[evS]at hv;cases ha1:Ci (fun i n=>evS e cb (bs++[(nmI,Dx i)]) a n) 3 0 (n+1) with
  |error _=>rw[ha1]at hv;cases hv
  |ok p=>
  obtain⟨pv,pn⟩:=p;rw[ha1]at hv;simp only at hv;simp only[Except.ok.injEq,zG]at hv;obtain⟨rfl,_⟩:=hv;obtain⟨hl,_⟩:=Qi (M:=G l M) 3 0 (n+1) (fun j n v n' _ hj hv=>iha (kid _ px _ (by simp[Ej])) hM (by omega) (push hb (idx hM (by omega))) (pushn hm (by decide)) hv) ha1;intro q hq;simp only[C3,List.mem_flatMap]at hq;obtain⟨w,hw,hq⟩:=hq;exact(hl w hw q hq).mono (MQ hg)
 | @lst l ins k ka a b c _ _ _ _ iha ihb ihc=>
  intro px bs M n n' v hM h2 hb hm hv;have h1:1≤M:=zM (zM (by decide) hC) hM;have hg:1≤G _ M:=zM h1 (Fz (l:=l) h1);simp only[evS]at hv;cases ha1:evS e cb bs a (n+1) with
  |error _=>rw[ha1]at hv;cases hv
  |ok p=>
  obtain⟨pv,pn⟩:=p;rw[ha1]at hv;simp only at hv;cases hb1:evS e cb bs b pn with
  |error _=>rw[hb1]at hv;cases hv
  |ok q=>
  obtain⟨qv,qn⟩:=q;rw[hb1]at hv;simp only at hv;cases hc1:evS e cb bs c qn with
  |error _=>rw[hc1]at hv;cases hv
  |ok r=>
  obtain⟨rv,rn⟩:=r;rw[hc1]at hv;simp only at hv;simp only[Except.ok.injEq,zG]at hv;obtain⟨rfl,_⟩:=hv;intro x hx;simp only[C3,List.mem_flatMap,zH,List.not_mem_nil,or_false]at hx;obtain⟨w,hw,hx⟩:=hx;rcases hw with rfl|rfl|rfl
  ·exact(iha (kid _ px _ (by simp[Ej])) hM (by omega) hb hm ha1 x hx).mono (MQ hg)
  ·exact(ihb (kid _ px _ (by simp[Ej])) hM (by omega) hb hm hb1 x hx).mono (MQ hg)
  ·exact(ihc (kid _ px _ (by simp[Ej])) hM (by omega) hb hm hc1 x hx).mono (MQ hg)
 | @sum l ins k c a _ _ h4 _ iha=>
  intro px bs M n n' v hM h2 hb hm hv;have h1:1≤M:=zM (zM (by decide) hC) hM;have hg:1≤G _ M:=zM h1 (Fz (l:=l) h1);simp only[evS]at hv;cases ha1:Ci (fun i n=>evS e cb (bs++[(nmI,Dx i)]) a n) c 0 (n+1) with
  |error _=>rw[ha1]at hv;cases hv
  |ok p=>
  obtain⟨pv,pn⟩:=p;rw[ha1]at hv;simp only at hv;obtain⟨hl,hlen⟩:=Qi (M:=G l M) c 0 (n+1) (fun j n v n' _ hj hv=>iha (kid _ px _ (by simp[Ej])) hM (by omega) (push hb (idx hM (by omega))) (pushn hm (by decide)) hv) ha1;exact tot_sz hg hl (by omega) (EF hv)
 | @elt l ins k ka a p d i _ hi _ _ iha=>
  intro px bs M n n' v hM h2 hb hm hv;have h1:1≤M:=zM (zM (by decide) hC) hM;have hg:1≤G _ M:=zM h1 (Fz (l:=l) h1);simp only[evS]at hv;cases ha1:evS e cb bs a (n+1) with
  |error _=>rw[ha1]at hv;cases hv
  |ok p=>
  obtain⟨pv,pn⟩:=p;rw[ha1]at hv;simp only at hv;have hv:=EF hv;unfold OM at hv;split at hv
  ·rename_i q hq;simp only[Except.ok.injEq]at hv;subst hv;intro x hx;simp only[List.mem_singleton]at hx;subst hx;exact(iha (kid _ px _ (by simp[Ej])) hM (by omega) hb hm ha1 _ (List.mem_of_getElem? hq)).mono (MQ hg)
  ·cases hv
 | @call l ins a _ iha=>
  intro px bs M n n' v hM h2 hb hm hv;have h1:1≤M:=zM (zM (by decide) hC) hM;have hg:1≤G _ M:=zM h1 (Fz (l:=l) h1);simp only[evS]at hv;cases ha1:evS e cb bs a (n+1) with
  |error _=>rw[ha1]at hv;cases hv
  |ok p=>
  obtain⟨pv,pn⟩:=p;rw[ha1]at hv;simp only at hv;have hp:=iha (kid _ px _ (by simp[Ej])) hM (by omega) hb hm ha1;have h4:=Y5 hg;have h5:=AaE hg
  match cb,hv with
  |none,hv=>
   unfold Hh at hv;cases hc:Cg 5 ⟨[],[(0,1)],.pl⟩ pv with
   |error _=>rw[hc]at hv;cases hv
   |ok w=>
    rw[hc]at hv;have hw:=JU (one hg (by decide)) hp (by decide) hg hc;have:=JU hp hw hg (by omega) (EF hv);refine this.mono ?_;show _≤8*(G l M)^4;have e2:G l M*(2*(1*G l M))=2*(G l M*G l M):=by rw[Nat.one_mul,Nat.mul_left_comm]
    rw[e2];omega
  |some (k,q),hv=>
   unfold Hh at hv;by_cases hl:RN k pv=true
   ·simp only[hl,if_true]at hv;have hq:SzV M (⟨[],[q],.pl⟩:Vl):=by intro x hx;simp only[List.mem_singleton]at hx;subst hx;exact(he.q k _ rfl).mono (pos hM)
    have:=JU (hq.mono (Fz (l:=l) h1)) hp hg hg (EF hv);exact this.mono (sq_H hg)
   ·simp only[hl,Bool.false_eq_true,if_false,Except.ok.injEq,zG]at hv;obtain⟨rfl,_⟩:=hv;exact hp.mono (MQ hg)
 | @sq l ins a _ iha=>
  intro px bs M n n' v hM h2 hb hm hv;have h1:1≤M:=zM (zM (by decide) hC) hM;have hg:1≤G _ M:=zM h1 (Fz (l:=l) h1);simp only[evS]at hv;cases ha1:evS e cb bs a (n+1) with
  |error _=>rw[ha1]at hv;cases hv
  |ok p=>
  obtain⟨pv,pn⟩:=p;rw[ha1]at hv;simp only at hv;have hp:=PT hg (iha (kid _ px _ (by simp[Ej])) hM (by omega) hb hm ha1);have:=JJ (EF hv);subst this;intro x hx;simp only[List.mem_singleton]at hx;subst hx;have o:Sz 1 ((1,1):Q):=⟨by decide,by decide⟩;have h3:Sz (1*G l M) (Ax (1,1) (pv.it.headD (0,1))):=Jn (DP o.1 hp.1) (DP o.2 hp.2);have h4:Sz (1*G l M*G l M) (sqQ (pv.it.headD (0,1))):=Jn (DP h3.1 hp.1) (DP h3.2 hp.2);have h5:=Y5 hg;refine h4.mono ?_;rw[Nat.one_mul];show _≤8*(G l M)^4;omega
def Pz (m d:Nat)(q:Q):Prop:=q.1.natAbs≤m∧q.2.natAbs≤d
theorem Py {z:Nat}(hz:z<10){f:Int}(hf:9*f.natAbs≤m):Pz m 1 (Ax ((z:Int),1) (f,1)):=by rw[FX];refine⟨?_,by simp⟩;show((z:Int)*f).natAbs≤m;rw[Int.natAbs_mul];have:((z:Int)).natAbs*f.natAbs≤9*f.natAbs:=Nat.mul_le_mul_right _ (by simp only[Int.natAbs_natCast];omega);omega
theorem both1 {op:Nat}{qa qb:Q}{d d':Dm}{w:Vl}(h:Cg op ⟨[],[qa],d⟩ ⟨[],[qb],d'⟩=.ok w):w.it=[opQ op qa qb]:=by
 unfold Cg at h;split at h
 ·cases h
 ·have:=JJ h;subst this;simp[Qq]
theorem R4 {a b:Q}{d m' d' M:Nat}(ha:Pz m d a)(hb:Pz m' d' b)(h1:m*m'≤M)(h2:d*d'≤M):Sz M (opQ 5 a b):=Jn (zM (DP ha.1 hb.1) h1) (zM (DP ha.2 hb.2) h2)
theorem WT {a b:Q}{d m' d' M:Nat}(ha:Pz m d a)(hb:Pz m' d' b)(h1:m*d'≤M)(h2:d*m'≤M):Sz M (opQ 6 a b):=Jn (zM (DP ha.1 hb.2) h1) (zM (DP ha.2 hb.1) h2)
structure M5 (e:En):Prop where
 b:∃q,e.b=⟨[],[q],.m⟩ ∧Sz 9 q
 c:∃q,e.c=⟨[],[q],.s⟩ ∧Sz 9 q
theorem Aaw (he:M5 e)(h:Lf ins .m a){bs:Bs}(hm:∀p∈bs,p.1∈B2)(hv:evS e cb bs a n=.ok (v,n')) :
 ∃q d,v=⟨[],[q],d⟩ ∧(Pz 9 9 q∨(noKm a∧Pz 9 1 q)∨Pz 9000 1 q∧¬noKm a):=by
 cases h with
 |ref hr=>
  simp only[nmK,zC]at hr;subst hr;simp only[evS]at hv;rw[Ff fun p hp=>(LN (hm p hp)).2.1]at hv;simp only[En.nm]at hv;have:v=e.b:=by have h:(.ok (e.b,n+1):Rs)=.ok (v,n'):=hv;simp only[Except.ok.injEq,zG]at h;exact h.1.symm
  subst this;obtain⟨q,hq,hs⟩:=he.b;exact⟨q,_,hq,.inl hs⟩
 |met _ hz hu=>
  simp only[evS,Except.ok.injEq,zG]at hv;obtain⟨rfl,_⟩:=hv;rcases hu with rfl|rfl
  ·exact⟨_,_,rfl,.inr (.inl ⟨by show(1:Nat)≠2;decide,Py hz (by decide)⟩)⟩
  ·exact⟨_,_,rfl,.inr (.inr ⟨Py hz (by decide),fun h=>h rfl⟩)⟩
theorem leaf_s (he:M5 e)(h:Lf ins .s a){bs:Bs}(hm:∀p∈bs,p.1∈B2)(hv:evS e cb bs a n=.ok (v,n')) :
 ∃q d,v=⟨[],[q],d⟩ ∧(Pz 9 9 q∨Pz 32400 1 q):=by
 cases h with
 |ref hr=>
  simp only[nmK,zC]at hr;subst hr;simp only[evS]at hv;rw[Ff fun p hp=>(LN (hm p hp)).2.2.1]at hv;simp only[En.nm]at hv;have:v=e.c:=by have h:(.ok (e.c,n+1):Rs)=.ok (v,n'):=hv;simp only[Except.ok.injEq,zG]at h;exact h.1.symm
  subst this;obtain⟨q,hq,hs⟩:=he.c;exact⟨q,_,hq,.inl hs⟩
 |sec _ hz hu=>
  simp only[evS,Except.ok.injEq,zG]at hv;obtain⟨rfl,_⟩:=hv;rcases hu with rfl|rfl
  ·exact⟨_,_,rfl,.inr (Py hz (by decide))⟩
  ·exact⟨_,_,rfl,.inr (Py hz (by decide))⟩
def C1:Nat:=300000
theorem YO (he:M5 e){op:Nat}{ka kb:Kd}{b:X}(ha:Lf ins ka a)(hb:Lf ins kb b)(ho:op∈[5,6])(hk:kdR op ka kb=some k)(h1:ka=.m)(h2:kb=.m∨kb=.s)(hs:∃h,Sh h (.bin op a b))
 {bs:Bs} (hm:∀p∈bs,p.1∈B2) (hv:evS e cb bs (.bin op a b) n=.ok (v,n')):SzV C1 v:=by
 have hkm:op=5→noKm a:=by
  obtain⟨h,s⟩:=hs;cases s with
  |bin _ hq _ _=>exact hq
 subst h1;simp only[evS]at hv;cases ha1:evS e cb bs a (n+1) with
 |error _=>rw[ha1]at hv;cases hv
 |ok p=>
 obtain⟨pv,pn⟩:=p;rw[ha1]at hv;simp only at hv;cases hb1:evS e cb bs b pn with
 |error _=>rw[hb1]at hv;cases hv
 |ok q=>
 obtain⟨qv,qn⟩:=q;rw[hb1]at hv;simp only at hv;obtain⟨qa,da,rfl,za⟩:=Aaw he ha hm ha1;have fin:∀{qb:Q} {db:Dm},qv=⟨[],[qb],db⟩ →Sz C1 (opQ op qa qb)→SzV C1 v:=by rintro qb db rfl hz x hx;rw[both1 (EF hv),List.mem_singleton]at hx;subst hx;exact hz
 simp only[zH,List.not_mem_nil,or_false]at ho;rcases h2 with rfl|rfl
 ·obtain⟨qb,db,e1,zb⟩:=Aaw he hb hm hb1;refine fin e1 ?_;rcases ho with rfl|rfl
  ·rcases za with za|⟨_,za⟩|⟨_,hn⟩
   ·rcases zb with zb|⟨_,zb⟩|⟨zb,_⟩<;>exact R4 za zb (by decide) (by decide)
   ·rcases zb with zb|⟨_,zb⟩|⟨zb,_⟩<;>exact R4 za zb (by decide) (by decide)
   ·exact absurd (hkm rfl) hn
  ·rcases za with za|⟨_,za⟩|⟨za,_⟩<;>rcases zb with zb|⟨_,zb⟩|⟨zb,_⟩<;>exact WT za zb (by decide) (by decide)
 ·rcases ho with rfl|rfl
  ·cases hk
  ·obtain⟨qb,db,e1,zb⟩:=leaf_s he hb hm hb1;refine fin e1 ?_;rcases za with za|⟨_,za⟩|⟨za,_⟩<;>rcases zb with zb|zb<;>exact WT za zb (by decide) (by decide)
theorem Aci (he:EnSz e cb)(hl:M5 e)(h:Ty 2 ins k x){hh:Int}(s:Sh hh x){bs:Bs}(hb:∀p∈bs,SzV C1 p.2)(hm:∀p∈bs,p.1∈B2)(hv:evS e cb bs x n=.ok (v,n')):SzV (G 2 C1) v:=
 AbT he (C:=C1) (by decide) (fun x=>∃h,Sh h x) (fun x hx=>sh_kid hx) (fun a b c d e1 f hp _ _ _ _ hm hv=>YO hl a b c d e1 f hp hm hv) h ⟨hh,s⟩ (zI _) (by decide) hb hm hv
theorem NC:H (G 2 C1)<B^44:=AW (by kernel_rfl)
end Go.Ev
namespace Go.Ev
open Go Go.Ab Go.Nl Go.Nb Go.RowKit Go.Proofs Go.E4 Go.Ro
variable {i:Nat}
theorem lit_i (hi:i<4):JQ [48+i] [48+1] ((i:Int),((1:Nat):Int)):=
 (F6 (a:=i) (b:=1) (by omega) (by decide) (by decide) (Nat.gcd_one_right _)).lit
theorem QE (hi:i<4){ins:Bool}{k:Kd}{x:X}(h:Lf ins k x):Lf false k (Al i x):=by
 cases h with
 |ref hs=>
  rename_i s;have:s≠nmI:=by rintro rfl;cases k<;>cases hs
  unfold Al;rw[if_neg this];exact .ref hs
 |idx _=>unfold Al;rw[if_pos rfl];exact .lit (lit_i hi) (by show i<_;omega) (by show(1:Nat)<_;omega)
 |lit h1 h2 h3=>exact .lit h1 h2 h3|met h1 h2 h3=>exact .met h1 h2 h3|sec h1 h2 h3=>exact .sec h1 h2 h3
theorem Adl (hi:i<4){l:Nat}{ins:Bool}{k:Kd}{x:X}(h:Ty l ins k x):Ty l false k (Al i x):=by
 induction h with
 |leaf hl=>exact .leaf (QE hi hl)|leaf2 ha hb ho hk h1 h2=>exact .leaf2 (QE hi ha) (QE hi hb) ho hk h1 h2|bin ho hk ha hb iha ihb=>exact .bin ho hk iha ihb|ite h1 _ _ _ _ ia ib ic id=>exact .ite h1 ia ib ic id|lett h1 _ _ ia ib=>exact .lett h1 ia ib|neg _ ia=>exact .neg ia|tab h1 ha _=>exact .tab h1 ha|lst h1 _ _ _ ia ib ic=>exact .lst h1 ia ib ic|sum h1 h2 h3 ha _=>exact .sum h1 h2 h3 ha|elt h1 h2 h3 _ ia=>exact .elt h1 h2 h3 ia|call _ ia=>exact .call ia|sq _ ia=>exact .sq ia
end Go.Ev
namespace Go.Ev
open Go Go.Ab Go.Nl Go.Nb Go.RowKit Go.Proofs Go.E4
variable {k:Kd}{l:List Vl}{M:Nat}{v:Vl}
variable {e:En}{cb:Option (Nat×Q)}{bs:Bs}{n:Int}
theorem t_at (hl:∀v∈l,VOk k v)(h4:l.length≤4){i:Nat}(hv:l[i]?=some v){a:X}{p d:List Nat}(hp:JQ p d ((i:Int),1)){n1:Int}(h0:0≤n)(hn:n<4990)(hn1:0≤n1)(hn2:n1<4990)(ha:Ev e 1 (Co bs) (n+1) a (.ok (C3 l,n1))):Ev e 1 (Co bs) n (.at a (.lit p d ((i:Int),1) 0)) (.ok (v,n1+1)):=by have oo:=DF bs;have hb:Ev e 1 (Co bs) n1 (.lit p d ((i:Int),1) 0) (.ok (⟨[],[((i:Int),1)],.pl⟩,n1+1)):=Ud oo hn1 (by omega) hp.of;exact Abh oo h0 (by omega) ha hb (YY hl h4 hv)
theorem Si {f:Nat→Int→Rs} : ∀{c i:Nat} {n:Int} {l:List Vl} {n':Int},Ci f c i n=.ok (l,n')→l.length=c∧∀j,j<c→∃v m m',l[j]?=some v∧f (i+j) m=.ok (v,m')
 |0,i,n,l,n',h=>by cases h;exact⟨rfl,fun j hj=>absurd hj (Nat.not_lt_zero _)⟩
 |c+1,i,n,l,n',h=>by
  simp only[Ci]at h;cases h1:f i n with
  |error er=>rw[h1]at h;cases h
  |ok p=>
   obtain⟨v,n1⟩:=p;rw[h1]at h;simp only at h;cases h2:Ci f c (i+1) n1 with
   |error er=>rw[h2]at h;cases h
   |ok q=>
    obtain⟨r,n2⟩:=q;rw[h2]at h;cases h;obtain⟨g1,g2⟩:=Si h2;refine⟨by rw[List.length_cons,g1],fun j hj=>?_⟩;cases j with
    |zero=>exact⟨v,n,n1,rfl,h1⟩|succ j=>obtain⟨w,m,m',q1,q2⟩:=g2 j (by omega);exact⟨w,m,m',by rw[List.getElem?_cons_succ];exact q1,by rw[show i+(j+1)=i+1+j by omega];exact q2⟩
theorem VZ (h1:1≤M)(hM:H M<B^44)(hl:∀v∈l,VOk k v)(hs:∀v∈l,SzV M v)(hn:1≤l.length)(h4:l.length≤4):Oz l=.ok (EW k l)∧VOk k (EW k l):=by
 have h:Oz l=.ok (EW k l):=by
  rw[VQ hl hn];unfold BO;rw[if_pos];refine zB.2 fun x hx=>?_
  obtain⟨j,_,rfl⟩:=List.mem_map.1 hx;exact Abb hM (MX h1 hs h4 j)
 exact⟨h,(SQ hl hn h4).2 _ h⟩
theorem QJ (hk:k.arr=false)(l:List Vl):EW k l=⟨[],[BV l 0],k.dm⟩:=by unfold EW nk shK;rw[hk];rfl
theorem Qh (hk:k.arr=true)(l:List Vl):EW k l=⟨[3],[BV l 0,BV l 1,BV l 2],k.dm⟩:=by unfold EW nk shK;rw[hk];rfl
theorem Z8 (h:VOk k v):EW k [v]=v:=by
 cases hk:k.arr with
 |false=>rw[QJ hk];obtain⟨a,rfl,_⟩:=h.one hk;rfl
 |true=>rw[Qh hk];obtain⟨a,b,c,rfl,_,_,_⟩:=h.three hk;rfl
theorem RE (k:Kd):dimR 3 k.dm k.dm=some k.dm:=by cases k<;>rfl
theorem NL (h1:1≤M)(hM:H M<B^44)(hs:∀v∈l,SzV M v)(h4:l.length≤4)(j:Nat):Cf (BV l j)=true:=Abb hM (MX h1 hs h4 j)
theorem Aav (h1:1≤M)(hM:H M<B^44)(hl:l≠[])(hv:VOk k v)(hs:∀u∈l++[v],SzV M u)(h4:(l++[v]).length≤4):Cg 3 (EW k l) v=.ok (EW k (l++[v])):=by
 have f0:=NL h1 hM hs h4 0;have f1:=NL h1 hM hs h4 1;have f2:=NL h1 hM hs h4 2;cases hk:k.arr with
 |false=>rw[QJ hk,QJ hk];obtain⟨a,rfl,_⟩:=hv.one hk;rw[Es hl]at f0 ⊢;show(if _ then _ else BO ⟨[],[Cv (BV l 0) a],(dimR 3 k.dm k.dm).getD .pl⟩)=_;rw[if_neg (by simp),RE];have f0:Cf (Cv (BV l 0) a)=true:=f0;unfold BO;rw[if_pos (by simp[f0])];rfl
 |true=>rw[Qh hk,Qh hk];obtain⟨a,b,c,rfl,_,_,_⟩:=hv.three hk;rw[Es hl]at f0 f1 f2;rw[Es hl,Es hl,Es hl];show(if _ then _ else BO ⟨[3],[Cv (BV l 0) a,Cv (BV l 1) b,Cv (BV l 2) c],(dimR 3 k.dm k.dm).getD .pl⟩)=_;rw[if_neg (by simp),RE];have f0:Cf (Cv (BV l 0) a)=true:=f0;have f1:Cf (Cv (BV l 1) b)=true:=f1;have f2:Cf (Cv (BV l 2) c)=true:=f2;unfold BO;rw[if_pos (by simp[f0,f1,f2])];rfl
theorem Aee {r:Rs}{d:Int}{m:Int}(h:shR d r=.ok (v,m)):r=.ok (v,m-d):=by
 cases r with
 |error er=>cases h|ok p=>obtain⟨w,n⟩:=p;have h:(Except.ok (w,n+d):Rs)=.ok (v,m):=h;cases h;rw[Int.add_sub_cancel]
theorem Xk {e:En}{cb:Option (Nat×Q)}(he:EnSz e cb)(hl:M5 e){x:X}(h:Ty 2 true k x){hh:Int}(sx:Sh hh x){c:Nat}(h4:c≤4){n1 n':Int}
 (hloop:Ci (fun i n=>evS e cb ([]++[(nmI,Dx i)]) x n) c 0 n1=.ok (l,n')) :
 l.length=c∧(∀v∈l,SzV (G 2 C1) v)∧∀i v,l[i]?=some v→∃m,evS e cb [] (Al i x) 0=.ok (v,m):=by
 obtain⟨g1,g2⟩:=Si hloop;refine⟨g1,fun v hv=>?_,fun i v hv=>?_⟩
 ·obtain⟨i,hi⟩:=List.getElem?_of_mem hv;have hic:i<c:=by rw[←g1];exact(zN.1 hi).1
  obtain⟨w,m,m',q1,q2⟩:=g2 i hic;rw[hi]at q1;cases q1;refine Aci he hl h sx (bs:=[(nmI,Dx (0+i))]) ?_ ?_ q2
  ·intro p hp;rw[List.mem_singleton]at hp;subst hp;intro q hq;have:q=(((0+i:Nat):Int),1):=List.mem_singleton.1 hq;subst this;refine⟨?_,?_⟩
   ·show(((0+i:Nat):Int)).natAbs≤C1;unfold C1;omega
   ·show(1:Int).natAbs≤C1;unfold C1;decide
  ·intro p hp;rw[List.mem_singleton]at hp;subst hp;show nmI∈B2;decide
 ·have hic:i<c:=by rw[←g1];exact(zN.1 hv).1
  obtain⟨w,m,m',q1,q2⟩:=g2 i hic;rw[hv]at q1;cases q1;rw[Nat.zero_add,List.nil_append,Zh sx [] m (fun p hp=>by cases hp)]at q2;have q3:evS e cb [] (Al i x) (0+m)=.ok (v,m'):=by rw[Int.zero_add];exact q2
  rw[Po]at q3;exact⟨_,Aee q3⟩
theorem Aak {e:En}{cb:Option (Nat×Q)}(he:EnOk e cb)(hz:EnSz e cb)(hl:M5 e){x:X}(h:Ty 2 true k x)(sx:Sh 3 x){c:Nat}(h1:1≤c)(h4:c≤4) :
 (∃er,er≠0∧Ev e 1 [] 0 (.tab c x) (.error er))∨∃(l:List Vl) (n1:Int),l.length=c∧(∀v∈l,VOk k v∧SzV (G 2 C1) v)∧Ev e 1 [] 0 (.tab c x) (.ok (C3 l,n1))∧Ev e 1 [] 0 (.sum c x) (.ok (EW k l,n1))∧
  ∀i v,l[i]?=some v→∃m m',Ev e 1 [] 0 (.at (.tab c x) (.lit [48+i] [49] ((i:Int),1) 0)) (.ok (v,m))∧Ev e 1 [] 0 (Al i x) (.ok (v,m')):=by
 have cx:=Wq h;have k2:Fm 2=83:=by decide
 rw[k2]at cx;have c0:=AI x;have mul4:∀i:Nat,i≤4→(i:Int)*x.cost≤4*83:=fun i hi=>Int.mul_le_mul (by omega) cx (by omega) (by decide)
 have hb3:FM [] 3 false:=bs0 (by decide);have rounds:∀n:Int,0≤n→n≤10→∀i:Nat,i<c→∀n1:Int,0≤n1→n1≤n+1+(i:Int)*x.cost→Good e cb ([]++[(nmI,Dx i)]) x k n1:=fun n hn0 hn i hi n1 h0 hn1=>by refine S1 he h (FM.push hb3 (ins':=true) (by decide) (TS i (by omega)) (fun _=>.inr rfl)) h0 ?_;have:=mul4 i (by omega);omega
 obtain⟨p1,p2⟩:=Z3 hb3 (n:=0) (by decide) (by decide) h1 h4 (rounds 0 (by decide) (by decide));obtain⟨p3,_⟩:=Z3 hb3 (n:=0+1) (by decide) (by decide) h1 h4 (rounds (0+1) (by decide) (by decide));have p4:=(t_sum hb3 (n:=0) (by decide) (by decide) h1 h4 (rounds 0 (by decide) (by decide))).1;cases hloop:Ci (fun i n=>evS e cb ([]++[(nmI,Dx i)]) x n) c 0 (0+1) with
 |error er=>
  have et:evS e cb [] (.tab c x) 0=.error er:=by simp only[evS,hloop]
  rw[et]at p1;exact .inl ⟨er,evS_er _ _ _ _ et,p1⟩
 |ok p=>
  obtain⟨l,n1⟩:=p;have et:evS e cb [] (.tab c x) 0=.ok (C3 l,n1):=by simp only[evS,hloop]
  obtain⟨g1,g2,g3⟩:=Xk hz hl h sx h4 hloop;have rp:∀i v,l[i]?=some v→VOk k v∧∃m,Ev e 1 [] 0 (Al i x) (.ok (v,m)):=fun i v hv=>by
   have hi:i<c:=by rw[←g1];exact(zN.1 hv).1
   obtain⟨m,hm⟩:=g3 i v hv;have ty:=Adl (i:=i) (by omega) h;have cr:=Wq ty;rw[k2]at cr;have g:=S1 he ty (bs0 (by decide)) (n:=0) (by decide) (by omega);have ge:=g.1;rw[hm]at ge;exact⟨(g.2 v m hm).1,m,ge⟩
  have vo:∀v∈l,VOk k v:=fun v hv=>by obtain⟨i,hi⟩:=List.getElem?_of_mem hv;exact(rp i v hi).1
  obtain⟨q1,q2⟩:=VZ (by decide) NC vo g2 (by omega) (by omega);have es:evS e cb [] (.sum c x) 0=.ok (EW k l,n1):=by simp only[evS,hloop,q1,Dv]
  have et1:evS e cb [] (.tab c x) (0+1)=.ok (C3 l,n1+1):=by rw[Po,et];rfl
  have hn:=(p2 _ _ et).2.2;have hn0:=(p2 _ _ et).2.1;simp only[X.cost]at hn;have:=mul4 c h4;rw[et]at p1;rw[es]at p4;rw[et1]at p3;refine .inr ⟨l,n1,g1,fun v hv=>⟨vo v hv,g2 v hv⟩,p1,p4,fun i v hv=>?_⟩;have hi:i<c:=by rw[←g1];exact(zN.1 hv).1
  obtain⟨_,m',hm'⟩:=rp i v hv;exact⟨_,m',t_at vo (by omega) hv (lit_i (by omega)) (by decide) (by decide) (by omega) (by omega) p3,hm'⟩
end Go.Ev
end
