/- An evaluator over the model's memory, and its soundness: what it computes of a call is what the call does in the model, whatever the order of evaluation is; no condition. -/
import Derived.Test.YtecmlmofhabonaaGreatDoorIRun2
noncomputable section
namespace Go.Ab
open Go
def Lw (P:Program)(E:Env)(N:Nat)(f:FuncId)(args:List AV)(l:OL)(res:AG)(u:UL):Prop:=
 ∀(k:K) (h:AH) (w:World) (vs:Array Value),k.sz=⟨P.cellsOf,E.sel,E.tok,E.str,E.mp⟩ →HR k h w→B3 E k w→(∀p∈l,h.get p.1=some p.2)→N≤h.next→VRL k w args vs.toList→
  CQ P k h w res (h.upd u) ((callFunc f vs).run P w)
theorem HR.conv {k:K}{h h2:AH}{w:World}(hr:HR k h w)(hn:h2.next=h.next)(hc:∀o ob2,h2.get o=some ob2→∃ob,h.get o=some ob∧∀b sh,ObR k w b sh ob→ObR k w b sh ob2):HR k h2 w:=by
 refine⟨fun o ob2 g=>?_,fun o1 o2 ob1 ob2 b s1 s2 g1 g2=>?_,fun o ob b sh g=>?_,fun o ho=>hr.fresh o (by rw[←hn];exact ho),hr.lt⟩
 ·obtain⟨ob,g2,c⟩:=hc o ob2 g;obtain⟨b,sh,q,hO⟩:=hr.obj o ob g2;exact⟨b,sh,q,c b sh hO⟩
 ·obtain⟨_,g3,_⟩:=hc _ _ g1;obtain⟨_,g4,_⟩:=hc _ _ g2;exact hr.inj _ _ _ _ _ _ _ g3 g4
 ·obtain⟨_,g3,_⟩:=hc _ _ g;exact hr.nfz _ _ _ _ g3
theorem Ev.conv {k k':K}{h h1 h2:AH}{w w':World}(e:Ev k k' h h1 w w')(hn:h2.next=h1.next)(hc:∀o ob2,h2.get o=some ob2→∃ob,h1.get o=some ob):Ev k k' h h2 w w':=
 ⟨e.sz,e.os,e.tape,e.output,e.size,e.same,e.shape,e.rho,e.fz,fun o ob b sh g q hb=>let⟨ob1,g1⟩:=hc o ob g;e.live o ob1 b sh g1 q hb,by rw[hn];exact e.next,e.keep,e.nfz⟩
theorem Ev.tell {k:K}{h h2:AH}{w:World}(hn:h2.next=h.next)(hc:∀o ob2,h2.get o=some ob2→∃ob,h.get o=some ob):Ev k k h h2 w w:=(Ev.refl k h w).conv hn hc
theorem CQ.after {P:Program}{k k1:K}{h h1 h2:AH}{w:World}{res:AG}{r:Result Next}(e:Ev k k1 h h1 w w)(hc:CQ P k1 h1 w res h2 r):CQ P k h w res h2 r:=by
 obtain⟨nx,w1,e1,hc⟩:=hc;refine⟨nx,w1,e1,?_⟩;rcases hc with⟨x',v,k',e2,e3,g1,g2,g3⟩|⟨fr0,hs0,hf⟩
 ·exact .inl ⟨x',v,k',e2,e3,g1,g2,e.trans g3⟩
 ·refine .inr ⟨fr0,hs0,fun caller cs=>?_⟩;obtain⟨k',w',g1,g2,g3⟩:=hf caller cs;exact⟨k',w',g1,e.trans g2,g3⟩
theorem CQ.conv {P:Program}{k:K}{h h1 h2:AH}{w:World}{res res2:AG}{r:Result Next}(hc:CQ P k h w res h1 r)(hn:h2.next=h1.next)
 (ho:∀(k':K),k'.sz=k.sz→∀w' o ob2,h2.get o=some ob2→∃ob,h1.get o=some ob∧∀b sh,ObR k' w' b sh ob→ObR k' w' b sh ob2)
 (hv:∀(k':K),k'.sz=k.sz→∀w',match res,res2 with
  |.ret x,.ret y=>∀v,VR k' w' x v→VR k' w' y v|.pan x,.pan y=>∀c,CR k' w' x c→CR k' w' y c|_,_=>False):CQ P k h w res2 h2 r:=by
 obtain⟨nx,w1,e1,hc⟩:=hc;refine⟨nx,w1,e1,?_⟩;rcases hc with⟨x',v,k',e2,e3,g1,g2,g3⟩|⟨fr0,hs0,hf⟩
 ·have hv:=hv k' g3.sz w1;subst e2;cases res2 with
  |pan y=>exact hv.elim|ret y=>exact .inl ⟨y,v,k',rfl,e3,hv v g1,g2.conv hn (ho k' g3.sz w1),g3.conv hn fun o ob2 g=>let⟨ob,g4,_⟩:=ho k' g3.sz w1 o ob2 g;⟨ob,g4⟩⟩
 ·refine .inr ⟨fr0,hs0,fun caller cs=>?_⟩;obtain⟨k',w',g1,g2,g3⟩:=hf caller cs;refine⟨k',w',g1.conv hn (ho k' g2.sz w'),g2.conv hn fun o ob2 g=>let⟨ob,g4,_⟩:=ho k' g2.sz w' o ob2 g;⟨ob,g4⟩,?_⟩;have hv:=hv k' g2.sz w';cases res with
  |ret x=>
   cases res2 with
   |pan y=>exact hv.elim|ret y=>obtain⟨v,q1,q2⟩:=g3;exact⟨v,hv v q1,q2⟩
  |pan x=>
   cases res2 with
   |ret y=>exact hv.elim|pan y=>obtain⟨c,q1,q2⟩:=g3;exact⟨c,hv c q1,q2⟩
def AH.Er (h:AH):OL→AH
 |[]=>h|p::r=>(h.Er r).set p.1 (some p.2)
theorem E9 (h:AH):∀l:OL,(h.Er l).next=h.next
 |[]=>rfl|_::r=>E9 h r
theorem PJ {h:AH} : ∀{l:OL},(∀p∈l,p.1<BF)→∀{o ob},(h.Er l).get o=some ob→(o,ob)∈l∨(h.get o=some ob∧o∉l.map (·.1))
 |[],_,o,ob,g=>.inr ⟨g,by simp⟩
 |p::r,hl,o,ob,g=>by
  rw[show h.Er (p::r)=(h.Er r).set p.1 (some p.2) from rfl,AH.BQ _ _ _ _ (hl p (by simp))]at g;by_cases e:o=p.1
  ·rw[if_pos e]at g;cases g;subst e;exact .inl (by simp)
  ·rw[if_neg e]at g;rcases PJ (fun q hq=>hl q (zO _ hq)) g with g|⟨g,g2⟩
   ·exact .inl (zO _ g)
   ·exact .inr ⟨g,by simp only[List.map_cons,zH,not_or];exact⟨e,g2⟩⟩
theorem JL {h:AH} : ∀{l:OL},(∀p∈l,p.1<BF)→(l.map (·.1)).Nodup→∀p∈l,(h.Er l).get p.1=some p.2
 |[],_,_,p,hp=>by cases hp
 |q::r,hl,hn,p,hp=>by
  simp only[List.map_cons,List.nodup_cons]at hn;rw[show h.Er (q::r)=(h.Er r).set q.1 (some q.2) from rfl,AH.BQ _ _ _ _ (hl q (by simp))];rcases zH.1 hp with rfl|hp
  ·rw[if_pos rfl]
  ·have:p.1≠q.1:=fun e=>hn.1 (by rw[←e];exact List.mem_map_of_mem (f:=(·.1)) hp)
   rw[if_neg this];exact JL (fun x hx=>hl x (zO _ hx)) hn.2 p hp
theorem MT {h:AH} : ∀{u:UL},(∀p∈u,p.1<BF)→(u.map (·.1)).Nodup→∀p∈u,(h.upd u).get p.1=p.2
 |[],_,_,p,hp=>by cases hp
 |q::r,hl,hn,p,hp=>by
  simp only[List.map_cons,List.nodup_cons]at hn;rw[show h.upd (q::r)=(h.upd r).set q.1 q.2 from rfl,AH.BQ _ _ _ _ (hl q (by simp))];rcases zH.1 hp with rfl|hp
  ·rw[if_pos rfl]
  ·have:p.1≠q.1:=fun e=>hn.1 (by rw[←e];exact List.mem_map_of_mem (f:=(·.1)) hp)
   rw[if_neg this];exact MT (fun x hx=>hl x (zO _ hx)) hn.2 p hp
theorem Pc {h:AH} : ∀{u:UL},(∀p∈u,p.1<BF)→∀{o},o∉u.map (·.1)→(h.upd u).get o=h.get o
 |[],_,o,_=>rfl|q::r,hl,o,ho=>by simp only[List.map_cons,zH,not_or]at ho;rw[show h.upd (q::r)=(h.upd r).set q.1 q.2 from rfl,AH.BQ _ _ _ _ (hl q (by simp)),if_neg ho.1];exact Pc (fun x hx=>hl x (zO _ hx)) ho.2
def KR:List Nat→Bool
 |[]=>true|x::xs=>!xs.contains x&&KR xs
theorem Gf:∀{l:List Nat},KR l=true→l.Nodup
 |[],_=>List.nodup_nil|x::xs,h=>by simp only[KR,zA,Bool.not_eq_true',List.contains_eq_mem,decide_eq_false_iff_not]at h;exact List.nodup_cons.2 ⟨h.1,Gf h.2⟩
def BU (N:Nat)(args:List AV)(l:OL)(res:AG)(u:UL):Bool:=
 Ep args&&(Bq N args&&(Nat.blt N BF&&(Ic N l u&&(Eo res&&(KR (l.map (·.1))&&u.all fun p=>match p.2 with
  |some ob=>GQ ob&&Lk N ob|none=>true)))))
theorem VX {σ:Nat→AV}{τ:Nat→List Nat}{μ:Nat→List (AV×AV×Nat)}(hσ:Jd σ τ μ){k:K}{w:World}(hk:By k.sz σ τ):∀{ch:List (AV×Bool)} {c:List PanicEntry},ch.all (fun p=>DQ p.1&&Aw 0 p.1)=true→CR k w (G3 σ τ ch) c→CR k w ch c
 |[],c,_,h=>h|(x,r)::rest,c,hb,h=>by simp only[List.all_cons,zA]at hb;simp only[CR,G3]at h ⊢;obtain⟨e,c',h1,h2,h3,h4,h5⟩:=h;exact⟨e,c',h1,CK hk x _ (Et hσ x hb.1.1 hb.1.2).2.2 h2,h3,h4,VX hσ hk (by simpa only[zA]using hb.2) h5⟩
theorem Fs {P:Program}{E:Env}{σ:Nat→AV}{τ:Nat→List Nat}{μ:Nat→List (AV×AV×Nat)}(hσ:Jd σ τ μ){tok:Nat→Value}(hc:(⟨P.cellsOf,E.sel,E.tok,E.str,E.mp⟩:KC)=Sq P σ τ μ tok)
 {N:Nat} {f:FuncId} {args:List AV} {l:OL} {res:AG} {u:UL} (hm:Cm P E.glob N f (Ai σ τ args) (DD σ τ μ l) (Bi σ τ res) (Dk σ τ μ u)) (hf:BU N args l res u=true):Lw P E N f args l res u:=by
 intro k h w vs hk hr hg hsub hnext hv;have hC:By k.sz σ τ:=by rw[hk,hc];exact hσ.Ng tok
 have hmp:k.sz.mp=μ:=by rw[hk,hc];rfl
 unfold BU at hf;simp only[zA]at hf;obtain⟨f1,f2,f3,f4,f5,f6,f7⟩:=hf;have f3:=Ba f3;have f6:=Gf f6;obtain⟨i1,i2⟩:=G6 f4;have il:∀p∈DD σ τ μ l,p.1<BF:=fun p hp=>by obtain⟨q,hq,e⟩:=List.mem_map.1 hp;rw[←e];exact Nat.lt_trans (i2 q hq).1 f3
 have iu0:∀p∈u,p.1<BF:=fun p hp=>by have:p.1∈u.map (·.1):=List.mem_map_of_mem hp;rw[i1]at this;obtain⟨q,hq,e⟩:=List.mem_map.1 this;rw[←e];exact Nat.lt_trans (i2 q hq).1 f3
 have iu:∀p∈Dk σ τ μ u,p.1<BF:=fun p hp=>by obtain⟨q,hq,e⟩:=List.mem_map.1 hp;rw[←e];exact iu0 q hq
 have el:(DD σ τ μ l).map (·.1)=l.map (·.1):=by simp[DD,Function.comp_def]
 have eu:(Dk σ τ μ u).map (·.1)=u.map (·.1):=by simp[Dk,Function.comp_def]
 have ex:∀o ob2,(h.Er (DD σ τ μ l)).get o=some ob2→∃ob,h.get o=some ob∧∀b sh,ObR k w b sh ob→ObR k w b sh ob2:=fun o ob2 g=>by
  rcases PJ il g with g|⟨g,_⟩
  ·obtain⟨⟨o',ob⟩,hq,e⟩:=List.mem_map.1 g;simp only[zG]at e;obtain⟨rfl,rfl⟩:=e;refine⟨ob,hsub _ hq,fun b sh hO=>?_⟩;have:=RS hC (Kc hσ (N:=N) ob (i2 _ hq).2.1 (i2 _ hq).2.2).2.2 hO;rwa[hmp]at this
  ·exact⟨ob2,g,fun _ _ h=>h⟩
 have r1:=hr.conv (E9 h _) ex;have v1:Ev k k h (h.Er (DD σ τ μ l)) w w:=Ev.tell (E9 h _) fun o ob2 g=>let⟨ob,g2,_⟩:=ex o ob2 g;⟨ob,g2⟩
 have hcall:=CQ.after v1 (hm k _ w vs (by rw[hk]) r1 hg (JL il (by rw[el];exact f6)) (by rw[E9];exact hnext) (JO hC args _ hv));refine hcall.conv (by rw[F8,F8,E9]) (fun k' hs w' o ob2 g=>?_) (fun k' hs w'=>?_)
 ·have hC':By k'.sz σ τ:=by rw[hs];exact hC
  have hmp':k'.sz.mp=μ:=by rw[hs];exact hmp
  rcases Mq iu0 g with g|⟨g,g2⟩
  ·have q:(o,some (B7 σ τ μ ob2))∈Dk σ τ μ u:=List.mem_map_of_mem (f:=fun p:Nat×Option AO=>(p.1,p.2.map (B7 σ τ μ))) g;refine⟨_,MT iu (by rw[eu,i1];exact f6) _ q,fun b sh hO=>?_⟩;have:=zB.1 f7 _ g;simp only[zA]at this;rw[←hmp']at hO;exact SE hC' (Kc hσ (N:=N) (μ:=μ) ob2 this.1 this.2).2.2 hO
  ·have h3:o∉(Dk σ τ μ u).map (·.1):=by rw[eu];exact g2
   refine⟨ob2,?_,fun _ _ h=>h⟩;rw[Pc iu h3];have h4:o∉(DD σ τ μ l).map (·.1):=by rw[el,←i1];exact g2
   have key:∀{l:OL},(∀p∈l,p.1<BF)→o∉l.map (·.1)→(h.Er l).get o=h.get o:=by
    intro l
    induction l with
    |nil=>intro _ _;rfl
    |cons p r ih=>intro hl hn;simp only[List.map_cons,zH,not_or]at hn;rw[show h.Er (p::r)=(h.Er r).set p.1 (some p.2) from rfl,AH.BQ _ _ _ _ (hl p (by simp)),if_neg hn.1];exact ih (fun q hq=>hl q (zO _ hq)) hn.2
   rw[key il h4];exact g
 ·have hC':By k'.sz σ τ:=by rw[hs];exact hC
  cases res with
  |ret x=>simp only[Eo,zA]at f5;exact fun v hv=>CK hC' x v (Et hσ x f5.1 f5.2).2.2 hv
  |pan ch=>exact fun c hv=>VX hσ hC' f5 hv
def AH.kill (h:AH):List Nat→AH
 |[]=>h|o::r=>(h.kill r).set o none
theorem IX (h:AH):∀l:List Nat,(h.kill l).next=h.next
 |[]=>rfl|_::r=>IX h r
theorem Kb {h:AH} : ∀{l:List Nat},(∀o∈l,o<BF)→∀o,(h.kill l).get o=if o∈l then none else h.get o
 |[],_,o=>by simp[AH.kill]
 |p::r,hl,o=>by
  rw[show h.kill (p::r)=(h.kill r).set p none from rfl,AH.BQ _ _ _ _ (hl p (by simp)),Kb (fun q hq=>hl q (zO _ hq))];by_cases e:o=p
  ·simp[e]
  ·simp[e]
theorem HR.toMem {k:K}{h:AH}{w:World}(hr:HR k h w){ids:List Nat}(hids:∀o∈ids,o<BF) :
 ∃k1:K,k1.ρ=k.ρ∧k1.sz=k.sz∧(∀b,k.fz b→k1.fz b)∧(∀o ob b sh,o∈ids→h.get o=some ob→k.ρ o=some (b,sh)→k1.fz b)∧HR k1 (h.kill ids) w∧Ev k k1 h (h.kill ids) w w:=by
 have hkg:=Kb (h:=h) hids
 let k1:K:=⟨k.ρ,fun b=>k.fz b∨∃o ob sh,o∈ids∧h.get o=some ob∧k.ρ o=some (b,sh),k.sz⟩
 have was:∀{o ob},(h.kill ids).get o=some ob→h.get o=some ob∧o∉ids:=fun {o ob} g=>by
  rw[hkg]at g;by_cases e:o∈ids
  ·rw[if_pos e]at g;cases g
  ·rw[if_neg e]at g;exact⟨g,e⟩
 have ev:Ev k k1 h (h.kill ids) w w:=⟨rfl,rfl,rfl,rfl,zI _,fun _ _ _=>rfl,fun b arr e fr hx=>⟨arr,fr,hx,rfl⟩,fun _ _ h=>h,fun _ h=>.inl h,fun o ob b sh g q _=>⟨o,ob,sh,(was g).1,q⟩,Nat.le_of_eq (IX h ids).symm,fun _ _=>rfl,fun b _ hf=>by
  rcases hf with hf|⟨o,ob,sh,_,g,q⟩
  ·exact .inl hf
  ·exact .inr ⟨o,ob,sh,g,q⟩⟩
 have le:=ev.le hr;refine⟨k1,rfl,rfl,fun _ h=>.inl h,fun o ob b sh hm g q=>.inr ⟨o,ob,sh,hm,g,q⟩,⟨fun o ob g=>?_,fun o1 o2 ob1 ob2 b s1 s2 g1 g2=>hr.inj o1 o2 ob1 ob2 b s1 s2 (was g1).1 (was g2).1,fun o ob b sh g q hf=>?_,fun o ho=>hr.fresh o (by rw[←IX h ids];exact ho),fun b hf=>?_⟩,ev⟩
 ·obtain⟨b,sh,q,hO⟩:=hr.obj o ob (was g).1;exact⟨b,sh,q,hO.mono le rfl⟩
 ·rcases hf with hf|⟨o2,ob2,sh2,hm,g2,q2⟩
  ·exact hr.nfz o ob b sh (was g).1 q hf
  ·have:=hr.inj o o2 _ _ _ _ _ (was g).1 g2 q q2;subst this;exact(was g).2 hm
 ·rcases hf with hf|⟨o2,ob2,sh2,hm,g2,q2⟩
  ·exact hr.lt b hf
  ·exact hr.FL g2 q2
theorem XQ {k k1:K}{h:AH}{w:World}(hr:HR k h w)(_hρ:k1.ρ=k.ρ)(hs:k1.sz=k.sz)(hz:∀b,k.fz b→k1.fz b){o:Nat}{e:TypeId}{cs:List AV}(hg:h.get o=some (.cells e cs))(hf:∀b sh,k.ρ o=some (b,sh)→k1.fz b)(hp:Eh cs=true){off len sz:Nat}{cap:Option Nat}{v:Value}
 (hv:VR k w (.sl o off len sz cap) v):VR k1 w (.psl ((cs.drop off).take (len*sz)) len none) v:=by
 simp only[VR]at hv ⊢;obtain⟨b,sh,c,arr0,e0,fr0,h1,h2,g3,g4,_,_⟩:=hv;obtain⟨b',sh',h3,arr,fr,h4,h5,h6,h7⟩:=hr.obj o _ hg;rw[h1]at h3;cases h3;refine⟨b,sh+off,c,h2,g3,nofun,hf _ _ h1,?_⟩;refine VRC.C1 fun i x hx=>?_
 rw[List.getElem?_take]at hx;split at hx;case isFalse=>cases hx
 rw[List.getElem?_drop]at hx;obtain⟨u,q1,q2⟩:=h6 _ x hx;have hpx:DZ x=true:=by
  have:∀(l:List AV),Eh l=true→∀x∈l,DZ x=true:=by
   intro l
   induction l with
   |nil=>intro _ x hx;cases hx
   |cons y ys ih=>
    intro hl x hx;simp only[Eh,zA]at hl;rcases zH.1 hx with rfl|hx
    ·exact hl.1
    ·exact ih hl.2 x hx
  exact this cs hp x (List.mem_of_getElem? hx)
 exact⟨u,by rw[←Nat.add_assoc]at q1;simp[World.cell?,h4,q1],VR.pure hs hz x u hpx q2⟩
def fzE (h:AH):List (AV×AV×Nat)→List (AV×AV×Nat)→Option (List Nat)
 |[],[]=>some []|(a,b,_)::r,(a',b',_)::r'=>bif GK a a' then
  bif GK b b' then fzE h r r' else match b with
  |.sl o off len sz _=>match h.get o with
   |some (.cells _ cs)=>bif Nat.blt o BF&&(Eh cs&&GK (.psl ((cs.drop off).take (len*sz)) len none) b') then
    match fzE h r r' with
    |some ids=>some (o::ids)|none=>none
    else none
   |_=>none
  |_=>none
  else none
 |_,_=>none
theorem Ra {h:AH} : ∀{es es':List (AV×AV×Nat)} {ids:List Nat},fzE h es es'=some ids→∀o∈ids,o<BF∧∃e cs,h.get o=some (.cells e cs)
 |[],[],ids,he,o,ho=>by cases he;cases ho
 |[],_::_,ids,he,_,_=>by cases he
 |(a,b,n)::r,[],ids,he,_,_=>by cases he
 |(a,b,n)::r,(a',b',n')::r',ids,he,o,ho=>by
  simp only[fzE]at he;obtain⟨_,he⟩:=Al he;cases hb:GK b b' with
  |true=>rw[hb]at he;exact Ra he o ho
  |false=>
   rw[hb]at he;simp only[cond_false]at he;split at he;case h_2=>cases he
   rename_i o2 off len sz cap;split at he;case h_2=>cases he
   rename_i e cs hg;obtain⟨hc,he⟩:=Al he;simp only[zA]at hc;split at he;case h_2=>cases he
   rename_i ids2 h2;cases he;rcases zH.1 ho with rfl|ho
   ·exact⟨Ba hc.1,e,cs,hg⟩
   ·exact Ra h2 o ho
theorem Vw {k k1:K}{h:AH}{w:World}(hr:HR k h w)(hρ:k1.ρ=k.ρ)(hs:k1.sz=k.sz)(hz:∀b,k.fz b→k1.fz b)(le:Le k k1 w w) :
 ∀{es es':List (AV×AV×Nat)} {ids:List Nat} {Ax:List MapEntry},fzE h es es'=some ids→(∀o ob b sh,o∈ids→h.get o=some ob→k.ρ o=some (b,sh)→k1.fz b)→MR k w es Ax→MR k1 w es' Ax
 |[],[],ids,Ax,he,_,hm=>by simpa only[MR]using hm
 |[],_::_,ids,_,he,_,_=>by cases he
 |(a,b,n)::r,[],ids,_,he,_,_=>by cases he
 |(a,b,n)::r,(a',b',n')::r',ids,Ax,he,hf,hm=>by
  simp only[fzE]at he;obtain⟨ha,he2⟩:=Al he;clear he;have he:=he2;clear he2;rw[Ea]at ha;have ha:=Em _ _ ha;subst ha;simp only[MR]at hm ⊢;obtain⟨e,es',h1,h2,h3,h4,h5⟩:=hm;cases hb:GK b b' with
  |true=>rw[hb]at he;rw[Ea]at hb;have hb:=Em _ _ hb;subst hb;exact⟨e,es',h1,VR.mono le _ _ h2,VR.mono le _ _ h3,h4,Vw hr hρ hs hz le he hf h5⟩
  |false=>
   rw[hb]at he;simp only[cond_false]at he;split at he;case h_2=>cases he
   rename_i o2 off len sz cap;split at he;case h_2=>cases he
   rename_i e2 cs hg;obtain⟨hc,he⟩:=Al he;simp only[zA]at hc;split at he;case h_2=>cases he
   rename_i ids2 hi2;cases he;obtain⟨_,hp,heq⟩:=hc;rw[Ea]at heq;have heq:=Em _ _ heq;subst heq;exact⟨e,es',h1,VR.mono le _ _ h2,XQ hr hρ hs hz hg (fun b sh q=>hf o2 _ b sh (by simp) hg q) hp h3,h4,Vw hr hρ hs hz le hi2 (fun o ob b sh ho=>hf o ob b sh (zO _ ho)) h5⟩
def fzO (h:AH):AO→AO→Option (List Nat)
 |.map es _,.map es' _=>fzE h es es'|x,y=>bif eqO x y then some [] else none
def SP (h:AH):OL→Option (List Nat)
 |[]=>some []|(o,ob)::r=>match h.get o with
  |some ob1=>match fzO h ob1 ob,SP h r with
   |some a,some b=>some (a++b)|_,_=>none
  |none=>none
theorem Aca {h:AH}{x y:AO}{ids:List Nat}(he:fzO h x y=some ids):∀o∈ids,o<BF∧∃e cs,h.get o=some (.cells e cs):=by
 unfold fzO at he;split at he
 ·exact Ra he
 ·obtain⟨_,he⟩:=Al he;cases he;intro o ho;cases ho
theorem Acp {k k1:K}{h:AH}{w:World}(hr:HR k h w)(hρ:k1.ρ=k.ρ)(hs:k1.sz=k.sz)(hz:∀b,k.fz b→k1.fz b)(le:Le k k1 w w){x y:AO}{ids:List Nat}(he:fzO h x y=some ids)(hf:∀o ob b sh,o∈ids→h.get o=some ob→k.ρ o=some (b,sh)→k1.fz b){b sh:Nat}(hO:ObR k w b sh x):ObR k1 w b sh y:=by
 unfold fzO at he;split at he
 ·obtain⟨h0,Ax,cl,h1,h2⟩:=hO;exact⟨h0,Ax,cl,h1,Vw hr hρ hs hz le he hf h2⟩
 ·obtain⟨h1,_⟩:=Al he;exact eqO_ok h1 (hO.mono le rfl)
theorem Px {h:AH} : ∀{l:OL} {ids:List Nat},SP h l=some ids→(∀p∈l,∃ob1 a,h.get p.1=some ob1∧fzO h ob1 p.2=some a∧∀o∈a,o∈ids)∧∀o∈ids,o<BF∧∃e cs,h.get o=some (.cells e cs)
 |[],ids,he=>by cases he;exact⟨by simp,by simp⟩
 |(o,ob)::r,ids,he=>by
  simp only[SP]at he;split at he;case h_2=>cases he
  rename_i ob1 hg;split at he;case h_2=>cases he
  rename_i a b ha hb;cases he;obtain⟨i1,i2⟩:=Px hb;refine⟨fun p hp=>?_,fun o' ho'=>?_⟩
  ·rcases zH.1 hp with rfl|hp
   ·exact⟨ob1,a,hg,ha,fun o ho=>List.mem_append_left _ ho⟩
   ·obtain⟨ob2,a2,q1,q2,q3⟩:=i1 p hp;exact⟨ob2,a2,q1,q2,fun o ho=>List.mem_append_right _ (q3 o ho)⟩
  ·rcases List.mem_append.1 ho' with ho'|ho'
   ·exact Aca ha o' ho'
   ·exact i2 o' ho'
theorem HR.toldAs {k:K}{h:AH}{w:World}(hr:HR k h w){l:OL}{ids:List Nat}(he:SP h l=some ids)(hd:∀p∈l,p.1∉ids)(hlim:∀p∈l,p.1<BF) :
 ∃k1:K,k1.ρ=k.ρ∧k1.sz=k.sz∧HR k1 ((h.kill ids).Er l) w∧Ev k k1 h ((h.kill ids).Er l) w w:=by
 obtain⟨i1,i2⟩:=Px he;obtain⟨k1,e1,e2,e3,e4,r1,v1⟩:=hr.toMem (ids:=ids) (fun o ho=>(i2 o ho).1);have le:=v1.le hr;have hkg:=Kb (h:=h) (fun o ho=>(i2 o ho).1);have key:∀l2:OL,(∀p∈l2,p∈l)→HR k1 ((h.kill ids).Er l2) w∧Ev k k1 h ((h.kill ids).Er l2) w w∧∀p∈l,∃ob1,((h.kill ids).Er l2).get p.1=some ob1:=by
  intro l2
  induction l2 with
  |nil=>intro _;refine⟨r1,v1,fun p hp=>?_⟩;obtain⟨ob1,a,q1,_,_⟩:=i1 p hp;refine⟨ob1,?_⟩;show(h.kill ids).get p.1=some ob1;rw[hkg,if_neg (hd p hp)];exact q1
  |cons p r ih=>
   intro hm;obtain⟨a1,a2,a3⟩:=ih fun q hq=>hm q (zO _ hq)
   have hp:=hm p (by simp);obtain⟨ob2,g2⟩:=a3 p hp;obtain⟨ob1,a,q1,q2,q3⟩:=i1 p hp;obtain⟨b,sh,q,hO⟩:=hr.obj p.1 ob1 q1;have hO2:=Acp hr e1 e2 e3 le q2 (fun o ob b sh ho g q=>e4 o ob b sh (q3 o ho) g q) hO;obtain⟨b1,b2⟩:=a1.write (w':=w) g2 (by rw[e1];exact q) rfl rfl rfl rfl (fun _ _=>rfl) (fun arr e fr hx=>⟨arr,fr,hx,rfl⟩) (fun _=>hO2);refine⟨b1,a2.trans b2,fun p2 hp2=>?_⟩;show ∃ob1,((((h.kill ids).Er r).set p.1 (some p.2)).get p2.1)=some ob1;rw[AH.BQ _ _ _ _ (hlim p hp)];by_cases e:p2.1=p.1
   ·exact⟨p.2,if_pos e⟩
   ·rw[if_neg e];exact a3 p2 hp2
 obtain⟨a1,a2,_⟩:=key l fun _ h=>h
 exact⟨k1,e1,e2,a1,a2⟩
structure OF where
 f:FuncId
 N:Nat
 args:List AV
 l:OL
 res:AG
 u:UL
def OF.hit (q:OF)(f:FuncId)(args:List AV)(h:AH):Option AH:=
 bif Nat.beq q.f f&&(LQ q.args args&&Nat.ble q.N h.next) then match SP h q.l with
  |some ids=>bif q.l.all (fun p=>Nat.blt p.1 BF && !ids.contains p.1)&&KR (q.l.map (·.1)) then some (((h.kill ids).Er q.l).upd q.u) else none
  |none=>none
 else none
theorem OF.Aaf {P:Program}{E:Env}{q:OF}(hq:Lw P E q.N q.f q.args q.l q.res q.u){f:FuncId}{args:List AV}{h h':AH}(hh:q.hit f args h=some h'){k:K}{w:World}(hk:k.sz=⟨P.cellsOf,E.sel,E.tok,E.str,E.mp⟩)(hr:HR k h w)(hg:B3 E k w){vs:Array Value}(hv:VRL k w args vs.toList) :
 CQ P k h w q.res h' ((callFunc f vs).run P w):=by
 unfold OF.hit at hh;obtain⟨hc,hh2⟩:=Al hh;clear hh;have hh:=hh2;clear hh2;simp only[zA]at hc;obtain⟨c1,c2,c3⟩:=hc;have c1:=zD c1;subst c1;rw[Dp]at c2;have c2:=Ex _ _ c2;subst c2;split at hh;case h_2=>cases hh
 rename_i ids hids;obtain⟨hd,hh2⟩:=Al hh;cases hh2;simp only[zA]at hd;obtain⟨d1,d2⟩:=hd;have d3:∀p∈q.l,p.1<BF∧p.1∉ids:=fun p hp=>by have:=zB.1 d1 p hp;simp only[zA,Bool.not_eq_true',List.contains_eq_mem,decide_eq_false_iff_not]at this;exact⟨Ba this.1,this.2⟩
 obtain⟨k1,e1,e2,r1,v1⟩:=hr.toldAs hids (fun p hp=>(d3 p hp).2) (fun p hp=>(d3 p hp).1);have le:=v1.le hr;refine CQ.after v1 (hq k1 _ w vs (e2.trans hk) r1 (B3.mono le hg) (JL (fun p hp=>(d3 p hp).1) (Gf d2)) ?_ (VRL.mono le _ _ hv));rw[E9,IX];exact zE c3
def Nx:List OF→FuncId→List AV→AH→Option (AV×AH)
 |[],_,_,_=>none|q::r,f,args,h=>match q.res with
  |.ret x=>match q.hit f args h with
   |some h'=>some (x,h')|none=>Nx r f args h
  |.pan _=>Nx r f args h
def Oi:List OF→FuncId→List AV→AH→Option (List (AV×Bool)×AH)
 |[],_,_,_=>none|q::r,f,args,h=>match q.res with
  |.pan ch=>match q.hit f args h with
   |some h'=>some (ch,h')|none=>Oi r f args h
  |.ret _=>Oi r f args h
def QA (E:Env)(l:List OF):Env:={ E with
 prim:=fun f=>bif l.any (fun q=>Nat.beq q.f f) then some (fun args h=>match Nx l f args h with
  |some r=>some r|none=>match E.prim f with
   |some p=>p args h|none=>none) else E.prim f
 pan:=fun f=>bif l.any (fun q=>Nat.beq q.f f) then some (fun args h=>match Oi l f args h with
  |some r=>some r|none=>match E.pan f with
   |some p=>p args h|none=>none) else E.pan f }
theorem Jr:∀{l:List OF} {f:FuncId} {args:List AV} {h:AH} {r:AV×AH},Nx l f args h=some r→∃q∈l,q.res=.ret r.1∧q.hit f args h=some r.2
 |[],_,_,_,_,he=>by cases he
 |q::l,f,args,h,r,he=>by
  unfold Nx at he;split at he
  ·rename_i x hx;split at he
   ·rename_i h' hh;cases he;exact⟨q,by simp,hx,hh⟩
   ·obtain⟨q2,m,a,b⟩:=Jr he;exact⟨q2,zO _ m,a,b⟩
  ·obtain⟨q2,m,a,b⟩:=Jr he;exact⟨q2,zO _ m,a,b⟩
theorem Jp:∀{l:List OF} {f:FuncId} {args:List AV} {h:AH} {r:List (AV×Bool)×AH},Oi l f args h=some r→∃q∈l,q.res=.pan r.1∧q.hit f args h=some r.2
 |[],_,_,_,_,he=>by cases he
 |q::l,f,args,h,r,he=>by
  unfold Oi at he;split at he
  ·rename_i x hx;split at he
   ·rename_i h' hh;cases he;exact⟨q,by simp,hx,hh⟩
   ·obtain⟨q2,m,a,b⟩:=Jp he;exact⟨q2,zO _ m,a,b⟩
  ·obtain⟨q2,m,a,b⟩:=Jp he;exact⟨q2,zO _ m,a,b⟩
theorem Az.obj {P:Program}{E:Env}(h:Az P E)(l:List OF):Az P (QA E l):=⟨h.ty,h.fn,h.meth,h.impl,h.eqt,h.mixed,h.bin,h.len,h.slen,h.sat⟩
theorem B2.obj {P:Program}{E:Env}(hP:B2 P E){l:List OF}(hl:∀q∈l,Lw P E q.N q.f q.args q.l q.res q.u):B2 P (QA E l):=by
 refine⟨fun f p hp k h w args vs v' h' hsz hr hg hv hpr=>?_,fun f p hp k h w args vs v' h' hsz hr hg hv hpr=>?_⟩
 ·change (bif l.any (fun q=>Nat.beq q.f f) then _ else E.prim f)=some p at hp;cases hb:l.any (fun q=>Nat.beq q.f f) with
  |false=>rw[hb]at hp;exact hP.1 f p hp k h w args vs v' h' hsz hr hg hv hpr
  |true=>
   rw[hb]at hp;simp only[cond_true,zC]at hp;subst hp;dsimp only at hpr;split at hpr
   ·rename_i r hr';cases hpr;obtain⟨q,m,a,b⟩:=Jr hr';have:=OF.Aaf (hl q m) b hsz hr hg hv;rw[a]at this;exact this
   ·split at hpr
    ·rename_i p hp;exact hP.1 f p hp k h w args vs v' h' hsz hr hg hv hpr
    ·cases hpr
 ·change (bif l.any (fun q=>Nat.beq q.f f) then _ else E.pan f)=some p at hp;cases hb:l.any (fun q=>Nat.beq q.f f) with
  |false=>rw[hb]at hp;exact hP.2 f p hp k h w args vs v' h' hsz hr hg hv hpr
  |true=>
   rw[hb]at hp;simp only[cond_true,zC]at hp;subst hp;dsimp only at hpr;split at hpr
   ·rename_i r hr';cases hpr;obtain⟨q,m,a,b⟩:=Jp hr';have:=OF.Aaf (hl q m) b hsz hr hg hv;rw[a]at this;exact this
   ·split at hpr
    ·rename_i p hp;exact hP.2 f p hp k h w args vs v' h' hsz hr hg hv hpr
    ·cases hpr
end Go.Ab
namespace Go.Ab
open Go Go.RowKit
def grow (k:K)(w w':World):K:=⟨k.ρ,fun b=>k.fz b∨(w.heap.size≤b∧b<w'.heap.size),k.sz⟩
def Ay (P:Program)(gl:Nat→Option (List AV))(f:FuncId)(args:List AV)(x:AV):Prop:=
 ∀(k:K) (w:World) (vs:Array Value),k.sz.sz=P.cellsOf→(∀o,k.ρ o=none)→(∀b,k.fz b→b<w.heap.size)→Wh gl k w→VRL k w args vs.toList→
  Calls P f vs w fun e w'=>∃v,e=.returned v∧Below w.heap.size w w'∧VR (grow k w w') w' x v
theorem HR.grow {k:K}{h:AH}{w w':World}(hr:HR k h w)(hb:Below w.heap.size w w'):HR (grow k w w') h w'∧Ev k (grow k w w') h h w w':=by
 have hshape:∀(b:Nat) (arr:Array Value) (e:TypeId) (fr:Nat×Nat),w.heap[b]?=some (Obj.cells arr e fr)→∃(arr':Array Value) (fr':Nat×Nat),w'.heap[b]?=some (Obj.cells arr' e fr')∧arr'.size=arr.size:=fun b arr e fr hx=>
  ⟨arr,fr,by rw[hb.block b (Array.getElem?_eq_some_iff.1 hx).1];exact hx,rfl⟩
 have ev:Ev k (Go.Ab.grow k w w') h h w w':=⟨rfl,hb.os,hb.tape,hb.output,hb.size,fun b hlt _=>hb.block b hlt,hshape,fun _ _ h=>h,fun _ h=>.inl h,fun o ob b sh h1 h2 _=>⟨o,ob,sh,h1,h2⟩,zI _,fun _ _=>rfl,fun b hlt hf=>by
  rcases hf with hf|hf
  ·exact .inl hf
  ·omega⟩
 have le:=ev.le hr;exact⟨⟨fun o ob ho=>let⟨b,sh,g1,g2⟩:=hr.obj o ob ho;⟨b,sh,g1,g2.mono le (hb.block b g2.lt)⟩,hr.inj,fun o ob b sh g1 g2 hf=>hf.elim (fun hf=>hr.nfz o ob b sh g1 g2 hf) (fun hf=>by have:=hr.FL g1 g2;omega),hr.fresh,fun b hf=>hf.elim (fun hf=>by have:=hr.lt b hf;have:=hb.size;omega) (fun hf=>hf.2)⟩,ev⟩
theorem Ay.memoP {P:Program}{E:Env}(hE:Az P E){gl:Nat→Option (List AV)}{f:FuncId}{F:Func}(hF:E.fn f=some F){b:Code}(hb:F.body=some b){args:List AV}{x:AV}(h:Ay P gl f args x)
 (ha:BE args=true) (ha2:Bq 0 args=true) (hx:AY x=true) (hx2:Aw 0 x=true) (hgl:∀g cells,gl g=some cells→BE cells=true∧Bq 0 cells=true):Cm P gl 0 f args [] (.ret x) []:=by
 intro k hp w vs hk hr hg _ _ hv;have h0:=h ⟨fun _=>none,k.fz,k.sz⟩ w vs hk (fun _=>rfl) hr.lt (fun g cells hc=>⟨(hg g cells hc).1,VRC.bare (N:=0) (k:=k) (k':=⟨fun _=>none,k.fz,k.sz⟩) (fun o ho=>by omega) (fun _ h=>h) g cells 0 (hgl g cells hc).1 (hgl g cells hc).2 (hg g cells hc).2.1,(hg g cells hc).2.2⟩)
  (VRL.bare (N:=0) (k:=k) (k':=⟨fun _=>none,k.fz,k.sz⟩) (fun o ho=>by omega) (fun _ h=>h) args vs.toList ha ha2 hv)
 refine Fw hE hF hb h0 ?_;rintro e w' ⟨v,rfl,hbw,hvr⟩;obtain⟨r1,e1⟩:=hr.grow hbw;exact⟨v,_,rfl,VR.bare (N:=0) (k:=Go.Ab.grow ⟨fun _=>none,k.fz,k.sz⟩ w w') (k':=Go.Ab.grow k w w') (fun o ho=>by omega) (fun _ h=>h) _ _ hx hx2 hvr,r1,e1⟩
theorem WM {P:Program}{E:Env}(hE:Az P E)(hP:B2 P E)(hGb:Fl E){σ:Nat→AV}{τ:Nat→List Nat}{μ:Nat→List (AV×AV×Nat)}(hσ:Jd σ τ μ){tok:Nat→Value}(hc:(⟨P.cellsOf,E.sel,E.tok,E.str,E.mp⟩:KC)=Sq P σ τ μ tok)
 {n m:Nat} {f:FuncId} {args:List AV} {x:AV} (hrun:JZ E n m 0 f args [] (.ret x) []=true):Ay P E.glob f (Ai σ τ args) (inst σ τ x):=by
 intro k w vs hk hρ hfz hg hv;have hC:By (⟨P.cellsOf,E.sel,E.tok,E.str,E.mp⟩:KC) σ τ:=by rw[hc];exact hσ.Ng tok
 unfold JZ at hrun;split at hrun;case h_2=>cases hrun
 rename_i F hF;split at hrun;case h_2=>cases hrun
 rename_i b hb;cases hc2:(Nat.ble args.length F.ntmps&&(Nat.blt F.ntmps B9&&(Ep args&&(Bq 0 args&&(Nat.blt 0 BF&&(Ic 0 [] []&&Eo (.ret x))))))) with
 |false=>simp only[hc2,cond_false]at hrun;cases hrun
 |true=>
  simp only[hc2,cond_true]at hrun;simp only[zA]at hc2;obtain⟨c1,c2,c0,c3,c4,c5,c6⟩:=hc2;split at hrun;case h_2=>cases hrun
  rename_i r h1 rc he;rw[Ve]at he;split at hrun;case h_2=>cases hrun
  rename_i r' hr';simp only[zA]at hrun;obtain⟨d1,d2⟩:=hrun;have:=eqR_eq d1;subst this;cases r with
  |pan ch=>
   simp only[fzR]at hr';cases hcc:ch.all (fun p=>DZ p.1) with
   |false=>rw[hcc]at hr';cases hr'
   |true=>rw[hcc]at hr';cases hr'
  |ret y=>
  simp only[fzR]at hr';split at hr';case h_2=>cases hr'
  rename_i z hz;simp only[zC,AG.ret.injEq]at hr';subst hr';obtain⟨a1,a2,a3⟩:=D5 hσ (N:=0) args c0 c3;have hemp:∀o,(BZ 0 []).get o=none:=fun o=>T.Kw _ _
  let K0:K:=⟨fun _=>none,k.fz,⟨P.cellsOf,E.sel,E.tok,E.str,E.mp⟩⟩
  have hr0:HR K0 (BZ 0 []) w:=⟨fun o ob h=>(by rw[hemp]at h;cases h),fun o1 _ _ _ _ _ _ h=>(by rw[hemp]at h;cases h),fun o _ _ _ h=>(by rw[hemp]at h;cases h),fun _ _=>rfl,hfz⟩;have hg0:B3 E K0 w:=fun g cells hc=>⟨(hg g cells hc).1,VRC.bare (N:=0) (k:=k) (k':=K0) (fun o ho=>by omega) (fun _ h=>h) g cells 0 (hGb g cells hc).1 (hGb g cells hc).2 (hg g cells hc).2.1,(hg g cells hc).2.2⟩
  have hv0:VRL K0 w args vs.toList:=Hr (k:=K0) hC _ _ a3 (VRL.bare (N:=0) (k:=k) (k':=K0) (fun o ho=>by omega) (fun _ h=>h) _ vs.toList a1 a2 hv);intro cs;obtain⟨e,w',fr,⟨v,k',rfl,q1,q2,q3⟩,q4⟩:=YW hE hP hF hb he (zE c1) (Ba c2) (k:=K0) rfl hr0 hg0 hv0 cs;have same:∀b,b<w.heap.size→w'.heap[b]?=w.heap[b]?:=fun b hb=>q3.same b hb fun o ob sh h=>by rw[hemp]at h;cases h
  have hfz':∀b,k'.fz b→(grow k w w').fz b:=fun b hf=>by
   by_cases hb:b<w.heap.size
   ·rcases q3.nfz b hb hf with h|⟨o,ob,sh,h,_⟩
    ·exact .inl h
    ·rw[hemp]at h;cases h
   ·exact .inr ⟨by omega,q2.lt b hf⟩
  have hlive:∀o ob b sh,h1.get o=some ob→k'.ρ o=some (b,sh)→(grow k w w').fz b:=fun o ob b sh hgo hρ=>by
   by_cases hb:b<w.heap.size
   ·obtain⟨o',ob',sh',h,_⟩:=q3.live o ob b sh hgo hρ hb;rw[hemp]at h;cases h
   ·exact .inr ⟨by omega,q2.FL hgo hρ⟩
  let kf:K:=⟨k'.ρ,(grow k w w').fz,k'.sz⟩
  have a4:VR kf w' z v:=(M9 (h:=(h1.L4 0)) (k:=k') (k':=kf) (w:=w') ?_ rfl hfz' (fun o ob b sh g q=>hlive o ob b sh ((FO h1 (show 0<BF by decide)) o ob g).2 q) m).1 y z v hz q1
  ·have a5:=Cp (k:=kf) (by show By k'.sz σ τ;rw[q3.sz];exact hC) z v a4;have hrb:=Ow hσ (τ:=τ) (.ret z) c6;simp only[Bi,M6,zA]at hrb;exact⟨_,w',fr,⟨v,rfl,⟨q3.os,q3.tape,q3.output,q3.size,same⟩,VR.bare (N:=0) (k:=kf) (k':=grow k w w') (fun o ho=>by omega) (fun _ h=>h) _ _ hrb.1 hrb.2 a5⟩,q4⟩
  ·have hx1:=FO h1 (show 0<BF by decide);exact⟨fun o ob g=>q2.obj o ob (hx1 o ob g).2,fun o1 o2 ob1 ob2 b s1 s2 g1 g2=>q2.inj o1 o2 ob1 ob2 b s1 s2 (hx1 _ _ g1).2 (hx1 _ _ g2).2,fun o ob b sh g=>q2.nfz o ob b sh (hx1 _ _ g).2,fun o ho=>q2.fresh o (zM (Nat.le_of_eq (JJ h1 0).symm) ho),q2.lt⟩
end Go.Ab
namespace Go.Ab
open Go
mutual
def ren (π:Nat→Nat):AV→AV
 |.ptr o off=>.ptr (π o) off|.sl o off len sz cap=>.sl (π o) off len sz cap|.map o=>.map (π o)|.pptr cs off=>.pptr (CC π cs) off|.psl cs len cap=>.psl (CC π cs) len cap|.func fn a b=>.func fn (CC π a) (CC π b)|.iface t x=>.iface t (ren π x)|.agg cs=>.agg (CC π cs)|.tup cs=>.tup (CC π cs)|.one xs=>.one (CC π xs)|x=>x
def CC (π:Nat→Nat):List AV→List AV
 |[]=>[]|x::xs=>ren π x::CC π xs
end
def MX (π:Nat→Nat):List (AV×AV×Nat)→List (AV×AV×Nat)
 |[]=>[]|(x,y,n)::r=>(ren π x,ren π y,n)::MX π r
def KQ (π:Nat→Nat):AO→AO
 |.cells e cs=>.cells e (CC π cs)|.map es c=>.map (MX π es) c|x=>x
section
variable {k k0:K}{w:World}{N:Nat}{π:Nat→Nat}
mutual
theorem VR.CG (hs:k0.sz=k.sz)(hρ:∀o,o<N→k0.ρ o=k.ρ (π o))(hz:∀b,k.fz b→k0.fz b):∀(x:AV) (v:Value),Aw N x=true→VR k w (ren π x) v→VR k0 w x v
 |.any,_,_,_=>by simp only[VR]
 |.bool b,v,_,hv=>by simpa only[VR,ren]using hv
 |.int kd n,v,_,hv=>by simpa only[VR,ren]using hv
 |.str s,v,_,hv=>by simpa only[VR,ren]using hv
 |.nilp,v,_,hv=>by simpa only[VR,ren]using hv
 |.ptr o off,v,hp,hv=>by simp only[VR,ren]at hv ⊢;rw[hρ o (Ba (by simpa only[Aw]using hp))];exact hv
 |.pptr cells off,v,hp,hv=>by simp only[VR,ren]at hv ⊢;simp only[Aw]at hp;obtain⟨b,sh,h1,h2,h3⟩:=hv;exact⟨b,sh,h1,hz _ h2,VRC.CG hs hρ hz b cells sh hp h3⟩
 |.nils,v,_,hv=>by simpa only[VR,ren]using hv
 |.sl o off len sz cap,v,hp,hv=>by simp only[VR,ren]at hv ⊢;rw[hρ o (Ba (by simpa only[Aw]using hp))];exact hv
 |.psl cells len cap,v,hp,hv=>by simp only[VR,ren]at hv ⊢;simp only[Aw]at hp;obtain⟨b,sh,c,h1,h2,h3,h4,h5⟩:=hv;exact⟨b,sh,c,h1,h2,h3,hz _ h4,VRC.CG hs hρ hz b cells sh hp h5⟩
 |.emp,v,_,hv=>by simpa only[VR,ren]using hv
 |.nilm,v,_,hv=>by simpa only[VR,ren]using hv
 |.map o,v,hp,hv=>by simp only[VR,ren]at hv ⊢;rw[hρ o (Ba (by simpa only[Aw]using hp))];exact hv
 |.func fn first captured,v,hp,hv=>by
  cases fn<;>simp only[VR,ren]at hv ⊢<;>simp only[Aw,zA]at hp
  case yield l=>cases hp
  all_goals
   obtain⟨fs,cs,h1,h2,h3⟩:=hv;exact⟨fs,cs,h1,VRL.CG hs hρ hz _ _ hp.1 h2,VRL.CG hs hρ hz _ _ hp.2 h3⟩
 |.nilf,v,_,hv=>by simpa only[VR,ren]using hv
 |.iface t x,v,hp,hv=>by simp only[VR,ren]at hv ⊢;simp only[Aw]at hp;obtain⟨y,h1,h2⟩:=hv;exact⟨y,h1,VR.CG hs hρ hz _ _ hp h2⟩
 |.nili,v,_,hv=>by simpa only[VR,ren]using hv
 |.agg cs,v,hp,hv=>by simp only[VR,ren]at hv ⊢;simp only[Aw]at hp;obtain⟨vs,h1,h2⟩:=hv;exact⟨vs,h1,VRL.CG hs hρ hz _ _ hp h2⟩
 |.tup cs,v,hp,hv=>by simp only[VR,ren]at hv ⊢;simp only[Aw]at hp;obtain⟨vs,h1,h2⟩:=hv;exact⟨vs,h1,VRL.CG hs hρ hz _ _ hp h2⟩
 |.raw x,v,_,hv=>by simpa only[VR,ren]using hv
 |.sel i,v,_,hv=>by simp only[VR,ren]at hv ⊢;rw[hs];exact⟨(k.sz.sel i).mono _ _ _ _ v hz (fun _ _=>rfl) hv.1,hv.2⟩
 |.stok i,v,_,hv=>by simp only[VR,ren]at hv ⊢;rw[hs];exact hv
 |.tok i,v,_,hv=>by simp only[VR,ren]at hv ⊢;rw[hs];exact hv
 |.one xs,v,hp,hv=>by simp only[VR,ren]at hv ⊢;simp only[Aw]at hp;exact⟨VRO.CG hs hρ hz xs v hp hv.1,hv.2⟩
theorem VRO.CG (hs:k0.sz=k.sz)(hρ:∀o,o<N→k0.ρ o=k.ρ (π o))(hz:∀b,k.fz b→k0.fz b):∀(xs:List AV) (v:Value),Bq N xs=true→VRO k w (CC π xs) v→VRO k0 w xs v
 |[],_,_,hv=>by simp only[VRO,CC]at hv
 |x::xs,v,hp,hv=>by
  simp only[VRO,CC]at hv ⊢;simp only[Bq,zA]at hp;rcases hv with hv|hv
  ·exact .inl (VR.CG hs hρ hz x v hp.1 hv)
  ·exact .inr (VRO.CG hs hρ hz xs v hp.2 hv)
theorem VRL.CG (hs:k0.sz=k.sz)(hρ:∀o,o<N→k0.ρ o=k.ρ (π o))(hz:∀b,k.fz b→k0.fz b):∀(xs:List AV) (vs:List Value),Bq N xs=true→VRL k w (CC π xs) vs→VRL k0 w xs vs
 |[],vs,_,hv=>by simpa only[VRL,CC]using hv
 |x::xs,vs,hp,hv=>by simp only[VRL,CC]at hv ⊢;simp only[Bq,zA]at hp;obtain⟨v,vs',h1,h2,h3⟩:=hv;exact⟨v,vs',h1,VR.CG hs hρ hz x v hp.1 h2,VRL.CG hs hρ hz xs vs' hp.2 h3⟩
theorem VRC.CG (hs:k0.sz=k.sz)(hρ:∀o,o<N→k0.ρ o=k.ρ (π o))(hz:∀b,k.fz b→k0.fz b)(b:Nat):∀(xs:List AV) (i:Nat),Bq N xs=true→VRC k w b (CC π xs) i→VRC k0 w b xs i
 |[],i,_,_=>by simp only[VRC]
 |x::xs,i,hp,hv=>by simp only[VRC,CC]at hv ⊢;simp only[Bq,zA]at hp;obtain⟨⟨v,h1,h2⟩,h3⟩:=hv;exact⟨⟨v,h1,VR.CG hs hρ hz x v hp.1 h2⟩,VRC.CG hs hρ hz b xs (i+1) hp.2 h3⟩
end
mutual
theorem VR.CO (hs:k0.sz=k.sz)(hρ:∀o,o<N→k0.ρ o=k.ρ (π o))(hz:∀b,k0.fz b→k.fz b):∀(x:AV) (v:Value),Aw N x=true→VR k0 w x v→VR k w (ren π x) v
 |.any,_,_,_=>by simp only[VR,ren]
 |.bool b,v,_,hv=>by simpa only[VR,ren]using hv
 |.int kd n,v,_,hv=>by simpa only[VR,ren]using hv
 |.str s,v,_,hv=>by simpa only[VR,ren]using hv
 |.nilp,v,_,hv=>by simpa only[VR,ren]using hv
 |.ptr o off,v,hp,hv=>by simp only[VR,ren]at hv ⊢;rw[←hρ o (Ba (by simpa only[Aw]using hp))];exact hv
 |.pptr cells off,v,hp,hv=>by simp only[VR,ren]at hv ⊢;simp only[Aw]at hp;obtain⟨b,sh,h1,h2,h3⟩:=hv;exact⟨b,sh,h1,hz _ h2,VRC.CO hs hρ hz b cells sh hp h3⟩
 |.nils,v,_,hv=>by simpa only[VR,ren]using hv
 |.sl o off len sz cap,v,hp,hv=>by simp only[VR,ren]at hv ⊢;rw[←hρ o (Ba (by simpa only[Aw]using hp))];exact hv
 |.psl cells len cap,v,hp,hv=>by simp only[VR,ren]at hv ⊢;simp only[Aw]at hp;obtain⟨b,sh,c,h1,h2,h3,h4,h5⟩:=hv;exact⟨b,sh,c,h1,h2,h3,hz _ h4,VRC.CO hs hρ hz b cells sh hp h5⟩
 |.emp,v,_,hv=>by simpa only[VR,ren]using hv
 |.nilm,v,_,hv=>by simpa only[VR,ren]using hv
 |.map o,v,hp,hv=>by simp only[VR,ren]at hv ⊢;rw[←hρ o (Ba (by simpa only[Aw]using hp))];exact hv
 |.func fn first captured,v,hp,hv=>by
  cases fn<;>simp only[VR,ren]at hv ⊢<;>simp only[Aw,zA]at hp
  case yield l=>cases hp
  all_goals
   obtain⟨fs,cs,h1,h2,h3⟩:=hv;exact⟨fs,cs,h1,VRL.CO hs hρ hz _ _ hp.1 h2,VRL.CO hs hρ hz _ _ hp.2 h3⟩
 |.nilf,v,_,hv=>by simpa only[VR,ren]using hv
 |.iface t x,v,hp,hv=>by simp only[VR,ren]at hv ⊢;simp only[Aw]at hp;obtain⟨y,h1,h2⟩:=hv;exact⟨y,h1,VR.CO hs hρ hz _ _ hp h2⟩
 |.nili,v,_,hv=>by simpa only[VR,ren]using hv
 |.agg cs,v,hp,hv=>by simp only[VR,ren]at hv ⊢;simp only[Aw]at hp;obtain⟨vs,h1,h2⟩:=hv;exact⟨vs,h1,VRL.CO hs hρ hz _ _ hp h2⟩
 |.tup cs,v,hp,hv=>by simp only[VR,ren]at hv ⊢;simp only[Aw]at hp;obtain⟨vs,h1,h2⟩:=hv;exact⟨vs,h1,VRL.CO hs hρ hz _ _ hp h2⟩
 |.raw x,v,_,hv=>by simpa only[VR,ren]using hv
 |.sel i,v,_,hv=>by simp only[VR,ren]at hv ⊢;rw[hs]at hv;exact⟨(k.sz.sel i).mono _ _ _ _ v hz (fun _ _=>rfl) hv.1,hv.2⟩
 |.stok i,v,_,hv=>by simp only[VR,ren]at hv ⊢;rw[hs]at hv;exact hv
 |.tok i,v,_,hv=>by simp only[VR,ren]at hv ⊢;rw[hs]at hv;exact hv
 |.one xs,v,hp,hv=>by simp only[VR,ren]at hv ⊢;simp only[Aw]at hp;exact⟨VRO.CO hs hρ hz xs v hp hv.1,hv.2⟩
theorem VRO.CO (hs:k0.sz=k.sz)(hρ:∀o,o<N→k0.ρ o=k.ρ (π o))(hz:∀b,k0.fz b→k.fz b):∀(xs:List AV) (v:Value),Bq N xs=true→VRO k0 w xs v→VRO k w (CC π xs) v
 |[],_,_,hv=>by simp only[VRO]at hv
 |x::xs,v,hp,hv=>by
  simp only[VRO,CC]at hv ⊢;simp only[Bq,zA]at hp;rcases hv with hv|hv
  ·exact .inl (VR.CO hs hρ hz x v hp.1 hv)
  ·exact .inr (VRO.CO hs hρ hz xs v hp.2 hv)
theorem VRL.CO (hs:k0.sz=k.sz)(hρ:∀o,o<N→k0.ρ o=k.ρ (π o))(hz:∀b,k0.fz b→k.fz b):∀(xs:List AV) (vs:List Value),Bq N xs=true→VRL k0 w xs vs→VRL k w (CC π xs) vs
 |[],vs,_,hv=>by simpa only[VRL,CC]using hv
 |x::xs,vs,hp,hv=>by simp only[VRL,CC]at hv ⊢;simp only[Bq,zA]at hp;obtain⟨v,vs',h1,h2,h3⟩:=hv;exact⟨v,vs',h1,VR.CO hs hρ hz x v hp.1 h2,VRL.CO hs hρ hz xs vs' hp.2 h3⟩
theorem VRC.CO (hs:k0.sz=k.sz)(hρ:∀o,o<N→k0.ρ o=k.ρ (π o))(hz:∀b,k0.fz b→k.fz b)(b:Nat):∀(xs:List AV) (i:Nat),Bq N xs=true→VRC k0 w b xs i→VRC k w b (CC π xs) i
 |[],i,_,_=>by simp only[VRC,CC]
 |x::xs,i,hp,hv=>by simp only[VRC,CC]at hv ⊢;simp only[Bq,zA]at hp;obtain⟨⟨v,h1,h2⟩,h3⟩:=hv;exact⟨⟨v,h1,VR.CO hs hρ hz x v hp.1 h2⟩,VRC.CO hs hρ hz b xs (i+1) hp.2 h3⟩
end
theorem EA:∀cs:List AV,(CC π cs).length=cs.length
 |[]=>rfl|x::xs=>by simp only[CC,List.length_cons,EA xs]
theorem OK:∀(cs:List AV) (i:Nat),(CC π cs)[i]?=(cs[i]?).map (ren π)
 |[],i=>by simp[CC]
 |x::xs,0=>by simp[CC]
 |x::xs,i+1=>by simp only[CC,List.getElem?_cons_succ];exact OK xs i
theorem MR.CG (hs:k0.sz=k.sz)(hρ:∀o,o<N→k0.ρ o=k.ρ (π o))(hz:∀b,k.fz b→k0.fz b):∀{es:List (AV×AV×Nat)} {Ax:List MapEntry},C9 N es=true→MR k w (MX π es) Ax→MR k0 w es Ax
 |[],_,_,hm=>by simpa only[MR,MX]using hm
 |(x,y,n)::r,_,hl,hm=>by simp only[C9,zA]at hl;simp only[MR,MX]at hm ⊢;obtain⟨e,es',h1,h2,h3,h4,h5⟩:=hm;exact⟨e,es',h1,VR.CG hs hρ hz _ _ hl.1 h2,VR.CG hs hρ hz _ _ hl.2.1 h3,h4,MR.CG hs hρ hz hl.2.2 h5⟩
theorem MR.CO (hs:k0.sz=k.sz)(hρ:∀o,o<N→k0.ρ o=k.ρ (π o))(hz:∀b,k0.fz b→k.fz b):∀{es:List (AV×AV×Nat)} {Ax:List MapEntry},C9 N es=true→MR k0 w es Ax→MR k w (MX π es) Ax
 |[],_,_,hm=>by simpa only[MR,MX]using hm
 |(x,y,n)::r,_,hl,hm=>by simp only[C9,zA]at hl;simp only[MR,MX]at hm ⊢;obtain⟨e,es',h1,h2,h3,h4,h5⟩:=hm;exact⟨e,es',h1,VR.CO hs hρ hz _ _ hl.1 h2,VR.CO hs hρ hz _ _ hl.2.1 h3,h4,MR.CO hs hρ hz hl.2.2 h5⟩
theorem ObR.CG (hs:k0.sz=k.sz)(hρ:∀o,o<N→k0.ρ o=k.ρ (π o))(hz:∀b,k.fz b→k0.fz b){b sh:Nat} : ∀{ob:AO},GQ ob=true→Lk N ob=true→O7 k.sz→ObR k w b sh (KQ π ob)→ObR k0 w b sh ob
 |.cells e cs,_,hl,_,hO=>by obtain⟨arr,fr,a1,a2,a3,a4,a5⟩:=hO;rw[EA]at a2;refine⟨arr,fr,a1,a2,fun i x hi=>?_,by rw[hs];exact a4,a5⟩;obtain⟨v,v1,v2⟩:=a3 i (ren π x) (by rw[OK,hi];rfl);exact⟨v,v1,VR.CG hs hρ hz x v (KB hl x (List.mem_of_getElem? hi)) v2⟩
 |.map es cl,_,hl,_,hO=>by obtain⟨h0,Ax,c,h1,h2⟩:=hO;exact⟨h0,Ax,c,h1,MR.CG hs hρ hz hl h2⟩
 |.oba e i,_,_,hm,hO=>by obtain⟨arr,fr,a1,a2,a3,a4,a5⟩:=hO;refine⟨arr,fr,a1,by rw[hs];exact a2,fun j x hi=>?_,by rw[hs];exact a4,a5⟩;rw[hs]at hi;obtain⟨v,v1,v2⟩:=a3 j x hi;exact⟨v,v1,VR.low (N:=0) hs (fun o ho=>by omega) hz x v (Jy (hm i) x (List.mem_of_getElem? hi)) v2⟩
 |.opq i,_,_,hm,hO=>by obtain⟨h0,Ax,c,h1,h2⟩:=hO;exact⟨h0,Ax,c,h1,by rw[hs];exact MR.low (N:=0) hs (fun o ho=>by omega) hz (hm i) h2⟩
 |.siter s p,h,_,_,hO=>by cases h
 |.dfr on,h,_,_,hO=>by cases h
 |.loop ..,h,_,_,_=>by cases h
theorem ObR.CO (hs:k0.sz=k.sz)(hρ:∀o,o<N→k0.ρ o=k.ρ (π o))(hz:∀b,k0.fz b→k.fz b){b sh:Nat} : ∀{ob:AO},GQ ob=true→Lk N ob=true→O7 k.sz→ObR k0 w b sh ob→ObR k w b sh (KQ π ob)
 |.cells e cs,_,hl,_,hO=>by
  obtain⟨arr,fr,a1,a2,a3,a4,a5⟩:=hO;refine⟨arr,fr,a1,by rw[EA];exact a2,fun i x hi=>?_,by rw[←hs];exact a4,a5⟩;rw[OK]at hi;cases hc:cs[i]? with
  |none=>rw[hc]at hi;cases hi
  |some y=>rw[hc]at hi;cases hi;obtain⟨v,v1,v2⟩:=a3 i y hc;exact⟨v,v1,VR.CO hs hρ hz y v (KB hl y (List.mem_of_getElem? hc)) v2⟩
 |.map es cl,_,hl,_,hO=>by obtain⟨h0,Ax,c,h1,h2⟩:=hO;exact⟨h0,Ax,c,h1,MR.CO hs hρ hz hl h2⟩
 |.oba e i,_,_,hm,hO=>by obtain⟨arr,fr,a1,a2,a3,a4,a5⟩:=hO;rw[hs]at a2 a3 a4;refine⟨arr,fr,a1,a2,fun j x hi=>?_,a4,a5⟩;obtain⟨v,v1,v2⟩:=a3 j x hi;exact⟨v,v1,VR.low (N:=0) hs.symm (fun o ho=>by omega) hz x v (Jy (hm i) x (List.mem_of_getElem? hi)) v2⟩
 |.opq i,_,_,hm,hO=>by obtain⟨h0,Ax,c,h1,h2⟩:=hO;rw[hs]at h2;exact⟨h0,Ax,c,h1,MR.low (N:=0) hs.symm (fun o ho=>by omega) hz (hm i) h2⟩
 |.siter s p,h,_,_,hO=>by cases h
 |.dfr on,h,_,_,hO=>by cases h
 |.loop ..,h,_,_,_=>by cases h
end
theorem CR.low {k k':K}{w:World}(hs:k'.sz=k.sz)(hz:∀b,k.fz b→k'.fz b):∀{ch:List (AV×Bool)} {c:List PanicEntry},ch.all (fun p=>DQ p.1&&Aw 0 p.1)=true→CR k w ch c→CR k' w ch c
 |[],c,_,h=>by simpa only[CR]using h
 |(x,r)::rest,c,hp,h=>by simp only[List.all_cons,zA]at hp;simp only[CR]at h ⊢;obtain⟨e,c',h1,h2,h3,h4,h5⟩:=h;exact⟨e,c',h1,VR.low (N:=0) hs (fun o ho=>by omega) hz _ _ hp.1.2 h2,h3,h4,CR.low hs hz (by simpa using hp.2) h5⟩
theorem Nd {N:Nat} : ∀{l:OL},(∀p∈l,p.1<BF)→(l.map (·.1)).Nodup→∀p∈l,(BZ N l).get p.1=some p.2
 |[],_,_,p,hp=>by cases hp
 |q::r,hl,hn,p,hp=>by
  simp only[List.map_cons,List.nodup_cons]at hn;rw[show BZ N (q::r)=(BZ N r).set q.1 (some q.2) from rfl,AH.BQ _ _ _ _ (hl q (by simp))];rcases zH.1 hp with rfl|hp
  ·rw[if_pos rfl]
  ·have:p.1≠q.1:=fun e=>hn.1 (by rw[←e];exact List.mem_map_of_mem (f:=(·.1)) hp)
   rw[if_neg this];exact Nd (fun x hx=>hl x (zO _ hx)) hn.2 p hp
def SO (π:Nat→Nat)(l:OL):OL:=l.map fun p=>(π p.1,KQ π p.2)
def LG (π:Nat→Nat)(u:UL):UL:=u.map fun p=>(π p.1,p.2.map (KQ π))
theorem Lw.at {P:Program}{E:Env}(hGb:Fl E)(hMp:∀i,C9 0 (E.mp i)=true){N:Nat}{f:FuncId}{args:List AV}{l:OL}{res:AG}{u:UL}(hm:Lw P E N f args l res u)(hf:BU N args l res u=true){π:Nat→Nat}
 (inj:∀p∈l,∀q∈l,π p.1=π q.1→p.1=q.1) {k:K} {h:AH} {w:World} {vs:Array Value} (hk:k.sz=⟨P.cellsOf,E.sel,E.tok,E.str,E.mp⟩) (hr:HR k h w) (hg:B3 E k w)
 (hsub:∀p∈l,h.get (π p.1)=some (KQ π p.2)) (hlim:∀p∈l,π p.1<BF) (hv:VRL k w (CC π args) vs.toList):CQ P k h w res (h.upd (LG π u)) ((callFunc f vs).run P w):=by
 have hmp:O7 k.sz:=fun i=>by rw[hk];exact hMp i
 unfold BU at hf;simp only[zA]at hf;obtain⟨f1,f2,f3,f4,f5,f6,f7⟩:=hf;have f3:=Ba f3;have f6:=Gf f6;obtain⟨i1,i2⟩:=G6 f4;have il:∀p∈l,p.1<BF:=fun p hp=>Nat.lt_trans (i2 p hp).1 f3
 have um:∀p∈u,∃q∈l,q.1=p.1:=fun p hp=>by have:p.1∈u.map (·.1):=List.mem_map_of_mem hp;rw[i1]at this;obtain⟨q,hq,e⟩:=List.mem_map.1 this;exact⟨q,hq,e⟩
 have lm:∀q∈l,∃p∈u,p.1=q.1:=fun q hq=>by have:q.1∈l.map (·.1):=List.mem_map_of_mem hq;rw[←i1]at this;obtain⟨p,hp,e⟩:=List.mem_map.1 this;exact⟨p,hp,e⟩
 have iu:∀p∈u,p.1<BF:=fun p hp=>by obtain⟨q,hq,e⟩:=um p hp;rw[←e];exact il q hq
 have iru:∀p∈LG π u,p.1<BF:=fun p hp=>by obtain⟨q,hq,e⟩:=List.mem_map.1 hp;obtain⟨q2,hq2,e2⟩:=um q hq;rw[←e];show π q.1<BF;rw[←e2];exact hlim q2 hq2
 let K0:K:=⟨fun j=>if j<N then k.ρ (π j) else none,k.fz,k.sz⟩
 have hK0:∀o,o<N→K0.ρ o=k.ρ (π o):=fun o ho=>by show(if o<N then k.ρ (π o) else none)=_;rw[if_pos ho]
 have hmem:∀{o ob},(BZ N l).get o=some ob→(o,ob)∈l:=fun g=>Fv il g
 have hr0:HR K0 (BZ N l) w:=by
  refine⟨fun o ob g=>?_,fun o1 o2 ob1 ob2 b s1 s2 g1 g2 q1 q2=>?_,fun o ob b sh g q=>?_,fun o ho=>?_,hr.lt⟩
  ·have q:=i2 _ (hmem g);obtain⟨b,sh,q1,hO⟩:=hr.obj (π o) _ (hsub _ (hmem g));exact⟨b,sh,by rw[hK0 o q.1];exact q1,ObR.CG (k:=k) (k0:=K0) rfl hK0 (fun _ h=>h) q.2.1 q.2.2 hmp hO⟩
  ·rw[hK0 o1 (i2 _ (hmem g1)).1]at q1;rw[hK0 o2 (i2 _ (hmem g2)).1]at q2;exact inj _ (hmem g1) _ (hmem g2) (hr.inj _ _ _ _ b s1 s2 (hsub _ (hmem g1)) (hsub _ (hmem g2)) q1 q2)
  ·rw[hK0 o (i2 _ (hmem g)).1]at q;exact hr.nfz (π o) _ b sh (hsub _ (hmem g)) q
  ·rw[EG]at ho;show(if o<N then k.ρ (π o) else none)=none;rw[if_neg (by omega)]
 have hg0:B3 E K0 w:=fun g cells hc=>⟨(hg g cells hc).1,VRC.bare (N:=0) (k:=k) (k':=K0) (fun o ho=>by omega) (fun _ h=>h) g cells 0 (hGb g cells hc).1 (hGb g cells hc).2 (hg g cells hc).2.1,(hg g cells hc).2.2⟩
 obtain⟨nx,w1,e,hc⟩:=hm K0 (BZ N l) w vs hk hr0 hg0 (Nd il f6) (Nat.le_of_eq (EG N l).symm) (VRL.CG (k:=k) (k0:=K0) rfl hK0 (fun _ h=>h) args vs.toList f2 hv);have back:∀{k1:K} {w2:World},HR k1 ((BZ N l).upd u) w2→Ev K0 k1 (BZ N l) ((BZ N l).upd u) w w2→HR ⟨k.ρ,k1.fz,k.sz⟩ (h.upd (LG π u)) w2∧Ev k ⟨k.ρ,k1.fz,k.sz⟩ h (h.upd (LG π u)) w w2:=by
  intro k1 w2 r1 e1;have hk1:∀o,o<N→k1.ρ o=k.ρ (π o):=fun o ho=>(e1.keep o (by rw[EG];exact ho)).trans (hK0 o ho)
  have sz1:k1.sz=k.sz:=e1.sz;have same:∀b,b<w.heap.size→(∀p∈l,∀sh,k.ρ (π p.1)≠some (b,sh))→w2.heap[b]?=w.heap[b]?:=fun b hb hne=>e1.same b hb fun o ob sh g q=>by rw[hK0 o (i2 _ (hmem g)).1]at q;exact hne _ (hmem g) sh q
  have cls:∀{o ob},(h.upd (LG π u)).get o=some ob→(∃o2 ob2,(o2,some ob2)∈u∧o=π o2∧ob=KQ π ob2)∨(h.get o=some ob∧∀p∈l,π p.1≠o):=fun {o ob} g=>by
   rcases Mq iru g with g|⟨g,g2⟩
   ·obtain⟨⟨o2,x⟩,hm2,e2⟩:=List.mem_map.1 g;simp only[zG]at e2;obtain⟨rfl,e2⟩:=e2;cases x with
    |none=>cases e2|some ob2=>simp only[Option.map_some,zC]at e2;exact .inl ⟨o2,ob2,hm2,rfl,e2.symm⟩
   ·refine .inr ⟨g,fun p hp e2=>g2 ?_⟩;obtain⟨q,hq,e3⟩:=lm p hp;rw[←e2,←e3];exact List.mem_map.2 ⟨(π q.1,q.2.map (KQ π)),List.mem_map_of_mem (f:=fun p:Nat×Option AO=>(π p.1,p.2.map (KQ π))) hq,rfl⟩
  have was:∀{o ob},(h.upd (LG π u)).get o=some ob→∃ob',h.get o=some ob':=fun {o ob} g=>by
   rcases cls g with⟨o2,ob2,hm2,rfl,rfl⟩|⟨g,_⟩
   ·obtain⟨q,hq,e3⟩:=um _ hm2;have e3:q.1=o2:=e3;exact⟨_,by rw[←e3];exact hsub q hq⟩
   ·exact⟨_,g⟩
  have nl:∀{o ob b sh},h.get o=some ob→(∀p∈l,π p.1≠o)→k.ρ o=some (b,sh)→∀p∈l,∀sh2,k.ρ (π p.1)≠some (b,sh2):=fun {o ob b sh} g hne q p hp sh2 q2=>hne p hp (hr.inj _ _ _ _ b sh2 sh (hsub p hp) g q2 q)
  have uget:∀{o2 ob2},(o2,some ob2)∈u→((BZ N l).upd u).get o2=some ob2∧o2<N∧GQ ob2=true∧Lk N ob2=true:=fun {o2 ob2} hm2=>by have:=zB.1 f7 _ hm2;simp only[zA]at this;obtain⟨q,hq,e3⟩:=um _ hm2;have hN:=(i2 q hq).1;have e3:q.1=o2:=e3;rw[e3]at hN;exact⟨MT iu (by rw[i1];exact f6) _ hm2,hN,this.1,this.2⟩
  have le:Le k ⟨k.ρ,k1.fz,k.sz⟩ w w2:=⟨rfl,fun _ _ h=>h,e1.fz,fun b hf=>same b (hr.lt b hf) (fun p hp sh q=>hr.nfz _ _ b sh (hsub p hp) q hf),e1.shape⟩;refine⟨⟨fun o ob g=>?_,fun o1 o2 ob1 ob2 b s1 s2 g1 g2 q1 q2=>?_,fun o ob b sh g q hf=>?_,fun o ho=>hr.fresh o (by rw[←F8 h (LG π u)];exact ho),r1.lt⟩,
   ⟨rfl,e1.os,e1.tape,e1.output,e1.size,fun b hb hno=>same b hb fun p hp sh q=>hno _ _ sh (hsub p hp) q,e1.shape,fun _ _ h=>h,e1.fz,fun o ob b sh g q _=>?_,Nat.le_of_eq (F8 h _).symm,fun _ _=>rfl,fun b hb hf=>?_⟩⟩
  ·rcases cls g with⟨o2,ob2,hm2,rfl,rfl⟩|⟨g,hne⟩
   ·obtain⟨g2,hN,hb2,hl2⟩:=uget hm2;obtain⟨b,sh,q,hO⟩:=r1.obj o2 ob2 g2;rw[hk1 o2 hN]at q;exact⟨b,sh,q,ObR.CO (k:=⟨k.ρ,k1.fz,k.sz⟩) (k0:=k1) sz1 hk1 (fun _ h=>h) hb2 hl2 hmp hO⟩
   ·obtain⟨b,sh,q,hO⟩:=hr.obj o ob g;exact⟨b,sh,q,hO.mono le (same b hO.lt (nl g hne q))⟩
  ·obtain⟨_,g3⟩:=was g1;obtain⟨_,g4⟩:=was g2;exact hr.inj _ _ _ _ _ _ _ g3 g4 q1 q2
  ·rcases cls g with⟨o2,ob2,hm2,rfl,rfl⟩|⟨g,hne⟩
   ·obtain⟨g2,hN,_,_⟩:=uget hm2;exact r1.nfz o2 ob2 b sh g2 (by rw[hk1 o2 hN];exact q) hf
   ·rcases e1.nfz b (hr.FL g q) hf with h2|⟨o2,ob2,sh2,g2,q2⟩
    ·exact hr.nfz o ob b sh g q h2
    ·rw[hK0 o2 (i2 _ (hmem g2)).1]at q2;exact nl g hne q _ (hmem g2) sh2 q2
  ·obtain⟨ob',g2⟩:=was g;exact⟨o,ob',sh,g2,q⟩
  ·rcases e1.nfz b hb hf with h2|⟨o2,ob2,sh2,g2,q2⟩
   ·exact .inl h2
   ·rw[hK0 o2 (i2 _ (hmem g2)).1]at q2;exact .inr ⟨_,_,sh2,hsub _ (hmem g2),q2⟩
 refine⟨nx,w1,e,?_⟩;rcases hc with⟨x',v,k1,e2,e3,g1,g2,g3⟩|⟨fr0,hs0,hf⟩
 ·obtain⟨a,b⟩:=back g2 g3;subst e2;simp only[Eo,zA]at f5;exact .inl ⟨x',v,_,rfl,e3,VR.low (N:=0) (k:=k1) (k':=⟨k.ρ,k1.fz,k.sz⟩) g3.sz.symm (fun o ho=>by omega) (fun _ h=>h) _ _ f5.2 g1,a,b⟩
 ·refine .inr ⟨fr0,hs0,fun caller cs=>?_⟩;obtain⟨k1,w2,g1,g2,g3⟩:=hf caller cs;obtain⟨a,b⟩:=back g1 g2;refine⟨_,w2,a,b,?_⟩;cases res with
  |ret x=>obtain⟨v,q1,q2⟩:=g3;simp only[Eo,zA]at f5;exact⟨v,VR.low (N:=0) (k:=k1) (k':=⟨k.ρ,k1.fz,k.sz⟩) g2.sz.symm (fun o ho=>by omega) (fun _ h=>h) _ _ f5.2 q1,q2⟩
  |pan ch=>obtain⟨c,q1,q2⟩:=g3;exact⟨c,CR.low (k:=k1) (k':=⟨k.ρ,k1.fz,k.sz⟩) g2.sz.symm (fun _ h=>h) f5 q1,q2⟩
structure US where
 π:List (Nat×Nat)
 ids:List Nat
def Hq:List (Nat×Nat)→Nat→Option Nat
 |[],_=>none|p::r,o=>bif Nat.beq p.1 o then some p.2 else Hq r o
def US.bind (s:US)(o o':Nat):Option US:=
 match Hq s.π o with
 |some x=>bif Nat.beq x o' then some s else none
 |none=>some ⟨(o,o')::s.π,s.ids⟩
def Sv (told act:Option Nat):Bool:=
 match told with
 |none=>true|some n=>match act with
  |some m=>Nat.beq n m|none=>false
def QF (t a:AV)(s:US):Option US:=bif GK t a then some s else none
mutual
def DH (h:AH):AV→AV→US→Option US
 |.any,_,s=>some s|.ptr o off,a,s=>match a with
  |.ptr o' off'=>bif Nat.beq off off' then s.bind o o' else none
  |_=>none
 |.map o,a,s=>match a with
  |.map o'=>s.bind o o'|_=>none
 |.sl o off len sz cap,a,s=>match a with
  |.sl o' off' len' sz' cap'=>bif Nat.beq off off'&&(Nat.beq len len'&&(Nat.beq sz sz'&&Sv cap cap')) then s.bind o o' else none
  |_=>none
 |.psl cs len cap,a,s=>match a with
  |.psl cs' len' cap'=>bif Nat.beq len len'&&Sv cap cap' then Kf h cs cs' s else none
  |.sl o off len' _ cap'=>bif Nat.beq len len'&&Sv cap cap' then(match h.get o with
   |some (.cells _ cs')=>Kf h cs (cs'.drop off) ⟨s.π,o::s.ids⟩|_=>none) else none
  |_=>none
 |.pptr cs off,a,s=>match a with
  |.pptr cs' off'=>bif Nat.beq off off' then Kf h cs cs' s else none
  |.ptr o off'=>bif Nat.beq off off' then(match h.get o with
   |some (.cells _ cs')=>Kf h cs cs' ⟨s.π,o::s.ids⟩|_=>none) else none
  |_=>none
 |.emp,a,s=>match a with
  |.emp=>some s|.nils=>some s|.psl _ len _=>bif Nat.beq len 0 then some s else none
  |.sl _ _ len _ _=>bif Nat.beq len 0 then some s else none
  |_=>none
 |.agg cs,a,s=>match a with
  |.agg cs'=>bif Nat.beq cs.length cs'.length then Kf h cs cs' s else none
  |_=>none
 |.tup cs,a,s=>match a with
  |.tup cs'=>bif Nat.beq cs.length cs'.length then Kf h cs cs' s else none
  |_=>none
 |.iface t x,a,s=>match a with
  |.iface t' x'=>bif Nat.beq t t' then DH h x x' s else none
  |_=>none
 |.func (.func f) p q,a,s=>match a with
  |.func (.func f') p' q'=>bif Nat.beq f f'&&(Nat.beq p.length p'.length&&Nat.beq q.length q'.length) then(match Kf h p p' s with
   |some s1=>Kf h q q' s1|none=>none) else none
  |_=>none
 |.func _ _ _,_,_=>none|.one _,_,_=>none|.raw _,_,_=>none|t,a,s=>QF t a s
def Kf (h:AH):List AV→List AV→US→Option US
 |[],_,s=>some s|x::xs,l,s=>match l with
  |y::ys=>(match DH h x y s with
   |some s1=>Kf h xs ys s1|none=>none)
  |[]=>none
end
structure US.Le (s s':US):Prop where
 π:∀o x,Hq s.π o=some x→Hq s'.π o=some x
 ids:∀i∈s.ids,i∈s'.ids
theorem US.Le.refl (s:US):US.Le s s:=⟨fun _ _ h=>h,fun _ h=>h⟩
theorem US.Le.trans {a b c:US}(h:US.Le a b)(g:US.Le b c):US.Le a c:=⟨fun o x q=>g.π o x (h.π o x q),fun i q=>g.ids i (h.ids i q)⟩
def US.fn (s:US)(o:Nat):Nat:=(Hq s.π o).getD 0
theorem US.QW {s s':US}{o o':Nat}(h:s.bind o o'=some s'):US.Le s s'∧Hq s'.π o=some o':=by
 unfold US.bind at h;split at h
 ·rename_i x hx;obtain⟨h1,h2⟩:=Al h;cases h2;have:=zD h1;subst this;exact⟨US.Le.refl _,hx⟩
 ·rename_i hx;cases h;refine⟨⟨fun p x q=>?_,fun _ h=>h⟩,by simp[Hq]⟩;unfold Hq;cases hb:Nat.beq o p with
  |false=>exact q|true=>have:=zD hb;subst this;rw[hx]at q;cases q
theorem US.Aat {s s':US}{o o':Nat}(h:Hq s.π o=some o')(hl:US.Le s s'):s'.fn o=o':=by unfold US.fn;rw[hl.π _ _ h];rfl
section
variable {k k1:K}{h:AH}{w:World}{sf:US}
theorem NP (hr:HR k h w){o:Nat}{e:TypeId}{cs:List AV}(hg:h.get o=some (.cells e cs)){b sh:Nat}(hρ:k.ρ o=some (b,sh))(off:Nat):VRC k w b (cs.drop off) (sh+off):=by
 obtain⟨b',sh',h3,arr,fr,h4,h5,h6,h7⟩:=hr.obj o _ hg;rw[hρ]at h3;cases h3;refine VRC.C1 fun i x hx=>?_
 rw[List.getElem?_drop]at hx;obtain⟨u,q1,q2⟩:=h6 _ x hx;exact⟨u,by rw[←Nat.add_assoc]at q1;simp[World.cell?,h4,q1],q2⟩
theorem Na {cap cap':Option Nat}{c:Nat}(h:Sv cap cap'=true)(hc:∀n,cap'=some n→c=n):∀n,cap=some n→c=n:=by
 intro n hn;subst hn;unfold Sv at h;cases cap' with
 |none=>cases h|some m=>exact(hc m rfl).trans (zD h).symm
theorem D6 (le:Le k k1 w w){t a:AV}{s s':US}(he:QF t a s=some s')(ht:ren sf.fn t=t):US.Le s s'∧(US.Le s' sf→∀v,VR k w a v→VR k1 w (ren sf.fn t) v):=by unfold QF at he;obtain⟨h1,h2⟩:=Al he;cases h2;rw[Ea]at h1;have:=Em _ _ h1;subst this;exact⟨US.Le.refl _,fun _ v hv=>by rw[ht];exact VR.mono le _ _ hv⟩
mutual
theorem Kl (hr:HR k h w)(hρ:k1.ρ=k.ρ)(hs:k1.sz=k.sz)(le:Le k k1 w w)(hf:∀o ob b sh,o∈sf.ids→h.get o=some ob→k.ρ o=some (b,sh)→k1.fz b) :
 ∀(t a:AV) (s s':US),DH h t a s=some s'→US.Le s s'∧(US.Le s' sf→∀v,VR k w a v→VR k1 w (ren sf.fn t) v)
 |.any,a,s,s',he=>by simp only[DH,zC]at he;subst he;exact⟨US.Le.refl _,fun _ v _=>by simp only[ren,VR]⟩
 |.ptr o off,a,s,s',he=>by
  simp only[DH]at he;split at he;case h_2=>cases he
  obtain⟨h1,h2⟩:=Al he;have:=zD h1;subst this;obtain⟨g1,g2⟩:=US.QW h2;refine⟨g1,fun hl v hv=>?_⟩;simp only[ren,VR]at hv ⊢;rw[US.Aat g2 hl,hρ];exact hv
 |.map o,a,s,s',he=>by
  simp only[DH]at he;split at he;case h_2=>cases he
  obtain⟨g1,g2⟩:=US.QW he;refine⟨g1,fun hl v hv=>?_⟩;simp only[ren,VR]at hv ⊢;rw[US.Aat g2 hl,hρ];exact hv
 |.sl o off len sz cap,a,s,s',he=>by
  simp only[DH]at he;split at he;case h_2=>cases he
  obtain⟨h1,h2⟩:=Al he;simp only[zA]at h1;obtain⟨c1,c2,c3,c4⟩:=h1;have c1:=zD c1;have c2:=zD c2;have c3:=zD c3;subst c1 c2 c3;obtain⟨g1,g2⟩:=US.QW h2;refine⟨g1,fun hl v hv=>?_⟩;simp only[ren,VR]at hv ⊢;rw[US.Aat g2 hl,hρ];obtain⟨b,sh,c,arr,e,fr,q1,q2,q3,q4,q5⟩:=hv;exact⟨b,sh,c,arr,e,fr,q1,q2,q3,Na c4 q4,q5⟩
 |.psl cs len cap,a,s,s',he=>by
  simp only[DH]at he;split at he;case h_3=>cases he
  ·obtain⟨h1,h2⟩:=Al he;simp only[zA]at h1;have c1:=zD h1.1;subst c1;obtain⟨g1,g2⟩:=D7 hr hρ hs le hf cs _ _ _ h2;refine⟨g1,fun hl v hv=>?_⟩;simp only[ren,VR]at hv ⊢;obtain⟨b,sh,c,q1,q2,q3,q4,q5⟩:=hv;exact⟨b,sh,c,q1,q2,Na h1.2 q3,le.fz _ q4,(g2 hl).2 b sh q5⟩
  ·obtain⟨h1,h2⟩:=Al he;simp only[zA]at h1;have c1:=zD h1.1;subst c1;split at h2;case h_2=>cases h2
   rename_i o off sz cap' _ e cs' hg;obtain⟨g1,g2⟩:=D7 hr hρ hs le hf cs _ _ _ h2;refine⟨⟨g1.π,fun i hi=>g1.ids i (zO _ hi)⟩,fun hl v hv=>?_⟩;simp only[ren,VR]at hv ⊢;obtain⟨b,sh,c,arr,e,fr,q1,q2,q3,q4,q5⟩:=hv;exact⟨b,sh+off,c,q2,q3,Na h1.2 q4,hf o _ b sh (hl.ids _ (g1.ids _ (by simp))) hg q1,(g2 hl).2 b _ (NP hr hg q1 off)⟩
 |.pptr cs off,a,s,s',he=>by
  simp only[DH]at he;split at he;case h_3=>cases he
  ·obtain⟨h1,h2⟩:=Al he;have c1:=zD h1;subst c1;obtain⟨g1,g2⟩:=D7 hr hρ hs le hf cs _ _ _ h2;refine⟨g1,fun hl v hv=>?_⟩;simp only[ren,VR]at hv ⊢;obtain⟨b,sh,q1,q4,q5⟩:=hv;exact⟨b,sh,q1,le.fz _ q4,(g2 hl).2 b sh q5⟩
  ·obtain⟨h1,h2⟩:=Al he;have c1:=zD h1;subst c1;split at h2;case h_2=>cases h2
   rename_i o _ e cs' hg;obtain⟨g1,g2⟩:=D7 hr hρ hs le hf cs _ _ _ h2;refine⟨⟨g1.π,fun i hi=>g1.ids i (zO _ hi)⟩,fun hl v hv=>?_⟩;simp only[ren,VR]at hv ⊢;obtain⟨b,sh,q1,q2⟩:=hv;exact⟨b,sh,q2,hf o _ b sh (hl.ids _ (g1.ids _ (by simp))) hg q1,(g2 hl).2 b _ (by have:=NP hr hg q1 0;simpa using this)⟩
 |.emp,a,s,s',he=>by
  simp only[DH]at he;split at he;case h_5=>cases he
  ·cases he;exact⟨US.Le.refl _,fun _ v hv=>by simpa only[ren,VR]using hv⟩
  ·cases he;refine⟨US.Le.refl _,fun _ v hv=>?_⟩;simp only[ren,VR]at hv ⊢;exact⟨none,0,hv,fun _=>rfl⟩
  ·obtain⟨h1,h2⟩:=Al he;cases h2;have c1:=zD h1;subst c1;refine⟨US.Le.refl _,fun _ v hv=>?_⟩;simp only[ren,VR]at hv ⊢;obtain⟨b,sh,c,q1,_⟩:=hv;exact⟨_,c,q1,nofun⟩
  ·obtain⟨h1,h2⟩:=Al he;cases h2;have c1:=zD h1;subst c1;refine⟨US.Le.refl _,fun _ v hv=>?_⟩;simp only[ren,VR]at hv ⊢;obtain⟨b,sh,c,_,_,_,_,q1,_⟩:=hv;exact⟨_,c,q1,nofun⟩
 |.agg cs,a,s,s',he=>by
  simp only[DH]at he;split at he;case h_2=>cases he
  obtain⟨h1,h2⟩:=Al he;have c1:=zD h1;obtain⟨g1,g2⟩:=D7 hr hρ hs le hf cs _ _ _ h2;refine⟨g1,fun hl v hv=>?_⟩;simp only[ren,VR]at hv ⊢;obtain⟨vs,q1,q2⟩:=hv;exact⟨vs,q1,(g2 hl).1 _ c1 q2⟩
 |.tup cs,a,s,s',he=>by
  simp only[DH]at he;split at he;case h_2=>cases he
  obtain⟨h1,h2⟩:=Al he;have c1:=zD h1;obtain⟨g1,g2⟩:=D7 hr hρ hs le hf cs _ _ _ h2;refine⟨g1,fun hl v hv=>?_⟩;simp only[ren,VR]at hv ⊢;obtain⟨vs,q1,q2⟩:=hv;exact⟨vs,q1,(g2 hl).1 _ c1 q2⟩
 |.iface t x,a,s,s',he=>by
  simp only[DH]at he;split at he;case h_2=>cases he
  obtain⟨h1,h2⟩:=Al he;have c1:=zD h1;subst c1;obtain⟨g1,g2⟩:=Kl hr hρ hs le hf x _ _ _ h2;refine⟨g1,fun hl v hv=>?_⟩;simp only[ren,VR]at hv ⊢;obtain⟨y,q1,q2⟩:=hv;exact⟨y,q1,g2 hl _ q2⟩
 |.func fn p q,a,s,s',he=>by
  cases fn with
  |func f=>
   simp only[DH]at he;split at he;case h_2=>cases he
   obtain⟨h1,h2⟩:=Al he;simp only[zA]at h1;obtain⟨c1,c2,c3⟩:=h1;have c1:=zD c1;have c2:=zD c2;have c3:=zD c3;subst c1;split at h2;case h_2=>cases h2
   rename_i s1 hs1;obtain⟨g1,g2⟩:=D7 hr hρ hs le hf p _ _ _ hs1;obtain⟨g3,g4⟩:=D7 hr hρ hs le hf q _ _ _ h2;refine⟨g1.trans g3,fun hl v hv=>?_⟩;simp only[ren,VR]at hv ⊢;obtain⟨fs,cs,q1,q2,q3⟩:=hv;exact⟨fs,cs,q1,(g2 (g3.trans hl)).1 _ c2 q2,(g4 hl).1 _ c3 q3⟩
  |_=>simp[DH]at he
 |.one _,a,s,s',he=>by simp[DH]at he
 |.raw _,a,s,s',he=>by simp[DH]at he
 |.bool _,a,s,s',he=>by simp only[DH]at he;exact D6 le he rfl
 |.int _ _,a,s,s',he=>by simp only[DH]at he;exact D6 le he rfl
 |.str _,a,s,s',he=>by simp only[DH]at he;exact D6 le he rfl
 |.nilp,a,s,s',he=>by simp only[DH]at he;exact D6 le he rfl
 |.nils,a,s,s',he=>by simp only[DH]at he;exact D6 le he rfl
 |.nilm,a,s,s',he=>by simp only[DH]at he;exact D6 le he rfl
 |.nilf,a,s,s',he=>by simp only[DH]at he;exact D6 le he rfl
 |.nili,a,s,s',he=>by simp only[DH]at he;exact D6 le he rfl
 |.sel _,a,s,s',he=>by simp only[DH]at he;exact D6 le he rfl
 |.tok _,a,s,s',he=>by simp only[DH]at he;exact D6 le he rfl
 |.stok _,a,s,s',he=>by simp only[DH]at he;exact D6 le he rfl
theorem D7 (hr:HR k h w)(hρ:k1.ρ=k.ρ)(hs:k1.sz=k.sz)(le:Le k k1 w w)(hf:∀o ob b sh,o∈sf.ids→h.get o=some ob→k.ρ o=some (b,sh)→k1.fz b) :
 ∀(ts as':List AV) (s s':US),Kf h ts as' s=some s'→US.Le s s'∧(US.Le s' sf→(∀vs,ts.length=as'.length→VRL k w as' vs→VRL k1 w (CC sf.fn ts) vs)∧(∀b i,VRC k w b as' i→VRC k1 w b (CC sf.fn ts) i))
 |[],as',s,s',he=>by
  simp only[Kf,zC]at he;subst he;refine⟨US.Le.refl _,fun _=>⟨fun vs hl hv=>?_,fun b i _=>by simp only[CC,VRC]⟩⟩;cases as' with
  |nil=>simpa only[CC,VRL]using hv|cons _ _=>cases hl
 |x::xs,as',s,s',he=>by
  simp only[Kf]at he;split at he;case h_2=>cases he
  rename_i y ys;split at he;case h_2=>cases he
  rename_i s1 hs1;obtain⟨g1,g2⟩:=Kl hr hρ hs le hf x y _ _ hs1;obtain⟨g3,g4⟩:=D7 hr hρ hs le hf xs ys _ _ he;refine⟨g1.trans g3,fun hl=>⟨fun vs hn hv=>?_,fun b i hv=>?_⟩⟩
  ·simp only[CC,VRL]at hv ⊢;obtain⟨v,vs',q1,q2,q3⟩:=hv;exact⟨v,vs',q1,g2 (g3.trans hl) v q2,(g4 hl).1 vs' (by simpa using hn) q3⟩
  ·simp only[CC,VRC]at hv ⊢;obtain⟨⟨v,q1,q2⟩,q3⟩:=hv;exact⟨⟨v,q1,g2 (g3.trans hl) v q2⟩,(g4 hl).2 b (i+1) q3⟩
end
def Vi (h:AH):List (AV×AV×Nat)→List (AV×AV×Nat)→US→Option US
 |[],[],s=>some s|(x,y,_)::r,(x',y',_)::r',s=>match DH h x x' s with
  |some s1=>(match DH h y y' s1 with
   |some s2=>Vi h r r' s2|none=>none)
  |none=>none
 |_,_,_=>none
def uniO (h:AH):AO→AO→US→Option US
 |.cells e cs,.cells e' cs',s=>bif Nat.beq e e'&&Nat.beq cs.length cs'.length then Kf h cs cs' s else none
 |.map es _,.map es' _,s=>Vi h es es' s|.opq i,.opq j,s=>bif Nat.beq i j then some s else none
 |.oba e i,.oba e' j,s=>bif Nat.beq e e'&&Nat.beq i j then some s else none
 |_,_,_=>none
def NC (h:AH):OL→US→Option US
 |[],s=>some s|(o,ob)::r,s=>match Hq s.π o with
  |some o'=>(match h.get o' with
   |some ob'=>(match uniO h ob ob' s with
    |some s1=>NC h r s1|none=>none)
   |none=>none)
  |none=>none
theorem WB (hr:HR k h w)(hρ:k1.ρ=k.ρ)(hs:k1.sz=k.sz)(le:Le k k1 w w)(hf:∀o ob b sh,o∈sf.ids→h.get o=some ob→k.ρ o=some (b,sh)→k1.fz b) :
 ∀(ts as':List (AV×AV×Nat)) (s s':US),Vi h ts as' s=some s'→US.Le s s'∧(US.Le s' sf→∀Ax,MR k w as' Ax→MR k1 w (MX sf.fn ts) Ax)
 |[],[],s,s',he=>by simp only[Vi,zC]at he;subst he;exact⟨US.Le.refl _,fun _ Ax hm=>by simpa only[MX,MR]using hm⟩
 |[],_::_,s,s',he=>by simp[Vi]at he
 |_::_,[],s,s',he=>by simp[Vi]at he
 |(x,y,_)::r,(x',y',_)::r',s,s',he=>by
  simp only[Vi]at he;split at he;case h_2=>cases he
  rename_i s1 hs1;split at he;case h_2=>cases he
  rename_i s2 hs2;obtain⟨g1,g2⟩:=Kl hr hρ hs le hf x x' _ _ hs1;obtain⟨g3,g4⟩:=Kl hr hρ hs le hf y y' _ _ hs2;obtain⟨g5,g6⟩:=WB hr hρ hs le hf r r' _ _ he;refine⟨(g1.trans g3).trans g5,fun hl Ax hm=>?_⟩;simp only[MX,MR]at hm ⊢;obtain⟨e,es',q1,q2,q3,q4,q5⟩:=hm;exact⟨e,es',q1,g2 (g3.trans (g5.trans hl)) _ q2,g4 (g5.trans hl) _ q3,q4,g6 hl _ q5⟩
theorem AbK (hr:HR k h w)(hρ:k1.ρ=k.ρ)(hs:k1.sz=k.sz)(le:Le k k1 w w)(hmp:O7 k.sz)(hf:∀o ob b sh,o∈sf.ids→h.get o=some ob→k.ρ o=some (b,sh)→k1.fz b)
 {t a:AO} {s s':US} (he:uniO h t a s=some s'):US.Le s s'∧(US.Le s' sf→∀b sh,ObR k w b sh a→ObR k1 w b sh (KQ sf.fn t)):=by
 unfold uniO at he;split at he;case h_5=>cases he
 ·obtain⟨h1,h2⟩:=Al he;simp only[zA]at h1;have c1:=zD h1.1;have c2:=zD h1.2;rename_i e cs e' cs';subst c1;obtain⟨g1,g2⟩:=D7 hr hρ hs le hf _ _ _ _ h2;refine⟨g1,fun hl b sh hO=>?_⟩;obtain⟨arr,fr,a1,a2,a3,a4,a5⟩:=hO;have hc:VRC k w b cs' sh:=VRC.C1 fun i x hx=>by obtain⟨v,q1,q2⟩:=a3 i x hx;exact⟨v,by simp[World.cell?,a1,q1],q2⟩
  have hc2:=(g2 hl).2 b sh hc;refine⟨arr,fr,a1,by rw[EA,c2];exact a2,fun i x hx=>?_,by rw[hs];exact a4,a5⟩;obtain⟨v,q1,q2⟩:=VRC.get hc2 i x hx;have hi:i<cs'.length:=by have:=(zN.1 hx).1;rw[EA]at this;omega
  obtain⟨v',q3,_⟩:=a3 i _ (zK hi);have:v'=v:=by simp[World.cell?,a1,q3]at q1;exact q1
  subst this;exact⟨v',q3,q2⟩
 ·obtain⟨g1,g2⟩:=WB hr hρ hs le hf _ _ _ _ he;refine⟨g1,fun hl b sh hO=>?_⟩;obtain⟨h0,Ax,c,h1,h2⟩:=hO;exact⟨h0,Ax,c,h1,g2 hl _ h2⟩
 ·obtain⟨h1,h2⟩:=Al he;cases h2;have c1:=zD h1;subst c1;refine⟨US.Le.refl _,fun _ b sh hO=>?_⟩;obtain⟨h0,Ax,c,h1,h2⟩:=hO;exact⟨h0,Ax,c,h1,by rw[hs];exact MR.low (N:=0) hs (fun o ho=>by omega) le.fz (hmp _) h2⟩
 ·obtain⟨h1,h2⟩:=Al he;cases h2;simp only[zA]at h1;have c1:=zD h1.1;have c2:=zD h1.2;rename_i e i e' j;subst c1 c2;refine⟨US.Le.refl _,fun hl b sh hO=>?_⟩;obtain⟨arr,fr,a1,a2,a3,a4,a5⟩:=hO;refine⟨arr,fr,a1,by rw[hs];exact a2,fun j' x hi=>?_,by rw[hs];exact a4,a5⟩;rw[hs]at hi;obtain⟨v,v1,v2⟩:=a3 j' x hi;exact⟨v,v1,VR.mono le _ _ v2⟩
end
theorem PA {k k1:K}{h:AH}{w:World}{sf:US}(hr:HR k h w)(hρ:k1.ρ=k.ρ)(hs:k1.sz=k.sz)(le:Le k k1 w w)(hmp:O7 k.sz)(hf:∀o ob b sh,o∈sf.ids→h.get o=some ob→k.ρ o=some (b,sh)→k1.fz b) :
 ∀(l:OL) (s s':US),NC h l s=some s'→US.Le s s'∧(US.Le s' sf→∀p∈l,∃o',Hq sf.π p.1=some o'∧∃ob',h.get o'=some ob'∧∀b sh,ObR k w b sh ob'→ObR k1 w b sh (KQ sf.fn p.2))
 |[],s,s',he=>by simp only[NC,zC]at he;subst he;exact⟨US.Le.refl _,fun _ p hp=>by cases hp⟩
 |(o,ob)::r,s,s',he=>by
  simp only[NC]at he;split at he;case h_2=>cases he
  rename_i o' ho';split at he;case h_2=>cases he
  rename_i ob' hob;split at he;case h_2=>cases he
  rename_i s1 hs1;obtain⟨g1,g2⟩:=AbK hr hρ hs le hmp hf hs1;obtain⟨g3,g4⟩:=PA hr hρ hs le hmp hf r _ _ he;refine⟨g1.trans g3,fun hl p hp=>?_⟩;rcases zH.1 hp with rfl|hp
  ·exact⟨o',(g1.trans (g3.trans hl)).π _ _ ho',ob',hob,g2 (g3.trans hl)⟩
  ·exact g4 hl p hp
def OF.hit2 (q:OF)(f:FuncId)(args:List AV)(h:AH):Option AH:=
 bif Nat.beq q.f f&&Nat.beq q.args.length args.length then
  match Kf h q.args args ⟨[],[]⟩ with
  |some s0=>match NC h q.l s0 with
   |some s=>bif q.l.all (fun p=>Nat.blt (s.fn p.1) BF && !s.ids.contains (s.fn p.1))&&(s.ids.all (fun o=>Nat.blt o BF)&&KR (q.l.map fun p=>s.fn p.1)) then some (((h.kill s.ids).Er (SO s.fn q.l)).upd (LG s.fn q.u)) else none
   |none=>none
  |none=>none
 else none
theorem JM {α:Type}{g:α→Nat} : ∀{l:List α},(l.map g).Nodup→∀p∈l,∀q∈l,g p=g q→p=q
 |[],_,p,hp,_,_,_=>by cases hp
 |x::xs,hn,p,hp,q,hq,e=>by
  simp only[List.map_cons,List.nodup_cons]at hn;rcases zH.1 hp with e1|h1<;>rcases zH.1 hq with e2|h2
  ·rw[e1,e2]
  ·exact absurd (by rw[←e1,e];exact List.mem_map_of_mem h2) hn.1
  ·exact absurd (by rw[←e2,←e];exact List.mem_map_of_mem h1) hn.1
  ·exact JM hn.2 p h1 q h2 e
theorem HR.layAs {k k1:K}{h:AH}{w:World}{ids:List Nat}(hr:HR k h w)(hids:∀o∈ids,o<BF)(e1:k1.ρ=k.ρ)(r1:HR k1 (h.kill ids) w)(v1:Ev k k1 h (h.kill ids) w w){l:OL}
 (hl:∀p∈l,p.1<BF∧p.1∉ids∧∃ob',h.get p.1=some ob'∧∀b sh,ObR k w b sh ob'→ObR k1 w b sh p.2):HR k1 ((h.kill ids).Er l) w∧Ev k k1 h ((h.kill ids).Er l) w w:=by
 have hkg:=Kb (h:=h) hids;have key:∀l2:OL,(∀p∈l2,p∈l)→HR k1 ((h.kill ids).Er l2) w∧Ev k k1 h ((h.kill ids).Er l2) w w∧∀p∈l,∃ob1,((h.kill ids).Er l2).get p.1=some ob1:=by
  intro l2
  induction l2 with
  |nil=>intro _;refine⟨r1,v1,fun p hp=>?_⟩;obtain⟨_,hn,ob1,q1,_⟩:=hl p hp;refine⟨ob1,?_⟩;show(h.kill ids).get p.1=some ob1;rw[hkg,if_neg hn];exact q1
  |cons p r ih=>
   intro hm;obtain⟨a1,a2,a3⟩:=ih fun q hq=>hm q (zO _ hq)
   have hp:=hm p (by simp);obtain⟨ob2,g2⟩:=a3 p hp;obtain⟨hlt,_,ob1,q1,q2⟩:=hl p hp;obtain⟨b,sh,q,hO⟩:=hr.obj p.1 ob1 q1;have hO2:=q2 b sh hO;obtain⟨b1,b2⟩:=a1.write (w':=w) g2 (by rw[e1];exact q) rfl rfl rfl rfl (fun _ _=>rfl) (fun arr e fr hx=>⟨arr,fr,hx,rfl⟩) (fun _=>hO2);refine⟨b1,a2.trans b2,fun p2 hp2=>?_⟩;show ∃ob1,((((h.kill ids).Er r).set p.1 (some p.2)).get p2.1)=some ob1;rw[AH.BQ _ _ _ _ hlt];by_cases e:p2.1=p.1
   ·exact⟨p.2,if_pos e⟩
   ·rw[if_neg e];exact a3 p2 hp2
 obtain⟨a1,a2,_⟩:=key l fun _ h=>h
 exact⟨a1,a2⟩
theorem OF.V7 {P:Program}{E:Env}(hGb:Fl E)(hMp:∀i,C9 0 (E.mp i)=true){q:OF}(hq:Lw P E q.N q.f q.args q.l q.res q.u)(hfo:BU q.N q.args q.l q.res q.u=true){f:FuncId}{args:List AV}{h h':AH}(hh:q.hit2 f args h=some h')
 {k:K} {w:World} (hk:k.sz=⟨P.cellsOf,E.sel,E.tok,E.str,E.mp⟩) (hr:HR k h w) (hg:B3 E k w) {vs:Array Value} (hv:VRL k w args vs.toList):CQ P k h w q.res h' ((callFunc f vs).run P w):=by
 unfold OF.hit2 at hh;obtain⟨hc,hh2⟩:=Al hh;clear hh;have hh:=hh2;clear hh2;simp only[zA]at hc;have c1:=zD hc.1;have c2:=zD hc.2;subst c1;split at hh;case h_2=>cases hh
 rename_i s0 hs0;split at hh;case h_2=>cases hh
 rename_i s hs;obtain⟨hd,hh2⟩:=Al hh;cases hh2;simp only[zA]at hd;obtain⟨d1,d2,d3⟩:=hd;have d2:∀o∈s.ids,o<BF:=fun o ho=>Ba (zB.1 d2 o ho)
 have d1:∀p∈q.l,s.fn p.1<BF∧s.fn p.1∉s.ids:=fun p hp=>by have:=zB.1 d1 p hp;simp only[zA,Bool.not_eq_true',List.contains_eq_mem,decide_eq_false_iff_not]at this;exact⟨Ba this.1,this.2⟩
 have d3:=Gf d3;obtain⟨k1,e1,e2,e3,e4,r1,v1⟩:=hr.toMem (ids:=s.ids) d2;have le:=v1.le hr;have hmp:O7 k.sz:=fun i=>by rw[hk];exact hMp i
 obtain⟨_,u2⟩:=D7 (sf:=s) hr e1 e2 le e4 _ _ _ _ hs0;obtain⟨u3,u4⟩:=PA (sf:=s) hr e1 e2 le hmp e4 _ _ _ hs;have hv':=(u2 u3).1 vs.toList c2 hv;have u4:=u4 (US.Le.refl _);obtain⟨r2,v2⟩:=HR.layAs (l:=SO s.fn q.l) hr d2 e1 r1 v1 (fun p hp=>by
  obtain⟨p0,hp0,rfl⟩:=List.mem_map.1 hp;obtain⟨o',g1,ob',g2,g3⟩:=u4 p0 hp0;have e:s.fn p0.1=o':=by unfold US.fn;rw[g1];rfl
  exact⟨(d1 p0 hp0).1,(d1 p0 hp0).2,ob',by rw[show(s.fn p0.1,KQ s.fn p0.2).1=o' from e];exact g2,g3⟩)
 have hlim:∀p∈SO s.fn q.l,p.1<BF:=fun p hp=>by obtain⟨p0,hp0,rfl⟩:=List.mem_map.1 hp;exact(d1 p0 hp0).1
 refine CQ.after v2 (Lw.at hGb hMp hq hfo (π:=s.fn) (fun p hp p2 hp2 e=>?_) (e2.trans hk) r2 (B3.mono le hg) (fun p hp=>?_) (fun p hp=>(d1 p hp).1) hv')
 ·rw[JM (g:=fun p:Nat×AO=>s.fn p.1) d3 p hp p2 hp2 e]
 ·exact JL hlim (by rw[show(SO s.fn q.l).map (·.1)=q.l.map fun p=>s.fn p.1 by simp[SO,Function.comp_def]];exact d3) (s.fn p.1,KQ s.fn p.2) (List.mem_map_of_mem (f:=fun p:Nat×AO=>(s.fn p.1,KQ s.fn p.2)) hp)
def J4:List OF→FuncId→List AV→AH→Option (AV×AH)
 |[],_,_,_=>none|q::r,f,args,h=>match q.res with
  |.ret x=>(match q.hit2 f args h with
   |some h'=>some (x,h')|none=>J4 r f args h)
  |.pan _=>J4 r f args h
def Kx:List OF→FuncId→List AV→AH→Option (List (AV×Bool)×AH)
 |[],_,_,_=>none|q::r,f,args,h=>match q.res with
  |.pan ch=>(match q.hit2 f args h with
   |some h'=>some (ch,h')|none=>Kx r f args h)
  |.ret _=>Kx r f args h
def Rc (E:Env)(l:List OF):Env:={ E with
 prim:=fun f=>bif l.any (fun q=>Nat.beq q.f f) then some (fun args h=>match J4 l f args h with
  |some r=>some r|none=>match E.prim f with
   |some p=>p args h|none=>none) else E.prim f
 pan:=fun f=>bif l.any (fun q=>Nat.beq q.f f) then some (fun args h=>match Kx l f args h with
  |some r=>some r|none=>match E.pan f with
   |some p=>p args h|none=>none) else E.pan f }
theorem Il:∀{l:List OF} {f:FuncId} {args:List AV} {h:AH} {r:AV×AH},J4 l f args h=some r→∃q∈l,q.res=.ret r.1∧q.hit2 f args h=some r.2
 |[],_,_,_,_,he=>by cases he
 |q::l,f,args,h,r,he=>by
  unfold J4 at he;split at he
  ·rename_i x hx;split at he
   ·rename_i h' hh;cases he;exact⟨q,by simp,hx,hh⟩
   ·obtain⟨q2,m,a,b⟩:=Il he;exact⟨q2,zO _ m,a,b⟩
  ·obtain⟨q2,m,a,b⟩:=Il he;exact⟨q2,zO _ m,a,b⟩
theorem Hu:∀{l:List OF} {f:FuncId} {args:List AV} {h:AH} {r:List (AV×Bool)×AH},Kx l f args h=some r→∃q∈l,q.res=.pan r.1∧q.hit2 f args h=some r.2
 |[],_,_,_,_,he=>by cases he
 |q::l,f,args,h,r,he=>by
  unfold Kx at he;split at he
  ·rename_i x hx;split at he
   ·rename_i h' hh;cases he;exact⟨q,by simp,hx,hh⟩
   ·obtain⟨q2,m,a,b⟩:=Hu he;exact⟨q2,zO _ m,a,b⟩
  ·obtain⟨q2,m,a,b⟩:=Hu he;exact⟨q2,zO _ m,a,b⟩
theorem Az.hit {P:Program}{E:Env}(h:Az P E)(l:List OF):Az P (Rc E l):=⟨h.ty,h.fn,h.meth,h.impl,h.eqt,h.mixed,h.bin,h.len,h.slen,h.sat⟩
theorem B2.hit {P:Program}{E:Env}(hP:B2 P E)(hGb:Fl E)(hMp:∀i,C9 0 (E.mp i)=true){l:List OF}(hl:∀q∈l,Lw P E q.N q.f q.args q.l q.res q.u∧BU q.N q.args q.l q.res q.u=true):B2 P (Rc E l):=by
 refine⟨fun f p hp k h w args vs v' h' hsz hr hg hv hpr=>?_,fun f p hp k h w args vs v' h' hsz hr hg hv hpr=>?_⟩
 ·change (bif l.any (fun q=>Nat.beq q.f f) then _ else E.prim f)=some p at hp;cases hb:l.any (fun q=>Nat.beq q.f f) with
  |false=>rw[hb]at hp;exact hP.1 f p hp k h w args vs v' h' hsz hr hg hv hpr
  |true=>
   rw[hb]at hp;simp only[cond_true,zC]at hp;subst hp;dsimp only at hpr;split at hpr
   ·rename_i r hr';cases hpr;obtain⟨q,m,a,b⟩:=Il hr';have:=OF.V7 hGb hMp (hl q m).1 (hl q m).2 b hsz hr hg hv;rw[a]at this;exact this
   ·split at hpr
    ·rename_i p hp;exact hP.1 f p hp k h w args vs v' h' hsz hr hg hv hpr
    ·cases hpr
 ·change (bif l.any (fun q=>Nat.beq q.f f) then _ else E.pan f)=some p at hp;cases hb:l.any (fun q=>Nat.beq q.f f) with
  |false=>rw[hb]at hp;exact hP.2 f p hp k h w args vs v' h' hsz hr hg hv hpr
  |true=>
   rw[hb]at hp;simp only[cond_true,zC]at hp;subst hp;dsimp only at hpr;split at hpr
   ·rename_i r hr';cases hpr;obtain⟨q,m,a,b⟩:=Hu hr';have:=OF.V7 hGb hMp (hl q m).1 (hl q m).2 b hsz hr hg hv;rw[a]at this;exact this
   ·split at hpr
    ·rename_i p hp;exact hP.2 f p hp k h w args vs v' h' hsz hr hg hv hpr
    ·cases hpr
section
variable {π:Nat→Nat}
mutual
theorem Q2:∀x:AV,Aw 0 x=true→ren π x=x
 |.ptr o _,h=>by simp only[Aw]at h;have:=Ba h;omega
 |.sl o _ _ _ _,h=>by simp only[Aw]at h;have:=Ba h;omega
 |.map o,h=>by simp only[Aw]at h;have:=Ba h;omega
 |.pptr cs _,h=>by simp only[Aw]at h;simp only[ren,Ey cs h]
 |.psl cs _ _,h=>by simp only[Aw]at h;simp only[ren,Ey cs h]
 |.func fn a b,h=>by
  cases fn<;>simp only[Aw,zA]at h
  case yield=>cases h
  all_goals simp only[ren,Ey a h.1,Ey b h.2]
 |.iface _ x,h=>by simp only[Aw]at h;simp only[ren,Q2 x h]
 |.agg cs,h=>by simp only[Aw]at h;simp only[ren,Ey cs h]
 |.tup cs,h=>by simp only[Aw]at h;simp only[ren,Ey cs h]
 |.one cs,h=>by simp only[Aw]at h;simp only[ren,Ey cs h]
 |.any,_|.bool _,_|.int _ _,_|.str _,_|.nilp,_|.nils,_|.emp,_|.nilm,_|.nilf,_|.nili,_|.raw _,_|.sel _,_|.tok _,_|.stok _,_=>rfl
theorem Ey:∀xs:List AV,Bq 0 xs=true→CC π xs=xs
 |[],_=>rfl|x::xs,h=>by simp only[Bq,zA]at h;simp only[CC,Q2 x h.1,Ey xs h.2]
end
end
def noAH:AH:=⟨.e,0⟩
def covV (told act:AV):Bool:=Aw 0 told&&(Aw 0 act&&(DH noAH told act ⟨[],[]⟩).isSome)
theorem Abq {told act:AV}(h:covV told act=true){k:K}{w:World}(hk:∀b,k.fz b→b<w.heap.size){v:Value}(hv:VR k w act v):VR k w told v:=by
 unfold covV at h;simp only[zA]at h;obtain⟨hl,ha,h⟩:=h;obtain⟨s,hs⟩:=Option.isSome_iff_exists.1 h;have hn:∀o ob,noAH.get o≠some ob:=fun o ob g=>by rw[show noAH.get o=none from T.Kw _ _]at g;cases g
 have hr:HR ⟨fun _=>none,k.fz,k.sz⟩ noAH w:=⟨fun o ob g=>absurd g (hn o ob),fun o1 o2 ob1 ob2 b s1 s2 g1=>absurd g1 (hn _ _),fun o ob b sh g=>absurd g (hn _ _),fun _ _=>rfl,hk⟩;have h1:=VR.low (N:=0) (k:=k) (k':=⟨fun _=>none,k.fz,k.sz⟩) rfl (fun o ho=>by omega) (fun _ h=>h) act v ha hv;have h2:=(Kl (sf:=s) hr rfl rfl ((Ev.refl _ _ _).le hr) (fun o ob b sh _ g=>absurd g (hn _ _)) told act _ _ hs).2 (US.Le.refl _) v h1;rw[Q2 told hl]at h2;exact VR.low (N:=0) (k:=⟨fun _=>none,k.fz,k.sz⟩) (k':=k) rfl (fun o ho=>by omega) (fun _ h=>h) told v hl h2
def covR:AG→AG→Bool
 |.ret x,.ret y=>covV x y|.pan [(x,false)],.pan [(y,false)]=>covV x y|_,_=>false
theorem CQ.convR {P:Program}{k:K}{h h1:AH}{w:World}{res res2:AG}{r:Result Next}(hc:CQ P k h w res h1 r)
 (hv:∀(k':K),k'.sz=k.sz→∀w',(∀b,k'.fz b→b<w'.heap.size)→match res,res2 with
  |.ret x,.ret y=>∀v,VR k' w' x v→VR k' w' y v|.pan x,.pan y=>∀c,CR k' w' x c→CR k' w' y c|_,_=>False):CQ P k h w res2 h1 r:=by
 obtain⟨nx,w1,e1,hc⟩:=hc;refine⟨nx,w1,e1,?_⟩;rcases hc with⟨x',v,k',e2,e3,g1,g2,g3⟩|⟨fr0,hs0,hf⟩
 ·have hv:=hv k' g3.sz w1 g2.lt;subst e2;cases res2 with
  |pan y=>exact hv.elim|ret y=>exact .inl ⟨y,v,k',rfl,e3,hv v g1,g2,g3⟩
 ·refine .inr ⟨fr0,hs0,fun caller cs=>?_⟩;obtain⟨k',w',g1,g2,g3⟩:=hf caller cs;refine⟨k',w',g1,g2,?_⟩;have hv:=hv k' g2.sz w' g1.lt;cases res with
  |ret x=>
   cases res2 with
   |pan y=>exact hv.elim|ret y=>obtain⟨v,q1,q2⟩:=g3;exact⟨v,hv v q1,q2⟩
  |pan x=>
   cases res2 with
   |ret y=>exact hv.elim|pan y=>obtain⟨c,q1,q2⟩:=g3;exact⟨c,hv c q1,q2⟩
def BO (E:Env)(n m N:Nat)(f:FuncId)(args:List AV)(l:OL)(res:AG)(u:UL):Bool:=
 match E.fn f with
 |some F=>match F.body with
  |some b=>bif Nat.ble args.length F.ntmps&&(Nat.blt F.ntmps B9&&(Ep args&&(Bq N args&&(Nat.blt N BF&&(Ic N l u&&Eo res))))) then
   match evK E n (.run ⟨f,F.ntmps,.normal,none⟩ (Dy 0 args .e) [.code b] []) (BZ N l) .no with
   |some (r,h1,_)=>match fzR (h1.L4 N) m r with
    |some r'=>covR res r'&&(Eo r'&&OI h1 N u)|none=>false
   |none=>false
   else false
  |none=>false
 |none=>false
theorem AcY {k:K}{w:World}{x y:AV}{c:List PanicEntry}(h:∀v,VR k w x v→VR k w y v)(hc:CR k w [(x,false)] c):CR k w [(y,false)] c:=by simp only[CR]at hc ⊢;obtain⟨e,c',h1,h2,h3,h4,h5⟩:=hc;exact⟨e,c',h1,h _ h2,h3,h4,h5⟩
theorem S8 {σ:Nat→AV}{τ:Nat→List Nat}{μ:Nat→List (AV×AV×Nat)}(hσ:Jd σ τ μ){c:KC}(hc:By c σ τ){x y:AV}(h:covV y x=true)(hx:DQ x=true)(hy:DQ y=true){k:K}{w:World}(hk:∀b,k.fz b→b<w.heap.size){v:Value}(hv:VR k w (inst σ τ x) v):VR k w (inst σ τ y) v:=by
 have hl:Aw 0 y=true∧Aw 0 x=true:=by unfold covV at h;simp only[zA]at h;exact⟨h.1,h.2.1⟩
 obtain⟨a1,a2,a3⟩:=Et hσ (N:=0) x hx hl.2;obtain⟨b1,b2,_⟩:=Et hσ (N:=0) y hy hl.1
 let K1:K:=⟨fun _=>none,k.fz,c⟩
 have h1:VR K1 w (inst σ τ x) v:=VR.bare (N:=0) (k:=k) (k':=K1) (fun o ho=>by omega) (fun _ h=>h) _ _ a1 a2 hv;have h2:VR K1 w x v:=CK (k:=K1) hc x v a3 h1;have h3:VR K1 w y v:=Abq (k:=K1) h hk h2;exact VR.bare (N:=0) (k:=K1) (k':=k) (fun o ho=>by omega) (fun _ h=>h) _ _ b1 b2 (Cp (k:=K1) hc y v h3)
theorem Rp {P:Program}{E:Env}(hE:Az P E)(hP:B2 P E)(hGb:Fl E){σ:Nat→AV}{τ:Nat→List Nat}{μ:Nat→List (AV×AV×Nat)}(hσ:Jd σ τ μ){tok:Nat→Value}(hc:(⟨P.cellsOf,E.sel,E.tok,E.str,E.mp⟩:KC)=Sq P σ τ μ tok)
 {n m N:Nat} {f:FuncId} {args:List AV} {l:OL} {res:AG} {u:UL} (hrun:BO E n m N f args l res u=true):Cm P E.glob N f (Ai σ τ args) (DD σ τ μ l) (Bi σ τ res) (Dk σ τ μ u):=by
 intro k h w vs hk hr hg hsub hnext hv;have hC:By (⟨P.cellsOf,E.sel,E.tok,E.str,E.mp⟩:KC) σ τ:=by rw[hc];exact hσ.Ng tok
 have hmp:E.mp=μ:=congrArg KC.mp hc;unfold BO at hrun;split at hrun;case h_2=>cases hrun
 rename_i F hF;split at hrun;case h_2=>cases hrun
 rename_i b hb;cases hc:(Nat.ble args.length F.ntmps&&(Nat.blt F.ntmps B9&&(Ep args&&(Bq N args&&(Nat.blt N BF&&(Ic N l u&&Eo res)))))) with
 |false=>simp only[hc,cond_false]at hrun;cases hrun
 |true=>
  simp only[hc,cond_true]at hrun;simp only[zA]at hc;obtain⟨c1,c2,c0,c3,c4,c5,c6⟩:=hc;have c4:=Ba c4;obtain⟨i1,i2⟩:=G6 c5;have il:∀p∈l,p.1<BF:=fun p hp=>Nat.lt_trans (i2 p hp).1 c4
  have iu:∀p∈u,p.1<BF:=fun p hp=>by have:p.1∈u.map (·.1):=List.mem_map_of_mem hp;rw[i1]at this;obtain⟨q,hq,e⟩:=List.mem_map.1 this;rw[←e];exact il q hq
  split at hrun;case h_2=>cases hrun
  rename_i r h1 rc he;rw[Ve]at he;split at hrun;case h_2=>cases hrun
  rename_i r' hr';simp only[zA]at hrun;obtain⟨d1,d3,d2⟩:=hrun;obtain⟨a1,a2,a3⟩:=D5 hσ (N:=N) args c0 c3;have hm:CQ P k h w (Bi σ τ r') (h.upd (Dk σ τ μ u)) ((callFunc f vs).run P w):=by
   refine AdD hE hP hGb hC hF hb he (zE c1) (Ba c2) a2 a1 a3 (EG N l) (fun o ob g=>?_) (FO h1 c4) (Nat.le_of_eq (JJ h1 N).symm) hr' (Ow hσ _ d3) hk hr hg (fun o ob g=>?_) hnext (F8 h _) (fun o ob g=>?_) hv
   ·have q:=i2 _ (Fv il g);have:=Kc hσ (N:=N) ob q.2.1 q.2.2;rw[hmp];exact⟨q.1,this.2.1,this.1,this.2.2⟩
   ·rw[hmp];exact hsub _ (List.mem_map_of_mem (f:=fun p:Nat×AO=>(p.1,B7 σ τ μ p.2)) (Fv il g))
   ·have iu':∀p∈Dk σ τ μ u,p.1<BF:=fun p hp=>by obtain⟨q,hq,e⟩:=List.mem_map.1 hp;rw[←e];exact iu q hq
    rcases Mq iu' g with g|⟨g,g2⟩
    ·obtain⟨⟨o2,x⟩,hm,e⟩:=List.mem_map.1 g;simp only[zG]at e;obtain⟨rfl,e⟩:=e;cases x with
     |none=>cases e|some ob0=>
      simp only[Option.map_some,zC]at e;subst e;obtain⟨e1,ob1,e2,e6,e3,e4⟩:=K2 d2 hm;have:=Kc hσ (N:=N) ob1 e6 e3;refine .inl ⟨e1,⟨ob1,e2,this.2.2,by rw[hmp];exact this.2.1,by rw[hmp];exact this.1,fun k w b sh hO=>?_⟩,?_⟩
      ·rw[hmp]at hO;exact(S3 e4).inst.ok hO
      ·cases hg2:(BZ N l).get o2 with
       |some _=>rfl|none=>have:=LV il hg2;rw[←i1]at this;exact absurd (List.mem_map_of_mem (f:=(·.1)) hm) this
    ·refine .inr ⟨g,?_⟩;cases hg2:(BZ N l).get o with
     |none=>rfl|some ob2=>exfalso;apply g2;have:o∈l.map (·.1):=List.mem_map_of_mem (f:=(·.1)) (Fv il hg2);rw[←i1]at this;obtain⟨q,hq,e⟩:=List.mem_map.1 this;refine List.mem_map.2 ⟨(q.1,q.2.map (B7 σ τ μ)),List.mem_map_of_mem (f:=fun p:Nat×Option AO=>(p.1,p.2.map (B7 σ τ μ))) hq,e⟩
  refine hm.convR (fun k' _ w' hlt=>?_);unfold covR at d1;split at d1;case h_3=>cases d1
  ·simp only[Eo,zA]at d3 c6;exact fun v hv=>S8 hσ hC d1 d3.1 c6.1 hlt hv
  ·simp only[Eo,List.all_cons,zA]at d3 c6;exact fun c hcr=>AcY (fun v hv=>S8 hσ hC d1 d3.1.1 c6.1.1 hlt hv) hcr
end Go.Ab
end
