/- An evaluator over the model's memory, and its soundness: what it computes of a call is what the call does in the model, whatever the order of evaluation is; no condition. -/
import Derived.Test.YtecmlmofhabonaaGreatDoorRun2
import Derived.Below
noncomputable section
namespace Go.Ab
open Go
abbrev OL:=List (Nat×AO)
def B5 (N:Nat):OL→AH
 | []=>⟨.e,N⟩
 | p::r=>(B5 N r).set p.1 (some p.2)
theorem EI (N:Nat):∀l:OL,(B5 N l).next=N
 | []=>rfl
 | _::r=>EI N r
theorem Fv {N:Nat} : ∀{l:OL},(∀p∈l,p.1<BN)→∀{o ob},(B5 N l).get o=some ob→(o,ob)∈l
 | [],_,o,ob,h=>by
  have:(⟨.e,N⟩:AH).get o=none:=T.J3 _ _
  rw[show B5 N []=⟨.e,N⟩ from rfl,this] at h
  cases h
 | p::r,hl,o,ob,h=>by
  rw[show B5 N (p::r)=(B5 N r).set p.1 (some p.2) from rfl,AH.B0 _ _ _ _ (hl p (by simp))] at h
  by_cases e:o=p.1
  ·rw[if_pos e] at h;cases h;subst e;simp
  ·rw[if_neg e] at h
   exact List.mem_cons_of_mem _ (Fv (fun q hq=>hl q (List.mem_cons_of_mem _ hq)) h)
theorem Ld {N:Nat} : ∀{l:OL},(∀p∈l,p.1<BN)→∀{o},(B5 N l).get o=none→o∉l.map (·.1)
 | [],_,o,_=>by simp
 | p::r,hl,o,h=>by
  rw[show B5 N (p::r)=(B5 N r).set p.1 (some p.2) from rfl,AH.B0 _ _ _ _ (hl p (by simp))] at h
  by_cases e:o=p.1
  ·rw[if_pos e] at h;cases h
  ·rw[if_neg e] at h
   have:=Ld (fun q hq=>hl q (List.mem_cons_of_mem _ hq)) h
   simp only[List.map_cons,List.mem_cons,not_or]
   exact⟨e,this⟩
abbrev UL:=List (Nat×Option AO)
def AH.upd (h:AH):UL→AH
 | []=>h
 | p::r=>(h.upd r).set p.1 p.2
theorem Ge (h:AH):∀u:UL,(h.upd u).next=h.next
 | []=>rfl
 | _::r=>Ge h r
theorem LA {h:AH} : ∀{u:UL},(∀p∈u,p.1<BN)→∀{o ob},(h.upd u).get o=some ob→(o,some ob)∈u∨(h.get o=some ob∧o∉u.map (·.1))
 | [],_,o,ob,g=>.inr ⟨g,by simp⟩
 | p::r,hl,o,ob,g=>by
  rw[show h.upd (p::r)=(h.upd r).set p.1 p.2 from rfl,AH.B0 _ _ _ _ (hl p (by simp))] at g
  by_cases e:o=p.1
  ·rw[if_pos e] at g
   left
   subst e
   rw[←g]
   simp
  ·rw[if_neg e] at g
   rcases LA (fun q hq=>hl q (List.mem_cons_of_mem _ hq)) g with g|⟨g,g2⟩
   ·exact .inl (List.mem_cons_of_mem _ g)
   ·refine .inr ⟨g,?_⟩
    simp only[List.map_cons,List.mem_cons,not_or]
    exact⟨e,g2⟩
def eqE:List (AV×AV×Nat)→List (AV×AV×Nat)→Bool
 | [],[]=>true
 | (a,b,_)::r,(a',b',_)::r'=>GF a a'&&(GF b b'&&eqE r r')
 | _,_=>false
def eqO:AO→AO→Bool
 | .cells e cs,.cells e' cs'=>Nat.beq e e'&&Ln cs cs'
 | .map es _,.map es' _=>eqE es es'
 | .opq i,.opq j=>Nat.beq i j
 | _,_=>false
def Fx:List (AV×AV×Nat)→List (AV×AV×Nat)
 | []=>[]
 | (a,b,_)::r=>(a,b,0)::Fx r
theorem Aaw:∀{es es':List (AV×AV×Nat)},eqE es es'=true→Fx es=Fx es'
 | [],[],_=>rfl
 | [],_::_,he=>by cases he
 | (a,b,n)::r,[],he=>by cases he
 | (a,b,n)::r,(a',b',n')::r',he=>by
  simp only[eqE,Bool.and_eq_true,Ec] at he
  obtain⟨e1,e2,e3⟩:=he
  have e1:=Eo _ _ e1
  have e2:=Eo _ _ e2
  subst e1 e2
  simp only[Fx,Aaw e3]
theorem Jv {k:K}{w:World} : ∀{es:List (AV×AV×Nat)} {AB:List MapEntry},MR k w (Fx es) AB↔MR k w es AB
 | [],_=>Iff.rfl
 | (a,b,n)::r,AB=>by
  simp only[Fx,MR]
  constructor
  ·rintro⟨e,es',h1,h2,h3,h4,h5⟩
   exact⟨e,es',h1,h2,h3,h4,Jv.1 h5⟩
  ·rintro⟨e,es',h1,h2,h3,h4,h5⟩
   exact⟨e,es',h1,h2,h3,h4,Jv.2 h5⟩
def Oq (x y:AO):Prop:=x=y∨∃es c es' c',x=.map es c∧y=.map es' c'∧Fx es=Fx es'
theorem QJ:∀{x y:AO},eqO x y=true→Oq x y
 | .cells e cs,.cells e' cs',he=>by
  simp only[eqO,Bool.and_eq_true,Dp] at he
  have e1:=Nat.eq_of_beq_eq_true he.1
  have e2:=Er _ _ he.2
  subst e1 e2
  exact .inl rfl
 | .map es c,.map es' c',he=>.inr ⟨es,c,es',c',rfl,rfl,Aaw he⟩
 | .opq i,.opq j,he=>by
  have:=Nat.eq_of_beq_eq_true he
  subst this
  exact .inl rfl
theorem Oq.ok {x y:AO}(h:Oq x y){k:K}{w:World}{b sh:Nat}(hO:ObR k w b sh x):ObR k w b sh y:=by
 rcases h with rfl|⟨es,c,es',c',rfl,rfl,e⟩
 ·exact hO
 ·obtain⟨h0,AB,cl,h1,h2⟩:=hO
  exact⟨h0,AB,cl,h1,Jv.1 (e ▸ Jv.2 h2)⟩
theorem eqO_ok {k:K}{w:World}{b sh:Nat}{x y:AO}(he:eqO x y=true)(h:ObR k w b sh x):ObR k w b sh y:=(QJ he).ok h
def eqR:AM→AM→Bool
 | .ret x,.ret y=>GF x y
 | .pan [(x,false)],.pan [(y,false)]=>GF x y
 | _,_=>false
theorem eqR_eq:∀{a b:AM},eqR a b=true→a=b:=by
 intro a b h
 unfold eqR at h
 split at h
 ·rw[Ec] at h;rw[Eo _ _ h]
 ·rw[Ec] at h;rw[Eo _ _ h]
 ·cases h
def AH.KV (h:AH):Nat→AH
 | 0=>h
 | n+1=>(h.KV n).set n none
theorem Jk (h:AH):∀n,(h.KV n).next=h.next
 | 0=>rfl
 | n+1=>Jk h n
theorem FQ (h:AH):∀{n:Nat},n<BN→h.Above (h.KV n) n
 | 0,_,o,ob,g=>⟨Nat.zero_le _,g⟩
 | n+1,hn,o,ob,g=>by
  rw[show h.KV (n+1)=(h.KV n).set n none from rfl,AH.B0 _ _ _ _ (by omega)] at g
  by_cases e:o=n
  ·rw[if_pos e] at g;cases g
  ·rw[if_neg e] at g
   obtain⟨h1,h2⟩:=FQ h (by omega) o ob g
   exact⟨by omega,h2⟩
structure IV (σ:Nat→AV)(τ:Nat→List Nat)(μ:Nat→List (AV×AV×Nat)):Prop where
 plain:∀i,Ay (σ i)=true
 cell:∀i,(σ i).cell=true
 byte:∀i,(τ i).all (fun n=>Nat.blt n 256)=true
 mp:∀i,FE (μ i)=true∧DP 0 (μ i)=true
def Qq (P:Program)(σ:Nat→AV)(τ:Nat→List Nat)(μ:Nat→List (AV×AV×Nat))(tok:Nat→Value):KC:=⟨P.cellsOf,fun i=>ND (σ i),tok,fun i=>R3 (τ i),μ⟩
theorem IV.MB {P:Program}{σ:Nat→AV}{τ:Nat→List Nat}{μ:Nat→List (AV×AV×Nat)}(h:IV σ τ μ)(tok:Nat→Value):BJ (Qq P σ τ μ tok) σ τ:=⟨fun _=>.inr rfl,fun _=>rfl,h.byte⟩
mutual
theorem Ep:∀x:AV,Ay x=true→Bf x=true∧∀N,Az N x=true
 | .ptr ..,h | .sl ..,h | .map _,h | .func ..,h | .sel _,h | .tok _,h | .stok _,h | .one _,h=>by simp[Ay] at h
 | .pptr cs _,h=>by simp only[Ay] at h;simp only[Bf,Az];exact EJ cs h
 | .psl cs _ _,h=>by simp only[Ay] at h;simp only[Bf,Az];exact EJ cs h
 | .iface _ x,h=>by simp only[Ay] at h;simp only[Bf,Az];exact Ep x h
 | .agg cs,h=>by simp only[Ay] at h;simp only[Bf,Az];exact EJ cs h
 | .tup cs,h=>by simp only[Ay] at h;simp only[Bf,Az];exact EJ cs h
 | .any,_ | .bool _,_ | .int _ _,_ | .str _,_ | .nilp,_ | .nils,_ | .emp,_ | .nilm,_ | .nilf,_ | .nili,_ | .raw _,_=>by simp only[Bf,Az];exact⟨trivial,fun _=>trivial⟩
theorem EJ:∀xs:List AV,Bi xs=true→BP xs=true∧∀N,Bx N xs=true
 | [],_=>⟨rfl,fun _=>rfl⟩
 | x::xs,h=>by
  simp only[Bi,Bool.and_eq_true] at h
  have a:=Ep x h.1
  have b:=EJ xs h.2
  simp only[BP,Bx,Bool.and_eq_true]
  exact⟨⟨a.1,b.1⟩,fun N=>⟨a.2 N,b.2 N⟩⟩
end
mutual
def DN:AV→Bool
 | .tok _ | .one _=>false
 | .func (.yield _) _ _=>false
 | .func _ a b=>BP a&&BP b
 | .pptr cs _=>Ej cs
 | .psl cs _ _=>Ej cs
 | .iface _ x=>DN x
 | .agg cs=>Ej cs
 | .tup cs=>Ej cs
 | _=>true
def Ej:List AV→Bool
 | []=>true
 | x::xs=>DN x&&Ej xs
end
section
variable {σ:Nat→AV}{τ:Nat→List Nat}{μ:Nat→List (AV×AV×Nat)}(hσ:IV σ τ μ){N:Nat}
include hσ
mutual
theorem Eu:∀x:AV,DN x=true→Az N x=true→Bf (inst σ τ x)=true∧Az N (inst σ τ x)=true∧B8 σ x=true
 | .sel i,_,_=>by
  have a:=Ep _ (hσ.plain i)
  simp only[inst,B8,hσ.plain i,hσ.cell i,Bool.and_self]
  exact⟨a.1,a.2 N,trivial⟩
 | .stok i,_,_=>by simp only[inst,Bf,Az,B8];exact⟨trivial,trivial,trivial⟩
 | .tok i,h,_=>by simp[DN] at h
 | .one _,h,_=>by simp[DN] at h
 | .func fn a b,h,h2=>by
  cases fn<;>simp only[DN] at h<;>simp only[inst,Bf,B8]<;>first
   | (cases h;done)
   | exact⟨h,h2,trivial⟩
 | .pptr cs _,h,h2=>by simp only[DN] at h;simp only[Az] at h2;simp only[inst,Bf,Az,B8];exact DX cs h h2
 | .psl cs _ _,h,h2=>by simp only[DN] at h;simp only[Az] at h2;simp only[inst,Bf,Az,B8];exact DX cs h h2
 | .iface _ x,h,h2=>by simp only[DN] at h;simp only[Az] at h2;simp only[inst,Bf,Az,B8];exact Eu x h h2
 | .agg cs,h,h2=>by simp only[DN] at h;simp only[Az] at h2;simp only[inst,Bf,Az,B8];exact DX cs h h2
 | .tup cs,h,h2=>by simp only[DN] at h;simp only[Az] at h2;simp only[inst,Bf,Az,B8];exact DX cs h h2
 | .ptr o a,_,h2=>by simp only[inst,Bf,B8];exact⟨trivial,h2,trivial⟩
 | .sl o a b c d,_,h2=>by simp only[inst,Bf,B8];exact⟨trivial,h2,trivial⟩
 | .map o,_,h2=>by simp only[inst,Bf,B8];exact⟨trivial,h2,trivial⟩
 | .any,_,_ | .bool _,_,_ | .int _ _,_,_ | .str _,_,_ | .nilp,_,_ | .nils,_,_ | .emp,_,_ | .nilm,_,_ | .nilf,_,_ | .nili,_,_ | .raw _,_,_=>by simp only[inst,Bf,Az,B8];exact⟨trivial,trivial,trivial⟩
theorem DX:∀xs:List AV,Ej xs=true→Bx N xs=true→BP (Au σ τ xs)=true∧Bx N (Au σ τ xs)=true∧Dz σ xs=true
 | [],_,_=>have _:=hσ;⟨rfl,rfl,rfl⟩
 | x::xs,h,h2=>by
  simp only[Ej,Bool.and_eq_true] at h
  simp only[Bx,Bool.and_eq_true] at h2
  have a:=Eu x h.1 h2.1
  have b:=DX xs h.2 h2.2
  simp only[Au,BP,Bx,Dz,Bool.and_eq_true]
  exact⟨⟨a.1,b.1⟩,⟨a.2.1,b.2.1⟩,a.2.2,b.2.2⟩
end
def Pg:List (AV×AV×Nat)→Bool
 | []=>true
 | (x,y,_)::r=>DN x&&(DN y&&Pg r)
theorem Q7:∀es:List (AV×AV×Nat),Pg es=true→DP N es=true→FE (G2 σ τ es)=true∧DP N (G2 σ τ es)=true∧Kz σ es=true
 | [],_,_=>⟨rfl,rfl,rfl⟩
 | (x,y,n)::r,h,h2=>by
  simp only[Pg,Bool.and_eq_true] at h
  simp only[DP,Bool.and_eq_true] at h2
  have a:=Eu hσ x h.1 h2.1
  have b:=Eu hσ y h.2.1 h2.2.1
  have c:=Q7 r h.2.2 h2.2.2
  simp only[G2,FE,DP,Kz,Bool.and_eq_true]
  exact⟨⟨a.1,b.1,c.1⟩,⟨a.2.1,b.2.1,c.2.1⟩,a.2.2,b.2.2,c.2.2⟩
omit hσ in
def GZ:AO→Bool
 | .cells _ cs=>Ej cs
 | .map es _=>Pg es
 | .opq _=>true
 | _=>false
theorem J1:∀ob:AO,GZ ob=true→KU N ob=true→UT (Ca σ τ μ ob)=true∧KU N (Ca σ τ μ ob)=true∧MG σ ob=true
 | .cells e cs,h,h2=>DX hσ cs h h2
 | .map es c,h,h2=>Q7 hσ es h h2
 | .opq i,_,_=>⟨(hσ.mp i).1,OO (Nat.zero_le N) (hσ.mp i).2,rfl⟩
 | .siter ..,h,_=>by cases h
 | .dfr _,h,_=>by cases h
 | .loop ..,h,_=>by cases h
def Eh:AM→Bool
 | .ret x=>DN x&&Az 0 x
 | .pan ch=>ch.all (fun p=>DN p.1&&Az 0 p.1)
theorem Ob:∀ch:List (AV×Bool),ch.all (fun p=>DN p.1&&Az 0 p.1)=true→(GL σ τ ch).all (fun p=>Bf p.1&&Az 0 p.1)=true
 | [],_=>rfl
 | (x,b)::r,h=>by
  simp only[List.all_cons,Bool.and_eq_true] at h
  have a:=Eu hσ x h.1.1 h.1.2
  simp only[GL,List.all_cons,Bool.and_eq_true]
  exact⟨⟨a.1,a.2.1⟩,Ob r (by simpa only[Bool.and_eq_true] using h.2)⟩
theorem M9:∀r:AM,Eh r=true→Nj (Bu σ τ r)=true
 | .ret x,h=>by
  simp only[Eh,Bool.and_eq_true] at h
  have a:=Eu hσ x h.1 h.2
  simp only[Bu,Nj,a.1,a.2.1,Bool.and_self]
 | .pan ch,h=>Ob hσ ch h
end
def DE (σ:Nat→AV)(τ:Nat→List Nat)(μ:Nat→List (AV×AV×Nat))(l:OL):OL:=l.map fun p=>(p.1,Ca σ τ μ p.2)
def Dh (σ:Nat→AV)(τ:Nat→List Nat)(μ:Nat→List (AV×AV×Nat))(u:UL):UL:=u.map fun p=>(p.1,p.2.map (Ca σ τ μ))
def Me (h1:AH)(N:Nat):UL→Bool
 | []=>true
 | (o,none)::r=>Nat.blt o N&&Me h1 N r
 | (o,some ob)::r=>Nat.blt o N&&((match h1.get o with
  | some ob1=>GZ ob1&&(KU N ob1&&eqO ob1 ob)
  | none=>false)&&Me h1 N r)
def Hr (N:Nat):OL→UL→Bool
 | [],[]=>true
 | (o,ob)::r,(o',_)::r'=>Nat.beq o o'&&(Nat.blt o N&&(GZ ob&&(KU N ob&&Hr N r r')))
 | _,_=>false
theorem Kt {h1:AH}{N:Nat} : ∀{u:UL},Me h1 N u=true→∀{o ob},(o,some ob)∈u→o<N∧∃ob1,h1.get o=some ob1∧GZ ob1=true∧KU N ob1=true∧eqO ob1 ob=true
 | [],_,o,ob,h=>by cases h
 | (o',none)::r,hu,o,ob,h=>by
  simp only[Me,Bool.and_eq_true] at hu
  rcases List.mem_cons.1 h with e|e
  ·cases e
  ·exact Kt hu.2 e
 | (o',some ob')::r,hu,o,ob,h=>by
  simp only[Me,Bool.and_eq_true] at hu
  rcases List.mem_cons.1 h with e|e
  ·cases e
   obtain⟨h2,h3,_⟩:=hu
   split at h3
   case h_2=>cases h3
   rename_i ob1 g
   simp only[Bool.and_eq_true] at h3
   exact⟨Bb h2,ob1,g,h3.1,h3.2.1,h3.2.2⟩
  ·exact Kt hu.2.2 e
theorem GY {N:Nat} : ∀{l:OL} {u:UL},Hr N l u=true→u.map (·.1)=l.map (·.1)∧∀p∈l,p.1<N∧GZ p.2=true∧KU N p.2=true
 | [],[],_=>⟨rfl,by simp⟩
 | [],_::_,h=>by cases h
 | (_,_)::_,[],h=>by cases h
 | (o,ob)::r,(o',x)::r',h=>by
  simp only[Hr,Bool.and_eq_true] at h
  obtain⟨h1,h2,h5,h3,h4⟩:=h
  have e:=Nat.eq_of_beq_eq_true h1
  subst e
  obtain⟨i1,i2⟩:=GY h4
  refine⟨by simp[i1],fun p hp=>?_⟩
  rcases List.mem_cons.1 hp with rfl|hp
  ·exact⟨Bb h2,h5,h3⟩
  ·exact i2 p hp
theorem I8 {σ:Nat→AV}{τ:Nat→List Nat} : ∀es:List (AV×AV×Nat),Fx (G2 σ τ es)=G2 σ τ (Fx es)
 | []=>rfl
 | (a,b,n)::r=>by simp only[G2,Fx,I8 r]
theorem Oq.inst {σ:Nat→AV}{τ:Nat→List Nat}{μ:Nat→List (AV×AV×Nat)}{x y:AO}(h:Oq x y):Oq (Ca σ τ μ x) (Ca σ τ μ y):=by
 rcases h with rfl|⟨es,c,es',c',rfl,rfl,e⟩
 ·exact .inl rfl
 ·exact .inr ⟨_,_,_,_,rfl,rfl,by rw[I8,I8,e]⟩
def Kf (E:Env)(n m N:Nat)(f:FuncId)(args:List AV)(l:OL)(res:AM)(u:UL):Bool:=
 match E.fn f with
 | some F=>match F.body with
  | some b=>bif Nat.ble args.length F.ntmps&&(Nat.blt F.ntmps Cb&&(Ej args&&(Bx N args&&(Nat.blt N BN&&(Hr N l u&&Eh res))))) then
   match evK E n (.run ⟨f,F.ntmps,.normal,none⟩ (Dw 0 args .e) [.code b] []) (B5 N l) .no with
   | some (r,h1,_)=>match fzR (h1.KV N) m r with
    | some r'=>eqR r' res&&Me h1 N u
    | none=>false
   | none=>false
   else false
  | none=>false
 | none=>false
def VG (gl:Nat→Option (List AV))(k:K)(w:World):Prop:=∀g cells,gl g=some cells→k.fz g∧VRC k w g cells 0∧Whole w g cells.length
def CM (P:Program)(gl:Nat→Option (List AV))(N:Nat)(f:FuncId)(args:List AV)(l:OL)(res:AM)(u:UL):Prop:=
 ∀(k:K) (h:AH) (w:World) (vs:Array Value),k.sz.sz=P.cellsOf→HR k h w→VG gl k w→(∀p∈l,h.get p.1=some p.2)→N≤h.next→VRL k w args vs.toList→CS P k h w res (h.upd u) ((callFunc f vs).run P w)
def K7 (P:Program)(E:Env)(N:Nat)(f:FuncId)(args:List AV)(l:OL)(res:AM)(u:UL):Prop:=
 ∀(k:K) (h:AH) (w:World) (vs:Array Value),k.sz=⟨P.cellsOf,E.sel,E.tok,E.str,E.mp⟩ →HR k h w→B1 E k w→(∀p∈l,h.get p.1=some p.2)→N≤h.next→VRL k w args vs.toList→
  CS P k h w res (h.upd u) ((callFunc f vs).run P w)
theorem HR.conv {k:K}{h h2:AH}{w:World}(hr:HR k h w)(hn:h2.next=h.next)(hc:∀o ob2,h2.get o=some ob2→∃ob,h.get o=some ob∧∀b sh,ObR k w b sh ob→ObR k w b sh ob2):HR k h2 w:=by
 refine⟨fun o ob2 g=>?_,fun o1 o2 ob1 ob2 b s1 s2 g1 g2=>?_,fun o ob b sh g=>?_,fun o ho=>hr.fresh o (by rw[←hn];exact ho),hr.lt⟩
 ·obtain⟨ob,g2,c⟩:=hc o ob2 g
  obtain⟨b,sh,q,hO⟩:=hr.obj o ob g2
  exact⟨b,sh,q,c b sh hO⟩
 ·obtain⟨_,g3,_⟩:=hc _ _ g1
  obtain⟨_,g4,_⟩:=hc _ _ g2
  exact hr.inj _ _ _ _ _ _ _ g3 g4
 ·obtain⟨_,g3,_⟩:=hc _ _ g
  exact hr.nfz _ _ _ _ g3
theorem Ev.conv {k k':K}{h h1 h2:AH}{w w':World}(e:Ev k k' h h1 w w')(hn:h2.next=h1.next)(hc:∀o ob2,h2.get o=some ob2→∃ob,h1.get o=some ob):Ev k k' h h2 w w':=
 ⟨e.sz,e.os,e.tape,e.output,e.size,e.same,e.shape,e.rho,e.fz,fun o ob b sh g q hb=>let⟨ob1,g1⟩:=hc o ob g;e.live o ob1 b sh g1 q hb,by rw[hn];exact e.next,e.keep,e.nfz⟩
theorem Ev.tell {k:K}{h h2:AH}{w:World}(hn:h2.next=h.next)(hc:∀o ob2,h2.get o=some ob2→∃ob,h.get o=some ob):Ev k k h h2 w w:=(Ev.refl k h w).conv hn hc
theorem CS.after {P:Program}{k k1:K}{h h1 h2:AH}{w:World}{res:AM}{r:Result Next}(e:Ev k k1 h h1 w w)(hc:CS P k1 h1 w res h2 r):CS P k h w res h2 r:=by
 obtain⟨nx,w1,e1,hc⟩:=hc
 refine⟨nx,w1,e1,?_⟩
 rcases hc with⟨x',v,k',e2,e3,g1,g2,g3⟩|⟨fr0,hs0,hf⟩
 ·exact .inl ⟨x',v,k',e2,e3,g1,g2,e.trans g3⟩
 ·refine .inr ⟨fr0,hs0,fun caller cs=>?_⟩
  obtain⟨k',w',g1,g2,g3⟩:=hf caller cs
  exact⟨k',w',g1,e.trans g2,g3⟩
theorem CS.conv {P:Program}{k:K}{h h1 h2:AH}{w:World}{res res2:AM}{r:Result Next}(hc:CS P k h w res h1 r)(hn:h2.next=h1.next)
 (ho:∀(k':K),k'.sz=k.sz→∀w' o ob2,h2.get o=some ob2→∃ob,h1.get o=some ob∧∀b sh,ObR k' w' b sh ob→ObR k' w' b sh ob2)
 (hv:∀(k':K),k'.sz=k.sz→∀w',match res,res2 with
  | .ret x,.ret y=>∀v,VR k' w' x v→VR k' w' y v
  | .pan x,.pan y=>∀c,CR k' w' x c→CR k' w' y c
  | _,_=>False):CS P k h w res2 h2 r:=by
 obtain⟨nx,w1,e1,hc⟩:=hc
 refine⟨nx,w1,e1,?_⟩
 rcases hc with⟨x',v,k',e2,e3,g1,g2,g3⟩|⟨fr0,hs0,hf⟩
 ·have hv:=hv k' g3.sz w1
  subst e2
  cases res2 with
  | pan y=>exact hv.elim
  | ret y=>exact .inl ⟨y,v,k',rfl,e3,hv v g1,g2.conv hn (ho k' g3.sz w1),g3.conv hn fun o ob2 g=>let⟨ob,g4,_⟩:=ho k' g3.sz w1 o ob2 g;⟨ob,g4⟩⟩
 ·refine .inr ⟨fr0,hs0,fun caller cs=>?_⟩
  obtain⟨k',w',g1,g2,g3⟩:=hf caller cs
  refine⟨k',w',g1.conv hn (ho k' g2.sz w'),g2.conv hn fun o ob2 g=>let⟨ob,g4,_⟩:=ho k' g2.sz w' o ob2 g;⟨ob,g4⟩,?_⟩
  have hv:=hv k' g2.sz w'
  cases res with
  | ret x=>
   cases res2 with
   | pan y=>exact hv.elim
   | ret y=>
    obtain⟨v,q1,q2⟩:=g3
    exact⟨v,hv v q1,q2⟩
  | pan x=>
   cases res2 with
   | ret y=>exact hv.elim
   | pan y=>
    obtain⟨c,q1,q2⟩:=g3
    exact⟨c,hv c q1,q2⟩
def AH.El (h:AH):OL→AH
 | []=>h
 | p::r=>(h.El r).set p.1 (some p.2)
theorem E3 (h:AH):∀l:OL,(h.El l).next=h.next
 | []=>rfl
 | _::r=>E3 h r
theorem Oy {h:AH} : ∀{l:OL},(∀p∈l,p.1<BN)→∀{o ob},(h.El l).get o=some ob→(o,ob)∈l∨(h.get o=some ob∧o∉l.map (·.1))
 | [],_,o,ob,g=>.inr ⟨g,by simp⟩
 | p::r,hl,o,ob,g=>by
  rw[show h.El (p::r)=(h.El r).set p.1 (some p.2) from rfl,AH.B0 _ _ _ _ (hl p (by simp))] at g
  by_cases e:o=p.1
  ·rw[if_pos e] at g
   cases g
   subst e
   exact .inl (by simp)
  ·rw[if_neg e] at g
   rcases Oy (fun q hq=>hl q (List.mem_cons_of_mem _ hq)) g with g|⟨g,g2⟩
   ·exact .inl (List.mem_cons_of_mem _ g)
   ·exact .inr ⟨g,by simp only[List.map_cons,List.mem_cons,not_or];exact⟨e,g2⟩⟩
theorem JH {h:AH} : ∀{l:OL},(∀p∈l,p.1<BN)→(l.map (·.1)).Nodup→∀p∈l,(h.El l).get p.1=some p.2
 | [],_,_,p,hp=>by cases hp
 | q::r,hl,hn,p,hp=>by
  simp only[List.map_cons,List.nodup_cons] at hn
  rw[show h.El (q::r)=(h.El r).set q.1 (some q.2) from rfl,AH.B0 _ _ _ _ (hl q (by simp))]
  rcases List.mem_cons.1 hp with rfl|hp
  ·rw[if_pos rfl]
  ·have:p.1≠q.1:=fun e=>hn.1 (by rw[←e];exact List.mem_map_of_mem (f:=(·.1)) hp)
   rw[if_neg this]
   exact JH (fun x hx=>hl x (List.mem_cons_of_mem _ hx)) hn.2 p hp
theorem Mr {h:AH} : ∀{u:UL},(∀p∈u,p.1<BN)→(u.map (·.1)).Nodup→∀p∈u,(h.upd u).get p.1=p.2
 | [],_,_,p,hp=>by cases hp
 | q::r,hl,hn,p,hp=>by
  simp only[List.map_cons,List.nodup_cons] at hn
  rw[show h.upd (q::r)=(h.upd r).set q.1 q.2 from rfl,AH.B0 _ _ _ _ (hl q (by simp))]
  rcases List.mem_cons.1 hp with rfl|hp
  ·rw[if_pos rfl]
  ·have:p.1≠q.1:=fun e=>hn.1 (by rw[←e];exact List.mem_map_of_mem (f:=(·.1)) hp)
   rw[if_neg this]
   exact Mr (fun x hx=>hl x (List.mem_cons_of_mem _ hx)) hn.2 p hp
theorem Oc {h:AH} : ∀{u:UL},(∀p∈u,p.1<BN)→∀{o},o∉u.map (·.1)→(h.upd u).get o=h.get o
 | [],_,o,_=>rfl
 | q::r,hl,o,ho=>by
  simp only[List.map_cons,List.mem_cons,not_or] at ho
  rw[show h.upd (q::r)=(h.upd r).set q.1 q.2 from rfl,AH.B0 _ _ _ _ (hl q (by simp)),if_neg ho.1]
  exact Oc (fun x hx=>hl x (List.mem_cons_of_mem _ hx)) ho.2
def Kx:List Nat→Bool
 | []=>true
 | x::xs=>!xs.contains x&&Kx xs
theorem Gj:∀{l:List Nat},Kx l=true→l.Nodup
 | [],_=>List.nodup_nil
 | x::xs,h=>by
  simp only[Kx,Bool.and_eq_true,Bool.not_eq_true',List.contains_eq_mem,decide_eq_false_iff_not] at h
  exact List.nodup_cons.2 ⟨h.1,Gj h.2⟩
def BH (N:Nat)(args:List AV)(l:OL)(res:AM)(u:UL):Bool:=
 Ej args&&(Bx N args&&(Nat.blt N BN&&(Hr N l u&&(Eh res&&(Kx (l.map (·.1))&&u.all fun p=>match p.2 with
  | some ob=>GZ ob&&KU N ob
  | none=>true)))))
theorem UF {σ:Nat→AV}{τ:Nat→List Nat}{μ:Nat→List (AV×AV×Nat)}(hσ:IV σ τ μ){k:K}{w:World}(hk:BJ k.sz σ τ):∀{ch:List (AV×Bool)} {c:List PanicEntry},ch.all (fun p=>DN p.1&&Az 0 p.1)=true→CR k w (GL σ τ ch) c→CR k w ch c
 | [],c,_,h=>h
 | (x,r)::rest,c,hb,h=>by
  simp only[List.all_cons,Bool.and_eq_true] at hb
  simp only[CR,GL] at h ⊢
  obtain⟨e,c',h1,h2,h3,h4,h5⟩:=h
  exact⟨e,c',h1,CZ hk x _ (Eu hσ x hb.1.1 hb.1.2).2.2 h2,h3,h4,UF hσ hk (by simpa only[Bool.and_eq_true] using hb.2) h5⟩
theorem Ff {P:Program}{E:Env}{σ:Nat→AV}{τ:Nat→List Nat}{μ:Nat→List (AV×AV×Nat)}(hσ:IV σ τ μ){tok:Nat→Value}(hc:(⟨P.cellsOf,E.sel,E.tok,E.str,E.mp⟩:KC)=Qq P σ τ μ tok)
 {N:Nat} {f:FuncId} {args:List AV} {l:OL} {res:AM} {u:UL} (hm:CM P E.glob N f (Au σ τ args) (DE σ τ μ l) (Bu σ τ res) (Dh σ τ μ u)) (hf:BH N args l res u=true):K7 P E N f args l res u:=by
 intro k h w vs hk hr hg hsub hnext hv
 have hC:BJ k.sz σ τ:=by rw[hk,hc];exact hσ.MB tok
 have hmp:k.sz.mp=μ:=by rw[hk,hc];rfl
 unfold BH at hf
 simp only[Bool.and_eq_true] at hf
 obtain⟨f1,f2,f3,f4,f5,f6,f7⟩:=hf
 have f3:=Bb f3
 have f6:=Gj f6
 obtain⟨i1,i2⟩:=GY f4
 have il:∀p∈DE σ τ μ l,p.1<BN:=fun p hp=>by
  obtain⟨q,hq,e⟩:=List.mem_map.1 hp
  rw[←e]
  exact Nat.lt_trans (i2 q hq).1 f3
 have iu0:∀p∈u,p.1<BN:=fun p hp=>by
  have:p.1∈u.map (·.1):=List.mem_map_of_mem hp
  rw[i1] at this
  obtain⟨q,hq,e⟩:=List.mem_map.1 this
  rw[←e]
  exact Nat.lt_trans (i2 q hq).1 f3
 have iu:∀p∈Dh σ τ μ u,p.1<BN:=fun p hp=>by
  obtain⟨q,hq,e⟩:=List.mem_map.1 hp
  rw[←e]
  exact iu0 q hq
 have el:(DE σ τ μ l).map (·.1)=l.map (·.1):=by simp[DE,Function.comp_def]
 have eu:(Dh σ τ μ u).map (·.1)=u.map (·.1):=by simp[Dh,Function.comp_def]
 have ex:∀o ob2,(h.El (DE σ τ μ l)).get o=some ob2→∃ob,h.get o=some ob∧∀b sh,ObR k w b sh ob→ObR k w b sh ob2:=fun o ob2 g=>by
  rcases Oy il g with g|⟨g,_⟩
  ·obtain⟨⟨o',ob⟩,hq,e⟩:=List.mem_map.1 g
   simp only[Prod.mk.injEq] at e
   obtain⟨rfl,rfl⟩:=e
   refine⟨ob,hsub _ hq,fun b sh hO=>?_⟩
   have:=QR hC (J1 hσ (N:=N) ob (i2 _ hq).2.1 (i2 _ hq).2.2).2.2 hO
   rwa[hmp] at this
  ·exact⟨ob2,g,fun _ _ h=>h⟩
 have r1:=hr.conv (E3 h _) ex
 have v1:Ev k k h (h.El (DE σ τ μ l)) w w:=Ev.tell (E3 h _) fun o ob2 g=>let⟨ob,g2,_⟩:=ex o ob2 g;⟨ob,g2⟩
 have hcall:=CS.after v1 (hm k _ w vs (by rw[hk]) r1 hg (JH il (by rw[el];exact f6)) (by rw[E3];exact hnext) (JX hC args _ hv))
 refine hcall.conv (by rw[Ge,Ge,E3]) (fun k' hs w' o ob2 g=>?_) (fun k' hs w'=>?_)
 ·have hC':BJ k'.sz σ τ:=by rw[hs];exact hC
  have hmp':k'.sz.mp=μ:=by rw[hs];exact hmp
  rcases LA iu0 g with g|⟨g,g2⟩
  ·have q:(o,some (Ca σ τ μ ob2))∈Dh σ τ μ u:=List.mem_map_of_mem (f:=fun p:Nat×Option AO=>(p.1,p.2.map (Ca σ τ μ))) g
   refine⟨_,Mr iu (by rw[eu,i1];exact f6) _ q,fun b sh hO=>?_⟩
   have:=List.all_eq_true.1 f7 _ g
   simp only[Bool.and_eq_true] at this
   rw[←hmp'] at hO
   exact Qy hC' (J1 hσ (N:=N) (μ:=μ) ob2 this.1 this.2).2.2 hO
  ·have h3:o∉(Dh σ τ μ u).map (·.1):=by rw[eu];exact g2
   refine⟨ob2,?_,fun _ _ h=>h⟩
   rw[Oc iu h3]
   have h4:o∉(DE σ τ μ l).map (·.1):=by rw[el,←i1];exact g2
   have key:∀{l:OL},(∀p∈l,p.1<BN)→o∉l.map (·.1)→(h.El l).get o=h.get o:=by
    intro l
    induction l with
    | nil=>intro _ _;rfl
    | cons p r ih=>
     intro hl hn
     simp only[List.map_cons,List.mem_cons,not_or] at hn
     rw[show h.El (p::r)=(h.El r).set p.1 (some p.2) from rfl,AH.B0 _ _ _ _ (hl p (by simp)),if_neg hn.1]
     exact ih (fun q hq=>hl q (List.mem_cons_of_mem _ hq)) hn.2
   rw[key il h4]
   exact g
 ·have hC':BJ k'.sz σ τ:=by rw[hs];exact hC
  cases res with
  | ret x=>
   simp only[Eh,Bool.and_eq_true] at f5
   exact fun v hv=>CZ hC' x v (Eu hσ x f5.1 f5.2).2.2 hv
  | pan ch=>exact fun c hv=>UF hσ hC' f5 hv
def AH.kill (h:AH):List Nat→AH
 | []=>h
 | o::r=>(h.kill r).set o none
theorem IJ (h:AH):∀l:List Nat,(h.kill l).next=h.next
 | []=>rfl
 | _::r=>IJ h r
theorem JI {h:AH} : ∀{l:List Nat},(∀o∈l,o<BN)→∀o,(h.kill l).get o=if o∈l then none else h.get o
 | [],_,o=>by simp[AH.kill]
 | p::r,hl,o=>by
  rw[show h.kill (p::r)=(h.kill r).set p none from rfl,AH.B0 _ _ _ _ (hl p (by simp)),JI (fun q hq=>hl q (List.mem_cons_of_mem _ hq))]
  by_cases e:o=p
  ·simp[e]
  ·simp[e]
theorem HR.toMem {k:K}{h:AH}{w:World}(hr:HR k h w){ids:List Nat}(hids:∀o∈ids,o<BN) :
 ∃k1:K,k1.ρ=k.ρ∧k1.sz=k.sz∧(∀b,k.fz b→k1.fz b)∧(∀o ob b sh,o∈ids→h.get o=some ob→k.ρ o=some (b,sh)→k1.fz b)∧HR k1 (h.kill ids) w∧Ev k k1 h (h.kill ids) w w:=by
 have hkg:=JI (h:=h) hids
 let k1:K:=⟨k.ρ,fun b=>k.fz b∨∃o ob sh,o∈ids∧h.get o=some ob∧k.ρ o=some (b,sh),k.sz⟩
 have was:∀{o ob},(h.kill ids).get o=some ob→h.get o=some ob∧o∉ids:=fun {o ob} g=>by
  rw[hkg] at g
  by_cases e:o∈ids
  ·rw[if_pos e] at g;cases g
  ·rw[if_neg e] at g;exact⟨g,e⟩
 have ev:Ev k k1 h (h.kill ids) w w:=⟨rfl,rfl,rfl,rfl,Nat.le_refl _,fun _ _ _=>rfl,fun b arr e fr hx=>⟨arr,fr,hx,rfl⟩,fun _ _ h=>h,fun _ h=>.inl h,fun o ob b sh g q _=>⟨o,ob,sh,(was g).1,q⟩,Nat.le_of_eq (IJ h ids).symm,fun _ _=>rfl,fun b _ hf=>by
  rcases hf with hf|⟨o,ob,sh,_,g,q⟩
  ·exact .inl hf
  ·exact .inr ⟨o,ob,sh,g,q⟩⟩
 have le:=ev.le hr
 refine⟨k1,rfl,rfl,fun _ h=>.inl h,fun o ob b sh hm g q=>.inr ⟨o,ob,sh,hm,g,q⟩,⟨fun o ob g=>?_,fun o1 o2 ob1 ob2 b s1 s2 g1 g2=>hr.inj o1 o2 ob1 ob2 b s1 s2 (was g1).1 (was g2).1,fun o ob b sh g q hf=>?_,fun o ho=>hr.fresh o (by rw[←IJ h ids];exact ho),fun b hf=>?_⟩,ev⟩
 ·obtain⟨b,sh,q,hO⟩:=hr.obj o ob (was g).1
  exact⟨b,sh,q,hO.mono le rfl⟩
 ·rcases hf with hf|⟨o2,ob2,sh2,hm,g2,q2⟩
  ·exact hr.nfz o ob b sh (was g).1 q hf
  ·have:=hr.inj o o2 _ _ _ _ _ (was g).1 g2 q q2
   subst this
   exact(was g).2 hm
 ·rcases hf with hf|⟨o2,ob2,sh2,hm,g2,q2⟩
  ·exact hr.lt b hf
  ·exact hr.Gp g2 q2
theorem WT {k k1:K}{h:AH}{w:World}(hr:HR k h w)(_hρ:k1.ρ=k.ρ)(hs:k1.sz=k.sz)(hz:∀b,k.fz b→k1.fz b){o:Nat}{e:TypeId}{cs:List AV}(hg:h.get o=some (.cells e cs))(hf:∀b sh,k.ρ o=some (b,sh)→k1.fz b)(hp:D3 cs=true){off len sz:Nat}{cap:Option Nat}{v:Value}
 (hv:VR k w (.sl o off len sz cap) v):VR k1 w (.psl ((cs.drop off).take (len*sz)) len none) v:=by
 simp only[VR] at hv ⊢
 obtain⟨b,sh,c,arr0,e0,fr0,h1,h2,g3,g4,_,_⟩:=hv
 obtain⟨b',sh',h3,arr,fr,h4,h5,h6,h7⟩:=hr.obj o _ hg
 rw[h1] at h3
 cases h3
 refine⟨b,sh+off,c,h2,g3,nofun,hf _ _ h1,?_⟩
 refine VRC.Dg fun i x hx=>?_
 rw[List.getElem?_take] at hx
 split at hx
 case isFalse=>cases hx
 rw[List.getElem?_drop] at hx
 obtain⟨u,q1,q2⟩:=h6 _ x hx
 have hpx:DZ x=true:=by
  have:∀(l:List AV),D3 l=true→∀x∈l,DZ x=true:=by
   intro l
   induction l with
   | nil=>intro _ x hx;cases hx
   | cons y ys ih=>
    intro hl x hx
    simp only[D3,Bool.and_eq_true] at hl
    rcases List.mem_cons.1 hx with rfl|hx
    ·exact hl.1
    ·exact ih hl.2 x hx
  exact this cs hp x (List.mem_of_getElem? hx)
 exact⟨u,by rw[←Nat.add_assoc] at q1;simp[World.cell?,h4,q1],VR.pure hs hz x u hpx q2⟩
def fzE (h:AH):List (AV×AV×Nat)→List (AV×AV×Nat)→Option (List Nat)
 | [],[]=>some []
 | (a,b,_)::r,(a',b',_)::r'=>bif GF a a' then
  bif GF b b' then fzE h r r' else match b with
  | .sl o off len sz _=>match h.get o with
   | some (.cells _ cs)=>bif Nat.blt o BN&&(D3 cs&&GF (.psl ((cs.drop off).take (len*sz)) len none) b') then
    match fzE h r r' with
    | some ids=>some (o::ids)
    | none=>none
    else none
   | _=>none
  | _=>none
  else none
 | _,_=>none
theorem PX {h:AH} : ∀{es es':List (AV×AV×Nat)} {ids:List Nat},fzE h es es'=some ids→∀o∈ids,o<BN∧∃e cs,h.get o=some (.cells e cs)
 | [],[],ids,he,o,ho=>by cases he;cases ho
 | [],_::_,ids,he,_,_=>by cases he
 | (a,b,n)::r,[],ids,he,_,_=>by cases he
 | (a,b,n)::r,(a',b',n')::r',ids,he,o,ho=>by
  simp only[fzE] at he
  obtain⟨_,he⟩:=Ap he
  cases hb:GF b b' with
  | true=>rw[hb] at he;exact PX he o ho
  | false=>
   rw[hb] at he
   simp only[cond_false] at he
   split at he
   case h_2=>cases he
   rename_i o2 off len sz cap
   split at he
   case h_2=>cases he
   rename_i e cs hg
   obtain⟨hc,he⟩:=Ap he
   simp only[Bool.and_eq_true] at hc
   split at he
   case h_2=>cases he
   rename_i ids2 h2
   cases he
   rcases List.mem_cons.1 ho with rfl|ho
   ·exact⟨Bb hc.1,e,cs,hg⟩
   ·exact PX h2 o ho
theorem SR {k k1:K}{h:AH}{w:World}(hr:HR k h w)(hρ:k1.ρ=k.ρ)(hs:k1.sz=k.sz)(hz:∀b,k.fz b→k1.fz b)(le:Le k k1 w w) :
 ∀{es es':List (AV×AV×Nat)} {ids:List Nat} {AB:List MapEntry},fzE h es es'=some ids→(∀o ob b sh,o∈ids→h.get o=some ob→k.ρ o=some (b,sh)→k1.fz b)→MR k w es AB→MR k1 w es' AB
 | [],[],ids,AB,he,_,hm=>by simpa only[MR] using hm
 | [],_::_,ids,_,he,_,_=>by cases he
 | (a,b,n)::r,[],ids,_,he,_,_=>by cases he
 | (a,b,n)::r,(a',b',n')::r',ids,AB,he,hf,hm=>by
  simp only[fzE] at he
  obtain⟨ha,he2⟩:=Ap he
  clear he
  have he:=he2
  clear he2
  rw[Ec] at ha
  have ha:=Eo _ _ ha
  subst ha
  simp only[MR] at hm ⊢
  obtain⟨e,es',h1,h2,h3,h4,h5⟩:=hm
  cases hb:GF b b' with
  | true=>
   rw[hb] at he
   rw[Ec] at hb
   have hb:=Eo _ _ hb
   subst hb
   exact⟨e,es',h1,VR.mono le _ _ h2,VR.mono le _ _ h3,h4,SR hr hρ hs hz le he hf h5⟩
  | false=>
   rw[hb] at he
   simp only[cond_false] at he
   split at he
   case h_2=>cases he
   rename_i o2 off len sz cap
   split at he
   case h_2=>cases he
   rename_i e2 cs hg
   obtain⟨hc,he⟩:=Ap he
   simp only[Bool.and_eq_true] at hc
   split at he
   case h_2=>cases he
   rename_i ids2 hi2
   cases he
   obtain⟨_,hp,heq⟩:=hc
   rw[Ec] at heq
   have heq:=Eo _ _ heq
   subst heq
   exact⟨e,es',h1,VR.mono le _ _ h2,WT hr hρ hs hz hg (fun b sh q=>hf o2 _ b sh (by simp) hg q) hp h3,h4,SR hr hρ hs hz le hi2 (fun o ob b sh ho=>hf o ob b sh (List.mem_cons_of_mem _ ho)) h5⟩
def fzO (h:AH):AO→AO→Option (List Nat)
 | .map es _,.map es' _=>fzE h es es'
 | x,y=>bif eqO x y then some [] else none
def Rw (h:AH):OL→Option (List Nat)
 | []=>some []
 | (o,ob)::r=>match h.get o with
  | some ob1=>match fzO h ob1 ob,Rw h r with
   | some a,some b=>some (a++b)
   | _,_=>none
  | none=>none
theorem Ab4 {h:AH}{x y:AO}{ids:List Nat}(he:fzO h x y=some ids):∀o∈ids,o<BN∧∃e cs,h.get o=some (.cells e cs):=by
 unfold fzO at he
 split at he
 ·exact PX he
 ·obtain⟨_,he⟩:=Ap he
  cases he
  intro o ho;cases ho
theorem Acu {k k1:K}{h:AH}{w:World}(hr:HR k h w)(hρ:k1.ρ=k.ρ)(hs:k1.sz=k.sz)(hz:∀b,k.fz b→k1.fz b)(le:Le k k1 w w){x y:AO}{ids:List Nat}(he:fzO h x y=some ids)(hf:∀o ob b sh,o∈ids→h.get o=some ob→k.ρ o=some (b,sh)→k1.fz b){b sh:Nat}(hO:ObR k w b sh x):ObR k1 w b sh y:=by
 unfold fzO at he
 split at he
 ·obtain⟨h0,AB,cl,h1,h2⟩:=hO
  exact⟨h0,AB,cl,h1,SR hr hρ hs hz le he hf h2⟩
 ·obtain⟨h1,_⟩:=Ap he
  exact eqO_ok h1 (hO.mono le rfl)
theorem Ou {h:AH} : ∀{l:OL} {ids:List Nat},Rw h l=some ids→(∀p∈l,∃ob1 a,h.get p.1=some ob1∧fzO h ob1 p.2=some a∧∀o∈a,o∈ids)∧∀o∈ids,o<BN∧∃e cs,h.get o=some (.cells e cs)
 | [],ids,he=>by cases he;exact⟨by simp,by simp⟩
 | (o,ob)::r,ids,he=>by
  simp only[Rw] at he
  split at he
  case h_2=>cases he
  rename_i ob1 hg
  split at he
  case h_2=>cases he
  rename_i a b ha hb
  cases he
  obtain⟨i1,i2⟩:=Ou hb
  refine⟨fun p hp=>?_,fun o' ho'=>?_⟩
  ·rcases List.mem_cons.1 hp with rfl|hp
   ·exact⟨ob1,a,hg,ha,fun o ho=>List.mem_append_left _ ho⟩
   ·obtain⟨ob2,a2,q1,q2,q3⟩:=i1 p hp
    exact⟨ob2,a2,q1,q2,fun o ho=>List.mem_append_right _ (q3 o ho)⟩
  ·rcases List.mem_append.1 ho' with ho'|ho'
   ·exact Ab4 ha o' ho'
   ·exact i2 o' ho'
theorem HR.toldAs {k:K}{h:AH}{w:World}(hr:HR k h w){l:OL}{ids:List Nat}(he:Rw h l=some ids)(hd:∀p∈l,p.1∉ids)(hlim:∀p∈l,p.1<BN) :
 ∃k1:K,k1.ρ=k.ρ∧k1.sz=k.sz∧HR k1 ((h.kill ids).El l) w∧Ev k k1 h ((h.kill ids).El l) w w:=by
 obtain⟨i1,i2⟩:=Ou he
 obtain⟨k1,e1,e2,e3,e4,r1,v1⟩:=hr.toMem (ids:=ids) (fun o ho=>(i2 o ho).1)
 have le:=v1.le hr
 have hkg:=JI (h:=h) (fun o ho=>(i2 o ho).1)
 have key:∀l2:OL,(∀p∈l2,p∈l)→HR k1 ((h.kill ids).El l2) w∧Ev k k1 h ((h.kill ids).El l2) w w∧∀p∈l,∃ob1,((h.kill ids).El l2).get p.1=some ob1:=by
  intro l2
  induction l2 with
  | nil=>
   intro _
   refine⟨r1,v1,fun p hp=>?_⟩
   obtain⟨ob1,a,q1,_,_⟩:=i1 p hp
   refine⟨ob1,?_⟩
   show(h.kill ids).get p.1=some ob1
   rw[hkg,if_neg (hd p hp)]
   exact q1
  | cons p r ih=>
   intro hm
   obtain⟨a1,a2,a3⟩:=ih fun q hq=>hm q (List.mem_cons_of_mem _ hq)
   have hp:=hm p (by simp)
   obtain⟨ob2,g2⟩:=a3 p hp
   obtain⟨ob1,a,q1,q2,q3⟩:=i1 p hp
   obtain⟨b,sh,q,hO⟩:=hr.obj p.1 ob1 q1
   have hO2:=Acu hr e1 e2 e3 le q2 (fun o ob b sh ho g q=>e4 o ob b sh (q3 o ho) g q) hO
   obtain⟨b1,b2⟩:=a1.write (w':=w) g2 (by rw[e1];exact q) rfl rfl rfl rfl (fun _ _=>rfl) (fun arr e fr hx=>⟨arr,fr,hx,rfl⟩) (fun _=>hO2)
   refine⟨b1,a2.trans b2,fun p2 hp2=>?_⟩
   show ∃ob1,((((h.kill ids).El r).set p.1 (some p.2)).get p2.1)=some ob1
   rw[AH.B0 _ _ _ _ (hlim p hp)]
   by_cases e:p2.1=p.1
   ·exact⟨p.2,if_pos e⟩
   ·rw[if_neg e];exact a3 p2 hp2
 obtain⟨a1,a2,_⟩:=key l fun _ h=>h
 exact⟨k1,e1,e2,a1,a2⟩
structure OF where
 f:FuncId
 N:Nat
 args:List AV
 l:OL
 res:AM
 u:UL
def OF.hit (q:OF)(f:FuncId)(args:List AV)(h:AH):Option AH:=
 bif Nat.beq q.f f&&(Ln q.args args&&Nat.ble q.N h.next) then match Rw h q.l with
  | some ids=>bif q.l.all (fun p=>Nat.blt p.1 BN && !ids.contains p.1)&&Kx (q.l.map (·.1)) then some (((h.kill ids).El q.l).upd q.u) else none
  | none=>none
 else none
theorem OF.Yh {P:Program}{E:Env}{q:OF}(hq:K7 P E q.N q.f q.args q.l q.res q.u){f:FuncId}{args:List AV}{h h':AH}(hh:q.hit f args h=some h'){k:K}{w:World}(hk:k.sz=⟨P.cellsOf,E.sel,E.tok,E.str,E.mp⟩)(hr:HR k h w)(hg:B1 E k w){vs:Array Value}(hv:VRL k w args vs.toList) :
 CS P k h w q.res h' ((callFunc f vs).run P w):=by
 unfold OF.hit at hh
 obtain⟨hc,hh2⟩:=Ap hh
 clear hh
 have hh:=hh2
 clear hh2
 simp only[Bool.and_eq_true] at hc
 obtain⟨c1,c2,c3⟩:=hc
 have c1:=Nat.eq_of_beq_eq_true c1
 subst c1
 rw[Dp] at c2
 have c2:=Er _ _ c2
 subst c2
 split at hh
 case h_2=>cases hh
 rename_i ids hids
 obtain⟨hd,hh2⟩:=Ap hh
 cases hh2
 simp only[Bool.and_eq_true] at hd
 obtain⟨d1,d2⟩:=hd
 have d3:∀p∈q.l,p.1<BN∧p.1∉ids:=fun p hp=>by
  have:=List.all_eq_true.1 d1 p hp
  simp only[Bool.and_eq_true,Bool.not_eq_true',List.contains_eq_mem,decide_eq_false_iff_not] at this
  exact⟨Bb this.1,this.2⟩
 obtain⟨k1,e1,e2,r1,v1⟩:=hr.toldAs hids (fun p hp=>(d3 p hp).2) (fun p hp=>(d3 p hp).1)
 have le:=v1.le hr
 refine CS.after v1 (hq k1 _ w vs (e2.trans hk) r1 (B1.mono le hg) (JH (fun p hp=>(d3 p hp).1) (Gj d2)) ?_ (VRL.mono le _ _ hv))
 rw[E3,IJ]
 exact Nat.le_of_ble_eq_true c3
def ML:List OF→FuncId→List AV→AH→Option (AV×AH)
 | [],_,_,_=>none
 | q::r,f,args,h=>match q.res with
  | .ret x=>match q.hit f args h with
   | some h'=>some (x,h')
   | none=>ML r f args h
  | .pan _=>ML r f args h
def MU:List OF→FuncId→List AV→AH→Option (List (AV×Bool)×AH)
 | [],_,_,_=>none
 | q::r,f,args,h=>match q.res with
  | .pan ch=>match q.hit f args h with
   | some h'=>some (ch,h')
   | none=>MU r f args h
  | .ret _=>MU r f args h
def O6 (E:Env)(l:List OF):Env:={ E with
 prim:=fun f=>bif l.any (fun q=>Nat.beq q.f f) then some (fun args h=>match ML l f args h with
  | some r=>some r
  | none=>match E.prim f with
   | some p=>p args h
   | none=>none) else E.prim f
 pan:=fun f=>bif l.any (fun q=>Nat.beq q.f f) then some (fun args h=>match MU l f args h with
  | some r=>some r
  | none=>match E.pan f with
   | some p=>p args h
   | none=>none) else E.pan f }
theorem Jm:∀{l:List OF} {f:FuncId} {args:List AV} {h:AH} {r:AV×AH},ML l f args h=some r→∃q∈l,q.res=.ret r.1∧q.hit f args h=some r.2
 | [],_,_,_,_,he=>by cases he
 | q::l,f,args,h,r,he=>by
  unfold ML at he
  split at he
  ·rename_i x hx
   split at he
   ·rename_i h' hh
    cases he
    exact⟨q,by simp,hx,hh⟩
   ·obtain⟨q2,m,a,b⟩:=Jm he
    exact⟨q2,List.mem_cons_of_mem _ m,a,b⟩
  ·obtain⟨q2,m,a,b⟩:=Jm he
   exact⟨q2,List.mem_cons_of_mem _ m,a,b⟩
theorem Jj:∀{l:List OF} {f:FuncId} {args:List AV} {h:AH} {r:List (AV×Bool)×AH},MU l f args h=some r→∃q∈l,q.res=.pan r.1∧q.hit f args h=some r.2
 | [],_,_,_,_,he=>by cases he
 | q::l,f,args,h,r,he=>by
  unfold MU at he
  split at he
  ·rename_i x hx
   split at he
   ·rename_i h' hh
    cases he
    exact⟨q,by simp,hx,hh⟩
   ·obtain⟨q2,m,a,b⟩:=Jj he
    exact⟨q2,List.mem_cons_of_mem _ m,a,b⟩
  ·obtain⟨q2,m,a,b⟩:=Jj he
   exact⟨q2,List.mem_cons_of_mem _ m,a,b⟩
theorem AG.obj {P:Program}{E:Env}(h:AG P E)(l:List OF):AG P (O6 E l):=⟨h.ty,h.fn,h.meth,h.impl,h.eqt,h.mixed,h.bin,h.len,h.slen⟩
theorem B4.obj {P:Program}{E:Env}(hP:B4 P E){l:List OF}(hl:∀q∈l,K7 P E q.N q.f q.args q.l q.res q.u):B4 P (O6 E l):=by
 refine⟨fun f p hp k h w args vs v' h' hsz hr hg hv hpr=>?_,fun f p hp k h w args vs v' h' hsz hr hg hv hpr=>?_⟩
 ·change (bif l.any (fun q=>Nat.beq q.f f) then _ else E.prim f)=some p at hp
  cases hb:l.any (fun q=>Nat.beq q.f f) with
  | false=>
   rw[hb] at hp
   exact hP.1 f p hp k h w args vs v' h' hsz hr hg hv hpr
  | true=>
   rw[hb] at hp
   simp only[cond_true,Option.some.injEq] at hp
   subst hp
   dsimp only at hpr
   split at hpr
   ·rename_i r hr'
    cases hpr
    obtain⟨q,m,a,b⟩:=Jm hr'
    have:=OF.Yh (hl q m) b hsz hr hg hv
    rw[a] at this
    exact this
   ·split at hpr
    ·rename_i p hp
     exact hP.1 f p hp k h w args vs v' h' hsz hr hg hv hpr
    ·cases hpr
 ·change (bif l.any (fun q=>Nat.beq q.f f) then _ else E.pan f)=some p at hp
  cases hb:l.any (fun q=>Nat.beq q.f f) with
  | false=>
   rw[hb] at hp
   exact hP.2 f p hp k h w args vs v' h' hsz hr hg hv hpr
  | true=>
   rw[hb] at hp
   simp only[cond_true,Option.some.injEq] at hp
   subst hp
   dsimp only at hpr
   split at hpr
   ·rename_i r hr'
    cases hpr
    obtain⟨q,m,a,b⟩:=Jj hr'
    have:=OF.Yh (hl q m) b hsz hr hg hv
    rw[a] at this
    exact this
   ·split at hpr
    ·rename_i p hp
     exact hP.2 f p hp k h w args vs v' h' hsz hr hg hv hpr
    ·cases hpr
end Go.Ab
namespace Go.Ab
open Go Go.RowKit
def grow (k:K)(w w':World):K:=⟨k.ρ,fun b=>k.fz b∨(w.heap.size≤b∧b<w'.heap.size),k.sz⟩
def AP (P:Program)(gl:Nat→Option (List AV))(f:FuncId)(args:List AV)(x:AV):Prop:=
 ∀(k:K) (w:World) (vs:Array Value),k.sz.sz=P.cellsOf→(∀o,k.ρ o=none)→(∀b,k.fz b→b<w.heap.size)→VG gl k w→VRL k w args vs.toList→
  Calls P f vs w fun e w'=>∃v,e=.returned v∧Below w.heap.size w w'∧VR (grow k w w') w' x v
theorem HR.grow {k:K}{h:AH}{w w':World}(hr:HR k h w)(hb:Below w.heap.size w w'):HR (grow k w w') h w'∧Ev k (grow k w w') h h w w':=by
 have hshape:∀(b:Nat) (arr:Array Value) (e:TypeId) (fr:Nat×Nat),w.heap[b]?=some (Obj.cells arr e fr)→∃(arr':Array Value) (fr':Nat×Nat),w'.heap[b]?=some (Obj.cells arr' e fr')∧arr'.size=arr.size:=fun b arr e fr hx=>
  ⟨arr,fr,by rw[hb.block b (Array.getElem?_eq_some_iff.1 hx).1];exact hx,rfl⟩
 have ev:Ev k (Go.Ab.grow k w w') h h w w':=⟨rfl,hb.os,hb.tape,hb.output,hb.size,fun b hlt _=>hb.block b hlt,hshape,fun _ _ h=>h,fun _ h=>.inl h,fun o ob b sh h1 h2 _=>⟨o,ob,sh,h1,h2⟩,Nat.le_refl _,fun _ _=>rfl,fun b hlt hf=>by
  rcases hf with hf|hf
  ·exact .inl hf
  ·omega⟩
 have le:=ev.le hr
 exact⟨⟨fun o ob ho=>let⟨b,sh,g1,g2⟩:=hr.obj o ob ho;⟨b,sh,g1,g2.mono le (hb.block b g2.lt)⟩,hr.inj,fun o ob b sh g1 g2 hf=>hf.elim (fun hf=>hr.nfz o ob b sh g1 g2 hf) (fun hf=>by have:=hr.Gp g1 g2;omega),hr.fresh,fun b hf=>hf.elim (fun hf=>by have:=hr.lt b hf;have:=hb.size;omega) (fun hf=>hf.2)⟩,ev⟩
theorem AP.memoP {P:Program}{E:Env}(hE:AG P E){gl:Nat→Option (List AV)}{f:FuncId}{F:Func}(hF:E.fn f=some F){b:Code}(hb:F.body=some b){args:List AV}{x:AV}(h:AP P gl f args x)
 (ha:BP args=true) (ha2:Bx 0 args=true) (hx:Bf x=true) (hx2:Az 0 x=true) (hgl:∀g cells,gl g=some cells→BP cells=true∧Bx 0 cells=true):CM P gl 0 f args [] (.ret x) []:=by
 intro k hp w vs hk hr hg _ _ hv
 have h0:=h ⟨fun _=>none,k.fz,k.sz⟩ w vs hk (fun _=>rfl) hr.lt (fun g cells hc=>⟨(hg g cells hc).1,VRC.bare (N:=0) (k:=k) (k':=⟨fun _=>none,k.fz,k.sz⟩) (fun o ho=>by omega) (fun _ h=>h) g cells 0 (hgl g cells hc).1 (hgl g cells hc).2 (hg g cells hc).2.1,(hg g cells hc).2.2⟩)
  (VRL.bare (N:=0) (k:=k) (k':=⟨fun _=>none,k.fz,k.sz⟩) (fun o ho=>by omega) (fun _ h=>h) args vs.toList ha ha2 hv)
 refine Fw hE hF hb h0 ?_
 rintro e w' ⟨v,rfl,hbw,hvr⟩
 obtain⟨r1,e1⟩:=hr.grow hbw
 exact⟨v,_,rfl,VR.bare (N:=0) (k:=Go.Ab.grow ⟨fun _=>none,k.fz,k.sz⟩ w w') (k':=Go.Ab.grow k w w') (fun o ho=>by omega) (fun _ h=>h) _ _ hx hx2 hvr,r1,e1⟩
theorem Vc {P:Program}{E:Env}(hE:AG P E)(hP:B4 P E)(hGb:Fk E){σ:Nat→AV}{τ:Nat→List Nat}{μ:Nat→List (AV×AV×Nat)}(hσ:IV σ τ μ){tok:Nat→Value}(hc:(⟨P.cellsOf,E.sel,E.tok,E.str,E.mp⟩:KC)=Qq P σ τ μ tok)
 {n m:Nat} {f:FuncId} {args:List AV} {x:AV} (hrun:Kf E n m 0 f args [] (.ret x) []=true):AP P E.glob f (Au σ τ args) (inst σ τ x):=by
 intro k w vs hk hρ hfz hg hv
 have hC:BJ (⟨P.cellsOf,E.sel,E.tok,E.str,E.mp⟩:KC) σ τ:=by rw[hc];exact hσ.MB tok
 unfold Kf at hrun
 split at hrun
 case h_2=>cases hrun
 rename_i F hF
 split at hrun
 case h_2=>cases hrun
 rename_i b hb
 cases hc2:(Nat.ble args.length F.ntmps&&(Nat.blt F.ntmps Cb&&(Ej args&&(Bx 0 args&&(Nat.blt 0 BN&&(Hr 0 [] []&&Eh (.ret x))))))) with
 | false=>simp only[hc2,cond_false] at hrun;cases hrun
 | true=>
  simp only[hc2,cond_true] at hrun
  simp only[Bool.and_eq_true] at hc2
  obtain⟨c1,c2,c0,c3,c4,c5,c6⟩:=hc2
  split at hrun
  case h_2=>cases hrun
  rename_i r h1 rc he
  rw[Tg] at he
  split at hrun
  case h_2=>cases hrun
  rename_i r' hr'
  simp only[Bool.and_eq_true] at hrun
  obtain⟨d1,d2⟩:=hrun
  have:=eqR_eq d1
  subst this
  cases r with
  | pan ch=>
   simp only[fzR] at hr'
   cases hcc:ch.all (fun p=>DZ p.1) with
   | false=>rw[hcc] at hr';cases hr'
   | true=>rw[hcc] at hr';cases hr'
  | ret y=>
  simp only[fzR] at hr'
  split at hr'
  case h_2=>cases hr'
  rename_i z hz
  simp only[Option.some.injEq,AM.ret.injEq] at hr'
  subst hr'
  obtain⟨a1,a2,a3⟩:=DX hσ (N:=0) args c0 c3
  have hemp:∀o,(B5 0 []).get o=none:=fun o=>T.J3 _ _
  let K0:K:=⟨fun _=>none,k.fz,⟨P.cellsOf,E.sel,E.tok,E.str,E.mp⟩⟩
  have hr0:HR K0 (B5 0 []) w:=⟨fun o ob h=>(by rw[hemp] at h;cases h),fun o1 _ _ _ _ _ _ h=>(by rw[hemp] at h;cases h),fun o _ _ _ h=>(by rw[hemp] at h;cases h),fun _ _=>rfl,hfz⟩
  have hg0:B1 E K0 w:=fun g cells hc=>⟨(hg g cells hc).1,VRC.bare (N:=0) (k:=k) (k':=K0) (fun o ho=>by omega) (fun _ h=>h) g cells 0 (hGb g cells hc).1 (hGb g cells hc).2 (hg g cells hc).2.1,(hg g cells hc).2.2⟩
  have hv0:VRL K0 w args vs.toList:=Hq (k:=K0) hC _ _ a3 (VRL.bare (N:=0) (k:=k) (k':=K0) (fun o ho=>by omega) (fun _ h=>h) _ vs.toList a1 a2 hv)
  intro cs
  obtain⟨e,w',fr,⟨v,k',rfl,q1,q2,q3⟩,q4⟩:=Aae hE hP hF hb he (Nat.le_of_ble_eq_true c1) (Bb c2) (k:=K0) rfl hr0 hg0 hv0 cs
  have same:∀b,b<w.heap.size→w'.heap[b]?=w.heap[b]?:=fun b hb=>q3.same b hb fun o ob sh h=>by rw[hemp] at h;cases h
  have hfz':∀b,k'.fz b→(grow k w w').fz b:=fun b hf=>by
   by_cases hb:b<w.heap.size
   ·rcases q3.nfz b hb hf with h|⟨o,ob,sh,h,_⟩
    ·exact .inl h
    ·rw[hemp] at h;cases h
   ·exact .inr ⟨by omega,q2.lt b hf⟩
  have hlive:∀o ob b sh,h1.get o=some ob→k'.ρ o=some (b,sh)→(grow k w w').fz b:=fun o ob b sh hgo hρ=>by
   by_cases hb:b<w.heap.size
   ·obtain⟨o',ob',sh',h,_⟩:=q3.live o ob b sh hgo hρ hb
    rw[hemp] at h;cases h
   ·exact .inr ⟨by omega,q2.Gp hgo hρ⟩
  let kf:K:=⟨k'.ρ,(grow k w w').fz,k'.sz⟩
  have a4:VR kf w' z v:=(MZ (h:=(h1.KV 0)) (k:=k') (k':=kf) (w:=w') ?_ rfl hfz' (fun o ob b sh g q=>hlive o ob b sh ((FQ h1 (show 0<BN by decide)) o ob g).2 q) m).1 y z v hz q1
  ·have a5:=Cl (k:=kf) (by show BJ k'.sz σ τ;rw[q3.sz];exact hC) z v a4
   have hrb:=M9 hσ (τ:=τ) (.ret z) c6
   simp only[Bu,Nj,Bool.and_eq_true] at hrb
   exact⟨_,w',fr,⟨v,rfl,⟨q3.os,q3.tape,q3.output,q3.size,same⟩,VR.bare (N:=0) (k:=kf) (k':=grow k w w') (fun o ho=>by omega) (fun _ h=>h) _ _ hrb.1 hrb.2 a5⟩,q4⟩
  ·have hx1:=FQ h1 (show 0<BN by decide)
   exact⟨fun o ob g=>q2.obj o ob (hx1 o ob g).2,fun o1 o2 ob1 ob2 b s1 s2 g1 g2=>q2.inj o1 o2 ob1 ob2 b s1 s2 (hx1 _ _ g1).2 (hx1 _ _ g2).2,fun o ob b sh g=>q2.nfz o ob b sh (hx1 _ _ g).2,fun o ho=>q2.fresh o (Nat.le_trans (Nat.le_of_eq (Jk h1 0).symm) ho),q2.lt⟩
end Go.Ab
namespace Go.Ab
open Go
mutual
def ren (π:Nat→Nat):AV→AV
 | .ptr o off=>.ptr (π o) off
 | .sl o off len sz cap=>.sl (π o) off len sz cap
 | .map o=>.map (π o)
 | .pptr cs off=>.pptr (Cu π cs) off
 | .psl cs len cap=>.psl (Cu π cs) len cap
 | .func fn a b=>.func fn (Cu π a) (Cu π b)
 | .iface t x=>.iface t (ren π x)
 | .agg cs=>.agg (Cu π cs)
 | .tup cs=>.tup (Cu π cs)
 | .one xs=>.one (Cu π xs)
 | x=>x
def Cu (π:Nat→Nat):List AV→List AV
 | []=>[]
 | x::xs=>ren π x::Cu π xs
end
def Mc (π:Nat→Nat):List (AV×AV×Nat)→List (AV×AV×Nat)
 | []=>[]
 | (x,y,n)::r=>(ren π x,ren π y,n)::Mc π r
def Km (π:Nat→Nat):AO→AO
 | .cells e cs=>.cells e (Cu π cs)
 | .map es c=>.map (Mc π es) c
 | x=>x
section
variable {k k0:K}{w:World}{N:Nat}{π:Nat→Nat}
mutual
theorem VR.Cw (hs:k0.sz=k.sz)(hρ:∀o,o<N→k0.ρ o=k.ρ (π o))(hz:∀b,k.fz b→k0.fz b):∀(x:AV) (v:Value),Az N x=true→VR k w (ren π x) v→VR k0 w x v
 | .any,_,_,_=>by simp only[VR]
 | .bool b,v,_,hv=>by simpa only[VR,ren] using hv
 | .int kd n,v,_,hv=>by simpa only[VR,ren] using hv
 | .str s,v,_,hv=>by simpa only[VR,ren] using hv
 | .nilp,v,_,hv=>by simpa only[VR,ren] using hv
 | .ptr o off,v,hp,hv=>by
  simp only[VR,ren] at hv ⊢
  rw[hρ o (Bb (by simpa only[Az] using hp))]
  exact hv
 | .pptr cells off,v,hp,hv=>by
  simp only[VR,ren] at hv ⊢
  simp only[Az] at hp
  obtain⟨b,sh,h1,h2,h3⟩:=hv
  exact⟨b,sh,h1,hz _ h2,VRC.Cw hs hρ hz b cells sh hp h3⟩
 | .nils,v,_,hv=>by simpa only[VR,ren] using hv
 | .sl o off len sz cap,v,hp,hv=>by
  simp only[VR,ren] at hv ⊢
  rw[hρ o (Bb (by simpa only[Az] using hp))]
  exact hv
 | .psl cells len cap,v,hp,hv=>by
  simp only[VR,ren] at hv ⊢
  simp only[Az] at hp
  obtain⟨b,sh,c,h1,h2,h3,h4,h5⟩:=hv
  exact⟨b,sh,c,h1,h2,h3,hz _ h4,VRC.Cw hs hρ hz b cells sh hp h5⟩
 | .emp,v,_,hv=>by simpa only[VR,ren] using hv
 | .nilm,v,_,hv=>by simpa only[VR,ren] using hv
 | .map o,v,hp,hv=>by
  simp only[VR,ren] at hv ⊢
  rw[hρ o (Bb (by simpa only[Az] using hp))]
  exact hv
 | .func fn first captured,v,hp,hv=>by
  cases fn<;>simp only[VR,ren] at hv ⊢<;>simp only[Az,Bool.and_eq_true] at hp
  case yield l=>cases hp
  all_goals
   obtain⟨fs,cs,h1,h2,h3⟩:=hv
   exact⟨fs,cs,h1,VRL.Cw hs hρ hz _ _ hp.1 h2,VRL.Cw hs hρ hz _ _ hp.2 h3⟩
 | .nilf,v,_,hv=>by simpa only[VR,ren] using hv
 | .iface t x,v,hp,hv=>by
  simp only[VR,ren] at hv ⊢
  simp only[Az] at hp
  obtain⟨y,h1,h2⟩:=hv
  exact⟨y,h1,VR.Cw hs hρ hz _ _ hp h2⟩
 | .nili,v,_,hv=>by simpa only[VR,ren] using hv
 | .agg cs,v,hp,hv=>by
  simp only[VR,ren] at hv ⊢
  simp only[Az] at hp
  obtain⟨vs,h1,h2⟩:=hv
  exact⟨vs,h1,VRL.Cw hs hρ hz _ _ hp h2⟩
 | .tup cs,v,hp,hv=>by
  simp only[VR,ren] at hv ⊢
  simp only[Az] at hp
  obtain⟨vs,h1,h2⟩:=hv
  exact⟨vs,h1,VRL.Cw hs hρ hz _ _ hp h2⟩
 | .raw x,v,_,hv=>by simpa only[VR,ren] using hv
 | .sel i,v,_,hv=>by
  simp only[VR,ren] at hv ⊢
  rw[hs]
  exact⟨(k.sz.sel i).mono _ _ _ _ v hz (fun _ _=>rfl) hv.1,hv.2⟩
 | .stok i,v,_,hv=>by
  simp only[VR,ren] at hv ⊢
  rw[hs]
  exact hv
 | .tok i,v,_,hv=>by
  simp only[VR,ren] at hv ⊢
  rw[hs]
  exact hv
 | .one xs,v,hp,hv=>by
  simp only[VR,ren] at hv ⊢
  simp only[Az] at hp
  exact⟨VRO.Cw hs hρ hz xs v hp hv.1,hv.2⟩
theorem VRO.Cw (hs:k0.sz=k.sz)(hρ:∀o,o<N→k0.ρ o=k.ρ (π o))(hz:∀b,k.fz b→k0.fz b):∀(xs:List AV) (v:Value),Bx N xs=true→VRO k w (Cu π xs) v→VRO k0 w xs v
 | [],_,_,hv=>by simp only[VRO,Cu] at hv
 | x::xs,v,hp,hv=>by
  simp only[VRO,Cu] at hv ⊢
  simp only[Bx,Bool.and_eq_true] at hp
  rcases hv with hv|hv
  ·exact .inl (VR.Cw hs hρ hz x v hp.1 hv)
  ·exact .inr (VRO.Cw hs hρ hz xs v hp.2 hv)
theorem VRL.Cw (hs:k0.sz=k.sz)(hρ:∀o,o<N→k0.ρ o=k.ρ (π o))(hz:∀b,k.fz b→k0.fz b):∀(xs:List AV) (vs:List Value),Bx N xs=true→VRL k w (Cu π xs) vs→VRL k0 w xs vs
 | [],vs,_,hv=>by simpa only[VRL,Cu] using hv
 | x::xs,vs,hp,hv=>by
  simp only[VRL,Cu] at hv ⊢
  simp only[Bx,Bool.and_eq_true] at hp
  obtain⟨v,vs',h1,h2,h3⟩:=hv
  exact⟨v,vs',h1,VR.Cw hs hρ hz x v hp.1 h2,VRL.Cw hs hρ hz xs vs' hp.2 h3⟩
theorem VRC.Cw (hs:k0.sz=k.sz)(hρ:∀o,o<N→k0.ρ o=k.ρ (π o))(hz:∀b,k.fz b→k0.fz b)(b:Nat):∀(xs:List AV) (i:Nat),Bx N xs=true→VRC k w b (Cu π xs) i→VRC k0 w b xs i
 | [],i,_,_=>by simp only[VRC]
 | x::xs,i,hp,hv=>by
  simp only[VRC,Cu] at hv ⊢
  simp only[Bx,Bool.and_eq_true] at hp
  obtain⟨⟨v,h1,h2⟩,h3⟩:=hv
  exact⟨⟨v,h1,VR.Cw hs hρ hz x v hp.1 h2⟩,VRC.Cw hs hρ hz b xs (i+1) hp.2 h3⟩
end
mutual
theorem VR.CK (hs:k0.sz=k.sz)(hρ:∀o,o<N→k0.ρ o=k.ρ (π o))(hz:∀b,k0.fz b→k.fz b):∀(x:AV) (v:Value),Az N x=true→VR k0 w x v→VR k w (ren π x) v
 | .any,_,_,_=>by simp only[VR,ren]
 | .bool b,v,_,hv=>by simpa only[VR,ren] using hv
 | .int kd n,v,_,hv=>by simpa only[VR,ren] using hv
 | .str s,v,_,hv=>by simpa only[VR,ren] using hv
 | .nilp,v,_,hv=>by simpa only[VR,ren] using hv
 | .ptr o off,v,hp,hv=>by
  simp only[VR,ren] at hv ⊢
  rw[←hρ o (Bb (by simpa only[Az] using hp))]
  exact hv
 | .pptr cells off,v,hp,hv=>by
  simp only[VR,ren] at hv ⊢
  simp only[Az] at hp
  obtain⟨b,sh,h1,h2,h3⟩:=hv
  exact⟨b,sh,h1,hz _ h2,VRC.CK hs hρ hz b cells sh hp h3⟩
 | .nils,v,_,hv=>by simpa only[VR,ren] using hv
 | .sl o off len sz cap,v,hp,hv=>by
  simp only[VR,ren] at hv ⊢
  rw[←hρ o (Bb (by simpa only[Az] using hp))]
  exact hv
 | .psl cells len cap,v,hp,hv=>by
  simp only[VR,ren] at hv ⊢
  simp only[Az] at hp
  obtain⟨b,sh,c,h1,h2,h3,h4,h5⟩:=hv
  exact⟨b,sh,c,h1,h2,h3,hz _ h4,VRC.CK hs hρ hz b cells sh hp h5⟩
 | .emp,v,_,hv=>by simpa only[VR,ren] using hv
 | .nilm,v,_,hv=>by simpa only[VR,ren] using hv
 | .map o,v,hp,hv=>by
  simp only[VR,ren] at hv ⊢
  rw[←hρ o (Bb (by simpa only[Az] using hp))]
  exact hv
 | .func fn first captured,v,hp,hv=>by
  cases fn<;>simp only[VR,ren] at hv ⊢<;>simp only[Az,Bool.and_eq_true] at hp
  case yield l=>cases hp
  all_goals
   obtain⟨fs,cs,h1,h2,h3⟩:=hv
   exact⟨fs,cs,h1,VRL.CK hs hρ hz _ _ hp.1 h2,VRL.CK hs hρ hz _ _ hp.2 h3⟩
 | .nilf,v,_,hv=>by simpa only[VR,ren] using hv
 | .iface t x,v,hp,hv=>by
  simp only[VR,ren] at hv ⊢
  simp only[Az] at hp
  obtain⟨y,h1,h2⟩:=hv
  exact⟨y,h1,VR.CK hs hρ hz _ _ hp h2⟩
 | .nili,v,_,hv=>by simpa only[VR,ren] using hv
 | .agg cs,v,hp,hv=>by
  simp only[VR,ren] at hv ⊢
  simp only[Az] at hp
  obtain⟨vs,h1,h2⟩:=hv
  exact⟨vs,h1,VRL.CK hs hρ hz _ _ hp h2⟩
 | .tup cs,v,hp,hv=>by
  simp only[VR,ren] at hv ⊢
  simp only[Az] at hp
  obtain⟨vs,h1,h2⟩:=hv
  exact⟨vs,h1,VRL.CK hs hρ hz _ _ hp h2⟩
 | .raw x,v,_,hv=>by simpa only[VR,ren] using hv
 | .sel i,v,_,hv=>by
  simp only[VR,ren] at hv ⊢
  rw[hs] at hv
  exact⟨(k.sz.sel i).mono _ _ _ _ v hz (fun _ _=>rfl) hv.1,hv.2⟩
 | .stok i,v,_,hv=>by
  simp only[VR,ren] at hv ⊢
  rw[hs] at hv
  exact hv
 | .tok i,v,_,hv=>by
  simp only[VR,ren] at hv ⊢
  rw[hs] at hv
  exact hv
 | .one xs,v,hp,hv=>by
  simp only[VR,ren] at hv ⊢
  simp only[Az] at hp
  exact⟨VRO.CK hs hρ hz xs v hp hv.1,hv.2⟩
theorem VRO.CK (hs:k0.sz=k.sz)(hρ:∀o,o<N→k0.ρ o=k.ρ (π o))(hz:∀b,k0.fz b→k.fz b):∀(xs:List AV) (v:Value),Bx N xs=true→VRO k0 w xs v→VRO k w (Cu π xs) v
 | [],_,_,hv=>by simp only[VRO] at hv
 | x::xs,v,hp,hv=>by
  simp only[VRO,Cu] at hv ⊢
  simp only[Bx,Bool.and_eq_true] at hp
  rcases hv with hv|hv
  ·exact .inl (VR.CK hs hρ hz x v hp.1 hv)
  ·exact .inr (VRO.CK hs hρ hz xs v hp.2 hv)
theorem VRL.CK (hs:k0.sz=k.sz)(hρ:∀o,o<N→k0.ρ o=k.ρ (π o))(hz:∀b,k0.fz b→k.fz b):∀(xs:List AV) (vs:List Value),Bx N xs=true→VRL k0 w xs vs→VRL k w (Cu π xs) vs
 | [],vs,_,hv=>by simpa only[VRL,Cu] using hv
 | x::xs,vs,hp,hv=>by
  simp only[VRL,Cu] at hv ⊢
  simp only[Bx,Bool.and_eq_true] at hp
  obtain⟨v,vs',h1,h2,h3⟩:=hv
  exact⟨v,vs',h1,VR.CK hs hρ hz x v hp.1 h2,VRL.CK hs hρ hz xs vs' hp.2 h3⟩
theorem VRC.CK (hs:k0.sz=k.sz)(hρ:∀o,o<N→k0.ρ o=k.ρ (π o))(hz:∀b,k0.fz b→k.fz b)(b:Nat):∀(xs:List AV) (i:Nat),Bx N xs=true→VRC k0 w b xs i→VRC k w b (Cu π xs) i
 | [],i,_,_=>by simp only[VRC,Cu]
 | x::xs,i,hp,hv=>by
  simp only[VRC,Cu] at hv ⊢
  simp only[Bx,Bool.and_eq_true] at hp
  obtain⟨⟨v,h1,h2⟩,h3⟩:=hv
  exact⟨⟨v,h1,VR.CK hs hρ hz x v hp.1 h2⟩,VRC.CK hs hρ hz b xs (i+1) hp.2 h3⟩
end
theorem EK:∀cs:List AV,(Cu π cs).length=cs.length
 | []=>rfl
 | x::xs=>by simp only[Cu,List.length_cons,EK xs]
theorem Mh:∀(cs:List AV) (i:Nat),(Cu π cs)[i]?=(cs[i]?).map (ren π)
 | [],i=>by simp[Cu]
 | x::xs,0=>by simp[Cu]
 | x::xs,i+1=>by simp only[Cu,List.getElem?_cons_succ];exact Mh xs i
theorem MR.Cw (hs:k0.sz=k.sz)(hρ:∀o,o<N→k0.ρ o=k.ρ (π o))(hz:∀b,k.fz b→k0.fz b):∀{es:List (AV×AV×Nat)} {AB:List MapEntry},DP N es=true→MR k w (Mc π es) AB→MR k0 w es AB
 | [],_,_,hm=>by simpa only[MR,Mc] using hm
 | (x,y,n)::r,_,hl,hm=>by
  simp only[DP,Bool.and_eq_true] at hl
  simp only[MR,Mc] at hm ⊢
  obtain⟨e,es',h1,h2,h3,h4,h5⟩:=hm
  exact⟨e,es',h1,VR.Cw hs hρ hz _ _ hl.1 h2,VR.Cw hs hρ hz _ _ hl.2.1 h3,h4,MR.Cw hs hρ hz hl.2.2 h5⟩
theorem MR.CK (hs:k0.sz=k.sz)(hρ:∀o,o<N→k0.ρ o=k.ρ (π o))(hz:∀b,k0.fz b→k.fz b):∀{es:List (AV×AV×Nat)} {AB:List MapEntry},DP N es=true→MR k0 w es AB→MR k w (Mc π es) AB
 | [],_,_,hm=>by simpa only[MR,Mc] using hm
 | (x,y,n)::r,_,hl,hm=>by
  simp only[DP,Bool.and_eq_true] at hl
  simp only[MR,Mc] at hm ⊢
  obtain⟨e,es',h1,h2,h3,h4,h5⟩:=hm
  exact⟨e,es',h1,VR.CK hs hρ hz _ _ hl.1 h2,VR.CK hs hρ hz _ _ hl.2.1 h3,h4,MR.CK hs hρ hz hl.2.2 h5⟩
theorem ObR.Cw (hs:k0.sz=k.sz)(hρ:∀o,o<N→k0.ρ o=k.ρ (π o))(hz:∀b,k.fz b→k0.fz b){b sh:Nat} : ∀{ob:AO},GZ ob=true→KU N ob=true→Om k.sz→ObR k w b sh (Km π ob)→ObR k0 w b sh ob
 | .cells e cs,_,hl,_,hO=>by
  obtain⟨arr,fr,a1,a2,a3,a4,a5⟩:=hO
  rw[EK] at a2
  refine⟨arr,fr,a1,a2,fun i x hi=>?_,by rw[hs];exact a4,a5⟩
  obtain⟨v,v1,v2⟩:=a3 i (ren π x) (by rw[Mh,hi];rfl)
  exact⟨v,v1,VR.Cw hs hρ hz x v (Jt hl x (List.mem_of_getElem? hi)) v2⟩
 | .map es cl,_,hl,_,hO=>by
  obtain⟨h0,AB,c,h1,h2⟩:=hO
  exact⟨h0,AB,c,h1,MR.Cw hs hρ hz hl h2⟩
 | .opq i,_,_,hm,hO=>by
  obtain⟨h0,AB,c,h1,h2⟩:=hO
  exact⟨h0,AB,c,h1,by rw[hs];exact MR.low (N:=0) hs (fun o ho=>by omega) hz (hm i) h2⟩
 | .siter s p,h,_,_,hO=>by cases h
 | .dfr on,h,_,_,hO=>by cases h
 | .loop ..,h,_,_,_=>by cases h
theorem ObR.CK (hs:k0.sz=k.sz)(hρ:∀o,o<N→k0.ρ o=k.ρ (π o))(hz:∀b,k0.fz b→k.fz b){b sh:Nat} : ∀{ob:AO},GZ ob=true→KU N ob=true→Om k.sz→ObR k0 w b sh ob→ObR k w b sh (Km π ob)
 | .cells e cs,_,hl,_,hO=>by
  obtain⟨arr,fr,a1,a2,a3,a4,a5⟩:=hO
  refine⟨arr,fr,a1,by rw[EK];exact a2,fun i x hi=>?_,by rw[←hs];exact a4,a5⟩
  rw[Mh] at hi
  cases hc:cs[i]? with
  | none=>rw[hc] at hi;cases hi
  | some y=>
   rw[hc] at hi
   cases hi
   obtain⟨v,v1,v2⟩:=a3 i y hc
   exact⟨v,v1,VR.CK hs hρ hz y v (Jt hl y (List.mem_of_getElem? hc)) v2⟩
 | .map es cl,_,hl,_,hO=>by
  obtain⟨h0,AB,c,h1,h2⟩:=hO
  exact⟨h0,AB,c,h1,MR.CK hs hρ hz hl h2⟩
 | .opq i,_,_,hm,hO=>by
  obtain⟨h0,AB,c,h1,h2⟩:=hO
  rw[hs] at h2
  exact⟨h0,AB,c,h1,MR.low (N:=0) hs.symm (fun o ho=>by omega) hz (hm i) h2⟩
 | .siter s p,h,_,_,hO=>by cases h
 | .dfr on,h,_,_,hO=>by cases h
 | .loop ..,h,_,_,_=>by cases h
end
theorem CR.low {k k':K}{w:World}(hs:k'.sz=k.sz)(hz:∀b,k.fz b→k'.fz b):∀{ch:List (AV×Bool)} {c:List PanicEntry},ch.all (fun p=>DN p.1&&Az 0 p.1)=true→CR k w ch c→CR k' w ch c
 | [],c,_,h=>by simpa only[CR] using h
 | (x,r)::rest,c,hp,h=>by
  simp only[List.all_cons,Bool.and_eq_true] at hp
  simp only[CR] at h ⊢
  obtain⟨e,c',h1,h2,h3,h4,h5⟩:=h
  exact⟨e,c',h1,VR.low (N:=0) hs (fun o ho=>by omega) hz _ _ hp.1.2 h2,h3,h4,CR.low hs hz (by simpa using hp.2) h5⟩
theorem Ng {N:Nat} : ∀{l:OL},(∀p∈l,p.1<BN)→(l.map (·.1)).Nodup→∀p∈l,(B5 N l).get p.1=some p.2
 | [],_,_,p,hp=>by cases hp
 | q::r,hl,hn,p,hp=>by
  simp only[List.map_cons,List.nodup_cons] at hn
  rw[show B5 N (q::r)=(B5 N r).set q.1 (some q.2) from rfl,AH.B0 _ _ _ _ (hl q (by simp))]
  rcases List.mem_cons.1 hp with rfl|hp
  ·rw[if_pos rfl]
  ·have:p.1≠q.1:=fun e=>hn.1 (by rw[←e];exact List.mem_map_of_mem (f:=(·.1)) hp)
   rw[if_neg this]
   exact Ng (fun x hx=>hl x (List.mem_cons_of_mem _ hx)) hn.2 p hp
def Sk (π:Nat→Nat)(l:OL):OL:=l.map fun p=>(π p.1,Km π p.2)
def Lo (π:Nat→Nat)(u:UL):UL:=u.map fun p=>(π p.1,p.2.map (Km π))
theorem K7.at {P:Program}{E:Env}(hGb:Fk E)(hMp:∀i,DP 0 (E.mp i)=true){N:Nat}{f:FuncId}{args:List AV}{l:OL}{res:AM}{u:UL}(hm:K7 P E N f args l res u)(hf:BH N args l res u=true){π:Nat→Nat}
 (inj:∀p∈l,∀q∈l,π p.1=π q.1→p.1=q.1) {k:K} {h:AH} {w:World} {vs:Array Value} (hk:k.sz=⟨P.cellsOf,E.sel,E.tok,E.str,E.mp⟩) (hr:HR k h w) (hg:B1 E k w)
 (hsub:∀p∈l,h.get (π p.1)=some (Km π p.2)) (hlim:∀p∈l,π p.1<BN) (hv:VRL k w (Cu π args) vs.toList):CS P k h w res (h.upd (Lo π u)) ((callFunc f vs).run P w):=by
 have hmp:Om k.sz:=fun i=>by rw[hk];exact hMp i
 unfold BH at hf
 simp only[Bool.and_eq_true] at hf
 obtain⟨f1,f2,f3,f4,f5,f6,f7⟩:=hf
 have f3:=Bb f3
 have f6:=Gj f6
 obtain⟨i1,i2⟩:=GY f4
 have il:∀p∈l,p.1<BN:=fun p hp=>Nat.lt_trans (i2 p hp).1 f3
 have um:∀p∈u,∃q∈l,q.1=p.1:=fun p hp=>by
  have:p.1∈u.map (·.1):=List.mem_map_of_mem hp
  rw[i1] at this
  obtain⟨q,hq,e⟩:=List.mem_map.1 this
  exact⟨q,hq,e⟩
 have lm:∀q∈l,∃p∈u,p.1=q.1:=fun q hq=>by
  have:q.1∈l.map (·.1):=List.mem_map_of_mem hq
  rw[←i1] at this
  obtain⟨p,hp,e⟩:=List.mem_map.1 this
  exact⟨p,hp,e⟩
 have iu:∀p∈u,p.1<BN:=fun p hp=>by
  obtain⟨q,hq,e⟩:=um p hp
  rw[←e]
  exact il q hq
 have iru:∀p∈Lo π u,p.1<BN:=fun p hp=>by
  obtain⟨q,hq,e⟩:=List.mem_map.1 hp
  obtain⟨q2,hq2,e2⟩:=um q hq
  rw[←e]
  show π q.1<BN
  rw[←e2]
  exact hlim q2 hq2
 let K0:K:=⟨fun j=>if j<N then k.ρ (π j) else none,k.fz,k.sz⟩
 have hK0:∀o,o<N→K0.ρ o=k.ρ (π o):=fun o ho=>by show(if o<N then k.ρ (π o) else none)=_;rw[if_pos ho]
 have hmem:∀{o ob},(B5 N l).get o=some ob→(o,ob)∈l:=fun g=>Fv il g
 have hr0:HR K0 (B5 N l) w:=by
  refine⟨fun o ob g=>?_,fun o1 o2 ob1 ob2 b s1 s2 g1 g2 q1 q2=>?_,fun o ob b sh g q=>?_,fun o ho=>?_,hr.lt⟩
  ·have q:=i2 _ (hmem g)
   obtain⟨b,sh,q1,hO⟩:=hr.obj (π o) _ (hsub _ (hmem g))
   exact⟨b,sh,by rw[hK0 o q.1];exact q1,ObR.Cw (k:=k) (k0:=K0) rfl hK0 (fun _ h=>h) q.2.1 q.2.2 hmp hO⟩
  ·rw[hK0 o1 (i2 _ (hmem g1)).1] at q1
   rw[hK0 o2 (i2 _ (hmem g2)).1] at q2
   exact inj _ (hmem g1) _ (hmem g2) (hr.inj _ _ _ _ b s1 s2 (hsub _ (hmem g1)) (hsub _ (hmem g2)) q1 q2)
  ·rw[hK0 o (i2 _ (hmem g)).1] at q
   exact hr.nfz (π o) _ b sh (hsub _ (hmem g)) q
  ·rw[EI] at ho
   show(if o<N then k.ρ (π o) else none)=none
   rw[if_neg (by omega)]
 have hg0:B1 E K0 w:=fun g cells hc=>⟨(hg g cells hc).1,VRC.bare (N:=0) (k:=k) (k':=K0) (fun o ho=>by omega) (fun _ h=>h) g cells 0 (hGb g cells hc).1 (hGb g cells hc).2 (hg g cells hc).2.1,(hg g cells hc).2.2⟩
 obtain⟨nx,w1,e,hc⟩:=hm K0 (B5 N l) w vs hk hr0 hg0 (Ng il f6) (Nat.le_of_eq (EI N l).symm) (VRL.Cw (k:=k) (k0:=K0) rfl hK0 (fun _ h=>h) args vs.toList f2 hv)
 have back:∀{k1:K} {w2:World},HR k1 ((B5 N l).upd u) w2→Ev K0 k1 (B5 N l) ((B5 N l).upd u) w w2→HR ⟨k.ρ,k1.fz,k.sz⟩ (h.upd (Lo π u)) w2∧Ev k ⟨k.ρ,k1.fz,k.sz⟩ h (h.upd (Lo π u)) w w2:=by
  intro k1 w2 r1 e1
  have hk1:∀o,o<N→k1.ρ o=k.ρ (π o):=fun o ho=>(e1.keep o (by rw[EI];exact ho)).trans (hK0 o ho)
  have sz1:k1.sz=k.sz:=e1.sz
  have same:∀b,b<w.heap.size→(∀p∈l,∀sh,k.ρ (π p.1)≠some (b,sh))→w2.heap[b]?=w.heap[b]?:=fun b hb hne=>e1.same b hb fun o ob sh g q=>by
   rw[hK0 o (i2 _ (hmem g)).1] at q
   exact hne _ (hmem g) sh q
  have cls:∀{o ob},(h.upd (Lo π u)).get o=some ob→(∃o2 ob2,(o2,some ob2)∈u∧o=π o2∧ob=Km π ob2)∨(h.get o=some ob∧∀p∈l,π p.1≠o):=fun {o ob} g=>by
   rcases LA iru g with g|⟨g,g2⟩
   ·obtain⟨⟨o2,x⟩,hm2,e2⟩:=List.mem_map.1 g
    simp only[Prod.mk.injEq] at e2
    obtain⟨rfl,e2⟩:=e2
    cases x with
    | none=>cases e2
    | some ob2=>
     simp only[Option.map_some,Option.some.injEq] at e2
     exact .inl ⟨o2,ob2,hm2,rfl,e2.symm⟩
   ·refine .inr ⟨g,fun p hp e2=>g2 ?_⟩
    obtain⟨q,hq,e3⟩:=lm p hp
    rw[←e2,←e3]
    exact List.mem_map.2 ⟨(π q.1,q.2.map (Km π)),List.mem_map_of_mem (f:=fun p:Nat×Option AO=>(π p.1,p.2.map (Km π))) hq,rfl⟩
  have was:∀{o ob},(h.upd (Lo π u)).get o=some ob→∃ob',h.get o=some ob':=fun {o ob} g=>by
   rcases cls g with⟨o2,ob2,hm2,rfl,rfl⟩|⟨g,_⟩
   ·obtain⟨q,hq,e3⟩:=um _ hm2
    have e3:q.1=o2:=e3
    exact⟨_,by rw[←e3];exact hsub q hq⟩
   ·exact⟨_,g⟩
  have nl:∀{o ob b sh},h.get o=some ob→(∀p∈l,π p.1≠o)→k.ρ o=some (b,sh)→∀p∈l,∀sh2,k.ρ (π p.1)≠some (b,sh2):=fun {o ob b sh} g hne q p hp sh2 q2=>hne p hp (hr.inj _ _ _ _ b sh2 sh (hsub p hp) g q2 q)
  have uget:∀{o2 ob2},(o2,some ob2)∈u→((B5 N l).upd u).get o2=some ob2∧o2<N∧GZ ob2=true∧KU N ob2=true:=fun {o2 ob2} hm2=>by
   have:=List.all_eq_true.1 f7 _ hm2
   simp only[Bool.and_eq_true] at this
   obtain⟨q,hq,e3⟩:=um _ hm2
   have hN:=(i2 q hq).1
   have e3:q.1=o2:=e3
   rw[e3] at hN
   exact⟨Mr iu (by rw[i1];exact f6) _ hm2,hN,this.1,this.2⟩
  have le:Le k ⟨k.ρ,k1.fz,k.sz⟩ w w2:=⟨rfl,fun _ _ h=>h,e1.fz,fun b hf=>same b (hr.lt b hf) (fun p hp sh q=>hr.nfz _ _ b sh (hsub p hp) q hf),e1.shape⟩
  refine⟨⟨fun o ob g=>?_,fun o1 o2 ob1 ob2 b s1 s2 g1 g2 q1 q2=>?_,fun o ob b sh g q hf=>?_,fun o ho=>hr.fresh o (by rw[←Ge h (Lo π u)];exact ho),r1.lt⟩,
   ⟨rfl,e1.os,e1.tape,e1.output,e1.size,fun b hb hno=>same b hb fun p hp sh q=>hno _ _ sh (hsub p hp) q,e1.shape,fun _ _ h=>h,e1.fz,fun o ob b sh g q _=>?_,Nat.le_of_eq (Ge h _).symm,fun _ _=>rfl,fun b hb hf=>?_⟩⟩
  ·rcases cls g with⟨o2,ob2,hm2,rfl,rfl⟩|⟨g,hne⟩
   ·obtain⟨g2,hN,hb2,hl2⟩:=uget hm2
    obtain⟨b,sh,q,hO⟩:=r1.obj o2 ob2 g2
    rw[hk1 o2 hN] at q
    exact⟨b,sh,q,ObR.CK (k:=⟨k.ρ,k1.fz,k.sz⟩) (k0:=k1) sz1 hk1 (fun _ h=>h) hb2 hl2 hmp hO⟩
   ·obtain⟨b,sh,q,hO⟩:=hr.obj o ob g
    exact⟨b,sh,q,hO.mono le (same b hO.lt (nl g hne q))⟩
  ·obtain⟨_,g3⟩:=was g1
   obtain⟨_,g4⟩:=was g2
   exact hr.inj _ _ _ _ _ _ _ g3 g4 q1 q2
  ·rcases cls g with⟨o2,ob2,hm2,rfl,rfl⟩|⟨g,hne⟩
   ·obtain⟨g2,hN,_,_⟩:=uget hm2
    exact r1.nfz o2 ob2 b sh g2 (by rw[hk1 o2 hN];exact q) hf
   ·rcases e1.nfz b (hr.Gp g q) hf with h2|⟨o2,ob2,sh2,g2,q2⟩
    ·exact hr.nfz o ob b sh g q h2
    ·rw[hK0 o2 (i2 _ (hmem g2)).1] at q2
     exact nl g hne q _ (hmem g2) sh2 q2
  ·obtain⟨ob',g2⟩:=was g
   exact⟨o,ob',sh,g2,q⟩
  ·rcases e1.nfz b hb hf with h2|⟨o2,ob2,sh2,g2,q2⟩
   ·exact .inl h2
   ·rw[hK0 o2 (i2 _ (hmem g2)).1] at q2
    exact .inr ⟨_,_,sh2,hsub _ (hmem g2),q2⟩
 refine⟨nx,w1,e,?_⟩
 rcases hc with⟨x',v,k1,e2,e3,g1,g2,g3⟩|⟨fr0,hs0,hf⟩
 ·obtain⟨a,b⟩:=back g2 g3
  subst e2
  simp only[Eh,Bool.and_eq_true] at f5
  exact .inl ⟨x',v,_,rfl,e3,VR.low (N:=0) (k:=k1) (k':=⟨k.ρ,k1.fz,k.sz⟩) g3.sz.symm (fun o ho=>by omega) (fun _ h=>h) _ _ f5.2 g1,a,b⟩
 ·refine .inr ⟨fr0,hs0,fun caller cs=>?_⟩
  obtain⟨k1,w2,g1,g2,g3⟩:=hf caller cs
  obtain⟨a,b⟩:=back g1 g2
  refine⟨_,w2,a,b,?_⟩
  cases res with
  | ret x=>
   obtain⟨v,q1,q2⟩:=g3
   simp only[Eh,Bool.and_eq_true] at f5
   exact⟨v,VR.low (N:=0) (k:=k1) (k':=⟨k.ρ,k1.fz,k.sz⟩) g2.sz.symm (fun o ho=>by omega) (fun _ h=>h) _ _ f5.2 q1,q2⟩
  | pan ch=>
   obtain⟨c,q1,q2⟩:=g3
   exact⟨c,CR.low (k:=k1) (k':=⟨k.ρ,k1.fz,k.sz⟩) g2.sz.symm (fun _ h=>h) f5 q1,q2⟩
structure US where
 π:List (Nat×Nat)
 ids:List Nat
def Hj:List (Nat×Nat)→Nat→Option Nat
 | [],_=>none
 | p::r,o=>bif Nat.beq p.1 o then some p.2 else Hj r o
def US.bind (s:US)(o o':Nat):Option US:=
 match Hj s.π o with
 | some x=>bif Nat.beq x o' then some s else none
 | none=>some ⟨(o,o')::s.π,s.ids⟩
def Sf (told act:Option Nat):Bool:=
 match told with
 | none=>true
 | some n=>match act with
  | some m=>Nat.beq n m
  | none=>false
def P8 (t a:AV)(s:US):Option US:=bif GF t a then some s else none
mutual
def DD (h:AH):AV→AV→US→Option US
 | .any,_,s=>some s
 | .ptr o off,a,s=>match a with
  | .ptr o' off'=>bif Nat.beq off off' then s.bind o o' else none
  | _=>none
 | .map o,a,s=>match a with
  | .map o'=>s.bind o o'
  | _=>none
 | .sl o off len sz cap,a,s=>match a with
  | .sl o' off' len' sz' cap'=>bif Nat.beq off off'&&(Nat.beq len len'&&(Nat.beq sz sz'&&Sf cap cap')) then s.bind o o' else none
  | _=>none
 | .psl cs len cap,a,s=>match a with
  | .psl cs' len' cap'=>bif Nat.beq len len'&&Sf cap cap' then JM h cs cs' s else none
  | .sl o off len' _ cap'=>bif Nat.beq len len'&&Sf cap cap' then(match h.get o with
   | some (.cells _ cs')=>JM h cs (cs'.drop off) ⟨s.π,o::s.ids⟩
   | _=>none) else none
  | _=>none
 | .pptr cs off,a,s=>match a with
  | .pptr cs' off'=>bif Nat.beq off off' then JM h cs cs' s else none
  | .ptr o off'=>bif Nat.beq off off' then(match h.get o with
   | some (.cells _ cs')=>JM h cs cs' ⟨s.π,o::s.ids⟩
   | _=>none) else none
  | _=>none
 | .emp,a,s=>match a with
  | .emp=>some s
  | .nils=>some s
  | .psl _ len _=>bif Nat.beq len 0 then some s else none
  | .sl _ _ len _ _=>bif Nat.beq len 0 then some s else none
  | _=>none
 | .agg cs,a,s=>match a with
  | .agg cs'=>bif Nat.beq cs.length cs'.length then JM h cs cs' s else none
  | _=>none
 | .tup cs,a,s=>match a with
  | .tup cs'=>bif Nat.beq cs.length cs'.length then JM h cs cs' s else none
  | _=>none
 | .iface t x,a,s=>match a with
  | .iface t' x'=>bif Nat.beq t t' then DD h x x' s else none
  | _=>none
 | .func (.func f) p q,a,s=>match a with
  | .func (.func f') p' q'=>bif Nat.beq f f'&&(Nat.beq p.length p'.length&&Nat.beq q.length q'.length) then(match JM h p p' s with
   | some s1=>JM h q q' s1
   | none=>none) else none
  | _=>none
 | .func _ _ _,_,_=>none
 | .one _,_,_=>none
 | .raw _,_,_=>none
 | t,a,s=>P8 t a s
def JM (h:AH):List AV→List AV→US→Option US
 | [],_,s=>some s
 | x::xs,l,s=>match l with
  | y::ys=>(match DD h x y s with
   | some s1=>JM h xs ys s1
   | none=>none)
  | []=>none
end
structure US.Le (s s':US):Prop where
 π:∀o x,Hj s.π o=some x→Hj s'.π o=some x
 ids:∀i∈s.ids,i∈s'.ids
theorem US.Le.refl (s:US):US.Le s s:=⟨fun _ _ h=>h,fun _ h=>h⟩
theorem US.Le.trans {a b c:US}(h:US.Le a b)(g:US.Le b c):US.Le a c:=⟨fun o x q=>g.π o x (h.π o x q),fun i q=>g.ids i (h.ids i q)⟩
def US.fn (s:US)(o:Nat):Nat:=(Hj s.π o).getD 0
theorem US.Py {s s':US}{o o':Nat}(h:s.bind o o'=some s'):US.Le s s'∧Hj s'.π o=some o':=by
 unfold US.bind at h
 split at h
 ·rename_i x hx
  obtain⟨h1,h2⟩:=Ap h
  cases h2
  have:=Nat.eq_of_beq_eq_true h1
  subst this
  exact⟨US.Le.refl _,hx⟩
 ·rename_i hx
  cases h
  refine⟨⟨fun p x q=>?_,fun _ h=>h⟩,by simp[Hj]⟩
  unfold Hj
  cases hb:Nat.beq o p with
  | false=>exact q
  | true=>
   have:=Nat.eq_of_beq_eq_true hb
   subst this
   rw[hx] at q
   cases q
theorem US.Zp {s s':US}{o o':Nat}(h:Hj s.π o=some o')(hl:US.Le s s'):s'.fn o=o':=by
 unfold US.fn
 rw[hl.π _ _ h]
 rfl
section
variable {k k1:K}{h:AH}{w:World}{sf:US}
theorem Mw (hr:HR k h w){o:Nat}{e:TypeId}{cs:List AV}(hg:h.get o=some (.cells e cs)){b sh:Nat}(hρ:k.ρ o=some (b,sh))(off:Nat):VRC k w b (cs.drop off) (sh+off):=by
 obtain⟨b',sh',h3,arr,fr,h4,h5,h6,h7⟩:=hr.obj o _ hg
 rw[hρ] at h3
 cases h3
 refine VRC.Dg fun i x hx=>?_
 rw[List.getElem?_drop] at hx
 obtain⟨u,q1,q2⟩:=h6 _ x hx
 exact⟨u,by rw[←Nat.add_assoc] at q1;simp[World.cell?,h4,q1],q2⟩
theorem M5 {cap cap':Option Nat}{c:Nat}(h:Sf cap cap'=true)(hc:∀n,cap'=some n→c=n):∀n,cap=some n→c=n:=by
 intro n hn
 subst hn
 unfold Sf at h
 cases cap' with
 | none=>cases h
 | some m=>exact(hc m rfl).trans (Nat.eq_of_beq_eq_true h).symm
theorem Eb (le:Le k k1 w w){t a:AV}{s s':US}(he:P8 t a s=some s')(ht:ren sf.fn t=t):US.Le s s'∧(US.Le s' sf→∀v,VR k w a v→VR k1 w (ren sf.fn t) v):=by
 unfold P8 at he
 obtain⟨h1,h2⟩:=Ap he
 cases h2
 rw[Ec] at h1
 have:=Eo _ _ h1
 subst this
 exact⟨US.Le.refl _,fun _ v hv=>by rw[ht];exact VR.mono le _ _ hv⟩
mutual
theorem JP (hr:HR k h w)(hρ:k1.ρ=k.ρ)(hs:k1.sz=k.sz)(le:Le k k1 w w)(hf:∀o ob b sh,o∈sf.ids→h.get o=some ob→k.ρ o=some (b,sh)→k1.fz b) :
 ∀(t a:AV) (s s':US),DD h t a s=some s'→US.Le s s'∧(US.Le s' sf→∀v,VR k w a v→VR k1 w (ren sf.fn t) v)
 | .any,a,s,s',he=>by
  simp only[DD,Option.some.injEq] at he
  subst he
  exact⟨US.Le.refl _,fun _ v _=>by simp only[ren,VR]⟩
 | .ptr o off,a,s,s',he=>by
  simp only[DD] at he
  split at he
  case h_2=>cases he
  obtain⟨h1,h2⟩:=Ap he
  have:=Nat.eq_of_beq_eq_true h1
  subst this
  obtain⟨g1,g2⟩:=US.Py h2
  refine⟨g1,fun hl v hv=>?_⟩
  simp only[ren,VR] at hv ⊢
  rw[US.Zp g2 hl,hρ]
  exact hv
 | .map o,a,s,s',he=>by
  simp only[DD] at he
  split at he
  case h_2=>cases he
  obtain⟨g1,g2⟩:=US.Py he
  refine⟨g1,fun hl v hv=>?_⟩
  simp only[ren,VR] at hv ⊢
  rw[US.Zp g2 hl,hρ]
  exact hv
 | .sl o off len sz cap,a,s,s',he=>by
  simp only[DD] at he
  split at he
  case h_2=>cases he
  obtain⟨h1,h2⟩:=Ap he
  simp only[Bool.and_eq_true] at h1
  obtain⟨c1,c2,c3,c4⟩:=h1
  have c1:=Nat.eq_of_beq_eq_true c1
  have c2:=Nat.eq_of_beq_eq_true c2
  have c3:=Nat.eq_of_beq_eq_true c3
  subst c1 c2 c3
  obtain⟨g1,g2⟩:=US.Py h2
  refine⟨g1,fun hl v hv=>?_⟩
  simp only[ren,VR] at hv ⊢
  rw[US.Zp g2 hl,hρ]
  obtain⟨b,sh,c,arr,e,fr,q1,q2,q3,q4,q5⟩:=hv
  exact⟨b,sh,c,arr,e,fr,q1,q2,q3,M5 c4 q4,q5⟩
 | .psl cs len cap,a,s,s',he=>by
  simp only[DD] at he
  split at he
  case h_3=>cases he
  ·obtain⟨h1,h2⟩:=Ap he
   simp only[Bool.and_eq_true] at h1
   have c1:=Nat.eq_of_beq_eq_true h1.1
   subst c1
   obtain⟨g1,g2⟩:=D5 hr hρ hs le hf cs _ _ _ h2
   refine⟨g1,fun hl v hv=>?_⟩
   simp only[ren,VR] at hv ⊢
   obtain⟨b,sh,c,q1,q2,q3,q4,q5⟩:=hv
   exact⟨b,sh,c,q1,q2,M5 h1.2 q3,le.fz _ q4,(g2 hl).2 b sh q5⟩
  ·obtain⟨h1,h2⟩:=Ap he
   simp only[Bool.and_eq_true] at h1
   have c1:=Nat.eq_of_beq_eq_true h1.1
   subst c1
   split at h2
   case h_2=>cases h2
   rename_i o off sz cap' _ e cs' hg
   obtain⟨g1,g2⟩:=D5 hr hρ hs le hf cs _ _ _ h2
   refine⟨⟨g1.π,fun i hi=>g1.ids i (List.mem_cons_of_mem _ hi)⟩,fun hl v hv=>?_⟩
   simp only[ren,VR] at hv ⊢
   obtain⟨b,sh,c,arr,e,fr,q1,q2,q3,q4,q5⟩:=hv
   exact⟨b,sh+off,c,q2,q3,M5 h1.2 q4,hf o _ b sh (hl.ids _ (g1.ids _ (by simp))) hg q1,(g2 hl).2 b _ (Mw hr hg q1 off)⟩
 | .pptr cs off,a,s,s',he=>by
  simp only[DD] at he
  split at he
  case h_3=>cases he
  ·obtain⟨h1,h2⟩:=Ap he
   have c1:=Nat.eq_of_beq_eq_true h1
   subst c1
   obtain⟨g1,g2⟩:=D5 hr hρ hs le hf cs _ _ _ h2
   refine⟨g1,fun hl v hv=>?_⟩
   simp only[ren,VR] at hv ⊢
   obtain⟨b,sh,q1,q4,q5⟩:=hv
   exact⟨b,sh,q1,le.fz _ q4,(g2 hl).2 b sh q5⟩
  ·obtain⟨h1,h2⟩:=Ap he
   have c1:=Nat.eq_of_beq_eq_true h1
   subst c1
   split at h2
   case h_2=>cases h2
   rename_i o _ e cs' hg
   obtain⟨g1,g2⟩:=D5 hr hρ hs le hf cs _ _ _ h2
   refine⟨⟨g1.π,fun i hi=>g1.ids i (List.mem_cons_of_mem _ hi)⟩,fun hl v hv=>?_⟩
   simp only[ren,VR] at hv ⊢
   obtain⟨b,sh,q1,q2⟩:=hv
   exact⟨b,sh,q2,hf o _ b sh (hl.ids _ (g1.ids _ (by simp))) hg q1,(g2 hl).2 b _ (by have:=Mw hr hg q1 0;simpa using this)⟩
 | .emp,a,s,s',he=>by
  simp only[DD] at he
  split at he
  case h_5=>cases he
  ·cases he
   exact⟨US.Le.refl _,fun _ v hv=>by simpa only[ren,VR] using hv⟩
  ·cases he
   refine⟨US.Le.refl _,fun _ v hv=>?_⟩
   simp only[ren,VR] at hv ⊢
   exact⟨none,0,hv,fun _=>rfl⟩
  ·obtain⟨h1,h2⟩:=Ap he
   cases h2
   have c1:=Nat.eq_of_beq_eq_true h1
   subst c1
   refine⟨US.Le.refl _,fun _ v hv=>?_⟩
   simp only[ren,VR] at hv ⊢
   obtain⟨b,sh,c,q1,_⟩:=hv
   exact⟨_,c,q1,nofun⟩
  ·obtain⟨h1,h2⟩:=Ap he
   cases h2
   have c1:=Nat.eq_of_beq_eq_true h1
   subst c1
   refine⟨US.Le.refl _,fun _ v hv=>?_⟩
   simp only[ren,VR] at hv ⊢
   obtain⟨b,sh,c,_,_,_,_,q1,_⟩:=hv
   exact⟨_,c,q1,nofun⟩
 | .agg cs,a,s,s',he=>by
  simp only[DD] at he
  split at he
  case h_2=>cases he
  obtain⟨h1,h2⟩:=Ap he
  have c1:=Nat.eq_of_beq_eq_true h1
  obtain⟨g1,g2⟩:=D5 hr hρ hs le hf cs _ _ _ h2
  refine⟨g1,fun hl v hv=>?_⟩
  simp only[ren,VR] at hv ⊢
  obtain⟨vs,q1,q2⟩:=hv
  exact⟨vs,q1,(g2 hl).1 _ c1 q2⟩
 | .tup cs,a,s,s',he=>by
  simp only[DD] at he
  split at he
  case h_2=>cases he
  obtain⟨h1,h2⟩:=Ap he
  have c1:=Nat.eq_of_beq_eq_true h1
  obtain⟨g1,g2⟩:=D5 hr hρ hs le hf cs _ _ _ h2
  refine⟨g1,fun hl v hv=>?_⟩
  simp only[ren,VR] at hv ⊢
  obtain⟨vs,q1,q2⟩:=hv
  exact⟨vs,q1,(g2 hl).1 _ c1 q2⟩
 | .iface t x,a,s,s',he=>by
  simp only[DD] at he
  split at he
  case h_2=>cases he
  obtain⟨h1,h2⟩:=Ap he
  have c1:=Nat.eq_of_beq_eq_true h1
  subst c1
  obtain⟨g1,g2⟩:=JP hr hρ hs le hf x _ _ _ h2
  refine⟨g1,fun hl v hv=>?_⟩
  simp only[ren,VR] at hv ⊢
  obtain⟨y,q1,q2⟩:=hv
  exact⟨y,q1,g2 hl _ q2⟩
 | .func fn p q,a,s,s',he=>by
  cases fn with
  | func f=>
   simp only[DD] at he
   split at he
   case h_2=>cases he
   obtain⟨h1,h2⟩:=Ap he
   simp only[Bool.and_eq_true] at h1
   obtain⟨c1,c2,c3⟩:=h1
   have c1:=Nat.eq_of_beq_eq_true c1
   have c2:=Nat.eq_of_beq_eq_true c2
   have c3:=Nat.eq_of_beq_eq_true c3
   subst c1
   split at h2
   case h_2=>cases h2
   rename_i s1 hs1
   obtain⟨g1,g2⟩:=D5 hr hρ hs le hf p _ _ _ hs1
   obtain⟨g3,g4⟩:=D5 hr hρ hs le hf q _ _ _ h2
   refine⟨g1.trans g3,fun hl v hv=>?_⟩
   simp only[ren,VR] at hv ⊢
   obtain⟨fs,cs,q1,q2,q3⟩:=hv
   exact⟨fs,cs,q1,(g2 (g3.trans hl)).1 _ c2 q2,(g4 hl).1 _ c3 q3⟩
  | _=>simp[DD] at he
 | .one _,a,s,s',he=>by simp[DD] at he
 | .raw _,a,s,s',he=>by simp[DD] at he
 | .bool _,a,s,s',he=>by simp only[DD] at he;exact Eb le he rfl
 | .int _ _,a,s,s',he=>by simp only[DD] at he;exact Eb le he rfl
 | .str _,a,s,s',he=>by simp only[DD] at he;exact Eb le he rfl
 | .nilp,a,s,s',he=>by simp only[DD] at he;exact Eb le he rfl
 | .nils,a,s,s',he=>by simp only[DD] at he;exact Eb le he rfl
 | .nilm,a,s,s',he=>by simp only[DD] at he;exact Eb le he rfl
 | .nilf,a,s,s',he=>by simp only[DD] at he;exact Eb le he rfl
 | .nili,a,s,s',he=>by simp only[DD] at he;exact Eb le he rfl
 | .sel _,a,s,s',he=>by simp only[DD] at he;exact Eb le he rfl
 | .tok _,a,s,s',he=>by simp only[DD] at he;exact Eb le he rfl
 | .stok _,a,s,s',he=>by simp only[DD] at he;exact Eb le he rfl
theorem D5 (hr:HR k h w)(hρ:k1.ρ=k.ρ)(hs:k1.sz=k.sz)(le:Le k k1 w w)(hf:∀o ob b sh,o∈sf.ids→h.get o=some ob→k.ρ o=some (b,sh)→k1.fz b) :
 ∀(ts as':List AV) (s s':US),JM h ts as' s=some s'→US.Le s s'∧(US.Le s' sf→(∀vs,ts.length=as'.length→VRL k w as' vs→VRL k1 w (Cu sf.fn ts) vs)∧(∀b i,VRC k w b as' i→VRC k1 w b (Cu sf.fn ts) i))
 | [],as',s,s',he=>by
  simp only[JM,Option.some.injEq] at he
  subst he
  refine⟨US.Le.refl _,fun _=>⟨fun vs hl hv=>?_,fun b i _=>by simp only[Cu,VRC]⟩⟩
  cases as' with
  | nil=>simpa only[Cu,VRL] using hv
  | cons _ _=>cases hl
 | x::xs,as',s,s',he=>by
  simp only[JM] at he
  split at he
  case h_2=>cases he
  rename_i y ys
  split at he
  case h_2=>cases he
  rename_i s1 hs1
  obtain⟨g1,g2⟩:=JP hr hρ hs le hf x y _ _ hs1
  obtain⟨g3,g4⟩:=D5 hr hρ hs le hf xs ys _ _ he
  refine⟨g1.trans g3,fun hl=>⟨fun vs hn hv=>?_,fun b i hv=>?_⟩⟩
  ·simp only[Cu,VRL] at hv ⊢
   obtain⟨v,vs',q1,q2,q3⟩:=hv
   exact⟨v,vs',q1,g2 (g3.trans hl) v q2,(g4 hl).1 vs' (by simpa using hn) q3⟩
  ·simp only[Cu,VRC] at hv ⊢
   obtain⟨⟨v,q1,q2⟩,q3⟩:=hv
   exact⟨⟨v,q1,g2 (g3.trans hl) v q2⟩,(g4 hl).2 b (i+1) q3⟩
end
def SZ (h:AH):List (AV×AV×Nat)→List (AV×AV×Nat)→US→Option US
 | [],[],s=>some s
 | (x,y,_)::r,(x',y',_)::r',s=>match DD h x x' s with
  | some s1=>(match DD h y y' s1 with
   | some s2=>SZ h r r' s2
   | none=>none)
  | none=>none
 | _,_,_=>none
def uniO (h:AH):AO→AO→US→Option US
 | .cells e cs,.cells e' cs',s=>bif Nat.beq e e'&&Nat.beq cs.length cs'.length then JM h cs cs' s else none
 | .map es _,.map es' _,s=>SZ h es es' s
 | .opq i,.opq j,s=>bif Nat.beq i j then some s else none
 | _,_,_=>none
def MK (h:AH):OL→US→Option US
 | [],s=>some s
 | (o,ob)::r,s=>match Hj s.π o with
  | some o'=>(match h.get o' with
   | some ob'=>(match uniO h ob ob' s with
    | some s1=>MK h r s1
    | none=>none)
   | none=>none)
  | none=>none
theorem U2 (hr:HR k h w)(hρ:k1.ρ=k.ρ)(hs:k1.sz=k.sz)(le:Le k k1 w w)(hf:∀o ob b sh,o∈sf.ids→h.get o=some ob→k.ρ o=some (b,sh)→k1.fz b) :
 ∀(ts as':List (AV×AV×Nat)) (s s':US),SZ h ts as' s=some s'→US.Le s s'∧(US.Le s' sf→∀AB,MR k w as' AB→MR k1 w (Mc sf.fn ts) AB)
 | [],[],s,s',he=>by
  simp only[SZ,Option.some.injEq] at he
  subst he
  exact⟨US.Le.refl _,fun _ AB hm=>by simpa only[Mc,MR] using hm⟩
 | [],_::_,s,s',he=>by simp[SZ] at he
 | _::_,[],s,s',he=>by simp[SZ] at he
 | (x,y,_)::r,(x',y',_)::r',s,s',he=>by
  simp only[SZ] at he
  split at he
  case h_2=>cases he
  rename_i s1 hs1
  split at he
  case h_2=>cases he
  rename_i s2 hs2
  obtain⟨g1,g2⟩:=JP hr hρ hs le hf x x' _ _ hs1
  obtain⟨g3,g4⟩:=JP hr hρ hs le hf y y' _ _ hs2
  obtain⟨g5,g6⟩:=U2 hr hρ hs le hf r r' _ _ he
  refine⟨(g1.trans g3).trans g5,fun hl AB hm=>?_⟩
  simp only[Mc,MR] at hm ⊢
  obtain⟨e,es',q1,q2,q3,q4,q5⟩:=hm
  exact⟨e,es',q1,g2 (g3.trans (g5.trans hl)) _ q2,g4 (g5.trans hl) _ q3,q4,g6 hl _ q5⟩
theorem Adh (hr:HR k h w)(hρ:k1.ρ=k.ρ)(hs:k1.sz=k.sz)(le:Le k k1 w w)(hmp:Om k.sz)(hf:∀o ob b sh,o∈sf.ids→h.get o=some ob→k.ρ o=some (b,sh)→k1.fz b)
 {t a:AO} {s s':US} (he:uniO h t a s=some s'):US.Le s s'∧(US.Le s' sf→∀b sh,ObR k w b sh a→ObR k1 w b sh (Km sf.fn t)):=by
 unfold uniO at he
 split at he
 case h_4=>cases he
 ·obtain⟨h1,h2⟩:=Ap he
  simp only[Bool.and_eq_true] at h1
  have c1:=Nat.eq_of_beq_eq_true h1.1
  have c2:=Nat.eq_of_beq_eq_true h1.2
  rename_i e cs e' cs'
  subst c1
  obtain⟨g1,g2⟩:=D5 hr hρ hs le hf _ _ _ _ h2
  refine⟨g1,fun hl b sh hO=>?_⟩
  obtain⟨arr,fr,a1,a2,a3,a4,a5⟩:=hO
  have hc:VRC k w b cs' sh:=VRC.Dg fun i x hx=>by
   obtain⟨v,q1,q2⟩:=a3 i x hx
   exact⟨v,by simp[World.cell?,a1,q1],q2⟩
  have hc2:=(g2 hl).2 b sh hc
  refine⟨arr,fr,a1,by rw[EK,c2];exact a2,fun i x hx=>?_,by rw[hs];exact a4,a5⟩
  obtain⟨v,q1,q2⟩:=VRC.get hc2 i x hx
  have hi:i<cs'.length:=by
   have:=(List.getElem?_eq_some_iff.1 hx).1
   rw[EK] at this
   omega
  obtain⟨v',q3,_⟩:=a3 i _ (List.getElem?_eq_getElem hi)
  have:v'=v:=by
   simp[World.cell?,a1,q3] at q1
   exact q1
  subst this
  exact⟨v',q3,q2⟩
 ·obtain⟨g1,g2⟩:=U2 hr hρ hs le hf _ _ _ _ he
  refine⟨g1,fun hl b sh hO=>?_⟩
  obtain⟨h0,AB,c,h1,h2⟩:=hO
  exact⟨h0,AB,c,h1,g2 hl _ h2⟩
 ·obtain⟨h1,h2⟩:=Ap he
  cases h2
  have c1:=Nat.eq_of_beq_eq_true h1
  subst c1
  refine⟨US.Le.refl _,fun _ b sh hO=>?_⟩
  obtain⟨h0,AB,c,h1,h2⟩:=hO
  exact⟨h0,AB,c,h1,by rw[hs];exact MR.low (N:=0) hs (fun o ho=>by omega) le.fz (hmp _) h2⟩
end
theorem Oe {k k1:K}{h:AH}{w:World}{sf:US}(hr:HR k h w)(hρ:k1.ρ=k.ρ)(hs:k1.sz=k.sz)(le:Le k k1 w w)(hmp:Om k.sz)(hf:∀o ob b sh,o∈sf.ids→h.get o=some ob→k.ρ o=some (b,sh)→k1.fz b) :
 ∀(l:OL) (s s':US),MK h l s=some s'→US.Le s s'∧(US.Le s' sf→∀p∈l,∃o',Hj sf.π p.1=some o'∧∃ob',h.get o'=some ob'∧∀b sh,ObR k w b sh ob'→ObR k1 w b sh (Km sf.fn p.2))
 | [],s,s',he=>by
  simp only[MK,Option.some.injEq] at he
  subst he
  exact⟨US.Le.refl _,fun _ p hp=>by cases hp⟩
 | (o,ob)::r,s,s',he=>by
  simp only[MK] at he
  split at he
  case h_2=>cases he
  rename_i o' ho'
  split at he
  case h_2=>cases he
  rename_i ob' hob
  split at he
  case h_2=>cases he
  rename_i s1 hs1
  obtain⟨g1,g2⟩:=Adh hr hρ hs le hmp hf hs1
  obtain⟨g3,g4⟩:=Oe hr hρ hs le hmp hf r _ _ he
  refine⟨g1.trans g3,fun hl p hp=>?_⟩
  rcases List.mem_cons.1 hp with rfl|hp
  ·exact⟨o',(g1.trans (g3.trans hl)).π _ _ ho',ob',hob,g2 (g3.trans hl)⟩
  ·exact g4 hl p hp
def OF.hit2 (q:OF)(f:FuncId)(args:List AV)(h:AH):Option AH:=
 bif Nat.beq q.f f&&Nat.beq q.args.length args.length then
  match JM h q.args args ⟨[],[]⟩ with
  | some s0=>match MK h q.l s0 with
   | some s=>bif q.l.all (fun p=>Nat.blt (s.fn p.1) BN && !s.ids.contains (s.fn p.1))&&(s.ids.all (fun o=>Nat.blt o BN)&&Kx (q.l.map fun p=>s.fn p.1)) then some (((h.kill s.ids).El (Sk s.fn q.l)).upd (Lo s.fn q.u)) else none
   | none=>none
  | none=>none
 else none
theorem JK {α:Type}{g:α→Nat} : ∀{l:List α},(l.map g).Nodup→∀p∈l,∀q∈l,g p=g q→p=q
 | [],_,p,hp,_,_,_=>by cases hp
 | x::xs,hn,p,hp,q,hq,e=>by
  simp only[List.map_cons,List.nodup_cons] at hn
  rcases List.mem_cons.1 hp with e1|h1<;>rcases List.mem_cons.1 hq with e2|h2
  ·rw[e1,e2]
  ·exact absurd (by rw[←e1,e];exact List.mem_map_of_mem h2) hn.1
  ·exact absurd (by rw[←e2,←e];exact List.mem_map_of_mem h1) hn.1
  ·exact JK hn.2 p h1 q h2 e
theorem HR.layAs {k k1:K}{h:AH}{w:World}{ids:List Nat}(hr:HR k h w)(hids:∀o∈ids,o<BN)(e1:k1.ρ=k.ρ)(r1:HR k1 (h.kill ids) w)(v1:Ev k k1 h (h.kill ids) w w){l:OL}
 (hl:∀p∈l,p.1<BN∧p.1∉ids∧∃ob',h.get p.1=some ob'∧∀b sh,ObR k w b sh ob'→ObR k1 w b sh p.2):HR k1 ((h.kill ids).El l) w∧Ev k k1 h ((h.kill ids).El l) w w:=by
 have hkg:=JI (h:=h) hids
 have key:∀l2:OL,(∀p∈l2,p∈l)→HR k1 ((h.kill ids).El l2) w∧Ev k k1 h ((h.kill ids).El l2) w w∧∀p∈l,∃ob1,((h.kill ids).El l2).get p.1=some ob1:=by
  intro l2
  induction l2 with
  | nil=>
   intro _
   refine⟨r1,v1,fun p hp=>?_⟩
   obtain⟨_,hn,ob1,q1,_⟩:=hl p hp
   refine⟨ob1,?_⟩
   show(h.kill ids).get p.1=some ob1
   rw[hkg,if_neg hn]
   exact q1
  | cons p r ih=>
   intro hm
   obtain⟨a1,a2,a3⟩:=ih fun q hq=>hm q (List.mem_cons_of_mem _ hq)
   have hp:=hm p (by simp)
   obtain⟨ob2,g2⟩:=a3 p hp
   obtain⟨hlt,_,ob1,q1,q2⟩:=hl p hp
   obtain⟨b,sh,q,hO⟩:=hr.obj p.1 ob1 q1
   have hO2:=q2 b sh hO
   obtain⟨b1,b2⟩:=a1.write (w':=w) g2 (by rw[e1];exact q) rfl rfl rfl rfl (fun _ _=>rfl) (fun arr e fr hx=>⟨arr,fr,hx,rfl⟩) (fun _=>hO2)
   refine⟨b1,a2.trans b2,fun p2 hp2=>?_⟩
   show ∃ob1,((((h.kill ids).El r).set p.1 (some p.2)).get p2.1)=some ob1
   rw[AH.B0 _ _ _ _ hlt]
   by_cases e:p2.1=p.1
   ·exact⟨p.2,if_pos e⟩
   ·rw[if_neg e];exact a3 p2 hp2
 obtain⟨a1,a2,_⟩:=key l fun _ h=>h
 exact⟨a1,a2⟩
theorem OF.Vx {P:Program}{E:Env}(hGb:Fk E)(hMp:∀i,DP 0 (E.mp i)=true){q:OF}(hq:K7 P E q.N q.f q.args q.l q.res q.u)(hfo:BH q.N q.args q.l q.res q.u=true){f:FuncId}{args:List AV}{h h':AH}(hh:q.hit2 f args h=some h')
 {k:K} {w:World} (hk:k.sz=⟨P.cellsOf,E.sel,E.tok,E.str,E.mp⟩) (hr:HR k h w) (hg:B1 E k w) {vs:Array Value} (hv:VRL k w args vs.toList):CS P k h w q.res h' ((callFunc f vs).run P w):=by
 unfold OF.hit2 at hh
 obtain⟨hc,hh2⟩:=Ap hh
 clear hh
 have hh:=hh2
 clear hh2
 simp only[Bool.and_eq_true] at hc
 have c1:=Nat.eq_of_beq_eq_true hc.1
 have c2:=Nat.eq_of_beq_eq_true hc.2
 subst c1
 split at hh
 case h_2=>cases hh
 rename_i s0 hs0
 split at hh
 case h_2=>cases hh
 rename_i s hs
 obtain⟨hd,hh2⟩:=Ap hh
 cases hh2
 simp only[Bool.and_eq_true] at hd
 obtain⟨d1,d2,d3⟩:=hd
 have d2:∀o∈s.ids,o<BN:=fun o ho=>Bb (List.all_eq_true.1 d2 o ho)
 have d1:∀p∈q.l,s.fn p.1<BN∧s.fn p.1∉s.ids:=fun p hp=>by
  have:=List.all_eq_true.1 d1 p hp
  simp only[Bool.and_eq_true,Bool.not_eq_true',List.contains_eq_mem,decide_eq_false_iff_not] at this
  exact⟨Bb this.1,this.2⟩
 have d3:=Gj d3
 obtain⟨k1,e1,e2,e3,e4,r1,v1⟩:=hr.toMem (ids:=s.ids) d2
 have le:=v1.le hr
 have hmp:Om k.sz:=fun i=>by rw[hk];exact hMp i
 obtain⟨_,u2⟩:=D5 (sf:=s) hr e1 e2 le e4 _ _ _ _ hs0
 obtain⟨u3,u4⟩:=Oe (sf:=s) hr e1 e2 le hmp e4 _ _ _ hs
 have hv':=(u2 u3).1 vs.toList c2 hv
 have u4:=u4 (US.Le.refl _)
 obtain⟨r2,v2⟩:=HR.layAs (l:=Sk s.fn q.l) hr d2 e1 r1 v1 (fun p hp=>by
  obtain⟨p0,hp0,rfl⟩:=List.mem_map.1 hp
  obtain⟨o',g1,ob',g2,g3⟩:=u4 p0 hp0
  have e:s.fn p0.1=o':=by unfold US.fn;rw[g1];rfl
  exact⟨(d1 p0 hp0).1,(d1 p0 hp0).2,ob',by rw[show(s.fn p0.1,Km s.fn p0.2).1=o' from e];exact g2,g3⟩)
 have hlim:∀p∈Sk s.fn q.l,p.1<BN:=fun p hp=>by
  obtain⟨p0,hp0,rfl⟩:=List.mem_map.1 hp
  exact(d1 p0 hp0).1
 refine CS.after v2 (K7.at hGb hMp hq hfo (π:=s.fn) (fun p hp p2 hp2 e=>?_) (e2.trans hk) r2 (B1.mono le hg) (fun p hp=>?_) (fun p hp=>(d1 p hp).1) hv')
 ·rw[JK (g:=fun p:Nat×AO=>s.fn p.1) d3 p hp p2 hp2 e]
 ·exact JH hlim (by rw[show(Sk s.fn q.l).map (·.1)=q.l.map fun p=>s.fn p.1 by simp[Sk,Function.comp_def]];exact d3) (s.fn p.1,Km s.fn p.2) (List.mem_map_of_mem (f:=fun p:Nat×AO=>(s.fn p.1,Km s.fn p.2)) hp)
def JE:List OF→FuncId→List AV→AH→Option (AV×AH)
 | [],_,_,_=>none
 | q::r,f,args,h=>match q.res with
  | .ret x=>(match q.hit2 f args h with
   | some h'=>some (x,h')
   | none=>JE r f args h)
  | .pan _=>JE r f args h
def JU:List OF→FuncId→List AV→AH→Option (List (AV×Bool)×AH)
 | [],_,_,_=>none
 | q::r,f,args,h=>match q.res with
  | .pan ch=>(match q.hit2 f args h with
   | some h'=>some (ch,h')
   | none=>JU r f args h)
  | .ret _=>JU r f args h
def OZ (E:Env)(l:List OF):Env:={ E with
 prim:=fun f=>bif l.any (fun q=>Nat.beq q.f f) then some (fun args h=>match JE l f args h with
  | some r=>some r
  | none=>match E.prim f with
   | some p=>p args h
   | none=>none) else E.prim f
 pan:=fun f=>bif l.any (fun q=>Nat.beq q.f f) then some (fun args h=>match JU l f args h with
  | some r=>some r
  | none=>match E.pan f with
   | some p=>p args h
   | none=>none) else E.pan f }
theorem Ig:∀{l:List OF} {f:FuncId} {args:List AV} {h:AH} {r:AV×AH},JE l f args h=some r→∃q∈l,q.res=.ret r.1∧q.hit2 f args h=some r.2
 | [],_,_,_,_,he=>by cases he
 | q::l,f,args,h,r,he=>by
  unfold JE at he
  split at he
  ·rename_i x hx
   split at he
   ·rename_i h' hh
    cases he
    exact⟨q,by simp,hx,hh⟩
   ·obtain⟨q2,m,a,b⟩:=Ig he
    exact⟨q2,List.mem_cons_of_mem _ m,a,b⟩
  ·obtain⟨q2,m,a,b⟩:=Ig he
   exact⟨q2,List.mem_cons_of_mem _ m,a,b⟩
theorem Hx:∀{l:List OF} {f:FuncId} {args:List AV} {h:AH} {r:List (AV×Bool)×AH},JU l f args h=some r→∃q∈l,q.res=.pan r.1∧q.hit2 f args h=some r.2
 | [],_,_,_,_,he=>by cases he
 | q::l,f,args,h,r,he=>by
  unfold JU at he
  split at he
  ·rename_i x hx
   split at he
   ·rename_i h' hh
    cases he
    exact⟨q,by simp,hx,hh⟩
   ·obtain⟨q2,m,a,b⟩:=Hx he
    exact⟨q2,List.mem_cons_of_mem _ m,a,b⟩
  ·obtain⟨q2,m,a,b⟩:=Hx he
   exact⟨q2,List.mem_cons_of_mem _ m,a,b⟩
theorem AG.hit {P:Program}{E:Env}(h:AG P E)(l:List OF):AG P (OZ E l):=⟨h.ty,h.fn,h.meth,h.impl,h.eqt,h.mixed,h.bin,h.len,h.slen⟩
theorem B4.hit {P:Program}{E:Env}(hP:B4 P E)(hGb:Fk E)(hMp:∀i,DP 0 (E.mp i)=true){l:List OF}(hl:∀q∈l,K7 P E q.N q.f q.args q.l q.res q.u∧BH q.N q.args q.l q.res q.u=true):B4 P (OZ E l):=by
 refine⟨fun f p hp k h w args vs v' h' hsz hr hg hv hpr=>?_,fun f p hp k h w args vs v' h' hsz hr hg hv hpr=>?_⟩
 ·change (bif l.any (fun q=>Nat.beq q.f f) then _ else E.prim f)=some p at hp
  cases hb:l.any (fun q=>Nat.beq q.f f) with
  | false=>
   rw[hb] at hp
   exact hP.1 f p hp k h w args vs v' h' hsz hr hg hv hpr
  | true=>
   rw[hb] at hp
   simp only[cond_true,Option.some.injEq] at hp
   subst hp
   dsimp only at hpr
   split at hpr
   ·rename_i r hr'
    cases hpr
    obtain⟨q,m,a,b⟩:=Ig hr'
    have:=OF.Vx hGb hMp (hl q m).1 (hl q m).2 b hsz hr hg hv
    rw[a] at this
    exact this
   ·split at hpr
    ·rename_i p hp
     exact hP.1 f p hp k h w args vs v' h' hsz hr hg hv hpr
    ·cases hpr
 ·change (bif l.any (fun q=>Nat.beq q.f f) then _ else E.pan f)=some p at hp
  cases hb:l.any (fun q=>Nat.beq q.f f) with
  | false=>
   rw[hb] at hp
   exact hP.2 f p hp k h w args vs v' h' hsz hr hg hv hpr
  | true=>
   rw[hb] at hp
   simp only[cond_true,Option.some.injEq] at hp
   subst hp
   dsimp only at hpr
   split at hpr
   ·rename_i r hr'
    cases hpr
    obtain⟨q,m,a,b⟩:=Hx hr'
    have:=OF.Vx hGb hMp (hl q m).1 (hl q m).2 b hsz hr hg hv
    rw[a] at this
    exact this
   ·split at hpr
    ·rename_i p hp
     exact hP.2 f p hp k h w args vs v' h' hsz hr hg hv hpr
    ·cases hpr
section
variable {π:Nat→Nat}
mutual
theorem Pb:∀x:AV,Az 0 x=true→ren π x=x
 | .ptr o _,h=>by simp only[Az] at h;have:=Bb h;omega
 | .sl o _ _ _ _,h=>by simp only[Az] at h;have:=Bb h;omega
 | .map o,h=>by simp only[Az] at h;have:=Bb h;omega
 | .pptr cs _,h=>by simp only[Az] at h;simp only[ren,EF cs h]
 | .psl cs _ _,h=>by simp only[Az] at h;simp only[ren,EF cs h]
 | .func fn a b,h=>by
  cases fn<;>simp only[Az,Bool.and_eq_true] at h
  case yield=>cases h
  all_goals simp only[ren,EF a h.1,EF b h.2]
 | .iface _ x,h=>by simp only[Az] at h;simp only[ren,Pb x h]
 | .agg cs,h=>by simp only[Az] at h;simp only[ren,EF cs h]
 | .tup cs,h=>by simp only[Az] at h;simp only[ren,EF cs h]
 | .one cs,h=>by simp only[Az] at h;simp only[ren,EF cs h]
 | .any,_ | .bool _,_ | .int _ _,_ | .str _,_ | .nilp,_ | .nils,_ | .emp,_ | .nilm,_ | .nilf,_ | .nili,_ | .raw _,_ | .sel _,_ | .tok _,_ | .stok _,_=>rfl
theorem EF:∀xs:List AV,Bx 0 xs=true→Cu π xs=xs
 | [],_=>rfl
 | x::xs,h=>by
  simp only[Bx,Bool.and_eq_true] at h
  simp only[Cu,Pb x h.1,EF xs h.2]
end
end
def noAH:AH:=⟨.e,0⟩
def covV (told act:AV):Bool:=Az 0 told&&(Az 0 act&&(DD noAH told act ⟨[],[]⟩).isSome)
theorem Acn {told act:AV}(h:covV told act=true){k:K}{w:World}(hk:∀b,k.fz b→b<w.heap.size){v:Value}(hv:VR k w act v):VR k w told v:=by
 unfold covV at h
 simp only[Bool.and_eq_true] at h
 obtain⟨hl,ha,h⟩:=h
 obtain⟨s,hs⟩:=Option.isSome_iff_exists.1 h
 have hn:∀o ob,noAH.get o≠some ob:=fun o ob g=>by
  rw[show noAH.get o=none from T.J3 _ _] at g
  cases g
 have hr:HR ⟨fun _=>none,k.fz,k.sz⟩ noAH w:=⟨fun o ob g=>absurd g (hn o ob),fun o1 o2 ob1 ob2 b s1 s2 g1=>absurd g1 (hn _ _),fun o ob b sh g=>absurd g (hn _ _),fun _ _=>rfl,hk⟩
 have h1:=VR.low (N:=0) (k:=k) (k':=⟨fun _=>none,k.fz,k.sz⟩) rfl (fun o ho=>by omega) (fun _ h=>h) act v ha hv
 have h2:=(JP (sf:=s) hr rfl rfl ((Ev.refl _ _ _).le hr) (fun o ob b sh _ g=>absurd g (hn _ _)) told act _ _ hs).2 (US.Le.refl _) v h1
 rw[Pb told hl] at h2
 exact VR.low (N:=0) (k:=⟨fun _=>none,k.fz,k.sz⟩) (k':=k) rfl (fun o ho=>by omega) (fun _ h=>h) told v hl h2
def covR:AM→AM→Bool
 | .ret x,.ret y=>covV x y
 | .pan [(x,false)],.pan [(y,false)]=>covV x y
 | _,_=>false
theorem CS.convR {P:Program}{k:K}{h h1:AH}{w:World}{res res2:AM}{r:Result Next}(hc:CS P k h w res h1 r)
 (hv:∀(k':K),k'.sz=k.sz→∀w',(∀b,k'.fz b→b<w'.heap.size)→match res,res2 with
  | .ret x,.ret y=>∀v,VR k' w' x v→VR k' w' y v
  | .pan x,.pan y=>∀c,CR k' w' x c→CR k' w' y c
  | _,_=>False):CS P k h w res2 h1 r:=by
 obtain⟨nx,w1,e1,hc⟩:=hc
 refine⟨nx,w1,e1,?_⟩
 rcases hc with⟨x',v,k',e2,e3,g1,g2,g3⟩|⟨fr0,hs0,hf⟩
 ·have hv:=hv k' g3.sz w1 g2.lt
  subst e2
  cases res2 with
  | pan y=>exact hv.elim
  | ret y=>exact .inl ⟨y,v,k',rfl,e3,hv v g1,g2,g3⟩
 ·refine .inr ⟨fr0,hs0,fun caller cs=>?_⟩
  obtain⟨k',w',g1,g2,g3⟩:=hf caller cs
  refine⟨k',w',g1,g2,?_⟩
  have hv:=hv k' g2.sz w' g1.lt
  cases res with
  | ret x=>
   cases res2 with
   | pan y=>exact hv.elim
   | ret y=>
    obtain⟨v,q1,q2⟩:=g3
    exact⟨v,hv v q1,q2⟩
  | pan x=>
   cases res2 with
   | ret y=>exact hv.elim
   | pan y=>
    obtain⟨c,q1,q2⟩:=g3
    exact⟨c,hv c q1,q2⟩
def Br (E:Env)(n m N:Nat)(f:FuncId)(args:List AV)(l:OL)(res:AM)(u:UL):Bool:=
 match E.fn f with
 | some F=>match F.body with
  | some b=>bif Nat.ble args.length F.ntmps&&(Nat.blt F.ntmps Cb&&(Ej args&&(Bx N args&&(Nat.blt N BN&&(Hr N l u&&Eh res))))) then
   match evK E n (.run ⟨f,F.ntmps,.normal,none⟩ (Dw 0 args .e) [.code b] []) (B5 N l) .no with
   | some (r,h1,_)=>match fzR (h1.KV N) m r with
    | some r'=>covR res r'&&(Eh r'&&Me h1 N u)
    | none=>false
   | none=>false
   else false
  | none=>false
 | none=>false
theorem Abe {k:K}{w:World}{x y:AV}{c:List PanicEntry}(h:∀v,VR k w x v→VR k w y v)(hc:CR k w [(x,false)] c):CR k w [(y,false)] c:=by
 simp only[CR] at hc ⊢
 obtain⟨e,c',h1,h2,h3,h4,h5⟩:=hc
 exact⟨e,c',h1,h _ h2,h3,h4,h5⟩
theorem RL {σ:Nat→AV}{τ:Nat→List Nat}{μ:Nat→List (AV×AV×Nat)}(hσ:IV σ τ μ){c:KC}(hc:BJ c σ τ){x y:AV}(h:covV y x=true)(hx:DN x=true)(hy:DN y=true){k:K}{w:World}(hk:∀b,k.fz b→b<w.heap.size){v:Value}(hv:VR k w (inst σ τ x) v):VR k w (inst σ τ y) v:=by
 have hl:Az 0 y=true∧Az 0 x=true:=by
  unfold covV at h
  simp only[Bool.and_eq_true] at h
  exact⟨h.1,h.2.1⟩
 obtain⟨a1,a2,a3⟩:=Eu hσ (N:=0) x hx hl.2
 obtain⟨b1,b2,_⟩:=Eu hσ (N:=0) y hy hl.1
 let K1:K:=⟨fun _=>none,k.fz,c⟩
 have h1:VR K1 w (inst σ τ x) v:=VR.bare (N:=0) (k:=k) (k':=K1) (fun o ho=>by omega) (fun _ h=>h) _ _ a1 a2 hv
 have h2:VR K1 w x v:=CZ (k:=K1) hc x v a3 h1
 have h3:VR K1 w y v:=Acn (k:=K1) h hk h2
 exact VR.bare (N:=0) (k:=K1) (k':=k) (fun o ho=>by omega) (fun _ h=>h) _ _ b1 b2 (Cl (k:=K1) hc y v h3)
theorem Qz {P:Program}{E:Env}(hE:AG P E)(hP:B4 P E)(hGb:Fk E){σ:Nat→AV}{τ:Nat→List Nat}{μ:Nat→List (AV×AV×Nat)}(hσ:IV σ τ μ){tok:Nat→Value}(hc:(⟨P.cellsOf,E.sel,E.tok,E.str,E.mp⟩:KC)=Qq P σ τ μ tok)
 {n m N:Nat} {f:FuncId} {args:List AV} {l:OL} {res:AM} {u:UL} (hrun:Br E n m N f args l res u=true):CM P E.glob N f (Au σ τ args) (DE σ τ μ l) (Bu σ τ res) (Dh σ τ μ u):=by
 intro k h w vs hk hr hg hsub hnext hv
 have hC:BJ (⟨P.cellsOf,E.sel,E.tok,E.str,E.mp⟩:KC) σ τ:=by rw[hc];exact hσ.MB tok
 have hmp:E.mp=μ:=congrArg KC.mp hc
 unfold Br at hrun
 split at hrun
 case h_2=>cases hrun
 rename_i F hF
 split at hrun
 case h_2=>cases hrun
 rename_i b hb
 cases hc:(Nat.ble args.length F.ntmps&&(Nat.blt F.ntmps Cb&&(Ej args&&(Bx N args&&(Nat.blt N BN&&(Hr N l u&&Eh res)))))) with
 | false=>simp only[hc,cond_false] at hrun;cases hrun
 | true=>
  simp only[hc,cond_true] at hrun
  simp only[Bool.and_eq_true] at hc
  obtain⟨c1,c2,c0,c3,c4,c5,c6⟩:=hc
  have c4:=Bb c4
  obtain⟨i1,i2⟩:=GY c5
  have il:∀p∈l,p.1<BN:=fun p hp=>Nat.lt_trans (i2 p hp).1 c4
  have iu:∀p∈u,p.1<BN:=fun p hp=>by
   have:p.1∈u.map (·.1):=List.mem_map_of_mem hp
   rw[i1] at this
   obtain⟨q,hq,e⟩:=List.mem_map.1 this
   rw[←e]
   exact il q hq
  split at hrun
  case h_2=>cases hrun
  rename_i r h1 rc he
  rw[Tg] at he
  split at hrun
  case h_2=>cases hrun
  rename_i r' hr'
  simp only[Bool.and_eq_true] at hrun
  obtain⟨d1,d3,d2⟩:=hrun
  obtain⟨a1,a2,a3⟩:=DX hσ (N:=N) args c0 c3
  have hm:CS P k h w (Bu σ τ r') (h.upd (Dh σ τ μ u)) ((callFunc f vs).run P w):=by
   refine Ack hE hP hGb hC hF hb he (Nat.le_of_ble_eq_true c1) (Bb c2) a2 a1 a3 (EI N l) (fun o ob g=>?_) (FQ h1 c4) (Nat.le_of_eq (Jk h1 N).symm) hr' (M9 hσ _ d3) hk hr hg (fun o ob g=>?_) hnext (Ge h _) (fun o ob g=>?_) hv
   ·have q:=i2 _ (Fv il g)
    have:=J1 hσ (N:=N) ob q.2.1 q.2.2
    rw[hmp]
    exact⟨q.1,this.2.1,this.1,this.2.2⟩
   ·rw[hmp]
    exact hsub _ (List.mem_map_of_mem (f:=fun p:Nat×AO=>(p.1,Ca σ τ μ p.2)) (Fv il g))
   ·have iu':∀p∈Dh σ τ μ u,p.1<BN:=fun p hp=>by
     obtain⟨q,hq,e⟩:=List.mem_map.1 hp
     rw[←e]
     exact iu q hq
    rcases LA iu' g with g|⟨g,g2⟩
    ·obtain⟨⟨o2,x⟩,hm,e⟩:=List.mem_map.1 g
     simp only[Prod.mk.injEq] at e
     obtain⟨rfl,e⟩:=e
     cases x with
     | none=>cases e
     | some ob0=>
      simp only[Option.map_some,Option.some.injEq] at e
      subst e
      obtain⟨e1,ob1,e2,e6,e3,e4⟩:=Kt d2 hm
      have:=J1 hσ (N:=N) ob1 e6 e3
      refine .inl ⟨e1,⟨ob1,e2,this.2.2,by rw[hmp];exact this.2.1,by rw[hmp];exact this.1,fun k w b sh hO=>?_⟩,?_⟩
      ·rw[hmp] at hO
       exact(QJ e4).inst.ok hO
      ·cases hg2:(B5 N l).get o2 with
       | some _=>rfl
       | none=>
        have:=Ld il hg2
        rw[←i1] at this
        exact absurd (List.mem_map_of_mem (f:=(·.1)) hm) this
    ·refine .inr ⟨g,?_⟩
     cases hg2:(B5 N l).get o with
     | none=>rfl
     | some ob2=>
      exfalso
      apply g2
      have:o∈l.map (·.1):=List.mem_map_of_mem (f:=(·.1)) (Fv il hg2)
      rw[←i1] at this
      obtain⟨q,hq,e⟩:=List.mem_map.1 this
      refine List.mem_map.2 ⟨(q.1,q.2.map (Ca σ τ μ)),List.mem_map_of_mem (f:=fun p:Nat×Option AO=>(p.1,p.2.map (Ca σ τ μ))) hq,e⟩
  refine hm.convR (fun k' _ w' hlt=>?_)
  unfold covR at d1
  split at d1
  case h_3=>cases d1
  ·simp only[Eh,Bool.and_eq_true] at d3 c6
   exact fun v hv=>RL hσ hC d1 d3.1 c6.1 hlt hv
  ·simp only[Eh,List.all_cons,Bool.and_eq_true] at d3 c6
   exact fun c hcr=>Abe (fun v hv=>RL hσ hC d1 d3.1.1 c6.1.1 hlt hv) hcr
end Go.Ab
end
