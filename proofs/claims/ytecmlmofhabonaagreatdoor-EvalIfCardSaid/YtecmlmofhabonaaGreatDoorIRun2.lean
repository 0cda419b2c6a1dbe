/- An evaluator over the model's memory, and its soundness: what it computes of a call is what the call does in the model, whatever the order of evaluation is; no condition. -/
import Derived.Test.YtecmlmofhabonaaGreatDoorIRun1
import Derived.ChangeKeysEq
import Derived.Conc.Holds
import Derived.SizedLaws
noncomputable section
namespace Go.Ab
open Go
section
variable {P:Program}{E:Env}
def PanOk (P:Program)(E:Env):Prop:=∀f p,E.pan f=some p→∀k h w args (vs:Array Value) ch h',k.sz=⟨P.cellsOf,E.sel,E.tok,E.str,E.mp⟩ →HR k h w→B3 E k w→VRL k w args vs.toList→p args h=some (ch,h')→CQ P k h w (.pan ch) h' ((callFunc f vs).run P w)
def B2 (P:Program)(E:Env):Prop:=(∀f p,E.prim f=some p→∀k h w args (vs:Array Value) v' h',k.sz=⟨P.cellsOf,E.sel,E.tok,E.str,E.mp⟩ →HR k h w→B3 E k w→VRL k w args vs.toList→p args h=some (v',h')→CQ P k h w (.ret v') h' ((callFunc f vs).run P w))∧PanOk P E
def Rd (P:Program)(E:Env)(fv:AV)(args:List AV)(kind:CallKind)(h:AH)(rc:RC)(res:AG)(h':AH)(rc':RC):Prop:=
 ∀k w fn (first captured vs:Array Value),k.sz=⟨P.cellsOf,E.sel,E.tok,E.str,E.mp⟩ →HR k h w→B3 E k w→VR k w fv (.func fn first captured)→VRL k w args vs.toList→
  (kind=.normal→rc=.no→CQ P k h w res h' ((invoke (.fn fn captured) (first++vs)).run P w))∧
  (kind=.deferred→∀m x,rc=NM m→res=.ret x→ZK P k h w m h' rc' ((invoke (.fn fn captured) (first++vs)).run P w))
def RunOk (P:Program)(E:Env)(c:Ctx)(tmps:T AV)(todo:List Item)(defs:List AD)(h:AH)(rc:RC)(res:AG)(h':AH)(rc':RC):Prop:=
 ∀k w fr cs,k.sz=⟨P.cellsOf,E.sel,E.tok,E.str,E.mp⟩ →HR k h w→B3 E k w→FR k w c tmps todo defs fr→RCR k w rc c.kind cs→(c.round.isSome=true→c.kind=.normal)→CW P k h w c rc cs fr res h' rc'
def UnwOk (P:Program)(E:Env)(c:Ctx)(m:Gv)(tmps:T AV)(defs:List AD)(h:AH)(rc:RC)(res:AG)(h':AH)(rc':RC):Prop:=
 ∀k w fr cs,k.sz=⟨P.cellsOf,E.sel,E.tok,E.str,E.mp⟩ →HR k h w→B3 E k w→FU k w c m tmps defs fr→RCR k w rc c.kind cs→(c.round.isSome=true→c.kind=.normal)→CW P k h w c rc cs fr res h' rc'
def Nf (P:Program)(E:Env):Cmd→AH→RC→AG→AH→RC→Prop
 |.run c tmps todo defs=>RunOk P E c tmps todo defs|.unw c m tmps defs=>UnwOk P E c m tmps defs|.call fv args kind=>Rd P E fv args kind
def U1 (P:Program)(E:Env):Prop:=
 ∀(callf:AV→List AV→AH→Option (AG×AH×RC)),(∀fv args h res h' rc',callf fv args h=some (res,h',rc')→Rd P E fv args .normal h .no res h' rc')→
 ∀c ops tmps h tmps' h' p,Ki E callf c.n ops tmps h=some (tmps',h',p)→∀id kk defs k w fr cs,k.sz=⟨P.cellsOf,E.sel,E.tok,E.str,E.mp⟩ →HR k h w→B3 E k w→FR k w c tmps (.code (.region id ops true)::kk) defs fr→
  ∃k' w' fr',HR k' h' w'∧Ev k k' h h' w w'∧Steps P (lone fr cs w) (lone fr' cs w')∧match p with
   |none=>FR k' w' c tmps' kk defs fr'|some ch=>FU k' w' c (.pan ch) tmps' defs fr'
theorem FR.toFU {k:K}{w:World}{c:Ctx}{tmps:T AV}{todo:List Item}{defs:List AD}{fr:Frame}(f:FR k w c tmps todo defs fr){m:Gv}{mode:FrameMode}(hm:L0 k w m mode):FU k w c m tmps defs { fr with mode:=mode }:=
 ⟨f.fn,f.tmps,f.defs,hm,f.kind,f.round,f.early⟩
def stOf:Option Code→LoopState
 |none=>.ready|some _=>.done
section
theorem Sx {n:Nat}(ih:∀cmd h rc res h' rc',ev E n cmd h rc=some (res,h',rc')→Nf P E cmd h rc res h' rc'){c:Ctx}{tmps:T AV}{todo:List Item}{defs:List AD}{h:AH}{rc:RC}{res:AG}{h':AH}{rc':RC}{k:K}{w:World}{fr:Frame}{cs:List Frame}(hk:k.sz=⟨P.cellsOf,E.sel,E.tok,E.str,E.mp⟩)(hr:HR k h w)(hg:B3 E k w)(hf:FR k w c tmps todo defs fr)(hrc:RCR k w rc c.kind cs)(hround:c.round.isSome=true→c.kind=.normal)(hcr:c.round=none)(he:ev E n (.unw c .ret tmps defs) h rc=some (res,h',rc'))(ht:fr.todo=[]∨∃kk,fr.todo=.code .ret::kk):CW P k h w c rc cs fr res h' rc':=by have hro:=hf.round;rw[hcr]at hro;exact CW.pre (Ev.refl _ _ _) (Aa8 hf.mode ht hro) (ih _ _ _ _ _ _ he k w _ cs hk hr hg (hf.toFU (m:=.ret) rfl) hrc hround)
theorem JW {c:Ctx}{tmps:T AV}{todo:List Item}{defs:List AD}{h:AH}{rc:RC}{res:AG}{h':AH}{rc':RC}{k:K}{w:World}{fr:Frame}{cs:List Frame}(hr:HR k h w)(hf:FR k w c tmps todo defs fr)(hround:c.round.isSome=true→c.kind=.normal){l:Nat}(hcr:c.round=some l){jump:Option Code}
 (he:(match (generalizing:=false) defs with
  |[]=>match (generalizing:=false) h.get l with
   |some (.loop _ _ fn k ts ps as' bd d)=>some (AG.ret (.bool jump.isNone),h.set l (some (.loop (stOf jump) jump fn k ts ps as' bd d)),rc)|_=>none
  |_=>none)=some (res,h',rc'))
 (ht:(fr.todo=[]∧jump=none)∨(∃kk,fr.todo=.code .ret::kk∧jump=some .ret)∨(∃id kk,fr.todo=.code (.exit id)::kk∧exitTo id kk=none∧jump=some (.exit id))∨(∃id kk,fr.todo=.code (.goto id)::kk∧gotoIn id kk=none∧jump=some (.goto id))) :
 CW P k h w c rc cs fr res h' rc':=by
 have hro:=hf.round;rw[hcr]at hro;obtain⟨b,hb,hro⟩:=hro;have hkind:fr.kind=.normal:=by rw[hf.kind];exact hround (by rw[hcr];rfl)
 have hmode:=hf.mode;cases defs with
 |cons _ _=>cases he|nil=>
 simp only at he;split at he;case h_2=>cases he
 rename_i st pend fn m ts ps as' bd d hgl;simp only[zC,zG]at he;obtain⟨rfl,rfl,rfl⟩:=he;obtain⟨_,r,db,g1,_⟩:=IU hr hgl hb;obtain⟨s1,s2,s3⟩:=OJ (P:=P) hr (st':=stOf jump) (pend':=jump) hgl hb g1;have hend:(Instr.endRound b jump).run P w=.ok (.bool jump.isNone) { w with heap:=w.heap.setIfInBounds b (.loop { r with state:=stOf jump,pending:=jump }) }:=by simp only[Instr.endRound,zJ,run_getLoop g1,zF,zP];cases jump<;>simp only[stOf]at s1 ⊢<;>simp[s1]
 refine⟨k,_,s2,s3,?_⟩;rw[hcr];intro caller rest hcs;subst hcs;exact⟨.bool jump.isNone,by simp only[VR],MS hmode ht hro hkind hend⟩
end
theorem PI {n:Nat}{fv:AV}{args:List AV}{kind:CallKind}{h:AH}{rc:RC}{x:AG×AH×RC}(he:ev E n (.call fv args kind) h rc=some x):∃fn a b,fv=.func fn a b:=by
 cases n with
 |zero=>simp only[ev]at he;cases he
 |succ n=>
  cases fv;case func fn a b=>exact⟨_,_,_,rfl⟩
  all_goals (simp only[ev]at he;cases he)
theorem Aak (hE:Az P E)(_:B2 P E)(hD:U1 P E){n:Nat}(ih:∀cmd h rc res h' rc',ev E n cmd h rc=some (res,h',rc')→Nf P E cmd h rc res h' rc')
 {c:Ctx} {tmps:T AV} {todo:List Item} {defs:List AD} {h:AH} {rc:RC} {res:AG} {h':AH} {rc':RC} (he:ev E (n+1) (.run c tmps todo defs) h rc=some (res,h',rc')):RunOk P E c tmps todo defs h rc res h' rc':=by
 intro k w fr cs hk hr hg hf hrc hround;have htodo:=hf.todo;have pass:∀{todo':List Item} {kk':List Item},Steps P (lone fr cs w) (lone { fr with todo:=kk' } cs w)→IR k todo' kk'→ev E n (.run c tmps todo' defs) h rc=some (res,h',rc')→CW P k h w c rc cs fr res h' rc':=
  fun hs hi he=>CW.pre (Ev.refl _ _ _) hs (ih _ _ _ _ _ _ he k w _ cs hk hr hg (hf.to hi) hrc hround)
 have pass2:∀{k1:K} {h1:AH} {w1:World} {fr1:Frame} {tmps1:T AV} {todo1:List Item} {defs1:List AD},Ev k k1 h h1 w w1→HR k1 h1 w1→Steps P (lone fr cs w) (lone fr1 cs w1)→FR k1 w1 c tmps1 todo1 defs1 fr1→ev E n (.run c tmps1 todo1 defs1) h1 rc=some (res,h',rc')→CW P k h w c rc cs fr res h' rc':=
  fun e1 r1 hs f1 he=>CW.pre e1 hs (ih _ _ _ _ _ _ he _ _ _ cs (e1.sz.trans hk) r1 (hg.mono (e1.le hr)) f1 (hrc.mono (e1.le hr)) hround)
 have punw:∀{k1:K} {h1:AH} {w1:World} {fr1:Frame} {m:Gv} {tmps1:T AV} {defs1:List AD},Ev k k1 h h1 w w1→HR k1 h1 w1→Steps P (lone fr cs w) (lone fr1 cs w1)→FU k1 w1 c m tmps1 defs1 fr1→ev E n (.unw c m tmps1 defs1) h1 rc=some (res,h',rc')→CW P k h w c rc cs fr res h' rc':=
  fun e1 r1 hs f1 he=>CW.pre e1 hs (ih _ _ _ _ _ _ he _ _ _ cs (e1.sz.trans hk) r1 (hg.mono (e1.le hr)) f1 (hrc.mono (e1.le hr)) hround)
 have raise:∀chain,fr.raise chain = { fr with mode:=.panicking chain }:=fun chain=>by simp only[Frame.raise,hf.mode]
 cases todo with
 |nil=>
  simp only[IR]at htodo;cases hcr:c.round with
  |none=>simp only[ev,hcr]at he;exact Sx ih hk hr hg hf hrc hround hcr he (.inl htodo)
  |some l=>simp only[ev,hcr]at he;exact JW hr hf hround hcr (jump:=none) he (.inl ⟨htodo,rfl⟩)
 |cons x kk=>
  cases x with
  |code cd=>
   obtain⟨kk',ht,hi⟩:=htodo.head (by constructor<;>intro _ e<;>cases e);cases cd with
   |ret=>
    cases hcr:c.round with
    |none=>simp only[ev,hcr]at he;exact Sx ih hk hr hg hf hrc hround hcr he (.inr ⟨_,ht⟩)
    |some l=>simp only[ev,hcr]at he;exact JW hr hf hround hcr (jump:=some .ret) he (.inr (.inl ⟨_,ht,rfl⟩))
   |skip=>simp only[ev]at he;exact pass (IQ hf.mode ht (.inl rfl)) hi he
   |label l=>simp only[ev]at he;exact pass (IQ hf.mode ht (.inr (.inl ⟨_,rfl⟩))) hi he
   |seq a b=>simp only[ev]at he;exact pass (st_seq hf.mode ht) (.cons ⟨fun _ e=>(nomatch e),fun _ e=>(nomatch e)⟩ (.cons ⟨fun _ e=>(nomatch e),fun _ e=>(nomatch e)⟩ hi)) he
   |cond x a b=>
    simp only[ev]at he;split at he;case h_2=>cases he
    rename_i t hx;have hv:=Hm hg hf x;rw[hx]at hv;simp only[VR]at hv;exact pass (Adv hf.mode ht hv) (.cons ⟨fun _ e=>(nomatch e),fun _ e=>(nomatch e)⟩ hi) he
   |block id a=>simp only[ev]at he;exact pass (AaU hf.mode ht) (.cons ⟨fun _ e=>(nomatch e),fun _ e=>(nomatch e)⟩ (.cons ⟨fun _ e=>(nomatch e),fun _ e=>(nomatch e)⟩ hi)) he
   |loop a=>simp only[ev]at he;exact pass (V5 hf.mode (.inl ht)) (.cons ⟨fun _ e=>(nomatch e),fun _ e=>(nomatch e)⟩ (.cons ⟨fun _ e=>(nomatch e),fun _ e=>(nomatch e)⟩ hi)) he
   |scope a=>simp only[ev]at he;exact pass (YD hf.mode ht) (.cons ⟨fun _ e=>(nomatch e),fun _ e=>(nomatch e)⟩ (.cons ⟨fun _ e=>(nomatch e),fun _ e=>(nomatch e)⟩ hi)) he
   |exit id=>
    simp only[ev]at he;cases hx:exitTo id kk with
    |some k'=>simp only[hx]at he;obtain⟨r',h1,h2⟩:=Gk hi hx;exact pass (AcC hf.mode ht h1) h2 he
    |none=>
     simp only[hx]at he;cases hcr:c.round with
     |none=>simp only[hcr]at he;cases he
     |some l=>simp only[hcr]at he;exact JW hr hf hround hcr (jump:=some (.exit id)) he (.inr (.inr (.inl ⟨_,_,ht,C7 hi hx,rfl⟩)))
   |goto id=>
    simp only[ev]at he;cases hx:gotoIn id kk with
    |some k'=>simp only[hx]at he;obtain⟨r',h1,h2⟩:=(Fe hi).1 _ hx;exact pass (Adn hf.mode ht h1) h2 he
    |none=>
     simp only[hx]at he;cases hcr:c.round with
     |none=>simp only[hcr]at he;cases he
     |some l=>simp only[hcr]at he;exact JW hr hf hround hcr (jump:=some (.goto id)) he (.inr (.inr (.inr ⟨_,_,ht,(Fe hi).2 hx,rfl⟩)))
   |region id ops draw=>
    cases draw with
    |false=>simp only[ev]at he;exact pass (XB hf.mode ht) (.cons ⟨fun _ e=>(nomatch e),fun _ e=>(nomatch e)⟩ hi) he
    |true=>
     simp only[ev]at he;split at he;case h_3=>cases he
     ·rename_i tmps1 h1 hd;obtain⟨k1,w1,fr1,r1,e1,s1,f1⟩:=hD _ (fun fv args h res h' rc' hc=>ih (.call fv args .normal) h .no res h' rc' hc) c ops tmps h tmps1 h1 none hd id kk defs k w fr cs hk hr hg hf;exact pass2 e1 r1 s1 f1 he
     ·rename_i tmps1 h1 ch hd;obtain⟨k1,w1,fr1,r1,e1,s1,f1⟩:=hD _ (fun fv args h res h' rc' hc=>ih (.call fv args .normal) h .no res h' rc' hc) c ops tmps h tmps1 h1 (some ch) hd id kk defs k w fr cs hk hr hg hf;exact punw e1 r1 s1 f1 he
   |rangeFunc f ps as' bd=>
    simp only[ev]at he;split at he;case h_1=>cases he
    rename_i d mark h1 hd;split at he;case h_1=>cases he
    rename_i l h2 hl;have hround':=hf.round;have enter:∃k' w' lb mark',(Instr.enterLoop fr.fn fr.tmps ps as' bd fr.roundOf).run P w=.ok (lb,mark') w'∧k'.ρ l=some (lb,0)∧HR k' h2 w'∧Ev k k' h h2 w w'∧DRL k' w' mark mark':=by
     rw[hf.fn];cases hcr:c.round with
     |none=>
      rw[hcr]at hd hround';simp only at hd hround';cases ha:h.alloc (.dfr true) with
      |none=>rw[ha]at hd;cases hd
      |some p=>obtain⟨o,h0⟩:=p;rw[ha]at hd;cases hd;rw[hround'];exact U8 hr hf.tmps ha hl
     |some l0=>
      rw[hcr]at hd hround';simp only at hd hround';obtain⟨b0,hb0,hro⟩:=hround';split at hd;case h_2=>cases hd
      rename_i hgl;cases hd;rw[hro];exact UM hr hf.tmps hgl hb0 hl
    obtain⟨k1,w1,lb,mark',hen,hlb,r1,e1,hmk⟩:=enter;have le1:=e1.le hr;have hfn:=fun {x} (hc:ev E n (.call (Bj E tmps f) [.func (.yield l) [] []] .normal) h2 .no=some x)=>PI hc
    have hv:=Hm hg hf f;have gen:∀{x:AG} {h3:AH} {rc3:RC},ev E n (.call (Bj E tmps f) [.func (.yield l) [] []] .normal) h2 .no=some (x,h3,rc3)→
     ∃k3 w3,HR k3 h3 w3∧Ev k k3 h h3 w w3∧Le k1 k3 w1 w3∧match x with
      |.ret y=>∃v,VR k3 w3 y v∧Steps P (lone fr cs w) (lone (({ fr with todo:=.inRangeFunc lb::kk',defers:=mark'++fr.defers } : Frame).finish v) cs w3)
      |.pan ch=>∃chain,CR k3 w3 ch chain∧Steps P (lone fr cs w) (lone (({ fr with todo:=.inRangeFunc lb::kk',defers:=mark'++fr.defers } : Frame).raise chain) cs w3):=by
     intro x h3 rc3 hc;obtain⟨fn,a,b,hfv⟩:=hfn hc;rw[hfv]at hv;have hv':∃fn' first captured,fr.eval f=.func fn' first captured:=by
      have hv2:=hv;cases fn<;>simp only[VR]at hv2;case yield=>obtain⟨b,_,h2,_⟩:=hv2;exact⟨_,_,_,h2⟩
      all_goals obtain⟨_,_,h2,_⟩:=hv2;exact⟨_,_,_,h2⟩
     obtain⟨fn',first,captured,hev⟩:=hv';rw[hev]at hv;rw[hfv]at hc;obtain⟨s,g1,g2⟩:=st_rf (cs:=cs) hf.mode ht hen hev;have hargs:VRL k1 w1 [AV.func (.yield l) [] []] (#[Value.func (.yield lb) #[] #[]]).toList:=by simp only[VRL];exact⟨_,_,rfl,by simp[VR,hlb],rfl⟩
     obtain⟨nx,w2,q1,q2⟩:=(ih (.call (.func fn a b) _ .normal) h2 .no _ _ _ hc k1 w1 fn' first captured #[.func (.yield lb) #[] #[]] (e1.sz.trans hk) r1 (hg.mono le1) (VR.mono le1 _ _ hv) hargs).1 rfl rfl;rcases q2 with⟨y,v,k3,rfl,rfl,hy,r3,e3⟩|⟨fr0,hs,q2⟩
     ·refine⟨k3,w2,r3,e1.trans e3,e3.le r1,v,hy,BC ?_⟩;rw[g1];exact Fz (g2.trans q1)
     ·obtain⟨k3,w3,r3,e3,q3⟩:=q2 { fr with todo:=.inRangeFunc lb::kk',defers:=mark'++fr.defers } cs;refine⟨k3,w3,r3,e1.trans e3,e3.le r1,?_⟩;have s0:Steps P (lone fr cs w) (lone fr0 ({ fr with todo:=.inRangeFunc lb::kk',defers:=mark'++fr.defers } :: cs) w2):=by
       refine .one ?_;cases hs with
       |enter=>exact step_lone_go (by show(stepG P true (gor fr cs) w).bare=_;rw[g1];exact Hp (g2.trans q1) (by simp))
       |round=>exact step_lone_go (by show(stepG P true (gor fr cs) w).bare=_;rw[g1];exact HU (g2.trans q1))
      cases x with
      |ret y=>obtain⟨v,hy,s1⟩:=q3;exact⟨v,hy,s0.trans s1⟩
      |pan ch=>obtain⟨chain,hy,s1⟩:=q3;exact⟨chain,hy,s0.trans s1⟩
    split at he
    ·rename_i y h3 rc3 hc;obtain⟨k3,w3,r3,e3,le3,v,hy,s1⟩:=gen hc;have hf3:=hf.mono (e3.le hr);refine pass2 e3 r3 s1 (tmps1:=tmps) (todo1:=.endRangeFunc l::kk) (defs1:=mark++defs) ?_ he;simp only[Frame.finish];refine⟨hf3.fn,hf3.tmps,?_,DRL.append (hmk.mono le3) hf3.defs,hf3.mode,hf3.kind,hf3.round,hf3.early⟩;simp only[IR];exact⟨lb,kk',rfl,le3.rho _ _ hlb,hi.mono (e3.le hr)⟩
    ·rename_i ch h3 rc3 hc;obtain⟨k3,w3,r3,e3,le3,chain,hy,s1⟩:=gen hc;have hf3:=hf.mono (e3.le hr);refine punw e3 r3 s1 (m:=.pan ch) (tmps1:=tmps) (defs1:=mark++defs) ?_ he;simp only[Frame.raise,hf.mode];exact⟨hf3.fn,hf3.tmps,DRL.append (hmk.mono le3) hf3.defs,⟨chain,rfl,hy⟩,hf3.kind,hf3.round,hf3.early⟩
    ·cases he
   |refuse why=>simp only[ev]at he;cases he
  |inBlock id=>obtain⟨kk',ht,hi⟩:=htodo.head (by constructor<;>intro _ e<;>cases e);simp only[ev]at he;exact pass (IQ hf.mode ht (.inr (.inr (.inl ⟨_,rfl⟩)))) hi he
  |inScope id=>obtain⟨kk',ht,hi⟩:=htodo.head (by constructor<;>intro _ e<;>cases e);simp only[ev]at he;exact pass (IQ hf.mode ht (.inr (.inr (.inr (.inl ⟨_,rfl⟩))))) hi he
  |inLoop a=>obtain⟨kk',ht,hi⟩:=htodo.head (by constructor<;>intro _ e<;>cases e);simp only[ev]at he;exact pass (V5 hf.mode (.inr ht)) (.cons ⟨fun _ e=>(nomatch e),fun _ e=>(nomatch e)⟩ (.cons ⟨fun _ e=>(nomatch e),fun _ e=>(nomatch e)⟩ hi)) he
  |inRegion ops is=>
   obtain⟨kk',ht,hi⟩:=htodo.head (by constructor<;>intro _ e<;>cases e);cases is with
   |nil=>simp only[ev]at he;exact pass (IQ hf.mode ht (.inr (.inr (.inr (.inr ⟨_,rfl⟩))))) hi he
   |cons i rest=>
    simp only[ev]at he;split at he;case h_1=>cases he
    rename_i o ho;have hfin:=fun {x:AV} {v:Value} {t:T AV} {k1:K} {w1:World} (hle:Le k k1 w w1) (hd:AW c.n o.dst x tmps=some t) (hv:VR k1 w1 x v)=>(hf.mono hle).fin ho hd hv
    have hle0:=(Ev.refl k h w).le hr;have hund:VR k w AM undef:=by simp only[AM,VR];exact⟨#[],rfl,by simp only[VRL]⟩
    split at he
    ·cases he
    ·rename_i hw;have hw':=GG (ts:=fr.tmps) (fun j want d _ _=>hf.tmps.2 d) hw;split at he;case h_2=>cases he
     rename_i t hd;exact pass2 (Ev.refl _ _ _) hr (VZ hf.mode ht ho hw') (hfin hle0 hd hund) he
    ·rename_i hw;have hw':=GG (ts:=fr.tmps) (fun j want d _ _=>hf.tmps.2 d) hw;have hask:=fun {a:Ask} (ha:B4 E o (Bj E tmps) h=some a)=>Ff hE hk hr (o:=o) (ev:=Bj E tmps) (ρ:=fr.eval) (fun x _=>Hm hg hf x) ha
     have nodefer:∀{a:Ask},B4 E o (Bj E tmps) h=some a→(∀d,a≠.defer d)→∀cl,o.op≠.defer cl:=by
      intro a ha hn cl hop;simp only[B4,hop]at ha;split at ha
      ·cases ha
      ·cases ha;exact hn _ rfl
      ·split at ha
       ·cases ha;exact hn _ rfl
       ·cases ha
     have notcall:∀d wr r sv kk,fr.todo≠.call d wr r sv::kk:=by intro d wr r sv kk;rw[ht];simp
     split at he
     ·
      rename_i v h1 ha;have hst:=FM (P:=P) (w:=w) (cs:=cs) hf.mode ht ho hw' (.inr (nodefer ha nofun));obtain⟨nx,w1,k1,e1,e2,r1,e3⟩:=hask ha;split at he;case h_2=>cases he
      rename_i t hd;rcases e2 with⟨u,rfl,hu⟩|⟨rfl,rfl⟩
      ·exact pass2 e3 r1 (BC (by rw[hst];exact Fz e1)) (hfin (e3.le hr) hd hu) he
      ·exact pass2 e3 r1 (BC (by rw[hst];exact Ms e1)) (hfin (e3.le hr) hd (VR.mono (e3.le hr) _ _ hund)) he
     ·
      rename_i fv args ha;have hst:=FM (P:=P) (w:=w) (cs:=cs) hf.mode ht ho hw' (.inr (nodefer ha nofun));obtain⟨fn,first,captured,vs,g1,g2,g3⟩:=hask ha;split at he
      ·rename_i v h1 _ hc;obtain⟨nx,w1,e1,e2⟩:=(ih (.call fv args .normal) h .no _ _ _ hc k w fn first captured vs hk hr hg g1 g2).1 rfl rfl;split at he;case h_2=>cases he
       rename_i t hd;rcases e2 with⟨x,u,k1,q1,rfl,hu,r1,e3⟩|⟨fr0,hs,e2⟩
       ·cases q1;exact pass2 e3 r1 (BC (by rw[hst];exact Fz (g3.trans e1))) (hfin (e3.le hr) hd hu) he
       ·obtain⟨k1,w2,r1,e3,u,hu,s1⟩:=e2 fr cs;refine pass2 e3 r1 (.trans (.one ?_) s1) (hfin (e3.le hr) hd hu) he;cases hs with
        |enter=>exact step_lone_go (by show(stepG P true (gor fr cs) w).bare=_;rw[hst];exact Hp (g3.trans e1) notcall)
        |round=>exact step_lone_go (by show(stepG P true (gor fr cs) w).bare=_;rw[hst];exact HU (g3.trans e1))
      ·rename_i ch h1 _ hc;obtain⟨nx,w1,e1,e2⟩:=(ih (.call fv args .normal) h .no _ _ _ hc k w fn first captured vs hk hr hg g1 g2).1 rfl rfl;rcases e2 with⟨x,u,k1,q1,_⟩|⟨fr0,hs,e2⟩
       ·cases q1
       ·obtain⟨k1,w2,r1,e3,chain,hu,s1⟩:=e2 fr cs;rw[raise]at s1;refine punw e3 r1 (.trans (.one ?_) s1) ((hf.mono (e3.le hr)).toFU (m:=.pan ch) ⟨chain,rfl,hu⟩) he;cases hs with
        |enter=>exact step_lone_go (by show(stepG P true (gor fr cs) w).bare=_;rw[hst];exact Hp (g3.trans e1) notcall)
        |round=>exact step_lone_go (by show(stepG P true (gor fr cs) w).bare=_;rw[hst];exact HU (g3.trans e1))
      ·cases he
     ·
      rename_i d ha;split at he;case h_2=>cases he
      rename_i t hcr hd;have hro:=hf.round;rw[hcr]at hro;have hst:=FM (P:=P) (w:=w) (cs:=cs) hf.mode ht ho hw' (.inl hro);obtain⟨dd,e1,e2⟩:=hask ha;have hf2:FR k w c tmps (.inRegion ops (i::rest)::kk) (d::defs) { fr with defers:=dd::fr.defers }:=⟨hf.fn,hf.tmps,hf.todo,⟨_,_,rfl,e2,hf.defs⟩,hf.mode,hf.kind,hf.round,hf.early⟩;exact pass2 (Ev.refl _ _ _) hr (BC (by rw[hst];exact YY e1)) (hf2.fin ho hd hund) he
     ·
      rename_i ha;split at he
      ·cases he
      rename_i hcr;have hro:=hf.round;rw[hcr]at hro;have hst:=FM (P:=P) (w:=w) (cs:=cs) hf.mode ht ho hw' (.inl hro);have e1:=hask ha;simp only[Jk]at e1;have none_case:(∀v,rc≠.can v)→tryRecover fr cs=none:=by
       intro hn;have hk':=hf.kind;unfold tryRecover;rcases hf.early with e|e
       ·rw[hk',e]
       ·rw[hk',e];cases cs with
        |nil=>rfl|cons caller rest2=>
         have:NoRec caller.mode:=by
          cases rc with
          |can v=>exact absurd rfl (hn v)|no=>exact hrc e caller rest2 rfl|used=>exact hrc e caller rest2 rfl
         simp only;split
         ·rename_i v older hm;exact absurd hm (this v older)
         ·rfl
      split at he
      ·rename_i v;split at he;case h_2=>cases he
       rename_i t hd;obtain⟨hkd,caller,rest2,u,older,rfl,hm,hu⟩:=hrc;have htr:tryRecover fr (caller::rest2)=some (u,{ caller with mode:=.panicking ({ v:=u,recovered:=true } :: older) } :: rest2):=by have hk':=hf.kind;rw[hkd]at hk';simp only[tryRecover,hk',hm]
       have s1:Steps P (lone fr (caller::rest2) w) (lone (fr.finish u) ({ caller with mode:=.panicking ({ v:=u,recovered:=true } :: older) } :: rest2) w):=BC (by rw[hst,NZ e1 hro,htr]);have f1:=hfin hle0 hd hu;obtain⟨k2,w2,r2,e2,q⟩:=ih _ _ _ _ _ _ he k w _ ({ caller with mode:=.panicking ({ v:=u,recovered:=true } :: older) } :: rest2) hk hr hg f1 (fun _ caller' rest' hcs=>by cases hcs;intro v' older' hm';cases hm') hround;rw[hcr]at q;obtain⟨cs',fr',a1,a2,a3⟩:=q;refine⟨k2,w2,r2,e2,?_⟩;rw[hcr];refine⟨cs',fr',?_,s1.trans a2,a3⟩;rcases a1 with⟨rfl,rfl⟩|⟨_,_,_,_,_,a,_⟩
       ·exact .inr ⟨v,caller,rest2,u,older,rfl,rfl,rfl,hm,rfl⟩
       ·cases a
      ·rename_i hn;split at he;case h_2=>cases he
       rename_i t hd;have htr:=none_case (fun v e=>hn v e);exact pass2 (Ev.refl _ _ _) hr (BC (by rw[hst,NZ e1 hro,htr])) (hfin hle0 hd (by simp only[VR])) he
     ·
      rename_i v ha;have hst:=FM (P:=P) (w:=w) (cs:=cs) hf.mode ht ho hw' (.inr (nodefer ha nofun));obtain⟨u,e1,hu⟩:=hask ha;refine punw (Ev.refl _ _ _) hr (BC (by rw[hst,YG e1,raise])) (hf.toFU (m:=.pan [(v,false)]) ⟨_,rfl,⟨_,_,rfl,hu,⟨rfl,rfl⟩,rfl,rfl⟩⟩) he
     ·cases he
  |endRangeFunc l=>
   simp only[IR]at htodo;obtain⟨b,kk',ht,hb,hi⟩:=htodo;simp only[ev]at he;split at he;case h_2=>cases he
   rename_i stt pend fn m ts ps as' bd d hgl;obtain⟨_,r,db,g1,g2,g3,g4⟩:=IU hr hgl hb;obtain⟨s1,s2,s3⟩:=OJ (P:=P) hr (st':=.exhausted) (pend':=pend) hgl hb g1;have hend:stt≠.busy→(Instr.endLoop b).run P w=.ok pend { w with heap:=w.heap.setIfInBounds b (.loop { r with state:=.exhausted,pending:=pend }) }:=by
    intro hne;have:(r.state==LoopState.busy)=false:=by rw[g2];cases stt<;>first|rfl|exact absurd rfl hne
    simp only[Instr.endLoop,zJ,run_getLoop g1,zF,this,g3];simp[s1]
   have fin:stt≠.busy→ev E n (.run c tmps (match (generalizing:=false) pend with|some j=>.code j::kk|none=>kk) defs) (h.set l (some (.loop .exhausted pend fn m ts ps as' bd d))) rc=some (res,h',rc')→CW P k h w c rc cs fr res h' rc':=by
    intro hne he;refine pass2 s3 s2 (st_erf hf.mode ht (hend hne)) ((hf.mono (s3.le hr)).to ?_) he;cases pend with
    |none=>simpa using hi.mono (s3.le hr)|some j=>exact IR.cons (by constructor<;>intro _ e<;>cases e) (hi.mono (s3.le hr))
   cases stt with
   |busy=>cases he|ready=>exact fin nofun (by cases pend<;>exact he)
   |done=>exact fin nofun (by cases pend<;>exact he)
   |exhausted=>exact fin nofun (by cases pend<;>exact he)
  |beginRound=>
   obtain⟨kk',ht,hi⟩:=htodo.head (by constructor<;>intro _ e<;>cases e);have hro:=hf.round;simp only[ev]at he;cases hcr:c.round with
   |none=>rw[hcr]at he;cases he
   |some l=>
    simp only[hcr]at he hro;obtain⟨b,hb,hro⟩:=hro;split at he;case h_2=>cases he
    rename_i pend fn m ts ps as' bd d hgl;obtain⟨_,r,db,g1,g2,g3,g4⟩:=IU hr hgl hb;obtain⟨s1,s2,s3⟩:=OJ (P:=P) hr (st':=.busy) (pend':=pend) hgl hb g1;have hbeg:(Instr.beginRound b).run P w=.ok () { w with heap:=w.heap.setIfInBounds b (.loop { r with state:=.busy,pending:=pend }) }:=by simp only[Instr.beginRound,zJ,run_getLoop g1,zF,g3,s1,g2,zP]
    exact pass2 s3 s2 (YB hf.mode ht hro hbeg) ((hf.mono (s3.le hr)).to (hi.mono (s3.le hr))) he
  |inRangeFunc l=>simp only[ev]at he;cases he
  |call=>simp only[ev]at he;cases he
  |extern=>simp only[ev]at he;cases he
end
section
variable {P:Program}{E:Env}{k:K}{h h':AH}{w:World}
def resF (ts:Array Value):ResultVar→Sem Value
 |.tmp t=>pure (ts.getD t undef)|.cell a t=>do loadVar t (←asAddr (ts.getD a undef))
theorem UE (F:Func)(ts:Array Value):results F ts=(do let vs ←F.results.mapM (resF ts);pure (if h:vs.size=1 then vs[0] else .tuple vs)):=by
 have:resF ts=(fun (r:ResultVar)=>match r with
  |.tmp t=>pure (ts.getD t undef)|.cell a t=>do loadVar t (←asAddr (ts.getD a undef))):=by
  funext x;cases x<;>rfl
 rw[this];rfl
theorem Gx (hE:Az P E)(hr:HR k h w){n:Nat}{tmps:T AV}{ts:Array Value}(ht:TR k w n tmps ts):∀{rs:List ResultVar} {vs:List AV},Ec E h tmps rs=some vs→
 ∃us,(rs.mapM (resF ts)).run P w=.ok us w∧VRL k w vs us
 |[],vs,hv=>by simp only[Ec,zC]at hv;subst hv;exact⟨[],by simp,by simp only[VRL]⟩
 |.tmp t::r,vs,hv=>by
  simp only[Ec]at hv;split at hv;case h_2=>cases hv
  rename_i vs' hr';cases hv;obtain⟨us,h1,h2⟩:=Gx hE hr ht hr';refine⟨ts.getD t undef::us,?_,?_⟩
  ·simp only[List.mapM_cons,resF,zJ,zP,zF,h1]
  ·simp only[VRL];exact⟨_,_,rfl,ht.2 t,h2⟩
 |.cell a t::r,vs,hv=>by
  simp only[Ec]at hv;split at hv;case h_2=>cases hv
  rename_i i hi;split at hv;case h_2=>cases hv
  rename_i v vs' hl hr';cases hv;obtain⟨us,h1,h2⟩:=Gx hE hr ht hr';obtain⟨ad,u,g1,g2,g3⟩:=LK hE hi hr (ht.2 a) hl;refine⟨u::us,?_,?_⟩
  ·simp only[List.mapM_cons,resF,zJ,zP,zF,h1,g1,asAddr,g2]
  ·simp only[VRL];exact⟨_,_,rfl,g3,h2⟩
theorem OS (hE:Az P E)(hr:HR k h w){n:Nat}{tmps:T AV}{ts:Array Value}(ht:TR k w n tmps ts){F:Func}{vs:List AV}(hv:Ec E h tmps F.results.toList=some vs) :
 ∃v,(results F ts).run P w=.ok v w∧VR k w (M4 vs) v:=by
 obtain⟨us,h1,h2⟩:=Gx hE hr ht hv;have hrun:(results F ts).run P w=.ok (if hs:us.toArray.size=1 then us.toArray[0] else .tuple us.toArray) w:=by rw[UE,Array.mapM_eq_mapM_toList];simp only[zJ,Sem.run_map,h1,zF,zP]
 refine⟨_,hrun,?_⟩;cases vs with
 |nil=>simp only[VRL]at h2;subst h2;simp only[M4,VR];exact⟨_,rfl,by simp[VRL]⟩
 |cons x r=>cases r with
  |nil=>simp only[VRL]at h2;obtain⟨v,_,rfl,h3,rfl⟩:=h2;exact h3
  |cons y r=>have hl:=h2.length;simp only[List.length_cons]at hl;rw[dif_neg (by simp[hl])];simp only[M4,VR];exact⟨_,rfl,by simpa using h2⟩
theorem YM (hE:Az P E){n:Nat}(ih:∀cmd h rc res h' rc',ev E n cmd h rc=some (res,h',rc')→Nf P E cmd h rc res h' rc')
 {c:Ctx} {m:Gv} {tmps:T AV} {defs:List AD} {h:AH} {rc:RC} {res:AG} {h':AH} {rc':RC} (he:ev E (n+1) (.unw c m tmps defs) h rc=some (res,h',rc')):UnwOk P E c m tmps defs h rc res h' rc':=by
 intro k w fr cs hk hr hg hf hrc hround;have hd:=hf.defs;have hm:=hf.mode;have hne:fr.mode≠.run:=by
  intro e;cases m with
  |ret=>simp only[L0]at hm;rw[e]at hm;cases hm
  |pan ch=>obtain⟨chain,h1,_⟩:=hm;rw[e]at h1;cases h1
 have punw:∀{k1:K} {h1:AH} {w1:World} {fr1:Frame} {m1:Gv} {defs1:List AD},Ev k k1 h h1 w w1→HR k1 h1 w1→Steps P (lone fr cs w) (lone fr1 cs w1)→FU k1 w1 c m1 tmps defs1 fr1→ev E n (.unw c m1 tmps defs1) h1 rc=some (res,h',rc')→CW P k h w c rc cs fr res h' rc':=
  fun e1 r1 hs f1 he=>CW.pre e1 hs (ih _ _ _ _ _ _ he _ _ _ cs (e1.sz.trans hk) r1 (hg.mono (e1.le hr)) f1 (hrc.mono (e1.le hr)) hround)
 cases hcr:c.round with
 |some l=>
  simp only[ev,hcr]at he;split at he;case h_2=>cases he
  rename_i ch F hF;cases he;simp only[DRL]at hd;obtain⟨chain,h1,h2⟩:=hm;refine⟨k,w,hr,Ev.refl _ _ _,?_⟩;rw[hcr];intro caller rest hcs;subst hcs;exact⟨chain,h2,.one (step_leave_panicked ⟨h1,hd,F,by rw[hf.fn];exact(hE.fn _ _ hF).1⟩)⟩
 |none=>
  have hro:=hf.round;rw[hcr]at hro;cases defs with
  |nil=>
   simp only[DRL]at hd;cases m with
   |ret=>
    simp only[ev,hcr]at he;split at he;case h_2=>cases he
    rename_i F hF;split at he;case h_2=>cases he
    rename_i vs hv;cases he;obtain⟨v,h1,h2⟩:=OS hE hr hf.tmps hv;refine⟨k,w,hr,Ev.refl _ _ _,?_⟩;rw[hcr];exact⟨cs,fr,.inl ⟨rfl,rfl⟩,.refl _ _,hf.fn,hf.kind,hro,hd,F,(hE.fn _ _ hF).1,hm,v,h1,h2⟩
   |pan ch=>
    simp only[ev,hcr]at he;split at he;case h_2=>cases he
    rename_i F hF;cases he;refine⟨k,w,hr,Ev.refl _ _ _,?_⟩;rw[hcr];exact⟨cs,fr,.inl ⟨rfl,rfl⟩,.refl _ _,hf.fn,hf.kind,hro,hd,F,(hE.fn _ _ hF).1,hm⟩
  |cons d ds=>
   obtain⟨dd,ds',hdd,h1,h2⟩:=hd;cases d with
   |mark o=>
    simp only[ev,hcr]at he;split at he;case h_2=>cases he
    rename_i hgo;obtain⟨b,hb,rfl⟩:=h1;obtain⟨w1,t1,t2,t3⟩:=UU (P:=P) hr hgo hb;have le:=t3.le hr;refine punw t3 t2 (Tl hne hdd t1) ⟨hf.fn,hf.tmps.mono le,h2.mono le,?_,hf.kind,by rw[hcr];exact hro,hf.early⟩ he;cases m with
    |ret=>exact hm|pan ch=>obtain⟨chain,q1,q2⟩:=hm;exact⟨chain,q1,q2.mono le⟩
   |call fv args=>
    simp only[ev,hcr]at he;split at he
    ·rename_i x h1' rc1 hc;obtain⟨fv',vs,g1,g2,g3⟩:=h1;cases fv'<;>simp only at g3;rename_i fn first captured
     subst g3;obtain⟨nx,w1,fr0,q1,q2,q3⟩:=(ih (.call fv args .deferred) h (NM m) _ _ _ hc k w fn first captured vs hk hr hg g1 g2).2 rfl m x rfl rfl;obtain⟨k2,w2,mode',r2,e2,m2,s2⟩:=q3 { fr with defers:=ds' } cs hm;have le:=e2.le hr;refine punw e2 r2 ((RF hne hdd q1 q2).trans s2) ⟨hf.fn,hf.tmps.mono le,h2.mono le,m2,hf.kind,by rw[hcr];exact hro,hf.early⟩ he
    ·cases he
    ·cases he
theorem Fm (hE:Az P E){f:FuncId}{F:Func}(hF:E.fn f=some F){b:Code}(hb:F.body=some b){vs:Array Value} : (callFunc f vs).run P w=.ok (.enter f vs) w:=by obtain⟨h1,h2⟩:=hE.fn f F hF;simp[callFunc,h1,h2,hb]
theorem SR (hE:Az P E)(hP:B2 P E){n:Nat}(ih:∀cmd h rc res h' rc',ev E n cmd h rc=some (res,h',rc')→Nf P E cmd h rc res h' rc')
 {f:FuncId} {args:List AV} {kind:CallKind} {rc:RC} {res:AG} {rc':RC}
 (he:(match (generalizing:=false) Sa E f kind args h with
  |some (v,h')=>some (AG.ret v,h',rc)|none=>match panA E f kind args h with
   |some (ch,h')=>some (AG.pan ch,h',rc)|none=>match E.fn f with
    |some F=>match F.body with
     |some b=>bif Nat.ble args.length F.ntmps&&Nat.blt F.ntmps B9 then ev E n (.run ⟨f,F.ntmps,kind,none⟩ (Dy 0 args .e) [.code b] []) h rc else none
     |none=>none
    |none=>none)=some (res,h',rc'))
 (hk:k.sz=⟨P.cellsOf,E.sel,E.tok,E.str,E.mp⟩) (hr:HR k h w) (hg:B3 E k w) {vs:Array Value} (hv:VRL k w args vs.toList) :
 (kind=.normal→rc=.no→CQ P k h w res h' ((callFunc f vs).run P w))∧(kind=.deferred→∀m x,rc=NM m→res=.ret x→ZK P k h w m h' rc' ((callFunc f vs).run P w)):=by
 cases hp:Sa E f kind args h with
 |some q=>
  obtain⟨v,h1⟩:=q;rw[hp]at he;cases he;unfold Sa at hp;cases hpf:E.prim f with
  |none=>rw[hpf]at hp;cases hp
  |some p=>
   rw[hpf]at hp;cases kind<;>simp only at hp<;>try (cases hp;done)
   exact⟨fun _ _=>hP.1 f p hpf k h w args vs v h' hk hr hg hv hp,nofun⟩
 |none=>
  rw[hp]at he;simp only at he;cases hq:panA E f kind args h with
  |some q=>
   obtain⟨ch,h1⟩:=q;rw[hq]at he;cases he;unfold panA at hq;cases hpf:E.pan f with
   |none=>rw[hpf]at hq;cases hq
   |some p=>
    rw[hpf]at hq;cases kind<;>simp only at hq<;>try (cases hq;done)
    exact⟨fun _ _=>hP.2 f p hpf k h w args vs ch h' hk hr hg hv hq,nofun⟩
  |none=>
  rw[hq]at he;simp only at he;split at he;case h_2=>cases he
  rename_i F hF;split at he;case h_2=>cases he
  rename_i b hb;cases hc:(Nat.ble args.length F.ntmps&&Nat.blt F.ntmps B9) with
  |false=>rw[hc]at he;cases he
  |true=>
   rw[hc]at he;simp only[cond_true]at he;simp only[zA]at hc;have hn1:=zE hc.1;have hn2:F.ntmps<B9:=zE hc.2;have hrun:=Fm (w:=w) hE hF hb (vs:=vs);have hPF:=(hE.fn f F hF).1;have hbegin:(kind=.normal∨kind=.deferred)→∀cs,RCR k w rc kind cs→CW P k h w ⟨f,F.ntmps,kind,none⟩ rc cs (Frame.enter P f vs kind) res h' rc':=by
    intro hkind cs hrc;refine ih _ _ _ _ _ _ he k w (Frame.enter P f vs kind) cs hk hr hg ⟨rfl,?_,?_,rfl,rfl,rfl,rfl,hkind⟩ hrc nofun
    ·simp only[Frame.enter,hPF,Option.map_some,Option.getD_some];exact F6 hv hn1 hn2
    ·simp[Frame.enter,hPF,hb,IR]
   constructor
   ·intro hkind hrc;subst hkind hrc;refine⟨_,w,hrun,.inr ⟨_,.enter f vs,fun caller cs=>?_⟩⟩;obtain⟨k',w',r1,e1,cs',fr',a1,s1,q1,q2,q3,q4,F',q5,q6⟩:=hbegin (.inl rfl) (caller::cs) nofun;obtain⟨rfl,rfl⟩:rc'=.no∧cs'=caller::cs:=by
     rcases a1 with h1|⟨_,_,_,_,_,h1,_⟩
     ·exact h1
     ·cases h1
    refine⟨k',w',r1,e1,?_⟩;cases res with
    |ret x=>obtain⟨q6,v,q7,q8⟩:=q6;exact⟨v,q8,s1.trans (.one (step_leave_returned ⟨q6,q4,q2,F',by rw[q1];exact q5,q7⟩))⟩
    |pan ch=>obtain⟨chain,q6,q7⟩:=q6;exact⟨chain,q7,s1.trans (.one (step_leave_panicked ⟨q6,q4,F',by rw[q1];exact q5⟩))⟩
   ·intro hkind m x hrc hres;subst hkind hrc hres;refine⟨_,w,_,hrun,.enter f vs,fun caller cs hm=>?_⟩;have noRec:∀{ch:List (AV×Bool)} {chain:List PanicEntry},CR k w ch chain→(∀e∈chain,e.recovered=false∧e.goexit=false):=by
     intro ch
     induction ch with
     |nil=>intro chain hc e he;simp only[CR]at hc;subst hc;cases he
     |cons p ch ihc=>
      intro chain hc e he;obtain⟨v,r⟩:=p;obtain⟨e',c',rfl,_,h3,h4,h5⟩:=hc;rcases zH.1 he with rfl|he
      ·exact⟨h3.1,h4⟩
      ·exact ihc h5 e he
    have hRCR:RCR k w (NM m) .deferred (caller::cs):=by
     cases m with
     |ret=>simp only[NM,RCR];intro _ c' r' hcs v older hmode;cases hcs;simp only[L0]at hm;rw[hm]at hmode;cases hmode
     |pan ch=>
      obtain⟨chain,h1,h2⟩:=hm;cases ch with
      |nil=>simp only[CR]at h2;subst h2;simp only[NM,JQ,RCR];intro _ c' r' hcs v older hmode;cases hcs;rw[h1]at hmode;cases hmode
      |cons p ch=>obtain⟨v,r⟩:=p;obtain⟨e',c',rfl,g2,⟨g3,rfl⟩,g4,g5⟩:=h2;simp only[NM,JQ,RCR];obtain⟨u,r,ge⟩:=e';simp only at g2 g3 g4;subst g3 g4;exact⟨trivial,caller,cs,u,c',rfl,h1,g2⟩
    obtain⟨k',w',r1,e1,cs',fr',a1,s1,q1,q2,q3,q4,F',q5,q6,v,q7,q8⟩:=hbegin (.inr rfl) (caller::cs) hRCR;have le:=e1.le hr;rcases a1 with⟨rfl,rfl⟩|⟨v1,caller1,rest1,u1,older1,b1,rfl,b3,b4,rfl⟩
    ·refine⟨k',w',caller.mode,r1,e1,?_,s1.trans (Hb q6 q4 q2 (by rw[q1];exact q5) q7 (.inr ⟨?_,rfl⟩))⟩
     ·have:settle m (NM m)=m:=by
       cases m with
       |ret=>rfl|pan ch=>simp only[NM];cases hl:JQ ch<;>rfl
      rw[this];cases m with
      |ret=>exact hm|pan ch=>obtain⟨chain,h1,h2⟩:=hm;exact⟨chain,h1,h2.mono le⟩
     ·intro e chain hmode;cases m with
      |ret=>simp only[L0]at hm;rw[hm]at hmode;cases hmode
      |pan ch=>obtain⟨chain',h1,h2⟩:=hm;rw[h1]at hmode;cases hmode;exact(noRec h2 e (by simp)).1
    ·cases b3;refine⟨k',w',.returning,r1,e1,rfl,s1.trans (Hb q6 q4 q2 (by rw[q1];exact q5) q7 (.inl ⟨u1,older1,rfl,?_,rfl⟩))⟩;intro e hmem;cases m with
     |ret=>simp only[L0]at hm;rw[hm]at b4;cases b4
     |pan ch=>obtain⟨chain',h1,h2⟩:=hm;rw[h1]at b4;cases b4;exact(noRec h2 e (zO _ hmem)).2
theorem Xz (hE:Az P E)(hP:B2 P E){n:Nat}(ih:∀cmd h rc res h' rc',ev E n cmd h rc=some (res,h',rc')→Nf P E cmd h rc res h' rc')
 {fv:AV} {args:List AV} {kind:CallKind} {h:AH} {rc:RC} {res:AG} {h':AH} {rc':RC} (he:ev E (n+1) (.call fv args kind) h rc=some (res,h',rc')):Rd P E fv args kind h rc res h' rc':=by
 intro k w fn first captured vs hk hr hg hfv hv
 obtain⟨fn0,a,b,rfl⟩:=PI he;cases fn0 with
 |func f=>
  simp only[VR]at hfv;obtain⟨fs,cs,h1,h2,h3⟩:=hfv;cases h1;simp only[ev]at he;have e:invoke (.fn (.func f) captured) (first++vs)=callFunc f ((first++vs)++captured):=by rfl
  rw[e];refine SR hE hP ih he hk hr hg ?_;rw[Array.toList_append,Array.toList_append,List.append_assoc];exact h2.append (hv.append h3)
 |method name=>
  simp only[VR]at hfv;obtain⟨fs,cs,h1,h2,h3⟩:=hfv;cases h1;simp only[ev]at he;split at he;case h_2=>cases he
  rename_i t x rest hargs;split at he;case h_2=>cases he
  rename_i f hm;have hall:=h2.append hv;rw[hargs]at hall;simp only[VRL,VR]at hall;obtain⟨v0,vs0,e0,⟨y,rfl,hy⟩,hrest⟩:=hall;have e1:first++vs=(Value.iface t y::vs0).toArray:=by apply Array.toList_inj.1;simp[e0]
  have e2:(invoke (.fn (.method name) captured) (first++vs)).run P w=(callFunc f (#[y]++vs0.toArray)).run P w:=by
   rw[e1];have e3:(Value.iface t y::vs0).toArray.extract 1 (Value.iface t y::vs0).toArray.size=vs0.toArray:=by apply Array.toList_inj.1;simp
   simp only[invoke];have e4:(Value.iface t y::vs0).toArray[0]?=some (Value.iface t y):=by simp
   rw[e4];simp only[e3];have:=hE.meth t name f hm y w;simp[callMethod,this]
  rw[e2];refine SR hE hP ih he hk hr hg ?_;simp only[Array.toList_append,List.cons_append,List.nil_append,VRL];exact⟨_,_,rfl,hy,hrest⟩
 |methodOf t name=>simp only[ev]at he;cases he
 |via t p f q=>simp only[ev]at he;cases he
 |yield l=>
  simp only[VR]at hfv;obtain⟨lb,hb,h1,_,_⟩:=hfv;cases h1;cases kind<;>simp only[ev]at he<;>try (cases he;done)
  refine⟨fun _ hrc=>?_,nofun⟩;subst hrc;split at he;case h_2=>cases he
  rename_i st pend fnn m ts ps as' bd d hgl;cases hc:(Nat.beq args.length ps.length&&ps.all fun p=>Nat.blt p m&&Nat.blt p B9) with
  |false=>rw[hc]at he;cases he
  |true=>
   rw[hc]at he;simp only[cond_true]at he;simp only[zA]at hc;obtain⟨tmps,g1,g2⟩:=SH (P:=P) hr hgl hb hv (zD hc.1) hc.2;refine⟨_,w,?_,.inr ⟨_,.round lb fnn tmps as' bd,fun caller cs=>?_⟩⟩
   ·rw[←g1];simp[invoke]
   ·obtain⟨k',w',r1,e1,q⟩:=ih _ _ _ _ _ _ he k w (Frame.round lb fnn tmps as' bd .normal) (caller::cs) hk hr hg
     ⟨rfl,g2,by simp[Frame.round,IR],rfl,rfl,rfl,⟨lb,hb,rfl⟩,.inl rfl⟩ nofun (fun _=>rfl)
    exact⟨k',w',r1,e1,q caller cs rfl⟩
theorem Sk (hE:Az P E)(hP:B2 P E)(hD:U1 P E):∀n cmd h rc res h' rc',ev E n cmd h rc=some (res,h',rc')→Nf P E cmd h rc res h' rc'
 |0,cmd,h,rc,res,h',rc',he=>by cases cmd<;>(simp only[ev]at he;cases he)
 |n+1,cmd,h,rc,res,h',rc',he=>by
  have ih:=Sk hE hP hD n;cases cmd with
  |run c tmps todo defs=>exact Aak hE hP hD ih he|unw c m tmps defs=>exact YM hE ih he|call fv args kind=>exact Xz hE hP ih he
end
theorem Nz (acc:Array Nat)(j:Nat):∀(l:List Edge) (s:Nat),(l.foldl (fun s e=>if Region.binds .any e then s ||| 2^e.on ||| acc.getD e.on 0 else s) s).testBit j=true→
 s.testBit j=true∨∃e∈l,Region.binds .any e=true∧(j=e.on∨(acc.getD e.on 0).testBit j=true)
 |[],s,h=>.inl h|e::l,s,h=>by
  simp only[List.foldl_cons]at h;rcases Nz acc j l _ h with h1|⟨e',h1,h2⟩
  ·by_cases hb:Region.binds .any e=true
   ·rw[if_pos hb]at h1;simp only[Nat.testBit_or,Bool.or_eq_true,Nat.testBit_two_pow,decide_eq_true_eq]at h1;rcases h1 with(h1|h1)|h1
    ·exact .inl h1
    ·exact .inr ⟨e,by simp,hb,.inl h1.symm⟩
    ·exact .inr ⟨e,by simp,hb,.inr h1⟩
   ·rw[if_neg hb]at h1;exact .inl h1
  ·exact .inr ⟨e',by simp[h1],h2⟩
theorem LZ (ops:Array Oper){i j:Nat}(h:Be (Region.before ops) i j=true) :
 ∃o,ops[i]?=some o∧∃e∈o.after,Region.binds .any e=true∧(j=e.on∨Be (Region.before ops) e.on j=true):=by
 have key:(Region.before ops).size=ops.size∧∀i j,((Region.before ops).getD i 0).testBit j=true→∃o,ops[i]?=some o∧∃e∈o.after,Region.binds .any e=true∧(j=e.on∨((Region.before ops).getD e.on 0).testBit j=true):=by
  unfold Region.before;refine Array.foldl_induction (as:=ops) (motive:=fun k (acc:Array Nat)=>acc.size=k∧∀i j,(acc.getD i 0).testBit j=true→∃o,ops[i]?=some o∧∃e∈o.after,Region.binds .any e=true∧(j=e.on∨(acc.getD e.on 0).testBit j=true)) ⟨rfl,fun i j h=>by simp at h⟩ ?_;intro i acc ⟨hs,hacc⟩;refine⟨by simp[hs],fun m j h=>?_⟩;have old:∀(x m:Nat),m<acc.size→(acc.push x).getD m 0=acc.getD m 0:=by intro x m hm;simp only[Array.getD_eq_getD_getElem?,Array.getElem?_push,if_neg (show m≠acc.size by omega)]
  have mono:∀(x m:Nat),(acc.getD m 0).testBit j=true→((acc.push x).getD m 0).testBit j=true:=by
   intro x m hm;by_cases hlt:m<acc.size
   ·rw[old x m hlt];exact hm
   ·rw[Array.getD_eq_getD_getElem?,Array.getElem?_eq_none (by omega)]at hm;simp at hm
  by_cases hm:m<acc.size
  ·rw[old _ m hm]at h;obtain⟨o,h1,e,h2,h3,h4⟩:=hacc m j h;exact⟨o,h1,e,h2,h3,h4.imp_right (mono _ _)⟩
  ·by_cases hm2:m=acc.size
   ·subst hm2;have hi:ops[acc.size]?=some ops[i]:=by rw[hs];simp
    refine⟨ops[i],hi,?_⟩;rw[Array.getD_eq_getD_getElem?,Array.getElem?_push,if_pos rfl,Option.getD_some]at h;rw[←Array.foldl_toList]at h;rcases Nz acc j _ _ h with h1|⟨e,h1,h2,h3⟩
    ·simp at h1
    ·exact⟨e,by simpa using h1,h2,h3.imp_right (mono _ _)⟩
   ·rw[Array.getD_eq_getD_getElem?,Array.getElem?_eq_none (by simp;omega)]at h;simp at h
 exact key.2 i j h
structure OO (ops:Array Oper)(bs:Array Nat):Prop where
 down:∀(j:Nat) (q:Oper),ops[j]?=some q→∀e∈q.after,Region.binds .any e=true→e.on<j
 one:∀(i j:Nat) (o q:Oper) (t:Nat),ops[i]?=some o→ops[j]?=some q→o.dst=some t→q.dst=some t→i=j
 look:∀(i j:Nat) (o q:Oper) (t:Nat),ops[i]?=some o→ops[j]?=some q→q.dst=some t→t∈Fp ops o→(j<i∧Be bs i j=true)∨(i≤j∧(j=i∨Be bs j i=true))
theorem apart_spec {ops:Array Oper}{bs:Array Nat}(h:JR ops bs=true):OO ops bs:=by
 unfold JR at h;rw[zB]at h;have lt:∀{i:Nat} {o:Oper},ops[i]?=some o→i∈List.range ops.size:=fun ho=>zQ.2 (Array.getElem?_eq_some_iff.1 ho).1
 have both:∀(i j:Nat) (o q:Oper) (t:Nat),ops[i]?=some o→ops[j]?=some q→q.dst=some t→
  ((!(Fp ops o).contains t||bif Nat.blt j i then Be bs i j else Nat.beq i j||Be bs j i)&&(Nat.beq i j || !decide (o.dst=some t)))=true:=by
  intro i j o q t hi hj ht;have h1:=h j (lt hj);rw[hj]at h1;simp only[ht,zA,zB]at h1;have h2:=h1.2 i (lt hi);rw[hi]at h2;simpa using h2
 refine⟨fun j q hj e he hb=>?_,fun i j o q t hi hj h1 h2=>?_,fun i j o q t hi hj h1 h2=>?_⟩
 ·have h1:=h j (lt hj);rw[hj]at h1;simp only[zA,Array.all_eq_true_iff_forall_mem]at h1;have h2:=h1.1 e he;simp only[hb,Bool.not_true,Bool.false_or]at h2;exact zE h2
 ·have:=both i j o q t hi hj h2;simp only[h1,zA,Bool.or_eq_true]at this;rcases this.2 with h3|h3
  ·exact zD h3
  ·simp at h3
 ·have:=both i j o q t hi hj h1;simp only[zA,Bool.or_eq_true]at this;have hc:(Fp ops o).contains t=true:=by simpa using h2
  have h3:=this.1.resolve_left (by rw[hc];decide);by_cases hlt:j<i
  ·have:Nat.blt j i=true:=Nat.ble_eq_true_of_le hlt;rw[this]at h3;exact .inl ⟨hlt,h3⟩
  ·have:Nat.blt j i=false:=by
    cases hb:Nat.blt j i with
    |false=>rfl|true=>exact absurd (zE hb) hlt
   rw[this]at h3;simp only[cond_false,Bool.or_eq_true]at h3;refine .inr ⟨by omega,?_⟩;rcases h3 with h3|h3
   ·exact .inl (zD h3).symm
   ·exact .inr h3
theorem bit_lt {ops:Array Oper}(ha:OO ops (Region.before ops)):∀(i j:Nat),Be (Region.before ops) i j=true→j<i:=by
 intro i
 induction i using Nat.strongRecOn with
 |_ i ih=>
  intro j h;obtain⟨o,h1,e,h2,h3,h4⟩:=LZ ops h;have hlt:=ha.down i o h1 e h2 h3;rcases h4 with rfl|h4
  ·exact hlt
  ·have:=ih _ hlt _ h4;omega
theorem BA {cn:Nat}{dst:Option Nat}{v:AV}{t t':T AV}(h:AW cn dst v t=some t') :
 (∀x,dst≠some x→T.get AE t' x=T.get AE t x)∧(∀d,dst=some d→d<cn∧d<B9∧T.get AE t' d=some v):=by
 cases dst with
 |none=>simp only[AW,zC]at h;subst h;exact⟨fun _ _=>rfl,fun d hd=>by cases hd⟩
 |some d=>
  simp only[AW]at h;cases hb:(Nat.blt d cn&&Nat.blt d B9) with
  |false=>rw[hb]at h;cases h
  |true=>
   rw[hb]at h;simp only[cond_true,zC]at h;subst h;simp only[zA]at hb;have h1:d<cn:=zE hb.1;have h2:d<B9:=zE hb.2;have hg:∀x,T.get AE (T.put AE t d (some v)) x=if x=d then some v else T.get AE t x:=fun x=>T.Ds 10 t d x _ (by simpa using h2)
   refine⟨fun x hx=>?_,fun d' hd=>?_⟩
   ·rw[hg,if_neg (fun e=>hx (by rw[e]))]
   ·cases hd;exact⟨h1,h2,by rw[hg,if_pos rfl]⟩
section
variable {E:Env}{callf:AV→List AV→AH→Option (AG×AH×RC)}{cn:Nat}{ops:Array Oper}{bs:Array Nat}{base:Nat}
inductive Nu (E:Env)(callf:AV→List AV→AH→Option (AG×AH×RC))(cn:Nat)(ops:Array Oper)(bs:Array Nat)(base i:Nat)(s:DSt):DSt→Prop
 |dead:FF bs s.pan i=true→Nu E callf cn ops bs base i s s
 |skip {o t} : ops[i]?=some o→AZ ops o s.tmps=some false→AW cn o.dst AM s.tmps=some t→Nu E callf cn ops bs base i s { s with log:=(i,s.tmps)::s.log,tmps:=t }
 |f {o t v} : ops[i]?=some o→AZ ops o s.tmps=some true→kindOf E o.op=.f→AW cn o.dst v s.tmps=some t→Nu E callf cn ops bs base i s { s with log:=(i,s.tmps)::s.log,tmps:=t }
 |a {o t x f} : ops[i]?=some o→AZ ops o s.tmps=some true→kindOf E o.op=.a→BT E o.op (Bj E s.tmps)=some (x,f)→AW cn o.dst (f (base+i)) s.tmps=some t→
  Nu E callf cn ops bs base i s { s with log:=(i,s.tmps)::s.log,tmps:=t,pend:=(i,base+i,x)::s.pend }
 |e {o t v h'} : ops[i]?=some o→AZ ops o s.tmps=some true→kindOf E o.op=.e→s.pan=none→(s.old.all fun p=>Be bs i p.1)=true→
  (B4 E o (Bj E s.tmps) (AH.lay s.h (s.pend.filter fun p=>Be bs i p.1))=some (.val v h')∨∃fv args rc,B4 E o (Bj E s.tmps) (AH.lay s.h (s.pend.filter fun p=>Be bs i p.1))=some (.call fv args)∧callf fv args (AH.lay s.h (s.pend.filter fun p=>Be bs i p.1))=some (.ret v,h',rc))→
  AW cn o.dst v s.tmps=some t→
  Nu E callf cn ops bs base i s { s with log:=(i,s.tmps)::s.log,tmps:=t,h:=h',rd:=h',pend:=s.pend.filter fun p=>!Be bs i p.1,old:=(i,s.h)::s.old }
 |p {o ch h' fv args rc} : ops[i]?=some o→AZ ops o s.tmps=some true→kindOf E o.op=.e→s.pan=none→(s.old.all fun p=>Be bs i p.1)=true→
  B4 E o (Bj E s.tmps) (AH.lay s.h (s.pend.filter fun p=>Be bs i p.1))=some (.call fv args)→callf fv args (AH.lay s.h (s.pend.filter fun p=>Be bs i p.1))=some (.pan ch,h',rc)→
  Nu E callf cn ops bs base i s { s with log:=(i,s.tmps)::s.log,h:=h',pend:=s.pend.filter fun p=>!Be bs i p.1,old:=(i,s.h)::s.old,pan:=some (i,ch) }
theorem LY {i:Nat}{rest:List Nat}{s sf:DSt}(h:C5 E callf cn ops bs base (i::rest) s=some sf):∃s1,Nu E callf cn ops bs base i s s1∧C5 E callf cn ops bs base rest s1=some sf:=by
 simp only[C5]at h;cases hd:FF bs s.pan i with
 |true=>rw[hd]at h;exact⟨s,.dead hd,h⟩
 |false=>
  rw[hd]at h;simp only[cond_false]at h;split at h;case h_1=>cases h
  rename_i o ho;split at h
  ·cases h
  ·rename_i hw;split at h;case h_2=>cases h
   rename_i t ht;exact⟨_,.skip ho hw ht,h⟩
  ·rename_i hw;split at h
   ·cases h
   ·rename_i hk;split at h;case h_1=>cases h
    rename_i v _;split at h;case h_2=>cases h
    rename_i t ht;exact⟨_,.f ho hw hk ht,h⟩
   ·rename_i hk;split at h;case h_1=>cases h
    rename_i x f ha;split at h;case h_2=>cases h
    rename_i t ht;exact⟨_,.a ho hw hk ha ht,h⟩
   ·rename_i hk;cases hc:(s.pan.isNone&&s.old.all fun p=>Be bs i p.1) with
    |false=>rw[hc]at h;cases h
    |true=>
     rw[hc]at h;simp only[cond_true]at h;simp only[zA]at hc;have hp:s.pan=none:=by simpa using hc.1
     split at h
     ·rename_i v h' ha;split at h;case h_2=>cases h
      rename_i t ht;exact⟨_,.e ho hw hk hp hc.2 (.inl ha) ht,h⟩
     ·rename_i fv args ha;split at h
      ·rename_i v h' rc hcf;split at h;case h_2=>cases h
       rename_i t ht;exact⟨_,.e ho hw hk hp hc.2 (.inr ⟨_,_,_,ha,hcf⟩) ht,h⟩
      ·rename_i ch h' rc hcf;exact⟨_,.p ho hw hk hp hc.2 ha hcf,h⟩
      ·cases h
     ·cases h
theorem FG:∀(m i0:Nat) (s sf:DSt),C5 E callf cn ops bs base (List.range' i0 m) s=some sf→
 (∀t,(∀j q,i0≤j→ops[j]?=some q→q.dst≠some t)→T.get AE sf.tmps t=T.get AE s.tmps t)∧(∀p∈s.log,p∈sf.log)∧(∀x,s.pan=some x→sf.pan=some x∧sf.h=s.h∧sf.old=s.old)
 |0,i0,s,sf,h=>by simp only[List.range'_zero,C5,zC]at h;subst h;exact⟨fun _ _=>rfl,fun _ h=>h,fun _ h=>⟨h,rfl,rfl⟩⟩
 |m+1,i0,s,sf,h=>by
  rw[List.range'_succ]at h;obtain⟨s1,hs,h⟩:=LY h;obtain⟨c1,c2,c3⟩:=FG m (i0+1) s1 sf h;have c1':∀t,(∀j q,i0≤j→ops[j]?=some q→q.dst≠some t)→T.get AE sf.tmps t=T.get AE s1.tmps t:=fun t ht=>c1 t fun j q hj=>ht j q (by omega)
  cases hs with
  |dead hd=>exact⟨c1',c2,c3⟩|skip ho hw ht=>exact⟨fun t h1=>(c1' t h1).trans ((BA ht).1 t (h1 i0 _ (zI _) ho)),fun p hp=>c2 p (by simp[hp]),c3⟩
  |f ho hw hk ht=>exact⟨fun t h1=>(c1' t h1).trans ((BA ht).1 t (h1 i0 _ (zI _) ho)),fun p hp=>c2 p (by simp[hp]),c3⟩
  |a ho hw hk ha ht=>exact⟨fun t h1=>(c1' t h1).trans ((BA ht).1 t (h1 i0 _ (zI _) ho)),fun p hp=>c2 p (by simp[hp]),c3⟩
  |e ho hw hk hp hall ha ht=>exact⟨fun t h1=>(c1' t h1).trans ((BA ht).1 t (h1 i0 _ (zI _) ho)),fun p hp=>c2 p (by simp[hp]),fun x hx=>by rw[hp]at hx;cases hx⟩
  |p ho hw hk hp hall ha hc=>exact⟨c1',fun p hp=>c2 p (by simp[hp]),fun x hx=>by rw[hp]at hx;cases hx⟩
def View (ops:Array Oper)(τ0 T':T AV)(i:Nat)(Ti:T AV):Prop:=
 (∀t,(∀(j:Nat) (q:Oper),j<i→ops[j]?=some q→q.dst≠some t)→T.get AE Ti t=T.get AE τ0 t)∧
 (∀t,(∀(j:Nat) (q:Oper),i≤j→ops[j]?=some q→q.dst≠some t)→T.get AE T' t=T.get AE Ti t)
def dstOk (cn:Nat)(T':T AV)(dst:Option Nat)(v:AV):Prop:=∀d,dst=some d→d<cn∧d<B9∧T.get AE T' d=some v
def Jm (E:Env)(ops:Array Oper)(base:Nat)(τ0 T':T AV)(p:Nat×Nat×AO):Prop:=
 p.2.1=base+p.1∧∃o Ti f,ops[p.1]?=some o∧View ops τ0 T' p.1 Ti∧AZ ops o Ti=some true∧kindOf E o.op=.a∧BT E o.op (Bj E Ti)=some (p.2.2,f)
def RU (E:Env)(ops:Array Oper)(bs:Array Nat)(base:Nat)(τ0 T':T AV)(laid:List Nat)(e:Nat)(due:List (Nat×Nat×AO)):Prop:=
 (∀p∈due,Jm E ops base τ0 T' p∧p.1∉laid∧Be bs e p.1=true)∧(due.map (·.1)).Nodup
inductive FCh (E:Env)(callf:AV→List AV→AH→Option (AG×AH×RC))(cn:Nat)(ops:Array Oper)(bs:Array Nat)(base:Nat)(τ0 T':T AV):List Nat→AH→List (Nat×AH)→AH→Option (Nat×List (AV×Bool))→List Nat→Prop
 |done (laid:List Nat) (g:AH):FCh E callf cn ops bs base τ0 T' laid g [] g none laid
 |eff {laid:List Nat} {g:AH} {e:Nat} {due:List (Nat×Nat×AO)} {o:Oper} {Te:T AV} {v:AV} {h1:AH} {st:List (Nat×AH)} {hend:AH} {pan:Option (Nat×List (AV×Bool))} {laidEnd:List Nat} :
  RU E ops bs base τ0 T' laid e due→ops[e]?=some o→View ops τ0 T' e Te→AZ ops o Te=some true→kindOf E o.op=.e→
  (B4 E o (Bj E Te) (AH.lay g due)=some (.val v h1)∨∃fv args rc,B4 E o (Bj E Te) (AH.lay g due)=some (.call fv args)∧callf fv args (AH.lay g due)=some (.ret v,h1,rc))→
  dstOk cn T' o.dst v→FCh E callf cn ops bs base τ0 T' (due.map (·.1)++laid) h1 st hend pan laidEnd→FCh E callf cn ops bs base τ0 T' laid g ((e,g)::st) hend pan laidEnd
 |pan {laid:List Nat} {g:AH} {e:Nat} {due:List (Nat×Nat×AO)} {o:Oper} {Te:T AV} {h1:AH} {ch:List (AV×Bool)} {fv:AV} {args:List AV} {rc:RC} (laidEnd:List Nat) :
  RU E ops bs base τ0 T' laid e due→ops[e]?=some o→View ops τ0 T' e Te→AZ ops o Te=some true→kindOf E o.op=.e→
  B4 E o (Bj E Te) (AH.lay g due)=some (.call fv args)→callf fv args (AH.lay g due)=some (.pan ch,h1,rc)→FCh E callf cn ops bs base τ0 T' laid g [(e,g)] h1 (some (e,ch)) laidEnd
end
section
variable {E:Env}{callf:AV→List AV→AH→Option (AG×AH×RC)}{cn:Nat}{ops:Array Oper}{bs:Array Nat}{base:Nat}{τ0:T AV}
theorem JV (ha:OO ops bs):∀(m i0:Nat) (s sf:DSt),C5 E callf cn ops bs base (List.range' i0 m) s=some sf→
 (∀t,(∀(j:Nat) (q:Oper),j<i0→ops[j]?=some q→q.dst≠some t)→T.get AE s.tmps t=T.get AE τ0 t)→
 (∀i,i0≤i→i<i0+m→FF bs sf.pan i=true∨∃Ti,(i,Ti)∈sf.log∧View ops τ0 sf.tmps i Ti∧((∀o d,ops[i]?=some o→o.dst=some d→d<cn∧d<B9)∨∃ch,sf.pan=some (i,ch)))∧
 (s.old.Pairwise (fun b a=>Be bs b.1 a.1=true)→sf.old.Pairwise (fun b a=>Be bs b.1 a.1=true))∧
 (s.pan=none→∀laid:List Nat,(∀p∈s.pend,Jm E ops base τ0 sf.tmps p∧p.1∉laid∧p.1<i0)→(s.pend.map (·.1)).Nodup→(∀x∈laid,x<i0)→
  ∃stages laidEnd,sf.old.reverse=s.old.reverse++stages∧FCh E callf cn ops bs base τ0 sf.tmps laid s.h stages sf.h sf.pan laidEnd∧
   (sf.pan=none→(∀p∈sf.pend,Jm E ops base τ0 sf.tmps p∧p.1∉laidEnd)∧(sf.pend.map (·.1)).Nodup))
 |0,i0,s,sf,h,_=>by simp only[List.range'_zero,C5,zC]at h;subst h;refine⟨fun i h1 h2=>by omega,fun h=>h,fun hp laid h1 h2 _=>⟨[],laid,by simp,?_,fun _=>⟨fun p hp=>⟨(h1 p hp).1,(h1 p hp).2.1⟩,h2⟩⟩⟩;rw[hp];exact .done laid s.h
 |m+1,i0,s,sf,h,H1=>by
  obtain⟨c1,c2,c3⟩:=FG _ _ _ _ h;rw[List.range'_succ]at h;obtain⟨s1,hs,h⟩:=LY h;obtain⟨d1,d2,d3⟩:=FG _ _ _ _ h;have hview:View ops τ0 sf.tmps i0 s.tmps:=⟨H1,c1⟩;have ih:=JV ha m (i0+1) s1 sf h;have head:∀{o:Oper},ops[i0]?=some o→(i0,s.tmps)∈sf.log→((∀d,o.dst=some d→d<cn∧d<B9)∨∃ch,sf.pan=some (i0,ch))→FF bs sf.pan i0=true∨∃Ti,(i0,Ti)∈sf.log∧View ops τ0 sf.tmps i0 Ti∧((∀o d,ops[i0]?=some o→o.dst=some d→d<cn∧d<B9)∨∃ch,sf.pan=some (i0,ch)):=by intro o ho hl hd;refine .inr ⟨_,hl,hview,hd.imp_left fun hd o' d ho'=>?_⟩;rw[ho]at ho';cases ho';exact hd d
  have split:(FF bs sf.pan i0=true∨∃Ti,(i0,Ti)∈sf.log∧View ops τ0 sf.tmps i0 Ti∧((∀o d,ops[i0]?=some o→o.dst=some d→d<cn∧d<B9)∨∃ch,sf.pan=some (i0,ch)))→
   (∀i,i0+1≤i→i<i0+1+m→FF bs sf.pan i=true∨∃Ti,(i,Ti)∈sf.log∧View ops τ0 sf.tmps i Ti∧((∀o d,ops[i]?=some o→o.dst=some d→d<cn∧d<B9)∨∃ch,sf.pan=some (i,ch)))→
   ∀i,i0≤i→i<i0+(m+1)→FF bs sf.pan i=true∨∃Ti,(i,Ti)∈sf.log∧View ops τ0 sf.tmps i Ti∧((∀o d,ops[i]?=some o→o.dst=some d→d<cn∧d<B9)∨∃ch,sf.pan=some (i,ch)):=by
   intro h1 h2 i h3 h4;by_cases e:i=i0
   ·subst e;exact h1
   ·exact h2 i (by omega) (by omega)
  have last:∀{o:Oper} {d:Nat},ops[i0]?=some o→o.dst=some d→T.get AE sf.tmps d=T.get AE s1.tmps d:=by
   intro o d ho hd;refine d1 d fun j q hj hq he=>?_
   have:=ha.one i0 j o q d ho hq hd he;omega
  have H1':∀{o:Oper} {v:AV} {t:T AV},ops[i0]?=some o→AW cn o.dst v s.tmps=some t→∀x,(∀(j:Nat) (q:Oper),j<i0+1→ops[j]?=some q→q.dst≠some x)→T.get AE t x=T.get AE τ0 x:=by intro o v t ho ht x hx;rw[(BA ht).1 x (hx i0 o (by omega) ho)];exact H1 x fun j q hj=>hx j q (by omega)
  have older:∀{laid:List Nat},(∀p∈s.pend,Jm E ops base τ0 sf.tmps p∧p.1∉laid∧p.1<i0)→∀p∈s.pend,Jm E ops base τ0 sf.tmps p∧p.1∉laid∧p.1<i0+1:=
   fun h p hp=>⟨(h p hp).1,(h p hp).2.1,by have:=(h p hp).2.2;omega⟩
  cases hs with
  |dead hd=>
   obtain⟨i1,i2,i3⟩:=ih fun x hx=>H1 x fun j q hj=>hx j q (by omega)
   have hdf:FF bs sf.pan i0=true:=by
    cases hp:s.pan with
    |none=>rw[hp]at hd;cases hd
    |some x=>rw[(c3 x hp).1,←hp];exact hd
   refine⟨split (.inl hdf) i1,i2,fun hp=>?_⟩;rw[hp]at hd;cases hd
  |skip ho hw ht=>obtain⟨i1,i2,i3⟩:=ih (H1' ho ht);exact⟨split (head ho (d2 _ (by simp)) (.inl fun d hd=>⟨((BA ht).2 d hd).1,((BA ht).2 d hd).2.1⟩)) i1,i2,fun hp laid h1 h2 h3=>i3 hp laid (older h1) h2 fun x hx=>by have:=h3 x hx;omega⟩
  |f ho hw hk ht=>obtain⟨i1,i2,i3⟩:=ih (H1' ho ht);exact⟨split (head ho (d2 _ (by simp)) (.inl fun d hd=>⟨((BA ht).2 d hd).1,((BA ht).2 d hd).2.1⟩)) i1,i2,fun hp laid h1 h2 h3=>i3 hp laid (older h1) h2 fun x hx=>by have:=h3 x hx;omega⟩
  | @a o t x f ho hw hk hal ht=>
   obtain⟨i1,i2,i3⟩:=ih (H1' ho ht);refine⟨split (head ho (d2 _ (by simp)) (.inl fun d hd=>⟨((BA ht).2 d hd).1,((BA ht).2 d hd).2.1⟩)) i1,i2,fun hp laid h1 h2 h3=>?_⟩;have hl:i0∉laid:=fun hm=>Nat.lt_irrefl _ (h3 i0 hm)
   refine i3 hp laid (fun p hp'=>?_) ?_ ?_
   ·rcases zH.1 hp' with rfl|hp'
    ·exact⟨⟨rfl,o,s.tmps,f,ho,hview,hw,hk,hal⟩,hl,Nat.lt_succ_self _⟩
    ·exact older h1 p hp'
   ·simp only[List.map_cons,List.nodup_cons];refine⟨fun hm=>?_,h2⟩;obtain⟨p,hp1,hp2⟩:=List.mem_map.1 hm;have:=(h1 p hp1).2.2;omega
   ·intro x hx;have:=h3 x hx;omega
  | @e o t v h' ho hw hk hp hall hask ht=>
   obtain⟨i1,i2,i3⟩:=ih (H1' ho ht);refine⟨split (head ho (d2 _ (by simp)) (.inl fun d hd=>⟨((BA ht).2 d hd).1,((BA ht).2 d hd).2.1⟩)) i1,fun hpw=>i2 ?_,fun hp laid h1 h2 h3=>?_⟩
   ·rw[List.pairwise_cons];refine⟨fun a ha'=>?_,hpw⟩;rw[zB]at hall;exact hall a ha'
   ·have hdue:RU E ops bs base τ0 sf.tmps laid i0 (s.pend.filter fun p=>Be bs i0 p.1):=
     ⟨fun p hp'=>by obtain⟨q1,q2⟩:=List.mem_filter.1 hp';exact⟨(h1 p q1).1,(h1 p q1).2.1,q2⟩,h2.sublist (List.Sublist.map _ List.filter_sublist)⟩
    obtain⟨st,le,q1,q2,q3⟩:=i3 hp (((s.pend.filter fun p=>Be bs i0 p.1).map (·.1))++laid) (fun p hp'=>by
     obtain⟨r1,r2⟩:=List.mem_filter.1 hp';refine⟨(h1 p r1).1,?_,by have:=(h1 p r1).2.2;omega⟩;rw[List.mem_append];rintro (hm|hm)
     ·obtain⟨q,hq1,hq2⟩:=List.mem_map.1 hm;have:=(List.mem_filter.1 hq1).2;rw[hq2]at this;rw[this]at r2;cases r2
     ·exact(h1 p r1).2.1 hm) (h2.sublist (List.Sublist.map _ List.filter_sublist)) (fun x hx=>by
     rcases List.mem_append.1 hx with hx|hx
     ·obtain⟨q,hq1,rfl⟩:=List.mem_map.1 hx;have:=(h1 q (List.mem_filter.1 hq1).1).2.2;omega
     ·have:=h3 x hx;omega)
    refine⟨(i0,s.h)::st,le,?_,.eff hdue ho hview hw hk hask ?_ q2,q3⟩
    ·rw[q1];simp
    ·intro d hd;obtain⟨r1,r2,r3⟩:=(BA ht).2 d hd;exact⟨r1,r2,by rw[last ho hd];exact r3⟩
  | @p o ch h' fv args rc ho hw hk hp hall hask hcf=>
   obtain⟨i1,i2,i3⟩:=ih fun x hx=>H1 x fun j q hj=>hx j q (by omega)
   obtain⟨e1,e2,e3⟩:=d3 _ rfl;refine⟨split (head ho (d2 _ (by simp)) (.inr ⟨ch,e1⟩)) i1,fun hpw=>i2 ?_,fun hp laid h1 h2 h3=>?_⟩
   ·rw[List.pairwise_cons];refine⟨fun a ha'=>?_,hpw⟩;rw[zB]at hall;exact hall a ha'
   ·have hdue:RU E ops bs base τ0 sf.tmps laid i0 (s.pend.filter fun p=>Be bs i0 p.1):=
     ⟨fun p hp'=>by obtain⟨q1,q2⟩:=List.mem_filter.1 hp';exact⟨(h1 p q1).1,(h1 p q1).2.1,q2⟩,h2.sublist (List.Sublist.map _ List.filter_sublist)⟩
    refine⟨[(i0,s.h)],[],?_,?_,fun hn=>by rw[e1]at hn;cases hn⟩
    ·rw[e3];simp
    ·rw[e1,e2];exact .pan [] hdue ho hview hw hk hask hcf
end
section
variable {P:Program}{E:Env}{k k':K}{h h':AH}{w w':World}{ev ev':Operand→AV}{ρ:Operand→Value}
theorem Je {op:Op}(hx:∀x∈op.operands,ev x=ev' x):BT E op ev=BT E op ev':=by
 cases op;case buildSlice t len ps=>
  have e:=F2 (ev:=ev) (ev':=ev') (ps:=ps) fun a b hab=>hx b (by simp only[Op.operands];simp;exact⟨a,hab⟩)
  simp only[BT,e]
 case makeMap t r=>cases r<;>rfl
 all_goals first
  |rfl
  |(simp[Op.operands]at hx;simp only[BT,hx])
def NewOk (k:K)(w:World)(x:AO)(f:Nat→AV)(r:Result Next):Prop:=
 ∃v obj,r=.ok (.value v) { w with heap:=w.heap.push obj }∧∀(k':K) (w':World) nm,Le k k' w w'→w'.heap[w.heap.size]?=some obj→k'.ρ nm=some (w.heap.size,0)→ObR k' w' w.heap.size 0 x∧VR k' w' (f nm) v
theorem IZ {el:TypeId}{cs:List AV}{arr:Array Value}(hv:VRL k w cs arr.toList){b:Nat}(le:Le k k' w w')(hb:w'.heap[b]?=some (.cells arr el (0,0))):ObR k' w' b 0 (.cells el cs):=by obtain⟨hl,hg⟩:=hv.Ma;refine⟨arr,(0,0),hb,by omega,fun i x hx=>?_,Nat.zero_mod _,.inl rfl⟩;obtain⟨v,h3,h4⟩:=hg i x hx;exact⟨v,by simpa using h3,VR.mono le _ _ h4⟩
theorem Wi {s:Sem Value}{v:Value}(hs:s.run P w=.ok v w'):((do pure (Next.value (←s)):Sem Next).run P w)=.ok (.value v) w':=by simp only[zJ,hs,zF,zP]
theorem J9 (hE:Az P E){o:Oper}(hev:∀x,VR k w (ev x) (ρ x)){x:AO}{f:Nat→AV}(ho:BT E o.op ev=some (x,f)):NewOk k w x f ((execOp ρ o).run P w):=by
 obtain⟨dst,op,ty,pos,after,guard⟩:=o;simp only at ho;cases op;case alloc e=>
  simp only[BT]at ho;split at ho;case h_2=>cases ho
  rename_i i ht;simp only[zC,zG]at ho;obtain⟨rfl,rfl⟩:=ho;obtain⟨z,h1,h2,h3⟩:=EM hE ht w;have hz:=((h2 k w).cells (hE.ty e i ht).zero).1;refine⟨.pointer (some ⟨w.heap.size,0,none⟩),.cells z.cells e,by simp[execOp,Instr.alloc,h1,Jt],fun k' w' nm le hb hn=>⟨IZ hz le hb,?_⟩⟩;simp only[VR];exact⟨_,_,hn,rfl⟩
 case box e y=>
  simp only[BT]at ho;cases hb:AV.A8 (ev y).cells with
  |false=>rw[hb]at ho;cases ho
  |true=>simp only[hb,cond_true,zC,zG]at ho;obtain⟨rfl,rfl⟩:=ho;have hz:=((hev y).cells hb).1;refine⟨.pointer (some ⟨w.heap.size,0,none⟩),.cells (ρ y).cells e,by simp[execOp,Instr.box,Jt],fun k' w' nm le hb hn=>⟨IZ hz le hb,?_⟩⟩;simp only[VR];exact⟨_,_,hn,rfl⟩
 case buildSlice t len ps=>
  simp only[BT]at ho;split at ho;case h_2=>cases ho
  rename_i el _ _ _ _ ht;have hu:=E0 hE ht w;cases hel:E.ty el with
  |none=>simp[hel]at ho|some ei=>
   simp only[hel]at ho;cases hf:Ee (fun j=>some (j*ei.size,ei.size)) (Gc ei.zero.cells len) (CH ev ps) with
   |none=>simp[hf]at ho|some cs=>
    simp only[hf]at ho;cases hb:(AV.A8 cs&&Nat.ble (len*ei.size) 65536) with
    |false=>simp only[hb,cond_false]at ho;cases ho
    |true=>
     simp only[hb,cond_true,zC,zG]at ho;simp only[zA]at hb;have hle:=zE hb.2;obtain⟨rfl,rfl⟩:=ho;obtain⟨z,z0,z1,z2,z3⟩:=FT (P:=P) hE hel len w;have hp:=JH hev ps;obtain⟨arr,h4,h5⟩:=EB hf (z2 k w) hp;have hrun:(Instr.buildSlice t len (ps.map fun (i,x)=>(i,ρ x))).run P w=.ok (.slice (some ⟨w.heap.size,0,none⟩) len len) { w with heap:=w.heap.push (.cells arr el) }:=by
      simp only[Instr.buildSlice,zJ,hu,zF,AX hE hel];rw[if_neg (by omega)];unfold BS at h4;by_cases h0:len*ei.size=0
      ·have:=z0 h0;subst this;rw[if_pos h0];simp only[zJ,zP,zF];rw[I3,h4];simp[newRow]
      ·obtain⟨zv,z4,rfl⟩:=z1 h0;rw[if_neg h0];simp only[zJ,zP,zF,z4];rw[I3,h4];simp[newRow]
     refine⟨_,.cells arr el,Wi hrun,fun k' w' nm le hb hn=>⟨IZ h5 le hb,?_⟩⟩;simp only[VR];refine⟨w.heap.size,0,len,arr,el,(0,0),hn,rfl,zI _,(fun n hn=>by cases hn;rfl),hb,?_⟩;have e1:=h5.length;have e2:=(z2 k w).length;have e3:=GW hf;simp only[Array.length_toList]at e1 e2;rw[z3]at e2;omega
 case makeSlice t l c=>
  simp only[BT]at ho;split at ho;case h_2=>cases ho
  rename_i el _ _ _ _ ht;have hu:=E0 hE ht w;cases hel:E.ty el with
  |none=>simp[hel]at ho|some ei=>
   simp only[hel]at ho;cases hln:asNat (ev l) with
   |none=>simp[hln]at ho|some ln=>
   cases hcn:asNat (ev c) with
   |none=>simp[hln,hcn]at ho|some cn=>
    simp only[hln,hcn]at ho;cases hb:(Nat.ble ln cn&&Nat.ble cn 1048576&&Nat.ble ei.bytes 4096&&AV.A8 ei.zero.cells) with
    |false=>simp only[hb,cond_false]at ho;cases ho
    |true=>
     simp only[hb,cond_true,zC,zG]at ho;obtain⟨rfl,rfl⟩:=ho;simp only[zA]at hb;obtain⟨⟨⟨hb1,hb2⟩,hb3⟩,hb4⟩:=hb;have hb1:=zE hb1;have hb2:=zE hb2;have hb3:=zE hb3;obtain⟨z,z0,z1,z2,z3⟩:=FT (P:=P) hE hel cn w;obtain⟨kl,el1⟩:=CU hln (hev l);obtain⟨kc,ec1⟩:=CU hcn (hev c);obtain⟨inf,i1,i2,i3⟩:=IJ hE hel w;have hbn:((inf.bytes:Int)*cn)≤2^48:=by
      rw[i2];have:ei.bytes*cn≤4096*1048576:=Nat.mul_le_mul hb3 hb2;have h2:((ei.bytes*cn:Nat):Int)≤4096*1048576:=by omega
      rw[Int.natCast_mul]at h2;omega
     have hrun:(Instr.makeSlice t (ρ l) (ρ c)).run P w=.ok (.slice (some ⟨w.heap.size,0,none⟩) ln cn) { w with heap:=w.heap.push (.cells (BS cn ei.size z) el) }:=by
      simp only[Instr.makeSlice,zJ,hu,zF,el1,ec1,asInt,asIntOf,zP,i1,wrap_small (show ln<2^62 by omega),wrap_small (show cn<2^62 by omega)];rw[if_neg (by simp only[Bool.or_eq_true,decide_eq_true_eq,not_or,Int.not_lt];refine⟨⟨⟨by omega,hbn⟩,by omega⟩,by omega⟩)];simp only[zJ,run_askRoom,AX hE hel,zF,Int.toNat_natCast];by_cases h0:cn*ei.size=0
      ·have:=z0 h0;subst this;rw[if_pos h0];simp[newRow,BS]
      ·obtain⟨zv,z4,rfl⟩:=z1 h0;rw[if_neg h0];simp[newRow,BS,z4]
     refine⟨_,.cells (BS cn ei.size z) el,Wi hrun,fun k' w' nm le hb hn=>⟨IZ (z2 k w) le hb,?_⟩⟩;simp only[VR];refine⟨w.heap.size,0,cn,BS cn ei.size z,el,(0,0),hn,rfl,hb1,(fun n hn=>by cases hn;rfl),hb,?_⟩;rw[z3];omega
 case makeMap t r=>
  cases r with
  |some r=>simp only[BT]at ho;cases ho
  |none=>
   simp only[BT]at ho;split at ho;case h_2=>cases ho
   simp only[zC,zG]at ho;obtain⟨rfl,rfl⟩:=ho;refine⟨.map (some w.heap.size),.map #[] 0,by simp[execOp,Instr.makeMap],fun k' w' nm le hb hn=>⟨⟨rfl,#[],0,hb,by simp[MR]⟩,?_⟩⟩;simp only[VR];exact⟨_,hn,rfl⟩
 all_goals (simp only[BT]at ho;cases ho)
open Classical in
theorem OT (hE:Az P E){o:Oper}(hev:∀x∈o.op.operands,VR k w (ev x) (ρ x)){x:AO}{f:Nat→AV}(ho:BT E o.op ev=some (x,f)):NewOk k w x f ((execOp ρ o).run P w):=by
 refine J9 hE (ev:=fun x=>if x∈o.op.operands then ev x else .any) (fun x=>?_) ?_
 ·by_cases hx:x∈o.op.operands
  ·simp only[if_pos hx];exact hev x hx
  ·simp only[if_neg hx,VR]
 ·rw[←ho];refine(Je fun x hx=>?_).symm;simp only[if_pos hx]
theorem Rq {x:Option AV}{v:AV}(ho:one h x=some (v,h')):h'=h:=by
 cases x with
 |none=>simp only[one,Option.map_none]at ho;cases ho
 |some u=>simp only[one,Option.map_some]at ho;cases ho;rfl
theorem Rk {α:Type}{x:Option α}{f:α→AV}{v:AV}(ho:(x.map fun n=>(f n,h))=some (v,h')):h'=h:=by
 cases x with
 |none=>simp only[Option.map_none]at ho;cases ho
 |some u=>simp only[Option.map_some]at ho;cases ho;rfl
theorem AbC {o:Oper}(hc:∀c,o.op≠.call c){v:AV}(ho:B4 E o ev h=some (.val v h')):opA E o.op ev h=some (v,h'):=by
 obtain⟨dst,op,ty,pos,after,guard⟩:=o;cases op;case call c=>exact absurd rfl (hc c)
 case defer c=>
  obtain⟨cal,args,at'⟩:=c;cases cal<;>simp only[B4]at ho
  ·split at ho<;>cases ho
  ·cases ho
  ·cases ho
 case panic x=>
  simp only[B4]at ho;split at ho<;>cases ho
 all_goals
  simp only[B4]at ho;split at ho
  ·rename_i hb;cases ho;exact hb
  ·cases ho
theorem U2 {o:Oper}(hk:kindOf E o.op=.f){v:AV}(ho:B4 E o ev h=some (.val v h')):h'=h:=by
 by_cases hc:∀c,o.op≠.call c
 ·have ho:=AbC hc ho;revert hk ho;generalize o.op=op at hc;intro hk ho;cases op<;>simp only[kindOf]at hk<;>try (cases hk;done)
  case call c=>exact absurd rfl (hc c)
  case convert s d x=>
   simp only[opA,Sw]at ho;split at ho;case h_2=>cases ho
   rename_i di si hd hs;simp only[hd]at hk;obtain⟨und,size,bytes,zero,agg⟩:=di;simp only at ho hk;simp only[Bool.cond_eq_ite]at ho
   (repeat' (split at ho))<;>first
    |(cases ho;done)
    |(cases ho;rfl)
    |(cases hk;done)
    |skip
  all_goals
   simp only[opA,Bool.cond_eq_ite]at ho
   (repeat' (split at ho))<;>first
    |(cases ho;done)
    |(cases ho;rfl)
    |exact Rq ho
    |exact Rk ho
    |skip
 ·have hc:∃c,o.op=.call c:=Classical.byContradiction fun hn=>hc fun c e=>hn ⟨c,e⟩
  obtain⟨c,hc⟩:=hc;obtain⟨dst,op,ty,pos,after,guard⟩:=o;simp only at hc hk;subst hc;obtain⟨cal,args,at'⟩:=c;cases cal<;>simp only[kindOf]at hk<;>try (cases hk;done)
  rename_i b;cases b<;>simp only[R1]at hk<;>try (cases hk;done)
  all_goals
   simp only[B4]at ho;split at ho;case h_2=>cases ho
   rename_i hb;cases ho;simp only[D4,Bool.cond_eq_ite]at hb
   (repeat' (split at hb))<;>first
    |contradiction
    |(cases hb;done)
    |(cases hb;rfl)
    |exact Rk hb
    |exact Rq hb
    |skip
end
theorem IC:∀(a b:List Nat),Am a b=true→a=b
 |[],[],_=>rfl|[],_::_,h=>by simp[Am]at h
 |_::_,[],h=>by simp[Am]at h
 |x::a,y::b,h=>by
  simp only[Am,zA]at h;have h1:x=y:=by simpa[T.beq_eq]using h.1
  rw[h1,IC a b h.2]
mutual
theorem Em:∀(a b:AV),eqv a b=true→a=b:=by
 intro a b h;cases a<;>cases b<;>simp only[eqv]at h<;>try (cases h;done)
 case str.str=>rw[IC _ _ h]
 case pptr.pptr c i c' i'=>
  simp only[zA]at h;rw[Ex _ _ h.2,zD h.1]
 case psl.psl=>
  simp only[zA,decide_eq_true_eq]at h;rw[Ex _ _ h.2,zD h.1.1,h.1.2]
 case func.func=>
  simp only[zA,decide_eq_true_eq]at h;rw[Ex _ _ h.2,Ex _ _ h.1.2,h.1.1]
 case iface.iface=>
  simp only[zA]at h;rw[Em _ _ h.2,zD h.1]
 case agg.agg=>rw[Ex _ _ h]
 case tup.tup=>rw[Ex _ _ h]
 case tok.tok=>rw[zD h]
 case one.one=>rw[Ex _ _ h]
 case sel.sel=>rw[zD h]
 case stok.stok=>rw[zD h]
 case bool.bool=>simp at h;rw[h]
 case int.int=>simp only[zA,decide_eq_true_eq]at h;rw[h.1,h.2]
 case ptr.ptr=>simp only[zA]at h;rw[zD h.1,zD h.2]
 case sl.sl=>
  simp only[zA,decide_eq_true_eq]at h;obtain⟨⟨⟨⟨h1,h2⟩,h3⟩,h4⟩,h5⟩:=h;rw[zD h1,zD h2,zD h3,zD h4,h5]
 case map.map=>rw[zD h]
 all_goals rfl
theorem Ex:∀(a b:List AV),Hf a b=true→a=b
 |[],[],_=>rfl|[],_::_,h=>by simp[Hf]at h
 |_::_,[],h=>by simp[Hf]at h
 |x::a,y::b,h=>by simp only[Hf,zA]at h;rw[Em x y h.1,Ex a b h.2]
end
section
variable {k k' k0:K}{h h' h0:AH}{w w' w0:World}
def Gh (k:K)(h:AH)(w:World)(b0 o:Nat)(x:AO):Prop:=
 ∃b,k.ρ o=some (b,0)∧b0≤b∧ObR k w b 0 x∧¬k.fz b∧∀o' ob sh,h.get o'=some ob→k.ρ o'≠some (b,sh)
theorem Gh.mono (hr:HR k h w)(e:Ev k k' h h' w w'){b0 o:Nat}{x:AO}(g:Gh k h w b0 o x):Gh k' h' w' b0 o x:=by
 obtain⟨b,h1,h2,h3,h4,h5⟩:=g;have hlt:=h3.lt;refine⟨b,e.rho _ _ h1,h2,h3.mono (e.le hr) (e.same b hlt h5),fun hf=>?_,fun o' ob sh g1 g2=>?_⟩
 ·rcases e.nfz b hlt hf with q|⟨o',ob,sh,q1,q2⟩
  ·exact h4 q
  ·exact h5 _ _ _ q1 q2
 ·obtain⟨o2,ob2,sh2,q1,q2⟩:=e.live o' ob b sh g1 g2 hlt;exact h5 _ _ _ q1 q2
theorem Gh.lay (hr:HR k h w)(acc:Ev k0 k h0 h w0 w){o:Nat}{x:AO}(ho:o<BF)(hon:o<h.next)(g:Gh k h w w0.heap.size o x) :
 HR k (h.set o (some x)) w∧Ev k0 k h0 (h.set o (some x)) w0 w∧(∀o2 x2,(∀b,k.ρ o2=some (b,0)→k.ρ o≠some (b,0))→Gh k h w w0.heap.size o2 x2→Gh k (h.set o (some x)) w w0.heap.size o2 x2):=by
 obtain⟨b,h1,h2,h3,h4,h5⟩:=g;have hget:∀j,(h.set o (some x)).get j=if j=o then some x else h.get j:=fun j=>AH.BQ h o j _ ho
 have old:∀{j ob},(h.set o (some x)).get j=some ob→j≠o→h.get j=some ob:=by intro j ob hj hne;rwa[hget,if_neg hne]at hj
 refine⟨⟨fun j ob hj=>?_,fun o1 o2 ob1 ob2 b' s1 s2 g1 g2 g3 g4=>?_,fun j ob b' sh g1 g2=>?_,fun j hj=>hr.fresh j hj,hr.lt⟩,
  ⟨acc.sz,acc.os,acc.tape,acc.output,acc.size,acc.same,acc.shape,acc.rho,acc.fz,fun j ob b' sh g1 g2 g3=>?_,acc.next,acc.keep,acc.nfz⟩,fun o2 x2 hne g2=>?_⟩
 ·by_cases e:j=o
  ·subst e;rw[hget,if_pos rfl]at hj;cases hj;exact⟨b,0,h1,h3⟩
  ·exact hr.obj j ob (old hj e)
 ·by_cases e1:o1=o<;>by_cases e2:o2=o
  ·rw[e1,e2]
  ·subst e1;rw[h1]at g3;cases g3;exact absurd g4 (h5 _ _ _ (old g2 e2))
  ·subst e2;rw[h1]at g4;cases g4;exact absurd g3 (h5 _ _ _ (old g1 e1))
  ·exact hr.inj o1 o2 ob1 ob2 b' s1 s2 (old g1 e1) (old g2 e2) g3 g4
 ·by_cases e:j=o
  ·subst e;rw[h1]at g2;cases g2;exact h4
  ·exact hr.nfz j ob b' sh (old g1 e) g2
 ·by_cases e:j=o
  ·subst e;rw[h1]at g2;cases g2;omega
  ·exact acc.live j ob b' sh (old g1 e) g2 g3
 ·obtain⟨b2,q1,q2,q3,q4,q5⟩:=g2;refine⟨b2,q1,q2,q3,q4,fun o' ob sh p1 p2=>?_⟩;by_cases e:o'=o
  ·subst e;rw[h1]at p2;cases p2;exact hne b q1 h1
  ·exact q5 o' ob sh (old p1 e) p2
theorem SZ:∀(l:List (Nat×Nat×AO)) (h:AH),(AH.lay h l).next=h.next
 |[],_=>rfl|p::l,h=>by obtain⟨i,o,x⟩:=p;simp only[AH.lay];rw[SZ l];rfl
theorem V3:∀(l:List (Nat×Nat×AO)) (h:AH),HR k h w→Ev k0 k h0 h w0 w→(∀p∈l,p.2.1<BF∧p.2.1<h.next∧Gh k h w w0.heap.size p.2.1 p.2.2)→
 l.Pairwise (fun p q=>∀b,k.ρ p.2.1=some (b,0)→k.ρ q.2.1≠some (b,0))→
 HR k (AH.lay h l) w∧Ev k0 k h0 (AH.lay h l) w0 w∧(∀o2 x2,(∀p∈l,∀b,k.ρ o2=some (b,0)→k.ρ p.2.1≠some (b,0))→Gh k h w w0.heap.size o2 x2→Gh k (AH.lay h l) w w0.heap.size o2 x2)
 |[],h,hr,acc,_,_=>⟨hr,acc,fun _ _ _ g=>g⟩
 |p::l,h,hr,acc,hg,hp=>by obtain⟨i,o,x⟩:=p;obtain⟨g1,g2,g3⟩:=hg (i,o,x) (by simp);obtain⟨q1,q2,q3⟩:=g3.lay hr acc g1 g2;rw[List.pairwise_cons]at hp;obtain⟨r1,r2,r3⟩:=V3 l (h.set o (some x)) q1 q2 (fun p hpl=>by obtain⟨s1,s2,s3⟩:=hg p (by simp[hpl]);refine⟨s1,s2,q3 _ _ (fun b hb1 hb2=>hp.1 p hpl b hb2 hb1) s3⟩) hp.2;exact⟨r1,r2,fun o2 x2 hne g=>r3 o2 x2 (fun p hpl=>hne p (by simp[hpl])) (q3 o2 x2 (hne (i,o,x) (by simp)) g)⟩
theorem HR.ghost (hr:HR k h w)(acc:Ev k0 k h0 h w0 w){o:Nat}(ho:k.ρ o=none)(hlo:h0.next≤o)(hon:o<h.next)(obj:Obj)(d:Nat) :
 HR (k.with o w.heap.size) h { w with heap:=w.heap.push obj,drawn:=d }∧Ev k0 (k.with o w.heap.size) h0 h w0 { w with heap:=w.heap.push obj,drawn:=d }∧
 Le k (k.with o w.heap.size) w { w with heap:=w.heap.push obj,drawn:=d }∧
 (∀o2 x2,Gh k h w w0.heap.size o2 x2→Gh (k.with o w.heap.size) h { w with heap:=w.heap.push obj,drawn:=d } w0.heap.size o2 x2):=by
 have hold:∀b,b<w.heap.size→(w.heap.push obj)[b]?=w.heap[b]?:=fun b hb=>by rw[Array.getElem?_push,if_neg (by omega)]
 have hρ:∀j p,k.ρ j=some p→(k.with o w.heap.size).ρ j=some p:=by
  intro j p hj;have:j≠o:=by intro e;rw[e,ho]at hj;cases hj
  simp only[K.with,if_neg this,hj]
 have back:∀{j p},j≠o→(k.with o w.heap.size).ρ j=some p→k.ρ j=some p:=by intro j p hne hj;simpa only[K.with,if_neg hne]using hj
 have live:∀{j ob},h.get j=some ob→j≠o:=by intro j ob hj e;obtain⟨b,sh,h1,_⟩:=hr.obj j ob hj;rw[e,ho]at h1;cases h1
 have le:Le k (k.with o w.heap.size) w { w with heap:=w.heap.push obj,drawn:=d }:=
  ⟨rfl,hρ,fun _ h=>h,fun b hb=>hold b (hr.lt b hb),fun b arr e fr hx=>⟨arr,fr,(hold b (Array.getElem?_eq_some_iff.1 hx).1).trans hx,rfl⟩⟩
 refine⟨⟨fun j ob hj=>?_,fun o1 o2 ob1 ob2 b s1 s2 g1 g2 g3 g4=>hr.inj o1 o2 ob1 ob2 b s1 s2 g1 g2 (back (live g1) g3) (back (live g2) g4),fun j ob b sh g1 g2=>hr.nfz j ob b sh g1 (back (live g1) g2),fun j hj=>?_,fun b hb=>?_⟩,
  ⟨acc.sz,acc.os,acc.tape,acc.output,?_,fun b hb hn=>?_,fun b arr e fr hx=>?_,fun j p hj=>hρ _ _ (acc.rho _ _ hj),acc.fz,fun j ob b sh g1 g2 g3=>acc.live j ob b sh g1 (back (live g1) g2) g3,acc.next,fun j hj=>?_,acc.nfz⟩,le,fun o2 x2 g=>?_⟩
 ·obtain⟨b,sh,h1,h2⟩:=hr.obj j ob hj;exact⟨b,sh,hρ _ _ h1,h2.mono le (hold b h2.lt)⟩
 ·have:j≠o:=by omega
  simp only[K.with,if_neg this];exact hr.fresh j hj
 ·have:=hr.lt b hb;simp;omega
 ·have:=acc.size;simp;omega
 ·exact(hold b (Nat.lt_of_lt_of_le hb acc.size)).trans (acc.same b hb hn)
 ·obtain⟨a1,f1,q1,q2⟩:=acc.shape b arr e fr hx;exact⟨a1,f1,(hold b (Array.getElem?_eq_some_iff.1 q1).1).trans q1,q2⟩
 ·have:j≠o:=by omega
  simp only[K.with,if_neg this];exact acc.keep j hj
 ·obtain⟨b,h1,h2,h3,h4,h5⟩:=g;exact⟨b,hρ _ _ h1,h2,h3.mono le (hold b h3.lt),h4,fun o' ob sh g1 g2=>h5 o' ob sh g1 (back (live g1) g2)⟩
end
theorem count_set {p p':Nat→Bool}{i:Nat}(hp:∀x,p' x=(p x && !decide (x=i)))(hi:p i=true):∀l:List Nat,l.Nodup→i∈l→l.countP p'+1=l.countP p
 |[],_,h=>by cases h
 |x::l,hn,hm=>by
  rw[List.nodup_cons]at hn;rw[List.countP_cons,List.countP_cons];by_cases e:x=i
  ·subst e;have h1:p' x=false:=by rw[hp];simp
   have h2:l.countP p'=l.countP p:=by
    refine List.countP_congr fun y hy=>?_
    have:y≠x:=fun e=>hn.1 (e ▸ hy)
    rw[hp];simp[this]
   rw[h1,hi,h2];simp
  ·have hm':i∈l:=(zH.1 hm).resolve_left (fun h=>e h.symm);have ih:=count_set hp hi l hn.2 hm';have:p' x=p x:=by rw[hp];simp[e]
   rw[this];omega
section
variable {P:Program}{E:Env}{callf:AV→List AV→AH→Option (AG×AH×RC)}{c:Ctx}{ops:Array Oper}{base:Nat}{τ0 T':T AV}{k0:K}{h0:AH}{w0:World}
 {stages:List (Nat×AH)} {hend:AH} {pan:Option (Nat×List (AV×Bool))} {laidEnd:List Nat} {pend:List (Nat×Nat×AO)}
structure Stat (P:Program)(E:Env)(callf:AV→List AV→AH→Option (AG×AH×RC))(c:Ctx)(ops:Array Oper)(base:Nat)(τ0 T':T AV)(h0:AH)(stages:List (Nat×AH))(hend:AH)(pan:Option (Nat×List (AV×Bool)))(laidEnd:List Nat)(pend:List (Nat×Nat×AO)):Prop where
 env:Az P E
 call:∀fv args h res h' rc',callf fv args h=some (res,h',rc')→Rd P E fv args .normal h .no res h' rc'
 apart:OO ops (Region.before ops)
 cov:∀i,i<ops.size→FF (Region.before ops) pan i=true∨∃Ti,View ops τ0 T' i Ti∧((∀o d,ops[i]?=some o→o.dst=some d→d<c.n∧d<B9)∨∃ch,pan=some (i,ch))∧
  Oj E ops (Region.before ops) base T' (match pan with|some _=>none|none=>some hend) stages i Ti=true
 pw:stages.Pairwise (fun a b=>Be (Region.before ops) b.1 a.1=true)
 pendOk:pan=none→(∀p∈pend,Jm E ops base τ0 T' p∧p.1∉laidEnd)∧(pend.map (·.1)).Nodup
 same:∀t,(∀(j:Nat) (q:Oper),ops[j]?=some q→q.dst≠some t)→T.get AE T' t=T.get AE τ0 t
 hbase:base=h0.next
 hlim:base+ops.size<BF
structure Sim (P:Program)(E:Env)(callf:AV→List AV→AH→Option (AG×AH×RC))(c:Ctx)(ops:Array Oper)(base:Nat)(τ0 T':T AV)(k0:K)(h0:AH)(w0:World)(stages:List (Nat×AH))(hend:AH)(pan:Option (Nat×List (AV×Bool)))(laidEnd:List Nat)
 (defs:List AD) (kk:List Item) (D:Nat→Prop) (laid:List Nat) (g:AH) (pre st:List (Nat×AH)) (k:K) (w:World) (fr:Frame) (is:List Nat):Prop where
 down:∀i j,D i→Be (Region.before ops) i j=true→D j
 dlt:∀i,D i→i<ops.size
 nopan:∀i ch,pan=some (i,ch)→¬D i
 stg:stages=pre++st
 hpre:∀p∈pre,D p.1
 hst:∀p∈st,¬D p.1
 fch:FCh E callf c.n ops (Region.before ops) base τ0 T' laid g st hend pan laidEnd
 sz:k.sz=⟨P.cellsOf,E.sel,E.tok,E.str,E.mp⟩
 heap:HR k g w
 acc:Ev k0 k h0 g w0 w
 glob:B3 E k w
 gn:base+ops.size≤g.next
 gh:∀a o Ta x f,D a→a∉laid→ops[a]?=some o→View ops τ0 T' a Ta→AZ ops o Ta=some true→kindOf E o.op=.a→BT E o.op (Bj E Ta)=some (x,f)→Gh k g w w0.heap.size (base+a) x
 ghd:∀a a' b,D a→D a'→k.ρ (base+a)=some (b,0)→k.ρ (base+a')=some (b,0)→a=a'
 rlt:∀a b,D a→k.ρ (base+a)=some (b,0)→b<w.heap.size
 un:∀a,a<ops.size→¬D a→k.ρ (base+a)=none
 laidD:∀a∈laid,D a
 tsz:fr.tmps.size=c.n
 tin:∀t j q,D j→ops[j]?=some q→q.dst=some t→t<c.n∧t<B9∧VR k w ((T.get AE T' t).getD AM) (fr.tmps.getD t undef)
 tout:∀t,(∀(j:Nat) (q:Oper),D j→ops[j]?=some q→q.dst≠some t)→VR k w ((T.get AE τ0 t).getD AM) (fr.tmps.getD t undef)
 fn:fr.fn=c.fn
 todo:IR k (.inRegion ops is::kk) fr.todo
 defs:DRL k w defs fr.defers
 mode:fr.mode=.run
 kind:fr.kind=c.kind
 round:match c.round with
  |none=>fr.roundOf=none|some l=>∃b,k.ρ l=some (b,0)∧fr.roundOf=some b
 early:c.kind=.normal∨c.kind=.deferred
theorem Oz {bs:Array Nat}(ha:OO ops bs){i:Nat}{o:Oper}{Ta Tb:T AV}(hi:ops[i]?=some o)(va:View ops τ0 T' i Ta)(vb:View ops τ0 T' i Tb){t:Nat}(ht:t∈Fp ops o):T.get AE Ta t=T.get AE Tb t:=by
 by_cases hw:∃(j:Nat) (q:Oper),ops[j]?=some q∧q.dst=some t
 ·obtain⟨j,q,hj,hq⟩:=hw;rcases ha.look i j o q t hi hj hq ht with⟨hlt,_⟩|⟨hle,_⟩
  ·have hn:∀(j':Nat) (q':Oper),i≤j'→ops[j']?=some q'→q'.dst≠some t:=fun j' q' hle hj' he=>by have:=ha.one j' j q' q t hj' hj he hq;omega
   rw[←va.2 t hn,←vb.2 t hn]
  ·have hn:∀(j':Nat) (q':Oper),j'<i→ops[j']?=some q'→q'.dst≠some t:=fun j' q' hlt hj' he=>by have:=ha.one j' j q' q t hj' hj he hq;omega
   rw[va.1 t hn,vb.1 t hn]
 ·have hn:∀(j':Nat) (q':Oper),j'<i→ops[j']?=some q'→q'.dst≠some t:=fun j' q' _ hj' he=>hw ⟨j',q',hj',he⟩
  rw[va.1 t hn,vb.1 t hn]
theorem Rz {o:Oper}{t:Nat}(h:Operand.tmp t∈o.op.operands):t∈Fp ops o:=by unfold Fp;rw[List.mem_append];refine .inr (List.mem_filterMap.2 ⟨.tmp t,by simpa using h,rfl⟩)
theorem U4 {bs:Array Nat}(ha:OO ops bs){i:Nat}{o:Oper}{Ta Tb:T AV}(hi:ops[i]?=some o)(va:View ops τ0 T' i Ta)(vb:View ops τ0 T' i Tb):∀x∈o.op.operands,Bj E Ta x=Bj E Tb x:=by
 intro x hx;cases x with
 |tmp t=>simp only[Bj,Oz ha hi va vb (Rz hx)]|const v=>rfl|global g=>rfl|func f=>rfl
theorem Iq {bs:Array Nat}(ha:OO ops bs){i:Nat}{o:Oper}{Ta Tb:T AV}(hi:ops[i]?=some o)(va:View ops τ0 T' i Ta)(vb:View ops τ0 T' i Tb):AZ ops o Ta=AZ ops o Tb:=by
 unfold AZ;cases hg:o.guard with
 |none=>rfl|some p=>
  obtain⟨j,want⟩:=p;simp only;cases hd:(ops[j]?).bind (·.dst) with
  |none=>rfl|some d=>
   have:d∈Fp ops o:=by unfold Fp;rw[hg,List.mem_append];exact .inl (by simp only[hd];simp)
   simp only[Oz ha hi va vb this]
variable {defs:List AD}{kk:List Item}{D:Nat→Prop}{laid:List Nat}{g:AH}{pre st:List (Nat×AH)}{k:K}{w:World}{fr:Frame}{is:List Nat}
theorem Sim.names (S:Stat P E callf c ops base τ0 T' h0 stages hend pan laidEnd pend)(m:Sim P E callf c ops base τ0 T' k0 h0 w0 stages hend pan laidEnd defs kk D laid g pre st k w fr is)
 {i:Nat} {o:Oper} {Ti:T AV} (hD:¬D i) (hready:∀j,Be (Region.before ops) i j=true→D j) (hi:ops[i]?=some o) (va:View ops τ0 T' i Ti) {t:Nat} (ht:t∈Fp ops o) :
 VR k w ((T.get AE Ti t).getD AM) (fr.tmps.getD t undef):=by
 by_cases hw:∃(j:Nat) (q:Oper),ops[j]?=some q∧q.dst=some t
 ·obtain⟨j,q,hj,hq⟩:=hw;rcases S.apart.look i j o q t hi hj hq ht with⟨hlt,hb⟩|⟨hle,hb⟩
  ·have hn:∀(j':Nat) (q':Oper),i≤j'→ops[j']?=some q'→q'.dst≠some t:=fun j' q' hle hj' he=>by have:=S.apart.one j' j q' q t hj' hj he hq;omega
   rw[←va.2 t hn];exact(m.tin t j q (hready j hb) hj hq).2.2
  ·have hnD:¬D j:=by
    intro hj';rcases hb with rfl|hb
    ·exact hD hj'
    ·exact hD (m.down j i hj' hb)
   have hn:∀(j':Nat) (q':Oper),j'<i→ops[j']?=some q'→q'.dst≠some t:=fun j' q' hlt hj' he=>by have:=S.apart.one j' j q' q t hj' hj he hq;omega
   rw[va.1 t hn];refine m.tout t fun j' q' hd hj' he=>?_
   have:=S.apart.one j' j q' q t hj' hj he hq;subst this;exact hnD hd
 ·have hn:∀(j':Nat) (q':Oper),j'<i→ops[j']?=some q'→q'.dst≠some t:=fun j' q' _ hj' he=>hw ⟨j',q',hj',he⟩
  rw[va.1 t hn];exact m.tout t fun j' q' _ hj' he=>hw ⟨j',q',hj',he⟩
theorem Sim.eval (S:Stat P E callf c ops base τ0 T' h0 stages hend pan laidEnd pend)(m:Sim P E callf c ops base τ0 T' k0 h0 w0 stages hend pan laidEnd defs kk D laid g pre st k w fr is)
 {i:Nat} {o:Oper} {Ti:T AV} (hD:¬D i) (hready:∀j,Be (Region.before ops) i j=true→D j) (hi:ops[i]?=some o) (va:View ops τ0 T' i Ti):∀x∈o.op.operands,VR k w (Bj E Ti x) (fr.eval x):=by
 intro x hx;cases x with
 |tmp t=>exact m.names S hD hready hi va (Rz hx)|const v=>exact Jx k w v|global g=>
  simp only[Bj,Frame.eval];cases hgl:E.glob g with
  |none=>simp only[VR]|some cells=>simp only[VR];exact⟨g,0,rfl,(m.glob g cells hgl).1,(m.glob g cells hgl).2.1⟩
 |func fid=>simp only[Bj,Frame.eval,VR];exact⟨#[],#[],rfl,by simp only[VRL],by simp only[VRL]⟩
theorem Sim.wanted (S:Stat P E callf c ops base τ0 T' h0 stages hend pan laidEnd pend)(m:Sim P E callf c ops base τ0 T' k0 h0 w0 stages hend pan laidEnd defs kk D laid g pre st k w fr is)
 {i:Nat} {o:Oper} {Ti:T AV} (hD:¬D i) (hready:∀j,Be (Region.before ops) i j=true→D j) (hi:ops[i]?=some o) (va:View ops τ0 T' i Ti) {b:Bool} (hw:AZ ops o Ti=some b) :
 Region.wanted o (yielded ops fr.tmps)=b:=by
 refine GG (k:=k) (w:=w) (ts:=fr.tmps) (fun j want d hg hd=>?_) hw;refine m.names S hD hready hi va ?_;unfold Fp;rw[hg,List.mem_append];exact .inl (by simp only[hd];simp)
end
section
variable {P:Program}{E:Env}{callf:AV→List AV→AH→Option (AG×AH×RC)}{c:Ctx}{ops:Array Oper}{base:Nat}{τ0 T':T AV}{k0:K}{h0:AH}{w0:World}
 {stages:List (Nat×AH)} {hend:AH} {pan:Option (Nat×List (AV×Bool))} {laidEnd:List Nat} {pend:List (Nat×Nat×AO)}
 {defs:List AD} {kk:List Item} {D:Nat→Prop} {laid laid':List Nat} {g g':AH} {pre st pre' st':List (Nat×AH)} {k k':K} {w w':World} {fr:Frame} {is:List Nat}
theorem AdC {e:Nat}{ch:List (AV×Bool)}{bs:Array Nat}{cn:Nat}{p:Option (Nat×List (AV×Bool))}(f:FCh E callf cn ops bs base τ0 T' laid g st hend p laidEnd)(hp:p=some (e,ch)) :
 ∃o Te,ops[e]?=some o∧View ops τ0 T' e Te∧AZ ops o Te=some true∧kindOf E o.op=.e:=by
 induction f with
 |done=>cases hp|eff _ _ _ _ _ _ _ _ ih=>exact ih hp|pan _ hd ho hv hw hk _ _=>cases hp;exact⟨_,_,ho,hv,hw,hk⟩
theorem WN {bs:Array Nat}{cn:Nat}{p:Option (Nat×List (AV×Bool))}(f:FCh E callf cn ops bs base τ0 T' laid g st hend p laidEnd) :
 ∀q∈st,∃o Te,ops[q.1]?=some o∧View ops τ0 T' q.1 Te∧AZ ops o Te=some true∧kindOf E o.op=.e:=by
 induction f with
 |done=>intro q hq;cases hq
 |eff hd ho hv hw hk _ _ _ ih=>
  intro q hq;rcases zH.1 hq with rfl|hq
  ·exact⟨_,_,ho,hv,hw,hk⟩
  ·exact ih q hq
 |pan _ hd ho hv hw hk _ _=>
  intro q hq;rcases zH.1 hq with rfl|hq
  ·exact⟨_,_,ho,hv,hw,hk⟩
  ·cases hq
theorem Sim.adv (S:Stat P E callf c ops base τ0 T' h0 stages hend pan laidEnd pend){i:Nat}{rest:List Nat}(m:Sim P E callf c ops base τ0 T' k0 h0 w0 stages hend pan laidEnd defs kk D laid g pre st k w fr (i::rest))
 {o:Oper} (hD:¬D i) (hready:∀j,Be (Region.before ops) i j=true→D j) (hi:ops[i]?=some o) (le:Le k k' w w') (hpan:∀ch,pan≠some (i,ch))
 (stg:stages=pre'++st') (hpre:∀p∈pre',D p.1∨p.1=i) (hst:∀p∈st',¬D p.1∧p.1≠i) (fch:FCh E callf c.n ops (Region.before ops) base τ0 T' laid' g' st' hend pan laidEnd)
 (heap:HR k' g' w') (acc:Ev k0 k' h0 g' w0 w') (gn:base+ops.size≤g'.next)
 (gh:∀a o Ta x f,(D a∨a=i)→a∉laid'→ops[a]?=some o→View ops τ0 T' a Ta→AZ ops o Ta=some true→kindOf E o.op=.a→BT E o.op (Bj E Ta)=some (x,f)→Gh k' g' w' w0.heap.size (base+a) x)
 (ghd:∀a a' b,(D a∨a=i)→(D a'∨a'=i)→k'.ρ (base+a)=some (b,0)→k'.ρ (base+a')=some (b,0)→a=a')
 (rlt:∀a b,(D a∨a=i)→k'.ρ (base+a)=some (b,0)→b<w'.heap.size) (un:∀a,a<ops.size→¬D a→a≠i→k'.ρ (base+a)=none) (laidD:∀a∈laid',D a∨a=i)
 {v:Value} (hv:∀d,o.dst=some d→d<c.n∧d<B9∧VR k' w' ((T.get AE T' d).getD AM) v) :
 Sim P E callf c ops base τ0 T' k0 h0 w0 stages hend pan laidEnd defs kk (fun x=>D x∨x=i) laid' g' pre' st' k' w' (fr.finish v) rest:=by
 obtain⟨kk',ht,hik⟩:=m.todo.head (by constructor<;>intro _ e<;>cases e);have e:fr.finish v = { fr with tmps:=match o.dst with|some d=>fr.tmps.setIfInBounds d v|none=>fr.tmps,todo:=.inRegion ops rest::kk' }:=by simp only[Frame.finish,ht,hi,Option.bind_some];cases o.dst<;>rfl
 have hget:∀t,o.dst≠some t→(fr.finish v).tmps.getD t undef=fr.tmps.getD t undef:=by
  intro t hne;rw[e];cases hd:o.dst with
  |none=>rfl|some d=>
   have:d≠t:=fun x=>hne (by rw[hd,x])
   simp only[Array.getD_eq_getD_getElem?,Array.getElem?_setIfInBounds_ne this]
 have hsz:(fr.finish v).tmps.size=c.n:=by
  rw[e];cases hd:o.dst with
  |none=>exact m.tsz|some d=>simp[m.tsz]
 have hown:∀d,o.dst=some d→(fr.finish v).tmps.getD d undef=v:=by
  intro d hd;rw[e];have:=(hv d hd).1;have h2:d<fr.tmps.size:=by rw[m.tsz];exact this
  simp[hd,Array.getD,h2]
 have hlt:i<ops.size:=(Array.getElem?_eq_some_iff.1 hi).1;refine⟨fun a b hab hb=>?_,fun a ha=>?_,fun a ch hp ha=>?_,stg,hpre,fun p hp hd=>?_,fch,le.sz.trans m.sz,heap,acc,m.glob.mono le,gn,gh,ghd,rlt,fun a ha hn=>un a ha (fun h=>hn (.inl h)) (fun h=>hn (.inr h)),laidD,hsz,fun t j q hj hq hd=>?_,fun t hn=>?_,?_,?_,?_,?_,?_,?_,m.early⟩
 ·rcases hab with h|rfl
  ·exact .inl (m.down a b h hb)
  ·exact .inl (hready b hb)
 ·rcases ha with h|rfl
  ·exact m.dlt a h
  ·exact hlt
 ·rcases ha with h|rfl
  ·exact m.nopan a ch hp h
  ·exact hpan ch hp
 ·rcases hd with h|h
  ·exact(hst p hp).1 h
  ·exact(hst p hp).2 h
 ·rcases hj with hj|rfl
  ·obtain⟨q1,q2,q3⟩:=m.tin t j q hj hq hd;refine⟨q1,q2,?_⟩;rw[hget t fun he=>?_]
   ·exact VR.mono le _ _ q3
   ·have:=S.apart.one j i q o t hq hi hd he;subst this;exact hD hj
  ·rw[hi]at hq;cases hq;obtain⟨q1,q2,q3⟩:=hv t hd;exact⟨q1,q2,by rw[hown t hd];exact q3⟩
 ·rw[hget t (hn i o (.inr rfl) hi)];exact VR.mono le _ _ (m.tout t fun j q hj=>hn j q (.inl hj))
 ·rw[e];exact m.fn
 ·rw[e];simp only[IR];exact⟨kk',rfl,hik.mono le⟩
 ·rw[e];exact m.defs.mono le
 ·rw[e];exact m.mode
 ·rw[e];exact m.kind
 ·have hr:=m.round;rw[e];cases hcr:c.round with
  |none=>rw[hcr]at hr;exact hr
  |some l=>rw[hcr]at hr;obtain⟨b,q1,q2⟩:=hr;exact⟨b,le.rho _ _ q1,q2⟩
theorem GD {o:Oper}(hk:kindOf E o.op≠.no):∀cl,o.op≠.defer cl:=by intro cl e;rw[e]at hk;exact hk rfl
theorem JC {dst:Option Nat}{v:AV}(h:Ke T' dst v=true):∀d,dst=some d→T.get AE T' d=some v:=by
 intro d hd;subst hd;simp only[Ke]at h;split at h
 ·rename_i u hu;rw[hu,Em _ _ h]
 ·cases h
theorem Pe {bs:Array Nat}{i:Nat}{o:Oper}{tmps:T AV}{he:Option AH} : ∀{l:List (Nat×AH)} {acc:List Nat},Du E bs i o tmps T' he acc l=true→∀l1 l2,l=l1++l2→(∀p∈l1,Be bs p.1 i=false)→(∀e∈acc,Be bs e i=false)→(∀p∈l2,Be bs i p.1=false)→
 GV E o tmps T' (match l2 with|[]=>he|(_,g)::_=>some g)=true
 |[],acc,h,l1,l2,hl,h1,ha,h2=>by
  obtain⟨rfl,rfl⟩:l1=[]∧l2=[]:=by simpa using hl.symm
  simp only[Du,FV,Bool.or_eq_true,List.any_eq_true]at h;rcases h with⟨e,q1,q2⟩|⟨e,q1,q2⟩|h
  ·rw[ha e q1]at q2;cases q2
  ·cases q1
  ·exact h
 |(e,g)::l,acc,h,l1,l2,hl,h1,ha,h2=>by
  simp only[Du,zA]at h;cases l1 with
  |nil=>
   simp only[List.nil_append]at hl;subst hl;have h:=h.1;simp only[FV,Bool.or_eq_true,List.any_eq_true]at h;rcases h with⟨e',q1,q2⟩|⟨e',q1,q2⟩|h
   ·rw[ha e' q1]at q2;cases q2
   ·rcases zH.1 q1 with rfl|q1
    ·rw[h2 (e',g) (by simp)]at q2;cases q2
    ·obtain⟨p,q3,rfl⟩:=List.mem_map.1 q1;rw[h2 p (by simp[q3])]at q2;cases q2
   ·exact h
  |cons p l1=>
   simp only[List.cons_append,List.cons.injEq]at hl;obtain⟨rfl,rfl⟩:=hl;exact Pe h.2 l1 l2 rfl (fun p hp=>h1 p (by simp[hp])) (fun e' he'=>by
    rcases zH.1 he' with rfl|he'
    ·exact h1 (e',g) (by simp)
    ·exact ha e' he') h2
end
section
variable {P:Program}{E:Env}{callf:AV→List AV→AH→Option (AG×AH×RC)}{c:Ctx}{ops:Array Oper}{base:Nat}{τ0 T':T AV}{k0:K}{h0:AH}{w0:World}
 {stages:List (Nat×AH)} {hend:AH} {pan:Option (Nat×List (AV×Bool))} {laidEnd:List Nat} {pend:List (Nat×Nat×AO)}
 {defs:List AD} {kk:List Item} {D:Nat→Prop} {laid:List Nat} {g:AH} {pre st:List (Nat×AH)} {k:K} {w:World} {fr:Frame}
theorem Sim.due {is:List Nat}(S:Stat P E callf c ops base τ0 T' h0 stages hend pan laidEnd pend)(m:Sim P E callf c ops base τ0 T' k0 h0 w0 stages hend pan laidEnd defs kk D laid g pre st k w fr is)
 {due:List (Nat×Nat×AO)} (h1:∀p∈due,Jm E ops base τ0 T' p∧p.1∉laid∧D p.1) (h2:(due.map (·.1)).Nodup) :
 HR k (AH.lay g due) w∧Ev k0 k h0 (AH.lay g due) w0 w∧(∀a x,D a→a∉due.map (·.1)→Gh k g w w0.heap.size (base+a) x→Gh k (AH.lay g due) w w0.heap.size (base+a) x):=by
 have hp:∀p∈due,p.2.1<BF∧p.2.1<g.next∧Gh k g w w0.heap.size p.2.1 p.2.2:=by intro p hp;obtain⟨⟨e,o,Ti,f,ho,hv,hw,hk,ha⟩,q2,q3⟩:=h1 p hp;have:=m.dlt _ q3;have:=S.hlim;have:=m.gn;rw[e];exact⟨by omega,by omega,m.gh p.1 o Ti p.2.2 f q3 q2 ho hv hw hk ha⟩
 have hpw:due.Pairwise (fun p q=>∀b,k.ρ p.2.1=some (b,0)→k.ρ q.2.1≠some (b,0)):=by
  have hn:due.Pairwise (fun p q=>p.1≠q.1):=by rw[List.Nodup,List.pairwise_map]at h2;exact h2
  refine List.Pairwise.imp_of_mem ?_ hn;intro p q hp' hq' hne b hb1 hb2;rw[(h1 p hp').1.1]at hb1;rw[(h1 q hq').1.1]at hb2;exact hne (m.ghd _ _ b (h1 p hp').2.2 (h1 q hq').2.2 hb1 hb2)
 obtain⟨r1,r2,r3⟩:=V3 due g m.heap m.acc hp hpw;refine⟨r1,r2,fun a x hd hn gh=>r3 _ _ (fun p hp' b hb1 hb2=>?_) gh⟩;rw[(h1 p hp').1.1]at hb2;have:=m.ghd _ _ b hd (h1 p hp').2.2 hb1 hb2;exact hn (this ▸ List.mem_map_of_mem hp')
theorem Sim.step (S:Stat P E callf c ops base τ0 T' h0 stages hend pan laidEnd pend){i:Nat}{rest:List Nat}(m:Sim P E callf c ops base τ0 T' k0 h0 w0 stages hend pan laidEnd defs kk D laid g pre st k w fr (i::rest))
 (hD:¬D i) (hready:∀j,Be (Region.before ops) i j=true→D j) (hlt:i<ops.size) (cs:List Frame) :
 (∃k' w' v laid' g' pre' st',Steps P (lone fr cs w) (lone (fr.finish v) cs w')∧Sim P E callf c ops base τ0 T' k0 h0 w0 stages hend pan laidEnd defs kk (fun x=>D x∨x=i) laid' g' pre' st' k' w' (fr.finish v) rest)∨
 (∃ch k' w' chain,pan=some (i,ch)∧Steps P (lone fr cs w) (lone (fr.raise chain) cs w')∧HR k' hend w'∧Ev k0 k' h0 hend w0 w'∧CR k' w' ch chain∧Le k k' w w'):=by
 have hE:=S.env;obtain⟨kk',ht,hik⟩:=m.todo.head (by constructor<;>intro _ e<;>cases e);rcases S.cov i hlt with hdead|⟨Ti,hview,hdst,hok⟩
 ·exfalso;cases hp:pan with
  |none=>rw[hp]at hdead;cases hdead
  |some x=>obtain⟨e,ch⟩:=x;rw[hp]at hdead;exact m.nopan e ch hp (hready e hdead)
 unfold Oj at hok;cases ho:ops[i]? with
 |none=>rw[ho]at hok;cases hok
 |some o=>
 rw[ho]at hok;simp only at hok;have hev:=m.eval S hD hready ho hview;have unD:k.ρ (base+i)=none:=m.un i hlt hD;have nopan:(AZ ops o Ti≠some true∨kindOf E o.op≠.e)→∀ch,pan≠some (i,ch):=by
  intro hn ch hp;obtain⟨o',Te,q1,q2,q3,q4⟩:=AdC m.fch hp;rw[ho]at q1;cases q1;rcases hn with hn|hn
  ·rw[Iq S.apart ho hview q2]at hn;exact hn q3
  ·exact hn q4
 have notst:(AZ ops o Ti≠some true∨kindOf E o.op≠.e)→∀p∈st,¬D p.1∧p.1≠i:=by
  intro hn p hp;refine⟨m.hst p hp,fun e=>?_⟩;obtain⟨o',Te,q1,q2,q3,q4⟩:=WN m.fch p hp;rw[e]at q1 q2;rw[ho]at q1;cases q1;rcases hn with hn|hn
  ·rw[Iq S.apart ho hview q2]at hn;exact hn q3
  ·exact hn q4
 have size0:base+i<g.next:=by have:=m.gn;omega
 have bound:(∀ch,pan≠some (i,ch))→∀d,o.dst=some d→d<c.n∧d<B9:=by
  intro hn d hd;rcases hdst with h1|⟨ch,h1⟩
  ·exact h1 o d ho hd
  ·exact absurd h1 (hn ch)
 have hi_laid:i∉laid:=fun h=>hD (m.laidD i h)
 cases hw:AZ ops o Ti with
 |none=>rw[hw]at hok;cases hok
 |some b=>
 rw[hw]at hok;have hwant:=m.wanted S hD hready ho hview hw;cases b with
 |false=>
  simp only at hok;have hnp:=nopan (.inl (by rw[hw];simp));refine .inl ⟨k,w,undef,laid,g,pre,st,VZ m.mode ht ho hwant,m.adv S hD hready ho ((Ev.refl k g w).le m.heap) hnp m.stg (fun p hp=>.inl (m.hpre p hp)) (notst (.inl (by rw[hw];simp))) m.fch m.heap m.acc m.gn ?_ ?_ ?_ (fun a ha hn _=>m.un a ha hn) (fun a ha=>.inl (m.laidD a ha)) ?_⟩
  ·intro a oa Ta x f ha hl hoa hva hwa hka hal;rcases ha with ha|rfl
   ·exact m.gh a oa Ta x f ha hl hoa hva hwa hka hal
   ·rw[ho]at hoa;cases hoa;rw[Iq S.apart ho hva hview,hw]at hwa;cases hwa
  ·intro a a' b ha ha' h1 h2;rcases ha with ha|rfl
   ·rcases ha' with ha'|rfl
    ·exact m.ghd a a' b ha ha' h1 h2
    ·rw[unD]at h2;cases h2
   ·rw[unD]at h1;cases h1
  ·intro a b ha h1;rcases ha with ha|rfl
   ·exact m.rlt a b ha h1
   ·rw[unD]at h1;cases h1
  ·intro d hd;obtain⟨q1,q2⟩:=bound hnp d hd;refine⟨q1,q2,?_⟩;rw[JC hok d hd];simp only[Option.getD_some,AM,VR];exact⟨#[],rfl,by simp only[VRL]⟩
 |true=>
  simp only at hok;cases hk:kindOf E o.op with
  |no=>rw[hk]at hok;cases hok
  |f=>
   rw[hk]at hok;simp only at hok;have hnp:=nopan (.inr (by rw[hk];simp));have hread:=Pe hok pre st m.stg (fun p hp=>by
    cases hb:Be (Region.before ops) p.1 i with
    |false=>rfl|true=>exact absurd (m.down _ _ (m.hpre p hp) hb) hD) (fun e he=>by cases he) (fun p hp=>by
    cases hb:Be (Region.before ops) i p.1 with
    |false=>rfl|true=>exact absurd (hready _ hb) (m.hst p hp))
   have hread:GV E o Ti T' (some g)=true:=by
    have hf:=m.fch;cases st with
    |nil=>cases hf;exact hread
    |cons p st'=>obtain⟨e,g1⟩:=p;cases hf<;>exact hread
   simp only[GV]at hread;split at hread;case h_2=>cases hread
   rename_i v' hra;have hask:∃h',B4 E o (Bj E Ti) g=some (.val v' h'):=by
    unfold H7 at hra;rw[hk]at hra;simp only at hra;split at hra
    ·rename_i h' hx;cases hra;exact⟨_,hx⟩
    ·cases hra
   obtain⟨h',hask⟩:=hask;have:=U2 hk hask;subst this;obtain⟨nx,w1,k1,e1,e2,r1,e3⟩:=Ff hE m.sz m.heap (ρ:=fr.eval) hev hask;have hst:=FM (P:=P) (w:=w) (cs:=cs) m.mode ht ho hwant (.inr (GD (by rw[hk];simp)));have keep:∀a,a<ops.size→k1.ρ (base+a)=k.ρ (base+a):=fun a ha=>e3.keep _ (by have:=m.gn;omega)
   have fin:∀v,VR k1 w1 v' v→Sim P E callf c ops base τ0 T' k0 h0 w0 stages hend pan laidEnd defs kk (fun x=>D x∨x=i) laid h' pre st k1 w1 (fr.finish v) rest:=by
    intro v hvv;refine m.adv S hD hready ho (e3.le m.heap) hnp m.stg (fun p hp=>.inl (m.hpre p hp)) (notst (.inr (by rw[hk];simp))) m.fch r1 (m.acc.trans e3) m.gn ?_ ?_ ?_ (fun a ha hn _=>(keep a ha).trans (m.un a ha hn)) (fun a ha=>.inl (m.laidD a ha)) ?_
    ·intro a oa Ta x f ha hl hoa hva hwa hka hal;rcases ha with ha|rfl
     ·exact(m.gh a oa Ta x f ha hl hoa hva hwa hka hal).mono m.heap e3
     ·rw[ho]at hoa;cases hoa;rw[hk]at hka;cases hka
    ·intro a a' b ha ha' h1 h2;rcases ha with ha|rfl
     ·rcases ha' with ha'|rfl
      ·rw[keep a (m.dlt a ha)]at h1;rw[keep a' (m.dlt a' ha')]at h2;exact m.ghd a a' b ha ha' h1 h2
      ·rw[keep _ hlt,unD]at h2;cases h2
     ·rw[keep _ hlt,unD]at h1;cases h1
    ·intro a b ha h1;rcases ha with ha|rfl
     ·rw[keep a (m.dlt a ha)]at h1;exact Nat.lt_of_lt_of_le (m.rlt a b ha h1) e3.size
     ·rw[keep _ hlt,unD]at h1;cases h1
    ·intro d hd;obtain⟨q1,q2⟩:=bound hnp d hd;refine⟨q1,q2,?_⟩;rw[JC hread d hd];exact hvv
   rcases e2 with⟨u,rfl,hu⟩|⟨rfl,rfl⟩
   ·exact .inl ⟨k1,w1,u,laid,h',pre,st,BC (by rw[hst];exact Fz e1),fin u hu⟩
   ·exact .inl ⟨k1,w1,undef,laid,h',pre,st,BC (by rw[hst];exact Ms e1),fin undef (by simp only[AM,VR];exact⟨#[],rfl,by simp only[VRL]⟩)⟩
  |a=>
   rw[hk]at hok;simp only at hok;have hnp:=nopan (.inr (by rw[hk];simp));split at hok;case h_2=>cases hok
   rename_i x f hal;obtain⟨v,obj,e1,hnew⟩:=OT hE (ρ:=fr.eval) hev hal;have hst:=FM (P:=P) (w:=w) (cs:=cs) m.mode ht ho hwant (.inr (GD (by rw[hk];simp)));obtain⟨r1,r2,r3,r4⟩:=m.heap.ghost m.acc unD (by have:=S.hbase;omega) size0 obj w.drawn;have hobj:({ w with heap:=w.heap.push obj,drawn:=w.drawn } : World).heap[w.heap.size]?=some obj:=by simp
   obtain⟨n1,n2⟩:=hnew _ _ (base+i) r3 hobj (K.BJ _ _ _);have old:∀a,a≠i→(k.with (base+i) w.heap.size).ρ (base+a)=k.ρ (base+a):=fun a ha=>by simp only[K.with,if_neg (show base+a≠base+i by omega)]
   refine .inl ⟨_,_,v,laid,g,pre,st,BC (by rw[hst];exact Fz e1),m.adv S hD hready ho r3 hnp m.stg (fun p hp=>.inl (m.hpre p hp)) (notst (.inr (by rw[hk];simp))) m.fch r1 r2 m.gn ?_ ?_ ?_ (fun a ha hn hne=>(old a hne).trans (m.un a ha hn)) (fun a ha=>.inl (m.laidD a ha)) ?_⟩
   ·intro a oa Ta x' f' ha hl hoa hva hwa hka hal';rcases ha with ha|rfl
    ·exact r4 _ _ (m.gh a oa Ta x' f' ha hl hoa hva hwa hka hal')
    ·rw[ho]at hoa;cases hoa;rw[Je (U4 S.apart ho hva hview),hal]at hal';cases hal';refine⟨w.heap.size,K.BJ _ _ _,m.acc.size,n1,fun hf=>Nat.lt_irrefl _ (m.heap.lt _ hf),fun o' ob sh q1 q2=>?_⟩;obtain⟨b,sh',p1,p2⟩:=r1.obj o' ob q1;obtain⟨b2,sh2,p3,p4⟩:=m.heap.obj o' ob q1;rw[r3.rho _ _ p3]at q2;cases q2;exact Nat.lt_irrefl _ p4.lt
   ·intro a a' b ha ha' h1 h2;rcases ha with ha|rfl
    ·have hne:a≠i:=fun e=>hD (e ▸ ha)
     rw[old a hne]at h1;rcases ha' with ha'|rfl
     ·have hne':a'≠i:=fun e=>hD (e ▸ ha')
      rw[old a' hne']at h2;exact m.ghd a a' b ha ha' h1 h2
     ·rw[K.BJ]at h2;cases h2;exact absurd (m.rlt a _ ha h1) (Nat.lt_irrefl _)
    ·rcases ha' with ha'|rfl
     ·have hne':a'≠a:=fun e=>hD (e ▸ ha')
      rw[old a' hne']at h2;rw[K.BJ]at h1;cases h1;exact absurd (m.rlt a' _ ha' h2) (Nat.lt_irrefl _)
     ·rfl
   ·intro a b ha h1;rcases ha with ha|rfl
    ·have hne:a≠i:=fun e=>hD (e ▸ ha)
     rw[old a hne]at h1;have:=m.rlt a b ha h1;simp;omega
    ·rw[K.BJ]at h1;cases h1;simp
   ·intro d hd;obtain⟨q1,q2⟩:=bound hnp d hd;refine⟨q1,q2,?_⟩;rw[JC hok d hd];exact n2
  |e=>
   rw[hk]at hok;simp only[List.any_eq_true]at hok;obtain⟨⟨e0,g0⟩,hmem,heq⟩:=hok;have heq:e0=i:=zD heq;subst heq;obtain⟨st',rfl⟩:∃st',st=(e0,g)::st':=by
    rw[m.stg]at hmem;have hpw:=S.pw;rw[m.stg]at hpw;rcases List.mem_append.1 hmem with h1|h1
    ·exact absurd (m.hpre _ h1) hD
    ·have hf:=m.fch;cases st with
     |nil=>cases h1|cons p st'=>
      obtain⟨e1,g1⟩:=p;have:e1=e0:=by
       rcases zH.1 h1 with h2|h2
       ·cases h2;rfl
       ·have:=(List.pairwise_append.1 hpw).2.1;rw[List.pairwise_cons]at this;exact absurd (hready _ (this.1 _ h2)) (m.hst (e1,g1) (by simp))
      subst this;cases hf<;>exact⟨_,rfl⟩
   have hst:=FM (P:=P) (w:=w) (cs:=cs) m.mode ht ho hwant (.inr (GD (by rw[hk];simp)));have notcall:∀d wr r sv kk,fr.todo≠.call d wr r sv::kk:=by intro d wr r sv kk;rw[ht];simp
   have hrest:∀p∈st',¬D p.1∧p.1≠e0:=by intro p hp;refine⟨m.hst p (by simp[hp]),fun e=>?_⟩;have hpw:=S.pw;rw[m.stg]at hpw;have:=(List.pairwise_append.1 hpw).2.1;rw[List.pairwise_cons]at this;have h1:=this.1 p hp;rw[e]at h1;exact Nat.lt_irrefl _ (bit_lt S.apart _ _ h1)
   have hstg:stages=(pre++[(e0,g)])++st':=by rw[m.stg];simp
   have hpre':∀p∈pre++[(e0,g)],D p.1∨p.1=e0:=by
    intro p hp;rcases List.mem_append.1 hp with h1|h1
    ·exact .inl (m.hpre p h1)
    ·simp at h1;subst h1;exact .inr rfl
   have fin:∀{due:List (Nat×Nat×AO)} {k1:K} {w1:World} {h1:AH} {x:AV} {v:Value},RU E ops (Region.before ops) base τ0 T' laid e0 due→(∀ch,pan≠some (e0,ch))→
    FCh E callf c.n ops (Region.before ops) base τ0 T' (due.map (·.1)++laid) h1 st' hend pan laidEnd→HR k1 h1 w1→Ev k k1 (AH.lay g due) h1 w w1→dstOk c.n T' o.dst x→VR k1 w1 x v→
    Sim P E callf c ops base τ0 T' k0 h0 w0 stages hend pan laidEnd defs kk (fun x=>D x∨x=e0) (due.map (·.1)++laid) h1 (pre++[(e0,g)]) st' k1 w1 (fr.finish v) rest:=by
    intro due k1 w1 h1 x v hdue hnp hf r1 e3 hd hv;obtain⟨d1,d2,d3⟩:=m.due S (due:=due) (fun p hp=>⟨(hdue.1 p hp).1,(hdue.1 p hp).2.1,hready _ (hdue.1 p hp).2.2⟩) hdue.2;have hnext:=SZ due g;have keep:∀a,a<ops.size→k1.ρ (base+a)=k.ρ (base+a):=fun a ha=>e3.keep _ (by have:=m.gn;omega)
    refine m.adv S hD hready ho (e3.le d1) hnp hstg hpre' hrest hf r1 (d2.trans e3) (by have:=m.gn;have:=e3.next;omega) ?_ ?_ ?_ (fun a ha hn _=>(keep a ha).trans (m.un a ha hn)) (fun a ha=>?_) ?_
    ·intro a oa Ta x f ha hl hoa hva hwa hka hal;have hl1:a∉due.map (·.1):=fun h=>hl (List.mem_append_left _ h)
     have hl2:a∉laid:=fun h=>hl (List.mem_append_right _ h)
     rcases ha with ha|rfl
     ·exact(d3 a x ha hl1 (m.gh a oa Ta x f ha hl2 hoa hva hwa hka hal)).mono d1 e3
     ·rw[ho]at hoa;cases hoa;rw[hk]at hka;cases hka
    ·intro a a' b ha ha' h1 h2;rcases ha with ha|rfl
     ·rcases ha' with ha'|rfl
      ·rw[keep a (m.dlt a ha)]at h1;rw[keep a' (m.dlt a' ha')]at h2;exact m.ghd a a' b ha ha' h1 h2
      ·rw[keep _ hlt,unD]at h2;cases h2
     ·rw[keep _ hlt,unD]at h1;cases h1
    ·intro a b ha h1;rcases ha with ha|rfl
     ·rw[keep a (m.dlt a ha)]at h1;exact Nat.lt_of_lt_of_le (m.rlt a b ha h1) e3.size
     ·rw[keep _ hlt,unD]at h1;cases h1
    ·rcases List.mem_append.1 ha with h|h
     ·obtain⟨p,hp,rfl⟩:=List.mem_map.1 h;exact .inl (hready _ (hdue.1 p hp).2.2)
     ·exact .inl (m.laidD a h)
    ·intro d hdd;obtain⟨q1,q2,q3⟩:=hd d hdd;exact⟨q1,q2,by rw[q3];exact hv⟩
   have hfch:=m.fch;generalize hp:pan=pan' at hfch;cases hfch with
   | @eff _ _ _ due o' Te x h1 _ _ _ _ hdue ho' hv' hw' hk' hask hdd hf=>
    rw[ho]at ho';cases ho';subst hp;obtain⟨d1,d2,d3⟩:=m.due S (due:=due) (fun p hp=>⟨(hdue.1 p hp).1,(hdue.1 p hp).2.1,hready _ (hdue.1 p hp).2.2⟩) hdue.2;have hev':=m.eval S hD hready ho hv';have hnp:∀ch,pan≠some (e0,ch):=by
     intro ch hpn;have:∀{g st' hend laidEnd laid},FCh E callf c.n ops (Region.before ops) base τ0 T' laid g st' hend (some (e0,ch)) laidEnd→(∃g,(e0,g)∈st'):=by
      intro g st' hend laidEnd laid hf;generalize hq:(some (e0,ch):Option (Nat×List (AV×Bool)))=q at hf
      induction hf with
      |done=>cases hq|eff _ _ _ _ _ _ _ _ ih=>obtain⟨g,hg⟩:=ih hq;exact⟨g,zO _ hg⟩
      |pan=>cases hq;exact⟨_,List.mem_singleton_self _⟩
     rw[hpn]at hf;obtain⟨g2,hg2⟩:=this hf;exact(hrest _ hg2).2 rfl
    rcases hask with ha|⟨fv,args,rc,ha,hc⟩
    ·obtain⟨nx,w1,k1,e1,e2,r1,e3⟩:=Ff hE m.sz d1 (ρ:=fr.eval) hev' ha;rcases e2 with⟨u,rfl,hu⟩|⟨rfl,rfl⟩
     ·exact .inl ⟨k1,w1,u,_,h1,_,st',BC (by rw[hst];exact Fz e1),fin hdue hnp hf r1 e3 hdd hu⟩
     ·exact .inl ⟨k1,w1,undef,_,h1,_,st',BC (by rw[hst];exact Ms e1),fin hdue hnp hf r1 e3 hdd (by simp only[AM,VR];exact⟨#[],rfl,by simp only[VRL]⟩)⟩
    ·obtain⟨fn,first,captured,vs,g1,g2,g3⟩:=Ff hE m.sz d1 (ρ:=fr.eval) hev' ha;obtain⟨nx,w1,e1,e2⟩:=(S.call _ _ _ _ _ _ hc k w fn first captured vs m.sz d1 m.glob g1 g2).1 rfl rfl;rcases e2 with⟨y,u,k1,q1,rfl,hu,r1,e3⟩|⟨fr0,hs,e2⟩
     ·cases q1;exact .inl ⟨k1,w1,u,_,h1,_,st',BC (by rw[hst];exact Fz (g3.trans e1)),fin hdue hnp hf r1 e3 hdd hu⟩
     ·obtain⟨k1,w2,r1,e3,u,hu,s1⟩:=e2 fr cs;refine .inl ⟨k1,w2,u,_,h1,_,st',.trans (.one ?_) s1,fin hdue hnp hf r1 e3 hdd hu⟩;cases hs with
      |enter=>exact step_lone_go (by show(stepG P true (gor fr cs) w).bare=_;rw[hst];exact Hp (g3.trans e1) notcall)
      |round=>exact step_lone_go (by show(stepG P true (gor fr cs) w).bare=_;rw[hst];exact HU (g3.trans e1))
   | @pan _ _ _ due o' Te h1 ch fv args rc _ hdue ho' hv' hw' hk' ha hc=>
    rw[ho]at ho';cases ho';obtain⟨d1,d2,d3⟩:=m.due S (due:=due) (fun p hp=>⟨(hdue.1 p hp).1,(hdue.1 p hp).2.1,hready _ (hdue.1 p hp).2.2⟩) hdue.2;have hev':=m.eval S hD hready ho hv';obtain⟨fn,first,captured,vs,g1,g2,g3⟩:=Ff hE m.sz d1 (ρ:=fr.eval) hev' ha;obtain⟨nx,w1,e1,e2⟩:=(S.call _ _ _ _ _ _ hc k w fn first captured vs m.sz d1 m.glob g1 g2).1 rfl rfl;rcases e2 with⟨y,u,k1,q1,_⟩|⟨fr0,hs,e2⟩
    ·cases q1
    ·obtain⟨k1,w2,r1,e3,chain,hu,s1⟩:=e2 fr cs;refine .inr ⟨ch,k1,w2,chain,rfl,.trans (.one ?_) s1,r1,d2.trans e3,hu,e3.le d1⟩;cases hs with
     |enter=>exact step_lone_go (by show(stepG P true (gor fr cs) w).bare=_;rw[hst];exact Hp (g3.trans e1) notcall)
     |round=>exact step_lone_go (by show(stepG P true (gor fr cs) w).bare=_;rw[hst];exact HU (g3.trans e1))
end
section
variable {P:Program}{E:Env}{callf:AV→List AV→AH→Option (AG×AH×RC)}{c:Ctx}{ops:Array Oper}{base:Nat}{τ0 T':T AV}{k0:K}{h0:AH}{w0:World}
 {stages:List (Nat×AH)} {hend:AH} {pan:Option (Nat×List (AV×Bool))} {laidEnd:List Nat} {pend:List (Nat×Nat×AO)}
 {defs:List AD} {kk:List Item}
theorem MZ:∀(l:List Oper) (t0:T AV) (t:Nat),((∃o∈l,o.dst=some t∧t<B9)∧T.get AE (forget l t0) t=some .any)∨((¬ ∃o∈l,o.dst=some t∧t<B9)∧T.get AE (forget l t0) t=T.get AE t0 t)∨T.get AE (forget l t0) t=some .any
 |[],t0,t=>.inr (.inl ⟨by simp,rfl⟩)
 |o::l,t0,t=>by
  have hstep:forget (o::l) t0=forget l (match o.dst with|some d=>bif Nat.blt d B9 then T.put AE t0 d (some .any) else t0|none=>t0):=rfl;rw[hstep];generalize ht1:(match o.dst with|some d=>bif Nat.blt d B9 then T.put AE t0 d (some .any) else t0|none=>t0)=t1;rcases MZ l t1 t with⟨_,h2⟩|⟨h1,h2⟩|h2
  ·exact .inr (.inr h2)
  ·by_cases ho:o.dst=some t∧t<B9
   ·refine .inr (.inr ?_);rw[h2,←ht1,ho.1];have hb:Nat.blt t B9=true:=Nat.ble_eq_true_of_le ho.2;simp only[hb,cond_true];rw[T.Ds 10 t0 t t _ (by simpa using ho.2),if_pos rfl]
   ·refine .inr (.inl ⟨?_,?_⟩)
    ·rintro⟨o',hm,hd⟩;rcases zH.1 hm with rfl|hm
     ·exact ho hd
     ·exact h1 ⟨o',hm,hd⟩
    ·rw[h2,←ht1];cases hd:o.dst with
     |none=>rfl|some d=>
      simp only;cases hb:Nat.blt d B9 with
      |false=>rfl|true=>have hlt:d<B9:=zE hb;simp only[cond_true];rw[T.Ds 10 t0 d t _ (by simpa using hlt),if_neg];intro e;subst e;exact ho ⟨hd,hlt⟩
  ·exact .inr (.inr h2)
def Fin (P:Program)(c:Ctx)(ops:Array Oper)(τ0 T':T AV)(k0:K)(h0:AH)(w0:World)(hend:AH)(pan:Option (Nat×List (AV×Bool)))(pend:List (Nat×Nat×AO))(defs:List AD)(kk:List Item)(fr:Frame)(cs:List Frame)(w:World):Prop:=
 ∃k' w' fr',Steps P (lone fr cs w) (lone fr' cs w')∧match pan with
  |none=>HR k' (AH.lay hend pend) w'∧Ev k0 k' h0 (AH.lay hend pend) w0 w'∧FR k' w' c T' kk defs fr'|some (_,ch)=>HR k' hend w'∧Ev k0 k' h0 hend w0 w'∧FU k' w' c (.pan ch) (forget ops.toList τ0) defs fr'
theorem Fin.pre {fr fr1:Frame}{cs:List Frame}{w w1:World}(hs:Steps P (lone fr cs w) (lone fr1 cs w1))(h:Fin P c ops τ0 T' k0 h0 w0 hend pan pend defs kk fr1 cs w1):Fin P c ops τ0 T' k0 h0 w0 hend pan pend defs kk fr cs w:=by obtain⟨k',w',fr',s1,r⟩:=h;exact⟨k',w',fr',hs.trans s1,r⟩
theorem Sim.finish {D:Nat→Prop}{laid:List Nat}{g:AH}{pre st:List (Nat×AH)}{k:K}{w:World}{fr:Frame}(S:Stat P E callf c ops base τ0 T' h0 stages hend pan laidEnd pend)
 (m:Sim P E callf c ops base τ0 T' k0 h0 w0 stages hend pan laidEnd defs kk D laid g pre st k w fr []) (hall:∀i,i<ops.size→D i) (cs:List Frame):Fin P c ops τ0 T' k0 h0 w0 hend pan pend defs kk fr cs w:=by
 have hst:st=[]:=by
  cases st with
  |nil=>rfl|cons p st'=>obtain⟨o,Te,q1,_⟩:=WN m.fch p (by simp);exact absurd (hall _ (Array.getElem?_eq_some_iff.1 q1).1) (m.hst p (by simp))
 subst hst;have hf:=m.fch;generalize hp:pan=pan' at hf;cases hf;obtain⟨p1,p2⟩:=S.pendOk hp;obtain⟨r1,r2,_⟩:=m.due S (due:=pend) (fun p hpp=>by obtain⟨q1,q2⟩:=p1 p hpp;obtain⟨e,o,Ti,f,ho,_⟩:=q1;exact⟨(p1 p hpp).1,q2,hall _ (Array.getElem?_eq_some_iff.1 ho).1⟩) p2;obtain⟨kk',ht,hik⟩:=m.todo.head (by constructor<;>intro _ e<;>cases e);refine⟨k,w,{ fr with todo:=kk' },IQ m.mode ht (.inr (.inr (.inr (.inr ⟨_,rfl⟩)))),?_⟩;refine⟨r1,r2,m.fn,⟨m.tsz,fun t=>?_⟩,hik,m.defs,m.mode,m.kind,m.round,m.early⟩;by_cases hw:∃(j:Nat) (q:Oper),ops[j]?=some q∧q.dst=some t
 ·obtain⟨j,q,hj,hq⟩:=hw;exact(m.tin t j q (hall _ (Array.getElem?_eq_some_iff.1 hj).1) hj hq).2.2
 ·rw[S.same t fun j q hj he=>hw ⟨j,q,hj,he⟩];exact m.tout t fun j q _ hj he=>hw ⟨j,q,hj,he⟩
theorem Ws (S:Stat P E callf c ops base τ0 T' h0 stages hend pan laidEnd pend):∀(N t:Nat) (listed:Array Bool) (laid:List Nat) (g:AH) (pre st:List (Nat×AH)) (k:K) (w:World) (fr:Frame) (cs:List Frame),
 listed.size=ops.size→(List.range ops.size).countP (fun x=>!listed.getD x false)=N→
 Sim P E callf c ops base τ0 T' k0 h0 w0 stages hend pan laidEnd defs kk (fun x=>listed.getD x false=true) laid g pre st k w fr (Region.linearise.go .any ops N t listed [])→Fin P c ops τ0 T' k0 h0 w0 hend pan pend defs kk fr cs w
 |0,t,listed,laid,g,pre,st,k,w,fr,cs,hsz,hc,m=>by refine m.finish S (fun i hi=>?_) cs;rw[List.countP_eq_zero]at hc;have:=hc i (zQ.2 hi);simpa using this
 |N+1,t,listed,laid,g,pre,st,k,w,fr,cs,hsz,hc,m=>by
  simp only[Region.linearise.go]at m;change Sim P E callf c ops base τ0 T' k0 h0 w0 stages hend pan laidEnd defs kk (fun x=>listed.getD x false=true) laid g pre st k w fr (match (Region.ready .any ops listed)[t%(Region.ready .any ops listed).length]? with
   |some i=>Region.linearise.go .any ops N (t/(Region.ready .any ops listed).length) (listed.setIfInBounds i true) [i]|none=>[].reverse)at m
  cases hi:(Region.ready .any ops listed)[t%(Region.ready .any ops listed).length]? with
  |none=>
   exfalso;have hnil:Region.ready .any ops listed=[]:=by
    cases hr:Region.ready .any ops listed with
    |nil=>rfl|cons x xs=>rw[hr]at hi;have hlt:t%(x::xs).length<(x::xs).length:=Nat.mod_lt _ (by simp);rw[List.getElem?_eq_none_iff]at hi;omega
   have hex:∃i,i<ops.size∧listed.getD i false=false:=by
    have:0<(List.range ops.size).countP (fun x=>!listed.getD x false):=by omega
    rw[List.countP_pos_iff]at this;obtain⟨i,h1,h2⟩:=this;exact⟨i,zQ.1 h1,by simpa using h2⟩
   have hleast:∀i,i<ops.size→listed.getD i false=false→False:=by
    intro i
    induction i using Nat.strongRecOn with
    |_ i ih=>
     intro hlt hf;have hmem:i∈Region.ready .any ops listed:=by
      rw[mem_ready];refine⟨?_,ops[i],by simp[hlt],fun e he hb=>?_⟩
      ·have:i<listed.size:=by omega
       simp only[Array.getD,this,dif_pos]at hf ⊢;exact hf
      ·have hd:=S.apart.down i ops[i] (by simp[hlt]) e he hb;cases hl:listed.getD e.on false with
       |true=>rfl|false=>exact absurd (ih _ hd (by omega) hl) id
     rw[hnil]at hmem;cases hmem
   obtain⟨i,h1,h2⟩:=hex;exact hleast i h1 h2
  |some i=>
   rw[hi]at m;simp only at m;rw[linearise_go_acc,List.reverse_singleton,List.singleton_append]at m;have hmem:=List.mem_of_getElem? hi;rw[mem_ready]at hmem;obtain⟨q1,o,ho,q2⟩:=hmem;have hlt:i<ops.size:=(Array.getElem?_eq_some_iff.1 ho).1;have hlt2:i<listed.size:=by omega
   have hnot:listed.getD i false=false:=by simp only[Array.getD,hlt2,dif_pos]at q1 ⊢;exact q1
   have hready:∀j,Be (Region.before ops) i j=true→listed.getD j false=true:=by
    intro j hj;obtain⟨o',ho',e,he,hb,h4⟩:=LZ ops hj;rw[ho]at ho';cases ho';rcases h4 with rfl|h4
    ·exact q2 e he hb
    ·exact m.down e.on j (q2 e he hb) h4
   rcases m.step S (by simp[hnot]) hready hlt cs with⟨k',w',v,laid',g',pre',st',s1,m'⟩|⟨ch,k',w',chain,hp,s1,r1,e1,hcr,le⟩
   ·have hD:(fun x=>listed.getD x false=true∨x=i)=(fun x=>(listed.setIfInBounds i true).getD x false=true):=by
     funext x;apply propext;by_cases e:x=i
     ·subst e;simp[Array.getD,hlt2]
     ·rw[getD_set_ne false (fun h=>e h.symm)];simp[e]
    rw[hD]at m';refine Fin.pre s1 (Ws S N _ (listed.setIfInBounds i true) laid' g' pre' st' k' w' _ cs (by simp[hsz]) ?_ m');have:=count_set (p:=fun x=>!listed.getD x false) (p':=fun x=>!(listed.setIfInBounds i true).getD x false) (i:=i) (fun x=>by
     by_cases e:x=i
     ·subst e;simp[Array.getD,hlt2]
     ·rw[getD_set_ne false (fun h=>e h.symm)];simp[e]) (by simp only[hnot,Bool.not_false]) (List.range ops.size) List.nodup_range (zQ.2 hlt)
    omega
   ·subst hp;refine⟨k',w',_,s1,r1,e1,?_⟩;simp only[Frame.raise,m.mode];refine⟨m.fn,⟨m.tsz,fun t=>?_⟩,m.defs.mono le,⟨chain,rfl,hcr⟩,m.kind,?_,m.early⟩
    ·have hany:∀v,VR k' w' AV.any v:=fun v=>by simp only[VR]
     rcases MZ ops.toList τ0 t with⟨_,h2⟩|⟨h1,h2⟩|h2
     ·rw[h2];exact hany _
     ·rw[h2];refine VR.mono le _ _ (m.tout t fun j q hj hq hd=>?_);exact h1 ⟨q,List.mem_of_getElem? (by simpa using hq),hd,(m.tin t j q hj hq hd).2.1⟩
     ·rw[h2];exact hany _
    ·have hr:=m.round;cases hcr:c.round with
     |none=>rw[hcr]at hr;exact hr
     |some l=>rw[hcr]at hr;obtain⟨b,q1,q2⟩:=hr;exact⟨b,le.rho _ _ q1,q2⟩
end
theorem Al {α:Type}{b:Bool}{x:Option α}{y:α}(h:(bif b then x else none)=some y):b=true∧x=some y:=by
 cases b with
 |false=>cases h|true=>exact⟨rfl,h⟩
theorem drawOk {P:Program}{E:Env}(hE:Az P E):U1 P E:=by
 intro callf hcall c ops tmps h tmps' h' p hrun id kk defs k w fr cs hk hr hg hf;unfold Ki at hrun;simp only at hrun;cases hc:(JR ops (Region.before ops)&&Nat.blt (h.next+ops.size) BF) with
 |false=>rw[hc]at hrun;cases hrun
 |true=>
 rw[hc]at hrun;simp only[cond_true]at hrun;simp only[zA]at hc;have hap:=apart_spec hc.1;have hlim:h.next+ops.size<BF:=zE hc.2;split at hrun;case h_2=>cases hrun
 rename_i sf hgo;obtain⟨hall,hrun⟩:=Al hrun;rw[List.range_eq_range']at hgo;obtain⟨c1,c2,c3⟩:=FG _ _ _ _ hgo;obtain⟨f1,f2,f3⟩:=JV (τ0:=tmps) hap ops.size 0 _ sf hgo (fun _ _=>rfl);obtain⟨stages,laidEnd,g1,g2,g3⟩:=f3 rfl [] (fun p hp=>by cases hp) (by simp) (fun x hx=>by cases hx);simp only[List.reverse_nil,List.nil_append]at g1;have S:Stat P E callf c ops h.next tmps sf.tmps h stages sf.h sf.pan laidEnd sf.pend:=by
  refine⟨hE,hcall,hap,fun i hi=>?_,?_,g3,fun t ht=>c1 t fun j q _=>ht j q,rfl,hlim⟩
  ·rcases f1 i (Nat.zero_le _) (by omega) with h1|⟨Ti,h1,h2,h3⟩
   ·exact .inl h1
   ·refine .inr ⟨Ti,h2,h3,?_⟩;rw[zB]at hall;rw[←g1];exact hall _ h1
  ·rw[←g1,List.pairwise_reverse];exact f2 .nil
 obtain⟨kk',ht,hik⟩:=hf.todo.head (by constructor<;>intro _ e<;>cases e);obtain⟨tt,s1⟩:=Acs (P:=P) (w:=w) (cs:=cs) hf.mode ht hE.mixed;obtain⟨r1,e1⟩:=hr.drawn (w.drawn+1);have le:=e1.le hr;have hf':=hf.mono le;have m:Sim P E callf c ops h.next tmps sf.tmps k h w stages sf.h sf.pan laidEnd defs kk (fun x=>(Array.replicate ops.size false).getD x false=true) [] ⟨h.m,h.next+ops.size⟩ [] stages k { w with drawn:=w.drawn+1 }
  { fr with todo:=.inRegion ops (Region.linearise .any ops tt)::kk' } (Region.linearise .any ops tt):=by
  have hno:∀x,¬((Array.replicate ops.size false).getD x false=true):=by intro x hx;simp only[Array.getD_eq_getD_getElem?,Array.getElem?_replicate]at hx;split at hx<;>cases hx
  refine⟨fun i _ hi=>absurd hi (hno i),fun i hi=>absurd hi (hno i),fun i _ _=>hno i,rfl,fun p hp=>(by cases hp),fun p _=>hno _,g2,hk,?_,?_,hg.mono le,zI _,fun a _ _ _ _ ha=>absurd ha (hno a),fun a _ _ ha=>absurd ha (hno a),fun a _ ha=>absurd ha (hno a),
   fun a ha _=>hr.fresh _ (Nat.le_add_right _ _),fun a ha=>(by cases ha),hf'.tmps.1,fun t j q hj=>absurd hj (hno j),fun t _=>hf'.tmps.2 t,hf'.fn,?_,hf'.defs,hf'.mode,hf'.kind,hf'.round,hf'.early⟩
  ·exact⟨r1.obj,r1.inj,r1.nfz,fun o ho=>r1.fresh o (by have:h.next+ops.size≤o:=ho;omega),r1.lt⟩
  ·exact⟨e1.sz,e1.os,e1.tape,e1.output,e1.size,e1.same,e1.shape,e1.rho,e1.fz,e1.live,Nat.le_add_right _ _,e1.keep,e1.nfz⟩
  ·simp only[IR];exact⟨kk',rfl,hik⟩
 have hfin:Fin P c ops tmps sf.tmps k h w sf.h sf.pan sf.pend defs kk { fr with todo:=.inRegion ops (Region.linearise .any ops tt)::kk' } cs { w with drawn:=w.drawn+1 }:=by
  refine Ws S ops.size tt (Array.replicate ops.size false) [] ⟨h.m,h.next+ops.size⟩ [] stages k _ _ cs (by simp) ?_ m;rw[List.countP_eq_length.2]
  ·simp
  ·intro x hx;simp only[Array.getD_eq_getD_getElem?,Array.getElem?_replicate];split<;>rfl
 obtain⟨k',w',fr',s2,q⟩:=hfin;cases hp:sf.pan with
 |none=>rw[hp]at hrun q;simp only[zC,zG]at hrun;obtain⟨rfl,rfl,rfl⟩:=hrun;exact⟨k',w',fr',q.1,q.2.1,s1.trans s2,q.2.2⟩
 |some x=>obtain⟨e,ch⟩:=x;rw[hp]at hrun q;simp only[zC,zG]at hrun;obtain⟨rfl,rfl,rfl⟩:=hrun;exact⟨k',w',fr',q.1,q.2.1,s1.trans s2,q.2.2⟩
theorem ev_ok {P:Program}{E:Env}(hE:Az P E)(hP:B2 P E)(n:Nat)(cmd:Cmd)(h:AH)(rc:RC)(res:AG)(h':AH)(rc':RC)(he:ev E n cmd h rc=some (res,h',rc')):Nf P E cmd h rc res h' rc':=
 Sk hE hP (drawOk hE) n cmd h rc res h' rc' he
theorem YW {P:Program}{E:Env}(hE:Az P E)(hP:B2 P E){n:Nat}{f:FuncId}{F:Func}(hF:E.fn f=some F){b:Code}(hb:F.body=some b){args:List AV}{h h':AH}{rc':RC}{x:AV}
 (he:ev E n (.run ⟨f,F.ntmps,.normal,none⟩ (Dy 0 args .e) [.code b] []) h .no=some (.ret x,h',rc')) (h1:args.length≤F.ntmps) (h2:F.ntmps<B9)
 {k:K} {w:World} (hk:k.sz=⟨P.cellsOf,E.sel,E.tok,E.str,E.mp⟩) (hr:HR k h w) (hg:B3 E k w) {vs:Array Value} (hv:VRL k w args vs.toList) :
 Calls P f vs w fun e w'=>∃v k',e=.returned v∧VR k' w' x v∧HR k' h' w'∧Ev k k' h h' w w':=by
 intro cs;have hPF:=(hE.fn f F hF).1;obtain⟨k',w',r1,e1,cs',fr',a1,s1,q1,q2,q3,q4,F',q5,q6,v,q7,q8⟩:=ev_ok hE hP n _ h .no _ h' rc' he k w (Frame.enter P f vs .normal) cs hk hr hg ⟨rfl,by simp only[Frame.enter,hPF,Option.map_some,Option.getD_some];exact F6 hv h1 h2,by simp[Frame.enter,hPF,hb,IR],rfl,rfl,rfl,rfl,.inl rfl⟩ nofun nofun;have hcs:cs'=cs:=by
  rcases a1 with⟨_,h⟩|⟨_,_,_,_,_,h,_⟩
  ·exact h
  ·cases h
 subst hcs;exact⟨.returned v,w',fr',⟨v,k',rfl,q8,r1,e1⟩,s1,q1,q6,q4,q2,F',by rw[q1];exact q5,q7⟩
mutual
def DZ:AV→Bool
 |.ptr .. | .sl .. | .map _=>false|.pptr cs _=>Eh cs|.psl cs _ _=>Eh cs|.func (.yield _) _ _=>false|.func _ a b=>Eh a&&Eh b|.iface _ x=>DZ x|.agg cs=>Eh cs|.tup cs=>Eh cs|.one xs=>Eh xs|_=>true
def Eh:List AV→Bool
 |[]=>true|x::xs=>DZ x&&Eh xs
end
section
variable {k k':K}{w:World}
mutual
theorem VR.pure (hs:k'.sz=k.sz)(hz:∀b,k.fz b→k'.fz b):∀(x:AV) (v:Value),DZ x=true→VR k w x v→VR k' w x v
 |.any,_,_,_=>by simp only[VR]
 |.bool b,v,_,hv=>by simpa only[VR]using hv
 |.int kd n,v,_,hv=>by simpa only[VR]using hv
 |.str s,v,_,hv=>by simpa only[VR]using hv
 |.nilp,v,_,hv=>by simpa only[VR]using hv
 |.ptr o off,v,hp,_=>by simp[DZ]at hp
 |.pptr cells off,v,hp,hv=>by simp only[VR]at hv ⊢;simp only[DZ]at hp;obtain⟨b,sh,h1,h2,h3⟩:=hv;exact⟨b,sh,h1,hz _ h2,VRC.pure hs hz b cells sh hp h3⟩
 |.nils,v,_,hv=>by simpa only[VR]using hv
 |.sl ..,v,hp,_=>by simp[DZ]at hp
 |.psl cells len cap,v,hp,hv=>by simp only[VR]at hv ⊢;simp only[DZ]at hp;obtain⟨b,sh,c,h1,h2,h3,h4,h5⟩:=hv;exact⟨b,sh,c,h1,h2,h3,hz _ h4,VRC.pure hs hz b cells sh hp h5⟩
 |.emp,v,_,hv=>by simpa only[VR]using hv
 |.nilm,v,_,hv=>by simpa only[VR]using hv
 |.map o,v,hp,_=>by simp[DZ]at hp
 |.func fn first captured,v,hp,hv=>by
  cases fn<;>simp only[VR]at hv ⊢<;>simp only[DZ,zA]at hp
  case yield l=>cases hp
  all_goals
   obtain⟨fs,cs,h1,h2,h3⟩:=hv;exact⟨fs,cs,h1,VRL.pure hs hz _ _ hp.1 h2,VRL.pure hs hz _ _ hp.2 h3⟩
 |.nilf,v,_,hv=>by simpa only[VR]using hv
 |.iface t x,v,hp,hv=>by simp only[VR]at hv ⊢;simp only[DZ]at hp;obtain⟨y,h1,h2⟩:=hv;exact⟨y,h1,VR.pure hs hz _ _ hp h2⟩
 |.nili,v,_,hv=>by simpa only[VR]using hv
 |.agg cs,v,hp,hv=>by simp only[VR]at hv ⊢;simp only[DZ]at hp;obtain⟨vs,h1,h2⟩:=hv;exact⟨vs,h1,VRL.pure hs hz _ _ hp h2⟩
 |.tup cs,v,hp,hv=>by simp only[VR]at hv ⊢;simp only[DZ]at hp;obtain⟨vs,h1,h2⟩:=hv;exact⟨vs,h1,VRL.pure hs hz _ _ hp h2⟩
 |.raw x,v,_,hv=>by simpa only[VR]using hv
 |.sel i,v,_,hv=>by simp only[VR]at hv ⊢;rw[hs];exact⟨(k.sz.sel i).mono _ _ _ _ v hz (fun _ _=>rfl) hv.1,hv.2⟩
 |.stok i,v,_,hv=>by simp only[VR]at hv ⊢;rw[hs];exact hv
 |.tok i,v,_,hv=>by simp only[VR]at hv ⊢;rw[hs];exact hv
 |.one xs,v,hp,hv=>by simp only[VR]at hv ⊢;simp only[DZ]at hp;exact⟨VRO.pure hs hz xs v hp hv.1,hv.2⟩
theorem VRO.pure (hs:k'.sz=k.sz)(hz:∀b,k.fz b→k'.fz b):∀(xs:List AV) (v:Value),Eh xs=true→VRO k w xs v→VRO k' w xs v
 |[],_,_,hv=>by simp only[VRO]at hv
 |x::xs,v,hp,hv=>by
  simp only[VRO]at hv ⊢;simp only[Eh,zA]at hp;rcases hv with hv|hv
  ·exact .inl (VR.pure hs hz x v hp.1 hv)
  ·exact .inr (VRO.pure hs hz xs v hp.2 hv)
theorem VRL.pure (hs:k'.sz=k.sz)(hz:∀b,k.fz b→k'.fz b):∀(xs:List AV) (vs:List Value),Eh xs=true→VRL k w xs vs→VRL k' w xs vs
 |[],vs,_,hv=>by simpa only[VRL]using hv
 |x::xs,vs,hp,hv=>by simp only[VRL]at hv ⊢;simp only[Eh,zA]at hp;obtain⟨v,vs',h1,h2,h3⟩:=hv;exact⟨v,vs',h1,VR.pure hs hz x v hp.1 h2,VRL.pure hs hz xs vs' hp.2 h3⟩
theorem VRC.pure (hs:k'.sz=k.sz)(hz:∀b,k.fz b→k'.fz b)(b:Nat):∀(xs:List AV) (i:Nat),Eh xs=true→VRC k w b xs i→VRC k' w b xs i
 |[],i,_,_=>by simp only[VRC]
 |x::xs,i,hp,hv=>by simp only[VRC]at hv ⊢;simp only[Eh,zA]at hp;obtain⟨⟨v,h1,h2⟩,h3⟩:=hv;exact⟨⟨v,h1,VR.pure hs hz x v hp.1 h2⟩,VRC.pure hs hz b xs (i+1) hp.2 h3⟩
end
end
mutual
def fzV (h:AH):Nat→AV→Option AV
 |0,_=>none|n+1,x=>match x with
  |.ptr o off=>match h.get o with
   |some (.cells _ cs)=>match fzL h n cs with
    |some cs'=>some (.pptr cs' off)|none=>none
   |_=>none
  |.sl o off len sz cap=>match h.get o with
   |some (.cells _ cs)=>match fzL h n ((cs.drop off).take (len*sz)) with
    |some cs'=>some (.psl cs' len cap)|none=>none
   |_=>none
  |.iface t y=>match fzV h n y with
   |some y'=>some (.iface t y')|none=>none
  |.agg cs=>match fzL h n cs with
   |some cs'=>some (.agg cs')|none=>none
  |.tup cs=>match fzL h n cs with
   |some cs'=>some (.tup cs')|none=>none
  |x=>bif DZ x then some x else none
def fzL (h:AH):Nat→List AV→Option (List AV)
 |0,_=>none|_+1,[]=>some []|n+1,x::xs=>match fzV h n x,fzL h n xs with
  |some y,some ys=>some (y::ys)|_,_=>none
end
theorem M9 {k k':K}{h:AH}{w:World}(hr:HR k h w)(hs:k'.sz=k.sz)(hz:∀b,k.fz b→k'.fz b)(hl:∀o ob b sh,h.get o=some ob→k.ρ o=some (b,sh)→k'.fz b):∀(n:Nat),
 (∀x x' v,fzV h n x=some x'→VR k w x v→VR k' w x' v)∧(∀xs xs' vs,fzL h n xs=some xs'→VRL k w xs vs→VRL k' w xs' vs)∧
 (∀xs xs' b i,fzL h n xs=some xs'→VRC k w b xs i→VRC k' w b xs' i)
 |0=>⟨fun x x' v h=>by simp[fzV]at h,fun xs xs' vs h=>by simp[fzL]at h,fun xs xs' b i h=>by simp[fzL]at h⟩
 |n+1=>by
  obtain⟨i1,i2,i3⟩:=M9 hr hs hz hl n;refine⟨fun x x' v hx hv=>?_,fun xs xs' vs hx hv=>?_,fun xs xs' b i hx hv=>?_⟩
  ·unfold fzV at hx;split at hx
   ·rename_i o off;split at hx;case h_2=>cases hx
    rename_i e cs hg;split at hx;case h_2=>cases hx
    rename_i cs' hcs;cases hx;simp only[VR]at hv ⊢;obtain⟨b,sh,h1,h2⟩:=hv;obtain⟨b',sh',h3,arr,fr,h4,h5,h6,h7⟩:=hr.obj o _ hg;rw[h1]at h3;cases h3;refine⟨b,sh,h2,hl _ _ _ _ hg h1,i3 cs cs' b sh hcs ?_⟩;refine VRC.C1 fun i x hx=>?_
    obtain⟨u,q1,q2⟩:=h6 i x hx;exact⟨u,by simp[World.cell?,h4,q1],q2⟩
   ·rename_i o off len sz cap;split at hx;case h_2=>cases hx
    rename_i e cs hg;split at hx;case h_2=>cases hx
    rename_i cs' hcs;cases hx;simp only[VR]at hv ⊢;obtain⟨b,sh,c,arr0,e0,fr0,h1,h2,g3,g4,_,_⟩:=hv;obtain⟨b',sh',h3,arr,fr,h4,h5,h6,h7⟩:=hr.obj o _ hg;rw[h1]at h3;cases h3;refine⟨b,sh+off,c,h2,g3,g4,hl _ _ _ _ hg h1,i3 _ cs' b (sh+off) hcs ?_⟩;refine VRC.C1 fun i x hx=>?_
    rw[List.getElem?_take]at hx;split at hx;case isFalse=>cases hx
    rw[List.getElem?_drop]at hx;obtain⟨u,q1,q2⟩:=h6 _ x hx;exact⟨u,by rw[←Nat.add_assoc]at q1;simp[World.cell?,h4,q1],q2⟩
   ·split at hx;case h_2=>cases hx
    rename_i y' hy;cases hx;simp only[VR]at hv ⊢;obtain⟨y,h1,h2⟩:=hv;exact⟨y,h1,i1 _ _ _ hy h2⟩
   ·split at hx;case h_2=>cases hx
    rename_i y' hy;cases hx;simp only[VR]at hv ⊢;obtain⟨y,h1,h2⟩:=hv;exact⟨y,h1,i2 _ _ _ hy h2⟩
   ·split at hx;case h_2=>cases hx
    rename_i y' hy;cases hx;simp only[VR]at hv ⊢;obtain⟨y,h1,h2⟩:=hv;exact⟨y,h1,i2 _ _ _ hy h2⟩
   ·obtain⟨hp,hx⟩:=Al hx;cases hx;exact VR.pure hs hz _ _ hp hv
  ·cases xs with
   |nil=>simp only[fzL,zC]at hx;subst hx;simpa only[VRL]using hv
   |cons x xs=>
    simp only[fzL]at hx;split at hx;case h_2=>cases hx
    rename_i y ys h1 h2;cases hx;simp only[VRL]at hv ⊢;obtain⟨v,vs',e,h3,h4⟩:=hv;exact⟨v,vs',e,i1 _ _ _ h1 h3,i2 _ _ _ h2 h4⟩
  ·cases xs with
   |nil=>simp only[fzL,zC]at hx;subst hx;simp only[VRC]
   |cons x xs=>
    simp only[fzL]at hx;split at hx;case h_2=>cases hx
    rename_i y ys h1 h2;cases hx;simp only[VRC]at hv ⊢;obtain⟨⟨v,e,h3⟩,h4⟩:=hv;exact⟨⟨v,e,i1 _ _ _ h1 h3⟩,i3 _ _ _ _ h2 h4⟩
def tyOf (P:Program)(t:TypeId):Option TI:=
 match P.underlying t,P.info? t with
 |some und,some inf=>match inf.zero with
  |some z=>
   let i:TI:={ und:=und,size:=inf.size,bytes:=inf.bytes,zero:=ofConst z,agg:=match und with|.struct _|.array _ _=>true|_=>false }
   bif AV.A8 i.zero.cells&&Nat.beq z.cells.size inf.size then some i else none
  |none=>none
 |_,_=>none
theorem Acg {P:Program}{t:TypeId}{i:TI}(h:tyOf P t=some i):TyOk P t i:=by
 unfold tyOf at h;split at h;case h_2=>cases h
 rename_i und inf hu hi;split at h;case h_2=>cases h
 rename_i z hz;obtain⟨hb,h⟩:=Al h;cases h;simp only[zA]at hb;exact⟨hu,⟨inf,z,hi,rfl,rfl,hz,fun k w=>Jx k w z,zD hb.2⟩,rfl,hb.1⟩
def Q1 (P:Program)(t:TypeId)(name:String):Option FuncId:=
 match P.info? t with
 |some inf=>match inf.methods.find? (·.name==name) with
  |some m=>match m.path.toList,m.func,P.underlying t with
   |[],some (f,true),some (.pointer _)=>some f|[],some (_,false),some (.pointer _)=>none|[],some (f,false),some _=>some f|_,_,_=>none
  |none=>none
 |none=>none
theorem Xt {P:Program}{t:TypeId}{name:String}{f:FuncId}(h:Q1 P t name=some f)(v:Value)(w:World):(method (P.types.size+Made.depth) t v name).run P w=.ok (f,v) w:=by
 unfold Q1 at h;split at h;case h_2=>cases h
 rename_i inf hi;split at h;case h_2=>cases h
 rename_i m hm;have hd:∃d,P.types.size+Made.depth=d+1:=by
  have:0<Made.depth:=by decide
  exact⟨P.types.size+Made.depth-1,by omega⟩
 obtain⟨d,hd⟩:=hd;rw[hd];have hti:(typeInfo t).run P w=.ok inf w:=by simp[typeInfo,hi]
 split at h
 ·rename_i g el hp hf hu;cases h;simp[method,hti,hm,hp,hf,follow,receiverAt,run_underlying hu,Place.get]
 ·cases h
 ·rename_i g u hn hp hf hu;cases h;have:∀el,u≠.pointer el:=fun el e=>hn el e
  simp only[method,zJ,hti,zF,hm,hp,hf,follow,zP,receiverAt,run_underlying hu];cases u<;>first|exact absurd rfl (this _)|simp[Place.get]
 ·cases h
def MW (P:Program)(t a:TypeId):Option Bool:=
 match P.underlying a,P.info? t with
 |some (.interface want),some inf=>some (Instr.missingMethod want inf.methods).isNone|_,_=>none
theorem Xd {P:Program}{t a:TypeId}{b:Bool}(h:MW P t a=some b):∃want inf,P.underlying a=some (.interface want)∧P.info? t=some inf∧(Instr.missingMethod want inf.methods).isNone=b:=by
 unfold MW at h;split at h;case h_2=>cases h
 rename_i want inf h1 h2;cases h;exact⟨want,inf,h1,h2,rfl⟩
def eqC (d:Nat)(xs ys:Array Value):List (TypeId×Nat)→Sem Bool
 |[]=>pure true|(t,o)::r=>do
  let a ←part t xs o
  let b ←part t ys o
  let e ←Op.equalIn d t a b
  if (!e)=true then pure false else eqC d xs ys r
theorem Kv (d:Nat)(xs ys:Array Value):∀(fs:List Field),(∀f∈fs,f.name≠ "_")→Op.eqFields d xs ys fs=eqC d xs ys (fs.map fun f=>(f.type,f.offset))
 |[],_=>rfl|f::fs,h=>by
  have hn:=h f (by simp);have ih:=Kv d xs ys fs fun g hg=>h g (by simp[hg])
  simp only[Op.eqFields,hn,ne_eq,not_false_eq_true,if_true,List.map_cons,eqC,ih]
theorem LM (d:Nat)(e:TypeId)(c:Nat)(xs ys:Array Value):∀(is:List Nat),Op.eqItems d e c xs ys is=eqC d xs ys (is.map fun i=>(e,i*c))
 |[]=>rfl|i::is=>by simp only[Op.eqItems,List.map_cons,eqC,LM d e c xs ys is]
def G4 (P:Program)(t:TypeId):Bool:=match P.underlying t with|some (.struct _)|some (.array _ _)=>true|_=>false
def mkV (P:Program)(t:TypeId)(cs:List Value):Value:=bif G4 P t then .agg cs.toArray else cs.headD default
def J8 (P:Program)(t:TypeId):Option (List (TypeId×Nat)):=
 match P.underlying t with
 |some (.struct fs)=>bif !P.stoodInHeld t&&fs.toList.all (fun f=>f.name != "_") then some (fs.toList.map fun f=>(f.type,f.offset)) else none
 |some (.array n e)=>match P.info? e with
  |some _=>some ((List.range n).map fun i=>(e,i*P.cellsOf e))
  |none=>none
 |_=>none
mutual
def LP (P:Program):Nat→TypeId→Option (List TypeDesc)
 |0,_=>none|n+1,t=>match P.underlying t with
  |some .bool=>bif Nat.beq (P.cellsOf t) 1 then some [.bool] else none
  |some (.int k)=>bif Nat.beq (P.cellsOf t) 1 then some [.int k] else none
  |some .string=>bif Nat.beq (P.cellsOf t) 1 then some [.string] else none
  |some (.struct _)|some (.array _ _)=>match J8 P t with
   |some cs=>match QT P n cs 0 with
    |some ds=>bif Nat.beq (P.cellsOf t) ds.length then some ds else none
    |none=>none
   |none=>none
  |_=>none
def QT (P:Program):Nat→List (TypeId×Nat)→Nat→Option (List TypeDesc)
 |0,_,_=>none|_+1,[],_=>some []|n+1,(t,o)::r,off=>bif Nat.beq o off then
  match LP P n t with
  |some ds=>match QT P n r (off+ds.length) with
   |some es=>some (ds++es)|none=>none
  |none=>none
  else none
end
theorem IA:∀{ds es:List TypeDesc} {as bs as' bs':List AV} {r:Bool},as.length=ds.length→bs.length=ds.length→C8 (ds++es) (as++as') (bs++bs')=some r→
 (C8 ds as bs=some false∧r=false)∨(C8 ds as bs=some true∧C8 es as' bs'=some r)
 |[],es,[],[],as',bs',r,_,_,h=>.inr ⟨rfl,h⟩|[],_,_::_,_,_,_,_,h1,_,_=>by simp at h1
 |[],_,[],_::_,_,_,_,_,h2,_=>by simp at h2
 |_::_,_,[],_,_,_,_,h1,_,_=>by simp at h1
 |_::_,_,_::_,[],_,_,_,_,h2,_=>by simp at h2
 |d::ds,es,a::as,b::bs,as',bs',r,h1,h2,h=>by
  simp only[List.cons_append,C8]at h ⊢;cases hp:(plainKey d a&&plainKey d b) with
  |false=>simp[hp]at h|true=>
   simp only[hp,cond_true]at h ⊢;cases hk:Gj a b with
   |none=>simp[hk]at h|some q=>
    cases q with
    |false=>simp only[hk,zC]at h;exact .inl ⟨rfl,h.symm⟩
    |true=>simp only[hk]at h;exact IA (by simpa using h1) (by simpa using h2) h
theorem VRL.split {k:K}{w:World} : ∀{n:Nat} {as:List AV} {vs:List Value},VRL k w as vs→VRL k w (as.take n) (vs.take n)∧VRL k w (as.drop n) (vs.drop n)
 |0,as,vs,h=>⟨by simp only[List.take_zero,VRL],by simpa using h⟩
 |n+1,[],vs,h=>by simp only[VRL]at h;subst h;simp[VRL]
 |n+1,a::as,vs,h=>by simp only[VRL]at h;obtain⟨v,vs',rfl,h1,h2⟩:=h;obtain⟨h3,h4⟩:=VRL.split (n:=n) h2;simp only[List.take_succ_cons,List.drop_succ_cons,VRL];exact⟨⟨v,vs'.take n,rfl,h1,h3⟩,h4⟩
section
variable {P:Program}
theorem J1 (w:World){t:TypeId}{u:TypeDesc}(hu:P.underlying t=some u){n:Nat}(hc:P.cellsOf t=n){xs:Array Value}{off:Nat}(hl:off+n≤xs.size)(hn:G4 P t=false→n=1) :
 (part t xs off).run P w=.ok (mkV P t ((xs.toList.drop off).take n)) w:=by
 obtain⟨i,hi⟩:=info_of_underlying hu;have hs:=run_sizeOf (w:=w) hi;rw[hc]at hs;cases hb:G4 P t with
 |true=>
  have ha:(isAgg t).run P w=.ok true w:=by simp only[isAgg,zJ,run_underlying hu,zF];simp only[G4,hu]at hb;cases u<;>first|rfl|(cases hb)
  have e:xs.extract off (off+n)=((xs.toList.drop off).take n).toArray:=by apply Array.ext';simp[List.take_drop]
  simp only[part,zJ,ha,zF,if_true,hs,zP,mkV,hb,cond_true,e]
 |false=>
  have ha:(isAgg t).run P w=.ok false w:=by simp only[isAgg,zJ,run_underlying hu,zF];simp only[G4,hu]at hb;cases u<;>first|rfl|(cases hb)
  have h1:=hn hb;subst h1;have hx:xs[off]?=some (xs[off]'(by omega)):=Array.getElem?_eq_getElem (by omega);have e:(xs.toList.drop off).take 1=[xs[off]'(by omega)]:=by rw[List.drop_eq_getElem_cons (by simpa using(by omega:off<xs.size))];simp
  simp only[part,zJ,ha,zF,hx,mkV,hb,cond_false,e];simp
theorem Xw (w:World){k:K}{t:TypeId}{u:TypeDesc}(hu:P.underlying t=some u){a b:AV}{x y:Value}{r:Bool}(hx:VR k w a x)(hy:VR k w b y)(hp:(plainKey u a&&plainKey u b)=true)(hk:Gj a b=some r)(d:Nat) :
 (Op.equalIn (d+1) t x y).run P w=.ok r w:=by
 simp only[zA]at hp;cases u<;>cases a<;>(try (simp only[plainKey]at hp;cases hp.1;done))<;>cases b<;>(try (simp only[plainKey]at hp;cases hp.2;done))<;>simp only[Gj]at hk
 ·simp only[VR]at hx hy;subst hx hy;cases hk;exact run_equalIn_bool w d t _ _ hu
 ·simp only[VR]at hx hy;subst hx hy;obtain⟨h1,h2⟩:=Al hk;have:=of_decide_eq_true h1;subst this;cases h2;exact run_equalIn_int w d t _ _ _ _ hu
 ·simp only[VR]at hx hy;obtain⟨s1,rfl,h1⟩:=hx;obtain⟨s2,rfl,h2⟩:=hy;cases hk;rw[run_equalIn_string w d t _ _ hu,←h1,←h2,E5,ByteArray.toList_eq,ByteArray.toList_eq]
 ·cases hk
 ·cases hk
 ·simp only[VR]at hx hy;subst hx hy;obtain⟨h1,h2⟩:=Al hk;obtain rfl:=zD h1;cases h2;rw[run_equalIn_string w d t _ _ hu];simp
theorem Us {n:Nat}{t:TypeId}{ds:List TypeDesc}(h:LP P n t=some ds):∃u,P.underlying t=some u∧P.cellsOf t=ds.length∧(G4 P t=false→ds.length=1):=by
 cases n with
 |zero=>simp[LP]at h|succ n=>
  simp only[LP]at h;have aggs:∀u,P.underlying t=some u→(match J8 P t with
   |some cs=>match QT P n cs 0 with
    |some ds=>bif Nat.beq (P.cellsOf t) ds.length then some ds else none
    |none=>none
   |none=>none)=some ds→G4 P t=true→∃u,P.underlying t=some u∧P.cellsOf t=ds.length∧(G4 P t=false→ds.length=1):=by
   intro u hu h hb;split at h;case h_2=>cases h
   split at h;case h_2=>cases h
   obtain⟨h1,h⟩:=Al h;cases h;exact⟨u,hu,zD h1,fun h=>by rw[hb]at h;cases h⟩
  split at h
  ·rename_i hu;obtain⟨h1,h⟩:=Al h;cases h;exact⟨_,hu,zD h1,fun _=>rfl⟩
  ·rename_i hu;obtain⟨h1,h⟩:=Al h;cases h;exact⟨_,hu,zD h1,fun _=>rfl⟩
  ·rename_i hu;obtain⟨h1,h⟩:=Al h;cases h;exact⟨_,hu,zD h1,fun _=>rfl⟩
  ·rename_i fs hu;exact aggs _ hu h (by simp[G4,hu])
  ·rename_i fs hu;exact aggs _ hu h (by simp[G4,hu])
  ·cases h
theorem Wv (w:World):∀(n:Nat),
 (∀(t:TypeId) (ds:List TypeDesc),LP P n t=some ds→∀(d:Nat) (k:K) (as bs:List AV) (xs ys:List Value) (r:Bool),VRL k w as xs→VRL k w bs ys→as.length=ds.length→bs.length=ds.length→C8 ds as bs=some r→
  (Op.equalIn (d+n) t (mkV P t xs) (mkV P t ys)).run P w=.ok r w)∧
 (∀(cs:List (TypeId×Nat)) (off:Nat) (ds:List TypeDesc),QT P n cs off=some ds→∀(d:Nat) (k:K) (as bs:List AV) (xs ys:Array Value) (r:Bool),VRL k w as (xs.toList.drop off)→VRL k w bs (ys.toList.drop off)→as.length=ds.length→bs.length=ds.length→
  off+ds.length=xs.size→off+ds.length=ys.size→C8 ds as bs=some r→(eqC (d+n) xs ys cs).run P w=.ok r w)
 |0=>⟨fun t ds h=>by simp[LP]at h,fun cs off ds h=>by simp[QT]at h⟩
 |n+1=>by
  obtain⟨i1,i2⟩:=Wv w n;refine⟨fun t ds h d k as bs xs ys r hx hy l1 l2 hc=>?_,fun cs off ds h d k as bs xs ys r hx hy l1 l2 s1 s2 hc=>?_⟩
  ·have plain:∀u,P.underlying t=some u→G4 P t=false→ds=[u]→(Op.equalIn (d+(n+1)) t (mkV P t xs) (mkV P t ys)).run P w=.ok r w:=by
    intro u hu hb hds;subst hds
    match as,bs,l1,l2 with
    |[a],[b],_,_=>
     simp only[VRL]at hx hy;obtain⟨x,_,rfl,hx,rfl⟩:=hx;obtain⟨y,_,rfl,hy,rfl⟩:=hy;simp only[C8]at hc;obtain⟨hp,hc⟩:=Al hc;have hk:Gj a b=some r:=by
      cases hk:Gj a b with
      |none=>simp[hk]at hc|some q=>cases q<;>simpa[hk]using hc
     have:=Xw w hu hx hy hp hk (d+n);simp only[mkV,hb,cond_false,List.headD_cons];exact this
   have agg:∀cs,J8 P t=some cs→QT P n cs 0=some ds→G4 P t=true→(Op.equalIn (d+(n+1)) t (mkV P t xs) (mkV P t ys)).run P w=.ok r w:=by
    intro cs hcs hl hb;have hX:=hx.length;have hY:=hy.length;have key:=i2 cs 0 ds hl d k as bs xs.toArray ys.toArray r (by simpa using hx) (by simpa using hy) l1 l2 (by simp;omega) (by simp;omega) hc;simp only[mkV,hb,cond_true];unfold J8 at hcs;split at hcs
    ·rename_i fs hu;obtain⟨hg,hcs⟩:=Al hcs;cases hcs;simp only[zA,Bool.not_eq_true',zB,bne_iff_ne,ne_eq]at hg;have hfs:P.fieldsOf t=fs:=by simp[Program.fieldsOf,hu]
     rw[←Kv _ _ _ _ (fun f hf=>hg.2 f hf)]at key;rw[show d+(n+1)=(d+n)+1 from rfl,run_equalIn_struct w (d+n) t _ _ (by rw[hfs];exact hu) hg.1,hfs];exact key
    ·rename_i m e hu;split at hcs;case h_2=>cases hcs
     rename_i i hi;cases hcs;rw[←LM]at key;rw[show d+(n+1)=(d+n)+1 from rfl,run_equalIn_array w (d+n) _ _ hu hi];exact key
    ·cases hcs
   have aggs:(match J8 P t with
    |some cs=>match QT P n cs 0 with
     |some ds=>bif Nat.beq (P.cellsOf t) ds.length then some ds else none
     |none=>none
    |none=>none)=some ds→G4 P t=true→(Op.equalIn (d+(n+1)) t (mkV P t xs) (mkV P t ys)).run P w=.ok r w:=by
    intro h hb;split at h;case h_2=>cases h
    rename_i cs hcs;split at h;case h_2=>cases h
    rename_i ds' hl;obtain⟨_,h⟩:=Al h;cases h;exact agg cs hcs hl hb
   simp only[LP]at h;split at h
   ·rename_i hu;obtain⟨_,h⟩:=Al h;cases h;exact plain _ hu (by simp[G4,hu]) rfl
   ·rename_i hu;obtain⟨_,h⟩:=Al h;cases h;exact plain _ hu (by simp[G4,hu]) rfl
   ·rename_i hu;obtain⟨_,h⟩:=Al h;cases h;exact plain _ hu (by simp[G4,hu]) rfl
   ·rename_i fs hu;exact aggs h (by simp[G4,hu])
   ·rename_i fs hu;exact aggs h (by simp[G4,hu])
   ·cases h
  ·cases cs with
   |nil=>
    simp only[QT,zC]at h;subst h
    match as,bs,l1,l2 with
    |[],[],_,_=>simp only[C8,zC]at hc;subst hc;simp[eqC]
   |cons c cr=>
    obtain⟨t,o⟩:=c;simp only[QT]at h;obtain⟨ho,h⟩:=Al h;have ho:=zD ho;subst ho;split at h;case h_2=>cases h
    rename_i d1 hd1;split at h;case h_2=>cases h
    rename_i d2 hd2;cases h;simp only[zR]at l1 l2 s1 s2;obtain⟨x1,x2⟩:=VRL.split (n:=d1.length) hx;obtain⟨y1,y2⟩:=VRL.split (n:=d1.length) hy;rw[List.drop_drop]at x2 y2;have la:(as.take d1.length).length=d1.length:=by simp;omega
    have lb:(bs.take d1.length).length=d1.length:=by simp;omega
    rw[←List.take_append_drop d1.length as,←List.take_append_drop d1.length bs]at hc;obtain⟨u,hu,Cv,hone⟩:=Us hd1;have p1:=J1 w hu Cv (xs:=xs) (off:=o) (by omega) hone;have p2:=J1 w hu Cv (xs:=ys) (off:=o) (by omega) hone;simp only[eqC,zJ,p1,p2,zF];rcases IA la lb hc with⟨h1,rfl⟩|⟨h1,h2⟩
    ·have:=i1 t d1 hd1 (d+1) k _ _ _ _ false x1 y1 la lb h1;rw[show d+1+n=d+(n+1) by omega]at this;rw[this];simp
    ·have:=i1 t d1 hd1 (d+1) k _ _ _ _ true x1 y1 la lb h1;rw[show d+1+n=d+(n+1) by omega]at this;rw[this];have:=i2 cr (o+d1.length) d2 hd2 (d+1) k _ _ xs ys r x2 y2 (by simp;omega) (by simp;omega) (by omega) (by omega) h2;rw[show d+1+n=d+(n+1) by omega]at this;simpa using this
def eqtP (P:Program)(t:TypeId):Option (List TypeDesc):=bif G4 P t && !P.eqGuardType P.depth t then LP P 60 t else none
theorem AdS {t:TypeId}{ds:List TypeDesc}(h:eqtP P t=some ds)(w:World)(xs ys:Array Value)(k:K)(as bs:List AV)(r:Bool)(hx:VRL k w as xs.toList)(hy:VRL k w bs ys.toList)(l1:as.length=ds.length)(l2:bs.length=ds.length)(hc:C8 ds as bs=some r) :
 P.eqGuardType P.depth t=false∧(Op.equal t (.agg xs) (.agg ys)).run P w=.ok r w:=by
 unfold eqtP at h;obtain⟨hg,h⟩:=Al h;simp only[zA,Bool.not_eq_true']at hg;refine⟨hg.2,?_⟩;have:=(Wv w 60).1 t ds h 9940 k as bs xs.toList ys.toList r hx hy l1 l2 hc;simp only[mkV,hg.1,cond_true]at this;exact this
end
noncomputable section
abbrev RR:=Option (AG×AH×RC)
abbrev Rec:=Cmd→AH→RC→RR
def K7 {α:Type}(l:List α):Nat→Option α:=List.rec (fun _=>none) (fun x _ ih i=>Nat.rec (some x) (fun j _=>ih j) i) l
def maxK:IntKind→Nat:=IntKind.rec 127 32767 2147483647 9223372036854775807 255 65535 4294967295 18446744073709551615
def PZ (k:IntKind)(n:Nat):Int:=Bool.rec (k.wrap (.ofNat n)) (.ofNat n) (Nat.ble n (maxK k))
def Rw (k:IntKind)(z:Int):Int:=Int.rec (PZ k) (fun n=>k.wrap (.negSucc n)) z
def Ie:IntKind→Nat:=IntKind.rec 0 1 2 3 4 5 6 7
def addN (a b:Nat):Int:=.ofNat (Nat.add a b)
def subN (a b:Nat):Int:=Bool.rec (Int.sub (.ofNat a) (.ofNat b)) (.ofNat (Nat.sub a b)) (Nat.ble b a)
def addZ (x y:Int):Int:=Int.rec (fun a=>Int.rec (addN a) (fun b=>Int.add (.ofNat a) (.negSucc b)) y) (fun a=>Int.add (.negSucc a) y) x
def subZ (x y:Int):Int:=Int.rec (fun a=>Int.rec (subN a) (fun b=>Int.sub (.ofNat a) (.negSucc b)) y) (fun a=>Int.sub (.negSucc a) y) x
def ltZ (x y:Int):Bool:=Int.rec (fun a=>Int.rec (fun b=>Nat.blt a b) (fun _=>false) y) (fun a=>Int.rec (fun _=>true) (fun b=>Nat.blt b a) y) x
def leZ (x y:Int):Bool:=Int.rec (fun a=>Int.rec (fun b=>Nat.ble a b) (fun _=>false) y) (fun a=>Int.rec (fun _=>true) (fun b=>Nat.ble b a) y) x
def eqZ (x y:Int):Bool:=Int.rec (fun a=>Int.rec (fun b=>Nat.beq a b) (fun _=>false) y) (fun a=>Int.rec (fun _=>false) (fun b=>Nat.beq a b) y) x
abbrev BI:=IntKind→Int→IntKind→Int→Env→TypeId→AH→Option (AV×AH)
def F1 (f:IntKind→Int→Int→AV):BI:=fun k a k' b _ _ h=>Bool.rec none (some (f k a b,h)) (Nat.beq (Ie k) (Ie k'))
def GL (op:BinOp):BI:=fun k a k' b E t h=>one h (Bv E op t (.int k a) (.int k' b))
def i_op (op:BinOp):BI:=BinOp.rec (motive:=fun _=>BI)
 (F1 fun k a b=>.int k (Rw k (addZ a b))) (F1 fun k a b=>.int k (Rw k (subZ a b))) (GL .mul) (GL .quo) (GL .rem) (GL .and) (GL .or) (GL .xor) (GL .shl) (GL .shr) (GL .andNot)
 (F1 fun _ a b=>.bool (eqZ a b)) (F1 fun _ a b=>.bool (Bool.rec true false (eqZ a b))) (F1 fun _ a b=>.bool (ltZ a b)) (F1 fun _ a b=>.bool (leZ a b)) (F1 fun _ a b=>.bool (ltZ b a)) (F1 fun _ a b=>.bool (leZ b a)) op
def UN (a b:AV)(op:BinOp)(t:TypeId)(x y:Operand)(E:Env)(h:AH):Option (AV×AH):=
 match a,b with
 |.nili,.nili=>bif C3 x||C3 y then(match E.ty t with
  |some { und:=.interface _,.. }=>(match op with
   |.eql=>some (.bool true,h)|.neq=>some (.bool false,h)|_=>none)
  |_=>none) else none
 |a,b=>one h (Bv E op t a b)
def b_int (k:IntKind)(n:Int)(b:AV)(op:BinOp)(t:TypeId)(x y:Operand)(E:Env)(h:AH):Option (AV×AH):=
 match b with
 |.int k' m=>i_op op k n k' m E t h|b=>UN (.int k n) b op t x y E h
def b_go (a b:AV)(op:BinOp)(t:TypeId)(x y:Operand)(E:Env)(h:AH):Option (AV×AH):=
 match a with
 |.int k n=>b_int k n b op t x y E h|a=>UN a b op t x y E h
def o_move (x:Operand)(_:Env)(ev:Operand→AV)(h:AH):Option (AV×AH):=
 some (ev x,h)
def Aa2 (x:Operand)(_:Env)(ev:Operand→AV)(h:AH):Option (AV×AH):=
 some (ev x,h)
def o_pick (c:Operand)(a:Operand)(b:Operand)(_:Env)(ev:Operand→AV)(h:AH):Option (AV×AH):=
 match ev c with
  |.bool t=>some (bif t then ev a else ev b,h)
  |_=>none
def Adc (e:TypeId)(E:Env)(_:Operand→AV)(h:AH):Option (AV×AH):=
 match E.ty e with
  |some i=>GF h (.cells e i.zero.cells)|none=>none
def o_box (e:TypeId)(x:Operand)(_:Env)(ev:Operand→AV)(h:AH):Option (AV×AH):=
 let xs:=(ev x).cells;bif AV.A8 xs then GF h (.cells e xs) else none
def AdQ (t:TypeId)(ps:Array (Nat×Operand))(E:Env)(ev:Operand→AV)(h:AH):Option (AV×AH):=
 match E.ty t with
  |some i=>match i.und with
   |.struct fields=>bif fields.toList.all fun f=>(E.ty f.type).isSome then(Ee (EK E fields) i.zero.cells (CH ev ps)).map fun cs=>(.agg cs,h) else none
   |.array _ el=>match E.ty el with
    |some ei=>(Ee (fun j=>some (j*ei.size,ei.size)) i.zero.cells (CH ev ps)).map fun cs=>(.agg cs,h)
    |none=>none
   |_=>none
  |none=>none
def QO (t:TypeId)(len:Nat)(ps:Array (Nat×Operand))(E:Env)(ev:Operand→AV)(h:AH):Option (AV×AH):=
 match E.ty t with
  |some { und:=.slice el,.. }=>match E.ty el with
   |some ei=>match Ee (fun j=>some (j*ei.size,ei.size)) (Gc ei.zero.cells len) (CH ev ps) with
    |some cs=>bif AV.A8 cs&&Nat.ble (len*ei.size) 65536 then match h.alloc (.cells el cs) with
     |some (o,h')=>bif E.lit t then some (.psl cs len (some len),h'.set o none) else some (.sl o 0 len ei.size (some len),h')
     |none=>none
     else none
    |none=>none
   |none=>none
  |_=>none
def Abk (t:TypeId)(m:Operand)(k:Operand)(x:Operand)(E:Env)(ev:Operand→AV)(h:AH):Option (AV×AH):=
 match E.ty t with
  |some { und:=.map kt _,.. }=>match E.ty kt with
   |some ki=>bif plainKey ki.und (ev k) then match ev m with
    |.map o=>match h.get o with
     |some (.map es c)=>match CS (ev k) es 0 with
      |some (some (i,_))=>some (AM,h.set o (some (.map (es.modify i fun (_,_,n)=>(ev k,ev x,n)) c)))
      |some none=>some (AM,h.set o (some (.map (es++[(ev k,ev x,c)]) (c+1))))|none=>none
     |_=>none
    |_=>none
    else none
   |none=>none
  |_=>none
def o_load (t:TypeId)(a:Operand)(E:Env)(ev:Operand→AV)(h:AH):Option (AV×AH):=
 match E.ty t with
  |some i=>one h (Pd i h (ev a))|none=>none
def Abv (t:TypeId)(a:Operand)(x:Operand)(E:Env)(ev:Operand→AV)(h:AH):Option (AV×AH):=
 match E.ty t with
  |some i=>two (Ot i h (ev a) (ev x))|none=>none
def AbX (_:Nat)(_:Env)(_:Operand→AV)(_:AH):Option (AV×AH):=none
def Ab0 (_:Nat)(_:Env)(_:Operand→AV)(_:AH):Option (AV×AH):=none
def Vh (x:Operand)(_:Env)(ev:Operand→AV)(h:AH):Option (AV×AH):=
 match ev x with
  |.ptr o off=>some (.ptr o off,h)|.pptr cs off=>some (.pptr cs off,h)|.iface t v=>some (.iface t v,h)|.func (.func f) a b=>some (.func (.func f) a b,h)|_=>none
def Acl (op:BinOp)(t:TypeId)(x y:Operand)(_:TypeId)(E:Env)(ev:Operand→AV)(h:AH):Option (AV×AH):=b_go (ev x) (ev y) op t x y E h
def o_unOp (op:UnOp)(_:TypeId)(x:Operand)(_:Env)(ev:Operand→AV)(h:AH):Option (AV×AH):=
 one h (unA op (ev x))
def Xs (s:TypeId)(d:TypeId)(x:Operand)(E:Env)(ev:Operand→AV)(h:AH):Option (AV×AH):=
 Sw E s d (ev x) h
def Hh (_:TypeId)(_:Operand)(_:Env)(_:Operand→AV)(_:AH):Option (AV×AH):=none
def L7 (t:TypeId)(x:Operand)(E:Env)(ev:Operand→AV)(h:AH):Option (AV×AH):=
 match E.ty t with
  |some i=>(match i.und with
   |.interface _=>none|_=>some (.iface t (ev x),h))
  |none=>none
def T4 (fn:Fn)(first:Array Operand)(cap:Array Operand)(_:Env)(ev:Operand→AV)(h:AH):Option (AV×AH):=
 match fn with
  |.yield _=>none|_=>some (.func fn (first.toList.map ev) (cap.toList.map ev),h)
def W2 (t:TypeId)(r:Option Operand)(E:Env)(_:Operand→AV)(h:AH):Option (AV×AH):=
 match E.ty t with
  |some { und:=.map _ _,.. }=>(match r with
   |none=>match h.alloc (.map [] 0) with
    |some (o,h')=>some (.map o,h')|none=>none
   |some _=>none)
  |_=>none
def Uk (_:TypeId)(_:Operand)(_:Env)(_:Operand→AV)(_:AH):Option (AV×AH):=none
def SV (t:TypeId)(l:Operand)(c:Operand)(E:Env)(ev:Operand→AV)(h:AH):Option (AV×AH):=
 match E.ty t with
  |some { und:=.slice el,.. }=>match E.ty el with
   |some ei=>match asNat (ev l),asNat (ev c) with
    |some l,some c=>bif Nat.ble l c&&Nat.ble c 1048576&&Nat.ble ei.bytes 4096&&AV.A8 ei.zero.cells then match h.alloc (.cells el (Gc ei.zero.cells c)) with
     |some (o,h')=>some (.sl o 0 l ei.size (some c),h')|none=>none
     else none
    |_,_=>none
   |none=>none
  |_=>none
def Ads (t:TypeId)(x:Operand)(lo:Option Operand)(hi:Option Operand)(mx:Option Operand)(E:Env)(ev:Operand→AV)(h:AH):Option (AV×AH):=
 one h (Q3 E t (ev x) (lo.map ev) (hi.map ev) (mx.map ev) h)
def Hl (s:TypeId)(x:Operand)(f:Nat)(E:Env)(ev:Operand→AV)(h:AH):Option (AV×AH):=
 match E.ty s with
  |some { und:=.struct fields,.. }=>match K7 fields.toList f with
   |some fl=>match E.ty fl.type with
    |some fi=>bif Nat.ble 1 fi.size then(match ev x with
     |.ptr o off=>some (.ptr o (off+fl.offset),h)|.pptr cs off=>some (.pptr cs (off+fl.offset),h)|_=>none) else none
    |none=>none
   |none=>none
  |_=>none
def Qe (t:TypeId)(x:Operand)(f:Nat)(E:Env)(ev:Operand→AV)(h:AH):Option (AV×AH):=
 match E.ty t with
  |some { und:=.struct fields,.. }=>match K7 fields.toList f,ev x with
   |some fl,.agg cs=>one h (JX E fl.type cs fl.offset)|_,_=>none
  |_=>none
def R6 (t:TypeId)(x:Operand)(ix:Operand)(E:Env)(ev:Operand→AV)(h:AH):Option (AV×AH):=
 match E.ty t,asNat (ev ix) with
  |some ti,some i=>match ti.und,ev x with
   |.slice el,.sl o off len sz _=>match E.ty el with
    |some ei=>bif Nat.blt i len&&Nat.beq ei.size sz then some (.ptr o (off+i*sz),h) else none
    |none=>none
   |.slice el,.psl cs len _=>match E.ty el with
    |some ei=>bif Nat.blt i len then some (.pptr cs (i*ei.size),h) else none
    |none=>none
   |.array n el,.ptr o off=>match E.ty el with
    |some ei=>bif Nat.blt i n then some (.ptr o (off+i*ei.size),h) else none
    |none=>none
   |.array n el,.pptr cs off=>match E.ty el with
    |some ei=>bif Nat.blt i n then some (.pptr cs (off+i*ei.size),h) else none
    |none=>none
   |_,_=>none
  |_,_=>none
def P2 (t:TypeId)(x:Operand)(ix:Operand)(E:Env)(ev:Operand→AV)(h:AH):Option (AV×AH):=
 match E.ty t,asNat (ev ix) with
  |some ti,some i=>match ti.und,ev x with
   |.string,.str s=>Option.rec none (fun c=>some (.int .u8 c,h)) (K7 s i)
   |.string,.sel j=>(E.sat j i).map fun r=>(r,h)
   |.array n el,.agg cs=>match E.ty el with
    |some ei=>bif Nat.blt i n then one h (JX E el cs (i*ei.size)) else none
    |none=>none
   |_,_=>none
  |_,_=>none
def AaP (t:TypeId)(x:Operand)(ix:Operand)(ok:Bool)(E:Env)(ev:Operand→AV)(h:AH):Option (AV×AH):=
 match E.ty t with
  |some { und:=.map kt et,.. }=>match E.ty kt,E.ty et with
   |some ki,some ei=>bif plainKey ki.und (ev ix) then
    let fin (v:AV) (b:Bool):Option (AV×AH):=some (bif ok then .tup [v,.bool b] else v,h)
    match ev x with
    |.nilm=>fin ei.zero false|.map o=>match h.get o with
     |some (.map es _)=>match CS (ev ix) es 0 with
      |some (some (_,v))=>fin v true|some none=>fin ei.zero false|none=>none
     |_=>none
    |_=>none
    else none
   |_,_=>none
  |_=>none
def SY (t:TypeId)(m:Operand)(k:Operand)(x:Operand)(E:Env)(ev:Operand→AV)(h:AH):Option (AV×AH):=
 match E.ty t with
  |some { und:=.map kt _,.. }=>match E.ty kt with
   |some ki=>bif plainKey ki.und (ev k) then match ev m with
    |.map o=>match h.get o with
     |some (.map es c)=>match CS (ev k) es 0 with
      |some (some (i,_))=>some (AM,h.set o (some (.map (es.modify i fun (_,_,n)=>(ev k,ev x,n)) c)))
      |some none=>some (AM,h.set o (some (.map (es++[(ev k,ev x,c)]) (c+1))))|none=>none
     |_=>none
    |_=>none
    else none
   |none=>none
  |_=>none
def U6 (_:TypeId)(_:Operand)(_:Operand)(_:Env)(_:Operand→AV)(_:AH):Option (AV×AH):=none
def P7 (_:TypeId)(_:Operand)(_:Operand)(_:Operand)(_:Env)(_:Operand→AV)(_:AH):Option (AV×AH):=none
def Adu (t:TypeId)(x:Operand)(E:Env)(ev:Operand→AV)(h:AH):Option (AV×AH):=
 match E.ty t,ev x with
  |some { und:=.string,.. },.str s=>GF h (.siter s 0)|_,_=>none
def ZS (it:Operand)(b:Bool)(_:Env)(ev:Operand→AV)(h:AH):Option (AV×AH):=
 bif b then match ev it with
  |.ptr o 0=>match h.get o with
   |some (.siter s pos)=>bif Nat.blt pos s.length then match s[pos]? with
    |some c=>bif Nat.blt c 128 then some (.tup [.bool true,.int .i64 pos,.int .i32 c],h.set o (some (.siter s (pos+1)))) else none
    |none=>none
    else some (.tup [.bool false],h)
   |_=>none
  |_=>none
 else none
def AdN (_:Operand)(_:Env)(_:Operand→AV)(_:AH):Option (AV×AH):=none
def P0 (x:Operand)(_:TypeId)(as':TypeId)(ok:Bool)(E:Env)(ev:Operand→AV)(h:AH):Option (AV×AH):=
 match E.ty as' with
  |some ai=>
   let holds (v:AV):Option (AV×AH):=some (bif ok then .tup [v,.bool true] else v,h)
   let fails:Option (AV×AH):=bif ok then some (.tup [ai.zero,.bool false],h) else none
   match ai.und,ev x with
   |.interface _,.nili=>fails|.interface _,.iface t v=>match E.impl t as' with
    |some true=>holds (.iface t v)|some false=>fails|none=>none
   |_,.nili=>fails|_,.iface t v=>bif Nat.beq t as' then holds v else fails
   |_,_=>none
  |none=>none
def KP (t:Operand)(i:Nat)(_:Env)(ev:Operand→AV)(h:AH):Option (AV×AH):=
 match ev t with
  |.tup vs=>Option.rec none (fun v=>some (v,h)) (K7 vs i)
  |_=>none
def o_go (_:Call)(_:Env)(_:Operand→AV)(_:AH):Option (AV×AH):=none
def o_send (_:Operand)(_:Operand)(_:Env)(_:Operand→AV)(_:AH):Option (AV×AH):=none
def o_recv (_:TypeId)(_:Operand)(_:Bool)(_:Env)(_:Operand→AV)(_:AH):Option (AV×AH):=none
def ZL (_:Array SelectCase)(_:Bool)(_:Env)(_:Operand→AV)(_:AH):Option (AV×AH):=none
def e_tmp (t:Tmp)(_:Env)(tmps:T AV):AV:=Option.rec AM (fun v=>v) (T.get AE tmps t)
def Ab7 (v:Value)(_:Env)(_:T AV):AV:=ofConst v
def ZT (g:Nat)(E:Env)(_:T AV):AV:=Option.rec (.raw (.pointer (some ⟨g,0,none⟩))) (fun cells=>.pptr cells 0) (E.glob g)
def e_func (f:FuncId)(_:Env)(_:T AV):AV:=.func (.func f) [] []
def F0 (E:Env)(tmps:T AV)(x:Operand):AV:=Operand.rec (motive:=fun _=>Env→T AV→AV) e_tmp Ab7 ZT e_func x E tmps
abbrev AF:=Env→(Operand→AV)→AH→Option Ask
def Bm (r:Option (AV×AH)):Option Ask:=Option.rec none (fun p=>Prod.rec (fun v h'=>some (.val v h')) p) r
def Xp (c:Call)(ty:TypeId)(b:Builtin):AF:=fun E ev h=>match b with
 |.recover=>some .recover|.panic=>match c.args.toList with
  |[x]=>match ev x with
   |.iface t v=>some (.panic (.iface t v))|_=>none
  |_=>none
 |b=>match D4 E b c.argTypes ty (c.args.toList.map ev) h with
  |some (v,h')=>some (.val v h')|none=>none
def Ac6 (c:Call)(f:Operand):AF:=fun _ ev _=>match ev f with
 |.func fn a b=>some (.call (.func fn a b) (c.args.toList.map ev))|_=>none
def q_call (c:Call)(ty:TypeId):AF:=fun E ev h=>match c.callee with
 |.builtin b=>Xp c ty b E ev h|.invoke r name=>some (.call (.func (.method name) [] []) (ev r::c.args.toList.map ev))|.value f=>Ac6 c f E ev h
def Ab6 (c:Call):AF:=fun _ ev _=>match c.callee with
 |.builtin _=>none|.invoke r name=>some (.defer (.call (.func (.method name) [] []) (ev r::c.args.toList.map ev)))|.value f=>match ev f with
  |.func fn a b=>some (.defer (.call (.func fn a b) (c.args.toList.map ev)))|_=>none
def AdO (x:Operand):AF:=fun _ ev _=>match ev x with
 |.iface t v=>some (.panic (.iface t v))|_=>none
def w_move (a0:Operand)(_:TypeId):AF:=fun E ev h=>Bm (o_move a0 E ev h)
def Abm (a0:Operand)(_:TypeId):AF:=fun E ev h=>Bm (Aa2 a0 E ev h)
def w_pick (a0:Operand)(a1:Operand)(a2:Operand)(_:TypeId):AF:=fun E ev h=>Bm (o_pick a0 a1 a2 E ev h)
def Abz (a0:TypeId)(_:TypeId):AF:=fun E ev h=>Bm (Adc a0 E ev h)
def w_box (a0:TypeId)(a1:Operand)(_:TypeId):AF:=fun E ev h=>Bm (o_box a0 a1 E ev h)
def Adj (a0:TypeId)(a1:Array (Nat×Operand))(_:TypeId):AF:=fun E ev h=>Bm (AdQ a0 a1 E ev h)
def Q9 (a0:TypeId)(a1:Nat)(a2:Array (Nat×Operand))(_:TypeId):AF:=fun E ev h=>Bm (QO a0 a1 a2 E ev h)
def Z2 (a0:TypeId)(a1:Operand)(a2:Operand)(a3:Operand)(_:TypeId):AF:=fun E ev h=>Bm (Abk a0 a1 a2 a3 E ev h)
def w_load (a0:TypeId)(a1:Operand)(_:TypeId):AF:=fun E ev h=>Bm (o_load a0 a1 E ev h)
def Adl (a0:TypeId)(a1:Operand)(a2:Operand)(_:TypeId):AF:=fun E ev h=>Bm (Abv a0 a1 a2 E ev h)
def Ack (a0:Nat)(_:TypeId):AF:=fun E ev h=>Bm (AbX a0 E ev h)
def Ac7 (a0:Nat)(_:TypeId):AF:=fun E ev h=>Bm (Ab0 a0 E ev h)
def TD (a0:Operand)(_:TypeId):AF:=fun E ev h=>Bm (Vh a0 E ev h)
def AbO (a0:BinOp)(a1:TypeId)(a2:Operand)(a3:Operand)(a4:TypeId)(_:TypeId):AF:=fun E ev h=>Bm (Acl a0 a1 a2 a3 a4 E ev h)
def w_unOp (a0:UnOp)(a1:TypeId)(a2:Operand)(_:TypeId):AF:=fun E ev h=>Bm (o_unOp a0 a1 a2 E ev h)
def Xc (a0:TypeId)(a1:TypeId)(a2:Operand)(_:TypeId):AF:=fun E ev h=>Bm (Xs a0 a1 a2 E ev h)
def Hj (a0:TypeId)(a1:Operand)(_:TypeId):AF:=fun E ev h=>Bm (Hh a0 a1 E ev h)
def L8 (a0:TypeId)(a1:Operand)(_:TypeId):AF:=fun E ev h=>Bm (L7 a0 a1 E ev h)
def UP (a0:Fn)(a1:Array Operand)(a2:Array Operand)(_:TypeId):AF:=fun E ev h=>Bm (T4 a0 a1 a2 E ev h)
def X7 (a0:TypeId)(a1:Option Operand)(_:TypeId):AF:=fun E ev h=>Bm (W2 a0 a1 E ev h)
def U9 (a0:TypeId)(a1:Operand)(_:TypeId):AF:=fun E ev h=>Bm (Uk a0 a1 E ev h)
def Su (a0:TypeId)(a1:Operand)(a2:Operand)(_:TypeId):AF:=fun E ev h=>Bm (SV a0 a1 a2 E ev h)
def Ab4 (a0:TypeId)(a1:Operand)(a2:Option Operand)(a3:Option Operand)(a4:Option Operand)(_:TypeId):AF:=fun E ev h=>Bm (Ads a0 a1 a2 a3 a4 E ev h)
def SK (a0:TypeId)(a1:Operand)(a2:Nat)(_:TypeId):AF:=fun E ev h=>Bm (Hl a0 a1 a2 E ev h)
def Acn (a0:TypeId)(a1:Operand)(a2:Nat)(_:TypeId):AF:=fun E ev h=>Bm (Qe a0 a1 a2 E ev h)
def RG (a0:TypeId)(a1:Operand)(a2:Operand)(_:TypeId):AF:=fun E ev h=>Bm (R6 a0 a1 a2 E ev h)
def Ac2 (a0:TypeId)(a1:Operand)(a2:Operand)(_:TypeId):AF:=fun E ev h=>Bm (P2 a0 a1 a2 E ev h)
def Aaa (a0:TypeId)(a1:Operand)(a2:Operand)(a3:Bool)(_:TypeId):AF:=fun E ev h=>Bm (AaP a0 a1 a2 a3 E ev h)
def RL (a0:TypeId)(a1:Operand)(a2:Operand)(a3:Operand)(_:TypeId):AF:=fun E ev h=>Bm (SY a0 a1 a2 a3 E ev h)
def T1 (a0:TypeId)(a1:Operand)(a2:Operand)(_:TypeId):AF:=fun E ev h=>Bm (U6 a0 a1 a2 E ev h)
def Qw (a0:TypeId)(a1:Operand)(a2:Operand)(a3:Operand)(_:TypeId):AF:=fun E ev h=>Bm (P7 a0 a1 a2 a3 E ev h)
def AbI (a0:TypeId)(a1:Operand)(_:TypeId):AF:=fun E ev h=>Bm (Adu a0 a1 E ev h)
def w_next (a0:Operand)(a1:Bool)(_:TypeId):AF:=fun E ev h=>Bm (ZS a0 a1 E ev h)
def Ach (a0:Operand)(_:TypeId):AF:=fun E ev h=>Bm (AdN a0 E ev h)
def Qh (a0:Operand)(a1:TypeId)(a2:TypeId)(a3:Bool)(_:TypeId):AF:=fun E ev h=>Bm (P0 a0 a1 a2 a3 E ev h)
def WU (a0:Operand)(a1:Nat)(_:TypeId):AF:=fun E ev h=>Bm (KP a0 a1 E ev h)
def Ui (c:Call)(ty:TypeId):AF:=q_call c ty
def w_go (a0:Call)(_:TypeId):AF:=fun E ev h=>Bm (o_go a0 E ev h)
def AcN (c:Call)(_:TypeId):AF:=Ab6 c
def Adq (x:Operand)(_:TypeId):AF:=AdO x
def w_send (a0:Operand)(a1:Operand)(_:TypeId):AF:=fun E ev h=>Bm (o_send a0 a1 E ev h)
def w_recv (a0:TypeId)(a1:Operand)(a2:Bool)(_:TypeId):AF:=fun E ev h=>Bm (o_recv a0 a1 a2 E ev h)
def Zd (a0:Array SelectCase)(a1:Bool)(_:TypeId):AF:=fun E ev h=>Bm (ZL a0 a1 E ev h)
def askK (E:Env)(o:Oper)(ev:Operand→AV)(h:AH):Option Ask:=Op.rec (motive:=fun _=>TypeId→AF) w_move Abm w_pick Abz w_box Adj Q9 Z2 w_load Adl Ack Ac7 TD AbO w_unOp Xc Hj L8 UP X7 U9 Su Ab4 SK Acn RG Ac2 Aaa RL T1 Qw AbI w_next Ach Qh WU Ui w_go AcN Adq w_send w_recv Zd o.op o.type E ev h
def Aas (n:Nat)(d:Tmp)(v:AV)(tmps:T AV):Option (T AV):=Bool.rec none (some (T.put AE tmps d (some v))) (and (Nat.blt d n) (Nat.blt d B9))
def GR (n:Nat)(dst:Option Nat)(v:AV)(tmps:T AV):Option (T AV):=Option.rec (some tmps) (fun d=>Aas n d v tmps) dst
def NK (a:List Nat):List Nat→Bool:=List.rec (fun b=>List.rec true (fun _ _ _=>false) b) (fun x _ ih b=>List.rec false (fun y ys _=>Bool.rec false (ih ys) (Nat.beq x y)) b) a
def V8 (a b:Bool):Bool:=Bool.rec (Bool.rec true false b) b a
def v_any:AV→Bool:=fun _=>false
def Aap (a:Bool):AV→Bool:=fun b=>match b with|.bool b=>V8 a b|_=>false
def v_int (k:IntKind)(n:Int):AV→Bool:=fun b=>match b with|.int k' m=>Bool.rec false (eqZ n m) (Nat.beq (Ie k) (Ie k'))|_=>false
def v_str (s:List Nat):AV→Bool:=fun b=>match b with|.str t=>NK s t|_=>false
def Yw:AV→Bool:=fun b=>match b with|.nilp=>true|_=>false
def v_ptr (o off:Nat):AV→Bool:=fun b=>match b with|.ptr o' off'=>Bool.rec false (Nat.beq off off') (Nat.beq o o')|_=>false
def Yi (_:List AV)(off:Nat)(ih:List AV→Bool):AV→Bool:=fun b=>match b with|.pptr cs off'=>Bool.rec false (ih cs) (Nat.beq off off')|_=>false
def AaS:AV→Bool:=fun b=>match b with|.nils=>true|_=>false
def v_sl (o off len sz:Nat)(cap:Option Nat):AV→Bool:=fun b=>match b with|.sl o' a' l' z' c'=>Nat.beq o o'&&Nat.beq off a'&&Nat.beq len l'&&Nat.beq sz z'&&decide (cap=c')|_=>false
def v_psl (_:List AV)(len:Nat)(cap:Option Nat)(ih:List AV→Bool):AV→Bool:=fun b=>match b with|.psl cs l' p'=>Nat.beq len l'&&decide (cap=p')&&ih cs|_=>false
def v_emp:AV→Bool:=fun b=>match b with|.emp=>true|_=>false
def Yd:AV→Bool:=fun b=>match b with|.nilm=>true|_=>false
def v_map (o:Nat):AV→Bool:=fun b=>match b with|.map o'=>Nat.beq o o'|_=>false
def Aaw (f:Fn)(_ _:List AV)(ih1 ih2:List AV→Bool):AV→Bool:=fun b=>match b with|.func f' a' b'=>decide (f=f')&&ih1 a'&&ih2 b'|_=>false
def Y3:AV→Bool:=fun b=>match b with|.nilf=>true|_=>false
def WC (t:TypeId)(_:AV)(ih:AV→Bool):AV→Bool:=fun b=>match b with|.iface t' v'=>Bool.rec false (ih v') (Nat.beq t t')|_=>false
def YA:AV→Bool:=fun b=>match b with|.nili=>true|_=>false
def v_agg (_:List AV)(ih:List AV→Bool):AV→Bool:=fun b=>match b with|.agg b=>ih b|_=>false
def v_tup (_:List AV)(ih:List AV→Bool):AV→Bool:=fun b=>match b with|.tup b=>ih b|_=>false
def v_raw (_:Value):AV→Bool:=fun _=>false
def v_sel (i:Nat):AV→Bool:=fun b=>match b with|.sel j=>Nat.beq i j|_=>false
def Aau (i:Nat):AV→Bool:=fun b=>match b with|.stok j=>Nat.beq i j|_=>false
def v_tok (i:Nat):AV→Bool:=fun b=>match b with|.tok j=>Nat.beq i j|_=>false
def v_one (_:List AV)(ih:List AV→Bool):AV→Bool:=fun b=>match b with|.one b=>ih b|_=>false
def v_nil:List AV→Bool:=fun l=>List.rec true (fun _ _ _=>false) l
def Aae (_:AV)(_:List AV)(ih:AV→Bool)(ihs:List AV→Bool):List AV→Bool:=fun l=>List.rec false (fun y ys _=>Bool.rec false (ihs ys) (ih y)) l
def GK (a:AV):AV→Bool:=@AV.rec (fun _=>AV→Bool) (fun _=>List AV→Bool) v_any Aap v_int v_str Yw v_ptr Yi AaS v_sl v_psl v_emp Yd v_map Aaw Y3 WC YA v_agg v_tup v_raw v_sel v_tok Aau v_one v_nil Aae a
def LQ (a:List AV):List AV→Bool:=@AV.rec_1 (fun _=>AV→Bool) (fun _=>List AV→Bool) v_any Aap v_int v_str Yw v_ptr Yi AaS v_sl v_psl v_emp Yd v_map Aaw Y3 WC YA v_agg v_tup v_raw v_sel v_tok Aau v_one v_nil Aae a
def M0 (T':T AV)(dst:Option Nat)(v:AV):Bool:=Option.rec true (fun d=>Option.rec false (fun u=>GK v u) (T.get AE T' d)) dst
def bitK (m:Nat)(j:Nat):Bool:=Nat.beq (Nat.mod (Nat.div m (Nat.pow 2 j)) 2) 1
def Jc (bs:List Nat)(i j:Nat):Bool:=Option.rec false (fun m=>bitK m j) (K7 bs i)
def Py:Op→Bool
 |.move _|.assign _|.pick .. | .binOp .. | .unOp .. | .makeInterface .. | .field .. | .fieldAddr .. | .extract .. | .nilCheck _=>true|_=>false
def RW (E:Env)(o:Oper)(tmps:T AV)(h:AH):Option AV:=
 match kindOf E o.op with
 |.f=>match askK E o (F0 E tmps) h with
  |some (.val v _)=>some v|_=>none
 |_=>none
def Mr (E:Env)(o:Oper)(tmps T':T AV):Option AH→Bool
 |none=>true|some h=>match RW E o tmps h with
  |some v=>M0 T' o.dst v|none=>false
def Mv (bs:List Nat)(i:Nat)(l:List Nat):Bool:=List.rec false (fun e _ ih=>Bool.rec ih true (Jc bs e i)) l
def MH (bs:List Nat)(i:Nat)(l:List Nat):Bool:=List.rec false (fun e _ ih=>Bool.rec ih true (Jc bs i e)) l
def QP (E:Env)(bs:List Nat)(i:Nat)(o:Oper)(tmps T':T AV)(pre suf:List Nat)(h:Option AH):Bool:=
 Bool.rec (Bool.rec (Mr E o tmps T' h) true (MH bs i suf)) true (Mv bs i pre)
def Mc (E:Env)(bs:List Nat)(i:Nat)(o:Oper)(tmps T':T AV)(hend:Option AH):List Nat→List (Nat×AH)→Bool
 |pre,[]=>QP E bs i o tmps T' pre [] hend|pre,(e,h)::r=>QP E bs i o tmps T' pre (e::r.map (·.1)) (some h)&&Mc E bs i o tmps T' hend (e::pre) r
def Yq (E:Env)(ops:List Oper)(opa:Array Oper)(bs:List Nat)(base:Nat)(T':T AV)(hend:Option AH)(st:List (Nat×AH))(i:Nat)(tmps:T AV):Bool:=
 match K7 ops i with
  |none=>false|some o=>match AZ opa o tmps with
   |none=>false|some false=>M0 T' o.dst AM|some true=>match kindOf E o.op with
    |.no=>false|.f=>bif Py o.op&&Mr E o tmps T' (some ⟨.e,0⟩) then true else Mc E bs i o tmps T' hend [] st
    |.a=>match BT E o.op (F0 E tmps) with
     |some (_,f)=>M0 T' o.dst (f (base+i))|none=>false
    |.e=>st.any fun p=>Nat.beq p.1 i
def deadK (bs:List Nat)(pan:Option (Nat×List (AV×Bool)))(i:Nat):Bool:=
 match pan with
 |some (e,_)=>Jc bs i e|none=>false
def Eu (E:Env)(callf:AV→List AV→AH→Option (AG×AH×RC))(cn:Nat)(ops:List Oper)(opa:Array Oper)(bs:List Nat)(base:Nat):List Nat→DSt→Option DSt
 |[],s=>some s|i::rest,s=>bif deadK bs s.pan i then Eu E callf cn ops opa bs base rest s else match K7 ops i with
  |none=>none|some o=>match AZ opa o s.tmps with
   |none=>none|some false=>match GR cn o.dst AM s.tmps with
    |some t=>Eu E callf cn ops opa bs base rest { s with log:=(i,s.tmps)::s.log,tmps:=t }
    |none=>none
   |some true=>match kindOf E o.op with
    |.no=>none|.f=>match RW E o s.tmps s.rd with
     |none=>none|some v=>match GR cn o.dst v s.tmps with
      |some t=>Eu E callf cn ops opa bs base rest { s with log:=(i,s.tmps)::s.log,tmps:=t }
      |none=>none
    |.a=>match BT E o.op (F0 E s.tmps) with
     |none=>none|some (x,f)=>match GR cn o.dst (f (base+i)) s.tmps with
      |some t=>Eu E callf cn ops opa bs base rest { s with log:=(i,s.tmps)::s.log,tmps:=t,pend:=(i,base+i,x)::s.pend }
      |none=>none
    |.e=>
     bif s.pan.isNone&&s.old.all fun p=>Jc bs i p.1 then
      let due:=s.pend.filter fun p=>Jc bs i p.1
      let left:=s.pend.filter fun p=>!Jc bs i p.1
      let h:=AH.lay s.h due
      match askK E o (F0 E s.tmps) h with
      |some (.val v h')=>match GR cn o.dst v s.tmps with
       |some t=>Eu E callf cn ops opa bs base rest { s with log:=(i,s.tmps)::s.log,tmps:=t,h:=h',rd:=h',pend:=left,old:=(i,s.h)::s.old }
       |none=>none
      |some (.call fv args)=>match callf fv args h with
       |some (.ret v,h',_)=>match GR cn o.dst v s.tmps with
        |some t=>Eu E callf cn ops opa bs base rest { s with log:=(i,s.tmps)::s.log,tmps:=t,h:=h',rd:=h',pend:=left,old:=(i,s.h)::s.old }
        |none=>none
       |some (.pan ch,h',_)=>Eu E callf cn ops opa bs base rest { s with log:=(i,s.tmps)::s.log,h:=h',pend:=left,old:=(i,s.h)::s.old,pan:=some (i,ch) }
       |none=>none
      |_=>none
     else none
def NT (E:Env)(callf:AV→List AV→AH→Option (AG×AH×RC))(cn:Nat)(ops:Array Oper)(tmps:T AV)(h:AH):Option (T AV×AH×Option (List (AV×Bool))):=
 let bs:=(Region.before ops).toList
 let h0:AH:=⟨h.m,h.next+ops.size⟩
 bif JR ops (Region.before ops)&&Nat.blt (h.next+ops.size) BF then
  match Eu E callf cn ops.toList ops bs h.next (List.range ops.size) ⟨tmps,h0,h0,[],[],none,[]⟩ with
  |some s=>
   let hend:=match s.pan with|some _=>none|none=>some s.h
   bif s.log.all (fun p=>Yq E ops.toList ops bs h.next s.tmps hend s.old.reverse p.1 p.2) then
    match s.pan with
    |none=>some (s.tmps,AH.lay s.h s.pend,none)|some (_,ch)=>some (forget ops.toList tmps,s.h,some ch)
   else none
  |none=>none
 else none
abbrev KF:=Env→Rec→Ctx→T AV→List Item→List AD→AH→RC→RR
def Iv (c:Ctx)(tmps:T AV)(defs:List AD)(h:AH)(rc:RC)(rec:Rec)(jump:Option Code):RR:=
 match c.round with
 |none=>match jump with
  |none|some .ret=>rec (.unw c .ret tmps defs) h rc|_=>none
 |some l=>match defs with
  |[]=>match h.get l with
   |some (.loop _ _ fn k ts ps as' bd d)=>some (.ret (.bool jump.isNone),h.set l (some (.loop (match jump with|none=>.ready|some _=>.done) jump fn k ts ps as' bd d)),rc)
   |_=>none
  |_=>none
def PT:KF:=fun _ _ _ _ _ _ _ _=>none
def NI:KF:=fun _ rec c tmps k defs h rc=>rec (.run c tmps k defs) h rc
def UW (ops:Array Oper):KF:=fun E rec c tmps k defs h rc=>match NT E (fun fv args h=>rec (.call fv args .normal) h .no) c.n ops tmps h with
 |some (tmps',h',none)=>rec (.run c tmps' k defs) h' rc|some (tmps',h',some ch)=>rec (.unw c (.pan ch) tmps' defs) h' rc|none=>none
def Aaj (_:Nat)(ops:Array Oper)(draw:Bool):KF:=fun E rec c tmps k defs h rc=>
 Bool.rec (rec (.run c tmps (.inRegion ops (List.range ops.size)::k) defs) h rc) (UW ops E rec c tmps k defs h rc) draw
def c_seq (a b:Code)(_ _:KF):KF:=fun _ rec c tmps k defs h rc=>rec (.run c tmps (.code a::.code b::k) defs) h rc
def c_cond (x:Operand)(a b:Code)(_ _:KF):KF:=fun E rec c tmps k defs h rc=>match F0 E tmps x with
 |.bool t=>Bool.rec (rec (.run c tmps (.code b::k) defs) h rc) (rec (.run c tmps (.code a::k) defs) h rc) t|_=>none
def AdI (id:Nat)(body:Code)(_:KF):KF:=fun _ rec c tmps k defs h rc=>rec (.run c tmps (.code body::.inBlock id::k) defs) h rc
def c_loop (body:Code)(_:KF):KF:=fun _ rec c tmps k defs h rc=>rec (.run c tmps (.code body::.inLoop body::k) defs) h rc
def RV (f:Operand)(ps:Array Tmp)(as' bd:Code)(_ _:KF):KF:=fun E rec c tmps k defs h rc=>
 match (match c.round with
  |none=>match h.alloc (.dfr true) with
   |some (o,h')=>some (o,[AD.mark o],h')|none=>none
  |some l=>match h.get l with
   |some (.loop _ _ _ _ _ _ _ _ d)=>some (d,[],h)|_=>none) with
 |none=>none|some (d,mark,h1)=>match h1.alloc (.loop .ready none c.fn c.n tmps ps.toList as' bd d) with
  |none=>none|some (l,h2)=>match rec (.call (Bj E tmps f) [.func (.yield l) [] []] .normal) h2 .no with
   |some (.ret _,h3,_)=>rec (.run c tmps (.endRangeFunc l::k) (mark++defs)) h3 rc|some (.pan ch,h3,_)=>rec (.unw c (.pan ch) tmps (mark++defs)) h3 rc|none=>none
def c_exit (id:Nat):KF:=fun _ rec c tmps k defs h rc=>match exitTo id k with
 |some k'=>rec (.run c tmps k' defs) h rc|none=>Iv c tmps defs h rc rec (some (.exit id))
def Ab1 (body:Code)(_:KF):KF:=fun _ rec c tmps k defs h rc=>rec (.run c tmps (.code body::.inScope body::k) defs) h rc
def Acj (_:Nat):KF:=NI
def c_goto (l:Nat):KF:=fun _ rec c tmps k defs h rc=>match gotoIn l k with
 |some k'=>rec (.run c tmps k' defs) h rc|none=>Iv c tmps defs h rc rec (some (.goto l))
def c_ret:KF:=fun _ rec c tmps _ defs h rc=>Iv c tmps defs h rc rec (some .ret)
def i_code (cd:Code):KF:=Code.rec (motive:=fun _=>KF) NI Aaj c_seq c_cond AdI c_loop RV c_exit Ab1 Acj c_goto c_ret (fun _=>PT) cd
def XR (_:Nat):KF:=NI
def Y7 (body:Code):KF:=fun _ rec c tmps k defs h rc=>rec (.run c tmps (.code body::.inLoop body::k) defs) h rc
def X9 (_:Code):KF:=NI
def SW (v:AV)(h':AH)(o:Oper)(ops:Array Oper)(rest:List Nat)(rec:Rec)(c:Ctx)(tmps:T AV)(k:List Item)(defs:List AD)(rc:RC):RR:=
 Option.rec none (fun tmps'=>rec (.run c tmps' (.inRegion ops rest::k) defs) h' rc) (GR c.n o.dst v tmps)
def TP (fv:AV)(args:List AV)(o:Oper)(ops:Array Oper)(rest:List Nat)(rec:Rec)(c:Ctx)(tmps:T AV)(k:List Item)(defs:List AD)(h:AH)(rc:RC):RR:=
 match rec (.call fv args .normal) h .no with
 |some (.ret v,h',_)=>SW v h' o ops rest rec c tmps k defs rc|some (.pan ch,h',_)=>rec (.unw c (.pan ch) tmps defs) h' rc|none=>none
def AdR (d:AD)(o:Oper)(ops:Array Oper)(rest:List Nat)(rec:Rec)(c:Ctx)(tmps:T AV)(k:List Item)(defs:List AD)(h:AH)(rc:RC):RR:=
 match c.round,AW c.n o.dst AM tmps with
 |none,some tmps'=>rec (.run c tmps' (.inRegion ops rest::k) (d::defs)) h rc|_,_=>none
def X4 (o:Oper)(ops:Array Oper)(rest:List Nat)(rec:Rec)(c:Ctx)(tmps:T AV)(k:List Item)(defs:List AD)(h:AH)(rc:RC):RR:=
 match c.round with
 |some _=>none|none=>match rc with
  |.can v=>match AW c.n o.dst v tmps with
   |some tmps'=>rec (.run c tmps' (.inRegion ops rest::k) defs) h .used|none=>none
  |rc=>match AW c.n o.dst .nili tmps with
   |some tmps'=>rec (.run c tmps' (.inRegion ops rest::k) defs) h rc|none=>none
abbrev AK:=Oper→Array Oper→List Nat→Rec→Ctx→T AV→List Item→List AD→AH→RC→RR
def a_val (v:AV)(h':AH):AK:=fun o ops rest rec c tmps k defs _ rc=>SW v h' o ops rest rec c tmps k defs rc
def a_call (fv:AV)(args:List AV):AK:=TP fv args
def AdJ (d:AD):AK:=AdR d
def W4:AK:=X4
def Acr (v:AV):AK:=fun _ _ _ rec c tmps _ defs h rc=>rec (.unw c (.pan [(v,false)]) tmps defs) h rc
def g_ask (a:Ask):AK:=Ask.rec (motive:=fun _=>AK) a_val a_call AdJ W4 Acr a
def Wl (o:Oper)(ops:Array Oper)(rest:List Nat):KF:=fun E rec c tmps k defs h rc=>
 Option.rec none (fun a=>g_ask a o ops rest rec c tmps k defs h rc) (askK E o (F0 E tmps) h)
def Z0 (o:Oper)(ops:Array Oper)(rest:List Nat):KF:=fun _ rec c tmps k defs h rc=>match AW c.n o.dst AM tmps with
 |some tmps'=>rec (.run c tmps' (.inRegion ops rest::k) defs) h rc|none=>none
def PW (o:Oper)(ops:Array Oper)(rest:List Nat):KF:=fun E rec c tmps k defs h rc=>match AZ ops o tmps with
 |none=>none|some false=>Z0 o ops rest E rec c tmps k defs h rc|some true=>Wl o ops rest E rec c tmps k defs h rc
def P9 (o:Oper)(ops:Array Oper)(rest:List Nat):KF:=Option.rec (Wl o ops rest) (fun _=>PW o ops rest) o.guard
def g_op (ops:Array Oper)(i:Nat)(rest:List Nat):KF:=fun E rec c tmps k defs h rc=>
 Option.rec none (fun o=>P9 o ops rest E rec c tmps k defs h rc) (K7 ops.toList i)
def T2 (ops:Array Oper)(todo:List Nat):KF:=List.rec (motive:=fun _=>KF) NI (fun i rest _=>g_op ops i rest) todo
def XI (_:Nat):KF:=PT
def UB (l:Nat):KF:=fun _ rec c tmps k defs h rc=>match h.get l with
 |some (.loop st pend fn m ts ps as' bd d)=>match st with
  |.busy=>none|_=>rec (.run c tmps (match pend with|some j=>.code j::k|none=>k) defs) (h.set l (some (.loop .exhausted pend fn m ts ps as' bd d))) rc
 |_=>none
def Ac4:KF:=fun _ rec c tmps k defs h rc=>match c.round with
 |some l=>match h.get l with
  |some (.loop .ready pend fn m ts ps as' bd d)=>rec (.run c tmps k defs) (h.set l (some (.loop .busy pend fn m ts ps as' bd d))) rc|_=>none
 |none=>none
def i_call (_:Deferred)(_:Bool)(_:String)(_:Array Value):KF:=PT
def ZA (_:String)(_:Array Value):KF:=PT
def itemK (i:Item):KF:=Item.rec (motive:=fun _=>KF) i_code XR Y7 X9 T2 XI UB Ac4 i_call ZA i
def runK (E:Env)(rec:Rec)(h:AH)(rc:RC)(c:Ctx)(tmps:T AV)(todo:List Item)(defs:List AD):RR:=
 List.rec (Iv c tmps defs h rc rec none) (fun i k _=>itemK i E rec c tmps k defs h rc) todo
def unwK (E:Env)(rec:Rec)(h:AH)(rc:RC)(c:Ctx)(m:Gv)(tmps:T AV)(defs:List AD):RR:=
 match c.round with
  |some _=>match m,defs,E.fn c.fn with
   |.pan ch,[],some _=>some (.pan ch,h,rc)|_,_,_=>none
  |none=>match defs with
   |[]=>match m with
    |.ret=>match E.fn c.fn with
     |some F=>match Ec E h tmps F.results.toList with
      |some vs=>some (.ret (M4 vs),h,rc)|none=>none
     |none=>none
    |.pan ch=>match E.fn c.fn with
     |some _=>some (.pan ch,h,rc)|none=>none
   |.mark o::ds=>match h.get o with
    |some (.dfr true)=>rec (.unw c m tmps ds) (h.set o (some (.dfr false))) rc|_=>none
   |.call fv args::ds=>match rec (.call fv args .deferred) h (NM m) with
    |some (.ret _,h',rc')=>rec (.unw c (settle m rc') tmps ds) h' rc|some (.pan _,_,_)=>none|none=>none
def Yn (E:Env)(rec:Rec)(h:AH)(rc:RC)(kind:CallKind)(f:FuncId)(args:List AV):RR:=
 match Sa E f kind args h with
 |some (v,h')=>some (.ret v,h',rc)|none=>match panA E f kind args h with
  |some (ch,h')=>some (.pan ch,h',rc)|none=>match E.fn f with
   |some F=>match F.body with
    |some b=>bif Nat.ble args.length F.ntmps&&Nat.blt F.ntmps B9 then rec (.run ⟨f,F.ntmps,kind,none⟩ (Dy 0 args .e) [.code b] []) h rc else none
    |none=>none
   |none=>none
def callK (E:Env)(rec:Rec)(h:AH)(rc:RC)(fv:AV)(args:List AV)(kind:CallKind):RR:=
 match fv with
 |.func (.func f) first cap=>Yn E rec h rc kind f (first++(args++cap))
 |.func (.method name) first _=>match first++args with
  |.iface t v::rest=>match E.meth t name with
   |some f=>Yn E rec h rc kind f (v::rest)|none=>none
  |_=>none
 |.func (.yield l) _ _=>match kind with
  |.normal=>match h.get l with
   |some (.loop _ _ fn m ts ps as' bd _)=>bif Nat.beq args.length ps.length&&ps.all (fun p=>Nat.blt p m&&Nat.blt p B9) then rec (.run ⟨fn,m,.normal,some l⟩ (DS ps args ts) [.code as',.beginRound,.code bd] []) h rc else none
   |_=>none
  |_=>none
 |_=>none
def stepK (E:Env)(rec:Rec)(cmd:Cmd)(h:AH)(rc:RC):RR:=Cmd.rec (runK E rec h rc) (unwK E rec h rc) (callK E rec h rc) cmd
def evK (E:Env)(n:Nat):Cmd→AH→RC→Option (AG×AH×RC):=Nat.rec (fun _ _ _=>none) (fun _ rec cmd h rc=>stepK E rec cmd h rc) n
end
theorem EY {α:Type} : ∀(l:List α) (i:Nat),K7 l i=l[i]?
 |[],i=>by simp[K7]
 |x::l,0=>rfl|x::l,i+1=>by have:K7 (x::l) (i+1)=K7 l i:=rfl;rw[this,EY l i];simp
theorem RX (k:IntKind)(z:Int):Rw k z=k.wrap z:=by
 cases z with
 |negSucc n=>rfl|ofNat n=>
  show PZ k n=_;unfold PZ;cases h:Nat.ble n (maxK k) with
  |false=>rfl|true=>have hn:=zE h;show Int.ofNat n=_;cases k<;>simp only[maxK]at hn<;>simp[IntKind.wrap,IntKind.bits,IntKind.signed]<;>omega
theorem AbL (x y:Int):addZ x y=x+y:=by cases x<;>cases y<;>rfl
theorem Ace (x y:Int):subZ x y=x-y:=by
 cases x with
 |negSucc a=>rfl|ofNat a=>cases y with
  |negSucc b=>rfl|ofNat b=>
   show subN a b=_;unfold subN;cases h:Nat.ble b a with
   |false=>rfl|true=>have:=zE h;show((a-b:Nat):Int)=(a:Int)-(b:Int);omega
theorem YP (x y:Int):ltZ x y=decide (x<y):=by
 cases x with
 |ofNat a=>cases y with
  |ofNat b=>
   show Nat.blt a b=_;rw[Bool.eq_iff_iff,decide_eq_true_eq];constructor
   ·intro h;have:a+1≤b:=zE h;show(a:Int)<b;omega
   ·intro h;have h:(a:Int)<b:=h;exact Nat.ble_eq_true_of_le (by omega)
  |negSucc b=>
   show false=_
   symm;rw[decide_eq_false_iff_not];intro h;have:(a:Int)<Int.negSucc b:=h;omega
 |negSucc a=>cases y with
  |ofNat b=>
   show true=_
   symm;rw[decide_eq_true_eq];show Int.negSucc a<(b:Int);omega
  |negSucc b=>
   show Nat.blt b a=_;rw[Bool.eq_iff_iff,decide_eq_true_eq];constructor
   ·intro h;have:b+1≤a:=zE h;omega
   ·intro h;exact Nat.ble_eq_true_of_le (by omega)
theorem Abh (x y:Int):leZ x y=decide (x≤y):=by
 cases x with
 |ofNat a=>cases y with
  |ofNat b=>
   show Nat.ble a b=_;rw[Bool.eq_iff_iff,decide_eq_true_eq];constructor
   ·intro h;have:a≤b:=zE h;show(a:Int)≤b;omega
   ·intro h;have h:(a:Int)≤b:=h;exact Nat.ble_eq_true_of_le (by omega)
  |negSucc b=>
   show false=_
   symm;rw[decide_eq_false_iff_not];intro h;have:(a:Int)≤Int.negSucc b:=h;omega
 |negSucc a=>cases y with
  |ofNat b=>
   show true=_
   symm;rw[decide_eq_true_eq];show Int.negSucc a≤(b:Int);omega
  |negSucc b=>
   show Nat.ble b a=_;rw[Bool.eq_iff_iff,decide_eq_true_eq];constructor
   ·intro h;have:b≤a:=zE h;omega
   ·intro h;exact Nat.ble_eq_true_of_le (by omega)
theorem TM (x y:Int):eqZ x y=(x==y):=by
 cases x with
 |ofNat a=>cases y with
  |ofNat b=>
   show Nat.beq a b=_;rw[Bool.eq_iff_iff,beq_iff_eq];constructor
   ·intro h;rw[zD h]
   ·intro h;have:a=b:=by injection h
    subst this;exact Nat.beq_refl a
  |negSucc b=>rfl
 |negSucc a=>cases y with
  |ofNat b=>rfl|negSucc b=>
   show Nat.beq a b=_;rw[Bool.eq_iff_iff,beq_iff_eq];constructor
   ·intro h;rw[zD h]
   ·intro h;have:a=b:=by injection h
    subst this;exact Nat.beq_refl a
theorem PO (k k':IntKind):Nat.beq (Ie k) (Ie k')=decide (k=k'):=by cases k<;>cases k'<;>rfl
theorem AbM (op:BinOp)(k:IntKind)(a:Int)(k':IntKind)(b:Int)(E:Env)(t:TypeId)(h:AH):i_op op k a k' b E t h=one h (Bv E op t (.int k a) (.int k' b)):=by
 have key:∀(f:IntKind→Int→Int→AV),F1 f k a k' b E t h=one h (bif decide (k=k') then some (f k a b) else none):=by intro f;unfold F1;rw[PO];cases decide (k=k')<;>rfl
 have bne:∀b:Bool,(Bool.rec true false b:Bool) = !b:=by intro b;cases b<;>rfl
 cases op;case add=>refine(key (fun k a b=>.int k (Rw k (addZ a b)))).trans ?_;rw[RX,AbL];rfl
 case sub=>refine(key (fun k a b=>.int k (Rw k (subZ a b)))).trans ?_;rw[RX,Ace];rfl
 case eql=>refine(key (fun k a b=>.bool (eqZ a b))).trans ?_;rw[TM];rfl
 case neq=>refine(key (fun k a b=>.bool (Bool.rec true false (eqZ a b)))).trans ?_;rw[bne,TM];rfl
 case lss=>refine(key (fun k a b=>.bool (ltZ a b))).trans ?_;rw[YP];rfl
 case leq=>refine(key (fun k a b=>.bool (leZ a b))).trans ?_;rw[Abh];rfl
 case gtr=>refine(key (fun k a b=>.bool (ltZ b a))).trans ?_;rw[YP];rfl
 case geq=>refine(key (fun k a b=>.bool (leZ b a))).trans ?_;rw[Abh];rfl
 all_goals rfl
theorem AbU (a b:AV)(op:BinOp)(t:TypeId)(x y:Operand)(E:Env)(h:AH):b_go a b op t x y E h=UN a b op t x y E h:=by
 cases a<;>try rfl
 cases b<;>try rfl
 exact AbM _ _ _ _ _ _ _ _
theorem KU (E:Env)(tmps:T AV)(x:Operand):F0 E tmps x=Bj E tmps x:=by
 cases x with
 |tmp t=>show(Option.rec AM (fun v=>v) (T.get AE tmps t):AV)=(T.get AE tmps t).getD AM;cases T.get AE tmps t<;>rfl
 |const v=>rfl|global g=>show(Option.rec (.raw (.pointer (some ⟨g,0,none⟩))) (fun cells=>.pptr cells 0) (E.glob g):AV)=(match E.glob g with|some cells=>.pptr cells 0|none=>.raw (.pointer (some ⟨g,0,none⟩)));cases E.glob g<;>rfl
 |func f=>rfl
theorem Ft (r:Option (AV×AH)):Bm r=(match r with|some (v,h')=>some (.val v h')|none=>none):=by cases r<;>rfl
theorem QX (E:Env)(o:Oper)(ev:Operand→AV)(h:AH):askK E o ev h=B4 E o ev h:=by
 obtain⟨dst,op,ty,pos,after,guard⟩:=o;cases op;case call c=>
  obtain⟨cal,args,at'⟩:=c;cases cal with
  |builtin b=>cases b<;>rfl
  |invoke=>rfl|value f=>rfl
 case defer c=>
  obtain⟨cal,args,at'⟩:=c;cases cal<;>rfl
 case panic=>rfl
 case binOp op t x y t'=>
  show Bm (b_go (ev x) (ev y) op t x y E h)=_;rw[AbU,Ft];rfl
 case extract x i=>
  show Bm (KP x i E ev h)=_;rw[Ft];simp only[KP,B4,opA,EY];cases ev x<;>try rfl
  rename_i vs;dsimp only;cases vs[i]?<;>rfl
 case index t x ix=>
  show Bm (P2 t x ix E ev h)=_;rw[Ft];simp only[P2,B4,opA,EY];have key:∀(s:List Nat) (i:Nat),(Option.rec none (fun c=>some (AV.int .u8 c,h)) s[i]?:Option (AV×AH))=(s[i]?).map fun c=>(AV.int .u8 c,h):=by intro s i;cases s[i]?<;>rfl
  simp only[key];rfl
 case fieldAddr s x f=>
  show Bm (Hl s x f E ev h)=_;rw[Ft];simp only[Hl,B4,opA,EY,Array.getElem?_toList];rfl
 case field s x f=>
  show Bm (Qe s x f E ev h)=_;rw[Ft];simp only[Qe,B4,opA,EY,Array.getElem?_toList];rfl
 case next it b=>
  show Bm (ZS it b E ev h)=_;rw[Ft];cases b<;>rfl
 all_goals
  first
   |rfl
   |(refine(Ft _).trans ?_;rfl)
theorem LF:∀(a b:List Nat),NK a b=Am a b
 |[],[]=>rfl|[],_::_=>rfl|_::_,[]=>rfl|x::a,y::b=>by show(Bool.rec false (NK a b) (Nat.beq x y):Bool)=(Nat.beq x y&&Am a b);rw[LF a b];cases Nat.beq x y<;>rfl
theorem TQ (a b:Bool):V8 a b=(a==b):=by cases a<;>cases b<;>rfl
theorem Kp (a b:Bool):(Bool.rec false b a:Bool)=(a&&b):=by cases a<;>rfl
theorem AbP (x y:Int):eqZ x y=decide (x=y):=by rw[TM];rfl
mutual
theorem Ea:∀(a b:AV),GK a b=eqv a b
 |.any,b=>by cases b<;>simp[eqv]<;>rfl
 |.bool a,b=>by
  cases b<;>try (simp only[eqv];rfl)
  exact TQ _ _
 |.int k n,b=>by
  cases b<;>try (simp only[eqv];rfl)
  rename_i k' m;show(Bool.rec false (eqZ n m) (Nat.beq (Ie k) (Ie k')):Bool)=eqv _ _;rw[Kp,PO,AbP];simp only[eqv]
 |.str s,b=>by
  cases b<;>try (simp only[eqv];rfl)
  simp only[eqv];exact LF _ _
 |.nilp,b=>by cases b<;>simp only[eqv]<;>rfl
 |.ptr o a,b=>by
  cases b<;>try (simp only[eqv];rfl)
  simp only[eqv];exact Kp _ _
 |.pptr cs a,b=>by
  cases b<;>try (simp only[eqv];rfl)
  rename_i cs' a';show(Bool.rec false (LQ cs cs') (Nat.beq a a'):Bool)=eqv _ _;rw[Kp,Dp cs cs'];simp only[eqv]
 |.nils,b=>by cases b<;>simp only[eqv]<;>rfl
 |.sl ..,b=>by cases b<;>simp only[eqv]<;>rfl
 |.psl cs l c,b=>by
  cases b<;>try (simp only[eqv];rfl)
  rename_i cs' l' c';show(Nat.beq l l'&&decide (c=c')&&LQ cs cs')=eqv _ _;rw[Dp cs cs'];simp only[eqv]
 |.emp,b=>by cases b<;>simp only[eqv]<;>rfl
 |.nilm,b=>by cases b<;>simp only[eqv]<;>rfl
 |.map o,b=>by cases b<;>simp only[eqv]<;>rfl
 |.func f a c,b=>by
  cases b<;>try (simp only[eqv];rfl)
  rename_i f' a' c';show(decide (f=f')&&LQ a a'&&LQ c c')=eqv _ _;rw[Dp a a',Dp c c'];simp only[eqv]
 |.nilf,b=>by cases b<;>simp only[eqv]<;>rfl
 |.iface t v,b=>by
  cases b<;>try (simp only[eqv];rfl)
  rename_i t' v';show(Bool.rec false (GK v v') (Nat.beq t t'):Bool)=eqv _ _;rw[Kp,Ea v v'];simp only[eqv]
 |.nili,b=>by cases b<;>simp only[eqv]<;>rfl
 |.agg cs,b=>by
  cases b<;>try (simp only[eqv];rfl)
  simp only[eqv];exact Dp cs _
 |.tup cs,b=>by
  cases b<;>try (simp only[eqv];rfl)
  simp only[eqv];exact Dp cs _
 |.raw v,b=>by cases b<;>simp[eqv]<;>rfl
 |.sel i,b=>by cases b<;>simp only[eqv]<;>rfl
 |.stok i,b=>by cases b<;>simp only[eqv]<;>rfl
 |.tok i,b=>by cases b<;>simp only[eqv]<;>rfl
 |.one cs,b=>by
  cases b<;>try (simp only[eqv];rfl)
  simp only[eqv];exact Dp cs _
theorem Dp:∀(a b:List AV),LQ a b=Hf a b
 |[],[]=>by simp only[Hf];rfl
 |[],_::_=>by simp only[Hf];rfl
 |_::_,[]=>by simp only[Hf];rfl
 |x::a,y::b=>by show(Bool.rec false (LQ a b) (GK x y):Bool)=Hf _ _;rw[Kp,Ea x y,Dp a b];simp only[Hf]
end
theorem K5 (T':T AV)(dst:Option Nat)(v:AV):M0 T' dst v=Ke T' dst v:=by
 cases dst with
 |none=>rfl|some d=>
  show(Option.rec false (fun u=>GK v u) (T.get AE T' d):Bool)=(match T.get AE T' d with|some u=>eqv v u|none=>false);cases T.get AE T' d with
  |none=>rfl|some u=>exact Ea v u
theorem Ac8 (m j:Nat):bitK m j=m.testBit j:=by rw[Nat.testBit_eq_decide_div_mod_eq];show Nat.beq (m/2^j%2) 1=_;rw[T.beq_eq]
theorem J0 (bs:Array Nat)(i j:Nat):Jc bs.toList i j=Be bs i j:=by
 unfold Jc Be;rw[EY,Array.getElem?_toList,Array.getD_eq_getD_getElem?];cases bs[i]? with
 |none=>simp|some m=>exact Ac8 m j
theorem Jz (E:Env)(tmps:T AV):F0 E tmps=Bj E tmps:=funext fun x=>KU E tmps x
theorem R9 (E:Env)(o:Oper)(tmps:T AV)(h:AH):RW E o tmps h=H7 E o tmps h:=by unfold RW H7;rw[Jz,QX];rfl
theorem N3 (E:Env)(o:Oper)(tmps T':T AV)(h:Option AH):Mr E o tmps T' h=GV E o tmps T' h:=by
 cases h with
 |none=>rfl|some h=>show(match RW E o tmps h with|some v=>M0 T' o.dst v|none=>false)=(match H7 E o tmps h with|some v=>Ke T' o.dst v|none=>false);rw[R9];simp only[K5]
theorem N6 (bs:Array Nat)(i:Nat):∀l:List Nat,Mv bs.toList i l=l.any fun e=>Be bs e i
 |[]=>rfl|e::l=>by have:Mv bs.toList i (e::l)=(Bool.rec (Mv bs.toList i l) true (Jc bs.toList e i):Bool):=rfl;rw[this,J0,N6 bs i l,List.any_cons];cases Be bs e i<;>rfl
theorem MN (bs:Array Nat)(i:Nat):∀l:List Nat,MH bs.toList i l=l.any fun e=>Be bs i e
 |[]=>rfl|e::l=>by have:MH bs.toList i (e::l)=(Bool.rec (MH bs.toList i l) true (Jc bs.toList i e):Bool):=rfl;rw[this,J0,MN bs i l,List.any_cons];cases Be bs i e<;>rfl
theorem PN (E:Env)(bs:Array Nat)(i:Nat)(o:Oper)(tmps T':T AV)(pre suf:List Nat)(h:Option AH):QP E bs.toList i o tmps T' pre suf h=FV E bs i o tmps T' pre suf h:=by unfold QP FV;rw[N6,MN,N3];cases pre.any (fun e=>Be bs e i)<;>cases suf.any (fun e=>Be bs i e)<;>rfl
theorem Ob (E:Env)(bs:Array Nat)(i:Nat)(o:Oper)(tmps T':T AV)(hend:Option AH):∀(st:List (Nat×AH)) (pre:List Nat),Mc E bs.toList i o tmps T' hend pre st=Du E bs i o tmps T' hend pre st
 |[],pre=>PN ..|(e,h)::r,pre=>by unfold Mc Du;rw[PN,Ob E bs i o tmps T' hend r]
theorem Vd (E:Env)(o:Oper)(tmps:T AV)(h h':AH)(hn:Py o.op=true):H7 E o tmps h=H7 E o tmps h':=by
 obtain⟨dst,op,ty,pos,after,guard⟩:=o;cases op<;>simp only[Py]at hn<;>try (cases hn;done)
 all_goals simp only[H7,kindOf,B4,opA,one]
 case pick c a b=>cases Bj E tmps c<;>rfl
 case nilCheck x=>
  cases Bj E tmps x<;>try rfl
  rename_i fn _ _;cases fn<;>rfl
 case binOp op t x y t'=>
  generalize Bj E tmps x=a;generalize Bj E tmps y=b;have key:∀r:Option AV,(match (match Option.map (fun v=>(v,h)) r with|some (v,h')=>some (Ask.val v h')|none=>none) with|some (.val v _)=>some v|_=>none)=(match (match Option.map (fun v=>(v,h')) r with|some (v,h')=>some (Ask.val v h')|none=>none) with|some (.val v _)=>some v|_=>none):=by intro r;cases r<;>rfl
  cases a<;>try exact key _
  cases b<;>try exact key _
  cases (C3 x||C3 y)<;>try rfl
  cases E.ty t with
  |none=>rfl|some i=>
   obtain⟨u,_,_,_,_⟩:=i;cases u<;>try rfl
   cases op<;>rfl
 case unOp op t x=>cases unA op (Bj E tmps x)<;>rfl
 case makeInterface t x=>
  cases E.ty t with
  |none=>rfl|some i=>obtain⟨u,_,_,_,_⟩:=i;cases u<;>rfl
 case fieldAddr s x f=>
  cases E.ty s with
  |none=>rfl|some i=>
   obtain⟨u,_,_,_,_⟩:=i;cases u<;>try rfl
   case struct fields=>
   dsimp only;cases fields[f]? with
   |none=>rfl|some fl=>
    dsimp only;cases E.ty fl.type with
    |none=>rfl|some fi=>
     dsimp only;cases Nat.ble 1 fi.size<;>try rfl
     cases Bj E tmps x<;>rfl
 case field t x f=>
  cases E.ty t with
  |none=>rfl|some i=>
   obtain⟨u,_,_,_,_⟩:=i;cases u<;>try rfl
   case struct fields=>
   dsimp only;cases fields[f]? with
   |none=>rfl|some fl=>
    cases Bj E tmps x<;>try rfl
    dsimp only;generalize JX E fl.type _ fl.offset=r;cases r<;>rfl
 case extract t i=>
  cases Bj E tmps t<;>try rfl
  rename_i vs;dsimp only;cases vs[i]?<;>rfl
theorem JT (E:Env)(o:Oper)(tmps T':T AV)(hn:Py o.op=true)(h h0:AH):GV E o tmps T' (some h)=GV E o tmps T' (some h0):=by show(match H7 E o tmps h with|some v=>Ke T' o.dst v|none=>false)=(match H7 E o tmps h0 with|some v=>Ke T' o.dst v|none=>false);rw[Vd E o tmps h h0 hn]
theorem Hs (E:Env)(bs:Array Nat)(i:Nat)(o:Oper)(tmps T':T AV)(hend:Option AH)(hn:Py o.op=true){h0:AH}(hr:GV E o tmps T' (some h0)=true) :
 ∀(st:List (Nat×AH)) (pre:List Nat),Du E bs i o tmps T' hend pre st=true
 |[],pre=>by
  unfold Du FV;have:GV E o tmps T' hend=true:=by
   cases hend with
   |none=>rfl|some h=>rw[JT E o tmps T' hn h h0];exact hr
  rw[this];simp
 |(e,h)::r,pre=>by unfold Du FV;rw[JT E o tmps T' hn h h0,hr,Hs E bs i o tmps T' hend hn hr r];simp
theorem AaH (E:Env)(ops:Array Oper)(bs:Array Nat)(base:Nat)(T':T AV)(hend:Option AH)(st:List (Nat×AH))(i:Nat)(tmps:T AV):Yq E ops.toList ops bs.toList base T' hend st i tmps=Oj E ops bs base T' hend st i tmps:=by
 unfold Yq Oj;rw[EY,Array.getElem?_toList];cases ops[i]? with
 |none=>rfl|some o=>
  dsimp only;cases AZ ops o tmps with
  |none=>rfl|some b=>
   cases b with
   |false=>exact K5 ..|true=>
    dsimp only;rw[Jz];cases kindOf E o.op with
    |a=>dsimp only;simp only[K5];rfl
    |f=>
     dsimp only;cases hc:(Py o.op&&Mr E o tmps T' (some ⟨.e,0⟩)) with
     |false=>simp only[cond_false];exact Ob ..
     |true=>simp only[zA,N3]at hc;simp only[cond_true];exact(Hs E bs i o tmps T' hend hc.1 hc.2 st []).symm
    |_=>rfl
theorem Ol (n:Nat)(dst:Option Nat)(v:AV)(tmps:T AV):GR n dst v tmps=AW n dst v tmps:=by
 cases dst with
 |none=>rfl|some d=>show Aas n d v tmps=(bif Nat.blt d n&&Nat.blt d B9 then some (T.put AE tmps d (some v)) else none);unfold Aas;cases (Nat.blt d n&&Nat.blt d B9)<;>rfl
theorem Abb (bs:Array Nat)(pan:Option (Nat×List (AV×Bool)))(i:Nat):deadK bs.toList pan i=FF bs pan i:=by
 cases pan with
 |none=>rfl|some p=>exact J0 ..
theorem Ny (E:Env)(callf:AV→List AV→AH→Option (AG×AH×RC))(cn:Nat)(ops:Array Oper)(bs:Array Nat)(base:Nat):∀(l:List Nat) (s:DSt),Eu E callf cn ops.toList ops bs.toList base l s=C5 E callf cn ops bs base l s
 |[],s=>rfl|i::rest,s=>by
  have ih:=fun s=>Ny E callf cn ops bs base rest s
  unfold Eu C5;simp only[ih,Abb,EY,Array.getElem?_toList,Jz,QX,R9,Ol,J0];rfl
theorem SB (E:Env)(callf:AV→List AV→AH→Option (AG×AH×RC))(cn:Nat)(ops:Array Oper)(tmps:T AV)(h:AH):NT E callf cn ops tmps h=Ki E callf cn ops tmps h:=by unfold NT Ki;simp only[Ny,AaH];rfl
theorem leave_eq (E:Env)(n:Nat)(c:Ctx)(tmps:T AV)(defs:List AD)(h:AH)(rc:RC)(jump:Option Code) :
 Iv c tmps defs h rc (ev E n) jump=(match c.round with
  |none=>match jump with
   |none|some .ret=>ev E n (.unw c .ret tmps defs) h rc|_=>none
  |some l=>match defs with
   |[]=>match h.get l with
    |some (.loop _ _ fn k ts ps as' bd d)=>some (.ret (.bool jump.isNone),h.set l (some (.loop (match jump with|none=>.ready|some _=>.done) jump fn k ts ps as' bd d)),rc)
    |_=>none
   |_=>none):=rfl
theorem Ve (E:Env):∀n,evK E n=ev E n
 |0=>rfl|n+1=>by
  have ih:=Ve E n;funext cmd h rc;show stepK E (evK E n) cmd h rc=_;rw[ih];cases cmd with
  |call fv args kind=>rfl|unw c m tmps defs=>rfl|run c tmps todo defs=>
   cases todo with
   |nil=>rfl|cons i k=>
    show itemK i E (ev E n) c tmps k defs h rc=_;cases i with
    |code cd=>
     cases cd with
     |region id ops draw=>
      cases draw with
      |false=>rfl|true=>show UW ops E (ev E n) c tmps k defs h rc=_;unfold UW;rw[SB];rfl
     |cond x a b=>
      show(match F0 E tmps x with
       |.bool t=>(Bool.rec (ev E n (.run c tmps (.code b::k) defs) h rc) (ev E n (.run c tmps (.code a::k) defs) h rc) t:RR)|_=>none)=(match Bj E tmps x with
       |.bool t=>ev E n (.run c tmps (.code (bif t then a else b)::k) defs) h rc
       |_=>none)
      rw[KU];cases Bj E tmps x<;>try rfl
      rename_i t;cases t<;>rfl
     |_=>rfl
    |inRegion ops todo=>
     cases todo with
     |nil=>rfl|cons i rest=>
      show(Option.rec none (fun o=>P9 o ops rest E (ev E n) c tmps k defs h rc) (K7 ops.toList i):RR)=(match ops[i]? with
       |none=>none|some o=>match AZ ops o tmps with
        |none=>none|some false=>match AW c.n o.dst AM tmps with
         |some tmps'=>ev E n (.run c tmps' (.inRegion ops rest::k) defs) h rc|none=>none
        |some true=>match B4 E o (Bj E tmps) h with
         |some (.val v h')=>match AW c.n o.dst v tmps with
          |some tmps'=>ev E n (.run c tmps' (.inRegion ops rest::k) defs) h' rc|none=>none
         |some (.call fv args)=>match ev E n (.call fv args .normal) h .no with
          |some (.ret v,h',_)=>match AW c.n o.dst v tmps with
           |some tmps'=>ev E n (.run c tmps' (.inRegion ops rest::k) defs) h' rc|none=>none
          |some (.pan ch,h',_)=>ev E n (.unw c (.pan ch) tmps defs) h' rc|none=>none
         |some (.defer d)=>match c.round,AW c.n o.dst AM tmps with
          |none,some tmps'=>ev E n (.run c tmps' (.inRegion ops rest::k) (d::defs)) h rc|_,_=>none
         |some .recover=>match c.round with
          |some _=>none|none=>match rc with
           |.can v=>match AW c.n o.dst v tmps with
            |some tmps'=>ev E n (.run c tmps' (.inRegion ops rest::k) defs) h .used|none=>none
           |rc=>match AW c.n o.dst .nili tmps with
            |some tmps'=>ev E n (.run c tmps' (.inRegion ops rest::k) defs) h rc|none=>none
         |some (.panic v)=>ev E n (.unw c (.pan [(v,false)]) tmps defs) h rc|none=>none)
      rw[EY,Array.getElem?_toList];cases ops[i]? with
      |none=>rfl|some o=>
       have hrun:Wl o ops rest E (ev E n) c tmps k defs h rc=(match B4 E o (Bj E tmps) h with
        |some (.val v h')=>match AW c.n o.dst v tmps with
         |some tmps'=>ev E n (.run c tmps' (.inRegion ops rest::k) defs) h' rc|none=>none
        |some (.call fv args)=>match ev E n (.call fv args .normal) h .no with
         |some (.ret v,h',_)=>match AW c.n o.dst v tmps with
          |some tmps'=>ev E n (.run c tmps' (.inRegion ops rest::k) defs) h' rc|none=>none
         |some (.pan ch,h',_)=>ev E n (.unw c (.pan ch) tmps defs) h' rc|none=>none
        |some (.defer d)=>match c.round,AW c.n o.dst AM tmps with
         |none,some tmps'=>ev E n (.run c tmps' (.inRegion ops rest::k) (d::defs)) h rc|_,_=>none
        |some .recover=>match c.round with
         |some _=>none|none=>match rc with
          |.can v=>match AW c.n o.dst v tmps with
           |some tmps'=>ev E n (.run c tmps' (.inRegion ops rest::k) defs) h .used|none=>none
          |rc=>match AW c.n o.dst .nili tmps with
           |some tmps'=>ev E n (.run c tmps' (.inRegion ops rest::k) defs) h rc|none=>none
        |some (.panic v)=>ev E n (.unw c (.pan [(v,false)]) tmps defs) h rc|none=>none):=by
        have hset:∀v h',SW v h' o ops rest (ev E n) c tmps k defs rc=(match AW c.n o.dst v tmps with
         |some tmps'=>ev E n (.run c tmps' (.inRegion ops rest::k) defs) h' rc|none=>none):=by
         intro v h';unfold SW;rw[Ol];cases AW c.n o.dst v tmps<;>rfl
        unfold Wl;rw[show F0 E tmps=Bj E tmps from funext fun x=>KU E tmps x,QX];cases B4 E o (Bj E tmps) h with
        |none=>rfl|some a=>
         cases a with
         |val v h'=>exact hset v h'|call fv args=>
          show(match ev E n (.call fv args .normal) h .no with
           |some (.ret v,h',_)=>SW v h' o ops rest (ev E n) c tmps k defs rc|some (.pan ch,h',_)=>ev E n (.unw c (.pan ch) tmps defs) h' rc|none=>none)=_
          simp only[hset]
         |_=>rfl
       have hskip:Z0 o ops rest E (ev E n) c tmps k defs h rc=(match AW c.n o.dst AM tmps with
        |some tmps'=>ev E n (.run c tmps' (.inRegion ops rest::k) defs) h rc|none=>none):=rfl
       show P9 o ops rest E (ev E n) c tmps k defs h rc=(match AZ ops o tmps with
        |none=>none|some false=>(match AW c.n o.dst AM tmps with
         |some tmps'=>ev E n (.run c tmps' (.inRegion ops rest::k) defs) h rc|none=>none)
        |some true=>_)
       rw[←hrun,←hskip];unfold P9;cases hg:o.guard with
       |none=>
        have hw:AZ ops o tmps=some true:=by simp[AZ,hg]
        rw[hw]
       |some p=>
        show PW o ops rest E (ev E n) c tmps k defs h rc=_;unfold PW;cases AZ ops o tmps with
        |none=>rfl|some b=>cases b<;>rfl
    |_=>rfl
def ZI (E:Env)(p:FuncId→Option (List AV→AH→Option (AV×AH))):Env:={ E with prim:=p }
def T.Ax {α:Type} : T α→Nat→Nat→List (Nat×α)
 |.e,_,_=>[]|.n l v r,a,b=>(match v with|some x=>[(b,x)]|none=>[])++(T.Ax l (2*a) (2*a+b)++T.Ax r (2*a) (a+b))
theorem T.MJ {α:Type} : ∀(t:T α) (k i a b:Nat) (x:α),T.get k t i=some x→(a*i+b,x)∈T.Ax t a b
 |.e,k,i,a,b,x,h=>by cases k<;>cases h
 |.n l v r,0,i,a,b,x,h=>by cases h
 |.n l v r,k+1,i,a,b,x,h=>by
  simp only[T.GA,T.beq_eq]at h;simp only[T.Ax,List.mem_append];by_cases h0:i=0
  ·subst h0;simp only[decide_true,cond_true]at h;subst h
   left
   simp
  ·by_cases hp:i%2=0
   ·simp only[h0,hp,decide_false,decide_true,cond_true,cond_false]at h
    right;left
    have:=T.MJ l k _ (2*a) (2*a+b) x h;have e:2*a*(i/2-1)+(2*a+b)=a*i+b:=by
     have hi:i=2*(i/2-1)+2:=by omega
     generalize i/2-1=j at *;subst hi;rw[Nat.mul_add,←Nat.add_assoc,Nat.mul_comm 2 a,Nat.mul_assoc]
    rwa[e]at this
   ·simp only[h0,hp,decide_false,cond_false]at h
    right;right
    have:=T.MJ r k _ (2*a) (a+b) x h;have e:2*a*(i/2)+(a+b)=a*i+b:=by
     have hi:i=2*(i/2)+1:=by omega
     generalize i/2=j at *;subst hi;rw[Nat.mul_add,←Nat.add_assoc,Nat.mul_comm 2 a,Nat.mul_assoc,Nat.mul_one]
    rwa[e]at this
abbrev T.list {α:Type}(t:T α):List (Nat×α):=T.Ax t 1 0
theorem T.Fk {α:Type}{t:T α}{k i:Nat}{x:α}(h:T.get k t i=some x):(i,x)∈t.list:=by have:=T.MJ t k i 1 0 x h;simpa using this
theorem DY {α:Type}{f:Nat→Option α} : ∀{l:List (Nat×α)},l.map (fun p=>f p.1)=l.map (fun p=>some p.2)→∀p∈l,f p.1=some p.2
 |[],_,p,hp=>by cases hp
 |q::r,he,p,hp=>by
  simp only[List.map_cons,List.cons.injEq]at he;rcases zH.1 hp with rfl|hp
  ·exact he.1
  ·exact DY he.2 p hp
structure Tabs where
 ty:T TI
 fn:T Func
 meth:T (List (String×FuncId))
 impl:T Bool
 glob:T (List AV)
 eqt:T (List TypeDesc)
def Wj:List (String×FuncId)→String→Option FuncId
 |[],_=>none|(s,f)::r,n=>bif decide (s=n) then some f else Wj r n
theorem O9:∀{l:List (String×FuncId)} {n:String} {f:FuncId},Wj l n=some f→(n,f)∈l
 |[],_,_,h=>by cases h
 |(s,g)::r,n,f,h=>by
  simp only[Wj]at h;by_cases e:s=n
  ·simp only[e,decide_true,cond_true,zC]at h;subst h;subst e;simp
  ·simp only[e,decide_false,cond_false]at h;exact zO _ (O9 h)
def ZP (t:T (List (String×FuncId)))(a:TypeId)(name:String):Option FuncId:=
 match T.get AE t a with
 |some l=>Wj l name|none=>none
def ZC (t:T Bool)(a b:TypeId):Option Bool:=bif Nat.blt b 1024 then T.get 20 t (a*1024+b) else none
def Tabs.env (t:Tabs):Env where
 ty:=T.get AE t.ty
 fn:=T.get AE t.fn
 glob:=T.get AE t.glob
 meth:=ZP t.meth
 impl:=ZC t.impl
 eqt:=T.get AE t.eqt
 prim _:=none
theorem Tabs.ok {P:Program}{t:Tabs}
 (h1:t.ty.list.map (fun p=>tyOf P p.1)=t.ty.list.map (fun p=>some p.2))
 (h2:t.fn.list.map (fun p=>P.funcs[p.1]?)=t.fn.list.map (fun p=>some p.2))
 (h3:(t.fn.list.all fun p=>p.2.name != "runtime.NumGoroutine")=true)
 (h4:(t.meth.list.all fun p=>p.2.all fun q=>decide (Q1 P p.1 q.1=some q.2))=true)
 (h5:t.impl.list.map (fun p=>MW P (p.1/1024) (p.1%1024))=t.impl.list.map (fun p=>some p.2))
 (h7:t.eqt.list.map (fun p=>eqtP P p.1)=t.eqt.list.map (fun p=>some p.2))
 (h6:P.follows .mixedOrders=true):Az P t.env where
 ty i a h:=Acg (DY (f:=tyOf P) h1 _ (T.Fk (k:=AE) (show T.get AE t.ty i=some a from h)))
 fn i a h:=by have hm:=T.Fk (k:=AE) (show T.get AE t.fn i=some a from h);refine⟨DY (f:=fun i=>P.funcs[i]?) h2 _ hm,?_⟩;have:=zB.1 h3 _ hm;simpa using this
 meth a n f h:=by
  change ZP t.meth a n=some f at h;unfold ZP at h;split at h;case h_2=>cases h
  rename_i l hl;have h7:=zB.1 (zB.1 h4 _ (T.Fk hl)) _ (O9 h);exact Xt (of_decide_eq_true h7)
 impl a b r h:=by
  change ZC t.impl a b=some r at h;unfold ZC at h;cases hb:Nat.blt b 1024 with
  |false=>simp[hb]at h|true=>
   simp only[hb,cond_true]at h;have hlt:b<1024:=zE hb;have h7:=DY (f:=fun i=>MW P (i/1024) (i%1024)) h5 _ (T.Fk h);simp only at h7;have e1:∀x y:Nat,y<1024→(x*1024+y)/1024=x:=by intro x y hy;omega
   have e2:∀x y:Nat,y<1024→(x*1024+y)%1024=y:=by intro x y hy;omega
   rw[e1 a b hlt,e2 a b hlt]at h7;exact Xd h7
 eqt a ds h:=AdS (DY (f:=eqtP P) h7 _ (T.Fk (k:=AE) (show T.get AE t.eqt a=some ds from h)))
 mixed:=h6
 bin _ _ _ _ _ h:=by cases h
 len _ _ h:=by cases h
 slen _ _ h:=by cases h
 sat _ _ _ h:=by cases h
theorem Lb {P:Program}{E:Env}(h:PanOk P E):B2 P (ZI E fun _=>none):=⟨(fun _ _ h=>by cases h),h⟩
mutual
def Au:AV→Bool
 |.ptr .. | .sl .. | .map _|.func .. | .sel _|.tok _|.stok _|.one _=>false|.pptr cs _=>Bb cs|.psl cs _ _=>Bb cs|.iface _ x=>Au x|.agg cs=>Bb cs|.tup cs=>Bb cs|_=>true
def Bb:List AV→Bool
 |[]=>true|x::xs=>Au x&&Bb xs
end
section
variable {k k':K}{w w':World}
mutual
theorem VR.plain (hz:∀b,k.fz b→k'.fz b)(hw:∀b,k.fz b→w'.heap[b]?=w.heap[b]?):∀(x:AV) (v:Value),Au x=true→VR k w x v→VR k' w' x v
 |.any,_,_,_=>by simp only[VR]
 |.bool b,v,_,hv=>by simpa only[VR]using hv
 |.int kd n,v,_,hv=>by simpa only[VR]using hv
 |.str s,v,_,hv=>by simpa only[VR]using hv
 |.nilp,v,_,hv=>by simpa only[VR]using hv
 |.ptr o off,v,hp,_=>by simp[Au]at hp
 |.pptr cells off,v,hp,hv=>by simp only[VR]at hv ⊢;simp only[Au]at hp;obtain⟨b,sh,h1,h2,h3⟩:=hv;exact⟨b,sh,h1,hz _ h2,VRC.plain hz hw b h2 cells sh hp h3⟩
 |.nils,v,_,hv=>by simpa only[VR]using hv
 |.sl ..,v,hp,_=>by simp[Au]at hp
 |.psl cells len cap,v,hp,hv=>by simp only[VR]at hv ⊢;simp only[Au]at hp;obtain⟨b,sh,c,h1,h2,h3,h4,h5⟩:=hv;exact⟨b,sh,c,h1,h2,h3,hz _ h4,VRC.plain hz hw b h4 cells sh hp h5⟩
 |.emp,v,_,hv=>by simpa only[VR]using hv
 |.nilm,v,_,hv=>by simpa only[VR]using hv
 |.map o,v,hp,_=>by simp[Au]at hp
 |.func ..,v,hp,_=>by simp[Au]at hp
 |.nilf,v,_,hv=>by simpa only[VR]using hv
 |.iface t x,v,hp,hv=>by simp only[VR]at hv ⊢;simp only[Au]at hp;obtain⟨y,h1,h2⟩:=hv;exact⟨y,h1,VR.plain hz hw _ _ hp h2⟩
 |.nili,v,_,hv=>by simpa only[VR]using hv
 |.agg cs,v,hp,hv=>by simp only[VR]at hv ⊢;simp only[Au]at hp;obtain⟨vs,h1,h2⟩:=hv;exact⟨vs,h1,VRL.plain hz hw _ _ hp h2⟩
 |.tup cs,v,hp,hv=>by simp only[VR]at hv ⊢;simp only[Au]at hp;obtain⟨vs,h1,h2⟩:=hv;exact⟨vs,h1,VRL.plain hz hw _ _ hp h2⟩
 |.raw x,v,_,hv=>by simpa only[VR]using hv
 |.sel i,v,hp,_=>by simp[Au]at hp
 |.tok i,v,hp,_=>by simp[Au]at hp
 |.stok i,v,hp,_=>by simp[Au]at hp
 |.one xs,v,hp,_=>by simp[Au]at hp
theorem VRL.plain (hz:∀b,k.fz b→k'.fz b)(hw:∀b,k.fz b→w'.heap[b]?=w.heap[b]?):∀(xs:List AV) (vs:List Value),Bb xs=true→VRL k w xs vs→VRL k' w' xs vs
 |[],vs,_,hv=>by simpa only[VRL]using hv
 |x::xs,vs,hp,hv=>by simp only[VRL]at hv ⊢;simp only[Bb,zA]at hp;obtain⟨v,vs',h1,h2,h3⟩:=hv;exact⟨v,vs',h1,VR.plain hz hw x v hp.1 h2,VRL.plain hz hw xs vs' hp.2 h3⟩
theorem VRC.plain (hz:∀b,k.fz b→k'.fz b)(hw:∀b,k.fz b→w'.heap[b]?=w.heap[b]?)(b:Nat)(hb:k.fz b):∀(xs:List AV) (i:Nat),Bb xs=true→VRC k w b xs i→VRC k' w' b xs i
 |[],i,_,_=>by simp only[VRC]
 |x::xs,i,hp,hv=>by simp only[VRC]at hv ⊢;simp only[Bb,zA]at hp;obtain⟨⟨v,h1,h2⟩,h3⟩:=hv;refine⟨⟨v,?_,VR.plain hz hw x v hp.1 h2⟩,VRC.plain hz hw b hb xs (i+1) hp.2 h3⟩;simp only[World.cell?,hw b hb]at h1 ⊢;exact h1
end
end
def kFz (fz:Nat→Prop):K:=⟨fun _=>none,fz,⟨fun _=>0,fun _=>⟨fun _ _ _=>False,fun _ _ _ _ _ _ _ h=>h⟩,fun _=>.bool false,fun _=>ByteArray.empty,fun _=>[]⟩⟩
def Oc (x:AV):Opq where
 P fz w v:=Au x=true∧VR (kFz fz) w x v
 mono fz fz' _ _ v hz hw h:=⟨h.1,VR.plain (k:=kFz fz) (k':=kFz fz') hz hw x v h.1 h.2⟩
theorem To {x:AV}{k:K}{w:World}{v:Value} : (Oc x).P k.fz w v↔Au x=true∧VR k w x v:=
 ⟨fun h=>⟨h.1,VR.plain (k:=kFz k.fz) (k':=k) (fun _ h=>h) (fun _ _=>rfl) x v h.1 h.2⟩,fun h=>⟨h.1,VR.plain (k:=k) (k':=kFz k.fz) (fun _ h=>h) (fun _ _=>rfl) x v h.1 h.2⟩⟩
mutual
def inst (σ:Nat→AV)(τ:Nat→List Nat):AV→AV
 |.sel i=>σ i|.stok i=>.str (τ i)|.agg cs=>.agg (Ai σ τ cs)|.tup cs=>.tup (Ai σ τ cs)|.iface t x=>.iface t (inst σ τ x)|.psl cs l c=>.psl (Ai σ τ cs) l c|.pptr cs o=>.pptr (Ai σ τ cs) o|.any=>.any|.bool b=>.bool b|.int k n=>.int k n|.str s=>.str s|.nilp=>.nilp|.ptr o a=>.ptr o a|.nils=>.nils|.sl o a l z c=>.sl o a l z c|.emp=>.emp|.nilm=>.nilm|.map o=>.map o|.func f a b=>.func f a b|.nilf=>.nilf|.nili=>.nili|.raw v=>.raw v|.tok i=>.tok i|.one xs=>.one xs
def Ai (σ:Nat→AV)(τ:Nat→List Nat):List AV→List AV
 |[]=>[]|x::xs=>inst σ τ x::Ai σ τ xs
end
def SL (l:List Nat):ByteArray:=⟨(l.map UInt8.ofNat).toArray⟩
theorem Nj {l:List Nat}(h:l.all (fun n=>Nat.blt n 256)=true):(SL l).data.toList.map UInt8.toNat=l:=by
 simp only[SL,List.toList_toArray,List.map_map];apply List.ext_getElem?;intro i;simp only[List.getElem?_map];cases hi:l[i]? with
 |none=>rfl|some n=>have hn:=zB.1 h n (List.mem_of_getElem? hi);have hn:n<256:=zE hn;simp[Nat.mod_eq_of_lt hn]
theorem Xu {a b:ByteArray}(h:a.data.toList.map UInt8.toNat=b.data.toList.map UInt8.toNat):a=b:=by
 cases a with|mk a=>cases b with|mk b=>
 congr 1;apply Array.ext';exact(List.map_inj_right (fun x y h=>UInt8.toNat_inj.1 h)).1 h
structure By (c:KC)(σ:Nat→AV)(τ:Nat→List Nat):Prop where
 sel:∀i,σ i=.sel i∨c.sel i=Oc (σ i)
 str:∀i,c.str i=SL (τ i)
 byte:∀i,(τ i).all (fun n=>Nat.blt n 256)=true
mutual
theorem Cp {σ:Nat→AV}{τ:Nat→List Nat}{k:K}{w:World}(hk:By k.sz σ τ):∀(x:AV) (v:Value),VR k w x v→VR k w (inst σ τ x) v
 |.sel i,v,h=>by
  simp only[inst];rcases hk.sel i with hi|hi
  ·rw[hi];exact h
  ·simp only[VR,hi]at h;exact(To.1 h.1).2
 |.stok i,v,h=>by simp only[VR,inst,hk.str]at h ⊢;exact⟨_,h,Nj (hk.byte i)⟩
 |.agg cs,v,h=>by simp only[VR,inst]at h ⊢;obtain⟨vs,h1,h2⟩:=h;exact⟨vs,h1,JO hk cs _ h2⟩
 |.tup cs,v,h=>by simp only[VR,inst]at h ⊢;obtain⟨vs,h1,h2⟩:=h;exact⟨vs,h1,JO hk cs _ h2⟩
 |.iface t x,v,h=>by simp only[VR,inst]at h ⊢;obtain⟨y,h1,h2⟩:=h;exact⟨y,h1,Cp hk x _ h2⟩
 |.psl cs l c,v,h=>by simp only[VR,inst]at h ⊢;obtain⟨b,sh,c',h1,h2,h3,h4,h5⟩:=h;exact⟨b,sh,c',h1,h2,h3,h4,On hk b cs sh h5⟩
 |.pptr cs o,v,h=>by simp only[VR,inst]at h ⊢;obtain⟨b,sh,h1,h2,h3⟩:=h;exact⟨b,sh,h1,h2,On hk b cs sh h3⟩
 |.any,v,h=>h|.bool b,v,h=>h|.int kd n,v,h=>h|.str s,v,h=>h|.nilp,v,h=>h|.ptr ..,v,h=>h|.nils,v,h=>h|.sl ..,v,h=>h|.emp,v,h=>h|.nilm,v,h=>h|.map o,v,h=>h|.func ..,v,h=>h|.nilf,v,h=>h|.nili,v,h=>h|.raw x,v,h=>h|.tok i,v,h=>h|.one xs,v,h=>h
theorem JO {σ:Nat→AV}{τ:Nat→List Nat}{k:K}{w:World}(hk:By k.sz σ τ):∀(xs:List AV) (vs:List Value),VRL k w xs vs→VRL k w (Ai σ τ xs) vs
 |[],vs,h=>h|x::xs,vs,h=>by simp only[VRL,Ai]at h ⊢;obtain⟨v,vs',h1,h2,h3⟩:=h;exact⟨v,vs',h1,Cp hk x v h2,JO hk xs vs' h3⟩
theorem On {σ:Nat→AV}{τ:Nat→List Nat}{k:K}{w:World}(hk:By k.sz σ τ)(b:Nat):∀(xs:List AV) (i:Nat),VRC k w b xs i→VRC k w b (Ai σ τ xs) i
 |[],i,h=>h|x::xs,i,h=>by simp only[VRC,Ai]at h ⊢;obtain⟨⟨v,h1,h2⟩,h3⟩:=h;exact⟨⟨v,h1,Cp hk x v h2⟩,On hk b xs (i+1) h3⟩
end
mutual
def B6 (σ:Nat→AV):AV→Bool
 |.sel i=>Au (σ i)&&(σ i).cell|.agg cs=>DF σ cs|.tup cs=>DF σ cs|.iface _ x=>B6 σ x|.psl cs _ _=>DF σ cs|.pptr cs _=>DF σ cs|_=>true
def DF (σ:Nat→AV):List AV→Bool
 |[]=>true|x::xs=>B6 σ x&&DF σ xs
end
mutual
theorem CK {σ:Nat→AV}{τ:Nat→List Nat}{k:K}{w:World}(hk:By k.sz σ τ):∀(x:AV) (v:Value),B6 σ x=true→VR k w (inst σ τ x) v→VR k w x v
 |.sel i,v,ho,h=>by
  simp only[B6,zA]at ho;simp only[inst]at h;rcases hk.sel i with hi|hi
  ·rw[hi]at ho;simp[Au]at ho
  ·simp only[VR,hi];exact⟨To.2 ⟨ho.1,h⟩,h.G5 ho.2⟩
 |.stok i,v,_,h=>by simp only[VR,inst,hk.str]at h ⊢;obtain⟨b,h1,h2⟩:=h;rw[h1,Xu (h2.trans (Nj (hk.byte i)).symm)]
 |.agg cs,v,ho,h=>by simp only[VR,inst,B6]at h ho ⊢;obtain⟨vs,h1,h2⟩:=h;exact⟨vs,h1,Hr hk cs _ ho h2⟩
 |.tup cs,v,ho,h=>by simp only[VR,inst,B6]at h ho ⊢;obtain⟨vs,h1,h2⟩:=h;exact⟨vs,h1,Hr hk cs _ ho h2⟩
 |.iface t x,v,ho,h=>by simp only[VR,inst,B6]at h ho ⊢;obtain⟨y,h1,h2⟩:=h;exact⟨y,h1,CK hk x _ ho h2⟩
 |.psl cs l c,v,ho,h=>by simp only[VR,inst,B6]at h ho ⊢;obtain⟨b,sh,c',h1,h2,h3,h4,h5⟩:=h;exact⟨b,sh,c',h1,h2,h3,h4,Ou hk b cs sh ho h5⟩
 |.pptr cs o,v,ho,h=>by simp only[VR,inst,B6]at h ho ⊢;obtain⟨b,sh,h1,h2,h3⟩:=h;exact⟨b,sh,h1,h2,Ou hk b cs sh ho h3⟩
 |.any,v,_,h=>h|.bool b,v,_,h=>h|.int kd n,v,_,h=>h|.str s,v,_,h=>h|.nilp,v,_,h=>h|.ptr ..,v,_,h=>h|.nils,v,_,h=>h|.sl ..,v,_,h=>h|.emp,v,_,h=>h|.nilm,v,_,h=>h|.map o,v,_,h=>h|.func ..,v,_,h=>h|.nilf,v,_,h=>h|.nili,v,_,h=>h|.raw x,v,_,h=>h|.tok i,v,_,h=>h|.one xs,v,_,h=>h
theorem Hr {σ:Nat→AV}{τ:Nat→List Nat}{k:K}{w:World}(hk:By k.sz σ τ):∀(xs:List AV) (vs:List Value),DF σ xs=true→VRL k w (Ai σ τ xs) vs→VRL k w xs vs
 |[],vs,_,h=>h|x::xs,vs,ho,h=>by simp only[VRL,Ai,DF,zA]at h ho ⊢;obtain⟨v,vs',h1,h2,h3⟩:=h;exact⟨v,vs',h1,CK hk x v ho.1 h2,Hr hk xs vs' ho.2 h3⟩
theorem Ou {σ:Nat→AV}{τ:Nat→List Nat}{k:K}{w:World}(hk:By k.sz σ τ)(b:Nat):∀(xs:List AV) (i:Nat),DF σ xs=true→VRC k w b (Ai σ τ xs) i→VRC k w b xs i
 |[],i,_,h=>h|x::xs,i,ho,h=>by simp only[VRC,Ai,DF,zA]at h ho ⊢;obtain⟨⟨v,h1,h2⟩,h3⟩:=h;exact⟨⟨v,h1,CK hk x v ho.1 h2⟩,Ou hk b xs (i+1) ho.2 h3⟩
end
theorem HR.Mn {k:K}{h:AH}{w:World}(hr:HR k h w)(obj:Obj):HR k h (w.alloc obj)∧Ev k k h h w (w.alloc obj):=by
 have hold:∀b,b<w.heap.size→(w.heap.push obj)[b]?=w.heap[b]?:=fun b hb=>by rw[Array.getElem?_push];rw[if_neg (by omega)]
 have ev:Ev k k h h w (w.alloc obj):=⟨rfl,rfl,rfl,rfl,by rw[World.size_alloc];omega,fun b hb _=>hold b hb,fun b arr e fr hx=>⟨arr,fr,(hold b (Array.getElem?_eq_some_iff.1 hx).1).trans hx,rfl⟩,fun _ _ h=>h,fun _ h=>h,fun o ob b sh h1 h2 _=>⟨o,ob,sh,h1,h2⟩,zI _,fun _ _=>rfl,fun _ _ h=>.inl h⟩;have le:=ev.le hr;exact⟨⟨fun o ob ho=>let⟨b,sh,g1,g2⟩:=hr.obj o ob ho;⟨b,sh,g1,g2.mono le (hold b g2.lt)⟩,hr.inj,hr.nfz,hr.fresh,fun b hf=>by have:=hr.lt b hf;rw[World.size_alloc];omega⟩,ev⟩
theorem Fw {P:Program}{E:Env}{k:K}{h h':AH}{w:World}(hE:Az P E){f:FuncId}{F:Func}(hF:E.fn f=some F){b:Code}(hb:F.body=some b){vs:Array Value}{x:AV}{R:Ending→World→Prop}
 (hc:Calls P f vs w R) (hR:∀e w',R e w'→∃v k',e=.returned v∧VR k' w' x v∧HR k' h' w'∧Ev k k' h h' w w'):CQ P k h w (.ret x) h' ((callFunc f vs).run P w):=by
 refine⟨.enter f vs,w,Fm hE hF hb,.inr ⟨_,.enter f vs,fun caller cs=>?_⟩⟩;obtain⟨e,w',fr,hr,hcm,_,hl⟩:=hc (caller::cs);obtain⟨v,k',rfl,h1,h2,h3⟩:=hR e w' hr;refine⟨k',w',h2,h3,v,h1,Steps.trans hcm (.one (step_leave_returned hl))⟩
def AsHit (P:Program)(f:FuncId)(g:Nat)(hv:Value)(t pt:TypeId):Prop:=
 ∀(c old:Value) (ta:Addr) (w:World),w.cell? ⟨g,0,none⟩=some hv→w.cell? ta=some old→w.frozen? ta=false→c.oneCell'=true→
  Calls P f #[.iface t (.agg #[c]),.iface pt (.pointer (some ta))] w fun ev w'=>ev=.returned (.bool true)∧∃o1 o2 o3 o4,w'=((((w.alloc o1).alloc o2).alloc o3).alloc o4).setCell ta c
def N0:List (TypeId×TypeId)→TypeId→TypeId→Bool
 |[],_,_=>false|(a,b)::r,t,pt=>(Nat.beq a t&&Nat.beq b pt)||N0 r t pt
theorem M3:∀{l:List (TypeId×TypeId)} {t pt:TypeId},N0 l t pt=true→(t,pt)∈l
 |[],_,_,h=>by cases h
 |(a,b)::r,t,pt,h=>by
  simp only[N0,Bool.or_eq_true,zA]at h;rcases h with⟨h1,h2⟩|h
  ·have e1:a=t:=zD h1;have e2:b=pt:=zD h2;subst e1;subst e2;simp
  ·exact zO _ (M3 h)
def Ud (l:List (TypeId×TypeId))(args:List AV)(h:AH):Option (AV×AH):=
 match args with
 |[.iface t (.agg [c]),.iface pt (.ptr o off)]=>bif N0 l t pt&&c.cell then
  match h.get o with
  |some (.cells e cs)=>match CV cs off [c] with
   |some cs'=>some (.bool true,h.set o (some (.cells e cs')))|none=>none
  |_=>none
  else none
 |_=>none
theorem X2 {P:Program}{E:Env}(hE:Az P E){f:FuncId}{F:Func}(hF:E.fn f=some F){b:Code}(hb:F.body=some b){g:Nat}{hv:Value}(hgl:E.glob g=some [.raw hv]){l:List (TypeId×TypeId)}(hl:∀p∈l,AsHit P f g hv p.1 p.2)
 {k:K} {h:AH} {w:World} {args:List AV} {vs:Array Value} {v':AV} {h':AH} (hr:HR k h w) (hg:B3 E k w) (hvs:VRL k w args vs.toList) (hp:Ud l args h=some (v',h')):CQ P k h w (.ret v') h' ((callFunc f vs).run P w):=by
 unfold Ud at hp;split at hp;case h_2=>cases hp
 rename_i t c pt o off;obtain⟨hc,hp⟩:=Al hp;simp only[zA]at hc;split at hp;case h_2=>cases hp
 rename_i e cs hgo;split at hp;case h_2=>cases hp
 rename_i cs' hs;cases hp;simp only[VRL,VR]at hvs;obtain⟨u1,r1,e1,⟨y1,rfl,ys,rfl,cv,r3,e3,h3,rfl⟩,u2,r2,rfl,⟨y2,rfl,b0,sh,hρ,rfl⟩,rfl⟩:=hvs;have ev0:vs = #[.iface t (.agg #[cv]),.iface pt (.pointer (some ⟨b0,sh+off,none⟩))]:=by
  have hys:ys = #[cv]:=by apply Array.ext';simpa using e3
  subst hys;apply Array.ext';simpa using e1
 subst ev0;have hone:cv.oneCell'=true:=h3.G5 hc.2;obtain⟨b',sh',h5,arr,fr,h6,h7,h8,h9,h10⟩:=hr.obj o _ hgo;rw[hρ]at h5;cases h5;obtain⟨s1,s2,s3⟩:=Fg hs;simp only[List.length_cons,List.length_nil]at s1;have hin:sh+off<arr.size:=by omega
 have Cv:w.cell? ⟨b0,sh+off,none⟩=some (arr[sh+off]'hin):=by rw[cell_of_heap h6];exact Array.getElem?_eq_getElem hin
 have hfz:w.frozen? ⟨b0,sh+off,none⟩=false:=FC h6 h10 hin;have hgc:w.cell? ⟨g,0,none⟩=some hv:=by obtain⟨_,q,_⟩:=hg g _ hgl;simp only[VRC,VR]at q;obtain⟨⟨v,q1,q2⟩,_⟩:=q;rw[q1,q2]
 refine Fw hE hF hb (hl _ (M3 hc.1) cv _ _ w hgc Cv hfz hone) ?_;rintro ev w' ⟨rfl,o1,o2,o3,o4,rfl⟩;obtain⟨a1,b1⟩:=hr.Mn o1;obtain⟨a2,b2⟩:=a1.Mn o2;obtain⟨a3,b3⟩:=a2.Mn o3;obtain⟨a4,b4⟩:=a3.Mn o4;have evs:=((b1.trans b2).trans b3).trans b4;have hv4:VRL k ((((w.alloc o1).alloc o2).alloc o3).alloc o4) [c] [cv]:=by simp only[VRL];exact⟨cv,[],rfl,VR.mono (evs.le hr) _ _ h3,rfl⟩
 obtain⟨_,q2,q3⟩:=HR.setCells (P:=P) a4 hgo hρ hs hv4 (by simpa using hone);exact⟨_,k,rfl,by simp[VR],q2,evs.trans q3⟩
end Go.Ab
namespace Go.Ab
open Go Go.Conc
theorem K9 {a:Assume}{C:Checked}{os:Os}{f:FuncId}{r:Reach}{Pre:World→Array Value→Prop}{Post:World→Array Value→Value→World→Prop}
 (own:ownKnob C.prog.godebug=none) (started:os.Started) (noInit:C.prog.inits.idxOf? f=none)
 (witness:∃(w:World) (tape:Tape) (i:Input),w.os=os∧(w.forCall tape i).Shaped C.prog∧i.vars=[]∧Input.okWide C.prog (w.forCall tape i) r w.heap.size f i∧Pre (w.forCall tape i).memory i.args∧
  a.holds C.prog (lone (Frame.enter C.prog f i.args .normal) [] (w.forCall tape i)))
 (contract:∀(w:World) (tape:Tape) (i:Input),w.os=os→(w.forCall tape i).ShapedOpen C.prog→i.vars=[]→Input.okWide C.prog (w.forCall tape i) r w.heap.size f i→Pre (w.forCall tape i).memory i.args→
  a.holds C.prog (lone (Frame.enter C.prog f i.args .normal) [] (w.forCall tape i))→
  Calls C.prog f i.args (w.forCall tape i) fun
   |.returned v,w'=>Post (w.forCall tape i).blind i.args v w'.blind|_,_=>False):ReturnsInLeavingWide a C os f r Pre Post:=by
 refine returnsInLeavingWide_of_good own started witness fun w tape i h1 h2 h3 h4 h5 h6=>?_
 obtain⟨n,v,w',fr,hn,hend,hp⟩:=(contract w tape i h1 h2 h3 h4 h5 h6).done_lone noInit;refine⟨n,lone fr [] w',.done v,w',(runNT C.prog (n+1) (lone (Frame.enter C.prog f i.args .normal) [] (w.forCall tape i)) #[]).2,?_,hn,step_of_runs hn hend,v,rfl,hp,fun said hr=>?_,handedOver_of_lone hn,⟨fun g hg=>?_,rfl⟩,fun j g hg hj=>?_⟩
 ·have:=runNT_fst C.prog (n+1) (lone (Frame.enter C.prog f i.args .normal) [] (w.forCall tape i)) #[];rw[hend]at this;exact Prod.ext this rfl
 ·exact(no_race_of_lone (said:=said) C.prog n _ _ hn (by simp[lone]) rfl).2 hr
 ·simp[lone]at hg
 ·cases j with
  |zero=>exact absurd rfl hj|succ j=>simp[lone]at hg
section
variable {H:Type}{enc:TypeId×Value→H}
theorem Hg {a:Assume}{C:Checked}{os:Os}{f:FuncId}{fn:Func}{s:ChangeSpec}{conds:List PathCond}{apart fresh handsOn again:Bool}{X:World→Array Value→Prop}
 (hX:∀(w w':World) (args:Array Value),w.heap=w'.heap→X w args→X w' args)
 (own:ownKnob C.prog.godebug=none) (started:os.Started) (noInit:C.prog.inits.idxOf? f=none) (hfn:C.prog.funcs[f]?=some fn)
 (witness:∃(w:World) (tape:Tape) (i:Input),w.os=os∧(w.forCall tape i).Shaped C.prog∧i.vars=[]∧Input.okWide C.prog (w.forCall tape i) .any w.heap.size f i∧
  ((s.pre enc C.prog fn conds apart (w.forCall tape i).memory i.args∧X (w.forCall tape i).memory i.args)∧sizedMet enc C.prog fn (OpenSpec.ofChange s) apart (w.forCall tape i).memory i.args)∧a.holds C.prog (lone (Frame.enter C.prog f i.args .normal) [] (w.forCall tape i)))
 (contract:∀(W:World) (base:Nat) (args:Array Value) (ds gs:List (DataW H)) (before:List MemPlace),
  (∀(j:Nat) t v,fn.params[j]?=some t→args[j]?=some v→Value.okWide C.prog W .any base t v)→
  DataW.Whole enc C.prog fn.params.toList s.vars apart W args.toList ds gs before→
  conds.all (PathCond.test C.prog ⟨fn.params.toList,ds,s.plain.varTypes C.prog,gs⟩)=true→
  (DataW.weightsEach C.prog (fn.params.toList++s.plain.varTypes C.prog) (ds++gs)).all (·≤reachBytes)=true→X W args→
  a.holds C.prog (lone (Frame.enter C.prog f args .normal) [] W)→
  Calls C.prog f args W fun e W'=>∃v,e=.returned v∧s.post enc C.prog fn apart fresh handsOn again W args v W') :
 ReturnsInLeavingWide a C os f .any (fun w args=>(s.pre enc C.prog fn conds apart w args∧X w args)∧sizedMet enc C.prog fn (OpenSpec.ofChange s) apart w args) (s.post enc C.prog fn apart fresh handsOn again):=by
 refine K9 own started noInit witness ?_;intro w tape i _ _ _ hok hpre hholds;obtain⟨_,_,_,fn',hfn',_,_,_,_,hval⟩:=hok;have e:fn'=fn:=Option.some.inj (hfn'.symm.trans hfn);subst e;obtain⟨⟨⟨ds,gs,before,hw,hc⟩,hx⟩,hz⟩:=hpre;have hw':=DataW.Whole.of_heap (w':=w.forCall tape i) (by rfl) hw;refine(contract (w.forCall tape i) w.heap.size i.args ds gs before hval hw' hc (hz.weights hw) (hX _ _ _ (by rfl) hx) hholds).mono fun e W' ⟨v,he,hp⟩=>?_
 subst he;exact ChangeSpec.post_blind hp
end
end Go.Ab
namespace Go.Ab
open Go
mutual
def Aw (N:Nat):AV→Bool
 |.ptr o _=>Nat.blt o N|.sl o _ _ _ _=>Nat.blt o N|.map o=>Nat.blt o N|.pptr cs _=>Bq N cs|.psl cs _ _=>Bq N cs|.func (.yield _) _ _=>false|.func _ a b=>Bq N a&&Bq N b|.iface _ x=>Aw N x|.agg cs=>Bq N cs|.tup cs=>Bq N cs|.one xs=>Bq N xs|_=>true
def Bq (N:Nat):List AV→Bool
 |[]=>true|x::xs=>Aw N x&&Bq N xs
end
section
variable {k k':K}{w:World}{N:Nat}
theorem Ba {a b:Nat}(h:Nat.blt a b=true):a<b:=zE h
mutual
theorem VR.low (hs:k'.sz=k.sz)(hρ:∀o,o<N→k'.ρ o=k.ρ o)(hz:∀b,k.fz b→k'.fz b):∀(x:AV) (v:Value),Aw N x=true→VR k w x v→VR k' w x v
 |.any,_,_,_=>by simp only[VR]
 |.bool b,v,_,hv=>by simpa only[VR]using hv
 |.int kd n,v,_,hv=>by simpa only[VR]using hv
 |.str s,v,_,hv=>by simpa only[VR]using hv
 |.nilp,v,_,hv=>by simpa only[VR]using hv
 |.ptr o off,v,hp,hv=>by simp only[VR]at hv ⊢;rw[hρ o (Ba (by simpa only[Aw]using hp))];exact hv
 |.pptr cells off,v,hp,hv=>by simp only[VR]at hv ⊢;simp only[Aw]at hp;obtain⟨b,sh,h1,h2,h3⟩:=hv;exact⟨b,sh,h1,hz _ h2,VRC.low hs hρ hz b cells sh hp h3⟩
 |.nils,v,_,hv=>by simpa only[VR]using hv
 |.sl o off len sz cap,v,hp,hv=>by simp only[VR]at hv ⊢;rw[hρ o (Ba (by simpa only[Aw]using hp))];exact hv
 |.psl cells len cap,v,hp,hv=>by simp only[VR]at hv ⊢;simp only[Aw]at hp;obtain⟨b,sh,c,h1,h2,h3,h4,h5⟩:=hv;exact⟨b,sh,c,h1,h2,h3,hz _ h4,VRC.low hs hρ hz b cells sh hp h5⟩
 |.emp,v,_,hv=>by simpa only[VR]using hv
 |.nilm,v,_,hv=>by simpa only[VR]using hv
 |.map o,v,hp,hv=>by simp only[VR]at hv ⊢;rw[hρ o (Ba (by simpa only[Aw]using hp))];exact hv
 |.func fn first captured,v,hp,hv=>by
  cases fn<;>simp only[VR]at hv ⊢<;>simp only[Aw,zA]at hp
  case yield l=>cases hp
  all_goals
   obtain⟨fs,cs,h1,h2,h3⟩:=hv;exact⟨fs,cs,h1,VRL.low hs hρ hz _ _ hp.1 h2,VRL.low hs hρ hz _ _ hp.2 h3⟩
 |.nilf,v,_,hv=>by simpa only[VR]using hv
 |.iface t x,v,hp,hv=>by simp only[VR]at hv ⊢;simp only[Aw]at hp;obtain⟨y,h1,h2⟩:=hv;exact⟨y,h1,VR.low hs hρ hz _ _ hp h2⟩
 |.nili,v,_,hv=>by simpa only[VR]using hv
 |.agg cs,v,hp,hv=>by simp only[VR]at hv ⊢;simp only[Aw]at hp;obtain⟨vs,h1,h2⟩:=hv;exact⟨vs,h1,VRL.low hs hρ hz _ _ hp h2⟩
 |.tup cs,v,hp,hv=>by simp only[VR]at hv ⊢;simp only[Aw]at hp;obtain⟨vs,h1,h2⟩:=hv;exact⟨vs,h1,VRL.low hs hρ hz _ _ hp h2⟩
 |.raw x,v,_,hv=>by simpa only[VR]using hv
 |.sel i,v,_,hv=>by simp only[VR]at hv ⊢;rw[hs];exact⟨(k.sz.sel i).mono _ _ _ _ v hz (fun _ _=>rfl) hv.1,hv.2⟩
 |.stok i,v,_,hv=>by simp only[VR]at hv ⊢;rw[hs];exact hv
 |.tok i,v,_,hv=>by simp only[VR]at hv ⊢;rw[hs];exact hv
 |.one xs,v,hp,hv=>by simp only[VR]at hv ⊢;simp only[Aw]at hp;exact⟨VRO.low hs hρ hz xs v hp hv.1,hv.2⟩
theorem VRO.low (hs:k'.sz=k.sz)(hρ:∀o,o<N→k'.ρ o=k.ρ o)(hz:∀b,k.fz b→k'.fz b):∀(xs:List AV) (v:Value),Bq N xs=true→VRO k w xs v→VRO k' w xs v
 |[],_,_,hv=>by simp only[VRO]at hv
 |x::xs,v,hp,hv=>by
  simp only[VRO]at hv ⊢;simp only[Bq,zA]at hp;rcases hv with hv|hv
  ·exact .inl (VR.low hs hρ hz x v hp.1 hv)
  ·exact .inr (VRO.low hs hρ hz xs v hp.2 hv)
theorem VRL.low (hs:k'.sz=k.sz)(hρ:∀o,o<N→k'.ρ o=k.ρ o)(hz:∀b,k.fz b→k'.fz b):∀(xs:List AV) (vs:List Value),Bq N xs=true→VRL k w xs vs→VRL k' w xs vs
 |[],vs,_,hv=>by simpa only[VRL]using hv
 |x::xs,vs,hp,hv=>by simp only[VRL]at hv ⊢;simp only[Bq,zA]at hp;obtain⟨v,vs',h1,h2,h3⟩:=hv;exact⟨v,vs',h1,VR.low hs hρ hz x v hp.1 h2,VRL.low hs hρ hz xs vs' hp.2 h3⟩
theorem VRC.low (hs:k'.sz=k.sz)(hρ:∀o,o<N→k'.ρ o=k.ρ o)(hz:∀b,k.fz b→k'.fz b)(b:Nat):∀(xs:List AV) (i:Nat),Bq N xs=true→VRC k w b xs i→VRC k' w b xs i
 |[],i,_,_=>by simp only[VRC]
 |x::xs,i,hp,hv=>by simp only[VRC]at hv ⊢;simp only[Bq,zA]at hp;obtain⟨⟨v,h1,h2⟩,h3⟩:=hv;exact⟨⟨v,h1,VR.low hs hρ hz x v hp.1 h2⟩,VRC.low hs hρ hz b xs (i+1) hp.2 h3⟩
end
theorem KB:∀{l:List AV},Bq N l=true→∀x∈l,Aw N x=true
 |[],_,x,hx=>by cases hx
 |y::ys,hl,x,hx=>by
  simp only[Bq,zA]at hl;rcases zH.1 hx with rfl|hx
  ·exact hl.1
  ·exact KB hl.2 x hx
def C9 (N:Nat):List (AV×AV×Nat)→Bool
 |[]=>true|(x,y,_)::r=>Aw N x&&(Aw N y&&C9 N r)
theorem MR.low (hs:k'.sz=k.sz)(hρ:∀o,o<N→k'.ρ o=k.ρ o)(hz:∀b,k.fz b→k'.fz b):∀{es:List (AV×AV×Nat)} {Ax:List MapEntry},C9 N es=true→MR k w es Ax→MR k' w es Ax
 |[],_,_,hm=>by simpa only[MR]using hm
 |(x,y,n)::r,_,hl,hm=>by simp only[C9,zA]at hl;simp only[MR]at hm ⊢;obtain⟨e,es',h1,h2,h3,h4,h5⟩:=hm;exact⟨e,es',h1,VR.low hs hρ hz _ _ hl.1 h2,VR.low hs hρ hz _ _ hl.2.1 h3,h4,MR.low hs hρ hz hl.2.2 h5⟩
def Lk (N:Nat):AO→Bool
 |.cells _ cs=>Bq N cs|.map es _=>C9 N es|.opq _=>true|.oba _ _=>true|.siter _ _=>true|.dfr _=>true|_=>false
def O7 (c:KC):Prop:=∀i,C9 0 (c.mp i)=true
mutual
theorem ID {M N:Nat}(h:M≤N):∀x:AV,Aw M x=true→Aw N x=true
 |.ptr o _,hp=>by simp only[Aw]at hp ⊢;exact Nat.ble_eq_true_of_le (zM (zE hp) h)
 |.sl o _ _ _ _,hp=>by simp only[Aw]at hp ⊢;exact Nat.ble_eq_true_of_le (zM (zE hp) h)
 |.map o,hp=>by simp only[Aw]at hp ⊢;exact Nat.ble_eq_true_of_le (zM (zE hp) h)
 |.pptr cs _,hp=>by simp only[Aw]at hp ⊢;exact DO h cs hp
 |.psl cs _ _,hp=>by simp only[Aw]at hp ⊢;exact DO h cs hp
 |.func fn a b,hp=>by
  cases fn<;>simp only[Aw,zA]at hp ⊢
  case yield=>cases hp
  all_goals exact⟨DO h a hp.1,DO h b hp.2⟩
 |.iface _ x,hp=>by simp only[Aw]at hp ⊢;exact ID h x hp
 |.agg cs,hp=>by simp only[Aw]at hp ⊢;exact DO h cs hp
 |.tup cs,hp=>by simp only[Aw]at hp ⊢;exact DO h cs hp
 |.one cs,hp=>by simp only[Aw]at hp ⊢;exact DO h cs hp
 |.any,_|.bool _,_|.int _ _,_|.str _,_|.nilp,_|.nils,_|.emp,_|.nilm,_|.nilf,_|.nili,_|.raw _,_|.sel _,_|.tok _,_|.stok _,_=>by simp only[Aw]
theorem DO {M N:Nat}(h:M≤N):∀xs:List AV,Bq M xs=true→Bq N xs=true
 |[],_=>rfl|x::xs,hp=>by simp only[Bq,zA]at hp ⊢;exact⟨ID h x hp.1,DO h xs hp.2⟩
end
theorem KV {M N:Nat}(h:M≤N):∀{es:List (AV×AV×Nat)},C9 M es=true→C9 N es=true
 |[],_=>rfl|(x,y,n)::r,hp=>by simp only[C9,zA]at hp ⊢;exact⟨ID h x hp.1,ID h y hp.2.1,KV h hp.2.2⟩
theorem Jy:∀{es:List (AV×AV×Nat)},C9 N es=true→∀x∈H9 es,Aw N x=true
 |[],_,x,hx=>by cases hx
 |(a,b,n)::r,h,x,hx=>by
  simp only[C9,zA]at h;rcases zH.1 hx with rfl|hx
  ·exact h.1
  ·exact Jy h.2.2 x hx
end
mutual
def AY:AV→Bool
 |.sel _|.tok _|.stok _|.one _=>false|.func (.yield _) _ _=>false|.func _ a b=>BE a&&BE b|.pptr cs _=>BE cs|.psl cs _ _=>BE cs|.iface _ x=>AY x|.agg cs=>BE cs|.tup cs=>BE cs|_=>true
def BE:List AV→Bool
 |[]=>true|x::xs=>AY x&&BE xs
end
section
variable {k k':K}{w:World}{N:Nat}
mutual
theorem VR.bare (hρ:∀o,o<N→k'.ρ o=k.ρ o)(hz:∀b,k.fz b→k'.fz b):∀(x:AV) (v:Value),AY x=true→Aw N x=true→VR k w x v→VR k' w x v
 |.any,_,_,_,_=>by simp only[VR]
 |.bool b,v,_,_,hv=>by simpa only[VR]using hv
 |.int kd n,v,_,_,hv=>by simpa only[VR]using hv
 |.str s,v,_,_,hv=>by simpa only[VR]using hv
 |.nilp,v,_,_,hv=>by simpa only[VR]using hv
 |.ptr o off,v,_,hp,hv=>by simp only[VR]at hv ⊢;rw[hρ o (Ba (by simpa only[Aw]using hp))];exact hv
 |.pptr cells off,v,hb,hp,hv=>by simp only[VR]at hv ⊢;simp only[Aw]at hp;simp only[AY]at hb;obtain⟨b,sh,h1,h2,h3⟩:=hv;exact⟨b,sh,h1,hz _ h2,VRC.bare hρ hz b cells sh hb hp h3⟩
 |.nils,v,_,_,hv=>by simpa only[VR]using hv
 |.sl o off len sz cap,v,_,hp,hv=>by simp only[VR]at hv ⊢;rw[hρ o (Ba (by simpa only[Aw]using hp))];exact hv
 |.psl cells len cap,v,hb,hp,hv=>by simp only[VR]at hv ⊢;simp only[Aw]at hp;simp only[AY]at hb;obtain⟨b,sh,c,h1,h2,h3,h4,h5⟩:=hv;exact⟨b,sh,c,h1,h2,h3,hz _ h4,VRC.bare hρ hz b cells sh hb hp h5⟩
 |.emp,v,_,_,hv=>by simpa only[VR]using hv
 |.nilm,v,_,_,hv=>by simpa only[VR]using hv
 |.map o,v,_,hp,hv=>by simp only[VR]at hv ⊢;rw[hρ o (Ba (by simpa only[Aw]using hp))];exact hv
 |.func fn first captured,v,hb,hp,hv=>by
  cases fn<;>simp only[VR]at hv ⊢<;>simp only[Aw,zA]at hp<;>simp only[AY,zA]at hb
  case yield l=>cases hp
  all_goals
   obtain⟨fs,cs,h1,h2,h3⟩:=hv;exact⟨fs,cs,h1,VRL.bare hρ hz _ _ hb.1 hp.1 h2,VRL.bare hρ hz _ _ hb.2 hp.2 h3⟩
 |.nilf,v,_,_,hv=>by simpa only[VR]using hv
 |.iface t x,v,hb,hp,hv=>by simp only[VR]at hv ⊢;simp only[Aw]at hp;simp only[AY]at hb;obtain⟨y,h1,h2⟩:=hv;exact⟨y,h1,VR.bare hρ hz _ _ hb hp h2⟩
 |.nili,v,_,_,hv=>by simpa only[VR]using hv
 |.agg cs,v,hb,hp,hv=>by simp only[VR]at hv ⊢;simp only[Aw]at hp;simp only[AY]at hb;obtain⟨vs,h1,h2⟩:=hv;exact⟨vs,h1,VRL.bare hρ hz _ _ hb hp h2⟩
 |.tup cs,v,hb,hp,hv=>by simp only[VR]at hv ⊢;simp only[Aw]at hp;simp only[AY]at hb;obtain⟨vs,h1,h2⟩:=hv;exact⟨vs,h1,VRL.bare hρ hz _ _ hb hp h2⟩
 |.raw x,v,_,_,hv=>by simpa only[VR]using hv
 |.sel i,v,hb,_,_=>by simp[AY]at hb
 |.tok i,v,hb,_,_=>by simp[AY]at hb
 |.stok i,v,hb,_,_=>by simp[AY]at hb
 |.one xs,v,hb,_,_=>by simp[AY]at hb
theorem VRL.bare (hρ:∀o,o<N→k'.ρ o=k.ρ o)(hz:∀b,k.fz b→k'.fz b):∀(xs:List AV) (vs:List Value),BE xs=true→Bq N xs=true→VRL k w xs vs→VRL k' w xs vs
 |[],vs,_,_,hv=>by simpa only[VRL]using hv
 |x::xs,vs,hb,hp,hv=>by simp only[VRL]at hv ⊢;simp only[Bq,zA]at hp;simp only[BE,zA]at hb;obtain⟨v,vs',h1,h2,h3⟩:=hv;exact⟨v,vs',h1,VR.bare hρ hz x v hb.1 hp.1 h2,VRL.bare hρ hz xs vs' hb.2 hp.2 h3⟩
theorem VRC.bare (hρ:∀o,o<N→k'.ρ o=k.ρ o)(hz:∀b,k.fz b→k'.fz b)(b:Nat):∀(xs:List AV) (i:Nat),BE xs=true→Bq N xs=true→VRC k w b xs i→VRC k' w b xs i
 |[],i,_,_,_=>by simp only[VRC]
 |x::xs,i,hb,hp,hv=>by simp only[VRC]at hv ⊢;simp only[Bq,zA]at hp;simp only[BE,zA]at hb;obtain⟨⟨v,h1,h2⟩,h3⟩:=hv;exact⟨⟨v,h1,VR.bare hρ hz x v hb.1 hp.1 h2⟩,VRC.bare hρ hz b xs (i+1) hb.2 hp.2 h3⟩
end
def EI:List (AV×AV×Nat)→Bool
 |[]=>true|(x,y,_)::r=>AY x&&(AY y&&EI r)
theorem MR.bare (hρ:∀o,o<N→k'.ρ o=k.ρ o)(hz:∀b,k.fz b→k'.fz b):∀{es:List (AV×AV×Nat)} {Ax:List MapEntry},EI es=true→C9 N es=true→MR k w es Ax→MR k' w es Ax
 |[],_,_,_,hm=>by simpa only[MR]using hm
 |(x,y,n)::r,_,hb,hl,hm=>by simp only[C9,zA]at hl;simp only[EI,zA]at hb;simp only[MR]at hm ⊢;obtain⟨e,es',h1,h2,h3,h4,h5⟩:=hm;exact⟨e,es',h1,VR.bare hρ hz _ _ hb.1 hl.1 h2,VR.bare hρ hz _ _ hb.2.1 hl.2.1 h3,h4,MR.bare hρ hz hb.2.2 hl.2.2 h5⟩
def Wo:AO→Bool
 |.cells _ cs=>BE cs|.map es _=>EI es|_=>false
theorem PF:∀{l:List AV},BE l=true→∀x∈l,AY x=true
 |[],_,x,hx=>by cases hx
 |y::ys,hl,x,hx=>by
  simp only[BE,zA]at hl;rcases zH.1 hx with rfl|hx
  ·exact hl.1
  ·exact PF hl.2 x hx
theorem ObR.bare (hs:k'.sz.sz=k.sz.sz)(hρ:∀o,o<N→k'.ρ o=k.ρ o)(hz:∀b,k.fz b→k'.fz b){b sh:Nat} : ∀{ob:AO},Wo ob=true→Lk N ob=true→ObR k w b sh ob→ObR k' w b sh ob
 |.cells e cs,hb,hl,hO=>by obtain⟨arr,fr,a1,a2,a3,a4,a5⟩:=hO;refine⟨arr,fr,a1,a2,fun i x hi=>?_,by rw[hs];exact a4,a5⟩;obtain⟨v,v1,v2⟩:=a3 i x hi;exact⟨v,v1,VR.bare hρ hz x v (PF hb x (List.mem_of_getElem? hi)) (KB hl x (List.mem_of_getElem? hi)) v2⟩
 |.map es cl,hb,hl,hO=>by obtain⟨h0,Ax,c,h1,h2⟩:=hO;exact⟨h0,Ax,c,h1,MR.bare hρ hz hb hl h2⟩
 |.opq i,hb,_,_=>by cases hb
 |.oba e i,hb,_,_=>by cases hb
 |.siter s p,hb,_,_=>by cases hb
 |.dfr on,hb,_,_=>by cases hb
 |.loop ..,hb,_,_=>by cases hb
end
def Ha (σ:Nat→AV)(τ:Nat→List Nat):List (AV×AV×Nat)→List (AV×AV×Nat)
 |[]=>[]|(x,y,n)::r=>(inst σ τ x,inst σ τ y,n)::Ha σ τ r
def B7 (σ:Nat→AV)(τ:Nat→List Nat)(μ:Nat→List (AV×AV×Nat)):AO→AO
 |.cells e cs=>.cells e (Ai σ τ cs)|.map es c=>.map (Ha σ τ es) c|.opq i=>.map (μ i) 0|.oba e i=>.cells e (H9 (μ i))|x=>x
def G3 (σ:Nat→AV)(τ:Nat→List Nat):List (AV×Bool)→List (AV×Bool)
 |[]=>[]|(x,b)::r=>(inst σ τ x,b)::G3 σ τ r
def Bi (σ:Nat→AV)(τ:Nat→List Nat):AG→AG
 |.ret x=>.ret (inst σ τ x)|.pan ch=>.pan (G3 σ τ ch)
theorem RE {σ:Nat→AV}{τ:Nat→List Nat}{k:K}{w:World}(hk:By k.sz σ τ):∀{es:List (AV×AV×Nat)} {Ax:List MapEntry},MR k w es Ax→MR k w (Ha σ τ es) Ax
 |[],_,h=>h|(x,y,n)::r,_,h=>by simp only[MR,Ha]at h ⊢;obtain⟨e,es',h1,h2,h3,h4,h5⟩:=h;exact⟨e,es',h1,Cp hk x _ h2,Cp hk y _ h3,h4,RE hk h5⟩
def K3 (σ:Nat→AV):List (AV×AV×Nat)→Bool
 |[]=>true|(x,y,_)::r=>B6 σ x&&(B6 σ y&&K3 σ r)
theorem VG {σ:Nat→AV}{τ:Nat→List Nat}{k:K}{w:World}(hk:By k.sz σ τ):∀{es:List (AV×AV×Nat)} {Ax:List MapEntry},K3 σ es=true→MR k w (Ha σ τ es) Ax→MR k w es Ax
 |[],_,_,h=>h|(x,y,n)::r,_,ho,h=>by simp only[MR,Ha]at h ⊢;simp only[K3,zA]at ho;obtain⟨e,es',h1,h2,h3,h4,h5⟩:=h;exact⟨e,es',h1,CK hk x _ ho.1 h2,CK hk y _ ho.2.1 h3,h4,VG hk ho.2.2 h5⟩
def Nh (σ:Nat→AV):AO→Bool
 |.cells _ cs=>DF σ cs|.map es _=>K3 σ es|.opq _=>true|.oba _ _=>true|_=>false
theorem Lv {σ:Nat→AV}{τ:Nat→List Nat} : ∀(cs:List AV) (i:Nat),(Ai σ τ cs)[i]?=(cs[i]?).map (inst σ τ)
 |[],i=>by simp[Ai]
 |x::xs,0=>by simp[Ai]
 |x::xs,i+1=>by simp only[Ai,List.getElem?_cons_succ];exact Lv xs i
theorem GY {σ:Nat→AV}{τ:Nat→List Nat} : ∀(cs:List AV),(Ai σ τ cs).length=cs.length
 |[]=>rfl|x::xs=>by simp only[Ai,List.length_cons,GY xs]
theorem N1 {σ:Nat→AV} : ∀{l:List AV},DF σ l=true→∀x∈l,B6 σ x=true
 |[],_,x,hx=>by cases hx
 |y::ys,hl,x,hx=>by
  simp only[DF,zA]at hl;rcases zH.1 hx with rfl|hx
  ·exact hl.1
  ·exact N1 hl.2 x hx
theorem SE {σ:Nat→AV}{τ:Nat→List Nat}{k:K}{w:World}{b sh:Nat}(hk:By k.sz σ τ):∀{ob:AO},Nh σ ob=true→ObR k w b sh (B7 σ τ k.sz.mp ob)→ObR k w b sh ob
 |.cells e cs,ho,hO=>by obtain⟨arr,fr,a1,a2,a3,a4,a5⟩:=hO;rw[GY]at a2;refine⟨arr,fr,a1,a2,fun i x hi=>?_,a4,a5⟩;obtain⟨v,v1,v2⟩:=a3 i (inst σ τ x) (by rw[Lv,hi];rfl);exact⟨v,v1,CK hk x v (N1 ho x (List.mem_of_getElem? hi)) v2⟩
 |.map es c,ho,hO=>by obtain⟨h0,Ax,cl,h1,h2⟩:=hO;exact⟨h0,Ax,cl,h1,VG hk ho h2⟩
 |.opq i,_,hO=>hO|.oba e i,_,hO=>hO|.siter ..,ho,_=>by cases ho
 |.dfr _,ho,_=>by cases ho
 |.loop ..,ho,_=>by cases ho
theorem RS {σ:Nat→AV}{τ:Nat→List Nat}{k:K}{w:World}{b sh:Nat}(hk:By k.sz σ τ):∀{ob:AO},Nh σ ob=true→ObR k w b sh ob→ObR k w b sh (B7 σ τ k.sz.mp ob)
 |.cells e cs,_,hO=>by
  obtain⟨arr,fr,a1,a2,a3,a4,a5⟩:=hO;refine⟨arr,fr,a1,by rw[GY];exact a2,fun i x hi=>?_,a4,a5⟩;rw[Lv]at hi;cases hc:cs[i]? with
  |none=>rw[hc]at hi;cases hi
  |some y=>rw[hc]at hi;cases hi;obtain⟨v,v1,v2⟩:=a3 i y hc;exact⟨v,v1,Cp hk y v v2⟩
 |.map es c,_,hO=>by obtain⟨h0,Ax,cl,h1,h2⟩:=hO;exact⟨h0,Ax,cl,h1,RE hk h2⟩
 |.opq i,_,hO=>hO|.oba e i,_,hO=>hO|.siter ..,ho,_=>by cases ho
 |.dfr _,ho,_=>by cases ho
 |.loop ..,ho,_=>by cases ho
def fzR (h:AH)(m:Nat):AG→Option AG
 |.ret x=>match fzV h m x with
  |some y=>some (.ret y)|none=>none
 |.pan ch=>bif ch.all (fun p=>DZ p.1) then some (.pan ch) else none
theorem CR.inst {σ:Nat→AV}{τ:Nat→List Nat}{k:K}{w:World}(hk:By k.sz σ τ):∀{ch:List (AV×Bool)} {c:List PanicEntry},CR k w ch c→CR k w (G3 σ τ ch) c
 |[],c,h=>h|(x,r)::rest,c,h=>by simp only[CR,G3]at h ⊢;obtain⟨e,c',h1,h2,h3,h4,h5⟩:=h;exact⟨e,c',h1,Cp hk x _ h2,h3,h4,CR.inst hk h5⟩
theorem CR.bare {k k':K}{w:World}{N:Nat}(hρ:∀o,o<N→k'.ρ o=k.ρ o)(hz:∀b,k.fz b→k'.fz b):∀{ch:List (AV×Bool)} {c:List PanicEntry},ch.all (fun p=>AY p.1&&Aw N p.1)=true→CR k w ch c→CR k' w ch c
 |[],c,_,h=>by simpa only[CR]using h
 |(x,r)::rest,c,hp,h=>by simp only[List.all_cons,zA]at hp;simp only[CR]at h ⊢;obtain⟨e,c',h1,h2,h3,h4,h5⟩:=h;exact⟨e,c',h1,VR.bare hρ hz _ _ hp.1.1 hp.1.2 h2,h3,h4,CR.bare hρ hz (by simpa using hp.2) h5⟩
def AH.Above (h h2:AH)(N:Nat):Prop:=∀o ob,h2.get o=some ob→N≤o∧h.get o=some ob
def M6:AG→Bool
 |.ret x=>AY x&&Aw 0 x|.pan ch=>ch.all (fun p=>AY p.1&&Aw 0 p.1)
def Fl (E:Env):Prop:=∀g cells,E.glob g=some cells→BE cells=true∧Bq 0 cells=true
theorem AdD {P:Program}{E:Env}(hE:Az P E)(hP:B2 P E)(hGb:Fl E){σ:Nat→AV}{τ:Nat→List Nat}(hC:By ⟨P.cellsOf,E.sel,E.tok,E.str,E.mp⟩ σ τ){n m N:Nat}{f:FuncId}{F:Func}(hF:E.fn f=some F){b:Code}(hb:F.body=some b){args:List AV}{hs h1 hx:AH}{rc':RC}{res res':AG}
 (he:ev E n (.run ⟨f,F.ntmps,.normal,none⟩ (Dy 0 args .e) [.code b] []) hs .no=some (res,h1,rc')) (ha:args.length≤F.ntmps) (hl:F.ntmps<B9) (hp:Bq N (Ai σ τ args)=true) (hp2:BE (Ai σ τ args)=true) (hp3:DF σ args=true)
 (hn:hs.next=N) (hid:∀o ob,hs.get o=some ob→o<N∧Lk N (B7 σ τ E.mp ob)=true∧Wo (B7 σ τ E.mp ob)=true∧Nh σ ob=true)
 (hx1:h1.Above hx N) (hxn:h1.next≤hx.next) (hres:fzR hx m res=some res') (hrb:M6 (Bi σ τ res')=true)
 {k:K} {h h':AH} {w:World} (hk:k.sz.sz=P.cellsOf) (hr:HR k h w) (hg:B3 E k w) (hsub:∀o ob,hs.get o=some ob→h.get o=some (B7 σ τ E.mp ob)) (_hnext:N≤h.next)
 (hn':h'.next=h.next) (hget:∀o ob,h'.get o=some ob→(o<N∧(∃ob1,h1.get o=some ob1∧Nh σ ob1=true∧Lk N (B7 σ τ E.mp ob1)=true∧Wo (B7 σ τ E.mp ob1)=true∧∀(k:K) (w:World) (b sh:Nat),ObR k w b sh (B7 σ τ E.mp ob1)→ObR k w b sh ob)∧(hs.get o).isSome=true)∨(h.get o=some ob∧hs.get o=none))
 {vs:Array Value} (hv:VRL k w (Ai σ τ args) vs.toList):CQ P k h w (Bi σ τ res') h' ((callFunc f vs).run P w):=by
 have hPF:=(hE.fn f F hF).1
 let K0:K:=⟨fun j=>if j<N then k.ρ j else none,k.fz,⟨P.cellsOf,E.sel,E.tok,E.str,E.mp⟩⟩
 have hK0:∀o,o<N→K0.ρ o=k.ρ o:=fun o ho=>by show(if o<N then k.ρ o else none)=_;rw[if_pos ho]
 have hC0:By K0.sz σ τ:=hC;have hr0:HR K0 hs w:=by
  refine⟨fun o ob g=>?_,fun o1 o2 ob1 ob2 b s1 s2 g1 g2 q1 q2=>?_,fun o ob b sh g q=>?_,fun o ho=>?_,hr.lt⟩
  ·obtain⟨b,sh,q,ho⟩:=hr.obj o _ (hsub o ob g);exact⟨b,sh,by rw[hK0 o (hid o ob g).1];exact q,SE hC0 (hid o ob g).2.2.2 (ho.bare (k':=K0) hk.symm hK0 (fun _ h=>h) (hid o ob g).2.2.1 (hid o ob g).2.1)⟩
  ·rw[hK0 o1 (hid o1 _ g1).1]at q1;rw[hK0 o2 (hid o2 _ g2).1]at q2;exact hr.inj o1 o2 _ _ b s1 s2 (hsub _ _ g1) (hsub _ _ g2) q1 q2
  ·rw[hK0 o (hid o ob g).1]at q;exact hr.nfz o _ b sh (hsub _ _ g) q
  ·show(if o<N then k.ρ o else none)=none;rw[if_neg (by omega)]
 have hg0:B3 E K0 w:=fun g cells hc=>⟨(hg g cells hc).1,VRC.bare (N:=0) (k:=k) (k':=K0) (fun o ho=>by omega) (fun _ h=>h) g cells 0 (hGb g cells hc).1 (hGb g cells hc).2 (hg g cells hc).2.1,(hg g cells hc).2.2⟩
 have hv0:VRL K0 w args vs.toList:=Hr hC0 _ _ hp3 (VRL.bare (k':=K0) hK0 (fun _ h=>h) _ vs.toList hp2 hp hv);refine⟨.enter f vs,w,Fm hE hF hb,.inr ⟨_,.enter f vs,fun caller cs0=>?_⟩⟩;obtain⟨k1,w1,r1,e1,cs1,fr',a1,s1,q1,q2,q3,q4,F',q5,q6⟩:=ev_ok hE hP n _ _ .no _ h1 rc' he K0 w (Frame.enter P f vs .normal) (caller::cs0) rfl hr0 hg0 ⟨rfl,by simp only[Frame.enter,hPF,Option.map_some,Option.getD_some];exact F6 hv0 ha hl,by simp[Frame.enter,hPF,hb,IR],rfl,rfl,rfl,rfl,.inl rfl⟩ nofun nofun;have hcs1:cs1=caller::cs0:=by
  rcases a1 with⟨_,h⟩|⟨_,_,_,_,_,h,_⟩
  ·exact h
  ·cases h
 subst hcs1;have hk1:∀o,o<N→k1.ρ o=k.ρ o:=fun o ho=>(e1.keep o (by rw[hn];exact ho)).trans (hK0 o ho)
 have same:∀b,b<w.heap.size→(∀o ob sh,hs.get o=some ob→k.ρ o≠some (b,sh))→w1.heap[b]?=w.heap[b]?:=fun b hb hne=>e1.same b hb fun o ob sh g q=>by rw[hK0 o (hid o ob g).1]at q;exact hne o ob sh g q
 let dead:Nat→Prop:=fun b=>b<w.heap.size∧∃o ob sh,hs.get o=some ob∧k.ρ o=some (b,sh)∧h1.get o=none
 let k':K:=⟨k.ρ,fun b=>k.fz b∨dead b∨(w.heap.size≤b∧b<w1.heap.size),k.sz⟩
 have hz:∀b,k1.fz b→k'.fz b:=fun b hf=>by
  by_cases hb:b<w.heap.size
  ·rcases e1.nfz b hb hf with h2|⟨o,ob,sh,g,q⟩
   ·exact .inl h2
   ·have ho:=(hid o ob g).1;rw[hK0 o ho]at q;refine .inr (.inl ⟨hb,o,ob,sh,g,q,?_⟩);cases hg1:h1.get o with
    |none=>rfl|some ob1=>exact absurd hf (r1.nfz o ob1 b sh hg1 (by rw[hk1 o ho];exact q))
  ·exact .inr (.inr ⟨by omega,r1.lt b hf⟩)
 have hup:∀o ob b sh,N≤o→h1.get o=some ob→k1.ρ o=some (b,sh)→k'.fz b:=fun o ob b sh ho g q=>by
  by_cases hb:b<w.heap.size
  ·obtain⟨o',ob',sh',g2,q2⟩:=e1.live o ob b sh g q hb;have ho':=(hid o' ob' g2).1;have q3:k1.ρ o'=some (b,sh'):=e1.rho _ _ q2;rw[hK0 o' ho']at q2;refine .inr (.inl ⟨hb,o',ob',sh',g2,q2,?_⟩);cases hg1:h1.get o' with
   |none=>rfl|some ob1=>have:=r1.inj o o' _ _ _ _ _ g hg1 q q3;omega
  ·exact .inr (.inr ⟨by omega,r1.FL g q⟩)
 have ndead:∀o ob b sh,h.get o=some ob→k.ρ o=some (b,sh)→((hs.get o).isSome=true→(h1.get o).isSome=true)→¬k'.fz b:=fun o ob b sh g q hlv hf=>by
  rcases hf with hf|⟨_,o2,ob2,sh2,g2,q2,g3⟩|⟨hf,_⟩
  ·exact hr.nfz o ob b sh g q hf
  ·have:=hr.inj o o2 _ _ _ _ _ g (hsub _ _ g2) q q2;subst this;have:=hlv (by rw[g2];rfl);rw[g3]at this;cases this
  ·have:=hr.FL g q;omega
 have was:∀{o ob},h'.get o=some ob→∃ob',h.get o=some ob':=fun {o ob} g=>by
  rcases hget o ob g with⟨_,_,g2⟩|⟨g2,_⟩
  ·obtain⟨ob2,g3⟩:=Option.isSome_iff_exists.1 g2;exact⟨_,hsub _ _ g3⟩
  ·exact⟨_,g2⟩
 have le:Le k k' w w1:=⟨rfl,fun _ _ h=>h,fun _ h=>.inl h,fun b hf=>same b (hr.lt b hf) (fun o ob sh g q=>hr.nfz o _ b sh (hsub _ _ g) q hf),e1.shape⟩;have ev:Ev k k' h h' w w1:=by
  refine⟨rfl,e1.os,e1.tape,e1.output,e1.size,fun b hb hno=>same b hb fun o ob sh g q=>hno o _ sh (hsub _ _ g) q,e1.shape,fun _ _ h=>h,fun _ h=>.inl h,fun o ob b sh g q _=>?_,Nat.le_of_eq hn'.symm,fun _ _=>rfl,fun b hb hf=>?_⟩
  ·obtain⟨ob',g2⟩:=was g;exact⟨o,ob',sh,g2,q⟩
  ·rcases hf with hf|⟨_,o2,ob2,sh2,g2,q2,_⟩|⟨hf,_⟩
   ·exact .inl hf
   ·exact .inr ⟨o2,_,sh2,hsub _ _ g2,q2⟩
   ·omega
 have hr':HR k' h' w1:=by
  refine⟨fun o ob g=>?_,fun o1 o2 ob1 ob2 b s1 s2 g1 g2 q1 q2=>?_,fun o ob b sh g q=>?_,fun o ho=>hr.fresh o (by rw[←hn'];exact ho),fun b hf=>?_⟩
  ·rcases hget o ob g with⟨ho,⟨ob1,g1,g8,g6,g7,g5⟩,_⟩|⟨g1,g2⟩
   ·obtain⟨b,sh,q,hO⟩:=r1.obj o ob1 g1;rw[hk1 o ho]at q;refine⟨b,sh,q,?_⟩;have hO2:=RS (k:=k1) (by rw[e1.sz];exact hC0) g8 hO;rw[show k1.sz.mp=E.mp by rw[e1.sz]]at hO2;exact g5 _ _ _ _ (hO2.bare (k':=k') (by show k.sz.sz=k1.sz.sz;rw[e1.sz];exact hk) (fun o ho=>(hk1 o ho).symm) hz g7 g6)
   ·obtain⟨b,sh,q,hO⟩:=hr.obj o ob g1;refine⟨b,sh,q,hO.mono le (same b hO.lt fun o2 ob2 sh2 g3 q3=>?_)⟩;have:=hr.inj o o2 _ _ _ _ _ g1 (hsub _ _ g3) q q3;subst this;rw[g2]at g3;cases g3
  ·obtain⟨_,g3⟩:=was g1;obtain⟨_,g4⟩:=was g2;exact hr.inj _ _ _ _ _ _ _ g3 g4 q1 q2
  ·obtain⟨ob',g3⟩:=was g;refine ndead o ob' b sh g3 q fun hsm=>?_
   rcases hget o ob g with⟨_,⟨ob1,g4,_⟩,_⟩|⟨_,g4⟩
   ·rw[g4];rfl
   ·rw[g4]at hsm;cases hsm
  ·rcases hf with hf|⟨hf,_⟩|hf
   ·have:=hr.lt b hf;have:=e1.size;omega
   ·have:=e1.size;omega
   ·exact hf.2
 let kf:K:=⟨k1.ρ,k'.fz,k1.sz⟩
 have rx:HR k1 hx w1:=⟨fun o ob g=>r1.obj o ob (hx1 o ob g).2,fun o1 o2 ob1 ob2 b s1 s2 g1 g2=>r1.inj o1 o2 ob1 ob2 b s1 s2 (hx1 _ _ g1).2 (hx1 _ _ g2).2,fun o ob b sh g=>r1.nfz o ob b sh (hx1 _ _ g).2,fun o ho=>r1.fresh o (zM hxn ho),r1.lt⟩;have hCf:By kf.sz σ τ:=by show By k1.sz σ τ;rw[e1.sz];exact hC0
 refine⟨k',w1,hr',ev,?_⟩;cases res with
 |ret x=>
  obtain⟨q6,v,q7,q8⟩:=q6;simp only[fzR]at hres;split at hres;case h_2=>cases hres
  rename_i y hy;cases hres;have a2:VR kf w1 y v:=(M9 rx (k':=kf) rfl hz (fun o ob b sh g q=>by obtain⟨ho,g2⟩:=hx1 o ob g;exact hup o ob b sh ho g2 q) m).1 x y v hy q8;have a3:=Cp hCf y v a2;simp only[Bi,M6,zA]at hrb;exact⟨v,VR.bare (N:=0) (k:=kf) (k':=k') (fun o ho=>by omega) (fun _ h=>h) _ _ hrb.1 hrb.2 a3,s1.trans (.one (step_leave_returned ⟨q6,q4,q2,F',by rw[q1];exact q5,q7⟩))⟩
 |pan ch=>
  obtain⟨chain,q6,q7⟩:=q6;simp only[fzR]at hres;cases hc:ch.all (fun p=>DZ p.1) with
  |false=>rw[hc]at hres;cases hres
  |true=>rw[hc]at hres;cases hres;simp only[Bi,M6]at hrb;have a3:CR k1 w1 (G3 σ τ ch) chain:=CR.inst (by rw[e1.sz];exact hC0) q7;exact⟨chain,CR.bare (N:=0) (k:=k1) (k':=k') (fun o ho=>by omega) hz hrb a3,s1.trans (.one (step_leave_panicked ⟨q6,q4,F',by rw[q1];exact q5⟩))⟩
abbrev OL:=List (Nat×AO)
def BZ (N:Nat):OL→AH
 |[]=>⟨.e,N⟩|p::r=>(BZ N r).set p.1 (some p.2)
theorem EG (N:Nat):∀l:OL,(BZ N l).next=N
 |[]=>rfl|_::r=>EG N r
theorem Fv {N:Nat} : ∀{l:OL},(∀p∈l,p.1<BF)→∀{o ob},(BZ N l).get o=some ob→(o,ob)∈l
 |[],_,o,ob,h=>by have:(⟨.e,N⟩:AH).get o=none:=T.Kw _ _;rw[show BZ N []=⟨.e,N⟩ from rfl,this]at h;cases h
 |p::r,hl,o,ob,h=>by
  rw[show BZ N (p::r)=(BZ N r).set p.1 (some p.2) from rfl,AH.BQ _ _ _ _ (hl p (by simp))]at h;by_cases e:o=p.1
  ·rw[if_pos e]at h;cases h;subst e;simp
  ·rw[if_neg e]at h;exact zO _ (Fv (fun q hq=>hl q (zO _ hq)) h)
theorem LV {N:Nat} : ∀{l:OL},(∀p∈l,p.1<BF)→∀{o},(BZ N l).get o=none→o∉l.map (·.1)
 |[],_,o,_=>by simp
 |p::r,hl,o,h=>by
  rw[show BZ N (p::r)=(BZ N r).set p.1 (some p.2) from rfl,AH.BQ _ _ _ _ (hl p (by simp))]at h;by_cases e:o=p.1
  ·rw[if_pos e]at h;cases h
  ·rw[if_neg e]at h;have:=LV (fun q hq=>hl q (zO _ hq)) h;simp only[List.map_cons,zH,not_or];exact⟨e,this⟩
abbrev UL:=List (Nat×Option AO)
def AH.upd (h:AH):UL→AH
 |[]=>h|p::r=>(h.upd r).set p.1 p.2
theorem F8 (h:AH):∀u:UL,(h.upd u).next=h.next
 |[]=>rfl|_::r=>F8 h r
theorem Mq {h:AH} : ∀{u:UL},(∀p∈u,p.1<BF)→∀{o ob},(h.upd u).get o=some ob→(o,some ob)∈u∨(h.get o=some ob∧o∉u.map (·.1))
 |[],_,o,ob,g=>.inr ⟨g,by simp⟩
 |p::r,hl,o,ob,g=>by
  rw[show h.upd (p::r)=(h.upd r).set p.1 p.2 from rfl,AH.BQ _ _ _ _ (hl p (by simp))]at g;by_cases e:o=p.1
  ·rw[if_pos e]at g
   left
   subst e;rw[←g];simp
  ·rw[if_neg e]at g;rcases Mq (fun q hq=>hl q (zO _ hq)) g with g|⟨g,g2⟩
   ·exact .inl (zO _ g)
   ·refine .inr ⟨g,?_⟩;simp only[List.map_cons,zH,not_or];exact⟨e,g2⟩
def eqE:List (AV×AV×Nat)→List (AV×AV×Nat)→Bool
 |[],[]=>true|(a,b,_)::r,(a',b',_)::r'=>GK a a'&&(GK b b'&&eqE r r')|_,_=>false
def eqO:AO→AO→Bool
 |.cells e cs,.cells e' cs'=>Nat.beq e e'&&LQ cs cs'|.map es _,.map es' _=>eqE es es'|.opq i,.opq j=>Nat.beq i j|.oba e i,.oba e' j=>Nat.beq e e'&&Nat.beq i j|_,_=>false
def FA:List (AV×AV×Nat)→List (AV×AV×Nat)
 |[]=>[]|(a,b,_)::r=>(a,b,0)::FA r
theorem Aar:∀{es es':List (AV×AV×Nat)},eqE es es'=true→FA es=FA es'
 |[],[],_=>rfl|[],_::_,he=>by cases he
 |(a,b,n)::r,[],he=>by cases he
 |(a,b,n)::r,(a',b',n')::r',he=>by simp only[eqE,zA,Ea]at he;obtain⟨e1,e2,e3⟩:=he;have e1:=Em _ _ e1;have e2:=Em _ _ e2;subst e1 e2;simp only[FA,Aar e3]
theorem JU {k:K}{w:World} : ∀{es:List (AV×AV×Nat)} {Ax:List MapEntry},MR k w (FA es) Ax↔MR k w es Ax
 |[],_=>Iff.rfl|(a,b,n)::r,Ax=>by
  simp only[FA,MR];constructor
  ·rintro⟨e,es',h1,h2,h3,h4,h5⟩;exact⟨e,es',h1,h2,h3,h4,JU.1 h5⟩
  ·rintro⟨e,es',h1,h2,h3,h4,h5⟩;exact⟨e,es',h1,h2,h3,h4,JU.2 h5⟩
def Pj (x y:AO):Prop:=x=y∨∃es c es' c',x=.map es c∧y=.map es' c'∧FA es=FA es'
theorem S3:∀{x y:AO},eqO x y=true→Pj x y
 |.cells e cs,.cells e' cs',he=>by simp only[eqO,zA,Dp]at he;have e1:=zD he.1;have e2:=Ex _ _ he.2;subst e1 e2;exact .inl rfl
 |.map es c,.map es' c',he=>.inr ⟨es,c,es',c',rfl,rfl,Aar he⟩|.opq i,.opq j,he=>by have:=zD he;subst this;exact .inl rfl
 |.oba e i,.oba e' j,he=>by simp only[eqO,zA]at he;have e1:=zD he.1;have e2:=zD he.2;subst e1 e2;exact .inl rfl
theorem Pj.ok {x y:AO}(h:Pj x y){k:K}{w:World}{b sh:Nat}(hO:ObR k w b sh x):ObR k w b sh y:=by
 rcases h with rfl|⟨es,c,es',c',rfl,rfl,e⟩
 ·exact hO
 ·obtain⟨h0,Ax,cl,h1,h2⟩:=hO;exact⟨h0,Ax,cl,h1,JU.1 (e ▸ JU.2 h2)⟩
theorem eqO_ok {k:K}{w:World}{b sh:Nat}{x y:AO}(he:eqO x y=true)(h:ObR k w b sh x):ObR k w b sh y:=(S3 he).ok h
def eqR:AG→AG→Bool
 |.ret x,.ret y=>GK x y|.pan [(x,false)],.pan [(y,false)]=>GK x y|_,_=>false
theorem eqR_eq:∀{a b:AG},eqR a b=true→a=b:=by
 intro a b h;unfold eqR at h;split at h
 ·rw[Ea]at h;rw[Em _ _ h]
 ·rw[Ea]at h;rw[Em _ _ h]
 ·cases h
def AH.L4 (h:AH):Nat→AH
 |0=>h|n+1=>(h.L4 n).set n none
theorem JJ (h:AH):∀n,(h.L4 n).next=h.next
 |0=>rfl|n+1=>JJ h n
theorem FO (h:AH):∀{n:Nat},n<BF→h.Above (h.L4 n) n
 |0,_,o,ob,g=>⟨Nat.zero_le _,g⟩|n+1,hn,o,ob,g=>by
  rw[show h.L4 (n+1)=(h.L4 n).set n none from rfl,AH.BQ _ _ _ _ (by omega)]at g;by_cases e:o=n
  ·rw[if_pos e]at g;cases g
  ·rw[if_neg e]at g;obtain⟨h1,h2⟩:=FO h (by omega) o ob g;exact⟨by omega,h2⟩
structure Jd (σ:Nat→AV)(τ:Nat→List Nat)(μ:Nat→List (AV×AV×Nat)):Prop where
 plain:∀i,Au (σ i)=true
 cell:∀i,(σ i).cell=true
 byte:∀i,(τ i).all (fun n=>Nat.blt n 256)=true
 mp:∀i,EI (μ i)=true∧C9 0 (μ i)=true
def Sq (P:Program)(σ:Nat→AV)(τ:Nat→List Nat)(μ:Nat→List (AV×AV×Nat))(tok:Nat→Value):KC:=⟨P.cellsOf,fun i=>Oc (σ i),tok,fun i=>SL (τ i),μ⟩
theorem Jd.Ng {P:Program}{σ:Nat→AV}{τ:Nat→List Nat}{μ:Nat→List (AV×AV×Nat)}(h:Jd σ τ μ)(tok:Nat→Value):By (Sq P σ τ μ tok) σ τ:=⟨fun _=>.inr rfl,fun _=>rfl,h.byte⟩
mutual
theorem El:∀x:AV,Au x=true→AY x=true∧∀N,Aw N x=true
 |.ptr ..,h|.sl ..,h|.map _,h|.func ..,h|.sel _,h|.tok _,h|.stok _,h|.one _,h=>by simp[Au]at h
 |.pptr cs _,h=>by simp only[Au]at h;simp only[AY,Aw];exact EP cs h
 |.psl cs _ _,h=>by simp only[Au]at h;simp only[AY,Aw];exact EP cs h
 |.iface _ x,h=>by simp only[Au]at h;simp only[AY,Aw];exact El x h
 |.agg cs,h=>by simp only[Au]at h;simp only[AY,Aw];exact EP cs h
 |.tup cs,h=>by simp only[Au]at h;simp only[AY,Aw];exact EP cs h
 |.any,_|.bool _,_|.int _ _,_|.str _,_|.nilp,_|.nils,_|.emp,_|.nilm,_|.nilf,_|.nili,_|.raw _,_=>by simp only[AY,Aw];exact⟨trivial,fun _=>trivial⟩
theorem EP:∀xs:List AV,Bb xs=true→BE xs=true∧∀N,Bq N xs=true
 |[],_=>⟨rfl,fun _=>rfl⟩
 |x::xs,h=>by simp only[Bb,zA]at h;have a:=El x h.1;have b:=EP xs h.2;simp only[BE,Bq,zA];exact⟨⟨a.1,b.1⟩,fun N=>⟨a.2 N,b.2 N⟩⟩
end
mutual
def DQ:AV→Bool
 |.tok _|.one _=>false|.func (.yield _) _ _=>false|.func _ a b=>BE a&&BE b|.pptr cs _=>Ep cs|.psl cs _ _=>Ep cs|.iface _ x=>DQ x|.agg cs=>Ep cs|.tup cs=>Ep cs|_=>true
def Ep:List AV→Bool
 |[]=>true|x::xs=>DQ x&&Ep xs
end
section
variable {σ:Nat→AV}{τ:Nat→List Nat}{μ:Nat→List (AV×AV×Nat)}(hσ:Jd σ τ μ){N:Nat}
include hσ
mutual
theorem Et:∀x:AV,DQ x=true→Aw N x=true→AY (inst σ τ x)=true∧Aw N (inst σ τ x)=true∧B6 σ x=true
 |.sel i,_,_=>by have a:=El _ (hσ.plain i);simp only[inst,B6,hσ.plain i,hσ.cell i,Bool.and_self];exact⟨a.1,a.2 N,trivial⟩
 |.stok i,_,_=>by simp only[inst,AY,Aw,B6];exact⟨trivial,trivial,trivial⟩
 |.tok i,h,_=>by simp[DQ]at h
 |.one _,h,_=>by simp[DQ]at h
 |.func fn a b,h,h2=>by
  cases fn<;>simp only[DQ]at h<;>simp only[inst,AY,B6]<;>first
   |(cases h;done)
   |exact⟨h,h2,trivial⟩
 |.pptr cs _,h,h2=>by simp only[DQ]at h;simp only[Aw]at h2;simp only[inst,AY,Aw,B6];exact D5 cs h h2
 |.psl cs _ _,h,h2=>by simp only[DQ]at h;simp only[Aw]at h2;simp only[inst,AY,Aw,B6];exact D5 cs h h2
 |.iface _ x,h,h2=>by simp only[DQ]at h;simp only[Aw]at h2;simp only[inst,AY,Aw,B6];exact Et x h h2
 |.agg cs,h,h2=>by simp only[DQ]at h;simp only[Aw]at h2;simp only[inst,AY,Aw,B6];exact D5 cs h h2
 |.tup cs,h,h2=>by simp only[DQ]at h;simp only[Aw]at h2;simp only[inst,AY,Aw,B6];exact D5 cs h h2
 |.ptr o a,_,h2=>by simp only[inst,AY,B6];exact⟨trivial,h2,trivial⟩
 |.sl o a b c d,_,h2=>by simp only[inst,AY,B6];exact⟨trivial,h2,trivial⟩
 |.map o,_,h2=>by simp only[inst,AY,B6];exact⟨trivial,h2,trivial⟩
 |.any,_,_|.bool _,_,_|.int _ _,_,_|.str _,_,_|.nilp,_,_|.nils,_,_|.emp,_,_|.nilm,_,_|.nilf,_,_|.nili,_,_|.raw _,_,_=>by simp only[inst,AY,Aw,B6];exact⟨trivial,trivial,trivial⟩
theorem D5:∀xs:List AV,Ep xs=true→Bq N xs=true→BE (Ai σ τ xs)=true∧Bq N (Ai σ τ xs)=true∧DF σ xs=true
 |[],_,_=>have _:=hσ;⟨rfl,rfl,rfl⟩
 |x::xs,h,h2=>by simp only[Ep,zA]at h;simp only[Bq,zA]at h2;have a:=Et x h.1 h2.1;have b:=D5 xs h.2 h2.2;simp only[Ai,BE,Bq,DF,zA];exact⟨⟨a.1,b.1⟩,⟨a.2.1,b.2.1⟩,a.2.2,b.2.2⟩
end
def Qu:List (AV×AV×Nat)→Bool
 |[]=>true|(x,y,_)::r=>DQ x&&(DQ y&&Qu r)
theorem Rt:∀es:List (AV×AV×Nat),Qu es=true→C9 N es=true→EI (Ha σ τ es)=true∧C9 N (Ha σ τ es)=true∧K3 σ es=true
 |[],_,_=>⟨rfl,rfl,rfl⟩|(x,y,n)::r,h,h2=>by simp only[Qu,zA]at h;simp only[C9,zA]at h2;have a:=Et hσ x h.1 h2.1;have b:=Et hσ y h.2.1 h2.2.1;have c:=Rt r h.2.2 h2.2.2;simp only[Ha,EI,C9,K3,zA];exact⟨⟨a.1,b.1,c.1⟩,⟨a.2.1,b.2.1,c.2.1⟩,a.2.2,b.2.2,c.2.2⟩
omit hσ in
def GQ:AO→Bool
 |.cells _ cs=>Ep cs|.map es _=>Qu es|.opq _=>true|.oba _ _=>true|_=>false
omit hσ in
theorem R2 {es:List (AV×AV×Nat)}(h:EI es=true):BE (H9 es)=true:=by
 induction es with
 |nil=>rfl|cons p r ih=>simp only[EI,zA]at h;show BE (p.1::H9 r)=true;simp only[BE,zA];exact⟨h.1,ih h.2.2⟩
omit hσ in
theorem Tz {N:Nat}{es:List (AV×AV×Nat)}(h:C9 N es=true):Bq N (H9 es)=true:=by
 induction es with
 |nil=>rfl|cons p r ih=>simp only[C9,zA]at h;show Bq N (p.1::H9 r)=true;simp only[Bq,zA];exact⟨h.1,ih h.2.2⟩
theorem Kc:∀ob:AO,GQ ob=true→Lk N ob=true→Wo (B7 σ τ μ ob)=true∧Lk N (B7 σ τ μ ob)=true∧Nh σ ob=true
 |.cells e cs,h,h2=>D5 hσ cs h h2|.map es c,h,h2=>Rt hσ es h h2|.opq i,_,_=>⟨(hσ.mp i).1,KV (Nat.zero_le N) (hσ.mp i).2,rfl⟩|.oba e i,_,_=>⟨R2 (hσ.mp i).1,Tz (KV (Nat.zero_le N) (hσ.mp i).2),rfl⟩|.siter ..,h,_=>by cases h
 |.dfr _,h,_=>by cases h
 |.loop ..,h,_=>by cases h
def Eo:AG→Bool
 |.ret x=>DQ x&&Aw 0 x|.pan ch=>ch.all (fun p=>DQ p.1&&Aw 0 p.1)
theorem Pr:∀ch:List (AV×Bool),ch.all (fun p=>DQ p.1&&Aw 0 p.1)=true→(G3 σ τ ch).all (fun p=>AY p.1&&Aw 0 p.1)=true
 |[],_=>rfl|(x,b)::r,h=>by simp only[List.all_cons,zA]at h;have a:=Et hσ x h.1.1 h.1.2;simp only[G3,List.all_cons,zA];exact⟨⟨a.1,a.2.1⟩,Pr r (by simpa only[zA]using h.2)⟩
theorem Ow:∀r:AG,Eo r=true→M6 (Bi σ τ r)=true
 |.ret x,h=>by simp only[Eo,zA]at h;have a:=Et hσ x h.1 h.2;simp only[Bi,M6,a.1,a.2.1,Bool.and_self]
 |.pan ch,h=>Pr hσ ch h
end
def DD (σ:Nat→AV)(τ:Nat→List Nat)(μ:Nat→List (AV×AV×Nat))(l:OL):OL:=l.map fun p=>(p.1,B7 σ τ μ p.2)
def Dk (σ:Nat→AV)(τ:Nat→List Nat)(μ:Nat→List (AV×AV×Nat))(u:UL):UL:=u.map fun p=>(p.1,p.2.map (B7 σ τ μ))
def OI (h1:AH)(N:Nat):UL→Bool
 |[]=>true|(o,none)::r=>Nat.blt o N&&OI h1 N r|(o,some ob)::r=>Nat.blt o N&&((match h1.get o with
  |some ob1=>GQ ob1&&(Lk N ob1&&eqO ob1 ob)|none=>false)&&OI h1 N r)
def Ic (N:Nat):OL→UL→Bool
 |[],[]=>true|(o,ob)::r,(o',_)::r'=>Nat.beq o o'&&(Nat.blt o N&&(GQ ob&&(Lk N ob&&Ic N r r')))|_,_=>false
theorem K2 {h1:AH}{N:Nat} : ∀{u:UL},OI h1 N u=true→∀{o ob},(o,some ob)∈u→o<N∧∃ob1,h1.get o=some ob1∧GQ ob1=true∧Lk N ob1=true∧eqO ob1 ob=true
 |[],_,o,ob,h=>by cases h
 |(o',none)::r,hu,o,ob,h=>by
  simp only[OI,zA]at hu;rcases zH.1 h with e|e
  ·cases e
  ·exact K2 hu.2 e
 |(o',some ob')::r,hu,o,ob,h=>by
  simp only[OI,zA]at hu;rcases zH.1 h with e|e
  ·cases e;obtain⟨h2,h3,_⟩:=hu;split at h3;case h_2=>cases h3
   rename_i ob1 g;simp only[zA]at h3;exact⟨Ba h2,ob1,g,h3.1,h3.2.1,h3.2.2⟩
  ·exact K2 hu.2.2 e
theorem G6 {N:Nat} : ∀{l:OL} {u:UL},Ic N l u=true→u.map (·.1)=l.map (·.1)∧∀p∈l,p.1<N∧GQ p.2=true∧Lk N p.2=true
 |[],[],_=>⟨rfl,by simp⟩
 |[],_::_,h=>by cases h
 |(_,_)::_,[],h=>by cases h
 |(o,ob)::r,(o',x)::r',h=>by
  simp only[Ic,zA]at h;obtain⟨h1,h2,h5,h3,h4⟩:=h;have e:=zD h1;subst e;obtain⟨i1,i2⟩:=G6 h4;refine⟨by simp[i1],fun p hp=>?_⟩;rcases zH.1 hp with rfl|hp
  ·exact⟨Ba h2,h5,h3⟩
  ·exact i2 p hp
theorem Jv {σ:Nat→AV}{τ:Nat→List Nat} : ∀es:List (AV×AV×Nat),FA (Ha σ τ es)=Ha σ τ (FA es)
 |[]=>rfl|(a,b,n)::r=>by simp only[Ha,FA,Jv r]
theorem Pj.inst {σ:Nat→AV}{τ:Nat→List Nat}{μ:Nat→List (AV×AV×Nat)}{x y:AO}(h:Pj x y):Pj (B7 σ τ μ x) (B7 σ τ μ y):=by
 rcases h with rfl|⟨es,c,es',c',rfl,rfl,e⟩
 ·exact .inl rfl
 ·exact .inr ⟨_,_,_,_,rfl,rfl,by rw[Jv,Jv,e]⟩
def JZ (E:Env)(n m N:Nat)(f:FuncId)(args:List AV)(l:OL)(res:AG)(u:UL):Bool:=
 match E.fn f with
 |some F=>match F.body with
  |some b=>bif Nat.ble args.length F.ntmps&&(Nat.blt F.ntmps B9&&(Ep args&&(Bq N args&&(Nat.blt N BF&&(Ic N l u&&Eo res))))) then
   match evK E n (.run ⟨f,F.ntmps,.normal,none⟩ (Dy 0 args .e) [.code b] []) (BZ N l) .no with
   |some (r,h1,_)=>match fzR (h1.L4 N) m r with
    |some r'=>eqR r' res&&OI h1 N u|none=>false
   |none=>false
   else false
  |none=>false
 |none=>false
def Wh (gl:Nat→Option (List AV))(k:K)(w:World):Prop:=∀g cells,gl g=some cells→k.fz g∧VRC k w g cells 0∧Whole w g cells.length
def Cm (P:Program)(gl:Nat→Option (List AV))(N:Nat)(f:FuncId)(args:List AV)(l:OL)(res:AG)(u:UL):Prop:=
 ∀(k:K) (h:AH) (w:World) (vs:Array Value),k.sz.sz=P.cellsOf→HR k h w→Wh gl k w→(∀p∈l,h.get p.1=some p.2)→N≤h.next→VRL k w args vs.toList→CQ P k h w res (h.upd u) ((callFunc f vs).run P w)
end Go.Ab
end
