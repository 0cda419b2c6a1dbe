/- An evaluator over the model's memory, and its soundness: what it computes of a call is what the call does in the model, whatever the order of evaluation is; no condition. -/
import Derived.Test.YtecmlmofhabonaaGreatDoorIWords
import Derived.Laws.IdiomCopy
import Derived.Lib.Strings
import Derived.Laws.BytesString
import Derived.Lib.UnsafeStr
import Derived.Orders
noncomputable section
namespace Go.Ab
open Go
inductive AV where
 |any
 |bool (b:Bool)
 |int (k:IntKind) (n:Int)
 |str (s:List Nat)
 |nilp
 |ptr (o off:Nat)
 |pptr (cells:List AV) (off:Nat)
 |nils
 |sl (o off len sz:Nat) (cap:Option Nat)
 |psl (cells:List AV) (len:Nat) (cap:Option Nat)
 |emp
 |nilm
 |map (o:Nat)
 |func (fn:Fn) (first captured:List AV)
 |nilf
 |iface (t:TypeId) (v:AV)
 |nili
 |agg (cs:List AV)
 |tup (vs:List AV)
 |raw (v:Value)
 |sel (i:Nat)
 |tok (i:Nat)
 |stok (i:Nat)
 |one (xs:List AV)
 deriving Inhabited
inductive T (α:Type) where
 |e
 |n (l:T α) (v:Option α) (r:T α)
 deriving Inhabited
namespace T
variable {α:Type}
def get (k:Nat):T α→Nat→Option α:=
 Nat.rec (fun _ _=>none) (fun _ ih t=>T.rec (fun _=>none) (fun l v r _ _ i=>Nat.rec v (fun j _=>Nat.rec (ih r (Nat.div j 2)) (fun _ _=>ih l (Nat.div j 2)) (Nat.mod j 2)) i) t) k
noncomputable def KL (k:Nat):T α→Nat→Option α→(T α→T α)→T α:=
 Nat.rec (fun t _ _ c=>c t) (fun _ ih t i a c=>
  T.rec (Nat.rec (c (T.n .e a .e)) (fun j _=>Nat.rec (ih .e (Nat.div j 2) a fun r=>c (T.n .e none r)) (fun _ _=>ih .e (Nat.div j 2) a fun l=>c (T.n l none .e)) (Nat.mod j 2)) i)
   (fun l v r _ _=>Nat.rec (c (T.n l a r)) (fun j _=>Nat.rec (ih r (Nat.div j 2) a fun r=>c (T.n l v r)) (fun _ _=>ih l (Nat.div j 2) a fun l=>c (T.n l v r)) (Nat.mod j 2)) i) t) k
def put (k:Nat)(t:T α)(i:Nat)(a:Option α):T α:=KL k t i a fun t=>t
theorem Un {β:Type}(j:Nat)(x y:β):(Nat.rec x (fun _ _=>y) (Nat.mod j 2):β)=bif Nat.beq ((j+1)%2) 0 then y else x:=by
 rcases Nat.mod_two_eq_zero_or_one j with h|h
 ·have e:(j+1)%2=1:=by omega
  rw[e,show Nat.mod j 2=0 from h];rfl
 ·have e:(j+1)%2=0:=by omega
  rw[e,show Nat.mod j 2=1 from h];rfl
theorem get_se (k i:Nat):get (k+1) (.e:T α) i=none:=rfl
theorem GA (k:Nat)(l r:T α)(v:Option α)(i:Nat):get (k+1) (.n l v r) i=bif Nat.beq i 0 then v else bif Nat.beq (i%2) 0 then get k l (i/2-1) else get k r (i/2):=by
 cases i with
 |zero=>rfl|succ j=>
  have h1:get (k+1) (.n l v r) (j+1)=(Nat.rec (get k r (Nat.div j 2)) (fun _ _=>get k l (Nat.div j 2)) (Nat.mod j 2):Option α):=rfl;rw[h1,Un];simp only[show Nat.beq (j+1) 0=false from rfl,cond_false];rcases Nat.mod_two_eq_zero_or_one j with h|h
  ·have e:(j+1)%2=1:=by omega
   simp only[e,show Nat.beq 1 0=false from rfl,cond_false];rw[show Nat.div j 2=(j+1)/2 from(by show j/2=_;omega)]
  ·have e:(j+1)%2=0:=by omega
   simp only[e,show Nat.beq 0 0=true from rfl,cond_true];rw[show Nat.div j 2=(j+1)/2-1 from(by show j/2=_;omega)]
theorem Q7 (k:Nat):∀(t:T α) (i:Nat) (a:Option α) (c:T α→T α),KL k t i a c=c (put k t i a):=by
 induction k with
 |zero=>intro t i a c;rfl
 |succ k ih=>
  intro t i a c;have d:∀(j:Nat) (f g:T α→T α) (l r:T α),(Nat.rec (KL k r (Nat.div j 2) a fun r=>c (f r)) (fun _ _=>KL k l (Nat.div j 2) a fun l=>c (g l)) (Nat.mod j 2):T α) =
   c (Nat.rec (KL k r (Nat.div j 2) a f) (fun _ _=>KL k l (Nat.div j 2) a g) (Nat.mod j 2):T α):=by
   intro j f g l r;cases Nat.mod j 2 with
   |zero=>show KL k r (Nat.div j 2) a (fun r=>c (f r))=c (KL k r (Nat.div j 2) a f);rw[ih,ih r _ _ f]
   |succ m=>show KL k l (Nat.div j 2) a (fun l=>c (g l))=c (KL k l (Nat.div j 2) a g);rw[ih,ih l _ _ g]
  cases t with
  |e=>cases i with
   |zero=>rfl|succ j=>exact d j (fun r=>T.n .e none r) (fun l=>T.n l none .e) .e .e
  |n l v r=>cases i with
   |zero=>rfl|succ j=>exact d j (fun r=>T.n l v r) (fun l=>T.n l v r) l r
theorem put_se (k i:Nat)(a:Option α):put (k+1) (.e:T α) i a=bif Nat.beq i 0 then .n .e a .e else bif Nat.beq (i%2) 0 then .n (put k .e (i/2-1) a) none .e else .n .e none (put k .e (i/2) a):=by
 cases i with
 |zero=>rfl|succ j=>
  have h1:put (k+1) (.e:T α) (j+1) a=(Nat.rec (KL k .e (Nat.div j 2) a fun r=>T.n .e none r) (fun _ _=>KL k .e (Nat.div j 2) a fun l=>T.n l none .e) (Nat.mod j 2):T α):=rfl;rw[h1,Un,Q7,Q7];simp only[show Nat.beq (j+1) 0=false from rfl,cond_false];rcases Nat.mod_two_eq_zero_or_one j with h|h
  ·have e:(j+1)%2=1:=by omega
   simp only[e,show Nat.beq 1 0=false from rfl,cond_false];rw[show Nat.div j 2=(j+1)/2 from(by show j/2=_;omega)]
  ·have e:(j+1)%2=0:=by omega
   simp only[e,show Nat.beq 0 0=true from rfl,cond_true];rw[show Nat.div j 2=(j+1)/2-1 from(by show j/2=_;omega)]
theorem put_sn (k:Nat)(l r:T α)(v:Option α)(i:Nat)(a:Option α):put (k+1) (.n l v r) i a=bif Nat.beq i 0 then .n l a r else bif Nat.beq (i%2) 0 then .n (put k l (i/2-1) a) v r else .n l v (put k r (i/2) a):=by
 cases i with
 |zero=>rfl|succ j=>
  have h1:put (k+1) (.n l v r) (j+1) a=(Nat.rec (KL k r (Nat.div j 2) a fun r=>T.n l v r) (fun _ _=>KL k l (Nat.div j 2) a fun l=>T.n l v r) (Nat.mod j 2):T α):=rfl;rw[h1,Un,Q7,Q7];simp only[show Nat.beq (j+1) 0=false from rfl,cond_false];rcases Nat.mod_two_eq_zero_or_one j with h|h
  ·have e:(j+1)%2=1:=by omega
   simp only[e,show Nat.beq 1 0=false from rfl,cond_false];rw[show Nat.div j 2=(j+1)/2 from(by show j/2=_;omega)]
  ·have e:(j+1)%2=0:=by omega
   simp only[e,show Nat.beq 0 0=true from rfl,cond_true];rw[show Nat.div j 2=(j+1)/2-1 from(by show j/2=_;omega)]
theorem Kw (k i:Nat):get k (.e:T α) i=none:=by cases k<;>rfl
theorem beq_eq (a b:Nat):Nat.beq a b=decide (a=b):=by
 cases h:Nat.beq a b
 ·have:=Nat.ne_of_beq_eq_false h;simp[this]
 ·have:=zD h;simp[this]
theorem get_put (k:Nat):∀(t:T α) (i j:Nat) (a:Option α),i<2^k-1→j<2^k-1→get k (put k t i a) j=if j=i then a else get k t j:=by
 induction k with
 |zero=>intro t i j a hi;simp at hi
 |succ k ih=>
  intro t i j a hi hj;have h2:2^(k+1)=2*2^k:=by rw[Nat.pow_succ];omega
  rw[h2]at hi hj;cases t with
  |e=>
   simp only[put_se,get_se,beq_eq];by_cases h0:i=0
   ·subst h0;simp only[decide_true,cond_true,GA,beq_eq];by_cases hj0:j=0
    ·simp[hj0]
    ·simp[hj0,Kw]
   ·simp only[h0,decide_false,cond_false];by_cases hp:i%2=0
    ·simp only[hp,decide_true,cond_true,GA,beq_eq];by_cases hj0:j=0
     ·simp[hj0,Ne.symm h0]
     ·by_cases hjp:j%2=0
      ·simp only[hj0,hjp,decide_false,decide_true,cond_true,cond_false];rw[ih _ _ _ _ (by omega) (by omega),Kw];by_cases e:j=i
       ·simp[e]
       ·rw[if_neg e,if_neg (by omega)]
      ·simp only[hj0,hjp,decide_false,cond_false,Kw];rw[if_neg (by intro e;subst e;exact hjp hp)]
    ·simp only[hp,decide_false,cond_false,GA,beq_eq];by_cases hj0:j=0
     ·simp[hj0,Ne.symm h0]
     ·by_cases hjp:j%2=0
      ·simp only[hj0,hjp,decide_false,decide_true,cond_true,cond_false,Kw];rw[if_neg (by intro e;subst e;exact hp hjp)]
      ·simp only[hj0,hjp,decide_false,cond_false];rw[ih _ _ _ _ (by omega) (by omega),Kw];by_cases e:j=i
       ·simp[e]
       ·rw[if_neg e,if_neg (by omega)]
  |n l v r=>
   simp only[put_sn,GA,beq_eq];by_cases h0:i=0
   ·subst h0;simp only[decide_true,cond_true,GA,beq_eq];by_cases hj0:j=0
    ·simp[hj0]
    ·simp[hj0]
   ·simp only[h0,decide_false,cond_false];by_cases hp:i%2=0
    ·simp only[hp,decide_true,cond_true,GA,beq_eq];by_cases hj0:j=0
     ·simp[hj0,Ne.symm h0]
     ·by_cases hjp:j%2=0
      ·simp only[hj0,hjp,decide_false,decide_true,cond_true,cond_false];rw[ih _ _ _ _ (by omega) (by omega)];by_cases e:j=i
       ·simp[e]
       ·rw[if_neg e,if_neg (by omega)]
      ·simp only[hj0,hjp,decide_false,cond_false];rw[if_neg (by intro e;subst e;exact hjp hp)]
    ·simp only[hp,decide_false,cond_false,GA,beq_eq];by_cases hj0:j=0
     ·simp[hj0,Ne.symm h0]
     ·by_cases hjp:j%2=0
      ·simp only[hj0,hjp,decide_false,decide_true,cond_true,cond_false];rw[if_neg (by intro e;subst e;exact hp hjp)]
      ·simp only[hj0,hjp,decide_false,cond_false];rw[ih _ _ _ _ (by omega) (by omega)];by_cases e:j=i
       ·simp[e]
       ·rw[if_neg e,if_neg (by omega)]
end T
inductive AD where
 |call (f:AV) (args:List AV)
 |mark (o:Nat)
 deriving Inhabited
inductive AO where
 |cells (e:TypeId) (cs:List AV)
 |map (es:List (AV×AV×Nat)) (clock:Nat)
 |loop (st:LoopState) (pend:Option Code) (fn:FuncId) (n:Nat) (tmps:T AV) (params:List Nat) (assign body:Code) (dfr:Nat)
 |dfr (on:Bool)
 |siter (s:List Nat) (pos:Nat)
 |opq (i:Nat)
 |oba (e:TypeId) (i:Nat)
 deriving Inhabited
structure AH where
 m:T AO
 next:Nat
 deriving Inhabited
abbrev Jb:Nat:=24
abbrev AE:Nat:=10
def AH.get (h:AH)(o:Nat):Option AO:=T.get Jb h.m o
def AH.set (h:AH)(o:Nat)(x:Option AO):AH:=⟨T.put Jb h.m o x,h.next⟩
structure Opq where
 P:(Nat→Prop)→World→Value→Prop
 mono:∀(fz fz':Nat→Prop) (w w':World) (v:Value),(∀b,fz b→fz' b)→(∀b,fz b→w'.heap[b]?=w.heap[b]?)→P fz w v→P fz' w' v
structure KC where
 sz:TypeId→Nat
 sel:Nat→Opq
 tok:Nat→Value
 str:Nat→ByteArray
 mp:Nat→List (AV×AV×Nat)
structure K where
 ρ:Nat→Option (Nat×Nat)
 fz:Nat→Prop
 sz:KC
mutual
def VR (k:K)(w:World):AV→Value→Prop
 |.any,_=>True|.bool b,v=>v=.bool b|.int kd n,v=>v=.int kd n|.str s,v=>∃b:ByteArray,v=.string b∧b.data.toList.map UInt8.toNat=s|.nilp,v=>v=.pointer none|.ptr o off,v=>∃b sh,k.ρ o=some (b,sh)∧v=.pointer (some ⟨b,sh+off,none⟩)|.pptr cells off,v=>∃b sh,v=.pointer (some ⟨b,sh+off,none⟩)∧k.fz b∧VRC k w b cells sh|.nils,v=>v=.slice none 0 0|.sl o off len sz cap,v=>∃b sh c arr e fr,k.ρ o=some (b,sh)∧v=.slice (some ⟨b,sh+off,none⟩) len c∧len≤c∧(∀n,cap=some n→c=n)∧
  w.heap[b]?=some (.cells arr e fr)∧sh+off+c*sz≤arr.size
 |.psl cells len cap,v=>∃b sh c,v=.slice (some ⟨b,sh,none⟩) len c∧len≤c∧(∀n,cap=some n→c=n)∧k.fz b∧VRC k w b cells sh|.emp,v=>∃a c,v=.slice a 0 c∧(a=none→c=0)|.nilm,v=>v=.map none|.map o,v=>∃b,k.ρ o=some (b,0)∧v=.map (some b)|.func fn first captured,v=>
  match fn with
  |.yield l=>∃b,k.ρ l=some (b,0)∧v=.func (.yield b) #[] #[]∧first=[]∧captured=[]
  |fn=>∃fs cs:Array Value,v=.func fn fs cs∧VRL k w first fs.toList∧VRL k w captured cs.toList
 |.nilf,v=>v=.nilFunc|.iface t x,v=>∃y,v=.iface t y∧VR k w x y|.nili,v=>v=.nilIface|.agg cs,v=>∃vs:Array Value,v=.agg vs∧VRL k w cs vs.toList|.tup cs,v=>∃vs:Array Value,v=.tuple vs∧VRL k w cs vs.toList|.raw x,v=>v=x|.sel i,v=>(k.sz.sel i).P k.fz w v∧v.oneCell'=true|.stok i,v=>v=.string (k.sz.str i)|.tok i,v=>v=k.sz.tok i∧v.oneCell'=true|.one xs,v=>VRO k w xs v∧v.oneCell'=true
def VRO (k:K)(w:World):List AV→Value→Prop
 |[],_=>False|x::xs,v=>VR k w x v∨VRO k w xs v
def VRL (k:K)(w:World):List AV→List Value→Prop
 |[],vs=>vs=[]|x::xs,vs=>∃v vs',vs=v::vs'∧VR k w x v∧VRL k w xs vs'
def VRC (k:K)(w:World)(b:Nat):List AV→Nat→Prop
 |[],_=>True|x::xs,i=>(∃v,w.cell? ⟨b,i,none⟩=some v∧VR k w x v)∧VRC k w b xs (i+1)
end
structure Le (k k':K)(w w':World):Prop where
 sz:k'.sz=k.sz
 rho:∀o p,k.ρ o=some p→k'.ρ o=some p
 fz:∀b,k.fz b→k'.fz b
 same:∀b,k.fz b→w'.heap[b]?=w.heap[b]?
 shape:∀(b:Nat) (arr:Array Value) (e:TypeId) (fr:Nat×Nat),w.heap[b]?=some (Obj.cells arr e fr)→∃(arr':Array Value) (fr':Nat×Nat),w'.heap[b]?=some (Obj.cells arr' e fr')∧arr'.size=arr.size
theorem Le.cell {k k':K}{w w':World}(h:Le k k' w w'){b i:Nat}(hb:k.fz b):w'.cell? ⟨b,i,none⟩=w.cell? ⟨b,i,none⟩:=by simp only[World.cell?,h.same b hb]
mutual
theorem VR.mono {k k':K}{w w':World}(h:Le k k' w w'):∀(x:AV) (v:Value),VR k w x v→VR k' w' x v
 |.any,_,_=>by simp only[VR]
 |.bool b,v,hv=>by simpa only[VR]using hv
 |.int kd n,v,hv=>by simpa only[VR]using hv
 |.str s,v,hv=>by simpa only[VR]using hv
 |.nilp,v,hv=>by simpa only[VR]using hv
 |.ptr o off,v,hv=>by simp only[VR]at hv ⊢;obtain⟨b,sh,h1,h2⟩:=hv;exact⟨b,sh,h.rho _ _ h1,h2⟩
 |.pptr cells off,v,hv=>by simp only[VR]at hv ⊢;obtain⟨b,sh,h1,h2,h3⟩:=hv;exact⟨b,sh,h1,h.fz _ h2,VRC.mono h b h2 cells sh h3⟩
 |.nils,v,hv=>by simpa only[VR]using hv
 |.sl o off len sz cap,v,hv=>by simp only[VR]at hv ⊢;obtain⟨b,sh,c,arr,e,fr,h1,h2,h3,h4,h5,h6⟩:=hv;obtain⟨arr',fr',h7,h8⟩:=h.shape _ _ _ _ h5;exact⟨b,sh,c,arr',e,fr',h.rho _ _ h1,h2,h3,h4,h7,by omega⟩
 |.psl cells len cap,v,hv=>by simp only[VR]at hv ⊢;obtain⟨b,sh,c,h1,h2,h3,h4,h5⟩:=hv;exact⟨b,sh,c,h1,h2,h3,h.fz _ h4,VRC.mono h b h4 cells sh h5⟩
 |.emp,v,hv=>by simpa only[VR]using hv
 |.nilm,v,hv=>by simpa only[VR]using hv
 |.map o,v,hv=>by simp only[VR]at hv ⊢;obtain⟨b,h1,h2⟩:=hv;exact⟨b,h.rho _ _ h1,h2⟩
 |.func fn first captured,v,hv=>by
  cases fn<;>simp only[VR]at hv ⊢
  case yield l=>
   obtain⟨b,h1,h2⟩:=hv;exact⟨b,h.rho _ _ h1,h2⟩
  all_goals
   obtain⟨fs,cs,h1,h2,h3⟩:=hv;exact⟨fs,cs,h1,VRL.mono h _ _ h2,VRL.mono h _ _ h3⟩
 |.nilf,v,hv=>by simpa only[VR]using hv
 |.iface t x,v,hv=>by simp only[VR]at hv ⊢;obtain⟨y,h1,h2⟩:=hv;exact⟨y,h1,VR.mono h _ _ h2⟩
 |.nili,v,hv=>by simpa only[VR]using hv
 |.agg cs,v,hv=>by simp only[VR]at hv ⊢;obtain⟨vs,h1,h2⟩:=hv;exact⟨vs,h1,VRL.mono h _ _ h2⟩
 |.tup cs,v,hv=>by simp only[VR]at hv ⊢;obtain⟨vs,h1,h2⟩:=hv;exact⟨vs,h1,VRL.mono h _ _ h2⟩
 |.raw x,v,hv=>by simpa only[VR]using hv
 |.sel i,v,hv=>by simp only[VR]at hv ⊢;rw[h.sz];exact⟨(k.sz.sel i).mono _ _ _ _ v h.fz h.same hv.1,hv.2⟩
 |.stok i,v,hv=>by simp only[VR]at hv ⊢;rw[h.sz];exact hv
 |.tok i,v,hv=>by simp only[VR]at hv ⊢;rw[h.sz];exact hv
 |.one xs,v,hv=>by simp only[VR]at hv ⊢;exact⟨VRO.mono h xs v hv.1,hv.2⟩
theorem VRO.mono {k k':K}{w w':World}(h:Le k k' w w'):∀(xs:List AV) (v:Value),VRO k w xs v→VRO k' w' xs v
 |[],_,hv=>by simp only[VRO]at hv
 |x::xs,v,hv=>by
  simp only[VRO]at hv ⊢;rcases hv with hv|hv
  ·exact .inl (VR.mono h x v hv)
  ·exact .inr (VRO.mono h xs v hv)
theorem VRL.mono {k k':K}{w w':World}(h:Le k k' w w'):∀(xs:List AV) (vs:List Value),VRL k w xs vs→VRL k' w' xs vs
 |[],vs,hv=>by simpa only[VRL]using hv
 |x::xs,vs,hv=>by simp only[VRL]at hv ⊢;obtain⟨v,vs',h1,h2,h3⟩:=hv;exact⟨v,vs',h1,VR.mono h x v h2,VRL.mono h xs vs' h3⟩
theorem VRC.mono {k k':K}{w w':World}(h:Le k k' w w')(b:Nat)(hb:k.fz b):∀(xs:List AV) (i:Nat),VRC k w b xs i→VRC k' w' b xs i
 |[],i,_=>by simp only[VRC]
 |x::xs,i,hv=>by simp only[VRC]at hv ⊢;obtain⟨⟨v,h1,h2⟩,h3⟩:=hv;exact⟨⟨v,by rw[h.cell hb];exact h1,VR.mono h x v h2⟩,VRC.mono h b hb xs (i+1) h3⟩
end
theorem VRL.length {k:K}{w:World} : ∀{xs:List AV} {vs:List Value},VRL k w xs vs→vs.length=xs.length
 |[],vs,h=>by simp only[VRL]at h;simp[h]
 |x::xs,vs,h=>by simp only[VRL]at h;obtain⟨v,vs',rfl,_,h3⟩:=h;simp[VRL.length h3]
theorem VRL.get {k:K}{w:World} : ∀{xs:List AV} {vs:List Value},VRL k w xs vs→∀(i:Nat) (x:AV),xs[i]?=some x→∃v,vs[i]?=some v∧VR k w x v
 |[],vs,_,i,x,hx=>by simp at hx
 |y::xs,vs,h,i,x,hx=>by
  simp only[VRL]at h;obtain⟨v,vs',rfl,h2,h3⟩:=h;cases i with
  |zero=>simp at hx;subst hx;exact⟨v,by simp,h2⟩
  |succ i=>simp at hx;simpa using VRL.get h3 i x hx
theorem VRL.C1 {k:K}{w:World} : ∀{xs:List AV} {vs:List Value},vs.length=xs.length→(∀(i:Nat) x v,xs[i]?=some x→vs[i]?=some v→VR k w x v)→VRL k w xs vs
 |[],vs,h,_=>by simp only[VRL];exact List.eq_nil_of_length_eq_zero h
 |x::xs,[],h,_=>by simp at h
 |x::xs,v::vs,h,hg=>by simp only[VRL];exact⟨v,vs,rfl,hg 0 x v (by simp) (by simp),VRL.C1 (by simpa using h) fun i x' v' h1 h2=>hg (i+1) x' v' (by simpa using h1) (by simpa using h2)⟩
theorem VRL.append {k:K}{w:World}{xs ys:List AV}{vs us:List Value}(h:VRL k w xs vs)(h':VRL k w ys us):VRL k w (xs++ys) (vs++us):=by
 induction xs generalizing vs with
 |nil=>simp only[VRL]at h;subst h;simpa using h'
 |cons x xs ih=>simp only[VRL]at h;obtain⟨v,vs',rfl,h2,h3⟩:=h;simp only[List.cons_append,VRL];exact⟨v,vs'++us,rfl,h2,ih h3⟩
theorem VRC.get {k:K}{w:World}{b:Nat} : ∀{xs:List AV} {s:Nat},VRC k w b xs s→∀(i:Nat) (x:AV),xs[i]?=some x→∃v,w.cell? ⟨b,s+i,none⟩=some v∧VR k w x v
 |[],s,_,i,x,hx=>by simp at hx
 |y::xs,s,h,i,x,hx=>by
  simp only[VRC]at h;obtain⟨⟨v,h1,h2⟩,h3⟩:=h;cases i with
  |zero=>simp at hx;subst hx;exact⟨v,by simpa using h1,h2⟩
  |succ i=>simp at hx;have:=VRC.get h3 i x hx;rwa[show s+1+i=s+(i+1) by omega]at this
theorem VRC.C1 {k:K}{w:World}{b:Nat} : ∀{xs:List AV} {s:Nat},(∀(i:Nat) x,xs[i]?=some x→∃v,w.cell? ⟨b,s+i,none⟩=some v∧VR k w x v)→VRC k w b xs s
 |[],s,_=>by simp only[VRC]
 |y::xs,s,h=>by
  simp only[VRC];refine⟨?_,VRC.C1 fun i x hx=>?_⟩
  ·simpa using h 0 y (by simp)
  ·have:=h (i+1) x (by simpa using hx);rwa[show s+(i+1)=s+1+i by omega]at this
def AV.cell:AV→Bool
 |.any|.agg _|.tup _=>false|.raw v=>v.oneCell'|_=>true
theorem VR.G5 {k:K}{w:World}{x:AV}{v:Value}(h:VR k w x v)(hx:x.cell=true):v.oneCell'=true:=by
 cases x<;>simp only[AV.cell]at hx<;>simp only[VR]at h
 case any=>cases hx
 case agg=>cases hx
 case tup=>cases hx
 case func fn f c=>
  cases fn<;>simp only at h
  case yield=>obtain⟨b,_,h,_⟩:=h;subst h;rfl
  all_goals obtain⟨_,_,h,_⟩:=h;subst h;rfl
 case raw=>subst h;exact hx
 case sel=>exact h.2
 case tok=>exact h.2
 case one=>exact h.2
 case str=>obtain⟨_,h,_⟩:=h;subst h;rfl
 case ptr=>obtain⟨_,_,_,h⟩:=h;subst h;rfl
 case pptr=>obtain⟨_,_,h,_⟩:=h;subst h;rfl
 case sl=>obtain⟨_,_,_,_,_,_,_,h,_⟩:=h;subst h;rfl
 case psl=>obtain⟨_,_,_,h,_⟩:=h;subst h;rfl
 case emp=>obtain⟨_,_,h,_⟩:=h;subst h;rfl
 case map=>obtain⟨_,_,h⟩:=h;subst h;rfl
 case iface=>obtain⟨_,h,_⟩:=h;subst h;rfl
 all_goals subst h;rfl
def AV.cells:AV→List AV
 |.agg cs=>cs|v=>[v]
theorem VR.cells {k:K}{w:World}{x:AV}{v:Value}(h:VR k w x v)(hx:x.cells.all AV.cell=true):VRL k w x.cells v.cells.toList∧∀u∈v.cells.toList,u.oneCell'=true:=by
 have key:∀{xs:List AV} {vs:List Value},VRL k w xs vs→xs.all AV.cell=true→∀u∈vs,u.oneCell'=true:=by
  intro xs
  induction xs with
  |nil=>intro vs h _ u hu;simp only[VRL]at h;subst h;simp at hu
  |cons y ys ih=>
   intro vs h hc u hu;simp only[VRL]at h;obtain⟨v',vs',rfl,h2,h3⟩:=h;simp only[List.all_cons,zA]at hc;rcases zH.1 hu with rfl|hu
   ·exact h2.G5 hc.1
   ·exact ih h3 hc.2 u hu
 by_cases hagg:∃cs,x=.agg cs
 ·obtain⟨cs,rfl⟩:=hagg;simp only[VR]at h;obtain⟨vs,rfl,h2⟩:=h;simp only[AV.cells,Value.cells]at *;exact⟨h2,key h2 hx⟩
 ·have hc:x.cells=[x]:=by cases x<;>first|rfl|(exact absurd ⟨_,rfl⟩ hagg)
  rw[hc]at hx ⊢;simp only[List.all_cons,List.all_nil,Bool.and_true]at hx;have h1:=h.G5 hx;have hv:v.cells = #[v]:=by cases v<;>first|rfl|(simp[Value.oneCell']at h1)
  rw[hv];refine⟨?_,?_⟩
  ·simp only[VRL];exact⟨v,[],rfl,h,rfl⟩
  ·intro u hu;simp at hu;subst hu;exact h1
def TR (k:K)(w:World)(n:Nat)(t:T AV)(tmps:Array Value):Prop:=
 tmps.size=n∧∀i,VR k w ((T.get AE t i).getD (.tup [])) (tmps.getD i undef)
def MR (k:K)(w:World):List (AV×AV×Nat)→List MapEntry→Prop
 |[],es=>es=[]|(x,y,_)::r,es=>∃e es',es=e::es'∧VR k w x e.key∧VR k w y e.val∧True∧MR k w r es'
def H9 (es:List (AV×AV×Nat)):List AV:=es.map (·.1)
def ObR (k:K)(w:World)(b sh:Nat):AO→Prop
 |.oba e i=>∃(arr:Array Value) (fr:Nat×Nat),w.heap[b]?=some (.cells arr e fr)∧sh+(H9 (k.sz.mp i)).length≤arr.size∧(∀(j:Nat) (x:AV),(H9 (k.sz.mp i))[j]?=some x→∃v,arr[sh+j]?=some v∧VR k w x v)∧sh%k.sz.sz e=0∧(fr.2=0∨arr.size≤fr.1)|.cells e cs=>∃(arr:Array Value) (fr:Nat×Nat),w.heap[b]?=some (.cells arr e fr)∧sh+cs.length≤arr.size∧(∀(i:Nat) (x:AV),cs[i]?=some x→∃v,arr[sh+i]?=some v∧VR k w x v)∧sh%k.sz.sz e=0∧(fr.2=0∨arr.size≤fr.1)|.map es _=>sh=0∧∃(Ax:Array MapEntry) (cl:Nat),w.heap[b]?=some (.map Ax cl)∧MR k w es Ax.toList|.loop st pend fn n tmps params assign body d=>sh=0∧∃(l:Loop) (db:Nat),w.heap[b]?=some (.loop l)∧l.state=st∧l.pending=pend∧l.fn=fn∧l.params.toList=params∧
  l.assign=assign∧l.body=body∧TR k w n tmps l.tmps∧k.ρ d=some (db,0)∧l.defers=db
 |.dfr on=>sh=0∧w.heap[b]?=some (.deferred (if on then some [] else none))
 |.siter s pos=>sh=0∧∃bs:ByteArray,w.heap[b]?=some (.stringIter bs pos)∧bs.data.toList.map UInt8.toNat=s|.opq i=>sh=0∧∃(Ax:Array MapEntry) (cl:Nat),w.heap[b]?=some (.map Ax cl)∧MR k w (k.sz.mp i) Ax.toList
structure HR (k:K)(h:AH)(w:World):Prop where
 obj:∀o ob,h.get o=some ob→∃b sh,k.ρ o=some (b,sh)∧ObR k w b sh ob
 inj:∀o₁ o₂ ob₁ ob₂ b s₁ s₂,h.get o₁=some ob₁→h.get o₂=some ob₂→k.ρ o₁=some (b,s₁)→k.ρ o₂=some (b,s₂)→o₁=o₂
 nfz:∀o ob b sh,h.get o=some ob→k.ρ o=some (b,sh)→¬k.fz b
 fresh:∀o,h.next≤o→k.ρ o=none
 lt:∀b,k.fz b→b<w.heap.size
structure Ev (k k':K)(h h':AH)(w w':World):Prop where
 sz:k'.sz=k.sz
 os:w'.os=w.os
 tape:w'.tape=w.tape
 output:w'.output=w.output
 size:w.heap.size≤w'.heap.size
 same:∀b,b<w.heap.size→(∀o ob sh,h.get o=some ob→k.ρ o≠some (b,sh))→w'.heap[b]?=w.heap[b]?
 shape:∀(b:Nat) (arr:Array Value) (e:TypeId) (fr:Nat×Nat),w.heap[b]?=some (Obj.cells arr e fr)→∃(arr':Array Value) (fr':Nat×Nat),w'.heap[b]?=some (Obj.cells arr' e fr')∧arr'.size=arr.size
 rho:∀o p,k.ρ o=some p→k'.ρ o=some p
 fz:∀b,k.fz b→k'.fz b
 live:∀o ob b sh,h'.get o=some ob→k'.ρ o=some (b,sh)→b<w.heap.size→∃o' ob' sh',h.get o'=some ob'∧k.ρ o'=some (b,sh')
 next:h.next≤h'.next
 keep:∀o,o<h.next→k'.ρ o=k.ρ o
 nfz:∀b,b<w.heap.size→k'.fz b→k.fz b∨∃o ob sh,h.get o=some ob∧k.ρ o=some (b,sh)
theorem Ev.refl (k:K)(h:AH)(w:World):Ev k k h h w w:=
 ⟨rfl,rfl,rfl,rfl,zI _,fun _ _ _=>rfl,fun _ _ _ _ h=>⟨_,_,h,rfl⟩,fun _ _ h=>h,fun _ h=>h,fun o ob _ sh h1 h2 _=>⟨o,ob,sh,h1,h2⟩,zI _,fun _ _=>rfl,fun _ _ h=>.inl h⟩
theorem Ev.le {k k':K}{h h':AH}{w w':World}(e:Ev k k' h h' w w')(hr:HR k h w):Le k k' w w':=
 ⟨e.sz,e.rho,e.fz,fun b hb=>e.same b (hr.lt b hb) fun o ob sh h1 h2=>hr.nfz o ob b sh h1 h2 hb,e.shape⟩
theorem Ev.trans {k k' k'':K}{h h' h'':AH}{w w' w'':World}(e:Ev k k' h h' w w')(f:Ev k' k'' h' h'' w' w''):Ev k k'' h h'' w w'':=by
 refine⟨f.sz.trans e.sz,f.os.trans e.os,f.tape.trans e.tape,f.output.trans e.output,zM e.size f.size,fun b hb hn=>?_,fun b arr el fr hx=>?_,fun o p hp=>f.rho _ _ (e.rho _ _ hp),
  fun b hb=>f.fz _ (e.fz _ hb),fun o ob b sh h1 h2 hb=>?_,zM e.next f.next,fun o ho=>(f.keep o (Nat.lt_of_lt_of_le ho e.next)).trans (e.keep o ho),fun b hb hf=>?_⟩
 ·rw[f.same b (Nat.lt_of_lt_of_le hb e.size) fun o ob sh h1 h2=>?_,e.same b hb hn];obtain⟨o',ob',sh',h3,h4⟩:=e.live o ob b sh h1 h2 hb;exact hn o' ob' sh' h3 h4
 ·obtain⟨a1,f1,h1,h2⟩:=e.shape _ _ _ _ hx;obtain⟨a2,f2,h3,h4⟩:=f.shape _ _ _ _ h1;exact⟨a2,f2,h3,h4.trans h2⟩
 ·obtain⟨o',ob',sh',h3,h4⟩:=f.live o ob b sh h1 h2 (Nat.lt_of_lt_of_le hb e.size);exact e.live o' ob' b sh' h3 h4 hb
 ·rcases f.nfz b (Nat.lt_of_lt_of_le hb e.size) hf with h1|⟨o,ob,sh,h1,h2⟩
  ·exact e.nfz b hb h1
  ·exact .inr (e.live o ob b sh h1 h2 hb)
theorem T.Qb {α:Type}(k:Nat):∀(t:T α) (i:Nat),2^k-1≤i→T.get k t i=none:=by
 induction k with
 |zero=>intro t i _;rfl
 |succ k ih=>
  intro t i hi;have h2:2^(k+1)=2*2^k:=by rw[Nat.pow_succ];omega
  have h1:1≤2^k:=Nat.one_le_two_pow;rw[h2]at hi;cases t with
  |e=>rfl|n l v r=>
   simp only[T.GA,T.beq_eq];have h0:i≠0:=by omega
   simp only[h0,decide_false,cond_false];by_cases hp:i%2=0
   ·simp only[hp,decide_true,cond_true];exact ih _ _ (by omega)
   ·simp only[hp,decide_false,cond_false];exact ih _ _ (by omega)
theorem T.Ds {α:Type}(k:Nat)(t:T α)(i j:Nat)(a:Option α)(hi:i<2^k-1):T.get k (T.put k t i a) j=if j=i then a else T.get k t j:=by
 by_cases hj:j<2^k-1
 ·exact T.get_put k t i j a hi hj
 ·rw[T.Qb k _ j (by omega),T.Qb k _ j (by omega),if_neg (by omega)]
abbrev BF:Nat:=16777215
abbrev B9:Nat:=1023
theorem AH.BQ (h:AH)(o j:Nat)(x:Option AO)(ho:o<BF):(h.set o x).get j=if j=o then x else h.get j:=
 T.Ds 24 h.m o j x (by simpa using ho)
theorem AH.Gg {h:AH}{o:Nat}{x:AO}(hg:h.get o=some x):o<BF:=by
 by_cases hl:o<BF
 ·exact hl
 ·have:=T.Qb 24 h.m o (by simp at hl;simpa using hl);simp[AH.get,this]at hg
theorem TR.mono {k k':K}{w w':World}(h:Le k k' w w'){n:Nat}{t:T AV}{a:Array Value}(ht:TR k w n t a):TR k' w' n t a:=
 ⟨ht.1,fun i=>VR.mono h _ _ (ht.2 i)⟩
theorem MR.mono {k k':K}{w w':World}(h:Le k k' w w'):∀{es:List (AV×AV×Nat)} {Ax:List MapEntry},MR k w es Ax→MR k' w' es Ax
 |[],_,hm=>hm|(x,y,n)::r,_,hm=>by obtain⟨e,es',h1,h2,h3,h4,h5⟩:=hm;exact⟨e,es',h1,VR.mono h _ _ h2,VR.mono h _ _ h3,h4,MR.mono h h5⟩
theorem ObR.mono {k k':K}{w w':World}(h:Le k k' w w'){b sh:Nat}(hb:w'.heap[b]?=w.heap[b]?):∀{ob:AO},ObR k w b sh ob→ObR k' w' b sh ob
 |.cells e cs,ho=>by obtain⟨arr,fr,h1,h2,h3,h6,h7⟩:=ho;exact⟨arr,fr,hb.trans h1,h2,(fun i x hx=>let⟨v,h4,h5⟩:=h3 i x hx;⟨v,h4,VR.mono h _ _ h5⟩),by rw[h.sz];exact h6,h7⟩
 |.map es clock,ho=>by obtain⟨h0,Ax,cl,h1,h2⟩:=ho;exact⟨h0,Ax,cl,hb.trans h1,MR.mono h h2⟩
 |.loop st pend fn n tmps params assign body d,ho=>by obtain⟨h0,l,db,h1,h2,h3,h4,h5,h6,h7,h8,h9,h10⟩:=ho;exact⟨h0,l,db,hb.trans h1,h2,h3,h4,h5,h6,h7,h8.mono h,h.rho _ _ h9,h10⟩
 |.dfr on,ho=>⟨ho.1,hb.trans ho.2⟩|.siter s pos,ho=>by obtain⟨h0,bs,h1,h2⟩:=ho;exact⟨h0,bs,hb.trans h1,h2⟩
 |.oba e i,ho=>by obtain⟨arr,fr,h1,h2,h3,h6,h7⟩:=ho;exact⟨arr,fr,hb.trans h1,by rw[h.sz];exact h2,(fun j x hx=>let⟨v,h4,h5⟩:=h3 j x (by rw[h.sz]at hx;exact hx);⟨v,h4,VR.mono h _ _ h5⟩),by rw[h.sz];exact h6,h7⟩
 |.opq i,ho=>by obtain⟨h0,Ax,cl,h1,h2⟩:=ho;exact⟨h0,Ax,cl,hb.trans h1,by rw[h.sz];exact MR.mono h h2⟩
theorem ObR.lt {k:K}{w:World}{b sh:Nat}{ob:AO}(h:ObR k w b sh ob):b<w.heap.size:=by
 have key:∀{x:Obj},w.heap[b]?=some x→b<w.heap.size:=fun hx=>(Array.getElem?_eq_some_iff.1 hx).1
 cases ob with
 |cells e cs=>obtain⟨arr,fr,h1,_⟩:=h;exact key h1
 |map es c=>obtain⟨_,e,_,h1,_⟩:=h;exact key h1
 |loop=>obtain⟨_,l,d,h1,_⟩:=h;exact key h1
 |dfr on=>exact key h.2|siter s p=>obtain⟨_,l,h1,_⟩:=h;exact key h1
 |opq i=>obtain⟨_,e,_,h1,_⟩:=h;exact key h1
 |oba e i=>obtain⟨arr,fr,h1,_⟩:=h;exact key h1
theorem HR.FL {k:K}{h:AH}{w:World}(hr:HR k h w){o:Nat}{ob:AO}{b sh:Nat}(hg:h.get o=some ob)(hρ:k.ρ o=some (b,sh)):b<w.heap.size:=by obtain⟨b',sh',h1,h2⟩:=hr.obj o ob hg;rw[hρ]at h1;cases h1;exact h2.lt
theorem HR.write {k:K}{h:AH}{w w':World}(hr:HR k h w){o:Nat}{ob ob':AO}{b sh:Nat}(hg:h.get o=some ob)(hρ:k.ρ o=some (b,sh))
 (hos:w'.os=w.os) (htape:w'.tape=w.tape) (hout:w'.output=w.output) (hsize:w'.heap.size=w.heap.size)
 (hsame:∀b',b'≠b→w'.heap[b']?=w.heap[b']?)
 (hshape:∀(arr:Array Value) (e:TypeId) (fr:Nat×Nat),w.heap[b]?=some (Obj.cells arr e fr)→∃(arr':Array Value) (fr':Nat×Nat),w'.heap[b]?=some (Obj.cells arr' e fr')∧arr'.size=arr.size)
 (hob:Le k k w w'→ObR k w' b sh ob') :
 HR k (h.set o (some ob')) w'∧Ev k k h (h.set o (some ob')) w w':=by
 have ho:=AH.Gg hg;have ev:Ev k k h (h.set o (some ob')) w w':=by
  refine⟨rfl,hos,htape,hout,by omega,fun b' _ hn=>hsame b' fun e=>hn o ob sh hg (e ▸ hρ),fun b' arr e fr hx=>?_,fun _ _ h=>h,fun _ h=>h,fun o' ob1 b' sh' h1 h2 _=>?_,zI _,fun _ _=>rfl,fun _ _ h=>.inl h⟩
  ·by_cases e':b'=b
   ·subst e';exact hshape arr e fr hx
   ·exact⟨arr,fr,(hsame b' e').trans hx,rfl⟩
  ·rw[AH.BQ h o o' _ ho]at h1;by_cases e':o'=o
   ·subst e';exact⟨o',ob,sh',hg,h2⟩
   ·rw[if_neg e']at h1;exact⟨o',ob1,sh',h1,h2⟩
 have le:=ev.le hr;have back:∀{o':Nat} {ob1:AO},(h.set o (some ob')).get o'=some ob1→∃ob2,h.get o'=some ob2:=by
  intro o' ob1 h1;rw[AH.BQ h o o' _ ho]at h1;by_cases e':o'=o
  ·subst e';exact⟨_,hg⟩
  ·rw[if_neg e']at h1;exact⟨_,h1⟩
 refine⟨⟨fun o' ob1 h1=>?_,fun o1 o2 ob1 ob2 b' s1 s2 h1 h2 h3 h4=>?_,fun o' ob1 b' sh' h1 h2=>?_,hr.fresh,fun b' hb'=>by rw[hsize];exact hr.lt b' hb'⟩,ev⟩
 ·rw[AH.BQ h o o' _ ho]at h1;by_cases e':o'=o
  ·subst e';rw[if_pos rfl]at h1;cases h1;exact⟨b,sh,hρ,hob le⟩
  ·rw[if_neg e']at h1;obtain⟨b1,sh1,h2,h3⟩:=hr.obj o' ob1 h1;have hne:b1≠b:=by intro e;subst e;exact e' (hr.inj o' o ob1 ob b1 sh1 sh h1 hg h2 hρ)
   exact⟨b1,sh1,h2,h3.mono le (hsame b1 hne)⟩
 ·obtain⟨ob1',h1'⟩:=back h1;obtain⟨ob2',h2'⟩:=back h2;exact hr.inj o1 o2 _ _ b' s1 s2 h1' h2' h3 h4
 ·obtain⟨ob1',h1'⟩:=back h1;exact hr.nfz o' _ b' sh' h1' h2
theorem HR.kill {k:K}{h:AH}{w:World}(hr:HR k h w)(o:Nat)(ho:o<BF):HR k (h.set o none) w∧Ev k k h (h.set o none) w w:=by
 have back:∀{o':Nat} {ob1:AO},(h.set o none).get o'=some ob1→h.get o'=some ob1:=by
  intro o' ob1 h1;rw[AH.BQ h o o' _ ho]at h1;by_cases e':o'=o
  ·rw[if_pos e']at h1;cases h1
  ·rwa[if_neg e']at h1
 refine⟨⟨fun o' ob1 h1=>hr.obj o' ob1 (back h1),fun o1 o2 ob1 ob2 b' s1 s2 h1 h2=>hr.inj o1 o2 _ _ b' s1 s2 (back h1) (back h2),fun o' ob1 b' sh' h1=>hr.nfz o' _ b' sh' (back h1),hr.fresh,hr.lt⟩,?_⟩;exact⟨rfl,rfl,rfl,rfl,zI _,fun _ _ _=>rfl,fun b arr e fr hx=>⟨arr,fr,hx,rfl⟩,fun _ _ h=>h,fun _ h=>h,fun o' ob1 b' sh' h1 h2 _=>⟨o',ob1,sh',back h1,h2⟩,zI _,fun _ _=>rfl,fun _ _ h=>.inl h⟩
def AH.alloc (h:AH)(x:AO):Option (Nat×AH):=
 bif Nat.blt h.next BF then some (h.next,⟨T.put Jb h.m h.next (some x),h.next+1⟩) else none
theorem AH.XK {h h':AH}{x:AO}{o:Nat}(ha:h.alloc x=some (o,h')):h'.get o=some x:=by
 unfold AH.alloc at ha;cases hlt:Nat.blt h.next BF with
 |false=>rw[hlt]at ha;cases ha
 |true=>rw[hlt]at ha;simp only[cond_true,zC,zG]at ha;obtain⟨rfl,rfl⟩:=ha;have hlt':h.next<BF:=zE hlt;have:=T.Ds 24 h.m h.next h.next (some x) (by simpa using hlt');rw[if_pos rfl]at this;exact this
def K.with (k:K)(o b:Nat):K:=⟨fun x=>if x=o then some (b,0) else k.ρ x,k.fz,k.sz⟩
theorem K.BJ (k:K)(o b:Nat):(k.with o b).ρ o=some (b,0):=by simp[K.with]
theorem HR.alloc {k:K}{h h':AH}{w:World}(hr:HR k h w){o:Nat}{ob:AO}(ha:h.alloc ob=some (o,h'))(obj:Obj)(d:Nat)
 (hob:Le k (k.with o w.heap.size) w { w with heap:=w.heap.push obj,drawn:=d }→ObR (k.with o w.heap.size) { w with heap:=w.heap.push obj,drawn:=d } w.heap.size 0 ob) :
 HR (k.with o w.heap.size) h' { w with heap:=w.heap.push obj,drawn:=d }∧Ev k (k.with o w.heap.size) h h' w { w with heap:=w.heap.push obj,drawn:=d }∧o=h.next∧k.ρ o=none:=by
 unfold AH.alloc at ha;cases hlt:Nat.blt h.next BF with
 |false=>rw[hlt]at ha;cases ha
 |true=>
  rw[hlt]at ha;simp only[cond_true,zC,zG]at ha;obtain⟨rfl,rfl⟩:=ha;have hlt':h.next<BF:=zE hlt;have hfr:k.ρ h.next=none:=hr.fresh _ (zI _);have hget:∀j,(⟨T.put Jb h.m h.next (some ob),h.next+1⟩:AH).get j=if j=h.next then some ob else h.get j:=fun j=>T.Ds 24 h.m h.next j _ (by simpa using hlt')
  have hold:∀b,b<w.heap.size→(w.heap.push obj)[b]?=w.heap[b]?:=fun b hb=>by rw[Array.getElem?_push];rw[if_neg (by omega)]
  have hρne:∀o p,k.ρ o=some p→o≠h.next:=by intro o p hp e;subst e;rw[hfr]at hp;cases hp
  have ev:Ev k (k.with h.next w.heap.size) h ⟨T.put Jb h.m h.next (some ob),h.next+1⟩ w { w with heap:=w.heap.push obj,drawn:=d }:=by
   refine⟨rfl,rfl,rfl,rfl,by simp,fun b hb _=>hold b hb,fun b arr e fr hx=>?_,fun o p hp=>?_,fun _ h=>h,fun o ob1 b sh h1 h2 hb=>?_,Nat.le_succ _,fun o ho=>by simp only[K.with,if_neg (show o≠h.next by omega)],fun _ _ h=>.inl h⟩
   ·have hb:=(Array.getElem?_eq_some_iff.1 hx).1;exact⟨arr,fr,(hold b hb).trans hx,rfl⟩
   ·simp only[K.with,if_neg (hρne o p hp),hp]
   ·rw[hget]at h1;by_cases e:o=h.next
    ·subst e;simp only[K.with,if_true,zC,zG]at h2;omega
    ·rw[if_neg e]at h1;simp only[K.with,if_neg e]at h2;exact⟨o,ob1,sh,h1,h2⟩
  have le:=ev.le hr;refine⟨⟨fun o ob1 h1=>?_,fun o1 o2 ob1 ob2 b s1 s2 h1 h2 h3 h4=>?_,fun o ob1 b sh h1 h2=>?_,fun o ho=>?_,fun b hb=>?_⟩,ev,rfl,hfr⟩
  ·rw[hget]at h1;by_cases e:o=h.next
   ·subst e;rw[if_pos rfl]at h1;cases h1;exact⟨w.heap.size,0,K.BJ _ _ _,hob le⟩
   ·rw[if_neg e]at h1;obtain⟨b,sh,h2,h3⟩:=hr.obj o ob1 h1;exact⟨b,sh,by simp only[K.with,if_neg e,h2],h3.mono le (hold b h3.lt)⟩
  ·rw[hget]at h1 h2;by_cases e1:o1=h.next<;>by_cases e2:o2=h.next
   ·exact e1.trans e2.symm
   ·rw[if_neg e2]at h2;simp only[K.with,if_neg e2]at h4;subst e1;simp only[K.with,if_true,zC,zG]at h3;have:=hr.FL h2 h4;omega
   ·rw[if_neg e1]at h1;simp only[K.with,if_neg e1]at h3;subst e2;simp only[K.with,if_true,zC,zG]at h4;have:=hr.FL h1 h3;omega
   ·rw[if_neg e1]at h1;rw[if_neg e2]at h2;simp only[K.with,if_neg e1]at h3;simp only[K.with,if_neg e2]at h4;exact hr.inj o1 o2 _ _ b s1 s2 h1 h2 h3 h4
  ·rw[hget]at h1;by_cases e:o=h.next
   ·subst e;simp only[K.with,if_true,zC,zG]at h2;intro hf;have:=hr.lt b hf;omega
   ·rw[if_neg e]at h1;simp only[K.with,if_neg e]at h2;exact hr.nfz o ob1 b sh h1 h2
  ·have:o≠h.next:=by have:h.next+1≤o:=ho;omega
   simp only[K.with,if_neg this];exact hr.fresh o (by have:h.next+1≤o:=ho;omega)
  ·have:=hr.lt b hb;simp;omega
theorem HR.freeze {k:K}{h:AH}{w:World}(hr:HR k h w){o:Nat}{ob:AO}{b sh:Nat}(hg:h.get o=some ob)(hρ:k.ρ o=some (b,sh)) :
 HR ⟨k.ρ,fun x=>x=b∨k.fz x,k.sz⟩ (h.set o none) w∧Ev k ⟨k.ρ,fun x=>x=b∨k.fz x,k.sz⟩ h (h.set o none) w w∧Le k ⟨k.ρ,fun x=>x=b∨k.fz x,k.sz⟩ w w:=by
 have ho:=AH.Gg hg;have back:∀{o':Nat} {ob1:AO},(h.set o none).get o'=some ob1→o'≠o∧h.get o'=some ob1:=by
  intro o' ob1 h1;rw[AH.BQ h o o' _ ho]at h1;by_cases e':o'=o
  ·rw[if_pos e']at h1;cases h1
  ·rw[if_neg e']at h1;exact⟨e',h1⟩
 have le:Le k ⟨k.ρ,fun x=>x=b∨k.fz x,k.sz⟩ w w:=⟨rfl,fun _ _ h=>h,fun _ h=>.inr h,fun _ _=>rfl,fun b arr e fr hx=>⟨arr,fr,hx,rfl⟩⟩;refine⟨⟨fun o' ob1 h1=>?_,fun o1 o2 ob1 ob2 b' s1 s2 h1 h2=>hr.inj o1 o2 _ _ b' s1 s2 (back h1).2 (back h2).2,fun o' ob1 b' sh' h1 h2=>?_,hr.fresh,fun b' hb'=>?_⟩,?_,le⟩
 ·obtain⟨b1,sh1,h2,h3⟩:=hr.obj o' ob1 (back h1).2;exact⟨b1,sh1,h2,h3.mono le rfl⟩
 ·rintro (rfl|hf)
  ·exact(back h1).1 (hr.inj o' o _ _ b' sh' sh (back h1).2 hg h2 hρ)
  ·exact hr.nfz o' _ b' sh' (back h1).2 h2 hf
 ·rcases hb' with rfl|hb'
  ·exact hr.FL hg hρ
  ·exact hr.lt b' hb'
 ·exact⟨rfl,rfl,rfl,rfl,zI _,fun _ _ _=>rfl,fun b arr e fr hx=>⟨arr,fr,hx,rfl⟩,fun _ _ h=>h,fun _ h=>.inr h,fun o' ob1 b' sh' h1 h2 _=>⟨o',ob1,sh',(back h1).2,h2⟩,zI _,fun _ _=>rfl,fun x _ hx=>by
  rcases hx with rfl|hx
  ·exact .inr ⟨o,ob,sh,hg,hρ⟩
  ·exact .inl hx⟩
structure TI where
 und:TypeDesc
 size:Nat
 bytes:Nat
 zero:AV
 agg:Bool
 deriving Inhabited
structure Env where
 ty:TypeId→Option TI
 fn:FuncId→Option Func
 glob:Nat→Option (List AV)
 meth:TypeId→String→Option FuncId
 impl:TypeId→TypeId→Option Bool
 eqt:TypeId→Option (List TypeDesc)
 prim:FuncId→Option (List AV→AH→Option (AV×AH))
 pan:FuncId→Option (List AV→AH→Option (List (AV×Bool)×AH)):=fun _=>none
 bin:BinOp→TypeId→AV→AV→Option AV:=fun _ _ _ _=>none
 len:Nat→Option AV:=fun _=>none
 slen:Nat→Option AV:=fun _=>none
 sat:Nat→Nat→Option AV:=fun _ _=>none
 lit:TypeId→Bool:=fun _=>false
 sel:Nat→Opq:=fun _=>⟨fun _ _ _=>False,fun _ _ _ _ _ _ _ h=>h⟩
 tok:Nat→Value:=fun _=>.bool false
 str:Nat→ByteArray:=fun _=>ByteArray.empty
 mp:Nat→List (AV×AV×Nat):=fun _=>[]
def Ga:Value→AV
 |.bool b=>.bool b|.int k n=>.int k n|.string b=>.str (b.data.toList.map UInt8.toNat)|.pointer none=>.nilp|.slice none 0 0=>.nils|.map none=>.nilm|.nilFunc=>.nilf|.nilIface=>.nili|v=>.raw v
def ofConst:Value→AV
 |.agg cs=>.agg (cs.toList.map Ga)|.tuple cs=>.tup (cs.toList.map Ga)|v=>Ga v
def AM:AV:=.tup []
def Bj (E:Env)(tmps:T AV):Operand→AV
 |.tmp t=>(T.get AE tmps t).getD AM|.const v=>ofConst v|.global g=>match E.glob g with
  |some cells=>.pptr cells 0|none=>.raw (.pointer (some ⟨g,0,none⟩))
 |.func f=>.func (.func f) [] []
def segC (cs:List AV)(off n:Nat):Option (List AV):=
 let r:=(cs.drop off).take n
 bif Nat.beq r.length n then some r else none
def Q8 (cs:List AV)(off:Nat)(xs:List AV):Option (List AV):=
 bif Nat.ble (off+xs.length) cs.length then some (cs.take off++(xs++cs.drop (off+xs.length))) else none
noncomputable section
def Rr (l:List AV):Nat→List AV:=List.rec (fun _=>[]) (fun x xs ih i=>Nat.rec (x::xs) (fun j _=>ih j) i) l
def V6 (n:Nat):List AV→(List AV→Option (List AV))→Option (List AV):=
 Nat.rec (fun _ c=>c []) (fun _ ih l c=>List.rec none (fun x xs _=>ih xs fun ys=>c (x::ys)) l) n
def Ru (xs:List AV):List AV→(List AV→Option (List AV))→Option (List AV):=
 List.rec (fun cs c=>c cs) (fun x _ ih cs c=>List.rec none (fun _ r _=>ih r fun ys=>c (x::ys)) cs) xs
def splR (off:Nat)(xs:List AV):List AV→(List AV→Option (List AV))→Option (List AV):=
 Nat.rec (Ru xs) (fun _ ih cs c=>List.rec none (fun x r _=>ih r fun ys=>c (x::ys)) cs) off
end
def seg (cs:List AV)(off n:Nat):Option (List AV):=V6 n (Rr cs off) some
def CV (cs:List AV)(off:Nat)(xs:List AV):Option (List AV):=splR off xs cs some
theorem R7:∀(l:List AV) (i:Nat),Rr l i=l.drop i
 |[],i=>by simp[Rr]
 |x::l,0=>rfl|x::l,i+1=>by have:Rr (x::l) (i+1)=Rr l i:=rfl;rw[this,R7 l i];rfl
theorem Sm:∀(n:Nat) (l:List AV) (c:List AV→Option (List AV)),V6 n l c=bif Nat.beq (l.take n).length n then c (l.take n) else none
 |0,l,c=>rfl|n+1,[],c=>rfl|n+1,x::l,c=>by
  have:V6 (n+1) (x::l) c=V6 n l fun ys=>c (x::ys):=rfl
  rw[this,Sm n l];simp only[List.take_succ_cons,List.length_cons];rfl
theorem seg_eq (cs:List AV)(off n:Nat):seg cs off n=segC cs off n:=by unfold seg segC;rw[Sm,R7]
theorem Rv:∀(xs cs:List AV) (c:List AV→Option (List AV)),Ru xs cs c=bif Nat.ble xs.length cs.length then c (xs++cs.drop xs.length) else none
 |[],cs,c=>by
  have:Nat.ble 0 cs.length=true:=Nat.ble_eq_true_of_le (Nat.zero_le _);show c cs=bif Nat.ble 0 cs.length then c cs else none
  rw[this];rfl
 |x::xs,[],c=>rfl|x::xs,y::cs,c=>by
  have:Ru (x::xs) (y::cs) c=Ru xs cs fun ys=>c (x::ys):=rfl
  rw[this,Rv xs cs];simp only[List.length_cons,List.cons_append,List.drop_succ_cons];rfl
theorem VV:∀(off:Nat) (xs cs:List AV) (c:List AV→Option (List AV)),splR off xs cs c=bif Nat.ble (off+xs.length) cs.length then c (cs.take off++(xs++cs.drop (off+xs.length))) else none
 |0,xs,cs,c=>by have:splR 0 xs cs c=Ru xs cs c:=rfl;rw[this,Rv];simp
 |off+1,xs,[],c=>by
  have h1:splR (off+1) xs [] c=none:=rfl;have h2:Nat.ble (off+1+xs.length) ([]:List AV).length=false:=by
   cases h:Nat.ble (off+1+xs.length) ([]:List AV).length with
   |false=>rfl|true=>have:=zE h;simp at this
  rw[h1,h2];rfl
 |off+1,xs,x::cs,c=>by
  have h1:splR (off+1) xs (x::cs) c=splR off xs cs fun ys=>c (x::ys):=rfl
  rw[h1,VV off xs cs];have e:off+1+xs.length=(off+xs.length)+1:=by omega
  rw[e];simp only[List.length_cons,List.take_succ_cons,List.cons_append,List.drop_succ_cons];rfl
theorem XN (cs:List AV)(off:Nat)(xs:List AV):CV cs off xs=Q8 cs off xs:=by unfold CV Q8;rw[VV]
def AV.A8 (xs:List AV):Bool:=xs.all AV.cell
def QD (h:AH)(a:AV)(n:Nat):Option (List AV):=
 match a with
 |.ptr o off=>match h.get o with
  |some (.cells _ cs)=>seg cs off n|_=>none
 |.pptr cs off=>seg cs off n|_=>none
def NJ (agg:Bool)(cs:List AV):Option AV:=
 bif agg then some (.agg cs) else match cs with
  |[c]=>some c|_=>none
def Pd (i:TI)(h:AH)(a:AV):Option AV:=
 match QD h a i.size with
 |some cs=>NJ i.agg cs|none=>none
def Ot (i:TI)(h:AH)(a x:AV):Option AH:=
 let xs:=x.cells
 bif Nat.beq xs.length i.size&&AV.A8 xs then
  match a with
  |.ptr o off=>match h.get o with
   |some (.cells e cs)=>match CV cs off xs with
    |some cs'=>some (h.set o (some (.cells e cs')))|none=>none
   |_=>none
  |_=>none
 else none
def JX (E:Env)(t:TypeId)(cs:List AV)(off:Nat):Option AV:=
 match E.ty t with
 |some i=>bif i.agg then match seg cs off i.size with
  |some r=>some (.agg r)|none=>none
  else cs[off]?
 |none=>none
def Ee (place:Nat→Option (Nat×Nat))(cells:List AV):List (Nat×AV)→Option (List AV)
 |[]=>some cells|(i,v)::rest=>match place i with
  |some (off,size)=>bif Nat.beq v.cells.length size&&AV.A8 v.cells then match CV cells off v.cells with
   |some cs=>Ee place cs rest|none=>none
   else none
  |none=>none
def NV (n:Nat):AV:=.int .u8 n
def Gc (z:List AV):Nat→List AV
 |0=>[]|n+1=>z++Gc z n
def asNat:AV→Option Nat
 |.int _ (.ofNat n)=>some n|_=>none
def DM:List Nat→List Nat→Bool
 |_,[]=>false|[],_::_=>true|a::x,b::y=>Nat.blt a b||(Nat.beq a b&&DM x y)
def Am:List Nat→List Nat→Bool
 |[],[]=>true|a::x,b::y=>Nat.beq a b&&Am x y|_,_=>false
def Gj:AV→AV→Option Bool
 |.int k a,.int k' b=>bif decide (k=k') then some (a==b) else none
 |.str a,.str b=>some (Am a b)|.bool a,.bool b=>some (a==b)|.stok i,.stok j=>bif Nat.beq i j then some true else none
 |_,_=>none
def plainKey:TypeDesc→AV→Bool
 |.string,.str _=>true|.string,.stok _=>true|.int _,.int _ _=>true|.bool,.bool _=>true|_,_=>false
def C8:List TypeDesc→List AV→List AV→Option Bool
 |[],[],[]=>some true|d::ds,a::x,b::y=>bif plainKey d a&&plainKey d b then
  match Gj a b with
  |some true=>C8 ds x y|some false=>some false|none=>none
  else none
 |_,_,_=>none
def AaA (E:Env)(t:TypeId)(a b:List AV):Option Bool:=
 match E.eqt t with
 |some ds=>bif Nat.beq a.length ds.length&&Nat.beq b.length ds.length then C8 ds a b else none
 |none=>none
def eqA (E:Env)(t:TypeId)(x y:AV):Option Bool:=
 match E.ty t with
 |none=>none|some i=>match i.und,x,y with
  |.bool,.bool a,.bool b=>some (a==b)|.slice _,.nils,.nils=>some true|.slice _,.sl ..,.nils|.slice _,.psl ..,.nils|.slice _,.nils,.sl .. | .slice _,.nils,.psl ..=>some false|.map _ _,.nilm,.nilm=>some true|.map _ _,.map _,.nilm|.map _ _,.nilm,.map _=>some false|.func _ _ _,.nilf,.nilf=>some true|.pointer _,.nilp,.nilp=>some true|.pointer _,.ptr ..,.nilp|.pointer _,.nilp,.ptr .. | .pointer _,.pptr ..,.nilp|.pointer _,.nilp,.pptr ..=>some false|.pointer e,.ptr o a,.ptr o' b=>match E.ty e with
   |some ei=>bif Nat.ble 1 ei.size&&Nat.beq o o' then some (Nat.beq a b) else none
   |none=>none
  |.interface _,.iface ..,.nili|.interface _,.nili,.iface ..=>some false|.struct _,.agg a,.agg b|.array _ _,.agg a,.agg b=>AaA E t a b|_,_,_=>none
def Bv (E:Env)(op:BinOp)(t:TypeId)(x y:AV):Option AV:=
 match x,y with
 |.int k a,.int k' b=>match op with
  |.shl=>bif decide (0≤b) then some (.int k (k.wrap (a*2^(min b.toNat k.bits)))) else none
  |.shr=>bif decide (0≤b) then some (.int k (a.fdiv (2^(min b.toNat k.bits)))) else none
  |_=>bif decide (k=k') then match op with
   |.add=>some (.int k (k.wrap (a+b)))|.sub=>some (.int k (k.wrap (a-b)))|.mul=>some (.int k (k.wrap (a*b)))|.quo=>bif decide (b=0) then none else some (.int k (k.wrap (a.tdiv b)))
   |.rem=>bif decide (b=0) then none else some (.int k (a.tmod b))
   |.and=>some (.int k (k.wrap (BitVec.ofInt k.bits a &&& BitVec.ofInt k.bits b).toNat))|.or=>some (.int k (k.wrap (BitVec.ofInt k.bits a ||| BitVec.ofInt k.bits b).toNat))|.xor=>some (.int k (k.wrap (BitVec.ofInt k.bits a ^^^ BitVec.ofInt k.bits b).toNat))|.andNot=>some (.int k (k.wrap (BitVec.ofInt k.bits a &&& ~~~ BitVec.ofInt k.bits b).toNat))|.eql=>some (.bool (a==b))|.neq=>some (.bool (a != b))|.lss=>some (.bool (decide (a<b)))|.leq=>some (.bool (decide (a≤b)))|.gtr=>some (.bool (decide (a > b)))|.geq=>some (.bool (decide (a≥b)))|_=>none
  else none
 |.str a,.str b=>match op with
  |.add=>bif Nat.blt (a.length+b.length) (2^47) then some (.str (a++b)) else none
  |.eql=>some (.bool (Am a b))|.neq=>some (.bool (!Am a b))|.lss=>some (.bool (DM a b))|.leq=>some (.bool (DM a b||Am a b))|.gtr=>some (.bool (!(DM a b||Am a b)))|.geq=>some (.bool (!DM a b))|_=>none
 |x,y=>match E.bin op t x y with
  |some r=>some r|none=>match op with
   |.eql=>(eqA E t x y).map AV.bool|.neq=>(eqA E t x y).map fun b=>AV.bool (!b)
   |_=>none
def unA (op:UnOp):AV→Option AV
 |.int k n=>match op with
  |.neg=>some (.int k (k.wrap (0-n)))|.xor=>some (.int k (k.wrap (BitVec.ofInt k.bits (if k.signed then -1 else k.max) ^^^ BitVec.ofInt k.bits n).toNat))
  |_=>none
 |.bool b=>match op with
  |.not=>some (.bool (!b))|_=>none
 |_=>none
def CS (k:AV):List (AV×AV×Nat)→Nat→Option (Option (Nat×AV))
 |[],_=>some none|(x,y,_)::r,i=>match Gj k x with
  |some true=>some (some (i,y))|some false=>CS k r (i+1)|none=>none
def Da (h:AH)(sz:Nat):AV→Option (Nat×List AV)
 |.nils|.emp=>some (0,[])|.sl o off len s _=>bif Nat.beq s sz then match h.get o with
  |some (.cells _ cs)=>(seg cs off (len*sz)).map fun r=>(len,r)
  |_=>none
  else none
 |.psl cs len _=>(seg cs 0 (len*sz)).map fun r=>(len,r)
 |.str s=>bif Nat.beq sz 1 then some (s.length,s.map NV) else none
 |_=>none
def Af (d:Nat):Option AV→Option Nat
 |none=>some d|some v=>asNat v
def E2 (len:Nat)(cap:Option Nat)(lo hi mx:Option AV):Option (Nat×Nat×Option Nat):=
 match Af 0 lo,Af len hi with
 |some l,some u=>match mx with
  |some mv=>match asNat mv with
   |some m=>bif Nat.ble l u&&Nat.ble u m&&Nat.ble m (cap.getD len)&&hi.isSome then some (l,u,some m) else none
   |none=>none
  |none=>bif Nat.ble l u&&Nat.ble u (cap.getD len) then some (l,u,cap) else none
 |_,_=>none
def Q3 (E:Env)(t:TypeId)(x:AV)(lo hi mx:Option AV)(h:AH):Option AV:=
 match x with
 |.str s=>match E.ty t with
  |some { und:=.string,.. }=>(match E2 s.length (some s.length) lo hi mx,mx with
   |some (l,u,_),none=>some (.str ((s.drop l).take (u-l)))|_,_=>none)
  |_=>none
 |.nils=>match E2 0 (some 0) lo hi mx with
  |some _=>match E.ty t with
   |some { und:=.slice el,.. }=>match E.ty el with
    |some _=>some .nils|none=>none
   |_=>none
  |none=>none
 |.emp=>match E2 0 none lo hi mx with
  |some _=>match E.ty t with
   |some { und:=.slice el,.. }=>match E.ty el with
    |some _=>some .emp|none=>none
   |_=>none
  |none=>none
 |.sl o off len sz cap=>match E.ty t with
  |some { und:=.slice el,.. }=>match E.ty el with
   |some ei=>bif Nat.beq ei.size sz then
    match E2 len cap lo hi mx with
    |some (l,u,some m)=>bif Nat.beq m l then some (.sl o off 0 sz (some 0)) else some (.sl o (off+l*sz) (u-l) sz (some (m-l)))
    |some (l,u,none)=>bif Nat.blt l len then some (.sl o (off+l*sz) (u-l) sz none) else some .emp
    |none=>none
    else none
   |none=>none
  |_=>none
 |.psl cs len cap=>match E.ty t with
  |some { und:=.slice el,.. }=>match E.ty el with
   |some ei=>
    match E2 len cap lo hi mx with
    |some (l,u,some m)=>bif Nat.beq m l then some (.psl cs 0 (some 0)) else some (.psl (cs.drop (l*ei.size)) (u-l) (some (m-l)))
    |some (l,u,none)=>bif Nat.blt l len then some (.psl (cs.drop (l*ei.size)) (u-l) none) else some .emp
    |none=>none
   |none=>none
  |_=>none
 |.ptr o off=>match E.ty t with
  |some { und:=.array n el,.. }=>match E.ty el,h.get o with
   |some ei,some (.cells _ cs)=>bif Nat.ble (off+n*ei.size) cs.length then
    match E2 n (some n) lo hi mx with
    |some (l,u,some m)=>bif Nat.beq m l then some (.sl o off 0 ei.size (some 0)) else some (.sl o (off+l*ei.size) (u-l) ei.size (some (m-l)))
    |_=>none
    else none
   |_,_=>none
  |_=>none
 |_=>none
def byteOf:AV→Option Nat
 |.int .u8 (.ofNat m)=>bif Nat.blt m 256 then some m else none
 |_=>none
def bytesOf:List AV→Option (List Nat)
 |[]=>some []|x::xs=>match byteOf x,bytesOf xs with
  |some b,some r=>some (b::r)|_,_=>none
def two (r:Option AH):Option (AV×AH):=r.map fun h=>(AM,h)
def one (h:AH)(r:Option AV):Option (AV×AH):=r.map fun v=>(v,h)
def GF (h:AH)(x:AO):Option (AV×AH):=
 match h.alloc x with
 |some (o,h')=>some (.ptr o 0,h')|none=>none
def Ql (el:TypeId)(ei:TI)(h:AH)(s:AV)(n:Nat)(new:List AV):Option (AV×AH):=
 let sz:=ei.size
 bif Nat.beq n 0 then(match s with
  |.nils|.sl .. | .psl .. | .emp=>some (s,h)|_=>none)
 else bif AV.A8 new&&Nat.ble 1 sz&&Nat.ble ei.bytes 4096&&Nat.ble n 16777216 then
  let grow (len:Nat) (old:List AV) (h:AH):Option (AV×AH):=
   bif AV.A8 old&&Nat.ble len 16777216 then
    match h.alloc (.cells el (old++new)) with
    |some (o,h')=>some (.sl o 0 (len+n) sz none,h')|none=>none
   else none
  match s with
  |.nils=>grow 0 [] h|.psl cs len (some c)=>bif Nat.blt c (len+n) then match seg cs 0 (len*sz) with
   |some old=>grow len old h|none=>none
   else none
  |.sl o off len s' cap=>bif Nat.beq s' sz then match h.get o with
   |some (.cells e cs)=>match cap with
    |some c=>bif Nat.blt c (len+n) then match seg cs off (len*sz) with
     |some old=>grow len old h|none=>none
     else match CV cs (off+len*sz) new with
      |some cs'=>some (.sl o off (len+n) sz (some c),h.set o (some (.cells e cs')))|none=>none
    |none=>bif Nat.beq e el&&Nat.beq (off%sz) 0 then match seg cs off (len*sz) with
     |some old=>grow len old (h.set o none)|none=>none
     else none
   |_=>none
   else none
  |_=>none
 else none
def Z5 (ei:TI)(h:AH)(d:AV)(n:Nat)(new:List AV):Option (AV×AH):=
 match d with
 |.nils=>some (.int .i64 0,h)|.sl o off len s _=>
  let m:=Nat.min n len
  bif Nat.beq s ei.size&&AV.A8 (new.take (m*s)) then match h.get o with
   |some (.cells e cs)=>match CV cs off (new.take (m*s)) with
    |some cs'=>some (.int .i64 m,h.set o (some (.cells e cs')))|none=>none
   |_=>none
  else none
 |_=>none
def TO (ei:TI)(h:AH)(o off len s:Nat):Option (AV×AH):=
 bif Nat.beq len 0 then some (AM,h) else bif Nat.beq s ei.size&&AV.A8 ei.zero.cells then match h.get o with
  |some (.cells e cs)=>match CV cs off (Gc ei.zero.cells len) with
   |some cs'=>some (AM,h.set o (some (.cells e cs')))|none=>none
  |_=>none
 else none
def PU (h:AH)(m k:AV):Option (AV×AH):=
 match m with
 |.nilm=>some (AM,h)|.map o=>match h.get o with
  |some (.map es c)=>match CS k es 0 with
   |some (some (i,_))=>some (AM,h.set o (some (.map (es.eraseIdx i) c)))|some none=>some (AM,h)|none=>none
  |_=>none
 |_=>none
def lenA (E:Env)(at':Array TypeId)(h:AH)(x:AV):Option Nat:=
 match at'[0]? with
 |none=>none|some t=>match E.ty t with
  |none=>none|some i=>match i.und,x with
   |.string,.str s=>some s.length|.slice _,.nils|.slice _,.emp=>some 0|.slice _,.sl _ _ len _ _=>some len|.slice _,.psl _ len _=>some len|.map _ _,.nilm=>some 0|.map _ _,.map o=>match h.get o with
    |some (.map es _)=>some es.length|_=>none
   |.array n _,_=>some n|.pointer a,_=>match E.ty a with
    |some { und:=.array n _,.. }=>some n|_=>none
   |_,_=>none
def lenS (E:Env)(at':Array TypeId)(x:AV):Option AV:=
 match x with
 |.sel j=>match at'[0]? with
  |none=>none|some t=>match E.ty t with
   |none=>none|some i=>match i.und with
    |.slice _=>E.len j|.string=>E.slen j|_=>none
 |_=>none
def capA (E:Env)(at':Array TypeId)(x:AV):Option Nat:=
 match at'[0]? with
 |none=>none|some t=>match E.ty t with
  |none=>none|some i=>match i.und,x with
   |.slice _,.nils=>some 0|.slice _,.sl _ _ _ _ (some c)=>some c|.slice _,.psl _ _ (some c)=>some c|_,_=>none
def D4 (E:Env)(b:Builtin)(at':Array TypeId)(_ty:TypeId)(args:List AV)(h:AH):Option (AV×AH):=
 match b,args with
 |.append,[s,x]=>match at'[0]? with
  |some st=>match E.ty st with
   |some { und:=.slice el,.. }=>match E.ty el with
    |some ei=>match at'[1]? with
     |some xt=>match E.ty xt with
      |some { und:=.int _,.. }=>none|some _=>match Da h ei.size x with
       |some (n,new)=>Ql el ei h s n new|none=>none
      |none=>none
     |none=>none
    |none=>none
   |_=>none
  |none=>none
 |.len,[x]=>match lenS E at' x with
  |some r=>some (r,h)|none=>(lenA E at' h x).map fun n=>(.int .i64 n,h)
 |.cap,[x]=>(capA E at' x).map fun n=>(.int .i64 n,h)
 |.copy,[d,x]=>match at'[0]? with
  |some st=>match E.ty st with
   |some { und:=.slice el,.. }=>match E.ty el with
    |some ei=>match Da h ei.size x with
     |some (n,new)=>Z5 ei h d n new|none=>none
    |none=>none
   |_=>none
  |none=>none
 |.clear,[x]=>match x with
  |.sl o off len s _=>match at'[0]? with
   |some st=>match E.ty st with
    |some { und:=.slice el,.. }=>match E.ty el with
     |some ei=>TO ei h o off len s|none=>none
    |_=>none
   |none=>none
  |_=>none
 |.delete,[m,k]=>match at'[0]? with
  |some mt=>match E.ty mt with
   |some { und:=.map kt _,.. }=>match E.ty kt with
    |some ki=>bif plainKey ki.und k then PU h m k else none
    |none=>none
   |_=>none
  |none=>none
 |.max,[x,y]=>match x,y with
  |.int k a,.int _ b=>some (.int k (if b > a then b else a),h)
  |_,_=>none
 |.min,[x,y]=>match x,y with
  |.int k a,.int _ b=>some (.int k (if b<a then b else a),h)
  |_,_=>none
 |.unsafeSliceData,[x]=>match x with
  |.nils=>some (.nilp,h)|.sl o off len _ _=>bif Nat.blt 0 len then some (.ptr o off,h) else none
  |_=>none
 |.unsafeString,[p,n]=>match asNat n with
  |some 0=>match at'[0]? with
   |some _=>(match p with
    |.ptr _ _|.nilp=>some (.str [],h)|_=>none)
   |none=>none
  |some n=>match p with
   |.ptr o off=>match h.get o,at'[0]? with
    |some (.cells e cs),some pt=>match E.ty pt with
     |some { und:=.pointer u,.. }=>match E.ty u with
      |some ui=>bif Nat.beq e u&&Nat.beq ui.size 1&&Nat.ble n 16777216 then match seg cs off n with
       |some r=>match bytesOf r with
        |some s=>some (.str s,h.set o none)|none=>none
       |none=>none
       else none
      |none=>none
     |_=>none
    |_,_=>none
   |_=>none
  |none=>none
 |_,_=>none
def C3:Operand→Bool
 |.const _=>true|_=>false
def Sw (E:Env)(src dst:TypeId)(x:AV)(h:AH):Option (AV×AH):=
 match E.ty dst,E.ty src with
 |some d,some s=>match d.und,x with
  |.int k,.int _ n=>some (.int k (k.wrap n),h)|.string,.str b=>some (.str b,h)|.string,x=>match s.und with
   |.slice e=>match E.ty e with
    |some { und:=.int .u8,.. }=>match Da h 1 x with
     |some (_,cs)=>match bytesOf cs with
      |some b=>some (.str b,h)|none=>none
     |none=>none
    |_=>none
   |_=>none
  |.slice e,.str b=>match E.ty e with
   |some { und:=.int .u8,size:=1,.. }=>match h.alloc (.cells e (b.map NV)) with
    |some (o,h')=>some (.sl o 0 b.length 1 none,h')|none=>none
   |_=>none
  |.unsafePointer,.ptr o off=>match s.und with
   |.pointer t=>match E.ty t,h.get o with
    |some ti,some (.cells _ cs)=>bif Nat.ble 1 ti.size&&Nat.blt off cs.length then some (.ptr o off,h) else none
    |_,_=>none
   |_=>none
  |.pointer u,.ptr o off=>match s.und with
   |.unsafePointer=>match E.ty u,h.get o with
    |some ui,some (.cells e cs)=>bif Nat.ble 1 ui.size&&Nat.beq e u&&Nat.beq (off%ui.size) 0&&Nat.ble (off+ui.size) cs.length then some (.ptr o off,h) else none
    |_,_=>none
   |_=>none
  |_,_=>none
 |_,_=>none
def EK (E:Env)(fields:Array Field)(j:Nat):Option (Nat×Nat):=
 match fields[j]? with
 |some f=>some (f.offset,((E.ty f.type).map (·.size)).getD 0)|none=>none
def CH (ev:Operand→AV)(ps:Array (Nat×Operand)):List (Nat×AV):=ps.toList.map fun p=>(p.1,ev p.2)
def opA (E:Env)(op:Op)(ev:Operand→AV)(h:AH):Option (AV×AH):=
 match op with
 |.move x|.assign x=>some (ev x,h)|.pick c a b=>match ev c with
  |.bool t=>some (bif t then ev a else ev b,h)
  |_=>none
 |.alloc e=>match E.ty e with
  |some i=>GF h (.cells e i.zero.cells)|none=>none
 |.box e x=>let xs:=(ev x).cells;bif AV.A8 xs then GF h (.cells e xs) else none
 |.build t ps=>match E.ty t with
  |some i=>match i.und with
   |.struct fields=>bif fields.toList.all fun f=>(E.ty f.type).isSome then(Ee (EK E fields) i.zero.cells (CH ev ps)).map fun cs=>(.agg cs,h) else none
   |.array _ el=>match E.ty el with
    |some ei=>(Ee (fun j=>some (j*ei.size,ei.size)) i.zero.cells (CH ev ps)).map fun cs=>(.agg cs,h)
    |none=>none
   |_=>none
  |none=>none
 |.buildSlice t len ps=>match E.ty t with
  |some { und:=.slice el,.. }=>match E.ty el with
   |some ei=>match Ee (fun j=>some (j*ei.size,ei.size)) (Gc ei.zero.cells len) (CH ev ps) with
    |some cs=>bif AV.A8 cs&&Nat.ble (len*ei.size) 65536 then match h.alloc (.cells el cs) with
     |some (o,h')=>bif E.lit t then some (.psl cs len (some len),h'.set o none) else some (.sl o 0 len ei.size (some len),h')
     |none=>none
     else none
    |none=>none
   |none=>none
  |_=>none
 |.load t a=>match E.ty t with
  |some i=>one h (Pd i h (ev a))|none=>none
 |.store t a x=>match E.ty t with
  |some i=>two (Ot i h (ev a) (ev x))|none=>none
 |.nilCheck x=>match ev x with
  |.ptr o off=>some (.ptr o off,h)|.pptr cs off=>some (.pptr cs off,h)|.iface t v=>some (.iface t v,h)|.func (.func f) a b=>some (.func (.func f) a b,h)|_=>none
 |.binOp op t x y _=>match ev x,ev y with
  |.nili,.nili=>bif C3 x||C3 y then(match E.ty t with
   |some { und:=.interface _,.. }=>(match op with
    |.eql=>some (.bool true,h)|.neq=>some (.bool false,h)|_=>none)
   |_=>none) else none
  |a,b=>one h (Bv E op t a b)
 |.unOp op _ x=>one h (unA op (ev x))|.convert s d x=>Sw E s d (ev x) h|.makeInterface t x=>match E.ty t with
  |some i=>(match i.und with
   |.interface _=>none|_=>some (.iface t (ev x),h))
  |none=>none
 |.makeFunc fn first cap=>match fn with
  |.yield _=>none|_=>some (.func fn (first.toList.map ev) (cap.toList.map ev),h)
 |.makeMap t r=>match E.ty t with
  |some { und:=.map _ _,.. }=>(match r with
   |none=>match h.alloc (.map [] 0) with
    |some (o,h')=>some (.map o,h')|none=>none
   |some _=>none)
  |_=>none
 |.makeSlice t l c=>match E.ty t with
  |some { und:=.slice el,.. }=>match E.ty el with
   |some ei=>match asNat (ev l),asNat (ev c) with
    |some l,some c=>bif Nat.ble l c&&Nat.ble c 1048576&&Nat.ble ei.bytes 4096&&AV.A8 ei.zero.cells then match h.alloc (.cells el (Gc ei.zero.cells c)) with
     |some (o,h')=>some (.sl o 0 l ei.size (some c),h')|none=>none
     else none
    |_,_=>none
   |none=>none
  |_=>none
 |.slice t x lo hi mx=>one h (Q3 E t (ev x) (lo.map ev) (hi.map ev) (mx.map ev) h)|.fieldAddr s x f=>match E.ty s with
  |some { und:=.struct fields,.. }=>match fields[f]? with
   |some fl=>match E.ty fl.type with
    |some fi=>bif Nat.ble 1 fi.size then(match ev x with
     |.ptr o off=>some (.ptr o (off+fl.offset),h)|.pptr cs off=>some (.pptr cs (off+fl.offset),h)|_=>none) else none
    |none=>none
   |none=>none
  |_=>none
 |.field t x f=>match E.ty t with
  |some { und:=.struct fields,.. }=>match fields[f]?,ev x with
   |some fl,.agg cs=>one h (JX E fl.type cs fl.offset)|_,_=>none
  |_=>none
 |.indexAddr t x ix=>match E.ty t,asNat (ev ix) with
  |some ti,some i=>match ti.und,ev x with
   |.slice el,.sl o off len sz _=>match E.ty el with
    |some ei=>bif Nat.blt i len&&Nat.beq ei.size sz then some (.ptr o (off+i*sz),h) else none
    |none=>none
   |.slice el,.psl cs len _=>match E.ty el with
    |some ei=>bif Nat.blt i len then some (.pptr cs (i*ei.size),h) else none
    |none=>none
   |.array n el,.ptr o off=>match E.ty el with
    |some ei=>bif Nat.blt i n then some (.ptr o (off+i*ei.size),h) else none
    |none=>none
   |.array n el,.pptr cs off=>match E.ty el with
    |some ei=>bif Nat.blt i n then some (.pptr cs (off+i*ei.size),h) else none
    |none=>none
   |_,_=>none
  |_,_=>none
 |.index t x ix=>match E.ty t,asNat (ev ix) with
  |some ti,some i=>match ti.und,ev x with
   |.string,.str s=>(s[i]?).map fun c=>(.int .u8 c,h)
   |.string,.sel j=>(E.sat j i).map fun r=>(r,h)
   |.array n el,.agg cs=>match E.ty el with
    |some ei=>bif Nat.blt i n then one h (JX E el cs (i*ei.size)) else none
    |none=>none
   |_,_=>none
  |_,_=>none
 |.lookup t x ix ok=>match E.ty t with
  |some { und:=.map kt et,.. }=>match E.ty kt,E.ty et with
   |some ki,some ei=>bif plainKey ki.und (ev ix) then
    let fin (v:AV) (b:Bool):Option (AV×AH):=some (bif ok then .tup [v,.bool b] else v,h)
    match ev x with
    |.nilm=>fin ei.zero false|.map o=>match h.get o with
     |some (.map es _)=>match CS (ev ix) es 0 with
      |some (some (_,v))=>fin v true|some none=>fin ei.zero false|none=>none
     |_=>none
    |_=>none
    else none
   |_,_=>none
  |_=>none
 |.mapUpdate t m k x|.insert t m k x=>match E.ty t with
  |some { und:=.map kt _,.. }=>match E.ty kt with
   |some ki=>bif plainKey ki.und (ev k) then match ev m with
    |.map o=>match h.get o with
     |some (.map es c)=>match CS (ev k) es 0 with
      |some (some (i,_))=>some (AM,h.set o (some (.map (es.modify i fun (_,_,n)=>(ev k,ev x,n)) c)))
      |some none=>some (AM,h.set o (some (.map (es++[(ev k,ev x,c)]) (c+1))))|none=>none
     |_=>none
    |_=>none
    else none
   |none=>none
  |_=>none
 |.range t x=>match E.ty t,ev x with
  |some { und:=.string,.. },.str s=>GF h (.siter s 0)|_,_=>none
 |.next it true=>match ev it with
  |.ptr o 0=>match h.get o with
   |some (.siter s pos)=>bif Nat.blt pos s.length then match s[pos]? with
    |some c=>bif Nat.blt c 128 then some (.tup [.bool true,.int .i64 pos,.int .i32 c],h.set o (some (.siter s (pos+1)))) else none
    |none=>none
    else some (.tup [.bool false],h)
   |_=>none
  |_=>none
 |.typeAssert x _ as' ok=>match E.ty as' with
  |some ai=>
   let holds (v:AV):Option (AV×AH):=some (bif ok then .tup [v,.bool true] else v,h)
   let fails:Option (AV×AH):=bif ok then some (.tup [ai.zero,.bool false],h) else none
   match ai.und,ev x with
   |.interface _,.nili=>fails|.interface _,.iface t v=>match E.impl t as' with
    |some true=>holds (.iface t v)|some false=>fails|none=>none
   |_,.nili=>fails|_,.iface t v=>bif Nat.beq t as' then holds v else fails
   |_,_=>none
  |none=>none
 |.extract t i=>match ev t with
  |.tup vs=>(vs[i]?).map fun v=>(v,h)
  |_=>none
 |_=>none
inductive Gv where
 |ret
 |pan (chain:List (AV×Bool))
 deriving Inhabited
inductive RC where
 |no
 |can (v:AV)
 |used
 deriving Inhabited
inductive AG where
 |ret (v:AV)
 |pan (chain:List (AV×Bool))
 deriving Inhabited
structure Ctx where
 fn:FuncId
 n:Nat
 kind:CallKind
 round:Option Nat
 deriving Inhabited
inductive Cmd where
 |run (c:Ctx) (tmps:T AV) (todo:List Item) (defs:List AD)
 |unw (c:Ctx) (m:Gv) (tmps:T AV) (defs:List AD)
 |call (fv:AV) (args:List AV) (kind:CallKind)
 deriving Inhabited
def Dy:Nat→List AV→T AV→T AV
 |_,[],t=>t|i,x::xs,t=>Dy (i+1) xs (T.put AE t i (some x))
def DS:List Nat→List AV→T AV→T AV
 |p::ps,a::as',t=>DS ps as' (T.put AE t p (some a))|_,_,t=>t
def Ec (E:Env)(h:AH)(tmps:T AV):List ResultVar→Option (List AV)
 |[]=>some []|.tmp t::r=>match Ec E h tmps r with
  |some vs=>some ((T.get AE tmps t).getD AM::vs)|none=>none
 |.cell a t::r=>match E.ty t with
  |some i=>match Pd i h ((T.get AE tmps a).getD AM),Ec E h tmps r with
   |some v,some vs=>some (v::vs)|_,_=>none
  |none=>none
def M4:List AV→AV
 |[v]=>v|vs=>.tup vs
def AZ (ops:Array Oper)(o:Oper)(tmps:T AV):Option Bool:=
 match o.guard with
 |none=>some true|some (j,want)=>match (ops[j]?).bind (·.dst) with
  |some d=>match T.get AE tmps d with
   |some (.bool b)=>some (b==want)|some (.tup [])=>some false|none=>some false|_=>none
  |none=>some false
def AW (n:Nat)(dst:Option Nat)(v:AV)(tmps:T AV):Option (T AV):=
 match dst with
 |none=>some tmps|some d=>bif Nat.blt d n&&Nat.blt d B9 then some (T.put AE tmps d (some v)) else none
inductive Ask where
 |val (v:AV) (h:AH)
 |call (fv:AV) (args:List AV)
 |defer (d:AD)
 |recover
 |panic (v:AV)
def B4 (E:Env)(o:Oper)(ev:Operand→AV)(h:AH):Option Ask:=
 match o.op with
 |.call c=>match c.callee with
  |.builtin .recover=>some .recover|.builtin .panic=>match c.args.toList with
   |[x]=>match ev x with
    |.iface t v=>some (.panic (.iface t v))|_=>none
   |_=>none
  |.builtin b=>match D4 E b c.argTypes o.type (c.args.toList.map ev) h with
   |some (v,h')=>some (.val v h')|none=>none
  |.invoke r name=>some (.call (.func (.method name) [] []) (ev r::c.args.toList.map ev))|.value f=>match ev f with
   |.func fn a b=>some (.call (.func fn a b) (c.args.toList.map ev))|_=>none
 |.defer c=>match c.callee with
  |.builtin _=>none|.invoke r name=>some (.defer (.call (.func (.method name) [] []) (ev r::c.args.toList.map ev)))|.value f=>match ev f with
   |.func fn a b=>some (.defer (.call (.func fn a b) (c.args.toList.map ev)))|_=>none
 |.panic x=>match ev x with
  |.iface t v=>some (.panic (.iface t v))|_=>none
 |op=>match opA E op ev h with
  |some (v,h')=>some (.val v h')|none=>none
def JQ:List (AV×Bool)→Option AV
 |(v,false)::_=>some v|_=>none
def settle (m:Gv)(rc:RC):Gv:=
 match rc with
 |.used=>.ret|_=>m
def NM:Gv→RC
 |.ret=>.no|.pan chain=>match JQ chain with
  |some v=>.can v|none=>.no
mutual
def eqv:AV→AV→Bool
 |.bool a,.bool b=>a==b|.int k a,.int k' b=>decide (k=k')&&decide (a=b)|.str a,.str b=>Am a b|.nilp,.nilp=>true|.ptr o a,.ptr o' b=>Nat.beq o o'&&Nat.beq a b|.pptr c a,.pptr c' b=>Nat.beq a b&&Hf c c'|.nils,.nils=>true|.sl o a l z c,.sl o' a' l' z' c'=>Nat.beq o o'&&Nat.beq a a'&&Nat.beq l l'&&Nat.beq z z'&&decide (c=c')|.psl c l p,.psl c' l' p'=>Nat.beq l l'&&decide (p=p')&&Hf c c'|.emp,.emp=>true|.nilm,.nilm=>true|.map o,.map o'=>Nat.beq o o'|.func f a b,.func f' a' b'=>decide (f=f')&&Hf a a'&&Hf b b'|.nilf,.nilf=>true|.iface t v,.iface t' v'=>Nat.beq t t'&&eqv v v'|.nili,.nili=>true|.agg a,.agg b=>Hf a b|.tup a,.tup b=>Hf a b|.sel i,.sel j=>Nat.beq i j|.stok i,.stok j=>Nat.beq i j|.tok i,.tok j=>Nat.beq i j|.one a,.one b=>Hf a b|_,_=>false
def Hf:List AV→List AV→Bool
 |[],[]=>true|a::as',b::bs=>eqv a b&&Hf as' bs|_,_=>false
end
inductive DK where
 |f|a|e|no
def R1:Builtin→DK
 |.len|.cap|.max|.min|.unsafeSliceData=>.f|.append|.copy|.delete|.clear|.unsafeString=>.e|_=>.no
def kindOf (E:Env):Op→DK
 |.move _|.assign _|.pick .. | .build .. | .load .. | .nilCheck _|.binOp .. | .unOp .. | .makeInterface .. | .makeFunc .. | .slice .. | .fieldAddr .. | .field .. | .indexAddr .. | .index .. | .lookup .. | .typeAssert .. | .extract ..=>.f|.convert _ d _=>match E.ty d with
  |some { und:=.slice _,.. }=>.no|_=>.f
 |.alloc _|.box .. | .buildSlice .. | .makeSlice .. | .makeMap ..=>.a|.store .. | .mapUpdate ..=>.e|.call c=>match c.callee with
  |.builtin b=>R1 b|_=>.e
 |_=>.no
def BT (E:Env)(op:Op)(ev:Operand→AV):Option (AO×(Nat→AV)):=
 match op with
 |.alloc e=>match E.ty e with
  |some i=>some (.cells e i.zero.cells,fun o=>.ptr o 0)
  |none=>none
 |.box e x=>let xs:=(ev x).cells;bif AV.A8 xs then some (.cells e xs,fun o=>.ptr o 0) else none
 |.buildSlice t len ps=>match E.ty t with
  |some { und:=.slice el,.. }=>match E.ty el with
   |some ei=>match Ee (fun j=>some (j*ei.size,ei.size)) (Gc ei.zero.cells len) (CH ev ps) with
    |some cs=>bif AV.A8 cs&&Nat.ble (len*ei.size) 65536 then some (.cells el cs,fun o=>.sl o 0 len ei.size (some len)) else none
    |none=>none
   |none=>none
  |_=>none
 |.makeSlice t l c=>match E.ty t with
  |some { und:=.slice el,.. }=>match E.ty el with
   |some ei=>match asNat (ev l),asNat (ev c) with
    |some l,some c=>bif Nat.ble l c&&Nat.ble c 1048576&&Nat.ble ei.bytes 4096&&AV.A8 ei.zero.cells then some (.cells el (Gc ei.zero.cells c),fun o=>.sl o 0 l ei.size (some c)) else none
    |_,_=>none
   |none=>none
  |_=>none
 |.makeMap t none=>match E.ty t with
  |some { und:=.map _ _,.. }=>some (.map [] 0,fun o=>.map o)
  |_=>none
 |_=>none
def H7 (E:Env)(o:Oper)(tmps:T AV)(h:AH):Option AV:=
 match kindOf E o.op with
 |.f=>match B4 E o (Bj E tmps) h with
  |some (.val v _)=>some v|_=>none
 |_=>none
structure DSt where
 tmps:T AV
 h:AH
 rd:AH
 pend:List (Nat×Nat×AO)
 old:List (Nat×AH)
 pan:Option (Nat×List (AV×Bool))
 log:List (Nat×T AV)
def Be (bs:Array Nat)(i j:Nat):Bool:=(bs.getD i 0).testBit j
def AH.lay (h:AH):List (Nat×Nat×AO)→AH
 |[]=>h|(_,o,x)::r=>AH.lay (h.set o (some x)) r
def FF (bs:Array Nat)(pan:Option (Nat×List (AV×Bool)))(i:Nat):Bool:=
 match pan with
 |some (e,_)=>Be bs i e|none=>false
def C5 (E:Env)(callf:AV→List AV→AH→Option (AG×AH×RC))(cn:Nat)(ops:Array Oper)(bs:Array Nat)(base:Nat):List Nat→DSt→Option DSt
 |[],s=>some s|i::rest,s=>bif FF bs s.pan i then C5 E callf cn ops bs base rest s else match ops[i]? with
  |none=>none|some o=>match AZ ops o s.tmps with
   |none=>none|some false=>match AW cn o.dst AM s.tmps with
    |some t=>C5 E callf cn ops bs base rest { s with log:=(i,s.tmps)::s.log,tmps:=t }
    |none=>none
   |some true=>match kindOf E o.op with
    |.no=>none|.f=>match H7 E o s.tmps s.rd with
     |none=>none|some v=>match AW cn o.dst v s.tmps with
      |some t=>C5 E callf cn ops bs base rest { s with log:=(i,s.tmps)::s.log,tmps:=t }
      |none=>none
    |.a=>match BT E o.op (Bj E s.tmps) with
     |none=>none|some (x,f)=>match AW cn o.dst (f (base+i)) s.tmps with
      |some t=>C5 E callf cn ops bs base rest { s with log:=(i,s.tmps)::s.log,tmps:=t,pend:=(i,base+i,x)::s.pend }
      |none=>none
    |.e=>
     bif s.pan.isNone&&s.old.all fun p=>Be bs i p.1 then
      let due:=s.pend.filter fun p=>Be bs i p.1
      let left:=s.pend.filter fun p=>!Be bs i p.1
      let h:=AH.lay s.h due
      match B4 E o (Bj E s.tmps) h with
      |some (.val v h')=>match AW cn o.dst v s.tmps with
       |some t=>C5 E callf cn ops bs base rest { s with log:=(i,s.tmps)::s.log,tmps:=t,h:=h',rd:=h',pend:=left,old:=(i,s.h)::s.old }
       |none=>none
      |some (.call fv args)=>match callf fv args h with
       |some (.ret v,h',_)=>match AW cn o.dst v s.tmps with
        |some t=>C5 E callf cn ops bs base rest { s with log:=(i,s.tmps)::s.log,tmps:=t,h:=h',rd:=h',pend:=left,old:=(i,s.h)::s.old }
        |none=>none
       |some (.pan ch,h',_)=>C5 E callf cn ops bs base rest { s with log:=(i,s.tmps)::s.log,h:=h',pend:=left,old:=(i,s.h)::s.old,pan:=some (i,ch) }
       |none=>none
      |_=>none
     else none
def Fp (ops:Array Oper)(o:Oper):List Nat:=
 (match o.guard with
  |some (j,_)=>((ops[j]?).bind (·.dst)).toList|none=>[])++(o.op.operands.toList.filterMap fun|.tmp t=>some t|_=>none)
def JR (ops:Array Oper)(bs:Array Nat):Bool:=
 (List.range ops.size).all fun j=>match ops[j]? with
  |some q=>(q.after.all fun e=>!Region.binds .any e||Nat.blt e.on j)&&match q.dst with
   |some t=>(List.range ops.size).all fun i=>match ops[i]? with
    |some o=>(!(Fp ops o).contains t||bif Nat.blt j i then Be bs i j else Nat.beq i j||Be bs j i)&&(Nat.beq i j || !decide (o.dst=some t))
    |none=>true
   |none=>true
  |none=>true
def Ke (T':T AV)(dst:Option Nat)(v:AV):Bool:=
 match dst with
 |none=>true|some d=>match T.get AE T' d with
  |some u=>eqv v u|none=>false
def GV (E:Env)(o:Oper)(tmps T':T AV):Option AH→Bool
 |none=>true|some h=>match H7 E o tmps h with
  |some v=>Ke T' o.dst v|none=>false
def FV (E:Env)(bs:Array Nat)(i:Nat)(o:Oper)(tmps T':T AV)(pre suf:List Nat)(h:Option AH):Bool:=
 pre.any (fun e=>Be bs e i)||(suf.any (fun e=>Be bs i e)||GV E o tmps T' h)
def Du (E:Env)(bs:Array Nat)(i:Nat)(o:Oper)(tmps T':T AV)(hend:Option AH):List Nat→List (Nat×AH)→Bool
 |pre,[]=>FV E bs i o tmps T' pre [] hend|pre,(e,h)::r=>FV E bs i o tmps T' pre (e::r.map (·.1)) (some h)&&Du E bs i o tmps T' hend (e::pre) r
def Oj (E:Env)(ops:Array Oper)(bs:Array Nat)(base:Nat)(T':T AV)(hend:Option AH)(st:List (Nat×AH))(i:Nat)(tmps:T AV):Bool:=
 match ops[i]? with
  |none=>false|some o=>match AZ ops o tmps with
   |none=>false|some false=>Ke T' o.dst AM|some true=>match kindOf E o.op with
    |.no=>false|.f=>Du E bs i o tmps T' hend [] st|.a=>match BT E o.op (Bj E tmps) with
     |some (_,f)=>Ke T' o.dst (f (base+i))|none=>false
    |.e=>st.any fun p=>Nat.beq p.1 i
def forget (ops:List Oper)(t:T AV):T AV:=ops.foldl (fun t o=>match o.dst with|some d=>bif Nat.blt d B9 then T.put AE t d (some .any) else t|none=>t) t
def Ki (E:Env)(callf:AV→List AV→AH→Option (AG×AH×RC))(cn:Nat)(ops:Array Oper)(tmps:T AV)(h:AH):Option (T AV×AH×Option (List (AV×Bool))):=
 let bs:=Region.before ops
 let h0:AH:=⟨h.m,h.next+ops.size⟩
 bif JR ops bs&&Nat.blt (h.next+ops.size) BF then
  match C5 E callf cn ops bs h.next (List.range ops.size) ⟨tmps,h0,h0,[],[],none,[]⟩ with
  |some s=>
   let hend:=match s.pan with|some _=>none|none=>some s.h
   bif s.log.all (fun p=>Oj E ops bs h.next s.tmps hend s.old.reverse p.1 p.2) then
    match s.pan with
    |none=>some (s.tmps,AH.lay s.h s.pend,none)|some (_,ch)=>some (forget ops.toList tmps,s.h,some ch)
   else none
  |none=>none
 else none
def Sa (E:Env)(f:FuncId)(kind:CallKind)(args:List AV)(h:AH):Option (AV×AH):=
 match E.prim f with
 |some p=>match kind with
  |.normal=>p args h|_=>none
 |none=>none
def panA (E:Env)(f:FuncId)(kind:CallKind)(args:List AV)(h:AH):Option (List (AV×Bool)×AH):=
 match E.pan f with
 |some p=>match kind with
  |.normal=>p args h|_=>none
 |none=>none
def ev (E:Env):Nat→Cmd→AH→RC→Option (AG×AH×RC)
 |0,_,_,_=>none|n+1,.run c tmps todo defs,h,rc=>
  let leave (jump:Option Code):Option (AG×AH×RC):=
   match c.round with
   |none=>match jump with
    |none|some .ret=>ev E n (.unw c .ret tmps defs) h rc|_=>none
   |some l=>match defs with
    |[]=>match h.get l with
     |some (.loop _ _ fn k ts ps as' bd d)=>some (.ret (.bool jump.isNone),h.set l (some (.loop (match jump with|none=>.ready|some _=>.done) jump fn k ts ps as' bd d)),rc)
     |_=>none
    |_=>none
  match todo with
  |[]=>leave none|.code .ret::_=>leave (some .ret)|.code .skip::k|.code (.label _)::k|.inBlock _::k|.inScope _::k=>ev E n (.run c tmps k defs) h rc|.code (.seq a b)::k=>ev E n (.run c tmps (.code a::.code b::k) defs) h rc|.code (.cond x a b)::k=>match Bj E tmps x with
   |.bool t=>ev E n (.run c tmps (.code (bif t then a else b)::k) defs) h rc
   |_=>none
  |.code (.block id body)::k=>ev E n (.run c tmps (.code body::.inBlock id::k) defs) h rc|.code (.loop body)::k|.inLoop body::k=>ev E n (.run c tmps (.code body::.inLoop body::k) defs) h rc|.code (.scope body)::k=>ev E n (.run c tmps (.code body::.inScope body::k) defs) h rc|.code (.exit id)::k=>match exitTo id k with
   |some k'=>ev E n (.run c tmps k' defs) h rc|none=>leave (some (.exit id))
  |.code (.goto l)::k=>match gotoIn l k with
   |some k'=>ev E n (.run c tmps k' defs) h rc|none=>leave (some (.goto l))
  |.code (.region _ ops false)::k=>ev E n (.run c tmps (.inRegion ops (List.range ops.size)::k) defs) h rc|.code (.region _ ops true)::k=>match Ki E (fun fv args h=>ev E n (.call fv args .normal) h .no) c.n ops tmps h with
   |some (tmps',h',none)=>ev E n (.run c tmps' k defs) h' rc|some (tmps',h',some ch)=>ev E n (.unw c (.pan ch) tmps' defs) h' rc|none=>none
  |.inRegion _ []::k=>ev E n (.run c tmps k defs) h rc|.inRegion ops (i::rest)::k=>match ops[i]? with
   |none=>none|some o=>match AZ ops o tmps with
    |none=>none|some false=>match AW c.n o.dst AM tmps with
     |some tmps'=>ev E n (.run c tmps' (.inRegion ops rest::k) defs) h rc|none=>none
    |some true=>match B4 E o (Bj E tmps) h with
     |some (.val v h')=>match AW c.n o.dst v tmps with
      |some tmps'=>ev E n (.run c tmps' (.inRegion ops rest::k) defs) h' rc|none=>none
     |some (.call fv args)=>match ev E n (.call fv args .normal) h .no with
      |some (.ret v,h',_)=>match AW c.n o.dst v tmps with
       |some tmps'=>ev E n (.run c tmps' (.inRegion ops rest::k) defs) h' rc|none=>none
      |some (.pan ch,h',_)=>ev E n (.unw c (.pan ch) tmps defs) h' rc|none=>none
     |some (.defer d)=>match c.round,AW c.n o.dst AM tmps with
      |none,some tmps'=>ev E n (.run c tmps' (.inRegion ops rest::k) (d::defs)) h rc|_,_=>none
     |some .recover=>match c.round with
      |some _=>none|none=>match rc with
       |.can v=>match AW c.n o.dst v tmps with
        |some tmps'=>ev E n (.run c tmps' (.inRegion ops rest::k) defs) h .used|none=>none
       |rc=>match AW c.n o.dst .nili tmps with
        |some tmps'=>ev E n (.run c tmps' (.inRegion ops rest::k) defs) h rc|none=>none
     |some (.panic v)=>ev E n (.unw c (.pan [(v,false)]) tmps defs) h rc|none=>none
  |.code (.rangeFunc f ps as' bd)::k=>
   match (match c.round with
    |none=>match h.alloc (.dfr true) with
     |some (o,h')=>some (o,[AD.mark o],h')|none=>none
    |some l=>match h.get l with
     |some (.loop _ _ _ _ _ _ _ _ d)=>some (d,[],h)|_=>none) with
   |none=>none|some (d,mark,h1)=>match h1.alloc (.loop .ready none c.fn c.n tmps ps.toList as' bd d) with
    |none=>none|some (l,h2)=>match ev E n (.call (Bj E tmps f) [.func (.yield l) [] []] .normal) h2 .no with
     |some (.ret _,h3,_)=>ev E n (.run c tmps (.endRangeFunc l::k) (mark++defs)) h3 rc|some (.pan ch,h3,_)=>ev E n (.unw c (.pan ch) tmps (mark++defs)) h3 rc|none=>none
  |.endRangeFunc l::k=>match h.get l with
   |some (.loop st pend fn m ts ps as' bd d)=>match st with
    |.busy=>none|_=>ev E n (.run c tmps (match pend with|some j=>.code j::k|none=>k) defs) (h.set l (some (.loop .exhausted pend fn m ts ps as' bd d))) rc
   |_=>none
  |.beginRound::k=>match c.round with
   |some l=>match h.get l with
    |some (.loop .ready pend fn m ts ps as' bd d)=>ev E n (.run c tmps k defs) (h.set l (some (.loop .busy pend fn m ts ps as' bd d))) rc|_=>none
   |none=>none
  |_=>none
 |n+1,.unw c m tmps defs,h,rc=>match c.round with
  |some _=>match m,defs,E.fn c.fn with
   |.pan ch,[],some _=>some (.pan ch,h,rc)|_,_,_=>none
  |none=>match defs with
   |[]=>match m with
    |.ret=>match E.fn c.fn with
     |some F=>match Ec E h tmps F.results.toList with
      |some vs=>some (.ret (M4 vs),h,rc)|none=>none
     |none=>none
    |.pan ch=>match E.fn c.fn with
     |some _=>some (.pan ch,h,rc)|none=>none
   |.mark o::ds=>match h.get o with
    |some (.dfr true)=>ev E n (.unw c m tmps ds) (h.set o (some (.dfr false))) rc|_=>none
   |.call fv args::ds=>match ev E n (.call fv args .deferred) h (NM m) with
    |some (.ret _,h',rc')=>ev E n (.unw c (settle m rc') tmps ds) h' rc|some (.pan _,_,_)=>none|none=>none
 |n+1,.call fv args kind,h,rc=>
  let enter (f:FuncId) (args:List AV):Option (AG×AH×RC):=
   match Sa E f kind args h with
   |some (v,h')=>some (.ret v,h',rc)|none=>match panA E f kind args h with
    |some (ch,h')=>some (.pan ch,h',rc)|none=>match E.fn f with
     |some F=>match F.body with
      |some b=>bif Nat.ble args.length F.ntmps&&Nat.blt F.ntmps B9 then ev E n (.run ⟨f,F.ntmps,kind,none⟩ (Dy 0 args .e) [.code b] []) h rc else none
      |none=>none
     |none=>none
  match fv with
  |.func (.func f) first cap=>enter f (first++(args++cap))
  |.func (.method name) first _=>match first++args with
   |.iface t v::rest=>match E.meth t name with
    |some f=>enter f (v::rest)|none=>none
   |_=>none
  |.func (.yield l) _ _=>match kind with
   |.normal=>match h.get l with
    |some (.loop _ _ fn m ts ps as' bd _)=>bif Nat.beq args.length ps.length&&ps.all (fun p=>Nat.blt p m&&Nat.blt p B9) then ev E n (.run ⟨fn,m,.normal,some l⟩ (DS ps args ts) [.code as',.beginRound,.code bd] []) h rc else none
    |_=>none
   |_=>none
  |_=>none
structure TyOk (P:Program)(t:TypeId)(i:TI):Prop where
 und:P.underlying t=some i.und
 info:∃inf z,P.info? t=some inf∧inf.size=i.size∧inf.bytes=i.bytes∧inf.zero=some z∧(∀k w,VR k w i.zero z)∧z.cells.size=i.size
 agg:i.agg=(match i.und with|.struct _|.array _ _=>true|_=>false)
 zero:AV.A8 i.zero.cells=true
structure Az (P:Program)(E:Env):Prop where
 ty:∀t i,E.ty t=some i→TyOk P t i
 fn:∀f F,E.fn f=some F→P.funcs[f]?=some F∧F.name≠ "runtime.NumGoroutine"
 meth:∀t name f,E.meth t name=some f→∀v w,(method (P.types.size+Made.depth) t v name).run P w=.ok (f,v) w
 impl:∀t a b,E.impl t a=some b→∃want inf,P.underlying a=some (.interface want)∧P.info? t=some inf∧(Instr.missingMethod want inf.methods).isNone=b
 eqt:∀t ds,E.eqt t=some ds→∀(w:World) (xs ys:Array Value) (k:K) (as bs:List AV) (r:Bool),VRL k w as xs.toList→VRL k w bs ys.toList→as.length=ds.length→bs.length=ds.length→C8 ds as bs=some r→
  P.eqGuardType P.depth t=false∧(Op.equal t (.agg xs) (.agg ys)).run P w=.ok r w
 mixed:P.follows .mixedOrders=true
 bin:∀op t x y r,E.bin op t x y=some r→∀(k:K) (w:World) (a b:Value),k.sz=⟨P.cellsOf,E.sel,E.tok,E.str,E.mp⟩ →VR k w x a→VR k w y b→∃v,(∀xs ys,a=.agg xs→b=.agg ys→P.eqGuardType P.depth t=false)∧¬(a=.nilIface∧b=.nilIface)∧(binOp op t a b).run P w=.ok v w∧VR k w r v
 len:∀i r,E.len i=some r→∀(k:K) (w:World) (v:Value),k.sz=⟨P.cellsOf,E.sel,E.tok,E.str,E.mp⟩ →VR k w (.sel i) v→∃a n c,v=.slice a n c∧VR k w r (.int .i64 n)
 slen:∀i r,E.slen i=some r→∀(k:K) (w:World) (v:Value),k.sz=⟨P.cellsOf,E.sel,E.tok,E.str,E.mp⟩ →VR k w (.sel i) v→∃s:ByteArray,v=.string s∧VR k w r (.int .i64 s.size)
 sat:∀j i r,E.sat j i=some r→∀(k:K) (w:World) (v:Value),k.sz=⟨P.cellsOf,E.sel,E.tok,E.str,E.mp⟩ →VR k w (.sel j) v→∃(s:ByteArray) (u:UInt8),v=.string s∧s[i]?=some u∧VR k w r (.int .u8 (u.toNat:Int))
def Whole (w:World)(g n:Nat):Prop:=∃arr e fr,w.heap[g]?=some (Obj.cells arr e fr)∧arr.size=n
def B3 (E:Env)(k:K)(w:World):Prop:=∀g cells,E.glob g=some cells→k.fz g∧VRC k w g cells 0∧Whole w g cells.length
theorem B3.mono {E:Env}{k k':K}{w w':World}(h:Le k k' w w')(g:B3 E k w):B3 E k' w':=
 fun x cells hc=>⟨h.fz _ (g x cells hc).1,VRC.mono h _ (g x cells hc).1 _ _ (g x cells hc).2.1,let⟨arr,e,fr,h1,h2⟩:=(g x cells hc).2.2;⟨arr,e,fr,by rw[h.same x (g x cells hc).1];exact h1,h2⟩⟩
theorem E0 {P:Program}{E:Env}(hE:Az P E){t:TypeId}{i:TI}(h:E.ty t=some i)(w:World):(underlying t).run P w=.ok i.und w:=
 run_underlying (hE.ty t i h).und w
theorem AX {P:Program}{E:Env}(hE:Az P E){t:TypeId}{i:TI}(h:E.ty t=some i)(w:World):(sizeOf t).run P w=.ok i.size w:=by obtain⟨inf,z,h1,h2,_⟩:=(hE.ty t i h).info;simp[sizeOf,typeInfo,h1,h2]
theorem IJ {P:Program}{E:Env}(hE:Az P E){t:TypeId}{i:TI}(h:E.ty t=some i)(w:World):∃inf:TypeInfo,(typeInfo t).run P w=.ok inf w∧inf.bytes=i.bytes∧inf.size=i.size:=by obtain⟨inf,z,h1,h2,h3,_⟩:=(hE.ty t i h).info;exact⟨inf,by simp[typeInfo,h1],h3,h2⟩
theorem MB {P:Program}{E:Env}(hE:Az P E){t:TypeId}{i:TI}(h:E.ty t=some i)(w:World):(isAgg t).run P w=.ok i.agg w:=by have hu:=E0 hE h w;have ha:=(hE.ty t i h).agg;simp only[isAgg,zJ,hu,zF];rw[ha];cases i.und<;>rfl
theorem EM {P:Program}{E:Env}(hE:Az P E){t:TypeId}{i:TI}(h:E.ty t=some i)(w:World) :
 ∃z,(zeroValue t).run P w=.ok z w∧(∀k w,VR k w i.zero z)∧z.cells.size=i.size:=by
 obtain⟨inf,z,h1,h2,h3,h4,h5,h6⟩:=(hE.ty t i h).info;exact⟨z,by simp[zeroValue,typeInfo,h1,h4],h5,h6⟩
theorem VRL.choose {k:K}{w:World} : ∀{cs:List AV} (Q:Nat→Value→Prop),(∀(j:Nat) (x:AV),cs[j]?=some x→∃v,Q j v∧VR k w x v)→
 ∃vs,VRL k w cs vs∧∀(j:Nat) (v:Value),vs[j]?=some v→Q j v
 |[],_,_=>⟨[],by simp only[VRL],fun j v h=>by simp at h⟩
 |x::xs,Q,h=>by
  obtain⟨v,h1,h2⟩:=h 0 x (by simp);obtain⟨vs,h3,h4⟩:=VRL.choose (cs:=xs) (fun j v=>Q (j+1) v) (fun j y hy=>h (j+1) y (by simpa using hy));refine⟨v::vs,?_,fun j u hu=>?_⟩
  ·simp only[VRL];exact⟨v,vs,rfl,h2,h3⟩
  ·cases j with
   |zero=>simp at hu;subst hu;exact h1
   |succ j=>exact h4 j u (by simpa using hu)
theorem Es {cs r:List AV}{off n:Nat}(h:seg cs off n=some r):r.length=n∧∀(j:Nat) (x:AV),r[j]?=some x→cs[off+j]?=some x:=by
 rw[seg_eq]at h;unfold segC at h;cases hb:Nat.beq ((cs.drop off).take n).length n with
 |false=>simp only[hb,cond_false]at h;cases h
 |true=>
  simp only[hb,cond_true,zC]at h;subst h;refine⟨zD hb,fun j x hx=>?_⟩;rw[List.getElem?_take]at hx;split at hx
  ·rwa[List.getElem?_drop]at hx
  ·cases hx
theorem Cr (b s j:Nat):(⟨b,s,none⟩:Addr).add j=⟨b,s+j,none⟩:=by unfold Addr.add;split<;>simp_all
theorem cell_of_heap {w:World}{b i:Nat}{arr:Array Value}{e:TypeId}{fr:Nat×Nat}(h:w.heap[b]?=some (.cells arr e fr)):w.cell? ⟨b,i,none⟩=arr[i]?:=by simp[World.cell?,h]
theorem QZ {k:K}{w:World}{h:AH}(hr:HR k h w){a:AV}{va:Value}(ha:VR k w a va){n:Nat}{cs:List AV}(hc:QD h a n=some cs) :
 ∃(ad:Addr) (vs:List Value),va=.pointer (some ad)∧cs.length=n∧VRL k w cs vs∧∀(j:Nat) (v:Value),vs[j]?=some v→w.cell? (ad.add j)=some v:=by
 cases a<;>simp only[QD]at hc<;>try (cases hc;done)
 case ptr o off=>
  simp only[VR]at ha;obtain⟨b,sh,h1,h2⟩:=ha;cases hg:h.get o with
  |none=>simp[hg]at hc|some ob=>
   cases ob<;>simp only[hg]at hc<;>try (cases hc;done)
   rename_i e cells;obtain⟨b',sh',h3,h4⟩:=hr.obj o _ hg;rw[h1]at h3;cases h3;obtain⟨arr,fr,h5,h6,h7,_⟩:=h4;obtain⟨h8,h9⟩:=Es hc;obtain⟨vs,h10,h11⟩:=VRL.choose (k:=k) (w:=w) (cs:=cs) (fun j v=>w.cell? ((⟨b,sh+off,none⟩:Addr).add j)=some v) (fun j x hx=>by obtain⟨v,h12,h13⟩:=h7 _ _ (h9 j x hx);refine⟨v,?_,h13⟩;rw[Cr,cell_of_heap h5,Nat.add_assoc];exact h12);exact⟨_,vs,h2,h8,h10,h11⟩
 case pptr cells off=>
  simp only[VR]at ha;obtain⟨b,sh,h1,h2,h3⟩:=ha;obtain⟨h8,h9⟩:=Es hc;obtain⟨vs,h10,h11⟩:=VRL.choose (k:=k) (w:=w) (cs:=cs) (fun j v=>w.cell? ((⟨b,sh+off,none⟩:Addr).add j)=some v) (fun j x hx=>by obtain⟨v,h12,h13⟩:=VRC.get h3 _ _ (h9 j x hx);refine⟨v,?_,h13⟩;rw[Cr,Nat.add_assoc];exact h12);exact⟨_,vs,h1,h8,h10,h11⟩
theorem RY {k:K}{w:World}{g:Bool}{cs:List AV}{v':AV}{vs:List Value}(h:NJ g cs=some v')(hv:VRL k w cs vs) :
 (g=true∧VR k w v' (.agg vs.toArray))∨(g=false∧∃v,vs=[v]∧VR k w v' v):=by
 cases g with
 |true=>simp only[NJ,cond_true,zC]at h;subst h;left;exact⟨rfl,by simp only[VR];exact⟨_,rfl,by simpa using hv⟩⟩
 |false=>
  right
  refine⟨rfl,?_⟩
  match cs,h with
  |[c],h=>simp only[NJ,cond_false,zC]at h;subst h;simp only[VRL]at hv;obtain⟨v,vs',rfl,h1,h2⟩:=hv;exact⟨v,by simp[h2],h1⟩
  |[],h=>simp[NJ]at h|_::_::_,h=>simp[NJ]at h
theorem Nn {P:Program}{E:Env}(hE:Az P E){t:TypeId}{i:TI}(ht:E.ty t=some i){w:World}{k:K}{ad:Addr}{cs:List AV}{vs:List Value}{v':AV}
 (hn:cs.length=i.size) (hv:VRL k w cs vs) (hc:∀(j:Nat) (v:Value),vs[j]?=some v→w.cell? (ad.add j)=some v) (hp:NJ i.agg cs=some v') :
 ∃v,(loadVar t ad).run P w=.ok v w∧VR k w v' v:=by
 have hl:=hv.length;rcases RY hp hv with⟨hg,h1⟩|⟨hg,v,rfl,h1⟩
 ·refine⟨_,?_,h1⟩;have:=run_loadCells_list (P:=P) w ad vs hc;rw[hl,hn]at this;simp[loadVar,MB hE ht,hg,AX hE ht,this]
 ·refine⟨v,?_,h1⟩;have:=hc 0 v (by simp);rw[Addr.add_zero']at this;simp[loadVar,MB hE ht,hg,this]
theorem LK {P:Program}{E:Env}(hE:Az P E){t:TypeId}{i:TI}(ht:E.ty t=some i){w:World}{k:K}{h:AH}(hr:HR k h w){a:AV}{va:Value}(ha:VR k w a va)
 {v':AV} (hl:Pd i h a=some v'):∃(ad:Addr) (v:Value),va=.pointer (some ad)∧(loadVar t ad).run P w=.ok v w∧VR k w v' v:=by
 unfold Pd at hl;cases hc:QD h a i.size with
 |none=>simp[hc]at hl|some cs=>simp only[hc]at hl;obtain⟨ad,vs,h1,h2,h3,h4⟩:=QZ hr ha hc;obtain⟨v,h5,h6⟩:=Nn hE ht h2 h3 h4 hl;exact⟨ad,v,h1,h5,h6⟩
def L5:Array Value→Nat→List Value→Array Value
 |arr,_,[]=>arr|arr,o,v::r=>L5 (arr.setIfInBounds o v) (o+1) r
theorem Dc:∀(vs:List Value) (arr:Array Value) (o:Nat),(L5 arr o vs).size=arr.size
 |[],_,_=>rfl|v::r,arr,o=>by rw[L5,Dc r];simp
theorem Hk:∀(vs:List Value) (arr:Array Value) (o j:Nat),(L5 arr o vs)[j]?=if o≤j∧j<o+vs.length∧j<arr.size then vs[j-o]? else arr[j]?
 |[],arr,o,j=>by simp[L5];intro h1 h2;omega
 |v::r,arr,o,j=>by
  rw[L5,Hk r];simp only[Array.size_setIfInBounds,List.length_cons,Array.getElem?_setIfInBounds];by_cases h:o+1≤j∧j<o+1+r.length∧j<arr.size
  ·rw[if_pos h,if_pos (by omega)];rw[show j-o=(j-(o+1))+1 by omega];simp
  ·rw[if_neg h];by_cases e:o=j
   ·subst e;by_cases hs:o<arr.size
    ·rw[if_pos rfl,if_pos hs,if_pos (by omega)];simp
    ·rw[if_pos rfl,if_neg hs,if_neg (by omega)];rw[Array.getElem?_eq_none (by omega)]
   ·rw[if_neg e,if_neg (by omega)]
theorem F3 (b:Nat):∀(vs:List Value) (o:Nat) (w:World) (arr:Array Value) (e:TypeId) (fr:Nat×Nat),w.heap[b]?=some (.cells arr e fr)→
 (w.setCells b o vs).heap[b]?=some (.cells (L5 arr o vs) e fr)∧(∀b',b'≠b→(w.setCells b o vs).heap[b']?=w.heap[b']?)∧(w.setCells b o vs).heap.size=w.heap.size∧
 (w.setCells b o vs).os=w.os∧(w.setCells b o vs).tape=w.tape∧(w.setCells b o vs).output=w.output∧(w.setCells b o vs).drawn=w.drawn
 |[],o,w,arr,e,fr,h=>⟨h,fun _ _=>rfl,rfl,rfl,rfl,rfl,rfl⟩
 |v::r,o,w,arr,e,fr,h=>by
  have h1:(w.setCell ⟨b,o,none⟩ v).heap[b]?=some (.cells (arr.setIfInBounds o v) e fr):=by simp[World.setCell,Array.getElem?_modify,h]
  obtain⟨h2,h3,h4,h5,h6,h7,h8⟩:=F3 b r (o+1) (w.setCell ⟨b,o,none⟩ v) _ _ _ h1;refine⟨h2,fun b' hb=>?_,?_,h5,h6,h7,h8⟩
  ·rw[World.setCells,h3 b' hb];simp only[World.setCell,Array.getElem?_modify];rw[if_neg (fun e=>hb e.symm)]
  ·rw[World.setCells,h4];simp
theorem FC {w:World}{b i:Nat}{arr:Array Value}{e:TypeId}{fr:Nat×Nat}(h:w.heap[b]?=some (.cells arr e fr))(hf:fr.2=0∨arr.size≤fr.1)(hi:i<arr.size):w.frozen? ⟨b,i,none⟩=false:=by
 obtain⟨lo,hi'⟩:=fr;simp only[World.frozen?,h];simp only at hf;rcases hf with rfl|hf
 ·simp
 ·simp;omega
theorem Fg {cs xs r:List AV}{off:Nat}(h:CV cs off xs=some r):off+xs.length≤cs.length∧r.length=cs.length∧
 ∀(j:Nat),r[j]?=if off≤j∧j<off+xs.length then xs[j-off]? else cs[j]?:=by
 rw[XN]at h;unfold Q8 at h;cases hb:Nat.ble (off+xs.length) cs.length with
 |false=>simp[hb]at h|true=>
  simp only[hb,cond_true,zC]at h;subst h;have hle:=zE hb;refine⟨hle,by simp;omega,fun j=>?_⟩;rw[List.getElem?_append,List.length_take,Nat.min_eq_left (by omega)];by_cases h1:j<off
  ·rw[if_pos h1,if_neg (by omega),List.getElem?_take,if_pos h1]
  ·rw[if_neg h1,List.getElem?_append];by_cases h2:j-off<xs.length
   ·rw[if_pos h2,if_pos (by omega)]
   ·rw[if_neg h2,if_neg (by omega),List.getElem?_drop];congr 1;omega
theorem HR.setCells {P:Program}{k:K}{h:AH}{w:World}(hr:HR k h w){o:Nat}{e:TypeId}{cs:List AV}(hg:h.get o=some (.cells e cs)){b sh:Nat}(hρ:k.ρ o=some (b,sh))
 {off:Nat} {xs:List AV} {cs':List AV} (hs:CV cs off xs=some cs') {vs:List Value} (hv:VRL k w xs vs) (h1:∀u∈vs,u.oneCell'=true) :
 (storeCells ⟨b,sh+off,none⟩ vs).run P w=.ok () (w.setCells b (sh+off) vs)∧
 HR k (h.set o (some (.cells e cs'))) (w.setCells b (sh+off) vs)∧Ev k k h (h.set o (some (.cells e cs'))) w (w.setCells b (sh+off) vs):=by
 obtain⟨b',sh',h2,arr,fr,h3,h4,h5,h10,h11⟩:=hr.obj o _ hg;rw[hρ]at h2;cases h2;obtain⟨g1,g2,g3⟩:=Fg hs;have hl:=hv.length;obtain⟨c1,c2,c3,c4,c5,c6,_⟩:=F3 b vs (sh+off) w arr e fr h3;refine⟨?_,?_⟩
 ·have:=run_storeCells_cells (P:=P) b (sh+off) vs 0 w (fun j hj=>by rw[cell_of_heap h3];simp;omega) (fun j hj=>FC h3 h11 (by omega)) h1;simpa using this
 ·refine hr.write hg hρ c4 c5 c6 c3 c2 (fun arr' e' fr hx=>?_) (fun le=>?_)
  ·rw[h3]at hx;cases hx;exact⟨_,_,c1,Dc _ _ _⟩
  ·refine⟨_,fr,c1,by rw[Dc,g2];exact h4,fun i x hx=>?_,h10,by rw[Dc];exact h11⟩;rw[g3]at hx;by_cases hi:off≤i∧i<off+xs.length
   ·rw[if_pos hi]at hx;obtain⟨v,h6,h7⟩:=hv.get _ _ hx;refine⟨v,?_,VR.mono le _ _ h7⟩;rw[Hk,if_pos (by omega)];rw[show sh+i-(sh+off)=i-off by omega];exact h6
   ·rw[if_neg hi]at hx;obtain⟨v,h6,h7⟩:=h5 i x hx;refine⟨v,?_,VR.mono le _ _ h7⟩;rw[Hk,if_neg (by omega)];exact h6
theorem QL {P:Program}{E:Env}(hE:Az P E){t:TypeId}{i:TI}(ht:E.ty t=some i){w:World}{k:K}{h h':AH}(hr:HR k h w){a x:AV}{va vx:Value}(ha:VR k w a va)(hx:VR k w x vx)
 (hs:Ot i h a x=some h'):∃(ad:Addr) (w':World),va=.pointer (some ad)∧(storeVar t ad vx).run P w=.ok () w'∧HR k h' w'∧Ev k k h h' w w':=by
 unfold Ot at hs;cases hb:(Nat.beq x.cells.length i.size&&AV.A8 x.cells) with
 |false=>simp[hb]at hs|true=>
  simp only[hb,cond_true]at hs;simp only[zA]at hb;have hn:=zD hb.1;obtain⟨hc,h1⟩:=hx.cells hb.2;cases a<;>simp only at hs<;>try (cases hs;done)
  rename_i o off;cases hg:h.get o with
  |none=>simp[hg]at hs|some ob=>
   cases ob<;>simp only[hg]at hs<;>try (cases hs;done)
   rename_i e cs;cases hsp:CV cs off x.cells with
   |none=>simp[hsp]at hs|some cs'=>
    simp only[hsp,zC]at hs;subst hs;simp only[VR]at ha;obtain⟨b,sh,hρ,rfl⟩:=ha;obtain⟨r1,r2,r3⟩:=HR.setCells (P:=P) hr hg hρ hsp hc h1;refine⟨_,_,rfl,?_,r2,r3⟩;have hlen:vx.cells.size=i.size:=by have:=hc.length;simpa[hn]using this
    simp[storeVar,AX hE ht,hlen,r1]
def Bz (k:K)(h:AH)(w:World)(v':AV)(h':AH)(r:Result Next):Prop:=
 ∃nx w' k',r=.ok nx w'∧((∃v,nx=.value v∧VR k' w' v' v)∨(nx=.skip∧v'=AM))∧HR k' h' w'∧Ev k k' h h' w w'
theorem Bz.pure {k:K}{h:AH}{w:World}{v':AV}{v:Value}(hr:HR k h w)(hv:VR k w v' v):Bz k h w v' h (.ok (.value v) w):=
 ⟨_,w,k,rfl,.inl ⟨v,rfl,hv⟩,hr,Ev.refl _ _ _⟩
theorem E5:∀(a b:List UInt8),Am (a.map UInt8.toNat) (b.map UInt8.toNat)=(a==b)
 |[],[]=>rfl|[],_::_=>rfl|_::_,[]=>rfl|x::a,y::b=>by have ih:=E5 a b;simp only[List.map_cons,Am,ih];show _=((x==y)&&(a==b));congr 1;rw[T.beq_eq,Bool.eq_iff_iff];simp[UInt8.toNat_inj]
theorem Iz:∀(a b:List UInt8),DM (a.map UInt8.toNat) (b.map UInt8.toNat)=Op.bytesLess a b
 |[],[]=>rfl|[],_::_=>rfl|_::_,[]=>rfl|x::a,y::b=>by
  have ih:=Iz a b;simp only[List.map_cons,DM,Op.bytesLess,ih];have h1:Nat.blt x.toNat y.toNat=decide (x<y):=by rw[Bool.eq_iff_iff];simp[UInt8.lt_iff_toNat_lt]
  have h2:Nat.beq x.toNat y.toNat=(x==y):=by rw[T.beq_eq,Bool.eq_iff_iff];simp[UInt8.toNat_inj]
  rw[h1,h2]
theorem Wy (a b:ByteArray):(a==b)=(a.data.toList==b.data.toList):=by
 cases a with|mk x=>cases b with|mk y=>
 show(ByteArray.beq ⟨x⟩ ⟨y⟩)=_;unfold ByteArray.beq;rw[Bool.eq_iff_iff];simp
theorem AJ {P:Program}{t:TypeId}{x y:Value}{w:World}{r:Result Bool}(h:∀d,(Op.equalIn (d+1) t x y).run P w=r):(Op.equal t x y).run P w=r:=h 9999
structure YX (P:Program)(t:TypeId)(a b:Value)(r:Bool)(w:World):Prop where
 eql:(binOp .eql t a b).run P w=.ok (.bool r) w
 neq:(binOp .neq t a b).run P w=.ok (.bool (!r)) w
 agg:∀xs ys,a=.agg xs→b=.agg ys→P.eqGuardType P.depth t=false
 nil:¬(a=.nilIface∧b=.nilIface)
theorem YX.mk' {P:Program}{t:TypeId}{a b:Value}{r:Bool}{w:World}(hq:(Op.equal t a b).run P w=.ok r w)(h1:binOp .eql t a b=do pure (.bool (←Op.equal t a b)))
 (h2:binOp .neq t a b=do pure (.bool (!(←Op.equal t a b)))) (h3:∀xs ys,a=.agg xs→b=.agg ys→P.eqGuardType P.depth t=false) (h4:¬(a=.nilIface∧b=.nilIface)):YX P t a b r w:=
 ⟨by rw[h1];simp[hq],by rw[h2];simp[hq],h3,h4⟩
theorem Jj {α:Type}{b:Bool}{x:Option α}{y:α}(h:(bif b then x else none)=some y):b=true∧x=some y:=by
 cases b with
 |false=>cases h|true=>exact⟨rfl,h⟩
theorem Lq {P:Program}{E:Env}(hE:Az P E){t:TypeId}{x y:AV}{r:Bool}(h:eqA E t x y=some r){k:K}{w:World}{a b:Value}(ha:VR k w x a)(hb:VR k w y b) :
 YX P t a b r w:=by
 unfold eqA at h;cases ht:E.ty t with
 |none=>simp[ht]at h|some i=>
  have hu:=E0 hE ht w;simp only[ht]at h;split at h<;>(try simp only[zC]at h);case h_1 a' b' hund=>
   simp only[VR]at ha hb;subst ha hb h;exact .mk' (AJ fun d=>by simp[Op.equalIn,hu,hund]) rfl rfl (by simp) (by simp)
  case h_2 hund=>
   simp only[VR]at ha hb;subst ha hb h;exact .mk' (AJ fun d=>by simp[Op.equalIn,hu,hund]) rfl rfl (by simp) (by simp)
  case h_3 hund=>
   simp only[VR]at ha hb;obtain⟨_,_,_,_,_,_,_,rfl,_⟩:=ha;subst hb h;exact .mk' (AJ fun d=>by simp[Op.equalIn,hu,hund]) rfl rfl (by simp) (by simp)
  case h_4 hund=>
   simp only[VR]at ha hb;obtain⟨_,_,_,rfl,_⟩:=ha;subst hb h;exact .mk' (AJ fun d=>by simp[Op.equalIn,hu,hund]) rfl rfl (by simp) (by simp)
  case h_5 hund=>
   simp only[VR]at ha hb;obtain⟨_,_,_,_,_,_,_,rfl,_⟩:=hb;subst ha h;exact .mk' (AJ fun d=>by simp[Op.equalIn,hu,hund]) rfl rfl (by simp) (by simp)
  case h_6 hund=>
   simp only[VR]at ha hb;obtain⟨_,_,_,rfl,_⟩:=hb;subst ha h;exact .mk' (AJ fun d=>by simp[Op.equalIn,hu,hund]) rfl rfl (by simp) (by simp)
  case h_7 hund=>
   simp only[VR]at ha hb;subst ha hb h;exact .mk' (AJ fun d=>by simp[Op.equalIn,hu,hund]) rfl rfl (by simp) (by simp)
  case h_8 hund=>
   simp only[VR]at ha hb;obtain⟨_,_,rfl⟩:=ha;subst hb h;exact .mk' (AJ fun d=>by simp[Op.equalIn,hu,hund]) rfl rfl (by simp) (by simp)
  case h_9 hund=>
   simp only[VR]at ha hb;obtain⟨_,_,rfl⟩:=hb;subst ha h;exact .mk' (AJ fun d=>by simp[Op.equalIn,hu,hund]) rfl rfl (by simp) (by simp)
  case h_10 hund=>
   simp only[VR]at ha hb;subst ha hb h;exact .mk' (AJ fun d=>by simp[Op.equalIn,hu,hund]) rfl rfl (by simp) (by simp)
  case h_11 hund=>
   simp only[VR]at ha hb;subst ha hb h;exact .mk' (AJ fun d=>by simp[Op.equalIn,hu,hund]) rfl rfl (by simp) (by simp)
  case h_12 hund=>
   simp only[VR]at ha hb;obtain⟨_,_,_,rfl⟩:=ha;subst hb h;exact .mk' (AJ fun d=>by simp[Op.equalIn,hu,hund]) rfl rfl (by simp) (by simp)
  case h_13 hund=>
   simp only[VR]at ha hb;obtain⟨_,_,_,rfl⟩:=hb;subst ha h;exact .mk' (AJ fun d=>by simp[Op.equalIn,hu,hund]) rfl rfl (by simp) (by simp)
  case h_14 hund=>
   simp only[VR]at ha hb;obtain⟨_,_,rfl,_⟩:=ha;subst hb h;exact .mk' (AJ fun d=>by simp[Op.equalIn,hu,hund]) rfl rfl (by simp) (by simp)
  case h_15 hund=>
   simp only[VR]at ha hb;obtain⟨_,_,rfl,_⟩:=hb;subst ha h;exact .mk' (AJ fun d=>by simp[Op.equalIn,hu,hund]) rfl rfl (by simp) (by simp)
  case h_16 e o a' o' b' hund=>
   cases he:E.ty e with
   |none=>simp[he]at h|some ei=>
    simp only[he]at h;cases hc:(Nat.ble 1 ei.size&&Nat.beq o o') with
    |false=>simp[hc]at h|true=>
     simp only[hc,cond_true,zC]at h;simp only[zA]at hc;obtain rfl:=zD hc.2;have hs:ei.size≠0:=by have:=zE hc.1;omega
     simp only[VR]at ha hb;obtain⟨b1,sh,h1,rfl⟩:=ha;obtain⟨b2,sh2,h2,rfl⟩:=hb;rw[h1]at h2;cases h2;refine .mk' (AJ fun d=>?_) rfl rfl (by simp) (by simp);have e1:((⟨b1,sh+a',none⟩:Addr)==⟨b1,sh+b',none⟩)=r:=by subst h;rw[T.beq_eq,Bool.eq_iff_iff];simp
     simp[Op.equalIn,hu,hund,AX hE he,hs,sameAddr,e1]
  case h_17 hund=>
   simp only[VR]at ha hb;obtain⟨_,rfl,_⟩:=ha;subst hb h;exact .mk' (AJ fun d=>by simp[Op.equalIn,hu,hund]) rfl rfl (by simp) (by simp)
  case h_18 hund=>
   simp only[VR]at ha hb;obtain⟨_,rfl,_⟩:=hb;subst ha h;exact .mk' (AJ fun d=>by simp[Op.equalIn,hu,hund]) rfl rfl (by simp) (by simp)
  case h_19 fs a' b' hund=>
   unfold AaA at h;cases he:E.eqt t with
   |none=>simp[he]at h|some ds=>simp only[he]at h;obtain⟨hl,h⟩:=Jj h;simp only[zA]at hl;simp only[VR]at ha hb;obtain⟨xs,rfl,h1⟩:=ha;obtain⟨ys,rfl,h2⟩:=hb;obtain⟨h3,h4⟩:=hE.eqt t ds he w xs ys k a' b' r h1 h2 (zD hl.1) (zD hl.2) h;exact .mk' h4 rfl rfl (fun _ _ _ _=>h3) (by simp)
  case h_20 fs a' b' hund=>
   unfold AaA at h;cases he:E.eqt t with
   |none=>simp[he]at h|some ds=>simp only[he]at h;obtain⟨hl,h⟩:=Jj h;simp only[zA]at hl;simp only[VR]at ha hb;obtain⟨xs,rfl,h1⟩:=ha;obtain⟨ys,rfl,h2⟩:=hb;obtain⟨h3,h4⟩:=hE.eqt t ds he w xs ys k a' b' r h1 h2 (zD hl.1) (zD hl.2) h;exact .mk' h4 rfl rfl (fun _ _ _ _=>h3) (by simp)
  case h_21=>cases h
theorem Wr {P:Program}{op:BinOp}{k k':IntKind}{a b:Int}{E:Env}{t:TypeId}{v':AV}(h:Bv E op t (.int k a) (.int k' b)=some v')(w:World) :
 ∃v,(binOp op t (.int k a) (.int k' b)).run P w=.ok v w∧(∀kk ww,VR kk ww v' v):=by
 unfold Bv at h;cases op<;>simp only at h;case shl=>
  cases hd:decide (0≤b)<;>simp only[hd,cond_true,cond_false]at h<;>cases h
  have hb:0≤b:=by simpa using hd
  exact⟨_,by simp[binOp,Op.shift,show ¬b<0 by omega];rfl,fun _ _=>by simp only[VR]⟩
 case shr=>
  cases hd:decide (0≤b)<;>simp only[hd,cond_true,cond_false]at h<;>cases h
  have hb:0≤b:=by simpa using hd
  exact⟨_,by simp[binOp,Op.shift,show ¬b<0 by omega];rfl,fun _ _=>by simp only[VR]⟩
 all_goals
  cases hd:decide (k=k')<;>simp only[hd,cond_true,cond_false]at h
  ·cases h
  ·have hk:k=k':=by simpa using hd
   subst hk;first
    |(cases h;exact⟨_,by simp[binOp,Op.intArith,Op.intBits,Op.intCmp];rfl,fun _ _=>by simp[VR]⟩)
    |(cases hz:decide (b=0)<;>simp only[hz,cond_true,cond_false]at h<;>cases h
      have hb:b≠0:=by simpa using hz
      exact⟨_,by simp[binOp,Op.intDiv,hb];rfl,fun _ _=>by simp[VR]⟩)
theorem We {P:Program}{op:BinOp}{a b:ByteArray}{E:Env}{t:TypeId}{v':AV}(h:Bv E op t (.str (a.data.toList.map UInt8.toNat)) (.str (b.data.toList.map UInt8.toNat))=some v')(w:World) :
 ∃v,(binOp op t (.string a) (.string b)).run P w=.ok v w∧(∀kk ww,VR kk ww v' v):=by
 unfold Bv at h;cases op<;>simp only[E5,Iz]at h<;>try (cases h;done)
 case add=>
  simp only[List.length_map]at h;cases hd:Nat.blt (a.data.toList.length+b.data.toList.length) (2^47)<;>simp only[hd,cond_true,cond_false]at h<;>cases h;have hlt:a.data.toList.length+b.data.toList.length<2^47:=zE hd;have hsz:¬((a.size+b.size:Nat):Int) > IntKind.i64.max:=by
   have e1:a.size=a.data.toList.length:=by simp
   have e2:b.size=b.data.toList.length:=by simp
   have:IntKind.i64.max=9223372036854775807:=by decide
   rw[this,e1,e2];omega
  refine⟨.string (a++b),by simp only[binOp,Op.stringOp];rw[if_neg hsz];rfl,fun _ _=>?_⟩;simp only[VR];exact⟨_,rfl,by simp⟩
 all_goals
  cases h;exact⟨_,by simp only[binOp,Op.stringOp,ByteArray.toList_eq];rfl,fun _ _=>by simp[VR]⟩
theorem Vq {P:Program}{op:BinOp}{t:TypeId}{x y:Operand}{a b:Value}(w:World)(h1:∀xs ys,a=.agg xs→b=.agg ys→P.eqGuardType P.depth t=false)(h2:¬(a=.nilIface∧b=.nilIface)) :
 (eqGuard op t x y a b).run P w=.ok () w:=by
 cases op<;>first
  |rfl
  |(cases a<;>cases b<;>first
   |rfl
   |exact absurd ⟨rfl,rfl⟩ h2
   |(rename_i xs ys;simp[eqGuard,h1 xs ys rfl rfl]))
theorem XV {E:Env}{op:BinOp}{t:TypeId}{xa ya:AV}(hi:¬((∃k a,xa=.int k a)∧(∃k a,ya=.int k a)))(hs:¬((∃a,xa=.str a)∧(∃a,ya=.str a))) :
 Bv E op t xa ya=match E.bin op t xa ya with
  |some r=>some r|none=>match op with
   |.eql=>(eqA E t xa ya).map AV.bool|.neq=>(eqA E t xa ya).map fun b=>AV.bool (!b)
   |_=>none:=by
 unfold Bv;split
 ·exact absurd ⟨⟨_,_,rfl⟩,⟨_,_,rfl⟩⟩ hi
 ·exact absurd ⟨⟨_,rfl⟩,⟨_,rfl⟩⟩ hs
 ·rfl
theorem UK {P:Program}{E:Env}(hE:Az P E){op:BinOp}{t:TypeId}{x y:Operand}{xa ya v':AV}{a b:Value}{k:K}{w:World}(hk:k.sz=⟨P.cellsOf,E.sel,E.tok,E.str,E.mp⟩)(ha:VR k w xa a)(hb:VR k w ya b)(h:Bv E op t xa ya=some v') :
 ∃v,(do eqGuard op t x y a b;binOp op t a b:Sem Value).run P w=.ok v w∧VR k w v' v:=by
 have fin:∀{v},(∀xs ys,a=.agg xs→b=.agg ys→P.eqGuardType P.depth t=false)→¬(a=.nilIface∧b=.nilIface)→(binOp op t a b).run P w=.ok v w→
  (do eqGuard op t x y a b;binOp op t a b:Sem Value).run P w=.ok v w:=by
  intro v h1 h2 h3;simp[Vq w h1 h2,h3]
 by_cases hi:(∃k a,xa=.int k a)∧(∃k a,ya=.int k a)
 ·obtain⟨⟨k1,a1,rfl⟩,⟨k2,a2,rfl⟩⟩:=hi;simp only[VR]at ha hb;subst ha hb;obtain⟨v,h1,h2⟩:=Wr (P:=P) h w;exact⟨v,fin (by simp) (by simp) h1,h2 _ _⟩
 by_cases hs:(∃a,xa=.str a)∧(∃a,ya=.str a)
 ·obtain⟨⟨a1,rfl⟩,⟨a2,rfl⟩⟩:=hs;simp only[VR]at ha hb;obtain⟨b1,rfl,rfl⟩:=ha;obtain⟨b2,rfl,rfl⟩:=hb;obtain⟨v,h1,h2⟩:=We (P:=P) h w;exact⟨v,fin (by simp) (by simp) h1,h2 _ _⟩
 have h':=h;rw[XV hi hs]at h';split at h';case h_1 r hr=>
  simp only[zC]at h';subst h';obtain⟨v,h1,h2,h3,h4⟩:=hE.bin op t xa ya r hr k w a b hk ha hb;exact⟨v,fin h1 h2 h3,h4⟩
 cases op<;>simp only at h'<;>try (cases h';done)
 case eql=>
  cases he:eqA E t xa ya with
  |none=>simp[he]at h'|some r=>simp only[he,Option.map_some,zC]at h';have ho:=Lq hE he ha hb;exact⟨.bool r,fin ho.agg ho.nil ho.eql,by subst h';simp only[VR]⟩
 case neq=>
  cases he:eqA E t xa ya with
  |none=>simp[he]at h'|some r=>simp only[he,Option.map_some,zC]at h';have ho:=Lq hE he ha hb;exact⟨.bool (!r),fin ho.agg ho.nil ho.neq,by subst h';simp only[VR]⟩
theorem X6 {P:Program}{op:UnOp}{x v':AV}{a:Value}{k:K}{w:World}(ha:VR k w x a)(h:unA op x=some v'):∃v,(Op.unary op a).run P w=.ok v w∧VR k w v' v:=by
 cases x<;>simp only[unA]at h<;>try (cases h;done)
 all_goals
  simp only[VR]at ha;subst ha;cases op<;>simp only at h<;>cases h;all_goals exact⟨_,by simp[Op.unary,Op.intArith,Op.intBits];rfl,by simp[VR]⟩
theorem LR (k:K)(w:World)(v:Value):VR k w (Ga v) v:=by unfold Ga;split<;>simp only[VR];exact⟨_,rfl,rfl⟩
theorem Jx (k:K)(w:World)(v:Value):VR k w (ofConst v) v:=by
 have key:∀l:List Value,VRL k w (l.map Ga) l:=by
  intro l
  induction l with
  |nil=>simp only[List.map_nil,VRL]|cons x xs ih=>simp only[List.map_cons,VRL];exact⟨x,xs,rfl,LR k w x,ih⟩
 unfold ofConst;split
 ·simp only[VR];exact⟨_,rfl,key _⟩
 ·simp only[VR];exact⟨_,rfl,key _⟩
 ·exact LR k w _
theorem LW {P:Program}{E:Env}(hE:Az P E){t:TypeId}{cs:List AV}{off:Nat}{v':AV}(h:JX E t cs off=some v'){k:K}{w:World}{vs:Array Value}(hv:VRL k w cs vs.toList) :
 ∃v,(part t vs off).run P w=.ok v w∧VR k w v' v:=by
 unfold JX at h;cases ht:E.ty t with
 |none=>simp[ht]at h|some i=>
  simp only[ht]at h;cases hg:i.agg with
  |true=>
   simp only[hg,cond_true]at h;cases hs:seg cs off i.size with
   |none=>simp[hs]at h|some r=>
    simp only[hs,zC]at h;subst h;obtain⟨h1,h2⟩:=Es hs;refine⟨.agg (vs.extract off (off+i.size)),by simp[part,MB hE ht,hg,AX hE ht],?_⟩;simp only[VR];refine⟨_,rfl,VRL.C1 ?_ fun j x v hx hv'=>?_⟩
    ·have hl:=hv.length;have:cs[off+(i.size-1)]?=none→i.size=0:=by
      intro hn;by_cases h0:i.size=0
      ·exact h0
      ·have:=h2 (i.size-1) (r[i.size-1]'(by omega)) (by rw[zK]);rw[hn]at this;cases this
     have hle:i.size=0∨off+i.size≤cs.length:=by
      by_cases h0:i.size=0
      ·exact .inl h0
      ·right
       cases hx:cs[off+(i.size-1)]? with
       |none=>exact absurd (this hx) h0|some y=>have:=(zN.1 hx).1;omega
     have hsz:vs.size=cs.length:=by simpa using hl
     simp[hsz,h1];omega
    ·obtain⟨u,hu,hr⟩:=hv.get _ _ (h2 j x hx);have:(vs.extract off (off+i.size)).toList[j]?=some v:=hv';simp only[Array.getElem?_toList,Array.getElem?_extract]at this;split at this
     ·have e:vs[off+j]?=some u:=by simpa using hu
      rw[e]at this;cases this;exact hr
     ·cases this
  |false=>
   simp only[hg,cond_false]at h;obtain⟨v,h1,h2⟩:=hv.get _ _ h;have e:vs[off]?=some v:=by simpa using h1
   exact⟨v,by simp[part,MB hE ht,hg,e],h2⟩
theorem HR.GU {k:K}{h h':AH}{w:World}(hr:HR k h w){o:Nat}{el:TypeId}{cs:List AV}(ha:h.alloc (.cells el cs)=some (o,h'))(arr:Array Value)(d:Nat)
 (hl:cs.length≤arr.size) (hv:∀(i:Nat) (x:AV),cs[i]?=some x→∃v,arr[i]?=some v∧VR k w x v) :
 HR (k.with o w.heap.size) h' { w with heap:=w.heap.push (.cells arr el),drawn:=d }∧Ev k (k.with o w.heap.size) h h' w { w with heap:=w.heap.push (.cells arr el),drawn:=d }∧
 ({ w with heap:=w.heap.push (Obj.cells arr el),drawn:=d } : World).heap[w.heap.size]?=some (.cells arr el (0,0)):=by
 have hget:({ w with heap:=w.heap.push (Obj.cells arr el),drawn:=d } : World).heap[w.heap.size]?=some (.cells arr el (0,0)):=by simp
 obtain⟨h1,h2,_⟩:=hr.alloc ha (.cells arr el) d (fun le=>⟨arr,(0,0),hget,by omega,(fun i x hx=>by obtain⟨v,h3,h4⟩:=hv i x hx;exact⟨v,by simpa using h3,VR.mono le _ _ h4⟩),Nat.zero_mod _,.inl rfl⟩);exact⟨h1,h2,hget⟩
theorem VRL.Ma {k:K}{w:World}{cs:List AV}{arr:Array Value}(h:VRL k w cs arr.toList):cs.length≤arr.size∧∀(i:Nat) (x:AV),cs[i]?=some x→∃v,arr[i]?=some v∧VR k w x v:=by refine⟨by have:=h.length;simp at this;omega,fun i x hx=>?_⟩;obtain⟨v,h1,h2⟩:=h.get i x hx;exact⟨v,by simpa using h1,h2⟩
theorem Jt {P:Program}(t:TypeId)(v:Value)(w:World):(newVar t v).run P w=.ok ⟨w.heap.size,0,none⟩ { w with heap:=w.heap.push (.cells v.cells t) }:=by simp[newVar,newRow]
theorem Kg {P:Program}{k:K}{h h':AH}{w:World}(hr:HR k h w){el:TypeId}{cs:List AV}{v':AV}(ha:GF h (.cells el cs)=some (v',h')){v:Value}(hv:VRL k w cs v.cells.toList) :
 Bz k h w v' h' ((do pure (Next.value (.pointer (some (←newVar el v)))):Sem Next).run P w):=by
 unfold GF at ha;cases hal:h.alloc (.cells el cs) with
 |none=>simp[hal]at ha|some p=>obtain⟨o,h1⟩:=p;simp only[hal,zC,zG]at ha;obtain⟨rfl,rfl⟩:=ha;obtain⟨hl,hg⟩:=hv.Ma;obtain⟨r1,r2,r3⟩:=hr.GU hal v.cells w.drawn hl hg;refine⟨.value (.pointer (some ⟨w.heap.size,0,none⟩)),_,_,by simp[Jt],.inl ⟨_,rfl,?_⟩,r1,r2⟩;simp only[VR];exact⟨w.heap.size,0,K.BJ _ _ _,rfl⟩
theorem Ns:∀(vs:List Value) (cells:Array Value) (off j:Nat),(vs.zipIdx j).foldl (fun (cs:Array Value) (p:Value×Nat)=>cs.setIfInBounds (off+p.2) p.1) cells=L5 cells (off+j) vs
 |[],_,_,_=>rfl|v::r,cells,off,j=>by rw[List.zipIdx_cons,List.foldl_cons,Ns r _ off (j+1),L5];congr 1
theorem R0 (vs:Array Value)(cells:Array Value)(off:Nat):vs.zipIdx.foldl (fun cs (c,j)=>cs.setIfInBounds (off+j) c) cells=L5 cells off vs.toList:=by rw[←Array.foldl_toList];have:=Ns vs.toList cells off 0;simpa using this
theorem ZF {k:K}{w:World}{cs xs r:List AV}{off:Nat}(h:CV cs off xs=some r){arr:Array Value}{vs:List Value}(h1:VRL k w cs arr.toList)(h2:VRL k w xs vs):VRL k w r (L5 arr off vs).toList:=by
 obtain⟨g1,g2,g3⟩:=Fg h;have l1:=h1.length;have l2:=h2.length;simp only[Array.length_toList]at l1;refine VRL.C1 (by simp[Dc,g2,l1]) fun i x v hx hv=>?_
 rw[g3]at hx;have hv':(L5 arr off vs)[i]?=some v:=by simpa using hv
 rw[Hk]at hv';by_cases hi:off≤i∧i<off+xs.length
 ·rw[if_pos hi]at hx;rw[if_pos (by omega)]at hv';obtain⟨u,h3,h4⟩:=h2.get _ _ hx;rw[h3]at hv';cases hv';exact h4
 ·rw[if_neg hi]at hx;rw[if_neg (by omega)]at hv';obtain⟨u,h3,h4⟩:=h1.get _ _ hx;have:arr[i]?=some u:=by simpa using h3
  rw[this]at hv';cases hv';exact h4
def Iy (k:K)(w:World):List (Nat×AV)→List (Nat×Value)→Prop
 |[],ps=>ps=[]|(i,x)::r,ps=>∃v ps',ps=(i,v)::ps'∧VR k w x v∧Iy k w r ps'
theorem EB {k:K}{w:World}{place:Nat→Option (Nat×Nat)} : ∀{ps:List (Nat×AV)} {cells r:List AV} {qs:List (Nat×Value)} {arr:Array Value},Ee place cells ps=some r→VRL k w cells arr.toList→Iy k w ps qs→
 ∃arr',Instr.fill place arr qs=some arr'∧VRL k w r arr'.toList
 |[],cells,r,qs,arr,h,hc,hp=>by simp only[Ee,zC]at h;simp only[Iy]at hp;subst h hp;exact⟨arr,rfl,hc⟩
 |(i,x)::ps,cells,r,qs,arr,h,hc,hp=>by
  simp only[Iy]at hp;obtain⟨v,qs',rfl,hv,hp'⟩:=hp;simp only[Ee]at h;cases hpl:place i with
  |none=>simp[hpl]at h|some os=>
   obtain⟨off,size⟩:=os;simp only[hpl]at h;cases hb:(Nat.beq x.cells.length size&&AV.A8 x.cells) with
   |false=>simp[hb]at h|true=>
    simp only[hb,cond_true]at h;simp only[zA]at hb;obtain⟨hcl,_⟩:=hv.cells hb.2;have hn:=zD hb.1;cases hs:CV cells off x.cells with
    |none=>simp[hs]at h|some cs=>simp only[hs]at h;obtain⟨arr',h1,h2⟩:=EB h (ZF hs hc hcl) hp';refine⟨arr',?_,h2⟩;have hlen:=hcl.length;obtain⟨g1,_,_⟩:=Fg hs;have hcc:=hc.length;simp only[Array.length_toList]at hlen hcc;simp only[Instr.fill,hpl];rw[if_neg (by simp;omega),R0];exact h1
theorem LI {k:K}{w:World}{ev:Operand→AV}{ρ:Operand→Value}(hev:∀x,VR k w (ev x) (ρ x)):∀ps:List (Nat×Operand),Iy k w (ps.map fun p=>(p.1,ev p.2)) (ps.map fun p=>(p.1,ρ p.2))
 |[]=>by simp only[List.map_nil,Iy]
 |(j,x)::r=>by simp only[List.map_cons,Iy];exact⟨_,_,rfl,hev x,LI hev r⟩
theorem JH {k:K}{w:World}{ev:Operand→AV}{ρ:Operand→Value}(hev:∀x,VR k w (ev x) (ρ x))(ps:Array (Nat×Operand)):Iy k w (CH ev ps) (ps.toList.map fun p=>(p.1,ρ p.2)):=LI hev _
theorem Sf (z:List AV):∀(n i:Nat),i<n*z.length→(Gc z n)[i]?=z[i%z.length]?
 |0,i,h=>by simp at h
 |n+1,i,h=>by
  rw[Gc,List.getElem?_append];have h2:(n+1)*z.length=n*z.length+z.length:=by rw[Nat.succ_mul]
  by_cases hi:i<z.length
  ·rw[if_pos hi,Nat.mod_eq_of_lt hi]
  ·rw[if_neg hi,Sf z n _ (by omega)];rw[←Nat.mod_eq_sub_mod (by omega)]
theorem FJ (z:List AV):∀n,(Gc z n).length=n*z.length
 |0=>by simp[Gc]
 |n+1=>by rw[Gc,zR,FJ z n,Nat.succ_mul];omega
theorem RA {k:K}{w:World}{zc:List AV}{z:Array Value}(hz:VRL k w zc z.toList)(n:Nat):VRL k w (Gc zc n) ((Array.range (n*z.size)).map (z[· % z.size]!)).toList:=by
 have hl:=hz.length;simp only[Array.length_toList]at hl;refine VRL.C1 (by simp[FJ,hl]) fun i x v hx hv=>?_
 have hi:i<n*z.size:=by have:=(zN.1 hx).1;rw[FJ,←hl]at this;exact this
 rw[Sf zc n i (by rw[←hl];exact hi)]at hx;have hpos:0<z.size:=by
  rcases Nat.eq_zero_or_pos z.size with h0|h0
  ·rw[h0]at hi;simp at hi
  ·exact h0
 obtain⟨u,h1,h2⟩:=hz.get _ _ hx;have hlt:i%z.size<z.size:=Nat.mod_lt _ hpos;have e:v=z[i%z.size]!:=by simp[hi]at hv;rw[←hv]
 rw[←hl]at h1;have:z[i%z.size]?=some u:=by simpa using h1
 rw[e,getElem!_pos z _ hlt];rw[Array.getElem?_eq_getElem hlt]at this;cases this;exact h2
section
variable {P:Program}{E:Env}{k:K}{h h':AH}{w:World}{v':AV}
theorem Bz.val (hr:HR k h w){s:Sem Value}{v:Value}(hs:s.run P w=.ok v w)(hv:VR k w v' v):Bz k h w v' h ((do Pure.pure (Next.value (←s)):Sem Next).run P w):=
 ⟨_,w,k,by simp[hs],.inl ⟨v,rfl,hv⟩,hr,Ev.refl _ _ _⟩
theorem Bz.val' (hr:HR k h w){s:Sem Value}(hs:∃v,s.run P w=.ok v w∧VR k w v' v):Bz k h w v' h ((do Pure.pure (Next.value (←s)):Sem Next).run P w):=
 let⟨_,h1,h2⟩:=hs;.val hr h1 h2
theorem Bz.unit {k':K}{w':World}{s:Sem Unit}(hs:s.run P w=.ok () w')(hr:HR k' h' w')(he:Ev k k' h h' w w'):Bz k h w AM h' ((do s;Pure.pure Next.skip:Sem Next).run P w):=
 ⟨_,w',k',by simp[hs],.inr ⟨rfl,rfl⟩,hr,he⟩
theorem Bz.Ua {k':K}{w':World}{s:Sem Value}{v:Value}(hs:s.run P w=.ok v w')(hr:HR k' h' w')(he:Ev k k' h h' w w')(hv:VR k' w' v' v):Bz k h w v' h' ((do Pure.pure (Next.value (←s)):Sem Next).run P w):=
 ⟨_,w',k',by simp[hs],.inl ⟨v,rfl,hv⟩,hr,he⟩
variable {ev:Operand→AV}{ρ:Operand→Value}
theorem ZH (hE:Az P E)(hr:HR k h w){e:TypeId}(ho:opA E (.alloc e) ev h=some (v',h')):Bz k h w v' h' ((do pure (Next.value (←Instr.alloc e true (.tuple #[]))):Sem Next).run P w):=by
 simp only[opA]at ho;cases ht:E.ty e with
 |none=>simp[ht]at ho|some i=>simp only[ht]at ho;obtain⟨z,h1,h2,h3⟩:=EM hE ht w;have hz:=((h2 k w).cells (hE.ty e i ht).zero).1;have:=Kg (P:=P) hr ho hz;simpa[Instr.alloc,h1]using this
theorem op_box (hr:HR k h w)(hev:∀x,VR k w (ev x) (ρ x)){e:TypeId}{x:Operand}(ho:opA E (.box e x) ev h=some (v',h')):Bz k h w v' h' ((do pure (Next.value (←Instr.box e (ρ x))):Sem Next).run P w):=by
 simp only[opA]at ho;cases hb:AV.A8 (ev x).cells with
 |false=>simp[hb]at ho|true=>simp only[hb,cond_true]at ho;have:=Kg (P:=P) hr ho ((hev x).cells hb).1;simpa[Instr.box]using this
theorem Np (hE:Az P E):∀(fs:List Field),fs.all (fun f=>(E.ty f.type).isSome)=true→(fs.mapM (fun f=>do pure (f.offset,←sizeOf f.type):Field→Sem (Nat×Nat))).run P w=.ok (fs.map fun f=>(f.offset,((E.ty f.type).map (·.size)).getD 0)) w
 |[],_=>by simp
 |f::fs,hf=>by simp only[List.all_cons,zA]at hf;obtain⟨i,hi⟩:=Option.isSome_iff_exists.1 hf.1;have ih:=Np hE fs hf.2;simp only[List.mapM_cons,zJ,AX hE hi,zF,zP,ih,List.map_cons,hi,Option.map_some,Option.getD_some]
theorem I3 (ρ:Operand→Value)(ps:Array (Nat×Operand)):(ps.map fun (i,x)=>(i,ρ x)).toList=ps.toList.map fun p=>(p.1,ρ p.2):=by simp
theorem ZG (hE:Az P E)(hr:HR k h w)(hev:∀x,VR k w (ev x) (ρ x)){t:TypeId}{ps:Array (Nat×Operand)}(ho:opA E (.build t ps) ev h=some (v',h')) :
 Bz k h w v' h' ((do pure (Next.value (←Instr.build t (ps.map fun (i,x)=>(i,ρ x)))):Sem Next).run P w):=by
 simp only[opA]at ho;cases ht:E.ty t with
 |none=>simp[ht]at ho|some i=>
  simp only[ht]at ho;obtain⟨z,h1,h2,h3⟩:=EM hE ht w;have hz:=((h2 k w).cells (hE.ty t i ht).zero).1;have hu:=E0 hE ht w;have hp:=JH hev ps;cases hund:i.und<;>simp only[hund]at ho<;>try (cases ho;done)
  case array n el=>
   cases hel:E.ty el with
   |none=>simp[hel]at ho|some ei=>
    simp only[hel]at ho;cases hf:Ee (fun j=>some (j*ei.size,ei.size)) i.zero.cells (CH ev ps) with
    |none=>simp[hf]at ho|some cs=>simp only[hf,Option.map_some,zC,zG]at ho;obtain⟨rfl,rfl⟩:=ho;obtain⟨arr,h4,h5⟩:=EB hf hz hp;refine .val hr (v:=.agg arr) ?_ (by simp only[VR];exact⟨_,rfl,h5⟩);simp only[Instr.build,zJ,h1,zF,hu,hund,AX hE hel];rw[I3,h4];rfl
  case struct fields=>
   cases hall:fields.toList.all fun f=>(E.ty f.type).isSome with
   |false=>simp only[hall,cond_false]at ho;cases ho
   |true=>
    simp only[hall,cond_true]at ho;cases hf:Ee (EK E fields) i.zero.cells (CH ev ps) with
    |none=>simp[hf]at ho|some cs=>
     simp only[hf,Option.map_some,zC,zG]at ho;obtain⟨rfl,rfl⟩:=ho;obtain⟨arr,h4,h5⟩:=EB hf hz hp;refine .val hr (v:=.agg arr) ?_ (by simp only[VR];exact⟨_,rfl,h5⟩);have hm:=Np (P:=P) (w:=w) hE fields.toList hall;have hm':(fields.mapM (fun f=>do pure (f.offset,←sizeOf f.type):Field→Sem (Nat×Nat))).run P w=.ok ((fields.toList.map fun f=>(f.offset,((E.ty f.type).map (·.size)).getD 0)).toArray) w:=by rw[Array.mapM_eq_mapM_toList,Sem.run_map,hm];rfl
     simp only[Instr.build,zJ,h1,zF,hu,hund,hm'];rw[I3];have e:(fun x=>(fields.toList.map fun f=>(f.offset,((E.ty f.type).map (·.size)).getD 0)).toArray[x]?)=EK E fields:=by funext j;simp[EK];cases fields[j]?<;>rfl
     rw[e,h4];rfl
theorem GW {place:Nat→Option (Nat×Nat)} : ∀{ps:List (Nat×AV)} {cells r:List AV},Ee place cells ps=some r→r.length=cells.length
 |[],cells,r,hh=>by simp only[Ee,zC]at hh;rw[hh]
 |(qi,qx)::qs,cells,r,hh=>by
  simp only[Ee]at hh;cases hpl:place qi with
  |none=>simp[hpl]at hh|some os=>
   simp only[hpl]at hh;cases hbb:(Nat.beq qx.cells.length os.2&&AV.A8 qx.cells) with
   |false=>simp only[hbb,cond_false]at hh;cases hh
   |true=>
    simp only[hbb,cond_true]at hh;cases hs:CV cells os.1 qx.cells with
    |none=>simp[hs]at hh|some c2=>simp only[hs]at hh;rw[GW hh,(Fg hs).2.1]
def BS (len size:Nat)(z:Array Value):Array Value:=(Array.range (len*size)).map (z[· % z.size]!)
theorem FT (hE:Az P E){el:TypeId}{ei:TI}(hel:E.ty el=some ei)(len:Nat)(w:World) :
 ∃z:Array Value,(len*ei.size=0→z = #[])∧(len*ei.size≠0→∃zv:Value,(zeroValue el).run P w=.ok zv w∧z=zv.cells)∧
  (∀k w,VRL k w (Gc ei.zero.cells len) (BS len ei.size z).toList)∧(BS len ei.size z).size=len*ei.size:=by
 obtain⟨z,z1,z2,z3⟩:=EM hE hel w;by_cases h0:len*ei.size=0
 ·refine⟨#[],fun _=>rfl,fun h=>absurd h0 h,fun k w=>?_,by simp[BS]⟩;have hl:(Gc ei.zero.cells len)=[]:=by apply List.eq_nil_of_length_eq_zero;rw[FJ];have:=((z2 k w).cells (hE.ty el ei hel).zero).1.length;simp only[Array.length_toList]at this;rw[←this,z3,h0]
  rw[hl];simp only[VRL,BS,h0];simp
 ·refine⟨z.cells,fun h=>absurd h h0,fun _=>⟨z,z1,rfl⟩,fun k w=>?_,by simp[BS]⟩;have hz:=((z2 k w).cells (hE.ty el ei hel).zero).1;have:=RA hz len;rw[z3]at this;unfold BS;rw[z3];exact this
theorem O2 (hE:Az P E)(hr:HR k h w)(hev:∀x,VR k w (ev x) (ρ x)){t:TypeId}{len:Nat}{ps:Array (Nat×Operand)}(ho:opA E (.buildSlice t len ps) ev h=some (v',h')) :
 Bz k h w v' h' ((do pure (Next.value (←Instr.buildSlice t len (ps.map fun (i,x)=>(i,ρ x)))):Sem Next).run P w):=by
 simp only[opA]at ho;split at ho;case h_2=>cases ho
 rename_i el _ _ _ _ ht;have hu:=E0 hE ht w;cases hel:E.ty el with
 |none=>simp[hel]at ho|some ei=>
  simp only[hel]at ho;cases hf:Ee (fun j=>some (j*ei.size,ei.size)) (Gc ei.zero.cells len) (CH ev ps) with
  |none=>simp[hf]at ho|some cs=>
   simp only[hf]at ho;cases hb:(AV.A8 cs&&Nat.ble (len*ei.size) 65536) with
   |false=>simp only[hb,cond_false]at ho;cases ho
   |true=>
    simp only[hb,cond_true]at ho;simp only[zA]at hb;have hle:=zE hb.2;cases hal:h.alloc (.cells el cs) with
    |none=>simp[hal]at ho|some p=>
     obtain⟨o,h1⟩:=p;simp only[hal]at ho;obtain⟨z,z0,z1,z2,z3⟩:=FT (P:=P) hE hel len w;have hp:=JH hev ps;obtain⟨arr,h4,h5⟩:=EB hf (z2 k w) hp;obtain⟨hl,hg⟩:=h5.Ma;obtain⟨r1,r2,r3⟩:=hr.GU hal arr w.drawn hl hg;have hrun:(Instr.buildSlice t len (ps.map fun (i,x)=>(i,ρ x))).run P w=.ok (.slice (some ⟨w.heap.size,0,none⟩) len len) { w with heap:=w.heap.push (.cells arr el) }:=by
      simp only[Instr.buildSlice,zJ,hu,zF,AX hE hel];rw[if_neg (by omega)];unfold BS at h4;by_cases h0:len*ei.size=0
      ·have:=z0 h0;subst this;rw[if_pos h0];simp only[zJ,zP,zF];rw[I3,h4];simp[newRow]
      ·obtain⟨zv,z4,rfl⟩:=z1 h0;rw[if_neg h0];simp only[zJ,zP,zF,z4];rw[I3,h4];simp[newRow]
     cases hlt:E.lit t with
     |true=>simp only[hlt,cond_true,zC,zG]at ho;obtain⟨rfl,rfl⟩:=ho;have hg1:=AH.XK hal;obtain⟨q1,q2,q3⟩:=r1.freeze hg1 (K.BJ _ _ _);refine .Ua hrun q1 (r2.trans q2) ?_;simp only[VR];refine⟨w.heap.size,0,len,rfl,zI _,(fun n hn=>by cases hn;rfl),.inl rfl,VRC.C1 fun i x hx=>?_⟩;obtain⟨u,g1,g2⟩:=hg i x hx;exact⟨u,by simpa[World.cell?]using g1,VR.mono ((r2.trans q2).le hr) _ _ g2⟩
     |false=>
     simp only[hlt,cond_false,zC,zG]at ho;obtain⟨rfl,rfl⟩:=ho;refine .Ua hrun r1 r2 ?_;simp only[VR];refine⟨w.heap.size,0,len,arr,el,(0,0),K.BJ _ _ _,rfl,zI _,(fun n hn=>by cases hn;rfl),r3,?_⟩;have e1:=h5.length;have e2:=(z2 k w).length;have e3:=GW hf;simp only[Array.length_toList]at e1 e2;rw[z3]at e2;omega
end
section
variable {P:Program}{E:Env}{k:K}{h h':AH}{w:World}{v':AV}{ev:Operand→AV}{ρ:Operand→Value}
theorem AdH (hE:Az P E)(hr:HR k h w)(hev:∀x,VR k w (ev x) (ρ x)){t:TypeId}{a:Operand}(ho:opA E (.load t a) ev h=some (v',h')) :
 Bz k h w v' h' ((do pure (Next.value (←Instr.loadAt t (ρ a))):Sem Next).run P w):=by
 simp only[opA]at ho;cases ht:E.ty t with
 |none=>simp[ht]at ho|some i=>
  simp only[ht,one]at ho;cases hl:Pd i h (ev a) with
  |none=>simp[hl]at ho|some v=>simp only[hl,Option.map_some,zC,zG]at ho;obtain⟨rfl,rfl⟩:=ho;obtain⟨ad,u,h1,h2,h3⟩:=LK hE ht hr (hev a) hl;exact .val hr (by simp[Instr.loadAt,Instr.sureAddr,h1,h2]) h3
theorem AaV (hE:Az P E)(hr:HR k h w)(hev:∀x,VR k w (ev x) (ρ x)){t:TypeId}{a x:Operand}(ho:opA E (.store t a x) ev h=some (v',h')) :
 Bz k h w v' h' ((do Instr.storeAt t (ρ a) (ρ x);pure Next.skip:Sem Next).run P w):=by
 simp only[opA]at ho;cases ht:E.ty t with
 |none=>simp[ht]at ho|some i=>
  simp only[ht,two]at ho;cases hl:Ot i h (ev a) (ev x) with
  |none=>simp[hl]at ho|some h1=>simp only[hl,Option.map_some,zC,zG]at ho;obtain⟨rfl,rfl⟩:=ho;obtain⟨ad,w',e1,e2,e3,e4⟩:=QL hE ht hr (hev a) (hev x) hl;exact .unit (by simp[Instr.storeAt,Instr.sureAddr,e1,e2]) e3 e4
theorem Sy (hr:HR k h w)(hev:∀x,VR k w (ev x) (ρ x)){x:Operand}{o:Oper}(hop:o.op=.nilCheck x)(ho:opA E (.nilCheck x) ev h=some (v',h')) :
 Bz k h w v' h' ((execOp ρ o).run P w):=by
 have hx:=hev x;simp only[opA]at ho;simp only[execOp,hop];split at ho;case h_1 o off he=>
  cases ho;rw[he]at hx;simp only[VR]at hx;obtain⟨b,sh,h1,h2⟩:=hx;rw[h2];exact .pure hr (by simp only[VR];exact⟨b,sh,h1,rfl⟩)
 case h_2 cs off he=>
  cases ho;rw[he]at hx;have hx':=hx;simp only[VR]at hx;obtain⟨b,sh,h1,_⟩:=hx;rw[h1]at hx' ⊢;exact .pure hr hx'
 case h_3 t v he=>
  cases ho;rw[he]at hx;have hx':=hx;simp only[VR]at hx;obtain⟨y,h1,_⟩:=hx;rw[h1]at hx' ⊢;exact .pure hr hx'
 case h_4 f a b he=>
  cases ho;rw[he]at hx;have hx':=hx;simp only[VR]at hx;obtain⟨y,z,h1,_⟩:=hx;rw[h1]at hx' ⊢;exact .pure hr hx'
 case h_5=>cases ho
theorem SG {op:BinOp}{t:TypeId}{x y:Operand}(hc:(C3 x||C3 y)=true)(w:World):(eqGuard op t x y .nilIface .nilIface).run P w=.ok () w:=by
 cases op<;>first
  |rfl
  |(cases x<;>cases y<;>first|(simp[C3]at hc;done)|(simp[eqGuard];done)|rfl)
theorem op_bin (hE:Az P E)(hk:k.sz=⟨P.cellsOf,E.sel,E.tok,E.str,E.mp⟩)(hr:HR k h w)(hev:∀x,VR k w (ev x) (ρ x)){op:BinOp}{t t2:TypeId}{x y:Operand}(ho:opA E (.binOp op t x y t2) ev h=some (v',h')) :
 Bz k h w v' h' ((do pure (Next.value (←(do eqGuard op t x y (ρ x) (ρ y);binOp op t (ρ x) (ρ y):Sem Value))):Sem Next).run P w):=by
 have hx:=hev x;have hy:=hev y;simp only[opA]at ho;split at ho;case h_1 he1 he2=>
  rw[he1]at hx;rw[he2]at hy;simp only[VR]at hx hy;rw[hx,hy];cases hc:(C3 x||C3 y) with
  |false=>simp only[hc,cond_false]at ho;cases ho
  |true=>
   simp only[hc,cond_true]at ho;split at ho;case h_2=>cases ho
   rename_i ms _ _ _ _ ht;have hu:=E0 hE ht w;have hg:∀op,(eqGuard op t x y .nilIface .nilIface).run P w=.ok () w:=fun op=>SG hc w
   have hq:(Op.equal t .nilIface .nilIface).run P w=.ok true w:=AJ fun d=>by simp[Op.equalIn,hu]
   split at ho;case h_1=>
    cases ho;refine .val hr (v:=.bool true) ?_ (by simp only[VR]);simp only[zJ,hg,zF];show(do pure (Value.bool (←Op.equal t .nilIface .nilIface)):Sem Value).run P w=_;simp[hq]
   case h_2=>
    cases ho;refine .val hr (v:=.bool false) ?_ (by simp only[VR]);simp only[zJ,hg,zF];show(do pure (Value.bool (!(←Op.equal t .nilIface .nilIface))):Sem Value).run P w=_;simp[hq]
   case h_3=>cases ho
 case h_2=>
  simp only[one]at ho;cases hb:Bv E op t (ev x) (ev y) with
  |none=>simp[hb]at ho|some v=>simp only[hb,Option.map_some,zC,zG]at ho;obtain⟨rfl,rfl⟩:=ho;exact .val' hr (UK hE hk hx hy hb)
theorem op_un (hr:HR k h w)(hev:∀x,VR k w (ev x) (ρ x)){op:UnOp}{t:TypeId}{x:Operand}(ho:opA E (.unOp op t x) ev h=some (v',h')) :
 Bz k h w v' h' ((do pure (Next.value (←Op.unary op (ρ x))):Sem Next).run P w):=by
 simp only[opA,one]at ho;cases hb:unA op (ev x) with
 |none=>simp[hb]at ho|some v=>simp only[hb,Option.map_some,zC,zG]at ho;obtain⟨rfl,rfl⟩:=ho;exact .val' hr (X6 (hev x) hb)
theorem KT (hE:Az P E)(hr:HR k h w)(hev:∀x,VR k w (ev x) (ρ x)){t:TypeId}{x:Operand}(ho:opA E (.makeInterface t x) ev h=some (v',h')) :
 Bz k h w v' h' ((do pure (Next.value (←Instr.makeInterface t (ρ x))):Sem Next).run P w):=by
 simp only[opA]at ho;cases ht:E.ty t with
 |none=>simp[ht]at ho|some i=>
  simp only[ht]at ho;have hu:=E0 hE ht w;have hx:=hev x;have fin:(∀ms,i.und≠.interface ms)→v'=.iface t (ev x)→h'=h→Bz k h w v' h' ((do pure (Next.value (←Instr.makeInterface t (ρ x))):Sem Next).run P w):=by intro h1 h2 h3;subst h2 h3;refine .val hr (v:=.iface t (ρ x)) ?_ (by simp only[VR];exact⟨_,rfl,hx⟩);simp only[Instr.makeInterface,zJ,hu,zF];cases hund:i.und<;>first|rfl|exact absurd hund (h1 _)
  cases hund:i.und<;>simp only[hund]at ho<;>first
   |(cases ho;done)
   |(simp only[zC,zG]at ho;exact fin (by simp[hund]) ho.1.symm ho.2.symm)
theorem VRL.map (hev:∀x,VR k w (ev x) (ρ x)):∀xs:List Operand,VRL k w (xs.map ev) (xs.map ρ)
 |[]=>by simp only[List.map_nil,VRL]
 |x::xs=>by simp only[List.map_cons,VRL];exact⟨_,_,rfl,hev x,VRL.map hev xs⟩
theorem Tt (hr:HR k h w)(hev:∀x,VR k w (ev x) (ρ x)){fn:Fn}{first cap:Array Operand}(ho:opA E (.makeFunc fn first cap) ev h=some (v',h')) :
 Bz k h w v' h' ((do pure (Next.value (←Instr.makeFunc fn (first.map ρ) (cap.map ρ))):Sem Next).run P w):=by
 simp only[opA]at ho;cases fn<;>simp only at ho<;>try (cases ho;done)
 all_goals
  simp only[zC,zG]at ho;obtain⟨rfl,rfl⟩:=ho;refine .val hr (v:=.func _ (first.map ρ) (cap.map ρ)) rfl ?_;simp only[VR];exact⟨_,_,rfl,by simpa using VRL.map hev first.toList,by simpa using VRL.map hev cap.toList⟩
theorem TJ (hr:HR k h w){t:TypeId}{r:Option Operand}(ho:opA E (.makeMap t r) ev h=some (v',h')) :
 Bz k h w v' h' ((do pure (Next.value (←Instr.makeMap t (r.map ρ))):Sem Next).run P w):=by
 simp only[opA]at ho;split at ho;case h_2=>cases ho
 split at ho;case h_2=>cases ho
 cases hal:h.alloc (.map [] 0) with
 |none=>simp[hal]at ho|some p=>
  obtain⟨o,h1⟩:=p;simp only[hal,zC,zG]at ho;obtain⟨rfl,rfl⟩:=ho;obtain⟨r1,r2,_⟩:=hr.alloc hal (.map #[] 0) w.drawn (fun le=>⟨rfl,#[],0,by simp,by simp[MR]⟩);refine .Ua (v:=.map (some w.heap.size)) ?_ r1 r2 ?_
  ·simp[Instr.makeMap]
  ·simp only[VR];exact⟨_,K.BJ _ _ _,rfl⟩
theorem CU {x:AV}{n:Nat}(hx:asNat x=some n){v:Value}(hv:VR k w x v):∃kd,v=.int kd (n:Int):=by
 cases x<;>simp only[asNat]at hx<;>try (cases hx;done)
 rename_i kd m;cases m with
 |ofNat m=>simp only[zC]at hx;subst hx;simp only[VR]at hv;exact⟨kd,hv⟩
 |negSucc m=>simp at hx
theorem wrap_small {n:Nat}(hn:n<2^62):IntKind.i64.wrap (n:Int)=n:=by
 unfold IntKind.wrap;have h1:(n:Int)%(2^IntKind.i64.bits:Int)=n:=by apply Int.emod_eq_of_lt (by omega);show(n:Int)<18446744073709551616;omega
 simp only[h1];rw[if_neg];simp;intro _;show(n:Int)<9223372036854775808;omega
theorem Rb (hE:Az P E)(hr:HR k h w)(hev:∀x,VR k w (ev x) (ρ x)){t:TypeId}{l c:Operand}(ho:opA E (.makeSlice t l c) ev h=some (v',h')) :
 Bz k h w v' h' ((do pure (Next.value (←Instr.makeSlice t (ρ l) (ρ c))):Sem Next).run P w):=by
 simp only[opA]at ho;split at ho;case h_2=>cases ho
 rename_i el _ _ _ _ ht;have hu:=E0 hE ht w;cases hel:E.ty el with
 |none=>simp[hel]at ho|some ei=>
  simp only[hel]at ho;cases hln:asNat (ev l) with
  |none=>simp[hln]at ho|some ln=>
  cases hcn:asNat (ev c) with
  |none=>simp[hln,hcn]at ho|some cn=>
   simp only[hln,hcn]at ho;cases hb:(Nat.ble ln cn&&Nat.ble cn 1048576&&Nat.ble ei.bytes 4096&&AV.A8 ei.zero.cells) with
   |false=>simp only[hb,cond_false]at ho;cases ho
   |true=>
    simp only[hb,cond_true]at ho;simp only[zA]at hb;obtain⟨⟨⟨hb1,hb2⟩,hb3⟩,hb4⟩:=hb;have hb1:=zE hb1;have hb2:=zE hb2;have hb3:=zE hb3;cases hal:h.alloc (.cells el (Gc ei.zero.cells cn)) with
    |none=>simp[hal]at ho|some p=>
     obtain⟨o,h1⟩:=p;simp only[hal,zC,zG]at ho;obtain⟨rfl,rfl⟩:=ho;obtain⟨z,z0,z1,z2,z3⟩:=FT (P:=P) hE hel cn w;obtain⟨hl,hg⟩:=(z2 k w).Ma;obtain⟨r1,r2,r3⟩:=hr.GU hal (BS cn ei.size z) w.drawn hl hg;obtain⟨kl,el1⟩:=CU hln (hev l);obtain⟨kc,ec1⟩:=CU hcn (hev c);obtain⟨inf,i1,i2,i3⟩:=IJ hE hel w;have hbn:((inf.bytes:Int)*cn)≤2^48:=by
      rw[i2];have:ei.bytes*cn≤4096*1048576:=Nat.mul_le_mul hb3 hb2;have h2:((ei.bytes*cn:Nat):Int)≤4096*1048576:=by omega
      rw[Int.natCast_mul]at h2;omega
     have hrun:(Instr.makeSlice t (ρ l) (ρ c)).run P w=.ok (.slice (some ⟨w.heap.size,0,none⟩) ln cn) { w with heap:=w.heap.push (.cells (BS cn ei.size z) el) }:=by
      simp only[Instr.makeSlice,zJ,hu,zF,el1,ec1,asInt,asIntOf,zP,i1,wrap_small (show ln<2^62 by omega),wrap_small (show cn<2^62 by omega)];rw[if_neg (by simp only[Bool.or_eq_true,decide_eq_true_eq,not_or,Int.not_lt];refine⟨⟨⟨by omega,hbn⟩,by omega⟩,by omega⟩)];simp only[zJ,run_askRoom,AX hE hel,zF,Int.toNat_natCast];by_cases h0:cn*ei.size=0
      ·have:=z0 h0;subst this;rw[if_pos h0];simp[newRow,BS]
      ·obtain⟨zv,z4,rfl⟩:=z1 h0;rw[if_neg h0];simp[newRow,BS,z4]
     refine .Ua hrun r1 r2 ?_;simp only[VR];refine⟨w.heap.size,0,cn,BS cn ei.size z,el,(0,0),K.BJ _ _ _,rfl,hb1,(fun n hn=>by cases hn;rfl),r3,?_⟩;rw[z3];omega
end
section
variable {P:Program}{E:Env}{k:K}{h h':AH}{w:World}{v':AV}{ev:Operand→AV}{ρ:Operand→Value}
def NumR (d n:Nat)(v:Option Value):Prop:=(v=none∧n=d)∨∃kd,v=some (.int kd (n:Int))
theorem OM (hev:∀x,VR k w (ev x) (ρ x)){d n:Nat}{x:Option Operand}(hn:Af d (x.map ev)=some n):NumR d n (x.map ρ):=by
 cases x with
 |none=>simp only[Option.map_none,Af,zC]at hn;exact .inl ⟨rfl,hn.symm⟩
 |some x=>simp only[Option.map_some,Af]at hn;obtain⟨kd,h1⟩:=CU hn (hev x);exact .inr ⟨kd,by simp[h1]⟩
theorem run_sliceBound {kd:IntKind}{n y:Nat}{code:BoundsCode}(hn:n≤y):(Instr.sliceBound (.int kd (n:Int)) y code).run P w=.ok n w:=by simp only[Instr.sliceBound,asIntOf,zJ,zP,zF];rw[if_pos (by omega)];simp
theorem MV {s:Bool}{lo hi mx:Option Value}{l u m len cap:Nat}(hl:NumR 0 l lo)(hu:NumR len u hi)(hm:NumR cap m mx)(hx:mx.isSome=true→hi.isSome=true)(h1:l≤u)(h2:u≤m)(h3:m≤cap) :
 (Instr.sliceBounds s len cap lo hi mx).run P w=.ok (l,u,m) w:=by
 rcases hl with⟨rfl,rfl⟩|⟨k1,rfl⟩<;>rcases hu with⟨rfl,rfl⟩|⟨k2,rfl⟩<;>rcases hm with⟨rfl,rfl⟩|⟨k3,rfl⟩<;>(try (simp at hx;done)) <;>
  simp only[Instr.sliceBounds,zJ,zP,zF,run_sliceBound h1,run_sliceBound h2,run_sliceBound h3]
theorem Ca (hev:∀x,VR k w (ev x) (ρ x)){len:Nat}{cap:Option Nat}{lo hi mx:Option Operand}{l u:Nat}{m:Option Nat}(hb:E2 len cap (lo.map ev) (hi.map ev) (mx.map ev)=some (l,u,m))
 {c:Nat} (hc:∀n,cap=some n→c=n) (hlc:len≤c) {s:Bool} : ∃mm,(Instr.sliceBounds s len c (lo.map ρ) (hi.map ρ) (mx.map ρ)).run P w=.ok (l,u,mm) w∧l≤u∧u≤mm∧mm≤c∧(∀n,m=some n→mm=n)∧(m=none→mm=c∧cap=none∧u≤len):=by
 have hg:cap.getD len≤c:=by cases cap with
  |none=>simpa using hlc|some n=>simp[hc n rfl]
 unfold E2 at hb;cases h1:Af 0 (lo.map ev) with
 |none=>simp[h1]at hb|some l1=>
 cases h2:Af len (hi.map ev) with
 |none=>simp[h1,h2]at hb|some u1=>
  simp only[h1,h2]at hb;have r1:=OM hev h1;have r2:=OM hev h2;cases mx with
  |none=>
   simp only[Option.map_none]at hb;cases hbb:(Nat.ble l1 u1&&Nat.ble u1 (cap.getD len)) with
   |false=>simp only[hbb,cond_false]at hb;cases hb
   |true=>simp only[hbb,cond_true,zC,zG]at hb;simp only[zA]at hbb;obtain⟨rfl,rfl,rfl⟩:=hb;have b1:=zE hbb.1;have b2:=zE hbb.2;refine⟨c,MV r1 r2 (.inl ⟨rfl,rfl⟩) (by simp) b1 (by omega) (zI _),b1,by omega,zI _,hc,fun hn=>⟨rfl,hn,?_⟩⟩;subst hn;simpa using b2
  |some mv=>
   simp only[Option.map_some]at hb;cases h3:asNat (ev mv) with
   |none=>simp[h3]at hb|some m1=>
    simp only[h3]at hb;cases hbb:(Nat.ble l1 u1&&Nat.ble u1 m1&&Nat.ble m1 (cap.getD len)&&(hi.map ev).isSome) with
    |false=>simp only[hbb,cond_false]at hb;cases hb
    |true=>simp only[hbb,cond_true,zC,zG]at hb;simp only[zA]at hbb;obtain⟨rfl,rfl,rfl⟩:=hb;obtain⟨⟨⟨b1,b2⟩,b3⟩,b4⟩:=hbb;have b1:=zE b1;have b2:=zE b2;have b3:=zE b3;obtain⟨kd,e⟩:=CU h3 (hev mv);refine⟨m1,MV r1 r2 (.inr ⟨kd,by simp[e]⟩) (fun _=>by simpa using b4) b1 b2 (by omega),b1,b2,by omega,fun n hn=>by cases hn;rfl,fun hn=>by cases hn⟩
theorem CT {t:TypeId}{d:TypeDesc}(hu:P.underlying t=some d)(hd:∀n e,d≠.array n e){x:Value}{lo hi mx:Option Value} : (Instr.sliceAt t x lo hi mx).run P w=(Instr.slice t x lo hi mx).run P w:=by simp only[Instr.sliceAt,zJ,run_underlying hu,zF]
theorem MM {α:Type}{b:Bool}{x:Option α}{y:α}(h:(bif b then x else none)=some y):b=true∧x=some y:=by
 cases b with
 |false=>cases h|true=>exact⟨rfl,h⟩
theorem Aa9 (hE:Az P E)(hr:HR k h w)(hev:∀x,VR k w (ev x) (ρ x)){t:TypeId}{x:Operand}{lo hi mx:Option Operand}(ho:opA E (.slice t x lo hi mx) ev h=some (v',h')) :
 Bz k h w v' h' ((do pure (Next.value (←Instr.sliceAt t (ρ x) (lo.map ρ) (hi.map ρ) (mx.map ρ))):Sem Next).run P w):=by
 simp only[opA,one]at ho;cases hs:Q3 E t (ev x) (lo.map ev) (hi.map ev) (mx.map ev) h with
 |none=>simp[hs]at ho|some v=>
  simp only[hs,Option.map_some,zC,zG]at ho;obtain⟨rfl,rfl⟩:=ho;have hx:=hev x;refine .val' hr ?_;unfold Q3 at hs;split at hs;case h_1 s he=>
   rw[he]at hx;simp only[VR]at hx;obtain⟨b,hb,hbs⟩:=hx;split at hs;case h_2=>cases hs
   rename_i _ _ _ _ _ ht;have hu:=(hE.ty t _ ht).und;split at hs;case h_2=>cases hs
   rename_i l u _ hbd hmx;cases hs;have hlen:b.size=s.length:=by rw[←hbs];simp
   have hmx':mx=none:=by cases mx<;>simp at hmx ⊢
   subst hmx';obtain⟨mm,h1,h2,h3,h4,h5,h6⟩:=Ca (P:=P) (s:=false) hev hbd (c:=s.length) (fun n hn=>by cases hn;rfl) (zI _);refine⟨.string (b.extract l u),?_,?_⟩
   ·rw[CT hu (by simp)];simp only[Instr.slice,zJ,run_underlying hu,zF,hb,Option.map_none,Option.isSome_none];rw[hlen];simp only[Option.map_none]at h1;simp[h1]
   ·simp only[VR];refine⟨_,rfl,?_⟩;rw[Lib.extract_data,List.map_take,List.map_drop,hbs]
  case h_2 he=>
   rw[he]at hx;simp only[VR]at hx;split at hs;case h_2=>cases hs
   rename_i p hbd;obtain⟨l,u,m⟩:=p;split at hs;case h_2=>cases hs
   rename_i el _ _ _ _ ht;split at hs;case h_2=>cases hs
   rename_i ei hel;cases hs;have hu:=(hE.ty t _ ht).und;obtain⟨mm,h1,h2,h3,h4,h5,h6⟩:=Ca (P:=P) (s:=true) hev hbd (c:=0) (fun n hn=>by cases hn;rfl) (zI _);refine⟨.slice none 0 0,?_,by simp only[VR]⟩;rw[CT hu (by simp)];simp only[Instr.slice,zJ,run_underlying hu,zF,hx,h1,AX hE hel,zP];have:mm=0:=by omega
   have:u=0:=by omega
   have:l=0:=by omega
   subst_vars
   simp
  case h_3 he=>
   rw[he]at hx;simp only[VR]at hx;obtain⟨ad,c,hx,hc0⟩:=hx;split at hs;case h_2=>cases hs
   rename_i p hbd;obtain⟨l,u,m⟩:=p;split at hs;case h_2=>cases hs
   rename_i el _ _ _ _ ht;split at hs;case h_2=>cases hs
   rename_i ei hel;cases hs;have hu:=(hE.ty t _ ht).und;obtain⟨mm,h1,h2,h3,h4,h5,h6⟩:=Ca (P:=P) (s:=true) hev hbd (c:=c) nofun (Nat.zero_le _);have hu0:u=0:=by
    unfold E2 at hbd;split at hbd;case h_2=>cases hbd
    split at hbd
    ·split at hbd;case h_2=>cases hbd
     obtain⟨q,hbd⟩:=MM hbd;cases hbd;simp only[zA,Option.getD_none]at q;have a1:=zE q.1.1.2;have a2:=zE q.1.2;omega
    ·obtain⟨q,hbd⟩:=MM hbd;cases hbd;simp only[zA,Option.getD_none]at q;have a2:=zE q.2;omega
   have hl0:l=0:=by omega
   subst hu0 hl0;cases ad with
   |none=>
    have hc0:=hc0 rfl;subst hc0;refine⟨.slice none 0 0,?_,by simp only[VR];exact⟨none,0,rfl,fun _=>rfl⟩⟩;rw[CT hu (by simp)];simp only[Instr.slice,zJ,run_underlying hu,zF,hx,h1,AX hE hel,zP];have:mm=0:=by omega
    subst_vars
    simp
   |some ad=>refine⟨.slice (some (if mm=0 then ad else ad.add (0*ei.size))) 0 (mm-0),?_,by simp only[VR];exact⟨_,_,rfl,nofun⟩⟩;rw[CT hu (by simp)];simp only[Instr.slice,zJ,run_underlying hu,zF,hx,h1,AX hE hel,zP];by_cases hm0:mm=0<;>simp[hm0]
  case h_4 o off len sz cap he=>
   rw[he]at hx;simp only[VR]at hx;obtain⟨b,sh,c,arr,e,fr,hρ,hv,hlc,hcap,hhp,hbnd⟩:=hx;split at hs;case h_2=>cases hs
   rename_i el _ _ _ _ ht;split at hs;case h_2=>cases hs
   rename_i ei hel;have hu:=(hE.ty t _ ht).und;cases hsz:Nat.beq ei.size sz with
   |false=>simp only[hsz,cond_false]at hs;cases hs
   |true=>
    obtain rfl:=zD hsz;simp only[hsz,cond_true]at hs;have run:∀{l u mm:Nat},(Instr.sliceBounds true len c (lo.map ρ) (hi.map ρ) (mx.map ρ)).run P w=.ok (l,u,mm) w→
     (Instr.sliceAt t (ρ x) (lo.map ρ) (hi.map ρ) (mx.map ρ)).run P w=.ok (.slice (if mm=l then some ⟨b,sh+off,none⟩ else some ⟨b,sh+off+l*ei.size,none⟩) (u-l) (mm-l)) w:=by
     intro l u mm h1;rw[CT hu (by simp)];simp only[Instr.slice,zJ,run_underlying hu,zF,hv,h1,AX hE hel,zP];simp[Cr]
    split at hs;case h_1 l u m hbd=>
     obtain⟨mm,h1,h2,h3,h4,h5,h6⟩:=Ca (P:=P) (s:=true) hev hbd hcap hlc;obtain rfl:=h5 m rfl;refine⟨_,run h1,?_⟩;cases hml:Nat.beq mm l with
     |true=>
      obtain rfl:=zD hml;simp only[hml,cond_true,zC]at hs;subst hs;simp only[VR,if_true];have:u-mm=0:=by omega
      exact⟨b,sh,0,arr,e,fr,hρ,by simp[this],zI _,(fun n hn=>by cases hn;rfl),hhp,by omega⟩
     |false=>
      simp only[hml,cond_false,zC]at hs;subst hs;have hne:=Nat.ne_of_beq_eq_false hml;rw[if_neg hne];simp only[VR];refine⟨b,sh,mm-l,arr,e,fr,hρ,by rw[Nat.add_assoc],by omega,(fun n hn=>by cases hn;rfl),hhp,?_⟩;have hmul:mm*ei.size≤c*ei.size:=Nat.mul_le_mul_right _ h4;have hsub:l*ei.size+(mm-l)*ei.size=mm*ei.size:=by rw[←Nat.add_mul];congr 1;omega
      omega
    case h_2 l u hbd=>
     obtain⟨mm,h1,h2,h3,h4,h5,h6⟩:=Ca (P:=P) (s:=true) hev hbd hcap hlc;obtain⟨rfl,rfl,h7⟩:=h6 rfl;refine⟨_,run h1,?_⟩;cases hll:Nat.blt l len with
     |true=>
      have hlt:l<len:=zE hll;simp only[hll,cond_true,zC]at hs;subst hs;rw[if_neg (by omega)];simp only[VR];refine⟨b,sh,mm-l,arr,e,fr,hρ,by rw[Nat.add_assoc],by omega,(fun n hn=>by cases hn),hhp,?_⟩;have hsub:l*ei.size+(mm-l)*ei.size=mm*ei.size:=by rw[←Nat.add_mul];congr 1;omega
      omega
     |false=>
      simp only[hll,cond_false,zC]at hs;subst hs;have hge:¬l<len:=fun hlt=>by have:Nat.blt l len=true:=Nat.ble_eq_true_of_le hlt;rw[hll]at this;cases this
      have hul:u-l=0:=by omega
      simp only[VR];rw[hul];split<;>exact⟨_,_,rfl,nofun⟩
    case h_3=>cases hs
  case h_5 cs len cap he=>
   rw[he]at hx;simp only[VR]at hx;obtain⟨b,sh,c,hv,hlc,hcap,hfz,hcs⟩:=hx;split at hs;case h_2=>cases hs
   rename_i el _ _ _ _ ht;split at hs;case h_2=>cases hs
   rename_i ei hel;have hu:=(hE.ty t _ ht).und;have run:∀{l u mm:Nat},(Instr.sliceBounds true len c (lo.map ρ) (hi.map ρ) (mx.map ρ)).run P w=.ok (l,u,mm) w→
    (Instr.sliceAt t (ρ x) (lo.map ρ) (hi.map ρ) (mx.map ρ)).run P w=.ok (.slice (if mm=l then some ⟨b,sh,none⟩ else some ⟨b,sh+l*ei.size,none⟩) (u-l) (mm-l)) w:=by
    intro l u mm h1;rw[CT hu (by simp)];simp only[Instr.slice,zJ,run_underlying hu,zF,hv,h1,AX hE hel,zP];simp[Cr]
   have hdrop:∀n,VRC k w b (cs.drop n) (sh+n):=fun n=>VRC.C1 fun i y hy=>by rw[List.getElem?_drop]at hy;have:=hcs.get _ _ hy;rwa[show sh+(n+i)=sh+n+i by omega]at this
   split at hs;case h_1 l u m hbd=>
    obtain⟨mm,h1,h2,h3,h4,h5,h6⟩:=Ca (P:=P) (s:=true) hev hbd hcap hlc;obtain rfl:=h5 m rfl;refine⟨_,run h1,?_⟩;cases hml:Nat.beq mm l with
    |true=>
     obtain rfl:=zD hml;simp only[hml,cond_true,zC]at hs;subst hs;simp only[VR,if_true];have:u-mm=0:=by omega
     exact⟨b,sh,0,by simp[this],zI _,(fun n hn=>by cases hn;rfl),hfz,hcs⟩
    |false=>simp only[hml,cond_false,zC]at hs;subst hs;have hne:=Nat.ne_of_beq_eq_false hml;rw[if_neg hne];simp only[VR];exact⟨b,_,mm-l,rfl,by omega,(fun n hn=>by cases hn;rfl),hfz,hdrop _⟩
   case h_2 l u hbd=>
    obtain⟨mm,h1,h2,h3,h4,h5,h6⟩:=Ca (P:=P) (s:=true) hev hbd hcap hlc;obtain⟨rfl,rfl,h7⟩:=h6 rfl;refine⟨_,run h1,?_⟩;cases hll:Nat.blt l len with
    |true=>have hlt:l<len:=zE hll;simp only[hll,cond_true,zC]at hs;subst hs;rw[if_neg (by omega)];simp only[VR];exact⟨b,_,mm-l,rfl,by omega,(fun n hn=>by cases hn),hfz,hdrop _⟩
    |false=>
     simp only[hll,cond_false,zC]at hs;subst hs;have hge:¬l<len:=fun hlt=>by have:Nat.blt l len=true:=Nat.ble_eq_true_of_le hlt;rw[hll]at this;cases this
     have hul:u-l=0:=by omega
     simp only[VR];rw[hul];split<;>exact⟨_,_,rfl,nofun⟩
   case h_3=>cases hs
  case h_6 o off he=>
   rw[he]at hx;simp only[VR]at hx;obtain⟨b,sh,hρ,hv⟩:=hx;split at hs;case h_2=>cases hs
   rename_i n el _ _ _ _ ht;split at hs;case h_2=>cases hs
   rename_i ei e cs hel hg;have hu:=(hE.ty t _ ht).und;cases hle:Nat.ble (off+n*ei.size) cs.length with
   |false=>simp only[hle,cond_false]at hs;cases hs
   |true=>
    simp only[hle,cond_true]at hs;have hle:=zE hle;obtain⟨b2,sh2,h7,arr,fr,h8,h9,h10,_⟩:=hr.obj o _ hg;rw[hρ]at h7;cases h7;split at hs;case h_2=>cases hs
    rename_i l u m hbd;obtain⟨mm,h1,h2,h3,h4,h5,h6⟩:=Ca (P:=P) (s:=false) hev hbd (c:=n) (fun n hn=>by cases hn;rfl) (zI _);obtain rfl:=h5 m rfl;have run:(Instr.sliceAt t (ρ x) (lo.map ρ) (hi.map ρ) (mx.map ρ)).run P w=.ok (.slice (some (if mm=l then⟨b,sh+off,none⟩ else⟨b,sh+off+l*ei.size,none⟩)) (u-l) (mm-l)) w:=by simp only[Instr.sliceAt,zJ,run_underlying hu,zF,hv,Instr.sureAddr,h1,AX hE hel,zP,Cr]
    refine⟨_,run,?_⟩;cases hml:Nat.beq mm l with
    |true=>
     obtain rfl:=zD hml;simp only[hml,cond_true,zC]at hs;subst hs;simp only[VR,if_true];have:u-mm=0:=by omega
     exact⟨b,sh,0,arr,e,fr,hρ,by simp[this],zI _,(fun n hn=>by cases hn;rfl),h8,by omega⟩
    |false=>
     simp only[hml,cond_false,zC]at hs;subst hs;have hne:=Nat.ne_of_beq_eq_false hml;rw[if_neg hne];simp only[VR];refine⟨b,sh,mm-l,arr,e,fr,hρ,by rw[Nat.add_assoc],by omega,(fun n hn=>by cases hn;rfl),h8,?_⟩;have hmul:mm*ei.size≤n*ei.size:=Nat.mul_le_mul_right _ h4;have hsub:l*ei.size+(mm-l)*ei.size=mm*ei.size:=by rw[←Nat.add_mul];congr 1;omega
     omega
  case h_7=>cases hs
end
section
variable {P:Program}{E:Env}{k:K}{h h':AH}{w:World}{v':AV}{ev:Operand→AV}{ρ:Operand→Value}
theorem AdW (hr:HR k h w)(hev:∀x,VR k w (ev x) (ρ x)){c a b:Operand}(ho:opA E (.pick c a b) ev h=some (v',h')) :
 Bz k h w v' h' ((do pure (Next.value (if ←asBool (ρ c) then ρ a else ρ b)):Sem Next).run P w):=by
 simp only[opA]at ho;split at ho;case h_2=>cases ho
 rename_i t hc;simp only[zC,zG]at ho;obtain⟨rfl,rfl⟩:=ho;have h1:=hev c;rw[hc]at h1;simp only[VR]at h1;have e:(do pure (Next.value (if ←asBool (ρ c) then ρ a else ρ b)):Sem Next).run P w=.ok (.value (if t then ρ a else ρ b)) w:=by simp[h1,asBool]
 rw[e];refine .pure hr ?_;cases t
 ·exact hev b
 ·exact hev a
theorem Qj (hE:Az P E)(hr:HR k h w)(hev:∀x,VR k w (ev x) (ρ x)){s:TypeId}{x:Operand}{f:Nat}(ho:opA E (.fieldAddr s x f) ev h=some (v',h')) :
 Bz k h w v' h' ((do pure (Next.value (←Instr.fieldAt s (ρ x) f)):Sem Next).run P w):=by
 simp only[opA]at ho;split at ho;case h_2=>cases ho
 rename_i fields _ _ _ _ ht;have hu:=(hE.ty s _ ht).und;split at ho;case h_2=>cases ho
 rename_i fl hfl;split at ho;case h_2=>cases ho
 rename_i fi hfi;cases hb:Nat.ble 1 fi.size with
 |false=>simp only[hb,cond_false]at ho;cases ho
 |true=>
  simp only[hb,cond_true]at ho;have hne:fi.size≠0:=by have:=zE hb;omega
  have hx:=hev x;have run:∀a:Addr,ρ x=.pointer (some a)→(Instr.fieldAt s (ρ x) f).run P w=.ok (.pointer (some (a.add fl.offset))) w:=by intro a ha;simp[Instr.fieldAt,run_underlying hu,hfl,ha,Instr.sureAddr,fieldPlace,AX hE hfi,hne]
  split at ho;case h_1 o off he=>
   cases ho;rw[he]at hx;simp only[VR]at hx;obtain⟨b,sh,h1,h2⟩:=hx;refine .val hr (run _ h2) ?_;simp only[VR];exact⟨b,sh,h1,by rw[Cr,Nat.add_assoc]⟩
  case h_2 cs off he=>
   cases ho;rw[he]at hx;simp only[VR]at hx;obtain⟨b,sh,h2,h3,h4⟩:=hx;refine .val hr (run _ h2) ?_;simp only[VR];exact⟨b,sh,by rw[Cr,Nat.add_assoc],h3,h4⟩
  case h_3=>cases ho
theorem YZ (hE:Az P E)(hr:HR k h w)(hev:∀x,VR k w (ev x) (ρ x)){t:TypeId}{x:Operand}{f:Nat}(ho:opA E (.field t x f) ev h=some (v',h')) :
 Bz k h w v' h' ((do pure (Next.value (←Instr.field t (ρ x) f)):Sem Next).run P w):=by
 simp only[opA]at ho;split at ho;case h_2=>cases ho
 rename_i fields _ _ _ _ ht;have hu:=(hE.ty t _ ht).und;split at ho;case h_2=>cases ho
 rename_i fl cs hfl he;simp only[one]at ho;cases hp:JX E fl.type cs fl.offset with
 |none=>simp[hp]at ho|some v=>simp only[hp,Option.map_some,zC,zG]at ho;obtain⟨rfl,rfl⟩:=ho;have hx:=hev x;rw[he]at hx;simp only[VR]at hx;obtain⟨vs,h1,h2⟩:=hx;obtain⟨u,h3,h4⟩:=LW (P:=P) hE hp h2;exact .val hr (by simp[Instr.field,run_underlying hu,hfl,h1,asAgg,h3]) h4
theorem Qo (hE:Az P E)(hr:HR k h w)(hev:∀x,VR k w (ev x) (ρ x)){t:TypeId}{x ix:Operand}(ho:opA E (.indexAddr t x ix) ev h=some (v',h')) :
 Bz k h w v' h' ((do pure (Next.value (←Instr.indexAt t (ρ x) (ρ ix))):Sem Next).run P w):=by
 simp only[opA]at ho;split at ho;case h_2=>cases ho
 rename_i ti i ht hi;have hu:=(hE.ty t _ ht).und;obtain⟨kd,hix⟩:=CU hi (hev ix);have hx:=hev x;have FL:∀{n:Nat},Nat.blt i n=true→i<n:=fun hb=>zE hb
 split at ho;case h_1 el o off len sz cap hund he=>
  rw[hund]at hu;split at ho;case h_2=>cases ho
  rename_i ei hel;cases hb:(Nat.blt i len&&Nat.beq ei.size sz) with
  |false=>simp only[hb,cond_false]at ho;cases ho
  |true=>simp only[hb,cond_true,zC,zG]at ho;simp only[zA]at hb;obtain⟨rfl,rfl⟩:=ho;obtain rfl:=zD hb.2;have hlt:=FL hb.1;rw[he]at hx;simp only[VR]at hx;obtain⟨b,sh,c,arr,e,fr,hρ,hv,_⟩:=hx;refine .val hr (v:=.pointer (some ⟨b,sh+off+i*ei.size,none⟩)) ?_ (by simp only[VR];exact⟨b,sh,hρ,by rw[Nat.add_assoc]⟩);simp only[Instr.indexAt,zJ,hix,hv,asIntOf,zP,zF,run_underlying hu];rw[if_pos (by omega)];simp[AX hE hel,Cr]
 case h_2 el cs len cap hund he=>
  rw[hund]at hu;split at ho;case h_2=>cases ho
  rename_i ei hel;cases hb:Nat.blt i len with
  |false=>simp only[hb,cond_false]at ho;cases ho
  |true=>simp only[hb,cond_true,zC,zG]at ho;obtain⟨rfl,rfl⟩:=ho;have hlt:=FL hb;rw[he]at hx;simp only[VR]at hx;obtain⟨b,sh,c,hv,h1,h2,h3,h4⟩:=hx;refine .val hr (v:=.pointer (some ⟨b,sh+i*ei.size,none⟩)) ?_ (by simp only[VR];exact⟨b,sh,rfl,h3,h4⟩);simp only[Instr.indexAt,zJ,hix,hv,asIntOf,zP,zF,run_underlying hu];rw[if_pos (by omega)];simp[AX hE hel,Cr]
 case h_3 n el o off hund he=>
  rw[hund]at hu;split at ho;case h_2=>cases ho
  rename_i ei hel;cases hb:Nat.blt i n with
  |false=>simp only[hb,cond_false]at ho;cases ho
  |true=>simp only[hb,cond_true,zC,zG]at ho;obtain⟨rfl,rfl⟩:=ho;have hlt:=FL hb;rw[he]at hx;simp only[VR]at hx;obtain⟨b,sh,hρ,hv⟩:=hx;refine .val hr (v:=.pointer (some ⟨b,sh+off+i*ei.size,none⟩)) ?_ (by simp only[VR];exact⟨b,sh,hρ,by rw[Nat.add_assoc]⟩);simp only[Instr.indexAt,zJ,hix,hv,asIntOf,zP,zF,run_underlying hu,Instr.sureAddr];rw[if_pos (by omega)];simp[AX hE hel,Cr]
 case h_4 n el cs off hund he=>
  rw[hund]at hu;split at ho;case h_2=>cases ho
  rename_i ei hel;cases hb:Nat.blt i n with
  |false=>simp only[hb,cond_false]at ho;cases ho
  |true=>simp only[hb,cond_true,zC,zG]at ho;obtain⟨rfl,rfl⟩:=ho;have hlt:=FL hb;rw[he]at hx;simp only[VR]at hx;obtain⟨b,sh,hv,h3,h4⟩:=hx;refine .val hr (v:=.pointer (some ⟨b,sh+off+i*ei.size,none⟩)) ?_ (by simp only[VR];exact⟨b,sh,by rw[Nat.add_assoc],h3,h4⟩);simp only[Instr.indexAt,zJ,hix,hv,asIntOf,zP,zF,run_underlying hu,Instr.sureAddr];rw[if_pos (by omega)];simp[AX hE hel,Cr]
 case h_5=>cases ho
theorem Yj (hE:Az P E)(hk:k.sz=⟨P.cellsOf,E.sel,E.tok,E.str,E.mp⟩)(hr:HR k h w)(hev:∀x,VR k w (ev x) (ρ x)){t:TypeId}{x ix:Operand}(ho:opA E (.index t x ix) ev h=some (v',h')) :
 Bz k h w v' h' ((do pure (Next.value (←Instr.index t (ρ x) (ρ ix))):Sem Next).run P w):=by
 simp only[opA]at ho;split at ho;case h_2=>cases ho
 rename_i ti i ht hi;have hu:=(hE.ty t _ ht).und;obtain⟨kd,hix⟩:=CU hi (hev ix);have hx:=hev x;split at ho;case h_1 s hund he=>
  rw[hund]at hu;cases hs:s[i]? with
  |none=>simp[hs]at ho|some c=>
   rw[hs]at ho;cases ho;rw[he]at hx;simp only[VR]at hx;obtain⟨b,hv,hbs⟩:=hx;rw[←hbs,List.getElem?_map]at hs;cases hd:b.data.toList[i]? with
   |none=>simp[hd]at hs|some u=>
    simp only[hd,Option.map_some,zC]at hs;subst hs;have hb:b[i]?=some u:=by
     have hlt:=(zN.1 hd).1;have hlt':i<b.size:=by simpa using hlt
     rw[getElem?_pos b i hlt'];have:=(zN.1 hd).2;simp only[Array.getElem_toList]at this;exact congrArg some this
    refine .val hr (v:=.int .u8 (u.toNat:Int)) ?_ (by simp only[VR]);simp only[Instr.index,zJ,hix,hv,asIntOf,zP,zF,run_underlying hu];rw[if_pos (by omega)];simp[hb]
 case h_2 j hund he=>
  rw[hund]at hu;cases hs:E.sat j i with
  |none=>simp[hs]at ho|some r=>rw[hs]at ho;cases ho;rw[he]at hx;obtain⟨s,u,hv,hb,h4⟩:=hE.sat j i _ hs k w _ hk hx;refine .val hr (v:=.int .u8 (u.toNat:Int)) ?_ h4;simp only[Instr.index,zJ,hix,hv,asIntOf,zP,zF,run_underlying hu];rw[if_pos (by omega)];simp[hb]
 case h_3 n el cs hund he=>
  rw[hund]at hu;split at ho;case h_2=>cases ho
  rename_i ei hel;cases hb:Nat.blt i n with
  |false=>simp only[hb,cond_false]at ho;cases ho
  |true=>
   have hlt:i<n:=zE hb;simp only[hb,cond_true,one]at ho;cases hp:JX E el cs (i*ei.size) with
   |none=>simp[hp]at ho|some v=>simp only[hp,Option.map_some,zC,zG]at ho;obtain⟨rfl,rfl⟩:=ho;rw[he]at hx;simp only[VR]at hx;obtain⟨vs,h1,h2⟩:=hx;obtain⟨u,h3,h4⟩:=LW (P:=P) hE hp h2;refine .val hr ?_ h4;simp only[Instr.index,zJ,hix,h1,asIntOf,zP,zF,run_underlying hu];rw[if_pos (by omega)];simp[AX hE hel,h3]
 case h_4=>cases ho
theorem Vz (hr:HR k h w)(hev:∀x,VR k w (ev x) (ρ x)){t:Operand}{i:Nat}(ho:opA E (.extract t i) ev h=some (v',h')) :
 Bz k h w v' h' ((do pure (Next.value (←Instr.extract (ρ t) i)):Sem Next).run P w):=by
 simp only[opA]at ho;split at ho;case h_2=>cases ho
 rename_i vs he;cases hv:vs[i]? with
 |none=>simp[hv]at ho|some x=>
  simp only[hv,Option.map_some,zC,zG]at ho;obtain⟨rfl,rfl⟩:=ho;have hx:=hev t;rw[he]at hx;simp only[VR]at hx;obtain⟨us,h1,h2⟩:=hx;obtain⟨u,h3,h4⟩:=h2.get _ _ hv;have e:us[i]?=some u:=by simpa using h3
  exact .val hr (by simp[Instr.extract,h1,e]) h4
theorem OW (hE:Az P E)(hr:HR k h w)(hev:∀x,VR k w (ev x) (ρ x)){x:Operand}{xt as':TypeId}{ok:Bool}(ho:opA E (.typeAssert x xt as' ok) ev h=some (v',h')) :
 Bz k h w v' h' ((do pure (Next.value (←Instr.typeAssert (ρ x) xt as' ok)):Sem Next).run P w):=by
 simp only[opA]at ho;cases ht:E.ty as' with
 |none=>simp[ht]at ho|some ai=>
  simp only[ht]at ho;have hu:=(hE.ty as' _ ht).und;obtain⟨z,z1,z2,z3⟩:=EM hE ht w;have hx:=hev x;have good:∀{v:AV} {u:Value},VR k w v u→(some (bif ok then AV.tup [v,.bool true] else v,h)=some (v',h'))→(Instr.typeAssert (ρ x) xt as' ok).run P w=.ok (if ok then .tuple #[u,.bool true] else u) w→
   Bz k h w v' h' ((do pure (Next.value (←Instr.typeAssert (ρ x) xt as' ok)):Sem Next).run P w):=by
   intro v u hv he hrun;simp only[zC,zG]at he;obtain⟨rfl,rfl⟩:=he;refine .val hr hrun ?_;cases ok
   ·exact hv
   ·simp only[cond_true,VR,if_true];exact⟨_,rfl,by simp only[VRL];exact⟨_,_,rfl,hv,_,_,rfl,by simp only[VR],rfl⟩⟩
  have bad:((bif ok then some (AV.tup [ai.zero,.bool false],h) else none)=some (v',h'))→(ok=true→(Instr.typeAssert (ρ x) xt as' ok).run P w=.ok (.tuple #[z,.bool false]) w)→
   Bz k h w v' h' ((do pure (Next.value (←Instr.typeAssert (ρ x) xt as' ok)):Sem Next).run P w):=by
   intro he hrun;cases ok with
   |false=>simp at he|true=>simp only[cond_true,zC,zG]at he;obtain⟨rfl,rfl⟩:=he;refine .val hr (hrun rfl) ?_;simp only[VR];exact⟨_,rfl,by simp only[VRL];exact⟨_,_,rfl,z2 k w,_,_,rfl,by simp only[VR],rfl⟩⟩
  split at ho;case h_1 ms hund he=>
   rw[hund]at hu;rw[he]at hx;simp only[VR]at hx;refine bad ho fun hok=>?_
   simp[Instr.typeAssert,run_underlying hu,hx,hok,z1]
  case h_2 ms t v hund he=>
   rw[hund]at hu;rw[he]at hx;have hx':=hx;simp only[VR]at hx;obtain⟨y,h1,h2⟩:=hx;cases hi:E.impl t as' with
   |none=>simp[hi]at ho|some r=>
    obtain⟨want,inf,i1,i2,i3⟩:=hE.impl t as' r hi;rw[hu]at i1;cases i1;have hti:(typeInfo t).run P w=.ok inf w:=by simp[typeInfo,i2]
    cases r with
    |true=>
     simp only[hi]at ho;refine good hx' ho ?_;have:Instr.missingMethod ms inf.methods=none:=by simpa using i3
     simp only[Instr.typeAssert,zJ,run_underlying hu,zF,h1,hti,this,zP]
    |false=>
     simp only[hi]at ho;refine bad ho fun hok=>?_
     obtain⟨m,hm⟩:∃m,Instr.missingMethod ms inf.methods=some m:=by
      cases hmm:Instr.missingMethod ms inf.methods with
      |none=>simp[hmm]at i3|some m=>exact⟨m,rfl⟩
     simp only[Instr.typeAssert,zJ,run_underlying hu,zF,h1,hti,hm,hok,if_true,z1,zP]
  case h_3 he hneg=>
   rw[he]at hx;simp only[VR]at hx;refine bad ho fun hok=>?_
   simp only[Instr.typeAssert,zJ,run_underlying hu,zF,hx,hok,if_true];cases hund:ai.und<;>simp[z1]
  case h_4 t v he hneg=>
   rw[he]at hx;simp only[VR]at hx;obtain⟨y,h1,h2⟩:=hx;have hnoi:∀ms,ai.und≠.interface ms:=fun ms hm=>hneg ms hm
   cases hb:Nat.beq t as' with
   |true=>obtain rfl:=zD hb;simp only[hb,cond_true]at ho;refine good h2 ho ?_;simp only[Instr.typeAssert,zJ,run_underlying hu,zF,h1];cases hund:ai.und<;>first|exact absurd hund (hnoi _)|simp
   |false=>
    simp only[hb,cond_false]at ho;have hne:=Nat.ne_of_beq_eq_false hb;refine bad ho fun hok=>?_
    simp only[Instr.typeAssert,zJ,run_underlying hu,zF,h1,hok,if_true];cases hund:ai.und<;>first|exact absurd hund (hnoi _)|simp[hne,z1]
  case h_5=>cases ho
end
section
variable {P:Program}{E:Env}{k:K}{h h':AH}{w:World}{v':AV}{ev:Operand→AV}{ρ:Operand→Value}
theorem HR.setObj (hr:HR k h w){o:Nat}{ob ob':AO}{b sh:Nat}(hg:h.get o=some ob)(hρ:k.ρ o=some (b,sh)){old new:Obj}(hold:w.heap[b]?=some old)(hnc:∀arr e fr,old≠.cells arr e fr)
 (hob:Le k k w { w with heap:=w.heap.setIfInBounds b new }→({ w with heap:=w.heap.setIfInBounds b new } : World).heap[b]?=some new→ObR k { w with heap:=w.heap.setIfInBounds b new } b sh ob') :
 HR k (h.set o (some ob')) { w with heap:=w.heap.setIfInBounds b new }∧Ev k k h (h.set o (some ob')) w { w with heap:=w.heap.setIfInBounds b new }:=by
 have hlt:=(Array.getElem?_eq_some_iff.1 hold).1;refine hr.write hg hρ rfl rfl rfl (by simp) (fun b' hb=>?_) (fun arr e fr hx=>?_) (fun le=>hob le ?_)
 ·show(w.heap.setIfInBounds b new)[b']?=_;rw[Array.getElem?_setIfInBounds,if_neg (fun e=>hb e.symm)]
 ·rw[hold]at hx;cases hx;exact absurd rfl (hnc _ _ _)
 ·show(w.heap.setIfInBounds b new)[b]?=_;rw[Array.getElem?_setIfInBounds,if_pos rfl,if_pos hlt]
theorem Ei {b:Nat}{ob:Obj}(h:w.heap[b]?=some ob)(hnc:∀arr e fr,ob≠.cells arr e fr):(getObj b).run P w=.ok ob w:=by simp only[getObj,Sem.run,h]
theorem DL {b:Nat}{ob new:Obj}(h:w.heap[b]?=some ob)(hnc:∀arr e fr,ob≠.cells arr e fr):(Go.setObj b new).run P w=.ok () { w with heap:=w.heap.setIfInBounds b new }:=by simp only[Go.setObj,Sem.run,h]
theorem CE {kt:TypeId}{d:TypeDesc}(hd:P.underlying kt=some d){kA:AV}(hp:plainKey d kA=true){kv:Value}(hk:VR k w kA kv)(e:Bool)(W:World):(Instr.checkKey e 10000 kt kv).run P W=.ok () W:=by
 show(Instr.checkKey e (9999+1) kt kv).run P W=.ok () W;generalize 9999=n;cases d<;>cases kA<;>simp only[plainKey]at hp<;>try (cases hp;done)
 all_goals
  simp only[VR]at hk;first
   |(subst hk;simp[Instr.checkKey,run_underlying hd])
   |(obtain⟨b,rfl,_⟩:=hk;simp[Instr.checkKey,run_underlying hd])
theorem Tj {d:TypeDesc}{kA x:AV}{r:Bool}(he:Gj kA x=some r)(hp:plainKey d kA=true){kv v:Value}(hk:VR k w kA kv)(hv:VR k w x v) :
 Instr.sameNow d kv v=some r∧(r=true→v=kv)∧∀n,Instr.sameBits n kv kv=true:=by
 cases d<;>cases kA<;>simp only[plainKey]at hp<;>try (cases hp;done)
 case bool b=>
  cases x<;>simp only[Gj]at he<;>try (cases he;done)
  cases he;simp only[VR]at hk hv;subst hk hv;refine⟨rfl,fun h=>?_,fun n=>by simp[Instr.sameBits]⟩;rw[beq_iff_eq]at h;rw[h]
 case int kd1 kd a=>
  cases x<;>simp only[Gj]at he<;>try (cases he;done)
  rename_i kd' b;simp only[VR]at hk hv;subst hk hv;cases hd:decide (kd=kd') with
  |false=>simp only[hd,cond_false]at he;cases he
  |true=>
   obtain rfl:kd=kd':=by simpa using hd
   simp only[decide_true,cond_true,zC]at he;refine⟨by simp[Instr.sameNow,he],fun h=>?_,fun n=>by simp[Instr.sameBits]⟩;rw[h,beq_iff_eq]at he;rw[he]
 case string.stok i=>
  cases x<;>simp only[Gj]at he<;>try (cases he;done)
  obtain⟨h1,h2⟩:=Jj he;obtain rfl:=zD h1;cases h2;simp only[VR]at hk hv;subst hk hv;exact⟨by simp[Instr.sameNow,Wy],fun _=>rfl,fun n=>by simp[Instr.sameBits,Wy]⟩
 case string.str s=>
  cases x<;>simp only[Gj]at he<;>try (cases he;done)
  cases he;simp only[VR]at hk hv;obtain⟨b1,rfl,rfl⟩:=hk;obtain⟨b2,rfl,rfl⟩:=hv;rw[E5];refine⟨by simp only[Instr.sameNow,Wy],fun h=>?_,fun n=>by simp[Instr.sameBits,Wy]⟩;rw[beq_iff_eq]at h;cases b1;cases b2;simp_all
theorem B1 {d:TypeDesc}{kA:AV}(hp:plainKey d kA=true){kv:Value}(hk:VR k w kA kv):∀{es:List (AV×AV×Nat)} {Ax:List MapEntry} {i:Nat} {r:Option (Nat×AV)},CS kA es i=some r→MR k w es Ax→
 (match r with
 |none=>Instr.findNow d kv Ax i=some none|some (j,y)=>i≤j∧∃e,Ax[j-i]?=some e∧Instr.findNow d kv Ax i=some (some (j,e.val))∧VR k w y e.val∧e.key=kv∧∀n,Instr.sameBits n kv kv=true)
 |[],Ax,i,r,hf,hm=>by simp only[CS,zC]at hf;simp only[MR]at hm;subst hf hm;rfl
 |(x,y,n)::es,Ax,i,r,hf,hm=>by
  simp only[MR]at hm;obtain⟨e,es',rfl,h1,h2,h3,h4⟩:=hm;simp only[CS]at hf;cases hq:Gj kA x with
  |none=>simp[hq]at hf|some b=>
   obtain⟨q1,q2,q3⟩:=Tj hq hp hk h1;cases b with
   |true=>simp only[hq,zC]at hf;subst hf;exact⟨zI _,e,by simp,by simp[Instr.findNow,q1],h2,q2 rfl,q3⟩
   |false=>
    simp only[hq]at hf;have ih:=B1 hp hk hf h4;cases r with
    |none=>show Instr.findNow d kv (e::es') i=some none;simp only[Instr.findNow,q1];exact ih
    |some jy=>obtain⟨j,y'⟩:=jy;obtain⟨i1,e',i2,i3,i4⟩:=ih;refine⟨by omega,e',?_,by simp only[Instr.findNow,q1];exact i3,i4⟩;rw[show j-i=(j-(i+1))+1 by omega];simpa using i2
theorem run_findKey {kt:TypeId}{d:TypeDesc}(hd:P.underlying kt=some d){kv:Value}{l:List MapEntry}{a:Option (Nat×Value)}(h:Instr.findNow d kv l 0=some a)(W:World):(Instr.findKey kt kv l).run P W=.ok a W:=by simp only[Instr.findKey,zJ,run_underlying hd,zF,h,zP]
theorem MR.length:∀{es:List (AV×AV×Nat)} {Ax:List MapEntry},MR k w es Ax→Ax.length=es.length
 |[],_,hm=>by simp only[MR]at hm;subst hm;rfl
 |(x,y,n)::r,_,hm=>by simp only[MR]at hm;obtain⟨e,es',rfl,_,_,_,h4⟩:=hm;simp[MR.length h4]
theorem MR.push {kA x:AV}{kv v:Value}{n m:Nat}(hk:VR k w kA kv)(hv:VR k w x v):∀{es:List (AV×AV×Nat)} {Ax:List MapEntry},MR k w es Ax→MR k w (es++[(kA,x,n)]) (Ax++[{ key:=kv,val:=v,born:=m }])
 |[],Ax,hm=>by simp only[MR]at hm;subst hm;simp only[List.nil_append,MR];exact⟨_,_,rfl,hk,hv,trivial,rfl⟩
 |(a,b,c)::r,Ax,hm=>by simp only[MR]at hm;obtain⟨e,es',rfl,h1,h2,h3,h4⟩:=hm;simp only[List.cons_append,MR];exact⟨_,_,rfl,h1,h2,h3,MR.push hk hv h4⟩
theorem MR.modify {kA x:AV}{kv v:Value}(hk:VR k w kA kv)(hv:VR k w x v):∀{es:List (AV×AV×Nat)} {Ax:List MapEntry} (j:Nat),MR k w es Ax→MR k w (es.modify j fun (_,_,n)=>(kA,x,n)) (Ax.modify j fun e=>{ e with key:=kv,val:=v })
 |[],Ax,j,hm=>by simp only[MR]at hm;subst hm;cases j<;>simp[MR]
 |(a,b,c)::r,Ax,0,hm=>by simp only[MR]at hm;obtain⟨e,es',rfl,h1,h2,h3,h4⟩:=hm;simp only[List.modify_zero_cons,MR];exact⟨_,_,rfl,hk,hv,h3,h4⟩
 |(a,b,c)::r,Ax,j+1,hm=>by simp only[MR]at hm;obtain⟨e,es',rfl,h1,h2,h3,h4⟩:=hm;simp only[List.modify_succ_cons,MR];exact⟨_,_,rfl,h1,h2,h3,MR.modify hk hv j h4⟩
theorem MR.erase:∀{es:List (AV×AV×Nat)} {Ax:List MapEntry} (j:Nat),MR k w es Ax→MR k w (es.eraseIdx j) (Ax.eraseIdx j)
 |[],Ax,j,hm=>by simp only[MR]at hm;subst hm;simp[MR]
 |(a,b,c)::r,Ax,0,hm=>by simp only[MR]at hm;obtain⟨e,es',rfl,h1,h2,h3,h4⟩:=hm;simpa using h4
 |(a,b,c)::r,Ax,j+1,hm=>by simp only[MR]at hm;obtain⟨e,es',rfl,h1,h2,h3,h4⟩:=hm;simp only[List.eraseIdx_cons_succ,MR];exact⟨_,_,rfl,h1,h2,h3,MR.erase j h4⟩
theorem Xj (hE:Az P E)(hr:HR k h w)(hev:∀x,VR k w (ev x) (ρ x)){t:TypeId}{x ix:Operand}{ok:Bool}(ho:opA E (.lookup t x ix ok) ev h=some (v',h')) :
 Bz k h w v' h' ((do pure (Next.value (←Instr.lookup t (ρ x) (ρ ix) ok)):Sem Next).run P w):=by
 simp only[opA]at ho;split at ho;case h_2=>cases ho
 rename_i kt et _ _ _ _ ht;have hu:=(hE.ty t _ ht).und;split at ho;case h_2=>cases ho
 rename_i ki ei hki hei;have hku:=(hE.ty kt _ hki).und;cases hp:plainKey ki.und (ev ix) with
 |false=>simp only[hp,cond_false]at ho;cases ho
 |true=>
  simp only[hp,cond_true]at ho;have hx:=hev x;have hix:=hev ix;obtain⟨z,z1,z2,z3⟩:=EM hE hei w;have fin:∀{v:AV} {u:Value} {b:Bool},VR k w v u→(some (bif ok then AV.tup [v,.bool b] else v,h)=some (v',h'))→(Instr.lookup t (ρ x) (ρ ix) ok).run P w=.ok (if ok then .tuple #[u,.bool b] else u) w→
   Bz k h w v' h' ((do pure (Next.value (←Instr.lookup t (ρ x) (ρ ix) ok)):Sem Next).run P w):=by
   intro v u b hv he hrun;simp only[zC,zG]at he;obtain⟨rfl,rfl⟩:=he;refine .val hr hrun ?_;cases ok
   ·exact hv
   ·simp only[cond_true,VR,if_true];exact⟨_,rfl,by simp only[VRL];exact⟨_,_,rfl,hv,_,_,rfl,by simp only[VR],rfl⟩⟩
  split at ho;case h_1 he=>
   rw[he]at hx;simp only[VR]at hx;refine fin (z2 k w) ho ?_;simp only[Instr.lookup,zJ,run_underlying hu,zF,hx,zP,CE hku hp hix,
    run_findKey hku (show Instr.findNow ki.und (ρ ix) (#[]:Array MapEntry).toList 0=some none from rfl),z1]
  case h_2 o he=>
   rw[he]at hx;simp only[VR]at hx;obtain⟨b,hρ,hv⟩:=hx;split at ho;case h_2=>cases ho
   rename_i es cl hg;obtain⟨b2,sh,h1,h2,Ax,clc,h3,h4⟩:=hr.obj o _ hg;rw[hρ]at h1;cases h1;have hgo:(getObj b).run P w=.ok (.map Ax clc) w:=Ei h3 (by simp);split at ho;case h_1 j y hf=>
    obtain⟨_,e,f1,f2,f3,_⟩:=B1 hp hix hf h4;refine fin f3 ho ?_;simp only[Instr.lookup,zJ,run_underlying hu,zF,hv,hgo,zP,CE hku hp hix,run_findKey hku f2]
   case h_2 hf=>
    have f2:=B1 hp hix hf h4;refine fin (z2 k w) ho ?_;simp only[Instr.lookup,zJ,run_underlying hu,zF,hv,hgo,zP,CE hku hp hix,run_findKey hku f2,z1]
   case h_3=>cases ho
  case h_3=>cases ho
theorem KE (hE:Az P E)(hr:HR k h w)(hev:∀x,VR k w (ev x) (ρ x)){t:TypeId}{m kk x:Operand}(ho:opA E (.mapUpdate t m kk x) ev h=some (v',h')) :
 Bz k h w v' h' ((do Instr.mapUpdate t (ρ m) (ρ kk) (ρ x);pure Next.skip:Sem Next).run P w):=by
 simp only[opA]at ho;split at ho;case h_2=>cases ho
 rename_i kt et _ _ _ _ ht;have hu:=(hE.ty t _ ht).und;split at ho;case h_2=>cases ho
 rename_i ki hki;have hku:=(hE.ty kt _ hki).und;cases hp:plainKey ki.und (ev kk) with
 |false=>simp only[hp,cond_false]at ho;cases ho
 |true=>
  simp only[hp,cond_true]at ho;have hm:=hev m;have hk:=hev kk;have hx:=hev x;split at ho;case h_2=>cases ho
  rename_i o he;rw[he]at hm;simp only[VR]at hm;obtain⟨b,hρ,hv⟩:=hm;split at ho;case h_2=>cases ho
  rename_i es cl hg;obtain⟨b2,sh,h1,h2,Ax,clc,h3,h4⟩:=hr.obj o _ hg;rw[hρ]at h1;cases h1;have hgo:(getObj b).run P w=.ok (.map Ax clc) w:=Ei h3 (by simp);split at ho;case h_1 j y hf=>
   obtain⟨_,e,f1,f2,f3,f4,f5⟩:=B1 hp hk hf h4;simp only[zC,zG]at ho;obtain⟨rfl,rfl⟩:=ho;obtain⟨r1,r2⟩:=hr.setObj (ob':=.map (es.modify j fun (_,_,n)=>(ev kk,ev x,n)) cl) hg hρ h3 (by simp) (new:=.map (Ax.modify j fun e=>{ e with key:=ρ kk,val:=ρ x }) clc)
    (fun le hn=>⟨rfl,_,_,hn,by have:=MR.modify hk hx j h4;rw[Array.toList_modify];exact this.mono le⟩)
   refine .unit ?_ r1 r2;have hej:Ax[j]?=some e:=by simpa using f1
   have hst:(Instr.keyThatStays (((Ax[j]?).map (·.key)).getD (ρ kk)) (ρ kk)).run P w=.ok (ρ kk) w:=by simp[Instr.keyThatStays,hej,f4,f5]
   simp only[Instr.mapUpdate,zJ,run_underlying hu,zF,hv,hgo,CE hku hp hk,run_findKey hku f2,hst,DL h3 (show ∀arr e fr,Obj.map Ax clc≠.cells arr e fr by simp)]
  case h_2 hf=>
   have f2:=B1 hp hk hf h4;simp only[zC,zG]at ho;obtain⟨rfl,rfl⟩:=ho;obtain⟨r1,r2⟩:=hr.setObj (ob':=.map (es++[(ev kk,ev x,cl)]) (cl+1)) hg hρ h3 (by simp) (new:=.map (Ax.push { key:=ρ kk,val:=ρ x,born:=clc }) (clc+1))
    (fun le hn=>⟨rfl,_,_,hn,by have:=MR.push (n:=cl) (m:=clc) hk hx h4;rw[Array.toList_push];exact this.mono le⟩)
   refine .unit ?_ r1 r2;simp only[Instr.mapUpdate,zJ,run_underlying hu,zF,hv,hgo,CE hku hp hk,run_findKey hku f2,DL h3 (show ∀arr e fr,Obj.map Ax clc≠.cells arr e fr by simp)]
  case h_3=>cases ho
theorem Aa6 (hE:Az P E)(hr:HR k h w)(hev:∀x,VR k w (ev x) (ρ x)){t:TypeId}{x:Operand}(ho:opA E (.range t x) ev h=some (v',h')) :
 Bz k h w v' h' ((do pure (Next.value (←Instr.range t (ρ x))):Sem Next).run P w):=by
 simp only[opA]at ho;split at ho;case h_2=>cases ho
 rename_i ht he;have hu:=(hE.ty t _ ht).und;have hx:=hev x;rw[he]at hx;simp only[VR]at hx;obtain⟨b,hv,hb⟩:=hx;unfold GF at ho;cases hal:h.alloc (.siter _ 0) with
 |none=>rw[hal]at ho;cases ho
 |some p=>obtain⟨o,h1⟩:=p;rw[hal]at ho;simp only[zC,zG]at ho;obtain⟨rfl,rfl⟩:=ho;obtain⟨r1,r2,_⟩:=hr.alloc hal (.stringIter b 0) w.drawn (fun le=>⟨rfl,b,by simp,hb⟩);refine .Ua (v:=.pointer (some ⟨w.heap.size,0,none⟩)) ?_ r1 r2 (by simp only[VR];exact⟨_,_,K.BJ _ _ _,rfl⟩);simp[Instr.range,run_underlying hu,hv]
theorem AbH (hr:HR k h w)(hev:∀x,VR k w (ev x) (ρ x)){it:Operand}{ty:TypeId}(ho:opA E (.next it true) ev h=some (v',h')) :
 Bz k h w v' h' ((do pure (Next.value (←Instr.next (ρ it) true ty)):Sem Next).run P w):=by
 simp only[opA]at ho;split at ho;case h_2=>cases ho
 rename_i o he;have hx:=hev it;rw[he]at hx;simp only[VR]at hx;obtain⟨b,sh,hρ,hv⟩:=hx;split at ho;case h_2=>cases ho
 rename_i s pos hg;obtain⟨b2,sh2,h1,h2,bs,h3,h4⟩:=hr.obj o _ hg;rw[hρ]at h1;cases h1;subst h2;have hgo:(getObj b).run P w=.ok (.stringIter bs pos) w:=Ei h3 (by simp);have hlen:bs.size=s.length:=by rw[←h4];simp
 cases hb:Nat.blt pos s.length with
 |false=>
  simp only[hb,cond_false,zC,zG]at ho;obtain⟨rfl,rfl⟩:=ho;have hge:¬pos<bs.size:=by rw[hlen];intro hlt;have:Nat.blt pos s.length=true:=Nat.ble_eq_true_of_le hlt;rw[hb]at this;cases this
  refine .val hr (v:=.tuple #[.bool false]) ?_ (by simp only[VR];exact⟨_,rfl,by simp only[VRL];exact⟨_,_,rfl,by simp only[VR],rfl⟩⟩);simp only[Instr.next,hv,Nat.add_zero,zJ,hgo,zF];rw[if_neg hge];rfl
 |true=>
  simp only[hb,cond_true]at ho;have hlt:pos<s.length:=zE hb;split at ho;case h_2=>cases ho
  rename_i c hc;cases hc2:Nat.blt c 128 with
  |false=>simp only[hc2,cond_false]at ho;cases ho
  |true=>
   simp only[hc2,cond_true,zC,zG]at ho;obtain⟨rfl,rfl⟩:=ho;have hclt:c<128:=zE hc2;have hdec:Utf8.decode bs pos=(c,1):=by
    have hd:(bs.get! (pos+0)).toNat=c:=by
     rw[←h4,List.getElem?_map]at hc;cases hd:bs.data.toList[pos]? with
     |none=>simp[hd]at hc|some u=>
      simp only[hd,Option.map_some,zC]at hc;have hlt':pos<bs.data.size:=by have:=hlen;simp at this ⊢;omega
      have e:=(zN.1 hd).2;simp only[Array.getElem_toList]at e;rw[←hc,←e];show(bs.data[pos+0]!).toNat=_;simp only[Nat.add_zero];rw[getElem!_pos bs.data pos hlt']
    simp only[Utf8.decode,hd];rw[if_pos hclt]
   obtain⟨r1,r2⟩:=hr.setObj (ob':=.siter s (pos+1)) hg hρ h3 (by simp) (new:=.stringIter bs (pos+1)) (fun le hn=>⟨rfl,bs,hn,h4⟩);refine .Ua (v:=.tuple #[.bool true,goInt pos,.int .i32 c]) ?_ r1 r2 ?_
   ·simp only[Instr.next,hv,Nat.add_zero,zJ,hgo,zF];rw[if_pos (by omega)];simp only[hdec,zJ,DL h3 (show ∀arr e fr,Obj.stringIter bs pos≠.cells arr e fr by simp),zF,zP]
   ·simp only[VR,goInt];exact⟨_,rfl,by simp only[VRL];exact⟨_,_,rfl,by simp only[VR],_,_,rfl,by simp only[VR],_,_,rfl,by simp only[VR],rfl⟩⟩
end
section
variable {P:Program}{E:Env}{k:K}{h h':AH}{w:World}{v':AV}{ev:Operand→AV}{ρ:Operand→Value}
theorem HR.drawn (hr:HR k h w)(d:Nat):HR k h { w with drawn:=d }∧Ev k k h h w { w with drawn:=d }:=by have ev:Ev k k h h w { w with drawn:=d }:=⟨rfl,rfl,rfl,rfl,zI _,fun _ _ _=>rfl,fun b arr e fr hx=>⟨arr,fr,hx,rfl⟩,fun _ _ h=>h,fun _ h=>h,fun o ob b sh h1 h2 _=>⟨o,ob,sh,h1,h2⟩,zI _,fun _ _=>rfl,fun _ _ h=>.inl h⟩;have le:=ev.le hr;exact⟨⟨fun o ob h1=>let⟨b,sh,h2,h3⟩:=hr.obj o ob h1;⟨b,sh,h2,h3.mono le rfl⟩,hr.inj,hr.nfz,hr.fresh,hr.lt⟩,ev⟩
theorem Ln {a:Addr}{vs:List Value}(hc:∀(j:Nat) (v:Value),vs[j]?=some v→w.cell? (a.add j)=some v){n:Nat}(hn:vs.length=n):(loadCells a n).run P w=.ok vs.toArray w:=by have:=run_loadCells_list (P:=P) w a vs hc;rwa[hn]at this
theorem VRL.take {xs:List AV}{vs:List Value}(hv:VRL k w xs vs)(n:Nat):VRL k w (xs.take n) (vs.take n):=by
 have hl:=hv.length;refine VRL.C1 (by simp[hl]) fun i x v hx hv'=>?_
 rw[List.getElem?_take]at hx hv';split at hx
 ·rename_i hi;rw[if_pos hi]at hv';obtain⟨u,h1,h2⟩:=hv.get i x hx;rw[h1]at hv';cases hv';exact h2
 ·cases hx
theorem Ew (hr:HR k h w){sz:Nat}{x:AV}{v:Value}(hx:VR k w x v){n:Nat}{cs:List AV}(he:Da h sz x=some (n,cs)) :
 (Builtin.lenOf v).run P w=.ok n w∧cs.length=n*sz∧∀m,m≤n→∃vs:List Value,(∀d,(Builtin.firstCells sz m v).run P { w with drawn:=d } = .ok vs.toArray { w with drawn:=d })∧VRL k w (cs.take (m*sz)) vs:=by
 cases x<;>simp only[Da]at he<;>try (cases he;done)
 case str s=>
  cases hb:Nat.beq sz 1 with
  |false=>simp only[hb,cond_false]at he;cases he
  |true=>
   obtain rfl:=zD hb;simp only[hb,cond_true,zC,zG]at he;obtain⟨rfl,rfl⟩:=he;simp only[VR]at hx;obtain⟨b,rfl,rfl⟩:=hx;have hsz:b.size=b.data.toList.length:=by simp
   refine⟨by simp[Builtin.lenOf],by simp,fun m hm=>⟨((b.extract 0 m).data.map fun b=>Value.int .u8 b.toNat).toList,fun d=>by simp only[Builtin.firstCells,zP,Array.toArray_toList],?_⟩⟩;have e1:((b.extract 0 m).data.map fun b=>Value.int .u8 b.toNat).toList=(b.data.toList.take m).map fun b=>Value.int .u8 (b.toNat:Int):=by rw[Array.toList_map,Lib.extract_data];simp
   rw[e1,Nat.mul_one];have key:∀l:List UInt8,VRL k w ((l.map UInt8.toNat).map NV) (l.map fun b=>Value.int .u8 (b.toNat:Int)):=by
    intro l
    induction l with
    |nil=>simp only[List.map_nil,VRL]|cons u l ih=>simp only[List.map_cons,VRL];exact⟨_,_,rfl,by simp only[NV,VR],ih⟩
   rw[←List.map_take,←List.map_take];exact key _
 case nils=>
  cases he;simp only[VR]at hx;subst hx;exact⟨by simp[Builtin.lenOf],by simp,fun m hm=>⟨[],fun d=>by simp[Builtin.firstCells],by simp[VRL]⟩⟩
 case emp=>
  cases he;simp only[VR]at hx;obtain⟨a,c,hv,hc⟩:=hx;subst hv;refine⟨by simp[Builtin.lenOf],by simp,fun m hm=>⟨[],fun d=>?_,by simp[VRL]⟩⟩;have:m=0:=by omega
  subst this;cases a with
  |none=>simp[Builtin.firstCells]|some a=>simp only[Builtin.firstCells,Nat.zero_mul];exact Ln (fun j v hj=>by simp at hj) rfl
 case sl o off len s cap=>
  cases hb:Nat.beq s sz with
  |false=>simp only[hb,cond_false]at he;cases he
  |true=>
   obtain rfl:=zD hb;simp only[hb,cond_true]at he;split at he;case h_2=>cases he
   rename_i e cells hg;cases hs:seg cells off (len*s) with
   |none=>simp[hs]at he|some r=>
    simp only[hs,Option.map_some,zC,zG]at he;obtain⟨rfl,rfl⟩:=he;simp only[VR]at hx;obtain⟨b,sh,c,arr,e2,fr,hρ,rfl,_⟩:=hx;obtain⟨g1,g2⟩:=Es hs;obtain⟨b',sh',h3,arr',fr',h5,h6,h7,_⟩:=hr.obj o _ hg;rw[hρ]at h3;cases h3;refine⟨by simp[Builtin.lenOf],g1,fun m hm=>?_⟩;obtain⟨vs,h10,h11⟩:=VRL.choose (k:=k) (w:=w) (cs:=r) (fun j v=>w.cell? ((⟨b,sh+off,none⟩:Addr).add j)=some v) (fun j x hx=>by obtain⟨v,h12,h13⟩:=h7 _ _ (g2 j x hx);refine⟨v,?_,h13⟩;rw[Cr,cell_of_heap h5,Nat.add_assoc];exact h12);have hl:=h10.length;have hmul:m*s≤len*s:=Nat.mul_le_mul_right _ hm;refine⟨vs.take (m*s),fun d=>?_,h10.take _⟩;simp only[Builtin.firstCells];refine Ln (fun j v hj=>?_) (by rw[List.length_take,hl,g1];exact Nat.min_eq_left hmul);rw[List.getElem?_take]at hj;split at hj
    ·exact h11 j v hj
    ·cases hj
 case psl cells len cap=>
  cases hs:seg cells 0 (len*sz) with
  |none=>simp[hs]at he|some r=>
   simp only[hs,Option.map_some,zC,zG]at he;obtain⟨rfl,rfl⟩:=he;simp only[VR]at hx;obtain⟨b,sh,c,rfl,_,_,_,hcs⟩:=hx;obtain⟨g1,g2⟩:=Es hs;refine⟨by simp[Builtin.lenOf],g1,fun m hm=>?_⟩;obtain⟨vs,h10,h11⟩:=VRL.choose (k:=k) (w:=w) (cs:=r) (fun j v=>w.cell? ((⟨b,sh,none⟩:Addr).add j)=some v) (fun j x hx=>by have:=g2 j x hx;rw[Nat.zero_add]at this;obtain⟨v,h12,h13⟩:=hcs.get _ _ this;exact⟨v,by rw[Cr];exact h12,h13⟩);have hl:=h10.length;have hmul:m*sz≤len*sz:=Nat.mul_le_mul_right _ hm;refine⟨vs.take (m*sz),fun d=>?_,h10.take _⟩;simp only[Builtin.firstCells];refine Ln (fun j v hj=>?_) (by rw[List.length_take,hl,g1];exact Nat.min_eq_left hmul);rw[List.getElem?_take]at hj;split at hj
   ·exact h11 j v hj
   ·cases hj
def K.at (k:K)(o b sh:Nat):K:=⟨fun x=>if x=o then some (b,sh) else k.ρ x,k.fz,k.sz⟩
theorem HR.regrow (hr:HR k h w){w':World}{o o':Nat}{ob ob':AO}{b sh sh':Nat}(hg:h.get o=some ob)(hρ:k.ρ o=some (b,sh))(ha:(h.set o none).alloc ob'=some (o',h'))
 (hos:w'.os=w.os) (htape:w'.tape=w.tape) (hout:w'.output=w.output) (hsize:w'.heap.size=w.heap.size)
 (hsame:∀b',b'≠b→w'.heap[b']?=w.heap[b']?)
 (hshape:∀(arr:Array Value) (e:TypeId) (fr:Nat×Nat),w.heap[b]?=some (Obj.cells arr e fr)→∃(arr':Array Value) (fr':Nat×Nat),w'.heap[b]?=some (Obj.cells arr' e fr')∧arr'.size=arr.size)
 (hob:Le k (k.at o' b sh') w w'→ObR (k.at o' b sh') w' b sh' ob') :
 HR (k.at o' b sh') h' w'∧Ev k (k.at o' b sh') h h' w w':=by
 have ho:=AH.Gg hg;unfold AH.alloc at ha;cases hlt:Nat.blt (h.set o none).next BF with
 |false=>rw[hlt]at ha;cases ha
 |true=>
  rw[hlt]at ha;simp only[cond_true,zC,zG]at ha;obtain⟨rfl,rfl⟩:=ha;have hnext:(h.set o none).next=h.next:=rfl;rw[hnext]at *;have hlt':h.next<BF:=zE hlt;have hfr:k.ρ h.next=none:=hr.fresh _ (zI _);have hne:o≠h.next:=by intro e;rw[e]at hρ;rw[hfr]at hρ;cases hρ
  have hget:∀j,(⟨T.put Jb (h.set o none).m h.next (some ob'),h.next+1⟩:AH).get j=if j=h.next then some ob' else if j=o then none else h.get j:=fun j=>by
   have:=T.Ds 24 (h.set o none).m h.next j (some ob') (by simpa using hlt');show T.get Jb (T.put Jb (h.set o none).m h.next (some ob')) j=_;rw[this];split
   ·rfl
   ·have:=AH.BQ h o j none ho;exact this
  have hρne:∀o p,k.ρ o=some p→o≠h.next:=by intro o p hp e;subst e;rw[hfr]at hp;cases hp
  have back:∀{j:Nat} {ob1:AO},(⟨T.put Jb (h.set o none).m h.next (some ob'),h.next+1⟩:AH).get j=some ob1→(j=h.next∧ob1=ob')∨(j≠h.next∧j≠o∧h.get j=some ob1):=by
   intro j ob1 h1;rw[hget]at h1;by_cases e:j=h.next
   ·rw[if_pos e]at h1;cases h1;exact .inl ⟨e,rfl⟩
   ·rw[if_neg e]at h1;by_cases e2:j=o
    ·rw[if_pos e2]at h1;cases h1
    ·rw[if_neg e2]at h1;exact .inr ⟨e,e2,h1⟩
  have ev:Ev k (k.at h.next b sh') h ⟨T.put Jb (h.set o none).m h.next (some ob'),h.next+1⟩ w w':=by
   refine⟨rfl,hos,htape,hout,by omega,fun b' _ hn=>hsame b' fun e=>hn o ob sh hg (e ▸ hρ),fun b' arr e fr hx=>?_,fun o1 p hp=>?_,fun _ h=>h,fun j ob1 b' s1 h1 h2 hb=>?_,Nat.le_succ _,fun j hj=>by simp only[K.at,if_neg (show j≠h.next by omega)],fun _ _ h=>.inl h⟩
   ·by_cases e':b'=b
    ·subst e';exact hshape arr e fr hx
    ·exact⟨arr,fr,(hsame b' e').trans hx,rfl⟩
   ·simp only[K.at,if_neg (hρne o1 p hp),hp]
   ·rcases back h1 with⟨rfl,rfl⟩|⟨e1,e2,h3⟩
    ·simp only[K.at,if_true,zC,zG]at h2;obtain⟨rfl,rfl⟩:=h2;exact⟨o,ob,sh,hg,hρ⟩
    ·simp only[K.at,if_neg e1]at h2;exact⟨j,ob1,s1,h3,h2⟩
  have le:=ev.le hr;refine⟨⟨fun j ob1 h1=>?_,fun o1 o2 ob1 ob2 b' s1 s2 h1 h2 h3 h4=>?_,fun j ob1 b' s1 h1 h2=>?_,fun j hj=>?_,fun b' hb=>by rw[hsize];exact hr.lt b' hb⟩,ev⟩
  ·rcases back h1 with⟨rfl,rfl⟩|⟨e1,e2,h3⟩
   ·exact⟨b,sh',by simp[K.at],hob le⟩
   ·obtain⟨b1,s1,h4,h5⟩:=hr.obj j ob1 h3;have hbne:b1≠b:=by intro e;subst e;exact e2 (hr.inj j o ob1 ob b1 s1 sh h3 hg h4 hρ)
    exact⟨b1,s1,by simp only[K.at,if_neg e1,h4],h5.mono le (hsame b1 hbne)⟩
  ·rcases back h1 with⟨rfl,rfl⟩|⟨e1,e2,h5⟩<;>rcases back h2 with⟨e3,rfl⟩|⟨e3,e4,h6⟩
   ·exact e3.symm
   ·simp only[K.at,if_true,zC,zG]at h3;simp only[K.at,if_neg e3]at h4;obtain⟨rfl,rfl⟩:=h3;exact absurd (hr.inj o2 o _ _ _ _ _ h6 hg h4 hρ) e4
   ·subst e3;simp only[K.at,if_true,zC,zG]at h4;simp only[K.at,if_neg e1]at h3;obtain⟨rfl,rfl⟩:=h4;exact absurd (hr.inj o1 o _ _ _ _ _ h5 hg h3 hρ) e2
   ·simp only[K.at,if_neg e1]at h3;simp only[K.at,if_neg e3]at h4;exact hr.inj o1 o2 _ _ b' s1 s2 h5 h6 h3 h4
  ·rcases back h1 with⟨rfl,rfl⟩|⟨e1,e2,h3⟩
   ·simp only[K.at,if_true,zC,zG]at h2;obtain⟨rfl,rfl⟩:=h2;exact hr.nfz o ob _ sh hg hρ
   ·simp only[K.at,if_neg e1]at h2;exact hr.nfz j ob1 b' s1 h3 h2
  ·have:h.next+1≤j:=hj;simp only[K.at,if_neg (show j≠h.next by omega)];exact hr.fresh j (by omega)
theorem PR (newLen:Nat):∀(r c:Nat),Builtin.growBy newLen r c≤max c (newLen+(newLen+768)/4)
 |0,c=>by simp[Builtin.growBy];omega
 |r+1,c=>by
  simp only[Builtin.growBy];split
  ·omega
  ·have:=PR newLen r (c+(c+768)/4);omega
theorem UC {need c:Nat}(hc:c<need):Builtin.nextslicecap need c≤2*need+192:=by
 unfold Builtin.nextslicecap;split
 ·omega
 ·split
  ·omega
  ·have:=PR need 4 c;omega
end
section
variable {P:Program}{E:Env}{k:K}{h h':AH}{w:World}{v':AV}{ev:Operand→AV}{ρ:Operand→Value}
def BY (k:K)(h:AH)(w:World)(v':AV)(h':AH)(r:Result Value):Prop:=
 ∃v w' k',r=.ok v w'∧VR k' w' v' v∧HR k' h' w'∧Ev k k' h h' w w'
theorem BY.pure (hr:HR k h w){v:Value}(hv:VR k w v' v):BY k h w v' h (.ok v w):=⟨v,w,k,rfl,hv,hr,Ev.refl _ _ _⟩
theorem BY.op {s:Sem Value}(ho:BY k h w v' h' (s.run P w)):Bz k h w v' h' ((do Pure.pure (Next.value (←s)):Sem Next).run P w):=by obtain⟨v,w',k',h1,h2,h3,h4⟩:=ho;exact .Ua h1 h3 h4 h2
theorem TC (hE:Az P E)(hr:HR k h w){el:TypeId}{ei:TI}(hel:E.ty el=some ei){old new:List AV}{o:Nat}(ha:h.alloc (.cells el (old++new))=some (o,h')){vo vn:List Value}
 (ho:VRL k w old vo) (hn:VRL k w new vn) {len n nc:Nat} (hlo:old.length=len*ei.size) (hln:new.length=n*ei.size) (hnc:len+n≤nc) (d:Nat) :
 ∃z:Value,(zeroValue el).run P { w with drawn:=d } = .ok z { w with drawn:=d }∧
 ∃(w':World) (k':K),(newRow el (vo.toArray++vn.toArray++Builtin.zeroCells z.cells (nc-(len+n)))).run P { w with drawn:=d } = .ok ⟨w.heap.size,0,none⟩ w'∧
  VR k' w' (.sl o 0 (len+n) ei.size none) (.slice (some ⟨w.heap.size,0,none⟩) (len+n) nc)∧HR k' h' w'∧Ev k k' h h' w w':=by
 obtain⟨z,z1,z2,z3⟩:=EM hE hel { w with drawn:=d };refine⟨z,z1,?_⟩;have hlo':=ho.length;have hln':=hn.length;have hsz:(vo.toArray++vn.toArray++Builtin.zeroCells z.cells (nc-(len+n))).size=nc*ei.size:=by simp only[Array.size_append,Builtin.zeroCells,Array.size_map,Array.size_range,z3,List.size_toArray,hlo',hln',hlo,hln];rw[←Nat.add_mul,←Nat.add_mul];congr 1;omega
 have hmul:(len+n)*ei.size≤nc*ei.size:=Nat.mul_le_mul_right _ hnc;have hadd:(len+n)*ei.size=len*ei.size+n*ei.size:=Nat.add_mul _ _ _;obtain⟨r1,r2,r3⟩:=hr.GU ha (vo.toArray++vn.toArray++Builtin.zeroCells z.cells (nc-(len+n))) d
  (by rw[hsz,zR,hlo,hln];omega)
  (fun i x hx=>by
   have hap:=ho.append hn;obtain⟨v,h1,h2⟩:=hap.get i x hx;refine⟨v,?_,h2⟩;have hlt:=(zN.1 h1).1;rw[Array.getElem?_append_left (by simpa using hlt)];have:(vo.toArray++vn.toArray)=(vo++vn).toArray:=by simp
   rw[this];simpa using h1)
 refine⟨_,_,by simp[newRow],?_,r1,r2⟩;simp only[VR];exact⟨w.heap.size,0,nc,_,el,(0,0),K.BJ _ _ _,rfl,hnc,(fun n hn=>by cases hn),r3,by rw[hsz];omega⟩
theorem Ii {sT xT ty el:TypeId}{sd:TypeDesc}{ei:TI}(hE:Az P E)(hs:P.underlying sT=some (.slice el))(hx:P.underlying xT=some sd)(hni:∀kd,sd≠.int kd)(hel:E.ty el=some ei)
 {base:Option Addr} {sLen sCap n:Nat} {x:Value} {vn:Array Value} (hlen:(Builtin.lenOf x).run P w=.ok n w) (hle:sLen+n≤sCap) (hnew:(Builtin.firstCells ei.size n x).run P w=.ok vn w) :
 (Builtin.append_ #[sT,xT] ty #[.slice base sLen sCap,x]).run P w=match base with
  |some a=>((storeCells (a.add (sLen*ei.size)) vn.toList).run P w).andThen fun _ w'=>.ok (.slice base (sLen+n) sCap) w'
  |none=>.ok (.slice none (sLen+n) sCap) w:=by
 simp only[Builtin.append_,List.getElem?_toArray,List.getElem?_cons_zero,List.getElem?_cons_succ,zJ,run_underlying hs,run_underlying hx,zF,AX hE hel,zP,hlen,
  Bool.false_eq_true,if_false,Bool.not_false,if_true]
 rw[if_pos hle];cases base<;>simp only[zJ,hnew,zF,zP]
theorem RH {sT xT ty el:TypeId}{sd:TypeDesc}{ei:TI}(hE:Az P E)(hs:P.underlying sT=some (.slice el))(hx:P.underlying xT=some sd)(hni:∀kd,sd≠.int kd)(hel:E.ty el=some ei)
 {base:Option Addr} {sLen sCap n:Nat} {x:Value} {vo vn:Array Value} (hlen:(Builtin.lenOf x).run P w=.ok n w) (hlt:sCap<sLen+n) (hb:ei.bytes≤4096) (hb2:sLen+n≤33554432) :
 ∃nc d,sLen+n≤nc∧∀z a w',(Builtin.firstCells ei.size sLen (.slice base sLen sCap)).run P { w with drawn:=d } = .ok vo { w with drawn:=d }→(Builtin.firstCells ei.size n x).run P { w with drawn:=d } = .ok vn { w with drawn:=d }→
  (zeroValue el).run P { w with drawn:=d } = .ok z { w with drawn:=d }→(newRow el (vo++vn++Builtin.zeroCells z.cells (nc-(sLen+n)))).run P { w with drawn:=d } = .ok a w'→
  (Builtin.append_ #[sT,xT] ty #[.slice base sLen sCap,x]).run P w=.ok (.slice (some a) (sLen+n) nc) w':=by
 refine⟨(sLen+n)+w.tape w.drawn (.appendCap (sLen+n) sCap el)%(2^63-(sLen+n)),w.drawn+1,by omega,fun z a w' h1 h2 h3 h4=>?_⟩;obtain⟨inf,i1,i2,i3⟩:=IJ hE hel w;obtain⟨inf2,j1,j2,j3⟩:=IJ hE hel { w with drawn:=w.drawn+1 };have hc1:¬(((sLen+n:Nat):Int) > IntKind.i64.max∧(False∨inf.bytes=0)):=by
  have:IntKind.i64.max=9223372036854775807:=by decide
  rw[this];omega
 have hc2:¬(Builtin.nextslicecap (sLen+n) sCap*inf.bytes > 2^48):=by have h5:=UC hlt;rw[i2];have:Builtin.nextslicecap (sLen+n) sCap*ei.bytes≤(2*33554432+192)*4096:=Nat.mul_le_mul (by omega) hb;omega
 simp only[Builtin.append_,List.getElem?_toArray,List.getElem?_cons_zero,List.getElem?_cons_succ,zJ,run_underlying hs,run_underlying hx,zF,AX hE hel,zP,hlen,
  Bool.false_eq_true,if_false,Bool.not_false,if_true]
 rw[if_neg (by omega)];simp only[zJ,i1,zF];rw[if_neg hc1];simp only[zJ,i1,zF];rw[if_neg hc2];have hch:(choose (.appendCap (sLen+n) sCap el)).run P w=.ok ((sLen+n)+w.tape w.drawn (.appendCap (sLen+n) sCap el)%(2^63-(sLen+n))) { w with drawn:=w.drawn+1 }:=rfl;simp only[zJ,hch,zF,j1,run_askRoom,h1,h2,h3,h4,zP]
theorem OX (hE:Az P E)(hk:k.sz=⟨P.cellsOf,E.sel,E.tok,E.str,E.mp⟩)(hr:HR k h w){sT xT ty el:TypeId}{sd:TypeDesc}{ei:TI}(hs:P.underlying sT=some (.slice el))(hx:P.underlying xT=some sd)(hni:∀kd,sd≠.int kd)(hel:E.ty el=some ei)
 {s x:AV} {sv xv:Value} (hsv:VR k w s sv) (hxv:VR k w x xv) {n:Nat} {new:List AV} (hel2:Da h ei.size x=some (n,new)) (ho:Ql el ei h s n new=some (v',h')) :
 BY k h w v' h' ((Builtin.append_ #[sT,xT] ty #[sv,xv]).run P w):=by
 obtain⟨l1,l2,l3⟩:=Ew (P:=P) hr hxv hel2;obtain⟨vn,l4,l5⟩:=l3 n (zI _);rw[←l2,List.take_length]at l5;unfold Ql at ho;simp only at ho;cases hn0:Nat.beq n 0 with
 |true=>
  obtain rfl:=zD hn0;simp only[hn0,cond_true]at ho;have e0:vn=[]:=by have:=l5.length;rw[l2]at this;simpa using this
  subst e0;have run:∀{base:Option Addr} {len c:Nat},sv=.slice base len c→len≤c→(Builtin.append_ #[sT,xT] ty #[sv,xv]).run P w=.ok sv w:=by intro base len c hsl hle;subst hsl;rw[Ii hE hs hx hni hel l1 (by omega) (l4 w.drawn)];cases base<;>simp[storeCells]
  have fin:v'=s→h'=h→∀{base:Option Addr} {len c:Nat},sv=.slice base len c→len≤c→BY k h w v' h' ((Builtin.append_ #[sT,xT] ty #[sv,xv]).run P w):=by intro e1 e2 base len c e3 e4;subst e1 e2;rw[run e3 e4];exact .pure hr hsv
  cases s<;>simp only at ho<;>try (cases ho;done)
  all_goals
   simp only[zC,zG]at ho;obtain⟨e1,e2⟩:=ho;have hsv':=hsv;simp only[VR]at hsv
  case nils=>exact fin e1.symm e2.symm hsv (zI _)
  case emp=>obtain⟨a,c,h2,_⟩:=hsv;exact fin e1.symm e2.symm h2 (Nat.zero_le _)
  case sl=>obtain⟨b,sh,c,arr,e,fr,_,h2,h3,_⟩:=hsv;exact fin e1.symm e2.symm h2 h3
  case psl=>obtain⟨b,sh,c,h2,h3,_⟩:=hsv;exact fin e1.symm e2.symm h2 h3
 |false=>
  simp only[hn0,cond_false]at ho;have hn0:=Nat.ne_of_beq_eq_false hn0;cases hb:(AV.A8 new&&Nat.ble 1 ei.size&&Nat.ble ei.bytes 4096&&Nat.ble n 16777216) with
  |false=>simp only[hb,cond_false]at ho;cases ho
  |true=>
   simp only[hb,cond_true]at ho;simp only[zA]at hb;obtain⟨⟨⟨hb1,hb2⟩,hb3⟩,hb4⟩:=hb;have hb2:=zE hb2;have hb3:=zE hb3;have hb4:=zE hb4;have grown:∀{len:Nat} {old:List AV} {base:Option Addr} {c:Nat} {h0:AH},HR k h0 w→Ev k k h h0 w w→sv=.slice base len c→c<len+n→old.length=len*ei.size→
    (∃vo:List Value,VRL k w old vo∧∀d,(Builtin.firstCells ei.size len sv).run P { w with drawn:=d } = .ok vo.toArray { w with drawn:=d })→
    (bif AV.A8 old&&Nat.ble len 16777216 then match h0.alloc (.cells el (old++new)) with
     |some (o,h')=>some (AV.sl o 0 (len+n) ei.size none,h')|none=>none
    else none)=some (v',h')→BY k h w v' h' ((Builtin.append_ #[sT,xT] ty #[sv,xv]).run P w):=by
    intro len old base c h0 hr0 hev0 hsl hc hlo hvo hq;obtain⟨vo,v1,v2⟩:=hvo;cases hbb:(AV.A8 old&&Nat.ble len 16777216) with
    |false=>simp only[hbb,cond_false]at hq;cases hq
    |true=>
     simp only[hbb,cond_true]at hq;simp only[zA]at hbb;have hbl:=zE hbb.2;cases hal:h0.alloc (.cells el (old++new)) with
     |none=>simp[hal]at hq|some p=>obtain⟨o,h1⟩:=p;simp only[hal,zC,zG]at hq;obtain⟨rfl,rfl⟩:=hq;subst hsl;obtain⟨nc,d,hnc,hrun⟩:=RH (P:=P) (vo:=vo.toArray) (vn:=vn.toArray) (ty:=ty) (base:=base) hE hs hx hni hel l1 hc hb3 (by omega);obtain⟨z,z1,w',k',g1,g2,g3,g4⟩:=TC (P:=P) hE hr0 hel hal v1 l5 hlo l2 hnc d;rw[hrun z _ w' (v2 d) (l4 d) z1 g1];exact⟨_,w',k',rfl,g2,g3,hev0.trans g4⟩
   have vo_of:∀{len:Nat} {old:List AV},Da h ei.size s=some (len,old)→∃vo:List Value,VRL k w old vo∧∀d,(Builtin.firstCells ei.size len sv).run P { w with drawn:=d } = .ok vo.toArray { w with drawn:=d }:=by intro len old hq;obtain⟨m1,m2,m3⟩:=Ew (P:=P) hr hsv hq;obtain⟨vo,m4,m5⟩:=m3 len (zI _);rw[←m2,List.take_length]at m5;exact⟨vo,m5,m4⟩
   cases s<;>(try simp only at ho)<;>(try (cases ho;done));case nils=>
    simp only[VR]at hsv;exact grown hr (Ev.refl _ _ _) hsv (by omega) (by simp) (vo_of rfl) ho
   case psl cs len cap=>
    cases cap<;>simp only at ho<;>try (cases ho;done)
    rename_i c;cases hc:Nat.blt c (len+n) with
    |false=>simp only[hc,cond_false]at ho;cases ho
    |true=>
     simp only[hc,cond_true]at ho;have hc:c<len+n:=zE hc;cases hs2:seg cs 0 (len*ei.size) with
     |none=>simp[hs2]at ho|some old=>simp only[hs2]at ho;have hsv':=hsv;simp only[VR]at hsv;obtain⟨b,sh,c',h2,h3,h4,_⟩:=hsv;have:=h4 c rfl;subst this;exact grown hr (Ev.refl _ _ _) h2 hc (Es hs2).1 (vo_of (by simp[Da,hs2])) ho
   case sl o off len s' cap=>
    cases hsz:Nat.beq s' ei.size with
    |false=>simp only[hsz,cond_false]at ho;cases ho
    |true=>
     obtain rfl:=zD hsz;simp only[hsz,cond_true]at ho;split at ho;case h_2=>cases ho
     rename_i e cs hg;have hsv':=hsv;simp only[VR]at hsv;obtain⟨b,sh,c',arr,e2,fr,hρ,h2,h3,h4,h5,h6⟩:=hsv;obtain⟨b1,sh1,g1,arr1,fr1,g2,g3,g4,g5,g6⟩:=hr.obj o _ hg;rw[hρ]at g1;cases g1;rw[g2]at h5;cases h5;cases cap with
     |some c=>
      have:=h4 c rfl;subst this;try simp only at ho
      cases hc:Nat.blt c' (len+n) with
      |true=>
       simp only[hc,cond_true]at ho;have hc:c'<len+n:=zE hc;cases hs2:seg cs off (len*ei.size) with
       |none=>simp[hs2]at ho|some old=>simp only[hs2]at ho;exact grown hr (Ev.refl _ _ _) h2 hc (Es hs2).1 (vo_of (by simp only[Da,hsz,cond_true,hg,hs2,Option.map_some])) ho
      |false=>
       simp only[hc,cond_false]at ho;have hc:¬c'<len+n:=fun hlt=>by have:Nat.blt c' (len+n)=true:=Nat.ble_eq_true_of_le hlt;rw[hc]at this;cases this
       cases hsp:CV cs (off+len*ei.size) new with
       |none=>simp[hsp]at ho|some cs'=>
        simp only[hsp,zC,zG]at ho;obtain⟨rfl,rfl⟩:=ho;subst h2;have h1c:∀u∈vn,u.oneCell'=true:=by intro u hu;obtain⟨i,hi⟩:=List.getElem?_of_mem hu;have hlt:=(zN.1 hi).1;have hl5:=l5.length;obtain⟨v,m1,m2⟩:=l5.get i (new[i]'(by omega)) (by rw[zK]);rw[hi]at m1;cases m1;exact m2.G5 (zB.1 hb1 _ (List.getElem_mem _))
        obtain⟨r1,r2,r3⟩:=HR.setCells (P:=P) hr hg hρ hsp l5 h1c;rw[Ii hE hs hx hni hel l1 (by omega) (l4 w.drawn)];simp only[Cr,Nat.add_assoc];rw[r1];refine⟨_,_,k,rfl,?_,r2,r3⟩;have le:=r3.le hr;obtain⟨arr',fr',q1,q2⟩:=le.shape _ _ _ _ g2;simp only[VR];exact⟨b,sh,c',arr',e,fr',hρ,rfl,by omega,(fun m hm=>by cases hm;rfl),q1,by omega⟩
     |none=>
      try simp only at ho
      cases hcc:(Nat.beq e el&&Nat.beq (off%ei.size) 0) with
      |false=>simp only[hcc,cond_false]at ho;cases ho
      |true=>
       simp only[hcc,cond_true]at ho;simp only[zA]at hcc;obtain rfl:=zD hcc.1;have hmod:=zD hcc.2;cases hs2:seg cs off (len*ei.size) with
       |none=>simp[hs2]at ho|some old=>
        simp only[hs2]at ho;by_cases hc:c'<len+n
        ·obtain⟨k1,k2⟩:=hr.kill o (AH.Gg hg);exact grown k1 k2 h2 hc (Es hs2).1 (vo_of (by simp only[Da,hsz,cond_true,hg,hs2,Option.map_some])) ho
        ·cases hbb:(AV.A8 old&&Nat.ble len 16777216) with
         |false=>simp only[hbb,cond_false]at ho;cases ho
         |true=>
          simp only[hbb,cond_true]at ho;cases hal:(h.set o none).alloc (.cells e (old++new)) with
          |none=>simp[hal]at ho|some p=>
           obtain⟨o',h1⟩:=p;simp only[hal,zC,zG]at ho;obtain⟨rfl,rfl⟩:=ho;subst h2;obtain⟨q1,q2⟩:=Es hs2;have hl5:=l5.length;have h1c:∀u∈vn,u.oneCell'=true:=by intro u hu;obtain⟨i,hi⟩:=List.getElem?_of_mem hu;have hlt:=(zN.1 hi).1;obtain⟨v,m1,m2⟩:=l5.get i (new[i]'(by omega)) (by rw[zK]);rw[hi]at m1;cases m1;exact m2.G5 (zB.1 hb1 _ (List.getElem_mem _))
           have hmul:(len+n)*ei.size≤c'*ei.size:=Nat.mul_le_mul_right _ (by omega);have hadd:(len+n)*ei.size=len*ei.size+n*ei.size:=Nat.add_mul _ _ _;obtain⟨c1,c2,c3,c4,c5,c6,_⟩:=F3 b vn (sh+off+len*ei.size) w arr e _ g2;obtain⟨r2,r3⟩:=hr.regrow (w':=w.setCells b (sh+off+len*ei.size) vn) (sh':=sh+off) hg hρ hal c4 c5 c6 c3 c2
            (fun a3 e3 f3 hx3=>by rw[g2]at hx3;cases hx3;exact⟨_,_,c1,Dc _ _ _⟩)
            (fun le=>by
             refine⟨_,_,c1,by rw[Dc,zR,q1,l2];omega,fun i x hxi=>?_,?_,by rw[Dc];exact g6⟩
             ·rw[Hk];rw[List.getElem?_append]at hxi;by_cases hi:i<old.length
              ·rw[if_pos hi]at hxi;obtain⟨v,m1,m2⟩:=g4 _ _ (q2 i x hxi);refine⟨v,?_,VR.mono le _ _ m2⟩;rw[if_neg (by omega),Nat.add_assoc];exact m1
              ·rw[if_neg hi]at hxi;obtain⟨v,m1,m2⟩:=l5.get _ _ hxi;refine⟨v,?_,VR.mono le _ _ m2⟩;have hlt:=(zN.1 hxi).1;rw[if_pos (by omega)];rw[show sh+off+i-(sh+off+len*ei.size)=i-old.length by omega];exact m1
             ·show(sh+off)%k.sz.sz e=0;have hksz:k.sz.sz e=ei.size:=by obtain⟨inf,z,i1,i2,_⟩:=(hE.ty e ei hel).info;rw[hk];simp[Program.cellsOf,i1,i2]
              rw[hksz]at g5 ⊢;rw[Nat.add_mod,g5,hmod];simp)
           rw[Ii hE hs hx hni hel l1 (by omega) (l4 w.drawn)];have hst:=run_storeCells_cells (P:=P) b (sh+off+len*ei.size) vn 0 w (fun j hj=>by rw[cell_of_heap g2];simp;omega) (fun j hj=>FC g2 g6 (by omega)) h1c;simp only[Cr];rw[hst];refine⟨_,_,_,rfl,?_,r2,r3⟩;simp only[VR];refine⟨b,sh+off,c',_,e,_,by simp[K.at],rfl,by omega,(fun m hm=>by cases hm),c1,?_⟩;rw[Dc];omega
end
section
variable {P:Program}{E:Env}{k:K}{h h':AH}{w:World}{v':AV}{ev:Operand→AV}{ρ:Operand→Value}
theorem SC {xs:List AV}{vs:List Value}(hv:VRL k w xs vs)(hc:AV.A8 xs=true):∀u∈vs,u.oneCell'=true:=by intro u hu;obtain⟨i,hi⟩:=List.getElem?_of_mem hu;have hlt:=(zN.1 hi).1;have hl:=hv.length;obtain⟨v,m1,m2⟩:=hv.get i (xs[i]'(by omega)) (by rw[zK]);rw[hi]at m1;cases m1;exact m2.G5 (zB.1 hc _ (List.getElem_mem _))
theorem UQ (hE:Az P E)(hr:HR k h w){dT:TypeId}{at':Array TypeId}(hat:at'[0]?=some dT){ty el:TypeId}{ei:TI}(hd:P.underlying dT=some (.slice el))(hel:E.ty el=some ei){d x:AV}{dv xv:Value}(hdv:VR k w d dv)(hxv:VR k w x xv)
 {n:Nat} {new:List AV} (he:Da h ei.size x=some (n,new))
 (ho:Z5 ei h d n new=some (v',h')):BY k h w v' h' ((Builtin.copy_ at' ty #[dv,xv]).run P w):=by
 obtain⟨l1,l2,l3⟩:=Ew (P:=P) hr hxv he;unfold Z5 at ho;cases d<;>(try simp only at ho)<;>(try (cases ho;done));case nils=>
  simp only[zC,zG]at ho;obtain⟨rfl,rfl⟩:=ho;simp only[VR]at hdv;subst hdv;obtain⟨vs,m1,m2⟩:=l3 0 (Nat.zero_le _);have hmin:Nat.min n 0=0:=Nat.min_zero n;have e:(Builtin.copy_ at' ty #[.slice none 0 0,xv]).run P w=.ok (goInt 0) w:=by simp only[Builtin.copy_,hat,List.getElem?_toArray,List.getElem?_cons_zero,List.getElem?_cons_succ,zJ,run_underlying hd,zF,l1,hmin,AX hE hel,m1 w.drawn,zP];rfl
  rw[e];exact .pure hr (by simp only[VR];rfl)
 case sl o off len s cap=>
  cases hb:(Nat.beq s ei.size&&AV.A8 (new.take (Nat.min n len*s))) with
  |false=>simp only[hb,cond_false]at ho;cases ho
  |true=>
   simp only[hb,cond_true]at ho;simp only[zA]at hb;obtain rfl:=zD hb.1;split at ho;case h_2=>cases ho
   rename_i e cs hg;cases hsp:CV cs off (new.take (Nat.min n len*ei.size)) with
   |none=>simp[hsp]at ho|some cs'=>simp only[hsp,zC,zG]at ho;obtain⟨rfl,rfl⟩:=ho;simp only[VR]at hdv;obtain⟨b,sh,c',arr,e2,fr,hρ,rfl,_⟩:=hdv;obtain⟨vs,m1,m2⟩:=l3 (Nat.min n len) (Nat.min_le_left _ _);obtain⟨r1,r2,r3⟩:=HR.setCells (P:=P) hr hg hρ hsp m2 (SC m2 hb.2);refine⟨goInt (Nat.min n len:Nat),_,k,?_,by simp only[VR,goInt],r2,r3⟩;simp only[Builtin.copy_,hat,List.getElem?_toArray,List.getElem?_cons_zero,List.getElem?_cons_succ,zJ,run_underlying hd,zF,l1,AX hE hel,m1 w.drawn,r1,zP]
theorem O3 (n size:Nat)(z:Array Value)(hz:z.size=size):Builtin.zeroCells z n=BS n size z:=by simp[Builtin.zeroCells,BS,hz]
theorem Tk (hE:Az P E)(hr:HR k h w){dT:TypeId}{at':Array TypeId}(hat:at'[0]?=some dT){ty el:TypeId}{ei:TI}(hd:P.underlying dT=some (.slice el))(hel:E.ty el=some ei){o off len s:Nat}{cap:Option Nat}{xv:Value}(hxv:VR k w (.sl o off len s cap) xv)
 (ho:TO ei h o off len s=some (v',h')):BY k h w v' h' ((Builtin.clear_ at' ty #[xv]).run P w):=by
 have hund:VR k w AM (.tuple #[]):=by simp only[AM,VR];exact⟨_,rfl,by simp only[VRL]⟩
 simp only[VR]at hxv;obtain⟨b,sh,c',arr,e2,fr,hρ,rfl,_⟩:=hxv;unfold TO at ho;cases hl:Nat.beq len 0 with
 |true=>
  obtain rfl:=zD hl;simp only[hl,cond_true,zC,zG]at ho;obtain⟨rfl,rfl⟩:=ho;have e:(Builtin.clear_ at' ty #[.slice (some ⟨b,sh+off,none⟩) 0 c']).run P w=.ok (.tuple #[]) w:=by simp[Builtin.clear_,hat,run_underlying hd]
  rw[e];exact .pure hr hund
 |false=>
  simp only[hl,cond_false]at ho;have hl:=Nat.ne_of_beq_eq_false hl;cases hb:(Nat.beq s ei.size&&AV.A8 ei.zero.cells) with
  |false=>simp only[hb,cond_false]at ho;cases ho
  |true=>
   simp only[hb,cond_true]at ho;simp only[zA]at hb;obtain rfl:=zD hb.1;split at ho;case h_2=>cases ho
   rename_i e cs hg;cases hsp:CV cs off (Gc ei.zero.cells len) with
   |none=>simp[hsp]at ho|some cs'=>
    simp only[hsp,zC,zG]at ho;obtain⟨rfl,rfl⟩:=ho;obtain⟨z,z1,z2,z3⟩:=EM hE hel w;have hz:=((z2 k w).cells (hE.ty el ei hel).zero).1;have hrep:=RA hz len;rw[z3]at hrep;have hall:∀u∈(Builtin.zeroCells z.cells len).toList,u.oneCell'=true:=by
     intro u hu;obtain⟨_,h2⟩:=(z2 k w).cells (hE.ty el ei hel).zero;simp only[Builtin.zeroCells,Array.toList_map,List.mem_map]at hu;obtain⟨i,hi,rfl⟩:=hu;rcases Nat.eq_zero_or_pos z.cells.size with h0|h0
     ·simp[h0]at hi
     ·have hlt:i%z.cells.size<z.cells.size:=Nat.mod_lt _ h0;rw[getElem!_pos z.cells (i%z.cells.size) hlt];exact h2 _ (by simp)
    obtain⟨r1,r2,r3⟩:=HR.setCells (P:=P) hr hg hρ hsp (vs:=(Builtin.zeroCells z.cells len).toList) (by rw[O3 len ei.size z.cells z3];unfold BS;rw[z3];exact hrep) hall;refine⟨.tuple #[],_,k,?_,by simp only[AM,VR];exact⟨_,rfl,by simp only[VRL]⟩,r2,r3⟩;cases len with
    |zero=>exact absurd rfl hl|succ len=>simp only[Builtin.clear_,hat,List.getElem?_toArray,List.getElem?_cons_zero,zJ,run_underlying hd,zF,z1,r1,zP]
theorem Qs (hE:Az P E)(hr:HR k h w){mT:TypeId}{at':Array TypeId}(hat:at'[0]?=some mT){ty kt et:TypeId}{ki:TI}(hd:P.underlying mT=some (.map kt et))(hki:E.ty kt=some ki){m kk:AV}{mv kv:Value}(hm:VR k w m mv)(hk:VR k w kk kv)(hp:plainKey ki.und kk=true)
 (ho:PU h m kk=some (v',h')):BY k h w v' h' ((Builtin.delete_ at' ty #[mv,kv]).run P w):=by
 have hund:∀{k:K} {w:World},VR k w AM (.tuple #[]):=by intro k w;simp only[AM,VR];exact⟨_,rfl,by simp only[VRL]⟩
 have hku:=(hE.ty kt _ hki).und;unfold PU at ho;cases m<;>(try simp only at ho)<;>(try (cases ho;done));case nilm=>
  simp only[zC,zG]at ho;obtain⟨rfl,rfl⟩:=ho;simp only[VR]at hm;subst hm;have e:(Builtin.delete_ at' ty #[.map none,kv]).run P w=.ok (.tuple #[]) w:=by simp[Builtin.delete_,hat,run_underlying hd,CE hku hp hk]
  rw[e];exact .pure hr hund
 case map o=>
  simp only[VR]at hm;obtain⟨b,hρ,rfl⟩:=hm;split at ho;case h_2=>cases ho
  rename_i es cl hg;obtain⟨b2,sh,h1,h2,Ax,clc,h3,h4⟩:=hr.obj o _ hg;rw[hρ]at h1;cases h1;have hgo:(getObj b).run P w=.ok (.map Ax clc) w:=Ei h3 (by simp);have hnc:∀arr e fr,Obj.map Ax clc≠.cells arr e fr:=by simp
  split at ho;case h_1 j y hf=>
   obtain⟨_,e,f1,f2,f3,f4,f5⟩:=B1 hp hk hf h4;simp only[zC,zG]at ho;obtain⟨rfl,rfl⟩:=ho;obtain⟨r1,r2⟩:=hr.setObj (ob':=.map (es.eraseIdx j) cl) hg hρ h3 (by simp) (new:=.map (Ax.eraseIdxIfInBounds j) clc)
    (fun le hn=>⟨rfl,_,_,hn,by have:=MR.erase j h4;rw[Array.toList_eraseIdxIfInBounds];exact this.mono le⟩)
   refine⟨.tuple #[],_,k,?_,hund,r1,r2⟩;simp only[Builtin.delete_,hat,List.getElem?_toArray,List.getElem?_cons_zero,List.getElem?_cons_succ,zJ,run_underlying hd,zF,hgo,CE hku hp hk,run_findKey hku f2,DL h3 hnc,zP]
  case h_2 hf=>
   have f2:=B1 hp hk hf h4;simp only[zC,zG]at ho;obtain⟨rfl,rfl⟩:=ho;obtain⟨r1,r2⟩:=hr.setObj (ob':=.map es cl) hg hρ h3 (by simp) (new:=.map Ax clc) (fun le hn=>⟨rfl,_,_,hn,h4.mono le⟩);have hsame:∀(W:World),W.heap=w.heap.setIfInBounds b (.map Ax clc)→W.tape=w.tape→W.drawn=w.drawn→W.os=w.os→W.output=w.output→W=w:=by
    intro W e1 e2 e3 e4 e5;have:w.heap.setIfInBounds b (.map Ax clc)=w.heap:=by
     apply Array.ext';simp only[Array.toList_setIfInBounds];apply List.ext_getElem?;intro i;rw[List.getElem?_set];by_cases hi:b=i
     ·subst hi;rw[if_pos rfl];have hlt:=(Array.getElem?_eq_some_iff.1 h3).1;rw[if_pos (by simpa using hlt)];simpa using h3.symm
     ·rw[if_neg hi]
    cases W;cases w;simp_all
   refine⟨.tuple #[],w,k,?_,hund,hr,Ev.refl _ _ _⟩;simp only[Builtin.delete_,hat,List.getElem?_toArray,List.getElem?_cons_zero,List.getElem?_cons_succ,zJ,run_underlying hd,zF,hgo,CE hku hp hk,run_findKey hku f2,DL h3 hnc,zP];congr 1;exact hsame _ rfl rfl rfl rfl rfl
  case h_3=>cases ho
end
section
variable {P:Program}{E:Env}{k:K}{h h':AH}{w:World}{v':AV}{ev:Operand→AV}{ρ:Operand→Value}
theorem HR.drop {w':World}(hr:HR k h w){o:Nat}{ob:AO}{b sh:Nat}(hg:h.get o=some ob)(hρ:k.ρ o=some (b,sh))
 (hos:w'.os=w.os) (htape:w'.tape=w.tape) (hout:w'.output=w.output) (hsize:w'.heap.size=w.heap.size)
 (hsame:∀b',b'≠b→w'.heap[b']?=w.heap[b']?)
 (hshape:∀(arr:Array Value) (e:TypeId) (fr:Nat×Nat),w.heap[b]?=some (Obj.cells arr e fr)→∃(arr':Array Value) (fr':Nat×Nat),w'.heap[b]?=some (Obj.cells arr' e fr')∧arr'.size=arr.size) :
 HR k (h.set o none) w'∧Ev k k h (h.set o none) w w':=by
 have ho:=AH.Gg hg;have back:∀{o':Nat} {ob1:AO},(h.set o none).get o'=some ob1→o'≠o∧h.get o'=some ob1:=by
  intro o' ob1 h1;rw[AH.BQ h o o' _ ho]at h1;by_cases e':o'=o
  ·rw[if_pos e']at h1;cases h1
  ·rw[if_neg e']at h1;exact⟨e',h1⟩
 have ev:Ev k k h (h.set o none) w w':=by
  refine⟨rfl,hos,htape,hout,by omega,fun b' _ hn=>hsame b' fun e=>hn o ob sh hg (e ▸ hρ),fun b' arr e fr hx=>?_,fun _ _ h=>h,fun _ h=>h,fun o' ob1 b' sh' h1 h2 _=>⟨o',ob1,sh',(back h1).2,h2⟩,zI _,fun _ _=>rfl,fun _ _ h=>.inl h⟩;by_cases e':b'=b
  ·subst e';exact hshape arr e fr hx
  ·exact⟨arr,fr,(hsame b' e').trans hx,rfl⟩
 have le:=ev.le hr;refine⟨⟨fun o' ob1 h1=>?_,fun o1 o2 ob1 ob2 b' s1 s2 h1 h2=>hr.inj o1 o2 _ _ b' s1 s2 (back h1).2 (back h2).2,fun o' ob1 b' sh' h1=>hr.nfz o' _ b' sh' (back h1).2,hr.fresh,fun b' hb'=>by rw[hsize];exact hr.lt b' hb'⟩,ev⟩;obtain⟨b1,sh1,h2,h3⟩:=hr.obj o' ob1 (back h1).2;have hne:b1≠b:=by intro e;subst e;exact(back h1).1 (hr.inj o' o ob1 ob b1 sh1 sh (back h1).2 hg h2 hρ)
 exact⟨b1,sh1,h2,h3.mono le (hsame b1 hne)⟩
theorem Qv {x:AV}{b:Nat}(hb:byteOf x=some b){v:Value}(hv:VR k w x v):b<256∧v=.int .u8 (b:Int):=by
 unfold byteOf at hb;split at hb;case h_2=>cases hb
 rename_i m;cases hlt:Nat.blt m 256 with
 |false=>simp only[hlt,cond_false]at hb;cases hb
 |true=>simp only[hlt,cond_true,zC]at hb;subst hb;have hlt:m<256:=zE hlt;simp only[VR]at hv;exact⟨hlt,hv⟩
theorem FZ:∀{xs:List AV} {bs:List Nat} {vs:List Value},bytesOf xs=some bs→VRL k w xs vs→(∀b∈bs,b<256)∧vs=bs.map fun (b:Nat)=>Value.int .u8 (b:Int)
 |[],bs,vs,hb,hv=>by simp only[bytesOf,zC]at hb;simp only[VRL]at hv;subst hb hv;exact⟨by simp,rfl⟩
 |x::xs,bs,vs,hb,hv=>by
  simp only[bytesOf]at hb;simp only[VRL]at hv;obtain⟨v,vs',rfl,h1,h2⟩:=hv;split at hb;case h_2=>cases hb
  rename_i b r hb1 hb2;cases hb;obtain⟨e1,e2⟩:=Qv hb1 h1;obtain⟨e3,e4⟩:=FZ hb2 h2;refine⟨fun c hc=>?_,by rw[e2,e4];rfl⟩;rcases zH.1 hc with rfl|hc
  ·exact e1
  ·exact e3 c hc
theorem N9:∀(l:List Nat) (s:ByteArray),((l.map fun (b:Nat)=>(b:Int)).foldl (fun r n=>r.push (UInt8.ofNat n.toNat)) s).data.toList=s.data.toList++l.map fun b=>UInt8.ofNat b
 |[],s=>by simp
 |b::l,s=>by simp only[List.map_cons,List.foldl_cons];rw[N9 l];simp[ByteArray.push]
theorem He {l:List Nat}(h:∀b∈l,b<256):(l.map fun b=>UInt8.ofNat b).map UInt8.toNat=l:=by
 induction l with
 |nil=>rfl|cons b l ih=>simp only[List.map_cons];rw[ih fun c hc=>h c (by simp[hc])];congr 1;have:=h b (by simp);simp;omega
theorem Ry (heap:Array Obj)(o:Obj)(f:Obj→Obj):(heap.push o).modify heap.size f=heap.push (f o):=by
 apply Array.ext';simp only[Array.toList_modify,Array.toList_push];rw[←Array.length_toList];generalize heap.toList=l
 induction l with
 |nil=>rfl|cons x xs ih=>simp only[List.cons_append,List.length_cons,List.modify_succ_cons,ih]
theorem O4 {sz:Nat}{x:AV}{n:Nat}{cs:List AV}(hel:Da h sz x=some (n,cs))(hneg:∀s,x=.str s→False){v:Value}(hx:VR k w x v):∃base len c,v=.slice base len c∧(base=none→len=0):=by
 cases x<;>simp only[Da]at hel<;>try (cases hel;done)
 case str s=>exact absurd rfl (hneg s)
 case nils=>simp only[VR]at hx;exact⟨_,_,_,hx,fun _=>rfl⟩
 case emp=>simp only[VR]at hx;obtain⟨a,c,hx,_⟩:=hx;exact⟨_,_,_,hx,fun _=>rfl⟩
 case sl=>simp only[VR]at hx;obtain⟨_,_,_,_,_,_,_,hx,_⟩:=hx;exact⟨_,_,_,hx,fun h=>by cases h⟩
 case psl=>simp only[VR]at hx;obtain⟨_,_,_,hx,_⟩:=hx;exact⟨_,_,_,hx,fun h=>by cases h⟩
theorem S0 (hE:Az P E)(hk:k.sz=⟨P.cellsOf,E.sel,E.tok,E.str,E.mp⟩)(hr:HR k h w){src dst:TypeId}{x:AV}{xv:Value}(hx:VR k w x xv)(ho:Sw E src dst x h=some (v',h')):BY k h w v' h' ((convert src dst xv).run P w):=by
 unfold Sw at ho;split at ho;case h_2=>cases ho
 rename_i d s hd hs;have hud:=(hE.ty dst _ hd).und;have hus:=(hE.ty src _ hs).und;split at ho;case h_1 kd kx n hund=>
  cases ho;simp only[VR]at hx;subst hx;have e:(convert src dst (.int kx n)).run P w=.ok (.int kd (kd.wrap n)) w:=by simp only[convert,zJ,run_underlying hus,run_underlying hud,zF,hund];cases s.und<;>rfl
  rw[e];exact .pure hr (by simp only[VR])
 case h_2 b hund=>
  cases ho;have hx':=hx;simp only[VR]at hx;obtain⟨bs,rfl,_⟩:=hx;have e:(convert src dst (.string bs)).run P w=.ok (.string bs) w:=by simp only[convert,zJ,run_underlying hus,run_underlying hud,zF,hund];cases s.und<;>rfl
  rw[e];exact .pure hr hx'
 case h_3 x1 hund hneg=>
  split at ho;case h_2=>cases ho
  rename_i e hse;split at ho;case h_2=>cases ho
  rename_i _ _ _ _ _ hte;have hue:=(hE.ty e _ hte).und;split at ho;case h_2=>cases ho
  rename_i n cs hel;split at ho;case h_2=>cases ho
  rename_i b hb;cases ho;obtain⟨l1,l2,l3⟩:=Ew (P:=P) hr hx hel;obtain⟨vs,l4,l5⟩:=l3 n (zI _);rw[←l2,List.take_length]at l5;obtain⟨b1,b2⟩:=FZ hb l5;have conv:∀{base:Option Addr} {len c:Nat},xv=.slice base len c→(convert src dst xv).run P w=(Conv.bytesToString xv).run P w:=by intro base len c hq;subst hq;rw[hse]at hus;simp only[convert,zJ,run_underlying hus,run_underlying hud,zF,hund,run_underlying hue]
  have fin:∀{base:Option Addr} {len c:Nat},xv=.slice base len c→(base=none→len=0)→BY k h w (.str b) h ((convert src dst xv).run P w):=by
   intro base len c hq hz;rw[conv hq];subst hq;have hlen:len=n:=by simpa[Builtin.lenOf]using l1
   subst hlen;cases base with
   |none=>have:=hz rfl;subst this;have hcs:cs=[]:=List.eq_nil_of_length_eq_zero (by rw[l2]);subst hcs;simp only[bytesOf,zC]at hb;subst hb;have e1:(Conv.bytesToString (.slice none 0 c)).run P w=.ok (.string .empty) w:=rfl;rw[e1];exact .pure hr (by simp only[VR];exact⟨_,rfl,rfl⟩)
   |some a=>
    have hl:=l4 w.drawn;simp only[Builtin.firstCells,Nat.mul_one]at hl;have hl2:(loadCells a len).run P w=.ok ((b.map fun (m:Nat)=>(m:Int)).map (Value.int .u8)).toArray w:=by
     have:(b.map fun (m:Nat)=>(m:Int)).map (Value.int .u8)=vs:=by rw[b2,List.map_map];rfl
     rw[this];exact hl
    rw[run_bytesToString w a len c _ hl2];refine .pure hr ?_;simp only[VR];refine⟨_,rfl,?_⟩;rw[N9];have:(ByteArray.empty).data.toList=[]:=rfl;rw[this,List.nil_append];exact He b1
  obtain⟨base,len,c,e1,e2⟩:=O4 hel hneg hx;exact fin e1 e2
 case h_4 e b hund=>
  split at ho;case h_2=>cases ho
  rename_i _ _ _ _ hte;have hue:=(hE.ty e _ hte).und;cases hal:h.alloc (.cells e (b.map NV)) with
  |none=>rw[hal]at ho;cases ho
  |some p=>
   obtain⟨o,h1⟩:=p;rw[hal]at ho;simp only[zC,zG]at ho;obtain⟨rfl,rfl⟩:=ho;simp only[VR]at hx;obtain⟨bs,rfl,hbs⟩:=hx;have hlen:bs.size=b.length:=by rw[←hbs];simp
   have hch:∃cap,bs.size≤cap∧(choose (.appendCap bs.size 0 e)).run P w=.ok cap { w with drawn:=w.drawn+1 }:=
    ⟨bs.size+w.tape w.drawn (.appendCap bs.size 0 e)%(2^63-bs.size),by omega,rfl⟩
   obtain⟨cap,hcap,hch⟩:=hch
   let arr:Array Value:=bs.data.map (fun b=>Value.int .u8 b.toNat)++Array.replicate (cap-bs.size) (.int .u8 0)
   have harr:arr.size=cap:=by simp[arr];have:bs.data.size=bs.size:=rfl;omega
   have hcells:∀(i:Nat) (x:AV),(b.map NV)[i]?=some x→∃v,arr[i]?=some v∧(∀k w,VR k w x v):=by
    intro i x hxi;rw[List.getElem?_map,←hbs,List.getElem?_map]at hxi;cases hd:bs.data.toList[i]? with
    |none=>simp[hd]at hxi|some u=>
     simp only[hd,Option.map_some,zC]at hxi;subst hxi;refine⟨.int .u8 u.toNat,?_,fun k w=>by simp only[NV,VR]⟩;have hlt:=(zN.1 hd).1;have hd':bs.data[i]?=some u:=by simpa using hd
     simp only[arr];rw[Array.getElem?_append_left (by simpa using hlt),Array.getElem?_map,hd'];rfl
   obtain⟨r1,r2,_⟩:=hr.alloc hal (.cells arr e (arr.size,arr.size+1)) (w.drawn+1) (fun le=>⟨arr,(arr.size,arr.size+1),by simp,by
    rw[Nat.zero_add,List.length_map,harr,←hlen];exact hcap,(fun i x hxi=>by
    obtain⟨v,h3,h4⟩:=hcells i x hxi;exact⟨v,by simpa using h3,h4 _ _⟩),Nat.zero_mod _,.inr (zI _)⟩)
   have hrun:(convert src dst (.string bs)).run P w=.ok (.slice (some ⟨w.heap.size,0,none⟩) bs.size cap) { w with heap:=w.heap.push (.cells arr e (arr.size,arr.size+1)),drawn:=w.drawn+1 }:=by
    have e1:(convert src dst (.string bs)).run P w=(Conv.stringToBytes e bs).run P w:=by simp only[convert,zJ,run_underlying hus,run_underlying hud,zF,hund];cases s.und<;>simp only[run_underlying hue,zF]
    rw[e1];simp only[Conv.stringToBytes,zJ,hch,zF,newRow,run_newObj,zP,markStringish,run_shape];have hsh:World.shape? { w with heap:=w.heap.push (Obj.cells arr e),drawn:=w.drawn+1 } w.heap.size=some (e,arr.size):=by simp[World.shape?]
    show(Sem.run P (match World.shape? { w with heap:=w.heap.push (Obj.cells arr e),drawn:=w.drawn+1 } w.heap.size with
     |some (_,n)=>freeze { block:=w.heap.size,off:=n } 1|_=>Pure.pure ()) { w with heap:=w.heap.push (Obj.cells arr e),drawn:=w.drawn+1 }).andThen _=_
    rw[hsh];simp only[run_freeze,zF,World.freeze];rw[if_neg (by omega),Ry];simp
   refine⟨_,_,_,hrun,?_,r1,r2⟩;simp only[VR];refine⟨w.heap.size,0,cap,arr,e,(arr.size,arr.size+1),K.BJ _ _ _,by rw[hlen],by omega,(fun n hn=>by cases hn),by simp,by rw[harr];omega⟩
 case h_5 o off hund=>
  split at ho;case h_2=>cases ho
  rename_i t hst;rw[hst]at hus;split at ho;case h_2=>cases ho
  rename_i ti e cs hti hg;cases hb:(Nat.ble 1 ti.size&&Nat.blt off cs.length) with
  |false=>simp only[hb,cond_false]at ho;cases ho
  |true=>
   simp only[hb,cond_true,zC,zG]at ho;simp only[zA]at hb;obtain⟨rfl,rfl⟩:=ho;have hb1:=zE hb.1;have hb2:off<cs.length:=zE hb.2;have hx':=hx;simp only[VR]at hx;obtain⟨b,sh,hρ,rfl⟩:=hx;obtain⟨b1,sh1,g1,arr,fr,g2,g3,g4,g5,g6⟩:=hr.obj o _ hg;rw[hρ]at g1;cases g1;have hshape:w.shape? b=some (e,arr.size):=by simp[World.shape?,g2]
   have hseen:(Conv.seenAt ⟨b,sh+off,none⟩).run P w=.ok ⟨b,sh+off,none⟩ w:=by simp[Conv.seenAt,viewAt,hshape]
   have e1:(convert src dst (.pointer (some ⟨b,sh+off,none⟩))).run P w=.ok (.pointer (some ⟨b,sh+off,none⟩)) w:=by
    have hne:ti.size≠0:=by omega
    have hlt:¬arr.size≤sh+off:=by omega
    simp only[convert,zJ,run_underlying hus,run_underlying hud,zF,hund];simp[Conv.unsafePointer,run_underlying hus,run_underlying hud,hund,hseen,cellsIn,hshape,AX hE hti,hne,hlt]
   rw[e1];exact .pure hr hx'
 case h_6 u o off hund=>
  rw[hund]at hud;split at ho;case h_2=>cases ho
  rename_i hst;rw[hst]at hus;split at ho;case h_2=>cases ho
  rename_i ui e cs hui hg;cases hb:(Nat.ble 1 ui.size&&Nat.beq e u&&Nat.beq (off%ui.size) 0&&Nat.ble (off+ui.size) cs.length) with
  |false=>simp only[hb,cond_false]at ho;cases ho
  |true=>
   simp only[hb,cond_true,zC,zG]at ho;simp only[zA]at hb;obtain⟨rfl,rfl⟩:=ho;obtain⟨⟨⟨hb1,hb2⟩,hb3⟩,hb4⟩:=hb;have hb1:=zE hb1;obtain rfl:=zD hb2;have hb3:=zD hb3;have hb4:=zE hb4;have hx':=hx;simp only[VR]at hx;obtain⟨b,sh,hρ,rfl⟩:=hx;obtain⟨b1,sh1,g1,arr,fr,g2,g3,g4,g5,g6⟩:=hr.obj o _ hg;rw[hρ]at g1;cases g1;have hshape:w.shape? b=some (e,arr.size):=by simp[World.shape?,g2]
   have hseen:(Conv.seenAt ⟨b,sh+off,none⟩).run P w=.ok ⟨b,sh+off,none⟩ w:=by simp[Conv.seenAt,viewAt,hshape]
   have hcs:P.cellsOf e=ui.size:=by obtain⟨inf,z,i1,i2,_⟩:=(hE.ty e ui hui).info;simp[Program.cellsOf,i1,i2]
   have hlies:(variablesAt ⟨b,sh+off,none⟩ e 1).run P w=.ok true w:=by
    simp only[variablesAt,zJ,run_program,run_shape,zF,hshape,zP];congr 1;obtain⟨d,hd⟩:∃d,P.depth=d+1:=⟨2*(P.types.size+Made.depth)+1,rfl⟩;rw[hd];simp only[liesAt,Bool.or_eq_true]
    left
    rw[hd];simp only[rowAt,hcs];rw[if_neg (by omega)];rw[hk]at g5;simp only[hcs]at g5;have hmod:(sh+off)%ui.size=0:=by rw[Nat.add_mod,g5,hb3];simp
    have hdiv:(sh+off)/ui.size+1≤arr.size/ui.size:=by
     have h1:((sh+off)/ui.size+1)*ui.size≤arr.size:=by have:=Nat.div_add_mod (sh+off) ui.size;rw[hmod]at this;rw[Nat.add_mul,Nat.mul_comm ((sh+off)/ui.size)];omega
     exact(Nat.le_div_iff_mul_le (by omega)).2 h1
    simp[hmod,hdiv,sameLayout]
   have e1:(convert src dst (.pointer (some ⟨b,sh+off,none⟩))).run P w=.ok (.pointer (some ⟨b,sh+off,none⟩)) w:=by
    have hne:ui.size≠0:=by omega
    simp only[convert,zJ,run_underlying hus,run_underlying hud,zF];simp[Conv.unsafePointer,run_underlying hus,run_underlying hud,hseen,AX hE hui,hne,hlies]
   rw[e1];exact .pure hr hx'
 case h_7=>cases ho
end
section
variable {P:Program}{E:Env}{k:K}{h h':AH}{w:World}{v':AV}{ev:Operand→AV}{ρ:Operand→Value}
theorem W9 (hE:Az P E)(_hk:k.sz=⟨P.cellsOf,E.sel,E.tok,E.str,E.mp⟩)(hr:HR k h w){at':Array TypeId}{ty:TypeId}{x:AV}{xv:Value}(hx:VR k w x xv){n:Nat}(ho:lenA E at' h x=some n) :
 (Builtin.len_ at' ty #[xv]).run P w=.ok (.int .i64 (n:Int)) w:=by
 unfold lenA at ho;split at ho;case h_1=>cases ho
 rename_i t hat;split at ho;case h_1=>cases ho
 rename_i i hi;have hu:=(hE.ty t _ hi).und;split at ho;case h_1 s hund=>
  cases ho;simp only[VR]at hx;obtain⟨b,rfl,rfl⟩:=hx;simp[Builtin.len_,hat,run_underlying hu,hund,goInt]
 case h_2 hund=>
  cases ho;simp only[VR]at hx;subst hx;simp[Builtin.len_,hat,run_underlying hu,hund,goInt]
 case h_3 hund=>
  cases ho;simp only[VR]at hx;obtain⟨a,c,hv,_⟩:=hx;subst hv;simp[Builtin.len_,hat,run_underlying hu,hund,goInt]
 case h_4 hund=>
  cases ho;simp only[VR]at hx;obtain⟨_,_,_,_,_,_,_,rfl,_⟩:=hx;simp[Builtin.len_,hat,run_underlying hu,hund,goInt]
 case h_5 hund=>
  cases ho;simp only[VR]at hx;obtain⟨_,_,_,rfl,_⟩:=hx;simp[Builtin.len_,hat,run_underlying hu,hund,goInt]
 case h_6 hund=>
  cases ho;simp only[VR]at hx;subst hx;simp[Builtin.len_,hat,run_underlying hu,hund,goInt]
 case h_7 o hund=>
  split at ho;case h_2=>cases ho
  rename_i es cl hg;cases ho;simp only[VR]at hx;obtain⟨b,hρ,rfl⟩:=hx;obtain⟨b2,sh,h1,h2,Ax,clc,h3,h4⟩:=hr.obj o _ hg;rw[hρ]at h1;cases h1;have hgo:(getObj b).run P w=.ok (.map Ax clc) w:=Ei h3 (by simp);have hl:=h4.length;simp only[Array.length_toList]at hl;simp[Builtin.len_,hat,run_underlying hu,hund,goInt,hgo,hl]
 case h_8 n' el hund=>
  cases ho;have e:(Builtin.len_ at' ty #[xv]).run P w=(pure (goInt n):Sem Value).run P w:=by simp only[Builtin.len_,hat,List.getElem?_toArray,List.getElem?_cons_zero,zJ,run_underlying hu,zF,hund]
  rw[e];rfl
 case h_9 a hund=>
  split at ho;case h_2=>cases ho
  rename_i n' el _ _ _ _ ha;cases ho;have hua:=(hE.ty a _ ha).und;have e:(Builtin.len_ at' ty #[xv]).run P w=(pure (goInt n):Sem Value).run P w:=by simp only[Builtin.len_,hat,List.getElem?_toArray,List.getElem?_cons_zero,zJ,run_underlying hu,zF,hund];cases xv<;>simp only[run_underlying hua,zF]
  rw[e];rfl
 case h_10=>cases ho
theorem Vr (hE:Az P E)(hk:k.sz=⟨P.cellsOf,E.sel,E.tok,E.str,E.mp⟩){at':Array TypeId}{ty:TypeId}{x r:AV}{xv:Value}(hx:VR k w x xv)(ho:lenS E at' x=some r) :
 ∃n:Int,(Builtin.len_ at' ty #[xv]).run P w=.ok (.int .i64 n) w∧VR k w r (.int .i64 n):=by
 unfold lenS at ho;split at ho;case h_2=>cases ho
 rename_i j;split at ho;case h_1=>cases ho
 rename_i t hat;split at ho;case h_1=>cases ho
 rename_i i hi;have hu:=(hE.ty t _ hi).und;split at ho;case h_3=>cases ho
 ·rename_i el hund;obtain⟨a,n,c,rfl,hv⟩:=hE.len j r ho k w xv hk hx;exact⟨n,by simp[Builtin.len_,hat,run_underlying hu,hund,goInt],hv⟩
 ·rename_i hund;obtain⟨s,rfl,hv⟩:=hE.slen j r ho k w xv hk hx;exact⟨s.size,by simp[Builtin.len_,hat,run_underlying hu,hund,goInt],hv⟩
theorem X3 (hE:Az P E){at':Array TypeId}{ty:TypeId}{x:AV}{xv:Value}(hx:VR k w x xv){n:Nat}(ho:capA E at' x=some n) :
 (Builtin.cap_ at' ty #[xv]).run P w=.ok (.int .i64 (n:Int)) w:=by
 unfold capA at ho;split at ho;case h_1=>cases ho
 rename_i t hat;split at ho;case h_1=>cases ho
 rename_i i hi;have hu:=(hE.ty t _ hi).und;split at ho;case h_1 hund=>
  cases ho;simp only[VR]at hx;subst hx;simp[Builtin.cap_,hat,run_underlying hu,hund,goInt]
 case h_2 hund=>
  cases ho;simp only[VR]at hx;obtain⟨_,_,c,_,_,_,_,rfl,_,hc,_⟩:=hx;have:=hc _ rfl;subst this;simp[Builtin.cap_,hat,run_underlying hu,hund,goInt]
 case h_3 hund=>
  cases ho;simp only[VR]at hx;obtain⟨_,_,c,rfl,_,hc,_⟩:=hx;have:=hc _ rfl;subst this;simp[Builtin.cap_,hat,run_underlying hu,hund,goInt]
 case h_4=>cases ho
theorem Jn (hE:Az P E)(hr:HR k h w){at':Array TypeId}{ty:TypeId}{p n:AV}{pv nv:Value}(hp:VR k w p pv)(hn:VR k w n nv)(ho:D4 E .unsafeString at' ty [p,n] h=some (v',h')) :
 BY k h w v' h' ((Builtin.unsafeString_ at' ty #[pv,nv]).run P w):=by
 simp only[D4]at ho;have hmax:IntKind.i64.max=9223372036854775807:=by decide
 split at ho;case h_1 hn0=>
  obtain⟨kd,rfl⟩:=CU hn0 hn;split at ho;case h_2=>cases ho
  rename_i pt hat;have fin:∀q:Option Addr,pv=.pointer q→v'=.str []→h'=h→BY k h w v' h' ((Builtin.unsafeString_ at' ty #[pv,.int kd ((0:Nat):Int)]).run P w):=by
   intro q e1 e2 e3;subst e1 e2 e3;have e:(Builtin.unsafeString_ at' ty #[.pointer q,.int kd ((0:Nat):Int)]).run P w=.ok (.string .empty) w:=by change ((asInt (.int kd ((0:Nat):Int)) >>= _:Sem Value).run P w)=_;cases q<;>simp[hat,asInt,asIntOf,hmax]
   rw[e];exact .pure hr (by simp only[VR];exact⟨_,rfl,rfl⟩)
  cases p<;>simp only at ho<;>try (cases ho;done)
  case ptr o off=>simp only[VR]at hp;obtain⟨b,sh,_,hp⟩:=hp;cases ho;exact fin _ hp rfl rfl
  case nilp=>simp only[VR]at hp;cases ho;exact fin _ hp rfl rfl
 case h_2 m hne hn0=>
  obtain⟨kd,rfl⟩:=CU hn0 hn;split at ho;case h_2=>cases ho
  rename_i o off;split at ho;case h_2=>cases ho
  rename_i e cs pt' hg hat';split at ho;case h_2=>cases ho
  rename_i u _ _ _ _ hpt;split at ho;case h_2=>cases ho
  rename_i ui hui;cases hb:(Nat.beq e u&&Nat.beq ui.size 1&&Nat.ble m 16777216) with
  |false=>simp only[hb,cond_false]at ho;cases ho
  |true=>
   simp only[hb,cond_true]at ho;simp only[zA]at hb;obtain rfl:=zD hb.1.1;have hu1:=zD hb.1.2;have hm24:=zE hb.2;split at ho;case h_2=>cases ho
   rename_i r hseg;split at ho;case h_2=>cases ho
   rename_i s hs;simp only[zC,zG]at ho;obtain⟨rfl,rfl⟩:=ho;simp only[VR]at hp;obtain⟨b,sh,hρ,rfl⟩:=hp;obtain⟨b1,sh1,g1,arr,fr,g2,g3,g4,g5,g6⟩:=hr.obj o _ hg;rw[hρ]at g1;cases g1;obtain⟨q1,q2⟩:=Es hseg;obtain⟨vs,h10,h11⟩:=VRL.choose (k:=k) (w:=w) (cs:=r) (fun j v=>w.cell? ((⟨b,sh+off,none⟩:Addr).add j)=some v) (fun j x hx=>by obtain⟨v,h12,h13⟩:=g4 _ _ (q2 j x hx);refine⟨v,?_,h13⟩;rw[Cr,cell_of_heap g2,Nat.add_assoc];exact h12);obtain⟨b2,b3⟩:=FZ hs h10;have hsl:s.length=m:=by have:=h10.length;rw[b3,List.length_map,q1]at this;exact this
   have hm0:m≠0:=hne;have hbig:m<9223372036854775807:=by omega
   have hcs:P.cellsOf e=1:=by obtain⟨inf,z,i1,i2,_⟩:=(hE.ty e ui hui).info;simp[Program.cellsOf,i1,i2,hu1]
   have hlen:off+m≤cs.length:=by have:=q2 (m-1) (r[m-1]'(by omega)) (by rw[zK]);have:=(zN.1 this).1;omega
   have hlies:(variablesAt ⟨b,sh+off,none⟩ e m).run P w=.ok true w:=by
    have hshape:w.shape? b=some (e,arr.size):=by simp[World.shape?,g2]
    simp only[variablesAt,zJ,run_program,run_shape,zF,hshape,zP];congr 1;obtain⟨d,hd⟩:∃d,P.depth=d+1:=⟨2*(P.types.size+Made.depth)+1,rfl⟩;rw[hd];simp only[liesAt,Bool.or_eq_true]
    left
    rw[hd];simp only[rowAt,hcs];simp[Nat.mod_one,sameLayout]
    left
    omega
   have hcells:∀(j:Nat) (x:UInt8),(s.map fun b=>UInt8.ofNat b)[j]?=some x→w.cell? ((⟨b,sh+off,none⟩:Addr).add j)=some (.int .u8 x.toNat):=by
    intro j x hx;rw[List.getElem?_map]at hx;cases hsj:s[j]? with
    |none=>simp[hsj]at hx|some c=>
     simp only[hsj,Option.map_some,zC]at hx;subst hx;have hc:=b2 c (List.mem_of_getElem? hsj);have:=h11 j (.int .u8 (c:Int)) (by rw[b3,List.getElem?_map,hsj];rfl);rw[this];have e1:(UInt8.ofNat c).toNat=c:=by simp;omega
     rw[e1]
   have hlb:=Lib.run_loadBytes (P:=P) (w:=w) (s.map fun b=>UInt8.ofNat b) ⟨b,sh+off,none⟩ .empty hcells;simp only[List.length_map,hsl]at hlb;have hpu:=(hE.ty pt' _ hpt).und;obtain⟨r1,r2⟩:=hr.drop (w':=w.freeze ⟨b,sh+off,none⟩ m) hg hρ (by simp[World.freeze,hm0]) (by simp[World.freeze,hm0]) (by simp[World.freeze,hm0]) (by simp[World.freeze,hm0])
    (fun b' hb'=>by simp only[World.freeze,if_neg hm0,Array.getElem?_modify,if_neg (fun e=>hb' (Eq.symm e))])
    (fun a2 e2 f2 hx2=>by rw[g2]at hx2;cases hx2;simp only[World.freeze,if_neg hm0,Array.getElem?_modify,if_true,g2,Option.map_some];exact⟨_,_,rfl,rfl⟩)
   refine⟨.string ⟨(ByteArray.empty).data++(s.map fun b=>UInt8.ofNat b).toArray⟩,_,k,?_,?_,r1,r2⟩
   ·have hn1:¬((m:Int)<0):=by omega
    have hn2:¬((m:Int) > IntKind.i64.max):=by rw[hmax];omega
    have hn3:¬((m:Int)=0):=by omega
    change ((asInt (.int kd (m:Int)) >>= _:Sem Value).run P w)=_;simp only[asInt,asIntOf,zJ,zP,zF,hat'];rw[if_neg hn1,if_neg hn2,if_neg hn3];simp only[elemOf,zJ,run_underlying hpu,zF,zP,Int.toNat_natCast,hlies,if_true,hlb,run_freeze]
   ·simp only[VR];refine⟨_,rfl,?_⟩;have:((ByteArray.empty).data++(s.map fun b=>UInt8.ofNat b).toArray).toList=s.map fun b=>UInt8.ofNat b:=by simp
    rw[this];exact He b2
 case h_3=>cases ho
theorem Ov (hE:Az P E)(hk:k.sz=⟨P.cellsOf,E.sel,E.tok,E.str,E.mp⟩)(hr:HR k h w){b:Builtin}{at':Array TypeId}{ty:TypeId}{consts:Array Bool}{args:List AV}{vs:Array Value}(hv:VRL k w args vs.toList)
 (ho:D4 E b at' ty args h=some (v',h')):Bz k h w v' h' ((builtin b at' ty consts vs).run P w):=by
 have vs1:∀{x:AV},args=[x]→∃v,vs = #[v]∧VR k w x v:=by intro x hx;subst hx;simp only[VRL]at hv;obtain⟨v,vs',h1,h2,rfl⟩:=hv;exact⟨v,by rw[←Array.toArray_toList (xs:=vs),h1],h2⟩
 have vs2:∀{x y:AV},args=[x,y]→∃v u,vs = #[v,u]∧VR k w x v∧VR k w y u:=by intro x y hx;subst hx;simp only[VRL]at hv;obtain⟨v,vs',h1,h2,u,vs'',rfl,h3,rfl⟩:=hv;exact⟨v,u,by rw[←Array.toArray_toList (xs:=vs),h1],h2,h3⟩
 unfold D4 at ho;split at ho;case h_1 s x=>
  obtain⟨sv,xv,rfl,hs,hx⟩:=vs2 rfl;split at ho;case h_2=>cases ho
  rename_i st hst;split at ho;case h_2=>cases ho
  rename_i el _ _ _ _ hty;split at ho;case h_2=>cases ho
  rename_i ei hel;split at ho;case h_2=>cases ho
  rename_i xt hxt;split at ho;case h_1=>cases ho
  case h_3=>cases ho
  rename_i xi hni hxi;split at ho;case h_2=>cases ho
  rename_i n new he;have hat:at' = #[st,xt]∨True:=.inr trivial;refine BY.op ?_;have e:(Builtin.append_ at' ty #[sv,xv]).run P w=(Builtin.append_ #[st,xt] ty #[sv,xv]).run P w:=by simp only[Builtin.append_,hst,hxt];rfl
  rw[e];exact OX hE hk hr (hE.ty st _ hty).und (hE.ty xt _ hxi).und (fun kd hkd=>by cases xi;simp only at hkd;subst hkd;exact hni _ _ _ _ _ rfl) hel hs hx he ho
 case h_2 x=>
  obtain⟨xv,rfl,hx⟩:=vs1 rfl;refine BY.op ?_;split at ho
  ·rename_i r hls;cases ho;obtain⟨n,e1,e2⟩:=Vr (ty:=ty) hE hk hx hls;rw[e1];exact .pure hr e2
  cases hl:lenA E at' h x with
  |none=>simp[hl]at ho|some n=>rw[hl]at ho;cases ho;rw[W9 hE hk hr hx hl];exact .pure hr (by simp only[VR])
 case h_3 x=>
  obtain⟨xv,rfl,hx⟩:=vs1 rfl;refine BY.op ?_;cases hl:capA E at' x with
  |none=>simp[hl]at ho|some n=>rw[hl]at ho;cases ho;rw[X3 hE hx hl];exact .pure hr (by simp only[VR])
 case h_4 d x=>
  obtain⟨dv,xv,rfl,hd,hx⟩:=vs2 rfl;split at ho;case h_2=>cases ho
  rename_i st hst;split at ho;case h_2=>cases ho
  rename_i el _ _ _ _ hty;split at ho;case h_2=>cases ho
  rename_i ei hel;split at ho;case h_2=>cases ho
  rename_i n new he;exact BY.op (UQ hE hr hst (hE.ty st _ hty).und hel hd hx he ho)
 case h_5 x=>
  obtain⟨xv,rfl,hx⟩:=vs1 rfl;refine BY.op ?_;split at ho;case h_2=>cases ho
  case h_1 o off len s cap=>
   split at ho;case h_2=>cases ho
   rename_i st hst;split at ho;case h_2=>cases ho
   rename_i el _ _ _ _ hty;split at ho;case h_2=>cases ho
   rename_i ei hel;exact Tk hE hr hst (hE.ty st _ hty).und hel hx ho
 case h_6 m kk=>
  obtain⟨mv,kv,rfl,hm,hkk⟩:=vs2 rfl;split at ho;case h_2=>cases ho
  rename_i st hst;split at ho;case h_2=>cases ho
  rename_i kt et _ _ _ _ hty;split at ho;case h_2=>cases ho
  rename_i ki hki;cases hp:plainKey ki.und kk with
  |false=>simp only[hp,cond_false]at ho;cases ho
  |true=>simp only[hp,cond_true]at ho;exact BY.op (Qs hE hr hst (hE.ty st _ hty).und hki hm hkk hp ho)
 case h_7 x y=>
  obtain⟨xv,yv,rfl,hx,hy⟩:=vs2 rfl;refine BY.op ?_;split at ho;case h_2=>cases ho
  cases ho;simp only[VR]at hx hy;subst hx hy;refine⟨_,w,k,by simp[Builtin.max_,Builtin.max2];rfl,by simp only[VR],hr,Ev.refl _ _ _⟩
 case h_8 x y=>
  obtain⟨xv,yv,rfl,hx,hy⟩:=vs2 rfl;refine BY.op ?_;split at ho;case h_2=>cases ho
  cases ho;simp only[VR]at hx hy;subst hx hy;refine⟨_,w,k,by simp[Builtin.min_,Builtin.min2];rfl,by simp only[VR],hr,Ev.refl _ _ _⟩
 case h_9 x=>
  obtain⟨xv,rfl,hx⟩:=vs1 rfl;refine BY.op ?_;split at ho;case h_3=>cases ho
  case h_1=>
   cases ho;simp only[VR]at hx;subst hx;have e:(Builtin.unsafeSliceData_ at' ty #[.slice none 0 0]).run P w=.ok (.pointer none) w:=rfl;rw[e];exact .pure hr (by simp only[VR])
  case h_2 o off len s cap=>
   cases hb:Nat.blt 0 len with
   |false=>simp only[hb,cond_false]at ho;cases ho
   |true=>
    simp only[hb,cond_true,zC,zG]at ho;obtain⟨rfl,rfl⟩:=ho;have hlt:0<len:=zE hb;simp only[VR]at hx;obtain⟨b,sh,c,arr,e,fr,hρ,rfl,hle,_⟩:=hx;have e:(Builtin.unsafeSliceData_ at' ty #[.slice (some ⟨b,sh+off,none⟩) len c]).run P w=.ok (.pointer (some ⟨b,sh+off,none⟩)) w:=by obtain⟨c',rfl⟩:∃c',c=c'+1:=⟨c-1,by omega⟩;rfl
    rw[e];exact .pure hr (by simp only[VR];exact⟨b,sh,hρ,rfl⟩)
 case h_10 p n=>
  obtain⟨pv,nv,rfl,hp,hn⟩:=vs2 rfl;refine BY.op ?_;exact Jn hE hr hp hn (by simp only[D4];exact ho)
 case h_11=>cases ho
end
section
variable {P:Program}{E:Env}{k:K}{h h':AH}{w:World}{v':AV}{ev:Operand→AV}{ρ:Operand→Value}
theorem XZ (hE:Az P E)(hk:k.sz=⟨P.cellsOf,E.sel,E.tok,E.str,E.mp⟩)(hr:HR k h w)(hev:∀x,VR k w (ev x) (ρ x)){o:Oper}(ho:opA E o.op ev h=some (v',h')):Bz k h w v' h' ((execOp ρ o).run P w):=by
 obtain⟨dst,op,ty,pos,after,guard⟩:=o;simp only at ho;cases op;case move x=>simp only[opA]at ho;cases ho;exact .pure hr (hev x)
 case assign x=>simp only[opA]at ho;cases ho;exact .pure hr (hev x)
 case pick=>exact AdW hr hev ho
 case alloc=>exact ZH hE hr ho
 case box=>exact op_box hr hev ho
 case build=>exact ZG hE hr hev ho
 case buildSlice=>exact O2 hE hr hev ho
 case insert t m kk x=>exact KE hE hr hev (t:=t) (m:=m) (kk:=kk) (x:=x) (by simp only[opA]at ho ⊢;exact ho)
 case load=>exact AdH hE hr hev ho
 case store=>exact AaV hE hr hev ho
 case nilCheck=>exact Sy hr hev rfl ho
 case binOp=>exact op_bin hE hk hr hev ho
 case unOp=>exact op_un hr hev ho
 case convert s d x=>simp only[opA]at ho;exact BY.op (S0 hE hk hr (hev x) ho)
 case makeInterface=>exact KT hE hr hev ho
 case makeFunc=>exact Tt hr hev ho
 case makeMap=>exact TJ hr ho
 case makeSlice=>exact Rb hE hr hev ho
 case slice=>exact Aa9 hE hr hev ho
 case fieldAddr=>exact Qj hE hr hev ho
 case field=>exact YZ hE hr hev ho
 case indexAddr=>exact Qo hE hr hev ho
 case index=>exact Yj hE hk hr hev ho
 case lookup=>exact Xj hE hr hev ho
 case mapUpdate=>exact KE hE hr hev ho
 case range=>exact Aa6 hE hr hev ho
 case next it b=>cases b with
  |true=>exact AbH hr hev ho|false=>simp only[opA]at ho;cases ho
 case typeAssert=>exact OW hE hr hev ho
 case extract=>exact Vz hr hev ho
 all_goals (simp only[opA]at ho;cases ho)
def DR (k:K)(w:World):AD→Deferred→Prop
 |.mark o,d=>∃b,k.ρ o=some (b,0)∧d = { target:=.collected b,args:=#[] }|.call f args,d=>∃(fv:Value) (vs:Array Value),VR k w f fv∧VRL k w args vs.toList∧
  (match fv with
   |.func fn first captured=>d = { target:=.fn fn captured,args:=first++vs }
   |_=>False)
def DRL (k:K)(w:World):List AD→List Deferred→Prop
 |[],ds=>ds=[]|x::xs,ds=>∃d ds',ds=d::ds'∧DR k w x d∧DRL k w xs ds'
theorem DR.mono {k k':K}{w w':World}(h:Le k k' w w'):∀{x:AD} {d:Deferred},DR k w x d→DR k' w' x d
 |.mark o,d,hd=>let⟨b,h1,h2⟩:=hd;⟨b,h.rho _ _ h1,h2⟩
 |.call f args,d,hd=>by obtain⟨fv,vs,h1,h2,h3⟩:=hd;exact⟨fv,vs,VR.mono h _ _ h1,VRL.mono h _ _ h2,h3⟩
theorem DRL.mono {k k':K}{w w':World}(h:Le k k' w w'):∀{xs:List AD} {ds:List Deferred},DRL k w xs ds→DRL k' w' xs ds
 |[],ds,hd=>hd|x::xs,ds,hd=>by obtain⟨d,ds',h1,h2,h3⟩:=hd;exact⟨d,ds',h1,h2.mono h,DRL.mono h h3⟩
theorem DRL.append {k:K}{w:World} : ∀{xs ys:List AD} {ds es:List Deferred},DRL k w xs ds→DRL k w ys es→DRL k w (xs++ys) (ds++es)
 |[],ys,ds,es,h1,h2=>by simp only[DRL]at h1;subst h1;exact h2
 |x::xs,ys,ds,es,h1,h2=>by obtain⟨d,ds',rfl,h3,h4⟩:=h1;exact⟨d,ds'++es,rfl,h3,DRL.append h4 h2⟩
def IR (k:K):List Item→List Item→Prop
 |[],k'=>k'=[]|.inRangeFunc l::r,k'=>∃b r',k'=.inRangeFunc b::r'∧k.ρ l=some (b,0)∧IR k r r'|.endRangeFunc l::r,k'=>∃b r',k'=.endRangeFunc b::r'∧k.ρ l=some (b,0)∧IR k r r'|x::r,k'=>∃r',k'=x::r'∧IR k r r'
theorem IR.mono {k k':K}{w w':World}(h:Le k k' w w'):∀{xs ys:List Item},IR k xs ys→IR k' xs ys
 |[],ys,hd=>hd|x::xs,ys,hd=>by
  cases x<;>simp only[IR]at hd ⊢
  case inRangeFunc l=>obtain⟨b,r',h1,h2,h3⟩:=hd;exact⟨b,r',h1,h.rho _ _ h2,IR.mono h h3⟩
  case endRangeFunc l=>obtain⟨b,r',h1,h2,h3⟩:=hd;exact⟨b,r',h1,h.rho _ _ h2,IR.mono h h3⟩
  all_goals obtain⟨r',h1,h3⟩:=hd;exact⟨r',h1,IR.mono h h3⟩
def CR (k:K)(w:World):List (AV×Bool)→List PanicEntry→Prop
 |[],c=>c=[]|(v,r)::xs,c=>∃e c',c=e::c'∧VR k w v e.v∧(e.recovered=false∧r=false)∧e.goexit=false∧CR k w xs c'
theorem CR.mono {k k':K}{w w':World}(h:Le k k' w w'):∀{xs:List (AV×Bool)} {c:List PanicEntry},CR k w xs c→CR k' w' xs c
 |[],_,hd=>hd|(v,r)::xs,_,hd=>by obtain⟨e,c',h1,h2,h3,h4,h5⟩:=hd;exact⟨e,c',h1,VR.mono h _ _ h2,h3,h4,CR.mono h h5⟩
structure FR (k:K)(w:World)(c:Ctx)(tmps:T AV)(todo:List Item)(defs:List AD)(fr:Frame):Prop where
 fn:fr.fn=c.fn
 tmps:TR k w c.n tmps fr.tmps
 todo:IR k todo fr.todo
 defs:DRL k w defs fr.defers
 mode:fr.mode=.run
 kind:fr.kind=c.kind
 round:match c.round with
  |none=>fr.roundOf=none|some l=>∃b,k.ρ l=some (b,0)∧fr.roundOf=some b
 early:c.kind=.normal∨c.kind=.deferred
theorem FR.mono {k k':K}{w w':World}(h:Le k k' w w'){c:Ctx}{tmps:T AV}{todo:List Item}{defs:List AD}{fr:Frame}(f:FR k w c tmps todo defs fr):FR k' w' c tmps todo defs fr:=by
 refine⟨f.fn,f.tmps.mono h,f.todo.mono h,f.defs.mono h,f.mode,f.kind,?_,f.early⟩;have:=f.round;cases hr:c.round with
 |none=>rw[hr]at this;exact this
 |some l=>rw[hr]at this;obtain⟨b,h1,h2⟩:=this;exact⟨b,h.rho _ _ h1,h2⟩
theorem Hm {c:Ctx}{tmps:T AV}{todo:List Item}{defs:List AD}{fr:Frame}(hg:B3 E k w)(f:FR k w c tmps todo defs fr)(x:Operand):VR k w (Bj E tmps x) (fr.eval x):=by
 cases x with
 |tmp t=>exact f.tmps.2 t|const v=>exact Jx k w v|global g=>
  simp only[Bj,Frame.eval];cases hgl:E.glob g with
  |none=>simp only[VR]|some cells=>simp only[VR];exact⟨g,0,rfl,(hg g cells hgl).1,(hg g cells hgl).2.1⟩
 |func fid=>simp only[Bj,Frame.eval,VR];exact⟨#[],#[],rfl,by simp only[VRL],by simp only[VRL]⟩
end
section
variable {P:Program}{w w':World}{fr:Frame}{cs:List Frame}
abbrev gor (fr:Frame)(cs:List Frame):Goroutine:={ frame:=fr,callers:=cs,status:=.running,dying:=none }
theorem st (hm:fr.mode=.run):stepG P true (gor fr cs) w=stepG.exec P true true fr cs none w:=by obtain⟨fn,tmps,todo,defers,mode,kind,ro⟩:=fr;simp only at hm;subst hm;rfl
theorem BC {fr':Frame}{cs':List Frame}(h:(stepG P true (gor fr cs) w).bare=.go (gor fr' cs') w'):Steps P (lone fr cs w) (lone fr' cs' w'):=.one (step_lone_go h)
theorem IQ {x:Item}{kk:List Item}(hm:fr.mode=.run)(ht:fr.todo=x::kk)(hx:x=.code .skip∨(∃l,x=.code (.label l))∨(∃l,x=.inBlock l)∨(∃l,x=.inScope l)∨(∃ops,x=.inRegion ops [])) :
 Steps P (lone fr cs w) (lone { fr with todo:=kk } cs w):=by
 apply BC;rw[st hm];rcases hx with rfl|⟨_,rfl⟩|⟨_,rfl⟩|⟨_,rfl⟩|⟨_,rfl⟩<;>simp[stepG.exec,ht]
theorem st_seq {a b:Code}{kk:List Item}(hm:fr.mode=.run)(ht:fr.todo=.code (.seq a b)::kk):Steps P (lone fr cs w) (lone { fr with todo:=.code a::.code b::kk } cs w):=by apply BC;rw[st hm];simp[stepG.exec,ht]
theorem Adv {x:Operand}{a b:Code}{t:Bool}{kk:List Item}(hm:fr.mode=.run)(ht:fr.todo=.code (.cond x a b)::kk)(hx:fr.eval x=.bool t):Steps P (lone fr cs w) (lone { fr with todo:=.code (bif t then a else b)::kk } cs w):=by apply BC;rw[st hm];cases t<;>simp[stepG.exec,ht,hx]
theorem AaU {id:Nat}{a:Code}{kk:List Item}(hm:fr.mode=.run)(ht:fr.todo=.code (.block id a)::kk):Steps P (lone fr cs w) (lone { fr with todo:=.code a::.inBlock id::kk } cs w):=by apply BC;rw[st hm];simp[stepG.exec,ht]
theorem V5 {a:Code}{kk:List Item}(hm:fr.mode=.run)(ht:fr.todo=.code (.loop a)::kk∨fr.todo=.inLoop a::kk):Steps P (lone fr cs w) (lone { fr with todo:=.code a::.inLoop a::kk } cs w):=by apply BC;rw[st hm];rcases ht with ht|ht<;>simp[stepG.exec,ht]
theorem YD {a:Code}{kk:List Item}(hm:fr.mode=.run)(ht:fr.todo=.code (.scope a)::kk):Steps P (lone fr cs w) (lone { fr with todo:=.code a::.inScope a::kk } cs w):=by apply BC;rw[st hm];simp[stepG.exec,ht]
theorem AcC {id:Nat}{kk k':List Item}(hm:fr.mode=.run)(ht:fr.todo=.code (.exit id)::kk)(hx:exitTo id kk=some k'):Steps P (lone fr cs w) (lone { fr with todo:=k' } cs w):=by apply BC;rw[st hm];simp[stepG.exec,ht,hx]
theorem Adn {id:Nat}{kk k':List Item}(hm:fr.mode=.run)(ht:fr.todo=.code (.goto id)::kk)(hx:gotoIn id kk=some k'):Steps P (lone fr cs w) (lone { fr with todo:=k' } cs w):=by apply BC;rw[st hm];simp[stepG.exec,ht,hx]
theorem XB {id:Nat}{ops:Array Oper}{kk:List Item}(hm:fr.mode=.run)(ht:fr.todo=.code (.region id ops false)::kk):Steps P (lone fr cs w) (lone { fr with todo:=.inRegion ops (List.range ops.size)::kk } cs w):=by apply BC;rw[st hm];simp[stepG.exec,ht]
theorem Acs {id:Nat}{ops:Array Oper}{kk:List Item}(hm:fr.mode=.run)(ht:fr.todo=.code (.region id ops true)::kk)(hmx:P.follows .mixedOrders=true) :
 ∃t,Steps P (lone fr cs w) (lone { fr with todo:=.inRegion ops (Region.linearise .any ops t)::kk } cs { w with drawn:=w.drawn+1 }):=by
 refine⟨w.tape w.drawn (.order fr.fn id),?_⟩;apply BC;rw[st hm];simp[stepG.exec,ht,choose,Sem.run,Question.forced,Question.cut,Region.schedule,hmx]
theorem Aa8 (hm:fr.mode=.run)(ht:fr.todo=[]∨∃kk,fr.todo=.code .ret::kk)(hr:fr.roundOf=none):Steps P (lone fr cs w) (lone { fr with mode:=.returning } cs w):=by apply BC;rw[st hm];rcases ht with ht|⟨kk,ht⟩<;>simp[stepG.exec,ht,hr]
theorem MS {jump:Option Code}{l:Nat}{v:Value}{c:Frame}(hm:fr.mode=.run)
 (ht:(fr.todo=[]∧jump=none)∨(∃kk,fr.todo=.code .ret::kk∧jump=some .ret)∨(∃id kk,fr.todo=.code (.exit id)::kk∧exitTo id kk=none∧jump=some (.exit id))∨(∃id kk,fr.todo=.code (.goto id)::kk∧gotoIn id kk=none∧jump=some (.goto id)))
 (hr:fr.roundOf=some l) (hk:fr.kind=.normal) (he:(Instr.endRound l jump).run P w=.ok v w'):Steps P (lone fr (c::cs) w) (lone (c.finish v) cs w'):=by
 apply BC;rw[st hm];rcases ht with⟨ht,rfl⟩|⟨kk,ht,rfl⟩|⟨id,kk,ht,hx,rfl⟩|⟨id,kk,ht,hx,rfl⟩<;>simp[stepG.exec,ht,hr,he,doReturn,hk]<;>simp[hx]
theorem VZ {ops:Array Oper}{i:Nat}{rest:List Nat}{kk:List Item}{o:Oper}(hm:fr.mode=.run)(ht:fr.todo=.inRegion ops (i::rest)::kk)(ho:ops[i]?=some o)(hw:Region.wanted o (yielded ops fr.tmps)=false) :
 Steps P (lone fr cs w) (lone (fr.finish undef) cs w):=by
 apply BC;rw[st hm];simp[stepG.exec,ht,ho,hw]
theorem FM {ops:Array Oper}{i:Nat}{rest:List Nat}{kk:List Item}{o:Oper}(hm:fr.mode=.run)(ht:fr.todo=.inRegion ops (i::rest)::kk)(ho:ops[i]?=some o)(hw:Region.wanted o (yielded ops fr.tmps)=true)
 (hd:fr.roundOf=none∨∀c,o.op≠.defer c):stepG P true (gor fr cs) w=stepG.apply P true fr cs none (execOp fr.eval o) w:=by
 rw[st hm];have hop:fr.oper?=some o:=by simp[Frame.oper?,ht,ho]
 simp only[stepG.exec,ht,ho,hw,Option.map_some,Option.getD_some,if_true,stepG.oper,hop];rcases hd with hd|hd
 ·rw[hd]
 ·cases hro:fr.roundOf with
  |none=>rfl|some l=>cases hoo:o.op<;>first|rfl|exact absurd hoo (hd _)
theorem Fz {s:Sem Next}{v:Value}(hs:s.run P w=.ok (.value v) w'):(stepG.apply P true fr cs none s w).bare=.go (gor (fr.finish v) cs) w':=by simp[stepG.apply,hs]
theorem Ms {s:Sem Next}(hs:s.run P w=.ok .skip w'):(stepG.apply P true fr cs none s w).bare=.go (gor (fr.finish undef) cs) w':=by simp[stepG.apply,hs]
theorem YY {s:Sem Next}{d:Deferred}(hs:s.run P w=.ok (.defer d) w'):(stepG.apply P true fr cs none s w).bare=.go (gor (({ fr with defers:=d::fr.defers } : Frame).finish undef) cs) w':=by simp[stepG.apply,hs]
theorem YG {s:Sem Next}{v:Value}(hs:s.run P w=.halt (.panic v) w'):(stepG.apply P true fr cs none s w).bare=.go (gor (fr.raise [{ v,recovered:=false }]) cs) w':=by simp[stepG.apply,hs]
theorem Hp {s:Sem Next}{f:FuncId}{args:Array Value}(hs:s.run P w=.ok (.enter f args) w')(hk:∀d wr r sv kk,fr.todo≠.call d wr r sv::kk) :
 (stepG.apply P true fr cs none s w).bare=.go (gor (Frame.enter P f args .normal) (fr::cs)) w':=by
 simp only[stepG.apply,Sem.runT_eq,hs];cases ht:fr.todo with
 |nil=>simp|cons x kk=>cases x<;>first|exact absurd ht (hk _ _ _ _ _)|simp
theorem HU {s:Sem Next}{l:Nat}{f:FuncId}{tmps:Array Value}{a b:Code}(hs:s.run P w=.ok (.round l f tmps a b) w'):(stepG.apply P true fr cs none s w).bare=.go (gor (Frame.round l f tmps a b .normal) (fr::cs)) w':=by simp[stepG.apply,hs]
theorem NZ {s:Sem Next}(hs:s.run P w=.ok .recover w')(hr:fr.roundOf=none):(stepG.apply P true fr cs none s w).bare=match tryRecover fr cs with
 |some (v,callers)=>.go (gor (fr.finish v) callers) w'|none=>.go (gor (fr.finish .nilIface) cs) w':=by
 simp only[stepG.apply,Sem.runT_eq,hs,hr,if_true,GStep.bare_after];cases tryRecover fr cs with
 |none=>rfl|some p=>cases p;rfl
end
section
variable {P:Program}{E:Env}{k:K}{h h':AH}{w:World}{v':AV}{ev ev':Operand→AV}{ρ:Operand→Value}
theorem F2 {ps:Array (Nat×Operand)}(hx:∀a b,(a,b)∈ps→ev b=ev' b):CH ev ps=CH ev' ps:=by
 unfold CH;refine List.map_congr_left fun p hp=>?_
 rw[hx p.1 p.2 (by simpa using hp)]
theorem Lj {x:Option Operand}(hx:∀a,x=some a→ev a=ev' a):x.map ev=x.map ev':=by
 cases x with
 |none=>rfl|some a=>simp[hx a rfl]
theorem GB {xs:Array Operand}(hx:∀a∈xs,ev a=ev' a):xs.toList.map ev=xs.toList.map ev':=
 List.map_congr_left fun a ha=>hx a (by simpa using ha)
theorem XS {op:Op}(hx:∀x∈op.operands,ev x=ev' x):opA E op ev h=opA E op ev' h:=by
 cases op;case build t ps=>
  have e:=F2 (ev:=ev) (ev':=ev') (ps:=ps) fun a b hab=>hx b (by simp only[Op.operands];simp;exact⟨a,hab⟩)
  simp only[opA,e]
 case buildSlice t len ps=>
  have e:=F2 (ev:=ev) (ev':=ev') (ps:=ps) fun a b hab=>hx b (by simp only[Op.operands];simp;exact⟨a,hab⟩)
  simp only[opA,e]
 case makeFunc fn first cap=>
  have e1:=GB (ev:=ev) (ev':=ev') (xs:=first) fun a ha=>hx a (by simp[Op.operands,ha])
  have e2:=GB (ev:=ev) (ev':=ev') (xs:=cap) fun a ha=>hx a (by simp[Op.operands,ha])
  simp only[opA,e1,e2]
 case slice t x lo hi mx=>
  have e0:=hx x (by simp[Op.operands]);have e1:=Lj (ev:=ev) (ev':=ev') (x:=lo) fun a ha=>hx a (by simp[Op.operands,ha])
  have e2:=Lj (ev:=ev) (ev':=ev') (x:=hi) fun a ha=>hx a (by simp[Op.operands,ha])
  have e3:=Lj (ev:=ev) (ev':=ev') (x:=mx) fun a ha=>hx a (by simp[Op.operands,ha])
  simp only[opA,e0,e1,e2,e3]
 case next it b=>
  have e0:=hx it (by simp[Op.operands]);cases b<;>simp only[opA,e0]
 all_goals first
  |rfl
  |(simp[Op.operands]at hx;simp only[opA,hx])
theorem UR {o:Oper}(hx:∀x∈o.op.operands,ev x=ev' x):B4 E o ev h=B4 E o ev' h:=by
 obtain⟨dst,op,ty,pos,after,guard⟩:=o;simp only at hx;cases op;case call c=>
  have hc:∀x∈c.operands,ev x=ev' x:=by simpa only[Op.operands]using hx
  obtain⟨cal,args,at'⟩:=c;have ea:=GB (ev:=ev) (ev':=ev') (xs:=args) fun a ha=>hc a (by cases cal<;>simp[Call.operands,ha])
  cases cal with
  |builtin b=>
   cases b;case panic=>
    simp only[B4];generalize hl:args.toList=l;cases l with
    |nil=>rfl|cons x r=>cases r with
     |nil=>have:=hc x (by simp[Call.operands];simpa using(show x∈args.toList by simp[hl]));simp only[this]
     |cons _ _=>rfl
   all_goals simp only[B4,ea]
  |invoke r name=>have:=hc r (by simp[Call.operands]);simp only[B4,ea,this]
  |value f=>have:=hc f (by simp[Call.operands]);simp only[B4,ea,this]
 case defer c=>
  have hc:∀x∈c.operands,ev x=ev' x:=by simpa only[Op.operands]using hx
  obtain⟨cal,args,at'⟩:=c;have ea:=GB (ev:=ev) (ev':=ev') (xs:=args) fun a ha=>hc a (by cases cal<;>simp[Call.operands,ha])
  cases cal with
  |builtin b=>rfl|invoke r name=>have:=hc r (by simp[Call.operands]);simp only[B4,ea,this]
  |value f=>have:=hc f (by simp[Call.operands]);simp only[B4,ea,this]
 case panic x=>
  have:=hx x (by simp[Op.operands]);simp only[B4,this]
 all_goals
  simp only[B4];rw[XS (E:=E) (h:=h) hx]
def Jk (P:Program)(k:K)(h:AH)(w:World):Ask→Result Next→Prop
 |.val v h',r=>Bz k h w v h' r|.call fv args,r=>∃(fn:Fn) (first captured vs:Array Value),VR k w fv (.func fn first captured)∧VRL k w args vs.toList∧r=(invoke (.fn fn captured) (first++vs)).run P w
 |.defer d,r=>∃dd,r=.ok (.defer dd) w∧DR k w d dd|.recover,r=>r=.ok .recover w|.panic v,r=>∃u,r=.halt (.panic u) w∧VR k w v u
theorem VRL.of_map {xs:Array Operand}(hev:∀x∈xs,VR k w (ev x) (ρ x)):VRL k w (xs.toList.map ev) (xs.map ρ).toList:=by
 have key:∀l:List Operand,(∀x∈l,VR k w (ev x) (ρ x))→VRL k w (l.map ev) (l.map ρ):=by
  intro l
  induction l with
  |nil=>intro _;simp only[List.map_nil,VRL]
  |cons x r ih=>intro hl;simp only[List.map_cons,VRL];exact⟨_,_,rfl,hl x (by simp),ih fun y hy=>hl y (by simp[hy])⟩
 rw[Array.toList_map];exact key _ fun x hx=>hev x (by simpa using hx)
theorem NY (hE:Az P E)(hk:k.sz=⟨P.cellsOf,E.sel,E.tok,E.str,E.mp⟩)(hr:HR k h w){o:Oper}(hev:∀x,VR k w (ev x) (ρ x)){a:Ask}(ho:B4 E o ev h=some a):Jk P k h w a ((execOp ρ o).run P w):=by
 have old:∀{v h'},opA E o.op ev h=some (v,h')→Jk P k h w (.val v h') ((execOp ρ o).run P w):=fun h1=>XZ hE hk hr hev h1
 obtain⟨dst,op,ty,pos,after,guard⟩:=o;simp only at old;have callCase:∀{f:Operand} {c:Call} {fn:Fn} {x y:List AV},ev f=.func fn x y→∃(first captured:Array Value) (fn':Fn),ρ f=.func fn' first captured∧VR k w (.func fn x y) (.func fn' first captured):=by
  intro f c fn x y hf;have hv:=hev f;rw[hf]at hv;have hv':=hv;cases fn<;>simp only[VR]at hv;case yield=>obtain⟨b,_,h2,_⟩:=hv;exact⟨_,_,_,h2,by rw[←h2];exact hv'⟩
  all_goals obtain⟨_,_,h2,_⟩:=hv;exact⟨_,_,_,h2,by rw[←h2];exact hv'⟩
 cases op;case call c=>
  obtain⟨cal,args,at'⟩:=c;have ha:VRL k w (args.toList.map ev) (args.map ρ).toList:=VRL.of_map fun x _=>hev x
  cases cal with
  |builtin b=>
   have gen:∀{v h'},D4 E b at' ty (args.toList.map ev) h=some (v,h')→Jk P k h w (.val v h') ((execOp ρ ⟨dst,.call ⟨.builtin b,args,at'⟩,ty,pos,after,guard⟩).run P w):=by intro v h' hb;simp only[execOp,resolve,invoke,Jk,zJ,zP,zF];exact Ov hE hk hr ha hb
   cases b;case recover=>
    simp only[B4,zC]at ho;subst ho;simp[Jk,execOp,resolve,invoke,builtin]
   case panic=>
    simp only[B4]at ho;split at ho;case h_2=>cases ho
    rename_i x hl;split at ho;case h_2=>cases ho
    rename_i t u hx;simp only[zC]at ho;subst ho;have hv:=hev x;rw[hx]at hv;have hv':=hv;simp only[VR]at hv;obtain⟨y,h1,h2⟩:=hv;refine⟨ρ x,?_,hv'⟩;have e1:args.map ρ = #[ρ x]:=by apply Array.toList_inj.1;simp[hl]
    simp[execOp,resolve,invoke,builtin,e1,h1,Instr.panic]
   all_goals
    simp only[B4]at ho;split at ho;case h_2=>cases ho
    rename_i hb;simp only[zC]at ho;subst ho;exact gen hb
  |invoke r name=>
   simp only[B4,zC]at ho;subst ho;refine⟨.method name,#[],#[],#[ρ r]++args.map ρ,?_,?_,?_⟩
   ·simp only[VR];exact⟨_,_,rfl,by simp[VRL],by simp[VRL]⟩
   ·simp only[Array.toList_append,List.cons_append,List.nil_append,VRL];exact⟨_,_,rfl,hev r,ha⟩
   ·simp[execOp,resolve]
  |value f=>
   simp only[B4]at ho;split at ho;case h_2=>cases ho
   rename_i fn x y hf;simp only[zC]at ho;subst ho;obtain⟨first,captured,fn',h1,h2⟩:=callCase (c:=default) hf;exact⟨fn',first,captured,args.map ρ,h2,ha,by simp[execOp,resolve,h1,Deferred.ofValue]⟩
 case defer c=>
  obtain⟨cal,args,at'⟩:=c;have ha:VRL k w (args.toList.map ev) (args.map ρ).toList:=VRL.of_map fun x _=>hev x
  cases cal with
  |builtin b=>simp only[B4]at ho;cases ho
  |invoke r name=>
   simp only[B4,zC]at ho;subst ho;refine⟨{ target:=.fn (.method name) #[],args:=#[ρ r]++args.map ρ },by simp[execOp,resolve],?_⟩;refine⟨.func (.method name) #[] #[],#[ρ r]++args.map ρ,?_,?_,by simp⟩
   ·simp only[VR];exact⟨_,_,rfl,by simp[VRL],by simp[VRL]⟩
   ·simp only[Array.toList_append,List.cons_append,List.nil_append,VRL];exact⟨_,_,rfl,hev r,ha⟩
  |value f=>
   simp only[B4]at ho;split at ho;case h_2=>cases ho
   rename_i fn x y hf;simp only[zC]at ho;subst ho;obtain⟨first,captured,fn',h1,h2⟩:=callCase (c:=default) hf;exact⟨{ target:=.fn fn' captured,args:=first++args.map ρ },by simp[execOp,resolve,h1,Deferred.ofValue],.func fn' first captured,args.map ρ,h2,ha,rfl⟩
 case panic x=>
  simp only[B4]at ho;split at ho;case h_2=>cases ho
  rename_i t u hx;simp only[zC]at ho;subst ho;have hv:=hev x;rw[hx]at hv;have hv':=hv;simp only[VR]at hv;obtain⟨y,h1,h2⟩:=hv;exact⟨ρ x,by simp[execOp,h1,Instr.panic],hv'⟩
 all_goals
  simp only[B4]at ho;split at ho;case h_2=>cases ho
  rename_i hb;simp only[zC]at ho;subst ho;exact old hb
open Classical in
theorem Ff (hE:Az P E)(hk:k.sz=⟨P.cellsOf,E.sel,E.tok,E.str,E.mp⟩)(hr:HR k h w){o:Oper}(hev:∀x∈o.op.operands,VR k w (ev x) (ρ x)){a:Ask}(ho:B4 E o ev h=some a):Jk P k h w a ((execOp ρ o).run P w):=by
 refine NY hE hk hr (ev:=fun x=>if x∈o.op.operands then ev x else .any) (fun x=>?_) (a:=a) ?_
 ·by_cases hx:x∈o.op.operands
  ·simp only[if_pos hx];exact hev x hx
  ·simp only[if_neg hx,VR]
 ·rw[←ho];refine(UR fun x hx=>?_).symm;simp only[if_pos hx]
end
section
variable {P:Program}{E:Env}{k k' k1:K}{h h' h1:AH}{w w' w1:World}{v':AV}{ev ev':Operand→AV}{ρ:Operand→Value}
inductive Og (P:Program)(kind:CallKind):Next→Frame→Prop
 |enter (f:FuncId) (args:Array Value):Og P kind (.enter f args) (Frame.enter P f args kind)
 |round (l:Nat) (f:FuncId) (tmps:Array Value) (a b:Code):Og P kind (.round l f tmps a b) (Frame.round l f tmps a b kind)
def Ret (P:Program)(k:K)(w1:World)(fr0 caller:Frame)(cs:List Frame)(w:World):AG→Prop
 |.ret x=>∃v,VR k w1 x v∧Steps P (lone fr0 (caller::cs) w) (lone (caller.finish v) cs w1)|.pan ch=>∃chain,CR k w1 ch chain∧Steps P (lone fr0 (caller::cs) w) (lone (caller.raise chain) cs w1)
def CQ (P:Program)(k:K)(h:AH)(w:World)(res:AG)(h':AH)(r:Result Next):Prop:=
 ∃nx w1,r=.ok nx w1∧
  ((∃x v k',res=.ret x∧nx=.value v∧VR k' w1 x v∧HR k' h' w1∧Ev k k' h h' w w1)∨
   (∃fr0,Og P .normal nx fr0∧∀caller cs,∃k' w',HR k' h' w'∧Ev k k' h h' w w'∧Ret P k' w' fr0 caller cs w1 res))
def L0 (k:K)(w:World):Gv→FrameMode→Prop
 |.ret,m=>m=.returning|.pan ch,m=>∃chain,m=.panicking chain∧CR k w ch chain
def ZK (P:Program)(k:K)(h:AH)(w:World)(m:Gv)(h':AH)(rc':RC)(r:Result Next):Prop:=
 ∃nx w1 fr0,r=.ok nx w1∧Og P .deferred nx fr0∧∀caller cs,L0 k w m caller.mode→∃k' w' mode',HR k' h' w'∧Ev k k' h h' w w'∧L0 k' w' (settle m rc') mode'∧
  Steps P (lone fr0 (caller::cs) w1) (lone { caller with mode:=mode' } cs w')
structure FU (k:K)(w:World)(c:Ctx)(m:Gv)(tmps:T AV)(defs:List AD)(fr:Frame):Prop where
 fn:fr.fn=c.fn
 tmps:TR k w c.n tmps fr.tmps
 defs:DRL k w defs fr.defers
 mode:L0 k w m fr.mode
 kind:fr.kind=c.kind
 round:match c.round with
  |none=>fr.roundOf=none|some l=>∃b,k.ρ l=some (b,0)∧fr.roundOf=some b
 early:c.kind=.normal∨c.kind=.deferred
def NoRec (m:FrameMode):Prop:=∀v older,m≠.panicking ({ v,recovered:=false,goexit:=false } :: older)
def RCR (k:K)(w:World)(rc:RC)(kind:CallKind)(cs:List Frame):Prop:=
 match rc with
 |.can v=>kind=.deferred∧∃caller rest u older,cs=caller::rest∧caller.mode=.panicking ({ v:=u,recovered:=false,goexit:=false } :: older)∧VR k w v u|_=>kind=.deferred→∀caller rest,cs=caller::rest→NoRec caller.mode
theorem RCR.mono (hle:Le k k' w w'){rc:RC}{kind:CallKind}{cs:List Frame}(hr:RCR k w rc kind cs):RCR k' w' rc kind cs:=by
 cases rc with
 |can v=>obtain⟨h1,caller,rest,u,older,h2,h3,h4⟩:=hr;exact⟨h1,caller,rest,u,older,h2,h3,VR.mono hle _ _ h4⟩
 |no=>exact hr|used=>exact hr
def After (rc:RC)(cs:List Frame)(rc':RC)(cs':List Frame):Prop:=
 (rc'=rc∧cs'=cs)∨(∃v caller rest u older,rc=.can v∧rc'=.used∧cs=caller::rest∧caller.mode=.panicking ({ v:=u,recovered:=false,goexit:=false } :: older)∧
  cs' = { caller with mode:=.panicking ({ v:=u,recovered:=true,goexit:=false } :: older) } :: rest)
def Ends (P:Program)(k:K)(w:World)(c:Ctx)(res:AG)(fr:Frame):Prop:=
 fr.fn=c.fn∧fr.kind=c.kind∧fr.roundOf=none∧fr.defers=[]∧∃F,P.funcs[c.fn]?=some F∧match res with
  |.ret x=>fr.mode=.returning∧∃v,(results F fr.tmps).run P w=.ok v w∧VR k w x v|.pan ch=>∃chain,fr.mode=.panicking chain∧CR k w ch chain
def CW (P:Program)(k:K)(h:AH)(w:World)(c:Ctx)(rc:RC)(cs:List Frame)(fr:Frame)(res:AG)(h':AH)(rc':RC):Prop:=
 ∃k' w',HR k' h' w'∧Ev k k' h h' w w'∧match c.round with
  |none=>∃cs' fr',After rc cs rc' cs'∧Steps P (lone fr cs w) (lone fr' cs' w')∧Ends P k' w' c res fr'|some _=>∀caller rest,cs=caller::rest→Ret P k' w' fr caller rest w res
theorem Ret.pre {fr0 fr1 caller:Frame}{cs:List Frame}{w0:World}{res:AG}(hs:Steps P (lone fr0 (caller::cs) w0) (lone fr1 (caller::cs) w))(hr:Ret P k' w' fr1 caller cs w res):Ret P k' w' fr0 caller cs w0 res:=by
 cases res with
 |ret x=>obtain⟨v,h1,h2⟩:=hr;exact⟨v,h1,hs.trans h2⟩
 |pan ch=>obtain⟨v,h1,h2⟩:=hr;exact⟨v,h1,hs.trans h2⟩
theorem CW.pre {c:Ctx}{rc rc':RC}{cs:List Frame}{fr fr1:Frame}{res:AG}(he:Ev k k1 h h1 w w1)(hs:Steps P (lone fr cs w) (lone fr1 cs w1))(ho:CW P k1 h1 w1 c rc cs fr1 res h' rc'):CW P k h w c rc cs fr res h' rc':=by
 obtain⟨k2,w2,r2,e2,h2⟩:=ho;refine⟨k2,w2,r2,he.trans e2,?_⟩;cases hcr:c.round with
 |none=>rw[hcr]at h2;obtain⟨cs',fr',a1,a2,a3⟩:=h2;exact⟨cs',fr',a1,hs.trans a2,a3⟩
 |some l=>rw[hcr]at h2;intro caller rest hcs;have:=h2 caller rest hcs;subst hcs;exact this.pre hs
theorem FR.fin {c:Ctx}{tmps tmps':T AV}{ops:Array Oper}{i:Nat}{rest:List Nat}{kk:List Item}{defs:List AD}{fr:Frame}{o:Oper}{x:AV}{v:Value}
 (f:FR k w c tmps (.inRegion ops (i::rest)::kk) defs fr) (ho:ops[i]?=some o) (hd:AW c.n o.dst x tmps=some tmps') (hv:VR k w x v):FR k w c tmps' (.inRegion ops rest::kk) defs (fr.finish v):=by
 have ht:=f.todo;simp only[IR]at ht;obtain⟨kk',h1,h2⟩:=ht;have e:fr.finish v = { fr with tmps:=match o.dst with|some d=>fr.tmps.setIfInBounds d v|none=>fr.tmps,todo:=.inRegion ops rest::kk' }:=by simp only[Frame.finish,h1,ho,Option.bind_some];cases o.dst<;>rfl
 rw[e];refine⟨f.fn,?_,?_,f.defs,f.mode,f.kind,f.round,f.early⟩
 ·cases hdst:o.dst with
  |none=>rw[hdst]at hd;simp only[AW,zC]at hd;subst hd;exact f.tmps
  |some d=>
   rw[hdst]at hd;simp only[AW]at hd;cases hb:(Nat.blt d c.n&&Nat.blt d B9) with
   |false=>rw[hb]at hd;cases hd
   |true=>
    rw[hb]at hd;simp only[cond_true,zC]at hd;subst hd;simp only[zA]at hb;have hb1:d<c.n:=zE hb.1;have hb2:d<B9:=zE hb.2;have hsz:fr.tmps.size=c.n:=f.tmps.1;have hd3:d<fr.tmps.size:=by rw[hsz];exact hb1
    refine⟨by simp[hsz],fun j=>?_⟩;rw[T.Ds 10 tmps d j (some x) (by simpa using hb2)];by_cases e:j=d
    ·subst e;rw[if_pos rfl];have:(fr.tmps.setIfInBounds j v).getD j undef=v:=by simp[Array.getD,hd3]
     simp only[this,Option.getD_some];exact hv
    ·rw[if_neg e];have:(fr.tmps.setIfInBounds d v).getD j undef=fr.tmps.getD j undef:=by
      have e':d≠j:=fun x=>e x.symm
      simp only[Array.getD_eq_getD_getElem?,Array.getElem?_setIfInBounds_ne e']
     rw[this];exact f.tmps.2 j
 ·simp only[IR];exact⟨kk',rfl,h2⟩
theorem GG {ops:Array Oper}{o:Oper}{tmps:T AV}{ts:Array Value}(ht:∀j want d,o.guard=some (j,want)→(ops[j]?).bind (·.dst)=some d→VR k w ((T.get AE tmps d).getD (.tup [])) (ts.getD d undef)){b:Bool}(hw:AZ ops o tmps=some b):Region.wanted o (yielded ops ts)=b:=by
 unfold AZ at hw;unfold Region.wanted;cases hg:o.guard with
 |none=>rw[hg]at hw;cases hw;rfl
 |some p=>
  obtain⟨j,want⟩:=p;rw[hg]at hw;try simp only at hw
  unfold yielded;cases hd:(ops[j]?).bind (·.dst) with
  |none=>rw[hd]at hw;cases hw;simp only[hd];rfl
  |some d=>
   simp only[hd];rw[hd]at hw;have hv:=ht j want d hg hd;try simp only[Option.bind_some]
   try simp only at hw
   have tupCase:ts.getD d undef=.tuple #[]→b=false→((match ts[d]? with|some (.bool b)=>some b|_=>none)==some want)=b:=by
    intro h1 h2;subst h2;cases he:ts[d]? with
    |none=>rfl|some u=>
     have:ts.getD d undef=u:=by simp[Array.getD_eq_getD_getElem?,he]
     rw[this]at h1;subst h1;rfl
   cases hx:T.get AE tmps d with
   |none=>
    rw[hx]at hw hv;cases hw;simp only[Option.getD_none,VR]at hv;obtain⟨vs,h1,h2⟩:=hv;simp only[VRL]at h2;have:vs = #[]:=by apply Array.toList_inj.1;simpa using h2
    subst this;exact tupCase h1 rfl
   |some x=>
    rw[hx]at hw hv;simp only[Option.getD_some]at hv;cases x<;>(try simp only at hw)<;>try (cases hw;done)
    case bool c=>
     cases hw;simp only[VR]at hv;cases he:ts[d]? with
     |none=>simp only[Array.getD_eq_getD_getElem?,he,Option.getD_none,undef]at hv;cases hv
     |some u=>simp only[Array.getD_eq_getD_getElem?,he,Option.getD_some]at hv;subst hv;rfl
    case tup cs=>
     cases cs with
     |cons _ _=>cases hw|nil=>
      cases hw;simp only[VR]at hv;obtain⟨vs,h1,h2⟩:=hv;simp only[VRL]at h2;have:vs = #[]:=by apply Array.toList_inj.1;simpa using h2
      subst this;exact tupCase h1 rfl
theorem IR.head {x:Item}{r:List Item}{kk:List Item}(hx:(∀l,x≠.inRangeFunc l)∧(∀l,x≠.endRangeFunc l))(h:IR k (x::r) kk):∃r',kk=x::r'∧IR k r r':=by cases x<;>simp only[IR]at h<;>first|exact h|exact absurd rfl (hx.1 _)|exact absurd rfl (hx.2 _)
theorem IR.cons {x:Item}{r r':List Item}(hx:(∀l,x≠.inRangeFunc l)∧(∀l,x≠.endRangeFunc l))(h:IR k r r'):IR k (x::r) (x::r'):=by cases x<;>simp only[IR]<;>first|exact⟨_,rfl,h⟩|exact absurd rfl (hx.1 _)|exact absurd rfl (hx.2 _)
theorem FR.to {c:Ctx}{tmps:T AV}{todo todo':List Item}{defs:List AD}{fr:Frame}{kk:List Item}(f:FR k w c tmps todo defs fr)(hi:IR k todo' kk):FR k w c tmps todo' defs { fr with todo:=kk }:=
 ⟨f.fn,f.tmps,hi,f.defs,f.mode,f.kind,f.round,f.early⟩
theorem Gk {id:Nat} : ∀{x y r:List Item},IR k x y→exitTo id x=some r→∃r',exitTo id y=some r'∧IR k r r'
 |[],y,r,_,h=>by simp[exitTo]at h
 |a::x,y,r,hi,h=>by
  by_cases ha:(∀l,a≠.inRangeFunc l)∧(∀l,a≠.endRangeFunc l)
  ·obtain⟨y',rfl,h2⟩:=hi.head ha;cases a;case inBlock id'=>
    simp only[exitTo]at h ⊢;by_cases e:(id'==id)=true
    ·rw[if_pos e]at h ⊢;cases h;exact⟨_,rfl,h2⟩
    ·rw[if_neg e]at h ⊢;exact Gk h2 h
   all_goals
    simp only[exitTo]at h ⊢;exact Gk h2 h
  ·cases a<;>simp only[IR]at hi
   case inRangeFunc l=>
    obtain⟨b,y',rfl,_,h2⟩:=hi;simp only[exitTo]at h ⊢;exact Gk h2 h
   case endRangeFunc l=>
    obtain⟨b,y',rfl,_,h2⟩:=hi;simp only[exitTo]at h ⊢;exact Gk h2 h
   all_goals exact absurd ⟨fun l=>(by intro h;cases h),fun l=>(by intro h;cases h)⟩ ha
theorem C7 {id:Nat} : ∀{x y:List Item},IR k x y→exitTo id x=none→exitTo id y=none
 |[],y,hi,h=>by simp only[IR]at hi;subst hi;rfl
 |a::x,y,hi,h=>by
  by_cases ha:(∀l,a≠.inRangeFunc l)∧(∀l,a≠.endRangeFunc l)
  ·obtain⟨y',rfl,h2⟩:=hi.head ha;cases a;case inBlock id'=>
    simp only[exitTo]at h ⊢;by_cases e:(id'==id)=true
    ·rw[if_pos e]at h;cases h
    ·rw[if_neg e]at h ⊢;exact C7 h2 h
   all_goals
    simp only[exitTo]at h ⊢;exact C7 h2 h
  ·cases a<;>simp only[IR]at hi
   case inRangeFunc l=>
    obtain⟨b,y',rfl,_,h2⟩:=hi;simp only[exitTo]at h ⊢;exact C7 h2 h
   case endRangeFunc l=>
    obtain⟨b,y',rfl,_,h2⟩:=hi;simp only[exitTo]at h ⊢;exact C7 h2 h
   all_goals exact absurd ⟨fun l=>(by intro h;cases h),fun l=>(by intro h;cases h)⟩ ha
theorem Fe {id:Nat} : ∀{x y:List Item},IR k x y→(∀r,gotoIn id x=some r→∃r',gotoIn id y=some r'∧IR k r r')∧(gotoIn id x=none→gotoIn id y=none)
 |[],y,hi=>by simp only[IR]at hi;subst hi;exact⟨fun r h=>by simp[gotoIn]at h,fun _=>rfl⟩
 |a::x,y,hi=>by
  by_cases ha:(∀l,a≠.inRangeFunc l)∧(∀l,a≠.endRangeFunc l)
  ·obtain⟨y',rfl,h2⟩:=hi.head ha;cases a;case inScope body=>
    simp only[gotoIn];cases hf:findLabel body id with
    |none=>exact Fe h2|some rest=>exact⟨fun r h=>by cases h;exact⟨_,rfl,.cons ⟨nofun,nofun⟩ (.cons ⟨nofun,nofun⟩ h2)⟩,nofun⟩
   all_goals
    simp only[gotoIn];exact Fe h2
  ·cases a<;>simp only[IR]at hi
   case inRangeFunc l=>
    obtain⟨b,y',rfl,_,h2⟩:=hi;simp only[gotoIn];exact Fe h2
   case endRangeFunc l=>
    obtain⟨b,y',rfl,_,h2⟩:=hi;simp only[gotoIn];exact Fe h2
   all_goals exact absurd ⟨fun l=>(by intro h;cases h),fun l=>(by intro h;cases h)⟩ ha
end
section
variable {P:Program}{E:Env}{k k' k1:K}{h h' h1:AH}{w w' w1:World}{v':AV}
theorem LO:∀(xs:List AV) (i:Nat) (t:T AV) (j:Nat),i+xs.length≤B9→T.get AE (Dy i xs t) j=if i≤j∧j<i+xs.length then xs[j-i]? else T.get AE t j
 |[],i,t,j,_=>by simp only[Dy,List.length_nil,Nat.add_zero];rw[if_neg (by omega)]
 |x::xs,i,t,j,hl=>by
  simp only[List.length_cons]at hl;simp only[Dy,List.length_cons];rw[LO xs (i+1) _ j (by omega),T.Ds 10 t i j (some x) (by simp only[B9]at hl;omega)];by_cases e:j=i
  ·subst e;rw[if_neg (by omega),if_pos rfl,if_pos (by omega)];simp
  ·by_cases e2:i+1≤j∧j<i+1+xs.length
   ·rw[if_pos e2,if_pos (by omega),show j-i=(j-(i+1))+1 by omega];simp
   ·rw[if_neg e2,if_neg e,if_neg (by omega)]
theorem F6 {xs:List AV}{vs:Array Value}(hv:VRL k w xs vs.toList){n:Nat}(hn:xs.length≤n)(hl:n<B9):TR k w n (Dy 0 xs .e) (vs++Array.replicate (n-vs.size) undef):=by
 have hs:vs.size=xs.length:=by have:=hv.length;simpa using this
 refine⟨by simp[hs];omega,fun j=>?_⟩;rw[LO xs 0 _ j (by omega),T.Kw];by_cases e:j<xs.length
 ·rw[if_pos (by omega)];have hx:xs[j-0]?=some xs[j]:=by simp[e]
  obtain⟨v,h1,h2⟩:=hv.get j xs[j] (by simp[e]);rw[hx];have:(vs++Array.replicate (n-vs.size) undef).getD j undef=v:=by rw[Array.getD_eq_getD_getElem?,Array.getElem?_append_left (by omega)];rw[Array.getElem?_toList]at h1;rw[h1];rfl
  rw[this];exact h2
 ·rw[if_neg (by omega)];have:(vs++Array.replicate (n-vs.size) undef).getD j undef=undef:=by
   rw[Array.getD_eq_getD_getElem?,Array.getElem?_append_right (by omega)];by_cases e2:j-vs.size<n-vs.size
   ·simp[e2]
   ·simp[e2]
  rw[this];simp only[Option.getD_none,VR];exact⟨#[],rfl,by simp only[VRL]⟩
theorem TR.put {n:Nat}{t:T AV}{tmps:Array Value}(ht:TR k w n t tmps){d:Nat}{x:AV}{v:Value}(hv:VR k w x v)(h1:d<n)(h2:d<B9):TR k w n (T.put AE t d (some x)) (tmps.setIfInBounds d v):=by
 refine⟨by simp[ht.1],fun j=>?_⟩;rw[T.Ds 10 t d j (some x) (by simpa using h2)];have hs:=ht.1;by_cases e:j=d
 ·subst e;rw[if_pos rfl];have:(tmps.setIfInBounds j v).getD j undef=v:=by simp[Array.getD,show j<tmps.size by rw[hs];exact h1]
  rw[this];exact hv
 ·rw[if_neg e];have:(tmps.setIfInBounds d v).getD j undef=tmps.getD j undef:=by simp only[Array.getD_eq_getD_getElem?,Array.getElem?_setIfInBounds_ne (fun x=>e x.symm)]
  rw[this];exact ht.2 j
theorem G8 {n:Nat} : ∀{ps:List Nat} {xs:List AV} {vs:List Value} {t:T AV} {tmps:Array Value},TR k w n t tmps→VRL k w xs vs→(ps.all (fun p=>Nat.blt p n&&Nat.blt p B9))=true→
 TR k w n (DS ps xs t) ((ps.zip vs).foldl (fun tmps (t,a)=>tmps.setIfInBounds t a) tmps)
 |[],xs,vs,t,tmps,ht,_,_=>by simpa[DS]using ht
 |p::ps,[],vs,t,tmps,ht,hv,_=>by simp only[VRL]at hv;subst hv;simpa[DS]using ht
 |p::ps,x::xs,vs,t,tmps,ht,hv,hp=>by simp only[VRL]at hv;obtain⟨v,vs',rfl,h1,h2⟩:=hv;simp only[List.all_cons,zA]at hp;simp only[DS,List.zip_cons_cons,List.foldl_cons];exact G8 (ht.put h1 (zE hp.1.1) (zE hp.1.2)) h2 hp.2
theorem IU (hr:HR k h w){l:Nat}{st:LoopState}{pend:Option Code}{fn n:Nat}{ts:T AV}{ps:List Nat}{as' bd:Code}{d:Nat}(hg:h.get l=some (.loop st pend fn n ts ps as' bd d)){b:Nat}{sh:Nat}(hb:k.ρ l=some (b,sh)) :
 sh=0∧∃(r:Loop) (db:Nat),w.heap[b]?=some (.loop r)∧r.state=st∧r.pending=pend∧r.fn=fn∧r.params.toList=ps∧r.assign=as'∧r.body=bd∧TR k w n ts r.tmps∧k.ρ d=some (db,0)∧r.defers=db:=by
 obtain⟨b',sh',h1,h2⟩:=hr.obj l _ hg;rw[hb]at h1;cases h1;exact h2
theorem run_getLoop {b:Nat}{r:Loop}(hb:w.heap[b]?=some (.loop r)):(Instr.getLoop b).run P w=.ok r w:=by simp[Instr.getLoop,getObj,Sem.run,hb]
theorem OJ (hr:HR k h w){l:Nat}{st st':LoopState}{pend pend':Option Code}{fn n:Nat}{ts:T AV}{ps:List Nat}{as' bd:Code}{d:Nat}(hg:h.get l=some (.loop st pend fn n ts ps as' bd d)){b:Nat}(hb:k.ρ l=some (b,0)){r:Loop}(hw:w.heap[b]?=some (.loop r)) :
 (Go.setObj b (.loop { r with state:=st',pending:=pend' })).run P w=.ok () { w with heap:=w.heap.setIfInBounds b (.loop { r with state:=st',pending:=pend' }) }∧
 HR k (h.set l (some (.loop st' pend' fn n ts ps as' bd d))) { w with heap:=w.heap.setIfInBounds b (.loop { r with state:=st',pending:=pend' }) }∧
 Ev k k h (h.set l (some (.loop st' pend' fn n ts ps as' bd d))) w { w with heap:=w.heap.setIfInBounds b (.loop { r with state:=st',pending:=pend' }) }:=by
 obtain⟨_,r0,db,g1,g2,g3,g4,g5,g6,g7,g8,g9,g10⟩:=IU hr hg hb;rw[hw]at g1;cases g1;refine⟨DL hw (by simp),?_⟩;exact hr.setObj (ob':=.loop st' pend' fn n ts ps as' bd d) hg hb hw (by simp) fun le hnew=>⟨rfl,{ r with state:=st',pending:=pend' },db,hnew,rfl,rfl,g4,g5,g6,g7,g8.mono le,g9,g10⟩
theorem SH (hr:HR k h w){l:Nat}{st:LoopState}{pend:Option Code}{fn n:Nat}{ts:T AV}{ps:List Nat}{as' bd:Code}{d:Nat}(hg:h.get l=some (.loop st pend fn n ts ps as' bd d)){b:Nat}(hb:k.ρ l=some (b,0))
 {args:List AV} {vs:Array Value} (hv:VRL k w args vs.toList) (hl:args.length=ps.length) (hp:(ps.all (fun p=>Nat.blt p n&&Nat.blt p B9))=true) :
 ∃tmps,(Instr.yield b vs).run P w=.ok (.round b fn tmps as' bd) w∧TR k w n (DS ps args ts) tmps:=by
 obtain⟨_,r,db,g1,g2,g3,g4,g5,g6,g7,g8,g9,g10⟩:=IU hr hg hb;have hs:vs.size=args.length:=by have:=hv.length;simpa using this
 have hps:r.params.size=ps.length:=by rw[←g5];simp
 refine⟨(r.params.zip vs).foldl (fun tmps (t,a)=>tmps.setIfInBounds t a) r.tmps,?_,?_⟩
 ·simp only[Instr.yield,zJ,run_getLoop g1,zF];rw[if_neg (by omega)];simp[g4,g6,g7]
 ·have:=G8 (vs:=vs.toList) g8 hv hp;rw[←g5]at this;have e:(r.params.zip vs).foldl (fun tmps (x:Nat×Value)=>tmps.setIfInBounds x.1 x.2) r.tmps=(r.params.toList.zip vs.toList).foldl (fun tmps (x:Nat×Value)=>tmps.setIfInBounds x.1 x.2) r.tmps:=by rw[←Array.foldl_toList,Array.toList_zip]
  rw[g5]at this;show TR k w n _ ((r.params.zip vs).foldl (fun tmps (x:Nat×Value)=>tmps.setIfInBounds x.1 x.2) r.tmps);rw[e,g5];exact this
theorem run_newObj (ob:Obj):(newObj ob).run P w=.ok w.heap.size { w with heap:=w.heap.push ob }:=by simp[newObj,Sem.run]
theorem Tu (hr:HR k h w){fn n:Nat}{ts:T AV}{tmps:Array Value}(ht:TR k w n ts tmps){ps:Array Tmp}{as' bd:Code}{d db l:Nat}(hd:k.ρ d=some (db,0))(ha:h.alloc (.loop .ready none fn n ts ps.toList as' bd d)=some (l,h')) :
 ∃k' w',(newObj (.loop { state:=.ready,pending:=none,fn,tmps,params:=ps,assign:=as',body:=bd,defers:=db })).run P w=.ok w.heap.size w'∧k'.ρ l=some (w.heap.size,0)∧HR k' h' w'∧Ev k k' h h' w w':=by
 obtain⟨r1,r2,_⟩:=hr.alloc ha (.loop { state:=.ready,pending:=none,fn,tmps,params:=ps,assign:=as',body:=bd,defers:=db }) w.drawn fun le=>⟨rfl,{ state:=.ready,pending:=none,fn,tmps,params:=ps,assign:=as',body:=bd,defers:=db },db,by simp,rfl,rfl,rfl,rfl,rfl,rfl,ht.mono le,le.rho _ _ hd,rfl⟩
 exact⟨_,_,run_newObj _,K.BJ _ _ _,r1,r2⟩
theorem U8 (hr:HR k h w){fn n:Nat}{ts:T AV}{tmps:Array Value}(ht:TR k w n ts tmps){ps:Array Tmp}{as' bd:Code}{d l:Nat}(ha:h.alloc (.dfr true)=some (d,h1))(hb:h1.alloc (.loop .ready none fn n ts ps.toList as' bd d)=some (l,h')) :
 ∃k' w' lb mark,(Instr.enterLoop fn tmps ps as' bd none).run P w=.ok (lb,mark) w'∧k'.ρ l=some (lb,0)∧HR k' h' w'∧Ev k k' h h' w w'∧DRL k' w' [.mark d] mark:=by
 obtain⟨r1,r2,_⟩:=hr.alloc ha (.deferred (some [])) w.drawn fun le=>⟨rfl,by simp⟩
 obtain⟨k2,w2,g1,g2,g3,g4⟩:=Tu (P:=P) r1 (ht.mono (r2.le hr)) (db:=w.heap.size) (K.BJ _ _ _) hb;refine⟨k2,w2,_,[{ target:=.collected w.heap.size,args:=#[] }],?_,g2,g3,r2.trans g4,?_⟩
 ·simp only[Instr.enterLoop,zJ,run_newObj,zF,zP];rw[run_newObj]at g1;cases g1;rfl
 ·exact⟨_,_,rfl,⟨_,g4.rho _ _ (K.BJ _ _ _),rfl⟩,rfl⟩
theorem UM (hr:HR k h w){fn n:Nat}{ts:T AV}{tmps:Array Value}(ht:TR k w n ts tmps){ps:Array Tmp}{as' bd:Code}{l0 l:Nat}{st:LoopState}{pend:Option Code}{fn0 n0:Nat}{ts0:T AV}{ps0:List Nat}{as0 bd0:Code}{d:Nat}
 (hg:h.get l0=some (.loop st pend fn0 n0 ts0 ps0 as0 bd0 d)) {b0:Nat} (hb0:k.ρ l0=some (b0,0)) (hb:h.alloc (.loop .ready none fn n ts ps.toList as' bd d)=some (l,h')) :
 ∃k' w' lb mark,(Instr.enterLoop fn tmps ps as' bd (some b0)).run P w=.ok (lb,mark) w'∧k'.ρ l=some (lb,0)∧HR k' h' w'∧Ev k k' h h' w w'∧DRL k' w' [] mark:=by
 obtain⟨_,r,db,e1,e2,e3,e4,e5,e6,e7,e8,e9,e10⟩:=IU hr hg hb0;obtain⟨k2,w2,g1,g2,g3,g4⟩:=Tu (P:=P) hr ht e9 hb;refine⟨k2,w2,_,[],?_,g2,g3,g4,rfl⟩;simp only[Instr.enterLoop,zJ,run_getLoop e1,zF,zP,e10,run_newObj];rw[run_newObj]at g1;cases g1;rfl
theorem UU (hr:HR k h w){o b:Nat}(hg:h.get o=some (.dfr true))(hb:k.ρ o=some (b,0)) :
 ∃w',(Instr.takeDeferred b).run P w=.ok [] w'∧HR k (h.set o (some (.dfr false))) w'∧Ev k k h (h.set o (some (.dfr false))) w w':=by
 obtain⟨b',sh',h1,h2,h3⟩:=hr.obj o _ hg;rw[hb]at h1;cases h1;simp only[if_true]at h3;obtain⟨r1,r2⟩:=hr.setObj (ob':=.dfr false) hg hb h3 (by simp) (new:=.deferred none) fun le hnew=>⟨rfl,by simpa using hnew⟩
 refine⟨_,?_,r1,r2⟩;simp only[Instr.takeDeferred,zJ,Ei h3 (show ∀arr e fr,Obj.deferred (some [])≠.cells arr e fr by simp),DL h3 (show ∀arr e fr,Obj.deferred (some [])≠.cells arr e fr by simp),zF,zP]
theorem st_rf {fr:Frame}{cs:List Frame}(hm:fr.mode=.run){f:Operand}{ps:Array Tmp}{as' bd:Code}{kk:List Item}(ht:fr.todo=.code (.rangeFunc f ps as' bd)::kk){lb:Nat}{mark:List Deferred}
 (hen:(Instr.enterLoop fr.fn fr.tmps ps as' bd fr.roundOf).run P w=.ok (lb,mark) w1) {fn:Fn} {first captured:Array Value} (hv:fr.eval f=.func fn first captured) :
 ∃s:Sem Next,(stepG P true (gor fr cs) w).bare=(stepG.apply P true { fr with todo:=.inRangeFunc lb::kk,defers:=mark++fr.defers } cs none s w1).bare∧
  s.run P w1=(invoke (.fn fn captured) (first ++ #[.func (.yield lb) #[] #[]])).run P w1:=by
 refine⟨do let d ←resolve ({ fr with todo:=.inRangeFunc lb::kk,defers:=mark++fr.defers } : Frame).eval { callee:=.value f,args:=#[.const (.func (.yield lb) #[] #[])],argTypes:=#[] } 0;invoke d.target d.args,?_,?_⟩
 ·rw[st hm];simp[stepG.exec,ht,hen]
 ·have:({ fr with todo:=.inRangeFunc lb::kk,defers:=mark++fr.defers } : Frame).eval f=.func fn first captured:=by rw[←hv];cases f<;>rfl
  have e:Array.map ({ fr with todo:=.inRangeFunc lb::kk,defers:=mark++fr.defers } : Frame).eval #[Operand.const (.func (.yield lb) #[] #[])] = #[.func (.yield lb) #[] #[]]:=by apply Array.toList_inj.1;simp[Frame.eval]
  simp only[resolve,this,Deferred.ofValue,zJ,zP,zF,e]
theorem st_erf {fr:Frame}{cs:List Frame}(hm:fr.mode=.run){l:Nat}{kk:List Item}(ht:fr.todo=.endRangeFunc l::kk){jump:Option Code}(he:(Instr.endLoop l).run P w=.ok jump w1) :
 Steps P (lone fr cs w) (lone { fr with todo:=(jump.map Item.code).toList++kk } cs w1):=by
 apply BC;rw[st hm];simp[stepG.exec,ht,he]
theorem YB {fr:Frame}{cs:List Frame}(hm:fr.mode=.run){kk:List Item}(ht:fr.todo=.beginRound::kk){l:Nat}(hl:fr.roundOf=some l)(he:(Instr.beginRound l).run P w=.ok () w1) :
 Steps P (lone fr cs w) (lone { fr with todo:=kk } cs w1):=by
 apply BC;rw[st hm];simp only[stepG.exec,ht,hl,Option.elim];rw[Ms (w':=w1) (by simp[he])];simp[Frame.finish,ht,hl]
theorem TL {fr:Frame}{cs:List Frame}(hm:fr.mode≠.run):stepG P true (gor fr cs) w=unwind P true fr cs none w:=by obtain⟨fn,tmps,todo,defers,mode,kind,ro⟩:=fr;simp only at hm;cases mode<;>first|exact absurd rfl hm|rfl
theorem Tl {fr:Frame}{cs:List Frame}(hm:fr.mode≠.run){b:Nat}{args:Array Value}{ds:List Deferred}(hd:fr.defers = { target:=.collected b,args:=args } :: ds)(ht:(Instr.takeDeferred b).run P w=.ok [] w') :
 Steps P (lone fr cs w) (lone { fr with defers:=ds } cs w'):=by
 apply BC;rw[TL hm];simp[unwind,hd,ht]
theorem RF {fr fr0:Frame}{cs:List Frame}(hm:fr.mode≠.run){fn:Fn}{captured args:Array Value}{ds:List Deferred}(hd:fr.defers = { target:=.fn fn captured,args:=args } :: ds){nx:Next}(hi:(invoke (.fn fn captured) args).run P w=.ok nx w')(hs:Og P .deferred nx fr0) :
 Steps P (lone fr cs w) (lone fr0 ({ fr with defers:=ds } :: cs) w'):=by
 apply BC;rw[TL hm];cases hs<;>simp[unwind,hd,callDeferred,hi]
theorem Hb {fr c:Frame}{cs:List Frame}(hm:fr.mode=.returning)(hd:fr.defers=[])(hk:fr.kind=.deferred){F:Func}(hf:P.funcs[fr.fn]?=some F){v:Value}(hv:(results F fr.tmps).run P w=.ok v w){c':Frame}
 (hc:(∃v chain,c.mode=.panicking ({ v,recovered:=true,goexit:=false } :: chain)∧(∀e∈chain,e.goexit=false)∧c' = { c with mode:=.returning })∨((∀e chain,c.mode=.panicking (e::chain)→e.recovered=false)∧c'=c)) :
 Steps P (lone fr (c::cs) w) (lone c' cs w):=by
 apply BC;rw[TL (by simp[hm])];simp only[unwind,hd,hm,hf,doReturn,hk,Sem.runT_eq,hv];rcases hc with⟨u,chain,h1,h2,rfl⟩|⟨h1,rfl⟩
 ·have:chain.dropWhile (fun x=>!x.goexit)=[]:=by
   have:∀l:List PanicEntry,(∀e∈l,e.goexit=false)→l.dropWhile (fun x=>!x.goexit)=[]:=by
    intro l
    induction l with
    |nil=>intro _;rfl
    |cons a l ih=>intro hl;simp[List.dropWhile,hl a (by simp),ih fun e he=>hl e (by simp[he])]
   exact this _ h2
  simp[h1,this]
 ·cases hmode:c'.mode with
  |run=>simp|returning=>simp|panicking chain=>
   cases chain with
   |nil=>simp|cons e chain=>have:=h1 e chain hmode;obtain⟨v,r,g⟩:=e;simp only at this;subst this;simp
end
end Go.Ab
end
