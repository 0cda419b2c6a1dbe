/- Laws of the library under shorter names; no condition but theirs. -/
import Derived.Laws.Sem
theorem zA(a b:Bool):((a&&b)=true)=(a=true∧b=true):=Bool.and_eq_true a b
theorem zB{α:Type _}{p:α→Bool}{l:List α}:l.all p=true↔∀x,x∈l→p x=true:=List.all_eq_true
theorem zC{α:Type _}(a b:α):(some a=some b)=(a=b):=Option.some.injEq a b
theorem zD{n m:Nat}:n.beq m=true→n=m:=Nat.eq_of_beq_eq_true
theorem zE{n m:Nat}:n.ble m=true→n≤m:=Nat.le_of_ble_eq_true
theorem zF{α β:Type}(a:α)(w:Go.World)(f:α→Go.World→Go.Result β):(Go.Result.ok a w).andThen f=f a w:=Go.Result.andThen_ok a w f
theorem zG{α:Type _}{β:Type _}(a:α)(b:β)(c:α)(d:β):((a,b)=(c,d))=(a=c∧b=d):=Prod.mk.injEq a b c d
theorem zH{α:Type _}{b:α}{l:List α}{a:α}:a∈b::l↔a=b∨a∈l:=List.mem_cons
theorem zI(n:Nat):n≤n:=Nat.le_refl n
theorem zJ{α β:Type}(P:Go.Program)(w:Go.World)(x:Go.Sem α)(f:α→Go.Sem β):Go.Sem.run P (x>>=f) w=(Go.Sem.run P x w).andThen fun a w=>Go.Sem.run P (f a) w:=Go.Sem.run_bind P w x f
theorem zK{α:Type _}{l:List α}{i:Nat}(h:i<l.length):l[i]?=some l[i]:=List.getElem?_eq_getElem h
theorem zL{p:Prop}[Decidable p]:¬p→decide p=false:=decide_eq_false
theorem zN{α:Type _}{l:List α}{i:Nat}{a:α}:l[i]?=some a↔∃h:i<l.length,l[i]=a:=List.getElem?_eq_some_iff
theorem zO{α:Type _}(y:α){a:α}{l:List α}:a∈l→a∈y::l:=List.mem_cons_of_mem y
theorem zP{α:Type}(P:Go.Program)(w:Go.World)(a:α):Go.Sem.run P (pure a) w=Go.Result.ok a w:=Go.Sem.run_pure P w a
theorem zQ{m n:Nat}:m∈List.range n↔m<n:=List.mem_range
theorem zR{α:Type _}{s t:List α}:(s++t).length=s.length+t.length:=List.length_append
theorem zM{n m k:Nat}:n≤m→m≤k→n≤k:=Nat.le_trans
