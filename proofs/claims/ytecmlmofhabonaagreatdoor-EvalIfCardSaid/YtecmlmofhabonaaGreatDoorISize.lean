/- Steps add up; how great the numbers of values are. -/
import Derived.Test.YtecmlmofhabonaaGreatDoorINode4
noncomputable section
namespace Go.Ev
open Go Go.Ab Go.Nl Go.Nb Go.RowKit Go.Proofs Go.E4
set_option maxRecDepth 1000000
def shR (d:Int):Rs→Rs
 |.error e=>.error e|.ok (v,n)=>.ok (v,n+d)
theorem FE (r:Except Nat Vl)(n d:Int):Eg r (n+d)=shR d (Eg r n):=by cases r<;>rfl
theorem Qq {f:Nat→Int→Rs}{d:Int}(h:∀i n,f i (n+d)=shR d (f i n)):∀(c i:Nat) (n:Int),D8 f c i (n+d)=(match D8 f c i n with|.error e=>.error e|.ok (l,m)=>.ok (l,m+d))
 |0,_,_=>rfl|c+1,i,n=>by
  simp only[D8,h];cases f i n with
  |error e=>rfl|ok q=>obtain⟨v,n1⟩:=q;simp only[shR];rw[Qq h c (i+1) n1];cases D8 f c (i+1) n1<;>rfl
theorem Acb (cb:Option (Nat×Q))(u:Vl)(n d:Int):Jg cb u (n+d)=shR d (Jg cb u n):=by
 match cb with
 |none=>
  unfold Jg;cases C6 5 ⟨[],[(0,1)],.pl⟩ u with
  |error e=>rfl|ok w=>rw[show n+d+1+1+1+1+1=(n+1+1+1+1+1)+d by omega];exact FE _ _ _
 |some (k,q)=>
  unfold Jg;by_cases h:V1 k u=true
  ·simp only[h,if_true];rw[show n+d+1+1+1+1+1+1=(n+1+1+1+1+1+1)+d by omega];exact FE _ _ _
  ·simp only[h,Bool.false_eq_true,if_false,shR];rw[show n+d+1+1+1+1=(n+1+1+1+1)+d by omega]
theorem K4 (e:En)(cb:Option (Nat×Q))(d:Int):∀(x:X) (bs:Bs) (n:Int),evS e cb bs x (n+d)=shR d (evS e cb bs x n):=by
 intro x
 induction x with
 |lit p q r u=>intro bs n;simp only[evS,shR];rw[show n+d+1=(n+1)+d by omega]
 |ref s=>
  intro bs n;simp only[evS];cases FW bs s (e.nm s) with
  |none=>rfl|some v=>simp only[shR];rw[show n+d+1=(n+1)+d by omega]
 |bin op a b iha ihb=>
  intro bs n;simp only[evS];rw[show n+d+1=(n+1)+d by omega,iha];cases evS e cb bs a (n+1) with
  |error _=>rfl|ok q=>
   simp only[shR,ihb];cases evS e cb bs b q.2 with
   |error _=>rfl|ok r=>simp only[];exact FE _ _ _
 |neg a iha=>
  intro bs n;simp only[evS];rw[show n+d+1=(n+1)+d by omega,iha];cases evS e cb bs a (n+1) with
  |error _=>rfl|ok q=>simp only[shR];exact FE _ _ _
 |sq a iha=>
  intro bs n;simp only[evS];rw[show n+d+1=(n+1)+d by omega,iha];cases evS e cb bs a (n+1) with
  |error _=>rfl|ok q=>simp only[shR];exact FE _ _ _
 |lst a b c iha ihb ihc=>
  intro bs n;simp only[evS];rw[show n+d+1=(n+1)+d by omega,iha];cases evS e cb bs a (n+1) with
  |error _=>rfl|ok q=>
   simp only[shR,ihb];cases evS e cb bs b q.2 with
   |error _=>rfl|ok r=>simp only[shR,ihc];cases evS e cb bs c r.2<;>rfl
 | «at» a b iha ihb=>
  intro bs n;simp only[evS];rw[show n+d+1=(n+1)+d by omega,iha];cases evS e cb bs a (n+1) with
  |error _=>rfl|ok q=>
   simp only[shR,ihb];cases evS e cb bs b q.2 with
   |error _=>rfl|ok r=>simp only[];exact FE _ _ _
 |tab c a iha=>intro bs n;simp only[evS];rw[show n+d+1=(n+1)+d by omega,Qq (fun i n=>iha _ n)];cases D8 (fun i n=>evS e cb (bs++[(nmI,Ih i)]) a n) c 0 (n+1)<;>rfl
 |sum c a iha=>
  intro bs n;simp only[evS];rw[show n+d+1=(n+1)+d by omega,Qq (fun i n=>iha _ n)];cases D8 (fun i n=>evS e cb (bs++[(nmI,Ih i)]) a n) c 0 (n+1) with
  |error _=>rfl|ok q=>simp only[];exact FE _ _ _
 |ite a b c f iha ihb ihc ihf=>
  intro bs n;simp only[evS];rw[show n+d+1=(n+1)+d by omega,iha];cases evS e cb bs a (n+1) with
  |error _=>rfl|ok q=>
   simp only[shR,ihb];cases evS e cb bs b q.2 with
   |error _=>rfl|ok r=>
    simp only[];by_cases h:V4 q.1 r.1=true
    ·simp only[h,if_true];exact ihc bs r.2
    ·simp only[h,Bool.false_eq_true,if_false];exact ihf bs r.2
 |lett s a b iha ihb=>
  intro bs n;simp only[evS];rw[show n+d+1=(n+1)+d by omega,iha];cases evS e cb bs a (n+1) with
  |error _=>rfl|ok q=>simp only[shR];exact ihb _ _
 |call a iha=>
  intro bs n;simp only[evS];rw[show n+d+1=(n+1)+d by omega,iha];cases evS e cb bs a (n+1) with
  |error _=>rfl|ok q=>simp only[shR];exact Acb _ _ _ _
def Ef:Nat→Int
 |0=>3|l+1=>7+4*Ef l
theorem JN {l:Nat}{ins:Bool}{k:Kd}{x:X}(h:Ty l ins k x):x.cost≤Ef l:=by
 have pos:∀l,3≤Ef l:=by
  intro l
  induction l with
  |zero=>decide|succ l ih=>simp only[Ef];omega
 induction h with
 |leaf hl=>rw[Ej hl];have:=pos (by assumption);omega
 | @leaf2 l _ _ _ _ _ _ _ ha hb _ _ _ _=>simp only[X.cost,Ej ha,Ej hb];have:=pos l;omega
 | @bin l _ _ _ _ _ _ _ _ _ _ _ iha ihb=>simp only[X.cost,Ef];have:=pos l;omega
 | @ite l _ _ _ _ _ _ _ _ _ _ _ _ iha ihb ihc ihd=>simp only[X.cost,Ef];have:=pos l;omega
 | @lett l _ _ _ _ _ _ _ _ iha ihb=>simp only[X.cost,Ef];have:=pos l;omega
 | @neg l _ _ _ _ iha=>simp only[X.cost,Ef];have:=pos l;omega
 | @tab l _ _ _ a _ _ iha=>simp only[X.cost,Ef];have:=pos l;have:=AI a;omega
 | @lst l _ _ _ _ _ _ _ _ _ _ iha ihb ihc=>simp only[X.cost,Ef];have:=pos l;omega
 | @sum l _ _ n a _ _ h4 _ iha=>simp only[X.cost,Ef];have:=pos l;have:=AI a;have:(n:Int)*a.cost≤4*a.cost:=Int.mul_le_mul_of_nonneg_right (by omega) (by omega);omega
 | @elt l _ _ _ _ _ _ _ _ _ _ _ iha=>simp only[X.cost,Ef];have:=pos l;omega
 | @call l _ _ _ iha=>simp only[X.cost,Ef];have:=pos l;omega
 | @sq l _ _ _ iha=>simp only[X.cost,Ef];have:=pos l;omega
theorem NW {v:Vl}{er:Nat}(h:Cl v=.error er):er≠0:=by
 unfold Cl at h;split at h
 ·cases h
 ·cases h;decide
theorem KA {op:Nat}{u v:Vl}{er:Nat}(h:C6 op u v=.error er):er≠0:=by
 unfold C6 at h;by_cases hc:op=6∧(v.it.any fun q=>decide (q.1=0))=true
 ·rw[if_pos hc]at h;cases h;decide
 ·rw[if_neg hc]at h;exact NW h
theorem tot_er {l:List Vl}{er:Nat}(h:TA l=.error er):er≠0:=by
 unfold TA at h;split at h
 ·cases h;decide
 ·exact NW h
theorem Fu {r:Except Nat Vl}{n:Int}{er:Nat}(h:Eg r n=.error er):r=.error er:=by
 cases r with
 |error e=>simp only[Eg,Except.error.injEq]at h;rw[h]
 |ok w=>cases h
theorem Rg {f:Nat→Int→Rs}(hf:∀i n er,f i n=.error er→er≠0):∀(c i:Nat) (n:Int) {er:Nat},D8 f c i n=.error er→er≠0
 |0,_,_,_,h=>by cases h
 |c+1,i,n,er,h=>by
  simp only[D8]at h;cases h1:f i n with
  |error e=>rw[h1]at h;simp only[Except.error.injEq]at h;subst h;exact hf _ _ _ h1
  |ok q=>
   rw[h1]at h;simp only at h;cases h2:D8 f c (i+1) q.2 with
   |error e=>rw[h2]at h;simp only[Except.error.injEq]at h;subst h;exact Rg hf c _ _ h2
   |ok r=>rw[h2]at h;cases h
theorem Ac9 {cb:Option (Nat×Q)}{u:Vl}{n:Int}{er:Nat}(h:Jg cb u n=.error er):er≠0:=by
 match cb,h with
 |none,h=>
  unfold Jg at h;cases hc:C6 5 ⟨[],[(0,1)],.pl⟩ u with
  |error e=>rw[hc]at h;simp only[Except.error.injEq]at h;subst h;exact KA hc
  |ok w=>rw[hc]at h;exact KA (Fu h)
 |some (k,q),h=>
  unfold Jg at h;by_cases hl:V1 k u=true
  ·simp only[hl,if_true]at h;exact KA (Fu h)
  ·simp only[hl,Bool.false_eq_true,if_false]at h;cases h
theorem JF {e:En}{cb:Option (Nat×Q)} : ∀(x:X) (bs:Bs) (n:Int) (er:Nat),evS e cb bs x n=.error er→er≠0:=by
 intro x
 induction x with
 |lit p q r u=>intro bs n er h;cases h
 |ref s=>
  intro bs n er h;simp only[evS]at h;cases hf:FW bs s (e.nm s) with
  |none=>rw[hf]at h;simp only[Except.error.injEq]at h;subst h;decide
  |some v=>rw[hf]at h;cases h
 |bin op a b iha ihb=>
  intro bs n er hv;simp only[evS]at hv;cases h1:evS e cb bs a (n+1) with
  |error _=>rw[h1]at hv;simp only[Except.error.injEq]at hv;subst hv;exact iha _ _ _ h1
  |ok p=>
  rw[h1]at hv;simp only at hv;cases h2:evS e cb bs b p.2 with
  |error _=>rw[h2]at hv;simp only[Except.error.injEq]at hv;subst hv;exact ihb _ _ _ h2
  |ok q=>rw[h2]at hv;exact KA (Fu hv)
 |neg a iha=>
  intro bs n er hv;simp only[evS]at hv;cases h1:evS e cb bs a (n+1) with
  |error _=>rw[h1]at hv;simp only[Except.error.injEq]at hv;subst hv;exact iha _ _ _ h1
  |ok p=>rw[h1]at hv;exact KA (Fu hv)
 |sq a iha=>
  intro bs n er hv;simp only[evS]at hv;cases h1:evS e cb bs a (n+1) with
  |error _=>rw[h1]at hv;simp only[Except.error.injEq]at hv;subst hv;exact iha _ _ _ h1
  |ok p=>rw[h1]at hv;exact NW (Fu hv)
 |lst a b c iha ihb ihc=>
  intro bs n er hv;simp only[evS]at hv;cases h1:evS e cb bs a (n+1) with
  |error _=>rw[h1]at hv;simp only[Except.error.injEq]at hv;subst hv;exact iha _ _ _ h1
  |ok p=>
  rw[h1]at hv;simp only at hv;cases h2:evS e cb bs b p.2 with
  |error _=>rw[h2]at hv;simp only[Except.error.injEq]at hv;subst hv;exact ihb _ _ _ h2
  |ok q=>
  rw[h2]at hv;simp only at hv;cases h3:evS e cb bs c q.2 with
  |error _=>rw[h3]at hv;simp only[Except.error.injEq]at hv;subst hv;exact ihc _ _ _ h3
  |ok r=>rw[h3]at hv;cases hv
 | «at» a b iha ihb=>
  intro bs n er hv;simp only[evS]at hv;cases h1:evS e cb bs a (n+1) with
  |error _=>rw[h1]at hv;simp only[Except.error.injEq]at hv;subst hv;exact iha _ _ _ h1
  |ok p=>
  rw[h1]at hv;simp only at hv;cases h2:evS e cb bs b p.2 with
  |error _=>rw[h2]at hv;simp only[Except.error.injEq]at hv;subst hv;exact ihb _ _ _ h2
  |ok q=>
   rw[h2]at hv;have hv:=Fu hv;unfold SX at hv;split at hv
   ·cases hv
   ·cases hv;decide
 |tab c a iha=>
  intro bs n er hv;simp only[evS]at hv;cases h1:D8 (fun i n=>evS e cb (bs++[(nmI,Ih i)]) a n) c 0 (n+1) with
  |error _=>rw[h1]at hv;simp only[Except.error.injEq]at hv;subst hv;exact Rg (fun i n er h=>iha _ _ _ h) _ _ _ h1
  |ok p=>rw[h1]at hv;cases hv
 |sum c a iha=>
  intro bs n er hv;simp only[evS]at hv;cases h1:D8 (fun i n=>evS e cb (bs++[(nmI,Ih i)]) a n) c 0 (n+1) with
  |error _=>rw[h1]at hv;simp only[Except.error.injEq]at hv;subst hv;exact Rg (fun i n er h=>iha _ _ _ h) _ _ _ h1
  |ok p=>rw[h1]at hv;exact tot_er (Fu hv)
 |ite a b c d iha ihb ihc ihd=>
  intro bs n er hv;simp only[evS]at hv;cases h1:evS e cb bs a (n+1) with
  |error _=>rw[h1]at hv;simp only[Except.error.injEq]at hv;subst hv;exact iha _ _ _ h1
  |ok p=>
  rw[h1]at hv;simp only at hv;cases h2:evS e cb bs b p.2 with
  |error _=>rw[h2]at hv;simp only[Except.error.injEq]at hv;subst hv;exact ihb _ _ _ h2
  |ok q=>
  rw[h2]at hv;simp only at hv;by_cases hl:V4 p.1 q.1=true
  ·simp only[hl,if_true]at hv;exact ihc _ _ _ hv
  ·simp only[hl,Bool.false_eq_true,if_false]at hv;exact ihd _ _ _ hv
 |lett s a b iha ihb=>
  intro bs n er hv;simp only[evS]at hv;cases h1:evS e cb bs a (n+1) with
  |error _=>rw[h1]at hv;simp only[Except.error.injEq]at hv;subst hv;exact iha _ _ _ h1
  |ok p=>rw[h1]at hv;exact ihb _ _ _ hv
 |call a iha=>
  intro bs n er hv;simp only[evS]at hv;cases h1:evS e cb bs a (n+1) with
  |error _=>rw[h1]at hv;simp only[Except.error.injEq]at hv;subst hv;exact iha _ _ _ h1
  |ok p=>rw[h1]at hv;exact Ac9 hv
theorem bs0 {l:Nat}(h:l≤3):Gu [] l false:=⟨by simpa using h,trivial,nofun,nofun⟩
end Go.Ev
end
