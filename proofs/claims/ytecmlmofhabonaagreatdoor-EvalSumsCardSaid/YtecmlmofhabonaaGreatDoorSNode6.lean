/- What the evaluator of the program does at a node of an expression, told of whatever its arguments evaluate to. -/
import Derived.Test.YtecmlmofhabonaaGreatDoorSNode5
import Derived.Test.YtecmlmofhabonaaGreatDoorSGen4
noncomputable section
namespace Go.Ev
open Go Go.Ab Go.Nl Go.Nb Go.RowKit Go.Proofs Go.E4
set_option maxRecDepth 1000000
def dpF (k d:Nat):OF:=vq 84 [.agg [.sel k,.sel (k+1),.sel (k+2),.sel (k+3),.sel (k+4),.sel (k+5)]] (.ret (.int .i64 (.ofNat d)))
def d4:List Nat:=[1,2,3,4]
theorem AdH (l:List AV):([3,4,5,6].all fun op=>d4.all fun d0=>d4.all fun d1=>AP l [dpF 0 d0,dpF 6 d1] [] 84 [.agg [.int .i64 (.ofNat op),.str [],.str [],.str [],.int .i64 0,.psl [.sel 0,.sel 1,.sel 2,.sel 3,.sel 4,.sel 5,.sel 6,.sel 7,.sel 8,.sel 9,.sel 10,.sel 11] 2 none]] (.ret (.int .i64 (.ofNat ((max d0 d1)+1)))))=true:=by kernel_rfl
theorem AdP (l:List AV):(d4.all fun d0=>AP l [dpF 0 d0] [] 84 [.agg [.int .i64 2,.str [],.str [],.str [],.int .i64 0,.psl [.sel 0,.sel 1,.sel 2,.sel 3,.sel 4,.sel 5] 1 none]] (.ret (.int .i64 (.ofNat (d0+1)))))=true:=by kernel_rfl
theorem r_dpsq (l:List AV):(d4.all fun d0=>AP l [dpF 0 d0] [] 84 [.agg [.int .i64 7,.str [],.str [],.str [],.int .i64 2,.psl [.sel 0,.sel 1,.sel 2,.sel 3,.sel 4,.sel 5] 1 none]] (.ret (.int .i64 (.ofNat (d0+1)))))=true:=by kernel_rfl
theorem Ab7 (l:List AV):(d4.all fun d0=>d4.all fun d1=>d4.all fun d2=>AP l [dpF 0 d0,dpF 6 d1,dpF 12 d2] [] 84 [.agg [.int .i64 8,.str [],.str [],.str [],.int .i64 0,.psl [.sel 0,.sel 1,.sel 2,.sel 3,.sel 4,.sel 5,.sel 6,.sel 7,.sel 8,.sel 9,.sel 10,.sel 11,.sel 12,.sel 13,.sel 14,.sel 15,.sel 16,.sel 17] 3 none]] (.ret (.int .i64 (.ofNat ((max (max d0 d1) d2)+1)))))=true:=by kernel_rfl
theorem r_dpat (l:List AV):(d4.all fun d0=>d4.all fun d1=>AP l [dpF 0 d0,dpF 6 d1] [] 84 [.agg [.int .i64 9,.str [],.str [],.str [],.int .i64 0,.psl [.sel 0,.sel 1,.sel 2,.sel 3,.sel 4,.sel 5,.sel 6,.sel 7,.sel 8,.sel 9,.sel 10,.sel 11] 2 none]] (.ret (.int .i64 (.ofNat ((max d0 d1)+1)))))=true:=by kernel_rfl
theorem Adv (l:List AV):(d4.all fun d0=>d4.all fun d1=>d4.all fun d2=>d4.all fun d3=>AP l [dpF 0 d0,dpF 6 d1,dpF 12 d2,dpF 18 d3] [] 84 [.agg [.int .i64 12,.str [],.str [],.str [],.int .i64 0,.psl [.sel 0,.sel 1,.sel 2,.sel 3,.sel 4,.sel 5,.sel 6,.sel 7,.sel 8,.sel 9,.sel 10,.sel 11,.sel 12,.sel 13,.sel 14,.sel 15,.sel 16,.sel 17,.sel 18,.sel 19,.sel 20,.sel 21,.sel 22,.sel 23] 4 none]] (.ret (.int .i64 (.ofNat ((max (max (max d0 d1) d2) d3)+1)))))=true:=by kernel_rfl
theorem Aao (l:List AV):(C0.all fun s=>d4.all fun d0=>d4.all fun d1=>AP l [dpF 0 d0,dpF 6 d1] [] 84 [.agg [.int .i64 13,.str [],.str [],.str s,.int .i64 0,.psl [.sel 0,.sel 1,.sel 2,.sel 3,.sel 4,.sel 5,.sel 6,.sel 7,.sel 8,.sel 9,.sel 10,.sel 11] 2 none]] (.ret (.int .i64 (.ofNat ((max d0 d1)+1)))))=true:=by kernel_rfl
theorem ZG (l:List AV):(d4.all fun d0=>AP l [dpF 0 d0] [] 84 [.agg [.int .i64 14,.str [],.str [],.str nmF,.int .i64 0,.psl [.sel 0,.sel 1,.sel 2,.sel 3,.sel 4,.sel 5] 1 none]] (.ret (.int .i64 (.ofNat (d0+1)))))=true:=by kernel_rfl
theorem Ad8 (l:List AV):([1,2,3,4].all fun n=>d4.all fun d0=>AP l [dpF 0 d0] [] 84 [.agg [.int .i64 10,.str [],.str [],.str nmI,.int .i64 (.ofNat n),.psl [.sel 0,.sel 1,.sel 2,.sel 3,.sel 4,.sel 5] 1 none]] (.ret (.int .i64 (.ofNat (d0+1)))))=true:=by kernel_rfl
theorem AcU (l:List AV):([1,2,3,4].all fun n=>d4.all fun d0=>AP l [dpF 0 d0] [] 84 [.agg [.int .i64 11,.str [],.str [],.str nmI,.int .i64 (.ofNat n),.psl [.sel 0,.sel 1,.sel 2,.sel 3,.sel 4,.sel 5] 1 none]] (.ret (.int .i64 (.ofNat (d0+1)))))=true:=by kernel_rfl
theorem Ad2 (l:List AV):(UA.all fun s=>AP l [] [] 84 [.agg [.int .i64 1,.str [],.str [],.str s,.int .i64 0,.emp]] (.ret (.int .i64 1)))=true:=by kernel_rfl
theorem AcP (l:List AV):((List.range 5).all fun u=>AP l [] [] 84 [.agg [.int .i64 0,.sel 0,.sel 1,.str (LA u),.int .i64 0,.emp]] (.ret (.int .i64 1)))=true:=by kernel_rfl
theorem r_deep (l:List AV):([1,2,3,4,5].all fun d=>AP l [dpF 0 d] [] 50 [.agg [.sel 0,.sel 1,.sel 2,.sel 3,.sel 4,.sel 5]] (.ret (.bool false)))=true:=by kernel_rfl
end Go.Ev
namespace Go.Ev
open Go Go.Ab Go.Nl Go.Nb Go.RowKit Go.Proofs Go.E4 Go.Ro
set_option maxRecDepth 1000000
variable {d h:Int}{s:List Nat}{i n op:Nat}{a b c e x:X}
def Al (i:Nat):X→X
 |.ref s=>if s=nmI then On i 1 0 else .ref s
 |.lit p d q u=>.lit p d q u|.bin op a b=>.bin op (Al i a) (Al i b)|.neg a=>.neg (Al i a)|.sq a=>.sq (Al i a)|.lst a b c=>.lst (Al i a) (Al i b) (Al i c)|.at a b=>.at (Al i a) (Al i b)|.tab n a=>.tab n a|.sum n a=>.sum n a|.ite a b c d=>.ite (Al i a) (Al i b) (Al i c) (Al i d)|.lett s a b=>.lett s (Al i a) (Al i b)|.call a=>.call (Al i a)
theorem WJ (s:Sh h x)(hi:i<10):Sh h (Al i x):=by
 induction s with
 |lit h0 h1 h2 h3 h4 h5=>exact .lit h0 h1 h2 h3 h4 h5| @ref h s h0 hs=>
  unfold Al;by_cases e:s=nmI
  ·rw[if_pos e];exact .lit h0 hi (by decide) (by decide) (Nat.gcd_one_right _) (by decide)
  ·rw[if_neg e];exact .ref h0 hs
 | @bin h op a b ho hk _ _ ia ib=>
  refine .bin ho (fun e=>?_) ia ib;have:=hk e;cases a with
  |ref s=>
   show noKm (if s=nmI then On i 1 0 else .ref s);split
   ·show(0:Nat)≠2;decide
   ·trivial
  |lit p d q u=>exact this|_=>trivial
 |neg _ ia=>exact .neg ia|sq _ ia=>exact .sq ia|lst _ _ _ ia ib ic=>exact .lst ia ib ic|elt _ _ ia ib=>exact .elt ia ib|tab hn sa _=>exact .tab hn sa|sum hn sa _=>exact .sum hn sa|ite _ _ _ _ ia ib ic id=>exact .ite ia ib ic id|lett hs _ _ ia ib=>exact .lett hs ia ib|call _ ia=>exact .call ia
def Rp (i:Nat)(x:X):Prop:=VF 48 [x.av,.str nmI,smA i,.emp] (.ret (.tup [(Al i x).av,.bool true]))
theorem rp_bin (hi:i<4)(ho:op∈[3,4,5,6])(ha:Rp i a)(hb:Rp i b):Rp i (.bin op a b):=
 Am (l:=[a.c0,a.c1,a.c2,a.c3,a.c4,a.c5,b.c0,b.c1,b.c2,b.c3,b.c4,b.c5,(Al i a).c0,(Al i a).c1,(Al i a).c2,(Al i a).c3,(Al i a).c4,(Al i a).c5,(Al i b).c0,(Al i b).c1,(Al i b).c2,(Al i b).c3,(Al i b).c4,(Al i b).c5]) (px a<|px b<|px (Al i a)<|px (Al i b)<|rfl) (zB.1 (zB.1 (AdT _) i (zQ.2 hi)) _ ho) (Aa ha<|Aa hb<|Ac) Ac rfl rfl
theorem rp_neg (hi:i<4)(ha:Rp i a):Rp i (.neg a):=
 Am (l:=[a.c0,a.c1,a.c2,a.c3,a.c4,a.c5,(Al i a).c0,(Al i a).c1,(Al i a).c2,(Al i a).c3,(Al i a).c4,(Al i a).c5]) (px a<|px (Al i a)<|rfl) (zB.1 (Aeo _) i (zQ.2 hi)) (Aa ha<|Ac) Ac rfl rfl
theorem rp_sq (hi:i<4)(ha:Rp i a):Rp i (.sq a):=
 Am (l:=[a.c0,a.c1,a.c2,a.c3,a.c4,a.c5,(Al i a).c0,(Al i a).c1,(Al i a).c2,(Al i a).c3,(Al i a).c4,(Al i a).c5]) (px a<|px (Al i a)<|rfl) (zB.1 (r_rpsq _) i (zQ.2 hi)) (Aa ha<|Ac) Ac rfl rfl
theorem rp_lst (hi:i<4)(ha:Rp i a)(hb:Rp i b)(hc:Rp i c):Rp i (.lst a b c):=
 Am (l:=[a.c0,a.c1,a.c2,a.c3,a.c4,a.c5,b.c0,b.c1,b.c2,b.c3,b.c4,b.c5,c.c0,c.c1,c.c2,c.c3,c.c4,c.c5,(Al i a).c0,(Al i a).c1,(Al i a).c2,(Al i a).c3,(Al i a).c4,(Al i a).c5,(Al i b).c0,(Al i b).c1,(Al i b).c2,(Al i b).c3,(Al i b).c4,(Al i b).c5,(Al i c).c0,(Al i c).c1,(Al i c).c2,(Al i c).c3,(Al i c).c4,(Al i c).c5]) (px a<|px b<|px c<|px (Al i a)<|px (Al i b)<|px (Al i c)<|rfl) (zB.1 (Ads _) i (zQ.2 hi)) (Aa ha<|Aa hb<|Aa hc<|Ac) Ac rfl rfl
theorem rp_at (hi:i<4)(ha:Rp i a)(hb:Rp i b):Rp i (.at a b):=
 Am (l:=[a.c0,a.c1,a.c2,a.c3,a.c4,a.c5,b.c0,b.c1,b.c2,b.c3,b.c4,b.c5,(Al i a).c0,(Al i a).c1,(Al i a).c2,(Al i a).c3,(Al i a).c4,(Al i a).c5,(Al i b).c0,(Al i b).c1,(Al i b).c2,(Al i b).c3,(Al i b).c4,(Al i b).c5]) (px a<|px b<|px (Al i a)<|px (Al i b)<|rfl) (zB.1 (r_rpat _) i (zQ.2 hi)) (Aa ha<|Aa hb<|Ac) Ac rfl rfl
theorem rp_ite (hi:i<4)(ha:Rp i a)(hb:Rp i b)(hc:Rp i c)(he:Rp i e):Rp i (.ite a b c e):=
 Am (l:=[a.c0,a.c1,a.c2,a.c3,a.c4,a.c5,b.c0,b.c1,b.c2,b.c3,b.c4,b.c5,c.c0,c.c1,c.c2,c.c3,c.c4,c.c5,e.c0,e.c1,e.c2,e.c3,e.c4,e.c5,(Al i a).c0,(Al i a).c1,(Al i a).c2,(Al i a).c3,(Al i a).c4,(Al i a).c5,(Al i b).c0,(Al i b).c1,(Al i b).c2,(Al i b).c3,(Al i b).c4,(Al i b).c5,(Al i c).c0,(Al i c).c1,(Al i c).c2,(Al i c).c3,(Al i c).c4,(Al i c).c5,(Al i e).c0,(Al i e).c1,(Al i e).c2,(Al i e).c3,(Al i e).c4,(Al i e).c5]) (px a<|px b<|px c<|px e<|px (Al i a)<|px (Al i b)<|px (Al i c)<|px (Al i e)<|rfl) (zB.1 (Ab9 _) i (zQ.2 hi)) (Aa ha<|Aa hb<|Aa hc<|Aa he<|Ac) Ac rfl rfl
theorem AdW (hi:i<4)(hs:s∈C0)(ha:Rp i a)(hb:Rp i b):Rp i (.lett s a b):=
 Am (l:=[a.c0,a.c1,a.c2,a.c3,a.c4,a.c5,b.c0,b.c1,b.c2,b.c3,b.c4,b.c5,(Al i a).c0,(Al i a).c1,(Al i a).c2,(Al i a).c3,(Al i a).c4,(Al i a).c5,(Al i b).c0,(Al i b).c1,(Al i b).c2,(Al i b).c3,(Al i b).c4,(Al i b).c5]) (px a<|px b<|px (Al i a)<|px (Al i b)<|rfl) (zB.1 (zB.1 (AbK _) i (zQ.2 hi)) _ hs) (Aa ha<|Aa hb<|Ac) Ac rfl rfl
theorem Ad9 (hi:i<4)(ha:Rp i a):Rp i (.call a):=
 Am (l:=[a.c0,a.c1,a.c2,a.c3,a.c4,a.c5,(Al i a).c0,(Al i a).c1,(Al i a).c2,(Al i a).c3,(Al i a).c4,(Al i a).c5]) (px a<|px (Al i a)<|rfl) (zB.1 (ZH _) i (zQ.2 hi)) (Aa ha<|Ac) Ac rfl rfl
theorem rp_tab (hi:i<4)(hn:n∈[1,2,3,4])(a:X):Rp i (.tab n a):=
 Am (l:=[a.c0,a.c1,a.c2,a.c3,a.c4,a.c5]) (px a rfl) (zB.1 (zB.1 (AcR _) i (zQ.2 hi)) _ hn) Ac Ac rfl rfl
theorem rp_sum (hi:i<4)(hn:n∈[1,2,3,4])(a:X):Rp i (.sum n a):=
 Am (l:=[a.c0,a.c1,a.c2,a.c3,a.c4,a.c5]) (px a rfl) (zB.1 (zB.1 (Ab6 _) i (zQ.2 hi)) _ hn) Ac Ac rfl rfl
theorem rp_ok (s:Sh h x)(hi:i<4):Rp i x:=by
 induction s with
 | @lit h a b u h0 h1 h2 h3 h4 h5=>exact Am (l:=[.str [48+a],.str [48+b]]) (ps _<|ps _ rfl) (zB.1 (zB.1 (Ade _) i (zQ.2 hi)) u (zQ.2 h5)) Ac Ac rfl rfl| @ref h s h0 hs=>
  have:=Am (l:=[]) rfl (zB.1 (zB.1 (Aek []) i (zQ.2 hi)) s hs) Ac Ac rfl rfl;unfold Rp Al;by_cases e:s=nmI
  ·rw[if_pos e];subst e;exact this
  ·rw[if_neg e];rw[show(s==nmI)=false from by simpa using e]at this;exact this
 |bin ho _ _ _ ia ib=>exact rp_bin hi ho ia ib|neg _ ia=>exact rp_neg hi ia|sq _ ia=>exact rp_sq hi ia|lst _ _ _ ia ib ic=>exact rp_lst hi ia ib ic|elt _ _ ia ib=>exact rp_at hi ia ib|tab hn _ _=>exact rp_tab hi hn _|sum hn _ _=>exact rp_sum hi hn _|ite _ _ _ _ ia ib ic id=>exact rp_ite hi ia ib ic id|lett hs _ _ ia ib=>exact AdW hi hs ia ib|call _ ia=>exact Ad9 hi ia
def Ck (d:Int)(x:X):Prop:=VF 77 [x.av,.int .i64 d] (.ret (.int .i64 0))
theorem lit_ck {a b:Nat}(ha:a<10)(h0:0<b)(h6:b<6)(hg:Nat.gcd a b=1):VF 62 [.agg [.str [48+a],.str [48+b]]] (.ret (.int .i64 0))∧VF 21 [.agg [.str [48+a],.str [48+b]],J9] (.ret (.bool false)):=by
 have key:∀{p:Bool},(!Nat.beq (Nat.gcd a b) 1||p)=true→p=true:=fun h=>by rw[hg]at h;simpa using h
 have hm:=zQ.2 ha;have:b=1∨b=2∨b=3∨b=4∨b=5:=by omega
 rcases this with rfl|rfl|rfl|rfl|rfl
 ·exact⟨Am (l:=[]) rfl (key (zB.1 (Adi []) a hm)) Ac Ac rfl rfl,Am (l:=[]) rfl (key (zB.1 (Acw []) a hm)) Ac Ac rfl rfl⟩
 ·exact⟨Am (l:=[]) rfl (key (zB.1 (AcZ []) a hm)) Ac Ac rfl rfl,Am (l:=[]) rfl (key (zB.1 (AdE []) a hm)) Ac Ac rfl rfl⟩
 ·exact⟨Am (l:=[]) rfl (key (zB.1 (AeI []) a hm)) Ac Ac rfl rfl,Am (l:=[]) rfl (key (zB.1 (Adw []) a hm)) Ac Ac rfl rfl⟩
 ·exact⟨Am (l:=[]) rfl (key (zB.1 (AdK []) a hm)) Ac Ac rfl rfl,Am (l:=[]) rfl (key (zB.1 (AcX []) a hm)) Ac Ac rfl rfl⟩
 ·exact⟨Am (l:=[]) rfl (key (zB.1 (Ad0 []) a hm)) Ac Ac rfl rfl,Am (l:=[]) rfl (key (zB.1 (Aew []) a hm)) Ac Ac rfl rfl⟩
theorem ck_bin (h0:0≤d)(h1:d<30)(ho:op∈[3,4,5,6])(ha:Ck (d+1) a)(hb:Ck (d+1) b):Ck d (.bin op a b):=
 Am (l:=[.int .i64 d,.int .i64 (d+1),a.c0,a.c1,a.c2,a.c3,a.c4,a.c5,b.c0,b.c1,b.c2,b.c3,b.c4,b.c5]) (pi _<|pi _<|px a<|px b<|rfl) (zB.1 (Aer _) _ ho) (Aa ha<|Aa hb<|Ac) (Bj h0 h1) rfl rfl
theorem ck_neg (h0:0≤d)(h1:d<30)(ha:Ck (d+1) a):Ck d (.neg a):=
 Am (l:=[.int .i64 d,.int .i64 (d+1),a.c0,a.c1,a.c2,a.c3,a.c4,a.c5]) (pi _<|pi _<|px a<|rfl) (AcH _) (Aa ha<|Ac) (Bj h0 h1) rfl rfl
theorem ck_sq (h0:0≤d)(h1:d<30)(ha:Ck (d+1) a):Ck d (.sq a):=
 Am (l:=[.int .i64 d,.int .i64 (d+1),a.c0,a.c1,a.c2,a.c3,a.c4,a.c5]) (pi _<|pi _<|px a<|rfl) (r_cksq _) (Aa ha<|Ac) (Bj h0 h1) rfl rfl
theorem ck_lst (h0:0≤d)(h1:d<30)(ha:Ck (d+1) a)(hb:Ck (d+1) b)(hc:Ck (d+1) c):Ck d (.lst a b c):=
 Am (l:=[.int .i64 d,.int .i64 (d+1),a.c0,a.c1,a.c2,a.c3,a.c4,a.c5,b.c0,b.c1,b.c2,b.c3,b.c4,b.c5,c.c0,c.c1,c.c2,c.c3,c.c4,c.c5]) (pi _<|pi _<|px a<|px b<|px c<|rfl) (Ab0 _) (Aa ha<|Aa hb<|Aa hc<|Ac) (Bj h0 h1) rfl rfl
theorem ck_at (h0:0≤d)(h1:d<30)(ha:Ck (d+1) a)(hb:Ck (d+1) b):Ck d (.at a b):=
 Am (l:=[.int .i64 d,.int .i64 (d+1),a.c0,a.c1,a.c2,a.c3,a.c4,a.c5,b.c0,b.c1,b.c2,b.c3,b.c4,b.c5]) (pi _<|pi _<|px a<|px b<|rfl) (r_ckat _) (Aa ha<|Aa hb<|Ac) (Bj h0 h1) rfl rfl
theorem ck_tab (h0:0≤d)(h1:d<30)(ho:n∈[1,2,3,4])(ha:Ck (d+1) a):Ck d (.tab n a):=
 Am (l:=[.int .i64 d,.int .i64 (d+1),a.c0,a.c1,a.c2,a.c3,a.c4,a.c5]) (pi _<|pi _<|px a<|rfl) (zB.1 (AdV _) _ ho) (Aa ha<|Ac) (Bj h0 h1) rfl rfl
theorem ck_sum (h0:0≤d)(h1:d<30)(ho:n∈[1,2,3,4])(ha:Ck (d+1) a):Ck d (.sum n a):=
 Am (l:=[.int .i64 d,.int .i64 (d+1),a.c0,a.c1,a.c2,a.c3,a.c4,a.c5]) (pi _<|pi _<|px a<|rfl) (zB.1 (AdU _) _ ho) (Aa ha<|Ac) (Bj h0 h1) rfl rfl
theorem ck_ite (h0:0≤d)(h1:d<30)(ha:Ck (d+1) a)(hb:Ck (d+1) b)(hc:Ck (d+1) c)(he:Ck (d+1) e):Ck d (.ite a b c e):=
 Am (l:=[.int .i64 d,.int .i64 (d+1),a.c0,a.c1,a.c2,a.c3,a.c4,a.c5,b.c0,b.c1,b.c2,b.c3,b.c4,b.c5,c.c0,c.c1,c.c2,c.c3,c.c4,c.c5,e.c0,e.c1,e.c2,e.c3,e.c4,e.c5]) (pi _<|pi _<|px a<|px b<|px c<|px e<|rfl) (AcT _) (Aa ha<|Aa hb<|Aa hc<|Aa he<|Ac) (Bj h0 h1) rfl rfl
theorem Aey (h0:0≤d)(h1:d<30)(ho:s∈C0)(ha:Ck (d+1) a)(hb:Ck (d+1) b):Ck d (.lett s a b):=
 Am (l:=[.int .i64 d,.int .i64 (d+1),a.c0,a.c1,a.c2,a.c3,a.c4,a.c5,b.c0,b.c1,b.c2,b.c3,b.c4,b.c5]) (pi _<|pi _<|px a<|px b<|rfl) (zB.1 (AaQ _) _ ho) (Aa ha<|Aa hb<|Ac) (Bj h0 h1) rfl rfl
theorem Acm (h0:0≤d)(h1:d<30)(ha:Ck (d+1) a):Ck d (.call a):=
 Am (l:=[.int .i64 d,.int .i64 (d+1),a.c0,a.c1,a.c2,a.c3,a.c4,a.c5]) (pi _<|pi _<|px a<|rfl) (YV _) (Aa ha<|Ac) (Bj h0 h1) rfl rfl
theorem ck_ok (s:Sh h x):∀d,0≤d→d+h≤29→Ck d x:=by
 induction s with
 | @lit h a b u h0 h1 h2 h3 h4 h5=>intro d g1 g2;obtain⟨k1,k2⟩:=lit_ck h1 h2 h3 h4;exact Am (l:=[.int .i64 d,.int .i64 (d+1),.str [48+a],.str [48+b]]) (pi _<|pi _<|ps _<|ps _ rfl) (zB.1 (Acg _) u (zQ.2 h5)) (Aa k1<|Aa k2<|Aa (Am (l:=[]) rfl (r_of01 []) Ac Ac rfl rfl) Ac) (Bj g1 (by omega)) rfl rfl
 | @ref h s h0 hs=>exact fun d g1 g2=>Am (l:=[.int .i64 d,.int .i64 (d+1)]) (pi _<|pi _ rfl) (zB.1 (Ac3 _) s hs) Ac (Bj g1 (by omega)) rfl rfl
 |bin ho _ sa _ ia ib=>have:=sa.Cw;exact fun d g1 g2=>ck_bin g1 (by omega) ho (ia _ (by omega) (by omega)) (ib _ (by omega) (by omega))
 |neg sa ia=>have:=sa.Cw;exact fun d g1 g2=>ck_neg g1 (by omega) (ia _ (by omega) (by omega))
 |sq sa ia=>have:=sa.Cw;exact fun d g1 g2=>ck_sq g1 (by omega) (ia _ (by omega) (by omega))
 |lst sa _ _ ia ib ic=>have:=sa.Cw;exact fun d g1 g2=>ck_lst g1 (by omega) (ia _ (by omega) (by omega)) (ib _ (by omega) (by omega)) (ic _ (by omega) (by omega))
 |elt sa _ ia ib=>have:=sa.Cw;exact fun d g1 g2=>ck_at g1 (by omega) (ia _ (by omega) (by omega)) (ib _ (by omega) (by omega))
 |tab hn sa ia=>have:=sa.Cw;exact fun d g1 g2=>ck_tab g1 (by omega) hn (ia _ (by omega) (by omega))
 |sum hn sa ia=>have:=sa.Cw;exact fun d g1 g2=>ck_sum g1 (by omega) hn (ia _ (by omega) (by omega))
 |ite sa _ _ _ ia ib ic id=>have:=sa.Cw;exact fun d g1 g2=>ck_ite g1 (by omega) (ia _ (by omega) (by omega)) (ib _ (by omega) (by omega)) (ic _ (by omega) (by omega)) (id _ (by omega) (by omega))
 |lett hs sa _ ia ib=>have:=sa.Cw;exact fun d g1 g2=>Aey g1 (by omega) hs (ia _ (by omega) (by omega)) (ib _ (by omega) (by omega))
 |call sa ia=>have:=sa.Cw;exact fun d g1 g2=>Acm g1 (by omega) (ia _ (by omega) (by omega))
theorem Pu (hh:h≤29)(s:Sh h x):VF 46 [x.av] (.ret (.int .i64 0)):=
 Am (l:=[x.c0,x.c1,x.c2,x.c3,x.c4,x.c5]) (px x rfl) (Yv _) (Aa (ck_ok s 0 (by decide) (by omega)) Ac) Ac rfl rfl
def dep:X→Nat
 |.lit .. | .ref _=>1|.bin _ a b|.at a b|.lett _ a b=>max (dep a) (dep b)+1|.neg a|.sq a|.tab _ a|.sum _ a|.call a=>dep a+1|.lst a b c=>max (max (dep a) (dep b)) (dep c)+1|.ite a b c d=>max (max (max (dep a) (dep b)) (dep c)) (dep d)+1
theorem ZF (s:Sh h x):(dep x:Int)≤h+1∧1≤dep x:=by
 induction s<;>simp only[dep,On]<;>omega
def Dp (x:X):Prop:=VF 84 [x.av] (.ret (.int .i64 (.ofNat (dep x))))
theorem CX (s:Sh h x)(hh:h≤3):dep x∈d4:=by
 have:=ZF s;have:dep x=1∨dep x=2∨dep x=3∨dep x=4:=by omega
 simpa[d4]using this
theorem dp_bin (ho:op∈[3,4,5,6])(ha:Dp a)(da:dep a∈d4)(hb:Dp b)(db:dep b∈d4):Dp (.bin op a b):=
 Am (l:=[a.c0,a.c1,a.c2,a.c3,a.c4,a.c5,b.c0,b.c1,b.c2,b.c3,b.c4,b.c5]) (px a<|px b<|rfl) (zB.1 (zB.1 (zB.1 (AdH _) _ ho) _ da) _ db) (Aa ha<|Aa hb<|Ac) Ac rfl rfl
theorem dp_neg (ha:Dp a)(da:dep a∈d4):Dp (.neg a):=
 Am (l:=[a.c0,a.c1,a.c2,a.c3,a.c4,a.c5]) (px a<|rfl) (zB.1 (AdP _) _ da) (Aa ha<|Ac) Ac rfl rfl
theorem dp_sq (ha:Dp a)(da:dep a∈d4):Dp (.sq a):=
 Am (l:=[a.c0,a.c1,a.c2,a.c3,a.c4,a.c5]) (px a<|rfl) (zB.1 (r_dpsq _) _ da) (Aa ha<|Ac) Ac rfl rfl
theorem dp_lst (ha:Dp a)(da:dep a∈d4)(hb:Dp b)(db:dep b∈d4)(hc:Dp c)(dc:dep c∈d4):Dp (.lst a b c):=
 Am (l:=[a.c0,a.c1,a.c2,a.c3,a.c4,a.c5,b.c0,b.c1,b.c2,b.c3,b.c4,b.c5,c.c0,c.c1,c.c2,c.c3,c.c4,c.c5]) (px a<|px b<|px c<|rfl) (zB.1 (zB.1 (zB.1 (Ab7 _) _ da) _ db) _ dc) (Aa ha<|Aa hb<|Aa hc<|Ac) Ac rfl rfl
theorem dp_at (ha:Dp a)(da:dep a∈d4)(hb:Dp b)(db:dep b∈d4):Dp (.at a b):=
 Am (l:=[a.c0,a.c1,a.c2,a.c3,a.c4,a.c5,b.c0,b.c1,b.c2,b.c3,b.c4,b.c5]) (px a<|px b<|rfl) (zB.1 (zB.1 (r_dpat _) _ da) _ db) (Aa ha<|Aa hb<|Ac) Ac rfl rfl
theorem dp_tab (ho:n∈[1,2,3,4])(ha:Dp a)(da:dep a∈d4):Dp (.tab n a):=
 Am (l:=[a.c0,a.c1,a.c2,a.c3,a.c4,a.c5]) (px a<|rfl) (zB.1 (zB.1 (Ad8 _) _ ho) _ da) (Aa ha<|Ac) Ac rfl rfl
theorem dp_sum (ho:n∈[1,2,3,4])(ha:Dp a)(da:dep a∈d4):Dp (.sum n a):=
 Am (l:=[a.c0,a.c1,a.c2,a.c3,a.c4,a.c5]) (px a<|rfl) (zB.1 (zB.1 (AcU _) _ ho) _ da) (Aa ha<|Ac) Ac rfl rfl
theorem dp_ite (ha:Dp a)(da:dep a∈d4)(hb:Dp b)(db:dep b∈d4)(hc:Dp c)(dc:dep c∈d4)(he:Dp e)(de:dep e∈d4):Dp (.ite a b c e):=
 Am (l:=[a.c0,a.c1,a.c2,a.c3,a.c4,a.c5,b.c0,b.c1,b.c2,b.c3,b.c4,b.c5,c.c0,c.c1,c.c2,c.c3,c.c4,c.c5,e.c0,e.c1,e.c2,e.c3,e.c4,e.c5]) (px a<|px b<|px c<|px e<|rfl) (zB.1 (zB.1 (zB.1 (zB.1 (Adv _) _ da) _ db) _ dc) _ de) (Aa ha<|Aa hb<|Aa hc<|Aa he<|Ac) Ac rfl rfl
theorem AbL (ho:s∈C0)(ha:Dp a)(da:dep a∈d4)(hb:Dp b)(db:dep b∈d4):Dp (.lett s a b):=
 Am (l:=[a.c0,a.c1,a.c2,a.c3,a.c4,a.c5,b.c0,b.c1,b.c2,b.c3,b.c4,b.c5]) (px a<|px b<|rfl) (zB.1 (zB.1 (zB.1 (Aao _) _ ho) _ da) _ db) (Aa ha<|Aa hb<|Ac) Ac rfl rfl
theorem AbV (ha:Dp a)(da:dep a∈d4):Dp (.call a):=
 Am (l:=[a.c0,a.c1,a.c2,a.c3,a.c4,a.c5]) (px a<|rfl) (zB.1 (ZG _) _ da) (Aa ha<|Ac) Ac rfl rfl
theorem dp_ok (s:Sh h x)(hh:h≤3):Dp x:=by
 induction s with
 | @lit h a b u h0 h1 h2 h3 h4 h5=>exact Am (l:=[.str [48+a],.str [48+b]]) (ps _<|ps _ rfl) (zB.1 (AcP _) u (zQ.2 h5)) Ac Ac rfl rfl| @ref h s h0 hs=>exact Am (l:=[]) rfl (zB.1 (Ad2 _) s hs) Ac Ac rfl rfl|bin ho _ sa sb ia ib=>exact dp_bin ho (ia (by omega)) (CX sa (by omega)) (ib (by omega)) (CX sb (by omega))
 |neg sa ia=>exact dp_neg (ia (by omega)) (CX sa (by omega))
 |sq sa ia=>exact dp_sq (ia (by omega)) (CX sa (by omega))
 |lst sa sb sc ia ib ic=>exact dp_lst (ia (by omega)) (CX sa (by omega)) (ib (by omega)) (CX sb (by omega)) (ic (by omega)) (CX sc (by omega))
 |elt sa sb ia ib=>exact dp_at (ia (by omega)) (CX sa (by omega)) (ib (by omega)) (CX sb (by omega))
 |tab hn sa ia=>exact dp_tab hn (ia (by omega)) (CX sa (by omega))
 |sum hn sa ia=>exact dp_sum hn (ia (by omega)) (CX sa (by omega))
 |ite sa sb sc sd ia ib ic id=>exact dp_ite (ia (by omega)) (CX sa (by omega)) (ib (by omega)) (CX sb (by omega)) (ic (by omega)) (CX sc (by omega)) (id (by omega)) (CX sd (by omega))
 |lett hs sa sb ia ib=>exact AbL hs (ia (by omega)) (CX sa (by omega)) (ib (by omega)) (CX sb (by omega))
 |call sa ia=>exact AbV (ia (by omega)) (CX sa (by omega))
theorem Uw (s:Sh 3 x)(hi:i<4):VF 15 [x.av,.str nmI,smA i] (.ret (.tup [(Al i x).av,.int .i64 0])):=by
 have sr:=WJ s (i:=i) (by omega);have hd:=ZF sr;have h5:dep (Al i x)∈[1,2,3,4,5]:=by
  have:dep (Al i x)=1∨dep (Al i x)=2∨dep (Al i x)=3∨dep (Al i x)=4∨dep (Al i x)=5:=by omega
  simpa using this
 have deep:VF 50 [(Al i x).av] (.ret (.bool false)):=Am (l:=[(Al i x).c0,(Al i x).c1,(Al i x).c2,(Al i x).c3,(Al i x).c4,(Al i x).c5]) (px _ rfl) (zB.1 (r_deep _) _ h5) (Aa (dp_ok sr (by decide)) Ac) Ac rfl rfl;have hl:VF 46 [smA i] (.ret (.int .i64 0)):=Pu (h:=0) (by decide) (Sh.lit (a:=i) (b:=1) (u:=0) (by decide) (by omega) (by decide) (by decide) (Nat.gcd_one_right _) (by decide));exact Am (l:=[x.c0,x.c1,x.c2,x.c3,x.c4,x.c5,(Al i x).c0,(Al i x).c1,(Al i x).c2,(Al i x).c3,(Al i x).c4,(Al i x).c5]) (px x<|px (Al i x) rfl) (zB.1 (XE _) i (zQ.2 hi))
  (Aa (Pu (by decide) s)<|Aa hl<|Aa (rp_ok s hi)<|Aa deep Ac) Ac rfl rfl
end Go.Ev
end
