/- Limbs of numbers: sums, differences, products and quotients of any length below the bounds that each statement bears; no condition but these. -/
import Derived.Test.YtecmlmofhabonaaGreatDoorIWords
import Derived.Test.YtecmlmofhabonaaGreatDoorProg
import Derived.WalkKit
import Derived.BigQuiet
import Derived.Lib.Hide
import Derived.Maps.AppendAt
import Derived.StillTailTactics
import Derived.Lib.SliceRun
import Derived.Deep.DeepCutAuto
import Derived.Deep.CutBlock
noncomputable section
namespace Go.Nl
open Go Go.Proofs Go.RowKit
def Jf (w:World)(Ok:Nat→Prop)(ds:List Nat)(b o:Nat):Prop:=
 Ok b∧b<w.heap.size∧∀i,i<ds.length→w.cell? ⟨b,o+i,none⟩=some (.int .u32 (ds.getD i 0:Nat))
def Sl (w:World)(Ok:Nat→Prop)(ds:List Nat)(v:Value):Prop:=
 (∃cap base,v=.slice base 0 cap∧ds=[])∨∃b o cap,v=.slice (some ⟨b,o,none⟩) ds.length cap∧ds.length≤cap∧ds≠[]∧Jf w Ok ds b o
def Br (w:World)(Ok:Nat→Prop)(ds:List Nat)(v:Value):Prop:=
 (v=.slice none 0 0∧ds=[])∨∃b o,v=.slice (some ⟨b,o,none⟩) ds.length ds.length∧ds≠[]∧Jf w Ok ds b o
structure Norm (s:Int)(ds:List Nat):Prop where
 lt:∀d∈ds,d<1000000000
 last:ds.getLast?≠some 0
 len:ds.length<1000
 sign:(s=0∧ds=[])∨(s=1∧ds≠[])∨(s = -1∧ds≠[])
def Ib (w:World)(Ok:Nat→Prop)(s:Int)(ds:List Nat)(v:Value):Prop:=
 ∃l,v=.agg #[.int .i64 s,l]∧Br w Ok ds l
theorem Jf.mono {w w':World}{Ok Ok':Nat→Prop}{ds:List Nat}{b o:Nat}(h:Jf w Ok ds b o)(ho:∀b,Ok b→Ok' b)(hb:Below w.heap.size w w'):Jf w' Ok' ds b o:=
 ⟨ho _ h.1,by have:=hb.size;have:=h.2.1;omega,fun i hi=>by rw[hb.cell (p:=⟨b,o+i,none⟩) h.2.1];exact h.2.2 i hi⟩
def trim:List Nat→List Nat
 |[]=>[]|d::ds=>match trim ds with
  |[]=>if d=0 then[] else[d]
  |t=>d::t
theorem Pq:∀(ds:List Nat) (k:Nat),k<ds.length→ds.getD k 0=0→trim (ds.take (k+1))=trim (ds.take k)
 |[],k,h,_=>by simp at h
 |d::ds,0,_,h0=>by simp only[List.getD_cons_zero]at h0;subst h0;simp[trim]
 |d::ds,k+1,h,h0=>by have ih:=Pq ds k (by simpa using h) (by simpa using h0);simp only[List.take_succ_cons,trim];rw[ih]
theorem Gs:∀(ds:List Nat) (k:Nat),k<ds.length→ds.getD k 0≠0→trim (ds.take (k+1))=ds.take (k+1)
 |[],k,h,_=>by simp at h
 |d::ds,0,_,h0=>by simp only[List.getD_cons_zero]at h0;simp[trim,h0]
 |d::ds,k+1,h,h0=>by
  have ih:=Gs ds k (by simpa using h) (by simpa using h0);simp only[List.take_succ_cons,trim];rw[ih];cases h':ds.take (k+1) with
  |nil=>
   have:(ds.take (k+1)).length=0:=by rw[h'];rfl
   rw[List.length_take]at this;simp at h;omega
  |cons a l=>rfl
def Hz (Ok:Nat→Prop)(s:Int)(ds:List Nat)(w:World)(e:Ending)(w':World):Prop:=
 ∃r,e=.returned r∧Ib w' Ok (if trim ds=[] then 0 else s) (trim ds) r∧Below w.heap.size w w'
theorem PD (Ok:Nat→Prop)(s:Int)(ds:List Nat){w w':World}(h:trim ds=[])(hb:Below w.heap.size w w'):Hz Ok s ds w (.returned (.agg #[.int .i64 0,.slice none 0 0])) w':=
 ⟨_,rfl,⟨_,by rw[if_pos h],.inl ⟨rfl,h⟩⟩,hb⟩
theorem Xb (Ok:Nat→Prop)(s:Int)(ds:List Nat)(b o k:Nat){w w':World}(hk:k≤ds.length)(h0:0<k)(h:trim ds=ds.take k)(hr:Jf w' Ok ds b o)(hb:Below w.heap.size w w') :
 Hz Ok s ds w (.returned (.agg #[.int .i64 s,.slice (some ⟨b,o,none⟩) k k])) w':=by
 have hl:(ds.take k).length=k:=by rw[List.length_take];omega
 have hne:trim ds≠[]:=by intro e;rw[h]at e;rw[e]at hl;simp at hl;omega
 refine⟨_,rfl,⟨_,by rw[if_neg hne],.inr ⟨b,o,by rw[h,hl],hne,hr.1,hr.2.1,fun i hi=>?_⟩⟩,hb⟩;rw[h,hl]at hi;rw[hr.2.2 i (by omega),h,List.getD,List.getD,List.getElem?_take,if_pos hi]
set_option maxRecDepth 100000 in
theorem Zj (Ok:Nat→Prop)(s:Int)(cap:Nat)(base:Option Addr)(w:World):Calls Tryz.prog 257 #[.int .i64 s,.slice base 0 cap] w (Hz Ok s [] w):=by
 go_enter Tryz.func257,Tryz.ntmps257
 go_wp2
 refine wp_loop_rounds 1 ?_;rw[rounds_succ]
 go_wp2
 exact bodyPost_ret (v:=.agg #[.int .i64 0,.slice none 0 0]) (by simp[results,Tryz.results257,go_sem]) rfl (PD Ok s [] rfl ((Below.refl _ _).alloc (zI _) _))
set_option maxRecDepth 100000 in
theorem Abc (Ok:Nat→Prop)(s:Int)(ds:List Nat)(b o cap:Nat)(w:World)(hlen:ds.length<100000)(hcap:ds.length≤cap)(hr:Jf w Ok ds b o):Calls Tryz.prog 257 #[.int .i64 s,.slice (some ⟨b,o,none⟩) ds.length cap] w (Hz Ok s ds w):=by
 obtain⟨hok,hb,hc⟩:=hr;generalize hL:ds.length=L at *;have HL:=Lib.hid hL;have HC:=Lib.hid hc;clear hL hc
 go_enter Tryz.func257,Tryz.ntmps257
 go_wp2
 go_loop [5] (fun n=>∃k:Nat,k≤L∧n=.int .i64 k∧trim ds=trim (ds.take k)) (fun n=>(intOf n).toNat)
 case atStart=>exact⟨L,zI _,rfl,by rw[←HL.out,List.take_length]⟩
 case round=>
  obtain⟨k,hk,rfl,ht⟩:=hrel;have HT:=Lib.hid ht;clear ht;have hbel:Below w.heap.size w (w.alloc (.cells #[.int .i64 0,.slice none 0 0] 149)):=(Below.refl _ _).alloc (zI _) _;cases k with
  |zero=>
   have HP:=Lib.hid (PD Ok s ds (by rw[HT.out];rfl) hbel);clear hbel
   go_wp2
   exact bodyPost_ret (v:=.agg #[.int .i64 0,.slice none 0 0]) (by simp[results,Tryz.results257,go_sem]) rfl HP.out
  |succ k=>
   have Cv:=HC.out k (by omega);have hkl:k<ds.length:=by rw[HL.out];omega
   by_cases h0:ds.getD k 0=0
   ·have HT2:=Lib.hid (Pq ds k hkl h0);rw[h0]at Cv;have hcell':(w.alloc (.cells #[.int .i64 0,.slice none 0 0] 149)).cell? ⟨b,o+k,none⟩=some (.int .u32 0):=by rw[World.cell?_alloc_past _ _ _ hb];exact Cv
    clear Cv h0 hbel
    go_wp2
    go_round
    case rel=>exact⟨k,by omega,rfl,by rw[HT.out,HT2.out]⟩
    case measure=>simp[intOf]
   ·have hrow:Jf w Ok ds b o:=⟨hok,hb,fun i hi=>HC.out i (by rw[←HL.out];exact hi)⟩;have HP:=Lib.hid (fun O=>have hb':Below w.heap.size w (w.alloc O):=(Below.refl _ _).alloc (zI _) _
     Xb Ok s ds b o (k+1) (by omega) (by omega) (by rw[HT.out];exact Gs ds k hkl h0) (hrow.mono (fun _ h=>h) hb') hb')
    have hcell':(w.alloc (.cells #[.int .i64 0,.slice none 0 0] 149)).cell? ⟨b,o+k,none⟩=some (.int .u32 (ds.getD k 0:Nat)):=by rw[World.cell?_alloc_past _ _ _ hb];exact Cv
    have hne:decide (((ds.getD k 0:Nat):Int)=0)=false:=by simpa using h0
    have hne2:(((ds.getD k 0:Nat):Int)==0)=false:=by simpa using h0
    generalize ds.getD k 0=z at hcell' hne hne2;clear Cv h0 hbel hrow
    go_wp2
    exact bodyPost_ret (v:=.agg #[.int .i64 s,.slice (some ⟨b,o,none⟩) (k+1) (k+1)]) (by simp[results,Tryz.results257,go_sem]) rfl (HP.out _)
theorem N7 (Ok:Nat→Prop)(s:Int)(ds:List Nat)(v:Value)(w:World)(hlen:ds.length<100000)(hv:Sl w Ok ds v):Calls Tryz.prog 257 #[.int .i64 s,v] w (Hz Ok s ds w):=by
 rcases hv with⟨cap,base,rfl,rfl⟩|⟨b,o,cap,rfl,hcap,_,hr⟩
 ·exact Zj Ok s cap base w
 ·exact Abc Ok s ds b o cap w hlen hcap hr
def IW (ds:List Nat)(w:World)(e:Ending)(w':World):Prop:=
 e=.returned (.tuple #[.agg #[.int .u32 (ds.getD 0 0:Nat),.int .u32 (ds.getD 1 0:Nat)],.bool (decide (ds.length≤2))])∧Below w.heap.size w w'
theorem QE:(Tryz.prog.info? 268).map (·.size)=some 1:=by kernel_rfl
set_option maxRecDepth 100000 in
theorem Adp (s:Int)(w:World):Calls Tryz.prog 347 #[.agg #[.int .i64 s,.slice none 0 0]] w (IW [] w):=by
 have hcp:=fun (W:World) (d:Option Addr)=>run_copy_none (P:=Tryz.prog) W 147 147 3 268 d none 2 2 0 0 Tryz.underlying147 QE rfl
 go_enter Tryz.func347,Tryz.ntmps347
 go_wp2
 go_region
 all_goals go_wp2
 all_goals go_region
 all_goals go_wp2
 all_goals exact bodyPost_ret (v:=.tuple #[.agg #[.int .u32 0,.int .u32 0],.bool true]) (by simp[results,Tryz.results347,go_sem]) rfl ⟨rfl,((((Below.refl _ _).alloc (zI _) _).alloc (by simp) _).alloc (by simp;omega) _).drew.drew⟩
set_option maxRecDepth 100000 in
theorem Acz (Ok:Nat→Prop)(s:Int)(a c:Nat)(ds:List Nat)(b o:Nat)(w:World)(hr:Jf w Ok (a::c::ds) b o):Calls Tryz.prog 347 #[.agg #[.int .i64 s,.slice (some ⟨b,o,none⟩) (ds.length+2) (ds.length+2)]] w (IW (a::c::ds) w):=by
 obtain⟨_,hb,hc⟩:=hr;have c0:=hc 0 (by simp);have c1:=hc 1 (by simp);simp only[List.getD_cons_zero,List.getD_cons_succ,Nat.add_zero]at c0 c1;clear hc;have hcp:=fun (W:World) (g:Nat) (h0:W.cell? ⟨b,o,none⟩=some (.int .u32 (a:Nat))) (h1:W.cell? ⟨b,o+1,none⟩=some (.int .u32 (c:Nat))) (g0:(W.cell? ⟨g,0,none⟩).isSome=true) (f0:W.frozen? ⟨g,0,none⟩=false) (g1:(W.cell? ⟨g,1,none⟩).isSome=true) (f1:W.frozen? ⟨g,1,none⟩=false)=>run_copy_cells (P:=Tryz.prog) W 147 147 3 268 g 0 2 2 ⟨b,o,none⟩ (ds.length+2) (ds.length+2) [.int .u32 (a:Nat),.int .u32 (c:Nat)] Tryz.underlying147 QE
  (by simp) (fun j v hj=>by
   match j,hj with
   |0,hj=>simp at hj;subst hj;simpa[Addr.add]using h0
   |1,hj=>simp at hj;subst hj;simpa[Addr.add]using h1) (fun j hj=>by
   match j,hj with
   |0,_=>exact g0|1,_=>exact g1) (fun j hj=>by
   match j,hj with
   |0,_=>exact f0|1,_=>exact f1) (by simp[Value.oneCell'])
 have hcp2:=hcp ((((w.alloc (.cells #[.int .i64 s,.slice (some ⟨b,o,none⟩) (ds.length+2) (ds.length+2)] 149)).alloc (.cells #[.int .u32 0,.int .u32 0] 430)).alloc (.cells #[.int .u32 0,.int .u32 0] 430)).drew) (w.heap.size+1+1)
  (by show(World.alloc _ _).cell? _=_;rw[World.cell?_alloc_past _ _ _ (by simp;omega),World.cell?_alloc_past _ _ _ (by simp;omega),World.cell?_alloc_past _ _ _ hb];exact c0)
  (by show(World.alloc _ _).cell? _=_;rw[World.cell?_alloc_past _ _ _ (by simp;omega),World.cell?_alloc_past _ _ _ (by simp;omega),World.cell?_alloc_past _ _ _ hb];exact c1)
  (by show((World.alloc _ _).cell? _).isSome=true;rw[World.cell?_alloc_at _ _ _ _ (by simp)];rfl) (by show(World.alloc _ _).frozen? _=false;rw[World.frozen?_alloc_at _ _ _ _ (by simp)])
  (by show((World.alloc _ _).cell? _).isSome=true;rw[World.cell?_alloc_at _ _ _ _ (by simp)];rfl) (by show(World.alloc _ _).frozen? _=false;rw[World.frozen?_alloc_at _ _ _ _ (by simp)])
 have hcp3:(Builtin.copy_ #[147,147] 3 #[.slice (some ⟨w.heap.size+1+1,0,none⟩) 2 2,.slice (some ⟨b,o,none⟩) (ds.length+2) (ds.length+2)]).run Tryz.prog ((((w.alloc (.cells #[.int .i64 s,.slice (some ⟨b,o,none⟩) (ds.length+2) (ds.length+2)] 149)).alloc (.cells #[.int .u32 0,.int .u32 0] 430)).alloc (.cells #[.int .u32 0,.int .u32 0] 430)).drew)=.ok (goInt 2) ((((((w.alloc (.cells #[.int .i64 s,.slice (some ⟨b,o,none⟩) (ds.length+2) (ds.length+2)] 149)).alloc (.cells #[.int .u32 0,.int .u32 0] 430)).alloc (.cells #[.int .u32 0,.int .u32 0] 430)).drew).setCell ⟨w.heap.size+1+1,0,none⟩ (.int .u32 (a:Nat))).setCell ⟨w.heap.size+1+1,1,none⟩ (.int .u32 (c:Nat))):=hcp2;clear hcp hcp2
 go_enter Tryz.func347,Tryz.ntmps347
 go_wp2
 go_region
 all_goals go_wp2
 all_goals go_region
 all_goals go_wp2
 all_goals
  refine bodyPost_ret (v:=.tuple #[.agg #[.int .u32 (a:Nat),.int .u32 (c:Nat)],.bool (decide ((ds.length:Int)+2≤2))]) (by simp[results,Tryz.results347,go_sem]) rfl ⟨?_,((((Below.refl _ _).alloc (zI _) _).alloc (by simp) _).alloc (by simp;omega) _).drew.drew⟩;have e:decide ((ds.length:Int)+2≤2)=decide ((a::c::ds).length≤2):=by rw[decide_eq_decide];simp only[List.length_cons];omega
  rw[e];rfl
set_option maxRecDepth 100000 in
theorem Abs (Ok:Nat→Prop)(s:Int)(a:Nat)(b o:Nat)(w:World)(hr:Jf w Ok ([a]) b o):Calls Tryz.prog 347 #[.agg #[.int .i64 s,.slice (some ⟨b,o,none⟩) (1) (1)]] w (IW ([a]) w):=by
 obtain⟨_,hb,hc⟩:=hr;have c0:=hc 0 (by simp);simp only[List.getD_cons_zero,Nat.add_zero]at c0;clear hc;have hcp:=fun (W:World) (g:Nat) (h0:W.cell? ⟨b,o,none⟩=some (.int .u32 (a:Nat))) (g0:(W.cell? ⟨g,0,none⟩).isSome=true) (f0:W.frozen? ⟨g,0,none⟩=false)=>run_copy_cells (P:=Tryz.prog) W 147 147 3 268 g 0 2 2 ⟨b,o,none⟩ (1) (1) [.int .u32 (a:Nat)] Tryz.underlying147 QE
  (by simp) (fun j v hj=>by
   match j,hj with
   |0,hj=>simp at hj;subst hj;simpa[Addr.add]using h0) (fun j hj=>by
   match j,hj with
   |0,_=>exact g0) (fun j hj=>by
   match j,hj with
   |0,_=>exact f0) (by simp[Value.oneCell'])
 have hcp2:=hcp ((((w.alloc (.cells #[.int .i64 s,.slice (some ⟨b,o,none⟩) (1) (1)] 149)).alloc (.cells #[.int .u32 0,.int .u32 0] 430)).alloc (.cells #[.int .u32 0,.int .u32 0] 430)).drew) (w.heap.size+1+1)
  (by show(World.alloc _ _).cell? _=_;rw[World.cell?_alloc_past _ _ _ (by simp;omega),World.cell?_alloc_past _ _ _ (by simp;omega),World.cell?_alloc_past _ _ _ hb];exact c0)
  (by show((World.alloc _ _).cell? _).isSome=true;rw[World.cell?_alloc_at _ _ _ _ (by simp)];rfl) (by show(World.alloc _ _).frozen? _=false;rw[World.frozen?_alloc_at _ _ _ _ (by simp)])
 have hcp3:(Builtin.copy_ #[147,147] 3 #[.slice (some ⟨w.heap.size+1+1,0,none⟩) 2 2,.slice (some ⟨b,o,none⟩) (1) (1)]).run Tryz.prog ((((w.alloc (.cells #[.int .i64 s,.slice (some ⟨b,o,none⟩) (1) (1)] 149)).alloc (.cells #[.int .u32 0,.int .u32 0] 430)).alloc (.cells #[.int .u32 0,.int .u32 0] 430)).drew)=.ok (goInt 1) (((((w.alloc (.cells #[.int .i64 s,.slice (some ⟨b,o,none⟩) (1) (1)] 149)).alloc (.cells #[.int .u32 0,.int .u32 0] 430)).alloc (.cells #[.int .u32 0,.int .u32 0] 430)).drew).setCell ⟨w.heap.size+1+1,0,none⟩ (.int .u32 (a:Nat))):=hcp2;clear hcp hcp2
 go_enter Tryz.func347,Tryz.ntmps347
 go_wp2
 go_region
 all_goals go_wp2
 all_goals go_region
 all_goals go_wp2
 all_goals exact bodyPost_ret (v:=.tuple #[.agg #[.int .u32 (a:Nat),.int .u32 0],.bool true]) (by simp[results,Tryz.results347,go_sem]) rfl ⟨rfl,((((Below.refl _ _).alloc (zI _) _).alloc (by simp) _).alloc (by simp;omega) _).drew.drew⟩
theorem QR (Ok:Nat→Prop)(s:Int)(ds:List Nat)(v:Value)(w:World)(hv:Ib w Ok s ds v):Calls Tryz.prog 347 #[v] w (IW ds w):=by
 obtain⟨l,rfl,⟨rfl,rfl⟩|⟨b,o,rfl,hne,hr⟩⟩:=hv
 ·exact Adp s w
 ·match ds,hne,hr with
  |[a],_,hr=>exact Abs Ok s a b o w hr|a::c::ds,_,hr=>exact Acz Ok s a c ds b o w hr|[],h,_=>exact absurd rfl h
theorem Br.mono {w w':World}{Ok Ok':Nat→Prop}{ds:List Nat}{v:Value}(h:Br w Ok ds v)(ho:∀b,Ok b→Ok' b)(hb:Below w.heap.size w w'):Br w' Ok' ds v:=
 h.imp id fun⟨b,o,h1,h2,h3⟩=>⟨b,o,h1,h2,h3.mono ho hb⟩
theorem Ib.mono {w w':World}{Ok Ok':Nat→Prop}{s:Int}{ds:List Nat}{v:Value}(h:Ib w Ok s ds v)(ho:∀b,Ok b→Ok' b)(hb:Below w.heap.size w w'):Ib w' Ok' s ds v:=
 let⟨l,h1,h2⟩:=h;⟨l,h1,h2.mono ho hb⟩
def Pf (s:Int)(ds:List Nat)(w:World)(e:Ending)(w':World):Prop:=
 e=.returned (.tuple #[.int .i64 (if ds.length≤1 then s*(ds.getD 0 0:Nat) else 0),.bool (decide (ds.length≤1))])∧Below w.heap.size w w'
set_option maxRecDepth 100000 in
theorem X1 (Ok:Nat→Prop)(s:Int)(ds:List Nat)(v:Value)(w:World)(hn:Norm s ds)(hv:Ib w Ok s ds v):Calls Tryz.prog 296 #[v] w (Pf s ds w):=by
 obtain⟨l,rfl,hl⟩:=hv;have h0:Below w.heap.size w (w.alloc (.cells #[.int .i64 s,l] 149)):=(Below.refl _ _).alloc (zI _) _;have HF:=Lib.hid (QR Ok s ds (.agg #[.int .i64 s,l]) (w.alloc (.cells #[.int .i64 s,l] 149)) ⟨l,rfl,hl.mono (fun _ h=>h) h0⟩);have hd0:ds.getD 0 0<1000000000:=by
  rw[List.getD];cases h:ds[0]? with
  |none=>decide|some z=>exact hn.lt z (List.mem_of_getElem? h)
 have hs : -1≤s∧s≤1:=by rcases hn.sign with h|h|h<;>omega
 have h1:ds.length=2→ds.getD 1 0≠0:=by
  intro h2 e;apply hn.last
  match ds,h2,e with
  |[a,b],_,e=>simp at e;simp[e]
 have h2:ds.length≤1→ds.getD 1 0=0:=by intro h;rw[List.getD,List.getElem?_eq_none h];rfl
 have H2:=Lib.hid h2;clear h2;generalize hD0:ds.getD 0 0=d0 at *;generalize hD1:ds.getD 1 0=d1 at *;generalize hL:ds.length=L at *;obtain⟨hs1,hs2⟩:=hs;have H0:=Lib.hid h0;clear hl hn;unfold IW at HF;rw[hD0,hD1,hL]at HF;unfold Pf;rw[hD0,hL];clear hD0 hD1 hL;have H1:=Lib.hid h1;clear h1;by_cases hL1:L≤1
 ·rw[if_pos hL1,decide_eq_true hL1];rw[decide_eq_true (show L≤2 by omega)]at HF;have hd1:d1=0:=H2.out hL1;subst hd1;clear hL1
  go_enter Tryz.func296,Tryz.ntmps296
  go_wp2_with (go_at_call 347;refine HF.out.mono ?_;rintro e w1 ⟨rfl,hb⟩;have hz:w.heap.size<w1.heap.size:=(by have:=hb.size;simp at this;omega);have hc0:w1.cell? ⟨w.heap.size,0,none⟩=some (.int .i64 s):=(by rw[hb.cell (p:=⟨w.heap.size,0,none⟩) (by simp)];simp);have HB:=Lib.hid (h0.trans (hb.mono (by simp)));clear hb)
  go_ret2
  refine⟨?_,HB.out.alloc (by have:=HB.out.size;omega) _⟩;have hw:wrap64 (s*(d0:Int))=s*(d0:Int):=by rcases (show s = -1∨s=0∨s=1 by omega) with rfl|rfl|rfl<;>unfold wrap64<;>omega
  rw[hw];rfl
 ·rw[if_neg hL1,zL hL1];by_cases hL2:L≤2
  ·rw[decide_eq_true hL2]at HF;have h1:=H1.out (by omega);have hne:decide (((d1:Nat):Int)=0)=false:=by simpa using h1
   have hne2:(((d1:Nat):Int)==0)=false:=by simpa using h1
   have hne3:(((d1:Nat):Int) != 0)=true:=by simpa using h1
   clear h1 hL1 hL2
   go_enter Tryz.func296,Tryz.ntmps296
   go_wp2_with (go_at_call 347;refine HF.out.mono ?_;rintro e w1 ⟨rfl,hb⟩;have hz:w.heap.size<w1.heap.size:=(by have:=hb.size;simp at this;omega);have hc0:w1.cell? ⟨w.heap.size,0,none⟩=some (.int .i64 s):=(by rw[hb.cell (p:=⟨w.heap.size,0,none⟩) (by simp)];simp);have HB:=Lib.hid (h0.trans (hb.mono (by simp)));clear hb)
   go_ret2
   exact⟨rfl,HB.out.alloc (by have:=HB.out.size;omega) _⟩
  ·rw[zL hL2]at HF;clear hL1 hL2
   go_enter Tryz.func296,Tryz.ntmps296
   go_wp2_with (go_at_call 347;refine HF.out.mono ?_;rintro e w1 ⟨rfl,hb⟩;have hz:w.heap.size<w1.heap.size:=(by have:=hb.size;simp at this;omega);have hc0:w1.cell? ⟨w.heap.size,0,none⟩=some (.int .i64 s):=(by rw[hb.cell (p:=⟨w.heap.size,0,none⟩) (by simp)];simp);have HB:=Lib.hid (h0.trans (hb.mono (by simp)));clear hb)
   go_ret2
   exact⟨rfl,HB.out.alloc (by have:=HB.out.size;omega) _⟩
def New (w:World)(Ok:Nat→Prop)(b:Nat):Prop:=Ok b∨w.heap.size≤b
def three (m:Nat):List Nat:=[m%1000000000,m/1000000000%1000000000,m/1000000000/1000000000]
def MY (Ok:Nat→Prop)(s:Int)(ds:List Nat)(w:World)(e:Ending)(w':World):Prop:=
 ∃r,e=.returned r∧Ib w' (New w Ok) (if trim ds=[] then 0 else s) (trim ds) r∧Below w.heap.size w w'
theorem Br.setCell {w:World}{Ok:Nat→Prop}{ds:List Nat}{l:Value}(h:Br w Ok ds l)(g i:Nat)(u:Value)(hg:¬Ok g):Br (w.setCell ⟨g,i,none⟩ u) Ok ds l:=by
 refine h.imp id fun⟨b,o,h1,h2,h3⟩=>⟨b,o,h1,h2,h3.1,by rw[World.size_setCell];exact h3.2.1,fun i hi=>?_⟩
 rw[World.cell?_setCell_other]
 ·exact h3.2.2 i hi
 ·intro e;have:g=b:=congrArg Addr.block e;exact hg (this ▸ h3.1)
theorem Br.slice {w:World}{Ok:Nat→Prop}{ds:List Nat}{l:Value}(h:Br w Ok ds l):∃base,l=.slice base ds.length ds.length:=by
 rcases h with⟨rfl,rfl⟩|⟨b,o,rfl,_⟩
 ·exact⟨_,rfl⟩
 ·exact⟨_,rfl⟩
theorem Aa4 {Ok Ok':Nat→Prop}{s:Int}{ds:List Nat}{w w':World}{l:Value}(hb:Below w.heap.size w w')(h:Br w' Ok' (trim ds) l)(hg:¬Ok' w.heap.size)(ho:∀b,Ok' b→New w Ok b)(u v:Value) :
 MY Ok s ds w (.returned (.agg #[.int .i64 (if trim ds=[] then 0 else s),l])) ((w'.setCell ⟨w.heap.size,0,none⟩ u).setCell ⟨w.heap.size,1,none⟩ v):=by
 refine⟨_,rfl,⟨l,rfl,?_⟩,?_⟩
 ·have h':=((h.setCell w.heap.size 0 u hg).setCell w.heap.size 1 v hg);exact h'.mono ho (Below.refl _ _)
 ·exact(hb.setCell (zI _) _).setCell (zI _) _
theorem Pw (_Ok:Nat→Prop)(w:World)(x y z:Nat)(O:Obj):Sl ((w.alloc O).alloc (.cells #[.int .u32 x,.int .u32 y,.int .u32 z] 268)) (fun b=>b=w.heap.size+1) [x,y,z] (.slice (some ⟨w.heap.size+1,0,none⟩) 3 3):=by
 refine .inr ⟨w.heap.size+1,0,3,rfl,zI _,by simp,rfl,by simp,fun i hi=>?_⟩
 match i,hi with
 |0,_=>simp|1,_=>simp|2,_=>simp
set_option maxRecDepth 100000 in
theorem of_pos (Ok:Nat→Prop)(m:Nat)(w:World)(hm:m<1000000000000000000):Calls Tryz.prog 220 #[.int .i64 (m:Nat)] w (MY Ok 1 (three m) w):=by
 have hn:decide ((m:Int)<0)=false:=by simp
 have HM:=Lib.hid (fun (O:Obj)=>N7 (fun b=>b=w.heap.size+1) 1 (three m) (.slice (some ⟨w.heap.size+1,0,none⟩) 3 3) _ (by simp[three]) (Pw Ok w (m%1000000000) (m/1000000000%1000000000) (m/1000000000/1000000000) O));have HB:=Lib.hid (fun (O O':Obj)=>((Below.refl w.heap.size w).alloc (zI _) O).alloc (by simp) O')
 go_enter Tryz.func220,Tryz.ntmps220
 go_wp2_with (go_at_call 257;refine(HM.out _).mono ?_;rintro e w1 ⟨r,rfl,⟨l,rfl,hl⟩,hb⟩;obtain⟨base,rfl⟩:=hl.slice;have hz:w.heap.size+1<w1.heap.size:=(by have:=hb.size;simp at this;omega);have hc0:w1.cell? ⟨w.heap.size,0,none⟩=some (.int .i64 0):=(by rw[hb.cell (p:=⟨w.heap.size,0,none⟩) (by simp;omega)];simp);have hc1:w1.cell? ⟨w.heap.size,1,none⟩=some (.slice none 0 0):=(by rw[hb.cell (p:=⟨w.heap.size,1,none⟩) (by simp;omega)];simp);have hf0:w1.frozen? ⟨w.heap.size,0,none⟩=false:=(by rw[hb.frozen (p:=⟨w.heap.size,0,none⟩) (by simp;omega)];simp);have hf1:w1.frozen? ⟨w.heap.size,1,none⟩=false:=(by rw[hb.frozen (p:=⟨w.heap.size,1,none⟩) (by simp;omega)];simp);have HP:=Lib.hid (Aa4 (Ok:=Ok) (s:=1) ((HB.out _ _).trans (hb.mono (by simp;omega))) hl (by omega) (fun b h=>.inr (by omega)));clear hl hb;generalize (if trim (three m)=[] then(0:Int) else 1)=S at HP ⊢;generalize (trim (three m)).length=N at HP ⊢)
 exact bodyPost_ret (v:=.agg #[.int .i64 S,.slice base N N]) (by simp[results,Tryz.results220,go_sem,hc0,hc1]) rfl (HP.out _ _)
set_option maxRecDepth 100000 in
theorem of_neg (Ok:Nat→Prop)(m:Nat)(w:World)(hm:m<1000000000000000000)(h0:0<m):Calls Tryz.prog 220 #[.int .i64 (-(m:Nat))] w (MY Ok (-1) (three m) w):=by
 have hn:decide ((-(m:Int))<0)=true:=by simp;omega
 have hw:wrap64 (- -(m:Int))=(m:Int):=by unfold wrap64;omega
 have hw2:wrap64 ((m:Int))=(m:Int):=by unfold wrap64;omega
 have HM:=Lib.hid (fun (O:Obj)=>N7 (fun b=>b=w.heap.size+1) (-1) (three m) (.slice (some ⟨w.heap.size+1,0,none⟩) 3 3) _ (by simp[three]) (Pw Ok w (m%1000000000) (m/1000000000%1000000000) (m/1000000000/1000000000) O));have HB:=Lib.hid (fun (O O':Obj)=>((Below.refl w.heap.size w).alloc (zI _) O).alloc (by simp) O')
 go_enter Tryz.func220,Tryz.ntmps220
 go_wp2_with (go_at_call 257;refine(HM.out _).mono ?_;rintro e w1 ⟨r,rfl,⟨l,rfl,hl⟩,hb⟩;obtain⟨base,rfl⟩:=hl.slice;have hz:w.heap.size+1<w1.heap.size:=(by have:=hb.size;simp at this;omega);have hc0:w1.cell? ⟨w.heap.size,0,none⟩=some (.int .i64 0):=(by rw[hb.cell (p:=⟨w.heap.size,0,none⟩) (by simp;omega)];simp);have hc1:w1.cell? ⟨w.heap.size,1,none⟩=some (.slice none 0 0):=(by rw[hb.cell (p:=⟨w.heap.size,1,none⟩) (by simp;omega)];simp);have hf0:w1.frozen? ⟨w.heap.size,0,none⟩=false:=(by rw[hb.frozen (p:=⟨w.heap.size,0,none⟩) (by simp;omega)];simp);have hf1:w1.frozen? ⟨w.heap.size,1,none⟩=false:=(by rw[hb.frozen (p:=⟨w.heap.size,1,none⟩) (by simp;omega)];simp);have HP:=Lib.hid (Aa4 (Ok:=Ok) (s:=-1) ((HB.out _ _).trans (hb.mono (by simp;omega))) hl (by omega) (fun b h=>.inr (by omega)));clear hl hb;generalize (if trim (three m)=[] then(0:Int) else -1)=S at HP ⊢;generalize (trim (three m)).length=N at HP ⊢)
 exact bodyPost_ret (v:=.agg #[.int .i64 S,.slice base N N]) (by simp[results,Tryz.results220,go_sem,hc0,hc1]) rfl (HP.out _ _)
def Uc (n:Int):List Nat:=trim (three n.natAbs)
def ofS (n:Int):Int:=if Uc n=[] then 0 else if n<0 then -1 else 1
theorem of_any (Ok:Nat→Prop)(n:Int)(w:World)(h1 : -1000000000000000000<n)(h2:n<1000000000000000000):Calls Tryz.prog 220 #[.int .i64 n] w (fun e w'=>∃r,e=.returned r∧Ib w' (New w Ok) (ofS n) (Uc n) r∧Below w.heap.size w w'):=by
 by_cases h:n<0
 ·have:=of_neg Ok n.natAbs w (by omega) (by omega);rw[show(-((n.natAbs:Nat):Int))=n by omega]at this;unfold MY at this;unfold ofS Uc;rw[if_pos h];exact this
 ·have:=of_pos Ok n.natAbs w (by omega);rw[show(((n.natAbs:Nat):Int))=n by omega]at this;unfold MY at this;unfold ofS Uc;rw[if_neg h];exact this
end Go.Nl
namespace Go.Nl
abbrev B:Nat:=1000000000
def val:List Nat→Nat
 |[]=>0|d::ds=>d+B*val ds
def Ae (n:Nat):List Nat:=if _h:n=0 then[] else n%B::Ae (n/B)
 termination_by n
 decreasing_by exact Nat.div_lt_self (by omega) (by decide)
theorem BK:Ae 0=[]:=by rw[Ae];rfl
theorem C0 {n:Nat}(h:0<n):Ae n=n%B::Ae (n/B):=by rw[Ae];rw[dif_neg (by omega)]
theorem BW (n:Nat):val (Ae n)=n:=by
 induction n using Nat.strongRecOn with
 |ind n ih=>
  by_cases h:n=0
  ·subst h;rw[BK];rfl
  ·rw[C0 (by omega)];show n%B+B*val (Ae (n/B))=n;rw[ih _ (Nat.div_lt_self (by omega) (by decide))];exact Nat.mod_add_div n B
theorem Ct (n:Nat):∀d∈Ae n,d<B:=by
 induction n using Nat.strongRecOn with
 |ind n ih=>
  by_cases h:n=0
  ·subst h;rw[BK];simp
  ·rw[C0 (by omega)];intro d hd;rcases zH.1 hd with e|e
   ·rw[e];exact Nat.mod_lt _ (by decide)
   ·exact ih _ (Nat.div_lt_self (by omega) (by decide)) d e
theorem Dq {n:Nat} : Ae n=[]↔n=0:=by
 constructor
 ·intro h;have:=BW n;rw[h]at this;exact this.symm
 ·rintro rfl;exact BK
theorem IY (n:Nat):(Ae n).getLast?≠some 0:=by
 induction n using Nat.strongRecOn with
 |ind n ih=>
  by_cases h:n=0
  ·subst h;rw[BK];simp
  ·rw[C0 (by omega)];have:=ih _ (Nat.div_lt_self (by omega) (by decide:1<B));cases e:Ae (n/B) with
   |nil=>have h0:n/B=0:=Dq.1 e;have h1:=Nat.mod_add_div n B;rw[h0]at h1;simp;omega
   |cons a l=>rw[e]at this;rw[List.getLast?_cons_cons];exact this
theorem FY:∀{ds:List Nat},(∀d∈ds,d<B)→val ds<B^ds.length
 |[],_=>by simp[val]
 |d::ds,h=>by have h1:=h d (by simp);have h2:=FY (ds:=ds) (fun x hx=>h x (by simp[hx]));show d+B*val ds<B^(ds.length+1);rw[Nat.pow_succ,Nat.mul_comm (B^ds.length) B];have:B*(val ds+1)≤B*B^ds.length:=Nat.mul_le_mul_left _ h2;rw[Nat.mul_add]at this;omega
theorem Lr:∀{ds:List Nat},(∀d∈ds,d<B)→trim ds=Ae (val ds)
 |[],_=>by rw[val,BK];rfl
 |d::ds,h=>by
  have h1:=h d (by simp);have ih:=Lr (ds:=ds) (fun x hx=>h x (by simp[hx]));have hm:(d+B*val ds)%B=d:=by rw[Nat.add_mul_mod_self_left];exact Nat.mod_eq_of_lt h1
  have hq:(d+B*val ds)/B=val ds:=by rw[Nat.add_mul_div_left _ _ (by decide)];rw[Nat.div_eq_of_lt h1];omega
  rw[trim,ih];by_cases h0:d+B*val ds=0
  ·have:d=0∧val ds=0:=by simp only[B]at h0;constructor<;>omega
   rw[val,h0,BK,this.1,this.2,BK];rfl
  ·rw[val,C0 (n:=d+B*val ds) (Nat.pos_of_ne_zero h0),hm,hq];cases e:Ae (val ds) with
   |nil=>
    have:val ds=0:=Dq.1 e;have hz:d≠0:=by intro e0;apply h0;rw[e0,this];rfl
    simp[hz]
   |cons a l=>rfl
theorem CA {n k:Nat}(h:n<B^k):(Ae n).length≤k:=by
 induction k generalizing n with
 |zero=>have:n=0:=by simp at h;omega
        subst this;rw[BK];simp
 |succ k ih=>
  by_cases h0:n=0
  ·subst h0;rw[BK];simp
  ·rw[C0 (by omega)];have:n/B<B^k:=by rw[Nat.div_lt_iff_lt_mul (by decide)];rw[Nat.pow_succ]at h;exact h
   have:=ih this;simp;omega
theorem BV {n k:Nat}(h:(Ae n).length≤k):n<B^k:=by have h1:=FY (Ct n);rw[BW]at h1;exact Nat.lt_of_lt_of_le h1 (Nat.pow_le_pow_right (by decide) h)
def Num (w:World)(Ok:Nat→Prop)(z:Int)(v:Value):Prop:=Ib w Ok z.sign (Ae z.natAbs) v
theorem Num.mono {w w':World}{Ok Ok':Nat→Prop}{z:Int}{v:Value}(h:Num w Ok z v)(ho:∀b,Ok b→Ok' b)(hb:Go.RowKit.Below w.heap.size w w'):Num w' Ok' z v:=Ib.mono h ho hb
def Fits (k:Nat)(z:Int):Prop:=(Ae z.natAbs).length≤k
theorem QG {z:Int}(h:Fits 999 z):Norm z.sign (Ae z.natAbs):=by
 refine⟨Ct _,IY _,Nat.lt_succ_of_le h,?_⟩;rcases Int.lt_trichotomy z 0 with h|h|h
 ·exact .inr (.inr ⟨Int.sign_eq_neg_one_of_neg h,fun e=>by have:=Dq.1 e;omega⟩)
 ·subst h;exact .inl ⟨rfl,BK⟩
 ·exact .inr (.inl ⟨Int.sign_eq_one_of_pos h,fun e=>by have:=Dq.1 e;omega⟩)
theorem Xk {m:Nat}(h:m<1000000000000000000):val (three m)=m∧∀d∈three m,d<B:=by
 constructor
 ·simp only[three,val,B];omega
 ·intro d hd;simp only[three,zH,List.mem_nil_iff,or_false]at hd;show d<1000000000;omega
theorem WL {n:Int}(h1 : -1000000000000000000<n)(h2:n<1000000000000000000):Uc n=Ae n.natAbs∧ofS n=n.sign:=by
 have hv:=Xk (m:=n.natAbs) (by omega);have hd:Uc n=Ae n.natAbs:=by rw[Uc,Lr hv.2,hv.1]
 refine⟨hd,?_⟩;rw[ofS,hd];by_cases h0:n=0
 ·subst h0;rw[if_pos (show Ae (Int.natAbs 0)=[] from BK)];rfl
 ·rw[if_neg (fun e=>by have:=Dq.1 e;omega)];by_cases h:n<0
  ·rw[if_pos h,Int.sign_eq_neg_one_of_neg h]
  ·rw[if_neg h,Int.sign_eq_one_of_pos (by omega)]
def V0 (Ok:Nat→Prop)(z:Int)(w:World)(e:Ending)(w':World):Prop:=∃r,e=.returned r∧Num w' (New w Ok) z r∧Go.RowKit.Below w.heap.size w w'
theorem of_num (Ok:Nat→Prop)(n:Int)(w:World)(h1 : -1000000000000000000<n)(h2:n<1000000000000000000):Go.Calls Go.Proofs.Tryz.prog 220 #[.int .i64 n] w (V0 Ok n w):=by have h:=of_any Ok n w h1 h2;rw[(WL h1 h2).1,(WL h1 h2).2]at h;exact h
end Go.Nl
namespace Go.Nl
open Go Go.Proofs Go.RowKit
structure F5 (p:Prop):Prop where
 out:p
def Gq:List Nat→List Nat→Nat→List Nat
 |[],_,_=>[]|x::xs,bs,c=>if x<c+bs.headD 0 then(x+B-(c+bs.headD 0))::Gq xs bs.tail 1 else(x-(c+bs.headD 0))::Gq xs bs.tail 0
theorem IB:∀(xs bs:List Nat) (c:Nat),(Gq xs bs c).length=xs.length
 |[],_,_=>rfl|x::xs,bs,c=>by rw[Gq];split<;>simp[IB xs]
theorem KH (bs:List Nat):val bs=bs.headD 0+B*val bs.tail:=by cases bs<;>simp[val]
theorem Hn {bs:List Nat}(h:∀d∈bs,d<B):bs.headD 0<B:=by
 cases bs with
 |nil=>decide|cons b l=>exact h b (by simp)
theorem KI {bs:List Nat}(h:∀d∈bs,d<B):∀d∈bs.tail,d<B:=fun d hd=>h d (List.mem_of_mem_tail hd)
theorem Nq:∀(xs bs:List Nat) (c:Nat),(∀d∈xs,d<B)→(∀d∈bs,d<B)→c≤1→val bs+c≤val xs→val (Gq xs bs c)+val bs+c=val xs∧∀d∈Gq xs bs c,d<B
 |[],bs,c,_,_,_,h=>by have h':val bs+c≤0:=h;refine⟨?_,by simp[Gq]⟩;show 0+val bs+c=0;omega
 |x::xs,bs,c,hx,hb,hc,h=>by
  have h1:=Hn hb;have h2:=hx x (by simp);have hv:=KH bs;have hxs:∀d∈xs,d<B:=fun d hd=>hx d (by simp[hd])
  have hv':val (x::xs)=x+B*val xs:=rfl;rw[hv']at h ⊢;rw[hv]at h ⊢;rw[Gq];generalize bs.headD 0=y at *;simp only[B]at *;by_cases hlt:x<c+y
  ·obtain⟨i1,i2⟩:=Nq xs bs.tail 1 hxs (KI hb) (by omega) (by omega);rw[if_pos hlt];refine⟨?_,fun d hd=>?_⟩
   ·show(x+1000000000-(c+y))+1000000000*val (Gq xs bs.tail 1)+_+c=_;omega
   ·rcases zH.1 hd with e|e
    ·rw[e];omega
    ·exact i2 d e
  ·obtain⟨i1,i2⟩:=Nq xs bs.tail 0 hxs (KI hb) (by omega) (by omega);rw[if_neg hlt];refine⟨?_,fun d hd=>?_⟩
   ·show(x-(c+y))+1000000000*val (Gq xs bs.tail 0)+_+c=_;omega
   ·rcases zH.1 hd with e|e
    ·rw[e];omega
    ·exact i2 d e
theorem Bf (xs:List Nat)(j:Nat)(h:j<xs.length):xs.drop j=xs.getD j 0::xs.drop (j+1):=by rw[List.drop_eq_getElem_cons h,List.getD,zK h];rfl
theorem Fh (bs:List Nat)(j:Nat):(bs.drop j).headD 0=bs.getD j 0:=by rw[List.headD_eq_head?_getD,List.head?_drop];rfl
theorem AP {os:List Nat}(h:∀d∈os,d<B)(i:Nat):os.getD i 0<B:=by rw[←Fh];exact Hn (fun d hd=>h d (List.mem_of_mem_drop hd))
theorem CJ (z:Nat)(h:z<9223372036854775807):wrap64 (z:Int)=z:=by unfold wrap64;omega
def Mz (len n:Nat)(w:World)(e:Ending)(w':World):Prop:=
 ∃v ds,e=.returned v∧Sl w' (fun b=>w.heap.size≤b) ds v∧ds.length=len∧(∀d∈ds,d<B)∧val ds=n∧Below w.heap.size w w'
theorem E1:(Tryz.prog.info? 268).map (fun i=>(i.zero,i.size,i.bytes))=some (some (.int .u32 0),1,4):=by kernel_rfl
theorem Dw {w:World}{Ok:Nat→Prop}{ds:List Nat}{v:Value}(h:Sl w Ok ds v):∃A cap,v=.slice A ds.length cap∧ds.length≤cap∧(0<ds.length→∃b o,A=some ⟨b,o,none⟩ ∧b<w.heap.size∧∀i,i<ds.length→w.cell? ⟨b,o+i,none⟩=some (.int .u32 (ds.getD i 0:Nat))):=by
 rcases h with⟨cap,base,rfl,rfl⟩|⟨b,o,cap,rfl,hcap,hne,hr⟩
 ·exact⟨base,cap,rfl,Nat.zero_le _,fun h=>absurd h (by simp)⟩
 ·exact⟨_,cap,rfl,hcap,fun _=>⟨b,o,rfl,hr.2.1,hr.2.2⟩⟩
theorem E7 {w:World}{base len:Nat}{v:Value}{ds:List Nat}(h:w.ownsRow base 268 1 v len (ds.map (fun d=>Value.int .u32 (d:Nat))))(hl:ds.length=len)(h0:0<len):Sl w (fun b=>base≤b) ds v:=by
 subst hl;rcases h.2 with⟨_,e⟩|⟨g,cap,cur,rfl,hg,hh,hc,_,hs,hx⟩
 ·omega
 ·refine .inr ⟨g,0,cap,rfl,hc,fun e=>by rw[e]at h0;simp at h0,hg,?_,fun i hi=>?_⟩
  ·rcases Nat.lt_or_ge g w.heap.size with h|h
   ·exact h
   ·rw[Array.getElem?_eq_none h]at hh;simp at hh
  ·have h2:cur[i]?=some (.int .u32 (ds.getD i 0:Nat)):=by
    have h3:(cur.toList.take (ds.length*1))[i]?=some (.int .u32 (ds.getD i 0:Nat)):=by rw[hx,List.getElem?_map,List.getD,zK hi];rfl
    rw[List.getElem?_take_of_lt (by omega)]at h3;rw[←Array.getElem?_toList];exact h3
   show w.cell? ⟨g,0+i,none⟩=_;rw[Nat.zero_add];simp only[World.cell?,hh];exact h2
theorem RZ (xs:List Nat)(k i:Nat)(h:i<xs.length+k):((xs++List.replicate k 0).map (fun d=>Value.int .u32 (d:Nat)))[i]?=some (.int .u32 ((xs.getD i 0:Nat):Int)):=by
 rw[List.getElem?_map,List.getElem?_append];split
 ·rename_i h1;rw[List.getD,zK h1];rfl
 ·rename_i h1;rw[List.getElem?_replicate,if_pos (by omega),List.getD,List.getElem?_eq_none (by omega)];rfl
theorem AbG (xs:List Nat)(k d:Nat):((xs++List.replicate (k+1) 0).map (fun d=>Value.int .u32 (d:Nat))).set xs.length (.int .u32 (d:Nat))=((xs++[d])++List.replicate k 0).map (fun d=>Value.int .u32 (d:Nat)):=by rw[List.map_append,List.map_append,List.map_append,List.set_append_right _ _ (by simp),List.length_map,Nat.sub_self,List.replicate_succ,List.map_cons,List.set_cons_zero];simp
theorem Hw (n:Nat):(madeCells (Value.int .u32 0).cells (n*1)).toList=((([]:List Nat)++List.replicate n 0).map (fun d=>Value.int .u32 (d:Nat))):=by rw[show(Value.int .u32 0).cells = #[.int .u32 0] from rfl,toList_madeCells_one];simp
theorem Me {w wr:World}{N L i cap:Nat}{xs:List Nat}(hown:wr.ownsRow N 268 1 (.slice (some ⟨N,0,none⟩) L cap) L ((xs++List.replicate (L-i) 0).map (fun d=>Value.int .u32 (d:Nat))))(hxl:xs.length=i)(hiL:i<L)(hnx:Below N w wr)(d:Nat){v:Int}(hv:v=(d:Nat)) :
 (wr.setCell ⟨N,i,none⟩ (.int .u32 v)).ownsRow N 268 1 (.slice (some ⟨N,0,none⟩) L cap) L (((xs++[d])++List.replicate (L-(i+1)) 0).map (fun d=>Value.int .u32 (d:Nat)))∧Below N w (wr.setCell ⟨N,i,none⟩ (.int .u32 v)):=by
 subst hv;have h:=(hown.stored i (.int .u32 (d:Nat))).1;rw[show L-i=L-(i+1)+1 by omega,←hxl,AbG,hxl]at h;exact⟨h,hnx.setCell (p:=⟨N,i,none⟩) (zI _) _⟩
theorem Xi {a b:List Nat}{i c:Nat}(h:i<a.length):Gq (a.drop i) (b.drop i) c=if a.getD i 0<c+b.getD i 0 then(a.getD i 0+B-(c+b.getD i 0))::Gq (a.drop (i+1)) (b.drop (i+1)) 1 else(a.getD i 0-(c+b.getD i 0))::Gq (a.drop (i+1)) (b.drop (i+1)) 0:=by rw[Bf a i h,Gq,Fh,List.tail_drop]
set_option maxHeartbeats 3200000 in
set_option maxRecDepth 1000000 in
theorem RQ (a b:List Nat)(A0 A1:Option Addr)(c0 c1:Nat)(w:World)(hla:a.length<1000000)(hlb:b.length<1000000)(hda:∀d∈a,d<B)(hdb:∀d∈b,d<B)(hc0:a.length≤c0)(_hc1:b.length≤c1)
 (h0:0<a.length→∃b' o,A0=some ⟨b',o,none⟩ ∧b'<w.heap.size∧∀i,i<a.length→w.cell? ⟨b',o+i,none⟩=some (.int .u32 (a.getD i 0:Nat)))
 (h1:0<b.length→∃b' o,A1=some ⟨b',o,none⟩ ∧b'<w.heap.size∧∀i,i<b.length→w.cell? ⟨b',o+i,none⟩=some (.int .u32 (b.getD i 0:Nat))) :
 Calls Tryz.prog 439 #[.slice A0 a.length c0,.slice A1 b.length c1] w (fun e w'=>∃v,e=.returned v∧w'.ownsRow w.heap.size 268 1 v a.length ((Gq a b 0).map (fun d=>Value.int .u32 (d:Nat)))∧Below w.heap.size w w'):=by
 obtain⟨i0,hi,hz0,hz1,hz2⟩:=info_parts E1;generalize hL:a.length=L at *;generalize hM:b.length=M at *
 go_enter Tryz.func439,Tryz.ntmps439
 go_wp2_with (at_make;go_loud (refine wpList_make_full _ rfl _ _ 147 rfl w.heap.size 268 i0 (.int .u32 0) 1 Tryz.underlying147 hi hz0 hz1 _ _ _ _ L rfl rfl rfl rfl ?b2 ?b3 (zI _) ?_))
 case b2=>rw[hz2];omega
 case b3=>unfold maxLen;omega
 intro w0 hown0 hgrow0
 go_wp2
 go_loopw [6,15] (fun cc si wr=>∃(i c:Nat) (xs:List Nat),i≤L∧si=.int .i64 i∧cc=.int .u32 c∧c≤1∧xs.length=i∧
  wr.ownsRow w.heap.size 268 1 (.slice (some ⟨w.heap.size,0,none⟩) L L) L ((xs++List.replicate (L-i) 0).map (fun d=>Value.int .u32 (d:Nat)))∧xs++Gq (a.drop i) (b.drop i) c=Gq a b 0∧Below w.heap.size w wr)
  (fun _ si _=>(L-(intOf si).toNat))
 case atStart=>exact⟨0,0,[],Nat.zero_le _,rfl,rfl,by omega,rfl,by rw[Nat.sub_zero,←Hw,Nat.mul_one];exact hown0,by simp,(Below.refl _ _).grown hgrow0 (zI _) (fun k h=>by cases h)⟩
 case round=>
  obtain⟨i,c,xs,hil,rfl,rfl,hc,hxl,hown,hx,hnx⟩:=hrel;by_cases hiL:i<L
  ·obtain⟨b0,o0,rfl,hb0,hcell0⟩:=h0 (by omega);have hc1':=(hnx.cell (p:=⟨b0,o0+i,none⟩) hb0).trans (hcell0 i hiL);have hco:=(hown.cellAt i (by omega)).trans (RZ xs (L-i) i (by omega));have hfo:=hown.frozenAt i;generalize hX:a.getD i 0=x at *;have hx1:x<B:=by rw[←hX];exact AP hda i
   have hst:=Xi (a:=a) (b:=b) (i:=i) (c:=c) (by rw[hL];exact hiL);rw[hX]at hst;have fin:∀(y:Nat),b.getD i 0=y→y<B→∀(v z:Int),(v=((x+B-(c+y):Nat):Int)∧z=1∧x<c+y∨v=((x-(c+y):Nat):Int)∧z=0∧¬x<c+y)→
    (∃(i' c':Nat) (xs:List Nat),i'≤L∧Value.int .i64 ((i:Int)+1)=.int .i64 i'∧Value.int .u32 z=.int .u32 c'∧c'≤1∧xs.length=i'∧
     (wr.setCell ⟨w.heap.size,i,none⟩ (.int .u32 v)).ownsRow w.heap.size 268 1 (.slice (some ⟨w.heap.size,0,none⟩) L L) L ((xs++List.replicate (L-i') 0).map (fun d=>Value.int .u32 (d:Nat)))∧xs++Gq (a.drop i') (b.drop i') c'=Gq a b 0∧Below w.heap.size w (wr.setCell ⟨w.heap.size,i,none⟩ (.int .u32 v)))∧
    L-(intOf (.int .i64 ((i:Int)+1))).toNat<L-(intOf (.int .i64 (i:Int))).toNat:=by
    rintro y hY hy v z (⟨hv,rfl,hlt⟩|⟨hv,rfl,hlt⟩)
    ·obtain⟨q1,q2⟩:=Me hown hxl hiL hnx _ hv;exact⟨⟨i+1,1,_,hiL,by simp,rfl,by omega,by simp[hxl],q1,by rw[←hx,hst,hY,if_pos hlt];simp,q2⟩,by simp[intOf];omega⟩
    ·obtain⟨q1,q2⟩:=Me hown hxl hiL hnx _ hv;exact⟨⟨i+1,0,_,hiL,by simp,rfl,by omega,by simp[hxl],q1,by rw[←hx,hst,hY,if_neg hlt];simp,q2⟩,by simp[intOf];omega⟩
   by_cases hiM:i<M
   ·obtain⟨b1,o1,rfl,hb1,hcell1⟩:=h1 (by omega);have hc2':=(hnx.cell (p:=⟨b1,o1+i,none⟩) hb1).trans (hcell1 i hiM)
    replace fin:=fin _ rfl (AP hdb i)
    have hy1:=AP hdb i;generalize b.getD i 0=y at *;simp only[B]at hx1 hy1 fin;by_cases hlt:x<c+y
    ·have hlt':(x:Int)<c+y:=by omega
     go_wp2
     exact fin _ _ (.inl ⟨by omega,rfl,hlt⟩)
    ·have hlt':¬(x:Int)<c+y:=by omega
     go_wp2
     exact fin _ _ (.inr ⟨by omega,rfl,hlt⟩)
   ·have hY:b.getD i 0=0:=by rw[List.getD,List.getElem?_eq_none (by omega)];rfl
    replace fin:=fin 0 hY (by decide)
    simp only[B]at hx1 fin;by_cases hlt:x<c
    ·have hlt':(x:Int)<c:=by omega
     go_wp2
     exact fin _ _ (.inl ⟨by omega,rfl,hlt⟩)
    ·have hlt':¬(x:Int)<c:=by omega
     go_wp2
     exact fin _ _ (.inr ⟨by omega,rfl,hlt⟩)
  ·have hi':i=L:=by omega
   subst hi'
   go_wp2
   go_ret
   refine⟨_,rfl,?_,hnx⟩;rw[←hx,←hL,List.drop_length];simpa[Gq,hL]using hown
theorem Ur {Ok Ok':Nat→Prop}{a b:List Nat}{va vb:Value}{w:World}(ha:∀d∈a,d<B)(hb:∀d∈b,d<B)(hla:a.length<1000000)(hlb:b.length<1000000)(hab:val b≤val a)(hva:Sl w Ok a va)(hvb:Sl w Ok' b vb)(h0:0<a.length) :
 Calls Tryz.prog 439 #[va,vb] w (Mz a.length (val a-val b) w):=by
 obtain⟨A0,c0,rfl,hc0,h0'⟩:=Dw hva;obtain⟨A1,c1,rfl,hc1,h1⟩:=Dw hvb;refine(RQ a b A0 A1 c0 c1 w hla hlb ha hb hc0 hc1 h0' h1).mono ?_;rintro e w' ⟨v,rfl,hown,hB⟩;obtain⟨q1,q2⟩:=Nq a b 0 ha hb (by omega) (by omega);exact⟨v,_,rfl,E7 hown (IB _ _ _) h0,IB _ _ _,q2,by omega,hB⟩
theorem MA:∀(os:List Nat) (i v:Nat),i<os.length→val (os.set i v)+os.getD i 0*B^i=val os+v*B^i
 |[],i,v,h=>by simp at h
 |o::os,0,v,_=>by show(v+B*val os)+o*1=(o+B*val os)+v*1;omega
 |o::os,i+1,v,h=>by
  have ih:=MA os i v (by simpa using h);show(o+B*val (os.set i v))+os.getD i 0*B^(i+1)=(o+B*val os)+v*B^(i+1);have e1:∀z,z*B^(i+1)=B*(z*B^i):=fun z=>by rw[Nat.pow_succ,←Nat.mul_assoc,Nat.mul_comm]
  rw[e1,e1];generalize os.getD i 0*B^i=p at *;generalize v*B^i=q at *;simp only[B]at *;omega
theorem La {os:List Nat}(h:∀d∈os,d<B){v:Nat}(hv:v<B)(i:Nat):∀d∈os.set i v,d<B:=by
 intro d hd;rcases List.mem_or_eq_of_mem_set hd with e|e
 ·exact h d e
 ·rw[e];exact hv
theorem getD_set_ne (os:List Nat)(i j v:Nat)(h:i≠j):(os.set i v).getD j 0=os.getD j 0:=by rw[List.getD,List.getD,List.getElem?_set_ne h]
theorem Aaz (P o c x y V t:Nat)(os os1 os':Nat)(ht:t=c+o+x*y)(h1:os1+o*P=os+(t%B)*P)(h2:os'=os1+t/B*(B*P)+x*(B*P)*V):os'=os+c*P+x*P*(y+B*V):=by
 have e1:(t%B)*P+t/B*(B*P)=t*P:=by rw[←Nat.mul_assoc,←Nat.add_mul,Nat.mul_comm (t/B) B,Nat.mod_add_div]
 have e2:t*P=c*P+o*P+x*y*P:=by rw[ht,Nat.add_mul,Nat.add_mul]
 have e3:x*P*(y+B*V)=x*y*P+x*(B*P)*V:=by
  rw[Nat.mul_add];congr 1
  ·rw[Nat.mul_assoc,Nat.mul_comm P y,Nat.mul_assoc]
  ·rw[←Nat.mul_assoc (x*P) B V];congr 1;rw[Nat.mul_assoc,Nat.mul_comm P B]
 rw[h2,e3];generalize x*(B*P)*V=A1 at *;generalize x*y*P=A2 at *;generalize o*P=A3 at *;generalize c*P=A4 at *;generalize t/B*(B*P)=A5 at *;generalize t%B*P=A6 at *;generalize t*P=A7 at *;omega
theorem PL (n:Nat):B^(n+1)=B*B^n:=by generalize B=b;exact Nat.pow_succ'
theorem wrap_u64 (z:Nat)(h:z<18446744073709551616):IntKind.u64.wrap (z:Int)=z:=by simp[IntKind.wrap,IntKind.signed,IntKind.bits];omega
theorem Pa {c o x y:Nat}(hc:c<B)(ho:o<B)(hx:x<B)(hy:y<B):c+o+x*y<B*B:=by
 have h1:x*y≤(B-1)*(B-1):=Nat.mul_le_mul (by omega) (by omega);have h2:(B-1)*(B-1)+2*(B-1)+1=B*B:=by decide
 omega
theorem XG (P b x V os os1 os' z:Nat)(h1:os1=os+0*z+x*P*b)(h2:os'=os1+b*V*(B*P)):os'=os+b*(x+B*V)*P:=by
 have e:b*(x+B*V)*P=x*P*b+b*V*(B*P):=by
  rw[Nat.mul_add,Nat.add_mul];congr 1
  ·rw[Nat.mul_comm b x,Nat.mul_assoc,Nat.mul_comm b P,Nat.mul_assoc]
  ·rw[←Nat.mul_assoc (b*V) B P,Nat.mul_left_comm b B V,Nat.mul_comm B (b*V)]
 rw[h2,h1,e,Nat.zero_mul];omega
theorem Uj (P b x V o:Nat):o+x*P*b+b*V*(B*P)=o+b*(x+B*V)*P:=XG P b x V o (o+x*P*b) _ 0 (by rw[Nat.mul_zero,Nat.add_zero]) rfl
theorem I9 (n:Nat):val (List.replicate n 0)=0:=by
 induction n with
 |zero=>rfl|succ n ih=>rw[List.replicate_succ];show 0+B*val _=0;rw[ih];rfl
theorem Lm {wr:World}{N g L cap:Nat}{os:List Nat}(hown:wr.ownsRow N 268 1 (.slice (some ⟨g,0,none⟩) L cap) L (os.map (fun d=>Value.int .u32 (d:Nat))))(hos:os.length=L){j:Nat}(hj:j<L):wr.cell? ⟨g,j,none⟩=some (.int .u32 (os.getD j 0:Nat))∧wr.frozen? ⟨g,j,none⟩=false:=by refine⟨(hown.cellAt j (by omega)).trans ?_,hown.frozenAt j⟩;rw[List.getElem?_map,List.getD,zK (by omega)];rfl
theorem Qi {w wr:World}{N L cap:Nat}{os:List Nat}(hown:wr.ownsRow N 268 1 (.slice (some ⟨N,0,none⟩) L cap) L (os.map (fun d=>Value.int .u32 (d:Nat))))(hnx:Below N w wr)(j d:Nat){v:Int}(hv:v=(d:Nat)) :
 (wr.setCell ⟨N,j,none⟩ (.int .u32 v)).ownsRow N 268 1 (.slice (some ⟨N,0,none⟩) L cap) L ((os.set j d).map (fun d=>Value.int .u32 (d:Nat)))∧Below N w (wr.setCell ⟨N,j,none⟩ (.int .u32 v)):=by
 subst hv;have h:=(hown.stored j (.int .u32 (d:Nat))).1;rw[List.map_set];exact⟨h,hnx.setCell (p:=⟨N,j,none⟩) (zI _) _⟩
theorem mac {c o x y:Nat}(hc:c<B)(ho:o<B)(hx:x<B)(hy:y<B):IntKind.u64.wrap ((c:Int)+IntKind.u64.wrap (IntKind.u64.wrap (o:Int)+IntKind.u64.wrap (IntKind.u64.wrap (x:Int)*IntKind.u64.wrap (y:Int))))=((c+(o+x*y):Nat):Int):=by have hT:=Pa hc ho hx hy;rw[wrap_u64 o (by simp only[B]at ho;omega),wrap_u64 x (by simp only[B]at hx;omega),wrap_u64 y (by simp only[B]at hy;omega),←Int.natCast_mul];generalize x*y=p at *;simp only[B]at hT;rw[wrap_u64 p (by omega),←Int.natCast_add,wrap_u64 _ (by omega),←Int.natCast_add,wrap_u64 _ (by omega)]
theorem Om {T:Nat}(h:T<B*B):(T:Int)%1000000000=((T%B:Nat):Int)∧IntKind.u64.wrap (((T:Int)).tdiv 1000000000)=((T/B:Nat):Int):=by
 simp only[B]at h ⊢;constructor
 ·omega
 ·rw[Int.tdiv_eq_ediv_of_nonneg (Int.natCast_nonneg T),show(T:Int)/1000000000=((T/1000000000:Nat):Int) by omega,wrap_u64 _ (by omega)]
set_option maxHeartbeats 3200000 in
set_option maxRecDepth 1000000 in
theorem VE (a b:List Nat)(A0 A1:Option Addr)(c0 c1:Nat)(w:World)(hda:∀d∈a,d<B)(hdb:∀d∈b,d<B)(hLL:a.length+b.length+1<1000000)(hc0:a.length≤c0)(hc1:b.length≤c1)
 (h0:0<a.length→∃b' o,A0=some ⟨b',o,none⟩ ∧b'<w.heap.size∧∀i,i<a.length→w.cell? ⟨b',o+i,none⟩=some (.int .u32 (a.getD i 0:Nat)))
 (h1:0<b.length→∃b' o,A1=some ⟨b',o,none⟩ ∧b'<w.heap.size∧∀i,i<b.length→w.cell? ⟨b',o+i,none⟩=some (.int .u32 (b.getD i 0:Nat))) :
 Calls Tryz.prog 443 #[.slice A0 a.length c0,.slice A1 b.length c1] w (fun e w'=>∃v os,e=.returned v∧w'.ownsRow w.heap.size 268 1 v (a.length+b.length+1) (os.map (fun d=>Value.int .u32 (d:Nat)))∧os.length=a.length+b.length+1∧(∀q∈os,q<B)∧val os=val b*val a∧Below w.heap.size w w'):=by
 obtain⟨i0,hi,hz0,hz1,hz2⟩:=info_parts E1;generalize hL:a.length=L at *;generalize hM:b.length=M at *
 go_enter Tryz.func443,Tryz.ntmps443
 go_wp2_with (at_make;go_loud (refine wpList_make_full _ rfl _ _ 147 rfl w.heap.size 268 i0 (.int .u32 0) 1 Tryz.underlying147 hi hz0 hz1 _ _ _ _ (L+M+1) rfl rfl (by omega) (by omega) ?b2 ?b3 (zI _) ?_))
 case b2=>rw[hz2];omega
 case b3=>unfold maxLen;omega
 intro w0 hown0 hgrow0
 go_wp2
 go_loopw [20] (fun si wr=>∃(i:Nat) (os:List Nat),i≤L∧si=.int .i64 i∧os.length=L+M+1∧(∀q∈os,q<B)∧(∀q,i+M≤q→os.getD q 0=0)∧
  wr.ownsRow w.heap.size 268 1 (.slice (some ⟨w.heap.size,0,none⟩) (L+M+1) (L+M+1)) (L+M+1) (os.map (fun d=>Value.int .u32 (d:Nat)))∧val os+val b*val (a.drop i)*B^i=val b*val a∧Below w.heap.size w wr)
  (fun si _=>(L-(intOf si).toNat))
 case atStart=>
  refine⟨0,List.replicate (L+M+1) 0,Nat.zero_le _,rfl,by simp,fun q hq=>by rw[List.eq_of_mem_replicate hq];decide,fun q _=>?_,?_,?_,(Below.refl _ _).grown hgrow0 (zI _) (fun k h=>by cases h)⟩
  ·rw[List.getD];cases e:(List.replicate (L+M+1) 0)[q]? with
   |none=>rfl|some z=>exact List.eq_of_mem_replicate (List.mem_of_getElem? e)
  ·have h:=Hw (L+M+1);rw[Nat.mul_one,List.nil_append]at h;rw[←h];exact hown0
  ·rw[I9,List.drop_zero,Nat.pow_zero];omega
 case round=>
  obtain⟨i,os0,hil,rfl,hos0,hlt0,hz,hown,hx,hnx⟩:=hrel;by_cases hiL:i<L
  ·obtain⟨b0,o0,rfl,hb0,hcell0⟩:=h0 (by omega);have hc1':=(hnx.cell (p:=⟨b0,o0+i,none⟩) hb0).trans (hcell0 i hiL);have hx1:=AP hda i;generalize hX:a.getD i 0=x at *
   go_wp2
   go_loopw [8,27] (fun cc sk wx=>∃(k c:Nat) (os:List Nat),k≤M∧sk=.int .i64 k∧cc=.int .u64 c∧c<B∧os.length=L+M+1∧(∀q∈os,q<B)∧(∀q,i+M≤q→os.getD q 0=0)∧
    wx.ownsRow w.heap.size 268 1 (.slice (some ⟨w.heap.size,0,none⟩) (L+M+1) (L+M+1)) (L+M+1) (os.map (fun d=>Value.int .u32 (d:Nat)))∧val os+c*B^(i+k)+x*B^(i+k)*val (b.drop k)=val os0+x*B^i*val b∧Below w.heap.size w wx)
    (fun _ sk _=>(M-(intOf sk).toNat))
   case atStart=>exact⟨0,0,os0,Nat.zero_le _,rfl,rfl,by decide,hos0,hlt0,hz,hown,by simp,hnx⟩
   case round=>
    obtain⟨k,c,os,hkl,rfl,rfl,hc,hos,hlt,hzk,hownk,hxk,hnk⟩:=hrel;by_cases hkM:k<M
    ·obtain⟨b1,o1,rfl,hb1,hcell1⟩:=h1 (by omega);have hc2':=(hnk.cell (p:=⟨b1,o1+k,none⟩) hb1).trans (hcell1 k hkM);have hy1:=AP hdb k;obtain⟨hco,hfo⟩:=Lm hownk hos (show i+k<L+M+1 by omega);have ho1:=AP hlt (i+k);have hT:=Pa hc ho1 hx1 hy1;have he:((i:Int)+(k:Int)).toNat=i+k:=by omega
     have hs:=fun v=>MA os (i+k) v (by omega)
     have hne:=fun v q (hq:i+M≤q)=>getD_set_ne os (i+k) q v (by omega)
     have hd:=Bf b k (by rw[hM];exact hkM);generalize hYY:b.getD k 0=y at *;generalize hOO:os.getD (i+k) 0=o at *;have hm:=mac hc ho1 hx1 hy1;have hT2:c+(o+x*y)<B*B:=by rw[←Nat.add_assoc];exact hT
     obtain⟨hlo,hhi⟩:=Om hT2
     go_wp2
     rw[show(c:Int)+((o:Int)+(x:Int)*(y:Int))=((c+(o+x*y):Nat):Int) by simp,hhi];obtain⟨q1,q2⟩:=Qi hownk hnk (i+k) _ hlo;refine⟨⟨k+1,_,_,hkM,by simp,rfl,?_,by rw[List.length_set];exact hos,La hlt (Nat.mod_lt _ (by decide)) _,fun q hq=>by rw[hne _ q hq];exact hzk q hq,q1,?_,q2⟩,by simp[intOf];omega⟩
     ·rw[Nat.div_lt_iff_lt_mul (by decide)];exact hT2
     ·rw[←hxk,hd,show i+(k+1)=i+k+1 by omega,PL];exact Aaz (B^(i+k)) o c x y (val (b.drop (k+1))) (c+(o+x*y)) (val os) _ _ (Nat.add_assoc _ _ _).symm (hs _) rfl
    ·have hk':k=M:=by omega
     subst hk';obtain⟨hco,hfo⟩:=Lm hownk hos (show i+k<L+k+1 by omega);rw[hzk (i+k) (zI _)]at hco;have he:((i:Int)+(k:Int)).toNat=i+k:=by omega
     go_wp2
     have hxk':val os+c*B^(i+k)=val os0+x*B^i*val b:=by rw[←hxk,←hM,List.drop_length];rfl
     have hs:=MA os (i+k) c (by omega);rw[hzk (i+k) (zI _),Nat.zero_mul,Nat.add_zero]at hs;obtain⟨q1,q2⟩:=Qi hownk hnk (i+k) c (v:=(c:Int)%4294967296) (by simp only[B]at hc;omega);refine⟨⟨i+1,_,hiL,by simp,by rw[List.length_set];exact hos,La hlt hc _,fun q hq=>?_,q1,?_,q2⟩,by simp[intOf];omega⟩
     ·rw[getD_set_ne os (i+k) q c (by omega)];exact hzk q (by omega)
     ·have hd:=Bf a i (by rw[hL];exact hiL);rw[hX]at hd;rw[hs,hxk',←hx,hd,PL];exact Uj (B^i) (val b) x (val (a.drop (i+1))) (val os0)
  ·have hi':i=L:=by omega
   subst hi'
   go_wp2
   go_ret
   refine⟨_,os0,rfl,hown,hos0,hlt0,?_,hnx⟩;rw[←hx,←hL,List.drop_length];show _=_+val b*0*_;rw[Nat.mul_zero,Nat.zero_mul,Nat.add_zero]
theorem Xe {Ok Ok':Nat→Prop}{a b:List Nat}{va vb:Value}{w:World}(ha:∀d∈a,d<B)(hb:∀d∈b,d<B)(hL:a.length+b.length+1<1000000)(hva:Sl w Ok a va)(hvb:Sl w Ok' b vb) :
 Calls Tryz.prog 443 #[va,vb] w (Mz (a.length+b.length+1) (val b*val a) w):=by
 obtain⟨A0,c0,rfl,hc0,h0⟩:=Dw hva;obtain⟨A1,c1,rfl,hc1,h1⟩:=Dw hvb;refine(VE a b A0 A1 c0 c1 w ha hb hL hc0 hc1 h0 h1).mono ?_;rintro e w' ⟨v,os,rfl,hown,q1,q2,q3,hB⟩;exact⟨v,_,rfl,E7 hown q1 (by omega),q1,q2,q3,hB⟩
end Go.Nl
namespace Go.Nl
theorem Tq {U V V2 P high next top a2 M L:Nat}(_hP:0<P)(hV2:V2=high*B+next)(hV:V=V2*P+L)(hU:U=(top*B+a2)*P+M)(ha:a2<B)(hM:M<P)(hh:0<high):U/V≤top/high:=by
 rw[Nat.le_div_iff_mul_le hh];have h1:U/V*V≤U:=Nat.div_mul_le_self _ _;generalize U/V=q at *;have h2:q*high*(B*P)≤q*V:=by
  rw[hV,hV2,Nat.mul_add,Nat.add_mul,Nat.mul_add];have:q*high*(B*P)=q*(high*B*P):=by rw[Nat.mul_assoc,Nat.mul_assoc high B P]
  omega
 have h3:U<(top+1)*(B*P):=by
  rw[hU,Nat.add_mul top 1,Nat.one_mul];have e1:(top*B+a2)*P=top*(B*P)+a2*P:=by rw[Nat.add_mul,Nat.mul_assoc]
  have e2:(a2+1)*P≤B*P:=Nat.mul_le_mul_right _ ha;rw[Nat.add_mul,Nat.one_mul]at e2;omega
 have h4:q*high*(B*P)<(top+1)*(B*P):=by omega
 have:=Nat.lt_of_mul_lt_mul_right h4;omega
theorem UH {U V V2 P U3 g M L:Nat}(hV:V=V2*P+L)(hU:U=U3*P+M)(hM:M<P)(hg:U3<g*V2):U/V<g:=by
 have h1:U/V*V≤U:=Nat.div_mul_le_self _ _;generalize U/V=q at *;have h2:q*V2*P≤q*V:=by rw[hV,Nat.mul_add,Nat.mul_assoc];omega
 have h3:U<(U3+1)*P:=by rw[hU,Nat.add_mul,Nat.one_mul];omega
 have h4:q*V2*P<(U3+1)*P:=by omega
 have h5:=Nat.lt_of_mul_lt_mul_right h4;have h6:q*V2<g*V2:=by omega
 exact Nat.lt_of_mul_lt_mul_right h6
theorem WV {U V V2 P U3 g M L high next:Nat}(hV2:V2=high*B+next)(hV:V=V2*P+L)(hU:U=U3*P+M)(hL:L<P)(hh:0<high)(hg:g*V2≤U3)(hgB:g<B):g*V<U+V:=by
 have e1:g*V=g*V2*P+g*L:=by rw[hV,Nat.mul_add,Nat.mul_assoc]
 have e2:g*V2*P≤U3*P:=Nat.mul_le_mul_right _ hg;have e3:g*L≤B*L:=Nat.mul_le_mul_right _ (Nat.le_of_lt hgB);have e4:B*L<B*P:=Nat.mul_lt_mul_of_pos_left hL (by decide);have e5:B*P≤V:=by rw[hV,hV2,Nat.add_mul];have:1*(B*P)≤high*(B*P):=Nat.mul_le_mul_right _ hh;rw[Nat.one_mul,←Nat.mul_assoc]at this;omega
 omega
theorem XT {U V g:Nat}(hV:0<V)(h1:U/V≤g)(h2:g*V≤U):g=U/V:=Nat.le_antisymm ((Nat.le_div_iff_mul_le hV).2 h2) h1
theorem Si {U V g:Nat}(hV:0<V)(h1:U/V≤g)(h2:¬g*V≤U)(h3:g*V<U+V):0<g∧g-1=U/V:=by
 have h0:0<g:=by
  rcases Nat.eq_zero_or_pos g with h|h
  ·subst h;simp at h2
  ·exact h
 refine⟨h0,?_⟩;obtain⟨j,rfl⟩:∃j,g=j+1:=⟨g-1,by omega⟩;rw[Nat.add_mul,Nat.one_mul]at h3;have h4:j*V≤U:=by omega
 have h5:j≤U/V:=(Nat.le_div_iff_mul_le hV).2 h4;have h6:¬(j+1≤U/V):=fun h=>h2 ((Nat.le_div_iff_mul_le hV).1 h)
 omega
def Bg:List Nat→List Nat→Nat→Nat→Nat→List Nat×Nat
 |[],_,_,_,r=>([],r)|x::xs,bs,t,c,r=>
  let c':=c+bs.headD 0*t
  let take:=c' % B+r
  let p:=Bg xs bs.tail t (c' / B) (if x<take then 1 else 0)
  ((if x<take then x+B-take else x-take)::p.1,p.2)
theorem EX:∀(xs bs:List Nat) (t c r:Nat),(Bg xs bs t c r).1.length=xs.length
 |[],_,_,_,_=>rfl|x::xs,bs,t,c,r=>by rw[Bg];simp[EX xs]
theorem PG (W x y t c r X V R Bn c2:Nat)(d:Nat)(_hB:0<B)(hd:d+(((c+y*t)%B)+r)=x+R*B)(hw:W+t*V+(c+y*t)/B+R=X+Bn)(hc2:c2=Bn*B):(d+B*W)+t*(y+B*V)+c+r=x+B*X+c2:=by
 have e1:=Nat.mod_add_div (c+y*t) B;generalize (c+y*t)%B=m at *;generalize (c+y*t)/B=D at *;have e2:t*(y+B*V)=y*t+B*(t*V):=by rw[Nat.mul_add,Nat.mul_comm t y,Nat.mul_left_comm]
 have e3:B*(W+t*V+D+R)=B*(X+Bn):=by rw[hw]
 have e4:B*(W+t*V+D+R)=B*W+B*(t*V)+B*D+B*R:=by rw[Nat.mul_add,Nat.mul_add,Nat.mul_add]
 have e5:B*(X+Bn)=B*X+B*Bn:=Nat.mul_add _ _ _;rw[e2,hc2,Nat.mul_comm Bn B];rw[Nat.mul_comm R B]at hd;generalize B*W=b1 at *;generalize B*(t*V)=b2 at *;generalize B*D=b3 at *;generalize B*R=b4 at *;generalize B*X=b5 at *;generalize B*Bn=b6 at *;generalize y*t=yt at *;omega
theorem O6:∀(xs bs:List Nat) (t c r:Nat),(∀d∈xs,d<B)→(∀d∈bs,d<B)→t<B→c<B→r≤1→bs.length<xs.length→
 val (Bg xs bs t c r).1+t*val bs+c+r=val xs+(Bg xs bs t c r).2*B^xs.length∧(∀d∈(Bg xs bs t c r).1,d<B)∧(Bg xs bs t c r).2≤1
 |[],bs,t,c,r,_,_,_,_,_,h=>by simp at h
 |x::xs,bs,t,c,r,hx,hb,ht,hc,hr,h=>by
  have h1:=Hn hb;have h2:=hx x (by simp);have hv:=KH bs;have hxs:∀d∈xs,d<B:=fun d hd=>hx d (by simp[hd])
  have hy:bs.headD 0*t≤(B-1)*(B-1):=Nat.mul_le_mul (by omega) (by omega);have hcb:(c+bs.headD 0*t)/B<B:=by
   rw[Nat.div_lt_iff_lt_mul (by decide)];have:(B-1)*(B-1)+(B-1)<B*B:=by decide
   omega
  have hm:(c+bs.headD 0*t)%B<B:=Nat.mod_lt _ (by decide);have hlen:bs.tail.length<xs.length∨(xs=[]∧bs=[]):=by
   rw[List.length_tail];simp at h;rcases Nat.eq_zero_or_pos xs.length with h0|h0
   ·right
    exact⟨List.length_eq_zero_iff.1 h0,List.length_eq_zero_iff.1 (by omega)⟩
   ·left;omega
  have hp:∀(R:Nat),R≤1→val (Bg xs bs.tail t ((c+bs.headD 0*t)/B) R).1+t*val bs.tail+(c+bs.headD 0*t)/B+R=val xs+(Bg xs bs.tail t ((c+bs.headD 0*t)/B) R).2*B^xs.length∧(∀d∈(Bg xs bs.tail t ((c+bs.headD 0*t)/B) R).1,d<B)∧(Bg xs bs.tail t ((c+bs.headD 0*t)/B) R).2≤1:=by
   intro R hR;rcases hlen with hl|⟨rfl,rfl⟩
   ·exact O6 xs bs.tail t _ R hxs (KI hb) ht hcb hR hl
   ·have e:(c+([]:List Nat).headD 0*t)/B=0:=by simp only[List.headD_nil,Nat.zero_mul,Nat.add_zero];exact Nat.div_eq_of_lt hc
    rw[e];refine⟨?_,by simp[Bg],hR⟩;show 0+t*0+0+R=0+R*1;omega
  have hpow:B^(x::xs).length=B^xs.length*B:=Nat.pow_succ _ _;have hvx:val (x::xs)=x+B*val xs:=rfl;rw[Bg];dsimp only;rw[hvx,hv,hpow,←Nat.mul_assoc];generalize bs.headD 0=y at *;by_cases hlt:x<(c+y*t)%B+r
  ·obtain⟨i1,i2,i3⟩:=hp 1 (zI _);rw[if_pos hlt,if_pos hlt];refine⟨?_,fun d hd=>?_,i3⟩
   ·show(x+B-((c+y*t)%B+r)+B*val _)+t*(y+B*val bs.tail)+c+r=_;refine PG _ x y t c r _ _ 1 _ _ _ (by decide) ?_ i1 rfl;omega
   ·rcases zH.1 hd with e|e
    ·rw[e];omega
    ·exact i2 d e
  ·obtain⟨i1,i2,i3⟩:=hp 0 (by decide);rw[if_neg hlt,if_neg hlt];refine⟨?_,fun d hd=>?_,i3⟩
   ·show(x-((c+y*t)%B+r)+B*val _)+t*(y+B*val bs.tail)+c+r=_;refine PG _ x y t c r _ _ 0 _ _ _ (by decide) ?_ i1 rfl;omega
   ·rcases zH.1 hd with e|e
    ·rw[e];omega
    ·exact i2 d e
def Ck:List Nat→List Nat→Nat→List Nat×Nat
 |[],_,c=>([],c)|x::xs,bs,c=>let p:=Ck xs bs.tail ((x+c+bs.headD 0)/B);((x+c+bs.headD 0)%B::p.1,p.2)
theorem GS:∀(xs bs:List Nat) (c:Nat),(Ck xs bs c).1.length=xs.length
 |[],_,_=>rfl|x::xs,bs,c=>by rw[Ck];simp[GS xs]
theorem Pk:∀(xs bs:List Nat) (c:Nat),(∀d∈xs,d<B)→(∀d∈bs,d<B)→c≤1→bs.length≤xs.length→
 val (Ck xs bs c).1+(Ck xs bs c).2*B^xs.length=val xs+val bs+c∧(∀d∈(Ck xs bs c).1,d<B)∧(Ck xs bs c).2≤1
 |[],bs,c,_,_,hc,h=>by have:bs=[]:=List.length_eq_zero_iff.1 (Nat.le_zero.1 h);subst this;refine⟨?_,by simp[Ck],hc⟩;show 0+c*1=0+0+c;omega
 |x::xs,bs,c,hx,hb,hc,h=>by
  have h1:=Hn hb;have h2:=hx x (by simp);have hv:=KH bs;have hxs:∀d∈xs,d<B:=fun d hd=>hx d (by simp[hd])
  have hv':val (x::xs)=x+B*val xs:=rfl;have hl:bs.tail.length≤xs.length:=by rw[List.length_tail];simp at h;omega
  have hpow:B^(x::xs).length=B*B^xs.length:=PL _;rw[hv',hv,Ck,hpow];dsimp only;generalize bs.headD 0=y at *;have hq:(x+c+y)/B≤1:=by simp only[B]at *;omega
  obtain⟨i1,i2,i3⟩:=Pk xs bs.tail ((x+c+y)/B) hxs (KI hb) hq hl;refine⟨?_,fun d hd=>?_,i3⟩
  ·show(x+c+y)%B+B*val _+_=_;have e:(Ck xs bs.tail ((x+c+y)/B)).2*(B*B^xs.length)=B*((Ck xs bs.tail ((x+c+y)/B)).2*B^xs.length):=Nat.mul_left_comm _ _ _;rw[e];have e2:=Nat.mod_add_div (x+c+y) B;generalize (Ck xs bs.tail ((x+c+y)/B)).2*B^xs.length=z at *;have e3:B*(val (Ck xs bs.tail ((x+c+y)/B)).1+z)=B*(val xs+val bs.tail+(x+c+y)/B):=by rw[i1]
   rw[Nat.mul_add,Nat.mul_add,Nat.mul_add]at e3;omega
  ·rcases zH.1 hd with e|e
   ·rw[e];exact Nat.mod_lt _ (by decide)
   ·exact i2 d e
def Bc:List Nat→Nat→Nat→List Nat
 |[],_,c=>[c]|x::xs,t,c=>(c+x*t)%B::Bc xs t ((c+x*t)/B)
theorem Dt:∀(xs:List Nat) (t c:Nat),(Bc xs t c).length=xs.length+1
 |[],_,_=>rfl|x::xs,t,c=>by rw[Bc];simp[Dt xs]
theorem Jl:∀(xs:List Nat) (t c:Nat),(∀d∈xs,d<B)→t<B→c<B→val (Bc xs t c)=val xs*t+c∧∀d∈Bc xs t c,d<B
 |[],t,c,_,_,hc=>by
  refine⟨?_,fun d hd=>?_⟩
  ·show c+B*0=0*t+c;omega
  ·have:d=c:=by simpa[Bc]using hd
   omega
 |x::xs,t,c,hx,ht,hc=>by
  have h2:=hx x (by simp);have hxs:∀d∈xs,d<B:=fun d hd=>hx d (by simp[hd])
  have hy:x*t≤(B-1)*(B-1):=Nat.mul_le_mul (by omega) (by omega);have hcb:(c+x*t)/B<B:=by
   rw[Nat.div_lt_iff_lt_mul (by decide)];have:(B-1)*(B-1)+(B-1)<B*B:=by decide
   omega
  obtain⟨i1,i2⟩:=Jl xs t ((c+x*t)/B) hxs ht hcb;rw[Bc];refine⟨?_,fun d hd=>?_⟩
  ·show(c+x*t)%B+B*val _=(x+B*val xs)*t+c;rw[i1,Nat.mul_add,Nat.add_mul,Nat.mul_assoc];have e2:=Nat.mod_add_div (c+x*t) B;generalize B*(val xs*t)=z at *;omega
  ·rcases zH.1 hd with e|e
   ·rw[e];exact Nat.mod_lt _ (by decide)
   ·exact i2 d e
end Go.Nl
namespace Go.Nl
open Go Go.Proofs Go.RowKit
theorem Qx {c x y:Nat}(hc:c<B)(hx:x<B)(hy:y<B):c+x*y<B*B:=by
 have h1:x*y≤(B-1)*(B-1):=Nat.mul_le_mul (by omega) (by omega);have h2:(B-1)*(B-1)+(B-1)<B*B:=by decide
 omega
theorem mac2 {c x y:Nat}(hc:c<B)(hx:x<B)(hy:y<B):IntKind.u64.wrap ((c:Int)+IntKind.u64.wrap (IntKind.u64.wrap (x:Int)*IntKind.u64.wrap (y:Int)))=((c+x*y:Nat):Int):=by have hT:=Qx hc hx hy;rw[wrap_u64 x (by simp only[B]at hx;omega),wrap_u64 y (by simp only[B]at hy;omega),←Int.natCast_mul];generalize x*y=p at *;simp only[B]at hT;rw[wrap_u64 p (by omega),←Int.natCast_add,wrap_u64 _ (by omega)]
theorem Se {a:List Nat}{i t c:Nat}(h:i<a.length):Bc (a.drop i) t c=((c+a.getD i 0*t)%B)::Bc (a.drop (i+1)) t ((c+a.getD i 0*t)/B):=by rw[Bf a i h,Bc]
set_option maxHeartbeats 3200000 in
set_option maxRecDepth 1000000 in
theorem SU (a:List Nat)(t:Nat)(A0:Option Addr)(c0:Nat)(w:World)(hla:a.length<1000000)(hda:∀d∈a,d<B)(ht:t<B)(hc0:a.length≤c0)
 (h0:0<a.length→∃b' o,A0=some ⟨b',o,none⟩ ∧b'<w.heap.size∧∀i,i<a.length→w.cell? ⟨b',o+i,none⟩=some (.int .u32 (a.getD i 0:Nat))) :
 Calls Tryz.prog 371 #[.slice A0 a.length c0,.int .u32 t] w (fun e w'=>∃v,e=.returned v∧w'.ownsRow w.heap.size 268 1 v (a.length+1) ((Bc a t 0).map (fun d=>Value.int .u32 (d:Nat)))∧Below w.heap.size w w'):=by
 obtain⟨i0,hi,hz0,hz1,hz2⟩:=info_parts E1;generalize hL:a.length=L at *
 go_enter Tryz.func371,Tryz.ntmps371
 go_wp2_with (at_make;go_loud (refine wpList_make_full _ rfl _ _ 147 rfl w.heap.size 268 i0 (.int .u32 0) 1 Tryz.underlying147 hi hz0 hz1 _ _ _ _ (L+1) rfl rfl (by omega) (by omega) ?b2 ?b3 (zI _) ?_))
 case b2=>rw[hz2];omega
 case b3=>unfold maxLen;omega
 intro w0 hown0 hgrow0
 go_wp2
 go_loopw [6,15] (fun cc si wr=>∃(i c:Nat) (xs:List Nat),i≤L∧si=.int .i64 i∧cc=.int .u64 c∧c<B∧xs.length=i∧
  wr.ownsRow w.heap.size 268 1 (.slice (some ⟨w.heap.size,0,none⟩) (L+1) (L+1)) (L+1) ((xs++List.replicate (L+1-i) 0).map (fun d=>Value.int .u32 (d:Nat)))∧xs++Bc (a.drop i) t c=Bc a t 0∧Below w.heap.size w wr)
  (fun _ si _=>(L-(intOf si).toNat))
 case atStart=>exact⟨0,0,[],Nat.zero_le _,rfl,rfl,by decide,rfl,by rw[Nat.sub_zero,←Hw,Nat.mul_one];exact hown0,by simp,(Below.refl _ _).grown hgrow0 (zI _) (fun k h=>by cases h)⟩
 case round=>
  obtain⟨i,c,xs,hil,rfl,rfl,hc,hxl,hown,hx,hnx⟩:=hrel;have hco:=(hown.cellAt i (by omega)).trans (RZ xs (L+1-i) i (by omega));have hfo:=hown.frozenAt i;by_cases hiL:i<L
  ·obtain⟨b0,o0,rfl,hb0,hcell0⟩:=h0 (by omega);have hc1':=(hnx.cell (p:=⟨b0,o0+i,none⟩) hb0).trans (hcell0 i hiL);have hx1:=AP hda i;have hst:=Se (t:=t) (c:=c) (by rw[hL];exact hiL);generalize hX:a.getD i 0=x at *;have hT:=Qx hc hx1 ht;have hp0:(0:Int)≤(x:Int)*(t:Int):=by rw[←Int.natCast_mul];omega
   have hm:=mac2 hc hx1 ht;obtain⟨hlo,hhi⟩:=Om hT
   go_wp2
   rw[show(c:Int)+(x:Int)*(t:Int)=((c+x*t:Nat):Int) by simp,hhi];obtain⟨q1,q2⟩:=Me hown hxl (by omega) hnx _ hlo;exact⟨⟨i+1,_,_,hiL,by simp,rfl,by rw[Nat.div_lt_iff_lt_mul (by decide)];exact hT,by simp[hxl],q1,by rw[←hx,hst];simp,q2⟩,by simp[intOf];omega⟩
  ·have hi':i=L:=by omega
   subst hi'
   go_wp2
   go_ret
   obtain⟨q1,q2⟩:=Me hown hxl (by omega) hnx c (v:=(c:Int)%4294967296) (by simp only[B]at hc;omega);refine⟨_,rfl,?_,q2⟩;rw[←hx,←hL,List.drop_length];simpa[Bc,hL]using q1
theorem M7 {Ok:Nat→Prop}{a:List Nat}{va:Value}{t n:Nat}{w:World}(hn:a.length=n)(ha:∀d∈a,d<B)(hl:a.length<1000000)(ht:t<B)(hva:Sl w Ok a va) :
 Calls Tryz.prog 371 #[va,.int .u32 t] w fun e w'=>∃v,e=.returned v∧w'.ownsRow w.heap.size 268 1 v (n+1) ((Bc a t 0).map (fun d=>Value.int .u32 (d:Nat)))∧Below w.heap.size w w':=by
 subst hn;obtain⟨A0,c0,rfl,hc0,h0⟩:=Dw hva;exact SU a t A0 c0 w hl ha ht hc0 h0
theorem Z6 (r:Nat):(r:Int)*1000000000=((r*B:Nat):Int):=by rw[Int.natCast_mul];rfl
theorem Tr (a t:Nat):((a:Nat):Int).tdiv (t:Int)=((a/t:Nat):Int):=by rw[Int.tdiv_eq_ediv_of_nonneg (Int.natCast_nonneg _)];exact(Int.natCast_ediv a t).symm
theorem NL (a t:Nat):((a:Nat):Int).tmod (t:Int)=((a%t:Nat):Int):=by rw[Int.tmod_eq_emod_of_nonneg (Int.natCast_nonneg _)];exact(Int.natCast_emod a t).symm
theorem QV {q:Nat}(h:q<B):(q:Int)%4294967296=q:=by simp only[B]at h;omega
def Dj (d:Nat):List Nat→List Nat×Nat
 |[]=>([],0)|z::zs=>let t:=(Dj d zs).2*B+z;(t/d::(Dj d zs).1,t%d)
theorem Ko (d:Nat):∀zs,(Dj d zs).1.length=zs.length
 |[]=>rfl|z::zs=>by simp[Dj,Ko d zs]
theorem Mo {d:Nat}(h:0<d):∀zs,(Dj d zs).2<d
 |[]=>h|_::_=>Nat.mod_lt _ h
theorem RT {d:Nat}(h:0<d):∀{zs:List Nat},(∀z∈zs,z<B)→val (Dj d zs).1*d+(Dj d zs).2=val zs∧∀q∈(Dj d zs).1,q<B
 |[],_=>⟨by simp[Dj,val],by simp[Dj]⟩
 |z::zs,hz=>by
  obtain⟨i1,i2⟩:=RT h (zs:=zs) (fun x hx=>hz x (by simp[hx]));have h1:=hz z (by simp);have h2:=Mo h zs;rw[Dj];dsimp only;refine⟨?_,fun q hq=>?_⟩
  ·show(((Dj d zs).2*B+z)/d+B*val (Dj d zs).1)*d+((Dj d zs).2*B+z)%d=z+B*val zs;rw[←i1,Nat.add_mul,Nat.mul_add,Nat.mul_assoc];have:=Nat.div_add_mod ((Dj d zs).2*B+z) d;rw[Nat.mul_comm d]at this;rw[Nat.mul_comm B (Dj d zs).2];omega
  ·rcases zH.1 hq with e|e
   ·rw[e,Nat.div_lt_iff_lt_mul h];have:((Dj d zs).2+1)*B≤d*B:=Nat.mul_le_mul_right _ h2;rw[Nat.add_mul,Nat.one_mul,Nat.mul_comm d B]at this;omega
   ·exact i2 q e
theorem Pg {zs:List Nat}{k:Nat}(h:k<zs.length):zs.drop (zs.length-(k+1))=zs.getD (zs.length-1-k) 0::zs.drop (zs.length-k):=by
 rw[Bf zs (zs.length-(k+1)) (by omega)];have e1:zs.length-(k+1)=zs.length-1-k:=by omega
 have e2:zs.length-1-k+1=zs.length-k:=by omega
 rw[e1,e2]
theorem Xv {zs:List Nat}{d k:Nat}(h:k<zs.length):(List.replicate (zs.length-k) 0++(Dj d (zs.drop (zs.length-k))).1).set (zs.length-1-k) (((Dj d (zs.drop (zs.length-k))).2*B+zs.getD (zs.length-1-k) 0)/d)=List.replicate (zs.length-(k+1)) 0++(Dj d (zs.drop (zs.length-(k+1)))).1:=by
 rw[Pg h,Dj];dsimp only;have e:zs.length-k=(zs.length-(k+1))+1:=by omega
 have e2:zs.length-1-k=zs.length-(k+1):=by omega
 rw[e2,e,List.replicate_succ',List.append_assoc,List.set_append_right _ _ (by simp)];simp
theorem rb_quo {r t x:Nat}(h2:r<t)(hx:x<B):(r*B+x)/t<B:=by rw[Nat.div_lt_iff_lt_mul (by omega)];have:(r+1)*B≤t*B:=Nat.mul_le_mul_right _ h2;rw[Nat.add_mul,Nat.one_mul,Nat.mul_comm t B]at this;omega
set_option maxHeartbeats 3200000 in
set_option maxRecDepth 1000000 in
theorem T7 (a:List Nat)(t:Nat)(A0:Option Addr)(c0:Nat)(w:World)(hla:a.length<1000000)(hda:∀d∈a,d<B)(ht0:0<t)(ht:t<B)(hc0:a.length≤c0)
 (h0:0<a.length→∃b' o,A0=some ⟨b',o,none⟩ ∧b'<w.heap.size∧∀i,i<a.length→w.cell? ⟨b',o+i,none⟩=some (.int .u32 (a.getD i 0:Nat))) :
 Calls Tryz.prog 344 #[.slice A0 a.length c0,.int .u32 t] w (fun e w'=>∃cap,e=.returned (.tuple #[.slice (some ⟨w.heap.size,0,none⟩) a.length cap,.int .u32 ((Dj t a).2:Nat)])∧w'.ownsRow w.heap.size 268 1 (.slice (some ⟨w.heap.size,0,none⟩) a.length cap) a.length ((Dj t a).1.map (fun d=>Value.int .u32 (d:Nat)))∧Below w.heap.size w w'):=by
 obtain⟨i0,hi,hz0,hz1,hz2⟩:=info_parts E1;have hback:=fun k (h:k<a.length)=>Xv (d:=t) h
 have hdb:=fun k (h:k<a.length)=>Pg h
 generalize hL:a.length=L at *
 go_enter Tryz.func344,Tryz.ntmps344
 go_wp2_with (at_make;go_loud (refine wpList_make_full _ rfl _ _ 147 rfl w.heap.size 268 i0 (.int .u32 0) 1 Tryz.underlying147 hi hz0 hz1 _ _ _ _ L rfl rfl rfl rfl ?b2 ?b3 (zI _) ?_))
 case b2=>rw[hz2];omega
 case b3=>unfold maxLen;omega
 intro w0 hown0 hgrow0
 go_wp2
 go_loopw [7,15] (fun cc si wr=>∃k:Nat,k≤L∧si=.int .i64 k∧cc=.int .u64 ((Dj t (a.drop (L-k))).2:Nat)∧
  wr.ownsRow w.heap.size 268 1 (.slice (some ⟨w.heap.size,0,none⟩) L L) L ((List.replicate (L-k) 0++(Dj t (a.drop (L-k))).1).map (fun d=>Value.int .u32 (d:Nat)))∧Below w.heap.size w wr)
  (fun _ si _=>(L-(intOf si).toNat))
 case atStart=>exact⟨0,Nat.zero_le _,rfl,by rw[Nat.sub_zero,←hL,List.drop_length];rfl,by rw[Nat.sub_zero,←hL,List.drop_length,hL];have h:=Hw L;rw[Nat.mul_one,List.nil_append]at h;simp only[Dj,List.append_nil];rw[←h];exact hown0,(Below.refl _ _).grown hgrow0 (zI _) (fun k h=>by cases h)⟩
 case round=>
  obtain⟨k,hkl,rfl,rfl,hown,hnx⟩:=hrel;by_cases hkL:k<L
  ·obtain⟨b0,o0,rfl,hb0,hcell0⟩:=h0 (by omega);have hc1':=(hnx.cell (p:=⟨b0,o0+(L-1-k),none⟩) hb0).trans (hcell0 (L-1-k) (by omega));have hlen:(List.replicate (L-k) 0++(Dj t (a.drop (L-k))).1).length=L:=by simp only[zR,List.length_replicate,Ko,List.length_drop];omega
   obtain⟨hco,hfo⟩:=Lm hown hlen (j:=L-1-k) (by omega);have hset:=hback k hkL;have hdr:=hdb k hkL;have hx1:=AP hda (L-1-k);have hr1:=Mo ht0 (a.drop (L-k));have he1:((L:Int)-1-(k:Int))=((L-1-k:Nat):Int):=by omega
   generalize hX:a.getD (L-1-k) 0=x at *;generalize hR:(Dj t (a.drop (L-k))).2=r at *;have hq:=rb_quo hr1 hx1;have hp0:(0:Int)≤(r:Int)*1000000000+x:=by omega
   have hp1:(r:Int)*1000000000+x<1000000000000000000:=by simp only[B]at ht hx1;omega
   have hwt:IntKind.u64.wrap (t:Int)=t:=wrap_u64 t (by simp only[B]at ht;omega);have hr:(t:Int)≠0:=by omega
   go_wp2
   go_region
   go_wp2
   have hcast:(r:Int)*1000000000+(x:Int)=((r*B+x:Nat):Int):=by simp[B]
   obtain⟨q1,q2⟩:=Qi hown hnx (L-1-k) ((r*B+x)/t) (v:=((r:Int)*1000000000+(x:Int))/(t:Int)%4294967296) (by rw[hcast,←Int.natCast_ediv];generalize (r*B+x)/t=q at hq;simp only[B]at hq;omega);refine⟨⟨k+1,hkL,by simp,?_,?_,q2.drew⟩,by simp[intOf];omega⟩
   ·rw[hdr,Dj];dsimp only;rw[hR,hcast,←Int.natCast_emod]
   ·rw[←hset];exact q1.drew
  ·have hi':k=L:=by omega
   subst hi'
   go_wp2
   go_ret2
   rw[Nat.sub_self,List.drop_zero]at hown;have h2:=Mo ht0 a;have e2:(((Dj t a).2:Nat):Int)%4294967296=((Dj t a).2:Nat):=by simp only[B]at ht;omega
   exact⟨k,by simp[e2],by simpa using hown,hnx⟩
theorem LJ {Ok:Nat→Prop}{a:List Nat}{va:Value}{t:Nat}{w:World}(ha:∀d∈a,d<B)(hl:a.length<1000000)(ht0:0<t)(ht:t<B)(hva:Sl w Ok a va)(h0:0<a.length) :
 Calls Tryz.prog 344 #[va,.int .u32 t] w fun e w'=>∃v ds,e=.returned (.tuple #[v,.int .u32 (val a%t:Nat)])∧Sl w' (fun b=>w.heap.size≤b) ds v∧ds.length=a.length∧(∀d∈ds,d<B)∧val ds=val a/t∧Below w.heap.size w w':=by
 obtain⟨A0,c0,rfl,hc0,h0'⟩:=Dw hva;obtain⟨h1,h2⟩:=RT ht0 ha;have h3:=Mo ht0 a;have e1:val (Dj t a).1=val a/t:=by rw[←h1,Nat.mul_comm,Nat.mul_add_div ht0,Nat.div_eq_of_lt h3];rfl
 have e2:(Dj t a).2=val a%t:=by rw[←h1,Nat.mul_comm,Nat.mul_add_mod,Nat.mod_eq_of_lt h3]
 refine(T7 a t A0 c0 w hl ha ht0 ht hc0 h0').mono ?_;rintro e w' ⟨cap,rfl,hown,hB⟩;exact⟨_,_,by rw[←e2],E7 hown (Ko _ _) h0,Ko _ _,h2,e1,hB⟩
theorem XJ (os:List Nat)(j v:Nat)(h:j<os.length):(os.set j v).take (j+1)=os.take j++[v]:=by
 rw[List.take_set,List.take_succ_eq_append_getElem h,List.set_append_right]
 ·simp[Nat.min_eq_left (Nat.le_of_lt h)]
 ·rw[List.length_take];omega
theorem E8 (os:List Nat)(j v q:Nat)(h:j<q):(os.set j v).drop q=os.drop q:=by rw[List.drop_set_of_lt h]
theorem Sg (os:List Nat)(p n i:Nat)(h:p+i<os.length)(hi:i<n+1):(os.drop (p+i)).take (n+1-i)=os.getD (p+i) 0::(os.drop (p+(i+1))).take (n+1-(i+1)):=by
 rw[Bf os (p+i) h];have:n+1-i=(n+1-(i+1))+1:=by omega
 rw[this,List.take_succ_cons];rfl
theorem TN {As bs:List Nat}{p i c:Nat}(h:p+i<As.length)(hi:i<bs.length+1):(Ck ((As.drop (p+i)).take (bs.length+1-i)) (bs.drop i) c).1=(As.getD (p+i) 0+c+bs.getD i 0)%B::(Ck ((As.drop (p+(i+1))).take (bs.length+1-(i+1))) (bs.drop (i+1)) ((As.getD (p+i) 0+c+bs.getD i 0)/B)).1:=by rw[Sg As p bs.length i h hi,Ck,Fh,List.tail_drop]
theorem VK {As:List Nat}{p i n v:Nat}{l:List Nat}(h:p+i<As.length)(hn:i≤n):(As.set (p+i) v).take (p+(i+1))++(l++(As.set (p+i) v).drop (p+n+1))=As.take (p+i)++((v::l)++As.drop (p+n+1)):=by rw[E8 As (p+i) v _ (by omega),show p+(i+1)=p+i+1 by omega,XJ As (p+i) v h];simp
theorem GC {w w':World}{g b i:Nat}(h:w.grownBy w' (some g))(hb:b<w.heap.size)(hg:b≠g):w'.cell? ⟨b,i,none⟩=w.cell? ⟨b,i,none⟩:=by simp only[World.cell?,h.block b hb (fun e=>hg (Option.some.inj e))]
set_option maxHeartbeats 3200000 in
set_option maxRecDepth 1000000 in
theorem WY {As bs:List Nat}{p N ga gb ca c1:Nat}{w:World}(hown0:w.ownsRow N 268 1 (.slice (some ⟨ga,0,none⟩) As.length ca) As.length (As.map (fun d=>Value.int .u32 (d:Nat))))(_hga:ga<w.heap.size)(hgb:gb<w.heap.size)(hne:gb≠ga)
 (hb:∀i,i<bs.length→w.cell? ⟨gb,i,none⟩=some (.int .u32 (bs.getD i 0:Nat))) (_hc1:bs.length≤c1) (hA:p+bs.length+1≤As.length) (hL:As.length<1000000) (hda:∀d∈As,d<B) (hdb:∀d∈bs,d<B) :
 Calls Tryz.prog 373 #[.slice (some ⟨ga,0,none⟩) As.length ca,.slice (some ⟨gb,0,none⟩) bs.length c1,.int .i64 p] w fun e w'=>e=.returned (.tuple #[])∧w'.ownsRow N 268 1 (.slice (some ⟨ga,0,none⟩) As.length ca) As.length ((As.take p++((Ck ((As.drop p).take (bs.length+1)) bs 0).1++As.drop (p+bs.length+1))).map (fun d=>Value.int .u32 (d:Nat)))∧w.grownBy w' (some ga):=by
 have hca:As.length≤ca:=by
  rcases hown0.2 with⟨h,_⟩|⟨g,cap,cur,h,_,_,h2,_⟩
  ·cases h
  ·simp only[Value.slice.injEq]at h;omega
 generalize hF:As.take p++((Ck ((As.drop p).take (bs.length+1)) bs 0).1++As.drop (p+bs.length+1))=F;have hps:=fun (As':List Nat) (c i:Nat)=>TN (As:=As') (bs:=bs) (p:=p) (i:=i) (c:=c)
 generalize hAL:As.length=L at *;generalize hM:bs.length=M at *
 go_enter Tryz.func373,Tryz.ntmps373
 go_wp2
 go_loopw [6,12] (fun cc si wr=>∃(i c:Nat) (As':List Nat),i≤M+1∧si=.int .i64 i∧cc=.int .u32 c∧c≤1∧As'.length=L∧(∀d∈As',d<B)∧
  wr.ownsRow N 268 1 (.slice (some ⟨ga,0,none⟩) L ca) L (As'.map (fun d=>Value.int .u32 (d:Nat)))∧As'.take (p+i)++((Ck ((As'.drop (p+i)).take (M+1-i)) (bs.drop i) c).1++As'.drop (p+M+1))=F∧w.grownBy wr (some ga))
  (fun _ si _=>(M+1-(intOf si).toNat))
 case atStart=>exact⟨0,0,As,Nat.zero_le _,rfl,rfl,by omega,hAL,hda,hown0,by simpa using hF,⟨rfl,rfl,rfl,zI _,fun _ _ _=>rfl⟩⟩
 case round=>
  obtain⟨i,c,As',hil,rfl,rfl,hc,hos,hlt,hown,hx,hg⟩:=hrel;by_cases hiM1:i<M+1
  ·obtain⟨hco,hfo⟩:=Lm hown hos (show p+i<L by omega);have he:((p:Int)+(i:Int)).toNat=p+i:=by omega
   have hx1:=AP hlt (p+i);have hst:=hps As' c i (by omega) (by omega);have hput:=fun v l=>VK (As:=As') (p:=p) (i:=i) (n:=M) (v:=v) (l:=l) (by omega) (by omega)
   generalize hX:As'.getD (p+i) 0=x at *;have fin:∀(y:Nat),bs.getD i 0=y→y<B→∀(v z:Int),v=((x+c+y)%B:Nat)→z=((x+c+y)/B:Nat)→
    (∃(i' c':Nat) (As':List Nat),i'≤M+1∧Value.int .i64 ((i:Int)+1)=.int .i64 i'∧Value.int .u32 z=.int .u32 c'∧c'≤1∧As'.length=L∧(∀d∈As',d<B)∧
     (wr.setCell ⟨ga,p+i,none⟩ (.int .u32 v)).ownsRow N 268 1 (.slice (some ⟨ga,0,none⟩) L ca) L (As'.map (fun d=>Value.int .u32 (d:Nat)))∧As'.take (p+i')++((Ck ((As'.drop (p+i')).take (M+1-i')) (bs.drop i') c').1++As'.drop (p+M+1))=F∧w.grownBy (wr.setCell ⟨ga,p+i,none⟩ (.int .u32 v)) (some ga))∧
    M+1-(intOf (.int .i64 ((i:Int)+1))).toNat<M+1-(intOf (.int .i64 (i:Int))).toNat:=by
    rintro y hY hy v z rfl rfl;rw[hY]at hst;obtain⟨q1,q2⟩:=hown.stored (p+i) (.int .u32 ((x+c+y)%B:Nat));refine⟨⟨i+1,_,As'.set (p+i) ((x+c+y)%B),hiM1,by simp,rfl,by simp only[B]at *;omega,by rw[List.length_set];exact hos,La hlt (Nat.mod_lt _ (by decide)) _,by rw[List.map_set];exact q1,?_,hg.trans q2⟩,by simp[intOf];omega⟩;rw[hput,←hx,hst,E8 As' (p+i) _ _ (by omega)]
   by_cases hiM:i<M
   ·have hc2:=(GC hg (i:=i) hgb hne).trans (hb i hiM);have hy1:=AP hdb i
    replace fin:=fin _ rfl hy1
    generalize hY:bs.getD i 0=y at *
    go_wp2
    simp only[B]at hx1 hy1 fin;exact fin _ _ (by omega) (by omega)
   ·have hY:bs.getD i 0=0:=by rw[List.getD,List.getElem?_eq_none (by omega)];rfl
    replace fin:=fin 0 hY (by decide)
    go_wp2
    simp only[B]at hx1 fin;exact fin _ _ (by omega) (by omega)
  ·have hi':i=M+1:=by omega
   subst hi'
   go_wp2
   rw[Nat.sub_self,List.take_zero,Ck,List.nil_append,show p+(M+1)=p+M+1 by omega,List.take_append_drop]at hx;subst hx
   go_end0
   exact⟨rfl,hown,hg⟩
theorem Vx {As bs:List Nat}{p i t c r:Nat}(h:p+i<As.length)(hi:i<bs.length+1):Bg ((As.drop (p+i)).take (bs.length+1-i)) (bs.drop i) t c r =
 (fun (T:Nat) (b:Bool)=>(fun q:List Nat×Nat=>((if b then As.getD (p+i) 0+B-(T%B+r) else As.getD (p+i) 0-(T%B+r))::q.1,q.2)) (Bg ((As.drop (p+(i+1))).take (bs.length+1-(i+1))) (bs.drop (i+1)) t (T/B) (if b then 1 else 0))) (c+bs.getD i 0*t) (decide (As.getD (p+i) 0<(c+bs.getD i 0*t)%B+r)):=by
 rw[Sg As p bs.length i h hi,Bg,Fh,List.tail_drop];simp
theorem mac3 {c y t:Nat}(hc:c<B)(hy:y<B)(ht:t<B):IntKind.u64.wrap ((c:Int)+IntKind.u64.wrap (IntKind.u64.wrap (y:Int)*(t:Int)))=((c+y*t:Nat):Int):=by have:=mac2 hc hy ht;rwa[wrap_u64 t (by simp only[B]at ht;omega)]at this
theorem pull_0 {c:Nat}(hc:c<B):IntKind.u64.wrap (c:Int)=(c:Int):=wrap_u64 c (by simp only[B]at hc;omega)
set_option maxHeartbeats 3200000 in
set_option maxRecDepth 1000000 in
theorem Xf {As bs:List Nat}{p t N ga gb ca c1:Nat}{w:World}(hown0:w.ownsRow N 268 1 (.slice (some ⟨ga,0,none⟩) As.length ca) As.length (As.map (fun d=>Value.int .u32 (d:Nat))))(_hga:ga<w.heap.size)(hgb:gb<w.heap.size)(hne:gb≠ga)
 (hb:∀i,i<bs.length→w.cell? ⟨gb,i,none⟩=some (.int .u32 (bs.getD i 0:Nat))) (_hc1:bs.length≤c1) (hA:p+bs.length+1≤As.length) (hL:As.length<1000000) (hda:∀d∈As,d<B) (hdb:∀d∈bs,d<B) (ht:t<B) :
 Calls Tryz.prog 372 #[.slice (some ⟨ga,0,none⟩) As.length ca,.slice (some ⟨gb,0,none⟩) bs.length c1,.int .i64 p,.int .u64 t] w fun e w'=>e=.returned (.bool ((((Bg ((As.drop p).take (bs.length+1)) bs t 0 0).2:Nat):Int) != 0))∧
  w'.ownsRow N 268 1 (.slice (some ⟨ga,0,none⟩) As.length ca) As.length ((As.take p++((Bg ((As.drop p).take (bs.length+1)) bs t 0 0).1++As.drop (p+bs.length+1))).map (fun d=>Value.int .u32 (d:Nat)))∧w.grownBy w' (some ga):=by
 have hca:As.length≤ca:=by
  rcases hown0.2 with⟨h,_⟩|⟨g,cap,cur,h,_,_,h2,_⟩
  ·cases h
  ·simp only[Value.slice.injEq]at h;omega
 generalize hF:As.take p++((Bg ((As.drop p).take (bs.length+1)) bs t 0 0).1++As.drop (p+bs.length+1))=F;generalize hR:(Bg ((As.drop p).take (bs.length+1)) bs t 0 0).2=R;have hps:=fun (As':List Nat) (c r i:Nat)=>Vx (As:=As') (bs:=bs) (p:=p) (i:=i) (t:=t) (c:=c) (r:=r)
 generalize hAL:As.length=L at *;generalize hM:bs.length=M at *
 go_enter Tryz.func372,Tryz.ntmps372
 go_wp2
 go_loopw [9,10,18] (fun cc rr si wr=>∃(i c r:Nat) (As':List Nat),i≤M+1∧si=.int .i64 i∧cc=.int .u64 c∧rr=.int .u64 r∧c<B∧r≤1∧As'.length=L∧(∀d∈As',d<B)∧
  wr.ownsRow N 268 1 (.slice (some ⟨ga,0,none⟩) L ca) L (As'.map (fun d=>Value.int .u32 (d:Nat)))∧As'.take (p+i)++((Bg ((As'.drop (p+i)).take (M+1-i)) (bs.drop i) t c r).1++As'.drop (p+M+1))=F∧(Bg ((As'.drop (p+i)).take (M+1-i)) (bs.drop i) t c r).2=R∧w.grownBy wr (some ga))
  (fun _ _ si _=>(M+1-(intOf si).toNat))
 case atStart=>exact⟨0,0,0,As,Nat.zero_le _,rfl,rfl,rfl,by decide,by omega,hAL,hda,hown0,by simpa using hF,by simpa using hR,⟨rfl,rfl,rfl,zI _,fun _ _ _=>rfl⟩⟩
 case round=>
  obtain⟨i,c,r,As',hil,rfl,rfl,rfl,hc,hr,hos,hlt,hown,hx,hxr,hg⟩:=hrel;by_cases hiM1:i<M+1
  ·obtain⟨hco,hfo⟩:=Lm hown hos (show p+i<L by omega);have he:((p:Int)+(i:Int)).toNat=p+i:=by omega
   have hx1:=AP hlt (p+i);have hst:=hps As' c r i (by omega) (by omega);have hput:=fun v l=>VK (As:=As') (p:=p) (i:=i) (n:=M) (v:=v) (l:=l) (by omega) (by omega)
   generalize hX:As'.getD (p+i) 0=x at *;have HST:=Lib.hid hst;have HPS:=Lib.hid hps;have HX:=Lib.hid hx;have HXR:=Lib.hid hxr;clear hst hps hx hxr;have fin:∀(y:Nat),bs.getD i 0=y→y<B→∀(cv z v:Int),cv=((c+y*t)/B:Nat)→(z=1∧x<(c+y*t)%B+r∧v=(x+B-((c+y*t)%B+r):Nat)∨z=0∧¬x<(c+y*t)%B+r∧v=(x-((c+y*t)%B+r):Nat))→
    (∃(i' c' r':Nat) (As':List Nat),i'≤M+1∧Value.int .i64 ((i:Int)+1)=.int .i64 i'∧Value.int .u64 cv=.int .u64 c'∧Value.int .u64 z=.int .u64 r'∧c'<B∧r'≤1∧As'.length=L∧(∀d∈As',d<B)∧
     (wr.setCell ⟨ga,p+i,none⟩ (.int .u32 v)).ownsRow N 268 1 (.slice (some ⟨ga,0,none⟩) L ca) L (As'.map (fun d=>Value.int .u32 (d:Nat)))∧As'.take (p+i')++((Bg ((As'.drop (p+i')).take (M+1-i')) (bs.drop i') t c' r').1++As'.drop (p+M+1))=F∧(Bg ((As'.drop (p+i')).take (M+1-i')) (bs.drop i') t c' r').2=R∧w.grownBy (wr.setCell ⟨ga,p+i,none⟩ (.int .u32 v)) (some ga))∧
    M+1-(intOf (.int .i64 ((i:Int)+1))).toNat<M+1-(intOf (.int .i64 (i:Int))).toNat:=by
    rintro y hY hy cv z v rfl hh;have hst:=HST.out;rw[hY]at hst;have hT:=Qx hc hy ht;have hc':(c+y*t)/B<B:=by rw[Nat.div_lt_iff_lt_mul (by decide)];exact hT
    have hmb:(c+y*t)%B<B:=Nat.mod_lt _ (by decide);generalize (c+y*t)%B=q at *;generalize (c+y*t)/B=c2 at *;rcases hh with⟨rfl,hl,rfl⟩|⟨rfl,hl,rfl⟩
    ·simp only[hl,decide_true,if_true]at hst;obtain⟨q1,q2⟩:=hown.stored (p+i) (.int .u32 (x+B-(q+r):Nat));refine⟨⟨i+1,_,1,As'.set (p+i) (x+B-(q+r)),hiM1,by simp,rfl,rfl,hc',by omega,by rw[List.length_set];exact hos,La hlt (by omega) _,by rw[List.map_set];exact q1,?_,?_,hg.trans q2⟩,by simp[intOf];omega⟩
     ·rw[hput,←HX.out,hst,E8 As' (p+i) _ _ (by omega)]
     ·rw[←HXR.out,hst,E8 As' (p+i) _ _ (by omega)]
    ·simp only[hl,decide_false,Bool.false_eq_true,if_false]at hst;obtain⟨q1,q2⟩:=hown.stored (p+i) (.int .u32 (x-(q+r):Nat));refine⟨⟨i+1,_,0,As'.set (p+i) (x-(q+r)),hiM1,by simp,rfl,rfl,hc',by omega,by rw[List.length_set];exact hos,La hlt (by omega) _,by rw[List.map_set];exact q1,?_,?_,hg.trans q2⟩,by simp[intOf];omega⟩
     ·rw[hput,←HX.out,hst,E8 As' (p+i) _ _ (by omega)]
     ·rw[←HXR.out,hst,E8 As' (p+i) _ _ (by omega)]
   by_cases hiM:i<M
   ·have hc2:=(GC hg (i:=i) hgb hne).trans (hb i hiM);have hy1:=AP hdb i;have FIN:=Lib.hid (fin _ rfl hy1);clear fin;generalize hY:bs.getD i 0=y at *;have hm:=mac3 hc hy1 ht;have hT:=Qx hc hy1 ht;have hhi:=Lib.hid (Om hT).2;have hp0:(0:Int)≤(y:Int)*(t:Int):=by rw[←Int.natCast_mul];omega
    have hmod:((c:Int)+(y:Int)*(t:Int))%1000000000=(((c+y*t)%B:Nat):Int):=by simp[B]
    have hmb:(c+y*t)%B<B:=Nat.mod_lt _ (by decide);have hcv:IntKind.u64.wrap (((c:Int)+(y:Int)*(t:Int)).tdiv 1000000000)=((c+y*t)/B:Nat):=by rw[←hhi.out];simp
    generalize hQ:(c+y*t)%B=q at *;have HCV:=Lib.hid hcv;have hx2:x<1000000000:=hx1;have hq2:q<1000000000:=hmb;clear hcv;by_cases hlt2:x<q+r
    ·have hi1:(x:Int)<(q:Int)+r:=by omega
     go_wp2
     exact FIN.out _ _ _ HCV.out (.inl ⟨rfl,hlt2,by simp only[B];omega⟩)
    ·have hi1:¬(x:Int)<(q:Int)+r:=by omega
     go_wp2
     exact FIN.out _ _ _ HCV.out (.inr ⟨rfl,hlt2,by omega⟩)
   ·have hY:bs.getD i 0=0:=by rw[List.getD,List.getElem?_eq_none (by omega)];rfl
    have FIN:=Lib.hid (fin 0 hY (by decide));clear fin;rw[Nat.zero_mul,Nat.add_zero,Nat.mod_eq_of_lt hc,Nat.div_eq_of_lt hc]at FIN;have hwc:=pull_0 hc;have hx2:x<1000000000:=hx1;have hc2:c<1000000000:=hc;by_cases hlt2:x<c+r
    ·have hi1:(x:Int)<(c:Int)+r:=by omega
     go_wp2
     exact FIN.out _ _ _ (by omega) (.inl ⟨rfl,hlt2,by simp only[B];omega⟩)
    ·have hi1:¬(x:Int)<(c:Int)+r:=by omega
     go_wp2
     exact FIN.out _ _ _ (by omega) (.inr ⟨rfl,hlt2,by omega⟩)
  ·have hi':i=M+1:=by omega
   subst hi'
   go_wp2
   rw[Nat.sub_self,List.take_zero,Bg,List.nil_append,show p+(M+1)=p+M+1 by omega,List.take_append_drop]at hx;rw[Nat.sub_self,List.take_zero,Bg]at hxr;simp only at hxr;subst hx hxr
   go_ret
   exact⟨rfl,hown,hg⟩
theorem sign_neg (s:Int)(w:World):Calls Tryz.prog 195 #[.int .i64 s] w (fun e w'=>e=.returned (.bool (decide (s = -1)))∧w'=w):=by
 go_enter Tryz.func195,Tryz.ntmps195
 go_wp2
 exact bodyPost_ret (v:=.bool (s == -1)) (by simp[results,Tryz.results195,go_sem]) rfl ⟨rfl,rfl⟩
theorem sign_zero (s:Int)(w:World):Calls Tryz.prog 232 #[.int .i64 s] w (fun e w'=>e=.returned (.bool (decide (s=0)))∧w'=w):=by
 go_enter Tryz.func232,Tryz.ntmps232
 go_wp2
 exact bodyPost_ret (v:=.bool (s==0)) (by simp[results,Tryz.results232,go_sem]) rfl ⟨rfl,rfl⟩
theorem Js (s t:Int)(w:World):Calls Tryz.prog 201 #[.int .i64 s,.int .i64 t] w (fun e w'=>e=.returned (.int .i64 (wrap64 (s*t)))∧w'=w):=by
 go_enter Tryz.func201,Tryz.ntmps201
 go_wp2
 exact bodyPost_ret (v:=.int .i64 (wrap64 (s*t))) (by simp[results,Tryz.results201,go_sem]) rfl ⟨rfl,rfl⟩
theorem Bh (x:Int)(h : -1000≤x)(h2:x≤1000):wrap64 x=x:=by unfold wrap64;omega
theorem sign_mul (y z:Int):wrap64 (y.sign*z.sign)=(y*z).sign:=by
 rw[Int.sign_mul];have h:∀x:Int,x.sign = -1∨x.sign=0∨x.sign=1:=fun x=>by
  rcases Int.lt_trichotomy x 0 with h|h|h
  ·exact .inl (Int.sign_eq_neg_one_of_neg h)
  ·subst h;exact .inr (.inl rfl)
  ·exact .inr (.inr (Int.sign_eq_one_of_pos h))
 rcases h y with h1|h1|h1<;>rcases h z with h2|h2|h2<;>rw[h1,h2]<;>exact Bh _ (by decide) (by decide)
theorem Br.bound {w:World}{Ok:Nat→Prop}{ds:List Nat}{l:Value}(h:Br w Ok ds l):Br w (fun b=>Ok b∧b<w.heap.size) ds l:=
 h.imp id fun⟨b,o,h1,h2,h3⟩=>⟨b,o,h1,h2,⟨h3.1,h3.2.1⟩,h3.2⟩
set_option maxRecDepth 100000 in
theorem Rf (Ok:Nat→Prop)(z:Int)(v:Value)(w:World)(hv:Num w Ok z v):Calls Tryz.prog 231 #[v] w (fun e w'=>∃r,e=.returned r∧Num w' Ok (-z) r∧Below w.heap.size w w'):=by
 obtain⟨l,rfl,hl⟩:=hv;obtain⟨base,rfl⟩:=hl.slice;generalize hN:(Ae z.natAbs).length=N;have HL:=Lib.hid hl;clear hl
 go_enter Tryz.func231,Tryz.ntmps231
 go_wp2_with fail
 refine wp_region_still_tail 6 (by kernel_rfl) (by kernel_rfl) ?_;simp only[List.take_succ_cons,List.take_zero,List.drop_succ_cons,List.drop_zero];change wpStill _ _ ((w.alloc (.cells #[.int .i64 z.sign,.slice base N N] 149)).alloc (.cells #[.int .i64 0,.slice none 0 0] 149)).drew _ _ _;have c0:((w.alloc (.cells #[.int .i64 z.sign,.slice base N N] 149)).alloc (.cells #[.int .i64 0,.slice none 0 0] 149)).drew.cell? ⟨w.heap.size,0,none⟩=some (.int .i64 z.sign):=by simp
 have c1:((w.alloc (.cells #[.int .i64 z.sign,.slice base N N] 149)).alloc (.cells #[.int .i64 0,.slice none 0 0] 149)).drew.cell? ⟨w.heap.size,1,none⟩=some (.slice base N N):=by simp
 have d0:((w.alloc (.cells #[.int .i64 z.sign,.slice base N N] 149)).alloc (.cells #[.int .i64 0,.slice none 0 0] 149)).drew.cell? ⟨w.heap.size+1,0,none⟩=some (.int .i64 0):=by simp
 have d1:((w.alloc (.cells #[.int .i64 z.sign,.slice base N N] 149)).alloc (.cells #[.int .i64 0,.slice none 0 0] 149)).drew.cell? ⟨w.heap.size+1,1,none⟩=some (.slice none 0 0):=by simp
 have f0:((w.alloc (.cells #[.int .i64 z.sign,.slice base N N] 149)).alloc (.cells #[.int .i64 0,.slice none 0 0] 149)).drew.frozen? ⟨w.heap.size+1,0,none⟩=false:=by simp
 have f1:((w.alloc (.cells #[.int .i64 z.sign,.slice base N N] 149)).alloc (.cells #[.int .i64 0,.slice none 0 0] 149)).drew.frozen? ⟨w.heap.size+1,1,none⟩=false:=by simp
 have HB:=Lib.hid (show Below w.heap.size w ((w.alloc (.cells #[.int .i64 z.sign,.slice base N N] 149)).alloc (.cells #[.int .i64 0,.slice none 0 0] 149)).drew from(((Below.refl w.heap.size w).alloc (zI _) _).alloc (by simp) _).drew);have hc:=Js z.sign (-1) (((w.alloc (.cells #[.int .i64 z.sign,.slice base N N] 149)).alloc (.cells #[.int .i64 0,.slice none 0 0] 149)).drew);generalize hW:((w.alloc (.cells #[.int .i64 z.sign,.slice base N N] 149)).alloc (.cells #[.int .i64 0,.slice none 0 0] 149)).drew=W at *;have HW:=Lib.hid hW;clear hW
 still_step
 still_step
 still_call hc
 still_step
 still_step
 still_step
 refine wpStill_nil ?_;change wpList _ _ _ _ _ ((w.alloc (.cells #[.int .i64 z.sign,.slice base N N] 149)).alloc (.cells #[.int .i64 0,.slice none 0 0] 149)).drew;rw[HW.out]
 go_wp2
 have hs:wrap64 (-z.sign)=(-z).sign:=by
  rw[Int.sign_neg]
  have h1 : -1≤z.sign∧z.sign≤1:=by rcases Int.lt_trichotomy z 0 with h|h|h
                                   ·rw[Int.sign_eq_neg_one_of_neg h];decide
                                   ·subst h;decide
                                   ·rw[Int.sign_eq_one_of_pos h];decide
  generalize z.sign=q at h1;exact Bh _ (by omega) (by omega)
 rw[hs];generalize hS:(-z).sign=S;refine bodyPost_ret (v:=.agg #[.int .i64 S,.slice base N N]) (by simp[results,Tryz.results231,go_sem,d0,d1]) rfl ⟨_,rfl,⟨_,by rw[hS],?_⟩,(HB.out.setCell (by simp) _).setCell (by simp) _⟩;have hl:=(((HL.out.bound).mono (fun _ h=>h) HB.out).setCell (w.heap.size+1) 0 (.int .i64 S) (by omega)).setCell (w.heap.size+1) 1 (.slice base N N) (by omega);rw[Int.natAbs_neg];rw[hN]at hl;exact hl.mono (fun _ h=>h.1) (Below.refl _ _)
set_option maxRecDepth 100000 in
theorem Wb (Ok:Nat→Prop)(z:Int)(v:Value)(w:World)(hv:Num w Ok z v):Calls Tryz.prog 133 #[v] w (fun e w'=>∃r,e=.returned r∧Num w' Ok (z.natAbs:Int) r∧Below w.heap.size w w'):=by
 obtain⟨l,rfl,hl⟩:=hv;obtain⟨base,rfl⟩:=hl.slice;generalize hN:(Ae z.natAbs).length=N;have HL:=Lib.hid hl;clear hl
 go_enter Tryz.func133,Tryz.ntmps133
 go_wp2_with fail
 refine wp_region_still_tail 8 (by kernel_rfl) (by kernel_rfl) ?_;simp only[List.take_succ_cons,List.take_zero,List.drop_succ_cons,List.drop_zero];change wpStill _ _ ((w.alloc (.cells #[.int .i64 z.sign,.slice base N N] 149)).alloc (.cells #[.int .i64 0,.slice none 0 0] 149)).drew _ _ _;have c0:((w.alloc (.cells #[.int .i64 z.sign,.slice base N N] 149)).alloc (.cells #[.int .i64 0,.slice none 0 0] 149)).drew.cell? ⟨w.heap.size,0,none⟩=some (.int .i64 z.sign):=by simp
 have c1:((w.alloc (.cells #[.int .i64 z.sign,.slice base N N] 149)).alloc (.cells #[.int .i64 0,.slice none 0 0] 149)).drew.cell? ⟨w.heap.size,1,none⟩=some (.slice base N N):=by simp
 have d0:((w.alloc (.cells #[.int .i64 z.sign,.slice base N N] 149)).alloc (.cells #[.int .i64 0,.slice none 0 0] 149)).drew.cell? ⟨w.heap.size+1,0,none⟩=some (.int .i64 0):=by simp
 have d1:((w.alloc (.cells #[.int .i64 z.sign,.slice base N N] 149)).alloc (.cells #[.int .i64 0,.slice none 0 0] 149)).drew.cell? ⟨w.heap.size+1,1,none⟩=some (.slice none 0 0):=by simp
 have f0:((w.alloc (.cells #[.int .i64 z.sign,.slice base N N] 149)).alloc (.cells #[.int .i64 0,.slice none 0 0] 149)).drew.frozen? ⟨w.heap.size+1,0,none⟩=false:=by simp
 have f1:((w.alloc (.cells #[.int .i64 z.sign,.slice base N N] 149)).alloc (.cells #[.int .i64 0,.slice none 0 0] 149)).drew.frozen? ⟨w.heap.size+1,1,none⟩=false:=by simp
 have HB:=Lib.hid (show Below w.heap.size w ((w.alloc (.cells #[.int .i64 z.sign,.slice base N N] 149)).alloc (.cells #[.int .i64 0,.slice none 0 0] 149)).drew from(((Below.refl w.heap.size w).alloc (zI _) _).alloc (by simp) _).drew);have hc:=Js z.sign z.sign (((w.alloc (.cells #[.int .i64 z.sign,.slice base N N] 149)).alloc (.cells #[.int .i64 0,.slice none 0 0] 149)).drew);generalize hW:((w.alloc (.cells #[.int .i64 z.sign,.slice base N N] 149)).alloc (.cells #[.int .i64 0,.slice none 0 0] 149)).drew=W at *;have HW:=Lib.hid hW;clear hW
 still_step
 still_step
 still_step
 still_step
 still_call hc
 still_step
 still_step
 still_step
 refine wpStill_nil ?_;change wpList _ _ _ _ _ ((w.alloc (.cells #[.int .i64 z.sign,.slice base N N] 149)).alloc (.cells #[.int .i64 0,.slice none 0 0] 149)).drew;rw[HW.out]
 go_wp2
 have hs:wrap64 (z.sign*z.sign)=((z.natAbs:Int)).sign:=by
  rw[sign_mul,←Int.natAbs_mul_self];rcases Int.lt_trichotomy z 0 with h|h|h
  ·rw[Int.sign_eq_one_of_pos (by have:=Int.mul_pos_of_neg_of_neg h h;rw[Int.natAbs_mul_self];exact this),Int.sign_eq_one_of_pos (by omega)]
  ·subst h;rfl
  ·rw[Int.sign_eq_one_of_pos (by have:=Int.mul_pos h h;rw[Int.natAbs_mul_self];exact this),Int.sign_eq_one_of_pos (by omega)]
 rw[hs];generalize hS:((z.natAbs:Int)).sign=S;refine bodyPost_ret (v:=.agg #[.int .i64 S,.slice base N N]) (by simp[results,Tryz.results133,go_sem,d0,d1]) rfl ⟨_,rfl,⟨_,by rw[hS],?_⟩,(HB.out.setCell (by simp) _).setCell (by simp) _⟩;have hl:=(((HL.out.bound).mono (fun _ h=>h) HB.out).setCell (w.heap.size+1) 0 (.int .i64 S) (by omega)).setCell (w.heap.size+1) 1 (.slice base N N) (by omega);rw[Int.natAbs_natCast];rw[hN]at hl;exact hl.mono (fun _ h=>h.1) (Below.refl _ _)
def GP:List Nat→List Nat→Nat→List Nat
 |[],_,c=>[c]|x::xs,bs,c=>((x+c+bs.headD 0)%B)::GP xs bs.tail ((x+c+bs.headD 0)/B)
theorem EJ:∀(xs bs:List Nat) (c:Nat),(GP xs bs c).length=xs.length+1
 |[],_,_=>rfl|x::xs,bs,c=>by rw[GP];simp[EJ xs]
theorem NX:∀(xs bs:List Nat) (c:Nat),(∀d∈xs,d<B)→(∀d∈bs,d<B)→c≤1→bs.length≤xs.length→val (GP xs bs c)=val xs+val bs+c∧∀d∈GP xs bs c,d<B
 |[],bs,c,_,_,hc,h=>by
  have:bs=[]:=List.length_eq_zero_iff.1 (Nat.le_zero.1 h);subst this;refine⟨?_,fun d hd=>?_⟩
  ·show c+B*0=0+0+c;omega
  ·have:d=c:=by simpa[GP]using hd
   simp only[B];omega
 |x::xs,bs,c,hx,hb,hc,h=>by
  have h1:=Hn hb;have h2:=hx x (by simp);have hv:=KH bs;have hxs:∀d∈xs,d<B:=fun d hd=>hx d (by simp[hd])
  have hv':val (x::xs)=x+B*val xs:=rfl;have hl:bs.tail.length≤xs.length:=by rw[List.length_tail];simp at h;omega
  rw[hv',hv,GP];generalize bs.headD 0=y at *;have hq:(x+c+y)/B≤1:=by simp only[B]at *;omega
  obtain⟨i1,i2⟩:=NX xs bs.tail ((x+c+y)/B) hxs (KI hb) hq hl;refine⟨?_,fun d hd=>?_⟩
  ·show(x+c+y)%B+B*val (GP xs bs.tail ((x+c+y)/B))=_;rw[i1];simp only[B];omega
  ·rcases zH.1 hd with e|e
   ·rw[e];exact Nat.mod_lt _ (by decide)
   ·exact i2 d e
theorem IF {a b:List Nat}{i c:Nat}(h:i<a.length):GP (a.drop i) (b.drop i) c=((a.getD i 0+c+b.getD i 0)%B)::GP (a.drop (i+1)) (b.drop (i+1)) ((a.getD i 0+c+b.getD i 0)/B):=by rw[Bf a i h,GP,Fh,List.tail_drop]
set_option maxHeartbeats 3200000 in
set_option maxRecDepth 1000000 in
theorem AbW (a b:List Nat)(A0 A1:Option Addr)(c0 c1:Nat)(w:World)(hla:a.length<1000000)(hba:¬a.length<b.length)(hda:∀d∈a,d<B)(hdb:∀d∈b,d<B)(hc0:a.length≤c0)(_hc1:b.length≤c1)
 (h0:0<a.length→∃b' o,A0=some ⟨b',o,none⟩ ∧b'<w.heap.size∧∀i,i<a.length→w.cell? ⟨b',o+i,none⟩=some (.int .u32 (a.getD i 0:Nat)))
 (h1:0<b.length→∃b' o,A1=some ⟨b',o,none⟩ ∧b'<w.heap.size∧∀i,i<b.length→w.cell? ⟨b',o+i,none⟩=some (.int .u32 (b.getD i 0:Nat))) :
 Calls Tryz.prog 438 #[.slice A0 a.length c0,.slice A1 b.length c1] w (fun e w'=>∃v,e=.returned v∧w'.ownsRow w.heap.size 268 1 v (a.length+1) ((GP a b 0).map (fun d=>Value.int .u32 (d:Nat)))∧Below w.heap.size w w'):=by
 obtain⟨i0,hi,hz0,hz1,hz2⟩:=info_parts E1;have hw:wrap64 ((a.length:Int)+1)=((a.length+1:Nat):Int):=CJ (a.length+1) (by omega);generalize hL:a.length=L at *;generalize hM:b.length=M at *
 go_enter Tryz.func438,Tryz.ntmps438
 go_wp2_with (at_make;go_loud (refine wpList_make_own _ rfl _ _ 147 rfl w.heap.size 268 i0 (.int .u32 0) 1 Tryz.underlying147 hi hz0 hz1 _ _ _ (L+1) rfl (congrArg (Value.int .i64) (Int.natCast_succ L).symm) (by omega) ?b2 ?b3 (zI _) ?_))
 case b2=>rw[hz2];omega
 case b3=>unfold maxLen;omega
 intro w0 hown0 hgrow0
 go_wp2
 go_loopw [5,6,22] (fun out cc si wr=>∃(i c:Nat) (xs:List Nat),i≤L∧si=.int .i64 i∧cc=.int .u32 c∧c≤1∧out=.slice (some ⟨w.heap.size,0,none⟩) i (L+1)∧
  wr.ownsRow w.heap.size 268 1 (.slice (some ⟨w.heap.size,0,none⟩) i (L+1)) i (xs.map (fun d=>Value.int .u32 (d:Nat)))∧xs++GP (a.drop i) (b.drop i) c=GP a b 0∧Below w.heap.size w wr)
  (fun _ _ si _=>(L-(intOf si).toNat))
 case atStart=>exact⟨0,0,[],Nat.zero_le _,rfl,rfl,by omega,rfl,hown0,by simp,(Below.refl _ _).grown hgrow0 (zI _) (fun k h=>by cases h)⟩
 case round=>
  obtain⟨i,c,xs,hil,rfl,rfl,hc,rfl,hown,hx,hnx⟩:=hrel;by_cases hiL:i<L
  ·obtain⟨b0,o0,rfl,hb0,hcell0⟩:=h0 (by omega);have hc1':=(hnx.cell (p:=⟨b0,o0+i,none⟩) hb0).trans (hcell0 i hiL);by_cases hiM:i<M
   ·obtain⟨b1,o1,rfl,hb1,hcell1⟩:=h1 (by omega);have hc2':=(hnx.cell (p:=⟨b1,o1+i,none⟩) hb1).trans (hcell1 i hiM);generalize hX:a.getD i 0=x at *;generalize hY:b.getD i 0=y at *;have hx1:x<B:=by rw[←hX];exact AP hda i
    have hy1:y<B:=by rw[←hY];exact AP hdb i
    have hT:((x:Int)+c+y)%4294967296=((x+c+y:Nat):Int):=by simp only[B]at hx1 hy1;omega
    have hD:((x+c+y:Nat):Int)/1000000000=(((x+c+y)/B:Nat):Int):=by simp only[B];omega
    have hE:((x+c+y:Nat):Int)%1000000000=(((x+c+y)%B:Nat):Int):=by simp only[B];omega
    go_wp2_with (at_builtin;go_loud (refine wpList_append_fits _ rfl (.tmp 42) (.tmp 45) 147 rfl w.heap.size 268 i0 1 Tryz.underlying147 hi hz1 w.heap.size i (L+1) _ rfl (hown.alloc _) ⟨wr.heap.size,0,none⟩ 1 1 [.int .u32 (((x+c+y)%B:Nat):Int)] rfl rfl (by intro t u ht;match t,ht with|0,ht=>simp at ht;subst ht;simp[Addr.add]) (by intro u hu;simp at hu;subst hu;rfl) (by omega) ?_);intro w1 hown1 hgrow1)
    refine⟨⟨i+1,(x+c+y)/B,xs++[(x+c+y)%B],hiL,by simp,by rw[←hD];simp,by simp only[B]at hx1 hy1 ⊢;omega,rfl,by simpa using hown1,?_,(hnx.alloc hnx.size _).grown hgrow1 (by simp;have:=hnx.size;omega) (fun k hk=>by cases hk;exact zI _)⟩,by simp[intOf];omega⟩;have hst:=IF (a:=a) (b:=b) (i:=i) (c:=c) (by rw[hL];exact hiL);rw[hX,hY]at hst;rw[←hx,hst];simp
   ·have hY:b.getD i 0=0:=by rw[List.getD,List.getElem?_eq_none (by omega)];rfl
    have hy1:(0:Nat)<B:=by decide
    generalize hX:a.getD i 0=x at *;have hx1:x<B:=by rw[←hX];exact AP hda i
    have hT:((x:Int)+c)%4294967296=((x+c+0:Nat):Int):=by simp only[B]at hx1;omega
    have hD:((x+c+0:Nat):Int)/1000000000=(((x+c+0)/B:Nat):Int):=by simp only[B];omega
    have hE:((x+c+0:Nat):Int)%1000000000=(((x+c+0)%B:Nat):Int):=by simp only[B];omega
    go_wp2_with (at_builtin;go_loud (refine wpList_append_fits _ rfl (.tmp 42) (.tmp 45) 147 rfl w.heap.size 268 i0 1 Tryz.underlying147 hi hz1 w.heap.size i (L+1) _ rfl (hown.alloc _) ⟨wr.heap.size,0,none⟩ 1 1 [.int .u32 (((x+c+0)%B:Nat):Int)] rfl rfl (by intro t u ht;match t,ht with|0,ht=>simp at ht;subst ht;simp[Addr.add]) (by intro u hu;simp at hu;subst hu;rfl) (by omega) ?_);intro w1 hown1 hgrow1)
    refine⟨⟨i+1,(x+c+0)/B,xs++[(x+c+0)%B],hiL,by simp,by rw[←hD];simp,by simp only[B]at hx1 hy1 ⊢;omega,rfl,by simpa using hown1,?_,(hnx.alloc hnx.size _).grown hgrow1 (by simp;have:=hnx.size;omega) (fun k hk=>by cases hk;exact zI _)⟩,by simp[intOf];omega⟩;have hst:=IF (a:=a) (b:=b) (i:=i) (c:=c) (by rw[hL];exact hiL);rw[hX,hY]at hst;rw[←hx,hst];simp
  ·have hi':i=L:=by omega
   subst hi';have hx':xs++[c]=GP a b 0:=by rw[←hx,←hL,List.drop_length];rfl
   go_wp2_with (at_builtin;go_loud (refine wpList_append_fits _ rfl (.tmp 48) (.tmp 50) 147 rfl w.heap.size 268 i0 1 Tryz.underlying147 hi hz1 w.heap.size i (i+1) _ rfl (hown.alloc _) ⟨wr.heap.size,0,none⟩ 1 1 [.int .u32 (c:Int)] rfl rfl (by intro t u ht;match t,ht with|0,ht=>simp at ht;subst ht;simp[Addr.add]) (by intro u hu;simp at hu;subst hu;rfl) (by omega) ?_);intro w1 hown1 hgrow1)
   go_ret
   refine⟨_,rfl,?_,(hnx.alloc hnx.size _).grown hgrow1 (by simp;have:=hnx.size;omega) (fun k hk=>by cases hk;exact zI _)⟩;rw[←hx'];simpa using hown1
set_option maxHeartbeats 3200000 in
set_option maxRecDepth 1000000 in
theorem AbJ (a b:List Nat)(A0 A1:Option Addr)(c0 c1:Nat)(w:World)(hla:a.length<1000000)(hba:b.length<a.length)(hda:∀d∈a,d<B)(hdb:∀d∈b,d<B)(hc0:a.length≤c0)(_hc1:b.length≤c1)
 (h0:0<a.length→∃b' o,A0=some ⟨b',o,none⟩ ∧b'<w.heap.size∧∀i,i<a.length→w.cell? ⟨b',o+i,none⟩=some (.int .u32 (a.getD i 0:Nat)))
 (h1:0<b.length→∃b' o,A1=some ⟨b',o,none⟩ ∧b'<w.heap.size∧∀i,i<b.length→w.cell? ⟨b',o+i,none⟩=some (.int .u32 (b.getD i 0:Nat))) :
 Calls Tryz.prog 438 #[.slice A1 b.length c1,.slice A0 a.length c0] w (fun e w'=>∃v,e=.returned v∧w'.ownsRow w.heap.size 268 1 v (a.length+1) ((GP a b 0).map (fun d=>Value.int .u32 (d:Nat)))∧Below w.heap.size w w'):=by
 obtain⟨i0,hi,hz0,hz1,hz2⟩:=info_parts E1;have hw:wrap64 ((a.length:Int)+1)=((a.length+1:Nat):Int):=CJ (a.length+1) (by omega);generalize hL:a.length=L at *;generalize hM:b.length=M at *
 go_enter Tryz.func438,Tryz.ntmps438
 go_wp2_with (at_make;go_loud (refine wpList_make_own _ rfl _ _ 147 rfl w.heap.size 268 i0 (.int .u32 0) 1 Tryz.underlying147 hi hz0 hz1 _ _ _ (L+1) rfl (congrArg (Value.int .i64) (Int.natCast_succ L).symm) (by omega) ?b2 ?b3 (zI _) ?_))
 case b2=>rw[hz2];omega
 case b3=>unfold maxLen;omega
 intro w0 hown0 hgrow0
 go_wp2
 go_loopw [5,6,22] (fun out cc si wr=>∃(i c:Nat) (xs:List Nat),i≤L∧si=.int .i64 i∧cc=.int .u32 c∧c≤1∧out=.slice (some ⟨w.heap.size,0,none⟩) i (L+1)∧
  wr.ownsRow w.heap.size 268 1 (.slice (some ⟨w.heap.size,0,none⟩) i (L+1)) i (xs.map (fun d=>Value.int .u32 (d:Nat)))∧xs++GP (a.drop i) (b.drop i) c=GP a b 0∧Below w.heap.size w wr)
  (fun _ _ si _=>(L-(intOf si).toNat))
 case atStart=>exact⟨0,0,[],Nat.zero_le _,rfl,rfl,by omega,rfl,hown0,by simp,(Below.refl _ _).grown hgrow0 (zI _) (fun k h=>by cases h)⟩
 case round=>
  obtain⟨i,c,xs,hil,rfl,rfl,hc,rfl,hown,hx,hnx⟩:=hrel;by_cases hiL:i<L
  ·obtain⟨b0,o0,rfl,hb0,hcell0⟩:=h0 (by omega);have hc1':=(hnx.cell (p:=⟨b0,o0+i,none⟩) hb0).trans (hcell0 i hiL);by_cases hiM:i<M
   ·obtain⟨b1,o1,rfl,hb1,hcell1⟩:=h1 (by omega);have hc2':=(hnx.cell (p:=⟨b1,o1+i,none⟩) hb1).trans (hcell1 i hiM);generalize hX:a.getD i 0=x at *;generalize hY:b.getD i 0=y at *;have hx1:x<B:=by rw[←hX];exact AP hda i
    have hy1:y<B:=by rw[←hY];exact AP hdb i
    have hT:((x:Int)+c+y)%4294967296=((x+c+y:Nat):Int):=by simp only[B]at hx1 hy1;omega
    have hD:((x+c+y:Nat):Int)/1000000000=(((x+c+y)/B:Nat):Int):=by simp only[B];omega
    have hE:((x+c+y:Nat):Int)%1000000000=(((x+c+y)%B:Nat):Int):=by simp only[B];omega
    go_wp2_with (at_builtin;go_loud (refine wpList_append_fits _ rfl (.tmp 42) (.tmp 45) 147 rfl w.heap.size 268 i0 1 Tryz.underlying147 hi hz1 w.heap.size i (L+1) _ rfl (hown.alloc _) ⟨wr.heap.size,0,none⟩ 1 1 [.int .u32 (((x+c+y)%B:Nat):Int)] rfl rfl (by intro t u ht;match t,ht with|0,ht=>simp at ht;subst ht;simp[Addr.add]) (by intro u hu;simp at hu;subst hu;rfl) (by omega) ?_);intro w1 hown1 hgrow1)
    refine⟨⟨i+1,(x+c+y)/B,xs++[(x+c+y)%B],hiL,by simp,by rw[←hD];simp,by simp only[B]at hx1 hy1 ⊢;omega,rfl,by simpa using hown1,?_,(hnx.alloc hnx.size _).grown hgrow1 (by simp;have:=hnx.size;omega) (fun k hk=>by cases hk;exact zI _)⟩,by simp[intOf];omega⟩;have hst:=IF (a:=a) (b:=b) (i:=i) (c:=c) (by rw[hL];exact hiL);rw[hX,hY]at hst;rw[←hx,hst];simp
   ·have hY:b.getD i 0=0:=by rw[List.getD,List.getElem?_eq_none (by omega)];rfl
    have hy1:(0:Nat)<B:=by decide
    generalize hX:a.getD i 0=x at *;have hx1:x<B:=by rw[←hX];exact AP hda i
    have hT:((x:Int)+c)%4294967296=((x+c+0:Nat):Int):=by simp only[B]at hx1;omega
    have hD:((x+c+0:Nat):Int)/1000000000=(((x+c+0)/B:Nat):Int):=by simp only[B];omega
    have hE:((x+c+0:Nat):Int)%1000000000=(((x+c+0)%B:Nat):Int):=by simp only[B];omega
    go_wp2_with (at_builtin;go_loud (refine wpList_append_fits _ rfl (.tmp 42) (.tmp 45) 147 rfl w.heap.size 268 i0 1 Tryz.underlying147 hi hz1 w.heap.size i (L+1) _ rfl (hown.alloc _) ⟨wr.heap.size,0,none⟩ 1 1 [.int .u32 (((x+c+0)%B:Nat):Int)] rfl rfl (by intro t u ht;match t,ht with|0,ht=>simp at ht;subst ht;simp[Addr.add]) (by intro u hu;simp at hu;subst hu;rfl) (by omega) ?_);intro w1 hown1 hgrow1)
    refine⟨⟨i+1,(x+c+0)/B,xs++[(x+c+0)%B],hiL,by simp,by rw[←hD];simp,by simp only[B]at hx1 hy1 ⊢;omega,rfl,by simpa using hown1,?_,(hnx.alloc hnx.size _).grown hgrow1 (by simp;have:=hnx.size;omega) (fun k hk=>by cases hk;exact zI _)⟩,by simp[intOf];omega⟩;have hst:=IF (a:=a) (b:=b) (i:=i) (c:=c) (by rw[hL];exact hiL);rw[hX,hY]at hst;rw[←hx,hst];simp
  ·have hi':i=L:=by omega
   subst hi';have hx':xs++[c]=GP a b 0:=by rw[←hx,←hL,List.drop_length];rfl
   go_wp2_with (at_builtin;go_loud (refine wpList_append_fits _ rfl (.tmp 48) (.tmp 50) 147 rfl w.heap.size 268 i0 1 Tryz.underlying147 hi hz1 w.heap.size i (i+1) _ rfl (hown.alloc _) ⟨wr.heap.size,0,none⟩ 1 1 [.int .u32 (c:Int)] rfl rfl (by intro t u ht;match t,ht with|0,ht=>simp at ht;subst ht;simp[Addr.add]) (by intro u hu;simp at hu;subst hu;rfl) (by omega) ?_);intro w1 hown1 hgrow1)
   go_ret
   refine⟨_,rfl,?_,(hnx.alloc hnx.size _).grown hgrow1 (by simp;have:=hnx.size;omega) (fun k hk=>by cases hk;exact zI _)⟩;rw[←hx'];simpa using hown1
theorem Yg {Ok Ok':Nat→Prop}{a b:List Nat}{va vb:Value}{w:World}(ha:∀d∈a,d<B)(hb:∀d∈b,d<B)(hla:a.length<1000000)(hlb:b.length<1000000)(hva:Sl w Ok a va)(hvb:Sl w Ok' b vb) :
 Calls Tryz.prog 438 #[va,vb] w (Mz (max a.length b.length+1) (val a+val b) w):=by
 obtain⟨A0,c0,rfl,hc0,h0⟩:=Dw hva;obtain⟨A1,c1,rfl,hc1,h1⟩:=Dw hvb;by_cases hlt:a.length<b.length
 ·refine(AbJ b a A1 A0 c1 c0 w hlb hlt hb ha hc1 hc0 h1 h0).mono ?_;rintro e w' ⟨v,rfl,hown,hB⟩;obtain⟨q1,q2⟩:=NX b a 0 hb ha (by decide) (by omega);refine⟨v,_,rfl,E7 hown (by rw[EJ]) (by omega),?_,q2,by rw[q1];omega,hB⟩;rw[EJ];omega
 ·refine(AbW a b A0 A1 c0 c1 w hla hlt ha hb hc0 hc1 h0 h1).mono ?_;rintro e w' ⟨v,rfl,hown,hB⟩;obtain⟨q1,q2⟩:=NX a b 0 ha hb (by decide) (by omega);refine⟨v,_,rfl,E7 hown (by rw[EJ]) (by omega),?_,q2,by rw[q1];omega,hB⟩;rw[EJ];omega
end Go.Nl
namespace Go.Nl
theorem BB:∀(l:List Nat) (j:Nat),val l=val (l.take j)+B^j*val (l.drop j)
 |l,0=>by simp[val]
 |[],j+1=>by simp[val]
 |x::l,j+1=>by have ih:=BB l j;show x+B*val l=(x+B*val (l.take j))+B^(j+1)*val (l.drop j);rw[ih,Nat.mul_add,PL,Nat.mul_assoc];omega
theorem GX (l m:List Nat):val (l++m)=val l+B^l.length*val m:=by rw[BB (l++m) l.length];simp
theorem P3 {l:List Nat}(h:∀d∈l,d<B)(j:Nat):∀d∈l.take j,d<B:=fun d hd=>h d (List.mem_of_mem_take hd)
theorem AcZ {l:List Nat}(h:∀d∈l,d<B)(j:Nat):∀d∈l.drop j,d<B:=fun d hd=>h d (List.mem_of_mem_drop hd)
theorem EO {l:List Nat}(h:∀d∈l,d<B){j:Nat}(hj:j≤l.length):val (l.take j)<B^j:=by have:=FY (P3 h j);rwa[List.length_take,Nat.min_eq_left hj]at this
theorem MC {l:List Nat}{n:Nat}(hl:l.length=n+1):val l=l.getD n 0*B^n+val (l.take n):=by rw[BB l n,Bf l n (by omega),List.drop_eq_nil_of_le (by omega)];show _+B^n*(l.getD n 0+B*0)=_;rw[Nat.mul_zero,Nat.add_zero,Nat.mul_comm];omega
theorem val_two {l:List Nat}{n:Nat}(hl:l.length=n+2):val l=(l.getD (n+1) 0*B+l.getD n 0)*B^n+val (l.take n):=by rw[BB l n,Bf l n (by omega),Bf l (n+1) (by omega),List.drop_eq_nil_of_le (by omega)];show _+B^n*(l.getD n 0+B*(l.getD (n+1) 0+B*0))=_;rw[Nat.mul_zero,Nat.add_zero,Nat.mul_comm (B^n),Nat.mul_comm B,Nat.add_comm (l.getD n 0)];omega
theorem UJ {l:List Nat}{n:Nat}(hl:l.length=n+3):val l=((l.getD (n+2) 0*B+l.getD (n+1) 0)*B+l.getD n 0)*B^n+val (l.take n):=by
 rw[BB l n,Bf l n (by omega),Bf l (n+1) (by omega),Bf l (n+1+1) (by omega),List.drop_eq_nil_of_le (by omega)];have e:∀x y z b:Nat,x+b*(y+b*(z+b*0))=(z*b+y)*b+x:=fun x y z b=>by rw[Nat.mul_zero,Nat.add_zero,Nat.mul_comm b z,Nat.mul_comm b,Nat.add_comm y,Nat.add_comm x]
 show _+B^n*(l.getD n 0+B*(l.getD (n+1) 0+B*(l.getD (n+2) 0+B*0)))=_;rw[e,Nat.mul_comm (B^n)];exact Nat.add_comm _ _
theorem OE {seg bs:List Nat}{g:Nat}(hs:∀d∈seg,d<B)(hb:∀d∈bs,d<B)(hl:seg.length=bs.length+1)(hV:0<val bs)(hg:g<B)(h1:val seg/val bs≤g)(h3:g*val bs<val seg+val bs) :
 ((Bg seg bs g 0 0).2=0→g=val seg/val bs∧val (Bg seg bs g 0 0).1=val seg%val bs)∧
 ((Bg seg bs g 0 0).2≠0→0<g∧g-1=val seg/val bs∧val (Ck (Bg seg bs g 0 0).1 bs 0).1=val seg%val bs)∧
 (∀d∈(Bg seg bs g 0 0).1,d<B)∧(∀d∈(Ck (Bg seg bs g 0 0).1 bs 0).1,d<B):=by
 obtain⟨p1,p2,p3⟩:=O6 seg bs g 0 0 hs hb hg (by decide) (by decide) (by omega);have pl:=EX seg bs g 0 0;have hlt:=FY p2;rw[pl]at hlt;obtain⟨q1,q2,q3⟩:=Pk (Bg seg bs g 0 0).1 bs 0 p2 hb (by decide) (by omega);have ql:=GS (Bg seg bs g 0 0).1 bs 0;have qlt:=FY q2;rw[ql,pl]at qlt;rw[pl]at q1;have hVlt:=FY hb;have hpw:B^seg.length=B*B^bs.length:=by rw[hl,PL]
 have hmod:=Nat.div_add_mod (val seg) (val bs);have hml:=Nat.mod_lt (val seg) hV;rw[Nat.add_zero]at q1;generalize (Bg seg bs g 0 0).2=r at *;generalize val (Bg seg bs g 0 0).1=X at *;generalize (Ck (Bg seg bs g 0 0).1 bs 0).2=c at *;generalize val (Ck (Bg seg bs g 0 0).1 bs 0).1=Y at *;have hVB:val bs<B^seg.length:=by rw[hpw];have:1*B^bs.length≤B*B^bs.length:=Nat.mul_le_mul_right _ (by decide);omega
 generalize B^seg.length=Z at *;refine⟨fun h0=>?_,fun h0=>?_,p2,q2⟩
 ·subst h0;rw[Nat.zero_mul,Nat.add_zero]at p1;have hle:g*val bs≤val seg:=by omega
  have e:=XT hV h1 hle;refine⟨e,?_⟩;rw[←e,Nat.mul_comm]at hmod;omega
 ·have hr1:r=1:=by omega
  subst hr1;rw[Nat.one_mul]at p1;have hnle:¬g*val bs≤val seg:=by omega
  obtain⟨g0,e⟩:=Si hV h1 hnle h3;refine⟨g0,e,?_⟩;obtain⟨j,rfl⟩:∃j,g=j+1:=⟨g-1,by omega⟩;rw[Nat.add_sub_cancel]at e;rw[←e,Nat.mul_comm]at hmod;rw[Nat.add_mul,Nat.one_mul]at p1;have hc:c=1:=by
   rcases (show c=0∨c=1 by omega) with h|h
   ·subst h;rw[Nat.zero_mul]at q1;omega
   ·exact h
  subst hc;rw[Nat.one_mul]at q1;omega
theorem XH {t:Nat}(h0:0<t)(ht:t<B):0<B/(t+1)∧B/(t+1)<B∧B/4≤t*(B/(t+1))∧B/(t+1)*(t+1)≤B:=by
 have hy:=Nat.div_mul_le_self B (t+1);have hm:=Nat.div_add_mod B (t+1);have hml:=Nat.mod_lt B (show 0<t+1 by omega);have h1:0<B/(t+1):=Nat.div_pos (by omega) (by omega);have h2:B/(t+1)<B:=Nat.div_lt_self (by decide) (by omega);refine⟨h1,h2,?_,hy⟩;generalize B/(t+1)=y at *;have e1:(t+1)*y=t*y+y:=by rw[Nat.add_mul,Nat.one_mul]
 have e3:y*1≤y*t:=Nat.mul_le_mul_left _ h0;have e4:t*1≤t*y:=Nat.mul_le_mul_left _ h1;rw[Nat.mul_comm y t,Nat.mul_one]at e3;rw[Nat.mul_one]at e4;generalize t*y=z at *;simp only[B]at *;omega
structure Cq (A:Nat)(bs:List Nat)(m p:Nat)(As qs:List Nat):Prop where
 la:As.length=m+bs.length
 lq:qs.length=m
 da:∀d∈As,d<B
 dq:∀d∈qs,d<B
 pm:p≤m
 eq:A=val As+val bs*val qs
 lt:val (As.drop p)<val bs
 zero:∀j,j<p→qs.getD j 0=0
theorem Cq.seg {A m p:Nat}{bs As qs:List Nat}(hb:∀d∈bs,d<B)(h:Cq A bs m (p+1) As qs) :
 ((As.drop p).take (bs.length+1)).length=bs.length+1∧(∀d∈(As.drop p).take (bs.length+1),d<B)∧val ((As.drop p).take (bs.length+1))=val (As.drop p)∧val (As.drop p)<B*val bs∧val (As.drop (p+bs.length+1))=0∧p+bs.length+1≤As.length:=by
 have hp:=h.pm;have hla:=h.la;have hl:((As.drop p).take (bs.length+1)).length=bs.length+1:=by rw[List.length_take,List.length_drop];omega
 have hlt:=h.lt;have hbl:=FY hb;have e1:As.drop p=As.getD p 0::As.drop (p+1):=Bf As p (by omega);have hx:=AP h.da p;have e2:=BB (As.drop (p+1)) bs.length;rw[List.drop_drop]at e2;have h0:val (As.drop (p+bs.length+1))=0:=by
  rw[show p+1+bs.length=p+bs.length+1 by omega]at e2;rcases Nat.eq_zero_or_pos (val (As.drop (p+bs.length+1))) with h|h
  ·exact h
  ·have:B^bs.length*1≤B^bs.length*val (As.drop (p+bs.length+1)):=Nat.mul_le_mul_left _ h;omega
 refine⟨hl,fun d hd=>h.da d (List.mem_of_mem_drop (List.mem_of_mem_take hd)),?_,?_,h0,by omega⟩
 ·have e3:=BB (As.drop p) (bs.length+1);rw[List.drop_drop,show p+(bs.length+1)=p+bs.length+1 from rfl,h0,Nat.mul_zero,Nat.add_zero]at e3;exact e3.symm
 ·rw[e1];show As.getD p 0+B*val (As.drop (p+1))<B*val bs;have:B*(val (As.drop (p+1))+1)≤B*val bs:=Nat.mul_le_mul_left _ hlt;rw[Nat.mul_add]at this;omega
theorem Cq.next {A m p:Nat}{bs As qs seg':List Nat}(hb:∀d∈bs,d<B)(h:Cq A bs m (p+1) As qs)(hl:seg'.length=bs.length+1)(hd:∀d∈seg',d<B)
 (hv:val seg'=val ((As.drop p).take (bs.length+1))%val bs) {g:Nat} (hg:g=val ((As.drop p).take (bs.length+1))/val bs):Cq A bs m p (As.take p++(seg'++As.drop (p+bs.length+1))) (qs.set p g):=by
 obtain⟨s1,s2,s3,s4,s5,s6⟩:=h.seg hb;have hp:=h.pm;have hla:=h.la;have hV:0<val bs:=by have:=h.lt;omega
 have hgB:g<B:=by rw[hg,s3,Nat.div_lt_iff_lt_mul hV];exact s4
 have htl:(As.take p).length=p:=by rw[List.length_take];omega
 have hsg:(seg'++As.drop (p+bs.length+1)).length=As.length-p:=by rw[zR,hl,List.length_drop];omega
 have hdrop:(As.take p++(seg'++As.drop (p+bs.length+1))).drop p=seg'++As.drop (p+bs.length+1):=by rw[List.drop_append,htl,Nat.sub_self,List.drop_zero,List.drop_of_length_le (by omega)];rfl
 have hvs:val (seg'++As.drop (p+bs.length+1))=val seg':=by rw[GX,s5,Nat.mul_zero,Nat.add_zero]
 refine⟨?_,by rw[List.length_set];exact h.lq,fun d hdd=>?_,La h.dq hgB p,by omega,?_,?_,fun j hj=>?_⟩
 ·rw[zR,htl,hsg];omega
 ·rcases List.mem_append.1 hdd with e|e
  ·exact P3 h.da p d e
  ·rcases List.mem_append.1 e with e|e
   ·exact hd d e
   ·exact AcZ h.da _ d e
 ·have hq0:=h.zero p (Nat.lt_succ_self p);have hqs:=MA qs p g (by rw[h.lq];omega);rw[hq0,Nat.zero_mul,Nat.add_zero]at hqs;have e1:=BB As p;rw[GX,htl,hvs,hv,hqs,h.eq,e1,s3,hg,s3];have hm:=Nat.div_add_mod (val (As.drop p)) (val bs);generalize val (As.drop p)=U at *;generalize val (As.take p)=T at *;generalize val bs=V at *;generalize val qs=Q at *;have e2:V*(Q+U/V*B^p)=V*Q+B^p*(V*(U/V)):=by rw[Nat.mul_add];congr 1;rw[←Nat.mul_assoc,Nat.mul_comm (V*(U/V))]
  rw[e2];have e3:B^p*U=B^p*(V*(U/V))+B^p*(U%V):=by rw[←Nat.mul_add,hm]
  rw[e3];omega
 ·rw[hdrop,hvs,hv];exact Nat.mod_lt _ hV
 ·rw[getD_set_ne qs p j g (by omega)];exact h.zero j (by omega)
theorem Cq.done {A m:Nat}{bs As qs:List Nat}(h:Cq A bs m 0 As qs):val qs=A/val bs∧val As=A%val bs:=by
 have hlt:val As<val bs:=h.lt;have hV:0<val bs:=by omega
 have e:=h.eq;constructor
 ·rw[e,Nat.add_mul_div_left _ _ hV,Nat.div_eq_of_lt hlt,Nat.zero_add]
 ·rw[e,Nat.add_mul_mod_self_left,Nat.mod_eq_of_lt hlt]
theorem VD {a b:List Nat}{t:Nat}(ha:∀d∈a,d<B)(hb:∀d∈b,d<B)(hlen:2≤b.length)(hab:b.length≤a.length)(htop:0<b.getD (b.length-1) 0)(ht:t=B/(b.getD (b.length-1) 0+1)) :
 (Bc b t 0).getD b.length 0=0∧val ((Bc b t 0).take b.length)=val b*t∧((Bc b t 0).take b.length).length=b.length∧(∀d∈(Bc b t 0).take b.length,d<B)∧B/4≤((Bc b t 0).take b.length).getD (b.length-1) 0∧
 Cq (val a*t) ((Bc b t 0).take b.length) (a.length+1-b.length) (a.length+1-b.length) (Bc a t 0) (List.replicate (a.length+1-b.length) 0)∧0<t∧t<B:=by
 obtain⟨y1,y2,y3,y4⟩:=XH htop (AP hb _);rw[←ht]at y1 y2 y3 y4;obtain⟨b1,b2⟩:=Jl b t 0 hb y2 (by decide);obtain⟨a1,a2⟩:=Jl a t 0 ha y2 (by decide);have bl:=Dt b t 0;have al:=Dt a t 0;rw[Nat.add_zero]at b1 a1;obtain⟨n,hn⟩:∃n,b.length=n+1:=⟨b.length-1,by omega⟩;have vb:=MC (l:=b) (n:=n) hn;have hbt:=EO hb (show n≤b.length by omega);rw[hn]at y3 y4 ht htop ⊢;rw[Nat.add_sub_cancel]at y3 y4 ht htop ⊢;have hvlt:val b*t<B^(n+1):=by
  have h1:val b<(b.getD n 0+1)*B^n:=by rw[vb,Nat.add_mul,Nat.one_mul];omega
  have h2:val b*t<(b.getD n 0+1)*B^n*t:=(Nat.mul_lt_mul_right y1).2 h1;have h3:(b.getD n 0+1)*B^n*t=t*(b.getD n 0+1)*B^n:=by rw[Nat.mul_comm _ t,Nat.mul_assoc]
  have h4:t*(b.getD n 0+1)*B^n≤B*B^n:=Nat.mul_le_mul_right _ y4;rw[PL];omega
 have vs:=MC (l:=Bc b t 0) (n:=n+1) (by rw[bl,hn]);have h0:(Bc b t 0).getD (n+1) 0=0:=by
  rcases Nat.eq_zero_or_pos ((Bc b t 0).getD (n+1) 0) with h|h
  ·exact h
  ·have:1*B^(n+1)≤(Bc b t 0).getD (n+1) 0*B^(n+1):=Nat.mul_le_mul_right _ h;omega
 rw[h0,Nat.zero_mul,Nat.zero_add,b1]at vs;have hdl:((Bc b t 0).take (n+1)).length=n+1:=by rw[List.length_take,bl,hn];omega
 have hdd:=P3 b2 (n+1);have vt:=MC (l:=(Bc b t 0).take (n+1)) (n:=n) hdl;have hlo:=EO (l:=(Bc b t 0).take (n+1)) hdd (show n≤((Bc b t 0).take (n+1)).length by omega);have hPn:0<B^n:=Nat.pow_pos (by decide);have hbig:b.getD n 0*t≤((Bc b t 0).take (n+1)).getD n 0:=by
  have h1:b.getD n 0*t*B^n≤val b*t:=by
   rw[vb,Nat.add_mul];have:b.getD n 0*B^n*t=b.getD n 0*t*B^n:=by rw[Nat.mul_assoc,Nat.mul_comm (B^n),Nat.mul_assoc]
   omega
  have h2:b.getD n 0*t*B^n<(((Bc b t 0).take (n+1)).getD n 0+1)*B^n:=by rw[Nat.add_mul,Nat.one_mul];omega
  have:=Nat.lt_of_mul_lt_mul_right h2;omega
 refine⟨h0,vs.symm,hdl,hdd,by omega,⟨by rw[al,hdl];omega,by simp,a2,fun d hd=>?_,zI _,?_,?_,fun j hj=>?_⟩,y1,y2⟩
 ·rw[List.eq_of_mem_replicate hd];decide
 ·rw[a1,I9,Nat.mul_zero];rfl
 ·
  rw[←vs];obtain⟨q,hq⟩:∃q,a.length+1-(n+1)=q:=⟨_,rfl⟩;rw[hq];have hal:=FY ha;have e1:=BB (Bc a t 0) q;rw[a1]at e1;have h1:B^q*val ((Bc a t 0).drop q)≤val a*t:=by omega
  have h2:val a*t<B^a.length*t:=(Nat.mul_lt_mul_right y1).2 hal;have h3:B^a.length=B^q*B^n:=by rw[←Nat.pow_add];congr 1;omega
  have h4:B^n*t≤val b*t:=by refine Nat.mul_le_mul_right _ ?_;rw[vb];have:1*B^n≤b.getD n 0*B^n:=Nat.mul_le_mul_right _ htop;omega
  have h5:B^q*val ((Bc a t 0).drop q)<B^q*(B^n*t):=by rw[←Nat.mul_assoc,←h3];omega
  have:=Nat.lt_of_mul_lt_mul_left h5;omega
 ·rw[List.getD];cases e:(List.replicate (a.length+1-(n+1)) 0)[j]? with
  |none=>rfl|some z=>exact List.eq_of_mem_replicate (List.mem_of_getElem? e)
structure JY (U V high next top u:Nat):Prop where
 q1:U/V≤top/high
 hh:B/4≤high
 hB:high<B
 nB:next<B
 uB:u<B
 tB:top≤high*B+(B-1)
 qB:U/V<B
 down:∀g,top*B+u<g*(high*B+next)→U/V<g
 fin:∀g,g*(high*B+next)≤top*B+u→g<B→g*V<U+V
theorem AcE {seg bs:List Nat}{n:Nat}(hs:∀d∈seg,d<B)(hb:∀d∈bs,d<B)(hn:bs.length=n+2)(hl:seg.length=n+3)(hU:val seg<B*val bs)(hhi:B/4≤bs.getD (n+1) 0) :
 JY (val seg) (val bs) (bs.getD (n+1) 0) (bs.getD n 0) (seg.getD (n+2) 0*B+seg.getD (n+1) 0) (seg.getD n 0):=by
 have vU:=UJ hl;have vV:=val_two hn;have lU:=EO hs (show n≤seg.length by omega);have lV:=EO hb (show n≤bs.length by omega);have h1:=AP hb (n+1);have h2:=AP hb n;have h3:=AP hs (n+2);have h4:=AP hs (n+1);have h5:=AP hs n;have hP:0<B^n:=Nat.pow_pos (by decide);generalize bs.getD (n+1) 0=hi at *;generalize bs.getD n 0=nx at *;generalize seg.getD (n+2) 0=a at *;generalize seg.getD (n+1) 0=b at *;generalize seg.getD n 0=u at *;generalize val (seg.take n)=M at *;generalize val (bs.take n)=L at *;have hh:0<hi:=Nat.lt_of_lt_of_le (by decide:0<B/4) hhi;have hV0:0<val bs:=Nat.pos_of_ne_zero fun e=>by rw[e,Nat.mul_zero]at hU;exact absurd hU (Nat.not_lt_zero _)
 refine⟨Tq hP rfl vV vU h5 lU hh,hhi,h1,h2,h5,?_,by rw[Nat.div_lt_iff_lt_mul hV0];exact hU,fun g hg=>UH vV vU lU hg,fun g hg hgB=>WV rfl vV vU lV hh hg hgB⟩;have e1:a*(B*B*B^n)≤val seg:=by
  rw[vU];have:(a*B+b)*B+u=a*B*B+(b*B+u):=by rw[Nat.add_mul,Nat.add_assoc]
  rw[this,Nat.add_mul];have:a*B*B*B^n=a*(B*B*B^n):=by rw[Nat.mul_assoc,Nat.mul_assoc,Nat.mul_assoc]
  omega
 have e2:val bs<(hi+1)*(B*B^n):=by
  rw[vV,Nat.add_mul hi 1,Nat.one_mul];have e3:(hi*B+nx)*B^n=hi*(B*B^n)+nx*B^n:=by rw[Nat.add_mul,Nat.mul_assoc]
  have e4:(nx+1)*B^n≤B*B^n:=Nat.mul_le_mul_right _ h2;rw[Nat.add_mul,Nat.one_mul]at e4;omega
 have e5:a*(B*B*B^n)<(hi+1)*(B*B*B^n):=by
  have:B*val bs<B*((hi+1)*(B*B^n)):=Nat.mul_lt_mul_of_pos_left e2 (by decide);have e6:B*((hi+1)*(B*B^n))=(hi+1)*(B*B*B^n):=by rw[Nat.mul_left_comm,Nat.mul_assoc]
  omega
 have e6:a≤hi:=Nat.le_of_lt_succ (Nat.lt_of_mul_lt_mul_right e5);exact Nat.add_le_add (Nat.mul_le_mul_right _ e6) (Nat.le_sub_one_of_lt h4)
structure Gn (U V high top g l:Nat):Prop where
 eq:g*high+l=top
 lB:l<B
 q:U/V≤g
 gB:g≤4*B+4
theorem XF {top z b h:Nat}(h1:top≤z+(b-1))(h3:b≤h*4):top≤4*z+h*4+(h-1):=by omega
theorem Adw {x l top z b:Nat}(he:x+l=top)(hl:b≤l)(h1:top≤z+(b-1))(hb:0<b):x<z:=by omega
theorem SQ {U V high next top u:Nat}(h:JY U V high next top u):Gn U V high top (top/high) (top%high):=by
 have hh:0<high:=Nat.lt_of_lt_of_le (by decide:0<B/4) h.hh;refine⟨by rw[Nat.mul_comm];exact Nat.div_add_mod top high,Nat.lt_trans (Nat.mod_lt _ hh) h.hB,h.q1,?_⟩;rw[Nat.div_le_iff_le_mul_add_pred hh];have h1:=h.tB;have h2:=h.hh;have h3:(B/4)*4≤high*4:=Nat.mul_le_mul_right _ h2;have h5:high*(4*B+4)=4*(high*B)+high*4:=by rw[Nat.mul_add,Nat.mul_left_comm]
 rw[show(B/4)*4=B from by decide]at h3;rw[h5];exact XF h1 h3
theorem Gn.more {U V high next top u g l:Nat}(h:JY U V high next top u)(i:Gn U V high top g l)(hc:B≤g∨l*B+u<g*next):0<g∧U/V≤g-1∧(g-1)*high+(l+high)=top∧g-1≤4*B+4:=by
 have h1:=i.eq;have hq:U/V<g:=by
  rcases hc with hc|hc
  ·have:=h.qB;omega
  ·refine h.down g ?_;rw[←h1];have:(g*high+l)*B=g*(high*B)+l*B:=by rw[Nat.add_mul,Nat.mul_assoc]
   rw[Nat.mul_add,this];omega
 obtain⟨j,rfl⟩:∃j,g=j+1:=⟨g-1,by have:=Nat.lt_of_le_of_lt (Nat.zero_le _) hq;omega⟩;refine⟨Nat.succ_pos _,Nat.le_of_lt_succ hq,?_,Nat.le_of_succ_le i.gB⟩;rw[Nat.add_mul,Nat.one_mul]at h1;rw[Nat.add_sub_cancel];omega
theorem Xo {U V high next top u g l:Nat}(h:JY U V high next top u)(he:g*high+l=top)(hl:B≤l):g<B∧g*V<U+V:=by
 have hh:0<high:=Nat.lt_of_lt_of_le (by decide:0<B/4) h.hh;have hg:g<B:=by
  have h1:=h.tB;have h2:g*high<B*high:=by rw[Nat.mul_comm B];exact Adw he hl h1 (by decide)
  exact Nat.lt_of_mul_lt_mul_right h2
 refine⟨hg,h.fin g ?_ hg⟩;rw[←he];have e1:(g*high+l)*B=g*(high*B)+l*B:=by rw[Nat.add_mul,Nat.mul_assoc]
 have e2:g*next≤(B-1)*(B-1):=Nat.mul_le_mul (by omega) (by have:=h.nB;omega)
 have e3:B*B≤l*B:=Nat.mul_le_mul_right _ hl;have e4:(B-1)*(B-1)≤B*B:=by decide
 rw[Nat.mul_add,e1];omega
theorem Gn.stop {U V high next top u g l:Nat}(h:JY U V high next top u)(i:Gn U V high top g l)(h1:g<B)(h2:¬l*B+u<g*next):g*V<U+V:=by
 refine h.fin g ?_ h1;rw[←i.eq];have e1:(g*high+l)*B=g*(high*B)+l*B:=by rw[Nat.add_mul,Nat.mul_assoc]
 rw[Nat.mul_add,e1];omega
end Go.Nl
namespace Go.Nl
open Go Go.Proofs Go.RowKit
theorem Sl.below {w w':World}{Ok:Nat→Prop}{ds:List Nat}{v:Value}(h:Sl w Ok ds v)(hb:Below w.heap.size w w'):Sl w' Ok ds v:=
 h.imp id fun⟨b,o,cap,h1,h2,h3,h4⟩=>⟨b,o,cap,h1,h2,h3,h4.mono (fun _ h=>h) hb⟩
theorem Sl.mono {w:World}{Ok Ok':Nat→Prop}{ds:List Nat}{v:Value}(h:Sl w Ok ds v)(hk:∀b,Ok b→Ok' b):Sl w Ok' ds v:=
 h.imp id fun⟨b,o,cap,h1,h2,h3,h4⟩=>⟨b,o,cap,h1,h2,h3,hk b h4.1,h4.2⟩
theorem Fa {w:World}{base n:Nat}{v:Value}{ds:List Nat}(h:w.ownsRow base 268 1 v n (ds.map (fun d=>Value.int .u32 (d:Nat))))(hp:0<n) :
 ∃g cap,v=.slice (some ⟨g,0,none⟩) n cap∧base≤g∧g<w.heap.size∧n≤cap∧ds.length=n∧(∀i,i<n→w.cell? ⟨g,i,none⟩=some (.int .u32 (ds.getD i 0:Nat))∧w.frozen? ⟨g,i,none⟩=false):=by
 have hl:ds.length=n:=by simpa using h.1
 rcases h.2 with⟨_,h0⟩|⟨g,cap,cur,rfl,h1,h2,h3,_⟩
 ·omega
 ·exact⟨g,cap,rfl,h1,(Array.getElem?_eq_some_iff.1 h2).1,h3,hl,fun i hi=>Lm h hl hi⟩
theorem Pm {w w':World}{base n:Nat}{v:Value}{xs:List Value}(h:w.ownsRow base 268 1 v n xs)(hb:Below w.heap.size w w'):w'.ownsRow base 268 1 v n xs:=
 h.kept (row:=none) ⟨hb.os,hb.tape,hb.output,hb.size,fun k hk _=>hb.block k hk⟩ (by cases v.ownBlock<;>simp)
theorem WW {w:World}{base base' n:Nat}{v:Value}{xs:List Value}(h:w.ownsRow base 268 1 v n xs)(hb:base'≤base):w.ownsRow base' 268 1 v n xs:=
 ⟨h.1,h.2.imp id fun⟨g,cap,cur,h1,h2,h3⟩=>⟨g,cap,cur,h1,zM hb h2,h3⟩⟩
theorem Q4 {w:World}{a:Addr}{v:Value}(h:w.cell? a=some v):w.setCell a v=w:=by
 have key:(w.setCell a v).heap=w.heap:=by
  simp only[World.setCell];apply Array.ext_getElem?;intro i;simp only[Array.getElem?_modify];by_cases hb:a.block=i
  ·subst hb;simp only[if_true];simp only[World.cell?]at h;cases hg:w.heap[a.block]? with
   |none=>rfl|some o=>
    rw[hg]at h;cases o with
    |cells c e f=>
     simp only[Option.map_some];by_cases hs:a.spot.isSome
     ·simp[hs]
     ·simp only[hs,Bool.false_eq_true,if_false];congr 2;apply Array.ext_getElem?;intro j;rw[Array.getElem?_setIfInBounds];by_cases hj:a.off=j
      ·subst hj;have hspot:a.spot=none:=by simpa using hs
       rw[hspot]at h;simp only at h;rw[if_pos rfl];split
       ·exact h.symm
       ·rename_i hlt;rw[Array.getElem?_eq_none (by omega)]
      ·rw[if_neg hj]
    |_=>rfl
  ·rw[if_neg hb]
 show({ w with heap:=(w.setCell a v).heap } : World)=w;rw[key]
theorem I8 {b:Nat} : ∀(vs:List Value) (o:Nat) (w:World),(∀j,j<vs.length→w.cell? ⟨b,o+j,none⟩=vs[j]?)→w.setCells b o vs=w
 |[],o,w,_=>rfl|v::vs,o,w,h=>by
  have h0:=h 0 (by simp);simp only[Nat.add_zero,List.getElem?_cons_zero]at h0;show(w.setCell ⟨b,o,none⟩ v).setCells b (o+1) vs=w;rw[Q4 h0];refine I8 vs (o+1) w fun j hj=>?_
  have:=h (j+1) (by simpa using hj);rw[List.getElem?_cons_succ]at this;rw[←this];congr 2;omega
theorem Acu (w:World):(zeroValue 268).run Tryz.prog w=.ok (.int .u32 0) w:=by kernel_rfl
theorem OH (As:List Nat)(p q j:Nat)(h:j<q):((As.drop p).take q).getD j 0=As.getD (p+j) 0:=by rw[List.getD,List.getD,List.getElem?_take_of_lt h,List.getElem?_drop]
theorem XW {s1 s2 H:Nat}(h1:s1<B)(h2:s2<B)(hH:B/4≤H)(_hHB:H<B):IntKind.u64.wrap (s1:Int)=s1∧IntKind.u64.wrap (s2:Int)=s2∧IntKind.u64.wrap ((s2:Int)*1000000000)=((s2*B:Nat):Int)∧IntKind.u64.wrap (((s2*B:Nat):Int)+(s1:Int))=((s2*B+s1:Nat):Int)∧
 (((H:Int)=0)=False)∧Int.tdiv ((s2*B+s1:Nat):Int) (H:Int)=(((s2*B+s1)/H:Nat):Int)∧IntKind.u64.wrap (((s2*B+s1)/H:Nat):Int)=(((s2*B+s1)/H:Nat):Int)∧Int.tmod ((s2*B+s1:Nat):Int) (H:Int)=(((s2*B+s1)%H:Nat):Int):=by
 have b0:s2*B+s1<B*B:=by have:(s2+1)*B≤B*B:=Nat.mul_le_mul_right _ h2;rw[Nat.add_mul,Nat.one_mul]at this;omega
 have b1:s2*B+s1<18446744073709551616:=Nat.lt_trans b0 (by decide);refine⟨wrap_u64 _ (Nat.lt_trans h1 (by decide)),wrap_u64 _ (Nat.lt_trans h2 (by decide)),?_,?_,?_,Tr _ _,wrap_u64 _ (Nat.lt_of_le_of_lt (Nat.div_le_self _ _) b1),NL _ _⟩
 ·rw[Z6];exact wrap_u64 _ (Nat.lt_of_le_of_lt (Nat.le_add_right _ _) b1)
 ·rw[←Int.natCast_add];exact wrap_u64 _ b1
 ·have:0<H:=Nat.lt_of_lt_of_le (by decide) hH;exact eq_false (by omega)
structure CP (w:World)(ga ca gq cq gb n m:Nat)(As qs bs:List Nat)(wx:World):Prop where
 ra:wx.ownsRow w.heap.size 268 1 (.slice (some ⟨ga,0,none⟩) (m+n) ca) (m+n) (As.map (fun d=>Value.int .u32 (d:Nat)))
 rq:wx.ownsRow w.heap.size 268 1 (.slice (some ⟨gq,0,none⟩) m cq) m (qs.map (fun d=>Value.int .u32 (d:Nat)))
 bc:∀i,i<n→wx.cell? ⟨gb,i,none⟩=some (.int .u32 (bs.getD i 0:Nat))
 gb:gb<wx.heap.size
 below:Below w.heap.size w wx
theorem Uo {g l X x0 H:Nat}(hg:g≤4*B+4)(hl:l<B)(hX:X<B)(hx:x0<B)(hH:H<B):IntKind.u64.wrap ((g:Int)*(X:Int))=((g*X:Nat):Int)∧IntKind.u64.wrap ((l:Int)*1000000000)=((l*B:Nat):Int)∧IntKind.u64.wrap (((l*B:Nat):Int)+(x0:Int))=((l*B+x0:Nat):Int)∧IntKind.u64.wrap (x0:Int)=x0∧
 IntKind.u64.wrap ((l:Int)+(H:Int))=((l+H:Nat):Int)∧(0<g→IntKind.u64.wrap ((g:Int)-1)=((g-1:Nat):Int)):=by
 have b0:l*B+x0<B*B:=by have:(l+1)*B≤B*B:=Nat.mul_le_mul_right _ hl;rw[Nat.add_mul,Nat.one_mul]at this;omega
 have b1:l*B+x0<18446744073709551616:=Nat.lt_trans b0 (by decide);have b2:g*X≤(4*B+4)*B:=Nat.mul_le_mul hg (Nat.le_of_lt hX);have b3:g*X<18446744073709551616:=Nat.lt_of_le_of_lt b2 (by decide);refine⟨?_,?_,?_,wrap_u64 _ (Nat.lt_trans hx (by decide)),?_,fun h0=>?_⟩
 ·rw[←Int.natCast_mul];exact wrap_u64 _ b3
 ·rw[Z6];exact wrap_u64 _ (Nat.lt_of_le_of_lt (Nat.le_add_right _ _) b1)
 ·rw[←Int.natCast_add];exact wrap_u64 _ b1
 ·rw[←Int.natCast_add];exact wrap_u64 _ (Nat.lt_of_lt_of_le (Nat.add_lt_add hl hH) (by decide))
 ·rw[show(g:Int)-1=((g-1:Nat):Int) by omega];exact wrap_u64 _ (Nat.lt_of_le_of_lt (Nat.sub_le _ _) (Nat.lt_of_le_of_lt hg (by decide)))
theorem CP.drewN {w wx:World}{ga ca gq cq gb n m:Nat}{As qs bs:List Nat}(h:CP w ga ca gq cq gb n m As qs bs wx)(k:Nat):CP w ga ca gq cq gb n m As qs bs (wx.drewN k):=
 ⟨h.ra,h.rq,h.bc,h.gb,h.below.os,h.below.tape,h.below.output,h.below.size,h.below.block⟩
theorem CP.cell {w wx:World}{ga ca gq cq gb n m:Nat}{As qs bs:List Nat}(h:CP w ga ca gq cq gb n m As qs bs wx)(hla:As.length=m+n){j:Nat}(hj:j<m+n):wx.cell? ⟨ga,j,none⟩=some (.int .u32 (As.getD j 0:Nat)):=by obtain⟨g1,c1',hgc,_,_,_,_,Cv⟩:=Fa h.ra (by omega);injection hgc with hgc _ _;injection hgc with hgc;injection hgc with hgc;subst hgc;exact(Cv j (by omega)).1
theorem Gz {w:World}{N n g cap:Nat}{xs:List Value}(h:w.ownsRow N 268 1 (.slice (some ⟨g,0,none⟩) n cap) n xs):N≤g∧g<w.heap.size:=by
 rcases h.2 with⟨h,_⟩|⟨g',cap,cur,h,h1,h2,_⟩
 ·cases h
 ·simp only[Value.slice.injEq,zC,Addr.mk.injEq]at h;obtain⟨⟨rfl,_⟩,_⟩:=h;exact⟨h1,(Array.getElem?_eq_some_iff.1 h2).1⟩
theorem CP.kept {w wx w':World}{ga ca gq cq gb n m:Nat}{As As' qs bs:List Nat}(h:CP w ga ca gq cq gb n m As qs bs wx)(hg:ga≠gb∧gq≠ga∧gq≠gb)
 (ho:w'.ownsRow w.heap.size 268 1 (.slice (some ⟨ga,0,none⟩) (m+n) ca) (m+n) (As'.map (fun d=>Value.int .u32 (d:Nat)))) (hk:wx.grownBy w' (some ga)):CP w ga ca gq cq gb n m As' qs bs w':=
 ⟨ho,h.rq.kept hk (.inr fun e=>hg.2.1 (Option.some.inj e)),fun i hi=>(GC hk h.gb (fun e=>hg.1 e.symm)).trans (h.bc i hi),Nat.lt_of_lt_of_le h.gb hk.size,h.below.grown hk h.below.size (fun k e=>by obtain rfl:=Option.some.inj e;exact(Gz h.ra).1)⟩
theorem W8 {w wx:World}{ga ca gq cq gb n m p t:Nat}{As qs bs:List Nat}(h:CP w ga ca gq cq gb n m As qs bs wx)(hg:ga≠gb∧gq≠ga∧gq≠gb)(hbn:bs.length=n)
 (hda:∀d∈As,d<B) (hdb:∀d∈bs,d<B) (hL:As.length<1000000) (hp:p+n+1≤As.length) (ht:t<B) (hla:As.length=m+n) :
 Calls Tryz.prog 372 #[.slice (some ⟨ga,0,none⟩) (m+n) ca,.slice (some ⟨gb,0,none⟩) n n,.int .i64 p,.int .u64 t] wx fun e w'=>e=.returned (.bool ((((Bg ((As.drop p).take (n+1)) bs t 0 0).2:Nat):Int) != 0))∧CP w ga ca gq cq gb n m (As.take p++((Bg ((As.drop p).take (n+1)) bs t 0 0).1++As.drop (p+n+1))) qs bs w':=by
 subst hbn;have hr:=h.ra;rw[←hla]at hr ⊢;refine(Xf hr (Gz hr).2 h.gb (fun e=>hg.1 e.symm) h.bc (zI _) hp hL hda hdb ht).mono ?_;rintro e w' ⟨rfl,ho,hk⟩;rw[hla]at ho;exact⟨rfl,h.kept hg ho hk⟩
theorem X8 {w wx:World}{ga ca gq cq gb n m p:Nat}{As qs bs:List Nat}(h:CP w ga ca gq cq gb n m As qs bs wx)(hg:ga≠gb∧gq≠ga∧gq≠gb)(hbn:bs.length=n)
 (hda:∀d∈As,d<B) (hdb:∀d∈bs,d<B) (hL:As.length<1000000) (hp:p+n+1≤As.length) (hla:As.length=m+n) :
 Calls Tryz.prog 373 #[.slice (some ⟨ga,0,none⟩) (m+n) ca,.slice (some ⟨gb,0,none⟩) n n,.int .i64 p] wx fun e w'=>e=.returned (.tuple #[])∧CP w ga ca gq cq gb n m (As.take p++((Ck ((As.drop p).take (n+1)) bs 0).1++As.drop (p+n+1))) qs bs w':=by
 subst hbn;have hr:=h.ra;rw[←hla]at hr ⊢;refine(WY hr (Gz hr).2 h.gb (fun e=>hg.1 e.symm) h.bc (zI _) hp hL hda hdb).mono ?_;rintro e w' ⟨rfl,ho,hk⟩;rw[hla]at ho;exact⟨rfl,h.kept hg ho hk⟩
theorem Uv {α:Type}{xs ys zs:List α}{p n:Nat}(h1:xs.length=p)(h2:ys.length=n):(xs++(ys++zs)).take p=xs∧((xs++(ys++zs)).drop p).take n=ys∧(xs++(ys++zs)).drop (p+n)=zs:=by subst h1 h2;refine⟨by simp,by simp,?_⟩;rw[←List.drop_drop,List.drop_left,List.drop_left]
theorem Cq.round0 {A m p n g:Nat}{As qs bs:List Nat}(hb:∀d∈bs,d<B)(hbn:bs.length=n)(h:Cq A bs m (p+1) As qs)(g1:g<B)(g2:val ((As.drop p).take (n+1))/val bs≤g)(g3:g*val bs<val ((As.drop p).take (n+1))+val bs)
 (hc:(Bg ((As.drop p).take (n+1)) bs g 0 0).2=0):Cq A bs m p (As.take p++((Bg ((As.drop p).take (n+1)) bs g 0 0).1++As.drop (p+n+1))) (qs.set p g):=by
 subst hbn;obtain⟨z1,z2,z3,z4,z5,z6⟩:=h.seg hb;have hV:0<val bs:=by have:=h.lt;omega
 obtain⟨d1,d2,d3,d4⟩:=OE z2 hb z1 hV g1 g2 g3;obtain⟨e1,e2⟩:=d1 hc;exact h.next hb (by rw[EX];exact z1) d3 e2 e1
theorem Cq.round1 {A m p n g:Nat}{As qs bs:List Nat}(hb:∀d∈bs,d<B)(hbn:bs.length=n)(h:Cq A bs m (p+1) As qs)(g1:g<B)(g2:val ((As.drop p).take (n+1))/val bs≤g)(g3:g*val bs<val ((As.drop p).take (n+1))+val bs)
 (hc:(Bg ((As.drop p).take (n+1)) bs g 0 0).2≠0):0<g∧∃As',As.take p++((Bg ((As.drop p).take (n+1)) bs g 0 0).1++As.drop (p+n+1))=As'∧As'.length=m+n∧(∀d∈As',d<B)∧Cq A bs m p (As'.take p++((Ck ((As'.drop p).take (n+1)) bs 0).1++As'.drop (p+n+1))) (qs.set p (g-1)):=by
 subst hbn;obtain⟨z1,z2,z3,z4,z5,z6⟩:=h.seg hb;have hV:0<val bs:=by have:=h.lt;omega
 have hla:=h.la;obtain⟨d1,d2,d3,d4⟩:=OE z2 hb z1 hV g1 g2 g3;obtain⟨e0,e1,e2⟩:=d2 hc;have hl2:(Bg ((As.drop p).take (bs.length+1)) bs g 0 0).1.length=bs.length+1:=by rw[EX];exact z1
 obtain⟨q1,q2,q3⟩:=Uv (zs:=As.drop (p+bs.length+1)) (show(As.take p).length=p by rw[List.length_take];omega) hl2;refine⟨e0,_,rfl,?_,?_,?_⟩
 ·rw[zR,zR,hl2,List.length_take,List.length_drop];omega
 ·intro d hd;rcases List.mem_append.1 hd with hd|hd
  ·exact h.da d (List.mem_of_mem_take hd)
  ·rcases List.mem_append.1 hd with hd|hd
   ·exact d3 d hd
   ·exact h.da d (List.mem_of_mem_drop hd)
 ·rw[Nat.add_assoc p]at q1 q2 q3 ⊢;rw[q1,q2,q3];have:=h.next hb (seg':=(Ck (Bg ((As.drop p).take (bs.length+1)) bs g 0 0).1 bs 0).1) (by rw[GS];exact hl2) d4 e2 e1;rw[Nat.add_assoc p]at this;exact this
theorem CP.store {w wx w':World}{ga ca gq cq gb n m p g:Nat}{As qs bs:List Nat}(h:CP w ga ca gq cq gb n m As qs bs wx)(hg:ga≠gb∧gq≠ga∧gq≠gb)(_hlq:qs.length=m)(_hpm:p<m)(hw:w'=wx.setCell ⟨gq,((p:Nat):Int).toNat,none⟩ (.int .u32 ((g:Nat):Int))):CP w ga ca gq cq gb n m As (qs.set p g) bs w':=by subst hw;obtain⟨h1,h2⟩:=h.rq.stored p (.int .u32 ((g:Nat):Int));rw[Int.toNat_natCast];exact⟨h.ra.kept h2 (.inr fun e=>hg.2.1 (Option.some.inj e).symm),by rw[List.map_set];exact h1,fun i hi=>(GC h2 h.gb (fun e=>hg.2.2 e.symm)).trans (h.bc i hi),Nat.lt_of_lt_of_le h.gb h2.size,h.below.grown h2 h.below.size (fun k e=>by obtain rfl:=Option.some.inj e;exact(Gz h.rq).1)⟩
theorem CP.qcell {w wx:World}{ga ca gq cq gb n m p:Nat}{As qs bs:List Nat}(h:CP w ga ca gq cq gb n m As qs bs wx)(hl:qs.length=m)(hp:p<m):wx.cell? ⟨gq,p,none⟩=some (.int .u32 (qs.getD p 0:Nat))∧wx.frozen? ⟨gq,p,none⟩=false:=by subst hl;obtain⟨g1,c1',hgc,_,_,_,_,Cv⟩:=Fa h.rq (by omega);injection hgc with hgc _ _;injection hgc with hgc;injection hgc with hgc;subst hgc;exact Cv p hp
theorem CP.slice {w wx:World}{ga ca gq cq gb n m:Nat}{As qs bs:List Nat}(h:CP w ga ca gq cq gb n m As qs bs wx)(hla:As.length=m+n)(hn:0<n):Sl wx (fun b=>w.heap.size≤b) (As.take n) (.slice (some ⟨ga,0,none⟩) n ca):=by
 obtain⟨g1,c1',hgc,hb1,hb2,hb3,_,Cv⟩:=Fa h.ra (by omega);injection hgc with hgc _ hcc;injection hgc with hgc;injection hgc with hgc;subst hgc hcc;have hl:(As.take n).length=n:=by rw[List.length_take];omega
 refine .inr ⟨ga,0,ca,by rw[hl],by omega,fun e=>by rw[e]at hl;exact absurd hl (by simp;omega),hb1,hb2,fun i hi=>?_⟩;rw[hl]at hi;rw[Nat.zero_add,(Cv i (by omega)).1,List.getD,List.getD,List.getElem?_take_of_lt hi]
theorem CP.quot {w wx:World}{ga ca gq cq gb n m:Nat}{As qs bs:List Nat}(h:CP w ga ca gq cq gb n m As qs bs wx)(hl:qs.length=m)(hm:0<m):Sl wx (fun b=>w.heap.size≤b) qs (.slice (some ⟨gq,0,none⟩) m cq):=E7 h.rq hl hm
theorem Z3 {As bs qs:List Nat}{va vb y m n:Nat}(hy:0<y)(hbs:val bs=vb*y)(hbn:bs.length=n)(hdb:∀d∈bs,d<B)(h:Cq (va*y) bs m 0 As qs):val qs=va/vb∧val (As.take n)/y=va%vb:=by
 obtain⟨D1,D2⟩:=h.done;have hlt:val As<val bs:=h.lt;have hb:=FY hdb;have e:=BB As n;have hz:val (As.drop n)=0:=by
  rcases Nat.eq_zero_or_pos (val (As.drop n)) with h|h
  ·exact h
  ·have:B^n*1≤B^n*val (As.drop n):=Nat.mul_le_mul_left _ h;rw[hbn]at hb;omega
 rw[hz,Nat.mul_zero,Nat.add_zero]at e;rw[←e,D2,D1,hbs,Nat.mul_div_mul_right _ _ hy,Nat.mul_mod_mul_right,Nat.mul_div_cancel _ hy];exact⟨rfl,rfl⟩
def Abp (a b:List Nat)(w:World)(e:Ending)(w':World):Prop:=∃vq vr qs rs,e=.returned (.tuple #[vq,vr])∧Sl w' (fun b=>w.heap.size≤b) qs vq∧Sl w' (fun b=>w.heap.size≤b) rs vr∧(∀d∈qs,d<B)∧(∀d∈rs,d<B)∧val qs=val a/val b∧val rs=val a%val b∧qs.length=a.length+1-b.length∧rs.length=b.length∧Below w.heap.size w w'
theorem II {b k l H l2:Nat}(hk:b≤k+l)(hl:l<b)(he:l+H=l2)(h0:0<H):k-1<k∧b≤k-1+l2:=by omega
set_option maxHeartbeats 4000000 in
set_option maxRecDepth 1000000 in
theorem Zu {Ok Ok':Nat→Prop}{a b:List Nat}{va vb:Value}{w:World}(ha:∀d∈a,d<B)(hb:∀d∈b,d<B)(hlen:2≤b.length)(hab:b.length≤a.length)(hL:a.length<100000)(htop:0<b.getD (b.length-1) 0)(hva:Sl w Ok a va)(hvb:Sl w Ok' b vb) :
 Calls Tryz.prog 345 #[va,vb] w (fun e w'=>∃vq vr qs rs,e=.returned (.tuple #[vq,vr])∧Sl w' (fun b=>w.heap.size≤b) qs vq∧Sl w' (fun b=>w.heap.size≤b) rs vr∧(∀d∈qs,d<B)∧(∀d∈rs,d<B)∧val qs=val a/val b∧val rs=val a%val b∧qs.length=a.length+1-b.length∧rs.length=b.length∧Below w.heap.size w w'):=by
 rw[show(fun (e:Ending) (w':World)=>∃vq vr qs rs,e=.returned (.tuple #[vq,vr])∧Sl w' (fun b=>w.heap.size≤b) qs vq∧Sl w' (fun b=>w.heap.size≤b) rs vr∧(∀d∈qs,d<B)∧(∀d∈rs,d<B)∧val qs=val a/val b∧val rs=val a%val b∧qs.length=a.length+1-b.length∧rs.length=b.length∧Below w.heap.size w w')=Abp a b w from rfl];obtain⟨A1,c1,rfl,hc1,h1⟩:=Dw hvb;obtain⟨b1,o1,rfl,hb1,hcell1⟩:=h1 (by omega);have hcL:=hcell1 (b.length-1) (by omega);have htB:=AP hb (b.length-1);have HS:=Lib.hid (VD ha hb hlen hab htop rfl);have HA:=Lib.hid hva;have HB:=Lib.hid hvb;clear hva hvb h1 hcell1;generalize hT:b.getD (b.length-1) 0=t at *;generalize hbL:b.length=n at *;generalize hY:B/(t+1)=y at *;obtain⟨s1,s2,s3,s4,s5,s6,s7,s8⟩:=HS.out;obtain⟨A0,c0,rfl,hc0,h0⟩:=Dw HA.out;have hA:=fun (W:World) (Ok2:Nat→Prop) (hs:Sl W Ok2 a (.slice A0 a.length c0))=>M7 (w:=W) rfl ha (by omega) s8 hs
 have hBc:=fun (W:World) (Ok2:Nat→Prop) (hs:Sl W Ok2 b (.slice (some ⟨b1,o1,none⟩) n c1))=>M7 (w:=W) hbL hb (by omega) s8 hs
 have k1:IntKind.u64.wrap (t:Int)=t:=wrap_u64 t (by simp only[B]at htB;omega);have k2:IntKind.u64.wrap ((t:Int)+1)=(t:Int)+1:=wrap_u64 (t+1) (by simp only[B]at htB;omega);have k3:((t:Int)+1=0)=False:=eq_false (by omega);have k4:Int.tdiv 1000000000 ((t:Int)+1)=(y:Int):=by rw[←hY];exact Tr B (t+1)
 have k5:IntKind.u64.wrap (y:Int)=y:=wrap_u64 y (by simp only[B]at s8;omega);have k6:(y:Int)%4294967296=y:=QV s8;have HT:=Lib.hid hT;have HN:=Lib.hid hbL;have HY:=Lib.hid hY;have HK:=Lib.hid (And.intro s1 (And.intro s2 (And.intro s3 (And.intro s4 (And.intro s5 (And.intro s6 (And.intro s7 s8)))))));clear hT hbL hY s1 s2 s3 s4 s5 s6 s7 s8 HS h0 ha hb
 go_enter Tryz.func345,Tryz.ntmps345
 go_wp2_with fail
 refine(hA w Ok HA.out).mono ?_;rintro e w1 ⟨v1,rfl,hR1,hB1⟩;have hB1':=Lib.hid hB1;have hb2:=hBc w1 Ok' (HB.out.below hB1);clear hB1;have hR1':=Lib.hid hR1;clear hR1
 go_wp2_with fail
 refine hb2.mono ?_;rintro e w2 ⟨v2,rfl,hR2,hB2⟩;obtain⟨s1,s2,s3,s4,s5,s6,s7,s8⟩:=HK.out;have hl2:=Dt b y 0;have hl1:=Dt a y 0;rw[HN.out]at hl2;obtain⟨gb,cb,rfl,q1,q2,q3,_,q4⟩:=Fa hR2 (by omega);obtain⟨ga,ca,rfl,r1,r2,r3,_,r4⟩:=Fa hR1'.out (by omega);have hBw:Below w.heap.size w w2:=hB1'.out.trans (hB2.mono hB1'.out.size);have hga2:ga<w2.heap.size:=Nat.lt_of_lt_of_le r2 hB2.size;have hgab:ga≠gb:=by omega
 have HRa:=Lib.hid (Pm hR1'.out hB2);have HBw:=Lib.hid hBw;have ch:=(q4 (n-1) (by omega)).1;have cx:=(q4 (n-2) (by omega)).1;have HQ4:=Lib.hid q4;clear hR1' hR2 r4 q4 hB1' hB2 hb2 hBw hA hBc hcL k1 k2 k3 k4 k5 k6;obtain⟨bs,hbs⟩:∃bs,(Bc b y 0).take n=bs:=⟨_,rfl⟩;have hh:(Bc b y 0).getD (n-1) 0=bs.getD (n-1) 0:=by rw[←hbs,List.getD,List.getD,List.getElem?_take_of_lt (by omega)]
 have hx:(Bc b y 0).getD (n-2) 0=bs.getD (n-2) 0:=by rw[←hbs,List.getD,List.getD,List.getElem?_take_of_lt (by omega)]
 rw[hh]at ch;rw[hx]at cx;rw[hbs]at s2 s3 s4 s5 s6;have hhB:=AP s4 (n-1);have hxB:=AP s4 (n-2);have HBS:=Lib.hid hbs;obtain⟨H,hH⟩:∃H,bs.getD (n-1) 0=H:=⟨_,rfl⟩;obtain⟨X,hX⟩:∃X,bs.getD (n-2) 0=X:=⟨_,rfl⟩;rw[hH]at ch hhB s5;rw[hX]at cx hxB;have HH:=Lib.hid hH;have HX:=Lib.hid hX;clear hh hx hbs hH hX;obtain⟨m,hm⟩:∃m,a.length+1-n=m:=⟨_,rfl⟩;rw[hm]at s6;have HM:=Lib.hid hm;have hm1:(a.length:Int)+1-n=(m:Int):=by omega
 have hm0:0<m:=by omega
 have hmL:m<1000000:=by omega
 have hnm:a.length+1=m+n:=by omega
 have HS:=Lib.hid (And.intro s1 (And.intro s2 (And.intro s3 (And.intro s4 (And.intro s5 (And.intro s6 (And.intro s7 s8)))))));clear s1 s2 s3 s4 s6 s7 s8 HK hm;have e1:(n:Int)+1-1=n:=by omega
 have l1:(0:Int)≤(n:Int)-1:=by omega
 have l2:(0:Int)≤(n:Int)-2:=by omega
 have l3:((n:Int)-1).toNat=n-1:=by omega
 have l4:((n:Int)-2).toNat=n-2:=by omega
 have l5:(n:Int)-1<n:=by omega
 have l6:(n:Int)-2<n:=by omega
 have k1:IntKind.u64.wrap (H:Int)=H:=wrap_u64 H (by simp only[B]at hhB;omega);have k2:IntKind.u64.wrap (X:Int)=X:=wrap_u64 X (by simp only[B]at hxB;omega)
 go_wp2_with fail
 go_quiet (fail)
 obtain⟨i0,hi,hz0,hz1,hz2⟩:=info_parts E1;have HI:=Lib.hid hz2
 go_wp2_with (at_make;go_loud (refine wpList_make_full _ rfl _ _ 147 rfl w2.heap.size 268 i0 (.int .u32 0) 1 Tryz.underlying147 hi hz0 hz1 _ _ _ _ m rfl rfl rfl rfl ?b2 ?b3 (zI _) ?_))
 case b2=>rw[HI.out];omega
 case b3=>unfold maxLen;omega
 intro w3 hoq hgq;have hbq:Below w2.heap.size w2 w3:=⟨hgq.os,hgq.tape,hgq.output,hgq.size,fun k hk=>hgq.block k hk nofun⟩
 replace hoq:w3.ownsRow w2.heap.size 268 1 (.slice (some ⟨w2.heap.size,0,none⟩) m m) m ((List.replicate m 0).map (fun d=>Value.int .u32 (d:Nat))):=by have h:=Hw m;rw[Nat.mul_one,List.nil_append]at h;rw[←h];exact hoq
 obtain⟨gq,cq,hv,p1,p2,p3,_,p4⟩:=Fa hoq hm0;rw[hv]at hoq ⊢;clear hi hz0 hz1 hz2 HI hgq hv
 go_wp2_with fail
 have hclr:=Lib.run_clear_slice (P:=Tryz.prog) w3 147 268 0 (.int .u32 0) Tryz.underlying147 Acu rfl rfl gq 0 m cq hm0 (fun j hj=>by rw[Nat.zero_add,(p4 j hj).1];rfl) (fun j hj=>by rw[Nat.zero_add];exact(p4 j hj).2);rw[I8 _ _ _ (fun j hj=>by rw[List.length_replicate]at hj;rw[Nat.zero_add,(p4 j hj).1,List.getElem?_replicate,if_pos hj];congr 2;rw[List.getD,List.getElem?_replicate,if_pos hj];rfl)]at hclr;rw[hclr]
 go_wp2_with fail
 have hbq2:Below w2.heap.size w2 w3:=⟨hbq.os,hbq.tape,hbq.output,hbq.size,hbq.block⟩;have hB3:Below w.heap.size w w3:=HBw.out.trans (hbq2.mono HBw.out.size);have hgb3:gb<w3.heap.size:=Nat.lt_of_lt_of_le q2 hbq2.size;have p1':w2.heap.size≤gq:=p1;have hgq1:gq≠ga:=by omega
 have hgq2:gq≠gb:=by omega
 have HRa3:=Lib.hid (Pm HRa.out hbq2);have HRq3:=Lib.hid (WW hoq HBw.out.size);have HB3:=Lib.hid hB3;have HG:=Lib.hid (And.intro hgab (And.intro hgq1 hgq2));have HBC:=Lib.hid (show ∀i,i<n→w3.cell? ⟨gb,i,none⟩=some (.int .u32 (bs.getD i 0:Nat)) from fun i hi=>by rw[hbq2.cell (p:=⟨gb,i,none⟩) q2];refine((HQ4.out i (by omega)).1).trans ?_;rw[←HBS.out,List.getD,List.getD,List.getElem?_take_of_lt hi]);have HGB:=Lib.hid hgb3;clear hclr p4 hoq hbq hbq2 HRa HBw HQ4 hB3 hgb3 hgab hgq1 hgq2 hga2 r1 r2 q1 q2 p1 p2 p1' ch cx e1 l1 l2 l3 l4 l5 l6
 go_loopg [61] m (fun p v61 wr=>∃(i:Nat) (As qs:List Nat),v61=.int .i64 i∧i+p=m∧F5 (Cq (val a*y) bs m p As qs∧CP w ga ca gq cq gb n m As qs bs wr))
 case atStart=>
  have g1:=HRa3.out;have g2:=HRq3.out;rw[hnm]at g1;exact⟨0,Bc a y 0,List.replicate m 0,rfl,by omega,⟨HS.out.2.2.2.2.2.1,g1,g2,HBC.out,HGB.out,HB3.out⟩⟩
 case round=>
  obtain⟨i,As,qs,rfl,hip,HA⟩:=hrel;cases gk with
  |zero=>
   obtain⟨inv,hOW⟩:=HA.out;clear HA;obtain⟨D1,D2⟩:=Z3 HS.out.2.2.2.2.2.2.1 HS.out.2.1 HS.out.2.2.1 HS.out.2.2.2.1 inv;obtain rfl:i=m:=by omega
   have hla:=inv.la;rw[HS.out.2.2.1]at hla;have hsl:=hOW.slice hla (by omega);have hq:=hOW.quot inv.lq (by omega);have hsh:=LJ (t:=y) (w:=wr) (fun d hd=>inv.da d (List.mem_of_mem_take hd)) (show(As.take n).length<1000000 by rw[List.length_take];omega) HS.out.2.2.2.2.2.2.1 HS.out.2.2.2.2.2.2.2 hsl (by rw[List.length_take];omega);rw[D2]at hsh;have hlt:(As.take n).length=n:=by rw[List.length_take];omega
   rw[hlt]at hsh;have hdq:=inv.dq;have hlq:=inv.lq;have HSH:=Lib.hid (And.intro hdq (And.intro hlq (And.intro hq hOW.below)));have HD1:=Lib.hid D1;clear D1 D2 hla hsl hq hlt hdq hlq inv hOW;have hi1:(0:Int)≤(n:Int):=by omega
   have hi2:(n:Int)≤(i:Int)+n:=by omega
   have hi3:((n:Int)).toNat=n:=Int.toNat_natCast n
   go_wp2_with fail
   refine hsh.mono ?_;rintro e w5 ⟨v,ds,rfl,hs,hl,hd,hv,hbw⟩;have HF:=Lib.hid (And.intro hs (And.intro hl (And.intro hd (And.intro hv hbw))));clear hsh hs hl hd hv hbw
   go_wp2_with fail
   go_ret2
   obtain⟨hdq,hlq,hq,hbelow⟩:=HSH.out;obtain⟨hs,hl,hd,hv,hbw⟩:=HF.out;have hle:w.heap.size≤wr.heap.size:=hbelow.size;refine⟨_,_,qs,ds,rfl,hq.below hbw,hs.mono fun b hb=>zM hle hb,hdq,hd,HD1.out,hv,by rw[hlq,HN.out,HM.out],by rw[hl,HN.out],hbelow.trans (hbw.mono hle)⟩
  |succ p=>
   obtain⟨inv,hOW⟩:=HA.out;clear HA;obtain⟨z1,z2,z3,z4,z5,z6⟩:=inv.seg HS.out.2.2.2.1;have hsl:=HS.out.2.2.1;rw[hsl]at z1 z2 z3 z5 z6;have hla:=inv.la;rw[hsl]at hla;have hpm:=inv.pm;obtain⟨n',hn'⟩:∃n',n=n'+2:=⟨n-2,by omega⟩;have hst:=AcE (n:=n') z2 HS.out.2.2.2.1 (by rw[hsl];exact hn') (by rw[z1];omega) (by rw[z3];exact z4) (by have:=HS.out.2.2.2.2.1;rw[←HH.out,hn']at this;exact this);rw[OH As p (n+1) (n'+2) (by omega),OH As p (n+1) (n'+1) (by omega),OH As p (n+1) n' (by omega)]at hst;have hc2:wr.cell? ⟨ga,p+n,none⟩=some (.int .u32 (As.getD (p+(n'+2)) 0:Nat)):=by rw[show p+n=p+(n'+2) by omega];exact hOW.cell hla (by omega)
   have hc1:wr.cell? ⟨ga,p+n-1,none⟩=some (.int .u32 (As.getD (p+(n'+1)) 0:Nat)):=by rw[show p+n-1=p+(n'+1) by omega];exact hOW.cell hla (by omega)
   have hc0:wr.cell? ⟨ga,p+n-2,none⟩=some (.int .u32 (As.getD (p+n') 0:Nat)):=by rw[show p+n-2=p+n' by omega];exact hOW.cell hla (by omega)
   have hs2:=AP inv.da (p+(n'+2));have hs1:=AP inv.da (p+(n'+1));have hs0:=AP inv.da (p+n');have hHn:bs.getD (n'+1) 0=H:=by rw[←HH.out];congr 1;omega
   have hXn:bs.getD n' 0=X:=by rw[←HX.out];congr 1;omega
   rw[hHn,hXn]at hst;generalize As.getD (p+(n'+2)) 0=x2 at *;generalize As.getD (p+(n'+1)) 0=x1 at *;obtain⟨x0,hx0⟩:∃x,As.getD (p+n') 0=x:=⟨_,rfl⟩;rw[hx0]at hst hc0 hs0;have HX0:=Lib.hid hx0;clear hx0;obtain⟨t1,t2,t3,t4,t5,t6,t7,t8⟩:=XW hs1 hs2 hst.hh hhB;have hg0:=SQ hst;have HI:=Lib.hid (And.intro inv hOW);have HZ:=Lib.hid (And.intro z1 (And.intro z2 (And.intro z3 (And.intro z4 (And.intro z5 z6)))));clear inv hOW z1 z2 z3 z4 z5 z6;have HL:=Lib.hid (And.intro hsl hla);clear hsl hla;generalize hSS:x2*B=S at *;generalize hTT:S+x1=T at *;generalize hGG:T/H=G at *;generalize hLL:T%H=L at *;have HST:=Lib.hid hst;have HG0:=Lib.hid hg0;have HEQ:=Lib.hid (And.intro hSS (And.intro hTT (And.intro hGG hLL)));clear hst hg0 hSS hTT hGG hLL;have t9:(T:Int)/(H:Int)=(G:Int):=by have:=HEQ.out.2.2.1;rw[←this];rfl
   have t10:(T:Int)%(H:Int)=(L:Int):=by have:=HEQ.out.2.2.2;rw[←this];rfl
   have t11:(H=0)=False:=eq_false (Nat.pos_iff_ne_zero.1 (Nat.lt_of_lt_of_le (by decide) HST.out.hh));have t12:IntKind.u64.wrap (L:Int)=(L:Int):=wrap_u64 _ (Nat.lt_trans HG0.out.lB (by decide));have HIP:=Lib.hid hip;have HN':=Lib.hid hn';clear hn' hHn hXn;have e11:(m:Int)-1-i=p:=by omega
   have hilt:i<m:=by omega
   have hplt:p<m:=by omega
   have i1:(0:Int)≤(p:Int)+n:=by omega
   have i2:((p:Int)+n).toNat=p+n:=by omega
   have i4:(0:Int)≤(p:Int)+n-1:=by omega
   have i5:((p:Int)+n-1).toNat=p+n-1:=by omega
   have i6:(p:Int)+n-1<(m:Int)+n:=by omega
   have i7:(0:Int)≤(p:Int)+n-2:=by omega
   have i8:((p:Int)+n-2).toNat=p+n-2:=by omega
   have i9:(p:Int)+n-2<(m:Int)+n:=by omega
   clear hip
   go_wp2_with fail
   go_step3
   go_wp2_with fail
   go_quiet (fail)
   go_wp2_with fail
   go_quiet (fail)
   go_wp2_with fail
   go_step3
   go_upto_block 2 with(fail)
   go_cut [13] (fun s13 wx=>∃g:Nat,s13=.int .u64 g∧F5 (g<B∧val ((As.drop p).take (n+1))/val bs≤g∧g*val bs<val ((As.drop p).take (n+1))+val bs∧CP w ga ca gq cq gb n m As qs bs wx))
   case first=>
    go_wp2_with fail
    go_loopg [13,14] B (fun k v13 v14 wx=>∃(g l:Nat),v13=.int .u64 g∧v14=.int .u64 l∧F5 (Gn (val ((As.drop p).take (n+1))) (val bs) H T g l∧B≤k+l∧CP w ga ca gq cq gb n m As qs bs wx))
    case atStart=>exact⟨G,L,rfl,rfl,⟨HG0.out,Nat.le_add_right _ _,(HI.out.2.drewN _).drewN _⟩⟩
    case round=>
     obtain⟨g,l,rfl,rfl,HA⟩:=hrel;obtain⟨gi,hk,how⟩:=HA.out;have hcl:=how.cell HL.out.2 (j:=p+n-2) (by omega);rw[show As.getD (p+n-2) 0=x0 by rw[←HX0.out];congr 1;have:=HN'.out;omega]at hcl;obtain⟨v1,v2,v3,v4,v5,v6⟩:=Uo gi.gB gi.lB hxB hs0 hhB;have hst:=HST.out;have HM:=Lib.hid (fun hc=>gi.more hst hc);have HSt:=Lib.hid (fun h1 h2=>gi.stop hst h1 h2);have HOut:=Lib.hid (fun (g l:Nat) he hl=>Xo (g:=g) (l:=l) hst he hl);have HQ:=Lib.hid gi.q;have HK1:=Lib.hid hk;have HGI:=Lib.hid gi;have HOW:=Lib.hid how;have HST2:=Lib.hid hst;obtain⟨P,hP⟩:∃P,g*X=P:=⟨_,rfl⟩;obtain⟨Q,hQ⟩:∃Q,l*B=Q:=⟨_,rfl⟩;rw[hP]at v1;rw[hQ]at v2 v3;obtain⟨R,hR⟩:∃R,Q+x0=R:=⟨_,rfl⟩;rw[hR]at v3;obtain⟨l2,hl2⟩:∃l2,l+H=l2:=⟨_,rfl⟩;rw[hl2]at v5;have HE:=Lib.hid (And.intro hP (And.intro hQ (And.intro hR hl2)));clear hP hQ hR hl2 gi hk how hst HA;by_cases c1:B≤g
     ·have c1':(1000000000:Int)≤(g:Int):=Int.ofNat_le.2 c1;have HC1:=Lib.hid c1;clear c1;obtain⟨m1,m2,m3,m4⟩:=HM.out (.inl HC1.out);have v7:=v6 m1;obtain⟨j,hj⟩:∃j,g-1=j:=⟨_,rfl⟩;rw[hj]at v7 m2 m3 m4;rw[HE.out.2.2.2]at m3;have HJ:=Lib.hid (And.intro m2 (And.intro m3 m4));clear m1 m2 m3 m4 hj v6;by_cases c2:B≤l2
      ·have c2':(1000000000:Int)≤(l2:Int):=Int.ofNat_le.2 c2;have HC2:=Lib.hid c2;clear c2
       go_wp2_with fail
       try (go_quiet (fail);go_wp2_with fail)
       go_meet
       case rel=>exact⟨j,rfl,⟨(HOut.out j l2 HJ.out.2.1 HC2.out).1,HJ.out.1,(HOut.out j l2 HJ.out.2.1 HC2.out).2,HOW.out⟩⟩
      ·have c2':¬(1000000000:Int)≤(l2:Int):=fun h=>c2 (Int.ofNat_le.1 h)
       have HC2:=Lib.hid c2;clear c2
       go_wp2_with fail
       try (go_quiet (fail);go_wp2_with fail)
       go_roundg (gk-1)
       case measure=>exact(II HK1.out HGI.out.lB HE.out.2.2.2 (Nat.lt_of_lt_of_le (by decide) HST2.out.hh)).1
       case rel=>exact⟨j,l2,rfl,rfl,⟨⟨HJ.out.2.1,Nat.lt_of_not_le HC2.out,HJ.out.1,HJ.out.2.2⟩,(II HK1.out HGI.out.lB HE.out.2.2.2 (Nat.lt_of_lt_of_le (by decide) HST2.out.hh)).2,HOW.out⟩⟩
     ·have c1':¬(1000000000:Int)≤(g:Int):=fun h=>c1 (Int.ofNat_le.1 h)
      have HC1:=Lib.hid c1;clear c1;by_cases c3:R<P
      ·have c3':(R:Int)<(P:Int):=Int.ofNat_lt.2 c3;have HC3:=Lib.hid c3;clear c3;obtain⟨m1,m2,m3,m4⟩:=HM.out (.inr (by rw[HE.out.2.1,HE.out.2.2.1,HE.out.1];exact HC3.out));have v7:=v6 m1;obtain⟨j,hj⟩:∃j,g-1=j:=⟨_,rfl⟩;rw[hj]at v7 m2 m3 m4;rw[HE.out.2.2.2]at m3;have HJ:=Lib.hid (And.intro m2 (And.intro m3 m4));clear m1 m2 m3 m4 hj v6;by_cases c2:B≤l2
       ·have c2':(1000000000:Int)≤(l2:Int):=Int.ofNat_le.2 c2;have HC2:=Lib.hid c2;clear c2
        go_wp2_with fail
        try (go_quiet (fail);go_wp2_with fail)
        go_meet
        case rel=>exact⟨j,rfl,⟨(HOut.out j l2 HJ.out.2.1 HC2.out).1,HJ.out.1,(HOut.out j l2 HJ.out.2.1 HC2.out).2,HOW.out⟩⟩
       ·have c2':¬(1000000000:Int)≤(l2:Int):=fun h=>c2 (Int.ofNat_le.1 h)
        have HC2:=Lib.hid c2;clear c2
        go_wp2_with fail
        try (go_quiet (fail);go_wp2_with fail)
        go_roundg (gk-1)
        case measure=>exact(II HK1.out HGI.out.lB HE.out.2.2.2 (Nat.lt_of_lt_of_le (by decide) HST2.out.hh)).1
        case rel=>exact⟨j,l2,rfl,rfl,⟨⟨HJ.out.2.1,Nat.lt_of_not_le HC2.out,HJ.out.1,HJ.out.2.2⟩,(II HK1.out HGI.out.lB HE.out.2.2.2 (Nat.lt_of_lt_of_le (by decide) HST2.out.hh)).2,HOW.out⟩⟩
      ·have c3':¬(R:Int)<(P:Int):=fun h=>c3 (Int.ofNat_lt.1 h)
       have HC3:=Lib.hid c3;clear c3 v6
       go_wp2_with fail
       try (go_quiet (fail);go_wp2_with fail)
       go_meet
       case rel=>exact⟨g,rfl,⟨Nat.lt_of_not_le HC1.out,HQ.out,HSt.out (Nat.lt_of_not_le HC1.out) (by rw[HE.out.2.1,HE.out.2.2.1,HE.out.1];exact HC3.out),HOW.out⟩⟩
   case rest=>
    obtain⟨g,rfl,HA⟩:=hcut;have HA2:=Lib.hid HA.out;clear HA;have hsl:=HL.out.1;have hda:=HI.out.1.da;have hdb:=HS.out.2.2.2.1;have hlaL:As.length<1000000:=by have:=HL.out.2;omega
    have hpl:p+n+1≤As.length:=by have:=HL.out.2;omega
    have hpull:=W8 HA2.out.2.2.2 HG.out hsl hda hdb hlaL hpl HA2.out.1 HL.out.2;clear hda hdb hlaL hpl hsl;by_cases c0:(Bg ((As.drop p).take (n+1)) bs g 0 0).2=0
    ·have hbo:((((Bg ((As.drop p).take (n+1)) bs g 0 0).2:Nat):Int) != 0)=false:=by rw[c0];rfl
     rw[hbo]at hpull;have HR:=Lib.hid (HI.out.1.round0 HS.out.2.2.2.1 HL.out.1 HA2.out.1 HA2.out.2.1 HA2.out.2.2.1 c0);have HGV:=Lib.hid HA2.out.1;clear c0 hbo;obtain⟨As',hAs⟩:∃As',As.take p++((Bg ((As.drop p).take (n+1)) bs g 0 0).1++As.drop (p+n+1))=As':=⟨_,rfl⟩;rw[hAs]at hpull HR;clear hAs
     go_wp2_with fail
     refine hpull.mono ?_;rintro e w5 ⟨rfl,h5⟩;clear hpull;obtain⟨hsc,hsf⟩:=h5.qcell HI.out.1.lq hplt;have H5:=Lib.hid h5;have hgq:(g:Int)%4294967296=g:=QV HGV.out;clear h5
     go_wp2_with fail
     rw[Exit.noGoto_normal]
     go_wp2_with fail
     go_roundg p
     case measure=>exact Nat.lt_succ_self p
     case rel=>
      refine⟨i+1,As',qs.set p g,by rw[Int.natCast_add];rfl,by have:=HIP.out;omega,⟨HR.out,?_⟩⟩;exact H5.out.store HG.out HI.out.1.lq hplt rfl
    ·have hbo:((((Bg ((As.drop p).take (n+1)) bs g 0 0).2:Nat):Int) != 0)=true:=by rw[bne_iff_ne];omega
     rw[hbo]at hpull;obtain⟨gp,A1,hA1,hl1',hd1',hR⟩:=HI.out.1.round1 HS.out.2.2.2.1 HL.out.1 HA2.out.1 HA2.out.2.1 HA2.out.2.2.1 c0;rw[hA1]at hpull;obtain⟨As',hAs⟩:∃As',A1.take p++((Ck ((A1.drop p).take (n+1)) bs 0).1++A1.drop (p+n+1))=As':=⟨_,rfl⟩;have hpush:=fun (wx:World) (h:CP w ga ca gq cq gb n m A1 qs bs wx)=>X8 h HG.out HL.out.1 hd1' HS.out.2.2.2.1 (by omega) (show p+n+1≤A1.length by omega) hl1'
     rw[hAs]at hR hpush;obtain⟨j,hj⟩:∃j,g-1=j:=⟨_,rfl⟩;have HGV:=Lib.hid (show j<B by have:=HA2.out.1;omega);have hjw:IntKind.u64.wrap ((g:Int)-1)=(j:Int):=by rw[show(g:Int)-1=((j:Nat):Int) by omega];exact wrap_u64 _ (Nat.lt_trans HGV.out (by decide))
     rw[hj]at hR;have HR:=Lib.hid hR;clear c0 hbo hA1 hl1' hd1' hAs gp hj hR
     go_wp2_with fail
     refine hpull.mono ?_;rintro e w4 ⟨rfl,h4⟩;have hp4:=hpush w4 h4;clear hpull hpush h4
     go_wp2_with fail
     refine hp4.mono ?_;rintro e w5 ⟨rfl,h5⟩;clear hp4;obtain⟨hsc,hsf⟩:=h5.qcell HI.out.1.lq hplt;have H5:=Lib.hid h5;have hgq:(j:Int)%4294967296=j:=QV HGV.out;clear h5
     go_wp2_with fail
     rw[Exit.noGoto_normal]
     go_wp2_with fail
     go_roundg p
     case measure=>exact Nat.lt_succ_self p
     case rel=>
      refine⟨i+1,As',qs.set p j,by rw[Int.natCast_add];rfl,by have:=HIP.out;omega,⟨HR.out,?_⟩⟩;exact H5.out.store HG.out HI.out.1.lq hplt rfl
def AS (a b:Int):Int:=if a<b then -1 else if b<a then 1 else 0
theorem BL {a b:Int}(h:a<b):AS a b = -1:=if_pos h
theorem BR {a b:Int}(h:b<a):AS a b=1:=by unfold AS;rw[if_neg (by omega),if_pos h]
theorem BX {a b:Int}(h:a=b):AS a b=0:=by unfold AS;rw[if_neg (by omega),if_neg (by omega)]
set_option maxRecDepth 100000 in
theorem IP (a:Int)(w:World):Calls Tryz.prog 375 #[.int .u32 a] w (fun e w'=>e=.returned (.bool false)∧w'=w):=by
 go_enter Tryz.func375,Tryz.ntmps375
 go_wp2_with fail
 go_ret
 exact⟨by simp,rfl⟩
set_option maxRecDepth 100000 in
theorem IK (a:Int)(w:World):Calls Tryz.prog 374 #[.int .i64 a] w (fun e w'=>e=.returned (.bool false)∧w'=w):=by
 go_enter Tryz.func374,Tryz.ntmps374
 go_wp2_with fail
 go_ret
 exact⟨by simp,rfl⟩
set_option maxRecDepth 100000 in
theorem Gm (a:Int)(w:World):Calls Tryz.prog 346 #[.int .i64 a] w (fun e w'=>e=.returned (.bool false)∧w'=w):=by
 go_enter Tryz.func346,Tryz.ntmps346
 go_wp2_with fail
 go_ret
 exact⟨by simp,rfl⟩
set_option maxRecDepth 100000 in
theorem PY (a b:Int)(w:World):Calls Tryz.prog 349 #[.int .u32 a,.int .u32 b] w (fun e w'=>e=.returned (.int .i64 (AS a b))∧w'=w):=by
 rcases Int.lt_trichotomy a b with h|h|h
 ·rw[BL h];have h2:¬b<a:=by omega
  go_enter Tryz.func349,Tryz.ntmps349
  go_wp2_with fail
  refine(IP _ _).mono ?_;rintro e w1 ⟨rfl,rfl⟩
  go_wp2_with fail
  refine(IP _ _).mono ?_;rintro e w2 ⟨rfl,rfl⟩
  go_wp2_with fail
  go_ret
  exact⟨rfl,rfl⟩
 ·rw[BX h];have h2:¬a<b:=by omega
  have h3:¬b<a:=by omega
  clear h
  go_enter Tryz.func349,Tryz.ntmps349
  go_wp2_with fail
  refine(IP _ _).mono ?_;rintro e w1 ⟨rfl,rfl⟩
  go_wp2_with fail
  refine(IP _ _).mono ?_;rintro e w2 ⟨rfl,rfl⟩
  go_wp2_with fail
  go_ret
  exact⟨rfl,rfl⟩
 ·rw[BR h];have h2:¬a<b:=by omega
  go_enter Tryz.func349,Tryz.ntmps349
  go_wp2_with fail
  refine(IP _ _).mono ?_;rintro e w1 ⟨rfl,rfl⟩
  go_wp2_with fail
  refine(IP _ _).mono ?_;rintro e w2 ⟨rfl,rfl⟩
  go_wp2_with fail
  go_ret
  exact⟨rfl,rfl⟩
set_option maxRecDepth 100000 in
theorem QY (a b:Int)(w:World):Calls Tryz.prog 348 #[.int .i64 a,.int .i64 b] w (fun e w'=>e=.returned (.int .i64 (AS a b))∧w'=w):=by
 rcases Int.lt_trichotomy a b with h|h|h
 ·rw[BL h];have h2:¬b<a:=by omega
  go_enter Tryz.func348,Tryz.ntmps348
  go_wp2_with fail
  refine(IK _ _).mono ?_;rintro e w1 ⟨rfl,rfl⟩
  go_wp2_with fail
  refine(IK _ _).mono ?_;rintro e w2 ⟨rfl,rfl⟩
  go_wp2_with fail
  go_ret
  exact⟨rfl,rfl⟩
 ·rw[BX h];have h2:¬a<b:=by omega
  have h3:¬b<a:=by omega
  clear h
  go_enter Tryz.func348,Tryz.ntmps348
  go_wp2_with fail
  refine(IK _ _).mono ?_;rintro e w1 ⟨rfl,rfl⟩
  go_wp2_with fail
  refine(IK _ _).mono ?_;rintro e w2 ⟨rfl,rfl⟩
  go_wp2_with fail
  go_ret
  exact⟨rfl,rfl⟩
 ·rw[BR h];have h2:¬a<b:=by omega
  go_enter Tryz.func348,Tryz.ntmps348
  go_wp2_with fail
  refine(IK _ _).mono ?_;rintro e w1 ⟨rfl,rfl⟩
  go_wp2_with fail
  refine(IK _ _).mono ?_;rintro e w2 ⟨rfl,rfl⟩
  go_wp2_with fail
  go_ret
  exact⟨rfl,rfl⟩
set_option maxRecDepth 100000 in
theorem Ys (a b:Int)(w:World):Calls Tryz.prog 290 #[.int .i64 a,.int .i64 b] w (fun e w'=>e=.returned (.int .i64 (AS a b))∧w'=w):=by
 rcases Int.lt_trichotomy a b with h|h|h
 ·rw[BL h];have h2:¬b<a:=by omega
  go_enter Tryz.func290,Tryz.ntmps290
  go_wp2_with fail
  refine(Gm _ _).mono ?_;rintro e w1 ⟨rfl,rfl⟩
  go_wp2_with fail
  refine(Gm _ _).mono ?_;rintro e w2 ⟨rfl,rfl⟩
  go_wp2_with fail
  go_ret
  exact⟨rfl,rfl⟩
 ·rw[BX h];have h2:¬a<b:=by omega
  have h3:¬b<a:=by omega
  clear h
  go_enter Tryz.func290,Tryz.ntmps290
  go_wp2_with fail
  refine(Gm _ _).mono ?_;rintro e w1 ⟨rfl,rfl⟩
  go_wp2_with fail
  refine(Gm _ _).mono ?_;rintro e w2 ⟨rfl,rfl⟩
  go_wp2_with fail
  go_ret
  exact⟨rfl,rfl⟩
 ·rw[BR h];have h2:¬a<b:=by omega
  go_enter Tryz.func290,Tryz.ntmps290
  go_wp2_with fail
  refine(Gm _ _).mono ?_;rintro e w1 ⟨rfl,rfl⟩
  go_wp2_with fail
  refine(Gm _ _).mono ?_;rintro e w2 ⟨rfl,rfl⟩
  go_wp2_with fail
  go_ret
  exact⟨rfl,rfl⟩
end Go.Nl
namespace Go.Nl
open Go Go.Proofs Go.RowKit
set_option maxRecDepth 100000
theorem Zs:Tryz.prog.cellsOf 268=1:=by kernel_rfl
theorem Zq:Tryz.prog.plainKey 268=true:=by kernel_rfl
theorem int268 (d:Nat)(a b:Int)(W:World):(Op.equalIn (d+1) 268 (.int .u32 a) (.int .u32 b)).run Tryz.prog W=.ok (a==b) W:=
 run_equalIn_int W d 268 .u32 .u32 a b Tryz.underlying268
theorem eq430 (a b c d:Int)(W:World):(Op.equalIn 10000 430 (.agg #[.int .u32 a,.int .u32 b]) (.agg #[.int .u32 c,.int .u32 d])).run Tryz.prog W=.ok (decide (a=c)&&decide (b=d)) W:=by
 have hi:=E1;cases hi':Tryz.prog.info? 268 with
 |none=>rw[hi']at hi;cases hi
 |some i=>rw[run_equalIn_array (P:=Tryz.prog) (w:=W) 9999 (t:=430) (e:=268) (n:=2) _ _ Tryz.underlying430 hi',Zs];show(Op.eqItems 9999 268 1 #[.int .u32 a,.int .u32 b] #[.int .u32 c,.int .u32 d] [0,1]).run Tryz.prog W=_;have p (xs:Array Value) (j:Nat) (v:Value) (h:xs[j]?=some v):(part 268 xs j).run Tryz.prog W=.ok v W:=run_part_plain W Zq h;simp only[Op.eqItems,zJ,p #[.int .u32 a,.int .u32 b] (0*1) _ rfl,p #[.int .u32 c,.int .u32 d] (0*1) _ rfl,zF];by_cases h1:a=c<;>by_cases h2:b=d<;>simp[h1,h2,go_sem]
end Go.Nl
namespace Go.Nl
theorem QJ {a b:Int}(h:a≠b):AS a b≠0:=by
 rcases Int.lt_trichotomy a b with h1|h1|h1
 ·rw[BL h1];decide
 ·exact absurd h1 h
 ·rw[BR h1];decide
theorem VM {ds:List Nat}(hl:ds.getLast?≠some 0)(h0:0<ds.length):B^(ds.length-1)≤val ds:=by
 obtain⟨n,hn⟩:∃n,ds.length=n+1:=⟨ds.length-1,by omega⟩;rw[MC hn,hn,Nat.add_sub_cancel];have hp:0<ds.getD n 0:=by
  rcases Nat.eq_zero_or_pos (ds.getD n 0) with h|h
  ·exfalso;apply hl;rw[List.getLast?_eq_getElem?,hn,Nat.add_sub_cancel];rw[List.getD,zK (by omega)]at h;rw[zK (by omega)];simpa using h
  ·exact h
 have:1*B^n≤ds.getD n 0*B^n:=Nat.mul_le_mul_right _ hp;omega
theorem VO {ds es:List Nat}(hd:∀d∈ds,d<B)(he:es.getLast?≠some 0)(h:ds.length<es.length):val ds<val es:=by have h1:=FY hd;have h2:=VM he (by omega);have h3:B^ds.length≤B^(es.length-1):=Nat.pow_le_pow_right (by decide) (by omega);omega
theorem Qp {ds es:List Nat}(hd:∀d∈ds,d<B)(hd':ds.getLast?≠some 0)(he:∀d∈es,d<B)(he':es.getLast?≠some 0)(h:ds.length≠es.length):AS (ds.length:Nat) (es.length:Nat)=AS (val ds:Nat) (val es:Nat):=by
 rcases Nat.lt_or_gt_of_ne h with h|h
 ·rw[BL (by omega),BL (Int.ofNat_lt.2 (VO hd he' h))]
 ·rw[BR (by omega),BR (Int.ofNat_lt.2 (VO he hd' h))]
theorem ZZ {ds:List Nat}{j:Nat}(hj:j<ds.length):val ds=val (ds.take j)+B^j*(ds.getD j 0+B*val (ds.drop (j+1))):=by rw[BB ds j,Bf ds j hj];rfl
theorem NO {ds es:List Nat}{j:Nat}(hd:∀d∈ds,d<B)(hj:j<ds.length)(hl:ds.length=es.length)(ht:ds.drop (j+1)=es.drop (j+1))(h:ds.getD j 0<es.getD j 0):val ds<val es:=by rw[ZZ hj,ZZ (ds:=es) (j:=j) (by omega),ht];have h1:=EO hd (show j≤ds.length by omega);have h2:B^j*(ds.getD j 0+B*val (es.drop (j+1))+1)≤B^j*(es.getD j 0+B*val (es.drop (j+1))):=Nat.mul_le_mul_left _ (by omega);rw[Nat.mul_add _ _ 1,Nat.mul_one]at h2;omega
theorem Vt {ds es:List Nat}{j:Nat}(hd:∀d∈ds,d<B)(he:∀d∈es,d<B)(hj:j<ds.length)(hl:ds.length=es.length)(ht:ds.drop (j+1)=es.drop (j+1))(h:ds.getD j 0≠es.getD j 0):AS (ds.getD j 0:Nat) (es.getD j 0:Nat)=AS (val ds:Nat) (val es:Nat):=by
 rcases Nat.lt_or_gt_of_ne h with h|h
 ·rw[BL (Int.ofNat_lt.2 h),BL (Int.ofNat_lt.2 (NO hd hj hl ht h))]
 ·rw[BR (Int.ofNat_lt.2 h),BR (Int.ofNat_lt.2 (NO he (by omega) hl.symm ht.symm h))]
theorem IM {ds es:List Nat}{j:Nat}(hj:j<ds.length)(hl:ds.length=es.length)(ht:ds.drop (j+1)=es.drop (j+1))(h:ds.getD j 0=es.getD j 0):ds.drop j=es.drop j:=by rw[Bf ds j hj,Bf es j (by omega),ht,h]
theorem eq_two {ds es:List Nat}(h1:ds.length≤2)(h2:es.length≤2)(hd:ds.getLast?≠some 0)(he:es.getLast?≠some 0)(h3:ds.getD 0 0=es.getD 0 0)(h4:ds.getD 1 0=es.getD 1 0):ds=es:=by
 match ds,es,h1,h2 with
 |[],[],_,_=>rfl|[],[a],_,_=>simp at h3;subst h3;simp at he
 |[],[a,b],_,_=>simp at h3 h4;subst h4;simp at he
 |[a],[],_,_=>simp at h3;subst h3;simp at hd
 |[a],[b],_,_=>simp at h3;rw[h3]
 |[a],[b,c],_,_=>simp at h4;subst h4;simp at he
 |[a,b],[],_,_=>simp at h4;subst h4;simp at hd
 |[a,b],[c],_,_=>simp at h4;subst h4;simp at hd
 |[a,b],[c,d],_,_=>simp at h3 h4;rw[h3,h4]
end Go.Nl
namespace Go.Nl
open Go Go.Proofs Go.RowKit
theorem Ib.sl {w:World}{Ok:Nat→Prop}{s:Int}{ds:List Nat}{v:Value}(h:Ib w Ok s ds v):∃A,v=.agg #[.int .i64 s,.slice A ds.length ds.length]∧(0<ds.length→∃b o,A=some ⟨b,o,none⟩ ∧b<w.heap.size∧∀i,i<ds.length→w.cell? ⟨b,o+i,none⟩=some (.int .u32 (ds.getD i 0:Nat))):=by
 obtain⟨l,rfl,h⟩:=h;rcases h with⟨rfl,rfl⟩|⟨b,o,rfl,hne,hr⟩
 ·exact⟨none,rfl,fun h=>absurd h (by simp)⟩
 ·exact⟨_,rfl,fun _=>⟨b,o,rfl,hr.2.1,hr.2.2⟩⟩
set_option maxHeartbeats 4000000 in
set_option maxRecDepth 1000000 in
theorem AaM {Ok Ok':Nat→Prop}{s t:Int}{ds es:List Nat}{va vb:Value}{w:World}(hn:Norm s ds)(hm:Norm t es)(hva:Ib w Ok s ds va)(hvb:Ib w Ok' t es vb) :
 Calls Tryz.prog 291 #[va,vb] w (fun e w'=>e=.returned (.int .i64 (AS (val ds) (val es)))∧Below w.heap.size w w'):=by
 obtain⟨A,rfl,hA⟩:=hva.sl;obtain⟨C,rfl,hC⟩:=hvb.sl;have h0:Below w.heap.size w ((w.alloc (.cells #[.int .i64 s,.slice A ds.length ds.length] 149)).alloc (.cells #[.int .i64 t,.slice C es.length es.length] 149)):=((Below.refl _ _).alloc (zI _) _).alloc (by simp) _;have HF:=Lib.hid (QR Ok s ds _ ((w.alloc (.cells #[.int .i64 s,.slice A ds.length ds.length] 149)).alloc (.cells #[.int .i64 t,.slice C es.length es.length] 149)) (hva.mono (fun _ h=>h) h0));have HFb:=Lib.hid (fun (W:World) (hb:Below w.heap.size w W)=>QR Ok' t es _ W (hvb.mono (fun _ h=>h) hb));have H0:=Lib.hid h0;have HA:=Lib.hid hA;have HC:=Lib.hid hC;have HN:=Lib.hid (And.intro hn hm);clear h0 hA hC hva hvb hn hm;generalize hL:ds.length=L at *;generalize hM:es.length=M at *;have HLM:=Lib.hid (And.intro hL hM);clear hL hM;unfold IW at HF HFb;rw[HLM.out.1]at HF;simp only[HLM.out.2]at HFb;generalize hd0:ds.getD 0 0=d0 at *;generalize hd1:ds.getD 1 0=d1 at *;generalize he0:es.getD 0 0=e0 at *;generalize he1:es.getD 1 0=e1 at *;have HDE:=Lib.hid (And.intro hd0 (And.intro hd1 (And.intro he0 he1)));clear hd0 hd1 he0 he1;by_cases h1:L≤2
 ·rw[decide_eq_true h1]at HF
  go_enter Tryz.func291,Tryz.ntmps291
  go_wp2_with fail
  refine HF.out.mono ?_;rintro e w1 ⟨rfl,hb⟩;have hc0:w1.cell? ⟨w.heap.size,0,none⟩=some (.int .i64 s):=by rw[hb.cell (p:=⟨w.heap.size,0,none⟩) (by simp;omega)];simp
  have hc1:w1.cell? ⟨w.heap.size,1,none⟩=some (.slice A L L):=by rw[hb.cell (p:=⟨w.heap.size,1,none⟩) (by simp;omega)];simp
  have hc2:w1.cell? ⟨w.heap.size+1,0,none⟩=some (.int .i64 t):=by rw[hb.cell (p:=⟨w.heap.size+1,0,none⟩) (by simp)];simp
  have hc3:w1.cell? ⟨w.heap.size+1,1,none⟩=some (.slice C M M):=by rw[hb.cell (p:=⟨w.heap.size+1,1,none⟩) (by simp)];simp
  have hz:w.heap.size+1<w1.heap.size:=by have:=hb.size;simp at this;omega
  have hz2:w.heap.size<w1.heap.size:=by omega
  have HB:=Lib.hid (H0.out.trans (hb.mono (by simp;omega)));clear hb
  go_wp2_with fail
  refine(HFb.out _ (HB.out.alloc (by omega) _)).mono ?_;rintro e w2 ⟨rfl,hb⟩;have hd0:w2.cell? ⟨w.heap.size,0,none⟩=some (.int .i64 s):=by rw[hb.cell (p:=⟨w.heap.size,0,none⟩) (by simp;omega),World.cell?_alloc_past _ _ _ (by omega)];exact hc0
  have hd1:w2.cell? ⟨w.heap.size,1,none⟩=some (.slice A L L):=by rw[hb.cell (p:=⟨w.heap.size,1,none⟩) (by simp;omega),World.cell?_alloc_past _ _ _ (by omega)];exact hc1
  have hd2:w2.cell? ⟨w.heap.size+1,0,none⟩=some (.int .i64 t):=by rw[hb.cell (p:=⟨w.heap.size+1,0,none⟩) (by simp;omega),World.cell?_alloc_past _ _ _ (by omega)];exact hc2
  have hd3:w2.cell? ⟨w.heap.size+1,1,none⟩=some (.slice C M M):=by rw[hb.cell (p:=⟨w.heap.size+1,1,none⟩) (by simp;omega),World.cell?_alloc_past _ _ _ (by omega)];exact hc3
  have hd4:w2.cell? ⟨w1.heap.size,0,none⟩=some (.int .u32 (d0:Nat)):=by rw[hb.cell (p:=⟨w1.heap.size,0,none⟩) (by simp)];simp
  have hd5:w2.cell? ⟨w1.heap.size,1,none⟩=some (.int .u32 (d1:Nat)):=by rw[hb.cell (p:=⟨w1.heap.size,1,none⟩) (by simp)];simp
  have hy:w1.heap.size<w2.heap.size:=by have:=hb.size;simp at this;omega
  have hy1:w.heap.size+1<w2.heap.size:=by omega
  have hy2:w.heap.size<w2.heap.size:=by omega
  have HB2:=Lib.hid (HB.out.trans (((Below.refl w1.heap.size w1).alloc (zI _) _ |>.trans (hb.mono (by simp))).mono (by omega)));clear hc0 hc1 hc2 hc3 hb HF HFb H0 HB;by_cases h2:M≤2
  ·rw[decide_eq_true h2];have heq:=fun W=>eq430 d0 d1 e0 e1 W
   cases h3:(decide ((d0:Int)=e0)&&decide ((d1:Int)=e1)) with
   |true=>
    rw[h3]at heq;have HE:=Lib.hid h3;have H12:=Lib.hid (And.intro h1 h2);clear h3 h1 h2
    go_wp2_with fail
    go_ret
    have h3:=HE.out;simp only[zA,decide_eq_true_eq]at h3;have hde:=eq_two (ds:=ds) (es:=es) (by rw[HLM.out.1];exact H12.out.1) (by rw[HLM.out.2];exact H12.out.2) HN.out.1.last HN.out.2.last (by rw[HDE.out.1,HDE.out.2.2.1];omega) (by rw[HDE.out.2.1,HDE.out.2.2.2];omega);exact⟨by rw[hde,BX rfl];rfl,HB2.out.alloc (by omega) _⟩
   |false=>
    rw[h3]at heq;have HE:=Lib.hid h3;clear h3;have q1:(w2.alloc (.cells #[.int .u32 (e0:Nat),.int .u32 (e1:Nat)] 430)).cell? ⟨w.heap.size,1,none⟩=some (.slice A L L):=by rw[World.cell?_alloc_past _ _ _ (by omega)];exact hd1
    have q3:(w2.alloc (.cells #[.int .u32 (e0:Nat),.int .u32 (e1:Nat)] 430)).cell? ⟨w.heap.size+1,1,none⟩=some (.slice C M M):=by rw[World.cell?_alloc_past _ _ _ (by omega)];exact hd3
    have HQ:=Lib.hid (HB2.out.alloc (by omega) (.cells #[.int .u32 (e0:Nat),.int .u32 (e1:Nat)] 430))
    go_upto_region 6 with(fail)
    have HSZ:=Lib.hid (show w.heap.size<(w2.alloc (.cells #[.int .u32 (e0:Nat),.int .u32 (e1:Nat)] 430)).heap.size∧w.heap.size+1<(w2.alloc (.cells #[.int .u32 (e0:Nat),.int .u32 (e1:Nat)] 430)).heap.size by simp;omega);generalize w2.alloc (.cells #[.int .u32 (e0:Nat),.int .u32 (e1:Nat)] 430)=wc at *;clear hd0 hd1 hd2 hd3 hd4 hd5 HB2 heq HE h1 h2;by_cases hlm:L=M
    ·subst hlm
     go_wp2_with fail
     go_loopg [46] L (fun p v46 wr=>∃i:Nat,v46=.int .i64 i∧i+p=L∧F5 (ds.drop p=es.drop p∧Below wc.heap.size wc wr))
     case atStart=>
      exact⟨0,rfl,by omega,⟨by rw[List.drop_eq_nil_of_le (by rw[HLM.out.1];exact zI _),List.drop_eq_nil_of_le (by rw[HLM.out.2];exact zI _)],Below.refl _ _⟩⟩
     case round=>
      obtain⟨i,rfl,hip,HA2⟩:=hrel;cases gk with
      |zero=>
       have hiv:((i:Int)<(L:Int))=False:=eq_false (by omega);obtain rfl:i=L:=by omega
       go_wp2_with fail
       go_ret
       have heq2:ds=es:=HA2.out.1;exact⟨by rw[heq2,BX rfl];rfl,HQ.out.trans (HA2.out.2.mono HQ.out.size)⟩
      |succ p=>
       have e11:(L:Int)-1-i=p:=by omega
       have hilt:i<L:=by omega
       have hLb:L<1000:=by have:=HN.out.1.len;rw[HLM.out.1]at this;exact this
       have e12:wrap64 (wrap64 ((L:Int)-1)-i)=p:=by rw[Bh (_-1) (by omega) (by omega),e11];exact Bh _ (by omega) (by omega)
       have e13:(p:Int)<L:=by omega
       have e14:(0:Int)≤p:=by omega
       have hplt:p<L:=by omega
       have HIP:=Lib.hid hip;clear hip;obtain⟨bA,oA,rfl,hbA,hcA⟩:=HA.out (by omega);obtain⟨bC,oC,rfl,hbC,hcC⟩:=HC.out (by omega);have hBr:Below w.heap.size w wr:=HQ.out.trans (HA2.out.2.mono HQ.out.size);have r1:wr.cell? ⟨w.heap.size,1,none⟩=some (.slice (some ⟨bA,oA,none⟩) L L):=by rw[HA2.out.2.cell (p:=⟨w.heap.size,1,none⟩) HSZ.out.1];exact q1
       have r3:wr.cell? ⟨w.heap.size+1,1,none⟩=some (.slice (some ⟨bC,oC,none⟩) L L):=by rw[HA2.out.2.cell (p:=⟨w.heap.size+1,1,none⟩) HSZ.out.2];exact q3
       have rA:wr.cell? ⟨bA,oA+p,none⟩=some (.int .u32 (ds.getD p 0:Nat)):=by rw[hBr.cell (p:=⟨bA,oA+p,none⟩) hbA];exact hcA p hplt
       have rC:wr.cell? ⟨bC,oC+p,none⟩=some (.int .u32 (es.getD p 0:Nat)):=by rw[hBr.cell (p:=⟨bC,oC+p,none⟩) hbC];exact hcC p hplt
       have HD:=Lib.hid (And.intro HA2.out.1 HA2.out.2);have HBr:=Lib.hid hBr;clear hcA hcC HA2 hBr hbA hbC HA HC;have HX:=Lib.hid (fun (h:ds.getD p 0≠es.getD p 0)=>Vt HN.out.1.lt HN.out.2.lt (by rw[HLM.out.1];exact hplt) (by rw[HLM.out.1,HLM.out.2]) HD.out.1 h);have HY:=Lib.hid (fun (h:ds.getD p 0=es.getD p 0)=>IM (by rw[HLM.out.1];exact hplt) (by rw[HLM.out.1,HLM.out.2]) HD.out.1 h);generalize ds.getD p 0=x at *;generalize es.getD p 0=y at *;have hcmp:=PY x y wr.drew;by_cases hxy:x=y
       ·rw[BX (show(x:Int)=y by omega)]at hcmp;have HXY:=Lib.hid hxy;clear hxy
        go_wp2_with fail
        refine wp_region_still_tail 11 (by kernel_rfl) (by kernel_rfl) ?_;simp only[List.take_succ_cons,List.take_zero,List.drop_succ_cons,List.drop_zero]
        iterate 10 still_step
        still_call hcmp
        refine wpStill_nil ?_
        go_wp2_with fail
        go_roundg p
        case measure=>exact Nat.lt_succ_self p
        case rel=>exact⟨i+1,by rw[Int.natCast_add];rfl,by have:=HIP.out;omega,⟨HY.out HXY.out,HD.out.2.drew⟩⟩
       ·have e15:AS (x:Nat) (y:Nat)≠0:=QJ (by omega);have HO:=Lib.hid (HX.out hxy);clear hxy;generalize AS (x:Nat) (y:Nat)=oo at *;have e16:decide (oo=0)=false:=by simpa using e15
        have e17:(oo==0)=false:=by simpa using e15
        have e18:(oo != 0)=true:=by simpa using e15
        clear e15
        go_wp2_with fail
        refine wp_region_still_tail 11 (by kernel_rfl) (by kernel_rfl) ?_;simp only[List.take_succ_cons,List.take_zero,List.drop_succ_cons,List.drop_zero]
        iterate 10 still_step
        still_call hcmp
        refine wpStill_nil ?_
        go_wp2_with fail
        go_ret
        exact⟨by rw[←HO.out];rfl,HBr.out.drew⟩
    ·have hli1:decide ((L:Int)=M)=false:=by simp;omega
     have hli2:((L:Int)==M)=false:=by simp;omega
     have hli3:((L:Int) != M)=true:=by simp;omega
     have HO:=Lib.hid (Qp HN.out.1.lt HN.out.1.last HN.out.2.lt HN.out.2.last (by rw[HLM.out.1,HLM.out.2];exact hlm));rw[HLM.out.1,HLM.out.2]at HO;clear hlm
     go_wp2_with fail
     refine(QY _ _ _).mono ?_;rintro e w3 ⟨rfl,rfl⟩
     go_wp2_with fail
     go_ret
     exact⟨by rw[HO.out];rfl,HQ.out⟩
  ·rw[zL h2];have q1:(w2.alloc (.cells #[.int .u32 (e0:Nat),.int .u32 (e1:Nat)] 430)).cell? ⟨w.heap.size,1,none⟩=some (.slice A L L):=by rw[World.cell?_alloc_past _ _ _ (by omega)];exact hd1
   have q3:(w2.alloc (.cells #[.int .u32 (e0:Nat),.int .u32 (e1:Nat)] 430)).cell? ⟨w.heap.size+1,1,none⟩=some (.slice C M M):=by rw[World.cell?_alloc_past _ _ _ (by omega)];exact hd3
   have HQ:=Lib.hid (HB2.out.alloc (by omega) (.cells #[.int .u32 (e0:Nat),.int .u32 (e1:Nat)] 430))
   go_upto_region 6 with(fail)
   have HSZ:=Lib.hid (show w.heap.size<(w2.alloc (.cells #[.int .u32 (e0:Nat),.int .u32 (e1:Nat)] 430)).heap.size∧w.heap.size+1<(w2.alloc (.cells #[.int .u32 (e0:Nat),.int .u32 (e1:Nat)] 430)).heap.size by simp;omega);generalize w2.alloc (.cells #[.int .u32 (e0:Nat),.int .u32 (e1:Nat)] 430)=wc at *;clear hd0 hd1 hd2 hd3 hd4 hd5 HB2 h1 h2;by_cases hlm:L=M
   ·subst hlm
    go_wp2_with fail
    go_loopg [46] L (fun p v46 wr=>∃i:Nat,v46=.int .i64 i∧i+p=L∧F5 (ds.drop p=es.drop p∧Below wc.heap.size wc wr))
    case atStart=>
     exact⟨0,rfl,by omega,⟨by rw[List.drop_eq_nil_of_le (by rw[HLM.out.1];exact zI _),List.drop_eq_nil_of_le (by rw[HLM.out.2];exact zI _)],Below.refl _ _⟩⟩
    case round=>
     obtain⟨i,rfl,hip,HA2⟩:=hrel;cases gk with
     |zero=>
      have hiv:((i:Int)<(L:Int))=False:=eq_false (by omega);obtain rfl:i=L:=by omega
      go_wp2_with fail
      go_ret
      have heq2:ds=es:=HA2.out.1;exact⟨by rw[heq2,BX rfl];rfl,HQ.out.trans (HA2.out.2.mono HQ.out.size)⟩
     |succ p=>
      have e11:(L:Int)-1-i=p:=by omega
      have hilt:i<L:=by omega
      have hLb:L<1000:=by have:=HN.out.1.len;rw[HLM.out.1]at this;exact this
      have e12:wrap64 (wrap64 ((L:Int)-1)-i)=p:=by rw[Bh (_-1) (by omega) (by omega),e11];exact Bh _ (by omega) (by omega)
      have e13:(p:Int)<L:=by omega
      have e14:(0:Int)≤p:=by omega
      have hplt:p<L:=by omega
      have HIP:=Lib.hid hip;clear hip;obtain⟨bA,oA,rfl,hbA,hcA⟩:=HA.out (by omega);obtain⟨bC,oC,rfl,hbC,hcC⟩:=HC.out (by omega);have hBr:Below w.heap.size w wr:=HQ.out.trans (HA2.out.2.mono HQ.out.size);have r1:wr.cell? ⟨w.heap.size,1,none⟩=some (.slice (some ⟨bA,oA,none⟩) L L):=by rw[HA2.out.2.cell (p:=⟨w.heap.size,1,none⟩) HSZ.out.1];exact q1
      have r3:wr.cell? ⟨w.heap.size+1,1,none⟩=some (.slice (some ⟨bC,oC,none⟩) L L):=by rw[HA2.out.2.cell (p:=⟨w.heap.size+1,1,none⟩) HSZ.out.2];exact q3
      have rA:wr.cell? ⟨bA,oA+p,none⟩=some (.int .u32 (ds.getD p 0:Nat)):=by rw[hBr.cell (p:=⟨bA,oA+p,none⟩) hbA];exact hcA p hplt
      have rC:wr.cell? ⟨bC,oC+p,none⟩=some (.int .u32 (es.getD p 0:Nat)):=by rw[hBr.cell (p:=⟨bC,oC+p,none⟩) hbC];exact hcC p hplt
      have HD:=Lib.hid (And.intro HA2.out.1 HA2.out.2);have HBr:=Lib.hid hBr;clear hcA hcC HA2 hBr hbA hbC HA HC;have HX:=Lib.hid (fun (h:ds.getD p 0≠es.getD p 0)=>Vt HN.out.1.lt HN.out.2.lt (by rw[HLM.out.1];exact hplt) (by rw[HLM.out.1,HLM.out.2]) HD.out.1 h);have HY:=Lib.hid (fun (h:ds.getD p 0=es.getD p 0)=>IM (by rw[HLM.out.1];exact hplt) (by rw[HLM.out.1,HLM.out.2]) HD.out.1 h);generalize ds.getD p 0=x at *;generalize es.getD p 0=y at *;have hcmp:=PY x y wr.drew;by_cases hxy:x=y
      ·rw[BX (show(x:Int)=y by omega)]at hcmp;have HXY:=Lib.hid hxy;clear hxy
       go_wp2_with fail
       refine wp_region_still_tail 11 (by kernel_rfl) (by kernel_rfl) ?_;simp only[List.take_succ_cons,List.take_zero,List.drop_succ_cons,List.drop_zero]
       iterate 10 still_step
       still_call hcmp
       refine wpStill_nil ?_
       go_wp2_with fail
       go_roundg p
       case measure=>exact Nat.lt_succ_self p
       case rel=>exact⟨i+1,by rw[Int.natCast_add];rfl,by have:=HIP.out;omega,⟨HY.out HXY.out,HD.out.2.drew⟩⟩
      ·have e15:AS (x:Nat) (y:Nat)≠0:=QJ (by omega);have HO:=Lib.hid (HX.out hxy);clear hxy;generalize AS (x:Nat) (y:Nat)=oo at *;have e16:decide (oo=0)=false:=by simpa using e15
       have e17:(oo==0)=false:=by simpa using e15
       have e18:(oo != 0)=true:=by simpa using e15
       clear e15
       go_wp2_with fail
       refine wp_region_still_tail 11 (by kernel_rfl) (by kernel_rfl) ?_;simp only[List.take_succ_cons,List.take_zero,List.drop_succ_cons,List.drop_zero]
       iterate 10 still_step
       still_call hcmp
       refine wpStill_nil ?_
       go_wp2_with fail
       go_ret
       exact⟨by rw[←HO.out];rfl,HBr.out.drew⟩
   ·have hli1:decide ((L:Int)=M)=false:=by simp;omega
    have hli2:((L:Int)==M)=false:=by simp;omega
    have hli3:((L:Int) != M)=true:=by simp;omega
    have HO:=Lib.hid (Qp HN.out.1.lt HN.out.1.last HN.out.2.lt HN.out.2.last (by rw[HLM.out.1,HLM.out.2];exact hlm));rw[HLM.out.1,HLM.out.2]at HO;clear hlm
    go_wp2_with fail
    refine(QY _ _ _).mono ?_;rintro e w3 ⟨rfl,rfl⟩
    go_wp2_with fail
    go_ret
    exact⟨by rw[HO.out];rfl,HQ.out⟩
 ·rw[zL h1]at HF
  go_enter Tryz.func291,Tryz.ntmps291
  go_wp2_with fail
  refine HF.out.mono ?_;rintro e w1 ⟨rfl,hb⟩;have hc1:w1.cell? ⟨w.heap.size,1,none⟩=some (.slice A L L):=by rw[hb.cell (p:=⟨w.heap.size,1,none⟩) (by simp;omega)];simp
  have hc3:w1.cell? ⟨w.heap.size+1,1,none⟩=some (.slice C M M):=by rw[hb.cell (p:=⟨w.heap.size+1,1,none⟩) (by simp)];simp
  have hz:w.heap.size+1<w1.heap.size:=by have:=hb.size;simp at this;omega
  have hz2:w.heap.size<w1.heap.size:=by omega
  have HB:=Lib.hid (H0.out.trans (hb.mono (by simp;omega)));clear hb HF HFb H0;have q1:(w1.alloc (.cells #[.int .u32 (d0:Nat),.int .u32 (d1:Nat)] 430)).cell? ⟨w.heap.size,1,none⟩=some (.slice A L L):=by rw[World.cell?_alloc_past _ _ _ (by omega)];exact hc1
  have q3:(w1.alloc (.cells #[.int .u32 (d0:Nat),.int .u32 (d1:Nat)] 430)).cell? ⟨w.heap.size+1,1,none⟩=some (.slice C M M):=by rw[World.cell?_alloc_past _ _ _ (by omega)];exact hc3
  have HQ:=Lib.hid (HB.out.alloc (by omega) (.cells #[.int .u32 (d0:Nat),.int .u32 (d1:Nat)] 430))
  go_upto_region 6 with(fail)
  have HSZ:=Lib.hid (show w.heap.size<(w1.alloc (.cells #[.int .u32 (d0:Nat),.int .u32 (d1:Nat)] 430)).heap.size∧w.heap.size+1<(w1.alloc (.cells #[.int .u32 (d0:Nat),.int .u32 (d1:Nat)] 430)).heap.size by simp;omega);generalize w1.alloc (.cells #[.int .u32 (d0:Nat),.int .u32 (d1:Nat)] 430)=wc at *;clear hc1 hc3 HB h1;by_cases hlm:L=M
  ·subst hlm
   go_wp2_with fail
   go_loopg [46] L (fun p v46 wr=>∃i:Nat,v46=.int .i64 i∧i+p=L∧F5 (ds.drop p=es.drop p∧Below wc.heap.size wc wr))
   case atStart=>
    exact⟨0,rfl,by omega,⟨by rw[List.drop_eq_nil_of_le (by rw[HLM.out.1];exact zI _),List.drop_eq_nil_of_le (by rw[HLM.out.2];exact zI _)],Below.refl _ _⟩⟩
   case round=>
    obtain⟨i,rfl,hip,HA2⟩:=hrel;cases gk with
    |zero=>
     have hiv:((i:Int)<(L:Int))=False:=eq_false (by omega);obtain rfl:i=L:=by omega
     go_wp2_with fail
     go_ret
     have heq2:ds=es:=HA2.out.1;exact⟨by rw[heq2,BX rfl];rfl,HQ.out.trans (HA2.out.2.mono HQ.out.size)⟩
    |succ p=>
     have e11:(L:Int)-1-i=p:=by omega
     have hilt:i<L:=by omega
     have hLb:L<1000:=by have:=HN.out.1.len;rw[HLM.out.1]at this;exact this
     have e12:wrap64 (wrap64 ((L:Int)-1)-i)=p:=by rw[Bh (_-1) (by omega) (by omega),e11];exact Bh _ (by omega) (by omega)
     have e13:(p:Int)<L:=by omega
     have e14:(0:Int)≤p:=by omega
     have hplt:p<L:=by omega
     have HIP:=Lib.hid hip;clear hip;obtain⟨bA,oA,rfl,hbA,hcA⟩:=HA.out (by omega);obtain⟨bC,oC,rfl,hbC,hcC⟩:=HC.out (by omega);have hBr:Below w.heap.size w wr:=HQ.out.trans (HA2.out.2.mono HQ.out.size);have r1:wr.cell? ⟨w.heap.size,1,none⟩=some (.slice (some ⟨bA,oA,none⟩) L L):=by rw[HA2.out.2.cell (p:=⟨w.heap.size,1,none⟩) HSZ.out.1];exact q1
     have r3:wr.cell? ⟨w.heap.size+1,1,none⟩=some (.slice (some ⟨bC,oC,none⟩) L L):=by rw[HA2.out.2.cell (p:=⟨w.heap.size+1,1,none⟩) HSZ.out.2];exact q3
     have rA:wr.cell? ⟨bA,oA+p,none⟩=some (.int .u32 (ds.getD p 0:Nat)):=by rw[hBr.cell (p:=⟨bA,oA+p,none⟩) hbA];exact hcA p hplt
     have rC:wr.cell? ⟨bC,oC+p,none⟩=some (.int .u32 (es.getD p 0:Nat)):=by rw[hBr.cell (p:=⟨bC,oC+p,none⟩) hbC];exact hcC p hplt
     have HD:=Lib.hid (And.intro HA2.out.1 HA2.out.2);have HBr:=Lib.hid hBr;clear hcA hcC HA2 hBr hbA hbC HA HC;have HX:=Lib.hid (fun (h:ds.getD p 0≠es.getD p 0)=>Vt HN.out.1.lt HN.out.2.lt (by rw[HLM.out.1];exact hplt) (by rw[HLM.out.1,HLM.out.2]) HD.out.1 h);have HY:=Lib.hid (fun (h:ds.getD p 0=es.getD p 0)=>IM (by rw[HLM.out.1];exact hplt) (by rw[HLM.out.1,HLM.out.2]) HD.out.1 h);generalize ds.getD p 0=x at *;generalize es.getD p 0=y at *;have hcmp:=PY x y wr.drew;by_cases hxy:x=y
     ·rw[BX (show(x:Int)=y by omega)]at hcmp;have HXY:=Lib.hid hxy;clear hxy
      go_wp2_with fail
      refine wp_region_still_tail 11 (by kernel_rfl) (by kernel_rfl) ?_;simp only[List.take_succ_cons,List.take_zero,List.drop_succ_cons,List.drop_zero]
      iterate 10 still_step
      still_call hcmp
      refine wpStill_nil ?_
      go_wp2_with fail
      go_roundg p
      case measure=>exact Nat.lt_succ_self p
      case rel=>exact⟨i+1,by rw[Int.natCast_add];rfl,by have:=HIP.out;omega,⟨HY.out HXY.out,HD.out.2.drew⟩⟩
     ·have e15:AS (x:Nat) (y:Nat)≠0:=QJ (by omega);have HO:=Lib.hid (HX.out hxy);clear hxy;generalize AS (x:Nat) (y:Nat)=oo at *;have e16:decide (oo=0)=false:=by simpa using e15
      have e17:(oo==0)=false:=by simpa using e15
      have e18:(oo != 0)=true:=by simpa using e15
      clear e15
      go_wp2_with fail
      refine wp_region_still_tail 11 (by kernel_rfl) (by kernel_rfl) ?_;simp only[List.take_succ_cons,List.take_zero,List.drop_succ_cons,List.drop_zero]
      iterate 10 still_step
      still_call hcmp
      refine wpStill_nil ?_
      go_wp2_with fail
      go_ret
      exact⟨by rw[←HO.out];rfl,HBr.out.drew⟩
  ·have hli1:decide ((L:Int)=M)=false:=by simp;omega
   have hli2:((L:Int)==M)=false:=by simp;omega
   have hli3:((L:Int) != M)=true:=by simp;omega
   have HO:=Lib.hid (Qp HN.out.1.lt HN.out.1.last HN.out.2.lt HN.out.2.last (by rw[HLM.out.1,HLM.out.2];exact hlm));rw[HLM.out.1,HLM.out.2]at HO;clear hlm
   go_wp2_with fail
   refine(QY _ _ _).mono ?_;rintro e w3 ⟨rfl,rfl⟩
   go_wp2_with fail
   go_ret
   exact⟨by rw[HO.out];rfl,HQ.out⟩
end Go.Nl
end
