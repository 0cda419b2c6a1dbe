/-
  The facts of all tables, joined.
-/
import Derived.Test.YtcnhgomgppmeiaaGreatDoorEFAdd0
import Derived.Test.YtcnhgomgppmeiaaGreatDoorEFChk0
import Derived.Test.YtcnhgomgppmeiaaGreatDoorEFChk1
import Derived.Test.YtcnhgomgppmeiaaGreatDoorEFCom0
import Derived.Test.YtcnhgomgppmeiaaGreatDoorEFCom1
import Derived.Test.YtcnhgomgppmeiaaGreatDoorEFCom2
import Derived.Test.YtcnhgomgppmeiaaGreatDoorEFLow0
import Derived.Test.YtcnhgomgppmeiaaGreatDoorEFLow1
import Derived.Test.YtcnhgomgppmeiaaGreatDoorEFsome
import Derived.Test.YtcnhgomgppmeiaaGreatDoorEFtexts
import Derived.Test.YtcnhgomgppmeiaaGreatDoorEFQuo0
import Derived.Test.YtcnhgomgppmeiaaGreatDoorEFQuo1
import Derived.Test.YtcnhgomgppmeiaaGreatDoorEFQuo2
import Derived.Test.YtcnhgomgppmeiaaGreatDoorEFRat0
import Derived.Test.YtcnhgomgppmeiaaGreatDoorEFRat1
import Derived.Test.YtcnhgomgppmeiaaGreatDoorEFRead0
import Derived.Test.YtcnhgomgppmeiaaGreatDoorEFWck0
import Derived.Test.YtcnhgomgppmeiaaGreatDoorESel

noncomputable section
namespace Go.Ab.Dz
open Go Go.Ab Go.Proofs
set_option maxRecDepth 1000000
theorem quoW (c : Cs) : AllH Tryz.prog (envC c) 212 quoT := ((((((((((((((((((((runH_ok (env_ok c) (prim0_ok c) (glob_pure c) (quoF0 c)).join (runH_ok (env_ok c) (prim0_ok c) (glob_pure c) (quoF1 c))).join (runH_ok (env_ok c) (prim0_ok c) (glob_pure c) (quoF2 c))).join (runH_ok (env_ok c) (prim0_ok c) (glob_pure c) (quoF3 c))).join (runH_ok (env_ok c) (prim0_ok c) (glob_pure c) (quoF4 c))).join (runH_ok (env_ok c) (prim0_ok c) (glob_pure c) (quoF5 c))).join (runH_ok (env_ok c) (prim0_ok c) (glob_pure c) (quoF6 c))).join (runH_ok (env_ok c) (prim0_ok c) (glob_pure c) (quoF7 c))).join (runH_ok (env_ok c) (prim0_ok c) (glob_pure c) (quoF8 c))).join (runH_ok (env_ok c) (prim0_ok c) (glob_pure c) (quoF9 c))).join (runH_ok (env_ok c) (prim0_ok c) (glob_pure c) (quoF10 c))).join (runH_ok (env_ok c) (prim0_ok c) (glob_pure c) (quoF11 c))).join (runH_ok (env_ok c) (prim0_ok c) (glob_pure c) (quoF12 c))).join (runH_ok (env_ok c) (prim0_ok c) (glob_pure c) (quoF13 c))).join (runH_ok (env_ok c) (prim0_ok c) (glob_pure c) (quoF14 c))).join (runH_ok (env_ok c) (prim0_ok c) (glob_pure c) (quoF15 c))).join (runH_ok (env_ok c) (prim0_ok c) (glob_pure c) (quoF16 c))).join (runH_ok (env_ok c) (prim0_ok c) (glob_pure c) (quoF17 c))).join (runH_ok (env_ok c) (prim0_ok c) (glob_pure c) (quoF18 c))).join (runH_ok (env_ok c) (prim0_ok c) (glob_pure c) (quoF19 c))).all (by kernel_rfl)
theorem textW (c : Cs) : AllH Tryz.prog (envC c) 110 textT := (((runH_ok (env_ok c) (prim0_ok c) (glob_pure c) (textF0 c)).join (runH_ok (env_ok c) (prim0_ok c) (glob_pure c) (textF1 c))).join (runH_ok (env_ok c) (prim0_ok c) (glob_pure c) (textF2 c))).all (by kernel_rfl)
theorem ofW (c : Cs) : AllH Tryz.prog (envC c) 145 ofT := ((runH_ok (env_ok c) (prim0_ok c) (glob_pure c) (ofF0 c)).join (runH_ok (env_ok c) (prim0_ok c) (glob_pure c) (ofF1 c))).all (by kernel_rfl)
theorem smallW (c : Cs) : AllH Tryz.prog (envC c) 211 smallT := (runH_ok (env_ok c) (prim0_ok c) (glob_pure c) (smallF0 c)).all (by kernel_rfl)
theorem oppW (c : Cs) : AllH Tryz.prog (envC c) 160 oppT := (runH_ok (env_ok c) (prim0_ok c) (glob_pure c) (oppF0 c)).all (by kernel_rfl)
theorem ofrW (c : Cs) : AllH Tryz.prog (envC c) 59 ofrT := ((((runH_ok (env_ok c) (prim0_ok c) (glob_pure c) (ofrF0 c)).join (runH_ok (env_ok c) (prim0_ok c) (glob_pure c) (ofrF1 c))).join (runH_ok (env_ok c) (prim0_ok c) (glob_pure c) (ofrF2 c))).join (runH_ok (env_ok c) (prim0_ok c) (glob_pure c) (ofrF3 c))).all (by kernel_rfl)
theorem rzeroW (c : Cs) : AllH Tryz.prog (envC c) 11 rzeroT := ((((runH_ok (env_ok c) (prim0_ok c) (glob_pure c) (rzeroF0 c)).join (runH_ok (env_ok c) (prim0_ok c) (glob_pure c) (rzeroF1 c))).join (runH_ok (env_ok c) (prim0_ok c) (glob_pure c) (rzeroF2 c))).join (runH_ok (env_ok c) (prim0_ok c) (glob_pure c) (rzeroF3 c))).all (by kernel_rfl)
theorem zeroW (c : Cs) : AllH Tryz.prog (envC c) 76 zeroT := (runH_ok (env_ok c) (prim0_ok c) (glob_pure c) (zeroF0 c)).all (by kernel_rfl)
theorem ratofW (c : Cs) : AllH Tryz.prog (envC c) 46 ratofT := ((((runH_ok (env_ok c) (prim0_ok c) (glob_pure c) (ratofF0 c)).join (runH_ok (env_ok c) (prim0_ok c) (glob_pure c) (ratofF1 c))).join (runH_ok (env_ok c) (prim0_ok c) (glob_pure c) (ratofF2 c))).join (runH_ok (env_ok c) (prim0_ok c) (glob_pure c) (ratofF3 c))).all (by kernel_rfl)
theorem wckW (c : Cs) : AllH Tryz.prog (envC c) 156 wckT := ((((((runH_ok (env_ok c) (prim0_ok c) (glob_pure c) (wckF0 c)).join (runH_ok (env_ok c) (prim0_ok c) (glob_pure c) (wckF1 c))).join (runH_ok (env_ok c) (prim0_ok c) (glob_pure c) (wckF2 c))).join (runH_ok (env_ok c) (prim0_ok c) (glob_pure c) (wckF3 c))).join (runH_ok (env_ok c) (prim0_ok c) (glob_pure c) (wckF4 c))).join (runH_ok (env_ok c) (prim0_ok c) (glob_pure c) (wckF5 c))).all (by kernel_rfl)
theorem readW (c : Cs) : AllH Tryz.prog (envC c) 109 readT := ((((runH_ok (env_ok c) (prim0_ok c) (glob_pure c) (readF0 c)).join (runH_ok (env_ok c) (prim0_ok c) (glob_pure c) (readF1 c))).join (runH_ok (env_ok c) (prim0_ok c) (glob_pure c) (readF2 c))).join (runH_ok (env_ok c) (prim0_ok c) (glob_pure c) (readF3 c))).all (by kernel_rfl)
theorem hQ_list : hQ.list = [(212, quoT)] := by kernel_rfl
theorem hQ_ok (c : Cs) : PrimOk Tryz.prog (withPrim (envC c) (primOfH prim0 hQ)) := primOfH_ok (prim0_ok c) (fun q hq => by
  rw [hQ_list] at hq
  simp only [List.mem_cons, List.not_mem_nil, or_false] at hq
  subst hq
  exact quoW c)
theorem comW (c : Cs) : AllH Tryz.prog (envC c) 158 comT := ((((((((((((((((runH_ok (env_ok c) (hQ_ok c) (glob_pure c) (comF0 c)).join (runH_ok (env_ok c) (hQ_ok c) (glob_pure c) (comF1 c))).join (runH_ok (env_ok c) (hQ_ok c) (glob_pure c) (comF2 c))).join (runH_ok (env_ok c) (hQ_ok c) (glob_pure c) (comF3 c))).join (runH_ok (env_ok c) (hQ_ok c) (glob_pure c) (comF4 c))).join (runH_ok (env_ok c) (hQ_ok c) (glob_pure c) (comF5 c))).join (runH_ok (env_ok c) (hQ_ok c) (glob_pure c) (comF6 c))).join (runH_ok (env_ok c) (hQ_ok c) (glob_pure c) (comF7 c))).join (runH_ok (env_ok c) (hQ_ok c) (glob_pure c) (comF8 c))).join (runH_ok (env_ok c) (hQ_ok c) (glob_pure c) (comF9 c))).join (runH_ok (env_ok c) (hQ_ok c) (glob_pure c) (comF10 c))).join (runH_ok (env_ok c) (hQ_ok c) (glob_pure c) (comF11 c))).join (runH_ok (env_ok c) (hQ_ok c) (glob_pure c) (comF12 c))).join (runH_ok (env_ok c) (hQ_ok c) (glob_pure c) (comF13 c))).join (runH_ok (env_ok c) (hQ_ok c) (glob_pure c) (comF14 c))).join (runH_ok (env_ok c) (hQ_ok c) (glob_pure c) (comF15 c))).all (by kernel_rfl)
theorem hC_list : hC.list = [(158, comT), (212, quoT)] := by kernel_rfl
theorem hC_ok (c : Cs) : PrimOk Tryz.prog (withPrim (envC c) (primOfH prim0 hC)) := primOfH_ok (prim0_ok c) (fun q hq => by
  rw [hC_list] at hq
  simp only [List.mem_cons, List.not_mem_nil, or_false] at hq
  rcases hq with rfl | rfl
  · exact comW c
  · exact quoW c)
theorem hS_list : hS.list = [(145, ofT), (211, smallT)] := by kernel_rfl
theorem hS_ok (c : Cs) : PrimOk Tryz.prog (withPrim (envC c) (primOfH prim0 hS)) := primOfH_ok (prim0_ok c) (fun q hq => by
  rw [hS_list] at hq
  simp only [List.mem_cons, List.not_mem_nil, or_false] at hq
  rcases hq with rfl | rfl
  · exact ofW c
  · exact smallW c)
theorem addW (c : Cs) : AllH Tryz.prog (envC c) 146 addT := ((((((runH_ok (env_ok c) (hS_ok c) (glob_pure c) (addF0 c)).join (runH_ok (env_ok c) (hS_ok c) (glob_pure c) (addF1 c))).join (runH_ok (env_ok c) (hS_ok c) (glob_pure c) (addF2 c))).join (runH_ok (env_ok c) (hS_ok c) (glob_pure c) (addF3 c))).join (runH_ok (env_ok c) (hS_ok c) (glob_pure c) (addF4 c))).join (runH_ok (env_ok c) (hS_ok c) (glob_pure c) (addF5 c))).all (by kernel_rfl)
theorem mulW (c : Cs) : AllH Tryz.prog (envC c) 147 mulT := (runH_ok (env_ok c) (hS_ok c) (glob_pure c) (mulF0 c)).all (by kernel_rfl)
theorem hK_list : hK.list = [(158, comT), (156, wckT), (109, readT), (145, ofT)] := by kernel_rfl
theorem hK_ok (c : Cs) : PrimOk Tryz.prog (withPrim (envC c) (primOfH prim0 hK)) := primOfH_ok (prim0_ok c) (fun q hq => by
  rw [hK_list] at hq
  simp only [List.mem_cons, List.not_mem_nil, or_false] at hq
  rcases hq with rfl | rfl | rfl | rfl
  · exact comW c
  · exact wckW c
  · exact readW c
  · exact ofW c)
theorem chkW (c : Cs) : AllH Tryz.prog (envC c) 50 chkT := ((((((((((((((runH_ok (env_ok c) (hK_ok c) (glob_pure c) (chkF0 c)).join (runH_ok (env_ok c) (hK_ok c) (glob_pure c) (chkF1 c))).join (runH_ok (env_ok c) (hK_ok c) (glob_pure c) (chkF2 c))).join (runH_ok (env_ok c) (hK_ok c) (glob_pure c) (chkF3 c))).join (runH_ok (env_ok c) (hK_ok c) (glob_pure c) (chkF4 c))).join (runH_ok (env_ok c) (hK_ok c) (glob_pure c) (chkF5 c))).join (runH_ok (env_ok c) (hK_ok c) (glob_pure c) (chkF6 c))).join (runH_ok (env_ok c) (hK_ok c) (glob_pure c) (chkF7 c))).join (runH_ok (env_ok c) (hK_ok c) (glob_pure c) (chkF8 c))).join (runH_ok (env_ok c) (hK_ok c) (glob_pure c) (chkF9 c))).join (runH_ok (env_ok c) (hK_ok c) (glob_pure c) (chkF10 c))).join (runH_ok (env_ok c) (hK_ok c) (glob_pure c) (chkF11 c))).join (runH_ok (env_ok c) (hK_ok c) (glob_pure c) (chkF12 c))).join (runH_ok (env_ok c) (hK_ok c) (glob_pure c) (chkF13 c))).all (by kernel_rfl)
theorem lowW (c : Cs) : AllH Tryz.prog (envC c) 144 lowT := ((((((((((((runH_ok (env_ok c) (hC_ok c) (glob_pure c) (lowF0 c)).join (runH_ok (env_ok c) (hC_ok c) (glob_pure c) (lowF1 c))).join (runH_ok (env_ok c) (hC_ok c) (glob_pure c) (lowF2 c))).join (runH_ok (env_ok c) (hC_ok c) (glob_pure c) (lowF3 c))).join (runH_ok (env_ok c) (hC_ok c) (glob_pure c) (lowF4 c))).join (runH_ok (env_ok c) (hC_ok c) (glob_pure c) (lowF5 c))).join (runH_ok (env_ok c) (hC_ok c) (glob_pure c) (lowF6 c))).join (runH_ok (env_ok c) (hC_ok c) (glob_pure c) (lowF7 c))).join (runH_ok (env_ok c) (hC_ok c) (glob_pure c) (lowF8 c))).join (runH_ok (env_ok c) (hC_ok c) (glob_pure c) (lowF9 c))).join (runH_ok (env_ok c) (hC_ok c) (glob_pure c) (lowF10 c))).join (runH_ok (env_ok c) (hC_ok c) (glob_pure c) (lowF11 c))).all (by kernel_rfl)
theorem hX_list : hX.list = [(110, textT)] := by kernel_rfl
theorem hX_ok (c : Cs) : PrimOk Tryz.prog (withPrim (envC c) (primOfH prim0 hX)) := primOfH_ok (prim0_ok c) (fun q hq => by
  rw [hX_list] at hq
  simp only [List.mem_cons, List.not_mem_nil, or_false] at hq
  subst hq
  exact textW c)
theorem ratW (c : Cs) : AllH Tryz.prog (envC c) 62 ratT := ((((((((((((runH_ok (env_ok c) (hX_ok c) (glob_pure c) (ratF0 c)).join (runH_ok (env_ok c) (hX_ok c) (glob_pure c) (ratF1 c))).join (runH_ok (env_ok c) (hX_ok c) (glob_pure c) (ratF2 c))).join (runH_ok (env_ok c) (hX_ok c) (glob_pure c) (ratF3 c))).join (runH_ok (env_ok c) (hX_ok c) (glob_pure c) (ratF4 c))).join (runH_ok (env_ok c) (hX_ok c) (glob_pure c) (ratF5 c))).join (runH_ok (env_ok c) (hX_ok c) (glob_pure c) (ratF6 c))).join (runH_ok (env_ok c) (hX_ok c) (glob_pure c) (ratF7 c))).join (runH_ok (env_ok c) (hX_ok c) (glob_pure c) (ratF8 c))).join (runH_ok (env_ok c) (hX_ok c) (glob_pure c) (ratF9 c))).join (runH_ok (env_ok c) (hX_ok c) (glob_pure c) (ratF10 c))).join (runH_ok (env_ok c) (hX_ok c) (glob_pure c) (ratF11 c))).all (by kernel_rfl)
theorem AllH.none {P : Program} {E : Env} {f : FuncId} : AllH P E f .e := fun q hq => by cases hq
theorem tabs_facts (c : Cs) (f : Nat) : AllH Tryz.prog (envC c) f (tabOf f) := by
  unfold tabOf
  cases hmul : Nat.beq f 147 with
  | true => obtain rfl := Nat.eq_of_beq_eq_true hmul; exact mulW c
  | false =>
  simp only [cond_false]
  cases hadd : Nat.beq f 146 with
  | true => obtain rfl := Nat.eq_of_beq_eq_true hadd; exact addW c
  | false =>
  simp only [cond_false]
  cases hopp : Nat.beq f 160 with
  | true => obtain rfl := Nat.eq_of_beq_eq_true hopp; exact oppW c
  | false =>
  simp only [cond_false]
  cases hlow : Nat.beq f 144 with
  | true => obtain rfl := Nat.eq_of_beq_eq_true hlow; exact lowW c
  | false =>
  simp only [cond_false]
  cases hrat : Nat.beq f 62 with
  | true => obtain rfl := Nat.eq_of_beq_eq_true hrat; exact ratW c
  | false =>
  simp only [cond_false]
  cases hratof : Nat.beq f 46 with
  | true => obtain rfl := Nat.eq_of_beq_eq_true hratof; exact ratofW c
  | false =>
  simp only [cond_false]
  cases hchk : Nat.beq f 50 with
  | true => obtain rfl := Nat.eq_of_beq_eq_true hchk; exact chkW c
  | false =>
  simp only [cond_false]
  cases hofr : Nat.beq f 59 with
  | true => obtain rfl := Nat.eq_of_beq_eq_true hofr; exact ofrW c
  | false =>
  simp only [cond_false]
  cases hrzero : Nat.beq f 11 with
  | true => obtain rfl := Nat.eq_of_beq_eq_true hrzero; exact rzeroW c
  | false =>
  simp only [cond_false]
  cases hzero : Nat.beq f 76 with
  | true => obtain rfl := Nat.eq_of_beq_eq_true hzero; exact zeroW c
  | false =>
  simp only [cond_false]
  exact AllH.none
end Go.Ab.Dz
end
