/- Contracts and laws on the way to the statement, text 3 of 22. Conditions: as each states them. -/
import Derived.Test.YtljajnaclpbecaaGreatDoorGu1
import Derived.Test.YtljajnaclpbecaaGreatDoorGu2
import Derived.Deep.Cut
import Derived.BigRegion
import Derived.Deep.RegionHeld3
import Derived.Recover
import Derived.Defers
import Derived.Test.YtljajnaclpbecaaGreatDoorProg
import Derived.Lib.Hide
import Derived.Outline
import Derived.Below
import Derived.Handy
import Derived.Deep.Draws
import Derived.Laws.CopyOwn
import Derived.Laws.MakeOwn
import Derived.BigQuiet
import Derived.Deep.QuietTactic
import Derived.Lib.SliceRun
import Derived.Laws.IdiomCopy
import Derived.StillTailTactics
namespace Go.Proofs.YtljajnaclpbecaaGreatDoor
open Go.RowKit
set_option maxRecDepth 1000000
set_option maxHeartbeats 8000000
set_option linter.unusedVariables false
set_option linter.unusedSimpArgs false
theorem opsS_value {P:Program} {ops:Array Oper} {Q:Exit→Act→List Frame→World→Prop} {i:Nat} {rest:List Nat} {a:Act} {cs:List Frame} {w w':World} {o:Oper} {v:Value} (ho:ops[i]?=some o) (hw:Region.wanted o (yielded ops a.tmps)=true) (hr:(execOp a.eval o).run P w=.ok (.value v) w') (h:wpOpsS P ops Q rest (a.put o.dst v) cs w'):wpOpsS P ops Q (i :: rest) a cs w:=by
 simp only [wpOpsS,ho,hw,if_true,hr]
 exact h
theorem opsS_rec {P:Program} {ops:Array Oper} {Q:Exit→Act→List Frame→World→Prop} {i:Nat} {rest:List Nat} {a:Act} {cs cs':List Frame} {w w':World} {o:Oper} {v:Value} (ho:ops[i]?=some o) (hw:Region.wanted o (yielded ops a.tmps)=true) (hr:(execOp a.eval o).run P w=.ok .recover w') (hc:recoverD cs=some (v,cs')) (h:wpOpsS P ops Q rest (a.put o.dst v) cs' w'):wpOpsS P ops Q (i :: rest) a cs w:=by
 simp only [wpOpsS,ho,hw,if_true,hr,hc]
 exact h
theorem opsS_idle {P:Program} {ops:Array Oper} {Q:Exit→Act→List Frame→World→Prop} {i:Nat} {rest:List Nat} {a:Act} {cs:List Frame} {w w':World} {o:Oper} (ho:ops[i]?=some o) (hw:Region.wanted o (yielded ops a.tmps)=true) (hr:(execOp a.eval o).run P w=.ok .recover w') (hc:recoverD cs=none) (h:wpOpsS P ops Q rest (a.put o.dst .nilIface) cs w'):wpOpsS P ops Q (i :: rest) a cs w:=by
 simp only [wpOpsS,ho,hw,if_true,hr,hc]
 exact h
theorem catch_idle (r p nr np en:Value) (w:World) :
  CallsD Tryz.prog 66 #[r,p,nr,np,en] .returning w fun e u' w'=>e=.returned (.tuple #[])∧u'=.returning∧w'=w:=by
 refine callsD_of_wpS Tryz.func66 rfl fun c₀ cs hu=>?_
 simp only [Tryz.ntmps66,List.size_toArray,List.length_cons,List.length_nil,Nat.reduceAdd,Nat.reduceSub,Array.replicate_succ,Array.replicate_zero,List.push_toArray,List.append_toArray,List.nil_append,List.cons_append]
 apply wpS_seq
 apply wpS_region
 show wpOpsS _ _ _ [0,1,2,3,4,5,6] _ _ _
 refine opsS_idle (w':=w) rfl (by kernel_rfl) (by kernel_rfl) (by simp [recoverD,hu]) ?_
 iterate 2 refine opsS_value (v:=.tuple #[.int .i64 0,.bool false]) (w':=w) rfl (by kernel_rfl) (by kernel_rfl) ?_
 refine opsS_value (v:=.int .i64 0) (w':=w) rfl (by kernel_rfl) (by kernel_rfl) ?_
 refine opsS_value (v:=.bool false) (w':=w) rfl (by kernel_rfl) (by kernel_rfl) ?_
 refine opsS_value (v:=.int .i64 0) (w':=w) rfl (by kernel_rfl) (by kernel_rfl) ?_
 refine opsS_value (v:=.bool false) (w':=w) rfl (by kernel_rfl) (by kernel_rfl) ?_
 simp only [Act.put,List.setIfInBounds_toArray,List.set_cons_zero,List.set_cons_succ]
 unfold wpOpsS
 simp only [Exit.thenS]
 refine wpS_of_wp ?_
 go_wp2
 exact ⟨rfl,.returning,by cases c₀;simp_all,.tuple #[],by simp [results,Tryz.results66],rfl,rfl,rfl⟩
def knL:List Int:=[4,5,6,7,16,17,18,19,20,21,22,23,24,25,26,27,28,29,30,31,64,65,66,67,69,70,71,72,73,74,75,76,80,84,85,86,87,88,89,90,91,92,93,94,95,134,135,136,137,138,139,140,141,142,143,144,145,146,147,148,149,150,151,152,209,210,211,212,213,214,215,220,221]
def kn (op:Int):Bool:=decide (op∈knL)
def knB (op:Int):Bool:=isOp op && (!privB op && (!decide (op∈[10,68,78,79,222,223]) && decide (op<240)))
theorem isOp_in {op:Int} (h:isOp op=true):4≤op∧op≤253:=by
 unfold isOp at h;rw [decide_eq_true_iff] at h
 have:=op_range _ h;rwa [ix_op h] at this
theorem knB_lt:∀n:Nat,n<256→knB (n:Int)=kn (n:Int):=by decide +kernel
theorem knL_in:∀op∈knL,0≤op∧op≤255:=by decide
theorem knB_eq (op:Int):knB op=kn op:=by
 by_cases h:0≤op∧op≤255
 ·have e:((op.toNat:Nat):Int)=op:=Int.toNat_of_nonneg h.1
  rw [← e];exact knB_lt _ (by omega)
 ·have h1:isOp op=false:=by
   cases hi:isOp op
   ·rfl
   ·have:=isOp_in hi;omega
  have h2:kn op=false:=decide_eq_false (fun hm=>h (knL_in op hm))
  rw [h2];unfold knB;rw [h1];rfl
theorem knows_no (op:Int) (w:World) (h:isOp op=false):Calls Tryz.prog 65 #[.int .i64 op] w fun e w'=>e=.returned (.bool false)∧∃n,w'=w.drewN n:=by
 have FC:=lh (form_c op)
 have PC:=lh (priv_c op)
 obtain ⟨f,hf⟩:∃f,fmOf op=f:=⟨_,rfl⟩
 rw [hf] at FC
 clear hf
 rw [h] at FC
 clear h
 go_enter Tryz.func65,Tryz.ntmps65
 go_wp2_with (first
  | (go_at_call 54;refine (FC.out _).mono ?_;rintro e w1 ⟨rfl,n1,rfl⟩)
  | (go_at_call 49;refine (PC.out _).mono ?_;rintro e w2 ⟨rfl,hw2⟩;subst hw2))
 go_ret
 exact ⟨by first | rfl | (show Ending.returned (.bool (decide (op<240)))=_;rw [decide_eq_false (by omega)]),_,rfl⟩
theorem knows_priv (op:Int) (w:World) (h:isOp op=true) (hp:privB op=true):Calls Tryz.prog 65 #[.int .i64 op] w fun e w'=>e=.returned (.bool false)∧∃n,w'=w.drewN n:=by
 have FC:=lh (form_c op)
 have PC:=lh (priv_c op)
 obtain ⟨f,hf⟩:∃f,fmOf op=f:=⟨_,rfl⟩
 rw [hf] at FC
 clear hf
 rw [h] at FC
 rw [hp] at PC
 clear h hp
 go_enter Tryz.func65,Tryz.ntmps65
 go_wp2_with (first
  | (go_at_call 54;refine (FC.out _).mono ?_;rintro e w1 ⟨rfl,n1,rfl⟩)
  | (go_at_call 49;refine (PC.out _).mono ?_;rintro e w2 ⟨rfl,hw2⟩;subst hw2))
 go_ret
 exact ⟨by first | rfl | (show Ending.returned (.bool (decide (op<240)))=_;rw [decide_eq_false (by omega)]),_,rfl⟩
theorem knows_yes (op:Int) (w:World) (h:isOp op=true) (hp:privB op=false) (h10:op≠10) (h68:op≠68) (h78:op≠78) (h79:op≠79) (h222:op≠222) (h223:op≠223) (hl:op<240):Calls Tryz.prog 65 #[.int .i64 op] w fun e w'=>e=.returned (.bool true)∧∃n,w'=w.drewN n:=by
 have FC:=lh (form_c op)
 have PC:=lh (priv_c op)
 obtain ⟨f,hf⟩:∃f,fmOf op=f:=⟨_,rfl⟩
 rw [hf] at FC
 clear hf
 rw [h] at FC
 rw [hp] at PC
 clear h hp
 have e10:(op == 10)=false:=by simpa using h10
 have e68:(op == 68)=false:=by simpa using h68
 have e78:(op == 78)=false:=by simpa using h78
 have e79:(op == 79)=false:=by simpa using h79
 have e222:(op == 222)=false:=by simpa using h222
 have e223:(op == 223)=false:=by simpa using h223
 clear h10 h68 h78 h79 h222 h223
 go_enter Tryz.func65,Tryz.ntmps65
 go_wp2_with (first
  | (go_at_call 54;refine (FC.out _).mono ?_;rintro e w1 ⟨rfl,n1,rfl⟩)
  | (go_at_call 49;refine (PC.out _).mono ?_;rintro e w2 ⟨rfl,hw2⟩;subst hw2))
 go_ret
 exact ⟨by first | rfl | (show Ending.returned (.bool (decide (op<240)))=_;rw [decide_eq_false (by omega)]),_,rfl⟩
theorem knows_ge (op:Int) (w:World) (h:isOp op=true) (hp:privB op=false) (h10:op≠10) (h68:op≠68) (h78:op≠78) (h79:op≠79) (h222:op≠222) (h223:op≠223) (hl:¬ op<240):Calls Tryz.prog 65 #[.int .i64 op] w fun e w'=>e=.returned (.bool false)∧∃n,w'=w.drewN n:=by
 have FC:=lh (form_c op)
 have PC:=lh (priv_c op)
 obtain ⟨f,hf⟩:∃f,fmOf op=f:=⟨_,rfl⟩
 rw [hf] at FC
 clear hf
 rw [h] at FC
 rw [hp] at PC
 clear h hp
 have e10:(op == 10)=false:=by simpa using h10
 have e68:(op == 68)=false:=by simpa using h68
 have e78:(op == 78)=false:=by simpa using h78
 have e79:(op == 79)=false:=by simpa using h79
 have e222:(op == 222)=false:=by simpa using h222
 have e223:(op == 223)=false:=by simpa using h223
 clear h10 h68 h78 h79 h222 h223
 go_enter Tryz.func65,Tryz.ntmps65
 go_wp2_with (first
  | (go_at_call 54;refine (FC.out _).mono ?_;rintro e w1 ⟨rfl,n1,rfl⟩)
  | (go_at_call 49;refine (PC.out _).mono ?_;rintro e w2 ⟨rfl,hw2⟩;subst hw2))
 go_ret
 exact ⟨by first | rfl | (show Ending.returned (.bool (decide (op<240)))=_;rw [decide_eq_false (by omega)]),_,rfl⟩
theorem knows_at10 (op:Int) (w:World) (h:isOp op=true) (hp:privB op=false) (hk:op=10):Calls Tryz.prog 65 #[.int .i64 op] w fun e w'=>e=.returned (.bool false)∧∃n,w'=w.drewN n:=by
 have FC:=lh (form_c op)
 have PC:=lh (priv_c op)
 obtain ⟨f,hf⟩:∃f,fmOf op=f:=⟨_,rfl⟩
 rw [hf] at FC
 clear hf
 rw [h] at FC
 rw [hp] at PC
 clear h hp
 have e10:(op == 10)=true:=by rw [hk];rfl
 have e68:(op == 68)=false:=by rw [hk];rfl
 have e78:(op == 78)=false:=by rw [hk];rfl
 have e79:(op == 79)=false:=by rw [hk];rfl
 have e222:(op == 222)=false:=by rw [hk];rfl
 have e223:(op == 223)=false:=by rw [hk];rfl
 clear hk
 go_enter Tryz.func65,Tryz.ntmps65
 go_wp2_with (first
  | (go_at_call 54;refine (FC.out _).mono ?_;rintro e w1 ⟨rfl,n1,rfl⟩)
  | (go_at_call 49;refine (PC.out _).mono ?_;rintro e w2 ⟨rfl,hw2⟩;subst hw2))
 go_ret
 exact ⟨by first | rfl | (show Ending.returned (.bool (decide (op<240)))=_;rw [decide_eq_false (by omega)]),_,rfl⟩
theorem knows_at68 (op:Int) (w:World) (h:isOp op=true) (hp:privB op=false) (hk:op=68):Calls Tryz.prog 65 #[.int .i64 op] w fun e w'=>e=.returned (.bool false)∧∃n,w'=w.drewN n:=by
 have FC:=lh (form_c op)
 have PC:=lh (priv_c op)
 obtain ⟨f,hf⟩:∃f,fmOf op=f:=⟨_,rfl⟩
 rw [hf] at FC
 clear hf
 rw [h] at FC
 rw [hp] at PC
 clear h hp
 have e10:(op == 10)=false:=by rw [hk];rfl
 have e68:(op == 68)=true:=by rw [hk];rfl
 have e78:(op == 78)=false:=by rw [hk];rfl
 have e79:(op == 79)=false:=by rw [hk];rfl
 have e222:(op == 222)=false:=by rw [hk];rfl
 have e223:(op == 223)=false:=by rw [hk];rfl
 clear hk
 go_enter Tryz.func65,Tryz.ntmps65
 go_wp2_with (first
  | (go_at_call 54;refine (FC.out _).mono ?_;rintro e w1 ⟨rfl,n1,rfl⟩)
  | (go_at_call 49;refine (PC.out _).mono ?_;rintro e w2 ⟨rfl,hw2⟩;subst hw2))
 go_ret
 exact ⟨by first | rfl | (show Ending.returned (.bool (decide (op<240)))=_;rw [decide_eq_false (by omega)]),_,rfl⟩
theorem knows_at78 (op:Int) (w:World) (h:isOp op=true) (hp:privB op=false) (hk:op=78):Calls Tryz.prog 65 #[.int .i64 op] w fun e w'=>e=.returned (.bool false)∧∃n,w'=w.drewN n:=by
 have FC:=lh (form_c op)
 have PC:=lh (priv_c op)
 obtain ⟨f,hf⟩:∃f,fmOf op=f:=⟨_,rfl⟩
 rw [hf] at FC
 clear hf
 rw [h] at FC
 rw [hp] at PC
 clear h hp
 have e10:(op == 10)=false:=by rw [hk];rfl
 have e68:(op == 68)=false:=by rw [hk];rfl
 have e78:(op == 78)=true:=by rw [hk];rfl
 have e79:(op == 79)=false:=by rw [hk];rfl
 have e222:(op == 222)=false:=by rw [hk];rfl
 have e223:(op == 223)=false:=by rw [hk];rfl
 clear hk
 go_enter Tryz.func65,Tryz.ntmps65
 go_wp2_with (first
  | (go_at_call 54;refine (FC.out _).mono ?_;rintro e w1 ⟨rfl,n1,rfl⟩)
  | (go_at_call 49;refine (PC.out _).mono ?_;rintro e w2 ⟨rfl,hw2⟩;subst hw2))
 go_ret
 exact ⟨by first | rfl | (show Ending.returned (.bool (decide (op<240)))=_;rw [decide_eq_false (by omega)]),_,rfl⟩
theorem knows_at79 (op:Int) (w:World) (h:isOp op=true) (hp:privB op=false) (hk:op=79):Calls Tryz.prog 65 #[.int .i64 op] w fun e w'=>e=.returned (.bool false)∧∃n,w'=w.drewN n:=by
 have FC:=lh (form_c op)
 have PC:=lh (priv_c op)
 obtain ⟨f,hf⟩:∃f,fmOf op=f:=⟨_,rfl⟩
 rw [hf] at FC
 clear hf
 rw [h] at FC
 rw [hp] at PC
 clear h hp
 have e10:(op == 10)=false:=by rw [hk];rfl
 have e68:(op == 68)=false:=by rw [hk];rfl
 have e78:(op == 78)=false:=by rw [hk];rfl
 have e79:(op == 79)=true:=by rw [hk];rfl
 have e222:(op == 222)=false:=by rw [hk];rfl
 have e223:(op == 223)=false:=by rw [hk];rfl
 clear hk
 go_enter Tryz.func65,Tryz.ntmps65
 go_wp2_with (first
  | (go_at_call 54;refine (FC.out _).mono ?_;rintro e w1 ⟨rfl,n1,rfl⟩)
  | (go_at_call 49;refine (PC.out _).mono ?_;rintro e w2 ⟨rfl,hw2⟩;subst hw2))
 go_ret
 exact ⟨by first | rfl | (show Ending.returned (.bool (decide (op<240)))=_;rw [decide_eq_false (by omega)]),_,rfl⟩
theorem knows_at222 (op:Int) (w:World) (h:isOp op=true) (hp:privB op=false) (hk:op=222):Calls Tryz.prog 65 #[.int .i64 op] w fun e w'=>e=.returned (.bool false)∧∃n,w'=w.drewN n:=by
 have FC:=lh (form_c op)
 have PC:=lh (priv_c op)
 obtain ⟨f,hf⟩:∃f,fmOf op=f:=⟨_,rfl⟩
 rw [hf] at FC
 clear hf
 rw [h] at FC
 rw [hp] at PC
 clear h hp
 have e10:(op == 10)=false:=by rw [hk];rfl
 have e68:(op == 68)=false:=by rw [hk];rfl
 have e78:(op == 78)=false:=by rw [hk];rfl
 have e79:(op == 79)=false:=by rw [hk];rfl
 have e222:(op == 222)=true:=by rw [hk];rfl
 have e223:(op == 223)=false:=by rw [hk];rfl
 clear hk
 go_enter Tryz.func65,Tryz.ntmps65
 go_wp2_with (first
  | (go_at_call 54;refine (FC.out _).mono ?_;rintro e w1 ⟨rfl,n1,rfl⟩)
  | (go_at_call 49;refine (PC.out _).mono ?_;rintro e w2 ⟨rfl,hw2⟩;subst hw2))
 go_ret
 exact ⟨by first | rfl | (show Ending.returned (.bool (decide (op<240)))=_;rw [decide_eq_false (by omega)]),_,rfl⟩
theorem knows_at223 (op:Int) (w:World) (h:isOp op=true) (hp:privB op=false) (hk:op=223):Calls Tryz.prog 65 #[.int .i64 op] w fun e w'=>e=.returned (.bool false)∧∃n,w'=w.drewN n:=by
 have FC:=lh (form_c op)
 have PC:=lh (priv_c op)
 obtain ⟨f,hf⟩:∃f,fmOf op=f:=⟨_,rfl⟩
 rw [hf] at FC
 clear hf
 rw [h] at FC
 rw [hp] at PC
 clear h hp
 have e10:(op == 10)=false:=by rw [hk];rfl
 have e68:(op == 68)=false:=by rw [hk];rfl
 have e78:(op == 78)=false:=by rw [hk];rfl
 have e79:(op == 79)=false:=by rw [hk];rfl
 have e222:(op == 222)=false:=by rw [hk];rfl
 have e223:(op == 223)=true:=by rw [hk];rfl
 clear hk
 go_enter Tryz.func65,Tryz.ntmps65
 go_wp2_with (first
  | (go_at_call 54;refine (FC.out _).mono ?_;rintro e w1 ⟨rfl,n1,rfl⟩)
  | (go_at_call 49;refine (PC.out _).mono ?_;rintro e w2 ⟨rfl,hw2⟩;subst hw2))
 go_ret
 exact ⟨by first | rfl | (show Ending.returned (.bool (decide (op<240)))=_;rw [decide_eq_false (by omega)]),_,rfl⟩
theorem knows_c (op:Int) (w:World):Calls Tryz.prog 65 #[.int .i64 op] w fun e w'=>e=.returned (.bool (kn op))∧∃n,w'=w.drewN n:=by
 rw [← knB_eq]
 unfold knB
 cases h:isOp op
 ·exact knows_no op w h
 cases hp:privB op
 case true=>exact knows_priv op w h hp
 by_cases h10:op=10
 ·rw [show decide (op∈[10,68,78,79,222,223])=true from decide_eq_true (by rw [h10];decide)]
  exact knows_at10 op w h hp h10
 by_cases h68:op=68
 ·rw [show decide (op∈[10,68,78,79,222,223])=true from decide_eq_true (by rw [h68];decide)]
  exact knows_at68 op w h hp h68
 by_cases h78:op=78
 ·rw [show decide (op∈[10,68,78,79,222,223])=true from decide_eq_true (by rw [h78];decide)]
  exact knows_at78 op w h hp h78
 by_cases h79:op=79
 ·rw [show decide (op∈[10,68,78,79,222,223])=true from decide_eq_true (by rw [h79];decide)]
  exact knows_at79 op w h hp h79
 by_cases h222:op=222
 ·rw [show decide (op∈[10,68,78,79,222,223])=true from decide_eq_true (by rw [h222];decide)]
  exact knows_at222 op w h hp h222
 by_cases h223:op=223
 ·rw [show decide (op∈[10,68,78,79,222,223])=true from decide_eq_true (by rw [h223];decide)]
  exact knows_at223 op w h hp h223
 rw [show decide (op∈[10,68,78,79,222,223])=false from decide_eq_false (by simp only [List.mem_cons,List.not_mem_nil,or_false];omega)]
 by_cases hl:op<240
 ·rw [decide_eq_true hl];exact knows_yes op w h hp h10 h68 h78 h79 h222 h223 hl
 ·rw [decide_eq_false hl];exact knows_ge op w h hp h10 h68 h78 h79 h222 h223 hl
theorem limits_c (m k:Int) (M W P:Bool) (c i q g a:Int) (w:World):Calls Tryz.prog 31 #[.agg #[.int .i64 m,.int .i64 k,.bool M,.bool W,.bool P,.int .i64 c,.int .i64 i,.int .i64 q,.int .i64 g,.int .i64 a]] w fun e w'=>e=.returned (.agg #[.int .i64 m,.int .i64 255,.int .i64 k,.int .i64 15,.int .i64 c,.int .i64 65535,.int .i64 i,.int .i64 3,.int .i64 q,.int .i64 3,.int .i64 g,.int .i64 15,.int .i64 a,.int .i64 16777215])∧Below w.heap.size w w':=by
 go_enter Tryz.func31,Tryz.ntmps31
 go_wp2
 go_returns
 exact ⟨rfl,((Below.refl w.heap.size w).alloc (Nat.le_refl _) _).alloc (by simp) _⟩
theorem sz_limit:Tryz.prog.types[81].size=2:=by kernel_rfl
theorem valid_c (m k:Int) (M W P:Bool) (c i q g a:Int) (w:World):Calls Tryz.prog 22 #[.agg #[.int .i64 m,.int .i64 k,.bool M,.bool W,.bool P,.int .i64 c,.int .i64 i,.int .i64 q,.int .i64 g,.int .i64 a]] w fun e w'=>e=.returned (.bool (pok m k c i q g a))∧Below w.heap.size w w':=by
 go_enter Tryz.func22,Tryz.ntmps22
 go_wp2_with fail
 refine (limits_c m k M W P c i q g a _).mono ?_
 rintro e w1 ⟨rfl,hb⟩
 have HB:=lh (show Below w.heap.size w w1 from ((Below.refl _ _).alloc (Nat.le_refl _) _).trans (hb.mono (by simp)))
 clear hb
 go_wp2_with fail
 go_loopw [7] (fun x wr=>∃n:Nat,n≤7∧x=.int .i64 n∧Below w.heap.size w wr∧(([inr m 255,inr k 15,inr c 65535,inr i 3,inr q 3,inr g 15,inr a 16777215]:List Bool).take n).all id=true) (fun x _=>7 - (intOf x).toNat)
 case atStart=>exact ⟨0,Nat.zero_le _,rfl,HB.out,rfl⟩
 case round=>
  obtain ⟨n,hn,rfl,hbl,hall⟩:=hrel
  have HW:=lh hbl
  have HS:=lh hbl.size
  clear hbl
  match n,hn with
  | 0,_=>
   have hx:(#[.int .i64 m,.int .i64 255,.int .i64 k,.int .i64 15,.int .i64 c,.int .i64 65535,.int .i64 i,.int .i64 3,.int .i64 q,.int .i64 3,.int .i64 g,.int .i64 15,.int .i64 a,.int .i64 16777215]:Array Value).extract (Int.toNat 0*Tryz.prog.types[81].size) (Int.toNat 0*Tryz.prog.types[81].size+Tryz.prog.types[81].size)=#[.int .i64 m,.int .i64 255]:=by rw [sz_limit];rfl
   have hp:True:=by first | trivial | simpa using hall
   have HP:=lh hp
   clear hall hp
   cases t:inr m 255
   ·have hr:=lh (show pok m k c i q g a=false from by simp [pok,t])
    have u:=inr_no t
    clear t
    by_cases u0:0≤m
    ·have u1:¬ m≤255:=by omega
     clear u
     go_wp2_with fail
     rename_i hK
     refine hK _ _ ?_
     rw [hx]
     go_wp2_with fail
     go_ret
     exact ⟨by rw [hr.out];rfl,HW.out.alloc HS.out _⟩
    ·clear u
     go_wp2_with fail
     rename_i hK
     refine hK _ _ ?_
     rw [hx]
     go_wp2_with fail
     go_ret
     exact ⟨by rw [hr.out];rfl,HW.out.alloc HS.out _⟩
   ·have ht:=lh t
    have u0:=(inr_yes t).1
    have u1:=(inr_yes t).2
    clear t
    go_wp2_with fail
    rename_i hK
    refine hK _ _ ?_
    rw [hx]
    go_wp2_with fail
    go_roundw
    case rel=>exact ⟨1,by omega,by go_num,HW.out.alloc HS.out _,by have:=HP.out;simp [this,ht.out]⟩
    case measure=>simp [intOf]
  | 1,_=>
   have hx:(#[.int .i64 m,.int .i64 255,.int .i64 k,.int .i64 15,.int .i64 c,.int .i64 65535,.int .i64 i,.int .i64 3,.int .i64 q,.int .i64 3,.int .i64 g,.int .i64 15,.int .i64 a,.int .i64 16777215]:Array Value).extract (Int.toNat 1*Tryz.prog.types[81].size) (Int.toNat 1*Tryz.prog.types[81].size+Tryz.prog.types[81].size)=#[.int .i64 k,.int .i64 15]:=by rw [sz_limit];rfl
   have hp:inr m 255=true:=by first | trivial | simpa using hall
   have HP:=lh hp
   clear hall hp
   cases t:inr k 15
   ·have hr:=lh (show pok m k c i q g a=false from by simp [pok,t])
    have u:=inr_no t
    clear t
    by_cases u0:0≤k
    ·have u1:¬ k≤15:=by omega
     clear u
     go_wp2_with fail
     rename_i hK
     refine hK _ _ ?_
     rw [hx]
     go_wp2_with fail
     go_ret
     exact ⟨by rw [hr.out];rfl,HW.out.alloc HS.out _⟩
    ·clear u
     go_wp2_with fail
     rename_i hK
     refine hK _ _ ?_
     rw [hx]
     go_wp2_with fail
     go_ret
     exact ⟨by rw [hr.out];rfl,HW.out.alloc HS.out _⟩
   ·have ht:=lh t
    have u0:=(inr_yes t).1
    have u1:=(inr_yes t).2
    clear t
    go_wp2_with fail
    rename_i hK
    refine hK _ _ ?_
    rw [hx]
    go_wp2_with fail
    go_roundw
    case rel=>exact ⟨2,by omega,by go_num,HW.out.alloc HS.out _,by have:=HP.out;simp [this,ht.out]⟩
    case measure=>simp [intOf]
  | 2,_=>
   have hx:(#[.int .i64 m,.int .i64 255,.int .i64 k,.int .i64 15,.int .i64 c,.int .i64 65535,.int .i64 i,.int .i64 3,.int .i64 q,.int .i64 3,.int .i64 g,.int .i64 15,.int .i64 a,.int .i64 16777215]:Array Value).extract (Int.toNat 2*Tryz.prog.types[81].size) (Int.toNat 2*Tryz.prog.types[81].size+Tryz.prog.types[81].size)=#[.int .i64 c,.int .i64 65535]:=by rw [sz_limit];rfl
   have hp:inr m 255=true∧inr k 15=true:=by first | trivial | simpa using hall
   have HP:=lh hp
   clear hall hp
   cases t:inr c 65535
   ·have hr:=lh (show pok m k c i q g a=false from by simp [pok,t])
    have u:=inr_no t
    clear t
    by_cases u0:0≤c
    ·have u1:¬ c≤65535:=by omega
     clear u
     go_wp2_with fail
     rename_i hK
     refine hK _ _ ?_
     rw [hx]
     go_wp2_with fail
     go_ret
     exact ⟨by rw [hr.out];rfl,HW.out.alloc HS.out _⟩
    ·clear u
     go_wp2_with fail
     rename_i hK
     refine hK _ _ ?_
     rw [hx]
     go_wp2_with fail
     go_ret
     exact ⟨by rw [hr.out];rfl,HW.out.alloc HS.out _⟩
   ·have ht:=lh t
    have u0:=(inr_yes t).1
    have u1:=(inr_yes t).2
    clear t
    go_wp2_with fail
    rename_i hK
    refine hK _ _ ?_
    rw [hx]
    go_wp2_with fail
    go_roundw
    case rel=>exact ⟨3,by omega,by go_num,HW.out.alloc HS.out _,by have:=HP.out;simp [this,ht.out]⟩
    case measure=>simp [intOf]
  | 3,_=>
   have hx:(#[.int .i64 m,.int .i64 255,.int .i64 k,.int .i64 15,.int .i64 c,.int .i64 65535,.int .i64 i,.int .i64 3,.int .i64 q,.int .i64 3,.int .i64 g,.int .i64 15,.int .i64 a,.int .i64 16777215]:Array Value).extract (Int.toNat 3*Tryz.prog.types[81].size) (Int.toNat 3*Tryz.prog.types[81].size+Tryz.prog.types[81].size)=#[.int .i64 i,.int .i64 3]:=by rw [sz_limit];rfl
   have hp:inr m 255=true∧inr k 15=true∧inr c 65535=true:=by first | trivial | simpa using hall
   have HP:=lh hp
   clear hall hp
   cases t:inr i 3
   ·have hr:=lh (show pok m k c i q g a=false from by simp [pok,t])
    have u:=inr_no t
    clear t
    by_cases u0:0≤i
    ·have u1:¬ i≤3:=by omega
     clear u
     go_wp2_with fail
     rename_i hK
     refine hK _ _ ?_
     rw [hx]
     go_wp2_with fail
     go_ret
     exact ⟨by rw [hr.out];rfl,HW.out.alloc HS.out _⟩
    ·clear u
     go_wp2_with fail
     rename_i hK
     refine hK _ _ ?_
     rw [hx]
     go_wp2_with fail
     go_ret
     exact ⟨by rw [hr.out];rfl,HW.out.alloc HS.out _⟩
   ·have ht:=lh t
    have u0:=(inr_yes t).1
    have u1:=(inr_yes t).2
    clear t
    go_wp2_with fail
    rename_i hK
    refine hK _ _ ?_
    rw [hx]
    go_wp2_with fail
    go_roundw
    case rel=>exact ⟨4,by omega,by go_num,HW.out.alloc HS.out _,by have:=HP.out;simp [this,ht.out]⟩
    case measure=>simp [intOf]
  | 4,_=>
   have hx:(#[.int .i64 m,.int .i64 255,.int .i64 k,.int .i64 15,.int .i64 c,.int .i64 65535,.int .i64 i,.int .i64 3,.int .i64 q,.int .i64 3,.int .i64 g,.int .i64 15,.int .i64 a,.int .i64 16777215]:Array Value).extract (Int.toNat 4*Tryz.prog.types[81].size) (Int.toNat 4*Tryz.prog.types[81].size+Tryz.prog.types[81].size)=#[.int .i64 q,.int .i64 3]:=by rw [sz_limit];rfl
   have hp:inr m 255=true∧inr k 15=true∧inr c 65535=true∧inr i 3=true:=by first | trivial | simpa using hall
   have HP:=lh hp
   clear hall hp
   cases t:inr q 3
   ·have hr:=lh (show pok m k c i q g a=false from by simp [pok,t])
    have u:=inr_no t
    clear t
    by_cases u0:0≤q
    ·have u1:¬ q≤3:=by omega
     clear u
     go_wp2_with fail
     rename_i hK
     refine hK _ _ ?_
     rw [hx]
     go_wp2_with fail
     go_ret
     exact ⟨by rw [hr.out];rfl,HW.out.alloc HS.out _⟩
    ·clear u
     go_wp2_with fail
     rename_i hK
     refine hK _ _ ?_
     rw [hx]
     go_wp2_with fail
     go_ret
     exact ⟨by rw [hr.out];rfl,HW.out.alloc HS.out _⟩
   ·have ht:=lh t
    have u0:=(inr_yes t).1
    have u1:=(inr_yes t).2
    clear t
    go_wp2_with fail
    rename_i hK
    refine hK _ _ ?_
    rw [hx]
    go_wp2_with fail
    go_roundw
    case rel=>exact ⟨5,by omega,by go_num,HW.out.alloc HS.out _,by have:=HP.out;simp [this,ht.out]⟩
    case measure=>simp [intOf]
  | 5,_=>
   have hx:(#[.int .i64 m,.int .i64 255,.int .i64 k,.int .i64 15,.int .i64 c,.int .i64 65535,.int .i64 i,.int .i64 3,.int .i64 q,.int .i64 3,.int .i64 g,.int .i64 15,.int .i64 a,.int .i64 16777215]:Array Value).extract (Int.toNat 5*Tryz.prog.types[81].size) (Int.toNat 5*Tryz.prog.types[81].size+Tryz.prog.types[81].size)=#[.int .i64 g,.int .i64 15]:=by rw [sz_limit];rfl
   have hp:inr m 255=true∧inr k 15=true∧inr c 65535=true∧inr i 3=true∧inr q 3=true:=by first | trivial | simpa using hall
   have HP:=lh hp
   clear hall hp
   cases t:inr g 15
   ·have hr:=lh (show pok m k c i q g a=false from by simp [pok,t])
    have u:=inr_no t
    clear t
    by_cases u0:0≤g
    ·have u1:¬ g≤15:=by omega
     clear u
     go_wp2_with fail
     rename_i hK
     refine hK _ _ ?_
     rw [hx]
     go_wp2_with fail
     go_ret
     exact ⟨by rw [hr.out];rfl,HW.out.alloc HS.out _⟩
    ·clear u
     go_wp2_with fail
     rename_i hK
     refine hK _ _ ?_
     rw [hx]
     go_wp2_with fail
     go_ret
     exact ⟨by rw [hr.out];rfl,HW.out.alloc HS.out _⟩
   ·have ht:=lh t
    have u0:=(inr_yes t).1
    have u1:=(inr_yes t).2
    clear t
    go_wp2_with fail
    rename_i hK
    refine hK _ _ ?_
    rw [hx]
    go_wp2_with fail
    go_roundw
    case rel=>exact ⟨6,by omega,by go_num,HW.out.alloc HS.out _,by have:=HP.out;simp [this,ht.out]⟩
    case measure=>simp [intOf]
  | 6,_=>
   have hx:(#[.int .i64 m,.int .i64 255,.int .i64 k,.int .i64 15,.int .i64 c,.int .i64 65535,.int .i64 i,.int .i64 3,.int .i64 q,.int .i64 3,.int .i64 g,.int .i64 15,.int .i64 a,.int .i64 16777215]:Array Value).extract (Int.toNat 6*Tryz.prog.types[81].size) (Int.toNat 6*Tryz.prog.types[81].size+Tryz.prog.types[81].size)=#[.int .i64 a,.int .i64 16777215]:=by rw [sz_limit];rfl
   have hp:inr m 255=true∧inr k 15=true∧inr c 65535=true∧inr i 3=true∧inr q 3=true∧inr g 15=true:=by first | trivial | simpa using hall
   have HP:=lh hp
   clear hall hp
   cases t:inr a 16777215
   ·have hr:=lh (show pok m k c i q g a=false from by simp [pok,t])
    have u:=inr_no t
    clear t
    by_cases u0:0≤a
    ·have u1:¬ a≤16777215:=by omega
     clear u
     go_wp2_with fail
     rename_i hK
     refine hK _ _ ?_
     rw [hx]
     go_wp2_with fail
     go_ret
     exact ⟨by rw [hr.out];rfl,HW.out.alloc HS.out _⟩
    ·clear u
     go_wp2_with fail
     rename_i hK
     refine hK _ _ ?_
     rw [hx]
     go_wp2_with fail
     go_ret
     exact ⟨by rw [hr.out];rfl,HW.out.alloc HS.out _⟩
   ·have ht:=lh t
    have u0:=(inr_yes t).1
    have u1:=(inr_yes t).2
    clear t
    go_wp2_with fail
    rename_i hK
    refine hK _ _ ?_
    rw [hx]
    go_wp2_with fail
    go_roundw
    case rel=>exact ⟨7,by omega,by go_num,HW.out.alloc HS.out _,by have:=HP.out;simp [this,ht.out]⟩
    case measure=>simp [intOf]
  | 7,_=>
   have hr:=lh (show pok m k c i q g a=true from by simpa [pok] using hall)
   clear hall
   go_wp2_with fail
   go_ret
   exact ⟨by rw [hr.out];rfl,HW.out⟩
def Bk (W:World) (g:Nat) (T:TypeId) (cs:List Value):Prop:=W.heap[g]?=some (.cells cs.toArray T (0,0))
section
variable {W W':World} {g:Nat} {T:TypeId} {cs:List Value}
theorem Bk.cell (h:Bk W g T cs) {c:Nat} {v:Value} (hc:cs[c]?=some v):W.cell? ⟨g,c,none⟩=some v:=by rw [cell_blk h c];simpa using hc
theorem Bk.free (h:Bk W g T cs) (c:Nat):W.frozen? ⟨g,c,none⟩=false:=by unfold Bk at h;simp [World.frozen?,h]
theorem Bk.lt (h:Bk W g T cs):g<W.heap.size:=(Array.getElem?_eq_some_iff.1 h).1
theorem Bk.kept (h:Bk W g T cs) (hk:W'.heap[g]?=W.heap[g]?):Bk W' g T cs:=hk.trans h
theorem Bk.keep (h:Bk W g T cs) (hb:Below W.heap.size W W'):Bk W' g T cs:=h.kept (hb.block _ h.lt)
theorem Bk.ch {L:List Nat} (h:Bk W g T cs) (hb:Ch W W' L) (hg:g∉L):Bk W' g T cs:=h.kept (hb.block _ h.lt hg)
theorem Bk.alloc (h:Bk W g T cs) (o:Obj):Bk (W.alloc o) g T cs:=h.kept (Below.heap_alloc W o _ h.lt)
theorem Bk.new (W:World) (cs:List Value) (T:TypeId):Bk (W.alloc (.cells cs.toArray T)) W.heap.size T cs:=heap_alloc_new W _
theorem Bk.drewN (h:Bk W g T cs) (n:Nat):Bk (W.drewN n) g T cs:=h
theorem Bk.set_ (h:Bk W g T cs) (c:Nat) (v:Value):Bk (W.setCell ⟨g,c,none⟩ v) g T (cs.set c v):=by
 unfold Bk at h ⊢
 rw [setCell_eq_setRow W g c _ _ (0,0) _ h,setRow_heap W g _ _ _ _ h,List.setIfInBounds_toArray]
theorem Bk.other (h:Bk W g T cs) {p:Addr} (v:Value) (hp:p.block≠g):Bk (W.setCell p v) g T cs:=h.kept (Below.heap_setCell W p v g (Ne.symm hp))
end
structure XF (w W:World) (L:List Nat) (is rs:List Int) (ps nr np:List Value) (en:Value):Prop where
 b0:Bk W w.heap.size 54 (is.map (Value.int .i64))
 b1:Bk W (w.heap.size+1) 25 (rs.map (Value.int .u32))
 b2:Bk W (w.heap.size+1+1) 35 ps
 b3:Bk W (w.heap.size+1+1+1) 25 nr
 b4:Bk W (w.heap.size+1+1+1+1) 35 np
 b5:Bk W (w.heap.size+1+1+1+1+1) 3 [en]
 be:Ch w W L
theorem XF.start (w:World) (L:List Nat) (is rs:List Int) (ps nr np:List Value) (en:Value):XF w ((((((w.alloc (.cells (is.map (Value.int .i64)).toArray 54)).alloc (.cells (rs.map (Value.int .u32)).toArray 25)).alloc (.cells ps.toArray 35)).alloc (.cells nr.toArray 25)).alloc (.cells np.toArray 35)).alloc (.cells [en].toArray 3)) L is rs ps nr np en:=by
 refine ⟨?_,?_,?_,?_,?_,?_,?_⟩
 ·exact (((((Bk.new w _ _).alloc _).alloc _).alloc _).alloc _).alloc _
 ·have:=Bk.new (w.alloc (.cells (is.map (Value.int .i64)).toArray 54)) (rs.map (Value.int .u32)) 25
  rw [World.size_alloc] at this
  exact (((this.alloc _).alloc _).alloc _).alloc _
 ·have:=Bk.new ((w.alloc (.cells (is.map (Value.int .i64)).toArray 54)).alloc (.cells (rs.map (Value.int .u32)).toArray 25)) ps 35
  rw [World.size_alloc,World.size_alloc] at this
  exact ((this.alloc _).alloc _).alloc _
 ·have:=Bk.new (((w.alloc (.cells (is.map (Value.int .i64)).toArray 54)).alloc (.cells (rs.map (Value.int .u32)).toArray 25)).alloc (.cells ps.toArray 35)) nr 25
  rw [World.size_alloc,World.size_alloc,World.size_alloc] at this
  exact (this.alloc _).alloc _
 ·have:=Bk.new ((((w.alloc (.cells (is.map (Value.int .i64)).toArray 54)).alloc (.cells (rs.map (Value.int .u32)).toArray 25)).alloc (.cells ps.toArray 35)).alloc (.cells nr.toArray 25)) np 35
  rw [World.size_alloc,World.size_alloc,World.size_alloc,World.size_alloc] at this
  exact this.alloc _
 ·have:=Bk.new (((((w.alloc (.cells (is.map (Value.int .i64)).toArray 54)).alloc (.cells (rs.map (Value.int .u32)).toArray 25)).alloc (.cells ps.toArray 35)).alloc (.cells nr.toArray 25)).alloc (.cells np.toArray 35)) [en] 3
  rw [World.size_alloc,World.size_alloc,World.size_alloc,World.size_alloc,World.size_alloc] at this
  exact this
 ·exact ((((((Ch.refl w L).alloc _).alloc _).alloc _).alloc _).alloc _).alloc _
section
variable {w W W':World} {L:List Nat} {is rs:List Int} {ps nr np:List Value} {en:Value}
theorem XF.keep (h:XF w W L is rs ps nr np en) (hb:Below W.heap.size W W'):XF w W' L is rs ps nr np en:=⟨h.b0.keep hb,h.b1.keep hb,h.b2.keep hb,h.b3.keep hb,h.b4.keep hb,h.b5.keep hb,h.be.trans (Ch.of_below hb L)⟩
theorem XF.drewN (h:XF w W L is rs ps nr np en) (n:Nat):XF w (W.drewN n) L is rs ps nr np en:=⟨h.b0,h.b1,h.b2,h.b3,h.b4,h.b5,h.be.drewN n⟩
theorem XF.ch {g:Nat} (h:XF w W [] is rs ps nr np en) (hc:Ch W W' (g :: L)) (hL:∀k,k∈L→k<w.heap.size) (hg:w.heap.size+6≤g):XF w W' L is rs ps nr np en:=by
 have hn:∀k,w.heap.size≤k→k<w.heap.size+6→k∉g :: L:=fun k h1 h2 hk=>by
  rcases List.mem_cons.mp hk with hk | hk
  ·omega
  ·have:=hL k hk;omega
 exact ⟨h.b0.ch hc (hn _ (by omega) (by omega)),h.b1.ch hc (hn _ (by omega) (by omega)),h.b2.ch hc (hn _ (by omega) (by omega)),h.b3.ch hc (hn _ (by omega) (by omega)),h.b4.ch hc (hn _ (by omega) (by omega)),h.b5.ch hc (hn _ (by omega) (by omega)),⟨hc.os.trans h.be.os,hc.tape.trans h.be.tape,hc.output.trans h.be.output,Nat.le_trans h.be.size hc.size,fun k hk hkL=>(hc.block k (Nat.lt_of_lt_of_le hk h.be.size) (fun hm=>by rcases List.mem_cons.mp hm with hm | hm;(· omega);(· exact hkL hm))).trans (h.be.block k hk (by simp))⟩⟩
end
theorem res_cells3 {P:Program} {fn:Func} {p q r:Tmp} {tp tq tr:TypeId} (h:fn.results=#[.cell p tp,.cell q tq,.cell r tr]) (tmps:Array Value) (w:World) (g g' g'':Nat) (cs cs':List Value) (v:Value) {T T' T'':TypeId} {d d':TypeDesc}
  (hp:tmps.getD p undef=.pointer (some ⟨g,0,none⟩)) (hq:tmps.getD q undef=.pointer (some ⟨g',0,none⟩)) (hr:tmps.getD r undef=.pointer (some ⟨g'',0,none⟩)) (hg:Bk w g T cs) (hg':Bk w g' T' cs') (hg'':Bk w g'' T'' [v])
  (hu:P.underlying tp=some d) (hd:(match d with | .struct _ | .array _ _=>true | _=>false)=true) (hi:(P.info? tp).map (·.size)=some cs.length)
  (hu':P.underlying tq=some d') (hd':(match d' with | .struct _ | .array _ _=>true | _=>false)=true) (hi':(P.info? tq).map (·.size)=some cs'.length)
  (hv:(loadVar tr ⟨g'',0,none⟩).run P w=.ok v w) :
  (results fn tmps).run P w=.ok (.tuple #[.agg cs.toArray,.agg cs'.toArray,v]) w:=by
 have hp':tmps[p]?.getD undef=.pointer (some ⟨g,0,none⟩):=by simpa using hp
 have hq':tmps[q]?.getD undef=.pointer (some ⟨g',0,none⟩):=by simpa using hq
 have hr':tmps[r]?.getD undef=.pointer (some ⟨g'',0,none⟩):=by simpa using hr
 simp [results,h,hp',hq',hr',asAddr,run_loadVar_row w g T tp cs.toArray (0,0) d hg hu hd (by simpa using hi),run_loadVar_row w g' T' tq cs'.toArray (0,0) d' hg' hu' hd' (by simpa using hi'),hv]
theorem dBelow {B:Nat} {a w:World} (h:Below B a w) (n:Nat):Below B a (w.drewN n):=⟨h.os,h.tape,h.output,h.size,h.block⟩
def sIn (N:Nat) (addr n:Int):Bool:=decide (0≤addr∧0≤n∧addr≤(N:Int)∧n≤(N:Int) - addr)
theorem sIn_yes {N:Nat} {addr n:Int} (h:sIn N addr n=true):0≤addr∧0≤n∧addr≤(N:Int)∧n≤(N:Int) - addr:=by simpa [sIn] using h
def alP (key k:Int):Bool:=decide (key=0∨key=k / 2)
def alF (key k:Int):Bool:=decide (key=0∨key=k / 2∨k % 2=0)
def okB (al:Int→Bool) (ks:List Int) (a n:Nat):Bool:=(List.range n).all fun j=>al (ks.getD ((a+j) / 2048) 0)
def sCode (al:Int→Bool) (N:Nat) (ks:List Int) (addr n:Int):Int:=if sIn N addr n=true then (if okB al ks addr.toNat n.toNat=true then 0 else 4) else 5
def sGet (bs:List Int) (addr n:Int):List Int:=if sIn bs.length addr n=true then (bs.drop addr.toNat).take n.toNat else []
def sAt (N:Nat) (addr:Int):Bool:=decide (0≤addr∧addr<(N:Int))
def Rw (w:World) (g:Nat) (e:TypeId) (c:Nat) (vs:List Value):Prop:=
 ∃cur:List Value,w.heap[g]?=some (.cells cur.toArray e (0,0))∧cur.length=c∧cur.take vs.length=vs∧c≤maxLen
section
variable {w w':World} {g c:Nat} {e:TypeId} {vs:List Value}
theorem Rw.lt (h:Rw w g e c vs):g<w.heap.size:=by obtain ⟨cur,h1,_⟩:=h;exact (Array.getElem?_eq_some_iff.1 h1).1
theorem Rw.len (h:Rw w g e c vs):vs.length≤c:=by
 obtain ⟨cur,_,h2,h3,_⟩:=h
 have:=congrArg List.length h3
 rw [List.length_take] at this;omega
theorem Rw.cell (h:Rw w g e c vs) {i:Nat} (hi:i<vs.length):w.cell? ⟨g,i,none⟩=some vs[i]:=by
 obtain ⟨cur,h1,h2,h3,_⟩:=h
 have e1:cur[i]?=some vs[i]:=by
  have h4:(cur.take vs.length)[i]?=some vs[i]:=by rw [h3];exact List.getElem?_eq_getElem hi
  rwa [List.getElem?_take,if_pos hi] at h4
 simp [World.cell?,h1,e1]
theorem Rw.free (h:Rw w g e c vs) (i:Nat):w.frozen? ⟨g,i,none⟩=false:=by obtain ⟨cur,h1,_⟩:=h;simp [World.frozen?,h1]
theorem Rw.keep (h:Rw w g e c vs) (hk:w'.heap[g]?=w.heap[g]?):Rw w' g e c vs:=by obtain ⟨cur,h1,h2⟩:=h;exact ⟨cur,hk.trans h1,h2⟩
theorem Rw.set_ (h:Rw w g e c vs) {i:Nat} (v:Value):Rw (w.setCell ⟨g,i,none⟩ v) g e c (vs.set i v):=by
 obtain ⟨cur,h1,h2,h3,h4⟩:=h
 refine ⟨cur.set i v,?_,by simpa using h2,by rw [List.length_set,List.take_set,h3],h4⟩
 rw [setCell_eq_setRow w g i cur.toArray e (0,0) _ h1,setRow_heap w g _ _ _ _ h1]
 simp
theorem Rw.ne {g' c':Nat} {e':TypeId} {vs':List Value} (h:Rw w g e c vs) (h':Rw w g' e' c' vs') (he:e≠e'):g≠g':=by
 rintro rfl
 obtain ⟨cur,h1,_⟩:=h
 obtain ⟨cur',h1',_⟩:=h'
 rw [h1] at h1'
 injection h1' with h1'
 injection h1' with _ ht
 exact he ht
theorem Rw.ne_blk {g':Nat} {e':TypeId} {C:Array Value} (h:Rw w g e c vs) (h':w.heap[g']?=some (.cells C e' (0,0))) (he:e≠e'):g≠g':=by
 rintro rfl
 obtain ⟨cur,h1,_⟩:=h
 rw [h1] at h'
 injection h' with h'
 injection h' with _ ht
 exact he ht
theorem Rw.new (w:World) (C:Array Value) (e:TypeId) (vs:List Value) (hC:C.toList=vs) (hm:vs.length≤maxLen):Rw (w.alloc (.cells C e)) w.heap.size e vs.length vs:=by
 refine ⟨C.toList,?_,by rw [hC],by rw [hC,List.take_length],hm⟩
 have:=heap_alloc_new w (.cells C e)
 simpa using this
theorem Rw.lay (h:Rw w g e c vs) (k:Nat) (us:List Value) (hk:k+us.length≤vs.length):∃cur:List Value,w.heap[g]?=some (.cells cur.toArray e (0,0))∧cur.length=c ∧
  Rw (w.setRow g (splice cur k us).toArray) g e c (splice vs k us):=by
 obtain ⟨cur,h1,h2,h3,h4⟩:=h
 have hl:vs.length≤cur.length:=by have:=congrArg List.length h3;rw [List.length_take] at this;omega
 refine ⟨cur,h1,h2,splice cur k us,setRow_heap w g _ _ _ _ h1,?_,?_,h4⟩
 ·rw [length_splice _ _ _ (by omega),h2]
 ·rw [length_splice _ _ _ hk,take_splice _ _ _ _ hk hl,h3]
end
structure Foot where
 g:Nat
 gb:Nat
 gk:Nat
 cb:Nat
 ck:Nat
structure St (T:TypeId) (w:World) (F:Foot) (bs ks:List Int):Prop where
 hd:w.heap[F.g]?=some (.cells #[.slice (some ⟨F.gb,0,none⟩) bs.length F.cb,.slice (some ⟨F.gk,0,none⟩) ks.length F.ck] T (0,0))
 b:Rw w F.gb 5 F.cb (bs.map (Value.int .u8))
 k:Rw w F.gk 3 F.ck (ks.map (Value.int .i64))
 rb:∀z∈bs,0≤z∧z≤255
 rk:∀z∈ks,0≤z∧z≤31
 ln:bs.length=2048*ks.length
 l0:1≤ks.length
 l1:ks.length≤32
section
variable {T T':TypeId} {w w':World} {F F':Foot} {bs ks bs' ks':List Int}
theorem St.ltg (h:St T w F bs ks):F.g<w.heap.size:=(Array.getElem?_eq_some_iff.1 h.hd).1
theorem St.ltb (h:St T w F bs ks):F.gb<w.heap.size:=h.b.lt
theorem St.ltk (h:St T w F bs ks):F.gk<w.heap.size:=h.k.lt
theorem St.keep (h:St T w F bs ks) (h1:w'.heap[F.g]?=w.heap[F.g]?) (h2:w'.heap[F.gb]?=w.heap[F.gb]?) (h3:w'.heap[F.gk]?=w.heap[F.gk]?):St T w' F bs ks:=
 ⟨h1.trans h.hd,h.b.keep h2,h.k.keep h3,h.rb,h.rk,h.ln,h.l0,h.l1⟩
theorem St.below {B:Nat} (h:St T w F bs ks) (hb:Below B w w') (h1:F.g<B) (h2:F.gb<B) (h3:F.gk<B):St T w' F bs ks:=h.keep (hb.block _ h1) (hb.block _ h2) (hb.block _ h3)
theorem St.belowS (h:St T w F bs ks) (hb:Below w.heap.size w w'):St T w' F bs ks:=h.below hb h.ltg h.ltb h.ltk
theorem St.drewN (h:St T w F bs ks) (n:Nat):St T (w.drewN n) F bs ks:=h.keep rfl rfl rfl
theorem St.alloc (h:St T w F bs ks) (o:Obj):St T (w.alloc o) F bs ks:=h.keep (Below.heap_alloc w o _ h.ltg) (Below.heap_alloc w o _ h.ltb) (Below.heap_alloc w o _ h.ltk)
theorem St.grown {row:Option Nat} (h:St T w F bs ks) (hb:w.grownBy w' row) (h1:some F.g≠row) (h2:some F.gb≠row) (h3:some F.gk≠row):St T w' F bs ks:=
 h.keep (hb.block _ h.ltg h1) (hb.block _ h.ltb h2) (hb.block _ h.ltk h3)
theorem St.cell0 (h:St T w F bs ks):w.cell? ⟨F.g,0,none⟩=some (.slice (some ⟨F.gb,0,none⟩) bs.length F.cb):=cell_blk h.hd 0
theorem St.cell1 (h:St T w F bs ks):w.cell? ⟨F.g,1,none⟩=some (.slice (some ⟨F.gk,0,none⟩) ks.length F.ck):=cell_blk h.hd 1
theorem St.byte (h:St T w F bs ks) {i:Nat} (hi:i<bs.length):w.cell? ⟨F.gb,i,none⟩=some (.int .u8 (bs.getD i 0)):=by
 rw [h.b.cell (by simpa using hi)];simp [List.getD_eq_getElem?_getD,hi]
theorem St.key (h:St T w F bs ks) {i:Nat} (hi:i<ks.length):w.cell? ⟨F.gk,i,none⟩=some (.int .i64 (ks.getD i 0)):=by
 rw [h.k.cell (by simpa using hi)];simp [List.getD_eq_getElem?_getD,hi]
theorem St.keyr (h:St T w F bs ks) (i:Nat):0≤ks.getD i 0∧ks.getD i 0≤31:=by
 rw [List.getD_eq_getElem?_getD]
 rcases Nat.lt_or_ge i ks.length with hi | hi
 ·rw [List.getElem?_eq_getElem hi];exact h.rk _ (List.getElem_mem hi)
 ·rw [List.getElem?_eq_none hi];simp
theorem St.capb (h:St T w F bs ks):bs.length≤F.cb:=by have:=h.b.len;simpa using this
theorem St.capk (h:St T w F bs ks):ks.length≤F.ck:=by have:=h.k.len;simpa using this
theorem St.maxb (h:St T w F bs ks):F.cb≤maxLen:=by obtain ⟨cur,_,_,_,h4⟩:=h.b;exact h4
theorem St.byt (h:St T w F bs ks) {a n:Nat} (hn:a+n≤bs.length):Byt w (some ⟨F.gb,a,none⟩) n ((bs.drop a).take n):=by
 refine ⟨by rw [List.length_take,List.length_drop];omega,fun z hz=>h.rb z (List.mem_of_mem_drop (List.mem_of_mem_take hz)),fun _=>⟨F.gb,a,rfl,fun i hi=>?_⟩⟩
 rw [h.byte (by omega)]
 simp [List.getD_eq_getElem?_getD,hi]
theorem St.nbk (h:St T w F bs ks):F.gb≠F.gk:=h.b.ne h.k (by decide)
theorem St.ngb (h:St T w F bs ks) (hT:T≠5):F.gb≠F.g:=h.b.ne_blk h.hd (Ne.symm hT)
theorem St.ngk (h:St T w F bs ks) (hT:T≠3):F.gk≠F.g:=h.k.ne_blk h.hd (Ne.symm hT)
theorem St.setKey (h:St T w F bs ks) (hT:T≠3) {i:Nat} {v:Int} (hv:0≤v∧v≤31):St T (w.setCell ⟨F.gk,i,none⟩ (.int .i64 v)) F bs (ks.set i v):=by
 refine ⟨?_,?_,?_,h.rb,?_,by rw [List.length_set];exact h.ln,by rw [List.length_set];exact h.l0,by rw [List.length_set];exact h.l1⟩
 ·rw [List.length_set];exact (Below.heap_setCell _ _ _ _ (Ne.symm (h.ngk hT))).trans h.hd
 ·exact h.b.keep (Below.heap_setCell _ _ _ _ h.nbk)
 ·rw [List.map_set];exact h.k.set_ _
 ·intro z hz
  rcases List.mem_or_eq_of_mem_set hz with hz | rfl
  ·exact h.rk z hz
  ·exact hv
theorem St.setByte (h:St T w F bs ks) (hT:T≠5) {i:Nat} {v:Int} (hv:0≤v∧v≤255):St T (w.setCell ⟨F.gb,i,none⟩ (.int .u8 v)) F (bs.set i v) ks:=by
 refine ⟨?_,?_,?_,?_,h.rk,by rw [List.length_set];exact h.ln,h.l0,h.l1⟩
 ·rw [List.length_set];exact (Below.heap_setCell _ _ _ _ (Ne.symm (h.ngb hT))).trans h.hd
 ·rw [List.map_set];exact h.b.set_ _
 ·exact h.k.keep (Below.heap_setCell _ _ _ _ (Ne.symm h.nbk))
 ·intro z hz
  rcases List.mem_or_eq_of_mem_set hz with hz | rfl
  ·exact h.rb z hz
  ·exact hv
theorem St.lay (h:St T w F bs ks) (hT:T≠5) (k:Nat) (ys:List Int) (hy:∀z∈ys,0≤z∧z≤255) (hk:k+ys.length≤bs.length) :
  ∃cur:List Value,w.heap[F.gb]?=some (.cells cur.toArray 5 (0,0))∧cur.length=F.cb∧St T (w.setRow F.gb (splice cur k (ys.map (Value.int .u8))).toArray) F (splice bs k ys) ks:=by
 obtain ⟨cur,h1,h2,h3⟩:=h.b.lay k (ys.map (Value.int .u8)) (by simpa using hk)
 refine ⟨cur,h1,h2,?_,?_,?_,splice_range _ _ _ h.rb hy,h.rk,by rw [length_splice _ _ _ hk];exact h.ln,h.l0,h.l1⟩
 ·rw [length_splice _ _ _ hk];exact (setRow_other _ _ _ _ (Ne.symm (h.ngb hT))).trans h.hd
 ·rw [← splice_map];exact h3
 ·exact h.k.keep (setRow_other _ _ _ _ (Ne.symm h.nbk))
end
theorem grown_setRow (w:World) (g:Nat) (cs:Array Value):w.grownBy (w.setRow g cs) (some g):=⟨rfl,rfl,rfl,by simp [World.setRow],fun k _ hk=>setRow_other w g k cs (fun e=>hk (by rw [e]))⟩
theorem grown_setCell (w:World) (g i:Nat) (v:Value):w.grownBy (w.setCell ⟨g,i,none⟩ v) (some g):=⟨rfl,rfl,rfl,by simp [World.setCell],fun k _ hk=>Below.heap_setCell w _ v k (fun e=>hk (by rw [e]))⟩
theorem grown_of_below {a w:World} (h:Below a.heap.size a w) (row:Option Nat):a.grownBy w row:=⟨h.os,h.tape,h.output,h.size,fun i hi _=>h.block i hi⟩
theorem grown_trans {a b c:World} {row:Option Nat} (h:a.grownBy b row) (k:b.grownBy c row):a.grownBy c row:=
 ⟨k.os.trans h.os,k.tape.trans h.tape,k.output.trans h.output,Nat.le_trans h.size k.size,fun i hi hne=>(k.block i (Nat.lt_of_lt_of_le hi h.size) hne).trans (h.block i hi hne)⟩
theorem below_of_grown {B:Nat} {a b c:World} {g:Nat} (h:Below B a b) (k:b.grownBy c (some g)) (hB:B≤a.heap.size) (hg:B≤g):Below B a c:=
 h.grown k (Nat.le_trans hB h.size) (by intro j hj;injection hj with hj;omega)
theorem in_c {F:Foot} {bs ks:List Int} (w:World) (h:St 63 w F bs ks) (addr n:Int):Calls Tryz.prog 28 #[.pointer (some ⟨F.g,0,none⟩),.int .i64 addr,.int .i64 n] w fun e w'=>e=.returned (.bool (sIn bs.length addr n))∧w=w':=by
 obtain ⟨N,hN⟩:∃N,bs.length=N:=⟨_,rfl⟩
 obtain ⟨m,hm⟩:∃m,ks.length=m:=⟨_,rfl⟩
 have c0:=h.cell0
 have c1:=h.cell1
 have H:=lh h
 have ln:=h.ln
 have l0:=h.l0
 have l1:=h.l1
 rw [hN] at c0 ln ⊢
 rw [hm] at c1 ln l0 l1
 have HN:=lh hN
 have HM:=lh hm
 have n0:(2048:Int)≤(N:Int):=by omega
 have n1:(N:Int)≤65536:=by omega
 have m0:(1:Int)≤(m:Int):=by omega
 have m1:(m:Int)≤32:=by omega
 have LN:=lh ln
 clear hN hm h ln l0 l1
 by_cases b1:0≤addr
 case neg=>
  have hr:=lh (show sIn N addr n=false from by simp [sIn];omega)
  go_enter Tryz.func28,Tryz.ntmps28
  go_wp2
  go_ret
  exact ⟨by rw [hr.out];rfl,rfl⟩
 by_cases b1:0≤n
 case neg=>
  have hr:=lh (show sIn N addr n=false from by simp [sIn];omega)
  go_enter Tryz.func28,Tryz.ntmps28
  go_wp2
  go_ret
  exact ⟨by rw [hr.out];rfl,rfl⟩
 by_cases b1:addr≤(N:Int)
 case neg=>
  have hr:=lh (show sIn N addr n=false from by simp [sIn];omega)
  go_enter Tryz.func28,Tryz.ntmps28
  go_wp2
  go_ret
  exact ⟨by rw [hr.out];rfl,rfl⟩
 by_cases b1:n≤(N:Int) - addr
 case neg=>
  have hr:=lh (show sIn N addr n=false from by simp [sIn];omega)
  go_enter Tryz.func28,Tryz.ntmps28
  go_wp2
  go_ret
  exact ⟨by rw [hr.out];rfl,rfl⟩
 have hr:=lh (show sIn N addr n=true from by simp [sIn];omega)
 go_enter Tryz.func28,Tryz.ntmps28
 go_wp2
 go_ret
 exact ⟨by rw [hr.out];rfl,rfl⟩
def sKV (N:Nat) (ks:List Int) (addr:Int):Int:=if sAt N addr=true then ks.getD (addr / 2048).toNat 0 else 0
theorem keyof_c {F:Foot} {bs ks:List Int} (w:World) (h:St 63 w F bs ks) (addr:Int):Calls Tryz.prog 15 #[.pointer (some ⟨F.g,0,none⟩),.int .i64 addr] w fun e w'=>e=.returned (.tuple #[.int .i64 (sKV bs.length ks addr),.bool (sAt bs.length addr)])∧w=w':=by
 obtain ⟨N,hN⟩:∃N,bs.length=N:=⟨_,rfl⟩
 obtain ⟨m,hm⟩:∃m,ks.length=m:=⟨_,rfl⟩
 have c0:=h.cell0
 have c1:=h.cell1
 have H:=lh h
 have ln:=h.ln
 have l0:=h.l0
 have l1:=h.l1
 rw [hN] at c0 ln ⊢
 rw [hm] at c1 ln l0 l1
 have HN:=lh hN
 have HM:=lh hm
 have n0:(2048:Int)≤(N:Int):=by omega
 have n1:(N:Int)≤65536:=by omega
 have m0:(1:Int)≤(m:Int):=by omega
 have m1:(m:Int)≤32:=by omega
 have LN:=lh ln
 clear hN hm h ln l0 l1
 by_cases b1:0≤addr
 case neg=>
  have hr:=lh (show sAt N addr=false from by simp [sAt];omega)
  go_enter Tryz.func15,Tryz.ntmps15
  go_wp2
  go_ret2
  exact ⟨by unfold sKV;rw [hr.out];rfl,rfl⟩
 by_cases b2:addr<(N:Int)
 case neg=>
  have hr:=lh (show sAt N addr=false from by simp [sAt];omega)
  go_enter Tryz.func15,Tryz.ntmps15
  go_wp2
  go_ret2
  exact ⟨by unfold sKV;rw [hr.out];rfl,rfl⟩
 have hr:=lh (show sAt N addr=true from by simp [sAt];omega)
 have i0:0≤addr / 2048:=by omega
 have i1:addr / 2048<(m:Int):=by have:=LN.out;omega
 have ck:=H.out.key (i:=(addr / 2048).toNat) (by rw [HM.out];omega)
 obtain ⟨kv,hk⟩:∃kv,ks.getD (addr / 2048).toNat 0=kv:=⟨_,rfl⟩
 rw [hk] at ck
 have HK:=lh hk
 clear hk
 go_enter Tryz.func15,Tryz.ntmps15
 go_wp2
 go_ret2
 exact ⟨by unfold sKV;rw [hr.out,if_pos rfl,HK.out];rfl,rfl⟩
def sKey (k:Int):Bool:=decide (0≤k∧k≤31)
def sSet (N:Nat) (ks:List Int) (addr key:Int):List Int:=if (sAt N addr && sKey key)=true then ks.set (addr / 2048).toNat key else ks
theorem setkey_c {F:Foot} {bs ks:List Int} (w:World) (h:St 63 w F bs ks) (addr key:Int):Calls Tryz.prog 10 #[.pointer (some ⟨F.g,0,none⟩),.int .i64 addr,.int .i64 key] w fun e w'=>e=.returned (.bool (sAt bs.length addr && sKey key))∧St 63 w' F bs (sSet bs.length ks addr key)∧w.grownBy w' (some F.gk):=by
 obtain ⟨N,hN⟩:∃N,bs.length=N:=⟨_,rfl⟩
 obtain ⟨m,hm⟩:∃m,ks.length=m:=⟨_,rfl⟩
 have c0:=h.cell0
 have c1:=h.cell1
 have H:=lh h
 have ln:=h.ln
 have l0:=h.l0
 have l1:=h.l1
 rw [hN] at c0 ln ⊢
 rw [hm] at c1 ln l0 l1
 have HN:=lh hN
 have HM:=lh hm
 have n0:(2048:Int)≤(N:Int):=by omega
 have n1:(N:Int)≤65536:=by omega
 have m0:(1:Int)≤(m:Int):=by omega
 have m1:(m:Int)≤32:=by omega
 have LN:=lh ln
 clear hN hm h ln l0 l1
 by_cases b1:0≤addr
 case neg=>
  have hr:=lh (show (sAt N addr && sKey key)=false from by simp [sAt,sKey];omega)
  go_enter Tryz.func10,Tryz.ntmps10
  go_wp2
  go_ret
  exact ⟨by rw [hr.out];rfl,by unfold sSet;rw [hr.out];exact H.out,World.grownBy.refl w _⟩
 by_cases b2:addr<(N:Int)
 case neg=>
  have hr:=lh (show (sAt N addr && sKey key)=false from by simp [sAt,sKey];omega)
  go_enter Tryz.func10,Tryz.ntmps10
  go_wp2
  go_ret
  exact ⟨by rw [hr.out];rfl,by unfold sSet;rw [hr.out];exact H.out,World.grownBy.refl w _⟩
 by_cases b3:0≤key
 case neg=>
  have hr:=lh (show (sAt N addr && sKey key)=false from by simp [sAt,sKey];omega)
  go_enter Tryz.func10,Tryz.ntmps10
  go_wp2
  go_ret
  exact ⟨by rw [hr.out];rfl,by unfold sSet;rw [hr.out];exact H.out,World.grownBy.refl w _⟩
 by_cases b4:key≤31
 case neg=>
  have hr:=lh (show (sAt N addr && sKey key)=false from by simp [sAt,sKey];omega)
  go_enter Tryz.func10,Tryz.ntmps10
  go_wp2
  go_ret
  exact ⟨by rw [hr.out];rfl,by unfold sSet;rw [hr.out];exact H.out,World.grownBy.refl w _⟩
 have hr:=lh (show (sAt N addr && sKey key)=true from by simp [sAt,sKey];omega)
 have i0:0≤addr / 2048:=by omega
 have i1:addr / 2048<(m:Int):=by have:=LN.out;omega
 have ck:=H.out.key (i:=(addr / 2048).toNat) (by rw [HM.out];omega)
 obtain ⟨kv,hk⟩:∃kv,ks.getD (addr / 2048).toNat 0=kv:=⟨_,rfl⟩
 rw [hk] at ck
 clear hk
 have fk:=H.out.k.free (addr / 2048).toNat
 go_enter Tryz.func10,Tryz.ntmps10
 go_wp2
 go_ret
 exact ⟨by rw [hr.out];rfl,by unfold sSet;rw [hr.out];exact H.out.setKey (by decide) ⟨b3,b4⟩,grown_setCell _ _ _ _⟩
theorem splice_get {α:Type} (L:List α) (k:Nat) (us:List α) (h:k+us.length≤L.length) (i:Nat):(splice L k us)[i]?=if i<k then L[i]? else if i<k+us.length then us[i - k]? else L[i]?:=by
 unfold splice
 rw [List.getElem?_append]
 rw [List.length_take]
 by_cases h1:i<k
 ·rw [if_pos (by omega),if_pos h1,List.getElem?_take,if_pos h1]
 ·rw [if_neg (by omega),if_neg h1,List.getElem?_append,show min k L.length=k from by omega]
  by_cases h2:i<k+us.length
  ·rw [if_pos (by omega),if_pos h2]
  ·rw [if_neg (by omega),if_neg h2,List.getElem?_drop]
   congr 1;omega
theorem splice_nil {α:Type} (L:List α) (k:Nat):splice L k []=L:=by simp [splice]
theorem splice_all {α:Type} (L us:List α) (h:us.length=L.length):splice L 0 us=us:=by simp [splice,h]
theorem splice_cons {α:Type} (L:List α) (k:Nat) (u:α) (us:List α) (h:k+(us.length+1)≤L.length):splice (L.set k u) (k+1) us=splice L k (u :: us):=by
 apply List.ext_getElem?
 intro i
 rw [splice_get _ _ _ (by simp;omega),splice_get _ _ _ (by simp;omega),List.getElem?_set]
 simp only [List.length_cons]
 by_cases h1:i<k
 ·rw [if_pos (by omega),if_pos h1,if_neg (by omega)]
 ·rw [if_neg h1]
  by_cases h2:i=k
  ·subst h2
   rw [if_pos (by omega),if_pos rfl,if_pos (by omega),if_pos (by omega)]
   simp
  ·rw [if_neg (by omega)]
   by_cases h3:i<k+1+us.length
   ·rw [if_pos h3,if_pos (by omega),show i - k=(i - (k+1))+1 from by omega]
    simp
   ·rw [if_neg h3,if_neg (by omega),if_neg (by omega)]
def zeroB (k:Nat):Array Value:=(List.replicate k (Value.int .u8 0)).toArray
def zeroI (k:Nat):Array Value:=(List.replicate k (Value.int .i64 0)).toArray
theorem info_int:(Tryz.prog.info? 3).map (fun i=>(i.zero,i.size,i.bytes))=some (some (.int .i64 0),1,8):=by kernel_rfl
theorem made_one (z:Value) (n:Nat) (hz:z.cells=#[z]):madeCells z.cells n=(List.replicate n z).toArray:=by
 rw [hz]
 unfold madeCells
 apply Array.ext
 ·simp
 ·intro i h1 h2
  simp [Nat.mod_one]
theorem run_mk_b (k:Nat) (hk:(k:Int)≤1000000) (W:World):(Instr.makeSlice 22 (.int .i64 (k:Int)) (.int .i64 (k:Int))).run Tryz.prog W=.ok (.slice (some ⟨W.heap.size,0,none⟩) k k) (W.alloc (.cells (zeroB k) 5)):=by
 obtain ⟨i0,hi,hz0,hz1,hz2⟩:=info_parts info_u8
 have h:=run_make (P:=Tryz.prog) W 22 5 i0 (.int .u8 0) Tryz.underlying22 hi hz0 .i64 .i64 (k:Int) (k:Int) (by omega) (by omega) (by rw [hz2];omega) (by omega)
 rw [hz1,Nat.mul_one,Int.toNat_natCast,made_one _ _ rfl] at h
 exact h
theorem run_mk_i (k:Nat) (hk:(k:Int)≤1000000) (W:World):(Instr.makeSlice 61 (.int .i64 (k:Int)) (.int .i64 (k:Int))).run Tryz.prog W=.ok (.slice (some ⟨W.heap.size,0,none⟩) k k) (W.alloc (.cells (zeroI k) 3)):=by
 obtain ⟨i0,hi,hz0,hz1,hz2⟩:=info_parts info_int
 have h:=run_make (P:=Tryz.prog) W 61 3 i0 (.int .i64 0) Tryz.underlying61 hi hz0 .i64 .i64 (k:Int) (k:Int) (by omega) (by omega) (by rw [hz2];omega) (by omega)
 rw [hz1,Nat.mul_one,Int.toNat_natCast,made_one _ _ rfl] at h
 exact h
theorem own_zeros (W:World) (k base:Nat) (hb:base≤W.heap.size) (hk:k≤maxLen):Own (W.alloc (.cells (zeroB k) 5)) base (.slice (some ⟨W.heap.size,0,none⟩) k k) k (List.replicate k 0):=by
 refine Own.of_heap (cur:=List.replicate k (Value.int .u8 0)) (heap_alloc_new W _) (by simp) ?_ (by simp) hb (Nat.le_refl _) hk ?_
 ·rw [List.take_of_length_le (by simp)];simp
 ·intro z hz;rw [List.eq_of_mem_replicate hz];omega
section
variable {T:TypeId} {w:World} {F:Foot} {bs ks:List Int}
theorem run_copy_from (h:St T w F bs ks) {base g k a:Nat} {c':Nat} {zs:List Int} {X:Option Addr} (hO:Own w base (.slice (some ⟨g,0,none⟩) k k) k zs) (ha:a+k≤bs.length) (hX:X=some ⟨F.gb,a,none⟩∨(X=some ⟨F.gb,0,none⟩∧k=0)) :
  ∃w2,(Builtin.copy_ #[22,22] 3 #[.slice (some ⟨g,0,none⟩) k k,.slice X (bs.length - a) c']).run Tryz.prog w=.ok (.int .i64 (k:Int)) w2 ∧
   Own w2 base (.slice (some ⟨g,0,none⟩) k k) k ((bs.drop a).take k)∧Below base w w2:=by
 obtain ⟨i0,hi,hz0,hz1,hz2⟩:=info_parts info_u8
 have hone:(Tryz.prog.info? 5).map (·.size)=some 1:=by rw [hi];simp [hz1]
 obtain ⟨cur,q1,q2,q3,q4,q5,q6⟩:=Own.heap hO
 have hby:=h.byt (a:=a) (n:=k) (by omega)
 have hlen:(((bs.drop a).take k).map (Value.int .u8)).length=k:=by simp;omega
 obtain ⟨ad,rfl,hsrc⟩:∃ad,X=some ad∧∀j u,(((bs.drop a).take k).map (Value.int .u8))[j]?=some u→w.cell? (ad.add j)=some u:=by
  rcases hX with rfl | ⟨rfl,rfl⟩
  ·refine ⟨_,rfl,?_⟩
   rcases Nat.eq_zero_or_pos k with rfl | h0
   ·intro j u hu;simp at hu
   ·exact hby.cells h0
  ·exact ⟨_,rfl,by intro j u hu;simp at hu⟩
 have hrun:=run_copy_row (P:=Tryz.prog) w 22 22 3 5 g 0 k k ad (bs.length - a) c' cur.toArray 5 (((bs.drop a).take k).map (Value.int .u8)) Tryz.underlying22 hone q1 (by rw [hlen];exact (Nat.min_eq_right (by omega)).symm) hsrc (by rw [hlen];simp;omega) (by intro v hv;obtain ⟨z,_,rfl⟩:=List.mem_map.1 hv;rfl)
 have e:cur.toArray.toList.take 0++((bs.drop a).take k).map (Value.int .u8)++cur.toArray.toList.drop (0+(((bs.drop a).take k).map (Value.int .u8)).length)=((bs.drop a).take k).map (Value.int .u8):=by
  rw [hlen];simp [List.drop_of_length_le (show cur.length≤k by omega)]
 rw [e,hlen] at hrun
 refine ⟨_,hrun,?_,below_setRow (Below.refl _ _) q4 _⟩
 refine Own.of_heap (setRow_heap w g _ _ _ _ q1) hlen ?_ hby.1 q4 q5 q6 hby.2.1
 rw [List.take_of_length_le (by rw [hlen];exact Nat.le_refl _)]
theorem run_copy_to (h:St T w F bs ks) (hT:T≠5) {a len c dc:Nat} {ys:List Int} {A X:Option Addr} (hy:Byt w A len ys) (ha:a+len≤bs.length) (hX:X=some ⟨F.gb,a,none⟩∨(X=some ⟨F.gb,0,none⟩∧len=0)) :
  ∃w2,(Builtin.copy_ #[22,22] 3 #[.slice X (bs.length - a) dc,.slice A len c]).run Tryz.prog w=.ok (.int .i64 (len:Int)) w2 ∧
   St T w2 F (splice bs a ys) ks∧w.grownBy w2 (some F.gb):=by
 obtain ⟨i0,hi,hz0,hz1,hz2⟩:=info_parts info_u8
 have hone:(Tryz.prog.info? 5).map (·.size)=some 1:=by rw [hi];simp [hz1]
 rcases Nat.eq_zero_or_pos len with rfl | h0
 ·obtain rfl:ys=[]:=List.eq_nil_of_length_eq_zero hy.1
  have hrun:=run_copy_none (P:=Tryz.prog) w 22 22 3 5 X A (bs.length - a) dc 0 c Tryz.underlying22 hone (by simp)
  exact ⟨w,hrun,by rw [splice_nil];exact h,World.grownBy.refl w _⟩
 ·obtain ⟨b,off,rfl,_⟩:=hy.2.2 h0
  obtain rfl:X=some ⟨F.gb,a,none⟩:=by
   rcases hX with h1 | ⟨_,h2⟩
   ·exact h1
   ·omega
  obtain ⟨cur,h1,h2,h3⟩:=h.lay hT a ys hy.2.1 (by rw [hy.1];exact ha)
  have hlen:(ys.map (Value.int .u8)).length=len:=by simp [hy.1]
  have hcap:=h.capb
  have hrun:=run_copy_row (P:=Tryz.prog) w 22 22 3 5 F.gb a (bs.length - a) dc ⟨b,off,none⟩ len c cur.toArray 5 (ys.map (Value.int .u8)) Tryz.underlying22 hone h1 (by rw [hlen];exact (Nat.min_eq_left (by omega)).symm) (hy.cells h0) (by rw [hlen];simp;omega) (by intro v hv;obtain ⟨z,_,rfl⟩:=List.mem_map.1 hv;rfl)
  have e:cur.toArray.toList.take a++ys.map (Value.int .u8)++cur.toArray.toList.drop (a+(ys.map (Value.int .u8)).length)=splice cur a (ys.map (Value.int .u8)):=by simp [splice]
  rw [e,hlen] at hrun
  exact ⟨_,hrun,h3,grown_setRow _ _ _⟩
theorem St.setCells (hT:T≠5):∀ (ys:List Int) (o:Nat) (w:World) (bs:List Int),St T w F bs ks→(∀z∈ys,0≤z∧z≤255)→o+ys.length≤bs.length→St T (w.setCells F.gb o (ys.map (Value.int .u8))) F (splice bs o ys) ks∧w.grownBy (w.setCells F.gb o (ys.map (Value.int .u8))) (some F.gb)
 | [],o,w,bs,h,_,_=>by rw [splice_nil];exact ⟨h,World.grownBy.refl w _⟩
 | y :: ys,o,w,bs,h,hy,ho=>by
  rw [List.length_cons] at ho
  have h1:=h.setByte hT (i:=o) (hy y (by simp))
  obtain ⟨h2,h3⟩:=St.setCells hT ys (o+1) _ _ h1 (fun z hz=>hy z (by simp [hz])) (by rw [List.length_set];omega)
  rw [splice_cons _ _ _ _ (by omega)] at h2
  exact ⟨h2,grown_trans (grown_setCell w F.gb o _) h3⟩
end
def GivesB (w:World) (zs:List Int) (e:Ending) (w':World):Prop:=∃A m c,e=.returned (.slice A m c)∧Own w' w.heap.size (.slice A m c) m zs∧Below w.heap.size w w'
theorem sGet_no {N:Nat} {bs:List Int} {addr n:Int} (hN:bs.length=N) (h:sIn N addr n=false):sGet bs addr n=[]:=by unfold sGet;rw [hN,h];rfl
theorem sGet_yes {N a k:Nat} {bs:List Int} (hN:bs.length=N) (h:sIn N (a:Int) (k:Int)=true):sGet bs (a:Int) (k:Int)=(bs.drop a).take k:=by unfold sGet;rw [hN,h];simp
theorem bytes_c {F:Foot} {bs ks:List Int} (w:World) (h:St 63 w F bs ks) (addr n:Int):Calls Tryz.prog 17 #[.pointer (some ⟨F.g,0,none⟩),.int .i64 addr,.int .i64 n] w (GivesB w (sGet bs addr n)):=by
 obtain ⟨N,hN⟩:∃N,bs.length=N:=⟨_,rfl⟩
 have c0:=h.cell0
 have H:=lh h
 have n0:(2048:Int)≤(N:Int):=by have:=h.ln;have:=h.l0;omega
 have n1:(N:Int)≤65536:=by have:=h.ln;have:=h.l1;omega
 rw [hN] at c0
 have HN:=lh hN
 have ltg:=H.out.ltg
 clear hN h
 cases hi:sIn N addr n
 ·rw [sGet_no HN.out hi]
  go_enter Tryz.func17,Tryz.ntmps17
  go_wp2_with (go_at_call 28;refine (in_c _ H.out _ _).mono ?_;rintro e w1 ⟨rfl,rfl⟩;rw [HN.out,hi])
  go_ret
  exact ⟨none,0,0,rfl,Own.nil _ _,Below.refl _ _⟩
 obtain ⟨b0,b1,b2,b3⟩:=sIn_yes hi
 obtain ⟨a,rfl⟩:=Int.eq_ofNat_of_zero_le b0
 obtain ⟨k,rfl⟩:=Int.eq_ofNat_of_zero_le b1
 have a0:(a:Int)≤(N:Int):=b2
 have a1:(a:Int)+(k:Int)≤(N:Int):=by omega
 have g0:=lh (show a+k≤bs.length from by rw [HN.out];omega)
 have lb:=H.out.capb
 rw [HN.out] at lb
 have lbb:=H.out.maxb
 unfold maxLen at lbb
 have kN:(k:Int)≤1000000:=by omega
 have aN:a≤N:=by omega
 have kk:k≤N - a:=by omega
 rw [sGet_yes HN.out hi]
 by_cases hcap:F.cb=a
 ·obtain rfl:N=a:=by omega
  obtain rfl:k=0:=by omega
  rw [show ((0:Nat):Int)=0 from rfl] at hi ⊢
  have hmk:∀W:World,(Instr.makeSlice 22 (.int .i64 0) (.int .i64 0)).run Tryz.prog W=.ok (.slice (some ⟨W.heap.size,0,none⟩) 0 0) (W.alloc (.cells (zeroB 0) 5)):=fun W=>run_mk_b 0 (by decide) W
  obtain ⟨w2,hcp,ho,hb⟩:=run_copy_from (H.out.alloc (.cells (zeroB 0) 5)) (own_zeros w 0 w.heap.size (Nat.le_refl _) (by decide)) g0.out (c':=0) (.inr ⟨rfl,rfl⟩)
  rw [HN.out,Nat.sub_self] at hcp
  have hcp':(Builtin.copy_ #[22,22] 3 #[.slice (some ⟨w.heap.size,0,none⟩) 0 0,.slice (some ⟨F.gb,0,none⟩) 0 0]).run Tryz.prog (w.alloc (.cells (zeroB 0) 5))=.ok (.int .i64 0) w2:=hcp
  have HO:=lh ho
  have HB:=lh hb
  rw [hcap] at c0
  clear ho hb hcp hcap lb lbb
  go_enter Tryz.func17,Tryz.ntmps17
  go_wp2_with (go_at_call 28;refine (in_c _ H.out _ _).mono ?_;rintro e w1 ⟨rfl,rfl⟩;rw [HN.out,hi])
  go_ret
  exact ⟨_,_,_,rfl,HO.out,((Below.refl w.heap.size w).alloc (Nat.le_refl _) _).trans HB.out⟩
 ·have hmk:=fun W=>run_mk_b k kN W
  obtain ⟨w2,hcp,ho,hb⟩:=run_copy_from (H.out.alloc (.cells (zeroB k) 5)) (own_zeros w k w.heap.size (Nat.le_refl _) (by unfold maxLen;omega)) g0.out (c':=F.cb - a) (.inl rfl)
  rw [HN.out] at hcp
  have HO:=lh ho
  have HB:=lh hb
  clear ho hb
  go_enter Tryz.func17,Tryz.ntmps17
  go_wp2_with (go_at_call 28;refine (in_c _ H.out _ _).mono ?_;rintro e w1 ⟨rfl,rfl⟩;rw [HN.out,hi])
  go_ret
  exact ⟨_,_,_,rfl,HO.out,((Below.refl w.heap.size w).alloc (Nat.le_refl _) _).trans HB.out⟩
theorem sCode_no {al:Int→Bool} {N:Nat} {ks:List Int} {addr n:Int} (h:sIn N addr n=false):sCode al N ks addr n=5:=by unfold sCode;rw [h];rfl
theorem sCode_yes {al:Int→Bool} {N:Nat} {ks:List Int} {a n:Nat} (h:sIn N (a:Int) (n:Int)=true):sCode al N ks (a:Int) (n:Int)=if okB al ks a n=true then 0 else 4:=by unfold sCode;rw [h];simp
def sPut (al:Int→Bool) (bs ks:List Int) (addr:Int) (ys:List Int):List Int:=if sCode al bs.length ks addr ys.length=0 then splice bs addr.toNat ys else bs
def sFet (al:Int→Bool) (bs ks:List Int) (addr n:Int):List Int:=if sCode al bs.length ks addr n=0 then sGet bs addr n else []
theorem sCode_zero {al:Int→Bool} {N:Nat} {ks:List Int} {addr n:Int} (h:sCode al N ks addr n=0):sIn N addr n=true:=by
 cases hi:sIn N addr n
 ·rw [sCode_no hi] at h;cases h
 ·rfl
def GivesC (w:World) (zs:List Int) (c:Int) (e:Ending) (w':World):Prop:=∃A m cap,e=.returned (.tuple #[.slice A m cap,.int .i64 c])∧Own w' w.heap.size (.slice A m cap) m zs∧Below w.heap.size w w'
structure In where
 op:Int
 fm:Int
 n:Nat
 k:Nat
 x:Nat
 b:Nat
 d:Int
 b':Nat
 d':Int
 l:Nat
 l':Int
 i:Int
def In.v (I:In):List Value:=[.int .i64 I.op,.int .i64 I.fm,.int .i64 (I.n:Int),.int .i64 (I.k:Int),.int .i64 (I.x:Int),.int .i64 (I.b:Int),.int .i64 I.d,.int .i64 (I.b':Int),.int .i64 I.d',.int .i64 (I.l:Int),.int .i64 I.l',.int .i64 I.i]
structure Ps where
 m:Int
 key:Int
 M:Bool
 W:Bool
 P:Bool
 cd:Int
 il:Int
 cc:Int
 pg:Int
 ad:Int
def Ps.v (q:Ps):List Value:=[.int .i64 q.m,.int .i64 q.key,.bool q.M,.bool q.W,.bool q.P,.int .i64 q.cd,.int .i64 q.il,.int .i64 q.cc,.int .i64 q.pg,.int .i64 q.ad]
structure In.ok (I:In):Prop where
 n:I.n<16
 k:I.k<16
 x:I.x<16
 b:I.b<16
 d:0≤I.d∧I.d≤4095
 b':I.b'<16
 d':0≤I.d'∧I.d'≤4095
 l:I.l<256
 i:0≤I.i∧I.i≤255
def In.a (I:In) (os:List Int):Int:=(I.d'+sumB os [I.b',I.x]) % 16777216
def In.a1 (I:In) (os:List Int):Int:=(I.d+sumB os [I.b]) % 16777216
section
variable {w0 w:World} {g:Nat} {G:Foot} {I:In} {os rs:List Int} {p q:Ps} {c:Int} {bs ks:List Int}
theorem Own.oth {base:Nat} {v:Value} {n:Nat} {zs:List Int} (h:Own w base v n zs) {a:Addr} (x:Value) (ha:a.block<base):Own (w.setCell a x) base v n zs:=by
 rcases h.form with ⟨rfl,rfl⟩ | ⟨b,cap,rfl,hg,-,-,-⟩
 ·have:=List.eq_nil_of_length_eq_zero h.len
  subst this
  exact Own.nil _ _
 ·obtain ⟨cur,h1,h2,h3,h4,h5,h6⟩:=h.heap
  exact Own.of_heap (by rw [Below.heap_setCell w a x b (by omega)];exact h1) h2 h3 h.len hg h5 h6 h.2
end
theorem hout {p:Prop} (h:Hid p:=by assumption):p:=h.out
end Go.Proofs.YtljajnaclpbecaaGreatDoor
