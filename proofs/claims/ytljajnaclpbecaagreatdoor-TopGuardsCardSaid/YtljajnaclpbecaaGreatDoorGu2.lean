/- Contracts and laws on the way to the statement, text 2 of 22. Conditions: as each states them. -/
import Derived.Test.YtljajnaclpbecaaGreatDoorGu1
import Derived.Lib.Hide
import Derived.Scope
import Derived.Outline
import Derived.Handy
import Derived.BigQuiet
import Derived.Deep.QuietTactic
import Derived.Test.YtljajnaclpbecaaGreatDoorProg
import Derived.WalkKit
import Derived.Laws.StructEq
import Derived.Laws.Tables
import Derived.TacticsIn
import Derived.Sort.QuietIn
import Derived.RangeFuncCalls
import Derived.RegionIn
import Derived.Deep.Cut
import Derived.BigRegion
import Derived.Deep.RegionHeld3
import Derived.LoopNIn
namespace Go.Proofs.YtljajnaclpbecaaGreatDoor
open Go.RowKit
set_option maxRecDepth 1000000
set_option maxHeartbeats 8000000
set_option linter.unusedVariables false
set_option linter.unusedSimpArgs false
theorem digit_c (c:Int) (h0:48≤c) (h1:c≤255) (w:World):Calls Tryz.prog 161 #[.int .u8 c] w fun e w'=>e=.returned (.int .i64 (dig c))∧w=w':=by
 by_cases h:65≤c
 ·have hd:=lh (show dig c=c - 65+10 by unfold dig;rw [if_pos h];omega)
  go_enter Tryz.func161,Tryz.ntmps161
  go_wp2
  go_ret
  exact ⟨by rw [hd.out];rfl,rfl⟩
 ·have hd:=lh (show dig c=c - 48 by unfold dig;rw [if_neg h])
  go_enter Tryz.func161,Tryz.ntmps161
  go_wp2
  go_ret
  exact ⟨by rw [hd.out];rfl,rfl⟩
theorem code_c (k:Nat) (hk:k<97) (w:World):Calls Tryz.prog 101 #[.int .i64 ((8*k:Nat):Int)] w fun e w'=>e=.returned (.int .i64 (opK k))∧∃n,w'=w.drewN n:=by
 have X:=lh (tb_hex k hk)
 have O:=lh (tb_op k hk)
 obtain ⟨a,ha⟩:∃a,8*k=a:=⟨_,rfl⟩
 rw [ha] at X O ⊢
 have h1:a≤768:=by omega
 have m1:(a:Int)<776:=by omega
 have m2:(a:Int)+1<776:=by omega
 have m3:0≤(a:Int)+1:=by omega
 have hw:IntKind.i64.wrap ((a:Int)+1)=((a+1:Nat):Int):=by simp only [IntKind.wrap,IntKind.bits,IntKind.signed];simp;omega
 clear ha hk
 go_enter Tryz.func101,Tryz.ntmps101
 go_wp2_with fail
 refine wp_region_held_drew (S:=(fun w'=>∃n,w'=w.drewN n)) (by kernel_rfl) ?_ (fun hHeld=>?_)
 ·(try dsimp only);exact ⟨1,rfl⟩
 refine' takeL (i:=0) (v:=_) rfl (by kernel_rfl) (by kernel_rfl) (by kernel_rfl) (fun _ _ _ h=>h) (Or.inl ⟨by rfl,?yy1⟩) (by assumption) ?rr1
 case yy1=>intro w hSw;(try dsimp only at hSw);go_simp;(try with_reducible rfl)
 try simp only [Act.put,List.setIfInBounds_toArray,List.set_cons_zero,List.set_cons_succ]
 refine' takeL (i:=1) (v:=_) rfl (by kernel_rfl) (by kernel_rfl) (by kernel_rfl) (fun _ _ _ h=>h) (Or.inl ⟨by rfl,?yy2⟩) (by assumption) ?rr2
 case yy2=>intro w hSw;(try dsimp only at hSw);go_simp;(try rw [tb_get _ _ _ (by kernel_rfl)]);(try with_reducible rfl)
 try simp only [Act.put,List.setIfInBounds_toArray,List.set_cons_zero,List.set_cons_succ]
 refine' takeL (i:=4) (v:=_) rfl (by kernel_rfl) (by kernel_rfl) (by kernel_rfl) (fun _ _ _ h=>h) (Or.inl ⟨by rfl,?yy3⟩) (by assumption) ?rr3
 case yy3=>intro w hSw;(try dsimp only at hSw);go_simp;(try with_reducible rfl)
 try simp only [Act.put,List.setIfInBounds_toArray,List.set_cons_zero,List.set_cons_succ]
 refine' takeL (i:=5) (v:=_) rfl (by kernel_rfl) (by kernel_rfl) (by kernel_rfl) (fun _ _ _ h=>h) (Or.inl ⟨by rfl,?yy4⟩) (by assumption) ?rr4
 case yy4=>intro w hSw;(try dsimp only at hSw);go_simp;(try with_reducible rfl)
 try simp only [Act.put,List.setIfInBounds_toArray,List.set_cons_zero,List.set_cons_succ]
 refine' takeL (i:=6) (v:=_) rfl (by kernel_rfl) (by kernel_rfl) (by kernel_rfl) (fun _ _ _ h=>h) (Or.inl ⟨by rfl,?yy5⟩) (by assumption) ?rr5
 case yy5=>intro w hSw;(try dsimp only at hSw);go_simp;(try rw [tb_get _ _ _ (by kernel_rfl)]);(try with_reducible rfl)
 try simp only [Act.put,List.setIfInBounds_toArray,List.set_cons_zero,List.set_cons_succ]
 refine wpAnyH_ready (rs:=[2]) (by kernel_rfl) (by simp) ?_
 refine consL rfl (fun K hK=>?_) AllReadyH.nil
 go_simp
 go_at_call 161
 refine (digit_c _ (by have:=X.out;omega) (by have:=X.out;omega) _).mono ?_
 rintro e _ ⟨rfl,rfl⟩
 go_wp2_with fail
 refine hK.out _ _ ?_ (fun hHeld=>?_)
 ·(try dsimp only);exact hHeld
 clear hK K
 try simp only [Act.put,List.setIfInBounds_toArray,List.set_cons_zero,List.set_cons_succ]
 refine' takeL (i:=3) (v:=_) rfl (by kernel_rfl) (by kernel_rfl) (by kernel_rfl) (fun _ _ _ h=>h) (Or.inl ⟨by rfl,?yy6⟩) (by assumption) ?rr6
 case yy6=>intro w hSw;(try dsimp only at hSw);go_simp;(try with_reducible rfl)
 try simp only [Act.put,List.setIfInBounds_toArray,List.set_cons_zero,List.set_cons_succ]
 refine wpAnyH_ready (rs:=[7]) (by kernel_rfl) (by simp) ?_
 refine consL rfl (fun K hK=>?_) AllReadyH.nil
 go_simp
 go_at_call 161
 refine (digit_c _ (by have:=X.out;omega) (by have:=X.out;omega) _).mono ?_
 rintro e _ ⟨rfl,rfl⟩
 go_wp2_with fail
 refine hK.out _ _ ?_ (fun hHeld=>?_)
 ·(try dsimp only);exact hHeld
 clear hK K
 try simp only [Act.put,List.setIfInBounds_toArray,List.set_cons_zero,List.set_cons_succ]
 refine' takeL (i:=8) (v:=_) rfl (by kernel_rfl) (by kernel_rfl) (by kernel_rfl) (fun _ _ _ h=>h) (Or.inl ⟨by rfl,?yy7⟩) (by assumption) ?rr7
 case yy7=>intro w hSw;(try dsimp only at hSw);go_simp;(try with_reducible rfl)
 try simp only [Act.put,List.setIfInBounds_toArray,List.set_cons_zero,List.set_cons_succ]
 refine' takeL (i:=9) (v:=_) rfl (by kernel_rfl) (by kernel_rfl) (by kernel_rfl) (fun _ _ _ h=>h) (Or.inl ⟨by rfl,?yy8⟩) (by assumption) ?rr8
 case yy8=>intro w hSw;(try dsimp only at hSw);go_simp;(try with_reducible rfl)
 try simp only [Act.put,List.setIfInBounds_toArray,List.set_cons_zero,List.set_cons_succ]
 refine wpAnyH_done (by kernel_rfl) ?_ _
 go_wp2
 go_ret
 exact ⟨by rw [← O.out];show Ending.returned (.int .i64 (IntKind.i64.wrap (IntKind.i64.wrap (16*dig ↑(tb a))+dig ↑(tb (a+1)))))=_;rw [wrap_hex (dig_range _ (by have:=X.out;omega) (by have:=X.out;omega)) (dig_range _ (by have:=X.out;omega) (by have:=X.out;omega))],1,rfl⟩
theorem wrap_i64_id {n:Int} (h0:-9223372036854775808≤n) (h1:n≤9223372036854775807):IntKind.i64.wrap n=n:=by
 simp only [IntKind.wrap,IntKind.bits,IntKind.signed];simp;omega
theorem row_c (op:Int) (w:World):Calls Tryz.prog 70 #[.int .i64 op] w fun e w'=>e=.returned (.int .i64 (rowAt op))∧∃n,w'=w.drewN n:=by
 go_enter Tryz.func70,Tryz.ntmps70
 go_wp2_with (first | refine wp_scope_straight ?_ | refine wp_label ?_)
 go_loopw [3,4] (fun f x wr=>∃k:Nat,k≤97∧f=.int .i64 (-1)∧x=.int .i64 ((8*k:Nat):Int)∧(∀j,j<k→opK j<op)∧∃n,wr=w.drewN n) (fun _ x _=>776 - (intOf x).toNat)
 case atStart=>exact ⟨0,by omega,rfl,rfl,by intro j hj;omega,0,rfl⟩
 case round=>
  obtain ⟨k,hk,rfl,rfl,hlo,n,rfl⟩:=hrel
  have LO:=lh hlo
  clear hlo
  by_cases hlt:k<97
  ·have hI:((8*k:Nat):Int)<776:=by omega
   obtain ⟨a,ha⟩:∃a,8*k=a:=⟨_,rfl⟩
   have CC:=lh (code_c k hlt)
   rw [ha] at CC hI
   rw [ha]
   have HA:=lh ha
   clear ha
   obtain ⟨o,ho⟩:∃o,opK k=o:=⟨_,rfl⟩
   rw [ho] at CC
   have HO:=lh ho
   clear ho
   rcases (show o<op∨o=op∨op<o by omega) with h | h | h
   ·go_wp2_with fail
    refine (CC.out _).mono ?_
    rintro e w1 ⟨rfl,n1,rfl⟩
    go_wp2_with fail
    refine ⟨⟨k+1,by omega,rfl,?_,?_,_,rfl⟩,?_⟩
    ·congr 1;have:=HA.out;omega
    ·intro j hj
     rcases Nat.lt_or_ge j k with h2 | h2
     ·exact LO.out j h2
     ·rw [show j=k by omega,HO.out];exact h
    ·have:=HA.out;simp [intOf];omega
   ·have hr:=lh (show rowAt op=(a:Int) by unfold rowAt;rw [ix_of hlt (HO.out.trans h),if_pos hlt,HA.out])
    have e1:(o == op)=true:=by simp [h]
    have e2:¬(o<op):=by omega
    clear h
    go_wp2_with fail
    refine (CC.out _).mono ?_
    rintro e w1 ⟨rfl,n1,rfl⟩
    go_wp2_with fail
    simp only [Exit.noGoto]
    go_ret
    exact ⟨by rw [hr.out];rfl,_,rfl⟩
   ·have hr:=lh (show rowAt op = -1 by
     unfold rowAt
     rw [ix_none (op:=op) fun j hj=>?_,if_neg (by omega)]
     rcases Nat.lt_or_ge j k with h2 | h2
     ·have:=LO.out j h2;omega
     ·rcases Nat.lt_or_ge k j with h3 | h3
      ·have:=op_lt h3 hj;have:=HO.out;omega
      ·rw [show j=k by omega,HO.out];omega)
    have e1:(o == op)=false:=by rw [beq_eq_false_iff_ne];omega
    have e2:¬(o<op):=by omega
    go_wp2_with fail
    refine (CC.out _).mono ?_
    rintro e w1 ⟨rfl,n1,rfl⟩
    go_wp2_with fail
    simp only [Exit.noGoto]
    go_ret
    exact ⟨by rw [hr.out];rfl,_,rfl⟩
  ·obtain rfl:k=97:=by omega
   have hr:=lh (show rowAt op = -1 by
    unfold rowAt
    rw [ix_none (op:=op) fun j hj=>by have:=LO.out j hj;omega,if_neg (by omega)])
   go_wp2_with fail
   simp only [Exit.noGoto]
   go_ret
   exact ⟨by rw [hr.out];rfl,_,rfl⟩
theorem form_c (op:Int) (w:World):Calls Tryz.prog 54 #[.int .i64 op] w fun e w'=>e=.returned (.tuple #[.int .i64 (fmOf op),.bool (isOp op)])∧∃n,w'=w.drewN n:=by
 by_cases hx:ix op<97
 ·have F:=lh (tb_fm _ hx)
  have R:=lh (row_c op)
  have r1:=lh (show fmOf op=fmK (ix op) from by unfold fmOf;rw [if_pos hx])
  have r2:=lh (show isOp op=true from by unfold isOp;simpa using hx)
  have r3:=lh (show rowAt op=((8*ix op:Nat):Int) from by unfold rowAt;rw [if_pos hx])
  obtain ⟨a,ha⟩:∃a,8*ix op=a:=⟨_,rfl⟩
  rw [r3.out,ha] at R
  rw [ha] at F
  rw [r1.out,r2.out]
  have h1:a≤768:=by omega
  clear ha hx r1 r2 r3
  have m1:0≤(a:Int)+8 - 1:=by omega
  have m2:(a:Int)+8 - 1<776:=by omega
  have m3:¬((a:Int)<0):=by omega
  go_enter Tryz.func54,Tryz.ntmps54
  go_wp2_with (go_at_call 70;refine (R.out _).mono ?_;rintro e w1 ⟨rfl,n1,rfl⟩)
  go_ret2
  refine ⟨?_,_,rfl⟩
  have e1:((tb (a+7):Int) - 97) % 256+1=fmK (ix op):=by have:=F.out;omega
  rw [tb_get _ _ _ (by kernel_rfl),e1];rfl
 ·have R:=lh (row_c op)
  have r1:=lh (show fmOf op=0 from by unfold fmOf;rw [if_neg hx])
  have r2:=lh (show isOp op=false from by unfold isOp;simpa using hx)
  have r3:=lh (show rowAt op = -1 from by unfold rowAt;rw [if_neg hx])
  rw [r3.out] at R
  rw [r1.out,r2.out]
  clear hx r1 r2 r3
  go_enter Tryz.func54,Tryz.ntmps54
  go_wp2_with (go_at_call 70;refine (R.out _).mono ?_;rintro e w1 ⟨rfl,n1,rfl⟩)
  go_ret2
  exact ⟨rfl,_,rfl⟩
theorem length_c (op:Int) (h0:-9223372036854775808≤op) (h1:op≤9223372036854775807) (w:World):Calls Tryz.prog 42 #[.int .i64 op] w fun e w'=>e=.returned (.int .i64 (lenOf op))∧w=w':=by
 rcases (show op<0∨255<op∨(0≤op∧op<64)∨(64≤op∧op<128)∨(128≤op∧op<192)∨(192≤op∧op≤255) by omega) with h | h | ⟨h,h2⟩ | ⟨h,h2⟩ | ⟨h,h2⟩ | ⟨h,h2⟩
 ·have hd:=lh (show lenOf op=0 from by unfold lenOf;rw [if_neg (by omega)])
  go_enter Tryz.func42,Tryz.ntmps42
  go_wp2
  go_ret
  exact ⟨by rw [hd.out];rfl,rfl⟩
 ·have hd:=lh (show lenOf op=0 from by unfold lenOf;rw [if_neg (by omega)])
  have e1:¬(op<0):=by omega
  go_enter Tryz.func42,Tryz.ntmps42
  go_wp2
  go_ret
  exact ⟨by rw [hd.out];rfl,rfl⟩
 ·have hd:=lh (show lenOf op=2 from by unfold lenOf;rw [if_pos (by omega),if_pos (by omega)])
  have i0:∀W,(Instr.index 118 (.agg #[.int .i64 2,.int .i64 4,.int .i64 4,.int .i64 6]) (.int .i64 0)).run Tryz.prog W=.ok (.int .i64 2) W:=fun _=>by kernel_rfl
  have e1:op / 64=0:=by omega
  have e2:¬(op<0):=by omega
  have e3:¬(255<op):=by omega
  clear h h2
  go_enter Tryz.func42,Tryz.ntmps42
  go_wp2
  go_ret
  exact ⟨by rw [hd.out];rfl,rfl⟩
 ·have hd:=lh (show lenOf op=4 from by unfold lenOf;rw [if_pos (by omega),if_neg (by omega),if_pos (by omega)])
  have i1:∀W,(Instr.index 118 (.agg #[.int .i64 2,.int .i64 4,.int .i64 4,.int .i64 6]) (.int .i64 1)).run Tryz.prog W=.ok (.int .i64 4) W:=fun _=>by kernel_rfl
  have e1:op / 64=1:=by omega
  have e2:¬(op<0):=by omega
  have e3:¬(255<op):=by omega
  clear h h2
  go_enter Tryz.func42,Tryz.ntmps42
  go_wp2
  go_ret
  exact ⟨by rw [hd.out];rfl,rfl⟩
 ·have hd:=lh (show lenOf op=4 from by unfold lenOf;rw [if_pos (by omega),if_neg (by omega),if_pos (by omega)])
  have i2:∀W,(Instr.index 118 (.agg #[.int .i64 2,.int .i64 4,.int .i64 4,.int .i64 6]) (.int .i64 2)).run Tryz.prog W=.ok (.int .i64 4) W:=fun _=>by kernel_rfl
  have e1:op / 64=2:=by omega
  have e2:¬(op<0):=by omega
  have e3:¬(255<op):=by omega
  clear h h2
  go_enter Tryz.func42,Tryz.ntmps42
  go_wp2
  go_ret
  exact ⟨by rw [hd.out];rfl,rfl⟩
 ·have hd:=lh (show lenOf op=6 from by unfold lenOf;rw [if_pos (by omega),if_neg (by omega),if_neg (by omega)])
  have i3:∀W,(Instr.index 118 (.agg #[.int .i64 2,.int .i64 4,.int .i64 4,.int .i64 6]) (.int .i64 3)).run Tryz.prog W=.ok (.int .i64 6) W:=fun _=>by kernel_rfl
  have e1:op / 64=3:=by omega
  have e2:¬(op<0):=by omega
  have e3:¬(255<op):=by omega
  clear h h2
  go_enter Tryz.func42,Tryz.ntmps42
  go_wp2
  go_ret
  exact ⟨by rw [hd.out];rfl,rfl⟩
theorem nibble_c (A:Option Addr) (len cap:Nat) (zs:List Int) (at_:Nat) (w:World) (hb:Byt w A len zs) (h:at_ / 2<len) (hl:(len:Int)≤9223372036854775807) (h9:at_≤1000):Calls Tryz.prog 58 #[.slice A len cap,.int .i64 at_] w fun e w'=>e=.returned (.int .i64 (nib zs at_))∧w=w':=by
 obtain ⟨b,off,rfl,hc⟩:=hb.at_ (by omega)
 have c1:=hc _ h
 have rg:=hb.range (at_ / 2)
 obtain ⟨x,hx⟩:∃x,zs.getD (at_ / 2) 0=x:=⟨_,rfl⟩
 rw [hx] at c1 rg
 obtain ⟨r0,r1⟩:=rg
 obtain ⟨q,hq⟩:∃q,at_ / 2=q:=⟨_,rfl⟩
 rw [hq] at c1 h
 have d1:(at_:Int) / 2=(q:Int):=by omega
 have q1:(q:Int)<(len:Int):=by omega
 clear hc hb
 rcases Nat.mod_two_eq_zero_or_one at_ with h2 | h2
 ·have hn:=lh (show nib zs at_=x / 16 from by unfold nib;rw [if_pos h2,hx])
  have d2:(at_:Int) % 2=0:=by omega
  clear hx hq h h2
  go_enter Tryz.func58,Tryz.ntmps58
  go_wp2
  go_ret
  exact ⟨by rw [hn.out];rfl,rfl⟩
 ·have hn:=lh (show nib zs at_=x % 16 from by unfold nib;rw [if_neg (by omega),hx])
  have d2:(at_:Int) % 2=1:=by omega
  have d3:=u8_low 4 15 x (by rfl) (by omega) r0 r1
  clear hx hq h h2
  go_enter Tryz.func58,Tryz.ntmps58
  go_wp2
  go_ret
  exact ⟨by rw [hn.out];rfl,rfl⟩
theorem priv_c (op:Int) (w:World):Calls Tryz.prog 49 #[.int .i64 op] w fun e w'=>e=.returned (.bool (privB op))∧w=w':=by
 by_cases h:op=8∨op=9∨op=128∨op=130∨op=156∨op=157∨op=158∨op=159
 ·have hr:=lh (show privB op=true from by unfold privB;rw [decide_eq_true_iff];omega)
  rcases h with rfl | rfl | rfl | rfl | rfl | rfl | rfl | rfl <;>
  ·go_enter Tryz.func49,Tryz.ntmps49
   go_wp2
   go_ret
   exact ⟨by rw [hr.out];rfl,rfl⟩
 ·have hr:=lh (show privB op=false from by unfold privB;rw [decide_eq_false_iff_not];omega)
  have p8:(op == 8)=false:=by rw [beq_eq_false_iff_ne];omega
  have p9:(op == 9)=false:=by rw [beq_eq_false_iff_ne];omega
  have p128:(op == 128)=false:=by rw [beq_eq_false_iff_ne];omega
  have p130:(op == 130)=false:=by rw [beq_eq_false_iff_ne];omega
  have p156:(op == 156)=false:=by rw [beq_eq_false_iff_ne];omega
  have p157:(op == 157)=false:=by rw [beq_eq_false_iff_ne];omega
  have p158:(op == 158)=false:=by rw [beq_eq_false_iff_ne];omega
  have p159:(op == 159)=false:=by rw [beq_eq_false_iff_ne];omega
  clear h
  go_enter Tryz.func49,Tryz.ntmps49
  go_wp2
  go_ret
  exact ⟨by rw [hr.out];rfl,rfl⟩
def eqiB (op fm r1 r2 x2 b1 d1 b2 d2 l1 l2 i2 op' fm' r1' r2' x2' b1' d1' b2' d2' l1' l2' i2':Int):Bool:=op == op' && (fm == fm' && (r1 == r1' && (r2 == r2' && (x2 == x2' && (b1 == b1' && (d1 == d1' && (b2 == b2' && (d2 == d2' && (l1 == l1' && (l2 == l2' && (i2 == i2')))))))))))
theorem eqi_run (op fm r1 r2 x2 b1 d1 b2 d2 l1 l2 i2 op' fm' r1' r2' x2' b1' d1' b2' d2' l1' l2' i2':Int) (w:World):(Op.equalIn 10000 54 (.agg #[.int .i64 op,.int .i64 fm,.int .i64 r1,.int .i64 r2,.int .i64 x2,.int .i64 b1,.int .i64 d1,.int .i64 b2,.int .i64 d2,.int .i64 l1,.int .i64 l2,.int .i64 i2]) (.agg #[.int .i64 op',.int .i64 fm',.int .i64 r1',.int .i64 r2',.int .i64 x2',.int .i64 b1',.int .i64 d1',.int .i64 b2',.int .i64 d2',.int .i64 l1',.int .i64 l2',.int .i64 i2'])).run Tryz.prog w=.ok (eqiB op fm r1 r2 x2 b1 d1 b2 d2 l1 l2 i2 op' fm' r1' r2' x2' b1' d1' b2' d2' l1' l2' i2') w:=by
 have hS:Tryz.prog.underlying 54=some (.struct (Tryz.prog.fieldsOf 54)):=by kernel_rfl
 have hp:Tryz.prog.stoodInHeld 54=false:=by kernel_rfl
 rw [show (10000:Nat)=9999+1 from rfl,run_equalIn_agg w 9999 54 _ _ hS hp]
 simp only [Program.fieldsOf,Tryz.underlying54]
 go_simp
 unfold eqiB
 by_cases h_op:op=op'
 case neg=>simp [h_op]
 subst h_op
 by_cases h_fm:fm=fm'
 case neg=>simp [h_fm]
 subst h_fm
 by_cases h_r1:r1=r1'
 case neg=>simp [h_r1]
 subst h_r1
 by_cases h_r2:r2=r2'
 case neg=>simp [h_r2]
 subst h_r2
 by_cases h_x2:x2=x2'
 case neg=>simp [h_x2]
 subst h_x2
 by_cases h_b1:b1=b1'
 case neg=>simp [h_b1]
 subst h_b1
 by_cases h_d1:d1=d1'
 case neg=>simp [h_d1]
 subst h_d1
 by_cases h_b2:b2=b2'
 case neg=>simp [h_b2]
 subst h_b2
 by_cases h_d2:d2=d2'
 case neg=>simp [h_d2]
 subst h_d2
 by_cases h_l1:l1=l1'
 case neg=>simp [h_l1]
 subst h_l1
 by_cases h_l2:l2=l2'
 case neg=>simp [h_l2]
 subst h_l2
 by_cases h_i2:i2=i2'
 case neg=>simp [h_i2]
 subst h_i2
 simp
theorem eqi_guard:Tryz.prog.eqGuardType Tryz.prog.depth 54=false:=by kernel_rfl
theorem eqiB_iff (op fm r1 r2 x2 b1 d1 b2 d2 l1 l2 i2 op' fm' r1' r2' x2' b1' d1' b2' d2' l1' l2' i2':Int):eqiB op fm r1 r2 x2 b1 d1 b2 d2 l1 l2 i2 op' fm' r1' r2' x2' b1' d1' b2' d2' l1' l2' i2'=true↔op=op'∧fm=fm'∧r1=r1'∧r2=r2'∧x2=x2'∧b1=b1'∧d1=d1'∧b2=b2'∧d2=d2'∧l1=l1'∧l2=l2'∧i2=i2':=by
 unfold eqiB;simp only [Bool.and_eq_true,beq_iff_eq]
section
variable {F:Fence} {n:Nat} {P:Program}
def noDefer (o:Oper):Bool:=match o.op with | .defer _=>false | _=>true
theorem noDefer_ne {o:Oper} (h:noDefer o=true) (c):o.op≠.defer c:=by
 intro e;unfold noDefer at h;rw [e] at h;cases h
theorem opIn_round {o:Oper} {a:Act} {w:World} {K:Act→World→Prop} {Q:Exit→Act→World→Prop} (l:Nat) (hro:F.round=none) (hd:noDefer o=true) (h:o.wpIn F n P a w K Q):o.wpIn (F.inRound l) n P a w K Q:=by
 unfold Oper.wpIn at *
 obtain ⟨h1,h2⟩:=h
 rw [hro,Oper.semAt_none] at h2
 refine ⟨h1,?_⟩
 rw [Fence.inRound_round,Oper.semAt_some l a.eval o (noDefer_ne hd)]
 exact h2
theorem opsIn_round {ops:Array Oper} {i:Nat} {a:Act} {w:World} {K K':Act→World→Prop} {Q:Exit→Act→World→Prop} (l:Nat) (hro:F.round=none) (hd:ops.toList.all noDefer=true) (hK:∀a w,K a w→K' a w) (h:wpOpIn F n P ops Q i K a w):wpOpIn (F.inRound l) n P ops Q i K' a w:=by
 unfold wpOpIn at *
 cases ho:ops[i]? with
 | none=>simp only [ho] at h ⊢;exact hK _ _ h
 | some o=>
  simp only [ho] at h ⊢
  have hn:noDefer o=true:=List.all_eq_true.1 hd o (Array.mem_toList_iff.2 (Array.mem_of_getElem? ho))
  split
  ·next hw=>rw [if_pos hw] at h;exact Oper.wpIn_mono hK (opIn_round l hro hn h)
  ·next hw=>rw [if_neg hw] at h;exact ⟨h.1,hK _ _ h.2⟩
theorem anyIn_round {ops:Array Oper} {Q:Exit→Act→World→Prop} (l:Nat) (hro:F.round=none) (hd:ops.toList.all noDefer=true) {md:Region.Mode}:∀ (fuel:Nat) (listed:Array Bool) (a:Act) (w:World),wpAnyIn F n P md ops Q fuel listed a w→wpAnyIn (F.inRound l) n P md ops Q fuel listed a w
 | 0,_,_,_,h=>h
 | fuel+1,_,_,_,h=>⟨h.1,fun i hi=>opsIn_round l hro hd (fun a w h=>anyIn_round l hro hd fuel _ a w h) (h.2 i hi)⟩
theorem wpIn_round_quiet {l id:Nat} {Q:Exit→Act→World→Prop} {a:Act} {w:World} {L:List Oper} (hro:F.round=none) (hd:L.all noDefer=true) (hm:P.follows .mixedOrders=true) (hB:Region.lexB .any L.toArray=true)
  (h:wpQuietIn F n P L.toArray (fun w'=>∃n,w'=w.drewN n) (fun a'=>∀w',(∃n,w'=w.drewN n)→Q .normal a' w') L a):(Code.region id L.toArray true).wpIn (F.inRound l) n P Q a w:=by
 simp only [Region.lexB,Bool.and_eq_true] at hB
 refine wpIn_region_any hm (anyIn_round l hro (by simpa using hd) _ _ _ _ (wpAnyIn_of_quiet (C:=fun w'=>∃n,w'=w.drewN n) (Q:=fun a'=>∀w',(∃n,w'=w.drewN n)→Q .normal a' w') hro (fun _ w' hw' h=>h w' hw') _ _ _ _ ⟨1,rfl⟩ ?_))
 have:=wpAnyQIn_lex (F:=F) (n:=n) (C:=fun w'=>∃n,w'=w.drewN n) (md:=.any) hB.1 L 0 (Array.replicate L.toArray.size false) a (by simp) (by simpa using hB.2) h
 simpa using this
end
end Go.Proofs.YtljajnaclpbecaaGreatDoor
namespace Go.Proofs.YtljajnaclpbecaaGreatDoor
set_option maxRecDepth 1000000
set_option maxHeartbeats 8000000
open Go.RowKit Go.Shelf
set_option linter.unusedVariables false
set_option linter.unusedSimpArgs false
attribute [local go_sem] Oper.semAt_some eqi_run eqi_guard
def scan:List FE→List Int→Option (List Int)
 | [],xs=>some xs
 | f :: fs,xs=>if 0≤xs.getD f.1 0∧xs.getD f.1 0<2 ^ f.2.1.toNat then scan fs (xs.set f.1 0) else none
theorem scan_app:∀ (l:List FE) (f:FE) (xs:List Int),scan (l++[f]) xs=(scan l xs).bind fun ys=>if 0≤ys.getD f.1 0∧ys.getD f.1 0<2 ^ f.2.1.toNat then some (ys.set f.1 0) else none
 | [],f,xs=>by simp [scan]
 | g :: l,f,xs=>by
  simp only [scan,List.cons_append]
  by_cases h:0≤xs.getD g.1 0∧xs.getD g.1 0<2 ^ g.2.1.toNat
  ·rw [if_pos h,if_pos h,scan_app l f]
  ·rw [if_neg h,if_neg h];rfl
theorem scan_pre:∀ (l m:List FE) (xs:List Int),scan l xs=none→scan (l++m) xs=none
 | [],m,xs,h=>by simp [scan] at h
 | f :: l,m,xs,h=>by
  simp only [scan,List.cons_append] at h ⊢
  split
  ·next hc=>rw [if_pos hc] at h;exact scan_pre l m _ h
  ·rfl
theorem scan_take {l:List FE} {c:Nat} {xs:List Int} (h:scan (l.take c) xs=none):scan l xs=none:=by
 have:=scan_pre _ (l.drop c) xs h
 rwa [List.take_append_drop] at this
theorem list_12 {α:Type}:∀ {l:List α},l.length=12→∃a b c d e f g h i j k m,l=[a,b,c,d,e,f,g,h,i,j,k,m]
 | [a,b,c,d,e,f,g,h,i,j,k,m],_=>⟨a,b,c,d,e,f,g,h,i,j,k,m,rfl⟩
def chk (op fm:Int) (xs:List Int):Int:=if isOp op=true∧fmOf op=fm then (match scan (lay fm) xs with | none=>6 | some ys=>if ys=[op,fm,0,0,0,0,0,0,0,0,0,0] then 0 else 6) else 80
theorem dBelow' {B:Nat} {a w:World} (h:Below B a w) (n:Nat):Below B a (w.drewN n):=⟨h.os,h.tape,h.output,h.size,h.block⟩
def okF (x:FE):Prop:=2≤x.1∧x.1≤11∧(x.2.1=4∨x.2.1=8∨x.2.1=12)
theorem lay_ok (form:Int):∀x∈lay form,okF x:=by
 unfold lay okF;(repeat' split)<;>decide
theorem alloc4_heap (w:World) (o0 o1 o2 o3:Obj) (n:Nat):(((((w.alloc o0).alloc o1).drewN n).alloc o2).alloc o3).heap[w.heap.size]?=some o0:=by
 rw [Below.heap_alloc _ _ _ (by simp;omega),Below.heap_alloc _ _ _ (by simp;omega)]
 show ((w.alloc o0).alloc o1).heap[w.heap.size]?=some o0
 rw [Below.heap_alloc _ _ _ (by simp)]
 exact heap_alloc_new w o0
theorem alloc4_heap1 (w:World) (o0 o1 o2 o3:Obj) (n:Nat):(((((w.alloc o0).alloc o1).drewN n).alloc o2).alloc o3).heap[w.heap.size+1]?=some o1:=by
 rw [Below.heap_alloc _ _ _ (by simp),Below.heap_alloc _ _ _ (by simp)]
 show ((w.alloc o0).alloc o1).heap[w.heap.size+1]?=some o1
 have:=heap_alloc_new (w.alloc o0) o1
 rwa [World.size_alloc] at this
theorem alloc4_heap2 (w:World) (o0 o1 o2 o3:Obj) (n:Nat):(((((w.alloc o0).alloc o1).drewN n).alloc o2).alloc o3).heap[w.heap.size+1+1]?=some o2:=by
 rw [Below.heap_alloc _ _ _ (by simp)]
 have:=heap_alloc_new (((w.alloc o0).alloc o1).drewN n) o2
 rwa [show (((w.alloc o0).alloc o1).drewN n).heap.size=w.heap.size+1+1 by simp] at this
theorem alloc4_heap3 (w:World) (o0 o1 o2 o3:Obj) (n:Nat):(((((w.alloc o0).alloc o1).drewN n).alloc o2).alloc o3).heap[w.heap.size+1+1+1]?=some o3:=by
 have:=heap_alloc_new ((((w.alloc o0).alloc o1).drewN n).alloc o2) o3
 rwa [show ((((w.alloc o0).alloc o1).drewN n).alloc o2).heap.size=w.heap.size+1+1+1 by simp] at this
theorem blk_kept {A B:World} {k:Nat} {cs:Array Value} {T:TypeId} {row:Option Nat} (h:A.heap[k]?=some (.cells cs T (0,0))) (hg:A.grownBy B row) (hr:∀r,row=some r→∃o:Obj,A.heap[r]?=some o∧o.isCells=false):B.heap[k]?=some (.cells cs T (0,0)):=by
 refine (hg.block k (Array.getElem?_eq_some_iff.1 h).1 (fun e=>?_)).trans h
 obtain ⟨o,ho,hc⟩:=hr k e.symm
 rw [h] at ho;injection ho with ho;rw [← ho] at hc;cases hc
def Blk (W:World) (g:Nat) (T:TypeId) (ys:List Int):Prop:=W.heap[g]?=some (.cells (ys.map (Value.int .i64)).toArray T (0,0))
theorem Blk.cell {W:World} {g:Nat} {T:TypeId} {ys:List Int} (h:Blk W g T ys) {c:Nat} (hc:c<ys.length):W.cell? ⟨g,c,none⟩=some (.int .i64 (ys.getD c 0)):=by
 rw [cell_blk h];simp [List.getD_eq_getElem?_getD,hc]
theorem Blk.free {W:World} {g:Nat} {T:TypeId} {ys:List Int} (h:Blk W g T ys) (c:Nat):W.frozen? ⟨g,c,none⟩=false:=by
 unfold Blk at h;simp [World.frozen?,h]
theorem Blk.set_ {W:World} {g:Nat} {T:TypeId} {ys:List Int} (h:Blk W g T ys) (c:Nat) (v:Int):Blk (W.setCell ⟨g,c,none⟩ (.int .i64 v)) g T (ys.set c v):=by
 unfold Blk at *
 rw [setCell_eq_setRow W g c _ T (0,0) _ h,setRow_heap W g _ _ _ _ h]
 simp [List.map_set]
theorem Blk.other {W:World} {g:Nat} {T:TypeId} {ys:List Int} (h:Blk W g T ys) {p:Addr} (v:Value) (hp:p.block≠g):Blk (W.setCell p v) g T ys:=(Below.heap_setCell W p v g (Ne.symm hp)).trans h
theorem Blk.alloc {W:World} {g:Nat} {T:TypeId} {ys:List Int} (h:Blk W g T ys) (o:Obj):Blk (W.alloc o) g T ys:=(Below.heap_alloc W o g (Array.getElem?_eq_some_iff.1 h).1).trans h
theorem Blk.keep {W W':World} {g:Nat} {T:TypeId} {ys:List Int} (h:Blk W g T ys) (hb:Below W.heap.size W W'):Blk W' g T ys:=(hb.block _ (Array.getElem?_eq_some_iff.1 h).1).trans h
theorem Blk.kept {A B:World} {g:Nat} {T:TypeId} {ys:List Int} {row:Option Nat} (h:Blk A g T ys) (hg:A.grownBy B row) (hr:∀r,row=some r→∃o:Obj,A.heap[r]?=some o∧o.isCells=false):Blk B g T ys:=blk_kept h hg hr
theorem Blk.drewN {W:World} {g:Nat} {T:TypeId} {ys:List Int} (h:Blk W g T ys) (n:Nat):Blk (W.drewN n) g T ys:=h
theorem keeps_drewN (W:World) (n:Nat):KeepsOthers W (W.drewN n):=⟨Nat.le_refl _,fun _ _ h _=>h⟩
theorem kpC_drewN (n1:Nat) (W:World) (n:Nat):KpC n1 W (W.drewN n):=⟨Nat.le_refl _,fun _ _ _ h _=>h⟩
def FBox (W:World) (fb rb:Nat) (x:FE):Prop:=W.heap[fb]?=some (.cells #[.pointer (some ⟨rb,x.1,none⟩),.int .i64 x.2.1,.int .i64 x.2.2] 106 (0,0))
theorem icheck_c (op fm r1 r2 x2 b1 d1 b2 d2 l1 l2 i2:Int) (w:World):Calls Tryz.prog 41 #[.agg #[.int .i64 op,.int .i64 fm,.int .i64 r1,.int .i64 r2,.int .i64 x2,.int .i64 b1,.int .i64 d1,.int .i64 b2,.int .i64 d2,.int .i64 l1,.int .i64 l2,.int .i64 i2]] w fun e w'=>e=.returned (.int .i64 (chk op fm [op,fm,r1,r2,x2,b1,d1,b2,d2,l1,l2,i2]))∧Below w.heap.size w w':=by
 refine (callsIn_wide (n:=5)).1 ?_
 refine callsIn_of_wp_marks Tryz.func41 rfl trivial ?_ rfl
 simp only [Tryz.ntmps41,List.size_toArray,List.length_cons,List.length_nil,Nat.reduceAdd,Nat.reduceSub,Array.replicate_succ,Array.replicate_zero,List.push_toArray,List.append_toArray,List.nil_append,List.cons_append]
 obtain ⟨io,hio⟩:∃x,isOp op=x:=⟨_,rfl⟩
 obtain ⟨fo,hfo⟩:∃x,fmOf op=x:=⟨_,rfl⟩
 have FC:=lh (form_c op)
 rw [hio,hfo] at FC
 by_cases hA:io=true∧fo=fm
 ·obtain ⟨rfl,rfl⟩:=hA
  have hne:(fo != fo)=false:=by simp
  have hr:=lh (show chk op fo [op,fo,r1,r2,x2,b1,d1,b2,d2,l1,l2,i2]=(match scan (lay fo) [op,fo,r1,r2,x2,b1,d1,b2,d2,l1,l2,i2] with | none=>6 | some ys=>if ys=[op,fo,0,0,0,0,0,0,0,0,0,0] then 0 else 6) from by unfold chk;rw [if_pos ⟨hio,hfo⟩])
  clear hio hfo
  gi_wp2_with (refine ⟨trivial,?_⟩;first | (gi_at_call 54;refine (callsIn_wide.2 (FC.out _)).mono ?_;rintro e w1 ⟨rfl,n1,rfl⟩) | (gi_at_call 43;refine (callsIn_wide.2 (fields_c _ _)).mono ?_;rintro e w1 ⟨rfl,rfl⟩))
  obtain ⟨W0,hW0⟩:∃W0,(((((w.alloc (.cells #[.int .i64 op,.int .i64 fo,.int .i64 r1,.int .i64 r2,.int .i64 x2,.int .i64 b1,.int .i64 d1,.int .i64 b2,.int .i64 d2,.int .i64 l1,.int .i64 l2,.int .i64 i2] 54)).alloc (.cells #[.int .i64 0] 28)).drewN n1).alloc (.cells #[.int .i64 op,.int .i64 fo,.int .i64 r1,.int .i64 r2,.int .i64 x2,.int .i64 b1,.int .i64 d1,.int .i64 b2,.int .i64 d2,.int .i64 l1,.int .i64 l2,.int .i64 i2] 54)).alloc (.cells #[.pointer (some ⟨w.heap.size+1+1,0,none⟩)] 103))=W0:=⟨_,rfl⟩
  rw [hW0]
  have hz:W0.heap.size=w.heap.size+4:=by rw [← hW0];simp
  have hB0:Below w.heap.size w W0:=by rw [← hW0];exact ((dBelow' (((Below.refl w.heap.size w).alloc (Nat.le_refl _) _).alloc (by simp) _) n1).alloc (by simp;omega) _).alloc (by simp;omega) _
  have q0:Blk W0 w.heap.size 54 [op,fo,r1,r2,x2,b1,d1,b2,d2,l1,l2,i2]:=by rw [← hW0];exact alloc4_heap _ _ _ _ _ _
  have q1:Blk W0 (w.heap.size+1) 28 [0]:=by rw [← hW0];exact alloc4_heap1 _ _ _ _ _ _
  have q2:Blk W0 (w.heap.size+1+1) 54 [op,fo,r1,r2,x2,b1,d1,b2,d2,l1,l2,i2]:=by rw [← hW0];exact alloc4_heap2 _ _ _ _ _ _
  have q3:W0.heap[w.heap.size+1+1+1]?=some (.cells #[.pointer (some ⟨w.heap.size+1+1,0,none⟩)] 103 (0,0)):=by rw [← hW0];exact alloc4_heap3 _ _ _ _ _ _
  clear hW0
  obtain ⟨xs,hxs⟩:∃xs,xs=[op,fo,r1,r2,x2,b1,d1,b2,d2,l1,l2,i2]:=⟨_,rfl⟩
  rw [← hxs] at q2
  have XS:=lh hxs
  have xl:xs.length=12:=by rw [hxs];rfl
  refine wpIn_rangeFunc_ownH rfl (by omega) (gf:=55) (lb:=#[.pointer (some ⟨w.heap.size+1+1+1,0,none⟩)]) rfl trivial (enters_of Tryz.func55 (by kernel_rfl) rfl)
   (fields1_stops okF (5 - 1) (by omega) (w.heap.size+1+1) (w.heap.size+1+1+1) W0.heap.size fo W0 (by rw [q2.cell (by omega),hxs];rfl) (by rw [cell_blk q3];rfl) (Nat.le_refl _) (lay_ok fo)) kpC_t kpC_b (Below.refl _ _) (fun _=>rfl)
   (fun pre W=>(W0.heap.size≤W.heap.size∧∃ys,scan (pre.map (·.1)) xs=some ys∧ys.length=12∧Blk W (w.heap.size+1+1) 54 ys∧Blk W w.heap.size 54 [op,fo,r1,r2,x2,b1,d1,b2,d2,l1,l2,i2]∧Blk W (w.heap.size+1) 28 [0])∧Below w.heap.size w W)
   (fun c pre W=>(c=.ret∧scan (pre.map (·.1)) xs=none∧Blk W (w.heap.size+1) 28 [6])∧Below w.heap.size w W)
   (OwnFrom.and (Own.from (fun s A B row hs hg hr=>by obtain ⟨h0,ys,h1,h2,h3,h4,h5⟩:=hs;exact ⟨Nat.le_trans h0 hg.size,ys,h1,h2,h3.kept hg hr,h4.kept hg hr,h5.kept hg hr⟩) _) (ownFrom_below (Nat.le_refl _) (by omega)))
   (fun c=>OwnFrom.and (Own.from (fun s A B row hs hg hr=>⟨hs.1,hs.2.1,hs.2.2.kept hg hr⟩) _) (ownFrom_below (Nat.le_refl _) (by omega)))
   ⟨⟨Nat.le_refl _,xs,rfl,xl,q2,q0,q1⟩,hB0⟩
   (fun x a' W=>∃fb,W0.heap.size≤fb∧FBox W fb (w.heap.size+1+1) x.1∧a'={ tmps:=#[.agg #[.int .i64 op,.int .i64 fo,.int .i64 r1,.int .i64 r2,.int .i64 x2,.int .i64 b1,.int .i64 d1,.int .i64 b2,.int .i64 d2,.int .i64 l1,.int .i64 l2,.int .i64 i2],.pointer (some ⟨w.heap.size,0,none⟩),.pointer (some ⟨w.heap.size+1,0,none⟩),.int .i64 fo,.bool true,.pointer (some ⟨w.heap.size+1+1,0,none⟩),.pointer (some ⟨fb,0,none⟩),.tuple #[.int .i64 fo,.bool true],.pointer (some ⟨w.heap.size,0,none⟩),.int .i64 op,.tuple #[.int .i64 fo,.bool true],.int .i64 fo,.bool true,.bool true,.bool false,.bool false,.int .i64 fo,.pointer (some ⟨w.heap.size,1,none⟩),.int .i64 fo,.bool false,.bool false,.agg #[.int .i64 op,.int .i64 fo,.int .i64 r1,.int .i64 r2,.int .i64 x2,.int .i64 b1,.int .i64 d1,.int .i64 b2,.int .i64 d2,.int .i64 l1,.int .i64 l2,.int .i64 i2],.func (.func 55) #[] #[.pointer (some ⟨w.heap.size+1+1+1,0,none⟩)],.agg #[.pointer (some ⟨w.heap.size+1+1,x.1.1,none⟩),.int .i64 x.1.2.1,.int .i64 x.1.2.2],undef,undef,undef,undef,undef,undef,undef,undef,undef,undef,undef,undef,undef,undef,undef,undef,undef,undef,undef,undef,undef,undef,undef,undef,undef],defers:=[] })
   (fun x a'=>Own.from (fun s A B row hs hg hr=>by obtain ⟨fb,h1,h2,h3⟩:=hs;exact ⟨fb,h1,blk_kept h2 hg hr,h3⟩) _) ?assign ?body ?done ?stop
  case assign=>
   intro l pre x W K hI hK
   gi_wp2
   obtain ⟨⟨h0,ys,h1,h2,h3,h4,h5⟩,hB⟩:=hI
   exact hK _ _ ((KeepsOthers.alloc _ _).from _) (kpC_of_below (al_keep W _)) ⟨⟨by simp;omega,ys,h1,h2,h3.alloc _,h4.alloc _,h5.alloc _⟩,hB.alloc (by omega) _⟩ ⟨W.heap.size,h0,heap_alloc_new W _,rfl⟩
  case body=>
   rintro l pre ⟨⟨c,n,at_⟩,ok1,ok2,ok3⟩ a' W hl hrr ⟨⟨h0,ys,h1,h2,h3,h4,h5⟩,hB⟩ ⟨fb,hfb,hF,rfl⟩ hlen
   have k0:W.cell? ⟨fb,0,none⟩=some (.pointer (some ⟨w.heap.size+1+1,c,none⟩)):=by rw [cell_blk hF];rfl
   have k1:W.cell? ⟨fb,1,none⟩=some (.int .i64 n):=by rw [cell_blk hF];rfl
   have k2:=h3.cell (c:=c) (by dsimp only at ok2;omega)
   have k3:=h3.free c
   have k4:=h5.cell (c:=0) (by decide)
   have k5:=h5.free 0
   have SC:=lh (scan_app (pre.map (·.1)) (c,n,at_) xs)
   rw [h1] at SC
   obtain ⟨v,hv⟩:∃v,ys.getD c 0=v:=⟨_,rfl⟩
   rw [hv] at k2
   have HS:=lh (And.intro h2 (And.intro h3 (And.intro h4 (And.intro h5 (And.intro hB (And.intro h0 hv))))))
   dsimp only at ok1 ok2 ok3
   clear h1 h2 h3 h4 h5 hB h0 hF hv hr
   have hmx:Tryz.prog.follows .mixedOrders=true:=by kernel_rfl
   rcases ok3 with rfl | rfl | rfl
   ·have pw:(2:Int) ^ Int.toNat 4=16:=by decide
    have SC':=SC
    by_cases e1:v<0
    ·gi_wp2
     refine wpIn_round_quiet rfl (by kernel_rfl) (by kernel_rfl) (by kernel_rfl) ?_
     repeat (gi_big_quiet_step (fail))
     refine wpQuietIn_nil ?_
     rintro _ ⟨nq,rfl⟩
     gi_wp2
     obtain ⟨h2,h3,h4,h5,hB,h0,hv⟩:=HS.out
     exact ⟨((keeps_drewN W nq).trans (KeepsOthers.setCell _ _ _)).from _,⟨rfl,by rw [List.map_append];refine SC.out.trans ?_;rw [Option.bind_some,if_neg (by rw [hv,pw];omega)],(h5.drewN nq).set_ 0 6⟩,(dBelow' hB nq).setCell (p:=⟨w.heap.size+1,0,none⟩) (by simp) _⟩
    ·have g1:decide (v<0)=false:=by rw [decide_eq_false_iff_not];exact e1
     by_cases e2:16≤v
     ·have g2:decide (16≤v)=true:=by rw [decide_eq_true_iff];exact e2
      clear e1
      gi_wp2
      refine wpIn_round_quiet rfl (by kernel_rfl) (by kernel_rfl) (by kernel_rfl) ?_
      repeat (gi_big_quiet_step (fail))
      refine wpQuietIn_nil ?_
      rintro _ ⟨nq,rfl⟩
      gi_wp2
      obtain ⟨h2,h3,h4,h5,hB,h0,hv⟩:=HS.out
      exact ⟨((keeps_drewN W nq).trans (KeepsOthers.setCell _ _ _)).from _,⟨rfl,by rw [List.map_append];refine SC.out.trans ?_;rw [Option.bind_some,if_neg (by rw [hv,pw];omega)],(h5.drewN nq).set_ 0 6⟩,(dBelow' hB nq).setCell (p:=⟨w.heap.size+1,0,none⟩) (by simp) _⟩
     ·have g2:decide (16≤v)=false:=by rw [decide_eq_false_iff_not];exact e2
      have E1:=lh e1
      have E2:=lh e2
      clear e1 e2
      gi_wp2
      refine wpIn_round_quiet rfl (by kernel_rfl) (by kernel_rfl) (by kernel_rfl) ?_
      repeat (gi_big_quiet_step (fail))
      refine wpQuietIn_nil ?_
      rintro _ ⟨nq,rfl⟩
      gi_wp2
      obtain ⟨h2,h3,h4,h5,hB,h0,hv⟩:=HS.out
      have e1:=E1.out
      have e2:=E2.out
      exact ⟨((keeps_drewN W nq).trans (KeepsOthers.setCell _ _ _)).from _,kpC_t (kpC_drewN _ W nq) (kpC_set _ _ _ (by show w.heap.size+1+1<_;omega)),⟨by simp;omega,_,by rw [List.map_append];refine SC.out.trans ?_;rw [Option.bind_some,if_pos (by rw [hv,pw];omega)],by rw [List.length_set];exact h2,(h3.drewN nq).set_ c 0,(h4.drewN nq).other _ (by simp;omega),(h5.drewN nq).other _ (by simp)⟩,(dBelow' hB nq).setCell (p:=⟨w.heap.size+1+1,c,none⟩) (by simp;omega) _⟩
   ·have pw:(2:Int) ^ Int.toNat 8=256:=by decide
    have SC':=SC
    by_cases e1:v<0
    ·gi_wp2
     refine wpIn_round_quiet rfl (by kernel_rfl) (by kernel_rfl) (by kernel_rfl) ?_
     repeat (gi_big_quiet_step (fail))
     refine wpQuietIn_nil ?_
     rintro _ ⟨nq,rfl⟩
     gi_wp2
     obtain ⟨h2,h3,h4,h5,hB,h0,hv⟩:=HS.out
     exact ⟨((keeps_drewN W nq).trans (KeepsOthers.setCell _ _ _)).from _,⟨rfl,by rw [List.map_append];refine SC.out.trans ?_;rw [Option.bind_some,if_neg (by rw [hv,pw];omega)],(h5.drewN nq).set_ 0 6⟩,(dBelow' hB nq).setCell (p:=⟨w.heap.size+1,0,none⟩) (by simp) _⟩
    ·have g1:decide (v<0)=false:=by rw [decide_eq_false_iff_not];exact e1
     by_cases e2:256≤v
     ·have g2:decide (256≤v)=true:=by rw [decide_eq_true_iff];exact e2
      clear e1
      gi_wp2
      refine wpIn_round_quiet rfl (by kernel_rfl) (by kernel_rfl) (by kernel_rfl) ?_
      repeat (gi_big_quiet_step (fail))
      refine wpQuietIn_nil ?_
      rintro _ ⟨nq,rfl⟩
      gi_wp2
      obtain ⟨h2,h3,h4,h5,hB,h0,hv⟩:=HS.out
      exact ⟨((keeps_drewN W nq).trans (KeepsOthers.setCell _ _ _)).from _,⟨rfl,by rw [List.map_append];refine SC.out.trans ?_;rw [Option.bind_some,if_neg (by rw [hv,pw];omega)],(h5.drewN nq).set_ 0 6⟩,(dBelow' hB nq).setCell (p:=⟨w.heap.size+1,0,none⟩) (by simp) _⟩
     ·have g2:decide (256≤v)=false:=by rw [decide_eq_false_iff_not];exact e2
      have E1:=lh e1
      have E2:=lh e2
      clear e1 e2
      gi_wp2
      refine wpIn_round_quiet rfl (by kernel_rfl) (by kernel_rfl) (by kernel_rfl) ?_
      repeat (gi_big_quiet_step (fail))
      refine wpQuietIn_nil ?_
      rintro _ ⟨nq,rfl⟩
      gi_wp2
      obtain ⟨h2,h3,h4,h5,hB,h0,hv⟩:=HS.out
      have e1:=E1.out
      have e2:=E2.out
      exact ⟨((keeps_drewN W nq).trans (KeepsOthers.setCell _ _ _)).from _,kpC_t (kpC_drewN _ W nq) (kpC_set _ _ _ (by show w.heap.size+1+1<_;omega)),⟨by simp;omega,_,by rw [List.map_append];refine SC.out.trans ?_;rw [Option.bind_some,if_pos (by rw [hv,pw];omega)],by rw [List.length_set];exact h2,(h3.drewN nq).set_ c 0,(h4.drewN nq).other _ (by simp;omega),(h5.drewN nq).other _ (by simp)⟩,(dBelow' hB nq).setCell (p:=⟨w.heap.size+1+1,c,none⟩) (by simp;omega) _⟩
   ·have pw:(2:Int) ^ Int.toNat 12=4096:=by decide
    have SC':=SC
    by_cases e1:v<0
    ·gi_wp2
     refine wpIn_round_quiet rfl (by kernel_rfl) (by kernel_rfl) (by kernel_rfl) ?_
     repeat (gi_big_quiet_step (fail))
     refine wpQuietIn_nil ?_
     rintro _ ⟨nq,rfl⟩
     gi_wp2
     obtain ⟨h2,h3,h4,h5,hB,h0,hv⟩:=HS.out
     exact ⟨((keeps_drewN W nq).trans (KeepsOthers.setCell _ _ _)).from _,⟨rfl,by rw [List.map_append];refine SC.out.trans ?_;rw [Option.bind_some,if_neg (by rw [hv,pw];omega)],(h5.drewN nq).set_ 0 6⟩,(dBelow' hB nq).setCell (p:=⟨w.heap.size+1,0,none⟩) (by simp) _⟩
    ·have g1:decide (v<0)=false:=by rw [decide_eq_false_iff_not];exact e1
     by_cases e2:4096≤v
     ·have g2:decide (4096≤v)=true:=by rw [decide_eq_true_iff];exact e2
      clear e1
      gi_wp2
      refine wpIn_round_quiet rfl (by kernel_rfl) (by kernel_rfl) (by kernel_rfl) ?_
      repeat (gi_big_quiet_step (fail))
      refine wpQuietIn_nil ?_
      rintro _ ⟨nq,rfl⟩
      gi_wp2
      obtain ⟨h2,h3,h4,h5,hB,h0,hv⟩:=HS.out
      exact ⟨((keeps_drewN W nq).trans (KeepsOthers.setCell _ _ _)).from _,⟨rfl,by rw [List.map_append];refine SC.out.trans ?_;rw [Option.bind_some,if_neg (by rw [hv,pw];omega)],(h5.drewN nq).set_ 0 6⟩,(dBelow' hB nq).setCell (p:=⟨w.heap.size+1,0,none⟩) (by simp) _⟩
     ·have g2:decide (4096≤v)=false:=by rw [decide_eq_false_iff_not];exact e2
      have E1:=lh e1
      have E2:=lh e2
      clear e1 e2
      gi_wp2
      refine wpIn_round_quiet rfl (by kernel_rfl) (by kernel_rfl) (by kernel_rfl) ?_
      repeat (gi_big_quiet_step (fail))
      refine wpQuietIn_nil ?_
      rintro _ ⟨nq,rfl⟩
      gi_wp2
      obtain ⟨h2,h3,h4,h5,hB,h0,hv⟩:=HS.out
      have e1:=E1.out
      have e2:=E2.out
      exact ⟨((keeps_drewN W nq).trans (KeepsOthers.setCell _ _ _)).from _,kpC_t (kpC_drewN _ W nq) (kpC_set _ _ _ (by show w.heap.size+1+1<_;omega)),⟨by simp;omega,_,by rw [List.map_append];refine SC.out.trans ?_;rw [Option.bind_some,if_pos (by rw [hv,pw];omega)],by rw [List.length_set];exact h2,(h3.drewN nq).set_ c 0,(h4.drewN nq).other _ (by simp;omega),(h5.drewN nq).other _ (by simp)⟩,(dBelow' hB nq).setCell (p:=⟨w.heap.size+1+1,c,none⟩) (by simp;omega) _⟩
  case done=>
   rintro D pre W hD hys ⟨⟨h0,ys,h1,h2,h3,h4,h5⟩,hB⟩ hK
   rw [hys] at h1
   obtain ⟨z0,z1,z2,z3,z4,z5,z6,z7,z8,z9,z10,z11,rfl⟩:=list_12 h2
   rw [← XS.out] at hr
   rw [h1] at hr
   have c0:W.cell? ⟨w.heap.size+1+1,0,none⟩=some (.int .i64 z0):=h3.cell (c:=0) (by simp)
   have c1:W.cell? ⟨w.heap.size+1+1,1,none⟩=some (.int .i64 z1):=h3.cell (c:=1) (by simp)
   have c2:W.cell? ⟨w.heap.size+1+1,2,none⟩=some (.int .i64 z2):=h3.cell (c:=2) (by simp)
   have c3:W.cell? ⟨w.heap.size+1+1,3,none⟩=some (.int .i64 z3):=h3.cell (c:=3) (by simp)
   have c4:W.cell? ⟨w.heap.size+1+1,4,none⟩=some (.int .i64 z4):=h3.cell (c:=4) (by simp)
   have c5:W.cell? ⟨w.heap.size+1+1,5,none⟩=some (.int .i64 z5):=h3.cell (c:=5) (by simp)
   have c6:W.cell? ⟨w.heap.size+1+1,6,none⟩=some (.int .i64 z6):=h3.cell (c:=6) (by simp)
   have c7:W.cell? ⟨w.heap.size+1+1,7,none⟩=some (.int .i64 z7):=h3.cell (c:=7) (by simp)
   have c8:W.cell? ⟨w.heap.size+1+1,8,none⟩=some (.int .i64 z8):=h3.cell (c:=8) (by simp)
   have c9:W.cell? ⟨w.heap.size+1+1,9,none⟩=some (.int .i64 z9):=h3.cell (c:=9) (by simp)
   have c10:W.cell? ⟨w.heap.size+1+1,10,none⟩=some (.int .i64 z10):=h3.cell (c:=10) (by simp)
   have c11:W.cell? ⟨w.heap.size+1+1,11,none⟩=some (.int .i64 z11):=h3.cell (c:=11) (by simp)
   have b0:W.cell? ⟨w.heap.size,0,none⟩=some (.int .i64 op):=h4.cell (c:=0) (by simp)
   have b1':W.cell? ⟨w.heap.size,1,none⟩=some (.int .i64 fo):=h4.cell (c:=1) (by simp)
   have f5:=h5.free 0
   have g5:=h5.cell (c:=0) (by simp)
   have HS:=lh (And.intro h5 (And.intro hB hK))
   have hl5:=h5
   clear h1 h2 h3 h4 h5 hB q0 q1 q2 q3
   by_cases hE:[z0,z1,z2,z3,z4,z5,z6,z7,z8,z9,z10,z11]=[op,fo,0,0,0,0,0,0,0,0,0,0]
   ·have eq:eqiB z0 z1 z2 z3 z4 z5 z6 z7 z8 z9 z10 z11 op fo 0 0 0 0 0 0 0 0 0 0=true:=by rw [eqiB_iff];simpa using hE
    have fin:=lh (show chk op fo [op,fo,r1,r2,x2,b1,d1,b2,d2,l1,l2,i2]=0 from by rw [← XS.out];refine hr.out.trans ?_;show (if _ then (0:Int) else 6)=0;rw [if_pos hE])
    clear hr
    simp only [List.cons.injEq,and_true] at hE
    obtain ⟨rfl,rfl,rfl,rfl,rfl,rfl,rfl,rfl,rfl,rfl,rfl,rfl⟩:=hE
    clear eq
    gi_wp2
    obtain ⟨h5,hB,hK⟩:=HS.out
    have hK':=(KeepsOthers.setCell W ⟨w.heap.size+1,0,none⟩ (.int .i64 0)).same D _ hK rfl
    refine ⟨by simp,.inl ⟨_,_,rfl,run_takeDeferred hK',?_⟩⟩
    have hc5:=cell_kept ((h5.set_ 0 0).cell (c:=0) (by simp)) (grownBy_putObj' _ D (.deferred none)) (fun r e=>by cases e;exact ⟨_,hK',rfl⟩)
    refine ⟨.int .i64 0,?_,by rw [fin.out],(hB.setCell (p:=⟨w.heap.size+1,0,none⟩) (by simp) _).trans (belowK_b (w:=w) (Nat.le_refl _) _ D _ _ (by omega) hK' rfl rfl)⟩
    simp [results,Tryz.results41,go_sem,hc5]
   ·have eq:eqiB z0 z1 z2 z3 z4 z5 z6 z7 z8 z9 z10 z11 op fo 0 0 0 0 0 0 0 0 0 0=false:=by rw [Bool.eq_false_iff];intro h;rw [eqiB_iff] at h;exact hE (by simpa using h)
    have hq:=fun W=>eqi_run z0 z1 z2 z3 z4 z5 z6 z7 z8 z9 z10 z11 op fo 0 0 0 0 0 0 0 0 0 0 W
    simp only [eq] at hq
    have fin:=lh (show chk op fo [op,fo,r1,r2,x2,b1,d1,b2,d2,l1,l2,i2]=6 from by rw [← XS.out];refine hr.out.trans ?_;show (if _ then (0:Int) else 6)=6;rw [if_neg hE])
    clear hr hE
    gi_wp2
    obtain ⟨h5,hB,hK⟩:=HS.out
    have hK':=(KeepsOthers.setCell W ⟨w.heap.size+1,0,none⟩ (.int .i64 6)).same D _ hK rfl
    refine ⟨by simp,.inl ⟨_,_,rfl,run_takeDeferred hK',?_⟩⟩
    have hc5:=cell_kept ((h5.set_ 0 6).cell (c:=0) (by simp)) (grownBy_putObj' _ D (.deferred none)) (fun r e=>by cases e;exact ⟨_,hK',rfl⟩)
    refine ⟨.int .i64 6,?_,by rw [fin.out],(hB.setCell (p:=⟨w.heap.size+1,0,none⟩) (by simp) _).trans (belowK_b (w:=w) (Nat.le_refl _) _ D _ _ (by omega) hK' rfl rfl)⟩
    simp [results,Tryz.results41,go_sem,hc5]
  case stop=>
   rintro D c pre W hD ⟨cc,hcc,hpre⟩ ⟨⟨rfl,hsc,h5⟩,hB⟩ hK
   have fin:=lh (show chk op fo [op,fo,r1,r2,x2,b1,d1,b2,d2,l1,l2,i2]=6 from by rw [hr.out,← XS.out,scan_take (c:=cc) (by rw [← hpre];exact hsc)])
   gi_wp2
   refine ⟨by simp,.inl ⟨_,_,rfl,run_takeDeferred hK,?_⟩⟩
   have hc5:=cell_kept (h5.cell (c:=0) (by simp)) (grownBy_putObj' _ D (.deferred none)) (fun r e=>by cases e;exact ⟨_,hK,rfl⟩)
   refine ⟨.int .i64 6,?_,by rw [fin.out],hB.trans (belowK_b (w:=w) (Nat.le_refl _) W D _ _ (by omega) hK rfl rfl)⟩
   simp [results,Tryz.results41,go_sem,hc5]
 ·have hr:=lh (show chk op fm [op,fm,r1,r2,x2,b1,d1,b2,d2,l1,l2,i2]=80 from by unfold chk;rw [if_neg (by rw [hio,hfo];exact hA)])
  cases io
  ·clear hA hio hfo
   gi_wp2_with (refine ⟨trivial,?_⟩;gi_at_call 54;refine (callsIn_wide.2 (FC.out _)).mono ?_;rintro e w1 ⟨rfl,n1,rfl⟩)
   refine ⟨.int .i64 80,by simp [results,Tryz.results41,go_sem],by rw [hr.out],?_⟩
   exact (dBelow' (((Below.refl w.heap.size w).alloc (Nat.le_refl _) _).alloc (by simp) _) n1).setCell (p:=⟨w.heap.size+1,0,none⟩) (by simp) _
  ·have hne:(fo != fm)=true:=by rw [bne_iff_ne];exact fun e=>hA ⟨rfl,e⟩
   clear hA hio hfo
   gi_wp2_with (refine ⟨trivial,?_⟩;gi_at_call 54;refine (callsIn_wide.2 (FC.out _)).mono ?_;rintro e w1 ⟨rfl,n1,rfl⟩)
   refine ⟨.int .i64 80,by simp [results,Tryz.results41,go_sem],by rw [hr.out],?_⟩
   exact (dBelow' (((Below.refl w.heap.size w).alloc (Nat.le_refl _) _).alloc (by simp) _) n1).setCell (p:=⟨w.heap.size+1,0,none⟩) (by simp) _
end Go.Proofs.YtljajnaclpbecaaGreatDoor
namespace Go.Proofs.YtljajnaclpbecaaGreatDoor
open Go.RowKit
set_option maxRecDepth 1000000
set_option maxHeartbeats 8000000
set_option linter.unusedVariables false
set_option linter.unusedSimpArgs false
def mcC (is os rs:List Int) (ps:List Value) (s:Value) (ov:Bool):List Value:=is.map (Value.int .i64)++(os.map (Value.int .u32)++(rs.map (Value.int .u32)++(ps++[s,.bool ov])))
def Mc (w:World) (g:Nat) (is os rs:List Int) (ps:List Value) (s:Value) (ov:Bool):Prop:=w.heap[g]?=some (.cells (mcC is os rs ps s ov).toArray 128 (0,0))∧is.length=12∧os.length=16∧rs.length=16∧ps.length=10
section
variable {w w':World} {g:Nat} {is os rs:List Int} {ps:List Value} {s:Value} {ov:Bool}
theorem Mc.cellAt (h:Mc w g is os rs ps s ov) (c:Nat):w.cell? ⟨g,c,none⟩=(mcC is os rs ps s ov)[c]?:=by rw [cell_blk h.1 c];simp
theorem Mc.lt (h:Mc w g is os rs ps s ov):g<w.heap.size:=(Array.getElem?_eq_some_iff.1 h.1).1
theorem Mc.ci (h:Mc w g is os rs ps s ov) {c:Nat} (hc:c<12):w.cell? ⟨g,c,none⟩=some (.int .i64 (is.getD c 0)):=by
 obtain ⟨h0,h1,h2,h3,h4⟩:=h
 rw [Mc.cellAt ⟨h0,h1,h2,h3,h4⟩];unfold mcC
 rw [List.getElem?_append_left (by simp;omega),List.getElem?_map,List.getD_eq_getElem?_getD,List.getElem?_eq_getElem (by omega)];rfl
theorem Mc.co (h:Mc w g is os rs ps s ov) {n:Nat} (hn:n<16):w.cell? ⟨g,12+n,none⟩=some (.int .u32 (os.getD n 0)):=by
 obtain ⟨h0,h1,h2,h3,h4⟩:=h
 rw [Mc.cellAt ⟨h0,h1,h2,h3,h4⟩];unfold mcC
 rw [List.getElem?_append_right (by simp;omega),List.getElem?_append_left (by simp;omega),List.length_map,h1,show 12+n - 12=n by omega,List.getElem?_map,List.getD_eq_getElem?_getD,List.getElem?_eq_getElem (by omega)];rfl
theorem Mc.cr (h:Mc w g is os rs ps s ov) {n:Nat} (hn:n<16):w.cell? ⟨g,28+n,none⟩=some (.int .u32 (rs.getD n 0)):=by
 obtain ⟨h0,h1,h2,h3,h4⟩:=h
 rw [Mc.cellAt ⟨h0,h1,h2,h3,h4⟩];unfold mcC
 rw [List.getElem?_append_right (by simp;omega),List.getElem?_append_right (by simp;omega),List.getElem?_append_left (by simp;omega),List.length_map,List.length_map,h1,h2,show 28+n - 12 - 16=n by omega,List.getElem?_map,List.getD_eq_getElem?_getD,List.getElem?_eq_getElem (by omega)];rfl
theorem Mc.cp (h:Mc w g is os rs ps s ov) {n:Nat} (hn:n<10):w.cell? ⟨g,44+n,none⟩=some (ps.getD n undef):=by
 obtain ⟨h0,h1,h2,h3,h4⟩:=h
 rw [Mc.cellAt ⟨h0,h1,h2,h3,h4⟩];unfold mcC
 rw [List.getElem?_append_right (by simp;omega),List.getElem?_append_right (by simp;omega),List.getElem?_append_right (by simp;omega),List.getElem?_append_left (by simp;omega),List.length_map,List.length_map,List.length_map,h1,h2,h3,show 44+n - 12 - 16 - 16=n by omega,List.getD_eq_getElem?_getD,List.getElem?_eq_getElem (by omega)];rfl
theorem Mc.cs (h:Mc w g is os rs ps s ov):w.cell? ⟨g,54,none⟩=some s:=by
 obtain ⟨h0,h1,h2,h3,h4⟩:=h
 rw [Mc.cellAt ⟨h0,h1,h2,h3,h4⟩];unfold mcC
 rw [List.getElem?_append_right (by simp;omega),List.getElem?_append_right (by simp;omega),List.getElem?_append_right (by simp;omega),List.getElem?_append_right (by simp;omega),List.length_map,List.length_map,List.length_map,h1,h2,h3,h4];rfl
theorem Mc.cv (h:Mc w g is os rs ps s ov):w.cell? ⟨g,55,none⟩=some (.bool ov):=by
 obtain ⟨h0,h1,h2,h3,h4⟩:=h
 rw [Mc.cellAt ⟨h0,h1,h2,h3,h4⟩];unfold mcC
 rw [List.getElem?_append_right (by simp;omega),List.getElem?_append_right (by simp;omega),List.getElem?_append_right (by simp;omega),List.getElem?_append_right (by simp;omega),List.length_map,List.length_map,List.length_map,h1,h2,h3,h4];rfl
theorem Mc.free (h:Mc w g is os rs ps s ov) (c:Nat):w.frozen? ⟨g,c,none⟩=false:=by simp [World.frozen?,h.1]
theorem Mc.kept (h:Mc w g is os rs ps s ov) (hk:w'.heap[g]?=w.heap[g]?):Mc w' g is os rs ps s ov:=⟨hk.trans h.1,h.2⟩
theorem Mc.keep (h:Mc w g is os rs ps s ov) (hb:Below w.heap.size w w'):Mc w' g is os rs ps s ov:=h.kept (hb.block _ h.lt)
theorem Mc.alloc (h:Mc w g is os rs ps s ov) (o:Obj):Mc (w.alloc o) g is os rs ps s ov:=h.kept (Below.heap_alloc w o _ h.lt)
theorem Mc.drewN (h:Mc w g is os rs ps s ov) (n:Nat):Mc (w.drewN n) g is os rs ps s ov:=h
theorem Mc.other (h:Mc w g is os rs ps s ov) {p:Addr} (v:Value) (hp:p.block≠g):Mc (w.setCell p v) g is os rs ps s ov:=h.kept (Below.heap_setCell w p v g (Ne.symm hp))
theorem Mc.setr (h:Mc w g is os rs ps s ov) {n:Nat} (hn:n<16) (v:Int):Mc (w.setCell ⟨g,28+n,none⟩ (.int .u32 v)) g is os (rs.set n v) ps s ov:=by
 obtain ⟨h0,h1,h2,h3,h4⟩:=h
 refine ⟨?_,h1,h2,by simpa using h3,h4⟩
 rw [setCell_eq_setRow w g (28+n) _ _ (0,0) _ h0,setRow_heap w g _ _ _ _ h0,List.setIfInBounds_toArray]
 congr 3
 unfold mcC
 rw [List.set_append_right _ _ (by simp;omega),List.set_append_right _ _ (by simp;omega),List.set_append_left _ _ (by simp;omega),List.length_map,List.length_map,h1,h2,show 28+n - 12 - 16=n by omega,List.map_set]
theorem Mc.setp (h:Mc w g is os rs ps s ov) {n:Nat} (hn:n<10) (v:Value):Mc (w.setCell ⟨g,44+n,none⟩ v) g is os rs (ps.set n v) s ov:=by
 obtain ⟨h0,h1,h2,h3,h4⟩:=h
 refine ⟨?_,h1,h2,h3,by simpa using h4⟩
 rw [setCell_eq_setRow w g (44+n) _ _ (0,0) _ h0,setRow_heap w g _ _ _ _ h0,List.setIfInBounds_toArray]
 congr 3
 unfold mcC
 rw [List.set_append_right _ _ (by simp;omega),List.set_append_right _ _ (by simp;omega),List.set_append_right _ _ (by simp;omega),List.set_append_left _ _ (by simp;omega),List.length_map,List.length_map,List.length_map,h1,h2,h3,show 44+n - 12 - 16 - 16=n by omega]
theorem Mc.setv (h:Mc w g is os rs ps s ov) (b:Bool):Mc (w.setCell ⟨g,55,none⟩ (.bool b)) g is os rs ps s b:=by
 obtain ⟨h0,h1,h2,h3,h4⟩:=h
 refine ⟨?_,h1,h2,h3,h4⟩
 rw [setCell_eq_setRow w g 55 _ _ (0,0) _ h0,setRow_heap w g _ _ _ _ h0,List.setIfInBounds_toArray]
 congr 3
 unfold mcC
 rw [List.set_append_right _ _ (by simp;omega),List.set_append_right _ _ (by simp;omega),List.set_append_right _ _ (by simp;omega),List.set_append_right _ _ (by simp;omega),List.length_map,List.length_map,List.length_map,h1,h2,h3,h4]
 rfl
end
structure Ch (w w':World) (L:List Nat):Prop where
 os:w'.os=w.os
 tape:w'.tape=w.tape
 output:w'.output=w.output
 size:w.heap.size≤w'.heap.size
 block:∀k,k<w.heap.size→k∉L→w'.heap[k]?=w.heap[k]?
theorem Ch.refl (w:World) (L:List Nat):Ch w w L:=⟨rfl,rfl,rfl,Nat.le_refl _,fun _ _ _=>rfl⟩
theorem Ch.trans {a b c:World} {L:List Nat} (h:Ch a b L) (k:Ch b c L):Ch a c L:=⟨k.os.trans h.os,k.tape.trans h.tape,k.output.trans h.output,Nat.le_trans h.size k.size,fun i hi hL=>(k.block i (Nat.lt_of_lt_of_le hi h.size) hL).trans (h.block i hi hL)⟩
theorem Ch.mono {a b:World} {L M:List Nat} (h:Ch a b L) (hs:∀k,k∈L→k∈M):Ch a b M:=⟨h.os,h.tape,h.output,h.size,fun i hi hM=>h.block i hi (fun hk=>hM (hs i hk))⟩
theorem Ch.of_below {a b:World} (h:Below a.heap.size a b) (L:List Nat):Ch a b L:=⟨h.os,h.tape,h.output,h.size,fun i hi _=>h.block i hi⟩
theorem Ch.setCell {a b:World} {L:List Nat} (h:Ch a b L) {p:Addr} (hp:p.block∈L) (v:Value):Ch a (b.setCell p v) L:=
 h.trans ⟨rfl,rfl,rfl,by simp [World.setCell],fun k _ hk=>Below.heap_setCell b p v k (fun e=>hk (e▸hp))⟩
theorem Ch.setNew {a b:World} {L:List Nat} (h:Ch a b L) {p:Addr} (hp:a.heap.size≤p.block) (v:Value):Ch a (b.setCell p v) L:=
 ⟨h.os,h.tape,h.output,by have:=h.size;simpa [World.setCell] using this,fun k hk hL=>(Below.heap_setCell b p v k (by omega)).trans (h.block k hk hL)⟩
theorem Ch.drewN {a b:World} {L:List Nat} (h:Ch a b L) (n:Nat):Ch a (b.drewN n) L:=⟨h.os,h.tape,h.output,h.size,h.block⟩
theorem Ch.alloc {a b:World} {L:List Nat} (h:Ch a b L) (o:Obj):Ch a (b.alloc o) L:=⟨h.os,h.tape,h.output,by have:=h.size;simp;omega,fun k hk hL=>(Below.heap_alloc b o k (Nat.lt_of_lt_of_le hk h.size)).trans (h.block k hk hL)⟩
theorem Ch.below {a b:World} {L:List Nat} {B:Nat} (h:Ch a b L) (hB:B≤a.heap.size) (hL:∀k,k∈L→B≤k):Below B a b:=⟨h.os,h.tape,h.output,h.size,fun i hi=>h.block i (by omega) (fun hk=>by have:=hL i hk;omega)⟩
theorem Ch.kept {a b:World} {L:List Nat} (h:Ch a b L) {k:Nat} (hk:k<a.heap.size) (hL:k∉L):b.heap[k]?=a.heap[k]?:=h.block k hk hL
theorem sign_c (n:Int) (w:World) :
  Calls Tryz.prog 162 #[.int .i64 n] w fun e w'=>e=.returned (.int .i64 (sgn n))∧w=w':=by
 by_cases h0:n=0
 ·subst h0
  go_enter Tryz.func162,Tryz.ntmps162
  go_wp2
  go_ret
  exact ⟨rfl,rfl⟩
 ·have e0:(n == 0)=false:=by simpa using h0
  by_cases h1:n<0
  ·have hs:=lh (sgn_neg n h1)
   go_enter Tryz.func162,Tryz.ntmps162
   go_wp2
   go_ret
   exact ⟨by rw [hs.out];rfl,rfl⟩
  ·have hs:=lh (sgn_pos n (by omega))
   go_enter Tryz.func162,Tryz.ntmps162
   go_wp2
   go_ret
   exact ⟨by rw [hs.out];rfl,rfl⟩
theorem test_c (a:Int) (ha:0≤a) (ha':a≤4294967295) (w:World) :
  Calls Tryz.prog 164 #[.int .u32 a] w fun e w'=>e=.returned (.int .i64 (sgn (sg a)))∧w=w':=by
 have ea:=wrap32_sg a ha ha'
 have la:=sg_lo a ha
 have ua:=sg_hi a ha'
 go_enter Tryz.func164,Tryz.ntmps164
 go_wp2_with (go_at_call 162;refine (sign_c _ _).mono ?_;rintro e w' ⟨rfl,rfl⟩)
 go_ret
 exact ⟨rfl,rfl⟩
theorem result_c (n:Int) (hn:-9223372036854775808≤n) (hn':n≤9223372036854775807) (w:World) :
  Calls Tryz.prog 170 #[.int .i64 n] w fun e w'=>e=.returned (.tuple #[.int .u32 (lo32 n),.int .i64 (rcc n),.bool (ovf n)])∧w=w':=by
 have et:=fits_test n hn hn'
 cases ho:ovf n
 ·have hr:=lh (rcc_in n ho)
  rw [ho] at et
  clear ho
  go_enter Tryz.func170,Tryz.ntmps170
  go_wp2_with (go_at_call 162;refine (sign_c _ _).mono ?_;rintro e w' ⟨rfl,rfl⟩)
  go_ret3
  exact ⟨by rw [hr.out];rfl,rfl⟩
 ·have hr:=lh (rcc_over n ho)
  rw [ho] at et
  clear ho
  go_enter Tryz.func170,Tryz.ntmps170
  go_wp2_with (go_at_call 162;refine (sign_c _ _).mono ?_;rintro e w' ⟨rfl,rfl⟩)
  go_ret3
  exact ⟨by rw [hr.out];rfl,rfl⟩
theorem add_c (a b:Int) (ha:0≤a) (ha':a≤4294967295) (hb:0≤b) (hb':b≤4294967295) (w:World) :
  Calls Tryz.prog 135 #[.int .u32 a,.int .u32 b] w fun e w'=>e=.returned (.tuple #[.int .u32 (lo32 (sg a+sg b)),.int .i64 (rcc (sg a+sg b)),.bool (ovf (sg a+sg b))])∧w=w':=by
 have ea:=wrap32_sg a ha ha'
 have la:=sg_lo a ha
 have ua:=sg_hi a ha'
 have eb:=wrap32_sg b hb hb'
 have lb:=sg_lo b hb
 have ub:=sg_hi b hb'
 go_enter Tryz.func135,Tryz.ntmps135
 go_wp2_with (go_at_call 170;refine (result_c _ (by omega) (by omega) _).mono ?_;rintro e w' ⟨rfl,rfl⟩)
 go_ret3
 exact ⟨rfl,rfl⟩
theorem sub_c (a b:Int) (ha:0≤a) (ha':a≤4294967295) (hb:0≤b) (hb':b≤4294967295) (w:World) :
  Calls Tryz.prog 136 #[.int .u32 a,.int .u32 b] w fun e w'=>e=.returned (.tuple #[.int .u32 (lo32 (sg a - sg b)),.int .i64 (rcc (sg a - sg b)),.bool (ovf (sg a - sg b))])∧w=w':=by
 have ea:=wrap32_sg a ha ha'
 have la:=sg_lo a ha
 have ua:=sg_hi a ha'
 have eb:=wrap32_sg b hb hb'
 have lb:=sg_lo b hb
 have ub:=sg_hi b hb'
 go_enter Tryz.func136,Tryz.ntmps136
 go_wp2_with (go_at_call 170;refine (result_c _ (by omega) (by omega) _).mono ?_;rintro e w' ⟨rfl,rfl⟩)
 go_ret3
 exact ⟨rfl,rfl⟩
theorem complement_c (a:Int) (ha:0≤a) (ha':a≤4294967295) (w:World) :
  Calls Tryz.prog 169 #[.int .u32 a] w fun e w'=>e=.returned (.tuple #[.int .u32 (lo32 (-sg a)),.int .i64 (rcc (-sg a)),.bool (ovf (-sg a))])∧w=w':=by
 have hz:=lh (show sg 0 - sg a = -sg a from by rw [sg_zero];omega)
 go_enter Tryz.func169,Tryz.ntmps169
 go_wp2_with (go_at_call 136;refine (sub_c 0 a (by omega) (by omega) ha ha' _).mono ?_;rintro e w' ⟨rfl,rfl⟩)
 go_ret3
 exact ⟨by rw [← hz.out];rfl,rfl⟩
theorem carry_c (v:Int) (high:Bool) (w:World) :
  Calls Tryz.prog 171 #[.int .u32 v,.bool high] w fun e w'=>e=.returned (.int .i64 (lcc v high))∧w=w':=by
 by_cases h0:v=0
 ·subst h0
  cases high
  all_goals
   go_enter Tryz.func171,Tryz.ntmps171
   go_wp2
   go_ret
   exact ⟨rfl,rfl⟩
 ·have e0:(v != 0)=true:=by simpa using h0
  have hs:=lh h0
  clear h0
  cases high
  all_goals
   go_enter Tryz.func171,Tryz.ntmps171
   go_wp2
   go_ret
   exact ⟨by simp [lcc,hs.out],rfl⟩
theorem addl_c (a b:Int) (ha:0≤a) (ha':a≤4294967295) (hb:0≤b) (hb':b≤4294967295) (w:World) :
  Calls Tryz.prog 137 #[.int .u32 a,.int .u32 b] w fun e w'=>e=.returned (.tuple #[.int .u32 (lo32 (a+b)),.int .i64 (lcc (lo32 (a+b)) (decide (4294967296≤a+b)))])∧w=w':=by
 have hs:=lh (sum_high a b ha ha' hb hb')
 have hl:=lo32_is (a+b)
 go_enter Tryz.func137,Tryz.ntmps137
 go_wp2_with (go_at_call 171;refine (carry_c _ _ _).mono ?_;rintro e w' ⟨rfl,rfl⟩)
 go_ret2
 exact ⟨by rw [← hs.out];rfl,rfl⟩
theorem subl_c (a b:Int) (ha:0≤a) (ha':a≤4294967295) (hb:0≤b) (hb':b≤4294967295) (w:World) :
  Calls Tryz.prog 138 #[.int .u32 a,.int .u32 b] w fun e w'=>e=.returned (.tuple #[.int .u32 (lo32 (a - b)),.int .i64 (lcc (lo32 (a - b)) (decide (b≤a)))])∧w=w':=by
 have hl:=lo32_is (a - b)
 go_enter Tryz.func138,Tryz.ntmps138
 go_wp2_with (go_at_call 171;refine (carry_c _ _ _).mono ?_;rintro e w' ⟨rfl,rfl⟩)
 go_ret2
 exact ⟨rfl,rfl⟩
theorem compare_c (a b:Int) (ha:0≤a) (ha':a≤4294967295) (hb:0≤b) (hb':b≤4294967295) (w:World) :
  Calls Tryz.prog 103 #[.int .u32 a,.int .u32 b] w fun e w'=>e=.returned (.int .i64 (sgn (sg a - sg b)))∧w=w':=by
 have ea:=wrap32_sg a ha ha'
 have la:=sg_lo a ha
 have ua:=sg_hi a ha'
 have eb:=wrap32_sg b hb hb'
 have lb:=sg_lo b hb
 have ub:=sg_hi b hb'
 go_enter Tryz.func103,Tryz.ntmps103
 go_wp2_with (go_at_call 162;refine (sign_c _ _).mono ?_;rintro e w' ⟨rfl,rfl⟩)
 go_ret
 exact ⟨rfl,rfl⟩
theorem comparel_c (a b:Int) (ha:0≤a) (ha':a≤4294967295) (hb:0≤b) (hb':b≤4294967295) (w:World) :
  Calls Tryz.prog 121 #[.int .u32 a,.int .u32 b] w fun e w'=>e=.returned (.int .i64 (sgn (a - b)))∧w=w':=by
 go_enter Tryz.func121,Tryz.ntmps121
 go_wp2_with (go_at_call 162;refine (sign_c _ _).mono ?_;rintro e w' ⟨rfl,rfl⟩)
 go_ret
 exact ⟨rfl,rfl⟩
theorem mul_c (a b:Int) (ha:0≤a) (ha':a≤4294967295) (hb:0≤b) (hb':b≤4294967295) (w:World) :
  Calls Tryz.prog 140 #[.int .u32 a,.int .u32 b] w fun e w'=>e=.returned (.tuple #[.int .u32 (lo32 (sg a*sg b / 4294967296)),.int .u32 (lo32 (sg a*sg b))])∧w=w':=by
 have ea:=wrap32_sg a ha ha'
 have la:=sg_lo a ha
 have ua:=sg_hi a ha'
 have eb:=wrap32_sg b hb hb'
 have lb:=sg_lo b hb
 have ub:=sg_hi b hb'
 have p0:=prod_lo a b ha ha' hb hb'
 have p1:=prod_hi a b ha ha' hb hb'
 go_enter Tryz.func140,Tryz.ntmps140
 go_wp2
 go_ret2
 exact ⟨rfl,rfl⟩
theorem double_c (a b:Int) (ha:0≤a) (ha':a≤4294967295) (hb:0≤b) (hb':b≤4294967295) (w:World) :
  Calls Tryz.prog 165 #[.int .u32 a,.int .u32 b] w fun e w'=>e=.returned (.int .u64 (dbl a b))∧w=w':=by
 have ho:=or_dbl a b ha ha' hb hb'
 go_enter Tryz.func165,Tryz.ntmps165
 go_wp2
 go_ret
 exact ⟨rfl,rfl⟩
theorem div_c (a b d:Int) (ha:0≤a) (ha':a≤4294967295) (hb:0≤b) (hb':b≤4294967295) (hd:0≤d) (hd':d≤4294967295) (w:World) :
  Calls Tryz.prog 167 #[.int .u32 a,.int .u32 b,.int .u32 d] w fun e w'=>e=.returned (.tuple #[.int .u32 (drem (sg64 (dbl a b)) (sg d)),.int .u32 (dquo (sg64 (dbl a b)) (sg d)),.bool (dok (sg64 (dbl a b)) (sg d))])∧w=w':=by
 have x0:=dbl_lo a b ha hb
 have x1:=dbl_hi a b ha' hb'
 have ex:=wrap64_sg (dbl a b) x0 x1
 have y0:=sg64_lo (dbl a b) x0
 have y1:=sg64_hi (dbl a b) x1
 have ed:=wrap32_sg d hd hd'
 have ld:=sg_lo d hd
 have ud:=sg_hi d hd'
 by_cases hz:sg d=0
 ·have hq:=lh (dok_zero (sg64 (dbl a b)))
  have eb:(sg d == 0)=true:=by simpa using hz
  have hz':=lh hz
  clear hz
  go_enter Tryz.func167,Tryz.ntmps167
  go_wp2_with (go_at_call 165;refine (double_c _ _ ha ha' hb hb' _).mono ?_;rintro e w' ⟨rfl,rfl⟩)
  go_ret3
  exact ⟨by simp [hz'.out,drem,dquo,hq.out],rfl⟩
 ·have eb:(sg d == 0)=false:=by simpa using hz
  have hz':=lh hz
  have et:=quo_test (sg64 (dbl a b)) (sg d) hz y0 y1
  cases hq:dok (sg64 (dbl a b)) (sg d)
  ·rw [hq] at et
   have hq':=lh hq
   clear hq
   go_enter Tryz.func167,Tryz.ntmps167
   go_wp2_with (go_at_call 165;refine (double_c _ _ ha ha' hb hb' _).mono ?_;rintro e w' ⟨rfl,rfl⟩)
   go_ret3
   exact ⟨by simp [drem,dquo,hq'.out],rfl⟩
  ·rw [hq] at et
   have hq':=lh hq
   clear hq
   have q0:=(dok_in _ _ hq'.out).2.1
   have q1:=(dok_in _ _ hq'.out).2.2
   go_enter Tryz.func167,Tryz.ntmps167
   go_wp2_with (go_at_call 165;refine (double_c _ _ ha ha' hb hb' _).mono ?_;rintro e w' ⟨rfl,rfl⟩)
   go_ret3
   exact ⟨by rw [drem_ok _ _ hq'.out,dquo_ok _ _ hq'.out];rfl,rfl⟩
theorem places_c (n:Int) (hn:-9223372036854775808≤n) (hn':n≤9223372036854775807) (w:World) :
  Calls Tryz.prog 163 #[.int .i64 n] w fun e w'=>e=.returned (.int .u64 (↑(plc n)))∧w=w':=by
 have e1:=lh (show IntKind.u64.wrap n % 64=(plc n:Int) from by rw [IntKind.wrap_u64];unfold plc;omega)
 have b0:0≤IntKind.u64.wrap n:=by rw [IntKind.wrap_u64];omega
 go_enter Tryz.func163,Tryz.ntmps163
 go_wp2
 go_ret
 exact ⟨by rw [← e1.out];rfl,rfl⟩
def baseV (os:List Int) (n:Nat):Int:=if n=0 then 0 else os.getD n 0
def sumB (os:List Int):List Nat→Int
 | []=>0
 | n :: l=>baseV os n+sumB os l
theorem sumB_app (os:List Int):∀ (l m:List Nat),sumB os (l++m)=sumB os l+sumB os m
 | [],m=>by simp [sumB]
 | n :: l,m=>by simp only [List.cons_append,sumB,sumB_app os l m];omega
theorem getD_in {os:List Int} (ro:∀z∈os,0≤z∧z≤4294967295) (n:Nat):0≤os.getD n 0∧os.getD n 0≤4294967295:=by
 rw [List.getD_eq_getElem?_getD]
 rcases Nat.lt_or_ge n os.length with h | h
 ·rw [List.getElem?_eq_getElem h];exact ro _ (List.getElem_mem _)
 ·rw [List.getElem?_eq_none h];exact ⟨by decide,by decide⟩
theorem baseV_in {os:List Int} (ro:∀z∈os,0≤z∧z≤4294967295) (n:Nat):0≤baseV os n∧baseV os n≤4294967295:=by
 unfold baseV;split
 ·exact ⟨by decide,by decide⟩
 ·exact getD_in ro n
theorem sumB_in {os:List Int} (ro:∀z∈os,0≤z∧z≤4294967295):∀l:List Nat,0≤sumB os l∧sumB os l≤4294967295*l.length
 | []=>by simp [sumB]
 | n :: l=>by
  have h1:=baseV_in ro n
  have h2:=sumB_in ro l
  simp only [sumB,List.length_cons]
  omega
theorem address_c (g b:Nat) (d:Int) (ns:List Nat) (cap:Nat) (is os rs:List Int) (ps:List Value) (s:Value) (ov:Bool) (w:World) (hm:Mc w g is os rs ps s ov) (ro:∀z∈os,0≤z∧z≤4294967295) (hd:0≤d) (hd':d≤4095) (hl:ns.length≤2) (hn:∀n∈ns,n<16) (hc:∀i,i<ns.length→w.cell? ⟨b,i,none⟩=some (.int .i64 ((ns.getD i 0:Nat):Int))):Calls Tryz.prog 112 #[.pointer (some ⟨g,0,none⟩),.int .i64 d,.slice (some ⟨b,0,none⟩) ns.length cap] w fun e w'=>e=.returned (.int .i64 ((d+sumB os ns) % 16777216))∧w=w':=by
 have HM:=lh hm
 have HC:=lh hc
 have HN:=lh hn
 have RO:=lh ro
 obtain ⟨L,hL⟩:∃L,ns.length=L:=⟨_,rfl⟩
 rw [hL] at hl
 have LL:=lh hL
 simp only [hL]
 clear hm hc hn ro hL
 go_enter Tryz.func112,Tryz.ntmps112
 go_wp2
 go_loopw [1,11] (fun dv x wr=>∃k:Nat,k≤L∧x=.int .i64 (k:Int)∧dv=.int .i64 (d+sumB os (ns.take k))∧wr=w) (fun _ x _=>L - (intOf x).toNat)
 case atStart=>exact ⟨0,by omega,rfl,by simp [sumB],rfl⟩
 case round=>
  obtain ⟨k,hk,rfl,rfl,hw⟩:=hrel
  subst hw
  by_cases hlt:k<L
  ·have hI:(k:Int)<(L:Int):=by omega
   have c0:=HC.out k (by have:=LL.out;omega)
   obtain ⟨n,hn⟩:∃n,ns.getD k 0=n:=⟨_,rfl⟩
   rw [hn] at c0
   have ht:ns.take (k+1)=ns.take k++[n]:=by
    rw [List.take_add_one,← hn,List.getD_eq_getElem?_getD,List.getElem?_eq_getElem (by have:=LL.out;omega)];rfl
   have hn16:n<16:=HN.out n (by rw [← hn,List.getD_eq_getElem?_getD,List.getElem?_eq_getElem (by have:=LL.out;omega)];exact List.getElem_mem _)
   have hs:=sumB_in RO.out (ns.take k)
   have hlen:(ns.take k).length=k:=by rw [List.length_take];have:=LL.out;omega
   rw [hlen] at hs
   obtain ⟨S,hS⟩:∃S,sumB os (ns.take k)=S:=⟨_,rfl⟩
   rw [hS] at hs ⊢
   have HS:=lh (show sumB os (ns.take (k+1))=S+baseV os n from by rw [ht,sumB_app,hS];simp [sumB])
   have s0:=hs.1
   have s1:S≤4294967295*2:=by have:=hs.2;omega
   clear hn ht hs hlen hS
   rcases Nat.eq_zero_or_pos n with h0 | h0
   ·subst h0
    have HB:=lh (show sumB os (ns.take (k+1))=S from by rw [HS.out];simp [baseV])
    go_wp2
    exact ⟨⟨k+1,by omega,rfl,by rw [HB.out],trivial⟩,by simp [intOf];omega⟩
   ·have e0:((n:Int) != 0)=true:=by simp;omega
    have c1:=HM.out.co hn16
    obtain ⟨v,hv⟩:∃v,os.getD n 0=v:=⟨_,rfl⟩
    rw [hv] at c1
    have rv:0≤v∧v≤4294967295:=by rw [← hv];exact getD_in RO.out n
    obtain ⟨v0,v1⟩:=rv
    have HB:=lh (show sumB os (ns.take (k+1))=S+v from by rw [HS.out,← hv];unfold baseV;rw [if_neg (by omega)])
    have i0:(n:Int)<16:=by omega
    have i1:(0:Int)≤(n:Int):=by omega
    clear hv HS
    go_wp2
    refine ⟨⟨k+1,by omega,rfl,?_,trivial⟩,by simp [intOf];omega⟩
    rw [HB.out]
    go_num
  ·obtain rfl:k=L:=by omega
   have hs:=sumB_in RO.out ns
   have hs2:(ns.length:Int)≤2:=by have:=LL.out;omega
   have ht:ns.take k=ns:=by rw [← LL.out];exact List.take_length
   rw [ht]
   obtain ⟨S,hS⟩:∃S,sumB os ns=S:=⟨_,rfl⟩
   rw [hS] at hs ⊢
   have s0:=hs.1
   have s1:S≤4294967295*2:=by have:=hs.2;omega
   have t0:0≤d+S:=by omega
   clear hs ht
   go_wp2
   go_ret
   exact ⟨by rw [hS];rfl,rfl⟩
theorem second_c (g n0 n1:Nat) (d:Int) (is os rs:List Int) (ps:List Value) (s:Value) (ov:Bool) (w:World) (hm:Mc w g is os rs ps s ov) (ro:∀z∈os,0≤z∧z≤4294967295) (hd0:is.getD 8 0=d) (hd:0≤d) (hd':d≤4095) (hn0:is.getD 7 0=(n0:Int)) (h160:n0<16) (hn1:is.getD 4 0=(n1:Int)) (h161:n1<16):Calls Tryz.prog 74 #[.pointer (some ⟨g,0,none⟩)] w fun e w'=>e=.returned (.int .i64 ((d+sumB os [n0,n1]) % 16777216))∧Ch w w' []:=by
 have HM:=lh hm
 have RO:=lh ro
 have HD:=lh hd0
 have HN0:=lh hn0
 have HN1:=lh hn1
 clear hm ro hd0 hn0 hn1
 go_enter Tryz.func74,Tryz.ntmps74
 go_upto_region 1 with fail
 refine wp_region_held_drew (S:=(fun w'=>Mc w' g is os rs ps s ov∧Ch w w' [])) (by kernel_rfl) ?_ (fun hHeld=>?_)
 ·(try dsimp only);exact ⟨HM.out.drewN 1,(Ch.refl _ _).drewN 1⟩
 refine' takeL (i:=0) (v:=_) rfl (by kernel_rfl) (by kernel_rfl) (by kernel_rfl) (fun _ _ _ h=>h) (Or.inl ⟨by rfl,?yy1⟩) (by assumption) ?rr1
 case yy1=>intro w hSw;(try dsimp only at hSw);go_simp;(try with_reducible rfl)
 try simp only [Act.put,List.setIfInBounds_toArray,List.set_cons_zero,List.set_cons_succ]
 refine' takeL (i:=1) (v:=_) rfl (by kernel_rfl) (by kernel_rfl) (by kernel_rfl) (fun _ _ _ h=>h) (Or.inl ⟨by rfl,?yy2⟩) (by assumption) ?rr2
 case yy2=>intro w hSw;(try dsimp only at hSw);go_simp;(try with_reducible rfl)
 try simp only [Act.put,List.setIfInBounds_toArray,List.set_cons_zero,List.set_cons_succ]
 refine' takeL (i:=2) (v:=_) rfl (by kernel_rfl) (by kernel_rfl) (by kernel_rfl) (fun _ _ _ h=>h) (Or.inl ⟨by rfl,?yy3⟩) (by assumption) ?rr3
 case yy3=>intro w hSw;(try dsimp only at hSw);go_simp;(try with_reducible rfl)
 try simp only [Act.put,List.setIfInBounds_toArray,List.set_cons_zero,List.set_cons_succ]
 refine' takeL (i:=3) (v:=_) rfl (by kernel_rfl) (by kernel_rfl) (by kernel_rfl) (fun _ _ _ h=>h) (Or.inl ⟨by rfl,?yy4⟩) (by assumption) ?rr4
 case yy4=>intro w hSw;(try dsimp only at hSw);go_simp;(try with_reducible rfl)
 try simp only [Act.put,List.setIfInBounds_toArray,List.set_cons_zero,List.set_cons_succ]
 refine' takeL (i:=4) (v:=_) rfl (by kernel_rfl) (by kernel_rfl) (by kernel_rfl) (fun _ _ _ h=>h) (Or.inl ⟨by rfl,?yy5⟩) (by assumption) ?rr5
 case yy5=>intro w hSw;(try dsimp only at hSw);go_simp;(try with_reducible rfl)
 try simp only [Act.put,List.setIfInBounds_toArray,List.set_cons_zero,List.set_cons_succ]
 refine' takeL (i:=5) (v:=.int .i64 d) rfl (by kernel_rfl) (by kernel_rfl) (by kernel_rfl) (fun _ _ _ h=>h) (Or.inl ⟨by rfl,?yy6⟩) (by assumption) ?rr6
 case yy6=>intro w hSw;(try dsimp only at hSw);have hc:=hSw.1.ci (c:=8) (by omega);rw [HD.out] at hc;go_simp;(try with_reducible rfl)
 try simp only [Act.put,List.setIfInBounds_toArray,List.set_cons_zero,List.set_cons_succ]
 refine' takeL (i:=6) (v:=_) rfl (by kernel_rfl) (by kernel_rfl) (by kernel_rfl) (fun _ _ _ h=>h) (Or.inl ⟨by rfl,?yy7⟩) (by assumption) ?rr7
 case yy7=>intro w hSw;(try dsimp only at hSw);go_simp;(try with_reducible rfl)
 try simp only [Act.put,List.setIfInBounds_toArray,List.set_cons_zero,List.set_cons_succ]
 refine' takeL (i:=7) (v:=_) rfl (by kernel_rfl) (by kernel_rfl) (by kernel_rfl) (fun _ _ _ h=>h) (Or.inl ⟨by rfl,?yy8⟩) (by assumption) ?rr8
 case yy8=>intro w hSw;(try dsimp only at hSw);go_simp;(try with_reducible rfl)
 try simp only [Act.put,List.setIfInBounds_toArray,List.set_cons_zero,List.set_cons_succ]
 refine' takeL (i:=8) (v:=_) rfl (by kernel_rfl) (by kernel_rfl) (by kernel_rfl) (fun _ _ _ h=>h) (Or.inl ⟨by rfl,?yy9⟩) (by assumption) ?rr9
 case yy9=>intro w hSw;(try dsimp only at hSw);go_simp;(try with_reducible rfl)
 try simp only [Act.put,List.setIfInBounds_toArray,List.set_cons_zero,List.set_cons_succ]
 refine' takeL (i:=9) (v:=_) rfl (by kernel_rfl) (by kernel_rfl) (by kernel_rfl) (fun _ _ _ h=>h) (Or.inl ⟨by rfl,?yy10⟩) (by assumption) ?rr10
 case yy10=>intro w hSw;(try dsimp only at hSw);go_simp;(try with_reducible rfl)
 try simp only [Act.put,List.setIfInBounds_toArray,List.set_cons_zero,List.set_cons_succ]
 refine' takeL (i:=10) (v:=.int .i64 (n0:Int)) rfl (by kernel_rfl) (by kernel_rfl) (by kernel_rfl) (fun _ _ _ h=>h) (Or.inl ⟨by rfl,?yy11⟩) (by assumption) ?rr11
 case yy11=>intro w hSw;(try dsimp only at hSw);have hc:=hSw.1.ci (c:=7) (by omega);rw [HN0.out] at hc;go_simp;(try with_reducible rfl)
 try simp only [Act.put,List.setIfInBounds_toArray,List.set_cons_zero,List.set_cons_succ]
 refine' takeL (i:=11) (v:=_) rfl (by kernel_rfl) (by kernel_rfl) (by kernel_rfl) (fun _ _ _ h=>h) (Or.inl ⟨by rfl,?yy12⟩) (by assumption) ?rr12
 case yy12=>intro w hSw;(try dsimp only at hSw);go_simp;(try with_reducible rfl)
 try simp only [Act.put,List.setIfInBounds_toArray,List.set_cons_zero,List.set_cons_succ]
 refine' takeL (i:=12) (v:=_) rfl (by kernel_rfl) (by kernel_rfl) (by kernel_rfl) (fun _ _ _ h=>h) (Or.inl ⟨by rfl,?yy13⟩) (by assumption) ?rr13
 case yy13=>intro w hSw;(try dsimp only at hSw);go_simp;(try with_reducible rfl)
 try simp only [Act.put,List.setIfInBounds_toArray,List.set_cons_zero,List.set_cons_succ]
 refine' takeL (i:=13) (v:=_) rfl (by kernel_rfl) (by kernel_rfl) (by kernel_rfl) (fun _ _ _ h=>h) (Or.inl ⟨by rfl,?yy14⟩) (by assumption) ?rr14
 case yy14=>intro w hSw;(try dsimp only at hSw);go_simp;(try with_reducible rfl)
 try simp only [Act.put,List.setIfInBounds_toArray,List.set_cons_zero,List.set_cons_succ]
 refine' takeL (i:=14) (v:=_) rfl (by kernel_rfl) (by kernel_rfl) (by kernel_rfl) (fun _ _ _ h=>h) (Or.inl ⟨by rfl,?yy15⟩) (by assumption) ?rr15
 case yy15=>intro w hSw;(try dsimp only at hSw);go_simp;(try with_reducible rfl)
 try simp only [Act.put,List.setIfInBounds_toArray,List.set_cons_zero,List.set_cons_succ]
 refine' takeL (i:=15) (v:=.int .i64 (n1:Int)) rfl (by kernel_rfl) (by kernel_rfl) (by kernel_rfl) (fun _ _ _ h=>h) (Or.inl ⟨by rfl,?yy16⟩) (by assumption) ?rr16
 case yy16=>intro w hSw;(try dsimp only at hSw);have hc:=hSw.1.ci (c:=4) (by omega);rw [HN1.out] at hc;go_simp;(try with_reducible rfl)
 try simp only [Act.put,List.setIfInBounds_toArray,List.set_cons_zero,List.set_cons_succ]
 refine wpAnyH_ready (rs:=[16]) (by kernel_rfl) (by simp) ?_
 refine consL rfl (fun K hK=>?_) AllReadyH.nil
 go_simp
 refine hK.out _ _ ?_ (fun hHeld=>?_)
 ·exact ⟨hHeld.1.alloc _,hHeld.2.alloc _⟩
 clear hK K
 try simp only [Act.put,List.setIfInBounds_toArray,List.set_cons_zero,List.set_cons_succ]
 have hcell:∀i,i < [n0,n1].length→((w.alloc (.cells #[.int .i64 (n0:Int),.int .i64 (n1:Int)] 3)).drew).cell? ⟨w.heap.size,i,none⟩=some (.int .i64 (([n0,n1].getD i 0:Nat):Int)):=by
  intro i hi
  rw [cell_blk (show ((w.alloc (.cells #[.int .i64 (n0:Int),.int .i64 (n1:Int)] 3)).drew).heap[w.heap.size]?=_ from heap_alloc_new w _) i]
  match i,hi with
  | 0,_=>rfl
  | 1,_=>rfl
 have hmem:∀n∈[n0,n1],n<16:=by intro n hn;simp at hn;omega
 refine wpAnyH_ready (rs:=[17]) (by kernel_rfl) (by simp) ?_
 refine consL rfl (fun K hK=>?_) AllReadyH.nil
 go_simp
 go_at_call 112
 refine (address_c g w.heap.size d [n0,n1] 2 is os rs ps s ov _ hHeld.1 RO.out hd hd' (by simp) hmem hcell).mono ?_
 rintro e w5 ⟨rfl,hw5⟩
 subst hw5
 go_wp2_with fail
 refine hK.out _ _ ?_ (fun hHeld=>?_)
 ·(try dsimp only);exact hHeld
 clear hK K
 try simp only [Act.put,List.setIfInBounds_toArray,List.set_cons_zero,List.set_cons_succ]
 refine' takeL (i:=18) (v:=_) rfl (by kernel_rfl) (by kernel_rfl) (by kernel_rfl) (fun _ _ _ h=>h) (Or.inl ⟨by rfl,?yy17⟩) (by assumption) ?rr17
 case yy17=>intro w hSw;(try dsimp only at hSw);go_simp;(try with_reducible rfl)
 try simp only [Act.put,List.setIfInBounds_toArray,List.set_cons_zero,List.set_cons_succ]
 refine wpAnyH_done (by kernel_rfl) ?_ _
 go_wp2
 go_ret
 exact ⟨by rfl,hHeld.2⟩
theorem first_c (g n0:Nat) (d:Int) (is os rs:List Int) (ps:List Value) (s:Value) (ov:Bool) (w:World) (hm:Mc w g is os rs ps s ov) (ro:∀z∈os,0≤z∧z≤4294967295) (hd0:is.getD 6 0=d) (hd:0≤d) (hd':d≤4095) (hn0:is.getD 5 0=(n0:Int)) (h160:n0<16):Calls Tryz.prog 119 #[.pointer (some ⟨g,0,none⟩)] w fun e w'=>e=.returned (.int .i64 ((d+sumB os [n0]) % 16777216))∧Ch w w' []:=by
 have HM:=lh hm
 have RO:=lh ro
 have HD:=lh hd0
 have HN0:=lh hn0
 clear hm ro hd0 hn0
 go_enter Tryz.func119,Tryz.ntmps119
 go_upto_region 1 with fail
 refine wp_region_held_drew (S:=(fun w'=>Mc w' g is os rs ps s ov∧Ch w w' [])) (by kernel_rfl) ?_ (fun hHeld=>?_)
 ·(try dsimp only);exact ⟨HM.out.drewN 1,(Ch.refl _ _).drewN 1⟩
 refine' takeL (i:=0) (v:=_) rfl (by kernel_rfl) (by kernel_rfl) (by kernel_rfl) (fun _ _ _ h=>h) (Or.inl ⟨by rfl,?yy18⟩) (by assumption) ?rr18
 case yy18=>intro w hSw;(try dsimp only at hSw);go_simp;(try with_reducible rfl)
 try simp only [Act.put,List.setIfInBounds_toArray,List.set_cons_zero,List.set_cons_succ]
 refine' takeL (i:=1) (v:=_) rfl (by kernel_rfl) (by kernel_rfl) (by kernel_rfl) (fun _ _ _ h=>h) (Or.inl ⟨by rfl,?yy19⟩) (by assumption) ?rr19
 case yy19=>intro w hSw;(try dsimp only at hSw);go_simp;(try with_reducible rfl)
 try simp only [Act.put,List.setIfInBounds_toArray,List.set_cons_zero,List.set_cons_succ]
 refine' takeL (i:=2) (v:=_) rfl (by kernel_rfl) (by kernel_rfl) (by kernel_rfl) (fun _ _ _ h=>h) (Or.inl ⟨by rfl,?yy20⟩) (by assumption) ?rr20
 case yy20=>intro w hSw;(try dsimp only at hSw);go_simp;(try with_reducible rfl)
 try simp only [Act.put,List.setIfInBounds_toArray,List.set_cons_zero,List.set_cons_succ]
 refine' takeL (i:=3) (v:=_) rfl (by kernel_rfl) (by kernel_rfl) (by kernel_rfl) (fun _ _ _ h=>h) (Or.inl ⟨by rfl,?yy21⟩) (by assumption) ?rr21
 case yy21=>intro w hSw;(try dsimp only at hSw);go_simp;(try with_reducible rfl)
 try simp only [Act.put,List.setIfInBounds_toArray,List.set_cons_zero,List.set_cons_succ]
 refine' takeL (i:=4) (v:=_) rfl (by kernel_rfl) (by kernel_rfl) (by kernel_rfl) (fun _ _ _ h=>h) (Or.inl ⟨by rfl,?yy22⟩) (by assumption) ?rr22
 case yy22=>intro w hSw;(try dsimp only at hSw);go_simp;(try with_reducible rfl)
 try simp only [Act.put,List.setIfInBounds_toArray,List.set_cons_zero,List.set_cons_succ]
 refine' takeL (i:=5) (v:=.int .i64 d) rfl (by kernel_rfl) (by kernel_rfl) (by kernel_rfl) (fun _ _ _ h=>h) (Or.inl ⟨by rfl,?yy23⟩) (by assumption) ?rr23
 case yy23=>intro w hSw;(try dsimp only at hSw);have hc:=hSw.1.ci (c:=6) (by omega);rw [HD.out] at hc;go_simp;(try with_reducible rfl)
 try simp only [Act.put,List.setIfInBounds_toArray,List.set_cons_zero,List.set_cons_succ]
 refine' takeL (i:=6) (v:=_) rfl (by kernel_rfl) (by kernel_rfl) (by kernel_rfl) (fun _ _ _ h=>h) (Or.inl ⟨by rfl,?yy24⟩) (by assumption) ?rr24
 case yy24=>intro w hSw;(try dsimp only at hSw);go_simp;(try with_reducible rfl)
 try simp only [Act.put,List.setIfInBounds_toArray,List.set_cons_zero,List.set_cons_succ]
 refine' takeL (i:=7) (v:=_) rfl (by kernel_rfl) (by kernel_rfl) (by kernel_rfl) (fun _ _ _ h=>h) (Or.inl ⟨by rfl,?yy25⟩) (by assumption) ?rr25
 case yy25=>intro w hSw;(try dsimp only at hSw);go_simp;(try with_reducible rfl)
 try simp only [Act.put,List.setIfInBounds_toArray,List.set_cons_zero,List.set_cons_succ]
 refine' takeL (i:=8) (v:=_) rfl (by kernel_rfl) (by kernel_rfl) (by kernel_rfl) (fun _ _ _ h=>h) (Or.inl ⟨by rfl,?yy26⟩) (by assumption) ?rr26
 case yy26=>intro w hSw;(try dsimp only at hSw);go_simp;(try with_reducible rfl)
 try simp only [Act.put,List.setIfInBounds_toArray,List.set_cons_zero,List.set_cons_succ]
 refine' takeL (i:=9) (v:=_) rfl (by kernel_rfl) (by kernel_rfl) (by kernel_rfl) (fun _ _ _ h=>h) (Or.inl ⟨by rfl,?yy27⟩) (by assumption) ?rr27
 case yy27=>intro w hSw;(try dsimp only at hSw);go_simp;(try with_reducible rfl)
 try simp only [Act.put,List.setIfInBounds_toArray,List.set_cons_zero,List.set_cons_succ]
 refine' takeL (i:=10) (v:=.int .i64 (n0:Int)) rfl (by kernel_rfl) (by kernel_rfl) (by kernel_rfl) (fun _ _ _ h=>h) (Or.inl ⟨by rfl,?yy28⟩) (by assumption) ?rr28
 case yy28=>intro w hSw;(try dsimp only at hSw);have hc:=hSw.1.ci (c:=5) (by omega);rw [HN0.out] at hc;go_simp;(try with_reducible rfl)
 try simp only [Act.put,List.setIfInBounds_toArray,List.set_cons_zero,List.set_cons_succ]
 refine wpAnyH_ready (rs:=[11]) (by kernel_rfl) (by simp) ?_
 refine consL rfl (fun K hK=>?_) AllReadyH.nil
 go_simp
 refine hK.out _ _ ?_ (fun hHeld=>?_)
 ·exact ⟨hHeld.1.alloc _,hHeld.2.alloc _⟩
 clear hK K
 try simp only [Act.put,List.setIfInBounds_toArray,List.set_cons_zero,List.set_cons_succ]
 have hcell:∀i,i < [n0].length→((w.alloc (.cells #[.int .i64 (n0:Int)] 3)).drew).cell? ⟨w.heap.size,i,none⟩=some (.int .i64 (([n0].getD i 0:Nat):Int)):=by
  intro i hi
  rw [cell_blk (show ((w.alloc (.cells #[.int .i64 (n0:Int)] 3)).drew).heap[w.heap.size]?=_ from heap_alloc_new w _) i]
  match i,hi with
  | 0,_=>rfl
 have hmem:∀n∈[n0],n<16:=by intro n hn;simp at hn;omega
 refine wpAnyH_ready (rs:=[12]) (by kernel_rfl) (by simp) ?_
 refine consL rfl (fun K hK=>?_) AllReadyH.nil
 go_simp
 go_at_call 112
 refine (address_c g w.heap.size d [n0] 1 is os rs ps s ov _ hHeld.1 RO.out hd hd' (by simp) hmem hcell).mono ?_
 rintro e w5 ⟨rfl,hw5⟩
 subst hw5
 go_wp2_with fail
 refine hK.out _ _ ?_ (fun hHeld=>?_)
 ·(try dsimp only);exact hHeld
 clear hK K
 try simp only [Act.put,List.setIfInBounds_toArray,List.set_cons_zero,List.set_cons_succ]
 refine' takeL (i:=13) (v:=_) rfl (by kernel_rfl) (by kernel_rfl) (by kernel_rfl) (fun _ _ _ h=>h) (Or.inl ⟨by rfl,?yy29⟩) (by assumption) ?rr29
 case yy29=>intro w hSw;(try dsimp only at hSw);go_simp;(try with_reducible rfl)
 try simp only [Act.put,List.setIfInBounds_toArray,List.set_cons_zero,List.set_cons_succ]
 refine wpAnyH_done (by kernel_rfl) ?_ _
 go_wp2
 go_ret
 exact ⟨by rfl,hHeld.2⟩
end Go.Proofs.YtljajnaclpbecaaGreatDoor
