/- Contracts and laws on the way to the statement, text 4 of 22. Conditions: as each states them. -/
import Derived.Test.YtljajnaclpbecaaGreatDoorGu1
import Derived.Test.YtljajnaclpbecaaGreatDoorGu2
import Derived.Test.YtljajnaclpbecaaGreatDoorGu3
import Derived.RangeFuncNested
import Derived.RangeFuncBound
import Derived.RangeFuncCalls
import Derived.RangeFuncLeaves
import Derived.Shelf.Abstract
import Derived.Shelf.RegionOpen
import Derived.WalkKit
import Derived.OwnWalkIn
import Derived.TacticsInMore
import Derived.LoopNIn
import Derived.LoopIn
import Derived.Outline
import Derived.Laws.EntriesVeiled
import Derived.StillTailTactics
import Derived.Lib.Hide
import Derived.Handy
import Derived.BigQuiet
import Derived.Deep.QuietTactic
import Derived.BigRegion
import Derived.Deep.RegionHeld3
import Derived.Test.YtljajnaclpbecaaGreatDoorProg
namespace Go.Proofs.YtljajnaclpbecaaGreatDoor
set_option maxRecDepth 1000000
set_option maxHeartbeats 8000000
open Go.RowKit Go.Shelf
set_option linter.unusedVariables false
set_option linter.unusedSimpArgs false
attribute [local go_sem] Oper.semAt_some
theorem cell_new_l (W:World) (v:Value) (t:TypeId):(W.alloc (.cells #[v] t)).cell? ⟨W.heap.size,0,none⟩=some v∧(W.alloc (.cells #[v] t)).frozen? ⟨W.heap.size,0,none⟩=false:=
 ⟨by simp,by simp⟩
theorem cell_alloc_l {W:World} {a:Addr} {v:Value} (o:Obj) (h:W.cell? a=some v):(W.alloc o).cell? a=some v:=cell_kept h (World.grownBy_alloc W o none) (fun r e=>by cases e)
theorem frozen_alloc_l {W:World} {a:Addr} {v:Value} (o:Obj) (h:W.cell? a=some v) (hf:W.frozen? a=false):(W.alloc o).frozen? a=false:=(frozen_kept h (World.grownBy_alloc W o none) (fun r e=>by cases e)).trans hf
def tC (a k:Nat):Nat:=if k=0 then 0 else (a+k - 1) / 2048+1 - a / 2048
abbrev K31:={ x:Int // 0≤x∧x≤31 }
def tK (ks:List Int) (a c:Nat):List Int:=(List.range c).map fun j=>ks.getD (a / 2048+j) 0
theorem tK_succ (ks:List Int) (a c:Nat):tK ks a (c+1)=tK ks a c++[ks.getD (a / 2048+c) 0]:=by simp [tK,List.range_succ]
theorem tK_len (ks:List Int) (a c:Nat):(tK ks a c).length=c:=by simp [tK]
theorem tK_sub {ks:List Int} {a c d:Nat} (h:c≤d) {z:Int} (hz:z∈tK ks a c):z∈tK ks a d:=by
 obtain ⟨j,hj,rfl⟩:=List.mem_map.1 hz
 exact List.mem_map.2 ⟨j,List.mem_range.2 (Nat.lt_of_lt_of_le (List.mem_range.1 hj) h),rfl⟩
theorem okB_tK (al:Int→Bool) (ks:List Int) (a k:Nat):okB al ks a k=(tK ks a (tC a k)).all al:=by
 rw [Bool.eq_iff_iff]
 unfold okB tK
 rw [List.all_eq_true,List.all_eq_true]
 constructor
 ·intro h x hx
  obtain ⟨j,hj,rfl⟩:=List.mem_map.1 hx
  rw [List.mem_range] at hj
  have hk:k≠0:=by rintro rfl;simp [tC] at hj
  unfold tC at hj
  rw [if_neg hk] at hj
  by_cases hc:(a / 2048+j)*2048≤a
  ·have h1:=h 0 (List.mem_range.2 (by omega))
   rwa [show (a+0) / 2048=a / 2048+j from by omega] at h1
  ·have h1:=h ((a / 2048+j)*2048 - a) (List.mem_range.2 (by omega))
   rwa [show (a+((a / 2048+j)*2048 - a)) / 2048=a / 2048+j from by omega] at h1
 ·intro h j hj
  rw [List.mem_range] at hj
  have h1:=h (ks.getD (a / 2048+((a+j) / 2048 - a / 2048)) 0) (List.mem_map.2 ⟨(a+j) / 2048 - a / 2048,List.mem_range.2 (by unfold tC;rw [if_neg (by omega)];omega),rfl⟩)
  rwa [show a / 2048+((a+j) / 2048 - a / 2048)=(a+j) / 2048 from by omega] at h1
theorem put1_c (Kb:Nat) (k key:Int) (hk:0≤k) (hk':k≤31) (w:World) (hc:w.cell? ⟨Kb,0,none⟩=some (.int .i64 key)):Calls Tryz.prog 24 #[.int .i64 k,.pointer (some ⟨Kb,0,none⟩)] w fun e w'=>e=.returned (.bool (alP key k))∧w=w':=by
 by_cases q0:key=0
 ·subst q0
  have hr:=lh (show alP 0 k=true from by simp [alP]<;>omega)
  go_enter Tryz.func24,Tryz.ntmps24
  go_wp2
  go_ret
  exact ⟨by rw [hr.out];rfl,rfl⟩
 have e1:(key == 0)=false:=by simpa using q0
 by_cases q1:key=k / 2
 ·have e2:(key == k / 2)=true:=by rw [beq_iff_eq];exact q1
  have hr:=lh (show alP key k=true from by simp [alP]<;>omega)
  clear q1
  go_enter Tryz.func24,Tryz.ntmps24
  go_wp2
  go_ret
  exact ⟨by rw [hr.out];rfl,rfl⟩
 have e2:(key == k / 2)=false:=by rw [beq_eq_false_iff_ne];exact q1
 have hr:=lh (show alP key k=false from by simp [alP]<;>omega)
 clear q0 q1
 go_enter Tryz.func24,Tryz.ntmps24
 go_wp2
 go_ret
 exact ⟨by rw [hr.out];rfl,rfl⟩
theorem fetch1_c (Kb:Nat) (k key:Int) (hk:0≤k) (hk':k≤31) (w:World) (hc:w.cell? ⟨Kb,0,none⟩=some (.int .i64 key)):Calls Tryz.prog 57 #[.int .i64 k,.pointer (some ⟨Kb,0,none⟩)] w fun e w'=>e=.returned (.bool (alF key k))∧w=w':=by
 by_cases q0:key=0
 ·subst q0
  have hr:=lh (show alF 0 k=true from by simp [alF]<;>omega)
  go_enter Tryz.func57,Tryz.ntmps57
  go_wp2
  go_ret
  exact ⟨by rw [hr.out];rfl,rfl⟩
 have e1:(key == 0)=false:=by simpa using q0
 by_cases q1:key=k / 2
 ·have e2:(key == k / 2)=true:=by rw [beq_iff_eq];exact q1
  have hr:=lh (show alF key k=true from by simp [alF]<;>omega)
  clear q1
  go_enter Tryz.func57,Tryz.ntmps57
  go_wp2
  go_ret
  exact ⟨by rw [hr.out];rfl,rfl⟩
 have e2:(key == k / 2)=false:=by rw [beq_eq_false_iff_ne];exact q1
 by_cases q2:k % 2=0
 ·have e3:(k % 2 == 0)=true:=by rw [beq_iff_eq];exact q2
  have hr:=lh (show alF key k=true from by simp [alF]<;>omega)
  clear q2
  go_enter Tryz.func57,Tryz.ntmps57
  go_wp2
  go_ret
  exact ⟨by rw [hr.out];rfl,rfl⟩
 have e3:(k % 2 == 0)=false:=by rw [beq_eq_false_iff_ne];exact q2
 have hr:=lh (show alF key k=false from by simp [alF]<;>omega)
 clear q0 q1
 go_enter Tryz.func57,Tryz.ntmps57
 go_wp2
 go_ret
 exact ⟨by rw [hr.out];rfl,rfl⟩
theorem touched_c (p:Value) (a k:Int) (hp:∃x,p=.pointer x) (w:World):Calls Tryz.prog 32 #[p,.int .i64 a,.int .i64 k] w fun e w'=>e=.returned (.func (.func 45) #[] #[.pointer (some ⟨w.heap.size+1+1,0,none⟩),.pointer (some ⟨w.heap.size+1,0,none⟩),.pointer (some ⟨w.heap.size,0,none⟩)])∧w'=((w.alloc (.cells #[p] 27)).alloc (.cells #[.int .i64 a] 3)).alloc (.cells #[.int .i64 k] 3):=by
 obtain ⟨x,rfl⟩:=hp
 go_enter Tryz.func32,Tryz.ntmps32
 go_wp2
 go_ret
 exact ⟨rfl,rfl⟩
theorem touched1_stops (n:Nat) (hn:1≤n) {F:Foot} {bs ks:List Int} (a k Bn Ba Bs n₀:Nat) (w:World) (h:St 63 w F bs ks) (hak:a+k≤bs.length) (hg:F.g<n₀) (hk:F.gk<n₀) (h1:Bn<n₀) (h2:Ba<n₀) (h3:Bs<n₀) (hn₀:n₀≤w.heap.size)
  (c1:w.cell? ⟨Bn,0,none⟩=some (.int .i64 k)) (c2:w.cell? ⟨Ba,0,none⟩=some (.int .i64 a)) (c3:w.cell? ⟨Bs,0,none⟩=some (.pointer (some ⟨F.g,0,none⟩))) :
  SeqStopsK Fence.wide n Tryz.prog 45 #[.pointer (some ⟨Bn,0,none⟩),.pointer (some ⟨Ba,0,none⟩),.pointer (some ⟨Bs,0,none⟩)] (fun x:K31=>#[Value.int .i64 x.1]) (Below n₀) (fun ys=>ys.map (·.1)=tK ks a (tC a k)) (fun pre=>∃c,c≤tC a k∧pre.map (·.1)=tK ks a c) (tC a k) w:=fun l J Jx W hW _ _ hY h0=>by
 have hB0:Below n₀ w W:=hW.mono hn₀
 have C1:=(hB0.cell (p:=⟨Bn,0,none⟩) h1).trans c1
 have C2:=(hB0.cell (p:=⟨Ba,0,none⟩) h2).trans c2
 have l0:=h.ln
 have l1:=h.l1
 have ak:(a:Int)+(k:Int)≤65536:=by omega
 refine callsIn_of_wp Tryz.func45 rfl trivial ?_ rfl
 simp only [Tryz.ntmps45,List.size_toArray,List.length_cons,List.length_nil,Nat.reduceAdd,Nat.reduceSub,Array.replicate_succ,Array.replicate_zero,List.push_toArray,List.append_toArray,List.nil_append,List.cons_append]
 by_cases hk0:k=0
 ·subst hk0
  have z:tK ks a (tC a 0)=[]:=rfl
  gi_wp2
  refine bodyPost_ret (results_none rfl _ _ _) rfl ?_
  exact ⟨⟨_,rfl⟩,.inl (by first | exact ⟨[],z.symm,h0⟩ | exact ⟨[],rfl,h0⟩ | exact h0)⟩
 have e0:((k:Int) == 0)=false:=by rw [beq_eq_false_iff_ne];omega
 have hC:tC a k=(a+k - 1) / 2048+1 - a / 2048:=by unfold tC;rw [if_neg hk0]
 have HC:=lh hC
 have k1:(1:Int)≤(k:Int):=by omega
 clear hC hk0
 gi_wp2
 gi_loopw [5] (fun iv wr=>∃ (x:Nat) (pre:List K31),a / 2048≤x∧x≤a / 2048+tC a k∧iv=.int .i64 x∧pre.map (·.1)=tK ks a (x - a / 2048)∧J pre wr∧Below n₀ w wr) (fun iv _=>a / 2048+tC a k - (intOf iv).toNat)
 case atStart=>exact ⟨a / 2048,[],Nat.le_refl _,by omega,by simp,by rw [Nat.sub_self];rfl,h0,hB0⟩
 case round=>
  obtain ⟨x,pre,x0,x1,rfl,hpre,hJs,hnx⟩:=hrel
  have PR:=lh hpre
  have PL:=lh (show pre.length=x - a / 2048 from by have:=congrArg List.length hpre;rwa [List.length_map,tK_len] at this)
  clear hpre
  have D1:=(hnx.cell (p:=⟨Bn,0,none⟩) h1).trans c1
  have D2:=(hnx.cell (p:=⟨Ba,0,none⟩) h2).trans c2
  have D3:=(hnx.cell (p:=⟨Bs,0,none⟩) h3).trans c3
  have D4:=(hnx.cell (p:=⟨F.g,1,none⟩) hg).trans h.cell1
  obtain ⟨m,hm⟩:∃m,ks.length=m:=⟨_,rfl⟩
  rw [hm] at D4 l0 l1
  by_cases hlt:(x:Int)≤((a:Int)+(k:Int) - 1) / 2048
  ·have xm:(x:Int)<(m:Int):=by omega
   have D5:=(hnx.cell (p:=⟨F.gk,x,none⟩) hk).trans (h.key (i:=x) (by rw [hm];omega))
   obtain ⟨kv,hkv⟩:∃kv,ks.getD x 0=kv:=⟨_,rfl⟩
   rw [hkv] at D5
   obtain ⟨kv',hkv'⟩:∃kv':K31,kv'.1=kv:=⟨⟨kv,by rw [← hkv];exact h.keyr x⟩,rfl⟩
   obtain ⟨fn,tmps,assign,body,hy,hR⟩:=hY pre kv' wr hJs (by rw [PL.out];have:=HC.out;omega)
   rw [hkv'] at hy
   have st:=lh (show (pre++[kv']).map (·.1)=tK ks a (x+1 - a / 2048) from by rw [List.map_append,PR.out,List.map_cons,List.map_nil,hkv',show x+1 - a / 2048=(x - a / 2048)+1 from by omega,tK_succ,show a / 2048+(x - a / 2048)=x from by omega,hkv])
   have X:=lh (And.intro x0 x1)
   have HM:=lh hm
   have LN:=lh l0
   clear hkv hkv' hm l0
   gi_wp2
   refine hR.mono ?_
   rintro e W3 (⟨rfl,hJ3,hk3⟩ | ⟨rfl,hJx3⟩)
   ·gi_wp2
    go_roundw
    case rel=>exact ⟨x+1,pre++[kv'],by omega,by have:=HC.out;omega,by go_num,st.out,hJ3,hnx.trans hk3⟩
    case measure=>simp [intOf];have:=HC.out;omega
   ·gi_wp2
    refine bodyPost_ret (results_none rfl _ _ _) rfl ?_
    exact ⟨⟨_,rfl⟩,.inr ⟨_,⟨x+1 - a / 2048,by have:=HC.out;omega,st.out⟩,hJx3⟩⟩
  ·have fin:x - a / 2048=tC a k:=by have:=HC.out;omega
   have PF:=lh (show pre.map (·.1)=tK ks a (tC a k) from by rw [← fin];exact PR.out)
   clear fin
   gi_wp2
   go_end0
   exact ⟨⟨_,rfl⟩,.inl ⟨pre,PF.out,hJs⟩⟩
theorem check_p {F:Foot} {bs ks:List Int} (addr n key:Int) (Kb:Nat) (w:World) (h:St 63 w F bs ks) (hc:w.cell? ⟨Kb,0,none⟩=some (.int .i64 key)) :
  Calls Tryz.prog 23 #[.pointer (some ⟨F.g,0,none⟩),.int .i64 addr,.int .i64 n,.func (.func 24) #[] #[.pointer (some ⟨Kb,0,none⟩)]] w fun e w'=>e=.returned (.int .i64 (sCode (alP key) bs.length ks addr n))∧Below w.heap.size w w':=by
 obtain ⟨N,hN⟩:∃N,bs.length=N:=⟨_,rfl⟩
 have H:=lh h
 have HN:=lh hN
 rw [hN]
 clear hN h
 have kl:Kb<w.heap.size:=by
  rcases Nat.lt_or_ge Kb w.heap.size with h2 | h2
  ·exact h2
  ·unfold World.cell? at hc;simp only [Array.getElem?_eq_none h2] at hc;cases hc
 refine (callsIn_wide (n:=5)).1 ?_
 refine callsIn_of_wp_marks Tryz.func23 rfl trivial ?_ rfl
 simp only [Tryz.ntmps23,List.size_toArray,List.length_cons,List.length_nil,Nat.reduceAdd,Nat.reduceSub,Array.replicate_succ,Array.replicate_zero,List.push_toArray,List.append_toArray,List.nil_append,List.cons_append]
 cases hi:sIn N addr n
 ·rw [sCode_no hi]
  gi_wp2_with (refine ⟨trivial,?_⟩;gi_at_call 28;refine (callsIn_wide.2 (in_c _ ((H.out.alloc _).alloc _) _ _)).mono ?_;rintro e w1 ⟨rfl,rfl⟩;rw [HN.out,hi])
  refine ⟨.int .i64 5,by simp [results,Tryz.results23,go_sem],rfl,((Below.refl w.heap.size w).alloc (Nat.le_refl _) _).alloc (by simp) _⟩
 obtain ⟨b0,b1,b2,b3⟩:=sIn_yes hi
 obtain ⟨a,rfl⟩:=Int.eq_ofNat_of_zero_le b0
 obtain ⟨k,rfl⟩:=Int.eq_ofNat_of_zero_le b1
 rw [sCode_yes hi]
 obtain ⟨r,hr⟩:∃r:Int,(if okB (alP key) ks a k=true then 0 else 4)=r:=⟨_,rfl⟩
 rw [hr]
 have HR:=lh hr
 clear hr
 have hak:a+k≤bs.length:=by rw [HN.out];omega
 gi_wp2_with (refine ⟨trivial,?_⟩;first | (gi_at_call 28;refine (callsIn_wide.2 (in_c _ ((H.out.alloc _).alloc _) _ _)).mono ?_;rintro e w1 ⟨rfl,rfl⟩;rw [HN.out,hi]) | (gi_at_call 32;refine (callsIn_wide.2 (touched_c _ _ _ ⟨_,rfl⟩ _)).mono ?_;rintro e w1 ⟨rfl,rfl⟩))
 obtain ⟨W0,hW0⟩:∃W0,(((((w.alloc (.cells #[.func (.func 24) #[] #[.pointer (some ⟨Kb,0,none⟩)]] 70)).alloc (.cells #[.int .i64 0] 3)).alloc (.cells #[.pointer (some ⟨F.g,0,none⟩)] 27)).alloc (.cells #[.int .i64 a] 3)).alloc (.cells #[.int .i64 k] 3))=W0:=⟨_,rfl⟩
 rw [hW0]
 have hz:W0.heap.size=w.heap.size+5:=by rw [← hW0];simp
 have hB0:Below w.heap.size w W0:=by rw [← hW0];exact (((((Below.refl w.heap.size w).alloc (Nat.le_refl _) _).alloc (by simp) _).alloc (by simp;omega) _).alloc (by simp;omega) _).alloc (by simp;omega) _
 have q0:=cell_new_l w (.func (.func 24) #[] #[.pointer (some ⟨Kb,0,none⟩)]) 70
 have q1:=cell_new_l (w.alloc (.cells #[.func (.func 24) #[] #[.pointer (some ⟨Kb,0,none⟩)]] 70)) (.int .i64 0) 3
 have q2:=cell_new_l ((w.alloc (.cells #[.func (.func 24) #[] #[.pointer (some ⟨Kb,0,none⟩)]] 70)).alloc (.cells #[.int .i64 0] 3)) (.pointer (some ⟨F.g,0,none⟩)) 27
 have q3:=cell_new_l (((w.alloc (.cells #[.func (.func 24) #[] #[.pointer (some ⟨Kb,0,none⟩)]] 70)).alloc (.cells #[.int .i64 0] 3)).alloc (.cells #[.pointer (some ⟨F.g,0,none⟩)] 27)) (.int .i64 a) 3
 have q4:=cell_new_l ((((w.alloc (.cells #[.func (.func 24) #[] #[.pointer (some ⟨Kb,0,none⟩)]] 70)).alloc (.cells #[.int .i64 0] 3)).alloc (.cells #[.pointer (some ⟨F.g,0,none⟩)] 27)).alloc (.cells #[.int .i64 a] 3)) (.int .i64 k) 3
 simp only [World.size_alloc] at q1 q2 q3 q4
 have k0:W0.cell? ⟨w.heap.size,0,none⟩=some (.func (.func 24) #[] #[.pointer (some ⟨Kb,0,none⟩)]):=by rw [← hW0];exact cell_alloc_l _ (cell_alloc_l _ (cell_alloc_l _ (cell_alloc_l _ q0.1)))
 have k1:W0.cell? ⟨w.heap.size+1,0,none⟩=some (.int .i64 0):=by rw [← hW0];exact cell_alloc_l _ (cell_alloc_l _ (cell_alloc_l _ q1.1))
 have f1:W0.frozen? ⟨w.heap.size+1,0,none⟩=false:=by rw [← hW0];exact frozen_alloc_l _ (cell_alloc_l _ (cell_alloc_l _ q1.1)) (frozen_alloc_l _ (cell_alloc_l _ q1.1) (frozen_alloc_l _ q1.1 q1.2))
 have k2:W0.cell? ⟨w.heap.size+1+1,0,none⟩=some (.pointer (some ⟨F.g,0,none⟩)):=by rw [← hW0];exact cell_alloc_l _ (cell_alloc_l _ q2.1)
 have k3:W0.cell? ⟨w.heap.size+1+1+1,0,none⟩=some (.int .i64 a):=by rw [← hW0];exact cell_alloc_l _ q3.1
 have k4:W0.cell? ⟨w.heap.size+1+1+1+1,0,none⟩=some (.int .i64 k):=by rw [← hW0];exact q4.1
 have k5:W0.cell? ⟨Kb,0,none⟩=some (.int .i64 key):=(hB0.cell (p:=⟨Kb,0,none⟩) kl).trans hc
 have HS:=lh (H.out.belowS hB0)
 have lg:=H.out.ltg
 have lk:=H.out.ltk
 skip
 refine wpIn_rangeFunc_ownF rfl (by omega) (gf:=45) (lb:=#[.pointer (some ⟨w.heap.size+1+1+1+1,0,none⟩),.pointer (some ⟨w.heap.size+1+1+1,0,none⟩),.pointer (some ⟨w.heap.size+1+1,0,none⟩)]) rfl trivial (enters_of Tryz.func45 (by kernel_rfl) rfl)
  (touched1_stops (5 - 1) (by omega) a k (w.heap.size+1+1+1+1) (w.heap.size+1+1+1) (w.heap.size+1+1) (w.heap.size+5) W0 HS.out hak (by omega) (by omega) (by omega) (by omega) (by omega) (by omega) k4 k3 k2) belowK_t (belowK_b (by omega)) (Below.refl _ _) (fun _=>rfl)
  (fun pre W=>((∀y∈pre,alP key y.1=true)∧W.cell? ⟨w.heap.size,0,none⟩=some (.func (.func 24) #[] #[.pointer (some ⟨Kb,0,none⟩)])∧W.cell? ⟨w.heap.size+1,0,none⟩=some (.int .i64 0)∧W.frozen? ⟨w.heap.size+1,0,none⟩=false∧W.cell? ⟨Kb,0,none⟩=some (.int .i64 key))∧Below w.heap.size w W)
  (fun c pre W=>(c=.ret∧(∃y∈pre,alP key y.1=false)∧W.cell? ⟨w.heap.size+1,0,none⟩=some (.int .i64 4))∧Below w.heap.size w W)
  (OwnFrom.and (Own.from (fun s A B row hs hg hr=>⟨hs.1,cell_kept hs.2.1 hg hr,cell_kept hs.2.2.1 hg hr,(frozen_kept hs.2.2.1 hg hr).trans hs.2.2.2.1,cell_kept hs.2.2.2.2 hg hr⟩) _) (ownFrom_below (Nat.le_refl _) (by omega)))
  (fun c=>OwnFrom.and (Own.from (fun s A B row hs hg hr=>⟨hs.1,hs.2.1,cell_kept hs.2.2 hg hr⟩) _) (ownFrom_below (Nat.le_refl _) (by omega)))
  ⟨⟨by simp,k0,k1,f1,k5⟩,hB0⟩
  (fun x=>{ tmps:=#[.pointer (some ⟨F.g,0,none⟩),.int .i64 a,.int .i64 k,.func (.func 24) #[] #[.pointer (some ⟨Kb,0,none⟩)],undef,undef,undef,.pointer (some ⟨w.heap.size,0,none⟩),.pointer (some ⟨w.heap.size+1,0,none⟩),.int .i64 x.1,.pointer (some ⟨F.g,0,none⟩),.int .i64 a,.int .i64 k,.bool true,.bool false,.pointer (some ⟨F.g,0,none⟩),.int .i64 a,.int .i64 k,.func (.func 45) #[] #[.pointer (some ⟨w.heap.size+1+1+1+1,0,none⟩),.pointer (some ⟨w.heap.size+1+1+1,0,none⟩),.pointer (some ⟨w.heap.size+1+1,0,none⟩)],.int .i64 x.1,undef,undef,undef,undef],defers:=[] }) ?assign ?body ?done ?stop
 case assign=>
  intro l x W K hK
  gi_wp2
  exact hK
 case body=>
  rintro l pre x W ⟨⟨hal,hclo,hres,hfr,hkey⟩,hB⟩ hlen
  cases hx:alP key x.1
  ·gi_wp2_with (refine ⟨trivial,?_⟩;gi_at_call 24;refine (CallsIn.inRound l (callsIn_wide.2 (put1_c Kb _ key x.2.1 x.2.2 _ hkey))).mono ?_;rintro e w1 ⟨rfl,rfl⟩;rw [hx])
   exact ⟨KeepsOthers.setCell _ _ _,⟨rfl,⟨x,by simp,hx⟩,World.cell?_setCell_same' _ _ _ (by rw [hres];rfl)⟩,hB.setCell (p:=⟨w.heap.size+1,0,none⟩) (by simp) _⟩
  ·gi_wp2_with (refine ⟨trivial,?_⟩;gi_at_call 24;refine (CallsIn.inRound l (callsIn_wide.2 (put1_c Kb _ key x.2.1 x.2.2 _ hkey))).mono ?_;rintro e w1 ⟨rfl,rfl⟩;rw [hx])
   refine ⟨KeepsOthers.refl _,Below.refl _ _,⟨?_,hclo,hres,hfr,hkey⟩,hB⟩
   intro y hy
   rcases List.mem_append.1 hy with h1 | h1
   ·exact hal y h1
   ·rw [List.mem_singleton] at h1;rw [h1];exact hx
 case done=>
  rintro D ys W hD hys ⟨⟨hal,hclo,hres,hfr,hkey⟩,hB⟩ hK
  have hok:okB (alP key) ks a k=true:=by
   rw [okB_tK,← hys,List.all_eq_true]
   intro z hz
   obtain ⟨y,hy,rfl⟩:=List.mem_map.1 hz
   exact hal y hy
  have fin:=lh (show (0:Int)=r from by rw [← HR.out,hok];rfl)
  clear hok
  gi_wp2
  have hK':=(KeepsOthers.setCell W ⟨w.heap.size+1,0,none⟩ (.int .i64 0)).same D _ hK rfl
  refine ⟨by simp,.inl ⟨_,_,rfl,run_takeDeferred hK',?_⟩⟩
  have hc5:=cell_kept (World.cell?_setCell_same' W ⟨w.heap.size+1,0,none⟩ (.int .i64 0) (by rw [hres];rfl)) (grownBy_putObj' _ D (.deferred none)) (fun r e=>by cases e;exact ⟨_,hK',rfl⟩)
  refine ⟨.int .i64 0,?_,by rw [fin.out],(hB.setCell (p:=⟨w.heap.size+1,0,none⟩) (by simp) _).trans (belowK_b (w:=w) (Nat.le_refl _) _ D _ _ (by omega) hK' rfl rfl)⟩
  simp [results,Tryz.results23,go_sem,hc5]
 case stop=>
  rintro D c pre W hD ⟨cc,hcc,hpre⟩ ⟨⟨rfl,⟨y,hy,hf⟩,hres⟩,hB⟩ hK
  have hok:okB (alP key) ks a k=false:=by
   rw [okB_tK,Bool.eq_false_iff]
   intro h1
   rw [List.all_eq_true] at h1
   have h2:=h1 y.1 (tK_sub hcc (by rw [← hpre];exact List.mem_map.2 ⟨y,hy,rfl⟩))
   rw [hf] at h2;cases h2
  have fin:=lh (show (4:Int)=r from by rw [← HR.out,hok];rfl)
  clear hok
  gi_wp2
  refine ⟨by simp,.inl ⟨_,_,rfl,run_takeDeferred hK,?_⟩⟩
  have hc5:=cell_kept hres (grownBy_putObj' _ D (.deferred none)) (fun r e=>by cases e;exact ⟨_,hK,rfl⟩)
  refine ⟨.int .i64 4,?_,by rw [fin.out],hB.trans (belowK_b (w:=w) (Nat.le_refl _) W D _ _ (by omega) hK rfl rfl)⟩
  simp [results,Tryz.results23,go_sem,hc5]
theorem check_f {F:Foot} {bs ks:List Int} (addr n key:Int) (Kb:Nat) (w:World) (h:St 63 w F bs ks) (hc:w.cell? ⟨Kb,0,none⟩=some (.int .i64 key)) :
  Calls Tryz.prog 23 #[.pointer (some ⟨F.g,0,none⟩),.int .i64 addr,.int .i64 n,.func (.func 57) #[] #[.pointer (some ⟨Kb,0,none⟩)]] w fun e w'=>e=.returned (.int .i64 (sCode (alF key) bs.length ks addr n))∧Below w.heap.size w w':=by
 obtain ⟨N,hN⟩:∃N,bs.length=N:=⟨_,rfl⟩
 have H:=lh h
 have HN:=lh hN
 rw [hN]
 clear hN h
 have kl:Kb<w.heap.size:=by
  rcases Nat.lt_or_ge Kb w.heap.size with h2 | h2
  ·exact h2
  ·unfold World.cell? at hc;simp only [Array.getElem?_eq_none h2] at hc;cases hc
 refine (callsIn_wide (n:=5)).1 ?_
 refine callsIn_of_wp_marks Tryz.func23 rfl trivial ?_ rfl
 simp only [Tryz.ntmps23,List.size_toArray,List.length_cons,List.length_nil,Nat.reduceAdd,Nat.reduceSub,Array.replicate_succ,Array.replicate_zero,List.push_toArray,List.append_toArray,List.nil_append,List.cons_append]
 cases hi:sIn N addr n
 ·rw [sCode_no hi]
  gi_wp2_with (refine ⟨trivial,?_⟩;gi_at_call 28;refine (callsIn_wide.2 (in_c _ ((H.out.alloc _).alloc _) _ _)).mono ?_;rintro e w1 ⟨rfl,rfl⟩;rw [HN.out,hi])
  refine ⟨.int .i64 5,by simp [results,Tryz.results23,go_sem],rfl,((Below.refl w.heap.size w).alloc (Nat.le_refl _) _).alloc (by simp) _⟩
 obtain ⟨b0,b1,b2,b3⟩:=sIn_yes hi
 obtain ⟨a,rfl⟩:=Int.eq_ofNat_of_zero_le b0
 obtain ⟨k,rfl⟩:=Int.eq_ofNat_of_zero_le b1
 rw [sCode_yes hi]
 obtain ⟨r,hr⟩:∃r:Int,(if okB (alF key) ks a k=true then 0 else 4)=r:=⟨_,rfl⟩
 rw [hr]
 have HR:=lh hr
 clear hr
 have hak:a+k≤bs.length:=by rw [HN.out];omega
 gi_wp2_with (refine ⟨trivial,?_⟩;first | (gi_at_call 28;refine (callsIn_wide.2 (in_c _ ((H.out.alloc _).alloc _) _ _)).mono ?_;rintro e w1 ⟨rfl,rfl⟩;rw [HN.out,hi]) | (gi_at_call 32;refine (callsIn_wide.2 (touched_c _ _ _ ⟨_,rfl⟩ _)).mono ?_;rintro e w1 ⟨rfl,rfl⟩))
 obtain ⟨W0,hW0⟩:∃W0,(((((w.alloc (.cells #[.func (.func 57) #[] #[.pointer (some ⟨Kb,0,none⟩)]] 70)).alloc (.cells #[.int .i64 0] 3)).alloc (.cells #[.pointer (some ⟨F.g,0,none⟩)] 27)).alloc (.cells #[.int .i64 a] 3)).alloc (.cells #[.int .i64 k] 3))=W0:=⟨_,rfl⟩
 rw [hW0]
 have hz:W0.heap.size=w.heap.size+5:=by rw [← hW0];simp
 have hB0:Below w.heap.size w W0:=by rw [← hW0];exact (((((Below.refl w.heap.size w).alloc (Nat.le_refl _) _).alloc (by simp) _).alloc (by simp;omega) _).alloc (by simp;omega) _).alloc (by simp;omega) _
 have q0:=cell_new_l w (.func (.func 57) #[] #[.pointer (some ⟨Kb,0,none⟩)]) 70
 have q1:=cell_new_l (w.alloc (.cells #[.func (.func 57) #[] #[.pointer (some ⟨Kb,0,none⟩)]] 70)) (.int .i64 0) 3
 have q2:=cell_new_l ((w.alloc (.cells #[.func (.func 57) #[] #[.pointer (some ⟨Kb,0,none⟩)]] 70)).alloc (.cells #[.int .i64 0] 3)) (.pointer (some ⟨F.g,0,none⟩)) 27
 have q3:=cell_new_l (((w.alloc (.cells #[.func (.func 57) #[] #[.pointer (some ⟨Kb,0,none⟩)]] 70)).alloc (.cells #[.int .i64 0] 3)).alloc (.cells #[.pointer (some ⟨F.g,0,none⟩)] 27)) (.int .i64 a) 3
 have q4:=cell_new_l ((((w.alloc (.cells #[.func (.func 57) #[] #[.pointer (some ⟨Kb,0,none⟩)]] 70)).alloc (.cells #[.int .i64 0] 3)).alloc (.cells #[.pointer (some ⟨F.g,0,none⟩)] 27)).alloc (.cells #[.int .i64 a] 3)) (.int .i64 k) 3
 simp only [World.size_alloc] at q1 q2 q3 q4
 have k0:W0.cell? ⟨w.heap.size,0,none⟩=some (.func (.func 57) #[] #[.pointer (some ⟨Kb,0,none⟩)]):=by rw [← hW0];exact cell_alloc_l _ (cell_alloc_l _ (cell_alloc_l _ (cell_alloc_l _ q0.1)))
 have k1:W0.cell? ⟨w.heap.size+1,0,none⟩=some (.int .i64 0):=by rw [← hW0];exact cell_alloc_l _ (cell_alloc_l _ (cell_alloc_l _ q1.1))
 have f1:W0.frozen? ⟨w.heap.size+1,0,none⟩=false:=by rw [← hW0];exact frozen_alloc_l _ (cell_alloc_l _ (cell_alloc_l _ q1.1)) (frozen_alloc_l _ (cell_alloc_l _ q1.1) (frozen_alloc_l _ q1.1 q1.2))
 have k2:W0.cell? ⟨w.heap.size+1+1,0,none⟩=some (.pointer (some ⟨F.g,0,none⟩)):=by rw [← hW0];exact cell_alloc_l _ (cell_alloc_l _ q2.1)
 have k3:W0.cell? ⟨w.heap.size+1+1+1,0,none⟩=some (.int .i64 a):=by rw [← hW0];exact cell_alloc_l _ q3.1
 have k4:W0.cell? ⟨w.heap.size+1+1+1+1,0,none⟩=some (.int .i64 k):=by rw [← hW0];exact q4.1
 have k5:W0.cell? ⟨Kb,0,none⟩=some (.int .i64 key):=(hB0.cell (p:=⟨Kb,0,none⟩) kl).trans hc
 have HS:=lh (H.out.belowS hB0)
 have lg:=H.out.ltg
 have lk:=H.out.ltk
 skip
 refine wpIn_rangeFunc_ownF rfl (by omega) (gf:=45) (lb:=#[.pointer (some ⟨w.heap.size+1+1+1+1,0,none⟩),.pointer (some ⟨w.heap.size+1+1+1,0,none⟩),.pointer (some ⟨w.heap.size+1+1,0,none⟩)]) rfl trivial (enters_of Tryz.func45 (by kernel_rfl) rfl)
  (touched1_stops (5 - 1) (by omega) a k (w.heap.size+1+1+1+1) (w.heap.size+1+1+1) (w.heap.size+1+1) (w.heap.size+5) W0 HS.out hak (by omega) (by omega) (by omega) (by omega) (by omega) (by omega) k4 k3 k2) belowK_t (belowK_b (by omega)) (Below.refl _ _) (fun _=>rfl)
  (fun pre W=>((∀y∈pre,alF key y.1=true)∧W.cell? ⟨w.heap.size,0,none⟩=some (.func (.func 57) #[] #[.pointer (some ⟨Kb,0,none⟩)])∧W.cell? ⟨w.heap.size+1,0,none⟩=some (.int .i64 0)∧W.frozen? ⟨w.heap.size+1,0,none⟩=false∧W.cell? ⟨Kb,0,none⟩=some (.int .i64 key))∧Below w.heap.size w W)
  (fun c pre W=>(c=.ret∧(∃y∈pre,alF key y.1=false)∧W.cell? ⟨w.heap.size+1,0,none⟩=some (.int .i64 4))∧Below w.heap.size w W)
  (OwnFrom.and (Own.from (fun s A B row hs hg hr=>⟨hs.1,cell_kept hs.2.1 hg hr,cell_kept hs.2.2.1 hg hr,(frozen_kept hs.2.2.1 hg hr).trans hs.2.2.2.1,cell_kept hs.2.2.2.2 hg hr⟩) _) (ownFrom_below (Nat.le_refl _) (by omega)))
  (fun c=>OwnFrom.and (Own.from (fun s A B row hs hg hr=>⟨hs.1,hs.2.1,cell_kept hs.2.2 hg hr⟩) _) (ownFrom_below (Nat.le_refl _) (by omega)))
  ⟨⟨by simp,k0,k1,f1,k5⟩,hB0⟩
  (fun x=>{ tmps:=#[.pointer (some ⟨F.g,0,none⟩),.int .i64 a,.int .i64 k,.func (.func 57) #[] #[.pointer (some ⟨Kb,0,none⟩)],undef,undef,undef,.pointer (some ⟨w.heap.size,0,none⟩),.pointer (some ⟨w.heap.size+1,0,none⟩),.int .i64 x.1,.pointer (some ⟨F.g,0,none⟩),.int .i64 a,.int .i64 k,.bool true,.bool false,.pointer (some ⟨F.g,0,none⟩),.int .i64 a,.int .i64 k,.func (.func 45) #[] #[.pointer (some ⟨w.heap.size+1+1+1+1,0,none⟩),.pointer (some ⟨w.heap.size+1+1+1,0,none⟩),.pointer (some ⟨w.heap.size+1+1,0,none⟩)],.int .i64 x.1,undef,undef,undef,undef],defers:=[] }) ?assign ?body ?done ?stop
 case assign=>
  intro l x W K hK
  gi_wp2
  exact hK
 case body=>
  rintro l pre x W ⟨⟨hal,hclo,hres,hfr,hkey⟩,hB⟩ hlen
  cases hx:alF key x.1
  ·gi_wp2_with (refine ⟨trivial,?_⟩;gi_at_call 57;refine (CallsIn.inRound l (callsIn_wide.2 (fetch1_c Kb _ key x.2.1 x.2.2 _ hkey))).mono ?_;rintro e w1 ⟨rfl,rfl⟩;rw [hx])
   exact ⟨KeepsOthers.setCell _ _ _,⟨rfl,⟨x,by simp,hx⟩,World.cell?_setCell_same' _ _ _ (by rw [hres];rfl)⟩,hB.setCell (p:=⟨w.heap.size+1,0,none⟩) (by simp) _⟩
  ·gi_wp2_with (refine ⟨trivial,?_⟩;gi_at_call 57;refine (CallsIn.inRound l (callsIn_wide.2 (fetch1_c Kb _ key x.2.1 x.2.2 _ hkey))).mono ?_;rintro e w1 ⟨rfl,rfl⟩;rw [hx])
   refine ⟨KeepsOthers.refl _,Below.refl _ _,⟨?_,hclo,hres,hfr,hkey⟩,hB⟩
   intro y hy
   rcases List.mem_append.1 hy with h1 | h1
   ·exact hal y h1
   ·rw [List.mem_singleton] at h1;rw [h1];exact hx
 case done=>
  rintro D ys W hD hys ⟨⟨hal,hclo,hres,hfr,hkey⟩,hB⟩ hK
  have hok:okB (alF key) ks a k=true:=by
   rw [okB_tK,← hys,List.all_eq_true]
   intro z hz
   obtain ⟨y,hy,rfl⟩:=List.mem_map.1 hz
   exact hal y hy
  have fin:=lh (show (0:Int)=r from by rw [← HR.out,hok];rfl)
  clear hok
  gi_wp2
  have hK':=(KeepsOthers.setCell W ⟨w.heap.size+1,0,none⟩ (.int .i64 0)).same D _ hK rfl
  refine ⟨by simp,.inl ⟨_,_,rfl,run_takeDeferred hK',?_⟩⟩
  have hc5:=cell_kept (World.cell?_setCell_same' W ⟨w.heap.size+1,0,none⟩ (.int .i64 0) (by rw [hres];rfl)) (grownBy_putObj' _ D (.deferred none)) (fun r e=>by cases e;exact ⟨_,hK',rfl⟩)
  refine ⟨.int .i64 0,?_,by rw [fin.out],(hB.setCell (p:=⟨w.heap.size+1,0,none⟩) (by simp) _).trans (belowK_b (w:=w) (Nat.le_refl _) _ D _ _ (by omega) hK' rfl rfl)⟩
  simp [results,Tryz.results23,go_sem,hc5]
 case stop=>
  rintro D c pre W hD ⟨cc,hcc,hpre⟩ ⟨⟨rfl,⟨y,hy,hf⟩,hres⟩,hB⟩ hK
  have hok:okB (alF key) ks a k=false:=by
   rw [okB_tK,Bool.eq_false_iff]
   intro h1
   rw [List.all_eq_true] at h1
   have h2:=h1 y.1 (tK_sub hcc (by rw [← hpre];exact List.mem_map.2 ⟨y,hy,rfl⟩))
   rw [hf] at h2;cases h2
  have fin:=lh (show (4:Int)=r from by rw [← HR.out,hok];rfl)
  clear hok
  gi_wp2
  refine ⟨by simp,.inl ⟨_,_,rfl,run_takeDeferred hK,?_⟩⟩
  have hc5:=cell_kept hres (grownBy_putObj' _ D (.deferred none)) (fun r e=>by cases e;exact ⟨_,hK,rfl⟩)
  refine ⟨.int .i64 4,?_,by rw [fin.out],hB.trans (belowK_b (w:=w) (Nat.le_refl _) W D _ _ (by omega) hK rfl rfl)⟩
  simp [results,Tryz.results23,go_sem,hc5]
end Go.Proofs.YtljajnaclpbecaaGreatDoor
namespace Go.Proofs.YtljajnaclpbecaaGreatDoor
open Go.RowKit
set_option maxRecDepth 1000000
set_option maxHeartbeats 8000000
set_option linter.unusedVariables false
set_option linter.unusedSimpArgs false
theorem own_mono {w:World} {b b' n:Nat} {v:Value} {zs:List Int} (h:Own w b v n zs) (hb:b'≤b):Own w b' v n zs:=by
 refine ⟨⟨h.1.1,?_⟩,h.2⟩
 rcases h.1.2 with h0 | ⟨g,cap,cur,h1,h2,h3⟩
 ·exact .inl h0
 ·exact .inr ⟨g,cap,cur,h1,Nat.le_trans hb h2,h3⟩
theorem put_c {F:Foot} {bs ks:List Int} (w:World) (h:St 63 w F bs ks) (addr key:Int) (A:Option Addr) (len cap:Nat) (ys:List Int) (hy:Byt w A len ys) (hl:(len:Int)≤9223372036854775807):Calls Tryz.prog 9 #[.pointer (some ⟨F.g,0,none⟩),.int .i64 addr,.slice A len cap,.int .i64 key] w fun e w'=>e=.returned (.int .i64 (sCode (alP key) bs.length ks addr len))∧St 63 w' F (sPut (alP key) bs ks addr ys) ks∧w.grownBy w' (some F.gb):=by
 have H:=lh h
 have HY:=lh hy
 have HL:=lh hy.1
 clear hy h
 obtain ⟨N,hN⟩:∃N,bs.length=N:=⟨_,rfl⟩
 have n1:(N:Int)≤65536:=by have:=H.out.ln;have:=H.out.l1;omega
 have HN:=lh hN
 clear hN
 obtain ⟨r,hr⟩:∃r,sCode (alP key) bs.length ks addr len=r:=⟨_,rfl⟩
 rw [hr]
 have HR:=lh hr
 by_cases h0:r=0
 ·subst h0
  have hin:=sCode_zero hr
  rw [HN.out] at hin
  obtain ⟨b0,b1,b2,b3⟩:=sIn_yes hin
  obtain ⟨a,rfl⟩:=Int.eq_ofNat_of_zero_le b0
  have g0:=lh (show a+len≤bs.length from by rw [HN.out];omega)
  have a0:(a:Int)≤(N:Int):=by omega
  have hp:=lh (show sPut (alP key) bs ks (a:Int) ys=splice bs a ys from by unfold sPut;rw [HL.out,hr,if_pos rfl];simp)
  have lb:=H.out.capb
  rw [HN.out] at lb
  have lbb:=H.out.maxb
  unfold maxLen at lbb
  have aN:a≤N:=by omega
  clear hr hin
  go_enter Tryz.func9,Tryz.ntmps9
  go_wp2_with fail
  refine (check_p (F:=F) (bs:=bs) (ks:=ks) _ _ key w.heap.size _ (H.out.alloc _) (by simp)).mono ?_
  rintro e w1 ⟨rfl,hb⟩
  rw [HR.out]
  have HB1:=lh (show Below w.heap.size w w1 from ((Below.refl w.heap.size w).alloc (Nat.le_refl _) _).trans (hb.mono (by simp)))
  have ST1:=lh ((H.out.alloc (.cells #[.int .i64 key] 3)).belowS hb)
  clear hb
  have e0:=ST1.out.cell0
  rw [HN.out] at e0
  by_cases hcap:F.cb=a
  ·obtain rfl:N=a:=by omega
   obtain rfl:len=0:=by omega
   obtain ⟨w2,hcp,hs,hg⟩:=run_copy_to ST1.out (by decide) (HY.out.keep HB1.out) g0.out (X:=some ⟨F.gb,0,none⟩) (c:=cap) (dc:=0) (.inr ⟨rfl,rfl⟩)
   rw [HN.out,Nat.sub_self] at hcp
   have hcp':(Builtin.copy_ #[22,22] 3 #[.slice (some ⟨F.gb,0,none⟩) 0 0,.slice A 0 cap]).run Tryz.prog w1=.ok (.int .i64 0) w2:=hcp
   rw [hcap] at e0
   have HS:=lh hs
   have HG:=lh hg
   clear hs hg hcp hcap lb lbb
   go_wp2
   go_ret
   exact ⟨rfl,by rw [hp.out];exact HS.out,grown_trans (grown_of_below HB1.out _) HG.out⟩
  ·obtain ⟨w2,hcp,hs,hg⟩:=run_copy_to ST1.out (by decide) (HY.out.keep HB1.out) g0.out (X:=some ⟨F.gb,a,none⟩) (c:=cap) (dc:=F.cb - a) (.inl rfl)
   rw [HN.out] at hcp
   have HS:=lh hs
   have HG:=lh hg
   clear hs hg
   go_wp2
   go_ret
   exact ⟨rfl,by rw [hp.out];exact HS.out,grown_trans (grown_of_below HB1.out _) HG.out⟩
 ·have e0:(r == 0)=false:=by simpa using h0
  have hp:=lh (show sPut (alP key) bs ks addr ys=bs from by unfold sPut;rw [HL.out,hr,if_neg h0])
  clear hr h0
  go_enter Tryz.func9,Tryz.ntmps9
  go_wp2_with (go_at_call 23;refine (check_p (F:=F) (bs:=bs) (ks:=ks) _ _ key w.heap.size _ (H.out.alloc _) (by simp)).mono ?_;rintro e w1 ⟨rfl,hb⟩;rw [HR.out];have HB1:=lh (show Below w.heap.size w w1 from ((Below.refl w.heap.size w).alloc (Nat.le_refl _) _).trans (hb.mono (by simp)));have ST1:=lh ((H.out.alloc (.cells #[.int .i64 key] 3)).belowS hb);clear hb)
  go_ret
  exact ⟨rfl,by rw [hp.out];exact ST1.out,grown_of_below HB1.out _⟩
theorem fetch_c {F:Foot} {bs ks:List Int} (w:World) (h:St 63 w F bs ks) (addr n key:Int):Calls Tryz.prog 47 #[.pointer (some ⟨F.g,0,none⟩),.int .i64 addr,.int .i64 n,.int .i64 key] w (GivesC w (sFet (alF key) bs ks addr n) (sCode (alF key) bs.length ks addr n)):=by
 have H:=lh h
 clear h
 obtain ⟨r,hr⟩:∃r,sCode (alF key) bs.length ks addr n=r:=⟨_,rfl⟩
 by_cases h0:r=0
 ·subst h0
  have hf:=lh (show sFet (alF key) bs ks addr n=sGet bs addr n from by unfold sFet;rw [hr,if_pos rfl])
  rw [hf.out,hr]
  have HR:=lh hr
  clear hr
  go_enter Tryz.func47,Tryz.ntmps47
  go_wp2_with (first | (go_at_call 23;refine (check_f (F:=F) (bs:=bs) (ks:=ks) _ _ key w.heap.size _ (H.out.alloc _) (by simp)).mono ?_;rintro e w1 ⟨rfl,hb⟩;rw [HR.out];have HB1:=lh (show Below w.heap.size w w1 from ((Below.refl w.heap.size w).alloc (Nat.le_refl _) _).trans (hb.mono (by simp)));have ST1:=lh ((H.out.alloc (.cells #[.int .i64 key] 3)).belowS hb);clear hb) | (go_at_call 17;refine (bytes_c _ ST1.out _ _).mono ?_;rintro e w2 ⟨A,m,cap,rfl,ho,hb⟩;have HO:=lh ho;have HB:=lh hb;clear ho hb))
  go_ret2
  exact ⟨A,m,cap,rfl,own_mono HO.out HB1.out.size,HB1.out.trans (HB.out.mono HB1.out.size)⟩
 ·have e0:(r != 0)=true:=by simpa using h0
  have hf:=lh (show sFet (alF key) bs ks addr n=[] from by unfold sFet;rw [hr,if_neg h0])
  rw [hf.out,hr]
  have HR:=lh hr
  clear hr h0
  go_enter Tryz.func47,Tryz.ntmps47
  go_wp2_with (go_at_call 23;refine (check_f (F:=F) (bs:=bs) (ks:=ks) _ _ key w.heap.size _ (H.out.alloc _) (by simp)).mono ?_;rintro e w1 ⟨rfl,hb⟩;rw [HR.out];have HB1:=lh (show Below w.heap.size w w1 from ((Below.refl w.heap.size w).alloc (Nat.le_refl _) _).trans (hb.mono (by simp)));have ST1:=lh ((H.out.alloc (.cells #[.int .i64 key] 3)).belowS hb);clear hb)
  go_ret2
  exact ⟨none,0,0,rfl,Own.nil _ _,HB1.out⟩
structure MS (w:World) (g:Nat) (F:Foot) (is os rs:List Int) (ps:List Value) (ov:Bool) (bs ks:List Int):Prop where
 m:Mc w g is os rs ps (.pointer (some ⟨F.g,0,none⟩)) ov
 st:St 63 w F bs ks
 n0:g≠F.g
 n1:g≠F.gb
 n2:g≠F.gk
section
variable {w w':World} {g:Nat} {F:Foot} {is os rs:List Int} {ps:List Value} {ov:Bool} {bs ks:List Int}
theorem MS.keep (h:MS w g F is os rs ps ov bs ks) (hb:Below w.heap.size w w'):MS w' g F is os rs ps ov bs ks:=⟨h.m.keep hb,h.st.belowS hb,h.n0,h.n1,h.n2⟩
theorem MS.drewN (h:MS w g F is os rs ps ov bs ks) (n:Nat):MS (w.drewN n) g F is os rs ps ov bs ks:=⟨h.m.drewN n,h.st.drewN n,h.n0,h.n1,h.n2⟩
theorem MS.ch (h:MS w g F is os rs ps ov bs ks) (hc:Ch w w' []):MS w' g F is os rs ps ov bs ks:=h.keep (hc.below (Nat.le_refl _) (by simp))
theorem MS.set_ (h:MS w g F is os rs ps ov bs ks) {is' os' rs':List Int} {ps':List Value} {ov':Bool} (hm:Mc w' g is' os' rs' ps' (.pointer (some ⟨F.g,0,none⟩)) ov') (hc:Ch w w' [g]):MS w' g F is' os' rs' ps' ov' bs ks:=
 ⟨hm,h.st.keep (hc.kept h.st.ltg (by simp;exact fun e=>h.n0 e.symm)) (hc.kept h.st.ltb (by simp;exact fun e=>h.n1 e.symm)) (hc.kept h.st.ltk (by simp;exact fun e=>h.n2 e.symm)),h.n0,h.n1,h.n2⟩
theorem MS.put_ (h:MS w g F is os rs ps ov bs ks) {bs':List Int} (hs:St 63 w' F bs' ks) (hg:w.grownBy w' (some F.gb)):MS w' g F is os rs ps ov bs' ks:=
 ⟨h.m.kept (hg.block g h.m.lt (by intro e;injection e with e;exact h.n1 e)),hs,h.n0,h.n1,h.n2⟩
theorem Ch.of_grown {b:Nat} (hg:w.grownBy w' (some b)):Ch w w' [b]:=⟨hg.os,hg.tape,hg.output,hg.size,fun k hk hb=>hg.block k hk (by intro e;injection e with e;exact hb (by simp [e]))⟩
end
theorem need_ok (c:Int) (w:World):Calls Tryz.prog 108 #[.bool true,.int .i64 c] w fun e w'=>e=.returned (.tuple #[])∧w=w':=by
 go_enter Tryz.func108,Tryz.ntmps108
 go_wp2
 go_end0
 exact ⟨rfl,rfl⟩
theorem put_m (g:Nat) (F:Foot) (is os rs:List Int) (ps:List Value) (ov:Bool) (bs ks:List Int) (addr key:Int) (A:Option Addr) (len cap:Nat) (ys:List Int) (w:World) (h:MS w g F is os rs ps ov bs ks) (hk:ps.getD 1 undef=.int .i64 key) (hy:Byt w A len ys) (hl:(len:Int)≤9223372036854775807) (hc:sCode (alP key) bs.length ks addr len=0):Calls Tryz.prog 113 #[.pointer (some ⟨g,0,none⟩),.int .i64 addr,.slice A len cap] w fun e w'=>e=.returned (.tuple #[])∧MS w' g F is os rs ps ov (sPut (alP key) bs ks addr ys) ks∧Ch w w' [F.gb]:=by
 have HH:=lh h
 have HK:=lh hk
 have PC:=lh (put_c w.drew (h.st.drewN 1) addr key A len cap ys (hy.keep (below_draw w 1)) hl)
 rw [hc] at PC
 clear h hk hy hc
 go_enter Tryz.func113,Tryz.ntmps113
 go_upto_region 0 with fail
 refine wp_region_held_drew (S:=(fun w'=>Mc w' g is os rs ps (.pointer (some ⟨F.g,0,none⟩)) ov)) (by kernel_rfl) ?_ (fun hHeld=>?_)
 ·(try dsimp only);exact HH.out.m.drewN 1
 refine' takeL (i:=0) (v:=_) rfl (by kernel_rfl) (by kernel_rfl) (by kernel_rfl) (fun _ _ _ h=>h) (Or.inl ⟨by rfl,?yy1⟩) (by assumption) ?rr1
 case yy1=>intro w hSw;(try dsimp only at hSw);go_simp;(try with_reducible rfl)
 try simp only [Act.put,List.setIfInBounds_toArray,List.set_cons_zero,List.set_cons_succ]
 refine' takeL (i:=1) (v:=_) rfl (by kernel_rfl) (by kernel_rfl) (by kernel_rfl) (fun _ _ _ h=>h) (Or.inl ⟨by rfl,?yy2⟩) (by assumption) ?rr2
 case yy2=>intro w hSw;(try dsimp only at hSw);go_simp;(try with_reducible rfl)
 try simp only [Act.put,List.setIfInBounds_toArray,List.set_cons_zero,List.set_cons_succ]
 refine' takeL (i:=2) (v:=_) rfl (by kernel_rfl) (by kernel_rfl) (by kernel_rfl) (fun _ _ _ h=>h) (Or.inl ⟨by rfl,?yy3⟩) (by assumption) ?rr3
 case yy3=>intro w hSw;(try dsimp only at hSw);go_simp;(try with_reducible rfl)
 try simp only [Act.put,List.setIfInBounds_toArray,List.set_cons_zero,List.set_cons_succ]
 refine' takeL (i:=3) (v:=.pointer (some ⟨F.g,0,none⟩)) rfl (by kernel_rfl) (by kernel_rfl) (by kernel_rfl) (fun _ _ _ h=>h) (Or.inl ⟨by rfl,?yy4⟩) (by assumption) ?rr4
 case yy4=>intro w hSw;(try dsimp only at hSw);have hq:=hSw.cs;go_simp;(try with_reducible rfl)
 try simp only [Act.put,List.setIfInBounds_toArray,List.set_cons_zero,List.set_cons_succ]
 refine' takeL (i:=4) (v:=_) rfl (by kernel_rfl) (by kernel_rfl) (by kernel_rfl) (fun _ _ _ h=>h) (Or.inl ⟨by rfl,?yy5⟩) (by assumption) ?rr5
 case yy5=>intro w hSw;(try dsimp only at hSw);go_simp;(try with_reducible rfl)
 try simp only [Act.put,List.setIfInBounds_toArray,List.set_cons_zero,List.set_cons_succ]
 refine' takeL (i:=5) (v:=_) rfl (by kernel_rfl) (by kernel_rfl) (by kernel_rfl) (fun _ _ _ h=>h) (Or.inl ⟨by rfl,?yy6⟩) (by assumption) ?rr6
 case yy6=>intro w hSw;(try dsimp only at hSw);go_simp;(try with_reducible rfl)
 try simp only [Act.put,List.setIfInBounds_toArray,List.set_cons_zero,List.set_cons_succ]
 refine' takeL (i:=6) (v:=_) rfl (by kernel_rfl) (by kernel_rfl) (by kernel_rfl) (fun _ _ _ h=>h) (Or.inl ⟨by rfl,?yy7⟩) (by assumption) ?rr7
 case yy7=>intro w hSw;(try dsimp only at hSw);go_simp;(try with_reducible rfl)
 try simp only [Act.put,List.setIfInBounds_toArray,List.set_cons_zero,List.set_cons_succ]
 refine' takeL (i:=7) (v:=_) rfl (by kernel_rfl) (by kernel_rfl) (by kernel_rfl) (fun _ _ _ h=>h) (Or.inl ⟨by rfl,?yy8⟩) (by assumption) ?rr8
 case yy8=>intro w hSw;(try dsimp only at hSw);go_simp;(try with_reducible rfl)
 try simp only [Act.put,List.setIfInBounds_toArray,List.set_cons_zero,List.set_cons_succ]
 refine' takeL (i:=8) (v:=_) rfl (by kernel_rfl) (by kernel_rfl) (by kernel_rfl) (fun _ _ _ h=>h) (Or.inl ⟨by rfl,?yy9⟩) (by assumption) ?rr9
 case yy9=>intro w hSw;(try dsimp only at hSw);go_simp;(try with_reducible rfl)
 try simp only [Act.put,List.setIfInBounds_toArray,List.set_cons_zero,List.set_cons_succ]
 refine' takeL (i:=9) (v:=_) rfl (by kernel_rfl) (by kernel_rfl) (by kernel_rfl) (fun _ _ _ h=>h) (Or.inl ⟨by rfl,?yy10⟩) (by assumption) ?rr10
 case yy10=>intro w hSw;(try dsimp only at hSw);go_simp;(try with_reducible rfl)
 try simp only [Act.put,List.setIfInBounds_toArray,List.set_cons_zero,List.set_cons_succ]
 refine' takeL (i:=10) (v:=.int .i64 key) rfl (by kernel_rfl) (by kernel_rfl) (by kernel_rfl) (fun _ _ _ h=>h) (Or.inl ⟨by rfl,?yy11⟩) (by assumption) ?rr11
 case yy11=>intro w hSw;(try dsimp only at hSw);have hq:=hSw.cp (n:=1) (by omega);rw [HK.out] at hq;go_simp;(try with_reducible rfl)
 try simp only [Act.put,List.setIfInBounds_toArray,List.set_cons_zero,List.set_cons_succ]
 refine wpAnyH_ready (rs:=[11]) (by kernel_rfl) (by simp) ?_
 refine consL rfl (fun K hK=>?_) AllReadyH.nil
 go_simp
 go_at_call 9
 refine PC.out.mono ?_
 rintro e w5 ⟨rfl,hS,hG⟩
 have M5:=lh ((HH.out.drewN 1).put_ hS hG)
 have C5:=lh (show Ch w w5 [F.gb] from ((Ch.refl w [F.gb]).drewN 1).trans (Ch.of_grown hG))
 clear hS hG hHeld
 go_wp2_with fail
 refine hK.out _ _ ?_ (fun hHeld=>?_)
 ·(try dsimp only);exact M5.out.m
 clear hK K
 try simp only [Act.put,List.setIfInBounds_toArray,List.set_cons_zero,List.set_cons_succ]
 refine' takeL (i:=12) (v:=_) rfl (by kernel_rfl) (by kernel_rfl) (by kernel_rfl) (fun _ _ _ h=>h) (Or.inl ⟨by rfl,?yy12⟩) (by assumption) ?rr12
 case yy12=>intro w hSw;(try dsimp only at hSw);go_simp;(try with_reducible rfl)
 try simp only [Act.put,List.setIfInBounds_toArray,List.set_cons_zero,List.set_cons_succ]
 refine wpAnyH_done (by kernel_rfl) ?_ _
 clear hHeld
 go_wp2_with (go_at_call 108;refine (need_ok _ _).mono ?_;rintro e wx ⟨rfl,hwx⟩;subst hwx)
 go_end0
 exact ⟨rfl,M5.out,C5.out⟩
theorem fetch_m (g:Nat) (F:Foot) (is os rs:List Int) (ps:List Value) (ov:Bool) (bs ks:List Int) (addr n key:Int) (w:World) (h:MS w g F is os rs ps ov bs ks) (hk:ps.getD 1 undef=.int .i64 key) (hc:sCode (alF key) bs.length ks addr n=0):Calls Tryz.prog 116 #[.pointer (some ⟨g,0,none⟩),.int .i64 addr,.int .i64 n] w fun e w'=>∃A m cap,e=.returned (.slice A m cap)∧Own w' w.heap.size (.slice A m cap) m (sGet bs addr n)∧MS w' g F is os rs ps ov bs ks∧Ch w w' []:=by
 have HH:=lh h
 have HK:=lh hk
 have FC:=lh (fetch_c w.drew (h.st.drewN 1) addr n key)
 unfold sFet at FC
 rw [hc,if_pos rfl] at FC
 clear h hk hc
 go_enter Tryz.func116,Tryz.ntmps116
 go_upto_region 1 with fail
 refine wp_region_held_drew (S:=(fun w'=>Mc w' g is os rs ps (.pointer (some ⟨F.g,0,none⟩)) ov)) (by kernel_rfl) ?_ (fun hHeld=>?_)
 ·(try dsimp only);exact HH.out.m.drewN 1
 refine' takeL (i:=0) (v:=_) rfl (by kernel_rfl) (by kernel_rfl) (by kernel_rfl) (fun _ _ _ h=>h) (Or.inl ⟨by rfl,?yy13⟩) (by assumption) ?rr13
 case yy13=>intro w hSw;(try dsimp only at hSw);go_simp;(try with_reducible rfl)
 try simp only [Act.put,List.setIfInBounds_toArray,List.set_cons_zero,List.set_cons_succ]
 refine' takeL (i:=1) (v:=_) rfl (by kernel_rfl) (by kernel_rfl) (by kernel_rfl) (fun _ _ _ h=>h) (Or.inl ⟨by rfl,?yy14⟩) (by assumption) ?rr14
 case yy14=>intro w hSw;(try dsimp only at hSw);go_simp;(try with_reducible rfl)
 try simp only [Act.put,List.setIfInBounds_toArray,List.set_cons_zero,List.set_cons_succ]
 refine' takeL (i:=2) (v:=_) rfl (by kernel_rfl) (by kernel_rfl) (by kernel_rfl) (fun _ _ _ h=>h) (Or.inl ⟨by rfl,?yy15⟩) (by assumption) ?rr15
 case yy15=>intro w hSw;(try dsimp only at hSw);go_simp;(try with_reducible rfl)
 try simp only [Act.put,List.setIfInBounds_toArray,List.set_cons_zero,List.set_cons_succ]
 refine' takeL (i:=3) (v:=.pointer (some ⟨F.g,0,none⟩)) rfl (by kernel_rfl) (by kernel_rfl) (by kernel_rfl) (fun _ _ _ h=>h) (Or.inl ⟨by rfl,?yy16⟩) (by assumption) ?rr16
 case yy16=>intro w hSw;(try dsimp only at hSw);have hq:=hSw.cs;go_simp;(try with_reducible rfl)
 try simp only [Act.put,List.setIfInBounds_toArray,List.set_cons_zero,List.set_cons_succ]
 refine' takeL (i:=4) (v:=_) rfl (by kernel_rfl) (by kernel_rfl) (by kernel_rfl) (fun _ _ _ h=>h) (Or.inl ⟨by rfl,?yy17⟩) (by assumption) ?rr17
 case yy17=>intro w hSw;(try dsimp only at hSw);go_simp;(try with_reducible rfl)
 try simp only [Act.put,List.setIfInBounds_toArray,List.set_cons_zero,List.set_cons_succ]
 refine' takeL (i:=5) (v:=_) rfl (by kernel_rfl) (by kernel_rfl) (by kernel_rfl) (fun _ _ _ h=>h) (Or.inl ⟨by rfl,?yy18⟩) (by assumption) ?rr18
 case yy18=>intro w hSw;(try dsimp only at hSw);go_simp;(try with_reducible rfl)
 try simp only [Act.put,List.setIfInBounds_toArray,List.set_cons_zero,List.set_cons_succ]
 refine' takeL (i:=6) (v:=_) rfl (by kernel_rfl) (by kernel_rfl) (by kernel_rfl) (fun _ _ _ h=>h) (Or.inl ⟨by rfl,?yy19⟩) (by assumption) ?rr19
 case yy19=>intro w hSw;(try dsimp only at hSw);go_simp;(try with_reducible rfl)
 try simp only [Act.put,List.setIfInBounds_toArray,List.set_cons_zero,List.set_cons_succ]
 refine' takeL (i:=7) (v:=_) rfl (by kernel_rfl) (by kernel_rfl) (by kernel_rfl) (fun _ _ _ h=>h) (Or.inl ⟨by rfl,?yy20⟩) (by assumption) ?rr20
 case yy20=>intro w hSw;(try dsimp only at hSw);go_simp;(try with_reducible rfl)
 try simp only [Act.put,List.setIfInBounds_toArray,List.set_cons_zero,List.set_cons_succ]
 refine' takeL (i:=8) (v:=_) rfl (by kernel_rfl) (by kernel_rfl) (by kernel_rfl) (fun _ _ _ h=>h) (Or.inl ⟨by rfl,?yy21⟩) (by assumption) ?rr21
 case yy21=>intro w hSw;(try dsimp only at hSw);go_simp;(try with_reducible rfl)
 try simp only [Act.put,List.setIfInBounds_toArray,List.set_cons_zero,List.set_cons_succ]
 refine' takeL (i:=9) (v:=_) rfl (by kernel_rfl) (by kernel_rfl) (by kernel_rfl) (fun _ _ _ h=>h) (Or.inl ⟨by rfl,?yy22⟩) (by assumption) ?rr22
 case yy22=>intro w hSw;(try dsimp only at hSw);go_simp;(try with_reducible rfl)
 try simp only [Act.put,List.setIfInBounds_toArray,List.set_cons_zero,List.set_cons_succ]
 refine' takeL (i:=10) (v:=.int .i64 key) rfl (by kernel_rfl) (by kernel_rfl) (by kernel_rfl) (fun _ _ _ h=>h) (Or.inl ⟨by rfl,?yy23⟩) (by assumption) ?rr23
 case yy23=>intro w hSw;(try dsimp only at hSw);have hq:=hSw.cp (n:=1) (by omega);rw [HK.out] at hq;go_simp;(try with_reducible rfl)
 try simp only [Act.put,List.setIfInBounds_toArray,List.set_cons_zero,List.set_cons_succ]
 refine wpAnyH_ready (rs:=[11]) (by kernel_rfl) (by simp) ?_
 refine consL rfl (fun K hK=>?_) AllReadyH.nil
 go_simp
 go_at_call 47
 refine FC.out.mono ?_
 rintro e w5 ⟨A,m,cap,rfl,hO,hb⟩
 have M5:=lh ((HH.out.drewN 1).keep hb)
 have C5:=lh (show Ch w w5 [] from ((Ch.refl w []).drewN 1).trans (Ch.of_below hb []))
 have O5:=lh hO
 clear hO hb hHeld
 go_wp2_with fail
 refine hK.out _ _ ?_ (fun hHeld=>?_)
 ·(try dsimp only);exact M5.out.m
 clear hK K
 try simp only [Act.put,List.setIfInBounds_toArray,List.set_cons_zero,List.set_cons_succ]
 refine' takeL (i:=12) (v:=_) rfl (by kernel_rfl) (by kernel_rfl) (by kernel_rfl) (fun _ _ _ h=>h) (Or.inl ⟨by rfl,?yy24⟩) (by assumption) ?rr24
 case yy24=>intro w hSw;(try dsimp only at hSw);go_simp;(try with_reducible rfl)
 try simp only [Act.put,List.setIfInBounds_toArray,List.set_cons_zero,List.set_cons_succ]
 refine' takeL (i:=13) (v:=_) rfl (by kernel_rfl) (by kernel_rfl) (by kernel_rfl) (fun _ _ _ h=>h) (Or.inl ⟨by rfl,?yy25⟩) (by assumption) ?rr25
 case yy25=>intro w hSw;(try dsimp only at hSw);go_simp;(try with_reducible rfl)
 try simp only [Act.put,List.setIfInBounds_toArray,List.set_cons_zero,List.set_cons_succ]
 refine' takeL (i:=14) (v:=_) rfl (by kernel_rfl) (by kernel_rfl) (by kernel_rfl) (fun _ _ _ h=>h) (Or.inl ⟨by rfl,?yy26⟩) (by assumption) ?rr26
 case yy26=>intro w hSw;(try dsimp only at hSw);go_simp;(try with_reducible rfl)
 try simp only [Act.put,List.setIfInBounds_toArray,List.set_cons_zero,List.set_cons_succ]
 refine' takeL (i:=15) (v:=_) rfl (by kernel_rfl) (by kernel_rfl) (by kernel_rfl) (fun _ _ _ h=>h) (Or.inl ⟨by rfl,?yy27⟩) (by assumption) ?rr27
 case yy27=>intro w hSw;(try dsimp only at hSw);go_simp;(try with_reducible rfl)
 try simp only [Act.put,List.setIfInBounds_toArray,List.set_cons_zero,List.set_cons_succ]
 refine' takeL (i:=16) (v:=_) rfl (by kernel_rfl) (by kernel_rfl) (by kernel_rfl) (fun _ _ _ h=>h) (Or.inl ⟨by rfl,?yy28⟩) (by assumption) ?rr28
 case yy28=>intro w hSw;(try dsimp only at hSw);go_simp;(try with_reducible rfl)
 try simp only [Act.put,List.setIfInBounds_toArray,List.set_cons_zero,List.set_cons_succ]
 refine wpAnyH_done (by kernel_rfl) ?_ _
 clear hHeld
 go_wp2_with (go_at_call 108;refine (need_ok _ _).mono ?_;rintro e wx ⟨rfl,hwx⟩;subst hwx)
 go_ret
 exact ⟨A,m,cap,by rfl,O5.out,M5.out,C5.out⟩
theorem full_c (v:Int) (w:World) (v0:0≤v) (v1:v≤4294967295):Calls Tryz.prog 115 #[.int .u32 v] w fun e w'=>e=.returned (.slice (some ⟨w.heap.size,0,none⟩) 4 4)∧w'=w.alloc (.cells #[.int .u8 (v / 16777216),.int .u8 (v / 65536 % 256),.int .u8 (v / 256 % 256),.int .u8 (v % 256)] 5):=by
 go_enter Tryz.func115,Tryz.ntmps115
 go_wp2
 trace_state
 go_ret
 exact ⟨by rfl,by rfl⟩
def In.z (I:In):List Int:=[I.op,I.fm,I.n,I.k,I.x,I.b,I.d,I.b',I.d',I.l,I.l',I.i]
def Ps.to (p:Ps) (cc pg ad:Int):Ps:={ p with cc:=cc,pg:=pg,ad:=ad }
structure PS (w0 w:World) (g:Nat) (F:Foot) (I:In) (os rs:List Int) (p q:Ps) (ov:Bool) (bs ks:List Int):Prop where
 m:Mc w g I.z os rs q.v (.pointer (some ⟨F.g,0,none⟩)) ov
 st:St 63 w F bs ks
 b:Ch w0 w [g,F.gb]
 n0:g≠F.g
 n1:g≠F.gb
 n2:g≠F.gk
 ro:∀z∈os,0≤z∧z≤4294967295
 ix:I.ok
 hq:q=p.to q.cc q.pg q.ad
def Pn (c:Int):Ending:=.panicked [{ v:=.iface 124 (.int .i64 c),recovered:=false }]
def Th (A:Value→World→Prop) (c:Int) (B:World→Prop) (e:Ending) (w':World):Prop:=(∃v,e=.returned v∧A v w')∨(e=.panicked [{ v:=.iface 124 (.int .i64 c),recovered:=false }]∧B w')
theorem Th.ok {A:Value→World→Prop} {c:Int} {B:World→Prop} {v:Value} {w:World} (h:A v w):Th A c B (.returned v) w:=.inl ⟨v,rfl,h⟩
theorem Th.no {A:Value→World→Prop} {c c':Int} {B:World→Prop} {w:World} (hc:c'=c) (h:B w):Th A c B (.panicked [{ v:=.iface 124 (.int .i64 c'),recovered:=false }]) w:=.inr ⟨by rw [hc],h⟩
section
variable {w0 w w':World} {g:Nat} {F:Foot} {I:In} {os rs:List Int} {p q:Ps} {ov:Bool} {bs ks:List Int}
theorem PS.lt (h:PS w0 w g F I os rs p q ov bs ks):g<w.heap.size:=h.m.lt
theorem PS.ms (h:PS w0 w g F I os rs p q ov bs ks):MS w g F I.z os rs q.v ov bs ks:=⟨h.m,h.st,h.n0,h.n1,h.n2⟩
theorem PS.fz (h:PS w0 w g F I os rs p q ov bs ks) (j:Nat):w.frozen? ⟨g,j,none⟩=false:=h.m.free j
theorem PS.keep (h:PS w0 w g F I os rs p q ov bs ks) (hb:Below w.heap.size w w'):PS w0 w' g F I os rs p q ov bs ks:={ h with m:=h.m.keep hb,st:=h.st.belowS hb,b:=h.b.trans (Ch.of_below hb _) }
theorem PS.drewN (h:PS w0 w g F I os rs p q ov bs ks) (n:Nat):PS w0 (w.drewN n) g F I os rs p q ov bs ks:=h.keep (dBelow' (Below.refl _ _) n)
theorem PS.drew (h:PS w0 w g F I os rs p q ov bs ks):PS w0 w.drew g F I os rs p q ov bs ks:=h.drewN 1
theorem PS.mc {rs':List Int} {q':Ps} {ov':Bool} (h:PS w0 w g F I os rs p q ov bs ks) {j:Nat} {v:Value} (hm:Mc (w.setCell ⟨g,j,none⟩ v) g I.z os rs' q'.v (.pointer (some ⟨F.g,0,none⟩)) ov') (hq:q'=p.to q'.cc q'.pg q'.ad):PS w0 (w.setCell ⟨g,j,none⟩ v) g F I os rs' p q' ov' bs ks:=
 { h with m:=hm,hq:=hq,st:=h.st.keep (Below.heap_setCell w _ v _ h.n0.symm) (Below.heap_setCell w _ v _ h.n1.symm) (Below.heap_setCell w _ v _ h.n2.symm),b:=h.b.setCell (by simp) v }
theorem PS.setr (h:PS w0 w g F I os rs p q ov bs ks) {n:Nat} (hn:n<16) (v:Int):PS w0 (w.setCell ⟨g,28+n,none⟩ (.int .u32 v)) g F I os (rs.set n v) p q ov bs ks:=h.mc (h.m.setr hn v) h.hq
theorem PS.setcc (h:PS w0 w g F I os rs p q ov bs ks) (v:Int):PS w0 (w.setCell ⟨g,51,none⟩ (.int .i64 v)) g F I os rs p { q with cc:=v } ov bs ks:=h.mc (h.m.setp (n:=7) (by omega) _) (by have:=h.hq;unfold Ps.to at this ⊢;rw [this])
theorem PS.setpg (h:PS w0 w g F I os rs p q ov bs ks) (v:Int):PS w0 (w.setCell ⟨g,52,none⟩ (.int .i64 v)) g F I os rs p { q with pg:=v } ov bs ks:=h.mc (h.m.setp (n:=8) (by omega) _) (by have:=h.hq;unfold Ps.to at this ⊢;rw [this])
theorem PS.setad (h:PS w0 w g F I os rs p q ov bs ks) (v:Int):PS w0 (w.setCell ⟨g,53,none⟩ (.int .i64 v)) g F I os rs p { q with ad:=v } ov bs ks:=h.mc (h.m.setp (n:=9) (by omega) _) (by have:=h.hq;unfold Ps.to at this ⊢;rw [this])
theorem PS.setov (h:PS w0 w g F I os rs p q ov bs ks) (v:Bool):PS w0 (w.setCell ⟨g,55,none⟩ (.bool v)) g F I os rs p q v bs ks:=h.mc (h.m.setv v) h.hq
theorem PS.put_ (h:PS w0 w g F I os rs p q ov bs ks) {bs':List Int} (hs:St 63 w' F bs' ks) (hg:w.grownBy w' (some F.gb)):PS w0 w' g F I os rs p q ov bs' ks:=
 { h with m:=(h.ms.put_ hs hg).m,st:=hs,b:=h.b.trans ((Ch.of_grown hg).mono (by simp)) }
theorem PS.oth (h:PS w0 w g F I os rs p q ov bs ks) {a:Addr} (v:Value) (ha:a.block≠g∧a.block≠F.g∧a.block≠F.gb∧a.block≠F.gk) (h0:w0.heap.size≤a.block):PS w0 (w.setCell a v) g F I os rs p q ov bs ks:=
 { h with m:=h.m.other v ha.1,st:=h.st.keep (Below.heap_setCell w a v F.g (Ne.symm ha.2.1)) (Below.heap_setCell w a v F.gb (Ne.symm ha.2.2.1)) (Below.heap_setCell w a v F.gk (Ne.symm ha.2.2.2)),b:=h.b.setNew h0 v }
theorem PS.rb (h:PS w0 w g F I os rs p q ov bs ks):PS w w g F I os rs p q ov bs ks:={ h with b:=Ch.refl _ _ }
theorem PS.re {rs':List Int} {q':Ps} {ov':Bool} {bs':List Int} (h:PS w0 w g F I os rs p q ov bs ks) (h':PS w w' g F I os rs' p q' ov' bs' ks):PS w0 w' g F I os rs' p q' ov' bs' ks:={ h' with b:=h.b.trans h'.b }
theorem PS.opn {X:Prop} {u v o f:Int} (h:PS w0 w g F I os rs p q ov bs ks) (hX:Hid (PS w0 w g F I os rs p q ov bs ks)→w.cell? ⟨g,0,none⟩=some (.int .i64 o)→w.cell? ⟨g,1,none⟩=some (.int .i64 f)→w.cell? ⟨g,2,none⟩=some (.int .i64 (I.n:Int))→w.cell? ⟨g,3,none⟩=some (.int .i64 (I.k:Int))→w.cell? ⟨g,9,none⟩=some (.int .i64 (I.l:Int))→w.cell? ⟨g,11,none⟩=some (.int .i64 I.i) →
  w.cell? ⟨g,45,none⟩=some (.int .i64 p.key)→w.cell? ⟨g,50,none⟩=some (.int .i64 p.il)→w.cell? ⟨g,51,none⟩=some (.int .i64 q.cc)→w.cell? ⟨g,52,none⟩=some (.int .i64 q.pg)→w.cell? ⟨g,53,none⟩=some (.int .i64 q.ad)→w.cell? ⟨g,54,none⟩=some (.pointer (some ⟨F.g,0,none⟩))→w.cell? ⟨g,55,none⟩=some (.bool ov)→w.cell? ⟨g,12+I.n,none⟩=some (.int .u32 u)→w.cell? ⟨g,12+I.k,none⟩=some (.int .u32 v)→(∀j,w.frozen? ⟨g,j,none⟩=false)→(I.n:Int)<16→(I.k:Int)<16→X) (hu:Hid (os.getD I.n 0=u):=by first | assumption | exact lh rfl) (hv:Hid (os.getD I.k 0=v):=by first | assumption | exact lh rfl) (ho:Hid (I.op=o):=by first | assumption | exact lh rfl) (hf:Hid (I.fm=f):=by first | assumption | exact lh rfl):X:=
 hX (lh h) (ho.out▸h.m.ci (c:=0) (by omega)) (hf.out▸h.m.ci (c:=1) (by omega)) (h.m.ci (c:=2) (by omega)) (h.m.ci (c:=3) (by omega)) (h.m.ci (c:=9) (by omega)) (h.m.ci (c:=11) (by omega)) (by have:=h.m.cp (n:=1) (by omega);rw [h.hq] at this;exact this) (by have:=h.m.cp (n:=6) (by omega);rw [h.hq] at this;exact this) (h.m.cp (n:=7) (by omega)) (h.m.cp (n:=8) (by omega)) (h.m.cp (n:=9) (by omega)) h.m.cs h.m.cv (hu.out▸h.m.co h.ix.n) (hv.out▸h.m.co h.ix.k) h.fz (by have:=h.ix.n;omega) (by have:=h.ix.k;omega)
def Sy (w0:World) (g:Nat) (F:Foot) (I:In) (os:List Int) (p:Ps) (w:World):Prop:=∃rs q ov bs ks,PS w0 w g F I os rs p q ov bs ks
def Sz (w0:World) (g:Nat) (F:Foot) (I:In) (os:List Int) (p q:Ps) (w:World):Prop:=∃rs ov bs ks,PS w0 w g F I os rs p q ov bs ks
theorem PS.z (h:PS w0 w g F I os rs p q ov bs ks):Sz w0 g F I os p q w:=⟨_,_,_,_,h⟩
theorem PS.x (h:PS w0 w g F I os rs p q ov bs ks):Sy w0 g F I os p w:=⟨_,_,_,_,_,h⟩
end
section
variable {P:Program} {L:List Oper} {Q:Exit→Act→World→Prop} {md:Region.Mode} {S:World→Prop} {i:Nat} {v:Value} {oi:Oper} {fuel:Nat} {listed:Array Bool} {a:Act} {w:World} {X:Prop}
theorem tkp (h:X) (hn:nxt md L listed=some i:=by with_unfolding_all rfl) (hi:L[i]?=some oi:=by rfl)
  (hw:Region.wanted oi (yielded L.toArray a.tmps)=true:=by rfl) (y:∀w,S w→(execOp a.eval oi).run P w=.ok (.value v) w:=by (intro w hSw;obtain ⟨_,_,_,_,_,hx⟩:=hSw;refine PS.opn hx ?_;intros;go_simp;(try with_reducible rfl)))
  (hP:wpAnyH P md L.toArray Q S fuel (listed.setIfInBounds i true) (a.put oi.dst v) w=X:=by (simp only [Act.put,List.setIfInBounds_toArray,List.set_cons_zero,List.set_cons_succ];try rfl))
  (hs:Region.noSelect L.toArray=true:=by kernel_rfl)
  (hQ:∀c a w,Q (.panic c) (a.put oi.dst v) w→Q (.panic c) a w:=by exact fun _ _ _ h=>h) (hS:S w:=by assumption):wpAnyH P md L.toArray Q S (fuel+1) listed a w:=takeL hi hs (nxt_spec hn).1 (nxt_spec hn).2 hQ (.inl ⟨hw,y⟩) hS (hP▸h)
theorem tkp4 (h:X) (hn:nxt md L listed=some i:=by with_unfolding_all rfl) (hi:L[i]?=some oi:=by rfl)
  (hw:Region.wanted oi (yielded L.toArray a.tmps)=true:=by rfl) (y:∀w,S w→(execOp a.eval oi).run P w=.ok (.value v) w:=by (intro w hSw;obtain ⟨_,_,_,_,hx⟩:=hSw;refine PS.opn hx ?_;intros;go_simp;(try with_reducible rfl)))
  (hP:wpAnyH P md L.toArray Q S fuel (listed.setIfInBounds i true) (a.put oi.dst v) w=X:=by (simp only [Act.put,List.setIfInBounds_toArray,List.set_cons_zero,List.set_cons_succ];try rfl))
  (hs:Region.noSelect L.toArray=true:=by kernel_rfl)
  (hQ:∀c a w,Q (.panic c) (a.put oi.dst v) w→Q (.panic c) a w:=by exact fun _ _ _ h=>h) (hS:S w:=by assumption):wpAnyH P md L.toArray Q S (fuel+1) listed a w:=takeL hi hs (nxt_spec hn).1 (nxt_spec hn).2 hQ (.inl ⟨hw,y⟩) hS (hP▸h)
theorem tkq {f:FuncId} {args:Array Value} {A:Value→World→Prop} {B:World→Prop} {c:Int} {X:Value→World→Prop} (hc:Calls P f args w (Th A c B)) (hRS:∀v w',A v w'→S w') (h:∀v w',Hid (A v w')→S w'→X v w') (hB:∀w',Hid (B w')→Q (.panic [{ v:=.iface 124 (.int .i64 c),recovered:=false }]) a w') (hr:Region.ready md L.toArray listed=[i]:=by with_unfolding_all rfl) (hi:L[i]?=some oi:=by rfl)
  (hw:Region.wanted oi (yielded L.toArray a.tmps)=true:=by rfl) (hx:(execOp a.eval oi).run P w=.ok (.enter f args) w:=by (go_simp;(try with_reducible rfl)))
  (hP:∀v w',wpAnyH P md L.toArray Q S fuel (listed.setIfInBounds i true) (a.put oi.dst v) w'=X v w':=by (intro v w';simp only [Act.put,List.setIfInBounds_toArray,List.set_cons_zero,List.set_cons_succ];try rfl)):wpAnyH P md L.toArray Q S (fuel+1) listed a w:=by
 refine ⟨fun h0=>(by rw [hr] at h0;cases h0),fun j hj=>?_⟩
 rw [hr,List.mem_singleton] at hj
 subst hj
 have hi':L.toArray[j]?=some oi:=by simpa using hi
 unfold wpOp
 simp only [hi',hw,if_true]
 refine .inl ?_
 unfold Oper.wp
 rw [hx]
 refine Calls.mono hc fun e w' he=>?_
 rcases he with ⟨v,rfl,hR⟩ | ⟨rfl,hR⟩
 ·exact ⟨hRS _ _ hR,(hP v w').symm▸h v w' (lh hR) (hRS _ _ hR)⟩
 ·exact hB w' (lh hR)
end
theorem results4 {fn:Func} {t u v x:Tmp} (h:fn.results=#[.tmp t,.tmp u,.tmp v,.tmp x]) (tmps:Array Value) (P:Program) (w:World) :
  (results fn tmps).run P w=.ok (.tuple #[tmps.getD t undef,tmps.getD u undef,tmps.getD v undef,tmps.getD x undef]) w:=by simp [results,h]
theorem shiftl_c (a n:Int) (l:Bool) (ha:0≤a) (ha':a≤4294967295) (hn:-9223372036854775808≤n) (hn':n≤9223372036854775807) (w:World) :
  Calls Tryz.prog 104 #[.int .u32 a,.int .i64 n,.bool l] w fun e w'=>e=.returned (.int .u32 (slg a (plc n) l))∧w=w':=by
 have hp:=plc_hi n
 have h1:=lh (slg_min a (plc n) ha ha')
 have h2:=lh (slg_minL a (plc n))
 cases l
 all_goals
  go_enter Tryz.func104,Tryz.ntmps104
  go_wp2_with (go_at_call 163;refine (places_c _ hn hn' _).mono ?_;rintro e w' ⟨rfl,rfl⟩)
  go_ret
  first | exact ⟨by rw [show slg a (plc n) true=lo32 (a*2 ^ plc n) from rfl,← h2.out];rfl,rfl⟩ | exact ⟨by rw [show slg a (plc n) false=a / 2 ^ plc n from rfl,← h1.out];rfl,rfl⟩
theorem shiftr_c (a n:Int) (ha:0≤a) (ha':a≤4294967295) (hn:-9223372036854775808≤n) (hn':n≤9223372036854775807) (w:World) :
  Calls Tryz.prog 105 #[.int .u32 a,.int .i64 n] w fun e w'=>e=.returned (.tuple #[.int .u32 (srv a (plc n)),.int .i64 (sgn (sg (srv a (plc n))))])∧w=w':=by
 have ea:=wrap32_sg a ha ha'
 have la:=sg_lo a ha
 have ua:=sg_hi a ha'
 have hp:=plc_hi n
 have hm:=sr_min a (plc n) ha ha'
 have hl:sg a / 2 ^ plc n % 4294967296=srv a (plc n):=rfl
 have r0:=srv_lo a (plc n)
 have r1:=srv_hi a (plc n)
 go_enter Tryz.func105,Tryz.ntmps105
 go_wp2_with (first | (go_at_call 163;refine (places_c _ hn hn' _).mono ?_;rintro e w' ⟨rfl,rfl⟩) | (go_at_call 164;refine (test_c _ r0 r1 _).mono ?_;rintro e w' ⟨rfl,rfl⟩))
 go_ret2
 exact ⟨rfl,rfl⟩
theorem shiftrd_c (a b n:Int) (ha:0≤a) (ha':a≤4294967295) (hb:0≤b) (hb':b≤4294967295) (hn:-9223372036854775808≤n) (hn':n≤9223372036854775807) (w:World) :
  Calls Tryz.prog 110 #[.int .u32 a,.int .u32 b,.int .i64 n] w fun e w'=>e=.returned (.tuple #[.int .u32 (lo32 (drv (dbl a b) (plc n) / 4294967296)),.int .u32 (lo32 (drv (dbl a b) (plc n))),.int .i64 (sgn (sg64 (drv (dbl a b) (plc n))))])∧w=w':=by
 have x0:=dbl_lo a b ha hb
 have x1:=dbl_hi a b ha' hb'
 have ex:=wrap64_sg (dbl a b) x0 x1
 have y0:=sg64_lo (dbl a b) x0
 have y1:=sg64_hi (dbl a b) x1
 have hp:=plc_hi n
 have hs:=lh (sgn_drv (dbl a b) (plc n) x0 x1)
 have d0:=(dr_box (dbl a b) (plc n) x0 x1).1
 have d1:=(dr_box (dbl a b) (plc n) x0 x1).2
 go_enter Tryz.func110,Tryz.ntmps110
 go_wp2_with (first | (go_at_call 165;refine (double_c _ _ ha ha' hb hb' _).mono ?_;rintro e w' ⟨rfl,rfl⟩) | (go_at_call 163;refine (places_c _ hn hn' _).mono ?_;rintro e w' ⟨rfl,rfl⟩) | (go_at_call 162;refine (sign_c _ _).mono ?_;rintro e w' ⟨rfl,rfl⟩))
 go_ret3
 exact ⟨by rw [hs.out,drv,hi_mod,lo_mod];rfl,rfl⟩
theorem shiftld_c (a b n:Int) (l:Bool) (ha:0≤a) (ha':a≤4294967295) (hb:0≤b) (hb':b≤4294967295) (hn:-9223372036854775808≤n) (hn':n≤9223372036854775807) (w:World) :
  Calls Tryz.prog 109 #[.int .u32 a,.int .u32 b,.int .i64 n,.bool l] w fun e w'=>e=.returned (.tuple #[.int .u32 (lo32 (dlg (dbl a b) (plc n) l / 4294967296)),.int .u32 (lo32 (dlg (dbl a b) (plc n) l))])∧w=w':=by
 have x0:=dbl_lo a b ha hb
 have x1:=dbl_hi a b ha' hb'
 have ex:=wrap64_sg (dbl a b) x0 x1
 have y0:=sg64_lo (dbl a b) x0
 have y1:=sg64_hi (dbl a b) x1
 have hp:=plc_hi n
 cases l
 all_goals
  go_enter Tryz.func109,Tryz.ntmps109
  go_wp2_with (first | (go_at_call 165;refine (double_c _ _ ha ha' hb hb' _).mono ?_;rintro e w' ⟨rfl,rfl⟩) | (go_at_call 163;refine (places_c _ hn hn' _).mono ?_;rintro e w' ⟨rfl,rfl⟩))
  go_ret2
  exact ⟨rfl,rfl⟩
theorem shiftlad_c (a b n:Int) (ha:0≤a) (ha':a≤4294967295) (hb:0≤b) (hb':b≤4294967295) (hn:-9223372036854775808≤n) (hn':n≤9223372036854775807) (w:World) :
  Calls Tryz.prog 111 #[.int .u32 a,.int .u32 b,.int .i64 n] w fun e w'=>e=.returned (.tuple #[.int .u32 (lo32 (dlv (dbl a b) (plc n) / 4294967296)),.int .u32 (lo32 (dlv (dbl a b) (plc n))),.int .i64 (dlc (dbl a b) (plc n)),.bool (dlo (dbl a b) (plc n))])∧w=w':=by
 have x0:=dbl_lo a b ha hb
 have x1:=dbl_hi a b ha' hb'
 have ex:=wrap64_sg (dbl a b) x0 x1
 have y0:=sg64_lo (dbl a b) x0
 have y1:=sg64_hi (dbl a b) x1
 have hp:=plc_hi n
 have em:IntKind.u64.wrap (sg64 (dbl a b))=dbl a b:=by rw [IntKind.wrap_u64];exact sg64_mod (dbl a b) x0 x1
 have e1:=and_sign64 (dbl a b) x0 x1
 have e2:bits .andNot .u64 (IntKind.u64.wrap (dbl a b*2 ^ plc n)) 9223372036854775808=sg64 (dbl a b)*2 ^ plc n % 9223372036854775808:=by rw [IntKind.wrap_u64,andNot_sign64 _ (by omega) (by omega)];exact dlv_low _ _
 have e3:bits .or .u64 (if dbl a b<9223372036854775808 then 0 else 9223372036854775808) (sg64 (dbl a b)*2 ^ plc n % 9223372036854775808)=dlv (dbl a b) (plc n):=by rw [or_sign64 _ _ (by split<;>simp) (by omega) (by omega)];rfl
 rw [← e1] at e3
 have et:=dlo_test (dbl a b) (plc n) hp x0 x1
 have v0:=dlv_lo (dbl a b) (plc n)
 have v1:=dlv_hi (dbl a b) (plc n)
 have ev:=wrap64_sg _ v0 v1
 have hh:=lh (lo32_id (dlv (dbl a b) (plc n) / 4294967296) (by omega) (by omega))
 clear e1
 cases hq:dlo (dbl a b) (plc n)
 all_goals
  rw [hq] at et
  have hq':=lh hq
  clear hq
  go_enter Tryz.func111,Tryz.ntmps111
  go_wp2_with (first | (go_at_call 165;refine (double_c _ _ ha ha' hb hb' _).mono ?_;rintro e w' ⟨rfl,rfl⟩) | (go_at_call 163;refine (places_c _ hn hn' _).mono ?_;rintro e w' ⟨rfl,rfl⟩) | (go_at_call 162;refine (sign_c _ _).mono ?_;rintro e w' ⟨rfl,rfl⟩))
  refine bodyPost_ret (results4 rfl _ _ _) rfl ?_
  exact ⟨by simp [dlc,hq'.out,hh.out];rfl,rfl⟩
theorem shiftla_c (a n:Int) (ha:0≤a) (ha':a≤4294967295) (hn:-9223372036854775808≤n) (hn':n≤9223372036854775807) (w:World) :
  Calls Tryz.prog 107 #[.int .u32 a,.int .i64 n] w fun e w'=>e=.returned (.tuple #[.int .u32 (slv a (plc n)),.int .i64 (slc a (plc n)),.bool (slo a (plc n))])∧w=w':=by
 have ea:=wrap32_sg a ha ha'
 have la:=sg_lo a ha
 have ua:=sg_hi a ha'
 have hp:=plc_hi n
 have r0:=slv_lo a (plc n)
 have r1:=slv_hi a (plc n)
 have e1:=and_sign a ha ha'
 by_cases h32:32≤plc n
 ·have ev:=slv_ge32 a (plc n) h32
  rw [← ev] at e1
  have eo:=slo_ge32 a (plc n) h32 ha ha'
  have hv:=lh ev
  clear ev
  cases hq:slo a (plc n)
  all_goals
   rw [hq] at eo
   have eo':=eo.symm
   have hq':=lh hq
   clear hq eo
   go_enter Tryz.func107,Tryz.ntmps107
   go_wp2_with (first | (go_at_call 163;refine (places_c _ hn hn' _).mono ?_;rintro e w' ⟨rfl,rfl⟩) | (go_at_call 164;refine (test_c _ r0 r1 _).mono ?_;rintro e w' ⟨rfl,rfl⟩))
   go_ret3
   exact ⟨by simp [slc,hq'.out];try rfl,rfl⟩
 ·have hx:=exact_box a (plc n) (by omega) ha ha'
  have b0:=hx.1
  have b1:=hx.2
  clear hx
  have e2:bits .andNot .u32 (sg a*2 ^ plc n % 4294967296) 2147483648=sg a*2 ^ plc n % 2147483648:=by rw [andNot_sign _ (by omega) (by omega)];omega
  have e3:bits .or .u32 (bits .and .u32 a 2147483648) (sg a*2 ^ plc n % 2147483648)=slv a (plc n):=by rw [e1,or_sign _ _ (by split<;>simp) (by omega) (by omega)];rfl
  clear e1
  have hh:=exact_high (sg a*2 ^ plc n)
  cases hq:slo a (plc n)
  ·have hq':=lh hq
   have hn:¬(ovf (sg a*2 ^ plc n)=true):=by rw [show ovf (sg a*2 ^ plc n)=slo a (plc n) from rfl,hq];simp
   rw [hh] at hn
   clear hq hh
   by_cases h0:sg a*2 ^ plc n / 2147483648=0
   ·have t0:(sg a*2 ^ plc n / 2147483648 != 0)=false:=by simp [h0]
    clear h0 hn
    go_enter Tryz.func107,Tryz.ntmps107
    go_wp2_with (first | (go_at_call 163;refine (places_c _ hn hn' _).mono ?_;rintro e w' ⟨rfl,rfl⟩) | (go_at_call 164;refine (test_c _ r0 r1 _).mono ?_;rintro e w' ⟨rfl,rfl⟩))
    go_ret3
    exact ⟨by simp [slc,hq'.out];try rfl,rfl⟩
   ·have h1:sg a*2 ^ plc n / 2147483648 = -1:=by omega
    have t0:(sg a*2 ^ plc n / 2147483648 != 0)=true:=by simp [h0]
    have t1:(sg a*2 ^ plc n / 2147483648 != -1)=false:=by simp [h1]
    clear h0 h1 hn
    go_enter Tryz.func107,Tryz.ntmps107
    go_wp2_with (first | (go_at_call 163;refine (places_c _ hn hn' _).mono ?_;rintro e w' ⟨rfl,rfl⟩) | (go_at_call 164;refine (test_c _ r0 r1 _).mono ?_;rintro e w' ⟨rfl,rfl⟩))
    go_ret3
    exact ⟨by simp [slc,hq'.out];try rfl,rfl⟩
  ·have hq':=lh hq
   have hn:ovf (sg a*2 ^ plc n)=true:=hq
   rw [hh] at hn
   have t0:(sg a*2 ^ plc n / 2147483648 != 0)=true:=by simp [hn.1]
   have t1:(sg a*2 ^ plc n / 2147483648 != -1)=true:=by simp [hn.2]
   clear hq hh hn
   go_enter Tryz.func107,Tryz.ntmps107
   go_wp2_with (first | (go_at_call 163;refine (places_c _ hn hn' _).mono ?_;rintro e w' ⟨rfl,rfl⟩) | (go_at_call 164;refine (test_c _ r0 r1 _).mono ?_;rintro e w' ⟨rfl,rfl⟩))
   go_ret3
   exact ⟨by simp [slc,hq'.out];try rfl,rfl⟩
theorem fits_c (A:Option Addr) (len cap:Nat) (at_ n:Int) (w:World) (hl:(len:Int)≤9223372036854775807) (ha:-9223372036854775808≤at_) (ha':at_≤9223372036854775807) (hn:0≤n) (hn':n≤100) :
  Calls Tryz.prog 166 #[.slice A len cap,.int .i64 at_,.int .i64 n] w fun e w'=>e=.returned (.bool (fitB len at_ n))∧w=w':=by
 by_cases h0:0≤at_
 ·have hs:=lh (show fitB len at_ n=decide (at_≤(len:Int) - n) from by unfold fitB;simp [h0])
  go_enter Tryz.func166,Tryz.ntmps166
  go_wp2
  go_ret
  exact ⟨by rw [hs.out];rfl,rfl⟩
 ·have hs:=lh (show fitB len at_ n=false from by unfold fitB;simp [h0])
  have hd:decide (0≤at_)=false:=by simp [h0]
  have h0':at_<0:=by omega
  go_enter Tryz.func166,Tryz.ntmps166
  go_wp2
  go_ret
  exact ⟨by rw [hs.out];rfl,rfl⟩
theorem half_no (A:Option Addr) (len cap:Nat) (at_:Int) (w:World) (hl:(len:Int)≤9223372036854775807) (ha:-9223372036854775808≤at_) (ha':at_≤9223372036854775807) (hf:fitB len at_ 2=false) :
  Calls Tryz.prog 168 #[.slice A len cap,.int .i64 at_] w fun e w'=>e=.returned (.tuple #[.int .u32 0,.bool false])∧∃n,w'=w.drewN n:=by
 go_enter Tryz.func168,Tryz.ntmps168
 go_wp2_with (go_at_call 166;refine (fits_c _ _ _ _ _ _ hl ha ha' (by omega) (by omega)).mono ?_;rintro e w' ⟨rfl,rfl⟩)
 go_ret2
 exact ⟨rfl,0,rfl⟩
theorem half_yes (b off len cap k:Nat) (x y:Int) (w:World) (hl:(len:Int)≤9223372036854775807) (hk:(k:Int)+2≤(len:Int))
  (hc0:w.cell? ⟨b,off+k,none⟩=some (.int .u8 x)) (hc1:w.cell? ⟨b,off+(k+1),none⟩=some (.int .u8 y)) (hx:0≤x) (hx':x≤255) (hy:0≤y) (hy':y≤255) :
  Calls Tryz.prog 168 #[.slice (some ⟨b,off,none⟩) len cap,.int .i64 k] w fun e w'=>e=.returned (.tuple #[.int .u32 (hfv x y),.bool true])∧∃n,w'=w.drewN n:=by
 have hf:fitB len k 2=true:=by unfold fitB;simp;omega
 have eo:=or_half x y hx hx' hy hy'
 have s0:=sx16_lo (x*256+y) (by omega)
 have s1:=sx16_hi (x*256+y) (by omega)
 have k1:(k:Int)<(len:Int):=by omega
 have k2:(k:Int)+1<(len:Int):=by omega
 have hl':=lo32_is (sx16 (x*256+y))
 go_enter Tryz.func168,Tryz.ntmps168
 go_wp2_with (go_at_call 166;refine (fits_c _ _ _ _ _ _ hl (by omega) (by omega) (by omega) (by omega)).mono ?_;rintro e w' ⟨rfl,rfl⟩)
 go_quiet (fail)
 go_wp2
 go_ret2
 exact ⟨rfl,_,rfl⟩
theorem or4 (x y z u:Int) (hx:0≤x) (hx':x≤255) (hy:0≤y) (hy':y≤255) (hz:0≤z) (hz':z≤255) (hu:0≤u) (hu':u≤255) :
  bits .or .u32 (x*16777216) (y*65536)=x*16777216+y*65536∧bits .or .u32 (x*16777216+y*65536) (z*256)=x*16777216+y*65536+z*256∧bits .or .u32 (x*16777216+y*65536+z*256) u=flv x y z u:=by
 refine ⟨or_32 24 _ _ 16777216 (by decide) (by omega) (by omega) (by omega) (by omega) (by omega) (by omega),or_32 16 _ _ 65536 (by decide) (by omega) (by omega) (by omega) (by omega) (by omega) (by omega),?_⟩
 rw [or_32 8 _ _ 256 (by decide) (by omega) (by omega) (by omega) (by omega) (by omega) (by omega)];rfl
theorem full_no (A:Option Addr) (len cap:Nat) (at_:Int) (w:World) (hl:(len:Int)≤9223372036854775807) (ha:-9223372036854775808≤at_) (ha':at_≤9223372036854775807) (hf:fitB len at_ 4=false) :
  Calls Tryz.prog 118 #[.slice A len cap,.int .i64 at_] w fun e w'=>e=.returned (.tuple #[.int .u32 0,.bool false])∧∃n,w'=w.drewN n:=by
 go_enter Tryz.func118,Tryz.ntmps118
 go_wp2_with (go_at_call 166;refine (fits_c _ _ _ _ _ _ hl ha ha' (by omega) (by omega)).mono ?_;rintro e w' ⟨rfl,rfl⟩)
 go_ret2
 exact ⟨rfl,0,rfl⟩
theorem full_yes (b off len cap k:Nat) (x y z u:Int) (w:World) (hl:(len:Int)≤9223372036854775807) (hk:(k:Int)+4≤(len:Int))
  (hc0:w.cell? ⟨b,off+k,none⟩=some (.int .u8 x)) (hc1:w.cell? ⟨b,off+(k+1),none⟩=some (.int .u8 y)) (hc2:w.cell? ⟨b,off+(k+2),none⟩=some (.int .u8 z)) (hc3:w.cell? ⟨b,off+(k+3),none⟩=some (.int .u8 u))
  (hx:0≤x) (hx':x≤255) (hy:0≤y) (hy':y≤255) (hz:0≤z) (hz':z≤255) (hu:0≤u) (hu':u≤255) :
  Calls Tryz.prog 118 #[.slice (some ⟨b,off,none⟩) len cap,.int .i64 k] w fun e w'=>e=.returned (.tuple #[.int .u32 (flv x y z u),.bool true])∧∃n,w'=w.drewN n:=by
 have hf:fitB len k 4=true:=by unfold fitB;simp;omega
 have ho:=or4 x y z u hx hx' hy hy' hz hz' hu hu'
 have o1:=ho.1
 have o2:=ho.2.1
 have o3:=ho.2.2
 clear ho
 have k1:(k:Int)<(len:Int):=by omega
 have k2:(k:Int)+1<(len:Int):=by omega
 have k3:(k:Int)+2<(len:Int):=by omega
 have k4:(k:Int)+3<(len:Int):=by omega
 go_enter Tryz.func118,Tryz.ntmps118
 go_wp2_with (go_at_call 166;refine (fits_c _ _ _ _ _ _ hl (by omega) (by omega) (by omega) (by omega)).mono ?_;rintro e w' ⟨rfl,rfl⟩)
 go_quiet (fail)
 go_wp2
 go_ret2
 exact ⟨rfl,_,rfl⟩
theorem take_next_eq {zs zs':List Int} {k:Nat} (h:zs.take k=zs'.take k) (hk:k<zs.length) (hk':k<zs'.length) (e:zs.getD k 0=zs'.getD k 0):zs.take (k+1)=zs'.take (k+1):=by
 rw [List.take_succ_eq_append_getElem hk,List.take_succ_eq_append_getElem hk',h]
 rw [List.getD_eq_getElem?_getD,List.getD_eq_getElem?_getD,List.getElem?_eq_getElem hk,List.getElem?_eq_getElem hk'] at e
 simp only [Option.getD_some] at e
 rw [e]
def hval (len:Nat) (at_:Int) (zs:List Int):Int:=if fitB len at_ 2=true then hfv (zs.getD at_.toNat 0) (zs.getD (at_.toNat+1) 0) else 0
def fval (len:Nat) (at_:Int) (zs:List Int):Int:=if fitB len at_ 4=true then flv (zs.getD at_.toNat 0) (zs.getD (at_.toNat+1) 0) (zs.getD (at_.toNat+2) 0) (zs.getD (at_.toNat+3) 0) else 0
theorem half_any (A:Option Addr) (len cap:Nat) (at_:Int) (zs:List Int) (w:World) (hl:(len:Int)≤9223372036854775807) (hb:Byt w A len zs) (ha:-9223372036854775808≤at_) (ha':at_≤9223372036854775807) :
  Calls Tryz.prog 168 #[.slice A len cap,.int .i64 at_] w fun e w'=>e=.returned (.tuple #[.int .u32 (hval len at_ zs),.bool (fitB len at_ 2)])∧∃n,w'=w.drewN n:=by
 cases hf:fitB len at_ 2
 ·have e:hval len at_ zs=0:=by simp [hval,hf]
  rw [e]
  exact half_no A len cap at_ w hl ha ha' hf
 ·obtain ⟨h0,h1⟩:=fitB_yes hf
  obtain ⟨k,rfl⟩:=Int.eq_ofNat_of_zero_le h0
  have e:hval len k zs=hfv (zs.getD k 0) (zs.getD (k+1) 0):=by simp [hval,hf]
  rw [e]
  obtain ⟨b,off,rfl,hc⟩:=hb.at_ (by omega)
  exact half_yes b off len cap k _ _ w hl (by omega) (hc k (by omega)) (hc (k+1) (by omega)) (hb.range k).1 (hb.range k).2 (hb.range (k+1)).1 (hb.range (k+1)).2
theorem full_any (A:Option Addr) (len cap:Nat) (at_:Int) (zs:List Int) (w:World) (hl:(len:Int)≤9223372036854775807) (hb:Byt w A len zs) (ha:-9223372036854775808≤at_) (ha':at_≤9223372036854775807) :
  Calls Tryz.prog 118 #[.slice A len cap,.int .i64 at_] w fun e w'=>e=.returned (.tuple #[.int .u32 (fval len at_ zs),.bool (fitB len at_ 4)])∧∃n,w'=w.drewN n:=by
 cases hf:fitB len at_ 4
 ·have e:fval len at_ zs=0:=by simp [fval,hf]
  rw [e]
  exact full_no A len cap at_ w hl ha ha' hf
 ·obtain ⟨h0,h1⟩:=fitB_yes hf
  obtain ⟨k,rfl⟩:=Int.eq_ofNat_of_zero_le h0
  have e:fval len k zs=flv (zs.getD k 0) (zs.getD (k+1) 0) (zs.getD (k+2) 0) (zs.getD (k+3) 0):=by simp [fval,hf]
  rw [e]
  obtain ⟨b,off,rfl,hc⟩:=hb.at_ (by omega)
  exact full_yes b off len cap k _ _ _ _ w hl (by omega) (hc k (by omega)) (hc (k+1) (by omega)) (hc (k+2) (by omega)) (hc (k+3) (by omega)) (hb.range k).1 (hb.range k).2 (hb.range (k+1)).1 (hb.range (k+1)).2 (hb.range (k+2)).1 (hb.range (k+2)).2 (hb.range (k+3)).1 (hb.range (k+3)).2
end Go.Proofs.YtljajnaclpbecaaGreatDoor
