/- Contracts and laws on the way to the statement, text 12 of 22. Conditions: as each states them. -/
import Derived.Test.YtljajnaclpbecaaGreatDoorGu1
import Derived.Test.YtljajnaclpbecaaGreatDoorGu11
import Derived.RangeFuncNested
import Derived.RangeFuncBound
import Derived.RangeFuncCalls
import Derived.RangeFuncLeaves
import Derived.Shelf.Abstract
import Derived.Shelf.RegionOpen
import Derived.WalkKit
import Derived.OwnWalkIn
import Derived.TacticsInMore
import Derived.LoopNIn
import Derived.LoopIn
import Derived.Outline
import Derived.Laws.EntriesVeiled
import Derived.Laws.BytesArg
import Derived.Laws.Strings
import Derived.Deep.CutRange
namespace Go.Proofs.YtljajnaclpbecaaGreatDoor
set_option maxRecDepth 1000000
set_option maxHeartbeats 8000000
open Go.RowKit Go.Shelf
set_option linter.unusedVariables false
set_option linter.unusedSimpArgs false
attribute [local go_sem] Oper.semAt_some
abbrev K15:={ x:Int // 0≤x∧x≤15 }
def vals (l:List K15):List Int:=l.map (·.1)
theorem vals_len (l:List K15):(vals l).length=l.length:=by simp [vals]
theorem vals_snoc (l:List K15) (x:K15):vals (l++[x])=vals l++[x.1]:=by simp [vals]
theorem vals_rng (l:List K15) (i:Nat):0≤(vals l).getD i 0∧(vals l).getD i 0≤15:=by
 rw [List.getD_eq_getElem?_getD]
 rcases Nat.lt_or_ge i (vals l).length with hi | hi
 ·rw [List.getElem?_eq_getElem hi]
  have:(vals l)[i]=(l[i]'(by simpa [vals] using hi)).1:=by simp [vals]
  simp only [Option.getD_some,this]
  exact (l[i]'(by simpa [vals] using hi)).2
 ·rw [List.getElem?_eq_none hi];simp
def Kp2 (b c:Nat) (W W':World):Prop:=W'.heap[b]?=W.heap[b]?∧W'.heap[c]?=W.heap[c]?
theorem Kp2.refl (b c:Nat) (W:World):Kp2 b c W W:=⟨rfl,rfl⟩
theorem Kp2.trans {b c:Nat} {A B C:World} (h:Kp2 b c A B) (h':Kp2 b c B C):Kp2 b c A C:=⟨h'.1.trans h.1,h'.2.trans h.2⟩
theorem Kp2.cell {b c:Nat} {W W':World} (h:Kp2 b c W W') (i:Nat):W'.cell? ⟨b,i,none⟩=W.cell? ⟨b,i,none⟩∧W'.cell? ⟨c,i,none⟩=W.cell? ⟨c,i,none⟩:=by
 unfold World.cell?
 simp only [h.1,h.2]
 exact ⟨trivial,trivial⟩
theorem Kp2.below {b c m:Nat} {W W':World} (h:Below m W W') (hb:b<m) (hc:c<m):Kp2 b c W W':=⟨h.block _ hb,h.block _ hc⟩
theorem Kp2.set_ {b c:Nat} {W:World} {p:Addr} (v:Value) (hb:p.block≠b) (hc:p.block≠c):Kp2 b c W (W.setCell p v):=⟨Below.heap_setCell W p v b (Ne.symm hb),Below.heap_setCell W p v c (Ne.symm hc)⟩
theorem Kp2.put_ {b c:Nat} {w:World} (hb:b<w.heap.size) (hc:c<w.heap.size) (W:World) (l:Nat) (o o':Obj) (hl:w.heap.size≤l) (ho:W.heap[l]?=some o) (_:o.isCells=false) (_:o.isWalk=false):Kp2 b c W (W.putObj l o'):=by
 constructor
 all_goals
  simp only [World.putObj]
  rw [Array.getElem?_setIfInBounds_ne (by omega)]
theorem bk_kept {A B:World} {k:Nat} {cs:List Value} {T:TypeId} {row:Option Nat} (h:Bk A k T cs) (hg:A.grownBy B row) (hr:∀r,row=some r→∃o:Obj,A.heap[r]?=some o∧o.isCells=false):Bk B k T cs:=by
 refine (hg.block k (Array.getElem?_eq_some_iff.1 h).1 (fun e=>?_)).trans h
 obtain ⟨o,ho,hc⟩:=hr k e.symm
 unfold Bk at h
 rw [h] at ho;injection ho with ho;rw [← ho] at hc;cases hc
theorem inf_c {n:Nat} (h:1≤n∧n≤16) (w:World):Calls Tryz.prog 145 #[.int .i64 (n:Int)] w fun e w'=>e=.returned (.bool true)∧w=w':=by
 have h1:(1:Int)≤(n:Int):=by omega
 have h2:(n:Int)≤16:=by omega
 go_enter Tryz.func145,Tryz.ntmps145
 go_wp2
 go_ret
 exact ⟨rfl,rfl⟩
theorem digits_c (A:Option Addr) (len cap:Nat) (w:World):Calls Tryz.prog 147 #[.slice A len cap] w fun e w'=>e=.returned (.func (.func 174) #[] #[.pointer (some ⟨w.heap.size,0,none⟩)])∧w'=w.alloc (.cells #[.slice A len cap] 22):=by
 go_enter Tryz.func147,Tryz.ntmps147
 go_wp2
 go_ret
 exact ⟨rfl,rfl⟩
theorem digits_stops (n:Nat) (hn:1≤n) (L b cap Bb:Nat) (zs:List Int) (w:World) (hy:Byt w (some ⟨b,0,none⟩) L zs) (hL:1≤L) (hL2:L≤16) (hb:b<w.heap.size) (hB:Bb<w.heap.size) (c1:w.cell? ⟨Bb,0,none⟩=some (.slice (some ⟨b,0,none⟩) L cap)) :
  SeqStopsK Fence.wide n Tryz.prog 174 #[.pointer (some ⟨Bb,0,none⟩)] (fun x:K15=>#[Value.int .u8 x.1]) (Kp2 b Bb) (fun ys=>vals ys=hv zs (2*zs.length)) (fun pre=>∃c,c≤2*zs.length∧vals pre=hv zs c) (2*L) w:=fun l J Jx W hW _ _ hY h0=>by
 have hl:=hy.1
 have hK0:Kp2 b Bb w W:=.below hW hb hB
 have HR:=lh hy.range
 have CS:=lh (show ∀i,i<L→w.cell? ⟨b,i,none⟩=some (.int .u8 (zs.getD i 0)) from fun i hi=>by
  obtain ⟨b',off,e,hc⟩:=hy.2.2 (by omega)
  injection e with e;injection e with e1 e2;subst e1 e2
  have:=hc i hi
  rwa [Nat.zero_add] at this)
 have C1:=(hK0.cell 0).2.trans c1
 have w1:IntKind.i64.wrap ((L:Int) - 1)=(L:Int) - 1:=wrap_i64_id (by omega) (by omega)
 have HH:=lh (show ∀i k,L=i+1+k→half zs (2*k)=zs.getD i 0 % 16∧half zs (2*k+1)=zs.getD i 0 / 16 from fun i k h=>by
  unfold half
  rw [if_pos (by omega),if_neg (by omega),hl,show L - 1 - 2*k / 2=i by omega,show L - 1 - (2*k+1) / 2=i by omega]
  exact ⟨rfl,rfl⟩)
 rw [hl]
 clear hy hl
 refine callsIn_of_wp Tryz.func174 rfl trivial ?_ rfl
 simp only [Tryz.ntmps174,List.size_toArray,List.length_cons,List.length_nil,Nat.reduceAdd,Nat.reduceSub,Array.replicate_succ,Array.replicate_zero,List.push_toArray,List.append_toArray,List.nil_append,List.cons_append]
 gi_wp2
 gi_loopw [3] (fun iv wr=>∃ (k:Nat) (pre:List K15),k≤L∧iv=.int .i64 ((L:Int) - 1 - (k:Int))∧vals pre=hv zs (2*k)∧J pre wr∧Kp2 b Bb w wr) (fun iv _=>(intOf iv+1).toNat)
 case atStart=>exact ⟨0,[],by omega,by simp,rfl,h0,hK0⟩
 case round=>
  obtain ⟨k,pre,hk,rfl,hpre,hJs,hnx⟩:=hrel
  have PR:=lh hpre
  have PL:=lh (show pre.length=2*k from by have:=congrArg List.length hpre;rwa [vals_len,hv_len] at this)
  clear hpre
  have D1:=(hnx.cell 0).2.trans c1
  by_cases hlt:k<L
  ·obtain ⟨i,hi⟩:∃i:Nat,L=i+1+k:=⟨L - 1 - k,by omega⟩
   have HI:=lh hi
   obtain ⟨q1,q2⟩:=HH.out i k hi
   have ei:((L:Int) - 1 - (k:Int))=(i:Int):=by omega
   rw [ei]
   have i0:(0:Int)≤(i:Int):=by omega
   have i1:(i:Int)<(L:Int):=by omega
   have i2:IntKind.i64.wrap ((i:Int) - 1)=(i:Int) - 1:=wrap_i64_id (by omega) (by omega)
   have D2:=(hnx.cell i).1.trans (CS.out i (by omega))
   have zr:=HR.out i
   obtain ⟨z,hz⟩:∃z,zs.getD i 0=z:=⟨_,rfl⟩
   rw [hz] at D2 zr q1 q2
   have a1:bits .and .u8 z 15=z % 16:=by
    have:=and15 z.toNat (by omega)
    rwa [Int.toNat_of_nonneg zr.1] at this
   obtain ⟨x1,hx1⟩:∃x:K15,x.1=z % 16:=⟨⟨z % 16,by omega⟩,rfl⟩
   obtain ⟨x2,hx2⟩:∃x:K15,x.1=z / 16:=⟨⟨z / 16,by omega⟩,rfl⟩
   have st1:=lh (show vals (pre++[x1])=hv zs (2*k+1) from by rw [vals_snoc,PR.out,hx1,← q1,hv_succ])
   have st2:=lh (show vals (pre++[x1]++[x2])=hv zs (2*(k+1)) from by rw [vals_snoc,st1.out,hx2,← q2];exact (hv_succ zs (2*k+1)).symm)
   obtain ⟨fn,tmps,assign,body,hy,hR⟩:=hY pre x1 wr hJs (by rw [PL.out];omega)
   rw [hx1] at hy
   have NX:=lh hnx
   clear hz ei hi q1 q2 hnx
   gi_wp2
   refine hR.mono ?_
   rintro e W3 (⟨rfl,hJ3,hk3⟩ | ⟨rfl,hJx3⟩)
   ·have E1:=(hk3.cell 0).2.trans D1
    have E2:=(hk3.cell i).1.trans D2
    obtain ⟨fn2,tmps2,assign2,body2,hy2,hR2⟩:=hY (pre++[x1]) x2 W3 hJ3 (by have:=HI.out;have:=PL.out;simp;omega)
    rw [hx2] at hy2
    have K3:=lh hk3
    clear hJs hk3 hy hR D1 D2
    gi_wp2
    refine hR2.mono ?_
    rintro e W4 (⟨rfl,hJ4,hk4⟩ | ⟨rfl,hJx4⟩)
    ·gi_wp2
     go_roundw
     case rel=>exact ⟨k+1,pre++[x1]++[x2],by have:=HI.out;omega,by have:=HI.out;simp;omega,st2.out,hJ4,(NX.out.trans K3.out).trans hk4⟩
     case measure=>simp [intOf];try omega
    ·gi_wp2
     refine bodyPost_ret (results_none rfl _ _ _) rfl ?_
     exact ⟨⟨_,rfl⟩,.inr ⟨_,⟨2*(k+1),by have:=HI.out;omega,st2.out⟩,hJx4⟩⟩
   ·gi_wp2
    refine ⟨fun _ h=>(by cases h),?_⟩
    gi_wp2
    refine bodyPost_ret (results_none rfl _ _ _) rfl ?_
    exact ⟨⟨_,rfl⟩,.inr ⟨_,⟨2*k+1,by have:=HI.out;omega,st1.out⟩,hJx3⟩⟩
  ·obtain rfl:k=L:=by omega
   have i0:¬((0:Int)≤(k:Int) - 1 - (k:Int)):=by omega
   gi_wp2
   go_end0
   exact ⟨⟨_,rfl⟩,.inl ⟨pre,PR.out,hJs⟩⟩
theorem unpack_d (n L b cap:Nat) (hn:1≤n∧n≤16) (hL:1≤L∧L≤16) (zs:List Int) (w:World) (hy:Byt w (some ⟨b,0,none⟩) L zs):Calls Tryz.prog 89 #[.slice (some ⟨b,0,none⟩) L cap,.int .i64 (n:Int)] w fun e w'=>∃v,e=.returned v∧Own w' w.heap.size v n (unpk zs n)∧Below w.heap.size w w':=by
 have hb:b<w.heap.size:=by
  obtain ⟨b',off,e,hc⟩:=hy.2.2 (by omega)
  injection e with e;injection e with e1 e2;subst e1 e2
  have h1:=hc 0 (by omega)
  rcases Nat.lt_or_ge b w.heap.size with h2 | h2
  ·exact h2
  ·unfold World.cell? at h1;simp only [Array.getElem?_eq_none h2] at h1;cases h1
 have Y:=lh hy
 have HN:=lh hn
 have HL:=lh hL
 have MK:=run_mk_b n (by omega)
 have LZ:=lh hy.1
 have HR:=lh hy.2.1
 clear hy hn hL
 refine (callsIn_wide (n:=5)).1 ?_
 refine callsIn_of_wp_marks Tryz.func89 rfl trivial ?_ rfl
 simp only [Tryz.ntmps89,List.size_toArray,List.length_cons,List.length_nil,Nat.reduceAdd,Nat.reduceSub,Array.replicate_succ,Array.replicate_zero,List.push_toArray,List.append_toArray,List.nil_append,List.cons_append]
 refine wpIn_wide.2 ?_
 go_upto_region 1 with fail
 have N1:=Bk.new w [.int .i64 (n:Int)] 3
 have B1:=(Below.refl w.heap.size w).alloc (Nat.le_refl _) (.cells #[.int .i64 (n:Int)] 3)
 obtain ⟨w1,hW⟩:∃V,w.alloc (.cells #[.int .i64 (n:Int)] 3)=V:=⟨_,rfl⟩
 rw [hW] at N1 B1
 rw [hW]
 obtain ⟨g,hg⟩:∃k,w.heap.size=k:=⟨_,rfl⟩
 rw [hg] at hb N1 B1
 simp only [hg]
 clear hW
 have ln:=N1.lt
 have c1:=N1.cell (c:=0) rfl
 go_upto_region 3 with (go_at_call 145;refine nz (inf_c (by first | exact HN.out | exact HL.out) _) ?_)
 refine wp_region_lit ?_
 refine lsv (w':=w1) ?_
 refine lsv (v:=.slice (some ⟨w1.heap.size,0,none⟩) n n) (w':=w1.alloc (.cells (zeroB n) 5)) ?_
 have O1:Bk (w1.alloc (.cells (zeroB n) 5)) w1.heap.size 5 ((fillL 240 n 0).map (Value.int .u8)):=by
  rw [fillL_0,List.map_replicate]
  exact Bk.new w1 _ 5
 have B2:=B1.alloc (by omega) (.cells (zeroB n) 5)
 have N2:=N1.keep ((Below.refl _ _).alloc (Nat.le_refl _) (.cells (zeroB n) 5))
 have l1:=O1.lt
 obtain ⟨w2,hW⟩:∃V,w1.alloc (.cells (zeroB n) 5)=V:=⟨_,rfl⟩
 rw [hW] at O1 B2 N2 l1
 rw [hW]
 obtain ⟨o,ho⟩:∃k,w1.heap.size=k:=⟨_,rfl⟩
 rw [ho] at O1 l1 ln
 simp only [ho]
 clear hW MK c1 N1 B1
 refine lsv (v:=.pointer (some ⟨w2.heap.size,0,none⟩)) (w':=w2.alloc (.cells #[.slice none 0 0] 22)) ?_
 refine lsk (w':=(w2.alloc (.cells #[.slice none 0 0] 22)).setCell ⟨w2.heap.size,0,none⟩ (.slice (some ⟨o,0,none⟩) n n)) (by unfold execOp;go_simp;(try rfl)) ?_
 refine wpList_nil ?_
 have S2:Bk ((w2.alloc (.cells #[.slice none 0 0] 22)).setCell ⟨w2.heap.size,0,none⟩ (.slice (some ⟨o,0,none⟩) n n)) w2.heap.size 22 [.slice (some ⟨o,0,none⟩) n n]:=(Bk.new w2 [.slice none 0 0] 22).set_ 0 _
 have C2:=(Ch.of_below ((Below.refl w2.heap.size w2).alloc (Nat.le_refl _) (.cells #[.slice none 0 0] 22)) [w2.heap.size]).setCell (p:=⟨w2.heap.size,0,none⟩) (by simp) (.slice (some ⟨o,0,none⟩) n n)
 have O2:=O1.ch C2 (by simp;omega)
 have N3:=N2.ch C2 (by simp;omega)
 have B3:=below_ch B2 C2 (by simp;omega) (by omega)
 have l2:=S2.lt
 obtain ⟨w3,hW⟩:∃V,(w2.alloc (.cells #[.slice none 0 0] 22)).setCell ⟨w2.heap.size,0,none⟩ (.slice (some ⟨o,0,none⟩) n n)=V:=⟨_,rfl⟩
 rw [hW] at S2 O2 N3 B3 l2
 rw [hW]
 obtain ⟨so,hso⟩:∃k,w2.heap.size=k:=⟨_,rfl⟩
 rw [hso] at S2 l2 l1
 simp only [hso]
 clear hW C2 O1 N2 B2
 have k1:=S2.cell (c:=0) rfl
 go_wp2
 go_loopw [22] (fun x W=>∃k:Nat,k≤n∧x=.int .i64 (k:Int)∧Bk W o 5 ((fillL 240 n k).map (Value.int .u8))∧Bk W so 22 [.slice (some ⟨o,0,none⟩) n n]∧Bk W g 3 [.int .i64 (n:Int)]∧Below g w W) (fun x _=>n - (intOf x).toNat)
 case atStart=>exact ⟨0,by omega,rfl,O2,S2,N3,B3⟩
 case round=>
  clear O2 S2 N3 B3 k1
  obtain ⟨k,hk,rfl,hO,hS,hNN,hB⟩:=hrel
  rename World=>W
  have k1:=hS.cell (c:=0) rfl
  by_cases hlt:k<n
  ·have k2:(k:Int)<(n:Int):=by omega
   have kw:IntKind.i64.wrap ((k:Int)+1)=(k:Int)+1:=wrap_i64_id (by omega) (by have:=HN.out.2;omega)
   have f1:=hO.free
   have fl:=fillL_len 240 n k
   have c2:W.cell? ⟨o,k,none⟩=some (.int .u8 ((fillL 240 n k).getD k 0)):=by
    refine hO.cell ?_
    rw [List.getElem?_map,List.getElem?_eq_getElem (by omega),List.getD_eq_getElem?_getD,List.getElem?_eq_getElem (by omega)]
    rfl
   have O3:=hO.set_ k (.int .u8 240)
   rw [← List.map_set,fillL_succ _ _ _ hlt] at O3
   have hC:=(Ch.refl W [o]).setCell (p:=⟨o,k,none⟩) (by simp) (.int .u8 240)
   have S3:=hS.ch hC (by simp;omega)
   have N4:=hNN.ch hC (by simp;omega)
   have B4:=below_ch hB hC (by simp;omega) (by have:=hO.lt;omega)
   clear hC hS hNN hB hO
   go_wp2
   go_roundw
   case rel=>exact ⟨k+1,by omega,rfl,O3,S3,N4,B4⟩
   case measure=>simp [intOf];omega
  ·obtain rfl:k=n:=by omega
   have k2:¬((k:Int)<(k:Int)):=by omega
   rw [fillL_n,← outH_nil] at hO
   have c3:=hNN.cell (c:=0) rfl
   have lW:=hS.lt
   go_upto_region 10 with fail
   have A1:Bk (W.alloc (.cells #[.int .i64 (k:Int)] 3)) W.heap.size 3 [.int .i64 (k:Int)]:=Bk.new W [.int .i64 (k:Int)] 3
   have B5:=hB.alloc (by omega) (.cells #[.int .i64 (k:Int)] 3)
   have kp:=(Below.refl _ _).alloc (Nat.le_refl W.heap.size) (.cells #[.int .i64 (k:Int)] 3)
   have O5:=hO.keep kp
   have S5:=hS.keep kp
   have N5:=hNN.keep kp
   have l5:=A1.lt
   obtain ⟨sa,hsa⟩:∃m,W.heap.size=m:=⟨_,rfl⟩
   rw [hsa] at A1 lW l5
   simp only [hsa]
   obtain ⟨W1,hW⟩:∃V,W.alloc (.cells #[.int .i64 (k:Int)] 3)=V:=⟨_,rfl⟩
   rw [hW] at A1 B5 O5 S5 N5 l5
   rw [hW]
   clear hW kp hO hS hNN hB k1 c3 hsa
   have Y1:=Y.out.keep (show Below w.heap.size w W1 from hg▸B5)
   go_wp2_with (go_at_call 147;refine (digits_c _ _ _ _).mono ?_;rintro e w1 ⟨rfl,rfl⟩)
   have D1:Bk (W1.alloc (.cells #[.slice (some ⟨b,0,none⟩) L cap] 22)) W1.heap.size 22 [.slice (some ⟨b,0,none⟩) L cap]:=Bk.new W1 [.slice (some ⟨b,0,none⟩) L cap] 22
   have B6:=B5.alloc (by omega) (.cells #[.slice (some ⟨b,0,none⟩) L cap] 22)
   have kp:=(Below.refl _ _).alloc (Nat.le_refl W1.heap.size) (.cells #[.slice (some ⟨b,0,none⟩) L cap] 22)
   have A6:=A1.keep kp
   have O6:=O5.keep kp
   have S6:=S5.keep kp
   have N6:=N5.keep kp
   have l6:=D1.lt
   have Y2:=Y1.keep kp
   obtain ⟨db,hdb⟩:∃m,W1.heap.size=m:=⟨_,rfl⟩
   rw [hdb] at D1 l5 l6
   simp only [hdb]
   obtain ⟨W0,hW⟩:∃V,W1.alloc (.cells #[.slice (some ⟨b,0,none⟩) L cap] 22)=V:=⟨_,rfl⟩
   rw [hW] at D1 B6 A6 O6 S6 N6 Y2 l6
   rw [hW]
   clear hW kp A1 B5 O5 S5 N5 Y1 hdb
   refine (wpIn_wide (n:=5)).1 ?_
   refine wpIn_rangeFunc_ownF rfl (by omega) (gf:=174) (lb:=#[.pointer (some ⟨db,0,none⟩)]) rfl trivial (enters_of Tryz.func174 (by kernel_rfl) rfl)
    (digits_stops (5 - 1) (by omega) L b cap db zs W0 Y2 HL.out.1 HL.out.2 (by omega) (by omega) (D1.cell (c:=0) rfl)) Kp2.trans (fun W l o o' h1 h2 h3 h4=>Kp2.put_ (by omega) (by omega) W l o o' h1 h2 h3 h4) (Below.refl _ _) (fun _=>rfl)
    (fun pre W=>(pre.length≤k+1∧Bk W o 5 ((outH (vals pre) k).map (Value.int .u8))∧Bk W so 22 [.slice (some ⟨o,0,none⟩) k k]∧Bk W sa 3 [.int .i64 ((k:Int) - (pre.length:Int))]∧Bk W g 3 [.int .i64 (k:Int)])∧Below g w W)
    (fun c pre W=>(c=.exit 2∧k+1≤pre.length∧Bk W o 5 ((outH (vals pre) k).map (Value.int .u8))∧Bk W so 22 [.slice (some ⟨o,0,none⟩) k k])∧Below g w W)
    (OwnFrom.and (Own.from (fun s A B row hs hg hr=>⟨hs.1,bk_kept hs.2.1 hg hr,bk_kept hs.2.2.1 hg hr,bk_kept hs.2.2.2.1 hg hr,bk_kept hs.2.2.2.2 hg hr⟩) _) (ownFrom_below (by omega) (by omega)))
    (fun c=>OwnFrom.and (Own.from (fun s A B row hs hg hr=>⟨hs.1,hs.2.1,bk_kept hs.2.2.1 hg hr,bk_kept hs.2.2.2 hg hr⟩) _) (ownFrom_below (by omega) (by omega)))
    ⟨⟨by simp,O6,S6,by simpa using A6,N6⟩,B6⟩
    ?a1 ?assign ?body ?done ?stop
   case assign=>
    intro l x W K hK
    gi_wp2
    exact hK
   case body=>
    rintro l pre ⟨d,hd⟩ W ⟨⟨hp,hO,hS,hA,hN⟩,hB⟩ hlen
    have ea:vals (pre++[(⟨d,hd⟩:K15)])=vals pre++[d]:=vals_snoc _ _
    have eb:(pre++[(⟨d,hd⟩:K15)]).length=pre.length+1:=by simp
    have hr15:=vals_rng pre
    have el:=vals_len pre
    obtain ⟨hs,hhs⟩:∃hs,vals pre=hs:=⟨_,rfl⟩
    rw [hhs] at hr15 el hO ea
    rw [← el] at hp hA eb
    have EA:=lh ea
    have EB:=lh eb
    clear hlen hhs el ea eb
    have n1:o≠so:=by omega
    have n2:o≠sa:=by omega
    have n3:sa≠o:=by omega
    have n4:g≠o:=by omega
    have n5:so≠o:=by omega
    have n6:so≠sa:=by omega
    have n7:g≠sa:=by omega
    have lWW:=hB.size
    have ox:=outH_len hs k
    have gx:∀i,i<k→W.cell? ⟨o,i,none⟩=some (.int .u8 ((outH hs k).getD i 0)):=by
     intro i hi
     refine hO.cell ?_
     rw [List.getElem?_map,List.getElem?_eq_getElem (by omega),List.getD_eq_getElem?_getD,List.getElem?_eq_getElem (by omega)]
     rfl
    have k0:=hS.cell (c:=0) rfl
    have k1:=hA.cell (c:=0) rfl
    have k2:=hN.cell (c:=0) rfl
    have f1:=hO.free
    have f2:=hA.free
    have hB2:∀ (i:Nat) (v v2:Value),Below g w ((W.setCell ⟨o,i,none⟩ v).setCell ⟨sa,0,none⟩ v2):=fun i v v2=>below_ch hB (((Ch.refl W [o,sa]).setCell (p:=⟨o,i,none⟩) (by simp) v).setCell (p:=⟨sa,0,none⟩) (by simp) v2) (by simp;omega) (by omega)
    rcases (show hs.length=0∨(1≤hs.length∧hs.length≤k)∨hs.length=k+1 by omega) with h0 | ⟨h1,h2⟩ | h3
    ·obtain rfl:hs=[]:=List.length_eq_zero_iff.1 h0
     obtain ⟨m,hm⟩:∃m,k=m+1:=⟨k - 1,by have:=HN.out;omega⟩
     have q0:((k:Int) - ((([]:List Int).length:Nat):Int))=(k:Int):=by simp
     rw [q0] at k1
     have q1:IntKind.i64.wrap ((k:Int) - 1)=(m:Int):=by rw [hm,wrap_i64_id (by omega) (by have:=HN.out;omega)];omega
     have q2:(m:Int)<(k:Int):=by omega
     have q3:IntKind.u8.wrap (d*16)=16*d:=by rw [IntKind.wrap_u8];omega
     have c2:=gx m (by omega)
     have st:=outH_one k d (by omega)
     rw [show k - 1=m by omega] at st
     have ST:=lh st
     have HM:=lh hm
     clear hm st gx q0
     gi_wp2
     have O3:=hO.set_ m (.int .u8 (16*d))
     rw [← List.map_set,ST.out] at O3
     refine ⟨(KeepsOthers.setCell _ _ _).trans (KeepsOthers.setCell _ _ _),(Kp2.set_ _ (by show o≠b;omega) (by show o≠db;omega)).trans (Kp2.set_ _ (by show sa≠b;omega) (by show sa≠db;omega)),⟨by rw [EB.out];have:=HM.out;simp,?_,(hS.other _ (by show o≠so;omega)).other _ (by show sa≠so;omega),?_,(hN.other _ (by show o≠g;omega)).other _ (by show sa≠g;omega)⟩,hB2 _ _ _⟩
     ·rw [EA.out]
      exact O3.other _ (by show sa≠o;omega)
     ·have:=(hA.other (p:=⟨o,m,none⟩) (.int .u8 (16*d)) (by show o≠sa;omega)).set_ 0 (.int .i64 (m:Int))
      rw [EB.out]
      rw [show ((k:Int) - ((([]:List Int).length+1:Nat):Int))=(m:Int) by have:=HM.out;simp;omega]
      exact this
    ·obtain ⟨i,hi⟩:∃i:Nat,k=i+hs.length:=⟨k - hs.length,by omega⟩
     have q0:((k:Int) - ((hs.length:Nat):Int))=(i:Int):=by omega
     rw [q0] at k1
     have q1:((i:Int) == (k:Int))=false:=by rw [beq_eq_false_iff_ne];omega
     have q5:¬((i:Int)=(k:Int)):=by omega
     have q2:¬((i:Int)<0):=by omega
     have q3:(i:Int)<(k:Int):=by omega
     have q4:IntKind.i64.wrap ((i:Int) - 1)=(i:Int) - 1:=wrap_i64_id (by omega) (by have:=HN.out;omega)
     have ik:k - hs.length=i:=by omega
     have c2:=gx i (by omega)
     obtain ⟨m,hm,hat⟩:=outH_at hs k h1 h2 hr15
     have st:=outH_snoc hs k d h1 h2
     rw [ik] at st hat
     rw [hat] at c2 st
     have q6:bits .or .u8 (16*(m:Int)) d=16*(m:Int)+d:=by
      have:=or_lo4 m hm d.toNat (by omega)
      rwa [Int.toNat_of_nonneg hd.1] at this
     have ST:=lh st
     have HI:=lh hi
     clear hi st gx q0 hat ik hm
     gi_wp2
     have O3:=hO.set_ i (.int .u8 (16*(m:Int)+d))
     rw [← List.map_set,ST.out] at O3
     refine ⟨(KeepsOthers.setCell _ _ _).trans (KeepsOthers.setCell _ _ _),(Kp2.set_ _ (by show o≠b;omega) (by show o≠db;omega)).trans (Kp2.set_ _ (by show sa≠b;omega) (by show sa≠db;omega)),⟨by rw [EB.out];omega,?_,(hS.other _ (by show o≠so;omega)).other _ (by show sa≠so;omega),?_,(hN.other _ (by show o≠g;omega)).other _ (by show sa≠g;omega)⟩,hB2 _ _ _⟩
     ·rw [EA.out]
      exact O3.other _ (by show sa≠o;omega)
     ·have:=(hA.other (p:=⟨o,i,none⟩) (.int .u8 (16*(m:Int)+d)) (by show o≠sa;omega)).set_ 0 (.int .i64 ((i:Int) - 1))
      rw [EB.out]
      rw [show ((k:Int) - ((hs.length+1:Nat):Int))=(i:Int) - 1 by have:=HI.out;omega]
      exact this
    ·have q0:((k:Int) - ((hs.length:Nat):Int)) = -1:=by omega
     rw [q0] at k1
     have q1:((-1:Int) == (k:Int))=false:=by rw [beq_eq_false_iff_ne];omega
     have q5:¬((-1:Int)=(k:Int)):=by omega
     have H3:=lh h3
     clear q0 h3 gx
     gi_wp2
     have hl:=H3.out
     refine ⟨KeepsOthers.refl _,⟨rfl,by rw [EB.out];omega,?_,hS⟩,hB⟩
     rw [EA.out,outH_more hs [d] k (by omega) (by have:=HN.out;omega)]
     exact hO
   case done=>
    rintro D ys W hD hys ⟨⟨hp,hO,hS,hA,hN⟩,hB⟩ hK
    rw [hys] at hO
    have k0:=hS.cell (c:=0) rfl
    clear hA hN hp
    go_wp2
    refine ⟨by simp,.inl ⟨_,_,rfl,run_takeDeferred hK,?_⟩⟩
    refine ⟨_,results_tmp rfl _ _ _,_,rfl,own_bk (bk_kept hO (grownBy_putObj' _ D (.deferred none)) (fun r e=>by cases e;exact ⟨_,hK,rfl⟩)) (outH_len _ _) (outH_rng (hv_rng HR.out _) _) (by omega) HN.out.2,?_⟩
    rw [hg]
    exact hB.trans (belowK_b (w:=w) (by omega) W D _ _ (by omega) hK rfl rfl)
   case stop=>
    rintro D c pre W hD ⟨cc,hcc,hpre⟩ ⟨⟨rfl,hp,hO,hS⟩,hB⟩ hK
    have hcl:pre.length=cc:=by have:=congrArg List.length hpre;rwa [vals_len,hv_len] at this
    rw [hpre,outH_cut zs cc k hcc (by omega) (by have:=HN.out;omega)] at hO
    have k0:=hS.cell (c:=0) rfl
    clear hpre hp
    gi_wp2
    go_wp2
    refine ⟨by simp,.inl ⟨_,_,rfl,run_takeDeferred hK,?_⟩⟩
    refine ⟨_,results_tmp rfl _ _ _,_,rfl,own_bk (bk_kept hO (grownBy_putObj' _ D (.deferred none)) (fun r e=>by cases e;exact ⟨_,hK,rfl⟩)) (outH_len _ _) (outH_rng (hv_rng HR.out _) _) (by omega) HN.out.2,?_⟩
    rw [hg]
    exact hB.trans (belowK_b (w:=w) (by omega) W D _ _ (by omega) hK rfl rfl)
end Go.Proofs.YtljajnaclpbecaaGreatDoor
namespace Go.Proofs.YtljajnaclpbecaaGreatDoor
open Go.RowKit
set_option maxRecDepth 1000000
set_option maxHeartbeats 8000000
set_option linter.unusedVariables false
set_option linter.unusedSimpArgs false
def SlV (n B:Nat) (w:World) (v:Value):Prop:=∃ (m:Nat) (ys:List Int),Own w B v m ys∧m≤n
theorem own_le {w:World} {B B' n:Nat} {v:Value} {zs:List Int} (h:Own w B v n zs) (hB:B'≤B):Own w B' v n zs:=⟨⟨h.1.1,h.1.2.imp id fun ⟨g,cap,cur,e,hg,r⟩=>⟨g,cap,cur,e,Nat.le_trans hB hg,r⟩⟩,h.2⟩
theorem SlV.keep {n B:Nat} {w w':World} {v:Value} (h:SlV n B w v) (hb:Below w.heap.size w w'):SlV n B w' v:=by
 obtain ⟨m,ys,h,hm⟩:=h
 exact ⟨m,ys,h.below hb fun g e=>(h.1.lt g e).2,hm⟩
theorem SlV.base {n B B':Nat} {w:World} {v:Value} (h:SlV n B w v) (hB:B'≤B):SlV n B' w v:=by
 obtain ⟨m,ys,h,hm⟩:=h
 exact ⟨m,ys,own_le h hB,hm⟩
theorem SlV.nil {n B:Nat} {w:World}:SlV n B w (.slice none 0 0):=⟨0,[],Own.nil w B,by omega⟩
theorem or8_n (x y:Int):∃n:Nat,bits .or .u8 x y=(n:Int)∧n≤255:=by
 have:∃z,bits .or .u8 x y=IntKind.u8.wrap z:=⟨_,rfl⟩
 obtain ⟨z,hz⟩:=this
 rw [hz,IntKind.wrap_u8]
 exact ⟨(z % 256).toNat,by omega,by omega⟩
theorem wrap8_n (z:Int):∃n:Nat,IntKind.u8.wrap z=(n:Int)∧n≤255:=by
 rw [IntKind.wrap_u8]
 exact ⟨(z % 256).toNat,by omega,by omega⟩
structure WX (w0 w:World) (o so sa n:Nat) (a:Int) (zs:List Int):Prop where
 ob:Bk w o 5 (zs.map (Value.int .u8))
 sb:Bk w so 22 [.slice (some ⟨o,0,none⟩) n n]
 ab:Bk w sa 3 [.int .i64 a]
 b:Below w0.heap.size w0 w
 nn:w0.heap.size≤o∧w0.heap.size≤sa∧o≠so∧o≠sa∧so≠sa
 l:zs.length=n
 r:∀z∈zs,0≤z∧z≤255
 a0:-1≤a∧a<2*(n:Int)
section
variable {w0 w w':World} {o so sa n:Nat} {a:Int} {zs:List Int}
theorem WX.keep (h:WX w0 w o so sa n a zs) (hb:Below w.heap.size w w'):WX w0 w' o so sa n a zs:={ h with ob:=h.ob.keep hb,sb:=h.sb.keep hb,ab:=h.ab.keep hb,b:=h.b.trans (hb.mono h.b.size) }
theorem WX.put (h:WX w0 w o so sa n a zs) (i:Nat) (z:Nat) (hz:z≤255):WX w0 (w.setCell ⟨o,i,none⟩ (.int .u8 (z:Int))) o so sa n a (zs.set i (z:Int)):=by
 have e:=fun k hk=>Below.heap_setCell w ⟨o,i,none⟩ (.int .u8 (z:Int)) k hk
 have h1:=h.ob.set_ i (.int .u8 (z:Int))
 rw [← List.map_set] at h1
 refine ⟨h1,h.sb.kept (e _ h.nn.2.2.1.symm),h.ab.kept (e _ h.nn.2.2.2.1.symm),below_ch h.b ((Ch.refl w [o]).setCell (p:=⟨o,i,none⟩) (by simp) _) (by simpa using h.nn.1) h.b.size,h.nn,by simpa using h.l,?_,h.a0⟩
 intro y hy
 rcases List.mem_or_eq_of_mem_set hy with h2 | rfl
 ·exact h.r y h2
 ·omega
theorem WX.step (h:WX w0 w o so sa n a zs) (z:Int) (hz:-1≤z∧z<2*(n:Int)):WX w0 (w.setCell ⟨sa,0,none⟩ (.int .i64 z)) o so sa n z zs:=by
 have e:=fun k hk=>Below.heap_setCell w ⟨sa,0,none⟩ (.int .i64 z) k hk
 exact ⟨h.ob.kept (e _ h.nn.2.2.2.1),h.sb.kept (e _ h.nn.2.2.2.2),h.ab.set_ 0 _,below_ch h.b ((Ch.refl w [sa]).setCell (p:=⟨sa,0,none⟩) (by simp) _) (by simpa using h.nn.2.1) h.b.size,h.nn,h.l,h.r,hz⟩
theorem WX.get (h:WX w0 w o so sa n a zs) {i:Nat} (hi:i<n):w.cell? ⟨o,i,none⟩=some (.int .u8 (zs.getD i 0)):=by
 refine h.ob.cell ?_
 have hl:=h.l
 rw [List.getElem?_map,List.getElem?_eq_getElem (by omega),List.getD_eq_getElem?_getD,List.getElem?_eq_getElem (by omega)]
 rfl
theorem WX.sl (h:WX w0 w o so sa n a zs) (hn:n≤16):SlV n w0.heap.size w (.slice (some ⟨o,0,none⟩) n n):=⟨n,zs,Own.of_heap h.ob (by simp [h.l]) (by rw [List.take_of_length_le (by simp [h.l])]) h.l h.nn.1 (Nat.le_refl _) (by unfold maxLen;omega) h.r,Nat.le_refl _⟩
def WE (w0 w:World) (o so sa n:Nat):Prop:=∃a zs,WX w0 w o so sa n a zs
theorem WE.keep (h:WE w0 w o so sa n) (hb:Below w.heap.size w w'):WE w0 w' o so sa n:=by
 obtain ⟨a,zs,h⟩:=h
 exact ⟨a,zs,h.keep hb⟩
theorem wput_d {d:Int} (hd:0≤d∧d≤255) (hn:n≤16) (h:WE w0 w o so sa n):Calls Tryz.prog 173 #[.int .u8 d,.pointer (some ⟨sa,0,none⟩),.pointer (some ⟨so,0,none⟩)] w fun e w'=>e=.returned (.tuple #[])∧WE w0 w' o so sa n∧KeepsOthers w w'∧Ch w w' [o,sa]:=by
 obtain ⟨a,zs,h⟩:=h
 have c0:=h.ab.cell (c:=0) rfl
 have c1:=h.sb.cell (c:=0) rfl
 have ha:=h.a0
 have H:=lh h
 by_cases hneg:a<0
 ·clear h
  go_enter Tryz.func173,Tryz.ntmps173
  go_wp2
  refine bodyPost_ret (results_none rfl _ _ _) rfl ?_
  exact ⟨rfl,⟨_,_,H.out⟩,KeepsOthers.refl _,Ch.refl _ _⟩
 obtain ⟨A,rfl⟩:=Int.eq_ofNat_of_zero_le (show 0≤a by omega)
 obtain ⟨i,hi⟩:∃i,A / 2=i:=⟨_,rfl⟩
 have c2:=h.get (i:=i) (by omega)
 have f0:=h.ob.free
 have f1:=h.ab.free
 have a2:((A:Nat):Int).tdiv 2=(i:Int):=by rw [Int.tdiv_eq_ediv_of_nonneg (by omega)];omega
 have k1:(i:Int)<(n:Int):=by omega
 have k2:IntKind.i64.wrap (i:Int)=(i:Int):=wrap_i64_id (by omega) (by omega)
 have w1:IntKind.i64.wrap ((A:Int) - 1)=(A:Int) - 1:=wrap_i64_id (by omega) (by omega)
 obtain ⟨x,hx⟩:∃x,zs.getD i 0=x:=⟨_,rfl⟩
 rw [hx] at c2
 have AB:=lh ha
 rcases (show A % 2=1∨A % 2=0 by omega) with ho | ho
 ·have a1:((A:Nat):Int).tmod 2=1:=by rw [Int.tmod_eq_emod_of_nonneg (by omega)];omega
  obtain ⟨z,hz,hz2⟩:=or8_n x d
  clear h hx hi ho ha
  go_enter Tryz.func173,Tryz.ntmps173
  go_upto_region 2 with fail
  refine wp_region_lit ?_
  iterate 2 refine lsv (w':=w) ?_
  refine lsv (v:=.int .i64 (i:Int)) (w':=w) ?_
  refine lsv (v:=.pointer (some ⟨o,i,none⟩)) (w':=w) ?_
  refine lsv (v:=.int .u8 x) (w':=w) ?_
  refine lsv (w':=w) ?_
  refine lsv (v:=.int .u8 (z:Int)) (w':=w) ?_
  refine lsv (v:=.pointer (some ⟨o,i,none⟩)) (w':=w) ?_
  refine lsk (w':=w.setCell ⟨o,i,none⟩ (.int .u8 (z:Int))) (by unfold execOp;go_simp;(try rfl)) ?_
  refine wpList_nil ?_
  replace H:=lh (H.out.put i z hz2)
  have KC:=lh (show KeepsOthers w (w.setCell ⟨o,i,none⟩ (.int .u8 (z:Int)))∧Ch w (w.setCell ⟨o,i,none⟩ (.int .u8 (z:Int))) [o,sa] from ⟨KeepsOthers.setCell _ _ _,(Ch.refl _ _).setCell (p:=⟨o,i,none⟩) (by simp) _⟩)
  obtain ⟨w1',hW⟩:∃V,w.setCell ⟨o,i,none⟩ (.int .u8 (z:Int))=V:=⟨_,rfl⟩
  rw [hW] at H KC
  rw [hW]
  clear hW c0 c1 c2 f0 f1
  have c0:=H.out.ab.cell (c:=0) rfl
  have f1:=H.out.ab.free
  go_upto_region 4 with fail
  refine wp_region_lit ?_
  refine lsv (v:=.int .i64 (A:Int)) (w':=w1') ?_
  refine lsv (v:=.int .i64 ((A:Int) - 1)) (w':=w1') ?_
  refine lsk (w':=w1'.setCell ⟨sa,0,none⟩ (.int .i64 ((A:Int) - 1))) (by unfold execOp;go_simp;(try rfl)) ?_
  refine wpList_nil ?_
  go_wp2
  go_end0
  exact ⟨rfl,⟨_,_,H.out.step ((A:Int) - 1) (by have:=H.out.a0;omega)⟩,KC.out.1.trans (KeepsOthers.setCell _ _ _),KC.out.2.setCell (p:=⟨sa,0,none⟩) (by simp) _⟩
 ·have a1:((A:Nat):Int).tmod 2=0:=by rw [Int.tmod_eq_emod_of_nonneg (by omega)];omega
  obtain ⟨d2,hd2,-⟩:=wrap8_n (d*16)
  obtain ⟨z,hz,hz2⟩:=or8_n x (d2:Int)
  clear h hx hi ho ha
  go_enter Tryz.func173,Tryz.ntmps173
  go_upto_region 3 with fail
  refine wp_region_lit ?_
  iterate 2 refine lsv (w':=w) ?_
  refine lsv (v:=.int .i64 (i:Int)) (w':=w) ?_
  refine lsv (v:=.pointer (some ⟨o,i,none⟩)) (w':=w) ?_
  refine lsv (v:=.int .u8 x) (w':=w) ?_
  refine lsv (w':=w) ?_
  refine lsv (v:=.int .u8 (d2:Int)) (w':=w) ?_
  refine lsv (v:=.int .u8 (z:Int)) (w':=w) ?_
  refine lsv (v:=.pointer (some ⟨o,i,none⟩)) (w':=w) ?_
  refine lsk (w':=w.setCell ⟨o,i,none⟩ (.int .u8 (z:Int))) (by unfold execOp;go_simp;(try rfl)) ?_
  refine wpList_nil ?_
  replace H:=lh (H.out.put i z hz2)
  have KC:=lh (show KeepsOthers w (w.setCell ⟨o,i,none⟩ (.int .u8 (z:Int)))∧Ch w (w.setCell ⟨o,i,none⟩ (.int .u8 (z:Int))) [o,sa] from ⟨KeepsOthers.setCell _ _ _,(Ch.refl _ _).setCell (p:=⟨o,i,none⟩) (by simp) _⟩)
  obtain ⟨w1',hW⟩:∃V,w.setCell ⟨o,i,none⟩ (.int .u8 (z:Int))=V:=⟨_,rfl⟩
  rw [hW] at H KC
  rw [hW]
  clear hW c0 c1 c2 f0 f1
  have c0:=H.out.ab.cell (c:=0) rfl
  have f1:=H.out.ab.free
  go_upto_region 4 with fail
  refine wp_region_lit ?_
  refine lsv (v:=.int .i64 (A:Int)) (w':=w1') ?_
  refine lsv (v:=.int .i64 ((A:Int) - 1)) (w':=w1') ?_
  refine lsk (w':=w1'.setCell ⟨sa,0,none⟩ (.int .i64 ((A:Int) - 1))) (by unfold execOp;go_simp;(try rfl)) ?_
  refine wpList_nil ?_
  go_wp2
  go_end0
  exact ⟨rfl,⟨_,_,H.out.step ((A:Int) - 1) (by have:=H.out.a0;omega)⟩,KC.out.1.trans (KeepsOthers.setCell _ _ _),KC.out.2.setCell (p:=⟨sa,0,none⟩) (by simp) _⟩
theorem wput_w {d:Int} (hd:0≤d∧d≤255) (hn:n≤16) (h:WE w0 w o so sa n):Calls Tryz.prog 173 #[.int .u8 d,.pointer (some ⟨sa,0,none⟩),.pointer (some ⟨so,0,none⟩)] w fun e w'=>e=.returned (.tuple #[])∧WE w0 w' o so sa n:=
 (wput_d hd hn h).mono fun e w' h=>⟨h.1,h.2.1⟩
theorem writer_w (n:Nat) (h1:1≤n) (hn:n≤16) (w:World):Calls Tryz.prog 146 #[.int .i64 (n:Int)] w fun e w'=>∃v,e=.returned v∧∃o so sa,v=.tuple #[.slice (some ⟨o,0,none⟩) n n,.func (.func 173) #[] #[.pointer (some ⟨sa,0,none⟩),.pointer (some ⟨so,0,none⟩)]]∧WE w w' o so sa n:=by
 have hmf:∀ (fn:Fn) (first cap:Array Value) (w:World),(Instr.makeFunc fn first cap).run Tryz.prog w=.ok (.func fn first cap) w:=fun _ _ _ _=>rfl
 have mk:∀W,(Instr.makeSlice 22 (.int .i64 (n:Int)) (.int .i64 (n:Int))).run Tryz.prog W=.ok (.slice (some ⟨W.heap.size,0,none⟩) n n) (W.alloc (.cells (zeroB n) 5)):=fun W=>run_mk_b n (by omega) W
 have e1:IntKind.i64.wrap ((2:Int)*(n:Int))=2*(n:Int):=wrap_i64_id (by omega) (by omega)
 have e2:IntKind.i64.wrap (2*(n:Int) - 1)=2*(n:Int) - 1:=wrap_i64_id (by omega) (by omega)
 go_enter Tryz.func146,Tryz.ntmps146
 go_upto_region 1 with fail
 refine wp_region_lit ?_
 refine lsv (w':=w) ?_
 refine lsv (v:=.slice (some ⟨w.heap.size,0,none⟩) n n) (w':=w.alloc (.cells (zeroB n) 5)) ?_
 have O1:Bk (w.alloc (.cells (zeroB n) 5)) w.heap.size 5 ((List.replicate n (0:Int)).map (Value.int .u8)):=by rw [List.map_replicate];exact Bk.new w _ 5
 have B1:=(Below.refl w.heap.size w).alloc (Nat.le_refl _) (.cells (zeroB n) 5)
 have l1:=O1.lt
 obtain ⟨w1,hW⟩:∃V,w.alloc (.cells (zeroB n) 5)=V:=⟨_,rfl⟩
 rw [hW] at O1 B1 l1
 rw [hW]
 clear hW mk
 refine lsv (v:=.pointer (some ⟨w1.heap.size,0,none⟩)) (w':=w1.alloc (.cells #[.slice none 0 0] 22)) ?_
 refine lsk (w':=(w1.alloc (.cells #[.slice none 0 0] 22)).setCell ⟨w1.heap.size,0,none⟩ (.slice (some ⟨w.heap.size,0,none⟩) n n)) (by unfold execOp;go_simp;(try rfl)) ?_
 refine wpList_nil ?_
 have S2:Bk ((w1.alloc (.cells #[.slice none 0 0] 22)).setCell ⟨w1.heap.size,0,none⟩ (.slice (some ⟨w.heap.size,0,none⟩) n n)) w1.heap.size 22 [.slice (some ⟨w.heap.size,0,none⟩) n n]:=(Bk.new w1 [.slice none 0 0] 22).set_ 0 _
 have C2:=(Ch.of_below ((Below.refl w1.heap.size w1).alloc (Nat.le_refl _) (.cells #[.slice none 0 0] 22)) [w1.heap.size]).setCell (p:=⟨w1.heap.size,0,none⟩) (by simp) (.slice (some ⟨w.heap.size,0,none⟩) n n)
 have O2:=O1.ch C2 (by simp;omega)
 have B2:=below_ch B1 C2 (by simp;omega) (by omega)
 have l2:=S2.lt
 obtain ⟨w2,hW⟩:∃V,(w1.alloc (.cells #[.slice none 0 0] 22)).setCell ⟨w1.heap.size,0,none⟩ (.slice (some ⟨w.heap.size,0,none⟩) n n)=V:=⟨_,rfl⟩
 rw [hW] at S2 O2 B2 l2
 rw [hW]
 clear hW C2 O1 B1
 go_upto_region 2 with fail
 refine wp_region_lit ?_
 iterate 2 refine lsv (w':=w2) ?_
 refine lsv (v:=.int .i64 (2*(n:Int) - 1)) (w':=w2) ?_
 refine lsv (v:=.pointer (some ⟨w2.heap.size,0,none⟩)) (w':=w2.alloc (.cells #[.int .i64 0] 3)) ?_
 refine lsk (w':=(w2.alloc (.cells #[.int .i64 0] 3)).setCell ⟨w2.heap.size,0,none⟩ (.int .i64 (2*(n:Int) - 1))) (by unfold execOp;go_simp;(try rfl)) ?_
 refine wpList_nil ?_
 have A3:Bk ((w2.alloc (.cells #[.int .i64 0] 3)).setCell ⟨w2.heap.size,0,none⟩ (.int .i64 (2*(n:Int) - 1))) w2.heap.size 3 [.int .i64 (2*(n:Int) - 1)]:=(Bk.new w2 [.int .i64 0] 3).set_ 0 _
 have C3:=(Ch.of_below ((Below.refl w2.heap.size w2).alloc (Nat.le_refl _) (.cells #[.int .i64 0] 3)) [w2.heap.size]).setCell (p:=⟨w2.heap.size,0,none⟩) (by simp) (.int .i64 (2*(n:Int) - 1))
 have O3:=O2.ch C3 (by simp;omega)
 have S3:=S2.ch C3 (by simp;omega)
 have B3:=below_ch B2 C3 (by simp;omega) (by omega)
 obtain ⟨w3,hW⟩:∃V,(w2.alloc (.cells #[.int .i64 0] 3)).setCell ⟨w2.heap.size,0,none⟩ (.int .i64 (2*(n:Int) - 1))=V:=⟨_,rfl⟩
 rw [hW] at A3 O3 S3 B3
 rw [hW]
 clear hW C3 O2 S2 B2 e1 e2
 have c1:=S3.cell (c:=0) rfl
 go_wp2
 go_ret2
 exact ⟨_,rfl,_,_,_,rfl,_,_,O3,S3,A3,B3,⟨Nat.le_refl _,by omega,by omega,by omega,by omega⟩,by simp,by intro z hz;rw [List.mem_replicate] at hz;omega,by omega⟩
theorem valid_w (neg:Bool) (b:ByteArray) (hb:b.size≤100) (w:World):Calls Tryz.prog 186 #[.agg #[.bool neg,.string b]] w fun e w'=>∃v,e=.returned v∧IsB v∧Below w.heap.size w w':=by
 have LB:=lh hb
 have LA:=lh ((Below.refl w.heap.size w).alloc (Nat.le_refl _) (.cells #[.bool neg,.string b] 191))
 by_cases h1:b.size<1
 ·have k1:(b.size:Int)<1:=by omega
  clear h1 hb
  go_enter Tryz.func186,Tryz.ntmps186
  go_wp2
  go_ret
  exact ⟨_,rfl,⟨_,rfl⟩,LA.out⟩
 by_cases h2:31<b.size
 ·have k1:¬(b.size:Int)<1:=by omega
  have k2:(31:Int)<(b.size:Int):=by omega
  clear h1 hb h2
  go_enter Tryz.func186,Tryz.ntmps186
  go_wp2
  go_ret
  exact ⟨_,rfl,⟨_,rfl⟩,LA.out⟩
 have k1:¬(b.size:Int)<1:=by omega
 have k2:¬(31:Int)<(b.size:Int):=by omega
 have H12:=lh (show 1≤b.size∧b.size≤31 by omega)
 obtain ⟨c0,hc0,hix0⟩:=str_ix0 b (by omega)
 clear h1 h2 hb hc0
 rcases (show ((1:Int)<(b.size:Int)∧((c0:Int) == 48)=true)∨((1:Int)<(b.size:Int)∧((c0:Int) == 48)=false)∨¬(1:Int)<(b.size:Int) by
  by_cases h1:(1:Int)<(b.size:Int)
  ·cases hq:((c0:Int) == 48)
   ·exact .inr (.inl ⟨h1,rfl⟩)
   ·exact .inl ⟨h1,rfl⟩
  ·exact .inr (.inr h1)) with ⟨k3,k4⟩ | ⟨k3,k4⟩ | k3
 ·go_enter Tryz.func186,Tryz.ntmps186
  go_wp2
  go_ret
  exact ⟨_,rfl,⟨_,rfl⟩,LA.out⟩
 all_goals
  go_enter Tryz.func186,Tryz.ntmps186
  go_wp2
  clear k1 k2 k3
  try clear k4
  go_loopw [29] (fun x W=>∃k:Nat,k≤b.size∧x=.int .i64 (k:Int)∧w.alloc (.cells #[.bool neg,.string b] 191)=W) (fun x _=>b.size - (intOf x).toNat)
  case atStart=>exact ⟨0,Nat.zero_le _,rfl,rfl⟩
  case round=>
   obtain ⟨k,hk,rfl,rfl⟩:=hrel
   have h12:=H12.out
   by_cases hlt:k<b.size
   ·have k5:(k:Int)<(b.size:Int):=by omega
    obtain ⟨c,hc,hix⟩:=str_ix b k hlt
    rcases (show (c:Int)<48∨(¬(c:Int)<48∧(57:Int)<(c:Int))∨(¬(c:Int)<48∧¬(57:Int)<(c:Int)) by omega) with e1 | ⟨e1,e2⟩ | ⟨e1,e2⟩
    ·clear h12 hc
     go_wp2
     go_ret
     exact ⟨_,rfl,⟨_,rfl⟩,LA.out⟩
    ·clear h12 hc
     go_wp2
     go_ret
     exact ⟨_,rfl,⟨_,rfl⟩,LA.out⟩
    ·clear hc
     go_wp2
     go_roundw
     case rel=>exact ⟨k+1,by omega,by go_num,trivial⟩
     case measure=>simp [intOf];omega
   ·have k5:¬((k:Int)<(b.size:Int)):=by omega
    go_wp2
    go_ret
    exact ⟨_,rfl,⟨_,rfl⟩,LA.out⟩
end
def SlB (B:Nat) (w:World) (v:Value):Prop:=∃ (v1:Value) (q:Bool),v=.tuple #[v1,.bool q]∧SlV 16 B w v1
def SlII (B:Nat) (w:World) (v:Value):Prop:=∃ (v1:Value) (c k:Int),v=.tuple #[v1,.int .i64 c,.int .i64 k]∧SlV 16 B w v1
theorem SlB.keep {B:Nat} {w w':World} {v:Value} (h:SlB B w v) (hb:Below w.heap.size w w'):SlB B w' v:=by
 obtain ⟨v1,q,e,h⟩:=h
 exact ⟨v1,q,e,h.keep hb⟩
theorem SlV.mono {m n B:Nat} {w:World} {v:Value} (h:SlV m B w v) (hm:m≤n):SlV n B w v:=by
 obtain ⟨k,ys,h,h1⟩:=h
 exact ⟨k,ys,h,Nat.le_trans h1 hm⟩
theorem SlB.base {B B':Nat} {w:World} {v:Value} (h:SlB B w v) (hB:B'≤B):SlB B' w v:=by
 obtain ⟨v1,q,e,h⟩:=h
 exact ⟨v1,q,e,h.base hB⟩
theorem SlII.base {B B':Nat} {w:World} {v:Value} (h:SlII B w v) (hB:B'≤B):SlII B' w v:=by
 obtain ⟨v1,c,k,e,h⟩:=h
 exact ⟨v1,c,k,e,h.base hB⟩
theorem encode_w (neg:Bool) (b:ByteArray) (hb:b.size≤100) (n:Nat) (h1:1≤n) (hn:n≤16) (w:World):Calls Tryz.prog 172 #[.agg #[.bool neg,.string b],.int .i64 (n:Int)] w fun e w'=>∃v,e=.returned v∧SlB w.heap.size w' v∧Below w.heap.size w w':=by
 have LB:=lh hb
 have N1:=lh h1
 have N16:=lh hn
 clear hb h1 hn
 go_enter Tryz.func172,Tryz.ntmps172
 go_upto_region 1 with fail
 have N0:=Bk.new w [.bool neg,.string b] 191
 have LB:=((Below.refl w.heap.size w).alloc (by simp) (.cells #[.bool neg,.string b] 191))
 have M0:=N0
 have hsz:(w.alloc (.cells #[.bool neg,.string b] 191)).heap.size=w.heap.size+1:=by simp
 obtain ⟨w1,hW⟩:∃V,w.alloc (.cells #[.bool neg,.string b] 191)=V:=⟨_,rfl⟩
 rw [hW] at LB hsz M0
 first | rw [hW] | skip
 obtain ⟨g,hg⟩:∃k,w.heap.size=k:=⟨_,rfl⟩
 rw [hg] at LB hsz M0
 try simp only [hg]
 clear hW N0
 have H:=lh (show Bk w1 (g) 191 [.bool neg,.string b]∧Below g w w1 from ⟨M0,LB⟩)
 clear LB M0
 have HG:=lh hg
 clear hg
 refine wp_region_lit ?_
 refine lsl (H.out.1) ?_
 refine lsce (valid_w neg b LB.out _) ?_
 intro vv v2 Z
 obtain ⟨⟨ok,rfl⟩,hb⟩:=Z.out
 replace H:=lh (show Bk v2 (g) 191 [.bool neg,.string b]∧Below g w v2 from ⟨(H.out.1).keep hb,(H.out.2).trans (hb.mono (by have h9:=(H.out.2).size;(try have h8:=HG.out);omega))⟩)
 clear Z hb
 cases ok
 ·refine lsv (w':=v2) ?_
  refine lsv (w':=v2) ?_
  iterate 3 refine lsg ?_
  refine lsv (w':=v2) ?_
  refine wpList_nil ?_
  go_wp2
  go_ret2
  exact ⟨_,rfl,⟨_,false,rfl,SlV.nil⟩,HG.out▸H.out.2⟩
 ·refine lsv (w':=v2) ?_
  iterate 2 refine lsv (w':=v2) ?_
  refine lsc (inf_c ⟨N1.out,N16.out⟩ _) ?_
  intro v2' hw
  obtain rfl:=hw.out
  clear hw
  iterate 2 refine lsv (w':=v2) ?_
  refine wpList_nil ?_
  go_upto_region 3 with fail
  refine wp_region_lit ?_
  refine lsv (w':=v2) ?_
  refine lsce (writer_w n N1.out N16.out v2) ?_
  intro v v3 Z
  obtain ⟨o,so,sa,rfl,hR⟩:=Z.out
  have R:=lh hR
  clear Z hR
  iterate 5 refine lsv (w':=v3) ?_
  refine wpList_nil ?_
  have KP:=lh (show ∀W,WE v2 W o so sa n→Bk W g 191 [.bool neg,.string b]∧Below g w W from fun W hW=>by
   obtain ⟨a,zs,hW⟩:=hW
   exact ⟨H.out.1.keep hW.b,H.out.2.trans (hW.b.mono (by have:=H.out.2.size;have:=HG.out;omega))⟩)
  have c0:=(KP.out _ R.out).1.cell (c:=0) rfl
  go_upto_region 4 with fail
  refine wp_region_lit ?_
  iterate 2 refine lsv (w':=v3) ?_
  refine lsv (v:=.bool neg) (w':=v3) ?_
  refine lsc (v:=.int .u8 (sgnI neg)) (sgn_c neg _) ?_
  intro v3' hw
  obtain rfl:=hw.out
  clear hw
  refine lsc (wput_w (d:=sgnI neg) (by unfold sgnI;split<;>omega) N16.out R.out) ?_
  intro v4 R4
  clear R c0
  refine wpList_nil ?_
  have c1:=(KP.out _ R4.out).1.cell (c:=1) rfl
  have lb:=LB.out
  have e1:IntKind.i64.wrap ((b.size:Int) - 1)=(b.size:Int) - 1:=wrap_i64_id (by omega) (by omega)
  go_upto_region 5 with fail
  refine wp_region_lit ?_
  iterate 5 refine lsv (w':=v4) ?_
  refine wpList_nil ?_
  clear e1 lb c1
  go_wp2
  go_loopw [8] (fun x W=>∃j:Nat,j≤b.size∧x=.int .i64 ((j:Int) - 1)∧WE v2 W o so sa n) (fun x _=>((intOf x)+1).toNat)
  case atStart=>exact ⟨b.size,Nat.le_refl _,rfl,R4.out⟩
  case round=>
   clear R4
   obtain ⟨j,hj,rfl,hR⟩:=hrel
   rename World=>W5
   have R:=lh hR
   clear hR
   have lb:=LB.out
   by_cases hlt:1≤j
   ·obtain ⟨i,rfl⟩:∃i,j=i+1:=⟨j - 1,by omega⟩
    have ei:(((i+1:Nat):Int) - 1)=(i:Int):=by omega
    rw [ei]
    have k5:(0:Int)≤(i:Int):=by omega
    obtain ⟨c,hc,hix⟩:=str_ix b i (by omega)
    obtain ⟨d,hd,hd2⟩:=wrap8_n ((c:Int) - 48)
    have e3:IntKind.i64.wrap ((i:Int) - 1)=(i:Int) - 1:=wrap_i64_id (by omega) (by omega)
    have PC:=lh (wput_w (d:=(d:Int)) (by omega) N16.out R.out)
    have c1:=(KP.out _ R.out).1.cell (c:=1) rfl
    have HJ:=lh hj
    clear hc hd2 lb hj hlt
    go_upto_region 8 with fail
    refine wp_region_lit ?_
    iterate 2 refine lsv (w':=W5) ?_
    refine lsv (v:=.string b) (w':=W5) ?_
    refine lsv (w':=W5) ?_
    refine lsv (v:=.int .u8 (c:Int)) (w':=W5) ?_
    refine lsv (v:=.int .u8 (d:Int)) (w':=W5) ?_
    refine lsc PC.out ?_
    intro w6 R6
    clear PC R c1 hix hd
    refine wpList_nil ?_
    go_wp2
    go_roundw
    case rel=>exact ⟨i,by have:=HJ.out;omega,rfl,R6.out⟩
    case measure=>simp [intOf]
   ·obtain rfl:j=0:=by omega
    have k5:¬((0:Int)≤((0:Nat):Int) - 1):=by omega
    clear hlt hj lb
    go_upto_region 9 with fail
    have c1:=(KP.out _ R.out).1.cell (c:=1) rfl
    have YB:=lh (show SlV n w.heap.size W5 (.slice (some ⟨o,0,none⟩) n n) from by obtain ⟨a,zs,hW⟩:=R.out;exact (hW.sl N16.out).base H.out.2.size)
    have B9:=lh (KP.out _ R.out).2
    refine wp_region_held_drew (S:=fun W=>W.cell? ⟨g,1,none⟩=some (.string b)∧SlV n w.heap.size W (.slice (some ⟨o,0,none⟩) n n)∧Below g w W) (by kernel_rfl) ⟨c1,YB.out.keep (dBelow' (Below.refl W5.heap.size W5) 1),dBelow' B9.out 1⟩ (fun hHeld=>?_)
    have Z:=lh hHeld
    clear YB B9 R c1
    repeat refine tkn ?_
    refine tki 3 ?_
    repeat refine tkn ?_
    refine wpAnyH_done (by with_unfolding_all rfl) ?_ _
    clear hHeld
    go_wp2
    go_ret2
    exact ⟨_,rfl,⟨_,_,rfl,Z.out.2.1.mono N16.out⟩,HG.out▸Z.out.2.2⟩
theorem write_w (neg:Bool) (b:ByteArray) (hb:b.size≤100) (n:Nat) (h1:1≤n) (hn:n≤16) (w:World):Calls Tryz.prog 143 #[.bool neg,.string b,.int .i64 (n:Int)] w fun e w'=>∃v,e=.returned v∧SlB w.heap.size w' v∧Below w.heap.size w w':=by
 have LB:=lh hb
 have N1:=lh h1
 have N16:=lh hn
 have e1:IntKind.i64.wrap ((2:Int)*(n:Int))=2*(n:Int):=wrap_i64_id (by omega) (by omega)
 have e2:IntKind.i64.wrap (2*(n:Int) - 1)=2*(n:Int) - 1:=wrap_i64_id (by omega) (by omega)
 by_cases hov:2*n - 1<b.size
 ·have k1:2*(n:Int) - 1<(b.size:Int):=by omega
  obtain ⟨k,hk⟩:∃k,b.size - (2*n - 1)=k:=⟨_,rfl⟩
  have e3:IntKind.i64.wrap ((b.size:Int) - (2*(n:Int) - 1))=(k:Int):=by rw [wrap_i64_id (by omega) (by omega)];omega
  obtain ⟨t0,ht0,hcut⟩:=str_cut b k (by omega)
  have T0:=lh (show t0.size≤100 by omega)
  clear hb h1 hn hov hk ht0
  go_enter Tryz.func143,Tryz.ntmps143
  go_wp2
  go_loopw [1] (fun a W=>∃b:ByteArray,a=.string b∧b.size≤100∧w=W) (fun a _=>(match a with | .string b=>b.size | _=>0))
  case atStart=>exact ⟨_,rfl,T0.out,rfl⟩
  case round=>
   clear e1 e2 e3 k1 hcut
   obtain ⟨z,rfl,hz2,rfl⟩:=hrel
   have HZ2:=lh hz2
   rcases (show (1<z.size∧∃c t,z.size=z.size∧Hid (t.size+1=z.size)∧(∀W,(Instr.index 9 (.string z) (.int .i64 0)).run Tryz.prog W=.ok (.int .u8 ((c:Nat):Int)) W)∧(∀W,(Instr.slice 9 (.string z) (some (.int .i64 1)) none none).run Tryz.prog W=.ok (.string t) W))∨¬ 1<z.size by
    by_cases h1:1<z.size
    ·obtain ⟨c,hc,hix⟩:=str_ix0 z (by omega)
     obtain ⟨t,ht,hcut⟩:=str_cut1 z (by omega)
     exact .inl ⟨h1,c,t,rfl,lh (by omega),hix,hcut⟩
    ·exact .inr h1) with ⟨h1,c,t,-,ht,hix,hcut⟩ | h1
   ·have e1:(1:Int)<(z.size:Int):=by omega
    clear h1 hz2
    by_cases h48:c=48
    ·subst h48
     go_wp2
     go_roundw
     case rel=>exact ⟨t,rfl,by have:=HZ2.out;have:=ht.out;omega,trivial⟩
     case measure=>have:=ht.out;show t.size<z.size;omega
    ·have e2:((c:Int) == 48)=false:=by rw [beq_eq_false_iff_ne];omega
     clear h48 hcut
     go_upto_region 6 with fail
     refine wp_region_lit ?_
     iterate 4 refine lsv (w':=w) ?_
     refine lsce (encode_w neg z HZ2.out n N1.out N16.out _) ?_
     intro vv w2 Z
     obtain ⟨⟨v1,q,rfl,hv1⟩,hb⟩:=Z.out
     have V1:=lh hv1
     have B1:=lh hb
     clear Z hv1 hb
     iterate 5 refine lsv (w':=w2) ?_
     refine wpList_nil ?_
     go_wp2
     go_ret2
     exact ⟨_,rfl,⟨_,_,rfl,V1.out⟩,B1.out⟩
   ·have e1:¬(1:Int)<(z.size:Int):=by omega
    clear h1 hz2
    go_upto_region 6 with fail
    refine wp_region_lit ?_
    iterate 4 refine lsv (w':=w) ?_
    refine lsce (encode_w neg z HZ2.out n N1.out N16.out _) ?_
    intro vv w2 Z
    obtain ⟨⟨v1,q,rfl,hv1⟩,hb⟩:=Z.out
    have V1:=lh hv1
    have B1:=lh hb
    clear Z hv1 hb
    iterate 5 refine lsv (w':=w2) ?_
    refine wpList_nil ?_
    go_wp2
    go_ret2
    exact ⟨_,rfl,⟨_,_,rfl,V1.out⟩,B1.out⟩
 ·have k1:¬ 2*(n:Int) - 1<(b.size:Int):=by omega
  clear hb h1 hn hov
  go_enter Tryz.func143,Tryz.ntmps143
  go_wp2
  go_loopw [1] (fun a W=>∃b:ByteArray,a=.string b∧b.size≤100∧w=W) (fun a _=>(match a with | .string b=>b.size | _=>0))
  case atStart=>exact ⟨_,rfl,LB.out,rfl⟩
  case round=>
   clear e1 e2 k1
   obtain ⟨z,rfl,hz2,rfl⟩:=hrel
   have HZ2:=lh hz2
   rcases (show (1<z.size∧∃c t,z.size=z.size∧Hid (t.size+1=z.size)∧(∀W,(Instr.index 9 (.string z) (.int .i64 0)).run Tryz.prog W=.ok (.int .u8 ((c:Nat):Int)) W)∧(∀W,(Instr.slice 9 (.string z) (some (.int .i64 1)) none none).run Tryz.prog W=.ok (.string t) W))∨¬ 1<z.size by
    by_cases h1:1<z.size
    ·obtain ⟨c,hc,hix⟩:=str_ix0 z (by omega)
     obtain ⟨t,ht,hcut⟩:=str_cut1 z (by omega)
     exact .inl ⟨h1,c,t,rfl,lh (by omega),hix,hcut⟩
    ·exact .inr h1) with ⟨h1,c,t,-,ht,hix,hcut⟩ | h1
   ·have e1:(1:Int)<(z.size:Int):=by omega
    clear h1 hz2
    by_cases h48:c=48
    ·subst h48
     go_wp2
     go_roundw
     case rel=>exact ⟨t,rfl,by have:=HZ2.out;have:=ht.out;omega,trivial⟩
     case measure=>have:=ht.out;show t.size<z.size;omega
    ·have e2:((c:Int) == 48)=false:=by rw [beq_eq_false_iff_ne];omega
     clear h48 hcut
     go_upto_region 6 with fail
     refine wp_region_lit ?_
     iterate 4 refine lsv (w':=w) ?_
     refine lsce (encode_w neg z HZ2.out n N1.out N16.out _) ?_
     intro vv w2 Z
     obtain ⟨⟨v1,q,rfl,hv1⟩,hb⟩:=Z.out
     have V1:=lh hv1
     have B1:=lh hb
     clear Z hv1 hb
     iterate 5 refine lsv (w':=w2) ?_
     refine wpList_nil ?_
     go_wp2
     go_ret2
     exact ⟨_,rfl,⟨_,_,rfl,V1.out⟩,B1.out⟩
   ·have e1:¬(1:Int)<(z.size:Int):=by omega
    clear h1 hz2
    go_upto_region 6 with fail
    refine wp_region_lit ?_
    iterate 4 refine lsv (w':=w) ?_
    refine lsce (encode_w neg z HZ2.out n N1.out N16.out _) ?_
    intro vv w2 Z
    obtain ⟨⟨v1,q,rfl,hv1⟩,hb⟩:=Z.out
    have V1:=lh hv1
    have B1:=lh hb
    clear Z hv1 hb
    iterate 5 refine lsv (w':=w2) ?_
    refine wpList_nil ?_
    go_wp2
    go_ret2
    exact ⟨_,rfl,⟨_,_,rfl,V1.out⟩,B1.out⟩
theorem finish_w (neg:Bool) (b:ByteArray) (hb:b.size≤100) (n:Nat) (h1:1≤n) (hn:n≤16) (w:World):Calls Tryz.prog 150 #[.bool neg,.string b,.int .i64 (n:Int)] w fun e w'=>∃v,e=.returned v∧SlII w.heap.size w' v∧Below w.heap.size w w':=by
 have WC:=lh (fun s=>write_w s b hb n h1 hn w)
 clear hb h1 hn
 cases hq:(b.toList == [48])
 ·cases neg
  all_goals
   go_enter Tryz.func150,Tryz.ntmps150
   go_upto_region 3 with fail
   refine wp_region_lit ?_
   iterate 3 refine lsv (w':=w) ?_
   refine lsce (WC.out _) ?_
   intro vv w2 Z
   obtain ⟨⟨v1,q,rfl,hv1⟩,hb⟩:=Z.out
   have V1:=lh hv1
   have B1:=lh hb
   clear Z hv1 hb
   iterate 5 refine lsv (w':=w2) ?_
   refine wpList_nil ?_
   cases q
   all_goals
    go_wp2
    go_ret3
    exact ⟨_,rfl,⟨_,_,_,rfl,V1.out⟩,B1.out⟩
 ·go_enter Tryz.func150,Tryz.ntmps150
  go_upto_region 3 with fail
  refine wp_region_lit ?_
  iterate 3 refine lsv (w':=w) ?_
  refine lsce (WC.out _) ?_
  intro vv w2 Z
  obtain ⟨⟨v1,q,rfl,hv1⟩,hb⟩:=Z.out
  have V1:=lh hv1
  have B1:=lh hb
  clear Z hv1 hb
  iterate 5 refine lsv (w':=w2) ?_
  refine wpList_nil ?_
  cases q
  all_goals
   go_wp2
   go_ret3
   exact ⟨_,rfl,⟨_,_,_,rfl,V1.out⟩,B1.out⟩
theorem write_b {B:Nat} {w:World} (hB:B≤w.heap.size) (neg:Bool) (b:ByteArray) (hb:b.size≤100) (n:Nat) (h1:1≤n) (hn:n≤16):Calls Tryz.prog 143 #[.bool neg,.string b,.int .i64 (n:Int)] w fun e w'=>∃v,e=.returned v∧SlB B w' v∧Below w.heap.size w w':=
 (write_w neg b hb n h1 hn w).mono fun e w' ⟨v,he,hv,hb⟩=>⟨v,he,hv.base hB,hb⟩
theorem finish_b {B:Nat} {w:World} (hB:B≤w.heap.size) (neg:Bool) (b:ByteArray) (hb:b.size≤100) (n:Nat) (h1:1≤n) (hn:n≤16):Calls Tryz.prog 150 #[.bool neg,.string b,.int .i64 (n:Int)] w fun e w'=>∃v,e=.returned v∧SlII B w' v∧Below w.heap.size w w':=
 (finish_w neg b hb n h1 hn w).mono fun e w' ⟨v,he,hv,hb⟩=>⟨v,he,hv.base hB,hb⟩
end Go.Proofs.YtljajnaclpbecaaGreatDoor
namespace Go.Proofs.YtljajnaclpbecaaGreatDoor
set_option maxRecDepth 1000000
set_option maxHeartbeats 8000000
open Go.RowKit Go.Shelf
set_option linter.unusedVariables false
set_option linter.unusedSimpArgs false
attribute [local go_sem] Oper.semAt_some
theorem conv_b {w:World} {A:Option Addr} {len:Nat} {zs:List Int} (h:Byt w A len zs) (c:Nat):(convert 22 9 (.slice A len c)).run Tryz.prog w=.ok (.string (strOfNums zs)) w:=by
 rcases Nat.eq_zero_or_pos len with rfl | h0
 ·obtain rfl:zs=[]:=List.eq_nil_of_length_eq_zero h.1
  rcases A with _ | a
  ·exact run_convert_bytes_nil w 22 5 Tryz.underlying22 Tryz.underlying5 0 c _ Tryz.underlying9
  ·rw [run_convert_bytes_string w 22 9 5 _ 0 c Tryz.underlying22 Tryz.underlying5 Tryz.underlying9]
   have hl:(loadCells a 0).run Tryz.prog w=.ok (([]:List Int).map (Value.int .u8)).toArray w:=by simpa using run_loadCells_list (P:=Tryz.prog) w a [] (by simp)
   rw [run_bytesToString w a 0 c [] hl]
   rfl
 ·obtain ⟨b,off,rfl,hc⟩:=h.2.2 h0
  exact run_convert_bytes_arg w 22 5 Tryz.underlying22 Tryz.underlying5 b off len c zs h.1 hc _ Tryz.underlying9
theorem str_size (l:List Int):(strOfNums l).size=l.length:=by simp [strOfNums,ByteArray.size]
def tbV:List Value:=[.int .i8 0,.int .i8 0,.int .i8 0,.int .i8 0,.int .i8 0,.int .i8 0,.int .i8 0,.int .i8 0,.int .i8 0,.int .i8 0,.int .i8 1,.int .i8 2,.int .i8 1,.int .i8 2,.int .i8 1,.int .i8 1]
def sgV (d:Nat):Int:=if d<10 then 0 else if d=11∨d=13 then 2 else 1
theorem tbV_at (d:Nat) (h:d<16):tbV[d]?=some (.int .i8 (sgV d)):=by
 rcases (show d=0∨d=1∨d=2∨d=3∨d=4∨d=5∨d=6∨d=7∨d=8∨d=9∨d=10∨d=11∨d=12∨d=13∨d=14∨d=15 by omega) with rfl | rfl | rfl | rfl | rfl | rfl | rfl | rfl | rfl | rfl | rfl | rfl | rfl | rfl | rfl | rfl<;>rfl
structure DB (w0 w:World) (B si sa N:Nat) (sg a:Int) (zs:List Int):Prop where
 fd:Bk w B 191 [.bool false,.string ⟨#[]⟩]
 fk:Bk w (B+1) 4 [.bool false]
 fo:Bk w (B+2) 5 (zs.map (Value.int .u8))
 ft:Bk w (B+3) 22 [.slice (some ⟨B+2,0,none⟩) N N]
 fs:Bk w si 221 [.int .i8 sg]
 fa:Bk w sa 3 [.int .i64 a]
 fx:(si=B+4∧sa=B+5)∨(si=B+5∧sa=B+4)
 fl:zs.length=N
 fr:∀z∈zs,0≤z∧z≤255
 fb:Below B w0 w
theorem DB.keep {w0 w w':World} {B si sa N:Nat} {sg a:Int} {zs:List Int} (h:DB w0 w B si sa N sg a zs) (hb:Below w.heap.size w w'):DB w0 w' B si sa N sg a zs:=
 { h with fd:=h.fd.keep hb,fk:=h.fk.keep hb,fo:=h.fo.keep hb,ft:=h.ft.keep hb,fs:=h.fs.keep hb,fa:=h.fa.keep hb,fb:=h.fb.trans (hb.mono (by have:=h.ft.lt;omega)) }
structure D0 (w0 w:World) (B N:Nat) (zs:List Int):Prop where
 fd:Bk w B 191 [.bool false,.string ⟨#[]⟩]
 fk:Bk w (B+1) 4 [.bool false]
 fo:Bk w (B+2) 5 (zs.map (Value.int .u8))
 ft:Bk w (B+3) 22 [.slice (some ⟨B+2,0,none⟩) N N]
 fl:zs.length=N
 fr:∀z∈zs,0≤z∧z≤255
 fb:Below B w0 w
theorem D0.keep {w0 w w':World} {B N:Nat} {zs:List Int} (h:D0 w0 w B N zs) (hb:Below w.heap.size w w'):D0 w0 w' B N zs:=
 { h with fd:=h.fd.keep hb,fk:=h.fk.keep hb,fo:=h.fo.keep hb,ft:=h.ft.keep hb,fb:=h.fb.trans (hb.mono (by have:=h.ft.lt;omega)) }
theorem D0.set_ {w0 w:World} {B N:Nat} {zs:List Int} (h:D0 w0 w B N zs) {k:Nat} (hk:B+4≤k) (v:Value):D0 w0 (w.setCell ⟨k,0,none⟩ v) B N zs:=
 { h with fd:=h.fd.other v (by show k≠B;omega),fk:=h.fk.other v (by show k≠B+1;omega),fo:=h.fo.other v (by show k≠B+2;omega),ft:=h.ft.other v (by show k≠B+3;omega),fb:=h.fb.setCell (p:=⟨k,0,none⟩) (by show B≤k;omega) v }
theorem D0.db {w0 w:World} {B N si sa:Nat} {sg a:Int} {zs:List Int} (h:D0 w0 w B N zs) (h1:Bk w si 221 [.int .i8 sg]) (h2:Bk w sa 3 [.int .i64 a]) (hx:(si=B+4∧sa=B+5)∨(si=B+5∧sa=B+4)):DB w0 w B si sa N sg a zs:=
 { h with fs:=h1,fa:=h2,fx:=hx }
theorem DB.d0 {w0 w:World} {B N si sa:Nat} {sg a:Int} {zs:List Int} (h:DB w0 w B si sa N sg a zs):D0 w0 w B N zs:={ h with }
structure DC (w:World) (B si sa N:Nat) (sg a:Int) (zs:List Int):Prop where
 fd:Bk w B 191 [.bool false,.string ⟨#[]⟩]
 fk:Bk w (B+1) 4 [.bool false]
 fo:Bk w (B+2) 5 (zs.map (Value.int .u8))
 ft:Bk w (B+3) 22 [.slice (some ⟨B+2,0,none⟩) N N]
 fs:Bk w si 221 [.int .i8 sg]
 fa:Bk w sa 3 [.int .i64 a]
 fx:(si=B+4∧sa=B+5)∨(si=B+5∧sa=B+4)
 fl:zs.length=N
 fr:∀z∈zs,0≤z∧z≤255
theorem DB.dc {w0 w:World} {B N si sa:Nat} {sg a:Int} {zs:List Int} (h:DB w0 w B si sa N sg a zs):DC w B si sa N sg a zs:={ h with }
theorem DC.own {A W:World} {B N si sa:Nat} {sg a:Int} {zs:List Int} {row:Option Nat} (h:DC A B si sa N sg a zs) (hg:A.grownBy W row) (hr:∀r,row=some r→∃o:Obj,A.heap[r]?=some o∧o.isCells=false):DC W B si sa N sg a zs:=
 { h with fd:=bk_kept h.fd hg hr,fk:=bk_kept h.fk hg hr,fo:=bk_kept h.fo hg hr,ft:=bk_kept h.ft hg hr,fs:=bk_kept h.fs hg hr,fa:=bk_kept h.fa hg hr }
section
variable {w0 w:World} {B N si sa:Nat} {sg a:Int} {zs:List Int}
theorem DB.row (h:DB w0 w B si sa N sg a zs) {k:Nat} (hk:B+6≤k) (cs:Array Value):DB w0 (w.setRow k cs) B si sa N sg a zs:=by
 have hx:=h.fx
 exact { h with fd:=h.fd.rowOth (by omega) cs,fk:=h.fk.rowOth (by omega) cs,fo:=h.fo.rowOth (by omega) cs,ft:=h.ft.rowOth (by omega) cs,fs:=h.fs.rowOth (by omega) cs,fa:=h.fa.rowOth (by omega) cs,fb:=below_row h.fb (by omega) cs }
theorem DC.sgn (h:DC w B si sa N sg a zs) (z:Int):DC (w.setCell ⟨si,0,none⟩ (.int .i8 z)) B si sa N z a zs:=by
 have hx:=h.fx
 exact { h with fd:=h.fd.other _ (by show si≠B;omega),fk:=h.fk.other _ (by show si≠B+1;omega),fo:=h.fo.other _ (by show si≠B+2;omega),ft:=h.ft.other _ (by show si≠B+3;omega),fs:=h.fs.set_ 0 _,fa:=h.fa.other _ (by show si≠sa;omega) }
theorem DC.plc (h:DC w B si sa N sg a zs) (z:Int):DC (w.setCell ⟨sa,0,none⟩ (.int .i64 z)) B si sa N sg z zs:=by
 have hx:=h.fx
 exact { h with fd:=h.fd.other _ (by show sa≠B;omega),fk:=h.fk.other _ (by show sa≠B+1;omega),fo:=h.fo.other _ (by show sa≠B+2;omega),ft:=h.ft.other _ (by show sa≠B+3;omega),fs:=h.fs.other _ (by show sa≠si;omega),fa:=h.fa.set_ 0 _ }
theorem DC.txt (h:DC w B si sa N sg a zs) (i z:Nat) (hz:z≤255):DC (w.setCell ⟨B+2,i,none⟩ (.int .u8 (z:Int))) B si sa N sg a (zs.set i (z:Int)):=by
 have hx:=h.fx
 have h1:=h.fo.set_ i (.int .u8 (z:Int))
 rw [← List.map_set] at h1
 refine { h with fd:=h.fd.other _ (by show B+2≠B;omega),fk:=h.fk.other _ (by show B+2≠B+1;omega),fo:=h1,ft:=h.ft.other _ (by show B+2≠B+3;omega),fs:=h.fs.other _ (by show B+2≠si;omega),fa:=h.fa.other _ (by show B+2≠sa;omega),fl:=by simpa using h.fl,fr:=?_ }
 intro y hy
 rcases List.mem_or_eq_of_mem_set hy with h2 | rfl
 ·exact h.fr y h2
 ·omega
end
def DIn (W:World) (B si sa N L p:Nat):Prop:=∃sg a zs,DC W B si sa N sg a zs∧((p=0∧sg = -1∧a=(N:Int))∨(1≤p∧1≤sg∧sg≤2∧a=2*(L:Int) - (p:Int)))
def XDn (W:World) (B:Nat):Prop:=Bk W B 191 [.bool false,.string ⟨#[]⟩]∧Bk W (B+1) 4 [.bool false]
theorem res_cc {fn:Func} {p q:Tmp} (h:fn.results=#[.cell p 191,.cell q 4]) (tmps:Array Value) (w:World) {g k:Nat} {x:Bool} {b:ByteArray} {y:Bool} {T:TypeId} (hB:Bk w g 191 [.bool x,.string b]) (hC:Bk w k T [.bool y]) (hp:tmps.getD p undef=.pointer (some ⟨g,0,none⟩)) (hq:tmps.getD q undef=.pointer (some ⟨k,0,none⟩)) (hi:(Tryz.prog.info? 191).map (·.size)=some 2):(results fn tmps).run Tryz.prog w=.ok (.tuple #[.agg #[.bool x,.string b],.bool y]) w:=by
 have hc:=hC.cell (c:=0) rfl
 have hp':tmps[p]?.getD undef=.pointer (some ⟨g,0,none⟩):=by simpa using hp
 have hq':tmps[q]?.getD undef=.pointer (some ⟨k,0,none⟩):=by simpa using hq
 have hl:=run_loadVar_row (P:=Tryz.prog) w g 191 191 #[.bool x,.string b] (0,0) _ hB Tryz.underlying191 rfl hi
 have hl2:(loadVar 4 ⟨k,0,none⟩).run Tryz.prog w=.ok (.bool y) w:=by go_simp
 simp [results,h,hp',hq',asAddr,hl,hl2,Sem.run_bind,Result.andThen]
theorem leavesM_congr {F:Fence} {n:Nat} {P:Program} {fn:Func} {t t':Array Value} {R:Ending→World→Prop} (h:∀w,(results fn t).run P w=(results fn t').run P w) (ds:List Deferred):∀ (u:FrameMode) (w:World),LeavesInM F n P fn t R ds u w→LeavesInM F n P fn t' R ds u w:=by
 induction ds with
 | nil=>
  intro u w hl
  cases u with
  | returning=>obtain ⟨v,h1,h2⟩:=hl;exact ⟨v,(h w).symm.trans h1,h2⟩
  | panicking c=>exact hl
  | run=>exact hl
 | cons d ds ih=>
  intro u w hl
  obtain ⟨hu,hl⟩:=hl
  refine ⟨hu,?_⟩
  rcases hl with ⟨r,w',h1,h2,h3⟩ | ⟨hd,fv,cap,f,args,h1,h2,h4,h3⟩
  ·exact .inl ⟨r,w',h1,h2,ih _ _ h3⟩
  ·refine .inr ⟨hd,fv,cap,f,args,h1,h2,h4,h3.mono fun e u' w' hh=>?_⟩
   cases e with
   | returned v=>exact ih _ _ hh
   | panicked c=>exact ih _ _ hh
   | outgrown=>exact hh
theorem exqM {F:Fence} {n:Nat} {P:Program} {fn:Func} {R:Ending→World→Prop} {c:List PanicEntry} {a:Act} {w:World} {d:Option Nat} {v:Value} (hr:∀w,(results fn (a.put d v).tmps).run P w=(results fn a.tmps).run P w) (h:bodyPostM F n P fn R (.panic c) (a.put d v) w) (hd:(a.put d v).defers=a.defers:=by rfl):bodyPostM F n P fn R (.panic c) a w:=by
 have h2:LeavesInM F n P fn (a.put d v).tmps R (a.put d v).defers (.panicking c) w:=h
 rw [hd] at h2
 exact leavesM_congr hr _ _ _ h2
def DecV (n:Nat) (v:Value):Prop:=∃ (neg:Bool) (b:ByteArray) (ok:Bool),v=.tuple #[.agg #[.bool neg,.string b],.bool ok]∧b.size≤n
theorem signs_c (w:World):Calls Tryz.prog 175 #[] w fun e w'=>e=.returned (.agg tbV.toArray)∧Below w.heap.size w w':=by
 go_enter Tryz.func175,Tryz.ntmps175
 go_upto_region 1 with fail
 have N0:=Bk.new w [.int .i8 0,.int .i8 0,.int .i8 0,.int .i8 0,.int .i8 0,.int .i8 0,.int .i8 0,.int .i8 0,.int .i8 0,.int .i8 0,.int .i8 0,.int .i8 0,.int .i8 0,.int .i8 0,.int .i8 0,.int .i8 0] 222
 have LB:=((Below.refl w.heap.size w).alloc (by simp) (.cells #[.int .i8 0,.int .i8 0,.int .i8 0,.int .i8 0,.int .i8 0,.int .i8 0,.int .i8 0,.int .i8 0,.int .i8 0,.int .i8 0,.int .i8 0,.int .i8 0,.int .i8 0,.int .i8 0,.int .i8 0,.int .i8 0] 222))
 have M0:=N0
 have hsz:(w.alloc (.cells #[.int .i8 0,.int .i8 0,.int .i8 0,.int .i8 0,.int .i8 0,.int .i8 0,.int .i8 0,.int .i8 0,.int .i8 0,.int .i8 0,.int .i8 0,.int .i8 0,.int .i8 0,.int .i8 0,.int .i8 0,.int .i8 0] 222)).heap.size=w.heap.size+1:=by simp
 obtain ⟨w1,hW⟩:∃V,w.alloc (.cells #[.int .i8 0,.int .i8 0,.int .i8 0,.int .i8 0,.int .i8 0,.int .i8 0,.int .i8 0,.int .i8 0,.int .i8 0,.int .i8 0,.int .i8 0,.int .i8 0,.int .i8 0,.int .i8 0,.int .i8 0,.int .i8 0] 222)=V:=⟨_,rfl⟩
 rw [hW] at LB hsz M0
 first | rw [hW] | skip
 obtain ⟨g,hg⟩:∃k,w.heap.size=k:=⟨_,rfl⟩
 rw [hg] at LB hsz M0
 try simp only [hg]
 clear hW N0
 have H:=lh (show Bk w1 (g) 222 [.int .i8 0,.int .i8 0,.int .i8 0,.int .i8 0,.int .i8 0,.int .i8 0,.int .i8 0,.int .i8 0,.int .i8 0,.int .i8 0,.int .i8 0,.int .i8 0,.int .i8 0,.int .i8 0,.int .i8 0,.int .i8 0]∧Below g w w1 from ⟨M0,LB⟩)
 clear LB M0
 have HG:=lh hg
 clear hg
 refine wp_region_lit ?_
 refine lsv (v:=.agg #[.int .i8 0,.int .i8 0,.int .i8 0,.int .i8 0,.int .i8 0,.int .i8 0,.int .i8 0,.int .i8 0,.int .i8 0,.int .i8 0,.int .i8 1,.int .i8 2,.int .i8 1,.int .i8 2,.int .i8 1,.int .i8 1]) (w':=w1) ?_
 refine lss (cs':=[.int .i8 0,.int .i8 0,.int .i8 0,.int .i8 0,.int .i8 0,.int .i8 0,.int .i8 0,.int .i8 0,.int .i8 0,.int .i8 0,.int .i8 1,.int .i8 2,.int .i8 1,.int .i8 2,.int .i8 1,.int .i8 1]) (H.out.1) rfl (by simp [Value.oneCell']) (by kernel_rfl) ?_
 have H2:=lh (show Bk (w1.setRow (g) ([.int .i8 0,.int .i8 0,.int .i8 0,.int .i8 0,.int .i8 0,.int .i8 0,.int .i8 0,.int .i8 0,.int .i8 0,.int .i8 0,.int .i8 1,.int .i8 2,.int .i8 1,.int .i8 2,.int .i8 1,.int .i8 1]:List Value).toArray) (g) 222 [.int .i8 0,.int .i8 0,.int .i8 0,.int .i8 0,.int .i8 0,.int .i8 0,.int .i8 0,.int .i8 0,.int .i8 0,.int .i8 0,.int .i8 1,.int .i8 2,.int .i8 1,.int .i8 2,.int .i8 1,.int .i8 1]∧Below g w (w1.setRow (g) ([.int .i8 0,.int .i8 0,.int .i8 0,.int .i8 0,.int .i8 0,.int .i8 0,.int .i8 0,.int .i8 0,.int .i8 0,.int .i8 0,.int .i8 1,.int .i8 2,.int .i8 1,.int .i8 2,.int .i8 1,.int .i8 1]:List Value).toArray) from ⟨(H.out.1).rowSet [.int .i8 0,.int .i8 0,.int .i8 0,.int .i8 0,.int .i8 0,.int .i8 0,.int .i8 0,.int .i8 0,.int .i8 0,.int .i8 0,.int .i8 1,.int .i8 2,.int .i8 1,.int .i8 2,.int .i8 1,.int .i8 1],below_row (H.out.2) (by omega) _⟩)
 obtain ⟨w2,hW⟩:∃V,w1.setRow (g) ([.int .i8 0,.int .i8 0,.int .i8 0,.int .i8 0,.int .i8 0,.int .i8 0,.int .i8 0,.int .i8 0,.int .i8 0,.int .i8 0,.int .i8 1,.int .i8 2,.int .i8 1,.int .i8 2,.int .i8 1,.int .i8 1]:List Value).toArray=V:=⟨_,rfl⟩
 rw [hW] at H2
 first | rw [hW] | (simp only [hW])
 clear hW H
 have H:=H2
 clear H2
 refine wpList_nil ?_
 go_wp2
 (try simp only [Exit.inBlock,Exit.then])
 refine bodyPost_ret (results_cell_row Tryz.results175 _ _ g 222 _ (0,0) _ rfl H.out.1 Tryz.underlying222 rfl (by kernel_rfl)) rfl ?_
 exact ⟨rfl,HG.out▸H.out.2⟩
end Go.Proofs.YtljajnaclpbecaaGreatDoor
