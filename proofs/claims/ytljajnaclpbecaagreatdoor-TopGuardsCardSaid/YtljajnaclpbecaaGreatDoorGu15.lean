/- Contracts and laws on the way to the statement, text 15 of 22. Conditions: as each states them. -/
import Derived.Test.YtljajnaclpbecaaGreatDoorGu1
import Derived.Test.YtljajnaclpbecaaGreatDoorGu14
namespace Go.Proofs.YtljajnaclpbecaaGreatDoor
open Go.RowKit
set_option maxRecDepth 1000000
set_option maxHeartbeats 8000000
set_option linter.unusedVariables false
set_option linter.unusedSimpArgs false
theorem shd_w (b:ByteArray) (hb:b.size≤100) (La ba ca:Nat) (hA:1≤La∧La≤16) (gx gs:Nat) (s:Bool) (h l:Nat) (w:World) (hx:Bk w gx 179 [.bool s,.int .u64 (h:Int),.int .u64 (l:Int)]) (hs:Bk w gs 22 [.slice (some ⟨ba,0,none⟩) La ca]):Calls Tryz.prog 158 #[.string b,.pointer (some ⟨gx,0,none⟩),.pointer (some ⟨gs,0,none⟩)] w fun e w'=>∃v,e=.returned v∧SlII w.heap.size w' v∧Below w.heap.size w w':=by
 have HB:=lh hb
 have HA:=lh hA
 have HX:=lh (And.intro hx hs)
 clear hb hA hx hs
 go_enter Tryz.func158,Tryz.ntmps158
 obtain ⟨g,hg⟩:∃k,w.heap.size=k:=⟨_,rfl⟩
 have H:=lh (show Bk w (gx) 179 [.bool s,.int .u64 (h:Int),.int .u64 (l:Int)]∧Bk w (gs) 22 [.slice (some ⟨ba,0,none⟩) La ca]∧Below g w w from ⟨HX.out.1,HX.out.2,hg▸Below.refl _ _⟩)
 have HG:=lh hg
 clear hg
 have c0_0:=(H.out.1).cell (c:=0) rfl
 have c0_1:=(H.out.1).cell (c:=1) rfl
 have c0_2:=(H.out.1).cell (c:=2) rfl
 have f0:=(H.out.1).free
 have c1_0:=(H.out.2.1).cell (c:=0) rfl
 have f1:=(H.out.2.1).free
 go_upto_region 1 with fail
 refine wp_region_lit ?_
 refine lsv (w':=w) ?_
 refine lsv (v:=.bool s) (w':=w) ?_
 refine lsv (w':=w) ?_
 refine lsv (v:=.slice (some ⟨ba,0,none⟩) La ca) (w':=w) ?_
 refine lsv (w':=w) ?_
 clear c0_0 c0_1 c0_2 f0 c1_0 f1
 refine lsce (finish_b (B:=g) (Nat.le_trans (Nat.le_of_eq HG.out.symm) (H.out.2.2).size) s b HB.out La HA.out.1 HA.out.2) ?_
 intro vv y9 Z
 obtain ⟨⟨v8,c8,k8,rfl,hv8⟩,hb⟩:=Z.out
 replace H:=lh (show Bk y9 (gx) 179 [.bool s,.int .u64 (h:Int),.int .u64 (l:Int)]∧Bk y9 (gs) 22 [.slice (some ⟨ba,0,none⟩) La ca]∧Below g w y9 from ⟨(H.out.1).keep hb,(H.out.2.1).keep hb,(H.out.2.2).trans (hb.mono (by have h9:=(H.out.2.2).size;(try have h8:=HG.out);omega))⟩)
 clear Z hb
 have V8:=lh hv8
 clear hv8
 iterate 6 refine lsv (w':=y9) ?_
 refine wpList_nil ?_
 go_wp2
 go_ret3
 exact ⟨_,rfl,⟨_,_,_,rfl,HG.out▸V8.out⟩,HG.out▸H.out.2.2⟩
theorem shd_b {B:Nat} {w:World} (hB:B≤w.heap.size) (b:ByteArray) (hb:b.size≤100) (La ba ca:Nat) (hA:1≤La∧La≤16) (gx gs:Nat) (s:Bool) (h l:Nat) (hx:Bk w gx 179 [.bool s,.int .u64 (h:Int),.int .u64 (l:Int)]) (hs:Bk w gs 22 [.slice (some ⟨ba,0,none⟩) La ca]):Calls Tryz.prog 158 #[.string b,.pointer (some ⟨gx,0,none⟩),.pointer (some ⟨gs,0,none⟩)] w fun e w'=>∃v,e=.returned v∧SlII B w' v∧Below w.heap.size w w':=
 (shd_w b hb La ba ca hA gx gs s h l w hx hs).mono fun e w' ⟨v,he,hv,hb⟩=>⟨v,he,hv.base hB,hb⟩
theorem dshift_w (La ba ca : Nat) (hA : 1 ≤ La ∧ La ≤ 16) (za : List Int) (n : Int) (hn : -32 ≤ n ∧ n ≤ 31) (rd : Nat) (hr : rd ≤ 255) (w : World) (ya : Byt w (some ⟨ba, 0, none⟩) La za) (ht : Lib.TabIs Tryz.prog w "internal/strconv.uint64pow10" .u64 Lib.pow10Tab) (h2 : 2 < w.heap.size) : Calls Tryz.prog 99 #[.slice (some ⟨ba, 0, none⟩) La ca, .int .i64 n, .int .i64 (rd : Int)] w fun e w' => ∃ v, e = .returned v ∧ SlII w.heap.size w' v ∧ Below w.heap.size w w' := by
 have YA:=lh ya
 have HA:=lh hA
 have HN:=lh hn
 have HR:=lh hr
 have n1:¬ n < -32:=by omega
 have n2:¬(31:Int)<n:=by omega
 clear ya hA hn hr
 go_enter Tryz.func99,Tryz.ntmps99
 go_upto_region 1 with fail
 have N0:=Bk.new w [.slice (some ⟨ba,0,none⟩) La ca] 22
 have LB:=((Below.refl w.heap.size w).alloc (by simp) (.cells #[.slice (some ⟨ba,0,none⟩) La ca] 22))
 have M0:=N0
 have hsz:(w.alloc (.cells #[.slice (some ⟨ba,0,none⟩) La ca] 22)).heap.size=w.heap.size+1:=by simp
 obtain ⟨w1,hW⟩:∃V,w.alloc (.cells #[.slice (some ⟨ba,0,none⟩) La ca] 22)=V:=⟨_,rfl⟩
 rw [hW] at LB hsz M0
 first | rw [hW] | skip
 obtain ⟨g,hg⟩:∃k,w.heap.size=k:=⟨_,rfl⟩
 rw [hg] at LB hsz M0
 try simp only [hg]
 clear hW N0
 have H:=lh (show Bk w1 (g) 22 [.slice (some ⟨ba,0,none⟩) La ca]∧Below g w w1 from ⟨M0,LB⟩)
 clear LB M0
 have HG:=lh hg
 clear hg
 have HT:=lh ht
 have H2:=lh h2
 clear ht h2
 have c0_0:=(H.out.1).cell (c:=0) rfl
 have f0:=(H.out.1).free
 refine wp_region_lit ?_
 refine lsv (v:=.slice (some ⟨ba,0,none⟩) La ca) (w':=w1) ?_
 refine lsv (w':=w1) ?_
 clear c0_0 f0
 refine lsc (dsize_c HA.out _) ?_
 intro wq hw
 obtain rfl:=hw.out
 clear hw
 iterate 3 refine lsv (w':=w1) ?_
 refine lsv (v:=.bool false) (w':=w1) ?_
 iterate 3 refine lsv (w':=w1) ?_
 refine lsv (v:=.bool false) (w':=w1) ?_
 refine lsv (w':=w1) ?_
 clear n1 n2
 refine wpList_nil ?_
 have c0_0:=(H.out.1).cell (c:=0) rfl
 have f0:=(H.out.1).free
 go_upto_region 3 with fail
 refine wp_region_lit ?_
 refine lsv (v:=.slice (some ⟨ba,0,none⟩) La ca) (w':=w1) ?_
 clear c0_0 f0
 refine lsce (read_w La ba ca HA.out za _ (YA.out.keep (HG.out▸H.out.2))) ?_
 intro vv y2 Z
 obtain ⟨⟨s,h,l,ok,rfl,q1,q2,-⟩,hb⟩:=Z.out
 replace H:=lh (show Bk y2 (g) 22 [.slice (some ⟨ba,0,none⟩) La ca]∧Below g w y2 from ⟨(H.out.1).keep hb,(H.out.2).trans (hb.mono (by have h9:=(H.out.2).size;(try have h8:=HG.out);omega))⟩)
 clear Z hb
 have QQ:=lh (⟨q1,q2⟩:h<18446744073709551616∧l<18446744073709551616)
 clear q1 q2
 iterate 3 refine lsv (w':=y2) ?_
 refine lsv (v:=.pointer (some ⟨y2.heap.size,0,none⟩)) (w':=y2.alloc (.cells #[.bool false,.int .u64 (0:Int),.int .u64 (0:Int)] 179)) ?_
 have al:=(Below.refl y2.heap.size y2).alloc (Nat.le_refl _) (.cells #[.bool false,.int .u64 (0:Int),.int .u64 (0:Int)] 179)
 have on_gx:=(H.out.1).lt
 have lo_gx:=Nat.le_trans (Nat.le_of_eq HG.out.symm) (H.out.2).size
 have H2:=lh (show Bk (y2.alloc (.cells #[.bool false,.int .u64 (0:Int),.int .u64 (0:Int)] 179)) (g) 22 [.slice (some ⟨ba,0,none⟩) La ca]∧Bk (y2.alloc (.cells #[.bool false,.int .u64 (0:Int),.int .u64 (0:Int)] 179)) (y2.heap.size) 179 [.bool false,.int .u64 (0:Int),.int .u64 (0:Int)]∧Below g w (y2.alloc (.cells #[.bool false,.int .u64 (0:Int),.int .u64 (0:Int)] 179)) from ⟨(H.out.1).keep al,Bk.new y2 [.bool false,.int .u64 (0:Int),.int .u64 (0:Int)] 179,(H.out.2).trans (al.mono (by have h9:=(H.out.2).size;(try have h8:=HG.out);omega))⟩)
 obtain ⟨w2,hW⟩:∃V,y2.alloc (.cells #[.bool false,.int .u64 (0:Int),.int .u64 (0:Int)] 179)=V:=⟨_,rfl⟩
 rw [hW] at H2
 first | rw [hW] | simp only [hW]
 obtain ⟨gx,hn⟩:∃k,y2.heap.size=k:=⟨_,rfl⟩
 rw [hn] at H2 on_gx lo_gx
 try simp only [hn]
 clear hW hn al H
 have H:=H2
 clear H2
 refine lss (cs':=[.bool s,.int .u64 (h:Int),.int .u64 (l:Int)]) (H.out.2.1) rfl (by simp [Value.oneCell']) (by kernel_rfl) ?_
 have H2:=lh (show Bk (w2.setRow (gx) ([.bool s,.int .u64 (h:Int),.int .u64 (l:Int)]:List Value).toArray) (g) 22 [.slice (some ⟨ba,0,none⟩) La ca]∧Bk (w2.setRow (gx) ([.bool s,.int .u64 (h:Int),.int .u64 (l:Int)]:List Value).toArray) (gx) 179 [.bool s,.int .u64 (h:Int),.int .u64 (l:Int)]∧Below g w (w2.setRow (gx) ([.bool s,.int .u64 (h:Int),.int .u64 (l:Int)]:List Value).toArray) from ⟨(H.out.1).rowOth (by omega) _,(H.out.2.1).rowSet [.bool s,.int .u64 (h:Int),.int .u64 (l:Int)],below_row (H.out.2.2) (by omega) _⟩)
 obtain ⟨w3,hW⟩:∃V,w2.setRow (gx) ([.bool s,.int .u64 (h:Int),.int .u64 (l:Int)]:List Value).toArray=V:=⟨_,rfl⟩
 rw [hW] at H2
 first | rw [hW] | (simp only [hW])
 clear hW H
 have H:=H2
 clear H2
 refine lsv (w':=w3) ?_
 refine wpList_nil ?_
 cases ok
 ·go_upto_region 4 with fail
  refine wp_region_lit ?_
  iterate 3 refine lsv (w':=w3) ?_
  first | refine lsg ?_ | refine lsv (w':=w3) ?_
  first | refine lsg ?_ | refine lsv (w':=w3) ?_
  iterate 2 refine lsv (w':=w3) ?_
  first | refine lsg ?_ | refine lsv (w':=w3) ?_
  first | refine lsg ?_ | refine lsv (w':=w3) ?_
  refine lsv (w':=w3) ?_
  refine wpList_nil ?_
  go_wp2
  go_ret3
  exact ⟨_,rfl,⟨_,_,_,rfl,SlV.nil⟩,HG.out▸H.out.2.2⟩
 ·have r0:¬(rd:Int)<0:=by omega
  by_cases h9:9<rd
  ·have r1:(9:Int)<(rd:Int):=by omega
   clear h9
   go_wp2
   go_ret3
   exact ⟨_,rfl,⟨_,_,_,rfl,SlV.nil⟩,HG.out▸H.out.2.2⟩
  ·have r1:¬(9:Int)<(rd:Int):=by omega
   have R9:=lh (show rd≤9 by omega)
   clear h9
   by_cases hn:0≤n
   ·obtain ⟨m,rfl⟩:∃m:Nat,n=(m:Int):=⟨n.toNat,by omega⟩
    have HM:=lh (show m≤31 by have:=HN.out;omega)
    go_upto_region 8 with fail
    clear r0 r1 hn
    refine wp_region_lit ?_
    refine lsl (H.out.2.1) ?_
    refine lsce (ndigits_w s h l QQ.out.1 QQ.out.2 _ (tab_keep HT.out (HG.out▸H.out.2.2) H2.out) (by have h9:=(H.out.2.2).size;have h8:=HG.out;have:=H2.out;omega)) ?_
    intro vv y9 Z
    obtain ⟨⟨ds,rfl,hds⟩,hb⟩:=Z.out
    replace H:=lh (show Bk y9 (g) 22 [.slice (some ⟨ba,0,none⟩) La ca]∧Bk y9 (gx) 179 [.bool s,.int .u64 (h:Int),.int .u64 (l:Int)]∧Below g w y9 from ⟨(H.out.1).keep hb,(H.out.2.1).keep hb,(H.out.2.2).trans (hb.mono (by have h9:=(H.out.2.2).size;(try have h8:=HG.out);omega))⟩)
    clear Z hb
    have DS:=lh hds
    clear hds
    refine lsv (w':=y9) ?_
    refine wpList_nil ?_
    go_wp2
    go_loopw [12,13] (fun x y W=>∃ (b:ByteArray) (j:Nat),j≤m∧x=.string b∧y=.int .i64 (j:Int)∧1≤b.size∧b.size≤60+j∧y9=W) (fun _ y _=>m - (intOf y).toNat)
    case atStart=>exact ⟨ds,0,Nat.zero_le _,rfl,rfl,DS.out.1,by have:=DS.out;omega,rfl⟩
    case round=>
     clear DS
     obtain ⟨b,j,hj,rfl,rfl,hb1,hb2,rfl⟩:=hrel
     have HB:=lh (show 1≤b.size∧b.size≤60+j from ⟨hb1,hb2⟩)
     have HJ:=lh hj
     clear hb1 hb2
     obtain ⟨z,hz⟩:∃z,(b.toList == [48])=z:=⟨_,rfl⟩
     by_cases hlt:j<m
     ·have e1:(j:Int)<(m:Int):=by omega
      clear hj
      cases z
      ·have sc:b.size+1≤9223372036854775807:=by have:=HB.out;have:=HM.out;have:=HJ.out;omega
       have e3:IntKind.i64.wrap ((j:Int)+1)=(j:Int)+1:=wrap_i64_id (by omega) (by have:=HM.out;omega)
       go_wp2
       go_roundw
       case rel=>exact ⟨_,j+1,hlt,rfl,rfl,by have:=HB.out;simp only [ByteArray.size_append];omega,by have:=HB.out;rw [ByteArray.size_append];show b.size+1≤_;omega,trivial⟩
       case measure=>simp [intOf];omega
      ·clear hlt
       go_upto_region 13 with fail
       refine wp_region_lit ?_
       iterate 2 refine lsv (w':=y9) ?_
       refine lsce (shd_b (B:=g) (Nat.le_trans (Nat.le_of_eq HG.out.symm) (H.out.2.2).size) b (by have:=HB.out;have:=HM.out;have:=HJ.out;omega) La ba ca HA.out gx g s h l H.out.2.1 H.out.1) ?_
       intro vv y10 Z
       obtain ⟨⟨v8,c8,k8,rfl,hv8⟩,hb⟩:=Z.out
       replace H:=lh (show Bk y10 (g) 22 [.slice (some ⟨ba,0,none⟩) La ca]∧Bk y10 (gx) 179 [.bool s,.int .u64 (h:Int),.int .u64 (l:Int)]∧Below g w y10 from ⟨(H.out.1).keep hb,(H.out.2.1).keep hb,(H.out.2.2).trans (hb.mono (by have h9:=(H.out.2.2).size;(try have h8:=HG.out);omega))⟩)
       clear Z hb
       have V8:=lh hv8
       clear hv8
       iterate 6 refine lsv (w':=y10) ?_
       refine wpList_nil ?_
       go_wp2
       go_ret3
       exact ⟨_,rfl,⟨_,_,_,rfl,HG.out▸V8.out⟩,HG.out▸H.out.2.2⟩
     ·have e1:¬(j:Int)<(m:Int):=by omega
      clear hlt hj
      go_upto_region 13 with fail
      refine wp_region_lit ?_
      iterate 2 refine lsv (w':=y9) ?_
      refine lsce (shd_b (B:=g) (Nat.le_trans (Nat.le_of_eq HG.out.symm) (H.out.2.2).size) b (by have:=HB.out;have:=HM.out;have:=HJ.out;omega) La ba ca HA.out gx g s h l H.out.2.1 H.out.1) ?_
      intro vv y10 Z
      obtain ⟨⟨v8,c8,k8,rfl,hv8⟩,hb⟩:=Z.out
      replace H:=lh (show Bk y10 (g) 22 [.slice (some ⟨ba,0,none⟩) La ca]∧Bk y10 (gx) 179 [.bool s,.int .u64 (h:Int),.int .u64 (l:Int)]∧Below g w y10 from ⟨(H.out.1).keep hb,(H.out.2.1).keep hb,(H.out.2.2).trans (hb.mono (by have h9:=(H.out.2.2).size;(try have h8:=HG.out);omega))⟩)
      clear Z hb
      have V8:=lh hv8
      clear hv8
      iterate 6 refine lsv (w':=y10) ?_
      refine wpList_nil ?_
      go_wp2
      go_ret3
      exact ⟨_,rfl,⟨_,_,_,rfl,HG.out▸V8.out⟩,HG.out▸H.out.2.2⟩
   ·obtain ⟨m,hm⟩:∃m:Nat,-n - 1=(m:Int):=⟨(-n - 1).toNat,by omega⟩
    have HM:=lh (show m≤31 by have:=HN.out;omega)
    have n3:IntKind.i64.wrap (-n) = -n:=wrap_i64_id (by have:=HN.out;omega) (by have:=HN.out;omega)
    have n4:IntKind.i64.wrap (-n - 1)=(m:Int):=by rw [hm];exact wrap_i64_id (by omega) (by have:=HM.out;omega)
    clear hm
    go_upto_region 14 with fail
    clear r0 r1 hn
    refine wp_region_lit ?_
    iterate 2 refine lsv (w':=w3) ?_
    refine lsv (v:=.int .i64 (m:Int)) (w':=w3) ?_
    refine lsv (w':=w3) ?_
    refine wpList_nil ?_
    clear n3 n4
    go_wp2
    go_loopw [67] (fun x W=>∃ (j:Nat) (s:Bool) (h l:Nat),j≤m∧x=.int .i64 (j:Int)∧h<18446744073709551616∧l<18446744073709551616∧(Bk W (g) 22 [.slice (some ⟨ba,0,none⟩) La ca]∧Bk W (gx) 179 [.bool s,.int .u64 (h:Int),.int .u64 (l:Int)]∧Below g w W)) (fun x _=>m - (intOf x).toNat)
    case atStart=>exact ⟨0,s,h,l,Nat.zero_le _,rfl,QQ.out.1,QQ.out.2,H.out⟩
    case round=>
     clear H QQ
     obtain ⟨j,s,h,l,hj,rfl,hh,hl,hC⟩:=hrel
     rename World=>W
     have H:=lh hC
     have QQ:=lh (⟨hh,hl⟩:h<18446744073709551616∧l<18446744073709551616)
     clear hC hh hl
     by_cases hlt:j<m
     ·have e1:(j:Int)<(m:Int):=by omega
      have e3:IntKind.i64.wrap ((j:Int)+1)=(j:Int)+1:=wrap_i64_id (by omega) (by have:=HM.out;omega)
      have HJ:=lh hlt
      clear hj hlt
      go_upto_region 16 with fail
      refine wp_region_lit ?_
      refine lsl (H.out.2.1) ?_
      refine lsce (nover_c s h l 10 QQ.out.1 QQ.out.2 (by omega) (by omega) _) ?_
      intro vv v9 Z
      obtain ⟨⟨s1,h1,l1,rr,rfl,-,q6,q7,q8⟩,hb⟩:=Z.out
      replace H:=lh (show Bk v9 (g) 22 [.slice (some ⟨ba,0,none⟩) La ca]∧Bk v9 (gx) 179 [.bool s,.int .u64 (h:Int),.int .u64 (l:Int)]∧Below g w v9 from ⟨(H.out.1).keep hb,(H.out.2.1).keep hb,(H.out.2.2).trans (hb.mono (by have h9:=(H.out.2.2).size;(try have h8:=HG.out);omega))⟩)
      clear Z hb
      have Q3:=lh (⟨q6,q7,q8⟩:h1<18446744073709551616∧l1<18446744073709551616∧rr<18446744073709551616)
      clear q6 q7 q8 QQ
      iterate 3 refine lsv (w':=v9) ?_
      refine lss (cs':=[.bool s1,.int .u64 (h1:Int),.int .u64 (l1:Int)]) (H.out.2.1) rfl (by simp [Value.oneCell']) (by kernel_rfl) ?_
      have H2:=lh (show Bk (v9.setRow (gx) ([.bool s1,.int .u64 (h1:Int),.int .u64 (l1:Int)]:List Value).toArray) (g) 22 [.slice (some ⟨ba,0,none⟩) La ca]∧Bk (v9.setRow (gx) ([.bool s1,.int .u64 (h1:Int),.int .u64 (l1:Int)]:List Value).toArray) (gx) 179 [.bool s1,.int .u64 (h1:Int),.int .u64 (l1:Int)]∧Below g w (v9.setRow (gx) ([.bool s1,.int .u64 (h1:Int),.int .u64 (l1:Int)]:List Value).toArray) from ⟨(H.out.1).rowOth (by omega) _,(H.out.2.1).rowSet [.bool s1,.int .u64 (h1:Int),.int .u64 (l1:Int)],below_row (H.out.2.2) (by omega) _⟩)
      obtain ⟨w4,hW⟩:∃V,v9.setRow (gx) ([.bool s1,.int .u64 (h1:Int),.int .u64 (l1:Int)]:List Value).toArray=V:=⟨_,rfl⟩
      rw [hW] at H2
      first | rw [hW] | (simp only [hW])
      clear hW H
      have H:=H2
      clear H2
      refine wpList_nil ?_
      go_wp2
      go_roundw
      case rel=>exact ⟨j+1,s1,h1,l1,HJ.out,rfl,Q3.out.1,Q3.out.2.1,H.out⟩
      case measure=>have:=HJ.out;simp [intOf];omega
     ·have e1:¬(j:Int)<(m:Int):=by omega
      clear hlt hj
      go_upto_region 18 with fail
      refine wp_region_lit ?_
      refine lsl (H.out.2.1) ?_
      refine lsce (nover_c s h l 10 QQ.out.1 QQ.out.2 (by omega) (by omega) _) ?_
      intro vv v9 Z
      obtain ⟨⟨s1,h1,l1,rr,rfl,-,q6,q7,q8⟩,hb⟩:=Z.out
      replace H:=lh (show Bk v9 (g) 22 [.slice (some ⟨ba,0,none⟩) La ca]∧Bk v9 (gx) 179 [.bool s,.int .u64 (h:Int),.int .u64 (l:Int)]∧Below g w v9 from ⟨(H.out.1).keep hb,(H.out.2.1).keep hb,(H.out.2.2).trans (hb.mono (by have h9:=(H.out.2.2).size;(try have h8:=HG.out);omega))⟩)
      clear Z hb
      have Q3:=lh (⟨q6,q7,q8⟩:h1<18446744073709551616∧l1<18446744073709551616∧rr<18446744073709551616)
      clear q6 q7 q8 QQ
      iterate 3 refine lsv (w':=v9) ?_
      refine lss (cs':=[.bool s1,.int .u64 (h1:Int),.int .u64 (l1:Int)]) (H.out.2.1) rfl (by simp [Value.oneCell']) (by kernel_rfl) ?_
      have H2:=lh (show Bk (v9.setRow (gx) ([.bool s1,.int .u64 (h1:Int),.int .u64 (l1:Int)]:List Value).toArray) (g) 22 [.slice (some ⟨ba,0,none⟩) La ca]∧Bk (v9.setRow (gx) ([.bool s1,.int .u64 (h1:Int),.int .u64 (l1:Int)]:List Value).toArray) (gx) 179 [.bool s1,.int .u64 (h1:Int),.int .u64 (l1:Int)]∧Below g w (v9.setRow (gx) ([.bool s1,.int .u64 (h1:Int),.int .u64 (l1:Int)]:List Value).toArray) from ⟨(H.out.1).rowOth (by omega) _,(H.out.2.1).rowSet [.bool s1,.int .u64 (h1:Int),.int .u64 (l1:Int)],below_row (H.out.2.2) (by omega) _⟩)
      obtain ⟨w4,hW⟩:∃V,v9.setRow (gx) ([.bool s1,.int .u64 (h1:Int),.int .u64 (l1:Int)]:List Value).toArray=V:=⟨_,rfl⟩
      rw [hW] at H2
      first | rw [hW] | (simp only [hW])
      clear hW H
      have H:=H2
      clear H2
      refine lsv (w':=w4) ?_
      refine wpList_nil ?_
      obtain ⟨x1,hx1⟩:∃x,IntKind.i64.wrap (rr:Int)=x:=⟨_,rfl⟩
      obtain ⟨x2,hx2⟩:∃x,IntKind.i64.wrap (x1+(rd:Int))=x:=⟨_,rfl⟩
      by_cases h10:10≤x2
      ·go_upto_region 20 with fail
       clear hx1 hx2 h10
       refine wp_region_lit ?_
       refine lsl (H.out.2.1) ?_
       refine lsce (nplus_c s1 h1 l1 1 Q3.out.1 Q3.out.2.1 (by omega) _) ?_
       intro vv y11 Z
       obtain ⟨⟨s2,h2,l2,rfl,q6,q7,-⟩,hb⟩:=Z.out
       replace H:=lh (show Bk y11 (g) 22 [.slice (some ⟨ba,0,none⟩) La ca]∧Bk y11 (gx) 179 [.bool s1,.int .u64 (h1:Int),.int .u64 (l1:Int)]∧Below g w y11 from ⟨(H.out.1).keep hb,(H.out.2.1).keep hb,(H.out.2.2).trans (hb.mono (by have h9:=(H.out.2.2).size;(try have h8:=HG.out);omega))⟩)
       clear Z hb
       have Q4:=lh (⟨q6,q7⟩:h2<18446744073709551616∧l2<18446744073709551616)
       clear q6 q7
       refine lss (cs':=[.bool s2,.int .u64 (h2:Int),.int .u64 (l2:Int)]) (H.out.2.1) rfl (by simp [Value.oneCell']) (by kernel_rfl) ?_
       have H2:=lh (show Bk (y11.setRow (gx) ([.bool s2,.int .u64 (h2:Int),.int .u64 (l2:Int)]:List Value).toArray) (g) 22 [.slice (some ⟨ba,0,none⟩) La ca]∧Bk (y11.setRow (gx) ([.bool s2,.int .u64 (h2:Int),.int .u64 (l2:Int)]:List Value).toArray) (gx) 179 [.bool s2,.int .u64 (h2:Int),.int .u64 (l2:Int)]∧Below g w (y11.setRow (gx) ([.bool s2,.int .u64 (h2:Int),.int .u64 (l2:Int)]:List Value).toArray) from ⟨(H.out.1).rowOth (by omega) _,(H.out.2.1).rowSet [.bool s2,.int .u64 (h2:Int),.int .u64 (l2:Int)],below_row (H.out.2.2) (by omega) _⟩)
       obtain ⟨w5,hW⟩:∃V,y11.setRow (gx) ([.bool s2,.int .u64 (h2:Int),.int .u64 (l2:Int)]:List Value).toArray=V:=⟨_,rfl⟩
       rw [hW] at H2
       first | rw [hW] | (simp only [hW])
       clear hW H
       have H:=H2
       clear H2
       refine wpList_nil ?_
       go_upto_region 21 with fail
       refine wp_region_lit ?_
       refine lsv (w':=w5) ?_
       refine lsl (H.out.2.1) ?_
       refine lsce (ndigits_w s2 h2 l2 Q4.out.1 Q4.out.2 _ (tab_keep HT.out (HG.out▸H.out.2.2) H2.out) (by have h9:=(H.out.2.2).size;have h8:=HG.out;have:=H2.out;omega)) ?_
       intro vv y19 Z
       obtain ⟨⟨ds,rfl,hds⟩,hb⟩:=Z.out
       replace H:=lh (show Bk y19 (g) 22 [.slice (some ⟨ba,0,none⟩) La ca]∧Bk y19 (gx) 179 [.bool s2,.int .u64 (h2:Int),.int .u64 (l2:Int)]∧Below g w y19 from ⟨(H.out.1).keep hb,(H.out.2.1).keep hb,(H.out.2.2).trans (hb.mono (by have h9:=(H.out.2.2).size;(try have h8:=HG.out);omega))⟩)
       clear Z hb
       have DS:=lh hds
       clear hds
       refine lsce (shd_b (B:=g) (Nat.le_trans (Nat.le_of_eq HG.out.symm) (H.out.2.2).size) ds (by have:=DS.out;omega) La ba ca HA.out gx g s2 h2 l2 H.out.2.1 H.out.1) ?_
       intro vv y20 Z
       obtain ⟨⟨v8,c8,k8,rfl,hv8⟩,hb⟩:=Z.out
       replace H:=lh (show Bk y20 (g) 22 [.slice (some ⟨ba,0,none⟩) La ca]∧Bk y20 (gx) 179 [.bool s2,.int .u64 (h2:Int),.int .u64 (l2:Int)]∧Below g w y20 from ⟨(H.out.1).keep hb,(H.out.2.1).keep hb,(H.out.2.2).trans (hb.mono (by have h9:=(H.out.2.2).size;(try have h8:=HG.out);omega))⟩)
       clear Z hb
       have V8:=lh hv8
       clear hv8
       iterate 6 refine lsv (w':=y20) ?_
       refine wpList_nil ?_
       go_wp2
       go_ret3
       exact ⟨_,rfl,⟨_,_,_,rfl,HG.out▸V8.out⟩,HG.out▸H.out.2.2⟩
      ·go_upto_region 21 with fail
       refine wp_region_lit ?_
       refine lsv (w':=w4) ?_
       refine lsl (H.out.2.1) ?_
       refine lsce (ndigits_w s1 h1 l1 Q3.out.1 Q3.out.2.1 _ (tab_keep HT.out (HG.out▸H.out.2.2) H2.out) (by have h9:=(H.out.2.2).size;have h8:=HG.out;have:=H2.out;omega)) ?_
       intro vv y19 Z
       obtain ⟨⟨ds,rfl,hds⟩,hb⟩:=Z.out
       replace H:=lh (show Bk y19 (g) 22 [.slice (some ⟨ba,0,none⟩) La ca]∧Bk y19 (gx) 179 [.bool s1,.int .u64 (h1:Int),.int .u64 (l1:Int)]∧Below g w y19 from ⟨(H.out.1).keep hb,(H.out.2.1).keep hb,(H.out.2.2).trans (hb.mono (by have h9:=(H.out.2.2).size;(try have h8:=HG.out);omega))⟩)
       clear Z hb
       have DS:=lh hds
       clear hds
       refine lsce (shd_b (B:=g) (Nat.le_trans (Nat.le_of_eq HG.out.symm) (H.out.2.2).size) ds (by have:=DS.out;omega) La ba ca HA.out gx g s1 h1 l1 H.out.2.1 H.out.1) ?_
       intro vv y20 Z
       obtain ⟨⟨v8,c8,k8,rfl,hv8⟩,hb⟩:=Z.out
       replace H:=lh (show Bk y20 (g) 22 [.slice (some ⟨ba,0,none⟩) La ca]∧Bk y20 (gx) 179 [.bool s1,.int .u64 (h1:Int),.int .u64 (l1:Int)]∧Below g w y20 from ⟨(H.out.1).keep hb,(H.out.2.1).keep hb,(H.out.2.2).trans (hb.mono (by have h9:=(H.out.2.2).size;(try have h8:=HG.out);omega))⟩)
       clear Z hb
       have V8:=lh hv8
       clear hv8
       iterate 6 refine lsv (w':=y20) ?_
       refine wpList_nil ?_
       go_wp2
       go_ret3
       exact ⟨_,rfl,⟨_,_,_,rfl,HG.out▸V8.out⟩,HG.out▸H.out.2.2⟩
end Go.Proofs.YtljajnaclpbecaaGreatDoor
namespace Go.Proofs.YtljajnaclpbecaaGreatDoor
set_option maxRecDepth 1000000
set_option maxHeartbeats 8000000
open Go.RowKit Go.Shelf
attribute [local go_sem] Oper.semAt_some
set_option linter.unusedVariables false
set_option linter.unusedSimpArgs false
def WC (w:World) (B o so sa n:Nat):Prop:=∃ (a:Int) (zs:List Int),Bk w o 5 (zs.map (Value.int .u8))∧Bk w so 22 [.slice (some ⟨o,0,none⟩) n n]∧Bk w sa 3 [.int .i64 a]∧(B≤o∧B≤sa∧o≠so∧o≠sa∧so≠sa)∧zs.length=n∧(∀z∈zs,0≤z∧z≤255)∧-1≤a∧a<2*(n:Int)
section
variable {w0 w w':World} {B o so sa n:Nat}
theorem WE.wc (h:WE w0 w o so sa n):WC w w0.heap.size o so sa n:=by
 obtain ⟨a,zs,h⟩:=h
 exact ⟨a,zs,h.ob,h.sb,h.ab,h.nn,h.l,h.r,h.a0⟩
theorem WC.we (h:WC w w0.heap.size o so sa n) (hb:Below w0.heap.size w0 w):WE w0 w o so sa n:=by
 obtain ⟨a,zs,h1,h2,h3,h4,h5,h6,h7⟩:=h
 exact ⟨a,zs,{ ob:=h1,sb:=h2,ab:=h3,b:=hb,nn:=h4,l:=h5,r:=h6,a0:=h7 }⟩
theorem WC.own {A W:World} {row:Option Nat} (h:WC A B o so sa n) (hg:A.grownBy W row) (hr:∀r,row=some r→∃o:Obj,A.heap[r]?=some o∧o.isCells=false):WC W B o so sa n:=by
 obtain ⟨a,zs,h1,h2,h3,h4⟩:=h
 exact ⟨a,zs,bk_kept h1 hg hr,bk_kept h2 hg hr,bk_kept h3 hg hr,h4⟩
theorem WC.sl (h:WC w B o so sa n) (hn:n≤16):SlV n B w (.slice (some ⟨o,0,none⟩) n n):=by
 obtain ⟨a,zs,h1,h2,h3,h4,h5,h6,h7⟩:=h
 exact ⟨n,zs,own_bk h1 h5 h6 h4.1 hn,Nat.le_refl _⟩
theorem WE.lt (h:WE w0 w o so sa n):w0.heap.size≤o∧w0.heap.size≤sa∧o<w.heap.size∧so<w.heap.size∧sa<w.heap.size:=by
 obtain ⟨a,zs,h⟩:=h
 exact ⟨h.nn.1,h.nn.2.1,h.ob.lt,h.sb.lt,h.ab.lt⟩
theorem WE.bel (h:WE w0 w o so sa n):Below w0.heap.size w0 w:=by
 obtain ⟨a,zs,h⟩:=h
 exact h.b
theorem WE.setNew (h:WE w0 w o so sa n) {p:Nat} (hp:w0.heap.size≤p∧p≠o∧p≠so∧p≠sa) (v:Value):WE w0 (w.setCell ⟨p,0,none⟩ v) o so sa n:=by
 obtain ⟨a,zs,h⟩:=h
 exact ⟨a,zs,{ h with ob:=h.ob.other _ hp.2.1,sb:=h.sb.other _ hp.2.2.1,ab:=h.ab.other _ hp.2.2.2,b:=h.b.setCell hp.1 v }⟩
theorem WE.drewN (h:WE w0 w o so sa n) (k:Nat):WE w0 (w.drewN k) o so sa n:=by
 obtain ⟨a,zs,h⟩:=h
 exact ⟨a,zs,{ h with ob:=h.ob.drewN k,sb:=h.sb.drewN k,ab:=h.ab.drewN k,b:=⟨h.b.os,h.b.tape,h.b.output,h.b.size,h.b.block⟩ }⟩
end
theorem byt_chk {w w':World} {b n:Nat} {zs:List Int} {L:List Nat} (h:Byt w (some ⟨b,0,none⟩) n zs) (hc:Ch w w' L) (hb:b<w.heap.size) (hL:b∉L):Byt w' (some ⟨b,0,none⟩) n zs:=by
 refine ⟨h.1,h.2.1,fun h0=>?_⟩
 obtain ⟨b',off,e,hk⟩:=h.2.2 h0
 injection e with e;injection e with e1 e2;subst e1 e2
 refine ⟨_,_,rfl,fun i hi=>?_⟩
 rw [← hk i hi]
 exact World.cell?_of_block (hc.block _ hb hL)
theorem byt_sz {w:World} {b n:Nat} {zs:List Int} (h:Byt w (some ⟨b,0,none⟩) n zs) (h0:0<n):b<w.heap.size:=World.block_lt_of_cell? w _ (byt_c h h0)
theorem offset_w (La ba ca Lb bb cb:Nat) (hA:1≤La∧La≤16) (hB:1≤Lb∧Lb≤16) (za zb:List Int) (w:World) (ya:Byt w (some ⟨ba,0,none⟩) La za) (yb:Byt w (some ⟨bb,0,none⟩) Lb zb):Calls Tryz.prog 90 #[.slice (some ⟨ba,0,none⟩) La ca,.slice (some ⟨bb,0,none⟩) Lb cb] w fun e w'=>∃v,e=.returned v∧SlV 16 w.heap.size w' v∧Below w.heap.size w w':=by
 have HS:=lh (⟨byt_sz ya (by omega),byt_sz yb (by omega)⟩:ba<w.heap.size∧bb<w.heap.size)
 have YA:=lh ya
 have YB:=lh yb
 have HA:=lh hA
 have HB:=lh hB
 clear ya yb hA hB
 refine (callsIn_wide (n:=5)).1 ?_
 refine callsIn_of_wp_marks Tryz.func90 rfl trivial ?_ rfl
 simp only [Tryz.ntmps90,List.size_toArray,List.length_cons,List.length_nil,Nat.reduceAdd,Nat.reduceSub,Array.replicate_succ,Array.replicate_zero,List.push_toArray,List.append_toArray,List.nil_append,List.cons_append]
 refine wpIn_wide.2 ?_
 go_upto_region 3 with (go_at_call 145;refine nz (inf_c (by first | exact HA.out | exact HB.out) _) ?_)
 obtain ⟨g,hg⟩:∃k,w.heap.size=k:=⟨_,rfl⟩
 have H:=lh (show Below g w w from hg▸Below.refl _ _)
 have HG:=lh hg
 clear hg
 refine wp_region_lit ?_
 iterate 2 refine lsv (w':=w) ?_
 refine lsce (writer_w La HA.out.1 HA.out.2 w) ?_
 intro vv y1 Z
 obtain ⟨o,so,sa,rfl,hR⟩:=Z.out
 have hb:=hR.bel
 replace H:=lh (show Below g w y1 from (H.out).trans (hb.mono (by have h9:=(H.out).size;(try have h8:=HG.out);omega)))
 clear Z hb
 have lts:=hR.lt
 replace H:=lh (show WE w y1 o so sa La∧Below g w y1 from ⟨hR,H.out⟩)
 have YAk:=YA.out.keep (HG.out▸H.out.2)
 clear hR
 replace H:=lh (show WE w y1 o so sa La∧Byt y1 (some ⟨ba,0,none⟩) La za∧Below g w y1 from ⟨H.out.1,YAk,H.out.2⟩)
 iterate 3 refine lsv (w':=y1) ?_
 refine lsv (v:=.pointer (some ⟨y1.heap.size,0,none⟩)) (w':=y1.alloc (.cells #[.nilFunc] 184)) ?_
 have al:=(Below.refl y1.heap.size y1).alloc (Nat.le_refl _) (.cells #[.nilFunc] 184)
 have lo_gp:=Nat.le_trans (Nat.le_of_eq HG.out.symm) (H.out.2.2).size
 have H2:=lh (show WE w (y1.alloc (.cells #[.nilFunc] 184)) o so sa La∧Byt (y1.alloc (.cells #[.nilFunc] 184)) (some ⟨ba,0,none⟩) La za∧Bk (y1.alloc (.cells #[.nilFunc] 184)) (y1.heap.size) 184 [.nilFunc]∧Below g w (y1.alloc (.cells #[.nilFunc] 184)) from ⟨(H.out.1).keep al,(H.out.2.1).keep al,Bk.new y1 [.nilFunc] 184,(H.out.2.2).trans (al.mono (by have h9:=(H.out.2.2).size;(try have h8:=HG.out);omega))⟩)
 obtain ⟨w1,hW⟩:∃V,y1.alloc (.cells #[.nilFunc] 184)=V:=⟨_,rfl⟩
 rw [hW] at H2
 first | rw [hW] | simp only [hW]
 obtain ⟨gp,hn⟩:∃k,y1.heap.size=k:=⟨_,rfl⟩
 rw [hn] at H2 lo_gp lts
 try simp only [hn]
 clear hW hn al H
 have H:=H2
 clear H2
 refine lsv (w':=w1) ?_
 refine lsk (w':=(w1.setCell ⟨gp,0,none⟩ (.func (.func 173) #[] #[.pointer (some ⟨sa,0,none⟩),.pointer (some ⟨so,0,none⟩)]))) (by have f:=(H.out.2.2.1).free;have c9:=(H.out.2.2.1).cell (c:=0) rfl;unfold execOp;go_simp;(try rfl)) ?_
 have H3:=lh (show WE w (w1.setCell ⟨gp,0,none⟩ (.func (.func 173) #[] #[.pointer (some ⟨sa,0,none⟩),.pointer (some ⟨so,0,none⟩)])) o so sa La∧Byt (w1.setCell ⟨gp,0,none⟩ (.func (.func 173) #[] #[.pointer (some ⟨sa,0,none⟩),.pointer (some ⟨so,0,none⟩)])) (some ⟨ba,0,none⟩) La za∧Bk (w1.setCell ⟨gp,0,none⟩ (.func (.func 173) #[] #[.pointer (some ⟨sa,0,none⟩),.pointer (some ⟨so,0,none⟩)])) (gp) 184 [.func (.func 173) #[] #[.pointer (some ⟨sa,0,none⟩),.pointer (some ⟨so,0,none⟩)]]∧Below g w (w1.setCell ⟨gp,0,none⟩ (.func (.func 173) #[] #[.pointer (some ⟨sa,0,none⟩),.pointer (some ⟨so,0,none⟩)])) from ⟨(H.out.1).setNew (by have:=HG.out;omega) _,byt_chk (H.out.2.1) ((Ch.refl _ [gp]).setCell (p:=⟨gp,0,none⟩) (by simp) _) (by have:=HS.out;have:=HG.out;have:=H.out.2.2.2.size;omega) (by have:=HS.out;have:=HG.out;simp;omega),(H.out.2.2.1).set_ 0 _,(H.out.2.2.2).setCell (by show _≤gp;omega) _⟩)
 obtain ⟨w2,hW⟩:∃V,(w1.setCell ⟨gp,0,none⟩ (.func (.func 173) #[] #[.pointer (some ⟨sa,0,none⟩),.pointer (some ⟨so,0,none⟩)]))=V:=⟨_,rfl⟩
 rw [hW] at H3
 first | rw [hW] | (simp only [hW])
 clear hW H
 have H:=H3
 clear H3
 refine wpList_nil ?_
 obtain ⟨m,hm⟩:∃m,La - 1=m:=⟨_,rfl⟩
 have em:IntKind.i64.wrap ((La:Int) - 1)=(m:Int):=by rw [wrap_i64_id (by have:=HA.out;omega) (by have:=HA.out;omega)];have:=HA.out;omega
 have em2:(m:Int)<(La:Int):=by have:=HA.out;omega
 have hmL:m<La:=by have:=HA.out;omega
 obtain ⟨z,hz⟩:∃z,za.getD m 0=z:=⟨_,rfl⟩
 have zr:0≤z∧z≤255:=hz▸YA.out.range m
 have a1:bits .and .u8 z 15=z % 16:=by
  have:=and15 z.toNat (by omega)
  rwa [Int.toNat_of_nonneg zr.1] at this
 have ZR:=lh zr
 have LT:=lh lts
 clear zr hm lts
 go_upto_region 4 with fail
 refine wp_region_held_drew (S:=fun W=>WE w W o so sa La∧Byt W (some ⟨ba,0,none⟩) La za∧Bk W (gp) 184 [.func (.func 173) #[] #[.pointer (some ⟨sa,0,none⟩),.pointer (some ⟨so,0,none⟩)]]∧Below g w W) (by kernel_rfl) ⟨(H.out.1).drewN 1,(H.out.2.1).drewN 1,(H.out.2.2.1).drewN 1,dBelow' (H.out.2.2.2) 1⟩ (fun hHeld=>?_)
 replace H:=lh hHeld
 obtain ⟨y2,hv⟩:∃V,w2.drew=V:=⟨_,rfl⟩
 rw [hv] at H hHeld ⊢
 clear hv
 refine tki 0 (v:=.func (.func 173) #[] #[.pointer (some ⟨sa,0,none⟩),.pointer (some ⟨so,0,none⟩)]) ?_ (y:=by (intro W hSw;have c1:=(hSw.2.2.1).cell (c:=0) rfl;go_simp;(try with_reducible rfl))) (hQ:=by exact fun _ _ _ h=>exqM (fun w=>by simp [results,Act.put,Tryz.results90,Array.getElem?_setIfInBounds]) h)
 refine tki 1 ?_ (hQ:=by exact fun _ _ _ h=>exqM (fun w=>by simp [results,Act.put,Tryz.results90,Array.getElem?_setIfInBounds]) h)
 refine tki 2 ?_ (hQ:=by exact fun _ _ _ h=>exqM (fun w=>by simp [results,Act.put,Tryz.results90,Array.getElem?_setIfInBounds]) h)
 refine tki 3 ?_ (hQ:=by exact fun _ _ _ h=>exqM (fun w=>by simp [results,Act.put,Tryz.results90,Array.getElem?_setIfInBounds]) h)
 refine tki 4 (v:=.int .i64 (m:Int)) ?_ (hQ:=by exact fun _ _ _ h=>exqM (fun w=>by simp [results,Act.put,Tryz.results90,Array.getElem?_setIfInBounds]) h)
 refine tki 5 (v:=.pointer (some ⟨ba,m,none⟩)) ?_ (hQ:=by exact fun _ _ _ h=>exqM (fun w=>by simp [results,Act.put,Tryz.results90,Array.getElem?_setIfInBounds]) h)
 refine tki 6 (v:=.int .u8 z) ?_ (y:=by (intro W hSw;have c1:=byt_c (hSw.2.1) hmL;rw [hz] at c1;go_simp;(try with_reducible rfl))) (hQ:=by exact fun _ _ _ h=>exqM (fun w=>by simp [results,Act.put,Tryz.results90,Array.getElem?_setIfInBounds]) h)
 refine tki 7 (v:=.int .u8 (z % 16)) ?_ (hQ:=by exact fun _ _ _ h=>exqM (fun w=>by simp [results,Act.put,Tryz.results90,Array.getElem?_setIfInBounds]) h)
 clear em em2 a1 hz hmL
 refine tkce (R:=fun V W=>(V=.tuple #[])∧(WE w W o so sa La∧Byt W (some ⟨ba,0,none⟩) La za∧Bk W (gp) 184 [.func (.func 173) #[] #[.pointer (some ⟨sa,0,none⟩),.pointer (some ⟨so,0,none⟩)]]∧Below g w W)) ((wput_d (d:=z % 16) (by have:=ZR.out;omega) HA.out.2 (H.out.1)).mono fun e w' ⟨he,hE,hko,hch⟩=>⟨_,he,rfl,⟨hE,byt_chk (H.out.2.1) hch (by have:=HS.out;have:=HG.out;have:=(H.out.2.2.2).size;omega) (by have:=HS.out;have:=HG.out;have:=LT.out;simp;omega),(H.out.2.2.1).ch hch (by have:=LT.out;simp;omega),below_ch (H.out.2.2.2) hch (by have:=LT.out;have:=HG.out;simp;omega) (Nat.le_trans (Nat.le_of_eq HG.out.symm) (H.out.2.2.2).size)⟩⟩) (fun _ _ h=>h.2) ?_
 clear H hHeld
 intro vv y3 Z hHeld
 obtain ⟨rfl,hC⟩:=Z.out
 have H:=lh hC
 clear Z hC
 refine wpAnyH_done (by with_unfolding_all rfl) ?_ _
 clear hHeld
 go_wp2_with (go_at_call 147;refine (digits_c _ _ _ _).mono ?_;rintro e w1 ⟨rfl,rfl⟩)
 have E8:Bk (y3.alloc (.cells #[.slice (some ⟨bb,0,none⟩) Lb cb] 22)) y3.heap.size 22 [.slice (some ⟨bb,0,none⟩) Lb cb]:=Bk.new y3 [.slice (some ⟨bb,0,none⟩) Lb cb] 22
 have kp:=(Below.refl _ _).alloc (Nat.le_refl y3.heap.size) (.cells #[.slice (some ⟨bb,0,none⟩) Lb cb] 22)
 have H8:=lh (show WE w (y3.alloc (.cells #[.slice (some ⟨bb,0,none⟩) Lb cb] 22)) o so sa La∧Bk (y3.alloc (.cells #[.slice (some ⟨bb,0,none⟩) Lb cb] 22)) gp 184 [.func (.func 173) #[] #[.pointer (some ⟨sa,0,none⟩),.pointer (some ⟨so,0,none⟩)]]∧Below g w (y3.alloc (.cells #[.slice (some ⟨bb,0,none⟩) Lb cb] 22)) from ⟨H.out.1.keep kp,H.out.2.2.1.keep kp,H.out.2.2.2.trans (kp.mono (by have h9:=H.out.2.2.2.size;have h8:=HG.out;omega))⟩)
 have l8:=E8.lt
 have lp:=H.out.2.2.1.lt
 have lo:=H.out.1.lt
 obtain ⟨db,hdb⟩:∃m,y3.heap.size=m:=⟨_,rfl⟩
 rw [hdb] at E8 l8 lp lo
 simp only [hdb]
 obtain ⟨W0,hW⟩:∃V,y3.alloc (.cells #[.slice (some ⟨bb,0,none⟩) Lb cb] 22)=V:=⟨_,rfl⟩
 rw [hW] at E8 H8 l8
 rw [hW]
 clear hW kp H hdb
 have Y0:=YB.out.keep (HG.out▸H8.out.2.2)
 have hbB:bb<g:=by have:=HS.out;have:=HG.out;omega
 have hgo:g≤o∧g≤sa:=by have:=LT.out;have:=HG.out;omega
 have gle:g≤gp:=by have:=LT.out;omega
 refine (wpIn_wide (n:=5)).1 ?_
 refine wpIn_rangeFunc_ownF rfl (by omega) (gf:=174) (lb:=#[.pointer (some ⟨db,0,none⟩)]) rfl trivial (enters_of Tryz.func174 (by kernel_rfl) rfl)
  (digits_stops (5 - 1) (by omega) Lb bb cb db zb W0 Y0 HB.out.1 HB.out.2 (by have:=H8.out.2.2.size;omega) (by omega) (E8.cell (c:=0) rfl)) Kp2.trans (fun W l o o' h1 h2 h3 h4=>Kp2.put_ (by have:=H8.out.2.2.size;omega) (by omega) W l o o' h1 h2 h3 h4) (Below.refl _ _) (fun _=>rfl)
  (fun pre W=>(WC W g o so sa La∧Bk W gp 184 [.func (.func 173) #[] #[.pointer (some ⟨sa,0,none⟩),.pointer (some ⟨so,0,none⟩)]]∧db<W.heap.size)∧Below g w W)
  (fun c pre W=>(False∧Bk W gp 184 [.func (.func 173) #[] #[.pointer (some ⟨sa,0,none⟩),.pointer (some ⟨so,0,none⟩)]])∧Below g w W)
  (OwnFrom.and (Own.from (fun s A B' row hs hg hr=>⟨hs.1.own hg hr,bk_kept hs.2.1 hg hr,Nat.lt_of_lt_of_le hs.2.2 hg.size⟩) _) (ownFrom_below (by have:=HG.out;omega) (by have:=H8.out.2.2.size;have:=HG.out;omega)))
  (fun c=>OwnFrom.and (Own.from (fun s A B' row hs hg hr=>⟨hs.1,bk_kept hs.2 hg hr⟩) _) (ownFrom_below (by have:=HG.out;omega) (by have:=H8.out.2.2.size;have:=HG.out;omega)))
  ⟨⟨HG.out▸H8.out.1.wc,H8.out.2.1,l8⟩,H8.out.2.2⟩
  ?a1 ?assign ?body ?done ?stop
 case assign=>
  intro l x W K hK
  gi_wp2
  exact hK
 case body=>
  rintro l pre ⟨d,hd⟩ W ⟨⟨hC,hP,hdb⟩,hB⟩ hlen
  have c1:=hP.cell (c:=0) rfl
  have PE:=lh (wput_d (w0:=w) (w:=W) (d:=d) (o:=o) (so:=so) (sa:=sa) (by omega) HA.out.2 ((HG.out.symm▸hC:WC W w.heap.size o so sa La).we (HG.out.symm▸hB)))
  have HP:=lh hP
  have BB:=lh hB
  clear hC hP hB hlen
  gi_wp2_with (refine ⟨trivial,?_⟩;gi_at_call 173;refine (CallsIn.inRound l (callsIn_wide.2 PE.out)).mono ?_;rintro e wx ⟨rfl,hE,hko,hch⟩)
  have lW:=BB.out.size
  exact ⟨hko,⟨hch.block _ (by have:=HG.out;omega) (by simp;omega),hch.block _ hdb (by simp;omega)⟩,⟨HG.out▸hE.wc,HP.out.ch hch (by have:=LT.out;simp;omega),Nat.lt_of_lt_of_le hdb hch.size⟩,below_ch BB.out hch (by simp;omega) (by have:=HG.out;omega)⟩
 case done=>
  rintro D ys W hD hys ⟨⟨hC,hP,-⟩,hB⟩ hK
  go_wp2
  refine ⟨by simp,.inl ⟨_,_,rfl,run_takeDeferred hK,?_⟩⟩
  refine ⟨_,results_tmp rfl _ _ _,_,rfl,HG.out▸((hC.own (grownBy_putObj' _ D (.deferred none)) (fun r e=>by cases e;exact ⟨_,hK,rfl⟩)).sl HA.out.2).mono HA.out.2,?_⟩
  rw [HG.out]
  exact hB.trans (belowK_b (w:=w) (by have:=HG.out;omega) W D _ _ (by have:=HG.out;omega) hK rfl rfl)
 case stop=>
  rintro D c pre W hD hc ⟨⟨hF,-⟩,-⟩ hK
  exact hF.elim
end Go.Proofs.YtljajnaclpbecaaGreatDoor
namespace Go.Proofs.YtljajnaclpbecaaGreatDoor
open Go.RowKit
set_option maxRecDepth 1000000
set_option maxHeartbeats 8000000
set_option linter.unusedVariables false
set_option linter.unusedSimpArgs false
theorem pack_w (Lb bb cb n:Nat) (hB:1≤Lb∧Lb≤16) (hn:1≤n∧n≤16) (zb:List Int) (w:World) (yb:Byt w (some ⟨bb,0,none⟩) Lb zb):Calls Tryz.prog 87 #[.slice (some ⟨bb,0,none⟩) Lb cb,.int .i64 (n:Int)] w fun e w'=>∃v,e=.returned v∧SlV 16 w.heap.size w' v∧Below w.heap.size w w':=by
 have YB:=lh yb
 have HN:=lh hn
 have HB:=lh hB
 clear yb hn hB
 go_enter Tryz.func87,Tryz.ntmps87
 go_upto_region 3 with (go_at_call 145;refine nz (inf_c (by first | exact HN.out | exact HB.out) _) ?_)
 refine wp_region_lit ?_
 refine lsv (w':=w) ?_
 refine lsce (writer_w n HN.out.1 HN.out.2 w) ?_
 intro v y1 Z
 obtain ⟨o,so,sa,rfl,hR⟩:=Z.out
 have R:=lh hR
 clear Z hR
 iterate 5 refine lsv (w':=y1) ?_
 refine wpList_nil ?_
 obtain ⟨m,hm⟩:∃m,Lb - 1=m:=⟨_,rfl⟩
 have em:IntKind.i64.wrap ((Lb:Int) - 1)=(m:Int):=by rw [wrap_i64_id (by have:=HB.out;omega) (by have:=HB.out;omega)];have:=HB.out;omega
 have em2:(m:Int)<(Lb:Int):=by have:=HB.out;omega
 have hmL:m<Lb:=by have:=HB.out;omega
 have HM:=lh (show m+1=Lb by have:=HB.out;omega)
 obtain ⟨z,hz⟩:∃z,zb.getD m 0=z:=⟨_,rfl⟩
 have zr:0≤z∧z≤255:=hz▸YB.out.range m
 have ZR:=lh zr
 have cz:=byt_c (YB.out.keep R.out.bel) hmL
 rw [hz] at cz
 clear zr hm hz hmL
 go_upto_region 4 with fail
 refine wp_region_lit ?_
 iterate 4 refine lsv (w':=y1) ?_
 refine lsv (v:=.int .i64 (m:Int)) (w':=y1) ?_
 refine lsv (w':=y1) ?_
 refine lsv (v:=.int .u8 z) (w':=y1) ?_
 refine lsv (v:=.int .u8 (z / 16)) (w':=y1) ?_
 refine lsc (wput_w (d:=z / 16) (by have:=ZR.out;omega) HN.out.2 R.out) ?_
 intro y2 R2
 clear R cz
 refine wpList_nil ?_
 go_upto_region 5 with fail
 refine wp_region_lit ?_
 iterate 4 refine lsv (w':=y2) ?_
 refine wpList_nil ?_
 clear em em2
 go_wp2
 go_loopw [7] (fun x W=>∃j:Nat,j≤Lb∧x=.int .i64 ((j:Int) - 1)∧WE w W o so sa n) (fun x _=>((intOf x)+1).toNat)
 case atStart=>exact ⟨Lb,Nat.le_refl _,by have:=HM.out;simp;omega,R2.out⟩
 case round=>
  clear R2
  obtain ⟨j,hj,rfl,hR⟩:=hrel
  rename World=>W5
  have R:=lh hR
  clear hR
  by_cases hlt:1≤j
  ·obtain ⟨i,rfl⟩:∃i,j=i+1:=⟨j - 1,by omega⟩
   have ei:(((i+1:Nat):Int) - 1)=(i:Int):=by omega
   rw [ei]
   have k5:(0:Int)≤(i:Int):=by omega
   have k6:(i:Int)<(Lb:Int):=by omega
   obtain ⟨x,hx⟩:∃x,zb.getD i 0=x:=⟨_,rfl⟩
   have zr:0≤x∧x≤255:=hx▸YB.out.range i
   have a1:bits .and .u8 x 15=x % 16:=by
    have:=and15 x.toNat (by omega)
    rwa [Int.toNat_of_nonneg zr.1] at this
   have cx:=byt_c (YB.out.keep R.out.bel) (show i<Lb by omega)
   rw [hx] at cx
   have e3:IntKind.i64.wrap ((i:Int) - 1)=(i:Int) - 1:=wrap_i64_id (by omega) (by have:=HB.out;omega)
   have PC:=lh (wput_w (d:=x % 16) (by omega) HN.out.2 R.out)
   have HJ:=lh hj
   clear zr hx hj hlt ei
   go_upto_region 8 with fail
   refine wp_region_lit ?_
   iterate 3 refine lsv (w':=W5) ?_
   refine lsv (w':=W5) ?_
   refine lsv (v:=.int .u8 x) (w':=W5) ?_
   refine lsv (v:=.int .u8 (x % 16)) (w':=W5) ?_
   refine lsc PC.out ?_
   intro w6 R6
   clear PC R cx
   refine wpList_nil ?_
   go_wp2
   go_roundw
   case rel=>exact ⟨i,by have:=HJ.out;omega,rfl,R6.out⟩
   case measure=>simp [intOf]
  ·obtain rfl:j=0:=by omega
   have k5:¬((0:Int)≤((0:Nat):Int) - 1):=by omega
   clear hlt hj
   go_wp2
   go_ret
   exact ⟨_,rfl,(R.out.wc.sl HN.out.2).mono HN.out.2,R.out.bel⟩
theorem fromb_w (v : Int) (w : World) (ht : Lib.TabIs Tryz.prog w "internal/strconv.uint64pow10" .u64 Lib.pow10Tab) (h2 : 2 < w.heap.size) : Calls Tryz.prog 85 #[.int .u32 v] w fun e w' => ∃ v, e = .returned v ∧ SlV 16 w.heap.size w' v ∧ Below w.heap.size w w' := by
 obtain ⟨x1,e1⟩:∃x,IntKind.i32.wrap v=x:=⟨_,rfl⟩
 obtain ⟨x2,e2⟩:∃x,IntKind.i64.wrap x1=x:=⟨_,rfl⟩
 obtain ⟨x3,e3⟩:∃x,IntKind.i64.wrap (-x2)=x:=⟨_,rfl⟩
 obtain ⟨x4,e4⟩:∃x,max x2 x3=x:=⟨_,rfl⟩
 obtain ⟨u,e5,hu⟩:=wrap_n x4
 obtain ⟨s,e6⟩:∃b,decide (x2<0)=b:=⟨_,rfl⟩
 have HU:=lh hu
 have HT:=lh ht
 have H2:=lh h2
 clear hu ht h2
 go_enter Tryz.func85,Tryz.ntmps85
 go_upto_region 3 with fail
 have N0:=Bk.new w [.bool s,.int .u64 (0:Int),.int .u64 (u:Int)] 179
 have LB:=((Below.refl w.heap.size w).alloc (by simp) (.cells #[.bool s,.int .u64 (0:Int),.int .u64 (u:Int)] 179))
 have M0:=N0
 have hsz:(w.alloc (.cells #[.bool s,.int .u64 (0:Int),.int .u64 (u:Int)] 179)).heap.size=w.heap.size+1:=by simp
 obtain ⟨w1,hW⟩:∃V,w.alloc (.cells #[.bool s,.int .u64 (0:Int),.int .u64 (u:Int)] 179)=V:=⟨_,rfl⟩
 rw [hW] at LB hsz M0
 first | rw [hW] | skip
 obtain ⟨g,hg⟩:∃k,w.heap.size=k:=⟨_,rfl⟩
 rw [hg] at LB hsz M0
 try simp only [hg]
 clear hW N0
 have H:=lh (show Bk w1 (g) 179 [.bool s,.int .u64 (0:Int),.int .u64 (u:Int)]∧Below g w w1 from ⟨M0,LB⟩)
 clear LB M0
 have HG:=lh hg
 clear hg
 clear e1 e2 e3 e4 e5 e6
 refine wp_region_held_drew (S:=fun W=>Bk W (g) 179 [.bool s,.int .u64 (0:Int),.int .u64 (u:Int)]∧Below g w W) (by kernel_rfl) ⟨(H.out.1).drewN 1,dBelow' (H.out.2) 1⟩ (fun hHeld=>?_)
 replace H:=lh hHeld
 obtain ⟨y2,hv⟩:∃V,w1.drew=V:=⟨_,rfl⟩
 rw [hv] at H hHeld ⊢
 clear hv
 refine tki 0 ?_
 refine tki 1 (v:=.bool s) ?_ (y:=by (intro W hSw;have c1:=(hSw.1).cell (c:=0) rfl;go_simp;(try with_reducible rfl)))
 refine tkl 2 (fun W h=>(h.1).row) ?_
 refine tkce (R:=fun V W=>(StrV 60 V)∧(Bk W (g) 179 [.bool s,.int .u64 (0:Int),.int .u64 (u:Int)]∧Below g w W)) ((ndigits_w s 0 u (by omega) HU.out _ (tab_keep HT.out (HG.out▸H.out.2) H2.out) (by have h9:=(H.out.2).size;have h8:=HG.out;have:=H2.out;omega)).mono fun e w' ⟨v,he,hv,hb⟩=>⟨v,he,hv,(H.out.1).keep hb,(H.out.2).trans (hb.mono (by have h9:=(H.out.2).size;(try have h8:=HG.out);omega))⟩) (fun _ _ h=>h.2) ?_
 clear H hHeld
 intro vv y3 Z hHeld
 obtain ⟨⟨ds,rfl,hds⟩,hC⟩:=Z.out
 have H:=lh hC
 clear Z hC
 refine tkce (R:=fun V W=>(SlB g W V)∧(Bk W (g) 179 [.bool s,.int .u64 (0:Int),.int .u64 (u:Int)]∧Below g w W)) ((write_b (B:=g) (Nat.le_trans (Nat.le_of_eq HG.out.symm) (H.out.2).size) s ds (by omega) 8 (by omega) (by omega)).mono fun e w' ⟨v,he,hv,hb⟩=>⟨v,he,hv,(H.out.1).keep hb,(H.out.2).trans (hb.mono (by have h9:=(H.out.2).size;(try have h8:=HG.out);omega))⟩) (fun _ _ h=>h.2) ?_
 clear H hHeld
 intro vv y4 Z hHeld
 obtain ⟨⟨v8,q8,rfl,hv8⟩,hC⟩:=Z.out
 have H:=lh hC
 clear Z hC
 refine tki 5 ?_
 refine tki 6 ?_
 refine tki 7 ?_
 refine tki 8 ?_
 refine tki 9 ?_
 have V8:=lh hv8
 clear hv8
 refine wpAnyH_done (by with_unfolding_all rfl) ?_ _
 clear hHeld
 go_wp2
 go_ret
 exact ⟨_,rfl,HG.out▸V8.out,HG.out▸H.out.2⟩
structure EX (w0 w:World) (e t n:Nat) (S:Option Addr) (m cap:Nat) (at':Nat) (on sm:Bool) (cc mk:Int) (zs:List Int):Prop where
 eb:Bk w e 230 [.slice S m cap,.int .i64 (at':Int),.bool on,.bool sm,.slice (some ⟨t,0,none⟩) n n,.int .i64 cc,.int .i64 mk]
 tb:Bk w t 5 (zs.map (Value.int .u8))
 bb:Below w0.heap.size w0 w
 ll:zs.length=n
 rr:∀z∈zs,0≤z∧z≤255
 aa:at'≤2*m
 nn:w0.heap.size≤e∧w0.heap.size≤t∧e≠t
def ED (w0 w:World) (e t n:Nat) (S:Option Addr) (m cap:Nat):Prop:=∃ (at':Nat) (on sm:Bool) (cc mk:Int) (zs:List Int),EX w0 w e t n S m cap at' on sm cc mk zs
section
variable {w0 w w':World} {e t n m cap at':Nat} {S:Option Addr} {on sm:Bool} {cc mk:Int} {zs:List Int}
theorem EX.keep (h:EX w0 w e t n S m cap at' on sm cc mk zs) (hb:Below w.heap.size w w'):EX w0 w' e t n S m cap at' on sm cc mk zs:={ h with eb:=h.eb.keep hb,tb:=h.tb.keep hb,bb:=h.bb.trans (hb.mono h.bb.size) }
theorem EX.drew (h:EX w0 w e t n S m cap at' on sm cc mk zs):EX w0 w.drew e t n S m cap at' on sm cc mk zs:=h.keep (dBelow' (Below.refl _ _) 1)
theorem EX.sat (h:EX w0 w e t n S m cap at' on sm cc mk zs) {a:Nat} (ha:a≤2*m):EX w0 (w.setCell ⟨e,1,none⟩ (.int .i64 (a:Int))) e t n S m cap a on sm cc mk zs:={ h with eb:=h.eb.set_ 1 _,tb:=h.tb.other _ (by have:=h.nn;show e≠t;omega),bb:=h.bb.setCell h.nn.1 _,aa:=ha }
theorem EX.son (h:EX w0 w e t n S m cap at' on sm cc mk zs) (b:Bool):EX w0 (w.setCell ⟨e,2,none⟩ (.bool b)) e t n S m cap at' b sm cc mk zs:={ h with eb:=h.eb.set_ 2 _,tb:=h.tb.other _ (by have:=h.nn;show e≠t;omega),bb:=h.bb.setCell h.nn.1 _ }
theorem EX.ssm (h:EX w0 w e t n S m cap at' on sm cc mk zs) (b:Bool):EX w0 (w.setCell ⟨e,3,none⟩ (.bool b)) e t n S m cap at' on b cc mk zs:={ h with eb:=h.eb.set_ 3 _,tb:=h.tb.other _ (by have:=h.nn;show e≠t;omega),bb:=h.bb.setCell h.nn.1 _ }
theorem EX.scc (h:EX w0 w e t n S m cap at' on sm cc mk zs) (z:Int):EX w0 (w.setCell ⟨e,5,none⟩ (.int .i64 z)) e t n S m cap at' on sm z mk zs:={ h with eb:=h.eb.set_ 5 _,tb:=h.tb.other _ (by have:=h.nn;show e≠t;omega),bb:=h.bb.setCell h.nn.1 _ }
theorem EX.smk (h:EX w0 w e t n S m cap at' on sm cc mk zs) (z:Int):EX w0 (w.setCell ⟨e,6,none⟩ (.int .i64 z)) e t n S m cap at' on sm cc z zs:={ h with eb:=h.eb.set_ 6 _,tb:=h.tb.other _ (by have:=h.nn;show e≠t;omega),bb:=h.bb.setCell h.nn.1 _ }
theorem EX.stx (h:EX w0 w e t n S m cap at' on sm cc mk zs) (i:Nat) {z:Int} (hz:0≤z∧z≤255):EX w0 (w.setCell ⟨t,i,none⟩ (.int .u8 z)) e t n S m cap at' on sm cc mk (zs.set i z):=
 { h with
  eb:=h.eb.other _ (by have:=h.nn;show t≠e;omega)
  tb:=by have:=h.tb.set_ i (.int .u8 z);rwa [← List.map_set] at this
  bb:=h.bb.setCell h.nn.2.1 _
  ll:=by simpa using h.ll
  rr:=fun y hy=>by
   rcases List.mem_or_eq_of_mem_set hy with h1 | rfl
   ·exact h.rr _ h1
   ·exact hz }
theorem EX.txc (h:EX w0 w e t n S m cap at' on sm cc mk zs) {i:Nat} (hi:i<n):w.cell? ⟨t,i,none⟩=some (.int .u8 (zs.getD i 0)):=by
 have hl:=h.ll
 refine h.tb.cell ?_
 rw [List.getElem?_map,List.getElem?_eq_getElem (by omega),List.getD_eq_getElem?_getD,List.getElem?_eq_getElem (by omega)]
 rfl
end
theorem Ch.drew' {a w:World} {L:List Nat} (h:Ch a w L):Ch a w.drew L:=h.trans (Ch.of_below (dBelow' (Below.refl w.heap.size w) 1) _)
theorem byt_at0 {w0 w:World} {b off m:Nat} {ys:List Int} (hy:Byt w0 (some ⟨b,off,none⟩) m ys) (hb:Below w0.heap.size w0 w) {i:Nat} (hi:i<m):w.cell? ⟨b,off+i,none⟩=some (.int .u8 (ys.getD i 0)):=by
 obtain ⟨b',off',e,hc⟩:=(hy.keep hb).at_ (by omega)
 injection e with e
 injection e with e1 e2
 subst e1 e2
 exact hc i hi
def TkV (v:Value):Prop:=∃ (d:Int) (pl:Bool) (c:Int),v=.tuple #[.int .u8 d,.bool pl,.int .i64 c]∧0≤d∧d≤15
def ShV (v:Value):Prop:=∃ (pl:Bool) (c:Int),v=.tuple #[.bool pl,.int .i64 c]
def I6V (v:Value):Prop:=∃c:Int,v=.int .i64 c
theorem take_w {w0 w:World} {e t n m cap:Nat} {S:Option Addr} {ys:List Int} (hm:m≤100000) (hy:Byt w0 S m ys) (h:ED w0 w e t n S m cap):Calls Tryz.prog 199 #[.pointer (some ⟨e,0,none⟩)] w fun e' w'=>∃v,e'=.returned v∧TkV v∧ED w0 w' e t n S m cap∧Ch w w' [e,t]:=by
 obtain ⟨at',on,sm,cc,mk,zs,h⟩:=h
 obtain ⟨i,hi⟩:∃i,at' / 2=i:=⟨_,rfl⟩
 have q1:((at':Nat):Int).tdiv 2=(i:Int):=by rw [Int.tdiv_eq_ediv_of_nonneg (by omega)];omega
 have q2:IntKind.i64.wrap (i:Int)=(i:Int):=wrap_i64_id (by omega) (by have:=h.aa;omega)
 have AI:=lh (show at'≤2*m∧at' / 2=i from ⟨h.aa,hi⟩)
 have H:=lh (⟨h,Ch.refl _ _⟩:EX w0 w e t n S m cap at' on sm cc mk zs∧Ch w w [e,t])
 clear h hi
 by_cases him:m≤i
 ·have q3:(m:Int)≤(i:Int):=by omega
  clear him
  go_enter Tryz.func199,Tryz.ntmps199
  go_upto_region 1 with fail
  refine wp_region_held_drew (S:=fun W=>EX w0 W e t n S m cap at' on sm cc mk zs∧Ch w W [e,t]) (by kernel_rfl) ⟨H.out.1.drew,H.out.2.drew'⟩ (fun hHeld=>?_)
  replace H:=lh hHeld
  obtain ⟨v0,hv⟩:∃V,w.drew=V:=⟨_,rfl⟩
  rw [hv] at H hHeld ⊢
  clear hv
  refine tki 0 ?_
  refine tki 1 ?_
  refine tki 2 ?_
  refine tki 3 (v:=.int .i64 (at':Int)) ?_ (y:=by (intro W hSw;have c1:=hSw.1.eb.cell (c:=1) rfl;go_simp;(try with_reducible rfl)))
  refine tki 4 (v:=.int .i64 (i:Int)) ?_
  refine tki 5 ?_
  refine tki 6 ?_
  refine tki 7 ?_
  refine tki 8 (v:=.slice S m cap) ?_ (y:=by (intro W hSw;have c1:=hSw.1.eb.cell (c:=0) rfl;go_simp;(try with_reducible rfl)))
  refine tki 9 ?_
  refine tki 10 (v:=.bool true) ?_
  refine wpAnyH_done (by with_unfolding_all rfl) ?_ _
  clear hHeld
  go_wp2
  go_ret3
  exact ⟨_,rfl,⟨0,false,5,rfl,by omega,by omega⟩,⟨_,_,_,_,_,_,H.out.1⟩,H.out.2⟩
 ·have q3:¬(m:Int)≤(i:Int):=by omega
  obtain ⟨sb,off,rfl,-⟩:=hy.2.2 (by omega)
  have him2:(i:Int)<(m:Int):=by omega
  have hlt:i<m:=by omega
  have Y:=lh hy
  obtain ⟨z,hz⟩:∃z,ys.getD i 0=z:=⟨_,rfl⟩
  have zr:0≤z∧z≤255:=hz▸hy.range i
  have a1:bits .and .u8 z 15=z % 16:=by
   have:=and15 z.toNat (by omega)
   rwa [Int.toNat_of_nonneg zr.1] at this
  have ZR:=lh zr
  clear him hy zr
  go_enter Tryz.func199,Tryz.ntmps199
  go_upto_region 1 with fail
  refine wp_region_held_drew (S:=fun W=>EX w0 W e t n (some ⟨sb,off,none⟩) m cap at' on sm cc mk zs∧Ch w W [e,t]) (by kernel_rfl) ⟨H.out.1.drew,H.out.2.drew'⟩ (fun hHeld=>?_)
  replace H:=lh hHeld
  obtain ⟨v0,hv⟩:∃V,w.drew=V:=⟨_,rfl⟩
  rw [hv] at H hHeld ⊢
  clear hv
  refine tki 0 ?_
  refine tki 1 ?_
  refine tki 2 ?_
  refine tki 3 (v:=.int .i64 (at':Int)) ?_ (y:=by (intro W hSw;have c1:=hSw.1.eb.cell (c:=1) rfl;go_simp;(try with_reducible rfl)))
  refine tki 4 (v:=.int .i64 (i:Int)) ?_
  refine tki 5 ?_
  refine tki 6 ?_
  refine tki 7 ?_
  refine tki 8 (v:=.slice (some ⟨sb,off,none⟩) m cap) ?_ (y:=by (intro W hSw;have c1:=hSw.1.eb.cell (c:=0) rfl;go_simp;(try with_reducible rfl)))
  refine tki 9 ?_
  refine tki 10 (v:=.bool false) ?_
  refine wpAnyH_done (by with_unfolding_all rfl) ?_ _
  clear hHeld
  go_upto_region 3 with fail
  refine wp_region_held_drew (S:=fun W=>EX w0 W e t n (some ⟨sb,off,none⟩) m cap at' on sm cc mk zs∧Ch w W [e,t]) (by kernel_rfl) ⟨H.out.1.drew,H.out.2.drew'⟩ (fun hHeld=>?_)
  replace H:=lh hHeld
  obtain ⟨v1,hv⟩:∃V,v0.drew=V:=⟨_,rfl⟩
  rw [hv] at H hHeld ⊢
  clear hv
  refine tki 0 ?_
  refine tki 1 ?_
  refine tki 2 ?_
  refine tki 3 (v:=.slice (some ⟨sb,off,none⟩) m cap) ?_ (y:=by (intro W hSw;have c1:=hSw.1.eb.cell (c:=0) rfl;go_simp;(try with_reducible rfl)))
  refine tki 4 ?_
  refine tki 5 ?_
  refine tki 6 ?_
  refine tki 7 (v:=.int .i64 (at':Int)) ?_ (y:=by (intro W hSw;have c1:=hSw.1.eb.cell (c:=1) rfl;go_simp;(try with_reducible rfl)))
  refine tki 8 (v:=.int .i64 (i:Int)) ?_
  refine tki 9 (v:=.pointer (some ⟨sb,off+i,none⟩)) ?_
  refine tki 10 (v:=.int .u8 z) ?_ (y:=by (intro W hSw;have c1:=byt_at0 Y.out hSw.1.bb hlt;rw [hz] at c1;go_simp;(try with_reducible rfl)))
  refine tki 11 ?_
  have LT:=lh hlt
  refine wpAnyH_done (by with_unfolding_all rfl) ?_ _
  clear hHeld
  clear q1 q2 q3 him2 hz hlt Y
  obtain ⟨a,ha⟩:∃a,at'+1=a:=⟨_,rfl⟩
  have e1:IntKind.i64.wrap ((at':Int)+1)=(a:Int):=by rw [wrap_i64_id (by omega) (by have:=AI.out;omega)];omega
  have A2:=lh (show a≤2*m by have:=AI.out;have:=LT.out;omega)
  have c1:=H.out.1.eb.cell (c:=1) rfl
  have f1:=H.out.1.eb.free
  have HA:=lh ha
  clear ha
  go_upto_region 4 with fail
  refine wp_region_lit ?_
  iterate 3 refine lsv (w':=v1) ?_
  refine lsv (v:=.int .i64 (at':Int)) (w':=v1) ?_
  refine lsv (v:=.int .i64 (a:Int)) (w':=v1) ?_
  iterate 2 refine lsv (w':=v1) ?_
  refine lsk (w':=v1.setCell ⟨e,1,none⟩ (.int .i64 (a:Int))) (by unfold execOp;go_simp;(try rfl)) ?_
  refine wpList_nil ?_
  replace H:=lh (show EX w0 (v1.setCell ⟨e,1,none⟩ (.int .i64 (a:Int))) e t n (some ⟨sb,off,none⟩) m cap a on sm cc mk zs∧Ch w (v1.setCell ⟨e,1,none⟩ (.int .i64 (a:Int))) [e,t] from ⟨H.out.1.sat A2.out,H.out.2.setCell (p:=⟨e,1,none⟩) (by simp) _⟩)
  obtain ⟨v2,hW⟩:∃V,v1.setCell ⟨e,1,none⟩ (.int .i64 (a:Int))=V:=⟨_,rfl⟩
  rw [hW] at H
  first | rw [hW] | simp only [hW]
  clear hW c1 f1 e1
  have c1:=H.out.1.eb.cell (c:=1) rfl
  have f1:=H.out.1.eb.free
  by_cases hp:a % 2=0
  ·have p1:((a:Nat):Int).tmod 2=0:=by rw [Int.tmod_eq_emod_of_nonneg (by omega)];omega
   clear hp
   go_wp2
   go_ret3
   exact ⟨_,rfl,⟨_,_,_,rfl,by have:=ZR.out;omega,by have:=ZR.out;omega⟩,⟨_,_,_,_,_,_,H.out.1⟩,H.out.2⟩
  ·have p1:((a:Nat):Int).tmod 2=1:=by rw [Int.tmod_eq_emod_of_nonneg (by omega)];omega
   obtain ⟨x,hx⟩:∃x,z / 16=x:=⟨_,rfl⟩
   obtain ⟨y,hy⟩:∃y,z % 16=y:=⟨_,rfl⟩
   rw [hy] at a1
   have XY:=lh (show 0≤x∧x≤15∧0≤y∧y≤15 by have:=ZR.out;omega)
   have P:=lh hp
   clear hp hy
   by_cases h9:9<x
   ·go_wp2
    (try simp only [hx])
    go_ret3
    exact ⟨_,rfl,⟨0,false,7,rfl,by omega,by omega⟩,⟨_,_,_,_,_,_,H.out.1⟩,H.out.2⟩
   ·by_cases h9y:9<y
    ·obtain ⟨b,hb⟩:∃b,a+1=b:=⟨_,rfl⟩
     have e1:IntKind.i64.wrap ((a:Int)+1)=(b:Int):=by rw [wrap_i64_id (by omega) (by have:=A2.out;omega)];omega
     have B2:=lh (show b≤2*m by have:=A2.out;have:=P.out;omega)
     clear hb
     by_cases y1:y=11
     ·subst y1
      go_wp2
      go_ret3
      exact ⟨_,rfl,⟨x,_,_,rfl,XY.out.1,XY.out.2.1⟩,⟨_,_,_,_,_,_,H.out.1.sat B2.out⟩,H.out.2.setCell (p:=⟨e,1,none⟩) (by simp) _⟩
     ·have y2:(y == 11)=false:=by rw [beq_eq_false_iff_ne];exact y1
      clear y1
      go_wp2
      all_goals
       go_ret3
       exact ⟨_,rfl,⟨x,_,_,rfl,XY.out.1,XY.out.2.1⟩,⟨_,_,_,_,_,_,H.out.1.sat B2.out⟩,H.out.2.setCell (p:=⟨e,1,none⟩) (by simp) _⟩
    ·go_wp2
     go_ret3
     exact ⟨_,rfl,⟨x,_,_,rfl,XY.out.1,XY.out.2.1⟩,⟨_,_,_,_,_,_,H.out.1⟩,H.out.2⟩
theorem show_w {w0 w:World} {e t n m cap:Nat} {S:Option Addr} {ys:List Int} (hm:m≤100000) (hy:Byt w0 S m ys) (h:ED w0 w e t n S m cap) (i:Nat) (hi:i<n):Calls Tryz.prog 193 #[.pointer (some ⟨e,0,none⟩),.int .i64 (i:Int)] w fun e' w'=>∃v,e'=.returned v∧ShV v∧ED w0 w' e t n S m cap∧Ch w w' [e,t]:=by
 have HM:=lh hm
 have HY:=lh hy
 have HE:=lh h
 clear hm hy h
 have q1:(i:Int)<(n:Int):=by omega
 have HI:=lh hi
 clear hi
 go_enter Tryz.func193,Tryz.ntmps193
 go_upto_region 1 with fail
 refine wp_region_lit ?_
 iterate 1 refine lsv (w':=w) ?_
 refine lsce (take_w HM.out HY.out HE.out) ?_
 intro vv y1 Z
 obtain ⟨⟨d,pl,c,rfl,d0,d1⟩,hE,hC⟩:=Z.out
 iterate 7 refine lsv (w':=y1) ?_
 refine wpList_nil ?_
 obtain ⟨at',on,sm,cc,mk,zs,hX⟩:=hE
 have H:=lh (⟨hX,hC⟩:EX w0 y1 e t n S m cap at' on sm cc mk zs∧Ch w y1 [e,t])
 clear hX hC Z
 have DD:=lh (show 0≤240+d∧240+d≤255 by omega)
 have w8:IntKind.u8.wrap (240+d)=240+d:=by rw [IntKind.wrap_u8];omega
 have ct:=H.out.1.txc HI.out
 have c2:=H.out.1.eb.cell (c:=2) rfl
 have c3:=H.out.1.eb.cell (c:=3) rfl
 have c4:=H.out.1.eb.cell (c:=4) rfl
 have c6:=H.out.1.eb.cell (c:=6) rfl
 have f1:=H.out.1.eb.free
 have f2:=H.out.1.tb.free
 have n1:e≠t:=H.out.1.nn.2.2
 have n2:t≠e:=fun h=>n1 h.symm
 by_cases hc:c=0
 ·subst hc
  by_cases hd:0<d
  ·clear d0 d1
   cases on
   ·go_wp2
    go_ret2
    exact ⟨_,rfl,⟨_,_,rfl⟩,⟨_,_,_,_,_,_,((((H.out.1.smk (i:Int)).son true).ssm true).stx i DD.out)⟩,((((H.out.2.setCell (p:=⟨e,6,none⟩) (by simp) _).setCell (p:=⟨e,2,none⟩) (by simp) _).setCell (p:=⟨e,3,none⟩) (by simp) _).setCell (p:=⟨t,i,none⟩) (by simp) _)⟩
   ·go_wp2
    go_ret2
    exact ⟨_,rfl,⟨_,_,rfl⟩,⟨_,_,_,_,_,_,(((H.out.1.son true).ssm true).stx i DD.out)⟩,(((H.out.2.setCell (p:=⟨e,2,none⟩) (by simp) _).setCell (p:=⟨e,3,none⟩) (by simp) _).setCell (p:=⟨t,i,none⟩) (by simp) _)⟩
  ·clear d0 d1
   cases on
   ·go_wp2
    go_ret2
    exact ⟨_,rfl,⟨_,_,rfl⟩,⟨_,_,_,_,_,_,H.out.1⟩,H.out.2⟩
   ·go_wp2
    go_ret2
    exact ⟨_,rfl,⟨_,_,rfl⟩,⟨_,_,_,_,_,_,(H.out.1.stx i DD.out)⟩,(H.out.2.setCell (p:=⟨t,i,none⟩) (by simp) _)⟩
 ·have hc2:(c == 0)=false:=by rw [beq_eq_false_iff_ne];exact hc
  clear hc d0 d1
  go_wp2
  go_ret2
  exact ⟨_,rfl,⟨_,_,rfl⟩,⟨_,_,_,_,_,_,H.out.1⟩,H.out.2⟩
theorem digit_w {w0 w:World} {e t n m cap:Nat} {S:Option Addr} {ys:List Int} (hm:m≤100000) (hy:Byt w0 S m ys) (h:ED w0 w e t n S m cap) (i:Nat) (hi:i<n):Calls Tryz.prog 182 #[.pointer (some ⟨e,0,none⟩),.int .i64 (i:Int)] w fun e' w'=>∃v,e'=.returned v∧I6V v∧ED w0 w' e t n S m cap∧Ch w w' [e,t]:=by
 have HM:=lh hm
 have HY:=lh hy
 have HE:=lh h
 clear hm hy h
 have HI:=lh hi
 clear hi
 go_enter Tryz.func182,Tryz.ntmps182
 go_upto_region 1 with fail
 refine wp_region_lit ?_
 iterate 2 refine lsv (w':=w) ?_
 refine lsce (show_w HM.out HY.out HE.out i HI.out) ?_
 intro vv y1 Z
 obtain ⟨⟨pl,c,rfl⟩,hE,hC⟩:=Z.out
 iterate 5 refine lsv (w':=y1) ?_
 refine wpList_nil ?_
 obtain ⟨at',on,sm,cc,mk,zs,hX⟩:=hE
 have H:=lh (⟨hX,hC⟩:EX w0 y1 e t n S m cap at' on sm cc mk zs∧Ch w y1 [e,t])
 clear hX hC Z
 have c2:=H.out.1.eb.cell (c:=2) rfl
 have c3:=H.out.1.eb.cell (c:=3) rfl
 have c4:=H.out.1.eb.cell (c:=4) rfl
 have c6:=H.out.1.eb.cell (c:=6) rfl
 have f1:=H.out.1.eb.free
 have f2:=H.out.1.tb.free
 have n1:e≠t:=H.out.1.nn.2.2
 have n2:t≠e:=fun h=>n1 h.symm
 cases on
 ·go_wp2
  go_ret
  exact ⟨_,rfl,⟨_,rfl⟩,⟨_,_,_,_,_,_,(H.out.1.son false)⟩,(H.out.2.setCell (p:=⟨e,2,none⟩) (by simp) _)⟩
 ·go_wp2
  go_ret
  exact ⟨_,rfl,⟨_,rfl⟩,⟨_,_,_,_,_,_,(H.out.1.son (!pl))⟩,(H.out.2.setCell (p:=⟨e,2,none⟩) (by simp) _)⟩
theorem start_w {w0 w:World} {e t n m cap:Nat} {S:Option Addr} {ys:List Int} (hm:m≤100000) (hy:Byt w0 S m ys) (h:ED w0 w e t n S m cap) (i:Nat) (hi:i<n):Calls Tryz.prog 183 #[.pointer (some ⟨e,0,none⟩),.int .i64 (i:Int)] w fun e' w'=>∃v,e'=.returned v∧I6V v∧ED w0 w' e t n S m cap∧Ch w w' [e,t]:=by
 have HM:=lh hm
 have HY:=lh hy
 have HE:=lh h
 clear hm hy h
 have HI:=lh hi
 clear hi
 go_enter Tryz.func183,Tryz.ntmps183
 go_upto_region 1 with fail
 refine wp_region_lit ?_
 iterate 2 refine lsv (w':=w) ?_
 refine lsce (show_w HM.out HY.out HE.out i HI.out) ?_
 intro vv y1 Z
 obtain ⟨⟨pl,c,rfl⟩,hE,hC⟩:=Z.out
 iterate 5 refine lsv (w':=y1) ?_
 refine wpList_nil ?_
 obtain ⟨at',on,sm,cc,mk,zs,hX⟩:=hE
 have H:=lh (⟨hX,hC⟩:EX w0 y1 e t n S m cap at' on sm cc mk zs∧Ch w y1 [e,t])
 clear hX hC Z
 have c2:=H.out.1.eb.cell (c:=2) rfl
 have c3:=H.out.1.eb.cell (c:=3) rfl
 have c4:=H.out.1.eb.cell (c:=4) rfl
 have c6:=H.out.1.eb.cell (c:=6) rfl
 have f1:=H.out.1.eb.free
 have f2:=H.out.1.tb.free
 have n1:e≠t:=H.out.1.nn.2.2
 have n2:t≠e:=fun h=>n1 h.symm
 go_wp2
 go_ret
 exact ⟨_,rfl,⟨_,rfl⟩,⟨_,_,_,_,_,_,(H.out.1.son (!pl))⟩,(H.out.2.setCell (p:=⟨e,2,none⟩) (by simp) _)⟩
theorem separate_w {w0 w:World} {e t n m cap:Nat} {S:Option Addr} {ys:List Int} (hm:m≤100000) (hy:Byt w0 S m ys) (h:ED w0 w e t n S m cap) (i:Nat):Calls Tryz.prog 184 #[.pointer (some ⟨e,0,none⟩),.int .i64 (i:Int)] w fun e' w'=>∃v,e'=.returned v∧I6V v∧ED w0 w' e t n S m cap∧Ch w w' [e,t]:=by
 obtain ⟨at',on,sm,cc,mk,zs,hX⟩:=h
 have H:=lh (⟨hX,Ch.refl _ _⟩:EX w0 w e t n S m cap at' on sm cc mk zs∧Ch w w [e,t])
 clear hX
 have c2:=H.out.1.eb.cell (c:=2) rfl
 have c3:=H.out.1.eb.cell (c:=3) rfl
 have c4:=H.out.1.eb.cell (c:=4) rfl
 have c6:=H.out.1.eb.cell (c:=6) rfl
 have f1:=H.out.1.eb.free
 have f2:=H.out.1.tb.free
 have n1:e≠t:=H.out.1.nn.2.2
 have n2:t≠e:=fun h=>n1 h.symm
 go_enter Tryz.func184,Tryz.ntmps184
 go_wp2
 go_ret
 exact ⟨_,rfl,⟨_,rfl⟩,⟨_,_,_,_,_,_,((H.out.1.son false).ssm false)⟩,((H.out.2.setCell (p:=⟨e,2,none⟩) (by simp) _).setCell (p:=⟨e,3,none⟩) (by simp) _)⟩
theorem code_w {w0 w:World} {e t n m cap:Nat} {S:Option Addr} {ys:List Int} (hm:m≤100000) (hy:Byt w0 S m ys) (h:ED w0 w e t n S m cap):Calls Tryz.prog 185 #[.pointer (some ⟨e,0,none⟩)] w fun e' w'=>∃v,e'=.returned v∧I6V v∧ED w0 w' e t n S m cap∧Ch w w' [e,t]:=by
 obtain ⟨at',on,sm,cc,mk,zs,hX⟩:=h
 have H:=lh (⟨hX,Ch.refl _ _⟩:EX w0 w e t n S m cap at' on sm cc mk zs∧Ch w w [e,t])
 clear hX
 have c2:=H.out.1.eb.cell (c:=2) rfl
 have c3:=H.out.1.eb.cell (c:=3) rfl
 have c4:=H.out.1.eb.cell (c:=4) rfl
 have c6:=H.out.1.eb.cell (c:=6) rfl
 have f1:=H.out.1.eb.free
 have f2:=H.out.1.tb.free
 have n1:e≠t:=H.out.1.nn.2.2
 have n2:t≠e:=fun h=>n1 h.symm
 go_enter Tryz.func185,Tryz.ntmps185
 cases on
 all_goals
  cases sm
  all_goals
   go_wp2
   go_ret
   exact ⟨_,rfl,⟨_,rfl⟩,⟨_,_,_,_,_,_,H.out.1⟩,H.out.2⟩
end Go.Proofs.YtljajnaclpbecaaGreatDoor
