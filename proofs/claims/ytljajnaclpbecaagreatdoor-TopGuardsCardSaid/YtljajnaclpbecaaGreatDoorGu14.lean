/- Contracts and laws on the way to the statement, text 14 of 22. Conditions: as each states them. -/
import Derived.Test.YtljajnaclpbecaaGreatDoorGu1
import Derived.Test.YtljajnaclpbecaaGreatDoorGu12
import Derived.Test.YtljajnaclpbecaaGreatDoorGu13
namespace Go.Proofs.YtljajnaclpbecaaGreatDoor
open Go.RowKit
set_option maxRecDepth 1000000
set_option maxHeartbeats 8000000
set_option linter.unusedVariables false
set_option linter.unusedSimpArgs false
def IIV (v:Value):Prop:=∃c k:Int,v=.tuple #[.int .i64 c,.int .i64 k]
theorem dadd_w (La ba ca Lb bb cb : Nat) (hA : 1 ≤ La ∧ La ≤ 16) (hB : 1 ≤ Lb ∧ Lb ≤ 16) (za zb : List Int) (w : World) (ya : Byt w (some ⟨ba, 0, none⟩) La za) (yb : Byt w (some ⟨bb, 0, none⟩) Lb zb) (ht : Lib.TabIs Tryz.prog w "internal/strconv.uint64pow10" .u64 Lib.pow10Tab) (h2 : 2 < w.heap.size) : Calls Tryz.prog 94 #[.slice (some ⟨ba, 0, none⟩) La ca, .slice (some ⟨bb, 0, none⟩) Lb cb] w fun e w' => ∃ v, e = .returned v ∧ SlII w.heap.size w' v ∧ Below w.heap.size w w' := by
 have YA:=lh ya
 have YB:=lh yb
 have HA:=lh hA
 have HB:=lh hB
 clear ya yb hA hB
 have HT:=lh ht
 have H2:=lh h2
 clear ht h2
 go_enter Tryz.func94,Tryz.ntmps94
 go_upto_region 1 with fail
 obtain ⟨g,hg⟩:∃k,w.heap.size=k:=⟨_,rfl⟩
 have H:=lh (show Below g w w from hg▸Below.refl _ _)
 have HG:=lh hg
 clear hg
 refine wp_region_lit ?_
 iterate 2 refine lsv (w':=w) ?_
 refine lsce (pair_w La ba ca Lb bb cb HA.out HB.out za zb _ (YA.out.keep (HG.out▸H.out)) (YB.out.keep (HG.out▸H.out))) ?_
 intro vv w2 Z
 obtain ⟨⟨s1,h1,l1,s2,h2,l2,c,rfl,q1,q2,q3,q4,-⟩,hb⟩:=Z.out
 replace H:=lh (show Below g w w2 from (H.out).trans (hb.mono (by have h9:=(H.out).size;(try have h8:=HG.out);omega)))
 clear Z hb
 have QQ:=lh (⟨q1,q2,q3,q4⟩:h1<18446744073709551616∧l1<18446744073709551616∧h2<18446744073709551616∧l2<18446744073709551616)
 clear q1 q2 q3 q4
 iterate 4 refine lsv (w':=w2) ?_
 refine lsv (v:=.pointer (some ⟨w2.heap.size,0,none⟩)) (w':=w2.alloc (.cells #[.bool false,.int .u64 (0:Int),.int .u64 (0:Int)] 179)) ?_
 have al:=(Below.refl w2.heap.size w2).alloc (Nat.le_refl _) (.cells #[.bool false,.int .u64 (0:Int),.int .u64 (0:Int)] 179)
 have lo_g1:=Nat.le_trans (Nat.le_of_eq HG.out.symm) (H.out).size
 have H2:=lh (show Bk (w2.alloc (.cells #[.bool false,.int .u64 (0:Int),.int .u64 (0:Int)] 179)) (w2.heap.size) 179 [.bool false,.int .u64 (0:Int),.int .u64 (0:Int)]∧Below g w (w2.alloc (.cells #[.bool false,.int .u64 (0:Int),.int .u64 (0:Int)] 179)) from ⟨Bk.new w2 [.bool false,.int .u64 (0:Int),.int .u64 (0:Int)] 179,(H.out).trans (al.mono (by have h9:=(H.out).size;(try have h8:=HG.out);omega))⟩)
 obtain ⟨w1,hW⟩:∃V,w2.alloc (.cells #[.bool false,.int .u64 (0:Int),.int .u64 (0:Int)] 179)=V:=⟨_,rfl⟩
 rw [hW] at H2
 first | rw [hW] | simp only [hW]
 obtain ⟨g1,hn⟩:∃k,w2.heap.size=k:=⟨_,rfl⟩
 rw [hn] at H2 lo_g1
 try simp only [hn]
 clear hW hn al H
 have H:=H2
 clear H2
 refine lsv (v:=.pointer (some ⟨w1.heap.size,0,none⟩)) (w':=w1.alloc (.cells #[.bool false,.int .u64 (0:Int),.int .u64 (0:Int)] 179)) ?_
 have al:=(Below.refl w1.heap.size w1).alloc (Nat.le_refl _) (.cells #[.bool false,.int .u64 (0:Int),.int .u64 (0:Int)] 179)
 have on_g2:=(H.out.1).lt
 have lo_g2:=Nat.le_trans (Nat.le_of_eq HG.out.symm) (H.out.2).size
 have H2:=lh (show Bk (w1.alloc (.cells #[.bool false,.int .u64 (0:Int),.int .u64 (0:Int)] 179)) (g1) 179 [.bool false,.int .u64 (0:Int),.int .u64 (0:Int)]∧Bk (w1.alloc (.cells #[.bool false,.int .u64 (0:Int),.int .u64 (0:Int)] 179)) (w1.heap.size) 179 [.bool false,.int .u64 (0:Int),.int .u64 (0:Int)]∧Below g w (w1.alloc (.cells #[.bool false,.int .u64 (0:Int),.int .u64 (0:Int)] 179)) from ⟨(H.out.1).keep al,Bk.new w1 [.bool false,.int .u64 (0:Int),.int .u64 (0:Int)] 179,(H.out.2).trans (al.mono (by have h9:=(H.out.2).size;(try have h8:=HG.out);omega))⟩)
 obtain ⟨w2,hW⟩:∃V,w1.alloc (.cells #[.bool false,.int .u64 (0:Int),.int .u64 (0:Int)] 179)=V:=⟨_,rfl⟩
 rw [hW] at H2
 first | rw [hW] | simp only [hW]
 obtain ⟨g2,hn⟩:∃k,w1.heap.size=k:=⟨_,rfl⟩
 rw [hn] at H2 on_g2 lo_g2
 try simp only [hn]
 clear hW hn al H
 have H:=H2
 clear H2
 refine lss (cs':=[.bool s1,.int .u64 (h1:Int),.int .u64 (l1:Int)]) (H.out.1) rfl (by simp [Value.oneCell']) (by kernel_rfl) ?_
 have H2:=lh (show Bk (w2.setRow (g1) ([.bool s1,.int .u64 (h1:Int),.int .u64 (l1:Int)]:List Value).toArray) (g1) 179 [.bool s1,.int .u64 (h1:Int),.int .u64 (l1:Int)]∧Bk (w2.setRow (g1) ([.bool s1,.int .u64 (h1:Int),.int .u64 (l1:Int)]:List Value).toArray) (g2) 179 [.bool false,.int .u64 (0:Int),.int .u64 (0:Int)]∧Below g w (w2.setRow (g1) ([.bool s1,.int .u64 (h1:Int),.int .u64 (l1:Int)]:List Value).toArray) from ⟨(H.out.1).rowSet [.bool s1,.int .u64 (h1:Int),.int .u64 (l1:Int)],(H.out.2.1).rowOth (by omega) _,below_row (H.out.2.2) (by omega) _⟩)
 obtain ⟨w3,hW⟩:∃V,w2.setRow (g1) ([.bool s1,.int .u64 (h1:Int),.int .u64 (l1:Int)]:List Value).toArray=V:=⟨_,rfl⟩
 rw [hW] at H2
 first | rw [hW] | (simp only [hW])
 clear hW H
 have H:=H2
 clear H2
 refine lss (cs':=[.bool s2,.int .u64 (h2:Int),.int .u64 (l2:Int)]) (H.out.2.1) rfl (by simp [Value.oneCell']) (by kernel_rfl) ?_
 have H2:=lh (show Bk (w3.setRow (g2) ([.bool s2,.int .u64 (h2:Int),.int .u64 (l2:Int)]:List Value).toArray) (g1) 179 [.bool s1,.int .u64 (h1:Int),.int .u64 (l1:Int)]∧Bk (w3.setRow (g2) ([.bool s2,.int .u64 (h2:Int),.int .u64 (l2:Int)]:List Value).toArray) (g2) 179 [.bool s2,.int .u64 (h2:Int),.int .u64 (l2:Int)]∧Below g w (w3.setRow (g2) ([.bool s2,.int .u64 (h2:Int),.int .u64 (l2:Int)]:List Value).toArray) from ⟨(H.out.1).rowOth (by omega) _,(H.out.2.1).rowSet [.bool s2,.int .u64 (h2:Int),.int .u64 (l2:Int)],below_row (H.out.2.2) (by omega) _⟩)
 obtain ⟨w4,hW⟩:∃V,w3.setRow (g2) ([.bool s2,.int .u64 (h2:Int),.int .u64 (l2:Int)]:List Value).toArray=V:=⟨_,rfl⟩
 rw [hW] at H2
 first | rw [hW] | (simp only [hW])
 clear hW H
 have H:=H2
 clear H2
 refine lsv (w':=w4) ?_
 refine wpList_nil ?_
 by_cases hc:c=0
 ·subst hc
  go_upto_region 4 with fail
  refine wp_region_lit ?_
  refine lsl (H.out.1) ?_
  refine lsl (H.out.2.1) ?_
  refine lsce (nadd_c s1 h1 l1 s2 h2 l2 QQ.out.1 QQ.out.2.1 QQ.out.2.2.1 QQ.out.2.2.2 _) ?_
  intro vv w9 Z
  obtain ⟨⟨s3,h3,l3,rfl,q5,q6⟩,hb⟩:=Z.out
  replace H:=lh (show Bk w9 (g1) 179 [.bool s1,.int .u64 (h1:Int),.int .u64 (l1:Int)]∧Bk w9 (g2) 179 [.bool s2,.int .u64 (h2:Int),.int .u64 (l2:Int)]∧Below g w w9 from ⟨(H.out.1).keep hb,(H.out.2.1).keep hb,(H.out.2.2).trans (hb.mono (by have h9:=(H.out.2.2).size;(try have h8:=HG.out);omega))⟩)
  clear Z hb
  have Q3:=lh (⟨q5,q6⟩:h3<18446744073709551616∧l3<18446744073709551616)
  clear q5 q6 QQ
  refine lsv (v:=.pointer (some ⟨w9.heap.size,0,none⟩)) (w':=w9.alloc (.cells #[.bool false,.int .u64 (0:Int),.int .u64 (0:Int)] 179)) ?_
  have al:=(Below.refl w9.heap.size w9).alloc (Nat.le_refl _) (.cells #[.bool false,.int .u64 (0:Int),.int .u64 (0:Int)] 179)
  have on_g3:=(H.out.2.1).lt
  have lo_g3:=Nat.le_trans (Nat.le_of_eq HG.out.symm) (H.out.2.2).size
  have H2:=lh (show Bk (w9.alloc (.cells #[.bool false,.int .u64 (0:Int),.int .u64 (0:Int)] 179)) (g1) 179 [.bool s1,.int .u64 (h1:Int),.int .u64 (l1:Int)]∧Bk (w9.alloc (.cells #[.bool false,.int .u64 (0:Int),.int .u64 (0:Int)] 179)) (g2) 179 [.bool s2,.int .u64 (h2:Int),.int .u64 (l2:Int)]∧Bk (w9.alloc (.cells #[.bool false,.int .u64 (0:Int),.int .u64 (0:Int)] 179)) (w9.heap.size) 179 [.bool false,.int .u64 (0:Int),.int .u64 (0:Int)]∧Below g w (w9.alloc (.cells #[.bool false,.int .u64 (0:Int),.int .u64 (0:Int)] 179)) from ⟨(H.out.1).keep al,(H.out.2.1).keep al,Bk.new w9 [.bool false,.int .u64 (0:Int),.int .u64 (0:Int)] 179,(H.out.2.2).trans (al.mono (by have h9:=(H.out.2.2).size;(try have h8:=HG.out);omega))⟩)
  obtain ⟨w5,hW⟩:∃V,w9.alloc (.cells #[.bool false,.int .u64 (0:Int),.int .u64 (0:Int)] 179)=V:=⟨_,rfl⟩
  rw [hW] at H2
  first | rw [hW] | simp only [hW]
  obtain ⟨g3,hn⟩:∃k,w9.heap.size=k:=⟨_,rfl⟩
  rw [hn] at H2 on_g3 lo_g3
  try simp only [hn]
  clear hW hn al H
  have H:=H2
  clear H2
  refine lss (cs':=[.bool s3,.int .u64 (h3:Int),.int .u64 (l3:Int)]) (H.out.2.2.1) rfl (by simp [Value.oneCell']) (by kernel_rfl) ?_
  have H2:=lh (show Bk (w5.setRow (g3) ([.bool s3,.int .u64 (h3:Int),.int .u64 (l3:Int)]:List Value).toArray) (g1) 179 [.bool s1,.int .u64 (h1:Int),.int .u64 (l1:Int)]∧Bk (w5.setRow (g3) ([.bool s3,.int .u64 (h3:Int),.int .u64 (l3:Int)]:List Value).toArray) (g2) 179 [.bool s2,.int .u64 (h2:Int),.int .u64 (l2:Int)]∧Bk (w5.setRow (g3) ([.bool s3,.int .u64 (h3:Int),.int .u64 (l3:Int)]:List Value).toArray) (g3) 179 [.bool s3,.int .u64 (h3:Int),.int .u64 (l3:Int)]∧Below g w (w5.setRow (g3) ([.bool s3,.int .u64 (h3:Int),.int .u64 (l3:Int)]:List Value).toArray) from ⟨(H.out.1).rowOth (by omega) _,(H.out.2.1).rowOth (by omega) _,(H.out.2.2.1).rowSet [.bool s3,.int .u64 (h3:Int),.int .u64 (l3:Int)],below_row (H.out.2.2.2) (by omega) _⟩)
  obtain ⟨w6,hW⟩:∃V,w5.setRow (g3) ([.bool s3,.int .u64 (h3:Int),.int .u64 (l3:Int)]:List Value).toArray=V:=⟨_,rfl⟩
  rw [hW] at H2
  first | rw [hW] | (simp only [hW])
  clear hW H
  have H:=H2
  clear H2
  refine wpList_nil ?_
  go_upto_region 5 with fail
  refine wp_region_held_drew (S:=fun W=>Bk W (g1) 179 [.bool s1,.int .u64 (h1:Int),.int .u64 (l1:Int)]∧Bk W (g2) 179 [.bool s2,.int .u64 (h2:Int),.int .u64 (l2:Int)]∧Bk W (g3) 179 [.bool s3,.int .u64 (h3:Int),.int .u64 (l3:Int)]∧Below g w W) (by kernel_rfl) ⟨(H.out.1).drewN 1,(H.out.2.1).drewN 1,(H.out.2.2.1).drewN 1,dBelow' (H.out.2.2.2) 1⟩ (fun hHeld=>?_)
  replace H:=lh hHeld
  obtain ⟨v0,hv⟩:∃V,w6.drew=V:=⟨_,rfl⟩
  rw [hv] at H hHeld ⊢
  clear hv
  refine tki 0 ?_
  refine tki 1 (v:=.bool s3) ?_ (y:=by (intro W hSw;have c1:=(hSw.2.2.1).cell (c:=0) rfl;go_simp;(try with_reducible rfl)))
  refine tkl 2 (fun W h=>(h.2.2.1).row) ?_
  refine tki 4 ?_
  refine tki 5 ?_
  refine tkce (R:=fun V W=>(StrV 60 V)∧(Bk W (g1) 179 [.bool s1,.int .u64 (h1:Int),.int .u64 (l1:Int)]∧Bk W (g2) 179 [.bool s2,.int .u64 (h2:Int),.int .u64 (l2:Int)]∧Bk W (g3) 179 [.bool s3,.int .u64 (h3:Int),.int .u64 (l3:Int)]∧Below g w W)) ((ndigits_w s3 h3 l3 Q3.out.1 Q3.out.2 _ (tab_keep HT.out (HG.out▸H.out.2.2.2) H2.out) (by have h9:=(H.out.2.2.2).size;have h8:=HG.out;have:=H2.out;omega)).mono fun e w' ⟨v,he,hv,hb⟩=>⟨v,he,hv,(H.out.1).keep hb,(H.out.2.1).keep hb,(H.out.2.2.1).keep hb,(H.out.2.2.2).trans (hb.mono (by have h9:=(H.out.2.2.2).size;(try have h8:=HG.out);omega))⟩) (fun _ _ h=>h.2) ?_
  clear H hHeld
  intro vv v1 Z hHeld
  obtain ⟨⟨ds,rfl,hds⟩,hC⟩:=Z.out
  have H:=lh hC
  clear Z hC
  refine tkce (R:=fun V W=>(SlII g W V)∧(Bk W (g1) 179 [.bool s1,.int .u64 (h1:Int),.int .u64 (l1:Int)]∧Bk W (g2) 179 [.bool s2,.int .u64 (h2:Int),.int .u64 (l2:Int)]∧Bk W (g3) 179 [.bool s3,.int .u64 (h3:Int),.int .u64 (l3:Int)]∧Below g w W)) ((finish_b (B:=g) (Nat.le_trans (Nat.le_of_eq HG.out.symm) (H.out.2.2.2).size) s3 ds (by omega) La HA.out.1 HA.out.2).mono fun e w' ⟨v,he,hv,hb⟩=>⟨v,he,hv,(H.out.1).keep hb,(H.out.2.1).keep hb,(H.out.2.2.1).keep hb,(H.out.2.2.2).trans (hb.mono (by have h9:=(H.out.2.2.2).size;(try have h8:=HG.out);omega))⟩) (fun _ _ h=>h.2) ?_
  clear H hHeld
  intro vv v2 Z hHeld
  obtain ⟨⟨v8,c8,k8,rfl,hv8⟩,hC⟩:=Z.out
  have H:=lh hC
  clear Z hC
  refine tki 7 ?_
  refine tki 8 ?_
  refine tki 9 ?_
  refine tki 10 ?_
  refine tki 11 ?_
  refine tki 12 ?_
  have V8:=lh hv8
  clear hv8
  refine wpAnyH_done (by with_unfolding_all rfl) ?_ _
  clear hHeld
  go_wp2
  go_ret3
  exact ⟨_,rfl,⟨_,_,_,rfl,HG.out▸V8.out⟩,HG.out▸H.out.2.2.2⟩
 ·have e1:(c == 0)=false:=by rw [beq_eq_false_iff_ne];exact hc
  clear hc
  go_wp2
  go_ret3
  exact ⟨_,rfl,⟨_,_,_,rfl,SlV.nil⟩,HG.out▸H.out.2.2⟩
theorem dsub_w (La ba ca Lb bb cb : Nat) (hA : 1 ≤ La ∧ La ≤ 16) (hB : 1 ≤ Lb ∧ Lb ≤ 16) (za zb : List Int) (w : World) (ya : Byt w (some ⟨ba, 0, none⟩) La za) (yb : Byt w (some ⟨bb, 0, none⟩) Lb zb) (ht : Lib.TabIs Tryz.prog w "internal/strconv.uint64pow10" .u64 Lib.pow10Tab) (h2 : 2 < w.heap.size) : Calls Tryz.prog 95 #[.slice (some ⟨ba, 0, none⟩) La ca, .slice (some ⟨bb, 0, none⟩) Lb cb] w fun e w' => ∃ v, e = .returned v ∧ SlII w.heap.size w' v ∧ Below w.heap.size w w' := by
 have YA:=lh ya
 have YB:=lh yb
 have HA:=lh hA
 have HB:=lh hB
 clear ya yb hA hB
 have HT:=lh ht
 have H2:=lh h2
 clear ht h2
 go_enter Tryz.func95,Tryz.ntmps95
 go_upto_region 1 with fail
 obtain ⟨g,hg⟩:∃k,w.heap.size=k:=⟨_,rfl⟩
 have H:=lh (show Below g w w from hg▸Below.refl _ _)
 have HG:=lh hg
 clear hg
 refine wp_region_lit ?_
 iterate 2 refine lsv (w':=w) ?_
 refine lsce (pair_w La ba ca Lb bb cb HA.out HB.out za zb _ (YA.out.keep (HG.out▸H.out)) (YB.out.keep (HG.out▸H.out))) ?_
 intro vv w2 Z
 obtain ⟨⟨s1,h1,l1,s2,h2,l2,c,rfl,q1,q2,q3,q4,-⟩,hb⟩:=Z.out
 replace H:=lh (show Below g w w2 from (H.out).trans (hb.mono (by have h9:=(H.out).size;(try have h8:=HG.out);omega)))
 clear Z hb
 have QQ:=lh (⟨q1,q2,q3,q4⟩:h1<18446744073709551616∧l1<18446744073709551616∧h2<18446744073709551616∧l2<18446744073709551616)
 clear q1 q2 q3 q4
 iterate 4 refine lsv (w':=w2) ?_
 refine lsv (v:=.pointer (some ⟨w2.heap.size,0,none⟩)) (w':=w2.alloc (.cells #[.bool false,.int .u64 (0:Int),.int .u64 (0:Int)] 179)) ?_
 have al:=(Below.refl w2.heap.size w2).alloc (Nat.le_refl _) (.cells #[.bool false,.int .u64 (0:Int),.int .u64 (0:Int)] 179)
 have lo_g1:=Nat.le_trans (Nat.le_of_eq HG.out.symm) (H.out).size
 have H2:=lh (show Bk (w2.alloc (.cells #[.bool false,.int .u64 (0:Int),.int .u64 (0:Int)] 179)) (w2.heap.size) 179 [.bool false,.int .u64 (0:Int),.int .u64 (0:Int)]∧Below g w (w2.alloc (.cells #[.bool false,.int .u64 (0:Int),.int .u64 (0:Int)] 179)) from ⟨Bk.new w2 [.bool false,.int .u64 (0:Int),.int .u64 (0:Int)] 179,(H.out).trans (al.mono (by have h9:=(H.out).size;(try have h8:=HG.out);omega))⟩)
 obtain ⟨w1,hW⟩:∃V,w2.alloc (.cells #[.bool false,.int .u64 (0:Int),.int .u64 (0:Int)] 179)=V:=⟨_,rfl⟩
 rw [hW] at H2
 first | rw [hW] | simp only [hW]
 obtain ⟨g1,hn⟩:∃k,w2.heap.size=k:=⟨_,rfl⟩
 rw [hn] at H2 lo_g1
 try simp only [hn]
 clear hW hn al H
 have H:=H2
 clear H2
 refine lsv (v:=.pointer (some ⟨w1.heap.size,0,none⟩)) (w':=w1.alloc (.cells #[.bool false,.int .u64 (0:Int),.int .u64 (0:Int)] 179)) ?_
 have al:=(Below.refl w1.heap.size w1).alloc (Nat.le_refl _) (.cells #[.bool false,.int .u64 (0:Int),.int .u64 (0:Int)] 179)
 have on_g2:=(H.out.1).lt
 have lo_g2:=Nat.le_trans (Nat.le_of_eq HG.out.symm) (H.out.2).size
 have H2:=lh (show Bk (w1.alloc (.cells #[.bool false,.int .u64 (0:Int),.int .u64 (0:Int)] 179)) (g1) 179 [.bool false,.int .u64 (0:Int),.int .u64 (0:Int)]∧Bk (w1.alloc (.cells #[.bool false,.int .u64 (0:Int),.int .u64 (0:Int)] 179)) (w1.heap.size) 179 [.bool false,.int .u64 (0:Int),.int .u64 (0:Int)]∧Below g w (w1.alloc (.cells #[.bool false,.int .u64 (0:Int),.int .u64 (0:Int)] 179)) from ⟨(H.out.1).keep al,Bk.new w1 [.bool false,.int .u64 (0:Int),.int .u64 (0:Int)] 179,(H.out.2).trans (al.mono (by have h9:=(H.out.2).size;(try have h8:=HG.out);omega))⟩)
 obtain ⟨w2,hW⟩:∃V,w1.alloc (.cells #[.bool false,.int .u64 (0:Int),.int .u64 (0:Int)] 179)=V:=⟨_,rfl⟩
 rw [hW] at H2
 first | rw [hW] | simp only [hW]
 obtain ⟨g2,hn⟩:∃k,w1.heap.size=k:=⟨_,rfl⟩
 rw [hn] at H2 on_g2 lo_g2
 try simp only [hn]
 clear hW hn al H
 have H:=H2
 clear H2
 refine lss (cs':=[.bool s1,.int .u64 (h1:Int),.int .u64 (l1:Int)]) (H.out.1) rfl (by simp [Value.oneCell']) (by kernel_rfl) ?_
 have H2:=lh (show Bk (w2.setRow (g1) ([.bool s1,.int .u64 (h1:Int),.int .u64 (l1:Int)]:List Value).toArray) (g1) 179 [.bool s1,.int .u64 (h1:Int),.int .u64 (l1:Int)]∧Bk (w2.setRow (g1) ([.bool s1,.int .u64 (h1:Int),.int .u64 (l1:Int)]:List Value).toArray) (g2) 179 [.bool false,.int .u64 (0:Int),.int .u64 (0:Int)]∧Below g w (w2.setRow (g1) ([.bool s1,.int .u64 (h1:Int),.int .u64 (l1:Int)]:List Value).toArray) from ⟨(H.out.1).rowSet [.bool s1,.int .u64 (h1:Int),.int .u64 (l1:Int)],(H.out.2.1).rowOth (by omega) _,below_row (H.out.2.2) (by omega) _⟩)
 obtain ⟨w3,hW⟩:∃V,w2.setRow (g1) ([.bool s1,.int .u64 (h1:Int),.int .u64 (l1:Int)]:List Value).toArray=V:=⟨_,rfl⟩
 rw [hW] at H2
 first | rw [hW] | (simp only [hW])
 clear hW H
 have H:=H2
 clear H2
 refine lss (cs':=[.bool s2,.int .u64 (h2:Int),.int .u64 (l2:Int)]) (H.out.2.1) rfl (by simp [Value.oneCell']) (by kernel_rfl) ?_
 have H2:=lh (show Bk (w3.setRow (g2) ([.bool s2,.int .u64 (h2:Int),.int .u64 (l2:Int)]:List Value).toArray) (g1) 179 [.bool s1,.int .u64 (h1:Int),.int .u64 (l1:Int)]∧Bk (w3.setRow (g2) ([.bool s2,.int .u64 (h2:Int),.int .u64 (l2:Int)]:List Value).toArray) (g2) 179 [.bool s2,.int .u64 (h2:Int),.int .u64 (l2:Int)]∧Below g w (w3.setRow (g2) ([.bool s2,.int .u64 (h2:Int),.int .u64 (l2:Int)]:List Value).toArray) from ⟨(H.out.1).rowOth (by omega) _,(H.out.2.1).rowSet [.bool s2,.int .u64 (h2:Int),.int .u64 (l2:Int)],below_row (H.out.2.2) (by omega) _⟩)
 obtain ⟨w4,hW⟩:∃V,w3.setRow (g2) ([.bool s2,.int .u64 (h2:Int),.int .u64 (l2:Int)]:List Value).toArray=V:=⟨_,rfl⟩
 rw [hW] at H2
 first | rw [hW] | (simp only [hW])
 clear hW H
 have H:=H2
 clear H2
 refine lsv (w':=w4) ?_
 refine wpList_nil ?_
 by_cases hc:c=0
 ·subst hc
  have c0_0:=(H.out.1).cell (c:=0) rfl
  have c0_1:=(H.out.1).cell (c:=1) rfl
  have c0_2:=(H.out.1).cell (c:=2) rfl
  have f0:=(H.out.1).free
  have c1_0:=(H.out.2.1).cell (c:=0) rfl
  have c1_1:=(H.out.2.1).cell (c:=1) rfl
  have c1_2:=(H.out.2.1).cell (c:=2) rfl
  have f1:=(H.out.2.1).free
  go_upto_region 4 with fail
  refine wp_region_lit ?_
  refine lsv (w':=w4) ?_
  refine lsv (v:=.bool s2) (w':=w4) ?_
  refine lsv (v:=.bool (!s2)) (w':=w4) ?_
  refine lsv (w':=w4) ?_
  clear c0_0 c0_1 c0_2 f0 c1_0 c1_1 c1_2 f1
  refine lsk (w':=(w4.setCell ⟨g2,0,none⟩ (.bool (!s2)))) (by have f:=(H.out.2.1).free;have c9:=(H.out.2.1).cell (c:=0) rfl;unfold execOp;go_simp;(try rfl)) ?_
  have H3:=lh (show Bk (w4.setCell ⟨g2,0,none⟩ (.bool (!s2))) (g1) 179 [.bool s1,.int .u64 (h1:Int),.int .u64 (l1:Int)]∧Bk (w4.setCell ⟨g2,0,none⟩ (.bool (!s2))) (g2) 179 [.bool (!s2),.int .u64 (h2:Int),.int .u64 (l2:Int)]∧Below g w (w4.setCell ⟨g2,0,none⟩ (.bool (!s2))) from ⟨(H.out.1).other _ (by show g2≠g1;omega),(H.out.2.1).set_ 0 _,(H.out.2.2).setCell (by show _≤g2;omega) _⟩)
  obtain ⟨w5,hW⟩:∃V,(w4.setCell ⟨g2,0,none⟩ (.bool (!s2)))=V:=⟨_,rfl⟩
  rw [hW] at H3
  first | rw [hW] | (simp only [hW])
  clear hW H
  have H:=H3
  clear H3
  refine wpList_nil ?_
  go_upto_region 5 with fail
  refine wp_region_lit ?_
  refine lsl (H.out.1) ?_
  refine lsl (H.out.2.1) ?_
  refine lsce (nadd_c s1 h1 l1 (!s2) h2 l2 QQ.out.1 QQ.out.2.1 QQ.out.2.2.1 QQ.out.2.2.2 _) ?_
  intro vv w9 Z
  obtain ⟨⟨s3,h3,l3,rfl,q5,q6⟩,hb⟩:=Z.out
  replace H:=lh (show Bk w9 (g1) 179 [.bool s1,.int .u64 (h1:Int),.int .u64 (l1:Int)]∧Bk w9 (g2) 179 [.bool (!s2),.int .u64 (h2:Int),.int .u64 (l2:Int)]∧Below g w w9 from ⟨(H.out.1).keep hb,(H.out.2.1).keep hb,(H.out.2.2).trans (hb.mono (by have h9:=(H.out.2.2).size;(try have h8:=HG.out);omega))⟩)
  clear Z hb
  have Q3:=lh (⟨q5,q6⟩:h3<18446744073709551616∧l3<18446744073709551616)
  clear q5 q6 QQ
  refine lsv (v:=.pointer (some ⟨w9.heap.size,0,none⟩)) (w':=w9.alloc (.cells #[.bool false,.int .u64 (0:Int),.int .u64 (0:Int)] 179)) ?_
  have al:=(Below.refl w9.heap.size w9).alloc (Nat.le_refl _) (.cells #[.bool false,.int .u64 (0:Int),.int .u64 (0:Int)] 179)
  have on_g3:=(H.out.2.1).lt
  have lo_g3:=Nat.le_trans (Nat.le_of_eq HG.out.symm) (H.out.2.2).size
  have H2:=lh (show Bk (w9.alloc (.cells #[.bool false,.int .u64 (0:Int),.int .u64 (0:Int)] 179)) (g1) 179 [.bool s1,.int .u64 (h1:Int),.int .u64 (l1:Int)]∧Bk (w9.alloc (.cells #[.bool false,.int .u64 (0:Int),.int .u64 (0:Int)] 179)) (g2) 179 [.bool (!s2),.int .u64 (h2:Int),.int .u64 (l2:Int)]∧Bk (w9.alloc (.cells #[.bool false,.int .u64 (0:Int),.int .u64 (0:Int)] 179)) (w9.heap.size) 179 [.bool false,.int .u64 (0:Int),.int .u64 (0:Int)]∧Below g w (w9.alloc (.cells #[.bool false,.int .u64 (0:Int),.int .u64 (0:Int)] 179)) from ⟨(H.out.1).keep al,(H.out.2.1).keep al,Bk.new w9 [.bool false,.int .u64 (0:Int),.int .u64 (0:Int)] 179,(H.out.2.2).trans (al.mono (by have h9:=(H.out.2.2).size;(try have h8:=HG.out);omega))⟩)
  obtain ⟨w6,hW⟩:∃V,w9.alloc (.cells #[.bool false,.int .u64 (0:Int),.int .u64 (0:Int)] 179)=V:=⟨_,rfl⟩
  rw [hW] at H2
  first | rw [hW] | simp only [hW]
  obtain ⟨g3,hn⟩:∃k,w9.heap.size=k:=⟨_,rfl⟩
  rw [hn] at H2 on_g3 lo_g3
  try simp only [hn]
  clear hW hn al H
  have H:=H2
  clear H2
  refine lss (cs':=[.bool s3,.int .u64 (h3:Int),.int .u64 (l3:Int)]) (H.out.2.2.1) rfl (by simp [Value.oneCell']) (by kernel_rfl) ?_
  have H2:=lh (show Bk (w6.setRow (g3) ([.bool s3,.int .u64 (h3:Int),.int .u64 (l3:Int)]:List Value).toArray) (g1) 179 [.bool s1,.int .u64 (h1:Int),.int .u64 (l1:Int)]∧Bk (w6.setRow (g3) ([.bool s3,.int .u64 (h3:Int),.int .u64 (l3:Int)]:List Value).toArray) (g2) 179 [.bool (!s2),.int .u64 (h2:Int),.int .u64 (l2:Int)]∧Bk (w6.setRow (g3) ([.bool s3,.int .u64 (h3:Int),.int .u64 (l3:Int)]:List Value).toArray) (g3) 179 [.bool s3,.int .u64 (h3:Int),.int .u64 (l3:Int)]∧Below g w (w6.setRow (g3) ([.bool s3,.int .u64 (h3:Int),.int .u64 (l3:Int)]:List Value).toArray) from ⟨(H.out.1).rowOth (by omega) _,(H.out.2.1).rowOth (by omega) _,(H.out.2.2.1).rowSet [.bool s3,.int .u64 (h3:Int),.int .u64 (l3:Int)],below_row (H.out.2.2.2) (by omega) _⟩)
  obtain ⟨w7,hW⟩:∃V,w6.setRow (g3) ([.bool s3,.int .u64 (h3:Int),.int .u64 (l3:Int)]:List Value).toArray=V:=⟨_,rfl⟩
  rw [hW] at H2
  first | rw [hW] | (simp only [hW])
  clear hW H
  have H:=H2
  clear H2
  refine wpList_nil ?_
  go_upto_region 6 with fail
  refine wp_region_held_drew (S:=fun W=>Bk W (g1) 179 [.bool s1,.int .u64 (h1:Int),.int .u64 (l1:Int)]∧Bk W (g2) 179 [.bool (!s2),.int .u64 (h2:Int),.int .u64 (l2:Int)]∧Bk W (g3) 179 [.bool s3,.int .u64 (h3:Int),.int .u64 (l3:Int)]∧Below g w W) (by kernel_rfl) ⟨(H.out.1).drewN 1,(H.out.2.1).drewN 1,(H.out.2.2.1).drewN 1,dBelow' (H.out.2.2.2) 1⟩ (fun hHeld=>?_)
  replace H:=lh hHeld
  obtain ⟨v0,hv⟩:∃V,w7.drew=V:=⟨_,rfl⟩
  rw [hv] at H hHeld ⊢
  clear hv
  refine tki 0 ?_
  refine tki 1 (v:=.bool s3) ?_ (y:=by (intro W hSw;have c1:=(hSw.2.2.1).cell (c:=0) rfl;go_simp;(try with_reducible rfl)))
  refine tkl 2 (fun W h=>(h.2.2.1).row) ?_
  refine tki 4 ?_
  refine tki 5 ?_
  refine tkce (R:=fun V W=>(StrV 60 V)∧(Bk W (g1) 179 [.bool s1,.int .u64 (h1:Int),.int .u64 (l1:Int)]∧Bk W (g2) 179 [.bool (!s2),.int .u64 (h2:Int),.int .u64 (l2:Int)]∧Bk W (g3) 179 [.bool s3,.int .u64 (h3:Int),.int .u64 (l3:Int)]∧Below g w W)) ((ndigits_w s3 h3 l3 Q3.out.1 Q3.out.2 _ (tab_keep HT.out (HG.out▸H.out.2.2.2) H2.out) (by have h9:=(H.out.2.2.2).size;have h8:=HG.out;have:=H2.out;omega)).mono fun e w' ⟨v,he,hv,hb⟩=>⟨v,he,hv,(H.out.1).keep hb,(H.out.2.1).keep hb,(H.out.2.2.1).keep hb,(H.out.2.2.2).trans (hb.mono (by have h9:=(H.out.2.2.2).size;(try have h8:=HG.out);omega))⟩) (fun _ _ h=>h.2) ?_
  clear H hHeld
  intro vv v1 Z hHeld
  obtain ⟨⟨ds,rfl,hds⟩,hC⟩:=Z.out
  have H:=lh hC
  clear Z hC
  refine tkce (R:=fun V W=>(SlII g W V)∧(Bk W (g1) 179 [.bool s1,.int .u64 (h1:Int),.int .u64 (l1:Int)]∧Bk W (g2) 179 [.bool (!s2),.int .u64 (h2:Int),.int .u64 (l2:Int)]∧Bk W (g3) 179 [.bool s3,.int .u64 (h3:Int),.int .u64 (l3:Int)]∧Below g w W)) ((finish_b (B:=g) (Nat.le_trans (Nat.le_of_eq HG.out.symm) (H.out.2.2.2).size) s3 ds (by omega) La HA.out.1 HA.out.2).mono fun e w' ⟨v,he,hv,hb⟩=>⟨v,he,hv,(H.out.1).keep hb,(H.out.2.1).keep hb,(H.out.2.2.1).keep hb,(H.out.2.2.2).trans (hb.mono (by have h9:=(H.out.2.2.2).size;(try have h8:=HG.out);omega))⟩) (fun _ _ h=>h.2) ?_
  clear H hHeld
  intro vv v2 Z hHeld
  obtain ⟨⟨v8,c8,k8,rfl,hv8⟩,hC⟩:=Z.out
  have H:=lh hC
  clear Z hC
  refine tki 7 ?_
  refine tki 8 ?_
  refine tki 9 ?_
  refine tki 10 ?_
  refine tki 11 ?_
  refine tki 12 ?_
  have V8:=lh hv8
  clear hv8
  refine wpAnyH_done (by with_unfolding_all rfl) ?_ _
  clear hHeld
  go_wp2
  go_ret3
  exact ⟨_,rfl,⟨_,_,_,rfl,HG.out▸V8.out⟩,HG.out▸H.out.2.2.2⟩
 ·have e1:(c == 0)=false:=by rw [beq_eq_false_iff_ne];exact hc
  clear hc
  go_wp2
  go_ret3
  exact ⟨_,rfl,⟨_,_,_,rfl,SlV.nil⟩,HG.out▸H.out.2.2⟩
theorem dcmp_w (La ba ca Lb bb cb : Nat) (hA : 1 ≤ La ∧ La ≤ 16) (hB : 1 ≤ Lb ∧ Lb ≤ 16) (za zb : List Int) (w : World) (ya : Byt w (some ⟨ba, 0, none⟩) La za) (yb : Byt w (some ⟨bb, 0, none⟩) Lb zb) (ht : Lib.TabIs Tryz.prog w "internal/strconv.uint64pow10" .u64 Lib.pow10Tab) (h2 : 2 < w.heap.size) : Calls Tryz.prog 96 #[.slice (some ⟨ba, 0, none⟩) La ca, .slice (some ⟨bb, 0, none⟩) Lb cb] w fun e w' => ∃ v, e = .returned v ∧ IIV v ∧ Below w.heap.size w w' := by
 have YA:=lh ya
 have YB:=lh yb
 have HA:=lh hA
 have HB:=lh hB
 clear ya yb hA hB
 have HT:=lh ht
 have H2:=lh h2
 clear ht h2
 go_enter Tryz.func96,Tryz.ntmps96
 go_upto_region 1 with fail
 obtain ⟨g,hg⟩:∃k,w.heap.size=k:=⟨_,rfl⟩
 have H:=lh (show Below g w w from hg▸Below.refl _ _)
 have HG:=lh hg
 clear hg
 refine wp_region_lit ?_
 iterate 2 refine lsv (w':=w) ?_
 refine lsce (pair_w La ba ca Lb bb cb HA.out HB.out za zb _ (YA.out.keep (HG.out▸H.out)) (YB.out.keep (HG.out▸H.out))) ?_
 intro vv w2 Z
 obtain ⟨⟨s1,h1,l1,s2,h2,l2,c,rfl,q1,q2,q3,q4,-⟩,hb⟩:=Z.out
 replace H:=lh (show Below g w w2 from (H.out).trans (hb.mono (by have h9:=(H.out).size;(try have h8:=HG.out);omega)))
 clear Z hb
 have QQ:=lh (⟨q1,q2,q3,q4⟩:h1<18446744073709551616∧l1<18446744073709551616∧h2<18446744073709551616∧l2<18446744073709551616)
 clear q1 q2 q3 q4
 iterate 4 refine lsv (w':=w2) ?_
 refine lsv (v:=.pointer (some ⟨w2.heap.size,0,none⟩)) (w':=w2.alloc (.cells #[.bool false,.int .u64 (0:Int),.int .u64 (0:Int)] 179)) ?_
 have al:=(Below.refl w2.heap.size w2).alloc (Nat.le_refl _) (.cells #[.bool false,.int .u64 (0:Int),.int .u64 (0:Int)] 179)
 have lo_g1:=Nat.le_trans (Nat.le_of_eq HG.out.symm) (H.out).size
 have H2:=lh (show Bk (w2.alloc (.cells #[.bool false,.int .u64 (0:Int),.int .u64 (0:Int)] 179)) (w2.heap.size) 179 [.bool false,.int .u64 (0:Int),.int .u64 (0:Int)]∧Below g w (w2.alloc (.cells #[.bool false,.int .u64 (0:Int),.int .u64 (0:Int)] 179)) from ⟨Bk.new w2 [.bool false,.int .u64 (0:Int),.int .u64 (0:Int)] 179,(H.out).trans (al.mono (by have h9:=(H.out).size;(try have h8:=HG.out);omega))⟩)
 obtain ⟨w1,hW⟩:∃V,w2.alloc (.cells #[.bool false,.int .u64 (0:Int),.int .u64 (0:Int)] 179)=V:=⟨_,rfl⟩
 rw [hW] at H2
 first | rw [hW] | simp only [hW]
 obtain ⟨g1,hn⟩:∃k,w2.heap.size=k:=⟨_,rfl⟩
 rw [hn] at H2 lo_g1
 try simp only [hn]
 clear hW hn al H
 have H:=H2
 clear H2
 refine lsv (v:=.pointer (some ⟨w1.heap.size,0,none⟩)) (w':=w1.alloc (.cells #[.bool false,.int .u64 (0:Int),.int .u64 (0:Int)] 179)) ?_
 have al:=(Below.refl w1.heap.size w1).alloc (Nat.le_refl _) (.cells #[.bool false,.int .u64 (0:Int),.int .u64 (0:Int)] 179)
 have on_g2:=(H.out.1).lt
 have lo_g2:=Nat.le_trans (Nat.le_of_eq HG.out.symm) (H.out.2).size
 have H2:=lh (show Bk (w1.alloc (.cells #[.bool false,.int .u64 (0:Int),.int .u64 (0:Int)] 179)) (g1) 179 [.bool false,.int .u64 (0:Int),.int .u64 (0:Int)]∧Bk (w1.alloc (.cells #[.bool false,.int .u64 (0:Int),.int .u64 (0:Int)] 179)) (w1.heap.size) 179 [.bool false,.int .u64 (0:Int),.int .u64 (0:Int)]∧Below g w (w1.alloc (.cells #[.bool false,.int .u64 (0:Int),.int .u64 (0:Int)] 179)) from ⟨(H.out.1).keep al,Bk.new w1 [.bool false,.int .u64 (0:Int),.int .u64 (0:Int)] 179,(H.out.2).trans (al.mono (by have h9:=(H.out.2).size;(try have h8:=HG.out);omega))⟩)
 obtain ⟨w2,hW⟩:∃V,w1.alloc (.cells #[.bool false,.int .u64 (0:Int),.int .u64 (0:Int)] 179)=V:=⟨_,rfl⟩
 rw [hW] at H2
 first | rw [hW] | simp only [hW]
 obtain ⟨g2,hn⟩:∃k,w1.heap.size=k:=⟨_,rfl⟩
 rw [hn] at H2 on_g2 lo_g2
 try simp only [hn]
 clear hW hn al H
 have H:=H2
 clear H2
 refine lss (cs':=[.bool s1,.int .u64 (h1:Int),.int .u64 (l1:Int)]) (H.out.1) rfl (by simp [Value.oneCell']) (by kernel_rfl) ?_
 have H2:=lh (show Bk (w2.setRow (g1) ([.bool s1,.int .u64 (h1:Int),.int .u64 (l1:Int)]:List Value).toArray) (g1) 179 [.bool s1,.int .u64 (h1:Int),.int .u64 (l1:Int)]∧Bk (w2.setRow (g1) ([.bool s1,.int .u64 (h1:Int),.int .u64 (l1:Int)]:List Value).toArray) (g2) 179 [.bool false,.int .u64 (0:Int),.int .u64 (0:Int)]∧Below g w (w2.setRow (g1) ([.bool s1,.int .u64 (h1:Int),.int .u64 (l1:Int)]:List Value).toArray) from ⟨(H.out.1).rowSet [.bool s1,.int .u64 (h1:Int),.int .u64 (l1:Int)],(H.out.2.1).rowOth (by omega) _,below_row (H.out.2.2) (by omega) _⟩)
 obtain ⟨w3,hW⟩:∃V,w2.setRow (g1) ([.bool s1,.int .u64 (h1:Int),.int .u64 (l1:Int)]:List Value).toArray=V:=⟨_,rfl⟩
 rw [hW] at H2
 first | rw [hW] | (simp only [hW])
 clear hW H
 have H:=H2
 clear H2
 refine lss (cs':=[.bool s2,.int .u64 (h2:Int),.int .u64 (l2:Int)]) (H.out.2.1) rfl (by simp [Value.oneCell']) (by kernel_rfl) ?_
 have H2:=lh (show Bk (w3.setRow (g2) ([.bool s2,.int .u64 (h2:Int),.int .u64 (l2:Int)]:List Value).toArray) (g1) 179 [.bool s1,.int .u64 (h1:Int),.int .u64 (l1:Int)]∧Bk (w3.setRow (g2) ([.bool s2,.int .u64 (h2:Int),.int .u64 (l2:Int)]:List Value).toArray) (g2) 179 [.bool s2,.int .u64 (h2:Int),.int .u64 (l2:Int)]∧Below g w (w3.setRow (g2) ([.bool s2,.int .u64 (h2:Int),.int .u64 (l2:Int)]:List Value).toArray) from ⟨(H.out.1).rowOth (by omega) _,(H.out.2.1).rowSet [.bool s2,.int .u64 (h2:Int),.int .u64 (l2:Int)],below_row (H.out.2.2) (by omega) _⟩)
 obtain ⟨w4,hW⟩:∃V,w3.setRow (g2) ([.bool s2,.int .u64 (h2:Int),.int .u64 (l2:Int)]:List Value).toArray=V:=⟨_,rfl⟩
 rw [hW] at H2
 first | rw [hW] | (simp only [hW])
 clear hW H
 have H:=H2
 clear H2
 refine lsv (w':=w4) ?_
 refine wpList_nil ?_
 by_cases hc:c=0
 ·subst hc
  have c0_0:=(H.out.1).cell (c:=0) rfl
  have c0_1:=(H.out.1).cell (c:=1) rfl
  have c0_2:=(H.out.1).cell (c:=2) rfl
  have f0:=(H.out.1).free
  have c1_0:=(H.out.2.1).cell (c:=0) rfl
  have c1_1:=(H.out.2.1).cell (c:=1) rfl
  have c1_2:=(H.out.2.1).cell (c:=2) rfl
  have f1:=(H.out.2.1).free
  go_upto_region 4 with fail
  refine wp_region_lit ?_
  refine lsv (w':=w4) ?_
  refine lsv (v:=.bool s2) (w':=w4) ?_
  refine lsv (v:=.bool (!s2)) (w':=w4) ?_
  refine lsv (w':=w4) ?_
  clear c0_0 c0_1 c0_2 f0 c1_0 c1_1 c1_2 f1
  refine lsk (w':=(w4.setCell ⟨g2,0,none⟩ (.bool (!s2)))) (by have f:=(H.out.2.1).free;have c9:=(H.out.2.1).cell (c:=0) rfl;unfold execOp;go_simp;(try rfl)) ?_
  have H3:=lh (show Bk (w4.setCell ⟨g2,0,none⟩ (.bool (!s2))) (g1) 179 [.bool s1,.int .u64 (h1:Int),.int .u64 (l1:Int)]∧Bk (w4.setCell ⟨g2,0,none⟩ (.bool (!s2))) (g2) 179 [.bool (!s2),.int .u64 (h2:Int),.int .u64 (l2:Int)]∧Below g w (w4.setCell ⟨g2,0,none⟩ (.bool (!s2))) from ⟨(H.out.1).other _ (by show g2≠g1;omega),(H.out.2.1).set_ 0 _,(H.out.2.2).setCell (by show _≤g2;omega) _⟩)
  obtain ⟨w5,hW⟩:∃V,(w4.setCell ⟨g2,0,none⟩ (.bool (!s2)))=V:=⟨_,rfl⟩
  rw [hW] at H3
  first | rw [hW] | (simp only [hW])
  clear hW H
  have H:=H3
  clear H3
  refine wpList_nil ?_
  go_upto_region 5 with fail
  refine wp_region_lit ?_
  refine lsl (H.out.1) ?_
  refine lsl (H.out.2.1) ?_
  refine lsce (nadd_c s1 h1 l1 (!s2) h2 l2 QQ.out.1 QQ.out.2.1 QQ.out.2.2.1 QQ.out.2.2.2 _) ?_
  intro vv w9 Z
  obtain ⟨⟨s3,h3,l3,rfl,q5,q6⟩,hb⟩:=Z.out
  replace H:=lh (show Bk w9 (g1) 179 [.bool s1,.int .u64 (h1:Int),.int .u64 (l1:Int)]∧Bk w9 (g2) 179 [.bool (!s2),.int .u64 (h2:Int),.int .u64 (l2:Int)]∧Below g w w9 from ⟨(H.out.1).keep hb,(H.out.2.1).keep hb,(H.out.2.2).trans (hb.mono (by have h9:=(H.out.2.2).size;(try have h8:=HG.out);omega))⟩)
  clear Z hb
  have Q3:=lh (⟨q5,q6⟩:h3<18446744073709551616∧l3<18446744073709551616)
  clear q5 q6 QQ
  refine lsv (v:=.pointer (some ⟨w9.heap.size,0,none⟩)) (w':=w9.alloc (.cells #[.bool false,.int .u64 (0:Int),.int .u64 (0:Int)] 179)) ?_
  have al:=(Below.refl w9.heap.size w9).alloc (Nat.le_refl _) (.cells #[.bool false,.int .u64 (0:Int),.int .u64 (0:Int)] 179)
  have on_g3:=(H.out.2.1).lt
  have lo_g3:=Nat.le_trans (Nat.le_of_eq HG.out.symm) (H.out.2.2).size
  have H2:=lh (show Bk (w9.alloc (.cells #[.bool false,.int .u64 (0:Int),.int .u64 (0:Int)] 179)) (g1) 179 [.bool s1,.int .u64 (h1:Int),.int .u64 (l1:Int)]∧Bk (w9.alloc (.cells #[.bool false,.int .u64 (0:Int),.int .u64 (0:Int)] 179)) (g2) 179 [.bool (!s2),.int .u64 (h2:Int),.int .u64 (l2:Int)]∧Bk (w9.alloc (.cells #[.bool false,.int .u64 (0:Int),.int .u64 (0:Int)] 179)) (w9.heap.size) 179 [.bool false,.int .u64 (0:Int),.int .u64 (0:Int)]∧Below g w (w9.alloc (.cells #[.bool false,.int .u64 (0:Int),.int .u64 (0:Int)] 179)) from ⟨(H.out.1).keep al,(H.out.2.1).keep al,Bk.new w9 [.bool false,.int .u64 (0:Int),.int .u64 (0:Int)] 179,(H.out.2.2).trans (al.mono (by have h9:=(H.out.2.2).size;(try have h8:=HG.out);omega))⟩)
  obtain ⟨w6,hW⟩:∃V,w9.alloc (.cells #[.bool false,.int .u64 (0:Int),.int .u64 (0:Int)] 179)=V:=⟨_,rfl⟩
  rw [hW] at H2
  first | rw [hW] | simp only [hW]
  obtain ⟨g3,hn⟩:∃k,w9.heap.size=k:=⟨_,rfl⟩
  rw [hn] at H2 on_g3 lo_g3
  try simp only [hn]
  clear hW hn al H
  have H:=H2
  clear H2
  refine lss (cs':=[.bool s3,.int .u64 (h3:Int),.int .u64 (l3:Int)]) (H.out.2.2.1) rfl (by simp [Value.oneCell']) (by kernel_rfl) ?_
  have H2:=lh (show Bk (w6.setRow (g3) ([.bool s3,.int .u64 (h3:Int),.int .u64 (l3:Int)]:List Value).toArray) (g1) 179 [.bool s1,.int .u64 (h1:Int),.int .u64 (l1:Int)]∧Bk (w6.setRow (g3) ([.bool s3,.int .u64 (h3:Int),.int .u64 (l3:Int)]:List Value).toArray) (g2) 179 [.bool (!s2),.int .u64 (h2:Int),.int .u64 (l2:Int)]∧Bk (w6.setRow (g3) ([.bool s3,.int .u64 (h3:Int),.int .u64 (l3:Int)]:List Value).toArray) (g3) 179 [.bool s3,.int .u64 (h3:Int),.int .u64 (l3:Int)]∧Below g w (w6.setRow (g3) ([.bool s3,.int .u64 (h3:Int),.int .u64 (l3:Int)]:List Value).toArray) from ⟨(H.out.1).rowOth (by omega) _,(H.out.2.1).rowOth (by omega) _,(H.out.2.2.1).rowSet [.bool s3,.int .u64 (h3:Int),.int .u64 (l3:Int)],below_row (H.out.2.2.2) (by omega) _⟩)
  obtain ⟨w7,hW⟩:∃V,w6.setRow (g3) ([.bool s3,.int .u64 (h3:Int),.int .u64 (l3:Int)]:List Value).toArray=V:=⟨_,rfl⟩
  rw [hW] at H2
  first | rw [hW] | (simp only [hW])
  clear hW H
  have H:=H2
  clear H2
  refine wpList_nil ?_
  obtain ⟨zb,hz⟩:∃b,decide (h3=0∧l3=0)=b:=⟨_,rfl⟩
  have NZ:=nzero_c s3 h3 l3
  simp only [hz] at NZ
  clear hz
  go_upto_region 6 with fail
  refine wp_region_lit ?_
  refine lsl (H.out.2.2.1) ?_
  refine lsc (NZ _) ?_
  clear NZ
  intro w20 hb0
  have hb:=hb0.out
  replace H:=lh (show Bk w20 (g1) 179 [.bool s1,.int .u64 (h1:Int),.int .u64 (l1:Int)]∧Bk w20 (g2) 179 [.bool (!s2),.int .u64 (h2:Int),.int .u64 (l2:Int)]∧Bk w20 (g3) 179 [.bool s3,.int .u64 (h3:Int),.int .u64 (l3:Int)]∧Below g w w20 from ⟨(H.out.1).keep hb,(H.out.2.1).keep hb,(H.out.2.2.1).keep hb,(H.out.2.2.2).trans (hb.mono (by have h9:=(H.out.2.2.2).size;(try have h8:=HG.out);omega))⟩)
  clear hb0 hb
  refine lsv (w':=w20) ?_
  refine wpList_nil ?_
  cases zb
  ·have c2_0:=(H.out.2.2.1).cell (c:=0) rfl
   have c2_1:=(H.out.2.2.1).cell (c:=1) rfl
   have c2_2:=(H.out.2.2.1).cell (c:=2) rfl
   have f2:=(H.out.2.2.1).free
   cases s3
   all_goals
    go_wp2
    go_ret2
    exact ⟨_,rfl,⟨_,_,rfl⟩,HG.out▸H.out.2.2.2⟩
  ·have c2_0:=(H.out.2.2.1).cell (c:=0) rfl
   have c2_1:=(H.out.2.2.1).cell (c:=1) rfl
   have c2_2:=(H.out.2.2.1).cell (c:=2) rfl
   have f2:=(H.out.2.2.1).free
   go_wp2
   go_ret2
   exact ⟨_,rfl,⟨_,_,rfl⟩,HG.out▸H.out.2.2.2⟩
 ·have e1:(c == 0)=false:=by rw [beq_eq_false_iff_ne];exact hc
  clear hc
  go_wp2
  go_ret2
  exact ⟨_,rfl,⟨_,_,rfl⟩,HG.out▸H.out.2.2⟩
theorem zap_w (n:Nat) (hn:1≤n∧n≤16) (Lb bb cb:Nat) (hB:1≤Lb∧Lb≤16) (zb:List Int) (w:World) (yb:Byt w (some ⟨bb,0,none⟩) Lb zb):Calls Tryz.prog 93 #[.int .i64 (n:Int),.slice (some ⟨bb,0,none⟩) Lb cb] w fun e w'=>∃v,e=.returned v∧SlII w.heap.size w' v∧Below w.heap.size w w':=by
 have YB:=lh yb
 have HN:=lh hn
 have HB:=lh hB
 clear yb hn hB
 go_enter Tryz.func93,Tryz.ntmps93
 go_upto_region 1 with fail
 obtain ⟨g,hg⟩:∃k,w.heap.size=k:=⟨_,rfl⟩
 have H:=lh (show Below g w w from hg▸Below.refl _ _)
 have HG:=lh hg
 clear hg
 refine wp_region_lit ?_
 refine lsv (w':=w) ?_
 refine lsc (dsize_c HN.out _) ?_
 intro wq hw
 obtain rfl:=hw.out
 clear hw
 iterate 4 refine lsv (w':=w) ?_
 refine lsc (dsize_c HB.out _) ?_
 intro wq hw
 obtain rfl:=hw.out
 clear hw
 iterate 2 refine lsv (w':=w) ?_
 refine wpList_nil ?_
 go_upto_region 3 with fail
 refine wp_region_lit ?_
 refine lsv (w':=w) ?_
 refine lsce (decode_w Lb bb cb HB.out zb _ (YB.out.keep (HG.out▸H.out))) ?_
 intro vv w2 Z
 obtain ⟨⟨neg,ds,ok,rfl,hds⟩,hb⟩:=Z.out
 replace H:=lh (show Below g w w2 from (H.out).trans (hb.mono (by have h9:=(H.out).size;(try have h8:=HG.out);omega)))
 clear Z hb
 have DS:=lh hds
 clear hds
 iterate 3 refine lsv (w':=w2) ?_
 refine lsv (v:=.pointer (some ⟨w2.heap.size,0,none⟩)) (w':=w2.alloc (.cells #[.bool false,.string ⟨#[]⟩] 191)) ?_
 have al:=(Below.refl w2.heap.size w2).alloc (Nat.le_refl _) (.cells #[.bool false,.string ⟨#[]⟩] 191)
 have lo_g1:=Nat.le_trans (Nat.le_of_eq HG.out.symm) (H.out).size
 have H2:=lh (show Bk (w2.alloc (.cells #[.bool false,.string ⟨#[]⟩] 191)) (w2.heap.size) 191 [.bool false,.string ⟨#[]⟩]∧Below g w (w2.alloc (.cells #[.bool false,.string ⟨#[]⟩] 191)) from ⟨Bk.new w2 [.bool false,.string ⟨#[]⟩] 191,(H.out).trans (al.mono (by have h9:=(H.out).size;(try have h8:=HG.out);omega))⟩)
 obtain ⟨w1,hW⟩:∃V,w2.alloc (.cells #[.bool false,.string ⟨#[]⟩] 191)=V:=⟨_,rfl⟩
 rw [hW] at H2
 first | rw [hW] | simp only [hW]
 obtain ⟨g1,hn⟩:∃k,w2.heap.size=k:=⟨_,rfl⟩
 rw [hn] at H2 lo_g1
 try simp only [hn]
 clear hW hn al H
 have H:=H2
 clear H2
 refine lss (cs':=[.bool neg,.string ds]) (H.out.1) rfl (by simp [Value.oneCell']) (by kernel_rfl) ?_
 have H2:=lh (show Bk (w1.setRow (g1) ([.bool neg,.string ds]:List Value).toArray) (g1) 191 [.bool neg,.string ds]∧Below g w (w1.setRow (g1) ([.bool neg,.string ds]:List Value).toArray) from ⟨(H.out.1).rowSet [.bool neg,.string ds],below_row (H.out.2) (by omega) _⟩)
 obtain ⟨w2,hW⟩:∃V,w1.setRow (g1) ([.bool neg,.string ds]:List Value).toArray=V:=⟨_,rfl⟩
 rw [hW] at H2
 first | rw [hW] | (simp only [hW])
 clear hW H
 have H:=H2
 clear H2
 refine lsv (w':=w2) ?_
 refine wpList_nil ?_
 cases ok
 ·go_wp2
  go_ret3
  exact ⟨_,rfl,⟨_,_,_,rfl,SlV.nil⟩,HG.out▸H.out.2⟩
 ·have c0_0:=(H.out.1).cell (c:=0) rfl
  have c0_1:=(H.out.1).cell (c:=1) rfl
  have f0:=(H.out.1).free
  go_upto_region 6 with fail
  refine wp_region_lit ?_
  refine lsv (w':=w2) ?_
  refine lsv (v:=.bool neg) (w':=w2) ?_
  refine lsv (w':=w2) ?_
  refine lsv (v:=.string ds) (w':=w2) ?_
  clear c0_0 c0_1 f0
  refine lsv (w':=w2) ?_
  refine lsce (finish_b (B:=g) (Nat.le_trans (Nat.le_of_eq HG.out.symm) (H.out.2).size) neg ds (by have:=DS.out;have:=HB.out;omega) n HN.out.1 HN.out.2) ?_
  intro vv w9 Z
  obtain ⟨⟨v8,c8,k8,rfl,hv8⟩,hb⟩:=Z.out
  replace H:=lh (show Bk w9 (g1) 191 [.bool neg,.string ds]∧Below g w w9 from ⟨(H.out.1).keep hb,(H.out.2).trans (hb.mono (by have h9:=(H.out.2).size;(try have h8:=HG.out);omega))⟩)
  clear Z hb
  have V8:=lh hv8
  clear hv8
  iterate 6 refine lsv (w':=w9) ?_
  refine wpList_nil ?_
  go_wp2
  go_ret3
  exact ⟨_,rfl,⟨_,_,_,rfl,HG.out▸V8.out⟩,HG.out▸H.out.2⟩
def WcV (v:Value):Prop:=∃ (n:Int) (k:Int),0≤n∧n≤4294967295∧v=.tuple #[.int .u32 n,.int .i64 k]
theorem tobin_w (bb cb:Nat) (zb:List Int) (w:World) (yb:Byt w (some ⟨bb,0,none⟩) 8 zb):Calls Tryz.prog 81 #[.slice (some ⟨bb,0,none⟩) 8 cb] w fun e w'=>∃v,e=.returned v∧WcV v∧Below w.heap.size w w':=by
 have YB:=lh yb
 clear yb
 go_enter Tryz.func81,Tryz.ntmps81
 go_upto_region 3 with fail
 obtain ⟨g,hg⟩:∃k,w.heap.size=k:=⟨_,rfl⟩
 have H:=lh (show Below g w w from hg▸Below.refl _ _)
 have HG:=lh hg
 clear hg
 refine wp_region_lit ?_
 refine lsv (w':=w) ?_
 refine lsce (read_w 8 bb cb (by omega) zb _ (YB.out.keep (HG.out▸H.out))) ?_
 intro vv w2 Z
 obtain ⟨⟨s1,h1,l1,ok,rfl,q1,q2,-⟩,hb⟩:=Z.out
 replace H:=lh (show Below g w w2 from (H.out).trans (hb.mono (by have h9:=(H.out).size;(try have h8:=HG.out);omega)))
 clear Z hb
 clear q1 q2
 iterate 3 refine lsv (w':=w2) ?_
 refine lsv (v:=.pointer (some ⟨w2.heap.size,0,none⟩)) (w':=w2.alloc (.cells #[.bool false,.int .u64 (0:Int),.int .u64 (0:Int)] 179)) ?_
 have al:=(Below.refl w2.heap.size w2).alloc (Nat.le_refl _) (.cells #[.bool false,.int .u64 (0:Int),.int .u64 (0:Int)] 179)
 have lo_g1:=Nat.le_trans (Nat.le_of_eq HG.out.symm) (H.out).size
 have H2:=lh (show Bk (w2.alloc (.cells #[.bool false,.int .u64 (0:Int),.int .u64 (0:Int)] 179)) (w2.heap.size) 179 [.bool false,.int .u64 (0:Int),.int .u64 (0:Int)]∧Below g w (w2.alloc (.cells #[.bool false,.int .u64 (0:Int),.int .u64 (0:Int)] 179)) from ⟨Bk.new w2 [.bool false,.int .u64 (0:Int),.int .u64 (0:Int)] 179,(H.out).trans (al.mono (by have h9:=(H.out).size;(try have h8:=HG.out);omega))⟩)
 obtain ⟨w1,hW⟩:∃V,w2.alloc (.cells #[.bool false,.int .u64 (0:Int),.int .u64 (0:Int)] 179)=V:=⟨_,rfl⟩
 rw [hW] at H2
 first | rw [hW] | simp only [hW]
 obtain ⟨g1,hn⟩:∃k,w2.heap.size=k:=⟨_,rfl⟩
 rw [hn] at H2 lo_g1
 try simp only [hn]
 clear hW hn al H
 have H:=H2
 clear H2
 refine lss (cs':=[.bool s1,.int .u64 (h1:Int),.int .u64 (l1:Int)]) (H.out.1) rfl (by simp [Value.oneCell']) (by kernel_rfl) ?_
 have H2:=lh (show Bk (w1.setRow (g1) ([.bool s1,.int .u64 (h1:Int),.int .u64 (l1:Int)]:List Value).toArray) (g1) 179 [.bool s1,.int .u64 (h1:Int),.int .u64 (l1:Int)]∧Below g w (w1.setRow (g1) ([.bool s1,.int .u64 (h1:Int),.int .u64 (l1:Int)]:List Value).toArray) from ⟨(H.out.1).rowSet [.bool s1,.int .u64 (h1:Int),.int .u64 (l1:Int)],below_row (H.out.2) (by omega) _⟩)
 obtain ⟨w2,hW⟩:∃V,w1.setRow (g1) ([.bool s1,.int .u64 (h1:Int),.int .u64 (l1:Int)]:List Value).toArray=V:=⟨_,rfl⟩
 rw [hW] at H2
 first | rw [hW] | (simp only [hW])
 clear hW H
 have H:=H2
 clear H2
 refine lsv (w':=w2) ?_
 refine wpList_nil ?_
 cases ok
 ·go_wp2
  go_ret2
  exact ⟨_,rfl,⟨0,7,by omega,by omega,rfl⟩,HG.out▸H.out.2⟩
 ·obtain ⟨z,hz⟩:∃z,IntKind.i64.wrap (l1:Int)=z:=⟨_,rfl⟩
  obtain ⟨y,hy⟩:∃y,IntKind.i64.wrap (-z)=y:=⟨_,rfl⟩
  have c0_0:=(H.out.1).cell (c:=0) rfl
  have c0_1:=(H.out.1).cell (c:=1) rfl
  have c0_2:=(H.out.1).cell (c:=2) rfl
  have f0:=(H.out.1).free
  cases s1
  all_goals
   go_wp2
   all_goals
    (try simp only [hz])
    (try simp only [hy])
    all_goals
     go_ret2
     exact ⟨_,rfl,⟨_,_,by omega,by omega,rfl⟩,HG.out▸H.out.2⟩
def SlI (B:Nat) (w:World) (v:Value):Prop:=∃ (v1:Value) (k:Int),v=.tuple #[v1,.int .i64 k]∧SlV 32 B w v1
theorem SlV.drewN {n B:Nat} {w:World} {v:Value} (h:SlV n B w v) (k:Nat):SlV n B (w.drewN k) v:=h
theorem SlI.base {B B':Nat} {w:World} {v:Value} (h:SlI B w v) (hB:B'≤B):SlI B' w v:=by
 obtain ⟨v1,k,e,h⟩:=h
 exact ⟨v1,k,e,h.base hB⟩
theorem byt_c {w:World} {b n:Nat} {zs:List Int} (h:Byt w (some ⟨b,0,none⟩) n zs) {i:Nat} (hi:i<n):w.cell? ⟨b,i,none⟩=some (.int .u8 (zs.getD i 0)):=by
 obtain ⟨b',off,e,hc⟩:=h.at_ (by omega)
 injection e with e
 injection e with e1 e2
 subst e1 e2
 have:=hc i hi
 rwa [Nat.zero_add] at this
theorem own_shape {w:World} {B n:Nat} {v:Value} {zs:List Int} (h:Own w B v n zs):∃A cap,v=.slice A n cap∧(A=none→cap=0):=by
 rcases h.form with ⟨rfl,rfl⟩ | ⟨g,cap,rfl,-⟩
 ·exact ⟨none,0,rfl,fun _=>rfl⟩
 ·exact ⟨_,cap,rfl,fun h=>by cases h⟩
theorem below_own {B n:Nat} {a w w':World} {v:Value} {zs:List Int} (h:Below B a w) (ho:Own w B v n zs) (hg:w.grownBy w' v.ownBlock) (hB:B≤a.heap.size):Below B a w':=
 ⟨hg.os.trans h.os,hg.tape.trans h.tape,hg.output.trans h.output,Nat.le_trans h.size hg.size,fun k hk=>(hg.block k (Nat.lt_of_lt_of_le hk (Nat.le_trans hB h.size)) fun e=>by have:=(ho.1.lt k e.symm).1;omega).trans (h.block k hk)⟩
theorem funt_w {u : Nat} (hu : u < 18446744073709551616) (w : World) (ht : Lib.TabIs Tryz.prog w "internal/strconv.uint64pow10" .u64 Lib.pow10Tab) : Calls Tryz.prog 157 #[.int .u64 (u : Int), .int .i64 10] w fun e w' => ∃ v, e = .returned v ∧ StrV 60 v ∧ Below w.heap.size w w' := by
 refine (sfunt_c u hu w ht).mono fun e w' ⟨he,hb⟩=>⟨_,he,⟨_,rfl,?_⟩,hb⟩
 have zz:(dstr u).size=Lib.nDigits u:=dstr_size u
 have sz:=nd_le 20 u (by omega) (by omega)
 have sp:=nd_pos u
 show 1≤(dstr u).size∧(dstr u).size≤60
 omega
theorem dmul_w (La ba ca Lb bb cb : Nat) (hA : 1 ≤ La ∧ La ≤ 16) (hB : 1 ≤ Lb ∧ Lb ≤ 16) (za zb : List Int) (w : World) (ya : Byt w (some ⟨ba, 0, none⟩) La za) (yb : Byt w (some ⟨bb, 0, none⟩) Lb zb) (hL : Lb ≤ 8 ∧ Lb < La ∧ La ≤ ca) (ht : Lib.TabIs Tryz.prog w "internal/strconv.uint64pow10" .u64 Lib.pow10Tab) (h2 : 2 < w.heap.size) : Calls Tryz.prog 97 #[.slice (some ⟨ba, 0, none⟩) La ca, .slice (some ⟨bb, 0, none⟩) Lb cb] w fun e w' => ∃ v, e = .returned v ∧ SlI w.heap.size w' v ∧ Below w.heap.size w w' := by
 have YA:=lh ya
 have YB:=lh yb
 have HA:=lh hA
 have HB:=lh hB
 clear ya yb hA hB
 have HL:=lh hL
 clear hL
 have HT:=lh ht
 have H2:=lh h2
 clear ht h2
 go_enter Tryz.func97,Tryz.ntmps97
 go_upto_region 1 with fail
 obtain ⟨g,hg⟩:∃k,w.heap.size=k:=⟨_,rfl⟩
 have H:=lh (show Below g w w from hg▸Below.refl _ _)
 have HG:=lh hg
 clear hg
 refine wp_region_lit ?_
 iterate 2 refine lsv (w':=w) ?_
 refine lsce (operands_w La ba ca Lb bb cb HA.out HB.out za zb _ (YA.out.keep (HG.out▸H.out)) (YB.out.keep (HG.out▸H.out))) ?_
 intro vv w2 Z
 obtain ⟨⟨s1,h1,l1,s2,h2,l2,c,rfl,q1,q2,q3,q4,q5⟩,hb⟩:=Z.out
 replace H:=lh (show Below g w w2 from (H.out).trans (hb.mono (by have h9:=(H.out).size;(try have h8:=HG.out);omega)))
 clear Z hb
 have h20:=q5 HL.out.1
 subst h20
 have QQ:=lh (⟨q1,q2,q4⟩:h1<18446744073709551616∧l1<18446744073709551616∧l2<18446744073709551616)
 clear q1 q2 q3 q4 q5
 iterate 4 refine lsv (w':=w2) ?_
 refine lsv (v:=.pointer (some ⟨w2.heap.size,0,none⟩)) (w':=w2.alloc (.cells #[.bool false,.int .u64 (0:Int),.int .u64 (0:Int)] 179)) ?_
 have al:=(Below.refl w2.heap.size w2).alloc (Nat.le_refl _) (.cells #[.bool false,.int .u64 (0:Int),.int .u64 (0:Int)] 179)
 have lo_g1:=Nat.le_trans (Nat.le_of_eq HG.out.symm) (H.out).size
 have H2:=lh (show Bk (w2.alloc (.cells #[.bool false,.int .u64 (0:Int),.int .u64 (0:Int)] 179)) (w2.heap.size) 179 [.bool false,.int .u64 (0:Int),.int .u64 (0:Int)]∧Below g w (w2.alloc (.cells #[.bool false,.int .u64 (0:Int),.int .u64 (0:Int)] 179)) from ⟨Bk.new w2 [.bool false,.int .u64 (0:Int),.int .u64 (0:Int)] 179,(H.out).trans (al.mono (by have h9:=(H.out).size;(try have h8:=HG.out);omega))⟩)
 obtain ⟨w1,hW⟩:∃V,w2.alloc (.cells #[.bool false,.int .u64 (0:Int),.int .u64 (0:Int)] 179)=V:=⟨_,rfl⟩
 rw [hW] at H2
 first | rw [hW] | simp only [hW]
 obtain ⟨g1,hn⟩:∃k,w2.heap.size=k:=⟨_,rfl⟩
 rw [hn] at H2 lo_g1
 try simp only [hn]
 clear hW hn al H
 have H:=H2
 clear H2
 refine lsv (v:=.pointer (some ⟨w1.heap.size,0,none⟩)) (w':=w1.alloc (.cells #[.bool false,.int .u64 (0:Int),.int .u64 (0:Int)] 179)) ?_
 have al:=(Below.refl w1.heap.size w1).alloc (Nat.le_refl _) (.cells #[.bool false,.int .u64 (0:Int),.int .u64 (0:Int)] 179)
 have on_g2:=(H.out.1).lt
 have lo_g2:=Nat.le_trans (Nat.le_of_eq HG.out.symm) (H.out.2).size
 have H2:=lh (show Bk (w1.alloc (.cells #[.bool false,.int .u64 (0:Int),.int .u64 (0:Int)] 179)) (g1) 179 [.bool false,.int .u64 (0:Int),.int .u64 (0:Int)]∧Bk (w1.alloc (.cells #[.bool false,.int .u64 (0:Int),.int .u64 (0:Int)] 179)) (w1.heap.size) 179 [.bool false,.int .u64 (0:Int),.int .u64 (0:Int)]∧Below g w (w1.alloc (.cells #[.bool false,.int .u64 (0:Int),.int .u64 (0:Int)] 179)) from ⟨(H.out.1).keep al,Bk.new w1 [.bool false,.int .u64 (0:Int),.int .u64 (0:Int)] 179,(H.out.2).trans (al.mono (by have h9:=(H.out.2).size;(try have h8:=HG.out);omega))⟩)
 obtain ⟨w2,hW⟩:∃V,w1.alloc (.cells #[.bool false,.int .u64 (0:Int),.int .u64 (0:Int)] 179)=V:=⟨_,rfl⟩
 rw [hW] at H2
 first | rw [hW] | simp only [hW]
 obtain ⟨g2,hn⟩:∃k,w1.heap.size=k:=⟨_,rfl⟩
 rw [hn] at H2 on_g2 lo_g2
 try simp only [hn]
 clear hW hn al H
 have H:=H2
 clear H2
 refine lss (cs':=[.bool s1,.int .u64 (h1:Int),.int .u64 (l1:Int)]) (H.out.1) rfl (by simp [Value.oneCell']) (by kernel_rfl) ?_
 have H2:=lh (show Bk (w2.setRow (g1) ([.bool s1,.int .u64 (h1:Int),.int .u64 (l1:Int)]:List Value).toArray) (g1) 179 [.bool s1,.int .u64 (h1:Int),.int .u64 (l1:Int)]∧Bk (w2.setRow (g1) ([.bool s1,.int .u64 (h1:Int),.int .u64 (l1:Int)]:List Value).toArray) (g2) 179 [.bool false,.int .u64 (0:Int),.int .u64 (0:Int)]∧Below g w (w2.setRow (g1) ([.bool s1,.int .u64 (h1:Int),.int .u64 (l1:Int)]:List Value).toArray) from ⟨(H.out.1).rowSet [.bool s1,.int .u64 (h1:Int),.int .u64 (l1:Int)],(H.out.2.1).rowOth (by omega) _,below_row (H.out.2.2) (by omega) _⟩)
 obtain ⟨w3,hW⟩:∃V,w2.setRow (g1) ([.bool s1,.int .u64 (h1:Int),.int .u64 (l1:Int)]:List Value).toArray=V:=⟨_,rfl⟩
 rw [hW] at H2
 first | rw [hW] | (simp only [hW])
 clear hW H
 have H:=H2
 clear H2
 refine lss (cs':=[.bool s2,.int .u64 (0:Int),.int .u64 (l2:Int)]) (H.out.2.1) rfl (by simp [Value.oneCell']) (by kernel_rfl) ?_
 have H2:=lh (show Bk (w3.setRow (g2) ([.bool s2,.int .u64 (0:Int),.int .u64 (l2:Int)]:List Value).toArray) (g1) 179 [.bool s1,.int .u64 (h1:Int),.int .u64 (l1:Int)]∧Bk (w3.setRow (g2) ([.bool s2,.int .u64 (0:Int),.int .u64 (l2:Int)]:List Value).toArray) (g2) 179 [.bool s2,.int .u64 (0:Int),.int .u64 (l2:Int)]∧Below g w (w3.setRow (g2) ([.bool s2,.int .u64 (0:Int),.int .u64 (l2:Int)]:List Value).toArray) from ⟨(H.out.1).rowOth (by omega) _,(H.out.2.1).rowSet [.bool s2,.int .u64 (0:Int),.int .u64 (l2:Int)],below_row (H.out.2.2) (by omega) _⟩)
 obtain ⟨w4,hW⟩:∃V,w3.setRow (g2) ([.bool s2,.int .u64 (0:Int),.int .u64 (l2:Int)]:List Value).toArray=V:=⟨_,rfl⟩
 rw [hW] at H2
 first | rw [hW] | (simp only [hW])
 clear hW H
 have H:=H2
 clear H2
 refine lsv (w':=w4) ?_
 refine wpList_nil ?_
 by_cases hc:c=0
 ·subst hc
  have e2:(Lb:Int)≤(ca:Int):=by have:=HL.out;omega
  have e3:(Lb:Int)≤(La:Int):=by have:=HL.out;omega
  go_upto_region 4 with fail
  refine wp_region_lit ?_
  iterate 3 refine lsv (w':=w4) ?_
  refine lsv (v:=.slice (some ⟨ba,0,none⟩) Lb ca) (w':=w4) ?_
  iterate 2 refine lsv (w':=w4) ?_
  refine wpList_nil ?_
  clear e2 e3
  go_wp2
  go_loopw [27] (fun x W=>∃j:Nat,j≤Lb∧x=.int .i64 (j:Int)∧w4=W) (fun x _=>Lb - (intOf x).toNat)
  case atStart=>exact ⟨0,Nat.zero_le _,rfl,rfl⟩
  case round=>
   obtain ⟨j,hj,rfl,rfl⟩:=hrel
   by_cases hlt:j<Lb
   ·have e1:(j:Int)<(Lb:Int):=by omega
    have cz:=byt_c (YA.out.keep (HG.out▸H.out.2.2)) (i:=j) (by have:=HL.out;omega)
    obtain ⟨z,hz⟩:∃z,za.getD j 0=z:=⟨_,rfl⟩
    rw [hz] at cz
    have e3:IntKind.i64.wrap ((j:Int)+1)=(j:Int)+1:=wrap_i64_id (by omega) (by have:=HL.out;omega)
    have HJ:=lh hlt
    clear hz hj hlt
    by_cases h0:z=0
    ·subst h0
     go_wp2
     go_roundw
     case rel=>exact ⟨j+1,by have:=HJ.out;omega,rfl,trivial⟩
     case measure=>have:=HJ.out;simp [intOf];omega
    ·have e4:(z == 0)=false:=by rw [beq_eq_false_iff_ne];exact h0
     clear h0
     go_wp2
     go_ret2
     exact ⟨_,rfl,⟨_,_,rfl,SlV.nil⟩,HG.out▸H.out.2.2⟩
   ·have e1:¬(j:Int)<(Lb:Int):=by omega
    clear hlt hj
    have c1_0:=(H.out.2.1).cell (c:=0) rfl
    have c1_1:=(H.out.2.1).cell (c:=1) rfl
    have c1_2:=(H.out.2.1).cell (c:=2) rfl
    have f1:=(H.out.2.1).free
    go_upto_region 10 with fail
    refine wp_region_lit ?_
    refine lsl (H.out.1) ?_
    refine lsv (w':=w4) ?_
    refine lsv (v:=.int .u64 (l2:Int)) (w':=w4) ?_
    clear c1_0 c1_1 c1_2 f1
    refine lsce (ntimes_c s1 h1 l1 l2 QQ.out.1 QQ.out.2.1 QQ.out.2.2 _) ?_
    intro vv w9 Z
    obtain ⟨⟨s3,h3,l3,u,rfl,q6,q7,-⟩,hb⟩:=Z.out
    replace H:=lh (show Bk w9 (g1) 179 [.bool s1,.int .u64 (h1:Int),.int .u64 (l1:Int)]∧Bk w9 (g2) 179 [.bool s2,.int .u64 (0:Int),.int .u64 (l2:Int)]∧Below g w w9 from ⟨(H.out.1).keep hb,(H.out.2.1).keep hb,(H.out.2.2).trans (hb.mono (by have h9:=(H.out.2.2).size;(try have h8:=HG.out);omega))⟩)
    clear Z hb
    have Q3:=lh (⟨q6,q7⟩:h3<18446744073709551616∧l3<18446744073709551616)
    clear q6 q7 QQ
    iterate 3 refine lsv (w':=w9) ?_
    refine lsv (v:=.pointer (some ⟨w9.heap.size,0,none⟩)) (w':=w9.alloc (.cells #[.bool false,.int .u64 (0:Int),.int .u64 (0:Int)] 179)) ?_
    have al:=(Below.refl w9.heap.size w9).alloc (Nat.le_refl _) (.cells #[.bool false,.int .u64 (0:Int),.int .u64 (0:Int)] 179)
    have on_g3:=(H.out.2.1).lt
    have lo_g3:=Nat.le_trans (Nat.le_of_eq HG.out.symm) (H.out.2.2).size
    have H2:=lh (show Bk (w9.alloc (.cells #[.bool false,.int .u64 (0:Int),.int .u64 (0:Int)] 179)) (g1) 179 [.bool s1,.int .u64 (h1:Int),.int .u64 (l1:Int)]∧Bk (w9.alloc (.cells #[.bool false,.int .u64 (0:Int),.int .u64 (0:Int)] 179)) (g2) 179 [.bool s2,.int .u64 (0:Int),.int .u64 (l2:Int)]∧Bk (w9.alloc (.cells #[.bool false,.int .u64 (0:Int),.int .u64 (0:Int)] 179)) (w9.heap.size) 179 [.bool false,.int .u64 (0:Int),.int .u64 (0:Int)]∧Below g w (w9.alloc (.cells #[.bool false,.int .u64 (0:Int),.int .u64 (0:Int)] 179)) from ⟨(H.out.1).keep al,(H.out.2.1).keep al,Bk.new w9 [.bool false,.int .u64 (0:Int),.int .u64 (0:Int)] 179,(H.out.2.2).trans (al.mono (by have h9:=(H.out.2.2).size;(try have h8:=HG.out);omega))⟩)
    obtain ⟨w5,hW⟩:∃V,w9.alloc (.cells #[.bool false,.int .u64 (0:Int),.int .u64 (0:Int)] 179)=V:=⟨_,rfl⟩
    rw [hW] at H2
    first | rw [hW] | simp only [hW]
    obtain ⟨g3,hn⟩:∃k,w9.heap.size=k:=⟨_,rfl⟩
    rw [hn] at H2 on_g3 lo_g3
    try simp only [hn]
    clear hW hn al H
    have H:=H2
    clear H2
    refine lss (cs':=[.bool s3,.int .u64 (h3:Int),.int .u64 (l3:Int)]) (H.out.2.2.1) rfl (by simp [Value.oneCell']) (by kernel_rfl) ?_
    have H2:=lh (show Bk (w5.setRow (g3) ([.bool s3,.int .u64 (h3:Int),.int .u64 (l3:Int)]:List Value).toArray) (g1) 179 [.bool s1,.int .u64 (h1:Int),.int .u64 (l1:Int)]∧Bk (w5.setRow (g3) ([.bool s3,.int .u64 (h3:Int),.int .u64 (l3:Int)]:List Value).toArray) (g2) 179 [.bool s2,.int .u64 (0:Int),.int .u64 (l2:Int)]∧Bk (w5.setRow (g3) ([.bool s3,.int .u64 (h3:Int),.int .u64 (l3:Int)]:List Value).toArray) (g3) 179 [.bool s3,.int .u64 (h3:Int),.int .u64 (l3:Int)]∧Below g w (w5.setRow (g3) ([.bool s3,.int .u64 (h3:Int),.int .u64 (l3:Int)]:List Value).toArray) from ⟨(H.out.1).rowOth (by omega) _,(H.out.2.1).rowOth (by omega) _,(H.out.2.2.1).rowSet [.bool s3,.int .u64 (h3:Int),.int .u64 (l3:Int)],below_row (H.out.2.2.2) (by omega) _⟩)
    obtain ⟨w6,hW⟩:∃V,w5.setRow (g3) ([.bool s3,.int .u64 (h3:Int),.int .u64 (l3:Int)]:List Value).toArray=V:=⟨_,rfl⟩
    rw [hW] at H2
    first | rw [hW] | (simp only [hW])
    clear hW H
    have H:=H2
    clear H2
    refine lsv (w':=w6) ?_
    refine wpList_nil ?_
    go_upto_region 11 with fail
    refine wp_region_held_drew (S:=fun W=>Bk W (g1) 179 [.bool s1,.int .u64 (h1:Int),.int .u64 (l1:Int)]∧Bk W (g2) 179 [.bool s2,.int .u64 (0:Int),.int .u64 (l2:Int)]∧Bk W (g3) 179 [.bool s3,.int .u64 (h3:Int),.int .u64 (l3:Int)]∧Below g w W) (by kernel_rfl) ⟨(H.out.1).drewN 1,(H.out.2.1).drewN 1,(H.out.2.2.1).drewN 1,dBelow' (H.out.2.2.2) 1⟩ (fun hHeld=>?_)
    replace H:=lh hHeld
    obtain ⟨v0,hv⟩:∃V,w6.drew=V:=⟨_,rfl⟩
    rw [hv] at H hHeld ⊢
    clear hv
    refine tki 0 ?_
    refine tki 1 (v:=.bool s1) ?_ (y:=by (intro W hSw;have c1:=(hSw.1).cell (c:=0) rfl;go_simp;(try with_reducible rfl)))
    refine tki 2 ?_
    refine tki 3 (v:=.bool s2) ?_ (y:=by (intro W hSw;have c1:=(hSw.2.1).cell (c:=0) rfl;go_simp;(try with_reducible rfl)))
    refine tki 4 (v:=.bool (!(s1 == s2))) ?_
    refine tkl 5 (fun W h=>(h.2.2.1).row) ?_
    refine tki 7 ?_
    refine tki 8 ?_
    obtain ⟨sg,hsg⟩:∃b,(!(s1 == s2))=b:=⟨_,rfl⟩
    simp only [hsg]
    clear hsg
    refine tkce (R:=fun V W=>(StrV 60 V)∧(Bk W (g1) 179 [.bool s1,.int .u64 (h1:Int),.int .u64 (l1:Int)]∧Bk W (g2) 179 [.bool s2,.int .u64 (0:Int),.int .u64 (l2:Int)]∧Bk W (g3) 179 [.bool s3,.int .u64 (h3:Int),.int .u64 (l3:Int)]∧Below g w W)) ((ndigits_w s3 h3 l3 Q3.out.1 Q3.out.2 _ (tab_keep HT.out (HG.out▸H.out.2.2.2) H2.out) (by have h9:=(H.out.2.2.2).size;have h8:=HG.out;have:=H2.out;omega)).mono fun e w' ⟨v,he,hv,hb⟩=>⟨v,he,hv,(H.out.1).keep hb,(H.out.2.1).keep hb,(H.out.2.2.1).keep hb,(H.out.2.2.2).trans (hb.mono (by have h9:=(H.out.2.2.2).size;(try have h8:=HG.out);omega))⟩) (fun _ _ h=>h.2) ?_
    clear H hHeld
    intro vv v1 Z hHeld
    obtain ⟨⟨ds,rfl,hds⟩,hC⟩:=Z.out
    have H:=lh hC
    clear Z hC
    refine tkce (R:=fun V W=>(SlB g W V)∧(Bk W (g1) 179 [.bool s1,.int .u64 (h1:Int),.int .u64 (l1:Int)]∧Bk W (g2) 179 [.bool s2,.int .u64 (0:Int),.int .u64 (l2:Int)]∧Bk W (g3) 179 [.bool s3,.int .u64 (h3:Int),.int .u64 (l3:Int)]∧Below g w W)) ((write_b (B:=g) (Nat.le_trans (Nat.le_of_eq HG.out.symm) (H.out.2.2.2).size) sg ds (by omega) La HA.out.1 HA.out.2).mono fun e w' ⟨v,he,hv,hb⟩=>⟨v,he,hv,(H.out.1).keep hb,(H.out.2.1).keep hb,(H.out.2.2.1).keep hb,(H.out.2.2.2).trans (hb.mono (by have h9:=(H.out.2.2.2).size;(try have h8:=HG.out);omega))⟩) (fun _ _ h=>h.2) ?_
    clear H hHeld
    intro vv v2 Z hHeld
    obtain ⟨⟨v8,q8,rfl,hv8⟩,hC⟩:=Z.out
    have H:=lh hC
    clear Z hC
    refine tki 10 ?_
    refine tki 11 ?_
    refine tki 12 ?_
    refine tki 13 ?_
    have V8:=lh hv8
    clear hv8
    refine wpAnyH_done (by with_unfolding_all rfl) ?_ _
    clear hHeld
    go_wp2
    go_ret2
    exact ⟨_,rfl,⟨_,_,rfl,HG.out▸V8.out.mono (by omega)⟩,HG.out▸H.out.2.2.2⟩
 ·have e1:(c == 0)=false:=by rw [beq_eq_false_iff_ne];exact hc
  clear hc
  go_wp2
  go_ret2
  exact ⟨_,rfl,⟨_,_,rfl,SlV.nil⟩,HG.out▸H.out.2.2⟩
theorem ddiv_w (La ba ca Lb bb cb : Nat) (hA : 1 ≤ La ∧ La ≤ 16) (hB : 1 ≤ Lb ∧ Lb ≤ 16) (za zb : List Int) (w : World) (ya : Byt w (some ⟨ba, 0, none⟩) La za) (yb : Byt w (some ⟨bb, 0, none⟩) Lb zb) (hL : Lb ≤ 8 ∧ Lb < La ∧ La ≤ ca) (ht : Lib.TabIs Tryz.prog w "internal/strconv.uint64pow10" .u64 Lib.pow10Tab) (h2 : 2 < w.heap.size) : Calls Tryz.prog 98 #[.slice (some ⟨ba, 0, none⟩) La ca, .slice (some ⟨bb, 0, none⟩) Lb cb] w fun e w' => ∃ v, e = .returned v ∧ SlI w.heap.size w' v ∧ Below w.heap.size w w' := by
 have YA:=lh ya
 have YB:=lh yb
 have HA:=lh hA
 have HB:=lh hB
 clear ya yb hA hB
 have HL:=lh hL
 clear hL
 have HT:=lh ht
 have H2:=lh h2
 clear ht h2
 go_enter Tryz.func98,Tryz.ntmps98
 go_upto_region 1 with fail
 obtain ⟨g,hg⟩:∃k,w.heap.size=k:=⟨_,rfl⟩
 have H:=lh (show Below g w w from hg▸Below.refl _ _)
 have HG:=lh hg
 clear hg
 refine wp_region_lit ?_
 iterate 2 refine lsv (w':=w) ?_
 refine lsce (operands_w La ba ca Lb bb cb HA.out HB.out za zb _ (YA.out.keep (HG.out▸H.out)) (YB.out.keep (HG.out▸H.out))) ?_
 intro vv w2 Z
 obtain ⟨⟨s1,h1,l1,s2,h2,l2,c,rfl,q1,q2,q3,q4,q5⟩,hb⟩:=Z.out
 replace H:=lh (show Below g w w2 from (H.out).trans (hb.mono (by have h9:=(H.out).size;(try have h8:=HG.out);omega)))
 clear Z hb
 have h20:=q5 HL.out.1
 subst h20
 have QQ:=lh (⟨q1,q2,q4⟩:h1<18446744073709551616∧l1<18446744073709551616∧l2<18446744073709551616)
 clear q1 q2 q3 q4 q5
 iterate 4 refine lsv (w':=w2) ?_
 refine lsv (v:=.pointer (some ⟨w2.heap.size,0,none⟩)) (w':=w2.alloc (.cells #[.bool false,.int .u64 (0:Int),.int .u64 (0:Int)] 179)) ?_
 have al:=(Below.refl w2.heap.size w2).alloc (Nat.le_refl _) (.cells #[.bool false,.int .u64 (0:Int),.int .u64 (0:Int)] 179)
 have lo_g1:=Nat.le_trans (Nat.le_of_eq HG.out.symm) (H.out).size
 have H2:=lh (show Bk (w2.alloc (.cells #[.bool false,.int .u64 (0:Int),.int .u64 (0:Int)] 179)) (w2.heap.size) 179 [.bool false,.int .u64 (0:Int),.int .u64 (0:Int)]∧Below g w (w2.alloc (.cells #[.bool false,.int .u64 (0:Int),.int .u64 (0:Int)] 179)) from ⟨Bk.new w2 [.bool false,.int .u64 (0:Int),.int .u64 (0:Int)] 179,(H.out).trans (al.mono (by have h9:=(H.out).size;(try have h8:=HG.out);omega))⟩)
 obtain ⟨w1,hW⟩:∃V,w2.alloc (.cells #[.bool false,.int .u64 (0:Int),.int .u64 (0:Int)] 179)=V:=⟨_,rfl⟩
 rw [hW] at H2
 first | rw [hW] | simp only [hW]
 obtain ⟨g1,hn⟩:∃k,w2.heap.size=k:=⟨_,rfl⟩
 rw [hn] at H2 lo_g1
 try simp only [hn]
 clear hW hn al H
 have H:=H2
 clear H2
 refine lsv (v:=.pointer (some ⟨w1.heap.size,0,none⟩)) (w':=w1.alloc (.cells #[.bool false,.int .u64 (0:Int),.int .u64 (0:Int)] 179)) ?_
 have al:=(Below.refl w1.heap.size w1).alloc (Nat.le_refl _) (.cells #[.bool false,.int .u64 (0:Int),.int .u64 (0:Int)] 179)
 have on_g2:=(H.out.1).lt
 have lo_g2:=Nat.le_trans (Nat.le_of_eq HG.out.symm) (H.out.2).size
 have H2:=lh (show Bk (w1.alloc (.cells #[.bool false,.int .u64 (0:Int),.int .u64 (0:Int)] 179)) (g1) 179 [.bool false,.int .u64 (0:Int),.int .u64 (0:Int)]∧Bk (w1.alloc (.cells #[.bool false,.int .u64 (0:Int),.int .u64 (0:Int)] 179)) (w1.heap.size) 179 [.bool false,.int .u64 (0:Int),.int .u64 (0:Int)]∧Below g w (w1.alloc (.cells #[.bool false,.int .u64 (0:Int),.int .u64 (0:Int)] 179)) from ⟨(H.out.1).keep al,Bk.new w1 [.bool false,.int .u64 (0:Int),.int .u64 (0:Int)] 179,(H.out.2).trans (al.mono (by have h9:=(H.out.2).size;(try have h8:=HG.out);omega))⟩)
 obtain ⟨w2,hW⟩:∃V,w1.alloc (.cells #[.bool false,.int .u64 (0:Int),.int .u64 (0:Int)] 179)=V:=⟨_,rfl⟩
 rw [hW] at H2
 first | rw [hW] | simp only [hW]
 obtain ⟨g2,hn⟩:∃k,w1.heap.size=k:=⟨_,rfl⟩
 rw [hn] at H2 on_g2 lo_g2
 try simp only [hn]
 clear hW hn al H
 have H:=H2
 clear H2
 refine lss (cs':=[.bool s1,.int .u64 (h1:Int),.int .u64 (l1:Int)]) (H.out.1) rfl (by simp [Value.oneCell']) (by kernel_rfl) ?_
 have H2:=lh (show Bk (w2.setRow (g1) ([.bool s1,.int .u64 (h1:Int),.int .u64 (l1:Int)]:List Value).toArray) (g1) 179 [.bool s1,.int .u64 (h1:Int),.int .u64 (l1:Int)]∧Bk (w2.setRow (g1) ([.bool s1,.int .u64 (h1:Int),.int .u64 (l1:Int)]:List Value).toArray) (g2) 179 [.bool false,.int .u64 (0:Int),.int .u64 (0:Int)]∧Below g w (w2.setRow (g1) ([.bool s1,.int .u64 (h1:Int),.int .u64 (l1:Int)]:List Value).toArray) from ⟨(H.out.1).rowSet [.bool s1,.int .u64 (h1:Int),.int .u64 (l1:Int)],(H.out.2.1).rowOth (by omega) _,below_row (H.out.2.2) (by omega) _⟩)
 obtain ⟨w3,hW⟩:∃V,w2.setRow (g1) ([.bool s1,.int .u64 (h1:Int),.int .u64 (l1:Int)]:List Value).toArray=V:=⟨_,rfl⟩
 rw [hW] at H2
 first | rw [hW] | (simp only [hW])
 clear hW H
 have H:=H2
 clear H2
 refine lss (cs':=[.bool s2,.int .u64 (0:Int),.int .u64 (l2:Int)]) (H.out.2.1) rfl (by simp [Value.oneCell']) (by kernel_rfl) ?_
 have H2:=lh (show Bk (w3.setRow (g2) ([.bool s2,.int .u64 (0:Int),.int .u64 (l2:Int)]:List Value).toArray) (g1) 179 [.bool s1,.int .u64 (h1:Int),.int .u64 (l1:Int)]∧Bk (w3.setRow (g2) ([.bool s2,.int .u64 (0:Int),.int .u64 (l2:Int)]:List Value).toArray) (g2) 179 [.bool s2,.int .u64 (0:Int),.int .u64 (l2:Int)]∧Below g w (w3.setRow (g2) ([.bool s2,.int .u64 (0:Int),.int .u64 (l2:Int)]:List Value).toArray) from ⟨(H.out.1).rowOth (by omega) _,(H.out.2.1).rowSet [.bool s2,.int .u64 (0:Int),.int .u64 (l2:Int)],below_row (H.out.2.2) (by omega) _⟩)
 obtain ⟨w4,hW⟩:∃V,w3.setRow (g2) ([.bool s2,.int .u64 (0:Int),.int .u64 (l2:Int)]:List Value).toArray=V:=⟨_,rfl⟩
 rw [hW] at H2
 first | rw [hW] | (simp only [hW])
 clear hW H
 have H:=H2
 clear H2
 refine lsv (w':=w4) ?_
 refine wpList_nil ?_
 by_cases hc:c=0
 ·subst hc
  obtain ⟨zb,hz⟩:∃b,decide ((0:Nat)=0∧l2=0)=b:=⟨_,rfl⟩
  have NZ:=nzero_c s2 0 l2
  rw [hz] at NZ
  have HZ:=lh hz
  clear hz
  go_upto_region 4 with fail
  refine wp_region_lit ?_
  refine lsl (H.out.2.1) ?_
  refine lsc (NZ _) ?_
  clear NZ
  intro w20 hb0
  have hb:=hb0.out
  replace H:=lh (show Bk w20 (g1) 179 [.bool s1,.int .u64 (h1:Int),.int .u64 (l1:Int)]∧Bk w20 (g2) 179 [.bool s2,.int .u64 (0:Int),.int .u64 (l2:Int)]∧Below g w w20 from ⟨(H.out.1).keep hb,(H.out.2.1).keep hb,(H.out.2.2).trans (hb.mono (by have h9:=(H.out.2.2).size;(try have h8:=HG.out);omega))⟩)
  clear hb0 hb
  refine wpList_nil ?_
  cases zb
  ·have hl0:l2≠0:=by have:=HZ.out;simp at this;omega
   have L0:=lh hl0
   clear hl0 HZ
   have c1_0:=(H.out.2.1).cell (c:=0) rfl
   have c1_1:=(H.out.2.1).cell (c:=1) rfl
   have c1_2:=(H.out.2.1).cell (c:=2) rfl
   have f1:=(H.out.2.1).free
   go_upto_region 6 with fail
   refine wp_region_lit ?_
   refine lsl (H.out.1) ?_
   refine lsv (w':=w20) ?_
   refine lsv (v:=.int .u64 (l2:Int)) (w':=w20) ?_
   clear c1_0 c1_1 c1_2 f1
   refine lsce (nover_c s1 h1 l1 l2 QQ.out.1 QQ.out.2.1 L0.out QQ.out.2.2 _) ?_
   intro vv w9 Z
   obtain ⟨⟨s3,h3,l3,rr,rfl,-,q6,q7,q8⟩,hb⟩:=Z.out
   replace H:=lh (show Bk w9 (g1) 179 [.bool s1,.int .u64 (h1:Int),.int .u64 (l1:Int)]∧Bk w9 (g2) 179 [.bool s2,.int .u64 (0:Int),.int .u64 (l2:Int)]∧Below g w w9 from ⟨(H.out.1).keep hb,(H.out.2.1).keep hb,(H.out.2.2).trans (hb.mono (by have h9:=(H.out.2.2).size;(try have h8:=HG.out);omega))⟩)
   clear Z hb
   have Q3:=lh (⟨q6,q7,q8⟩:h3<18446744073709551616∧l3<18446744073709551616∧rr<18446744073709551616)
   clear q6 q7 q8 QQ
   iterate 3 refine lsv (w':=w9) ?_
   refine lsv (v:=.pointer (some ⟨w9.heap.size,0,none⟩)) (w':=w9.alloc (.cells #[.bool false,.int .u64 (0:Int),.int .u64 (0:Int)] 179)) ?_
   have al:=(Below.refl w9.heap.size w9).alloc (Nat.le_refl _) (.cells #[.bool false,.int .u64 (0:Int),.int .u64 (0:Int)] 179)
   have on_g3:=(H.out.2.1).lt
   have lo_g3:=Nat.le_trans (Nat.le_of_eq HG.out.symm) (H.out.2.2).size
   have H2:=lh (show Bk (w9.alloc (.cells #[.bool false,.int .u64 (0:Int),.int .u64 (0:Int)] 179)) (g1) 179 [.bool s1,.int .u64 (h1:Int),.int .u64 (l1:Int)]∧Bk (w9.alloc (.cells #[.bool false,.int .u64 (0:Int),.int .u64 (0:Int)] 179)) (g2) 179 [.bool s2,.int .u64 (0:Int),.int .u64 (l2:Int)]∧Bk (w9.alloc (.cells #[.bool false,.int .u64 (0:Int),.int .u64 (0:Int)] 179)) (w9.heap.size) 179 [.bool false,.int .u64 (0:Int),.int .u64 (0:Int)]∧Below g w (w9.alloc (.cells #[.bool false,.int .u64 (0:Int),.int .u64 (0:Int)] 179)) from ⟨(H.out.1).keep al,(H.out.2.1).keep al,Bk.new w9 [.bool false,.int .u64 (0:Int),.int .u64 (0:Int)] 179,(H.out.2.2).trans (al.mono (by have h9:=(H.out.2.2).size;(try have h8:=HG.out);omega))⟩)
   obtain ⟨w5,hW⟩:∃V,w9.alloc (.cells #[.bool false,.int .u64 (0:Int),.int .u64 (0:Int)] 179)=V:=⟨_,rfl⟩
   rw [hW] at H2
   first | rw [hW] | simp only [hW]
   obtain ⟨g3,hn⟩:∃k,w9.heap.size=k:=⟨_,rfl⟩
   rw [hn] at H2 on_g3 lo_g3
   try simp only [hn]
   clear hW hn al H
   have H:=H2
   clear H2
   refine lss (cs':=[.bool s3,.int .u64 (h3:Int),.int .u64 (l3:Int)]) (H.out.2.2.1) rfl (by simp [Value.oneCell']) (by kernel_rfl) ?_
   have H2:=lh (show Bk (w5.setRow (g3) ([.bool s3,.int .u64 (h3:Int),.int .u64 (l3:Int)]:List Value).toArray) (g1) 179 [.bool s1,.int .u64 (h1:Int),.int .u64 (l1:Int)]∧Bk (w5.setRow (g3) ([.bool s3,.int .u64 (h3:Int),.int .u64 (l3:Int)]:List Value).toArray) (g2) 179 [.bool s2,.int .u64 (0:Int),.int .u64 (l2:Int)]∧Bk (w5.setRow (g3) ([.bool s3,.int .u64 (h3:Int),.int .u64 (l3:Int)]:List Value).toArray) (g3) 179 [.bool s3,.int .u64 (h3:Int),.int .u64 (l3:Int)]∧Below g w (w5.setRow (g3) ([.bool s3,.int .u64 (h3:Int),.int .u64 (l3:Int)]:List Value).toArray) from ⟨(H.out.1).rowOth (by omega) _,(H.out.2.1).rowOth (by omega) _,(H.out.2.2.1).rowSet [.bool s3,.int .u64 (h3:Int),.int .u64 (l3:Int)],below_row (H.out.2.2.2) (by omega) _⟩)
   obtain ⟨w6,hW⟩:∃V,w5.setRow (g3) ([.bool s3,.int .u64 (h3:Int),.int .u64 (l3:Int)]:List Value).toArray=V:=⟨_,rfl⟩
   rw [hW] at H2
   first | rw [hW] | (simp only [hW])
   clear hW H
   have H:=H2
   clear H2
   refine lsv (w':=w6) ?_
   refine wpList_nil ?_
   obtain ⟨m,hm⟩:∃m,La - Lb=m:=⟨_,rfl⟩
   have HM:=lh (show 1≤m∧m≤16 by have:=HL.out;have:=HA.out;omega)
   have em:IntKind.i64.wrap ((La:Int) - (Lb:Int))=(m:Int):=by rw [wrap_i64_id (by have:=HL.out;have:=HA.out;omega) (by have:=HA.out;omega)];have:=HL.out;omega
   clear hm
   go_upto_region 7 with fail
   refine wp_region_held_drew (S:=fun W=>Bk W (g1) 179 [.bool s1,.int .u64 (h1:Int),.int .u64 (l1:Int)]∧Bk W (g2) 179 [.bool s2,.int .u64 (0:Int),.int .u64 (l2:Int)]∧Bk W (g3) 179 [.bool s3,.int .u64 (h3:Int),.int .u64 (l3:Int)]∧Below g w W) (by kernel_rfl) ⟨(H.out.1).drewN 1,(H.out.2.1).drewN 1,(H.out.2.2.1).drewN 1,dBelow' (H.out.2.2.2) 1⟩ (fun hHeld=>?_)
   replace H:=lh hHeld
   obtain ⟨v0,hv⟩:∃V,w6.drew=V:=⟨_,rfl⟩
   rw [hv] at H hHeld ⊢
   clear hv
   refine tki 0 ?_
   refine tki 1 (v:=.bool s1) ?_ (y:=by (intro W hSw;have c1:=(hSw.1).cell (c:=0) rfl;go_simp;(try with_reducible rfl)))
   refine tki 2 ?_
   refine tki 3 (v:=.bool s2) ?_ (y:=by (intro W hSw;have c1:=(hSw.2.1).cell (c:=0) rfl;go_simp;(try with_reducible rfl)))
   refine tki 4 (v:=.bool (!(s1 == s2))) ?_
   refine tkl 5 (fun W h=>(h.2.2.1).row) ?_
   refine tki 7 ?_
   refine tki 8 ?_
   refine tki 9 ?_
   refine tki 10 ?_
   refine tki 11 (v:=.int .i64 (m:Int)) ?_
   clear em
   obtain ⟨sg,hsg⟩:∃b,(!(s1 == s2))=b:=⟨_,rfl⟩
   simp only [hsg]
   clear hsg
   refine tkce (R:=fun V W=>(StrV 60 V)∧(Bk W (g1) 179 [.bool s1,.int .u64 (h1:Int),.int .u64 (l1:Int)]∧Bk W (g2) 179 [.bool s2,.int .u64 (0:Int),.int .u64 (l2:Int)]∧Bk W (g3) 179 [.bool s3,.int .u64 (h3:Int),.int .u64 (l3:Int)]∧Below g w W)) ((ndigits_w s3 h3 l3 Q3.out.1 Q3.out.2.1 _ (tab_keep HT.out (HG.out▸H.out.2.2.2) H2.out) (by have h9:=(H.out.2.2.2).size;have h8:=HG.out;have:=H2.out;omega)).mono fun e w' ⟨v,he,hv,hb⟩=>⟨v,he,hv,(H.out.1).keep hb,(H.out.2.1).keep hb,(H.out.2.2.1).keep hb,(H.out.2.2.2).trans (hb.mono (by have h9:=(H.out.2.2.2).size;(try have h8:=HG.out);omega))⟩) (fun _ _ h=>h.2) ?_
   clear H hHeld
   intro vv v1 Z hHeld
   obtain ⟨⟨ds,rfl,hds⟩,hC⟩:=Z.out
   have H:=lh hC
   clear Z hC
   refine tkce (R:=fun V W=>(SlB g W V)∧(Bk W (g1) 179 [.bool s1,.int .u64 (h1:Int),.int .u64 (l1:Int)]∧Bk W (g2) 179 [.bool s2,.int .u64 (0:Int),.int .u64 (l2:Int)]∧Bk W (g3) 179 [.bool s3,.int .u64 (h3:Int),.int .u64 (l3:Int)]∧Below g w W)) ((write_b (B:=g) (Nat.le_trans (Nat.le_of_eq HG.out.symm) (H.out.2.2.2).size) sg ds (by omega) m HM.out.1 HM.out.2).mono fun e w' ⟨v,he,hv,hb⟩=>⟨v,he,hv,(H.out.1).keep hb,(H.out.2.1).keep hb,(H.out.2.2.1).keep hb,(H.out.2.2.2).trans (hb.mono (by have h9:=(H.out.2.2.2).size;(try have h8:=HG.out);omega))⟩) (fun _ _ h=>h.2) ?_
   clear H hHeld
   intro vv v2 Z hHeld
   obtain ⟨⟨v8,q8,rfl,hv8⟩,hC⟩:=Z.out
   have H:=lh hC
   clear Z hC
   refine tki 13 ?_
   refine tki 14 ?_
   refine tki 15 ?_
   refine tki 16 ?_
   refine tki 17 ?_
   have V8:=lh hv8
   clear hv8
   refine wpAnyH_done (by with_unfolding_all rfl) ?_ _
   clear hHeld
   cases q8
   ·replace H:=lh (show Bk v2 (g1) 179 [.bool s1,.int .u64 (h1:Int),.int .u64 (l1:Int)]∧Bk v2 (g2) 179 [.bool s2,.int .u64 (0:Int),.int .u64 (l2:Int)]∧Bk v2 (g3) 179 [.bool s3,.int .u64 (h3:Int),.int .u64 (l3:Int)]∧SlV 16 g v2 v8∧Below g w v2 from ⟨H.out.1,H.out.2.1,H.out.2.2.1,V8.out,H.out.2.2.2⟩)
    clear V8
    go_upto_region 10 with fail
    refine wp_region_held_drew (S:=fun W=>Bk W (g1) 179 [.bool s1,.int .u64 (h1:Int),.int .u64 (l1:Int)]∧Bk W (g2) 179 [.bool s2,.int .u64 (0:Int),.int .u64 (l2:Int)]∧Bk W (g3) 179 [.bool s3,.int .u64 (h3:Int),.int .u64 (l3:Int)]∧SlV 16 g W v8∧Below g w W) (by kernel_rfl) ⟨(H.out.1).drewN 1,(H.out.2.1).drewN 1,(H.out.2.2.1).drewN 1,(H.out.2.2.2.1).drewN 1,dBelow' (H.out.2.2.2.2) 1⟩ (fun hHeld=>?_)
    replace H:=lh hHeld
    obtain ⟨v3,hv⟩:∃V,v2.drew=V:=⟨_,rfl⟩
    rw [hv] at H hHeld ⊢
    clear hv
    refine tki 0 ?_
    refine tki 1 (v:=.bool s1) ?_ (y:=by (intro W hSw;have c1:=(hSw.1).cell (c:=0) rfl;go_simp;(try with_reducible rfl)))
    refine tki 2 ?_
    refine tki 4 ?_
    refine tki 5 ?_
    refine tkce (R:=fun V W=>(StrV 60 V)∧(Bk W (g1) 179 [.bool s1,.int .u64 (h1:Int),.int .u64 (l1:Int)]∧Bk W (g2) 179 [.bool s2,.int .u64 (0:Int),.int .u64 (l2:Int)]∧Bk W (g3) 179 [.bool s3,.int .u64 (h3:Int),.int .u64 (l3:Int)]∧SlV 16 g W v8∧Below g w W)) ((funt_w Q3.out.2.2 _ (tab_keep HT.out (HG.out▸H.out.2.2.2.2) H2.out)).mono fun e w' ⟨v,he,hv,hb⟩=>⟨v,he,hv,(H.out.1).keep hb,(H.out.2.1).keep hb,(H.out.2.2.1).keep hb,(H.out.2.2.2.1).keep hb,(H.out.2.2.2.2).trans (hb.mono (by have h9:=(H.out.2.2.2.2).size;(try have h8:=HG.out);omega))⟩) (fun _ _ h=>h.2) ?_
    clear H hHeld
    intro vv v4 Z hHeld
    obtain ⟨⟨es,rfl,hes⟩,hC⟩:=Z.out
    have H:=lh hC
    clear Z hC
    refine tkce (R:=fun V W=>(SlB g W V)∧(Bk W (g1) 179 [.bool s1,.int .u64 (h1:Int),.int .u64 (l1:Int)]∧Bk W (g2) 179 [.bool s2,.int .u64 (0:Int),.int .u64 (l2:Int)]∧Bk W (g3) 179 [.bool s3,.int .u64 (h3:Int),.int .u64 (l3:Int)]∧SlV 16 g W v8∧Below g w W)) ((write_b (B:=g) (Nat.le_trans (Nat.le_of_eq HG.out.symm) (H.out.2.2.2.2).size) s1 es (by omega) Lb HB.out.1 HB.out.2).mono fun e w' ⟨v,he,hv,hb⟩=>⟨v,he,hv,(H.out.1).keep hb,(H.out.2.1).keep hb,(H.out.2.2.1).keep hb,(H.out.2.2.2.1).keep hb,(H.out.2.2.2.2).trans (hb.mono (by have h9:=(H.out.2.2.2.2).size;(try have h8:=HG.out);omega))⟩) (fun _ _ h=>h.2) ?_
    clear H hHeld
    intro vv v5 Z hHeld
    obtain ⟨⟨v9,q9,rfl,hv9⟩,hC⟩:=Z.out
    have H:=lh hC
    clear Z hC
    refine tki 7 ?_
    refine tki 8 ?_
    refine tki 9 ?_
    refine tki 10 ?_
    refine tki 11 ?_
    have V9:=lh hv9
    clear hv9
    refine wpAnyH_done (by with_unfolding_all rfl) ?_ _
    clear hHeld
    obtain ⟨m8,y8,ho8,hm8⟩:=H.out.2.2.2.1
    obtain ⟨m9,y9,ho9,hm9⟩:=V9.out
    obtain ⟨A9,c9,rfl,hA9⟩:=own_shape ho9
    have O8:=lh ho8
    have O9:=lh ho9
    have S9:=lh (show m8≤16∧m9≤16∧(A9=none→c9=0) from ⟨hm8,hm9,hA9⟩)
    clear ho8 ho9 hm8 hm9 hA9 V9
    go_upto_region 11 with fail
    refine wp_region_lit ?_
    iterate 2 refine lsv (w':=v5) ?_
    refine wpList_append_bytes rfl (.tmp 59) (.tmp 60) rfl g v8 m8 y8 rfl O8.out A9 m9 c9 y9 rfl O9.out.byt S9.out.2.2 (by have:=S9.out;omega) (Nat.le_trans (Nat.le_of_eq HG.out.symm) (H.out.2.2.2.2).size) ?_
    intro v10 w10 ho hg
    have B10:=lh (below_own (H.out.2.2.2.2) O8.out hg (Nat.le_of_eq HG.out.symm))
    have V10:=lh (show SlV 32 g w10 v10 from ⟨_,_,ho,by have:=S9.out;omega⟩)
    clear ho hg
    iterate 2 refine lsv (w':=w10) ?_
    refine wpList_nil ?_
    go_wp2
    go_ret2
    exact ⟨_,rfl,⟨_,_,rfl,HG.out▸V10.out⟩,HG.out▸B10.out⟩
   ·go_wp2
    go_ret2
    exact ⟨_,rfl,⟨_,_,rfl,SlV.nil⟩,HG.out▸H.out.2.2.2⟩
  ·go_wp2
   go_ret2
   exact ⟨_,rfl,⟨_,_,rfl,SlV.nil⟩,HG.out▸H.out.2.2⟩
 ·have e1:(c == 0)=false:=by rw [beq_eq_false_iff_ne];exact hc
  clear hc
  go_wp2
  go_ret2
  exact ⟨_,rfl,⟨_,_,rfl,SlV.nil⟩,HG.out▸H.out.2.2⟩
end Go.Proofs.YtljajnaclpbecaaGreatDoor
