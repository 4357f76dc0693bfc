/- Contracts and laws on the way to the statement, text 18 of 22. Conditions: as each states them. -/
import Derived.Test.YtljajnaclpbecaaGreatDoorGu1
import Derived.Test.YtljajnaclpbecaaGreatDoorGu5
import Derived.Test.YtljajnaclpbecaaGreatDoorGu10
import Derived.Test.YtljajnaclpbecaaGreatDoorGu11
import Derived.Test.YtljajnaclpbecaaGreatDoorGu16
import Derived.Test.YtljajnaclpbecaaGreatDoorGu17
namespace Go.Proofs.YtljajnaclpbecaaGreatDoor
open Go.RowKit
set_option maxRecDepth 1000000
set_option maxHeartbeats 8000000
set_option linter.unusedVariables false
set_option linter.unusedSimpArgs false
section
variable {w0 w w':World} {g r n m:Nat} {F:Foot} {rs:List Int} {p:Ps} {bs ks z:List Int} {fm r2 x2 b1 d1 b2 d2 l1 l2 i2 k:Int} {P W:Bool}
theorem DR.cr {W0 W1:World} {ix:List Int} (h:DR W0 W1 g F ix rs p bs ks) {j:Nat} (hj:j<16):W1.cell? ⟨g,12+j,none⟩=some (.int .u32 (rs.getD j 0)):=by
 refine h.rowR j _ ?_
 rw [List.getElem?_map,List.getElem?_eq_getElem (by rw [h.rl];omega),List.getD_eq_getElem?_getD,List.getElem?_eq_getElem (by rw [h.rl];omega)]
 rfl
theorem dx_78 (h:DX w0 w g F [78,fm,(r:Int),r2,x2,b1,d1,b2,d2,l1,l2,i2] rs p bs ks k P W z) (hr:r<16) (h0:0≤b2∧b2<16) (h1:0≤x2∧x2<16) (hd:0≤d2∧d2<4096) (h2:0≤b1∧b1<16) (h3:0≤d1∧d1<4096) (hl:l1+1=(n:Int)) (hm:l2+1=(m:Int)) (hn:1≤n∧n≤16) (hm2:1≤m∧m≤16):Calls Tryz.prog 69 #[.pointer (some ⟨g,0,none⟩)] w (Dz (fun v w'=>I6V v∧DE w0 w' g F [78,fm,(r:Int),r2,x2,b1,d1,b2,d2,l1,l2,i2] ks k P W z∧Ch w w' [g,F.gb]) (fun w'=>DE w0 w' g F [78,fm,(r:Int),r2,x2,b1,d1,b2,d2,l1,l2,i2] ks k P W z∧Ch w w' [g,F.gb])):=by
 have N1:=lh hn
 have N2:=lh hm2
 have L1:=lh hl
 have L2:=lh hm
 have RR:=lh hr
 have HB:=lh (⟨h0,h1,hd,h2,h3⟩:(0≤b2∧b2<16)∧(0≤x2∧x2<16)∧(0≤d2∧d2<4096)∧(0≤b1∧b1<16)∧(0≤d1∧d1<4096))
 have hw1:IntKind.i64.wrap (l1+1)=(n:Int):=by rw [hl];exact wrap_i64_id (by omega) (by omega)
 have hw2:IntKind.i64.wrap (l2+1)=(m:Int):=by rw [hm];exact wrap_i64_id (by omega) (by omega)
 have H:=lh h
 clear h hr h0 h1 hd h2 h3 hl hm hn hm2
 go_enter Tryz.func69,Tryz.ntmps69
 go_upto_region 1 with fail
 refine wp_region_held_drew (S:=fun W=>∃b,DR W W g F [78,fm,(r:Int),r2,x2,b1,d1,b2,d2,l1,l2,i2] rs p b ks∧True) (by kernel_rfl) ⟨_,H.out.drew.dr,trivial⟩ (fun hHeld=>?_)
 have C:=lh (show Ch w w.drew [g,F.gb] from (Ch.refl _ _).drew')
 replace H:=lh H.out.drew
 obtain ⟨v0,hv⟩:∃V,w.drew=V:=⟨_,rfl⟩
 rw [hv] at H C hHeld ⊢
 clear hv
 repeat refine tkd ?_
 refine wpAnyH_done (by with_unfolding_all rfl) ?_ _
 clear hHeld hw1 hw2
 have c0:v0.cell? ⟨g,0,none⟩=some (.int .i64 78):=H.out.dr.m.cell (c:=0) rfl
 go_upto_region 10 with fail
 refine wp_region_lit ?_
 refine lsv (w':=v0) ?_
 refine lsce (da_w H.out.dr H.out.ro HB.out.1 HB.out.2.1 HB.out.2.2.1) ?_
 intro vv y1 Z
 obtain ⟨⟨a,-,rfl⟩,hb⟩:=Z.out
 replace C:=lh (C.out.trans (Ch.of_below hb _))
 replace H:=lh (H.out.keep hb)
 clear Z hb
 obtain ⟨x,ex⟩:∃x,((a:Nat):Int).tmod 8=x:=⟨_,rfl⟩
 obtain ⟨b,eb⟩:∃b,(x == 0)=b:=⟨_,rfl⟩
 refine lsv (v:=.int .i64 x) (w':=y1) ?_
 refine lsv (v:=.bool b) (w':=y1) ?_
 clear ex eb
 refine lsd (need_w b y1) (by intro c w' hB;obtain rfl:=hB;exact ⟨rfl,.inr ⟨c,rfl,H.out.e,C.out⟩⟩) ?_
 intro vv y2 Z
 obtain ⟨rfl,hq,rfl⟩:=Z.out
 clear Z
 refine wpList_nil ?_
 obtain ⟨u,hu⟩:∃u,rs.getD r 0=u:=⟨_,rfl⟩
 have r16:(r:Int)<16:=by have:=RR.out;omega
 have hr:=RR.out
 go_upto_region 11 with fail
 clear c0
 refine wp_region_held_drew (S:=fun W'=>∃b,DR W' W' g F [78,fm,(r:Int),r2,x2,b1,d1,b2,d2,l1,l2,i2] rs p b ks∧True) (by kernel_rfl) ⟨_,H.out.drew.dr,trivial⟩ (fun hHeld=>?_)
 replace H:=lh H.out.drew
 replace C:=lh C.out.drew'
 obtain ⟨z0,hv⟩:∃V,y1.drew=V:=⟨_,rfl⟩
 rw [hv] at H C hHeld ⊢
 clear hv
 refine tki 0 ?_
 refine tki 1 ?_
 refine tki 3 ?_
 refine tki 4 ?_
 refine tki 5 ?_
 refine tki 6 ?_
 refine tki 7 ?_
 refine tki 8 (v:=.int .i64 (r:Int)) ?_ (y:=by (intro W' hSw;obtain ⟨b9,hx,-⟩:=hSw;have c1:=hx.m.cell (c:=2) rfl;go_simp;(try with_reducible rfl)))
 refine tki 9 ?_
 refine tki 10 ?_
 refine tki 11 (v:=.pointer (some ⟨g,12+r,none⟩)) ?_
 refine tki 12 (v:=.int .u32 u) ?_ (y:=by (intro W' hSw;obtain ⟨b9,hx,-⟩:=hSw;have c1:=hx.cr hr;rw [hu] at c1;go_simp;(try with_reducible rfl)))
 clear hu r16 hr
 refine tkce (R:=fun V W'=>(AdV V)∧(DX w0 W' g F [78,fm,(r:Int),r2,x2,b1,d1,b2,d2,l1,l2,i2] rs p bs ks k P W z∧Ch w W' [g,F.gb])) ((da_w H.out.dr H.out.ro HB.out.1 HB.out.2.1 HB.out.2.2.1).mono fun e w' ⟨v,he,hv,hb⟩=>⟨v,he,hv,H.out.keep hb,C.out.trans (Ch.of_below hb _)⟩) (fun _ _ h=>⟨_,h.2.1.dr,trivial⟩) ?_
 clear hHeld H C
 intro vv z1 Z hHeld
 obtain ⟨⟨a2,-,rfl⟩,hH,hC⟩:=Z.out
 have H:=lh hH
 have C:=lh hC
 clear Z hH hC
 have Z1:=lh (Nat.le_refl z1.heap.size)
 refine tkce (R:=fun V W'=>(SlV 16 z1.heap.size W' V)∧(DX w0 W' g F [78,fm,(r:Int),r2,x2,b1,d1,b2,d2,l1,l2,i2] rs p bs ks k P W z∧Ch w W' [g,F.gb])) ((fromb_w u _ H.out.tb (by have:=H.out.nn;have:=H.out.sz;omega)).mono fun e w' ⟨v,he,hv,hb⟩=>⟨v,he,hv,H.out.keep hb,C.out.trans (Ch.of_below hb _)⟩) (fun _ _ h=>⟨_,h.2.1.dr,trivial⟩) ?_
 clear hHeld H C
 intro vv z2 Z hHeld
 obtain ⟨hv,hH,hC⟩:=Z.out
 have H:=lh hH
 have C:=lh hC
 clear Z hH hC
 have V:=lh hv
 clear hv
 refine tkde (A:=fun V W'=>V=.tuple #[]∧(DE w0 W' g F [78,fm,(r:Int),r2,x2,b1,d1,b2,d2,l1,l2,i2] ks k P W z∧Ch w W' [g,F.gb])∧∃b,DR W' W' g F [78,fm,(r:Int),r2,x2,b1,d1,b2,d2,l1,l2,i2] rs p b ks∧True) (B:=fun W'=>DE w0 W' g F [78,fm,(r:Int),r2,x2,b1,d1,b2,d2,l1,l2,i2] ks k P W z∧Ch w W' [g,F.gb]) ((dput_w H.out (V.out.mono (show 16≤1000 by omega)) (by omega)).mono fun e w' h=>h.mono (fun v h=>⟨h.1,⟨by obtain ⟨b',h1⟩:=h.2.1;exact h1.e,C.out.trans (h.2.2.mono (by simp))⟩,by obtain ⟨b',h1⟩:=h.2.1;exact ⟨_,h1.dr,trivial⟩⟩) (fun h=>⟨by obtain ⟨b',h1⟩:=h.1;exact h1.e,C.out.trans (h.2.mono (by simp))⟩)) (fun _ _ h=>h.2.2) (by intro c w' hB;exact ⟨rfl,.inr ⟨c,rfl,hB.1,hB.2⟩⟩) ?_
 clear hHeld H C V
 intro vv z3 Z hHeld
 obtain ⟨rfl,hE,-⟩:=Z.out
 have E:=lh hE
 clear Z hE
 refine wpAnyH_done (by with_unfolding_all rfl) ?_ _
 clear hHeld
 go_wp2
 go_ret
 exact .inl ⟨_,rfl,⟨_,rfl⟩,E.out.1,E.out.2⟩
end
section
variable {w0 w w':World} {g r n m:Nat} {F:Foot} {rs:List Int} {p:Ps} {bs ks z:List Int} {fm r2 x2 b1 d1 b2 d2 l1 l2 i2 k:Int} {P W:Bool}
theorem dx_240 (h:DX w0 w g F [240,fm,(r:Int),r2,x2,b1,d1,b2,d2,l1,l2,i2] rs p bs ks k P W z) (hr:r<16) (h0:0≤b2∧b2<16) (h1:0≤x2∧x2<16) (hd:0≤d2∧d2<4096) (h2:0≤b1∧b1<16) (h3:0≤d1∧d1<4096) (hl:l1+1=(n:Int)) (hm:l2+1=(m:Int)) (hn:1≤n∧n≤16) (hm2:1≤m∧m≤16):Calls Tryz.prog 69 #[.pointer (some ⟨g,0,none⟩)] w (Dz (fun v w'=>I6V v∧DE w0 w' g F [240,fm,(r:Int),r2,x2,b1,d1,b2,d2,l1,l2,i2] ks k P W z∧Ch w w' [g,F.gb]) (fun w'=>DE w0 w' g F [240,fm,(r:Int),r2,x2,b1,d1,b2,d2,l1,l2,i2] ks k P W z∧Ch w w' [g,F.gb])):=by
 have N1:=lh hn
 have N2:=lh hm2
 have L1:=lh hl
 have L2:=lh hm
 have RR:=lh hr
 have HB:=lh (⟨h0,h1,hd,h2,h3⟩:(0≤b2∧b2<16)∧(0≤x2∧x2<16)∧(0≤d2∧d2<4096)∧(0≤b1∧b1<16)∧(0≤d1∧d1<4096))
 have hw1:IntKind.i64.wrap (l1+1)=(n:Int):=by rw [hl];exact wrap_i64_id (by omega) (by omega)
 have hw2:IntKind.i64.wrap (l2+1)=(m:Int):=by rw [hm];exact wrap_i64_id (by omega) (by omega)
 have H:=lh h
 clear h hr h0 h1 hd h2 h3 hl hm hn hm2
 go_enter Tryz.func69,Tryz.ntmps69
 go_upto_region 1 with fail
 refine wp_region_held_drew (S:=fun W=>∃b,DR W W g F [240,fm,(r:Int),r2,x2,b1,d1,b2,d2,l1,l2,i2] rs p b ks∧True) (by kernel_rfl) ⟨_,H.out.drew.dr,trivial⟩ (fun hHeld=>?_)
 have C:=lh (show Ch w w.drew [g,F.gb] from (Ch.refl _ _).drew')
 replace H:=lh H.out.drew
 obtain ⟨v0,hv⟩:∃V,w.drew=V:=⟨_,rfl⟩
 rw [hv] at H C hHeld ⊢
 clear hv
 repeat refine tkd ?_
 refine wpAnyH_done (by with_unfolding_all rfl) ?_ _
 clear hHeld hw1 hw2
 have c0:v0.cell? ⟨g,0,none⟩=some (.int .i64 240):=H.out.dr.m.cell (c:=0) rfl
 go_upto_region 38 with fail
 refine wp_region_lit ?_
 refine lsv (w':=v0) ?_
 refine lsce (da_w H.out.dr H.out.ro HB.out.1 HB.out.2.1 HB.out.2.2.1) ?_
 intro vv y1 Z
 obtain ⟨⟨a,-,rfl⟩,hb⟩:=Z.out
 replace C:=lh (C.out.trans (Ch.of_below hb _))
 replace H:=lh (H.out.keep hb)
 clear Z hb
 obtain ⟨x,ex⟩:∃x,((a:Nat):Int).tmod 64=x:=⟨_,rfl⟩
 have X:=lh (show 0≤x∧x≤63 by rw [← ex,Int.tmod_eq_emod_of_nonneg (by omega)];omega)
 refine lsv (v:=.int .i64 x) (w':=y1) ?_
 refine lsv (w':=y1) ?_
 refine wpList_nil ?_
 clear ex
 obtain ⟨rd,hrd⟩:∃rd:Nat,l2=(rd:Int):=⟨m - 1,by have:=L2.out;have:=N2.out;omega⟩
 subst hrd
 by_cases h32:32≤x
 ·obtain ⟨y,ey⟩:∃y,IntKind.i64.wrap (x - 64)=y:=⟨_,rfl⟩
  have CN:=lh (show -32≤y∧y≤31 by rw [← ey,wrap_i64_id (by have:=X.out;omega) (by have:=X.out;omega)];have:=X.out;omega)
  go_upto_region 41 with fail
  clear c0
  refine wp_region_held_drew (S:=fun W'=>W'.cell? ⟨g,10,none⟩=some (.int .i64 (rd:Int))) (by kernel_rfl) (H.out.dr.m.cell (c:=10) rfl) (fun hHeld=>?_)
  replace H:=lh H.out.drew
  replace C:=lh C.out.drew'
  obtain ⟨z0,hv⟩:∃V,y1.drew=V:=⟨_,rfl⟩
  rw [hv] at H C hHeld ⊢
  clear hv
  refine tki 0 ?_
  refine tki 1 ?_
  refine tki 2 ?_
  refine tki 4 ?_
  refine tki 6 ?_
  refine tki 7 ?_
  refine tki 8 ?_
  refine tki 9 ?_
  refine tki 10 ?_
  refine tki 11 (v:=.int .i64 (rd:Int)) ?_
  refine tkce (R:=fun V W'=>(AdV V)∧(DX w0 W' g F [240,fm,(r:Int),r2,x2,b1,d1,b2,d2,l1,(rd:Int),i2] rs p bs ks k P W z∧Ch w W' [g,F.gb])) ((da1_w H.out.dr H.out.ro HB.out.2.2.2.1 HB.out.2.2.2.2).mono fun e w' ⟨v,he,hv,hb⟩=>⟨v,he,hv,H.out.keep hb,C.out.trans (Ch.of_below hb _)⟩) (fun _ _ h=>h.2.1.dr.m.cell (c:=10) rfl) ?_
  clear hHeld H C
  intro vv z1 Z hHeld
  obtain ⟨⟨a2,-,rfl⟩,hH,hC⟩:=Z.out
  have H:=lh hH
  have C:=lh hC
  clear Z hH hC
  refine tkde (A:=fun V W'=>FeV n z1.heap.size W' V∧(DX w0 W' g F [240,fm,(r:Int),r2,x2,b1,d1,b2,d2,l1,(rd:Int),i2] rs p bs ks k P W z∧Ch w W' [g,F.gb])) (B:=fun W'=>DE w0 W' g F [240,fm,(r:Int),r2,x2,b1,d1,b2,d2,l1,(rd:Int),i2] ks k P W z∧Ch w W' [g,F.gb]) ((dfet_w (a:=a2) (n:=n) H.out.dr (by have:=N1.out;omega)).mono fun e w' h=>h.mono (fun v h=>⟨h.1,H.out.keep h.2,C.out.trans (Ch.of_below h.2 _)⟩) (fun h=>⟨(H.out.keep h).e,C.out.trans (Ch.of_below h _)⟩)) (fun _ _ h=>h.2.1.dr.m.cell (c:=10) rfl) (by intro c w' hB;exact ⟨rfl,.inr ⟨c,rfl,hB.1,hB.2⟩⟩) ?_
  clear hHeld H C
  intro vv z2 Z hHeld
  obtain ⟨⟨bb,cb,zb,rfl,ob⟩,hH,hC⟩:=Z.out
  have H:=lh hH
  have C:=lh hC
  have YB:=ob.byt
  clear Z hH hC
  refine tkce (R:=fun V W'=>(SlII z2.heap.size W' V)∧(DX w0 W' g F [240,fm,(r:Int),r2,x2,b1,d1,b2,d2,l1,(rd:Int),i2] rs p bs ks k P W z∧Ch w W' [g,F.gb])) ((dshift_w n bb cb N1.out zb y CN.out rd (by have:=L2.out;have:=N2.out;omega) _ YB H.out.tb (by have:=H.out.nn;have:=H.out.sz;omega)).mono fun e w' ⟨v,he,hv,hb⟩=>⟨v,he,hv,H.out.keep hb,C.out.trans (Ch.of_below hb _)⟩) (fun _ _ h=>h.2.1.dr.m.cell (c:=10) rfl) ?_
  clear hHeld H C
  intro vv z3 Z hHeld
  obtain ⟨⟨v8,c8,k8,rfl,hv⟩,hH,hC⟩:=Z.out
  have H:=lh hH
  have C:=lh hC
  clear Z hH hC
  refine tki 13 ?_
  refine tki 14 ?_
  refine tki 15 ?_
  have V:=lh hv
  clear hv
  refine tkde (A:=fun V W'=>I6V V∧(DE w0 W' g F [240,fm,(r:Int),r2,x2,b1,d1,b2,d2,l1,(rd:Int),i2] ks k P W z∧Ch w W' [g,F.gb])) (B:=fun W'=>DE w0 W' g F [240,fm,(r:Int),r2,x2,b1,d1,b2,d2,l1,(rd:Int),i2] ks k P W z∧Ch w W' [g,F.gb]) ((dsum_w (cc:=c8) (cd:=k8) H.out HB.out.2.2.2.1 HB.out.2.2.2.2 (V.out.mono (show 16≤1000 by omega))).mono fun e w' h=>h.mono (fun v h=>⟨h.1,h.2.1,C.out.trans h.2.2⟩) (fun h=>⟨h.1,C.out.trans h.2⟩)) (fun _ _ h=>by obtain ⟨_,_,_,h1⟩:=h.2.1;exact h1.dr.m.cell (c:=10) rfl) (by intro c w' hB;exact ⟨rfl,.inr ⟨c,rfl,hB.1,hB.2⟩⟩) ?_
  clear hHeld H C V
  intro vv z4 Z hHeld
  obtain ⟨⟨kk,rfl⟩,hE⟩:=Z.out
  have E:=lh hE
  clear Z hE
  refine tki 17 ?_
  refine wpAnyH_done (by with_unfolding_all rfl) ?_ _
  clear hHeld
  go_wp2
  go_ret
  exact .inl ⟨_,rfl,⟨_,rfl⟩,E.out.1,E.out.2⟩
 ·have CN:=lh (show -32≤x∧x≤31 by have:=X.out;omega)
  go_upto_region 41 with fail
  clear c0
  refine wp_region_held_drew (S:=fun W'=>W'.cell? ⟨g,10,none⟩=some (.int .i64 (rd:Int))) (by kernel_rfl) (H.out.dr.m.cell (c:=10) rfl) (fun hHeld=>?_)
  replace H:=lh H.out.drew
  replace C:=lh C.out.drew'
  obtain ⟨z0,hv⟩:∃V,y1.drew=V:=⟨_,rfl⟩
  rw [hv] at H C hHeld ⊢
  clear hv
  refine tki 0 ?_
  refine tki 1 ?_
  refine tki 2 ?_
  refine tki 4 ?_
  refine tki 6 ?_
  refine tki 7 ?_
  refine tki 8 ?_
  refine tki 9 ?_
  refine tki 10 ?_
  refine tki 11 (v:=.int .i64 (rd:Int)) ?_
  refine tkce (R:=fun V W'=>(AdV V)∧(DX w0 W' g F [240,fm,(r:Int),r2,x2,b1,d1,b2,d2,l1,(rd:Int),i2] rs p bs ks k P W z∧Ch w W' [g,F.gb])) ((da1_w H.out.dr H.out.ro HB.out.2.2.2.1 HB.out.2.2.2.2).mono fun e w' ⟨v,he,hv,hb⟩=>⟨v,he,hv,H.out.keep hb,C.out.trans (Ch.of_below hb _)⟩) (fun _ _ h=>h.2.1.dr.m.cell (c:=10) rfl) ?_
  clear hHeld H C
  intro vv z1 Z hHeld
  obtain ⟨⟨a2,-,rfl⟩,hH,hC⟩:=Z.out
  have H:=lh hH
  have C:=lh hC
  clear Z hH hC
  refine tkde (A:=fun V W'=>FeV n z1.heap.size W' V∧(DX w0 W' g F [240,fm,(r:Int),r2,x2,b1,d1,b2,d2,l1,(rd:Int),i2] rs p bs ks k P W z∧Ch w W' [g,F.gb])) (B:=fun W'=>DE w0 W' g F [240,fm,(r:Int),r2,x2,b1,d1,b2,d2,l1,(rd:Int),i2] ks k P W z∧Ch w W' [g,F.gb]) ((dfet_w (a:=a2) (n:=n) H.out.dr (by have:=N1.out;omega)).mono fun e w' h=>h.mono (fun v h=>⟨h.1,H.out.keep h.2,C.out.trans (Ch.of_below h.2 _)⟩) (fun h=>⟨(H.out.keep h).e,C.out.trans (Ch.of_below h _)⟩)) (fun _ _ h=>h.2.1.dr.m.cell (c:=10) rfl) (by intro c w' hB;exact ⟨rfl,.inr ⟨c,rfl,hB.1,hB.2⟩⟩) ?_
  clear hHeld H C
  intro vv z2 Z hHeld
  obtain ⟨⟨bb,cb,zb,rfl,ob⟩,hH,hC⟩:=Z.out
  have H:=lh hH
  have C:=lh hC
  have YB:=ob.byt
  clear Z hH hC
  refine tkce (R:=fun V W'=>(SlII z2.heap.size W' V)∧(DX w0 W' g F [240,fm,(r:Int),r2,x2,b1,d1,b2,d2,l1,(rd:Int),i2] rs p bs ks k P W z∧Ch w W' [g,F.gb])) ((dshift_w n bb cb N1.out zb x CN.out rd (by have:=L2.out;have:=N2.out;omega) _ YB H.out.tb (by have:=H.out.nn;have:=H.out.sz;omega)).mono fun e w' ⟨v,he,hv,hb⟩=>⟨v,he,hv,H.out.keep hb,C.out.trans (Ch.of_below hb _)⟩) (fun _ _ h=>h.2.1.dr.m.cell (c:=10) rfl) ?_
  clear hHeld H C
  intro vv z3 Z hHeld
  obtain ⟨⟨v8,c8,k8,rfl,hv⟩,hH,hC⟩:=Z.out
  have H:=lh hH
  have C:=lh hC
  clear Z hH hC
  refine tki 13 ?_
  refine tki 14 ?_
  refine tki 15 ?_
  have V:=lh hv
  clear hv
  refine tkde (A:=fun V W'=>I6V V∧(DE w0 W' g F [240,fm,(r:Int),r2,x2,b1,d1,b2,d2,l1,(rd:Int),i2] ks k P W z∧Ch w W' [g,F.gb])) (B:=fun W'=>DE w0 W' g F [240,fm,(r:Int),r2,x2,b1,d1,b2,d2,l1,(rd:Int),i2] ks k P W z∧Ch w W' [g,F.gb]) ((dsum_w (cc:=c8) (cd:=k8) H.out HB.out.2.2.2.1 HB.out.2.2.2.2 (V.out.mono (show 16≤1000 by omega))).mono fun e w' h=>h.mono (fun v h=>⟨h.1,h.2.1,C.out.trans h.2.2⟩) (fun h=>⟨h.1,C.out.trans h.2⟩)) (fun _ _ h=>by obtain ⟨_,_,_,h1⟩:=h.2.1;exact h1.dr.m.cell (c:=10) rfl) (by intro c w' hB;exact ⟨rfl,.inr ⟨c,rfl,hB.1,hB.2⟩⟩) ?_
  clear hHeld H C V
  intro vv z4 Z hHeld
  obtain ⟨⟨kk,rfl⟩,hE⟩:=Z.out
  have E:=lh hE
  clear Z hE
  refine tki 17 ?_
  refine wpAnyH_done (by with_unfolding_all rfl) ?_ _
  clear hHeld
  go_wp2
  go_ret
  exact .inl ⟨_,rfl,⟨_,rfl⟩,E.out.1,E.out.2⟩
end
section
variable {w0 w w':World} {F:Foot} {os bs ks:List Int} {p:Ps}
theorem dcatch_w {z a b:List Value} {v:Int} (c:Int) (older:List PanicEntry) (X:XG w0 w F bs ks z (os.map (Value.int .u32)) p.v a b v) (hl:os.length=16) (ha:a.length=16) (hb:b.length=10):CallsD Tryz.prog 68 #[.pointer (some ⟨w0.heap.size+1,0,none⟩),.pointer (some ⟨w0.heap.size+1+1,0,none⟩),.pointer (some ⟨w0.heap.size+1+1+1,0,none⟩),.pointer (some ⟨w0.heap.size+1+1+1+1,0,none⟩),.pointer (some ⟨w0.heap.size+1+1+1+1+1,0,none⟩)] (.panicking ({ v:=.iface 129 (.int .i64 c),recovered:=false } :: older)) w fun e u' w'=>e=.returned (.tuple #[])∧u'=.panicking ({ v:=.iface 129 (.int .i64 c),recovered:=true } :: older)∧XG w0 w' F bs ks z (os.map (Value.int .u32)) p.v (os.map (Value.int .u32)) p.v c:=by
 have X1:=lh X
 have HL:=lh hl
 have HA:=lh ha
 have HB:=lh hb
 clear X hl ha hb
 have TA:∀w,(Instr.typeAssert (.iface 129 (.int .i64 c)) 20 129 true).run Tryz.prog w=.ok (.tuple #[.int .i64 c,.bool true]) w:=fun w=>by kernel_rfl
 refine callsD_of_wpS Tryz.func68 rfl fun c₀ cs hu=>?_
 simp only [Tryz.ntmps68,List.size_toArray,List.length_cons,List.length_nil,Nat.reduceAdd,Nat.reduceSub,Array.replicate_succ,Array.replicate_zero,List.push_toArray,List.append_toArray,List.nil_append,List.cons_append]
 apply wpS_seq
 apply wpS_region
 show wpOpsS _ _ _ [0] _ _ _
 refine opsS_rec (v:=.iface 129 (.int .i64 c)) (cs':={ c₀ with mode:=.panicking ({ v:=.iface 129 (.int .i64 c),recovered:=true } :: older) } :: cs) (w':=w) rfl (by kernel_rfl) (by kernel_rfl) (by simp [recoverD,hu]) ?_
 simp only [Act.put,List.setIfInBounds_toArray,List.set_cons_zero,List.set_cons_succ]
 unfold wpOpsS
 simp only [Exit.thenS]
 refine wpS_of_wp ?_
 go_upto_region 7 with fail
 refine wp_region_lit ?_
 refine lsl X1.out.r ?_ (hi:=by rw [List.length_map,HL.out];kernel_rfl)
 refine lsl X1.out.p ?_
 refine lsv (v:=.int .i64 c) (w':=w) ?_
 refine lss (cs':=os.map (Value.int .u32)) X1.out.a (by rw [List.length_map,HL.out,HA.out]) (one_u32 os) (by rw [List.length_map,HL.out];kernel_rfl) ?_
 replace X1:=lh (X1.out.seta (os.map (Value.int .u32)))
 refine lss (cs':=p.v) X1.out.b (by rw [HB.out];rfl) (one_ps p) (by kernel_rfl) ?_
 replace X1:=lh (X1.out.setb p.v)
 refine lsk (w':=((w.setRow (w0.heap.size+1+1+1) (os.map (Value.int .u32)).toArray).setRow (w0.heap.size+1+1+1+1) p.v.toArray).setCell ⟨w0.heap.size+1+1+1+1+1,0,none⟩ (.int .i64 c)) (by have c5:=X1.out.c.cell (c:=0) rfl;have f5:=X1.out.c.free 0;go_simp) ?_
 replace X1:=lh (X1.out.setc c)
 refine wpList_nil ?_
 go_wp2
 exact ⟨rfl,.panicking ({ v:=.iface 129 (.int .i64 c),recovered:=true } :: older),by cases c₀;simp_all,.tuple #[],by simp [results,Tryz.results68],rfl,rfl,X1.out⟩
end
def dkL:List Int:=[78,79,222,223,240,241,242,243,248,249,250,251,252,253]
def dkn (op:Int):Bool:=decide (op∈dkL)
theorem dkn_or {op:Int} (h:dkn op=true):op=78∨op=79∨op=222∨op=223∨op=240∨op=241∨op=242∨op=243∨op=248∨op=249∨op=250∨op=251∨op=252∨op=253:=by
 have:=of_decide_eq_true h
 simpa [dkL] using this
theorem dknows_w (op:Int) (w:World):Calls Tryz.prog 52 #[.int .i64 op] w fun e w'=>e=.returned (.bool (dkn op))∧w=w':=by
 by_cases h:dkn op=true
 ·rw [h]
  rcases dkn_or h with rfl | rfl | rfl | rfl | rfl | rfl | rfl | rfl | rfl | rfl | rfl | rfl | rfl | rfl <;>
  ·clear h
   go_enter Tryz.func52,Tryz.ntmps52
   go_wp2
   go_ret
   exact ⟨rfl,rfl⟩
 ·have hr:dkn op=false:=by simpa using h
  rw [hr]
  have hn:op∉dkL:=of_decide_eq_false hr
  simp only [dkL,List.mem_cons,List.not_mem_nil,or_false,not_or] at hn
  obtain ⟨n78,n79,n222,n223,n240,n241,n242,n243,n248,n249,n250,n251,n252,n253⟩:=hn
  have p78:(op == 78)=false:=by rw [beq_eq_false_iff_ne];exact n78
  have p79:(op == 79)=false:=by rw [beq_eq_false_iff_ne];exact n79
  have p222:(op == 222)=false:=by rw [beq_eq_false_iff_ne];exact n222
  have p223:(op == 223)=false:=by rw [beq_eq_false_iff_ne];exact n223
  have p240:(op == 240)=false:=by rw [beq_eq_false_iff_ne];exact n240
  have p241:(op == 241)=false:=by rw [beq_eq_false_iff_ne];exact n241
  have p242:(op == 242)=false:=by rw [beq_eq_false_iff_ne];exact n242
  have p243:(op == 243)=false:=by rw [beq_eq_false_iff_ne];exact n243
  have p248:(op == 248)=false:=by rw [beq_eq_false_iff_ne];exact n248
  have p249:(op == 249)=false:=by rw [beq_eq_false_iff_ne];exact n249
  have p250:(op == 250)=false:=by rw [beq_eq_false_iff_ne];exact n250
  have p251:(op == 251)=false:=by rw [beq_eq_false_iff_ne];exact n251
  have p252:(op == 252)=false:=by rw [beq_eq_false_iff_ne];exact n252
  have p253:(op == 253)=false:=by rw [beq_eq_false_iff_ne];exact n253
  clear h hr n78 n79 n222 n223 n240 n241 n242 n243 n248 n249 n250 n251 n252 n253
  go_enter Tryz.func52,Tryz.ntmps52
  go_wp2
  go_ret
  exact ⟨rfl,rfl⟩
section
variable {w0 w w':World} {g:Nat} {F:Foot} {rs:List Int} {p:Ps} {bs ks z:List Int} {op fm r1 r2 x2 b1 d1 b2 d2 l1 l2 i2 k:Int} {P W:Bool}
theorem dkF:∀op∈dkL,isOp op=true∧(fmOf op=2∨fmOf op=5∧222≤op∧op≤223∨fmOf op=6):=by decide +kernel
theorem dex_w (h:DX w0 w g F [op,fm,r1,r2,x2,b1,d1,b2,d2,l1,l2,i2] rs p bs ks k P W z) (hop:dkn op=true) (hc:chk op fm [op,fm,r1,r2,x2,b1,d1,b2,d2,l1,l2,i2]=0):Calls Tryz.prog 69 #[.pointer (some ⟨g,0,none⟩)] w (Dz (fun v w'=>I6V v∧DE w0 w' g F [op,fm,r1,r2,x2,b1,d1,b2,d2,l1,l2,i2] ks k P W z∧Ch w w' [g,F.gb]) (fun w'=>DE w0 w' g F [op,fm,r1,r2,x2,b1,d1,b2,d2,l1,l2,i2] ks k P W z∧Ch w w' [g,F.gb])):=by
 obtain ⟨hi,hf,⟨r10,r11⟩,hr2,hx,hb1,hd1,hb2,hd2,⟨l10,l11⟩,⟨l20,l21⟩,-⟩:=chk_rng hc
 have hL:l1<16∨(222≤op∧op≤223):=by
  rcases (dkF op (of_decide_eq_true hop)).2 with h2 | h5 | h6
  ·rw [hf] at h2
   subst h2
   rw [chkv_2 op r1 r2 x2 b1 d1 b2 d2 l1 l2 i2 hi hf] at hc
   split at hc
   ·omega
   ·exact absurd hc (by omega)
  ·exact .inr h5.2
  ·rw [hf] at h6
   subst h6
   rw [chkv_6 op r1 r2 x2 b1 d1 b2 d2 l1 l2 i2 hi hf] at hc
   split at hc
   ·omega
   ·exact absurd hc (by omega)
 obtain ⟨r,rfl⟩:=Int.eq_ofNat_of_zero_le r10
 obtain ⟨n,hn⟩:∃n:Nat,l1+1=(n:Int):=⟨(l1+1).toNat,by omega⟩
 obtain ⟨m,hm⟩:∃m:Nat,l2+1=(m:Int):=⟨(l2+1).toNat,by omega⟩
 clear hc hf hi
 rcases dkn_or hop with rfl | rfl | rfl | rfl | rfl | rfl | rfl | rfl | rfl | rfl | rfl | rfl | rfl | rfl
 ·exact dx_78 h (by omega) hb2 hx hd2 hb1 hd1 hn hm (by omega) (by omega)
 ·exact dx_79 h (by omega) hb2 hx hd2 hb1 hd1 hn hm (by omega) (by omega)
 ·exact dx_222 h (by omega) hb2 hx hd2 hb1 hd1 hn hm (by omega) (by omega)
 ·exact dx_223 h (by omega) hb2 hx hd2 hb1 hd1 hn hm (by omega) (by omega)
 ·exact dx_240 h (by omega) hb2 hx hd2 hb1 hd1 hn hm (by omega) (by omega)
 ·exact dx_241 h (by omega) hb2 hx hd2 hb1 hd1 hn hm (by omega) (by omega)
 ·exact dx_242 h (by omega) hb2 hx hd2 hb1 hd1 hn hm (by omega) (by omega)
 ·exact dx_243 h (by omega) hb2 hx hd2 hb1 hd1 hn hm (by omega) (by omega)
 ·exact dx_248 h (by omega) hb2 hx hd2 hb1 hd1 hn hm (by omega) (by omega)
 ·exact dx_249 h (by omega) hb2 hx hd2 hb1 hd1 hn hm (by omega) (by omega)
 ·exact dx_250 h (by omega) hb2 hx hd2 hb1 hd1 hn hm (by omega) (by omega)
 ·exact dx_251 h (by omega) hb2 hx hd2 hb1 hd1 hn hm (by omega) (by omega)
 ·exact dx_252 h (by omega) hb2 hx hd2 hb1 hd1 hn hm (by omega) (by omega)
 ·exact dx_253 h (by omega) hb2 hx hd2 hb1 hd1 hn hm (by omega) (by omega)
def Wx (w:World) (F:Foot) (p:Ps) (bs ks:List Int) (v:Value) (w':World):Prop:=∃ (os:List Int) (q:Ps) (c:Int) (bs':List Int),v=.tuple #[agR os,.agg q.v.toArray,.int .i64 c]∧os.length=16∧(∀x∈os,0≤x∧x≤4294967295)∧(q.key=p.key∧q.P=p.P∧q.W=p.W)∧MB p.key ks bs bs'∧St 63 w' F bs' ks∧Ch w w' [F.gb]
theorem dexec_no (op fm r1 r2 x2 b1 d1 b2 d2 l1 l2 i2:Int) (p:Ps) (hl:rs.length=16) (h:St 63 w F bs ks) (hO:¬(dkn op=true∧chk op fm [op,fm,r1,r2,x2,b1,d1,b2,d2,l1,l2,i2]=0∧pok p.m p.key p.cd p.il p.cc p.pg p.ad=true)):Calls Tryz.prog 53 #[.agg #[.int .i64 op,.int .i64 fm,.int .i64 r1,.int .i64 r2,.int .i64 x2,.int .i64 b1,.int .i64 d1,.int .i64 b2,.int .i64 d2,.int .i64 l1,.int .i64 l2,.int .i64 i2],agR rs,.agg p.v.toArray,.pointer (some ⟨F.g,0,none⟩)] w fun e w'=>e=.returned (.tuple #[agR rs,.agg p.v.toArray,.int .i64 1])∧St 63 w' F bs ks∧Ch w w' [F.gb]:=by
 have hsz:(rs.map (Value.int .u32)).toArray.size=16:=by simpa using hl
 have hsp:p.v.toArray.size=10:=rfl
 have CK:=lh (fun W=>icheck_c op fm r1 r2 x2 b1 d1 b2 d2 l1 l2 i2 W)
 obtain ⟨C,hC⟩:∃C,chk op fm [op,fm,r1,r2,x2,b1,d1,b2,d2,l1,l2,i2]=C:=⟨_,rfl⟩
 rw [hC] at CK hO
 have KC:=lh (fun W=>(dknows_w op W).mono (R':=fun e w'=>e=.returned (.bool (dkn op))∧Below W.heap.size W w') fun e w' h=>⟨h.1,h.2▸Below.refl _ _⟩)
 have HL:=lh hl
 have X0:=lh (XG.start h)
 unfold agR
 clear hC h
 rcases (show dkn op=false∨(dkn op=true∧C≠0)∨(dkn op=true∧C=0∧pok p.m p.key p.cd p.il p.cc p.pg p.ad=false) by
  cases h1:dkn op
  ·exact .inl rfl
  ·by_cases h2:C=0
   ·cases h3:pok p.m p.key p.cd p.il p.cc p.pg p.ad
    ·exact .inr (.inr ⟨rfl,h2,rfl⟩)
    ·exact absurd ⟨h1,h2,h3⟩ hO
   ·exact .inr (.inl ⟨rfl,h2⟩)) with h1 | ⟨h1,h2⟩ | ⟨h1,h2,h3⟩
 rotate_right
 all_goals
  rw [h1] at KC
  (try have e1:(C != 0)=true:=by simpa using h2)
  (try subst h2)
  clear hO h1
  go_enter_defers Tryz.func53,Tryz.ntmps53
  go_upto_region 1 with fail
  have X1:=lh (X0.out [.int .i64 op,.int .i64 fm,.int .i64 r1,.int .i64 r2,.int .i64 x2,.int .i64 b1,.int .i64 d1,.int .i64 b2,.int .i64 d2,.int .i64 l1,.int .i64 l2,.int .i64 i2] (rs.map (Value.int .u32)) p.v [.int .u32 0,.int .u32 0,.int .u32 0,.int .u32 0,.int .u32 0,.int .u32 0,.int .u32 0,.int .u32 0,.int .u32 0,.int .u32 0,.int .u32 0,.int .u32 0,.int .u32 0,.int .u32 0,.int .u32 0,.int .u32 0] [.int .i64 0,.int .i64 0,.bool false,.bool false,.bool false,.int .i64 0,.int .i64 0,.int .i64 0,.int .i64 0,.int .i64 0] 0)
  refine X1.out.opn ?_
  intro _ B1 B2
  refine B1.opn12 ?_
  refine B2.opn10 ?_
  clear B1 B2
  intros
  clear hsz hsp
  go_upto_region 2 with (first
   | (go_at_call 52;refine nx (X1.out.call (KC.out _)) ?_;intro w1 X1;refine X1.out.opn ?_;intro _ B1 B2;refine B1.opn12 ?_;refine B2.opn10 ?_;clear B1 B2;intros)
   | (go_at_call 41;refine nx (X1.out.call (CK.out _)) ?_;intro w1 X1;refine X1.out.opn ?_;intro _ B1 B2;refine B1.opn12 ?_;refine B2.opn10 ?_;clear B1 B2;intros)
   | (go_at_call 22;refine nx (X1.out.call (h3▸valid_c _ _ _ _ _ _ _ _ _ _ _)) ?_;intro w1 X1;refine X1.out.opn ?_;intro _ B1 B2;refine B1.opn12 ?_;refine B2.opn10 ?_;clear B1 B2;intros))
  refine wp_region_held_drew (S:=fun W=>∃a b v,XG w W F bs ks [.int .i64 op,.int .i64 fm,.int .i64 r1,.int .i64 r2,.int .i64 x2,.int .i64 b1,.int .i64 d1,.int .i64 b2,.int .i64 d2,.int .i64 l1,.int .i64 l2,.int .i64 i2] (rs.map (Value.int .u32)) p.v a b v) (by kernel_rfl) ⟨_,_,_,X1.out.drew⟩ (fun hHeld=>?_)
  replace X1:=lh X1.out.drew
  refine tkl 0 (fun w ⟨_,_,_,h⟩=>h.r.row) ?_ (hn:=by rw [List.length_map,HL.out];kernel_rfl) (hQ:=by exact fun _ _ _ h=>exqd h)
  refine tkl 1 (fun w ⟨_,_,_,h⟩=>h.p.row) ?_ (hQ:=by exact fun _ _ _ h=>exqd h)
  refine tks_ X1.out.a (by rw [List.length_map,HL.out];rfl) (one_u32 rs) (by rw [List.length_map,HL.out];kernel_rfl) (X1.out.seta _) (fun _ h=>⟨_,_,_,h⟩) ?_
  clear X1 hHeld
  intro w2 X1 hHeld
  refine tks_ (cs':=p.v) X1.out.b (by rfl) (one_ps p) (by kernel_rfl) (X1.out.setb _) (fun _ h=>⟨_,_,_,h⟩) ?_
  clear X1 hHeld
  intro w3 X1 hHeld
  refine tk_st (R:=_) (st_int (X1.out.c.cell (c:=0) rfl) (X1.out.c.free 0)) (X1.out.setc 1) (fun _ h=>⟨_,_,_,h⟩) ?_ (by with_unfolding_all rfl) (by rfl) (by rfl) (by rfl) (by rfl) (by rfl) (fun w'=>by simp only [Act.put,List.setIfInBounds_toArray,List.set_cons_zero,List.set_cons_succ];try rfl)
  clear X1 hHeld
  intro w4 X1 hHeld
  refine wpAnyH_done (by kernel_rfl) ?_ _
  clear hHeld
  go_wp2
  exact ⟨_,res_cells3 Tryz.results53 _ _ _ _ _ _ _ _ rfl rfl rfl X1.out.a X1.out.b X1.out.c Tryz.underlying25 rfl (by rw [List.length_map,HL.out];kernel_rfl) Tryz.underlying35 rfl (by kernel_rfl) (by have c5:=X1.out.c.cell (c:=0) rfl;go_simp),rfl,X1.out.st,X1.out.ch⟩
theorem dexec_yes (op fm r1 r2 x2 b1 d1 b2 d2 l1 l2 i2 : Int) (p : Ps) (hl : rs.length = 16) (ro : ∀ x ∈ rs, 0 ≤ x ∧ x ≤ 4294967295) (h : St 63 w F bs ks) (h1 : dkn op = true) (h2 : chk op fm [op, fm, r1, r2, x2, b1, d1, b2, d2, l1, l2, i2] = 0) (h3 : pok p.m p.key p.cd p.il p.cc p.pg p.ad = true) (hgb : F.gb ≠ 2 ∧ 2 < w.heap.size) (ht : Lib.TabIs Tryz.prog w "internal/strconv.uint64pow10" .u64 Lib.pow10Tab) : Calls Tryz.prog 53 #[.agg #[.int .i64 op, .int .i64 fm, .int .i64 r1, .int .i64 r2, .int .i64 x2, .int .i64 b1, .int .i64 d1, .int .i64 b2, .int .i64 d2, .int .i64 l1, .int .i64 l2, .int .i64 i2], agR rs, .agg p.v.toArray, .pointer (some ⟨F.g, 0, none⟩)] w fun e w' => ∃ v, e = .returned v ∧ Wx w F p bs ks v w' := by
 have hmf:∀ (fn:Fn) (first cap:Array Value) (w:World),(Instr.makeFunc fn first cap).run Tryz.prog w=.ok (.func fn first cap) w:=fun _ _ _ _=>rfl
 have CK:=lh (fun W=>icheck_c op fm r1 r2 x2 b1 d1 b2 d2 l1 l2 i2 W)
 rw [h2] at CK
 have KC:=lh (fun W=>(dknows_w op W).mono (R':=fun e w'=>e=.returned (.bool (dkn op))∧Below W.heap.size W w') fun e w' h=>⟨h.1,h.2▸Below.refl _ _⟩)
 rw [h1] at KC
 have X0:=lh (XG.start h)
 have HPC:=lh (fun (W:World) (g:Nat) (hD:DR W W g F [op,fm,r1,r2,x2,b1,d1,b2,d2,l1,l2,i2] rs p bs ks) (hC:Ch w W [F.gb]) (hg:w.heap.size<g)=>dex_w (k:=p.key) (P:=p.P) (W:=p.W) (z:=bs) ⟨hD,ro,rfl,rfl,rfl,MB.refl _ _ _,Ch.refl _ _,⟨hD.m.lt,hD.st.ltb,Nat.lt_of_lt_of_le hgb.2 hC.size,by omega,hgb.1⟩,tab_ch2 ht hC ⟨by simp;omega,hgb.2⟩⟩ h1 h2)
 have gs0:F.g<w.heap.size∧F.gb<w.heap.size∧F.gk<w.heap.size:=⟨h.ltg,h.ltb,h.ltk⟩
 have PN:=lh (fun W (hW:St 63 W F bs ks) (hle:w.heap.size≤W.heap.size)=>show DR (W.alloc (.cells (drC F [op,fm,r1,r2,x2,b1,d1,b2,d2,l1,l2,i2] rs p).toArray 132)) (W.alloc (.cells (drC F [op,fm,r1,r2,x2,b1,d1,b2,d2,l1,l2,i2] rs p).toArray 132)) W.heap.size F [op,fm,r1,r2,x2,b1,d1,b2,d2,l1,l2,i2] rs p bs ks from ⟨Bk.new _ _ _,hW.belowS ((Below.refl _ _).alloc (Nat.le_refl _) _),Ch.refl _ _,rfl,hl,by omega,by omega,by omega⟩)
 have RO:=lh ro
 obtain ⟨a0,a1,a2,a3,a4,a5,a6,a7,a8,a9,a10,a11,a12,a13,a14,a15,rfl⟩:=list_16 hl
 unfold agR
 clear h1 h2 hl h ro hgb ht
 go_enter_defers Tryz.func53,Tryz.ntmps53
 go_upto_region 1 with fail
 have X1:=lh (X0.out [.int .i64 op,.int .i64 fm,.int .i64 r1,.int .i64 r2,.int .i64 x2,.int .i64 b1,.int .i64 d1,.int .i64 b2,.int .i64 d2,.int .i64 l1,.int .i64 l2,.int .i64 i2] ([a0,a1,a2,a3,a4,a5,a6,a7,a8,a9,a10,a11,a12,a13,a14,a15].map (Value.int .u32)) p.v [.int .u32 0,.int .u32 0,.int .u32 0,.int .u32 0,.int .u32 0,.int .u32 0,.int .u32 0,.int .u32 0,.int .u32 0,.int .u32 0,.int .u32 0,.int .u32 0,.int .u32 0,.int .u32 0,.int .u32 0,.int .u32 0] [.int .i64 0,.int .i64 0,.bool false,.bool false,.bool false,.int .i64 0,.int .i64 0,.int .i64 0,.int .i64 0,.int .i64 0] 0)
 refine X1.out.opn ?_
 intro _ B1 B2
 refine B1.opn12 ?_
 refine B2.opn10 ?_
 clear B1 B2
 intros
 go_upto_region 3 with (first
   | (go_at_call 52;refine nx (X1.out.call (KC.out _)) ?_;intro w1 X1;refine X1.out.opn ?_;intro _ B1 B2;refine B1.opn12 ?_;refine B2.opn10 ?_;clear B1 B2;intros)
   | (go_at_call 41;refine nx (X1.out.call (CK.out _)) ?_;intro w1 X1;refine X1.out.opn ?_;intro _ B1 B2;refine B1.opn12 ?_;refine B2.opn10 ?_;clear B1 B2;intros)
   | (go_at_call 22;refine nx (X1.out.call (h3▸valid_c _ _ _ _ _ _ _ _ _ _ _)) ?_;intro w1 X1;refine X1.out.opn ?_;intro _ B1 B2;refine B1.opn12 ?_;refine B2.opn10 ?_;clear B1 B2;intros))
 clear X0
 have CLT:=lh X1.out.c.lt
 have B0:=lh X1.out.z
 have BR:=lh X1.out.r
 have BP:=lh X1.out.p
 go_upto_region 4 with fail
 refine wp_region_lit ?_
 refine lsl B0.out ?_
 refine lsl BR.out ?_
 refine lsl (cs:=[.int .i64 p.m,.int .i64 p.key,.bool p.M,.bool p.W,.bool p.P,.int .i64 p.cd,.int .i64 p.il,.int .i64 p.cc,.int .i64 p.pg,.int .i64 p.ad]) BP.out ?_
 refine lsv ?_ (w':=w1)
 refine lsv (v:=.agg (drC F [op,fm,r1,r2,x2,b1,d1,b2,d2,l1,l2,i2] [a0,a1,a2,a3,a4,a5,a6,a7,a8,a9,a10,a11,a12,a13,a14,a15] p).toArray) (w':=w1) ?_ (hr:=by go_simp;kernel_rfl)
 have hsz:(drC F [op,fm,r1,r2,x2,b1,d1,b2,d2,l1,l2,i2] [a0,a1,a2,a3,a4,a5,a6,a7,a8,a9,a10,a11,a12,a13,a14,a15] p).toArray.size=39:=rfl
 refine lsv (v:=.pointer (some ⟨w1.heap.size,0,none⟩)) (w':=w1.alloc (.cells (drC F [op,fm,r1,r2,x2,b1,d1,b2,d2,l1,l2,i2] [a0,a1,a2,a3,a4,a5,a6,a7,a8,a9,a10,a11,a12,a13,a14,a15] p).toArray 132)) ?_
 refine lsv ?_
 refine wpList_nil ?_
 have R1:=lh (PN.out _ X1.out.st X1.out.ch.size)
 replace X1:=lh (X1.out.keep ((Below.refl _ _).alloc (Nat.le_refl _) (.cells (drC F [op,fm,r1,r2,x2,b1,d1,b2,d2,l1,l2,i2] [a0,a1,a2,a3,a4,a5,a6,a7,a8,a9,a10,a11,a12,a13,a14,a15] p).toArray 132)))
 have hgm:w.heap.size+1+1+1+1+1<w1.heap.size:=by have:=B0.out.lt;have:=CLT.out;omega
 obtain ⟨gm,hg⟩:∃gm,w1.heap.size=gm:=⟨_,rfl⟩
 obtain ⟨W1,hW⟩:∃W1,w1.alloc (.cells (drC F [op,fm,r1,r2,x2,b1,d1,b2,d2,l1,l2,i2] [a0,a1,a2,a3,a4,a5,a6,a7,a8,a9,a10,a11,a12,a13,a14,a15] p).toArray 132)=W1:=⟨_,rfl⟩
 rw [hW,hg] at R1
 rw [hW] at X1 ⊢
 rw [hg] at hgm
 simp only [hg]
 clear hsz hW hg B0 BR BP PN CLT
 go_upto_region 5 with fail
 refine wp_region_lit ?_
 refine lsv ?_ (w':=W1)
 refine lsd (HPC.out _ _ R1.out X1.out.ch (by omega)) (fun c w2 hB=>?_) ?_
 ·obtain ⟨⟨rs',p',bs',hD⟩,hC⟩:=hB
  have HM:=lh hD.mb
  replace X1:=lh (X1.out.ex hC hD.dr.st hgm)
  clear hD hC R1 HPC
  refine leaves_cons (f:=68) (args:=#[.pointer (some ⟨w.heap.size+1,0,none⟩),.pointer (some ⟨w.heap.size+1+1,0,none⟩),.pointer (some ⟨w.heap.size+1+1+1,0,none⟩),.pointer (some ⟨w.heap.size+1+1+1+1,0,none⟩),.pointer (some ⟨w.heap.size+1+1+1+1+1,0,none⟩)]) (by simp) (by simp [go_sem]) ?_
  refine (dcatch_w (os:=[a0,a1,a2,a3,a4,a5,a6,a7,a8,a9,a10,a11,a12,a13,a14,a15]) c [] X1.out rfl rfl rfl).mono ?_
  rintro e u' w'' ⟨rfl,rfl,hX⟩
  replace X1:=lh hX
  exact ⟨_,res_cells3 Tryz.results53 _ _ _ _ _ _ _ _ rfl rfl rfl X1.out.a X1.out.b X1.out.c Tryz.underlying25 rfl (by kernel_rfl) Tryz.underlying35 rfl (by kernel_rfl) (by have c5:=X1.out.c.cell (c:=0) rfl;go_simp),_,rfl,[a0,a1,a2,a3,a4,a5,a6,a7,a8,a9,a10,a11,a12,a13,a14,a15],p,c,bs',rfl,rfl,RO.out,⟨rfl,rfl,rfl⟩,HM.out,X1.out.st,X1.out.ch⟩
 intro v w2 Z
 obtain ⟨⟨kk,rfl⟩,⟨rs',p',bs',hD⟩,hC⟩:=Z.out
 have KL:=lh hD.dr.rl
 have HD:=lh (⟨hD.ro,⟨hD.pk,hD.pP,hD.pW⟩,hD.mb⟩:(∀x∈rs',0≤x∧x≤4294967295)∧(p'.key=p.key∧p'.P=p.P∧p'.W=p.W)∧MB p.key ks bs bs')
 have Y1:Hid (YD w w2 F bs' ks [.int .i64 op,.int .i64 fm,.int .i64 r1,.int .i64 r2,.int .i64 x2,.int .i64 b1,.int .i64 d1,.int .i64 b2,.int .i64 d2,.int .i64 l1,.int .i64 l2,.int .i64 i2] ([a0,a1,a2,a3,a4,a5,a6,a7,a8,a9,a10,a11,a12,a13,a14,a15].map (Value.int .u32)) p.v [.int .u32 0,.int .u32 0,.int .u32 0,.int .u32 0,.int .u32 0,.int .u32 0,.int .u32 0,.int .u32 0,.int .u32 0,.int .u32 0,.int .u32 0,.int .u32 0,.int .u32 0,.int .u32 0,.int .u32 0,.int .u32 0] [.int .i64 0,.int .i64 0,.bool false,.bool false,.bool false,.int .i64 0,.int .i64 0,.int .i64 0,.int .i64 0,.int .i64 0] 0 gm [op,fm,r1,r2,x2,b1,d1,b2,d2,l1,l2,i2] rs' p'):=lh ⟨X1.out.ex hC hD.dr.st hgm,hD.dr,hgm⟩
 clear Z R1 X1 HPC hD hC
 refine lsk (w':=w2.setCell ⟨w.heap.size+1+1+1+1+1,0,none⟩ (.int .i64 kk)) (by have c5:=Y1.out.x.c.cell (c:=0) rfl;have f5:=Y1.out.x.c.free 0;go_simp) ?_
 refine wpList_nil ?_
 replace Y1:=lh (Y1.out.setc kk)
 obtain ⟨w3,hW⟩:∃V,w2.setCell ⟨w.heap.size+1+1+1+1+1,0,none⟩ (.int .i64 kk)=V:=⟨_,rfl⟩
 rw [hW] at Y1
 rw [hW]
 clear hW
 go_upto_region 6 with fail
 refine wp_region_held_drew (S:=fun W=>∃a b,YD w W F bs' ks [.int .i64 op,.int .i64 fm,.int .i64 r1,.int .i64 r2,.int .i64 x2,.int .i64 b1,.int .i64 d1,.int .i64 b2,.int .i64 d2,.int .i64 l1,.int .i64 l2,.int .i64 i2] ([a0,a1,a2,a3,a4,a5,a6,a7,a8,a9,a10,a11,a12,a13,a14,a15].map (Value.int .u32)) p.v a b kk gm [op,fm,r1,r2,x2,b1,d1,b2,d2,l1,l2,i2] rs' p') (by kernel_rfl) ⟨_,_,Y1.out.drew⟩ (fun hHeld=>?_)
 replace Y1:=lh Y1.out.drew
 repeat refine tkn ?_ (hQ:=by exact fun _ _ _ h=>exqd h)
 refine tkl 3 (fun w h=>by obtain ⟨_,_,h⟩:=h;exact h.d.rowR) ?_ (hn:=by rw [List.length_map,KL.out];kernel_rfl) (hQ:=by exact fun _ _ _ h=>exqd h)
 repeat refine tkn ?_ (hQ:=by exact fun _ _ _ h=>exqd h)
 refine tkl (cs:=p'.v) 7 (fun w h=>by obtain ⟨_,_,h⟩:=h;exact h.d.rowP) ?_ (hQ:=by exact fun _ _ _ h=>exqd h)
 refine tkn (v:=.int .i64 kk) ?_ (y:=by intro w hSw;obtain ⟨_,_,h⟩:=hSw;have c5:=h.x.c.cell (c:=0) rfl;go_simp) (hQ:=by exact fun _ _ _ h=>exqd h)
 refine tks_ (cs':=rs'.map (Value.int .u32)) Y1.out.x.a (by rw [List.length_map,KL.out];rfl) (one_u32 _) (by rw [List.length_map,KL.out];kernel_rfl) (Y1.out.seta _) (fun _ h=>⟨_,_,h⟩) ?_
 clear Y1 hHeld
 intro w5 Y1 hHeld
 refine tks_ (cs':=p'.v) Y1.out.x.b (by rfl) (one_ps _) (by kernel_rfl) (Y1.out.setb _) (fun _ h=>⟨_,_,h⟩) ?_
 clear Y1 hHeld
 intro w6 Y1 hHeld
 refine tk_st (st_int (Y1.out.x.c.cell (c:=0) rfl) (Y1.out.x.c.free 0)) (Y1.out.setc kk) (fun _ h=>⟨_,_,h⟩) ?_ (by with_unfolding_all rfl) (by rfl) (by rfl) (by rfl) (by rfl) (by rfl) (fun w'=>by simp only [Act.put,List.setIfInBounds_toArray,List.set_cons_zero,List.set_cons_succ];try rfl)
 clear Y1 hHeld
 intro w7 Y1 hHeld
 refine wpAnyH_done (by kernel_rfl) ?_ _
 clear hHeld
 go_wp2
 refine leaves_cons (f:=68) (args:=#[.pointer (some ⟨w.heap.size+1,0,none⟩),.pointer (some ⟨w.heap.size+1+1,0,none⟩),.pointer (some ⟨w.heap.size+1+1+1,0,none⟩),.pointer (some ⟨w.heap.size+1+1+1+1,0,none⟩),.pointer (some ⟨w.heap.size+1+1+1+1+1,0,none⟩)]) (by simp) (by simp [go_sem]) ?_
 refine (dcatch_idle _ _ _ _ _ _).mono ?_
 rintro e u' w'' ⟨rfl,rfl,hw6⟩
 subst hw6
 have X1:=lh Y1.out.x
 exact ⟨_,res_cells3 Tryz.results53 _ _ _ _ _ _ _ _ rfl rfl rfl X1.out.a X1.out.b X1.out.c Tryz.underlying25 rfl (by rw [List.length_map,KL.out];kernel_rfl) Tryz.underlying35 rfl (by kernel_rfl) (by have c5:=X1.out.c.cell (c:=0) rfl;go_simp),_,rfl,rs',p',kk,bs',rfl,KL.out,HD.out.1,HD.out.2.1,HD.out.2.2,X1.out.st,X1.out.ch⟩
theorem dexec_w (op fm r1 r2 x2 b1 d1 b2 d2 l1 l2 i2 : Int) (p : Ps) (hl : rs.length = 16) (ro : ∀ x ∈ rs, 0 ≤ x ∧ x ≤ 4294967295) (h : St 63 w F bs ks) (hgb : F.gb ≠ 2 ∧ 2 < w.heap.size) (ht : Lib.TabIs Tryz.prog w "internal/strconv.uint64pow10" .u64 Lib.pow10Tab) : Calls Tryz.prog 53 #[.agg #[.int .i64 op, .int .i64 fm, .int .i64 r1, .int .i64 r2, .int .i64 x2, .int .i64 b1, .int .i64 d1, .int .i64 b2, .int .i64 d2, .int .i64 l1, .int .i64 l2, .int .i64 i2], agR rs, .agg p.v.toArray, .pointer (some ⟨F.g, 0, none⟩)] w fun e w' => ∃ v, e = .returned v ∧ Wx w F p bs ks v w' := by
 by_cases hv:dkn op=true∧chk op fm [op,fm,r1,r2,x2,b1,d1,b2,d2,l1,l2,i2]=0∧pok p.m p.key p.cd p.il p.cc p.pg p.ad=true
 ·exact dexec_yes op fm r1 r2 x2 b1 d1 b2 d2 l1 l2 i2 p hl ro h hv.1 hv.2.1 hv.2.2 hgb ht
 ·exact (dexec_no op fm r1 r2 x2 b1 d1 b2 d2 l1 l2 i2 p hl h hv).mono fun e w' hh=>⟨_,hh.1,rs,p,1,bs,rfl,hl,ro,⟨rfl,rfl,rfl⟩,MB.refl _ _ _,hh.2.1,hh.2.2⟩
end
theorem xC_ref (op fm r1 r2 x2 b1 d1 b2 d2 l1 l2 i2:Int) (os:List Int) (m key cd il cc pg ad:Int) (bs ks:List Int) (h0:(xC op fm r1 r2 x2 b1 d1 b2 d2 l1 l2 i2 os m key cd il cc pg ad bs ks).c≠0) (h8:(xC op fm r1 r2 x2 b1 d1 b2 d2 l1 l2 i2 os m key cd il cc pg ad bs ks).c≠8):(xC op fm r1 r2 x2 b1 d1 b2 d2 l1 l2 i2 os m key cd il cc pg ad bs ks).rs=os∧(xC op fm r1 r2 x2 b1 d1 b2 d2 l1 l2 i2 os m key cd il cc pg ad bs ks).cc=cc∧(xC op fm r1 r2 x2 b1 d1 b2 d2 l1 l2 i2 os m key cd il cc pg ad bs ks).pg=pg∧(xC op fm r1 r2 x2 b1 d1 b2 d2 l1 l2 i2 os m key cd il cc pg ad bs ks).ad=ad∧(xC op fm r1 r2 x2 b1 d1 b2 d2 l1 l2 i2 os m key cd il cc pg ad bs ks).bs=bs:=by
 unfold xC at h0 h8 ⊢
 split at h0
 ·rename_i hc
  rw [if_pos hc] at h8 ⊢
  split at h0
  ·rename_i h1
   rw [if_pos h1] at h8 ⊢
   dsimp only at h0 h8
   split at h0
   ·rename_i h2;rw [if_pos h2] at h8;exact absurd rfl h8
   ·exact absurd rfl h0
  ·rename_i h1
   rw [if_neg h1]
   exact ⟨rfl,rfl,rfl,rfl,rfl⟩
 ·rename_i hc
  rw [if_neg hc]
  exact ⟨rfl,rfl,rfl,rfl,rfl⟩
theorem xC_mild (op fm r1 r2 x2 b1 d1 b2 d2 l1 l2 i2:Int) (os:List Int) (m key cd il cc pg ad:Int) (bs ks:List Int) (hr:∀z∈bs,0≤z∧z≤255) (h:(xC op fm r1 r2 x2 b1 d1 b2 d2 l1 l2 i2 os m key cd il cc pg ad bs ks).c=0∨(xC op fm r1 r2 x2 b1 d1 b2 d2 l1 l2 i2 os m key cd il cc pg ad bs ks).c=8):Mild ⟨os,key,il,cc,pg,ad,bs,ks⟩ op (brcB op) (xC op fm r1 r2 x2 b1 d1 b2 d2 l1 l2 i2 os m key cd il cc pg ad bs ks):=by
 by_cases hc:kn op=true∧chk op fm [op,fm,r1,r2,x2,b1,d1,b2,d2,l1,l2,i2]=0∧pok m key cd il cc pg ad=true
 ·obtain ⟨-,-,-,-,q1,q2,q3⟩:=(pok_iff _ _ _ _ _ _ _).1 hc.2.2
  have hok:Okay ⟨os,key,il,cc,pg,ad,bs,ks⟩:=⟨q1,q2,q3⟩
  have hm:=mild_exO ⟨os,key,il,cc,pg,ad,bs,ks⟩ op fm r1.toNat r2.toNat ((d1+sumB os [b1.toNat]) % 16777216) ((d2+sumB os [b2.toNat,x2.toNat]) % 16777216) l1.toNat i2 hok hr (by omega) hc.1
  unfold xC
  rw [if_pos hc]
  split
  ·exact ⟨hm.pg,hm.ad,hm.c,hm.g,hm.a,hm.b⟩
  ·exact ⟨fun _=>rfl,fun _=>rfl,q1,q2,q3,fun _ hj=>absurd rfl hj⟩
 ·unfold xC at h
  rw [if_neg hc] at h
  simp at h
theorem xC_len (op fm r1 r2 x2 b1 d1 b2 d2 l1 l2 i2:Int) (os:List Int) (m key cd il cc pg ad:Int) (bs ks:List Int):(xC op fm r1 r2 x2 b1 d1 b2 d2 l1 l2 i2 os m key cd il cc pg ad bs ks).rs.length=os.length:=by
 unfold xC
 split
 ·split
  ·exact exO_len ..
  ·rfl
 ·rfl
def R32 (l:List Int):Prop:=∀z∈l,0≤z∧z≤4294967295
theorem R32.put {l:List Int} (h:R32 l) {n:Nat} {v:Int} (hv:0≤v∧v≤4294967295):R32 (l.set n v):=fun z hz=>by
 rcases List.mem_or_eq_of_mem_set hz with h1 | rfl
 ·exact h z h1
 ·exact hv
theorem lo32_in (n:Int):0≤lo32 n∧lo32 n≤4294967295:=⟨lo32_lo n,lo32_hi n⟩
theorem R32.wr {p:Pre} (h:R32 p.os) (a n:Int) (ys:List Int) (cc:Int):R32 (p.wr a n ys cc).rs:=by rw [wr_len];exact h
theorem R32.lm {rs:List Int} (h:R32 rs) (n:Nat) {zs:List Int} (hz:∀k,0≤zs.getD k 0∧zs.getD k 0≤255):∀k,R32 (lmR rs n zs k)
 | 0=>h
 | k+1=>(R32.lm h n hz k).put (by have h0:=hz (4*k);have h1:=hz (4*k+1);have h2:=hz (4*k+2);have h3:=hz (4*k+3);unfold flv;omega)
theorem scn_ro {bs ks:List Int} (rb:∀z∈bs,0≤z∧z≤255) {key a b:Int} {f:Int} {j:Nat}:∀ {m k:Nat},scn bs ks key a b m k=(0,some (j,f))→(0≤a+(j:Int)∧a+(j:Int)≤(bs.length:Int))∧0≤f∧f≤255
 | 0,k,h=>by simp [scn] at h
 | m+1,k,h=>by
  unfold scn at h
  split at h
  ·rename_i h1
   split at h
   ·split at h
    ·exact scn_ro rb h
    ·injection h with _ h
     injection h with h
     injection h with h2 h3
     subst h2 h3
     exact ⟨by have:=sIn_yes (sCode_zero h1);omega,sGet_in _ _ rb 0⟩
   ·injection h with h2 _
    exact absurd h2 (by assumption)
  ·injection h with h2 _
   exact absurd h2 (by assumption)
theorem ite_ro {P:Prop} [Decidable P] {a b:Out} (ha:R32 a.rs) (hb:R32 b.rs):R32 (if P then a else b).rs:=by split<;>assumption
theorem sgnV_in (op:Int) {v:Int} (h:0≤v∧v≤4294967295):0≤sgnV op v∧sgnV op v≤4294967295:=by unfold sgnV;split;(· exact lo32_in _);(· exact h)
theorem drem_in (n d:Int):0≤drem n d∧drem n d≤4294967295:=by unfold drem;split;(· exact lo32_in _);(· omega)
theorem dquo_in (n d:Int):0≤dquo n d∧dquo n d≤4294967295:=by unfold dquo;split;(· exact lo32_in _);(· omega)
theorem exO_ro {p:Pre} (ro:R32 p.os) (rb:∀z∈p.bs,0≤z∧z≤255) (hl:p.bs.length≤65536) (q0:0≤p.il∧p.il≤3) (q1:0≤p.cc∧p.cc≤3) (q2:0≤p.pg∧p.pg≤15) (q3:0≤p.ad∧p.ad≤16777215) (op fm:Int) (n k:Nat) {a1 a:Int} (l1:Nat) (i2:Int) (ha:0≤a∧a≤16777215) (ha1:0≤a1∧a1≤16777215):R32 (exO p op fm n k a1 a l1 i2).rs:=by
 have u:=fun j=>getD_in ro j
 have lk:R32 (p.os.set n (p.il*1073741824+p.cc*268435456+p.pg*16777216+p.ad)):=ro.put (by omega)
 have v:=opV_in (op:=op) (fm:=fm) (a:=a) (k:=k) ro rb
 unfold exO
 split
 ·unfold brO Pre.br
  (repeat' split)<;>first | exact lk | exact ro | exact ro.put (lo32_in _)
 split
 ·unfold shO Pre.rg Pre.st Pre.no
  (repeat' split)<;>first
   | exact ro
   | exact (ro.put (lo32_in _)).put (lo32_in _)
   | exact ro.put ⟨slg_lo _ _ _ (u n).1,slg_hi _ _ _ (u n).1 (u n).2⟩
   | exact ro.put ⟨srv_lo _ _,srv_hi _ _⟩
   | exact ro.put ⟨slv_lo _ _,slv_hi _ _⟩
 split
 ·exact ro.put (by omega)
 split
 ·unfold mvO
  (repeat' split)<;>first
   | exact ro
   | exact R32.wr ro _ _ _ _
   | exact R32.lm ro _ (fun j=>sGet_in _ _ rb j) _
   | exact ro.put (by have h1:=u n;have h2:=sGet_in (bs:=p.bs) a 1 rb 0;omega)
 split
 ·unfold imO
  (repeat' split)<;>first | exact ro | exact R32.wr ro _ _ _ _
 split
 ·unfold loO
  split
  ·obtain ⟨r,hr⟩:∃r,scn p.bs p.ks p.key a1 a (l1+1) 0=r:=⟨_,rfl⟩
   rw [hr]
   obtain ⟨c,o⟩:=r
   show R32 (if c=0 then (⟨0,scnR p.os p.os a1 o,scnQ (l1+1) o,p.pg,p.ad,false,p.bs⟩:Out) else p.no c).rs
   split
   ·rename_i h0
    subst h0
    cases o with
    | none=>exact ro
    | some y=>
     obtain ⟨j,f⟩:=y
     have h1:=scn_ro rb hr
     have h2:=u 1
     have h3:=u 2
     exact (ro.put (by omega)).put (by omega)
   ·exact ro
  ·(repeat' split)<;>first | exact ro | exact R32.wr ro _ _ _ _
 ·unfold arO
  (repeat' refine ite_ro ?_ ?_)<;>first
   | exact ro
   | exact (ro.put (lo32_in _)).put (lo32_in _)
   | exact ro.put v
   | exact ro.put (lo32_in _)
   | exact ro.put (sgnV_in _ v)
   | exact (ro.put (drem_in _ _)).put (dquo_in _ _)
theorem xC_ro {os:List Int} (ro:R32 os) (op fm r1 r2 x2 b1 d1 b2 d2 l1 l2 i2:Int) (p:Ps) {bs ks:List Int} (rb:∀z∈bs,0≤z∧z≤255) (hl:bs.length≤65536):R32 (xC op fm r1 r2 x2 b1 d1 b2 d2 l1 l2 i2 os p.m p.key p.cd p.il p.cc p.pg p.ad bs ks).rs:=by
 unfold xC
 split
 ·rename_i h
  obtain ⟨-,-,-,q0,q1,q2,q3⟩:=(pok_iff _ _ _ _ _ _ _).1 h.2.2
  split
  ·exact exO_ro ro rb hl q0 q1 q2 q3 _ _ _ _ _ _ (by omega) (by omega)
  ·exact ro
 ·exact ro
section
variable {w0 w w':World} {g:Nat} {F:Foot} {I:In} {os rs:List Int} {p q:Ps} {ov:Bool} {bs ks:List Int}
structure P2 (w0 w:World) (g:Nat) (F:Foot) (I:In) (os rs:List Int) (p q:Ps) (ov:Bool) (bs ks:List Int) (bx cx:Nat) (xs:List Int) (b2 c2:Nat) (ys:List Int):Prop where
 rs:PS w0 w g F I os rs p q ov bs ks
 x:Ro w bx cx xs
 y:Ro w b2 c2 ys
 ng:bx≠g∧bx≠F.g∧bx≠F.gb∧bx≠F.gk
 ny:b2≠g∧b2≠F.g∧b2≠F.gb∧b2≠F.gk
 nw:w0.heap.size≤bx∧w0.heap.size≤b2
 ne:b2≠bx
section
variable {bx cx b2 c2:Nat} {xs ys:List Int}
theorem P2.to {rs':List Int} {q':Ps} {ov':Bool} {bs':List Int} (h:P2 w0 w g F I os rs p q ov bs ks bx cx xs b2 c2 ys) (h':PS w w' g F I os rs' p q' ov' bs' ks):P2 w0 w' g F I os rs' p q' ov' bs' ks bx cx xs b2 c2 ys:=
 ⟨h.rs.re h',h.x.keep (h'.b.kept h.x.lt (by simp;exact ⟨h.ng.1,h.ng.2.2.1⟩)),h.y.keep (h'.b.kept h.y.lt (by simp;exact ⟨h.ny.1,h.ny.2.2.1⟩)),h.ng,h.ny,h.nw,h.ne⟩
theorem P2.setx (h:P2 w0 w g F I os rs p q ov bs ks bx cx xs b2 c2 ys) (j:Nat) {y:Int} (hy:0≤y∧y≤255):P2 w0 (w.setCell ⟨bx,j,none⟩ (.int .u8 y)) g F I os rs p q ov bs ks bx cx (xs.set j y) b2 c2 ys:=
 ⟨h.rs.oth _ h.ng h.nw.1,h.x.set_ hy,h.y.other _ (Ne.symm h.ne),h.ng,h.ny,h.nw,h.ne⟩
theorem P2.sety (h:P2 w0 w g F I os rs p q ov bs ks bx cx xs b2 c2 ys) (j:Nat) {y:Int} (hy:0≤y∧y≤255):P2 w0 (w.setCell ⟨b2,j,none⟩ (.int .u8 y)) g F I os rs p q ov bs ks bx cx xs b2 c2 (ys.set j y):=
 ⟨h.rs.oth _ h.ny h.nw.2,h.x.other _ h.ne,h.y.set_ hy,h.ng,h.ny,h.nw,h.ne⟩
end
theorem pcmb_c (fn:Nat) (f:Int→Int→Int) (lg:Bool) (hfn:∀ (x y:Int) (w:World),0≤x→x≤255→0≤y→y≤255→Calls Tryz.prog fn #[.int .u8 x,.int .u8 y] w fun e w'=>e=.returned (.int .u8 (f x y))∧w=w') (hfc:∀ (args:Array Value) (W:World),Sem.run Tryz.prog (callFunc fn args) W=.ok (.enter fn args) W) (hfi:∀x y:Int,0≤x→x≤255→0≤y→y≤255→0≤f x y∧f x y≤255) (h:PS w0 w g F I os os p p false bs ks):Calls Tryz.prog 122 #[.pointer (some ⟨g,0,none⟩),.func (.func fn) #[] #[],.bool lg] w (Gp w0 g F I os p bs ks (if Pre.fc ⟨os,p.key,p.il,p.cc,p.pg,p.ad,bs,ks⟩ (I.a1 os) ((I.l+1:Nat):Int)≠0 then Pre.no ⟨os,p.key,p.il,p.cc,p.pg,p.ad,bs,ks⟩ (Pre.fc ⟨os,p.key,p.il,p.cc,p.pg,p.ad,bs,ks⟩ (I.a1 os) ((I.l+1:Nat):Int)) else if Pre.fc ⟨os,p.key,p.il,p.cc,p.pg,p.ad,bs,ks⟩ (I.a os) ((I.l+1:Nat):Int)≠0 then Pre.no ⟨os,p.key,p.il,p.cc,p.pg,p.ad,bs,ks⟩ (Pre.fc ⟨os,p.key,p.il,p.cc,p.pg,p.ad,bs,ks⟩ (I.a os) ((I.l+1:Nat):Int)) else Pre.wr ⟨os,p.key,p.il,p.cc,p.pg,p.ad,bs,ks⟩ (I.a1 os) ((I.l+1:Nat):Int) (cmb f (sGet bs (I.a1 os) ((I.l+1:Nat):Int)) (sGet bs (I.a os) ((I.l+1:Nat):Int)) (I.a1 os - I.a os) (I.l+1)) (if lg=true then cmbS f (sGet bs (I.a1 os) ((I.l+1:Nat):Int)) (sGet bs (I.a os) ((I.l+1:Nat):Int)) (I.a1 os - I.a os) (I.l+1) else p.cc))):=by
 have A0:=I.a1_in os
 have B0:=I.a_in os
 have FC:=lh (fun W (hW:PS w0 W g F I os os p p false bs ks)=>pfst_c hW)
 have SC:=lh (fun W (hW:PS w0 W g F I os os p p false bs ks)=>psec_c hW)
 obtain ⟨A,hA⟩:∃A,I.a1 os=A:=⟨_,rfl⟩
 obtain ⟨B,hB⟩:∃B,I.a os=B:=⟨_,rfl⟩
 rw [hA] at FC A0 ⊢
 rw [hB] at SC B0 ⊢
 clear hA hB
 obtain ⟨N,hN⟩:∃N,I.l+1=N:=⟨_,rfl⟩
 have nl:=h.ix.l
 have N0:0<N:=by omega
 have N1:N≤256:=by omega
 have c1:IntKind.i64.wrap ((I.l:Int)+1)=(N:Int):=by rw [wrap_i64_id (by omega) (by omega)];omega
 rw [hN]
 clear hN nl
 obtain ⟨xs,hxs⟩:∃xs,sGet bs A (N:Int)=xs:=⟨_,rfl⟩
 obtain ⟨ys,hys⟩:∃ys,sGet bs B (N:Int)=ys:=⟨_,rfl⟩
 rw [hxs,hys]
 obtain ⟨o,ho⟩:∃o,(if Pre.fc ⟨os,p.key,p.il,p.cc,p.pg,p.ad,bs,ks⟩ A N≠0 then Pre.no ⟨os,p.key,p.il,p.cc,p.pg,p.ad,bs,ks⟩ (Pre.fc ⟨os,p.key,p.il,p.cc,p.pg,p.ad,bs,ks⟩ A N) else if Pre.fc ⟨os,p.key,p.il,p.cc,p.pg,p.ad,bs,ks⟩ B N≠0 then Pre.no ⟨os,p.key,p.il,p.cc,p.pg,p.ad,bs,ks⟩ (Pre.fc ⟨os,p.key,p.il,p.cc,p.pg,p.ad,bs,ks⟩ B N) else Pre.wr ⟨os,p.key,p.il,p.cc,p.pg,p.ad,bs,ks⟩ A N (cmb f xs ys (A - B) N) (if lg=true then cmbS f xs ys (A - B) N else p.cc))=o:=⟨_,rfl⟩
 rw [ho]
 have HOa:Hid (sCode (alF p.key) bs.length ks A N≠0→o.c=sCode (alF p.key) bs.length ks A N):=lh fun h=>by rw [← ho];exact congrArg Out.c (if_pos h)
 have HOb:Hid (sCode (alF p.key) bs.length ks A N=0→sCode (alF p.key) bs.length ks B N≠0→o.c=sCode (alF p.key) bs.length ks B N):=lh fun h1 h=>by rw [← ho];exact congrArg Out.c ((if_neg (fun h=>h h1)).trans (if_pos h))
 have HOc:Hid (sCode (alF p.key) bs.length ks A N=0→sCode (alF p.key) bs.length ks B N=0→o=Pre.wr ⟨os,p.key,p.il,p.cc,p.pg,p.ad,bs,ks⟩ A N (cmb f xs ys (A - B) N) (if lg=true then cmbS f xs ys (A - B) N else p.cc)):=lh fun h1 h2=>by rw [← ho];exact (if_neg (fun h=>h h1)).trans (if_neg (fun h=>h h2))
 have SX:=lh hxs
 have SY:=lh hys
 have HFN:=lh hfn
 have HFI:=lh hfi
 have R0:=lh h
 have wd:IntKind.i64.wrap (A - B)=A - B:=wrap_i64_id (by omega) (by omega)
 clear hxs hys ho hfn hfi h
 refine R0.out.opn ?_
 intros
 go_enter Tryz.func122,Tryz.ntmps122
 go_upto_region 0 with fail
 refine wp_region_held_drew (S:=Sy w0 g F I os p) (by kernel_rfl) R0.out.drew.x (fun hHeld=>?_)
 have R1:=lh R0.out.drew
 have z1:=R0.out.b.size
 clear R0
 repeat refine tkp ?_
 refine tkc (FC.out _ R1.out) (fun _ h=>h.x) ?_
 clear R1 hHeld
 intro w2 R1 hHeld
 repeat refine tkp ?_
 refine tkc (SC.out _ R1.out) (fun _ h=>h.x) ?_
 clear R1 hHeld
 intro w2 R1 hHeld
 repeat refine tkp ?_
 refine wpAnyH_done (by kernel_rfl) ?_ _
 refine R1.out.opn ?_
 clear hHeld
 intros
 have z2:=R1.out.b.size
 have z3:=R1.out.lt
 have z4:=R1.out.st.ltg
 have z5:=R1.out.st.ltb
 have z6:=R1.out.st.ltk
 go_upto_region 2 with (first
  | (go_at_call 116;have hz1:=Z1.out;refine nxh (pfet_c R1.out.rb _ N N0) (fun b2 c2 w4 Z2 O2 hy1 hy2 R2=>?_) (fun w4 Z2 R2=>?_))
  | (go_at_call 116;refine nxh (pfet_c R1.out _ N N0) (fun bx cx w1 Z1 O1 hx1 hx2 R1=>?_) (fun w1 Z1 R1=>?_)))
 rotate_left
 ·exact ⟨rfl,gp_no (R1.out.re R2.out) (HOb.out Z1.out Z2.out) Z2.out⟩
 ·exact ⟨rfl,gp_no R1.out (HOa.out Z1.out) Z1.out⟩
 rw [SX.out] at O1
 rw [SY.out] at O2
 have W2:Hid (P2 w0 w4 g F I os os p p false bs ks bx cx xs b2 c2 ys):=lh ⟨R1.out.re R2.out,O1.out.ro.keep (R2.out.b.kept hx2 (by simp;omega)),O2.out.ro,by omega,by omega,by omega,by omega⟩
 have xl:=lh O1.out.len
 have yl:=lh O2.out.len
 clear O1 O2 hx1 hx2 hy1 hy2 R1 R2 z1 z2 z3 z4 z5 z6 FC SC
 go_wp2
 go_loopw [11,34] (fun sv x W=>∃ (k:Nat) (zs:List Int),k≤N∧x=.int .i64 (k:Int)∧sv=.int .i64 (cmbS f xs ys (A - B) k)∧zs.length=N∧(∀i,k≤i→zs.getD i 0=ys.getD i 0)∧P2 w0 W g F I os os p p false bs ks bx cx (cmb f xs ys (A - B) k) b2 c2 zs) (fun _ x _=>N - (intOf x).toNat)
 case atStart=>exact ⟨0,ys,by omega,rfl,rfl,yl.out,fun _ _=>rfl,W2.out⟩
 case round=>
  obtain ⟨k,zs,hk,rfl,rfl,hzl,hzy,hW⟩:=hrel
  have W3:=lh hW
  have ZY:=lh hzy
  have ZL:=lh hzl
  by_cases hlt:k<N
  ·have i0:(k:Int)<(N:Int):=by omega
   have cl:(cmb f xs ys (A - B) k).length=N:=by rw [cmb_len,xl.out]
   have x0:=hW.x.rangeD k
   have y0:=hW.y.rangeD k
   have yk:=hzy k (Nat.le_refl _)
   obtain ⟨s,hs⟩:∃s,cmbS f xs ys (A - B) k=s:=⟨_,rfl⟩
   obtain ⟨vs,hvs⟩:∃vs,cmb f xs ys (A - B) k=vs:=⟨_,rfl⟩
   obtain ⟨x,hx⟩:∃x,vs.getD k 0=x:=⟨_,rfl⟩
   obtain ⟨y,hy⟩:∃y,ys.getD k 0=y:=⟨_,rfl⟩
   have step:∀e v,(if 0<A - B∧A - B≤(k:Int) then vs.getD (k - (A - B).toNat) 0 else y)=e→f x e=v→cmb f xs ys (A - B) (k+1)=vs.set k v∧cmbS f xs ys (A - B) (k+1)=if v=0 then s else 1:=by
    intro e v he hv
    have hc:cmb f xs ys (A - B) (k+1)=vs.set k v:=by
     show (cmb f xs ys (A - B) k).set k (f ((cmb f xs ys (A - B) k).getD k 0) (if 0<A - B∧A - B≤(k:Int) then (cmb f xs ys (A - B) k).getD (k - (A - B).toNat) 0 else ys.getD k 0))=_
     rw [hvs,hx,hy,he,hv]
    refine ⟨hc,?_⟩
    show (if (cmb f xs ys (A - B) (k+1)).getD k 0=0 then cmbS f xs ys (A - B) k else 1)=_
    rw [hc,getD_set_same _ _ _ (by rw [← hvs,cl];exact hlt),hs]
   rw [hvs] at W3 cl x0
   rw [hs]
   rw [hx] at x0
   rw [yk,hy] at y0
   have ce:∃e,(if 0<A - B∧A - B≤(k:Int) then vs.getD (k - (A - B).toNat) 0 else y)=e∧(0≤e∧e≤255):=⟨_,rfl,by split;exact W3.out.x.rangeD _;exact y0⟩
   obtain ⟨e,he,e0⟩:=ce
   obtain ⟨v,hv⟩:∃v,f x e=v:=⟨_,rfl⟩
   have v0:=HFI.out x e x0.1 x0.2 e0.1 e0.2
   rw [hv] at v0
   have FN:=lh (fun W=>hv▸HFN.out x e W x0.1 x0.2 e0.1 e0.2:∀W,Calls Tryz.prog fn #[.int .u8 x,.int .u8 e] W fun e' w'=>e'=.returned (.int .u8 v)∧W=w')
   have ST:=lh (step e v he hv)
   have HX:=lh hx
   have cyk:wr.cell? ⟨b2,k,none⟩=some (.int .u8 y):=by rw [hW.y.cell (i:=k) (by rw [hzl];exact hlt),yk,hy]
   have cj:(∃j:Nat,(j:Int)<(N:Int)∧IntKind.i64.wrap ((k:Int) - (A - B))=(j:Int)∧wr.cell? ⟨bx,j,none⟩=some (.int .u8 e)∧A - B > 0∧(k:Int)≥A - B∧Hid (∃us:List Int,us.length=N∧us.getD k 0=e∧(∀i,k+1≤i→us.getD i 0=ys.getD i 0)∧P2 w0 (wr.setCell ⟨b2,k,none⟩ (.int .u8 e)) g F I os os p p false bs ks bx cx vs b2 c2 us))∨(¬ A - B > 0∧Hid (∃us:List Int,us.length=N∧us.getD k 0=e∧(∀i,k+1≤i→us.getD i 0=ys.getD i 0)∧P2 w0 (wr) g F I os os p p false bs ks bx cx vs b2 c2 us))∨(A - B > 0∧¬(k:Int)≥A - B∧Hid (∃us:List Int,us.length=N∧us.getD k 0=e∧(∀i,k+1≤i→us.getD i 0=ys.getD i 0)∧P2 w0 (wr) g F I os os p p false bs ks bx cx vs b2 c2 us)):=by
    have K0:y=e→Hid (∃us:List Int,us.length=N∧us.getD k 0=e∧(∀i,k+1≤i→us.getD i 0=ys.getD i 0)∧P2 w0 (wr) g F I os os p p false bs ks bx cx vs b2 c2 us):=fun h=>lh ⟨zs,ZL.out,by rw [yk,hy,h],fun i hi=>hzy i (by omega),W3.out⟩
    by_cases h1:0<A - B
    ·by_cases h2:A - B≤(k:Int)
     ·refine .inl ⟨k - (A - B).toNat,by omega,by rw [wrap_i64_id (by omega) (by omega)];omega,?_,h1,h2,lh ⟨zs.set k e,by rw [List.length_set,ZL.out],getD_set_same _ _ _ (by rw [ZL.out];exact hlt),fun i hi=>by rw [getD_set_other _ _ _ _ (by omega)];exact hzy i (by omega),W3.out.sety k e0⟩⟩
      rw [W3.out.x.cell (i:=k - (A - B).toNat) (by rw [cl];omega),← he,if_pos ⟨h1,h2⟩]
     ·exact .inr (.inr ⟨h1,h2,K0 (by rw [← he,if_neg (by omega)])⟩)
    ·exact .inr (.inl ⟨h1,K0 (by rw [← he,if_neg (by omega)])⟩)
   have vz:(v=0∧(v != 0)=false)∨(v≠0∧(v != 0)=true):=by by_cases hv:v=0<;>simp [hv]
   have fy:=hW.y.free
   clear hs hvs step hy hW hv hx he hzy hzl yk
   clear W3
   rcases cj with ⟨j,j0,j1,j2,j3,j4,KW⟩ | ⟨j3,KW⟩ | ⟨j3,j4,KW⟩
   all_goals
    go_upto_region 9 with fail
    obtain ⟨us,ul,uk,uo,hW⟩:=KW.out
    have W3:=lh hW
    have UL:=lh ul
    have UK:=lh uk
    have UO:=lh uo
    clear ul uk uo hW KW
    have yc:∀w' vs,P2 w0 w' g F I os os p p false bs ks bx cx vs b2 c2 us→w'.cell? ⟨b2,k,none⟩=some (.int .u8 e):=fun w' vs h=>by rw [h.y.cell (i:=k) (by rw [UL.out];exact hlt),UK.out]
    have YC:=lh yc
    clear yc
    refine wp_region_held_drew (S:=fun W=>W.cell? ⟨b2,k,none⟩=some (.int .u8 e)) (by kernel_rfl) (YC.out _ _ (W3.out.to W3.out.rs.rb.drew)) (fun hHeld=>?_)
    replace W3:=lh (W3.out.to W3.out.rs.rb.drew)
    have cq:=W3.out.x.cell (i:=k) (by rw [cl];exact hlt)
    rw [HX.out] at cq
    repeat refine tkn ?_
    refine tki 7 ?_
    refine tki 8 ?_
    refine tki 9 ?_
    refine tki 10 ?_
    refine tkv ?_
    refine tkz (FN.out _) ?_
    repeat refine tkn ?_
    refine tk_st (R:=fun w'=>P2 w0 w' g F I os os p p false bs ks bx cx (vs.set k v) b2 c2 us) (st_u8 (W3.out.x.cell (i:=k) (by rw [cl];exact hlt)) (W3.out.x.free _)) (W3.out.setx k v0) (fun w' h=>YC.out _ _ h) ?_ (by with_unfolding_all rfl) (by rfl) (by rfl) (by rfl) (by rfl) (by rfl) (fun w'=>by simp only [Act.put,List.setIfInBounds_toArray,List.set_cons_zero,List.set_cons_succ];try rfl)
    clear W3 hHeld cq
    intro w6 W4 hHeld
    refine wpAnyH_done (by with_unfolding_all rfl) ?_ _
    have cz:=W4.out.x.cell (i:=k) (by rw [List.length_set,cl];exact hlt)
    rw [getD_set_same _ _ _ (by rw [cl];exact hlt)] at cz
    clear hHeld
    rcases vz with ⟨z0,z1⟩ | ⟨z0,z1⟩
   all_goals
    have Z0:=lh z0
    clear z0
    go_wp2
    exact ⟨⟨k+1,us,by omega,rfl,by rw [ST.out.2];first | rw [if_pos Z0.out] | rw [if_neg Z0.out],UL.out,UO.out,by rw [ST.out.1];exact W4.out⟩,by simp [intOf];omega⟩
  ·obtain rfl:k=N:=by omega
   have X5:=lh (hW.x.byt k (by rw [cmb_len,xl.out]))
   clear hW
   cases lg
   all_goals
    go_wp2_with (go_at_call 113;refine nxk (pput_c W3.out.rs A _ k _ _ X5.out (by omega)) (fun w5 Z3 R1=>R1.out.opn ?_) (fun w5 Z3 R1=>?_)<;>intros)
    all_goals first
     | ((first | go_end0 | refine bodyPost_ret (results_none rfl _ _ _) rfl ?_);first | exact gp_ok (R1.out.setcc _) ((HOc.out Z1.out Z2.out).trans (wr_ok (P:=⟨os,p.key,p.il,p.cc,p.pg,p.ad,bs,ks⟩) (a:=A) (n:=(k:Int)) Z3.out)) | exact gp_ok R1.out ((HOc.out Z1.out Z2.out).trans (wr_ok (P:=⟨os,p.key,p.il,p.cc,p.pg,p.ad,bs,ks⟩) (a:=A) (n:=(k:Int)) Z3.out)))
     | (refine ⟨rfl,gp_no R1.out ?_ Z3.out⟩;exact (congrArg Out.c (HOc.out Z1.out Z2.out)).trans (wr_no (P:=⟨os,p.key,p.il,p.cc,p.pg,p.ad,bs,ks⟩) (a:=A) (n:=(k:Int)) Z3.out))
end
section
variable {w0 w w':World} {g:Nat} {F:Foot} {I:In} {os rs:List Int} {p q:Ps} {ov:Bool} {bs ks:List Int}
theorem pclc_c (h:PS w0 w g F I os os p p false bs ks):Calls Tryz.prog 129 #[.pointer (some ⟨g,0,none⟩)] w (Gp w0 g F I os p bs ks (if Pre.fc ⟨os,p.key,p.il,p.cc,p.pg,p.ad,bs,ks⟩ (I.a1 os) ((I.l+1:Nat):Int)≠0 then Pre.no ⟨os,p.key,p.il,p.cc,p.pg,p.ad,bs,ks⟩ (Pre.fc ⟨os,p.key,p.il,p.cc,p.pg,p.ad,bs,ks⟩ (I.a1 os) ((I.l+1:Nat):Int)) else if Pre.fc ⟨os,p.key,p.il,p.cc,p.pg,p.ad,bs,ks⟩ (I.a os) ((I.l+1:Nat):Int)≠0 then Pre.no ⟨os,p.key,p.il,p.cc,p.pg,p.ad,bs,ks⟩ (Pre.fc ⟨os,p.key,p.il,p.cc,p.pg,p.ad,bs,ks⟩ (I.a os) ((I.l+1:Nat):Int)) else Pre.st ⟨os,p.key,p.il,p.cc,p.pg,p.ad,bs,ks⟩ os (clc (sGet bs (I.a1 os) ((I.l+1:Nat):Int)) (sGet bs (I.a os) ((I.l+1:Nat):Int))) false)):=by
 have A0:=I.a1_in os
 have B0:=I.a_in os
 have FC:=lh (fun W (hW:PS w0 W g F I os os p p false bs ks)=>pfst_c hW)
 have SC:=lh (fun w0 W (hW:PS w0 W g F I os os p p false bs ks)=>psec_c hW)
 obtain ⟨A,hA⟩:∃A,I.a1 os=A:=⟨_,rfl⟩
 obtain ⟨B,hB⟩:∃B,I.a os=B:=⟨_,rfl⟩
 rw [hA] at FC A0 ⊢
 rw [hB] at SC B0 ⊢
 clear hA hB
 obtain ⟨N,hN⟩:∃N,I.l+1=N:=⟨_,rfl⟩
 have nl:=h.ix.l
 have N0:0<N:=by omega
 have N1:N≤256:=by omega
 have c1:IntKind.i64.wrap ((I.l:Int)+1)=(N:Int):=by rw [wrap_i64_id (by omega) (by omega)];omega
 rw [hN]
 clear hN nl
 obtain ⟨xs,hxs⟩:∃xs,sGet bs A (N:Int)=xs:=⟨_,rfl⟩
 obtain ⟨ys,hys⟩:∃ys,sGet bs B (N:Int)=ys:=⟨_,rfl⟩
 rw [hxs,hys]
 obtain ⟨o,ho⟩:∃o,(if Pre.fc ⟨os,p.key,p.il,p.cc,p.pg,p.ad,bs,ks⟩ A N≠0 then Pre.no ⟨os,p.key,p.il,p.cc,p.pg,p.ad,bs,ks⟩ (Pre.fc ⟨os,p.key,p.il,p.cc,p.pg,p.ad,bs,ks⟩ A N) else if Pre.fc ⟨os,p.key,p.il,p.cc,p.pg,p.ad,bs,ks⟩ B N≠0 then Pre.no ⟨os,p.key,p.il,p.cc,p.pg,p.ad,bs,ks⟩ (Pre.fc ⟨os,p.key,p.il,p.cc,p.pg,p.ad,bs,ks⟩ B N) else Pre.st ⟨os,p.key,p.il,p.cc,p.pg,p.ad,bs,ks⟩ os (clc xs ys) false)=o:=⟨_,rfl⟩
 rw [ho]
 have HOa:Hid (sCode (alF p.key) bs.length ks A N≠0→o.c=sCode (alF p.key) bs.length ks A N):=lh fun h=>by rw [← ho];exact congrArg Out.c (if_pos h)
 have HOb:Hid (sCode (alF p.key) bs.length ks A N=0→sCode (alF p.key) bs.length ks B N≠0→o.c=sCode (alF p.key) bs.length ks B N):=lh fun h1 h=>by rw [← ho];exact congrArg Out.c ((if_neg (fun h=>h h1)).trans (if_pos h))
 have HOc:Hid (sCode (alF p.key) bs.length ks A N=0→sCode (alF p.key) bs.length ks B N=0→o=Pre.st ⟨os,p.key,p.il,p.cc,p.pg,p.ad,bs,ks⟩ os (clc xs ys) false):=lh fun h1 h2=>by rw [← ho];exact (if_neg (fun h=>h h1)).trans (if_neg (fun h=>h h2))
 have SX:=lh hxs
 have SY:=lh hys
 have R1:=lh h
 have z1:=h.b.size
 have z3:=h.lt
 have z4:=h.st.ltg
 have z5:=h.st.ltb
 have z6:=h.st.ltk
 clear hxs hys ho h
 refine R1.out.opn ?_
 intros
 go_enter Tryz.func129,Tryz.ntmps129
 go_upto_region 2 with (first
  | (go_at_call 119;have y1:=R1.out.b.size;have y2:=R1.out.st.ltg;refine nx (FC.out _ R1.out) ?_;clear R1;intro w1 R1)
  | (go_at_call 74;refine nx (SC.out _ _ R1.out.rb) ?_;intro w3 R3)
  | (go_at_call 116;have hz1:=Z1.out;refine nxh (pfet_c R3.out.rb _ N N0) (fun b2 c2 w4 Z2 O2 hy1 hy2 R2=>?_) (fun w4 Z2 R2=>?_))
  | (go_at_call 116;have z2:=R1.out.b.size;have z7:=R1.out.lt;have z8:=R1.out.st.ltg;have z9:=R1.out.st.ltb;have za:=R1.out.st.ltk;refine nxh (pfet_c R1.out _ N N0) (fun bx cx w1 Z1 O1 hx1 hx2 R1=>?_) (fun w1 Z1 R1=>?_)))
 rotate_left
 ·exact ⟨rfl,gp_no ((R1.out.re R3.out).re R2.out) (HOb.out Z1.out Z2.out) Z2.out⟩
 ·exact ⟨rfl,gp_no R1.out (HOa.out Z1.out) Z1.out⟩
 rw [SX.out] at O1
 rw [SY.out] at O2
 have W2:Hid (P2 w0 w4 g F I os os p p false bs ks bx cx xs b2 c2 ys):=lh ⟨(R1.out.re R3.out).re R2.out,(O1.out.ro.keep (R3.out.b.kept hx2 (by simp;omega))).keep (R2.out.b.kept (Nat.lt_of_lt_of_le hx2 R3.out.b.size) (by simp;omega)),O2.out.ro,by omega,by have:=R3.out.b.size;omega,by have:=R3.out.b.size;omega,by have:=R3.out.b.size;omega⟩
 have xl:=lh O1.out.len
 have yl:=lh O2.out.len
 clear O1 O2 hx1 hx2 hy1 hy2 R1 R2 R3 FC SC
 refine W2.out.rs.opn ?_
 intros
 go_wp2
 go_loopw [28] (fun x W=>∃k:Nat,k≤N∧x=.int .i64 (k:Int)∧clc (xs.drop k) (ys.drop k)=clc xs ys∧P2 w0 W g F I os os p { p with cc:=0 } false bs ks bx cx xs b2 c2 ys) (fun x _=>N - (intOf x).toNat)
 case atStart=>exact ⟨0,by omega,rfl,rfl,W2.out.to (W2.out.rs.rb.setcc 0)⟩
 case round=>
  obtain ⟨k,hk,rfl,hcl,hW⟩:=hrel
  have W3:=lh hW
  by_cases hlt:k<N
  ·have i0:(k:Int)<(N:Int):=by omega
   have x0:=hW.x.rangeD k
   have y0:=hW.y.rangeD k
   rw [drop_cons xs k (by rw [xl.out];exact hlt),drop_cons ys k (by rw [yl.out];exact hlt)] at hcl
   have hcl:(if xs.getD k 0=ys.getD k 0 then clc (xs.drop (k+1)) (ys.drop (k+1)) else sgn (xs.getD k 0 - ys.getD k 0))=clc xs ys:=hcl
   obtain ⟨x,hx⟩:∃x,xs.getD k 0=x:=⟨_,rfl⟩
   obtain ⟨y,hy⟩:∃y,ys.getD k 0=y:=⟨_,rfl⟩
   rw [hx,hy] at hcl
   rw [hx] at x0
   rw [hy] at y0
   have XY:Hid (∀w' q,P2 w0 w' g F I os os p q false bs ks bx cx xs b2 c2 ys→w'.cell? ⟨bx,k,none⟩=some (.int .u8 x)∧w'.cell? ⟨b2,k,none⟩=some (.int .u8 y)):=lh fun w' q h=>⟨by rw [h.x.cell (i:=k) (by rw [xl.out];exact hlt),hx],by rw [h.y.cell (i:=k) (by rw [yl.out];exact hlt),hy]⟩
   have w1:IntKind.u32.wrap x=x:=lo32_id _ (by omega) (by omega)
   have w2:IntKind.u32.wrap y=y:=lo32_id _ (by omega) (by omega)
   have HCL:=lh hcl
   clear hx hy hcl hW
   go_upto_region 6 with fail
   refine wp_region_held_drew (S:=fun W=>W.cell? ⟨bx,k,none⟩=some (.int .u8 x)∧W.cell? ⟨b2,k,none⟩=some (.int .u8 y)) (by kernel_rfl) (XY.out _ _ (W3.out.to W3.out.rs.rb.drew)) (fun hHeld=>?_)
   replace W3:=lh (W3.out.to W3.out.rs.rb.drew)
   repeat refine tkn ?_
   refine wpAnyH_done (by with_unfolding_all rfl) ?_ _
   clear hHeld
   by_cases hxy:x=y
   ·have e1:(x != y)=false:=by simp [hxy]
    have hcl:=HCL.out
    rw [if_pos hxy] at hcl
    have HC:=lh hcl
    clear hcl hxy
    go_wp2
    exact ⟨⟨k+1,by omega,rfl,HC.out,W3.out⟩,by simp [intOf];omega⟩
   ·have e1:(x != y)=true:=by simp [hxy]
    have hcl:=HCL.out
    rw [if_neg hxy] at hcl
    have HC:=lh hcl
    clear hcl hxy
    go_upto_region 7 with fail
    refine wp_region_held_drew (S:=fun W=>W.cell? ⟨bx,k,none⟩=some (.int .u8 x)∧W.cell? ⟨b2,k,none⟩=some (.int .u8 y)) (by kernel_rfl) (XY.out _ _ (W3.out.to W3.out.rs.rb.drew)) (fun hHeld=>?_)
    replace W3:=lh (W3.out.to W3.out.rs.rb.drew)
    repeat refine tkn ?_
    refine tkz (comparel_c x y (by omega) (by omega) (by omega) (by omega) _) ?_
    repeat refine tkn ?_
    rw [HC.out]
    refine tk_st (R:=fun w'=>P2 w0 w' g F I os os p { p with cc:=clc xs ys } false bs ks bx cx xs b2 c2 ys) (st_int (W3.out.rs.m.cp (n:=7) (by omega)) (W3.out.rs.fz _)) (W3.out.to (W3.out.rs.rb.setcc _)) (fun w' h=>XY.out _ _ h) ?_ (by with_unfolding_all rfl) (by rfl) (by rfl) (by rfl) (by rfl) (by rfl) (fun w'=>by simp only [Act.put,List.setIfInBounds_toArray,List.set_cons_zero,List.set_cons_succ];try rfl)
    clear W3 hHeld
    intro w6 W4 hHeld
    refine wpAnyH_done (by with_unfolding_all rfl) ?_ _
    clear hHeld
    go_wp2
    first | go_end0 | refine bodyPost_ret (results_none rfl _ _ _) rfl ?_
    exact gp_ok W4.out.rs (HOc.out Z1.out Z2.out)
  ·obtain rfl:k=N:=by omega
   rw [List.drop_of_length_le (by rw [xl.out];omega)] at hcl
   have HC:=lh (show 0=clc xs ys from hcl)
   clear hW hcl
   go_wp2
   first | go_end0 | refine bodyPost_ret (results_none rfl _ _ _) rfl ?_
   exact gp_ok W3.out.rs ((HOc.out Z1.out Z2.out).trans (by rw [← HC.out];rfl))
end
section
variable {w0 w w':World} {g:Nat} {F:Foot} {I:In} {os rs:List Int} {p q:Ps} {ov:Bool} {bs ks:List Int}
theorem par_16 (h:PS w0 w g F I os os p p false bs ks) (ho:(I.op=16∨I.op=17∨I.op=18∨I.op=19)):Calls Tryz.prog 78 #[.pointer (some ⟨g,0,none⟩)] w (Gp w0 g F I os p bs ks (arO ⟨os,p.key,p.il,p.cc,p.pg,p.ad,bs,ks⟩ I.op I.n (opC I.op I.fm bs ks p.key (I.a os)) (opV I.op I.fm os I.k bs (I.a os)))):=by
 have u0:=getD_in h.ro I.n
 have V0:=opV_in (op:=I.op) (fm:=I.fm) (a:=I.a os) (k:=I.k) h.ro h.st.rb
 have PO:=lh (fun W (hW:PS w0 W g F I os os p p false bs ks)=>popd_c hW)
 obtain ⟨u,hu⟩:∃u,os.getD I.n 0=u:=⟨_,rfl⟩
 obtain ⟨V,hV⟩:∃V,opV I.op I.fm os I.k bs (I.a os)=V:=⟨_,rfl⟩
 obtain ⟨C,hC⟩:∃C,opC I.op I.fm bs ks p.key (I.a os)=C:=⟨_,rfl⟩
 rw [hu] at u0
 rw [hV] at V0
 rw [hV,hC] at PO ⊢
 clear hV hC
 rcases ho with ho | ho | ho | ho
 all_goals
  rw [ho]
  have HU:=lh hu
  have HO:=lh ho
  have R0:=lh h
  have hn:=h.ix.n
  clear hu ho h
  refine R0.out.opn ?_
  intros
  go_enter Tryz.func78,Tryz.ntmps78
  go_upto_region 6 with fail
  refine wp_region_held_drew (S:=Sy w0 g F I os p) (by kernel_rfl) R0.out.drew.x (fun hHeld=>?_)
  replace R0:=lh R0.out.drew
  repeat refine tkp ?_
  refine tkq (PO.out _ R0.out) (fun _ _ h=>h.2.2.x) ?_ ?_
  rotate_left
  ·intro w1 B1
   go_wp2
   exact ⟨rfl,gp_no B1.out.2 (congrArg Out.c (arO_no (by decide) B1.out.1)) B1.out.1⟩
  intro v w1 A1 hHeld
  obtain ⟨rfl,rfl,hR⟩:=A1.out
  have R1:=lh hR
  clear A1 hR R0 PO
  repeat refine tkp ?_
  refine wpAnyH_done (by kernel_rfl) ?_ _
  refine R1.out.opn ?_
  clear hHeld
  intros
  go_wp2_with (first
   | (go_at_call 134;refine nx (psgn_c R1.out V V0 (by have:=HO.out;omega)) ?_;intro w1 R1))
  first | go_end0 | refine bodyPost_ret (results_none rfl _ _ _) rfl ?_
  exact gp_ok R1.out (by rw [HO.out];rfl)
theorem par_28 (h:PS w0 w g F I os os p p false bs ks) (ho:I.op=28∨I.op=29∨I.op=92∨I.op=93):Calls Tryz.prog 78 #[.pointer (some ⟨g,0,none⟩)] w (Gp w0 g F I os p bs ks (arO ⟨os,p.key,p.il,p.cc,p.pg,p.ad,bs,ks⟩ I.op I.n (opC I.op I.fm bs ks p.key (I.a os)) (opV I.op I.fm os I.k bs (I.a os)))):=by
 have PC:=lh (fun W (hW:PS w0 W g F I os os p p false bs ks)=>pprod_c hW ho)
 obtain ⟨o,hoo⟩:∃o,arO ⟨os,p.key,p.il,p.cc,p.pg,p.ad,bs,ks⟩ I.op I.n (opC I.op I.fm bs ks p.key (I.a os)) (opV I.op I.fm os I.k bs (I.a os))=o:=⟨_,rfl⟩
 rw [hoo] at PC ⊢
 have R0:=lh h
 clear hoo h
 rcases ho with ho | ho | ho | ho
 all_goals
  have HO:=lh ho
  clear ho
  refine R0.out.opn ?_
  intros
  go_enter Tryz.func78,Tryz.ntmps78
  go_wp2_with (go_at_call 132;refine nxp (PC.out _ R0.out) (fun w1 Z=>?_) (fun w1 Z=>?_))
  ·first | go_end0 | refine bodyPost_ret (results_none rfl _ _ _) rfl ?_
   exact Z.out
  ·exact ⟨rfl,Z.out⟩
theorem PS.bk {rs' bs':List Int} {q':Ps} {ov':Bool} {L:List Nat} (h:PS w0 w g F I os rs p q ov bs ks) (hm:MS w' g F I.z os rs' q'.v ov' bs' ks) (hc:Ch w w' L) (hL:∀k,k∈L→k∈[g,F.gb]) (hq:q'=p.to q'.cc q'.pg q'.ad):PS w0 w' g F I os rs' p q' ov' bs' ks:=⟨hm.m,hm.st,h.b.trans (hc.mono hL),h.n0,h.n1,h.n2,h.ro,h.ix,hq⟩
theorem p_fir (h:PS w0 w g F I os rs p q ov bs ks) (W:World) (hW:MS W g F I.z os rs q.v ov bs ks):Calls Tryz.prog 119 #[.pointer (some ⟨g,0,none⟩)] W fun e w'=>e=.returned (.int .i64 (I.a1 os))∧Ch W w' []:=first_c g I.b I.d I.z os rs q.v _ ov W hW.m h.ro rfl h.ix.d.1 h.ix.d.2 rfl h.ix.b
theorem p_sec (h:PS w0 w g F I os rs p q ov bs ks) (W:World) (hW:MS W g F I.z os rs q.v ov bs ks):Calls Tryz.prog 74 #[.pointer (some ⟨g,0,none⟩)] W fun e w'=>e=.returned (.int .i64 (I.a os))∧Ch W w' []:=second_c g I.b' I.x I.d' I.z os rs q.v _ ov W hW.m h.ro rfl h.ix.d'.1 h.ix.d'.2 rfl h.ix.b' rfl h.ix.x
theorem ptr_c (h:PS w0 w g F I os os p p false bs ks):Calls Tryz.prog 130 #[.pointer (some ⟨g,0,none⟩)] w (Gp w0 g F I os p bs ks (loO ⟨os,p.key,p.il,p.cc,p.pg,p.ad,bs,ks⟩ 220 (I.l+1) (I.a1 os) (I.a os))):=by
 have A0:=I.a1_in os
 have B0:=I.a_in os
 have nl:=h.ix.l
 have hN:I.z.getD 9 0+1=((I.l+1:Nat):Int):=by show (I.l:Int)+1=_;omega
 by_cases hf:sCode (alF p.key) bs.length ks (I.a1 os) ((I.l+1:Nat):Int)=0
 ·have hf':Pre.fc ⟨os,p.key,p.il,p.cc,p.pg,p.ad,bs,ks⟩ (I.a1 os) ((I.l+1:Nat):Int)=0:=hf
  refine (tr_m g (I.l+1) F I.z os os p.v false bs ks p.key (I.a1 os) (I.a os) w h.ms hN (by omega) rfl (p_fir h) (p_sec h) A0.1 A0.2 B0.1 B0.2 (by omega) hf _ rfl).mono ?_
  rintro e w' ⟨h1,h2,hc⟩
  have e0:loO ⟨os,p.key,p.il,p.cc,p.pg,p.ad,bs,ks⟩ 220 (I.l+1) (I.a1 os) (I.a os)=if trE bs ks (sGet bs (I.a1 os) ((I.l+1:Nat):Int)) p.key (I.a os) (I.l+1)=0 then Pre.wr ⟨os,p.key,p.il,p.cc,p.pg,p.ad,bs,ks⟩ (I.a1 os) ((I.l+1:Nat):Int) (trS bs (sGet bs (I.a1 os) ((I.l+1:Nat):Int)) (I.a1 os) (I.a os) (I.l+1)) p.cc else Pre.no ⟨os,p.key,p.il,p.cc,p.pg,p.ad,bs,ks⟩ (trE bs ks (sGet bs (I.a1 os) ((I.l+1:Nat):Int)) p.key (I.a os) (I.l+1)):=by unfold loO;rw [if_neg (by decide),if_neg (fun h=>h hf'),if_pos rfl]
  rw [e0]
  by_cases ht:trE bs ks (sGet bs (I.a1 os) ((I.l+1:Nat):Int)) p.key (I.a os) (I.l+1)=0
  ·rw [if_pos ht] at h1 h2 ⊢
   by_cases hp:sCode (alP p.key) bs.length ks (I.a1 os) ((I.l+1:Nat):Int)=0
   ·obtain ⟨rfl,hM⟩:=h1 hp
    exact gp_ok (h.bk hM hc (fun _ h=>h) h.hq) (wr_ok hp)
   ·obtain ⟨rfl,hM⟩:=h2 hp
    exact gp_no (h.bk hM hc (fun _ h=>h) h.hq) (wr_no hp) hp
  ·rw [if_neg ht] at h1 h2 ⊢
   obtain ⟨rfl,hM⟩:=h2 ht
   exact gp_no (h.bk hM hc (fun _ h=>h) h.hq) rfl ht
 ·have hf':Pre.fc ⟨os,p.key,p.il,p.cc,p.pg,p.ad,bs,ks⟩ (I.a1 os) ((I.l+1:Nat):Int)≠0:=hf
  refine (tr_no g (I.l+1) F I.z os os p.v false bs ks p.key (I.a1 os) (I.a os) w h.ms hN (by omega) rfl (p_fir h) (p_sec h) A0.1 A0.2 B0.1 B0.2 _ rfl hf).mono ?_
  rintro e w' ⟨rfl,hM,hc⟩
  have e0:loO ⟨os,p.key,p.il,p.cc,p.pg,p.ad,bs,ks⟩ 220 (I.l+1) (I.a1 os) (I.a os)=Pre.no ⟨os,p.key,p.il,p.cc,p.pg,p.ad,bs,ks⟩ (Pre.fc ⟨os,p.key,p.il,p.cc,p.pg,p.ad,bs,ks⟩ (I.a1 os) ((I.l+1:Nat):Int)):=by unfold loO;rw [if_neg (by decide),if_pos hf']
  rw [e0]
  exact gp_no (h.bk hM hc (by simp) h.hq) rfl hf
theorem ptrt_c (h:PS w0 w g F I os os p p false bs ks):Calls Tryz.prog 131 #[.pointer (some ⟨g,0,none⟩)] w (Gp w0 g F I os p bs ks (loO ⟨os,p.key,p.il,p.cc,p.pg,p.ad,bs,ks⟩ 221 (I.l+1) (I.a1 os) (I.a os))):=by
 have A0:=I.a1_in os
 have B0:=I.a_in os
 have nl:=h.ix.l
 have hN:I.z.getD 9 0+1=((I.l+1:Nat):Int):=by show (I.l:Int)+1=_;omega
 obtain ⟨r,hr⟩:∃r,scn bs ks p.key (I.a1 os) (I.a os) (I.l+1) 0=r:=⟨_,rfl⟩
 obtain ⟨c,o⟩:=r
 refine (trt_m g (I.l+1) F I.z os os p.v false bs ks p.key (I.a1 os) (I.a os) w h.ms hN (by omega) rfl (p_fir h) (p_sec h) A0.1 A0.2 B0.1 B0.2 (by omega) (by have:=h.st.ln;have:=h.st.l1;omega) h.ro h.st.rb c o hr).mono ?_
 rintro e w' ⟨h1,h2,hc⟩
 have e0:loO ⟨os,p.key,p.il,p.cc,p.pg,p.ad,bs,ks⟩ 221 (I.l+1) (I.a1 os) (I.a os)=if c=0 then ⟨0,scnR os os (I.a1 os) o,scnQ (I.l+1) o,p.pg,p.ad,false,bs⟩ else Pre.no ⟨os,p.key,p.il,p.cc,p.pg,p.ad,bs,ks⟩ c:=by
  unfold loO
  rw [if_pos rfl]
  show (match scn bs ks p.key (I.a1 os) (I.a os) (I.l+1) 0 with | (c,o)=>if c=0 then (⟨0,scnR os os (I.a1 os) o,scnQ (I.l+1) o,p.pg,p.ad,false,bs⟩:Out) else Pre.no ⟨os,p.key,p.il,p.cc,p.pg,p.ad,bs,ks⟩ c)=_
  rw [hr]
 rw [e0]
 by_cases hz:c=0
 ·rw [if_pos hz]
  obtain ⟨rfl,hM⟩:=h1 hz
  exact gp_ok (q:={ p with cc:=scnQ (I.l+1) o }) (h.bk hM hc (by simp) rfl) rfl
 ·rw [if_neg hz]
  obtain ⟨rfl,hM⟩:=h2 hz
  exact gp_no (q:={ p with cc:=0 }) (h.bk hM hc (by simp) rfl) rfl hz
end
end Go.Proofs.YtljajnaclpbecaaGreatDoor
