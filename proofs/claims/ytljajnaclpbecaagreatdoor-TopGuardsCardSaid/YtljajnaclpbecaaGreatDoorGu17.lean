/- Contracts and laws on the way to the statement, text 17 of 22. Conditions: as each states them. -/
import Derived.Test.YtljajnaclpbecaaGreatDoorGu1
import Derived.Test.YtljajnaclpbecaaGreatDoorGu16
namespace Go.Proofs.YtljajnaclpbecaaGreatDoor
open Go.RowKit
set_option maxRecDepth 1000000
set_option maxHeartbeats 8000000
set_option linter.unusedVariables false
set_option linter.unusedSimpArgs false
section
variable {w0 w w':World} {g:Nat} {F:Foot} {ix rs:List Int} {p:Ps} {bs ks z:List Int} {op fm r1 r2 x2 b1 d1 b2 d2 l1 l2 i2 k:Int} {P W:Bool}
theorem bits_u32 (o:BinOp) (x y:Int):0≤bits o .u32 x y∧bits o .u32 x y≤4294967295:=by
 have:∃z,bits o .u32 x y=IntKind.u32.wrap z:=⟨_,rfl⟩
 obtain ⟨z,hz⟩:=this
 rw [hz,IntKind.wrap_u32]
 omega
theorem dfe1_w {W0 W:World} (h:DR W0 W g F ix rs p bs ks) (addr key:Int):Calls Tryz.prog 47 #[.pointer (some ⟨F.g,0,none⟩),.int .i64 addr,.int .i64 1,.int .i64 key] W fun e w'=>∃v,e=.returned v∧(∃ (A:Option Addr) (l cap:Nat) (ys:List Int) (cd:Int),v=.tuple #[.slice A l cap,.int .i64 cd]∧Own w' W.heap.size (.slice A l cap) l ys∧l≤1)∧Below W.heap.size W w':=by
 refine (fetch_c W h.st addr 1 key).mono ?_
 rintro e w' ⟨A,l,cap,rfl,hO,hb⟩
 refine ⟨_,rfl,⟨A,l,cap,_,_,rfl,hO,?_⟩,hb⟩
 rw [← hO.len]
 unfold sFet sGet
 split
 ·split
  ·simp;omega
  ·simp
 ·simp
theorem dedit_w {n:Nat} (h:DX w0 w g F [op,fm,r1,r2,x2,b1,d1,b2,d2,l1,l2,i2] rs p bs ks k P W z) (h0:0≤b2∧b2<16) (h1:0≤x2∧x2<16) (hd:0≤d2∧d2<4096) (h2:0≤b1∧b1<16) (h3:0≤d1∧d1<4096) (hl:l1+1=(n:Int)) (hn:1≤n∧n≤256):Calls Tryz.prog 100 #[.pointer (some ⟨g,0,none⟩)] w (Dz (fun v w'=>v=.tuple #[]∧DE w0 w' g F [op,fm,r1,r2,x2,b1,d1,b2,d2,l1,l2,i2] ks k P W z∧Ch w w' [g,F.gb]) (fun w'=>DE w0 w' g F [op,fm,r1,r2,x2,b1,d1,b2,d2,l1,l2,i2] ks k P W z∧Ch w w' [g,F.gb])):=by
 have hw:IntKind.i64.wrap (l1+1)=(n:Int):=by rw [hl];exact wrap_i64_id (by omega) (by omega)
 have AC:=lh (fun W (hW:DR w W g F [op,fm,r1,r2,x2,b1,d1,b2,d2,l1,l2,i2] rs p bs ks)=>da1_w hW h.ro h2 h3)
 have A2:=lh (fun W (hW:DR w W g F [op,fm,r1,r2,x2,b1,d1,b2,d2,l1,l2,i2] rs p bs ks)=>da_w hW h.ro h0 h1 hd)
 have HN:=lh hn
 have H:=lh h
 have D:=lh h.dr
 clear h h0 h1 hd hl hn h2 h3
 go_enter Tryz.func100,Tryz.ntmps100
 go_upto_region 0 with fail
 refine wp_region_held_drew (S:=fun W=>∃b,DR w W g F [op,fm,r1,r2,x2,b1,d1,b2,d2,l1,l2,i2] rs p b ks∧True) (by kernel_rfl) ⟨_,D.out.drew,trivial⟩ (fun hHeld=>?_)
 have Z:=lh (show DR w w.drew g F [op,fm,r1,r2,x2,b1,d1,b2,d2,l1,l2,i2] rs p bs ks∧Below w.heap.size w w.drew from ⟨D.out.drew,dBelow' (Below.refl _ _) 1⟩)
 obtain ⟨v0,hv⟩:∃V,w.drew=V:=⟨_,rfl⟩
 rw [hv] at Z hHeld ⊢
 clear hv D
 repeat refine tkd ?_
 refine tkce (R:=fun v W=>AdV v∧(DR w W g F [op,fm,r1,r2,x2,b1,d1,b2,d2,l1,l2,i2] rs p bs ks∧Below w.heap.size w W)) ((AC.out _ Z.out.1).mono fun e w' ⟨v,he,hv,hb⟩=>⟨v,he,hv,Z.out.1.keep hb,Z.out.2.trans (hb.mono Z.out.2.size)⟩) (fun _ _ h=>⟨_,h.2.1,trivial⟩) ?_
 clear Z hHeld AC
 intro vv v1 Z hHeld
 obtain ⟨⟨a,ha,rfl⟩,hZ⟩:=Z.out
 have BZ:=lh hZ.2
 have DZ:=lh hZ.1
 clear hZ ha Z
 repeat refine tkd ?_
 refine wpAnyH_done (by with_unfolding_all rfl) ?_ _
 clear hHeld hw
 go_upto_region 1 with fail
 refine wp_region_lit ?_
 iterate 3 refine lsv (w':=v1) ?_
 refine lsd (dfet_w (a:=a) (n:=n) DZ.out (by have:=HN.out;omega)) (by intro c w' hB;exact ⟨rfl,.inr ⟨c,rfl,((H.out.keep BZ.out).keep hB).e,(Ch.of_below BZ.out _).trans (Ch.of_below hB _)⟩⟩) ?_
 intro v2 w1 Z
 have V1:=lh Z.out.1
 have H1:=lh ((H.out.keep BZ.out).keep Z.out.2)
 have C1:=lh ((Ch.of_below BZ.out [g,F.gb]).trans (Ch.of_below Z.out.2 _))
 have D1:=lh (DZ.out.keep Z.out.2)
 clear Z BZ DZ H
 refine lsv (w':=w1) ?_
 refine wpList_nil ?_
 go_wp2
 go_loopw [5,6,7] (fun sv fv kv W=>∃ (j m:Nat) (ys:List Int) (cd:Int),j≤n∧kv=.int .i64 (j:Int)∧fv=.int .i64 cd∧Own W w1.heap.size sv m ys∧m≤j∧Below w1.heap.size w1 W) (fun _ _ kv _=>n - (intOf kv).toNat)
 case atStart=>exact ⟨0,0,[],0,Nat.zero_le _,rfl,rfl,Own.nil _ _,Nat.le_refl _,Below.refl _ _⟩
 case round=>
  obtain ⟨j,m,ys,cd,hj,rfl,rfl,ho,hm,hB⟩:=hrel
  rename World=>W1
  have SO:=lh (And.intro ho hm)
  have B1:=lh hB
  have HJ:=lh hj
  clear ho hm hB hj
  by_cases hlt:j<n
  ·have e1:(j:Int)<(n:Int):=by omega
   by_cases hc:cd=0
   ·subst hc
    have e3:IntKind.i64.wrap ((j:Int)+1)=(j:Int)+1:=wrap_i64_id (by omega) (by have:=HN.out;omega)
    have LT:=lh hlt
    clear hlt
    have D2:=lh (D1.out.keep B1.out)
    go_upto_region 8 with fail
    refine wp_region_held_drew (S:=fun W=>∃b,DR w W g F [op,fm,r1,r2,x2,b1,d1,b2,d2,l1,l2,i2] rs p b ks∧True) (by kernel_rfl) ⟨_,D2.out.drew,trivial⟩ (fun hHeld=>?_)
    have Z:=lh (show DR w W1.drew g F [op,fm,r1,r2,x2,b1,d1,b2,d2,l1,l2,i2] rs p bs ks∧Below W1.heap.size W1 W1.drew from ⟨D2.out.drew,dBelow' (Below.refl _ _) 1⟩)
    obtain ⟨v0,hv⟩:∃V,W1.drew=V:=⟨_,rfl⟩
    rw [hv] at Z hHeld ⊢
    clear hv D2
    repeat refine tkd ?_
    refine tkce (R:=fun v W=>AdV v∧(DR w W g F [op,fm,r1,r2,x2,b1,d1,b2,d2,l1,l2,i2] rs p bs ks∧Below W1.heap.size W1 W)) ((A2.out _ Z.out.1).mono fun e w' ⟨v,he,hv,hb⟩=>⟨v,he,hv,Z.out.1.keep hb,Z.out.2.trans (hb.mono Z.out.2.size)⟩) (fun _ _ h=>⟨_,h.2.1,trivial⟩) ?_
    clear Z hHeld
    intro vv v1 Z hHeld
    obtain ⟨⟨a2,ha2,rfl⟩,hZ⟩:=Z.out
    replace Z:=lh hZ
    clear hZ ha2
    obtain ⟨a3,ha3⟩:∃x,IntKind.i64.wrap ((a2:Int)+(j:Int))=x:=⟨_,rfl⟩
    repeat refine tkd ?_
    refine tkce (R:=fun v W=>(∃ (A:Option Addr) (l cap:Nat) (ys:List Int) (cd:Int),v=.tuple #[.slice A l cap,.int .i64 cd]∧Own W v1.heap.size (.slice A l cap) l ys∧l≤1)∧(DR w W g F [op,fm,r1,r2,x2,b1,d1,b2,d2,l1,l2,i2] rs p bs ks∧Below W1.heap.size W1 W)) ((dfe1_w Z.out.1 _ p.key).mono fun e w' ⟨v,he,hv,hb⟩=>⟨v,he,hv,Z.out.1.keep hb,Z.out.2.trans (hb.mono Z.out.2.size)⟩) (fun _ _ h=>⟨_,h.2.1,trivial⟩) ?_
    clear hHeld ha3
    intro vv v2 Z2 hHeld
    obtain ⟨⟨A,l,cap,ys2,cd,rfl,ho2,hl⟩,hD,hb2⟩:=Z2.out
    have OB:=lh (⟨ho2,hl⟩:Own v2 v1.heap.size (.slice A l cap) l ys2∧l≤1)
    have OA:=lh (SO.out.1.below hb2 fun g e=>(SO.out.1.1.lt g e).2)
    have B2:=lh (B1.out.trans (hb2.mono B1.out.size))
    clear Z Z2 ho2 hl hD hb2
    repeat refine tkd ?_
    refine wpAnyH_done (by with_unfolding_all rfl) ?_ _
    clear hHeld
    go_upto_region 9 with fail
    refine wp_region_lit ?_
    iterate 2 refine lsv (w':=v2) ?_
    refine wpList_append_bytes rfl (.tmp 49) (.tmp 50) rfl w1.heap.size _ m ys rfl OA.out A l cap ys2 rfl OB.out.1.byt (by
     rcases OB.out.1.form with ⟨h1,h2⟩ | ⟨b9,c9,h1,-⟩
     ·injection h1 with h1 h2 h3;intro _;exact h3
     ·injection h1 with h1 h2 h3;intro h;rw [h1] at h;cases h) (by have:=SO.out.2;have:=OB.out.2;have:=HJ.out;have:=HN.out;omega) B2.out.size ?_
    intro v3 w3 ho hg
    have B3:=lh (below_own B2.out OA.out hg (Nat.le_refl _))
    have O3:=lh (⟨ho,by have:=SO.out.2;have:=OB.out.2;omega⟩:Own w3 w1.heap.size v3 (m+l) (ys++ys2)∧m+l≤j+1)
    clear ho hg B2 OA OB
    refine lsv (w':=w3) ?_
    refine wpList_nil ?_
    go_wp2
    go_roundw
    case rel=>exact ⟨j+1,m+l,_,cd,LT.out,rfl,rfl,O3.out.1,O3.out.2,B3.out⟩
    case measure=>have:=LT.out;simp [intOf];omega
   ·have e2:(cd == 0)=false:=by rw [beq_eq_false_iff_ne];exact hc
    clear hc hlt
    obtain ⟨pb,pc,zp,rfl,hp⟩:=V1.out
    obtain ⟨A,cap,rfl,hA⟩:=own_shape SO.out.1
    have YP:=lh ((hp.below B1.out fun g e=>(hp.1.lt g e).2).byt)
    have YS:=lh SO.out.1.byt
    have MS:=lh (show m≤100000 by have:=SO.out.2;have:=HJ.out;have:=HN.out;omega)
    have H2:=lh (H1.out.keep B1.out)
    have C2:=lh (C1.out.trans (Ch.of_below B1.out _))
    clear hp hA SO HJ
    go_upto_region 10 with fail
    refine wp_region_lit ?_
    iterate 2 refine lsv (w':=W1) ?_
    refine lsce (edit_w n pb pc HN.out zp A m cap MS.out ys W1 YP.out YS.out) ?_
    intro vv v1 Z
    obtain ⟨⟨tx,cc,mk,ce,rfl,m6,ys6,ho6,hm6⟩,hb⟩:=Z.out
    obtain ⟨A6,c6,rfl,-⟩:=own_shape ho6
    have H3:=lh (H2.out.keep hb)
    have C3:=lh (C2.out.trans (Ch.of_below hb _))
    have S3:=lh (show SlV 1000 W1.heap.size v1 (.slice A6 m6 c6) from ⟨m6,ys6,ho6,by omega⟩)
    clear Z ho6 hm6 hb YP YS MS H2 C2 V1 H1 C1 D1 B1 A2
    iterate 3 refine lsv (w':=v1) ?_
    refine lsv (v:=.pointer (some ⟨v1.heap.size,0,none⟩)) (w':=v1.alloc (.cells #[.slice none 0 0,.int .i64 0,.int .i64 0] 205)) ?_
    have N4:=Bk.new v1 [.slice none 0 0,.int .i64 0,.int .i64 0] 205
    refine lss (cs':=[.slice A6 m6 c6,.int .i64 cc,.int .i64 mk]) N4 rfl (by simp [Value.oneCell']) (by kernel_rfl) ?_
    have N5:=N4.rowSet [.slice A6 m6 c6,.int .i64 cc,.int .i64 mk]
    have al:=below_row ((Below.refl v1.heap.size v1).alloc (Nat.le_refl _) (.cells #[.slice none 0 0,.int .i64 0,.int .i64 0] 205)) (Nat.le_refl v1.heap.size) ([.slice A6 m6 c6,.int .i64 cc,.int .i64 mk]:List Value).toArray
    obtain ⟨w5,hW⟩:∃V,(v1.alloc (.cells #[.slice none 0 0,.int .i64 0,.int .i64 0] 205)).setRow v1.heap.size ([.slice A6 m6 c6,.int .i64 cc,.int .i64 mk]:List Value).toArray=V:=⟨_,rfl⟩
    have hW2:(v1.alloc (.cells #[.slice none 0 0,.int .i64 0,.int .i64 0] 205)).setRow v1.heap.size #[.slice A6 m6 c6,.int .i64 cc,.int .i64 mk]=w5:=hW
    rw [hW] at N5 al
    first | rw [hW] | simp only [hW2] | rw [hW2]
    have H5:=lh (H3.out.keep al)
    have C5:=lh (C3.out.trans (Ch.of_below al _))
    have S5:=lh (S3.out.keep al)
    have GE:=lh (show g<v1.heap.size∧F.gb<v1.heap.size from ⟨Nat.lt_of_lt_of_le H3.out.nn.1 H3.out.sz,Nat.lt_of_lt_of_le H3.out.nn.2.1 H3.out.sz⟩)
    obtain ⟨ge,hge⟩:∃b,v1.heap.size=b:=⟨_,rfl⟩
    rw [hge] at N5 GE
    try simp only [hge]
    have N:=lh N5
    clear hW hW2 al hge H3 C3 S3 N4 N5
    refine lsv (w':=w5) ?_
    refine wpList_nil ?_
    by_cases h5:ce=5
    ·subst h5
     go_upto_region 13 with fail
     refine wp_region_lit ?_
     refine lsv (w':=w5) ?_
     refine lsd (check_w _ w5) (by intro c w' hB;obtain rfl:=hB;exact ⟨rfl,.inr ⟨c,rfl,H5.out.e,C5.out⟩⟩) ?_
     intro vv w6 Z
     obtain ⟨rfl,-,rfl⟩:=Z.out
     clear Z
     refine wpList_nil ?_
     have t0:=N.out.cell (c:=0) rfl
     go_upto_region 14 with fail
     refine wp_region_lit ?_
     iterate 3 refine lsv (w':=w5) ?_
     refine lsv (v:=.slice A6 m6 c6) (w':=w5) ?_
     clear t0
     refine lsd (dput_w H5.out S5.out (by omega)) (by intro c w' hB;obtain ⟨⟨b',h1⟩,h2⟩:=hB;exact ⟨rfl,.inr ⟨c,rfl,h1.e,C5.out.trans (h2.mono (by simp))⟩⟩) ?_
     intro vv w7 Z
     obtain ⟨rfl,⟨bs',h1⟩,h2⟩:=Z.out
     have H7:=lh h1
     have C7:=lh (C5.out.trans (h2.mono (by simp)))
     replace N:=lh (N.out.ch h2 (by have:=GE.out;simp;omega))
     clear Z h1 h2 H5 C5 S5
     refine wpList_nil ?_
     have c35:=H7.out.c35
     have f1:=H7.out.dr.m.free
     have t1:=N.out.cell (c:=1) rfl
     go_upto_region 15 with fail
     refine wp_region_lit ?_
     iterate 2 refine lsv (w':=w7) ?_
     refine lsv (v:=.int .i64 cc) (w':=w7) ?_
     iterate 3 refine lsv (w':=w7) ?_
     refine lsk (w':=w7.setCell ⟨g,35,none⟩ (.int .i64 cc)) (by unfold execOp;go_simp;(try rfl)) ?_
     refine wpList_nil ?_
     have H8:=lh (H7.out.scc cc)
     have C8:=lh (C7.out.setCell (p:=⟨g,35,none⟩) (by simp) (.int .i64 cc))
     replace N:=lh (N.out.other (p:=⟨g,35,none⟩) (.int .i64 cc) (by have:=GE.out;show g≠ge;omega))
     obtain ⟨w8,hW⟩:∃V,w7.setCell ⟨g,35,none⟩ (.int .i64 cc)=V:=⟨_,rfl⟩
     rw [hW] at H8 C8 N
     first | rw [hW] | simp only [hW]
     clear hW c35 f1 t1 H7 C7
     obtain ⟨rs9,p9,bs9,h9⟩:=H8.out.e
     have H9:=lh h9
     clear h9 H8
     have c0:w8.cell? ⟨g,0,none⟩=some (.int .i64 op):=H9.out.dr.m.cell (c:=0) rfl
     have t2:=N.out.cell (c:=2) rfl
     by_cases h223:op=223
     ·subst h223
      by_cases hk:0≤mk
      ·go_upto_region 17 with fail
       clear c0 t2 hk
       refine wp_region_held_drew (S:=fun W'=>Bk W' ge 205 [.slice A6 m6 c6,.int .i64 cc,.int .i64 mk]) (by kernel_rfl) (N.out.drewN 1) (fun hHeld=>?_)
       replace H9:=lh H9.out.drew
       have C9:=lh C8.out.drew'
       obtain ⟨y0,hv⟩:∃V,w8.drew=V:=⟨_,rfl⟩
       rw [hv] at H9 C9 hHeld ⊢
       clear hv
       obtain ⟨q0,e0⟩:∃x,rs9.getD 1 0=x:=⟨_,rfl⟩
       obtain ⟨q1,e1⟩:∃x,bits .andNot .u32 q0 16777215=x:=⟨_,rfl⟩
       obtain ⟨q2,e2⟩:∃x,IntKind.i64.wrap ((a:Int)+mk)=x:=⟨_,rfl⟩
       obtain ⟨q3,e3⟩:∃x,IntKind.u32.wrap q2=x:=⟨_,rfl⟩
       obtain ⟨q4,e4⟩:∃x,bits .and .u32 q3 16777215=x:=⟨_,rfl⟩
       obtain ⟨q5,e5⟩:∃x,bits .or .u32 q1 q4=x:=⟨_,rfl⟩
       have Q5:=lh (e5▸bits_u32 .or q1 q4:0≤q5∧q5≤4294967295)
       refine tki 0 ?_
       refine tki 1 ?_
       refine tki 2 ?_
       refine tki 3 ?_
       refine tki 4 (v:=.pointer (some ⟨g,13,none⟩)) ?_
       refine tki 7 ?_
       refine tki 8 ?_
       refine tki 9 (v:=.int .i64 mk) ?_ (y:=by (intro W' hSw;have c1:=hSw.cell (c:=2) rfl;go_simp;(try with_reducible rfl)))
       refine tki 10 (v:=.int .i64 q2) ?_
       refine tki 11 (v:=.int .u32 q3) ?_
       refine tki 12 (v:=.int .u32 q4) ?_
       refine tki 14 ?_
       refine tki 15 ?_
       have cg:y0.cell? ⟨g,13,none⟩=some (.int .u32 q0):=e0▸H9.out.cr (r:=1) (by omega)
       have fg:=H9.out.dr.m.free
       refine tkv (i:=5) (v:=.int .u32 q0) ?_
       refine tki 6 (v:=.int .u32 q1) ?_
       refine tki 13 (v:=.int .u32 q5) ?_
       refine tki 16 (v:=.pointer (some ⟨g,13,none⟩)) ?_
       refine tkw (w1:=y0.setCell ⟨g,13,none⟩ (.int .u32 q5)) (R:=fun W'=>(DE w0 W' g F [223,fm,r1,r2,x2,b1,d1,b2,d2,l1,l2,i2] ks k P W z∧Ch w W' [g,F.gb])∧Bk W' ge 205 [.slice A6 m6 c6,.int .i64 cc,.int .i64 mk]) ⟨⟨(H9.out.sr (n:=1) (by omega) Q5.out).e,C9.out.setCell (p:=⟨g,13,none⟩) (by simp) _⟩,hHeld.other _ (by have:=GE.out;show g≠ge;omega)⟩ (fun _ h=>h.2) ?_
       clear cg fg hHeld
       intro y1 Z hHeld
       refine wpAnyH_done (by with_unfolding_all rfl) ?_ _
       clear hHeld
       go_wp2
       go_end0
       exact .inl ⟨_,rfl,rfl,Z.out.1.1,Z.out.1.2⟩
      ·go_wp2
       go_end0
       exact .inl ⟨_,rfl,rfl,H9.out.e,C8.out⟩
     ·have e9:(op == 223)=false:=by rw [beq_eq_false_iff_ne];exact h223
      clear h223
      go_wp2
      go_end0
      exact .inl ⟨_,rfl,rfl,H9.out.e,C8.out⟩
    ·have e5:(ce == 5)=false:=by rw [beq_eq_false_iff_ne];exact h5
     clear h5
     go_upto_region 13 with fail
     refine wp_region_lit ?_
     refine lsv (w':=w5) ?_
     refine lsd (check_w _ w5) (by intro c w' hB;obtain rfl:=hB;exact ⟨rfl,.inr ⟨c,rfl,H5.out.e,C5.out⟩⟩) ?_
     intro vv w6 Z
     obtain ⟨rfl,-,rfl⟩:=Z.out
     clear Z
     refine wpList_nil ?_
     have t0:=N.out.cell (c:=0) rfl
     go_upto_region 14 with fail
     refine wp_region_lit ?_
     iterate 3 refine lsv (w':=w5) ?_
     refine lsv (v:=.slice A6 m6 c6) (w':=w5) ?_
     clear t0
     refine lsd (dput_w H5.out S5.out (by omega)) (by intro c w' hB;obtain ⟨⟨b',h1⟩,h2⟩:=hB;exact ⟨rfl,.inr ⟨c,rfl,h1.e,C5.out.trans (h2.mono (by simp))⟩⟩) ?_
     intro vv w7 Z
     obtain ⟨rfl,⟨bs',h1⟩,h2⟩:=Z.out
     have H7:=lh h1
     have C7:=lh (C5.out.trans (h2.mono (by simp)))
     replace N:=lh (N.out.ch h2 (by have:=GE.out;simp;omega))
     clear Z h1 h2 H5 C5 S5
     refine wpList_nil ?_
     have c35:=H7.out.c35
     have f1:=H7.out.dr.m.free
     have t1:=N.out.cell (c:=1) rfl
     go_upto_region 15 with fail
     refine wp_region_lit ?_
     iterate 2 refine lsv (w':=w7) ?_
     refine lsv (v:=.int .i64 cc) (w':=w7) ?_
     iterate 3 refine lsv (w':=w7) ?_
     refine lsk (w':=w7.setCell ⟨g,35,none⟩ (.int .i64 cc)) (by unfold execOp;go_simp;(try rfl)) ?_
     refine wpList_nil ?_
     have H8:=lh (H7.out.scc cc)
     have C8:=lh (C7.out.setCell (p:=⟨g,35,none⟩) (by simp) (.int .i64 cc))
     replace N:=lh (N.out.other (p:=⟨g,35,none⟩) (.int .i64 cc) (by have:=GE.out;show g≠ge;omega))
     obtain ⟨w8,hW⟩:∃V,w7.setCell ⟨g,35,none⟩ (.int .i64 cc)=V:=⟨_,rfl⟩
     rw [hW] at H8 C8 N
     first | rw [hW] | simp only [hW]
     clear hW c35 f1 t1 H7 C7
     obtain ⟨rs9,p9,bs9,h9⟩:=H8.out.e
     have H9:=lh h9
     clear h9 H8
     have c0:w8.cell? ⟨g,0,none⟩=some (.int .i64 op):=H9.out.dr.m.cell (c:=0) rfl
     have t2:=N.out.cell (c:=2) rfl
     by_cases h223:op=223
     ·subst h223
      by_cases hk:0≤mk
      ·go_upto_region 17 with fail
       clear c0 t2 hk
       refine wp_region_held_drew (S:=fun W'=>Bk W' ge 205 [.slice A6 m6 c6,.int .i64 cc,.int .i64 mk]) (by kernel_rfl) (N.out.drewN 1) (fun hHeld=>?_)
       replace H9:=lh H9.out.drew
       have C9:=lh C8.out.drew'
       obtain ⟨y0,hv⟩:∃V,w8.drew=V:=⟨_,rfl⟩
       rw [hv] at H9 C9 hHeld ⊢
       clear hv
       obtain ⟨q0,e0⟩:∃x,rs9.getD 1 0=x:=⟨_,rfl⟩
       obtain ⟨q1,e1⟩:∃x,bits .andNot .u32 q0 16777215=x:=⟨_,rfl⟩
       obtain ⟨q2,e2⟩:∃x,IntKind.i64.wrap ((a:Int)+mk)=x:=⟨_,rfl⟩
       obtain ⟨q3,e3⟩:∃x,IntKind.u32.wrap q2=x:=⟨_,rfl⟩
       obtain ⟨q4,e4⟩:∃x,bits .and .u32 q3 16777215=x:=⟨_,rfl⟩
       obtain ⟨q5,e5⟩:∃x,bits .or .u32 q1 q4=x:=⟨_,rfl⟩
       have Q5:=lh (e5▸bits_u32 .or q1 q4:0≤q5∧q5≤4294967295)
       refine tki 0 ?_
       refine tki 1 ?_
       refine tki 2 ?_
       refine tki 3 ?_
       refine tki 4 (v:=.pointer (some ⟨g,13,none⟩)) ?_
       refine tki 7 ?_
       refine tki 8 ?_
       refine tki 9 (v:=.int .i64 mk) ?_ (y:=by (intro W' hSw;have c1:=hSw.cell (c:=2) rfl;go_simp;(try with_reducible rfl)))
       refine tki 10 (v:=.int .i64 q2) ?_
       refine tki 11 (v:=.int .u32 q3) ?_
       refine tki 12 (v:=.int .u32 q4) ?_
       refine tki 14 ?_
       refine tki 15 ?_
       have cg:y0.cell? ⟨g,13,none⟩=some (.int .u32 q0):=e0▸H9.out.cr (r:=1) (by omega)
       have fg:=H9.out.dr.m.free
       refine tkv (i:=5) (v:=.int .u32 q0) ?_
       refine tki 6 (v:=.int .u32 q1) ?_
       refine tki 13 (v:=.int .u32 q5) ?_
       refine tki 16 (v:=.pointer (some ⟨g,13,none⟩)) ?_
       refine tkw (w1:=y0.setCell ⟨g,13,none⟩ (.int .u32 q5)) (R:=fun W'=>(DE w0 W' g F [223,fm,r1,r2,x2,b1,d1,b2,d2,l1,l2,i2] ks k P W z∧Ch w W' [g,F.gb])∧Bk W' ge 205 [.slice A6 m6 c6,.int .i64 cc,.int .i64 mk]) ⟨⟨(H9.out.sr (n:=1) (by omega) Q5.out).e,C9.out.setCell (p:=⟨g,13,none⟩) (by simp) _⟩,hHeld.other _ (by have:=GE.out;show g≠ge;omega)⟩ (fun _ h=>h.2) ?_
       clear cg fg hHeld
       intro y1 Z hHeld
       refine wpAnyH_done (by with_unfolding_all rfl) ?_ _
       clear hHeld
       go_wp2
       go_end0
       exact .inl ⟨_,rfl,rfl,Z.out.1.1,Z.out.1.2⟩
      ·go_wp2
       go_end0
       exact .inl ⟨_,rfl,rfl,H9.out.e,C8.out⟩
     ·have e9:(op == 223)=false:=by rw [beq_eq_false_iff_ne];exact h223
      clear h223
      go_wp2
      go_end0
      exact .inl ⟨_,rfl,rfl,H9.out.e,C8.out⟩
  ·have e1:¬(j:Int)<(n:Int):=by omega
   clear hlt
   obtain ⟨pb,pc,zp,rfl,hp⟩:=V1.out
   obtain ⟨A,cap,rfl,hA⟩:=own_shape SO.out.1
   have YP:=lh ((hp.below B1.out fun g e=>(hp.1.lt g e).2).byt)
   have YS:=lh SO.out.1.byt
   have MS:=lh (show m≤100000 by have:=SO.out.2;have:=HJ.out;have:=HN.out;omega)
   have H2:=lh (H1.out.keep B1.out)
   have C2:=lh (C1.out.trans (Ch.of_below B1.out _))
   clear hp hA SO HJ
   go_upto_region 10 with fail
   refine wp_region_lit ?_
   iterate 2 refine lsv (w':=W1) ?_
   refine lsce (edit_w n pb pc HN.out zp A m cap MS.out ys W1 YP.out YS.out) ?_
   intro vv v1 Z
   obtain ⟨⟨tx,cc,mk,ce,rfl,m6,ys6,ho6,hm6⟩,hb⟩:=Z.out
   obtain ⟨A6,c6,rfl,-⟩:=own_shape ho6
   have H3:=lh (H2.out.keep hb)
   have C3:=lh (C2.out.trans (Ch.of_below hb _))
   have S3:=lh (show SlV 1000 W1.heap.size v1 (.slice A6 m6 c6) from ⟨m6,ys6,ho6,by omega⟩)
   clear Z ho6 hm6 hb YP YS MS H2 C2 V1 H1 C1 D1 B1 A2
   iterate 3 refine lsv (w':=v1) ?_
   refine lsv (v:=.pointer (some ⟨v1.heap.size,0,none⟩)) (w':=v1.alloc (.cells #[.slice none 0 0,.int .i64 0,.int .i64 0] 205)) ?_
   have N4:=Bk.new v1 [.slice none 0 0,.int .i64 0,.int .i64 0] 205
   refine lss (cs':=[.slice A6 m6 c6,.int .i64 cc,.int .i64 mk]) N4 rfl (by simp [Value.oneCell']) (by kernel_rfl) ?_
   have N5:=N4.rowSet [.slice A6 m6 c6,.int .i64 cc,.int .i64 mk]
   have al:=below_row ((Below.refl v1.heap.size v1).alloc (Nat.le_refl _) (.cells #[.slice none 0 0,.int .i64 0,.int .i64 0] 205)) (Nat.le_refl v1.heap.size) ([.slice A6 m6 c6,.int .i64 cc,.int .i64 mk]:List Value).toArray
   obtain ⟨w5,hW⟩:∃V,(v1.alloc (.cells #[.slice none 0 0,.int .i64 0,.int .i64 0] 205)).setRow v1.heap.size ([.slice A6 m6 c6,.int .i64 cc,.int .i64 mk]:List Value).toArray=V:=⟨_,rfl⟩
   have hW2:(v1.alloc (.cells #[.slice none 0 0,.int .i64 0,.int .i64 0] 205)).setRow v1.heap.size #[.slice A6 m6 c6,.int .i64 cc,.int .i64 mk]=w5:=hW
   rw [hW] at N5 al
   first | rw [hW] | simp only [hW2] | rw [hW2]
   have H5:=lh (H3.out.keep al)
   have C5:=lh (C3.out.trans (Ch.of_below al _))
   have S5:=lh (S3.out.keep al)
   have GE:=lh (show g<v1.heap.size∧F.gb<v1.heap.size from ⟨Nat.lt_of_lt_of_le H3.out.nn.1 H3.out.sz,Nat.lt_of_lt_of_le H3.out.nn.2.1 H3.out.sz⟩)
   obtain ⟨ge,hge⟩:∃b,v1.heap.size=b:=⟨_,rfl⟩
   rw [hge] at N5 GE
   try simp only [hge]
   have N:=lh N5
   clear hW hW2 al hge H3 C3 S3 N4 N5
   refine lsv (w':=w5) ?_
   refine wpList_nil ?_
   by_cases h5:ce=5
   ·subst h5
    go_upto_region 13 with fail
    refine wp_region_lit ?_
    refine lsv (w':=w5) ?_
    refine lsd (check_w _ w5) (by intro c w' hB;obtain rfl:=hB;exact ⟨rfl,.inr ⟨c,rfl,H5.out.e,C5.out⟩⟩) ?_
    intro vv w6 Z
    obtain ⟨rfl,-,rfl⟩:=Z.out
    clear Z
    refine wpList_nil ?_
    have t0:=N.out.cell (c:=0) rfl
    go_upto_region 14 with fail
    refine wp_region_lit ?_
    iterate 3 refine lsv (w':=w5) ?_
    refine lsv (v:=.slice A6 m6 c6) (w':=w5) ?_
    clear t0
    refine lsd (dput_w H5.out S5.out (by omega)) (by intro c w' hB;obtain ⟨⟨b',h1⟩,h2⟩:=hB;exact ⟨rfl,.inr ⟨c,rfl,h1.e,C5.out.trans (h2.mono (by simp))⟩⟩) ?_
    intro vv w7 Z
    obtain ⟨rfl,⟨bs',h1⟩,h2⟩:=Z.out
    have H7:=lh h1
    have C7:=lh (C5.out.trans (h2.mono (by simp)))
    replace N:=lh (N.out.ch h2 (by have:=GE.out;simp;omega))
    clear Z h1 h2 H5 C5 S5
    refine wpList_nil ?_
    have c35:=H7.out.c35
    have f1:=H7.out.dr.m.free
    have t1:=N.out.cell (c:=1) rfl
    go_upto_region 15 with fail
    refine wp_region_lit ?_
    iterate 2 refine lsv (w':=w7) ?_
    refine lsv (v:=.int .i64 cc) (w':=w7) ?_
    iterate 3 refine lsv (w':=w7) ?_
    refine lsk (w':=w7.setCell ⟨g,35,none⟩ (.int .i64 cc)) (by unfold execOp;go_simp;(try rfl)) ?_
    refine wpList_nil ?_
    have H8:=lh (H7.out.scc cc)
    have C8:=lh (C7.out.setCell (p:=⟨g,35,none⟩) (by simp) (.int .i64 cc))
    replace N:=lh (N.out.other (p:=⟨g,35,none⟩) (.int .i64 cc) (by have:=GE.out;show g≠ge;omega))
    obtain ⟨w8,hW⟩:∃V,w7.setCell ⟨g,35,none⟩ (.int .i64 cc)=V:=⟨_,rfl⟩
    rw [hW] at H8 C8 N
    first | rw [hW] | simp only [hW]
    clear hW c35 f1 t1 H7 C7
    obtain ⟨rs9,p9,bs9,h9⟩:=H8.out.e
    have H9:=lh h9
    clear h9 H8
    have c0:w8.cell? ⟨g,0,none⟩=some (.int .i64 op):=H9.out.dr.m.cell (c:=0) rfl
    have t2:=N.out.cell (c:=2) rfl
    by_cases h223:op=223
    ·subst h223
     by_cases hk:0≤mk
     ·go_upto_region 17 with fail
      clear c0 t2 hk
      refine wp_region_held_drew (S:=fun W'=>Bk W' ge 205 [.slice A6 m6 c6,.int .i64 cc,.int .i64 mk]) (by kernel_rfl) (N.out.drewN 1) (fun hHeld=>?_)
      replace H9:=lh H9.out.drew
      have C9:=lh C8.out.drew'
      obtain ⟨y0,hv⟩:∃V,w8.drew=V:=⟨_,rfl⟩
      rw [hv] at H9 C9 hHeld ⊢
      clear hv
      obtain ⟨q0,e0⟩:∃x,rs9.getD 1 0=x:=⟨_,rfl⟩
      obtain ⟨q1,e1⟩:∃x,bits .andNot .u32 q0 16777215=x:=⟨_,rfl⟩
      obtain ⟨q2,e2⟩:∃x,IntKind.i64.wrap ((a:Int)+mk)=x:=⟨_,rfl⟩
      obtain ⟨q3,e3⟩:∃x,IntKind.u32.wrap q2=x:=⟨_,rfl⟩
      obtain ⟨q4,e4⟩:∃x,bits .and .u32 q3 16777215=x:=⟨_,rfl⟩
      obtain ⟨q5,e5⟩:∃x,bits .or .u32 q1 q4=x:=⟨_,rfl⟩
      have Q5:=lh (e5▸bits_u32 .or q1 q4:0≤q5∧q5≤4294967295)
      refine tki 0 ?_
      refine tki 1 ?_
      refine tki 2 ?_
      refine tki 3 ?_
      refine tki 4 (v:=.pointer (some ⟨g,13,none⟩)) ?_
      refine tki 7 ?_
      refine tki 8 ?_
      refine tki 9 (v:=.int .i64 mk) ?_ (y:=by (intro W' hSw;have c1:=hSw.cell (c:=2) rfl;go_simp;(try with_reducible rfl)))
      refine tki 10 (v:=.int .i64 q2) ?_
      refine tki 11 (v:=.int .u32 q3) ?_
      refine tki 12 (v:=.int .u32 q4) ?_
      refine tki 14 ?_
      refine tki 15 ?_
      have cg:y0.cell? ⟨g,13,none⟩=some (.int .u32 q0):=e0▸H9.out.cr (r:=1) (by omega)
      have fg:=H9.out.dr.m.free
      refine tkv (i:=5) (v:=.int .u32 q0) ?_
      refine tki 6 (v:=.int .u32 q1) ?_
      refine tki 13 (v:=.int .u32 q5) ?_
      refine tki 16 (v:=.pointer (some ⟨g,13,none⟩)) ?_
      refine tkw (w1:=y0.setCell ⟨g,13,none⟩ (.int .u32 q5)) (R:=fun W'=>(DE w0 W' g F [223,fm,r1,r2,x2,b1,d1,b2,d2,l1,l2,i2] ks k P W z∧Ch w W' [g,F.gb])∧Bk W' ge 205 [.slice A6 m6 c6,.int .i64 cc,.int .i64 mk]) ⟨⟨(H9.out.sr (n:=1) (by omega) Q5.out).e,C9.out.setCell (p:=⟨g,13,none⟩) (by simp) _⟩,hHeld.other _ (by have:=GE.out;show g≠ge;omega)⟩ (fun _ h=>h.2) ?_
      clear cg fg hHeld
      intro y1 Z hHeld
      refine wpAnyH_done (by with_unfolding_all rfl) ?_ _
      clear hHeld
      go_wp2
      go_end0
      exact .inl ⟨_,rfl,rfl,Z.out.1.1,Z.out.1.2⟩
     ·go_wp2
      go_end0
      exact .inl ⟨_,rfl,rfl,H9.out.e,C8.out⟩
    ·have e9:(op == 223)=false:=by rw [beq_eq_false_iff_ne];exact h223
     clear h223
     go_wp2
     go_end0
     exact .inl ⟨_,rfl,rfl,H9.out.e,C8.out⟩
   ·have e5:(ce == 5)=false:=by rw [beq_eq_false_iff_ne];exact h5
    clear h5
    go_upto_region 13 with fail
    refine wp_region_lit ?_
    refine lsv (w':=w5) ?_
    refine lsd (check_w _ w5) (by intro c w' hB;obtain rfl:=hB;exact ⟨rfl,.inr ⟨c,rfl,H5.out.e,C5.out⟩⟩) ?_
    intro vv w6 Z
    obtain ⟨rfl,-,rfl⟩:=Z.out
    clear Z
    refine wpList_nil ?_
    have t0:=N.out.cell (c:=0) rfl
    go_upto_region 14 with fail
    refine wp_region_lit ?_
    iterate 3 refine lsv (w':=w5) ?_
    refine lsv (v:=.slice A6 m6 c6) (w':=w5) ?_
    clear t0
    refine lsd (dput_w H5.out S5.out (by omega)) (by intro c w' hB;obtain ⟨⟨b',h1⟩,h2⟩:=hB;exact ⟨rfl,.inr ⟨c,rfl,h1.e,C5.out.trans (h2.mono (by simp))⟩⟩) ?_
    intro vv w7 Z
    obtain ⟨rfl,⟨bs',h1⟩,h2⟩:=Z.out
    have H7:=lh h1
    have C7:=lh (C5.out.trans (h2.mono (by simp)))
    replace N:=lh (N.out.ch h2 (by have:=GE.out;simp;omega))
    clear Z h1 h2 H5 C5 S5
    refine wpList_nil ?_
    have c35:=H7.out.c35
    have f1:=H7.out.dr.m.free
    have t1:=N.out.cell (c:=1) rfl
    go_upto_region 15 with fail
    refine wp_region_lit ?_
    iterate 2 refine lsv (w':=w7) ?_
    refine lsv (v:=.int .i64 cc) (w':=w7) ?_
    iterate 3 refine lsv (w':=w7) ?_
    refine lsk (w':=w7.setCell ⟨g,35,none⟩ (.int .i64 cc)) (by unfold execOp;go_simp;(try rfl)) ?_
    refine wpList_nil ?_
    have H8:=lh (H7.out.scc cc)
    have C8:=lh (C7.out.setCell (p:=⟨g,35,none⟩) (by simp) (.int .i64 cc))
    replace N:=lh (N.out.other (p:=⟨g,35,none⟩) (.int .i64 cc) (by have:=GE.out;show g≠ge;omega))
    obtain ⟨w8,hW⟩:∃V,w7.setCell ⟨g,35,none⟩ (.int .i64 cc)=V:=⟨_,rfl⟩
    rw [hW] at H8 C8 N
    first | rw [hW] | simp only [hW]
    clear hW c35 f1 t1 H7 C7
    obtain ⟨rs9,p9,bs9,h9⟩:=H8.out.e
    have H9:=lh h9
    clear h9 H8
    have c0:w8.cell? ⟨g,0,none⟩=some (.int .i64 op):=H9.out.dr.m.cell (c:=0) rfl
    have t2:=N.out.cell (c:=2) rfl
    by_cases h223:op=223
    ·subst h223
     by_cases hk:0≤mk
     ·go_upto_region 17 with fail
      clear c0 t2 hk
      refine wp_region_held_drew (S:=fun W'=>Bk W' ge 205 [.slice A6 m6 c6,.int .i64 cc,.int .i64 mk]) (by kernel_rfl) (N.out.drewN 1) (fun hHeld=>?_)
      replace H9:=lh H9.out.drew
      have C9:=lh C8.out.drew'
      obtain ⟨y0,hv⟩:∃V,w8.drew=V:=⟨_,rfl⟩
      rw [hv] at H9 C9 hHeld ⊢
      clear hv
      obtain ⟨q0,e0⟩:∃x,rs9.getD 1 0=x:=⟨_,rfl⟩
      obtain ⟨q1,e1⟩:∃x,bits .andNot .u32 q0 16777215=x:=⟨_,rfl⟩
      obtain ⟨q2,e2⟩:∃x,IntKind.i64.wrap ((a:Int)+mk)=x:=⟨_,rfl⟩
      obtain ⟨q3,e3⟩:∃x,IntKind.u32.wrap q2=x:=⟨_,rfl⟩
      obtain ⟨q4,e4⟩:∃x,bits .and .u32 q3 16777215=x:=⟨_,rfl⟩
      obtain ⟨q5,e5⟩:∃x,bits .or .u32 q1 q4=x:=⟨_,rfl⟩
      have Q5:=lh (e5▸bits_u32 .or q1 q4:0≤q5∧q5≤4294967295)
      refine tki 0 ?_
      refine tki 1 ?_
      refine tki 2 ?_
      refine tki 3 ?_
      refine tki 4 (v:=.pointer (some ⟨g,13,none⟩)) ?_
      refine tki 7 ?_
      refine tki 8 ?_
      refine tki 9 (v:=.int .i64 mk) ?_ (y:=by (intro W' hSw;have c1:=hSw.cell (c:=2) rfl;go_simp;(try with_reducible rfl)))
      refine tki 10 (v:=.int .i64 q2) ?_
      refine tki 11 (v:=.int .u32 q3) ?_
      refine tki 12 (v:=.int .u32 q4) ?_
      refine tki 14 ?_
      refine tki 15 ?_
      have cg:y0.cell? ⟨g,13,none⟩=some (.int .u32 q0):=e0▸H9.out.cr (r:=1) (by omega)
      have fg:=H9.out.dr.m.free
      refine tkv (i:=5) (v:=.int .u32 q0) ?_
      refine tki 6 (v:=.int .u32 q1) ?_
      refine tki 13 (v:=.int .u32 q5) ?_
      refine tki 16 (v:=.pointer (some ⟨g,13,none⟩)) ?_
      refine tkw (w1:=y0.setCell ⟨g,13,none⟩ (.int .u32 q5)) (R:=fun W'=>(DE w0 W' g F [223,fm,r1,r2,x2,b1,d1,b2,d2,l1,l2,i2] ks k P W z∧Ch w W' [g,F.gb])∧Bk W' ge 205 [.slice A6 m6 c6,.int .i64 cc,.int .i64 mk]) ⟨⟨(H9.out.sr (n:=1) (by omega) Q5.out).e,C9.out.setCell (p:=⟨g,13,none⟩) (by simp) _⟩,hHeld.other _ (by have:=GE.out;show g≠ge;omega)⟩ (fun _ h=>h.2) ?_
      clear cg fg hHeld
      intro y1 Z hHeld
      refine wpAnyH_done (by with_unfolding_all rfl) ?_ _
      clear hHeld
      go_wp2
      go_end0
      exact .inl ⟨_,rfl,rfl,Z.out.1.1,Z.out.1.2⟩
     ·go_wp2
      go_end0
      exact .inl ⟨_,rfl,rfl,H9.out.e,C8.out⟩
    ·have e9:(op == 223)=false:=by rw [beq_eq_false_iff_ne];exact h223
     clear h223
     go_wp2
     go_end0
     exact .inl ⟨_,rfl,rfl,H9.out.e,C8.out⟩
end
section
variable {w0 w w':World} {g r n m:Nat} {F:Foot} {rs:List Int} {p:Ps} {bs ks z:List Int} {fm r2 x2 b1 d1 b2 d2 l1 l2 i2 k:Int} {P W:Bool}
theorem unpack_w (n L b cap:Nat) (hn:1≤n∧n≤16) (hL:1≤L∧L≤16) (zs:List Int) (w:World) (hy:Byt w (some ⟨b,0,none⟩) L zs):Calls Tryz.prog 89 #[.slice (some ⟨b,0,none⟩) L cap,.int .i64 (n:Int)] w fun e w'=>∃v,e=.returned v∧SlV 16 w.heap.size w' v∧Below w.heap.size w w':=
 (unpack_d n L b cap hn hL zs w hy).mono fun e w' ⟨v,he,ho,hb⟩=>⟨v,he,⟨n,_,ho,hn.2⟩,hb⟩
theorem dx_242 (h:DX w0 w g F [242,fm,(r:Int),r2,x2,b1,d1,b2,d2,l1,l2,i2] rs p bs ks k P W z) (hr:r<16) (h0:0≤b2∧b2<16) (h1:0≤x2∧x2<16) (hd:0≤d2∧d2<4096) (h2:0≤b1∧b1<16) (h3:0≤d1∧d1<4096) (hl:l1+1=(n:Int)) (hm:l2+1=(m:Int)) (hn:1≤n∧n≤16) (hm2:1≤m∧m≤16):Calls Tryz.prog 69 #[.pointer (some ⟨g,0,none⟩)] w (Dz (fun v w'=>I6V v∧DE w0 w' g F [242,fm,(r:Int),r2,x2,b1,d1,b2,d2,l1,l2,i2] ks k P W z∧Ch w w' [g,F.gb]) (fun w'=>DE w0 w' g F [242,fm,(r:Int),r2,x2,b1,d1,b2,d2,l1,l2,i2] ks k P W z∧Ch w w' [g,F.gb])):=by
 have N1:=lh hn
 have N2:=lh hm2
 have L1:=lh hl
 have L2:=lh hm
 have RR:=lh hr
 have HB:=lh (⟨h0,h1,hd,h2,h3⟩:(0≤b2∧b2<16)∧(0≤x2∧x2<16)∧(0≤d2∧d2<4096)∧(0≤b1∧b1<16)∧(0≤d1∧d1<4096))
 have hw1:IntKind.i64.wrap (l1+1)=(n:Int):=by rw [hl];exact wrap_i64_id (by omega) (by omega)
 have hw2:IntKind.i64.wrap (l2+1)=(m:Int):=by rw [hm];exact wrap_i64_id (by omega) (by omega)
 have H:=lh h
 clear h hr h0 h1 hd h2 h3 hl hm hn hm2
 go_enter Tryz.func69,Tryz.ntmps69
 go_upto_region 1 with fail
 refine wp_region_held_drew (S:=fun W=>∃b,DR W W g F [242,fm,(r:Int),r2,x2,b1,d1,b2,d2,l1,l2,i2] rs p b ks∧True) (by kernel_rfl) ⟨_,H.out.drew.dr,trivial⟩ (fun hHeld=>?_)
 have C:=lh (show Ch w w.drew [g,F.gb] from (Ch.refl _ _).drew')
 replace H:=lh H.out.drew
 obtain ⟨v0,hv⟩:∃V,w.drew=V:=⟨_,rfl⟩
 rw [hv] at H C hHeld ⊢
 clear hv
 repeat refine tkd ?_
 refine wpAnyH_done (by with_unfolding_all rfl) ?_ _
 clear hHeld hw1 hw2
 have c0:v0.cell? ⟨g,0,none⟩=some (.int .i64 242):=H.out.dr.m.cell (c:=0) rfl
 go_upto_region 13 with fail
 clear c0
 refine wp_region_lit ?_
 iterate 2 refine lsv (w':=v0) ?_
 refine lsce (da1_w H.out.dr H.out.ro HB.out.2.2.2.1 HB.out.2.2.2.2) ?_
 intro vv y1 Z
 obtain ⟨⟨a,-,rfl⟩,hb⟩:=Z.out
 replace C:=lh (C.out.trans (Ch.of_below hb _))
 replace H:=lh (H.out.keep hb)
 clear Z hb
 refine lsv (w':=y1) ?_
 refine lsd (dsecond_w (n:=m) H.out.dr H.out.ro HB.out.1 HB.out.2.1 HB.out.2.2.1 L2.out (by have:=N2.out;omega)) (by intro c w' hB;exact ⟨rfl,.inr ⟨c,rfl,(H.out.keep hB).e,C.out.trans (Ch.of_below hB _)⟩⟩) ?_
 intro vv y2 Z
 obtain ⟨⟨bb,cb,zb,rfl,ob⟩,hb⟩:=Z.out
 replace C:=lh (C.out.trans (Ch.of_below hb _))
 replace H:=lh (H.out.keep hb)
 clear Z hb
 refine lsv (w':=y2) ?_
 have YB:=ob.byt
 refine lsce (pack_w m bb cb n N2.out N1.out zb _ YB) ?_
 intro vv y3 Z
 obtain ⟨hv,hb⟩:=Z.out
 replace C:=lh (C.out.trans (Ch.of_below hb _))
 replace H:=lh (H.out.keep hb)
 clear Z hb
 have V:=lh (hv)
 clear hv
 refine lsd (dput_w H.out (V.out.mono (show _≤1000 by omega)) (by omega)) (by intro c w' hB;obtain ⟨⟨b',h1⟩,h2⟩:=hB;exact ⟨rfl,.inr ⟨c,rfl,h1.e,C.out.trans (h2.mono (by simp))⟩⟩) ?_
 intro vv y4 Z
 obtain ⟨rfl,⟨bs',h1⟩,h2⟩:=Z.out
 replace C:=lh (C.out.trans (h2.mono (by simp)))
 clear H
 have H:=lh h1
 clear Z h1 h2
 refine wpList_nil ?_
 go_wp2
 go_ret
 exact .inl ⟨_,rfl,⟨_,rfl⟩,H.out.e,C.out⟩
theorem dx_243 (h:DX w0 w g F [243,fm,(r:Int),r2,x2,b1,d1,b2,d2,l1,l2,i2] rs p bs ks k P W z) (hr:r<16) (h0:0≤b2∧b2<16) (h1:0≤x2∧x2<16) (hd:0≤d2∧d2<4096) (h2:0≤b1∧b1<16) (h3:0≤d1∧d1<4096) (hl:l1+1=(n:Int)) (hm:l2+1=(m:Int)) (hn:1≤n∧n≤16) (hm2:1≤m∧m≤16):Calls Tryz.prog 69 #[.pointer (some ⟨g,0,none⟩)] w (Dz (fun v w'=>I6V v∧DE w0 w' g F [243,fm,(r:Int),r2,x2,b1,d1,b2,d2,l1,l2,i2] ks k P W z∧Ch w w' [g,F.gb]) (fun w'=>DE w0 w' g F [243,fm,(r:Int),r2,x2,b1,d1,b2,d2,l1,l2,i2] ks k P W z∧Ch w w' [g,F.gb])):=by
 have N1:=lh hn
 have N2:=lh hm2
 have L1:=lh hl
 have L2:=lh hm
 have RR:=lh hr
 have HB:=lh (⟨h0,h1,hd,h2,h3⟩:(0≤b2∧b2<16)∧(0≤x2∧x2<16)∧(0≤d2∧d2<4096)∧(0≤b1∧b1<16)∧(0≤d1∧d1<4096))
 have hw1:IntKind.i64.wrap (l1+1)=(n:Int):=by rw [hl];exact wrap_i64_id (by omega) (by omega)
 have hw2:IntKind.i64.wrap (l2+1)=(m:Int):=by rw [hm];exact wrap_i64_id (by omega) (by omega)
 have H:=lh h
 clear h hr h0 h1 hd h2 h3 hl hm hn hm2
 go_enter Tryz.func69,Tryz.ntmps69
 go_upto_region 1 with fail
 refine wp_region_held_drew (S:=fun W=>∃b,DR W W g F [243,fm,(r:Int),r2,x2,b1,d1,b2,d2,l1,l2,i2] rs p b ks∧True) (by kernel_rfl) ⟨_,H.out.drew.dr,trivial⟩ (fun hHeld=>?_)
 have C:=lh (show Ch w w.drew [g,F.gb] from (Ch.refl _ _).drew')
 replace H:=lh H.out.drew
 obtain ⟨v0,hv⟩:∃V,w.drew=V:=⟨_,rfl⟩
 rw [hv] at H C hHeld ⊢
 clear hv
 repeat refine tkd ?_
 refine wpAnyH_done (by with_unfolding_all rfl) ?_ _
 clear hHeld hw1 hw2
 have c0:v0.cell? ⟨g,0,none⟩=some (.int .i64 243):=H.out.dr.m.cell (c:=0) rfl
 go_upto_region 15 with fail
 clear c0
 refine wp_region_lit ?_
 iterate 2 refine lsv (w':=v0) ?_
 refine lsce (da1_w H.out.dr H.out.ro HB.out.2.2.2.1 HB.out.2.2.2.2) ?_
 intro vv y1 Z
 obtain ⟨⟨a,-,rfl⟩,hb⟩:=Z.out
 replace C:=lh (C.out.trans (Ch.of_below hb _))
 replace H:=lh (H.out.keep hb)
 clear Z hb
 refine lsv (w':=y1) ?_
 refine lsd (dsecond_w (n:=m) H.out.dr H.out.ro HB.out.1 HB.out.2.1 HB.out.2.2.1 L2.out (by have:=N2.out;omega)) (by intro c w' hB;exact ⟨rfl,.inr ⟨c,rfl,(H.out.keep hB).e,C.out.trans (Ch.of_below hB _)⟩⟩) ?_
 intro vv y2 Z
 obtain ⟨⟨bb,cb,zb,rfl,ob⟩,hb⟩:=Z.out
 replace C:=lh (C.out.trans (Ch.of_below hb _))
 replace H:=lh (H.out.keep hb)
 clear Z hb
 refine lsv (w':=y2) ?_
 have YB:=ob.byt
 refine lsce (unpack_w n m bb cb N1.out N2.out zb _ YB) ?_
 intro vv y3 Z
 obtain ⟨hv,hb⟩:=Z.out
 replace C:=lh (C.out.trans (Ch.of_below hb _))
 replace H:=lh (H.out.keep hb)
 clear Z hb
 have V:=lh (hv)
 clear hv
 refine lsd (dput_w H.out (V.out.mono (show _≤1000 by omega)) (by omega)) (by intro c w' hB;obtain ⟨⟨b',h1⟩,h2⟩:=hB;exact ⟨rfl,.inr ⟨c,rfl,h1.e,C.out.trans (h2.mono (by simp))⟩⟩) ?_
 intro vv y4 Z
 obtain ⟨rfl,⟨bs',h1⟩,h2⟩:=Z.out
 replace C:=lh (C.out.trans (h2.mono (by simp)))
 clear H
 have H:=lh h1
 clear Z h1 h2
 refine wpList_nil ?_
 go_wp2
 go_ret
 exact .inl ⟨_,rfl,⟨_,rfl⟩,H.out.e,C.out⟩
theorem dx_241 (h:DX w0 w g F [241,fm,(r:Int),r2,x2,b1,d1,b2,d2,l1,l2,i2] rs p bs ks k P W z) (hr:r<16) (h0:0≤b2∧b2<16) (h1:0≤x2∧x2<16) (hd:0≤d2∧d2<4096) (h2:0≤b1∧b1<16) (h3:0≤d1∧d1<4096) (hl:l1+1=(n:Int)) (hm:l2+1=(m:Int)) (hn:1≤n∧n≤16) (hm2:1≤m∧m≤16):Calls Tryz.prog 69 #[.pointer (some ⟨g,0,none⟩)] w (Dz (fun v w'=>I6V v∧DE w0 w' g F [241,fm,(r:Int),r2,x2,b1,d1,b2,d2,l1,l2,i2] ks k P W z∧Ch w w' [g,F.gb]) (fun w'=>DE w0 w' g F [241,fm,(r:Int),r2,x2,b1,d1,b2,d2,l1,l2,i2] ks k P W z∧Ch w w' [g,F.gb])):=by
 have N1:=lh hn
 have N2:=lh hm2
 have L1:=lh hl
 have L2:=lh hm
 have RR:=lh hr
 have HB:=lh (⟨h0,h1,hd,h2,h3⟩:(0≤b2∧b2<16)∧(0≤x2∧x2<16)∧(0≤d2∧d2<4096)∧(0≤b1∧b1<16)∧(0≤d1∧d1<4096))
 have hw1:IntKind.i64.wrap (l1+1)=(n:Int):=by rw [hl];exact wrap_i64_id (by omega) (by omega)
 have hw2:IntKind.i64.wrap (l2+1)=(m:Int):=by rw [hm];exact wrap_i64_id (by omega) (by omega)
 have H:=lh h
 clear h hr h0 h1 hd h2 h3 hl hm hn hm2
 go_enter Tryz.func69,Tryz.ntmps69
 go_upto_region 1 with fail
 refine wp_region_held_drew (S:=fun W=>∃b,DR W W g F [241,fm,(r:Int),r2,x2,b1,d1,b2,d2,l1,l2,i2] rs p b ks∧True) (by kernel_rfl) ⟨_,H.out.drew.dr,trivial⟩ (fun hHeld=>?_)
 have C:=lh (show Ch w w.drew [g,F.gb] from (Ch.refl _ _).drew')
 replace H:=lh H.out.drew
 obtain ⟨v0,hv⟩:∃V,w.drew=V:=⟨_,rfl⟩
 rw [hv] at H C hHeld ⊢
 clear hv
 repeat refine tkd ?_
 refine wpAnyH_done (by with_unfolding_all rfl) ?_ _
 clear hHeld hw1 hw2
 have c0:v0.cell? ⟨g,0,none⟩=some (.int .i64 241):=H.out.dr.m.cell (c:=0) rfl
 go_upto_region 17 with fail
 clear c0
 refine wp_region_lit ?_
 iterate 2 refine lsv (w':=v0) ?_
 refine lsce (da1_w H.out.dr H.out.ro HB.out.2.2.2.1 HB.out.2.2.2.2) ?_
 intro vv y1 Z
 obtain ⟨⟨a,-,rfl⟩,hb⟩:=Z.out
 replace C:=lh (C.out.trans (Ch.of_below hb _))
 replace H:=lh (H.out.keep hb)
 clear Z hb
 refine lsv (w':=y1) ?_
 refine lsd (dboth_w (n:=n) (m:=m) H.out.dr H.out.ro HB.out.1 HB.out.2.1 HB.out.2.2.1 HB.out.2.2.2.1 HB.out.2.2.2.2 L1.out L2.out (by have:=N1.out;omega) (by have:=N2.out;omega)) (by intro c w' hB;exact ⟨rfl,.inr ⟨c,rfl,(H.out.keep hB).e,C.out.trans (Ch.of_below hB _)⟩⟩) ?_
 intro vv y2 Z
 obtain ⟨⟨_,_,rfl,⟨ba,ca,za,rfl,oa⟩,⟨bb,cb,zb,rfl,ob⟩⟩,hb⟩:=Z.out
 replace C:=lh (C.out.trans (Ch.of_below hb _))
 replace H:=lh (H.out.keep hb)
 clear Z hb
 iterate 2 refine lsv (w':=y2) ?_
 have YA:=oa.byt
 have YB:=ob.byt
 refine lsce (offset_w n ba ca m bb cb N1.out N2.out za zb _ YA YB) ?_
 intro vv y3 Z
 obtain ⟨hv,hb⟩:=Z.out
 replace C:=lh (C.out.trans (Ch.of_below hb _))
 replace H:=lh (H.out.keep hb)
 clear Z hb
 have V:=lh (hv)
 clear hv
 refine lsd (dput_w H.out (V.out.mono (show _≤1000 by omega)) (by omega)) (by intro c w' hB;obtain ⟨⟨b',h1⟩,h2⟩:=hB;exact ⟨rfl,.inr ⟨c,rfl,h1.e,C.out.trans (h2.mono (by simp))⟩⟩) ?_
 intro vv y4 Z
 obtain ⟨rfl,⟨bs',h1⟩,h2⟩:=Z.out
 replace C:=lh (C.out.trans (h2.mono (by simp)))
 clear H
 have H:=lh h1
 clear Z h1 h2
 refine wpList_nil ?_
 go_wp2
 go_ret
 exact .inl ⟨_,rfl,⟨_,rfl⟩,H.out.e,C.out⟩
theorem dx_248 (h:DX w0 w g F [248,fm,(r:Int),r2,x2,b1,d1,b2,d2,l1,l2,i2] rs p bs ks k P W z) (hr:r<16) (h0:0≤b2∧b2<16) (h1:0≤x2∧x2<16) (hd:0≤d2∧d2<4096) (h2:0≤b1∧b1<16) (h3:0≤d1∧d1<4096) (hl:l1+1=(n:Int)) (hm:l2+1=(m:Int)) (hn:1≤n∧n≤16) (hm2:1≤m∧m≤16):Calls Tryz.prog 69 #[.pointer (some ⟨g,0,none⟩)] w (Dz (fun v w'=>I6V v∧DE w0 w' g F [248,fm,(r:Int),r2,x2,b1,d1,b2,d2,l1,l2,i2] ks k P W z∧Ch w w' [g,F.gb]) (fun w'=>DE w0 w' g F [248,fm,(r:Int),r2,x2,b1,d1,b2,d2,l1,l2,i2] ks k P W z∧Ch w w' [g,F.gb])):=by
 have N1:=lh hn
 have N2:=lh hm2
 have L1:=lh hl
 have L2:=lh hm
 have RR:=lh hr
 have HB:=lh (⟨h0,h1,hd,h2,h3⟩:(0≤b2∧b2<16)∧(0≤x2∧x2<16)∧(0≤d2∧d2<4096)∧(0≤b1∧b1<16)∧(0≤d1∧d1<4096))
 have hw1:IntKind.i64.wrap (l1+1)=(n:Int):=by rw [hl];exact wrap_i64_id (by omega) (by omega)
 have hw2:IntKind.i64.wrap (l2+1)=(m:Int):=by rw [hm];exact wrap_i64_id (by omega) (by omega)
 have H:=lh h
 clear h hr h0 h1 hd h2 h3 hl hm hn hm2
 go_enter Tryz.func69,Tryz.ntmps69
 go_upto_region 1 with fail
 refine wp_region_held_drew (S:=fun W=>∃b,DR W W g F [248,fm,(r:Int),r2,x2,b1,d1,b2,d2,l1,l2,i2] rs p b ks∧True) (by kernel_rfl) ⟨_,H.out.drew.dr,trivial⟩ (fun hHeld=>?_)
 have C:=lh (show Ch w w.drew [g,F.gb] from (Ch.refl _ _).drew')
 replace H:=lh H.out.drew
 obtain ⟨v0,hv⟩:∃V,w.drew=V:=⟨_,rfl⟩
 rw [hv] at H C hHeld ⊢
 clear hv
 repeat refine tkd ?_
 refine wpAnyH_done (by with_unfolding_all rfl) ?_ _
 clear hHeld hw1 hw2
 have c0:v0.cell? ⟨g,0,none⟩=some (.int .i64 248):=H.out.dr.m.cell (c:=0) rfl
 go_upto_region 19 with fail
 clear c0
 refine wp_region_lit ?_
 iterate 3 refine lsv (w':=v0) ?_
 refine lsd (dsecond_w (n:=m) H.out.dr H.out.ro HB.out.1 HB.out.2.1 HB.out.2.2.1 L2.out (by have:=N2.out;omega)) (by intro c w' hB;exact ⟨rfl,.inr ⟨c,rfl,(H.out.keep hB).e,C.out.trans (Ch.of_below hB _)⟩⟩) ?_
 intro vv y1 Z
 obtain ⟨⟨bb,cb,zb,rfl,ob⟩,hb⟩:=Z.out
 replace C:=lh (C.out.trans (Ch.of_below hb _))
 replace H:=lh (H.out.keep hb)
 clear Z hb
 have YB:=ob.byt
 refine lsce (zap_w n N1.out m bb cb N2.out zb _ YB) ?_
 intro vv y2 Z
 obtain ⟨⟨v8,c8,k8,rfl,hv⟩,hb⟩:=Z.out
 replace C:=lh (C.out.trans (Ch.of_below hb _))
 replace H:=lh (H.out.keep hb)
 clear Z hb
 have V:=lh (hv)
 clear hv
 iterate 3 refine lsv (w':=y2) ?_
 refine lsd (dsum_w (cc:=c8) (cd:=k8) H.out HB.out.2.2.2.1 HB.out.2.2.2.2 (V.out.mono (show _≤1000 by omega))) (by intro c w' hB;exact ⟨rfl,.inr ⟨c,rfl,hB.1,C.out.trans hB.2⟩⟩) ?_
 intro vv y3 Z
 obtain ⟨⟨kk,rfl⟩,hE,hC⟩:=Z.out
 replace C:=lh (C.out.trans hC)
 have E:=lh hE
 clear Z hE hC
 refine lsv (w':=y3) ?_
 refine wpList_nil ?_
 go_wp2
 go_ret
 exact .inl ⟨_,rfl,⟨_,rfl⟩,E.out,C.out⟩
theorem dx_250 (h:DX w0 w g F [250,fm,(r:Int),r2,x2,b1,d1,b2,d2,l1,l2,i2] rs p bs ks k P W z) (hr:r<16) (h0:0≤b2∧b2<16) (h1:0≤x2∧x2<16) (hd:0≤d2∧d2<4096) (h2:0≤b1∧b1<16) (h3:0≤d1∧d1<4096) (hl:l1+1=(n:Int)) (hm:l2+1=(m:Int)) (hn:1≤n∧n≤16) (hm2:1≤m∧m≤16):Calls Tryz.prog 69 #[.pointer (some ⟨g,0,none⟩)] w (Dz (fun v w'=>I6V v∧DE w0 w' g F [250,fm,(r:Int),r2,x2,b1,d1,b2,d2,l1,l2,i2] ks k P W z∧Ch w w' [g,F.gb]) (fun w'=>DE w0 w' g F [250,fm,(r:Int),r2,x2,b1,d1,b2,d2,l1,l2,i2] ks k P W z∧Ch w w' [g,F.gb])):=by
 have N1:=lh hn
 have N2:=lh hm2
 have L1:=lh hl
 have L2:=lh hm
 have RR:=lh hr
 have HB:=lh (⟨h0,h1,hd,h2,h3⟩:(0≤b2∧b2<16)∧(0≤x2∧x2<16)∧(0≤d2∧d2<4096)∧(0≤b1∧b1<16)∧(0≤d1∧d1<4096))
 have hw1:IntKind.i64.wrap (l1+1)=(n:Int):=by rw [hl];exact wrap_i64_id (by omega) (by omega)
 have hw2:IntKind.i64.wrap (l2+1)=(m:Int):=by rw [hm];exact wrap_i64_id (by omega) (by omega)
 have H:=lh h
 clear h hr h0 h1 hd h2 h3 hl hm hn hm2
 go_enter Tryz.func69,Tryz.ntmps69
 go_upto_region 1 with fail
 refine wp_region_held_drew (S:=fun W=>∃b,DR W W g F [250,fm,(r:Int),r2,x2,b1,d1,b2,d2,l1,l2,i2] rs p b ks∧True) (by kernel_rfl) ⟨_,H.out.drew.dr,trivial⟩ (fun hHeld=>?_)
 have C:=lh (show Ch w w.drew [g,F.gb] from (Ch.refl _ _).drew')
 replace H:=lh H.out.drew
 obtain ⟨v0,hv⟩:∃V,w.drew=V:=⟨_,rfl⟩
 rw [hv] at H C hHeld ⊢
 clear hv
 repeat refine tkd ?_
 refine wpAnyH_done (by with_unfolding_all rfl) ?_ _
 clear hHeld hw1 hw2
 have c0:v0.cell? ⟨g,0,none⟩=some (.int .i64 250):=H.out.dr.m.cell (c:=0) rfl
 go_upto_region 21 with fail
 clear c0
 refine wp_region_lit ?_
 iterate 2 refine lsv (w':=v0) ?_
 refine lsd (dboth_w (n:=n) (m:=m) H.out.dr H.out.ro HB.out.1 HB.out.2.1 HB.out.2.2.1 HB.out.2.2.2.1 HB.out.2.2.2.2 L1.out L2.out (by have:=N1.out;omega) (by have:=N2.out;omega)) (by intro c w' hB;exact ⟨rfl,.inr ⟨c,rfl,(H.out.keep hB).e,C.out.trans (Ch.of_below hB _)⟩⟩) ?_
 intro vv y1 Z
 obtain ⟨⟨_,_,rfl,⟨ba,ca,za,rfl,oa⟩,⟨bb,cb,zb,rfl,ob⟩⟩,hb⟩:=Z.out
 replace C:=lh (C.out.trans (Ch.of_below hb _))
 replace H:=lh (H.out.keep hb)
 clear Z hb
 iterate 2 refine lsv (w':=y1) ?_
 have YA:=oa.byt
 have YB:=ob.byt
 refine lsce (dadd_w n ba ca m bb cb N1.out N2.out za zb _ YA YB H.out.tb (by have:=H.out.nn;have:=H.out.sz;omega)) ?_
 intro vv y2 Z
 obtain ⟨⟨v8,c8,k8,rfl,hv⟩,hb⟩:=Z.out
 replace C:=lh (C.out.trans (Ch.of_below hb _))
 replace H:=lh (H.out.keep hb)
 clear Z hb
 have V:=lh (hv)
 clear hv
 iterate 3 refine lsv (w':=y2) ?_
 refine lsd (dsum_w (cc:=c8) (cd:=k8) H.out HB.out.2.2.2.1 HB.out.2.2.2.2 (V.out.mono (show _≤1000 by omega))) (by intro c w' hB;exact ⟨rfl,.inr ⟨c,rfl,hB.1,C.out.trans hB.2⟩⟩) ?_
 intro vv y3 Z
 obtain ⟨⟨kk,rfl⟩,hE,hC⟩:=Z.out
 replace C:=lh (C.out.trans hC)
 have E:=lh hE
 clear Z hE hC
 refine lsv (w':=y3) ?_
 refine wpList_nil ?_
 go_wp2
 go_ret
 exact .inl ⟨_,rfl,⟨_,rfl⟩,E.out,C.out⟩
theorem dx_251 (h:DX w0 w g F [251,fm,(r:Int),r2,x2,b1,d1,b2,d2,l1,l2,i2] rs p bs ks k P W z) (hr:r<16) (h0:0≤b2∧b2<16) (h1:0≤x2∧x2<16) (hd:0≤d2∧d2<4096) (h2:0≤b1∧b1<16) (h3:0≤d1∧d1<4096) (hl:l1+1=(n:Int)) (hm:l2+1=(m:Int)) (hn:1≤n∧n≤16) (hm2:1≤m∧m≤16):Calls Tryz.prog 69 #[.pointer (some ⟨g,0,none⟩)] w (Dz (fun v w'=>I6V v∧DE w0 w' g F [251,fm,(r:Int),r2,x2,b1,d1,b2,d2,l1,l2,i2] ks k P W z∧Ch w w' [g,F.gb]) (fun w'=>DE w0 w' g F [251,fm,(r:Int),r2,x2,b1,d1,b2,d2,l1,l2,i2] ks k P W z∧Ch w w' [g,F.gb])):=by
 have N1:=lh hn
 have N2:=lh hm2
 have L1:=lh hl
 have L2:=lh hm
 have RR:=lh hr
 have HB:=lh (⟨h0,h1,hd,h2,h3⟩:(0≤b2∧b2<16)∧(0≤x2∧x2<16)∧(0≤d2∧d2<4096)∧(0≤b1∧b1<16)∧(0≤d1∧d1<4096))
 have hw1:IntKind.i64.wrap (l1+1)=(n:Int):=by rw [hl];exact wrap_i64_id (by omega) (by omega)
 have hw2:IntKind.i64.wrap (l2+1)=(m:Int):=by rw [hm];exact wrap_i64_id (by omega) (by omega)
 have H:=lh h
 clear h hr h0 h1 hd h2 h3 hl hm hn hm2
 go_enter Tryz.func69,Tryz.ntmps69
 go_upto_region 1 with fail
 refine wp_region_held_drew (S:=fun W=>∃b,DR W W g F [251,fm,(r:Int),r2,x2,b1,d1,b2,d2,l1,l2,i2] rs p b ks∧True) (by kernel_rfl) ⟨_,H.out.drew.dr,trivial⟩ (fun hHeld=>?_)
 have C:=lh (show Ch w w.drew [g,F.gb] from (Ch.refl _ _).drew')
 replace H:=lh H.out.drew
 obtain ⟨v0,hv⟩:∃V,w.drew=V:=⟨_,rfl⟩
 rw [hv] at H C hHeld ⊢
 clear hv
 repeat refine tkd ?_
 refine wpAnyH_done (by with_unfolding_all rfl) ?_ _
 clear hHeld hw1 hw2
 have c0:v0.cell? ⟨g,0,none⟩=some (.int .i64 251):=H.out.dr.m.cell (c:=0) rfl
 go_upto_region 23 with fail
 clear c0
 refine wp_region_lit ?_
 iterate 2 refine lsv (w':=v0) ?_
 refine lsd (dboth_w (n:=n) (m:=m) H.out.dr H.out.ro HB.out.1 HB.out.2.1 HB.out.2.2.1 HB.out.2.2.2.1 HB.out.2.2.2.2 L1.out L2.out (by have:=N1.out;omega) (by have:=N2.out;omega)) (by intro c w' hB;exact ⟨rfl,.inr ⟨c,rfl,(H.out.keep hB).e,C.out.trans (Ch.of_below hB _)⟩⟩) ?_
 intro vv y1 Z
 obtain ⟨⟨_,_,rfl,⟨ba,ca,za,rfl,oa⟩,⟨bb,cb,zb,rfl,ob⟩⟩,hb⟩:=Z.out
 replace C:=lh (C.out.trans (Ch.of_below hb _))
 replace H:=lh (H.out.keep hb)
 clear Z hb
 iterate 2 refine lsv (w':=y1) ?_
 have YA:=oa.byt
 have YB:=ob.byt
 refine lsce (dsub_w n ba ca m bb cb N1.out N2.out za zb _ YA YB H.out.tb (by have:=H.out.nn;have:=H.out.sz;omega)) ?_
 intro vv y2 Z
 obtain ⟨⟨v8,c8,k8,rfl,hv⟩,hb⟩:=Z.out
 replace C:=lh (C.out.trans (Ch.of_below hb _))
 replace H:=lh (H.out.keep hb)
 clear Z hb
 have V:=lh (hv)
 clear hv
 iterate 3 refine lsv (w':=y2) ?_
 refine lsd (dsum_w (cc:=c8) (cd:=k8) H.out HB.out.2.2.2.1 HB.out.2.2.2.2 (V.out.mono (show _≤1000 by omega))) (by intro c w' hB;exact ⟨rfl,.inr ⟨c,rfl,hB.1,C.out.trans hB.2⟩⟩) ?_
 intro vv y3 Z
 obtain ⟨⟨kk,rfl⟩,hE,hC⟩:=Z.out
 replace C:=lh (C.out.trans hC)
 have E:=lh hE
 clear Z hE hC
 refine lsv (w':=y3) ?_
 refine wpList_nil ?_
 go_wp2
 go_ret
 exact .inl ⟨_,rfl,⟨_,rfl⟩,E.out,C.out⟩
end
section
variable {w0 w w':World} {g r n m:Nat} {F:Foot} {rs:List Int} {p:Ps} {bs ks z:List Int} {fm r2 x2 b1 d1 b2 d2 l1 l2 i2 k:Int} {P W:Bool}
theorem own_cap {w:World} {B b n cap:Nat} {zs:List Int} (h:Own w B (.slice (some ⟨b,0,none⟩) n cap) n zs):n≤cap:=by
 obtain ⟨cur,h1,h2,h3,h4,h5,h6⟩:=h.heap
 exact h5
theorem dx_249 (h:DX w0 w g F [249,fm,(r:Int),r2,x2,b1,d1,b2,d2,l1,l2,i2] rs p bs ks k P W z) (hr:r<16) (h0:0≤b2∧b2<16) (h1:0≤x2∧x2<16) (hd:0≤d2∧d2<4096) (h2:0≤b1∧b1<16) (h3:0≤d1∧d1<4096) (hl:l1+1=(n:Int)) (hm:l2+1=(m:Int)) (hn:1≤n∧n≤16) (hm2:1≤m∧m≤16):Calls Tryz.prog 69 #[.pointer (some ⟨g,0,none⟩)] w (Dz (fun v w'=>I6V v∧DE w0 w' g F [249,fm,(r:Int),r2,x2,b1,d1,b2,d2,l1,l2,i2] ks k P W z∧Ch w w' [g,F.gb]) (fun w'=>DE w0 w' g F [249,fm,(r:Int),r2,x2,b1,d1,b2,d2,l1,l2,i2] ks k P W z∧Ch w w' [g,F.gb])):=by
 have N1:=lh hn
 have N2:=lh hm2
 have L1:=lh hl
 have L2:=lh hm
 have RR:=lh hr
 have HB:=lh (⟨h0,h1,hd,h2,h3⟩:(0≤b2∧b2<16)∧(0≤x2∧x2<16)∧(0≤d2∧d2<4096)∧(0≤b1∧b1<16)∧(0≤d1∧d1<4096))
 have hw1:IntKind.i64.wrap (l1+1)=(n:Int):=by rw [hl];exact wrap_i64_id (by omega) (by omega)
 have hw2:IntKind.i64.wrap (l2+1)=(m:Int):=by rw [hm];exact wrap_i64_id (by omega) (by omega)
 have H:=lh h
 clear h hr h0 h1 hd h2 h3 hl hm hn hm2
 go_enter Tryz.func69,Tryz.ntmps69
 go_upto_region 1 with fail
 refine wp_region_held_drew (S:=fun W=>∃b,DR W W g F [249,fm,(r:Int),r2,x2,b1,d1,b2,d2,l1,l2,i2] rs p b ks∧True) (by kernel_rfl) ⟨_,H.out.drew.dr,trivial⟩ (fun hHeld=>?_)
 have C:=lh (show Ch w w.drew [g,F.gb] from (Ch.refl _ _).drew')
 replace H:=lh H.out.drew
 obtain ⟨v0,hv⟩:∃V,w.drew=V:=⟨_,rfl⟩
 rw [hv] at H C hHeld ⊢
 clear hv
 repeat refine tkd ?_
 refine wpAnyH_done (by with_unfolding_all rfl) ?_ _
 clear hHeld hw1 hw2
 have c0:v0.cell? ⟨g,0,none⟩=some (.int .i64 249):=H.out.dr.m.cell (c:=0) rfl
 go_upto_region 25 with fail
 clear c0
 refine wp_region_lit ?_
 refine lsv (w':=v0) ?_
 refine lsd (dboth_w (n:=n) (m:=m) H.out.dr H.out.ro HB.out.1 HB.out.2.1 HB.out.2.2.1 HB.out.2.2.2.1 HB.out.2.2.2.2 L1.out L2.out (by have:=N1.out;omega) (by have:=N2.out;omega)) (by intro c w' hB;exact ⟨rfl,.inr ⟨c,rfl,(H.out.keep hB).e,C.out.trans (Ch.of_below hB _)⟩⟩) ?_
 intro vv y1 Z
 obtain ⟨⟨_,_,rfl,⟨ba,ca,za,rfl,oa⟩,⟨bb,cb,zb,rfl,ob⟩⟩,hb⟩:=Z.out
 replace C:=lh (C.out.trans (Ch.of_below hb _))
 replace H:=lh (H.out.keep hb)
 clear Z hb
 iterate 2 refine lsv (w':=y1) ?_
 have YA:=oa.byt
 have YB:=ob.byt
 refine lsce (dcmp_w n ba ca m bb cb N1.out N2.out za zb _ YA YB H.out.tb (by have:=H.out.nn;have:=H.out.sz;omega)) ?_
 intro vv y2 Z
 obtain ⟨⟨c8,k8,rfl⟩,hb⟩:=Z.out
 replace C:=lh (C.out.trans (Ch.of_below hb _))
 replace H:=lh (H.out.keep hb)
 clear Z hb
 iterate 5 refine lsv (w':=y2) ?_
 refine wpList_nil ?_
 go_upto_region 26 with fail
 refine wp_region_lit ?_
 refine lsv (w':=y2) ?_
 refine lsd (check_w k8 y2) (by intro c w' hB;obtain rfl:=hB;exact ⟨rfl,.inr ⟨c,rfl,H.out.e,C.out⟩⟩) ?_
 intro vv y3 Z
 obtain ⟨rfl,hq,rfl⟩:=Z.out
 clear Z
 refine wpList_nil ?_
 have c35:=H.out.c35
 have f1:=H.out.dr.m.free
 go_upto_region 27 with fail
 refine wp_region_lit ?_
 iterate 5 refine lsv (w':=y2) ?_
 refine lsk (w':=y2.setCell ⟨g,35,none⟩ (.int .i64 c8)) (by unfold execOp;go_simp;(try rfl)) ?_
 refine wpList_nil ?_
 have H9:=lh (H.out.scc c8)
 replace C:=lh (C.out.setCell (p:=⟨g,35,none⟩) (by simp) (.int .i64 c8))
 clear c35 f1 H
 go_wp2
 go_ret
 exact .inl ⟨_,rfl,⟨_,rfl⟩,H9.out.e,C.out⟩
theorem dx_252 (h:DX w0 w g F [252,fm,(r:Int),r2,x2,b1,d1,b2,d2,l1,l2,i2] rs p bs ks k P W z) (hr:r<16) (h0:0≤b2∧b2<16) (h1:0≤x2∧x2<16) (hd:0≤d2∧d2<4096) (h2:0≤b1∧b1<16) (h3:0≤d1∧d1<4096) (hl:l1+1=(n:Int)) (hm:l2+1=(m:Int)) (hn:1≤n∧n≤16) (hm2:1≤m∧m≤16):Calls Tryz.prog 69 #[.pointer (some ⟨g,0,none⟩)] w (Dz (fun v w'=>I6V v∧DE w0 w' g F [252,fm,(r:Int),r2,x2,b1,d1,b2,d2,l1,l2,i2] ks k P W z∧Ch w w' [g,F.gb]) (fun w'=>DE w0 w' g F [252,fm,(r:Int),r2,x2,b1,d1,b2,d2,l1,l2,i2] ks k P W z∧Ch w w' [g,F.gb])):=by
 have N1:=lh hn
 have N2:=lh hm2
 have L1:=lh hl
 have L2:=lh hm
 have RR:=lh hr
 have HB:=lh (⟨h0,h1,hd,h2,h3⟩:(0≤b2∧b2<16)∧(0≤x2∧x2<16)∧(0≤d2∧d2<4096)∧(0≤b1∧b1<16)∧(0≤d1∧d1<4096))
 have hw1:IntKind.i64.wrap (l1+1)=(n:Int):=by rw [hl];exact wrap_i64_id (by omega) (by omega)
 have hw2:IntKind.i64.wrap (l2+1)=(m:Int):=by rw [hm];exact wrap_i64_id (by omega) (by omega)
 have H:=lh h
 clear h hr h0 h1 hd h2 h3 hl hm hn hm2
 go_enter Tryz.func69,Tryz.ntmps69
 go_upto_region 1 with fail
 refine wp_region_held_drew (S:=fun W=>∃b,DR W W g F [252,fm,(r:Int),r2,x2,b1,d1,b2,d2,l1,l2,i2] rs p b ks∧True) (by kernel_rfl) ⟨_,H.out.drew.dr,trivial⟩ (fun hHeld=>?_)
 have C:=lh (show Ch w w.drew [g,F.gb] from (Ch.refl _ _).drew')
 replace H:=lh H.out.drew
 obtain ⟨v0,hv⟩:∃V,w.drew=V:=⟨_,rfl⟩
 rw [hv] at H C hHeld ⊢
 clear hv
 repeat refine tkd ?_
 refine wpAnyH_done (by with_unfolding_all rfl) ?_ _
 clear hHeld hw1 hw2
 have c0:v0.cell? ⟨g,0,none⟩=some (.int .i64 252):=H.out.dr.m.cell (c:=0) rfl
 by_cases h8:m≤8
 ·have e1:(m:Int)≤8:=by omega
  obtain ⟨b,eb⟩:∃b,decide (m<n)=b:=⟨_,rfl⟩
  have EB:=lh eb
  have H8:=lh h8
  clear h8
  go_upto_region 30 with fail
  refine wp_region_lit ?_
  refine lsv (w':=v0) ?_
  refine lsv (v:=.bool true) (w':=v0) ?_
  iterate 3 refine lsv (w':=v0) ?_
  iterate 2 refine lsv (v:=.bool b) (w':=v0) ?_
  clear e1 eb
  refine lsd (need_w b v0) (by intro c w' hB;obtain rfl:=hB;exact ⟨rfl,.inr ⟨c,rfl,H.out.e,C.out⟩⟩) ?_
  intro vv y1 Z
  obtain ⟨rfl,hq,rfl⟩:=Z.out
  clear Z
  subst hq
  have HQ:=lh (show m<n from by have:=EB.out;simpa using this)
  refine wpList_nil ?_
  go_upto_region 34 with fail
  clear c0
  refine wp_region_lit ?_
  iterate 2 refine lsv (w':=v0) ?_
  refine lsd (dboth_w (n:=n) (m:=m) H.out.dr H.out.ro HB.out.1 HB.out.2.1 HB.out.2.2.1 HB.out.2.2.2.1 HB.out.2.2.2.2 L1.out L2.out (by have:=N1.out;omega) (by have:=N2.out;omega)) (by intro c w' hB;exact ⟨rfl,.inr ⟨c,rfl,(H.out.keep hB).e,C.out.trans (Ch.of_below hB _)⟩⟩) ?_
  intro vv y2 Z
  obtain ⟨⟨_,_,rfl,⟨ba,ca,za,rfl,oa⟩,⟨bb,cb,zb,rfl,ob⟩⟩,hb⟩:=Z.out
  replace C:=lh (C.out.trans (Ch.of_below hb _))
  replace H:=lh (H.out.keep hb)
  clear Z hb
  iterate 2 refine lsv (w':=y2) ?_
  have YA:=oa.byt
  have YB:=ob.byt
  have LC:=own_cap oa
  refine lsce (dmul_w n ba ca m bb cb N1.out N2.out za zb _ YA YB ⟨H8.out,HQ.out,LC⟩ H.out.tb (by have:=H.out.nn;have:=H.out.sz;omega)) ?_
  intro vv y3 Z
  obtain ⟨⟨v8,k8,rfl,hv⟩,hb⟩:=Z.out
  replace C:=lh (C.out.trans (Ch.of_below hb _))
  replace H:=lh (H.out.keep hb)
  clear Z hb
  have V:=lh (hv)
  clear hv
  iterate 5 refine lsv (w':=y3) ?_
  refine wpList_nil ?_
  go_upto_region 35 with fail
  refine wp_region_lit ?_
  refine lsv (w':=y3) ?_
  refine lsd (check_w k8 y3) (by intro c w' hB;obtain rfl:=hB;exact ⟨rfl,.inr ⟨c,rfl,H.out.e,C.out⟩⟩) ?_
  intro vv y4 Z
  obtain ⟨rfl,hq,rfl⟩:=Z.out
  clear Z
  refine wpList_nil ?_
  go_upto_region 36 with fail
  refine wp_region_lit ?_
  iterate 2 refine lsv (w':=y3) ?_
  refine lsce (da1_w H.out.dr H.out.ro HB.out.2.2.2.1 HB.out.2.2.2.2) ?_
  intro vv y5 Z
  obtain ⟨⟨a,-,rfl⟩,hb⟩:=Z.out
  replace V:=lh (V.out.keep hb)
  replace C:=lh (C.out.trans (Ch.of_below hb _))
  replace H:=lh (H.out.keep hb)
  clear Z hb
  refine lsv (w':=y5) ?_
  refine lsd (dput_w H.out (V.out.mono (show _≤1000 by omega)) (by omega)) (by intro c w' hB;obtain ⟨⟨b',h1⟩,h2⟩:=hB;exact ⟨rfl,.inr ⟨c,rfl,h1.e,C.out.trans (h2.mono (by simp))⟩⟩) ?_
  intro vv y6 Z
  obtain ⟨rfl,⟨bs',h1⟩,h2⟩:=Z.out
  replace C:=lh (C.out.trans (h2.mono (by simp)))
  clear H
  have H:=lh h1
  clear Z h1 h2
  refine wpList_nil ?_
  go_wp2
  go_ret
  exact .inl ⟨_,rfl,⟨_,rfl⟩,H.out.e,C.out⟩
 ·have e1:¬(m:Int)≤8:=by omega
  clear h8
  go_upto_region 30 with fail
  refine wp_region_lit ?_
  refine lsv (w':=v0) ?_
  refine lsv (v:=.bool false) (w':=v0) ?_
  refine lsv (w':=v0) ?_
  iterate 3 refine lsg ?_
  refine lsv (v:=.bool false) (w':=v0) ?_
  refine lsd (need_w false v0) (by intro c w' hB;obtain rfl:=hB;exact ⟨rfl,.inr ⟨c,rfl,H.out.e,C.out⟩⟩) ?_
  intro vv y1 Z
  obtain ⟨rfl,hq,rfl⟩:=Z.out
  clear Z
  cases hq
theorem dx_253 (h:DX w0 w g F [253,fm,(r:Int),r2,x2,b1,d1,b2,d2,l1,l2,i2] rs p bs ks k P W z) (hr:r<16) (h0:0≤b2∧b2<16) (h1:0≤x2∧x2<16) (hd:0≤d2∧d2<4096) (h2:0≤b1∧b1<16) (h3:0≤d1∧d1<4096) (hl:l1+1=(n:Int)) (hm:l2+1=(m:Int)) (hn:1≤n∧n≤16) (hm2:1≤m∧m≤16):Calls Tryz.prog 69 #[.pointer (some ⟨g,0,none⟩)] w (Dz (fun v w'=>I6V v∧DE w0 w' g F [253,fm,(r:Int),r2,x2,b1,d1,b2,d2,l1,l2,i2] ks k P W z∧Ch w w' [g,F.gb]) (fun w'=>DE w0 w' g F [253,fm,(r:Int),r2,x2,b1,d1,b2,d2,l1,l2,i2] ks k P W z∧Ch w w' [g,F.gb])):=by
 have N1:=lh hn
 have N2:=lh hm2
 have L1:=lh hl
 have L2:=lh hm
 have RR:=lh hr
 have HB:=lh (⟨h0,h1,hd,h2,h3⟩:(0≤b2∧b2<16)∧(0≤x2∧x2<16)∧(0≤d2∧d2<4096)∧(0≤b1∧b1<16)∧(0≤d1∧d1<4096))
 have hw1:IntKind.i64.wrap (l1+1)=(n:Int):=by rw [hl];exact wrap_i64_id (by omega) (by omega)
 have hw2:IntKind.i64.wrap (l2+1)=(m:Int):=by rw [hm];exact wrap_i64_id (by omega) (by omega)
 have H:=lh h
 clear h hr h0 h1 hd h2 h3 hl hm hn hm2
 go_enter Tryz.func69,Tryz.ntmps69
 go_upto_region 1 with fail
 refine wp_region_held_drew (S:=fun W=>∃b,DR W W g F [253,fm,(r:Int),r2,x2,b1,d1,b2,d2,l1,l2,i2] rs p b ks∧True) (by kernel_rfl) ⟨_,H.out.drew.dr,trivial⟩ (fun hHeld=>?_)
 have C:=lh (show Ch w w.drew [g,F.gb] from (Ch.refl _ _).drew')
 replace H:=lh H.out.drew
 obtain ⟨v0,hv⟩:∃V,w.drew=V:=⟨_,rfl⟩
 rw [hv] at H C hHeld ⊢
 clear hv
 repeat refine tkd ?_
 refine wpAnyH_done (by with_unfolding_all rfl) ?_ _
 clear hHeld hw1 hw2
 have c0:v0.cell? ⟨g,0,none⟩=some (.int .i64 253):=H.out.dr.m.cell (c:=0) rfl
 by_cases h8:m≤8
 ·have e1:(m:Int)≤8:=by omega
  obtain ⟨b,eb⟩:∃b,decide (m<n)=b:=⟨_,rfl⟩
  have EB:=lh eb
  have H8:=lh h8
  clear h8
  go_upto_region 30 with fail
  refine wp_region_lit ?_
  refine lsv (w':=v0) ?_
  refine lsv (v:=.bool true) (w':=v0) ?_
  iterate 3 refine lsv (w':=v0) ?_
  iterate 2 refine lsv (v:=.bool b) (w':=v0) ?_
  clear e1 eb
  refine lsd (need_w b v0) (by intro c w' hB;obtain rfl:=hB;exact ⟨rfl,.inr ⟨c,rfl,H.out.e,C.out⟩⟩) ?_
  intro vv y1 Z
  obtain ⟨rfl,hq,rfl⟩:=Z.out
  clear Z
  subst hq
  have HQ:=lh (show m<n from by have:=EB.out;simpa using this)
  refine wpList_nil ?_
  go_upto_region 34 with fail
  clear c0
  refine wp_region_lit ?_
  iterate 2 refine lsv (w':=v0) ?_
  refine lsd (dboth_w (n:=n) (m:=m) H.out.dr H.out.ro HB.out.1 HB.out.2.1 HB.out.2.2.1 HB.out.2.2.2.1 HB.out.2.2.2.2 L1.out L2.out (by have:=N1.out;omega) (by have:=N2.out;omega)) (by intro c w' hB;exact ⟨rfl,.inr ⟨c,rfl,(H.out.keep hB).e,C.out.trans (Ch.of_below hB _)⟩⟩) ?_
  intro vv y2 Z
  obtain ⟨⟨_,_,rfl,⟨ba,ca,za,rfl,oa⟩,⟨bb,cb,zb,rfl,ob⟩⟩,hb⟩:=Z.out
  replace C:=lh (C.out.trans (Ch.of_below hb _))
  replace H:=lh (H.out.keep hb)
  clear Z hb
  iterate 2 refine lsv (w':=y2) ?_
  have YA:=oa.byt
  have YB:=ob.byt
  have LC:=own_cap oa
  refine lsce (ddiv_w n ba ca m bb cb N1.out N2.out za zb _ YA YB ⟨H8.out,HQ.out,LC⟩ H.out.tb (by have:=H.out.nn;have:=H.out.sz;omega)) ?_
  intro vv y3 Z
  obtain ⟨⟨v8,k8,rfl,hv⟩,hb⟩:=Z.out
  replace C:=lh (C.out.trans (Ch.of_below hb _))
  replace H:=lh (H.out.keep hb)
  clear Z hb
  have V:=lh (hv)
  clear hv
  iterate 5 refine lsv (w':=y3) ?_
  refine wpList_nil ?_
  go_upto_region 35 with fail
  refine wp_region_lit ?_
  refine lsv (w':=y3) ?_
  refine lsd (check_w k8 y3) (by intro c w' hB;obtain rfl:=hB;exact ⟨rfl,.inr ⟨c,rfl,H.out.e,C.out⟩⟩) ?_
  intro vv y4 Z
  obtain ⟨rfl,hq,rfl⟩:=Z.out
  clear Z
  refine wpList_nil ?_
  go_upto_region 36 with fail
  refine wp_region_lit ?_
  iterate 2 refine lsv (w':=y3) ?_
  refine lsce (da1_w H.out.dr H.out.ro HB.out.2.2.2.1 HB.out.2.2.2.2) ?_
  intro vv y5 Z
  obtain ⟨⟨a,-,rfl⟩,hb⟩:=Z.out
  replace V:=lh (V.out.keep hb)
  replace C:=lh (C.out.trans (Ch.of_below hb _))
  replace H:=lh (H.out.keep hb)
  clear Z hb
  refine lsv (w':=y5) ?_
  refine lsd (dput_w H.out (V.out.mono (show _≤1000 by omega)) (by omega)) (by intro c w' hB;obtain ⟨⟨b',h1⟩,h2⟩:=hB;exact ⟨rfl,.inr ⟨c,rfl,h1.e,C.out.trans (h2.mono (by simp))⟩⟩) ?_
  intro vv y6 Z
  obtain ⟨rfl,⟨bs',h1⟩,h2⟩:=Z.out
  replace C:=lh (C.out.trans (h2.mono (by simp)))
  clear H
  have H:=lh h1
  clear Z h1 h2
  refine wpList_nil ?_
  go_wp2
  go_ret
  exact .inl ⟨_,rfl,⟨_,rfl⟩,H.out.e,C.out⟩
 ·have e1:¬(m:Int)≤8:=by omega
  clear h8
  go_upto_region 30 with fail
  refine wp_region_lit ?_
  refine lsv (w':=v0) ?_
  refine lsv (v:=.bool false) (w':=v0) ?_
  refine lsv (w':=v0) ?_
  iterate 3 refine lsg ?_
  refine lsv (v:=.bool false) (w':=v0) ?_
  refine lsd (need_w false v0) (by intro c w' hB;obtain rfl:=hB;exact ⟨rfl,.inr ⟨c,rfl,H.out.e,C.out⟩⟩) ?_
  intro vv y1 Z
  obtain ⟨rfl,hq,rfl⟩:=Z.out
  clear Z
  cases hq
theorem dx_222 (h:DX w0 w g F [222,fm,(r:Int),r2,x2,b1,d1,b2,d2,l1,l2,i2] rs p bs ks k P W z) (hr:r<16) (h0:0≤b2∧b2<16) (h1:0≤x2∧x2<16) (hd:0≤d2∧d2<4096) (h2:0≤b1∧b1<16) (h3:0≤d1∧d1<4096) (hl:l1+1=(n:Int)) (hm:l2+1=(m:Int)) (hn:1≤n∧n≤256) (hm2:1≤m∧m≤16):Calls Tryz.prog 69 #[.pointer (some ⟨g,0,none⟩)] w (Dz (fun v w'=>I6V v∧DE w0 w' g F [222,fm,(r:Int),r2,x2,b1,d1,b2,d2,l1,l2,i2] ks k P W z∧Ch w w' [g,F.gb]) (fun w'=>DE w0 w' g F [222,fm,(r:Int),r2,x2,b1,d1,b2,d2,l1,l2,i2] ks k P W z∧Ch w w' [g,F.gb])):=by
 have N1:=lh hn
 have N2:=lh hm2
 have L1:=lh hl
 have L2:=lh hm
 have RR:=lh hr
 have HB:=lh (⟨h0,h1,hd,h2,h3⟩:(0≤b2∧b2<16)∧(0≤x2∧x2<16)∧(0≤d2∧d2<4096)∧(0≤b1∧b1<16)∧(0≤d1∧d1<4096))
 have hw1:IntKind.i64.wrap (l1+1)=(n:Int):=by rw [hl];exact wrap_i64_id (by omega) (by omega)
 have hw2:IntKind.i64.wrap (l2+1)=(m:Int):=by rw [hm];exact wrap_i64_id (by omega) (by omega)
 have H:=lh h
 clear h hr h0 h1 hd h2 h3 hl hm hn hm2
 go_enter Tryz.func69,Tryz.ntmps69
 go_upto_region 1 with fail
 refine wp_region_held_drew (S:=fun W=>∃b,DR W W g F [222,fm,(r:Int),r2,x2,b1,d1,b2,d2,l1,l2,i2] rs p b ks∧True) (by kernel_rfl) ⟨_,H.out.drew.dr,trivial⟩ (fun hHeld=>?_)
 have C:=lh (show Ch w w.drew [g,F.gb] from (Ch.refl _ _).drew')
 replace H:=lh H.out.drew
 obtain ⟨v0,hv⟩:∃V,w.drew=V:=⟨_,rfl⟩
 rw [hv] at H C hHeld ⊢
 clear hv
 repeat refine tkd ?_
 refine wpAnyH_done (by with_unfolding_all rfl) ?_ _
 clear hHeld hw1 hw2
 have c0:v0.cell? ⟨g,0,none⟩=some (.int .i64 222):=H.out.dr.m.cell (c:=0) rfl
 go_upto_region 3 with fail
 clear c0
 refine wp_region_lit ?_
 refine lsv (w':=v0) ?_
 refine lsd (dedit_w (n:=n) H.out HB.out.1 HB.out.2.1 HB.out.2.2.1 HB.out.2.2.2.1 HB.out.2.2.2.2 L1.out N1.out) (by intro c w' hB;exact ⟨rfl,.inr ⟨c,rfl,hB.1,C.out.trans hB.2⟩⟩) ?_
 intro vv y1 Z
 obtain ⟨rfl,hE,hC⟩:=Z.out
 replace C:=lh (C.out.trans hC)
 have E:=lh hE
 clear Z hE hC
 refine wpList_nil ?_
 go_wp2
 go_ret
 exact .inl ⟨_,rfl,⟨_,rfl⟩,E.out,C.out⟩
theorem dx_223 (h:DX w0 w g F [223,fm,(r:Int),r2,x2,b1,d1,b2,d2,l1,l2,i2] rs p bs ks k P W z) (hr:r<16) (h0:0≤b2∧b2<16) (h1:0≤x2∧x2<16) (hd:0≤d2∧d2<4096) (h2:0≤b1∧b1<16) (h3:0≤d1∧d1<4096) (hl:l1+1=(n:Int)) (hm:l2+1=(m:Int)) (hn:1≤n∧n≤256) (hm2:1≤m∧m≤16):Calls Tryz.prog 69 #[.pointer (some ⟨g,0,none⟩)] w (Dz (fun v w'=>I6V v∧DE w0 w' g F [223,fm,(r:Int),r2,x2,b1,d1,b2,d2,l1,l2,i2] ks k P W z∧Ch w w' [g,F.gb]) (fun w'=>DE w0 w' g F [223,fm,(r:Int),r2,x2,b1,d1,b2,d2,l1,l2,i2] ks k P W z∧Ch w w' [g,F.gb])):=by
 have N1:=lh hn
 have N2:=lh hm2
 have L1:=lh hl
 have L2:=lh hm
 have RR:=lh hr
 have HB:=lh (⟨h0,h1,hd,h2,h3⟩:(0≤b2∧b2<16)∧(0≤x2∧x2<16)∧(0≤d2∧d2<4096)∧(0≤b1∧b1<16)∧(0≤d1∧d1<4096))
 have hw1:IntKind.i64.wrap (l1+1)=(n:Int):=by rw [hl];exact wrap_i64_id (by omega) (by omega)
 have hw2:IntKind.i64.wrap (l2+1)=(m:Int):=by rw [hm];exact wrap_i64_id (by omega) (by omega)
 have H:=lh h
 clear h hr h0 h1 hd h2 h3 hl hm hn hm2
 go_enter Tryz.func69,Tryz.ntmps69
 go_upto_region 1 with fail
 refine wp_region_held_drew (S:=fun W=>∃b,DR W W g F [223,fm,(r:Int),r2,x2,b1,d1,b2,d2,l1,l2,i2] rs p b ks∧True) (by kernel_rfl) ⟨_,H.out.drew.dr,trivial⟩ (fun hHeld=>?_)
 have C:=lh (show Ch w w.drew [g,F.gb] from (Ch.refl _ _).drew')
 replace H:=lh H.out.drew
 obtain ⟨v0,hv⟩:∃V,w.drew=V:=⟨_,rfl⟩
 rw [hv] at H C hHeld ⊢
 clear hv
 repeat refine tkd ?_
 refine wpAnyH_done (by with_unfolding_all rfl) ?_ _
 clear hHeld hw1 hw2
 have c0:v0.cell? ⟨g,0,none⟩=some (.int .i64 223):=H.out.dr.m.cell (c:=0) rfl
 go_upto_region 3 with fail
 clear c0
 refine wp_region_lit ?_
 refine lsv (w':=v0) ?_
 refine lsd (dedit_w (n:=n) H.out HB.out.1 HB.out.2.1 HB.out.2.2.1 HB.out.2.2.2.1 HB.out.2.2.2.2 L1.out N1.out) (by intro c w' hB;exact ⟨rfl,.inr ⟨c,rfl,hB.1,C.out.trans hB.2⟩⟩) ?_
 intro vv y1 Z
 obtain ⟨rfl,hE,hC⟩:=Z.out
 replace C:=lh (C.out.trans hC)
 have E:=lh hE
 clear Z hE hC
 refine wpList_nil ?_
 go_wp2
 go_ret
 exact .inl ⟨_,rfl,⟨_,rfl⟩,E.out,C.out⟩
theorem dx_79 (h:DX w0 w g F [79,fm,(r:Int),r2,x2,b1,d1,b2,d2,l1,l2,i2] rs p bs ks k P W z) (hr:r<16) (h0:0≤b2∧b2<16) (h1:0≤x2∧x2<16) (hd:0≤d2∧d2<4096) (h2:0≤b1∧b1<16) (h3:0≤d1∧d1<4096) (hl:l1+1=(n:Int)) (hm:l2+1=(m:Int)) (hn:1≤n∧n≤16) (hm2:1≤m∧m≤16):Calls Tryz.prog 69 #[.pointer (some ⟨g,0,none⟩)] w (Dz (fun v w'=>I6V v∧DE w0 w' g F [79,fm,(r:Int),r2,x2,b1,d1,b2,d2,l1,l2,i2] ks k P W z∧Ch w w' [g,F.gb]) (fun w'=>DE w0 w' g F [79,fm,(r:Int),r2,x2,b1,d1,b2,d2,l1,l2,i2] ks k P W z∧Ch w w' [g,F.gb])):=by
 have N1:=lh hn
 have N2:=lh hm2
 have L1:=lh hl
 have L2:=lh hm
 have RR:=lh hr
 have HB:=lh (⟨h0,h1,hd,h2,h3⟩:(0≤b2∧b2<16)∧(0≤x2∧x2<16)∧(0≤d2∧d2<4096)∧(0≤b1∧b1<16)∧(0≤d1∧d1<4096))
 have hw1:IntKind.i64.wrap (l1+1)=(n:Int):=by rw [hl];exact wrap_i64_id (by omega) (by omega)
 have hw2:IntKind.i64.wrap (l2+1)=(m:Int):=by rw [hm];exact wrap_i64_id (by omega) (by omega)
 have H:=lh h
 clear h hr h0 h1 hd h2 h3 hl hm hn hm2
 go_enter Tryz.func69,Tryz.ntmps69
 go_upto_region 1 with fail
 refine wp_region_held_drew (S:=fun W=>∃b,DR W W g F [79,fm,(r:Int),r2,x2,b1,d1,b2,d2,l1,l2,i2] rs p b ks∧True) (by kernel_rfl) ⟨_,H.out.drew.dr,trivial⟩ (fun hHeld=>?_)
 have C:=lh (show Ch w w.drew [g,F.gb] from (Ch.refl _ _).drew')
 replace H:=lh H.out.drew
 obtain ⟨v0,hv⟩:∃V,w.drew=V:=⟨_,rfl⟩
 rw [hv] at H C hHeld ⊢
 clear hv
 repeat refine tkd ?_
 refine wpAnyH_done (by with_unfolding_all rfl) ?_ _
 clear hHeld hw1 hw2
 have c0:v0.cell? ⟨g,0,none⟩=some (.int .i64 79):=H.out.dr.m.cell (c:=0) rfl
 go_upto_region 5 with fail
 refine wp_region_lit ?_
 refine lsv (w':=v0) ?_
 refine lsce (da_w H.out.dr H.out.ro HB.out.1 HB.out.2.1 HB.out.2.2.1) ?_
 intro vv y1 Z
 obtain ⟨⟨a,-,rfl⟩,hb⟩:=Z.out
 replace C:=lh (C.out.trans (Ch.of_below hb _))
 replace H:=lh (H.out.keep hb)
 clear Z hb
 obtain ⟨x,ex⟩:∃x,((a:Nat):Int).tmod 8=x:=⟨_,rfl⟩
 obtain ⟨b,eb⟩:∃b,(x == 0)=b:=⟨_,rfl⟩
 refine lsv (v:=.int .i64 x) (w':=y1) ?_
 refine lsv (v:=.bool b) (w':=y1) ?_
 clear ex eb
 refine lsd (need_w b y1) (by intro c w' hB;obtain rfl:=hB;exact ⟨rfl,.inr ⟨c,rfl,H.out.e,C.out⟩⟩) ?_
 intro vv y2 Z
 obtain ⟨rfl,hq,rfl⟩:=Z.out
 clear Z
 refine wpList_nil ?_
 go_upto_region 6 with fail
 clear c0
 refine wp_region_lit ?_
 iterate 2 refine lsv (w':=y1) ?_
 refine lsce (da_w H.out.dr H.out.ro HB.out.1 HB.out.2.1 HB.out.2.2.1) ?_
 intro vv y3 Z
 obtain ⟨⟨a2,-,rfl⟩,hb⟩:=Z.out
 replace C:=lh (C.out.trans (Ch.of_below hb _))
 replace H:=lh (H.out.keep hb)
 clear Z hb
 refine lsd (dfet_w (a:=a2) (n:=8) H.out.dr (by omega)) (by intro c w' hB;exact ⟨rfl,.inr ⟨c,rfl,(H.out.keep hB).e,C.out.trans (Ch.of_below hB _)⟩⟩) ?_
 intro vv y4 Z
 obtain ⟨⟨bb,cb,zb,rfl,ob⟩,hb⟩:=Z.out
 replace C:=lh (C.out.trans (Ch.of_below hb _))
 replace H:=lh (H.out.keep hb)
 clear Z hb
 have YB:=ob.byt
 refine lsce (tobin_w bb cb zb _ YB) ?_
 intro vv y5 Z
 obtain ⟨⟨u,k8,u0,u1,rfl⟩,hb⟩:=Z.out
 replace C:=lh (C.out.trans (Ch.of_below hb _))
 replace H:=lh (H.out.keep hb)
 clear Z hb
 iterate 5 refine lsv (w':=y5) ?_
 refine wpList_nil ?_
 go_upto_region 7 with fail
 refine wp_region_lit ?_
 refine lsv (w':=y5) ?_
 refine lsd (check_w k8 y5) (by intro c w' hB;obtain rfl:=hB;exact ⟨rfl,.inr ⟨c,rfl,H.out.e,C.out⟩⟩) ?_
 intro vv y6 Z
 obtain ⟨rfl,hq,rfl⟩:=Z.out
 clear Z
 refine wpList_nil ?_
 have r16:(r:Int)<16:=by have:=RR.out;omega
 have UU:=lh (And.intro u0 u1)
 go_upto_region 8 with fail
 refine wp_region_held_drew (S:=fun W'=>W'.cell? ⟨g,2,none⟩=some (.int .i64 (r:Int))) (by kernel_rfl) (H.out.dr.m.cell (c:=2) rfl) (fun hHeld=>?_)
 replace H:=lh H.out.drew
 replace C:=lh C.out.drew'
 obtain ⟨z0,hv⟩:∃V,y5.drew=V:=⟨_,rfl⟩
 rw [hv] at H C hHeld ⊢
 clear hv
 refine tki 0 ?_
 refine tki 1 ?_
 refine tki 2 ?_
 refine tki 3 ?_
 refine tki 4 ?_
 refine tki 5 (v:=.int .i64 (r:Int)) ?_
 refine tki 6 ?_
 refine tki 7 ?_
 refine tki 8 ?_
 refine tki 9 (v:=.pointer (some ⟨g,12+r,none⟩)) ?_
 have cg:=H.out.cr RR.out
 have fg:=H.out.dr.m.free
 have H9:=lh (H.out.sr RR.out (v:=u) UU.out)
 refine tkw (w1:=z0.setCell ⟨g,12+r,none⟩ (.int .u32 u)) (R:=fun W'=>(DE w0 W' g F [79,fm,(r:Int),r2,x2,b1,d1,b2,d2,l1,l2,i2] ks k P W z∧Ch w W' [g,F.gb])∧W'.cell? ⟨g,2,none⟩=some (.int .i64 (r:Int))) ⟨⟨H9.out.e,C.out.setCell (p:=⟨g,12+r,none⟩) (by simp) _⟩,H9.out.dr.m.cell (c:=2) rfl⟩ (fun _ h=>h.2) ?_
 clear cg fg hHeld
 intro z1 Z hHeld
 refine wpAnyH_done (by with_unfolding_all rfl) ?_ _
 clear hHeld
 go_wp2
 go_ret
 exact .inl ⟨_,rfl,⟨_,rfl⟩,Z.out.1.1,Z.out.1.2⟩
end
end Go.Proofs.YtljajnaclpbecaaGreatDoor
