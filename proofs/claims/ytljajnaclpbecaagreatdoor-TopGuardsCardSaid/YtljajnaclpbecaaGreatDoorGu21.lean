/- Contracts and laws on the way to the statement, text 21 of 22. Conditions: as each states them. -/
import Derived.Test.YtljajnaclpbecaaGreatDoorGu1
import Derived.Test.YtljajnaclpbecaaGreatDoorGu4
import Derived.Test.YtljajnaclpbecaaGreatDoorGu9
import Derived.Test.YtljajnaclpbecaaGreatDoorGu11
import Derived.Test.YtljajnaclpbecaaGreatDoorGu20
import Derived.RegionTactic
import Derived.BigRegion
import Derived.StillTailTactics
import Derived.Deep.RegionHeld3
import Derived.Laws.Append
import Derived.Laws.AppendOwn
import Derived.Lib.Hide
import Derived.Outline
import Derived.Handy
import Derived.BigQuiet
import Derived.Deep.QuietTactic
import Derived.Test.YtljajnaclpbecaaGreatDoorCards
import Derived.Test.YtljajnaclpbecaaGreatDoorTie
import Derived.LaidMore
import Derived.LaidHandle
import Derived.MakeChecks
import Derived.Stop.Joined
import Derived.Stop.LaidErr
import Derived.Lib.LaidTab
import Derived.Lib.ItoaNum
import Derived.SevenTiedAt
import Derived.OpenShut
namespace Go.Proofs.YtljajnaclpbecaaGreatDoor
open Go.RowKit
set_option maxRecDepth 1000000
set_option maxHeartbeats 8000000
set_option linter.unusedVariables false
set_option linter.unusedSimpArgs false
section
variable {w0 w w':World} {g:Nat} {F:Foot} {rs os:List Int} {p q:Ps} {n:Int} {bs ks z:List Int}
theorem decI_68 {zs:List Int} (h:zs.getD 0 0=68) (hr:∀i,0≤zs.getD i 0∧zs.getD i 0≤255):∃r1 x2 b2 d2:Int,decI zs=[68,2,r1,0,x2,0,0,b2,d2,0,0,0]∧(0≤r1∧r1<16)∧(0≤x2∧x2<16)∧(0≤b2∧b2<16):=by
 have p2:=part_range hr 2
 have p3:=part_range hr 3
 have p4:=part_range hr 4
 refine ⟨part zs 2 1,part zs 3 1,part zs 4 1,part zs 5 3,?_,by omega,by omega,by omega⟩
 unfold decI
 rw [h,show fmOf 68=2 by decide +kernel]
 rfl
theorem own_set1 {B l:Nat} {b cap:Nat} {ys:List Int} {x:Int} (hO:Own w B (.slice (some ⟨b,0,none⟩) l cap) l ys) (h1:1<l) (hx:0≤x∧x≤255):Byt (w.setCell ⟨b,1,none⟩ (.int .u8 x)) (some ⟨b,0,none⟩) l (ys.set 1 x):=by
 have hl:=hO.len
 obtain ⟨cur,hh,hc,ht,-,hn,-⟩:=hO.heap
 have hB:Bk w b 5 cur:=hh
 refine ⟨by rw [List.length_set];exact hl,fun n hn=>?_,fun h0=>⟨b,0,rfl,fun i hi=>?_⟩⟩
 ·rcases List.mem_or_eq_of_mem_set hn with h | rfl
  ·exact hO.2 n h
  ·exact hx
 ·rw [Nat.zero_add]
  refine (hB.set_ 1 _).cell ?_
  by_cases h:i=1
  ·subst h
   rw [List.getElem?_set_self (by omega),List.getD_eq_getElem?_getD,List.getElem?_set_self (by omega)]
   rfl
  ·have e:cur[i]?=(ys.map (Value.int .u8))[i]?:=by rw [← ht,List.getElem?_take_of_lt hi]
   rw [List.getElem?_set_ne (by omega),e,List.getElem?_map,List.getD_eq_getElem?_getD,List.getElem?_set_ne (by omega),List.getElem?_eq_getElem (by omega)]
   rfl
theorem own_free {B l b cap:Nat} {ys:List Int} (hO:Own w B (.slice (some ⟨b,0,none⟩) l cap) l ys) (j:Nat):w.frozen? ⟨b,j,none⟩=false:=by
 obtain ⟨cur,hh,-⟩:=hO.heap
 exact Bk.free (show Bk w b 5 cur from hh) j
theorem CP.cr (h:CP w0 w g F rs p n bs ks) {r:Nat} (hr:r<16):w.cell? ⟨g,1+r,none⟩=some (.int .u32 (rs.getD r 0)):=by
 refine h.rowR r _ ?_
 rw [List.getElem?_map,List.getElem?_eq_getElem (by rw [h.rl];exact hr),List.getD_eq_getElem?_getD,List.getElem?_eq_getElem (by rw [h.rl];exact hr)]
 rfl
theorem CP.setil (h:CP w0 w g F rs p n bs ks) (v:Int):CP w0 (w.setCell ⟨g,23,none⟩ (.int .i64 v)) g F rs { p with il:=v } n bs ks:=by
 have e:=fun k hk=>Below.heap_setCell w ⟨g,23,none⟩ (.int .i64 v) k hk
 refine ⟨?_,h.st.keep (e _ h.nn.1.symm) (e _ h.nn.2.1.symm) (e _ h.nn.2.2.symm),h.b.setCell (by simp) _,h.rl,h.ro,h.nn⟩
 have h1:=h.m.set_ 23 (.int .i64 v)
 unfold cpC at h1 ⊢
 have hl:=h.rl
 rw [List.set_append_right _ _ (by simp),List.set_append_right _ _ (by simp [hl]),List.set_append_left _ _ (by simp [hl,Ps.v])] at h1
 simpa [hl,Ps.v] using h1
def Ps.adw (p:Ps) (m:Int):Ps:={ p with il:=if padv (pok p.m p.key p.cd p.il p.cc p.pg p.ad) m=true then m / 2 else p.il,ad:=if padv (pok p.m p.key p.cd p.il p.cc p.pg p.ad) m=true then (p.ad+m) % 16777216 else p.ad }
theorem padw_c (p:Ps) (m:Int) (W:World):Calls Tryz.prog 39 #[.agg p.v.toArray,.int .i64 m] W fun e w'=>e=.returned (.agg (p.adw m).v.toArray)∧Below W.heap.size W w':=
 advance_c p.m p.key p.M p.W p.P p.cd p.il p.cc p.pg p.ad m W
theorem cex_w (h:CX w0 w g F rs p n bs z) (r1 x2 b2 d2:Int) (hr:0≤r1∧r1<16) (hx:0≤x2∧x2<16) (hb2:0≤b2∧b2<16):Calls Tryz.prog 60 #[.pointer (some ⟨g,0,none⟩),insV [68,2,r1,0,x2,0,0,b2,d2,0,0,0]] w (Pc ErV w0 w g F z):=by
 have H0:=lh h
 have H:=lh h.cp
 have e0:g<w.heap.size∧F.g<w.heap.size∧F.gb<w.heap.size∧F.gk<w.heap.size:=h.lt
 obtain ⟨r,rfl⟩:=Int.eq_ofNat_of_zero_le hr.1
 have HR:=lh (show r<16 by omega)
 have HI:=lh (⟨hx,hb2⟩:(0≤x2∧x2<16)∧(0≤b2∧b2<16))
 clear h hr hx hb2
 unfold insV
 go_enter Tryz.func60,Tryz.ntmps60
 go_upto_region 1 with fail
 have hI:=Bk.new w ([.int .i64 68,.int .i64 2,.int .i64 (r:Int),.int .i64 0,.int .i64 x2,.int .i64 0,.int .i64 0,.int .i64 b2,.int .i64 d2,.int .i64 0,.int .i64 0,.int .i64 0]:List Value) 54
 have hE:=Bk.new (w.alloc (.cells ([.int .i64 68,.int .i64 2,.int .i64 (r:Int),.int .i64 0,.int .i64 x2,.int .i64 0,.int .i64 0,.int .i64 b2,.int .i64 d2,.int .i64 0,.int .i64 0,.int .i64 0]:List Value).toArray 54)) [.int .i64 0,.int .i64 0,.int .i64 0,.int .i64 0] 44
 have hb:=((Below.refl w.heap.size w).alloc (Nat.le_refl _) (.cells ([.int .i64 68,.int .i64 2,.int .i64 (r:Int),.int .i64 0,.int .i64 x2,.int .i64 0,.int .i64 0,.int .i64 b2,.int .i64 d2,.int .i64 0,.int .i64 0,.int .i64 0]:List Value).toArray 54)).alloc (by simp) (.cells ([.int .i64 0,.int .i64 0,.int .i64 0,.int .i64 0]:List Value).toArray 44)
 replace hI:=hI.alloc (.cells ([.int .i64 0,.int .i64 0,.int .i64 0,.int .i64 0]:List Value).toArray 44)
 replace H:=lh (H.out.keep hb)
 simp only [World.size_alloc] at hE
 have hlt:=hE.lt
 obtain ⟨w1,hW⟩:∃V,(w.alloc (.cells ([.int .i64 68,.int .i64 2,.int .i64 (r:Int),.int .i64 0,.int .i64 x2,.int .i64 0,.int .i64 0,.int .i64 b2,.int .i64 d2,.int .i64 0,.int .i64 0,.int .i64 0]:List Value).toArray 54)).alloc (.cells ([.int .i64 0,.int .i64 0,.int .i64 0,.int .i64 0]:List Value).toArray 44)=V:=⟨_,rfl⟩
 rw [hW] at hI hE H hlt
 first | rw [hW] | (change wp _ _ _ w1)
 obtain ⟨g3,hg⟩:∃k,w.heap.size=k:=⟨_,rfl⟩
 rw [hg] at hI hE e0 hlt
 try simp only [hg]
 have e9:w.heap.size≤g3:=Nat.le_of_eq hg
 have c2:w1.cell? ⟨g3,2,none⟩=some (.int .i64 (r:Int)):=hI.cell (c:=2) rfl
 have c4:w1.cell? ⟨g3,4,none⟩=some (.int .i64 x2):=hI.cell (c:=4) rfl
 have c7:w1.cell? ⟨g3,7,none⟩=some (.int .i64 b2):=hI.cell (c:=7) rfl
 have c8:w1.cell? ⟨g3,8,none⟩=some (.int .i64 d2):=hI.cell (c:=8) rfl
 have E:=lh hE
 have I:=lh hI
 clear hW hg hb hE hI
 refine wp_region_lit ?_
 iterate 8 refine lsv (w':=w1) ?_
 refine lsv (v:=.slice (some ⟨w1.heap.size,0,none⟩) 2 2) (w':=w1.alloc (.cells ([.int .i64 b2,.int .i64 x2]:List Value).toArray 3)) ?_
 have al:=(Below.refl w1.heap.size w1).alloc (Nat.le_refl _) (.cells ([.int .i64 b2,.int .i64 x2]:List Value).toArray 3)
 have hN:=Bk.new w1 [.int .i64 b2,.int .i64 x2] 3
 replace H:=lh (H.out.keep al)
 replace E:=lh (E.out.keep al)
 replace I:=lh (I.out.keep al)
 clear c2 c4 c7 c8
 obtain ⟨w2,hW⟩:∃V,w1.alloc (.cells ([.int .i64 b2,.int .i64 x2]:List Value).toArray 3)=V:=⟨_,rfl⟩
 rw [hW] at hN H E I
 rw [hW]
 obtain ⟨g17,hg⟩:∃k,w1.heap.size=k:=⟨_,rfl⟩
 rw [hg] at hN hlt
 try simp only [hg]
 have N:=lh hN
 have l17:=hN.lt
 clear hW hg al hN
 refine lsce ((caddr_w (m:=2) (cap:=2) (d:=d2) (xs:=[b2,x2]) H.out (Nat.le_refl 2) (fun i hi=>by rcases i with _ | _ | i;exact N.out.cell (c:=0) rfl;exact N.out.cell (c:=1) rfl;omega) (fun i hi=>by rcases i with _ | _ | i;exact HI.out.2;exact HI.out.1;omega)).mono (R':=fun e w'=>∃v,e=.returned v∧(∃a:Int,v=.int .i64 a)∧w2=w') fun e w' h=>h) ?_
 intro v w3 Z
 obtain ⟨⟨a,rfl⟩,hw⟩:=Z.out
 subst hw
 clear Z N
 refine lsce (cfet_w H.out a) ?_
 intro v w4 Z
 obtain ⟨⟨v1,l,c,ys,rfl,hO,hl,hc⟩,hb⟩:=Z.out
 replace H:=lh (H.out.keep hb)
 replace E:=lh (E.out.keep hb)
 replace I:=lh (I.out.keep hb)
 have OO:=lh hO
 have HL:=lh (⟨hl,hc⟩:l≤6∧(c=0→2≤l))
 have l24:=hb.size
 clear Z hb hO hl hc
 iterate 5 refine lsv (w':=w4) ?_
 refine wpList_nil ?_
 by_cases h0:c=0
 rotate_left
 ·have e2:(c == 0)=false:=by rw [beq_eq_false_iff_ne];exact h0
  have e3:(c != 0)=true:=by simpa using h0
  go_upto_region 3 with fail
  refine wp_region_lit ?_
  refine lsv (v:=.agg ([.int .i64 0,.int .i64 0,.int .i64 0,.int .i64 0]:List Value).toArray) (w':=w4) ?_ (hr:=by first | (go_simp;done) | (go_simp;kernel_rfl))
  refine lsv (w':=w4) ?_
  refine lss (cs':=[.int .i64 0,.int .i64 0,.int .i64 0,.int .i64 0]) E.out (by rfl) (by simp [Value.oneCell']) (by kernel_rfl) ?_
  refine lsv ?_
  refine wpList_nil ?_
  have H9:=rowCP (k:=g3+1) (cs:=([.int .i64 0,.int .i64 0,.int .i64 0,.int .i64 0]:List Value).toArray) H.out (Nat.le_succ g3) (by omega)
  go_wp2
  first | refine bodyPost_ret (res_cell2 rfl _ _ _ _ rfl (E.out.rowSet ([.int .i64 0,.int .i64 0,.int .i64 0,.int .i64 0]:List Value)) Tryz.underlying44 rfl (by kernel_rfl)) rfl ?_ | refine bodyPost_end (res_cell2 rfl _ _ _ _ rfl (E.out.rowSet ([.int .i64 0,.int .i64 0,.int .i64 0,.int .i64 0]:List Value)) Tryz.underlying44 rfl (by kernel_rfl)) rfl ?_
  exact ⟨_,rfl,⟨_,_,_,_,_,rfl⟩,(H0.out.to H9 H0.out.pk H0.out.mg).e,H9.b⟩
 have h2:=HL.out.2 h0
 subst h0
 obtain ⟨b,cap,hv,hb1,hb2,-,-⟩:=OO.out.pos (by omega)
 subst hv
 have Y:=lh OO.out.byt
 obtain ⟨op,hop⟩:∃op,ys.getD 0 0=op:=⟨_,rfl⟩
 obtain ⟨y1,hy1⟩:∃y,ys.getD 1 0=y:=⟨_,rfl⟩
 have O0:=Y.out.range 0
 have O1:=Y.out.range 1
 rw [hy1] at O1
 have hl0:(0:Int)<(l:Int):=by omega
 have hl1:(1:Int)<(l:Int):=by omega
 have cb0:=byt_c Y.out (i:=0) (by omega)
 have cb1:=byt_c Y.out (i:=1) (by omega)
 rw [hop] at cb0
 rw [hy1] at cb1
 by_cases h68:op=68
 ·subst h68
  go_upto_region 5 with fail
  refine wp_region_lit ?_
  refine lsv (v:=.agg ([.int .i64 0,.int .i64 0,.int .i64 0,.int .i64 0]:List Value).toArray) (w':=w4) ?_ (hr:=by first | (go_simp;done) | (go_simp;kernel_rfl))
  refine lss (cs':=[.int .i64 0,.int .i64 0,.int .i64 0,.int .i64 0]) E.out (by rfl) (by simp [Value.oneCell']) (by kernel_rfl) ?_
  refine lsv ?_
  refine wpList_nil ?_
  have H9:=rowCP (k:=g3+1) (cs:=([.int .i64 0,.int .i64 0,.int .i64 0,.int .i64 0]:List Value).toArray) H.out (Nat.le_succ g3) (by omega)
  go_wp2
  first | refine bodyPost_ret (res_cell2 rfl _ _ _ _ rfl (E.out.rowSet ([.int .i64 0,.int .i64 0,.int .i64 0,.int .i64 0]:List Value)) Tryz.underlying44 rfl (by kernel_rfl)) rfl ?_ | refine bodyPost_end (res_cell2 rfl _ _ _ _ rfl (E.out.rowSet ([.int .i64 0,.int .i64 0,.int .i64 0,.int .i64 0]:List Value)) Tryz.underlying44 rfl (by kernel_rfl)) rfl ?_
  exact ⟨_,rfl,⟨_,_,_,_,_,rfl⟩,(H0.out.to H9 H0.out.pk H0.out.mg).e,H9.b⟩
 have e68:(op == 68)=false:=by rw [beq_eq_false_iff_ne];exact h68
 have OP:=lh (show ys.getD 0 0≠68 by rw [hop];exact h68)
 have c2:w4.cell? ⟨g3,2,none⟩=some (.int .i64 (r:Int)):=I.out.cell (c:=2) rfl
 clear hop h68
 by_cases hr0:(r:Int)=0
 ·rw [hr0] at c2
  go_upto_region 8 with fail
  refine wp_region_lit ?_
  iterate 2 refine lsv (w':=w4) ?_
  have HX:=lh (H0.out.to H.out H0.out.pk H0.out.mg)
  refine lsce (cexe_w HX.out Y.out (by have:=HL.out.1;omega) (fun h=>absurd h OP.out)) ?_
  intro v w6 Z
  obtain ⟨⟨ea,eb,ec,ed,ek,rfl⟩,⟨rs2,p2,n2,bs2,hX⟩,hC⟩:=Z.out
  have H6:=lh (H.out.nx hX hC)
  replace E:=lh (E.out.ch hC (by simp;omega))
  have PK:=lh hX.pk
  have MM:=lh hX.mg
  clear Z hX hC HX
  iterate 2 refine lsv (w':=w6) ?_
  refine lss (cs':=[.int .i64 ea,.int .i64 eb,.int .i64 ec,.int .i64 ed]) E.out (by rfl) (by simp [Value.oneCell']) (by kernel_rfl) ?_
  refine lsv ?_
  refine wpList_nil ?_
  have H9:=rowCP (k:=g3+1) (cs:=([.int .i64 ea,.int .i64 eb,.int .i64 ec,.int .i64 ed]:List Value).toArray) H6.out (Nat.le_succ g3) (by omega)
  go_wp2
  first | refine bodyPost_ret (res_cell2 rfl _ _ _ _ rfl (E.out.rowSet ([.int .i64 ea,.int .i64 eb,.int .i64 ec,.int .i64 ed]:List Value)) Tryz.underlying44 rfl (by kernel_rfl)) rfl ?_ | refine bodyPost_end (res_cell2 rfl _ _ _ _ rfl (E.out.rowSet ([.int .i64 ea,.int .i64 eb,.int .i64 ec,.int .i64 ed]:List Value)) Tryz.underlying44 rfl (by kernel_rfl)) rfl ?_
  exact ⟨_,rfl,⟨_,_,_,_,_,rfl⟩,(H0.out.to H9 PK.out MM.out).e,H9.b⟩
 have er:((r:Int) == 0)=false:=by rw [beq_eq_false_iff_ne];exact hr0
 have er2:((r:Int) != 0)=true:=by simpa using hr0
 clear hr0
 go_upto_region 7 with fail
 obtain ⟨x,hx⟩:∃x,rs.getD r 0=x:=⟨_,rfl⟩
 obtain ⟨x8,hx8⟩:∃y,IntKind.u8.wrap x=y:=⟨_,rfl⟩
 obtain ⟨yy,hyy⟩:∃y,bits .or .u8 y1 x8=y:=⟨_,rfl⟩
 have YY:=lh (show 0≤yy∧yy≤255 by rw [← hyy];unfold bits;dsimp only;rw [IntKind.wrap_u8];omega)
 have CR:=lh (show ∀W,CP w W g F rs p n bs kG→W.cell? ⟨g,1+r,none⟩=some (.int .u32 x) from fun W hW=>by rw [← hx];exact hW.cr HR.out)
 have r16:(r:Int)<16:=by have:=HR.out;omega
 clear hx c2 cb0
 refine wp_region_held_drew (S:=fun W=>CP w W g F rs p n bs kG∧Bk W g3 54 ([.int .i64 68,.int .i64 2,.int .i64 (r:Int),.int .i64 0,.int .i64 x2,.int .i64 0,.int .i64 0,.int .i64 b2,.int .i64 d2,.int .i64 0,.int .i64 0,.int .i64 0]:List Value)) (by kernel_rfl) ⟨H.out.drew,I.out.drewN 1⟩ (fun hHeld=>?_)
 have hO:Own w4.drew w2.heap.size (.slice (some ⟨b,0,none⟩) l cap) l ys:=OO.out.below (dBelow' (Below.refl w4.heap.size w4) 1) fun gg ee=>(OO.out.1.lt gg ee).2
 have hE:Bk w4.drew (g3+1) 44 [.int .i64 0,.int .i64 0,.int .i64 0,.int .i64 0]:=E.out.drewN 1
 replace cb1:w4.drew.cell? ⟨b,1,none⟩=some (.int .u8 y1):=cb1
 have hbz:b<w4.drew.heap.size:=hb2
 obtain ⟨v7,hv⟩:∃V,w4.drew=V:=⟨_,rfl⟩
 rw [hv] at hO hE cb1 hHeld hbz ⊢
 replace OO:=lh hO
 replace E:=lh hE
 have H7:=lh hHeld.1
 have I7:=lh hHeld.2
 clear hv hO hE H I Y
 have fb:=own_free OO.out
 refine tki 0 ?_
 refine tki 1 ?_
 refine tki 3 ?_
 refine tki 4 ?_
 refine tki 5 (v:=.int .i64 (r:Int)) ?_ (y:=by (intro W hSw;have c1:W.cell? ⟨g3,2,none⟩=some (.int .i64 (r:Int)):=hSw.2.cell (c:=2) rfl;go_simp;(try with_reducible rfl)))
 refine tki 6 ?_
 refine tki 7 ?_
 refine tki 8 (v:=.pointer (some ⟨g,1+r,none⟩)) ?_
 refine tki 9 (v:=.int .u32 x) ?_ (y:=by (intro W hSw;have c1:=CR.out W hSw.1;go_simp;(try with_reducible rfl)))
 refine tki 10 (v:=.int .u8 x8) ?_
 refine tkv (i:=2) (v:=.int .u8 y1) ?_
 refine tki 11 (v:=.int .u8 yy) ?_
 refine tki 12 ?_
 refine tkw (w1:=v7.setCell ⟨b,1,none⟩ (.int .u8 yy)) (R:=fun W=>(CP w W g F rs p n bs kG∧Bk W g3 54 ([.int .i64 68,.int .i64 2,.int .i64 (r:Int),.int .i64 0,.int .i64 x2,.int .i64 0,.int .i64 0,.int .i64 b2,.int .i64 d2,.int .i64 0,.int .i64 0,.int .i64 0]:List Value))∧Byt W (some ⟨b,0,none⟩) l (ys.set 1 yy)∧Bk W (g3+1) 44 [.int .i64 0,.int .i64 0,.int .i64 0,.int .i64 0]) ⟨⟨H7.out.oth (a:=⟨b,1,none⟩) (.int .u8 yy) ⟨by show b≠g;omega,by show b≠F.g;omega,by show b≠F.gb;omega,by show b≠F.gk;omega⟩ (by show w.heap.size≤b;omega),I7.out.other (.int .u8 yy) (p:=⟨b,1,none⟩) (by show b≠g3;omega)⟩,own_set1 OO.out (by omega) YY.out,E.out.other (.int .u8 yy) (p:=⟨b,1,none⟩) (by show b≠g3+1;omega)⟩ (fun _ h=>h.1) ?_
 clear hHeld cb1 fb H7 I7 E OO
 intro w5 Z hHeld
 refine wpAnyH_done (by with_unfolding_all rfl) ?_ _
 clear hHeld
 have H:=lh Z.out.1.1
 have Y:=lh Z.out.2.1
 have E:=lh Z.out.2.2
 replace OP:Hid ((ys.set 1 yy).getD 0 0≠68):=lh (by rw [List.getD_eq_getElem?_getD,List.getElem?_set_ne (by omega),← List.getD_eq_getElem?_getD];exact OP.out)
 clear Z
 go_upto_region 8 with fail
 refine wp_region_lit ?_
 iterate 2 refine lsv (w':=w5) ?_
 have HX:=lh (H0.out.to H.out H0.out.pk H0.out.mg)
 refine lsce (cexe_w HX.out Y.out (by have:=HL.out.1;omega) (fun h=>absurd h OP.out)) ?_
 intro v w6 Z
 obtain ⟨⟨ea,eb,ec,ed,ek,rfl⟩,⟨rs2,p2,n2,bs2,hX⟩,hC⟩:=Z.out
 have H6:=lh (H.out.nx hX hC)
 replace E:=lh (E.out.ch hC (by simp;omega))
 have PK:=lh hX.pk
 have MM:=lh hX.mg
 clear Z hX hC HX
 iterate 2 refine lsv (w':=w6) ?_
 refine lss (cs':=[.int .i64 ea,.int .i64 eb,.int .i64 ec,.int .i64 ed]) E.out (by rfl) (by simp [Value.oneCell']) (by kernel_rfl) ?_
 refine lsv ?_
 refine wpList_nil ?_
 have H9:=rowCP (k:=g3+1) (cs:=([.int .i64 ea,.int .i64 eb,.int .i64 ec,.int .i64 ed]:List Value).toArray) H6.out (Nat.le_succ g3) (by omega)
 go_wp2
 first | refine bodyPost_ret (res_cell2 rfl _ _ _ _ rfl (E.out.rowSet ([.int .i64 ea,.int .i64 eb,.int .i64 ec,.int .i64 ed]:List Value)) Tryz.underlying44 rfl (by kernel_rfl)) rfl ?_ | refine bodyPost_end (res_cell2 rfl _ _ _ _ rfl (E.out.rowSet ([.int .i64 ea,.int .i64 eb,.int .i64 ec,.int .i64 ed]:List Value)) Tryz.underlying44 rfl (by kernel_rfl)) rfl ?_
 exact ⟨_,rfl,⟨_,_,_,_,_,rfl⟩,(H0.out.to H9 PK.out MM.out).e,H9.b⟩
theorem cexe_all {zs:List Int} {A:Option Addr} {len cap:Nat} (h:CX w0 w g F rs p n bs z) (hy:Byt w A len zs) (hlen:(len:Int)≤9223372036854775807):Calls Tryz.prog 40 #[.pointer (some ⟨g,0,none⟩),.slice A len cap] w (Pc ErV w0 w g F z):=by
 refine cexe_w h hy hlen (fun h68 W hW=>?_)
 obtain ⟨r1,x2,b2,d2,e,h1,h2,h3⟩:=decI_68 h68 (fun i=>hy.range i)
 rw [e]
 exact cex_w hW r1 x2 b2 d2 h1 h2 h3
theorem cnext_w (h:CX w0 w g F rs p n bs z):Calls Tryz.prog 27 #[.pointer (some ⟨g,0,none⟩)] w (Pc ErV w0 w g F z):=by
 have H0:=lh h
 have H:=lh h.cp
 have e0:g<w.heap.size∧F.g<w.heap.size∧F.gb<w.heap.size∧F.gk<w.heap.size:=h.lt
 clear h
 go_enter Tryz.func27,Tryz.ntmps27
 go_upto_region 1 with fail
 have hE:=Bk.new w [.int .i64 0,.int .i64 0,.int .i64 0,.int .i64 0] 44
 have hb:=(Below.refl w.heap.size w).alloc (Nat.le_refl _) (.cells ([.int .i64 0,.int .i64 0,.int .i64 0,.int .i64 0]:List Value).toArray 44)
 replace H:=lh (H.out.keep hb)
 have hlt:=hE.lt
 obtain ⟨w1,hW⟩:∃V,w.alloc (.cells ([.int .i64 0,.int .i64 0,.int .i64 0,.int .i64 0]:List Value).toArray 44)=V:=⟨_,rfl⟩
 rw [hW] at hE H hlt
 try rw [hW]
 obtain ⟨g2,hg⟩:∃k,w.heap.size=k:=⟨_,rfl⟩
 rw [hg] at hE e0 hlt
 try simp only [hg]
 have e9:w.heap.size≤g2:=Nat.le_of_eq hg
 have E:=lh hE
 clear hW hg hb hE
 refine H.out.opn ?_
 intros
 refine wp_region_lit ?_
 iterate 6 refine lsv (w':=w1) ?_
 refine lsce (cfet_w H.out p.ad) ?_
 intro v w2 Z
 obtain ⟨⟨v1,l,c,ys,rfl,hO,hl,hc⟩,hb⟩:=Z.out
 replace H:=lh (H.out.keep hb)
 replace E:=lh (E.out.keep hb)
 have OO:=lh hO
 have HL:=lh (⟨hl,hc⟩:l≤6∧(c=0→2≤l))
 have l2:=hb.size
 clear Z hb hO hl hc
 iterate 5 refine lsv (w':=w2) ?_
 refine wpList_nil ?_
 by_cases h0:c=0
 rotate_left
 ·have e2:(c == 0)=false:=by rw [beq_eq_false_iff_ne];exact h0
  have e3:(c != 0)=true:=by simpa using h0
  go_upto_region 3 with fail
  refine wp_region_lit ?_
  iterate 4 refine lsv (w':=w2) ?_
  refine lsk (w':=w2.setCell ⟨g,23,none⟩ (.int .i64 0)) (by unfold execOp;have c:=H.out.cp (j:=6) rfl;have f:=H.out.fz;go_simp;(try rfl)) ?_
  refine wpList_nil ?_
  have hH:=H.out.setil 0
  have hE:=E.out.ch ((Ch.refl w2 [g,F.gb]).setCell (p:=⟨g,23,none⟩) (by simp) (.int .i64 0)) (by simp;omega)
  obtain ⟨w3,hW⟩:∃V,w2.setCell ⟨g,23,none⟩ (.int .i64 0)=V:=⟨_,rfl⟩
  rw [hW] at hH hE
  rw [hW]
  replace H:=lh hH
  replace E:=lh hE
  clear hW hH hE
  go_upto_region 4 with fail
  refine wp_region_lit ?_
  refine lsv (v:=.agg ([.int .i64 0,.int .i64 0,.int .i64 0,.int .i64 0]:List Value).toArray) (w':=w3) ?_ (hr:=by first | (go_simp;done) | (go_simp;kernel_rfl))
  refine lsv (w':=w3) ?_
  refine lss (cs':=[.int .i64 0,.int .i64 0,.int .i64 0,.int .i64 0]) E.out (by rfl) (by simp [Value.oneCell']) (by kernel_rfl) ?_
  refine lsv ?_
  refine wpList_nil ?_
  have H9:=rowCP (k:=g2) (cs:=([.int .i64 0,.int .i64 0,.int .i64 0,.int .i64 0]:List Value).toArray) H.out (Nat.le_refl g2) (by omega)
  go_wp2
  first | refine bodyPost_ret (res_cell2 rfl _ _ _ _ rfl (E.out.rowSet ([.int .i64 0,.int .i64 0,.int .i64 0,.int .i64 0]:List Value)) Tryz.underlying44 rfl (by kernel_rfl)) rfl ?_ | refine bodyPost_end (res_cell2 rfl _ _ _ _ rfl (E.out.rowSet ([.int .i64 0,.int .i64 0,.int .i64 0,.int .i64 0]:List Value)) Tryz.underlying44 rfl (by kernel_rfl)) rfl ?_
  exact ⟨_,rfl,⟨_,_,_,_,_,rfl⟩,(H0.out.to H9 H0.out.pk H0.out.mg).e,H9.b⟩
 have h2:=HL.out.2 h0
 subst h0
 obtain ⟨b,cap,hv,hb1,hb2,-,-⟩:=OO.out.pos (by omega)
 subst hv
 have Y:=lh OO.out.byt
 clear OO
 obtain ⟨n1,hn1⟩:∃k,IntKind.i64.wrap (n+1)=k:=⟨_,rfl⟩
 go_upto_region 5 with fail
 refine H.out.opn ?_
 intros
 refine wp_region_lit ?_
 iterate 4 refine lsv (w':=w2) ?_
 refine lsv (v:=.int .i64 n1) (w':=w2) ?_
 iterate 2 refine lsv (w':=w2) ?_
 refine lsk (w':=w2.setCell ⟨g,34,none⟩ (.int .i64 n1)) (by unfold execOp;go_simp;(try rfl)) ?_
 refine wpList_nil ?_
 have H3:=lh (H.out.sett n1)
 have C3:=(Ch.refl w2 [g,F.gb]).setCell (p:=⟨g,34,none⟩) (by simp) (.int .i64 n1)
 have E3:=lh (E.out.ch C3 (by simp;omega))
 have Y3:=lh (Y.out.chg C3 hb2 (by simp;omega))
 have l3:=C3.size
 obtain ⟨w3,hW⟩:∃V,w2.setCell ⟨g,34,none⟩ (.int .i64 n1)=V:=⟨_,rfl⟩
 rw [hW] at H3 E3 Y3 l3
 rw [hW]
 clear hW C3 H E Y hn1
 go_upto_region 6 with fail
 refine wp_region_lit ?_
 refine H3.out.opn ?_
 intros
 iterate 4 refine lsv (w':=w3) ?_
 refine lsm (cs:=p.v) H3.out.rowP ?_
 iterate 2 refine lsv (w':=w3) ?_
 refine lsc (padw_c p (l:Int) _) ?_
 intro w4 B4
 have H4:=lh (H3.out.keep B4.out)
 have E4:=lh (E3.out.keep B4.out)
 have Y4:=lh (Y3.out.keep B4.out)
 have l4':=B4.out.size
 clear H3 E3 Y3 B4
 iterate 2 refine lsv (w':=w4) ?_
 refine lsn (cs:=p.v) (cs':=(p.adw l).v) H4.out.rowP H4.out.fz (by rfl) (one_ps _) (by kernel_rfl) ?_
 refine wpList_nil ?_
 have H5:=lh (H4.out.setp (p.adw l))
 have C5:=Ch.cells (a:=w4) (g:=g) (L:=[g,F.gb]) (.inl (by simp)) (p.adw l).v 17 _ (Ch.refl w4 _)
 have E5:=lh (E4.out.ch C5 (by simp;omega))
 have Y5:=lh (Y4.out.chg C5 (by omega) (by simp;omega))
 have l5:=C5.size
 obtain ⟨w5,hW⟩:∃V,w4.setCells g 17 (p.adw l).v=V:=⟨_,rfl⟩
 rw [hW] at H5 E5 Y5 l5
 rw [hW]
 clear hW C5 H4 E4 Y4
 go_upto_region 7 with fail
 have HX:=lh (H0.out.to H5.out (show (p.adw l).key=1∧(p.adw l).P=true∧(p.adw l).W=false from H0.out.pk) H0.out.mg)
 refine wp_region_lit ?_
 iterate 2 refine lsv (w':=w5) ?_
 refine lsce (cexe_all HX.out Y5.out (by have:=HL.out.1;omega)) ?_
 intro v w6 Z
 obtain ⟨⟨ea,eb,ec,ed,ek,rfl⟩,⟨rs2,p2,n2,bs2,hX⟩,hC⟩:=Z.out
 have H6:=lh (H5.out.nx hX hC)
 have E6:=lh (E5.out.ch hC (by simp;omega))
 have PK:=lh hX.pk
 have MM:=lh hX.mg
 clear Z hX hC HX H5 E5 Y5
 iterate 2 refine lsv (w':=w6) ?_
 refine lss (cs':=[.int .i64 ea,.int .i64 eb,.int .i64 ec,.int .i64 ed]) E6.out (by rfl) (by simp [Value.oneCell']) (by kernel_rfl) ?_
 refine lsv ?_
 refine wpList_nil ?_
 have H9:=rowCP (k:=g2) (cs:=([.int .i64 ea,.int .i64 eb,.int .i64 ec,.int .i64 ed]:List Value).toArray) H6.out (Nat.le_refl g2) (by omega)
 go_wp2
 first | refine bodyPost_ret (res_cell2 rfl _ _ _ _ rfl (E6.out.rowSet ([.int .i64 ea,.int .i64 eb,.int .i64 ec,.int .i64 ed]:List Value)) Tryz.underlying44 rfl (by kernel_rfl)) rfl ?_ | refine bodyPost_end (res_cell2 rfl _ _ _ _ rfl (E6.out.rowSet ([.int .i64 ea,.int .i64 eb,.int .i64 ec,.int .i64 ed]:List Value)) Tryz.underlying44 rfl (by kernel_rfl)) rfl ?_
 exact ⟨_,rfl,⟨_,_,_,_,_,rfl⟩,(H0.out.to H9 PK.out MM.out).e,H9.b⟩
theorem cstep_w (h:CX w0 w g F rs p n bs z):Calls Tryz.prog 14 #[.pointer (some ⟨g,0,none⟩)] w (Pc EvV w0 w g F z):=by
 have H0:=lh h
 have H:=lh h.cp
 have PW:=h.pk.2.2
 have e0:g<w.heap.size∧F.g<w.heap.size∧F.gb<w.heap.size∧F.gk<w.heap.size:=h.lt
 clear h
 go_enter Tryz.func14,Tryz.ntmps14
 go_upto_region 1 with fail
 have hE:=Bk.new w [.int .i64 0,.int .i64 0,.int .i64 0,.int .i64 0] 44
 have hb:=(Below.refl w.heap.size w).alloc (Nat.le_refl _) (.cells ([.int .i64 0,.int .i64 0,.int .i64 0,.int .i64 0]:List Value).toArray 44)
 replace H:=lh (H.out.keep hb)
 have hlt:=hE.lt
 obtain ⟨w1,hW⟩:∃V,w.alloc (.cells ([.int .i64 0,.int .i64 0,.int .i64 0,.int .i64 0]:List Value).toArray 44)=V:=⟨_,rfl⟩
 rw [hW] at hE H hlt
 try rw [hW]
 obtain ⟨g2,hg⟩:∃k,w.heap.size=k:=⟨_,rfl⟩
 rw [hg] at hE e0 hlt
 try simp only [hg]
 have e9:w.heap.size≤g2:=Nat.le_of_eq hg
 have E:=lh hE
 clear hW hg hb hE
 refine H.out.opn ?_
 intros
 go_upto_region 7 with fail
 refine wp_region_lit ?_
 refine lsv (w':=w1) ?_
 refine lsc (cadm_c H.out.rb) ?_
 intro w2 Z
 have H2:=lh (H.out.re Z.out)
 have E2:=lh (E.out.ch Z.out.b (by simp;omega))
 have l2:=Z.out.b.size
 clear Z H E
 iterate 3 refine lsv (w':=w2) ?_
 refine lsv (v:=.pointer (some ⟨w2.heap.size,0,none⟩)) (w':=w2.alloc (.cells ([.int .i64 0,.int .i64 0]:List Value).toArray 72)) ?_
 refine lss (cs':=[.int .i64 0,.int .i64 0]) (Bk.new w2 [.int .i64 0,.int .i64 0] 72) (by rfl) (by simp [Value.oneCell']) (by kernel_rfl) ?_
 refine lsv ?_
 refine wpList_nil ?_
 have hb:=below_row ((Below.refl w2.heap.size w2).alloc (Nat.le_refl _) (.cells ([.int .i64 0,.int .i64 0]:List Value).toArray 72)) (Nat.le_refl _) ([.int .i64 0,.int .i64 0]:List Value).toArray
 have H3:=lh (H2.out.keep hb)
 have E3:=lh (E2.out.keep hb)
 have l3:=hb.size
 obtain ⟨w3,hW⟩:∃V,(w2.alloc (.cells ([.int .i64 0,.int .i64 0]:List Value).toArray 72)).setRow w2.heap.size ([.int .i64 0,.int .i64 0]:List Value).toArray=V:=⟨_,rfl⟩
 rw [hW] at H3 E3 l3
 rw [hW]
 clear hW hb H2 E2
 refine H3.out.opn ?_
 rw [PW]
 intros
 have HX:=lh (H0.out.to H3.out H0.out.pk H0.out.mg)
 go_upto_region 12 with fail
 refine wp_region_lit ?_
 refine lsv (w':=w3) ?_
 refine lsce (cnext_w HX.out) ?_
 intro v w4 Z
 obtain ⟨⟨ea,eb,ec,ed,ek,rfl⟩,⟨rs2,p2,n2,bs2,hX⟩,hC⟩:=Z.out
 have H4:=lh (H3.out.nx hX hC)
 have E4:=lh (E3.out.ch hC (by simp;omega))
 have PK:=lh hX.pk
 have MM:=lh hX.mg
 have l4:=hC.size
 clear Z hX hC H3 E3 HX
 iterate 3 refine lsv (w':=w4) ?_
 refine lsv (v:=.pointer (some ⟨w4.heap.size,0,none⟩)) (w':=w4.alloc (.cells ([.int .i64 0,.int .i64 0,.int .i64 0,.int .i64 0]:List Value).toArray 44)) ?_
 refine lss (cs':=[.int .i64 ea,.int .i64 eb,.int .i64 ec,.int .i64 ed]) (Bk.new w4 [.int .i64 0,.int .i64 0,.int .i64 0,.int .i64 0] 44) (by rfl) (by simp [Value.oneCell']) (by kernel_rfl) ?_
 refine lsv ?_
 refine wpList_nil ?_
 have hb:=below_row ((Below.refl w4.heap.size w4).alloc (Nat.le_refl _) (.cells ([.int .i64 0,.int .i64 0,.int .i64 0,.int .i64 0]:List Value).toArray 44)) (Nat.le_refl _) ([.int .i64 ea,.int .i64 eb,.int .i64 ec,.int .i64 ed]:List Value).toArray
 have H5:=lh (H4.out.keep hb)
 have E5:=lh (E4.out.keep hb)
 have N5:=lh ((Bk.new w4 [.int .i64 0,.int .i64 0,.int .i64 0,.int .i64 0] 44).rowSet ([.int .i64 ea,.int .i64 eb,.int .i64 ec,.int .i64 ed]:List Value))
 obtain ⟨w5,hW⟩:∃V,(w4.alloc (.cells ([.int .i64 0,.int .i64 0,.int .i64 0,.int .i64 0]:List Value).toArray 44)).setRow w4.heap.size ([.int .i64 ea,.int .i64 eb,.int .i64 ec,.int .i64 ed]:List Value).toArray=V:=⟨_,rfl⟩
 rw [hW] at H5 E5 N5
 rw [hW]
 clear hW hb H4 E4
 by_cases h0:ek=0
 ·subst h0
  go_upto_region 15 with fail
  refine wp_region_lit ?_
  refine lsl (cs:=[.int .i64 ea,.int .i64 eb,.int .i64 ec,.int .i64 ed]) N5.out ?_
  refine lss (cs':=[.int .i64 ea,.int .i64 eb,.int .i64 ec,.int .i64 ed]) E5.out (by rfl) (by simp [Value.oneCell']) (by kernel_rfl) ?_
  refine wpList_nil ?_
  have H9:=rowCP (k:=g2) (cs:=([.int .i64 ea,.int .i64 eb,.int .i64 ec,.int .i64 ed]:List Value).toArray) H5.out (Nat.le_refl g2) (by omega)
  go_wp2
  first | refine bodyPost_ret (res_cell1 rfl _ _ _ _ rfl (E5.out.rowSet ([.int .i64 ea,.int .i64 eb,.int .i64 ec,.int .i64 ed]:List Value)) Tryz.underlying44 rfl (by kernel_rfl)) rfl ?_ | refine bodyPost_end (res_cell1 rfl _ _ _ _ rfl (E5.out.rowSet ([.int .i64 ea,.int .i64 eb,.int .i64 ec,.int .i64 ed]:List Value)) Tryz.underlying44 rfl (by kernel_rfl)) rfl ?_
  exact ⟨_,rfl,⟨_,_,_,_,rfl⟩,(H0.out.to H9 PK.out MM.out).e,H9.b⟩
 ·have e2:(ek == 0)=false:=by rw [beq_eq_false_iff_ne];exact h0
  have e3:(ek != 0)=true:=by simpa using h0
  clear h0
  have HX:=lh (H0.out.to H5.out PK.out MM.out)
  go_upto_region 14 with fail
  refine wp_region_lit ?_
  iterate 2 refine lsv (w':=w5) ?_
  refine lsce (ctake_w HX.out 3 ek 40 (.inr ⟨rfl,rfl⟩)) ?_
  intro v w6 Z
  obtain ⟨⟨fa,fb,fc,fd,rfl⟩,⟨rs3,p3,n3,bs3,hX⟩,hC⟩:=Z.out
  have H6:=lh (H5.out.nx hX hC)
  have E6:=lh (E5.out.ch hC (by simp;omega))
  have PK2:=lh hX.pk
  have MM2:=lh hX.mg
  clear Z hX hC HX H5 E5 N5
  refine lss (cs':=[.int .i64 fa,.int .i64 fb,.int .i64 fc,.int .i64 fd]) E6.out (by rfl) (by simp [Value.oneCell']) (by kernel_rfl) ?_
  refine wpList_nil ?_
  have H9:=rowCP (k:=g2) (cs:=([.int .i64 fa,.int .i64 fb,.int .i64 fc,.int .i64 fd]:List Value).toArray) H6.out (Nat.le_refl g2) (by omega)
  go_wp2
  first | refine bodyPost_ret (res_cell1 rfl _ _ _ _ rfl (E6.out.rowSet ([.int .i64 fa,.int .i64 fb,.int .i64 fc,.int .i64 fd]:List Value)) Tryz.underlying44 rfl (by kernel_rfl)) rfl ?_ | refine bodyPost_end (res_cell1 rfl _ _ _ _ rfl (E6.out.rowSet ([.int .i64 fa,.int .i64 fb,.int .i64 fc,.int .i64 fd]:List Value)) Tryz.underlying44 rfl (by kernel_rfl)) rfl ?_
  exact ⟨_,rfl,⟨_,_,_,_,rfl⟩,(H0.out.to H9 PK2.out MM2.out).e,H9.b⟩
end
theorem mem_ar:sGet (memN [[26,1,1,2,0,0,0,0,0,0,0,0]] 1).1 256 2=[26,18]∧(memN [[26,1,1,2,0,0,0,0,0,0,0,0]] 1).1.length=4096:=by
 have e:encI [26,1,1,2,0,0,0,0,0,0,0,0]=[26,18]:=by decide +kernel
 have hz:(z0 4096).length=4096:=by unfold z0;simp
 have hw:bsW.length=4096:=by
  unfold bsW
  rw [show (104:Int)=((104:Nat):Int) from rfl,show (96:Int)=((96:Nat):Int) from rfl,sput_len _ _ _ _ (by rw [sput_len _ _ _ _ (by rw [hz];decide),hz];decide),sput_len _ _ _ _ (by rw [hz];decide),hz]
 have hm:(memN [[26,1,1,2,0,0,0,0,0,0,0,0]] 1).1=sPut (alP 0) bsW (z0 2) ((256:Nat):Int) [26,18]:=by
  show sPut (alP 0) bsW (z0 2) 256 (encI [26,1,1,2,0,0,0,0,0,0,0,0])=_
  rw [e];rfl
 rw [hm]
 refine ⟨?_,by rw [sput_len _ _ _ _ (by rw [hw];decide),hw]⟩
 refine sget_eq _ [26,18] 256 2 rfl (by rw [sput_len _ _ _ _ (by rw [hw];decide),hw];decide) fun k hk=>?_
 rw [sput_get _ _ _ _ (by rw [hw];decide),if_pos (by simp;omega)]
 congr 1
 omega
theorem adds_c (w:World):Calls Tryz.prog 5 #[] w fun e w'=>e=.returned (.bool true)∧Below w.heap.size w w':=by
 go_enter Tryz.func5,Tryz.ntmps5
 go_upto_region 1 with fail
 refine wp_region_lit ?_
 refine lsv (v:=insV [26,1,1,2,0,0,0,0,0,0,0,0]) (w':=w) ?_ (hr:=by first | (go_simp;done) | (go_simp;kernel_rfl))
 refine lsv (v:=.slice (some ⟨w.heap.size,0,none⟩) 1 1) (w':=w.alloc (.cells (([26,1,1,2,0,0,0,0,0,0,0,0]:List Int).map (Value.int .i64)).toArray 54)) ?_
 have B1:=Bk.new w (([26,1,1,2,0,0,0,0,0,0,0,0]:List Int).map (Value.int .i64)) 54
 have L1:=(Below.refl w.heap.size w).alloc (Nat.le_refl _) (.cells (([26,1,1,2,0,0,0,0,0,0,0,0]:List Int).map (Value.int .i64)).toArray 54)
 obtain ⟨w1,hW⟩:∃V,w.alloc (.cells (([26,1,1,2,0,0,0,0,0,0,0,0]:List Int).map (Value.int .i64)).toArray 54)=V:=⟨_,rfl⟩
 rw [hW] at B1 L1
 rw [hW]
 clear hW
 have MC:=lh (machine_c (w:=w1) (b:=w.heap.size) (k:=1) (cap:=1) (ixs:=[[26,1,1,2,0,0,0,0,0,0,0,0]]) (p:=p00) rfl (by decide) B1.lt (fun i ix h=>by
  match i,h with
  | 0,h=>injection h with h;subst h;exact B1.row
  | n+1,h=>cases h) (fun ix h=>by
  rw [List.mem_singleton] at h
  subst h
  exact ⟨rfl,by decide,by decide +kernel⟩) (by decide +kernel))
 have LL:=lh L1
 clear B1 L1
 refine lsv (v:=.agg p00.v.toArray) (w':=w1) ?_ (hr:=by first | (go_simp;done) | (go_simp;kernel_rfl))
 refine lsce MC.out ?_
 intro v w2 Z
 obtain ⟨g,F,rfl,hC,hb,hg1,hg2⟩:=Z.out
 have H:=lh (show CP w2 w2 g F zr16 p256 0 (memN [[26,1,1,2,0,0,0,0,0,0,0,0]] 1).1 (z0 2) from hC)
 have hl1:=LL.out.size
 replace LL:=lh (LL.out.trans (hb.mono LL.out.size))
 have hlw:=LL.out.size
 clear Z hC hb MC
 iterate 5 refine lsv (w':=w2) ?_
 refine wpList_nil ?_
 go_upto_region 2 with fail
 refine wp_region_lit ?_
 iterate 4 refine lsv (w':=w2) ?_
 refine lsv (v:=.agg (([0,5,7,0,0,0,0,0,0,0,0,0,0,0,0,0]:List Int).map (Value.int .u32)).toArray) (w':=w2) ?_ (hr:=by first | (go_simp;done) | (go_simp;kernel_rfl))
 refine lsc (csetregs_c (os:=[0,5,7,0,0,0,0,0,0,0,0,0,0,0,0,0]) H.out rfl (by decide)) ?_
 intro w3 Z
 replace H:=lh Z.out
 clear Z
 iterate 2 refine lsv (w':=w3) ?_
 refine wpList_nil ?_
 go_upto_region 4 with fail
 refine wp_region_lit ?_
 refine lsv (w':=w3) ?_
 refine lsc (step_ar H.out mem_ar.2 mem_ar.1) ?_
 intro w4 Z
 replace H:=lh Z.out
 clear Z
 refine lsv (v:=.agg #[.int .i64 0,.int .i64 0,.int .i64 0,.int .i64 0]) (w':=w4) ?_ (hr:=by first | (go_simp;done) | (go_simp;kernel_rfl))
 refine lsv (v:=.bool true) (w':=w4) ?_ (hr:=by unfold execOp;simp only [Act.eval];kernel_rfl)
 iterate 2 refine lsv (w':=w4) ?_
 refine lsc (cregs_c H.out) ?_
 intro w5 Z
 replace H:=lh Z.out
 clear Z
 refine lsv (v:=.int .u32 12) (w':=w5) ?_ (hr:=by first | (go_simp;done) | (go_simp;kernel_rfl))
 refine lsv (v:=.bool true) (w':=w5) ?_
 iterate 3 refine lsv (w':=w5) ?_
 refine lsc (cpsw_c H.out) ?_
 intro w6 Z
 replace H:=lh Z.out
 clear Z
 refine lsv (v:=.int .i64 2) (w':=w6) ?_ (hr:=by first | (go_simp;done) | (go_simp;kernel_rfl))
 refine lsv (v:=.bool true) (w':=w6) ?_
 iterate 2 refine lsv (w':=w6) ?_
 refine wpList_nil ?_
 go_wp2
 go_ret
 have lw:=LL.out.size
 exact ⟨rfl,below_ch LL.out H.out.b (by simp;omega) hlw⟩
theorem layK {T:TypeId} {w:World} {F:Foot} {bs ks:List Int} (h:St T w F bs ks) (hT:T≠3) (ys:List Int) (hy:∀z∈ys,0≤z∧z≤31) (hl:ys.length=ks.length) :
  ∃cur:List Value,w.heap[F.gk]?=some (.cells cur.toArray 3 (0,0))∧cur.length=F.ck∧St T (w.setRow F.gk (splice cur 0 (ys.map (Value.int .i64))).toArray) F bs ys:=by
 obtain ⟨cur,h1,h2,h3⟩:=h.k.lay 0 (ys.map (Value.int .i64)) (by simp;omega)
 refine ⟨cur,h1,h2,?_,?_,?_,h.rb,hy,by rw [hl];exact h.ln,by rw [hl];exact h.l0,by rw [hl];exact h.l1⟩
 ·rw [hl];exact (setRow_other _ _ _ _ (Ne.symm (h.ngk hT))).trans h.hd
 ·exact h.b.keep (setRow_other _ _ _ _ h.nbk)
 ·have e2:splice (ks.map (Value.int .i64)) 0 (ys.map (Value.int .i64))=ys.map (Value.int .i64):=splice_all _ _ (by simp [hl])
  rw [e2] at h3;exact h3
theorem run_copy_keys {T T':TypeId} {w:World} {F F':Foot} {bs ks bs' ks':List Int} (h:St T w F bs ks) (h':St T' w F' bs' ks') (hT:T'≠3) (hl:ks.length=ks'.length) (m:Nat) (hm:ks.length=m) :
  ∃w2,(Builtin.copy_ #[61,61] 3 #[.slice (some ⟨F'.gk,0,none⟩) m F'.ck,.slice (some ⟨F.gk,0,none⟩) m F.ck]).run Tryz.prog w=.ok (.int .i64 (m:Int)) w2 ∧
   St T' w2 F' bs' ks∧w.grownBy w2 (some F'.gk):=by
 subst hm
 obtain ⟨i0,hi,hz0,hz1,hz2⟩:=info_parts info_int
 have hone:(Tryz.prog.info? 3).map (·.size)=some 1:=by rw [hi];simp [hz1]
 obtain ⟨cur,h1,h2,h3⟩:=layK h' hT ks h.rk hl
 have hlen:(ks.map (Value.int .i64)).length=ks.length:=by simp
 have hcap:=h'.capk
 have hsrc:∀j u,(ks.map (Value.int .i64))[j]?=some u→w.cell? ((⟨F.gk,0,none⟩:Addr).add j)=some u:=by
  intro j u hu
  have hj:j<ks.length:=by
   rcases Nat.lt_or_ge j ks.length with h4 | h4
   ·exact h4
   ·rw [List.getElem?_eq_none (by simpa using h4)] at hu;cases hu
  have hadd:(⟨F.gk,0,none⟩:Addr).add j=⟨F.gk,j,none⟩:=by unfold Addr.add;split<;>simp_all
  rw [hadd,h.key hj]
  simp [hj] at hu
  simp [List.getD_eq_getElem?_getD,hj,hu]
 have hrun:=run_copy_row (P:=Tryz.prog) w 61 61 3 3 F'.gk 0 ks.length F'.ck ⟨F.gk,0,none⟩ ks.length F.ck cur.toArray 3 (ks.map (Value.int .i64)) Tryz.underlying61 hone h1 (by rw [hlen];exact (Nat.min_self _).symm) hsrc (by rw [hlen];simp;omega) (by intro v hv;obtain ⟨z,_,rfl⟩:=List.mem_map.1 hv;rfl)
 have e:cur.toArray.toList.take 0++ks.map (Value.int .i64)++cur.toArray.toList.drop (0+(ks.map (Value.int .i64)).length)=splice cur 0 (ks.map (Value.int .i64)):=by simp [splice]
 rw [e,hlen] at hrun
 exact ⟨_,hrun,h3,grown_setRow _ _ _⟩
theorem run_copy_bytes {T T':TypeId} {w:World} {F F':Foot} {bs ks bs' ks':List Int} (h:St T w F bs ks) (h':St T' w F' bs' ks') (hT:T'≠5) (hl:bs.length=bs'.length) (N:Nat) (hN:bs.length=N) :
  ∃w2,(Builtin.copy_ #[22,22] 3 #[.slice (some ⟨F'.gb,0,none⟩) N F'.cb,.slice (some ⟨F.gb,0,none⟩) N F.cb]).run Tryz.prog w=.ok (.int .i64 (N:Int)) w2 ∧
   St T' w2 F' bs ks'∧w.grownBy w2 (some F'.gb):=by
 subst hN
 obtain ⟨w2,h1,h2,h3⟩:=run_copy_to h' hT (a:=0) (h.byt (a:=0) (n:=bs.length) (by omega)) (by omega) (.inl rfl) (c:=F.cb) (dc:=F'.cb)
 rw [Nat.sub_zero,← hl] at h1
 rw [List.drop_zero,List.take_length,splice_all _ _ hl] at h2
 exact ⟨w2,h1,h2,h3⟩
theorem copy_c {F:Foot} {bs ks:List Int} (w:World) (h:St 63 w F bs ks)  : Calls Tryz.prog 11 #[.pointer (some ⟨F.g,0,none⟩)] w (fun e w'=>∃v,e=.returned v∧NewSt 63 w bs ks v w'):=by
 obtain ⟨N,hN⟩:∃N,bs.length=N:=⟨_,rfl⟩
 obtain ⟨m,hm⟩:∃m,ks.length=m:=⟨_,rfl⟩
 have c0:=h.cell0
 have c1:=h.cell1
 have H:=lh h
 have LN:=lh (show N=2048*m from by rw [← hN,← hm];exact h.ln)
 have n0:(2048:Int)≤(N:Int):=by have:=h.ln;have:=h.l0;omega
 have n1:(N:Int)≤65536:=by have:=h.ln;have:=h.l1;omega
 rw [hN] at c0
 rw [hm] at c1
 have HN:=lh hN
 have HM:=lh hm
 have ltg:=H.out.ltg
 clear hN hm h
 have M1:1≤m:=by have:=H.out.l0;rw [HM.out] at this;exact this
 have M2:m≤32:=by have:=H.out.l1;rw [HM.out] at this;exact this
 have hmk:=fun W=>run_mk_b N (by omega) W
 have hmi:=fun W=>run_mk_i m (by omega) W
 go_enter Tryz.func11,Tryz.ntmps11
 go_wp2
 go_region
 all_goals clear hmk hmi c0 c1
 ·obtain ⟨X,hX⟩:∃X,(((w.alloc (.cells (zeroB N) 5)).alloc (.cells (zeroI m) 3)).alloc (.cells #[.slice (some ⟨w.heap.size,0,none⟩) N N,.slice (some ⟨w.heap.size+1,0,none⟩) m m] 63)).drew=X:=⟨_,rfl⟩
  rw [hX]
  have hB:Below w.heap.size w ((((w.alloc (.cells (zeroB N) 5)).alloc (.cells (zeroI m) 3)).alloc (.cells #[.slice (some ⟨w.heap.size,0,none⟩) N N,.slice (some ⟨w.heap.size+1,0,none⟩) m m] 63)).drew):=below3 w _ _ _
  have hS:=(new_st1 63 w N m LN.out.symm M1 M2).drewN 1
  obtain ⟨F',hF⟩:∃F':Foot,F'=⟨w.heap.size+1+1,w.heap.size,w.heap.size+1,N,m⟩:=⟨_,rfl⟩
  rw [← hF] at hS
  have g1:F'.g=w.heap.size+1+1:=by rw [hF]
  have g2:w.heap.size≤F'.gb:=by rw [hF];simp
  have g3:w.heap.size≤F'.gk:=by rw [hF];simp
  have k1:F'.cb=N:=by rw [hF]
  have k2:F'.ck=m:=by rw [hF]
  have k3:=lh g1
  clear hF
  have hS':St 63 X F' (z0 N) (z0 m):=by rw [← hX];exact hS
  have hB':Below w.heap.size w X:=by rw [← hX];exact hB
  clear hX hS hB
  have HS:=lh hS'
  have HB:=lh hB'
  have SX:=lh (H.out.belowS hB')
  have d0:=hS'.cell0
  have d1:=hS'.cell1
  rw [z0_len] at d0 d1
  rw [k1] at d0
  rw [k2] at d1
  rw [g1] at d0 d1
  have e0:=SX.out.cell0
  have e1:=SX.out.cell1
  rw [HN.out] at e0
  rw [HM.out] at e1
  obtain ⟨X2,hcp,hS2,hG2⟩:=run_copy_bytes (SX.out.drewN 1) (HS.out.drewN 1) (by decide) (by rw [z0_len];exact HN.out) N HN.out
  rw [k1] at hcp
  have hcp':(Builtin.copy_ #[22,22] 3 #[.slice (some ⟨F'.gb,0,none⟩) N N,.slice (some ⟨F.gb,0,none⟩) N F.cb]).run Tryz.prog X.drew=.ok (.int .i64 (N:Int)) X2:=hcp
  have S2:=lh hS2
  have G2:=lh hG2
  have B2:=lh (below_of_grown (dBelow HB.out 1) hG2 (Nat.le_refl _) g2)
  have SX2:=lh (H.out.belowS B2.out)
  have G1:=lh g1
  have K1:=lh k1
  have K2:=lh k2
  clear hS' hB' hS2 hG2 hcp g1 k1 k2
  go_wp2
  refine wp_region_still_tail 8 (by kernel_rfl) (by kernel_rfl) ?_
  change wpStill _ _ (World.drew _) (fun a=>wpList _ _ _ _ a (World.drew _)) _ _
  simp only [List.append_eq,List.cons_append,List.nil_append,List.take_succ_cons,List.take_zero,List.drop_succ_cons,List.drop_zero]
  repeat still_step
  refine wpStill_nil ?_
  clear d0 d1 e0 e1
  have d0:=S2.out.cell0
  have d1:=S2.out.cell1
  rw [HN.out,K1.out,G1.out] at d0
  rw [z0_len,K2.out,G1.out] at d1
  have e0:=SX2.out.cell0
  have e1:=SX2.out.cell1
  rw [HN.out] at e0
  rw [HM.out] at e1
  obtain ⟨X3,hck,hS3,hG3⟩:=run_copy_keys (SX2.out.drewN 1) (S2.out.drewN 1) (by decide) (by rw [z0_len];exact HM.out) m HM.out
  rw [K2.out] at hck
  have hck':(Builtin.copy_ #[61,61] 3 #[.slice (some ⟨F'.gk,0,none⟩) m m,.slice (some ⟨F.gk,0,none⟩) m F.ck]).run Tryz.prog X2.drew=.ok (.int .i64 (m:Int)) X3:=hck
  have S3:=lh hS3
  have B3:=lh (below_of_grown (dBelow B2.out 1) hG3 (Nat.le_refl _) g3)
  clear hS3 hG3 hck
  go_wp2
  refine wp_region_still_tail 8 (by kernel_rfl) (by kernel_rfl) ?_
  change wpStill _ _ (World.drew _) (fun a=>wpList _ _ _ _ a (World.drew _)) _ _
  simp only [List.append_eq,List.cons_append,List.nil_append,List.take_succ_cons,List.take_zero,List.drop_succ_cons,List.drop_zero]
  repeat still_step
  refine wpStill_nil ?_
  go_wp2
  go_ret
  exact ⟨_,rfl,F',by rw [G1.out];rfl,S3.out,B3.out,by rw [G1.out];omega,g2,g3⟩
 ·obtain ⟨X,hX⟩:∃X,(((w.alloc (.cells (zeroI m) 3)).alloc (.cells (zeroB N) 5)).alloc (.cells #[.slice (some ⟨w.heap.size+1,0,none⟩) N N,.slice (some ⟨w.heap.size,0,none⟩) m m] 63)).drew=X:=⟨_,rfl⟩
  rw [hX]
  have hB:Below w.heap.size w ((((w.alloc (.cells (zeroI m) 3)).alloc (.cells (zeroB N) 5)).alloc (.cells #[.slice (some ⟨w.heap.size+1,0,none⟩) N N,.slice (some ⟨w.heap.size,0,none⟩) m m] 63)).drew):=below3 w _ _ _
  have hS:=(new_st2 63 w N m LN.out.symm M1 M2).drewN 1
  obtain ⟨F',hF⟩:∃F':Foot,F'=⟨w.heap.size+1+1,w.heap.size+1,w.heap.size,N,m⟩:=⟨_,rfl⟩
  rw [← hF] at hS
  have g1:F'.g=w.heap.size+1+1:=by rw [hF]
  have g2:w.heap.size≤F'.gb:=by rw [hF];simp
  have g3:w.heap.size≤F'.gk:=by rw [hF];simp
  have k1:F'.cb=N:=by rw [hF]
  have k2:F'.ck=m:=by rw [hF]
  have k3:=lh g1
  clear hF
  have hS':St 63 X F' (z0 N) (z0 m):=by rw [← hX];exact hS
  have hB':Below w.heap.size w X:=by rw [← hX];exact hB
  clear hX hS hB
  have HS:=lh hS'
  have HB:=lh hB'
  have SX:=lh (H.out.belowS hB')
  have d0:=hS'.cell0
  have d1:=hS'.cell1
  rw [z0_len] at d0 d1
  rw [k1] at d0
  rw [k2] at d1
  rw [g1] at d0 d1
  have e0:=SX.out.cell0
  have e1:=SX.out.cell1
  rw [HN.out] at e0
  rw [HM.out] at e1
  obtain ⟨X2,hcp,hS2,hG2⟩:=run_copy_bytes (SX.out.drewN 1) (HS.out.drewN 1) (by decide) (by rw [z0_len];exact HN.out) N HN.out
  rw [k1] at hcp
  have hcp':(Builtin.copy_ #[22,22] 3 #[.slice (some ⟨F'.gb,0,none⟩) N N,.slice (some ⟨F.gb,0,none⟩) N F.cb]).run Tryz.prog X.drew=.ok (.int .i64 (N:Int)) X2:=hcp
  have S2:=lh hS2
  have G2:=lh hG2
  have B2:=lh (below_of_grown (dBelow HB.out 1) hG2 (Nat.le_refl _) g2)
  have SX2:=lh (H.out.belowS B2.out)
  have G1:=lh g1
  have K1:=lh k1
  have K2:=lh k2
  clear hS' hB' hS2 hG2 hcp g1 k1 k2
  go_wp2
  refine wp_region_still_tail 8 (by kernel_rfl) (by kernel_rfl) ?_
  change wpStill _ _ (World.drew _) (fun a=>wpList _ _ _ _ a (World.drew _)) _ _
  simp only [List.append_eq,List.cons_append,List.nil_append,List.take_succ_cons,List.take_zero,List.drop_succ_cons,List.drop_zero]
  repeat still_step
  refine wpStill_nil ?_
  clear d0 d1 e0 e1
  have d0:=S2.out.cell0
  have d1:=S2.out.cell1
  rw [HN.out,K1.out,G1.out] at d0
  rw [z0_len,K2.out,G1.out] at d1
  have e0:=SX2.out.cell0
  have e1:=SX2.out.cell1
  rw [HN.out] at e0
  rw [HM.out] at e1
  obtain ⟨X3,hck,hS3,hG3⟩:=run_copy_keys (SX2.out.drewN 1) (S2.out.drewN 1) (by decide) (by rw [z0_len];exact HM.out) m HM.out
  rw [K2.out] at hck
  have hck':(Builtin.copy_ #[61,61] 3 #[.slice (some ⟨F'.gk,0,none⟩) m m,.slice (some ⟨F.gk,0,none⟩) m F.ck]).run Tryz.prog X2.drew=.ok (.int .i64 (m:Int)) X3:=hck
  have S3:=lh hS3
  have B3:=lh (below_of_grown (dBelow B2.out 1) hG3 (Nat.le_refl _) g3)
  clear hS3 hG3 hck
  go_wp2
  refine wp_region_still_tail 8 (by kernel_rfl) (by kernel_rfl) ?_
  change wpStill _ _ (World.drew _) (fun a=>wpList _ _ _ _ a (World.drew _)) _ _
  simp only [List.append_eq,List.cons_append,List.nil_append,List.take_succ_cons,List.take_zero,List.drop_succ_cons,List.drop_zero]
  repeat still_step
  refine wpStill_nil ?_
  go_wp2
  go_ret
  exact ⟨_,rfl,F',by rw [G1.out];rfl,S3.out,B3.out,by rw [G1.out];omega,g2,g3⟩
structure StI (T:TypeId) (w:World) (F:Foot) (bs ks:List Int):Prop where
 out:St T w F bs ks
theorem StI.alloc {T:TypeId} {w:World} {F:Foot} {bs ks:List Int} (O:Obj) (h:StI T w F bs ks):StI T (w.alloc O) F bs ks:=⟨h.out.alloc O⟩
theorem row_byt {w:World} {a:Option Addr} {len cap:Nat} {zs:List Int} (h:IsRow .u8 w a len cap zs):Byt w a len (zs.take len)∧(a=none→cap=0)∧len≤cap∧cap≤maxLen:=by
 rcases h with ⟨rfl,rfl,rfl,rfl⟩ | ⟨x,rfl,hl,hm,hz,hc,hw⟩
 ·exact ⟨⟨rfl,by simp,fun h=>absurd h (by omega)⟩,fun _=>rfl,Nat.le_refl _,Nat.zero_le _⟩
 ·refine ⟨⟨by rw [List.length_take];omega,fun n hn=>?_,fun h0=>?_⟩,(by intro h;cases h),hl,hm⟩
  ·exact bounds_u8 (hw n (List.mem_of_mem_take hn))
  ·obtain ⟨b,off,spot⟩:=x
   have h1:=hc 0 (by omega)
   have hspot:spot=none:=by simpa [Addr.add] using World.cell?_spot h1
   subst hspot
   refine ⟨b,off,rfl,fun i hi=>?_⟩
   have h2:=hc i (by omega)
   have hadd:(⟨b,off,none⟩:Addr).add i=⟨b,off+i,none⟩:=by unfold Addr.add;split<;>simp_all
   rw [hadd] at h2
   rw [h2]
   simp [List.getD_eq_getElem?_getD,hi]
theorem encG (w:World):Calls Tryz.prog 8 #[.agg #[.int .i64 0,.int .i64 1,.bool false,.bool false,.bool true,.int .i64 0,.int .i64 0,.int .i64 0,.int .i64 0,.int .i64 2048]] w fun e w'=>∃v,e=.returned v∧∃b,v=.tuple #[.slice (some ⟨b,0,none⟩) 8 8,.bool true]∧Byt w' (some ⟨b,0,none⟩) 8 zG∧w.heap.size≤b∧b<w'.heap.size∧Below w.heap.size w w':=by
 go_enter Tryz.func8,Tryz.ntmps8
 go_wp2_with (go_at_call 22;refine (valid_c 0 1 false false true 0 0 0 0 2048 _).mono ?_;rintro e w1 ⟨rfl,hb⟩;refine Bk.opn10 (Bk.keep (Bk.new _ [_,_,_,_,_,_,_,_,_,_] _) hb) ?_;intros;have HB:=lh (show Below w.heap.size w w1 from ((Below.refl _ _).alloc (Nat.le_refl _) _).trans (hb.mono (by simp)));clear hb)
 go_ret2
 exact ⟨_,rfl,_,rfl,byt_new _ zG (by decide) _ (by rfl) 8 (by rfl) _,HB.out.size,by simp,HB.out.alloc HB.out.size _⟩
theorem stnew4_c (w:World):Calls Tryz.prog 6 #[.int .i64 8192] w fun e w'=>∃v,e=.returned v∧∃F:Foot,v=.tuple #[.pointer (some ⟨F.g,0,none⟩),.int .i64 0]∧St 63 w' F (z0 8192) (z0 4)∧Below w.heap.size w w'∧w.heap.size≤F.g∧w.heap.size≤F.gb∧w.heap.size≤F.gk:=by
 have h:=new_yes 4 (by omega) (by omega) w
 have e:((2048*4:Nat):Int)=8192:=rfl
 rw [e] at h
 refine Calls.mono h ?_
 rintro e w' ⟨v,he,F,rfl,h⟩
 exact ⟨_,he,F,rfl,h⟩
def bsG:Nat→List Int
 | 0=>z0 8192
 | j+1=>sPut (alP 0) (bsG j) (z0 4) ((88+8*j:Nat):Int) zG
def ksG:Nat→List Int
 | 0=>z0 4
 | j+1=>sSet 8192 (ksG j) ((2048*(j+1):Nat):Int) (((2*(j+1)+(j+1) % 2:Nat)):Int)
theorem ksG3:ksG 3=kG:=by decide +kernel
theorem bsG5:(bsG 5).length=8192∧sGet (bsG 5) 96 8=zG∧sGet (bsG 5) 104 8=zG:=by decide +kernel
theorem MG.cod {z ys:List Int} (hl:z.length=8192) (hy:ys.length≤2048):MG z (sPut (alP 0) z (z0 4) 2048 ys):=by
 unfold sPut
 split
 ·refine ⟨?_,fun j hj=>?_⟩
  ·simp [splice];omega
  ·right
   rw [show (2048:Int).toNat=2048 from rfl] at hj
   simp only [List.getD_eq_getElem?_getD] at hj
   rw [splice_get z 2048 ys (by omega) j] at hj
   by_cases c1:j<2048
   ·rw [if_pos c1] at hj;exact absurd rfl hj
   ·rw [if_neg c1] at hj
    by_cases c2:j<2048+ys.length
    ·omega
    ·rw [if_neg c2] at hj;exact absurd rfl hj
 ·exact MG.refl z
structure GS (w W:World) (g g4 g11 b:Nat) (F:Foot) (rs bs ks:List Int):Prop where
 m:Bk W g 66 (cpC F [0,0,0,0,0,0,0,0,0,0,0,0,0,0,0,0] p00 0)
 st:St 63 W F bs ks
 r:Bk W g4 25 (rs.map (Value.int .u32))
 p:Bk W g11 35 pG.v
 y:Byt W (some ⟨b,0,none⟩) 8 zG
 l:Below w.heap.size w W
 n:(w.heap.size≤g∧w.heap.size≤F.gb∧w.heap.size≤F.gk)∧(g≠F.g∧g≠F.gb∧g≠F.gk)∧(g4≠F.gb∧g4≠F.gk)∧(g11≠F.gb∧g11≠F.gk)∧(b≠F.gb∧b≠F.gk)∧b<W.heap.size
theorem GS.put {w W W':World} {g g4 g11 b:Nat} {F:Foot} {rs bs ks bs' ks':List Int} (h:GS w W g g4 g11 b F rs bs ks) (hs:St 63 W' F bs' ks') (hc:Ch W W' [F.gb,F.gk]):GS w W' g g4 g11 b F rs bs' ks':=
 have n:=h.n
 ⟨h.m.ch hc (by simp;omega),hs,h.r.ch hc (by simp;omega),h.p.ch hc (by simp;omega),h.y.chg hc n.2.2.2.2.2 (by simp;omega),below_ch h.l hc (by simp;omega) h.l.size,n.1,n.2.1,n.2.2.1,n.2.2.2.1,n.2.2.2.2.1,by have:=hc.size;omega⟩
theorem topGuards_in {A : Option Addr} {len cap : Nat} {zs rs : List Int} {k : Int} (w : World) (hy : Byt w A len zs) (hlen : (len : Int) ≤ 9223372036854775807) (hr : rs.length = 16) (ro : ∀ z ∈ rs, 0 ≤ z ∧ z ≤ 4294967295) (htab : Lib.TabIs Tryz.prog w "internal/strconv.uint64pow10" .u64 Lib.pow10Tab) (h2 : 2 < w.heap.size) : Calls Tryz.prog 3 #[.slice A len cap, .agg (rs.map (Value.int .u32)).toArray, .int .i64 k] w fun e w' => e = .returned (.bool true) ∧ Below w.heap.size w w' := by
 have Y0:=lh hy
 have RO:=lh ro
 have RL:=lh hr
 have HT:=lh htab
 have LEN:=lh hlen
 have hszr:(rs.map (Value.int .u32)).toArray.size=16:=by simp [hr]
 clear hy ro htab
 go_enter Tryz.func3,Tryz.ntmps3
 go_upto_region 1 with fail
 have hR:=Bk.new w (rs.map (Value.int .u32)) 25
 have hb:=(Below.refl w.heap.size w).alloc (Nat.le_refl _) (.cells (rs.map (Value.int .u32)).toArray 25)
 have hlt:=hR.lt
 obtain ⟨w1,hW⟩:∃V,w.alloc (.cells (rs.map (Value.int .u32)).toArray 25)=V:=⟨_,rfl⟩
 rw [hW] at hR hb hlt
 first | rw [hW] | (change wp _ _ _ w1)
 obtain ⟨g4,hg⟩:∃k,w.heap.size=k:=⟨_,rfl⟩
 rw [hg] at hR hlt
 try simp only [hg]
 have e9:w.heap.size≤g4:=Nat.le_of_eq hg
 have L:Hid (Below w.heap.size w w1):=lh hb
 have hgw:=lh hg
 have R:=lh hR
 clear hW hb hR hg hszr
 by_cases k0:k<0
 ·rw [← hgw.out]
  go_upto_region 2 with fail
  refine wp_region_lit ?_
  refine lsc (adds_c w1) ?_
  intro w2 Z
  replace L:=lh (L.out.trans (Z.out.mono L.out.size))
  refine lsv (v:=.bool true) (w':=w2) ?_
  refine wpList_nil ?_
  go_wp2
  go_ret
  exact ⟨rfl,L.out⟩
 by_cases k4:400<k
 ·rw [← hgw.out]
  go_upto_region 2 with fail
  refine wp_region_lit ?_
  refine lsc (adds_c w1) ?_
  intro w2 Z
  replace L:=lh (L.out.trans (Z.out.mono L.out.size))
  refine lsv (v:=.bool true) (w':=w2) ?_
  refine wpList_nil ?_
  go_wp2
  go_ret
  exact ⟨rfl,L.out⟩
 by_cases kl:(2048:Int)<(len:Int)
 ·rw [← hgw.out]
  go_upto_region 2 with fail
  refine wp_region_lit ?_
  refine lsc (adds_c w1) ?_
  intro w2 Z
  replace L:=lh (L.out.trans (Z.out.mono L.out.size))
  refine lsv (v:=.bool true) (w':=w2) ?_
  refine wpList_nil ?_
  go_wp2
  go_ret
  exact ⟨rfl,L.out⟩
 have k5:¬(k > 400):=k4
 have kl2:¬((len:Int) > 2048):=kl
 go_upto_region 3 with fail
 refine wp_region_lit ?_
 refine lsce (stnew4_c w1) ?_
 intro v w2 Z
 obtain ⟨F,rfl,hS,hB,f1,f2,f3⟩:=Z.out
 replace R:=lh (R.out.keep hB)
 replace L:=lh (L.out.trans (hB.mono L.out.size))
 have S:=lh hS
 have q2:=hB.size
 clear Z hB hS
 iterate 5 refine lsv (w':=w2) ?_
 refine wpList_nil ?_
 go_upto_region 6 with fail
 refine wp_region_lit ?_
 refine lsv (w':=w2) ?_
 have m1:=S.out.ltg
 have m2:=S.out.ltb
 have m3:=S.out.ltk
 refine lsc (cnew_c S.out) ?_
 intro w3 Z
 have H:=lh Z.out.1
 replace R:=lh (R.out.keep Z.out.2)
 replace L:=lh (L.out.trans (Z.out.2.mono L.out.size))
 have m4:=Z.out.1.m.lt
 have q3:=Z.out.2.size
 obtain ⟨g,hgg⟩:∃k,w2.heap.size=k:=⟨_,rfl⟩
 rw [hgg] at H m1 m2 m3 m4 q2 q3
 try simp only [hgg]
 clear Z S hgg
 iterate 5 refine lsv (w':=w3) ?_
 refine wpList_nil ?_
 go_upto_region 7 with fail
 refine wp_region_lit ?_
 refine lsv (v:=.agg #[.int .i64 0,.int .i64 1,.bool false,.bool false,.bool true,.int .i64 0,.int .i64 0,.int .i64 0,.int .i64 0,.int .i64 2048]) (w':=w3) ?_ (hr:=by first | (go_simp;done) | (go_simp;kernel_rfl))
 refine lsv (v:=.pointer (some ⟨w3.heap.size,0,none⟩)) (w':=w3.alloc (.cells ([.int .i64 0,.int .i64 0,.bool false,.bool false,.bool false,.int .i64 0,.int .i64 0,.int .i64 0,.int .i64 0,.int .i64 0]:List Value).toArray 35)) ?_
 refine lss (cs':=pG.v) (Bk.new w3 [.int .i64 0,.int .i64 0,.bool false,.bool false,.bool false,.int .i64 0,.int .i64 0,.int .i64 0,.int .i64 0,.int .i64 0] 35) (by rfl) (one_ps _) (by kernel_rfl) ?_
 refine wpList_nil ?_
 have hb:=below_row3 ((Below.refl w3.heap.size w3).alloc (Nat.le_refl _) (.cells ([.int .i64 0,.int .i64 0,.bool false,.bool false,.bool false,.int .i64 0,.int .i64 0,.int .i64 0,.int .i64 0,.int .i64 0]:List Value).toArray 35)) (Nat.le_refl _) pG.v.toArray
 have hP:=(Bk.new w3 [.int .i64 0,.int .i64 0,.bool false,.bool false,.bool false,.int .i64 0,.int .i64 0,.int .i64 0,.int .i64 0,.int .i64 0] 35).rowSet pG.v
 replace R:=lh (R.out.keep hb)
 replace H:=lh (H.out.keep hb)
 replace L:=lh (L.out.trans (hb.mono L.out.size))
 have q4:=hb.size
 obtain ⟨w4,hW⟩:∃V,(w3.alloc (.cells ([.int .i64 0,.int .i64 0,.bool false,.bool false,.bool false,.int .i64 0,.int .i64 0,.int .i64 0,.int .i64 0,.int .i64 0]:List Value).toArray 35)).setRow w3.heap.size pG.v.toArray=V:=⟨_,rfl⟩
 rw [hW] at hP R H L q4
 rw [hW]
 obtain ⟨g11,hg⟩:∃k,w3.heap.size=k:=⟨_,rfl⟩
 rw [hg] at hP m4 q3 q4
 try simp only [hg]
 have PP:=lh hP
 have m5:=hP.lt
 clear hW hg hb hP
 go_upto_region 8 with fail
 refine wp_region_lit ?_
 refine lsl (cs:=pG.v) PP.out ?_
 refine lsce (encG w4) ?_ (hx:=by go_simp;rfl)
 intro v w5 Z
 obtain ⟨b,rfl,hy,b1,b2,hb⟩:=Z.out
 replace R:=lh (R.out.keep hb)
 replace H:=lh (H.out.keep hb)
 replace PP:=lh (PP.out.keep hb)
 replace L:=lh (L.out.trans (hb.mono L.out.size))
 have G:Hid (GS w w5 g g4 g11 b F rs (bsG 0) (z0 4)):=lh ⟨H.out.m,H.out.st,R.out,PP.out,hy,L.out,by have:=L.out.size;omega,H.out.nn,by omega,by omega,by omega,b2⟩
 clear Z hy hb R H PP
 iterate 5 refine lsv (w':=w5) ?_
 refine wpList_nil ?_
 go_wp2_with fail
 go_loopw [14] (fun x W=>∃j:Nat,j≤5∧x=.int .i64 ((88+8*j:Nat):Int)∧GS w W g g4 g11 b F rs (bsG j) (z0 4)) (fun x _=>200 - (intOf x).toNat)
 case atStart=>exact ⟨0,Nat.zero_le _,rfl,G.out⟩
 case round=>
  clear G
  obtain ⟨j,hj,rfl,hG⟩:=hrel
  rename World=>W1
  have G:=lh hG
  clear hG
  by_cases hlt:j<5
  ·have k1:((88+8*j:Nat):Int)≤120:=by omega
   have kw:IntKind.i64.wrap (((88+8*j:Nat):Int)+8)=((88+8*(j+1):Nat):Int):=by rw [wrap_i64_id (by omega) (by omega)];omega
   obtain ⟨x,hx⟩:∃x:Int,((88+8*j:Nat):Int)=x:=⟨_,rfl⟩
   obtain ⟨x2,hx2⟩:∃x:Int,((88+8*(j+1):Nat):Int)=x:=⟨_,rfl⟩
   have HX:=lh hx
   have HX2:=lh hx2
   rw [hx] at k1 kw ⊢
   rw [hx2] at kw
   have PC:=lh (put_c W1 G.out.st x 0 (some ⟨b,0,none⟩) 8 8 zG G.out.y (by omega))
   clear hx hx2
   go_upto_region 14 with fail
   refine wp_region_lit ?_
   iterate 3 refine lsv (w':=W1) ?_
   refine lsc PC.out ?_
   intro W2 Z
   replace G:Hid (GS w W2 g g4 g11 b F rs (bsG (j+1)) (z0 4)):=lh (G.out.put (by have h:=Z.out.1;rw [← HX.out] at h;exact h) ((Ch.of_grown Z.out.2).mono (by simp)))
   clear Z PC
   refine wpList_nil ?_
   go_wp2_with fail
   go_roundw
   case rel=>exact ⟨j+1,by omega,by rw [HX2.out],G.out⟩
   case measure=>have:=HX.out;have:=HX2.out;simp [intOf];omega
  ·obtain rfl:j=5:=by omega
   have k1:¬(((88+8*5:Nat):Int)≤120):=by omega
   have Y:=lh (Y0.out.keep G.out.l)
   go_upto_region 15 with fail
   refine wp_region_lit ?_
   iterate 2 refine lsv (w':=W1) ?_
   refine lsc (put_c W1 G.out.st 2048 0 A len cap zs Y.out (by omega)) ?_
   intro W2 Z
   have MC:=lh (MG.cod (ys:=zs) bsG5.1 (by rw [Y.out.1];omega))
   obtain ⟨z,hz⟩:∃z,sPut (alP 0) (bsG 5) (z0 4) 2048 zs=z:=⟨_,rfl⟩
   rw [hz] at MC
   replace G:Hid (GS w W2 g g4 g11 b F rs z (ksG 0)):=lh (G.out.put (by have h:=Z.out.1;rw [hz] at h;exact h) ((Ch.of_grown Z.out.2).mono (by simp)))
   have ZZ:Hid (z.length=8192∧sGet z 96 8=zG∧sGet z 104 8=zG):=lh ⟨MC.out.1.trans bsG5.1,(MC.out.get (a:=96) (n:=8) (by omega)).trans bsG5.2.1,(MC.out.get (a:=104) (n:=8) (by omega)).trans bsG5.2.2⟩
   clear Z Y MC hz
   refine wpList_nil ?_
   go_wp2_with fail
   go_loopw [15] (fun x W=>∃j:Nat,j≤3∧x=.int .i64 ((j+1:Nat):Int)∧GS w W g g4 g11 b F rs z (ksG j)) (fun x _=>10 - (intOf x).toNat)
   case atStart=>exact ⟨0,Nat.zero_le _,rfl,G.out⟩
   case round=>
    clear G
    obtain ⟨j,hj,rfl,hG⟩:=hrel
    rename World=>W3
    have G:=lh hG
    clear hG
    by_cases hlt:j<3
    ·have k1:((j+1:Nat):Int)<4:=by omega
     have kw:IntKind.i64.wrap (((j+1:Nat):Int)+1)=((j+1+1:Nat):Int):=by rw [wrap_i64_id (by omega) (by omega)];omega
     have ke:IntKind.i64.wrap (((j+1:Nat):Int)*2048)=((2048*(j+1):Nat):Int):=by rw [wrap_i64_id (by omega) (by omega)];omega
     have kt:(((j+1:Nat):Int)).tmod 2=(((j+1) % 2:Nat):Int):=by rw [Int.tmod_eq_emod_of_nonneg (by omega)];omega
     have kt2:IntKind.i64.wrap (((j+1) % 2:Nat):Int)=(((j+1) % 2:Nat):Int):=wrap_i64_id (by omega) (by omega)
     have kd:IntKind.i64.wrap (2*((j+1:Nat):Int))=((2*(j+1):Nat):Int):=by rw [wrap_i64_id (by omega) (by omega)];omega
     have ks_:IntKind.i64.wrap (((2*(j+1):Nat):Int)+(((j+1) % 2:Nat):Int))=((2*(j+1)+(j+1) % 2:Nat):Int):=by rw [wrap_i64_id (by omega) (by omega)];omega
     have SC:=lh (setkey_c W3 G.out.st ((2048*(j+1):Nat):Int) ((2*(j+1)+(j+1) % 2:Nat):Int))
     rw [ZZ.out.1] at SC
     obtain ⟨i1,hi1⟩:∃x:Int,((j+1:Nat):Int)=x:=⟨_,rfl⟩
     obtain ⟨i2,hi2⟩:∃x:Int,((j+1+1:Nat):Int)=x:=⟨_,rfl⟩
     obtain ⟨ia,hia⟩:∃x:Int,((2048*(j+1):Nat):Int)=x:=⟨_,rfl⟩
     obtain ⟨ib,hib⟩:∃x:Int,((2*(j+1):Nat):Int)=x:=⟨_,rfl⟩
     obtain ⟨ic,hic⟩:∃x:Int,(((j+1) % 2:Nat):Int)=x:=⟨_,rfl⟩
     obtain ⟨id_,hid⟩:∃x:Int,((2*(j+1)+(j+1) % 2:Nat):Int)=x:=⟨_,rfl⟩
     have HA:=lh hia
     have HD:=lh hid
     have H1:=lh hi1
     have H2:=lh hi2
     rw [hi1] at k1 kw ke kt kd ⊢
     rw [hi2] at kw
     rw [hia] at ke SC
     rw [hib] at kd ks_
     rw [hic] at kt kt2 ks_
     rw [hid] at ks_ SC
     clear hi1 hi2 hia hib hic hid
     go_upto_region 19 with fail
     refine wp_region_lit ?_
     iterate 2 refine lsv (w':=W3) ?_
     refine lsv (v:=.int .i64 ia) (w':=W3) ?_
     refine lsv (w':=W3) ?_
     refine lsv (v:=.int .i64 ib) (w':=W3) ?_
     refine lsv (w':=W3) ?_
     refine lsv (v:=.int .i64 ic) (w':=W3) ?_
     refine lsv (v:=.int .i64 id_) (w':=W3) ?_
     refine lsc SC.out ?_
     intro W4 Z
     replace G:Hid (GS w W4 g g4 g11 b F rs z (ksG (j+1))):=lh (G.out.put (by have h:=Z.out.1;rw [← HA.out,← HD.out] at h;exact h) ((Ch.of_grown Z.out.2).mono (by simp)))
     clear Z SC
     refine wpList_nil ?_
     go_wp2_with fail
     go_roundw
     case rel=>exact ⟨j+1,by omega,by rw [H2.out],G.out⟩
     case measure=>have:=H1.out;have:=H2.out;simp [intOf];omega
    ·obtain rfl:j=3:=by omega
     have k1:¬(((3+1:Nat):Int)<4):=by omega
     rw [ksG3] at G
     go_upto_region 20 with fail
     refine wp_region_lit ?_
     refine lsv (w':=W3) ?_
     refine lsce (copy_c W3 G.out.st) ?_
     intro v W4 Z
     obtain ⟨F2,rfl,hS2,hB,n1,n2,n3⟩:=Z.out
     have n0:=G.out.n
     have n5:=G.out.m.lt
     have n6:=G.out.st.ltg
     have n7:=G.out.st.ltb
     have n8:=G.out.st.ltk
     have nB:=hB.size
     have H:Hid (CP W4 W4 g F [0,0,0,0,0,0,0,0,0,0,0,0,0,0,0,0] p00 0 z kG):=lh ⟨G.out.m.keep hB,G.out.st.belowS hB,Ch.refl _ _,rfl,by decide,n0.2.1⟩
     have R:=lh (G.out.r.keep hB)
     have PP:=lh (G.out.p.keep hB)
     have L:=lh (G.out.l.trans (hB.mono G.out.l.size))
     have S2:=lh hS2
     have g41:=G.out.r.lt
     have g42:=G.out.p.lt
     clear Z hS2 G
     refine lsv (w':=W4) ?_
     refine wpList_nil ?_
     go_upto_region 21 with fail
     refine wp_region_lit ?_
     refine lsv (w':=W4) ?_
     refine lsl R.out ?_ (hi:=by rw [List.length_map,RL.out];kernel_rfl)
     refine lsc (csetregs_c H.out RL.out RO.out) ?_
     intro W5 Z
     replace PP:=lh (PP.out.ch Z.out.b (by simp;omega))
     replace H:=lh Z.out
     clear Z R
     refine wpList_nil ?_
     go_upto_region 22 with fail
     refine wp_region_lit ?_
     refine lsv (w':=W5) ?_
     refine lsl (cs:=pG.v) PP.out ?_
     refine lsc (cload_c H.out pG (by decide +kernel)) ?_
     intro W6 Z
     have lw:=L.out.size
     have E:Hid (CE W4 W6 g F z):=lh ⟨rs,pG,0,z,Z.out.rb,⟨rfl,rfl,rfl⟩,MG.refl z,Z.out.b,by omega,tab_ch2 HT.out ((Ch.of_below L.out [g,F.gb]).trans Z.out.b) ⟨by simp;omega,h2⟩,ZZ.out⟩
     clear Z H PP
     refine wpList_nil ?_
     go_wp2_with fail
     go_loopw [17] (fun x W=>∃j:Nat,(j:Int)≤k∧x=.int .i64 (j:Int)∧CE W4 W g F z) (fun x _=>k.toNat - (intOf x).toNat)
     case atStart=>exact ⟨0,by omega,rfl,E.out⟩
     case round=>
      clear E
      obtain ⟨j,hj,rfl,hE⟩:=hrel
      rename World=>W7
      have E:=lh hE
      clear hE
      by_cases hlt:(j:Int)<k
      ·have kw:IntKind.i64.wrap ((j:Int)+1)=((j+1:Nat):Int):=by rw [wrap_i64_id (by omega) (by omega)];omega
       obtain ⟨j2,hj2⟩:∃x:Int,((j+1:Nat):Int)=x:=⟨_,rfl⟩
       have H2:=lh hj2
       rw [hj2] at kw
       clear hj2
       obtain ⟨rs7,p7,n7',bs7,hX⟩:=E.out
       have HX:=lh hX
       clear hX
       go_upto_region 26 with fail
       refine wp_region_lit ?_
       refine lsv (w':=W7) ?_
       refine lsce (cstep_w HX.out) ?_
       intro v W8 Z
       obtain ⟨⟨ea,eb,ec,ed,rfl⟩,hE,-⟩:=Z.out
       replace E:=lh hE
       clear Z hE HX
       refine wpList_nil ?_
       go_wp2_with fail
       go_roundw
       case rel=>exact ⟨j+1,by have:=H2.out;omega,by rw [H2.out],E.out⟩
       case measure=>have:=H2.out;simp [intOf];omega
      ·have k1:¬((j:Int)<k):=hlt
       obtain ⟨rs7,p7,n7',bs7,hX⟩:=E.out
       have HX:=lh hX
       have S7:Hid (St 63 W7 F2 z kG):=lh (S2.out.keep (hX.ch.block _ S2.out.ltg (by simp;omega)) (hX.ch.block _ S2.out.ltb (by simp;omega)) (hX.ch.block _ S2.out.ltk (by simp;omega)))
       have LE:=lh (below_ch L.out hX.ch (by simp;omega) lw)
       clear hX E S2
       go_wp2_with fail
       go_loopw [18] (fun x W=>∃i:Nat,i≤4∧x=.int .i64 (i:Int)∧W7=W) (fun x _=>4 - (intOf x).toNat)
       case atStart=>exact ⟨0,by omega,rfl,rfl⟩
       case round=>
        obtain ⟨i,hi,rfl,rfl⟩:=hrel
        by_cases hlt:i<4
        ·have k2:(i:Int)<4:=by omega
         have kw:IntKind.i64.wrap ((i:Int)+1)=((i+1:Nat):Int):=by rw [wrap_i64_id (by omega) (by omega)];omega
         obtain ⟨i2,hi2⟩:∃x:Int,((i+1:Nat):Int)=x:=⟨_,rfl⟩
         have H2:=lh hi2
         rw [hi2] at kw
         obtain ⟨ia,hia⟩:∃x:Int,IntKind.i64.wrap ((i:Int)*2048)=x:=⟨_,rfl⟩
         have K1:=lh (keyof_c W7 HX.out.cp.st ia)
         have K2:=lh (keyof_c W7 S7.out ia)
         rw [HX.out.mg.1] at K1
         obtain ⟨kv,hkv⟩:∃x,sKV z.length kG ia=x:=⟨_,rfl⟩
         obtain ⟨kb,hkb⟩:∃x,sAt z.length ia=x:=⟨_,rfl⟩
         rw [hkv,hkb] at K1 K2
         clear hi2 hkv hkb
         go_upto_region 30 with fail
         refine wp_region_lit ?_
         iterate 2 refine lsv (w':=W7) ?_
         refine lsv (v:=.int .i64 ia) (w':=W7) ?_
         refine lsc K1.out ?_
         intro W8 Z
         obtain rfl:=Z.out
         clear Z
         iterate 5 refine lsv (w':=W7) ?_
         refine wpList_nil ?_
         go_upto_region 31 with fail
         refine wp_region_lit ?_
         iterate 2 refine lsv (w':=W7) ?_
         refine lsv (v:=.int .i64 ia) (w':=W7) ?_
         refine lsc K2.out ?_
         intro W8 Z
         obtain rfl:=Z.out
         clear Z
         iterate 5 refine lsv (w':=W7) ?_
         refine wpList_nil ?_
         have kvv:(kv == kv)=true:=by simp
         clear K1 K2 hia
         go_wp2_with fail
         go_roundw
         case rel=>exact ⟨i+1,by omega,by rw [H2.out],trivial⟩
         case measure=>have:=H2.out;simp [intOf];omega
        ·obtain rfl:i=4:=by omega
         have k2:¬(((4:Nat):Int)<4):=by omega
         go_upto_region 35 with fail
         refine wp_region_lit ?_
         refine lsv (w':=W7) ?_
         have SX:=lh (HX.out.cp.st)
         have S9:=lh (S7.out)
         refine lsce (Calls.mono (bytes_c W7 SX.out 0 24) fun e w' ⟨A2,m,c,he,ho,hb⟩=>⟨_,he,A2,m,c,rfl,ho,hb⟩) ?_ (R:=fun v w'=>∃A2 m c,v=.slice A2 m c∧Own w' W7.heap.size (.slice A2 m c) m (sGet bs7 0 24)∧Below W7.heap.size W7 w')
         intro v X1a Z
         obtain ⟨A2,m2,c2,rfl,ho,hb1⟩:=Z.out
         have Y2:=lh ho.byt
         have ym:=ho.len
         clear Z ho
         refine lsv (w':=X1a) ?_
         refine lsce (Calls.mono (bytes_c X1a (S9.out.belowS hb1) 0 24) fun e w' ⟨A2,m,c,he,ho,hb⟩=>⟨_,he,A2,m,c,rfl,ho,hb⟩) ?_ (R:=fun v w'=>∃A2 m c,v=.slice A2 m c∧Own w' X1a.heap.size (.slice A2 m c) m (sGet z 0 24)∧Below X1a.heap.size X1a w')
         intro v X1b Z
         obtain ⟨A3,m3,c3,rfl,ho,hb2⟩:=Z.out
         have Y3:=lh ho.byt
         have ym3:=ho.len
         clear Z ho
         have GQ:sGet bs7 0 24=sGet z 0 24:=HX.out.mg.get (a:=0) (n:=24) (by omega)
         have gl:(sGet z 0 24).length≤24:=by
          unfold sGet
          split
          ·simp;omega
          ·simp
         have SC:=lh (same_c A2 m2 c2 _ A3 m3 c3 _ X1b (Y2.out.keep hb2) Y3.out (by rw [GQ] at ym;omega) (by omega))
         refine lsc (Calls.mono SC.out fun e w' ⟨he,n,hw⟩=>(⟨by rw [he,decide_eq_true GQ],below_of_drew hw⟩:e=.returned (.bool true)∧Below X1b.heap.size X1b w')) ?_
         intro X1c Z
         have hb3:=Z.out
         clear Z SC GQ gl ym ym3 Y2 Y3
         have LB:=lh (hb1.trans ((hb2.trans (hb3.mono hb2.size)).mono hb1.size))
         clear hb1 hb2 hb3 SX S9
         refine lsv (v:=.bool true) (w':=X1c) ?_
         refine lsv (w':=X1c) ?_
         have SX:=lh (HX.out.cp.st.belowS LB.out)
         have S9:=lh (S7.out.belowS LB.out)
         refine lsce (Calls.mono (bytes_c X1c SX.out 64 1984) fun e w' ⟨A2,m,c,he,ho,hb⟩=>⟨_,he,A2,m,c,rfl,ho,hb⟩) ?_ (R:=fun v w'=>∃A2 m c,v=.slice A2 m c∧Own w' X1c.heap.size (.slice A2 m c) m (sGet bs7 64 1984)∧Below X1c.heap.size X1c w')
         intro v X2a Z
         obtain ⟨A2,m2,c2,rfl,ho,hb1⟩:=Z.out
         have Y2:=lh ho.byt
         have ym:=ho.len
         clear Z ho
         refine lsv (w':=X2a) ?_
         refine lsce (Calls.mono (bytes_c X2a (S9.out.belowS hb1) 64 1984) fun e w' ⟨A2,m,c,he,ho,hb⟩=>⟨_,he,A2,m,c,rfl,ho,hb⟩) ?_ (R:=fun v w'=>∃A2 m c,v=.slice A2 m c∧Own w' X2a.heap.size (.slice A2 m c) m (sGet z 64 1984)∧Below X2a.heap.size X2a w')
         intro v X2b Z
         obtain ⟨A3,m3,c3,rfl,ho,hb2⟩:=Z.out
         have Y3:=lh ho.byt
         have ym3:=ho.len
         clear Z ho
         have GQ:sGet bs7 64 1984=sGet z 64 1984:=HX.out.mg.get (a:=64) (n:=1984) (by omega)
         have gl:(sGet z 64 1984).length≤1984:=by
          unfold sGet
          split
          ·simp;omega
          ·simp
         have SC:=lh (same_c A2 m2 c2 _ A3 m3 c3 _ X2b (Y2.out.keep hb2) Y3.out (by rw [GQ] at ym;omega) (by omega))
         refine lsc (Calls.mono SC.out fun e w' ⟨he,n,hw⟩=>(⟨by rw [he,decide_eq_true GQ],below_of_drew hw⟩:e=.returned (.bool true)∧Below X2b.heap.size X2b w')) ?_
         intro X2c Z
         have hb3:=Z.out
         clear Z SC GQ gl ym ym3 Y2 Y3
         have LB2:=lh (LB.out.trans ((hb1.trans ((hb2.trans (hb3.mono hb2.size)).mono hb1.size)).mono LB.out.size))
         clear LB
         have LB:=LB2
         clear LB2
         clear hb1 hb2 hb3 SX S9
         iterate 2 refine lsv (v:=.bool true) (w':=X2c) ?_
         iterate 3 refine lsv (w':=X2c) ?_
         have SX:=lh (HX.out.cp.st.belowS LB.out)
         have S9:=lh (S7.out.belowS LB.out)
         refine lsce (Calls.mono (bytes_c X2c SX.out 4096 4096) fun e w' ⟨A2,m,c,he,ho,hb⟩=>⟨_,he,A2,m,c,rfl,ho,hb⟩) ?_ (R:=fun v w'=>∃A2 m c,v=.slice A2 m c∧Own w' X2c.heap.size (.slice A2 m c) m (sGet bs7 4096 4096)∧Below X2c.heap.size X2c w')
         intro v X3a Z
         obtain ⟨A2,m2,c2,rfl,ho,hb1⟩:=Z.out
         have Y2:=lh ho.byt
         have ym:=ho.len
         clear Z ho
         iterate 3 refine lsv (w':=X3a) ?_
         refine lsce (Calls.mono (bytes_c X3a (S9.out.belowS hb1) 4096 4096) fun e w' ⟨A2,m,c,he,ho,hb⟩=>⟨_,he,A2,m,c,rfl,ho,hb⟩) ?_ (R:=fun v w'=>∃A2 m c,v=.slice A2 m c∧Own w' X3a.heap.size (.slice A2 m c) m (sGet z 4096 4096)∧Below X3a.heap.size X3a w')
         intro v X3b Z
         obtain ⟨A3,m3,c3,rfl,ho,hb2⟩:=Z.out
         have Y3:=lh ho.byt
         have ym3:=ho.len
         clear Z ho
         have GQ:sGet bs7 4096 4096=sGet z 4096 4096:=HX.out.mg.get (a:=4096) (n:=4096) (by omega)
         have gl:(sGet z 4096 4096).length≤4096:=by
          unfold sGet
          split
          ·simp;omega
          ·simp
         have SC:=lh (same_c A2 m2 c2 _ A3 m3 c3 _ X3b (Y2.out.keep hb2) Y3.out (by rw [GQ] at ym;omega) (by omega))
         refine lsc (Calls.mono SC.out fun e w' ⟨he,n,hw⟩=>(⟨by rw [he,decide_eq_true GQ],below_of_drew hw⟩:e=.returned (.bool true)∧Below X3b.heap.size X3b w')) ?_
         intro X3c Z
         have hb3:=Z.out
         clear Z SC GQ gl ym ym3 Y2 Y3
         have LB2:=lh (LB.out.trans ((hb1.trans ((hb2.trans (hb3.mono hb2.size)).mono hb1.size)).mono LB.out.size))
         clear LB
         have LB:=LB2
         clear LB2
         clear hb1 hb2 hb3 SX S9
         iterate 2 refine lsv (v:=.bool true) (w':=X3c) ?_
         refine lsc (adds_c X3c) ?_
         intro U7 Z
         have LB7:=lh (LB.out.trans (Z.out.mono LB.out.size))
         iterate 2 refine lsv (v:=.bool true) (w':=U7) ?_
         refine wpList_nil ?_
         go_wp2
         go_ret
         exact ⟨rfl,LE.out.trans (LB7.out.mono LE.out.size)⟩
theorem topGuards_walk (A : Option Addr) (len cap : Nat) (zs rs : List Int) (k : Int) (w : World) (hrow : IsRow .u8 w A len cap zs) (hr : rs.length = 16) (hro : ∀ z ∈ rs, (Lit.int .u32 z).wf = true) (hk : (Lit.int .i64 k).wf = true) (htab : Lib.TabIs Tryz.prog w "internal/strconv.uint64pow10" .u64 Lib.pow10Tab) (h2 : 2 < w.heap.size) : Calls Tryz.prog 3 #[.slice A len cap, .agg (rs.map (Value.int .u32)).toArray, .int .i64 k] w fun e w' => e = .returned (.bool true) ∧ Below w.heap.size w w' := by
 obtain ⟨hy,-,hl,hm⟩:=row_byt hrow
 refine topGuards_in w hy (by unfold maxLen at hm;omega) hr (fun z hz=>?_) htab h2
 have:=hro z hz
 simp [Lit.wf,IntKind.min,IntKind.max,IntKind.signed,IntKind.bits] at this
 omega
end Go.Proofs.YtljajnaclpbecaaGreatDoor
namespace Go.Proofs.YtljajnaclpbecaaGreatDoor
set_option maxRecDepth 1000000
set_option maxHeartbeats 8000000
open Go.ChangeShapes Go.WideShapes Go.ChangeAt Go.RowKit
set_option linter.unusedVariables false
def laid3 : List (String × DataW Unit) := [("math/bits.deBruijn32tab", Rows.laid_math_bits_deBruijn32tab), ("math/bits.deBruijn64tab", Rows.laid_math_bits_deBruijn64tab), ("internal/strconv.uint64pow10", Rows.laid_internal_strconv_uint64pow10)]
theorem door_met (os:Os) (args:Array Value):laidMetH Tryz.prog laid3 ((World.doorLaid Tryz.prog 100 os).forCall (fun _ _=>0) ⟨#[],args,[]⟩).memory:=
 laidMetH_of_parts3 (fuel:=8) (laidMet_of_run' 8 (by kernel_rfl) (by kernel_rfl)) (by kernel_rfl) (by kernel_rfl)
theorem tab_of_laid {W : World} (h : laidMetH Tryz.prog laid3 W) : Lib.TabIs Tryz.prog W "internal/strconv.uint64pow10" .u64 Lib.pow10Tab ∧ 2 < W.heap.size := by
 rw [MakeChecks.laidMetH_plain _ _ _ (by kernel_rfl)] at h
 have h3:=laidMet.tail (laidMet.tail h)
 have e:Rows.laid_internal_strconv_uint64pow10 (H:=Unit)=Lib.tabData .u64 Lib.pow10Tab:=by kernel_rfl
 rw [e] at h3
 have ht:=Lib.tabIs_of_head (P:=Tryz.prog) (g:=2) (by kernel_rfl) (by kernel_rfl) Tryz.underlying248 Tryz.underlying177 (by kernel_rfl) (by kernel_rfl) h3
 refine ⟨ht,?_⟩
 have g0 : Tryz.prog.globalNamed "internal/strconv.uint64pow10" = some 2 := by kernel_rfl
 unfold Lib.TabIs World.var? at ht
 rw [g0] at ht
 simp only [Option.bind_some] at ht
 rcases Nat.lt_or_ge 2 W.heap.size with h2 | h2
 ·exact h2
 ·rw [Array.getElem?_eq_none h2] at ht;cases ht
end Go.Proofs.YtljajnaclpbecaaGreatDoor
namespace Go.Proofs.YtljajnaclpbecaaGreatDoor
set_option maxRecDepth 1000000
set_option maxHeartbeats 8000000
open Go.ChangeShapes Go.WideShapes Go.ChangeAt Go.RowKit Go.Deep
set_option linter.unusedVariables false
section
variable {H:Type} {enc:TypeId×Value→H} {P:Program} {w:World} {base:Nat} {spare:Nat→Bool} {held:Bool}
theorem okWide_arr {r:Reach} {b0:Nat} {t e:TypeId} {n:Nat} {v:Value} (ht:P.underlying t=some (.array n e)) (h:Value.okWide P w r b0 t v):∃cs,v=.agg cs∧cs.size=P.cellsOf t:=by
 simp only [Value.okWide,ht] at h
 obtain ⟨cs,h1,h2,_⟩:=h
 exact ⟨cs,h1,h2⟩
theorem open_arr {r:Reach} {b0:Nat} {t e:TypeId} {k:IntKind} {n:Nat} {v:Value} {d:DataW H} {p:List MemPlace} (hs:P.underlying t=some (.array n e)) (he:P.underlying e=some (.int k)) (h1:P.cellsOf e=1) (hC:P.cellsOf t=n)
  (hv:Value.okWide P w r b0 t v) (h:DataW.Trod enc P w base spare held t v d p) :
  ∃zs:List Int,v=.agg (zs.map (Value.int k)).toArray∧zs.length=n∧∀z∈zs,(Lit.int k z).wf=true:=by
 obtain ⟨cs,rfl,hsz⟩:=okWide_arr hs hv
 obtain ⟨fuel,hf⟩:=h
 obtain ⟨xs,m,_,hx,_,hlen,hg⟩:=DataW.trod_array hs hf
 rw [hC] at hsz
 have key:∀i,i<n→∃z:Int,cs[i]?=some (.int k z)∧(Lit.int k z).wf=true:=by
  intro i hi
  have h2:=hg i hi
  rw [h1,Nat.mul_one] at h2
  have hjc:i<cs.size:=by omega
  have e1:((Value.agg cs).cells.toList.drop i).take 1=[cs[i]]:=by
   simp only [Value.cells]
   rw [List.drop_eq_getElem_cons (by simpa using hjc)]
   simp
  rw [e1] at h2
  have hxj:xs[i]?=some (xs[i]'(by omega)):=List.getElem?_eq_getElem (by omega)
  obtain ⟨a,e0,_,wa⟩:=DataW.trod_int he (h2.trans hxj)
  simp at e0
  exact ⟨a,by rw [Array.getElem?_eq_getElem hjc,e0],wa⟩
 obtain ⟨f,hf2⟩:=choose_lt (α:=Int) (p:=fun i z=>cs[i]?=some (.int k z)∧(Lit.int k z).wf=true) key
 refine ⟨(List.range n).map f,?_,by simp,?_⟩
 ·congr 1
  apply Array.ext_getElem?
  intro i
  by_cases hi:i<n
  ·rw [(hf2 i hi).1];simp [hi]
  ·rw [Array.getElem?_eq_none (by omega)];simp [hi]
 ·intro z hz
  obtain ⟨i,hi,rfl⟩:=List.mem_map.1 hz
  exact (hf2 i (List.mem_range.1 hi)).2
end
end Go.Proofs.YtljajnaclpbecaaGreatDoor
