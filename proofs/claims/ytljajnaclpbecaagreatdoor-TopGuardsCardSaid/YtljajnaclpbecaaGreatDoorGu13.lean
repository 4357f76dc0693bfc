/- Contracts and laws on the way to the statement, text 13 of 22. Conditions: as each states them. -/
import Derived.Test.YtljajnaclpbecaaGreatDoorGu1
import Derived.Test.YtljajnaclpbecaaGreatDoorGu6
import Derived.Test.YtljajnaclpbecaaGreatDoorGu12
import Derived.RangeFuncNested
import Derived.RangeFuncBound
import Derived.RangeFuncCalls
import Derived.RangeFuncLeaves
import Derived.Shelf.Abstract
import Derived.Shelf.RegionOpen
import Derived.WalkKit
import Derived.OwnWalkIn
import Derived.TacticsInMore
import Derived.LoopNIn
import Derived.LoopIn
import Derived.Outline
import Derived.Laws.EntriesVeiled
import Derived.Laws.BytesArg
import Derived.Laws.Strings
import Derived.Deep.CutRange
namespace Go.Proofs.YtljajnaclpbecaaGreatDoor
set_option maxRecDepth 1000000
set_option maxHeartbeats 8000000
open Go.RowKit Go.Shelf
set_option linter.unusedVariables false
set_option linter.unusedSimpArgs false
attribute [local go_sem] Oper.semAt_some
theorem decode_w (L b cap:Nat) (hL:1≤L∧L≤16) (zs:List Int) (w:World) (hy:Byt w (some ⟨b,0,none⟩) L zs):Calls Tryz.prog 149 #[.slice (some ⟨b,0,none⟩) L cap] w fun e w'=>∃v,e=.returned v∧DecV (2*L - 1) v∧Below w.heap.size w w':=by
 have hb:b<w.heap.size:=by
  obtain ⟨b',off,e,hc⟩:=hy.2.2 (by omega)
  injection e with e;injection e with e1 e2;subst e1 e2
  have h1:=hc 0 (by omega)
  rcases Nat.lt_or_ge b w.heap.size with h2 | h2
  ·exact h2
  ·unfold World.cell? at h1;simp only [Array.getElem?_eq_none h2] at h1;cases h1
 have HB:=lh hb
 have Y:=lh hy
 have HL:=lh hL
 obtain ⟨N,hN⟩:∃N,2*L - 1=N:=⟨_,rfl⟩
 have HN:=lh (show N+1=2*L by omega)
 rw [hN]
 have e1:IntKind.i64.wrap ((2:Int)*(L:Int))=2*(L:Int):=wrap_i64_id (by omega) (by omega)
 have e2:IntKind.i64.wrap (2*(L:Int) - 1)=(N:Int):=by rw [wrap_i64_id (by omega) (by omega)];omega
 clear hy hL hN hb
 refine (callsIn_wide (n:=5)).1 ?_
 refine callsIn_of_wp_marks Tryz.func149 rfl trivial ?_ rfl
 simp only [Tryz.ntmps149,List.size_toArray,List.length_cons,List.length_nil,Nat.reduceAdd,Nat.reduceSub,Array.replicate_succ,Array.replicate_zero,List.push_toArray,List.append_toArray,List.nil_append,List.cons_append]
 refine wpIn_wide.2 ?_
 go_upto_region 1 with fail
 have N0:=Bk.new w [.bool false,.string ⟨#[]⟩] 191
 have N1:=Bk.new (w.alloc (.cells #[.bool false,.string ⟨#[]⟩] 191)) [.bool false] 4
 have LB:=(((Below.refl w.heap.size w).alloc (by simp) (.cells #[.bool false,.string ⟨#[]⟩] 191)).alloc (by simp) (.cells #[.bool false] 4))
 simp only [World.size_alloc] at N1
 have M0:=(N0.alloc (.cells #[.bool false] 4))
 have M1:=N1
 have hsz:((w.alloc (.cells #[.bool false,.string ⟨#[]⟩] 191)).alloc (.cells #[.bool false] 4)).heap.size=w.heap.size+2:=by simp
 obtain ⟨w1,hW⟩:∃V,(w.alloc (.cells #[.bool false,.string ⟨#[]⟩] 191)).alloc (.cells #[.bool false] 4)=V:=⟨_,rfl⟩
 rw [hW] at LB hsz M0 M1
 first | rw [hW] | skip
 obtain ⟨B,hg⟩:∃k,w.heap.size=k:=⟨_,rfl⟩
 rw [hg] at LB hsz M0 M1
 try simp only [hg]
 clear hW N0 N1
 have H:=lh (show Bk w1 (B) 191 [.bool false,.string ⟨#[]⟩]∧Bk w1 (B+1) 4 [.bool false]∧Below B w w1 from ⟨M0,M1,LB⟩)
 clear LB M0 M1
 have HG:=lh hg
 clear hg
 go_upto_region 3 with (go_at_call 145;refine nz (inf_c HL.out _) ?_)
 refine wp_region_lit ?_
 iterate 3 refine lsv (w':=w1) ?_
 refine lsv (v:=.int .i64 (N:Int)) (w':=w1) ?_
 have MK:=run_mk_b N (by have:=HL.out;have:=HN.out;omega) w1
 refine lsv (v:=.slice (some ⟨w1.heap.size,0,none⟩) N N) (w':=w1.alloc (.cells (zeroB N) 5)) ?_
 have O1:Bk (w1.alloc (.cells (zeroB N) 5)) w1.heap.size 5 ((List.replicate N (0:Int)).map (Value.int .u8)):=by rw [List.map_replicate];exact Bk.new w1 _ 5
 have al:=(Below.refl w1.heap.size w1).alloc (Nat.le_refl _) (.cells (zeroB N) 5)
 have C2:=lh (show Bk (w1.alloc (.cells (zeroB N) 5)) B 191 [.bool false,.string ⟨#[]⟩]∧Bk (w1.alloc (.cells (zeroB N) 5)) (B+1) 4 [.bool false]∧Below B w (w1.alloc (.cells (zeroB N) 5)) from ⟨H.out.1.keep al,H.out.2.1.keep al,H.out.2.2.trans (al.mono (by omega))⟩)
 have z2:(w1.alloc (.cells (zeroB N) 5)).heap.size=B+3:=by rw [World.size_alloc];omega
 have hz1:w1.heap.size=B+2:=hsz
 rw [hz1] at O1
 simp only [hz1]
 obtain ⟨w2,hW⟩:∃V,w1.alloc (.cells (zeroB N) 5)=V:=⟨_,rfl⟩
 rw [hW] at O1 C2 z2
 rw [hW]
 clear hW MK al H hsz hz1 e1 e2
 refine lsv (v:=.pointer (some ⟨w2.heap.size,0,none⟩)) (w':=w2.alloc (.cells #[.slice none 0 0] 22)) ?_
 refine lsk (w':=(w2.alloc (.cells #[.slice none 0 0] 22)).setCell ⟨w2.heap.size,0,none⟩ (.slice (some ⟨B+2,0,none⟩) N N)) (by unfold execOp;go_simp;(try rfl)) ?_
 refine wpList_nil ?_
 have S2:Bk ((w2.alloc (.cells #[.slice none 0 0] 22)).setCell ⟨w2.heap.size,0,none⟩ (.slice (some ⟨B+2,0,none⟩) N N)) w2.heap.size 22 [.slice (some ⟨B+2,0,none⟩) N N]:=(Bk.new w2 [.slice none 0 0] 22).set_ 0 _
 have al:=(Ch.of_below ((Below.refl w2.heap.size w2).alloc (Nat.le_refl _) (.cells #[.slice none 0 0] 22)) [w2.heap.size]).setCell (p:=⟨w2.heap.size,0,none⟩) (by simp) (.slice (some ⟨B+2,0,none⟩) N N)
 have z3:((w2.alloc (.cells #[.slice none 0 0] 22)).setCell ⟨w2.heap.size,0,none⟩ (.slice (some ⟨B+2,0,none⟩) N N)).heap.size=B+4:=by simp;omega
 have D3:=lh (show D0 w ((w2.alloc (.cells #[.slice none 0 0] 22)).setCell ⟨w2.heap.size,0,none⟩ (.slice (some ⟨B+2,0,none⟩) N N)) B N (List.replicate N 0) from
  ⟨C2.out.1.ch al (by simp;omega),C2.out.2.1.ch al (by simp;omega),O1.ch al (by simp;omega),z2▸S2,by simp,by intro z hz;rw [List.mem_replicate] at hz;omega,below_ch C2.out.2.2 al (by simp;omega) (by omega)⟩)
 obtain ⟨w3,hW⟩:∃V,(w2.alloc (.cells #[.slice none 0 0] 22)).setCell ⟨w2.heap.size,0,none⟩ (.slice (some ⟨B+2,0,none⟩) N N)=V:=⟨_,rfl⟩
 rw [hW] at z3 D3
 rw [hW]
 simp only [z2]
 clear hW S2 al O1 C2 z2
 have Z3:=lh z3
 clear z3
 go_upto_region 4 with fail
 go_cut [5,6] from 19 to 20 (fun t5 t6 wx=>∃si sa:Nat,t5=.pointer (some ⟨si,0,none⟩)∧t6=.pointer (some ⟨sa,0,none⟩)∧DB w wx B si sa N (-1) (N:Int) (List.replicate N 0)∧wx.heap.size=B+6)
 case first=>
  refine wp_region_held_drew (S:=fun W=>Bk W (B+3) 22 [.slice (some ⟨B+2,0,none⟩) N N]) (by kernel_rfl) (D3.out.ft.drewN 1) (fun hHeld=>?_)
  have Z:=lh (show D0 w w3.drew B N (List.replicate N 0)∧w3.drew.heap.size=B+4 from ⟨D3.out.keep (dBelow' (Below.refl _ _) 1),Z3.out⟩)
  obtain ⟨v0,hv⟩:∃V,w3.drew=V:=⟨_,rfl⟩
  rw [hv] at Z hHeld ⊢
  clear hv D3 Z3
  refine tkn (y:=by (intro W hSw;have hc:=hSw.cell (c:=0) rfl;go_simp;(try with_reducible rfl))) ?_ (hQ:=by exact fun _ _ _ h=>exqM (fun w=>by simp [results,Act.put,Tryz.results149,Array.getElem?_setIfInBounds]) h)
  refine tki 1 ?_ (hQ:=by exact fun _ _ _ h=>exqM (fun w=>by simp [results,Act.put,Tryz.results149,Array.getElem?_setIfInBounds]) h)
  refine tk2 (i:=2) (j:=3) (by with_unfolding_all rfl) ?_ ?_
  ·refine opb (v:=.pointer (some ⟨v0.heap.size,0,none⟩)) (w1:=v0.alloc (.cells #[.int .i8 0] 221)) (R:=fun W=>D0 w W B N (List.replicate N 0)∧Bk W (B+4) 221 [.int .i8 0]∧W.heap.size=B+5) ⟨Z.out.1.keep ((Below.refl _ _).alloc (Nat.le_refl _) _),Z.out.2▸Bk.new v0 [.int .i8 0] 221,by rw [World.size_alloc,Z.out.2]⟩ (fun _ h=>h.1.ft) ?_
   rw [Z.out.2]
   clear Z hHeld
   intro v1 Z hHeld
   refine tk1 (i:=3) (by with_unfolding_all rfl) ?_
   refine opb (v:=.pointer (some ⟨v1.heap.size,0,none⟩)) (w1:=v1.alloc (.cells #[.int .i64 0] 3)) (R:=fun W=>D0 w W B N (List.replicate N 0)∧Bk W (B+4) 221 [.int .i8 0]∧Bk W (B+5) 3 [.int .i64 0]∧W.heap.size=B+6) ⟨Z.out.1.keep ((Below.refl _ _).alloc (Nat.le_refl _) _),Z.out.2.1.keep ((Below.refl _ _).alloc (Nat.le_refl _) _),Z.out.2.2▸Bk.new v1 [.int .i64 0] 3,by rw [World.size_alloc,Z.out.2.2]⟩ (fun _ h=>h.1.ft) ?_
   rw [Z.out.2.2]
   clear Z hHeld
   intro v2 Z hHeld
   have cS:=(Z.out.2.1).cell (c:=0) rfl
   have fS:=(Z.out.2.1).free
   refine tkw (w1:=v2.setCell ⟨B+4,0,none⟩ (.int .i8 (-1))) (R:=fun W=>D0 w W B N (List.replicate N 0)∧Bk W (B+4) 221 [.int .i8 (-1)]∧Bk W (B+5) 3 [.int .i64 0]∧W.heap.size=B+6) ⟨Z.out.1.set_ (by omega) _,Z.out.2.1.set_ 0 _,Z.out.2.2.1.other _ (by show B+4≠B+5;omega),by simpa using Z.out.2.2.2⟩ (fun _ h=>h.1.ft) ?_
   clear Z hHeld cS fS
   intro v3 Z hHeld
   have cS:=(Z.out.2.2.1).cell (c:=0) rfl
   have fS:=(Z.out.2.2.1).free
   refine tkw (w1:=v3.setCell ⟨B+5,0,none⟩ (.int .i64 (N:Int))) (R:=fun W=>D0 w W B N (List.replicate N 0)∧Bk W (B+4) 221 [.int .i8 (-1)]∧Bk W (B+5) 3 [.int .i64 (N:Int)]∧W.heap.size=B+6) ⟨Z.out.1.set_ (by omega) _,Z.out.2.1.other _ (by show B+5≠B+4;omega),Z.out.2.2.1.set_ 0 _,by simpa using Z.out.2.2.2⟩ (fun _ h=>h.1.ft) ?_
   clear Z hHeld cS fS
   intro v4 Z hHeld
   refine wpAnyH_done (by with_unfolding_all rfl) ?_ _
   clear hHeld
   go_wp2_with fail
   go_meet
   exact ⟨_,_,rfl,rfl,Z.out.1.db (Z.out.2.1) (Z.out.2.2.1) (by omega),Z.out.2.2.2⟩
  ·refine opb (v:=.pointer (some ⟨v0.heap.size,0,none⟩)) (w1:=v0.alloc (.cells #[.int .i64 0] 3)) (R:=fun W=>D0 w W B N (List.replicate N 0)∧Bk W (B+4) 3 [.int .i64 0]∧W.heap.size=B+5) ⟨Z.out.1.keep ((Below.refl _ _).alloc (Nat.le_refl _) _),Z.out.2▸Bk.new v0 [.int .i64 0] 3,by rw [World.size_alloc,Z.out.2]⟩ (fun _ h=>h.1.ft) ?_
   rw [Z.out.2]
   clear Z hHeld
   intro v1 Z hHeld
   refine tk1 (i:=2) (by with_unfolding_all rfl) ?_
   refine opb (v:=.pointer (some ⟨v1.heap.size,0,none⟩)) (w1:=v1.alloc (.cells #[.int .i8 0] 221)) (R:=fun W=>D0 w W B N (List.replicate N 0)∧Bk W (B+4) 3 [.int .i64 0]∧Bk W (B+5) 221 [.int .i8 0]∧W.heap.size=B+6) ⟨Z.out.1.keep ((Below.refl _ _).alloc (Nat.le_refl _) _),Z.out.2.1.keep ((Below.refl _ _).alloc (Nat.le_refl _) _),Z.out.2.2▸Bk.new v1 [.int .i8 0] 221,by rw [World.size_alloc,Z.out.2.2]⟩ (fun _ h=>h.1.ft) ?_
   rw [Z.out.2.2]
   clear Z hHeld
   intro v2 Z hHeld
   have cS:=(Z.out.2.2.1).cell (c:=0) rfl
   have fS:=(Z.out.2.2.1).free
   refine tkw (w1:=v2.setCell ⟨B+5,0,none⟩ (.int .i8 (-1))) (R:=fun W=>D0 w W B N (List.replicate N 0)∧Bk W (B+4) 3 [.int .i64 0]∧Bk W (B+5) 221 [.int .i8 (-1)]∧W.heap.size=B+6) ⟨Z.out.1.set_ (by omega) _,Z.out.2.1.other _ (by show B+5≠B+4;omega),Z.out.2.2.1.set_ 0 _,by simpa using Z.out.2.2.2⟩ (fun _ h=>h.1.ft) ?_
   clear Z hHeld cS fS
   intro v3 Z hHeld
   have cS:=(Z.out.2.1).cell (c:=0) rfl
   have fS:=(Z.out.2.1).free
   refine tkw (w1:=v3.setCell ⟨B+4,0,none⟩ (.int .i64 (N:Int))) (R:=fun W=>D0 w W B N (List.replicate N 0)∧Bk W (B+4) 3 [.int .i64 (N:Int)]∧Bk W (B+5) 221 [.int .i8 (-1)]∧W.heap.size=B+6) ⟨Z.out.1.set_ (by omega) _,Z.out.2.1.set_ 0 _,Z.out.2.2.1.other _ (by show B+4≠B+5;omega),by simpa using Z.out.2.2.2⟩ (fun _ h=>h.1.ft) ?_
   clear Z hHeld cS fS
   intro v4 Z hHeld
   refine wpAnyH_done (by with_unfolding_all rfl) ?_ _
   clear hHeld
   go_wp2_with fail
   go_meet
   exact ⟨_,_,rfl,rfl,Z.out.1.db (Z.out.2.2.1) (Z.out.2.1) (by omega),Z.out.2.2.2⟩
 case rest=>
 obtain ⟨si,sa,rfl,rfl,hD,hz⟩:=hcut
 rename World=>w4
 have D4:=lh hD
 have Z4:=lh hz
 clear hD hz D3 Z3
 go_upto_region 5 with fail
 refine wp_region_lit ?_
 refine lsc (signs_c w4) ?_
 intro w5 b5
 have D5:=lh (D4.out.keep b5.out)
 have z5:B+6≤w5.heap.size:=by have:=b5.out.size;have:=Z4.out;omega
 clear D4 Z4 b5
 refine lsv (v:=.pointer (some ⟨w5.heap.size,0,none⟩)) (w':=w5.alloc (.cells ([.int .i8 0,.int .i8 0,.int .i8 0,.int .i8 0,.int .i8 0,.int .i8 0,.int .i8 0,.int .i8 0,.int .i8 0,.int .i8 0,.int .i8 0,.int .i8 0,.int .i8 0,.int .i8 0,.int .i8 0,.int .i8 0]:List Value).toArray 222)) ?_
 have T6:=Bk.new w5 [.int .i8 0,.int .i8 0,.int .i8 0,.int .i8 0,.int .i8 0,.int .i8 0,.int .i8 0,.int .i8 0,.int .i8 0,.int .i8 0,.int .i8 0,.int .i8 0,.int .i8 0,.int .i8 0,.int .i8 0,.int .i8 0] 222
 have D6:=D5.out.keep ((Below.refl w5.heap.size w5).alloc (Nat.le_refl _) (.cells ([.int .i8 0,.int .i8 0,.int .i8 0,.int .i8 0,.int .i8 0,.int .i8 0,.int .i8 0,.int .i8 0,.int .i8 0,.int .i8 0,.int .i8 0,.int .i8 0,.int .i8 0,.int .i8 0,.int .i8 0,.int .i8 0]:List Value).toArray 222))
 obtain ⟨w6,hW⟩:∃V,w5.alloc (.cells ([.int .i8 0,.int .i8 0,.int .i8 0,.int .i8 0,.int .i8 0,.int .i8 0,.int .i8 0,.int .i8 0,.int .i8 0,.int .i8 0,.int .i8 0,.int .i8 0,.int .i8 0,.int .i8 0,.int .i8 0,.int .i8 0]:List Value).toArray 222)=V:=⟨_,rfl⟩
 rw [hW] at T6 D6
 rw [hW]
 obtain ⟨tb,htb⟩:∃m,w5.heap.size=m:=⟨_,rfl⟩
 rw [htb] at T6 z5
 simp only [htb]
 clear hW D5 htb
 refine lss (cs':=tbV) T6 rfl (by simp [tbV,Value.oneCell']) (by kernel_rfl) ?_
 have T7:=T6.rowSet tbV
 have D7:=D6.row z5 tbV.toArray
 obtain ⟨w7,hW⟩:∃V,w6.setRow tb tbV.toArray=V:=⟨_,rfl⟩
 rw [hW] at T7 D7
 rw [hW]
 clear hW T6 D6
 refine wpList_nil ?_
 have lt7:=T7.lt
 go_wp2_with (go_at_call 147;refine (digits_c _ _ _ _).mono ?_;rintro e w1 ⟨rfl,rfl⟩)
 have E8:Bk (w7.alloc (.cells #[.slice (some ⟨b,0,none⟩) L cap] 22)) w7.heap.size 22 [.slice (some ⟨b,0,none⟩) L cap]:=Bk.new w7 [.slice (some ⟨b,0,none⟩) L cap] 22
 have kp:=(Below.refl _ _).alloc (Nat.le_refl w7.heap.size) (.cells #[.slice (some ⟨b,0,none⟩) L cap] 22)
 have D8:=D7.keep kp
 have T8:=T7.keep kp
 have l8:=E8.lt
 obtain ⟨db,hdb⟩:∃m,w7.heap.size=m:=⟨_,rfl⟩
 rw [hdb] at E8 lt7 l8
 simp only [hdb]
 obtain ⟨W0,hW⟩:∃V,w7.alloc (.cells #[.slice (some ⟨b,0,none⟩) L cap] 22)=V:=⟨_,rfl⟩
 rw [hW] at E8 D8 T8 l8
 rw [hW]
 clear hW kp D7 T7 hdb
 have hbB:b<B:=by rw [← HG.out];exact HB.out
 have Y0:=Y.out.keep (show Below w.heap.size w W0 from HG.out▸D8.fb)
 have hx:=D8.fx
 refine (wpIn_wide (n:=5)).1 ?_
 refine wpIn_rangeFunc_ownF rfl (by omega) (gf:=174) (lb:=#[.pointer (some ⟨db,0,none⟩)]) rfl trivial (enters_of Tryz.func174 (by kernel_rfl) rfl)
  (digits_stops (5 - 1) (by omega) L b cap db zs W0 Y0 HL.out.1 HL.out.2 (by omega) (by omega) (E8.cell (c:=0) rfl)) Kp2.trans (fun W l o o' h1 h2 h3 h4=>Kp2.put_ (by omega) (by omega) W l o o' h1 h2 h3 h4) (Below.refl _ _) (fun _=>rfl)
  (fun pre W=>(DIn W B si sa N L pre.length∧Bk W tb 222 tbV)∧Below B w W)
  (fun c pre W=>(c=.ret∧XDn W B)∧Below B w W)
  (OwnFrom.and (Own.from (fun s A B' row hs hg hr=>by obtain ⟨⟨sg,a,zs',hd,hc⟩,ht⟩:=hs;exact ⟨⟨sg,a,zs',hd.own hg hr,hc⟩,bk_kept ht hg hr⟩) _) (ownFrom_below (by have:=HG.out;omega) (by omega)))
  (fun c=>OwnFrom.and (Own.from (fun s A B' row hs hg hr=>⟨hs.1,bk_kept hs.2.1 hg hr,bk_kept hs.2.2 hg hr⟩) _) (ownFrom_below (by have:=HG.out;omega) (by omega)))
  ⟨⟨⟨_,_,_,D8.dc,.inl ⟨rfl,rfl,rfl⟩⟩,T8⟩,D8.fb⟩
  ?a1 ?assign ?body ?done ?stop
 case assign=>
  intro l x W K hK
  gi_wp2
  exact hK
 case body=>
  rintro l pre ⟨d0,hd0⟩ W ⟨⟨⟨sg,a,zs',hD,hcase⟩,hT⟩,hB⟩ hlen
  obtain ⟨d,rfl⟩:=Int.eq_ofNat_of_zero_le hd0.1
  have hd:d<16:=by omega
  have eb:(pre++[(⟨(d:Int),hd0⟩:K15)]).length=pre.length+1:=by simp
  have EB:=lh eb
  clear eb
  have k1:=hD.fs.cell (c:=0) rfl
  have k2:=hD.fa.cell (c:=0) rfl
  have k3:=hD.ft.cell (c:=0) rfl
  have k4:=hT.cell (tbV_at d hd)
  have k6:=hD.fd.cell (c:=0) rfl
  have k7:=hD.fd.cell (c:=1) rfl
  have k8:=hD.fk.cell (c:=0) rfl
  have f6:=hD.fd.free
  have f8:=hD.fk.free
  have n1:si≠B:=by omega
  have n2:si≠B+1:=by omega
  have n3:sa≠si:=by omega
  have n4:si≠sa:=by omega
  have n5:B+2≠sa:=by omega
  have n6:sa≠B+3:=by omega
  have n7:B+3≠sa:=by omega
  have n8:B+2≠si:=by omega
  have f1:=hD.fs.free
  have f2:=hD.fa.free
  have f3:=hD.fo.free
  have rt:XDn ((((W.setCell ⟨B,0,none⟩ (.bool false)).setCell ⟨B,1,none⟩ (.string ⟨#[]⟩)).setCell ⟨B+1,0,none⟩ (.bool false))) B:=⟨((hD.fd.set_ 0 (.bool false)).set_ 1 (.string ⟨#[]⟩)).other _ (by show B+1≠B;omega),((hD.fk.other _ (by show B≠B+1;omega)).other _ (by show B≠B+1;omega)).set_ 0 _⟩
  have rt2:∀z:Int,XDn (((((W.setCell ⟨si,0,none⟩ (.int .i8 z)).setCell ⟨B,0,none⟩ (.bool false)).setCell ⟨B,1,none⟩ (.string ⟨#[]⟩)).setCell ⟨B+1,0,none⟩ (.bool false))) B:=fun z=>⟨((((hD.sgn z).fd).set_ 0 (.bool false)).set_ 1 (.string ⟨#[]⟩)).other _ (by show B+1≠B;omega),(((hD.sgn z).fk.other _ (by show B≠B+1;omega)).other _ (by show B≠B+1;omega)).set_ 0 _⟩
  have RT:=lh rt
  have RT2:=lh rt2
  have TBk:=lh hT
  have DD:=lh hD
  clear rt rt2 hT
  rcases hcase with ⟨hp,rfl,rfl⟩ | ⟨hp,hs1,hs2,ha⟩
  ·obtain ⟨sv,hsv⟩:∃sv,sgV d=sv:=⟨_,rfl⟩
   have SV:=lh (show sv=0∨(1≤sv∧sv≤2) by rw [← hsv];unfold sgV;split<;>(try split)<;>omega)
   rw [hsv] at k4
   have k5:(d:Int)<16:=by omega
   have HP:=lh hp
   clear hsv hp hd hD
   by_cases hz:sv=0
   ·subst hz
    gi_wp2
    exact ⟨(((KeepsOthers.setCell _ _ _).trans (KeepsOthers.setCell _ _ _)).trans (KeepsOthers.setCell _ _ _)).trans (KeepsOthers.setCell _ _ _),⟨rfl,RT2.out 0⟩,(((hB.setCell (p:=⟨si,0,none⟩) (by show B≤si;omega) _).setCell (p:=⟨B,0,none⟩) (Nat.le_refl B) _).setCell (p:=⟨B,1,none⟩) (Nat.le_refl B) _).setCell (p:=⟨B+1,0,none⟩) (by show B≤B+1;omega) _⟩
   ·have e1:(sv == 0)=false:=by rw [beq_eq_false_iff_ne];exact hz
    have HZ:=lh hz
    clear hz
    gi_wp2
    refine ⟨KeepsOthers.setCell _ _ _,Kp2.set_ _ (by show si≠b;omega) (by show si≠db;omega),⟨?_,TBk.out.other _ (by show si≠tb;omega)⟩,hB.setCell (p:=⟨si,0,none⟩) (by show B≤si;omega) _⟩
    rw [EB.out,HP.out]
    exact ⟨sv,(N:Int),zs',DD.out.sgn sv,.inr ⟨by omega,by have:=SV.out;have:=HZ.out;omega,by have:=SV.out;omega,by have:=HN.out;omega⟩⟩
  ·have q1:¬(sg<0):=by omega
   by_cases h9:9<d
   ·have q2:(9:Int)<(d:Int):=by omega
    clear h9 hd hD hs1 hs2 ha hp
    gi_wp2
    exact ⟨((KeepsOthers.setCell _ _ _).trans (KeepsOthers.setCell _ _ _)).trans (KeepsOthers.setCell _ _ _),⟨rfl,RT.out⟩,((hB.setCell (p:=⟨B,0,none⟩) (Nat.le_refl B) _).setCell (p:=⟨B,1,none⟩) (Nat.le_refl B) _).setCell (p:=⟨B+1,0,none⟩) (by show B≤B+1;omega) _⟩
   ·have q2:¬(9:Int)<(d:Int):=by omega
    obtain ⟨i,hi⟩:∃i:Nat,a=(i:Int)+1:=⟨(a - 1).toNat,by omega⟩
    have k9:=hD.fo.cell (c:=i) (v:=.int .u8 (zs'.getD i 0)) (by have:=hD.fl;have:=HN.out;rw [List.getElem?_map,List.getElem?_eq_getElem (by omega),List.getD_eq_getElem?_getD,List.getElem?_eq_getElem (by omega)];rfl)
    have q3:IntKind.i64.wrap ((i:Int)+1 - 1)=(i:Int):=by rw [wrap_i64_id (by omega) (by have:=HL.out;omega)];omega
    have q4:(i:Int)<(N:Int):=by have:=HN.out;omega
    have q6:IntKind.i64.wrap (i:Int)=(i:Int):=wrap_i64_id (by omega) (by have:=HL.out;omega)
    have q5:IntKind.u8.wrap ((48:Int)+(d:Int))=((48+d:Nat):Int):=by rw [IntKind.wrap_u8];omega
    obtain ⟨ch,hch⟩:∃ch,48+d=ch:=⟨_,rfl⟩
    rw [hch] at q5
    have CH:=lh (show ch≤255 by omega)
    have HA:=lh ha
    have HI:=lh hi
    have HS:=lh (⟨hs1,hs2⟩:1≤sg∧sg≤2)
    rw [hi] at k2
    have HP:=lh hp
    clear h9 hd hD hs1 hs2 ha hp hch hi
    gi_wp2
    refine ⟨(KeepsOthers.setCell _ _ _).trans (KeepsOthers.setCell _ _ _),(Kp2.set_ _ (by show sa≠b;omega) (by show sa≠db;omega)).trans (Kp2.set_ _ (by show B+2≠b;omega) (by show B+2≠db;omega)),⟨?_,(TBk.out.other _ (by show sa≠tb;omega)).other _ (by show B+2≠tb;omega)⟩,(hB.setCell (p:=⟨sa,0,none⟩) (by show B≤sa;omega) _).setCell (p:=⟨B+2,i,none⟩) (by show B≤B+2;omega) _⟩
    rw [EB.out]
    exact ⟨sg,(i:Int),_,(DD.out.plc (i:Int)).txt i ch CH.out,.inr ⟨by omega,HS.out.1,HS.out.2,by have:=HA.out;have:=HI.out;omega⟩⟩
 case done=>
  rintro D ys W hDD hys ⟨⟨⟨sg,a,zs',hD,hcase⟩,hT⟩,hB⟩ hK
  have hyl:ys.length=2*L:=by have:=congrArg List.length hys;rw [vals_len,hv_len,Y.out.1] at this;exact this
  obtain ⟨hs1,hs2,rfl⟩:1≤sg∧sg≤2∧a=0:=by
   rcases hcase with ⟨hp,-,-⟩ | ⟨hp,h1,h2,h3⟩
   ·have:=HL.out;omega
   ·exact ⟨h1,h2,by omega⟩
  have HS:=lh (⟨hs1,hs2⟩:1≤sg∧sg≤2)
  have DD:=lh hD
  have BB:=lh hB
  have KK:=lh hK
  clear hys hcase hT hD hB hK hs1 hs2
  go_wp2
  go_loopw [] (fun W'=>∃ (a:Nat) (sg:Int) (zs':List Int),a+1≤N∧DC W' B si sa N sg (a:Int) zs'∧Below B w W'∧W'.heap[D]?=some (.deferred (some []))) (fun W'=>(match W'.cell? ⟨sa,0,none⟩ with | some (.int _ z)=>N - z.toNat | _=>0))
  case atStart=>exact ⟨0,sg,zs',by have:=HL.out;have:=HN.out;omega,DD.out,BB.out,KK.out⟩
  case round=>
   clear DD BB KK HS
   obtain ⟨a,sg,zs',haN,hD,hB,hK⟩:=hrel
   rename World=>W
   have k1:=hD.fa.cell (c:=0) rfl
   have k2:=hD.ft.cell (c:=0) rfl
   have k3:=hD.fo.cell (c:=a) (v:=.int .u8 (zs'.getD a 0)) (by have:=hD.fl;rw [List.getElem?_map,List.getElem?_eq_getElem (by omega),List.getD_eq_getElem?_getD,List.getElem?_eq_getElem (by omega)];rfl)
   have f2:=hD.fa.free
   have e0:IntKind.i64.wrap ((N:Int) - 1)=(N:Int) - 1:=wrap_i64_id (by have:=HN.out;omega) (by have:=HN.out;have:=HL.out;omega)
   have e1:IntKind.i64.wrap ((a:Int)+1)=(a:Int)+1:=wrap_i64_id (by omega) (by have:=HN.out;have:=HL.out;omega)
   have e2:(a:Int)<(N:Int):=by omega
   obtain ⟨z,hz⟩:∃z,zs'.getD a 0=z:=⟨_,rfl⟩
   rw [hz] at k3
   have DD:=lh hD
   have BB:=lh hB
   have KK:=lh hK
   have AN:=lh haN
   have CC:=lh k1
   have hgo:((a:Int)<(N:Int) - 1∧(z == 48)=true)∨((a:Int)<(N:Int) - 1∧(z == 48)=false)∨¬(a:Int)<(N:Int) - 1:=by
    by_cases h1:(a:Int)<(N:Int) - 1
    ·cases hq:(z == 48)
     ·exact .inr (.inl ⟨h1,rfl⟩)
     ·exact .inl ⟨h1,rfl⟩
    ·exact .inr (.inr h1)
   clear hz hD hB hK haN
   rcases hgo with ⟨g1,g2⟩ | hgo
   ·have HA:=lh g1
    go_wp2
    go_roundw
    case rel=>exact ⟨a+1,sg,zs',by have:=HA.out;omega,DD.out.plc _,BB.out.setCell (p:=⟨sa,0,none⟩) (by show B≤sa;omega) _,(KeepsOthers.setCell W ⟨sa,0,none⟩ _).same D _ KK.out rfl⟩
    case measure=>
     have j1:=CC.out
     have j2:=(DD.out.plc ((a:Int)+1)).fa.cell (c:=0) rfl
     rw [j1,j2]
     have:=HA.out
     simp
     omega
   rcases hgo with ⟨g1,g2⟩ | g1
   all_goals
    go_upto_region 18 with fail
    have e3:(a:Int)≤(N:Int):=by omega
    have e4:¬ N=a:=by omega
    have CV:=lh (show ∀W',Bk W' (B+2) 5 (zs'.map (Value.int .u8))→(convert 22 9 (.slice (some ⟨B+2,a,none⟩) (N - a) (N - a))).run Tryz.prog W'=.ok (.string (strOfNums (zs'.drop a))) W' from fun W' hW'=>by
     have h1:=(byt_bk' hW' DD.out.fl DD.out.fr).cut a (by omega)
     rw [Nat.zero_add] at h1
     exact conv_b h1 (N - a))
    have SZ:=lh (show (strOfNums (zs'.drop a)).size≤N by rw [str_size,List.length_drop,DD.out.fl];omega)
    obtain ⟨bs,hbs⟩:∃bs,strOfNums (zs'.drop a)=bs:=⟨_,rfl⟩
    rw [hbs] at CV SZ
    clear k1 k2 k3 f2 e1 e2 g1 hbs e0
    try clear g2
    refine wp_region_held_drew (S:=fun W'=>Bk W' (B+3) 22 [.slice (some ⟨B+2,0,none⟩) N N]∧Bk W' si 221 [.int .i8 sg]∧Bk W' sa 3 [.int .i64 (a:Int)]∧Bk W' (B+2) 5 (zs'.map (Value.int .u8))) (by kernel_rfl) ⟨DD.out.ft.drewN 1,DD.out.fs.drewN 1,DD.out.fa.drewN 1,DD.out.fo.drewN 1⟩ (fun hHeld=>?_)
    have Z:=lh (show Bk W.drew B 191 [.bool false,.string ⟨#[]⟩]∧Bk W.drew (B+1) 4 [.bool false]∧(Bk W.drew (B+3) 22 [.slice (some ⟨B+2,0,none⟩) N N]∧Bk W.drew si 221 [.int .i8 sg]∧Bk W.drew sa 3 [.int .i64 (a:Int)]∧Bk W.drew (B+2) 5 (zs'.map (Value.int .u8)))∧Below B w W.drew∧W.drew.heap[D]?=some (.deferred (some [])) from ⟨DD.out.fd.drewN 1,DD.out.fk.drewN 1,hHeld,dBelow' BB.out 1,KK.out⟩)
    obtain ⟨v0,hv⟩:∃V,W.drew=V:=⟨_,rfl⟩
    rw [hv] at Z hHeld ⊢
    clear hv DD BB KK CC
    refine tkn (y:=by (intro W hSw;have q1:=hSw.2.1.cell (c:=0) rfl;have q2:=hSw.2.2.1.cell (c:=0) rfl;have q3:=hSw.1.cell (c:=0) rfl;go_simp;(try with_reducible rfl))) ?_ (hQ:=by exact fun _ _ _ h=>exqM (fun w=>by simp [results,Act.put,Tryz.results149,Array.getElem?_setIfInBounds]) h)
    refine tkn (v:=.bool (sg == 2)) (y:=by (intro W hSw;have q1:=hSw.2.1.cell (c:=0) rfl;have q2:=hSw.2.2.1.cell (c:=0) rfl;have q3:=hSw.1.cell (c:=0) rfl;go_simp;(try with_reducible rfl))) ?_ (hQ:=by exact fun _ _ _ h=>exqM (fun w=>by simp [results,Act.put,Tryz.results149,Array.getElem?_setIfInBounds]) h)
    iterate 2 refine tkn (y:=by (intro W hSw;have q1:=hSw.2.1.cell (c:=0) rfl;have q2:=hSw.2.2.1.cell (c:=0) rfl;have q3:=hSw.1.cell (c:=0) rfl;go_simp;(try with_reducible rfl))) ?_ (hQ:=by exact fun _ _ _ h=>exqM (fun w=>by simp [results,Act.put,Tryz.results149,Array.getElem?_setIfInBounds]) h)
    refine tkn (v:=.slice (some ⟨B+2,a,none⟩) (N - a) (N - a)) (y:=by (intro W hSw;go_simp;(try with_reducible rfl))) ?_ (hQ:=by exact fun _ _ _ h=>exqM (fun w=>by simp [results,Act.put,Tryz.results149,Array.getElem?_setIfInBounds]) h)
    refine tkn (v:=.string bs) (y:=by (intro W hSw;have hc:=CV.out W hSw.2.2.2;go_simp;(try with_reducible rfl))) ?_ (hQ:=by exact fun _ _ _ h=>exqM (fun w=>by simp [results,Act.put,Tryz.results149,Array.getElem?_setIfInBounds]) h)
    refine tki 6 (v:=.agg #[.bool (sg == 2),.string bs]) (y:=by (intro W hSw;go_simp;(try with_reducible rfl))) ?_ (hQ:=by exact fun _ _ _ h=>exqM (fun w=>by simp [results,Act.put,Tryz.results149,Array.getElem?_setIfInBounds]) h)
    refine tks_ (cs':=[.bool (sg == 2),.string bs]) Z.out.1 rfl (by simp [Value.oneCell']) (by kernel_rfl) (R:=fun W'=>Bk W' B 191 [.bool (sg == 2),.string bs]∧Bk W' (B+1) 4 [.bool false]∧(Bk W' (B+3) 22 [.slice (some ⟨B+2,0,none⟩) N N]∧Bk W' si 221 [.int .i8 sg]∧Bk W' sa 3 [.int .i64 (a:Int)]∧Bk W' (B+2) 5 (zs'.map (Value.int .u8)))∧Below B w W'∧W'.heap[D]?=some (.deferred (some []))) ⟨Z.out.1.rowSet _,Z.out.2.1.rowOth (by omega) _,⟨Z.out.2.2.1.1.rowOth (by omega) _,Z.out.2.2.1.2.1.rowOth (by omega) _,Z.out.2.2.1.2.2.1.rowOth (by omega) _,Z.out.2.2.1.2.2.2.rowOth (by omega) _⟩,below_row Z.out.2.2.2.1 (Nat.le_refl B) _,(setRow_other _ _ _ _ (by omega)).trans Z.out.2.2.2.2⟩ (fun _ h=>h.2.2.1) ?_
    clear Z hHeld
    intro v1 Z hHeld
    have cS:=(Z.out.2.1).cell (c:=0) rfl
    have fS:=(Z.out.2.1).free
    refine tkw (w1:=v1.setCell ⟨B+1,0,none⟩ (.bool true)) (R:=fun W'=>Bk W' B 191 [.bool (sg == 2),.string bs]∧Bk W' (B+1) 4 [.bool true]∧(Bk W' (B+3) 22 [.slice (some ⟨B+2,0,none⟩) N N]∧Bk W' si 221 [.int .i8 sg]∧Bk W' sa 3 [.int .i64 (a:Int)]∧Bk W' (B+2) 5 (zs'.map (Value.int .u8)))∧Below B w W'∧W'.heap[D]?=some (.deferred (some []))) ⟨Z.out.1.other _ (by show B+1≠B;omega),Z.out.2.1.set_ 0 _,⟨Z.out.2.2.1.1.other _ (by show B+1≠B+3;omega),Z.out.2.2.1.2.1.other _ (by show B+1≠si;omega),Z.out.2.2.1.2.2.1.other _ (by show B+1≠sa;omega),Z.out.2.2.1.2.2.2.other _ (by show B+1≠B+2;omega)⟩,Z.out.2.2.2.1.setCell (p:=⟨B+1,0,none⟩) (by show B≤B+1;omega) _,(KeepsOthers.setCell _ _ _).same D _ Z.out.2.2.2.2 rfl⟩ (fun _ h=>h.2.2.1) ?_
    clear Z hHeld cS fS
    intro v2 Z hHeld
    refine wpAnyH_done (by with_unfolding_all rfl) ?_ _
    clear hHeld
    go_wp2
    have hk2:=bk_kept Z.out.1 (grownBy_putObj' _ D (.deferred none)) (fun r e=>by cases e;exact ⟨_,Z.out.2.2.2.2,rfl⟩)
    have hk3:=bk_kept Z.out.2.1 (grownBy_putObj' _ D (.deferred none)) (fun r e=>by cases e;exact ⟨_,Z.out.2.2.2.2,rfl⟩)
    refine ⟨by simp,.inl ⟨_,_,rfl,run_takeDeferred Z.out.2.2.2.2,?_⟩⟩
    refine ⟨_,res_cc Tryz.results149 _ _ hk2 hk3 rfl rfl (by kernel_rfl),_,rfl,⟨_,_,_,rfl,SZ.out⟩,?_⟩
    rw [HG.out]
    exact Z.out.2.2.2.1.trans (belowK_b (w:=w) (by have:=HG.out;omega) _ D _ _ (by have:=HG.out;omega) Z.out.2.2.2.2 rfl rfl)
 case stop=>
  rintro D c pre W hDD ⟨cc,hcc,hpre⟩ ⟨⟨rfl,hX⟩,hB⟩ hK
  have k0:=hX.1.cell (c:=0) rfl
  have k1:=hX.2.cell (c:=0) rfl
  have hk2:=bk_kept hX.1 (grownBy_putObj' _ D (.deferred none)) (fun r e=>by cases e;exact ⟨_,hK,rfl⟩)
  have hk3:=bk_kept hX.2 (grownBy_putObj' _ D (.deferred none)) (fun r e=>by cases e;exact ⟨_,hK,rfl⟩)
  clear hpre
  gi_wp2
  refine ⟨by simp,.inl ⟨_,_,rfl,run_takeDeferred hK,?_⟩⟩
  refine ⟨_,res_cc Tryz.results149 _ _ hk2 hk3 rfl rfl (by kernel_rfl),_,rfl,⟨_,_,_,rfl,Nat.zero_le _⟩,?_⟩
  rw [HG.out]
  exact hB.trans (belowK_b (w:=w) (by have:=HG.out;omega) W D _ _ (by have:=HG.out;omega) hK rfl rfl)
end Go.Proofs.YtljajnaclpbecaaGreatDoor
namespace Go.Proofs.YtljajnaclpbecaaGreatDoor
open Go.RowKit
set_option maxRecDepth 1000000
set_option maxHeartbeats 8000000
set_option linter.unusedVariables false
set_option linter.unusedSimpArgs false
def RdV (L:Nat) (v:Value):Prop:=∃ (s:Bool) (h l:Nat) (ok:Bool),v=.tuple #[.agg #[.bool s,.int .u64 (h:Int),.int .u64 (l:Int)],.bool ok]∧h<18446744073709551616∧l<18446744073709551616∧(L≤8→h=0)
theorem p29 (k:Nat) (hk:k≤14):29*10 ^ k≤2900000000000000∧29*10 ^ (k+1)=10*(29*10 ^ k):=by
 have h:=Nat.pow_le_pow_right (n:=10) (by omega) hk
 have e:(10:Nat) ^ 14=100000000000000:=by decide
 rw [e] at h
 exact ⟨by omega,by rw [Nat.pow_succ];omega⟩
theorem dsize_c {n:Nat} (h:1≤n∧n≤16) (w:World):Calls Tryz.prog 148 #[.int .i64 (n:Int)] w fun e w'=>e=.returned (.bool true)∧w=w':=by
 have h1:(1:Int)≤(n:Int):=by omega
 have h2:(n:Int)≤16:=by omega
 go_enter Tryz.func148,Tryz.ntmps148
 go_wp2
 go_ret
 exact ⟨rfl,rfl⟩
section
variable {L:List Oper} {Q:Exit→Act→World→Prop} {md:Region.Mode} {S:World→Prop} {oi:Oper} {fuel:Nat} {listed:Array Bool} {a:Act} {w:World} {X:Prop}
theorem tkvl {i g:Nat} {T:TypeId} {x:Operand} {cs:List Value} (hB:Bk w g T cs) (h:X) (hr:Region.ready md L.toArray listed=[i]:=by with_unfolding_all rfl) (hi:L[i]?=some oi:=by rfl)
  (hw:Region.wanted oi (yielded L.toArray a.tmps)=true:=by rfl) (ho:oi.op=.load T x:=by rfl) (hx:a.eval x=.pointer (some ⟨g,0,none⟩):=by rfl) (hd:isRw T:=by unfold isRw;kernel_rfl) (hn:(Tryz.prog.info? T).map (·.size)=some cs.length:=by kernel_rfl)
  (hP:wpAnyH Tryz.prog md L.toArray Q S fuel (listed.setIfInBounds i true) (a.put oi.dst (.agg cs.toArray)) w=X:=by (simp only [Act.put,List.setIfInBounds_toArray,List.set_cons_zero,List.set_cons_succ];try rfl))
  (hS:S w:=by assumption):wpAnyH Tryz.prog md L.toArray Q S (fuel+1) listed a w:=
 tkv (v:=.agg cs.toArray) h hr hi hw (by unfold execOp;simp only [ho,hx,Sem.run_bind,ld_row hB hd hn,Result.andThen_ok,Sem.run_pure]) hP hS
end
theorem read_w (L b cap:Nat) (hL:1≤L∧L≤16) (zs:List Int) (w:World) (hy:Byt w (some ⟨b,0,none⟩) L zs):Calls Tryz.prog 142 #[.slice (some ⟨b,0,none⟩) L cap] w fun e w'=>∃v,e=.returned v∧RdV L v∧Below w.heap.size w w':=by
 have Y:=lh hy
 have HL:=lh hL
 clear hy hL
 go_enter Tryz.func142,Tryz.ntmps142
 go_upto_region 1 with fail
 have N0:=Bk.new w [.bool false,.int .u64 (0:Int),.int .u64 (0:Int)] 179
 have LB:=((Below.refl w.heap.size w).alloc (by simp) (.cells #[.bool false,.int .u64 (0:Int),.int .u64 (0:Int)] 179))
 have M0:=N0
 have hsz:(w.alloc (.cells #[.bool false,.int .u64 (0:Int),.int .u64 (0:Int)] 179)).heap.size=w.heap.size+1:=by simp
 obtain ⟨w1,hW⟩:∃V,w.alloc (.cells #[.bool false,.int .u64 (0:Int),.int .u64 (0:Int)] 179)=V:=⟨_,rfl⟩
 rw [hW] at LB hsz M0
 first | rw [hW] | skip
 obtain ⟨g,hg⟩:∃k,w.heap.size=k:=⟨_,rfl⟩
 rw [hg] at LB hsz M0
 try simp only [hg]
 clear hW N0
 have H:=lh (show Bk w1 (g) 179 [.bool false,.int .u64 (0:Int),.int .u64 (0:Int)]∧Below g w w1 from ⟨M0,LB⟩)
 clear LB M0
 have HG:=lh hg
 clear hg
 refine wp_region_lit ?_
 refine lsv (w':=w1) ?_
 refine lsce (decode_w L b cap HL.out zs _ (Y.out.keep (HG.out▸H.out.2))) ?_
 intro vv v2 Z
 obtain ⟨⟨neg,ds,ok,rfl,hds⟩,hb⟩:=Z.out
 replace H:=lh (show Bk v2 (g) 179 [.bool false,.int .u64 (0:Int),.int .u64 (0:Int)]∧Below g w v2 from ⟨(H.out.1).keep hb,(H.out.2).trans (hb.mono (by have h9:=(H.out.2).size;(try have h8:=HG.out);omega))⟩)
 clear Z hb
 iterate 3 refine lsv (w':=v2) ?_
 refine lsv (v:=.pointer (some ⟨v2.heap.size,0,none⟩)) (w':=v2.alloc (.cells #[.bool false,.string ⟨#[]⟩] 191)) ?_
 have al:=(Below.refl v2.heap.size v2).alloc (Nat.le_refl _) (.cells #[.bool false,.string ⟨#[]⟩] 191)
 have on_gd:=(H.out.1).lt
 have H2:=lh (show Bk (v2.alloc (.cells #[.bool false,.string ⟨#[]⟩] 191)) (g) 179 [.bool false,.int .u64 (0:Int),.int .u64 (0:Int)]∧Bk (v2.alloc (.cells #[.bool false,.string ⟨#[]⟩] 191)) (v2.heap.size) 191 [.bool false,.string ⟨#[]⟩]∧Below g w (v2.alloc (.cells #[.bool false,.string ⟨#[]⟩] 191)) from ⟨(H.out.1).keep al,Bk.new v2 [.bool false,.string ⟨#[]⟩] 191,(H.out.2).trans (al.mono (by have h9:=(H.out.2).size;(try have h8:=HG.out);omega))⟩)
 obtain ⟨w2,hW⟩:∃V,v2.alloc (.cells #[.bool false,.string ⟨#[]⟩] 191)=V:=⟨_,rfl⟩
 rw [hW] at H2
 first | rw [hW] | simp only [hW]
 obtain ⟨gd,hn⟩:∃k,v2.heap.size=k:=⟨_,rfl⟩
 rw [hn] at H2 on_gd
 try simp only [hn]
 clear hW hn al H
 have H:=H2
 clear H2
 refine lss (cs':=[.bool neg,.string ds]) (H.out.2.1) rfl (by simp [Value.oneCell']) (by kernel_rfl) ?_
 have H2:=lh (show Bk (w2.setRow (gd) ([.bool neg,.string ds]:List Value).toArray) (g) 179 [.bool false,.int .u64 (0:Int),.int .u64 (0:Int)]∧Bk (w2.setRow (gd) ([.bool neg,.string ds]:List Value).toArray) (gd) 191 [.bool neg,.string ds]∧Below g w (w2.setRow (gd) ([.bool neg,.string ds]:List Value).toArray) from ⟨(H.out.1).rowOth (by omega) _,(H.out.2.1).rowSet [.bool neg,.string ds],below_row (H.out.2.2) (by omega) _⟩)
 obtain ⟨w3,hW⟩:∃V,w2.setRow (gd) ([.bool neg,.string ds]:List Value).toArray=V:=⟨_,rfl⟩
 rw [hW] at H2
 first | rw [hW] | (simp only [hW])
 clear hW H
 have H:=H2
 clear H2
 refine lsv (w':=w3) ?_
 refine wpList_nil ?_
 have DS:=lh hds
 clear hds
 cases ok
 ·go_upto_region 3 with fail
  refine wp_region_lit ?_
  refine lsv (v:=.agg #[.bool false,.int .u64 (0:Int),.int .u64 (0:Int)]) (w':=w3) ?_
  refine lss (cs':=[.bool false,.int .u64 (0:Int),.int .u64 (0:Int)]) (H.out.1) rfl (by simp [Value.oneCell']) (by kernel_rfl) ?_
  have H2:=lh (show Bk (w3.setRow (g) ([.bool false,.int .u64 (0:Int),.int .u64 (0:Int)]:List Value).toArray) (g) 179 [.bool false,.int .u64 (0:Int),.int .u64 (0:Int)]∧Bk (w3.setRow (g) ([.bool false,.int .u64 (0:Int),.int .u64 (0:Int)]:List Value).toArray) (gd) 191 [.bool neg,.string ds]∧Below g w (w3.setRow (g) ([.bool false,.int .u64 (0:Int),.int .u64 (0:Int)]:List Value).toArray) from ⟨(H.out.1).rowSet [.bool false,.int .u64 (0:Int),.int .u64 (0:Int)],(H.out.2.1).rowOth (by omega) _,below_row (H.out.2.2) (by omega) _⟩)
  obtain ⟨w4,hW⟩:∃V,w3.setRow (g) ([.bool false,.int .u64 (0:Int),.int .u64 (0:Int)]:List Value).toArray=V:=⟨_,rfl⟩
  rw [hW] at H2
  first | rw [hW] | (simp only [hW])
  clear hW H
  have H:=H2
  clear H2
  refine lsv (w':=w4) ?_
  refine wpList_nil ?_
  go_wp2
  (try simp only [Exit.inBlock,Exit.then])
  refine bodyPost_ret (res_ct Tryz.results142 _ _ g H.out.1 rfl Tryz.underlying179 rfl (by kernel_rfl)) rfl ?_
  exact ⟨_,rfl,⟨false,0,0,_,rfl,by omega,by omega,fun _=>rfl⟩,HG.out▸H.out.2.2⟩
 ·have c0_0:=(H.out.1).cell (c:=0) rfl
  have c0_1:=(H.out.1).cell (c:=1) rfl
  have c0_2:=(H.out.1).cell (c:=2) rfl
  have f0:=(H.out.1).free
  have c1_0:=(H.out.2.1).cell (c:=0) rfl
  have c1_1:=(H.out.2.1).cell (c:=1) rfl
  have f1:=(H.out.2.1).free
  go_upto_region 4 with fail
  refine wp_region_lit ?_
  iterate 2 refine lsv (w':=w3) ?_
  refine lsv (v:=.agg #[.bool neg,.int .u64 (0:Int),.int .u64 (0:Int)]) (w':=w3) ?_
  clear c0_0 c0_1 c0_2 f0 c1_0 c1_1 f1
  refine lsv (v:=.pointer (some ⟨w3.heap.size,0,none⟩)) (w':=w3.alloc (.cells #[.bool false,.int .u64 (0:Int),.int .u64 (0:Int)] 179)) ?_
  have al:=(Below.refl w3.heap.size w3).alloc (Nat.le_refl _) (.cells #[.bool false,.int .u64 (0:Int),.int .u64 (0:Int)] 179)
  have on_gx:=(H.out.2.1).lt
  have H2:=lh (show Bk (w3.alloc (.cells #[.bool false,.int .u64 (0:Int),.int .u64 (0:Int)] 179)) (g) 179 [.bool false,.int .u64 (0:Int),.int .u64 (0:Int)]∧Bk (w3.alloc (.cells #[.bool false,.int .u64 (0:Int),.int .u64 (0:Int)] 179)) (gd) 191 [.bool neg,.string ds]∧Bk (w3.alloc (.cells #[.bool false,.int .u64 (0:Int),.int .u64 (0:Int)] 179)) (w3.heap.size) 179 [.bool false,.int .u64 (0:Int),.int .u64 (0:Int)]∧Below g w (w3.alloc (.cells #[.bool false,.int .u64 (0:Int),.int .u64 (0:Int)] 179)) from ⟨(H.out.1).keep al,(H.out.2.1).keep al,Bk.new w3 [.bool false,.int .u64 (0:Int),.int .u64 (0:Int)] 179,(H.out.2.2).trans (al.mono (by have h9:=(H.out.2.2).size;(try have h8:=HG.out);omega))⟩)
  obtain ⟨w4,hW⟩:∃V,w3.alloc (.cells #[.bool false,.int .u64 (0:Int),.int .u64 (0:Int)] 179)=V:=⟨_,rfl⟩
  rw [hW] at H2
  first | rw [hW] | simp only [hW]
  obtain ⟨gx,hn⟩:∃k,w3.heap.size=k:=⟨_,rfl⟩
  rw [hn] at H2 on_gx
  try simp only [hn]
  clear hW hn al H
  have H:=H2
  clear H2
  refine lss (cs':=[.bool neg,.int .u64 (0:Int),.int .u64 (0:Int)]) (H.out.2.2.1) rfl (by simp [Value.oneCell']) (by kernel_rfl) ?_
  have H2:=lh (show Bk (w4.setRow (gx) ([.bool neg,.int .u64 (0:Int),.int .u64 (0:Int)]:List Value).toArray) (g) 179 [.bool false,.int .u64 (0:Int),.int .u64 (0:Int)]∧Bk (w4.setRow (gx) ([.bool neg,.int .u64 (0:Int),.int .u64 (0:Int)]:List Value).toArray) (gd) 191 [.bool neg,.string ds]∧Bk (w4.setRow (gx) ([.bool neg,.int .u64 (0:Int),.int .u64 (0:Int)]:List Value).toArray) (gx) 179 [.bool neg,.int .u64 (0:Int),.int .u64 (0:Int)]∧Below g w (w4.setRow (gx) ([.bool neg,.int .u64 (0:Int),.int .u64 (0:Int)]:List Value).toArray) from ⟨(H.out.1).rowOth (by omega) _,(H.out.2.1).rowOth (by omega) _,(H.out.2.2.1).rowSet [.bool neg,.int .u64 (0:Int),.int .u64 (0:Int)],below_row (H.out.2.2.2) (by omega) _⟩)
  obtain ⟨w5,hW⟩:∃V,w4.setRow (gx) ([.bool neg,.int .u64 (0:Int),.int .u64 (0:Int)]:List Value).toArray=V:=⟨_,rfl⟩
  rw [hW] at H2
  first | rw [hW] | (simp only [hW])
  clear hW H
  have H:=H2
  clear H2
  refine wpList_nil ?_
  have c1_0:=(H.out.2.1).cell (c:=0) rfl
  have c1_1:=(H.out.2.1).cell (c:=1) rfl
  have f1:=(H.out.2.1).free
  go_upto_region 5 with fail
  refine wp_region_lit ?_
  iterate 4 refine lsv (w':=w5) ?_
  refine wpList_nil ?_
  clear c1_0 c1_1 f1
  go_wp2
  go_loopw [22] (fun x W=>∃ (k:Nat) (s:Bool) (h l:Nat),k≤ds.size∧x=.int .i64 (k:Int)∧h<18446744073709551616∧l<18446744073709551616∧(ds.size≤15→h=0∧l+29≤29*10 ^ k)∧(Bk W (g) 179 [.bool false,.int .u64 (0:Int),.int .u64 (0:Int)]∧Bk W (gd) 191 [.bool neg,.string ds]∧Bk W (gx) 179 [.bool s,.int .u64 (h:Int),.int .u64 (l:Int)]∧Below g w W)) (fun x _=>ds.size - (intOf x).toNat)
  case atStart=>exact ⟨0,neg,0,0,Nat.zero_le _,rfl,by omega,by omega,fun _=>⟨rfl,by omega⟩,H.out⟩
  case round=>
   clear H
   obtain ⟨k,s,h,l,hk,rfl,hh,hl,hsm,hC⟩:=hrel
   rename World=>W
   have H:=lh hC
   clear hC
   by_cases hlt:k<ds.size
   ·have e1:(k:Int)<(ds.size:Int):=by omega
    obtain ⟨c,hc,hix⟩:=str_ix ds k hlt
    obtain ⟨d,hd,hd2⟩:=wrap8_n ((c:Int) - 48)
    have e2:IntKind.u64.wrap (d:Int)=(d:Int):=wrapId d (by omega)
    have dsz:ds.size≤31:=by have:=DS.out;have:=HL.out;omega
    have e3:IntKind.i64.wrap ((k:Int)+1)=(k:Int)+1:=wrap_i64_id (by omega) (by omega)
    have NT:=lh (ntimes_c s h l 10 hh hl (by omega))
    have SM:=lh hsm
    have HK:=lh hlt
    have D2:=lh hd2
    clear hk hsm hlt hh hl hc hd2 dsz
    go_upto_region 8 with fail
    refine wp_region_lit ?_
    refine lsl (H.out.2.2.1) ?_
    refine lsce (NT.out _) ?_
    intro vv v9 Z
    obtain ⟨⟨s1,h1,l1,u,rfl,hh1,hl1,hs1⟩,hb⟩:=Z.out
    replace H:=lh (show Bk v9 (g) 179 [.bool false,.int .u64 (0:Int),.int .u64 (0:Int)]∧Bk v9 (gd) 191 [.bool neg,.string ds]∧Bk v9 (gx) 179 [.bool s,.int .u64 (h:Int),.int .u64 (l:Int)]∧Below g w v9 from ⟨(H.out.1).keep hb,(H.out.2.1).keep hb,(H.out.2.2.1).keep hb,(H.out.2.2.2).trans (hb.mono (by have h9:=(H.out.2.2.2).size;(try have h8:=HG.out);omega))⟩)
    clear Z hb
    clear NT
    iterate 3 refine lsv (w':=v9) ?_
    refine lss (cs':=[.bool s1,.int .u64 (h1:Int),.int .u64 (l1:Int)]) (H.out.2.2.1) rfl (by simp [Value.oneCell']) (by kernel_rfl) ?_
    have H2:=lh (show Bk (v9.setRow (gx) ([.bool s1,.int .u64 (h1:Int),.int .u64 (l1:Int)]:List Value).toArray) (g) 179 [.bool false,.int .u64 (0:Int),.int .u64 (0:Int)]∧Bk (v9.setRow (gx) ([.bool s1,.int .u64 (h1:Int),.int .u64 (l1:Int)]:List Value).toArray) (gd) 191 [.bool neg,.string ds]∧Bk (v9.setRow (gx) ([.bool s1,.int .u64 (h1:Int),.int .u64 (l1:Int)]:List Value).toArray) (gx) 179 [.bool s1,.int .u64 (h1:Int),.int .u64 (l1:Int)]∧Below g w (v9.setRow (gx) ([.bool s1,.int .u64 (h1:Int),.int .u64 (l1:Int)]:List Value).toArray) from ⟨(H.out.1).rowOth (by omega) _,(H.out.2.1).rowOth (by omega) _,(H.out.2.2.1).rowSet [.bool s1,.int .u64 (h1:Int),.int .u64 (l1:Int)],below_row (H.out.2.2.2) (by omega) _⟩)
    obtain ⟨w6,hW⟩:∃V,v9.setRow (gx) ([.bool s1,.int .u64 (h1:Int),.int .u64 (l1:Int)]:List Value).toArray=V:=⟨_,rfl⟩
    rw [hW] at H2
    first | rw [hW] | (simp only [hW])
    clear hW H
    have H:=H2
    clear H2
    refine wpList_nil ?_
    have NP:=lh (nplus_c s1 h1 l1 d hh1 hl1 (by have:=D2.out;omega))
    have S1:=lh hs1
    clear hh1 hl1 hs1
    go_upto_region 9 with fail
    refine wp_region_held_drew (S:=fun W=>Bk W gd 191 [.bool neg,.string ds]) (by kernel_rfl) (H.out.2.1.drewN 1) (fun hHeld=>?_)
    replace H:=lh (show Bk w6.drew (g) 179 [.bool false,.int .u64 (0:Int),.int .u64 (0:Int)]∧Bk w6.drew (gd) 191 [.bool neg,.string ds]∧Bk w6.drew (gx) 179 [.bool s1,.int .u64 (h1:Int),.int .u64 (l1:Int)]∧Below g w w6.drew from ⟨H.out.1.drewN 1,H.out.2.1.drewN 1,H.out.2.2.1.drewN 1,dBelow' H.out.2.2.2 1⟩)
    obtain ⟨v0,hv⟩:∃V,w6.drew=V:=⟨_,rfl⟩
    rw [hv] at H hHeld ⊢
    clear hv
    refine tki 1 ?_
    refine tki 3 ?_
    refine tki 2 (v:=.string ds) ?_ (y:=by (intro W hSw;have c1:=hSw.cell (c:=1) rfl;go_simp;(try with_reducible rfl)))
    refine tki 4 (v:=.int .u8 (c:Int)) ?_
    refine tki 5 (v:=.int .u8 (d:Int)) ?_
    refine tki 6 (v:=.int .u64 (d:Int)) ?_
    refine tkvl H.out.2.2.1 ?_
    refine tkce (R:=fun v W=>(∃ (s':Bool) (h' l':Nat),v=.agg #[.bool s',.int .u64 (h':Int),.int .u64 (l':Int)]∧h'<18446744073709551616∧l'<18446744073709551616∧(h1=0→l1+d<18446744073709551616→h'=0∧l'=l1+d))∧(Bk W (g) 179 [.bool false,.int .u64 (0:Int),.int .u64 (0:Int)]∧Bk W (gd) 191 [.bool neg,.string ds]∧Bk W (gx) 179 [.bool s1,.int .u64 (h1:Int),.int .u64 (l1:Int)]∧Below g w W)) ((NP.out _).mono fun e w' ⟨v,he,hv,hb⟩=>⟨v,he,hv,H.out.1.keep hb,H.out.2.1.keep hb,H.out.2.2.1.keep hb,H.out.2.2.2.trans (hb.mono (by have h9:=H.out.2.2.2.size;have h8:=HG.out;omega))⟩) (fun _ _ h=>h.2.2.1) ?_
    clear H hHeld NP
    intro vv v1 Z hHeld
    obtain ⟨⟨s2,h2,l2,rfl,hh2,hl2,hs2⟩,hC⟩:=Z.out
    have H:=lh hC
    clear Z hC
    refine tks_ (cs':=[.bool s2,.int .u64 (h2:Int),.int .u64 (l2:Int)]) H.out.2.2.1 rfl (by simp [Value.oneCell']) (by kernel_rfl) (R:=fun W=>Bk W (g) 179 [.bool false,.int .u64 (0:Int),.int .u64 (0:Int)]∧Bk W (gd) 191 [.bool neg,.string ds]∧Bk W (gx) 179 [.bool s2,.int .u64 (h2:Int),.int .u64 (l2:Int)]∧Below g w W) ⟨H.out.1.rowOth (by omega) _,H.out.2.1.rowOth (by omega) _,H.out.2.2.1.rowSet _,below_row H.out.2.2.2 (by omega) _⟩ (fun _ h=>h.2.1) ?_
    clear H hHeld
    intro v2 H hHeld
    refine wpAnyH_done (by with_unfolding_all rfl) ?_ _
    clear hHeld
    go_wp2
    go_roundw
    case rel=>exact ⟨k+1,s2,h2,l2,by have:=HK.out;omega,rfl,hh2,hl2,fun hd15=>by
     obtain ⟨q1,q2⟩:=SM.out hd15
     have hk:=HK.out
     obtain ⟨p1,p2⟩:=p29 k (by omega)
     obtain ⟨q3,q4⟩:=S1.out q1 (by omega)
     have hd:=D2.out
     obtain ⟨q5,q6⟩:=hs2 q3 (by omega)
     exact ⟨q5,by rw [p2];omega⟩,H.out⟩
    case measure=>have:=HK.out;simp [intOf];omega
   ·have e1:¬(k:Int)<(ds.size:Int):=by omega
    have SM:=lh hsm
    have LH:=lh (⟨hh,hl⟩:h<18446744073709551616∧l<18446744073709551616)
    clear hk hsm hlt hh hl
    go_upto_region 11 with fail
    refine wp_region_lit ?_
    refine lsl (H.out.2.2.1) ?_
    refine lss (cs':=[.bool s,.int .u64 (h:Int),.int .u64 (l:Int)]) (H.out.1) rfl (by simp [Value.oneCell']) (by kernel_rfl) ?_
    have H2:=lh (show Bk (W.setRow (g) ([.bool s,.int .u64 (h:Int),.int .u64 (l:Int)]:List Value).toArray) (g) 179 [.bool s,.int .u64 (h:Int),.int .u64 (l:Int)]∧Bk (W.setRow (g) ([.bool s,.int .u64 (h:Int),.int .u64 (l:Int)]:List Value).toArray) (gd) 191 [.bool neg,.string ds]∧Bk (W.setRow (g) ([.bool s,.int .u64 (h:Int),.int .u64 (l:Int)]:List Value).toArray) (gx) 179 [.bool s,.int .u64 (h:Int),.int .u64 (l:Int)]∧Below g w (W.setRow (g) ([.bool s,.int .u64 (h:Int),.int .u64 (l:Int)]:List Value).toArray) from ⟨(H.out.1).rowSet [.bool s,.int .u64 (h:Int),.int .u64 (l:Int)],(H.out.2.1).rowOth (by omega) _,(H.out.2.2.1).rowOth (by omega) _,below_row (H.out.2.2.2) (by omega) _⟩)
    obtain ⟨w6,hW⟩:∃V,W.setRow (g) ([.bool s,.int .u64 (h:Int),.int .u64 (l:Int)]:List Value).toArray=V:=⟨_,rfl⟩
    rw [hW] at H2
    first | rw [hW] | (simp only [hW])
    clear hW H
    have H:=H2
    clear H2
    refine lsv (w':=w6) ?_
    refine wpList_nil ?_
    go_wp2
    (try simp only [Exit.inBlock,Exit.then])
    refine bodyPost_ret (res_ct Tryz.results142 _ _ g H.out.1 rfl Tryz.underlying179 rfl (by kernel_rfl)) rfl ?_
    exact ⟨_,rfl,⟨s,h,l,_,rfl,LH.out.1,LH.out.2,fun hL=>(SM.out (by have:=DS.out;omega)).1⟩,HG.out▸H.out.2.2.2⟩
def PairV (L:Nat) (v:Value):Prop:=∃ (s:Bool) (h l:Nat) (s':Bool) (h' l':Nat) (c:Int),v=.tuple #[.agg #[.bool s,.int .u64 (h:Int),.int .u64 (l:Int)],.agg #[.bool s',.int .u64 (h':Int),.int .u64 (l':Int)],.int .i64 c]∧h<18446744073709551616∧l<18446744073709551616∧h'<18446744073709551616∧l'<18446744073709551616∧(L≤8→h'=0)
theorem res_cct {P:Program} {fn:Func} {p q u:Tmp} {ty:TypeId} (h:fn.results=#[.cell p ty,.cell q ty,.tmp u]) (tmps:Array Value) (w:World) {g k:Nat} {T T':TypeId} {cs ds:List Value} (hB:Bk w g T cs) (hC:Bk w k T' ds) (hp:tmps.getD p undef=.pointer (some ⟨g,0,none⟩)) (hq:tmps.getD q undef=.pointer (some ⟨k,0,none⟩)) {d:TypeDesc} (hu:P.underlying ty=some d) (hd:(match d with | .struct _ | .array _ _=>true | _=>false)=true) (hi:(P.info? ty).map (·.size)=some cs.length) (hi':(P.info? ty).map (·.size)=some ds.length):(results fn tmps).run P w=.ok (.tuple #[.agg cs.toArray,.agg ds.toArray,tmps.getD u undef]) w:=by
 have hp':tmps[p]?.getD undef=.pointer (some ⟨g,0,none⟩):=by simpa using hp
 have hq':tmps[q]?.getD undef=.pointer (some ⟨k,0,none⟩):=by simpa using hq
 have l1:=run_loadVar_row (P:=P) w g T ty cs.toArray (0,0) d hB hu hd (by simpa using hi)
 have l2:=run_loadVar_row (P:=P) w k T' ty ds.toArray (0,0) d hC hu hd (by simpa using hi')
 simp [results,h,hp',hq',asAddr,l1,l2,Sem.run_bind,Result.andThen]
theorem pair_w (La ba ca Lb bb cb:Nat) (hA:1≤La∧La≤16) (hB:1≤Lb∧Lb≤16) (za zb:List Int) (w:World) (ya:Byt w (some ⟨ba,0,none⟩) La za) (yb:Byt w (some ⟨bb,0,none⟩) Lb zb):Calls Tryz.prog 151 #[.slice (some ⟨ba,0,none⟩) La ca,.slice (some ⟨bb,0,none⟩) Lb cb] w fun e w'=>∃v,e=.returned v∧PairV Lb v∧Below w.heap.size w w':=by
 have YA:=lh ya
 have YB:=lh yb
 have HA:=lh hA
 have HB:=lh hB
 clear ya yb hA hB
 go_enter Tryz.func151,Tryz.ntmps151
 go_upto_region 1 with fail
 have N0:=Bk.new w [.bool false,.int .u64 (0:Int),.int .u64 (0:Int)] 179
 have N1:=Bk.new (w.alloc (.cells #[.bool false,.int .u64 (0:Int),.int .u64 (0:Int)] 179)) [.bool false,.int .u64 (0:Int),.int .u64 (0:Int)] 179
 have LB:=(((Below.refl w.heap.size w).alloc (by simp) (.cells #[.bool false,.int .u64 (0:Int),.int .u64 (0:Int)] 179)).alloc (by simp) (.cells #[.bool false,.int .u64 (0:Int),.int .u64 (0:Int)] 179))
 simp only [World.size_alloc] at N1
 have M0:=(N0.alloc (.cells #[.bool false,.int .u64 (0:Int),.int .u64 (0:Int)] 179))
 have M1:=N1
 have hsz:((w.alloc (.cells #[.bool false,.int .u64 (0:Int),.int .u64 (0:Int)] 179)).alloc (.cells #[.bool false,.int .u64 (0:Int),.int .u64 (0:Int)] 179)).heap.size=w.heap.size+2:=by simp
 obtain ⟨w1,hW⟩:∃V,(w.alloc (.cells #[.bool false,.int .u64 (0:Int),.int .u64 (0:Int)] 179)).alloc (.cells #[.bool false,.int .u64 (0:Int),.int .u64 (0:Int)] 179)=V:=⟨_,rfl⟩
 rw [hW] at LB hsz M0 M1
 first | rw [hW] | skip
 obtain ⟨g,hg⟩:∃k,w.heap.size=k:=⟨_,rfl⟩
 rw [hg] at LB hsz M0 M1
 try simp only [hg]
 clear hW N0 N1
 have H:=lh (show Bk w1 (g) 179 [.bool false,.int .u64 (0:Int),.int .u64 (0:Int)]∧Bk w1 (g+1) 179 [.bool false,.int .u64 (0:Int),.int .u64 (0:Int)]∧Below g w w1 from ⟨M0,M1,LB⟩)
 clear LB M0 M1
 have HG:=lh hg
 clear hg
 refine wp_region_lit ?_
 iterate 2 refine lsv (w':=w1) ?_
 refine lsc (dsize_c HA.out _) ?_
 intro wq hw
 obtain rfl:=hw.out
 clear hw
 iterate 4 refine lsv (w':=w1) ?_
 refine lsc (dsize_c HB.out _) ?_
 intro wq hw
 obtain rfl:=hw.out
 clear hw
 iterate 2 refine lsv (w':=w1) ?_
 refine wpList_nil ?_
 go_upto_region 3 with fail
 refine wp_region_lit ?_
 refine lsv (w':=w1) ?_
 refine lsce (read_w La ba ca HA.out za _ (YA.out.keep (HG.out▸H.out.2.2))) ?_
 intro vv v2 Z
 obtain ⟨⟨s1,h1,l1,ok1,rfl,q1,q2,-⟩,hb⟩:=Z.out
 replace H:=lh (show Bk v2 (g) 179 [.bool false,.int .u64 (0:Int),.int .u64 (0:Int)]∧Bk v2 (g+1) 179 [.bool false,.int .u64 (0:Int),.int .u64 (0:Int)]∧Below g w v2 from ⟨(H.out.1).keep hb,(H.out.2.1).keep hb,(H.out.2.2).trans (hb.mono (by have h9:=(H.out.2.2).size;(try have h8:=HG.out);omega))⟩)
 clear Z hb
 iterate 3 refine lsv (w':=v2) ?_
 refine lss (cs':=[.bool s1,.int .u64 (h1:Int),.int .u64 (l1:Int)]) (H.out.1) rfl (by simp [Value.oneCell']) (by kernel_rfl) ?_
 have H2:=lh (show Bk (v2.setRow (g) ([.bool s1,.int .u64 (h1:Int),.int .u64 (l1:Int)]:List Value).toArray) (g) 179 [.bool s1,.int .u64 (h1:Int),.int .u64 (l1:Int)]∧Bk (v2.setRow (g) ([.bool s1,.int .u64 (h1:Int),.int .u64 (l1:Int)]:List Value).toArray) (g+1) 179 [.bool false,.int .u64 (0:Int),.int .u64 (0:Int)]∧Below g w (v2.setRow (g) ([.bool s1,.int .u64 (h1:Int),.int .u64 (l1:Int)]:List Value).toArray) from ⟨(H.out.1).rowSet [.bool s1,.int .u64 (h1:Int),.int .u64 (l1:Int)],(H.out.2.1).rowOth (by omega) _,below_row (H.out.2.2) (by omega) _⟩)
 obtain ⟨w2,hW⟩:∃V,v2.setRow (g) ([.bool s1,.int .u64 (h1:Int),.int .u64 (l1:Int)]:List Value).toArray=V:=⟨_,rfl⟩
 rw [hW] at H2
 first | rw [hW] | (simp only [hW])
 clear hW H
 have H:=H2
 clear H2
 refine lsv (w':=w2) ?_
 refine wpList_nil ?_
 go_upto_region 4 with fail
 refine wp_region_lit ?_
 refine lsv (w':=w2) ?_
 refine lsce (read_w Lb bb cb HB.out zb _ (YB.out.keep (HG.out▸H.out.2.2))) ?_
 intro vv v3 Z
 obtain ⟨⟨s2,h2,l2,ok2,rfl,q3,q4,q5⟩,hb⟩:=Z.out
 replace H:=lh (show Bk v3 (g) 179 [.bool s1,.int .u64 (h1:Int),.int .u64 (l1:Int)]∧Bk v3 (g+1) 179 [.bool false,.int .u64 (0:Int),.int .u64 (0:Int)]∧Below g w v3 from ⟨(H.out.1).keep hb,(H.out.2.1).keep hb,(H.out.2.2).trans (hb.mono (by have h9:=(H.out.2.2).size;(try have h8:=HG.out);omega))⟩)
 clear Z hb
 iterate 3 refine lsv (w':=v3) ?_
 refine lss (cs':=[.bool s2,.int .u64 (h2:Int),.int .u64 (l2:Int)]) (H.out.2.1) rfl (by simp [Value.oneCell']) (by kernel_rfl) ?_
 have H2:=lh (show Bk (v3.setRow (g+1) ([.bool s2,.int .u64 (h2:Int),.int .u64 (l2:Int)]:List Value).toArray) (g) 179 [.bool s1,.int .u64 (h1:Int),.int .u64 (l1:Int)]∧Bk (v3.setRow (g+1) ([.bool s2,.int .u64 (h2:Int),.int .u64 (l2:Int)]:List Value).toArray) (g+1) 179 [.bool s2,.int .u64 (h2:Int),.int .u64 (l2:Int)]∧Below g w (v3.setRow (g+1) ([.bool s2,.int .u64 (h2:Int),.int .u64 (l2:Int)]:List Value).toArray) from ⟨(H.out.1).rowOth (by omega) _,(H.out.2.1).rowSet [.bool s2,.int .u64 (h2:Int),.int .u64 (l2:Int)],below_row (H.out.2.2) (by omega) _⟩)
 obtain ⟨w3,hW⟩:∃V,v3.setRow (g+1) ([.bool s2,.int .u64 (h2:Int),.int .u64 (l2:Int)]:List Value).toArray=V:=⟨_,rfl⟩
 rw [hW] at H2
 first | rw [hW] | (simp only [hW])
 clear hW H
 have H:=H2
 clear H2
 refine lsv (w':=w3) ?_
 refine wpList_nil ?_
 have QQ:=lh (⟨q1,q2,q3,q4,q5⟩:h1<18446744073709551616∧l1<18446744073709551616∧h2<18446744073709551616∧l2<18446744073709551616∧(Lb≤8→h2=0))
 clear q1 q2 q3 q4 q5
 cases ok1
 ·cases ok2
  all_goals
   go_upto_region 6 with fail
   refine wp_region_lit ?_
   iterate 2 refine lsv (v:=.agg #[.bool false,.int .u64 (0:Int),.int .u64 (0:Int)]) (w':=w3) ?_
   refine lss (cs':=[.bool false,.int .u64 (0:Int),.int .u64 (0:Int)]) (H.out.1) rfl (by simp [Value.oneCell']) (by kernel_rfl) ?_
   have H2:=lh (show Bk (w3.setRow (g) ([.bool false,.int .u64 (0:Int),.int .u64 (0:Int)]:List Value).toArray) (g) 179 [.bool false,.int .u64 (0:Int),.int .u64 (0:Int)]∧Bk (w3.setRow (g) ([.bool false,.int .u64 (0:Int),.int .u64 (0:Int)]:List Value).toArray) (g+1) 179 [.bool s2,.int .u64 (h2:Int),.int .u64 (l2:Int)]∧Below g w (w3.setRow (g) ([.bool false,.int .u64 (0:Int),.int .u64 (0:Int)]:List Value).toArray) from ⟨(H.out.1).rowSet [.bool false,.int .u64 (0:Int),.int .u64 (0:Int)],(H.out.2.1).rowOth (by omega) _,below_row (H.out.2.2) (by omega) _⟩)
   obtain ⟨w4,hW⟩:∃V,w3.setRow (g) ([.bool false,.int .u64 (0:Int),.int .u64 (0:Int)]:List Value).toArray=V:=⟨_,rfl⟩
   rw [hW] at H2
   first | rw [hW] | (simp only [hW])
   clear hW H
   have H:=H2
   clear H2
   refine lss (cs':=[.bool false,.int .u64 (0:Int),.int .u64 (0:Int)]) (H.out.2.1) rfl (by simp [Value.oneCell']) (by kernel_rfl) ?_
   have H2:=lh (show Bk (w4.setRow (g+1) ([.bool false,.int .u64 (0:Int),.int .u64 (0:Int)]:List Value).toArray) (g) 179 [.bool false,.int .u64 (0:Int),.int .u64 (0:Int)]∧Bk (w4.setRow (g+1) ([.bool false,.int .u64 (0:Int),.int .u64 (0:Int)]:List Value).toArray) (g+1) 179 [.bool false,.int .u64 (0:Int),.int .u64 (0:Int)]∧Below g w (w4.setRow (g+1) ([.bool false,.int .u64 (0:Int),.int .u64 (0:Int)]:List Value).toArray) from ⟨(H.out.1).rowOth (by omega) _,(H.out.2.1).rowSet [.bool false,.int .u64 (0:Int),.int .u64 (0:Int)],below_row (H.out.2.2) (by omega) _⟩)
   obtain ⟨w5,hW⟩:∃V,w4.setRow (g+1) ([.bool false,.int .u64 (0:Int),.int .u64 (0:Int)]:List Value).toArray=V:=⟨_,rfl⟩
   rw [hW] at H2
   first | rw [hW] | (simp only [hW])
   clear hW H
   have H:=H2
   clear H2
   refine lsv (w':=w5) ?_
   refine wpList_nil ?_
   go_wp2
   (try simp only [Exit.inBlock,Exit.then])
   refine bodyPost_ret (res_cct Tryz.results151 _ _ H.out.1 H.out.2.1 rfl rfl Tryz.underlying179 rfl (by kernel_rfl) (by kernel_rfl)) rfl ?_
   exact ⟨_,rfl,⟨false,0,0,false,0,0,_,rfl,by omega,by omega,by omega,by omega,fun _=>rfl⟩,HG.out▸H.out.2.2⟩
 ·cases ok2
  ·go_upto_region 6 with fail
   refine wp_region_lit ?_
   iterate 2 refine lsv (v:=.agg #[.bool false,.int .u64 (0:Int),.int .u64 (0:Int)]) (w':=w3) ?_
   refine lss (cs':=[.bool false,.int .u64 (0:Int),.int .u64 (0:Int)]) (H.out.1) rfl (by simp [Value.oneCell']) (by kernel_rfl) ?_
   have H2:=lh (show Bk (w3.setRow (g) ([.bool false,.int .u64 (0:Int),.int .u64 (0:Int)]:List Value).toArray) (g) 179 [.bool false,.int .u64 (0:Int),.int .u64 (0:Int)]∧Bk (w3.setRow (g) ([.bool false,.int .u64 (0:Int),.int .u64 (0:Int)]:List Value).toArray) (g+1) 179 [.bool s2,.int .u64 (h2:Int),.int .u64 (l2:Int)]∧Below g w (w3.setRow (g) ([.bool false,.int .u64 (0:Int),.int .u64 (0:Int)]:List Value).toArray) from ⟨(H.out.1).rowSet [.bool false,.int .u64 (0:Int),.int .u64 (0:Int)],(H.out.2.1).rowOth (by omega) _,below_row (H.out.2.2) (by omega) _⟩)
   obtain ⟨w4,hW⟩:∃V,w3.setRow (g) ([.bool false,.int .u64 (0:Int),.int .u64 (0:Int)]:List Value).toArray=V:=⟨_,rfl⟩
   rw [hW] at H2
   first | rw [hW] | (simp only [hW])
   clear hW H
   have H:=H2
   clear H2
   refine lss (cs':=[.bool false,.int .u64 (0:Int),.int .u64 (0:Int)]) (H.out.2.1) rfl (by simp [Value.oneCell']) (by kernel_rfl) ?_
   have H2:=lh (show Bk (w4.setRow (g+1) ([.bool false,.int .u64 (0:Int),.int .u64 (0:Int)]:List Value).toArray) (g) 179 [.bool false,.int .u64 (0:Int),.int .u64 (0:Int)]∧Bk (w4.setRow (g+1) ([.bool false,.int .u64 (0:Int),.int .u64 (0:Int)]:List Value).toArray) (g+1) 179 [.bool false,.int .u64 (0:Int),.int .u64 (0:Int)]∧Below g w (w4.setRow (g+1) ([.bool false,.int .u64 (0:Int),.int .u64 (0:Int)]:List Value).toArray) from ⟨(H.out.1).rowOth (by omega) _,(H.out.2.1).rowSet [.bool false,.int .u64 (0:Int),.int .u64 (0:Int)],below_row (H.out.2.2) (by omega) _⟩)
   obtain ⟨w5,hW⟩:∃V,w4.setRow (g+1) ([.bool false,.int .u64 (0:Int),.int .u64 (0:Int)]:List Value).toArray=V:=⟨_,rfl⟩
   rw [hW] at H2
   first | rw [hW] | (simp only [hW])
   clear hW H
   have H:=H2
   clear H2
   refine lsv (w':=w5) ?_
   refine wpList_nil ?_
   go_wp2
   (try simp only [Exit.inBlock,Exit.then])
   refine bodyPost_ret (res_cct Tryz.results151 _ _ H.out.1 H.out.2.1 rfl rfl Tryz.underlying179 rfl (by kernel_rfl) (by kernel_rfl)) rfl ?_
   exact ⟨_,rfl,⟨false,0,0,false,0,0,_,rfl,by omega,by omega,by omega,by omega,fun _=>rfl⟩,HG.out▸H.out.2.2⟩
  ·go_upto_region 7 with fail
   refine wp_region_held_drew (S:=fun W=>Bk W (g) 179 [.bool s1,.int .u64 (h1:Int),.int .u64 (l1:Int)]∧Bk W (g+1) 179 [.bool s2,.int .u64 (h2:Int),.int .u64 (l2:Int)]∧Below g w W) (by kernel_rfl) ⟨H.out.1.drewN 1,H.out.2.1.drewN 1,dBelow' H.out.2.2 1⟩ (fun hHeld=>?_)
   replace H:=lh hHeld
   obtain ⟨v0,hv⟩:∃V,w3.drew=V:=⟨_,rfl⟩
   rw [hv] at H hHeld ⊢
   clear hv
   refine tkl 0 (fun W h=>h.1.row) ?_
   refine tkl 1 (fun W h=>h.2.1.row) ?_
   refine tks_ (cs':=[.bool s1,.int .u64 (h1:Int),.int .u64 (l1:Int)]) H.out.1 rfl (by simp [Value.oneCell']) (by kernel_rfl) (R:=fun W=>Bk W (g) 179 [.bool s1,.int .u64 (h1:Int),.int .u64 (l1:Int)]∧Bk W (g+1) 179 [.bool s2,.int .u64 (h2:Int),.int .u64 (l2:Int)]∧Below g w W) ⟨H.out.1.rowSet _,H.out.2.1.rowOth (by omega) _,below_row H.out.2.2 (by omega) _⟩ (fun _ h=>h) ?_
   clear H hHeld
   intro v1 H hHeld
   refine tks_ (cs':=[.bool s2,.int .u64 (h2:Int),.int .u64 (l2:Int)]) H.out.2.1 rfl (by simp [Value.oneCell']) (by kernel_rfl) (R:=fun W=>Bk W (g) 179 [.bool s1,.int .u64 (h1:Int),.int .u64 (l1:Int)]∧Bk W (g+1) 179 [.bool s2,.int .u64 (h2:Int),.int .u64 (l2:Int)]∧Below g w W) ⟨H.out.1.rowOth (by omega) _,H.out.2.1.rowSet _,below_row H.out.2.2 (by omega) _⟩ (fun _ h=>h) ?_
   clear H hHeld
   intro v2 H hHeld
   refine tki 4 ?_
   refine wpAnyH_done (by with_unfolding_all rfl) ?_ _
   clear hHeld
   go_wp2
   (try simp only [Exit.inBlock,Exit.then])
   refine bodyPost_ret (res_cct Tryz.results151 _ _ H.out.1 H.out.2.1 rfl rfl Tryz.underlying179 rfl (by kernel_rfl) (by kernel_rfl)) rfl ?_
   exact ⟨_,rfl,⟨s1,h1,l1,s2,h2,l2,_,rfl,QQ.out⟩,HG.out▸H.out.2.2⟩
theorem operands_w (La ba ca Lb bb cb:Nat) (hA:1≤La∧La≤16) (hB:1≤Lb∧Lb≤16) (za zb:List Int) (w:World) (ya:Byt w (some ⟨ba,0,none⟩) La za) (yb:Byt w (some ⟨bb,0,none⟩) Lb zb):Calls Tryz.prog 154 #[.slice (some ⟨ba,0,none⟩) La ca,.slice (some ⟨bb,0,none⟩) Lb cb] w fun e w'=>∃v,e=.returned v∧PairV Lb v∧Below w.heap.size w w':=by
 have YA:=lh ya
 have YB:=lh yb
 have HA:=lh hA
 have HB:=lh hB
 clear ya yb hA hB
 go_enter Tryz.func154,Tryz.ntmps154
 go_upto_region 1 with fail
 have N0:=Bk.new w [.bool false,.int .u64 (0:Int),.int .u64 (0:Int)] 179
 have N1:=Bk.new (w.alloc (.cells #[.bool false,.int .u64 (0:Int),.int .u64 (0:Int)] 179)) [.bool false,.int .u64 (0:Int),.int .u64 (0:Int)] 179
 have LB:=(((Below.refl w.heap.size w).alloc (by simp) (.cells #[.bool false,.int .u64 (0:Int),.int .u64 (0:Int)] 179)).alloc (by simp) (.cells #[.bool false,.int .u64 (0:Int),.int .u64 (0:Int)] 179))
 simp only [World.size_alloc] at N1
 have M0:=(N0.alloc (.cells #[.bool false,.int .u64 (0:Int),.int .u64 (0:Int)] 179))
 have M1:=N1
 have hsz:((w.alloc (.cells #[.bool false,.int .u64 (0:Int),.int .u64 (0:Int)] 179)).alloc (.cells #[.bool false,.int .u64 (0:Int),.int .u64 (0:Int)] 179)).heap.size=w.heap.size+2:=by simp
 obtain ⟨w1,hW⟩:∃V,(w.alloc (.cells #[.bool false,.int .u64 (0:Int),.int .u64 (0:Int)] 179)).alloc (.cells #[.bool false,.int .u64 (0:Int),.int .u64 (0:Int)] 179)=V:=⟨_,rfl⟩
 rw [hW] at LB hsz M0 M1
 first | rw [hW] | skip
 obtain ⟨g,hg⟩:∃k,w.heap.size=k:=⟨_,rfl⟩
 rw [hg] at LB hsz M0 M1
 try simp only [hg]
 clear hW N0 N1
 have H:=lh (show Bk w1 (g) 179 [.bool false,.int .u64 (0:Int),.int .u64 (0:Int)]∧Bk w1 (g+1) 179 [.bool false,.int .u64 (0:Int),.int .u64 (0:Int)]∧Below g w w1 from ⟨M0,M1,LB⟩)
 clear LB M0 M1
 have HG:=lh hg
 clear hg
 refine wp_region_lit ?_
 iterate 2 refine lsv (w':=w1) ?_
 refine lsc (dsize_c HA.out _) ?_
 intro wq hw
 obtain rfl:=hw.out
 clear hw
 iterate 4 refine lsv (w':=w1) ?_
 refine lsc (dsize_c HB.out _) ?_
 intro wq hw
 obtain rfl:=hw.out
 clear hw
 iterate 2 refine lsv (w':=w1) ?_
 first | skip
 by_cases hb8:8<Lb
 ·have e1:(8:Int)<(Lb:Int):=by omega
  clear hb8
  iterate 6 refine lsv (w':=w1) ?_
  iterate 5 refine lsg ?_
  refine lsv (w':=w1) ?_
  refine wpList_nil ?_
  go_upto_region 2 with fail
  refine wp_region_lit ?_
  iterate 2 refine lsv (v:=.agg #[.bool false,.int .u64 (0:Int),.int .u64 (0:Int)]) (w':=w1) ?_
  refine lss (cs':=[.bool false,.int .u64 (0:Int),.int .u64 (0:Int)]) (H.out.1) rfl (by simp [Value.oneCell']) (by kernel_rfl) ?_
  have H2:=lh (show Bk (w1.setRow (g) ([.bool false,.int .u64 (0:Int),.int .u64 (0:Int)]:List Value).toArray) (g) 179 [.bool false,.int .u64 (0:Int),.int .u64 (0:Int)]∧Bk (w1.setRow (g) ([.bool false,.int .u64 (0:Int),.int .u64 (0:Int)]:List Value).toArray) (g+1) 179 [.bool false,.int .u64 (0:Int),.int .u64 (0:Int)]∧Below g w (w1.setRow (g) ([.bool false,.int .u64 (0:Int),.int .u64 (0:Int)]:List Value).toArray) from ⟨(H.out.1).rowSet [.bool false,.int .u64 (0:Int),.int .u64 (0:Int)],(H.out.2.1).rowOth (by omega) _,below_row (H.out.2.2) (by omega) _⟩)
  obtain ⟨w2,hW⟩:∃V,w1.setRow (g) ([.bool false,.int .u64 (0:Int),.int .u64 (0:Int)]:List Value).toArray=V:=⟨_,rfl⟩
  rw [hW] at H2
  first | rw [hW] | (simp only [hW])
  clear hW H
  have H:=H2
  clear H2
  refine lss (cs':=[.bool false,.int .u64 (0:Int),.int .u64 (0:Int)]) (H.out.2.1) rfl (by simp [Value.oneCell']) (by kernel_rfl) ?_
  have H2:=lh (show Bk (w2.setRow (g+1) ([.bool false,.int .u64 (0:Int),.int .u64 (0:Int)]:List Value).toArray) (g) 179 [.bool false,.int .u64 (0:Int),.int .u64 (0:Int)]∧Bk (w2.setRow (g+1) ([.bool false,.int .u64 (0:Int),.int .u64 (0:Int)]:List Value).toArray) (g+1) 179 [.bool false,.int .u64 (0:Int),.int .u64 (0:Int)]∧Below g w (w2.setRow (g+1) ([.bool false,.int .u64 (0:Int),.int .u64 (0:Int)]:List Value).toArray) from ⟨(H.out.1).rowOth (by omega) _,(H.out.2.1).rowSet [.bool false,.int .u64 (0:Int),.int .u64 (0:Int)],below_row (H.out.2.2) (by omega) _⟩)
  obtain ⟨w3,hW⟩:∃V,w2.setRow (g+1) ([.bool false,.int .u64 (0:Int),.int .u64 (0:Int)]:List Value).toArray=V:=⟨_,rfl⟩
  rw [hW] at H2
  first | rw [hW] | (simp only [hW])
  clear hW H
  have H:=H2
  clear H2
  refine lsv (w':=w3) ?_
  refine wpList_nil ?_
  go_wp2
  (try simp only [Exit.inBlock,Exit.then])
  refine bodyPost_ret (res_cct Tryz.results154 _ _ H.out.1 H.out.2.1 rfl rfl Tryz.underlying179 rfl (by kernel_rfl) (by kernel_rfl)) rfl ?_
  exact ⟨_,rfl,⟨false,0,0,false,0,0,_,rfl,by omega,by omega,by omega,by omega,fun _=>rfl⟩,HG.out▸H.out.2.2⟩
 ·have e1:¬(8:Int)<(Lb:Int):=by omega
  clear hb8
  by_cases hab:La≤Lb
  ·have e2:(La:Int)≤(Lb:Int):=by omega
   clear hab
   iterate 12 refine lsv (w':=w1) ?_
   refine wpList_nil ?_
   go_upto_region 2 with fail
   refine wp_region_lit ?_
   iterate 2 refine lsv (v:=.agg #[.bool false,.int .u64 (0:Int),.int .u64 (0:Int)]) (w':=w1) ?_
   refine lss (cs':=[.bool false,.int .u64 (0:Int),.int .u64 (0:Int)]) (H.out.1) rfl (by simp [Value.oneCell']) (by kernel_rfl) ?_
   have H2:=lh (show Bk (w1.setRow (g) ([.bool false,.int .u64 (0:Int),.int .u64 (0:Int)]:List Value).toArray) (g) 179 [.bool false,.int .u64 (0:Int),.int .u64 (0:Int)]∧Bk (w1.setRow (g) ([.bool false,.int .u64 (0:Int),.int .u64 (0:Int)]:List Value).toArray) (g+1) 179 [.bool false,.int .u64 (0:Int),.int .u64 (0:Int)]∧Below g w (w1.setRow (g) ([.bool false,.int .u64 (0:Int),.int .u64 (0:Int)]:List Value).toArray) from ⟨(H.out.1).rowSet [.bool false,.int .u64 (0:Int),.int .u64 (0:Int)],(H.out.2.1).rowOth (by omega) _,below_row (H.out.2.2) (by omega) _⟩)
   obtain ⟨w2,hW⟩:∃V,w1.setRow (g) ([.bool false,.int .u64 (0:Int),.int .u64 (0:Int)]:List Value).toArray=V:=⟨_,rfl⟩
   rw [hW] at H2
   first | rw [hW] | (simp only [hW])
   clear hW H
   have H:=H2
   clear H2
   refine lss (cs':=[.bool false,.int .u64 (0:Int),.int .u64 (0:Int)]) (H.out.2.1) rfl (by simp [Value.oneCell']) (by kernel_rfl) ?_
   have H2:=lh (show Bk (w2.setRow (g+1) ([.bool false,.int .u64 (0:Int),.int .u64 (0:Int)]:List Value).toArray) (g) 179 [.bool false,.int .u64 (0:Int),.int .u64 (0:Int)]∧Bk (w2.setRow (g+1) ([.bool false,.int .u64 (0:Int),.int .u64 (0:Int)]:List Value).toArray) (g+1) 179 [.bool false,.int .u64 (0:Int),.int .u64 (0:Int)]∧Below g w (w2.setRow (g+1) ([.bool false,.int .u64 (0:Int),.int .u64 (0:Int)]:List Value).toArray) from ⟨(H.out.1).rowOth (by omega) _,(H.out.2.1).rowSet [.bool false,.int .u64 (0:Int),.int .u64 (0:Int)],below_row (H.out.2.2) (by omega) _⟩)
   obtain ⟨w3,hW⟩:∃V,w2.setRow (g+1) ([.bool false,.int .u64 (0:Int),.int .u64 (0:Int)]:List Value).toArray=V:=⟨_,rfl⟩
   rw [hW] at H2
   first | rw [hW] | (simp only [hW])
   clear hW H
   have H:=H2
   clear H2
   refine lsv (w':=w3) ?_
   refine wpList_nil ?_
   go_wp2
   (try simp only [Exit.inBlock,Exit.then])
   refine bodyPost_ret (res_cct Tryz.results154 _ _ H.out.1 H.out.2.1 rfl rfl Tryz.underlying179 rfl (by kernel_rfl) (by kernel_rfl)) rfl ?_
   exact ⟨_,rfl,⟨false,0,0,false,0,0,_,rfl,by omega,by omega,by omega,by omega,fun _=>rfl⟩,HG.out▸H.out.2.2⟩
  ·have e2:¬(La:Int)≤(Lb:Int):=by omega
   clear hab
   iterate 12 refine lsv (w':=w1) ?_
   refine wpList_nil ?_
   go_upto_region 3 with fail
   refine wp_region_lit ?_
   iterate 2 refine lsv (w':=w1) ?_
   refine lsce (pair_w La ba ca Lb bb cb HA.out HB.out za zb _ (YA.out.keep (HG.out▸H.out.2.2)) (YB.out.keep (HG.out▸H.out.2.2))) ?_
   intro vv v2 Z
   obtain ⟨⟨s1,h1,l1,s2,h2,l2,c,rfl,hq⟩,hb⟩:=Z.out
   replace H:=lh (show Bk v2 (g) 179 [.bool false,.int .u64 (0:Int),.int .u64 (0:Int)]∧Bk v2 (g+1) 179 [.bool false,.int .u64 (0:Int),.int .u64 (0:Int)]∧Below g w v2 from ⟨(H.out.1).keep hb,(H.out.2.1).keep hb,(H.out.2.2).trans (hb.mono (by have h9:=(H.out.2.2).size;(try have h8:=HG.out);omega))⟩)
   clear Z hb
   have QQ:=lh hq
   clear hq
   iterate 3 refine lsv (w':=v2) ?_
   refine lss (cs':=[.bool s1,.int .u64 (h1:Int),.int .u64 (l1:Int)]) (H.out.1) rfl (by simp [Value.oneCell']) (by kernel_rfl) ?_
   have H2:=lh (show Bk (v2.setRow (g) ([.bool s1,.int .u64 (h1:Int),.int .u64 (l1:Int)]:List Value).toArray) (g) 179 [.bool s1,.int .u64 (h1:Int),.int .u64 (l1:Int)]∧Bk (v2.setRow (g) ([.bool s1,.int .u64 (h1:Int),.int .u64 (l1:Int)]:List Value).toArray) (g+1) 179 [.bool false,.int .u64 (0:Int),.int .u64 (0:Int)]∧Below g w (v2.setRow (g) ([.bool s1,.int .u64 (h1:Int),.int .u64 (l1:Int)]:List Value).toArray) from ⟨(H.out.1).rowSet [.bool s1,.int .u64 (h1:Int),.int .u64 (l1:Int)],(H.out.2.1).rowOth (by omega) _,below_row (H.out.2.2) (by omega) _⟩)
   obtain ⟨w2,hW⟩:∃V,v2.setRow (g) ([.bool s1,.int .u64 (h1:Int),.int .u64 (l1:Int)]:List Value).toArray=V:=⟨_,rfl⟩
   rw [hW] at H2
   first | rw [hW] | (simp only [hW])
   clear hW H
   have H:=H2
   clear H2
   refine lss (cs':=[.bool s2,.int .u64 (h2:Int),.int .u64 (l2:Int)]) (H.out.2.1) rfl (by simp [Value.oneCell']) (by kernel_rfl) ?_
   have H2:=lh (show Bk (w2.setRow (g+1) ([.bool s2,.int .u64 (h2:Int),.int .u64 (l2:Int)]:List Value).toArray) (g) 179 [.bool s1,.int .u64 (h1:Int),.int .u64 (l1:Int)]∧Bk (w2.setRow (g+1) ([.bool s2,.int .u64 (h2:Int),.int .u64 (l2:Int)]:List Value).toArray) (g+1) 179 [.bool s2,.int .u64 (h2:Int),.int .u64 (l2:Int)]∧Below g w (w2.setRow (g+1) ([.bool s2,.int .u64 (h2:Int),.int .u64 (l2:Int)]:List Value).toArray) from ⟨(H.out.1).rowOth (by omega) _,(H.out.2.1).rowSet [.bool s2,.int .u64 (h2:Int),.int .u64 (l2:Int)],below_row (H.out.2.2) (by omega) _⟩)
   obtain ⟨w3,hW⟩:∃V,w2.setRow (g+1) ([.bool s2,.int .u64 (h2:Int),.int .u64 (l2:Int)]:List Value).toArray=V:=⟨_,rfl⟩
   rw [hW] at H2
   first | rw [hW] | (simp only [hW])
   clear hW H
   have H:=H2
   clear H2
   refine lsv (w':=w3) ?_
   refine wpList_nil ?_
   go_wp2
   (try simp only [Exit.inBlock,Exit.then])
   refine bodyPost_ret (res_cct Tryz.results154 _ _ H.out.1 H.out.2.1 rfl rfl Tryz.underlying179 rfl (by kernel_rfl) (by kernel_rfl)) rfl ?_
   exact ⟨_,rfl,⟨s1,h1,l1,s2,h2,l2,_,rfl,QQ.out⟩,HG.out▸H.out.2.2⟩
end Go.Proofs.YtljajnaclpbecaaGreatDoor
