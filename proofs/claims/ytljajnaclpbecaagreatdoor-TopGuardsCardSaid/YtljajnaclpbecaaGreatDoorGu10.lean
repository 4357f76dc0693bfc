/- Contracts and laws on the way to the statement, text 10 of 22. Conditions: as each states them. -/
import Derived.Test.YtljajnaclpbecaaGreatDoorGu1
import Derived.Test.YtljajnaclpbecaaGreatDoorGu3
import Derived.Test.YtljajnaclpbecaaGreatDoorGu5
import Derived.Test.YtljajnaclpbecaaGreatDoorGu6
import Derived.Test.YtljajnaclpbecaaGreatDoorGu7
import Derived.Test.YtljajnaclpbecaaGreatDoorGu8
import Derived.Test.YtljajnaclpbecaaGreatDoorGu9
import Derived.Shelf.Strconv.Itoa1
namespace Go.Proofs.YtljajnaclpbecaaGreatDoor
open Go.RowKit
set_option maxRecDepth 1000000
set_option maxHeartbeats 8000000
set_option linter.unusedVariables false
set_option linter.unusedSimpArgs false
def IsB (v:Value):Prop:=∃b:Bool,v=.bool b
theorem IsB.mk (b:Bool):IsB (.bool b):=⟨b,rfl⟩
theorem wrapId (n:Nat) (h:n<18446744073709551616):IntKind.u64.wrap (n:Int)=(n:Int):=by rw [IntKind.wrap_u64];omega
section
variable {P:Program} {ops:Array Oper} {rest:List Oper} {o:Oper} {act:Act} {Q:Exit→Act→World→Prop} {X:Prop} {w:World}
theorem lsg (h:X) (hg:Region.wanted o (yielded ops act.tmps)=false:=by rfl)
  (hP:wpList P ops Q rest (act.put o.dst undef) w=X:=by (simp only [Act.put,List.setIfInBounds_toArray,List.set_cons_zero,List.set_cons_succ];try rfl)):wpList P ops Q (o :: rest) act w:=wpList_skip hg (hP▸h)
end
theorem res_ct {P:Program} {fn:Func} {p u:Tmp} {ty:TypeId} (h:fn.results=#[.cell p ty,.tmp u]) (tmps:Array Value) (w:World) (g:Nat) {T:TypeId} {cs:List Value} (hB:Bk w g T cs) (hp:tmps.getD p undef=.pointer (some ⟨g,0,none⟩)) {d:TypeDesc} (hu:P.underlying ty=some d) (hd:(match d with | .struct _ | .array _ _=>true | _=>false)=true) (hi:(P.info? ty).map (·.size)=some cs.length):(results fn tmps).run P w=.ok (.tuple #[.agg cs.toArray,tmps.getD u undef]) w:=by
 rw [results_cell_tmp h,hp]
 simp [asAddr,Sem.run_pure,Result.andThen,run_loadVar_row w g T ty cs.toArray (0,0) d hB hu hd (by simpa using hi)]
theorem add64_0 (x y:Nat) (w:World):(callFunc 176 #[.int .u64 x,.int .u64 y,.int .u64 0]).run Tryz.prog w=.ok (.value (.tuple #[.int .u64 (((x+y+0) % 18446744073709551616:Nat):Int),.int .u64 (((x+y+0) / 18446744073709551616:Nat):Int)])) w:=add64_r x y 0 (by omega) w
theorem sub64_0 (x y:Nat) (w:World):(callFunc 178 #[.int .u64 x,.int .u64 y,.int .u64 0]).run Tryz.prog w=.ok (.value (.tuple #[.int .u64 (((x+18446744073709551616 - y - 0) % 18446744073709551616:Nat):Int),.int .u64 ((if x<y+0 then 1 else 0:Nat):Int)])) w:=sub64_r x y 0 (by omega) w
section
variable {w:World}
theorem nzero_c (s:Bool) (h l:Nat) (w:World):Calls Tryz.prog 153 #[.agg #[.bool s,.int .u64 (h:Int),.int .u64 (l:Int)]] w fun e w'=>e=.returned (.bool (decide (h=0∧l=0)))∧Below w.heap.size w w':=by
 obtain ⟨b,hb⟩:∃b,decide (h=0∧l=0)=b:=⟨_,rfl⟩
 rw [hb]
 have HB:=lh hb
 clear hb
 have hA:=(Below.refl w.heap.size w).alloc (Nat.le_refl _) (.cells #[.bool s,.int .u64 (h:Int),.int .u64 (l:Int)] 179)
 rcases (show (((h:Int) == 0)=false∧h≠0)∨(((h:Int) == 0)=true∧((l:Int) == 0)=false∧l≠0)∨(((h:Int) == 0)=true∧((l:Int) == 0)=true∧h=0∧l=0) by
  by_cases h0:h=0
  ·by_cases l0:l=0
   ·exact .inr (.inr ⟨by simp [h0],by simp [l0],h0,l0⟩)
   ·exact .inr (.inl ⟨by simp [h0],by rw [beq_eq_false_iff_ne];omega,l0⟩)
  ·exact .inl ⟨by rw [beq_eq_false_iff_ne];omega,h0⟩) with ⟨e1,n1⟩ | ⟨e1,e2,n1⟩ | ⟨e1,e2,n1⟩
 all_goals
  have NN:=lh n1
  clear n1
  go_enter Tryz.func153,Tryz.ntmps153
  go_wp2
  go_ret
  exact ⟨by rw [← HB.out];simp [NN.out],hA⟩
theorem nless_c (s:Bool) (h l:Nat) (s':Bool) (h' l':Nat) (w:World):Calls Tryz.prog 177 #[.agg #[.bool s,.int .u64 (h:Int),.int .u64 (l:Int)],.agg #[.bool s',.int .u64 (h':Int),.int .u64 (l':Int)]] w fun e w'=>∃v,e=.returned v∧IsB v∧Below w.heap.size w w':=by
 have hA:=((Below.refl w.heap.size w).alloc (Nat.le_refl _) (.cells #[.bool s,.int .u64 (h:Int),.int .u64 (l:Int)] 179)).alloc (by simp) (.cells #[.bool s',.int .u64 (h':Int),.int .u64 (l':Int)] 179)
 rcases (show (h:Int)<(h':Int)∨(¬(h:Int)<(h':Int)∧((h:Int) == (h':Int))=false)∨(¬(h:Int)<(h':Int)∧((h:Int) == (h':Int))=true) by
  by_cases h1:(h:Int)<(h':Int)
  ·exact .inl h1
  ·by_cases h2:(h:Int)=(h':Int)
   ·exact .inr (.inr ⟨h1,by simp [h2]⟩)
   ·exact .inr (.inl ⟨h1,by rw [beq_eq_false_iff_ne];exact h2⟩)) with e1 | ⟨e1,e2⟩ | ⟨e1,e2⟩
 all_goals
  go_enter Tryz.func177,Tryz.ntmps177
  go_wp2
  go_ret
  exact ⟨_,rfl,⟨_,rfl⟩,hA⟩
theorem nplus_c (s:Bool) (h l n:Nat) (hh:h<18446744073709551616) (hl:l<18446744073709551616) (hn:n<18446744073709551616) (w:World):Calls Tryz.prog 159 #[.agg #[.bool s,.int .u64 (h:Int),.int .u64 (l:Int)],.int .u64 (n:Int)] w fun e w'=>∃v,e=.returned v∧(∃ (s':Bool) (h' l':Nat),v=.agg #[.bool s',.int .u64 (h':Int),.int .u64 (l':Int)]∧h'<18446744073709551616∧l'<18446744073709551616∧(h=0→l+n<18446744073709551616→h'=0∧l'=l+n))∧Below w.heap.size w w':=by
 have r1:=add64_0 l n
 obtain ⟨q1,hq1⟩:∃q,(l+n+0) % 18446744073709551616=q:=⟨_,rfl⟩
 obtain ⟨c1,hc1⟩:∃q,(l+n+0) / 18446744073709551616=q:=⟨_,rfl⟩
 rw [hq1,hc1] at r1
 obtain ⟨h2,eh2,hh2⟩:=wrap_n ((h:Int)+(c1:Int))
 have B2:=lh (show h2<18446744073709551616∧q1<18446744073709551616∧(h=0→l+n<18446744073709551616→h2=0∧q1=l+n) from ⟨hh2,by omega,fun a b=>by rw [IntKind.wrap_u64] at eh2;omega⟩)
 clear hq1 hc1 hh hl hn hh2
 go_enter Tryz.func159,Tryz.ntmps159
 go_upto_region 1 with fail
 have N0:=Bk.new w [.bool s,.int .u64 (h:Int),.int .u64 (l:Int)] 179
 have N1:=Bk.new (w.alloc (.cells #[.bool s,.int .u64 (h:Int),.int .u64 (l:Int)] 179)) [.bool false,.int .u64 (0:Int),.int .u64 (0:Int)] 179
 have LB:=(((Below.refl w.heap.size w).alloc (by simp) (.cells #[.bool s,.int .u64 (h:Int),.int .u64 (l:Int)] 179)).alloc (by simp) (.cells #[.bool false,.int .u64 (0:Int),.int .u64 (0:Int)] 179))
 simp only [World.size_alloc] at N1
 have M0:=(N0.alloc (.cells #[.bool false,.int .u64 (0:Int),.int .u64 (0:Int)] 179))
 have M1:=N1
 have hsz:((w.alloc (.cells #[.bool s,.int .u64 (h:Int),.int .u64 (l:Int)] 179)).alloc (.cells #[.bool false,.int .u64 (0:Int),.int .u64 (0:Int)] 179)).heap.size=w.heap.size+2:=by simp
 obtain ⟨w1,hW⟩:∃V,(w.alloc (.cells #[.bool s,.int .u64 (h:Int),.int .u64 (l:Int)] 179)).alloc (.cells #[.bool false,.int .u64 (0:Int),.int .u64 (0:Int)] 179)=V:=⟨_,rfl⟩
 rw [hW] at LB hsz M0 M1
 first | rw [hW] | skip
 obtain ⟨g,hg⟩:∃k,w.heap.size=k:=⟨_,rfl⟩
 rw [hg] at LB hsz M0 M1
 try simp only [hg]
 clear hW N0 N1
 have H:=lh (show Bk w1 (g) 179 [.bool s,.int .u64 (h:Int),.int .u64 (l:Int)]∧Bk w1 (g+1) 179 [.bool false,.int .u64 (0:Int),.int .u64 (0:Int)]∧Below g w w1 from ⟨M0,M1,LB⟩)
 clear LB M0 M1
 have HG:=lh hg
 clear hg
 have c0_0:=(H.out.1).cell (c:=0) rfl
 have c0_1:=(H.out.1).cell (c:=1) rfl
 have c0_2:=(H.out.1).cell (c:=2) rfl
 have f0:=(H.out.1).free
 have c1_0:=(H.out.2.1).cell (c:=0) rfl
 have c1_1:=(H.out.2.1).cell (c:=1) rfl
 have c1_2:=(H.out.2.1).cell (c:=2) rfl
 have f1:=(H.out.2.1).free
 refine wp_region_lit ?_
 iterate 3 refine lsv (w':=w1) ?_
 refine lsv (v:=.tuple #[.int .u64 (q1:Int),.int .u64 (c1:Int)]) (w':=w1) ?_
 iterate 5 refine lsv (w':=w1) ?_
 refine wpList_nil ?_
 clear c0_0 c0_1 c0_2 f0 c1_0 c1_1 c1_2 f1
 have c0_0:=(H.out.1).cell (c:=0) rfl
 have c0_1:=(H.out.1).cell (c:=1) rfl
 have c0_2:=(H.out.1).cell (c:=2) rfl
 have f0:=(H.out.1).free
 have c1_0:=(H.out.2.1).cell (c:=0) rfl
 have c1_1:=(H.out.2.1).cell (c:=1) rfl
 have c1_2:=(H.out.2.1).cell (c:=2) rfl
 have f1:=(H.out.2.1).free
 go_upto_region 2 with fail
 refine wp_region_lit ?_
 iterate 5 refine lsv (w':=w1) ?_
 refine lsv (v:=.int .u64 (h2:Int)) (w':=w1) ?_
 refine lsv (w':=w1) ?_
 refine lsv (v:=.agg #[.bool s,.int .u64 (h2:Int),.int .u64 (q1:Int)]) (w':=w1) ?_
 clear c0_0 c0_1 c0_2 f0 c1_0 c1_1 c1_2 f1
 refine lss (cs':=[.bool s,.int .u64 (h2:Int),.int .u64 (q1:Int)]) (H.out.2.1) rfl (by simp [Value.oneCell']) (by kernel_rfl) ?_
 have H2:=lh (show Bk (w1.setRow (g+1) ([.bool s,.int .u64 (h2:Int),.int .u64 (q1:Int)]:List Value).toArray) (g) 179 [.bool s,.int .u64 (h:Int),.int .u64 (l:Int)]∧Bk (w1.setRow (g+1) ([.bool s,.int .u64 (h2:Int),.int .u64 (q1:Int)]:List Value).toArray) (g+1) 179 [.bool s,.int .u64 (h2:Int),.int .u64 (q1:Int)]∧Below g w (w1.setRow (g+1) ([.bool s,.int .u64 (h2:Int),.int .u64 (q1:Int)]:List Value).toArray) from ⟨(H.out.1).rowOth (by omega) _,(H.out.2.1).rowSet [.bool s,.int .u64 (h2:Int),.int .u64 (q1:Int)],below_row (H.out.2.2) (by omega) _⟩)
 obtain ⟨w2,hW⟩:∃V,w1.setRow (g+1) ([.bool s,.int .u64 (h2:Int),.int .u64 (q1:Int)]:List Value).toArray=V:=⟨_,rfl⟩
 rw [hW] at H2
 first | rw [hW] | (simp only [hW])
 clear hW H
 have H:=H2
 clear H2
 refine wpList_nil ?_
 go_wp2
 (try simp only [Exit.inBlock,Exit.then])
 refine bodyPost_ret (results_cell_row Tryz.results159 _ _ (g+1) 179 _ (0,0) _ rfl (H.out.2.1) Tryz.underlying179 rfl (by kernel_rfl)) rfl ?_
 exact ⟨_,rfl,⟨s,h2,q1,rfl,B2.out⟩,HG.out▸H.out.2.2⟩
theorem ntimes_c (s:Bool) (h l m:Nat) (hh:h<18446744073709551616) (hl:l<18446744073709551616) (hm:m<18446744073709551616) (w:World):Calls Tryz.prog 155 #[.agg #[.bool s,.int .u64 (h:Int),.int .u64 (l:Int)],.int .u64 (m:Int)] w fun e w'=>∃v,e=.returned v∧(∃ (s':Bool) (h' l':Nat) (u:Value),v=.tuple #[.agg #[.bool s',.int .u64 (h':Int),.int .u64 (l':Int)],u]∧h'<18446744073709551616∧l'<18446744073709551616∧(h=0→l*m<18446744073709551616→h'=0∧l'=l*m))∧Below w.heap.size w w':=by
 have M1:=lh (mul64_c h m hh hm)
 have M2:=lh (mul64_c l m hl hm)
 have r1:=add64_0 (h*m % 18446744073709551616) (l*m / 18446744073709551616)
 obtain ⟨q1,hq1⟩:∃q,(h*m % 18446744073709551616+l*m / 18446744073709551616+0) % 18446744073709551616=q:=⟨_,rfl⟩
 obtain ⟨c1,hc1⟩:∃q,(h*m % 18446744073709551616+l*m / 18446744073709551616+0) / 18446744073709551616=q:=⟨_,rfl⟩
 rw [hq1,hc1] at r1
 have B2:=lh (show q1<18446744073709551616∧l*m % 18446744073709551616<18446744073709551616∧(h=0→l*m<18446744073709551616→q1=0∧l*m % 18446744073709551616=l*m) from ⟨by omega,Nat.mod_lt _ (by omega),fun a b=>by subst a;rw [Nat.zero_mul,Nat.div_eq_of_lt b] at hq1;exact ⟨by omega,Nat.mod_eq_of_lt b⟩⟩)
 clear hq1 hc1 hh hl hm
 obtain ⟨t1,ht1⟩:∃t,h*m % 18446744073709551616=t:=⟨_,rfl⟩
 obtain ⟨t2,ht2⟩:∃t,l*m / 18446744073709551616=t:=⟨_,rfl⟩
 obtain ⟨t3,ht3⟩:∃t,l*m % 18446744073709551616=t:=⟨_,rfl⟩
 obtain ⟨t4,ht4⟩:∃t,h*m / 18446744073709551616=t:=⟨_,rfl⟩
 rw [ht1,ht2] at r1
 rw [ht3] at B2
 rw [ht1,ht4] at M1
 rw [ht2,ht3] at M2
 clear ht1 ht2 ht3 ht4
 go_enter Tryz.func155,Tryz.ntmps155
 go_upto_region 1 with fail
 have N0:=Bk.new w [.bool s,.int .u64 (h:Int),.int .u64 (l:Int)] 179
 have N1:=Bk.new (w.alloc (.cells #[.bool s,.int .u64 (h:Int),.int .u64 (l:Int)] 179)) [.bool false,.int .u64 (0:Int),.int .u64 (0:Int)] 179
 have LB:=(((Below.refl w.heap.size w).alloc (by simp) (.cells #[.bool s,.int .u64 (h:Int),.int .u64 (l:Int)] 179)).alloc (by simp) (.cells #[.bool false,.int .u64 (0:Int),.int .u64 (0:Int)] 179))
 simp only [World.size_alloc] at N1
 have M0:=(N0.alloc (.cells #[.bool false,.int .u64 (0:Int),.int .u64 (0:Int)] 179))
 have M1:=N1
 have hsz:((w.alloc (.cells #[.bool s,.int .u64 (h:Int),.int .u64 (l:Int)] 179)).alloc (.cells #[.bool false,.int .u64 (0:Int),.int .u64 (0:Int)] 179)).heap.size=w.heap.size+2:=by simp
 obtain ⟨w1,hW⟩:∃V,(w.alloc (.cells #[.bool s,.int .u64 (h:Int),.int .u64 (l:Int)] 179)).alloc (.cells #[.bool false,.int .u64 (0:Int),.int .u64 (0:Int)] 179)=V:=⟨_,rfl⟩
 rw [hW] at LB hsz M0 M1
 first | rw [hW] | skip
 obtain ⟨g,hg⟩:∃k,w.heap.size=k:=⟨_,rfl⟩
 rw [hg] at LB hsz M0 M1
 try simp only [hg]
 clear hW N0 N1
 have H:=lh (show Bk w1 (g) 179 [.bool s,.int .u64 (h:Int),.int .u64 (l:Int)]∧Bk w1 (g+1) 179 [.bool false,.int .u64 (0:Int),.int .u64 (0:Int)]∧Below g w w1 from ⟨M0,M1,LB⟩)
 clear LB M0 M1
 have HG:=lh hg
 clear hg
 have c0_0:=(H.out.1).cell (c:=0) rfl
 have c0_1:=(H.out.1).cell (c:=1) rfl
 have c0_2:=(H.out.1).cell (c:=2) rfl
 have f0:=(H.out.1).free
 have c1_0:=(H.out.2.1).cell (c:=0) rfl
 have c1_1:=(H.out.2.1).cell (c:=1) rfl
 have c1_2:=(H.out.2.1).cell (c:=2) rfl
 have f1:=(H.out.2.1).free
 refine wp_region_lit ?_
 iterate 3 refine lsv (w':=w1) ?_
 refine lsc (M1.out _) ?_
 intro _ hw
 obtain rfl:=hw.out
 clear hw
 iterate 5 refine lsv (w':=w1) ?_
 refine wpList_nil ?_
 go_upto_region 2 with fail
 refine wp_region_lit ?_
 iterate 3 refine lsv (w':=w1) ?_
 refine lsc (M2.out _) ?_
 intro _ hw
 obtain rfl:=hw.out
 clear hw
 iterate 5 refine lsv (w':=w1) ?_
 refine wpList_nil ?_
 go_upto_region 3 with fail
 refine wp_region_lit ?_
 iterate 2 refine lsv (w':=w1) ?_
 refine lsv (v:=.tuple #[.int .u64 (q1:Int),.int .u64 (c1:Int)]) (w':=w1) ?_
 iterate 5 refine lsv (w':=w1) ?_
 refine wpList_nil ?_
 go_upto_region 4 with fail
 rcases (show ((t4:Int) == 0)=false∨(((t4:Int) == 0)=true∧∃b,((c1:Int) == 0)=b) by cases ((t4:Int) == 0);(· exact .inl rfl);(· exact .inr ⟨rfl,_,rfl⟩)) with e1 | ⟨e1,b,e2⟩
 all_goals
  refine wp_region_lit ?_
  iterate 4 refine lsv (w':=w1) ?_
  refine lsv (v:=.agg #[.bool s,.int .u64 (q1:Int),.int .u64 (t3:Int)]) (w':=w1) ?_
  iterate 3 refine lsv (w':=w1) ?_
  first | refine lsg ?_ | refine lsv (w':=w1) ?_
  first | refine lsg ?_ | refine lsv (w':=w1) ?_
  refine lsv (w':=w1) ?_
  clear c0_0 c0_1 c0_2 f0 c1_0 c1_1 c1_2 f1
  refine lss (cs':=[.bool s,.int .u64 (q1:Int),.int .u64 (t3:Int)]) (H.out.2.1) rfl (by simp [Value.oneCell']) (by kernel_rfl) ?_
  have H2:=lh (show Bk (w1.setRow (g+1) ([.bool s,.int .u64 (q1:Int),.int .u64 (t3:Int)]:List Value).toArray) (g) 179 [.bool s,.int .u64 (h:Int),.int .u64 (l:Int)]∧Bk (w1.setRow (g+1) ([.bool s,.int .u64 (q1:Int),.int .u64 (t3:Int)]:List Value).toArray) (g+1) 179 [.bool s,.int .u64 (q1:Int),.int .u64 (t3:Int)]∧Below g w (w1.setRow (g+1) ([.bool s,.int .u64 (q1:Int),.int .u64 (t3:Int)]:List Value).toArray) from ⟨(H.out.1).rowOth (by omega) _,(H.out.2.1).rowSet [.bool s,.int .u64 (q1:Int),.int .u64 (t3:Int)],below_row (H.out.2.2) (by omega) _⟩)
  obtain ⟨w2,hW⟩:∃V,w1.setRow (g+1) ([.bool s,.int .u64 (q1:Int),.int .u64 (t3:Int)]:List Value).toArray=V:=⟨_,rfl⟩
  rw [hW] at H2
  first | rw [hW] | (simp only [hW])
  clear hW H
  have H:=H2
  clear H2
  refine lsv (w':=w2) ?_
  refine wpList_nil ?_
  go_wp2
  (try simp only [Exit.inBlock,Exit.then])
  refine bodyPost_ret (res_ct Tryz.results155 _ _ (g+1) H.out.2.1 rfl Tryz.underlying179 rfl (by kernel_rfl)) rfl ?_
  exact ⟨_,rfl,⟨s,q1,t3,_,rfl,B2.out⟩,HG.out▸H.out.2.2⟩
theorem nover_c (s:Bool) (h l m:Nat) (hh:h<18446744073709551616) (hl:l<18446744073709551616) (hm0:m≠0) (hm:m<18446744073709551616) (w:World):Calls Tryz.prog 156 #[.agg #[.bool s,.int .u64 (h:Int),.int .u64 (l:Int)],.int .u64 (m:Int)] w fun e w'=>∃v,e=.returned v∧(∃ (s':Bool) (h' l' r:Nat),v=.tuple #[.agg #[.bool s',.int .u64 (h':Int),.int .u64 (l':Int)],.int .u64 (r:Int)]∧h'=h / m∧h'<18446744073709551616∧l'<18446744073709551616∧r<18446744073709551616)∧Below w.heap.size w w':=by
 have e1:((h:Nat):Int).tdiv (m:Int)=((h / m:Nat):Int):=by rw [Int.tdiv_eq_ediv_of_nonneg (by omega)];rfl
 have e2:((h:Nat):Int).tmod (m:Int)=((h % m:Nat):Int):=by rw [Int.tmod_eq_emod_of_nonneg (by omega)];rfl
 have d1:h / m≤h:=Nat.div_le_self _ _
 have d2:h % m<m:=Nat.mod_lt _ (by omega)
 obtain ⟨q1,hq1⟩:∃q,h / m=q:=⟨_,rfl⟩
 obtain ⟨r1,hr1'⟩:∃q,h % m=q:=⟨_,rfl⟩
 have QQ:=lh hq1
 rw [hq1] at e1 d1
 rw [hr1'] at e2 d2
 have hr1:=d2
 have e3:IntKind.u64.wrap (q1:Int)=(q1:Int):=wrapId q1 (by omega)
 have e4:((m:Int) == 0)=false:=by rw [beq_eq_false_iff_ne];omega
 have e5:(m:Int)≠0:=by omega
 have QB:=lh (show q1<18446744073709551616 by omega)
 clear hq1 hr1' d1 d2
 go_enter Tryz.func156,Tryz.ntmps156
 go_upto_region 1 with fail
 have N0:=Bk.new w [.bool s,.int .u64 (h:Int),.int .u64 (l:Int)] 179
 have N1:=Bk.new (w.alloc (.cells #[.bool s,.int .u64 (h:Int),.int .u64 (l:Int)] 179)) [.bool false,.int .u64 (0:Int),.int .u64 (0:Int)] 179
 have LB:=(((Below.refl w.heap.size w).alloc (by simp) (.cells #[.bool s,.int .u64 (h:Int),.int .u64 (l:Int)] 179)).alloc (by simp) (.cells #[.bool false,.int .u64 (0:Int),.int .u64 (0:Int)] 179))
 simp only [World.size_alloc] at N1
 have M0:=(N0.alloc (.cells #[.bool false,.int .u64 (0:Int),.int .u64 (0:Int)] 179))
 have M1:=N1
 have hsz:((w.alloc (.cells #[.bool s,.int .u64 (h:Int),.int .u64 (l:Int)] 179)).alloc (.cells #[.bool false,.int .u64 (0:Int),.int .u64 (0:Int)] 179)).heap.size=w.heap.size+2:=by simp
 obtain ⟨w1,hW⟩:∃V,(w.alloc (.cells #[.bool s,.int .u64 (h:Int),.int .u64 (l:Int)] 179)).alloc (.cells #[.bool false,.int .u64 (0:Int),.int .u64 (0:Int)] 179)=V:=⟨_,rfl⟩
 rw [hW] at LB hsz M0 M1
 first | rw [hW] | skip
 obtain ⟨g,hg⟩:∃k,w.heap.size=k:=⟨_,rfl⟩
 rw [hg] at LB hsz M0 M1
 try simp only [hg]
 clear hW N0 N1
 have H:=lh (show Bk w1 (g) 179 [.bool s,.int .u64 (h:Int),.int .u64 (l:Int)]∧Bk w1 (g+1) 179 [.bool false,.int .u64 (0:Int),.int .u64 (0:Int)]∧Below g w w1 from ⟨M0,M1,LB⟩)
 clear LB M0 M1
 have HG:=lh hg
 clear hg
 refine wp_region_held_drew (S:=fun W=>Bk W (g) 179 [.bool s,.int .u64 (h:Int),.int .u64 (l:Int)]∧Bk W (g+1) 179 [.bool false,.int .u64 (0:Int),.int .u64 (0:Int)]∧Below g w W) (by kernel_rfl) ⟨H.out.1.drewN 1,H.out.2.1.drewN 1,dBelow' H.out.2.2 1⟩ (fun hHeld=>?_)
 replace H:=lh hHeld
 obtain ⟨v1,hV⟩:∃V,w1.drew=V:=⟨_,rfl⟩
 rw [hV] at hHeld H ⊢
 clear hV
 repeat refine tkn (y:=by (intro W hSw;have hc:=hSw.1.cell (c:=1) rfl;go_simp;(try with_reducible rfl))) ?_
 refine wpAnyH_done (by with_unfolding_all rfl) ?_ _
 clear hHeld
 have c0_0:=(H.out.1).cell (c:=0) rfl
 have c0_1:=(H.out.1).cell (c:=1) rfl
 have c0_2:=(H.out.1).cell (c:=2) rfl
 have f0:=(H.out.1).free
 have c1_0:=(H.out.2.1).cell (c:=0) rfl
 have c1_1:=(H.out.2.1).cell (c:=1) rfl
 have c1_2:=(H.out.2.1).cell (c:=2) rfl
 have f1:=(H.out.2.1).free
 go_upto_region 2 with fail
 refine wp_region_lit ?_
 iterate 4 refine lsv (w':=v1) ?_
 refine lsce (div64_w r1 l m hr1 hl hm _) ?_
 intro vv v2 Z
 obtain ⟨⟨q2,r2,rfl,hq2,hr2⟩,hb⟩:=Z.out
 clear c0_0 c0_1 c0_2 f0 c1_0 c1_1 c1_2 f1
 replace H:=lh (show Bk v2 (g) 179 [.bool s,.int .u64 (h:Int),.int .u64 (l:Int)]∧Bk v2 (g+1) 179 [.bool false,.int .u64 (0:Int),.int .u64 (0:Int)]∧Below g w v2 from ⟨(H.out.1).keep hb,(H.out.2.1).keep hb,(H.out.2.2).trans (hb.mono (by have h9:=(H.out.2.2).size;(try have h8:=HG.out);omega))⟩)
 clear Z hb
 iterate 5 refine lsv (w':=v2) ?_
 refine wpList_nil ?_
 have c0_0:=(H.out.1).cell (c:=0) rfl
 have c0_1:=(H.out.1).cell (c:=1) rfl
 have c0_2:=(H.out.1).cell (c:=2) rfl
 have f0:=(H.out.1).free
 have c1_0:=(H.out.2.1).cell (c:=0) rfl
 have c1_1:=(H.out.2.1).cell (c:=1) rfl
 have c1_2:=(H.out.2.1).cell (c:=2) rfl
 have f1:=(H.out.2.1).free
 go_upto_region 3 with fail
 refine wp_region_lit ?_
 iterate 4 refine lsv (w':=v2) ?_
 refine lsv (v:=.agg #[.bool s,.int .u64 (q1:Int),.int .u64 (q2:Int)]) (w':=v2) ?_
 refine lsv (w':=v2) ?_
 clear c0_0 c0_1 c0_2 f0 c1_0 c1_1 c1_2 f1
 refine lss (cs':=[.bool s,.int .u64 (q1:Int),.int .u64 (q2:Int)]) (H.out.2.1) rfl (by simp [Value.oneCell']) (by kernel_rfl) ?_
 have H2:=lh (show Bk (v2.setRow (g+1) ([.bool s,.int .u64 (q1:Int),.int .u64 (q2:Int)]:List Value).toArray) (g) 179 [.bool s,.int .u64 (h:Int),.int .u64 (l:Int)]∧Bk (v2.setRow (g+1) ([.bool s,.int .u64 (q1:Int),.int .u64 (q2:Int)]:List Value).toArray) (g+1) 179 [.bool s,.int .u64 (q1:Int),.int .u64 (q2:Int)]∧Below g w (v2.setRow (g+1) ([.bool s,.int .u64 (q1:Int),.int .u64 (q2:Int)]:List Value).toArray) from ⟨(H.out.1).rowOth (by omega) _,(H.out.2.1).rowSet [.bool s,.int .u64 (q1:Int),.int .u64 (q2:Int)],below_row (H.out.2.2) (by omega) _⟩)
 obtain ⟨w2,hW⟩:∃V,v2.setRow (g+1) ([.bool s,.int .u64 (q1:Int),.int .u64 (q2:Int)]:List Value).toArray=V:=⟨_,rfl⟩
 rw [hW] at H2
 first | rw [hW] | (simp only [hW])
 clear hW H
 have H:=H2
 clear H2
 refine lsv (w':=w2) ?_
 refine wpList_nil ?_
 go_wp2
 (try simp only [Exit.inBlock,Exit.then])
 refine bodyPost_ret (res_ct Tryz.results156 _ _ (g+1) H.out.2.1 rfl Tryz.underlying179 rfl (by kernel_rfl)) rfl ?_
 exact ⟨_,rfl,⟨s,q1,q2,r2,rfl,QQ.out▸rfl,QB.out,hq2,hr2⟩,HG.out▸H.out.2.2⟩
end
def NumV (v:Value):Prop:=∃ (s:Bool) (h l:Nat),v=.agg #[.bool s,.int .u64 (h:Int),.int .u64 (l:Int)]∧h<18446744073709551616∧l<18446744073709551616
theorem ad0 (x y:Nat):∃q c:Nat,(∀w,(callFunc 176 #[.int .u64 x,.int .u64 y,.int .u64 0]).run Tryz.prog w=.ok (.value (.tuple #[.int .u64 (q:Int),.int .u64 (c:Int)])) w)∧q<18446744073709551616∧c≤(x+y) / 18446744073709551616:=⟨_,_,add64_0 x y,Nat.mod_lt _ (by omega),by omega⟩
theorem ad1 (x y b:Nat) (hb:b≤1):∃q c:Nat,(∀w,(callFunc 176 #[.int .u64 x,.int .u64 y,.int .u64 b]).run Tryz.prog w=.ok (.value (.tuple #[.int .u64 (q:Int),.int .u64 (c:Int)])) w)∧q<18446744073709551616∧True:=⟨_,_,add64_r x y b hb,Nat.mod_lt _ (by omega),trivial⟩
theorem su0 (x y:Nat):∃q c:Nat,(∀w,(callFunc 178 #[.int .u64 x,.int .u64 y,.int .u64 0]).run Tryz.prog w=.ok (.value (.tuple #[.int .u64 (q:Int),.int .u64 (c:Int)])) w)∧q<18446744073709551616∧c≤1:=⟨_,_,sub64_0 x y,Nat.mod_lt _ (by omega),by split<;>omega⟩
theorem su1 (x y b:Nat) (hb:b≤1):∃q c:Nat,(∀w,(callFunc 178 #[.int .u64 x,.int .u64 y,.int .u64 b]).run Tryz.prog w=.ok (.value (.tuple #[.int .u64 (q:Int),.int .u64 (c:Int)])) w)∧q<18446744073709551616∧True:=⟨_,_,sub64_r x y b hb,Nat.mod_lt _ (by omega),trivial⟩
theorem nadd_c (s:Bool) (h l:Nat) (s':Bool) (h' l':Nat) (hh:h<18446744073709551616) (hl:l<18446744073709551616) (hh':h'<18446744073709551616) (hl':l'<18446744073709551616) (w:World):Calls Tryz.prog 152 #[.agg #[.bool s,.int .u64 (h:Int),.int .u64 (l:Int)],.agg #[.bool s',.int .u64 (h':Int),.int .u64 (l':Int)]] w fun e w'=>∃v,e=.returned v∧NumV v∧Below w.heap.size w w':=by
 rcases (show s'=s∨s' = !s by cases s<;>cases s'<;>simp) with rfl | rfl
 ·go_enter Tryz.func152,Tryz.ntmps152
  go_upto_region 1 with fail
  have N0:=Bk.new w [.bool s',.int .u64 (h:Int),.int .u64 (l:Int)] 179
  have N1:=Bk.new (w.alloc (.cells #[.bool s',.int .u64 (h:Int),.int .u64 (l:Int)] 179)) [.bool s',.int .u64 (h':Int),.int .u64 (l':Int)] 179
  have N2:=Bk.new ((w.alloc (.cells #[.bool s',.int .u64 (h:Int),.int .u64 (l:Int)] 179)).alloc (.cells #[.bool s',.int .u64 (h':Int),.int .u64 (l':Int)] 179)) [.bool false,.int .u64 (0:Int),.int .u64 (0:Int)] 179
  have LB:=((((Below.refl w.heap.size w).alloc (by simp) (.cells #[.bool s',.int .u64 (h:Int),.int .u64 (l:Int)] 179)).alloc (by simp) (.cells #[.bool s',.int .u64 (h':Int),.int .u64 (l':Int)] 179)).alloc (by simp;omega) (.cells #[.bool false,.int .u64 (0:Int),.int .u64 (0:Int)] 179))
  simp only [World.size_alloc] at N1 N2
  have M0:=((N0.alloc (.cells #[.bool s',.int .u64 (h':Int),.int .u64 (l':Int)] 179)).alloc (.cells #[.bool false,.int .u64 (0:Int),.int .u64 (0:Int)] 179))
  have M1:=(N1.alloc (.cells #[.bool false,.int .u64 (0:Int),.int .u64 (0:Int)] 179))
  have M2:=N2
  have hsz:(((w.alloc (.cells #[.bool s',.int .u64 (h:Int),.int .u64 (l:Int)] 179)).alloc (.cells #[.bool s',.int .u64 (h':Int),.int .u64 (l':Int)] 179)).alloc (.cells #[.bool false,.int .u64 (0:Int),.int .u64 (0:Int)] 179)).heap.size=w.heap.size+3:=by simp
  obtain ⟨w1,hW⟩:∃V,((w.alloc (.cells #[.bool s',.int .u64 (h:Int),.int .u64 (l:Int)] 179)).alloc (.cells #[.bool s',.int .u64 (h':Int),.int .u64 (l':Int)] 179)).alloc (.cells #[.bool false,.int .u64 (0:Int),.int .u64 (0:Int)] 179)=V:=⟨_,rfl⟩
  rw [hW] at LB hsz M0 M1 M2
  first | rw [hW] | skip
  obtain ⟨g,hg⟩:∃k,w.heap.size=k:=⟨_,rfl⟩
  rw [hg] at LB hsz M0 M1 M2
  try simp only [hg]
  clear hW N0 N1 N2
  have H:=lh (show Bk w1 (g) 179 [.bool s',.int .u64 (h:Int),.int .u64 (l:Int)]∧Bk w1 (g+1) 179 [.bool s',.int .u64 (h':Int),.int .u64 (l':Int)]∧Bk w1 (g+2) 179 [.bool false,.int .u64 (0:Int),.int .u64 (0:Int)]∧Below g w w1 from ⟨M0,M1,M2,LB⟩)
  clear LB M0 M1 M2
  have HG:=lh hg
  clear hg
  have c0_0:=(H.out.1).cell (c:=0) rfl
  have c0_1:=(H.out.1).cell (c:=1) rfl
  have c0_2:=(H.out.1).cell (c:=2) rfl
  have f0:=(H.out.1).free
  have c1_0:=(H.out.2.1).cell (c:=0) rfl
  have c1_1:=(H.out.2.1).cell (c:=1) rfl
  have c1_2:=(H.out.2.1).cell (c:=2) rfl
  have f1:=(H.out.2.1).free
  have c2_0:=(H.out.2.2.1).cell (c:=0) rfl
  have c2_1:=(H.out.2.2.1).cell (c:=1) rfl
  have c2_2:=(H.out.2.2.1).cell (c:=2) rfl
  have f2:=(H.out.2.2.1).free
  obtain ⟨q1,c1,r1,hq1,hc1⟩:=ad0 l l'
  obtain ⟨q2,c2,r2,hq2,hc2⟩:=ad1 h h' c1 (by omega)
  go_upto_region 2 with fail
  refine wp_region_lit ?_
  iterate 4 refine lsv (w':=w1) ?_
  refine lsv (v:=.tuple #[.int .u64 (q1:Int),.int .u64 (c1:Int)]) (w':=w1) ?_
  iterate 5 refine lsv (w':=w1) ?_
  refine wpList_nil ?_
  go_upto_region 3 with fail
  refine wp_region_lit ?_
  iterate 5 refine lsv (w':=w1) ?_
  refine lsv (v:=.tuple #[.int .u64 (q2:Int),.int .u64 (c2:Int)]) (w':=w1) ?_
  iterate 5 refine lsv (w':=w1) ?_
  refine wpList_nil ?_
  go_upto_region 4 with fail
  refine wp_region_lit ?_
  iterate 4 refine lsv (w':=w1) ?_
  refine lsv (v:=.agg #[.bool s',.int .u64 (q2:Int),.int .u64 (q1:Int)]) (w':=w1) ?_
  clear c0_0 c0_1 c0_2 f0 c1_0 c1_1 c1_2 f1 c2_0 c2_1 c2_2 f2
  refine lss (cs':=[.bool s',.int .u64 (q2:Int),.int .u64 (q1:Int)]) (H.out.2.2.1) rfl (by simp [Value.oneCell']) (by kernel_rfl) ?_
  have H2:=lh (show Bk (w1.setRow (g+2) ([.bool s',.int .u64 (q2:Int),.int .u64 (q1:Int)]:List Value).toArray) (g) 179 [.bool s',.int .u64 (h:Int),.int .u64 (l:Int)]∧Bk (w1.setRow (g+2) ([.bool s',.int .u64 (q2:Int),.int .u64 (q1:Int)]:List Value).toArray) (g+1) 179 [.bool s',.int .u64 (h':Int),.int .u64 (l':Int)]∧Bk (w1.setRow (g+2) ([.bool s',.int .u64 (q2:Int),.int .u64 (q1:Int)]:List Value).toArray) (g+2) 179 [.bool s',.int .u64 (q2:Int),.int .u64 (q1:Int)]∧Below g w (w1.setRow (g+2) ([.bool s',.int .u64 (q2:Int),.int .u64 (q1:Int)]:List Value).toArray) from ⟨(H.out.1).rowOth (by omega) _,(H.out.2.1).rowOth (by omega) _,(H.out.2.2.1).rowSet [.bool s',.int .u64 (q2:Int),.int .u64 (q1:Int)],below_row (H.out.2.2.2) (by omega) _⟩)
  obtain ⟨w2,hW⟩:∃V,w1.setRow (g+2) ([.bool s',.int .u64 (q2:Int),.int .u64 (q1:Int)]:List Value).toArray=V:=⟨_,rfl⟩
  rw [hW] at H2
  first | rw [hW] | (simp only [hW])
  clear hW H
  have H:=H2
  clear H2
  refine wpList_nil ?_
  go_wp2
  (try simp only [Exit.inBlock,Exit.then])
  refine bodyPost_ret (results_cell_row Tryz.results152 _ _ (g+1+1) 179 _ (0,0) _ rfl H.out.2.2.1 Tryz.underlying179 rfl (by kernel_rfl)) rfl ?_
  exact ⟨_,rfl,⟨_,_,_,rfl,by omega,by omega⟩,HG.out▸H.out.2.2.2⟩
 ·have e1:(s == !s)=false:=by cases s<;>rfl
  have e2:¬(s = !s):=by cases s<;>simp
  go_enter Tryz.func152,Tryz.ntmps152
  go_upto_region 1 with fail
  have N0:=Bk.new w [.bool s,.int .u64 (h:Int),.int .u64 (l:Int)] 179
  have N1:=Bk.new (w.alloc (.cells #[.bool s,.int .u64 (h:Int),.int .u64 (l:Int)] 179)) [.bool (!s),.int .u64 (h':Int),.int .u64 (l':Int)] 179
  have N2:=Bk.new ((w.alloc (.cells #[.bool s,.int .u64 (h:Int),.int .u64 (l:Int)] 179)).alloc (.cells #[.bool (!s),.int .u64 (h':Int),.int .u64 (l':Int)] 179)) [.bool false,.int .u64 (0:Int),.int .u64 (0:Int)] 179
  have LB:=((((Below.refl w.heap.size w).alloc (by simp) (.cells #[.bool s,.int .u64 (h:Int),.int .u64 (l:Int)] 179)).alloc (by simp) (.cells #[.bool (!s),.int .u64 (h':Int),.int .u64 (l':Int)] 179)).alloc (by simp;omega) (.cells #[.bool false,.int .u64 (0:Int),.int .u64 (0:Int)] 179))
  simp only [World.size_alloc] at N1 N2
  have M0:=((N0.alloc (.cells #[.bool (!s),.int .u64 (h':Int),.int .u64 (l':Int)] 179)).alloc (.cells #[.bool false,.int .u64 (0:Int),.int .u64 (0:Int)] 179))
  have M1:=(N1.alloc (.cells #[.bool false,.int .u64 (0:Int),.int .u64 (0:Int)] 179))
  have M2:=N2
  have hsz:(((w.alloc (.cells #[.bool s,.int .u64 (h:Int),.int .u64 (l:Int)] 179)).alloc (.cells #[.bool (!s),.int .u64 (h':Int),.int .u64 (l':Int)] 179)).alloc (.cells #[.bool false,.int .u64 (0:Int),.int .u64 (0:Int)] 179)).heap.size=w.heap.size+3:=by simp
  obtain ⟨w1,hW⟩:∃V,((w.alloc (.cells #[.bool s,.int .u64 (h:Int),.int .u64 (l:Int)] 179)).alloc (.cells #[.bool (!s),.int .u64 (h':Int),.int .u64 (l':Int)] 179)).alloc (.cells #[.bool false,.int .u64 (0:Int),.int .u64 (0:Int)] 179)=V:=⟨_,rfl⟩
  rw [hW] at LB hsz M0 M1 M2
  first | rw [hW] | skip
  obtain ⟨g,hg⟩:∃k,w.heap.size=k:=⟨_,rfl⟩
  rw [hg] at LB hsz M0 M1 M2
  try simp only [hg]
  clear hW N0 N1 N2
  have H:=lh (show Bk w1 (g) 179 [.bool s,.int .u64 (h:Int),.int .u64 (l:Int)]∧Bk w1 (g+1) 179 [.bool (!s),.int .u64 (h':Int),.int .u64 (l':Int)]∧Bk w1 (g+2) 179 [.bool false,.int .u64 (0:Int),.int .u64 (0:Int)]∧Below g w w1 from ⟨M0,M1,M2,LB⟩)
  clear LB M0 M1 M2
  have HG:=lh hg
  clear hg
  have c0_0:=(H.out.1).cell (c:=0) rfl
  have c0_1:=(H.out.1).cell (c:=1) rfl
  have c0_2:=(H.out.1).cell (c:=2) rfl
  have f0:=(H.out.1).free
  have c1_0:=(H.out.2.1).cell (c:=0) rfl
  have c1_1:=(H.out.2.1).cell (c:=1) rfl
  have c1_2:=(H.out.2.1).cell (c:=2) rfl
  have f1:=(H.out.2.1).free
  have c2_0:=(H.out.2.2.1).cell (c:=0) rfl
  have c2_1:=(H.out.2.2.1).cell (c:=1) rfl
  have c2_2:=(H.out.2.2.1).cell (c:=2) rfl
  have f2:=(H.out.2.2.1).free
  go_upto_region 5 with fail
  refine wp_region_lit ?_
  clear c0_0 c0_1 c0_2 f0 c1_0 c1_1 c1_2 f1 c2_0 c2_1 c2_2 f2
  refine lsl (H.out.1) ?_
  refine lsl (H.out.2.1) ?_
  refine lsce (nless_c s h l (!s) h' l' _) ?_
  intro vv v2 Z
  obtain ⟨⟨b,rfl⟩,hb⟩:=Z.out
  replace H:=lh (show Bk v2 (g) 179 [.bool s,.int .u64 (h:Int),.int .u64 (l:Int)]∧Bk v2 (g+1) 179 [.bool (!s),.int .u64 (h':Int),.int .u64 (l':Int)]∧Bk v2 (g+2) 179 [.bool false,.int .u64 (0:Int),.int .u64 (0:Int)]∧Below g w v2 from ⟨(H.out.1).keep hb,(H.out.2.1).keep hb,(H.out.2.2.1).keep hb,(H.out.2.2.2).trans (hb.mono (by have h9:=(H.out.2.2.2).size;(try have h8:=HG.out);omega))⟩)
  clear Z hb
  refine wpList_nil ?_
  cases b
  ·have c0_0:=(H.out.1).cell (c:=0) rfl
   have c0_1:=(H.out.1).cell (c:=1) rfl
   have c0_2:=(H.out.1).cell (c:=2) rfl
   have f0:=(H.out.1).free
   have c1_0:=(H.out.2.1).cell (c:=0) rfl
   have c1_1:=(H.out.2.1).cell (c:=1) rfl
   have c1_2:=(H.out.2.1).cell (c:=2) rfl
   have f1:=(H.out.2.1).free
   have c2_0:=(H.out.2.2.1).cell (c:=0) rfl
   have c2_1:=(H.out.2.2.1).cell (c:=1) rfl
   have c2_2:=(H.out.2.2.1).cell (c:=2) rfl
   have f2:=(H.out.2.2.1).free
   obtain ⟨q1,c1,r1,hq1,hc1⟩:=su0 l l'
   obtain ⟨q2,c2,r2,hq2,hc2⟩:=su1 h h' c1 hc1
   go_upto_region 7 with fail
   refine wp_region_lit ?_
   iterate 4 refine lsv (w':=v2) ?_
   refine lsv (v:=.tuple #[.int .u64 (q1:Int),.int .u64 (c1:Int)]) (w':=v2) ?_
   iterate 5 refine lsv (w':=v2) ?_
   refine wpList_nil ?_
   go_upto_region 8 with fail
   refine wp_region_lit ?_
   iterate 5 refine lsv (w':=v2) ?_
   refine lsv (v:=.tuple #[.int .u64 (q2:Int),.int .u64 (c2:Int)]) (w':=v2) ?_
   iterate 5 refine lsv (w':=v2) ?_
   refine wpList_nil ?_
   go_upto_region 9 with fail
   refine wp_region_lit ?_
   iterate 4 refine lsv (w':=v2) ?_
   refine lsv (v:=.agg #[.bool s,.int .u64 (q2:Int),.int .u64 (q1:Int)]) (w':=v2) ?_
   clear c0_0 c0_1 c0_2 f0 c1_0 c1_1 c1_2 f1 c2_0 c2_1 c2_2 f2
   refine lss (cs':=[.bool s,.int .u64 (q2:Int),.int .u64 (q1:Int)]) (H.out.2.2.1) rfl (by simp [Value.oneCell']) (by kernel_rfl) ?_
   have H2:=lh (show Bk (v2.setRow (g+2) ([.bool s,.int .u64 (q2:Int),.int .u64 (q1:Int)]:List Value).toArray) (g) 179 [.bool s,.int .u64 (h:Int),.int .u64 (l:Int)]∧Bk (v2.setRow (g+2) ([.bool s,.int .u64 (q2:Int),.int .u64 (q1:Int)]:List Value).toArray) (g+1) 179 [.bool (!s),.int .u64 (h':Int),.int .u64 (l':Int)]∧Bk (v2.setRow (g+2) ([.bool s,.int .u64 (q2:Int),.int .u64 (q1:Int)]:List Value).toArray) (g+2) 179 [.bool s,.int .u64 (q2:Int),.int .u64 (q1:Int)]∧Below g w (v2.setRow (g+2) ([.bool s,.int .u64 (q2:Int),.int .u64 (q1:Int)]:List Value).toArray) from ⟨(H.out.1).rowOth (by omega) _,(H.out.2.1).rowOth (by omega) _,(H.out.2.2.1).rowSet [.bool s,.int .u64 (q2:Int),.int .u64 (q1:Int)],below_row (H.out.2.2.2) (by omega) _⟩)
   obtain ⟨w2,hW⟩:∃V,v2.setRow (g+2) ([.bool s,.int .u64 (q2:Int),.int .u64 (q1:Int)]:List Value).toArray=V:=⟨_,rfl⟩
   rw [hW] at H2
   first | rw [hW] | (simp only [hW])
   clear hW H
   have H:=H2
   clear H2
   refine wpList_nil ?_
   go_wp2
   (try simp only [Exit.inBlock,Exit.then])
   refine bodyPost_ret (results_cell_row Tryz.results152 _ _ (g+1+1) 179 _ (0,0) _ rfl H.out.2.2.1 Tryz.underlying179 rfl (by kernel_rfl)) rfl ?_
   exact ⟨_,rfl,⟨_,_,_,rfl,by omega,by omega⟩,HG.out▸H.out.2.2.2⟩
  ·go_upto_region 6 with fail
   refine wp_region_lit ?_
   refine lsl (H.out.2.1) ?_
   refine lsl (H.out.1) ?_
   refine lss (cs':=[.bool (!s),.int .u64 (h':Int),.int .u64 (l':Int)]) (H.out.1) rfl (by simp [Value.oneCell']) (by kernel_rfl) ?_
   have H2:=lh (show Bk (v2.setRow (g) ([.bool (!s),.int .u64 (h':Int),.int .u64 (l':Int)]:List Value).toArray) (g) 179 [.bool (!s),.int .u64 (h':Int),.int .u64 (l':Int)]∧Bk (v2.setRow (g) ([.bool (!s),.int .u64 (h':Int),.int .u64 (l':Int)]:List Value).toArray) (g+1) 179 [.bool (!s),.int .u64 (h':Int),.int .u64 (l':Int)]∧Bk (v2.setRow (g) ([.bool (!s),.int .u64 (h':Int),.int .u64 (l':Int)]:List Value).toArray) (g+2) 179 [.bool false,.int .u64 (0:Int),.int .u64 (0:Int)]∧Below g w (v2.setRow (g) ([.bool (!s),.int .u64 (h':Int),.int .u64 (l':Int)]:List Value).toArray) from ⟨(H.out.1).rowSet [.bool (!s),.int .u64 (h':Int),.int .u64 (l':Int)],(H.out.2.1).rowOth (by omega) _,(H.out.2.2.1).rowOth (by omega) _,below_row (H.out.2.2.2) (by omega) _⟩)
   obtain ⟨w2,hW⟩:∃V,v2.setRow (g) ([.bool (!s),.int .u64 (h':Int),.int .u64 (l':Int)]:List Value).toArray=V:=⟨_,rfl⟩
   rw [hW] at H2
   first | rw [hW] | (simp only [hW])
   clear hW H
   have H:=H2
   clear H2
   refine lss (cs':=[.bool s,.int .u64 (h:Int),.int .u64 (l:Int)]) (H.out.2.1) rfl (by simp [Value.oneCell']) (by kernel_rfl) ?_
   have H2:=lh (show Bk (w2.setRow (g+1) ([.bool s,.int .u64 (h:Int),.int .u64 (l:Int)]:List Value).toArray) (g) 179 [.bool (!s),.int .u64 (h':Int),.int .u64 (l':Int)]∧Bk (w2.setRow (g+1) ([.bool s,.int .u64 (h:Int),.int .u64 (l:Int)]:List Value).toArray) (g+1) 179 [.bool s,.int .u64 (h:Int),.int .u64 (l:Int)]∧Bk (w2.setRow (g+1) ([.bool s,.int .u64 (h:Int),.int .u64 (l:Int)]:List Value).toArray) (g+2) 179 [.bool false,.int .u64 (0:Int),.int .u64 (0:Int)]∧Below g w (w2.setRow (g+1) ([.bool s,.int .u64 (h:Int),.int .u64 (l:Int)]:List Value).toArray) from ⟨(H.out.1).rowOth (by omega) _,(H.out.2.1).rowSet [.bool s,.int .u64 (h:Int),.int .u64 (l:Int)],(H.out.2.2.1).rowOth (by omega) _,below_row (H.out.2.2.2) (by omega) _⟩)
   obtain ⟨w3,hW⟩:∃V,w2.setRow (g+1) ([.bool s,.int .u64 (h:Int),.int .u64 (l:Int)]:List Value).toArray=V:=⟨_,rfl⟩
   rw [hW] at H2
   first | rw [hW] | (simp only [hW])
   clear hW H
   have H:=H2
   clear H2
   refine wpList_nil ?_
   have c0_0:=(H.out.1).cell (c:=0) rfl
   have c0_1:=(H.out.1).cell (c:=1) rfl
   have c0_2:=(H.out.1).cell (c:=2) rfl
   have f0:=(H.out.1).free
   have c1_0:=(H.out.2.1).cell (c:=0) rfl
   have c1_1:=(H.out.2.1).cell (c:=1) rfl
   have c1_2:=(H.out.2.1).cell (c:=2) rfl
   have f1:=(H.out.2.1).free
   have c2_0:=(H.out.2.2.1).cell (c:=0) rfl
   have c2_1:=(H.out.2.2.1).cell (c:=1) rfl
   have c2_2:=(H.out.2.2.1).cell (c:=2) rfl
   have f2:=(H.out.2.2.1).free
   obtain ⟨q1,c1,r1,hq1,hc1⟩:=su0 l' l
   obtain ⟨q2,c2,r2,hq2,hc2⟩:=su1 h' h c1 hc1
   go_upto_region 7 with fail
   refine wp_region_lit ?_
   iterate 4 refine lsv (w':=w3) ?_
   refine lsv (v:=.tuple #[.int .u64 (q1:Int),.int .u64 (c1:Int)]) (w':=w3) ?_
   iterate 5 refine lsv (w':=w3) ?_
   refine wpList_nil ?_
   go_upto_region 8 with fail
   refine wp_region_lit ?_
   iterate 5 refine lsv (w':=w3) ?_
   refine lsv (v:=.tuple #[.int .u64 (q2:Int),.int .u64 (c2:Int)]) (w':=w3) ?_
   iterate 5 refine lsv (w':=w3) ?_
   refine wpList_nil ?_
   go_upto_region 9 with fail
   refine wp_region_lit ?_
   iterate 4 refine lsv (w':=w3) ?_
   refine lsv (v:=.agg #[.bool (!s),.int .u64 (q2:Int),.int .u64 (q1:Int)]) (w':=w3) ?_
   clear c0_0 c0_1 c0_2 f0 c1_0 c1_1 c1_2 f1 c2_0 c2_1 c2_2 f2
   refine lss (cs':=[.bool (!s),.int .u64 (q2:Int),.int .u64 (q1:Int)]) (H.out.2.2.1) rfl (by simp [Value.oneCell']) (by kernel_rfl) ?_
   have H2:=lh (show Bk (w3.setRow (g+2) ([.bool (!s),.int .u64 (q2:Int),.int .u64 (q1:Int)]:List Value).toArray) (g) 179 [.bool (!s),.int .u64 (h':Int),.int .u64 (l':Int)]∧Bk (w3.setRow (g+2) ([.bool (!s),.int .u64 (q2:Int),.int .u64 (q1:Int)]:List Value).toArray) (g+1) 179 [.bool s,.int .u64 (h:Int),.int .u64 (l:Int)]∧Bk (w3.setRow (g+2) ([.bool (!s),.int .u64 (q2:Int),.int .u64 (q1:Int)]:List Value).toArray) (g+2) 179 [.bool (!s),.int .u64 (q2:Int),.int .u64 (q1:Int)]∧Below g w (w3.setRow (g+2) ([.bool (!s),.int .u64 (q2:Int),.int .u64 (q1:Int)]:List Value).toArray) from ⟨(H.out.1).rowOth (by omega) _,(H.out.2.1).rowOth (by omega) _,(H.out.2.2.1).rowSet [.bool (!s),.int .u64 (q2:Int),.int .u64 (q1:Int)],below_row (H.out.2.2.2) (by omega) _⟩)
   obtain ⟨w4,hW⟩:∃V,w3.setRow (g+2) ([.bool (!s),.int .u64 (q2:Int),.int .u64 (q1:Int)]:List Value).toArray=V:=⟨_,rfl⟩
   rw [hW] at H2
   first | rw [hW] | (simp only [hW])
   clear hW H
   have H:=H2
   clear H2
   refine wpList_nil ?_
   go_wp2
   (try simp only [Exit.inBlock,Exit.then])
   refine bodyPost_ret (results_cell_row Tryz.results152 _ _ (g+1+1) 179 _ (0,0) _ rfl H.out.2.2.1 Tryz.underlying179 rfl (by kernel_rfl)) rfl ?_
   exact ⟨_,rfl,⟨_,_,_,rfl,by omega,by omega⟩,HG.out▸H.out.2.2.2⟩
theorem dcatch_idle (r p nr np en:Value) (w:World):CallsD Tryz.prog 68 #[r,p,nr,np,en] .returning w fun e u' w'=>e=.returned (.tuple #[])∧u'=.returning∧w'=w:=by
 refine callsD_of_wpS Tryz.func68 rfl fun c₀ cs hu=>?_
 simp only [Tryz.ntmps68,List.size_toArray,List.length_cons,List.length_nil,Nat.reduceAdd,Nat.reduceSub,Array.replicate_succ,Array.replicate_zero,List.push_toArray,List.append_toArray,List.nil_append,List.cons_append]
 apply wpS_seq
 apply wpS_region
 show wpOpsS _ _ _ [0] _ _ _
 refine opsS_idle (w':=w) rfl (by kernel_rfl) (by kernel_rfl) (by simp [recoverD,hu]) ?_
 simp only [Act.put,List.setIfInBounds_toArray,List.set_cons_zero,List.set_cons_succ]
 unfold wpOpsS
 simp only [Exit.thenS]
 refine wpS_of_wp ?_
 go_wp2
 exact ⟨rfl,.returning,by cases c₀;simp_all,.tuple #[],by simp [results,Tryz.results68],rfl,rfl,rfl⟩
theorem exqd {R:Ending→World→Prop} {c:List PanicEntry} {a:Act} {d:Nat} {v:Value} {w:World} (h:bodyPostD Tryz.prog Tryz.f53 R (.panic c) (a.put (some d) v) w) (hd:(d != 8 && d != 9 && d != 10)=true:=by rfl):bodyPostD Tryz.prog Tryz.f53 R (.panic c) a w:=by
 refine leaves_congr (fun w=>?_) _ _ _ h
 simp only [Bool.and_eq_true,bne_iff_ne,ne_eq] at hd
 simp [results,Act.put,Tryz.results53,Array.getElem?_setIfInBounds,hd]
section
variable {w0 w w':World} {g:Nat} {F:Foot} {ix rs:List Int} {p:Ps} {bs bs' ks:List Int} {op fm r1 r2 x2 b1 d1 b2 d2 l1 l2 i2:Int}
theorem DR.rb (h:DR w0 w g F ix rs p bs ks):DR w w g F ix rs p bs ks:={ h with b:=Ch.refl _ _ }
theorem DR.row (h:DR w0 w g F ix rs p bs ks) {k:Nat} (h1:k≠g) (h2:k≠F.g) (h3:k≠F.gb) (h4:k≠F.gk) (cs:Array Value):DR (w.setRow k cs) (w.setRow k cs) g F ix rs p bs ks:={ h with m:=h.m.rowOth h1.symm _,st:=h.st.rowOth (by omega) (by omega) (by omega) _,b:=Ch.refl _ _ }
theorem DR.oth (h:DR w0 w g F ix rs p bs ks) {k:Nat} (h1:k≠g) (h2:k≠F.g) (h3:k≠F.gb) (h4:k≠F.gk) (v:Value):DR (w.setCell ⟨k,0,none⟩ v) (w.setCell ⟨k,0,none⟩ v) g F ix rs p bs ks:=by
 have e:=fun j hj=>Below.heap_setCell w ⟨k,0,none⟩ v j hj
 exact { h with m:=h.m.kept (e _ h1.symm),st:=h.st.keep (e _ h2.symm) (e _ h3.symm) (e _ h4.symm),b:=Ch.refl _ _ }
structure YD (w0 w:World) (F:Foot) (bs ks:List Int) (z r zp a b:List Value) (v:Int) (g:Nat) (ix rs:List Int) (p:Ps):Prop where
 x:XG w0 w F bs ks z r zp a b v
 d:DR w w g F ix rs p bs ks
 n:w0.heap.size+1+1+1+1+1<g
variable {z r zp a b:List Value} {v:Int}
theorem YD.drew (h:YD w0 w F bs ks z r zp a b v g ix rs p):YD w0 w.drew F bs ks z r zp a b v g ix rs p:=⟨h.x.drew,h.d.drew.rb,h.n⟩
theorem YD.seta (h:YD w0 w F bs ks z r zp a b v g ix rs p) (a':List Value):YD w0 (w.setRow (w0.heap.size+1+1+1) a'.toArray) F bs ks z r zp a' b v g ix rs p:=have hn:=h.n;have hg:=h.x.gs;⟨h.x.seta a',h.d.row (by omega) (by omega) (by omega) (by omega) _,h.n⟩
theorem YD.setb (h:YD w0 w F bs ks z r zp a b v g ix rs p) (b':List Value):YD w0 (w.setRow (w0.heap.size+1+1+1+1) b'.toArray) F bs ks z r zp a b' v g ix rs p:=have hn:=h.n;have hg:=h.x.gs;⟨h.x.setb b',h.d.row (by omega) (by omega) (by omega) (by omega) _,h.n⟩
theorem YD.setc (h:YD w0 w F bs ks z r zp a b v g ix rs p) (v':Int):YD w0 (w.setCell ⟨w0.heap.size+1+1+1+1+1,0,none⟩ (.int .i64 v')) F bs ks z r zp a b v' g ix rs p:=have hn:=h.n;have hg:=h.x.gs;⟨h.x.setc v',h.d.oth (by omega) (by omega) (by omega) (by omega) _,h.n⟩
end
theorem getD_app (ns:List Int) (d:Int) (k:Nat):(ns++[d]).getD k 0=if k=ns.length then d else ns.getD k 0:=by
 simp only [List.getD_eq_getElem?_getD]
 by_cases h:k<ns.length
 ·rw [List.getElem?_append_left h,if_neg (by omega)]
 ·rw [List.getElem?_append_right (by omega)]
  by_cases h2:k=ns.length
  ·subst h2;simp
  ·rw [if_neg h2,List.getElem?_eq_none (by simp;omega),List.getElem?_eq_none (by omega)]
theorem getD_out (ns:List Int) (k:Nat) (h:ns.length≤k):ns.getD k 0=0:=by
 rw [List.getD_eq_getElem?_getD,List.getElem?_eq_none h];rfl
theorem list_getD_ext {a b:List Int} (h:a.length=b.length) (e:∀i,i<a.length→a.getD i 0=b.getD i 0):a=b:=by
 apply List.ext_getElem h
 intro i h1 h2
 have:=e i h1
 simpa [List.getD_eq_getElem?_getD,List.getElem?_eq_getElem h1,List.getElem?_eq_getElem h2] using this
theorem getD_set_ (a:List Int) (i k:Nat) (v:Int) (h:i<a.length):(a.set i v).getD k 0=if k=i then v else a.getD k 0:=by
 simp only [List.getD_eq_getElem?_getD,List.getElem?_set]
 by_cases hk:i=k
 ·subst hk;simp [h]
 ·rw [if_neg hk,if_neg (Ne.symm hk)]
structure WR (w0 w:World) (o so sa:Nat) (at_:Int) (zs:List Int):Prop where
 ob:Bk w o 5 (zs.map (Value.int .u8))
 sb:Bk w so 22 [.slice (some ⟨o,0,none⟩) 8 8]
 ab:Bk w sa 3 [.int .i64 at_]
 b:Below w0.heap.size w0 w
 n:w0.heap.size≤o∧w0.heap.size≤sa∧o≠so∧o≠sa∧so≠sa
 l:zs.length=8
section
variable {w0 w w':World} {o so sa:Nat} {at_:Int} {zs:List Int}
theorem WR.keep (h:WR w0 w o so sa at_ zs) (hb:Below w.heap.size w w'):WR w0 w' o so sa at_ zs:=⟨h.ob.keep hb,h.sb.keep hb,h.ab.keep hb,h.b.trans (hb.mono h.b.size),h.n,h.l⟩
theorem WR.put (h:WR w0 w o so sa at_ zs) (i:Nat) (z:Int):WR w0 (w.setCell ⟨o,i,none⟩ (.int .u8 z)) o so sa at_ (zs.set i z):=by
 have e:=fun k hk=>Below.heap_setCell w ⟨o,i,none⟩ (.int .u8 z) k hk
 have h1:=h.ob.set_ i (.int .u8 z)
 rw [← List.map_set] at h1
 exact ⟨h1,h.sb.kept (e _ h.n.2.2.1.symm),h.ab.kept (e _ h.n.2.2.2.1.symm),below_ch h.b ((Ch.refl w [o]).setCell (p:=⟨o,i,none⟩) (by simp) _) (by simpa using h.n.1) h.b.size,h.n,by simpa using h.l⟩
theorem WR.step (h:WR w0 w o so sa at_ zs) (z:Int):WR w0 (w.setCell ⟨sa,0,none⟩ (.int .i64 z)) o so sa z zs:=by
 have e:=fun k hk=>Below.heap_setCell w ⟨sa,0,none⟩ (.int .i64 z) k hk
 exact ⟨h.ob.kept (e _ h.n.2.2.2.1),h.sb.kept (e _ h.n.2.2.2.2),h.ab.set_ 0 _,below_ch h.b ((Ch.refl w [sa]).setCell (p:=⟨sa,0,none⟩) (by simp) _) (by simpa using h.n.2.1) h.b.size,h.n,h.l⟩
theorem WR.get (h:WR w0 w o so sa at_ zs) {i:Nat} (hi:i<8):w.cell? ⟨o,i,none⟩=some (.int .u8 (zs.getD i 0)):=by
 refine h.ob.cell ?_
 have hl:=h.l
 rw [List.getElem?_map,List.getElem?_eq_getElem (by omega),List.getD_eq_getElem?_getD,List.getElem?_eq_getElem (by omega)]
 rfl
end
section
variable {w0 w w':World}
theorem sgn_c (neg:Bool) (w:World):Calls Tryz.prog 187 #[.bool neg] w fun e w'=>e=.returned (.int .u8 (if neg then 13 else 12))∧w=w':=by
 cases neg
 ·go_enter Tryz.func187,Tryz.ntmps187
  go_wp2
  go_ret
  exact ⟨rfl,rfl⟩
 ·go_enter Tryz.func187,Tryz.ntmps187
  go_wp2
  go_ret
  exact ⟨rfl,rfl⟩
end
theorem kd_26 (w:World):Calls Tryz.prog 52 #[.int .i64 26] w fun e w'=>e=.returned (.bool false)∧w=w':=by
 go_enter Tryz.func52,Tryz.ntmps52
 go_wp2
 go_ret
 exact ⟨rfl,rfl⟩
theorem alP_0 (k:Int):alP 0 k=true:=by simp [alP]
theorem alF_0 (k:Int):alF 0 k=true:=by simp [alF]
theorem scode_0 {al:Int→Bool} (hal:∀k,al k=true) (N:Nat) (ks:List Int) (a n:Nat) (h:a+n≤N):sCode al N ks (a:Int) (n:Int)=0:=by
 unfold sCode
 rw [if_pos (by unfold sIn;exact decide_eq_true (by omega)),if_pos (by unfold okB;simp [hal])]
theorem sput_get (bs ks ys:List Int) (a:Nat) (h:a+ys.length≤bs.length) (i:Nat):(sPut (alP 0) bs ks (a:Int) ys).getD i 0=if a≤i∧i<a+ys.length then ys.getD (i - a) 0 else bs.getD i 0:=by
 unfold sPut
 rw [if_pos (scode_0 alP_0 _ _ _ _ (by omega))]
 unfold splice
 simp only [List.getD_eq_getElem?_getD,Int.toNat_natCast]
 have e1:(bs.take a).length=a:=by simp;omega
 by_cases h1:i<a
 ·rw [if_neg (by omega),List.getElem?_append_left (by omega),List.getElem?_take,if_pos h1]
 ·by_cases h2:i<a+ys.length
  ·rw [if_pos (by omega),List.getElem?_append_right (by omega),e1,List.getElem?_append_left (by omega)]
  ·rw [if_neg (by omega),List.getElem?_append_right (by omega),e1,List.getElem?_append_right (by omega),List.getElem?_drop]
   congr 2
   omega
theorem sput_len (bs ks ys:List Int) (a:Nat) (h:a+ys.length≤bs.length):(sPut (alP 0) bs ks (a:Int) ys).length=bs.length:=by
 unfold sPut
 rw [if_pos (scode_0 alP_0 _ _ _ _ (by omega))]
 unfold splice;simp;omega
theorem sget_eq (bs zs:List Int) (a n:Nat) (hn:zs.length=n) (h:a+n≤bs.length) (hz:∀k,k<n→bs.getD (a+k) 0=zs.getD k 0):sGet bs (a:Int) (n:Int)=zs:=by
 unfold sGet
 rw [if_pos (by unfold sIn;exact decide_eq_true (by omega)),Int.toNat_natCast,Int.toNat_natCast]
 refine list_getD_ext (by simp;omega) fun k hk=>?_
 have hk':k<n:=by simp at hk;omega
 rw [← hz k hk']
 simp only [List.getD_eq_getElem?_getD,List.getElem?_take,if_pos hk',List.getElem?_drop]
section
variable {w0 w w':World} {g:Nat} {F:Foot} {I:In} {os rs:List Int} {p q:Ps} {ov:Bool} {bs ks:List Int}
theorem nxp {P:Program} {f:FuncId} {args:Array Value} {o:Out} {Q:Ending→World→Prop} (hc:Calls P f args w (Gp w0 g F I os p bs ks o)) (h:∀w',Hid (Gp w0 g F I os p bs ks o (.returned (.tuple #[])) w')→Q (.returned (.tuple #[])) w') (h':∀w',Hid (Gp w0 g F I os p bs ks o (.panicked [{ v:=.iface 124 (.int .i64 o.c),recovered:=false }]) w')→Q (.panicked [{ v:=.iface 124 (.int .i64 o.c),recovered:=false }]) w'):Calls P f args w Q:=
 hc.mono fun e w' he=>by
  by_cases h0:o.c=0
  ·obtain ⟨rfl,-⟩:=he.1 h0
   exact h w' (lh he)
  ·obtain ⟨rfl,-⟩:=he.2 h0
   exact h' w' (lh he)
theorem psgn_c (h:PS w0 w g F I os rs p q ov bs ks) (v:Int) (V0:0≤v∧v≤4294967295) (ho:I.op=16∨I.op=17∨I.op=18∨I.op=19):Calls Tryz.prog 134 #[.pointer (some ⟨g,0,none⟩),.int .u32 v] w fun e w'=>e=.returned (.tuple #[])∧PS w0 w' g F I os (rs.set I.n (sgnV I.op v)) p { q with cc:=sgnQ I.op v } (sgnO I.op v) bs ks:=by
 have TC:=lh (test_c v V0.1 V0.2)
 obtain ⟨T,hT⟩:∃T,sgn (sg v)=T:=⟨_,rfl⟩
 have hQ:sgnQ I.op v=if sgnC I.op v=true then rcc (-sg v) else T:=by rw [← hT];rfl
 have hC:(I.op=16∧sgnC I.op v=(T == 1))∨(I.op=17∧sgnC I.op v=(T == 2))∨(I.op=18∧sgnC I.op v=false)∨(I.op=19∧sgnC I.op v=true):=by
  rw [← hT]
  unfold sgnC
  rcases ho with ho | ho | ho | ho
  ·exact .inl ⟨ho,by rw [ho];by_cases h:sgn (sg v)=1<;>simp [h]⟩
  ·exact .inr (.inl ⟨ho,by rw [ho];by_cases h:sgn (sg v)=2<;>simp [h]⟩)
  ·exact .inr (.inr (.inl ⟨ho,by rw [ho];simp⟩))
  ·exact .inr (.inr (.inr ⟨ho,by rw [ho];simp⟩))
 rw [hT] at TC
 unfold sgnV sgnO
 rw [hQ]
 clear hT hQ ho
 cases h1:(T == 1)<;>cases h2:(T == 2)<;>rcases hC with ⟨ho,hc⟩ | ⟨ho,hc⟩ | ⟨ho,hc⟩ | ⟨ho,hc⟩
 all_goals
  rw [hc]
  (first | rw [h1] | skip)
  (first | rw [h2] | skip)
  have HO:=lh ho
  clear ho hc
  refine h.opn ?_
  clear h
  intro R0
  intros
  go_enter Tryz.func134,Tryz.ntmps134
  go_wp2_with (first
   | (go_at_call 164;refine nz (TC.out _) ?_)
   | (go_at_call 169;refine nz (complement_c v V0.1 V0.2 _) ?_)
   | (go_at_call 106;refine nx (pset_c R0.out _ _ _) ?_;intro w1 R1))
  first | go_end0 | refine bodyPost_ret (results_none rfl _ _ _) rfl ?_
  exact ⟨rfl,R1.out⟩
theorem pprod_c (h:PS w0 w g F I os os p p false bs ks) (ho:I.op=28∨I.op=29∨I.op=92∨I.op=93):Calls Tryz.prog 132 #[.pointer (some ⟨g,0,none⟩)] w (Gp w0 g F I os p bs ks (arO ⟨os,p.key,p.il,p.cc,p.pg,p.ad,bs,ks⟩ I.op I.n (opC I.op I.fm bs ks p.key (I.a os)) (opV I.op I.fm os I.k bs (I.a os)))):=by
 have nn:=h.ix.n
 have u0:=getD_in h.ro I.n
 have b0:=getD_in h.ro (I.n+1)
 have V0:=opV_in (op:=I.op) (fm:=I.fm) (a:=I.a os) (k:=I.k) h.ro h.st.rb
 have PO:=lh (fun W (hW:PS w0 W g F I os os p p false bs ks)=>popd_c hW)
 obtain ⟨u,hu⟩:∃u,os.getD I.n 0=u:=⟨_,rfl⟩
 obtain ⟨V,hV⟩:∃V,opV I.op I.fm os I.k bs (I.a os)=V:=⟨_,rfl⟩
 obtain ⟨C,hC⟩:∃C,opC I.op I.fm bs ks p.key (I.a os)=C:=⟨_,rfl⟩
 rw [hu] at u0
 rw [hV] at V0
 rw [hV,hC] at PO ⊢
 clear hV hC
 obtain ⟨m,hm⟩:∃m,I.n+1=m:=⟨_,rfl⟩
 rw [hm] at b0
 obtain ⟨b,hb⟩:∃b,os.getD m 0=b:=⟨_,rfl⟩
 rw [hb] at b0
 have HU:=lh hu
 have HB:=lh hb
 have HM:=lh hm
 have w1:IntKind.i64.wrap ((I.n:Int)+1)=(m:Int):=by rw [wrap_i64_id (by omega) (by omega)];omega
 have w2:IntKind.i64.wrap ((I.n:Int).tmod 2)=(I.n:Int) % 2:=by rw [Int.tmod_eq_emod_of_nonneg (by omega)];exact wrap_i64_id (by omega) (by omega)
 have e28:bits .and .i64 28 15=12:=by decide +kernel
 have e29:bits .and .i64 29 15=13:=by decide +kernel
 have e92:bits .and .i64 92 15=12:=by decide +kernel
 have e93:bits .and .i64 93 15=13:=by decide +kernel
 by_cases hev:I.n % 2=1
 ·have e0:((I.n:Int) % 2 == 0)=false:=by simp;omega
  have HE:=lh hev
  have HA:=lh (show arO ⟨os,p.key,p.il,p.cc,p.pg,p.ad,bs,ks⟩ I.op I.n C V=Pre.no ⟨os,p.key,p.il,p.cc,p.pg,p.ad,bs,ks⟩ 6 from by unfold arO;rw [if_pos ho,if_pos hev])
  clear ho hev hu hb hm
  refine h.opn ?_
  clear h
  intro R0
  intros
  go_enter Tryz.func132,Tryz.ntmps132
  go_wp2_with (go_at_call 108;refine nxd (fun h=>by cases h) (fun _=>?_))
  exact ⟨rfl,gp_no R0.out (congrArg Out.c HA.out) (by show (6:Int)≠0;decide)⟩
 have e0:((I.n:Int) % 2 == 0)=true:=by simp;omega
 have m0:m<16:=by omega
 have m1:(m:Int)<16:=by omega
 have KB:Hid (∀W rs q ov bs ks,PS w0 W g F I os rs p q ov bs ks→W.cell? ⟨g,12+m,none⟩=some (.int .u32 b)):=lh fun W rs q ov bs ks h=>hb▸h.m.co m0
 have HA:Hid (C≠0→arO ⟨os,p.key,p.il,p.cc,p.pg,p.ad,bs,ks⟩ I.op I.n C V=Pre.no ⟨os,p.key,p.il,p.cc,p.pg,p.ad,bs,ks⟩ C):=lh fun hc=>by unfold arO;rw [if_pos ho,if_neg hev,if_pos hc]
 have H28:Hid (C=0→(I.op=28∨I.op=92)→arO ⟨os,p.key,p.il,p.cc,p.pg,p.ad,bs,ks⟩ I.op I.n C V=Pre.rg ⟨os,p.key,p.il,p.cc,p.pg,p.ad,bs,ks⟩ ((os.set I.n (lo32 (sg b*sg V / 4294967296))).set m (lo32 (sg b*sg V)))):=lh fun hc h2=>by unfold arO;rw [if_pos ho,if_neg hev,if_neg (fun h=>h hc),if_pos h2,← hb,← hm]
 have H29:Hid (C=0→(I.op=29∨I.op=93)→arO ⟨os,p.key,p.il,p.cc,p.pg,p.ad,bs,ks⟩ I.op I.n C V=if dok (sg64 (dbl u b)) (sg V)=true then Pre.rg ⟨os,p.key,p.il,p.cc,p.pg,p.ad,bs,ks⟩ ((os.set I.n (drem (sg64 (dbl u b)) (sg V))).set m (dquo (sg64 (dbl u b)) (sg V))) else Pre.no ⟨os,p.key,p.il,p.cc,p.pg,p.ad,bs,ks⟩ 9):=lh fun hc h2=>by
  unfold arO
  rw [if_pos ho,if_neg hev,if_neg (show ¬(C≠0) from fun h=>h hc),if_neg (show ¬(I.op=28∨I.op=92) by omega),← hb,← hu,← hm]
 have DC:=lh (div_c u b V u0.1 u0.2 b0.1 b0.2 V0.1 V0.2)
 obtain ⟨dk,hdk⟩:∃d,dok (sg64 (dbl u b)) (sg V)=d:=⟨_,rfl⟩
 rw [hdk] at DC H29
 have HD:=lh hdk
 clear hev hu hb hm hdk
 rcases ho with ho | ho | ho | ho
 all_goals
  rw [ho] at HA H28 H29 ⊢
  have HO:=lh ho
  have R0:=lh h
  clear h ho
  refine R0.out.opn ?_
  intros
  go_enter Tryz.func132,Tryz.ntmps132
  go_upto_region 3 with (first
   | (go_at_call 108;refine nxd (fun _=>?_) (fun h=>by cases h))
   | (go_at_call 133;refine nxk (PO.out _ R0.out) (fun w1 Z1 R1=>?_) (fun w1 Z1 R1=>?_)))
 any_goals (refine ⟨rfl,gp_no R1.out ?_ Z1.out⟩;exact congrArg Out.c (HA.out Z1.out))
 all_goals
  refine R1.out.opn ?_
  intros
  first
   | (go_upto_region 4 with fail
      refine wp_region_held_drew (S:=Sy w0 g F I os p) (by kernel_rfl) R1.out.drew.x (fun hHeld=>?_)
      replace R1:=lh R1.out.drew
      repeat refine tkp ?_
      refine tki 11 (y:=(by intro w hSw;obtain ⟨_,_,_,_,_,hx⟩:=hSw;have hx:=KB.out _ _ _ _ _ _ hx;go_simp;(try with_reducible rfl))) ?_
      repeat refine tkp ?_
      refine tkz (mul_c b V b0.1 b0.2 V0.1 V0.2 _) ?_
      repeat refine tkp ?_
      refine tpr R1.out nn ?_
      clear R1 hHeld
      intro w2 R1 hHeld
      repeat refine tkp ?_
      refine tpr R1.out m0 ?_
      clear R1 hHeld
      intro w2 R1 hHeld
      refine wpAnyH_done (by with_unfolding_all rfl) ?_ _
      go_wp2
      go_end0
      exact gp_ok R1.out (by rw [H28.out Z1.out (by decide)];rfl))
   | (go_upto_region 5 with fail
      refine wp_region_held_drew (S:=Sy w0 g F I os p) (by kernel_rfl) R1.out.drew.x (fun hHeld=>?_)
      replace R1:=lh R1.out.drew
      repeat refine tkp ?_
      refine tki 12 (y:=(by intro w hSw;obtain ⟨_,_,_,_,_,hx⟩:=hSw;have hx:=KB.out _ _ _ _ _ _ hx;go_simp;(try with_reducible rfl))) ?_
      repeat refine tkp ?_
      refine tkz (DC.out _) ?_
      repeat refine tkp ?_
      refine wpAnyH_done (by with_unfolding_all rfl) ?_ _
      clear hHeld
      cases dk
      ·go_wp2_with (go_at_call 108;refine nxd (fun h=>by cases h) (fun _=>?_))
       refine ⟨rfl,gp_no R1.out ?_ (by decide)⟩
       exact congrArg Out.c (H29.out Z1.out (by decide))
      ·go_upto_region 7 with (go_at_call 108;refine nxd (fun _=>?_) (fun h=>by cases h))
       refine wp_region_held_drew (S:=Sy w0 g F I os p) (by kernel_rfl) R1.out.drew.x (fun hHeld=>?_)
       replace R1:=lh R1.out.drew
       repeat refine tkp ?_
       refine tpr R1.out nn ?_
       clear R1 hHeld
       intro w2 R1 hHeld
       repeat refine tkp ?_
       refine tpr R1.out m0 ?_
       clear R1 hHeld
       intro w2 R1 hHeld
       refine wpAnyH_done (by with_unfolding_all rfl) ?_ _
       go_wp2
       go_end0
       exact gp_ok R1.out ((H29.out Z1.out (by decide)).trans rfl))
end
section
variable {w0 w w':World} {g:Nat} {F:Foot} {I:In} {os rs:List Int} {p q:Ps} {ov:Bool} {bs ks:List Int}
structure YG (w0 w:World) (F:Foot) (bs ks:List Int) (z r p a b:List Value) (v:Int) (g:Nat) (is os rs:List Int) (ps:List Value) (ov:Bool):Prop where
 x:XG w0 w F bs ks z r p a b v
 m:Mc w g is os rs ps (.pointer (some ⟨F.g,0,none⟩)) ov
 n:w0.heap.size+1+1+1+1+1<g
section
variable {z r zp a b:List Value} {v:Int} {is:List Int} {ps:List Value} {s:Value}
theorem YG.drew (h:YG w0 w F bs ks z r zp a b v g is os rs ps ov):YG w0 w.drew F bs ks z r zp a b v g is os rs ps ov:=⟨h.x.drew,h.m.drewN 1,h.n⟩
theorem YG.seta (h:YG w0 w F bs ks z r zp a b v g is os rs ps ov) (a':List Value):YG w0 (w.setRow (w0.heap.size+1+1+1) a'.toArray) F bs ks z r zp a' b v g is os rs ps ov:=⟨h.x.seta a',h.m.kept (setRow_other w _ _ _ (by have:=h.n;omega)),h.n⟩
theorem YG.setb (h:YG w0 w F bs ks z r zp a b v g is os rs ps ov) (b':List Value):YG w0 (w.setRow (w0.heap.size+1+1+1+1) b'.toArray) F bs ks z r zp a b' v g is os rs ps ov:=⟨h.x.setb b',h.m.kept (setRow_other w _ _ _ (by have:=h.n;omega)),h.n⟩
theorem YG.setc (h:YG w0 w F bs ks z r zp a b v g is os rs ps ov) (v':Int):YG w0 (w.setCell ⟨w0.heap.size+1+1+1+1+1,0,none⟩ (.int .i64 v')) F bs ks z r zp a b v' g is os rs ps ov:=⟨h.x.setc v',h.m.other _ (by have:=h.n;show w0.heap.size+1+1+1+1+1≠g;omega),h.n⟩
theorem Mc.bk (h:Mc w g is os rs ps s ov):Bk w g 128 (is.map (Value.int .i64)++(os.map (Value.int .u32)++(rs.map (Value.int .u32)++(ps++[s,.bool ov])))):=h.1
theorem Mc.rowR (h:Mc w g is os rs ps s ov):w.rangeAt g 28 (rs.map (Value.int .u32)):=by
 obtain ⟨_,h1,h2,h3,h4⟩:=id h
 have hk:=h.bk
 rw [← List.append_assoc] at hk
 have hk:=Bk.mid hk
 rw [List.length_append,List.length_map,List.length_map,h1,h2] at hk
 exact hk
theorem Mc.rowQ (h:Mc w g is os rs ps s ov):w.rangeAt g 44 ps:=by
 obtain ⟨_,h1,h2,h3,h4⟩:=id h
 have hk:=h.bk
 rw [← List.append_assoc,← List.append_assoc] at hk
 have hk:=Bk.mid hk
 rw [List.length_append,List.length_append,List.length_map,List.length_map,List.length_map,h1,h2,h3] at hk
 exact hk
end
theorem PS.new (h:St 63 w F bs ks) (hl:os.length=16) (ro:∀z∈os,0≤z∧z≤4294967295) (hi:I.ok):PS (w.alloc (.cells (mcC I.z os os p.v (.pointer (some ⟨F.g,0,none⟩)) false).toArray 128)) (w.alloc (.cells (mcC I.z os os p.v (.pointer (some ⟨F.g,0,none⟩)) false).toArray 128)) w.heap.size F I os os p p false bs ks:=
 ⟨⟨Bk.new w _ _,rfl,hl,hl,rfl⟩,h.belowS ((Below.refl _ _).alloc (Nat.le_refl _) _),Ch.refl _ _,by have:=h.ltg;omega,by have:=h.ltb;omega,by have:=h.ltk;omega,ro,hi,rfl⟩
def Px (w:World) (F:Foot) (os:List Int) (p:Ps) (bs ks:List Int) (o:Out) (e:Ending) (w':World):Prop:=
 Ch w w' [F.gb]∧(o.c≠0→e=.returned (.tuple #[agR os,.agg p.v.toArray,.int .i64 o.c])∧St 63 w' F bs ks) ∧
 (o.c=0→e=.returned (.tuple #[agR o.rs,.agg (p.to o.cc o.pg o.ad).v.toArray,.int .i64 (if o.ov=true∧8≤p.pg then 8 else 0)])∧St 63 w' F o.bs ks)
theorem pand8:∀n:Nat,n<16→bits .and .i64 (n:Int) 8=if 8≤n then 8 else 0:=by decide +kernel
theorem pexec_ok (hl:os.length=16) (ro:∀z∈os,0≤z∧z≤4294967295) (hi:I.ok) (P0:0≤p.pg∧p.pg≤15) (h:St 63 w F bs ks) (h1:kn I.op=true) (h2:chk I.op I.fm [I.op,I.fm,I.n,I.k,I.x,I.b,I.d,I.b',I.d',I.l,I.l',I.i]=0) (h3:pok p.m p.key p.cd p.il p.cc p.pg p.ad=true) {o:Out} (hol:o.rs.length=16) (hex:∀ (w0 W:World) (g:Nat),PS w0 W g F I os os p p false bs ks→Calls Tryz.prog 67 #[.pointer (some ⟨g,0,none⟩)] W (Gp w0 g F I os p bs ks o)):Calls Tryz.prog 51 #[.agg #[.int .i64 I.op,.int .i64 I.fm,.int .i64 (I.n:Int),.int .i64 (I.k:Int),.int .i64 (I.x:Int),.int .i64 (I.b:Int),.int .i64 I.d,.int .i64 (I.b':Int),.int .i64 I.d',.int .i64 (I.l:Int),.int .i64 I.l',.int .i64 I.i],agR os,.agg p.v.toArray,.pointer (some ⟨F.g,0,none⟩)] w (Px w F os p bs ks o):=by
 have hmf:∀ (fn:Fn) (first cap:Array Value) (w:World),(Instr.makeFunc fn first cap).run Tryz.prog w=.ok (.func fn first cap) w:=fun _ _ _ _=>rfl
 have CK:=lh (fun W=>icheck_c I.op I.fm (I.n:Int) (I.k:Int) (I.x:Int) (I.b:Int) I.d (I.b':Int) I.d' (I.l:Int) I.l' I.i W)
 rw [h2] at CK
 have X0:=lh (XG.start h)
 have HL:=lh hl
 have HI:=lh hi
 have RO:=lh ro
 have HPC:=lh hex
 have OL:=lh hol
 have PN:=lh (fun W (hW:St 63 W F bs ks)=>PS.new (I:=I) (p:=p) hW hl ro hi)
 obtain ⟨a0,a1,a2,a3,a4,a5,a6,a7,a8,a9,a10,a11,a12,a13,a14,a15,rfl⟩:=list_16 hl
 unfold agR
 clear hex hol h2 hl ro hi h
 go_enter_defers Tryz.func51,Tryz.ntmps51
 go_upto_region 1 with fail
 have X1:=lh (X0.out [.int .i64 I.op,.int .i64 I.fm,.int .i64 (I.n:Int),.int .i64 (I.k:Int),.int .i64 (I.x:Int),.int .i64 (I.b:Int),.int .i64 I.d,.int .i64 (I.b':Int),.int .i64 I.d',.int .i64 (I.l:Int),.int .i64 I.l',.int .i64 I.i] ([a0,a1,a2,a3,a4,a5,a6,a7,a8,a9,a10,a11,a12,a13,a14,a15].map (Value.int .u32)) p.v [.int .u32 0,.int .u32 0,.int .u32 0,.int .u32 0,.int .u32 0,.int .u32 0,.int .u32 0,.int .u32 0,.int .u32 0,.int .u32 0,.int .u32 0,.int .u32 0,.int .u32 0,.int .u32 0,.int .u32 0,.int .u32 0] [.int .i64 0,.int .i64 0,.bool false,.bool false,.bool false,.int .i64 0,.int .i64 0,.int .i64 0,.int .i64 0,.int .i64 0] 0)
 refine X1.out.opn ?_
 intro _ B1 B2
 refine B1.opn12 ?_
 refine B2.opn10 ?_
 clear B1 B2
 intros
 go_upto_region 3 with (first
   | (go_at_call 65;refine nx (X1.out.call (h1▸pknows_c I.op _)) ?_;intro w1 X1;refine X1.out.opn ?_;intro _ B1 B2;refine B1.opn12 ?_;refine B2.opn10 ?_;clear B1 B2;intros)
   | (go_at_call 41;refine nx (X1.out.call (CK.out _)) ?_;intro w1 X1;refine X1.out.opn ?_;intro _ B1 B2;refine B1.opn12 ?_;refine B2.opn10 ?_;clear B1 B2;intros)
   | (go_at_call 22;refine nx (X1.out.call (h3▸valid_c _ _ _ _ _ _ _ _ _ _ _)) ?_;intro w1 X1;refine X1.out.opn ?_;intro _ B1 B2;refine B1.opn12 ?_;refine B2.opn10 ?_;clear B1 B2;intros))
 clear X0
 have CLT:=lh X1.out.c.lt
 have B0:=lh X1.out.z
 have BR:=lh X1.out.r
 have BP:=lh X1.out.p
 go_upto_region 4 with fail
 refine wp_region_lit ?_
 refine lsl B0.out ?_
 iterate 2 refine lsl BR.out ?_
 refine lsl (cs:=[.int .i64 p.m,.int .i64 p.key,.bool p.M,.bool p.W,.bool p.P,.int .i64 p.cd,.int .i64 p.il,.int .i64 p.cc,.int .i64 p.pg,.int .i64 p.ad]) BP.out ?_
 refine lsv ?_ (w':=w1)
 refine lsv (v:=.agg (mcC I.z [a0,a1,a2,a3,a4,a5,a6,a7,a8,a9,a10,a11,a12,a13,a14,a15] [a0,a1,a2,a3,a4,a5,a6,a7,a8,a9,a10,a11,a12,a13,a14,a15] p.v (.pointer (some ⟨F.g,0,none⟩)) false).toArray) (w':=w1) ?_ (hr:=by go_simp;kernel_rfl)
 have hsz:(mcC I.z [a0,a1,a2,a3,a4,a5,a6,a7,a8,a9,a10,a11,a12,a13,a14,a15] [a0,a1,a2,a3,a4,a5,a6,a7,a8,a9,a10,a11,a12,a13,a14,a15] p.v (.pointer (some ⟨F.g,0,none⟩)) false).toArray.size=56:=rfl
 refine lsv (v:=.pointer (some ⟨w1.heap.size,0,none⟩)) (w':=w1.alloc (.cells (mcC I.z [a0,a1,a2,a3,a4,a5,a6,a7,a8,a9,a10,a11,a12,a13,a14,a15] [a0,a1,a2,a3,a4,a5,a6,a7,a8,a9,a10,a11,a12,a13,a14,a15] p.v (.pointer (some ⟨F.g,0,none⟩)) false).toArray 128)) ?_
 refine lsv ?_
 refine wpList_nil ?_
 have R1:=lh (PN.out _ X1.out.st)
 replace X1:=lh (X1.out.keep ((Below.refl _ _).alloc (Nat.le_refl _) (.cells (mcC I.z [a0,a1,a2,a3,a4,a5,a6,a7,a8,a9,a10,a11,a12,a13,a14,a15] [a0,a1,a2,a3,a4,a5,a6,a7,a8,a9,a10,a11,a12,a13,a14,a15] p.v (.pointer (some ⟨F.g,0,none⟩)) false).toArray 128)))
 have hgm:w.heap.size+1+1+1+1+1<w1.heap.size:=by have:=B0.out.lt;have:=CLT.out;omega
 obtain ⟨gm,hg⟩:∃gm,w1.heap.size=gm:=⟨_,rfl⟩
 obtain ⟨W1,hW⟩:∃W1,w1.alloc (.cells (mcC I.z [a0,a1,a2,a3,a4,a5,a6,a7,a8,a9,a10,a11,a12,a13,a14,a15] [a0,a1,a2,a3,a4,a5,a6,a7,a8,a9,a10,a11,a12,a13,a14,a15] p.v (.pointer (some ⟨F.g,0,none⟩)) false).toArray 128)=W1:=⟨_,rfl⟩
 rw [hW,hg] at R1
 rw [hW] at X1 ⊢
 rw [hg] at hgm
 simp only [hg]
 clear hsz hW hg B0 BR BP PN CLT
 go_upto_region 6 with (go_at_call 67;refine nxp (HPC.out _ _ _ R1.out) (fun w2 Z=>?_) (fun w2 Z=>?_))
 ·have hzc:o.c=0:=by
   by_cases h:o.c=0
   ·exact h
   ·exact absurd (Z.out.2 h).1 (by unfold Pn;simp)
  have Y1:Hid (YG w w2 F o.bs ks [.int .i64 I.op,.int .i64 I.fm,.int .i64 (I.n:Int),.int .i64 (I.k:Int),.int .i64 (I.x:Int),.int .i64 (I.b:Int),.int .i64 I.d,.int .i64 (I.b':Int),.int .i64 I.d',.int .i64 (I.l:Int),.int .i64 I.l',.int .i64 I.i] ([a0,a1,a2,a3,a4,a5,a6,a7,a8,a9,a10,a11,a12,a13,a14,a15].map (Value.int .u32)) p.v [.int .u32 0,.int .u32 0,.int .u32 0,.int .u32 0,.int .u32 0,.int .u32 0,.int .u32 0,.int .u32 0,.int .u32 0,.int .u32 0,.int .u32 0,.int .u32 0,.int .u32 0,.int .u32 0,.int .u32 0,.int .u32 0] [.int .i64 0,.int .i64 0,.bool false,.bool false,.bool false,.int .i64 0,.int .i64 0,.int .i64 0,.int .i64 0,.int .i64 0] 0 gm I.z [a0,a1,a2,a3,a4,a5,a6,a7,a8,a9,a10,a11,a12,a13,a14,a15] o.rs (p.to o.cc o.pg o.ad).v o.ov):=lh ⟨X1.out.ex (Z.out.1 hzc).2.b (Z.out.1 hzc).2.st hgm,(Z.out.1 hzc).2.m,hgm⟩
  have HZ:=lh hzc
  have KL:=OL
  clear Z R1 X1 hzc HPC
  have cv:=Y1.out.m.cv
  rcases (show o.ov=false∨(o.ov=true∧8≤p.pg)∨(o.ov=true∧¬ 8≤p.pg) by cases o.ov<;>simp<;>omega) with hv | ⟨hv,h8⟩ | ⟨hv,h8⟩
  ·have HV:=lh (show (if o.ov=true∧8≤p.pg then (8:Int) else 0)=0 from if_neg (by rw [hv];simp))
   rw [hv] at cv
   have hv':=lh hv
   clear hv
   go_upto_region 8 with fail
   refine wp_region_held_drew (S:=fun W=>∃a b v,YG w W F o.bs ks [.int .i64 I.op,.int .i64 I.fm,.int .i64 (I.n:Int),.int .i64 (I.k:Int),.int .i64 (I.x:Int),.int .i64 (I.b:Int),.int .i64 I.d,.int .i64 (I.b':Int),.int .i64 I.d',.int .i64 (I.l:Int),.int .i64 I.l',.int .i64 I.i] ([a0,a1,a2,a3,a4,a5,a6,a7,a8,a9,a10,a11,a12,a13,a14,a15].map (Value.int .u32)) p.v a b v gm I.z [a0,a1,a2,a3,a4,a5,a6,a7,a8,a9,a10,a11,a12,a13,a14,a15] o.rs (p.to o.cc o.pg o.ad).v o.ov) (by kernel_rfl) ⟨_,_,_,Y1.out.drew⟩ (fun hHeld=>?_)
   replace Y1:=lh Y1.out.drew
   repeat refine tkn ?_ (hQ:=by exact fun _ _ _ h=>exq h)
   refine tkl 3 (fun w h=>by obtain ⟨_,_,_,h⟩:=h;exact h.m.rowR) ?_ (hn:=by rw [List.length_map,KL.out];kernel_rfl) (hQ:=by exact fun _ _ _ h=>exq h)
   repeat refine tkn ?_ (hQ:=by exact fun _ _ _ h=>exq h)
   refine tkl (cs:=(p.to o.cc o.pg o.ad).v) 7 (fun w h=>by obtain ⟨_,_,_,h⟩:=h;exact h.m.rowQ) ?_ (hQ:=by exact fun _ _ _ h=>exq h)
   repeat refine tkn ?_ (hQ:=by exact fun _ _ _ h=>exq h)
   refine tks_ (cs':=o.rs.map (Value.int .u32)) Y1.out.x.a (by rw [List.length_map,KL.out];rfl) (one_u32 _) (by rw [List.length_map,KL.out];kernel_rfl) (Y1.out.seta _) (fun _ h=>⟨_,_,_,h⟩) ?_
   clear Y1 hHeld
   intro w5 Y1 hHeld
   refine tks_ (cs':=(p.to o.cc o.pg o.ad).v) Y1.out.x.b (by rfl) (one_ps _) (by kernel_rfl) (Y1.out.setb _) (fun _ h=>⟨_,_,_,h⟩) ?_
   clear Y1 hHeld
   intro w6 Y1 hHeld
   refine tk_st (st_int (Y1.out.x.c.cell (c:=0) rfl) (Y1.out.x.c.free 0)) (Y1.out.setc 0) (fun _ h=>⟨_,_,_,h⟩) ?_ (by with_unfolding_all rfl) (by rfl) (by rfl) (by rfl) (by rfl) (by rfl) (fun w'=>by simp only [Act.put,List.setIfInBounds_toArray,List.set_cons_zero,List.set_cons_succ];try rfl)
   clear Y1 hHeld
   intro w7 Y1 hHeld
   refine wpAnyH_done (by kernel_rfl) ?_ _
   clear hHeld
   go_wp2
   refine leaves_cons (f:=66) (args:=#[.pointer (some ⟨w.heap.size+1,0,none⟩),.pointer (some ⟨w.heap.size+1+1,0,none⟩),.pointer (some ⟨w.heap.size+1+1+1,0,none⟩),.pointer (some ⟨w.heap.size+1+1+1+1,0,none⟩),.pointer (some ⟨w.heap.size+1+1+1+1+1,0,none⟩)]) (by simp) (by simp [go_sem]) ?_
   refine (catch_idle _ _ _ _ _ _).mono ?_
   rintro e u' w'' ⟨rfl,rfl,hw6⟩
   subst hw6
   have X1:=lh Y1.out.x
   exact ⟨_,res_cells3 Tryz.results51 _ _ _ _ _ _ _ _ rfl rfl rfl X1.out.a X1.out.b X1.out.c Tryz.underlying25 rfl (by rw [List.length_map,KL.out];kernel_rfl) Tryz.underlying35 rfl (by kernel_rfl) (by have c5:=X1.out.c.cell (c:=0) rfl;go_simp),Y1.out.x.ch,fun h=>absurd HZ.out h,fun _=>⟨by rw [HV.out];rfl,Y1.out.x.st⟩⟩
  ·have HV:=lh (show (if o.ov=true∧8≤p.pg then (8:Int) else 0)=8 from if_pos ⟨hv,h8⟩)
   rw [hv] at cv
   have e8:bits .and .i64 p.pg 8=8:=by obtain ⟨n,hn⟩:=Int.eq_ofNat_of_zero_le P0.1;rw [hn,pand8 n (by omega),if_pos (by omega)]
   have cg:w2.cell? ⟨w.heap.size+1+1,8,none⟩=some (.int .i64 p.pg):=Y1.out.x.p.cell (c:=8) rfl
   have hv':=lh hv
   clear hv h8
   go_upto_region 7 with fail
   refine wp_region_held_drew (S:=fun W=>∃a b v,YG w W F o.bs ks [.int .i64 I.op,.int .i64 I.fm,.int .i64 (I.n:Int),.int .i64 (I.k:Int),.int .i64 (I.x:Int),.int .i64 (I.b:Int),.int .i64 I.d,.int .i64 (I.b':Int),.int .i64 I.d',.int .i64 (I.l:Int),.int .i64 I.l',.int .i64 I.i] ([a0,a1,a2,a3,a4,a5,a6,a7,a8,a9,a10,a11,a12,a13,a14,a15].map (Value.int .u32)) p.v a b v gm I.z [a0,a1,a2,a3,a4,a5,a6,a7,a8,a9,a10,a11,a12,a13,a14,a15] o.rs (p.to o.cc o.pg o.ad).v o.ov) (by kernel_rfl) ⟨_,_,_,Y1.out.drew⟩ (fun hHeld=>?_)
   replace Y1:=lh Y1.out.drew
   repeat refine tkn ?_ (hQ:=by exact fun _ _ _ h=>exq h)
   refine tkl 3 (fun w h=>by obtain ⟨_,_,_,h⟩:=h;exact h.m.rowR) ?_ (hn:=by rw [List.length_map,KL.out];kernel_rfl) (hQ:=by exact fun _ _ _ h=>exq h)
   repeat refine tkn ?_ (hQ:=by exact fun _ _ _ h=>exq h)
   refine tkl (cs:=(p.to o.cc o.pg o.ad).v) 7 (fun w h=>by obtain ⟨_,_,_,h⟩:=h;exact h.m.rowQ) ?_ (hQ:=by exact fun _ _ _ h=>exq h)
   repeat refine tkn ?_ (hQ:=by exact fun _ _ _ h=>exq h)
   refine tks_ (cs':=o.rs.map (Value.int .u32)) Y1.out.x.a (by rw [List.length_map,KL.out];rfl) (one_u32 _) (by rw [List.length_map,KL.out];kernel_rfl) (Y1.out.seta _) (fun _ h=>⟨_,_,_,h⟩) ?_
   clear Y1 hHeld
   intro w5 Y1 hHeld
   refine tks_ (cs':=(p.to o.cc o.pg o.ad).v) Y1.out.x.b (by rfl) (one_ps _) (by kernel_rfl) (Y1.out.setb _) (fun _ h=>⟨_,_,_,h⟩) ?_
   clear Y1 hHeld
   intro w6 Y1 hHeld
   refine tk_st (st_int (Y1.out.x.c.cell (c:=0) rfl) (Y1.out.x.c.free 0)) (Y1.out.setc 8) (fun _ h=>⟨_,_,_,h⟩) ?_ (by with_unfolding_all rfl) (by rfl) (by rfl) (by rfl) (by rfl) (by rfl) (fun w'=>by simp only [Act.put,List.setIfInBounds_toArray,List.set_cons_zero,List.set_cons_succ];try rfl)
   clear Y1 hHeld
   intro w7 Y1 hHeld
   refine wpAnyH_done (by kernel_rfl) ?_ _
   clear hHeld
   go_wp2
   refine leaves_cons (f:=66) (args:=#[.pointer (some ⟨w.heap.size+1,0,none⟩),.pointer (some ⟨w.heap.size+1+1,0,none⟩),.pointer (some ⟨w.heap.size+1+1+1,0,none⟩),.pointer (some ⟨w.heap.size+1+1+1+1,0,none⟩),.pointer (some ⟨w.heap.size+1+1+1+1+1,0,none⟩)]) (by simp) (by simp [go_sem]) ?_
   refine (catch_idle _ _ _ _ _ _).mono ?_
   rintro e u' w'' ⟨rfl,rfl,hw6⟩
   subst hw6
   have X1:=lh Y1.out.x
   exact ⟨_,res_cells3 Tryz.results51 _ _ _ _ _ _ _ _ rfl rfl rfl X1.out.a X1.out.b X1.out.c Tryz.underlying25 rfl (by rw [List.length_map,KL.out];kernel_rfl) Tryz.underlying35 rfl (by kernel_rfl) (by have c5:=X1.out.c.cell (c:=0) rfl;go_simp),Y1.out.x.ch,fun h=>absurd HZ.out h,fun _=>⟨by rw [HV.out];rfl,Y1.out.x.st⟩⟩
  ·have HV:=lh (show (if o.ov=true∧8≤p.pg then (8:Int) else 0)=0 from if_neg (fun h=>h8 h.2))
   rw [hv] at cv
   have e8:bits .and .i64 p.pg 8=0:=by obtain ⟨n,hn⟩:=Int.eq_ofNat_of_zero_le P0.1;rw [hn,pand8 n (by omega),if_neg (by omega)]
   have cg:w2.cell? ⟨w.heap.size+1+1,8,none⟩=some (.int .i64 p.pg):=Y1.out.x.p.cell (c:=8) rfl
   have hv':=lh hv
   clear hv h8
   go_upto_region 8 with fail
   refine wp_region_held_drew (S:=fun W=>∃a b v,YG w W F o.bs ks [.int .i64 I.op,.int .i64 I.fm,.int .i64 (I.n:Int),.int .i64 (I.k:Int),.int .i64 (I.x:Int),.int .i64 (I.b:Int),.int .i64 I.d,.int .i64 (I.b':Int),.int .i64 I.d',.int .i64 (I.l:Int),.int .i64 I.l',.int .i64 I.i] ([a0,a1,a2,a3,a4,a5,a6,a7,a8,a9,a10,a11,a12,a13,a14,a15].map (Value.int .u32)) p.v a b v gm I.z [a0,a1,a2,a3,a4,a5,a6,a7,a8,a9,a10,a11,a12,a13,a14,a15] o.rs (p.to o.cc o.pg o.ad).v o.ov) (by kernel_rfl) ⟨_,_,_,Y1.out.drew⟩ (fun hHeld=>?_)
   replace Y1:=lh Y1.out.drew
   repeat refine tkn ?_ (hQ:=by exact fun _ _ _ h=>exq h)
   refine tkl 3 (fun w h=>by obtain ⟨_,_,_,h⟩:=h;exact h.m.rowR) ?_ (hn:=by rw [List.length_map,KL.out];kernel_rfl) (hQ:=by exact fun _ _ _ h=>exq h)
   repeat refine tkn ?_ (hQ:=by exact fun _ _ _ h=>exq h)
   refine tkl (cs:=(p.to o.cc o.pg o.ad).v) 7 (fun w h=>by obtain ⟨_,_,_,h⟩:=h;exact h.m.rowQ) ?_ (hQ:=by exact fun _ _ _ h=>exq h)
   repeat refine tkn ?_ (hQ:=by exact fun _ _ _ h=>exq h)
   refine tks_ (cs':=o.rs.map (Value.int .u32)) Y1.out.x.a (by rw [List.length_map,KL.out];rfl) (one_u32 _) (by rw [List.length_map,KL.out];kernel_rfl) (Y1.out.seta _) (fun _ h=>⟨_,_,_,h⟩) ?_
   clear Y1 hHeld
   intro w5 Y1 hHeld
   refine tks_ (cs':=(p.to o.cc o.pg o.ad).v) Y1.out.x.b (by rfl) (one_ps _) (by kernel_rfl) (Y1.out.setb _) (fun _ h=>⟨_,_,_,h⟩) ?_
   clear Y1 hHeld
   intro w6 Y1 hHeld
   refine tk_st (st_int (Y1.out.x.c.cell (c:=0) rfl) (Y1.out.x.c.free 0)) (Y1.out.setc 0) (fun _ h=>⟨_,_,_,h⟩) ?_ (by with_unfolding_all rfl) (by rfl) (by rfl) (by rfl) (by rfl) (by rfl) (fun w'=>by simp only [Act.put,List.setIfInBounds_toArray,List.set_cons_zero,List.set_cons_succ];try rfl)
   clear Y1 hHeld
   intro w7 Y1 hHeld
   refine wpAnyH_done (by kernel_rfl) ?_ _
   clear hHeld
   go_wp2
   refine leaves_cons (f:=66) (args:=#[.pointer (some ⟨w.heap.size+1,0,none⟩),.pointer (some ⟨w.heap.size+1+1,0,none⟩),.pointer (some ⟨w.heap.size+1+1+1,0,none⟩),.pointer (some ⟨w.heap.size+1+1+1+1,0,none⟩),.pointer (some ⟨w.heap.size+1+1+1+1+1,0,none⟩)]) (by simp) (by simp [go_sem]) ?_
   refine (catch_idle _ _ _ _ _ _).mono ?_
   rintro e u' w'' ⟨rfl,rfl,hw6⟩
   subst hw6
   have X1:=lh Y1.out.x
   exact ⟨_,res_cells3 Tryz.results51 _ _ _ _ _ _ _ _ rfl rfl rfl X1.out.a X1.out.b X1.out.c Tryz.underlying25 rfl (by rw [List.length_map,KL.out];kernel_rfl) Tryz.underlying35 rfl (by kernel_rfl) (by have c5:=X1.out.c.cell (c:=0) rfl;go_simp),Y1.out.x.ch,fun h=>absurd HZ.out h,fun _=>⟨by rw [HV.out];rfl,Y1.out.x.st⟩⟩
 ·have hzc:o.c≠0:=fun h=>absurd (Z.out.1 h).1 (by simp)
  obtain ⟨rs,q,ov,hR⟩:=(Z.out.2 hzc).2
  replace X1:=lh (X1.out.ex hR.b hR.st hgm)
  have HZ:=lh hzc
  clear hR Z R1 hzc HPC
  refine leaves_cons (f:=66) (args:=#[.pointer (some ⟨w.heap.size+1,0,none⟩),.pointer (some ⟨w.heap.size+1+1,0,none⟩),.pointer (some ⟨w.heap.size+1+1+1,0,none⟩),.pointer (some ⟨w.heap.size+1+1+1+1,0,none⟩),.pointer (some ⟨w.heap.size+1+1+1+1+1,0,none⟩)]) (by simp) (by simp [go_sem]) ?_
  refine (pcatch_c (os:=[a0,a1,a2,a3,a4,a5,a6,a7,a8,a9,a10,a11,a12,a13,a14,a15]) o.c [] X1.out rfl rfl rfl).mono ?_
  rintro e u' w'' ⟨rfl,rfl,hX⟩
  replace X1:=lh hX
  exact ⟨_,res_cells3 Tryz.results51 _ _ _ _ _ _ _ _ rfl rfl rfl X1.out.a X1.out.b X1.out.c Tryz.underlying25 rfl (by kernel_rfl) Tryz.underlying35 rfl (by kernel_rfl) (by have c5:=X1.out.c.cell (c:=0) rfl;go_simp),X1.out.ch,fun _=>⟨rfl,X1.out.st⟩,fun h=>absurd h HZ.out⟩
end
end Go.Proofs.YtljajnaclpbecaaGreatDoor
