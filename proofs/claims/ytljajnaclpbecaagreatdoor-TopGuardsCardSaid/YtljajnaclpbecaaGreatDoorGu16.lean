/- Contracts and laws on the way to the statement, text 16 of 22. Conditions: as each states them. -/
import Derived.Test.YtljajnaclpbecaaGreatDoorGu1
import Derived.Test.YtljajnaclpbecaaGreatDoorGu5
import Derived.Test.YtljajnaclpbecaaGreatDoorGu6
import Derived.Test.YtljajnaclpbecaaGreatDoorGu9
import Derived.Test.YtljajnaclpbecaaGreatDoorGu15
namespace Go.Proofs.YtljajnaclpbecaaGreatDoor
set_option maxRecDepth 1000000
set_option maxHeartbeats 8000000
open Go.RowKit Go.MapKept
set_option linter.unusedVariables false
set_option linter.unusedSimpArgs false
theorem run_mup8 {w:World} {es:Array MapEntry} {b n:Nat} {T kt et:TypeId} {k:Int} {v:Value} (hT:Tryz.prog.underlying T=some (.map kt et)) (hk:Tryz.prog.underlying kt=some (.int .u8)) (hb:w.heap[b]?=some (.map es n)) (hf:Instr.findNow (.int .u8) (.int .u8 k) es.toList 0=some none):(Instr.mapUpdate T (.map (some b)) (.int .u8 k) v).run Tryz.prog w=.ok () { w with heap:=w.heap.setIfInBounds b (.map (es.push { key:=.int .u8 k,val:=v,born:=n }) (n+1)) }:=by
 simp only [Instr.mapUpdate,Sem.run_bind,run_underlying hT,Result.andThen_ok,MapKept.run_getObj_map hb,run_checkKey (k:=.int .u8 k) hk (by simp [IsKey]) false 9999,run_findKey hk hf,run_setObj_map _ hb]
theorem run_look8 {w:World} {es:Array MapEntry} {b n:Nat} {T kt et:TypeId} {k:Int} {z:Value} (hT:Tryz.prog.underlying T=some (.map kt et)) (hk:Tryz.prog.underlying kt=some (.int .u8)) (hb:w.heap[b]?=some (.map es n)) (hf:Instr.findNow (.int .u8) (.int .u8 k) es.toList 0=some none) (hz:(zeroValue et).run Tryz.prog w=.ok z w):(Instr.lookup T (.map (some b)) (.int .u8 k) true).run Tryz.prog w=.ok (.tuple #[z,.bool false]) w:=by
 simp [Instr.lookup,Sem.run_bind,run_underlying hT,Result.andThen_ok,MapKept.run_getObj_map hb,run_checkKey (k:=.int .u8 k) hk (by simp [IsKey]) es.isEmpty 9999,run_findKey hk hf,hz]
theorem run_find8 {w:World} {es:Array MapEntry} {b n i:Nat} {T kt et:TypeId} {k:Int} {z:Value} (hT:Tryz.prog.underlying T=some (.map kt et)) (hk:Tryz.prog.underlying kt=some (.int .u8)) (hb:w.heap[b]?=some (.map es n)) (hf:Instr.findNow (.int .u8) (.int .u8 k) es.toList 0=some (some (i,z))):(Instr.lookup T (.map (some b)) (.int .u8 k) true).run Tryz.prog w=.ok (.tuple #[z,.bool true]) w:=by
 simp [Instr.lookup,Sem.run_bind,run_underlying hT,Result.andThen_ok,MapKept.run_getObj_map hb,run_checkKey (k:=.int .u8 k) hk (by simp [IsKey]) es.isEmpty 9999,run_findKey hk hf]
section
variable {w0 w:World} {es:Array MapEntry} {n:Nat} {ops:Array Oper} {rest:List Oper} {o:Oper} {act:Act} {Q:Exit→Act→World→Prop} {X:World→Prop}
theorem lsu8 {x kx vx:Operand} {k:Int} {v:Value} (h:Hid (MW w0 w es n)) (hX:∀w',Hid (MW w0 w' (es.push { key:=.int .u8 k,val:=v,born:=n }) (n+1))→X w') (ho:o.op=.insert 232 x kx vx:=by rfl) (hx:act.eval x=.map (some w0.heap.size):=by rfl) (hkx:act.eval kx=.int .u8 k:=by rfl) (hvx:act.eval vx=v:=by rfl) (hf:Instr.findNow (.int .u8) (.int .u8 k) es.toList 0=some none:=by kernel_rfl) (hg:Region.wanted o (yielded ops act.tmps)=true:=by rfl)
  (hP:∀w',wpList Tryz.prog ops Q rest (act.put o.dst undef) w'=X w':=by (intro w';simp only [Act.put,List.setIfInBounds_toArray,List.set_cons_zero,List.set_cons_succ];try rfl)):wpList Tryz.prog ops Q (o :: rest) act w:=
 lsk (by unfold execOp;simp only [ho,hx,hkx,hvx,Sem.run_bind,run_mup8 Tryz.underlying232 Tryz.underlying5 h.out.m hf,Result.andThen_ok,Sem.run_pure]) (hX _ (lh (h.out.set_ _ _))) hg (hP _)
end
section
variable {P:Program} {ops:Array Oper} {rest:List Oper} {o:Oper} {act:Act} {Q:Exit→Act→World→Prop} {w:World} {X:Prop}
theorem lslo {k off:Nat} {T:TypeId} {x:Operand} {cs:List Value} (hR:w.rangeAt k off cs) (h:X) (hg:Region.wanted o (yielded ops act.tmps)=true:=by rfl) (ho:o.op=.load T x:=by rfl) (hx:act.eval x=.pointer (some ⟨k,off,none⟩):=by rfl) (hd:isRw T:=by unfold isRw;kernel_rfl) (hi:(Tryz.prog.info? T).map (·.size)=some cs.length:=by kernel_rfl)
  (hP:wpList Tryz.prog ops Q rest (act.put o.dst (.agg cs.toArray)) w=X:=by (simp only [Act.put,List.setIfInBounds_toArray,List.set_cons_zero,List.set_cons_succ];try rfl)):wpList Tryz.prog ops Q (o :: rest) act w:=by
 obtain ⟨d,hu,hd⟩:=isRw_some hd
 exact lsv h hg (by unfold execOp;simp only [ho,hx,Sem.run_bind,run_loadAt_mid w k off T cs d hR hu hd hi,Result.andThen_ok,Sem.run_pure]) hP
end
def edE:Array MapEntry:=#[{ key:=.int .u8 32,val:=.func (.func 182) #[] #[],born:=0 },{ key:=.int .u8 33,val:=.func (.func 183) #[] #[],born:=1 },{ key:=.int .u8 34,val:=.func (.func 184) #[] #[],born:=2 }]
theorem edE_no {c:Int} (h1:c≠32) (h2:c≠33) (h3:c≠34):Instr.findNow (.int .u8) (.int .u8 c) edE.toList 0=some none:=by
 have e1:(c == 32)=false:=by rw [beq_eq_false_iff_ne];exact h1
 have e2:(c == 33)=false:=by rw [beq_eq_false_iff_ne];exact h2
 have e3:(c == 34)=false:=by rw [beq_eq_false_iff_ne];exact h3
 simp [edE,Instr.findNow,Instr.sameNow,e1,e2,e3]
theorem map_ch {W W':World} {b k:Nat} {es:Array MapEntry} {L:List Nat} (h:W.heap[b]?=some (.map es k)) (hc:Ch W W' L) (hn:b∉L):W'.heap[b]?=some (.map es k):=(hc.block _ (Array.getElem?_eq_some_iff.1 h).1 hn).trans h
theorem own_bk2 {W:World} {B o n:Nat} {zs:List Int} (h:Bk W o 5 (zs.map (Value.int .u8))) (hn:zs.length=n) (hr:∀z∈zs,0≤z∧z≤255) (hB:B≤o) (h16:n≤1000):Own W B (.slice (some ⟨o,0,none⟩) n n) n zs:=Own.of_heap h (by simp [hn]) (by rw [List.take_of_length_le (by simp [hn])]) hn hB (Nat.le_refl _) (by unfold maxLen;omega) hr
def EdV (B:Nat) (w:World) (v:Value):Prop:=∃ (v1:Value) (cc mk c:Int),v=.tuple #[.agg #[v1,.int .i64 cc,.int .i64 mk],.int .i64 c]∧SlV 256 B w v1
theorem edit_w (n pb pc:Nat) (hn:1≤n∧n≤256) (zp:List Int) (S:Option Addr) (m cap:Nat) (hm:m≤100000) (ys:List Int) (w:World) (hy:Byt w (some ⟨pb,0,none⟩) n zp) (hs:Byt w S m ys):Calls Tryz.prog 160 #[.slice (some ⟨pb,0,none⟩) n pc,.slice S m cap] w fun e w'=>∃v,e=.returned v∧EdV w.heap.size w' v∧Below w.heap.size w w':=by
 have Y:=lh hy
 have YS:=lh hs
 have HN:=lh hn
 have LM:=lh hm
 have n0:((n:Int) == 0)=false:=by rw [beq_eq_false_iff_ne];omega
 have n1:¬(256:Int)<(n:Int):=by omega
 clear hy hs hn hm
 go_enter Tryz.func160,Tryz.ntmps160
 go_upto_region 1 with fail
 have N0:=Bk.new w [.slice none 0 0,.int .i64 0,.int .i64 0] 205
 have LB:=((Below.refl w.heap.size w).alloc (by simp) (.cells #[.slice none 0 0,.int .i64 0,.int .i64 0] 205))
 have M0:=N0
 have hsz:(w.alloc (.cells #[.slice none 0 0,.int .i64 0,.int .i64 0] 205)).heap.size=w.heap.size+1:=by simp
 obtain ⟨w1,hW⟩:∃V,w.alloc (.cells #[.slice none 0 0,.int .i64 0,.int .i64 0] 205)=V:=⟨_,rfl⟩
 rw [hW] at LB hsz M0
 first | rw [hW] | skip
 obtain ⟨g,hg⟩:∃k,w.heap.size=k:=⟨_,rfl⟩
 rw [hg] at LB hsz M0
 try simp only [hg]
 clear hW N0
 have H:=lh (show Bk w1 (g) 205 [.slice none 0 0,.int .i64 0,.int .i64 0]∧Below g w w1 from ⟨M0,LB⟩)
 clear LB M0
 have HG:=lh hg
 clear hg
 have Y1:=lh (Y.out.keep (HG.out▸H.out.2))
 have S1:=lh (YS.out.keep (HG.out▸H.out.2))
 go_upto_region 3 with fail
 clear n0 n1
 refine wp_region_lit ?_
 iterate 2 refine lsv (w':=w1) ?_
 refine lsv (v:=.int .i64 (n:Int)) (w':=w1) ?_
 have MK:=run_mk_b n (by have:=HN.out;omega) w1
 refine lsv (v:=.slice (some ⟨w1.heap.size,0,none⟩) n n) (w':=w1.alloc (.cells (zeroB n) 5)) ?_
 clear MK
 have O1:Bk (w1.alloc (.cells (zeroB n) 5)) w1.heap.size 5 ((List.replicate n (0:Int)).map (Value.int .u8)):=by rw [List.map_replicate];exact Bk.new w1 _ 5
 have al:=(Below.refl w1.heap.size w1).alloc (Nat.le_refl _) (.cells (zeroB n) 5)
 have z2:(w1.alloc (.cells (zeroB n) 5)).heap.size=w1.heap.size+1:=World.size_alloc _ _
 obtain ⟨w2,hW⟩:∃V,w1.alloc (.cells (zeroB n) 5)=V:=⟨_,rfl⟩
 rw [hW] at O1 al z2
 rw [hW]
 clear hW
 obtain ⟨t,ht⟩:∃t,w1.heap.size=t:=⟨_,rfl⟩
 rw [ht] at O1 z2
 simp only [ht]
 have TT:=lh ht
 iterate 2 refine lsv (w':=w2) ?_
 refine lsv (v:=.pointer (some ⟨w2.heap.size,0,none⟩)) (w':=w2.alloc (.cells #[.slice S m cap,.int .i64 0,.bool false,.bool false,.slice (some ⟨t,0,none⟩) n n,.int .i64 0,.int .i64 (-1)] 230)) ?_
 have X3:EX w1 (w2.alloc (.cells #[.slice S m cap,.int .i64 0,.bool false,.bool false,.slice (some ⟨t,0,none⟩) n n,.int .i64 0,.int .i64 (-1)] 230)) w2.heap.size t n S m cap 0 false false 0 (-1) (List.replicate n 0):=
  {eb:=Bk.new w2 [.slice S m cap,.int .i64 0,.bool false,.bool false,.slice (some ⟨t,0,none⟩) n n,.int .i64 0,.int .i64 (-1)] 230
   tb:=O1.keep ((Below.refl _ _).alloc (Nat.le_refl _) _)
   bb:=al.alloc (by omega) _
   ll:=by simp
   rr:=fun z hz=>by rw [List.eq_of_mem_replicate hz];omega
   aa:=by omega
   nn:=by omega }
 obtain ⟨w3,hW⟩:∃V,w2.alloc (.cells #[.slice S m cap,.int .i64 0,.bool false,.bool false,.slice (some ⟨t,0,none⟩) n n,.int .i64 0,.int .i64 (-1)] 230)=V:=⟨_,rfl⟩
 rw [hW] at X3
 rw [hW]
 clear hW O1 al
 obtain ⟨e,he⟩:∃e,t+1=e:=⟨_,rfl⟩
 rw [z2,he] at X3
 first | simp only [z2,he] | simp only [he]
 refine lsv (w':=w3) ?_
 refine wpList_nil ?_
 have E3:=lh X3
 have ET:=lh (show e=t+1 from he.symm)
 clear X3 z2 he ht
 have hmm:=@run_makeMap Tryz.prog
 go_upto_region 4 with fail
 refine wp_region_lit ?_
 refine lsv (v:=.map (some w3.heap.size)) (w':=w3.alloc (.map #[] 0)) ?_ (hr:=by kernel_rfl)
 have R:Hid (MW w3 (w3.alloc (.map #[] 0)) #[] 0):=lh ⟨heap_alloc_new w3 _,(Below.refl _ _).alloc (Nat.le_refl _) _⟩
 clear hmm
 refine lsu8 R ?_
 clear R
 intro w4 R
 refine lsu8 R ?_
 clear R
 intro w5 R
 refine lsu8 R ?_
 clear R
 intro w6 R
 iterate 2 refine lsv (w':=w6) ?_
 refine wpList_nil ?_
 have E6:=lh (E3.out.keep R.out.b)
 have M6:=lh (show w6.heap[w3.heap.size]?=some (.map edE 3) from R.out.m)
 have EL:=lh (⟨E3.out.eb.lt,E3.out.tb.lt⟩:e<w3.heap.size∧t<w3.heap.size)
 obtain ⟨mb,hmb⟩:∃b,w3.heap.size=b:=⟨_,rfl⟩
 rw [hmb] at M6 EL
 simp only [hmb]
 clear hmb R E3
 go_wp2
 go_loopw [33] (fun x W=>∃j:Nat,j≤n∧x=.int .i64 (j:Int)∧ED w1 W e t n S m cap∧W.heap[mb]?=some (.map edE 3)) (fun x _=>n - (intOf x).toNat)
 case atStart=>exact ⟨0,Nat.zero_le _,rfl,⟨_,_,_,_,_,_,E6.out⟩,M6.out⟩
 case round=>
  clear E6 M6
  obtain ⟨j,hj,rfl,hE,hM⟩:=hrel
  rename World=>W
  by_cases hlt:j<n
  ·have e1:(j:Int)<(n:Int):=by omega
   have e3:IntKind.i64.wrap ((j:Int)+1)=(j:Int)+1:=wrap_i64_id (by omega) (by have:=HN.out;omega)
   have n0:¬ n=0:=by omega
   obtain ⟨c,hc⟩:∃c,zp.getD j 0=c:=⟨_,rfl⟩
   obtain ⟨p0,hp0⟩:∃c,zp.getD 0 0=c:=⟨_,rfl⟩
   have CR:=lh (show (0≤c∧c≤255)∧(0≤p0∧p0≤255) from ⟨hc▸Y.out.range j,hp0▸Y.out.range 0⟩)
   have PB:=lh (show ∀W,ED w1 W e t n S m cap→W.cell? ⟨pb,j,none⟩=some (.int .u8 c)∧W.cell? ⟨pb,0,none⟩=some (.int .u8 p0) from fun W hX=>by
    obtain ⟨a,b,b2,d,d2,zs,hX⟩:=hX
    exact ⟨hc▸byt_c (Y1.out.keep hX.bb) hlt,hp0▸byt_c (Y1.out.keep hX.bb) (by omega)⟩)
   have HJ:=lh hlt
   clear hc hp0 hlt hj
   have cz:=(PB.out W hE).1
   have H1:=lh (⟨hE,hM⟩:ED w1 W e t n S m cap∧W.heap[mb]?=some (.map edE 3))
   clear hE hM
   go_upto_region 8 with fail
   clear cz
   refine wp_region_held_drew (S:=fun W=>ED w1 W e t n S m cap∧W.heap[mb]?=some (.map edE 3)) (by kernel_rfl) ⟨by obtain ⟨a,b,b2,d,d2,zs,hX⟩:=H1.out.1;exact ⟨_,_,_,_,_,_,hX.drew⟩,H1.out.2⟩ (fun hHeld=>?_)
   replace H1:=lh hHeld
   obtain ⟨v0,hv⟩:∃V,W.drew=V:=⟨_,rfl⟩
   rw [hv] at H1 hHeld ⊢
   clear hv
   refine tki 0 ?_
   refine tki 1 ?_
   refine tki 2 ?_
   refine tki 3 ?_
   refine tki 4 (v:=.slice (some ⟨t,0,none⟩) n n) ?_ (y:=by (intro W hSw;obtain ⟨a,b,b2,d,d2,zs,hX⟩:=hSw.1;have c1:=hX.eb.cell (c:=4) rfl;go_simp;(try with_reducible rfl)))
   refine tki 5 ?_
   refine tki 6 ?_
   refine tki 7 (v:=.pointer (some ⟨pb,0,none⟩)) ?_
   refine tki 8 (v:=.int .u8 p0) ?_ (y:=by (intro W hSw;have c1:=(PB.out W hSw.1).2;go_simp;(try with_reducible rfl)))
   refine tki 9 (v:=.pointer (some ⟨t,j,none⟩)) ?_
   obtain ⟨at',on,sm,cc,mk,zs,hX⟩:=H1.out.1
   have ct:=hX.txc HJ.out
   have ft:=hX.tb.free
   have HX:=lh hX
   have HM:=lh H1.out.2
   clear hX
   refine tkw (w1:=v0.setCell ⟨t,j,none⟩ (.int .u8 p0)) (R:=fun W=>ED w1 W e t n S m cap∧W.heap[mb]?=some (.map edE 3)) ⟨⟨_,_,_,_,_,_,HX.out.stx j CR.out.2⟩,(Below.heap_setCell v0 ⟨t,j,none⟩ _ mb (by have:=EL.out;show mb≠t;omega)).trans HM.out⟩ (fun _ h=>h) ?_
   clear ct ft HX HM H1 hHeld
   intro v1 H1 hHeld
   refine wpAnyH_done (by with_unfolding_all rfl) ?_ _
   clear hHeld n0
   obtain ⟨hE,hM⟩:=H1.out
   have HE:=lh hE
   have HM:=lh hM
   clear H1 hE hM
   rcases (show c=32∨c=33∨c=34∨(c≠32∧c≠33∧c≠34) by omega) with rfl | rfl | rfl | ⟨h1,h2,h3⟩
   ·have LK:=run_find8 Tryz.underlying232 Tryz.underlying5 HM.out (k:=32) (i:=0) (z:=.func (.func 182) #[] #[]) (by kernel_rfl)
    go_upto_region 11 with fail
    clear LK
    refine wp_region_lit ?_
    iterate 3 refine lsv (w':=v1) ?_
    refine lsce (digit_w LM.out S1.out HE.out j HJ.out) ?_
    intro vv v2 Z
    obtain ⟨⟨k,rfl⟩,hE,hC⟩:=Z.out
    have H2:=lh (⟨hE,map_ch HM.out hC (by have:=EL.out;simp;omega)⟩:ED w1 v2 e t n S m cap∧v2.heap[mb]?=some (.map edE 3))
    clear Z hE hC HE HM
    refine lsv (w':=v2) ?_
    refine wpList_nil ?_
    by_cases hk:k=0
    ·subst hk
     go_wp2
     go_roundw
     case rel=>exact ⟨j+1,HJ.out,rfl,H2.out.1,H2.out.2⟩
     case measure=>have:=HJ.out;simp [intOf];omega
    ·have k2:(k == 0)=false:=by rw [beq_eq_false_iff_ne];exact hk
     clear hk
     obtain ⟨at',on,sm,cc,mk,zs,hX⟩:=H2.out.1
     have BR:=lh (⟨H.out.1.keep hX.bb,H.out.2.trans (hX.bb.mono (Nat.le_trans (Nat.le_of_eq HG.out.symm) H.out.2.size))⟩:Bk v2 g 205 [.slice none 0 0,.int .i64 0,.int .i64 0]∧Below g w v2)
     clear hX H2
     go_upto_region 13 with fail
     refine wp_region_lit ?_
     refine lsv (v:=.agg #[.slice none 0 0,.int .i64 0,.int .i64 0]) (w':=v2) ?_
     refine lsv (w':=v2) ?_
     refine lss (cs':=[.slice none 0 0,.int .i64 0,.int .i64 0]) BR.out.1 rfl (by simp [Value.oneCell']) (by kernel_rfl) ?_
     refine lsv ?_
     refine wpList_nil ?_
     have B4:=lh (show Bk (v2.setRow g ([.slice none 0 0,.int .i64 0,.int .i64 0]:List Value).toArray) g 205 [.slice none 0 0,.int .i64 0,.int .i64 0]∧Below g w (v2.setRow g ([.slice none 0 0,.int .i64 0,.int .i64 0]:List Value).toArray) from ⟨BR.out.1.rowSet [.slice none 0 0,.int .i64 0,.int .i64 0],below_row BR.out.2 (Nat.le_refl g) _⟩)
     obtain ⟨v3,hW⟩:∃V,v2.setRow g ([.slice none 0 0,.int .i64 0,.int .i64 0]:List Value).toArray=V:=⟨_,rfl⟩
     rw [hW] at B4
     first | rw [hW] | simp only [hW]
     clear hW BR
     go_wp2
     (try simp only [Exit.inBlock,Exit.then])
     refine bodyPost_ret (res_ct Tryz.results160 _ _ g B4.out.1 rfl Tryz.underlying205 rfl (by kernel_rfl)) rfl ?_
     exact ⟨_,rfl,⟨_,_,_,_,rfl,SlV.nil⟩,HG.out▸B4.out.2⟩
   ·have LK:=run_find8 Tryz.underlying232 Tryz.underlying5 HM.out (k:=33) (i:=1) (z:=.func (.func 183) #[] #[]) (by kernel_rfl)
    go_upto_region 11 with fail
    clear LK
    refine wp_region_lit ?_
    iterate 3 refine lsv (w':=v1) ?_
    refine lsce (start_w LM.out S1.out HE.out j HJ.out) ?_
    intro vv v2 Z
    obtain ⟨⟨k,rfl⟩,hE,hC⟩:=Z.out
    have H2:=lh (⟨hE,map_ch HM.out hC (by have:=EL.out;simp;omega)⟩:ED w1 v2 e t n S m cap∧v2.heap[mb]?=some (.map edE 3))
    clear Z hE hC HE HM
    refine lsv (w':=v2) ?_
    refine wpList_nil ?_
    by_cases hk:k=0
    ·subst hk
     go_wp2
     go_roundw
     case rel=>exact ⟨j+1,HJ.out,rfl,H2.out.1,H2.out.2⟩
     case measure=>have:=HJ.out;simp [intOf];omega
    ·have k2:(k == 0)=false:=by rw [beq_eq_false_iff_ne];exact hk
     clear hk
     obtain ⟨at',on,sm,cc,mk,zs,hX⟩:=H2.out.1
     have BR:=lh (⟨H.out.1.keep hX.bb,H.out.2.trans (hX.bb.mono (Nat.le_trans (Nat.le_of_eq HG.out.symm) H.out.2.size))⟩:Bk v2 g 205 [.slice none 0 0,.int .i64 0,.int .i64 0]∧Below g w v2)
     clear hX H2
     go_upto_region 13 with fail
     refine wp_region_lit ?_
     refine lsv (v:=.agg #[.slice none 0 0,.int .i64 0,.int .i64 0]) (w':=v2) ?_
     refine lsv (w':=v2) ?_
     refine lss (cs':=[.slice none 0 0,.int .i64 0,.int .i64 0]) BR.out.1 rfl (by simp [Value.oneCell']) (by kernel_rfl) ?_
     refine lsv ?_
     refine wpList_nil ?_
     have B4:=lh (show Bk (v2.setRow g ([.slice none 0 0,.int .i64 0,.int .i64 0]:List Value).toArray) g 205 [.slice none 0 0,.int .i64 0,.int .i64 0]∧Below g w (v2.setRow g ([.slice none 0 0,.int .i64 0,.int .i64 0]:List Value).toArray) from ⟨BR.out.1.rowSet [.slice none 0 0,.int .i64 0,.int .i64 0],below_row BR.out.2 (Nat.le_refl g) _⟩)
     obtain ⟨v3,hW⟩:∃V,v2.setRow g ([.slice none 0 0,.int .i64 0,.int .i64 0]:List Value).toArray=V:=⟨_,rfl⟩
     rw [hW] at B4
     first | rw [hW] | simp only [hW]
     clear hW BR
     go_wp2
     (try simp only [Exit.inBlock,Exit.then])
     refine bodyPost_ret (res_ct Tryz.results160 _ _ g B4.out.1 rfl Tryz.underlying205 rfl (by kernel_rfl)) rfl ?_
     exact ⟨_,rfl,⟨_,_,_,_,rfl,SlV.nil⟩,HG.out▸B4.out.2⟩
   ·have LK:=run_find8 Tryz.underlying232 Tryz.underlying5 HM.out (k:=34) (i:=2) (z:=.func (.func 184) #[] #[]) (by kernel_rfl)
    go_upto_region 11 with fail
    clear LK
    refine wp_region_lit ?_
    iterate 3 refine lsv (w':=v1) ?_
    refine lsce (separate_w LM.out S1.out HE.out j) ?_
    intro vv v2 Z
    obtain ⟨⟨k,rfl⟩,hE,hC⟩:=Z.out
    have H2:=lh (⟨hE,map_ch HM.out hC (by have:=EL.out;simp;omega)⟩:ED w1 v2 e t n S m cap∧v2.heap[mb]?=some (.map edE 3))
    clear Z hE hC HE HM
    refine lsv (w':=v2) ?_
    refine wpList_nil ?_
    by_cases hk:k=0
    ·subst hk
     go_wp2
     go_roundw
     case rel=>exact ⟨j+1,HJ.out,rfl,H2.out.1,H2.out.2⟩
     case measure=>have:=HJ.out;simp [intOf];omega
    ·have k2:(k == 0)=false:=by rw [beq_eq_false_iff_ne];exact hk
     clear hk
     obtain ⟨at',on,sm,cc,mk,zs,hX⟩:=H2.out.1
     have BR:=lh (⟨H.out.1.keep hX.bb,H.out.2.trans (hX.bb.mono (Nat.le_trans (Nat.le_of_eq HG.out.symm) H.out.2.size))⟩:Bk v2 g 205 [.slice none 0 0,.int .i64 0,.int .i64 0]∧Below g w v2)
     clear hX H2
     go_upto_region 13 with fail
     refine wp_region_lit ?_
     refine lsv (v:=.agg #[.slice none 0 0,.int .i64 0,.int .i64 0]) (w':=v2) ?_
     refine lsv (w':=v2) ?_
     refine lss (cs':=[.slice none 0 0,.int .i64 0,.int .i64 0]) BR.out.1 rfl (by simp [Value.oneCell']) (by kernel_rfl) ?_
     refine lsv ?_
     refine wpList_nil ?_
     have B4:=lh (show Bk (v2.setRow g ([.slice none 0 0,.int .i64 0,.int .i64 0]:List Value).toArray) g 205 [.slice none 0 0,.int .i64 0,.int .i64 0]∧Below g w (v2.setRow g ([.slice none 0 0,.int .i64 0,.int .i64 0]:List Value).toArray) from ⟨BR.out.1.rowSet [.slice none 0 0,.int .i64 0,.int .i64 0],below_row BR.out.2 (Nat.le_refl g) _⟩)
     obtain ⟨v3,hW⟩:∃V,v2.setRow g ([.slice none 0 0,.int .i64 0,.int .i64 0]:List Value).toArray=V:=⟨_,rfl⟩
     rw [hW] at B4
     first | rw [hW] | simp only [hW]
     clear hW BR
     go_wp2
     (try simp only [Exit.inBlock,Exit.then])
     refine bodyPost_ret (res_ct Tryz.results160 _ _ g B4.out.1 rfl Tryz.underlying205 rfl (by kernel_rfl)) rfl ?_
     exact ⟨_,rfl,⟨_,_,_,_,rfl,SlV.nil⟩,HG.out▸B4.out.2⟩
   ·have LK:=run_look8 (z:=.nilFunc) Tryz.underlying232 Tryz.underlying5 HM.out (edE_no h1 h2 h3) (by kernel_rfl)
    clear h1 h2 h3
    obtain ⟨at',on,sm,cc,mk,zs,hX⟩:=HE.out
    have c2:=hX.eb.cell (c:=2) rfl
    have c4:=hX.eb.cell (c:=4) rfl
    have ct:=hX.txc HJ.out
    have ft:=hX.tb.free
    have HX:=lh hX
    clear hX
    cases on
    ·go_wp2
     go_roundw
     case rel=>exact ⟨j+1,HJ.out,rfl,HE.out,HM.out⟩
     case measure=>have:=HJ.out;simp [intOf];omega
    ·go_wp2
     go_roundw
     case rel=>exact ⟨j+1,HJ.out,rfl,⟨_,_,_,_,_,_,HX.out.stx j CR.out.1⟩,(Below.heap_setCell v1 ⟨t,j,none⟩ _ mb (by have:=EL.out;show mb≠t;omega)).trans HM.out⟩
     case measure=>have:=HJ.out;simp [intOf];omega
  ·have e1:¬(j:Int)<(n:Int):=by omega
   have HE:=lh hE
   clear hlt hj hE hM
   go_upto_region 17 with fail
   refine wp_region_lit ?_
   iterate 2 refine lsv (w':=W) ?_
   refine lsce (code_w LM.out S1.out HE.out) ?_
   intro vv v1 Z
   obtain ⟨⟨k,rfl⟩,hE,-⟩:=Z.out
   obtain ⟨at',on,sm,cc,mk,zs,hX⟩:=hE
   have c5:=hX.eb.cell (c:=5) rfl
   have f1:=hX.eb.free
   have HX:=lh hX
   clear Z hX HE
   iterate 3 refine lsv (w':=v1) ?_
   refine lsk (w':=v1.setCell ⟨e,5,none⟩ (.int .i64 k)) (by unfold execOp;go_simp;(try rfl)) ?_
   refine wpList_nil ?_
   replace HX:=lh (HX.out.scc k)
   obtain ⟨v2,hW⟩:∃V,v1.setCell ⟨e,5,none⟩ (.int .i64 k)=V:=⟨_,rfl⟩
   rw [hW] at HX
   first | rw [hW] | simp only [hW]
   clear hW c5 f1
   have BR:=lh (⟨H.out.1.keep HX.out.bb,H.out.2.trans (HX.out.bb.mono (Nat.le_trans (Nat.le_of_eq HG.out.symm) H.out.2.size))⟩:Bk v2 g 205 [.slice none 0 0,.int .i64 0,.int .i64 0]∧Below g w v2)
   go_upto_region 18 with fail
   refine wp_region_lit ?_
   iterate 3 refine lsv (w':=v2) ?_
   refine lslo (k:=e) (off:=4) (cs:=[.slice (some ⟨t,0,none⟩) n n,.int .i64 k,.int .i64 mk]) (Bk.mid (l:=[.slice S m cap,.int .i64 (at':Int),.bool on,.bool sm]) (r:=[]) HX.out.eb) ?_
   refine lss (cs':=[.slice (some ⟨t,0,none⟩) n n,.int .i64 k,.int .i64 mk]) BR.out.1 rfl (by simp [Value.oneCell']) (by kernel_rfl) ?_
   refine lsv ?_
   refine wpList_nil ?_
   have ge:g≠t:=by have:=H.out.1.lt;have:=TT.out;omega
   have B4:=lh (show Bk (v2.setRow g ([.slice (some ⟨t,0,none⟩) n n,.int .i64 k,.int .i64 mk]:List Value).toArray) g 205 [.slice (some ⟨t,0,none⟩) n n,.int .i64 k,.int .i64 mk]∧SlV 256 g (v2.setRow g ([.slice (some ⟨t,0,none⟩) n n,.int .i64 k,.int .i64 mk]:List Value).toArray) (.slice (some ⟨t,0,none⟩) n n)∧Below g w (v2.setRow g ([.slice (some ⟨t,0,none⟩) n n,.int .i64 k,.int .i64 mk]:List Value).toArray) from ⟨BR.out.1.rowSet _,⟨n,zs,own_bk2 (HX.out.tb.rowOth (Ne.symm ge) _) HX.out.ll HX.out.rr (by have:=H.out.1.lt;have:=TT.out;omega) (by have:=HN.out;omega),HN.out.2⟩,below_row BR.out.2 (Nat.le_refl g) _⟩)
   obtain ⟨v3,hW⟩:∃V,v2.setRow g ([.slice (some ⟨t,0,none⟩) n n,.int .i64 k,.int .i64 mk]:List Value).toArray=V:=⟨_,rfl⟩
   rw [hW] at B4
   first | rw [hW] | simp only [hW]
   clear hW BR HX
   go_wp2
   (try simp only [Exit.inBlock,Exit.then])
   refine bodyPost_ret (res_ct Tryz.results160 _ _ g B4.out.1 rfl Tryz.underlying205 rfl (by kernel_rfl)) rfl ?_
   exact ⟨_,rfl,⟨_,_,_,_,rfl,HG.out▸B4.out.2.1⟩,HG.out▸B4.out.2.2⟩
end Go.Proofs.YtljajnaclpbecaaGreatDoor
namespace Go.Proofs.YtljajnaclpbecaaGreatDoor
open Go.RowKit
set_option maxRecDepth 1000000
set_option maxHeartbeats 8000000
set_option linter.unusedVariables false
set_option linter.unusedSimpArgs false
theorem sgn_in (n:Int):0≤sgn n∧sgn n≤3:=by unfold sgn;split<;>(try split)<;>omega
theorem rccQ_in (n:Int):0≤rcc n∧rcc n≤3:=by unfold rcc;have:=sgn_in n;split<;>omega
theorem lcc_in (v:Int) (b:Bool):0≤lcc v b∧lcc v b≤3:=by unfold lcc;split<;>split<;>omega
theorem slc_in (v:Int) (p:Nat):0≤slc v p∧slc v p≤3:=by unfold slc;split;(· omega);(· exact sgn_in _)
theorem dlc_in (v:Int) (p:Nat):0≤dlc v p∧dlc v p≤3:=by unfold dlc;split;(· omega);(· exact sgn_in _)
theorem sgnQ_in (op v:Int):0≤sgnQ op v∧sgnQ op v≤3:=by unfold sgnQ;split;(· exact rccQ_in _);(· exact sgn_in _)
theorem cmbS_in (f:Int→Int→Int) (x y:List Int) (d:Int):∀k,0≤cmbS f x y d k∧cmbS f x y d k≤3
 | 0=>by simp [cmbS]
 | k+1=>by rw [cmbS];split;(· exact cmbS_in f x y d k);(· omega)
theorem clc_in:∀x y:List Int,0≤clc x y∧clc x y≤3
 | [],_=>by simp [clc]
 | _ :: _,[]=>by simp [clc]
 | a :: x,b :: y=>by rw [clc];split;(· exact clc_in x y);(· exact sgn_in _)
theorem scnQ_in (N:Nat) (o:Option (Nat×Int)):0≤scnQ N o∧scnQ N o≤3:=by unfold scnQ;split<;>(try split)<;>omega
theorem put_may {al:Int→Bool} {bs ks ys:List Int} {a:Int} {j:Nat} (h:(sPut al bs ks a ys).getD j 0≠bs.getD j 0):al (ks.getD (j / 2048) 0)=true:=by
 unfold sPut at h
 by_cases hc:sCode al bs.length ks a ys.length=0
 ·rw [if_pos hc] at h
  have hin:=sCode_zero hc
  obtain ⟨h0,h1,h2,h3⟩:=sIn_yes hin
  have hok:okB al ks a.toNat ys.length=true:=by
   unfold sCode at hc
   rw [if_pos hin] at hc
   by_cases ho:okB al ks a.toNat ((ys.length:Nat):Int).toNat=true
   ·simpa using ho
   ·rw [if_neg ho] at hc;omega
  have hlen:a.toNat+ys.length≤bs.length:=by omega
  simp only [List.getD_eq_getElem?_getD] at h
  rw [splice_get bs a.toNat ys hlen j] at h
  by_cases c1:j<a.toNat
  ·rw [if_pos c1] at h;exact absurd rfl h
  ·rw [if_neg c1] at h
   by_cases c2:j<a.toNat+ys.length
   ·unfold okB at hok
    rw [List.all_eq_true] at hok
    have:=hok (j - a.toNat) (List.mem_range.2 (by omega))
    rw [show a.toNat+(j - a.toNat)=j by omega] at this
    exact this
   ·rw [if_neg c2] at h;exact absurd rfl h
 ·rw [if_neg hc] at h;exact absurd rfl h
structure Mild (p:Pre) (op:Int) (br:Bool) (o:Out):Prop where
 pg:op≠4→o.pg=p.pg
 ad:br=false→o.ad=p.ad
 c:0≤o.cc∧o.cc≤3
 g:0≤o.pg∧o.pg≤15
 a:0≤o.ad∧o.ad≤16777215
 b:∀j,o.bs.getD j 0≠p.bs.getD j 0→alP p.key (p.ks.getD (j / 2048) 0)=true
def brcB (op:Int):Bool:=decide ((5≤op∧op≤7)∨(69≤op∧op≤71)∨op=134∨op=135)
section
variable {p:Pre} {op:Int} {br:Bool}
structure Okay (p:Pre):Prop where
 cc:0≤p.cc∧p.cc≤3
 pg:0≤p.pg∧p.pg≤15
 ad:0≤p.ad∧p.ad≤16777215
theorem mild_no (h:Okay p) (c:Int):Mild p op br (p.no c):=⟨fun _=>rfl,fun _=>rfl,h.cc,h.pg,h.ad,fun _ hj=>absurd rfl hj⟩
theorem mild_rg (h:Okay p) (rs:List Int):Mild p op br (p.rg rs):=⟨fun _=>rfl,fun _=>rfl,h.cc,h.pg,h.ad,fun _ hj=>absurd rfl hj⟩
theorem mild_st (h:Okay p) (rs:List Int) (q:Int) (ov:Bool) (hq:0≤q∧q≤3):Mild p op br (p.st rs q ov):=⟨fun _=>rfl,fun _=>rfl,hq,h.pg,h.ad,fun _ hj=>absurd rfl hj⟩
theorem mild_wr (h:Okay p) (a n:Int) (ys:List Int) (q:Int) (hq:0≤q∧q≤3):Mild p op br (p.wr a n ys q):=by
 unfold Pre.wr
 split
 ·exact ⟨fun _=>rfl,fun _=>rfl,hq,h.pg,h.ad,fun _ hj=>put_may hj⟩
 ·exact mild_no h _
theorem mild_br (h:Okay p) (rs:List Int) (t:Bool) (tg:Int) (ht:0≤tg∧tg≤16777215) (hb:br=true):Mild p op br (p.br rs t tg):=by
 refine ⟨fun _=>rfl,fun e=>?_,h.cc,h.pg,?_,fun _ hj=>absurd rfl hj⟩
 ·rw [hb] at e;cases e
 ·unfold Pre.br;dsimp only;split;(· exact ht);(· exact h.ad)
end
theorem one3 (c:Prop) [Decidable c]:0≤(if c then (0:Int) else 1)∧(if c then (0:Int) else 1)≤3:=by split<;>omega
theorem mild_brO (p:Pre) (op:Int) (n k:Nat) (a:Int) (h:Okay p) (ha:0≤a∧a≤16777215) (hop:op=4∨op=5∨op=6∨op=7∨op=69∨op=70∨op=71∨op=134∨op=135):Mild p op (brcB op) (brO p op n k a):=by
 have hm:∀x:Int,0≤x % 16777216∧x % 16777216≤16777215:=fun x=>by omega
 unfold brO
 by_cases h4:op=4
 ·rw [if_pos h4]
  subst h4
  exact ⟨fun e=>absurd rfl e,fun _=>rfl,⟨by dsimp only;omega,by dsimp only;omega⟩,⟨by dsimp only;omega,by dsimp only;omega⟩,h.ad,fun _ hj=>absurd rfl hj⟩
 ·have hb:brcB op=true:=by unfold brcB;simp;omega
  rw [if_neg h4]
  repeat' split
  all_goals (first | exact mild_br h _ _ _ (hm _) hb | exact mild_br h _ _ _ ha hb)
theorem mild_arO (p:Pre) (op:Int) (br:Bool) (n:Nat) (c v:Int) (h:Okay p):Mild p op br (arO p op n c v):=by
 have hi:∀ (c:Prop) [Decidable c] (x y:Out),Mild p op br x→Mild p op br y→Mild p op br (if c then x else y):=fun c _ x y hx hy=>by split;(· exact hx);(· exact hy)
 unfold arO
 repeat' (first | with_reducible exact mild_no h _ | with_reducible exact mild_rg h _ | with_reducible exact mild_st h _ _ _ (sgnQ_in _ _) | with_reducible exact mild_st h _ _ _ (rccQ_in _) | with_reducible exact mild_st h _ _ _ (lcc_in _ _) | with_reducible exact mild_st h _ _ _ (sgn_in _) | with_reducible exact mild_st h _ _ _ (one3 _) | apply hi)
theorem mild_shO (p:Pre) (op:Int) (br:Bool) (n:Nat) (a:Int) (h:Okay p):Mild p op br (shO p op n a):=by
 have hi:∀ (c:Prop) [Decidable c] (x y:Out),Mild p op br x→Mild p op br y→Mild p op br (if c then x else y):=fun c _ x y hx hy=>by split;(· exact hx);(· exact hy)
 unfold shO
 repeat' (first | with_reducible exact mild_no h _ | with_reducible exact mild_rg h _ | with_reducible exact mild_st h _ _ _ (sgn_in _) | with_reducible exact mild_st h _ _ _ (slc_in _ _) | with_reducible exact mild_st h _ _ _ (dlc_in _ _) | apply hi)
theorem mild_mvO (p:Pre) (op:Int) (br:Bool) (n m:Nat) (a:Int) (h:Okay p):Mild p op br (mvO p op n m a):=by
 have hi:∀ (c:Prop) [Decidable c] (x y:Out),Mild p op br x→Mild p op br y→Mild p op br (if c then x else y):=fun c _ x y hx hy=>by split;(· exact hx);(· exact hy)
 unfold mvO
 repeat' (first | with_reducible exact mild_no h _ | with_reducible exact mild_rg h _ | with_reducible exact mild_wr h _ _ _ _ h.cc | apply hi)
theorem mild_imO (p:Pre) (op:Int) (br:Bool) (a i:Int) (h:Okay p) (hr:∀z∈p.bs,0≤z∧z≤255):Mild p op br (imO p op a i):=by
 have hi:∀ (c:Prop) [Decidable c] (x y:Out),Mild p op br x→Mild p op br y→Mild p op br (if c then x else y):=fun c _ x y hx hy=>by split;(· exact hx);(· exact hy)
 have h7:0≤(sGet p.bs a 1).getD 0 0 / 128∧(sGet p.bs a 1).getD 0 0 / 128≤3:=by have:=sGet_in a 1 hr 0;omega
 have h3:∀ (c d:Prop) [Decidable c] [Decidable d],0≤(if c then (0:Int) else if d then 3 else 1)∧(if c then (0:Int) else if d then 3 else 1)≤3:=fun c d _ _=>by split;(· omega);(· split<;>omega)
 unfold imO
 repeat' (first | with_reducible exact mild_no h _ | with_reducible exact mild_wr h _ _ _ _ h.cc | with_reducible exact mild_st h _ _ _ (h3 _ _) | with_reducible exact mild_st h _ _ _ (sgn_in _) | with_reducible exact mild_wr h _ _ _ _ h7 | with_reducible exact mild_wr h _ _ _ _ (one3 _) | apply hi)
theorem mild_loO (p:Pre) (op:Int) (br:Bool) (N:Nat) (a b:Int) (h:Okay p):Mild p op br (loO p op N a b):=by
 have hi:∀ (c:Prop) [Decidable c] (x y:Out),Mild p op br x→Mild p op br y→Mild p op br (if c then x else y):=fun c _ x y hx hy=>by split;(· exact hx);(· exact hy)
 have hc:∀ (c:Prop) [Decidable c] (x:Int),0≤x∧x≤3→0≤(if c then x else p.cc)∧(if c then x else p.cc)≤3:=fun c _ x hx=>by split;(· exact hx);(· exact h.cc)
 have hs:Mild p op br (match scn p.bs p.ks p.key a b N 0 with | (c,o)=>if c=0 then ⟨0,scnR p.os p.os a o,scnQ N o,p.pg,p.ad,false,p.bs⟩ else p.no c):=by
  obtain ⟨c,o⟩:=scn p.bs p.ks p.key a b N 0
  dsimp only
  apply hi
  ·exact ⟨fun _=>rfl,fun _=>rfl,scnQ_in _ _,h.pg,h.ad,fun _ hj=>absurd rfl hj⟩
  ·exact mild_no h _
 unfold loO
 repeat' (first | exact hs | with_reducible exact mild_no h _ | with_reducible exact mild_wr h _ _ _ _ h.cc | with_reducible exact mild_st h _ _ _ (clc_in _ _) | with_reducible exact mild_wr h _ _ _ _ (hc _ _ (cmbS_in _ _ _ _ _)) | apply hi)
theorem mild_exO (p:Pre) (op fm:Int) (n k:Nat) (a1 a:Int) (l1:Nat) (i2:Int) (h:Okay p) (hr:∀z∈p.bs,0≤z∧z≤255) (ha:0≤a∧a≤16777215) (hkn:kn op=true):Mild p op (brcB op) (exO p op fm n k a1 a l1 i2):=by
 have hi:∀ (c:Prop) [Decidable c] (x y:Out),Mild p op (brcB op) x→Mild p op (brcB op) y→Mild p op (brcB op) (if c then x else y):=fun c _ x y hx hy=>by split;(· exact hx);(· exact hy)
 unfold exO
 by_cases hb:op<16∨(69≤op∧op≤71)∨op=134∨op=135
 ·rw [if_pos hb]
  refine mild_brO p op n k a h ha ?_
  have:∀x∈knL,(x<16∨(69≤x∧x≤71)∨x=134∨x=135)→(x=4∨x=5∨x=6∨x=7∨x=69∨x=70∨x=71∨x=134∨x=135):=by decide +kernel
  exact this op (of_decide_eq_true hkn) hb
 ·rw [if_neg hb]
  repeat' (first | with_reducible exact mild_shO _ _ _ _ _ h | with_reducible exact mild_rg h _ | with_reducible exact mild_mvO _ _ _ _ _ _ h | with_reducible exact mild_imO _ _ _ _ _ h hr | with_reducible exact mild_loO _ _ _ _ _ _ h | with_reducible exact mild_arO _ _ _ _ _ _ h | apply hi)
def Dz (A:Value→World→Prop) (B:World→Prop) (e:Ending) (w':World):Prop:=(∃v,e=.returned v∧A v w')∨(∃c:Int,e=.panicked [{ v:=.iface 129 (.int .i64 c),recovered:=false }]∧B w')
theorem Dz.mono {A A':Value→World→Prop} {B B':World→Prop} {e:Ending} {w':World} (h:Dz A B e w') (hA:∀v,A v w'→A' v w') (hB:B w'→B' w'):Dz A' B' e w':=by
 rcases h with ⟨v,e1,h⟩ | ⟨c,e1,h⟩
 ·exact .inl ⟨v,e1,hA v h⟩
 ·exact .inr ⟨c,e1,hB h⟩
section
variable {P:Program} {ops:Array Oper} {rest:List Oper} {o:Oper} {act:Act} {Q:Exit→Act→World→Prop} {w:World}
theorem lsd {f:FuncId} {args:Array Value} {A:Value→World→Prop} {B:World→Prop} {X:Value→World→Prop} (hc:Calls P f args w (Dz A B)) (hp:∀ (c:Int) w',B w'→Q (.panic [{ v:=.iface 129 (.int .i64 c),recovered:=false }]) act w') (h:∀v w',Hid (A v w')→X v w') (hg:Region.wanted o (yielded ops act.tmps)=true:=by rfl) (hx:(execOp act.eval o).run P w=.ok (.enter f args) w:=by (go_simp;(try with_reducible rfl)))
  (hP:∀v w',wpList P ops Q rest (act.put o.dst v) w'=X v w':=by (intro v w';simp only [Act.put,List.setIfInBounds_toArray,List.set_cons_zero,List.set_cons_succ];try rfl)):wpList P ops Q (o :: rest) act w:=by
 refine wpList_step fun K hK=>?_
 rw [hg,if_pos rfl]
 unfold Oper.wp
 rw [hx]
 refine Calls.mono hc fun e w' he=>?_
 rcases he with ⟨v,rfl,hR⟩ | ⟨c,rfl,hR⟩
 ·exact hK _ _ ((hP v w').symm▸h v w' (lh hR))
 ·exact hp c w' hR
end
section
variable {P:Program} {L:List Oper} {Q:Exit→Act→World→Prop} {md:Region.Mode} {S:World→Prop} {i:Nat} {oi:Oper} {fuel:Nat} {listed:Array Bool} {a:Act} {w:World}
theorem tkde {f:FuncId} {args:Array Value} {A:Value→World→Prop} {B:World→Prop} {X:Value→World→Prop} (hc:Calls P f args w (Dz A B)) (hAS:∀v w',A v w'→S w') (hp:∀ (c:Int) w',B w'→Q (.panic [{ v:=.iface 129 (.int .i64 c),recovered:=false }]) a w') (h:∀v w',Hid (A v w')→S w'→X v w') (hr:Region.ready md L.toArray listed=[i]:=by with_unfolding_all rfl) (hi:L[i]?=some oi:=by rfl)
  (hw:Region.wanted oi (yielded L.toArray a.tmps)=true:=by rfl) (hx:(execOp a.eval oi).run P w=.ok (.enter f args) w:=by (go_simp;(try with_reducible rfl)))
  (hP:∀v w',wpAnyH P md L.toArray Q S fuel (listed.setIfInBounds i true) (a.put oi.dst v) w'=X v w':=by (intro v w';simp only [Act.put,List.setIfInBounds_toArray,List.set_cons_zero,List.set_cons_succ];try rfl)):wpAnyH P md L.toArray Q S (fuel+1) listed a w:=by
 refine ⟨fun h0=>(by rw [hr] at h0;cases h0),fun j hj=>?_⟩
 rw [hr,List.mem_singleton] at hj
 subst hj
 have hi':L.toArray[j]?=some oi:=by simpa using hi
 unfold wpOp
 simp only [hi',hw,if_true]
 refine .inl ?_
 unfold Oper.wp
 rw [hx]
 refine Calls.mono hc fun e w' he=>?_
 rcases he with ⟨v,rfl,hR⟩ | ⟨c,rfl,hR⟩
 ·exact ⟨hAS _ _ hR,(hP v w').symm▸h v w' (lh hR) (hAS _ _ hR)⟩
 ·exact hp c w' hR
end
def MB (k:Int) (ks z bs:List Int):Prop:=bs.length=z.length∧∀j,bs.getD j 0≠z.getD j 0→alP k (ks.getD (j / 2048) 0)=true
theorem MB.refl (k:Int) (ks z:List Int):MB k ks z z:=⟨rfl,fun j h=>absurd rfl h⟩
theorem MB.put {k:Int} {ks z bs:List Int} (h:MB k ks z bs) (a:Int) (ys:List Int) (hl:(sPut (alP k) bs ks a ys).length=bs.length):MB k ks z (sPut (alP k) bs ks a ys):=by
 refine ⟨hl.trans h.1,fun j hj=>?_⟩
 by_cases he:(sPut (alP k) bs ks a ys).getD j 0=bs.getD j 0
 ·exact h.2 j (he▸hj)
 ·exact put_may he
structure DX (w0 w:World) (g:Nat) (F:Foot) (ix rs:List Int) (p:Ps) (bs ks:List Int) (k:Int) (P W:Bool) (z:List Int):Prop where
 dr:DR w w g F ix rs p bs ks
 ro:∀x∈rs,0≤x∧x≤4294967295
 pk:p.key=k
 pP:p.P=P
 pW:p.W=W
 mb:MB k ks z bs
 ch:Ch w0 w [g,F.gb]
 nn:g<w0.heap.size∧F.gb<w0.heap.size∧2<w0.heap.size∧g≠2∧F.gb≠2
 tb : Lib.TabIs Tryz.prog w "internal/strconv.uint64pow10" .u64 Lib.pow10Tab
def DE (w0 w:World) (g:Nat) (F:Foot) (ix ks:List Int) (k:Int) (P W:Bool) (z:List Int):Prop:=∃ (rs:List Int) (p:Ps) (bs:List Int),DX w0 w g F ix rs p bs ks k P W z
section
variable {w0 w w':World} {g:Nat} {F:Foot} {ix rs bs ks z:List Int} {p:Ps} {k:Int} {P W:Bool}
theorem DX.sz (h:DX w0 w g F ix rs p bs ks k P W z):w0.heap.size≤w.heap.size:=h.ch.size
theorem DX.keep (h:DX w0 w g F ix rs p bs ks k P W z) (hb:Below w.heap.size w w'):DX w0 w' g F ix rs p bs ks k P W z:={ h with dr:=(h.dr.keep hb).rb,ch:=h.ch.trans (Ch.of_below hb _),tb:=tab_ch2 h.tb (Ch.of_below hb []) ⟨by simp,by have:=h.nn;have:=h.sz;omega⟩ }
theorem DX.drew (h:DX w0 w g F ix rs p bs ks k P W z):DX w0 w.drew g F ix rs p bs ks k P W z:=h.keep (dBelow' (Below.refl _ _) 1)
theorem DX.put {bs':List Int} (h:DX w0 w g F ix rs p bs ks k P W z) (hd:DR w w' g F ix rs p bs' ks) (hm:MB k ks z bs') (hc:Ch w w' [F.gb]):DX w0 w' g F ix rs p bs' ks k P W z:={ h with dr:=hd.rb,mb:=hm,ch:=h.ch.trans (hc.mono (by simp)),tb:=tab_ch2 h.tb hc ⟨by have:=h.nn;simp;omega,by have:=h.nn;have:=h.sz;omega⟩ }
theorem SlV.ch {n B:Nat} {v:Value} (h:SlV n B w v) {L:List Nat} (hc:Ch w w' L) (hL:∀b∈L,b<B):SlV n B w' v:=by
 obtain ⟨m,ys,ho,hm⟩:=h
 refine ⟨m,ys,⟨⟨ho.1.1,?_⟩,ho.2⟩,hm⟩
 rcases ho.1.2 with h0 | ⟨b,cap,cur,rfl,hb,hh,r⟩
 ·exact .inl h0
 ·exact .inr ⟨b,cap,cur,rfl,hb,(hc.block b (Array.getElem?_eq_some_iff.1 hh).1 (fun hm=>by have:=hL b hm;omega)).trans hh,r⟩
def FeV (n B:Nat) (w:World) (v:Value):Prop:=∃ (b cap:Nat) (ys:List Int),v=.slice (some ⟨b,0,none⟩) n cap∧Own w B v n ys
theorem FeV.keep {n B:Nat} {v:Value} (h:FeV n B w v) (hb:Below w.heap.size w w'):FeV n B w' v:=by
 obtain ⟨b,cap,ys,e,ho⟩:=h
 exact ⟨b,cap,ys,e,ho.below hb fun g e=>(ho.1.lt g e).2⟩
theorem FeV.base {n B B':Nat} {v:Value} (h:FeV n B w v) (hB:B'≤B):FeV n B' w v:=by
 obtain ⟨b,cap,ys,e,ho⟩:=h
 exact ⟨b,cap,ys,e,own_le ho hB⟩
theorem and24 {a:Int} (h0:0≤a) (h1:a≤4294967295):bits .and .u32 a 16777215=a % 16777216:=u32_low 24 16777215 a rfl (by omega) h0 h1
end
theorem check_w (c:Int) (w:World):Calls Tryz.prog 83 #[.int .i64 c] w (Dz (fun v w'=>v=.tuple #[]∧c=0∧w=w') (fun w'=>w=w')):=by
 by_cases hc:c=0
 ·subst hc
  exact (dcheck_c w).mono fun e w' ⟨h1,h2⟩=>.inl ⟨_,h1,rfl,rfl,h2⟩
 ·have e1:(c == 0)=false:=by rw [beq_eq_false_iff_ne];exact hc
  clear hc
  go_enter Tryz.func83,Tryz.ntmps83
  go_wp2
  exact ⟨rfl,.inr ⟨_,rfl,rfl⟩⟩
theorem need_w (b:Bool) (w:World):Calls Tryz.prog 79 #[.bool b] w (Dz (fun v w'=>v=.tuple #[]∧b=true∧w=w') (fun w'=>w=w')):=by
 cases b
 ·go_enter Tryz.func79,Tryz.ntmps79
  go_upto_region 1 with fail
  refine wp_region_lit ?_
  refine lsd (check_w 6 w) (by intro c w' hB;exact ⟨rfl,.inr ⟨c,rfl,hB⟩⟩) ?_
  intro v w' Z
  exact absurd Z.out.2.1 (by omega)
 ·exact (dneed_c w).mono fun e w' ⟨h1,h2⟩=>.inl ⟨_,h1,rfl,rfl,h2⟩
theorem daddr_w {ix rs bs ks:List Int} {p:Ps} {g:Nat} {F:Foot} {w:World} {b n cap:Nat} {d:Int} {xs:List Int} (hD:DR w w g F ix rs p bs ks) (ro:∀x∈rs,0≤x∧x≤4294967295) (hn:n≤2) (d0:0≤d∧d≤4095) (hc:∀i,i<n→w.cell? ⟨b,i,none⟩=some (.int .i64 (xs.getD i 0))) (hx:∀i,i<n→0≤xs.getD i 0∧xs.getD i 0<16):Calls Tryz.prog 141 #[.pointer (some ⟨g,0,none⟩),.int .i64 d,.slice (some ⟨b,0,none⟩) n cap] w fun e w'=>∃v,e=.returned v∧(∃a:Nat,a<16777216∧v=.int .i64 (a:Int))∧w=w':=by
 have HC:=lh hc
 have HX:=lh hx
 have HR:=lh (show ∀r:Nat,r<16→w.cell? ⟨g,12+r,none⟩=some (.int .u32 (rs.getD r 0)) from fun r hr=>by
  refine hD.rowR r _ ?_
  rw [List.getElem?_map,List.getElem?_eq_getElem (by rw [hD.rl];omega),List.getD_eq_getElem?_getD,List.getElem?_eq_getElem (by rw [hD.rl];omega)]
  rfl)
 have h1:IntKind.u32.wrap d=d:=by rw [IntKind.wrap_u32];omega
 have D0:=lh d0
 clear hc hx hD ro d0
 go_enter Tryz.func141,Tryz.ntmps141
 go_wp2
 clear h1
 go_loopw [7,14] (fun s x W=>∃ (k:Nat) (u:Int),k≤n∧x=.int .i64 (k:Int)∧s=.int .u32 u∧(0≤u∧u≤4294967295)∧w=W) (fun _ x _=>n - (intOf x).toNat)
 case atStart=>exact ⟨0,d,Nat.zero_le _,rfl,rfl,by have:=D0.out;omega,rfl⟩
 case round=>
  obtain ⟨k,u,hk,rfl,rfl,hu,rfl⟩:=hrel
  by_cases hlt:k<n
  ·have k1:(k:Int)<(n:Int):=by omega
   have c:=HC.out k hlt
   have hx:=HX.out k hlt
   have kw:IntKind.i64.wrap ((k:Int)+1)=(k:Int)+1:=wrap_i64_id (by omega) (by omega)
   obtain ⟨x,hx1⟩:∃x,xs.getD k 0=x:=⟨_,rfl⟩
   rw [hx1] at c hx
   have HK:=lh hlt
   have HU:=lh hu
   clear hx1 hlt hk hu
   by_cases h0:x=0
   ·subst h0
    clear hx
    go_wp2
    go_roundw
    case rel=>exact ⟨k+1,u,HK.out,rfl,rfl,HU.out,trivial⟩
    case measure=>have:=HK.out;simp [intOf];omega
   ·have e0:(x == 0)=false:=by rw [beq_eq_false_iff_ne];exact h0
    obtain ⟨r,rfl⟩:=Int.eq_ofNat_of_zero_le hx.1
    have x1:(r:Int)<16:=hx.2
    have cr:=HR.out r (by omega)
    obtain ⟨y,hy⟩:∃y,rs.getD r 0=y:=⟨_,rfl⟩
    rw [hy] at cr
    obtain ⟨q,hq⟩:∃q,IntKind.u32.wrap (u+y)=q:=⟨_,rfl⟩
    have QR:=lh (show 0≤q∧q≤4294967295 by rw [← hq,IntKind.wrap_u32];omega)
    clear hx h0 hy
    go_wp2
    go_roundw
    case rel=>exact ⟨k+1,q,HK.out,rfl,by simp [hq],QR.out,trivial⟩
    case measure=>have:=HK.out;simp [intOf];omega
  ·have k1:¬((k:Int)<(n:Int)):=by omega
   have e1:=and24 hu.1 hu.2
   obtain ⟨a,ha⟩:∃a:Nat,u % 16777216=(a:Int):=⟨(u % 16777216).toNat,by omega⟩
   have A1:=lh (show a<16777216 by omega)
   rw [ha] at e1
   have e2:IntKind.i64.wrap (a:Int)=(a:Int):=wrap_i64_id (by omega) (by have:=A1.out;omega)
   clear hu ha hk hlt
   go_wp2
   go_ret
   exact ⟨_,rfl,⟨a,A1.out,rfl⟩,rfl⟩
def AdV (v:Value):Prop:=∃a:Nat,a<16777216∧v=.int .i64 (a:Int)
section
variable {w0 w w':World} {g:Nat} {F:Foot} {rs:List Int} {p:Ps} {bs ks z:List Int} {op fm r1 r2 x2 b1 d1 b2 d2 l1 l2 i2 k:Int} {P W:Bool}
theorem da_w (h:DR w0 w g F [op,fm,r1,r2,x2,b1,d1,b2,d2,l1,l2,i2] rs p bs ks) (ro:∀x∈rs,0≤x∧x≤4294967295) (h0:0≤b2∧b2<16) (h1:0≤x2∧x2<16) (hd:0≤d2∧d2<4096):Calls Tryz.prog 80 #[.pointer (some ⟨g,0,none⟩)] w fun e w'=>∃v,e=.returned v∧AdV v∧Below w.heap.size w w':=by
 have AC:=lh (fun W (hD:DR W W g F [op,fm,r1,r2,x2,b1,d1,b2,d2,l1,l2,i2] rs p bs ks) b cap hc=>daddr_w (b:=b) (n:=2) (cap:=cap) (d:=d2) (xs:=[b2,x2]) hD ro (by omega) (by omega) hc (by intro i hi;rcases i with _ | _ | i<;>first | exact h0 | exact h1 | omega))
 have H:=lh h
 clear h ro h0 h1 hd
 go_enter Tryz.func80,Tryz.ntmps80
 go_upto_region 1 with fail
 refine wp_region_held_drew (S:=fun W=>∃b,DR w0 W g F [op,fm,r1,r2,x2,b1,d1,b2,d2,l1,l2,i2] rs p b ks∧Below w.heap.size w W) (by kernel_rfl) ⟨_,H.out.drew,dBelow' (Below.refl _ _) 1⟩ (fun hHeld=>?_)
 have Z:=lh (show DR w0 w.drew g F [op,fm,r1,r2,x2,b1,d1,b2,d2,l1,l2,i2] rs p bs ks∧Below w.heap.size w w.drew from ⟨H.out.drew,dBelow' (Below.refl _ _) 1⟩)
 obtain ⟨v0,hv⟩:∃V,w.drew=V:=⟨_,rfl⟩
 rw [hv] at Z hHeld ⊢
 clear hv H
 repeat refine tkd ?_
 refine tk1 (i:=16) (by with_unfolding_all rfl) ?_
 refine opb (v:=.slice (some ⟨v0.heap.size,0,none⟩) 2 2) (w1:=v0.alloc (.cells ([.int .i64 b2,.int .i64 x2]:List Value).toArray 3)) (R:=fun W=>(DR w0 W g F [op,fm,r1,r2,x2,b1,d1,b2,d2,l1,l2,i2] rs p bs ks∧Below w.heap.size w W)∧Bk W v0.heap.size 3 [.int .i64 b2,.int .i64 x2]) ⟨⟨Z.out.1.keep ((Below.refl _ _).alloc (Nat.le_refl _) _),Z.out.2.trans (((Below.refl _ _).alloc (Nat.le_refl _) _).mono Z.out.2.size)⟩,Bk.new _ _ _⟩ (fun _ h=>⟨_,h.1⟩) ?_
 clear Z hHeld
 intro v1 Z hHeld
 refine tkce (R:=fun v W=>AdV v∧(DR w0 W g F [op,fm,r1,r2,x2,b1,d1,b2,d2,l1,l2,i2] rs p bs ks∧Below w.heap.size w W)) ((AC.out v1 Z.out.1.1.rb _ _ (fun i hi=>Z.out.2.cell (by rcases i with _ | _ | i<;>first | rfl | omega))).mono fun e w' ⟨v,he,hv,hw⟩=>⟨v,he,hv,hw▸Z.out.1⟩) (fun _ _ h=>⟨_,h.2⟩) ?_
 clear Z hHeld AC
 intro vv v2 Z hHeld
 obtain ⟨⟨a,ha,rfl⟩,hZ⟩:=Z.out
 have HA:=lh ha
 have HZ:=lh hZ
 clear ha hZ Z
 repeat refine tkd ?_
 refine wpAnyH_done (by with_unfolding_all rfl) ?_ _
 clear hHeld
 go_wp2
 go_ret
 exact ⟨_,rfl,⟨a,HA.out,rfl⟩,HZ.out.2⟩
theorem da1_w (h:DR w0 w g F [op,fm,r1,r2,x2,b1,d1,b2,d2,l1,l2,i2] rs p bs ks) (ro:∀x∈rs,0≤x∧x≤4294967295) (h0:0≤b1∧b1<16) (hd:0≤d1∧d1<4096):Calls Tryz.prog 86 #[.pointer (some ⟨g,0,none⟩)] w fun e w'=>∃v,e=.returned v∧AdV v∧Below w.heap.size w w':=by
 have AC:=lh (fun W (hD:DR W W g F [op,fm,r1,r2,x2,b1,d1,b2,d2,l1,l2,i2] rs p bs ks) b cap hc=>daddr_w (b:=b) (n:=1) (cap:=cap) (d:=d1) (xs:=[b1]) hD ro (by omega) (by omega) hc (by intro i hi;rcases i with _ | _ | i<;>first | exact h0 | exact h1 | omega))
 have H:=lh h
 clear h ro h0 hd
 go_enter Tryz.func86,Tryz.ntmps86
 go_upto_region 1 with fail
 refine wp_region_held_drew (S:=fun W=>∃b,DR w0 W g F [op,fm,r1,r2,x2,b1,d1,b2,d2,l1,l2,i2] rs p b ks∧Below w.heap.size w W) (by kernel_rfl) ⟨_,H.out.drew,dBelow' (Below.refl _ _) 1⟩ (fun hHeld=>?_)
 have Z:=lh (show DR w0 w.drew g F [op,fm,r1,r2,x2,b1,d1,b2,d2,l1,l2,i2] rs p bs ks∧Below w.heap.size w w.drew from ⟨H.out.drew,dBelow' (Below.refl _ _) 1⟩)
 obtain ⟨v0,hv⟩:∃V,w.drew=V:=⟨_,rfl⟩
 rw [hv] at Z hHeld ⊢
 clear hv H
 repeat refine tkd ?_
 refine tk1 (i:=11) (by with_unfolding_all rfl) ?_
 refine opb (v:=.slice (some ⟨v0.heap.size,0,none⟩) 1 1) (w1:=v0.alloc (.cells ([.int .i64 b1]:List Value).toArray 3)) (R:=fun W=>(DR w0 W g F [op,fm,r1,r2,x2,b1,d1,b2,d2,l1,l2,i2] rs p bs ks∧Below w.heap.size w W)∧Bk W v0.heap.size 3 [.int .i64 b1]) ⟨⟨Z.out.1.keep ((Below.refl _ _).alloc (Nat.le_refl _) _),Z.out.2.trans (((Below.refl _ _).alloc (Nat.le_refl _) _).mono Z.out.2.size)⟩,Bk.new _ _ _⟩ (fun _ h=>⟨_,h.1⟩) ?_
 clear Z hHeld
 intro v1 Z hHeld
 refine tkce (R:=fun v W=>AdV v∧(DR w0 W g F [op,fm,r1,r2,x2,b1,d1,b2,d2,l1,l2,i2] rs p bs ks∧Below w.heap.size w W)) ((AC.out v1 Z.out.1.1.rb _ _ (fun i hi=>Z.out.2.cell (by rcases i with _ | _ | i<;>first | rfl | omega))).mono fun e w' ⟨v,he,hv,hw⟩=>⟨v,he,hv,hw▸Z.out.1⟩) (fun _ _ h=>⟨_,h.2⟩) ?_
 clear Z hHeld AC
 intro vv v2 Z hHeld
 obtain ⟨⟨a,ha,rfl⟩,hZ⟩:=Z.out
 have HA:=lh ha
 have HZ:=lh hZ
 clear ha hZ Z
 repeat refine tkd ?_
 refine wpAnyH_done (by with_unfolding_all rfl) ?_ _
 clear hHeld
 go_wp2
 go_ret
 exact ⟨_,rfl,⟨a,HA.out,rfl⟩,HZ.out.2⟩
theorem dfet_w {a n:Nat} (h:DR w0 w g F [op,fm,r1,r2,x2,b1,d1,b2,d2,l1,l2,i2] rs p bs ks) (hn:1≤n∧n≤1000):Calls Tryz.prog 82 #[.pointer (some ⟨g,0,none⟩),.int .i64 (a:Int),.int .i64 (n:Int)] w (Dz (fun v w'=>FeV n w.heap.size w' v∧Below w.heap.size w w') (fun w'=>Below w.heap.size w w')):=by
 have FC:=lh (fun W (H:DR w0 W g F [op,fm,r1,r2,x2,b1,d1,b2,d2,l1,l2,i2] rs p bs ks)=>show Calls Tryz.prog 47 #[.pointer (some ⟨F.g,0,none⟩),.int .i64 (a:Int),.int .i64 (n:Int),.int .i64 p.key] W fun e w'=>∃v,e=.returned v∧∃ (v1:Value) (cd:Int),v=.tuple #[v1,.int .i64 cd]∧(cd=0→FeV n W.heap.size w' v1)∧Below W.heap.size W w' from by
  have hf:=fetch_c W H.st (a:Int) (n:Int) p.key
  refine hf.mono ?_
  rintro e w' ⟨A,l,cap,rfl,hO,hb⟩
  refine ⟨_,rfl,_,_,rfl,fun hc=>?_,hb⟩
  have hg:(sGet bs (a:Int) (n:Int)).length=n:=by
   have h1:=sCode_zero hc
   obtain ⟨_,_,_,_⟩:=sIn_yes h1
   unfold sGet;rw [if_pos h1];simp;omega
  rw [show sFet (alF p.key) bs ks (a:Int) (n:Int)=sGet bs (a:Int) (n:Int) from by unfold sFet;rw [if_pos hc]] at hO
  obtain rfl:l=n:=hO.len.symm.trans hg
  obtain ⟨b,cap',hv,h1,h2,-,-⟩:=hO.pos (by omega)
  rw [hv] at hO ⊢
  exact ⟨b,cap',_,rfl,hO⟩)
 have H:=lh h
 obtain ⟨A,hA⟩:∃A:Int,(a:Int)=A:=⟨_,rfl⟩
 rw [hA] at FC ⊢
 clear h hn hA
 go_enter Tryz.func82,Tryz.ntmps82
 go_upto_region 1 with fail
 refine wp_region_held_drew (S:=fun W=>∃b,DR w0 W g F [op,fm,r1,r2,x2,b1,d1,b2,d2,l1,l2,i2] rs p b ks∧True) (by kernel_rfl) ⟨_,H.out.drew,trivial⟩ (fun hHeld=>?_)
 replace H:=lh H.out.drew
 obtain ⟨v0,hv⟩:∃V,w.drew=V:=⟨_,rfl⟩
 have L0:=lh (show Below w.heap.size w v0 from hv▸dBelow' (Below.refl _ _) 1)
 rw [hv] at H hHeld ⊢
 clear hv
 repeat refine tkd ?_
 refine tkce (R:=fun v W=>(∃ (v1:Value) (cd:Int),v=.tuple #[v1,.int .i64 cd]∧(cd=0→FeV n v0.heap.size W v1)∧Below v0.heap.size v0 W)∧DR w0 W g F [op,fm,r1,r2,x2,b1,d1,b2,d2,l1,l2,i2] rs p bs ks) ((FC.out _ H.out).mono fun e w' ⟨v,he,v1,cd,hv,h0,hb⟩=>⟨v,he,⟨v1,cd,hv,h0,hb⟩,H.out.keep hb⟩) (fun _ _ h=>⟨_,h.2,trivial⟩) ?_
 clear H hHeld FC
 intro vv w1 Z hHeld
 obtain ⟨⟨v1,cd,rfl,h0,hB⟩,hD⟩:=Z.out
 have L1:=lh (L0.out.trans (hB.mono L0.out.size))
 have Y:=lh (fun hc=>(h0 hc).base L0.out.size)
 clear Z hD hB h0
 repeat refine tkd ?_
 refine wpAnyH_done (by with_unfolding_all rfl) ?_ _
 clear hHeld
 go_upto_region 2 with fail
 refine wp_region_lit ?_
 refine lsv (w':=w1) ?_
 refine lsd (check_w cd w1) (by intro c w' hB;obtain rfl:=hB;exact ⟨rfl,.inr ⟨c,rfl,L1.out⟩⟩) ?_
 intro vv w2 Z
 obtain ⟨rfl,hc,rfl⟩:=Z.out
 have V1:=lh (Y.out hc)
 clear Z hc Y
 refine wpList_nil ?_
 go_wp2
 go_ret
 exact .inl ⟨_,rfl,V1.out,L1.out⟩
theorem dput_w {a:Int} {n B:Nat} {v:Value} (h:DX w0 w g F [op,fm,r1,r2,x2,b1,d1,b2,d2,l1,l2,i2] rs p bs ks k P W z) (hv:SlV n B w v) (hn:n≤1000):Calls Tryz.prog 84 #[.pointer (some ⟨g,0,none⟩),.int .i64 a,v] w (Dz (fun v w'=>v=.tuple #[]∧(∃bs',DX w0 w' g F [op,fm,r1,r2,x2,b1,d1,b2,d2,l1,l2,i2] rs p bs' ks k P W z)∧Ch w w' [F.gb]) (fun w'=>(∃bs',DX w0 w' g F [op,fm,r1,r2,x2,b1,d1,b2,d2,l1,l2,i2] rs p bs' ks k P W z)∧Ch w w' [F.gb])):=by
 obtain ⟨m,ys,ho,hm⟩:=hv
 obtain ⟨A,cap,rfl,-⟩:=own_shape ho
 have PC:=lh (fun W' (hW:DR w W' g F [op,fm,r1,r2,x2,b1,d1,b2,d2,l1,l2,i2] rs p bs ks) (hY:Byt W' A m ys)=>(put_c W' hW.st a p.key A m cap ys hY (by omega)).mono (R':=fun e w'=>∃cd:Int,e=.returned (.int .i64 cd)∧DR w w' g F [op,fm,r1,r2,x2,b1,d1,b2,d2,l1,l2,i2] rs p (sPut (alP p.key) bs ks a ys) ks∧Ch W' w' [F.gb]) fun e w' h'=>⟨_,h'.1,hW.put_ h'.2.1 (Ch.of_grown h'.2.2),Ch.of_grown h'.2.2⟩)
 have Y:=lh ho.byt
 have HX:=lh h
 have PX:=lh (show ∀w',DR w w' g F [op,fm,r1,r2,x2,b1,d1,b2,d2,l1,l2,i2] rs p (sPut (alP p.key) bs ks a ys) ks→Ch w w' [F.gb]→∃bs',DX w0 w' g F [op,fm,r1,r2,x2,b1,d1,b2,d2,l1,l2,i2] rs p bs' ks k P W z from fun w' hd hc=>⟨_,h.put hd (h.pk▸(h.pk.symm▸h.mb:MB p.key ks z bs).put a ys (by rw [hd.st.ln,h.dr.st.ln])) hc⟩)
 obtain ⟨bs2,hb2⟩:∃b,sPut (alP p.key) bs ks a ys=b:=⟨_,rfl⟩
 rw [hb2] at PC PX
 have H:=lh h.dr
 clear h ho hm hb2
 go_enter Tryz.func84,Tryz.ntmps84
 go_upto_region 0 with fail
 refine wp_region_held_drew (S:=fun W'=>∃b,DR w W' g F [op,fm,r1,r2,x2,b1,d1,b2,d2,l1,l2,i2] rs p b ks∧True) (by kernel_rfl) ⟨_,H.out.drew,trivial⟩ (fun hHeld=>?_)
 replace H:=lh H.out.drew
 replace Y:=lh (show Byt w.drew A m ys from Y.out.keep (dBelow' (Below.refl _ _) 1))
 have C0:=lh (show Ch w w.drew [F.gb] from Ch.of_below (dBelow' (Below.refl w.heap.size w) 1) [F.gb])
 obtain ⟨v0,hv⟩:∃V,w.drew=V:=⟨_,rfl⟩
 rw [hv] at H hHeld Y C0 ⊢
 clear hv
 repeat refine tkd ?_
 refine tkce (R:=fun v W'=>(∃cd:Int,v=.int .i64 cd)∧DR w W' g F [op,fm,r1,r2,x2,b1,d1,b2,d2,l1,l2,i2] rs p bs2 ks∧Ch w W' [F.gb]) ((PC.out _ H.out Y.out).mono fun e w' ⟨cd,h1,h2,h3⟩=>⟨_,h1,⟨cd,rfl⟩,h2,C0.out.trans h3⟩) (fun _ _ h=>⟨_,h.2.1,trivial⟩) ?_
 clear H Y PC C0 hHeld
 intro vv w1 Z hHeld
 obtain ⟨⟨cd,rfl⟩,h1,h2⟩:=Z.out
 have H:=lh h1
 have C:=lh h2
 have X:=lh (PX.out w1 h1 h2)
 clear Z h1 h2 PX
 repeat refine tkd ?_
 refine tkde (A:=fun v W'=>v=.tuple #[]∧DR w W' g F [op,fm,r1,r2,x2,b1,d1,b2,d2,l1,l2,i2] rs p bs2 ks∧W'=w1) (B:=fun W'=>W'=w1) ((check_w cd w1).mono fun e w' h=>h.mono (fun v h=>⟨h.1,h.2.2▸H.out,h.2.2.symm⟩) (fun h=>h.symm)) (fun _ _ h=>⟨_,h.2.1,trivial⟩) (by intro c w' hB;obtain rfl:=hB;exact ⟨rfl,.inr ⟨c,rfl,X.out,C.out⟩⟩) ?_
 clear hHeld
 intro vv w2 Z hHeld
 obtain ⟨rfl,-,rfl⟩:=Z.out
 refine wpAnyH_done (by with_unfolding_all rfl) ?_ _
 clear hHeld
 go_wp2
 go_end0
 exact .inl ⟨_,rfl,rfl,X.out,C.out⟩
end
theorem admits_c (m k:Int) (M W P:Bool) (c i q g a:Int) (cl code ch:Int) (w:World):Calls Tryz.prog 34 #[.agg #[.int .i64 m,.int .i64 k,.bool M,.bool W,.bool P,.int .i64 c,.int .i64 i,.int .i64 q,.int .i64 g,.int .i64 a],.int .i64 cl,.int .i64 code,.int .i64 ch] w fun e w'=>e=.returned (.bool (pok m k c i q g a && padm m g M cl code ch))∧Below w.heap.size w w':=by
 cases hp:pok m k c i q g a
 ·simp only [Bool.false_and]
  go_enter Tryz.func34,Tryz.ntmps34
  go_wp2_with (first | (go_at_call 22;refine (valid_c m k M W P c i q g a _).mono ?_;rintro e w1 ⟨rfl,hb⟩;refine Bk.opn10 (Bk.keep (Bk.new _ [_,_,_,_,_,_,_,_,_,_] _) hb) ?_;intros;have HB:=lh (show Below w.heap.size w w1 from ((Below.refl _ _).alloc (Nat.le_refl _) _).trans (hb.mono (by simp)));clear hb) | (go_at_call 46;refine (program_c g code (by omega) (by omega) _).mono ?_;rintro e w' ⟨rfl,rfl⟩))
  go_ret
  exact ⟨rfl,HB.out⟩
 ·simp only [Bool.true_and]
  have hq:=(pok_iff m k c i q g a).1 hp
  have m0:=hq.1.1
  have m1:=hq.1.2
  have g0:=hq.2.2.2.2.2.1.1
  have g1:=hq.2.2.2.2.2.1.2
  clear hq
  by_cases h1:cl=1
  ·subst h1
   have hr:=lh (show (bits .and .i64 m 1 != 0)=padm m g M 1 code ch from by rw [i64_bit 0 1 m rfl (by omega) m0 (by omega)];simp [padm])
   go_enter Tryz.func34,Tryz.ntmps34
   go_wp2_with (first | (go_at_call 22;refine (valid_c m k M W P c i q g a _).mono ?_;rintro e w1 ⟨rfl,hb⟩;refine Bk.opn10 (Bk.keep (Bk.new _ [_,_,_,_,_,_,_,_,_,_] _) hb) ?_;intros;have HB:=lh (show Below w.heap.size w w1 from ((Below.refl _ _).alloc (Nat.le_refl _) _).trans (hb.mono (by simp)));clear hb) | (go_at_call 46;refine (program_c g code (by omega) (by omega) _).mono ?_;rintro e w' ⟨rfl,rfl⟩))
   go_ret
   exact ⟨by rw [← hr.out];rfl,HB.out⟩
  by_cases h2:cl=2
  ·subst h2
   have hr:=lh (show padm m g M 2 code ch=true from by simp [padm])
   go_enter Tryz.func34,Tryz.ntmps34
   go_wp2_with (first | (go_at_call 22;refine (valid_c m k M W P c i q g a _).mono ?_;rintro e w1 ⟨rfl,hb⟩;refine Bk.opn10 (Bk.keep (Bk.new _ [_,_,_,_,_,_,_,_,_,_] _) hb) ?_;intros;have HB:=lh (show Below w.heap.size w w1 from ((Below.refl _ _).alloc (Nat.le_refl _) _).trans (hb.mono (by simp)));clear hb) | (go_at_call 46;refine (program_c g code (by omega) (by omega) _).mono ?_;rintro e w' ⟨rfl,rfl⟩))
   go_ret
   exact ⟨by rw [hr.out];rfl,HB.out⟩
  by_cases h3:cl=3
  ·subst h3
   have hr:=lh (show padm m g M 3 code ch=pprog g code from by simp [padm])
   go_enter Tryz.func34,Tryz.ntmps34
   go_wp2_with (first | (go_at_call 22;refine (valid_c m k M W P c i q g a _).mono ?_;rintro e w1 ⟨rfl,hb⟩;refine Bk.opn10 (Bk.keep (Bk.new _ [_,_,_,_,_,_,_,_,_,_] _) hb) ?_;intros;have HB:=lh (show Below w.heap.size w w1 from ((Below.refl _ _).alloc (Nat.le_refl _) _).trans (hb.mono (by simp)));clear hb) | (go_at_call 46;refine (program_c g code (by omega) (by omega) _).mono ?_;rintro e w' ⟨rfl,rfl⟩))
   go_ret
   exact ⟨by rw [hr.out];rfl,HB.out⟩
  by_cases h4:cl=4
  ·subst h4
   have hr:=lh (show padm m g M 4 code ch=M from by simp [padm])
   go_enter Tryz.func34,Tryz.ntmps34
   go_wp2_with (first | (go_at_call 22;refine (valid_c m k M W P c i q g a _).mono ?_;rintro e w1 ⟨rfl,hb⟩;refine Bk.opn10 (Bk.keep (Bk.new _ [_,_,_,_,_,_,_,_,_,_] _) hb) ?_;intros;have HB:=lh (show Below w.heap.size w w1 from ((Below.refl _ _).alloc (Nat.le_refl _) _).trans (hb.mono (by simp)));clear hb) | (go_at_call 46;refine (program_c g code (by omega) (by omega) _).mono ?_;rintro e w' ⟨rfl,rfl⟩))
   go_ret
   exact ⟨by rw [hr.out];rfl,HB.out⟩
  by_cases h5:cl=5
  ·subst h5
   by_cases u0:0≤ch
   case neg=>
    have hr:=lh (show padm m g M 5 code ch=false from by simp [padm,pio,inr];omega)
    go_enter Tryz.func34,Tryz.ntmps34
    go_wp2_with (first | (go_at_call 22;refine (valid_c m k M W P c i q g a _).mono ?_;rintro e w1 ⟨rfl,hb⟩;refine Bk.opn10 (Bk.keep (Bk.new _ [_,_,_,_,_,_,_,_,_,_] _) hb) ?_;intros;have HB:=lh (show Below w.heap.size w w1 from ((Below.refl _ _).alloc (Nat.le_refl _) _).trans (hb.mono (by simp)));clear hb) | (go_at_call 46;refine (program_c g code (by omega) (by omega) _).mono ?_;rintro e w' ⟨rfl,rfl⟩))
    go_ret
    exact ⟨by rw [hr.out];rfl,HB.out⟩
   by_cases u1:ch≤6
   case neg=>
    have hr:=lh (show padm m g M 5 code ch=false from by simp [padm,pio,inr];omega)
    go_enter Tryz.func34,Tryz.ntmps34
    go_wp2_with (first | (go_at_call 22;refine (valid_c m k M W P c i q g a _).mono ?_;rintro e w1 ⟨rfl,hb⟩;refine Bk.opn10 (Bk.keep (Bk.new _ [_,_,_,_,_,_,_,_,_,_] _) hb) ?_;intros;have HB:=lh (show Below w.heap.size w w1 from ((Below.refl _ _).alloc (Nat.le_refl _) _).trans (hb.mono (by simp)));clear hb) | (go_at_call 46;refine (program_c g code (by omega) (by omega) _).mono ?_;rintro e w' ⟨rfl,rfl⟩))
    go_ret
    exact ⟨by rw [hr.out];rfl,HB.out⟩
   obtain rfl | rfl | rfl | rfl | rfl | rfl | rfl:ch=0∨ch=1∨ch=2∨ch=3∨ch=4∨ch=5∨ch=6:=by omega
   ·have hr:=lh (show (bits .and .i64 m 128 != 0)=padm m g M 5 code 0 from by rw [i64_bit 7 128 m rfl (by omega) m0 (by omega)];simp [padm,pio,inr])
    clear u0 u1
    go_enter Tryz.func34,Tryz.ntmps34
    go_wp2_with (first | (go_at_call 22;refine (valid_c m k M W P c i q g a _).mono ?_;rintro e w1 ⟨rfl,hb⟩;refine Bk.opn10 (Bk.keep (Bk.new _ [_,_,_,_,_,_,_,_,_,_] _) hb) ?_;intros;have HB:=lh (show Below w.heap.size w w1 from ((Below.refl _ _).alloc (Nat.le_refl _) _).trans (hb.mono (by simp)));clear hb) | (go_at_call 46;refine (program_c g code (by omega) (by omega) _).mono ?_;rintro e w' ⟨rfl,rfl⟩))
    go_ret
    exact ⟨by rw [← hr.out];rfl,HB.out⟩
   ·have hr:=lh (show (bits .and .i64 m 64 != 0)=padm m g M 5 code 1 from by rw [i64_bit 6 64 m rfl (by omega) m0 (by omega)];simp [padm,pio,inr])
    clear u0 u1
    go_enter Tryz.func34,Tryz.ntmps34
    go_wp2_with (first | (go_at_call 22;refine (valid_c m k M W P c i q g a _).mono ?_;rintro e w1 ⟨rfl,hb⟩;refine Bk.opn10 (Bk.keep (Bk.new _ [_,_,_,_,_,_,_,_,_,_] _) hb) ?_;intros;have HB:=lh (show Below w.heap.size w w1 from ((Below.refl _ _).alloc (Nat.le_refl _) _).trans (hb.mono (by simp)));clear hb) | (go_at_call 46;refine (program_c g code (by omega) (by omega) _).mono ?_;rintro e w' ⟨rfl,rfl⟩))
    go_ret
    exact ⟨by rw [← hr.out];rfl,HB.out⟩
   ·have hr:=lh (show (bits .and .i64 m 32 != 0)=padm m g M 5 code 2 from by rw [i64_bit 5 32 m rfl (by omega) m0 (by omega)];simp [padm,pio,inr])
    clear u0 u1
    go_enter Tryz.func34,Tryz.ntmps34
    go_wp2_with (first | (go_at_call 22;refine (valid_c m k M W P c i q g a _).mono ?_;rintro e w1 ⟨rfl,hb⟩;refine Bk.opn10 (Bk.keep (Bk.new _ [_,_,_,_,_,_,_,_,_,_] _) hb) ?_;intros;have HB:=lh (show Below w.heap.size w w1 from ((Below.refl _ _).alloc (Nat.le_refl _) _).trans (hb.mono (by simp)));clear hb) | (go_at_call 46;refine (program_c g code (by omega) (by omega) _).mono ?_;rintro e w' ⟨rfl,rfl⟩))
    go_ret
    exact ⟨by rw [← hr.out];rfl,HB.out⟩
   ·have hr:=lh (show (bits .and .i64 m 16 != 0)=padm m g M 5 code 3 from by rw [i64_bit 4 16 m rfl (by omega) m0 (by omega)];simp [padm,pio,inr])
    clear u0 u1
    go_enter Tryz.func34,Tryz.ntmps34
    go_wp2_with (first | (go_at_call 22;refine (valid_c m k M W P c i q g a _).mono ?_;rintro e w1 ⟨rfl,hb⟩;refine Bk.opn10 (Bk.keep (Bk.new _ [_,_,_,_,_,_,_,_,_,_] _) hb) ?_;intros;have HB:=lh (show Below w.heap.size w w1 from ((Below.refl _ _).alloc (Nat.le_refl _) _).trans (hb.mono (by simp)));clear hb) | (go_at_call 46;refine (program_c g code (by omega) (by omega) _).mono ?_;rintro e w' ⟨rfl,rfl⟩))
    go_ret
    exact ⟨by rw [← hr.out];rfl,HB.out⟩
   ·have hr:=lh (show (bits .and .i64 m 8 != 0)=padm m g M 5 code 4 from by rw [i64_bit 3 8 m rfl (by omega) m0 (by omega)];simp [padm,pio,inr])
    clear u0 u1
    go_enter Tryz.func34,Tryz.ntmps34
    go_wp2_with (first | (go_at_call 22;refine (valid_c m k M W P c i q g a _).mono ?_;rintro e w1 ⟨rfl,hb⟩;refine Bk.opn10 (Bk.keep (Bk.new _ [_,_,_,_,_,_,_,_,_,_] _) hb) ?_;intros;have HB:=lh (show Below w.heap.size w w1 from ((Below.refl _ _).alloc (Nat.le_refl _) _).trans (hb.mono (by simp)));clear hb) | (go_at_call 46;refine (program_c g code (by omega) (by omega) _).mono ?_;rintro e w' ⟨rfl,rfl⟩))
    go_ret
    exact ⟨by rw [← hr.out];rfl,HB.out⟩
   ·have hr:=lh (show (bits .and .i64 m 4 != 0)=padm m g M 5 code 5 from by rw [i64_bit 2 4 m rfl (by omega) m0 (by omega)];simp [padm,pio,inr])
    clear u0 u1
    go_enter Tryz.func34,Tryz.ntmps34
    go_wp2_with (first | (go_at_call 22;refine (valid_c m k M W P c i q g a _).mono ?_;rintro e w1 ⟨rfl,hb⟩;refine Bk.opn10 (Bk.keep (Bk.new _ [_,_,_,_,_,_,_,_,_,_] _) hb) ?_;intros;have HB:=lh (show Below w.heap.size w w1 from ((Below.refl _ _).alloc (Nat.le_refl _) _).trans (hb.mono (by simp)));clear hb) | (go_at_call 46;refine (program_c g code (by omega) (by omega) _).mono ?_;rintro e w' ⟨rfl,rfl⟩))
    go_ret
    exact ⟨by rw [← hr.out];rfl,HB.out⟩
   ·have hr:=lh (show (bits .and .i64 m 2 != 0)=padm m g M 5 code 6 from by rw [i64_bit 1 2 m rfl (by omega) m0 (by omega)];simp [padm,pio,inr])
    clear u0 u1
    go_enter Tryz.func34,Tryz.ntmps34
    go_wp2_with (first | (go_at_call 22;refine (valid_c m k M W P c i q g a _).mono ?_;rintro e w1 ⟨rfl,hb⟩;refine Bk.opn10 (Bk.keep (Bk.new _ [_,_,_,_,_,_,_,_,_,_] _) hb) ?_;intros;have HB:=lh (show Below w.heap.size w w1 from ((Below.refl _ _).alloc (Nat.le_refl _) _).trans (hb.mono (by simp)));clear hb) | (go_at_call 46;refine (program_c g code (by omega) (by omega) _).mono ?_;rintro e w' ⟨rfl,rfl⟩))
    go_ret
    exact ⟨by rw [← hr.out];rfl,HB.out⟩
  have e1:(cl == 1)=false:=by simpa using h1
  have e2:(cl == 2)=false:=by simpa using h2
  have e3:(cl == 3)=false:=by simpa using h3
  have e4:(cl == 4)=false:=by simpa using h4
  have e5:(cl == 5)=false:=by simpa using h5
  have hr:=lh (show padm m g M cl code ch=false from by simp [padm,h1,h2,h3,h4,h5])
  clear h1 h2 h3 h4 h5
  go_enter Tryz.func34,Tryz.ntmps34
  go_wp2_with (first | (go_at_call 22;refine (valid_c m k M W P c i q g a _).mono ?_;rintro e w1 ⟨rfl,hb⟩;refine Bk.opn10 (Bk.keep (Bk.new _ [_,_,_,_,_,_,_,_,_,_] _) hb) ?_;intros;have HB:=lh (show Below w.heap.size w w1 from ((Below.refl _ _).alloc (Nat.le_refl _) _).trans (hb.mono (by simp)));clear hb) | (go_at_call 46;refine (program_c g code (by omega) (by omega) _).mono ?_;rintro e w' ⟨rfl,rfl⟩))
  go_ret
  exact ⟨by rw [hr.out];rfl,HB.out⟩
section
variable {w0 w w':World} {g:Nat} {F:Foot} {ix rs:List Int} {p:Ps} {bs ks z:List Int} {op fm r1 r2 x2 b1 d1 b2 d2 l1 l2 i2 k:Int} {P W:Bool}
theorem DX.wr (h:DX w0 w g F ix rs p bs ks k P W z) {c:Nat} {v:Value} {rs':List Int} {p':Ps} (hl:(drC F ix rs p).set c v=drC F ix rs' p') (hr:rs'.length=16) (ho:∀x∈rs',0≤x∧x≤4294967295) (hk:p'.key=p.key) (hP:p'.P=p.P) (hW:p'.W=p.W):DX w0 (w.setCell ⟨g,c,none⟩ v) g F ix rs' p' bs ks k P W z:=
 { h with
  dr:={ m:=hl▸h.dr.m.set_ c v,st:=h.dr.st.keep (Below.heap_setCell w _ v _ h.dr.nn.1.symm) (Below.heap_setCell w _ v _ h.dr.nn.2.1.symm) (Below.heap_setCell w _ v _ h.dr.nn.2.2.symm),b:=Ch.refl _ _,il:=h.dr.il,rl:=hr,nn:=h.dr.nn }
  ro:=ho
  pk:=hk.trans h.pk
  pP:=hP.trans h.pP
  pW:=hW.trans h.pW
  ch:=h.ch.setCell (by simp) v
  tb:=tab_ch2 h.tb ((Ch.refl w [g]).setCell (p:=⟨g,c,none⟩) (by simp) v) ⟨by have:=h.nn;simp;omega,by have:=h.nn;have:=h.sz;omega⟩ }
theorem DX.scc (h:DX w0 w g F ix rs p bs ks k P W z) (c:Int):DX w0 (w.setCell ⟨g,35,none⟩ (.int .i64 c)) g F ix rs { p with cc:=c } bs ks k P W z:=by
 refine h.wr ?_ h.dr.rl h.ro rfl rfl rfl
 unfold drC
 rw [List.set_append_right _ _ (by simp [h.dr.il]),List.set_append_right _ _ (by simp [h.dr.il,h.dr.rl])]
 simp only [List.length_map,h.dr.il,h.dr.rl]
 rfl
theorem DX.sr (h:DX w0 w g F ix rs p bs ks k P W z) {n:Nat} (hn:n<16) {v:Int} (hv:0≤v∧v≤4294967295):DX w0 (w.setCell ⟨g,12+n,none⟩ (.int .u32 v)) g F ix (rs.set n v) p bs ks k P W z:=by
 refine h.wr ?_ (by simp [h.dr.rl]) (fun x hx=>?_) rfl rfl rfl
 ·unfold drC
  rw [List.set_append_right _ _ (by simp [h.dr.il]),List.set_append_left _ _ (by simp [h.dr.il,h.dr.rl];omega)]
  simp only [List.length_map,h.dr.il,Nat.add_sub_cancel_left,List.map_set]
 ·rcases List.mem_or_eq_of_mem_set hx with h1 | rfl
  ·exact h.ro _ h1
  ·exact hv
theorem DX.c35 (h:DX w0 w g F ix rs p bs ks k P W z):w.cell? ⟨g,35,none⟩=some (.int .i64 p.cc):=h.dr.rowP 7 _ rfl
theorem DX.cr (h:DX w0 w g F ix rs p bs ks k P W z) {r:Nat} (hr:r<16):w.cell? ⟨g,12+r,none⟩=some (.int .u32 (rs.getD r 0)):=by
 refine h.dr.rowR r _ ?_
 rw [List.getElem?_map,List.getElem?_eq_getElem (by rw [h.dr.rl];omega),List.getD_eq_getElem?_getD,List.getElem?_eq_getElem (by rw [h.dr.rl];omega)]
 rfl
theorem dsecond_w {n:Nat} (h:DR w0 w g F [op,fm,r1,r2,x2,b1,d1,b2,d2,l1,l2,i2] rs p bs ks) (ro:∀x∈rs,0≤x∧x≤4294967295) (h0:0≤b2∧b2<16) (h1:0≤x2∧x2<16) (hd:0≤d2∧d2<4096) (hl:l2+1=(n:Int)) (hn:1≤n∧n≤1000):Calls Tryz.prog 88 #[.pointer (some ⟨g,0,none⟩)] w (Dz (fun v w'=>FeV n w.heap.size w' v∧Below w.heap.size w w') (fun w'=>Below w.heap.size w w')):=by
 have hw:IntKind.i64.wrap (l2+1)=(n:Int):=by rw [hl];exact wrap_i64_id (by omega) (by omega)
 have AC:=lh (fun W (hW:DR w0 W g F [op,fm,r1,r2,x2,b1,d1,b2,d2,l1,l2,i2] rs p bs ks)=>da_w hW ro h0 h1 hd)
 have FC:=lh (fun W (a:Nat) (hW:DR w0 W g F [op,fm,r1,r2,x2,b1,d1,b2,d2,l1,l2,i2] rs p bs ks)=>dfet_w (a:=a) hW hn)
 have H:=lh h
 clear h ro h0 h1 hd hl hn
 go_enter Tryz.func88,Tryz.ntmps88
 go_upto_region 1 with fail
 refine wp_region_held_drew (S:=fun W=>∃b,DR w0 W g F [op,fm,r1,r2,x2,b1,d1,b2,d2,l1,l2,i2] rs p b ks∧True) (by kernel_rfl) ⟨_,H.out.drew,trivial⟩ (fun hHeld=>?_)
 have Z:=lh (show DR w0 w.drew g F [op,fm,r1,r2,x2,b1,d1,b2,d2,l1,l2,i2] rs p bs ks∧Below w.heap.size w w.drew from ⟨H.out.drew,dBelow' (Below.refl _ _) 1⟩)
 obtain ⟨v0,hv⟩:∃V,w.drew=V:=⟨_,rfl⟩
 rw [hv] at Z hHeld ⊢
 clear hv H
 repeat refine tkd ?_
 refine tkce (R:=fun v W=>AdV v∧(DR w0 W g F [op,fm,r1,r2,x2,b1,d1,b2,d2,l1,l2,i2] rs p bs ks∧Below w.heap.size w W)) ((AC.out _ Z.out.1).mono fun e w' ⟨v,he,hv,hb⟩=>⟨v,he,hv,Z.out.1.keep hb,Z.out.2.trans (hb.mono Z.out.2.size)⟩) (fun _ _ h=>⟨_,h.2.1,trivial⟩) ?_
 clear Z hHeld AC
 intro vv v1 Z hHeld
 obtain ⟨⟨a,ha,rfl⟩,hZ⟩:=Z.out
 replace Z:=lh hZ
 clear hZ ha
 repeat refine tkd ?_
 refine tkde (A:=fun v W=>FeV n w.heap.size W v∧(DR w0 W g F [op,fm,r1,r2,x2,b1,d1,b2,d2,l1,l2,i2] rs p bs ks∧Below w.heap.size w W)) (B:=fun W=>Below w.heap.size w W) ((FC.out _ a Z.out.1).mono fun e w' h=>h.mono (fun v h=>⟨h.1.base Z.out.2.size,Z.out.1.keep h.2,Z.out.2.trans (h.2.mono Z.out.2.size)⟩) (fun h=>Z.out.2.trans (h.mono Z.out.2.size))) (fun _ _ h=>⟨_,h.2.1,trivial⟩) (by intro c w' hB;exact ⟨rfl,.inr ⟨c,rfl,hB⟩⟩) ?_
 clear Z hHeld FC
 intro vv w1 Z hHeld
 obtain ⟨hV,hD,hB⟩:=Z.out
 have V1:=lh hV
 have D1:=lh hD
 have B1:=lh hB
 clear Z hV hD hB
 repeat refine tkd ?_
 refine wpAnyH_done (by with_unfolding_all rfl) ?_ _
 clear hHeld
 go_wp2
 go_ret
 exact .inl ⟨_,rfl,V1.out,B1.out⟩
def F2V (n m B:Nat) (w:World) (v:Value):Prop:=∃v1 v2:Value,v=.tuple #[v1,v2]∧FeV n B w v1∧FeV m B w v2
theorem dboth_w {n m:Nat} (h:DR w0 w g F [op,fm,r1,r2,x2,b1,d1,b2,d2,l1,l2,i2] rs p bs ks) (ro:∀x∈rs,0≤x∧x≤4294967295) (h0:0≤b2∧b2<16) (h1:0≤x2∧x2<16) (hd:0≤d2∧d2<4096) (h2:0≤b1∧b1<16) (h3:0≤d1∧d1<4096) (hl:l1+1=(n:Int)) (hm:l2+1=(m:Int)) (hn:1≤n∧n≤1000) (hm2:1≤m∧m≤1000):Calls Tryz.prog 91 #[.pointer (some ⟨g,0,none⟩)] w (Dz (fun v w'=>F2V n m w.heap.size w' v∧Below w.heap.size w w') (fun w'=>Below w.heap.size w w')):=by
 have hw:IntKind.i64.wrap (l1+1)=(n:Int):=by rw [hl];exact wrap_i64_id (by omega) (by omega)
 have AC:=lh (fun W (hW:DR w0 W g F [op,fm,r1,r2,x2,b1,d1,b2,d2,l1,l2,i2] rs p bs ks)=>da1_w hW ro h2 h3)
 have FC:=lh (fun W (a:Nat) (hW:DR w0 W g F [op,fm,r1,r2,x2,b1,d1,b2,d2,l1,l2,i2] rs p bs ks)=>dfet_w (a:=a) hW hn)
 have SC:=lh (fun W (hW:DR w0 W g F [op,fm,r1,r2,x2,b1,d1,b2,d2,l1,l2,i2] rs p bs ks)=>dsecond_w hW ro h0 h1 hd hm hm2)
 have H:=lh h
 clear h ro h0 h1 hd hl hn h2 h3 hm hm2
 go_enter Tryz.func91,Tryz.ntmps91
 go_upto_region 1 with fail
 refine wp_region_held_drew (S:=fun W=>∃b,DR w0 W g F [op,fm,r1,r2,x2,b1,d1,b2,d2,l1,l2,i2] rs p b ks∧True) (by kernel_rfl) ⟨_,H.out.drew,trivial⟩ (fun hHeld=>?_)
 have Z:=lh (show DR w0 w.drew g F [op,fm,r1,r2,x2,b1,d1,b2,d2,l1,l2,i2] rs p bs ks∧Below w.heap.size w w.drew from ⟨H.out.drew,dBelow' (Below.refl _ _) 1⟩)
 obtain ⟨v0,hv⟩:∃V,w.drew=V:=⟨_,rfl⟩
 rw [hv] at Z hHeld ⊢
 clear hv H
 repeat refine tkd ?_
 refine tkce (R:=fun v W=>AdV v∧(DR w0 W g F [op,fm,r1,r2,x2,b1,d1,b2,d2,l1,l2,i2] rs p bs ks∧Below w.heap.size w W)) ((AC.out _ Z.out.1).mono fun e w' ⟨v,he,hv,hb⟩=>⟨v,he,hv,Z.out.1.keep hb,Z.out.2.trans (hb.mono Z.out.2.size)⟩) (fun _ _ h=>⟨_,h.2.1,trivial⟩) ?_
 clear Z hHeld AC
 intro vv v1 Z hHeld
 obtain ⟨⟨a,ha,rfl⟩,hZ⟩:=Z.out
 replace Z:=lh hZ
 clear hZ ha
 repeat refine tkd ?_
 refine tkde (A:=fun v W=>FeV n w.heap.size W v∧(DR w0 W g F [op,fm,r1,r2,x2,b1,d1,b2,d2,l1,l2,i2] rs p bs ks∧Below w.heap.size w W)) (B:=fun W=>Below w.heap.size w W) ((FC.out _ a Z.out.1).mono fun e w' h=>h.mono (fun v h=>⟨h.1.base Z.out.2.size,Z.out.1.keep h.2,Z.out.2.trans (h.2.mono Z.out.2.size)⟩) (fun h=>Z.out.2.trans (h.mono Z.out.2.size))) (fun _ _ h=>⟨_,h.2.1,trivial⟩) (by intro c w' hB;exact ⟨rfl,.inr ⟨c,rfl,hB⟩⟩) ?_
 clear Z hHeld FC
 intro vv w1 Z hHeld
 obtain ⟨hV,hD,hB⟩:=Z.out
 have V1:=lh hV
 have D1:=lh hD
 have B1:=lh hB
 clear Z hV hD hB
 repeat refine tkd ?_
 refine wpAnyH_done (by with_unfolding_all rfl) ?_ _
 clear hHeld
 go_upto_region 2 with fail
 refine wp_region_lit ?_
 iterate 2 refine lsv (w':=w1) ?_
 refine lsd (SC.out w1 D1.out) (by intro c w' hB;exact ⟨rfl,.inr ⟨c,rfl,B1.out.trans (hB.mono B1.out.size)⟩⟩) ?_
 intro v2 w2 Z
 have V2:=lh (Z.out.1.base B1.out.size)
 have V3:=lh (V1.out.keep Z.out.2)
 have B2:=lh (B1.out.trans (Z.out.2.mono B1.out.size))
 clear Z SC V1 D1 B1
 iterate 2 refine lsv (w':=w2) ?_
 refine wpList_nil ?_
 go_wp2
 go_ret2
 exact .inl ⟨_,rfl,⟨_,_,rfl,V3.out,V2.out⟩,B2.out⟩
theorem DX.e (h:DX w0 w g F ix rs p bs ks k P W z):DE w0 w g F ix ks k P W z:=⟨_,_,_,h⟩
theorem dadm_w (p:Ps) (a b c:Int) (w:World):Calls Tryz.prog 34 #[.agg p.v.toArray,.int .i64 a,.int .i64 b,.int .i64 c] w fun e w'=>∃v,e=.returned v∧IsB v∧Below w.heap.size w w':=(admits_c p.m p.key p.M p.W p.P p.cd p.il p.cc p.pg p.ad a b c w).mono fun e w' h=>⟨_,h.1,⟨_,rfl⟩,h.2⟩
theorem dsum_w {B:Nat} {v:Value} {cc cd:Int} (h:DX w0 w g F [op,fm,r1,r2,x2,b1,d1,b2,d2,l1,l2,i2] rs p bs ks k P W z) (h2:0≤b1∧b1<16) (h3:0≤d1∧d1<4096) (hv:SlV 1000 B w v):Calls Tryz.prog 92 #[.pointer (some ⟨g,0,none⟩),v,.int .i64 cc,.int .i64 cd] w (Dz (fun v w'=>I6V v∧DE w0 w' g F [op,fm,r1,r2,x2,b1,d1,b2,d2,l1,l2,i2] ks k P W z∧Ch w w' [g,F.gb]) (fun w'=>DE w0 w' g F [op,fm,r1,r2,x2,b1,d1,b2,d2,l1,l2,i2] ks k P W z∧Ch w w' [g,F.gb])):=by
 have H:=lh h
 have V:=lh hv
 have HR:=lh (And.intro h2 h3)
 clear h hv h2 h3
 by_cases hc:cd=10
 ·subst hc
  go_enter Tryz.func92,Tryz.ntmps92
  go_upto_region 3 with fail
  refine wp_region_lit ?_
  iterate 2 refine lsv (w':=w) ?_
  refine lsce (da1_w H.out.dr H.out.ro HR.out.1 HR.out.2) ?_
  intro vv y1 Z
  obtain ⟨⟨a,-,rfl⟩,hb⟩:=Z.out
  replace V:=lh (V.out.keep hb)
  have C:=lh (Ch.of_below hb [g,F.gb])
  replace H:=lh (H.out.keep hb)
  clear Z hb HR
  refine lsv (w':=y1) ?_
  refine lsd (dput_w H.out V.out (by omega)) (by intro c w' hB;obtain ⟨⟨b',h1⟩,h2⟩:=hB;exact ⟨rfl,.inr ⟨c,rfl,h1.e,C.out.trans (h2.mono (by simp))⟩⟩) ?_
  intro vv y2 Z
  obtain ⟨rfl,⟨bs',h1⟩,h2⟩:=Z.out
  replace H:=lh h1
  replace C:=lh (C.out.trans (h2.mono (by simp)))
  clear Z h1 h2 V
  refine wpList_nil ?_
  have c35:=H.out.c35
  have f1:=H.out.dr.m.free
  go_upto_region 4 with fail
  refine wp_region_lit ?_
  iterate 5 refine lsv (w':=y2) ?_
  refine lsk (w':=y2.setCell ⟨g,35,none⟩ (.int .i64 cc)) (by unfold execOp;go_simp;(try rfl)) ?_
  refine wpList_nil ?_
  replace H:=lh (H.out.scc cc)
  replace C:=lh (C.out.setCell (p:=⟨g,35,none⟩) (by simp) (.int .i64 cc))
  obtain ⟨y3,hW⟩:∃V,y2.setCell ⟨g,35,none⟩ (.int .i64 cc)=V:=⟨_,rfl⟩
  rw [hW] at H C
  first | rw [hW] | simp only [hW]
  clear hW c35 f1
  go_upto_region 5 with fail
  refine wp_region_lit ?_
  iterate 6 refine lsv (w':=y3) ?_
  refine lslo (k:=g) (off:=28) (cs:={ p with cc:=cc }.v) H.out.dr.rowP ?_
  refine lsv (w':=y3) ?_
  refine lsce (dadm_w { p with cc:=cc } 3 10 0 y3) ?_
  intro vv y4 Z
  obtain ⟨⟨b,rfl⟩,hb⟩:=Z.out
  replace C:=lh (C.out.trans (Ch.of_below hb [g,F.gb]))
  replace H:=lh (H.out.keep hb)
  clear Z hb
  iterate 2 refine lsv (w':=y4) ?_
  refine wpList_nil ?_
  cases b
  all_goals
   go_wp2
   go_ret
   exact .inl ⟨_,rfl,⟨_,rfl⟩,H.out.e,C.out⟩
 ·have e1:(cd == 10)=false:=by rw [beq_eq_false_iff_ne];exact hc
  clear hc
  go_enter Tryz.func92,Tryz.ntmps92
  go_upto_region 2 with fail
  refine wp_region_lit ?_
  refine lsv (w':=w) ?_
  refine lsd (check_w cd w) (by intro c w' hB;obtain rfl:=hB;exact ⟨rfl,.inr ⟨c,rfl,H.out.e,Ch.refl _ _⟩⟩) ?_
  intro vv w1 Z
  obtain ⟨rfl,-,rfl⟩:=Z.out
  clear Z
  refine wpList_nil ?_
  go_upto_region 3 with fail
  refine wp_region_lit ?_
  iterate 2 refine lsv (w':=w) ?_
  refine lsce (da1_w H.out.dr H.out.ro HR.out.1 HR.out.2) ?_
  intro vv y1 Z
  obtain ⟨⟨a,-,rfl⟩,hb⟩:=Z.out
  replace V:=lh (V.out.keep hb)
  have C:=lh (Ch.of_below hb [g,F.gb])
  replace H:=lh (H.out.keep hb)
  clear Z hb HR
  refine lsv (w':=y1) ?_
  refine lsd (dput_w H.out V.out (by omega)) (by intro c w' hB;obtain ⟨⟨b',h1⟩,h2⟩:=hB;exact ⟨rfl,.inr ⟨c,rfl,h1.e,C.out.trans (h2.mono (by simp))⟩⟩) ?_
  intro vv y2 Z
  obtain ⟨rfl,⟨bs',h1⟩,h2⟩:=Z.out
  replace H:=lh h1
  replace C:=lh (C.out.trans (h2.mono (by simp)))
  clear Z h1 h2 V
  refine wpList_nil ?_
  have c35:=H.out.c35
  have f1:=H.out.dr.m.free
  go_upto_region 4 with fail
  refine wp_region_lit ?_
  iterate 5 refine lsv (w':=y2) ?_
  refine lsk (w':=y2.setCell ⟨g,35,none⟩ (.int .i64 cc)) (by unfold execOp;go_simp;(try rfl)) ?_
  refine wpList_nil ?_
  replace H:=lh (H.out.scc cc)
  replace C:=lh (C.out.setCell (p:=⟨g,35,none⟩) (by simp) (.int .i64 cc))
  obtain ⟨y3,hW⟩:∃V,y2.setCell ⟨g,35,none⟩ (.int .i64 cc)=V:=⟨_,rfl⟩
  rw [hW] at H C
  first | rw [hW] | simp only [hW]
  clear hW c35 f1
  go_wp2
  go_ret
  exact .inl ⟨_,rfl,⟨_,rfl⟩,H.out.e,C.out⟩
end
end Go.Proofs.YtljajnaclpbecaaGreatDoor
