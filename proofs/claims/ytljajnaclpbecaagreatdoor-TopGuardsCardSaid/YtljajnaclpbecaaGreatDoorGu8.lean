/- Contracts and laws on the way to the statement, text 8 of 22. Conditions: as each states them. -/
import Derived.Test.YtljajnaclpbecaaGreatDoorGu1
import Derived.Test.YtljajnaclpbecaaGreatDoorGu5
import Derived.Test.YtljajnaclpbecaaGreatDoorGu7
namespace Go.Proofs.YtljajnaclpbecaaGreatDoor
open Go.RowKit
set_option maxRecDepth 1000000
set_option maxHeartbeats 8000000
set_option linter.unusedVariables false
set_option linter.unusedSimpArgs false
section
variable {L:List Oper} {Q:Exit→Act→World→Prop} {md:Region.Mode} {S:World→Prop} {i:Nat} {oi:Oper} {fuel:Nat} {listed:Array Bool} {a:Act} {w:World}
theorem tksn {g off:Nat} {T:TypeId} {x y:Operand} {cs cs':List Value} {R:World→Prop} {X:World→Prop} (hB:w.rangeAt g off cs) (hf:∀j,w.frozen? ⟨g,j,none⟩=false) (hl:cs.length=cs'.length) (h1:cs'.toArray.all (·.oneCell')=true) (hn:(Tryz.prog.info? T).map (·.size)=some cs'.length) (hR:R (w.setCells g off cs')) (hRS:∀w',R w'→S w') (h:∀w',Hid (R w')→S w'→X w') (hr:Region.ready md L.toArray listed=[i]:=by with_unfolding_all rfl) (hi:L[i]?=some oi:=by rfl) (ho:oi.op=.store T x y:=by rfl) (hx:a.eval x=.pointer (some ⟨g,off,none⟩):=by rfl) (hy:a.eval y=.agg cs'.toArray:=by rfl)
  (hw:Region.wanted oi (yielded L.toArray a.tmps)=true:=by rfl)
  (hP:∀w',wpAnyH Tryz.prog md L.toArray Q S fuel (listed.setIfInBounds i true) (a.put oi.dst undef) w'=X w':=by (intro w';simp only [Act.put,List.setIfInBounds_toArray,List.set_cons_zero,List.set_cons_succ];try rfl)):wpAnyH Tryz.prog md L.toArray Q S (fuel+1) listed a w:=by
 refine tkw hR hRS h hr hi hw ?_ hP
 unfold execOp
 simp only [ho,hx,hy]
 simp only [Sem.run_bind,run_storeAt_mid w g off T cs'.toArray (by have:=there_of hB hf;rw [hl] at this;simpa using this) (by simpa using hn) h1,Result.andThen_ok,Sem.run_pure]
end
section
variable {P:Program} {L:List Oper} {Q:Exit→Act→World→Prop} {md:Region.Mode} {S:World→Prop} {i:Nat} {oi:Oper} {fuel:Nat} {listed:Array Bool} {a:Act} {w:World}
theorem opce {f:FuncId} {args:Array Value} {R:Value→World→Prop} {X:Value→World→Prop} (hc:Calls P f args w fun e w'=>∃v,e=.returned v∧R v w') (hRS:∀v w',R v w'→S w') (h:∀v w',Hid (R v w')→S w'→X v w') (hi:L[i]?=some oi:=by rfl)
  (hw:Region.wanted oi (yielded L.toArray a.tmps)=true:=by rfl) (hx:(execOp a.eval oi).run P w=.ok (.enter f args) w:=by (go_simp;(try with_reducible rfl)))
  (hP:∀v w',wpAnyH P md L.toArray Q S fuel (listed.setIfInBounds i true) (a.put oi.dst v) w'=X v w':=by (intro v w';simp only [Act.put,List.setIfInBounds_toArray,List.set_cons_zero,List.set_cons_succ];try rfl)):wpOp P L.toArray Q i (fun a' w'=>S w'∧wpAnyH P md L.toArray Q S fuel (listed.setIfInBounds i true) a' w') a w:=by
 have hi':L.toArray[i]?=some oi:=by simpa using hi
 unfold wpOp
 simp only [hi',hw,if_true]
 refine .inl ?_
 unfold Oper.wp
 rw [hx]
 refine Calls.mono hc fun e w' he=>?_
 obtain ⟨v,rfl,hR⟩:=he
 exact ⟨hRS _ _ hR,(hP v w').symm▸h v w' (lh hR) (hRS _ _ hR)⟩
end
theorem below_row {B:Nat} {a w:World} (h:Below B a w) {k:Nat} (hk:B≤k) (cs:Array Value):Below B a (w.setRow k cs):=⟨h.os,h.tape,h.output,by have:=h.size;simpa [World.setRow] using this,fun i hi=>(setRow_other w k i cs (by omega)).trans (h.block i hi)⟩
structure M3 (N:Nat) (w:World) (g g':Nat) (xs ys:List Value):Prop where
 a:Bk w g 25 xs
 b:Bk w g' 35 ys
 n:N≤g∧N≤g'∧g≠g'
theorem M3.setb {N:Nat} {w:World} {g g':Nat} {xs ys:List Value} (h:M3 N w g g' xs ys) (ys':List Value):M3 N (w.setRow g' ys'.toArray) g g' xs ys':=⟨h.a.rowOth h.n.2.2 _,h.b.rowSet _,h.n⟩
section
variable {P:Program} {L:List Oper} {Q:Exit→Act→World→Prop} {md:Region.Mode} {S:World→Prop} {i j k:Nat} {fuel:Nat} {listed:Array Bool} {a:Act} {w:World}
theorem tk3 (hr:Region.ready md L.toArray listed=[i,j,k]) (h:wpOp P L.toArray Q i (fun a' w'=>S w'∧wpAnyH P md L.toArray Q S fuel (listed.setIfInBounds i true) a' w') a w) (h':wpOp P L.toArray Q j (fun a' w'=>S w'∧wpAnyH P md L.toArray Q S fuel (listed.setIfInBounds j true) a' w') a w) (h'':wpOp P L.toArray Q k (fun a' w'=>S w'∧wpAnyH P md L.toArray Q S fuel (listed.setIfInBounds k true) a' w') a w):wpAnyH P md L.toArray Q S (fuel+1) listed a w:=by
 refine ⟨fun h0=>(by rw [hr] at h0;cases h0),fun m hm=>?_⟩
 rw [hr] at hm
 simp only [List.mem_cons,List.not_mem_nil,or_false] at hm
 rcases hm with rfl | rfl | rfl
 ·exact h
 ·exact h'
 ·exact h''
end
section
variable {w0 w w':World} {g:Nat} {F:Foot} {rs os:List Int} {p q:Ps} {n:Int} {bs ks:List Int}
theorem rowCP (h:CP w0 w g F rs p n bs ks) {k N:Nat} (hk:N≤k) (hN:w0.heap.size≤N∧g<N∧F.g<N∧F.gb<N∧F.gk<N) {cs:Array Value}:CP w0 (w.setRow k cs) g F rs p n bs ks:=
 { h with m:=h.m.rowOth (by omega) _,st:=h.st.rowOth (by omega) (by omega) (by omega) _,b:=h.b.row (.inr (by omega)) _ }
structure Two (w:World) (g6 g4:Nat) (ix:List Int):Prop where
 a:Bk w g6 54 (ix.map (Value.int .i64))
 b:Bk w g4 44 [.int .i64 0,.int .i64 0,.int .i64 0,.int .i64 0]
section
variable {g6 g4:Nat} {ix:List Int}
theorem Two.keep (h:Two w g6 g4 ix) (hb:Below w.heap.size w w'):Two w' g6 g4 ix:=⟨h.a.keep hb,h.b.keep hb⟩
theorem Two.drew (h:Two w g6 g4 ix):Two w.drew g6 g4 ix:=⟨h.a.drewN 1,h.b.drewN 1⟩
theorem Two.ch (h:Two w g6 g4 ix) {l:List Nat} (hc:Ch w w' l) (h1:g6∉l) (h2:g4∉l):Two w' g6 g4 ix:=⟨h.a.ch hc h1,h.b.ch hc h2⟩
theorem Two.row (h:Two w g6 g4 ix) {k:Nat} (h1:k≠g6) (h2:k≠g4) (cs:Array Value):Two (w.setRow k cs) g6 g4 ix:=⟨h.a.rowOth h1.symm _,h.b.rowOth h2.symm _⟩
end
section
variable {P:Program} {L:List Oper} {Q:Exit→Act→World→Prop} {md:Region.Mode} {S:World→Prop} {i:Nat} {v:Value} {oi:Oper} {fuel:Nat} {listed:Array Bool} {a:Act} {w:World} {X:Prop}
theorem tkf (h:X) (hn:nxt md L listed=some i:=by with_unfolding_all rfl) (hi:L[i]?=some oi:=by rfl)
  (hw:Region.wanted oi (yielded L.toArray a.tmps)=true:=by rfl) (y:∀w,S w→(execOp a.eval oi).run P w=.ok (.value v) w:=by (intro w hSw;obtain ⟨_,hx,hy⟩:=hSw;refine CP.opn hx ?_;intros;go_simp;(try with_reducible rfl)))
  (hP:wpAnyH P md L.toArray Q S fuel (listed.setIfInBounds i true) (a.put oi.dst v) w=X:=by (simp only [Act.put,List.setIfInBounds_toArray,List.set_cons_zero,List.set_cons_succ];try rfl))
  (hs:Region.noSelect L.toArray=true:=by kernel_rfl)
  (hQ:∀c a w,Q (.panic c) (a.put oi.dst v) w→Q (.panic c) a w:=by exact fun _ _ _ h=>h) (hS:S w:=by assumption):wpAnyH P md L.toArray Q S (fuel+1) listed a w:=takeL hi hs (nxt_spec hn).1 (nxt_spec hn).2 hQ (.inl ⟨hw,y⟩) hS (hP▸h)
theorem tkg (h:X) (hn:nxt md L listed=some i:=by with_unfolding_all rfl) (hi:L[i]?=some oi:=by rfl)
  (hw:Region.wanted oi (yielded L.toArray a.tmps)=true:=by rfl) (y:∀w,S w→(execOp a.eval oi).run P w=.ok (.value v) w:=by (intro w hSw;obtain ⟨_,_,hx,hy⟩:=hSw;refine CP.opn hx ?_;intros;go_simp;(try with_reducible rfl)))
  (hP:wpAnyH P md L.toArray Q S fuel (listed.setIfInBounds i true) (a.put oi.dst v) w=X:=by (simp only [Act.put,List.setIfInBounds_toArray,List.set_cons_zero,List.set_cons_succ];try rfl))
  (hs:Region.noSelect L.toArray=true:=by kernel_rfl)
  (hQ:∀c a w,Q (.panic c) (a.put oi.dst v) w→Q (.panic c) a w:=by exact fun _ _ _ h=>h) (hS:S w:=by assumption):wpAnyH P md L.toArray Q S (fuel+1) listed a w:=takeL hi hs (nxt_spec hn).1 (nxt_spec hn).2 hQ (.inl ⟨hw,y⟩) hS (hP▸h)
theorem tklk {i b m:Nat} {es:Array MapEntry} {T kt et:TypeId} {k:Int} {z:Value} {xx yy:Operand} (hT:Tryz.prog.underlying T=some (.map kt et)) (hkt:Tryz.prog.underlying kt=some (.int .i64)) (hb:w.heap[b]?=some (.map es m)) (hf:Instr.findNow (.int .i64) (.int .i64 k) es.toList 0=some none) (hz:(zeroValue et).run Tryz.prog w=.ok z w) (h:X) (hr:Region.ready md L.toArray listed=[i]:=by with_unfolding_all rfl) (hi:L[i]?=some oi:=by rfl) (ho:oi.op=.lookup T xx yy true:=by rfl) (hx:a.eval xx=.map (some b):=by rfl) (hy:a.eval yy=.int .i64 k:=by rfl)
  (hw:Region.wanted oi (yielded L.toArray a.tmps)=true:=by rfl)
  (hP:wpAnyH Tryz.prog md L.toArray Q S fuel (listed.setIfInBounds i true) (a.put oi.dst (.tuple #[z,.bool false])) w=X:=by (simp only [Act.put,List.setIfInBounds_toArray,List.set_cons_zero,List.set_cons_succ];try rfl))
  (hS:S w:=by assumption):wpAnyH Tryz.prog md L.toArray Q S (fuel+1) listed a w:=
 tkv (v:=.tuple #[z,.bool false]) h hr hi hw (by unfold execOp;simp only [ho,hx,hy,Sem.run_bind,run_look hT hkt hb hf hz,Result.andThen_ok,Sem.run_pure]) hP hS
end
theorem callG (args:Array Value) (W:World):Sem.run Tryz.prog (callFunc 51 args) W=.ok (.enter 51 args) W:=by kernel_rfl
theorem callD (args:Array Value) (W:World):Sem.run Tryz.prog (callFunc 53 args) W=.ok (.enter 53 args) W:=by kernel_rfl
theorem cexe_g {op:Int} {ix zs:List Int} {A:Option Addr} {len cap:Nat} {f:FuncId} {kb:Bool} {R:List Int→Ps→Int→List Int→Prop} (h:CP w0 w g F rs p n bs ks) (hy:Byt w A len zs) (hlen:(len:Int)≤9223372036854775807) (hd:dokI len zs=true) (hI:decI zs=ix) (hil:ix.length=12) (hi0:ix[0]?=some op) (hP:(p.P && privB op)=false) (hk:Instr.findNow (.int .i64) (.int .i64 op) ownE.toList 0=some none) (hkn:∀W,Calls Tryz.prog 52 #[.int .i64 op] W fun e w'=>e=.returned (.bool kb)∧W=w') (hf:f=if kb then 53 else 51) (hR:∀os q c bs',R os q c bs'→os.length=16∧∀z∈os,0≤z∧z≤4294967295) (hex:∀W,CP w0 W g F rs p n bs ks→Calls Tryz.prog f #[insV ix,.agg (rs.map (Value.int .u32)).toArray,.agg p.v.toArray,.pointer (some ⟨F.g,0,none⟩)] W fun e w'=>∃v,e=.returned v∧∃os q c bs',v=.tuple #[.agg (os.map (Value.int .u32)).toArray,.agg q.v.toArray,.int .i64 c]∧R os q c bs'∧St 63 w' F bs' ks∧Ch W w' [F.gb]):Calls Tryz.prog 40 #[.pointer (some ⟨g,0,none⟩),.slice A len cap] w fun e w'=>∃v,e=.returned v∧∃os q c bs',v=.tuple #[.agg #[.int .i64 0,.int .i64 0,.int .i64 0,.int .i64 0],.int .i64 c]∧R os q c bs'∧CP w0 w' g F os q n bs' ks:=by
 have DC:=lh (fun W (hb:Below w.heap.size w W)=>idecode_c A len cap zs W (hy.keep hb) hlen)
 simp only [hd,if_true,hI] at DC
 have H:=lh h
 have EX:=lh hex
 have HR:=lh hR
 have IL:=lh hil
 have I0:Hid ((ix.map (Value.int .i64))[0]?=some (.int .i64 op)):=lh (by simp [hi0])
 have FK:=lh hk
 have hsz:(ix.map (Value.int .i64)).toArray.size=12:=by simp [hil]
 have KN:=lh hkn
 have HF:=lh hf
 have CF:=lh (show ∀args W,Sem.run Tryz.prog (callFunc f args) W=.ok (.enter f args) W from by rw [hf];cases kb;exact callG;exact callD)
 have e0:=h.b.size
 have e1:=h.m.lt
 have e2:=h.st.ltg
 have e3:=h.st.ltb
 have e4:=h.st.ltk
 clear h hy hd hI hil hi0 hk hkn hf hR hex hlen
 go_enter Tryz.func40,Tryz.ntmps40
 go_upto_region 1 with fail
 have hE:=Bk.new w [.int .i64 0,.int .i64 0,.int .i64 0,.int .i64 0] 44
 have hb:=(Below.refl w.heap.size w).alloc (Nat.le_refl _) (.cells ([.int .i64 0,.int .i64 0,.int .i64 0,.int .i64 0]:List Value).toArray 44)
 have H1:=lh (H.out.keep hb)
 have DC1:=lh (DC.out _ hb)
 obtain ⟨w1,hW⟩:∃V,w.alloc (.cells ([.int .i64 0,.int .i64 0,.int .i64 0,.int .i64 0]:List Value).toArray 44)=V:=⟨_,rfl⟩
 rw [hW] at hE H1 DC1
 try rw [hW]
 obtain ⟨g4,hg⟩:∃k,w.heap.size=k:=⟨_,rfl⟩
 rw [hg] at hE e0 e1 e2 e3 e4
 try simp only [hg]
 have E1:=lh hE
 have l4:=hE.lt
 clear hW hg hb hE DC H
 refine wp_region_lit ?_
 refine lsv ?_
 refine lsc DC1.out ?_
 intro w2 B2
 have H2:=lh (H1.out.keep B2.out)
 have E2:=lh (E1.out.keep B2.out)
 have l2:=B2.out.size
 clear H1 E1 DC1 B2
 iterate 3 refine lsv ?_
 refine lsv (v:=.pointer (some ⟨w2.heap.size,0,none⟩)) (w':=w2.alloc (.cells ([.int .i64 0,.int .i64 0,.int .i64 0,.int .i64 0,.int .i64 0,.int .i64 0,.int .i64 0,.int .i64 0,.int .i64 0,.int .i64 0,.int .i64 0,.int .i64 0]:List Value).toArray 54)) ?_
 refine lss (cs':=ix.map (Value.int .i64)) (Bk.new w2 [.int .i64 0,.int .i64 0,.int .i64 0,.int .i64 0,.int .i64 0,.int .i64 0,.int .i64 0,.int .i64 0,.int .i64 0,.int .i64 0,.int .i64 0,.int .i64 0] 54) (by rw [List.length_map,IL.out];rfl) (by simp [Value.oneCell']) (by rw [List.length_map,IL.out];kernel_rfl) ?_
 refine lsv ?_
 refine wpList_nil ?_
 have hI6:=(Bk.new w2 [.int .i64 0,.int .i64 0,.int .i64 0,.int .i64 0,.int .i64 0,.int .i64 0,.int .i64 0,.int .i64 0,.int .i64 0,.int .i64 0,.int .i64 0,.int .i64 0] 54).rowSet (ix.map (Value.int .i64))
 have hb:=below_row ((Below.refl w2.heap.size w2).alloc (Nat.le_refl _) (.cells ([.int .i64 0,.int .i64 0,.int .i64 0,.int .i64 0,.int .i64 0,.int .i64 0,.int .i64 0,.int .i64 0,.int .i64 0,.int .i64 0,.int .i64 0,.int .i64 0]:List Value).toArray 54)) (Nat.le_refl _) (ix.map (Value.int .i64)).toArray
 have H3:=lh (H2.out.keep hb)
 have E3:=lh (E2.out.keep hb)
 obtain ⟨w3,hW⟩:∃V,(w2.alloc (.cells ([.int .i64 0,.int .i64 0,.int .i64 0,.int .i64 0,.int .i64 0,.int .i64 0,.int .i64 0,.int .i64 0,.int .i64 0,.int .i64 0,.int .i64 0,.int .i64 0]:List Value).toArray 54)).setRow w2.heap.size (ix.map (Value.int .i64)).toArray=V:=⟨_,rfl⟩
 rw [hW] at hI6 H3 E3
 try rw [hW]
 obtain ⟨g6,hg⟩:∃k,w2.heap.size=k:=⟨_,rfl⟩
 rw [hg] at hI6 l2
 try simp only [hg]
 have I3:=lh hI6
 have l6:=hI6.lt
 clear hW hg hb hI6 H2 E2
 have PC:=lh (priv_c op)
 have c6:=I3.out.cell I0.out
 cases hpp:p.P
 all_goals
  rw [hpp] at hP
  (try rw [show privB op=false from hP] at PC)
  clear hP
  refine H3.out.opn ?_
  rw [hpp]
  intros
  go_upto_region 6 with (go_at_call 49;refine nz (PC.out _) ?_)
  clear PC c6
  refine wp_region_held_drew (S:=fun W=>CP w0 W g F rs p n bs ks∧W.cell? ⟨g6,0,none⟩=some (.int .i64 op)) (by kernel_rfl) ⟨H3.out.drew,(I3.out.drewN 1).cell I0.out⟩ (fun hHeld=>?_)
  replace H3:=lh H3.out.drew
  replace I3:=lh (I3.out.drewN 1)
  replace E3:=lh (E3.out.drewN 1)
  repeat refine tkx ?_
  refine tkc (R:=fun W=>(CP w0 W g F rs p n bs ks∧W.cell? ⟨g6,0,none⟩=some (.int .i64 op))∧W.heap[w3.drew.heap.size]?=some (.map ownE 10)∧Bk W g6 54 (ix.map (Value.int .i64))∧Bk W g4 44 [.int .i64 0,.int .i64 0,.int .i64 0,.int .i64 0]) ((own_c w3.drew).mono fun e w' h=>⟨h.1,⟨H3.out.keep h.2.b,(I3.out.keep h.2.b).cell I0.out⟩,h.2.m,I3.out.keep h.2.b,E3.out.keep h.2.b⟩) (fun _ h=>h.1) ?_
  clear H3 I3 E3 hHeld
  intro w4 Z hHeld
  refine tklk (z:=.nilFunc) Tryz.underlying114 Tryz.underlying3 Z.out.2.1 FK.out (by kernel_rfl) ?_
  repeat refine tkx ?_
  refine wpAnyH_done (by with_unfolding_all rfl) ?_ _
  clear hHeld
  have H4:=lh Z.out.1.1
  have T4:Hid (Two w4 g6 g4 ix):=lh ⟨Z.out.2.2.1,Z.out.2.2.2⟩
  have RL:=lh Z.out.1.1.rl
  have c4:=Z.out.1.2
  clear Z FK
  go_upto_if 49 with (go_at_call 52;refine nz (KN.out _) ?_)
  go_cut [10] from 47 to 49 (fun t wx=>t=.func (.func f) #[] #[]∧wx=w4)
  case first=>
   clear KN EX CF
   cases kb
   ·go_wp2_with fail
    go_meet
    rw [HF.out]
    exact ⟨rfl,rfl⟩
   ·go_wp2_with fail
    go_meet
    rw [HF.out]
    exact ⟨rfl,rfl⟩
  case rest=>
   obtain ⟨rfl,rfl⟩:=hcut
   clear HF
   rename World=>w4
   clear KN
   have hN:=w4.heap.size.le_refl
   obtain ⟨N0,hN0⟩:∃k,w4.heap.size=k:=⟨_,rfl⟩
   have n6:=T4.out.a.lt
   have n4:=T4.out.b.lt
   have ng:=H4.out.m.lt
   have ns:=H4.out.st.ltg
   have nb:=H4.out.st.ltb
   have nk:=H4.out.st.ltk
   rw [hN0] at n6 n4 ng ns nb nk hN
   go_upto_region 12 with fail
   go_cut [11,12,13] from 50 to 68 (fun t t' t'' wx=>∃ (ga gb:Nat) (os:List Int) (q:Ps) (c:Int) (bs':List Int),t=.pointer (some ⟨ga,0,none⟩)∧t'=.pointer (some ⟨gb,0,none⟩)∧t''=.int .i64 c∧R os q c bs'∧M3 N0 wx ga gb (os.map (Value.int .u32)) q.v∧CP w0 wx g F rs p n bs' ks∧Two wx g6 g4 ix)
   case first=>
    refine wp_region_held_drew (S:=fun W=>∃b,CP w0 W g F rs p n b ks∧Two W g6 g4 ix) (by kernel_rfl) ⟨_,H4.out.drew,T4.out.drew⟩ (fun hHeld=>?_)
    have Z:=lh (show CP w0 w4.drew g F rs p n bs ks∧Two w4.drew g6 g4 ix∧N0≤w4.drew.heap.size∧True∧True from ⟨H4.out.drew,T4.out.drew,by rw [← hN0];exact Nat.le_refl _,trivial,trivial⟩)
    obtain ⟨v0,hv0⟩:∃V,w4.drew=V:=⟨_,rfl⟩
    rw [hv0] at Z hHeld ⊢
    clear hv0 H4 T4 hN0
    repeat refine tkf ?_
    refine tkl 1 (fun W h=>by obtain ⟨_,_,h⟩:=h;exact h.a.row) ?_ (hn:=by rw [List.length_map,IL.out];kernel_rfl)
    repeat refine tkf ?_
    refine tkl 5 (fun W h=>by obtain ⟨_,h,_⟩:=h;exact h.rowR) ?_ (hn:=by rw [List.length_map,RL.out];kernel_rfl)
    repeat refine tkf ?_
    refine tkl (cs:=p.v) 9 (fun W h=>by obtain ⟨_,h,_⟩:=h;exact h.rowP) ?_
    repeat refine tkf ?_
    refine tk3 (i:=14) (j:=19) (k:=20) (by with_unfolding_all rfl) ?_ ?_ ?_
    ·refine opce (R:=fun V W=>∃os q c bs',V=.tuple #[.agg (os.map (Value.int .u32)).toArray,.agg q.v.toArray,.int .i64 c]∧R os q c bs'∧CP w0 W g F rs p n bs' ks∧Two W g6 g4 ix∧N0≤W.heap.size∧True∧True) ((EX.out _ Z.out.1).mono fun e w' ⟨v,he,os,q,c,bs',hv,hF,hs,hc⟩=>⟨v,he,os,q,c,bs',hv,hF,Z.out.1.ex (os:=rs) hs hc,Z.out.2.1.ch hc (by simp;omega) (by simp;omega),Nat.le_trans Z.out.2.2.1 hc.size,trivial,trivial⟩) (fun _ _ ⟨_,_,_,_,_,_,h⟩=>⟨_,h.1,h.2.1⟩) ?_ (hx:=by (go_simp;exact CF.out _ _))
     clear Z hHeld
     intro vv v1 Z hHeld
     obtain ⟨os,q,c,bs',rfl,hF,hZ⟩:=Z.out
     have FF:=lh hF
     clear Z hF
     have Z:=lh hZ
     clear hZ
     repeat refine tkf ?_
     refine tk2 (i:=19) (j:=20) (by with_unfolding_all rfl) ?_ ?_
     ·have al:=(Below.refl v1.heap.size v1).alloc (Nat.le_refl _) (.cells ([.int .u32 0,.int .u32 0,.int .u32 0,.int .u32 0,.int .u32 0,.int .u32 0,.int .u32 0,.int .u32 0,.int .u32 0,.int .u32 0,.int .u32 0,.int .u32 0,.int .u32 0,.int .u32 0,.int .u32 0,.int .u32 0]:List Value).toArray 25)
      refine opb (v:=.pointer (some ⟨v1.heap.size,0,none⟩)) (w1:=v1.alloc (.cells ([.int .u32 0,.int .u32 0,.int .u32 0,.int .u32 0,.int .u32 0,.int .u32 0,.int .u32 0,.int .u32 0,.int .u32 0,.int .u32 0,.int .u32 0,.int .u32 0,.int .u32 0,.int .u32 0,.int .u32 0,.int .u32 0]:List Value).toArray 25)) (R:=fun W=>CP w0 W g F rs p n bs' ks∧Two W g6 g4 ix∧N0≤W.heap.size∧(Bk W v1.heap.size 25 [.int .u32 0,.int .u32 0,.int .u32 0,.int .u32 0,.int .u32 0,.int .u32 0,.int .u32 0,.int .u32 0,.int .u32 0,.int .u32 0,.int .u32 0,.int .u32 0,.int .u32 0,.int .u32 0,.int .u32 0,.int .u32 0]∧N0≤v1.heap.size)∧True) ⟨Z.out.1.keep al,Z.out.2.1.keep al,Nat.le_trans Z.out.2.2.1 al.size,⟨Bk.new _ _ _,Z.out.2.2.1⟩,trivial⟩ (fun _ h=>⟨_,h.1,h.2.1⟩) ?_
      clear al
      clear Z hHeld
      intro v2 Z hHeld
      refine tk1 (i:=20) (by with_unfolding_all rfl) ?_
      ·have ne2:=Z.out.2.2.2.1.1.lt
       have al:=(Below.refl v2.heap.size v2).alloc (Nat.le_refl _) (.cells ([.int .i64 0,.int .i64 0,.bool false,.bool false,.bool false,.int .i64 0,.int .i64 0,.int .i64 0,.int .i64 0,.int .i64 0]:List Value).toArray 35)
       refine opb (v:=.pointer (some ⟨v2.heap.size,0,none⟩)) (w1:=v2.alloc (.cells ([.int .i64 0,.int .i64 0,.bool false,.bool false,.bool false,.int .i64 0,.int .i64 0,.int .i64 0,.int .i64 0,.int .i64 0]:List Value).toArray 35)) (R:=fun W=>CP w0 W g F rs p n bs' ks∧Two W g6 g4 ix∧N0≤W.heap.size∧(Bk W v1.heap.size 25 [.int .u32 0,.int .u32 0,.int .u32 0,.int .u32 0,.int .u32 0,.int .u32 0,.int .u32 0,.int .u32 0,.int .u32 0,.int .u32 0,.int .u32 0,.int .u32 0,.int .u32 0,.int .u32 0,.int .u32 0,.int .u32 0]∧N0≤v1.heap.size)∧(Bk W v2.heap.size 35 [.int .i64 0,.int .i64 0,.bool false,.bool false,.bool false,.int .i64 0,.int .i64 0,.int .i64 0,.int .i64 0,.int .i64 0]∧N0≤v2.heap.size)) ⟨Z.out.1.keep al,Z.out.2.1.keep al,Nat.le_trans Z.out.2.2.1 al.size,⟨Z.out.2.2.2.1.1.keep al,Z.out.2.2.2.1.2⟩,⟨Bk.new _ _ _,Z.out.2.2.1⟩⟩ (fun _ h=>⟨_,h.1,h.2.1⟩) ?_
       clear al
       clear Z hHeld
       intro v3 Z hHeld
       have ne:v1.heap.size≠v2.heap.size:=by have:=Z.out.2.2.2.1.1.lt;have:=Z.out.2.2.2.2.1.lt;omega
       repeat refine tkf ?_
       refine tks_ (cs':=os.map (Value.int .u32)) Z.out.2.2.2.1.1 (by rw [List.length_map,(HR.out _ _ _ _ FF.out).1];rfl) (one_u32 _) (by rw [List.length_map,(HR.out _ _ _ _ FF.out).1];kernel_rfl) (R:=fun W=>M3 N0 W v1.heap.size v2.heap.size (os.map (Value.int .u32)) [.int .i64 0,.int .i64 0,.bool false,.bool false,.bool false,.int .i64 0,.int .i64 0,.int .i64 0,.int .i64 0,.int .i64 0]∧CP w0 W g F rs p n bs' ks∧Two W g6 g4 ix) ⟨⟨Z.out.2.2.2.1.1.rowSet _,Z.out.2.2.2.2.1.rowOth (Ne.symm ne) _,⟨Z.out.2.2.2.1.2,Z.out.2.2.2.2.2,ne⟩⟩,rowCP Z.out.1 Z.out.2.2.2.1.2 (by omega),Z.out.2.1.row (by have:=Z.out.2.2.2.1.2;omega) (by have:=Z.out.2.2.2.1.2;omega) _⟩ (fun _ h=>⟨_,h.2⟩) ?_
       clear Z hHeld
       intro w7 Z hHeld
       refine tks_ (cs':=q.v) Z.out.1.b (by rfl) (one_ps _) (by kernel_rfl) (R:=fun W=>M3 N0 W v1.heap.size v2.heap.size (os.map (Value.int .u32)) q.v∧CP w0 W g F rs p n bs' ks∧Two W g6 g4 ix) ⟨Z.out.1.setb _,rowCP Z.out.2.1 Z.out.1.n.2.1 (by omega),Z.out.2.2.row (by have:=Z.out.1.n.2.1;omega) (by have:=Z.out.1.n.2.1;omega) _⟩ (fun _ h=>⟨_,h.2⟩) ?_
       clear Z hHeld
       intro w8 Z hHeld
       repeat refine tkf ?_
       refine wpAnyH_done (by with_unfolding_all rfl) ?_ _
       clear hHeld
       go_wp2_with fail
       go_meet
       exact ⟨_,_,_,_,_,_,rfl,rfl,rfl,FF.out,Z.out.1,Z.out.2⟩
     ·have al:=(Below.refl v1.heap.size v1).alloc (Nat.le_refl _) (.cells ([.int .i64 0,.int .i64 0,.bool false,.bool false,.bool false,.int .i64 0,.int .i64 0,.int .i64 0,.int .i64 0,.int .i64 0]:List Value).toArray 35)
      refine opb (v:=.pointer (some ⟨v1.heap.size,0,none⟩)) (w1:=v1.alloc (.cells ([.int .i64 0,.int .i64 0,.bool false,.bool false,.bool false,.int .i64 0,.int .i64 0,.int .i64 0,.int .i64 0,.int .i64 0]:List Value).toArray 35)) (R:=fun W=>CP w0 W g F rs p n bs' ks∧Two W g6 g4 ix∧N0≤W.heap.size∧True∧(Bk W v1.heap.size 35 [.int .i64 0,.int .i64 0,.bool false,.bool false,.bool false,.int .i64 0,.int .i64 0,.int .i64 0,.int .i64 0,.int .i64 0]∧N0≤v1.heap.size)) ⟨Z.out.1.keep al,Z.out.2.1.keep al,Nat.le_trans Z.out.2.2.1 al.size,trivial,⟨Bk.new _ _ _,Z.out.2.2.1⟩⟩ (fun _ h=>⟨_,h.1,h.2.1⟩) ?_
      clear al
      clear Z hHeld
      intro v2 Z hHeld
      refine tk1 (i:=19) (by with_unfolding_all rfl) ?_
      ·have ne2:=Z.out.2.2.2.2.1.lt
       have al:=(Below.refl v2.heap.size v2).alloc (Nat.le_refl _) (.cells ([.int .u32 0,.int .u32 0,.int .u32 0,.int .u32 0,.int .u32 0,.int .u32 0,.int .u32 0,.int .u32 0,.int .u32 0,.int .u32 0,.int .u32 0,.int .u32 0,.int .u32 0,.int .u32 0,.int .u32 0,.int .u32 0]:List Value).toArray 25)
       refine opb (v:=.pointer (some ⟨v2.heap.size,0,none⟩)) (w1:=v2.alloc (.cells ([.int .u32 0,.int .u32 0,.int .u32 0,.int .u32 0,.int .u32 0,.int .u32 0,.int .u32 0,.int .u32 0,.int .u32 0,.int .u32 0,.int .u32 0,.int .u32 0,.int .u32 0,.int .u32 0,.int .u32 0,.int .u32 0]:List Value).toArray 25)) (R:=fun W=>CP w0 W g F rs p n bs' ks∧Two W g6 g4 ix∧N0≤W.heap.size∧(Bk W v2.heap.size 25 [.int .u32 0,.int .u32 0,.int .u32 0,.int .u32 0,.int .u32 0,.int .u32 0,.int .u32 0,.int .u32 0,.int .u32 0,.int .u32 0,.int .u32 0,.int .u32 0,.int .u32 0,.int .u32 0,.int .u32 0,.int .u32 0]∧N0≤v2.heap.size)∧(Bk W v1.heap.size 35 [.int .i64 0,.int .i64 0,.bool false,.bool false,.bool false,.int .i64 0,.int .i64 0,.int .i64 0,.int .i64 0,.int .i64 0]∧N0≤v1.heap.size)) ⟨Z.out.1.keep al,Z.out.2.1.keep al,Nat.le_trans Z.out.2.2.1 al.size,⟨Bk.new _ _ _,Z.out.2.2.1⟩,⟨Z.out.2.2.2.2.1.keep al,Z.out.2.2.2.2.2⟩⟩ (fun _ h=>⟨_,h.1,h.2.1⟩) ?_
       clear al
       clear Z hHeld
       intro v3 Z hHeld
       have ne:v2.heap.size≠v1.heap.size:=by have:=Z.out.2.2.2.1.1.lt;have:=Z.out.2.2.2.2.1.lt;omega
       repeat refine tkf ?_
       refine tks_ (cs':=os.map (Value.int .u32)) Z.out.2.2.2.1.1 (by rw [List.length_map,(HR.out _ _ _ _ FF.out).1];rfl) (one_u32 _) (by rw [List.length_map,(HR.out _ _ _ _ FF.out).1];kernel_rfl) (R:=fun W=>M3 N0 W v2.heap.size v1.heap.size (os.map (Value.int .u32)) [.int .i64 0,.int .i64 0,.bool false,.bool false,.bool false,.int .i64 0,.int .i64 0,.int .i64 0,.int .i64 0,.int .i64 0]∧CP w0 W g F rs p n bs' ks∧Two W g6 g4 ix) ⟨⟨Z.out.2.2.2.1.1.rowSet _,Z.out.2.2.2.2.1.rowOth (Ne.symm ne) _,⟨Z.out.2.2.2.1.2,Z.out.2.2.2.2.2,ne⟩⟩,rowCP Z.out.1 Z.out.2.2.2.1.2 (by omega),Z.out.2.1.row (by have:=Z.out.2.2.2.1.2;omega) (by have:=Z.out.2.2.2.1.2;omega) _⟩ (fun _ h=>⟨_,h.2⟩) ?_
       clear Z hHeld
       intro w7 Z hHeld
       refine tks_ (cs':=q.v) Z.out.1.b (by rfl) (one_ps _) (by kernel_rfl) (R:=fun W=>M3 N0 W v2.heap.size v1.heap.size (os.map (Value.int .u32)) q.v∧CP w0 W g F rs p n bs' ks∧Two W g6 g4 ix) ⟨Z.out.1.setb _,rowCP Z.out.2.1 Z.out.1.n.2.1 (by omega),Z.out.2.2.row (by have:=Z.out.1.n.2.1;omega) (by have:=Z.out.1.n.2.1;omega) _⟩ (fun _ h=>⟨_,h.2⟩) ?_
       clear Z hHeld
       intro w8 Z hHeld
       repeat refine tkf ?_
       refine wpAnyH_done (by with_unfolding_all rfl) ?_ _
       clear hHeld
       go_wp2_with fail
       go_meet
       exact ⟨_,_,_,_,_,_,rfl,rfl,rfl,FF.out,Z.out.1,Z.out.2⟩
    ·have al:=(Below.refl v0.heap.size v0).alloc (Nat.le_refl _) (.cells ([.int .u32 0,.int .u32 0,.int .u32 0,.int .u32 0,.int .u32 0,.int .u32 0,.int .u32 0,.int .u32 0,.int .u32 0,.int .u32 0,.int .u32 0,.int .u32 0,.int .u32 0,.int .u32 0,.int .u32 0,.int .u32 0]:List Value).toArray 25)
     refine opb (v:=.pointer (some ⟨v0.heap.size,0,none⟩)) (w1:=v0.alloc (.cells ([.int .u32 0,.int .u32 0,.int .u32 0,.int .u32 0,.int .u32 0,.int .u32 0,.int .u32 0,.int .u32 0,.int .u32 0,.int .u32 0,.int .u32 0,.int .u32 0,.int .u32 0,.int .u32 0,.int .u32 0,.int .u32 0]:List Value).toArray 25)) (R:=fun W=>CP w0 W g F rs p n bs ks∧Two W g6 g4 ix∧N0≤W.heap.size∧(Bk W v0.heap.size 25 [.int .u32 0,.int .u32 0,.int .u32 0,.int .u32 0,.int .u32 0,.int .u32 0,.int .u32 0,.int .u32 0,.int .u32 0,.int .u32 0,.int .u32 0,.int .u32 0,.int .u32 0,.int .u32 0,.int .u32 0,.int .u32 0]∧N0≤v0.heap.size)∧True) ⟨Z.out.1.keep al,Z.out.2.1.keep al,Nat.le_trans Z.out.2.2.1 al.size,⟨Bk.new _ _ _,Z.out.2.2.1⟩,trivial⟩ (fun _ h=>⟨_,h.1,h.2.1⟩) ?_
     clear al
     clear Z hHeld
     intro v1 Z hHeld
     refine tk2 (i:=14) (j:=20) (by with_unfolding_all rfl) ?_ ?_
     ·refine opce (R:=fun V W=>∃os q c bs',V=.tuple #[.agg (os.map (Value.int .u32)).toArray,.agg q.v.toArray,.int .i64 c]∧R os q c bs'∧CP w0 W g F rs p n bs' ks∧Two W g6 g4 ix∧N0≤W.heap.size∧(Bk W v0.heap.size 25 [.int .u32 0,.int .u32 0,.int .u32 0,.int .u32 0,.int .u32 0,.int .u32 0,.int .u32 0,.int .u32 0,.int .u32 0,.int .u32 0,.int .u32 0,.int .u32 0,.int .u32 0,.int .u32 0,.int .u32 0,.int .u32 0]∧N0≤v0.heap.size)∧True) ((EX.out _ Z.out.1).mono fun e w' ⟨v,he,os,q,c,bs',hv,hF,hs,hc⟩=>⟨v,he,os,q,c,bs',hv,hF,Z.out.1.ex (os:=rs) hs hc,Z.out.2.1.ch hc (by simp;omega) (by simp;omega),Nat.le_trans Z.out.2.2.1 hc.size,⟨Z.out.2.2.2.1.1.ch hc (by have:=Z.out.2.2.2.1.2;simp;omega),Z.out.2.2.2.1.2⟩,trivial⟩) (fun _ _ ⟨_,_,_,_,_,_,h⟩=>⟨_,h.1,h.2.1⟩) ?_ (hx:=by (go_simp;exact CF.out _ _))
      clear Z hHeld
      intro vv v2 Z hHeld
      obtain ⟨os,q,c,bs',rfl,hF,hZ⟩:=Z.out
      have FF:=lh hF
      clear Z hF
      have Z:=lh hZ
      clear hZ
      repeat refine tkf ?_
      refine tk1 (i:=20) (by with_unfolding_all rfl) ?_
      ·have ne2:=Z.out.2.2.2.1.1.lt
       have al:=(Below.refl v2.heap.size v2).alloc (Nat.le_refl _) (.cells ([.int .i64 0,.int .i64 0,.bool false,.bool false,.bool false,.int .i64 0,.int .i64 0,.int .i64 0,.int .i64 0,.int .i64 0]:List Value).toArray 35)
       refine opb (v:=.pointer (some ⟨v2.heap.size,0,none⟩)) (w1:=v2.alloc (.cells ([.int .i64 0,.int .i64 0,.bool false,.bool false,.bool false,.int .i64 0,.int .i64 0,.int .i64 0,.int .i64 0,.int .i64 0]:List Value).toArray 35)) (R:=fun W=>CP w0 W g F rs p n bs' ks∧Two W g6 g4 ix∧N0≤W.heap.size∧(Bk W v0.heap.size 25 [.int .u32 0,.int .u32 0,.int .u32 0,.int .u32 0,.int .u32 0,.int .u32 0,.int .u32 0,.int .u32 0,.int .u32 0,.int .u32 0,.int .u32 0,.int .u32 0,.int .u32 0,.int .u32 0,.int .u32 0,.int .u32 0]∧N0≤v0.heap.size)∧(Bk W v2.heap.size 35 [.int .i64 0,.int .i64 0,.bool false,.bool false,.bool false,.int .i64 0,.int .i64 0,.int .i64 0,.int .i64 0,.int .i64 0]∧N0≤v2.heap.size)) ⟨Z.out.1.keep al,Z.out.2.1.keep al,Nat.le_trans Z.out.2.2.1 al.size,⟨Z.out.2.2.2.1.1.keep al,Z.out.2.2.2.1.2⟩,⟨Bk.new _ _ _,Z.out.2.2.1⟩⟩ (fun _ h=>⟨_,h.1,h.2.1⟩) ?_
       clear al
       clear Z hHeld
       intro v3 Z hHeld
       have ne:v0.heap.size≠v2.heap.size:=by have:=Z.out.2.2.2.1.1.lt;have:=Z.out.2.2.2.2.1.lt;omega
       repeat refine tkf ?_
       refine tks_ (cs':=os.map (Value.int .u32)) Z.out.2.2.2.1.1 (by rw [List.length_map,(HR.out _ _ _ _ FF.out).1];rfl) (one_u32 _) (by rw [List.length_map,(HR.out _ _ _ _ FF.out).1];kernel_rfl) (R:=fun W=>M3 N0 W v0.heap.size v2.heap.size (os.map (Value.int .u32)) [.int .i64 0,.int .i64 0,.bool false,.bool false,.bool false,.int .i64 0,.int .i64 0,.int .i64 0,.int .i64 0,.int .i64 0]∧CP w0 W g F rs p n bs' ks∧Two W g6 g4 ix) ⟨⟨Z.out.2.2.2.1.1.rowSet _,Z.out.2.2.2.2.1.rowOth (Ne.symm ne) _,⟨Z.out.2.2.2.1.2,Z.out.2.2.2.2.2,ne⟩⟩,rowCP Z.out.1 Z.out.2.2.2.1.2 (by omega),Z.out.2.1.row (by have:=Z.out.2.2.2.1.2;omega) (by have:=Z.out.2.2.2.1.2;omega) _⟩ (fun _ h=>⟨_,h.2⟩) ?_
       clear Z hHeld
       intro w7 Z hHeld
       refine tks_ (cs':=q.v) Z.out.1.b (by rfl) (one_ps _) (by kernel_rfl) (R:=fun W=>M3 N0 W v0.heap.size v2.heap.size (os.map (Value.int .u32)) q.v∧CP w0 W g F rs p n bs' ks∧Two W g6 g4 ix) ⟨Z.out.1.setb _,rowCP Z.out.2.1 Z.out.1.n.2.1 (by omega),Z.out.2.2.row (by have:=Z.out.1.n.2.1;omega) (by have:=Z.out.1.n.2.1;omega) _⟩ (fun _ h=>⟨_,h.2⟩) ?_
       clear Z hHeld
       intro w8 Z hHeld
       repeat refine tkf ?_
       refine wpAnyH_done (by with_unfolding_all rfl) ?_ _
       clear hHeld
       go_wp2_with fail
       go_meet
       exact ⟨_,_,_,_,_,_,rfl,rfl,rfl,FF.out,Z.out.1,Z.out.2⟩
     ·have ne1:=Z.out.2.2.2.1.1.lt
      have al:=(Below.refl v1.heap.size v1).alloc (Nat.le_refl _) (.cells ([.int .i64 0,.int .i64 0,.bool false,.bool false,.bool false,.int .i64 0,.int .i64 0,.int .i64 0,.int .i64 0,.int .i64 0]:List Value).toArray 35)
      refine opb (v:=.pointer (some ⟨v1.heap.size,0,none⟩)) (w1:=v1.alloc (.cells ([.int .i64 0,.int .i64 0,.bool false,.bool false,.bool false,.int .i64 0,.int .i64 0,.int .i64 0,.int .i64 0,.int .i64 0]:List Value).toArray 35)) (R:=fun W=>CP w0 W g F rs p n bs ks∧Two W g6 g4 ix∧N0≤W.heap.size∧(Bk W v0.heap.size 25 [.int .u32 0,.int .u32 0,.int .u32 0,.int .u32 0,.int .u32 0,.int .u32 0,.int .u32 0,.int .u32 0,.int .u32 0,.int .u32 0,.int .u32 0,.int .u32 0,.int .u32 0,.int .u32 0,.int .u32 0,.int .u32 0]∧N0≤v0.heap.size)∧(Bk W v1.heap.size 35 [.int .i64 0,.int .i64 0,.bool false,.bool false,.bool false,.int .i64 0,.int .i64 0,.int .i64 0,.int .i64 0,.int .i64 0]∧N0≤v1.heap.size)) ⟨Z.out.1.keep al,Z.out.2.1.keep al,Nat.le_trans Z.out.2.2.1 al.size,⟨Z.out.2.2.2.1.1.keep al,Z.out.2.2.2.1.2⟩,⟨Bk.new _ _ _,Z.out.2.2.1⟩⟩ (fun _ h=>⟨_,h.1,h.2.1⟩) ?_
      clear al
      clear Z hHeld
      intro v2 Z hHeld
      refine tk1 (i:=14) (by with_unfolding_all rfl) ?_
      ·refine opce (R:=fun V W=>∃os q c bs',V=.tuple #[.agg (os.map (Value.int .u32)).toArray,.agg q.v.toArray,.int .i64 c]∧R os q c bs'∧CP w0 W g F rs p n bs' ks∧Two W g6 g4 ix∧N0≤W.heap.size∧(Bk W v0.heap.size 25 [.int .u32 0,.int .u32 0,.int .u32 0,.int .u32 0,.int .u32 0,.int .u32 0,.int .u32 0,.int .u32 0,.int .u32 0,.int .u32 0,.int .u32 0,.int .u32 0,.int .u32 0,.int .u32 0,.int .u32 0,.int .u32 0]∧N0≤v0.heap.size)∧(Bk W v1.heap.size 35 [.int .i64 0,.int .i64 0,.bool false,.bool false,.bool false,.int .i64 0,.int .i64 0,.int .i64 0,.int .i64 0,.int .i64 0]∧N0≤v1.heap.size)) ((EX.out _ Z.out.1).mono fun e w' ⟨v,he,os,q,c,bs',hv,hF,hs,hc⟩=>⟨v,he,os,q,c,bs',hv,hF,Z.out.1.ex (os:=rs) hs hc,Z.out.2.1.ch hc (by simp;omega) (by simp;omega),Nat.le_trans Z.out.2.2.1 hc.size,⟨Z.out.2.2.2.1.1.ch hc (by have:=Z.out.2.2.2.1.2;simp;omega),Z.out.2.2.2.1.2⟩,⟨Z.out.2.2.2.2.1.ch hc (by have:=Z.out.2.2.2.2.2;simp;omega),Z.out.2.2.2.2.2⟩⟩) (fun _ _ ⟨_,_,_,_,_,_,h⟩=>⟨_,h.1,h.2.1⟩) ?_ (hx:=by (go_simp;exact CF.out _ _))
       clear Z hHeld
       intro vv v3 Z hHeld
       obtain ⟨os,q,c,bs',rfl,hF,hZ⟩:=Z.out
       have FF:=lh hF
       clear Z hF
       have Z:=lh hZ
       clear hZ
       repeat refine tkf ?_
       have ne:v0.heap.size≠v1.heap.size:=by have:=Z.out.2.2.2.1.1.lt;have:=Z.out.2.2.2.2.1.lt;omega
       repeat refine tkf ?_
       refine tks_ (cs':=os.map (Value.int .u32)) Z.out.2.2.2.1.1 (by rw [List.length_map,(HR.out _ _ _ _ FF.out).1];rfl) (one_u32 _) (by rw [List.length_map,(HR.out _ _ _ _ FF.out).1];kernel_rfl) (R:=fun W=>M3 N0 W v0.heap.size v1.heap.size (os.map (Value.int .u32)) [.int .i64 0,.int .i64 0,.bool false,.bool false,.bool false,.int .i64 0,.int .i64 0,.int .i64 0,.int .i64 0,.int .i64 0]∧CP w0 W g F rs p n bs' ks∧Two W g6 g4 ix) ⟨⟨Z.out.2.2.2.1.1.rowSet _,Z.out.2.2.2.2.1.rowOth (Ne.symm ne) _,⟨Z.out.2.2.2.1.2,Z.out.2.2.2.2.2,ne⟩⟩,rowCP Z.out.1 Z.out.2.2.2.1.2 (by omega),Z.out.2.1.row (by have:=Z.out.2.2.2.1.2;omega) (by have:=Z.out.2.2.2.1.2;omega) _⟩ (fun _ h=>⟨_,h.2⟩) ?_
       clear Z hHeld
       intro w7 Z hHeld
       refine tks_ (cs':=q.v) Z.out.1.b (by rfl) (one_ps _) (by kernel_rfl) (R:=fun W=>M3 N0 W v0.heap.size v1.heap.size (os.map (Value.int .u32)) q.v∧CP w0 W g F rs p n bs' ks∧Two W g6 g4 ix) ⟨Z.out.1.setb _,rowCP Z.out.2.1 Z.out.1.n.2.1 (by omega),Z.out.2.2.row (by have:=Z.out.1.n.2.1;omega) (by have:=Z.out.1.n.2.1;omega) _⟩ (fun _ h=>⟨_,h.2⟩) ?_
       clear Z hHeld
       intro w8 Z hHeld
       repeat refine tkf ?_
       refine wpAnyH_done (by with_unfolding_all rfl) ?_ _
       clear hHeld
       go_wp2_with fail
       go_meet
       exact ⟨_,_,_,_,_,_,rfl,rfl,rfl,FF.out,Z.out.1,Z.out.2⟩
    ·have al:=(Below.refl v0.heap.size v0).alloc (Nat.le_refl _) (.cells ([.int .i64 0,.int .i64 0,.bool false,.bool false,.bool false,.int .i64 0,.int .i64 0,.int .i64 0,.int .i64 0,.int .i64 0]:List Value).toArray 35)
     refine opb (v:=.pointer (some ⟨v0.heap.size,0,none⟩)) (w1:=v0.alloc (.cells ([.int .i64 0,.int .i64 0,.bool false,.bool false,.bool false,.int .i64 0,.int .i64 0,.int .i64 0,.int .i64 0,.int .i64 0]:List Value).toArray 35)) (R:=fun W=>CP w0 W g F rs p n bs ks∧Two W g6 g4 ix∧N0≤W.heap.size∧True∧(Bk W v0.heap.size 35 [.int .i64 0,.int .i64 0,.bool false,.bool false,.bool false,.int .i64 0,.int .i64 0,.int .i64 0,.int .i64 0,.int .i64 0]∧N0≤v0.heap.size)) ⟨Z.out.1.keep al,Z.out.2.1.keep al,Nat.le_trans Z.out.2.2.1 al.size,trivial,⟨Bk.new _ _ _,Z.out.2.2.1⟩⟩ (fun _ h=>⟨_,h.1,h.2.1⟩) ?_
     clear al
     clear Z hHeld
     intro v1 Z hHeld
     refine tk2 (i:=14) (j:=19) (by with_unfolding_all rfl) ?_ ?_
     ·refine opce (R:=fun V W=>∃os q c bs',V=.tuple #[.agg (os.map (Value.int .u32)).toArray,.agg q.v.toArray,.int .i64 c]∧R os q c bs'∧CP w0 W g F rs p n bs' ks∧Two W g6 g4 ix∧N0≤W.heap.size∧True∧(Bk W v0.heap.size 35 [.int .i64 0,.int .i64 0,.bool false,.bool false,.bool false,.int .i64 0,.int .i64 0,.int .i64 0,.int .i64 0,.int .i64 0]∧N0≤v0.heap.size)) ((EX.out _ Z.out.1).mono fun e w' ⟨v,he,os,q,c,bs',hv,hF,hs,hc⟩=>⟨v,he,os,q,c,bs',hv,hF,Z.out.1.ex (os:=rs) hs hc,Z.out.2.1.ch hc (by simp;omega) (by simp;omega),Nat.le_trans Z.out.2.2.1 hc.size,trivial,⟨Z.out.2.2.2.2.1.ch hc (by have:=Z.out.2.2.2.2.2;simp;omega),Z.out.2.2.2.2.2⟩⟩) (fun _ _ ⟨_,_,_,_,_,_,h⟩=>⟨_,h.1,h.2.1⟩) ?_ (hx:=by (go_simp;exact CF.out _ _))
      clear Z hHeld
      intro vv v2 Z hHeld
      obtain ⟨os,q,c,bs',rfl,hF,hZ⟩:=Z.out
      have FF:=lh hF
      clear Z hF
      have Z:=lh hZ
      clear hZ
      repeat refine tkf ?_
      refine tk1 (i:=19) (by with_unfolding_all rfl) ?_
      ·have ne2:=Z.out.2.2.2.2.1.lt
       have al:=(Below.refl v2.heap.size v2).alloc (Nat.le_refl _) (.cells ([.int .u32 0,.int .u32 0,.int .u32 0,.int .u32 0,.int .u32 0,.int .u32 0,.int .u32 0,.int .u32 0,.int .u32 0,.int .u32 0,.int .u32 0,.int .u32 0,.int .u32 0,.int .u32 0,.int .u32 0,.int .u32 0]:List Value).toArray 25)
       refine opb (v:=.pointer (some ⟨v2.heap.size,0,none⟩)) (w1:=v2.alloc (.cells ([.int .u32 0,.int .u32 0,.int .u32 0,.int .u32 0,.int .u32 0,.int .u32 0,.int .u32 0,.int .u32 0,.int .u32 0,.int .u32 0,.int .u32 0,.int .u32 0,.int .u32 0,.int .u32 0,.int .u32 0,.int .u32 0]:List Value).toArray 25)) (R:=fun W=>CP w0 W g F rs p n bs' ks∧Two W g6 g4 ix∧N0≤W.heap.size∧(Bk W v2.heap.size 25 [.int .u32 0,.int .u32 0,.int .u32 0,.int .u32 0,.int .u32 0,.int .u32 0,.int .u32 0,.int .u32 0,.int .u32 0,.int .u32 0,.int .u32 0,.int .u32 0,.int .u32 0,.int .u32 0,.int .u32 0,.int .u32 0]∧N0≤v2.heap.size)∧(Bk W v0.heap.size 35 [.int .i64 0,.int .i64 0,.bool false,.bool false,.bool false,.int .i64 0,.int .i64 0,.int .i64 0,.int .i64 0,.int .i64 0]∧N0≤v0.heap.size)) ⟨Z.out.1.keep al,Z.out.2.1.keep al,Nat.le_trans Z.out.2.2.1 al.size,⟨Bk.new _ _ _,Z.out.2.2.1⟩,⟨Z.out.2.2.2.2.1.keep al,Z.out.2.2.2.2.2⟩⟩ (fun _ h=>⟨_,h.1,h.2.1⟩) ?_
       clear al
       clear Z hHeld
       intro v3 Z hHeld
       have ne:v2.heap.size≠v0.heap.size:=by have:=Z.out.2.2.2.1.1.lt;have:=Z.out.2.2.2.2.1.lt;omega
       repeat refine tkf ?_
       refine tks_ (cs':=os.map (Value.int .u32)) Z.out.2.2.2.1.1 (by rw [List.length_map,(HR.out _ _ _ _ FF.out).1];rfl) (one_u32 _) (by rw [List.length_map,(HR.out _ _ _ _ FF.out).1];kernel_rfl) (R:=fun W=>M3 N0 W v2.heap.size v0.heap.size (os.map (Value.int .u32)) [.int .i64 0,.int .i64 0,.bool false,.bool false,.bool false,.int .i64 0,.int .i64 0,.int .i64 0,.int .i64 0,.int .i64 0]∧CP w0 W g F rs p n bs' ks∧Two W g6 g4 ix) ⟨⟨Z.out.2.2.2.1.1.rowSet _,Z.out.2.2.2.2.1.rowOth (Ne.symm ne) _,⟨Z.out.2.2.2.1.2,Z.out.2.2.2.2.2,ne⟩⟩,rowCP Z.out.1 Z.out.2.2.2.1.2 (by omega),Z.out.2.1.row (by have:=Z.out.2.2.2.1.2;omega) (by have:=Z.out.2.2.2.1.2;omega) _⟩ (fun _ h=>⟨_,h.2⟩) ?_
       clear Z hHeld
       intro w7 Z hHeld
       refine tks_ (cs':=q.v) Z.out.1.b (by rfl) (one_ps _) (by kernel_rfl) (R:=fun W=>M3 N0 W v2.heap.size v0.heap.size (os.map (Value.int .u32)) q.v∧CP w0 W g F rs p n bs' ks∧Two W g6 g4 ix) ⟨Z.out.1.setb _,rowCP Z.out.2.1 Z.out.1.n.2.1 (by omega),Z.out.2.2.row (by have:=Z.out.1.n.2.1;omega) (by have:=Z.out.1.n.2.1;omega) _⟩ (fun _ h=>⟨_,h.2⟩) ?_
       clear Z hHeld
       intro w8 Z hHeld
       repeat refine tkf ?_
       refine wpAnyH_done (by with_unfolding_all rfl) ?_ _
       clear hHeld
       go_wp2_with fail
       go_meet
       exact ⟨_,_,_,_,_,_,rfl,rfl,rfl,FF.out,Z.out.1,Z.out.2⟩
     ·have ne1:=Z.out.2.2.2.2.1.lt
      have al:=(Below.refl v1.heap.size v1).alloc (Nat.le_refl _) (.cells ([.int .u32 0,.int .u32 0,.int .u32 0,.int .u32 0,.int .u32 0,.int .u32 0,.int .u32 0,.int .u32 0,.int .u32 0,.int .u32 0,.int .u32 0,.int .u32 0,.int .u32 0,.int .u32 0,.int .u32 0,.int .u32 0]:List Value).toArray 25)
      refine opb (v:=.pointer (some ⟨v1.heap.size,0,none⟩)) (w1:=v1.alloc (.cells ([.int .u32 0,.int .u32 0,.int .u32 0,.int .u32 0,.int .u32 0,.int .u32 0,.int .u32 0,.int .u32 0,.int .u32 0,.int .u32 0,.int .u32 0,.int .u32 0,.int .u32 0,.int .u32 0,.int .u32 0,.int .u32 0]:List Value).toArray 25)) (R:=fun W=>CP w0 W g F rs p n bs ks∧Two W g6 g4 ix∧N0≤W.heap.size∧(Bk W v1.heap.size 25 [.int .u32 0,.int .u32 0,.int .u32 0,.int .u32 0,.int .u32 0,.int .u32 0,.int .u32 0,.int .u32 0,.int .u32 0,.int .u32 0,.int .u32 0,.int .u32 0,.int .u32 0,.int .u32 0,.int .u32 0,.int .u32 0]∧N0≤v1.heap.size)∧(Bk W v0.heap.size 35 [.int .i64 0,.int .i64 0,.bool false,.bool false,.bool false,.int .i64 0,.int .i64 0,.int .i64 0,.int .i64 0,.int .i64 0]∧N0≤v0.heap.size)) ⟨Z.out.1.keep al,Z.out.2.1.keep al,Nat.le_trans Z.out.2.2.1 al.size,⟨Bk.new _ _ _,Z.out.2.2.1⟩,⟨Z.out.2.2.2.2.1.keep al,Z.out.2.2.2.2.2⟩⟩ (fun _ h=>⟨_,h.1,h.2.1⟩) ?_
      clear al
      clear Z hHeld
      intro v2 Z hHeld
      refine tk1 (i:=14) (by with_unfolding_all rfl) ?_
      ·refine opce (R:=fun V W=>∃os q c bs',V=.tuple #[.agg (os.map (Value.int .u32)).toArray,.agg q.v.toArray,.int .i64 c]∧R os q c bs'∧CP w0 W g F rs p n bs' ks∧Two W g6 g4 ix∧N0≤W.heap.size∧(Bk W v1.heap.size 25 [.int .u32 0,.int .u32 0,.int .u32 0,.int .u32 0,.int .u32 0,.int .u32 0,.int .u32 0,.int .u32 0,.int .u32 0,.int .u32 0,.int .u32 0,.int .u32 0,.int .u32 0,.int .u32 0,.int .u32 0,.int .u32 0]∧N0≤v1.heap.size)∧(Bk W v0.heap.size 35 [.int .i64 0,.int .i64 0,.bool false,.bool false,.bool false,.int .i64 0,.int .i64 0,.int .i64 0,.int .i64 0,.int .i64 0]∧N0≤v0.heap.size)) ((EX.out _ Z.out.1).mono fun e w' ⟨v,he,os,q,c,bs',hv,hF,hs,hc⟩=>⟨v,he,os,q,c,bs',hv,hF,Z.out.1.ex (os:=rs) hs hc,Z.out.2.1.ch hc (by simp;omega) (by simp;omega),Nat.le_trans Z.out.2.2.1 hc.size,⟨Z.out.2.2.2.1.1.ch hc (by have:=Z.out.2.2.2.1.2;simp;omega),Z.out.2.2.2.1.2⟩,⟨Z.out.2.2.2.2.1.ch hc (by have:=Z.out.2.2.2.2.2;simp;omega),Z.out.2.2.2.2.2⟩⟩) (fun _ _ ⟨_,_,_,_,_,_,h⟩=>⟨_,h.1,h.2.1⟩) ?_ (hx:=by (go_simp;exact CF.out _ _))
       clear Z hHeld
       intro vv v3 Z hHeld
       obtain ⟨os,q,c,bs',rfl,hF,hZ⟩:=Z.out
       have FF:=lh hF
       clear Z hF
       have Z:=lh hZ
       clear hZ
       repeat refine tkf ?_
       have ne:v1.heap.size≠v0.heap.size:=by have:=Z.out.2.2.2.1.1.lt;have:=Z.out.2.2.2.2.1.lt;omega
       repeat refine tkf ?_
       refine tks_ (cs':=os.map (Value.int .u32)) Z.out.2.2.2.1.1 (by rw [List.length_map,(HR.out _ _ _ _ FF.out).1];rfl) (one_u32 _) (by rw [List.length_map,(HR.out _ _ _ _ FF.out).1];kernel_rfl) (R:=fun W=>M3 N0 W v1.heap.size v0.heap.size (os.map (Value.int .u32)) [.int .i64 0,.int .i64 0,.bool false,.bool false,.bool false,.int .i64 0,.int .i64 0,.int .i64 0,.int .i64 0,.int .i64 0]∧CP w0 W g F rs p n bs' ks∧Two W g6 g4 ix) ⟨⟨Z.out.2.2.2.1.1.rowSet _,Z.out.2.2.2.2.1.rowOth (Ne.symm ne) _,⟨Z.out.2.2.2.1.2,Z.out.2.2.2.2.2,ne⟩⟩,rowCP Z.out.1 Z.out.2.2.2.1.2 (by omega),Z.out.2.1.row (by have:=Z.out.2.2.2.1.2;omega) (by have:=Z.out.2.2.2.1.2;omega) _⟩ (fun _ h=>⟨_,h.2⟩) ?_
       clear Z hHeld
       intro w7 Z hHeld
       refine tks_ (cs':=q.v) Z.out.1.b (by rfl) (one_ps _) (by kernel_rfl) (R:=fun W=>M3 N0 W v1.heap.size v0.heap.size (os.map (Value.int .u32)) q.v∧CP w0 W g F rs p n bs' ks∧Two W g6 g4 ix) ⟨Z.out.1.setb _,rowCP Z.out.2.1 Z.out.1.n.2.1 (by omega),Z.out.2.2.row (by have:=Z.out.1.n.2.1;omega) (by have:=Z.out.1.n.2.1;omega) _⟩ (fun _ h=>⟨_,h.2⟩) ?_
       clear Z hHeld
       intro w8 Z hHeld
       repeat refine tkf ?_
       refine wpAnyH_done (by with_unfolding_all rfl) ?_ _
       clear hHeld
       go_wp2_with fail
       go_meet
       exact ⟨_,_,_,_,_,_,rfl,rfl,rfl,FF.out,Z.out.1,Z.out.2⟩
   case rest=>
    obtain ⟨ga,gb,os,q,c,bs',rfl,rfl,rfl,hF,hM,hC,hT⟩:=hcut
    rename World=>w6
    have H:=lh hC
    have M:=lh hM
    have T:=lh hT
    have FF:=lh hF
    clear hM hC hT hF EX CF
    go_upto_region 13 with fail
    refine wp_region_held_drew (S:=fun W=>∃r q',CP w0 W g F r q' n bs' ks∧M3 N0 W ga gb (os.map (Value.int .u32)) q.v) (by kernel_rfl) ⟨_,_,H.out.drew,⟨M.out.a.drewN 1,M.out.b.drewN 1,M.out.n⟩⟩ (fun hHeld=>?_)
    have Z:=lh (show CP w0 w6.drew g F rs p n bs' ks∧M3 N0 w6.drew ga gb (os.map (Value.int .u32)) q.v∧Two w6.drew g6 g4 ix from ⟨H.out.drew,⟨M.out.a.drewN 1,M.out.b.drewN 1,M.out.n⟩,T.out.drew⟩)
    clear H M T
    repeat refine tkg ?_
    refine tkl 2 (fun W h=>by obtain ⟨_,_,_,h⟩:=h;exact h.a.row) ?_ (hn:=by rw [List.length_map,(HR.out _ _ _ _ FF.out).1];kernel_rfl)
    refine tkl (cs:=q.v) 3 (fun W h=>by obtain ⟨_,_,_,h⟩:=h;exact h.b.row) ?_
    repeat refine tkg ?_
    refine tksn Z.out.1.rowR Z.out.1.fz (by rw [List.length_map,List.length_map,RL.out,(HR.out _ _ _ _ FF.out).1]) (one_u32 _) (by rw [List.length_map,(HR.out _ _ _ _ FF.out).1];kernel_rfl) (R:=fun W=>CP w0 W g F os p n bs' ks∧M3 N0 W ga gb (os.map (Value.int .u32)) q.v∧Two W g6 g4 ix) ⟨Z.out.1.setr (HR.out _ _ _ _ FF.out).1 (HR.out _ _ _ _ FF.out).2,⟨Z.out.2.1.a.kept (cells_oth g _ 1 _ ga (by have:=Z.out.2.1.n.1;omega)),Z.out.2.1.b.kept (cells_oth g _ 1 _ gb (by have:=Z.out.2.1.n.2.1;omega)),Z.out.2.1.n⟩,⟨Z.out.2.2.a.kept (cells_oth g _ 1 _ g6 (by omega)),Z.out.2.2.b.kept (cells_oth g _ 1 _ g4 (by omega))⟩⟩ (fun _ h=>⟨_,_,h.1,h.2.1⟩) ?_
    clear Z hHeld
    intro w7 Z hHeld
    repeat refine tkg ?_
    refine tksn (cs:=p.v) (cs':=q.v) Z.out.1.rowP Z.out.1.fz (by rfl) (one_ps _) (by kernel_rfl) (R:=fun W=>CP w0 W g F os q n bs' ks∧M3 N0 W ga gb (os.map (Value.int .u32)) q.v∧Two W g6 g4 ix) ⟨Z.out.1.setp q,⟨Z.out.2.1.a.kept (cells_oth g _ 17 _ ga (by have:=Z.out.2.1.n.1;omega)),Z.out.2.1.b.kept (cells_oth g _ 17 _ gb (by have:=Z.out.2.1.n.2.1;omega)),Z.out.2.1.n⟩,⟨Z.out.2.2.a.kept (cells_oth g _ 17 _ g6 (by omega)),Z.out.2.2.b.kept (cells_oth g _ 17 _ g4 (by omega))⟩⟩ (fun _ h=>⟨_,_,h.1,h.2.1⟩) ?_
    clear Z hHeld
    intro w8 Z hHeld
    repeat refine tkg ?_
    refine wpAnyH_done (by with_unfolding_all rfl) ?_ _
    clear hHeld
    have H:=lh Z.out.1
    have T:=lh Z.out.2.2
    clear Z
    go_upto_region 14 with fail
    refine wp_region_lit ?_
    iterate 2 refine lsv ?_
    refine lss (cs':=[.int .i64 0,.int .i64 0,.int .i64 0,.int .i64 0]) T.out.b (by rfl) (by simp [Value.oneCell']) (by kernel_rfl) ?_
    refine lsv ?_
    refine wpList_nil ?_
    have H9:=rowCP (k:=g4) (cs:=([.int .i64 0,.int .i64 0,.int .i64 0,.int .i64 0]:List Value).toArray) H.out (Nat.le_refl g4) (by omega)
    go_wp2
    first | refine bodyPost_ret (res_cell2 rfl _ _ _ _ rfl (T.out.b.rowSet ([.int .i64 0,.int .i64 0,.int .i64 0,.int .i64 0]:List Value)) Tryz.underlying44 rfl (by kernel_rfl)) rfl ?_ | refine bodyPost_end (res_cell2 rfl _ _ _ _ rfl (T.out.b.rowSet ([.int .i64 0,.int .i64 0,.int .i64 0,.int .i64 0]:List Value)) Tryz.underlying44 rfl (by kernel_rfl)) rfl ?_
    exact ⟨_,rfl,os,q,c,bs',rfl,FF.out,H9⟩
theorem cexe_c {op:Int} {ix zs:List Int} {A:Option Addr} {len cap:Nat} {q:Ps} {bs':List Int} {f:FuncId} {kb:Bool} (h:CP w0 w g F rs p n bs ks) (hy:Byt w A len zs) (hlen:(len:Int)≤9223372036854775807) (hd:dokI len zs=true) (hI:decI zs=ix) (hil:ix.length=12) (hi0:ix[0]?=some op) (hP:p.P=false) (hk:Instr.findNow (.int .i64) (.int .i64 op) ownE.toList 0=some none) (hkn:∀W,Calls Tryz.prog 52 #[.int .i64 op] W fun e w'=>e=.returned (.bool kb)∧W=w') (hf:f=if kb then 53 else 51) (hol:os.length=16) (hor:∀z∈os,0≤z∧z≤4294967295) (hex:∀W,CP w0 W g F rs p n bs ks→Calls Tryz.prog f #[insV ix,.agg (rs.map (Value.int .u32)).toArray,.agg p.v.toArray,.pointer (some ⟨F.g,0,none⟩)] W fun e w'=>e=.returned (.tuple #[.agg (os.map (Value.int .u32)).toArray,.agg q.v.toArray,.int .i64 0])∧St 63 w' F bs' ks∧Ch W w' [F.gb]):Calls Tryz.prog 40 #[.pointer (some ⟨g,0,none⟩),.slice A len cap] w fun e w'=>e=.returned (.tuple #[.agg #[.int .i64 0,.int .i64 0,.int .i64 0,.int .i64 0],.int .i64 0])∧CP w0 w' g F os q n bs' ks:=by
 refine (cexe_g (R:=fun os' q' c' b'=>os'=os∧q'=q∧c'=0∧b'=bs') h hy hlen hd hI hil hi0 (by rw [hP];rfl) hk hkn hf (fun _ _ _ _ ⟨h1,_⟩=>h1▸⟨hol,hor⟩) (fun W hW=>(hex W hW).mono fun e w' ⟨he,hs,hc⟩=>⟨_,he,os,q,0,bs',rfl,⟨rfl,rfl,rfl,rfl⟩,hs,hc⟩)).mono ?_
 rintro e w' ⟨v,rfl,_,_,_,_,rfl,⟨rfl,rfl,rfl,rfl⟩,hC⟩
 exact ⟨rfl,hC⟩
end
theorem advance_c (m k:Int) (M W P:Bool) (c i q g a:Int) (n:Int) (w:World):Calls Tryz.prog 39 #[.agg #[.int .i64 m,.int .i64 k,.bool M,.bool W,.bool P,.int .i64 c,.int .i64 i,.int .i64 q,.int .i64 g,.int .i64 a],.int .i64 n] w fun e w'=>e=.returned (.agg #[.int .i64 m,.int .i64 k,.bool M,.bool W,.bool P,.int .i64 c,.int .i64 (if padv (pok m k c i q g a) n=true then n / 2 else i),.int .i64 q,.int .i64 g,.int .i64 (if padv (pok m k c i q g a) n=true then (a+n) % 16777216 else a)])∧Below w.heap.size w w':=by
 by_cases hn:pok m k c i q g a=true∧(n=2∨n=4∨n=6)
 ·obtain ⟨hp,hn⟩:=hn
  have hq:=(pok_iff m k c i q g a).1 hp
  have a0:=hq.2.2.2.2.2.2.1
  have a1:=hq.2.2.2.2.2.2.2
  clear hq
  have hf:padv true n=true:=decide_eq_true hn
  have el:=i64_low 24 16777215 (a+n) rfl (by omega) (by omega) (by omega)
  have ew:IntKind.i64.wrap (a+n)=a+n:=wrap_i64_id (by omega) (by omega)
  simp only [hp,hf,if_true]
  obtain ⟨a2,ha2⟩:∃x,(a+n) % 16777216=x:=⟨_,rfl⟩
  obtain ⟨qh,hq⟩:∃x,n / 2=x:=⟨_,rfl⟩
  replace el:bits .and .i64 (a+n) 16777215=a2:=el.trans ha2
  rw [ha2,hq]
  have HQ:=lh hq
  clear hf ha2 hq
  rcases hn with rfl | rfl | rfl
  all_goals
   go_enter Tryz.func39,Tryz.ntmps39
   go_upto_region 1 with fail
   obtain ⟨A1,A2,A3⟩:=box2 w [.int .i64 m,.int .i64 k,.bool M,.bool W,.bool P,.int .i64 c,.int .i64 i,.int .i64 q,.int .i64 g,.int .i64 a] [.int .i64 0,.int .i64 0,.bool false,.bool false,.bool false,.int .i64 0,.int .i64 0,.int .i64 0,.int .i64 0,.int .i64 0] 35 35
   obtain ⟨w1,hW⟩:∃V,(w.alloc (.cells ([.int .i64 m,.int .i64 k,.bool M,.bool W,.bool P,.int .i64 c,.int .i64 i,.int .i64 q,.int .i64 g,.int .i64 a]:List Value).toArray 35)).alloc (.cells ([.int .i64 0,.int .i64 0,.bool false,.bool false,.bool false,.int .i64 0,.int .i64 0,.int .i64 0,.int .i64 0,.int .i64 0]:List Value).toArray 35)=V:=⟨_,rfl⟩
   rw [hW] at A1 A2 A3
   first | rw [hW] | skip
   have HA:=lh A1
   have HZ:=lh A2
   have HB:=lh A3
   clear hW
   refine A1.opn10 ?_
   intros
   clear A1 A2 A3
   go_upto_region 2 with (go_at_call 22;refine nx (valid_c m k M W P c i q g a _) ?_;intro w2 B2;replace HA:=lh (HA.out.keep B2.out);replace HZ:=lh (HZ.out.keep B2.out);replace HB:=lh (HB.out.trans (B2.out.mono HB.out.size));clear B2)
   refine HA.out.opn10 ?_
   intros
   refine wp_region_lit ?_
   iterate 4 refine lsv (w':=w2) ?_
   refine lsv (v:=.int .i64 a2) (w':=w2) ?_
   refine lsv (w':=w2) ?_
   refine lsk (w':=w2.setCell ⟨w.heap.size,9,none⟩ (.int .i64 a2)) (by have f:=HA.out.free;unfold execOp;go_simp;(try rfl)) ?_
   refine wpList_nil ?_
   replace HA:=lh (HA.out.set_ 9 (.int .i64 a2))
   replace HZ:=lh (HZ.out.other (.int .i64 a2) (p:=⟨w.heap.size,9,none⟩) (by show w.heap.size≠_;omega))
   replace HB:=lh (HB.out.setCell (show w.heap.size≤(⟨w.heap.size,9,none⟩:Addr).block from Nat.le_refl _) (.int .i64 a2))
   obtain ⟨w3,hW⟩:∃V,w2.setCell ⟨w.heap.size,9,none⟩ (.int .i64 a2)=V:=⟨_,rfl⟩
   rw [hW] at HA HZ HB
   rw [hW]
   clear hW el ew
   go_upto_region 3 with fail
   refine HA.out.opn10 ?_
   intros
   refine wp_region_lit ?_
   refine lsv (w':=w3) ?_
   refine lsv (v:=.int .i64 qh) (w':=w3) ?_ (hr:=by rw [← HQ.out];go_simp;(try rfl))
   refine lsv (w':=w3) ?_
   refine lsk (w':=w3.setCell ⟨w.heap.size,6,none⟩ (.int .i64 qh)) (by have f:=HA.out.free;unfold execOp;go_simp;(try rfl)) ?_
   refine wpList_nil ?_
   replace HA:=lh (HA.out.set_ 6 (.int .i64 qh))
   replace HZ:=lh (HZ.out.other (.int .i64 qh) (p:=⟨w.heap.size,6,none⟩) (by show w.heap.size≠_;omega))
   replace HB:=lh (HB.out.setCell (show w.heap.size≤(⟨w.heap.size,6,none⟩:Addr).block from Nat.le_refl _) (.int .i64 qh))
   obtain ⟨w4,hW⟩:∃V,w3.setCell ⟨w.heap.size,6,none⟩ (.int .i64 qh)=V:=⟨_,rfl⟩
   rw [hW] at HA HZ HB
   rw [hW]
   clear hW
   go_upto_region 4 with fail
   refine wp_region_lit ?_
   refine lsl (cs:=[.int .i64 m,.int .i64 k,.bool M,.bool W,.bool P,.int .i64 c,.int .i64 qh,.int .i64 q,.int .i64 g,.int .i64 a2]) HA.out ?_
   refine lss (cs':=[.int .i64 m,.int .i64 k,.bool M,.bool W,.bool P,.int .i64 c,.int .i64 qh,.int .i64 q,.int .i64 g,.int .i64 a2]) HZ.out (by rfl) (by simp [Value.oneCell']) (by kernel_rfl) ?_
   refine wpList_nil ?_
   go_wp2
   first | refine bodyPost_ret (res_cell1 rfl _ _ _ _ rfl (HZ.out.rowSet [.int .i64 m,.int .i64 k,.bool M,.bool W,.bool P,.int .i64 c,.int .i64 qh,.int .i64 q,.int .i64 g,.int .i64 a2]) Tryz.underlying35 rfl (by kernel_rfl)) rfl ?_ | refine bodyPost_end (res_cell1 rfl _ _ _ _ rfl (HZ.out.rowSet [.int .i64 m,.int .i64 k,.bool M,.bool W,.bool P,.int .i64 c,.int .i64 qh,.int .i64 q,.int .i64 g,.int .i64 a2]) Tryz.underlying35 rfl (by kernel_rfl)) rfl ?_
   exact ⟨rfl,below_row2 HB.out (Nat.le_succ _) _⟩
 ·have hf:padv (pok m k c i q g a) n=false:=by
   cases hp:pok m k c i q g a
   ·rfl
   ·rw [hp] at hn
    simp only [true_and,not_or] at hn
    exact decide_eq_false (by omega)
  simp only [hf,Bool.false_eq_true,if_false]
  cases hp:pok m k c i q g a
  ·clear hn hf
   go_enter Tryz.func39,Tryz.ntmps39
   go_upto_region 1 with fail
   obtain ⟨A1,A2,A3⟩:=box2 w [.int .i64 m,.int .i64 k,.bool M,.bool W,.bool P,.int .i64 c,.int .i64 i,.int .i64 q,.int .i64 g,.int .i64 a] [.int .i64 0,.int .i64 0,.bool false,.bool false,.bool false,.int .i64 0,.int .i64 0,.int .i64 0,.int .i64 0,.int .i64 0] 35 35
   obtain ⟨w1,hW⟩:∃V,(w.alloc (.cells ([.int .i64 m,.int .i64 k,.bool M,.bool W,.bool P,.int .i64 c,.int .i64 i,.int .i64 q,.int .i64 g,.int .i64 a]:List Value).toArray 35)).alloc (.cells ([.int .i64 0,.int .i64 0,.bool false,.bool false,.bool false,.int .i64 0,.int .i64 0,.int .i64 0,.int .i64 0,.int .i64 0]:List Value).toArray 35)=V:=⟨_,rfl⟩
   rw [hW] at A1 A2 A3
   first | rw [hW] | skip
   have HA:=lh A1
   have HZ:=lh A2
   have HB:=lh A3
   clear hW
   refine A1.opn10 ?_
   intros
   clear A1 A2 A3
   go_upto_region 4 with (go_at_call 22;refine nx (valid_c m k M W P c i q g a _) ?_;intro w2 B2;replace HA:=lh (HA.out.keep B2.out);replace HZ:=lh (HZ.out.keep B2.out);replace HB:=lh (HB.out.trans (B2.out.mono HB.out.size));clear B2)
   refine wp_region_lit ?_
   refine lsl (cs:=[.int .i64 m,.int .i64 k,.bool M,.bool W,.bool P,.int .i64 c,.int .i64 i,.int .i64 q,.int .i64 g,.int .i64 a]) HA.out ?_
   refine lss (cs':=[.int .i64 m,.int .i64 k,.bool M,.bool W,.bool P,.int .i64 c,.int .i64 i,.int .i64 q,.int .i64 g,.int .i64 a]) HZ.out (by rfl) (by simp [Value.oneCell']) (by kernel_rfl) ?_
   refine wpList_nil ?_
   go_wp2
   first | refine bodyPost_ret (res_cell1 rfl _ _ _ _ rfl (HZ.out.rowSet [.int .i64 m,.int .i64 k,.bool M,.bool W,.bool P,.int .i64 c,.int .i64 i,.int .i64 q,.int .i64 g,.int .i64 a]) Tryz.underlying35 rfl (by kernel_rfl)) rfl ?_ | refine bodyPost_end (res_cell1 rfl _ _ _ _ rfl (HZ.out.rowSet [.int .i64 m,.int .i64 k,.bool M,.bool W,.bool P,.int .i64 c,.int .i64 i,.int .i64 q,.int .i64 g,.int .i64 a]) Tryz.underlying35 rfl (by kernel_rfl)) rfl ?_
   exact ⟨rfl,below_row2 HB.out (Nat.le_succ _) _⟩
  ·rw [hp] at hn
   simp only [true_and,not_or] at hn
   obtain ⟨n2,n4,n6⟩:=hn
   have p2:(n == 2)=false:=by rw [beq_eq_false_iff_ne];exact n2
   have p4:(n == 4)=false:=by rw [beq_eq_false_iff_ne];exact n4
   have p6:(n == 6)=false:=by rw [beq_eq_false_iff_ne];exact n6
   clear n2 n4 n6 hf
   go_enter Tryz.func39,Tryz.ntmps39
   go_upto_region 1 with fail
   obtain ⟨A1,A2,A3⟩:=box2 w [.int .i64 m,.int .i64 k,.bool M,.bool W,.bool P,.int .i64 c,.int .i64 i,.int .i64 q,.int .i64 g,.int .i64 a] [.int .i64 0,.int .i64 0,.bool false,.bool false,.bool false,.int .i64 0,.int .i64 0,.int .i64 0,.int .i64 0,.int .i64 0] 35 35
   obtain ⟨w1,hW⟩:∃V,(w.alloc (.cells ([.int .i64 m,.int .i64 k,.bool M,.bool W,.bool P,.int .i64 c,.int .i64 i,.int .i64 q,.int .i64 g,.int .i64 a]:List Value).toArray 35)).alloc (.cells ([.int .i64 0,.int .i64 0,.bool false,.bool false,.bool false,.int .i64 0,.int .i64 0,.int .i64 0,.int .i64 0,.int .i64 0]:List Value).toArray 35)=V:=⟨_,rfl⟩
   rw [hW] at A1 A2 A3
   first | rw [hW] | skip
   have HA:=lh A1
   have HZ:=lh A2
   have HB:=lh A3
   clear hW
   refine A1.opn10 ?_
   intros
   clear A1 A2 A3
   go_upto_region 4 with (go_at_call 22;refine nx (valid_c m k M W P c i q g a _) ?_;intro w2 B2;replace HA:=lh (HA.out.keep B2.out);replace HZ:=lh (HZ.out.keep B2.out);replace HB:=lh (HB.out.trans (B2.out.mono HB.out.size));clear B2)
   refine wp_region_lit ?_
   refine lsl (cs:=[.int .i64 m,.int .i64 k,.bool M,.bool W,.bool P,.int .i64 c,.int .i64 i,.int .i64 q,.int .i64 g,.int .i64 a]) HA.out ?_
   refine lss (cs':=[.int .i64 m,.int .i64 k,.bool M,.bool W,.bool P,.int .i64 c,.int .i64 i,.int .i64 q,.int .i64 g,.int .i64 a]) HZ.out (by rfl) (by simp [Value.oneCell']) (by kernel_rfl) ?_
   refine wpList_nil ?_
   go_wp2
   first | refine bodyPost_ret (res_cell1 rfl _ _ _ _ rfl (HZ.out.rowSet [.int .i64 m,.int .i64 k,.bool M,.bool W,.bool P,.int .i64 c,.int .i64 i,.int .i64 q,.int .i64 g,.int .i64 a]) Tryz.underlying35 rfl (by kernel_rfl)) rfl ?_ | refine bodyPost_end (res_cell1 rfl _ _ _ _ rfl (HZ.out.rowSet [.int .i64 m,.int .i64 k,.bool M,.bool W,.bool P,.int .i64 c,.int .i64 i,.int .i64 q,.int .i64 g,.int .i64 a]) Tryz.underlying35 rfl (by kernel_rfl)) rfl ?_
   exact ⟨rfl,below_row2 HB.out (Nat.le_succ _) _⟩
section
variable {P:Program} {ops:Array Oper} {rest:List Oper} {o:Oper} {act:Act} {Q:Exit→Act→World→Prop} {w:World}
theorem lsce {f:FuncId} {args:Array Value} {R:Value→World→Prop} {X:Value→World→Prop} (hc:Calls P f args w fun e w'=>∃v,e=.returned v∧R v w') (h:∀v w',Hid (R v w')→X v w') (hg:Region.wanted o (yielded ops act.tmps)=true:=by rfl) (hx:(execOp act.eval o).run P w=.ok (.enter f args) w:=by (go_simp;(try with_reducible rfl)))
  (hP:∀v w',wpList P ops Q rest (act.put o.dst v) w'=X v w':=by (intro v w';simp only [Act.put,List.setIfInBounds_toArray,List.set_cons_zero,List.set_cons_succ];try rfl)):wpList P ops Q (o :: rest) act w:=by
 refine wpList_step fun K hK=>?_
 rw [hg,if_pos rfl]
 unfold Oper.wp
 rw [hx]
 refine Calls.mono hc fun e w' he=>?_
 obtain ⟨v,rfl,hR⟩:=he
 exact hK _ _ ((hP v w').symm▸h v w' (lh hR))
end
def Ps.adv (p:Ps) (m:Int):Ps:={ p with il:=m / 2,ad:=(p.ad+m) % 16777216 }
theorem padv_c (p:Ps) (m:Int) (h:padv (pok p.m p.key p.cd p.il p.cc p.pg p.ad) m=true) (W:World):Calls Tryz.prog 39 #[.agg p.v.toArray,.int .i64 m] W fun e w'=>e=.returned (.agg (p.adv m).v.toArray)∧Below W.heap.size W w':=by
 have:=advance_c p.m p.key p.M p.W p.P p.cd p.il p.cc p.pg p.ad m W
 simp only [h,if_true] at this
 exact this
section
variable {w0 w w':World} {g:Nat} {F:Foot} {rs os:List Int} {p q:Ps} {n:Int} {bs bs' ks:List Int}
theorem cnext_c {m:Nat} {zs:List Int} (h:CP w0 w g F rs p n bs ks) (hpa:padv (pok p.m p.key p.cd p.il p.cc p.pg p.ad) m=true) (hn:0≤n∧n+1≤9223372036854775807) (fc:∀W,CP W W g F rs p n bs ks→Calls Tryz.prog 38 #[.pointer (some ⟨g,0,none⟩),.int .i64 p.ad] W fun e w'=>∃v,e=.returned v∧∃b cap,v=.tuple #[.slice (some ⟨b,0,none⟩) m cap,.int .i64 0]∧Byt w' (some ⟨b,0,none⟩) m zs∧b<w'.heap.size∧W.heap.size≤b∧CP W w' g F rs p n bs ks) (ec:∀W b cap,CP W W g F rs (p.adv m) (n+1) bs ks→Ch w0 W [g,F.gb]→Byt W (some ⟨b,0,none⟩) m zs→Calls Tryz.prog 40 #[.pointer (some ⟨g,0,none⟩),.slice (some ⟨b,0,none⟩) m cap] W fun e w'=>e=.returned (.tuple #[.agg #[.int .i64 0,.int .i64 0,.int .i64 0,.int .i64 0],.int .i64 0])∧CP W w' g F os q (n+1) bs' ks):Calls Tryz.prog 27 #[.pointer (some ⟨g,0,none⟩)] w fun e w'=>e=.returned (.tuple #[.agg #[.int .i64 0,.int .i64 0,.int .i64 0,.int .i64 0],.int .i64 0])∧CP w0 w' g F os q (n+1) bs' ks:=by
 have H:=lh h
 have FC:=lh fc
 have EC:=lh ec
 have PC:=lh (padv_c p m hpa)
 have n1:IntKind.i64.wrap (n+1)=n+1:=wrap_i64_id (by omega) (by omega)
 have e0:=h.b.size
 have e1:=h.m.lt
 have e2:=h.st.ltg
 have e3:=h.st.ltb
 have e4:=h.st.ltk
 clear h fc ec hpa
 go_enter Tryz.func27,Tryz.ntmps27
 go_upto_region 1 with fail
 have hE:=Bk.new w [.int .i64 0,.int .i64 0,.int .i64 0,.int .i64 0] 44
 have hb:=(Below.refl w.heap.size w).alloc (Nat.le_refl _) (.cells ([.int .i64 0,.int .i64 0,.int .i64 0,.int .i64 0]:List Value).toArray 44)
 have H1:=lh (H.out.keep hb)
 obtain ⟨w1,hW⟩:∃V,w.alloc (.cells ([.int .i64 0,.int .i64 0,.int .i64 0,.int .i64 0]:List Value).toArray 44)=V:=⟨_,rfl⟩
 rw [hW] at hE H1
 try rw [hW]
 obtain ⟨g4,hg⟩:∃k,w.heap.size=k:=⟨_,rfl⟩
 rw [hg] at hE e0 e1 e2 e3 e4
 try simp only [hg]
 have E1:=lh hE
 have l4:=hE.lt
 clear hW hg hb hE H
 refine H1.out.opn ?_
 intros
 refine wp_region_lit ?_
 iterate 6 refine lsv ?_
 refine lsce (FC.out _ H1.out.rb) ?_
 intro v w2 Z
 obtain ⟨b,cap,rfl,hy,hbl,hbg,hC⟩:=Z.out
 have E2:=lh (E1.out.ch hC.b (by simp;omega))
 have Y2:=lh hy
 have H2:=lh (H1.out.re hC)
 have l2:=hC.b.size
 clear Z hy hC H1 E1
 iterate 5 refine lsv ?_
 refine wpList_nil ?_
 go_upto_region 5 with fail
 refine H2.out.opn ?_
 intros
 refine wp_region_lit ?_
 iterate 4 refine lsv ?_
 refine lsv (v:=.int .i64 (n+1)) (w':=w2) ?_
 iterate 2 refine lsv (w':=w2) ?_
 refine lsk (w':=w2.setCell ⟨g,34,none⟩ (.int .i64 (n+1))) (by unfold execOp;go_simp;(try rfl)) ?_
 refine wpList_nil ?_
 have H3:=lh (H2.out.sett (n+1))
 have C3:=(Ch.refl w2 [g,F.gb]).setCell (p:=⟨g,34,none⟩) (by simp) (.int .i64 (n+1))
 have E3:=lh (E2.out.ch C3 (by simp;omega))
 have Y3:=lh (Y2.out.chg C3 hbl (by simp;omega))
 have l3:=C3.size
 obtain ⟨w3,hW⟩:∃V,w2.setCell ⟨g,34,none⟩ (.int .i64 (n+1))=V:=⟨_,rfl⟩
 rw [hW] at H3 E3 Y3 l3
 rw [hW]
 clear hW C3 H2 E2 Y2
 go_upto_region 6 with fail
 refine wp_region_lit ?_
 refine H3.out.opn ?_
 intros
 iterate 4 refine lsv (w':=w3) ?_
 refine lsm (cs:=p.v) H3.out.rowP ?_
 iterate 2 refine lsv (w':=w3) ?_
 refine lsc (PC.out _) ?_
 intro w4 B4
 have H4:=lh (H3.out.keep B4.out)
 have E4:=lh (E3.out.keep B4.out)
 have Y4:=lh (Y3.out.keep B4.out)
 have l4':=B4.out.size
 clear H3 E3 Y3 B4
 iterate 2 refine lsv (w':=w4) ?_
 refine lsn (cs:=p.v) (cs':=(p.adv m).v) H4.out.rowP H4.out.fz (by rfl) (one_ps _) (by kernel_rfl) ?_
 refine wpList_nil ?_
 have H5:=lh (H4.out.setp (p.adv m))
 have C5:=Ch.cells (a:=w4) (g:=g) (L:=[g,F.gb]) (.inl (by simp)) (p.adv m).v 17 _ (Ch.refl w4 _)
 have E5:=lh (E4.out.ch C5 (by simp;omega))
 have Y5:=lh (Y4.out.chg C5 (by omega) (by simp;omega))
 have l5:=C5.size
 obtain ⟨w5,hW⟩:∃V,w4.setCells g 17 (p.adv m).v=V:=⟨_,rfl⟩
 rw [hW] at H5 E5 Y5 l5
 rw [hW]
 clear hW C5 H4 E4 Y4
 go_upto_region 7 with fail
 refine wp_region_lit ?_
 iterate 2 refine lsv (w':=w5) ?_
 refine lsc (EC.out _ _ _ H5.out.rb H5.out.b Y5.out) ?_
 intro w6 Z
 have H6:=lh (H5.out.re Z.out)
 have E6:=lh (E5.out.ch Z.out.b (by simp;omega))
 clear Z H5 E5 Y5
 iterate 2 refine lsv (w':=w6) ?_
 refine lss (cs':=[.int .i64 0,.int .i64 0,.int .i64 0,.int .i64 0]) E6.out (by rfl) (by simp [Value.oneCell']) (by kernel_rfl) ?_
 refine lsv ?_
 refine wpList_nil ?_
 have H9:=rowCP (k:=g4) (cs:=([.int .i64 0,.int .i64 0,.int .i64 0,.int .i64 0]:List Value).toArray) H6.out (Nat.le_refl g4) (by omega)
 go_wp2
 first | refine bodyPost_ret (res_cell2 rfl _ _ _ _ rfl (E6.out.rowSet ([.int .i64 0,.int .i64 0,.int .i64 0,.int .i64 0]:List Value)) Tryz.underlying44 rfl (by kernel_rfl)) rfl ?_ | refine bodyPost_end (res_cell2 rfl _ _ _ _ rfl (E6.out.rowSet ([.int .i64 0,.int .i64 0,.int .i64 0,.int .i64 0]:List Value)) Tryz.underlying44 rfl (by kernel_rfl)) rfl ?_
 exact ⟨rfl,H9⟩
theorem cstep_c {n':Int} (h:CP w0 w g F rs p n bs ks) (hw:p.W=false) (nc:∀W,CP W W g F rs p n bs ks→Ch w0 W [g,F.gb]→Calls Tryz.prog 27 #[.pointer (some ⟨g,0,none⟩)] W fun e w'=>e=.returned (.tuple #[.agg #[.int .i64 0,.int .i64 0,.int .i64 0,.int .i64 0],.int .i64 0])∧CP W w' g F os q n' bs' ks):Calls Tryz.prog 14 #[.pointer (some ⟨g,0,none⟩)] w fun e w'=>e=.returned (.agg #[.int .i64 0,.int .i64 0,.int .i64 0,.int .i64 0])∧CP w0 w' g F os q n' bs' ks:=by
 have H:=lh h
 have NC:=lh nc
 have PW:=hw
 have e0:=h.b.size
 have e1:=h.m.lt
 have e2:=h.st.ltg
 have e3:=h.st.ltb
 have e4:=h.st.ltk
 clear h nc hw
 go_enter Tryz.func14,Tryz.ntmps14
 go_upto_region 1 with fail
 have hE:=Bk.new w [.int .i64 0,.int .i64 0,.int .i64 0,.int .i64 0] 44
 have hb:=(Below.refl w.heap.size w).alloc (Nat.le_refl _) (.cells ([.int .i64 0,.int .i64 0,.int .i64 0,.int .i64 0]:List Value).toArray 44)
 have H1:=lh (H.out.keep hb)
 obtain ⟨w1,hW⟩:∃V,w.alloc (.cells ([.int .i64 0,.int .i64 0,.int .i64 0,.int .i64 0]:List Value).toArray 44)=V:=⟨_,rfl⟩
 rw [hW] at hE H1
 try rw [hW]
 obtain ⟨g2,hg⟩:∃k,w.heap.size=k:=⟨_,rfl⟩
 rw [hg] at hE e0 e1 e2 e3 e4
 try simp only [hg]
 have E1:=lh hE
 have l1:=hE.lt
 clear hW hg hb hE H
 refine H1.out.opn ?_
 intros
 go_upto_region 7 with fail
 refine wp_region_lit ?_
 refine lsv (w':=w1) ?_
 refine lsc (cadm_c H1.out.rb) ?_
 intro w2 Z
 have H2:=lh (H1.out.re Z.out)
 have E2:=lh (E1.out.ch Z.out.b (by simp;omega))
 have l2:=Z.out.b.size
 clear Z H1 E1
 iterate 3 refine lsv (w':=w2) ?_
 refine lsv (v:=.pointer (some ⟨w2.heap.size,0,none⟩)) (w':=w2.alloc (.cells ([.int .i64 0,.int .i64 0]:List Value).toArray 72)) ?_
 refine lss (cs':=[.int .i64 0,.int .i64 0]) (Bk.new w2 [.int .i64 0,.int .i64 0] 72) (by rfl) (by simp [Value.oneCell']) (by kernel_rfl) ?_
 refine lsv ?_
 refine wpList_nil ?_
 have hb:=below_row ((Below.refl w2.heap.size w2).alloc (Nat.le_refl _) (.cells ([.int .i64 0,.int .i64 0]:List Value).toArray 72)) (Nat.le_refl _) ([.int .i64 0,.int .i64 0]:List Value).toArray
 have H3:=lh (H2.out.keep hb)
 have E3:=lh (E2.out.keep hb)
 have l3:=hb.size
 obtain ⟨w3,hW⟩:∃V,(w2.alloc (.cells ([.int .i64 0,.int .i64 0]:List Value).toArray 72)).setRow w2.heap.size ([.int .i64 0,.int .i64 0]:List Value).toArray=V:=⟨_,rfl⟩
 rw [hW] at H3 E3 l3
 rw [hW]
 clear hW hb H2 E2
 refine H3.out.opn ?_
 rw [PW]
 intros
 go_upto_region 12 with fail
 refine wp_region_lit ?_
 refine lsv (w':=w3) ?_
 refine lsc (NC.out _ H3.out.rb H3.out.b) ?_
 intro w4 Z
 have H4:=lh (H3.out.re Z.out)
 have E4:=lh (E3.out.ch Z.out.b (by simp;omega))
 have l4:=Z.out.b.size
 clear Z H3 E3
 iterate 3 refine lsv (w':=w4) ?_
 refine lsv (v:=.pointer (some ⟨w4.heap.size,0,none⟩)) (w':=w4.alloc (.cells ([.int .i64 0,.int .i64 0,.int .i64 0,.int .i64 0]:List Value).toArray 44)) ?_
 refine lss (cs':=[.int .i64 0,.int .i64 0,.int .i64 0,.int .i64 0]) (Bk.new w4 [.int .i64 0,.int .i64 0,.int .i64 0,.int .i64 0] 44) (by rfl) (by simp [Value.oneCell']) (by kernel_rfl) ?_
 refine lsv ?_
 refine wpList_nil ?_
 have hb:=below_row ((Below.refl w4.heap.size w4).alloc (Nat.le_refl _) (.cells ([.int .i64 0,.int .i64 0,.int .i64 0,.int .i64 0]:List Value).toArray 44)) (Nat.le_refl _) ([.int .i64 0,.int .i64 0,.int .i64 0,.int .i64 0]:List Value).toArray
 have H5:=lh (H4.out.keep hb)
 have E5:=lh (E4.out.keep hb)
 have N5:=lh ((Bk.new w4 [.int .i64 0,.int .i64 0,.int .i64 0,.int .i64 0] 44).rowSet ([.int .i64 0,.int .i64 0,.int .i64 0,.int .i64 0]:List Value))
 obtain ⟨w5,hW⟩:∃V,(w4.alloc (.cells ([.int .i64 0,.int .i64 0,.int .i64 0,.int .i64 0]:List Value).toArray 44)).setRow w4.heap.size ([.int .i64 0,.int .i64 0,.int .i64 0,.int .i64 0]:List Value).toArray=V:=⟨_,rfl⟩
 rw [hW] at H5 E5 N5
 rw [hW]
 clear hW hb H4 E4
 go_upto_region 15 with fail
 refine wp_region_lit ?_
 refine lsl (cs:=[.int .i64 0,.int .i64 0,.int .i64 0,.int .i64 0]) N5.out ?_
 refine lss (cs':=[.int .i64 0,.int .i64 0,.int .i64 0,.int .i64 0]) E5.out (by rfl) (by simp [Value.oneCell']) (by kernel_rfl) ?_
 refine wpList_nil ?_
 have H9:=rowCP (k:=g2) (cs:=([.int .i64 0,.int .i64 0,.int .i64 0,.int .i64 0]:List Value).toArray) H5.out (Nat.le_refl g2) (by omega)
 go_wp2
 first | refine bodyPost_ret (res_cell1 rfl _ _ _ _ rfl (E5.out.rowSet ([.int .i64 0,.int .i64 0,.int .i64 0,.int .i64 0]:List Value)) Tryz.underlying44 rfl (by kernel_rfl)) rfl ?_ | refine bodyPost_end (res_cell1 rfl _ _ _ _ rfl (E5.out.rowSet ([.int .i64 0,.int .i64 0,.int .i64 0,.int .i64 0]:List Value)) Tryz.underlying44 rfl (by kernel_rfl)) rfl ?_
 exact ⟨rfl,H9⟩
end
end Go.Proofs.YtljajnaclpbecaaGreatDoor
