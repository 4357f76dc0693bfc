/- Contracts and laws on the way to the statement, text 7 of 22. Conditions: as each states them. -/
import Derived.Test.YtljajnaclpbecaaGreatDoorGu1
import Derived.Test.YtljajnaclpbecaaGreatDoorGu2
import Derived.Test.YtljajnaclpbecaaGreatDoorGu4
import Derived.Test.YtljajnaclpbecaaGreatDoorGu6
import Derived.Shelf.Strconv.AppendUint10
import Derived.Outline
import Derived.Deep.CutRange
import Derived.Deep.CutBlock
import Derived.Shelf.Bits.Mul64
import Derived.Shelf.Spec.BitsCarry
import Derived.Shelf.Small.Bits
namespace Go.Proofs.YtljajnaclpbecaaGreatDoor
open Go.RowKit
set_option maxRecDepth 1000000
set_option maxHeartbeats 8000000
set_option linter.unusedVariables false
set_option linter.unusedSimpArgs false
section
variable {w:World} {g:Nat} {T:TypeId}
theorem Bk.sets:∀ (cs' cs l r:List Value) (w:World),Bk w g T (l++(cs++r))→cs'.length=cs.length→Bk (w.setCells g l.length cs') g T (l++(cs'++r))
 | [],[],l,r,w,h,_=>h
 | [],c :: cs,l,r,w,_,hl=>by cases hl
 | v :: vs,[],l,r,w,_,hl=>by cases hl
 | v :: vs,c :: cs,l,r,w,h,hl=>by
  have h1:=h.set_ l.length v
  rw [List.set_append_right _ _ (Nat.le_refl _),Nat.sub_self] at h1
  have h2:Bk (w.setCell ⟨g,l.length,none⟩ v) g T ((l++[v])++(cs++r)):=by simpa using h1
  have h3:=Bk.sets vs cs (l++[v]) r _ h2 (by simpa using hl)
  rw [List.length_append] at h3
  have h4:(w.setCells g l.length (v :: vs))=(w.setCell ⟨g,l.length,none⟩ v).setCells g (l.length+1) vs:=rfl
  rw [h4]
  simpa using h3
theorem cells_oth (g:Nat):∀ (vs:List Value) (o:Nat) (w:World) (k:Nat),k≠g→(w.setCells g o vs).heap[k]?=w.heap[k]?
 | [],_,_,_,_=>rfl
 | v :: vs,o,w,k,hk=>(cells_oth g vs (o+1) (w.setCell ⟨g,o,none⟩ v) k hk).trans (Below.heap_setCell w ⟨g,o,none⟩ v k hk)
theorem Ch.cells {a:World} {L:List Nat} (hg:g∈L∨a.heap.size≤g):∀ (vs:List Value) (o:Nat) (w:World),Ch a w L→Ch a (w.setCells g o vs) L
 | [],_,_,h=>h
 | v :: vs,o,w,h=>Ch.cells hg vs (o+1) (w.setCell ⟨g,o,none⟩ v) (by
   rcases hg with hg | hg
   ·exact h.setCell hg v
   ·exact h.setNew hg v)
end
def cpC (F:Foot) (rs:List Int) (p:Ps) (n:Int):List Value:=[.pointer (some ⟨F.g,0,none⟩)]++(rs.map (Value.int .u32)++(p.v++[.slice none 0 0,.int .i64 0,.int .i64 0,.int .i64 0,.int .i64 0,.bool false,.bool false,.int .i64 n]))
structure CP (w0 w:World) (g:Nat) (F:Foot) (rs:List Int) (p:Ps) (n:Int) (bs ks:List Int):Prop where
 m:Bk w g 66 (cpC F rs p n)
 st:St 63 w F bs ks
 b:Ch w0 w [g,F.gb]
 rl:rs.length=16
 ro:∀z∈rs,0≤z∧z≤4294967295
 nn:g≠F.g∧g≠F.gb∧g≠F.gk
section
variable {w0 w w':World} {g:Nat} {F:Foot} {rs os:List Int} {p q:Ps} {n:Int} {bs ks:List Int}
theorem CP.keep (h:CP w0 w g F rs p n bs ks) (hb:Below w.heap.size w w'):CP w0 w' g F rs p n bs ks:={ h with m:=h.m.keep hb,st:=h.st.belowS hb,b:=h.b.trans (Ch.of_below hb _) }
theorem CP.drew (h:CP w0 w g F rs p n bs ks):CP w0 w.drew g F rs p n bs ks:=h.keep (dBelow' (Below.refl _ _) 1)
theorem CP.rb (h:CP w0 w g F rs p n bs ks):CP w w g F rs p n bs ks:={ h with b:=Ch.refl _ _ }
theorem CP.re {rs':List Int} {p':Ps} {n':Int} {bs':List Int} (h:CP w0 w g F rs p n bs ks) (h':CP w w' g F rs' p' n' bs' ks):CP w0 w' g F rs' p' n' bs' ks:={ h' with b:=h.b.trans h'.b }
theorem CP.rowR (h:CP w0 w g F rs p n bs ks):w.rangeAt g 1 (rs.map (Value.int .u32)):=Bk.mid (l:=[_]) h.m
theorem CP.rowP (h:CP w0 w g F rs p n bs ks):w.rangeAt g 17 p.v:=by
 have hm:=h.m
 unfold cpC at hm
 rw [← List.append_assoc] at hm
 have hm:=Bk.mid hm
 rw [List.length_append,List.length_map,h.rl] at hm
 exact hm
theorem CP.tail (h:CP w0 w g F rs p n bs ks):w.rangeAt g 27 [.slice none 0 0,.int .i64 0,.int .i64 0,.int .i64 0,.int .i64 0,.bool false,.bool false,.int .i64 n]:=by
 have hm:=h.m
 unfold cpC at hm
 rw [← List.append_assoc,← List.append_assoc] at hm
 have hm:Bk w g 66 (([.pointer (some ⟨F.g,0,none⟩)]++rs.map (Value.int .u32)++p.v)++([.slice none 0 0,.int .i64 0,.int .i64 0,.int .i64 0,.int .i64 0,.bool false,.bool false,.int .i64 n]++[])):=by rw [List.append_nil];exact hm
 have hm:=Bk.mid hm
 rw [List.length_append,List.length_append,List.length_map,h.rl] at hm
 exact hm
theorem CP.c0 (h:CP w0 w g F rs p n bs ks):w.cell? ⟨g,0,none⟩=some (.pointer (some ⟨F.g,0,none⟩)):=h.m.cell rfl
theorem CP.fz (h:CP w0 w g F rs p n bs ks) (j:Nat):w.frozen? ⟨g,j,none⟩=false:=h.m.free j
theorem CP.cp (h:CP w0 w g F rs p n bs ks) {j:Nat} {v:Value} (hj:p.v[j]?=some v):w.cell? ⟨g,17+j,none⟩=some v:=h.rowP j v hj
theorem CP.ct (h:CP w0 w g F rs p n bs ks):w.cell? ⟨g,34,none⟩=some (.int .i64 n):=h.tail 7 _ rfl
theorem CP.opn {X:Prop} (h:CP w0 w g F rs p n bs ks) (hX:Hid (CP w0 w g F rs p n bs ks)→w.cell? ⟨g,0,none⟩=some (.pointer (some ⟨F.g,0,none⟩))→w.cell? ⟨g,18,none⟩=some (.int .i64 p.key)→w.cell? ⟨g,20,none⟩=some (.bool p.W)→w.cell? ⟨g,21,none⟩=some (.bool p.P)→w.cell? ⟨g,26,none⟩=some (.int .i64 p.ad)→w.cell? ⟨g,27,none⟩=some (.slice none 0 0)→w.cell? ⟨g,32,none⟩=some (.bool false)→w.cell? ⟨g,33,none⟩=some (.bool false)→w.cell? ⟨g,34,none⟩=some (.int .i64 n)→(∀j,w.frozen? ⟨g,j,none⟩=false)→X):X:=
 hX (lh h) h.c0 (h.cp (j:=1) rfl) (h.cp (j:=3) rfl) (h.cp (j:=4) rfl) (h.cp (j:=9) rfl) (h.tail 0 _ rfl) (h.tail 5 _ rfl) (h.tail 6 _ rfl) h.ct h.fz
theorem CP.setr (h:CP w0 w g F rs p n bs ks) {os:List Int} (hl:os.length=16) (ro:∀z∈os,0≤z∧z≤4294967295):CP w0 (w.setCells g 1 (os.map (Value.int .u32))) g F os p n bs ks:=by
 have e:=fun k hk=>cells_oth g (os.map (Value.int .u32)) 1 w k hk
 exact ⟨Bk.sets _ _ [_] _ _ h.m (by simp [hl,h.rl]),h.st.keep (e _ h.nn.1.symm) (e _ h.nn.2.1.symm) (e _ h.nn.2.2.symm),Ch.cells (.inl (by simp)) _ _ _ h.b,hl,ro,h.nn⟩
theorem CP.setp (h:CP w0 w g F rs p n bs ks) (q:Ps):CP w0 (w.setCells g 17 q.v) g F rs q n bs ks:=by
 have e:=fun k hk=>cells_oth g q.v 17 w k hk
 have hm:=h.m
 unfold cpC at hm
 rw [← List.append_assoc] at hm
 have h1:=Bk.sets q.v p.v _ _ _ hm rfl
 rw [List.length_append,List.length_map,h.rl] at h1
 refine ⟨?_,h.st.keep (e _ h.nn.1.symm) (e _ h.nn.2.1.symm) (e _ h.nn.2.2.symm),Ch.cells (.inl (by simp)) _ _ _ h.b,h.rl,h.ro,h.nn⟩
 unfold cpC
 rw [← List.append_assoc]
 exact h1
theorem CP.sett (h:CP w0 w g F rs p n bs ks) (n':Int):CP w0 (w.setCell ⟨g,34,none⟩ (.int .i64 n')) g F rs p n' bs ks:=by
 have e:=fun k hk=>Below.heap_setCell w ⟨g,34,none⟩ (.int .i64 n') k hk
 refine ⟨?_,h.st.keep (e _ h.nn.1.symm) (e _ h.nn.2.1.symm) (e _ h.nn.2.2.symm),h.b.setCell (by simp) _,h.rl,h.ro,h.nn⟩
 have h1:=h.m.set_ 34 (.int .i64 n')
 unfold cpC at h1 ⊢
 have hl:=h.rl
 rw [List.set_append_right _ _ (by simp),List.set_append_right _ _ (by simp [hl]),List.set_append_right _ _ (by simp [hl,Ps.v])] at h1
 simpa [hl,Ps.v] using h1
theorem CP.setf (h:CP w0 w g F rs p n bs ks) {j:Nat} (hj:j=32∨j=33):CP w0 (w.setCell ⟨g,j,none⟩ (.bool false)) g F rs p n bs ks:=by
 have e:=fun k hk=>Below.heap_setCell w ⟨g,j,none⟩ (.bool false) k hk
 refine ⟨?_,h.st.keep (e _ h.nn.1.symm) (e _ h.nn.2.1.symm) (e _ h.nn.2.2.symm),h.b.setCell (by simp) _,h.rl,h.ro,h.nn⟩
 have h1:=h.m.set_ j (.bool false)
 unfold cpC at h1 ⊢
 have hl:=h.rl
 rcases hj with rfl | rfl
 all_goals
  rw [List.set_append_right _ _ (by simp),List.set_append_right _ _ (by simp [hl]),List.set_append_right _ _ (by simp [hl,Ps.v])] at h1
  simpa [hl,Ps.v] using h1
theorem CP.oth (h:CP w0 w g F rs p n bs ks) {a:Addr} (v:Value) (ha:a.block≠g∧a.block≠F.g∧a.block≠F.gb∧a.block≠F.gk) (h0:w0.heap.size≤a.block):CP w0 (w.setCell a v) g F rs p n bs ks:=by
 have e:=fun k hk=>Below.heap_setCell w a v k hk
 exact { h with m:=h.m.kept (e _ ha.1.symm),st:=h.st.keep (e _ ha.2.1.symm) (e _ ha.2.2.1.symm) (e _ ha.2.2.2.symm),b:=h.b.setNew h0 v }
theorem CP.ex {os:List Int} {bs':List Int} (h:CP w0 w g F rs p n bs ks) (hs:St 63 w' F bs' ks) (hc:Ch w w' [F.gb]):CP w0 w' g F rs p n bs' ks:=
 { h with m:=h.m.ch hc (by simp;exact h.nn.2.1),st:=hs,b:=h.b.trans (hc.mono (by simp)) }
end
theorem res_cell1 {P:Program} {fn:Func} {p:Tmp} {tp:TypeId} (h:fn.results=#[.cell p tp]) (tmps:Array Value) (w:World) (g:Nat) (cs:List Value) {T:TypeId} {d:TypeDesc}
  (hp:tmps.getD p undef=.pointer (some ⟨g,0,none⟩)) (hg:Bk w g T cs) (hu:P.underlying tp=some d) (hd:(match d with | .struct _ | .array _ _=>true | _=>false)=true) (hi:(P.info? tp).map (·.size)=some cs.length) :
  (results fn tmps).run P w=.ok (.agg cs.toArray) w:=by
 have hp':tmps[p]?.getD undef=.pointer (some ⟨g,0,none⟩):=by simpa using hp
 simp [results,h,hp',asAddr,run_loadVar_row w g T tp cs.toArray (0,0) d hg hu hd (by simpa using hi)]
theorem res_cell2 {P:Program} {fn:Func} {p r:Tmp} {tp:TypeId} (h:fn.results=#[.cell p tp,.tmp r]) (tmps:Array Value) (w:World) (g:Nat) (cs:List Value) {T:TypeId} {d:TypeDesc}
  (hp:tmps.getD p undef=.pointer (some ⟨g,0,none⟩)) (hg:Bk w g T cs) (hu:P.underlying tp=some d) (hd:(match d with | .struct _ | .array _ _=>true | _=>false)=true) (hi:(P.info? tp).map (·.size)=some cs.length) :
  (results fn tmps).run P w=.ok (.tuple #[.agg cs.toArray,tmps.getD r undef]) w:=by
 have hp':tmps[p]?.getD undef=.pointer (some ⟨g,0,none⟩):=by simpa using hp
 simp [results,h,hp',asAddr,run_loadVar_row w g T tp cs.toArray (0,0) d hg hu hd (by simpa using hi)]
section
variable {ops:Array Oper} {rest:List Oper} {o:Oper} {act:Act} {Q:Exit→Act→World→Prop} {v:Value} {w w':World} {X:Prop}
theorem there_of {k off:Nat} {cs:List Value} (h:w.rangeAt k off cs) (hf:∀j,w.frozen? ⟨k,j,none⟩=false):w.there k off cs.length:=fun j hj=>⟨by rw [h j _ (List.getElem?_eq_getElem hj)];rfl,hf _⟩
theorem lsm {k off:Nat} {T:TypeId} {x:Operand} {cs:List Value} (hB:w.rangeAt k off cs) (h:X) (hg:Region.wanted o (yielded ops act.tmps)=true:=by rfl) (ho:o.op=.load T x:=by rfl) (hx:act.eval x=.pointer (some ⟨k,off,none⟩):=by rfl) (hd:isRw T:=by unfold isRw;kernel_rfl) (hi:(Tryz.prog.info? T).map (·.size)=some cs.length:=by kernel_rfl)
  (hP:wpList Tryz.prog ops Q rest (act.put o.dst (.agg cs.toArray)) w=X:=by (simp only [Act.put,List.setIfInBounds_toArray,List.set_cons_zero,List.set_cons_succ];try rfl)):wpList Tryz.prog ops Q (o :: rest) act w:=by
 obtain ⟨d,hu,hd⟩:=isRw_some hd
 exact lsv h hg (by unfold execOp;simp only [ho,hx,Sem.run_bind,run_loadAt_mid w k off T cs d hB hu hd hi,Result.andThen_ok,Sem.run_pure]) hP
theorem lsn {k off:Nat} {T:TypeId} {x y:Operand} {cs cs':List Value} (hB:w.rangeAt k off cs) (hf:∀j,w.frozen? ⟨k,j,none⟩=false) (hl:cs.length=cs'.length) (h1:cs'.toArray.all (·.oneCell')=true) (hi:(Tryz.prog.info? T).map (·.size)=some cs'.length) (h:X) (hg:Region.wanted o (yielded ops act.tmps)=true:=by rfl) (ho:o.op=.store T x y:=by rfl) (hx:act.eval x=.pointer (some ⟨k,off,none⟩):=by rfl) (hy:act.eval y=.agg cs'.toArray:=by rfl)
  (hP:wpList Tryz.prog ops Q rest (act.put o.dst undef) (w.setCells k off cs')=X:=by (simp only [Act.put,List.setIfInBounds_toArray,List.set_cons_zero,List.set_cons_succ];try rfl)):wpList Tryz.prog ops Q (o :: rest) act w:=
 lsk (w':=w.setCells k off cs') (by unfold execOp;simp only [ho,hx,hy,Sem.run_bind,run_storeAt_mid w k off T cs'.toArray (by have:=there_of hB hf;rw [hl] at this;simpa using this) (by simpa using hi) h1,Result.andThen_ok,Sem.run_pure]) h hg hP
theorem lsc {P:Program} {f:FuncId} {args:Array Value} {R:World→Prop} {X:World→Prop} (hc:Calls P f args w fun e w'=>e=.returned v∧R w') (h:∀w',Hid (R w')→X w') (hg:Region.wanted o (yielded ops act.tmps)=true:=by rfl) (hx:(execOp act.eval o).run P w=.ok (.enter f args) w:=by (go_simp;(try with_reducible rfl)))
  (hP:∀w',wpList P ops Q rest (act.put o.dst v) w'=X w':=by (intro w';simp only [Act.put,List.setIfInBounds_toArray,List.set_cons_zero,List.set_cons_succ];try rfl)):wpList P ops Q (o :: rest) act w:=by
 refine wpList_step fun K hK=>?_
 rw [hg,if_pos rfl]
 unfold Oper.wp
 rw [hx]
 refine Calls.mono hc fun e w' he=>?_
 obtain ⟨rfl,hR⟩:=he
 exact hK _ _ ((hP w').symm▸h w' (lh hR))
end
def p00:Ps:={ m:=0,key:=0,M:=false,W:=false,P:=false,cd:=0,il:=0,cc:=0,pg:=0,ad:=0 }
theorem box2 (w:World) (a b:List Value) (T U:TypeId):Bk ((w.alloc (.cells a.toArray T)).alloc (.cells b.toArray U)) w.heap.size T a∧Bk ((w.alloc (.cells a.toArray T)).alloc (.cells b.toArray U)) (w.heap.size+1) U b∧Below w.heap.size w ((w.alloc (.cells a.toArray T)).alloc (.cells b.toArray U)):=by
 have h:=Bk.new (w.alloc (.cells a.toArray T)) b U
 rw [World.size_alloc] at h
 exact ⟨(Bk.new w a T).alloc _,h,((Below.refl _ _).alloc (Nat.le_refl _) _).alloc (by simp) _⟩
section
variable {w0 w w':World} {g:Nat} {F:Foot} {rs os:List Int} {p q:Ps} {n:Int} {bs ks:List Int}
theorem cnew_c (h:St 63 w F bs ks):Calls Tryz.prog 7 #[.pointer (some ⟨F.g,0,none⟩)] w fun e w'=>e=.returned (.tuple #[.pointer (some ⟨w.heap.size,0,none⟩),.int .i64 0])∧CP w' w' w.heap.size F [0,0,0,0,0,0,0,0,0,0,0,0,0,0,0,0] p00 0 bs ks∧Below w.heap.size w w':=by
 have H:=lh h
 clear h
 go_enter Tryz.func7,Tryz.ntmps7
 go_upto_region 3 with fail
 refine wp_region_lit ?_
 refine lsv ?_
 refine lsv (v:=.agg (cpC F [0,0,0,0,0,0,0,0,0,0,0,0,0,0,0,0] p00 0).toArray) (w':=w) ?_ (hr:=by go_simp;kernel_rfl)
 have hsz:(cpC F [0,0,0,0,0,0,0,0,0,0,0,0,0,0,0,0] p00 0).toArray.size=35:=rfl
 refine lsv (v:=.pointer (some ⟨w.heap.size,0,none⟩)) (w':=w.alloc (.cells (cpC F [0,0,0,0,0,0,0,0,0,0,0,0,0,0,0,0] p00 0).toArray 66)) ?_
 iterate 2 refine lsv ?_
 refine wpList_nil ?_
 have e1:=H.out.ltg
 have e2:=H.out.ltb
 have e3:=H.out.ltk
 go_wp2
 go_ret2
 exact ⟨rfl,⟨Bk.new _ _ _,H.out.alloc _,Ch.refl _ _,rfl,by decide,by omega,by omega,by omega⟩,(Below.refl _ _).alloc (Nat.le_refl _) _⟩
theorem csetregs_c (h:CP w0 w g F rs p n bs ks) (hl:os.length=16) (ro:∀z∈os,0≤z∧z≤4294967295):Calls Tryz.prog 12 #[.pointer (some ⟨g,0,none⟩),.agg (os.map (Value.int .u32)).toArray] w fun e w'=>e=.returned (.int .i64 0)∧CP w0 w' g F os p n bs ks:=by
 have hsz:(os.map (Value.int .u32)).toArray.size=16:=by simpa using hl
 have H:=lh h
 have HL:=lh hl
 have HO:=lh ro
 clear h hl ro
 go_enter Tryz.func12,Tryz.ntmps12
 go_upto_region 3 with fail
 have hB:=Bk.new w (os.map (Value.int .u32)) 25
 have H1:=lh (H.out.keep ((Below.refl _ _).alloc (Nat.le_refl _) (.cells (os.map (Value.int .u32)).toArray 25)))
 refine wp_region_lit ?_
 refine lsv ?_
 refine lsl hB ?_ (hi:=by rw [List.length_map,HL.out];kernel_rfl)
 iterate 2 refine lsv ?_
 refine lsn (cs':=os.map (Value.int .u32)) H1.out.rowR H1.out.fz (by rw [List.length_map,List.length_map,H1.out.rl,HL.out]) (by simp [Value.oneCell']) (by rw [List.length_map,HL.out];kernel_rfl) ?_
 refine wpList_nil ?_
 go_wp2
 go_ret
 exact ⟨rfl,H1.out.setr HL.out HO.out⟩
theorem cload_c (h:CP w0 w g F rs p n bs ks) (q:Ps) (hv:pok q.m q.key q.cd q.il q.cc q.pg q.ad=true):Calls Tryz.prog 13 #[.pointer (some ⟨g,0,none⟩),.agg q.v.toArray] w fun e w'=>e=.returned (.int .i64 0)∧CP w0 w' g F rs q n bs ks:=by
 have H:=lh h
 have VC:=lh (fun W=>valid_c q.m q.key q.M q.W q.P q.cd q.il q.cc q.pg q.ad W)
 rw [hv] at VC
 clear h hv
 go_enter Tryz.func13,Tryz.ntmps13
 go_upto_region 3 with fail
 have hB:=lh (Bk.new w q.v 35)
 have H1:=lh (H.out.keep ((Below.refl _ _).alloc (Nat.le_refl _) (.cells q.v.toArray 35)))
 obtain ⟨w1,hW⟩:∃V,w.alloc (.cells q.v.toArray 35)=V:=⟨_,rfl⟩
 obtain ⟨k,hk⟩:∃k,w.heap.size=k:=⟨_,rfl⟩
 rw [hW,hk] at hB
 rw [hW] at H1
 first | rw [hW] | (change wp _ _ _ w1)
 try simp only [hk]
 clear hW hk H
 refine Bk.opn10 hB.out ?_
 intros
 go_upto_region 5 with (go_at_call 22;refine nx (VC.out _) ?_;intro w2 B2)
 replace H1:=lh (H1.out.keep B2.out)
 replace hB:=lh (hB.out.keep B2.out)
 refine wp_region_lit ?_
 iterate 3 refine lsv ?_
 refine lsl (cs:=q.v) hB.out ?_
 iterate 2 refine lsv ?_
 refine lsn (cs':=q.v) H1.out.rowP H1.out.fz (by rfl) (one_ps _) (by kernel_rfl) ?_
 replace H1:=lh (H1.out.setp q)
 iterate 2 refine lsv ?_
 refine lsk (by unfold execOp;have c:=H1.out.tail 6 _ rfl;have f:=H1.out.fz;go_simp;(try rfl)) ?_
 replace H1:=lh (H1.out.setf (j:=33) (.inr rfl))
 iterate 2 refine lsv ?_
 refine lsk (by unfold execOp;have c:=H1.out.tail 5 _ rfl;have f:=H1.out.fz;go_simp;(try rfl)) ?_
 replace H1:=lh (H1.out.setf (j:=32) (.inl rfl))
 refine wpList_nil ?_
 go_wp2
 go_ret
 exact ⟨rfl,H1.out⟩
theorem below_row2 {B:Nat} {a w:World} (h:Below B a w) {k:Nat} (hk:B≤k) (cs:Array Value):Below B a (w.setRow k cs):=⟨h.os,h.tape,h.output,by have:=h.size;simpa [World.setRow] using this,fun i hi=>(setRow_other w k i cs (by omega)).trans (h.block i hi)⟩
theorem cregs_c (h:CP w0 w g F rs p n bs ks):Calls Tryz.prog 20 #[.pointer (some ⟨g,0,none⟩)] w fun e w'=>e=.returned (.agg (rs.map (Value.int .u32)).toArray)∧CP w0 w' g F rs p n bs ks:=by
 have H:=lh h
 clear h
 go_enter Tryz.func20,Tryz.ntmps20
 go_upto_region 3 with fail
 have hB:=Bk.new w ([.int .u32 0,.int .u32 0,.int .u32 0,.int .u32 0,.int .u32 0,.int .u32 0,.int .u32 0,.int .u32 0,.int .u32 0,.int .u32 0,.int .u32 0,.int .u32 0,.int .u32 0,.int .u32 0,.int .u32 0,.int .u32 0]:List Value) 25
 have H1:=lh (H.out.keep ((Below.refl _ _).alloc (Nat.le_refl _) (.cells ([.int .u32 0,.int .u32 0,.int .u32 0,.int .u32 0,.int .u32 0,.int .u32 0,.int .u32 0,.int .u32 0,.int .u32 0,.int .u32 0,.int .u32 0,.int .u32 0,.int .u32 0,.int .u32 0,.int .u32 0,.int .u32 0]:List Value).toArray 25)))
 have H2:=lh (H.out.keep (below_row2 ((Below.refl w.heap.size w).alloc (Nat.le_refl _) (.cells ([.int .u32 0,.int .u32 0,.int .u32 0,.int .u32 0,.int .u32 0,.int .u32 0,.int .u32 0,.int .u32 0,.int .u32 0,.int .u32 0,.int .u32 0,.int .u32 0,.int .u32 0,.int .u32 0,.int .u32 0,.int .u32 0]:List Value).toArray 25)) (Nat.le_refl _) ((rs.map (Value.int .u32))).toArray))
 have hB2:=hB.rowSet (rs.map (Value.int .u32))
 refine wp_region_lit ?_
 iterate 3 refine lsv ?_
 refine lsm (cs:=(rs.map (Value.int .u32))) H1.out.rowR ?_ (hi:=(by rw [List.length_map,H.out.rl];kernel_rfl))
 refine lss (cs':=(rs.map (Value.int .u32))) hB (by rw [List.length_map,H.out.rl];rfl) (by simp [Value.oneCell',Ps.v]) (by rw [List.length_map,H.out.rl];kernel_rfl) ?_
 refine wpList_nil ?_
 go_wp2
 first | refine bodyPost_ret (res_cell1 rfl _ _ _ _ rfl hB2 Tryz.underlying25 rfl (by rw [List.length_map,H.out.rl];kernel_rfl)) rfl ?_ | refine bodyPost_end (res_cell1 rfl _ _ _ _ rfl hB2 Tryz.underlying25 rfl (by rw [List.length_map,H.out.rl];kernel_rfl)) rfl ?_
 exact ⟨rfl,H2.out⟩
theorem cpsw_c (h:CP w0 w g F rs p n bs ks):Calls Tryz.prog 21 #[.pointer (some ⟨g,0,none⟩)] w fun e w'=>e=.returned (.agg p.v.toArray)∧CP w0 w' g F rs p n bs ks:=by
 have H:=lh h
 clear h
 go_enter Tryz.func21,Tryz.ntmps21
 go_upto_region 3 with fail
 have hB:=Bk.new w ([.int .i64 0,.int .i64 0,.bool false,.bool false,.bool false,.int .i64 0,.int .i64 0,.int .i64 0,.int .i64 0,.int .i64 0]:List Value) 35
 have H1:=lh (H.out.keep ((Below.refl _ _).alloc (Nat.le_refl _) (.cells ([.int .i64 0,.int .i64 0,.bool false,.bool false,.bool false,.int .i64 0,.int .i64 0,.int .i64 0,.int .i64 0,.int .i64 0]:List Value).toArray 35)))
 have H2:=lh (H.out.keep (below_row2 ((Below.refl w.heap.size w).alloc (Nat.le_refl _) (.cells ([.int .i64 0,.int .i64 0,.bool false,.bool false,.bool false,.int .i64 0,.int .i64 0,.int .i64 0,.int .i64 0,.int .i64 0]:List Value).toArray 35)) (Nat.le_refl _) (p.v).toArray))
 have hB2:=hB.rowSet p.v
 refine wp_region_lit ?_
 iterate 3 refine lsv ?_
 refine lsm (cs:=p.v) H1.out.rowP ?_ (hi:=(by kernel_rfl))
 refine lss (cs':=p.v) hB (by rfl) (by simp [Value.oneCell',Ps.v]) (by kernel_rfl) ?_
 refine wpList_nil ?_
 go_wp2
 first | refine bodyPost_ret (res_cell1 rfl _ _ _ _ rfl hB2 Tryz.underlying35 rfl (by kernel_rfl)) rfl ?_ | refine bodyPost_end (res_cell1 rfl _ _ _ _ rfl hB2 Tryz.underlying35 rfl (by kernel_rfl)) rfl ?_
 exact ⟨rfl,H2.out⟩
theorem cadm_c (h:CP w0 w g F rs p n bs ks):Calls Tryz.prog 25 #[.pointer (some ⟨g,0,none⟩)] w fun e w'=>e=.returned (.tuple #[.agg #[.int .i64 0,.int .i64 0],.bool false])∧CP w0 w' g F rs p n bs ks:=by
 have H:=lh h
 clear h
 go_enter Tryz.func25,Tryz.ntmps25
 have ix0:∀W:World,(Instr.index 87 (.agg #[.int .i64 4,.int .i64 1,.int .i64 5]) (.int .i64 0)).run Tryz.prog W=.ok (.int .i64 4) W:=fun W=>by kernel_rfl
 have ix1:∀W:World,(Instr.index 87 (.agg #[.int .i64 4,.int .i64 1,.int .i64 5]) (.int .i64 1)).run Tryz.prog W=.ok (.int .i64 1) W:=fun W=>by kernel_rfl
 have ix2:∀W:World,(Instr.index 87 (.agg #[.int .i64 4,.int .i64 1,.int .i64 5]) (.int .i64 2)).run Tryz.prog W=.ok (.int .i64 5) W:=fun W=>by kernel_rfl
 have e0:=H.out.b.size
 have e1:=H.out.m.lt
 have e2:=H.out.st.ltg
 have e3:=H.out.st.ltb
 have e4:=H.out.st.ltk
 have hmf:∀ (fn:Fn) (first cap:Array Value) (w:World),(Instr.makeFunc fn first cap).run Tryz.prog w=.ok (.func fn first cap) w:=fun _ _ _ _=>rfl
 go_wp2
 obtain ⟨h1,h2,hb⟩:=box2 w [.pointer (some ⟨g,0,none⟩)] [.int .i64 0,.int .i64 0] 31 72
 obtain ⟨w1,hW⟩:∃V,((w.alloc (.cells ([.pointer (some ⟨g,0,none⟩)]:List Value).toArray 31)).alloc (.cells ([.int .i64 0,.int .i64 0]:List Value).toArray 72))=V:=⟨_,rfl⟩
 rw [hW] at h1 h2 hb
 rw [hW]
 obtain ⟨k,hk⟩:∃k,w.heap.size=k:=⟨_,rfl⟩
 rw [hk] at h1 h2 e0 e1 e2 e3 e4
 simp only [hk]
 have H1:=lh (show CP w0 w1 g F rs p n bs ks∧Bk w1 k 31 [.pointer (some ⟨g,0,none⟩)]∧Bk w1 (k+1) 72 [.int .i64 0,.int .i64 0] from ⟨H.out.keep hb,h1,h2⟩)
 clear hW h1 h2 hb H
 go_loopw [5,6,7,10] (fun _ _ _ x W=>∃j:Nat,j≤3∧x=.int .i64 (j:Int)∧CP w0 W g F rs p n bs ks∧Bk W k 31 [.pointer (some ⟨g,0,none⟩)]∧Bk W (k+1) 72 [.int .i64 0,.int .i64 0]) (fun _ _ _ x _=>3 - (intOf x).toNat)
 case atStart=>exact ⟨0,by omega,rfl,H1.out⟩
 case round=>
  obtain ⟨j,hj,rfl,hC,hk1,hk2⟩:=hrel
  have HC:=lh hC
  have K1:=lh hk1
  have K2:=lh hk2
  have c1:=hk1.cell (c:=0) rfl
  have ltk:=hk1.lt
  have ltg:=hC.m.lt
  refine hC.opn ?_
  clear H1 hC hk1
  intros
  rcases (show j=0∨j=1∨j=2∨j=3 by omega) with rfl | rfl | rfl | rfl
  rotate_right
  ·have d0:=hk2.cell (c:=0) rfl
   have d1:=hk2.cell (c:=1) rfl
   have f0:=hk2.free
   clear hk2
   go_wp2
   refine bodyPost_ret (res_cell2 rfl _ _ _ _ rfl ((K2.out.set_ 0 (.int .i64 0)).set_ 1 (.int .i64 0)) Tryz.underlying72 rfl (by kernel_rfl)) rfl ?_
   exact ⟨rfl,(HC.out.oth (.int .i64 0) (a:=⟨k+1,0,none⟩) (by dsimp only;omega) (by dsimp only;omega)).oth (.int .i64 0) (a:=⟨k+1,1,none⟩) (by dsimp only;omega) (by dsimp only;omega)⟩
  all_goals
   clear hk2
   go_wp2_with (go_at_call 35;refine nz (index_c _ _) ?_)
   first
    | exact ⟨⟨1,by omega,rfl,HC.out.keep ((Below.refl _ _).alloc (Nat.le_refl _) _),K1.out.alloc _,K2.out.alloc _⟩,by simp [intOf]⟩
    | exact ⟨⟨2,by omega,rfl,HC.out.keep ((Below.refl _ _).alloc (Nat.le_refl _) _),K1.out.alloc _,K2.out.alloc _⟩,by simp [intOf]⟩
    | exact ⟨⟨3,by omega,rfl,HC.out.keep ((Below.refl _ _).alloc (Nat.le_refl _) _),K1.out.alloc _,K2.out.alloc _⟩,by simp [intOf]⟩
end
end Go.Proofs.YtljajnaclpbecaaGreatDoor
namespace Go.Proofs.YtljajnaclpbecaaGreatDoor
set_option maxRecDepth 1000000
set_option maxHeartbeats 8000000
open Go.RowKit
set_option linter.unusedVariables false
set_option linter.unusedSimpArgs false
def topRen:Go.Shelf.Ren:=⟨fun | 129=>194 | 283=>189 | 284=>190 | 285=>191 | 317=>195 | 318=>196 | n=>n,fun | 0=>0 | 3=>3 | 4=>4 | 5=>5 | 9=>9 | 37=>22 | 46=>68 | 51=>23 | 53=>177 | 171=>241 | 212=>248 | n=>n,fun | 17=>2 | n=>n⟩
theorem lay283:Lays.n283 Tryz.prog topRen:={
 mixed:=by kernel_rfl
 f283:=Tryz.func189.trans (congrArg some (by kernel_rfl))
 t3:=Tryz.underlying3
 a3:=Tryz.isAgg3
 z3:=Tryz.sizeOf3
 v3:=Tryz.zeroValue3
 t4:=Tryz.underlying4
 a4:=Tryz.isAgg4
 z4:=Tryz.sizeOf4
 v4:=Tryz.zeroValue4
 t9:=Tryz.underlying9
 a9:=Tryz.isAgg9
 z9:=Tryz.sizeOf9
 v9:=Tryz.zeroValue9
}
theorem lay284:LaysM.n284 Tryz.prog topRen:={
 mixed:=by kernel_rfl
 f129:=Tryz.func194.trans (congrArg some (by kernel_rfl))
 f284:=Tryz.func190.trans (congrArg some (by kernel_rfl))
 f317:=Tryz.func195.trans (congrArg some (by kernel_rfl))
 f318:=Tryz.func196.trans (congrArg some (by kernel_rfl))
 t0:=Tryz.underlying0
 a0:=Tryz.isAgg0
 z0:=Tryz.sizeOf0
 v0:=Tryz.zeroValue0
 t3:=Tryz.underlying3
 a3:=Tryz.isAgg3
 z3:=Tryz.sizeOf3
 v3:=Tryz.zeroValue3
 t4:=Tryz.underlying4
 a4:=Tryz.isAgg4
 z4:=Tryz.sizeOf4
 v4:=Tryz.zeroValue4
 t5:=Tryz.underlying5
 a5:=Tryz.isAgg5
 z5:=Tryz.sizeOf5
 v5:=Tryz.zeroValue5
 t9:=Tryz.underlying9
 a9:=Tryz.isAgg9
 z9:=Tryz.sizeOf9
 v9:=Tryz.zeroValue9
 t46:=Tryz.underlying68
 a46:=Tryz.isAgg68
 z46:=Tryz.sizeOf68
 v46:=Tryz.zeroValue68
 t53:=Tryz.underlying177
 a53:=Tryz.isAgg177
 z53:=Tryz.sizeOf177
 v53:=Tryz.zeroValue177
 t212:=Tryz.underlying248
 a212:=Tryz.isAgg248
 z212:=Tryz.sizeOf248
 v212:=Tryz.zeroValue248
 g17:=by kernel_rfl
 i0:=by kernel_rfl
 i3:=by kernel_rfl
 i4:=by kernel_rfl
 i5:=by kernel_rfl
 i9:=by kernel_rfl
 i46:=by kernel_rfl
 i53:=by kernel_rfl
 i212:=by kernel_rfl
 m17:=by kernel_rfl
}
theorem lay285:Lays.n285 Tryz.prog topRen:={
 mixed:=by kernel_rfl
 f285:=Tryz.func191.trans (congrArg some (by kernel_rfl))
 t0:=Tryz.underlying0
 a0:=Tryz.isAgg0
 z0:=Tryz.sizeOf0
 v0:=Tryz.zeroValue0
 t3:=Tryz.underlying3
 a3:=Tryz.isAgg3
 z3:=Tryz.sizeOf3
 v3:=Tryz.zeroValue3
 t4:=Tryz.underlying4
 a4:=Tryz.isAgg4
 z4:=Tryz.sizeOf4
 v4:=Tryz.zeroValue4
 t5:=Tryz.underlying5
 a5:=Tryz.isAgg5
 z5:=Tryz.sizeOf5
 v5:=Tryz.zeroValue5
 t9:=Tryz.underlying9
 a9:=Tryz.isAgg9
 z9:=Tryz.sizeOf9
 v9:=Tryz.zeroValue9
 t37:=Tryz.underlying22
 a37:=Tryz.isAgg22
 z37:=Tryz.sizeOf22
 v37:=Tryz.zeroValue22
 t51:=Tryz.underlying23
 a51:=Tryz.isAgg23
 z51:=Tryz.sizeOf23
 v51:=Tryz.zeroValue23
 t53:=Tryz.underlying177
 a53:=Tryz.isAgg177
 z53:=Tryz.sizeOf177
 v53:=Tryz.zeroValue177
}
open Go.Lib Go.Sort
theorem funt_c (u : Nat) (hu64 : u < 18446744073709551616) (w : World) (htab : Lib.TabIs Tryz.prog w "internal/strconv.uint64pow10" .u64 Lib.pow10Tab) : Calls Tryz.prog 181 #[.int .u64 (u : Int), .int .i64 10] w fun e w' => e = .returned (.string ⟨(Lib.decDigits u).toArray⟩) ∧ Below w.heap.size w w' := by
 by_cases hi:u<100
 ·have SC:=lh (fun W=>Any.internal_strconv_small lay283 u hi W)
  have k1:(u:Int)<100:=by omega
  have k2:IntKind.i64.wrap (u:Int)=(u:Int):=wrap_i64_id (by omega) (by omega)
  clear htab
  go_enter Tryz.func181,Tryz.ntmps181
  go_wp2_with (go_at_call 189;refine (SC.out _).mono ?_;rintro e w' ⟨rfl,rfl⟩)
  go_ret
  exact ⟨rfl,Below.refl _ _⟩
 ·have hu1:1≤u:=by omega
  have k1:¬((u:Int)<100):=by omega
  have hnd20:Lib.nDigits u≤20:=by have:=Lib.numDigits_eq u hu1 hu64;split at this<;>omega
  have hal:Tryz.prog.arrayLen 241=24:=by kernel_rfl
  have hsl:∀W,(Instr.sliceAt 241 (.pointer (some ⟨w.heap.size,0,none⟩)) none (some (.int .i64 (Lib.nDigits u:Int))) none).run Tryz.prog W=.ok (.slice (some ⟨w.heap.size,0,none⟩) (Lib.nDigits u) 24) W:=fun W=>by
   rw [run_sliceAt_array_h W 241 ⟨w.heap.size,0,none⟩ (by kernel_rfl) .i64 (Lib.nDigits u:Int) (by omega) (by rw [hal];omega)]
   go_simp
  have hH0:=Lib.holds_zero0 w 241 (Lib.nDigits u) (by omega)
  have hfmt:=Any.internal_strconv_formatBase10 lay285 w.heap.size 0 24 u (Array.replicate (Lib.nDigits u) 0) (w.alloc (.cells Lib.zeros24 241)) hH0 (by rw [Array.size_replicate];exact Lib.lt_pow_nDigits u) hu64 (by rw [Array.size_replicate];omega)
  rw [Array.size_replicate] at hfmt
  have HH0:=lh hH0
  have FM:=lh hfmt
  have ND:=lh (fun W hW=>Any.internal_strconv_numDigits lay284 u hu1 hu64 W hW)
  have HT:=lh (Lib.tabIs_alloc htab (.cells Lib.zeros24 241))
  clear hH0 hal hfmt htab
  go_enter Tryz.func181,Tryz.ntmps181
  go_wp2_with (go_at_call 190;refine (ND.out _ HT.out).mono ?_;rintro e w' ⟨rfl,rfl⟩)
  refine FM.out.mono ?_
  rintro e w' ⟨rfl,k,v',dk,rfl,hF⟩
  have hcv:(convert 22 9 (.slice (some ⟨w.heap.size,0,none⟩) (Lib.nDigits u) 24)).run Tryz.prog ((putRow (fun (b:UInt8)=>Value.int .u8 (b.toNat:Int)) (w.alloc (.cells Lib.zeros24 241)) w.heap.size 0 dk).drewN k)=.ok (.string ⟨(Lib.decDigits u).toArray⟩) ((putRow (fun (b:UInt8)=>Value.int .u8 (b.toNat:Int)) (w.alloc (.cells Lib.zeros24 241)) w.heap.size 0 dk).drewN k):=by
   have h:=run_convert_bytes_back (P:=Tryz.prog) ((putRow (fun (b:UInt8)=>Value.int .u8 (b.toNat:Int)) (w.alloc (.cells Lib.zeros24 241)) w.heap.size 0 dk).drewN k) 22 9 5 ⟨w.heap.size,0,none⟩ 24 (Lib.decDigits u) Tryz.underlying22 Tryz.underlying5 Tryz.underlying9 (fun j hj=>by
    rw [Lib.row_is_numeral hF j hj,Lib.add_plain,World.cell?_drewN]
    exact cell?_putRow (fun (b:UInt8)=>Value.int .u8 (b.toNat:Int)) _ w.heap.size 0 _ dk HH0.out (by rw [hF.size,Array.size_replicate]) j (by rw [hF.size];rw [Lib.decDigits_length] at hj;exact hj))
   rw [Lib.decDigits_length] at h
   exact h
  obtain ⟨os,eo⟩:=Lib.fin_at w (.cells Lib.zeros24 241) dk k 0
  have HB:=lh (show Below w.heap.size w ((putRow (fun (b:UInt8)=>Value.int .u8 (b.toNat:Int)) (w.alloc (.cells Lib.zeros24 241)) w.heap.size 0 dk).drewN k) by rw [eo];exact Lib.below_grow w.heap.size w (Nat.le_refl _) k os)
  clear eo HH0 FM ND HT
  go_wp2
  go_ret
  exact ⟨rfl,HB.out⟩
theorem sfunt_c (u : Nat) (hu64 : u < 18446744073709551616) (w : World) (htab : Lib.TabIs Tryz.prog w "internal/strconv.uint64pow10" .u64 Lib.pow10Tab) : Calls Tryz.prog 157 #[.int .u64 (u : Int), .int .i64 10] w fun e w' => e = .returned (.string ⟨(Lib.decDigits u).toArray⟩) ∧ Below w.heap.size w w' := by
 have FC:=lh (funt_c u hu64 w htab)
 clear htab
 go_enter Tryz.func157,Tryz.ntmps157
 go_wp2_with (go_at_call 181;refine FC.out.mono ?_;rintro e w' ⟨rfl,hb⟩)
 go_ret
 exact ⟨rfl,hb⟩
end Go.Proofs.YtljajnaclpbecaaGreatDoor
namespace Go.Proofs.YtljajnaclpbecaaGreatDoor
open Go.RowKit
set_option maxRecDepth 1000000
set_option maxHeartbeats 8000000
set_option linter.unusedVariables false
set_option linter.unusedSimpArgs false
def renB:Go.Shelf.Ren:=⟨fun | 129=>194 | 134=>188 | 264=>179 | n=>n,fun | 0=>0 | 3=>3 | 4=>4 | 5=>5 | 9=>9 | 37=>22 | 46=>68 | 51=>23 | 53=>177 | 171=>241 | 212=>248 | n=>n,fun | n=>n⟩
def ren7:Go.Shelf.Ren:=⟨fun | 25=>176 | 26=>178 | n=>n,fun | 22=>177 | n=>n,fun | n=>n⟩
theorem lay264:Lays.n264 Tryz.prog renB:={
 mixed:=by kernel_rfl
 f264:=Tryz.func179.trans (congrArg some (by kernel_rfl))
 t46:=Tryz.underlying68
 a46:=Tryz.isAgg68
 z46:=Tryz.sizeOf68
 v46:=Tryz.zeroValue68
 t53:=Tryz.underlying177
 a53:=Tryz.isAgg177
 z53:=Tryz.sizeOf177
 v53:=Tryz.zeroValue177
}
theorem lay134:Lays.n134 Tryz.prog renB:={
 mixed:=by kernel_rfl
 f129:=Tryz.func194.trans (congrArg some (by kernel_rfl))
 f134:=Tryz.func188.trans (congrArg some (by kernel_rfl))
 t3:=Tryz.underlying3
 a3:=Tryz.isAgg3
 z3:=Tryz.sizeOf3
 v3:=Tryz.zeroValue3
 t4:=Tryz.underlying4
 a4:=Tryz.isAgg4
 z4:=Tryz.sizeOf4
 v4:=Tryz.zeroValue4
 t5:=Tryz.underlying5
 a5:=Tryz.isAgg5
 z5:=Tryz.sizeOf5
 v5:=Tryz.zeroValue5
 t9:=Tryz.underlying9
 a9:=Tryz.isAgg9
 z9:=Tryz.sizeOf9
 v9:=Tryz.zeroValue9
 t46:=Tryz.underlying68
 a46:=Tryz.isAgg68
 z46:=Tryz.sizeOf68
 v46:=Tryz.zeroValue68
 t53:=Tryz.underlying177
 a53:=Tryz.isAgg177
 z53:=Tryz.sizeOf177
 v53:=Tryz.zeroValue177
}
theorem lay725:Lays7.n25 Tryz.prog ren7:={
 mixed:=by kernel_rfl
 f25:=Tryz.func176.trans (congrArg some (by kernel_rfl))
 t22:=Tryz.underlying177
 a22:=Tryz.isAgg177
 z22:=Tryz.sizeOf177
 v22:=Tryz.zeroValue177
 i22:=by kernel_rfl
}
theorem lay726:Lays7.n26 Tryz.prog ren7:={
 mixed:=by kernel_rfl
 f26:=Tryz.func178.trans (congrArg some (by kernel_rfl))
 t22:=Tryz.underlying177
 a22:=Tryz.isAgg177
 z22:=Tryz.sizeOf177
 v22:=Tryz.zeroValue177
 i22:=by kernel_rfl
}
theorem mul64_c (x y:Nat) (hx:x<18446744073709551616) (hy:y<18446744073709551616) (w:World):Calls Tryz.prog 179 #[.int .u64 x,.int .u64 y] w fun e w'=>e=.returned (.tuple #[.int .u64 ((x*y / 18446744073709551616:Nat):Int),.int .u64 ((x*y % 18446744073709551616:Nat):Int)])∧w=w':=
 (Any.bits_Mul64 lay264 x y hx hy w).mono fun e w' h=>⟨h.1,h.2.symm⟩
theorem add64_r (x y c:Nat) (hc:c≤1) (w:World):(callFunc 176 #[.int .u64 x,.int .u64 y,.int .u64 c]).run Tryz.prog w=.ok (.value (.tuple #[.int .u64 (((x+y+c) % 18446744073709551616:Nat):Int),.int .u64 (((x+y+c) / 18446744073709551616:Nat):Int)])) w:=
 Any7.bits_Add64 lay725 x y c hc w
theorem sub64_r (x y b:Nat) (hb:b≤1) (w:World):(callFunc 178 #[.int .u64 x,.int .u64 y,.int .u64 b]).run Tryz.prog w=.ok (.value (.tuple #[.int .u64 (((x+18446744073709551616 - y - b) % 18446744073709551616:Nat):Int),.int .u64 ((if x<y+b then 1 else 0:Nat):Int)])) w:=
 Any7.bits_Sub64 lay726 x y b hb w
theorem lz64_h (y:Nat) (h0:y≠0) (h1:y<18446744073709551616):∃s:Nat,s≤63∧9223372036854775808≤y*2 ^ s∧y*2 ^ s<18446744073709551616∧Hid (∀W,Calls Tryz.prog 188 #[.int .u64 (y:Int)] W fun e w'=>e=.returned (.int .i64 (s:Int))∧W=w'):=by
 obtain ⟨b1,b2,b3⟩:=Lib.bitLenAux_bounds 64 y h1 h0
 have e:Lib.bitLen y=Lib.bitLenAux 64 y:=rfl
 have h64:=Lib.bitLen_le y 64 (Nat.le_refl _) h1
 rw [e] at h64
 refine ⟨64 - Lib.bitLenAux 64 y,by omega,?_,?_,lh fun W=>?_⟩
 ·have:(9223372036854775808:Nat)=2 ^ (Lib.bitLenAux 64 y - 1)*2 ^ (64 - Lib.bitLenAux 64 y):=by rw [← Nat.pow_add,show Lib.bitLenAux 64 y - 1+(64 - Lib.bitLenAux 64 y)=63 by omega]
  rw [this]
  exact Nat.mul_le_mul_right _ b2
 ·have:18446744073709551616=2 ^ Lib.bitLenAux 64 y*2 ^ (64 - Lib.bitLenAux 64 y):=by rw [← Nat.pow_add,show Lib.bitLenAux 64 y+(64 - Lib.bitLenAux 64 y)=64 by omega]
  rw [this]
  exact Nat.mul_lt_mul_of_pos_right b3 (Nat.pos_of_ne_zero (by simp))
 ·refine (Any.bits_LeadingZeros64 lay134 (y:Int) W (by omega) (by omega)).mono fun e' w' h=>⟨?_,h.2.symm⟩
  rw [h.1]
  congr 2
  rw [Int.toNat_natCast,e]
  omega
theorem wrap_n (z:Int):∃n:Nat,IntKind.u64.wrap z=(n:Int)∧n<18446744073709551616:=
 ⟨(IntKind.u64.wrap z).toNat,by rw [IntKind.wrap_u64];omega,by rw [IntKind.wrap_u64];omega⟩
theorem or_n (x y:Int):∃n:Nat,bits .or .u64 x y=(n:Int)∧n<18446744073709551616:=by
 have:∃z,bits .or .u64 x y=IntKind.u64.wrap z:=⟨_,rfl⟩
 obtain ⟨z,hz⟩:=this
 rw [hz]
 exact wrap_n z
theorem div64_w (hi lo y:Nat) (h0:hi<y) (h1:lo<18446744073709551616) (h2:y<18446744073709551616) (w:World):Calls Tryz.prog 180 #[.int .u64 (hi:Int),.int .u64 (lo:Int),.int .u64 (y:Int)] w fun e w'=>∃v,e=.returned v∧(∃q r:Nat,v=.tuple #[.int .u64 (q:Int),.int .u64 (r:Int)]∧q<18446744073709551616∧r<18446744073709551616)∧Below w.heap.size w w':=by
 obtain ⟨s,hs,hl,hu,LZ⟩:∃s:Nat,s≤63∧9223372036854775808≤y*2 ^ s∧y*2 ^ s<18446744073709551616∧Hid (∀W,Calls Tryz.prog 188 #[.int .u64 (y:Int)] W fun e w'=>e=.returned (.int .i64 (s:Int))∧W=w'):=lz64_h y (by omega) h2
 have k0:¬((y:Int)=0):=by omega
 have k0':((y:Int) == 0)=false:=by rw [beq_eq_false_iff_ne];omega
 have k1:¬((y:Int)≤(hi:Int)):=by omega
 by_cases hz:hi=0
 ·subst hz
  have e1:((lo:Int)).tdiv (y:Int)=((lo / y:Nat):Int):=by rw [Int.tdiv_eq_ediv_of_nonneg (by omega)];rfl
  have e2:((lo:Int)).tmod (y:Int)=((lo % y:Nat):Int):=by rw [Int.tmod_eq_emod_of_nonneg (by omega)];rfl
  have d1:lo / y≤lo:=Nat.div_le_self _ _
  have d2:lo % y≤lo:=Nat.mod_le _ _
  obtain ⟨q,hq⟩:∃q,lo / y=q:=⟨_,rfl⟩
  obtain ⟨r,hr⟩:∃q,lo % y=q:=⟨_,rfl⟩
  rw [hq] at e1 d1
  rw [hr] at e2 d2
  have e3:IntKind.u64.wrap (q:Int)=(q:Int):=by rw [IntKind.wrap_u64];omega
  have BB:=lh (show q<18446744073709551616∧r<18446744073709551616 by omega)
  clear hq hr
  go_enter Tryz.func180,Tryz.ntmps180
  go_upto_region 6 with fail
  refine wp_region_held_drew (S:=fun W=>Below w.heap.size w W) (by kernel_rfl) (dBelow' (Below.refl _ _) 1) (fun hHeld=>?_)
  repeat refine tkn ?_
  refine wpAnyH_done (by with_unfolding_all rfl) ?_ _
  clear hHeld
  go_wp2
  go_ret2
  exact ⟨_,rfl,⟨q,r,rfl,BB.out⟩,dBelow' (Below.refl _ _) 1⟩
 ·have k2:((hi:Int) == 0)=false:=by rw [beq_eq_false_iff_ne];omega
  obtain ⟨Y,hY⟩:∃Y,y*2 ^ s=Y:=⟨_,rfl⟩
  have e5:IntKind.u64.wrap ((y:Int)*2 ^ s)=(Y:Int):=by
   have e:(y:Int)*2 ^ s=(Y:Int):=by rw [← hY,Int.natCast_mul,Int.natCast_pow];rfl
   rw [e,IntKind.wrap_u64]
   omega
  rw [hY] at hl hu
  obtain ⟨n1,hn1⟩:∃n,Y / 4294967296=n:=⟨_,rfl⟩
  have e6:(Y:Int) / 4294967296=(n1:Int):=by omega
  have a1:bits .and .u64 (Y:Int) 4294967295=((Y % 4294967296:Nat):Int):=Mul64.maskN Y (by omega)
  obtain ⟨n0,hn0⟩:∃n,Y % 4294967296=n:=⟨_,rfl⟩
  rw [hn0] at a1
  have N1:=lh (show 2147483648≤n1∧n1<4294967296 by omega)
  have S63:=lh hs
  clear hY hn1 hn0 hl hu
  have e7:IntKind.u64.wrap ((64:Int) - (s:Int))=((64 - s:Nat):Int):=by rw [IntKind.wrap_u64];omega
  obtain ⟨L,e8,hL⟩:=wrap_n ((lo:Int)*2 ^ s)
  have a2:bits .and .u64 (L:Int) 4294967295=((L % 4294967296:Nat):Int):=Mul64.maskN L hL
  obtain ⟨l0,hl0⟩:∃n,L % 4294967296=n:=⟨_,rfl⟩
  rw [hl0] at a2
  obtain ⟨l1,hl1⟩:∃n,L / 4294967296=n:=⟨_,rfl⟩
  have e9:(L:Int) / 4294967296=(l1:Int):=by omega
  obtain ⟨U,eU,hU⟩:=or_n (IntKind.u64.wrap ((hi:Int)*2 ^ s)) ((lo:Int) / 2 ^ (64 - s))
  clear hl0 hl1 hL
  go_enter Tryz.func180,Tryz.ntmps180
  go_upto_region 15 with (go_at_call 188;refine nz (LZ.out _) ?_)
  clear e5 e6 a1 a2 e7 e8 e9 eU LZ k0 k0' k1 k2
  have c1:((U:Nat):Int).tdiv (n1:Int)=((U / n1:Nat):Int):=by rw [Int.tdiv_eq_ediv_of_nonneg (by omega)];rfl
  have c2:U / n1≤U:=Nat.div_le_self _ _
  have c3:=Nat.div_add_mod U n1
  have c4:U % n1<n1:=Nat.mod_lt _ (by have:=N1.out;omega)
  have c5:((U / n1:Nat):Int)*(n1:Int)=((n1*(U / n1):Nat):Int):=by rw [Int.natCast_mul,Int.mul_comm]
  obtain ⟨q1,hq⟩:∃q,U / n1=q:=⟨_,rfl⟩
  rw [hq] at c1 c2 c3 c5
  obtain ⟨mm,hmm⟩:∃m,n1*q1=m:=⟨_,rfl⟩
  rw [hmm] at c3 c5
  obtain ⟨RR,hrr⟩:∃r,U % n1=r:=⟨_,rfl⟩
  rw [hrr] at c3 c4
  have c6:IntKind.u64.wrap (q1:Int)=(q1:Int):=by rw [IntKind.wrap_u64];omega
  have c7:IntKind.u64.wrap ((q1:Int)*(n1:Int))=(mm:Int):=by rw [c5,IntKind.wrap_u64];omega
  have c8:IntKind.u64.wrap ((U:Int) - (mm:Int))=(RR:Int):=by rw [IntKind.wrap_u64];omega
  have QB:=lh (show q1<18446744073709551616 by omega)
  have RB:=lh (show RR<4294967296 by have:=N1.out;omega)
  have n1z:(n1:Int)≠0:=by have:=N1.out;omega
  have n1z':((n1:Int) == 0)=false:=by rw [beq_eq_false_iff_ne];exact n1z
  clear hq hmm hrr c3 c4 c5 c2
  go_upto_block 0 with fail
  go_cut [15,16] from 67 to 85 (fun a b W=>∃q r:Nat,a=.int .u64 (q:Int)∧b=.int .u64 (r:Int)∧q<18446744073709551616∧w=W)
  case first=>
   go_wp2
   go_loopw [15,16] (fun a b W=>∃q r:Nat,a=.int .u64 (q:Int)∧b=.int .u64 (r:Int)∧q<18446744073709551616∧r<4294967296∧w=W) (fun _ b _=>4294967296 - (intOf b).toNat)
   case atStart=>exact ⟨_,_,rfl,rfl,QB.out,RB.out,rfl⟩
   case round=>
    clear QB RB c1 c6 c7 c8
    obtain ⟨q,r,rfl,rfl,hq,hr,rfl⟩:=hrel
    obtain ⟨m1,f1,-⟩:=wrap_n ((q:Int)*(n0:Int))
    obtain ⟨m2,f2,-⟩:=wrap_n ((4294967296:Int)*(r:Int))
    obtain ⟨m3,f3,-⟩:=wrap_n ((m2:Int)+(l1:Int))
    obtain ⟨q',f4,hq'⟩:=wrap_n ((q:Int) - 1)
    have f5:IntKind.u64.wrap ((r:Int)+(n1:Int))=((r+n1:Nat):Int):=by have:=N1.out;rw [IntKind.wrap_u64];omega
    obtain ⟨r',hr'⟩:∃r',r+n1=r':=⟨_,rfl⟩
    rw [hr'] at f5
    have HQ:=lh hq
    have HQ':=lh hq'
    have HR:=lh (show r<4294967296∧r<r' by have:=N1.out;omega)
    clear hq hr hr' hq'
    have body:(4294967296:Int)≤(q:Int)∨(¬(4294967296:Int)≤(q:Int)∧(m3:Int)<(m1:Int))∨(¬(4294967296:Int)≤(q:Int)∧¬(m3:Int)<(m1:Int)):=by omega
    rcases body with hA | ⟨hA,hB⟩ | ⟨hA,hB⟩
    rotate_left 2
    ·go_wp2
     go_meet
     exact ⟨_,_,rfl,rfl,HQ.out,rfl⟩
    all_goals
     by_cases hC:(4294967296:Int)≤(r':Int)
     ·go_wp2
      go_meet
      exact ⟨_,_,rfl,rfl,HQ'.out,rfl⟩
     ·go_wp2
      go_roundw
      case rel=>exact ⟨_,_,rfl,rfl,HQ'.out,by omega,trivial⟩
      case measure=>simp [intOf];have:=HR.out;omega
  case rest=>
   clear QB RB c1 c6 c7 c8
   obtain ⟨Q1,r9,rfl,rfl,hQ1,rfl⟩:=hcut
   have HQ1:=lh hQ1
   clear hQ1
   obtain ⟨x1,g1,-⟩:=wrap_n ((U:Int)*4294967296)
   obtain ⟨x2,g2,-⟩:=wrap_n ((x1:Int)+(l1:Int))
   obtain ⟨x3,g3,-⟩:=wrap_n ((Q1:Int)*(Y:Int))
   obtain ⟨V,g4,hV⟩:=wrap_n ((x2:Int) - (x3:Int))
   have c1:((V:Nat):Int).tdiv (n1:Int)=((V / n1:Nat):Int):=by rw [Int.tdiv_eq_ediv_of_nonneg (by omega)];rfl
   have c2:V / n1≤V:=Nat.div_le_self _ _
   have c3:=Nat.div_add_mod V n1
   have c4:V % n1<n1:=Nat.mod_lt _ (by have:=N1.out;omega)
   have c5:((V / n1:Nat):Int)*(n1:Int)=((n1*(V / n1):Nat):Int):=by rw [Int.natCast_mul,Int.mul_comm]
   obtain ⟨q0,hq⟩:∃q,V / n1=q:=⟨_,rfl⟩
   rw [hq] at c1 c2 c3 c5
   obtain ⟨mm,hmm⟩:∃m,n1*q0=m:=⟨_,rfl⟩
   rw [hmm] at c3 c5
   obtain ⟨R0,hrr⟩:∃r,V % n1=r:=⟨_,rfl⟩
   rw [hrr] at c3 c4
   have c6:IntKind.u64.wrap (q0:Int)=(q0:Int):=by rw [IntKind.wrap_u64];omega
   have c7:IntKind.u64.wrap ((q0:Int)*(n1:Int))=(mm:Int):=by rw [c5,IntKind.wrap_u64];omega
   have c8:IntKind.u64.wrap ((V:Int) - (mm:Int))=(R0:Int):=by rw [IntKind.wrap_u64];omega
   have QB:=lh (show q0<18446744073709551616 by omega)
   have RB:=lh (show R0<4294967296 by have:=N1.out;omega)
   have n1z:(n1:Int)≠0:=by have:=N1.out;omega
   have n1z':((n1:Int) == 0)=false:=by rw [beq_eq_false_iff_ne];exact n1z
   clear hq hmm hrr c3 c4 c5 c2
   go_upto_block 2 with fail
   go_cut [18,16] from 102 to 120 (fun a b W=>∃q r:Nat,a=.int .u64 (q:Int)∧b=.int .u64 (r:Int)∧q<18446744073709551616∧w=W)
   case first=>
    go_wp2
    go_loopw [18,16] (fun a b W=>∃q r:Nat,a=.int .u64 (q:Int)∧b=.int .u64 (r:Int)∧q<18446744073709551616∧r<4294967296∧w=W) (fun _ b _=>4294967296 - (intOf b).toNat)
    case atStart=>exact ⟨_,_,rfl,rfl,QB.out,RB.out,rfl⟩
    case round=>
     clear QB RB c1 c6 c7 c8
     obtain ⟨q,r,rfl,rfl,hq,hr,rfl⟩:=hrel
     obtain ⟨m1,f1,-⟩:=wrap_n ((q:Int)*(n0:Int))
     obtain ⟨m2,f2,-⟩:=wrap_n ((4294967296:Int)*(r:Int))
     obtain ⟨m3,f3,-⟩:=wrap_n ((m2:Int)+(l0:Int))
     obtain ⟨q',f4,hq'⟩:=wrap_n ((q:Int) - 1)
     have f5:IntKind.u64.wrap ((r:Int)+(n1:Int))=((r+n1:Nat):Int):=by have:=N1.out;rw [IntKind.wrap_u64];omega
     obtain ⟨r',hr'⟩:∃r',r+n1=r':=⟨_,rfl⟩
     rw [hr'] at f5
     have HQ:=lh hq
     have HQ':=lh hq'
     have HR:=lh (show r<4294967296∧r<r' by have:=N1.out;omega)
     clear hq hr hr' hq'
     have body:(4294967296:Int)≤(q:Int)∨(¬(4294967296:Int)≤(q:Int)∧(m3:Int)<(m1:Int))∨(¬(4294967296:Int)≤(q:Int)∧¬(m3:Int)<(m1:Int)):=by omega
     rcases body with hA | ⟨hA,hB⟩ | ⟨hA,hB⟩
     rotate_left 2
     ·go_wp2
      go_meet
      exact ⟨_,_,rfl,rfl,HQ.out,rfl⟩
     all_goals
      by_cases hC:(4294967296:Int)≤(r':Int)
      ·go_wp2
       go_meet
       exact ⟨_,_,rfl,rfl,HQ'.out,rfl⟩
      ·go_wp2
       go_roundw
       case rel=>exact ⟨_,_,rfl,rfl,HQ'.out,by omega,trivial⟩
       case measure=>simp [intOf];have:=HR.out;omega
   case rest=>
    clear QB RB c1 c6 c7 c8
    obtain ⟨Q0,r8,rfl,rfl,hQ0,rfl⟩:=hcut
    clear hQ0 n1z n1z'
    obtain ⟨y1,g5,-⟩:=wrap_n ((Q1:Int)*4294967296)
    obtain ⟨y2,g6,hy2⟩:=wrap_n ((y1:Int)+(Q0:Int))
    obtain ⟨y3,g7,-⟩:=wrap_n ((V:Int)*4294967296)
    obtain ⟨y4,g8,-⟩:=wrap_n ((y3:Int)+(l0:Int))
    obtain ⟨y5,g9,-⟩:=wrap_n ((Q0:Int)*(Y:Int))
    obtain ⟨y6,g10,hy6⟩:=wrap_n ((y4:Int) - (y5:Int))
    have g11:(y6:Int) / 2 ^ s=((y6 / 2 ^ s:Nat):Int):=by rw [Int.natCast_ediv,Int.natCast_pow];rfl
    have d1:y6 / 2 ^ s≤y6:=Nat.div_le_self _ _
    have BB:=lh (show y2<18446744073709551616∧y6 / 2 ^ s<18446744073709551616 by omega)
    obtain ⟨R,hR⟩:∃R,y6 / 2 ^ s=R:=⟨_,rfl⟩
    rw [hR] at g11 BB
    clear hy2 hy6 d1 hR
    go_upto_region 28 with fail
    refine wp_region_lit ?_
    iterate 16 refine lsv (w':=w) ?_
    refine wpList_nil ?_
    go_wp2
    go_ret2
    exact ⟨_,rfl,⟨y2,R,rfl,BB.out⟩,Below.refl _ _⟩
end Go.Proofs.YtljajnaclpbecaaGreatDoor
namespace Go.Proofs.YtljajnaclpbecaaGreatDoor
set_option maxRecDepth 1000000
set_option maxHeartbeats 8000000
open Go.RowKit Go.Shelf
set_option linter.unusedVariables false
set_option linter.unusedSimpArgs false
attribute [local go_sem] Oper.semAt_some
def dokI (len:Nat) (zs:List Int):Bool:=decide (0<len) && (isOp (zs.getD 0 0) && decide (lenOf (zs.getD 0 0)≤(len:Int)))
def part (zs:List Int) (a:Nat):Nat→Int
 | 0=>0
 | j+1=>part zs a j*16+nib zs (a+j)
def rdF (zs:List Int) (f:FE):Int:=part zs f.2.2.toNat (f.2.1.toNat / 4)
def decS (zs:List Int) (l:List FE) (xs:List Int):List Int:=l.foldl (fun xs f=>xs.set f.1 (rdF zs f)) xs
def decI (zs:List Int):List Int:=decS zs (lay (fmOf (zs.getD 0 0))) [zs.getD 0 0,fmOf (zs.getD 0 0),0,0,0,0,0,0,0,0,0,0]
theorem decS_length (zs:List Int):∀ (l:List FE) (xs:List Int),xs.length=12→(decS zs l xs).length=12
 | [],xs,h=>h
 | f :: l,xs,h=>decS_length zs l _ (by rw [List.length_set];exact h)
theorem decS_app (zs:List Int) (l:List FE) (f:FE) (xs:List Int):decS zs (l++[f]) xs=(decS zs l xs).set f.1 (rdF zs f):=by unfold decS;rw [List.foldl_append];rfl
def insV (xs:List Int):Value:=.agg (xs.map (Value.int .i64)).toArray
def okL (Ln:Nat) (x:FE):Prop:=okF x∧2≤x.2.2∧x.2.2+x.2.1 / 4≤2*(Ln:Int)∧x.2.2≤9
theorem lay_fit:∀k,k<97→∀x∈lay (fmK k),2≤x.2.2∧x.2.2+x.2.1 / 4≤2*lenOf (opK k)∧x.2.2≤9:=by decide +kernel
theorem lay_okL {op:Int} (h:isOp op=true) {Ln:Nat} (hl:lenOf op≤(Ln:Int)):∀x∈lay (fmOf op),okL Ln x:=by
 intro x hx
 unfold isOp at h
 rw [decide_eq_true_iff] at h
 have h1:=lay_fit (ix op) h x (by unfold fmOf at hx;rwa [if_pos h] at hx)
 rw [ix_op h] at h1
 exact ⟨lay_ok _ x hx,h1.1,by omega,h1.2.2⟩
theorem nib_range {zs:List Int} (h:∀i,0≤zs.getD i 0∧zs.getD i 0≤255) (a:Nat):0≤nib zs a∧nib zs a≤15:=by
 have:=h (a / 2)
 unfold nib;split<;>omega
theorem part_range {zs:List Int} (h:∀i,0≤zs.getD i 0∧zs.getD i 0≤255) (a:Nat):0≤part zs a 1∧part zs a 1≤15∧0≤part zs a 2∧part zs a 2≤255∧0≤part zs a 3∧part zs a 3≤4095:=by
 have h0:=nib_range h (a+0)
 have h1:=nib_range h (a+1)
 have h2:=nib_range h (a+2)
 simp only [part]
 omega
theorem part_step {zs:List Int} (h:∀i,0≤zs.getD i 0∧zs.getD i 0≤255) (a j:Nat) (hj:j≤2):bits .or .i64 (wrap64 (part zs a j*16)) (nib zs (a+j))=part zs a (j+1):=by
 have hn:=nib_range h (a+j)
 have hp:=part_range h a
 have h0:part zs a 0=0:=rfl
 have hr:0≤part zs a j∧part zs a j≤255:=by
  rcases (show j=0∨j=1∨j=2 by omega) with rfl | rfl | rfl<;>omega
 have hw:wrap64 (part zs a j*16)=part zs a j*16:=by unfold wrap64;omega
 rw [hw,i64_join 4 16 _ _ (by rfl) (by omega) (by omega) (by omega) (by omega) (by omega) (by omega)]
 rfl
theorem decI_length (zs:List Int):(decI zs).length=12:=by
 unfold decI decS
 generalize lay _=l
 generalize hx:[zs.getD 0 0,fmOf (zs.getD 0 0),0,0,0,0,0,0,0,0,0,0]=xs
 have hl:xs.length=12:=by rw [← hx];rfl
 clear hx
 induction l generalizing xs with
 | nil=>exact hl
 | cons f l ih=>exact ih _ (by rw [List.length_set];exact hl)
theorem isOp_range {op:Int} (h:isOp op=true):4≤op∧op≤253:=by
 unfold isOp at h;rw [decide_eq_true_iff] at h
 have:=op_range _ h;rwa [ix_op h] at this
theorem res_cell_tmp {P:Program} {fn:Func} {p q:Tmp} {ty:TypeId} (h:fn.results=#[.cell p ty,.tmp q]) (tmps:Array Value) (w:World) (g:Nat) (cs:Array Value) (t:TypeId) (v:Value) {d:TypeDesc}
  (hp:tmps.getD p undef=.pointer (some ⟨g,0,none⟩)) (hq:tmps.getD q undef=v) (hg:w.heap[g]?=some (.cells cs t (0,0)))
  (hu:P.underlying ty=some d) (hd:(match d with | .struct _ | .array _ _=>true | _=>false)=true) (hi:(P.info? ty).map (·.size)=some cs.size) :
  (results fn tmps).run P w=.ok (.tuple #[.agg cs,v]) w:=by
 have hp':tmps[p]?.getD undef=.pointer (some ⟨g,0,none⟩):=by simpa using hp
 have hq':tmps[q]?.getD undef=v:=by simpa using hq
 simp [results,h,hp',hq',asAddr,run_loadVar_row w g t ty cs (0,0) d hg hu hd hi]
theorem blk_sets12 {W:World} {g:Nat} {T:TypeId} {ys:List Int} (h:Blk W g T ys) (hl:ys.length=12) (v0 v1 v2 v3 v4 v5 v6 v7 v8 v9 v10 v11:Int):Blk ((((((((((((W.setCell ⟨g,0,none⟩ (.int .i64 v0)).setCell ⟨g,1,none⟩ (.int .i64 v1)).setCell ⟨g,2,none⟩ (.int .i64 v2)).setCell ⟨g,3,none⟩ (.int .i64 v3)).setCell ⟨g,4,none⟩ (.int .i64 v4)).setCell ⟨g,5,none⟩ (.int .i64 v5)).setCell ⟨g,6,none⟩ (.int .i64 v6)).setCell ⟨g,7,none⟩ (.int .i64 v7)).setCell ⟨g,8,none⟩ (.int .i64 v8)).setCell ⟨g,9,none⟩ (.int .i64 v9)).setCell ⟨g,10,none⟩ (.int .i64 v10)).setCell ⟨g,11,none⟩ (.int .i64 v11)) g T [v0,v1,v2,v3,v4,v5,v6,v7,v8,v9,v10,v11]:=by
 obtain ⟨a,b,c,d,e,f,g',h',i,j,k,m,rfl⟩:=list_12 hl
 exact ((((((((((((h.set_ 0 v0).set_ 1 v1).set_ 2 v2).set_ 3 v3).set_ 4 v4).set_ 5 v5).set_ 6 v6).set_ 7 v7).set_ 8 v8).set_ 9 v9).set_ 10 v10).set_ 11 v11)
theorem keeps_sets12 (W:World) (g:Nat) (v0 v1 v2 v3 v4 v5 v6 v7 v8 v9 v10 v11:Int):KeepsOthers W ((((((((((((W.setCell ⟨g,0,none⟩ (.int .i64 v0)).setCell ⟨g,1,none⟩ (.int .i64 v1)).setCell ⟨g,2,none⟩ (.int .i64 v2)).setCell ⟨g,3,none⟩ (.int .i64 v3)).setCell ⟨g,4,none⟩ (.int .i64 v4)).setCell ⟨g,5,none⟩ (.int .i64 v5)).setCell ⟨g,6,none⟩ (.int .i64 v6)).setCell ⟨g,7,none⟩ (.int .i64 v7)).setCell ⟨g,8,none⟩ (.int .i64 v8)).setCell ⟨g,9,none⟩ (.int .i64 v9)).setCell ⟨g,10,none⟩ (.int .i64 v10)).setCell ⟨g,11,none⟩ (.int .i64 v11)):=((((((((((((KeepsOthers.refl W).trans (KeepsOthers.setCell _ _ _)).trans (KeepsOthers.setCell _ _ _)).trans (KeepsOthers.setCell _ _ _)).trans (KeepsOthers.setCell _ _ _)).trans (KeepsOthers.setCell _ _ _)).trans (KeepsOthers.setCell _ _ _)).trans (KeepsOthers.setCell _ _ _)).trans (KeepsOthers.setCell _ _ _)).trans (KeepsOthers.setCell _ _ _)).trans (KeepsOthers.setCell _ _ _)).trans (KeepsOthers.setCell _ _ _)).trans (KeepsOthers.setCell _ _ _)
theorem below_sets12 {W w:World} {B g:Nat} (hB:Below B w W) (hg:B≤g) (v0 v1 v2 v3 v4 v5 v6 v7 v8 v9 v10 v11:Int):Below B w ((((((((((((W.setCell ⟨g,0,none⟩ (.int .i64 v0)).setCell ⟨g,1,none⟩ (.int .i64 v1)).setCell ⟨g,2,none⟩ (.int .i64 v2)).setCell ⟨g,3,none⟩ (.int .i64 v3)).setCell ⟨g,4,none⟩ (.int .i64 v4)).setCell ⟨g,5,none⟩ (.int .i64 v5)).setCell ⟨g,6,none⟩ (.int .i64 v6)).setCell ⟨g,7,none⟩ (.int .i64 v7)).setCell ⟨g,8,none⟩ (.int .i64 v8)).setCell ⟨g,9,none⟩ (.int .i64 v9)).setCell ⟨g,10,none⟩ (.int .i64 v10)).setCell ⟨g,11,none⟩ (.int .i64 v11)):=(Below.setCell (p:=⟨g,11,none⟩) (Below.setCell (p:=⟨g,10,none⟩) (Below.setCell (p:=⟨g,9,none⟩) (Below.setCell (p:=⟨g,8,none⟩) (Below.setCell (p:=⟨g,7,none⟩) (Below.setCell (p:=⟨g,6,none⟩) (Below.setCell (p:=⟨g,5,none⟩) (Below.setCell (p:=⟨g,4,none⟩) (Below.setCell (p:=⟨g,3,none⟩) (Below.setCell (p:=⟨g,2,none⟩) (Below.setCell (p:=⟨g,1,none⟩) (Below.setCell (p:=⟨g,0,none⟩) hB hg _) hg _) hg _) hg _) hg _) hg _) hg _) hg _) hg _) hg _) hg _) hg _)
theorem idecode_c (A:Option Addr) (len cap:Nat) (zs:List Int) (w:World) (hy:Byt w A len zs) (hl:(len:Int)≤9223372036854775807):Calls Tryz.prog 48 #[.slice A len cap] w fun e w'=>e=.returned (.tuple #[insV (if dokI len zs=true then decI zs else [0,0,0,0,0,0,0,0,0,0,0,0]),.bool (dokI len zs)])∧Below w.heap.size w w':=by
 have HY:=lh hy
 have hl0:=lh hl
 clear hy
 refine (callsIn_wide (n:=5)).1 ?_
 refine callsIn_of_wp_marks Tryz.func48 rfl trivial ?_ rfl
 simp only [Tryz.ntmps48,List.size_toArray,List.length_cons,List.length_nil,Nat.reduceAdd,Nat.reduceSub,Array.replicate_succ,Array.replicate_zero,List.push_toArray,List.append_toArray,List.nil_append,List.cons_append]
 by_cases h0:len=0
 ·have hr:=lh (show dokI len zs=false from by unfold dokI;simp [h0])
  subst h0
  rw [hr.out]
  gi_wp2
  exact ⟨.tuple #[insV [0,0,0,0,0,0,0,0,0,0,0,0],.bool false],res_cell_tmp Tryz.results48 _ _ (w.heap.size+1) _ 54 _ rfl rfl (heap_alloc2_new _ _ _) Tryz.underlying54 rfl (by kernel_rfl),rfl,((Below.refl _ _).alloc (Nat.le_refl _) _).alloc (by simp) _⟩
 have e0:((len:Int) == 0)=false:=by rw [beq_eq_false_iff_ne];omega
 obtain ⟨bb,off,rfl,hc⟩:=HY.out.at_ (by omega)
 have d0:=hc 0 (by omega)
 rw [Nat.add_zero] at d0
 have zr:=HY.out.range 0
 have l0:0<len:=by omega
 have l1:(0:Int)<(len:Int):=by omega
 have BA:=lh (show Below w.heap.size w ((w.alloc (.cells #[.slice (some ⟨bb,off,none⟩) len cap] 22)).alloc (.cells #[.int .i64 0,.int .i64 0,.int .i64 0,.int .i64 0,.int .i64 0,.int .i64 0,.int .i64 0,.int .i64 0,.int .i64 0,.int .i64 0,.int .i64 0,.int .i64 0] 54)) from ((Below.refl _ _).alloc (Nat.le_refl _) _).alloc (by simp) _)
 obtain ⟨op,hop⟩:∃x,zs.getD 0 0=x:=⟨_,rfl⟩
 rw [hop] at d0 zr
 replace d0:=bcell_keep d0 BA.out
 obtain ⟨io,hio⟩:∃x,isOp op=x:=⟨_,rfl⟩
 obtain ⟨fo,hfo⟩:∃x,fmOf op=x:=⟨_,rfl⟩
 have FC:=lh (form_c op)
 rw [hio,hfo] at FC
 clear hc
 cases io
 ·have hr:=lh (show dokI len zs=false from by unfold dokI;rw [hop,hio];simp)
  rw [hr.out]
  clear hio hfo hop h0
  gi_wp2_with (refine ⟨trivial,?_⟩;first | (gi_at_call 54;refine (callsIn_wide.2 (FC.out _)).mono ?_;rintro e w1 ⟨rfl,n1,rfl⟩))
  refine wpIn_region_quiet_lit rfl (by kernel_rfl) (by kernel_rfl) ?_
  repeat (first | gi_big_quiet_step (fail) | (refine BigFrame.wpQuietIn_skip (fun _ _ _ _=>trivial) (by rfl) ?_;simp only [Act.put,List.setIfInBounds_toArray,List.set_cons_zero,List.set_cons_succ]))
  refine wpQuietIn_nil ?_
  rintro _ ⟨nq,rfl⟩
  gi_wp2
  exact ⟨.tuple #[insV [0,0,0,0,0,0,0,0,0,0,0,0],.bool false],res_cell_tmp Tryz.results48 _ _ (w.heap.size+1) _ 54 _ rfl rfl (blk_sets12 (g:=w.heap.size+1) (T:=54) (ys:=[0,0,0,0,0,0,0,0,0,0,0,0]) (Blk.drewN (heap_alloc2_new w _ _) _) rfl 0 0 0 0 0 0 0 0 0 0 0 0) Tryz.underlying54 rfl (by kernel_rfl),rfl,below_sets12 (dBelow' BA.out _) (by omega) 0 0 0 0 0 0 0 0 0 0 0 0⟩
 have LC:=lh (fun W=>length_c op (by omega) (by omega) W)
 obtain ⟨Ln,hLn⟩:∃x,lenOf op=x:=⟨_,rfl⟩
 rw [hLn] at LC
 by_cases hle:(len:Int)<Ln
 ·have hr:=lh (show dokI len zs=false from by unfold dokI;rw [hop,hio,hLn];simp;omega)
  rw [hr.out]
  clear hio hfo hop h0
  gi_wp2_with (refine ⟨trivial,?_⟩;first | (gi_at_call 54;refine (callsIn_wide.2 (FC.out _)).mono ?_;rintro e w1 ⟨rfl,n1,rfl⟩))
  have g1:decide ((len:Int)<Ln)=true:=by rw [decide_eq_true_iff];exact hle
  clear hle
  refine wpIn_region_quiet_lit rfl (by kernel_rfl) (by kernel_rfl) ?_
  repeat (first | gi_big_quiet_step (fail) | (refine BigFrame.wpQuietIn_want (fun _ _ _ _=>trivial) (by rfl) (fun K hK=>?_);gi_big_quiet_op;refine ⟨.int .i64 Ln,fun _=>?_,?_⟩;(gi_at_call 42;exact callsIn_wide.2 (quiet_add_left (LC.out _)));refine hK _ ?_;(try simp only [Act.put,List.setIfInBounds_toArray,List.set_cons_zero,List.set_cons_succ])) | (refine BigFrame.wpQuietIn_skip (fun _ _ _ _=>trivial) (by rfl) ?_;simp only [Act.put,List.setIfInBounds_toArray,List.set_cons_zero,List.set_cons_succ]))
  refine wpQuietIn_nil ?_
  rintro _ ⟨nq,rfl⟩
  gi_wp2
  exact ⟨.tuple #[insV [0,0,0,0,0,0,0,0,0,0,0,0],.bool false],res_cell_tmp Tryz.results48 _ _ (w.heap.size+1) _ 54 _ rfl rfl (blk_sets12 (g:=w.heap.size+1) (T:=54) (ys:=[0,0,0,0,0,0,0,0,0,0,0,0]) (Blk.drewN (heap_alloc2_new w _ _) _) rfl 0 0 0 0 0 0 0 0 0 0 0 0) Tryz.underlying54 rfl (by kernel_rfl),rfl,below_sets12 (dBelow' BA.out _) (by omega) 0 0 0 0 0 0 0 0 0 0 0 0⟩
 ·have hr:=lh (show dokI len zs=true from by unfold dokI;rw [hop,hio,hLn];simp;omega)
  rw [hr.out,if_pos rfl]
  have LOK:=lh (lay_okL (Ln:=len) hio (by rw [hLn];omega))
  have hD:=lh (show decI zs=decS zs (lay fo) [op,fo,0,0,0,0,0,0,0,0,0,0] from by unfold decI;rw [hop,hfo])
  rw [hfo] at LOK
  rw [hD.out]
  clear hio hfo hop h0
  gi_wp2_with (refine ⟨trivial,?_⟩;first | (gi_at_call 54;refine (callsIn_wide.2 (FC.out _)).mono ?_;rintro e w1 ⟨rfl,n1,rfl⟩))
  have g1:decide ((len:Int)<Ln)=false:=by rw [decide_eq_false_iff_not];omega
  clear hle
  refine wpIn_region_quiet_lit rfl (by kernel_rfl) (by kernel_rfl) ?_
  repeat (first | gi_big_quiet_step (fail) | (refine BigFrame.wpQuietIn_want (fun _ _ _ _=>trivial) (by rfl) (fun K hK=>?_);gi_big_quiet_op;refine ⟨.int .i64 Ln,fun _=>?_,?_⟩;(gi_at_call 42;exact callsIn_wide.2 (quiet_add_left (LC.out _)));refine hK _ ?_;(try simp only [Act.put,List.setIfInBounds_toArray,List.set_cons_zero,List.set_cons_succ])) | (refine BigFrame.wpQuietIn_skip (fun _ _ _ _=>trivial) (by rfl) ?_;simp only [Act.put,List.setIfInBounds_toArray,List.set_cons_zero,List.set_cons_succ]))
  refine wpQuietIn_nil ?_
  rintro _ ⟨nq,rfl⟩
  gi_wp2_with (refine ⟨trivial,?_⟩;first | (gi_at_call 43;refine (callsIn_wide.2 (fields_c _ _)).mono ?_;rintro e w1 ⟨rfl,rfl⟩))
  obtain ⟨W0,hW0⟩:∃W0,(((((w.alloc (.cells #[.slice (some ⟨bb,off,none⟩) len cap] 22)).alloc (.cells #[.int .i64 0,.int .i64 0,.int .i64 0,.int .i64 0,.int .i64 0,.int .i64 0,.int .i64 0,.int .i64 0,.int .i64 0,.int .i64 0,.int .i64 0,.int .i64 0] 54)).drewN (n1+nq)).alloc (.cells #[.int .i64 op,.int .i64 fo,.int .i64 0,.int .i64 0,.int .i64 0,.int .i64 0,.int .i64 0,.int .i64 0,.int .i64 0,.int .i64 0,.int .i64 0,.int .i64 0] 54)).alloc (.cells #[.pointer (some ⟨w.heap.size+1+1,0,none⟩)] 103))=W0:=⟨_,rfl⟩
  rw [hW0]
  have hz:W0.heap.size=w.heap.size+4:=by rw [← hW0];simp
  have hB0:Below w.heap.size w W0:=by rw [← hW0];exact ((dBelow' (((Below.refl w.heap.size w).alloc (Nat.le_refl _) _).alloc (by simp) _) _).alloc (by simp;omega) _).alloc (by simp;omega) _
  have q0:W0.heap[w.heap.size]?=some (.cells #[.slice (some ⟨bb,off,none⟩) len cap] 22 (0,0)):=by rw [← hW0];exact alloc4_heap _ _ _ _ _ _
  have q1:Blk W0 (w.heap.size+1) 54 [0,0,0,0,0,0,0,0,0,0,0,0]:=by rw [← hW0];exact alloc4_heap1 _ _ _ _ _ _
  have q2:Blk W0 (w.heap.size+1+1) 54 [op,fo,0,0,0,0,0,0,0,0,0,0]:=by rw [← hW0];exact alloc4_heap2 _ _ _ _ _ _
  have q3:W0.heap[w.heap.size+1+1+1]?=some (.cells #[.pointer (some ⟨w.heap.size+1+1,0,none⟩)] 103 (0,0)):=by rw [← hW0];exact alloc4_heap3 _ _ _ _ _ _
  clear hW0 hK g1 d0
  refine wpIn_rangeFunc_ownH rfl (by omega) (gf:=55) (lb:=#[.pointer (some ⟨w.heap.size+1+1+1,0,none⟩)]) rfl trivial (enters_of Tryz.func55 (by kernel_rfl) rfl)
   (fields1_stops (okL len) (5 - 1) (by omega) (w.heap.size+1+1) (w.heap.size+1+1+1) W0.heap.size fo W0 (by rw [q2.cell (by simp)];rfl) (by rw [cell_blk q3];rfl) (Nat.le_refl _) LOK.out) kpC_t kpC_b (Below.refl _ _) (fun _=>rfl)
   (fun pre W=>(W0.heap.size≤W.heap.size∧Blk W (w.heap.size+1+1) 54 (decS zs (pre.map (·.1)) [op,fo,0,0,0,0,0,0,0,0,0,0])∧Blk W (w.heap.size+1) 54 [0,0,0,0,0,0,0,0,0,0,0,0]∧W.heap[w.heap.size]?=some (.cells #[.slice (some ⟨bb,off,none⟩) len cap] 22 (0,0)))∧Below w.heap.size w W)
   (fun c pre W=>False∧Below w.heap.size w W)
   (OwnFrom.and (Own.from (fun s A B row hs hg hr=>⟨Nat.le_trans hs.1 hg.size,hs.2.1.kept hg hr,hs.2.2.1.kept hg hr,blk_kept hs.2.2.2 hg hr⟩) _) (ownFrom_below (Nat.le_refl _) (by omega)))
   (fun c=>OwnFrom.and (Own.from (fun s A B row hs hg hr=>hs) _) (ownFrom_below (Nat.le_refl _) (by omega)))
   ⟨⟨Nat.le_refl _,q2,q1,q0⟩,hB0⟩
   (fun x a' W=>∃fb,W0.heap.size≤fb∧FBox W fb (w.heap.size+1+1) x.1∧a'={ tmps:=#[.slice (some ⟨bb,off,none⟩) len cap,.pointer (some ⟨w.heap.size,0,none⟩),.pointer (some ⟨w.heap.size+1,0,none⟩),.bool false,.int .i64 fo,.bool true,.pointer (some ⟨w.heap.size+1+1,0,none⟩),.pointer (some ⟨fb,0,none⟩),undef,undef,.slice (some ⟨bb,off,none⟩) len cap,.int .i64 len,.bool false,undef,.tuple #[.int .i64 fo,.bool true],.slice (some ⟨bb,off,none⟩) len cap,.pointer (some ⟨bb,off,none⟩),.int .u8 op,.int .i64 op,.tuple #[.int .i64 fo,.bool true],.int .i64 fo,.bool true,.bool true,.bool false,.bool false,.slice (some ⟨bb,off,none⟩) len cap,.int .i64 len,.slice (some ⟨bb,off,none⟩) len cap,.pointer (some ⟨bb,off,none⟩),.int .u8 op,.int .i64 op,.int .i64 Ln,.bool false,.bool false,undef,.slice (some ⟨bb,off,none⟩) len cap,.pointer (some ⟨bb,off,none⟩),.int .u8 op,.int .i64 op,.int .i64 fo,.agg #[.int .i64 op,.int .i64 fo,.int .i64 0,.int .i64 0,.int .i64 0,.int .i64 0,.int .i64 0,.int .i64 0,.int .i64 0,.int .i64 0,.int .i64 0,.int .i64 0],.func (.func 55) #[] #[.pointer (some ⟨w.heap.size+1+1+1,0,none⟩)],.agg #[.pointer (some ⟨w.heap.size+1+1,x.1.1,none⟩),.int .i64 x.1.2.1,.int .i64 x.1.2.2],undef,undef,undef,undef,undef,undef,undef,undef,undef,undef,undef,undef,undef,undef,undef,undef,undef,undef,undef,undef,undef],defers:=[] })
   (fun x a'=>Own.from (fun s A B row hs hg hr=>by obtain ⟨fb,h1,h2,h3⟩:=hs;exact ⟨fb,h1,blk_kept h2 hg hr,h3⟩) _) ?assign ?body ?done ?stop
  case assign=>
   intro l pre x W K hI hK
   gi_wp2
   obtain ⟨⟨h0,h3,h4,h5⟩,hB⟩:=hI
   exact hK _ _ ((KeepsOthers.alloc _ _).from _) (kpC_of_below (al_keep W _)) ⟨⟨by simp;omega,h3.alloc _,h4.alloc _,(Below.heap_alloc W _ _ (Array.getElem?_eq_some_iff.1 h5).1).trans h5⟩,hB.alloc (by omega) _⟩ ⟨W.heap.size,h0,heap_alloc_new W _,rfl⟩
  case body=>
   rintro l pre ⟨⟨c,n,at_⟩,⟨ok1,ok2,ok3⟩,ok4,ok5,ok6⟩ a' W hl hrr ⟨⟨h0,h3,h4,h5⟩,hB⟩ ⟨fb,hfb,hF,rfl⟩ hlen
   dsimp only at ok1 ok2 ok3 ok4 ok5 ok6
   obtain ⟨a,rfl⟩:=Int.eq_ofNat_of_zero_le (show 0≤at_ by omega)
   have k0:W.cell? ⟨fb,0,none⟩=some (.pointer (some ⟨w.heap.size+1+1,c,none⟩)):=by rw [cell_blk hF];rfl
   have k1:W.cell? ⟨fb,1,none⟩=some (.int .i64 n):=by rw [cell_blk hF];rfl
   have k2:W.cell? ⟨fb,2,none⟩=some (.int .i64 (a:Int)):=by rw [cell_blk hF];rfl
   have k3:=h3.cell (c:=c) (by rw [decS_length _ _ _ (by rfl)];omega)
   have k4:=h3.free c
   have k5:W.cell? ⟨w.heap.size,0,none⟩=some (.slice (some ⟨bb,off,none⟩) len cap):=by rw [cell_blk h5];rfl
   have HS:=lh (And.intro h0 (And.intro h3 (And.intro h4 (And.intro h5 hB))))
   have YB:=lh (HY.out.keep hB)
   obtain ⟨v,hv⟩:∃v,(decS zs (pre.map (·.1)) [op,fo,0,0,0,0,0,0,0,0,0,0]).getD c 0=v:=⟨_,rfl⟩
   rw [hv] at k3
   have ST:=lh (decS_app zs (pre.map (·.1)) (c,n,(a:Int)) [op,fo,0,0,0,0,0,0,0,0,0,0])
   clear h0 h3 h4 h5 hB hF hv hr
   rcases ok3 with rfl | rfl | rfl
   ·have ok7:a+1≤2*len:=by omega
    gi_wp2
    gi_loopw [8,46] (fun nv kv wr=>∃j:Nat,j≤1∧kv=.int .i64 j∧nv=.int .i64 (part zs a j)∧wr=W) (fun _ kv _=>1 - (intOf kv).toNat)
    case atStart=>exact ⟨0,by omega,rfl,rfl,rfl⟩
    case round=>
     obtain ⟨j,hj,rfl,rfl,hw⟩:=hrel
     subst hw
     rcases (show j=0∨j=1 by omega) with rfl | rfl
     ·have NB:=lh (fun W (hy:Byt W (some ⟨bb,off,none⟩) len zs)=>nibble_c (some ⟨bb,off,none⟩) len cap zs (a+0) W hy (by omega) hl0.out (by omega))
      gi_wp2_with (refine ⟨trivial,?_⟩;gi_at_call 58;refine (CallsIn.inRound l (callsIn_wide.2 (NB.out _ YB.out))).mono ?_;rintro e w1 ⟨rfl,rfl⟩)
      exact ⟨⟨1,by omega,rfl,by rw [← part_step (fun i=>HY.out.range i) a 0 (by omega)];try rfl,trivial⟩,by decide⟩
     ·gi_wp2
      obtain ⟨h0,h3,h4,h5,hB⟩:=HS.out
      exact ⟨(KeepsOthers.setCell _ _ _).from _,kpC_set _ _ _ (by show w.heap.size+1+1<_;omega),⟨by simp;exact h0,by rw [List.map_append];refine Eq.subst (motive:=fun l=>Blk _ _ _ l) (ST.out.trans (congrArg _ (show rdF zs (c,4,(a:Int))=part zs a 1 from by simp [rdF]))).symm ?_;exact h3.set_ c (part zs a 1),h4.other _ (by simp),(Below.heap_setCell _ _ _ _ (by simp;omega)).trans h5⟩,hB.setCell (p:=⟨w.heap.size+1+1,c,none⟩) (by simp;omega) _⟩
   ·have ok7:a+2≤2*len:=by omega
    gi_wp2
    gi_loopw [8,46] (fun nv kv wr=>∃j:Nat,j≤2∧kv=.int .i64 j∧nv=.int .i64 (part zs a j)∧wr=W) (fun _ kv _=>2 - (intOf kv).toNat)
    case atStart=>exact ⟨0,by omega,rfl,rfl,rfl⟩
    case round=>
     obtain ⟨j,hj,rfl,rfl,hw⟩:=hrel
     subst hw
     rcases (show j=0∨j=1∨j=2 by omega) with rfl | rfl | rfl
     ·have NB:=lh (fun W (hy:Byt W (some ⟨bb,off,none⟩) len zs)=>nibble_c (some ⟨bb,off,none⟩) len cap zs (a+0) W hy (by omega) hl0.out (by omega))
      gi_wp2_with (refine ⟨trivial,?_⟩;gi_at_call 58;refine (CallsIn.inRound l (callsIn_wide.2 (NB.out _ YB.out))).mono ?_;rintro e w1 ⟨rfl,rfl⟩)
      exact ⟨⟨1,by omega,rfl,by rw [← part_step (fun i=>HY.out.range i) a 0 (by omega)];try rfl,trivial⟩,by decide⟩
     ·have NB:=lh (fun W (hy:Byt W (some ⟨bb,off,none⟩) len zs)=>nibble_c (some ⟨bb,off,none⟩) len cap zs (a+1) W hy (by omega) hl0.out (by omega))
      gi_wp2_with (refine ⟨trivial,?_⟩;gi_at_call 58;refine (CallsIn.inRound l (callsIn_wide.2 (NB.out _ YB.out))).mono ?_;rintro e w1 ⟨rfl,rfl⟩)
      exact ⟨⟨2,by omega,rfl,by rw [← part_step (fun i=>HY.out.range i) a 1 (by omega)];try rfl,trivial⟩,by decide⟩
     ·gi_wp2
      obtain ⟨h0,h3,h4,h5,hB⟩:=HS.out
      exact ⟨(KeepsOthers.setCell _ _ _).from _,kpC_set _ _ _ (by show w.heap.size+1+1<_;omega),⟨by simp;exact h0,by rw [List.map_append];refine Eq.subst (motive:=fun l=>Blk _ _ _ l) (ST.out.trans (congrArg _ (show rdF zs (c,8,(a:Int))=part zs a 2 from by simp [rdF]))).symm ?_;exact h3.set_ c (part zs a 2),h4.other _ (by simp),(Below.heap_setCell _ _ _ _ (by simp;omega)).trans h5⟩,hB.setCell (p:=⟨w.heap.size+1+1,c,none⟩) (by simp;omega) _⟩
   ·have ok7:a+3≤2*len:=by omega
    gi_wp2
    gi_loopw [8,46] (fun nv kv wr=>∃j:Nat,j≤3∧kv=.int .i64 j∧nv=.int .i64 (part zs a j)∧wr=W) (fun _ kv _=>3 - (intOf kv).toNat)
    case atStart=>exact ⟨0,by omega,rfl,rfl,rfl⟩
    case round=>
     obtain ⟨j,hj,rfl,rfl,hw⟩:=hrel
     subst hw
     rcases (show j=0∨j=1∨j=2∨j=3 by omega) with rfl | rfl | rfl | rfl
     ·have NB:=lh (fun W (hy:Byt W (some ⟨bb,off,none⟩) len zs)=>nibble_c (some ⟨bb,off,none⟩) len cap zs (a+0) W hy (by omega) hl0.out (by omega))
      gi_wp2_with (refine ⟨trivial,?_⟩;gi_at_call 58;refine (CallsIn.inRound l (callsIn_wide.2 (NB.out _ YB.out))).mono ?_;rintro e w1 ⟨rfl,rfl⟩)
      exact ⟨⟨1,by omega,rfl,by rw [← part_step (fun i=>HY.out.range i) a 0 (by omega)];try rfl,trivial⟩,by decide⟩
     ·have NB:=lh (fun W (hy:Byt W (some ⟨bb,off,none⟩) len zs)=>nibble_c (some ⟨bb,off,none⟩) len cap zs (a+1) W hy (by omega) hl0.out (by omega))
      gi_wp2_with (refine ⟨trivial,?_⟩;gi_at_call 58;refine (CallsIn.inRound l (callsIn_wide.2 (NB.out _ YB.out))).mono ?_;rintro e w1 ⟨rfl,rfl⟩)
      exact ⟨⟨2,by omega,rfl,by rw [← part_step (fun i=>HY.out.range i) a 1 (by omega)];try rfl,trivial⟩,by decide⟩
     ·have NB:=lh (fun W (hy:Byt W (some ⟨bb,off,none⟩) len zs)=>nibble_c (some ⟨bb,off,none⟩) len cap zs (a+2) W hy (by omega) hl0.out (by omega))
      gi_wp2_with (refine ⟨trivial,?_⟩;gi_at_call 58;refine (CallsIn.inRound l (callsIn_wide.2 (NB.out _ YB.out))).mono ?_;rintro e w1 ⟨rfl,rfl⟩)
      exact ⟨⟨3,by omega,rfl,by rw [← part_step (fun i=>HY.out.range i) a 2 (by omega)];try rfl,trivial⟩,by decide⟩
     ·gi_wp2
      obtain ⟨h0,h3,h4,h5,hB⟩:=HS.out
      exact ⟨(KeepsOthers.setCell _ _ _).from _,kpC_set _ _ _ (by show w.heap.size+1+1<_;omega),⟨by simp;exact h0,by rw [List.map_append];refine Eq.subst (motive:=fun l=>Blk _ _ _ l) (ST.out.trans (congrArg _ (show rdF zs (c,12,(a:Int))=part zs a 3 from by simp [rdF]))).symm ?_;exact h3.set_ c (part zs a 3),h4.other _ (by simp),(Below.heap_setCell _ _ _ _ (by simp;omega)).trans h5⟩,hB.setCell (p:=⟨w.heap.size+1+1,c,none⟩) (by simp;omega) _⟩
  case done=>
   rintro D pre W hD hys ⟨⟨h0,h3,h4,h5⟩,hB⟩ hK
   rw [hys] at h3
   obtain ⟨z0,z1,z2,z3,z4,z5,z6,z7,z8,z9,z10,z11,hzz⟩:=list_12 (decS_length zs (lay fo) [op,fo,0,0,0,0,0,0,0,0,0,0] rfl)
   rw [hzz] at h3
   have c0:W.cell? ⟨w.heap.size+1+1,0,none⟩=some (.int .i64 z0):=h3.cell (c:=0) (by simp)
   have c1:W.cell? ⟨w.heap.size+1+1,1,none⟩=some (.int .i64 z1):=h3.cell (c:=1) (by simp)
   have c2:W.cell? ⟨w.heap.size+1+1,2,none⟩=some (.int .i64 z2):=h3.cell (c:=2) (by simp)
   have c3:W.cell? ⟨w.heap.size+1+1,3,none⟩=some (.int .i64 z3):=h3.cell (c:=3) (by simp)
   have c4:W.cell? ⟨w.heap.size+1+1,4,none⟩=some (.int .i64 z4):=h3.cell (c:=4) (by simp)
   have c5:W.cell? ⟨w.heap.size+1+1,5,none⟩=some (.int .i64 z5):=h3.cell (c:=5) (by simp)
   have c6:W.cell? ⟨w.heap.size+1+1,6,none⟩=some (.int .i64 z6):=h3.cell (c:=6) (by simp)
   have c7:W.cell? ⟨w.heap.size+1+1,7,none⟩=some (.int .i64 z7):=h3.cell (c:=7) (by simp)
   have c8:W.cell? ⟨w.heap.size+1+1,8,none⟩=some (.int .i64 z8):=h3.cell (c:=8) (by simp)
   have c9:W.cell? ⟨w.heap.size+1+1,9,none⟩=some (.int .i64 z9):=h3.cell (c:=9) (by simp)
   have c10:W.cell? ⟨w.heap.size+1+1,10,none⟩=some (.int .i64 z10):=h3.cell (c:=10) (by simp)
   have c11:W.cell? ⟨w.heap.size+1+1,11,none⟩=some (.int .i64 z11):=h3.cell (c:=11) (by simp)
   have e0:W.cell? ⟨w.heap.size+1,0,none⟩=some (.int .i64 0):=h4.cell (c:=0) (by simp)
   have g0:=h4.free 0
   have e1:W.cell? ⟨w.heap.size+1,1,none⟩=some (.int .i64 0):=h4.cell (c:=1) (by simp)
   have g1:=h4.free 1
   have e2:W.cell? ⟨w.heap.size+1,2,none⟩=some (.int .i64 0):=h4.cell (c:=2) (by simp)
   have g2:=h4.free 2
   have e3:W.cell? ⟨w.heap.size+1,3,none⟩=some (.int .i64 0):=h4.cell (c:=3) (by simp)
   have g3:=h4.free 3
   have e4:W.cell? ⟨w.heap.size+1,4,none⟩=some (.int .i64 0):=h4.cell (c:=4) (by simp)
   have g4:=h4.free 4
   have e5:W.cell? ⟨w.heap.size+1,5,none⟩=some (.int .i64 0):=h4.cell (c:=5) (by simp)
   have g5:=h4.free 5
   have e6:W.cell? ⟨w.heap.size+1,6,none⟩=some (.int .i64 0):=h4.cell (c:=6) (by simp)
   have g6:=h4.free 6
   have e7:W.cell? ⟨w.heap.size+1,7,none⟩=some (.int .i64 0):=h4.cell (c:=7) (by simp)
   have g7:=h4.free 7
   have e8:W.cell? ⟨w.heap.size+1,8,none⟩=some (.int .i64 0):=h4.cell (c:=8) (by simp)
   have g8:=h4.free 8
   have e9:W.cell? ⟨w.heap.size+1,9,none⟩=some (.int .i64 0):=h4.cell (c:=9) (by simp)
   have g9:=h4.free 9
   have e10:W.cell? ⟨w.heap.size+1,10,none⟩=some (.int .i64 0):=h4.cell (c:=10) (by simp)
   have g10:=h4.free 10
   have e11:W.cell? ⟨w.heap.size+1,11,none⟩=some (.int .i64 0):=h4.cell (c:=11) (by simp)
   have g11:=h4.free 11
   have HS:=lh (And.intro h4 (And.intro hB hK))
   clear h3 h4 h5 hB q0 q1 q2 q3
   gi_wp2
   obtain ⟨h4,hB,hK⟩:=HS.out
   have hk':=(blk_sets12 h4 rfl z0 z1 z2 z3 z4 z5 z6 z7 z8 z9 z10 z11)
   have hK':=(keeps_sets12 W (w.heap.size+1) z0 z1 z2 z3 z4 z5 z6 z7 z8 z9 z10 z11).same D _ hK rfl
   refine ⟨by simp,.inl ⟨_,_,rfl,run_takeDeferred hK',?_⟩⟩
   exact ⟨.tuple #[insV [z0,z1,z2,z3,z4,z5,z6,z7,z8,z9,z10,z11],.bool true],res_cell_tmp Tryz.results48 _ _ (w.heap.size+1) _ 54 _ rfl rfl (hk'.kept (grownBy_putObj' _ D (.deferred none)) (fun r e=>by cases e;exact ⟨_,hK',rfl⟩)) Tryz.underlying54 rfl (by kernel_rfl),by rw [hzz],(below_sets12 hB (by omega) z0 z1 z2 z3 z4 z5 z6 z7 z8 z9 z10 z11).trans (belowK_b (w:=w) (Nat.le_refl _) _ D _ _ (by omega) hK' rfl rfl)⟩
  case stop=>
   rintro D c pre W hD _ ⟨hf,_⟩ _
   exact hf.elim
end Go.Proofs.YtljajnaclpbecaaGreatDoor
namespace Go.Proofs.YtljajnaclpbecaaGreatDoor
open Go.RowKit
set_option maxRecDepth 1000000
set_option maxHeartbeats 8000000
set_option linter.unusedVariables false
set_option linter.unusedSimpArgs false
section
variable {P:Program} {L:List Oper} {Q:Exit→Act→World→Prop} {md:Region.Mode} {S:World→Prop} {i:Nat} {v:Value} {oi:Oper} {fuel:Nat} {listed:Array Bool} {a:Act} {w:World} {X:Prop}
theorem tkx (h:X) (hn:nxt md L listed=some i:=by with_unfolding_all rfl) (hi:L[i]?=some oi:=by rfl)
  (hw:Region.wanted oi (yielded L.toArray a.tmps)=true:=by rfl) (y:∀w,S w→(execOp a.eval oi).run P w=.ok (.value v) w:=by (intro w hSw;obtain ⟨hx,hy⟩:=hSw;refine CP.opn hx ?_;intros;go_simp;(try with_reducible rfl)))
  (hP:wpAnyH P md L.toArray Q S fuel (listed.setIfInBounds i true) (a.put oi.dst v) w=X:=by (simp only [Act.put,List.setIfInBounds_toArray,List.set_cons_zero,List.set_cons_succ];try rfl))
  (hs:Region.noSelect L.toArray=true:=by kernel_rfl)
  (hQ:∀c a w,Q (.panic c) (a.put oi.dst v) w→Q (.panic c) a w:=by exact fun _ _ _ h=>h) (hS:S w:=by assumption):wpAnyH P md L.toArray Q S (fuel+1) listed a w:=takeL hi hs (nxt_spec hn).1 (nxt_spec hn).2 hQ (.inl ⟨hw,y⟩) hS (hP▸h)
end
section
variable {w0 w w':World} {g:Nat} {F:Foot} {rs os:List Int} {p q:Ps} {n:Int} {bs ks:List Int}
theorem cfet_c (h:CP w0 w g F rs p n bs ks) (a:Nat) (m:Nat) (ha:a % 2=0) (ha1:a≤16777215) (h2:sCode (alF p.key) bs.length ks (a:Int) 2=0) (hm:lenOf ((sGet bs (a:Int) 2).getD 0 0)=(m:Int)) (hm2:m=2∨(m≠2∧0<m∧m≤6)) (hc:sCode (alF p.key) bs.length ks (a:Int) (m:Int)=0):Calls Tryz.prog 38 #[.pointer (some ⟨g,0,none⟩),.int .i64 (a:Int)] w fun e w'=>∃v,e=.returned v∧∃b cap,v=.tuple #[.slice (some ⟨b,0,none⟩) m cap,.int .i64 0]∧Byt w' (some ⟨b,0,none⟩) m (sGet bs (a:Int) (m:Int))∧b<w'.heap.size∧w.heap.size≤b∧CP w0 w' g F rs p n bs ks:=by
 have FC:=lh (fun W (k:Nat) (h0:0<k) (hk:sCode (alF p.key) bs.length ks (a:Int) (k:Int)=0) (H:CP w0 W g F rs p n bs ks)=>show Calls Tryz.prog 47 #[.pointer (some ⟨F.g,0,none⟩),.int .i64 (a:Int),.int .i64 (k:Int),.int .i64 p.key] W fun e w'=>∃v,e=.returned v∧∃b cap,v=.tuple #[.slice (some ⟨b,0,none⟩) k cap,.int .i64 0]∧Byt w' (some ⟨b,0,none⟩) k (sGet bs (a:Int) (k:Int))∧b<w'.heap.size∧W.heap.size≤b∧CP w0 w' g F rs p n bs ks∧Below W.heap.size W w' from by
  have hf:=fetch_c W H.st (a:Int) (k:Int) p.key
  have hg:(sGet bs (a:Int) (k:Int)).length=k:=by
   have h1:=sCode_zero hk
   obtain ⟨_,_,_,_⟩:=sIn_yes h1
   unfold sGet;rw [if_pos h1];simp;omega
  rw [hk,show sFet (alF p.key) bs ks (a:Int) (k:Int)=sGet bs (a:Int) (k:Int) from by unfold sFet;rw [if_pos hk]] at hf
  refine hf.mono ?_
  rintro e w' ⟨A,l,cap,rfl,hO,hb⟩
  obtain rfl:l=k:=hO.len.symm.trans hg
  obtain ⟨b,cap',hv,h1,h2,-,-⟩:=hO.pos h0
  injection hv with e1 e2 e3
  subst e1 e3
  exact ⟨_,rfl,b,_,rfl,hO.byt,h2,h1,H.keep hb,hb⟩)
 obtain ⟨op,hop⟩:∃op,(sGet bs (a:Int) 2).getD 0 0=op:=⟨_,rfl⟩
 have O0:=sGet_in (bs:=bs) (a:Int) 2 h.st.rb 0
 rw [hop] at hm O0
 have HOP:=lh hop
 have LC:=lh (fun W=>length_c op (by omega) (by omega) W)
 rw [hm] at LC
 have H:=lh h
 have F2:=lh (fun W H=>FC.out W 2 (by omega) h2 H)
 have FM:=lh (fun W H=>FC.out W m (by rcases hm2 with rfl | hm2<;>omega) hc H)
 have HM:=lh hm2
 have c1:IntKind.i64.wrap op=op:=wrap_i64_id (by omega) (by omega)
 obtain ⟨A,hA⟩:∃A:Int,(a:Int)=A:=⟨_,rfl⟩
 have e0:(IntKind.i64.wrap (A.tmod 2) != 0)=false:=by rw [Int.tmod_eq_emod_of_nonneg (by omega),show A % 2=0 by omega];rfl
 have e1:A.tmod 2=0:=by rw [Int.tmod_eq_emod_of_nonneg (by omega)];omega
 rw [hA] at F2 FM HOP ⊢
 clear h hop hm hc h2 hA ha ha1 FC hm2
 go_enter Tryz.func38,Tryz.ntmps38
 go_upto_region 3 with fail
 refine wp_region_held_drew (S:=fun W=>CP w0 W g F rs p n bs ks∧True) (by kernel_rfl) ⟨H.out.drew,trivial⟩ (fun hHeld=>?_)
 replace H:=lh H.out.drew
 repeat refine tkx ?_
 refine tkce (R:=fun v w'=>∃b cap,v=.tuple #[.slice (some ⟨b,0,none⟩) 2 cap,.int .i64 0]∧Byt w' (some ⟨b,0,none⟩) 2 (sGet bs A 2)∧b<w'.heap.size∧w.heap.size≤b∧CP w0 w' g F rs p n bs ks∧Below w.drew.heap.size w.drew w') (F2.out _ H.out) (fun _ _ ⟨_,_,_,_,_,_,h,_⟩=>⟨h,trivial⟩) ?_
 clear H hHeld F2
 intro v w1 Z hHeld
 obtain ⟨b,cap,rfl,hy,hbl,hbg,hC,-⟩:=Z.out
 have H:=lh hC
 have Y:=lh hy
 clear Z hy hC
 repeat refine tkx ?_
 refine wpAnyH_done (by with_unfolding_all rfl) ?_ _
 clear hHeld
 have cb:=byt0 Y.out (by omega)
 rw [HOP.out] at cb
 rcases HM.out with hm | ⟨hm,hm0,hm6⟩
 ·subst hm
  clear HM FM
  go_wp2_with (go_at_call 42;refine nz (LC.out _) ?_)
  go_ret2
  exact ⟨_,rfl,b,cap,rfl,Y.out,hbl,hbg,H.out⟩
 ·have e2:((m:Int) == 2)=false:=by simp;omega
  have HB:=lh (⟨hbl,hbg⟩:b<w1.heap.size∧w.heap.size≤b)
  clear HM hm hm0 hm6 hbl hbg
  go_upto_region 6 with (go_at_call 42;refine nz (LC.out _) ?_)
  refine wp_region_held_drew (S:=fun W=>CP w0 W g F rs p n bs ks∧W.cell? ⟨b,0,none⟩=some (.int .u8 op)) (by kernel_rfl) ⟨H.out.drew,cb⟩ (fun hHeld=>?_)
  replace H:=lh H.out.drew
  repeat refine tkx ?_
  refine tkz (LC.out _) ?_
  repeat refine tkx ?_
  refine tkce (R:=fun v w'=>(∃b cap,v=.tuple #[.slice (some ⟨b,0,none⟩) m cap,.int .i64 0]∧Byt w' (some ⟨b,0,none⟩) m (sGet bs A (m:Int))∧b<w'.heap.size∧w1.heap.size≤b∧CP w0 w' g F rs p n bs ks)∧w'.cell? ⟨b,0,none⟩=some (.int .u8 op)) ((FM.out _ H.out).mono fun e w' ⟨v,he,b2,cap2,hv,h1,h2,h3,h4,h5⟩=>⟨v,he,⟨b2,cap2,hv,h1,h2,h3,h4⟩,(h5.cell (p:=⟨b,0,none⟩) HB.out.1).trans hHeld.2⟩) (fun _ _ ⟨⟨_,_,_,_,_,_,h⟩,hc⟩=>⟨h,hc⟩) ?_
  clear H hHeld
  intro v w2 Z hHeld
  obtain ⟨⟨b2,cap2,rfl,hy,hbl2,hbg2,hC⟩,-⟩:=Z.out
  have Y2:=lh hy
  have H:=lh hC
  clear Z hy hC
  repeat refine tkx ?_
  refine wpAnyH_done (by with_unfolding_all rfl) ?_ _
  clear hHeld
  go_wp2
  go_ret2
  exact ⟨_,rfl,b2,cap2,rfl,Y2.out,hbl2,by have:=HB.out;omega,H.out⟩
end
end Go.Proofs.YtljajnaclpbecaaGreatDoor
