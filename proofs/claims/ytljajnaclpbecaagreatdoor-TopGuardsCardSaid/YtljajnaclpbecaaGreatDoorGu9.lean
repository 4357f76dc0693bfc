/- Contracts and laws on the way to the statement, text 9 of 22. Conditions: as each states them. -/
import Derived.Test.YtljajnaclpbecaaGreatDoorGu1
import Derived.Test.YtljajnaclpbecaaGreatDoorGu3
import Derived.Test.YtljajnaclpbecaaGreatDoorGu5
import Derived.Test.YtljajnaclpbecaaGreatDoorGu6
import Derived.Test.YtljajnaclpbecaaGreatDoorGu7
import Derived.Test.YtljajnaclpbecaaGreatDoorGu8
import Derived.BigQuiet
import Derived.Deep.QuietTactic
import Derived.RegionTactic
import Derived.BigRegion
import Derived.Lib.Hide
import Derived.Outline
import Derived.Handy
import Derived.Test.YtljajnaclpbecaaGreatDoorProg
namespace Go.Proofs.YtljajnaclpbecaaGreatDoor
set_option maxRecDepth 1000000
set_option maxHeartbeats 8000000
open Go.RowKit Go.Shelf
set_option linter.unusedVariables false
set_option linter.unusedSimpArgs false
attribute [local go_sem] Oper.semAt_some
def Rb (W:World) (g:Nat) (zs:List Int):Prop:=W.heap[g]?=some (.cells (zs.map (Value.int .u8)).toArray 5 (0,0))
section
variable {W W':World} {g:Nat} {zs:List Int}
theorem Rb.cell (h:Rb W g zs) {c:Nat} (hc:c<zs.length):W.cell? ⟨g,c,none⟩=some (.int .u8 (zs.getD c 0)):=by
 rw [cell_blk h];simp [List.getD_eq_getElem?_getD,hc]
theorem Rb.free (h:Rb W g zs) (c:Nat):W.frozen? ⟨g,c,none⟩=false:=by
 unfold Rb at h;simp [World.frozen?,h]
theorem Rb.set_ (h:Rb W g zs) (c:Nat) (v:Int):Rb (W.setCell ⟨g,c,none⟩ (.int .u8 v)) g (zs.set c v):=by
 unfold Rb at *
 rw [setCell_eq_setRow W g c _ 5 (0,0) _ h,setRow_heap W g _ _ _ _ h]
 simp [List.map_set]
theorem Rb.other (h:Rb W g zs) {p:Addr} (v:Value) (hp:p.block≠g):Rb (W.setCell p v) g zs:=(Below.heap_setCell W p v g (Ne.symm hp)).trans h
theorem Rb.alloc (h:Rb W g zs) (o:Obj):Rb (W.alloc o) g zs:=(Below.heap_alloc W o g (Array.getElem?_eq_some_iff.1 h).1).trans h
theorem Rb.kept {row:Option Nat} (h:Rb W g zs) (hg:W.grownBy W' row) (hr:∀r,row=some r→∃o:Obj,W.heap[r]?=some o∧o.isCells=false):Rb W' g zs:=blk_kept h hg hr
theorem Rb.byt (h:Rb W g zs) (hr:∀z∈zs,0≤z∧z≤255) (n:Nat) (hn:zs.length=n):Byt W (some ⟨g,0,none⟩) n zs:=by
 subst hn
 exact ⟨rfl,hr,fun _=>⟨g,0,rfl,fun i hi=>by rw [Nat.zero_add];exact h.cell hi⟩⟩
end
def pn (out:List Int) (a:Nat) (h:Int):List Int:=out.set (a / 2) (bits .or .u8 (out.getD (a / 2) 0) (if a % 2=0 then h*16 else h))
def encK (v:Int) (a q:Nat):Nat→List Int→List Int
 | 0,out=>out
 | k+1,out=>pn (encK v a q k out) (a+k) (v / 16 ^ (q - 1 - k) % 16)
def encF (xs:List Int) (f:FE) (out:List Int):List Int:=encK (xs.getD f.1 0) f.2.2.toNat (f.2.1.toNat / 4) (f.2.1.toNat / 4) out
def encS (xs:List Int) (l:List FE) (out:List Int):List Int:=l.foldl (fun out f=>encF xs f out) out
def encI (xs:List Int):List Int:=encS xs (lay (xs.getD 1 0)) ((List.replicate (lenOf (xs.getD 0 0)).toNat 0).set 0 (xs.getD 0 0))
theorem encK_length (v:Int) (a q:Nat):∀ (k:Nat) (out:List Int),(encK v a q k out).length=out.length
 | 0,out=>rfl
 | k+1,out=>by show (pn _ _ _).length=_;unfold pn;rw [List.length_set,encK_length]
theorem encS_length (xs:List Int):∀ (l:List FE) (out:List Int),(encS xs l out).length=out.length
 | [],out=>rfl
 | f :: l,out=>by show (encS xs l (encF xs f out)).length=_;rw [encS_length];exact encK_length _ _ _ _ _
theorem encS_app (xs:List Int) (l:List FE) (f:FE) (out:List Int):encS xs (l++[f]) out=encF xs f (encS xs l out):=by unfold encS;rw [List.foldl_append];rfl
theorem i64_low4 (V:Int) (h0:0≤V) (h1:V≤9223372036854775807):bits .and .i64 V 15=V % 16:=i64_low 4 15 V (by rfl) (by omega) h0 h1
theorem enc_even {v:Int} {a q k:Nat} {out:List Int} {V:Int} (hp:(a+k) % 2=0) (h0:0≤V) (h1:V≤9223372036854775807) (e:V=v / 16 ^ (q - 1 - k)):(encK v a q k out).set ((a+k) / 2) (bits .or .u8 ((encK v a q k out)[(a+k) / 2]?.getD 0) (bits .and .i64 V 15 % 256*16 % 256))=encK v a q (k+1) out:=by
 rw [i64_low4 V h0 h1]
 show _=pn _ _ _
 unfold pn
 rw [if_pos hp,← e,List.getD_eq_getElem?_getD,show V % 16 % 256*16 % 256=V % 16*16 from by omega]
theorem enc_odd {v:Int} {a q k:Nat} {out:List Int} {V:Int} (hp:(a+k) % 2=1) (h0:0≤V) (h1:V≤9223372036854775807) (e:V=v / 16 ^ (q - 1 - k)):(encK v a q k out).set ((a+k) / 2) (bits .or .u8 ((encK v a q k out)[(a+k) / 2]?.getD 0) (bits .and .i64 V 15 % 256))=encK v a q (k+1) out:=by
 rw [i64_low4 V h0 h1]
 show _=pn _ _ _
 unfold pn
 rw [if_neg (by omega),← e,List.getD_eq_getElem?_getD,show V % 16 % 256=V % 16 from by omega]
theorem Rb.cast {W:World} {g:Nat} {zs ys:List Int} (h:Rb W g zs) (e:zs=ys):Rb W g ys:=e▸h
theorem encK_in (v:Int) (a q:Nat):∀ (k:Nat) (out:List Int),(∀z∈out,0≤z∧z≤255)→∀z∈encK v a q k out,0≤z∧z≤255
 | 0,out,h=>h
 | k+1,out,h=>by
  intro z hz
  change z∈pn _ _ _ at hz
  unfold pn at hz
  rcases List.mem_or_eq_of_mem_set hz with h1 | h1
  ·exact encK_in v a q k out h z h1
  ·rw [h1];exact bounds_u8 (wf_bits .or .u8 _ _)
theorem encS_in (xs:List Int):∀ (l:List FE) (out:List Int),(∀z∈out,0≤z∧z≤255)→∀z∈encS xs l out,0≤z∧z≤255
 | [],out,h=>h
 | f :: l,out,h=>encS_in xs l (encF xs f out) (encK_in _ _ _ _ _ h)
theorem start_in (L:Nat) {op:Int} (h0:0≤op) (h1:op≤255):∀z∈(List.replicate L (0:Int)).set 0 op,0≤z∧z≤255:=by
 intro z hz
 rcases List.mem_or_eq_of_mem_set hz with h | h
 ·rw [List.mem_replicate] at h;omega
 ·omega
theorem scan_rng:∀ (l:List FE) (xs ys:List Int),scan l xs=some ys→(l.map (·.1)).Nodup→∀f∈l,0≤xs.getD f.1 0∧xs.getD f.1 0<2 ^ f.2.1.toNat
 | g :: l,xs,ys,h,hn,f,hf=>by
  simp only [scan] at h
  split at h
  ·next hc=>
   rcases List.mem_cons.1 hf with rfl | hf'
   ·exact hc
   ·rw [List.map_cons,List.nodup_cons] at hn
    have ih:=scan_rng l _ ys h hn.2 f hf'
    have hne:g.1≠f.1:=fun e=>hn.1 (by rw [e];exact List.mem_map.2 ⟨f,hf',rfl⟩)
    have e:(xs.set g.1 0).getD f.1 0=xs.getD f.1 0:=by rw [List.getD_eq_getElem?_getD,List.getElem?_set_ne hne,← List.getD_eq_getElem?_getD]
    rwa [e] at ih
  ·cases h
theorem lay_nodup (form:Int):((lay form).map (·.1)).Nodup:=by unfold lay;(repeat' split)<;>decide
theorem chk_zero {op fm:Int} {xs:List Int} (h:chk op fm xs=0):isOp op=true∧fmOf op=fm∧∀f∈lay fm,0≤xs.getD f.1 0∧xs.getD f.1 0<2 ^ f.2.1.toNat:=by
 unfold chk at h
 split at h
 ·next hc=>
  refine ⟨hc.1,hc.2,?_⟩
  cases hs:scan (lay fm) xs with
  | none=>rw [hs] at h;cases h
  | some ys=>exact scan_rng _ _ ys hs (lay_nodup fm)
 ·cases h
theorem lenOf_cases {op:Int} (h:isOp op=true):lenOf op=2∨lenOf op=4∨lenOf op=6:=by
 have:=isOp_range h
 unfold lenOf
 rw [if_pos (by omega)]
 split
 ·exact .inl rfl
 ·split
  ·exact .inr (.inl rfl)
  ·exact .inr (.inr rfl)
theorem iencode_c (op fm r1 r2 x2 b1 d1 b2 d2 l1 l2 i2:Int) (w:World) (o0:-9223372036854775808≤op) (o1:op≤9223372036854775807):Calls Tryz.prog 29 #[.agg #[.int .i64 op,.int .i64 fm,.int .i64 r1,.int .i64 r2,.int .i64 x2,.int .i64 b1,.int .i64 d1,.int .i64 b2,.int .i64 d2,.int .i64 l1,.int .i64 l2,.int .i64 i2]] w fun e w'=>∃A m,e=.returned (.tuple #[.slice A m m,.int .i64 (chk op fm [op,fm,r1,r2,x2,b1,d1,b2,d2,l1,l2,i2])])∧Byt w' A m (if chk op fm [op,fm,r1,r2,x2,b1,d1,b2,d2,l1,l2,i2]=0 then encI [op,fm,r1,r2,x2,b1,d1,b2,d2,l1,l2,i2] else [])∧(A=none→m=0)∧m≤6∧Below w.heap.size w w':=by
 refine (callsIn_wide (n:=5)).1 ?_
 refine callsIn_of_wp_marks Tryz.func29 rfl trivial ?_ rfl
 simp only [Tryz.ntmps29,List.size_toArray,List.length_cons,List.length_nil,Nat.reduceAdd,Nat.reduceSub,Array.replicate_succ,Array.replicate_zero,List.push_toArray,List.append_toArray,List.nil_append,List.cons_append]
 have CC:=lh (fun W=>icheck_c op fm r1 r2 x2 b1 d1 b2 d2 l1 l2 i2 W)
 obtain ⟨cd,hcd⟩:∃x,chk op fm [op,fm,r1,r2,x2,b1,d1,b2,d2,l1,l2,i2]=x:=⟨_,rfl⟩
 simp only [hcd] at CC
 rw [hcd]
 by_cases hc:cd=0
 ·subst hc
  obtain ⟨hio,hfo,hin⟩:=chk_zero hcd
  obtain ⟨or0,or1⟩:=isOp_range hio
  have LC:=lh (fun W=>length_c op o0 o1 W)
  obtain ⟨L,hL⟩:∃L:Nat,lenOf op=L:=by rcases lenOf_cases hio with h | h | h<;>exact ⟨_,h⟩
  have hL2:2≤L∧L≤6:=by rcases lenOf_cases hio with h | h | h<;>omega
  obtain ⟨L0,L1⟩:=hL2
  simp only [hL] at LC
  have hmk:=fun W=>run_mk_b L (by omega) W
  rw [if_pos rfl]
  have LOK:=lh (lay_okL (Ln:=L) hio (by omega))
  rw [hfo] at LOK
  have hE:=lh (show encI [op,fm,r1,r2,x2,b1,d1,b2,d2,l1,l2,i2]=encS [op,fm,r1,r2,x2,b1,d1,b2,d2,l1,l2,i2] (lay fm) ((List.replicate L 0).set 0 op) from by show encS _ (lay fm) ((List.replicate (lenOf op).toNat 0).set 0 op)=_;rw [hL];rfl)
  have HIN:=lh hin
  rw [hE.out]
  clear hcd hio hfo hin hL
  have ql0:0<L:=by omega
  have hz0:(zeroB L)[0]?=some (Value.int .u8 0):=by unfold zeroB;rw [List.getElem?_toArray,List.getElem?_replicate,if_pos ql0]
  have ql1:(0:Int)<(L:Int):=by omega
  gi_wp2_with (refine ⟨trivial,?_⟩;first | (gi_at_call 41;refine (callsIn_wide.2 (CC.out _)).mono ?_;rintro e w1 ⟨rfl,hb⟩;have HB:=lh (((Below.refl _ _).alloc (Nat.le_refl _) (.cells #[.int .i64 op,.int .i64 fm,.int .i64 r1,.int .i64 r2,.int .i64 x2,.int .i64 b1,.int .i64 d1,.int .i64 b2,.int .i64 d2,.int .i64 l1,.int .i64 l2,.int .i64 i2] 54)).trans (hb.mono (by simp)));have H1:Blk w1 w.heap.size 54 [op,fm,r1,r2,x2,b1,d1,b2,d2,l1,l2,i2]:=Blk.keep (W:=w.alloc (.cells #[.int .i64 op,.int .i64 fm,.int .i64 r1,.int .i64 r2,.int .i64 x2,.int .i64 b1,.int .i64 d1,.int .i64 b2,.int .i64 d2,.int .i64 l1,.int .i64 l2,.int .i64 i2] 54)) (heap_alloc_new w _) hb;have HH1:=lh H1;have k0:w1.cell? ⟨w.heap.size,0,none⟩=some (.int .i64 op):=H1.cell (c:=0) (by simp);have k1:=((H1.alloc (.cells (zeroB L) 5)).alloc (.cells #[.slice (some ⟨w1.heap.size,0,none⟩) L L] 22)).cell (c:=0) (by simp);clear hb H1) | (gi_at_call 42;refine (callsIn_wide.2 (LC.out _)).mono ?_;rintro e w2 ⟨rfl,rfl⟩) | (gi_at_call 43;refine (callsIn_wide.2 (fields_c _ _)).mono ?_;rintro e w1 ⟨rfl,rfl⟩))
  obtain ⟨W0,hW0⟩:∃W0,(((w1.alloc (.cells ((zeroB L).setIfInBounds 0 (.int .u8 op)) 5)).alloc (.cells #[.slice (some ⟨w1.heap.size,0,none⟩) L L] 22)).alloc (.cells #[.pointer (some ⟨w.heap.size,0,none⟩)] 103))=W0:=⟨_,rfl⟩
  rw [hW0]
  have hz:W0.heap.size=w1.heap.size+3:=by rw [← hW0];simp
  have hB0:Below w.heap.size w W0:=by rw [← hW0];exact ((HB.out.alloc HB.out.size _).alloc (by have:=HB.out.size;simp;omega) _).alloc (by have:=HB.out.size;simp;omega) _
  have zl:w.heap.size<w1.heap.size:=World.block_lt_of_cell? w1 _ k0
  have r0:Rb W0 w1.heap.size ((List.replicate L 0).set 0 op):=by
   rw [← hW0]
   have e:((zeroB L).setIfInBounds 0 (Value.int .u8 op))=(((List.replicate L (0:Int)).set 0 op).map (Value.int .u8)).toArray:=by unfold zeroB;rw [List.setIfInBounds_toArray,List.map_set,List.map_replicate]
   rw [e]
   exact (Below.heap_alloc _ _ _ (by simp;omega)).trans ((Below.heap_alloc _ _ _ (by simp)).trans (heap_alloc_new w1 _))
  have q0:Blk W0 w.heap.size 54 [op,fm,r1,r2,x2,b1,d1,b2,d2,l1,l2,i2]:=by rw [← hW0];exact ((HH1.out.alloc _).alloc _).alloc _
  have q1:W0.heap[w1.heap.size+1]?=some (.cells #[.slice (some ⟨w1.heap.size,0,none⟩) L L] 22 (0,0)):=by rw [← hW0];exact (Below.heap_alloc _ _ _ (by simp)).trans (heap_alloc2_new w1 _ _)
  have q2:W0.heap[w1.heap.size+1+1]?=some (.cells #[.pointer (some ⟨w.heap.size,0,none⟩)] 103 (0,0)):=by
   rw [← hW0]
   have:=heap_alloc_new ((w1.alloc (.cells ((zeroB L).setIfInBounds 0 (.int .u8 op)) 5)).alloc (.cells #[.slice (some ⟨w1.heap.size,0,none⟩) L L] 22)) (.cells #[.pointer (some ⟨w.heap.size,0,none⟩)] 103)
   rwa [World.size_alloc,World.size_alloc] at this
  clear hW0 k0 k1 hmk hz0
  obtain ⟨xs,hxs⟩:∃xs,xs=[op,fm,r1,r2,x2,b1,d1,b2,d2,l1,l2,i2]:=⟨_,rfl⟩
  have hx1:xs.getD 1 0=fm:=by rw [hxs];rfl
  have xl:xs.length=12:=by rw [hxs];rfl
  rw [← hxs] at q0 HIN
  have XS:=lh hxs
  clear hxs HH1
  refine wpIn_rangeFunc_ownH rfl (by omega) (gf:=55) (lb:=#[.pointer (some ⟨w1.heap.size+1+1,0,none⟩)]) rfl trivial (enters_of Tryz.func55 (by kernel_rfl) rfl)
   (fields1_stops (fun x=>x∈lay fm) (5 - 1) (by omega) w.heap.size (w1.heap.size+1+1) W0.heap.size fm W0 (by rw [q0.cell (by omega),hx1]) (by rw [cell_blk q2];rfl) (Nat.le_refl _) (fun x h=>h)) kpC_t kpC_b (Below.refl _ _) (fun _=>rfl)
   (fun pre W=>(W0.heap.size≤W.heap.size∧Rb W w1.heap.size (encS xs (pre.map (·.1)) ((List.replicate L 0).set 0 op))∧Blk W w.heap.size 54 xs∧W.heap[w1.heap.size+1]?=some (.cells #[.slice (some ⟨w1.heap.size,0,none⟩) L L] 22 (0,0)))∧Below w.heap.size w W)
   (fun c pre W=>False∧Below w.heap.size w W)
   (OwnFrom.and (Own.from (fun s A B row hs hg hr=>⟨Nat.le_trans hs.1 hg.size,hs.2.1.kept hg hr,hs.2.2.1.kept hg hr,blk_kept hs.2.2.2 hg hr⟩) _) (ownFrom_below (Nat.le_refl _) (by omega)))
   (fun c=>OwnFrom.and (Own.from (fun s A B row hs hg hr=>hs) _) (ownFrom_below (Nat.le_refl _) (by omega)))
   ⟨⟨Nat.le_refl _,r0,q0,q1⟩,hB0⟩
   (fun x a' W=>∃fb,W0.heap.size≤fb∧FBox W fb w.heap.size x.1∧a'={ tmps:=#[.agg #[.int .i64 op,.int .i64 fm,.int .i64 r1,.int .i64 r2,.int .i64 x2,.int .i64 b1,.int .i64 d1,.int .i64 b2,.int .i64 d2,.int .i64 l1,.int .i64 l2,.int .i64 i2],.pointer (some ⟨w.heap.size,0,none⟩),.slice none 0 0,.int .i64 0,.int .i64 0,.pointer (some ⟨w1.heap.size+1,0,none⟩),.pointer (some ⟨fb,0,none⟩),undef,undef,undef,undef,.agg #[.int .i64 op,.int .i64 fm,.int .i64 r1,.int .i64 r2,.int .i64 x2,.int .i64 b1,.int .i64 d1,.int .i64 b2,.int .i64 d2,.int .i64 l1,.int .i64 l2,.int .i64 i2],.int .i64 0,.int .i64 0,.bool false,undef,.pointer (some ⟨w.heap.size,0,none⟩),.int .i64 op,.int .i64 L,.slice (some ⟨w1.heap.size,0,none⟩) L L,.slice (some ⟨w1.heap.size,0,none⟩) L L,.pointer (some ⟨w.heap.size,0,none⟩),.int .i64 op,.int .u8 op,.pointer (some ⟨w1.heap.size,0,none⟩),.func (.func 55) #[] #[.pointer (some ⟨w1.heap.size+1+1,0,none⟩)],.agg #[.pointer (some ⟨w.heap.size,x.1.1,none⟩),.int .i64 x.1.2.1,.int .i64 x.1.2.2],undef,undef,undef,undef,undef,undef,undef,undef,undef,undef,undef,undef,undef,undef,undef,undef,undef,undef,undef,undef,undef,undef,undef,undef,undef,undef,undef,undef,undef,undef,undef,undef,undef,undef,undef,undef,undef,undef],defers:=[] })
   (fun x a'=>Own.from (fun s A B row hs hg hr=>by obtain ⟨fb,h1,h2,h3⟩:=hs;exact ⟨fb,h1,blk_kept h2 hg hr,h3⟩) _) ?assign ?body ?done ?stop
  case assign=>
   intro l pre x W K hI hK
   gi_wp2
   obtain ⟨⟨h0,h3,h4,h5⟩,hB⟩:=hI
   exact hK _ _ ((KeepsOthers.alloc _ _).from _) (kpC_of_below (al_keep W _)) ⟨⟨by simp;omega,h3.alloc _,h4.alloc _,(Below.heap_alloc W _ _ (Array.getElem?_eq_some_iff.1 h5).1).trans h5⟩,hB.alloc (by omega) _⟩ ⟨W.heap.size,h0,heap_alloc_new W _,rfl⟩
  case body=>
   rintro l pre ⟨⟨c,n,at_⟩,hmem⟩ a' W hl hrr ⟨⟨h0,h3,h4,h5⟩,hB⟩ ⟨fb,hfb,hF,rfl⟩ hlen
   obtain ⟨⟨ok1,ok2,ok3⟩,ok4,ok5,ok6⟩:=LOK.out _ hmem
   have hv:=HIN.out _ hmem
   dsimp only at ok1 ok2 ok3 ok4 ok5 ok6 hv
   obtain ⟨a,rfl⟩:=Int.eq_ofNat_of_zero_le (show 0≤at_ by omega)
   have k3:=h4.cell (c:=c) (by omega)
   obtain ⟨v,hvv⟩:∃v,xs.getD c 0=v:=⟨_,rfl⟩
   rw [hvv] at k3 hv
   have ST:=lh (encS_app xs (pre.map (·.1)) (c,n,(a:Int)) ((List.replicate L 0).set 0 op))
   have VV:=lh hvv
   obtain ⟨out,hout⟩:∃out,encS xs (pre.map (·.1)) ((List.replicate L 0).set 0 op)=out:=⟨_,rfl⟩
   rw [hout] at h3
   have OL:out.length=L:=by rw [← hout,encS_length];simp
   have OO:=lh hout
   have k0:W.cell? ⟨fb,0,none⟩=some (.pointer (some ⟨w.heap.size,c,none⟩)):=by rw [cell_blk hF];rfl
   have k1:W.cell? ⟨fb,1,none⟩=some (.int .i64 n):=by rw [cell_blk hF];rfl
   have hF':=lh hF
   have I0:=lh (And.intro h0 (And.intro h3 (And.intro h4 (And.intro h5 hB))))
   clear h0 h3 h4 h5 hB hF hvv hout
   rcases ok3 with rfl | rfl | rfl
   ·have hv1:v<16:=hv.2
    have hv0:=hv.1
    have ok7:a+1≤2*L:=by omega
    clear hv
    gi_wp2
    gi_loopw [31] (fun kv wr=>∃j:Nat,j≤1∧kv=.int .i64 j∧KeepsFrom W0.heap.size W wr∧KpC W0.heap.size W wr∧Rb wr w1.heap.size (encK v a 1 j out)∧Blk wr w.heap.size 54 xs∧wr.heap[w1.heap.size+1]?=some (.cells #[.slice (some ⟨w1.heap.size,0,none⟩) L L] 22 (0,0))∧Below w.heap.size w wr∧FBox wr fb w.heap.size (c,4,(a:Int))∧W0.heap.size≤wr.heap.size) (fun kv _=>1 - (intOf kv).toNat)
    case atStart=>exact ⟨0,by omega,rfl,KeepsFrom.refl _ _,kpC_refl _ _,I0.out.2.1,I0.out.2.2.1,I0.out.2.2.2.1,I0.out.2.2.2.2,hF'.out,I0.out.1⟩
    case round=>
     obtain ⟨j,hj,rfl,kf,kp,rb,bi,hs,hB,hF,hz1⟩:=hrel
     rcases (show j=0∨j=1 by omega) with rfl | rfl
     ·have hq:a / 2<L:=by omega
      have m0:=rb.cell (c:=a / 2) (by rw [encK_length,OL];exact hq)
      have m1:=rb.free (a / 2)
      have m2:=bi.cell (c:=c) (by omega)
      rw [VV.out] at m2
      have m3:wr.cell? ⟨fb,0,none⟩=some (.pointer (some ⟨w.heap.size,c,none⟩)):=by rw [cell_blk hF];rfl
      have m4:wr.cell? ⟨fb,2,none⟩=some (.int .i64 (a:Int)):=by rw [cell_blk hF];rfl
      have m5:wr.cell? ⟨w1.heap.size+1,0,none⟩=some (.slice (some ⟨w1.heap.size,0,none⟩) L L):=by rw [cell_blk hs];rfl
      have HH:=lh (And.intro kf (And.intro kp (And.intro rb (And.intro bi (And.intro hs (And.intro hB (And.intro hF hz1)))))))
      clear kf kp rb bi hs hB hF hz1 k0 k1 k3
      by_cases hp:a % 2=0
      ·gi_wp2
       obtain ⟨kf,kp,rb,bi,hs,hB,hF,hz1⟩:=HH.out
       exact ⟨⟨1,by omega,rfl,kf.trans ((KeepsOthers.setCell _ _ _).from _),kpC_t kp (kpC_set _ _ _ (by show w1.heap.size<_;omega)),(rb.set_ (a / 2) _).cast ( enc_even (k:=0) hp (by omega) (by omega) (by omega)),bi.other _ (by show w1.heap.size≠_;omega),(Below.heap_setCell _ _ _ _ (by show _≠w1.heap.size;omega)).trans hs,hB.setCell (p:=⟨w1.heap.size,a / 2,none⟩) (by show _≤w1.heap.size;omega) _,(Below.heap_setCell _ _ _ _ (by show _≠w1.heap.size;omega)).trans hF,by simpa using hz1⟩,by decide⟩
      ·gi_wp2
       obtain ⟨kf,kp,rb,bi,hs,hB,hF,hz1⟩:=HH.out
       exact ⟨⟨1,by omega,rfl,kf.trans ((KeepsOthers.setCell _ _ _).from _),kpC_t kp (kpC_set _ _ _ (by show w1.heap.size<_;omega)),(rb.set_ (a / 2) _).cast ( enc_odd (k:=0) (by omega) (by omega) (by omega) (by omega)),bi.other _ (by show w1.heap.size≠_;omega),(Below.heap_setCell _ _ _ _ (by show _≠w1.heap.size;omega)).trans hs,hB.setCell (p:=⟨w1.heap.size,a / 2,none⟩) (by show _≤w1.heap.size;omega) _,(Below.heap_setCell _ _ _ _ (by show _≠w1.heap.size;omega)).trans hF,by simpa using hz1⟩,by decide⟩
     ·clear k0 k1 k3
      gi_wp2
      refine ⟨kf,kp,⟨hz1,rb.cast ?_,bi,hs⟩,hB⟩
      rw [List.map_append]
      refine Eq.trans ?_ ST.out.symm
      rw [OO.out]
      rw [show encF xs (c,4,(a:Int)) out=encK (xs.getD c 0) a 1 1 out from by simp [encF],VV.out]
   ·have hv1:v<256:=hv.2
    have hv0:=hv.1
    have ok7:a+2≤2*L:=by omega
    clear hv
    gi_wp2
    gi_loopw [31] (fun kv wr=>∃j:Nat,j≤2∧kv=.int .i64 j∧KeepsFrom W0.heap.size W wr∧KpC W0.heap.size W wr∧Rb wr w1.heap.size (encK v a 2 j out)∧Blk wr w.heap.size 54 xs∧wr.heap[w1.heap.size+1]?=some (.cells #[.slice (some ⟨w1.heap.size,0,none⟩) L L] 22 (0,0))∧Below w.heap.size w wr∧FBox wr fb w.heap.size (c,8,(a:Int))∧W0.heap.size≤wr.heap.size) (fun kv _=>2 - (intOf kv).toNat)
    case atStart=>exact ⟨0,by omega,rfl,KeepsFrom.refl _ _,kpC_refl _ _,I0.out.2.1,I0.out.2.2.1,I0.out.2.2.2.1,I0.out.2.2.2.2,hF'.out,I0.out.1⟩
    case round=>
     obtain ⟨j,hj,rfl,kf,kp,rb,bi,hs,hB,hF,hz1⟩:=hrel
     rcases (show j=0∨j=1∨j=2 by omega) with rfl | rfl | rfl
     ·have hq:a / 2<L:=by omega
      have m0:=rb.cell (c:=a / 2) (by rw [encK_length,OL];exact hq)
      have m1:=rb.free (a / 2)
      have m2:=bi.cell (c:=c) (by omega)
      rw [VV.out] at m2
      have m3:wr.cell? ⟨fb,0,none⟩=some (.pointer (some ⟨w.heap.size,c,none⟩)):=by rw [cell_blk hF];rfl
      have m4:wr.cell? ⟨fb,2,none⟩=some (.int .i64 (a:Int)):=by rw [cell_blk hF];rfl
      have m5:wr.cell? ⟨w1.heap.size+1,0,none⟩=some (.slice (some ⟨w1.heap.size,0,none⟩) L L):=by rw [cell_blk hs];rfl
      have HH:=lh (And.intro kf (And.intro kp (And.intro rb (And.intro bi (And.intro hs (And.intro hB (And.intro hF hz1)))))))
      clear kf kp rb bi hs hB hF hz1 k0 k1 k3
      by_cases hp:a % 2=0
      ·gi_wp2
       obtain ⟨kf,kp,rb,bi,hs,hB,hF,hz1⟩:=HH.out
       exact ⟨⟨1,by omega,rfl,kf.trans ((KeepsOthers.setCell _ _ _).from _),kpC_t kp (kpC_set _ _ _ (by show w1.heap.size<_;omega)),(rb.set_ (a / 2) _).cast ( enc_even (k:=0) hp (by omega) (by omega) (by omega)),bi.other _ (by show w1.heap.size≠_;omega),(Below.heap_setCell _ _ _ _ (by show _≠w1.heap.size;omega)).trans hs,hB.setCell (p:=⟨w1.heap.size,a / 2,none⟩) (by show _≤w1.heap.size;omega) _,(Below.heap_setCell _ _ _ _ (by show _≠w1.heap.size;omega)).trans hF,by simpa using hz1⟩,by decide⟩
      ·gi_wp2
       obtain ⟨kf,kp,rb,bi,hs,hB,hF,hz1⟩:=HH.out
       exact ⟨⟨1,by omega,rfl,kf.trans ((KeepsOthers.setCell _ _ _).from _),kpC_t kp (kpC_set _ _ _ (by show w1.heap.size<_;omega)),(rb.set_ (a / 2) _).cast ( enc_odd (k:=0) (by omega) (by omega) (by omega) (by omega)),bi.other _ (by show w1.heap.size≠_;omega),(Below.heap_setCell _ _ _ _ (by show _≠w1.heap.size;omega)).trans hs,hB.setCell (p:=⟨w1.heap.size,a / 2,none⟩) (by show _≤w1.heap.size;omega) _,(Below.heap_setCell _ _ _ _ (by show _≠w1.heap.size;omega)).trans hF,by simpa using hz1⟩,by decide⟩
     ·have hq:(a+1) / 2<L:=by omega
      have m0:=rb.cell (c:=(a+1) / 2) (by rw [encK_length,OL];exact hq)
      have m1:=rb.free ((a+1) / 2)
      have m2:=bi.cell (c:=c) (by omega)
      rw [VV.out] at m2
      have m3:wr.cell? ⟨fb,0,none⟩=some (.pointer (some ⟨w.heap.size,c,none⟩)):=by rw [cell_blk hF];rfl
      have m4:wr.cell? ⟨fb,2,none⟩=some (.int .i64 (a:Int)):=by rw [cell_blk hF];rfl
      have m5:wr.cell? ⟨w1.heap.size+1,0,none⟩=some (.slice (some ⟨w1.heap.size,0,none⟩) L L):=by rw [cell_blk hs];rfl
      have HH:=lh (And.intro kf (And.intro kp (And.intro rb (And.intro bi (And.intro hs (And.intro hB (And.intro hF hz1)))))))
      clear kf kp rb bi hs hB hF hz1 k0 k1 k3
      by_cases hp:(a+1) % 2=0
      ·gi_wp2
       obtain ⟨kf,kp,rb,bi,hs,hB,hF,hz1⟩:=HH.out
       exact ⟨⟨2,by omega,rfl,kf.trans ((KeepsOthers.setCell _ _ _).from _),kpC_t kp (kpC_set _ _ _ (by show w1.heap.size<_;omega)),(rb.set_ ((a+1) / 2) _).cast ( enc_even (k:=1) hp (by omega) (by omega) (by omega)),bi.other _ (by show w1.heap.size≠_;omega),(Below.heap_setCell _ _ _ _ (by show _≠w1.heap.size;omega)).trans hs,hB.setCell (p:=⟨w1.heap.size,(a+1) / 2,none⟩) (by show _≤w1.heap.size;omega) _,(Below.heap_setCell _ _ _ _ (by show _≠w1.heap.size;omega)).trans hF,by simpa using hz1⟩,by decide⟩
      ·gi_wp2
       obtain ⟨kf,kp,rb,bi,hs,hB,hF,hz1⟩:=HH.out
       exact ⟨⟨2,by omega,rfl,kf.trans ((KeepsOthers.setCell _ _ _).from _),kpC_t kp (kpC_set _ _ _ (by show w1.heap.size<_;omega)),(rb.set_ ((a+1) / 2) _).cast ( enc_odd (k:=1) (by omega) (by omega) (by omega) (by omega)),bi.other _ (by show w1.heap.size≠_;omega),(Below.heap_setCell _ _ _ _ (by show _≠w1.heap.size;omega)).trans hs,hB.setCell (p:=⟨w1.heap.size,(a+1) / 2,none⟩) (by show _≤w1.heap.size;omega) _,(Below.heap_setCell _ _ _ _ (by show _≠w1.heap.size;omega)).trans hF,by simpa using hz1⟩,by decide⟩
     ·clear k0 k1 k3
      gi_wp2
      refine ⟨kf,kp,⟨hz1,rb.cast ?_,bi,hs⟩,hB⟩
      rw [List.map_append]
      refine Eq.trans ?_ ST.out.symm
      rw [OO.out]
      rw [show encF xs (c,8,(a:Int)) out=encK (xs.getD c 0) a 2 2 out from by simp [encF],VV.out]
   ·have hv1:v<4096:=hv.2
    have hv0:=hv.1
    have ok7:a+3≤2*L:=by omega
    clear hv
    gi_wp2
    gi_loopw [31] (fun kv wr=>∃j:Nat,j≤3∧kv=.int .i64 j∧KeepsFrom W0.heap.size W wr∧KpC W0.heap.size W wr∧Rb wr w1.heap.size (encK v a 3 j out)∧Blk wr w.heap.size 54 xs∧wr.heap[w1.heap.size+1]?=some (.cells #[.slice (some ⟨w1.heap.size,0,none⟩) L L] 22 (0,0))∧Below w.heap.size w wr∧FBox wr fb w.heap.size (c,12,(a:Int))∧W0.heap.size≤wr.heap.size) (fun kv _=>3 - (intOf kv).toNat)
    case atStart=>exact ⟨0,by omega,rfl,KeepsFrom.refl _ _,kpC_refl _ _,I0.out.2.1,I0.out.2.2.1,I0.out.2.2.2.1,I0.out.2.2.2.2,hF'.out,I0.out.1⟩
    case round=>
     obtain ⟨j,hj,rfl,kf,kp,rb,bi,hs,hB,hF,hz1⟩:=hrel
     rcases (show j=0∨j=1∨j=2∨j=3 by omega) with rfl | rfl | rfl | rfl
     ·have hq:a / 2<L:=by omega
      have m0:=rb.cell (c:=a / 2) (by rw [encK_length,OL];exact hq)
      have m1:=rb.free (a / 2)
      have m2:=bi.cell (c:=c) (by omega)
      rw [VV.out] at m2
      have m3:wr.cell? ⟨fb,0,none⟩=some (.pointer (some ⟨w.heap.size,c,none⟩)):=by rw [cell_blk hF];rfl
      have m4:wr.cell? ⟨fb,2,none⟩=some (.int .i64 (a:Int)):=by rw [cell_blk hF];rfl
      have m5:wr.cell? ⟨w1.heap.size+1,0,none⟩=some (.slice (some ⟨w1.heap.size,0,none⟩) L L):=by rw [cell_blk hs];rfl
      have HH:=lh (And.intro kf (And.intro kp (And.intro rb (And.intro bi (And.intro hs (And.intro hB (And.intro hF hz1)))))))
      clear kf kp rb bi hs hB hF hz1 k0 k1 k3
      by_cases hp:a % 2=0
      ·gi_wp2
       obtain ⟨kf,kp,rb,bi,hs,hB,hF,hz1⟩:=HH.out
       exact ⟨⟨1,by omega,rfl,kf.trans ((KeepsOthers.setCell _ _ _).from _),kpC_t kp (kpC_set _ _ _ (by show w1.heap.size<_;omega)),(rb.set_ (a / 2) _).cast ( enc_even (k:=0) hp (by omega) (by omega) (by omega)),bi.other _ (by show w1.heap.size≠_;omega),(Below.heap_setCell _ _ _ _ (by show _≠w1.heap.size;omega)).trans hs,hB.setCell (p:=⟨w1.heap.size,a / 2,none⟩) (by show _≤w1.heap.size;omega) _,(Below.heap_setCell _ _ _ _ (by show _≠w1.heap.size;omega)).trans hF,by simpa using hz1⟩,by decide⟩
      ·gi_wp2
       obtain ⟨kf,kp,rb,bi,hs,hB,hF,hz1⟩:=HH.out
       exact ⟨⟨1,by omega,rfl,kf.trans ((KeepsOthers.setCell _ _ _).from _),kpC_t kp (kpC_set _ _ _ (by show w1.heap.size<_;omega)),(rb.set_ (a / 2) _).cast ( enc_odd (k:=0) (by omega) (by omega) (by omega) (by omega)),bi.other _ (by show w1.heap.size≠_;omega),(Below.heap_setCell _ _ _ _ (by show _≠w1.heap.size;omega)).trans hs,hB.setCell (p:=⟨w1.heap.size,a / 2,none⟩) (by show _≤w1.heap.size;omega) _,(Below.heap_setCell _ _ _ _ (by show _≠w1.heap.size;omega)).trans hF,by simpa using hz1⟩,by decide⟩
     ·have hq:(a+1) / 2<L:=by omega
      have m0:=rb.cell (c:=(a+1) / 2) (by rw [encK_length,OL];exact hq)
      have m1:=rb.free ((a+1) / 2)
      have m2:=bi.cell (c:=c) (by omega)
      rw [VV.out] at m2
      have m3:wr.cell? ⟨fb,0,none⟩=some (.pointer (some ⟨w.heap.size,c,none⟩)):=by rw [cell_blk hF];rfl
      have m4:wr.cell? ⟨fb,2,none⟩=some (.int .i64 (a:Int)):=by rw [cell_blk hF];rfl
      have m5:wr.cell? ⟨w1.heap.size+1,0,none⟩=some (.slice (some ⟨w1.heap.size,0,none⟩) L L):=by rw [cell_blk hs];rfl
      have HH:=lh (And.intro kf (And.intro kp (And.intro rb (And.intro bi (And.intro hs (And.intro hB (And.intro hF hz1)))))))
      clear kf kp rb bi hs hB hF hz1 k0 k1 k3
      by_cases hp:(a+1) % 2=0
      ·gi_wp2
       obtain ⟨kf,kp,rb,bi,hs,hB,hF,hz1⟩:=HH.out
       exact ⟨⟨2,by omega,rfl,kf.trans ((KeepsOthers.setCell _ _ _).from _),kpC_t kp (kpC_set _ _ _ (by show w1.heap.size<_;omega)),(rb.set_ ((a+1) / 2) _).cast ( enc_even (k:=1) hp (by omega) (by omega) (by omega)),bi.other _ (by show w1.heap.size≠_;omega),(Below.heap_setCell _ _ _ _ (by show _≠w1.heap.size;omega)).trans hs,hB.setCell (p:=⟨w1.heap.size,(a+1) / 2,none⟩) (by show _≤w1.heap.size;omega) _,(Below.heap_setCell _ _ _ _ (by show _≠w1.heap.size;omega)).trans hF,by simpa using hz1⟩,by decide⟩
      ·gi_wp2
       obtain ⟨kf,kp,rb,bi,hs,hB,hF,hz1⟩:=HH.out
       exact ⟨⟨2,by omega,rfl,kf.trans ((KeepsOthers.setCell _ _ _).from _),kpC_t kp (kpC_set _ _ _ (by show w1.heap.size<_;omega)),(rb.set_ ((a+1) / 2) _).cast ( enc_odd (k:=1) (by omega) (by omega) (by omega) (by omega)),bi.other _ (by show w1.heap.size≠_;omega),(Below.heap_setCell _ _ _ _ (by show _≠w1.heap.size;omega)).trans hs,hB.setCell (p:=⟨w1.heap.size,(a+1) / 2,none⟩) (by show _≤w1.heap.size;omega) _,(Below.heap_setCell _ _ _ _ (by show _≠w1.heap.size;omega)).trans hF,by simpa using hz1⟩,by decide⟩
     ·have hq:(a / 2+1)<L:=by omega
      have m0:=rb.cell (c:=(a / 2+1)) (by rw [encK_length,OL];exact hq)
      have m1:=rb.free ((a / 2+1))
      have m2:=bi.cell (c:=c) (by omega)
      rw [VV.out] at m2
      have m3:wr.cell? ⟨fb,0,none⟩=some (.pointer (some ⟨w.heap.size,c,none⟩)):=by rw [cell_blk hF];rfl
      have m4:wr.cell? ⟨fb,2,none⟩=some (.int .i64 (a:Int)):=by rw [cell_blk hF];rfl
      have m5:wr.cell? ⟨w1.heap.size+1,0,none⟩=some (.slice (some ⟨w1.heap.size,0,none⟩) L L):=by rw [cell_blk hs];rfl
      have HH:=lh (And.intro kf (And.intro kp (And.intro rb (And.intro bi (And.intro hs (And.intro hB (And.intro hF hz1)))))))
      clear kf kp rb bi hs hB hF hz1 k0 k1 k3
      by_cases hp:(a+2) % 2=0
      ·gi_wp2
       obtain ⟨kf,kp,rb,bi,hs,hB,hF,hz1⟩:=HH.out
       exact ⟨⟨3,by omega,rfl,kf.trans ((KeepsOthers.setCell _ _ _).from _),kpC_t kp (kpC_set _ _ _ (by show w1.heap.size<_;omega)),(rb.set_ ((a / 2+1)) _).cast (by rw [show a / 2+1=(a+2) / 2 from by omega];exact enc_even (k:=2) hp (by omega) (by omega) (by omega)),bi.other _ (by show w1.heap.size≠_;omega),(Below.heap_setCell _ _ _ _ (by show _≠w1.heap.size;omega)).trans hs,hB.setCell (p:=⟨w1.heap.size,(a / 2+1),none⟩) (by show _≤w1.heap.size;omega) _,(Below.heap_setCell _ _ _ _ (by show _≠w1.heap.size;omega)).trans hF,by simpa using hz1⟩,by decide⟩
      ·gi_wp2
       obtain ⟨kf,kp,rb,bi,hs,hB,hF,hz1⟩:=HH.out
       exact ⟨⟨3,by omega,rfl,kf.trans ((KeepsOthers.setCell _ _ _).from _),kpC_t kp (kpC_set _ _ _ (by show w1.heap.size<_;omega)),(rb.set_ ((a / 2+1)) _).cast (by rw [show a / 2+1=(a+2) / 2 from by omega];exact enc_odd (k:=2) (by omega) (by omega) (by omega) (by omega)),bi.other _ (by show w1.heap.size≠_;omega),(Below.heap_setCell _ _ _ _ (by show _≠w1.heap.size;omega)).trans hs,hB.setCell (p:=⟨w1.heap.size,(a / 2+1),none⟩) (by show _≤w1.heap.size;omega) _,(Below.heap_setCell _ _ _ _ (by show _≠w1.heap.size;omega)).trans hF,by simpa using hz1⟩,by decide⟩
     ·clear k0 k1 k3
      gi_wp2
      refine ⟨kf,kp,⟨hz1,rb.cast ?_,bi,hs⟩,hB⟩
      rw [List.map_append]
      refine Eq.trans ?_ ST.out.symm
      rw [OO.out]
      rw [show encF xs (c,12,(a:Int)) out=encK (xs.getD c 0) a 3 3 out from by simp [encF],VV.out]
  case done=>
   rintro D pre W hD hys ⟨⟨h0,h3,h4,h5⟩,hB⟩ hK
   rw [hys] at h3
   have c0:W.cell? ⟨w1.heap.size+1,0,none⟩=some (.slice (some ⟨w1.heap.size,0,none⟩) L L):=by rw [cell_blk h5];rfl
   have HS:=lh (And.intro h0 (And.intro h3 (And.intro hB hK)))
   clear h0 h3 h4 h5 hB
   gi_wp2
   obtain ⟨h0,h3,hB,hK⟩:=HS.out
   refine ⟨by simp,.inl ⟨_,_,rfl,run_takeDeferred hK,?_⟩⟩
   refine ⟨.tuple #[.slice (some ⟨w1.heap.size,0,none⟩) L L,.int .i64 0],by simp [results,Tryz.results29,go_sem],some ⟨w1.heap.size,0,none⟩,L,rfl,?_,nofun,by omega,?_⟩
   ·rw [← XS.out]
    exact Rb.byt (h3.kept (grownBy_putObj' _ D (.deferred none)) (fun r e=>by cases e;exact ⟨_,hK,rfl⟩)) (encS_in xs _ _ (start_in L (by omega) (by omega))) L (by rw [encS_length];simp)
   ·exact hB.trans (belowK_b (w:=w) (Nat.le_refl _) _ D _ _ (by omega) hK rfl rfl)
  case stop=>
   rintro D c pre W hD _ ⟨hf,_⟩ _
   exact hf.elim
 ·have e1:(cd != 0)=true:=by simpa using hc
  rw [if_neg hc]
  clear hcd hc
  gi_wp2_with (refine ⟨trivial,?_⟩;gi_at_call 41;refine (callsIn_wide.2 (CC.out _)).mono ?_;rintro e w1 ⟨rfl,hb⟩;have HB:=lh (((Below.refl _ _).alloc (Nat.le_refl _) (.cells #[.int .i64 op,.int .i64 fm,.int .i64 r1,.int .i64 r2,.int .i64 x2,.int .i64 b1,.int .i64 d1,.int .i64 b2,.int .i64 d2,.int .i64 l1,.int .i64 l2,.int .i64 i2] 54)).trans (hb.mono (by simp)));clear hb)
  exact ⟨.tuple #[.slice none 0 0,.int .i64 cd],by simp [results,Tryz.results29,go_sem],none,0,rfl,⟨rfl,by simp,fun h=>absurd h (by omega)⟩,fun _=>rfl,by omega,HB.out⟩
end Go.Proofs.YtljajnaclpbecaaGreatDoor
namespace Go.Proofs.YtljajnaclpbecaaGreatDoor
open Go.RowKit
set_option maxRecDepth 1000000
set_option maxHeartbeats 8000000
set_option linter.unusedVariables false
set_option linter.unusedSimpArgs false
theorem penc_range {m k:Int} {M W P:Bool} {c i q g a:Int} (h:pok m k c i q g a=true):∀z∈penc m k M W P c i q g a,0≤z∧z≤255:=by
 have hq:=(pok_iff m k c i q g a).1 h
 cases M<;>cases W<;>cases P<;>simp [penc,psec,b2i]<;>omega
theorem encode_c (m k:Int) (M W P:Bool) (c i q g a:Int) (w:World):Calls Tryz.prog 8 #[.agg #[.int .i64 m,.int .i64 k,.bool M,.bool W,.bool P,.int .i64 c,.int .i64 i,.int .i64 q,.int .i64 g,.int .i64 a]] w fun e w'=>∃A n,e=.returned (.tuple #[.slice A n n,.bool (pok m k c i q g a)])∧Byt w' A n (if pok m k c i q g a=true then penc m k M W P c i q g a else [])∧n≤8∧(A=none→n=0)∧Below w.heap.size w w':=by
 cases hp:pok m k c i q g a
 ·go_enter Tryz.func8,Tryz.ntmps8
  go_wp2_with (go_at_call 22;refine (valid_c m k M W P c i q g a _).mono ?_;rintro e w1 ⟨rfl,hb⟩;refine Bk.opn10 (Bk.keep (Bk.new _ [_,_,_,_,_,_,_,_,_,_] _) hb) ?_;intros;have HB:=lh (show Below w.heap.size w w1 from ((Below.refl _ _).alloc (Nat.le_refl _) _).trans (hb.mono (by simp)));clear hb)
  go_ret2
  exact ⟨none,0,rfl,⟨rfl,by simp,fun h=>absurd h (by omega)⟩,by omega,fun _=>rfl,HB.out⟩
 ·have hq:=(pok_iff m k c i q g a).1 hp
  obtain ⟨⟨m0,m1⟩,⟨k0,k1⟩,⟨c0',c1'⟩,⟨i0,i1⟩,⟨q0,q1⟩,⟨g0,g1⟩,a0,a1⟩:=hq
  have j1:=i64_join 6 64 (i*64) (q*16) rfl (by omega) (by omega) (by omega) (by omega) (by omega) (by omega)
  have j2:=i64_join 4 16 (i*64+q*16) g rfl (by omega) (by omega) (by omega) (by omega) (by omega) (by omega)
  have s4:=u8_join 3 8 (k*16) 4 rfl (by omega) (by omega) (by omega) (by omega) (by omega) (by omega)
  have s2:=u8_join 2 4 (k*16) 2 rfl (by omega) (by omega) (by omega) (by omega) (by omega) (by omega)
  have s1:=u8_join 1 2 (k*16) 1 rfl (by omega) (by omega) (by omega) (by omega) (by omega) (by omega)
  have s42:=u8_join 2 4 (k*16+4) 2 rfl (by omega) (by omega) (by omega) (by omega) (by omega) (by omega)
  have s41:=u8_join 1 2 (k*16+4) 1 rfl (by omega) (by omega) (by omega) (by omega) (by omega) (by omega)
  have s21:=u8_join 1 2 (k*16+2) 1 rfl (by omega) (by omega) (by omega) (by omega) (by omega) (by omega)
  have s421:=u8_join 1 2 (k*16+4+2) 1 rfl (by omega) (by omega) (by omega) (by omega) (by omega) (by omega)
  cases M<;>cases W<;>cases P
  all_goals
   go_enter Tryz.func8,Tryz.ntmps8
   go_wp2_with (go_at_call 22;refine (valid_c _ _ _ _ _ _ _ _ _ _ _).mono ?_;rintro e w1 ⟨rfl,hb⟩;refine Bk.opn10 (Bk.keep (Bk.new _ [_,_,_,_,_,_,_,_,_,_] _) hb) ?_;intros;have HB:=lh (show Below w.heap.size w w1 from ((Below.refl _ _).alloc (Nat.le_refl _) _).trans (hb.mono (by simp)));clear hb)
   go_ret2
   exact ⟨_,8,rfl,byt_new _ _ (penc_range hp) _ (by simp [penc,psec,b2i];try omega) 8 (by rfl) _,by omega,(fun h=>by cases h),HB.out.alloc HB.out.size _⟩
theorem Rw.zerosB (w:World) (k:Nat) (hk:k≤maxLen):Rw (w.alloc (.cells (zeroB k) 5)) w.heap.size 5 k ((List.replicate k (0:Int)).map (Value.int .u8)):=by
 have h:=Rw.new w (zeroB k) 5 ((List.replicate k (0:Int)).map (Value.int .u8)) (by simp [zeroB]) (by simpa using hk)
 simpa using h
theorem Rw.zerosI (w:World) (k:Nat) (hk:k≤maxLen):Rw (w.alloc (.cells (zeroI k) 3)) w.heap.size 3 k ((List.replicate k (0:Int)).map (Value.int .i64)):=by
 have h:=Rw.new w (zeroI k) 3 ((List.replicate k (0:Int)).map (Value.int .i64)) (by simp [zeroI]) (by simpa using hk)
 simpa using h
theorem Rw.alloc {w:World} {g c:Nat} {e:TypeId} {vs:List Value} (h:Rw w g e c vs) (o:Obj):Rw (w.alloc o) g e c vs:=h.keep (Below.heap_alloc w o _ h.lt)
theorem Rw.belowS {w w':World} {g c:Nat} {e:TypeId} {vs:List Value} (h:Rw w g e c vs) (hb:Below w.heap.size w w'):Rw w' g e c vs:=h.keep (hb.block _ h.lt)
theorem St.make {T:TypeId} {w:World} {gb gk cb ck:Nat} {bs ks:List Int} (hb:Rw w gb 5 cb (bs.map (Value.int .u8))) (hk:Rw w gk 3 ck (ks.map (Value.int .i64))) (rb:∀z∈bs,0≤z∧z≤255) (rk:∀z∈ks,0≤z∧z≤31) (ln:bs.length=2048*ks.length) (l0:1≤ks.length) (l1:ks.length≤32)
  (N m:Nat) (hN:bs.length=N) (hm:ks.length=m) :
  St T (w.alloc (.cells #[.slice (some ⟨gb,0,none⟩) N cb,.slice (some ⟨gk,0,none⟩) m ck] T)) ⟨w.heap.size,gb,gk,cb,ck⟩ bs ks:=
 ⟨by subst hN hm;exact heap_alloc_new w _,hb.alloc _,hk.alloc _,rb,rk,ln,l0,l1⟩
def z0 (k:Nat):List Int:=List.replicate k 0
theorem z0_len (k:Nat):(z0 k).length=k:=by simp [z0]
theorem z0_mem {k:Nat} {z:Int} (h:z∈z0 k):z=0:=List.eq_of_mem_replicate h
theorem new_st1 (T:TypeId) (w:World) (N m:Nat) (h:2048*m=N) (h1:1≤m) (h2:m≤32) :
  St T (((w.alloc (.cells (zeroB N) 5)).alloc (.cells (zeroI m) 3)).alloc (.cells #[.slice (some ⟨w.heap.size,0,none⟩) N N,.slice (some ⟨w.heap.size+1,0,none⟩) m m] T)) ⟨w.heap.size+1+1,w.heap.size,w.heap.size+1,N,m⟩ (z0 N) (z0 m):=by
 have hk:=Rw.zerosI (w.alloc (.cells (zeroB N) 5)) m (by unfold maxLen;omega)
 have hb:=(Rw.zerosB w N (by unfold maxLen;omega)).alloc (.cells (zeroI m) 3)
 rw [World.size_alloc] at hk
 have h3:=St.make (T:=T) (bs:=z0 N) (ks:=z0 m) hb hk (fun z hz=>by rw [z0_mem hz];omega) (fun z hz=>by rw [z0_mem hz];omega) (by rw [z0_len,z0_len];omega) (by rw [z0_len];exact h1) (by rw [z0_len];exact h2) N m (z0_len _) (z0_len _)
 simp only [World.size_alloc] at h3
 exact h3
theorem new_st2 (T:TypeId) (w:World) (N m:Nat) (h:2048*m=N) (h1:1≤m) (h2:m≤32) :
  St T (((w.alloc (.cells (zeroI m) 3)).alloc (.cells (zeroB N) 5)).alloc (.cells #[.slice (some ⟨w.heap.size+1,0,none⟩) N N,.slice (some ⟨w.heap.size,0,none⟩) m m] T)) ⟨w.heap.size+1+1,w.heap.size+1,w.heap.size,N,m⟩ (z0 N) (z0 m):=by
 have hb:=Rw.zerosB (w.alloc (.cells (zeroI m) 3)) N (by unfold maxLen;omega)
 have hk:=(Rw.zerosI w m (by unfold maxLen;omega)).alloc (.cells (zeroB N) 5)
 rw [World.size_alloc] at hb
 have h3:=St.make (T:=T) (bs:=z0 N) (ks:=z0 m) hb hk (fun z hz=>by rw [z0_mem hz];omega) (fun z hz=>by rw [z0_mem hz];omega) (by rw [z0_len,z0_len];omega) (by rw [z0_len];exact h1) (by rw [z0_len];exact h2) N m (z0_len _) (z0_len _)
 simp only [World.size_alloc] at h3
 exact h3
theorem below3 (w:World) (a b c:Obj):Below w.heap.size w ((((w.alloc a).alloc b).alloc c).drew):=dBelow ((((Below.refl w.heap.size w).alloc (Nat.le_refl _) _).alloc (by simp) _).alloc (by simp;omega) _) 1
def NewSt (T:TypeId) (w:World) (bs ks:List Int) (v:Value) (w':World):Prop:=∃F:Foot,v=.pointer (some ⟨F.g,0,none⟩)∧St T w' F bs ks∧Below w.heap.size w w'∧w.heap.size≤F.g∧w.heap.size≤F.gb∧w.heap.size≤F.gk
def newPost (m:Nat) (w:World) (e:Ending) (w':World):Prop:=∃v,e=.returned (.tuple #[v,.int .i64 0])∧NewSt 63 w (z0 (2048*m)) (z0 m) v w'
theorem new_yes (m:Nat) (h1:1≤m) (h2:m≤32) (w:World):Calls Tryz.prog 6 #[.int .i64 ((2048*m:Nat):Int)] w (newPost m w):=by
 obtain ⟨N,hN⟩:∃N,2048*m=N:=⟨_,rfl⟩
 rw [hN]
 have a1:(2048:Int)≤(N:Int):=by omega
 have a2:(N:Int)≤65536:=by omega
 have a3:((N:Int) % 2048 != 0)=false:=by rw [bne_eq_false_iff_eq];omega
 have hmk:=fun W=>run_mk_b N (by omega) W
 have hmi:=fun W=>run_mk_i m (by omega) W
 have d1:(N:Int).tdiv 2048=(m:Int):=by rw [Int.tdiv_eq_ediv_of_nonneg (by omega)];omega
 have d2:(N:Int) / 2048=(m:Int):=by omega
 have d3:IntKind.i64.wrap (m:Int)=(m:Int):=by rw [IntKind.wrap_i64];omega
 have HN:=lh hN
 have M1:=lh h1
 have M2:=lh h2
 clear hN h1 h2
 go_enter Tryz.func6,Tryz.ntmps6
 go_wp2
 go_region
 skip
 all_goals
  go_wp2
  go_ret2
  first
   | exact ⟨_,rfl,⟨_,_,_,_,_⟩,rfl,by rw [HN.out];exact (new_st1 _ w N m HN.out M1.out M2.out).drewN 1,below3 _ _ _ _,by simp;omega,by simp,by simp⟩
   | exact ⟨_,rfl,⟨_,_,_,_,_⟩,rfl,by rw [HN.out];exact (new_st2 _ w N m HN.out M1.out M2.out).drewN 1,below3 _ _ _ _,by simp;omega,by simp,by simp⟩
theorem same_c (A:Option Addr) (len cap:Nat) (zs:List Int) (A':Option Addr) (len' cap':Nat) (zs':List Int) (w:World) (hb:Byt w A len zs) (hb':Byt w A' len' zs') (hl:(len:Int)≤9223372036854775807) (hl':(len':Int)≤9223372036854775807) :
  Calls Tryz.prog 16 #[.slice A len cap,.slice A' len' cap'] w fun e w'=>e=.returned (.bool (decide (zs=zs')))∧∃n,w'=w.drewN n:=by
 by_cases hne:len=len'
 ·subst hne
  have e0:((len:Int) != (len:Int))=false:=by simp
  have H1:=lh hb.1
  have H2:=lh hb'.1
  have HB:=lh hb
  have HB':=lh hb'
  clear hb hb'
  go_enter Tryz.func16,Tryz.ntmps16
  go_wp2
  go_loopw [4,5] (fun r i wr=>∃k:Nat,k≤len∧i=.int .i64 k∧zs.take k=zs'.take k∧∃n,wr=w.drewN n) (fun _ i _=>len - (intOf i).toNat)
  case atStart=>exact ⟨0,Nat.zero_le _,rfl,by simp,0,rfl⟩
  case round=>
   obtain ⟨k,hk,rfl,heq,n,rfl⟩:=hrel
   have Heq:=lh heq
   clear heq
   by_cases hlt:k<len
   ·obtain ⟨b,off,rfl,hc⟩:=HB.out.at_ (by omega)
    obtain ⟨b',off',rfl,hc'⟩:=HB'.out.at_ (by omega)
    have c1:=hc k hlt
    have c2:=hc' k hlt
    clear hc hc'
    obtain ⟨x,hx⟩:∃x,zs.getD k 0=x:=⟨_,rfl⟩
    obtain ⟨y,hy⟩:∃y,zs'.getD k 0=y:=⟨_,rfl⟩
    rw [hx] at c1
    rw [hy] at c2
    have k1:(k:Int)<(len:Int):=by omega
    have Hx:=lh hx
    have Hy:=lh hy
    clear hx hy
    by_cases hxy:x=y
    ·subst hxy
     have t0:(x != x)=false:=by simp
     go_wp2
     go_quiet (fail)
     go_wp2
     go_roundw
     case rel=>exact ⟨k+1,by omega,by go_num,take_next_eq Heq.out (by rw [H1.out];exact hlt) (by rw [H2.out];exact hlt) (by rw [Hx.out,Hy.out]),_,rfl⟩
     case measure=>simp [intOf];omega
    ·have t0:(x != y)=true:=by simpa using hxy
     have hfin:=lh (show decide (zs=zs')=false from by rw [decide_eq_false_iff_not];rintro rfl;exact hxy (Hx.out.symm.trans Hy.out))
     go_wp2
     go_quiet (fail)
     go_wp2
     go_ret
     exact ⟨by rw [hfin.out];rfl,_,World.drewN_drewN _ _ _⟩
   ·obtain rfl:k=len:=by omega
    have hfin:=lh (show decide (zs=zs')=true from by
     rw [decide_eq_true_iff]
     have:=Heq.out
     rwa [List.take_of_length_le (by rw [H1.out];exact Nat.le_refl _),List.take_of_length_le (by rw [H2.out];exact Nat.le_refl _)] at this)
    go_wp2
    go_ret
    exact ⟨by rw [hfin.out];rfl,_,rfl⟩
 ·have e0:((len:Int) != (len':Int))=true:=by simp;omega
  have hfin:=lh (show decide (zs=zs')=false from by rw [decide_eq_false_iff_not];rintro rfl;exact hne (hb.1.symm.trans hb'.1))
  clear hb hb' hne
  go_enter Tryz.func16,Tryz.ntmps16
  go_wp2
  go_ret
  exact ⟨by rw [hfin.out];rfl,0,rfl⟩
def zWait:List Int:=[0,2,0,0,0,0,0,0]
theorem wait_c (w:World):Calls Tryz.prog 8 #[.agg #[.int .i64 0,.int .i64 0,.bool false,.bool true,.bool false,.int .i64 0,.int .i64 0,.int .i64 0,.int .i64 0,.int .i64 0]] w fun e w'=>∃v,e=.returned v∧∃b,v=.tuple #[.slice (some ⟨b,0,none⟩) 8 8,.bool true]∧Byt w' (some ⟨b,0,none⟩) 8 zWait∧w.heap.size≤b∧b<w'.heap.size∧Below w.heap.size w w':=by
 go_enter Tryz.func8,Tryz.ntmps8
 go_wp2_with (go_at_call 22;refine (valid_c 0 0 false true false 0 0 0 0 0 _).mono ?_;rintro e w1 ⟨rfl,hb⟩;refine Bk.opn10 (Bk.keep (Bk.new _ [_,_,_,_,_,_,_,_,_,_] _) hb) ?_;intros;have HB:=lh (show Below w.heap.size w w1 from ((Below.refl _ _).alloc (Nat.le_refl _) _).trans (hb.mono (by simp)));clear hb)
 go_ret2
 exact ⟨_,rfl,_,rfl,byt_new _ zWait (by decide) _ (by rfl) 8 (by rfl) _,HB.out.size,by simp,HB.out.alloc HB.out.size _⟩
theorem below_ch {B:Nat} {w0 a b:World} {L:List Nat} (h:Below B w0 a) (hc:Ch a b L) (hL:∀k∈L,B≤k) (hB:B≤a.heap.size):Below B w0 b:=
 ⟨hc.os.trans h.os,hc.tape.trans h.tape,hc.output.trans h.output,Nat.le_trans h.size hc.size,fun i hi=>(hc.block i (by omega) (fun hm=>by have:=hL i hm;omega)).trans (h.block i hi)⟩
theorem range_kept {w w':World} {b o:Nat} {cs:List Value} (h:w.rangeAt b o cs) (hk:w'.heap[b]?=w.heap[b]?):w'.rangeAt b o cs:=by
 intro j v hj
 have:=h j v hj
 unfold World.cell? at this ⊢
 rw [hk]
 exact this
def zr16:List Int:=[0,0,0,0,0,0,0,0,0,0,0,0,0,0,0,0]
def bsW:List Int:=sPut (alP 0) (sPut (alP 0) (z0 4096) (z0 2) 96 zWait) (z0 2) 104 zWait
def putI (s:List Int×Int) (ix:List Int):List Int×Int:=(sPut (alP 0) s.1 (z0 2) s.2 (encI ix),s.2+((encI ix).length:Int))
def memN (ixs:List (List Int)) (i:Nat):List Int×Int:=(ixs.take i).foldl putI (bsW,256)
theorem memN_succ {ixs:List (List Int)} {i:Nat} (h:i<ixs.length):memN ixs (i+1)=putI (memN ixs i) ixs[i]:=by
 unfold memN
 rw [List.take_succ_eq_append_getElem h,List.foldl_append]
 rfl
theorem iencode_l (ix:List Int) (h:ix.length=12) (h0:-9223372036854775808≤ix.getD 0 0) (h1:ix.getD 0 0≤9223372036854775807) (hc:chk (ix.getD 0 0) (ix.getD 1 0) ix=0) (w:World):Calls Tryz.prog 29 #[insV ix] w fun e w'=>∃v,e=.returned v∧∃A m,v=.tuple #[.slice A m m,.int .i64 0]∧Byt w' A m (encI ix)∧m≤6∧Below w.heap.size w w':=by
 match ix,h with
 | [op,fm,r1,r2,x2,b1,d1,b2,d2,l1,l2,i2],_=>
  have:=iencode_c op fm r1 r2 x2 b1 d1 b2 d2 l1 l2 i2 w h0 h1
  have hc:chk op fm [op,fm,r1,r2,x2,b1,d1,b2,d2,l1,l2,i2]=0:=hc
  simp only [hc,if_true] at this
  refine Calls.mono this ?_
  rintro e w' ⟨A,m,he,hy,-,hm,hb⟩
  exact ⟨_,he,A,m,rfl,hy,hm,hb⟩
theorem stnew_c (w:World):Calls Tryz.prog 6 #[.int .i64 4096] w fun e w'=>∃v,e=.returned v∧∃F:Foot,v=.tuple #[.pointer (some ⟨F.g,0,none⟩),.int .i64 0]∧St 63 w' F (z0 4096) (z0 2)∧Below w.heap.size w w'∧w.heap.size≤F.g∧w.heap.size≤F.gb∧w.heap.size≤F.gk:=by
 have h:=new_yes 2 (by omega) (by omega) w
 have e:((2048*2:Nat):Int)=4096:=rfl
 rw [e] at h
 refine Calls.mono h ?_
 rintro e w' ⟨v,he,F,rfl,h⟩
 exact ⟨_,he,F,rfl,h⟩
section
variable {w0 w w':World} {g:Nat} {F:Foot} {rs os:List Int} {p q:Ps} {n:Int} {bs ks:List Int}
theorem cp_kept (h:CP w0 w g F rs p n bs ks) (e1:w'.heap[g]?=w.heap[g]?) (e2:w'.heap[F.g]?=w.heap[F.g]?) (e3:w'.heap[F.gb]?=w.heap[F.gb]?) (e4:w'.heap[F.gk]?=w.heap[F.gk]?):CP w' w' g F rs p n bs ks:=⟨h.m.kept e1,h.st.keep e2 e3 e4,Ch.refl _ _,h.rl,h.ro,h.nn⟩
theorem cput_c (h:CP w0 w g F rs p n bs ks) (addr:Int) (A:Option Addr) (len cap:Nat) (ys:List Int) (hy:Byt w A len ys) (hl:(len:Int)≤9223372036854775807):Calls Tryz.prog 9 #[.pointer (some ⟨F.g,0,none⟩),.int .i64 addr,.slice A len cap,.int .i64 0] w fun e w'=>e=.returned (.int .i64 (sCode (alP 0) bs.length ks addr len))∧CP w0 w' g F rs p n (sPut (alP 0) bs ks addr ys) ks∧Ch w w' [F.gb]:=
 (put_c w h.st addr 0 A len cap ys hy hl).mono fun e w' h'=>⟨h'.1,h.ex (os:=rs) h'.2.1 (Ch.of_grown h'.2.2),Ch.of_grown h'.2.2⟩
theorem machine_c {b k cap:Nat} {ixs:List (List Int)} (hk:ixs.length=k) (hk1:k≤100) (hb:b<w.heap.size) (hr:∀i ix,ixs[i]?=some ix→w.rangeAt b (12*i) (ix.map (Value.int .i64))) (hx:∀ix∈ixs,ix.length=12∧(-9223372036854775808≤ix.getD 0 0∧ix.getD 0 0≤9223372036854775807)∧chk (ix.getD 0 0) (ix.getD 1 0) ix=0) (hp:pok p.m p.key p.cd p.il p.cc p.pg 256=true):Calls Tryz.prog 18 #[.slice (some ⟨b,0,none⟩) k cap,.agg p.v.toArray] w fun e w'=>∃v,e=.returned v∧∃g F,v=.tuple #[.pointer (some ⟨g,0,none⟩),.pointer (some ⟨F.g,0,none⟩)]∧CP w' w' g F zr16 { p with ad:=256 } 0 (memN ixs k).1 (z0 2)∧Below w.heap.size w w'∧w.heap.size≤g∧w.heap.size≤F.gb:=by
 have HR:=lh hr
 have HX:=lh hx
 have HP:=lh hp
 have HK:=lh hk
 clear hr hx hp hk
 go_enter Tryz.func18,Tryz.ntmps18
 go_upto_region 1 with fail
 have P1:=lh (Bk.new w p.v 35)
 have L1:=lh ((Below.refl w.heap.size w).alloc (Nat.le_refl _) (.cells p.v.toArray 35))
 obtain ⟨w1,hW⟩:∃V,w.alloc (.cells p.v.toArray 35)=V:=⟨_,rfl⟩
 rw [hW] at P1 L1
 first | rw [hW] | (change wp _ _ _ w1)
 obtain ⟨g3,hg⟩:∃k,w.heap.size=k:=⟨_,rfl⟩
 rw [hg] at P1 hb L1
 try simp only [hg]
 clear hW
 have l1:=P1.out.lt
 refine wp_region_lit ?_
 refine lsce (stnew_c w1) ?_
 intro v w2 Z
 obtain ⟨F,rfl,hS,hB,f1,f2,f3⟩:=Z.out
 have P2:=lh (P1.out.keep hB)
 have L2:=lh (L1.out.trans (hB.mono (by omega)))
 have S2:=lh hS
 have m1:=hS.ltg
 have m2:=hS.ltb
 have m3:=hS.ltk
 clear Z hB hS P1 L1
 iterate 5 refine lsv (w':=w2) ?_
 refine wpList_nil ?_
 go_upto_region 4 with fail
 refine wp_region_lit ?_
 refine lsv (w':=w2) ?_
 refine lsc (cnew_c S2.out) ?_
 intro w3 Z
 have H3:=lh Z.out.1
 have P3:=lh (P2.out.keep Z.out.2)
 have L3:=lh (L2.out.trans (Z.out.2.mono (by omega)))
 have m4:=Z.out.1.m.lt
 obtain ⟨g,hgg⟩:∃k,w2.heap.size=k:=⟨_,rfl⟩
 rw [hgg] at H3 m1 m2 m3 m4
 try simp only [hgg]
 clear Z S2 P2 L2 hgg
 iterate 5 refine lsv (w':=w3) ?_
 refine wpList_nil ?_
 go_upto_region 7 with fail
 refine wp_region_lit ?_
 refine lsv (v:=.agg #[.int .i64 0,.int .i64 0,.bool false,.bool true,.bool false,.int .i64 0,.int .i64 0,.int .i64 0,.int .i64 0,.int .i64 0]) (w':=w3) ?_
 refine lsce (wait_c w3) ?_
 intro v w4 Z
 obtain ⟨c,rfl,hy,c1,c2,hB⟩:=Z.out
 have H4:=lh (H3.out.keep hB)
 have P4:=lh (P3.out.keep hB)
 have L4:=lh (L3.out.trans (hB.mono (by omega)))
 have Y4:=lh hy
 clear Z hB hy H3 P3 L3
 iterate 5 refine lsv (w':=w4) ?_
 refine wpList_nil ?_
 go_upto_region 8 with fail
 refine wp_region_lit ?_
 iterate 2 refine lsv (w':=w4) ?_
 refine lsc (cput_c H4.out 96 _ 8 8 _ Y4.out (by omega)) ?_
 intro w5 Z
 have H5:=lh Z.out.1
 have P5:=lh (P4.out.ch Z.out.2 (by simp;omega))
 have L5:=lh (below_ch L4.out Z.out.2 (by simp;omega) (by have:=L4.out.size;omega))
 have Y5:=lh (Y4.out.chg Z.out.2 c2 (by simp;omega))
 clear Z H4 P4 L4 Y4
 refine wpList_nil ?_
 go_upto_region 9 with fail
 refine wp_region_lit ?_
 iterate 2 refine lsv (w':=w5) ?_
 refine lsc (cput_c H5.out 104 _ 8 8 _ Y5.out (by omega)) ?_
 intro w6 Z
 have H6:=lh (show CP w3 w6 g F zr16 p00 0 (memN ixs 0).1 (z0 2) from Z.out.1)
 have P6:=lh (P5.out.ch Z.out.2 (by simp;omega))
 have L6:=lh (below_ch L5.out Z.out.2 (by simp;omega) (by have:=L5.out.size;omega))
 clear Z H5 P5 L5 Y5
 refine wpList_nil ?_
 go_wp2_with fail
 go_loopw [12,13] (fun x y W=>∃i:Nat,i≤k∧y=.int .i64 (i:Int)∧∃at_:Int,x=.int .i64 at_∧at_=(memN ixs i).2∧(0≤at_∧at_≤256+6*i)∧CP w3 W g F zr16 p00 0 (memN ixs i).1 (z0 2)∧Bk W g3 35 p.v∧Below g3 w W) (fun _ y _=>k - (intOf y).toNat)
 case atStart=>exact ⟨0,Nat.zero_le _,rfl,_,rfl,rfl,by omega,H6.out,P6.out,L6.out⟩
 case round=>
  clear H6 P6 L6
  obtain ⟨i,hi,rfl,at_,rfl,hat,hab,hC,hP,hL⟩:=hrel
  have H:=lh hC
  have P:=lh hP
  have L:=lh hL
  have AT:=lh hat
  clear hC hP hL hat
  by_cases hlt:i<k
  ·have k1:(i:Int)<(k:Int):=by omega
   have hil:i<ixs.length:=by rw [HK.out];exact hlt
   have hx:=HX.out _ (List.getElem_mem hil)
   have R:=lh (range_kept (HR.out i _ (List.getElem?_eq_getElem hil)) (L.out.block b hb))
   have EC:=lh (iencode_l ixs[i] hx.1 hx.2.1.1 hx.2.1.2 hx.2.2)
   have SU:=lh (memN_succ hil)
   have IL:=lh hx.1
   clear hx
   go_upto_region 14 with fail
   rename World=>w7
   refine wp_region_lit ?_
   iterate 2 refine lsv (w':=w7) ?_
   refine lsv (v:=.pointer (some ⟨b,12*i,none⟩)) (w':=w7) ?_
   refine lsm R.out ?_ (hi:=by rw [List.length_map,IL.out];kernel_rfl)
   refine lsce (EC.out _) ?_ (hx:=by go_simp;rfl)
   intro v w8 Z
   obtain ⟨A,m,rfl,hy,hm,hB⟩:=Z.out
   have H8:=lh (H.out.keep hB)
   have P8:=lh (P.out.keep hB)
   have L8:=lh (L.out.trans (hB.mono (by have:=L.out.size;omega)))
   have Y8:=lh hy
   have q8:=hB.size
   clear Z hB hy H P L
   iterate 5 refine lsv (w':=w8) ?_
   refine wpList_nil ?_
   go_upto_region 17 with fail
   refine wp_region_lit ?_
   iterate 3 refine lsv (w':=w8) ?_
   refine lsc (cput_c H8.out at_ A m m _ Y8.out (by omega)) ?_
   intro w9 Z
   have H9:=lh Z.out.1
   have P9:=lh (P8.out.ch Z.out.2 (by simp;omega))
   have L9:=lh (below_ch L8.out Z.out.2 (by simp;omega) (by have:=L8.out.size;omega))
   clear Z H8 P8 L8
   refine wpList_nil ?_
   have c1:IntKind.i64.wrap (at_+(m:Int))=at_+(m:Int):=wrap_i64_id (by omega) (by omega)
   have YL:=lh Y8.out.1
   clear Y8 R EC HR HX
   go_wp2
   go_roundw
   case rel=>exact ⟨i+1,by omega,by go_num,_,rfl,by rw [SU.out];show _=(memN ixs i).2+_;rw [YL.out,← AT.out],by omega,by rw [SU.out];show CP _ _ _ _ _ _ _ (sPut (alP 0) _ _ (memN ixs i).2 _) _;rw [← AT.out];exact H9.out,P9.out,L9.out⟩
   case measure=>simp [intOf];omega
  ·rename World=>w7
   have k1:¬((i:Int)<(k:Int)):=by omega
   obtain rfl:i=k:=by omega
   go_upto_region 19 with fail
   have e9:=fun k hk=>Below.heap_setCell w7 ⟨g3,9,none⟩ (.int .i64 256) k hk
   have P8:Hid (Bk (w7.setCell ⟨g3,9,none⟩ (.int .i64 256)) g3 35 ({ p with ad:=256 }:Ps).v):=lh (P.out.set_ 9 (.int .i64 256))
   have H8:=lh (cp_kept H.out (e9 _ (by simp;omega)) (e9 _ (by simp;omega)) (e9 _ (by simp;omega)) (e9 _ (by simp;omega)))
   have L8:=lh (below_ch L.out ((Ch.refl w7 [g3]).setCell (p:=⟨g3,9,none⟩) (by simp) (.int .i64 256)) (by simp) (by have:=L.out.size;omega))
   have P9:=P.out.cell (c:=9) rfl
   have F9:=P.out.free
   obtain ⟨w8,hW⟩:∃V,w7.setCell ⟨g3,9,none⟩ (.int .i64 256)=V:=⟨_,rfl⟩
   refine wp_region_lit ?_
   refine lsv (w':=w7) ?_
   refine lsk (w':=w7.setCell ⟨g3,9,none⟩ (.int .i64 256)) (by unfold execOp;go_simp;(try rfl)) ?_
   refine wpList_nil ?_
   rw [hW] at P8 H8 L8
   rw [hW]
   clear hW P9 F9 e9 P L
   rw [← AT.out] at *
   go_upto_region 20 with fail
   refine wp_region_lit ?_
   iterate 4 refine lsv (w':=w8) ?_
   refine lsl (cs:=({ p with ad:=256 }:Ps).v) P8.out ?_
   refine lsc (cload_c H8.out { p with ad:=256 } HP.out) ?_
   intro w9 Z
   iterate 2 refine lsv (w':=w9) ?_
   refine wpList_nil ?_
   go_wp2
   go_ret2
   exact ⟨_,rfl,g,F,rfl,Z.out.rb,below_ch L8.out Z.out.b (by simp;omega) (by have:=L8.out.size;omega),by omega,by omega⟩
end
def drC (F:Foot) (ix rs:List Int) (p:Ps):List Value:=ix.map (Value.int .i64)++(rs.map (Value.int .u32)++(p.v++[.pointer (some ⟨F.g,0,none⟩)]))
structure DR (w0 w:World) (g:Nat) (F:Foot) (ix rs:List Int) (p:Ps) (bs ks:List Int):Prop where
 m:Bk w g 132 (drC F ix rs p)
 st:St 63 w F bs ks
 b:Ch w0 w [F.gb]
 il:ix.length=12
 rl:rs.length=16
 nn:g≠F.g∧g≠F.gb∧g≠F.gk
section
variable {w0 w w':World} {g:Nat} {F:Foot} {ix rs:List Int} {p:Ps} {bs bs' ks:List Int} {op fm r1 r2 x2 b1 d1 b2 d2 l1 l2 i2:Int}
theorem DR.keep (h:DR w0 w g F ix rs p bs ks) (hb:Below w.heap.size w w'):DR w0 w' g F ix rs p bs ks:={ h with m:=h.m.keep hb,st:=h.st.belowS hb,b:=h.b.trans (Ch.of_below hb _) }
theorem DR.drew (h:DR w0 w g F ix rs p bs ks):DR w0 w.drew g F ix rs p bs ks:=h.keep (dBelow' (Below.refl _ _) 1)
theorem DR.put_ (h:DR w0 w g F ix rs p bs ks) (hs:St 63 w' F bs' ks) (hc:Ch w w' [F.gb]):DR w0 w' g F ix rs p bs' ks:={ h with m:=h.m.ch hc (by simp;exact h.nn.2.1),st:=hs,b:=h.b.trans hc }
theorem DR.rowR (h:DR w0 w g F ix rs p bs ks):w.rangeAt g 12 (rs.map (Value.int .u32)):=by
 have hm:=Bk.mid h.m
 rw [List.length_map,h.il] at hm
 exact hm
theorem DR.rowP (h:DR w0 w g F ix rs p bs ks):w.rangeAt g 28 p.v:=by
 have hm:=h.m
 unfold drC at hm
 rw [← List.append_assoc] at hm
 have hm:=Bk.mid hm
 rw [List.length_append,List.length_map,List.length_map,h.il,h.rl] at hm
 exact hm
theorem DR.c38 (h:DR w0 w g F ix rs p bs ks):w.cell? ⟨g,38,none⟩=some (.pointer (some ⟨F.g,0,none⟩)):=by
 have hm:=h.m
 unfold drC at hm
 rw [← List.append_assoc,← List.append_assoc] at hm
 have hm:Bk w g 132 ((ix.map (Value.int .i64)++rs.map (Value.int .u32)++p.v)++([.pointer (some ⟨F.g,0,none⟩)]++[])):=by rw [List.append_nil];exact hm
 have hm:=Bk.mid hm
 rw [List.length_append,List.length_append,List.length_map,List.length_map,h.il,h.rl] at hm
 exact hm 0 _ rfl
theorem DR.opn {X:Prop} (h:DR w0 w g F [op,fm,r1,r2,x2,b1,d1,b2,d2,l1,l2,i2] rs p bs ks) (hX:Hid (DR w0 w g F [op,fm,r1,r2,x2,b1,d1,b2,d2,l1,l2,i2] rs p bs ks)→w.cell? ⟨g,0,none⟩=some (.int .i64 op)→w.cell? ⟨g,2,none⟩=some (.int .i64 r1)→w.cell? ⟨g,4,none⟩=some (.int .i64 x2)→w.cell? ⟨g,5,none⟩=some (.int .i64 b1)→w.cell? ⟨g,6,none⟩=some (.int .i64 d1)→w.cell? ⟨g,7,none⟩=some (.int .i64 b2)→w.cell? ⟨g,8,none⟩=some (.int .i64 d2)→w.cell? ⟨g,9,none⟩=some (.int .i64 l1)→w.cell? ⟨g,10,none⟩=some (.int .i64 l2)→w.cell? ⟨g,13,none⟩=some (.int .u32 (rs.getD 1 0))→w.cell? ⟨g,29,none⟩=some (.int .i64 p.key)→w.cell? ⟨g,38,none⟩=some (.pointer (some ⟨F.g,0,none⟩))→(∀j,w.frozen? ⟨g,j,none⟩=false)→X):X:=by
 have c:=fun j v (hj:(drC F [op,fm,r1,r2,x2,b1,d1,b2,d2,l1,l2,i2] rs p)[j]?=some v)=>h.m.cell (c:=j) hj
 refine hX (lh h) (c 0 _ rfl) (c 2 _ rfl) (c 4 _ rfl) (c 5 _ rfl) (c 6 _ rfl) (c 7 _ rfl) (c 8 _ rfl) (c 9 _ rfl) (c 10 _ rfl) (h.rowR 1 _ ?_) (h.rowP 1 _ rfl) h.c38 (fun j=>h.m.free j)
 rw [List.getElem?_map,List.getElem?_eq_getElem (by rw [h.rl];omega),Option.map_some,List.getD_eq_getElem?_getD,List.getElem?_eq_getElem (by rw [h.rl];omega)]
 rfl
end
section
variable {P:Program} {L:List Oper} {Q:Exit→Act→World→Prop} {md:Region.Mode} {S:World→Prop} {i:Nat} {v:Value} {oi:Oper} {fuel:Nat} {listed:Array Bool} {a:Act} {w:World} {X:Prop}
theorem tkd (h:X) (hn:nxt md L listed=some i:=by with_unfolding_all rfl) (hi:L[i]?=some oi:=by rfl)
  (hw:Region.wanted oi (yielded L.toArray a.tmps)=true:=by rfl) (y:∀w,S w→(execOp a.eval oi).run P w=.ok (.value v) w:=by (intro w hSw;obtain ⟨_,hx,hy⟩:=hSw;refine DR.opn hx ?_;intros;go_simp;(try with_reducible rfl)))
  (hP:wpAnyH P md L.toArray Q S fuel (listed.setIfInBounds i true) (a.put oi.dst v) w=X:=by (simp only [Act.put,List.setIfInBounds_toArray,List.set_cons_zero,List.set_cons_succ];try rfl))
  (hs:Region.noSelect L.toArray=true:=by kernel_rfl)
  (hQ:∀c a w,Q (.panic c) (a.put oi.dst v) w→Q (.panic c) a w:=by exact fun _ _ _ h=>h) (hS:S w:=by assumption):wpAnyH P md L.toArray Q S (fuel+1) listed a w:=takeL hi hs (nxt_spec hn).1 (nxt_spec hn).2 hQ (.inl ⟨hw,y⟩) hS (hP▸h)
end
section
variable {w0 w w':World} {g:Nat} {F:Foot} {ix rs:List Int} {p:Ps} {bs bs' ks:List Int} {op fm r1 r2 x2 b1 d1 b2 d2 l1 l2 i2:Int}
theorem dcheck_c (w:World):Calls Tryz.prog 83 #[.int .i64 0] w fun e w'=>e=.returned (.tuple #[])∧w=w':=by
 go_enter Tryz.func83,Tryz.ntmps83
 go_wp2
 go_end0
 exact ⟨rfl,rfl⟩
theorem dneed_c (w:World):Calls Tryz.prog 79 #[.bool true] w fun e w'=>e=.returned (.tuple #[])∧w=w':=by
 go_enter Tryz.func79,Tryz.ntmps79
 go_wp2
 go_end0
 exact ⟨rfl,rfl⟩
end
end Go.Proofs.YtljajnaclpbecaaGreatDoor
namespace Go.Proofs.YtljajnaclpbecaaGreatDoor
set_option maxRecDepth 1000000
set_option maxHeartbeats 8000000
open Go.RowKit
set_option linter.unusedVariables false
set_option linter.unusedSimpArgs false
open Go.Lib
def dstr (u:Nat):ByteArray:=⟨(Lib.decDigits u).toArray⟩
theorem dstr_size (u:Nat):(dstr u).size=Lib.nDigits u:=by
 show (Lib.decDigits u).toArray.size=_
 rw [List.size_toArray,Lib.decDigits_length]
theorem nd_pos (u:Nat):1≤Lib.nDigits u:=by unfold Lib.nDigits;split<;>omega
theorem nd_le:∀ (n u:Nat),1≤n→u<10 ^ n→Lib.nDigits u≤n
 | 0,u,h,_=>by omega
 | n+1,u,_,h=>by
  unfold Lib.nDigits
  split
  ·omega
  ·by_cases hn:n=0
   ·subst hn;simp at h;omega
   ·have:=nd_le n (u / 10) (by omega) (by rw [Nat.pow_succ] at h;omega)
    omega
end Go.Proofs.YtljajnaclpbecaaGreatDoor
