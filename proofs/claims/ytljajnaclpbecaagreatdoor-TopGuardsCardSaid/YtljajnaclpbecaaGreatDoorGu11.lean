/- Contracts and laws on the way to the statement, text 11 of 22. Conditions: as each states them. -/
import Derived.Test.YtljajnaclpbecaaGreatDoorGu1
import Derived.Test.YtljajnaclpbecaaGreatDoorGu5
import Derived.Test.YtljajnaclpbecaaGreatDoorGu6
import Derived.Test.YtljajnaclpbecaaGreatDoorGu8
import Derived.Test.YtljajnaclpbecaaGreatDoorGu9
import Derived.Test.YtljajnaclpbecaaGreatDoorGu10
namespace Go.Proofs.YtljajnaclpbecaaGreatDoor
open Go.RowKit
set_option maxRecDepth 1000000
set_option maxHeartbeats 8000000
set_option linter.unusedVariables false
set_option linter.unusedSimpArgs false
section
variable {w0 w w':World} {g:Nat} {F:Foot} {I:In} {os rs:List Int} {p q:Ps} {ov:Bool} {bs ks:List Int}
theorem wr_ok {P:Pre} {a n cc:Int} {ys:List Int} (h:P.pc a n=0):P.wr a n ys cc=⟨0,P.os,cc,P.pg,P.ad,false,sPut (alP P.key) P.bs P.ks a ys⟩:=if_pos h
theorem wr_no {P:Pre} {a n cc:Int} {ys:List Int} (h:P.pc a n≠0):(P.wr a n ys cc).c=P.pc a n:=by unfold Pre.wr;rw [if_neg h];rfl
theorem pfull_c (h:PS w0 w g F I os rs p q ov bs ks) {u:Int} (u0:0≤u∧u≤4294967295):Calls Tryz.prog 115 #[.int .u32 u] w fun e w'=>∃v,e=.returned v∧∃b,v=.slice (some ⟨b,0,none⟩) 4 4∧Byt w' (some ⟨b,0,none⟩) 4 (fb u)∧PS w0 w' g F I os rs p q ov bs ks:=by
 refine (full_c u w u0.1 u0.2).mono ?_
 rintro e w' ⟨rfl,rfl⟩
 refine ⟨_,rfl,w.heap.size,rfl,?_,h.keep ((Below.refl _ _).alloc (Nat.le_refl _) _)⟩
 refine ⟨rfl,?_,fun _=>⟨w.heap.size,0,rfl,?_⟩⟩
 ·intro z hz
  simp only [fb,List.mem_cons,List.not_mem_nil,or_false] at hz
  rcases hz with rfl | rfl | rfl | rfl<;>omega
 ·intro i hi
  rcases (show i=0∨i=1∨i=2∨i=3 by omega) with rfl | rfl | rfl | rfl<;>go_simp<;>rfl
theorem nxu {P:Program} {f:FuncId} {args:Array Value} {zs:List Int} {Q:Ending→World→Prop} (hc:Calls P f args w fun e w'=>∃v,e=.returned v∧∃b,v=.slice (some ⟨b,0,none⟩) 4 4∧Byt w' (some ⟨b,0,none⟩) 4 zs∧PS w0 w' g F I os rs p q ov bs ks) (h:∀b w',Hid (Byt w' (some ⟨b,0,none⟩) 4 zs)→Hid (PS w0 w' g F I os rs p q ov bs ks)→Q (.returned (.slice (some ⟨b,0,none⟩) 4 4)) w'):Calls P f args w Q:=
 hc.mono fun e w' ⟨v,he,b,hv,hB,hR⟩=>by subst he;subst hv;exact h b w' (lh hB) (lh hR)
theorem pmv_80 (h:PS w0 w g F I os os p p false bs ks) (ho:I.op=80):Calls Tryz.prog 75 #[.pointer (some ⟨g,0,none⟩)] w (Gp w0 g F I os p bs ks (mvO ⟨os,p.key,p.il,p.cc,p.pg,p.ad,bs,ks⟩ I.op I.n I.k (I.a os))):=by
 have hn:=h.ix.n
 have u0:=getD_in h.ro I.n
 have A0:=I.a_in os
 have SC:=lh (fun W rs q ov bs ks (hW:PS w0 W g F I os rs p q ov bs ks)=>psec_c hW)
 have AC:=lh (fun n hn W rs q ov bs ks (hW:PS w0 W g F I os rs p q ov bs ks)=>paln_c hW n hn)
 obtain ⟨A,hA⟩:∃A,I.a os=A:=⟨_,rfl⟩
 rw [hA] at SC AC A0 ⊢
 clear hA
 obtain ⟨u,hu⟩:∃u,os.getD I.n 0=u:=⟨_,rfl⟩
 rw [hu] at u0
 have HU:=lh hu
 rw [ho]
 have HO:=lh ho
 have HE:=lh (show mvO ⟨os,p.key,p.il,p.cc,p.pg,p.ad,bs,ks⟩ 80 I.n I.k A=(if A % 4=0 then Pre.wr ⟨os,p.key,p.il,p.cc,p.pg,p.ad,bs,ks⟩ A 4 ((fb u)) p.cc else Pre.no ⟨os,p.key,p.il,p.cc,p.pg,p.ad,bs,ks⟩ 6) from by rw [← hu];rfl)
 have R0:=lh h
 clear hu ho h
 refine R0.out.opn ?_
 intros
 go_enter Tryz.func75,Tryz.ntmps75
 go_upto_region 0 with fail
 refine wp_region_held_drew (S:=Sy w0 g F I os p) (by kernel_rfl) R0.out.drew.x (fun hHeld=>?_)
 have R1:=lh R0.out.drew
 clear R0
 repeat refine tkp ?_
 refine wpAnyH_done (by kernel_rfl) ?_ _
 refine R1.out.opn ?_
 clear hHeld
 intros
 go_wp2_with (first
  | (go_at_call 114;refine nxk (AC.out _ (.inr rfl) _ _ _ _ _ _ R1.out) (fun w1 Z1 R1=>?_) (fun w1 Z1 R1=>?_))
  | (go_at_call 115;refine nxu (pfull_c R1.out u0) (fun b w1 B1 R1=>?_))
  | (go_at_call 113;refine nxk (pput_c R1.out A _ 4 _ _ B1.out (by omega)) (fun w1 Z2 R1=>?_) (fun w1 Z2 R1=>?_)))
 all_goals first
  | ((first | go_end0 | refine bodyPost_ret (results_none rfl _ _ _) rfl ?_);exact gp_ok R1.out ((HE.out.trans (if_pos Z1.out)).trans (wr_ok Z2.out)))
  | (refine ⟨rfl,gp_no R1.out ?_ Z2.out⟩;exact (congrArg Out.c (HE.out.trans (if_pos Z1.out))).trans (wr_no Z2.out))
  | (refine ⟨rfl,gp_no R1.out ?_ (by decide)⟩;exact congrArg Out.c (HE.out.trans (if_neg Z1.out)))
theorem pmv_64 (h:PS w0 w g F I os os p p false bs ks) (ho:I.op=64):Calls Tryz.prog 75 #[.pointer (some ⟨g,0,none⟩)] w (Gp w0 g F I os p bs ks (mvO ⟨os,p.key,p.il,p.cc,p.pg,p.ad,bs,ks⟩ I.op I.n I.k (I.a os))):=by
 have hn:=h.ix.n
 have u0:=getD_in h.ro I.n
 have A0:=I.a_in os
 have SC:=lh (fun W rs q ov bs ks (hW:PS w0 W g F I os rs p q ov bs ks)=>psec_c hW)
 have AC:=lh (fun n hn W rs q ov bs ks (hW:PS w0 W g F I os rs p q ov bs ks)=>paln_c hW n hn)
 obtain ⟨A,hA⟩:∃A,I.a os=A:=⟨_,rfl⟩
 rw [hA] at SC AC A0 ⊢
 clear hA
 obtain ⟨u,hu⟩:∃u,os.getD I.n 0=u:=⟨_,rfl⟩
 rw [hu] at u0
 have HU:=lh hu
 rw [ho]
 have HO:=lh ho
 have HE:=lh (show mvO ⟨os,p.key,p.il,p.cc,p.pg,p.ad,bs,ks⟩ 64 I.n I.k A=(if A % 2=0 then Pre.wr ⟨os,p.key,p.il,p.cc,p.pg,p.ad,bs,ks⟩ A 2 (((fb u).drop 2)) p.cc else Pre.no ⟨os,p.key,p.il,p.cc,p.pg,p.ad,bs,ks⟩ 6) from by rw [← hu];rfl)
 have R0:=lh h
 clear hu ho h
 refine R0.out.opn ?_
 intros
 go_enter Tryz.func75,Tryz.ntmps75
 go_upto_region 0 with fail
 refine wp_region_held_drew (S:=Sy w0 g F I os p) (by kernel_rfl) R0.out.drew.x (fun hHeld=>?_)
 have R1:=lh R0.out.drew
 clear R0
 repeat refine tkp ?_
 refine wpAnyH_done (by kernel_rfl) ?_ _
 refine R1.out.opn ?_
 clear hHeld
 intros
 go_wp2_with (first
  | (go_at_call 114;refine nxk (AC.out _ (.inl rfl) _ _ _ _ _ _ R1.out) (fun w1 Z1 R1=>?_) (fun w1 Z1 R1=>?_))
  | (go_at_call 115;refine nxu (pfull_c R1.out u0) (fun b w1 B1 R1=>?_))
  | (go_at_call 113;refine nxk (pput_c R1.out A _ 2 _ _ (byt_from B1.out (by omega) 2 rfl) (by omega)) (fun w1 Z2 R1=>?_) (fun w1 Z2 R1=>?_)))
 all_goals first
  | ((first | go_end0 | refine bodyPost_ret (results_none rfl _ _ _) rfl ?_);exact gp_ok R1.out ((HE.out.trans (if_pos Z1.out)).trans (wr_ok Z2.out)))
  | (refine ⟨rfl,gp_no R1.out ?_ Z2.out⟩;exact (congrArg Out.c (HE.out.trans (if_pos Z1.out))).trans (wr_no Z2.out))
  | (refine ⟨rfl,gp_no R1.out ?_ (by decide)⟩;exact congrArg Out.c (HE.out.trans (if_neg Z1.out)))
theorem pmv_66 (h:PS w0 w g F I os os p p false bs ks) (ho:I.op=66):Calls Tryz.prog 75 #[.pointer (some ⟨g,0,none⟩)] w (Gp w0 g F I os p bs ks (mvO ⟨os,p.key,p.il,p.cc,p.pg,p.ad,bs,ks⟩ I.op I.n I.k (I.a os))):=by
 have hn:=h.ix.n
 have u0:=getD_in h.ro I.n
 have A0:=I.a_in os
 have SC:=lh (fun W rs q ov bs ks (hW:PS w0 W g F I os rs p q ov bs ks)=>psec_c hW)
 have AC:=lh (fun n hn W rs q ov bs ks (hW:PS w0 W g F I os rs p q ov bs ks)=>paln_c hW n hn)
 obtain ⟨A,hA⟩:∃A,I.a os=A:=⟨_,rfl⟩
 rw [hA] at SC AC A0 ⊢
 clear hA
 obtain ⟨u,hu⟩:∃u,os.getD I.n 0=u:=⟨_,rfl⟩
 rw [hu] at u0
 have HU:=lh hu
 rw [ho]
 have HO:=lh ho
 have HE:=lh (show mvO ⟨os,p.key,p.il,p.cc,p.pg,p.ad,bs,ks⟩ 66 I.n I.k A=Pre.wr ⟨os,p.key,p.il,p.cc,p.pg,p.ad,bs,ks⟩ A 1 (((fb u).drop 3)) p.cc from by rw [← hu];rfl)
 have R0:=lh h
 clear hu ho h
 refine R0.out.opn ?_
 intros
 go_enter Tryz.func75,Tryz.ntmps75
 go_upto_region 0 with fail
 refine wp_region_held_drew (S:=Sy w0 g F I os p) (by kernel_rfl) R0.out.drew.x (fun hHeld=>?_)
 have R1:=lh R0.out.drew
 clear R0
 repeat refine tkp ?_
 refine wpAnyH_done (by kernel_rfl) ?_ _
 refine R1.out.opn ?_
 clear hHeld
 intros
 go_wp2_with (first
  | (go_at_call 74;refine nx (SC.out _ _ _ _ _ _ R1.out) ?_;clear R1;intro w1 R1)
  | (go_at_call 115;refine nxu (pfull_c R1.out u0) (fun b w1 B1 R1=>?_))
  | (go_at_call 113;refine nxk (pput_c R1.out A _ 1 _ _ (byt_from B1.out (by omega) 1 rfl) (by omega)) (fun w1 Z2 R1=>?_) (fun w1 Z2 R1=>?_)))
 all_goals first
  | ((first | go_end0 | refine bodyPost_ret (results_none rfl _ _ _) rfl ?_);exact gp_ok R1.out (HE.out.trans (wr_ok Z2.out)))
  | (refine ⟨rfl,gp_no R1.out ?_ Z2.out⟩;exact (congrArg Out.c HE.out).trans (wr_no Z2.out))
end
section
variable {w0 w w':World} {g:Nat} {F:Foot} {I:In} {os rs:List Int} {p q:Ps} {ov:Bool} {bs ks:List Int}
theorem byt_one (w:World) {x:Int} (x0:0≤x∧x≤255):Byt (w.alloc (.cells #[.int .u8 x] 5)) (some ⟨w.heap.size,0,none⟩) 1 [x]:=by
 refine ⟨rfl,by simpa using x0,fun _=>⟨w.heap.size,0,rfl,?_⟩⟩
 intro i hi
 obtain rfl:i=0:=by omega
 go_simp
 try rfl
theorem PS.one (h:PS w0 w g F I os rs p q ov bs ks) (o:Obj):PS w0 (w.alloc o) g F I os rs p q ov bs ks:=h.keep ((Below.refl _ _).alloc (Nat.le_refl _) _)
theorem pchg_c (h:PS w0 w g F I os rs p q ov bs ks) (a:Int) {b:Int} (b0:0≤b∧b≤255):Calls Tryz.prog 120 #[.pointer (some ⟨g,0,none⟩),.int .i64 a,.int .u8 b] w (Th (fun v w'=>v=.tuple #[]∧sCode (alP p.key) bs.length ks a (1:Nat)=0∧PS w0 w' g F I os rs p { q with cc:=if b=0 then 0 else 1 } ov (sPut (alP p.key) bs ks a [b]) ks) (sCode (alP p.key) bs.length ks a (1:Nat)) (fun w'=>sCode (alP p.key) bs.length ks a (1:Nat)≠0∧PS w0 w' g F I os rs p q ov bs ks)):=by
 have bz:(b=0∧(b != 0)=false)∨(b≠0∧(b != 0)=true):=by by_cases h:b=0<;>simp [h]
 have R0:=lh h
 clear h
 rcases bz with ⟨b1,b2⟩ | ⟨b1,b2⟩
 all_goals
  (first | rw [if_pos b1] | rw [if_neg b1])
  clear b1
  go_enter Tryz.func120,Tryz.ntmps120
  go_wp2_with (go_at_call 113;refine nxk (pput_c (R0.out.one _) a _ 1 _ [b] (byt_one _ b0) (by omega)) (fun w1 Z1 R1=>R1.out.opn ?_) (fun w1 Z1 R1=>?_)<;>intros)
  all_goals first
   | ((first | go_end0 | refine bodyPost_ret (results_none rfl _ _ _) rfl ?_);refine Th.ok ?_;first | exact ⟨rfl,Z1.out,(R1.out.setcc 0).setcc 1⟩ | exact ⟨rfl,Z1.out,R1.out.setcc 0⟩)
   | (refine ⟨rfl,Th.no rfl ?_⟩;exact ⟨Z1.out,R1.out⟩)
theorem imO_no {P:Pre} {op a i:Int} (h:op≠146) (hc:P.fc a 1≠0):imO P op a i=P.no (P.fc a 1):=by unfold imO;rw [if_neg h,if_pos hc]
theorem pim_146 (h:PS w0 w g F I os os p p false bs ks) (ho:I.op=146):Calls Tryz.prog 76 #[.pointer (some ⟨g,0,none⟩)] w (Gp w0 g F I os p bs ks (imO ⟨os,p.key,p.il,p.cc,p.pg,p.ad,bs,ks⟩ I.op (I.a1 os) I.i)):=by
 have i0:=h.ix.i
 have A0:=I.a1_in os
 have SC:=lh (fun W (hW:PS w0 W g F I os os p p false bs ks)=>pfst_c hW)
 obtain ⟨A,hA⟩:∃A,I.a1 os=A:=⟨_,rfl⟩
 rw [hA] at SC A0 ⊢
 clear hA
 have j1:IntKind.u8.wrap I.i=I.i:=by rw [IntKind.wrap_u8];omega
 have x0:=sGet_in A 1 h.st.rb 0
 obtain ⟨x,hx⟩:∃x,(sGet bs A 1).getD 0 0=x:=⟨_,rfl⟩
 rw [hx] at x0
 have HX:=lh (show (sGet bs A ((1:Nat):Int)).getD 0 0=x from hx)
 have KI:Hid (∀W rs q ov bs ks,PS w0 W g F I os rs p q ov bs ks→W.cell? ⟨g,11,none⟩=some (.int .i64 I.i)):=lh fun W rs q ov bs ks h=>h.m.ci (c:=11) (by omega)
 rw [ho]
 have HO:=lh ho
 have HE:=lh (show imO ⟨os,p.key,p.il,p.cc,p.pg,p.ad,bs,ks⟩ 146 A I.i=Pre.wr ⟨os,p.key,p.il,p.cc,p.pg,p.ad,bs,ks⟩ A 1 [I.i] p.cc from rfl)
 have R0:=lh h
 clear hx ho h
 refine R0.out.opn ?_
 intros
 go_enter Tryz.func76,Tryz.ntmps76
 go_upto_region 0 with fail
 refine wp_region_held_drew (S:=Sy w0 g F I os p) (by kernel_rfl) R0.out.drew.x (fun hHeld=>?_)
 have R1:=lh R0.out.drew
 clear R0
 repeat refine tkp ?_
 refine tkc (SC.out _ R1.out) (fun _ h=>h.x) ?_
 clear R1 hHeld
 intro w2 R1 hHeld
 repeat refine tkp ?_
 refine wpAnyH_done (by kernel_rfl) ?_ _
 refine R1.out.opn ?_
 clear hHeld
 intros
 go_wp2_with (first
  | (go_at_call 113;refine nxk (pput_c (R1.out.one _) A _ 1 _ [I.i] (byt_one _ i0) (by omega)) (fun w1 Z3 R1=>R1.out.opn ?_) (fun w1 Z3 R1=>?_)<;>intros))
 all_goals first
  | ((first | go_end0 | refine bodyPost_ret (results_none rfl _ _ _) rfl ?_);exact gp_ok R1.out (HE.out.trans (wr_ok Z3.out)))
  | (refine ⟨rfl,gp_no R1.out ?_ Z3.out⟩;exact (congrArg Out.c HE.out).trans (wr_no Z3.out))
theorem pim_149 (h:PS w0 w g F I os os p p false bs ks) (ho:I.op=149):Calls Tryz.prog 76 #[.pointer (some ⟨g,0,none⟩)] w (Gp w0 g F I os p bs ks (imO ⟨os,p.key,p.il,p.cc,p.pg,p.ad,bs,ks⟩ I.op (I.a1 os) I.i)):=by
 have i0:=h.ix.i
 have A0:=I.a1_in os
 have SC:=lh (fun W (hW:PS w0 W g F I os os p p false bs ks)=>pfst_c hW)
 obtain ⟨A,hA⟩:∃A,I.a1 os=A:=⟨_,rfl⟩
 rw [hA] at SC A0 ⊢
 clear hA
 have j1:IntKind.u8.wrap I.i=I.i:=by rw [IntKind.wrap_u8];omega
 have x0:=sGet_in A 1 h.st.rb 0
 obtain ⟨x,hx⟩:∃x,(sGet bs A 1).getD 0 0=x:=⟨_,rfl⟩
 rw [hx] at x0
 have HX:=lh (show (sGet bs A ((1:Nat):Int)).getD 0 0=x from hx)
 have KI:Hid (∀W rs q ov bs ks,PS w0 W g F I os rs p q ov bs ks→W.cell? ⟨g,11,none⟩=some (.int .i64 I.i)):=lh fun W rs q ov bs ks h=>h.m.ci (c:=11) (by omega)
 have j2:IntKind.u32.wrap x=x:=lo32_id _ (by omega) (by omega)
 have j3:IntKind.u32.wrap I.i=I.i:=lo32_id _ (by omega) (by omega)
 rw [ho]
 have HO:=lh ho
 have HE:=lh (show Pre.fc ⟨os,p.key,p.il,p.cc,p.pg,p.ad,bs,ks⟩ A 1=0→imO ⟨os,p.key,p.il,p.cc,p.pg,p.ad,bs,ks⟩ 149 A I.i=Pre.st ⟨os,p.key,p.il,p.cc,p.pg,p.ad,bs,ks⟩ os (sgn (x - I.i)) false from fun h0=>by unfold imO;rw [if_neg (by decide),if_neg (fun h=>h h0),← hx];rfl)
 have R0:=lh h
 clear hx ho h
 refine R0.out.opn ?_
 intros
 go_enter Tryz.func76,Tryz.ntmps76
 go_upto_region 0 with fail
 refine wp_region_held_drew (S:=Sy w0 g F I os p) (by kernel_rfl) R0.out.drew.x (fun hHeld=>?_)
 have R1:=lh R0.out.drew
 clear R0
 repeat refine tkp ?_
 refine tkc (SC.out _ R1.out) (fun _ h=>h.x) ?_
 clear R1 hHeld
 intro w2 R1 hHeld
 repeat refine tkp ?_
 refine wpAnyH_done (by kernel_rfl) ?_ _
 refine R1.out.opn ?_
 clear hHeld
 intros
 go_wp2_with (first
  | (go_at_call 116;refine nxh (pfet_c R1.out A 1 (by omega)) (fun b cap w1 Z2 O1 hb1 hb2 R1=>R1.out.opn ?_) (fun w1 Z2 R1=>?_)<;>intros;have cb:=byt0 O1.out.byt (by omega);rw [HX.out] at cb)
  | (go_at_call 121;refine nz (comparel_c x I.i (by omega) (by omega) (by omega) (by omega) _) ?_))
 all_goals first
  | ((first | go_end0 | refine bodyPost_ret (results_none rfl _ _ _) rfl ?_);exact gp_ok (R1.out.setcc _) ((HE.out Z2.out).trans rfl))
  | (refine ⟨rfl,gp_no R1.out ?_ Z2.out⟩;exact congrArg Out.c (imO_no (P:=⟨os,p.key,p.il,p.cc,p.pg,p.ad,bs,ks⟩) (a:=A) (by decide) Z2.out))
theorem pim_145 (h:PS w0 w g F I os os p p false bs ks) (ho:I.op=145):Calls Tryz.prog 76 #[.pointer (some ⟨g,0,none⟩)] w (Gp w0 g F I os p bs ks (imO ⟨os,p.key,p.il,p.cc,p.pg,p.ad,bs,ks⟩ I.op (I.a1 os) I.i)):=by
 have i0:=h.ix.i
 have A0:=I.a1_in os
 have SC:=lh (fun W (hW:PS w0 W g F I os os p p false bs ks)=>pfst_c hW)
 obtain ⟨A,hA⟩:∃A,I.a1 os=A:=⟨_,rfl⟩
 rw [hA] at SC A0 ⊢
 clear hA
 have j1:IntKind.u8.wrap I.i=I.i:=by rw [IntKind.wrap_u8];omega
 have x0:=sGet_in A 1 h.st.rb 0
 obtain ⟨x,hx⟩:∃x,(sGet bs A 1).getD 0 0=x:=⟨_,rfl⟩
 rw [hx] at x0
 have HX:=lh (show (sGet bs A ((1:Nat):Int)).getD 0 0=x from hx)
 have KI:Hid (∀W rs q ov bs ks,PS w0 W g F I os rs p q ov bs ks→W.cell? ⟨g,11,none⟩=some (.int .i64 I.i)):=lh fun W rs q ov bs ks h=>h.m.ci (c:=11) (by omega)
 obtain ⟨y,hy⟩:∃y,bits .and .u8 x I.i=y:=⟨_,rfl⟩
 have yz:(y=0∧(y == 0)=true)∨(y≠0∧(y == 0)=false∧y=I.i∧(y == I.i)=true)∨(y≠0∧(y == 0)=false∧y≠I.i∧(y == I.i)=false):=by by_cases h:y=0<;>by_cases h2:y=I.i<;>simp [h,h2]<;>simp_all
 rw [ho]
 have HO:=lh ho
 have HE:=lh (show Pre.fc ⟨os,p.key,p.il,p.cc,p.pg,p.ad,bs,ks⟩ A 1=0→imO ⟨os,p.key,p.il,p.cc,p.pg,p.ad,bs,ks⟩ 145 A I.i=Pre.st ⟨os,p.key,p.il,p.cc,p.pg,p.ad,bs,ks⟩ os (if y=0 then 0 else if y=I.i then 3 else 1) false from fun h0=>by unfold imO;rw [if_neg (by decide),if_neg (fun h=>h h0),← hy,← hx];rfl)
 have R0:=lh h
 clear hx ho h
 rcases yz with ⟨y0,y1⟩ | ⟨y0,y1,y2,y3⟩ | ⟨y0,y1,y2,y3⟩
 all_goals
  have Y0:=lh y0
  (try have Y1:=lh y2)
  (try clear y2)
  clear y0
  refine R0.out.opn ?_
  intros
  go_enter Tryz.func76,Tryz.ntmps76
  go_upto_region 0 with fail
  refine wp_region_held_drew (S:=Sy w0 g F I os p) (by kernel_rfl) R0.out.drew.x (fun hHeld=>?_)
  have R1:=lh R0.out.drew
  clear R0
  repeat refine tkp ?_
  refine tkc (SC.out _ R1.out) (fun _ h=>h.x) ?_
  clear R1 hHeld
  intro w2 R1 hHeld
  repeat refine tkp ?_
  refine wpAnyH_done (by kernel_rfl) ?_ _
  refine R1.out.opn ?_
  clear hHeld
  intros
  go_wp2_with (first
   | (go_at_call 116;refine nxh (pfet_c R1.out A 1 (by omega)) (fun b cap w1 Z2 O1 hb1 hb2 R1=>R1.out.opn ?_) (fun w1 Z2 R1=>?_)<;>intros;have cb:=byt0 O1.out.byt (by omega);rw [HX.out] at cb))
  all_goals first
   | ((first | go_end0 | refine bodyPost_ret (results_none rfl _ _ _) rfl ?_);first | exact gp_ok (R1.out.setcc 0) ((HE.out Z2.out).trans (by rw [if_pos Y0.out];rfl)) | exact gp_ok (R1.out.setcc 3) ((HE.out Z2.out).trans (by rw [if_neg Y0.out,if_pos Y1.out];rfl)) | exact gp_ok (R1.out.setcc 1) ((HE.out Z2.out).trans (by rw [if_neg Y0.out,if_neg Y1.out];rfl)))
   | (refine ⟨rfl,gp_no R1.out ?_ Z2.out⟩;exact congrArg Out.c (imO_no (P:=⟨os,p.key,p.il,p.cc,p.pg,p.ad,bs,ks⟩) (a:=A) (by decide) Z2.out))
theorem pim_147 (h:PS w0 w g F I os os p p false bs ks) (ho:I.op=147):Calls Tryz.prog 76 #[.pointer (some ⟨g,0,none⟩)] w (Gp w0 g F I os p bs ks (imO ⟨os,p.key,p.il,p.cc,p.pg,p.ad,bs,ks⟩ I.op (I.a1 os) I.i)):=by
 have i0:=h.ix.i
 have A0:=I.a1_in os
 have SC:=lh (fun W (hW:PS w0 W g F I os os p p false bs ks)=>pfst_c hW)
 obtain ⟨A,hA⟩:∃A,I.a1 os=A:=⟨_,rfl⟩
 rw [hA] at SC A0 ⊢
 clear hA
 have j1:IntKind.u8.wrap I.i=I.i:=by rw [IntKind.wrap_u8];omega
 have x0:=sGet_in A 1 h.st.rb 0
 obtain ⟨x,hx⟩:∃x,(sGet bs A 1).getD 0 0=x:=⟨_,rfl⟩
 rw [hx] at x0
 have HX:=lh (show (sGet bs A ((1:Nat):Int)).getD 0 0=x from hx)
 have KI:Hid (∀W rs q ov bs ks,PS w0 W g F I os rs p q ov bs ks→W.cell? ⟨g,11,none⟩=some (.int .i64 I.i)):=lh fun W rs q ov bs ks h=>h.m.ci (c:=11) (by omega)
 have j2:IntKind.i64.wrap (x / 128)=x / 128:=wrap_i64_id (by omega) (by omega)
 rw [ho]
 have HO:=lh ho
 have HE:=lh (show Pre.fc ⟨os,p.key,p.il,p.cc,p.pg,p.ad,bs,ks⟩ A 1=0→imO ⟨os,p.key,p.il,p.cc,p.pg,p.ad,bs,ks⟩ 147 A I.i=Pre.wr ⟨os,p.key,p.il,p.cc,p.pg,p.ad,bs,ks⟩ A 1 [255] (x / 128) from fun h0=>by unfold imO;rw [if_neg (by decide),if_neg (fun h=>h h0),← hx];rfl)
 have R0:=lh h
 clear hx ho h
 refine R0.out.opn ?_
 intros
 go_enter Tryz.func76,Tryz.ntmps76
 go_upto_region 0 with fail
 refine wp_region_held_drew (S:=Sy w0 g F I os p) (by kernel_rfl) R0.out.drew.x (fun hHeld=>?_)
 have R1:=lh R0.out.drew
 clear R0
 repeat refine tkp ?_
 refine tkc (SC.out _ R1.out) (fun _ h=>h.x) ?_
 clear R1 hHeld
 intro w2 R1 hHeld
 repeat refine tkp ?_
 refine wpAnyH_done (by kernel_rfl) ?_ _
 refine R1.out.opn ?_
 clear hHeld
 intros
 go_wp2_with (first
  | (go_at_call 116;refine nxh (pfet_c R1.out A 1 (by omega)) (fun b cap w1 Z2 O1 hb1 hb2 R1=>R1.out.opn ?_) (fun w1 Z2 R1=>?_)<;>intros;have cb:=byt0 O1.out.byt (by omega);rw [HX.out] at cb)
  | (go_at_call 113;refine nxk (pput_c (R1.out.one _) A _ 1 _ [255] (byt_one _ (by omega)) (by omega)) (fun w1 Z3 R1=>R1.out.opn ?_) (fun w1 Z3 R1=>?_)<;>intros))
 all_goals first
  | ((first | go_end0 | refine bodyPost_ret (results_none rfl _ _ _) rfl ?_);exact gp_ok (R1.out.setcc _) ((HE.out Z2.out).trans (wr_ok Z3.out)))
  | (refine ⟨rfl,gp_no R1.out ?_ Z3.out⟩;exact (congrArg Out.c (HE.out Z2.out)).trans (wr_no Z3.out))
  | (refine ⟨rfl,gp_no R1.out ?_ Z2.out⟩;exact congrArg Out.c (imO_no (P:=⟨os,p.key,p.il,p.cc,p.pg,p.ad,bs,ks⟩) (a:=A) (by decide) Z2.out))
theorem pim_148 (h:PS w0 w g F I os os p p false bs ks) (ho:I.op=148):Calls Tryz.prog 76 #[.pointer (some ⟨g,0,none⟩)] w (Gp w0 g F I os p bs ks (imO ⟨os,p.key,p.il,p.cc,p.pg,p.ad,bs,ks⟩ I.op (I.a1 os) I.i)):=by
 have i0:=h.ix.i
 have A0:=I.a1_in os
 have SC:=lh (fun W (hW:PS w0 W g F I os os p p false bs ks)=>pfst_c hW)
 obtain ⟨A,hA⟩:∃A,I.a1 os=A:=⟨_,rfl⟩
 rw [hA] at SC A0 ⊢
 clear hA
 have j1:IntKind.u8.wrap I.i=I.i:=by rw [IntKind.wrap_u8];omega
 have x0:=sGet_in A 1 h.st.rb 0
 obtain ⟨x,hx⟩:∃x,(sGet bs A 1).getD 0 0=x:=⟨_,rfl⟩
 rw [hx] at x0
 have HX:=lh (show (sGet bs A ((1:Nat):Int)).getD 0 0=x from hx)
 have KI:Hid (∀W rs q ov bs ks,PS w0 W g F I os rs p q ov bs ks→W.cell? ⟨g,11,none⟩=some (.int .i64 I.i)):=lh fun W rs q ov bs ks h=>h.m.ci (c:=11) (by omega)
 have y0:=cb_in 212 x I.i x0.1 x0.2 i0.1 i0.2
 obtain ⟨y,hy⟩:∃y,bits .and .u8 x I.i=y:=⟨_,rfl⟩
 have y0:0≤y∧y≤255:=hy▸y0
 rw [ho]
 have HO:=lh ho
 have HE:=lh (show Pre.fc ⟨os,p.key,p.il,p.cc,p.pg,p.ad,bs,ks⟩ A 1=0→imO ⟨os,p.key,p.il,p.cc,p.pg,p.ad,bs,ks⟩ 148 A I.i=Pre.wr ⟨os,p.key,p.il,p.cc,p.pg,p.ad,bs,ks⟩ A 1 [y] (if y=0 then 0 else 1) from fun h0=>by unfold imO;rw [if_neg (by decide),if_neg (fun h=>h h0),← hy,← hx];rfl)
 have R0:=lh h
 clear hx ho h
 refine R0.out.opn ?_
 intros
 go_enter Tryz.func76,Tryz.ntmps76
 go_upto_region 0 with fail
 refine wp_region_held_drew (S:=Sy w0 g F I os p) (by kernel_rfl) R0.out.drew.x (fun hHeld=>?_)
 have R1:=lh R0.out.drew
 clear R0
 repeat refine tkp ?_
 refine tkc (SC.out _ R1.out) (fun _ h=>h.x) ?_
 clear R1 hHeld
 intro w2 R1 hHeld
 repeat refine tkp ?_
 refine wpAnyH_done (by kernel_rfl) ?_ _
 refine R1.out.opn ?_
 clear hHeld
 intros
 go_wp2_with (first
  | (go_at_call 116;refine nxh (pfet_c R1.out A 1 (by omega)) (fun b cap w1 Z2 O1 hb1 hb2 R1=>R1.out.opn ?_) (fun w1 Z2 R1=>?_)<;>intros;have cb:=byt0 O1.out.byt (by omega);rw [HX.out] at cb)
  | (go_at_call 120;refine nxk (pchg_c R1.out A y0) (fun w1 Z3 R1=>?_) (fun w1 Z3 R1=>?_)))
 all_goals first
  | ((first | go_end0 | refine bodyPost_ret (results_none rfl _ _ _) rfl ?_);exact gp_ok R1.out ((HE.out Z2.out).trans (wr_ok Z3.out)))
  | (refine ⟨rfl,gp_no R1.out ?_ Z3.out⟩;exact (congrArg Out.c (HE.out Z2.out)).trans (wr_no Z3.out))
  | (refine ⟨rfl,gp_no R1.out ?_ Z2.out⟩;exact congrArg Out.c (imO_no (P:=⟨os,p.key,p.il,p.cc,p.pg,p.ad,bs,ks⟩) (a:=A) (by decide) Z2.out))
theorem pim_150 (h:PS w0 w g F I os os p p false bs ks) (ho:I.op=150):Calls Tryz.prog 76 #[.pointer (some ⟨g,0,none⟩)] w (Gp w0 g F I os p bs ks (imO ⟨os,p.key,p.il,p.cc,p.pg,p.ad,bs,ks⟩ I.op (I.a1 os) I.i)):=by
 have i0:=h.ix.i
 have A0:=I.a1_in os
 have SC:=lh (fun W (hW:PS w0 W g F I os os p p false bs ks)=>pfst_c hW)
 obtain ⟨A,hA⟩:∃A,I.a1 os=A:=⟨_,rfl⟩
 rw [hA] at SC A0 ⊢
 clear hA
 have j1:IntKind.u8.wrap I.i=I.i:=by rw [IntKind.wrap_u8];omega
 have x0:=sGet_in A 1 h.st.rb 0
 obtain ⟨x,hx⟩:∃x,(sGet bs A 1).getD 0 0=x:=⟨_,rfl⟩
 rw [hx] at x0
 have HX:=lh (show (sGet bs A ((1:Nat):Int)).getD 0 0=x from hx)
 have KI:Hid (∀W rs q ov bs ks,PS w0 W g F I os rs p q ov bs ks→W.cell? ⟨g,11,none⟩=some (.int .i64 I.i)):=lh fun W rs q ov bs ks h=>h.m.ci (c:=11) (by omega)
 have y0:=cb_in 214 x I.i x0.1 x0.2 i0.1 i0.2
 obtain ⟨y,hy⟩:∃y,bits .or .u8 x I.i=y:=⟨_,rfl⟩
 have y0:0≤y∧y≤255:=hy▸y0
 rw [ho]
 have HO:=lh ho
 have HE:=lh (show Pre.fc ⟨os,p.key,p.il,p.cc,p.pg,p.ad,bs,ks⟩ A 1=0→imO ⟨os,p.key,p.il,p.cc,p.pg,p.ad,bs,ks⟩ 150 A I.i=Pre.wr ⟨os,p.key,p.il,p.cc,p.pg,p.ad,bs,ks⟩ A 1 [y] (if y=0 then 0 else 1) from fun h0=>by unfold imO;rw [if_neg (by decide),if_neg (fun h=>h h0),← hy,← hx];rfl)
 have R0:=lh h
 clear hx ho h
 refine R0.out.opn ?_
 intros
 go_enter Tryz.func76,Tryz.ntmps76
 go_upto_region 0 with fail
 refine wp_region_held_drew (S:=Sy w0 g F I os p) (by kernel_rfl) R0.out.drew.x (fun hHeld=>?_)
 have R1:=lh R0.out.drew
 clear R0
 repeat refine tkp ?_
 refine tkc (SC.out _ R1.out) (fun _ h=>h.x) ?_
 clear R1 hHeld
 intro w2 R1 hHeld
 repeat refine tkp ?_
 refine wpAnyH_done (by kernel_rfl) ?_ _
 refine R1.out.opn ?_
 clear hHeld
 intros
 go_wp2_with (first
  | (go_at_call 116;refine nxh (pfet_c R1.out A 1 (by omega)) (fun b cap w1 Z2 O1 hb1 hb2 R1=>R1.out.opn ?_) (fun w1 Z2 R1=>?_)<;>intros;have cb:=byt0 O1.out.byt (by omega);rw [HX.out] at cb)
  | (go_at_call 120;refine nxk (pchg_c R1.out A y0) (fun w1 Z3 R1=>?_) (fun w1 Z3 R1=>?_)))
 all_goals first
  | ((first | go_end0 | refine bodyPost_ret (results_none rfl _ _ _) rfl ?_);exact gp_ok R1.out ((HE.out Z2.out).trans (wr_ok Z3.out)))
  | (refine ⟨rfl,gp_no R1.out ?_ Z3.out⟩;exact (congrArg Out.c (HE.out Z2.out)).trans (wr_no Z3.out))
  | (refine ⟨rfl,gp_no R1.out ?_ Z2.out⟩;exact congrArg Out.c (imO_no (P:=⟨os,p.key,p.il,p.cc,p.pg,p.ad,bs,ks⟩) (a:=A) (by decide) Z2.out))
theorem pim_151 (h:PS w0 w g F I os os p p false bs ks) (ho:I.op=151):Calls Tryz.prog 76 #[.pointer (some ⟨g,0,none⟩)] w (Gp w0 g F I os p bs ks (imO ⟨os,p.key,p.il,p.cc,p.pg,p.ad,bs,ks⟩ I.op (I.a1 os) I.i)):=by
 have i0:=h.ix.i
 have A0:=I.a1_in os
 have SC:=lh (fun W (hW:PS w0 W g F I os os p p false bs ks)=>pfst_c hW)
 obtain ⟨A,hA⟩:∃A,I.a1 os=A:=⟨_,rfl⟩
 rw [hA] at SC A0 ⊢
 clear hA
 have j1:IntKind.u8.wrap I.i=I.i:=by rw [IntKind.wrap_u8];omega
 have x0:=sGet_in A 1 h.st.rb 0
 obtain ⟨x,hx⟩:∃x,(sGet bs A 1).getD 0 0=x:=⟨_,rfl⟩
 rw [hx] at x0
 have HX:=lh (show (sGet bs A ((1:Nat):Int)).getD 0 0=x from hx)
 have KI:Hid (∀W rs q ov bs ks,PS w0 W g F I os rs p q ov bs ks→W.cell? ⟨g,11,none⟩=some (.int .i64 I.i)):=lh fun W rs q ov bs ks h=>h.m.ci (c:=11) (by omega)
 have y0:=cb_in 215 x I.i x0.1 x0.2 i0.1 i0.2
 obtain ⟨y,hy⟩:∃y,bits .xor .u8 x I.i=y:=⟨_,rfl⟩
 have y0:0≤y∧y≤255:=hy▸y0
 rw [ho]
 have HO:=lh ho
 have HE:=lh (show Pre.fc ⟨os,p.key,p.il,p.cc,p.pg,p.ad,bs,ks⟩ A 1=0→imO ⟨os,p.key,p.il,p.cc,p.pg,p.ad,bs,ks⟩ 151 A I.i=Pre.wr ⟨os,p.key,p.il,p.cc,p.pg,p.ad,bs,ks⟩ A 1 [y] (if y=0 then 0 else 1) from fun h0=>by unfold imO;rw [if_neg (by decide),if_neg (fun h=>h h0),← hy,← hx];rfl)
 have R0:=lh h
 clear hx ho h
 refine R0.out.opn ?_
 intros
 go_enter Tryz.func76,Tryz.ntmps76
 go_upto_region 0 with fail
 refine wp_region_held_drew (S:=Sy w0 g F I os p) (by kernel_rfl) R0.out.drew.x (fun hHeld=>?_)
 have R1:=lh R0.out.drew
 clear R0
 repeat refine tkp ?_
 refine tkc (SC.out _ R1.out) (fun _ h=>h.x) ?_
 clear R1 hHeld
 intro w2 R1 hHeld
 repeat refine tkp ?_
 refine wpAnyH_done (by kernel_rfl) ?_ _
 refine R1.out.opn ?_
 clear hHeld
 intros
 go_wp2_with (first
  | (go_at_call 116;refine nxh (pfet_c R1.out A 1 (by omega)) (fun b cap w1 Z2 O1 hb1 hb2 R1=>R1.out.opn ?_) (fun w1 Z2 R1=>?_)<;>intros;have cb:=byt0 O1.out.byt (by omega);rw [HX.out] at cb)
  | (go_at_call 120;refine nxk (pchg_c R1.out A y0) (fun w1 Z3 R1=>?_) (fun w1 Z3 R1=>?_)))
 all_goals first
  | ((first | go_end0 | refine bodyPost_ret (results_none rfl _ _ _) rfl ?_);exact gp_ok R1.out ((HE.out Z2.out).trans (wr_ok Z3.out)))
  | (refine ⟨rfl,gp_no R1.out ?_ Z3.out⟩;exact (congrArg Out.c (HE.out Z2.out)).trans (wr_no Z3.out))
  | (refine ⟨rfl,gp_no R1.out ?_ Z2.out⟩;exact congrArg Out.c (imO_no (P:=⟨os,p.key,p.il,p.cc,p.pg,p.ad,bs,ks⟩) (a:=A) (by decide) Z2.out))
end
section
variable {w0 w w':World} {g:Nat} {F:Foot} {I:In} {os rs:List Int} {p q:Ps} {ov:Bool} {bs ks:List Int}
theorem par_26 (h:PS w0 w g F I os os p p false bs ks) (ho:(I.op=26∨I.op=90∨I.op=74)):Calls Tryz.prog 78 #[.pointer (some ⟨g,0,none⟩)] w (Gp w0 g F I os p bs ks (arO ⟨os,p.key,p.il,p.cc,p.pg,p.ad,bs,ks⟩ I.op I.n (opC I.op I.fm bs ks p.key (I.a os)) (opV I.op I.fm os I.k bs (I.a os)))):=by
 have u0:=getD_in h.ro I.n
 have V0:=opV_in (op:=I.op) (fm:=I.fm) (a:=I.a os) (k:=I.k) h.ro h.st.rb
 have PO:=lh (fun W (hW:PS w0 W g F I os os p p false bs ks)=>popd_c hW)
 obtain ⟨u,hu⟩:∃u,os.getD I.n 0=u:=⟨_,rfl⟩
 obtain ⟨V,hV⟩:∃V,opV I.op I.fm os I.k bs (I.a os)=V:=⟨_,rfl⟩
 obtain ⟨C,hC⟩:∃C,opC I.op I.fm bs ks p.key (I.a os)=C:=⟨_,rfl⟩
 rw [hu] at u0
 rw [hV] at V0
 rw [hV,hC] at PO ⊢
 clear hV hC
 rcases ho with ho | ho | ho
 all_goals
  rw [ho]
  have HU:=lh hu
  have HO:=lh ho
  have R0:=lh h
  have hn:=h.ix.n
  clear hu ho h
  refine R0.out.opn ?_
  intros
  go_enter Tryz.func78,Tryz.ntmps78
  go_upto_region 6 with fail
  refine wp_region_held_drew (S:=Sy w0 g F I os p) (by kernel_rfl) R0.out.drew.x (fun hHeld=>?_)
  replace R0:=lh R0.out.drew
  repeat refine tkp ?_
  refine tkq (PO.out _ R0.out) (fun _ _ h=>h.2.2.x) ?_ ?_
  rotate_left
  ·intro w1 B1
   go_wp2
   exact ⟨rfl,gp_no B1.out.2 (congrArg Out.c (arO_no (by decide) B1.out.1)) B1.out.1⟩
  intro v w1 A1 hHeld
  obtain ⟨rfl,rfl,hR⟩:=A1.out
  have R1:=lh hR
  clear A1 hR R0 PO
  repeat refine tkp ?_
  refine wpAnyH_done (by kernel_rfl) ?_ _
  refine R1.out.opn ?_
  clear hHeld
  intros
  go_wp2_with (first
   | (go_at_call 135;refine nz (add_c u V u0.1 u0.2 V0.1 V0.2 _) ?_)
   | (go_at_call 106;refine nx (pset_c R1.out _ _ _) ?_;intro w1 R1))
  first | go_end0 | refine bodyPost_ret (results_none rfl _ _ _) rfl ?_
  exact gp_ok R1.out (by rw [← HU.out];rfl)
theorem par_27 (h:PS w0 w g F I os os p p false bs ks) (ho:(I.op=27∨I.op=91∨I.op=75)):Calls Tryz.prog 78 #[.pointer (some ⟨g,0,none⟩)] w (Gp w0 g F I os p bs ks (arO ⟨os,p.key,p.il,p.cc,p.pg,p.ad,bs,ks⟩ I.op I.n (opC I.op I.fm bs ks p.key (I.a os)) (opV I.op I.fm os I.k bs (I.a os)))):=by
 have u0:=getD_in h.ro I.n
 have V0:=opV_in (op:=I.op) (fm:=I.fm) (a:=I.a os) (k:=I.k) h.ro h.st.rb
 have PO:=lh (fun W (hW:PS w0 W g F I os os p p false bs ks)=>popd_c hW)
 obtain ⟨u,hu⟩:∃u,os.getD I.n 0=u:=⟨_,rfl⟩
 obtain ⟨V,hV⟩:∃V,opV I.op I.fm os I.k bs (I.a os)=V:=⟨_,rfl⟩
 obtain ⟨C,hC⟩:∃C,opC I.op I.fm bs ks p.key (I.a os)=C:=⟨_,rfl⟩
 rw [hu] at u0
 rw [hV] at V0
 rw [hV,hC] at PO ⊢
 clear hV hC
 rcases ho with ho | ho | ho
 all_goals
  rw [ho]
  have HU:=lh hu
  have HO:=lh ho
  have R0:=lh h
  have hn:=h.ix.n
  clear hu ho h
  refine R0.out.opn ?_
  intros
  go_enter Tryz.func78,Tryz.ntmps78
  go_upto_region 6 with fail
  refine wp_region_held_drew (S:=Sy w0 g F I os p) (by kernel_rfl) R0.out.drew.x (fun hHeld=>?_)
  replace R0:=lh R0.out.drew
  repeat refine tkp ?_
  refine tkq (PO.out _ R0.out) (fun _ _ h=>h.2.2.x) ?_ ?_
  rotate_left
  ·intro w1 B1
   go_wp2
   exact ⟨rfl,gp_no B1.out.2 (congrArg Out.c (arO_no (by decide) B1.out.1)) B1.out.1⟩
  intro v w1 A1 hHeld
  obtain ⟨rfl,rfl,hR⟩:=A1.out
  have R1:=lh hR
  clear A1 hR R0 PO
  repeat refine tkp ?_
  refine wpAnyH_done (by kernel_rfl) ?_ _
  refine R1.out.opn ?_
  clear hHeld
  intros
  go_wp2_with (first
   | (go_at_call 136;refine nz (sub_c u V u0.1 u0.2 V0.1 V0.2 _) ?_)
   | (go_at_call 106;refine nx (pset_c R1.out _ _ _) ?_;intro w1 R1))
  first | go_end0 | refine bodyPost_ret (results_none rfl _ _ _) rfl ?_
  exact gp_ok R1.out (by rw [← HU.out];rfl)
theorem par_30 (h:PS w0 w g F I os os p p false bs ks) (ho:(I.op=30∨I.op=94)):Calls Tryz.prog 78 #[.pointer (some ⟨g,0,none⟩)] w (Gp w0 g F I os p bs ks (arO ⟨os,p.key,p.il,p.cc,p.pg,p.ad,bs,ks⟩ I.op I.n (opC I.op I.fm bs ks p.key (I.a os)) (opV I.op I.fm os I.k bs (I.a os)))):=by
 have u0:=getD_in h.ro I.n
 have V0:=opV_in (op:=I.op) (fm:=I.fm) (a:=I.a os) (k:=I.k) h.ro h.st.rb
 have PO:=lh (fun W (hW:PS w0 W g F I os os p p false bs ks)=>popd_c hW)
 obtain ⟨u,hu⟩:∃u,os.getD I.n 0=u:=⟨_,rfl⟩
 obtain ⟨V,hV⟩:∃V,opV I.op I.fm os I.k bs (I.a os)=V:=⟨_,rfl⟩
 obtain ⟨C,hC⟩:∃C,opC I.op I.fm bs ks p.key (I.a os)=C:=⟨_,rfl⟩
 rw [hu] at u0
 rw [hV] at V0
 rw [hV,hC] at PO ⊢
 clear hV hC
 rcases ho with ho | ho
 all_goals
  rw [ho]
  have HU:=lh hu
  have HO:=lh ho
  have R0:=lh h
  have hn:=h.ix.n
  clear hu ho h
  refine R0.out.opn ?_
  intros
  go_enter Tryz.func78,Tryz.ntmps78
  go_upto_region 6 with fail
  refine wp_region_held_drew (S:=Sy w0 g F I os p) (by kernel_rfl) R0.out.drew.x (fun hHeld=>?_)
  replace R0:=lh R0.out.drew
  repeat refine tkp ?_
  refine tkq (PO.out _ R0.out) (fun _ _ h=>h.2.2.x) ?_ ?_
  rotate_left
  ·intro w1 B1
   go_wp2
   exact ⟨rfl,gp_no B1.out.2 (congrArg Out.c (arO_no (by decide) B1.out.1)) B1.out.1⟩
  intro v w1 A1 hHeld
  obtain ⟨rfl,rfl,hR⟩:=A1.out
  have R1:=lh hR
  clear A1 hR R0 PO
  repeat refine tkp ?_
  refine wpAnyH_done (by kernel_rfl) ?_ _
  refine R1.out.opn ?_
  clear hHeld
  intros
  go_upto_region 27 with fail
  refine wp_region_held_drew (S:=Sy w0 g F I os p) (by kernel_rfl) R1.out.drew.x (fun hHeld=>?_)
  replace R1:=lh R1.out.drew
  repeat refine tkp ?_
  refine tkz (addl_c u V u0.1 u0.2 V0.1 V0.2 _) ?_
  repeat refine tkp ?_
  refine tpr R1.out hn ?_
  clear R1 hHeld
  intro w2 R1 hHeld
  repeat refine tkp ?_
  refine tpc R1.out ?_
  clear R1 hHeld
  intro w3 R1 hHeld
  refine wpAnyH_done (by with_unfolding_all rfl) ?_ _
  clear hHeld
  go_wp2
  first | go_end0 | refine bodyPost_ret (results_none rfl _ _ _) rfl ?_
  exact gp_ok R1.out (by rw [← HU.out];rfl)
theorem par_31 (h:PS w0 w g F I os os p p false bs ks) (ho:(I.op=31∨I.op=95)):Calls Tryz.prog 78 #[.pointer (some ⟨g,0,none⟩)] w (Gp w0 g F I os p bs ks (arO ⟨os,p.key,p.il,p.cc,p.pg,p.ad,bs,ks⟩ I.op I.n (opC I.op I.fm bs ks p.key (I.a os)) (opV I.op I.fm os I.k bs (I.a os)))):=by
 have u0:=getD_in h.ro I.n
 have V0:=opV_in (op:=I.op) (fm:=I.fm) (a:=I.a os) (k:=I.k) h.ro h.st.rb
 have PO:=lh (fun W (hW:PS w0 W g F I os os p p false bs ks)=>popd_c hW)
 obtain ⟨u,hu⟩:∃u,os.getD I.n 0=u:=⟨_,rfl⟩
 obtain ⟨V,hV⟩:∃V,opV I.op I.fm os I.k bs (I.a os)=V:=⟨_,rfl⟩
 obtain ⟨C,hC⟩:∃C,opC I.op I.fm bs ks p.key (I.a os)=C:=⟨_,rfl⟩
 rw [hu] at u0
 rw [hV] at V0
 rw [hV,hC] at PO ⊢
 clear hV hC
 rcases ho with ho | ho
 all_goals
  rw [ho]
  have HU:=lh hu
  have HO:=lh ho
  have R0:=lh h
  have hn:=h.ix.n
  clear hu ho h
  refine R0.out.opn ?_
  intros
  go_enter Tryz.func78,Tryz.ntmps78
  go_upto_region 6 with fail
  refine wp_region_held_drew (S:=Sy w0 g F I os p) (by kernel_rfl) R0.out.drew.x (fun hHeld=>?_)
  replace R0:=lh R0.out.drew
  repeat refine tkp ?_
  refine tkq (PO.out _ R0.out) (fun _ _ h=>h.2.2.x) ?_ ?_
  rotate_left
  ·intro w1 B1
   go_wp2
   exact ⟨rfl,gp_no B1.out.2 (congrArg Out.c (arO_no (by decide) B1.out.1)) B1.out.1⟩
  intro v w1 A1 hHeld
  obtain ⟨rfl,rfl,hR⟩:=A1.out
  have R1:=lh hR
  clear A1 hR R0 PO
  repeat refine tkp ?_
  refine wpAnyH_done (by kernel_rfl) ?_ _
  refine R1.out.opn ?_
  clear hHeld
  intros
  go_upto_region 30 with fail
  refine wp_region_held_drew (S:=Sy w0 g F I os p) (by kernel_rfl) R1.out.drew.x (fun hHeld=>?_)
  replace R1:=lh R1.out.drew
  repeat refine tkp ?_
  refine tkz (subl_c u V u0.1 u0.2 V0.1 V0.2 _) ?_
  repeat refine tkp ?_
  refine tpr R1.out hn ?_
  clear R1 hHeld
  intro w2 R1 hHeld
  repeat refine tkp ?_
  refine tpc R1.out ?_
  clear R1 hHeld
  intro w3 R1 hHeld
  refine wpAnyH_done (by with_unfolding_all rfl) ?_ _
  clear hHeld
  go_wp2
  first | go_end0 | refine bodyPost_ret (results_none rfl _ _ _) rfl ?_
  exact gp_ok R1.out (by rw [← HU.out];rfl)
theorem par_25 (h:PS w0 w g F I os os p p false bs ks) (ho:(I.op=25∨I.op=89∨I.op=73)):Calls Tryz.prog 78 #[.pointer (some ⟨g,0,none⟩)] w (Gp w0 g F I os p bs ks (arO ⟨os,p.key,p.il,p.cc,p.pg,p.ad,bs,ks⟩ I.op I.n (opC I.op I.fm bs ks p.key (I.a os)) (opV I.op I.fm os I.k bs (I.a os)))):=by
 have u0:=getD_in h.ro I.n
 have V0:=opV_in (op:=I.op) (fm:=I.fm) (a:=I.a os) (k:=I.k) h.ro h.st.rb
 have PO:=lh (fun W (hW:PS w0 W g F I os os p p false bs ks)=>popd_c hW)
 obtain ⟨u,hu⟩:∃u,os.getD I.n 0=u:=⟨_,rfl⟩
 obtain ⟨V,hV⟩:∃V,opV I.op I.fm os I.k bs (I.a os)=V:=⟨_,rfl⟩
 obtain ⟨C,hC⟩:∃C,opC I.op I.fm bs ks p.key (I.a os)=C:=⟨_,rfl⟩
 rw [hu] at u0
 rw [hV] at V0
 rw [hV,hC] at PO ⊢
 clear hV hC
 rcases ho with ho | ho | ho
 all_goals
  rw [ho]
  have HU:=lh hu
  have HO:=lh ho
  have R0:=lh h
  have hn:=h.ix.n
  clear hu ho h
  refine R0.out.opn ?_
  intros
  go_enter Tryz.func78,Tryz.ntmps78
  go_upto_region 6 with fail
  refine wp_region_held_drew (S:=Sy w0 g F I os p) (by kernel_rfl) R0.out.drew.x (fun hHeld=>?_)
  replace R0:=lh R0.out.drew
  repeat refine tkp ?_
  refine tkq (PO.out _ R0.out) (fun _ _ h=>h.2.2.x) ?_ ?_
  rotate_left
  ·intro w1 B1
   go_wp2
   exact ⟨rfl,gp_no B1.out.2 (congrArg Out.c (arO_no (by decide) B1.out.1)) B1.out.1⟩
  intro v w1 A1 hHeld
  obtain ⟨rfl,rfl,hR⟩:=A1.out
  have R1:=lh hR
  clear A1 hR R0 PO
  repeat refine tkp ?_
  refine wpAnyH_done (by kernel_rfl) ?_ _
  refine R1.out.opn ?_
  clear hHeld
  intros
  go_wp2_with (first
   | (go_at_call 103;refine nz (compare_c u V u0.1 u0.2 V0.1 V0.2 _) ?_))
  first | go_end0 | refine bodyPost_ret (results_none rfl _ _ _) rfl ?_
  exact gp_ok (R1.out.setcc _) (by rw [← HU.out];rfl)
theorem par_21 (h:PS w0 w g F I os os p p false bs ks) (ho:(I.op=21∨I.op=85)):Calls Tryz.prog 78 #[.pointer (some ⟨g,0,none⟩)] w (Gp w0 g F I os p bs ks (arO ⟨os,p.key,p.il,p.cc,p.pg,p.ad,bs,ks⟩ I.op I.n (opC I.op I.fm bs ks p.key (I.a os)) (opV I.op I.fm os I.k bs (I.a os)))):=by
 have u0:=getD_in h.ro I.n
 have V0:=opV_in (op:=I.op) (fm:=I.fm) (a:=I.a os) (k:=I.k) h.ro h.st.rb
 have PO:=lh (fun W (hW:PS w0 W g F I os os p p false bs ks)=>popd_c hW)
 obtain ⟨u,hu⟩:∃u,os.getD I.n 0=u:=⟨_,rfl⟩
 obtain ⟨V,hV⟩:∃V,opV I.op I.fm os I.k bs (I.a os)=V:=⟨_,rfl⟩
 obtain ⟨C,hC⟩:∃C,opC I.op I.fm bs ks p.key (I.a os)=C:=⟨_,rfl⟩
 rw [hu] at u0
 rw [hV] at V0
 rw [hV,hC] at PO ⊢
 clear hV hC
 rcases ho with ho | ho
 all_goals
  rw [ho]
  have HU:=lh hu
  have HO:=lh ho
  have R0:=lh h
  have hn:=h.ix.n
  clear hu ho h
  refine R0.out.opn ?_
  intros
  go_enter Tryz.func78,Tryz.ntmps78
  go_upto_region 6 with fail
  refine wp_region_held_drew (S:=Sy w0 g F I os p) (by kernel_rfl) R0.out.drew.x (fun hHeld=>?_)
  replace R0:=lh R0.out.drew
  repeat refine tkp ?_
  refine tkq (PO.out _ R0.out) (fun _ _ h=>h.2.2.x) ?_ ?_
  rotate_left
  ·intro w1 B1
   go_wp2
   exact ⟨rfl,gp_no B1.out.2 (congrArg Out.c (arO_no (by decide) B1.out.1)) B1.out.1⟩
  intro v w1 A1 hHeld
  obtain ⟨rfl,rfl,hR⟩:=A1.out
  have R1:=lh hR
  clear A1 hR R0 PO
  repeat refine tkp ?_
  refine wpAnyH_done (by kernel_rfl) ?_ _
  refine R1.out.opn ?_
  clear hHeld
  intros
  go_wp2_with (first
   | (go_at_call 121;refine nz (comparel_c u V u0.1 u0.2 V0.1 V0.2 _) ?_))
  first | go_end0 | refine bodyPost_ret (results_none rfl _ _ _) rfl ?_
  exact gp_ok (R1.out.setcc _) (by rw [← HU.out];rfl)
theorem par_20 (h:PS w0 w g F I os os p p false bs ks) (ho:(I.op=20∨I.op=84)):Calls Tryz.prog 78 #[.pointer (some ⟨g,0,none⟩)] w (Gp w0 g F I os p bs ks (arO ⟨os,p.key,p.il,p.cc,p.pg,p.ad,bs,ks⟩ I.op I.n (opC I.op I.fm bs ks p.key (I.a os)) (opV I.op I.fm os I.k bs (I.a os)))):=by
 have u0:=getD_in h.ro I.n
 have V0:=opV_in (op:=I.op) (fm:=I.fm) (a:=I.a os) (k:=I.k) h.ro h.st.rb
 have PO:=lh (fun W (hW:PS w0 W g F I os os p p false bs ks)=>popd_c hW)
 obtain ⟨u,hu⟩:∃u,os.getD I.n 0=u:=⟨_,rfl⟩
 obtain ⟨V,hV⟩:∃V,opV I.op I.fm os I.k bs (I.a os)=V:=⟨_,rfl⟩
 obtain ⟨C,hC⟩:∃C,opC I.op I.fm bs ks p.key (I.a os)=C:=⟨_,rfl⟩
 rw [hu] at u0
 rw [hV] at V0
 rw [hV,hC] at PO ⊢
 clear hV hC
 rcases ho with ho | ho
 all_goals
  rw [ho]
  have HU:=lh hu
  have HO:=lh ho
  have R0:=lh h
  have hn:=h.ix.n
  clear hu ho h
  refine R0.out.opn ?_
  intros
  go_enter Tryz.func78,Tryz.ntmps78
  go_upto_region 6 with fail
  refine wp_region_held_drew (S:=Sy w0 g F I os p) (by kernel_rfl) R0.out.drew.x (fun hHeld=>?_)
  replace R0:=lh R0.out.drew
  repeat refine tkp ?_
  refine tkq (PO.out _ R0.out) (fun _ _ h=>h.2.2.x) ?_ ?_
  rotate_left
  ·intro w1 B1
   go_wp2
   exact ⟨rfl,gp_no B1.out.2 (congrArg Out.c (arO_no (by decide) B1.out.1)) B1.out.1⟩
  intro v w1 A1 hHeld
  obtain ⟨rfl,rfl,hR⟩:=A1.out
  have R1:=lh hR
  clear A1 hR R0 PO
  repeat refine tkp ?_
  refine wpAnyH_done (by kernel_rfl) ?_ _
  refine R1.out.opn ?_
  clear hHeld
  intros
  go_wp2_with (first
   | (go_at_call 139;refine nx (pbits_c R1.out _) ?_;intro w1 R1))
  first | go_end0 | refine bodyPost_ret (results_none rfl _ _ _) rfl ?_
  exact gp_ok R1.out (by rw [← HU.out];rfl)
theorem par_22 (h:PS w0 w g F I os os p p false bs ks) (ho:(I.op=22∨I.op=86)):Calls Tryz.prog 78 #[.pointer (some ⟨g,0,none⟩)] w (Gp w0 g F I os p bs ks (arO ⟨os,p.key,p.il,p.cc,p.pg,p.ad,bs,ks⟩ I.op I.n (opC I.op I.fm bs ks p.key (I.a os)) (opV I.op I.fm os I.k bs (I.a os)))):=by
 have u0:=getD_in h.ro I.n
 have V0:=opV_in (op:=I.op) (fm:=I.fm) (a:=I.a os) (k:=I.k) h.ro h.st.rb
 have PO:=lh (fun W (hW:PS w0 W g F I os os p p false bs ks)=>popd_c hW)
 obtain ⟨u,hu⟩:∃u,os.getD I.n 0=u:=⟨_,rfl⟩
 obtain ⟨V,hV⟩:∃V,opV I.op I.fm os I.k bs (I.a os)=V:=⟨_,rfl⟩
 obtain ⟨C,hC⟩:∃C,opC I.op I.fm bs ks p.key (I.a os)=C:=⟨_,rfl⟩
 rw [hu] at u0
 rw [hV] at V0
 rw [hV,hC] at PO ⊢
 clear hV hC
 rcases ho with ho | ho
 all_goals
  rw [ho]
  have HU:=lh hu
  have HO:=lh ho
  have R0:=lh h
  have hn:=h.ix.n
  clear hu ho h
  refine R0.out.opn ?_
  intros
  go_enter Tryz.func78,Tryz.ntmps78
  go_upto_region 6 with fail
  refine wp_region_held_drew (S:=Sy w0 g F I os p) (by kernel_rfl) R0.out.drew.x (fun hHeld=>?_)
  replace R0:=lh R0.out.drew
  repeat refine tkp ?_
  refine tkq (PO.out _ R0.out) (fun _ _ h=>h.2.2.x) ?_ ?_
  rotate_left
  ·intro w1 B1
   go_wp2
   exact ⟨rfl,gp_no B1.out.2 (congrArg Out.c (arO_no (by decide) B1.out.1)) B1.out.1⟩
  intro v w1 A1 hHeld
  obtain ⟨rfl,rfl,hR⟩:=A1.out
  have R1:=lh hR
  clear A1 hR R0 PO
  repeat refine tkp ?_
  refine wpAnyH_done (by kernel_rfl) ?_ _
  refine R1.out.opn ?_
  clear hHeld
  intros
  go_wp2_with (first
   | (go_at_call 139;refine nx (pbits_c R1.out _) ?_;intro w1 R1))
  first | go_end0 | refine bodyPost_ret (results_none rfl _ _ _) rfl ?_
  exact gp_ok R1.out (by rw [← HU.out];rfl)
theorem par_23 (h:PS w0 w g F I os os p p false bs ks) (ho:(I.op=23∨I.op=87)):Calls Tryz.prog 78 #[.pointer (some ⟨g,0,none⟩)] w (Gp w0 g F I os p bs ks (arO ⟨os,p.key,p.il,p.cc,p.pg,p.ad,bs,ks⟩ I.op I.n (opC I.op I.fm bs ks p.key (I.a os)) (opV I.op I.fm os I.k bs (I.a os)))):=by
 have u0:=getD_in h.ro I.n
 have V0:=opV_in (op:=I.op) (fm:=I.fm) (a:=I.a os) (k:=I.k) h.ro h.st.rb
 have PO:=lh (fun W (hW:PS w0 W g F I os os p p false bs ks)=>popd_c hW)
 obtain ⟨u,hu⟩:∃u,os.getD I.n 0=u:=⟨_,rfl⟩
 obtain ⟨V,hV⟩:∃V,opV I.op I.fm os I.k bs (I.a os)=V:=⟨_,rfl⟩
 obtain ⟨C,hC⟩:∃C,opC I.op I.fm bs ks p.key (I.a os)=C:=⟨_,rfl⟩
 rw [hu] at u0
 rw [hV] at V0
 rw [hV,hC] at PO ⊢
 clear hV hC
 rcases ho with ho | ho
 all_goals
  rw [ho]
  have HU:=lh hu
  have HO:=lh ho
  have R0:=lh h
  have hn:=h.ix.n
  clear hu ho h
  refine R0.out.opn ?_
  intros
  go_enter Tryz.func78,Tryz.ntmps78
  go_upto_region 6 with fail
  refine wp_region_held_drew (S:=Sy w0 g F I os p) (by kernel_rfl) R0.out.drew.x (fun hHeld=>?_)
  replace R0:=lh R0.out.drew
  repeat refine tkp ?_
  refine tkq (PO.out _ R0.out) (fun _ _ h=>h.2.2.x) ?_ ?_
  rotate_left
  ·intro w1 B1
   go_wp2
   exact ⟨rfl,gp_no B1.out.2 (congrArg Out.c (arO_no (by decide) B1.out.1)) B1.out.1⟩
  intro v w1 A1 hHeld
  obtain ⟨rfl,rfl,hR⟩:=A1.out
  have R1:=lh hR
  clear A1 hR R0 PO
  repeat refine tkp ?_
  refine wpAnyH_done (by kernel_rfl) ?_ _
  refine R1.out.opn ?_
  clear hHeld
  intros
  go_wp2_with (first
   | (go_at_call 139;refine nx (pbits_c R1.out _) ?_;intro w1 R1))
  first | go_end0 | refine bodyPost_ret (results_none rfl _ _ _) rfl ?_
  exact gp_ok R1.out (by rw [← HU.out];rfl)
theorem par_24 (h:PS w0 w g F I os os p p false bs ks) (ho:(I.op=24∨I.op=88∨I.op=72)):Calls Tryz.prog 78 #[.pointer (some ⟨g,0,none⟩)] w (Gp w0 g F I os p bs ks (arO ⟨os,p.key,p.il,p.cc,p.pg,p.ad,bs,ks⟩ I.op I.n (opC I.op I.fm bs ks p.key (I.a os)) (opV I.op I.fm os I.k bs (I.a os)))):=by
 have u0:=getD_in h.ro I.n
 have V0:=opV_in (op:=I.op) (fm:=I.fm) (a:=I.a os) (k:=I.k) h.ro h.st.rb
 have PO:=lh (fun W (hW:PS w0 W g F I os os p p false bs ks)=>popd_c hW)
 obtain ⟨u,hu⟩:∃u,os.getD I.n 0=u:=⟨_,rfl⟩
 obtain ⟨V,hV⟩:∃V,opV I.op I.fm os I.k bs (I.a os)=V:=⟨_,rfl⟩
 obtain ⟨C,hC⟩:∃C,opC I.op I.fm bs ks p.key (I.a os)=C:=⟨_,rfl⟩
 rw [hu] at u0
 rw [hV] at V0
 rw [hV,hC] at PO ⊢
 clear hV hC
 rcases ho with ho | ho | ho
 all_goals
  rw [ho]
  have HU:=lh hu
  have HO:=lh ho
  have R0:=lh h
  have hn:=h.ix.n
  clear hu ho h
  refine R0.out.opn ?_
  intros
  go_enter Tryz.func78,Tryz.ntmps78
  go_upto_region 6 with fail
  refine wp_region_held_drew (S:=Sy w0 g F I os p) (by kernel_rfl) R0.out.drew.x (fun hHeld=>?_)
  replace R0:=lh R0.out.drew
  repeat refine tkp ?_
  refine tkq (PO.out _ R0.out) (fun _ _ h=>h.2.2.x) ?_ ?_
  rotate_left
  ·intro w1 B1
   go_wp2
   exact ⟨rfl,gp_no B1.out.2 (congrArg Out.c (arO_no (by decide) B1.out.1)) B1.out.1⟩
  intro v w1 A1 hHeld
  obtain ⟨rfl,rfl,hR⟩:=A1.out
  have R1:=lh hR
  clear A1 hR R0 PO
  repeat refine tkp ?_
  refine wpAnyH_done (by kernel_rfl) ?_ _
  refine R1.out.opn ?_
  clear hHeld
  intros
  go_upto_region 11 with fail
  refine wp_region_held_drew (S:=Sy w0 g F I os p) (by kernel_rfl) R1.out.drew.x (fun hHeld=>?_)
  replace R1:=lh R1.out.drew
  repeat refine tkp ?_
  refine tpr R1.out hn ?_
  clear R1 hHeld
  intro w2 R1 hHeld
  refine wpAnyH_done (by with_unfolding_all rfl) ?_ _
  clear hHeld
  go_wp2
  first | go_end0 | refine bodyPost_ret (results_none rfl _ _ _) rfl ?_
  exact gp_ok R1.out rfl
theorem par_76 (h:PS w0 w g F I os os p p false bs ks) (ho:I.op=76):Calls Tryz.prog 78 #[.pointer (some ⟨g,0,none⟩)] w (Gp w0 g F I os p bs ks (arO ⟨os,p.key,p.il,p.cc,p.pg,p.ad,bs,ks⟩ I.op I.n (opC I.op I.fm bs ks p.key (I.a os)) (opV I.op I.fm os I.k bs (I.a os)))):=by
 have u0:=getD_in h.ro I.n
 have V0:=opV_in (op:=I.op) (fm:=I.fm) (a:=I.a os) (k:=I.k) h.ro h.st.rb
 have PO:=lh (fun W (hW:PS w0 W g F I os os p p false bs ks)=>popd_c hW)
 obtain ⟨u,hu⟩:∃u,os.getD I.n 0=u:=⟨_,rfl⟩
 obtain ⟨V,hV⟩:∃V,opV I.op I.fm os I.k bs (I.a os)=V:=⟨_,rfl⟩
 obtain ⟨C,hC⟩:∃C,opC I.op I.fm bs ks p.key (I.a os)=C:=⟨_,rfl⟩
 rw [hu] at u0
 rw [hV] at V0
 rw [hV,hC] at PO ⊢
 clear hV hC
 rw [ho]
 have HU:=lh hu
 have HO:=lh ho
 have R0:=lh h
 have hn:=h.ix.n
 clear hu ho h
 refine R0.out.opn ?_
 intros
 go_enter Tryz.func78,Tryz.ntmps78
 go_upto_region 6 with fail
 refine wp_region_held_drew (S:=Sy w0 g F I os p) (by kernel_rfl) R0.out.drew.x (fun hHeld=>?_)
 replace R0:=lh R0.out.drew
 repeat refine tkp ?_
 refine tkq (PO.out _ R0.out) (fun _ _ h=>h.2.2.x) ?_ ?_
 rotate_left
 ·intro w1 B1
  go_wp2
  exact ⟨rfl,gp_no B1.out.2 (congrArg Out.c (arO_no (by decide) B1.out.1)) B1.out.1⟩
 intro v w1 A1 hHeld
 obtain ⟨rfl,rfl,hR⟩:=A1.out
 have R1:=lh hR
 clear A1 hR R0 PO
 repeat refine tkp ?_
 refine wpAnyH_done (by kernel_rfl) ?_ _
 refine R1.out.opn ?_
 clear hHeld
 intros
 go_upto_region 48 with fail
 refine wp_region_held_drew (S:=Sy w0 g F I os p) (by kernel_rfl) R1.out.drew.x (fun hHeld=>?_)
 replace R1:=lh R1.out.drew
 repeat refine tkp ?_
 refine tkz (mul_c u V u0.1 u0.2 V0.1 V0.2 _) ?_
 repeat refine tkp ?_
 refine tpr R1.out hn ?_
 clear R1 hHeld
 intro w2 R1 hHeld
 refine wpAnyH_done (by with_unfolding_all rfl) ?_ _
 clear hHeld
 go_wp2
 first | go_end0 | refine bodyPost_ret (results_none rfl _ _ _) rfl ?_
 exact gp_ok R1.out (by rw [← HU.out];rfl)
end
section
variable {w0 w w':World} {g:Nat} {F:Foot} {I:In} {os rs:List Int} {p q:Ps} {ov:Bool} {bs ks:List Int}
theorem gx_26 (h:PS w0 w g F I os os p p false bs ks) (ho:I.op=26):Calls Tryz.prog 67 #[.pointer (some ⟨g,0,none⟩)] w (Gp w0 g F I os p bs ks (arO ⟨os,p.key,p.il,p.cc,p.pg,p.ad,bs,ks⟩ I.op I.n (opC I.op I.fm bs ks p.key (I.a os)) (opV I.op I.fm os I.k bs (I.a os)))):=by
 have XC:=lh (fun W (hW:PS w0 W g F I os os p p false bs ks)=>par_26 hW (.inl ho))
 obtain ⟨r,hr⟩:∃r,(arO ⟨os,p.key,p.il,p.cc,p.pg,p.ad,bs,ks⟩ I.op I.n (opC I.op I.fm bs ks p.key (I.a os)) (opV I.op I.fm os I.k bs (I.a os)))=r:=⟨_,rfl⟩
 rw [hr] at XC ⊢
 have R0:=lh h
 have HO:=lh ho
 clear hr h ho
 refine R0.out.opn ?_
 intros
 go_enter Tryz.func67,Tryz.ntmps67
 go_wp2_with (go_at_call 78;refine nxp (XC.out _ R0.out) (fun w1 Z=>?_) (fun w1 Z=>?_))
 ·first | go_end0 | refine bodyPost_ret (results_none rfl _ _ _) rfl ?_
  exact Z.out
 ·exact ⟨rfl,Z.out⟩
theorem Px.zero {o:Out} {e:Ending} {w':World} (h:Px w F os p bs ks o e w') (hc:o.c=0) (hv:o.ov=false):e=.returned (.tuple #[.agg (o.rs.map (Value.int .u32)).toArray,.agg (p.to o.cc o.pg o.ad).v.toArray,.int .i64 0])∧St 63 w' F o.bs ks∧Ch w w' [F.gb]:=by
 obtain ⟨h1,h2⟩:=h.2.2 hc
 rw [if_neg (by rw [hv];simp)] at h1
 exact ⟨h1,h2,h.1⟩
theorem ar_c (h:St 63 w F bs ks) (P0:0≤p.pg∧p.pg≤15) (h3:pok p.m p.key p.cd p.il p.cc p.pg p.ad=true):Calls Tryz.prog 51 #[insV [26,1,1,2,0,0,0,0,0,0,0,0],.agg (([0,5,7,0,0,0,0,0,0,0,0,0,0,0,0,0]:List Int).map (Value.int .u32)).toArray,.agg p.v.toArray,.pointer (some ⟨F.g,0,none⟩)] w fun e w'=>e=.returned (.tuple #[.agg (([0,12,7,0,0,0,0,0,0,0,0,0,0,0,0,0]:List Int).map (Value.int .u32)).toArray,.agg (p.to 2 p.pg p.ad).v.toArray,.int .i64 0])∧St 63 w' F bs ks∧Ch w w' [F.gb]:=by
 have hx:=pexec_ok (os:=[0,5,7,0,0,0,0,0,0,0,0,0,0,0,0,0]) (I:=⟨26,1,1,2,0,0,0,0,0,0,0,0⟩) (o:=⟨0,[0,12,7,0,0,0,0,0,0,0,0,0,0,0,0,0],2,p.pg,p.ad,false,bs⟩) rfl (by decide) ⟨by decide,by decide,by decide,by decide,by decide,by decide,by decide,by decide,by decide⟩ P0 h (by decide +kernel) (by decide +kernel) h3 rfl (fun w0 W g hW=>by
  have:=gx_26 hW rfl
  exact this)
 exact Calls.mono hx fun e w' hh=>hh.zero rfl rfl
end
def p256:Ps:={ p00 with ad:=256 }
section
variable {w0 w w':World} {g:Nat} {F:Foot} {rs os:List Int} {p q:Ps} {n:Int} {bs bs' ks:List Int}
theorem step_ar (h:CP w0 w g F [0,5,7,0,0,0,0,0,0,0,0,0,0,0,0,0] p256 0 bs (z0 2)) (hl:bs.length=4096) (hm:sGet bs 256 2=[26,18]):Calls Tryz.prog 14 #[.pointer (some ⟨g,0,none⟩)] w fun e w'=>e=.returned (.agg #[.int .i64 0,.int .i64 0,.int .i64 0,.int .i64 0])∧CP w0 w' g F [0,12,7,0,0,0,0,0,0,0,0,0,0,0,0,0] ((p256.adv 2).to 2 0 258) 1 bs (z0 2):=by
 have hc:sCode (alF p256.key) bs.length (z0 2) ((256:Nat):Int) ((2:Nat):Int)=0:=by rw [hl];exact scode_0 alF_0 _ _ _ _ (by omega)
 refine cstep_c h rfl (fun W hW hcW=>?_)
 refine cnext_c (m:=2) (zs:=[26,18]) hW (by decide) (by omega) (fun W2 hW2=>?_) (fun W2 b cap hW2 hc2 hy=>?_)
 ·have hf:=cfet_c hW2 256 2 (by decide) (by decide) hc (by show lenOf ((sGet bs 256 2).getD 0 0)=2;rw [hm];decide) (.inl rfl) hc
  rw [show sGet bs ((256:Nat):Int) ((2:Nat):Int)=[26,18] from hm] at hf
  exact hf
 ·exact cexe_c (op:=26) (ix:=[26,1,1,2,0,0,0,0,0,0,0,0]) (kb:=false) hW2 hy (by decide) (by decide +kernel) (by decide +kernel) rfl rfl rfl (by kernel_rfl) (fun W3=>kd_26 W3) rfl rfl (by decide) (fun W3 hW3=>ar_c hW3.st (by decide) (by decide +kernel))
end
def sgnI (neg:Bool):Int:=if neg then 13 else 12
theorem WR.byt {w0 w:World} {o so sa:Nat} {at_:Int} {zs:List Int} (h:WR w0 w o so sa at_ zs) (hr:∀z∈zs,0≤z∧z≤255):Byt w (some ⟨o,0,none⟩) 8 zs:=
 ⟨h.l,hr,fun _=>⟨o,0,rfl,fun i hi=>by rw [h.get (by omega)];simp⟩⟩
theorem tab_ch2 {w w' : World} {L : List Nat} (h : Lib.TabIs Tryz.prog w "internal/strconv.uint64pow10" .u64 Lib.pow10Tab) (hc : Ch w w' L) (hg : 2 ∉ L ∧ 2 < w.heap.size) : Lib.TabIs Tryz.prog w' "internal/strconv.uint64pow10" .u64 Lib.pow10Tab := by
 have e:=hc.block 2 hg.2 hg.1
 have g0 : Tryz.prog.globalNamed "internal/strconv.uint64pow10" = some 2 := by kernel_rfl
 unfold Lib.TabIs World.var? at h ⊢
 rw [g0] at h ⊢
 simp only [Option.bind_some] at h ⊢
 rw [e]
 exact h
def StrV (n:Nat) (v:Value):Prop:=∃b:ByteArray,v=.string b∧1≤b.size∧b.size≤n
theorem str_ix (s:ByteArray) (i:Nat) (h:i<s.size):∃c:Nat,c≤255∧∀W,(Instr.index 9 (.string s) (.int .i64 (i:Int))).run Tryz.prog W=.ok (.int .u8 (c:Int)) W:=by
 refine ⟨(s[i]'h).toNat,by have:=(s[i]'h).toNat_lt;omega,fun W=>?_⟩
 rw [run_index_string W 9 s .i64 (i:Int) Tryz.underlying9,dif_pos (by omega)]
 rfl
theorem str_ix0 (s:ByteArray) (h:0<s.size):∃c:Nat,c≤255∧∀W,(Instr.index 9 (.string s) (.int .i64 0)).run Tryz.prog W=.ok (.int .u8 (c:Int)) W:=str_ix s 0 h
theorem str_cut (s:ByteArray) (k:Nat) (h:k≤s.size):∃t:ByteArray,t.size=s.size - k∧∀W,(Instr.slice 9 (.string s) (some (.int .i64 (k:Int))) none none).run Tryz.prog W=.ok (.string t) W:=by
 refine ⟨s.extract k s.size,by simp,fun W=>?_⟩
 rw [run_slice_string_from_if W 9 s .i64 (k:Int) Tryz.underlying9,if_pos (by omega)]
 simp
theorem str_cut1 (s:ByteArray) (h:1≤s.size):∃t:ByteArray,t.size=s.size - 1∧∀W,(Instr.slice 9 (.string s) (some (.int .i64 1)) none none).run Tryz.prog W=.ok (.string t) W:=str_cut s 1 h
theorem tab_keep {w w' : World} (h : Lib.TabIs Tryz.prog w "internal/strconv.uint64pow10" .u64 Lib.pow10Tab) (hb : Below w.heap.size w w') (h2 : 2 < w.heap.size) : Lib.TabIs Tryz.prog w' "internal/strconv.uint64pow10" .u64 Lib.pow10Tab := tab_ch2 h (Ch.of_below hb []) ⟨by simp, h2⟩
theorem tab_row {w : World} {g : Nat} (h : Lib.TabIs Tryz.prog w "internal/strconv.uint64pow10" .u64 Lib.pow10Tab) (cs : Array Value) (hg : 2 ≠ g) : Lib.TabIs Tryz.prog (w.setRow g cs) "internal/strconv.uint64pow10" .u64 Lib.pow10Tab := by
 have e:=setRow_other w g 2 cs hg
 have g0 : Tryz.prog.globalNamed "internal/strconv.uint64pow10" = some 2 := by kernel_rfl
 unfold Lib.TabIs World.var? at h ⊢
 rw [g0] at h ⊢
 simp only [Option.bind_some] at h ⊢
 rw [e]
 exact h
def moreS (h:Nat):Nat:=if h=0 then 0 else if h<19 then 20 else 40
theorem moreS_step (h:Nat) (h0:h≠0) (h1:h<18446744073709551616):moreS (h / 1000000000000000000)+20≤moreS h:=by
 have a:h / 1000000000000000000<19:=by omega
 unfold moreS
 by_cases hb:h<19
 ·rw [if_pos (by omega),if_neg h0,if_pos hb];omega
 ·rw [if_neg h0,if_neg hb];split<;>(try split)<;>omega
theorem moreS_le (h:Nat):moreS h≤40:=by unfold moreS;split<;>(try split)<;>omega
theorem ndigits_w (s : Bool) (h l : Nat) (hh : h < 18446744073709551616) (hl : l < 18446744073709551616) (w : World) (ht : Lib.TabIs Tryz.prog w "internal/strconv.uint64pow10" .u64 Lib.pow10Tab) (h2 : 2 < w.heap.size) : Calls Tryz.prog 144 #[.agg #[.bool s, .int .u64 (h : Int), .int .u64 (l : Int)]] w fun e w' => ∃ v, e = .returned v ∧ StrV 60 v ∧ Below w.heap.size w w' := by
 have HT:=lh ht
 have H2:=lh h2
 clear ht h2
 go_enter Tryz.func144,Tryz.ntmps144
 go_upto_region 1 with fail
 have N0:=Bk.new w [.bool s,.int .u64 (h:Int),.int .u64 (l:Int)] 179
 have LB:=((Below.refl w.heap.size w).alloc (by simp) (.cells #[.bool s,.int .u64 (h:Int),.int .u64 (l:Int)] 179))
 have M0:=N0
 have hsz:(w.alloc (.cells #[.bool s,.int .u64 (h:Int),.int .u64 (l:Int)] 179)).heap.size=w.heap.size+1:=by simp
 obtain ⟨w1,hW⟩:∃V,w.alloc (.cells #[.bool s,.int .u64 (h:Int),.int .u64 (l:Int)] 179)=V:=⟨_,rfl⟩
 rw [hW] at LB hsz M0
 first | rw [hW] | skip
 obtain ⟨g,hg⟩:∃k,w.heap.size=k:=⟨_,rfl⟩
 rw [hg] at LB hsz M0
 try simp only [hg]
 clear hW N0
 have H:=lh (show Bk w1 (g) 179 [.bool s,.int .u64 (h:Int),.int .u64 (l:Int)]∧Below g w w1 from ⟨M0,LB⟩)
 clear LB M0
 have HG:=lh hg
 clear hg
 have HT1:=lh (tab_keep HT.out (HG.out▸H.out.2) H2.out)
 have B1:=lh (show 2<g∧2<w1.heap.size from ⟨by rw [← HG.out];exact H2.out,by have:=H.out.2.size;have:=HG.out;have:=H2.out;omega⟩)
 go_wp2
 go_loopw [3] (fun a W => ∃ (b : ByteArray) (s : Bool) (h l : Nat), a = .string b ∧ b.size + moreS h ≤ 40 ∧ h < 18446744073709551616 ∧ l < 18446744073709551616 ∧ Bk W g 179 [.bool s, .int .u64 (h : Int), .int .u64 (l : Int)] ∧ Below g w W ∧ g < W.heap.size ∧ Lib.TabIs Tryz.prog W "internal/strconv.uint64pow10" .u64 Lib.pow10Tab) (fun _ W => (match W.cell? ⟨g, 1, none⟩ with | some (.int _ z) => z.toNat | _ => 0))
 case atStart=>exact ⟨_,s,h,l,rfl,by have:=moreS_le h;show 0+moreS h≤40;omega,hh,hl,H.out.1,H.out.2,H.out.1.lt,HT1.out⟩
 case round=>
  clear H HT1 HT
  obtain ⟨b,s,h,l,rfl,hb,hh,hl,hB,hw,hlt,ht⟩:=hrel
  rename World=>W
  have c1:=hB.cell (c:=1) rfl
  by_cases h0:h=0
  ·subst h0
   have c2:=hB.cell (c:=2) rfl
   have FC:=lh (sfunt_c l hl W ht)
   have HW:=lh hw
   have sz:=nd_le 20 l (by omega) (by omega)
   have sp:=nd_pos l
   have zz:(dstr l).size=Lib.nDigits l:=dstr_size l
   have hbz:b.size≤40:=by simpa [moreS] using hb
   clear hb hh hl hB hlt ht
   go_upto_region 7 with fail
   refine wp_region_lit ?_
   refine lsv (w':=W) ?_
   refine lsv (v:=.int .u64 (l:Int)) (w':=W) ?_
   refine lsc FC.out ?_
   intro W2 hb2
   have BW:=lh (HW.out.trans (hb2.out.mono (by have:=HW.out.size;have:=HG.out;omega)))
   clear FC HW hb2 c1 c2
   have sc:(dstr l).size+b.size≤9223372036854775807:=by omega
   have HS:=lh (show 1≤(dstr l++b).size∧(dstr l++b).size≤60 by rw [ByteArray.size_append];omega)
   obtain ⟨ds,hds⟩:∃d,dstr l=d:=⟨_,rfl⟩
   have e9:(⟨(Lib.decDigits l).toArray⟩:ByteArray)=ds:=hds
   rw [e9]
   rw [hds] at sc HS
   clear sz sp zz hbz hds e9
   refine lsv (w':=W2) ?_
   iterate 2 refine lsv (v:=.string (ds++b)) (w':=W2) ?_
   refine wpList_nil ?_
   obtain ⟨z,hz⟩:∃z,ds++b=z:=⟨_,rfl⟩
   rw [hz] at HS ⊢
   clear sc hz
   go_wp2
   go_loopw [3] (fun a W'=>∃b:ByteArray,a=.string b∧1≤b.size∧b.size≤60∧W2=W') (fun a _=>(match a with | .string b=>b.size | _=>0))
   case atStart=>exact ⟨z,rfl,HS.out.1,HS.out.2,rfl⟩
   case round=>
    clear HS
    obtain ⟨z,rfl,hz1,hz2,rfl⟩:=hrel
    by_cases h1:1<z.size
    ·have e1:(1:Int)<(z.size:Int):=by omega
     obtain ⟨c,hc,hix⟩:=str_ix0 z (by omega)
     obtain ⟨t,ht,hcut⟩:=str_cut1 z (by omega)
     have HZ:=lh (show 1≤t.size∧t.size≤60∧t.size<z.size by omega)
     have HZ1:=lh (show 1≤z.size∧z.size≤60 from ⟨hz1,hz2⟩)
     clear h1 hz1 hz2 ht
     by_cases h48:c=48
     ·subst h48
      go_wp2
      go_roundw
      case rel=>exact ⟨t,rfl,HZ.out.1,HZ.out.2.1,trivial⟩
      case measure=>exact HZ.out.2.2
     ·have e2:((c:Int) == 48)=false:=by rw [beq_eq_false_iff_ne];omega
      clear h48
      go_wp2
      go_ret
      exact ⟨_,rfl,⟨z,rfl,HZ1.out⟩,HG.out▸BW.out⟩
    ·have e1:¬(1:Int)<(z.size:Int):=by omega
     have HZ1:=lh (show 1≤z.size∧z.size≤60 from ⟨hz1,hz2⟩)
     clear h1 hz1 hz2
     go_wp2
     go_ret
     exact ⟨_,rfl,⟨z,rfl,HZ1.out⟩,HG.out▸BW.out⟩
  ·have e0:((h:Int) == 0)=false:=by rw [beq_eq_false_iff_ne];omega
   have e0':¬(h:Int)=0:=by omega
   have OV:=lh (nover_c s h l 1000000000000000000 hh hl (by omega) (by omega) W)
   have MS:=lh (moreS_step h h0 hh)
   have HH:=lh h0
   have CC:=lh c1
   have HB:=lh hB
   have HW:=lh hw
   have TT:=lh ht
   have SB:=lh hb
   clear h0 hh hl hw ht hb hB
   go_upto_region 4 with fail
   refine wp_region_lit ?_
   refine lsl HB.out ?_
   refine lsce OV.out ?_
   intro vv W2 Z
   obtain ⟨⟨s',h',l',r,rfl,e',hh',hl',hr⟩,hb2⟩:=Z.out
   have E:=lh e'
   clear e'
   replace HB:=lh (HB.out.keep hb2)
   replace HW:=lh (HW.out.trans (hb2.mono (by omega)))
   replace TT:=lh (tab_keep TT.out hb2 (by have:=B1.out;omega))
   have LT:=lh (show g<W2.heap.size by have:=hb2.size;omega)
   clear Z OV hb2 hlt
   iterate 3 refine lsv (w':=W2) ?_
   refine lss (cs':=[.bool s',.int .u64 (h':Int),.int .u64 (l':Int)]) HB.out rfl (by simp [Value.oneCell']) (by kernel_rfl) ?_
   have HB2:=lh (HB.out.rowSet [.bool s',.int .u64 (h':Int),.int .u64 (l':Int)])
   have hC:=lh (below_row HW.out (Nat.le_refl g) ([.bool s',.int .u64 (h':Int),.int .u64 (l':Int)]:List Value).toArray)
   have TT2:=lh (tab_row TT.out ([.bool s',.int .u64 (h':Int),.int .u64 (l':Int)]:List Value).toArray (show 2≠g by have:=B1.out;omega))
   have LT2:=lh (show g<(W2.setRow g ([.bool s',.int .u64 (h':Int),.int .u64 (l':Int)]:List Value).toArray).heap.size from HB2.out.lt)
   obtain ⟨W3,hW3⟩:∃V,W2.setRow g ([.bool s',.int .u64 (h':Int),.int .u64 (l':Int)]:List Value).toArray=V:=⟨_,rfl⟩
   rw [hW3] at HB2 hC TT2 LT2
   first | rw [hW3] | simp only [hW3]
   clear hW3 HB HW TT LT c1
   refine lsv (w':=W3) ?_
   refine wpList_nil ?_
   obtain ⟨u,eu,hu⟩:=wrap_n ((r:Int)+1000000000000000000)
   have FC:=lh (sfunt_c u hu W3 TT2.out)
   have sz:=nd_le 20 u (by omega) (by omega)
   have sp:=nd_pos u
   have zz:(dstr u).size=Lib.nDigits u:=dstr_size u
   obtain ⟨t1,ht1,hcut⟩:=str_cut1 (dstr u) (by omega)
   have sb:=SB.out
   have ms:=MS.out
   have sc:t1.size+b.size≤9223372036854775807:=by omega
   have HS:=lh (show (t1++b).size+moreS h'≤40 by rw [ByteArray.size_append,E.out];omega)
   obtain ⟨ds,hds⟩:∃d,dstr u=d:=⟨_,rfl⟩
   have FC:Hid (Calls Tryz.prog 157 #[.int .u64 (u:Int),.int .i64 10] W3 fun e w'=>e=.returned (.string ds)∧Below W3.heap.size W3 w'):=lh (hds▸FC.out)
   rw [hds] at hcut
   clear sz sp zz hds ht1 SB hu sb ms
   go_upto_region 5 with fail
   refine wp_region_lit ?_
   refine lsv (w':=W3) ?_
   refine lsv (v:=.int .u64 (u:Int)) (w':=W3) ?_
   refine lsc FC.out ?_
   intro W4 hb4
   have HB4:=lh (HB2.out.keep hb4.out)
   have HW4:=lh (hC.out.trans (hb4.out.mono (by have:=hC.out.size;have:=HG.out;omega)))
   have TT4:=lh (tab_keep TT2.out hb4.out (by have:=B1.out;have:=LT2.out;omega))
   clear FC hb4 HB2 hC TT2 LT2 eu
   refine lsv (w':=W4) ?_
   refine wpList_nil ?_
   go_upto_region 6 with fail
   refine wp_region_lit ?_
   refine lsv (w':=W4) ?_
   refine lsv (v:=.string t1) (w':=W4) ?_
   refine lsv (w':=W4) ?_
   iterate 2 refine lsv (v:=.string (t1++b)) (w':=W4) ?_
   refine wpList_nil ?_
   clear hcut sc
   go_wp2
   go_roundw
   case rel=>exact ⟨_,s',h',l',rfl,HS.out,hh',hl',HB4.out,HW4.out,HB4.out.lt,TT4.out⟩
   case measure=>
    have k1:=CC.out
    have k2:=HB4.out.cell (c:=1) rfl
    have hlt:h'<h:=by rw [E.out];have:=HH.out;exact Nat.div_lt_self (by omega) (by omega)
    rw [k1,k2]
    simpa using hlt
def half (zs:List Int) (j:Nat):Int:=if j % 2=0 then zs.getD (zs.length - 1 - j / 2) 0 % 16 else zs.getD (zs.length - 1 - j / 2) 0 / 16
def hv (zs:List Int) (c:Nat):List Int:=(List.range c).map (half zs)
theorem hv_succ (zs:List Int) (c:Nat):hv zs (c+1)=hv zs c++[half zs c]:=by simp [hv,List.range_succ]
theorem hv_len (zs:List Int) (c:Nat):(hv zs c).length=c:=by simp [hv]
theorem hv_get (zs:List Int) (c k:Nat) (h:k<c):(hv zs c).getD k 0=half zs k:=by simp [hv,List.getD_eq_getElem?_getD,h]
theorem half_rng {zs:List Int} (h:∀z∈zs,0≤z∧z≤255) (j:Nat):0≤half zs j∧half zs j≤15:=by
 have hz:∀i,0≤zs.getD i 0∧zs.getD i 0≤255:=by
  intro i
  rw [List.getD_eq_getElem?_getD]
  rcases Nat.lt_or_ge i zs.length with hi | hi
  ·rw [List.getElem?_eq_getElem hi];exact h _ (List.getElem_mem hi)
  ·rw [List.getElem?_eq_none hi];simp
 have:=hz (zs.length - 1 - j / 2)
 unfold half
 split<;>omega
theorem hv_rng {zs:List Int} (h:∀z∈zs,0≤z∧z≤255) (c:Nat):∀i,0≤(hv zs c).getD i 0∧(hv zs c).getD i 0≤15:=by
 intro i
 by_cases hi:i<c
 ·rw [hv_get _ _ _ hi];exact half_rng h i
 ·rw [getD_out _ _ (by rw [hv_len];omega)];omega
theorem own_bk {W:World} {B o n:Nat} {zs:List Int} (h:Bk W o 5 (zs.map (Value.int .u8))) (hn:zs.length=n) (hr:∀z∈zs,0≤z∧z≤255) (hB:B≤o) (h16:n≤16):Own W B (.slice (some ⟨o,0,none⟩) n n) n zs:=Own.of_heap h (by simp [hn]) (by rw [List.take_of_length_le (by simp [hn])]) hn hB (Nat.le_refl _) (by unfold maxLen;omega) hr
theorem byt_bk' {W:World} {o n:Nat} {zs:List Int} (h:Bk W o 5 (zs.map (Value.int .u8))) (hn:zs.length=n) (hr:∀z∈zs,0≤z∧z≤255):Byt W (some ⟨o,0,none⟩) n zs:=
 ⟨hn,hr,fun _=>⟨o,0,rfl,fun i hi=>by
  rw [Nat.zero_add]
  refine h.cell ?_
  rw [List.getElem?_map,List.getElem?_eq_getElem (by omega),List.getD_eq_getElem?_getD,List.getElem?_eq_getElem (by omega)]
  rfl⟩⟩
def outH (hs:List Int) (n:Nat):List Int:=(List.range n).map fun i=>if i+1=n then (if hs.length=0 then 240 else 16*hs.getD 0 0+hs.getD 1 0) else if n - i<hs.length then 240+hs.getD (n - i) 0 else 240
theorem outH_len (hs:List Int) (n:Nat):(outH hs n).length=n:=by simp [outH]
theorem outH_get (hs:List Int) (n i:Nat) (h:i<n):(outH hs n).getD i 0=if i+1=n then (if hs.length=0 then 240 else 16*hs.getD 0 0+hs.getD 1 0) else if n - i<hs.length then 240+hs.getD (n - i) 0 else 240:=by
 simp [outH,List.getD_eq_getElem?_getD,h]
theorem outH_nil (n:Nat):outH [] n=List.replicate n 240:=by
 refine list_getD_ext (by simp [outH]) fun i hi=>?_
 rw [outH_len] at hi
 rw [outH_get _ _ _ hi]
 simp [List.getD_eq_getElem?_getD,hi]
theorem outH_one (n:Nat) (d:Int) (hn:0<n):(outH [] n).set (n - 1) (16*d)=outH [d] n:=by
 refine list_getD_ext (by simp [outH]) fun i hi=>?_
 have hi:i<n:=by simpa [outH_len] using hi
 rw [getD_set_ _ _ _ _ (by rw [outH_len];omega),outH_get _ _ _ hi,outH_get _ _ _ hi]
 by_cases h:i=n - 1
 ·rw [if_pos h,if_pos (by omega),if_neg (by simp)]
  simp
 ·rw [if_neg h,if_neg (by omega),if_neg (by simp),if_neg (by omega),if_neg (by simp;omega)]
theorem outH_snoc (hs:List Int) (n:Nat) (d:Int) (h1:1≤hs.length) (h2:hs.length≤n):(outH hs n).set (n - hs.length) ((outH hs n).getD (n - hs.length) 0+d)=outH (hs++[d]) n:=by
 refine list_getD_ext (by simp [outH]) fun i hi=>?_
 have hi:i<n:=by simpa [outH_len] using hi
 rw [getD_set_ _ _ _ _ (by rw [outH_len];omega),outH_get _ _ _ hi,outH_get _ _ _ hi,outH_get _ _ _ (by omega:n - hs.length<n)]
 have e0:(hs++[d]).length=hs.length+1:=by simp
 rw [e0,getD_app,getD_app,getD_app]
 by_cases hk:hs.length=1
 ·by_cases h:i=n - 1
  ·rw [if_pos (by omega),if_pos (by omega),if_neg (by omega),if_pos (by omega),if_neg (by omega),if_neg (by omega),if_pos (by omega),getD_out hs 1 (by omega)]
   omega
  ·rw [if_neg (by omega),if_neg (by omega),if_neg (by omega),if_neg (by omega),if_neg (by omega)]
 ·by_cases h:i=n - hs.length
  ·rw [if_pos h,if_neg (by omega),if_neg (by omega),if_neg (by omega),if_pos (by omega),if_pos (by omega)]
  ·rw [if_neg h]
   by_cases hl:i+1=n
   ·rw [if_pos hl,if_pos hl,if_neg (by omega),if_neg (by omega),if_neg (by omega),if_neg (by omega)]
   ·rw [if_neg hl,if_neg hl]
    by_cases hc:n - i<hs.length
    ·rw [if_pos hc,if_pos (by omega),if_neg (by omega)]
    ·rw [if_neg hc,if_neg (by omega)]
theorem outH_more (hs ts:List Int) (n:Nat) (h:n+1≤hs.length) (hn:1≤n):outH (hs++ts) n=outH hs n:=by
 refine list_getD_ext (by simp [outH]) fun i hi=>?_
 have hi:i<n:=by simpa [outH_len] using hi
 have ga:∀k,k<hs.length→(hs++ts).getD k 0=hs.getD k 0:=fun k hk=>by simp only [List.getD_eq_getElem?_getD];rw [List.getElem?_append_left hk]
 rw [outH_get _ _ _ hi,outH_get _ _ _ hi,List.length_append,ga 0 (by omega),ga 1 (by omega),ga (n - i) (by omega)]
 by_cases hl:i+1=n
 ·rw [if_pos hl,if_pos hl,if_neg (by omega),if_neg (by omega)]
 ·rw [if_neg hl,if_neg hl,if_pos (by omega),if_pos (by omega)]
theorem outH_at (hs:List Int) (n:Nat) (h1:1≤hs.length) (h2:hs.length≤n) (hr:∀i,0≤hs.getD i 0∧hs.getD i 0≤15):∃m:Nat,m<16∧(outH hs n).getD (n - hs.length) 0=16*(m:Int):=by
 rw [outH_get _ _ _ (by omega)]
 by_cases hk:hs.length=1
 ·refine ⟨(hs.getD 0 0).toNat,by have:=hr 0;omega,?_⟩
  rw [if_pos (by omega),if_neg (by omega),getD_out hs 1 (by omega)]
  have:=hr 0
  omega
 ·exact ⟨15,by omega,by rw [if_neg (by omega),if_neg (by omega)];rfl⟩
def unpk (zs:List Int) (n:Nat):List Int:=outH (hv zs (2*zs.length)) n
theorem hv_cut (zs:List Int) (c m:Nat) (h:c≤m):∃ts,hv zs m=hv zs c++ts:=by
 refine ⟨(hv zs m).drop c,?_⟩
 have:hv zs c=(hv zs m).take c:=by
  unfold hv
  rw [← List.map_take,List.take_range,Nat.min_eq_left h]
 rw [this,List.take_append_drop]
theorem outH_cut (zs:List Int) (c n:Nat) (h:c≤2*zs.length) (hc:n+1≤c) (hn:1≤n):outH (hv zs c) n=unpk zs n:=by
 obtain ⟨ts,e⟩:=hv_cut zs c _ h
 unfold unpk
 rw [e,outH_more _ _ _ (by rw [hv_len];exact hc) hn]
theorem outH_rng {hs:List Int} (hr:∀i,0≤hs.getD i 0∧hs.getD i 0≤15) (n:Nat):∀z∈outH hs n,0≤z∧z≤255:=by
 intro z hz
 simp only [outH,List.mem_map,List.mem_range] at hz
 obtain ⟨i,-,rfl⟩:=hz
 have h0:=hr 0
 have h1:=hr 1
 have h2:=hr (n - i)
 repeat' split
 all_goals omega
def fillL (v:Int) (n k:Nat):List Int:=(List.range n).map fun i=>if i<k then v else 0
theorem fillL_len (v:Int) (n k:Nat):(fillL v n k).length=n:=by simp [fillL]
theorem fillL_get (v:Int) (n k i:Nat) (h:i<n):(fillL v n k).getD i 0=if i<k then v else 0:=by simp [fillL,List.getD_eq_getElem?_getD,h]
theorem fillL_succ (v:Int) (n k:Nat) (h:k<n):(fillL v n k).set k v=fillL v n (k+1):=by
 refine list_getD_ext (by simp [fillL]) fun i hi=>?_
 have hi:i<n:=by simpa [fillL] using hi
 rw [getD_set_ _ _ _ _ (by rw [fillL_len];exact h),fillL_get _ _ _ _ hi,fillL_get _ _ _ _ hi]
 by_cases hk:i=k
 ·rw [if_pos hk,if_pos (by omega)]
 ·rw [if_neg hk]
  by_cases h2:i<k
  ·rw [if_pos h2,if_pos (by omega)]
  ·rw [if_neg h2,if_neg (by omega)]
theorem fillL_0 (v:Int) (n:Nat):fillL v n 0=List.replicate n 0:=by
 refine list_getD_ext (by simp [fillL]) fun i hi=>?_
 rw [fillL_len] at hi
 rw [fillL_get _ _ _ _ hi]
 simp [List.getD_eq_getElem?_getD,hi]
theorem fillL_n (v:Int) (n:Nat):fillL v n n=List.replicate n v:=by
 refine list_getD_ext (by simp [fillL]) fun i hi=>?_
 rw [fillL_len] at hi
 rw [fillL_get _ _ _ _ hi,if_pos hi]
 simp [List.getD_eq_getElem?_getD,hi]
theorem or_lo4:∀h:Nat,h<16→∀d:Nat,d<16→bits .or .u8 (16*(h:Int)) (d:Int)=16*(h:Int)+(d:Int):=by decide +kernel
theorem and15:∀z:Nat,z<256→bits .and .u8 (z:Int) 15=(z:Int) % 16:=by decide +kernel
end Go.Proofs.YtljajnaclpbecaaGreatDoor
