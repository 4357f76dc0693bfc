/- Contracts and laws on the way to the statement, text 19 of 22. Conditions: as each states them. -/
import Derived.Test.YtljajnaclpbecaaGreatDoorGu1
import Derived.Test.YtljajnaclpbecaaGreatDoorGu5
import Derived.Test.YtljajnaclpbecaaGreatDoorGu6
import Derived.Test.YtljajnaclpbecaaGreatDoorGu10
import Derived.Test.YtljajnaclpbecaaGreatDoorGu11
import Derived.Test.YtljajnaclpbecaaGreatDoorGu18
namespace Go.Proofs.YtljajnaclpbecaaGreatDoor
open Go.RowKit
set_option maxRecDepth 1000000
set_option maxHeartbeats 8000000
set_option linter.unusedVariables false
set_option linter.unusedSimpArgs false
section
variable {w0 w w':World} {g:Nat} {F:Foot} {I:In} {os rs:List Int} {p q:Ps} {ov:Bool} {bs ks:List Int}
theorem lo_cmb {P:Pre} {op:Int} {lg:Bool} {N:Nat} {A B:Int} (h:op≠221∧op≠220∧op≠213) (hl:(op=212∨op=214∨op=215)↔lg=true):loO P op N A B=if P.fc A N≠0 then P.no (P.fc A N) else if P.fc B N≠0 then P.no (P.fc B N) else P.wr A N (cmb (cb op) (sGet P.bs A N) (sGet P.bs B N) (A - B) N) (if lg=true then cmbS (cb op) (sGet P.bs A N) (sGet P.bs B N) (A - B) N else P.cc):=by
 unfold loO
 rw [if_neg h.1,if_neg h.2.1,if_neg h.2.2]
 simp only [hl]
theorem plo_209 (h:PS w0 w g F I os os p p false bs ks) (ho:I.op=209):Calls Tryz.prog 77 #[.pointer (some ⟨g,0,none⟩)] w (Gp w0 g F I os p bs ks (loO ⟨os,p.key,p.il,p.cc,p.pg,p.ad,bs,ks⟩ I.op (I.l+1) (I.a1 os) (I.a os))):=by
 have PC:=lh (fun W (hW:PS w0 W g F I os os p p false bs ks)=>pcmb_c _ _ false clo_209 clo_call_209 (cb_in 209) hW)
 rw [← lo_cmb (P:=⟨os,p.key,p.il,p.cc,p.pg,p.ad,bs,ks⟩) (op:=209) (lg:=false) (by decide) (by decide),← ho] at PC
 obtain ⟨o,hoo⟩:∃o,loO ⟨os,p.key,p.il,p.cc,p.pg,p.ad,bs,ks⟩ I.op (I.l+1) (I.a1 os) (I.a os)=o:=⟨_,rfl⟩
 rw [hoo] at PC ⊢
 have R0:=lh h
 have HO:=lh ho
 clear hoo ho h
 refine R0.out.opn ?_
 intros
 go_enter Tryz.func77,Tryz.ntmps77
 go_wp2_with (go_at_call 122;refine nxp (PC.out _ R0.out) (fun w1 Z=>?_) (fun w1 Z=>?_))
 ·first | go_end0 | refine bodyPost_ret (results_none rfl _ _ _) rfl ?_
  exact Z.out
 ·exact ⟨rfl,Z.out⟩
theorem plo_210 (h:PS w0 w g F I os os p p false bs ks) (ho:I.op=210):Calls Tryz.prog 77 #[.pointer (some ⟨g,0,none⟩)] w (Gp w0 g F I os p bs ks (loO ⟨os,p.key,p.il,p.cc,p.pg,p.ad,bs,ks⟩ I.op (I.l+1) (I.a1 os) (I.a os))):=by
 have PC:=lh (fun W (hW:PS w0 W g F I os os p p false bs ks)=>pcmb_c _ _ false clo_210 clo_call_210 (cb_in 210) hW)
 rw [← lo_cmb (P:=⟨os,p.key,p.il,p.cc,p.pg,p.ad,bs,ks⟩) (op:=210) (lg:=false) (by decide) (by decide),← ho] at PC
 obtain ⟨o,hoo⟩:∃o,loO ⟨os,p.key,p.il,p.cc,p.pg,p.ad,bs,ks⟩ I.op (I.l+1) (I.a1 os) (I.a os)=o:=⟨_,rfl⟩
 rw [hoo] at PC ⊢
 have R0:=lh h
 have HO:=lh ho
 clear hoo ho h
 refine R0.out.opn ?_
 intros
 go_enter Tryz.func77,Tryz.ntmps77
 go_wp2_with (go_at_call 122;refine nxp (PC.out _ R0.out) (fun w1 Z=>?_) (fun w1 Z=>?_))
 ·first | go_end0 | refine bodyPost_ret (results_none rfl _ _ _) rfl ?_
  exact Z.out
 ·exact ⟨rfl,Z.out⟩
theorem plo_211 (h:PS w0 w g F I os os p p false bs ks) (ho:I.op=211):Calls Tryz.prog 77 #[.pointer (some ⟨g,0,none⟩)] w (Gp w0 g F I os p bs ks (loO ⟨os,p.key,p.il,p.cc,p.pg,p.ad,bs,ks⟩ I.op (I.l+1) (I.a1 os) (I.a os))):=by
 have PC:=lh (fun W (hW:PS w0 W g F I os os p p false bs ks)=>pcmb_c _ _ false clo_211 clo_call_211 (cb_in 211) hW)
 rw [← lo_cmb (P:=⟨os,p.key,p.il,p.cc,p.pg,p.ad,bs,ks⟩) (op:=211) (lg:=false) (by decide) (by decide),← ho] at PC
 obtain ⟨o,hoo⟩:∃o,loO ⟨os,p.key,p.il,p.cc,p.pg,p.ad,bs,ks⟩ I.op (I.l+1) (I.a1 os) (I.a os)=o:=⟨_,rfl⟩
 rw [hoo] at PC ⊢
 have R0:=lh h
 have HO:=lh ho
 clear hoo ho h
 refine R0.out.opn ?_
 intros
 go_enter Tryz.func77,Tryz.ntmps77
 go_wp2_with (go_at_call 122;refine nxp (PC.out _ R0.out) (fun w1 Z=>?_) (fun w1 Z=>?_))
 ·first | go_end0 | refine bodyPost_ret (results_none rfl _ _ _) rfl ?_
  exact Z.out
 ·exact ⟨rfl,Z.out⟩
theorem plo_212 (h:PS w0 w g F I os os p p false bs ks) (ho:I.op=212):Calls Tryz.prog 77 #[.pointer (some ⟨g,0,none⟩)] w (Gp w0 g F I os p bs ks (loO ⟨os,p.key,p.il,p.cc,p.pg,p.ad,bs,ks⟩ I.op (I.l+1) (I.a1 os) (I.a os))):=by
 have PC:=lh (fun W (hW:PS w0 W g F I os os p p false bs ks)=>pcmb_c _ _ true clo_212 clo_call_212 (cb_in 212) hW)
 rw [← lo_cmb (P:=⟨os,p.key,p.il,p.cc,p.pg,p.ad,bs,ks⟩) (op:=212) (lg:=true) (by decide) (by decide),← ho] at PC
 obtain ⟨o,hoo⟩:∃o,loO ⟨os,p.key,p.il,p.cc,p.pg,p.ad,bs,ks⟩ I.op (I.l+1) (I.a1 os) (I.a os)=o:=⟨_,rfl⟩
 rw [hoo] at PC ⊢
 have R0:=lh h
 have HO:=lh ho
 clear hoo ho h
 refine R0.out.opn ?_
 intros
 go_enter Tryz.func77,Tryz.ntmps77
 go_wp2_with (go_at_call 122;refine nxp (PC.out _ R0.out) (fun w1 Z=>?_) (fun w1 Z=>?_))
 ·first | go_end0 | refine bodyPost_ret (results_none rfl _ _ _) rfl ?_
  exact Z.out
 ·exact ⟨rfl,Z.out⟩
theorem plo_214 (h:PS w0 w g F I os os p p false bs ks) (ho:I.op=214):Calls Tryz.prog 77 #[.pointer (some ⟨g,0,none⟩)] w (Gp w0 g F I os p bs ks (loO ⟨os,p.key,p.il,p.cc,p.pg,p.ad,bs,ks⟩ I.op (I.l+1) (I.a1 os) (I.a os))):=by
 have PC:=lh (fun W (hW:PS w0 W g F I os os p p false bs ks)=>pcmb_c _ _ true clo_214 clo_call_214 (cb_in 214) hW)
 rw [← lo_cmb (P:=⟨os,p.key,p.il,p.cc,p.pg,p.ad,bs,ks⟩) (op:=214) (lg:=true) (by decide) (by decide),← ho] at PC
 obtain ⟨o,hoo⟩:∃o,loO ⟨os,p.key,p.il,p.cc,p.pg,p.ad,bs,ks⟩ I.op (I.l+1) (I.a1 os) (I.a os)=o:=⟨_,rfl⟩
 rw [hoo] at PC ⊢
 have R0:=lh h
 have HO:=lh ho
 clear hoo ho h
 refine R0.out.opn ?_
 intros
 go_enter Tryz.func77,Tryz.ntmps77
 go_wp2_with (go_at_call 122;refine nxp (PC.out _ R0.out) (fun w1 Z=>?_) (fun w1 Z=>?_))
 ·first | go_end0 | refine bodyPost_ret (results_none rfl _ _ _) rfl ?_
  exact Z.out
 ·exact ⟨rfl,Z.out⟩
theorem plo_215 (h:PS w0 w g F I os os p p false bs ks) (ho:I.op=215):Calls Tryz.prog 77 #[.pointer (some ⟨g,0,none⟩)] w (Gp w0 g F I os p bs ks (loO ⟨os,p.key,p.il,p.cc,p.pg,p.ad,bs,ks⟩ I.op (I.l+1) (I.a1 os) (I.a os))):=by
 have PC:=lh (fun W (hW:PS w0 W g F I os os p p false bs ks)=>pcmb_c _ _ true clo_215 clo_call_215 (cb_in 215) hW)
 rw [← lo_cmb (P:=⟨os,p.key,p.il,p.cc,p.pg,p.ad,bs,ks⟩) (op:=215) (lg:=true) (by decide) (by decide),← ho] at PC
 obtain ⟨o,hoo⟩:∃o,loO ⟨os,p.key,p.il,p.cc,p.pg,p.ad,bs,ks⟩ I.op (I.l+1) (I.a1 os) (I.a os)=o:=⟨_,rfl⟩
 rw [hoo] at PC ⊢
 have R0:=lh h
 have HO:=lh ho
 clear hoo ho h
 refine R0.out.opn ?_
 intros
 go_enter Tryz.func77,Tryz.ntmps77
 go_wp2_with (go_at_call 122;refine nxp (PC.out _ R0.out) (fun w1 Z=>?_) (fun w1 Z=>?_))
 ·first | go_end0 | refine bodyPost_ret (results_none rfl _ _ _) rfl ?_
  exact Z.out
 ·exact ⟨rfl,Z.out⟩
theorem lo_clc {P:Pre} {N:Nat} {A B:Int}:loO P 213 N A B=if P.fc A N≠0 then P.no (P.fc A N) else if P.fc B N≠0 then P.no (P.fc B N) else P.st P.os (clc (sGet P.bs A N) (sGet P.bs B N)) false:=by
 unfold loO
 rw [if_neg (show ¬((213:Int)=221) by decide),if_neg (show ¬((213:Int)=220) by decide),if_pos (show (213:Int)=213 from rfl)]
theorem plo_213 (h:PS w0 w g F I os os p p false bs ks) (ho:I.op=213):Calls Tryz.prog 77 #[.pointer (some ⟨g,0,none⟩)] w (Gp w0 g F I os p bs ks (loO ⟨os,p.key,p.il,p.cc,p.pg,p.ad,bs,ks⟩ I.op (I.l+1) (I.a1 os) (I.a os))):=by
 have PC:=lh (fun W (hW:PS w0 W g F I os os p p false bs ks)=>pclc_c hW)
 rw [← lo_clc,← ho] at PC
 obtain ⟨o,hoo⟩:∃o,loO ⟨os,p.key,p.il,p.cc,p.pg,p.ad,bs,ks⟩ I.op (I.l+1) (I.a1 os) (I.a os)=o:=⟨_,rfl⟩
 rw [hoo] at PC ⊢
 have R0:=lh h
 have HO:=lh ho
 clear hoo ho h
 refine R0.out.opn ?_
 intros
 go_enter Tryz.func77,Tryz.ntmps77
 go_wp2_with (go_at_call 129;refine nxp (PC.out _ R0.out) (fun w1 Z=>?_) (fun w1 Z=>?_))
 ·first | go_end0 | refine bodyPost_ret (results_none rfl _ _ _) rfl ?_
  exact Z.out
 ·exact ⟨rfl,Z.out⟩
theorem plo_220 (h:PS w0 w g F I os os p p false bs ks) (ho:I.op=220):Calls Tryz.prog 77 #[.pointer (some ⟨g,0,none⟩)] w (Gp w0 g F I os p bs ks (loO ⟨os,p.key,p.il,p.cc,p.pg,p.ad,bs,ks⟩ I.op (I.l+1) (I.a1 os) (I.a os))):=by
 have PC:=lh (fun W (hW:PS w0 W g F I os os p p false bs ks)=>ptr_c hW)
 rw [← ho] at PC
 obtain ⟨o,hoo⟩:∃o,loO ⟨os,p.key,p.il,p.cc,p.pg,p.ad,bs,ks⟩ I.op (I.l+1) (I.a1 os) (I.a os)=o:=⟨_,rfl⟩
 rw [hoo] at PC ⊢
 have R0:=lh h
 have HO:=lh ho
 clear hoo ho h
 refine R0.out.opn ?_
 intros
 go_enter Tryz.func77,Tryz.ntmps77
 go_wp2_with (go_at_call 130;refine nxp (PC.out _ R0.out) (fun w1 Z=>?_) (fun w1 Z=>?_))
 ·first | go_end0 | refine bodyPost_ret (results_none rfl _ _ _) rfl ?_
  exact Z.out
 ·exact ⟨rfl,Z.out⟩
theorem plo_221 (h:PS w0 w g F I os os p p false bs ks) (ho:I.op=221):Calls Tryz.prog 77 #[.pointer (some ⟨g,0,none⟩)] w (Gp w0 g F I os p bs ks (loO ⟨os,p.key,p.il,p.cc,p.pg,p.ad,bs,ks⟩ I.op (I.l+1) (I.a1 os) (I.a os))):=by
 have PC:=lh (fun W (hW:PS w0 W g F I os os p p false bs ks)=>ptrt_c hW)
 rw [← ho] at PC
 obtain ⟨o,hoo⟩:∃o,loO ⟨os,p.key,p.il,p.cc,p.pg,p.ad,bs,ks⟩ I.op (I.l+1) (I.a1 os) (I.a os)=o:=⟨_,rfl⟩
 rw [hoo] at PC ⊢
 have R0:=lh h
 have HO:=lh ho
 clear hoo ho h
 refine R0.out.opn ?_
 intros
 go_enter Tryz.func77,Tryz.ntmps77
 go_wp2_with (go_at_call 131;refine nxp (PC.out _ R0.out) (fun w1 Z=>?_) (fun w1 Z=>?_))
 ·first | go_end0 | refine bodyPost_ret (results_none rfl _ _ _) rfl ?_
  exact Z.out
 ·exact ⟨rfl,Z.out⟩
end
section
variable {w0 w w':World} {g:Nat} {F:Foot} {I:In} {os rs:List Int} {p q:Ps} {ov:Bool} {bs ks:List Int}
theorem psh_136 (h:PS w0 w g F I os os p p false bs ks) (ho:I.op=136):Calls Tryz.prog 73 #[.pointer (some ⟨g,0,none⟩)] w (Gp w0 g F I os p bs ks (shO ⟨os,p.key,p.il,p.cc,p.pg,p.ad,bs,ks⟩ I.op I.n (I.a os))):=by
 have hn:=h.ix.n
 have u0:=getD_in h.ro I.n
 have A0:=I.a_in os
 have SC:=lh (fun W (hW:PS w0 W g F I os os p p false bs ks)=>psec_c hW)
 obtain ⟨A,hA⟩:∃A,I.a os=A:=⟨_,rfl⟩
 rw [hA] at SC A0 ⊢
 clear hA
 obtain ⟨u,hu⟩:∃u,os.getD I.n 0=u:=⟨_,rfl⟩
 rw [hu] at u0
 have HU:=lh hu
 clear hu
 rw [ho]
 have HO:=lh ho
 have R0:=lh h
 clear ho h
 refine R0.out.opn ?_
 intros
 go_enter Tryz.func73,Tryz.ntmps73
 go_upto_region 0 with fail
 refine wp_region_held_drew (S:=Sy w0 g F I os p) (by kernel_rfl) R0.out.drew.x (fun hHeld=>?_)
 replace R0:=lh R0.out.drew
 repeat refine tkp ?_
 refine tkc (SC.out _ R0.out) (fun _ h=>h.x) ?_
 clear R0 hHeld
 intro w3 R1 hHeld
 repeat refine tkp ?_
 refine wpAnyH_done (by kernel_rfl) ?_ _
 refine R1.out.opn ?_
 clear hHeld
 intros
 go_upto_region 6 with fail
 refine wp_region_held_drew (S:=Sy w0 g F I os p) (by kernel_rfl) R1.out.drew.x (fun hHeld=>?_)
 replace R1:=lh R1.out.drew
 repeat refine tkp ?_
 refine tkz (shiftl_c u A false u0.1 u0.2 (by omega) (by omega) _) ?_
 repeat refine tkp ?_
 refine tpr R1.out hn ?_
 clear R1 hHeld
 intro w2 R1 hHeld
 repeat refine tkp ?_
 refine wpAnyH_done (by with_unfolding_all rfl) ?_ _
 refine R1.out.opn ?_
 clear hHeld
 intros
 go_wp2
 first | go_end0 | refine bodyPost_ret (results_none rfl _ _ _) rfl ?_
 exact gp_ok R1.out (by unfold shO;rw [if_neg (fun h=>absurd h.1 (by decide))];dsimp only;rw [← HU.out];rfl)
theorem psh_137 (h:PS w0 w g F I os os p p false bs ks) (ho:I.op=137):Calls Tryz.prog 73 #[.pointer (some ⟨g,0,none⟩)] w (Gp w0 g F I os p bs ks (shO ⟨os,p.key,p.il,p.cc,p.pg,p.ad,bs,ks⟩ I.op I.n (I.a os))):=by
 have hn:=h.ix.n
 have u0:=getD_in h.ro I.n
 have A0:=I.a_in os
 have SC:=lh (fun W (hW:PS w0 W g F I os os p p false bs ks)=>psec_c hW)
 obtain ⟨A,hA⟩:∃A,I.a os=A:=⟨_,rfl⟩
 rw [hA] at SC A0 ⊢
 clear hA
 obtain ⟨u,hu⟩:∃u,os.getD I.n 0=u:=⟨_,rfl⟩
 rw [hu] at u0
 have HU:=lh hu
 clear hu
 rw [ho]
 have HO:=lh ho
 have R0:=lh h
 clear ho h
 refine R0.out.opn ?_
 intros
 go_enter Tryz.func73,Tryz.ntmps73
 go_upto_region 0 with fail
 refine wp_region_held_drew (S:=Sy w0 g F I os p) (by kernel_rfl) R0.out.drew.x (fun hHeld=>?_)
 replace R0:=lh R0.out.drew
 repeat refine tkp ?_
 refine tkc (SC.out _ R0.out) (fun _ h=>h.x) ?_
 clear R0 hHeld
 intro w3 R1 hHeld
 repeat refine tkp ?_
 refine wpAnyH_done (by kernel_rfl) ?_ _
 refine R1.out.opn ?_
 clear hHeld
 intros
 go_upto_region 6 with fail
 refine wp_region_held_drew (S:=Sy w0 g F I os p) (by kernel_rfl) R1.out.drew.x (fun hHeld=>?_)
 replace R1:=lh R1.out.drew
 repeat refine tkp ?_
 refine tkz (shiftl_c u A true u0.1 u0.2 (by omega) (by omega) _) ?_
 repeat refine tkp ?_
 refine tpr R1.out hn ?_
 clear R1 hHeld
 intro w2 R1 hHeld
 repeat refine tkp ?_
 refine wpAnyH_done (by with_unfolding_all rfl) ?_ _
 refine R1.out.opn ?_
 clear hHeld
 intros
 go_wp2
 first | go_end0 | refine bodyPost_ret (results_none rfl _ _ _) rfl ?_
 exact gp_ok R1.out (by unfold shO;rw [if_neg (fun h=>absurd h.1 (by decide))];dsimp only;rw [← HU.out];rfl)
theorem psh_138 (h:PS w0 w g F I os os p p false bs ks) (ho:I.op=138):Calls Tryz.prog 73 #[.pointer (some ⟨g,0,none⟩)] w (Gp w0 g F I os p bs ks (shO ⟨os,p.key,p.il,p.cc,p.pg,p.ad,bs,ks⟩ I.op I.n (I.a os))):=by
 have hn:=h.ix.n
 have u0:=getD_in h.ro I.n
 have A0:=I.a_in os
 have SC:=lh (fun W (hW:PS w0 W g F I os os p p false bs ks)=>psec_c hW)
 obtain ⟨A,hA⟩:∃A,I.a os=A:=⟨_,rfl⟩
 rw [hA] at SC A0 ⊢
 clear hA
 obtain ⟨u,hu⟩:∃u,os.getD I.n 0=u:=⟨_,rfl⟩
 rw [hu] at u0
 have HU:=lh hu
 clear hu
 rw [ho]
 have HO:=lh ho
 have R0:=lh h
 clear ho h
 refine R0.out.opn ?_
 intros
 go_enter Tryz.func73,Tryz.ntmps73
 go_upto_region 0 with fail
 refine wp_region_held_drew (S:=Sy w0 g F I os p) (by kernel_rfl) R0.out.drew.x (fun hHeld=>?_)
 replace R0:=lh R0.out.drew
 repeat refine tkp ?_
 refine tkc (SC.out _ R0.out) (fun _ h=>h.x) ?_
 clear R0 hHeld
 intro w3 R1 hHeld
 repeat refine tkp ?_
 refine wpAnyH_done (by kernel_rfl) ?_ _
 refine R1.out.opn ?_
 clear hHeld
 intros
 go_upto_region 8 with fail
 refine wp_region_held_drew (S:=Sy w0 g F I os p) (by kernel_rfl) R1.out.drew.x (fun hHeld=>?_)
 replace R1:=lh R1.out.drew
 repeat refine tkp ?_
 refine tkz (shiftr_c u A u0.1 u0.2 (by omega) (by omega) _) ?_
 repeat refine tkp ?_
 refine tpr R1.out hn ?_
 clear R1 hHeld
 intro w2 R1 hHeld
 repeat refine tkp ?_
 refine tpc R1.out ?_
 clear R1 hHeld
 intro w2 R1 hHeld
 repeat refine tkp ?_
 refine wpAnyH_done (by with_unfolding_all rfl) ?_ _
 refine R1.out.opn ?_
 clear hHeld
 intros
 go_wp2
 first | go_end0 | refine bodyPost_ret (results_none rfl _ _ _) rfl ?_
 exact gp_ok R1.out (by unfold shO;rw [if_neg (fun h=>absurd h.1 (by decide))];dsimp only;rw [← HU.out];rfl)
theorem psh_139 (h:PS w0 w g F I os os p p false bs ks) (ho:I.op=139):Calls Tryz.prog 73 #[.pointer (some ⟨g,0,none⟩)] w (Gp w0 g F I os p bs ks (shO ⟨os,p.key,p.il,p.cc,p.pg,p.ad,bs,ks⟩ I.op I.n (I.a os))):=by
 have hn:=h.ix.n
 have u0:=getD_in h.ro I.n
 have A0:=I.a_in os
 have SC:=lh (fun W (hW:PS w0 W g F I os os p p false bs ks)=>psec_c hW)
 obtain ⟨A,hA⟩:∃A,I.a os=A:=⟨_,rfl⟩
 rw [hA] at SC A0 ⊢
 clear hA
 obtain ⟨u,hu⟩:∃u,os.getD I.n 0=u:=⟨_,rfl⟩
 rw [hu] at u0
 have HU:=lh hu
 clear hu
 rw [ho]
 have HO:=lh ho
 have R0:=lh h
 clear ho h
 refine R0.out.opn ?_
 intros
 go_enter Tryz.func73,Tryz.ntmps73
 go_upto_region 0 with fail
 refine wp_region_held_drew (S:=Sy w0 g F I os p) (by kernel_rfl) R0.out.drew.x (fun hHeld=>?_)
 replace R0:=lh R0.out.drew
 repeat refine tkp ?_
 refine tkc (SC.out _ R0.out) (fun _ h=>h.x) ?_
 clear R0 hHeld
 intro w3 R1 hHeld
 repeat refine tkp ?_
 refine wpAnyH_done (by kernel_rfl) ?_ _
 refine R1.out.opn ?_
 clear hHeld
 intros
 go_wp2_with (first
  | (go_at_call 107;refine nz (shiftla_c u A u0.1 u0.2 (by omega) (by omega) _) ?_)
  | (go_at_call 106;refine nx (pset_c R1.out _ _ _) ?_;intro w1 R1))
 first | go_end0 | refine bodyPost_ret (results_none rfl _ _ _) rfl ?_
 exact gp_ok R1.out (by unfold shO;rw [if_neg (fun h=>absurd h.1 (by decide))];dsimp only;rw [← HU.out];rfl)
theorem psh_140 (h:PS w0 w g F I os os p p false bs ks) (ho:I.op=140) (he:I.n % 2=0):Calls Tryz.prog 73 #[.pointer (some ⟨g,0,none⟩)] w (Gp w0 g F I os p bs ks (shO ⟨os,p.key,p.il,p.cc,p.pg,p.ad,bs,ks⟩ I.op I.n (I.a os))):=by
 have hn:=h.ix.n
 have u0:=getD_in h.ro I.n
 have A0:=I.a_in os
 have SC:=lh (fun W (hW:PS w0 W g F I os os p p false bs ks)=>psec_c hW)
 obtain ⟨A,hA⟩:∃A,I.a os=A:=⟨_,rfl⟩
 rw [hA] at SC A0 ⊢
 clear hA
 obtain ⟨u,hu⟩:∃u,os.getD I.n 0=u:=⟨_,rfl⟩
 rw [hu] at u0
 have HU:=lh hu
 clear hu
 have b0:=getD_in h.ro (I.n+1)
 obtain ⟨m,hm⟩:∃m,I.n+1=m:=⟨_,rfl⟩
 rw [hm] at b0
 obtain ⟨b,hb⟩:∃b,os.getD m 0=b:=⟨_,rfl⟩
 rw [hb] at b0
 have HB:=lh hb
 have HM:=lh hm
 have w1:IntKind.i64.wrap ((I.n:Int)+1)=(m:Int):=by rw [wrap_i64_id (by omega) (by omega)];omega
 have w2:IntKind.i64.wrap ((I.n:Int).tmod 2)=(I.n:Int) % 2:=by rw [Int.tmod_eq_emod_of_nonneg (by omega)];exact wrap_i64_id (by omega) (by omega)
 have e0:((I.n:Int) % 2 == 0)=true:=by simp;omega
 have m0:m<16:=by omega
 have m1:(m:Int)<16:=by omega
 have KB:Hid (∀W rs q ov bs ks,PS w0 W g F I os rs p q ov bs ks→W.cell? ⟨g,12+m,none⟩=some (.int .u32 b)):=lh fun W rs q ov bs ks h=>hb▸h.m.co m0
 have HE:Hid (∀op:Int,¬(140≤op∧I.n % 2=1)):=lh fun op h=>by omega
 clear hb hm he
 rw [ho]
 have HO:=lh ho
 have R0:=lh h
 clear ho h
 refine R0.out.opn ?_
 intros
 go_enter Tryz.func73,Tryz.ntmps73
 go_upto_region 0 with fail
 refine wp_region_held_drew (S:=Sy w0 g F I os p) (by kernel_rfl) R0.out.drew.x (fun hHeld=>?_)
 replace R0:=lh R0.out.drew
 repeat refine tkp ?_
 refine tkc (SC.out _ R0.out) (fun _ h=>h.x) ?_
 clear R0 hHeld
 intro w3 R1 hHeld
 repeat refine tkp ?_
 refine wpAnyH_done (by kernel_rfl) ?_ _
 refine R1.out.opn ?_
 clear hHeld
 intros
 go_upto_region 12 with (go_at_call 108;refine nxd (fun _=>?_) (fun h=>by cases h))
 refine wp_region_held_drew (S:=Sy w0 g F I os p) (by kernel_rfl) R1.out.drew.x (fun hHeld=>?_)
 replace R1:=lh R1.out.drew
 repeat refine tkp ?_
 refine tki 12 (y:=(by intro w hSw;obtain ⟨_,_,_,_,_,hx⟩:=hSw;have hx:=KB.out _ _ _ _ _ _ hx;go_simp;(try with_reducible rfl))) ?_
 repeat refine tkp ?_
 refine wpAnyH_done (by with_unfolding_all rfl) ?_ _
 refine R1.out.opn ?_
 clear hHeld
 intros
 go_upto_region 16 with fail
 refine wp_region_held_drew (S:=Sy w0 g F I os p) (by kernel_rfl) R1.out.drew.x (fun hHeld=>?_)
 replace R1:=lh R1.out.drew
 repeat refine tkp ?_
 refine tkz (shiftld_c u b A false u0.1 u0.2 b0.1 b0.2 (by omega) (by omega) _) ?_
 repeat refine tkp ?_
 refine tpr R1.out hn ?_
 clear R1 hHeld
 intro w2 R1 hHeld
 repeat refine tkp ?_
 refine tpr R1.out m0 ?_
 clear R1 hHeld
 intro w2 R1 hHeld
 repeat refine tkp ?_
 refine wpAnyH_done (by with_unfolding_all rfl) ?_ _
 refine R1.out.opn ?_
 clear hHeld
 intros
 go_wp2
 first | go_end0 | refine bodyPost_ret (results_none rfl _ _ _) rfl ?_
 exact gp_ok R1.out (by unfold shO;rw [if_neg (HE.out _)];dsimp only;rw [← HU.out,← HB.out,← HM.out];rfl)
theorem psh_141 (h:PS w0 w g F I os os p p false bs ks) (ho:I.op=141) (he:I.n % 2=0):Calls Tryz.prog 73 #[.pointer (some ⟨g,0,none⟩)] w (Gp w0 g F I os p bs ks (shO ⟨os,p.key,p.il,p.cc,p.pg,p.ad,bs,ks⟩ I.op I.n (I.a os))):=by
 have hn:=h.ix.n
 have u0:=getD_in h.ro I.n
 have A0:=I.a_in os
 have SC:=lh (fun W (hW:PS w0 W g F I os os p p false bs ks)=>psec_c hW)
 obtain ⟨A,hA⟩:∃A,I.a os=A:=⟨_,rfl⟩
 rw [hA] at SC A0 ⊢
 clear hA
 obtain ⟨u,hu⟩:∃u,os.getD I.n 0=u:=⟨_,rfl⟩
 rw [hu] at u0
 have HU:=lh hu
 clear hu
 have b0:=getD_in h.ro (I.n+1)
 obtain ⟨m,hm⟩:∃m,I.n+1=m:=⟨_,rfl⟩
 rw [hm] at b0
 obtain ⟨b,hb⟩:∃b,os.getD m 0=b:=⟨_,rfl⟩
 rw [hb] at b0
 have HB:=lh hb
 have HM:=lh hm
 have w1:IntKind.i64.wrap ((I.n:Int)+1)=(m:Int):=by rw [wrap_i64_id (by omega) (by omega)];omega
 have w2:IntKind.i64.wrap ((I.n:Int).tmod 2)=(I.n:Int) % 2:=by rw [Int.tmod_eq_emod_of_nonneg (by omega)];exact wrap_i64_id (by omega) (by omega)
 have e0:((I.n:Int) % 2 == 0)=true:=by simp;omega
 have m0:m<16:=by omega
 have m1:(m:Int)<16:=by omega
 have KB:Hid (∀W rs q ov bs ks,PS w0 W g F I os rs p q ov bs ks→W.cell? ⟨g,12+m,none⟩=some (.int .u32 b)):=lh fun W rs q ov bs ks h=>hb▸h.m.co m0
 have HE:Hid (∀op:Int,¬(140≤op∧I.n % 2=1)):=lh fun op h=>by omega
 clear hb hm he
 rw [ho]
 have HO:=lh ho
 have R0:=lh h
 clear ho h
 refine R0.out.opn ?_
 intros
 go_enter Tryz.func73,Tryz.ntmps73
 go_upto_region 0 with fail
 refine wp_region_held_drew (S:=Sy w0 g F I os p) (by kernel_rfl) R0.out.drew.x (fun hHeld=>?_)
 replace R0:=lh R0.out.drew
 repeat refine tkp ?_
 refine tkc (SC.out _ R0.out) (fun _ h=>h.x) ?_
 clear R0 hHeld
 intro w3 R1 hHeld
 repeat refine tkp ?_
 refine wpAnyH_done (by kernel_rfl) ?_ _
 refine R1.out.opn ?_
 clear hHeld
 intros
 go_upto_region 12 with (go_at_call 108;refine nxd (fun _=>?_) (fun h=>by cases h))
 refine wp_region_held_drew (S:=Sy w0 g F I os p) (by kernel_rfl) R1.out.drew.x (fun hHeld=>?_)
 replace R1:=lh R1.out.drew
 repeat refine tkp ?_
 refine tki 12 (y:=(by intro w hSw;obtain ⟨_,_,_,_,_,hx⟩:=hSw;have hx:=KB.out _ _ _ _ _ _ hx;go_simp;(try with_reducible rfl))) ?_
 repeat refine tkp ?_
 refine wpAnyH_done (by with_unfolding_all rfl) ?_ _
 refine R1.out.opn ?_
 clear hHeld
 intros
 go_upto_region 16 with fail
 refine wp_region_held_drew (S:=Sy w0 g F I os p) (by kernel_rfl) R1.out.drew.x (fun hHeld=>?_)
 replace R1:=lh R1.out.drew
 repeat refine tkp ?_
 refine tkz (shiftld_c u b A true u0.1 u0.2 b0.1 b0.2 (by omega) (by omega) _) ?_
 repeat refine tkp ?_
 refine tpr R1.out hn ?_
 clear R1 hHeld
 intro w2 R1 hHeld
 repeat refine tkp ?_
 refine tpr R1.out m0 ?_
 clear R1 hHeld
 intro w2 R1 hHeld
 repeat refine tkp ?_
 refine wpAnyH_done (by with_unfolding_all rfl) ?_ _
 refine R1.out.opn ?_
 clear hHeld
 intros
 go_wp2
 first | go_end0 | refine bodyPost_ret (results_none rfl _ _ _) rfl ?_
 exact gp_ok R1.out (by unfold shO;rw [if_neg (HE.out _)];dsimp only;rw [← HU.out,← HB.out,← HM.out];rfl)
theorem psh_142 (h:PS w0 w g F I os os p p false bs ks) (ho:I.op=142) (he:I.n % 2=0):Calls Tryz.prog 73 #[.pointer (some ⟨g,0,none⟩)] w (Gp w0 g F I os p bs ks (shO ⟨os,p.key,p.il,p.cc,p.pg,p.ad,bs,ks⟩ I.op I.n (I.a os))):=by
 have hn:=h.ix.n
 have u0:=getD_in h.ro I.n
 have A0:=I.a_in os
 have SC:=lh (fun W (hW:PS w0 W g F I os os p p false bs ks)=>psec_c hW)
 obtain ⟨A,hA⟩:∃A,I.a os=A:=⟨_,rfl⟩
 rw [hA] at SC A0 ⊢
 clear hA
 obtain ⟨u,hu⟩:∃u,os.getD I.n 0=u:=⟨_,rfl⟩
 rw [hu] at u0
 have HU:=lh hu
 clear hu
 have b0:=getD_in h.ro (I.n+1)
 obtain ⟨m,hm⟩:∃m,I.n+1=m:=⟨_,rfl⟩
 rw [hm] at b0
 obtain ⟨b,hb⟩:∃b,os.getD m 0=b:=⟨_,rfl⟩
 rw [hb] at b0
 have HB:=lh hb
 have HM:=lh hm
 have w1:IntKind.i64.wrap ((I.n:Int)+1)=(m:Int):=by rw [wrap_i64_id (by omega) (by omega)];omega
 have w2:IntKind.i64.wrap ((I.n:Int).tmod 2)=(I.n:Int) % 2:=by rw [Int.tmod_eq_emod_of_nonneg (by omega)];exact wrap_i64_id (by omega) (by omega)
 have e0:((I.n:Int) % 2 == 0)=true:=by simp;omega
 have m0:m<16:=by omega
 have m1:(m:Int)<16:=by omega
 have KB:Hid (∀W rs q ov bs ks,PS w0 W g F I os rs p q ov bs ks→W.cell? ⟨g,12+m,none⟩=some (.int .u32 b)):=lh fun W rs q ov bs ks h=>hb▸h.m.co m0
 have HE:Hid (∀op:Int,¬(140≤op∧I.n % 2=1)):=lh fun op h=>by omega
 clear hb hm he
 rw [ho]
 have HO:=lh ho
 have R0:=lh h
 clear ho h
 refine R0.out.opn ?_
 intros
 go_enter Tryz.func73,Tryz.ntmps73
 go_upto_region 0 with fail
 refine wp_region_held_drew (S:=Sy w0 g F I os p) (by kernel_rfl) R0.out.drew.x (fun hHeld=>?_)
 replace R0:=lh R0.out.drew
 repeat refine tkp ?_
 refine tkc (SC.out _ R0.out) (fun _ h=>h.x) ?_
 clear R0 hHeld
 intro w3 R1 hHeld
 repeat refine tkp ?_
 refine wpAnyH_done (by kernel_rfl) ?_ _
 refine R1.out.opn ?_
 clear hHeld
 intros
 go_upto_region 12 with (go_at_call 108;refine nxd (fun _=>?_) (fun h=>by cases h))
 refine wp_region_held_drew (S:=Sy w0 g F I os p) (by kernel_rfl) R1.out.drew.x (fun hHeld=>?_)
 replace R1:=lh R1.out.drew
 repeat refine tkp ?_
 refine tki 12 (y:=(by intro w hSw;obtain ⟨_,_,_,_,_,hx⟩:=hSw;have hx:=KB.out _ _ _ _ _ _ hx;go_simp;(try with_reducible rfl))) ?_
 repeat refine tkp ?_
 refine wpAnyH_done (by with_unfolding_all rfl) ?_ _
 refine R1.out.opn ?_
 clear hHeld
 intros
 go_upto_region 18 with fail
 refine wp_region_held_drew (S:=Sy w0 g F I os p) (by kernel_rfl) R1.out.drew.x (fun hHeld=>?_)
 replace R1:=lh R1.out.drew
 repeat refine tkp ?_
 refine tkz (shiftrd_c u b A u0.1 u0.2 b0.1 b0.2 (by omega) (by omega) _) ?_
 repeat refine tkp ?_
 refine tpr R1.out hn ?_
 clear R1 hHeld
 intro w2 R1 hHeld
 repeat refine tkp ?_
 refine tpr R1.out m0 ?_
 clear R1 hHeld
 intro w2 R1 hHeld
 repeat refine tkp ?_
 refine tpc R1.out ?_
 clear R1 hHeld
 intro w2 R1 hHeld
 repeat refine tkp ?_
 refine wpAnyH_done (by with_unfolding_all rfl) ?_ _
 refine R1.out.opn ?_
 clear hHeld
 intros
 go_wp2
 first | go_end0 | refine bodyPost_ret (results_none rfl _ _ _) rfl ?_
 exact gp_ok R1.out (by unfold shO;rw [if_neg (HE.out _)];dsimp only;rw [← HU.out,← HB.out,← HM.out];rfl)
theorem psh_143 (h:PS w0 w g F I os os p p false bs ks) (ho:I.op=143) (he:I.n % 2=0):Calls Tryz.prog 73 #[.pointer (some ⟨g,0,none⟩)] w (Gp w0 g F I os p bs ks (shO ⟨os,p.key,p.il,p.cc,p.pg,p.ad,bs,ks⟩ I.op I.n (I.a os))):=by
 have hn:=h.ix.n
 have u0:=getD_in h.ro I.n
 have A0:=I.a_in os
 have SC:=lh (fun W (hW:PS w0 W g F I os os p p false bs ks)=>psec_c hW)
 obtain ⟨A,hA⟩:∃A,I.a os=A:=⟨_,rfl⟩
 rw [hA] at SC A0 ⊢
 clear hA
 obtain ⟨u,hu⟩:∃u,os.getD I.n 0=u:=⟨_,rfl⟩
 rw [hu] at u0
 have HU:=lh hu
 clear hu
 have b0:=getD_in h.ro (I.n+1)
 obtain ⟨m,hm⟩:∃m,I.n+1=m:=⟨_,rfl⟩
 rw [hm] at b0
 obtain ⟨b,hb⟩:∃b,os.getD m 0=b:=⟨_,rfl⟩
 rw [hb] at b0
 have HB:=lh hb
 have HM:=lh hm
 have w1:IntKind.i64.wrap ((I.n:Int)+1)=(m:Int):=by rw [wrap_i64_id (by omega) (by omega)];omega
 have w2:IntKind.i64.wrap ((I.n:Int).tmod 2)=(I.n:Int) % 2:=by rw [Int.tmod_eq_emod_of_nonneg (by omega)];exact wrap_i64_id (by omega) (by omega)
 have e0:((I.n:Int) % 2 == 0)=true:=by simp;omega
 have m0:m<16:=by omega
 have m1:(m:Int)<16:=by omega
 have KB:Hid (∀W rs q ov bs ks,PS w0 W g F I os rs p q ov bs ks→W.cell? ⟨g,12+m,none⟩=some (.int .u32 b)):=lh fun W rs q ov bs ks h=>hb▸h.m.co m0
 have HE:Hid (∀op:Int,¬(140≤op∧I.n % 2=1)):=lh fun op h=>by omega
 clear hb hm he
 rw [ho]
 have HO:=lh ho
 have R0:=lh h
 clear ho h
 refine R0.out.opn ?_
 intros
 go_enter Tryz.func73,Tryz.ntmps73
 go_upto_region 0 with fail
 refine wp_region_held_drew (S:=Sy w0 g F I os p) (by kernel_rfl) R0.out.drew.x (fun hHeld=>?_)
 replace R0:=lh R0.out.drew
 repeat refine tkp ?_
 refine tkc (SC.out _ R0.out) (fun _ h=>h.x) ?_
 clear R0 hHeld
 intro w3 R1 hHeld
 repeat refine tkp ?_
 refine wpAnyH_done (by kernel_rfl) ?_ _
 refine R1.out.opn ?_
 clear hHeld
 intros
 go_upto_region 12 with (go_at_call 108;refine nxd (fun _=>?_) (fun h=>by cases h))
 refine wp_region_held_drew (S:=Sy w0 g F I os p) (by kernel_rfl) R1.out.drew.x (fun hHeld=>?_)
 replace R1:=lh R1.out.drew
 repeat refine tkp ?_
 refine tki 12 (y:=(by intro w hSw;obtain ⟨_,_,_,_,_,hx⟩:=hSw;have hx:=KB.out _ _ _ _ _ _ hx;go_simp;(try with_reducible rfl))) ?_
 repeat refine tkp ?_
 refine wpAnyH_done (by with_unfolding_all rfl) ?_ _
 refine R1.out.opn ?_
 clear hHeld
 intros
 go_upto_region 20 with fail
 refine wp_region_held_drew (S:=Sy w0 g F I os p) (by kernel_rfl) R1.out.drew.x (fun hHeld=>?_)
 replace R1:=lh R1.out.drew
 repeat refine tkp ?_
 refine tkz (shiftlad_c u b A u0.1 u0.2 b0.1 b0.2 (by omega) (by omega) _) ?_
 repeat refine tkp ?_
 refine tpr R1.out hn ?_
 clear R1 hHeld
 intro w2 R1 hHeld
 repeat refine tkp ?_
 refine tpr R1.out m0 ?_
 clear R1 hHeld
 intro w2 R1 hHeld
 repeat refine tkp ?_
 refine tpc R1.out ?_
 clear R1 hHeld
 intro w2 R1 hHeld
 repeat refine tkp ?_
 refine tpv R1.out ?_
 clear R1 hHeld
 intro w2 R1 hHeld
 repeat refine tkp ?_
 refine wpAnyH_done (by with_unfolding_all rfl) ?_ _
 refine R1.out.opn ?_
 clear hHeld
 intros
 go_wp2
 first | go_end0 | refine bodyPost_ret (results_none rfl _ _ _) rfl ?_
 exact gp_ok R1.out (by unfold shO;rw [if_neg (HE.out _)];dsimp only;rw [← HU.out,← HB.out,← HM.out];rfl)
theorem psh_odd (h:PS w0 w g F I os os p p false bs ks) (ho:140≤I.op∧I.op≤143) (he:I.n % 2=1):Calls Tryz.prog 73 #[.pointer (some ⟨g,0,none⟩)] w (Gp w0 g F I os p bs ks (shO ⟨os,p.key,p.il,p.cc,p.pg,p.ad,bs,ks⟩ I.op I.n (I.a os))):=by
 have nn:=h.ix.n
 have SC:=lh (fun W (hW:PS w0 W g F I os os p p false bs ks)=>psec_c hW)
 have w2:IntKind.i64.wrap ((I.n:Int).tmod 2)=(I.n:Int) % 2:=by rw [Int.tmod_eq_emod_of_nonneg (by omega)];exact wrap_i64_id (by omega) (by omega)
 have e0:((I.n:Int) % 2 == 0)=false:=by simp;omega
 have HA:=lh (show shO ⟨os,p.key,p.il,p.cc,p.pg,p.ad,bs,ks⟩ I.op I.n (I.a os)=Pre.no ⟨os,p.key,p.il,p.cc,p.pg,p.ad,bs,ks⟩ 6 from if_pos ⟨ho.1,he⟩)
 obtain ⟨A,hA⟩:∃A,I.a os=A:=⟨_,rfl⟩
 rw [hA] at SC HA ⊢
 have e1:¬ I.op<140:=by omega
 have R0:=lh h
 clear hA ho he h
 refine R0.out.opn ?_
 intros
 go_enter Tryz.func73,Tryz.ntmps73
 go_upto_region 0 with fail
 refine wp_region_held_drew (S:=Sy w0 g F I os p) (by kernel_rfl) R0.out.drew.x (fun hHeld=>?_)
 replace R0:=lh R0.out.drew
 repeat refine tkp ?_
 refine tkc (SC.out _ R0.out) (fun _ h=>h.x) ?_
 clear R0 hHeld
 intro w3 R1 hHeld
 repeat refine tkp ?_
 refine wpAnyH_done (by kernel_rfl) ?_ _
 refine R1.out.opn ?_
 clear hHeld
 intros
 go_wp2_with (go_at_call 108;refine nxd (fun h=>by cases h) (fun _=>?_))
 exact ⟨rfl,gp_no R1.out (congrArg Out.c HA.out) (by show (6:Int)≠0;decide)⟩
end
section
variable {w0 w w':World} {g:Nat} {F:Foot} {I:In} {os rs:List Int} {p q:Ps} {ov:Bool} {bs ks:List Int}
theorem pbr_4 (h:PS w0 w g F I os os p p false bs ks) (ho:I.op=4):Calls Tryz.prog 72 #[.pointer (some ⟨g,0,none⟩)] w (Gp w0 g F I os p bs ks (brO ⟨os,p.key,p.il,p.cc,p.pg,p.ad,bs,ks⟩ I.op I.n I.k (I.a os))):=by
 have hn:=h.ix.n
 have hk:=h.ix.k
 have u0:=getD_in h.ro I.n
 have v0:=getD_in h.ro I.k
 have A0:=I.a_in os
 have SC:=lh (fun W rs q (hW:PS w0 W g F I os rs p q false bs ks)=>psec_c hW)
 obtain ⟨A,hA⟩:∃A,I.a os=A:=⟨_,rfl⟩
 rw [hA] at SC A0 ⊢
 clear hA
 obtain ⟨u,hu⟩:∃u,os.getD I.n 0=u:=⟨_,rfl⟩
 obtain ⟨v,hv⟩:∃v,os.getD I.k 0=v:=⟨_,rfl⟩
 rw [hu] at u0
 rw [hv] at v0
 have r1:IntKind.i64.wrap v=v:=wrap_i64_id (by omega) (by omega)
 have r2:v.tmod 16777216=v % 16777216:=Int.tmod_eq_emod_of_nonneg v0.1
 have HU:=lh hu
 have HV:=lh hv
 have e3:IntKind.i64.wrap (bits .and .u32 (u / 268435456) 3)=u / 268435456 % 4:=by
  rw [u32_low 2 3 _ (by rfl) (by omega) (by omega) (by omega)];rw [wrap_i64_id (by omega) (by omega)]
  rfl
 have e4:IntKind.i64.wrap (bits .and .u32 (u / 16777216) 15)=u / 16777216 % 16:=by
  rw [u32_low 4 15 _ (by rfl) (by omega) (by omega) (by omega)];rw [wrap_i64_id (by omega) (by omega)]
  rfl
 rw [ho]
 have HO:=lh ho
 have R0:=lh h
 clear hu hv ho h
 refine R0.out.opn ?_
 intros
 go_enter Tryz.func72,Tryz.ntmps72
 go_upto_region 0 with fail
 refine wp_region_held_drew (S:=Sy w0 g F I os p) (by kernel_rfl) R0.out.drew.x (fun hHeld=>?_)
 have R1:=lh R0.out.drew
 clear R0
 repeat refine tkp ?_
 refine wpAnyH_done (by kernel_rfl) ?_ _
 refine R1.out.opn ?_
 clear hHeld
 intros
 go_wp2
 first | go_end0 | refine bodyPost_ret (results_none rfl _ _ _) rfl ?_
 exact gp_ok ((R1.out.setcc _).setpg _) (by rw [← HU.out];rfl)
theorem gp_br {T:Bool} {V:Int} (hR:PS w0 w g F I os rs p (if T=true then { p with ad:=V } else p) false bs ks):Gp w0 g F I os p bs ks (Pre.br ⟨os,p.key,p.il,p.cc,p.pg,p.ad,bs,ks⟩ rs T V) (.returned (.tuple #[])) w:=by
 cases T
 ·exact gp_ok hR rfl
 ·exact gp_ok hR rfl
theorem or_odd (k:Nat) (hk:k<16):bits .or .i64 (k:Int) 1=((k / 2*2+1:Nat):Int):=by
 revert hk
 have:∀k:Nat,k<16→bits .or .i64 (k:Int) 1=((k / 2*2+1:Nat):Int):=by decide +kernel
 exact this k
theorem pbr_6 (h:PS w0 w g F I os os p p false bs ks) (ho:I.op=6) (hf:I.fm=1):Calls Tryz.prog 72 #[.pointer (some ⟨g,0,none⟩)] w (Gp w0 g F I os p bs ks (brO ⟨os,p.key,p.il,p.cc,p.pg,p.ad,bs,ks⟩ I.op I.n I.k (I.a os))):=by
 have hn:=h.ix.n
 have hk:=h.ix.k
 have u0:=getD_in h.ro I.n
 have v0:=getD_in h.ro I.k
 have A0:=I.a_in os
 have SC:=lh (fun W rs q (hW:PS w0 W g F I os rs p q false bs ks)=>psec_c hW)
 obtain ⟨A,hA⟩:∃A,I.a os=A:=⟨_,rfl⟩
 rw [hA] at SC A0 ⊢
 clear hA
 obtain ⟨u,hu⟩:∃u,os.getD I.n 0=u:=⟨_,rfl⟩
 obtain ⟨v,hv⟩:∃v,os.getD I.k 0=v:=⟨_,rfl⟩
 rw [hu] at u0
 rw [hv] at v0
 have r1:IntKind.i64.wrap v=v:=wrap_i64_id (by omega) (by omega)
 have r2:v.tmod 16777216=v % 16777216:=Int.tmod_eq_emod_of_nonneg v0.1
 have HU:=lh hu
 have HV:=lh hv
 have hF:=lh hf
 have ef:(I.fm == 1)=true:=by simpa using hf
 clear hf
 have kz:(I.k=0∧((I.k:Int) != 0)=false)∨(I.k≠0∧((I.k:Int) != 0)=true):=by by_cases h:I.k=0<;>simp [h]
 rw [ho]
 have HO:=lh ho
 have HE:=lh (show brO ⟨os,p.key,p.il,p.cc,p.pg,p.ad,bs,ks⟩ 6 I.n I.k A=Pre.br ⟨os,p.key,p.il,p.cc,p.pg,p.ad,bs,ks⟩ (os.set I.n (lo32 (u - 1))) ((u != 1) && decide (I.k≠0)) (v % 16777216) from by first | (rw [← hu,← hv];rfl) | (rw [← hu];rfl) | (rw [← hv];rfl) | rfl)
 have R0:=lh h
 clear hu hv ho h
 cases h1:(u != 1)<;>rcases kz with ⟨k0,k1⟩ | ⟨k0,k1⟩
 all_goals
  have H1:=lh h1
  have K0:=lh k0
  clear k0
 all_goals
  refine R0.out.opn ?_
  intros
  go_enter Tryz.func72,Tryz.ntmps72
  go_upto_region 0 with fail
  refine wp_region_held_drew (S:=Sy w0 g F I os p) (by kernel_rfl) R0.out.drew.x (fun hHeld=>?_)
  have R1:=lh R0.out.drew
  clear R0
  repeat refine tkp ?_
  refine wpAnyH_done (by kernel_rfl) ?_ _
  refine R1.out.opn ?_
  clear hHeld
  intros
  go_upto_region 10 with fail
  refine wp_region_held_drew (S:=Sy w0 g F I os p) (by kernel_rfl) R1.out.drew.x (fun hHeld=>?_)
  replace R1:=lh R1.out.drew
  repeat refine tkp ?_
  refine tpr R1.out hn ?_
  clear R1 hHeld
  intro w2 R1 hHeld
  repeat refine tkp ?_
  refine wpAnyH_done (by with_unfolding_all rfl) ?_ _
  refine R1.out.opn ?_
  clear hHeld
  intros
  go_upto_region 22 with (go_at_call 74;refine nx (SC.out _ _ _ R1.out) ?_;clear R1;intro w8 R1;refine R1.out.opn ?_;intros)
  refine wp_region_held_drew (S:=Sy w0 g F I os p) (by kernel_rfl) R1.out.drew.x (fun hHeld=>?_)
  replace R1:=lh R1.out.drew
  repeat refine tkp ?_
  refine wpAnyH_done (by with_unfolding_all rfl) ?_ _
  refine R1.out.opn ?_
  clear hHeld
  intros
  go_wp2
  first | go_end0 | refine bodyPost_ret (results_none rfl _ _ _) rfl ?_
  exact HE.out▸gp_br (by first | (rw [if_pos (by simp [H1.out,K0.out])];exact R1.out.setad _) | (rw [if_neg (by simp [H1.out,K0.out])];exact R1.out))
theorem pbr_70 (h:PS w0 w g F I os os p p false bs ks) (ho:I.op=70) (hf:I.fm≠1):Calls Tryz.prog 72 #[.pointer (some ⟨g,0,none⟩)] w (Gp w0 g F I os p bs ks (brO ⟨os,p.key,p.il,p.cc,p.pg,p.ad,bs,ks⟩ I.op I.n I.k (I.a os))):=by
 have hn:=h.ix.n
 have hk:=h.ix.k
 have u0:=getD_in h.ro I.n
 have v0:=getD_in h.ro I.k
 have A0:=I.a_in os
 have SC:=lh (fun W rs q (hW:PS w0 W g F I os rs p q false bs ks)=>psec_c hW)
 obtain ⟨A,hA⟩:∃A,I.a os=A:=⟨_,rfl⟩
 rw [hA] at SC A0 ⊢
 clear hA
 obtain ⟨u,hu⟩:∃u,os.getD I.n 0=u:=⟨_,rfl⟩
 obtain ⟨v,hv⟩:∃v,os.getD I.k 0=v:=⟨_,rfl⟩
 rw [hu] at u0
 rw [hv] at v0
 have r1:IntKind.i64.wrap v=v:=wrap_i64_id (by omega) (by omega)
 have r2:v.tmod 16777216=v % 16777216:=Int.tmod_eq_emod_of_nonneg v0.1
 have HU:=lh hu
 have HV:=lh hv
 have hF:=lh hf
 have ef:(I.fm == 1)=false:=by simpa using hf
 clear hf
 rw [ho]
 have HO:=lh ho
 have HE:=lh (show brO ⟨os,p.key,p.il,p.cc,p.pg,p.ad,bs,ks⟩ 70 I.n I.k A=Pre.br ⟨os,p.key,p.il,p.cc,p.pg,p.ad,bs,ks⟩ (os.set I.n (lo32 (u - 1))) (u != 1) (A) from by first | (rw [← hu,← hv];rfl) | (rw [← hu];rfl) | (rw [← hv];rfl) | rfl)
 have R0:=lh h
 clear hu hv ho h
 cases h1:(u != 1)
 all_goals
  have H1:=lh h1
 all_goals
  refine R0.out.opn ?_
  intros
  go_enter Tryz.func72,Tryz.ntmps72
  go_upto_region 0 with fail
  refine wp_region_held_drew (S:=Sy w0 g F I os p) (by kernel_rfl) R0.out.drew.x (fun hHeld=>?_)
  have R1:=lh R0.out.drew
  clear R0
  repeat refine tkp ?_
  refine wpAnyH_done (by kernel_rfl) ?_ _
  refine R1.out.opn ?_
  clear hHeld
  intros
  go_upto_region 10 with fail
  refine wp_region_held_drew (S:=Sy w0 g F I os p) (by kernel_rfl) R1.out.drew.x (fun hHeld=>?_)
  replace R1:=lh R1.out.drew
  repeat refine tkp ?_
  refine tpr R1.out hn ?_
  clear R1 hHeld
  intro w2 R1 hHeld
  repeat refine tkp ?_
  refine wpAnyH_done (by with_unfolding_all rfl) ?_ _
  refine R1.out.opn ?_
  clear hHeld
  intros
  go_wp2_with (go_at_call 74;refine nx (SC.out _ _ _ R1.out) ?_;clear R1;intro w8 R1;refine R1.out.opn ?_;intros)
  first | go_end0 | refine bodyPost_ret (results_none rfl _ _ _) rfl ?_
  exact HE.out▸gp_br (by first | (rw [if_pos (by simp [H1.out])];exact R1.out.setad _) | (rw [if_neg (by simp [H1.out])];exact R1.out))
theorem pbr_5 (h:PS w0 w g F I os os p p false bs ks) (ho:I.op=5) (hp:p.ok) (hf:I.fm=1):Calls Tryz.prog 72 #[.pointer (some ⟨g,0,none⟩)] w (Gp w0 g F I os p bs ks (brO ⟨os,p.key,p.il,p.cc,p.pg,p.ad,bs,ks⟩ I.op I.n I.k (I.a os))):=by
 have hn:=h.ix.n
 have hk:=h.ix.k
 have u0:=getD_in h.ro I.n
 have v0:=getD_in h.ro I.k
 have A0:=I.a_in os
 have SC:=lh (fun W rs q (hW:PS w0 W g F I os rs p q false bs ks)=>psec_c hW)
 obtain ⟨A,hA⟩:∃A,I.a os=A:=⟨_,rfl⟩
 rw [hA] at SC A0 ⊢
 clear hA
 obtain ⟨u,hu⟩:∃u,os.getD I.n 0=u:=⟨_,rfl⟩
 obtain ⟨v,hv⟩:∃v,os.getD I.k 0=v:=⟨_,rfl⟩
 rw [hu] at u0
 rw [hv] at v0
 have r1:IntKind.i64.wrap v=v:=wrap_i64_id (by omega) (by omega)
 have r2:v.tmod 16777216=v % 16777216:=Int.tmod_eq_emod_of_nonneg v0.1
 have HU:=lh hu
 have HV:=lh hv
 have hF:=lh hf
 have ef:(I.fm == 1)=true:=by simpa using hf
 clear hf
 have kz:(I.k=0∧((I.k:Int) != 0)=false)∨(I.k≠0∧((I.k:Int) != 0)=true):=by by_cases h:I.k=0<;>simp [h]
 obtain ⟨⟨i0,i1⟩,⟨q0,q1⟩,⟨g0,g1⟩,⟨a0,a1⟩⟩:=hp
 have s1:IntKind.u32.wrap p.il=p.il:=lo32_id _ (by omega) (by omega)
 have s2:IntKind.u32.wrap (p.il*1073741824)=p.il*1073741824:=lo32_id _ (by omega) (by omega)
 have s3:IntKind.u32.wrap p.cc=p.cc:=lo32_id _ (by omega) (by omega)
 have s4:IntKind.u32.wrap (p.cc*268435456)=p.cc*268435456:=lo32_id _ (by omega) (by omega)
 have s5:IntKind.u32.wrap p.pg=p.pg:=lo32_id _ (by omega) (by omega)
 have s6:IntKind.u32.wrap (p.pg*16777216)=p.pg*16777216:=lo32_id _ (by omega) (by omega)
 have s7:IntKind.u32.wrap p.ad=p.ad:=lo32_id _ (by omega) (by omega)
 have l1:bits .or .u32 (p.il*1073741824) (p.cc*268435456)=p.il*1073741824+p.cc*268435456:=or_32 30 _ _ 1073741824 (by rfl) (by omega) (by omega) (by omega) (by omega) (by omega) (by omega)
 have l2:bits .or .u32 (p.il*1073741824+p.cc*268435456) (p.pg*16777216)=p.il*1073741824+p.cc*268435456+p.pg*16777216:=or_32 28 _ _ 268435456 (by rfl) (by omega) (by omega) (by omega) (by omega) (by omega) (by omega)
 have l3:bits .or .u32 (p.il*1073741824+p.cc*268435456+p.pg*16777216) p.ad=p.il*1073741824+p.cc*268435456+p.pg*16777216+p.ad:=or_32 24 _ _ 16777216 (by rfl) (by omega) (by omega) (by omega) (by omega) (by omega) (by omega)
 clear i0 i1 q0 q1 g0 g1 a0 a1
 rw [ho]
 have HO:=lh ho
 have HE:=lh (show brO ⟨os,p.key,p.il,p.cc,p.pg,p.ad,bs,ks⟩ 5 I.n I.k A=Pre.br ⟨os,p.key,p.il,p.cc,p.pg,p.ad,bs,ks⟩ (os.set I.n (p.il*1073741824+p.cc*268435456+p.pg*16777216+p.ad)) (decide (I.k≠0)) (v % 16777216) from by first | (rw [← hu,← hv];rfl) | (rw [← hu];rfl) | (rw [← hv];rfl) | rfl)
 have R0:=lh h
 clear hu hv ho h
 rcases kz with ⟨k0,k1⟩ | ⟨k0,k1⟩
 all_goals
  have K0:=lh k0
  clear k0
 all_goals
  refine R0.out.opn ?_
  intros
  go_enter Tryz.func72,Tryz.ntmps72
  go_upto_region 0 with fail
  refine wp_region_held_drew (S:=Sy w0 g F I os p) (by kernel_rfl) R0.out.drew.x (fun hHeld=>?_)
  have R1:=lh R0.out.drew
  clear R0
  repeat refine tkp ?_
  refine wpAnyH_done (by kernel_rfl) ?_ _
  refine R1.out.opn ?_
  clear hHeld
  intros
  go_upto_region 7 with fail
  refine wp_region_held_drew (S:=Sz w0 g F I os p p) (by kernel_rfl) R1.out.drew.z (fun hHeld=>?_)
  replace R1:=lh R1.out.drew
  repeat refine tkp4 ?_
  refine tpr R1.out hn ?_
  clear R1 hHeld
  intro w2 R1 hHeld
  repeat refine tkp4 ?_
  refine wpAnyH_done (by with_unfolding_all rfl) ?_ _
  refine R1.out.opn ?_
  clear hHeld
  intros
  go_upto_region 22 with (go_at_call 74;refine nx (SC.out _ _ _ R1.out) ?_;clear R1;intro w8 R1;refine R1.out.opn ?_;intros)
  refine wp_region_held_drew (S:=Sy w0 g F I os p) (by kernel_rfl) R1.out.drew.x (fun hHeld=>?_)
  replace R1:=lh R1.out.drew
  repeat refine tkp ?_
  refine wpAnyH_done (by with_unfolding_all rfl) ?_ _
  refine R1.out.opn ?_
  clear hHeld
  intros
  go_wp2
  first | go_end0 | refine bodyPost_ret (results_none rfl _ _ _) rfl ?_
  exact HE.out▸gp_br (by first | (rw [if_pos (by simp [K0.out])];exact R1.out.setad _) | (rw [if_neg (by simp [K0.out])];exact R1.out))
theorem pbr_69 (h:PS w0 w g F I os os p p false bs ks) (ho:I.op=69) (hp:p.ok) (hf:I.fm≠1):Calls Tryz.prog 72 #[.pointer (some ⟨g,0,none⟩)] w (Gp w0 g F I os p bs ks (brO ⟨os,p.key,p.il,p.cc,p.pg,p.ad,bs,ks⟩ I.op I.n I.k (I.a os))):=by
 have hn:=h.ix.n
 have hk:=h.ix.k
 have u0:=getD_in h.ro I.n
 have v0:=getD_in h.ro I.k
 have A0:=I.a_in os
 have SC:=lh (fun W rs q (hW:PS w0 W g F I os rs p q false bs ks)=>psec_c hW)
 obtain ⟨A,hA⟩:∃A,I.a os=A:=⟨_,rfl⟩
 rw [hA] at SC A0 ⊢
 clear hA
 obtain ⟨u,hu⟩:∃u,os.getD I.n 0=u:=⟨_,rfl⟩
 obtain ⟨v,hv⟩:∃v,os.getD I.k 0=v:=⟨_,rfl⟩
 rw [hu] at u0
 rw [hv] at v0
 have r1:IntKind.i64.wrap v=v:=wrap_i64_id (by omega) (by omega)
 have r2:v.tmod 16777216=v % 16777216:=Int.tmod_eq_emod_of_nonneg v0.1
 have HU:=lh hu
 have HV:=lh hv
 have hF:=lh hf
 have ef:(I.fm == 1)=false:=by simpa using hf
 clear hf
 obtain ⟨⟨i0,i1⟩,⟨q0,q1⟩,⟨g0,g1⟩,⟨a0,a1⟩⟩:=hp
 have s1:IntKind.u32.wrap p.il=p.il:=lo32_id _ (by omega) (by omega)
 have s2:IntKind.u32.wrap (p.il*1073741824)=p.il*1073741824:=lo32_id _ (by omega) (by omega)
 have s3:IntKind.u32.wrap p.cc=p.cc:=lo32_id _ (by omega) (by omega)
 have s4:IntKind.u32.wrap (p.cc*268435456)=p.cc*268435456:=lo32_id _ (by omega) (by omega)
 have s5:IntKind.u32.wrap p.pg=p.pg:=lo32_id _ (by omega) (by omega)
 have s6:IntKind.u32.wrap (p.pg*16777216)=p.pg*16777216:=lo32_id _ (by omega) (by omega)
 have s7:IntKind.u32.wrap p.ad=p.ad:=lo32_id _ (by omega) (by omega)
 have l1:bits .or .u32 (p.il*1073741824) (p.cc*268435456)=p.il*1073741824+p.cc*268435456:=or_32 30 _ _ 1073741824 (by rfl) (by omega) (by omega) (by omega) (by omega) (by omega) (by omega)
 have l2:bits .or .u32 (p.il*1073741824+p.cc*268435456) (p.pg*16777216)=p.il*1073741824+p.cc*268435456+p.pg*16777216:=or_32 28 _ _ 268435456 (by rfl) (by omega) (by omega) (by omega) (by omega) (by omega) (by omega)
 have l3:bits .or .u32 (p.il*1073741824+p.cc*268435456+p.pg*16777216) p.ad=p.il*1073741824+p.cc*268435456+p.pg*16777216+p.ad:=or_32 24 _ _ 16777216 (by rfl) (by omega) (by omega) (by omega) (by omega) (by omega) (by omega)
 clear i0 i1 q0 q1 g0 g1 a0 a1
 rw [ho]
 have HO:=lh ho
 have HE:=lh (show brO ⟨os,p.key,p.il,p.cc,p.pg,p.ad,bs,ks⟩ 69 I.n I.k A=Pre.br ⟨os,p.key,p.il,p.cc,p.pg,p.ad,bs,ks⟩ (os.set I.n (p.il*1073741824+p.cc*268435456+p.pg*16777216+p.ad)) (true) (A) from by first | (rw [← hu,← hv];rfl) | (rw [← hu];rfl) | (rw [← hv];rfl) | rfl)
 have R0:=lh h
 clear hu hv ho h
 refine R0.out.opn ?_
 intros
 go_enter Tryz.func72,Tryz.ntmps72
 go_upto_region 0 with fail
 refine wp_region_held_drew (S:=Sy w0 g F I os p) (by kernel_rfl) R0.out.drew.x (fun hHeld=>?_)
 have R1:=lh R0.out.drew
 clear R0
 repeat refine tkp ?_
 refine wpAnyH_done (by kernel_rfl) ?_ _
 refine R1.out.opn ?_
 clear hHeld
 intros
 go_upto_region 7 with fail
 refine wp_region_held_drew (S:=Sz w0 g F I os p p) (by kernel_rfl) R1.out.drew.z (fun hHeld=>?_)
 replace R1:=lh R1.out.drew
 repeat refine tkp4 ?_
 refine tpr R1.out hn ?_
 clear R1 hHeld
 intro w2 R1 hHeld
 repeat refine tkp4 ?_
 refine wpAnyH_done (by with_unfolding_all rfl) ?_ _
 refine R1.out.opn ?_
 clear hHeld
 intros
 go_wp2_with (go_at_call 74;refine nx (SC.out _ _ _ R1.out) ?_;clear R1;intro w8 R1;refine R1.out.opn ?_;intros)
 first | go_end0 | refine bodyPost_ret (results_none rfl _ _ _) rfl ?_
 exact HE.out▸gp_br (by first | (rw [if_pos (by simp)];exact R1.out.setad _) | (rw [if_neg (by simp)];exact R1.out))
theorem pbr_7 (h:PS w0 w g F I os os p p false bs ks) (ho:I.op=7) (hp:p.ok) (hf:I.fm=1):Calls Tryz.prog 72 #[.pointer (some ⟨g,0,none⟩)] w (Gp w0 g F I os p bs ks (brO ⟨os,p.key,p.il,p.cc,p.pg,p.ad,bs,ks⟩ I.op I.n I.k (I.a os))):=by
 have hn:=h.ix.n
 have hk:=h.ix.k
 have u0:=getD_in h.ro I.n
 have v0:=getD_in h.ro I.k
 have A0:=I.a_in os
 have SC:=lh (fun W rs q (hW:PS w0 W g F I os rs p q false bs ks)=>psec_c hW)
 obtain ⟨A,hA⟩:∃A,I.a os=A:=⟨_,rfl⟩
 rw [hA] at SC A0 ⊢
 clear hA
 obtain ⟨u,hu⟩:∃u,os.getD I.n 0=u:=⟨_,rfl⟩
 obtain ⟨v,hv⟩:∃v,os.getD I.k 0=v:=⟨_,rfl⟩
 rw [hu] at u0
 rw [hv] at v0
 have r1:IntKind.i64.wrap v=v:=wrap_i64_id (by omega) (by omega)
 have r2:v.tmod 16777216=v % 16777216:=Int.tmod_eq_emod_of_nonneg v0.1
 have HU:=lh hu
 have HV:=lh hv
 have hF:=lh hf
 have ef:(I.fm == 1)=true:=by simpa using hf
 clear hf
 have kz:(I.k=0∧((I.k:Int) != 0)=false)∨(I.k≠0∧((I.k:Int) != 0)=true):=by by_cases h:I.k=0<;>simp [h]
 have BC:=lh (branch_c (I.n:Int) p.cc (by omega) (by omega) (by have:=hp.cc;omega) (by have:=hp.cc;omega))
 obtain ⟨tb,htb⟩:∃x,pbr (I.n:Int) p.cc=x:=⟨_,rfl⟩
 rw [htb] at BC
 have HB:=lh htb
 rw [ho]
 have HO:=lh ho
 have HE:=lh (show brO ⟨os,p.key,p.il,p.cc,p.pg,p.ad,bs,ks⟩ 7 I.n I.k A=Pre.br ⟨os,p.key,p.il,p.cc,p.pg,p.ad,bs,ks⟩ (os) (pbr (I.n:Int) p.cc && decide (I.k≠0)) (v % 16777216) from by first | (rw [← hu,← hv];rfl) | (rw [← hu];rfl) | (rw [← hv];rfl) | rfl)
 have R0:=lh h
 clear hu hv ho h
 clear htb hp
 cases tb<;>rcases kz with ⟨k0,k1⟩ | ⟨k0,k1⟩
 all_goals
  have K0:=lh k0
  clear k0
 all_goals
  refine R0.out.opn ?_
  intros
  go_enter Tryz.func72,Tryz.ntmps72
  go_upto_region 0 with fail
  refine wp_region_held_drew (S:=Sy w0 g F I os p) (by kernel_rfl) R0.out.drew.x (fun hHeld=>?_)
  have R1:=lh R0.out.drew
  clear R0
  repeat refine tkp ?_
  refine wpAnyH_done (by kernel_rfl) ?_ _
  refine R1.out.opn ?_
  clear hHeld
  intros
  go_upto_region 14 with fail
  refine wp_region_held_drew (S:=Sz w0 g F I os p p) (by kernel_rfl) R1.out.drew.z (fun hHeld=>?_)
  replace R1:=lh R1.out.drew
  repeat refine tkp4 ?_
  refine tkz (BC.out _) ?_
  repeat refine tkp4 ?_
  refine wpAnyH_done (by with_unfolding_all rfl) ?_ _
  refine R1.out.opn ?_
  clear hHeld
  intros
  go_upto_region 22 with (go_at_call 74;refine nx (SC.out _ _ _ R1.out) ?_;clear R1;intro w8 R1;refine R1.out.opn ?_;intros)
  refine wp_region_held_drew (S:=Sy w0 g F I os p) (by kernel_rfl) R1.out.drew.x (fun hHeld=>?_)
  replace R1:=lh R1.out.drew
  repeat refine tkp ?_
  refine wpAnyH_done (by with_unfolding_all rfl) ?_ _
  refine R1.out.opn ?_
  clear hHeld
  intros
  go_wp2
  first | go_end0 | refine bodyPost_ret (results_none rfl _ _ _) rfl ?_
  exact HE.out▸gp_br (by first | (rw [if_pos (by simp [HB.out,K0.out])];exact R1.out.setad _) | (rw [if_neg (by simp [HB.out,K0.out])];exact R1.out))
theorem pbr_71 (h:PS w0 w g F I os os p p false bs ks) (ho:I.op=71) (hp:p.ok) (hf:I.fm≠1):Calls Tryz.prog 72 #[.pointer (some ⟨g,0,none⟩)] w (Gp w0 g F I os p bs ks (brO ⟨os,p.key,p.il,p.cc,p.pg,p.ad,bs,ks⟩ I.op I.n I.k (I.a os))):=by
 have hn:=h.ix.n
 have hk:=h.ix.k
 have u0:=getD_in h.ro I.n
 have v0:=getD_in h.ro I.k
 have A0:=I.a_in os
 have SC:=lh (fun W rs q (hW:PS w0 W g F I os rs p q false bs ks)=>psec_c hW)
 obtain ⟨A,hA⟩:∃A,I.a os=A:=⟨_,rfl⟩
 rw [hA] at SC A0 ⊢
 clear hA
 obtain ⟨u,hu⟩:∃u,os.getD I.n 0=u:=⟨_,rfl⟩
 obtain ⟨v,hv⟩:∃v,os.getD I.k 0=v:=⟨_,rfl⟩
 rw [hu] at u0
 rw [hv] at v0
 have r1:IntKind.i64.wrap v=v:=wrap_i64_id (by omega) (by omega)
 have r2:v.tmod 16777216=v % 16777216:=Int.tmod_eq_emod_of_nonneg v0.1
 have HU:=lh hu
 have HV:=lh hv
 have hF:=lh hf
 have ef:(I.fm == 1)=false:=by simpa using hf
 clear hf
 have BC:=lh (branch_c (I.n:Int) p.cc (by omega) (by omega) (by have:=hp.cc;omega) (by have:=hp.cc;omega))
 obtain ⟨tb,htb⟩:∃x,pbr (I.n:Int) p.cc=x:=⟨_,rfl⟩
 rw [htb] at BC
 have HB:=lh htb
 rw [ho]
 have HO:=lh ho
 have HE:=lh (show brO ⟨os,p.key,p.il,p.cc,p.pg,p.ad,bs,ks⟩ 71 I.n I.k A=Pre.br ⟨os,p.key,p.il,p.cc,p.pg,p.ad,bs,ks⟩ (os) (pbr (I.n:Int) p.cc) (A) from by first | (rw [← hu,← hv];rfl) | (rw [← hu];rfl) | (rw [← hv];rfl) | rfl)
 have R0:=lh h
 clear hu hv ho h
 clear htb hp
 cases tb
 all_goals
  refine R0.out.opn ?_
  intros
  go_enter Tryz.func72,Tryz.ntmps72
  go_upto_region 0 with fail
  refine wp_region_held_drew (S:=Sy w0 g F I os p) (by kernel_rfl) R0.out.drew.x (fun hHeld=>?_)
  have R1:=lh R0.out.drew
  clear R0
  repeat refine tkp ?_
  refine wpAnyH_done (by kernel_rfl) ?_ _
  refine R1.out.opn ?_
  clear hHeld
  intros
  go_upto_region 14 with fail
  refine wp_region_held_drew (S:=Sz w0 g F I os p p) (by kernel_rfl) R1.out.drew.z (fun hHeld=>?_)
  replace R1:=lh R1.out.drew
  repeat refine tkp4 ?_
  refine tkz (BC.out _) ?_
  repeat refine tkp4 ?_
  refine wpAnyH_done (by with_unfolding_all rfl) ?_ _
  refine R1.out.opn ?_
  clear hHeld
  intros
  go_wp2_with (go_at_call 74;refine nx (SC.out _ _ _ R1.out) ?_;clear R1;intro w8 R1;refine R1.out.opn ?_;intros)
  first | go_end0 | refine bodyPost_ret (results_none rfl _ _ _) rfl ?_
  exact HE.out▸gp_br (by first | (rw [if_pos (by first | exact HB.out | (rw [HB.out];done) | (rw [HB.out];decide))];exact R1.out.setad _) | (rw [if_neg (by first | exact HB.out | (rw [HB.out];done) | (rw [HB.out];decide))];exact R1.out))
theorem pbr_134 (h:PS w0 w g F I os os p p false bs ks) (ho:I.op=134) (hf:I.fm≠1):Calls Tryz.prog 72 #[.pointer (some ⟨g,0,none⟩)] w (Gp w0 g F I os p bs ks (brO ⟨os,p.key,p.il,p.cc,p.pg,p.ad,bs,ks⟩ I.op I.n I.k (I.a os))):=by
 have hn:=h.ix.n
 have hk:=h.ix.k
 have u0:=getD_in h.ro I.n
 have v0:=getD_in h.ro I.k
 have A0:=I.a_in os
 have SC:=lh (fun W rs q (hW:PS w0 W g F I os rs p q false bs ks)=>psec_c hW)
 obtain ⟨A,hA⟩:∃A,I.a os=A:=⟨_,rfl⟩
 rw [hA] at SC A0 ⊢
 clear hA
 obtain ⟨u,hu⟩:∃u,os.getD I.n 0=u:=⟨_,rfl⟩
 obtain ⟨v,hv⟩:∃v,os.getD I.k 0=v:=⟨_,rfl⟩
 rw [hu] at u0
 rw [hv] at v0
 have r1:IntKind.i64.wrap v=v:=wrap_i64_id (by omega) (by omega)
 have r2:v.tmod 16777216=v % 16777216:=Int.tmod_eq_emod_of_nonneg v0.1
 have HU:=lh hu
 have HV:=lh hv
 have hF:=lh hf
 have ef:(I.fm == 1)=false:=by simpa using hf
 clear hf
 obtain ⟨m,hm⟩:∃m,I.k / 2*2+1=m:=⟨_,rfl⟩
 have m0:m<16:=by omega
 have m1:(m:Int)<16:=by omega
 have o1:bits .or .i64 (I.k:Int) 1=(m:Int):=by rw [or_odd _ hk,hm]
 have b0:=getD_in h.ro m
 obtain ⟨b,hb⟩:∃b,os.getD m 0=b:=⟨_,rfl⟩
 rw [hb] at b0
 have KB:Hid (∀W rs q ov bs ks,PS w0 W g F I os rs p q ov bs ks→W.cell? ⟨g,12+m,none⟩=some (.int .u32 b)):=lh fun W rs q ov bs ks h=>hb▸h.m.co m0
 have s0:0≤lo32 (u+v)∧lo32 (u+v)≤4294967295:=by unfold lo32;omega
 obtain ⟨s,hs⟩:∃s,lo32 (u+v)=s:=⟨_,rfl⟩
 rw [hs] at s0
 have s1:IntKind.u32.wrap (u+v)=s:=hs
 have CC:=lh (compare_c s b s0.1 s0.2 b0.1 b0.2)
 obtain ⟨c,hc⟩:∃c,sgn (sg s - sg b)=c:=⟨_,rfl⟩
 rw [hc] at CC
 obtain ⟨tb,htb⟩:∃x,(c == 2)=x:=⟨_,rfl⟩
 have HC:=lh htb
 rw [ho]
 have HO:=lh ho
 have HE:=lh (show brO ⟨os,p.key,p.il,p.cc,p.pg,p.ad,bs,ks⟩ 134 I.n I.k A=Pre.br ⟨os,p.key,p.il,p.cc,p.pg,p.ad,bs,ks⟩ (os.set I.n s) (c == 2) A from by rw [← hc,← hs,← hb,← hm,← hu,← hv];rfl)
 have R0:=lh h
 clear hu hv ho h
 clear hs hb hm hc
 cases tb
 all_goals
  refine R0.out.opn ?_
  intros
  go_enter Tryz.func72,Tryz.ntmps72
  go_upto_region 0 with fail
  refine wp_region_held_drew (S:=Sy w0 g F I os p) (by kernel_rfl) R0.out.drew.x (fun hHeld=>?_)
  have R1:=lh R0.out.drew
  clear R0
  repeat refine tkp ?_
  refine wpAnyH_done (by kernel_rfl) ?_ _
  refine R1.out.opn ?_
  clear hHeld
  intros
  go_upto_region 17 with fail
  refine wp_region_held_drew (S:=Sy w0 g F I os p) (by kernel_rfl) R1.out.drew.x (fun hHeld=>?_)
  replace R1:=lh R1.out.drew
  repeat refine tkp ?_
  refine wpAnyH_done (by with_unfolding_all rfl) ?_ _
  refine R1.out.opn ?_
  clear hHeld
  intros
  go_upto_region 18 with fail
  refine wp_region_held_drew (S:=Sy w0 g F I os p) (by kernel_rfl) R1.out.drew.x (fun hHeld=>?_)
  replace R1:=lh R1.out.drew
  repeat refine tkp ?_
  refine tpr R1.out hn ?_
  clear R1 hHeld
  intro w2 R1 hHeld
  repeat refine tkp ?_
  refine wpAnyH_done (by with_unfolding_all rfl) ?_ _
  refine R1.out.opn ?_
  clear hHeld
  intros
  go_upto_region 19 with fail
  refine wp_region_held_drew (S:=Sy w0 g F I os p) (by kernel_rfl) R1.out.drew.x (fun hHeld=>?_)
  replace R1:=lh R1.out.drew
  repeat refine tkp ?_
  refine tki 11 (y:=(by intro w hSw;obtain ⟨_,_,_,_,_,hx⟩:=hSw;have hx:=KB.out _ _ _ _ _ _ hx;go_simp;(try with_reducible rfl))) ?_
  repeat refine tkp ?_
  refine tkz (CC.out _) ?_
  repeat refine tkp ?_
  refine wpAnyH_done (by with_unfolding_all rfl) ?_ _
  refine R1.out.opn ?_
  clear hHeld
  intros
  go_wp2_with (go_at_call 74;refine nx (SC.out _ _ _ R1.out) ?_;clear R1;intro w8 R1;refine R1.out.opn ?_;intros)
  first | go_end0 | refine bodyPost_ret (results_none rfl _ _ _) rfl ?_
  exact HE.out▸gp_br (by first | (rw [if_pos (by first | exact HC.out | (rw [HC.out];done) | (rw [HC.out];decide))];exact R1.out.setad _) | (rw [if_neg (by first | exact HC.out | (rw [HC.out];done) | (rw [HC.out];decide))];exact R1.out))
theorem pbr_135 (h:PS w0 w g F I os os p p false bs ks) (ho:I.op=135) (hf:I.fm≠1):Calls Tryz.prog 72 #[.pointer (some ⟨g,0,none⟩)] w (Gp w0 g F I os p bs ks (brO ⟨os,p.key,p.il,p.cc,p.pg,p.ad,bs,ks⟩ I.op I.n I.k (I.a os))):=by
 have hn:=h.ix.n
 have hk:=h.ix.k
 have u0:=getD_in h.ro I.n
 have v0:=getD_in h.ro I.k
 have A0:=I.a_in os
 have SC:=lh (fun W rs q (hW:PS w0 W g F I os rs p q false bs ks)=>psec_c hW)
 obtain ⟨A,hA⟩:∃A,I.a os=A:=⟨_,rfl⟩
 rw [hA] at SC A0 ⊢
 clear hA
 obtain ⟨u,hu⟩:∃u,os.getD I.n 0=u:=⟨_,rfl⟩
 obtain ⟨v,hv⟩:∃v,os.getD I.k 0=v:=⟨_,rfl⟩
 rw [hu] at u0
 rw [hv] at v0
 have r1:IntKind.i64.wrap v=v:=wrap_i64_id (by omega) (by omega)
 have r2:v.tmod 16777216=v % 16777216:=Int.tmod_eq_emod_of_nonneg v0.1
 have HU:=lh hu
 have HV:=lh hv
 have hF:=lh hf
 have ef:(I.fm == 1)=false:=by simpa using hf
 clear hf
 obtain ⟨m,hm⟩:∃m,I.k / 2*2+1=m:=⟨_,rfl⟩
 have m0:m<16:=by omega
 have m1:(m:Int)<16:=by omega
 have o1:bits .or .i64 (I.k:Int) 1=(m:Int):=by rw [or_odd _ hk,hm]
 have b0:=getD_in h.ro m
 obtain ⟨b,hb⟩:∃b,os.getD m 0=b:=⟨_,rfl⟩
 rw [hb] at b0
 have KB:Hid (∀W rs q ov bs ks,PS w0 W g F I os rs p q ov bs ks→W.cell? ⟨g,12+m,none⟩=some (.int .u32 b)):=lh fun W rs q ov bs ks h=>hb▸h.m.co m0
 have s0:0≤lo32 (u+v)∧lo32 (u+v)≤4294967295:=by unfold lo32;omega
 obtain ⟨s,hs⟩:∃s,lo32 (u+v)=s:=⟨_,rfl⟩
 rw [hs] at s0
 have s1:IntKind.u32.wrap (u+v)=s:=hs
 have CC:=lh (compare_c s b s0.1 s0.2 b0.1 b0.2)
 obtain ⟨c,hc⟩:∃c,sgn (sg s - sg b)=c:=⟨_,rfl⟩
 rw [hc] at CC
 obtain ⟨tb,htb⟩:∃x,(c == 2)=x:=⟨_,rfl⟩
 have HC:=lh htb
 rw [ho]
 have HO:=lh ho
 have HE:=lh (show brO ⟨os,p.key,p.il,p.cc,p.pg,p.ad,bs,ks⟩ 135 I.n I.k A=Pre.br ⟨os,p.key,p.il,p.cc,p.pg,p.ad,bs,ks⟩ (os.set I.n s) (!(c == 2)) A from by rw [← hc,← hs,← hb,← hm,← hu,← hv];rfl)
 have R0:=lh h
 clear hu hv ho h
 clear hs hb hm hc
 cases tb
 all_goals
  refine R0.out.opn ?_
  intros
  go_enter Tryz.func72,Tryz.ntmps72
  go_upto_region 0 with fail
  refine wp_region_held_drew (S:=Sy w0 g F I os p) (by kernel_rfl) R0.out.drew.x (fun hHeld=>?_)
  have R1:=lh R0.out.drew
  clear R0
  repeat refine tkp ?_
  refine wpAnyH_done (by kernel_rfl) ?_ _
  refine R1.out.opn ?_
  clear hHeld
  intros
  go_upto_region 17 with fail
  refine wp_region_held_drew (S:=Sy w0 g F I os p) (by kernel_rfl) R1.out.drew.x (fun hHeld=>?_)
  replace R1:=lh R1.out.drew
  repeat refine tkp ?_
  refine wpAnyH_done (by with_unfolding_all rfl) ?_ _
  refine R1.out.opn ?_
  clear hHeld
  intros
  go_upto_region 18 with fail
  refine wp_region_held_drew (S:=Sy w0 g F I os p) (by kernel_rfl) R1.out.drew.x (fun hHeld=>?_)
  replace R1:=lh R1.out.drew
  repeat refine tkp ?_
  refine tpr R1.out hn ?_
  clear R1 hHeld
  intro w2 R1 hHeld
  repeat refine tkp ?_
  refine wpAnyH_done (by with_unfolding_all rfl) ?_ _
  refine R1.out.opn ?_
  clear hHeld
  intros
  go_upto_region 19 with fail
  refine wp_region_held_drew (S:=Sy w0 g F I os p) (by kernel_rfl) R1.out.drew.x (fun hHeld=>?_)
  replace R1:=lh R1.out.drew
  repeat refine tkp ?_
  refine tki 11 (y:=(by intro w hSw;obtain ⟨_,_,_,_,_,hx⟩:=hSw;have hx:=KB.out _ _ _ _ _ _ hx;go_simp;(try with_reducible rfl))) ?_
  repeat refine tkp ?_
  refine tkz (CC.out _) ?_
  repeat refine tkp ?_
  refine wpAnyH_done (by with_unfolding_all rfl) ?_ _
  refine R1.out.opn ?_
  clear hHeld
  intros
  go_wp2_with (go_at_call 74;refine nx (SC.out _ _ _ R1.out) ?_;clear R1;intro w8 R1;refine R1.out.opn ?_;intros)
  first | go_end0 | refine bodyPost_ret (results_none rfl _ _ _) rfl ?_
  exact HE.out▸gp_br (by first | (rw [if_pos (by first | exact HC.out | (rw [HC.out];done) | (rw [HC.out];decide))];exact R1.out.setad _) | (rw [if_neg (by first | exact HC.out | (rw [HC.out];done) | (rw [HC.out];decide))];exact R1.out))
end
section
variable {w0 w w':World} {g:Nat} {F:Foot} {I:In} {os rs:List Int} {p q:Ps} {ov:Bool} {bs ks:List Int}
theorem pmv_67 (h:PS w0 w g F I os os p p false bs ks) (ho:I.op=67):Calls Tryz.prog 75 #[.pointer (some ⟨g,0,none⟩)] w (Gp w0 g F I os p bs ks (mvO ⟨os,p.key,p.il,p.cc,p.pg,p.ad,bs,ks⟩ I.op I.n I.k (I.a os))):=by
 have hn:=h.ix.n
 have u0:=getD_in h.ro I.n
 have A0:=I.a_in os
 have SC:=lh (fun W rs q ov bs ks (hW:PS w0 W g F I os rs p q ov bs ks)=>psec_c hW)
 have AC:=lh (fun n hn W rs q ov bs ks (hW:PS w0 W g F I os rs p q ov bs ks)=>paln_c hW n hn)
 obtain ⟨A,hA⟩:∃A,I.a os=A:=⟨_,rfl⟩
 rw [hA] at SC AC A0 ⊢
 clear hA
 obtain ⟨u,hu⟩:∃u,os.getD I.n 0=u:=⟨_,rfl⟩
 rw [hu] at u0
 have HU:=lh hu
 rw [ho]
 have HO:=lh ho
 have HE:=lh (show mvO ⟨os,p.key,p.il,p.cc,p.pg,p.ad,bs,ks⟩ 67 I.n I.k A=(if Pre.fc ⟨os,p.key,p.il,p.cc,p.pg,p.ad,bs,ks⟩ A 1=0 then Pre.rg ⟨os,p.key,p.il,p.cc,p.pg,p.ad,bs,ks⟩ (os.set I.n (u / 256*256+(sGet bs A 1).getD 0 0)) else Pre.no ⟨os,p.key,p.il,p.cc,p.pg,p.ad,bs,ks⟩ (Pre.fc ⟨os,p.key,p.il,p.cc,p.pg,p.ad,bs,ks⟩ A 1)) from by rw [← hu];rfl)
 have x0:=sGet_in A 1 h.st.rb 0
 obtain ⟨x,hx⟩:∃x,(sGet bs A 1).getD 0 0=x:=⟨_,rfl⟩
 rw [hx] at x0 HE
 have HX:=lh hx
 have a1:=u32_hi8 u u0.1 u0.2
 have a2:IntKind.u32.wrap x=x:=lo32_id _ (by omega) (by omega)
 have a3:bits .or .u32 (u / 256*256) x=u / 256*256+x:=or_32 8 _ _ 256 (by rfl) (by omega) (by omega) (by omega) (by omega) (by omega) (by omega)
 have R0:=lh h
 clear hu hx ho h
 refine R0.out.opn ?_
 intros
 go_enter Tryz.func75,Tryz.ntmps75
 go_upto_region 0 with fail
 refine wp_region_held_drew (S:=Sy w0 g F I os p) (by kernel_rfl) R0.out.drew.x (fun hHeld=>?_)
 have R1:=lh R0.out.drew
 clear R0
 repeat refine tkp ?_
 refine wpAnyH_done (by kernel_rfl) ?_ _
 refine R1.out.opn ?_
 clear hHeld
 intros
 go_upto_region 9 with fail
 refine wp_region_held_drew (S:=Sy w0 g F I os p) (by kernel_rfl) R1.out.drew.x (fun hHeld=>?_)
 replace R1:=lh R1.out.drew
 repeat refine tkp ?_
 refine tkc (SC.out _ _ _ _ _ _ R1.out) (fun _ h=>h.x) ?_
 clear R1 hHeld
 intro w2 R1 hHeld
 repeat refine tkp ?_
 refine tkq (pfet_c R1.out A 1 (by omega)) (fun _ _ ⟨_,_,_,_,_,_,_,h⟩=>h.x) ?_ ?_
 rotate_left
 ·intro w3 B1
  go_wp2
  exact ⟨rfl,gp_no B1.out.2 ((congrArg Out.c (HE.out.trans (if_neg B1.out.1))).trans rfl) B1.out.1⟩
 intro v w3 A1 hHeld
 obtain ⟨hz,b,cap,rfl,hO,h1,h2,hR⟩:=A1.out
 have cb:=byt0 hO.byt (by omega)
 rw [show (sGet bs A ((1:Nat):Int)).getD 0 0=x from HX.out] at cb
 have Z2:=lh hz
 clear A1 R1 hz hO h1 h2
 have R1:=lh hR
 clear hR
 repeat refine tkp ?_
 refine tkv ?_
 repeat refine tkp ?_
 refine tpr R1.out hn ?_
 clear R1 hHeld
 intro w4 R1 hHeld
 refine wpAnyH_done (by with_unfolding_all rfl) ?_ _
 clear hHeld
 go_wp2
 first | go_end0 | refine bodyPost_ret (results_none rfl _ _ _) rfl ?_
 exact gp_ok R1.out ((HE.out.trans (if_pos Z2.out)).trans rfl)
theorem pcnt_c (h:PS w0 w g F I os rs p q ov bs ks):Calls Tryz.prog 117 #[.pointer (some ⟨g,0,none⟩)] w fun e w'=>e=.returned (.int .i64 (cnt I.n I.k:Int))∧PS w0 w' g F I os rs p q ov bs ks:=by
 obtain ⟨C,hC⟩:∃C,cnt I.n I.k=C:=⟨_,rfl⟩
 have nb:=h.ix.n
 have kb:=h.ix.k
 have C0:1≤C∧C≤16:=by unfold cnt at hC;omega
 have c1:IntKind.i64.wrap ((I.k:Int) - (I.n:Int))=(I.k:Int) - (I.n:Int):=wrap_i64_id (by omega) (by omega)
 have c2:IntKind.i64.wrap ((I.k:Int) - (I.n:Int)+16)=(I.k:Int) - (I.n:Int)+16:=wrap_i64_id (by omega) (by omega)
 have c3:((I.k:Int) - (I.n:Int)+16).tmod 16=(C:Int) - 1:=by rw [Int.tmod_eq_emod_of_nonneg (by omega)];unfold cnt at hC;omega
 have c4:IntKind.i64.wrap (C:Int)=(C:Int):=wrap_i64_id (by omega) (by omega)
 have c5:(C:Int) - 1+1=(C:Int):=by omega
 have c6:IntKind.i64.wrap ((C:Int) - 1)=(C:Int) - 1:=wrap_i64_id (by omega) (by omega)
 rw [hC]
 have R0:=lh h
 clear hC nb kb h
 go_enter Tryz.func117,Tryz.ntmps117
 go_upto_region 1 with fail
 refine wp_region_held_drew (S:=Sy w0 g F I os p) (by kernel_rfl) R0.out.drew.x (fun hHeld=>?_)
 have R1:=lh R0.out.drew
 repeat refine tkp ?_
 refine wpAnyH_done (by kernel_rfl) ?_ _
 clear hHeld
 go_wp2
 go_ret
 exact ⟨rfl,R1.out⟩
structure PW (w0 w:World) (g:Nat) (F:Foot) (I:In) (os rs:List Int) (p q:Ps) (ov:Bool) (bs ks:List Int) (bb n:Nat) (zs:List Int):Prop where
 rs:PS w0 w g F I os rs p q ov bs ks
 by_:Byt w (some ⟨bb,0,none⟩) n zs
 lt:bb<w.heap.size
 n0:bb≠g
 n1:bb≠F.gb
theorem PW.to {bb n:Nat} {zs rs' bs':List Int} {q':Ps} {ov':Bool} (h:PW w0 w g F I os rs p q ov bs ks bb n zs) (h':PS w w' g F I os rs' p q' ov' bs' ks):PW w0 w' g F I os rs' p q' ov' bs' ks bb n zs:=⟨h.rs.re h',h.by_.chg h'.b h.lt (by simp;exact ⟨h.n0,h.n1⟩),Nat.lt_of_lt_of_le h.lt h'.b.size,h.n0,h.n1⟩
theorem pmv_152 (h:PS w0 w g F I os os p p false bs ks) (ho:I.op=152):Calls Tryz.prog 75 #[.pointer (some ⟨g,0,none⟩)] w (Gp w0 g F I os p bs ks (mvO ⟨os,p.key,p.il,p.cc,p.pg,p.ad,bs,ks⟩ I.op I.n I.k (I.a os))):=by
 have hn:=h.ix.n
 have u0:=getD_in h.ro I.n
 have A0:=I.a_in os
 have SC:=lh (fun W rs q ov bs ks (hW:PS w0 W g F I os rs p q ov bs ks)=>psec_c hW)
 have AC:=lh (fun n hn W rs q ov bs ks (hW:PS w0 W g F I os rs p q ov bs ks)=>paln_c hW n hn)
 obtain ⟨A,hA⟩:∃A,I.a os=A:=⟨_,rfl⟩
 rw [hA] at SC AC A0 ⊢
 clear hA
 obtain ⟨u,hu⟩:∃u,os.getD I.n 0=u:=⟨_,rfl⟩
 rw [hu] at u0
 have HU:=lh hu
 obtain ⟨C,hC⟩:∃C,cnt I.n I.k=C:=⟨_,rfl⟩
 have C0:1≤C∧C≤16:=by unfold cnt at hC;omega
 have CN:=lh (fun W rs q ov bs ks (hW:PS w0 W g F I os rs p q ov bs ks)=>show Calls Tryz.prog 117 #[.pointer (some ⟨g,0,none⟩)] W fun e w'=>e=.returned (.int .i64 (C:Int))∧PS w0 w' g F I os rs p q ov bs ks from hC▸pcnt_c hW)
 have CM:=lh (fun w0 W rs q ov bs ks (hW:PS w0 W g F I os rs p q ov bs ks)=>show Calls Tryz.prog 117 #[.pointer (some ⟨g,0,none⟩)] W fun e w'=>e=.returned (.int .i64 (C:Int))∧PS w0 w' g F I os rs p q ov bs ks from hC▸pcnt_c hW)
 obtain ⟨D,hD⟩:∃D,4*C=D:=⟨_,rfl⟩
 have c6:IntKind.i64.wrap (4*(C:Int))=(D:Int):=by rw [wrap_i64_id (by omega) (by omega)];omega
 have d0:0<D:=by omega
 have d1:D≤64:=by omega
 have HD:=lh hD
 rw [ho]
 have HO:=lh ho
 obtain ⟨zs,hzs⟩:∃zs,sGet bs A (D:Int)=zs:=⟨_,rfl⟩
 have HE:=lh (show mvO ⟨os,p.key,p.il,p.cc,p.pg,p.ad,bs,ks⟩ 152 I.n I.k A=(if A % 4=0 then (if sCode (alF p.key) bs.length ks A D=0 then Pre.rg ⟨os,p.key,p.il,p.cc,p.pg,p.ad,bs,ks⟩ (lmR os I.n zs C) else Pre.no ⟨os,p.key,p.il,p.cc,p.pg,p.ad,bs,ks⟩ (sCode (alF p.key) bs.length ks A D)) else Pre.no ⟨os,p.key,p.il,p.cc,p.pg,p.ad,bs,ks⟩ 6) from by rw [← hzs,← hD,← hC];rfl)
 have HZ:=lh hzs
 have R0:=lh h
 have l0:=h.lt
 have l1:=h.st.ltb
 clear hu hzs ho hD hC h
 refine R0.out.opn ?_
 intros
 go_enter Tryz.func75,Tryz.ntmps75
 go_upto_region 0 with fail
 refine wp_region_held_drew (S:=Sy w0 g F I os p) (by kernel_rfl) R0.out.drew.x (fun hHeld=>?_)
 have R1:=lh R0.out.drew
 clear R0
 repeat refine tkp ?_
 refine wpAnyH_done (by kernel_rfl) ?_ _
 refine R1.out.opn ?_
 clear hHeld
 intros
 go_upto_region 19 with (first
  | (go_at_call 114;refine nxk (AC.out 4 (.inr rfl) _ _ _ _ _ _ R1.out) (fun w1 Z1 R1=>?_) (fun w1 Z1 R1=>?_))
  | (go_at_call 117;refine nx (CN.out _ _ _ _ _ _ R1.out) ?_;clear R1;intro w1 R1)
  | (go_at_call 116;have l2:=R1.out.lt;have l3:=R1.out.st.ltb;refine nxh (pfet_c R1.out A D d0) (fun b cap w1 Z2 O1 hb1 hb2 R1=>?_) (fun w1 Z2 R1=>?_)))
 any_goals (refine ⟨rfl,gp_no R1.out ?_ Z2.out⟩;exact congrArg Out.c ((HE.out.trans (if_pos Z1.out)).trans (if_neg Z2.out)))
 any_goals (refine ⟨rfl,gp_no R1.out ?_ (by decide)⟩;exact congrArg Out.c (HE.out.trans (if_neg Z1.out)))
 rw [HZ.out] at O1
 have W1:=lh (show PW w0 w1 g F I os os p p false bs ks b D zs from ⟨R1.out,O1.out.byt,hb2,by omega,by omega⟩)
 clear O1 hb1 hb2 l2 l3 R1 l0 l1 AC SC
 go_wp2
 go_loopw [6] (fun x W=>∃k:Nat,k≤C∧x=.int .i64 (k:Int)∧PW w0 W g F I os (lmR os I.n zs k) p p false bs ks b D zs) (fun x _=>C - (intOf x).toNat)
 case atStart=>exact ⟨0,by omega,rfl,W1.out⟩
 case round=>
  obtain ⟨k,hk,rfl,hW⟩:=hrel
  have W2:=lh hW
  by_cases hlt:k<C
  ·have i0:(k:Int)<(C:Int):=by omega
   obtain ⟨m,hm⟩:∃m,(I.n+k) % 16=m:=⟨_,rfl⟩
   have m0:m<16:=by omega
   have m1:(m:Int)<16:=by omega
   have q1:IntKind.i64.wrap ((I.n:Int)+(k:Int))=(I.n:Int)+(k:Int):=wrap_i64_id (by omega) (by omega)
   have q2:((I.n:Int)+(k:Int)).tmod 16=(m:Int):=by rw [Int.tmod_eq_emod_of_nonneg (by omega)];omega
   have q4:IntKind.i64.wrap (m:Int)=(m:Int):=wrap_i64_id (by omega) (by omega)
   obtain ⟨kk,hkk⟩:∃kk,4*k=kk:=⟨_,rfl⟩
   have q3:IntKind.i64.wrap (4*(k:Int))=(kk:Int):=by rw [wrap_i64_id (by omega) (by omega)];omega
   have hv:fval D (kk:Int) zs=flv (zs.getD kk 0) (zs.getD (kk+1) 0) (zs.getD (kk+2) 0) (zs.getD (kk+3) 0):=by
    unfold fval
    rw [if_pos (by unfold fitB;have:=HD.out;simp;omega)]
    rfl
   have FU:=lh (fun W (hW:Byt W (some ⟨b,0,none⟩) D zs)=>full_any (some ⟨b,0,none⟩) D cap (kk:Int) zs W (by omega) hW (by omega) (by omega))
   obtain ⟨x,hx⟩:∃x,fval D (kk:Int) zs=x:=⟨_,rfl⟩
   rw [hx] at FU hv
   have HX:=lh (show lmR os I.n zs (k+1)=(lmR os I.n zs k).set m x from by rw [hv,← hkk,← hm];rfl)
   clear hm hkk hx hv hW
   go_upto_region 22 with (go_at_call 117;refine nx (CM.out _ _ _ _ _ _ _ W2.out.rs.rb) ?_;intro w3 R3;have W3:=lh (W2.out.to R3.out);clear W2 R3)
   refine wp_region_held_drew (S:=Sy w0 g F I os p) (by kernel_rfl) W3.out.rs.drew.x (fun hHeld=>?_)
   replace W3:=lh (W3.out.to W3.out.rs.rb.drew)
   repeat refine tkp ?_
   refine tkc (R:=fun w'=>PW w0 w' g F I os (lmR os I.n zs k) p p false bs ks b D zs) ((FU.out _ W3.out.by_).mono (by rintro e w' ⟨rfl,n,rfl⟩;exact ⟨rfl,W3.out.to (W3.out.rs.rb.drewN n)⟩)) (fun _ h=>h.rs.x) ?_
   clear W3 hHeld
   intro w4 W3 hHeld
   repeat refine tkp ?_
   refine tk_st (R:=fun w'=>PW w0 w' g F I os ((lmR os I.n zs k).set m x) p p false bs ks b D zs) (st_u32 (W3.out.rs.m.cr m0) (W3.out.rs.fz _)) (W3.out.to (W3.out.rs.rb.setr m0 x)) (fun _ h=>h.rs.x) ?_ (by with_unfolding_all rfl) (by rfl) (by rfl) (by rfl) (by rfl) (by rfl) (fun w'=>by simp only [Act.put,List.setIfInBounds_toArray,List.set_cons_zero,List.set_cons_succ];try rfl)
   clear W3 hHeld
   intro w5 W5 hHeld
   refine wpAnyH_done (by with_unfolding_all rfl) ?_ _
   clear hHeld
   go_wp2
   exact ⟨⟨k+1,by omega,rfl,by rw [HX.out];exact W5.out⟩,by simp [intOf];omega⟩
  ·obtain rfl:k=C:=by omega
   go_wp2_with (go_at_call 117;refine nx (CM.out _ _ _ _ _ _ _ W2.out.rs) ?_;intro w3 R3)
   first | go_end0 | refine bodyPost_ret (results_none rfl _ _ _) rfl ?_
   exact gp_ok R3.out ((HE.out.trans (if_pos Z1.out)).trans (if_pos Z2.out))
end
section
variable {w0 w w':World} {g:Nat} {F:Foot} {I:In} {os rs:List Int} {p q:Ps} {ov:Bool} {bs ks:List Int}
theorem tk_app {L:List Oper} {Q:Exit→Act→World→Prop} {md:Region.Mode} {S:World→Prop} {i:Nat} {oi:Oper} {fuel:Nat} {listed:Array Bool} {a:Act} {s x:Operand} {base n b off m c:Nat} {v:Value} {zs ys:List Int} {X:Value→World→Prop} (hown:Own w base v n zs) (hy:Byt w (some ⟨b,off,none⟩) m ys) (h63:n+m≤140737488355328) (hbase:base≤w.heap.size) (hS:∀v' w',Own w' base v' (n+m) (zs++ys)→w.grownBy w' v.ownBlock→S w') (h:∀v' w',Own w' base v' (n+m) (zs++ys)→w.grownBy w' v.ownBlock→S w'→X v' w') (hr:Region.ready md L.toArray listed=[i]:=by with_unfolding_all rfl) (hi:L[i]?=some oi:=by rfl) (ho:oi.op=.call { callee:=.builtin .append,args:=#[s,x],argTypes:=#[22,22] }:=by rfl) (hs:a.eval s=v:=by rfl) (hx:a.eval x=.slice (some ⟨b,off,none⟩) m c:=by rfl)
  (hw:Region.wanted oi (yielded L.toArray a.tmps)=true:=by rfl)
  (hP:∀v w',wpAnyH Tryz.prog md L.toArray Q S fuel (listed.setIfInBounds i true) (a.put oi.dst v) w'=X v w':=by (intro v w';simp only [Act.put,List.setIfInBounds_toArray,List.set_cons_zero,List.set_cons_succ];try rfl)):wpAnyH Tryz.prog md L.toArray Q S (fuel+1) listed a w:=by
 refine tk1 hr ?_
 have hi':L.toArray[i]?=some oi:=by simpa using hi
 unfold wpOp
 simp only [hi',hw,if_true]
 refine .inl ?_
 exact wp_append_b s x ho base v n zs hs hown b off m c ys hx hy h63 hbase fun v' w' h1 h2=>⟨hS v' w' h1 h2,(hP v' w').symm▸h v' w' h1 h2 (hS v' w' h1 h2)⟩
structure PB (w0 w:World) (g:Nat) (F:Foot) (I:In) (os rs:List Int) (p q:Ps) (ov:Bool) (bs ks:List Int) (base:Nat) (v:Value) (n:Nat) (zs:List Int):Prop where
 rs:PS w0 w g F I os rs p q ov bs ks
 o:Own w base v n zs
 g0:g<base
 g1:F.g<base
 g2:F.gb<base
 g3:F.gk<base
 w0:w0.heap.size≤base
 w1:base≤w.heap.size
section
variable {base n:Nat} {v:Value} {zs:List Int}
theorem PB.grown (h:PB w0 w g F I os rs p q ov bs ks base v n zs) {v':Value} {n':Nat} {zs':List Int} (ho:Own w' base v' n' zs') (hg:w.grownBy w' v.ownBlock):PB w0 w' g F I os rs p q ov bs ks base v' n' zs':=by
 have hn:∀k,k<base→some k≠v.ownBlock:=fun k hk e=>by have:=(h.o.block k e.symm).1;omega
 have hs:=Nat.lt_of_lt_of_le h.g0 h.w1
 exact { h with
  rs:={ h.rs with m:=h.rs.m.kept (hg.block g hs (hn g h.g0)),st:=h.rs.st.keep (hg.block _ (Nat.lt_of_lt_of_le h.g1 h.w1) (hn _ h.g1)) (hg.block _ (Nat.lt_of_lt_of_le h.g2 h.w1) (hn _ h.g2)) (hg.block _ (Nat.lt_of_lt_of_le h.g3 h.w1) (hn _ h.g3)),b:=⟨hg.os.trans h.rs.b.os,hg.tape.trans h.rs.b.tape,hg.output.trans h.rs.b.output,Nat.le_trans h.rs.b.size hg.size,fun k hk hL=>(hg.block k (Nat.lt_of_lt_of_le hk h.rs.b.size) (hn k (Nat.lt_of_lt_of_le hk h.w0))).trans (h.rs.b.block k hk hL)⟩ }
  o:=ho
  w1:=Nat.le_trans h.w1 hg.size }
theorem PB.to {rs' bs':List Int} {q':Ps} {ov':Bool} (h:PB w0 w g F I os rs p q ov bs ks base v n zs) (h':PS w w' g F I os rs' p q' ov' bs' ks):PB w0 w' g F I os rs' p q' ov' bs' ks base v n zs:=by
 refine { h with rs:=h.rs.re h',o:=⟨⟨h.o.1.1,?_⟩,h.o.2⟩,w1:=Nat.le_trans h.w1 h'.b.size }
 rcases h.o.1.2 with h0 | ⟨j,cap,cur,rfl,hg,hh,r⟩
 ·exact .inl h0
 ·have:=h.g0
  have:=h.g2
  exact .inr ⟨j,cap,cur,rfl,hg,(h'.b.kept (Array.getElem?_eq_some_iff.1 hh).1 (by simp;omega)).trans hh,r⟩
end
theorem pmv_144 (h:PS w0 w g F I os os p p false bs ks) (ho:I.op=144):Calls Tryz.prog 75 #[.pointer (some ⟨g,0,none⟩)] w (Gp w0 g F I os p bs ks (mvO ⟨os,p.key,p.il,p.cc,p.pg,p.ad,bs,ks⟩ I.op I.n I.k (I.a os))):=by
 have hn:=h.ix.n
 have u0:=getD_in h.ro I.n
 have A0:=I.a_in os
 have SC:=lh (fun W rs q ov bs ks (hW:PS w0 W g F I os rs p q ov bs ks)=>psec_c hW)
 have AC:=lh (fun n hn W rs q ov bs ks (hW:PS w0 W g F I os rs p q ov bs ks)=>paln_c hW n hn)
 obtain ⟨A,hA⟩:∃A,I.a os=A:=⟨_,rfl⟩
 have hA9:=hA
 rw [hA] at SC AC A0 ⊢
 clear hA
 obtain ⟨u,hu⟩:∃u,os.getD I.n 0=u:=⟨_,rfl⟩
 rw [hu] at u0
 have HU:=lh hu
 obtain ⟨C,hC⟩:∃C,cnt I.n I.k=C:=⟨_,rfl⟩
 have C0:1≤C∧C≤16:=by unfold cnt at hC;omega
 have CN:=lh (fun W rs q ov bs ks (hW:PS w0 W g F I os rs p q ov bs ks)=>show Calls Tryz.prog 117 #[.pointer (some ⟨g,0,none⟩)] W fun e w'=>e=.returned (.int .i64 (C:Int))∧PS w0 w' g F I os rs p q ov bs ks from hC▸pcnt_c hW)
 have CM:=lh (fun w0 W rs q ov bs ks (hW:PS w0 W g F I os rs p q ov bs ks)=>show Calls Tryz.prog 117 #[.pointer (some ⟨g,0,none⟩)] W fun e w'=>e=.returned (.int .i64 (C:Int))∧PS w0 w' g F I os rs p q ov bs ks from hC▸pcnt_c hW)
 obtain ⟨D,hD⟩:∃D,4*C=D:=⟨_,rfl⟩
 have c6:IntKind.i64.wrap (4*(C:Int))=(D:Int):=by rw [wrap_i64_id (by omega) (by omega)];omega
 have d0:0<D:=by omega
 have d1:D≤64:=by omega
 have HD:=lh hD
 rw [ho]
 have HO:=lh ho
 have AM:=lh (fun w0 W rs q ov bs ks (hW:PS w0 W g F I os rs p q ov bs ks)=>hA9▸paln_c hW 4 (.inr rfl))
 have HE:=lh (show mvO ⟨os,p.key,p.il,p.cc,p.pg,p.ad,bs,ks⟩ 144 I.n I.k A=(if A % 4=0 then Pre.wr ⟨os,p.key,p.il,p.cc,p.pg,p.ad,bs,ks⟩ A (D:Int) (stB os I.n C) p.cc else Pre.no ⟨os,p.key,p.il,p.cc,p.pg,p.ad,bs,ks⟩ 6) from by rw [← hD,← hC];rfl)
 have R0:=lh h
 clear hu ho hD hC h
 refine R0.out.opn ?_
 intros
 go_enter Tryz.func75,Tryz.ntmps75
 go_upto_region 0 with fail
 refine wp_region_held_drew (S:=Sy w0 g F I os p) (by kernel_rfl) R0.out.drew.x (fun hHeld=>?_)
 have R1:=lh R0.out.drew
 clear R0
 repeat refine tkp ?_
 refine wpAnyH_done (by kernel_rfl) ?_ _
 refine R1.out.opn ?_
 clear hHeld
 intros
 go_upto_region 11 with fail
 have PB1:Hid (PB w0 w.drew g F I os os p p false bs ks w.drew.heap.size (.slice none 0 0) (4*0) (stB os I.n 0)):=lh ⟨R1.out,Own.nil _ _,R1.out.lt,R1.out.st.ltg,R1.out.st.ltb,R1.out.st.ltk,R1.out.b.size,Nat.le_refl _⟩
 obtain ⟨base,hbase⟩:∃n,w.drew.heap.size=n:=⟨_,rfl⟩
 rw [hbase] at PB1
 clear hbase R1 AC SC CN
 go_wp2
 go_loopw [3,4] (fun v x W=>∃k:Nat,k≤C∧x=.int .i64 (k:Int)∧PB w0 W g F I os os p p false bs ks base v (4*k) (stB os I.n k)) (fun _ x _=>C - (intOf x).toNat)
 case atStart=>exact ⟨0,by omega,rfl,PB1.out⟩
 case round=>
  obtain ⟨k,hk,rfl,hW⟩:=hrel
  have W2:=lh hW
  by_cases hlt:k<C
  ·have i0:(k:Int)<(C:Int):=by omega
   have nb:=hW.rs.ix.n
   obtain ⟨m,hm⟩:∃m,(I.n+k) % 16=m:=⟨_,rfl⟩
   have m0:m<16:=by omega
   have m1:(m:Int)<16:=by omega
   have q1:IntKind.i64.wrap ((I.n:Int)+(k:Int))=(I.n:Int)+(k:Int):=wrap_i64_id (by omega) (by omega)
   have q2:((I.n:Int)+(k:Int)).tmod 16=(m:Int):=by rw [Int.tmod_eq_emod_of_nonneg (by omega)];omega
   have q4:IntKind.i64.wrap (m:Int)=(m:Int):=wrap_i64_id (by omega) (by omega)
   have x0:=getD_in hW.rs.ro m
   obtain ⟨x,hx⟩:∃x,os.getD m 0=x:=⟨_,rfl⟩
   rw [hx] at x0
   have KB:Hid (∀W rs q ov bs ks,PS w0 W g F I os rs p q ov bs ks→W.cell? ⟨g,12+m,none⟩=some (.int .u32 x)):=lh fun W rs q ov bs ks h=>hx▸h.m.co m0
   have HS:Hid (stB os I.n (k+1)=stB os I.n k++fb x):=lh (by show stB os I.n k++fb (os.getD ((I.n+k) % 16) 0)=_;rw [hm,hx])
   clear hm hx hW nb
   go_upto_region 15 with (go_at_call 117;refine nx (CM.out _ _ _ _ _ _ _ W2.out.rs.rb) ?_;intro w3 R3;have W3:=lh (W2.out.to R3.out);clear W2 R3)
   refine wp_region_held_drew (S:=Sy w0 g F I os p) (by kernel_rfl) W3.out.rs.drew.x (fun hHeld=>?_)
   replace W3:=lh (W3.out.to W3.out.rs.rb.drew)
   repeat refine tkp ?_
   refine tki 13 (y:=(by intro w hSw;obtain ⟨_,_,_,_,_,hx⟩:=hSw;have hx:=KB.out _ _ _ _ _ _ hx;go_simp;(try with_reducible rfl))) ?_
   repeat refine tkp ?_
   refine tkce (R:=fun v w'=>∃b,v=.slice (some ⟨b,0,none⟩) 4 4∧Byt w' (some ⟨b,0,none⟩) 4 (fb x)∧PB w0 w' g F I os os p p false bs ks base u3 (4*k) (stB os I.n k)) ((pfull_c W3.out.rs.rb x0).mono (by rintro e w' ⟨v,rfl,b,rfl,hB,hR⟩;exact ⟨_,rfl,b,rfl,hB,W3.out.to hR⟩)) (fun _ _ ⟨_,_,_,h⟩=>h.rs.x) ?_
   clear W3 hHeld
   intro v w4 A4 hHeld
   obtain ⟨b,rfl,hB,hR⟩:=A4.out
   have W3:=lh hR
   have BY:=lh hB
   clear A4 hB hR
   repeat refine tkp ?_
   refine tk_app W3.out.o BY.out (by omega) W3.out.w1 (fun v' w' h1 h2=>(W3.out.grown h1 h2).rs.x) ?_
   clear hHeld
   intro v' w5 h1 h2 hHeld
   have W5:=lh (W3.out.grown h1 h2)
   rw [← HS.out] at W5
   clear h1 h2 W3 BY
   repeat refine tkp ?_
   refine wpAnyH_done (by with_unfolding_all rfl) ?_ _
   clear hHeld
   go_wp2
   exact ⟨⟨k+1,by omega,rfl,W5.out⟩,by simp [intOf];omega⟩
  ·obtain rfl:k=C:=by omega
   obtain ⟨bb,cap,rfl,hb,-⟩:=hW.o.pos (by omega)
   clear hW hb
   go_wp2_with (first
    | (go_at_call 117;refine nx (CM.out _ _ _ _ _ _ _ W2.out.rs.rb) ?_;intro w3 R3;have W3:=lh (W2.out.to R3.out);clear W2 R3)
    | (go_at_call 114;refine nxk (AM.out _ _ _ _ _ _ _ W3.out.rs.rb) (fun w4 Z1 R4=>?_) (fun w4 Z1 R4=>?_))
    | (go_at_call 113;refine nxk (pput_c (W3.out.to R4.out).rs A _ (4*k) _ _ (W3.out.to R4.out).o.byt (by omega)) (fun w5 Z2 R1=>?_) (fun w5 Z2 R1=>?_)))
   all_goals first
    | ((first | go_end0 | refine bodyPost_ret (results_none rfl _ _ _) rfl ?_);exact gp_ok R1.out (by rw [HE.out,if_pos Z1.out,← HD.out,wr_ok (P:=⟨os,p.key,p.il,p.cc,p.pg,p.ad,bs,ks⟩) (a:=A) (n:=((4*k:Nat):Int)) Z2.out]))
    | (refine ⟨rfl,gp_no R1.out ?_ Z2.out⟩;rw [HE.out,if_pos Z1.out,← HD.out];exact wr_no (P:=⟨os,p.key,p.il,p.cc,p.pg,p.ad,bs,ks⟩) (a:=A) (n:=((4*k:Nat):Int)) Z2.out)
    | (refine ⟨rfl,gp_no (W3.out.to R4.out).rs ?_ (by decide)⟩;exact congrArg Out.c (HE.out.trans (if_neg Z1.out)))
end
end Go.Proofs.YtljajnaclpbecaaGreatDoor
