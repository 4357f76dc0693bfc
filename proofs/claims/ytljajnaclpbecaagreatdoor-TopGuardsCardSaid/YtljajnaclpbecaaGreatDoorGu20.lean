/- Contracts and laws on the way to the statement, text 20 of 22. Conditions: as each states them. -/
import Derived.Test.YtljajnaclpbecaaGreatDoorGu1
import Derived.Test.YtljajnaclpbecaaGreatDoorGu3
import Derived.Test.YtljajnaclpbecaaGreatDoorGu4
import Derived.Test.YtljajnaclpbecaaGreatDoorGu8
import Derived.Test.YtljajnaclpbecaaGreatDoorGu9
import Derived.Test.YtljajnaclpbecaaGreatDoorGu10
import Derived.Test.YtljajnaclpbecaaGreatDoorGu11
import Derived.Test.YtljajnaclpbecaaGreatDoorGu14
import Derived.Test.YtljajnaclpbecaaGreatDoorGu18
import Derived.Test.YtljajnaclpbecaaGreatDoorGu19
import Derived.Handy
import Derived.StillTailTactics
import Derived.BigQuiet
import Derived.Deep.QuietTactic
namespace Go.Proofs.YtljajnaclpbecaaGreatDoor
open Go.RowKit
set_option maxRecDepth 1000000
set_option maxHeartbeats 8000000
set_option linter.unusedVariables false
set_option linter.unusedSimpArgs false
section
variable {w0 w w':World} {g:Nat} {F:Foot} {I:In} {os rs:List Int} {p q:Ps} {ov:Bool} {bs ks:List Int}
theorem pxb (h:PS w0 w g F I os os p p false bs ks) (hp:p.ok) (hf:I.fm=fmOf I.op) (ho:I.op=4∨I.op=5∨I.op=6∨I.op=7∨I.op=69∨I.op=70∨I.op=71∨I.op=134∨I.op=135):Calls Tryz.prog 72 #[.pointer (some ⟨g,0,none⟩)] w (Gp w0 g F I os p bs ks (exO ⟨os,p.key,p.il,p.cc,p.pg,p.ad,bs,ks⟩ I.op I.fm I.n I.k (I.a1 os) (I.a os) I.l I.i)):=by
 rw [show (exO ⟨os,p.key,p.il,p.cc,p.pg,p.ad,bs,ks⟩ I.op I.fm I.n I.k (I.a1 os) (I.a os) I.l I.i)=brO ⟨os,p.key,p.il,p.cc,p.pg,p.ad,bs,ks⟩ I.op I.n I.k (I.a os) from by unfold exO;rw [if_pos (by omega)]]
 rcases ho with ho | ho | ho | ho | ho | ho | ho | ho | ho
 ·exact pbr_4 h ho
 ·exact pbr_5 h ho hp (by rw [hf,ho];decide)
 ·exact pbr_6 h ho (by rw [hf,ho];decide)
 ·exact pbr_7 h ho hp (by rw [hf,ho];decide)
 ·exact pbr_69 h ho hp (by rw [hf,ho];decide)
 ·exact pbr_70 h ho (by rw [hf,ho];decide)
 ·exact pbr_71 h ho hp (by rw [hf,ho];decide)
 ·exact pbr_134 h ho (by rw [hf,ho];decide)
 ·exact pbr_135 h ho (by rw [hf,ho];decide)
theorem pxs (h:PS w0 w g F I os os p p false bs ks) (ho:136≤I.op∧I.op≤143):Calls Tryz.prog 73 #[.pointer (some ⟨g,0,none⟩)] w (Gp w0 g F I os p bs ks (exO ⟨os,p.key,p.il,p.cc,p.pg,p.ad,bs,ks⟩ I.op I.fm I.n I.k (I.a1 os) (I.a os) I.l I.i)):=by
 rw [show (exO ⟨os,p.key,p.il,p.cc,p.pg,p.ad,bs,ks⟩ I.op I.fm I.n I.k (I.a1 os) (I.a os) I.l I.i)=shO ⟨os,p.key,p.il,p.cc,p.pg,p.ad,bs,ks⟩ I.op I.n (I.a os) from by unfold exO;rw [if_neg (by omega),if_pos (by omega)]]
 by_cases hv:140≤I.op∧I.n % 2=1
 ·exact psh_odd h ⟨hv.1,ho.2⟩ hv.2
 rcases (show I.op=136∨I.op=137∨I.op=138∨I.op=139∨I.op=140∨I.op=141∨I.op=142∨I.op=143 by omega) with ho | ho | ho | ho | ho | ho | ho | ho
 ·exact psh_136 h ho
 ·exact psh_137 h ho
 ·exact psh_138 h ho
 ·exact psh_139 h ho
 ·exact psh_140 h ho (by omega)
 ·exact psh_141 h ho (by omega)
 ·exact psh_142 h ho (by omega)
 ·exact psh_143 h ho (by omega)
theorem pxm (h:PS w0 w g F I os os p p false bs ks) (ho:I.op=64∨I.op=66∨I.op=67∨I.op=80∨I.op=144∨I.op=152):Calls Tryz.prog 75 #[.pointer (some ⟨g,0,none⟩)] w (Gp w0 g F I os p bs ks (exO ⟨os,p.key,p.il,p.cc,p.pg,p.ad,bs,ks⟩ I.op I.fm I.n I.k (I.a1 os) (I.a os) I.l I.i)):=by
 rw [show (exO ⟨os,p.key,p.il,p.cc,p.pg,p.ad,bs,ks⟩ I.op I.fm I.n I.k (I.a1 os) (I.a os) I.l I.i)=mvO ⟨os,p.key,p.il,p.cc,p.pg,p.ad,bs,ks⟩ I.op I.n I.k (I.a os) from by unfold exO;rw [if_neg (by omega),if_neg (by omega),if_neg (by omega),if_pos (by omega)]]
 rcases ho with ho | ho | ho | ho | ho | ho
 ·exact pmv_64 h ho
 ·exact pmv_66 h ho
 ·exact pmv_67 h ho
 ·exact pmv_80 h ho
 ·exact pmv_144 h ho
 ·exact pmv_152 h ho
theorem pxi (h:PS w0 w g F I os os p p false bs ks) (ho:145≤I.op∧I.op≤151):Calls Tryz.prog 76 #[.pointer (some ⟨g,0,none⟩)] w (Gp w0 g F I os p bs ks (exO ⟨os,p.key,p.il,p.cc,p.pg,p.ad,bs,ks⟩ I.op I.fm I.n I.k (I.a1 os) (I.a os) I.l I.i)):=by
 rw [show (exO ⟨os,p.key,p.il,p.cc,p.pg,p.ad,bs,ks⟩ I.op I.fm I.n I.k (I.a1 os) (I.a os) I.l I.i)=imO ⟨os,p.key,p.il,p.cc,p.pg,p.ad,bs,ks⟩ I.op (I.a1 os) I.i from by unfold exO;rw [if_neg (by omega),if_neg (by omega),if_neg (by omega),if_neg (by omega),if_pos (by omega)]]
 rcases (show I.op=145∨I.op=146∨I.op=147∨I.op=148∨I.op=149∨I.op=150∨I.op=151 by omega) with ho | ho | ho | ho | ho | ho | ho
 ·exact pim_145 h ho
 ·exact pim_146 h ho
 ·exact pim_147 h ho
 ·exact pim_148 h ho
 ·exact pim_149 h ho
 ·exact pim_150 h ho
 ·exact pim_151 h ho
theorem pxl (h:PS w0 w g F I os os p p false bs ks) (ho:I.op=209∨I.op=210∨I.op=211∨I.op=212∨I.op=213∨I.op=214∨I.op=215∨I.op=220∨I.op=221):Calls Tryz.prog 77 #[.pointer (some ⟨g,0,none⟩)] w (Gp w0 g F I os p bs ks (exO ⟨os,p.key,p.il,p.cc,p.pg,p.ad,bs,ks⟩ I.op I.fm I.n I.k (I.a1 os) (I.a os) I.l I.i)):=by
 rw [show (exO ⟨os,p.key,p.il,p.cc,p.pg,p.ad,bs,ks⟩ I.op I.fm I.n I.k (I.a1 os) (I.a os) I.l I.i)=loO ⟨os,p.key,p.il,p.cc,p.pg,p.ad,bs,ks⟩ I.op (I.l+1) (I.a1 os) (I.a os) from by unfold exO;rw [if_neg (by omega),if_neg (by omega),if_neg (by omega),if_neg (by omega),if_neg (by omega),if_pos (by omega)]]
 rcases ho with ho | ho | ho | ho | ho | ho | ho | ho | ho
 ·exact plo_209 h ho
 ·exact plo_210 h ho
 ·exact plo_211 h ho
 ·exact plo_212 h ho
 ·exact plo_213 h ho
 ·exact plo_214 h ho
 ·exact plo_215 h ho
 ·exact plo_220 h ho
 ·exact plo_221 h ho
theorem pxa (h:PS w0 w g F I os os p p false bs ks) (ho:(16≤I.op∧I.op≤31)∨(72≤I.op∧I.op≤76)∨(84≤I.op∧I.op≤95)):Calls Tryz.prog 78 #[.pointer (some ⟨g,0,none⟩)] w (Gp w0 g F I os p bs ks (exO ⟨os,p.key,p.il,p.cc,p.pg,p.ad,bs,ks⟩ I.op I.fm I.n I.k (I.a1 os) (I.a os) I.l I.i)):=by
 rw [show (exO ⟨os,p.key,p.il,p.cc,p.pg,p.ad,bs,ks⟩ I.op I.fm I.n I.k (I.a1 os) (I.a os) I.l I.i)=arO ⟨os,p.key,p.il,p.cc,p.pg,p.ad,bs,ks⟩ I.op I.n (opC I.op I.fm bs ks p.key (I.a os)) (opV I.op I.fm os I.k bs (I.a os)) from by unfold exO;rw [if_neg (by omega),if_neg (by omega),if_neg (by omega),if_neg (by omega),if_neg (by omega),if_neg (by omega)]]
 rcases (show (I.op=26∨I.op=90∨I.op=74)∨(I.op=27∨I.op=91∨I.op=75)∨(I.op=30∨I.op=94)∨(I.op=31∨I.op=95)∨(I.op=25∨I.op=89∨I.op=73)∨(I.op=21∨I.op=85)∨(I.op=20∨I.op=84)∨(I.op=22∨I.op=86)∨(I.op=23∨I.op=87)∨(I.op=24∨I.op=88∨I.op=72)∨(I.op=76)∨(I.op=16∨I.op=17∨I.op=18∨I.op=19)∨(I.op=28∨I.op=29∨I.op=92∨I.op=93) by omega) with ho | ho | ho | ho | ho | ho | ho | ho | ho | ho | ho | ho | ho
 ·exact par_26 h ho
 ·exact par_27 h ho
 ·exact par_30 h ho
 ·exact par_31 h ho
 ·exact par_25 h ho
 ·exact par_21 h ho
 ·exact par_20 h ho
 ·exact par_22 h ho
 ·exact par_23 h ho
 ·exact par_24 h ho
 ·exact par_76 h ho
 ·exact par_16 h ho
 ·exact par_28 h ho
theorem kn_dom2:∀op∈knL,(4≤op∧op≤7)∨(69≤op∧op≤71)∨op=134∨op=135∨(136≤op∧op≤143)∨(145≤op∧op≤151)∨(208≤op∧op≤221)∨op=64∨op=65∨(66≤op∧op≤67)∨op=80∨op=144∨op=152∨(16≤op∧op≤31)∨(72≤op∧op≤76)∨(84≤op∧op≤95):=by decide +kernel
theorem kn_lng:∀op∈knL,208≤op→op=209∨op=210∨op=211∨op=212∨op=213∨op=214∨op=215∨op=220∨op=221:=by decide +kernel
theorem pexec_c (h:PS w0 w g F I os os p p false bs ks) (hp:p.ok) (hk:I.op∈knL) (hf:I.fm=fmOf I.op):Calls Tryz.prog 67 #[.pointer (some ⟨g,0,none⟩)] w (Gp w0 g F I os p bs ks (exO ⟨os,p.key,p.il,p.cc,p.pg,p.ad,bs,ks⟩ I.op I.fm I.n I.k (I.a1 os) (I.a os) I.l I.i)):=by
 have XB:=lh (fun W hW=>pxb (w:=W) (w0:=w0) (g:=g) (F:=F) (bs:=bs) (ks:=ks) (os:=os) hW hp hf)
 have XS:=lh (fun W hW=>pxs (w:=W) (w0:=w0) (g:=g) (F:=F) (I:=I) (p:=p) (bs:=bs) (ks:=ks) (os:=os) hW)
 have XM:=lh (fun W hW=>pxm (w:=W) (w0:=w0) (g:=g) (F:=F) (I:=I) (p:=p) (bs:=bs) (ks:=ks) (os:=os) hW)
 have XI:=lh (fun W hW=>pxi (w:=W) (w0:=w0) (g:=g) (F:=F) (I:=I) (p:=p) (bs:=bs) (ks:=ks) (os:=os) hW)
 have XL:=lh (fun W hW=>pxl (w:=W) (w0:=w0) (g:=g) (F:=F) (I:=I) (p:=p) (bs:=bs) (ks:=ks) (os:=os) hW)
 have XA:=lh (fun W hW=>pxa (w:=W) (w0:=w0) (g:=g) (F:=F) (I:=I) (p:=p) (bs:=bs) (ks:=ks) (os:=os) hW)
 have hL:I.op=65→(exO ⟨os,p.key,p.il,p.cc,p.pg,p.ad,bs,ks⟩ I.op I.fm I.n I.k (I.a1 os) (I.a os) I.l I.i)=Pre.rg ⟨os,p.key,p.il,p.cc,p.pg,p.ad,bs,ks⟩ (os.set I.n (I.a os)):=fun h=>by unfold exO;rw [if_neg (by omega),if_neg (by omega),if_pos h]
 have a0:=I.a_in os
 have SC:=lh (fun W (hW:PS w0 W g F I os os p p false bs ks)=>psec_c hW)
 obtain ⟨A,hA⟩:∃A,I.a os=A:=⟨_,rfl⟩
 obtain ⟨r,hr⟩:∃r,(exO ⟨os,p.key,p.il,p.cc,p.pg,p.ad,bs,ks⟩ I.op I.fm I.n I.k (I.a1 os) (I.a os) I.l I.i)=r:=⟨_,rfl⟩
 rw [hr] at XB XS XM XI XL XA hL ⊢
 rw [hA] at hL SC a0
 have HL:=lh hL
 have nn:=h.ix.n
 have hd:=kn_dom2 _ hk
 have KL:=lh (kn_lng _ hk)
 have R0:=lh h
 have e1:IntKind.u32.wrap A=A:=lo32_id _ (by omega) (by omega)
 clear hr hA hL hk hf h
 obtain ⟨o,ho⟩:∃o,I.op=o:=⟨_,rfl⟩
 rw [ho] at hd
 have HO:=lh ho
 clear ho
 refine R0.out.opn ?_
 intros
 rcases hd with hg | hg | hg | hg | hg | hg | hg | hg | hg | hg | hg | hg | hg | hg | hg | hg
 rotate_left 8
 ·subst hg
  go_enter Tryz.func67,Tryz.ntmps67
  go_upto_region 10 with fail
  refine wp_region_held_drew (S:=Sy w0 g F I os p) (by kernel_rfl) R0.out.drew.x (fun hHeld=>?_)
  replace R0:=lh R0.out.drew
  repeat refine tkp ?_
  refine tkc (R:=fun w'=>PS w0 w' g F I os os p p false bs ks) (SC.out _ R0.out) (fun _ h=>h.x) ?_
  clear R0 hHeld
  intro w1 R0 hHeld
  repeat refine tkp ?_
  refine tpr R0.out nn ?_
  clear R0 hHeld
  intro w2 R0 hHeld
  refine wpAnyH_done (by with_unfolding_all rfl) ?_ _
  clear hHeld
  go_wp2
  go_end0
  exact gp_ok R0.out ((HL.out HO.out).trans rfl)
 all_goals
  (first | have k0:o<16:=by omega | have k0:¬ o<16:=by omega)
  (first | have k1:o≥69:=by omega | have k1:¬ o≥69:=by omega)
  (first | have k2:o≤71:=by omega | have k2:¬ o≤71:=by omega)
  (first | have k3:(o == 134)=true:=by simp;omega | have k3:(o == 134)=false:=by simp;omega)
  (first | have k4:(o == 135)=true:=by simp;omega | have k4:(o == 135)=false:=by simp;omega)
  (first | have k5:o≥136:=by omega | have k5:¬ o≥136:=by omega)
  (first | have k6:o≤143:=by omega | have k6:¬ o≤143:=by omega)
  (first | have k7:(o == 65)=true:=by simp;omega | have k7:(o == 65)=false:=by simp;omega)
  (first | have k8:o≥64:=by omega | have k8:¬ o≥64:=by omega)
  (first | have k9:o≤67:=by omega | have k9:¬ o≤67:=by omega)
  (first | have k10:(o == 80)=true:=by simp;omega | have k10:(o == 80)=false:=by simp;omega)
  (first | have k11:(o == 144)=true:=by simp;omega | have k11:(o == 144)=false:=by simp;omega)
  (first | have k12:(o == 152)=true:=by simp;omega | have k12:(o == 152)=false:=by simp;omega)
  (first | have k13:o≥145:=by omega | have k13:¬ o≥145:=by omega)
  (first | have k14:o≤151:=by omega | have k14:¬ o≤151:=by omega)
  (first | have k15:o≥208:=by omega | have k15:¬ o≥208:=by omega)
  have HG:=lh hg
  clear hg
  go_enter Tryz.func67,Tryz.ntmps67
  go_wp2_with (first
   | (go_at_call 72;refine nxp (XB.out _ R0.out (by have:=HG.out;have:=HO.out;omega)) (fun w1 Z=>?_) (fun w1 Z=>?_))
   | (go_at_call 73;refine nxp (XS.out _ R0.out (by have:=HG.out;have:=HO.out;omega)) (fun w1 Z=>?_) (fun w1 Z=>?_))
   | (go_at_call 75;refine nxp (XM.out _ R0.out (by have:=HG.out;have:=HO.out;omega)) (fun w1 Z=>?_) (fun w1 Z=>?_))
   | (go_at_call 76;refine nxp (XI.out _ R0.out (by have:=HG.out;have:=HO.out;omega)) (fun w1 Z=>?_) (fun w1 Z=>?_))
   | (go_at_call 77;refine nxp (XL.out _ R0.out (KL.out (by have:=HG.out;have:=HO.out;omega))) (fun w1 Z=>?_) (fun w1 Z=>?_))
   | (go_at_call 78;refine nxp (XA.out _ R0.out (by have:=HG.out;have:=HO.out;omega)) (fun w1 Z=>?_) (fun w1 Z=>?_)))
  ·first | go_end0 | refine bodyPost_ret (results_none rfl _ _ _) rfl ?_
   exact Z.out
  ·exact ⟨rfl,Z.out⟩
end
section
variable {w0 w w':World} {g:Nat} {F:Foot} {I:In} {os rs:List Int} {p q:Ps} {ov:Bool} {bs ks:List Int}
theorem pexec_x (op fm r1 r2 x2 b1 d1 b2 d2 l1 l2 i2:Int) (p:Ps) (hl:os.length=16) (ro:∀z∈os,0≤z∧z≤4294967295) (h:St 63 w F bs ks) {O:Out} (hO:(xC op fm r1 r2 x2 b1 d1 b2 d2 l1 l2 i2 os p.m p.key p.cd p.il p.cc p.pg p.ad bs ks)=O):Calls Tryz.prog 51 #[.agg #[.int .i64 op,.int .i64 fm,.int .i64 r1,.int .i64 r2,.int .i64 x2,.int .i64 b1,.int .i64 d1,.int .i64 b2,.int .i64 d2,.int .i64 l1,.int .i64 l2,.int .i64 i2],agR os,.agg p.v.toArray,.pointer (some ⟨F.g,0,none⟩)] w fun e w'=>e=.returned (.tuple #[agR O.rs,.agg (p.to O.cc O.pg O.ad).v.toArray,.int .i64 O.c])∧St 63 w' F O.bs ks∧Ch w w' [F.gb]:=by
 by_cases hv:kn op=true∧chk op fm [op,fm,r1,r2,x2,b1,d1,b2,d2,l1,l2,i2]=0∧pok p.m p.key p.cd p.il p.cc p.pg p.ad=true
 ·obtain ⟨hkn,hck,hv⟩:=hv
  obtain ⟨-,hfo,⟨hr10,hr11⟩,⟨hr20,hr21⟩,⟨hx0,hx1⟩,⟨hb10,hb11⟩,hd1,⟨hb20,hb21⟩,hd2,⟨hl0,hl1⟩,-,hi2⟩:=chk_rng hck
  obtain ⟨n,rfl⟩:=Int.eq_ofNat_of_zero_le hr10
  obtain ⟨k,rfl⟩:=Int.eq_ofNat_of_zero_le hr20
  obtain ⟨xx,rfl⟩:=Int.eq_ofNat_of_zero_le hx0
  obtain ⟨bb1,rfl⟩:=Int.eq_ofNat_of_zero_le hb10
  obtain ⟨bb2,rfl⟩:=Int.eq_ofNat_of_zero_le hb20
  obtain ⟨ll,rfl⟩:=Int.eq_ofNat_of_zero_le hl0
  obtain ⟨-,-,-,q0,q1,q2,q3⟩:=(pok_iff _ _ _ _ _ _ _).1 hv
  obtain ⟨o,ho⟩:∃o,exO ⟨os,p.key,p.il,p.cc,p.pg,p.ad,bs,ks⟩ op fm n k ((d1+sumB os [bb1]) % 16777216) ((d2+sumB os [bb2,xx]) % 16777216) ll i2=o:=⟨_,rfl⟩
  have hx:(xC op fm (n:Int) (k:Int) (xx:Int) (bb1:Int) d1 (bb2:Int) d2 (ll:Int) l2 i2 os p.m p.key p.cd p.il p.cc p.pg p.ad bs ks)=if o.c=0 then { o with c:=if o.ov=true∧8≤p.pg then 8 else 0 } else ⟨o.c,os,p.cc,p.pg,p.ad,false,bs⟩:=by
   unfold xC
   rw [if_pos ⟨hkn,hck,hv⟩]
   simp only [Int.toNat_natCast,ho]
  rw [hx] at hO
  subst hO
  refine (pexec_ok (I:=⟨op,fm,n,k,xx,bb1,d1,bb2,d2,ll,l2,i2⟩) hl ro ⟨by dsimp only;omega,by dsimp only;omega,by dsimp only;omega,by dsimp only;omega,by dsimp only;omega,by dsimp only;omega,by dsimp only;omega,by dsimp only;omega,by dsimp only;omega⟩ q2 h hkn hck hv (by rw [← ho,exO_len];exact hl) (fun w0 W g hW=>ho▸pexec_c hW ⟨q0,q1,q2,q3⟩ (of_decide_eq_true hkn) hfo.symm)).mono ?_
  rintro e w' ⟨hc,hne,hz⟩
  by_cases h0:o.c=0
  ·rw [if_pos h0]
   exact ⟨(hz h0).1,(hz h0).2,hc⟩
  ·rw [if_neg h0]
   exact ⟨(hne h0).1,(hne h0).2,hc⟩
 ·have hx:(xC op fm r1 r2 x2 b1 d1 b2 d2 l1 l2 i2 os p.m p.key p.cd p.il p.cc p.pg p.ad bs ks)=⟨1,os,p.cc,p.pg,p.ad,false,bs⟩:=by unfold xC;rw [if_neg hv]
  rw [hx] at hO
  subst hO
  exact pexec_no op fm r1 r2 x2 b1 d1 b2 d2 l1 l2 i2 p hl h hv
end
section
variable {w0 w w':World} {g:Nat} {F:Foot} {rs:List Int} {p:Ps} {bs ks z:List Int}
theorem gexec_w (op fm r1 r2 x2 b1 d1 b2 d2 l1 l2 i2:Int) (p:Ps) (hl:rs.length=16) (ro:∀x∈rs,0≤x∧x≤4294967295) (h:St 63 w F bs ks):Calls Tryz.prog 51 #[.agg #[.int .i64 op,.int .i64 fm,.int .i64 r1,.int .i64 r2,.int .i64 x2,.int .i64 b1,.int .i64 d1,.int .i64 b2,.int .i64 d2,.int .i64 l1,.int .i64 l2,.int .i64 i2],agR rs,.agg p.v.toArray,.pointer (some ⟨F.g,0,none⟩)] w fun e w'=>∃v,e=.returned v∧Wx w F p bs ks v w':=by
 refine (pexec_x op fm r1 r2 x2 b1 d1 b2 d2 l1 l2 i2 p hl ro h rfl).mono ?_
 rintro e w' ⟨he,hs,hc⟩
 refine ⟨_,he,_,_,_,_,rfl,?_,?_,⟨rfl,rfl,rfl⟩,?_,hs,hc⟩
 ·rw [xC_len];exact hl
 ·exact xC_ro ro op fm r1 r2 x2 b1 d1 b2 d2 l1 l2 i2 p h.rb (by have:=h.ln;have:=h.l1;omega)
 ·refine ⟨?_,?_⟩
  ·rw [hs.ln,h.ln]
  ·intro j hj
   by_cases h0:(xC op fm r1 r2 x2 b1 d1 b2 d2 l1 l2 i2 rs p.m p.key p.cd p.il p.cc p.pg p.ad bs ks).c=0∨(xC op fm r1 r2 x2 b1 d1 b2 d2 l1 l2 i2 rs p.m p.key p.cd p.il p.cc p.pg p.ad bs ks).c=8
   ·exact (xC_mild op fm r1 r2 x2 b1 d1 b2 d2 l1 l2 i2 rs p.m p.key p.cd p.il p.cc p.pg p.ad bs ks h.rb h0).b j hj
   ·have:=(xC_ref op fm r1 r2 x2 b1 d1 b2 d2 l1 l2 i2 rs p.m p.key p.cd p.il p.cc p.pg p.ad bs ks (by omega) (by omega)).2.2.2.2
    rw [this] at hj
    exact absurd rfl hj
end
theorem cell_ltB {w:World} {b o:Nat} {v:Value} (h:w.cell? ⟨b,o,none⟩=some v):b<w.heap.size:=by
 rcases Nat.lt_or_ge b w.heap.size with h2 | h2
 ·exact h2
 ·unfold World.cell? at h;simp only [Array.getElem?_eq_none h2] at h;cases h
theorem decode_c_yes (A:Option Addr) (len cap:Nat) (zs:List Int) (w:World) (hb:Byt w A len zs) (hl:(len:Int)≤9223372036854775807) (hp:pdok len zs=true):Calls Tryz.prog 37 #[.slice A len cap] w fun e w'=>e=.returned (.tuple #[.agg #[.int .i64 (zs.getD 0 0),.int .i64 (zs.getD 1 0 / 16),.bool (decide (zs.getD 1 0 / 4 % 2=1)),.bool (decide (zs.getD 1 0 / 2 % 2=1)),.bool (decide (zs.getD 1 0 % 2=1)),.int .i64 (256*zs.getD 2 0+zs.getD 3 0),.int .i64 (zs.getD 4 0 / 64),.int .i64 (zs.getD 4 0 / 16 % 4),.int .i64 (zs.getD 4 0 % 16),.int .i64 (65536*zs.getD 5 0+256*zs.getD 6 0+zs.getD 7 0)],.bool true])∧Below w.heap.size w w':=by
 unfold pdok at hp
 obtain ⟨h8,hx⟩:=of_decide_eq_true hp
 subst h8
 clear hp
 obtain ⟨b,off,rfl,hc⟩:=hb.at_ (by omega)
 have c0:=hc 0 (by omega)
 have r0:=hb.range 0
 obtain ⟨x0,e0⟩:∃x,zs.getD 0 0=x:=⟨_,rfl⟩
 rw [e0] at c0 r0
 have E0:=lh e0
 have c1:=hc 1 (by omega)
 have r1:=hb.range 1
 obtain ⟨x1,e1⟩:∃x,zs.getD 1 0=x:=⟨_,rfl⟩
 rw [e1] at c1 r1
 have E1:=lh e1
 have c2:=hc 2 (by omega)
 have r2:=hb.range 2
 obtain ⟨x2,e2⟩:∃x,zs.getD 2 0=x:=⟨_,rfl⟩
 rw [e2] at c2 r2
 have E2:=lh e2
 have c3:=hc 3 (by omega)
 have r3:=hb.range 3
 obtain ⟨x3,e3⟩:∃x,zs.getD 3 0=x:=⟨_,rfl⟩
 rw [e3] at c3 r3
 have E3:=lh e3
 have c4:=hc 4 (by omega)
 have r4:=hb.range 4
 obtain ⟨x4,e4⟩:∃x,zs.getD 4 0=x:=⟨_,rfl⟩
 rw [e4] at c4 r4
 have E4:=lh e4
 have c5:=hc 5 (by omega)
 have r5:=hb.range 5
 obtain ⟨x5,e5⟩:∃x,zs.getD 5 0=x:=⟨_,rfl⟩
 rw [e5] at c5 r5
 have E5:=lh e5
 have c6:=hc 6 (by omega)
 have r6:=hb.range 6
 obtain ⟨x6,e6⟩:∃x,zs.getD 6 0=x:=⟨_,rfl⟩
 rw [e6] at c6 r6
 have E6:=lh e6
 have c7:=hc 7 (by omega)
 have r7:=hb.range 7
 obtain ⟨x7,e7⟩:∃x,zs.getD 7 0=x:=⟨_,rfl⟩
 rw [e7] at c7 r7
 have E7:=lh e7
 rw [e1] at hx
 rw [Nat.add_zero] at c0
 have hlt:=cell_ltB c1
 clear e0
 obtain ⟨r0,s0⟩:=r0
 clear e1
 obtain ⟨r1,s1⟩:=r1
 clear e2
 obtain ⟨r2,s2⟩:=r2
 clear e3
 obtain ⟨r3,s3⟩:=r3
 clear e4
 obtain ⟨r4,s4⟩:=r4
 clear e5
 obtain ⟨r5,s5⟩:=r5
 clear e6
 obtain ⟨r6,s6⟩:=r6
 clear e7
 obtain ⟨r7,s7⟩:=r7
 clear hc hb
 rw [E0.out]
 rw [E1.out]
 rw [E2.out]
 rw [E3.out]
 rw [E4.out]
 rw [E5.out]
 rw [E6.out]
 rw [E7.out]
 have t0:(bits .and .u8 x1 8 != 0)=false:=by rw [u8_bit 3 8 x1 rfl (by omega) r1 s1,decide_eq_false_iff_not];omega
 have T2:=lh (u8_bit 2 4 x1 rfl (by omega) r1 s1)
 have T1:=lh (u8_bit 1 2 x1 rfl (by omega) r1 s1)
 have T0:=lh (u8_bit 0 1 x1 rfl (by omega) r1 s1)
 have j1:=i64_join 8 256 (x2*256) x3 rfl (by omega) (by omega) (by omega) (by omega) (by omega) (by omega)
 have j2:=i64_join 16 65536 (x5*65536) (x6*256) rfl (by omega) (by omega) (by omega) (by omega) (by omega) (by omega)
 have j3:=i64_join 8 256 (x5*65536+x6*256) x7 rfl (by omega) (by omega) (by omega) (by omega) (by omega) (by omega)
 have l1:=u8_low 2 3 (x4 / 16) rfl (by omega) (by omega) (by omega)
 have l2:=u8_low 4 15 x4 rfl (by omega) (by omega) (by omega)
 clear hx
 go_enter Tryz.func37,Tryz.ntmps37
 go_wp2
 refine wp_region_still_tail 67 (by kernel_rfl) (by kernel_rfl) ?_
 change wpStill _ _ (World.drew _) (fun a=>wpList _ _ _ _ a (World.drew _)) _ _
 simp only [List.append_eq,List.cons_append,List.nil_append,List.take_succ_cons,List.take_zero,List.drop_succ_cons,List.drop_zero]
 repeat still_step
 refine wpStill_nil ?_
 go_wp2
 skip
 go_returns
 exact ⟨by rw [T2.out,T1.out,T0.out,j1,j2,j3];simp<;>omega,dBelow ((Below.refl w.heap.size w).alloc (Nat.le_refl _) _) 1⟩
def kG:List Int:=[0,3,4,7]
def pG:Ps:={ m:=0,key:=1,M:=false,W:=false,P:=true,cd:=0,il:=0,cc:=0,pg:=0,ad:=2048 }
def zG:List Int:=[0,17,0,0,0,0,8,0]
def MG (z bs:List Int):Prop:=bs.length=z.length∧∀j,bs.getD j 0≠z.getD j 0→(24≤j∧j<64)∨(2048≤j∧j<4096)
section
variable {z bs bs' ys:List Int}
theorem MG.refl (z:List Int):MG z z:=⟨rfl,fun j h=>absurd rfl h⟩
theorem alG {j:Nat} (h:alP 1 (kG.getD (j / 2048) 0)=true):2048≤j∧j<4096:=by
 have h:=of_decide_eq_true h
 rcases (show j / 2048=0∨j / 2048=1∨j / 2048=2∨j / 2048=3∨4≤j / 2048 by omega) with e | e | e | e | e
 ·rw [e] at h;exact absurd h (by decide)
 ·omega
 ·rw [e] at h;exact absurd h (by decide)
 ·rw [e] at h;exact absurd h (by decide)
 ·rw [show kG.getD (j / 2048) 0=0 from by rw [List.getD_eq_getElem?_getD,List.getElem?_eq_none (by simpa [kG] using e)];rfl] at h
  exact absurd h (by decide)
theorem MG.mb (h:MG z bs) (hm:MB 1 kG bs bs'):MG z bs':=by
 refine ⟨hm.1.trans h.1,fun j hj=>?_⟩
 by_cases he:bs'.getD j 0=bs.getD j 0
 ·exact h.2 j (he▸hj)
 ·exact .inr (alG (hm.2 j he))
theorem MG.old (h:MG z bs) {al:Int→Bool} {ks:List Int} {a:Nat} (h0:24≤a) (h1:a+ys.length≤64) (hl:64≤z.length):MG z (sPut al bs ks (a:Int) ys):=by
 have hlen:=h.1
 have hb:a+ys.length≤bs.length:=by omega
 unfold sPut
 split
 ·refine ⟨?_,fun j hj=>?_⟩
  ·rw [← h.1];simp [splice];omega
  ·by_cases he:(splice bs ((a:Nat):Int).toNat ys).getD j 0=bs.getD j 0
   ·exact h.2 j (he▸hj)
   ·left
    simp only [Int.toNat_natCast,List.getD_eq_getElem?_getD] at he
    rw [splice_get bs a ys hb j] at he
    by_cases c1:j<a
    ·rw [if_pos c1] at he;exact absurd rfl he
    ·rw [if_neg c1] at he
     by_cases c2:j<a+ys.length
     ·omega
     ·rw [if_neg c2] at he;exact absurd rfl he
 ·exact h
theorem MG.get (h:MG z bs) {a n:Nat} (hs:a+n≤24∨(64≤a∧a+n≤2048)∨4096≤a):sGet bs (a:Int) (n:Int)=sGet z (a:Int) (n:Int):=by
 unfold sGet
 rw [h.1]
 split
 ·rename_i hi
  obtain ⟨i0,i1,i2,i3⟩:=sIn_yes hi
  refine List.ext_getElem (by simp [h.1]) fun i e1 e2=>?_
  simp only [List.length_take,List.length_drop,Int.toNat_natCast] at e1 e2
  simp only [List.getElem_take,List.getElem_drop,Int.toNat_natCast]
  have hl:=h.1
  by_cases he:bs.getD (a+i) 0=z.getD (a+i) 0
  ·rw [List.getD_eq_getElem?_getD,List.getD_eq_getElem?_getD,List.getElem?_eq_getElem (by omega),List.getElem?_eq_getElem (by omega)] at he
   exact he
  ·have:=h.2 _ he
   omega
 ·rfl
end
theorem zG_dec:pdok 8 zG=true∧({ m:=zG.getD 0 0,key:=zG.getD 1 0 / 16,M:=decide (zG.getD 1 0 / 4 % 2=1),W:=decide (zG.getD 1 0 / 2 % 2=1),P:=decide (zG.getD 1 0 % 2=1),cd:=256*zG.getD 2 0+zG.getD 3 0,il:=zG.getD 4 0 / 64,cc:=zG.getD 4 0 / 16 % 4,pg:=zG.getD 4 0 % 16,ad:=65536*zG.getD 5 0+256*zG.getD 6 0+zG.getD 7 0 }:Ps)=pG:=⟨by decide +kernel,rfl⟩
structure CX (w0 w:World) (g:Nat) (F:Foot) (rs:List Int) (p:Ps) (n:Int) (bs z:List Int):Prop where
 cp:CP w w g F rs p n bs kG
 pk:p.key=1∧p.P=true∧p.W=false
 mg:MG z bs
 ch:Ch w0 w [g,F.gb]
 nn:g<w0.heap.size∧F.gb<w0.heap.size∧2<w0.heap.size∧g≠2∧F.gb≠2
 tb : Lib.TabIs Tryz.prog w "internal/strconv.uint64pow10" .u64 Lib.pow10Tab
 zz:z.length=8192∧sGet z 96 8=zG∧sGet z 104 8=zG
def CE (w0 w:World) (g:Nat) (F:Foot) (z:List Int):Prop:=∃ (rs:List Int) (p:Ps) (n:Int) (bs:List Int),CX w0 w g F rs p n bs z
def Pc (A:Value→Prop) (w0 w:World) (g:Nat) (F:Foot) (z:List Int) (e:Ending) (w':World):Prop:=∃v,e=.returned v∧A v∧CE w0 w' g F z∧Ch w w' [g,F.gb]
def EvV (v:Value):Prop:=∃a b c d:Int,v=.agg #[.int .i64 a,.int .i64 b,.int .i64 c,.int .i64 d]
def ErV (v:Value):Prop:=∃a b c d k:Int,v=.tuple #[.agg #[.int .i64 a,.int .i64 b,.int .i64 c,.int .i64 d],.int .i64 k]
section
variable {w0 w w':World} {g:Nat} {F:Foot} {rs rs':List Int} {p p':Ps} {n n':Int} {bs bs' z:List Int}
theorem CX.sz (h:CX w0 w g F rs p n bs z):w0.heap.size≤w.heap.size:=h.ch.size
theorem CX.to (h:CX w0 w g F rs p n bs z) (hc:CP w w' g F rs' p' n' bs' kG) (hp:p'.key=1∧p'.P=true∧p'.W=false) (hm:MG z bs'):CX w0 w' g F rs' p' n' bs' z:=
 { cp:=hc.rb,pk:=hp,mg:=hm,ch:=h.ch.trans hc.b,nn:=h.nn,tb:=tab_ch2 h.tb hc.b ⟨by have:=h.nn;simp;omega,by have:=h.nn;have:=h.sz;omega⟩,zz:=h.zz }
theorem CX.keep (h:CX w0 w g F rs p n bs z) (hb:Below w.heap.size w w'):CX w0 w' g F rs p n bs z:=h.to (h.cp.keep hb) h.pk h.mg
theorem CX.drew (h:CX w0 w g F rs p n bs z):CX w0 w.drew g F rs p n bs z:=h.keep (dBelow' (Below.refl _ _) 1)
theorem CX.e (h:CX w0 w g F rs p n bs z):CE w0 w g F z:=⟨_,_,_,_,h⟩
theorem CX.lt (h:CX w0 w g F rs p n bs z):g<w.heap.size∧F.g<w.heap.size∧F.gb<w.heap.size∧F.gk<w.heap.size:=⟨h.cp.m.lt,h.cp.st.ltg,h.cp.st.ltb,h.cp.st.ltk⟩
theorem CE.keep (h:CE w0 w g F z) (hb:Below w.heap.size w w'):CE w0 w' g F z:=by
 obtain ⟨_,_,_,_,h⟩:=h
 exact (h.keep hb).e
end
theorem sFet_len (al:Int→Bool) (bs ks:List Int) (a:Int) (k:Nat):(sFet al bs ks a (k:Int)).length≤k∧(sCode al bs.length ks a (k:Int)=0→(sFet al bs ks a (k:Int)).length=k):=by
 unfold sFet
 split
 ·rename_i h
  obtain ⟨_,_,_,_⟩:=sIn_yes (sCode_zero h)
  have:(sGet bs a (k:Int)).length=k:=by unfold sGet;rw [if_pos (sCode_zero h)];simp;omega
  exact ⟨Nat.le_of_eq this,fun _=>this⟩
 ·rename_i h
  exact ⟨by simp,fun h0=>absurd h0 h⟩
def FtV (B:Nat) (w:World) (v:Value):Prop:=∃ (v1:Value) (l:Nat) (c:Int) (ys:List Int),v=.tuple #[v1,.int .i64 c]∧Own w B v1 l ys∧l≤6∧(c=0→2≤l)
section
variable {w0 w w':World} {g:Nat} {F:Foot} {rs os:List Int} {p q:Ps} {n:Int} {bs ks z:List Int}
theorem cfet_w (h:CP w0 w g F rs p n bs ks) (A:Int):Calls Tryz.prog 38 #[.pointer (some ⟨g,0,none⟩),.int .i64 A] w fun e w'=>∃v,e=.returned v∧FtV w.heap.size w' v∧Below w.heap.size w w':=by
 have FC:=lh (fun W (k:Nat) (hS:St 63 W F bs ks)=>show Calls Tryz.prog 47 #[.pointer (some ⟨F.g,0,none⟩),.int .i64 A,.int .i64 (k:Int),.int .i64 p.key] W fun e w'=>∃v,e=.returned v∧(∃B l cap c ys,v=.tuple #[.slice B l cap,.int .i64 c]∧Own w' W.heap.size (.slice B l cap) l ys∧l≤k∧(c=0→l=k))∧Below W.heap.size W w' from by
  refine (fetch_c W hS A (k:Int) p.key).mono ?_
  rintro e w' ⟨B,l,cap,rfl,hO,hb⟩
  have h1:=sFet_len (alF p.key) bs ks A k
  rw [hO.len] at h1
  exact ⟨_,rfl,⟨B,l,cap,_,_,rfl,hO,h1.1,h1.2⟩,hb⟩)
 have H:=lh (h.rb)
 clear h
 rcases (show A.tmod 2=0∨A.tmod 2=1∨A.tmod 2 = -1 by rw [Int.tmod_eq_emod];split<;>simp<;>omega) with e1 | e1 | e1
 rotate_left
 ·go_enter Tryz.func38,Tryz.ntmps38
  go_wp2
  go_ret2
  exact ⟨_,rfl,⟨_,0,6,[],rfl,Own.nil _ _,by omega,fun h=>by cases h⟩,Below.refl _ _⟩
 ·go_enter Tryz.func38,Tryz.ntmps38
  go_wp2
  go_ret2
  exact ⟨_,rfl,⟨_,0,6,[],rfl,Own.nil _ _,by omega,fun h=>by cases h⟩,Below.refl _ _⟩
 go_enter Tryz.func38,Tryz.ntmps38
 go_upto_region 3 with fail
 refine wp_region_held_drew (S:=fun W=>CP w W g F rs p n bs ks∧True) (by kernel_rfl) ⟨H.out.drew,trivial⟩ (fun hHeld=>?_)
 replace H:=lh H.out.drew
 have hB0:=lh (dBelow' (Below.refl w.heap.size w) 1)
 obtain ⟨v0,hv⟩:∃V,w.drew=V:=⟨_,rfl⟩
 have hB0:Hid (Below w.heap.size w v0):=lh (hv▸hB0.out)
 rw [hv] at H hHeld ⊢
 clear hv
 repeat refine tkx ?_
 refine tkce (R:=fun v w'=>(∃B l cap c ys,v=.tuple #[.slice B l cap,.int .i64 c]∧Own w' v0.heap.size (.slice B l cap) l ys∧l≤2∧(c=0→l=2))∧CP w w' g F rs p n bs ks∧Below v0.heap.size v0 w') ((FC.out v0 2 H.out.st).mono fun e w' ⟨v,he,hv,hb⟩=>⟨v,he,hv,H.out.keep hb,hb⟩) (fun _ _ h=>⟨h.2.1,trivial⟩) ?_
 clear H hHeld
 intro v w1 Z hHeld
 obtain ⟨⟨B,l,cap,c,ys,rfl,hO,hl,hc⟩,hC,hb⟩:=Z.out
 have H:=lh hC
 have hB1:=lh (hB0.out.trans (hb.mono hB0.out.size))
 have OO:=lh (own_le hO hB0.out.size)
 have HL:=lh hl
 clear Z hC hb hO hl
 repeat refine tkx ?_
 refine wpAnyH_done (by with_unfolding_all rfl) ?_ _
 clear hHeld hB0
 by_cases h0:c=0
 rotate_left
 ·have e2:(c == 0)=false:=by rw [beq_eq_false_iff_ne];exact h0
  have e3:(c != 0)=true:=by simpa using h0
  go_wp2
  go_ret2
  exact ⟨_,rfl,⟨_,l,c,ys,rfl,OO.out,by have:=HL.out;omega,fun h=>absurd h h0⟩,hB1.out⟩
 obtain rfl:=hc h0
 subst h0
 clear hc HL
 obtain ⟨b,cap',hv,hb1,hb2,-,-⟩:=OO.out.pos (by omega)
 injection hv with i1 i2 i3
 subst i1 i3
 have Y:=lh OO.out.byt
 obtain ⟨op,hop⟩:∃op,ys.getD 0 0=op:=⟨_,rfl⟩
 have O0:=Y.out.range 0
 rw [hop] at O0
 have cb:=byt0 Y.out (by omega)
 rw [hop] at cb
 have c1:IntKind.i64.wrap op=op:=wrap_i64_id (by omega) (by omega)
 have LC:=lh (fun W=>length_c op (by omega) (by omega) W)
 obtain ⟨m,hm,hm2⟩:∃m:Nat,lenOf op=(m:Int)∧(m=2∨(m≠2∧2≤m∧m≤6)):=by
  unfold lenOf
  rw [if_pos (by omega)]
  split
  ·exact ⟨2,rfl,.inl rfl⟩
  ·split
   ·exact ⟨4,rfl,.inr (by omega)⟩
   ·exact ⟨6,rfl,.inr (by omega)⟩
 rw [hm] at LC
 clear hm hop O0
 rcases hm2 with rfl | ⟨hm,hm0,hm6⟩
 ·go_wp2_with (go_at_call 42;refine nz (LC.out _) ?_)
  go_ret2
  exact ⟨_,rfl,⟨_,2,0,ys,rfl,OO.out,by omega,fun _=>by omega⟩,hB1.out⟩
 ·have e2:((m:Int) == 2)=false:=by simp;omega
  have HM:=lh (⟨hm0,hm6⟩:2≤m∧m≤6)
  have HB:=lh hb2
  clear hm hm0 hm6 hb1 hb2
  go_upto_region 6 with (go_at_call 42;refine nz (LC.out _) ?_)
  refine wp_region_held_drew (S:=fun W=>CP w W g F rs p n bs ks∧W.cell? ⟨b,0,none⟩=some (.int .u8 op)) (by kernel_rfl) ⟨H.out.drew,cb⟩ (fun hHeld=>?_)
  replace H:=lh H.out.drew
  have hB2:=lh (dBelow' hB1.out 1)
  obtain ⟨v2,hv⟩:∃V,w1.drew=V:=⟨_,rfl⟩
  have hBb:Hid (b<v2.heap.size):=lh (hv▸HB.out)
  have hB3:Hid (Below w.heap.size w v2):=lh (hv▸hB2.out)
  rw [hv] at H hHeld ⊢
  clear hv hB1 hB2 HB
  repeat refine tkx ?_
  refine tkz (LC.out _) ?_
  repeat refine tkx ?_
  refine tkce (R:=fun v w'=>(∃B l cap c ys,v=.tuple #[.slice B l cap,.int .i64 c]∧Own w' v2.heap.size (.slice B l cap) l ys∧l≤m∧(c=0→l=m))∧(CP w w' g F rs p n bs ks∧w'.cell? ⟨b,0,none⟩=some (.int .u8 op))∧Below v2.heap.size v2 w') ((FC.out v2 m H.out.st).mono fun e w' ⟨v,he,hv,hb⟩=>⟨v,he,hv,⟨H.out.keep hb,(hb.cell (p:=⟨b,0,none⟩) hBb.out).trans hHeld.2⟩,hb⟩) (fun _ _ h=>h.2.1) ?_
  clear H hHeld
  intro v w2 Z hHeld
  obtain ⟨⟨B,l,cap,c,ys2,rfl,hO,hl,hc⟩,-,hb⟩:=Z.out
  have O2:=lh (own_le hO hB3.out.size)
  have B4:=lh (hB3.out.trans (hb.mono hB3.out.size))
  have HL:=lh (⟨hl,hc⟩:l≤m∧(c=0→l=m))
  clear Z hO hb hl hc
  repeat refine tkx ?_
  refine wpAnyH_done (by with_unfolding_all rfl) ?_ _
  clear hHeld
  go_wp2
  go_ret2
  exact ⟨_,rfl,⟨_,l,c,ys2,rfl,O2.out,by have:=HL.out;have:=HM.out;omega,fun h=>by have:=HL.out.2 h;have:=HM.out;omega⟩,B4.out⟩
theorem caddr_w {b m cap:Nat} {d:Int} {xs:List Int} (h:CP w0 w g F rs p n bs ks) (hn:m≤2) (hc:∀i,i<m→w.cell? ⟨b,i,none⟩=some (.int .i64 (xs.getD i 0))) (hx:∀i,i<m→0≤xs.getD i 0∧xs.getD i 0<16):Calls Tryz.prog 71 #[.pointer (some ⟨g,0,none⟩),.int .i64 d,.slice (some ⟨b,0,none⟩) m cap] w fun e w'=>∃v,e=.returned v∧(∃a:Int,v=.int .i64 a)∧w=w':=by
 have HC:=lh hc
 have HX:=lh hx
 have HR:=lh (show ∀r:Nat,r<16→w.cell? ⟨g,1+r,none⟩=some (.int .u32 (rs.getD r 0)) from fun r hr=>by
  refine h.rowR r _ ?_
  rw [List.getElem?_map,List.getElem?_eq_getElem (by rw [h.rl];omega),List.getD_eq_getElem?_getD,List.getElem?_eq_getElem (by rw [h.rl];omega)]
  rfl)
 clear hc hx h
 go_enter Tryz.func71,Tryz.ntmps71
 go_wp2
 go_loopw [1,11] (fun s x W=>∃ (k:Nat) (u:Int),k≤m∧x=.int .i64 (k:Int)∧s=.int .i64 u∧w=W) (fun _ x _=>m - (intOf x).toNat)
 case atStart=>exact ⟨0,d,Nat.zero_le _,rfl,rfl,rfl⟩
 case round=>
  obtain ⟨k,u,hk,rfl,rfl,rfl⟩:=hrel
  by_cases hlt:k<m
  ·have k1:(k:Int)<(m:Int):=by omega
   have c:=HC.out k hlt
   have hx:=HX.out k hlt
   have kw:IntKind.i64.wrap ((k:Int)+1)=(k:Int)+1:=wrap_i64_id (by omega) (by omega)
   obtain ⟨x,hx1⟩:∃x,xs.getD k 0=x:=⟨_,rfl⟩
   rw [hx1] at c hx
   have HK:=lh hlt
   clear hx1 hlt hk
   by_cases h0:x=0
   ·subst h0
    clear hx
    go_wp2
    go_roundw
    case rel=>exact ⟨k+1,u,HK.out,rfl,rfl,trivial⟩
    case measure=>have:=HK.out;simp [intOf];omega
   ·have e0:(x == 0)=false:=by rw [beq_eq_false_iff_ne];exact h0
    obtain ⟨r,rfl⟩:=Int.eq_ofNat_of_zero_le hx.1
    have x1:(r:Int)<16:=hx.2
    have cr:=HR.out r (by omega)
    obtain ⟨y,hy⟩:∃y,rs.getD r 0=y:=⟨_,rfl⟩
    rw [hy] at cr
    clear hx h0 hy
    go_wp2
    go_roundw
    case rel=>exact ⟨k+1,_,HK.out,rfl,rfl,trivial⟩
    case measure=>have:=HK.out;simp [intOf];omega
  ·have k1:¬((k:Int)<(m:Int)):=by omega
   clear hk hlt
   go_wp2
   go_ret
   exact ⟨_,rfl,⟨_,rfl⟩,rfl⟩
end
theorem decG (A:Option Addr) (cap:Nat) (w:World) (hb:Byt w A 8 zG):Calls Tryz.prog 37 #[.slice A 8 cap] w fun e w'=>e=.returned (.tuple #[.agg pG.v.toArray,.bool true])∧Below w.heap.size w w':=by
 have h:=decode_c_yes A 8 cap zG w hb (by omega) zG_dec.1
 have e:=congrArg (fun p:Ps=>p.v.toArray) zG_dec.2
 exact h.mono fun e' w' hh=>⟨hh.1.trans (congrArg (fun x=>Ending.returned (.tuple #[.agg x,.bool true])) e),hh.2⟩
section
variable {w0 w w':World} {g:Nat} {F:Foot} {rs os:List Int} {p q:Ps} {n:Int} {bs ks z:List Int}
theorem CP.nx {w1:World} {rs':List Int} {p':Ps} {n':Int} {bs':List Int} (h:CP w w1 g F rs p n bs kG) (hX:CX w0 w' g F rs' p' n' bs' z) (hC:Ch w1 w' [g,F.gb]):CP w w' g F rs' p' n' bs' kG:={ hX.cp with b:=h.b.trans hC }
theorem below_row3 {B:Nat} {a w:World} (h:Below B a w) {k:Nat} (hk:B≤k) (cs:Array Value):Below B a (w.setRow k cs):=⟨h.os,h.tape,h.output,by have:=h.size;simpa [World.setRow] using this,fun i hi=>(setRow_other w k i cs (by omega)).trans (h.block i hi)⟩
theorem ctake_w (h:CX w0 w g F rs p n bs z) (cl k:Int) (a:Nat) (hc:(cl=2∧a=32)∨(cl=3∧a=40)):Calls Tryz.prog 26 #[.pointer (some ⟨g,0,none⟩),.int .i64 cl,.int .i64 k] w (Pc EvV w0 w g F z):=by
 have H0:=lh h
 have H:=lh h.cp
 have HA:=lh hc
 have e0:g<w.heap.size∧F.g<w.heap.size∧F.gb<w.heap.size∧F.gk<w.heap.size:=h.lt
 clear h hc
 go_enter Tryz.func26,Tryz.ntmps26
 go_upto_region 1 with fail
 have hE:=Bk.new w [.int .i64 0,.int .i64 0,.int .i64 0,.int .i64 0] 44
 have hb:=(Below.refl w.heap.size w).alloc (Nat.le_refl _) (.cells ([.int .i64 0,.int .i64 0,.int .i64 0,.int .i64 0]:List Value).toArray 44)
 replace H:=lh (H.out.keep hb)
 have hlt:=hE.lt
 obtain ⟨w1,hW⟩:∃V,w.alloc (.cells ([.int .i64 0,.int .i64 0,.int .i64 0,.int .i64 0]:List Value).toArray 44)=V:=⟨_,rfl⟩
 rw [hW] at hE H hlt
 try rw [hW]
 obtain ⟨g6,hg⟩:∃k,w.heap.size=k:=⟨_,rfl⟩
 rw [hg] at hE e0 hlt
 try simp only [hg]
 have e9:w.heap.size≤g6:=Nat.le_of_eq hg
 have E:=lh hE
 clear hW hg hb hE
 refine wp_region_lit ?_
 refine lsv (v:=.agg #[.int .i64 0,.int .i64 24,.int .i64 32,.int .i64 40,.int .i64 48,.int .i64 56]) (w':=w1) ?_ (hr:=by first | (go_simp;done) | (go_simp;kernel_rfl))
 refine lsv (w':=w1) ?_
 refine lsv (v:=.int .i64 (a:Int)) (w':=w1) ?_ (hr:=by rcases HA.out with ⟨rfl,rfl⟩ | ⟨rfl,rfl⟩<;>(unfold execOp;simp only [Act.eval];kernel_rfl))
 refine lsv (w':=w1) ?_
 refine wpList_nil ?_
 go_upto_region 2 with fail
 refine H.out.opn ?_
 intros
 refine wp_region_lit ?_
 iterate 3 refine lsv (w':=w1) ?_
 refine lsm (cs:=p.v) H.out.rowP ?_
 refine lsv (v:=.pointer (some ⟨w1.heap.size,0,none⟩)) (w':=w1.alloc (.cells ([.int .i64 0,.int .i64 0,.bool false,.bool false,.bool false,.int .i64 0,.int .i64 0,.int .i64 0,.int .i64 0,.int .i64 0]:List Value).toArray 35)) ?_
 refine lss (cs':=p.v) (Bk.new w1 [.int .i64 0,.int .i64 0,.bool false,.bool false,.bool false,.int .i64 0,.int .i64 0,.int .i64 0,.int .i64 0,.int .i64 0] 35) (by rfl) (one_ps _) (by kernel_rfl) ?_
 refine wpList_nil ?_
 have hb:=below_row3 ((Below.refl w1.heap.size w1).alloc (Nat.le_refl _) (.cells ([.int .i64 0,.int .i64 0,.bool false,.bool false,.bool false,.int .i64 0,.int .i64 0,.int .i64 0,.int .i64 0,.int .i64 0]:List Value).toArray 35)) (Nat.le_refl _) p.v.toArray
 have hP:=(Bk.new w1 [.int .i64 0,.int .i64 0,.bool false,.bool false,.bool false,.int .i64 0,.int .i64 0,.int .i64 0,.int .i64 0,.int .i64 0] 35).rowSet p.v
 replace E:=lh (E.out.keep hb)
 replace H:=lh (H.out.keep hb)
 obtain ⟨w2,hW⟩:∃V,(w1.alloc (.cells ([.int .i64 0,.int .i64 0,.bool false,.bool false,.bool false,.int .i64 0,.int .i64 0,.int .i64 0,.int .i64 0,.int .i64 0]:List Value).toArray 35)).setRow w1.heap.size p.v.toArray=V:=⟨_,rfl⟩
 rw [hW] at hP E H
 rw [hW]
 obtain ⟨g8,hg⟩:∃k,w1.heap.size=k:=⟨_,rfl⟩
 rw [hg] at hP hlt
 try simp only [hg]
 have P2:=lh hP
 clear hW hg hb hP
 go_upto_region 3 with fail
 refine wp_region_lit ?_
 iterate 2 refine lsv (w':=w2) ?_
 refine lsk (w':=w2.setCell ⟨g8,5,none⟩ (.int .i64 k)) (by have c:=P2.out.cell (c:=5) rfl;have f:=P2.out.free;unfold execOp;go_simp;(try rfl)) ?_
 refine wpList_nil ?_
 have hP:Bk (w2.setCell ⟨g8,5,none⟩ (.int .i64 k)) g8 35 ({ p with cd:=k }:Ps).v:=P2.out.set_ 5 (.int .i64 k)
 have hE:=E.out.other (.int .i64 k) (p:=⟨g8,5,none⟩) (by show g8≠g6;omega)
 have hH:=H.out.oth (a:=⟨g8,5,none⟩) (.int .i64 k) ⟨by show g8≠g;omega,by show g8≠F.g;omega,by show g8≠F.gb;omega,by show g8≠F.gk;omega⟩ (by show w.heap.size≤g8;omega)
 obtain ⟨w3,hW⟩:∃V,w2.setCell ⟨g8,5,none⟩ (.int .i64 k)=V:=⟨_,rfl⟩
 rw [hW] at hP hE hH
 rw [hW]
 replace P2:=lh hP
 replace E:=lh hE
 replace H:=lh hH
 clear hW hP hE hH
 go_upto_region 4 with fail
 refine wp_region_lit ?_
 refine lsl (cs:=({ p with cd:=k }:Ps).v) P2.out ?_
 refine lsce (R:=fun v W=>∃A m ys b,v=.tuple #[.slice A m m,.bool b]∧Byt W A m ys∧m≤8∧Below w3.heap.size w3 W) ((encode_c p.m p.key p.M p.W p.P k p.il p.cc p.pg p.ad w3).mono fun e w' ⟨A,m,he,hy,hm,_,hb⟩=>⟨_,he,A,m,_,_,rfl,hy,hm,hb⟩) ?_ (hx:=by go_simp;rfl)
 intro v w4 Z
 obtain ⟨A,m,ys,b,rfl,hy,hm,hb⟩:=Z.out
 replace E:=lh (E.out.keep hb)
 replace H:=lh (H.out.keep hb)
 have Y:=lh hy
 clear Z hb hy P2
 iterate 5 refine lsv (w':=w4) ?_
 refine wpList_nil ?_
 go_upto_region 5 with fail
 refine H.out.opn ?_
 intros
 refine wp_region_lit ?_
 iterate 6 refine lsv (w':=w4) ?_
 refine lsc (cput_c H.out (a:Int) A m m ys Y.out (by omega)) ?_
 intro w5 Z
 have MM:=lh (MG.old H0.out.mg (al:=alP 0) (ks:=kG) (ys:=ys) (a:=a) (by rcases HA.out with h | h<;>omega) (by have:=Y.out.1;rcases HA.out with h | h<;>omega) (by have:=H0.out.zz.1;omega))
 replace E:=lh (E.out.ch Z.out.2 (by simp;omega))
 replace H:=lh Z.out.1
 clear Z Y
 refine wpList_nil ?_
 have GZ:sGet (sPut (alP 0) bs kG (a:Int) ys) ((a+64:Nat):Int) ((8:Nat):Int)=zG:=by
  rw [MM.out.get (by rcases HA.out with h | h<;>omega)]
  rcases HA.out with ⟨_,rfl⟩ | ⟨_,rfl⟩
  ·exact H0.out.zz.2.1
  ·exact H0.out.zz.2.2
 obtain ⟨bs2,hbs⟩:∃l,sPut (alP 0) bs kG (a:Int) ys=l:=⟨_,rfl⟩
 rw [hbs] at MM H GZ
 clear hbs
 go_upto_region 6 with fail
 refine H.out.opn ?_
 intros
 have BC:=lh (bytes_c w5 H.out.st ((a+64:Nat):Int) ((8:Nat):Int))
 rw [GZ] at BC
 refine wp_region_lit ?_
 iterate 5 refine lsv (w':=w5) ?_
 refine lsv (v:=.int .i64 ((a+88:Nat):Int)) (w':=w5) ?_ (hr:=by rcases HA.out with ⟨rfl,rfl⟩ | ⟨rfl,rfl⟩<;>(unfold execOp;simp only [Act.eval];kernel_rfl))
 refine lsv (v:=.int .i64 ((a+64:Nat):Int)) (w':=w5) ?_ (hr:=by rcases HA.out with ⟨rfl,rfl⟩ | ⟨rfl,rfl⟩<;>(unfold execOp;simp only [Act.eval];kernel_rfl))
 refine lsce (Calls.mono BC.out fun e w' ⟨A2,m,c,he,ho,hb⟩=>⟨_,he,A2,m,c,rfl,ho,hb⟩) ?_ (R:=fun v w'=>∃A2 m c,v=.slice A2 m c∧Own w' w5.heap.size (.slice A2 m c) m zG∧Below w5.heap.size w5 w')
 intro v w6 Z
 obtain ⟨A2,m2,c2,rfl,ho,hb⟩:=Z.out
 have hm2:m2=8:=ho.len.symm
 subst hm2
 have Y:=lh ho.byt
 replace E:=lh (E.out.keep hb)
 replace H:=lh (H.out.keep hb)
 clear Z ho hb BC GZ
 refine lsc (decG A2 c2 w6 Y.out) ?_
 intro w7 Z
 replace E:=lh (E.out.keep Z.out)
 replace H:=lh (H.out.keep Z.out)
 clear Z Y
 iterate 3 refine lsv (w':=w7) ?_
 refine lsv (v:=.pointer (some ⟨w7.heap.size,0,none⟩)) (w':=w7.alloc (.cells ([.int .i64 0,.int .i64 0,.bool false,.bool false,.bool false,.int .i64 0,.int .i64 0,.int .i64 0,.int .i64 0,.int .i64 0]:List Value).toArray 35)) ?_
 refine lss (cs':=pG.v) (Bk.new w7 [.int .i64 0,.int .i64 0,.bool false,.bool false,.bool false,.int .i64 0,.int .i64 0,.int .i64 0,.int .i64 0,.int .i64 0] 35) (by rfl) (one_ps _) (by kernel_rfl) ?_
 have hb:=below_row3 ((Below.refl w7.heap.size w7).alloc (Nat.le_refl _) (.cells ([.int .i64 0,.int .i64 0,.bool false,.bool false,.bool false,.int .i64 0,.int .i64 0,.int .i64 0,.int .i64 0,.int .i64 0]:List Value).toArray 35)) (Nat.le_refl _) pG.v.toArray
 have hP:=(Bk.new w7 [.int .i64 0,.int .i64 0,.bool false,.bool false,.bool false,.int .i64 0,.int .i64 0,.int .i64 0,.int .i64 0,.int .i64 0] 35).rowSet pG.v
 replace E:=lh (E.out.keep hb)
 replace H:=lh (H.out.keep hb)
 obtain ⟨w8,hW⟩:∃V,(w7.alloc (.cells ([.int .i64 0,.int .i64 0,.bool false,.bool false,.bool false,.int .i64 0,.int .i64 0,.int .i64 0,.int .i64 0,.int .i64 0]:List Value).toArray 35)).setRow w7.heap.size pG.v.toArray=V:=⟨_,rfl⟩
 rw [hW] at hP E H
 rw [hW]
 obtain ⟨g11,hg⟩:∃k,w7.heap.size=k:=⟨_,rfl⟩
 rw [hg] at hP
 try simp only [hg]
 have P2:=lh hP
 clear hW hg hb hP
 refine lsv (w':=w8) ?_
 refine wpList_nil ?_
 go_upto_region 8 with fail
 refine H.out.opn ?_
 intros
 refine wp_region_lit ?_
 refine lsv (w':=w8) ?_
 refine lsl (cs:=pG.v) P2.out ?_
 iterate 2 refine lsv (w':=w8) ?_
 refine lsn (cs:=p.v) (cs':=pG.v) H.out.rowP H.out.fz (by rfl) (one_ps _) (by kernel_rfl) ?_
 refine wpList_nil ?_
 have hH:=H.out.setp pG
 have hE:=E.out.ch (Ch.cells (a:=w8) (g:=g) (L:=[g,F.gb]) (.inl (by simp)) pG.v 17 _ (Ch.refl w8 _)) (by simp;omega)
 obtain ⟨w9,hW⟩:∃V,w8.setCells g 17 pG.v=V:=⟨_,rfl⟩
 rw [hW] at hH hE
 rw [hW]
 replace H:=lh hH
 replace E:=lh hE
 clear hW hH hE P2
 go_upto_region 10 with fail
 refine wp_region_lit ?_
 iterate 2 refine lsv (w':=w9) ?_
 refine lsv (v:=.agg #[.int .i64 1,.int .i64 cl,.int .i64 k,.int .i64 0]) (w':=w9) ?_ (hr:=by first | (go_simp;done) | (go_simp;kernel_rfl))
 refine lss (cs':=[.int .i64 1,.int .i64 cl,.int .i64 k,.int .i64 0]) E.out (by rfl) (by simp [Value.oneCell']) (by kernel_rfl) ?_
 refine wpList_nil ?_
 have H9:=rowCP (k:=g6) (cs:=([.int .i64 1,.int .i64 cl,.int .i64 k,.int .i64 0]:List Value).toArray) H.out (Nat.le_refl g6) (by omega)
 go_wp2
 first | refine bodyPost_ret (res_cell1 rfl _ _ _ _ rfl (E.out.rowSet ([.int .i64 1,.int .i64 cl,.int .i64 k,.int .i64 0]:List Value)) Tryz.underlying44 rfl (by kernel_rfl)) rfl ?_ | refine bodyPost_end (res_cell1 rfl _ _ _ _ rfl (E.out.rowSet ([.int .i64 1,.int .i64 cl,.int .i64 k,.int .i64 0]:List Value)) Tryz.underlying44 rfl (by kernel_rfl)) rfl ?_
 exact ⟨_,rfl,⟨_,_,_,_,rfl⟩,(H0.out.to H9 ⟨rfl,rfl,rfl⟩ MM.out).e,H9.b⟩
theorem csvc_w (h:CX w0 w g F rs p n bs z) (xs:List Int) (hl:xs.length=12):Calls Tryz.prog 59 #[.pointer (some ⟨g,0,none⟩),insV xs] w (Pc ErV w0 w g F z):=by
 have H0:=lh h
 have H:=lh h.cp
 have e0:g<w.heap.size∧F.g<w.heap.size∧F.gb<w.heap.size∧F.gk<w.heap.size:=h.lt
 match xs,hl with
 | [op,fm,r1,r2,x2,b1,d1,b2,d2,l1,l2,i2],_=>
 clear h
 unfold insV
 go_enter Tryz.func59,Tryz.ntmps59
 go_upto_region 1 with fail
 have hI:=Bk.new w ([.int .i64 op,.int .i64 fm,.int .i64 r1,.int .i64 r2,.int .i64 x2,.int .i64 b1,.int .i64 d1,.int .i64 b2,.int .i64 d2,.int .i64 l1,.int .i64 l2,.int .i64 i2]:List Value) 54
 have hE:=Bk.new (w.alloc (.cells ([.int .i64 op,.int .i64 fm,.int .i64 r1,.int .i64 r2,.int .i64 x2,.int .i64 b1,.int .i64 d1,.int .i64 b2,.int .i64 d2,.int .i64 l1,.int .i64 l2,.int .i64 i2]:List Value).toArray 54)) [.int .i64 0,.int .i64 0,.int .i64 0,.int .i64 0] 44
 have hb:=((Below.refl w.heap.size w).alloc (Nat.le_refl _) (.cells ([.int .i64 op,.int .i64 fm,.int .i64 r1,.int .i64 r2,.int .i64 x2,.int .i64 b1,.int .i64 d1,.int .i64 b2,.int .i64 d2,.int .i64 l1,.int .i64 l2,.int .i64 i2]:List Value).toArray 54)).alloc (by simp) (.cells ([.int .i64 0,.int .i64 0,.int .i64 0,.int .i64 0]:List Value).toArray 44)
 replace hI:=hI.alloc (.cells ([.int .i64 0,.int .i64 0,.int .i64 0,.int .i64 0]:List Value).toArray 44)
 have HX:=lh (H0.out.keep hb)
 replace H:=lh (H.out.keep hb)
 simp only [World.size_alloc] at hE
 have hlt:=hE.lt
 obtain ⟨w1,hW⟩:∃V,(w.alloc (.cells ([.int .i64 op,.int .i64 fm,.int .i64 r1,.int .i64 r2,.int .i64 x2,.int .i64 b1,.int .i64 d1,.int .i64 b2,.int .i64 d2,.int .i64 l1,.int .i64 l2,.int .i64 i2]:List Value).toArray 54)).alloc (.cells ([.int .i64 0,.int .i64 0,.int .i64 0,.int .i64 0]:List Value).toArray 44)=V:=⟨_,rfl⟩
 rw [hW] at hI hE H HX hlt
 first | rw [hW] | (change wp _ _ _ w1)
 obtain ⟨g3,hg⟩:∃k,w.heap.size=k:=⟨_,rfl⟩
 rw [hg] at hI hE e0 hlt
 try simp only [hg]
 have e9:w.heap.size≤g3:=Nat.le_of_eq hg
 have c11:w1.cell? ⟨g3,11,none⟩=some (.int .i64 i2):=hI.cell (c:=11) rfl
 have E:=lh hE
 clear hW hg hb hE hI
 refine wp_region_lit ?_
 iterate 3 refine lsv (w':=w1) ?_
 refine lsce (ctake_w HX.out 2 i2 32 (.inl ⟨rfl,rfl⟩)) ?_
 intro v w2 Z
 obtain ⟨⟨ea,eb,ec,ed,rfl⟩,⟨rs2,p2,n2,bs2,hX⟩,hC⟩:=Z.out
 have H2:=lh (H.out.nx hX hC)
 replace E:=lh (E.out.ch hC (by simp;omega))
 have PK:=lh hX.pk
 have MM:=lh hX.mg
 clear Z hX hC c11
 refine lss (cs':=[.int .i64 ea,.int .i64 eb,.int .i64 ec,.int .i64 ed]) E.out (by rfl) (by simp [Value.oneCell']) (by kernel_rfl) ?_
 refine lsv ?_
 refine wpList_nil ?_
 have H9:=rowCP (k:=g3+1) (cs:=([.int .i64 ea,.int .i64 eb,.int .i64 ec,.int .i64 ed]:List Value).toArray) H2.out (Nat.le_succ g3) (by omega)
 go_wp2
 first | refine bodyPost_ret (res_cell2 rfl _ _ _ _ rfl (E.out.rowSet ([.int .i64 ea,.int .i64 eb,.int .i64 ec,.int .i64 ed]:List Value)) Tryz.underlying44 rfl (by kernel_rfl)) rfl ?_ | refine bodyPost_end (res_cell2 rfl _ _ _ _ rfl (E.out.rowSet ([.int .i64 ea,.int .i64 eb,.int .i64 ec,.int .i64 ed]:List Value)) Tryz.underlying44 rfl (by kernel_rfl)) rfl ?_
 exact ⟨_,rfl,⟨_,_,_,_,_,rfl⟩,(H0.out.to H9 PK.out MM.out).e,H9.b⟩
end
section
variable {P:Program} {L:List Oper} {Q:Exit→Act→World→Prop} {md:Region.Mode} {S:World→Prop} {i:Nat} {oi:Oper} {fuel:Nat} {listed:Array Bool} {a:Act} {w:World}
theorem tklf {b m j:Nat} {es:Array MapEntry} {T kt et:TypeId} {k:Int} {z:Value} {xx yy:Operand} (hT:Tryz.prog.underlying T=some (.map kt et)) (hkt:Tryz.prog.underlying kt=some (.int .i64)) (hb:w.heap[b]?=some (.map es m)) (hf:Instr.findNow (.int .i64) (.int .i64 k) es.toList 0=some (some (j,z)))
  {X:Prop} (h:X) (hr:Region.ready md L.toArray listed=[i]:=by with_unfolding_all rfl) (hi:L[i]?=some oi:=by rfl) (ho:oi.op=.lookup T xx yy true:=by rfl) (hx:a.eval xx=.map (some b):=by rfl) (hy:a.eval yy=.int .i64 k:=by rfl)
  (hw:Region.wanted oi (yielded L.toArray a.tmps)=true:=by rfl)
  (hP:wpAnyH Tryz.prog md L.toArray Q S fuel (listed.setIfInBounds i true) (a.put oi.dst (.tuple #[z,.bool true])) w=X:=by (simp only [Act.put,List.setIfInBounds_toArray,List.set_cons_zero,List.set_cons_succ];try rfl))
  (hS:S w:=by assumption):wpAnyH Tryz.prog md L.toArray Q S (fuel+1) listed a w:=
 tkv (v:=.tuple #[z,.bool true]) h hr hi hw (by unfold execOp;simp only [ho,hx,hy,Sem.run_bind];simp [Instr.lookup,Sem.run_bind,run_underlying hT,Result.andThen_ok,MapKept.run_getObj_map hb,Go.MapKept.run_checkKey (k:=.int .i64 k) hkt (by simp [Go.MapKept.IsKey]) es.isEmpty 9999,Go.MapKept.run_findKey hkt hf]) hP hS
end
theorem decS_0 (zs:List Int):∀ (l:List FE) (xs:List Int),(∀x∈l,okF x)→(decS zs l xs)[0]?=xs[0]?
 | [],_,_=>rfl
 | f :: l,xs,h=>by
  show (decS zs l (xs.set f.1 (rdF zs f)))[0]?=_
  rw [decS_0 zs l _ (fun x hx=>h x (List.mem_cons_of_mem _ hx)),List.getElem?_set_ne (by have:=(h f (List.mem_cons_self ..)).1;omega)]
theorem decI_0 (zs:List Int):(decI zs)[0]?=some (zs.getD 0 0):=by
 unfold decI
 rw [decS_0 _ _ _ (lay_ok _)]
 rfl
structure WF (os:List Int) (q p:Ps) (bs bs':List Int):Prop where
 l:os.length=16
 r:∀x∈os,0≤x∧x≤4294967295
 k:q.key=p.key∧q.P=p.P∧q.W=p.W
 m:MB p.key kG bs bs'
section
variable {w0 w w':World} {g:Nat} {F:Foot} {rs os:List Int} {p q:Ps} {n:Int} {bs ks z:List Int}
theorem own_none {op:Int} (hp:privB op=false) (h10:op≠10) (h68:op≠68):Instr.findNow (.int .i64) (.int .i64 op) ownE.toList 0=some none:=by
 have hpv:=of_decide_eq_false hp
 have q:∀k:Int,op≠k→(op == k)=false:=fun k hk=>by rw [beq_eq_false_iff_ne];exact hk
 have p1:=q 10 (by omega)
 have p2:=q 68 (by omega)
 have p3:=q 128 (by omega)
 have p4:=q 130 (by omega)
 have p5:=q 8 (by omega)
 have p6:=q 9 (by omega)
 have p7:=q 156 (by omega)
 have p8:=q 157 (by omega)
 have p9:=q 158 (by omega)
 have pa:=q 159 (by omega)
 simp [ownE,Instr.findNow,Instr.sameNow,p1,p2,p3,p4,p5,p6,p7,p8,p9,pa]
theorem exec_w (h:CX w0 w g F rs p n bs z) (ix:List Int) (hl:ix.length=12) (kb:Bool):Calls Tryz.prog (if kb then 53 else 51) #[insV ix,.agg (rs.map (Value.int .u32)).toArray,.agg p.v.toArray,.pointer (some ⟨F.g,0,none⟩)] w fun e w'=>∃v,e=.returned v∧∃os q c bs',v=.tuple #[.agg (os.map (Value.int .u32)).toArray,.agg q.v.toArray,.int .i64 c]∧WF os q p bs bs'∧St 63 w' F bs' kG∧Ch w w' [F.gb]:=by
 obtain ⟨op,fm,r1,r2,x2,b1,d1,b2,d2,l1,l2,i2,rfl⟩:=list_12 hl
 have nn:=h.nn
 have sz:=h.sz
 cases kb
 ·refine (gexec_w op fm r1 r2 x2 b1 d1 b2 d2 l1 l2 i2 p h.cp.rl h.cp.ro h.cp.st).mono ?_
  rintro e w' ⟨v,he,os,q,c,bs',hv,h1,h2,h3,h4,h5,h6⟩
  exact ⟨v,he,os,q,c,bs',hv,⟨h1,h2,h3,h4⟩,h5,h6⟩
 ·refine (dexec_w op fm r1 r2 x2 b1 d1 b2 d2 l1 l2 i2 p h.cp.rl h.cp.ro h.cp.st ⟨nn.2.2.2.2,by omega⟩ h.tb).mono ?_
  rintro e w' ⟨v,he,os,q,c,bs',hv,h1,h2,h3,h4,h5,h6⟩
  exact ⟨v,he,os,q,c,bs',hv,⟨h1,h2,h3,h4⟩,h5,h6⟩
theorem cexe_w {zs:List Int} {A:Option Addr} {len cap:Nat} (h:CX w0 w g F rs p n bs z) (hy:Byt w A len zs) (hlen:(len:Int)≤9223372036854775807) (hex:zs.getD 0 0=68→∀W,CX w0 W g F rs p n bs z→Calls Tryz.prog 60 #[.pointer (some ⟨g,0,none⟩),insV (decI zs)] W (Pc ErV w0 W g F z)):Calls Tryz.prog 40 #[.pointer (some ⟨g,0,none⟩),.slice A len cap] w (Pc ErV w0 w g F z):=by
 by_cases hg:dokI len zs=true∧privB (zs.getD 0 0)=false∧zs.getD 0 0≠10∧zs.getD 0 0≠68
 ·refine (cexe_g (op:=zs.getD 0 0) (ix:=decI zs) (kb:=dkn (zs.getD 0 0)) (R:=fun os q c bs'=>WF os q p bs bs') h.cp hy hlen hg.1 rfl (decI_length zs) (decI_0 zs) (by rw [hg.2.1];simp) (own_none hg.2.1 hg.2.2.1 hg.2.2.2) (dknows_w _) rfl (fun _ _ _ _ h=>⟨h.l,h.r⟩) (fun W hW=>exec_w (h.to hW h.pk h.mg) (decI zs) (decI_length zs) _)).mono ?_
  rintro e w' ⟨v,rfl,os,q,c,bs',rfl,hF,hC⟩
  exact ⟨_,rfl,⟨_,_,_,_,_,rfl⟩,(h.to hC ⟨hF.k.1.trans h.pk.1,hF.k.2.1.trans h.pk.2.1,hF.k.2.2.trans h.pk.2.2⟩ (h.mg.mb (h.pk.1▸hF.m))).e,hC.b⟩
 have HG:=lh hg
 have DC:=lh (fun W (hb:Below w.heap.size w W)=>idecode_c A len cap zs W (hy.keep hb) hlen)
 have HD:=lh hex
 have H0:=lh h
 have H:=lh h.cp
 have e0:g<w.heap.size∧F.g<w.heap.size∧F.gb<w.heap.size∧F.gk<w.heap.size:=h.lt
 have PP:=h.pk.2.1
 obtain ⟨K,hK⟩:∃K,dokI len zs=K:=⟨_,rfl⟩
 obtain ⟨ix,hX⟩:∃X,(if dokI len zs=true then decI zs else [0,0,0,0,0,0,0,0,0,0,0,0])=X:=⟨_,rfl⟩
 simp only [hX] at DC
 simp only [hK] at DC hX
 rw [hK] at HG
 have IL:Hid (ix.length=12):=lh (by rw [← hX];cases K;rfl;exact decI_length zs)
 have HX:=lh hX
 have hsz:(ix.map (Value.int .i64)).toArray.size=12:=by simp [IL.out]
 clear h hy hlen hex hK hX hg
 go_enter Tryz.func40,Tryz.ntmps40
 go_upto_region 1 with fail
 have DC1:=lh (DC.out _ ((Below.refl w.heap.size w).alloc (Nat.le_refl _) (.cells ([.int .i64 0,.int .i64 0,.int .i64 0,.int .i64 0]:List Value).toArray 44)))
 have hE:=Bk.new w [.int .i64 0,.int .i64 0,.int .i64 0,.int .i64 0] 44
 have hb:=(Below.refl w.heap.size w).alloc (Nat.le_refl _) (.cells ([.int .i64 0,.int .i64 0,.int .i64 0,.int .i64 0]:List Value).toArray 44)
 replace H:=lh (H.out.keep hb)
 replace DC1:=DC1
 have hlt:=hE.lt
 obtain ⟨w1,hW⟩:∃V,w.alloc (.cells ([.int .i64 0,.int .i64 0,.int .i64 0,.int .i64 0]:List Value).toArray 44)=V:=⟨_,rfl⟩
 rw [hW] at hE H hlt DC1
 try rw [hW]
 obtain ⟨g4,hg⟩:∃k,w.heap.size=k:=⟨_,rfl⟩
 rw [hg] at hE e0 hlt
 try simp only [hg]
 have e9:w.heap.size≤g4:=Nat.le_of_eq hg
 have E:=lh hE
 clear hW hg hb hE
 refine wp_region_lit ?_
 refine lsv (w':=w1) ?_
 refine lsc DC1.out ?_
 intro w2 B2
 replace H:=lh (H.out.keep B2.out)
 replace E:=lh (E.out.keep B2.out)
 have l2:=B2.out.size
 clear DC1 B2 DC
 iterate 3 refine lsv (w':=w2) ?_
 refine lsv (v:=.pointer (some ⟨w2.heap.size,0,none⟩)) (w':=w2.alloc (.cells ([.int .i64 0,.int .i64 0,.int .i64 0,.int .i64 0,.int .i64 0,.int .i64 0,.int .i64 0,.int .i64 0,.int .i64 0,.int .i64 0,.int .i64 0,.int .i64 0]:List Value).toArray 54)) ?_
 refine lss (cs':=ix.map (Value.int .i64)) (Bk.new w2 [.int .i64 0,.int .i64 0,.int .i64 0,.int .i64 0,.int .i64 0,.int .i64 0,.int .i64 0,.int .i64 0,.int .i64 0,.int .i64 0,.int .i64 0,.int .i64 0] 54) (by rw [List.length_map,IL.out];rfl) (by simp [Value.oneCell']) (by rw [List.length_map,IL.out];kernel_rfl) ?_
 refine lsv ?_
 refine wpList_nil ?_
 have hI6:=(Bk.new w2 [.int .i64 0,.int .i64 0,.int .i64 0,.int .i64 0,.int .i64 0,.int .i64 0,.int .i64 0,.int .i64 0,.int .i64 0,.int .i64 0,.int .i64 0,.int .i64 0] 54).rowSet (ix.map (Value.int .i64))
 have hb:=below_row ((Below.refl w2.heap.size w2).alloc (Nat.le_refl _) (.cells ([.int .i64 0,.int .i64 0,.int .i64 0,.int .i64 0,.int .i64 0,.int .i64 0,.int .i64 0,.int .i64 0,.int .i64 0,.int .i64 0,.int .i64 0,.int .i64 0]:List Value).toArray 54)) (Nat.le_refl _) (ix.map (Value.int .i64)).toArray
 replace H:=lh (H.out.keep hb)
 replace E:=lh (E.out.keep hb)
 obtain ⟨w3,hW⟩:∃V,(w2.alloc (.cells ([.int .i64 0,.int .i64 0,.int .i64 0,.int .i64 0,.int .i64 0,.int .i64 0,.int .i64 0,.int .i64 0,.int .i64 0,.int .i64 0,.int .i64 0,.int .i64 0]:List Value).toArray 54)).setRow w2.heap.size (ix.map (Value.int .i64)).toArray=V:=⟨_,rfl⟩
 rw [hW] at hI6 H E
 try rw [hW]
 obtain ⟨g6,hg⟩:∃k,w2.heap.size=k:=⟨_,rfl⟩
 rw [hg] at hI6 l2
 try simp only [hg]
 have I3:=lh hI6
 have l6:=hI6.lt
 clear hW hg hb hI6
 cases K
 ·clear HD HX I3 HG
  go_upto_region 3 with fail
  refine wp_region_lit ?_
  refine lsv (v:=.agg ([.int .i64 0,.int .i64 0,.int .i64 0,.int .i64 0]:List Value).toArray) (w':=w3) ?_ (hr:=by first | (go_simp;done) | (go_simp;kernel_rfl))
  refine lss (cs':=[.int .i64 0,.int .i64 0,.int .i64 0,.int .i64 0]) E.out (by rfl) (by simp [Value.oneCell']) (by kernel_rfl) ?_
  refine lsv ?_
  refine wpList_nil ?_
  have H9:=rowCP (k:=g4) (cs:=([.int .i64 0,.int .i64 0,.int .i64 0,.int .i64 0]:List Value).toArray) H.out (Nat.le_refl g4) (by omega)
  go_wp2
  first | refine bodyPost_ret (res_cell2 rfl _ _ _ _ rfl (E.out.rowSet ([.int .i64 0,.int .i64 0,.int .i64 0,.int .i64 0]:List Value)) Tryz.underlying44 rfl (by kernel_rfl)) rfl ?_ | refine bodyPost_end (res_cell2 rfl _ _ _ _ rfl (E.out.rowSet ([.int .i64 0,.int .i64 0,.int .i64 0,.int .i64 0]:List Value)) Tryz.underlying44 rfl (by kernel_rfl)) rfl ?_
  exact ⟨_,rfl,⟨_,_,_,_,_,rfl⟩,(H0.out.to H9 H0.out.pk H0.out.mg).e,H9.b⟩
 have hix:=HX.out
 simp only [if_true] at hix
 obtain ⟨op,hop⟩:∃op,zs.getD 0 0=op:=⟨_,rfl⟩
 have I0:Hid ((ix.map (Value.int .i64))[0]?=some (.int .i64 op)):=lh (by rw [← hix,List.getElem?_map,decI_0,hop];rfl)
 have c6:=I3.out.cell I0.out
 have PC:=lh (priv_c op)
 rw [hix] at HD
 rw [hop] at HD HG
 clear HX hix hop
 refine H.out.opn ?_
 rw [PP]
 intros
 cases hpv:privB op
 rotate_left
 ·rw [hpv] at PC
  clear hpv HD HG
  go_upto_region 5 with (go_at_call 49;refine nz (PC.out _) ?_)
  refine wp_region_lit ?_
  refine lsv (v:=.agg ([.int .i64 0,.int .i64 0,.int .i64 0,.int .i64 0]:List Value).toArray) (w':=w3) ?_ (hr:=by first | (go_simp;done) | (go_simp;kernel_rfl))
  refine lss (cs':=[.int .i64 0,.int .i64 0,.int .i64 0,.int .i64 0]) E.out (by rfl) (by simp [Value.oneCell']) (by kernel_rfl) ?_
  refine lsv ?_
  refine wpList_nil ?_
  have H9:=rowCP (k:=g4) (cs:=([.int .i64 0,.int .i64 0,.int .i64 0,.int .i64 0]:List Value).toArray) H.out (Nat.le_refl g4) (by omega)
  go_wp2
  first | refine bodyPost_ret (res_cell2 rfl _ _ _ _ rfl (E.out.rowSet ([.int .i64 0,.int .i64 0,.int .i64 0,.int .i64 0]:List Value)) Tryz.underlying44 rfl (by kernel_rfl)) rfl ?_ | refine bodyPost_end (res_cell2 rfl _ _ _ _ rfl (E.out.rowSet ([.int .i64 0,.int .i64 0,.int .i64 0,.int .i64 0]:List Value)) Tryz.underlying44 rfl (by kernel_rfl)) rfl ?_
  exact ⟨_,rfl,⟨_,_,_,_,_,rfl⟩,(H0.out.to H9 H0.out.pk H0.out.mg).e,H9.b⟩
 rw [hpv] at PC
 have hor:=lh (show op=10∨op=68 by
  have:=HG.out
  by_cases h1:op=10
  ·exact .inl h1
  ·by_cases h2:op=68
   ·exact .inr h2
   ·exact absurd ⟨rfl,hpv,h1,h2⟩ this)
 clear hpv HG
 go_upto_region 6 with (go_at_call 49;refine nz (PC.out _) ?_)
 refine wp_region_held_drew (S:=fun W=>CP w W g F rs p n bs kG∧W.cell? ⟨g6,0,none⟩=some (.int .i64 op)) (by kernel_rfl) ⟨H.out.drew,(I3.out.drewN 1).cell I0.out⟩ (fun hHeld=>?_)
 replace H:=lh H.out.drew
 replace I3:=lh (I3.out.drewN 1)
 replace E:=lh (E.out.drewN 1)
 repeat refine tkx ?_
 refine tkc (R:=fun W=>(CP w W g F rs p n bs kG∧W.cell? ⟨g6,0,none⟩=some (.int .i64 op))∧W.heap[w3.drew.heap.size]?=some (.map ownE 10)∧Bk W g6 54 (ix.map (Value.int .i64))∧Bk W g4 44 [.int .i64 0,.int .i64 0,.int .i64 0,.int .i64 0]) ((own_c w3.drew).mono fun e w' h=>⟨h.1,⟨H.out.keep h.2.b,(I3.out.keep h.2.b).cell I0.out⟩,h.2.m,I3.out.keep h.2.b,E.out.keep h.2.b⟩) (fun _ h=>h.1) ?_
 clear H I3 E hHeld PC
 intro w4 Z hHeld
 rcases hor.out with h10 | h68
 ·subst h10
  clear HD
  refine tklf (z:=.func (.func 59) #[] #[]) (j:=0) Tryz.underlying114 Tryz.underlying3 Z.out.2.1 (by kernel_rfl) ?_
  repeat refine tkx ?_
  refine wpAnyH_done (by with_unfolding_all rfl) ?_ _
  clear hHeld
  have H4:=lh Z.out.1.1
  have T4:Hid (Two w4 g6 g4 ix):=lh ⟨Z.out.2.2.1,Z.out.2.2.2⟩
  have RL:=lh Z.out.1.1.rl
  have c4:=Z.out.1.2
  clear Z
  go_upto_region 8 with fail
  refine wp_region_lit ?_
  iterate 2 refine lsv (w':=w4) ?_
  refine lsl T4.out.a ?_ (hi:=by rw [List.length_map,IL.out];kernel_rfl)
  have HXX:=lh (H0.out.to H4.out H0.out.pk H0.out.mg)
  refine lsce (csvc_w HXX.out ix IL.out) ?_ (hx:=by (go_simp;rfl))
  intro v w5 Z
  obtain ⟨⟨ea,eb,ec,ed,ek,rfl⟩,⟨rs2,p2,n2,bs2,hX⟩,hC⟩:=Z.out
  have H5:=lh (H4.out.nx hX hC)
  have T5:=lh (T4.out.ch hC (by simp;omega) (by simp;omega))
  have PK:=lh hX.pk
  have MM:=lh hX.mg
  clear Z hX hC HXX T4 H4
  iterate 2 refine lsv (w':=w5) ?_
  refine lss (cs':=[.int .i64 ea,.int .i64 eb,.int .i64 ec,.int .i64 ed]) T5.out.b (by rfl) (by simp [Value.oneCell']) (by kernel_rfl) ?_
  refine lsv ?_
  refine wpList_nil ?_
  have H9:=rowCP (k:=g4) (cs:=([.int .i64 ea,.int .i64 eb,.int .i64 ec,.int .i64 ed]:List Value).toArray) H5.out (Nat.le_refl g4) (by omega)
  go_wp2
  first | refine bodyPost_ret (res_cell2 rfl _ _ _ _ rfl (T5.out.b.rowSet ([.int .i64 ea,.int .i64 eb,.int .i64 ec,.int .i64 ed]:List Value)) Tryz.underlying44 rfl (by kernel_rfl)) rfl ?_ | refine bodyPost_end (res_cell2 rfl _ _ _ _ rfl (T5.out.b.rowSet ([.int .i64 ea,.int .i64 eb,.int .i64 ec,.int .i64 ed]:List Value)) Tryz.underlying44 rfl (by kernel_rfl)) rfl ?_
  exact ⟨_,rfl,⟨_,_,_,_,_,rfl⟩,(H0.out.to H9 PK.out MM.out).e,H9.b⟩
 ·subst h68
  refine tklf (z:=.func (.func 60) #[] #[]) (j:=1) Tryz.underlying114 Tryz.underlying3 Z.out.2.1 (by kernel_rfl) ?_
  repeat refine tkx ?_
  refine wpAnyH_done (by with_unfolding_all rfl) ?_ _
  clear hHeld
  have H4:=lh Z.out.1.1
  have T4:Hid (Two w4 g6 g4 ix):=lh ⟨Z.out.2.2.1,Z.out.2.2.2⟩
  have RL:=lh Z.out.1.1.rl
  have c4:=Z.out.1.2
  clear Z
  go_upto_region 8 with fail
  refine wp_region_lit ?_
  iterate 2 refine lsv (w':=w4) ?_
  refine lsl T4.out.a ?_ (hi:=by rw [List.length_map,IL.out];kernel_rfl)
  have HXX:=lh (H0.out.to H4.out H0.out.pk H0.out.mg)
  refine lsce (HD.out rfl w4 HXX.out) ?_ (hx:=by (go_simp;rfl))
  intro v w5 Z
  obtain ⟨⟨ea,eb,ec,ed,ek,rfl⟩,⟨rs2,p2,n2,bs2,hX⟩,hC⟩:=Z.out
  have H5:=lh (H4.out.nx hX hC)
  have T5:=lh (T4.out.ch hC (by simp;omega) (by simp;omega))
  have PK:=lh hX.pk
  have MM:=lh hX.mg
  clear Z hX hC HXX T4 H4
  iterate 2 refine lsv (w':=w5) ?_
  refine lss (cs':=[.int .i64 ea,.int .i64 eb,.int .i64 ec,.int .i64 ed]) T5.out.b (by rfl) (by simp [Value.oneCell']) (by kernel_rfl) ?_
  refine lsv ?_
  refine wpList_nil ?_
  have H9:=rowCP (k:=g4) (cs:=([.int .i64 ea,.int .i64 eb,.int .i64 ec,.int .i64 ed]:List Value).toArray) H5.out (Nat.le_refl g4) (by omega)
  go_wp2
  first | refine bodyPost_ret (res_cell2 rfl _ _ _ _ rfl (T5.out.b.rowSet ([.int .i64 ea,.int .i64 eb,.int .i64 ec,.int .i64 ed]:List Value)) Tryz.underlying44 rfl (by kernel_rfl)) rfl ?_ | refine bodyPost_end (res_cell2 rfl _ _ _ _ rfl (T5.out.b.rowSet ([.int .i64 ea,.int .i64 eb,.int .i64 ec,.int .i64 ed]:List Value)) Tryz.underlying44 rfl (by kernel_rfl)) rfl ?_
  exact ⟨_,rfl,⟨_,_,_,_,_,rfl⟩,(H0.out.to H9 PK.out MM.out).e,H9.b⟩
end
end Go.Proofs.YtljajnaclpbecaaGreatDoor
