/- Contracts and laws on the way to the statement, text 5 of 22. Conditions: as each states them. -/
import Derived.Test.YtljajnaclpbecaaGreatDoorGu1
import Derived.Test.YtljajnaclpbecaaGreatDoorGu2
import Derived.Test.YtljajnaclpbecaaGreatDoorGu3
import Derived.Test.YtljajnaclpbecaaGreatDoorGu4
import Derived.Deep.RegionHeld3
import Derived.BigRegion
import Derived.IntWalk
namespace Go.Proofs.YtljajnaclpbecaaGreatDoor
open Go.RowKit
set_option maxRecDepth 1000000
set_option maxHeartbeats 8000000
set_option linter.unusedVariables false
set_option linter.unusedSimpArgs false
theorem need_no (c:Int) (w:World):Calls Tryz.prog 108 #[.bool false,.int .i64 c] w fun e w'=>e=.panicked [{ v:=.iface 124 (.int .i64 c),recovered:=false }]∧w=w':=by
 go_enter Tryz.func108,Tryz.ntmps108
 go_wp2
 first | exact ⟨rfl,rfl⟩ | exact ⟨rfl,rfl,rfl⟩
theorem put_no (g:Nat) (F:Foot) (is os rs:List Int) (ps:List Value) (ov:Bool) (bs ks:List Int) (addr key:Int) (A:Option Addr) (len cap:Nat) (ys:List Int) (w:World) (h:MS w g F is os rs ps ov bs ks) (hk:ps.getD 1 undef=.int .i64 key) (hy:Byt w A len ys) (hl:(len:Int)≤9223372036854775807) (c:Int) (hc:sCode (alP key) bs.length ks addr len=c) (hc0:c≠0):Calls Tryz.prog 113 #[.pointer (some ⟨g,0,none⟩),.int .i64 addr,.slice A len cap] w fun e w'=>e=.panicked [{ v:=.iface 124 (.int .i64 c),recovered:=false }]∧MS w' g F is os rs ps ov bs ks∧Ch w w' [F.gb]:=by
 have HH:=lh h
 have HK:=lh hk
 have PC:=lh (put_c w.drew (h.st.drewN 1) addr key A len cap ys (hy.keep (below_draw w 1)) hl)
 have hsame:sPut (alP key) bs ks addr ys=bs:=by
  unfold sPut
  rw [hy.1,hc,if_neg hc0]
 rw [hc,hsame] at PC
 have e0:(c == 0)=false:=by simpa using hc0
 clear h hk hy hc hsame
 go_enter Tryz.func113,Tryz.ntmps113
 go_upto_region 0 with fail
 refine wp_region_held_drew (S:=(fun w'=>Mc w' g is os rs ps (.pointer (some ⟨F.g,0,none⟩)) ov)) (by kernel_rfl) ?_ (fun hHeld=>?_)
 ·(try dsimp only);exact HH.out.m.drewN 1
 refine' takeL (i:=0) (v:=_) rfl (by kernel_rfl) (by kernel_rfl) (by kernel_rfl) (fun _ _ _ h=>h) (Or.inl ⟨by rfl,?yy1⟩) (by assumption) ?rr1
 case yy1=>intro w hSw;(try dsimp only at hSw);go_simp;(try with_reducible rfl)
 try simp only [Act.put,List.setIfInBounds_toArray,List.set_cons_zero,List.set_cons_succ]
 refine' takeL (i:=1) (v:=_) rfl (by kernel_rfl) (by kernel_rfl) (by kernel_rfl) (fun _ _ _ h=>h) (Or.inl ⟨by rfl,?yy2⟩) (by assumption) ?rr2
 case yy2=>intro w hSw;(try dsimp only at hSw);go_simp;(try with_reducible rfl)
 try simp only [Act.put,List.setIfInBounds_toArray,List.set_cons_zero,List.set_cons_succ]
 refine' takeL (i:=2) (v:=_) rfl (by kernel_rfl) (by kernel_rfl) (by kernel_rfl) (fun _ _ _ h=>h) (Or.inl ⟨by rfl,?yy3⟩) (by assumption) ?rr3
 case yy3=>intro w hSw;(try dsimp only at hSw);go_simp;(try with_reducible rfl)
 try simp only [Act.put,List.setIfInBounds_toArray,List.set_cons_zero,List.set_cons_succ]
 refine' takeL (i:=3) (v:=.pointer (some ⟨F.g,0,none⟩)) rfl (by kernel_rfl) (by kernel_rfl) (by kernel_rfl) (fun _ _ _ h=>h) (Or.inl ⟨by rfl,?yy4⟩) (by assumption) ?rr4
 case yy4=>intro w hSw;(try dsimp only at hSw);have hq:=hSw.cs;go_simp;(try with_reducible rfl)
 try simp only [Act.put,List.setIfInBounds_toArray,List.set_cons_zero,List.set_cons_succ]
 refine' takeL (i:=4) (v:=_) rfl (by kernel_rfl) (by kernel_rfl) (by kernel_rfl) (fun _ _ _ h=>h) (Or.inl ⟨by rfl,?yy5⟩) (by assumption) ?rr5
 case yy5=>intro w hSw;(try dsimp only at hSw);go_simp;(try with_reducible rfl)
 try simp only [Act.put,List.setIfInBounds_toArray,List.set_cons_zero,List.set_cons_succ]
 refine' takeL (i:=5) (v:=_) rfl (by kernel_rfl) (by kernel_rfl) (by kernel_rfl) (fun _ _ _ h=>h) (Or.inl ⟨by rfl,?yy6⟩) (by assumption) ?rr6
 case yy6=>intro w hSw;(try dsimp only at hSw);go_simp;(try with_reducible rfl)
 try simp only [Act.put,List.setIfInBounds_toArray,List.set_cons_zero,List.set_cons_succ]
 refine' takeL (i:=6) (v:=_) rfl (by kernel_rfl) (by kernel_rfl) (by kernel_rfl) (fun _ _ _ h=>h) (Or.inl ⟨by rfl,?yy7⟩) (by assumption) ?rr7
 case yy7=>intro w hSw;(try dsimp only at hSw);go_simp;(try with_reducible rfl)
 try simp only [Act.put,List.setIfInBounds_toArray,List.set_cons_zero,List.set_cons_succ]
 refine' takeL (i:=7) (v:=_) rfl (by kernel_rfl) (by kernel_rfl) (by kernel_rfl) (fun _ _ _ h=>h) (Or.inl ⟨by rfl,?yy8⟩) (by assumption) ?rr8
 case yy8=>intro w hSw;(try dsimp only at hSw);go_simp;(try with_reducible rfl)
 try simp only [Act.put,List.setIfInBounds_toArray,List.set_cons_zero,List.set_cons_succ]
 refine' takeL (i:=8) (v:=_) rfl (by kernel_rfl) (by kernel_rfl) (by kernel_rfl) (fun _ _ _ h=>h) (Or.inl ⟨by rfl,?yy9⟩) (by assumption) ?rr9
 case yy9=>intro w hSw;(try dsimp only at hSw);go_simp;(try with_reducible rfl)
 try simp only [Act.put,List.setIfInBounds_toArray,List.set_cons_zero,List.set_cons_succ]
 refine' takeL (i:=9) (v:=_) rfl (by kernel_rfl) (by kernel_rfl) (by kernel_rfl) (fun _ _ _ h=>h) (Or.inl ⟨by rfl,?yy10⟩) (by assumption) ?rr10
 case yy10=>intro w hSw;(try dsimp only at hSw);go_simp;(try with_reducible rfl)
 try simp only [Act.put,List.setIfInBounds_toArray,List.set_cons_zero,List.set_cons_succ]
 refine' takeL (i:=10) (v:=.int .i64 key) rfl (by kernel_rfl) (by kernel_rfl) (by kernel_rfl) (fun _ _ _ h=>h) (Or.inl ⟨by rfl,?yy11⟩) (by assumption) ?rr11
 case yy11=>intro w hSw;(try dsimp only at hSw);have hq:=hSw.cp (n:=1) (by omega);rw [HK.out] at hq;go_simp;(try with_reducible rfl)
 try simp only [Act.put,List.setIfInBounds_toArray,List.set_cons_zero,List.set_cons_succ]
 refine wpAnyH_ready (rs:=[11]) (by kernel_rfl) (by simp) ?_
 refine consL rfl (fun K hK=>?_) AllReadyH.nil
 go_simp
 go_at_call 9
 refine PC.out.mono ?_
 rintro e w5 ⟨rfl,hS,hG⟩
 have M5:=lh ((HH.out.drewN 1).put_ hS hG)
 have C5:=lh (show Ch w w5 [F.gb] from ((Ch.refl w [F.gb]).drewN 1).trans (Ch.of_grown hG))
 clear hS hG hHeld
 go_wp2_with fail
 refine hK.out _ _ ?_ (fun hHeld=>?_)
 ·(try dsimp only);exact M5.out.m
 clear hK K
 try simp only [Act.put,List.setIfInBounds_toArray,List.set_cons_zero,List.set_cons_succ]
 refine' takeL (i:=12) (v:=_) rfl (by kernel_rfl) (by kernel_rfl) (by kernel_rfl) (fun _ _ _ h=>h) (Or.inl ⟨by rfl,?yy12⟩) (by assumption) ?rr12
 case yy12=>intro w hSw;(try dsimp only at hSw);go_simp;(try with_reducible rfl)
 try simp only [Act.put,List.setIfInBounds_toArray,List.set_cons_zero,List.set_cons_succ]
 refine wpAnyH_done (by kernel_rfl) ?_ _
 clear hHeld
 go_wp2_with (go_at_call 108;refine (need_no _ _).mono ?_;rintro e wx ⟨rfl,hwx⟩;subst hwx)
 exact ⟨rfl,rfl,M5.out,C5.out⟩
theorem fetch_no (g:Nat) (F:Foot) (is os rs:List Int) (ps:List Value) (ov:Bool) (bs ks:List Int) (addr n key:Int) (w:World) (h:MS w g F is os rs ps ov bs ks) (hk:ps.getD 1 undef=.int .i64 key) (c:Int) (hc:sCode (alF key) bs.length ks addr n=c) (hc0:c≠0):Calls Tryz.prog 116 #[.pointer (some ⟨g,0,none⟩),.int .i64 addr,.int .i64 n] w fun e w'=>e=.panicked [{ v:=.iface 124 (.int .i64 c),recovered:=false }]∧MS w' g F is os rs ps ov bs ks∧Ch w w' []:=by
 have HH:=lh h
 have HK:=lh hk
 have FC:=lh (fetch_c w.drew (h.st.drewN 1) addr n key)
 unfold sFet at FC
 rw [hc,if_neg hc0] at FC
 have e0:(c == 0)=false:=by simpa using hc0
 clear h hk hc
 go_enter Tryz.func116,Tryz.ntmps116
 go_upto_region 1 with fail
 refine wp_region_held_drew (S:=(fun w'=>Mc w' g is os rs ps (.pointer (some ⟨F.g,0,none⟩)) ov)) (by kernel_rfl) ?_ (fun hHeld=>?_)
 ·(try dsimp only);exact HH.out.m.drewN 1
 refine' takeL (i:=0) (v:=_) rfl (by kernel_rfl) (by kernel_rfl) (by kernel_rfl) (fun _ _ _ h=>h) (Or.inl ⟨by rfl,?yy13⟩) (by assumption) ?rr13
 case yy13=>intro w hSw;(try dsimp only at hSw);go_simp;(try with_reducible rfl)
 try simp only [Act.put,List.setIfInBounds_toArray,List.set_cons_zero,List.set_cons_succ]
 refine' takeL (i:=1) (v:=_) rfl (by kernel_rfl) (by kernel_rfl) (by kernel_rfl) (fun _ _ _ h=>h) (Or.inl ⟨by rfl,?yy14⟩) (by assumption) ?rr14
 case yy14=>intro w hSw;(try dsimp only at hSw);go_simp;(try with_reducible rfl)
 try simp only [Act.put,List.setIfInBounds_toArray,List.set_cons_zero,List.set_cons_succ]
 refine' takeL (i:=2) (v:=_) rfl (by kernel_rfl) (by kernel_rfl) (by kernel_rfl) (fun _ _ _ h=>h) (Or.inl ⟨by rfl,?yy15⟩) (by assumption) ?rr15
 case yy15=>intro w hSw;(try dsimp only at hSw);go_simp;(try with_reducible rfl)
 try simp only [Act.put,List.setIfInBounds_toArray,List.set_cons_zero,List.set_cons_succ]
 refine' takeL (i:=3) (v:=.pointer (some ⟨F.g,0,none⟩)) rfl (by kernel_rfl) (by kernel_rfl) (by kernel_rfl) (fun _ _ _ h=>h) (Or.inl ⟨by rfl,?yy16⟩) (by assumption) ?rr16
 case yy16=>intro w hSw;(try dsimp only at hSw);have hq:=hSw.cs;go_simp;(try with_reducible rfl)
 try simp only [Act.put,List.setIfInBounds_toArray,List.set_cons_zero,List.set_cons_succ]
 refine' takeL (i:=4) (v:=_) rfl (by kernel_rfl) (by kernel_rfl) (by kernel_rfl) (fun _ _ _ h=>h) (Or.inl ⟨by rfl,?yy17⟩) (by assumption) ?rr17
 case yy17=>intro w hSw;(try dsimp only at hSw);go_simp;(try with_reducible rfl)
 try simp only [Act.put,List.setIfInBounds_toArray,List.set_cons_zero,List.set_cons_succ]
 refine' takeL (i:=5) (v:=_) rfl (by kernel_rfl) (by kernel_rfl) (by kernel_rfl) (fun _ _ _ h=>h) (Or.inl ⟨by rfl,?yy18⟩) (by assumption) ?rr18
 case yy18=>intro w hSw;(try dsimp only at hSw);go_simp;(try with_reducible rfl)
 try simp only [Act.put,List.setIfInBounds_toArray,List.set_cons_zero,List.set_cons_succ]
 refine' takeL (i:=6) (v:=_) rfl (by kernel_rfl) (by kernel_rfl) (by kernel_rfl) (fun _ _ _ h=>h) (Or.inl ⟨by rfl,?yy19⟩) (by assumption) ?rr19
 case yy19=>intro w hSw;(try dsimp only at hSw);go_simp;(try with_reducible rfl)
 try simp only [Act.put,List.setIfInBounds_toArray,List.set_cons_zero,List.set_cons_succ]
 refine' takeL (i:=7) (v:=_) rfl (by kernel_rfl) (by kernel_rfl) (by kernel_rfl) (fun _ _ _ h=>h) (Or.inl ⟨by rfl,?yy20⟩) (by assumption) ?rr20
 case yy20=>intro w hSw;(try dsimp only at hSw);go_simp;(try with_reducible rfl)
 try simp only [Act.put,List.setIfInBounds_toArray,List.set_cons_zero,List.set_cons_succ]
 refine' takeL (i:=8) (v:=_) rfl (by kernel_rfl) (by kernel_rfl) (by kernel_rfl) (fun _ _ _ h=>h) (Or.inl ⟨by rfl,?yy21⟩) (by assumption) ?rr21
 case yy21=>intro w hSw;(try dsimp only at hSw);go_simp;(try with_reducible rfl)
 try simp only [Act.put,List.setIfInBounds_toArray,List.set_cons_zero,List.set_cons_succ]
 refine' takeL (i:=9) (v:=_) rfl (by kernel_rfl) (by kernel_rfl) (by kernel_rfl) (fun _ _ _ h=>h) (Or.inl ⟨by rfl,?yy22⟩) (by assumption) ?rr22
 case yy22=>intro w hSw;(try dsimp only at hSw);go_simp;(try with_reducible rfl)
 try simp only [Act.put,List.setIfInBounds_toArray,List.set_cons_zero,List.set_cons_succ]
 refine' takeL (i:=10) (v:=.int .i64 key) rfl (by kernel_rfl) (by kernel_rfl) (by kernel_rfl) (fun _ _ _ h=>h) (Or.inl ⟨by rfl,?yy23⟩) (by assumption) ?rr23
 case yy23=>intro w hSw;(try dsimp only at hSw);have hq:=hSw.cp (n:=1) (by omega);rw [HK.out] at hq;go_simp;(try with_reducible rfl)
 try simp only [Act.put,List.setIfInBounds_toArray,List.set_cons_zero,List.set_cons_succ]
 refine wpAnyH_ready (rs:=[11]) (by kernel_rfl) (by simp) ?_
 refine consL rfl (fun K hK=>?_) AllReadyH.nil
 go_simp
 go_at_call 47
 refine FC.out.mono ?_
 rintro e w5 ⟨A,m,cap,rfl,hO,hb⟩
 have M5:=lh ((HH.out.drewN 1).keep hb)
 have C5:=lh (show Ch w w5 [] from ((Ch.refl w []).drewN 1).trans (Ch.of_below hb []))
 clear hO hb hHeld
 go_wp2_with fail
 refine hK.out _ _ ?_ (fun hHeld=>?_)
 ·(try dsimp only);exact M5.out.m
 clear hK K
 try simp only [Act.put,List.setIfInBounds_toArray,List.set_cons_zero,List.set_cons_succ]
 refine' takeL (i:=12) (v:=_) rfl (by kernel_rfl) (by kernel_rfl) (by kernel_rfl) (fun _ _ _ h=>h) (Or.inl ⟨by rfl,?yy24⟩) (by assumption) ?rr24
 case yy24=>intro w hSw;(try dsimp only at hSw);go_simp;(try with_reducible rfl)
 try simp only [Act.put,List.setIfInBounds_toArray,List.set_cons_zero,List.set_cons_succ]
 refine' takeL (i:=13) (v:=_) rfl (by kernel_rfl) (by kernel_rfl) (by kernel_rfl) (fun _ _ _ h=>h) (Or.inl ⟨by rfl,?yy25⟩) (by assumption) ?rr25
 case yy25=>intro w hSw;(try dsimp only at hSw);go_simp;(try with_reducible rfl)
 try simp only [Act.put,List.setIfInBounds_toArray,List.set_cons_zero,List.set_cons_succ]
 refine' takeL (i:=14) (v:=_) rfl (by kernel_rfl) (by kernel_rfl) (by kernel_rfl) (fun _ _ _ h=>h) (Or.inl ⟨by rfl,?yy26⟩) (by assumption) ?rr26
 case yy26=>intro w hSw;(try dsimp only at hSw);go_simp;(try with_reducible rfl)
 try simp only [Act.put,List.setIfInBounds_toArray,List.set_cons_zero,List.set_cons_succ]
 refine' takeL (i:=15) (v:=_) rfl (by kernel_rfl) (by kernel_rfl) (by kernel_rfl) (fun _ _ _ h=>h) (Or.inl ⟨by rfl,?yy27⟩) (by assumption) ?rr27
 case yy27=>intro w hSw;(try dsimp only at hSw);go_simp;(try with_reducible rfl)
 try simp only [Act.put,List.setIfInBounds_toArray,List.set_cons_zero,List.set_cons_succ]
 refine' takeL (i:=16) (v:=_) rfl (by kernel_rfl) (by kernel_rfl) (by kernel_rfl) (fun _ _ _ h=>h) (Or.inl ⟨by rfl,?yy28⟩) (by assumption) ?rr28
 case yy28=>intro w hSw;(try dsimp only at hSw);go_simp;(try with_reducible rfl)
 try simp only [Act.put,List.setIfInBounds_toArray,List.set_cons_zero,List.set_cons_succ]
 refine wpAnyH_done (by kernel_rfl) ?_ _
 clear hHeld
 go_wp2_with (go_at_call 108;refine (need_no _ _).mono ?_;rintro e wx ⟨rfl,hwx⟩;subst hwx)
 exact ⟨rfl,rfl,M5.out,C5.out⟩
def opC (op fm:Int) (bs ks:List Int) (key a:Int):Int:=if fm=1 then 0 else if 72≤op∧op≤76 then (if a % 2=0 then sCode (alF key) bs.length ks a 2 else 6) else (if a % 4=0 then sCode (alF key) bs.length ks a 4 else 6)
def g2V (bs:List Int) (a:Int):Int:=hfv ((sGet bs a 2).getD 0 0) ((sGet bs a 2).getD 1 0)
def g4V (bs:List Int) (a:Int):Int:=flv ((sGet bs a 4).getD 0 0) ((sGet bs a 4).getD 1 0) ((sGet bs a 4).getD 2 0) ((sGet bs a 4).getD 3 0)
def opV (op fm:Int) (os:List Int) (k:Nat) (bs:List Int) (a:Int):Int:=if fm=1 then os.getD k 0 else if 72≤op∧op≤76 then g2V bs a else g4V bs a
theorem sGet_leng {al:Int→Bool} {bs ks:List Int} {a n:Int} (h:sCode al bs.length ks a n=0):((sGet bs a n).length:Int)=n:=by
 have h0:=sCode_zero h
 obtain ⟨h1,h2,h3,h4⟩:=sIn_yes h0
 unfold sGet;rw [if_pos h0];simp;omega
section
variable {w0 w:World} {g:Nat} {G:Foot} {I:In} {os rs:List Int} {p q:Ps} {c:Int} {bs ks:List Int}
def nzC (v:Int):Int:=if v=0 then 0 else 1
theorem In.a_in (I:In) (os:List Int):0≤I.a os∧I.a os≤16777215:=by unfold In.a;omega
theorem In.a1_in (I:In) (os:List Int):0≤I.a1 os∧I.a1 os≤16777215:=by unfold In.a1;omega
end
theorem MS.setp {w:World} {g:Nat} {F:Foot} {is os rs:List Int} {ps:List Value} {ov:Bool} {bs ks:List Int} (h:MS w g F is os rs ps ov bs ks) {n:Nat} (hn:n<10) (v:Value):MS (w.setCell ⟨g,44+n,none⟩ v) g F is os rs (ps.set n v) ov bs ks:=h.set_ (h.m.setp hn v) ((Ch.refl _ _).setCell (by simp) _)
theorem MS.setr {w:World} {g:Nat} {F:Foot} {is os rs:List Int} {ps:List Value} {ov:Bool} {bs ks:List Int} (h:MS w g F is os rs ps ov bs ks) {n:Nat} (hn:n<16) (v:Int):MS (w.setCell ⟨g,28+n,none⟩ (.int .u32 v)) g F is os (rs.set n v) ps ov bs ks:=h.set_ (h.m.setr hn v) ((Ch.refl _ _).setCell (by simp) _)
def sgnC (op v:Int):Bool:=decide (op=19∨(op=16∧sgn (sg v)=1)∨(op=17∧sgn (sg v)=2))
def sgnV (op v:Int):Int:=if sgnC op v=true then lo32 (-sg v) else v
def sgnQ (op v:Int):Int:=if sgnC op v=true then rcc (-sg v) else sgn (sg v)
def sgnO (op v:Int):Bool:=if sgnC op v=true then ovf (-sg v) else false
def Ro (w:World) (g c:Nat) (vs:List Int):Prop:=Rw w g 5 c (vs.map (Value.int .u8))∧∀z∈vs,0≤z∧z≤255
section
variable {w w':World} {g c:Nat} {vs:List Int}
theorem Ro.cell (h:Ro w g c vs) {i:Nat} (hi:i<vs.length):w.cell? ⟨g,i,none⟩=some (.int .u8 (vs.getD i 0)):=by
 rw [h.1.cell (i:=i) (by simpa using hi)];simp [List.getD_eq_getElem?_getD,hi]
theorem Ro.free (h:Ro w g c vs) (i:Nat):w.frozen? ⟨g,i,none⟩=false:=h.1.free i
theorem Ro.lt (h:Ro w g c vs):g<w.heap.size:=h.1.lt
theorem Ro.set_ (h:Ro w g c vs) {i:Nat} {y:Int} (hy:0≤y∧y≤255):Ro (w.setCell ⟨g,i,none⟩ (.int .u8 y)) g c (vs.set i y):=by
 refine ⟨by rw [List.map_set];exact h.1.set_ _,fun z hz=>?_⟩
 rcases List.mem_or_eq_of_mem_set hz with hz | rfl
 ·exact h.2 z hz
 ·exact hy
theorem Ro.keep (h:Ro w g c vs) (hk:w'.heap[g]?=w.heap[g]?):Ro w' g c vs:=⟨h.1.keep hk,h.2⟩
theorem Ro.other (h:Ro w g c vs) {p:Addr} (v:Value) (hp:p.block≠g):Ro (w.setCell p v) g c vs:=h.keep (Below.heap_setCell w p v g (Ne.symm hp))
theorem Ro.belowS (h:Ro w g c vs) (hb:Below w.heap.size w w'):Ro w' g c vs:=⟨h.1.keep (hb.block _ h.lt),h.2⟩
theorem Ro.drewN (h:Ro w g c vs) (n:Nat):Ro (w.drewN n) g c vs:=h
theorem Ro.byt (h:Ro w g c vs) (n:Nat) (hn:vs.length=n):Byt w (some ⟨g,0,none⟩) n vs:=by
 subst hn
 exact ⟨rfl,h.2,fun _=>⟨g,0,rfl,fun i hi=>by rw [Nat.zero_add];exact h.cell hi⟩⟩
theorem Own.ro {base n:Nat} (h:Own w base (.slice (some ⟨g,0,none⟩) n c) n vs):Ro w g c vs:=by
 obtain ⟨cur,q1,q2,q3,q4,q5,q6⟩:=Own.heap h
 exact ⟨⟨cur,q1,q2,by rw [List.length_map,h.len];exact q3,q6⟩,h.2⟩
theorem Ro.rangeD (h:Ro w g c vs) (k:Nat):0≤vs.getD k 0∧vs.getD k 0≤255:=by
 rw [List.getD_eq_getElem?_getD]
 rcases Nat.lt_or_ge k vs.length with hi | hi
 ·rw [List.getElem?_eq_getElem hi];exact h.2 _ (List.getElem_mem hi)
 ·rw [List.getElem?_eq_none hi];simp
end
def cmb (f:Int→Int→Int) (x y:List Int) (d:Int):Nat→List Int
 | 0=>x
 | k+1=>(cmb f x y d k).set k (f ((cmb f x y d k).getD k 0) (if 0<d∧d≤(k:Int) then (cmb f x y d k).getD (k - d.toNat) 0 else y.getD k 0))
def cmbS (f:Int→Int→Int) (x y:List Int) (d:Int):Nat→Int
 | 0=>0
 | k+1=>if (cmb f x y d (k+1)).getD k 0=0 then cmbS f x y d k else 1
theorem cmb_len (f:Int→Int→Int) (x y:List Int) (d:Int):∀k,(cmb f x y d k).length=x.length
 | 0=>rfl
 | k+1=>by simp only [cmb,List.length_set,cmb_len f x y d k]
theorem chB {w w':World} {L:List Nat} (h:Below w.heap.size w w'):Ch w w' L:=Ch.of_below h L
theorem MS.othr {w:World} {g:Nat} {F:Foot} {is os rs:List Int} {ps:List Value} {ov:Bool} {bs ks:List Int} (h:MS w g F is os rs ps ov bs ks) {p:Addr} (v:Value) (h1:g≠p.block) (h2:p.block≠F.g∧p.block≠F.gb∧p.block≠F.gk):MS (w.setCell p v) g F is os rs ps ov bs ks:=
 ⟨h.m.other v (Ne.symm h1),h.st.keep (Below.heap_setCell w p v F.g (Ne.symm h2.1)) (Below.heap_setCell w p v F.gb (Ne.symm h2.2.1)) (Below.heap_setCell w p v F.gk (Ne.symm h2.2.2)),h.n0,h.n1,h.n2⟩
theorem getD_set_same (l:List Int) (k:Nat) (v:Int) (h:k<l.length):(l.set k v).getD k 0=v:=by simp [List.getD_eq_getElem?_getD,h]
theorem getD_set_other (l:List Int) (k j:Nat) (v:Int) (h:k≠j):(l.set k v).getD j 0=l.getD j 0:=by simp [List.getD_eq_getElem?_getD,List.getElem?_set,h]
def clc:List Int→List Int→Int
 | x :: xs,y :: ys=>if x=y then clc xs ys else sgn (x - y)
 | _,_=>0
theorem drop_cons (l:List Int) (k:Nat) (h:k<l.length):l.drop k=l.getD k 0 :: l.drop (k+1):=by
 rw [List.drop_eq_getElem_cons h,List.getD_eq_getElem?_getD,List.getElem?_eq_getElem h];rfl
theorem wp_append_b {w:World} {o:Oper} {a:Act} {K:Act→World→Prop} {Q:Exit→Act→World→Prop} (s x:Operand)
  (ho:o.op=.call { callee:=.builtin .append,args:=#[s,x],argTypes:=#[22,22] })
  (base:Nat) (v:Value) (n:Nat) (zs:List Int) (hs:a.eval s=v) (hown:Own w base v n zs)
  (b off m c:Nat) (ys:List Int) (hx:a.eval x=.slice (some ⟨b,off,none⟩) m c) (hy:Byt w (some ⟨b,off,none⟩) m ys) (h63:n+m≤140737488355328) (hbase:base≤w.heap.size)
  (h:∀v' w',Own w' base v' (n+m) (zs++ys)→w.grownBy w' v.ownBlock→K (a.put o.dst v') w'):Oper.wp Tryz.prog o a w K Q:=by
 obtain ⟨i0,hi,hz0,hz1,hz2⟩:=info_parts info_u8
 refine wp_append_own w s x 22 ho base 5 i0 (.int .u8 0) 1 1 Tryz.underlying22 hi hz0 hz1 hz2 rfl (by decide) v n _ hs hown.1 ⟨b,off,none⟩ m c (ys.map (Value.int .u8)) hx (by simp [hy.1]) ?_ (by simp [Value.oneCell']) (by unfold maxLen;omega) (by omega) hbase ?_
 ·intro j u hu
  have hj:j<ys.length:=by
   rcases Nat.lt_or_ge j ys.length with h1 | h1
   ·exact h1
   ·rw [List.getElem?_eq_none (by simpa using h1)] at hu;cases hu
  have h2:=hy.cells (by rw [← hy.1];omega) j u hu
  exact h2
 ·intro v' w' h1 h2 _
  refine h v' w' ⟨by simpa using h1,?_⟩ h2
  intro z hz
  rcases List.mem_append.mp hz with hz | hz
  ·exact hown.2 z hz
  ·exact hy.2.1 z hz
def fb (v:Int):List Int:=[v / 16777216,v / 65536 % 256,v / 256 % 256,v % 256]
def stB (os:List Int) (n:Nat):Nat→List Int
 | 0=>[]
 | k+1=>stB os n k++fb (os.getD ((n+k) % 16) 0)
theorem u32_hi8 (a:Int) (h0:0≤a) (h1:a≤4294967295):bits .andNot .u32 a 255=a / 256*256:=by
 rw [u32_andNot a 255 h0 (by omega) (by omega) (by omega)]
 have:a.toNat &&& (4294967295 - (255:Int).toNat)=a.toNat / 256*256:=by
  have e:4294967295 - (255:Int).toNat=(2 ^ 24 - 1) <<< 8:=by decide
  have e2:a.toNat / 256*256=(a.toNat >>> 8) <<< 8:=by rw [Nat.shiftRight_eq_div_pow,Nat.shiftLeft_eq]
  rw [e,e2]
  apply Nat.eq_of_testBit_eq
  intro j
  rw [Nat.testBit_and,Nat.testBit_shiftLeft,Nat.testBit_shiftLeft,Nat.testBit_two_pow_sub_one,Nat.testBit_shiftRight]
  by_cases hj:8≤j
  ·rw [show 8+(j - 8)=j by omega]
   by_cases hj2:j - 8<24
   ·simp [hj,hj2]
   ·have:a.toNat.testBit j=false:=Nat.testBit_lt_two_pow (Nat.lt_of_lt_of_le (show a.toNat<2 ^ 32 by omega) (Nat.pow_le_pow_right (by omega) (by omega)))
    simp [this]
  ·simp [hj]
 rw [this]
 omega
theorem u8_hi:∀n:Nat,n<256→bits .and .u8 (n:Int) 240=(n:Int) / 16*16:=by decide +kernel
theorem u8_joinA:∀a:Nat,a<16→∀b:Nat,b<16→bits .or .u8 ((a:Int)*16) (b:Int)=(a:Int)*16+(b:Int):=by decide +kernel
theorem u8_joinB:∀a:Nat,a<16→∀b:Nat,b<16→bits .or .u8 (b:Int) ((a:Int)*16)=(a:Int)*16+(b:Int):=by decide +kernel
def cb (op x y:Int):Int:=if op=209 then x / 16*16+y % 16 else if op=210 then y else if op=211 then y / 16*16+x % 16 else if op=212 then bits .and .u8 x y else if op=214 then bits .or .u8 x y else bits .xor .u8 x y
theorem cb_in (op x y:Int) (x0:0≤x) (x1:x≤255) (y0:0≤y) (y1:y≤255):0≤cb op x y∧cb op x y≤255:=by
 unfold cb
 repeat' split
 ·omega
 ·omega
 ·omega
 ·exact bounds_u8 (wf_bits .and .u8 x y)
 ·exact bounds_u8 (wf_bits .or .u8 x y)
 ·exact bounds_u8 (wf_bits .xor .u8 x y)
theorem mix (x y:Int) (x0:0≤x) (x1:x≤255) (y0:0≤y) (y1:y≤255):bits .or .u8 (bits .and .u8 x 240) (y % 16)=x / 16*16+y % 16:=by
 obtain ⟨a,rfl⟩:=Int.eq_ofNat_of_zero_le x0
 obtain ⟨b,rfl⟩:=Int.eq_ofNat_of_zero_le y0
 rw [u8_hi a (by omega)]
 have:=u8_joinA (a / 16) (by omega) (b % 16) (by omega)
 simpa using this
theorem mix' (x y:Int) (x0:0≤x) (x1:x≤255) (y0:0≤y) (y1:y≤255):bits .or .u8 (x % 16) (bits .and .u8 y 240)=y / 16*16+x % 16:=by
 obtain ⟨a,rfl⟩:=Int.eq_ofNat_of_zero_le x0
 obtain ⟨b,rfl⟩:=Int.eq_ofNat_of_zero_le y0
 rw [u8_hi b (by omega)]
 have:=u8_joinB (b / 16) (by omega) (a % 16) (by omega)
 simpa using this
theorem clo_209 (x y:Int) (w:World) (x0:0≤x) (x1:x≤255) (y0:0≤y) (y1:y≤255):Calls Tryz.prog 123 #[.int .u8 x,.int .u8 y] w fun e w'=>e=.returned (.int .u8 (cb 209 x y))∧w=w':=by
 have hm:=mix x y x0 x1 y0 y1
 go_enter Tryz.func123,Tryz.ntmps123
 go_wp2
 go_ret
 exact ⟨by rfl,rfl⟩
theorem clo_call_209 (args:Array Value) (W:World):Sem.run Tryz.prog (callFunc 123 args) W=.ok (.enter 123 args) W:=by kernel_rfl
theorem clo_210 (x y:Int) (w:World) (x0:0≤x) (x1:x≤255) (y0:0≤y) (y1:y≤255):Calls Tryz.prog 124 #[.int .u8 x,.int .u8 y] w fun e w'=>e=.returned (.int .u8 (cb 210 x y))∧w=w':=by
 go_enter Tryz.func124,Tryz.ntmps124
 go_wp2
 go_ret
 exact ⟨by rfl,rfl⟩
theorem clo_call_210 (args:Array Value) (W:World):Sem.run Tryz.prog (callFunc 124 args) W=.ok (.enter 124 args) W:=by kernel_rfl
theorem clo_211 (x y:Int) (w:World) (x0:0≤x) (x1:x≤255) (y0:0≤y) (y1:y≤255):Calls Tryz.prog 125 #[.int .u8 x,.int .u8 y] w fun e w'=>e=.returned (.int .u8 (cb 211 x y))∧w=w':=by
 have hm:=mix' x y x0 x1 y0 y1
 go_enter Tryz.func125,Tryz.ntmps125
 go_wp2
 go_ret
 exact ⟨by rfl,rfl⟩
theorem clo_call_211 (args:Array Value) (W:World):Sem.run Tryz.prog (callFunc 125 args) W=.ok (.enter 125 args) W:=by kernel_rfl
theorem clo_212 (x y:Int) (w:World) (x0:0≤x) (x1:x≤255) (y0:0≤y) (y1:y≤255):Calls Tryz.prog 126 #[.int .u8 x,.int .u8 y] w fun e w'=>e=.returned (.int .u8 (cb 212 x y))∧w=w':=by
 go_enter Tryz.func126,Tryz.ntmps126
 go_wp2
 go_ret
 exact ⟨by rfl,rfl⟩
theorem clo_call_212 (args:Array Value) (W:World):Sem.run Tryz.prog (callFunc 126 args) W=.ok (.enter 126 args) W:=by kernel_rfl
theorem clo_214 (x y:Int) (w:World) (x0:0≤x) (x1:x≤255) (y0:0≤y) (y1:y≤255):Calls Tryz.prog 127 #[.int .u8 x,.int .u8 y] w fun e w'=>e=.returned (.int .u8 (cb 214 x y))∧w=w':=by
 go_enter Tryz.func127,Tryz.ntmps127
 go_wp2
 go_ret
 exact ⟨by rfl,rfl⟩
theorem clo_call_214 (args:Array Value) (W:World):Sem.run Tryz.prog (callFunc 127 args) W=.ok (.enter 127 args) W:=by kernel_rfl
theorem clo_215 (x y:Int) (w:World) (x0:0≤x) (x1:x≤255) (y0:0≤y) (y1:y≤255):Calls Tryz.prog 128 #[.int .u8 x,.int .u8 y] w fun e w'=>e=.returned (.int .u8 (cb 215 x y))∧w=w':=by
 go_enter Tryz.func128,Tryz.ntmps128
 go_wp2
 go_ret
 exact ⟨by rfl,rfl⟩
theorem clo_call_215 (args:Array Value) (W:World):Sem.run Tryz.prog (callFunc 128 args) W=.ok (.enter 128 args) W:=by kernel_rfl
def trS (bs xs:List Int) (a b:Int):Nat→List Int
 | 0=>xs
 | k+1=>(trS bs xs a b k).set k (if a≤b+xs.getD k 0∧b+xs.getD k 0<a+(k:Int) then (trS bs xs a b k).getD (b+xs.getD k 0 - a).toNat 0 else (sGet bs (b+xs.getD k 0) 1).getD 0 0)
def trE (bs ks xs:List Int) (key b:Int):Nat→Int
 | 0=>0
 | k+1=>if trE bs ks xs key b k=0 then sCode (alF key) bs.length ks (b+xs.getD k 0) 1 else trE bs ks xs key b k
theorem trS_len (bs xs:List Int) (a b:Int):∀k,(trS bs xs a b k).length=xs.length
 | 0=>rfl
 | k+1=>by simp only [trS,List.length_set,trS_len bs xs a b k]
theorem trS_far (bs xs:List Int) (a b:Int):∀k j,k≤j→(trS bs xs a b k).getD j 0=xs.getD j 0
 | 0,_,_=>rfl
 | k+1,j,h=>by simp only [trS];rw [getD_set_other _ _ _ _ (by omega)];exact trS_far bs xs a b k j (by omega)
theorem trE_stay (bs ks xs:List Int) (key b:Int) {k:Nat} (h:trE bs ks xs key b k≠0):∀j,trE bs ks xs key b (k+j)=trE bs ks xs key b k
 | 0=>rfl
 | j+1=>by
  have hj:=trE_stay bs ks xs key b h j
  rw [show k+(j+1)=(k+j)+1 by omega]
  simp only [trE]
  rw [if_neg (by rw [hj];exact h),hj]
theorem tr_no (g N:Nat) (F:Foot) (is os rs:List Int) (ps:List Value) (ov:Bool) (bs ks:List Int) (key a b:Int) (w:World) (h:MS w g F is os rs ps ov bs ks) (hl:is.getD 9 0+1=(N:Int)) (hN:N≤256) (hkey:ps.getD 1 undef=.int .i64 key) (hfir:∀W,MS W g F is os rs ps ov bs ks→Calls Tryz.prog 119 #[.pointer (some ⟨g,0,none⟩)] W fun e w'=>e=.returned (.int .i64 a)∧Ch W w' []) (hsec:∀W,MS W g F is os rs ps ov bs ks→Calls Tryz.prog 74 #[.pointer (some ⟨g,0,none⟩)] W fun e w'=>e=.returned (.int .i64 b)∧Ch W w' []) (ha0:0≤a) (ha1:a≤16777215) (hb0:0≤b) (hb1:b≤16777215) (c:Int) (hc:sCode (alF key) bs.length ks a N=c) (hc0:c≠0):Calls Tryz.prog 130 #[.pointer (some ⟨g,0,none⟩)] w fun e w'=>e=.panicked [{ v:=.iface 124 (.int .i64 c),recovered:=false }]∧MS w' g F is os rs ps ov bs ks∧Ch w w' []:=by
 have H9:=lh h
 have s9:w.cell? ⟨g,9,none⟩=some (.int .i64 (is.getD 9 0)):=h.m.ci (c:=9) (by omega)
 obtain ⟨l1,hl1⟩:∃l,is.getD 9 0=l:=⟨_,rfl⟩
 rw [hl1] at hl s9
 have HM:=lh h
 have HL:=lh hl1
 have HK:=lh hkey
 have FC:=lh hfir
 have SC:=lh hsec
 have D0:=lh (Ch.refl w ([]:List Nat))
 have wl:IntKind.i64.wrap (l1+1)=(N:Int):=by rw [wrap_i64_id (by omega) (by omega)];exact hl
 have HC:=lh hc
 have HC0:=lh hc0
 clear h hkey hfir hsec hl1 hc hc0 s9
 go_enter Tryz.func130,Tryz.ntmps130
 go_wp2_with (go_at_call 119;refine (FC.out _ HM.out).mono ?_;rintro e w1 ⟨rfl,hcs⟩;have M1:=lh (HM.out.ch hcs);have C1:=lh (D0.out.trans hcs);clear hcs)
 refine (SC.out _ M1.out).mono ?_
 rintro e w2 ⟨rfl,hcs⟩
 have M2:=lh (M1.out.ch hcs)
 have C2:=lh (C1.out.trans hcs)
 have t9:w2.cell? ⟨g,9,none⟩=some (.int .i64 l1):=by have hq:=M2.out.m.ci (c:=9) (by omega);rw [HL.out] at hq;exact hq
 clear hcs
 go_wp2_with (go_at_call 116;refine (fetch_no g F is os rs ps ov bs ks a (N:Int) key _ M2.out HK.out c HC.out HC0.out).mono ?_;rintro e w9 ⟨rfl,hM,hCh⟩;have M9:=lh hM;have C9:=lh (C2.out.trans hCh);clear hM hCh)
 exact ⟨rfl,rfl,M9.out,C9.out⟩
theorem tr_m (g N:Nat) (F:Foot) (is os rs:List Int) (ps:List Value) (ov:Bool) (bs ks:List Int) (key a b:Int) (w:World) (h:MS w g F is os rs ps ov bs ks) (hl:is.getD 9 0+1=(N:Int)) (hN:N≤256) (hkey:ps.getD 1 undef=.int .i64 key) (hfir:∀W,MS W g F is os rs ps ov bs ks→Calls Tryz.prog 119 #[.pointer (some ⟨g,0,none⟩)] W fun e w'=>e=.returned (.int .i64 a)∧Ch W w' []) (hsec:∀W,MS W g F is os rs ps ov bs ks→Calls Tryz.prog 74 #[.pointer (some ⟨g,0,none⟩)] W fun e w'=>e=.returned (.int .i64 b)∧Ch W w' []) (ha0:0≤a) (ha1:a≤16777215) (hb0:0≤b) (hb1:b≤16777215) (hN1:1≤N) (hf1:sCode (alF key) bs.length ks a N=0) (c:Int) (hc:(if trE bs ks (sGet bs a N) key b N=0 then sCode (alP key) bs.length ks a N else trE bs ks (sGet bs a N) key b N)=c):Calls Tryz.prog 130 #[.pointer (some ⟨g,0,none⟩)] w fun e w'=>(c=0→e=.returned (.tuple #[])∧MS w' g F is os rs ps ov (sPut (alP key) bs ks a (trS bs (sGet bs a N) a b N)) ks)∧(c≠0→e=.panicked [{ v:=.iface 124 (.int .i64 c),recovered:=false }]∧MS w' g F is os rs ps ov bs ks)∧Ch w w' [g,F.gb]:=by
 have s9:w.cell? ⟨g,9,none⟩=some (.int .i64 (is.getD 9 0)):=h.m.ci (c:=9) (by omega)
 obtain ⟨l1,hl1⟩:∃l,is.getD 9 0=l:=⟨_,rfl⟩
 rw [hl1] at hl s9
 have HM:=lh h
 have HL:=lh hl1
 have HK:=lh hkey
 have FC:=lh hfir
 have SC:=lh hsec
 have D0:=lh (Ch.refl w ([]:List Nat))
 have wl:IntKind.i64.wrap (l1+1)=(N:Int):=by rw [wrap_i64_id (by omega) (by omega)];exact hl
 have HF1:=lh hf1
 have lx:=sGet_leng hf1
 obtain ⟨xs,hxs⟩:∃x,sGet bs a N=x:=⟨_,rfl⟩
 rw [hxs] at lx hc ⊢
 have HXS:=lh hxs
 have HC:=lh hc
 obtain ⟨R,hR⟩:∃R:Ending→World→Prop,R=fun e w'=>(c=0→e=.returned (.tuple #[])∧MS w' g F is os rs ps ov (sPut (alP key) bs ks a (trS bs xs a b N)) ks)∧(c≠0→e=.panicked [{ v:=.iface 124 (.int .i64 c),recovered:=false }]∧MS w' g F is os rs ps ov bs ks)∧Ch w w' [g,F.gb]:=⟨_,rfl⟩
 suffices hs:Calls Tryz.prog 130 #[.pointer (some ⟨g,0,none⟩)] w R by rw [hR] at hs;exact hs
 have HR:=lh hR
 clear h hkey hfir hsec hl1 hf1 hxs hc hR s9
 go_enter Tryz.func130,Tryz.ntmps130
 go_wp2_with (go_at_call 119;refine (FC.out _ HM.out).mono ?_;rintro e w1 ⟨rfl,hcs⟩;have M1:=lh (HM.out.ch hcs);have C1:=lh (D0.out.trans hcs);clear hcs)
 refine (SC.out _ M1.out).mono ?_
 rintro e w2 ⟨rfl,hcs⟩
 have M2:=lh (M1.out.ch hcs)
 have C2:=lh (C1.out.trans hcs)
 have t9:w2.cell? ⟨g,9,none⟩=some (.int .i64 l1):=by have hq:=M2.out.m.ci (c:=9) (by omega);rw [HL.out] at hq;exact hq
 clear hcs
 go_wp2_with fail
 refine (fetch_m g F is os rs ps ov bs ks a (N:Int) key _ M2.out HK.out HF1.out).mono ?_
 rintro e w3 ⟨A3,m3,c3,rfl,hO,hM,hCh⟩
 rw [HXS.out] at hO
 have M3:=lh hM
 have C3:=lh (C2.out.trans hCh)
 have hm3:m3=N:=by have:=hO.byt.1;omega
 subst hm3
 obtain ⟨gx,cx,hv,hgx,hlx,-,-⟩:=hO.pos (by omega)
 injection hv with hv1 hv2 hv3
 subst hv1 hv3
 have RX3:=lh hO.ro
 have hgm:g≠gx∧w.heap.size≤gx:=by
  have h1:=M2.out.m.lt
  have h4:=C2.out.size
  omega
 have HGX:Hid (gx≠F.g∧gx≠F.gb∧gx≠F.gk):=lh (by have:=M2.out.st.ltg;have:=M2.out.st.ltb;have:=M2.out.st.ltk;omega)
 obtain ⟨hg1,hg4⟩:=hgm
 have G1:=lh hg1
 clear hO hM hCh hgx hlx hg1 M1 M2 C1 C2 HM D0 t9
 go_upto_region 3 with fail
 go_loopw [24] (fun x W=>∃k:Nat,k≤m3∧x=.int .i64 (k:Int)∧trE bs ks xs key b k=0∧MS W g F is os rs ps ov bs ks∧Ro W gx c3 (trS bs xs a b k)∧Below w.heap.size w W) (fun x _=>m3 - (intOf x).toNat)
 case atStart=>exact ⟨0,by omega,rfl,rfl,M3.out,RX3.out,C3.out.below (Nat.le_refl _) (by simp)⟩
 case round=>
  obtain ⟨k,hk,rfl,het,hmw,hrx,hbw⟩:=hrel
  have MW:=lh hmw
  have RX:=lh hrx
  have BW:=lh hbw
  have hxl:(trS bs xs a b k).length=m3:=by rw [trS_len];omega
  have HET:=lh het
  clear hmw hrx hbw het
  by_cases hlt:k<m3
  ·have i0:(k:Int)<(m3:Int):=by omega
   have i1:(0:Int)≤(k:Int):=by omega
   obtain ⟨x,hx⟩:∃x,xs.getD k 0=x:=⟨_,rfl⟩
   have x01:=RX.out.rangeD k
   have cxk:=RX.out.cell (i:=k) (by omega)
   rw [trS_far bs xs a b k k (by omega),hx] at cxk x01
   obtain ⟨x0,x1⟩:=x01
   obtain ⟨t,ht⟩:∃t,b+x=t:=⟨_,rfl⟩
   have wx:IntKind.i64.wrap x=x:=wrap_i64_id (by omega) (by omega)
   have wt:IntKind.i64.wrap (b+x)=t:=by rw [wrap_i64_id (by omega) (by omega)];exact ht
   have wk:IntKind.i64.wrap (a+(k:Int))=a+(k:Int):=wrap_i64_id (by omega) (by omega)
   have t0:0≤t:=by omega
   have t1:t≤16777470:=by omega
   have fxk:=RX.out.free k
   have EE:=lh (show trE bs ks xs key b (k+1)=sCode (alF key) bs.length ks t 1 from by simp only [trE];rw [if_pos HET.out,hx,ht])
   have SS:=lh (show trS bs xs a b (k+1)=(trS bs xs a b k).set k (if a≤t∧t<a+(k:Int) then (trS bs xs a b k).getD (t - a).toNat 0 else (sGet bs t 1).getD 0 0) from by simp only [trS,hx,ht])
   clear hx
   by_cases hsc:sCode (alF key) bs.length ks t 1=0
   ·have HSC:=lh hsc
    have E0:=lh (EE.out.trans hsc)
    have hl1:=sGet_leng hsc
    obtain ⟨zs,hzs⟩:∃zs,sGet bs t 1=zs:=⟨_,rfl⟩
    rw [hzs] at hl1
    obtain ⟨y,hy⟩:∃y,zs.getD 0 0=y:=⟨_,rfl⟩
    have HZ:=lh hzs
    have HY:=lh hy
    have HL1:=lh hl1
    clear hsc hzs hy hl1
    have FET:=lh (fun (W:World) (hM:MS W g F is os rs ps ov bs ks)=>fetch_m g F is os rs ps ov bs ks t 1 key W hM HK.out HSC.out)
    by_cases hin:a≤t∧t<a+(k:Int)
    ·obtain ⟨j,hj⟩:∃j,(t - a).toNat=j:=⟨_,rfl⟩
     have e1:t≥a:=hin.1
     have e2:t<a+(k:Int):=hin.2
     have hj2:t - a=(j:Int):=by omega
     have wj:IntKind.i64.wrap (t - a)=(j:Int):=by rw [wrap_i64_id (by omega) (by omega)];exact hj2
     have j0:(j:Int)<(m3:Int):=by omega
     have j1:(0:Int)≤(j:Int):=by omega
     obtain ⟨v,hv⟩:∃v,(trS bs xs a b k).getD j 0=v:=⟨_,rfl⟩
     have V01:=lh (RX.out.rangeD j)
     rw [hv] at V01
     have S1:=lh (show trS bs xs a b (k+1)=(trS bs xs a b k).set k v from by rw [SS.out,if_pos hin,hj,hv])
     have HV:=lh hv
     clear hin hj hj2 hv
     go_wp2_with (go_at_call 116;refine (FET.out _ MW.out).mono ?_;rintro e wb ⟨A,mm,cb,rfl,hO,hM,hCh⟩;rw [HZ.out] at hO;have M2:=lh hM;have RX2:=lh (RX.out.belowS (hCh.below (Nat.le_refl _) (by simp)));have B2:=lh (BW.out.trans (hCh.below BW.out.size (by simp)));have hml:mm=1:=(by have:=hO.byt.1;have:=HL1.out;omega);subst hml;obtain ⟨gb,cb',hv,hgb,hgl,-,-⟩:=hO.pos (by omega);injection hv with hv1 hv2 hv3;subst hv1 hv3;have Y01:=lh (hO.byt.range 0);rw [HY.out] at Y01;obtain ⟨gb',ob',e',hcell⟩:=hO.byt.at_ (by omega);cases e';have yc':=hcell 0 (by omega);rw [HY.out] at yc';have yc:wb.cell? ⟨gb,0,none⟩=some (.int .u8 y):=(by exact yc');have dxk:=RX2.out.cell (i:=k) (by omega);have gxk:=RX2.out.free k;have dxj:=RX2.out.cell (i:=j) (by omega);rw [HV.out] at dxj;clear hO hM hCh hgb hgl hcell yc')
     have M6:=lh (M2.out.othr (p:=⟨gx,k,none⟩) (.int .u8 v) G1.out HGX.out)
     have RX6:=lh (RX2.out.set_ (i:=k) V01.out)
     have B6:=lh (B2.out.setCell (p:=⟨gx,k,none⟩) hg4 (.int .u8 v))
     rw [← S1.out] at RX6
     exact ⟨⟨k+1,by omega,rfl,E0.out,M6.out,RX6.out,B6.out⟩,by simp [intOf];omega⟩
    ·have S1:=lh (show trS bs xs a b (k+1)=(trS bs xs a b k).set k y from by rw [SS.out,if_neg hin,HZ.out,HY.out])
     by_cases hge:t≥a
     ·have e2:¬ t<a+(k:Int):=by omega
      clear hin
      go_wp2_with (go_at_call 116;refine (FET.out _ MW.out).mono ?_;rintro e wb ⟨A,mm,cb,rfl,hO,hM,hCh⟩;rw [HZ.out] at hO;have M2:=lh hM;have RX2:=lh (RX.out.belowS (hCh.below (Nat.le_refl _) (by simp)));have B2:=lh (BW.out.trans (hCh.below BW.out.size (by simp)));have hml:mm=1:=(by have:=hO.byt.1;have:=HL1.out;omega);subst hml;obtain ⟨gb,cb',hv,hgb,hgl,-,-⟩:=hO.pos (by omega);injection hv with hv1 hv2 hv3;subst hv1 hv3;have Y01:=lh (hO.byt.range 0);rw [HY.out] at Y01;obtain ⟨gb',ob',e',hcell⟩:=hO.byt.at_ (by omega);cases e';have yc':=hcell 0 (by omega);rw [HY.out] at yc';have yc:wb.cell? ⟨gb,0,none⟩=some (.int .u8 y):=(by exact yc');have dxk:=RX2.out.cell (i:=k) (by omega);have gxk:=RX2.out.free k;clear hO hM hCh hgb hgl hcell yc')
      have M6:=lh (M2.out.othr (p:=⟨gx,k,none⟩) (.int .u8 y) G1.out HGX.out)
      have RX6:=lh (RX2.out.set_ (i:=k) Y01.out)
      have B6:=lh (B2.out.setCell (p:=⟨gx,k,none⟩) hg4 (.int .u8 y))
      rw [← S1.out] at RX6
      exact ⟨⟨k+1,by omega,rfl,E0.out,M6.out,RX6.out,B6.out⟩,by simp [intOf];omega⟩
     ·clear hin
      go_wp2_with (go_at_call 116;refine (FET.out _ MW.out).mono ?_;rintro e wb ⟨A,mm,cb,rfl,hO,hM,hCh⟩;rw [HZ.out] at hO;have M2:=lh hM;have RX2:=lh (RX.out.belowS (hCh.below (Nat.le_refl _) (by simp)));have B2:=lh (BW.out.trans (hCh.below BW.out.size (by simp)));have hml:mm=1:=(by have:=hO.byt.1;have:=HL1.out;omega);subst hml;obtain ⟨gb,cb',hv,hgb,hgl,-,-⟩:=hO.pos (by omega);injection hv with hv1 hv2 hv3;subst hv1 hv3;have Y01:=lh (hO.byt.range 0);rw [HY.out] at Y01;obtain ⟨gb',ob',e',hcell⟩:=hO.byt.at_ (by omega);cases e';have yc':=hcell 0 (by omega);rw [HY.out] at yc';have yc:wb.cell? ⟨gb,0,none⟩=some (.int .u8 y):=(by exact yc');have dxk:=RX2.out.cell (i:=k) (by omega);have gxk:=RX2.out.free k;clear hO hM hCh hgb hgl hcell yc')
      have M6:=lh (M2.out.othr (p:=⟨gx,k,none⟩) (.int .u8 y) G1.out HGX.out)
      have RX6:=lh (RX2.out.set_ (i:=k) Y01.out)
      have B6:=lh (B2.out.setCell (p:=⟨gx,k,none⟩) hg4 (.int .u8 y))
      rw [← S1.out] at RX6
      exact ⟨⟨k+1,by omega,rfl,E0.out,M6.out,RX6.out,B6.out⟩,by simp [intOf];omega⟩
   ·have HSC:=lh hsc
    have hcc:trE bs ks xs key b m3=sCode (alF key) bs.length ks t 1:=by
     have:=trE_stay bs ks xs key b (k:=k+1) (by rw [EE.out];exact hsc) (m3 - (k+1))
     rw [show k+1+(m3 - (k+1))=m3 by omega,EE.out] at this
     exact this
    have hc:=HC.out
    rw [hcc,if_neg hsc] at hc
    have HC2:=lh hc
    have HC0:=lh (show c≠0 from by rw [← hc];exact hsc)
    clear hsc hcc hc
    go_wp2_with (go_at_call 116;refine (fetch_no g F is os rs ps ov bs ks t 1 key _ MW.out HK.out c HC2.out HC0.out).mono ?_;rintro e w9 ⟨rfl,hM,hCh⟩;have M9:=lh hM;have B9:=lh (BW.out.trans (hCh.below BW.out.size (by simp)));clear hM hCh)
    refine ⟨rfl,?_⟩
    rw [HR.out]
    exact ⟨fun h=>absurd h HC0.out,fun _=>⟨rfl,M9.out⟩,chB B9.out⟩
  ·obtain rfl:k=m3:=by omega
   have hI:¬(k:Int)<(k:Int):=by omega
   have YB:=lh (RX.out.byt k hxl)
   have hc:=HC.out
   rw [if_pos HET.out] at hc
   by_cases hc0:c=0
   ·have HC':=lh (hc.trans hc0)
    have HC0:=lh hc0
    clear hc0 hc
    go_wp2_with (go_at_call 113;refine (put_m g F is os rs ps ov bs ks a key _ _ _ (trS bs xs a b k) _ MW.out HK.out YB.out (by omega) HC'.out).mono ?_;rintro e w5 ⟨rfl,hM5,hC5⟩;have M5:=lh hM5;have C5:=lh ((show Ch w wr [g,F.gb] from chB BW.out).trans (hC5.mono (by simp)));clear hM5 hC5)
    first | go_end0 | refine bodyPost_ret (results_none rfl _ _ _) rfl ?_
    rw [HR.out]
    exact ⟨fun _=>⟨rfl,M5.out⟩,fun h=>absurd HC0.out h,C5.out⟩
   ·have HC0:=lh hc0
    have HC2:=lh hc
    clear hc0 hc
    go_wp2_with (go_at_call 113;refine (put_no g F is os rs ps ov bs ks a key _ _ _ (trS bs xs a b k) _ MW.out HK.out YB.out (by omega) c HC2.out HC0.out).mono ?_;rintro e w5 ⟨rfl,hM5,hC5⟩;have M5:=lh hM5;have C5:=lh ((show Ch w wr [g,F.gb] from chB BW.out).trans (hC5.mono (by simp)));clear hM5 hC5)
    refine ⟨rfl,?_⟩
    rw [HR.out]
    exact ⟨fun h=>absurd h HC0.out,fun _=>⟨rfl,M5.out⟩,C5.out⟩
theorem u32_hi24 (a:Int) (h0:0≤a) (h1:a≤4294967295):bits .andNot .u32 a 16777215=a / 16777216*16777216:=by
 rw [u32_andNot a 16777215 h0 (by omega) (by omega) (by omega)]
 have:a.toNat &&& (4294967295 - (16777215:Int).toNat)=a.toNat / 16777216*16777216:=by
  have e:4294967295 - (16777215:Int).toNat=(2 ^ 8 - 1) <<< 24:=by decide
  have e2:a.toNat / 16777216*16777216=(a.toNat >>> 24) <<< 24:=by rw [Nat.shiftRight_eq_div_pow,Nat.shiftLeft_eq]
  rw [e,e2]
  apply Nat.eq_of_testBit_eq
  intro j
  rw [Nat.testBit_and,Nat.testBit_shiftLeft,Nat.testBit_shiftLeft,Nat.testBit_two_pow_sub_one,Nat.testBit_shiftRight]
  by_cases hj:24≤j
  ·rw [show 24+(j - 24)=j by omega]
   by_cases hj2:j - 24<8
   ·simp [hj,hj2]
   ·have:a.toNat.testBit j=false:=Nat.testBit_lt_two_pow (Nat.lt_of_lt_of_le (show a.toNat<2 ^ 32 by omega) (Nat.pow_le_pow_right (by omega) (by omega)))
    simp [this]
  ·simp [hj]
 rw [this]
 omega
theorem sGet_in {bs:List Int} (a n:Int) (h:∀z∈bs,0≤z∧z≤255) (k:Nat):0≤(sGet bs a n).getD k 0∧(sGet bs a n).getD k 0≤255:=by
 have hs:∀z∈sGet bs a n,z∈bs:=by
  intro z hz
  unfold sGet at hz
  split at hz
  ·exact List.mem_of_mem_drop (List.mem_of_mem_take hz)
  ·simp at hz
 rw [List.getD_eq_getElem?_getD]
 rcases Nat.lt_or_ge k (sGet bs a n).length with hk | hk
 ·rw [List.getElem?_eq_getElem hk]
  exact h _ (hs _ (List.getElem_mem hk))
 ·rw [List.getElem?_eq_none hk];simp
def scn (bs ks:List Int) (key a b:Int):Nat→Nat→Int×Option (Nat×Int)
 | 0,_=>(0,none)
 | m+1,k=>if sCode (alF key) bs.length ks (a+(k:Int)) 1=0 then
   (if sCode (alF key) bs.length ks (b+(sGet bs (a+(k:Int)) 1).getD 0 0) 1=0 then
    (if (sGet bs (b+(sGet bs (a+(k:Int)) 1).getD 0 0) 1).getD 0 0=0 then scn bs ks key a b m (k+1) else (0,some (k,(sGet bs (b+(sGet bs (a+(k:Int)) 1).getD 0 0) 1).getD 0 0)))
    else (sCode (alF key) bs.length ks (b+(sGet bs (a+(k:Int)) 1).getD 0 0) 1,none))
   else (sCode (alF key) bs.length ks (a+(k:Int)) 1,none)
def scnR (os rs:List Int) (a:Int):Option (Nat×Int)→List Int
 | none=>rs
 | some (k,f)=>(rs.set 1 (os.getD 1 0 / 16777216*16777216+(a+(k:Int)))).set 2 (os.getD 2 0 / 256*256+f)
def scnQ (N:Nat):Option (Nat×Int)→Int
 | none=>0
 | some (k,_)=>if k+1=N then 2 else 1
theorem set7_key {ps:List Value} {v:Value}:(ps.set 7 v).getD 1 undef=ps.getD 1 undef:=by simp [List.getD_eq_getElem?_getD,List.getElem?_set]
theorem trt_m (g N:Nat) (F:Foot) (is os rs:List Int) (ps:List Value) (ov:Bool) (bs ks:List Int) (key a b:Int) (w:World) (h:MS w g F is os rs ps ov bs ks) (hl:is.getD 9 0+1=(N:Int)) (hN:N≤256) (hkey:ps.getD 1 undef=.int .i64 key) (hfir:∀W,MS W g F is os rs ps ov bs ks→Calls Tryz.prog 119 #[.pointer (some ⟨g,0,none⟩)] W fun e w'=>e=.returned (.int .i64 a)∧Ch W w' []) (hsec:∀W,MS W g F is os rs ps ov bs ks→Calls Tryz.prog 74 #[.pointer (some ⟨g,0,none⟩)] W fun e w'=>e=.returned (.int .i64 b)∧Ch W w' []) (ha0:0≤a) (ha1:a≤16777215) (hb0:0≤b) (hb1:b≤16777215) (hN1:1≤N) (hbs:bs.length≤16777216) (ro:∀z∈os,0≤z∧z≤4294967295) (hrange:∀z∈bs,0≤z∧z≤255) (c:Int) (o:Option (Nat×Int)) (hc:scn bs ks key a b N 0=(c,o)):Calls Tryz.prog 131 #[.pointer (some ⟨g,0,none⟩)] w fun e w'=>(c=0→e=.returned (.tuple #[])∧MS w' g F is os (scnR os rs a o) (ps.set 7 (.int .i64 (scnQ N o))) ov bs ks)∧(c≠0→e=.panicked [{ v:=.iface 124 (.int .i64 c),recovered:=false }]∧MS w' g F is os rs (ps.set 7 (.int .i64 0)) ov bs ks)∧Ch w w' [g]:=by
 obtain ⟨l1,hl1⟩:∃l,is.getD 9 0=l:=⟨_,rfl⟩
 rw [hl1] at hl
 have HM:=lh h
 have HL:=lh hl1
 have HK:=lh (show (ps.set 7 (.int .i64 0)).getD 1 undef=.int .i64 key from by rw [set7_key];exact hkey)
 have FC:=lh hfir
 have SC:=lh hsec
 have D0:=lh (Ch.refl w ([]:List Nat))
 have HC:=lh hc
 have HBS:=lh hbs
 have HRG:=lh hrange
 have rv1:=getD_in ro 1
 have rv2:=getD_in ro 2
 obtain ⟨v1,hv1⟩:∃v,os.getD 1 0=v:=⟨_,rfl⟩
 obtain ⟨v2,hv2⟩:∃v,os.getD 2 0=v:=⟨_,rfl⟩
 rw [hv1] at rv1
 rw [hv2] at rv2
 have HV1:=lh hv1
 have HV2:=lh hv2
 have an1:=u32_hi24 v1 rv1.1 rv1.2
 have an2:=u32_hi8 v2 rv2.1 rv2.2
 obtain ⟨R,hR⟩:∃R:Ending→World→Prop,R=fun e w'=>(c=0→e=.returned (.tuple #[])∧MS w' g F is os (scnR os rs a o) (ps.set 7 (.int .i64 (scnQ N o))) ov bs ks)∧(c≠0→e=.panicked [{ v:=.iface 124 (.int .i64 c),recovered:=false }]∧MS w' g F is os rs (ps.set 7 (.int .i64 0)) ov bs ks)∧Ch w w' [g]:=⟨_,rfl⟩
 suffices hs:Calls Tryz.prog 131 #[.pointer (some ⟨g,0,none⟩)] w R by rw [hR] at hs;exact hs
 have HR:=lh hR
 clear h hkey hfir hsec hl1 hc hR ro hbs hrange hv1 hv2
 go_enter Tryz.func131,Tryz.ntmps131
 go_wp2_with (go_at_call 119;refine (FC.out _ HM.out).mono ?_;rintro e w1 ⟨rfl,hcs⟩;have M1:=lh (HM.out.ch hcs);have C1:=lh (D0.out.trans hcs);clear hcs)
 refine (SC.out _ M1.out).mono ?_
 rintro e w2 ⟨rfl,hcs⟩
 have M2:=lh (M1.out.ch hcs)
 have C2:=lh (C1.out.trans hcs)
 have c7:=M2.out.m.cp (n:=7) (by omega)
 have f7:=M2.out.m.free 51
 clear hcs
 go_upto_region 3 with fail
 have M5:=lh (M2.out.setp (n:=7) (by omega) (.int .i64 0))
 have C5:=lh (show Ch w (w2.setCell ⟨g,51,none⟩ (.int .i64 0)) [g] from (C2.out.mono (by simp)).setCell (by simp) _)
 obtain ⟨W5,hW5⟩:∃W5,w2.setCell ⟨g,51,none⟩ (.int .i64 0)=W5:=⟨_,rfl⟩
 rw [show (⟨g,44+7,none⟩:Addr)=⟨g,51,none⟩ from rfl,hW5] at M5
 rw [hW5] at C5
 try rw [hW5]
 clear hW5 c7 f7 M1 M2 C1 C2 HM D0
 go_loopw [4] (fun x W=>∃k:Nat,k≤N∧x=.int .i64 (k:Int)∧scn bs ks key a b (N - k) k=(c,o)∧MS W g F is os rs (ps.set 7 (.int .i64 0)) ov bs ks∧Ch w W [g]) (fun x _=>N - (intOf x).toNat)
 case atStart=>exact ⟨0,by omega,rfl,HC.out,M5.out,C5.out⟩
 case round=>
  obtain ⟨k,hk,rfl,hsn,hmw,hcw⟩:=hrel
  have MW:=lh hmw
  have CW:=lh hcw
  have c9:=hmw.m.ci (c:=9) (by omega)
  rw [HL.out] at c9
  clear hmw hcw
  by_cases hlt:k<N
  ·have i0:(k:Int)≤l1:=by omega
   have wk:IntKind.i64.wrap (a+(k:Int))=a+(k:Int):=wrap_i64_id (by omega) (by omega)
   rw [show N - k=(N - (k+1))+1 by omega] at hsn
   simp only [scn] at hsn
   by_cases h1:sCode (alF key) bs.length ks (a+(k:Int)) 1=0
   ·rw [if_pos h1] at hsn
    have HS1:=lh h1
    have hl1':=sGet_leng h1
    have hrA:=sGet_in (a+(k:Int)) 1 HRG.out 0
    have hak:a+(k:Int)<16777216:=by
     obtain ⟨-,-,-,q3⟩:=sIn_yes (sCode_zero h1)
     have:=HBS.out
     omega
    obtain ⟨zA,hzA⟩:∃z,sGet bs (a+(k:Int)) 1=z:=⟨_,rfl⟩
    rw [hzA] at hl1' hsn hrA
    obtain ⟨x,hx⟩:∃x,zA.getD 0 0=x:=⟨_,rfl⟩
    rw [hx] at hsn hrA
    have HZ1:=lh hzA
    have HY1:=lh hx
    have HL1:=lh hl1'
    obtain ⟨x0,x1⟩:=hrA
    have wx:IntKind.i64.wrap x=x:=wrap_i64_id (by omega) (by omega)
    obtain ⟨t,ht⟩:∃t,b+x=t:=⟨_,rfl⟩
    have wt:IntKind.i64.wrap (b+x)=t:=by rw [wrap_i64_id (by omega) (by omega)];exact ht
    rw [ht] at hsn
    have FET1:=lh (fun (W:World) (hM:MS W g F is os rs (ps.set 7 (.int .i64 0)) ov bs ks)=>fetch_m g F is os rs (ps.set 7 (.int .i64 0)) ov bs ks (a+(k:Int)) 1 key W hM HK.out HS1.out)
    clear h1 hzA hx hl1'
    by_cases h2:sCode (alF key) bs.length ks t 1=0
    ·rw [if_pos h2] at hsn
     have HS2:=lh h2
     have hl2':=sGet_leng h2
     have hrB:=sGet_in t 1 HRG.out 0
     obtain ⟨zB,hzB⟩:∃z,sGet bs t 1=z:=⟨_,rfl⟩
     rw [hzB] at hl2' hsn hrB
     obtain ⟨y,hy⟩:∃y,zB.getD 0 0=y:=⟨_,rfl⟩
     rw [hy] at hsn hrB
     obtain ⟨y0,y1⟩:=hrB
     have HZ2:=lh hzB
     have HY2:=lh hy
     have HL2:=lh hl2'
     have FET2:=lh (fun (W:World) (hM:MS W g F is os rs (ps.set 7 (.int .i64 0)) ov bs ks)=>fetch_m g F is os rs (ps.set 7 (.int .i64 0)) ov bs ks t 1 key W hM HK.out HS2.out)
     clear h2 hzB hy hl2'
     by_cases hy0:y=0
     ·rw [if_pos hy0] at hsn
      have HSN:=lh (show scn bs ks key a b (N - (k+1)) (k+1)=(c,o) from hsn)
      have e1:(y == 0)=true:=by simpa using hy0
      clear hy0 hsn
      go_wp2_with fail
      refine (FET1.out _ MW.out).mono ?_
      rintro e wb1 ⟨A,mm,cb,rfl,hO,hM,hCh⟩;rw [HZ1.out] at hO;have MF1:=lh hM;have CF1:=lh (CW.out.trans (hCh.mono (by simp)));have hml:mm=1:=(by have:=hO.byt.1;have:=HL1.out;omega);subst hml;obtain ⟨gb,cb',hv,hgb,hgl,-,-⟩:=hO.pos (by omega);injection hv with hv1 hv2 hv3;subst hv1 hv3;obtain ⟨gb',ob',e',hcell⟩:=hO.byt.at_ (by omega);cases e';have yc':=hcell 0 (by omega);rw [HY1.out] at yc';have yc1:wb1.cell? ⟨gb,0,none⟩=some (.int .u8 x):=(by exact yc');clear hO hM hCh hgb hgl hcell yc'
      go_wp2_with fail
      refine (FET2.out _ MF1.out).mono ?_
      rintro e wb2 ⟨A,mm,cb,rfl,hO,hM,hCh⟩;rw [HZ2.out] at hO;have MF2:=lh hM;have CF2:=lh (CF1.out.trans (hCh.mono (by simp)));have hml:mm=1:=(by have:=hO.byt.1;have:=HL2.out;omega);subst hml;obtain ⟨gb,cb',hv,hgb,hgl,-,-⟩:=hO.pos (by omega);injection hv with hv1 hv2 hv3;subst hv1 hv3;obtain ⟨gb',ob',e',hcell⟩:=hO.byt.at_ (by omega);cases e';have yc':=hcell 0 (by omega);rw [HY2.out] at yc';have yc2:wb2.cell? ⟨gb,0,none⟩=some (.int .u8 y):=(by exact yc');clear hO hM hCh hgb hgl hcell yc'
      go_wp2
      exact ⟨⟨k+1,by omega,rfl,HSN.out,MF2.out,CF2.out⟩,by simp [intOf];omega⟩
     ·rw [if_neg hy0] at hsn
      have e1:(y == 0)=false:=by simpa using hy0
      have HSN:=lh hsn
      have ww:IntKind.u32.wrap (a+(k:Int))=a+(k:Int):=by rw [IntKind.wrap_u32];omega
      have wy:IntKind.u32.wrap y=y:=by rw [IntKind.wrap_u32];omega
      have or1:bits .or .u32 (v1 / 16777216*16777216) (a+(k:Int))=v1 / 16777216*16777216+(a+(k:Int)):=or_32 24 (v1 / 16777216*16777216) (a+(k:Int)) 16777216 (by rfl) (by omega) (by omega) (by omega) (by omega) (by omega) (by omega)
      have or2:bits .or .u32 (v2 / 256*256) y=v2 / 256*256+y:=or_32 8 (v2 / 256*256) y 256 (by rfl) (by omega) (by omega) (by omega) (by omega) (by omega) (by omega)
      clear hy0 hsn
      go_wp2_with fail
      refine (FET1.out _ MW.out).mono ?_
      rintro e wb1 ⟨A,mm,cb,rfl,hO,hM,hCh⟩;rw [HZ1.out] at hO;have MF1:=lh hM;have CF1:=lh (CW.out.trans (hCh.mono (by simp)));have hml:mm=1:=(by have:=hO.byt.1;have:=HL1.out;omega);subst hml;obtain ⟨gb,cb',hv,hgb,hgl,-,-⟩:=hO.pos (by omega);injection hv with hv1 hv2 hv3;subst hv1 hv3;obtain ⟨gb',ob',e',hcell⟩:=hO.byt.at_ (by omega);cases e';have yc':=hcell 0 (by omega);rw [HY1.out] at yc';have yc1:wb1.cell? ⟨gb,0,none⟩=some (.int .u8 x):=(by exact yc');clear hO hM hCh hgb hgl hcell yc'
      go_wp2_with fail
      refine (FET2.out _ MF1.out).mono ?_
      rintro e wb2 ⟨A,mm,cb,rfl,hO,hM,hCh⟩;rw [HZ2.out] at hO;have MF2:=lh hM;have CF2:=lh (CF1.out.trans (hCh.mono (by simp)));have hml:mm=1:=(by have:=hO.byt.1;have:=HL2.out;omega);subst hml;obtain ⟨gb,cb',hv,hgb,hgl,-,-⟩:=hO.pos (by omega);injection hv with hv1 hv2 hv3;subst hv1 hv3;obtain ⟨gb',ob',e',hcell⟩:=hO.byt.at_ (by omega);cases e';have yc':=hcell 0 (by omega);rw [HY2.out] at yc';have yc2:wb2.cell? ⟨gb,0,none⟩=some (.int .u8 y):=(by exact yc');clear hO hM hCh hgb hgl hcell yc'
      have d1:=MF2.out.m.co (n:=1) (by omega)
      rw [HV1.out] at d1
      have d2:=MF2.out.m.co (n:=2) (by omega)
      rw [HV2.out] at d2
      have d3:=MF2.out.m.cr (n:=1) (by omega)
      have d4:=MF2.out.m.free 29
      have d5:=MF2.out.m.cr (n:=2) (by omega)
      have d6:=MF2.out.m.free 30
      have d7:=MF2.out.m.cp (n:=7) (by omega)
      have d8:=MF2.out.m.free 51
      have d9:=MF2.out.m.ci (c:=9) (by omega)
      rw [HL.out] at d9
      go_upto_region 7 with fail
      go_region
      go_upto_region 8 with fail
      go_region
      try simp only [an1,an2,ww,wy,or1,or2]
      by_cases hkN:(k:Int)=l1
      ·have e2:((k:Int) == l1)=true:=by simpa using hkN
       have HQ:=lh (show k+1=N by omega)
       clear hkN
       go_wp2
       first | go_end0 | refine bodyPost_ret (results_none rfl _ _ _) rfl ?_
       rw [HR.out]
       have e:=HSN.out
       injection e with ec eo
       subst ec eo
       refine ⟨fun _=>⟨rfl,?_⟩,fun h=>absurd rfl h,((((CF2.out.setCell (by simp) _).setCell (by simp) _).setCell (by simp) _).setCell (by simp) _).drewN 2⟩
       simp only [scnR,scnQ,HV1.out,HV2.out]
       rw [if_pos HQ.out]
       have hM:=(((((MF2.out.setr (n:=1) (by omega) (v1 / 16777216*16777216+(a+(k:Int)))).setr (n:=2) (by omega) (v2 / 256*256+y)).setp (n:=7) (by omega) (.int .i64 1))).setp (n:=7) (by omega) (.int .i64 2)).drewN 2
       rw [List.set_set,List.set_set] at hM
       exact hM
      ·have e2:((k:Int) == l1)=false:=by simpa using hkN
       have HQ:=lh (show ¬ k+1=N by omega)
       clear hkN
       go_wp2
       first | go_end0 | refine bodyPost_ret (results_none rfl _ _ _) rfl ?_
       rw [HR.out]
       have e:=HSN.out
       injection e with ec eo
       subst ec eo
       refine ⟨fun _=>⟨rfl,?_⟩,fun h=>absurd rfl h,(((CF2.out.setCell (by simp) _).setCell (by simp) _).setCell (by simp) _).drewN 2⟩
       simp only [scnR,scnQ,HV1.out,HV2.out]
       rw [if_neg HQ.out]
       have hM:=((((MF2.out.setr (n:=1) (by omega) (v1 / 16777216*16777216+(a+(k:Int)))).setr (n:=2) (by omega) (v2 / 256*256+y)).setp (n:=7) (by omega) (.int .i64 1))).drewN 2
       rw [List.set_set] at hM
       exact hM
    ·rw [if_neg h2] at hsn
     have HS2:=lh h2
     have HCE:=lh (show sCode (alF key) bs.length ks t 1=c from congrArg Prod.fst hsn)
     have HC0:=lh (show c≠0 from by rw [← HCE.out];exact h2)
     clear h2 hsn
     go_wp2_with fail
     refine (FET1.out _ MW.out).mono ?_
     rintro e wb1 ⟨A,mm,cb,rfl,hO,hM,hCh⟩;rw [HZ1.out] at hO;have MF1:=lh hM;have CF1:=lh (CW.out.trans (hCh.mono (by simp)));have hml:mm=1:=(by have:=hO.byt.1;have:=HL1.out;omega);subst hml;obtain ⟨gb,cb',hv,hgb,hgl,-,-⟩:=hO.pos (by omega);injection hv with hv1 hv2 hv3;subst hv1 hv3;obtain ⟨gb',ob',e',hcell⟩:=hO.byt.at_ (by omega);cases e';have yc':=hcell 0 (by omega);rw [HY1.out] at yc';have yc1:wb1.cell? ⟨gb,0,none⟩=some (.int .u8 x):=(by exact yc');clear hO hM hCh hgb hgl hcell yc'
     go_wp2_with fail
     refine (fetch_no g F is os rs (ps.set 7 (.int .i64 0)) ov bs ks t 1 key _ MF1.out HK.out c HCE.out HC0.out).mono ?_
     rintro e w9 ⟨rfl,hM,hCh⟩
     have M9:=lh hM
     have C9:=lh (CF1.out.trans (hCh.mono (by simp)))
     clear hM hCh
     go_wp2
     refine ⟨rfl,?_⟩
     rw [HR.out]
     exact ⟨fun h=>absurd h HC0.out,fun _=>⟨rfl,M9.out⟩,C9.out⟩
   ·rw [if_neg h1] at hsn
    have HCE:=lh (show sCode (alF key) bs.length ks (a+(k:Int)) 1=c from congrArg Prod.fst hsn)
    have HC0:=lh (show c≠0 from by rw [← HCE.out];exact h1)
    clear h1 hsn
    go_wp2_with (go_at_call 116;refine (fetch_no g F is os rs (ps.set 7 (.int .i64 0)) ov bs ks (a+(k:Int)) 1 key _ MW.out HK.out c HCE.out HC0.out).mono ?_;rintro e w9 ⟨rfl,hM,hCh⟩;have M9:=lh hM;have C9:=lh (CW.out.trans (hCh.mono (by simp)));clear hM hCh)
    refine ⟨rfl,?_⟩
    rw [HR.out]
    exact ⟨fun h=>absurd h HC0.out,fun _=>⟨rfl,M9.out⟩,C9.out⟩
  ·obtain rfl:k=N:=by omega
   have hI:¬(k:Int)≤l1:=by omega
   rw [Nat.sub_self] at hsn
   have HSN:=lh (show ((0:Int),(none:Option (Nat×Int)))=(c,o) from hsn)
   clear hsn
   go_wp2
   first | go_end0 | refine bodyPost_ret (results_none rfl _ _ _) rfl ?_
   rw [HR.out]
   have e:=HSN.out
   injection e with ec eo
   subst ec eo
   exact ⟨fun _=>⟨rfl,MW.out⟩,fun h=>absurd rfl h,CW.out⟩
def lmR (rs:List Int) (n:Nat) (zs:List Int):Nat→List Int
 | 0=>rs
 | k+1=>(lmR rs n zs k).set ((n+k) % 16) (flv (zs.getD (4*k) 0) (zs.getD (4*k+1) 0) (zs.getD (4*k+2) 0) (zs.getD (4*k+3) 0))
theorem branch_c (mask cc:Int) (hmask:-9223372036854775808≤mask) (hmask':mask≤9223372036854775807) (hcc:-9223372036854775808≤cc) (hcc':cc≤9223372036854775807) (w:World):Calls Tryz.prog 102 #[.int .i64 mask,.int .i64 cc] w fun e w'=>e=.returned (.bool (pbr mask cc))∧w=w':=by
 have f0:=andNot_in 4 15 mask rfl (by omega) hmask hmask'
 have f1:=andNot_in 2 3 cc rfl (by omega) hcc hcc'
 cases t:inr mask 15
 ·have hr:=lh (show pbr mask cc=false from by simp [pbr,t])
  rw [t] at f0
  clear f1 t
  go_enter Tryz.func102,Tryz.ntmps102
  go_wp2
  go_ret
  exact ⟨by rw [hr.out];rfl,rfl⟩
 ·have m0:=(inr_yes t).1
  have m1:=(inr_yes t).2
  cases u:inr cc 3
  ·have hr:=lh (show pbr mask cc=false from by simp [pbr,t,u])
   rw [t] at f0
   rw [u] at f1
   clear t u
   go_enter Tryz.func102,Tryz.ntmps102
   go_wp2
   go_ret
   exact ⟨by rw [hr.out];rfl,rfl⟩
  ·rw [t] at f0
   have c0:=(inr_yes u).1
   have c1:=(inr_yes u).2
   obtain rfl | rfl | rfl | rfl:cc=0∨cc=1∨cc=2∨cc=3:=by omega
   ·have hr:=lh (show (bits .and .i64 mask 8 != 0)=pbr mask 0 from by rw [i64_bit 3 8 mask rfl (by omega) m0 (by omega)];simp [pbr,t];first | rfl | (show _=(decide _ && decide _);simp) | simp [inr])
    have f1:(bits .andNot .i64 0 3 == 0)=true:=by decide
    clear t u c0 c1
    go_enter Tryz.func102,Tryz.ntmps102
    go_wp2
    go_ret
    exact ⟨by rw [← hr.out];rfl,rfl⟩
   ·have hr:=lh (show (bits .and .i64 mask 4 != 0)=pbr mask 1 from by rw [i64_bit 2 4 mask rfl (by omega) m0 (by omega)];simp [pbr,t];first | rfl | (show _=(decide _ && decide _);simp) | simp [inr])
    have f1:(bits .andNot .i64 1 3 == 0)=true:=by decide
    clear t u c0 c1
    go_enter Tryz.func102,Tryz.ntmps102
    go_wp2
    go_ret
    exact ⟨by rw [← hr.out];rfl,rfl⟩
   ·have hr:=lh (show (bits .and .i64 mask 2 != 0)=pbr mask 2 from by rw [i64_bit 1 2 mask rfl (by omega) m0 (by omega)];simp [pbr,t];first | rfl | (show _=(decide _ && decide _);simp) | simp [inr])
    have f1:(bits .andNot .i64 2 3 == 0)=true:=by decide
    clear t u c0 c1
    go_enter Tryz.func102,Tryz.ntmps102
    go_wp2
    go_ret
    exact ⟨by rw [← hr.out];rfl,rfl⟩
   ·have hr:=lh (show (bits .and .i64 mask 1 != 0)=pbr mask 3 from by rw [i64_bit 0 1 mask rfl (by omega) m0 (by omega)];simp [pbr,t];first | rfl | (show _=(decide _ && decide _);simp) | simp [inr])
    have f1:(bits .andNot .i64 3 3 == 0)=true:=by decide
    clear t u c0 c1
    go_enter Tryz.func102,Tryz.ntmps102
    go_wp2
    go_ret
    exact ⟨by rw [← hr.out];rfl,rfl⟩
theorem program_c (g code:Int) (hg:0≤g) (hg':g≤15) (w:World):Calls Tryz.prog 46 #[.int .i64 g,.int .i64 code] w fun e w'=>e=.returned (.bool (pprog g code))∧w=w':=by
 by_cases h8:code=8
 ·subst h8
  have hr:=lh (show (bits .and .i64 g 8 != 0)=pprog g 8 from by rw [i64_bit 3 8 g rfl (by omega) hg (by omega)];simp [pprog])
  go_enter Tryz.func46,Tryz.ntmps46
  go_wp2
  go_ret
  exact ⟨by rw [← hr.out];rfl,rfl⟩
 ·by_cases h10:code=10
  ·subst h10
   have hr:=lh (show (bits .and .i64 g 4 != 0)=pprog g 10 from by rw [i64_bit 2 4 g rfl (by omega) hg (by omega)];simp [pprog])
   go_enter Tryz.func46,Tryz.ntmps46
   go_wp2
   go_ret
   exact ⟨by rw [← hr.out];rfl,rfl⟩
  ·have e8:(code == 8)=false:=by simpa using h8
   have e10:(code == 10)=false:=by simpa using h10
   by_cases h1:1≤code
   ·by_cases h11:code≤11
    ·have hr:=lh (show pprog g code=true from by simp [pprog,h8,h10,h1,h11])
     clear h8 h10
     go_enter Tryz.func46,Tryz.ntmps46
     go_wp2
     go_ret
     exact ⟨by rw [hr.out];rfl,rfl⟩
    ·have hr:=lh (show pprog g code=false from by simp [pprog,h8,h10,h11];try omega)
     clear h8 h10
     go_enter Tryz.func46,Tryz.ntmps46
     go_wp2
     go_ret
     exact ⟨by rw [hr.out];rfl,rfl⟩
   ·have hr:=lh (show pprog g code=false from by simp [pprog,h8,h10];try omega)
    clear h8 h10
    go_enter Tryz.func46,Tryz.ntmps46
    go_wp2
    go_ret
    exact ⟨by rw [hr.out];rfl,rfl⟩
theorem u32_low (n:Nat) (m a:Int) (hm:m=((2 ^ n - 1:Nat):Int)) (hn:n≤31) (h0:0≤a) (h1:a≤4294967295):bits .and .u32 a m=a % ((2 ^ n:Nat):Int):=by
 have hle:2 ^ n≤2 ^ 31:=Nat.pow_le_pow_right (by omega) hn
 have hpos:0<2 ^ n:=Nat.two_pow_pos n
 rw [u32_and a m h0 (by omega) (by omega) (by omega),hm,Int.toNat_natCast,Nat.and_two_pow_sub_one_eq_mod]
 obtain ⟨k,rfl⟩:=Int.eq_ofNat_of_zero_le h0
 simp
end Go.Proofs.YtljajnaclpbecaaGreatDoor
