/- Contracts and laws on the way to the statement, text 1 of 22. Conditions: as each states them. -/
import Derived.Test.YtljajnaclpbecaaGreatDoorRows
import Derived.WalkKit
import Derived.ProofKit
import Derived.OpenShut
import Derived.ShutString
import Derived.ChangeOld
import Derived.Below
import Derived.Carry
import Derived.Deep.Slices
import Derived.Deep.Fields
import Derived.ChangeSame
import Derived.Deep.Draws
import Derived.Test.YtljajnaclpbecaaGreatDoorProg
import Derived.Deep.RegionHeld3
import Derived.Lib.Hide
import Derived.Laws.BitsAllLaws
import Derived.Laws.AppendOwn
import Derived.Laws.AppendOwnNone
import Derived.Laws.OwnMore
import Derived.Laws.CopyOwn
import Derived.OwnWalk
import Derived.KernelRfl
import Derived.Outline
import Derived.Handy
import Derived.BigQuiet
import Derived.Deep.CutRange
import Derived.RegionTactic
import Derived.Deep.QuietTactic
import Derived.RangeFuncNested
import Derived.RangeFuncBound
import Derived.RangeFuncCalls
import Derived.RangeFuncLeaves
import Derived.Shelf.Abstract
import Derived.Shelf.RegionOpen
import Derived.OwnWalkIn
import Derived.TacticsInMore
import Derived.LoopNIn
import Derived.LoopIn
import Derived.Laws.EntriesVeiled
namespace Go.Proofs.YtljajnaclpbecaaGreatDoor
theorem lh {p:Prop} (h:p):Go.RowKit.Hid p:=h
end Go.Proofs.YtljajnaclpbecaaGreatDoor
namespace Go.Proofs.YtljajnaclpbecaaGreatDoor
set_option maxRecDepth 1000000
set_option maxHeartbeats 8000000
open Go.ChangeShapes Go.WideShapes Go.ChangeAt Go.RowKit Go.Deep
open Go.ChangeMaps (open_string shut_string)
theorem own:ownKnob Tryz.prog.godebug=none:=by kernel_rfl
theorem laidOut:laidOutB Tryz.prog=true:=by kernel_rfl
def IsRow (k:IntKind) (w:World) (a:Option Addr) (len cap:Nat) (zs:List Int):Prop:=
 (a=none∧len=0∧cap=0∧zs=[]) ∨
 ∃x,a=some x∧len≤cap∧cap≤maxLen∧zs.length=cap∧(∀i,i<zs.length→w.cell? (x.add i)=some (.int k (zs.getD i 0)))∧∀n∈zs,(Lit.int k n).wf=true
section
variable {H:Type} {enc:TypeId×Value→H} {P:Program} {w:World} {base:Nat} {spare:Nat→Bool} {held:Bool}
theorem open_row {t e:TypeId} {k:IntKind} {a:Option Addr} {len cap:Nat} {d:DataW H} {p:List MemPlace} (ht:P.underlying t=some (.slice e)) (he:P.underlying e=some (.int k)) (hC:P.cellsOf e=1)
  (h:DataW.Trod enc P w 0 (fun _=>true) true t (.slice a len cap) d p):∃zs,IsRow k w a len cap zs:=by
 obtain ⟨fuel,hf⟩:=h
 rcases open_ints ht he hC hf with ⟨hcs,_⟩ | ⟨x,l,c,zs,hcs,_,hl,hm,hz,hx,hcell,hwz⟩
 ·simp [Value.cells] at hcs
  obtain ⟨rfl,rfl,rfl⟩:=hcs
  exact ⟨[],.inl ⟨rfl,rfl,rfl,rfl⟩⟩
 ·simp [Value.cells] at hcs
  obtain ⟨rfl,rfl,rfl⟩:=hcs
  exact ⟨zs,.inr ⟨_,rfl,hl,hm,by simpa using hz,hcell,hwz⟩⟩
end
end Go.Proofs.YtljajnaclpbecaaGreatDoor
namespace Go.Proofs.YtljajnaclpbecaaGreatDoor
open Go.RowKit
set_option maxRecDepth 1000000
set_option maxHeartbeats 8000000
set_option linter.unusedVariables false
set_option linter.unusedSimpArgs false
theorem takeL {P:Program} {L:List Oper} {Q:Exit→Act→World→Prop} {md:Region.Mode} {S:World→Prop} {i:Nat} {oi:Oper} {v:Value} {fuel:Nat} {listed:Array Bool} {a:Act} {w:World} (hi:L[i]?=some oi)
  (hs:Region.noSelect L.toArray=true) (hf:Region.free md L.toArray listed i=true) (hr:(Region.ready md L.toArray listed).contains i=true)
  (hQ:∀c a w,Q (.panic c) (a.put oi.dst v) w→Q (.panic c) a w) (hy:YieldsIf P L.toArray S oi v a) (hS:S w)
  (h:wpAnyH P md L.toArray Q S fuel (listed.setIfInBounds i true) (a.put oi.dst v) w):wpAnyH P md L.toArray Q S (fuel+1) listed a w:=wpAnyH_take (by simpa using hi) hs hf hr hQ hy hS h
theorem consL {P:Program} {L:List Oper} {Q:Exit→Act→World→Prop} {md:Region.Mode} {S:World→Prop} {fuel:Nat} {listed:Array Bool} {a:Act} {w:World} {i:Nat} {o:Oper} {rs:List Nat} (ho:L[i]?=some o)
  (h:∀K':Act→World→Prop,Shut (∀a w,S w→(S w→wpAnyH P md L.toArray Q S fuel (listed.setIfInBounds i true) a w)→K' a w)→if Region.wanted o (yielded L.toArray a.tmps)=true then Oper.wp P o a w K' Q else K' (a.put o.dst undef) w)
  (hs:AllReadyH P md L.toArray Q S fuel listed a w rs):AllReadyH P md L.toArray Q S fuel listed a w (i :: rs):=AllReadyH.cons (by simpa using ho) h hs
def still:Op→Bool
 | .call _ | .store _ _ _ | .alloc _ | .box _ _ | .build _ _ | .buildSlice _ _ _ | .makeSlice _ _ _=>false
 | _=>true
def nxt (md:Region.Mode) (L:List Oper) (listed:Array Bool):Option Nat:=(Region.ready md L.toArray listed).find? fun i=>(L[i]?.elim false fun o=>still o.op) && Region.free md L.toArray listed i
theorem nxt_spec {md:Region.Mode} {L:List Oper} {listed:Array Bool} {i:Nat} (h:nxt md L listed=some i):Region.free md L.toArray listed i=true∧(Region.ready md L.toArray listed).contains i=true:=
 ⟨(Bool.and_eq_true _ _▸List.find?_some h:_∧_).2,by simpa using List.mem_of_find?_eq_some h⟩
section
variable {P:Program} {L:List Oper} {Q:Exit→Act→World→Prop} {md:Region.Mode} {S:World→Prop} {i:Nat} {v:Value} {oi:Oper} {fuel:Nat} {listed:Array Bool} {a:Act} {w:World} {X:Prop}
theorem tkn (h:X) (hn:nxt md L listed=some i:=by with_unfolding_all rfl) (hi:L[i]?=some oi:=by rfl)
  (hw:Region.wanted oi (yielded L.toArray a.tmps)=true:=by rfl) (y:∀w,S w→(execOp a.eval oi).run P w=.ok (.value v) w:=by (intro w hSw;(try dsimp only at hSw);go_simp;(try with_reducible rfl)))
  (hP:wpAnyH P md L.toArray Q S fuel (listed.setIfInBounds i true) (a.put oi.dst v) w=X:=by (simp only [Act.put,List.setIfInBounds_toArray,List.set_cons_zero,List.set_cons_succ];try rfl))
  (hs:Region.noSelect L.toArray=true:=by kernel_rfl)
  (hQ:∀c a w,Q (.panic c) (a.put oi.dst v) w→Q (.panic c) a w:=by exact fun _ _ _ h=>h) (hS:S w:=by assumption):wpAnyH P md L.toArray Q S (fuel+1) listed a w:=takeL hi hs (nxt_spec hn).1 (nxt_spec hn).2 hQ (.inl ⟨hw,y⟩) hS (hP▸h)
theorem tkc {f:FuncId} {args:Array Value} {R:World→Prop} {X:World→Prop} (hc:Calls P f args w fun e w'=>e=.returned v∧R w') (hRS:∀w',R w'→S w') (h:∀w',Hid (R w')→S w'→X w') (hr:Region.ready md L.toArray listed=[i]:=by with_unfolding_all rfl) (hi:L[i]?=some oi:=by rfl)
  (hw:Region.wanted oi (yielded L.toArray a.tmps)=true:=by rfl) (hx:(execOp a.eval oi).run P w=.ok (.enter f args) w:=by (go_simp;(try with_reducible rfl)))
  (hP:∀w',wpAnyH P md L.toArray Q S fuel (listed.setIfInBounds i true) (a.put oi.dst v) w'=X w':=by (intro w';simp only [Act.put,List.setIfInBounds_toArray,List.set_cons_zero,List.set_cons_succ];try rfl)):wpAnyH P md L.toArray Q S (fuel+1) listed a w:=by
 refine ⟨fun h0=>(by rw [hr] at h0;cases h0),fun j hj=>?_⟩
 rw [hr,List.mem_singleton] at hj
 subst hj
 have hi':L.toArray[j]?=some oi:=by simpa using hi
 unfold wpOp
 simp only [hi',hw,if_true]
 refine .inl ?_
 unfold Oper.wp
 rw [hx]
 refine Calls.mono hc fun e w' he=>?_
 obtain ⟨rfl,hR⟩:=he
 exact ⟨hRS _ hR,(hP w').symm▸h w' (lh hR) (hRS _ hR)⟩
theorem tkce {f:FuncId} {args:Array Value} {R:Value→World→Prop} {X:Value→World→Prop} (hc:Calls P f args w fun e w'=>∃v,e=.returned v∧R v w') (hRS:∀v w',R v w'→S w') (h:∀v w',Hid (R v w')→S w'→X v w') (hr:Region.ready md L.toArray listed=[i]:=by with_unfolding_all rfl) (hi:L[i]?=some oi:=by rfl)
  (hw:Region.wanted oi (yielded L.toArray a.tmps)=true:=by rfl) (hx:(execOp a.eval oi).run P w=.ok (.enter f args) w:=by (go_simp;(try with_reducible rfl)))
  (hP:∀v w',wpAnyH P md L.toArray Q S fuel (listed.setIfInBounds i true) (a.put oi.dst v) w'=X v w':=by (intro v w';simp only [Act.put,List.setIfInBounds_toArray,List.set_cons_zero,List.set_cons_succ];try rfl)):wpAnyH P md L.toArray Q S (fuel+1) listed a w:=by
 refine ⟨fun h0=>(by rw [hr] at h0;cases h0),fun j hj=>?_⟩
 rw [hr,List.mem_singleton] at hj
 subst hj
 have hi':L.toArray[j]?=some oi:=by simpa using hi
 unfold wpOp
 simp only [hi',hw,if_true]
 refine .inl ?_
 unfold Oper.wp
 rw [hx]
 refine Calls.mono hc fun e w' he=>?_
 obtain ⟨v,rfl,hR⟩:=he
 exact ⟨hRS _ _ hR,(hP v w').symm▸h v w' (lh hR) (hRS _ _ hR)⟩
theorem tkw {w1:World} {R:World→Prop} {X:World→Prop} (hR:R w1) (hRS:∀w',R w'→S w') (h:∀w',Hid (R w')→S w'→X w') (hr:Region.ready md L.toArray listed=[i]:=by with_unfolding_all rfl) (hi:L[i]?=some oi:=by rfl)
  (hw:Region.wanted oi (yielded L.toArray a.tmps)=true:=by rfl) (hx:(execOp a.eval oi).run P w=.ok .skip w1:=by (go_simp;(try with_reducible rfl)))
  (hP:∀w',wpAnyH P md L.toArray Q S fuel (listed.setIfInBounds i true) (a.put oi.dst undef) w'=X w':=by (intro w';simp only [Act.put,List.setIfInBounds_toArray,List.set_cons_zero,List.set_cons_succ];try rfl)):wpAnyH P md L.toArray Q S (fuel+1) listed a w:=by
 refine ⟨fun h0=>(by rw [hr] at h0;cases h0),fun j hj=>?_⟩
 rw [hr,List.mem_singleton] at hj
 subst hj
 have hi':L.toArray[j]?=some oi:=by simpa using hi
 unfold wpOp
 simp only [hi',hw,if_true]
 refine .inl ?_
 unfold Oper.wp
 rw [hx]
 exact ⟨hRS _ hR,(hP _).symm▸h _ (lh hR) (hRS _ hR)⟩
end
theorem nx {P:Program} {f:FuncId} {args:Array Value} {w:World} {v:Value} {R:World→Prop} {Q:Ending→World→Prop} (hc:Calls P f args w fun e w'=>e=.returned v∧R w') (h:∀w',Hid (R w')→Q (.returned v) w'):Calls P f args w Q:=hc.mono fun _ w' he=>he.1▸h w' (lh he.2)
def sg (a:Int):Int:=if a<2147483648 then a else a - 4294967296
def sgn (n:Int):Int:=if n=0 then 0 else if n<0 then 1 else 2
def lo32 (n:Int):Int:=n % 4294967296
def ovf (n:Int):Bool:=decide (n < -2147483648∨2147483647<n)
def rcc (n:Int):Int:=if ovf n=true then 3 else sgn n
def lcc (v:Int) (high:Bool):Int:=(if v=0 then 0 else 1)+(if high=true then 2 else 0)
def dbl (hi lo:Int):Int:=hi*4294967296+lo
def sg64 (x:Int):Int:=if x<9223372036854775808 then x else x - 18446744073709551616
def ovf64 (n:Int):Bool:=decide (n < -9223372036854775808∨9223372036854775807<n)
def dok (n d:Int):Bool:=decide (d≠0∧-2147483648≤n.tdiv d∧n.tdiv d≤2147483647)
def dquo (n d:Int):Int:=if dok n d=true then lo32 (n.tdiv d) else 0
def drem (n d:Int):Int:=if dok n d=true then lo32 (n.tmod d) else 0
def plc (n:Int):Nat:=(n % 64).toNat
def slv (v:Int) (p:Nat):Int:=(if v<2147483648 then 0 else 2147483648)+sg v*2 ^ p % 2147483648
def slo (v:Int) (p:Nat):Bool:=ovf (sg v*2 ^ p)
def slc (v:Int) (p:Nat):Int:=if slo v p=true then 3 else sgn (sg (slv v p))
def srv (v:Int) (p:Nat):Int:=lo32 (sg v / 2 ^ p)
def slg (v:Int) (p:Nat) (left:Bool):Int:=if left=true then lo32 (v*2 ^ p) else v / 2 ^ p
def dlv (x:Int) (p:Nat):Int:=(if x<9223372036854775808 then 0 else 9223372036854775808)+sg64 x*2 ^ p % 9223372036854775808
def dlo (x:Int) (p:Nat):Bool:=ovf64 (sg64 x*2 ^ p)
def dlc (x:Int) (p:Nat):Int:=if dlo x p=true then 3 else sgn (sg64 (dlv x p))
def drv (x:Int) (p:Nat):Int:=sg64 x / 2 ^ p % 18446744073709551616
def dlg (x:Int) (p:Nat) (left:Bool):Int:=if left=true then x*2 ^ p % 18446744073709551616 else x / 2 ^ p
theorem sg_lo (a:Int) (h0:0≤a):-2147483648≤sg a:=by unfold sg;split<;>omega
theorem sg_hi (a:Int) (h1:a≤4294967295):sg a≤2147483647:=by unfold sg;split<;>omega
theorem wrap32_sg (a:Int) (h0:0≤a) (h1:a≤4294967295):wrap32 a=sg a:=by unfold wrap32 sg;split<;>omega
theorem lo32_lo (n:Int):0≤lo32 n:=by unfold lo32;omega
theorem lo32_hi (n:Int):lo32 n≤4294967295:=by unfold lo32;omega
theorem lo32_is (n:Int):n % 4294967296=lo32 n:=rfl
theorem lo32_id (n:Int) (h0:0≤n) (h1:n≤4294967295):lo32 n=n:=by unfold lo32;omega
theorem sgn_neg (n:Int) (h:n<0):sgn n=1:=by unfold sgn;rw [if_neg (by omega),if_pos h]
theorem sgn_pos (n:Int) (h:0<n):sgn n=2:=by unfold sgn;rw [if_neg (by omega),if_neg (by omega)]
theorem sg64_lo (a:Int) (h0:0≤a):-9223372036854775808≤sg64 a:=by unfold sg64;split<;>omega
theorem sg64_hi (a:Int) (h1:a≤18446744073709551615):sg64 a≤9223372036854775807:=by unfold sg64;split<;>omega
theorem wrap64_sg (a:Int) (h0:0≤a) (h1:a≤18446744073709551615):wrap64 a=sg64 a:=by unfold wrap64 sg64;split<;>omega
theorem sg64_mod (a:Int) (h0:0≤a) (h1:a≤18446744073709551615):sg64 a % 18446744073709551616=a:=by unfold sg64;split<;>omega
theorem dbl_lo (a b:Int) (ha:0≤a) (hb:0≤b):0≤dbl a b:=by unfold dbl;omega
theorem dbl_hi (a b:Int) (ha:a≤4294967295) (hb:b≤4294967295):dbl a b≤18446744073709551615:=by unfold dbl;omega
theorem plc_hi (n:Int):plc n≤63:=by unfold plc;omega
theorem ovf_iff (n:Int):ovf n=true↔(n < -2147483648∨2147483647<n):=by simp [ovf]
theorem ovf64_iff (n:Int):ovf64 n=true↔(n < -9223372036854775808∨9223372036854775807<n):=by simp [ovf64]
theorem fits_test (n:Int) (h0:-9223372036854775808≤n) (h1:n≤9223372036854775807):(wrap64 (wrap32 n) != n)=ovf n:=by
 rw [Bool.eq_iff_iff,ovf_iff,bne_iff_ne];unfold wrap64 wrap32;omega
theorem rcc_over (n:Int) (h:ovf n=true):rcc n=3:=by simp [rcc,h]
theorem rcc_in (n:Int) (h:ovf n=false):rcc n=sgn n:=by simp [rcc,h]
theorem sg_zero:sg 0=0:=rfl
theorem mul_box (x y A B:Int) (hx0:-A≤x) (hx1:x≤A) (hy0:-B≤y) (hy1:y≤B):-(A*B)≤x*y∧x*y≤A*B:=by
 have hA:0≤A:=by omega
 have hB:0≤B:=by omega
 have h1:0≤(A - x)*(B+y):=Int.mul_nonneg (by omega) (by omega)
 have h2:0≤(A+x)*(B - y):=Int.mul_nonneg (by omega) (by omega)
 have h3:0≤(A - x)*(B - y):=Int.mul_nonneg (by omega) (by omega)
 have h4:0≤(A+x)*(B+y):=Int.mul_nonneg (by omega) (by omega)
 simp only [Int.sub_mul,Int.mul_sub,Int.add_mul,Int.mul_add] at h1 h2 h3 h4
 constructor<;>omega
theorem prod_lo (a b:Int) (ha:0≤a) (ha':a≤4294967295) (hb:0≤b) (hb':b≤4294967295):-4611686018427387904≤sg a*sg b:=by
 have:=(mul_box (sg a) (sg b) 2147483648 2147483648 (sg_lo a ha) (by have:=sg_hi a ha';omega) (sg_lo b hb) (by have:=sg_hi b hb';omega)).1;omega
theorem prod_hi (a b:Int) (ha:0≤a) (ha':a≤4294967295) (hb:0≤b) (hb':b≤4294967295):sg a*sg b≤4611686018427387904:=by
 have:=(mul_box (sg a) (sg b) 2147483648 2147483648 (sg_lo a ha) (by have:=sg_hi a ha';omega) (sg_lo b hb) (by have:=sg_hi b hb';omega)).2;omega
theorem hi_mod (n:Int):lo32 (n % 18446744073709551616 / 4294967296)=lo32 (n / 4294967296):=by unfold lo32;omega
theorem lo_mod (n:Int):lo32 (n % 18446744073709551616)=lo32 n:=by unfold lo32;omega
theorem or_dbl (a b:Int) (ha:0≤a) (ha':a≤4294967295) (hb:0≤b) (hb':b≤4294967295):bits .or .u64 (a*4294967296) b=dbl a b:=by
 rw [u64_or _ _ (by omega) (by omega) (by omega) (by omega),nat_join 32 _ _ (by omega) (by omega)];unfold dbl;omega
theorem and_sign (a:Int) (ha:0≤a) (ha':a≤4294967295):bits .and .u32 a 2147483648=if a<2147483648 then 0 else 2147483648:=by
 rw [u32_and _ _ ha (by omega) (by omega) (by omega)]
 have:=nat_bit 31 a.toNat
 simp only [show (2147483648:Int).toNat=2 ^ 31 from rfl,this]
 split<;>omega
theorem andNot_sign (a:Int) (ha:0≤a) (ha':a≤4294967295):bits .andNot .u32 a 2147483648=a % 2147483648:=by
 rw [u32_andNot _ _ ha (by omega) (by omega) (by omega)]
 have:=nat_mask31 a.toNat
 simp only [show 4294967295 - (2147483648:Int).toNat=2147483647 from rfl,this]
 omega
theorem or_sign (s x:Int) (hs:s=0∨s=2147483648) (hx:0≤x) (hx':x<2147483648):bits .or .u32 s x=s+x:=by
 rw [u32_or _ _ (by omega) (by omega) (by omega) (by omega),nat_join 31 _ _ (by omega) (by omega)];omega
theorem and_sign64 (a:Int) (ha:0≤a) (ha':a≤18446744073709551615):bits .and .u64 a 9223372036854775808=if a<9223372036854775808 then 0 else 9223372036854775808:=by
 rw [u64_and _ _ ha (by omega) (by omega) (by omega)]
 have:=nat_bit 63 a.toNat
 simp only [show (9223372036854775808:Int).toNat=2 ^ 63 from rfl,this]
 split<;>omega
theorem andNot_sign64 (a:Int) (ha:0≤a) (ha':a≤18446744073709551615):bits .andNot .u64 a 9223372036854775808=a % 9223372036854775808:=by
 rw [u64_andNot _ _ ha (by omega) (by omega) (by omega)]
 have:=nat_mask63 a.toNat
 simp only [show 18446744073709551615 - (9223372036854775808:Int).toNat=9223372036854775807 from rfl,this]
 omega
theorem or_sign64 (s x:Int) (hs:s=0∨s=9223372036854775808) (hx:0≤x) (hx':x<9223372036854775808):bits .or .u64 s x=s+x:=by
 rw [u64_or _ _ (by omega) (by omega) (by omega) (by omega),nat_join 63 _ _ (by omega) (by omega)];omega
theorem pow_pos2 (p:Nat):(0:Int)<2 ^ p:=Int.pow_pos (by decide)
theorem pow_le (p q:Nat) (h:p≤q):(2:Int) ^ p≤2 ^ q:=by
 have:=Nat.pow_le_pow_right (n:=2) (by decide) h
 exact_mod_cast this
theorem pow_split (p q:Nat) (h:p≤q):∃r:Int,0<r∧(2:Int) ^ q=2 ^ p*r:=⟨2 ^ (q - p),pow_pos2 _,by rw [← Int.pow_add];congr 1;omega⟩
theorem pow_ge32 (p:Nat) (h:32≤p):∃r:Int,0<r∧(2:Int) ^ p=4294967296*r:=pow_split 32 p h
theorem pow_le31 (p:Nat) (h:p<32):(2:Int) ^ p≤2147483648:=pow_le p 31 (by omega)
theorem slv_lo (v:Int) (p:Nat):0≤slv v p:=by unfold slv;split<;>omega
theorem slv_hi (v:Int) (p:Nat):slv v p≤4294967295:=by unfold slv;split<;>omega
theorem slv_ge32 (v:Int) (p:Nat) (h:32≤p):slv v p=if v<2147483648 then 0 else 2147483648:=by
 obtain ⟨r,_,e⟩:=pow_ge32 p h
 unfold slv
 rw [e,show sg v*(4294967296*r)=2147483648*(2*(sg v*r)) from by rw [Int.mul_left_comm];omega,Int.mul_emod_right];omega
theorem slo_ge32 (v:Int) (p:Nat) (h:32≤p) (h0:0≤v) (h1:v≤4294967295):slo v p=(v != 0):=by
 obtain ⟨r,hr,e⟩:=pow_ge32 p h
 unfold slo
 rw [Bool.eq_iff_iff,ovf_iff,bne_iff_ne,e,show sg v*(4294967296*r)=4294967296*(sg v*r) from by rw [Int.mul_left_comm]]
 by_cases hv:v=0
 ·subst hv;simp [sg_zero]
 ·have:sg v<0∨0<sg v:=by unfold sg;split<;>omega
  rcases this with hs | hs
  ·have h2:sg v*r≤-1:=by have:=Int.mul_neg_of_neg_of_pos hs hr;omega
   constructor<;>omega
  ·have h2:1≤sg v*r:=by have:=Int.mul_pos hs hr;omega
   constructor<;>omega
theorem exact_box (v:Int) (p:Nat) (h:p<32) (h0:0≤v) (h1:v≤4294967295):-4611686018427387904≤sg v*2 ^ p∧sg v*2 ^ p≤4611686018427387904:=by
 have:=mul_box (sg v) (2 ^ p) 2147483648 2147483648 (sg_lo v h0) (by have:=sg_hi v h1;omega) (by have:=pow_pos2 p;omega) (pow_le31 p h)
 omega
theorem exact_high (n:Int):ovf n=true↔(¬ n / 2147483648=0∧¬ n / 2147483648 = -1):=by rw [ovf_iff];omega
theorem dlv_lo (v:Int) (p:Nat):0≤dlv v p:=by unfold dlv;split<;>omega
theorem dlv_hi (v:Int) (p:Nat):dlv v p≤18446744073709551615:=by unfold dlv;split<;>omega
theorem dlv_low (v:Int) (p:Nat):v*2 ^ p % 18446744073709551616 % 9223372036854775808=sg64 v*2 ^ p % 9223372036854775808:=by
 unfold sg64
 split
 ·omega
 ·rw [Int.sub_mul];omega
theorem dlo_test (x:Int) (p:Nat) (hp:p≤63) (h0:0≤x) (h1:x≤18446744073709551615):(wrap64 (sg64 x*2 ^ p) / 2 ^ p != sg64 x)=dlo x p:=by
 unfold dlo
 rw [Bool.eq_iff_iff,ovf64_iff,bne_iff_ne]
 have hpos:=pow_pos2 p
 by_cases h:-9223372036854775808≤sg64 x*2 ^ p∧sg64 x*2 ^ p≤9223372036854775807
 ·rw [IntWalk.wrap64_in _ h,Int.mul_ediv_cancel _ (by omega)]
  constructor
  ·intro hh;exact absurd rfl hh
  ·intro hh;omega
 ·constructor
  ·intro _;omega
  ·intro _ he
   obtain ⟨r,hr,e⟩:=pow_split p 64 (by omega)
   have e64:(18446744073709551616:Int)=2 ^ p*r:=by rw [← e];rfl
   obtain ⟨j,hj⟩:∃j:Int,wrap64 (sg64 x*2 ^ p)=sg64 x*2 ^ p+18446744073709551616*j:=⟨-((sg64 x*2 ^ p+9223372036854775808) / 18446744073709551616),by unfold wrap64;omega⟩
   have hj0:j≠0:=by
    rintro rfl
    have hw:wrap64 (sg64 x*2 ^ p)=sg64 x*2 ^ p:=by rw [hj];omega
    have hb:-9223372036854775808≤wrap64 (sg64 x*2 ^ p)∧wrap64 (sg64 x*2 ^ p)≤9223372036854775807:=by unfold wrap64;omega
    rw [hw] at hb
    exact h hb
   have h3:sg64 x*2 ^ p+18446744073709551616*j=(sg64 x+r*j)*2 ^ p:=by
    rw [e64,Int.add_mul,Int.mul_assoc,Int.mul_comm (r*j) (2 ^ p)]
   rw [hj,h3,Int.mul_ediv_cancel _ (by omega)] at he
   have h4:r*j=0:=by omega
   rcases Int.mul_eq_zero.mp h4 with h5 | h5
   ·omega
   ·exact hj0 h5
theorem ediv_pow_box (m:Int) (p:Nat) (B:Int) (h0:-B≤m) (h1:m≤B - 1) (hB:0≤B):-B≤m / 2 ^ p∧m / 2 ^ p≤B - 1:=by
 have hp:=pow_pos2 p
 constructor
 ·have h2:-B*2 ^ p≤m:=by
   have:-B*2 ^ p≤-B*1:=Int.mul_le_mul_of_nonpos_left (by omega) (by omega)
   omega
  exact (Int.le_ediv_iff_mul_le hp).mpr h2
 ·have h3:m<B*2 ^ p:=by
   have:B*1≤B*2 ^ p:=Int.mul_le_mul_of_nonneg_left (by omega) hB
   omega
  have:=(Int.ediv_lt_iff_lt_mul hp).mpr h3
  omega
theorem sr_min (v:Int) (p:Nat) (h0:0≤v) (h1:v≤4294967295):sg v / 2 ^ min p 32=sg v / 2 ^ p:=by
 by_cases h:p≤32
 ·rw [Nat.min_eq_left h]
 ·rw [Nat.min_eq_right (by omega)]
  have hl:=sg_lo v h0
  have hu:=sg_hi v h1
  have hp:=pow_le 32 p (by omega)
  by_cases hs:0≤sg v
  ·rw [Int.ediv_eq_zero_of_lt hs (by omega),Int.ediv_eq_zero_of_lt hs (by omega)]
  ·have e1:sg v / 2 ^ 32 = -1:=by omega
   have e2:sg v / 2 ^ p = -1:=by
    have hpos:=pow_pos2 p
    have a1:-1≤sg v / 2 ^ p:=(Int.le_ediv_iff_mul_le hpos).mpr (by omega)
    have a2:=Int.ediv_neg_of_neg_of_pos (by omega:sg v<0) hpos
    omega
   rw [e1,e2]
theorem srv_lo (v:Int) (p:Nat):0≤srv v p:=lo32_lo _
theorem srv_hi (v:Int) (p:Nat):srv v p≤4294967295:=lo32_hi _
theorem dr_box (x:Int) (p:Nat) (h0:0≤x) (h1:x≤18446744073709551615):-9223372036854775808≤sg64 x / 2 ^ p∧sg64 x / 2 ^ p≤9223372036854775807:=by
 have:=ediv_pow_box (sg64 x) p 9223372036854775808 (sg64_lo x h0) (by have:=sg64_hi x h1;omega) (by omega)
 omega
theorem sgn_drv (x:Int) (p:Nat) (h0:0≤x) (h1:x≤18446744073709551615):sg64 (drv x p)=sg64 x / 2 ^ p:=by
 have hb:=dr_box x p h0 h1
 unfold drv
 generalize sg64 x / 2 ^ p=m at *
 unfold sg64
 split<;>omega
theorem slg_lo (v:Int) (k:Nat) (l:Bool) (h0:0≤v):0≤slg v k l:=by
 unfold slg;split
 ·exact lo32_lo _
 ·exact Int.ediv_nonneg h0 (by have:=pow_pos2 k;omega)
theorem ediv_pow_le (v:Int) (k:Nat) (h0:0≤v):v / 2 ^ k≤v:=Int.ediv_le_self _ h0
theorem slg_hi (v:Int) (k:Nat) (l:Bool) (h0:0≤v) (h1:v≤4294967295):slg v k l≤4294967295:=by
 unfold slg;split
 ·exact lo32_hi _
 ·have:=ediv_pow_le v k h0;omega
theorem slg_min (v:Int) (p:Nat) (h0:0≤v) (h1:v≤4294967295):v / 2 ^ min p 32=v / 2 ^ p:=by
 by_cases h:p≤32
 ·rw [Nat.min_eq_left h]
 ·rw [Nat.min_eq_right (by omega)]
  have hp:=pow_le 32 p (by omega)
  rw [Int.ediv_eq_zero_of_lt h0 (by omega),Int.ediv_eq_zero_of_lt h0 (by omega)]
theorem slg_minL (v:Int) (p:Nat):lo32 (v*2 ^ min p 32)=lo32 (v*2 ^ p):=by
 by_cases h:p≤32
 ·rw [Nat.min_eq_left h]
 ·rw [Nat.min_eq_right (by omega)]
  obtain ⟨r,_,e⟩:=pow_ge32 p (by omega)
  unfold lo32
  rw [e,Int.mul_left_comm,Int.mul_emod_right];omega
theorem quo_test (n d:Int) (hd:d≠0) (hn:-9223372036854775808≤n) (hn':n≤9223372036854775807):(wrap64 (wrap32 (wrap64 (n.tdiv d))) != wrap64 (n.tdiv d)) = !dok n d:=by
 have hb:-9223372036854775808≤n.tdiv d∧n.tdiv d≤9223372036854775808:=by
  have h1:(n.tdiv d).natAbs≤n.natAbs:=by rw [Int.natAbs_tdiv];exact Nat.div_le_self _ _
  omega
 unfold dok
 generalize n.tdiv d=q at *
 rw [Bool.eq_iff_iff]
 simp only [bne_iff_ne,Bool.not_eq_true',decide_eq_false_iff_not]
 unfold wrap64 wrap32
 omega
theorem dok_zero (n:Int):dok n 0=false:=by simp [dok]
theorem dok_in (n d:Int) (h:dok n d=true):d≠0∧-2147483648≤n.tdiv d∧n.tdiv d≤2147483647:=by simpa [dok] using h
theorem drem_ok (n d:Int) (h:dok n d=true):drem n d=lo32 (n.tmod d):=by simp [drem,h]
theorem dquo_ok (n d:Int) (h:dok n d=true):dquo n d=lo32 (n.tdiv d):=by simp [dquo,h]
theorem sum_high (a b:Int) (ha:0≤a) (ha':a≤4294967295) (hb:0≤b) (hb':b≤4294967295):decide (lo32 (a+b)<a)=decide (4294967296≤a+b):=by
 rw [Bool.eq_iff_iff,decide_eq_true_iff,decide_eq_true_iff];unfold lo32;omega
def Byt (w:World) (A:Option Addr) (len:Nat) (zs:List Int):Prop:=
 zs.length=len∧(∀n∈zs,0≤n∧n≤255)∧(0<len→∃b off,A=some ⟨b,off,none⟩∧∀i,i<len→w.cell? ⟨b,off+i,none⟩=some (.int .u8 (zs.getD i 0)))
theorem Byt.range {w:World} {A:Option Addr} {len:Nat} {zs:List Int} (h:Byt w A len zs) (i:Nat):0≤zs.getD i 0∧zs.getD i 0≤255:=by
 rw [List.getD_eq_getElem?_getD]
 rcases Nat.lt_or_ge i zs.length with hi | hi
 ·rw [List.getElem?_eq_getElem hi];exact h.2.1 _ (List.getElem_mem hi)
 ·rw [List.getElem?_eq_none hi];simp
theorem Byt.at_ {w:World} {A:Option Addr} {len:Nat} {zs:List Int} (h:Byt w A len zs) (h0:0<len):∃b off,A=some ⟨b,off,none⟩∧∀i,i<len→w.cell? ⟨b,off+i,none⟩=some (.int .u8 (zs.getD i 0)):=h.2.2 h0
theorem Byt.keep {w w':World} {A:Option Addr} {len:Nat} {zs:List Int} (h:Byt w A len zs) (hb:Below w.heap.size w w'):Byt w' A len zs:=by
 refine ⟨h.1,h.2.1,fun h0=>?_⟩
 obtain ⟨b,off,e,hc⟩:=h.2.2 h0
 refine ⟨b,off,e,fun i hi=>?_⟩
 have h1:=hc i hi
 rw [← h1]
 refine hb.cell (p:=⟨b,off+i,none⟩) ?_
 rcases Nat.lt_or_ge b w.heap.size with h2 | h2
 ·exact h2
 ·unfold World.cell? at h1;simp only [Array.getElem?_eq_none h2] at h1;cases h1
theorem Byt.drewN {w:World} {A:Option Addr} {len:Nat} {zs:List Int} (h:Byt w A len zs) (n:Nat):Byt (w.drewN n) A len zs:=h
theorem Byt.cut {w:World} {b off len:Nat} {zs:List Int} (h:Byt w (some ⟨b,off,none⟩) len zs) (k:Nat) (hk:k≤len):Byt w (some ⟨b,off+k,none⟩) (len - k) (zs.drop k):=by
 refine ⟨by rw [List.length_drop,h.1],fun n hn=>h.2.1 n (List.mem_of_mem_drop hn),fun h0=>?_⟩
 obtain ⟨b',off',e,hc⟩:=h.2.2 (by omega)
 injection e with e;injection e with e1 e2;subst e1 e2
 refine ⟨b,off+k,rfl,fun i hi=>?_⟩
 have:=hc (k+i) (by omega)
 rw [Nat.add_assoc,this]
 simp [List.getD_eq_getElem?_getD,List.getElem?_drop]
theorem Byt.pre {w:World} {A:Option Addr} {len:Nat} {zs:List Int} (h:Byt w A len zs) (k:Nat) (hk:k≤len):Byt w A k (zs.take k):=by
 refine ⟨by rw [List.length_take,h.1];omega,fun n hn=>h.2.1 n (List.mem_of_mem_take hn),fun h0=>?_⟩
 obtain ⟨b,off,e,hc⟩:=h.2.2 (by omega)
 refine ⟨b,off,e,fun i hi=>?_⟩
 rw [hc i (by omega)]
 simp [List.getD_eq_getElem?_getD,hi]
def fitB (len:Nat) (at_:Int) (n:Int):Bool:=decide (0≤at_∧at_≤(len:Int) - n)
theorem fitB_yes {len:Nat} {at_ n:Int} (h:fitB len at_ n=true):0≤at_∧at_≤(len:Int) - n:=by simpa [fitB] using h
def sx16 (h:Int):Int:=if h<32768 then h else h - 65536
def hfv (x y:Int):Int:=lo32 (sx16 (x*256+y))
def flv (x y z u:Int):Int:=x*16777216+y*65536+z*256+u
theorem sx16_lo (h:Int) (h0:0≤h):-32768≤sx16 h:=by unfold sx16;split<;>omega
theorem sx16_hi (h:Int) (h1:h≤65535):sx16 h≤32767:=by unfold sx16;split<;>omega
theorem wrap_i16 (n:Int):IntKind.i16.wrap n=(n+32768) % 65536 - 32768:=by
 simp only [IntKind.wrap,IntKind.bits,IntKind.signed];simp;split<;>omega
theorem wrap_i16_sx (h:Int) (h0:0≤h) (h1:h≤65535):IntKind.i16.wrap h=sx16 h:=by rw [wrap_i16];unfold sx16;split<;>omega
theorem or_half (x y:Int) (hx:0≤x) (hx':x≤255) (hy:0≤y) (hy':y≤255):bits .or .i16 (IntKind.i16.wrap (x*256)) y=sx16 (x*256+y):=by
 show IntKind.i16.wrap ((BitVec.ofInt 16 (IntKind.i16.wrap (x*256)) ||| BitVec.ofInt 16 y).toNat:Int)=_
 have e1:(BitVec.ofInt 16 (IntKind.i16.wrap (x*256))).toNat=(x*256).toNat:=by rw [BitVec.toNat_ofInt,wrap_i16];omega
 have e2:(BitVec.ofInt 16 y).toNat=y.toNat:=by rw [BitVec.toNat_ofInt];omega
 rw [BitVec.toNat_or,e1,e2,nat_join 8 _ _ (by omega) (by omega),← wrap_i16_sx _ (by omega) (by omega)]
 congr 1;omega
theorem or_32 (i:Nat) (x y:Int) (p:Int) (hp:p=2 ^ i) (hx:0≤x) (hx':x≤4294967295) (hm:x % p=0) (hy:0≤y) (hy':y<p) (hyy:y≤4294967295):bits .or .u32 x y=x+y:=by
 subst hp
 rw [u32_or _ _ (by omega) (by omega) (by omega) (by omega),nat_join i _ _ ?_ ?_]
 ·omega
 ·have:((x.toNat % 2 ^ i:Nat):Int)=0:=by rw [Int.natCast_emod];simpa [Int.toNat_of_nonneg hx] using hm
  omega
 ·have:((y.toNat:Nat):Int)<((2 ^ i:Nat):Int):=by simpa [Int.toNat_of_nonneg hy] using hy'
  omega
theorem info_u8:(Tryz.prog.info? 5).map (fun i=>(i.zero,i.size,i.bytes))=some (some (.int .u8 0),1,1):=by kernel_rfl
theorem cell_blk {w:World} {g:Nat} {C:Array Value} {t:TypeId} {fr:Nat×Nat} (h:w.heap[g]?=some (.cells C t fr)) (i:Nat):w.cell? ⟨g,i,none⟩=C[i]?:=by simp [World.cell?,h]
def Own (w:World) (base:Nat) (v:Value) (n:Nat) (zs:List Int):Prop:=
 w.ownsRow base 5 1 v n (zs.map (Value.int .u8))∧∀z∈zs,0≤z∧z≤255
section
variable {w w':World} {base n:Nat} {v:Value} {zs:List Int}
theorem Own.len (h:Own w base v n zs):zs.length=n:=by have:=h.1.1;simpa using this
theorem Own.nil (w:World) (base:Nat):Own w base (.slice none 0 0) 0 []:=⟨World.ownsRow_nil w base _ _,by simp⟩
theorem Own.alloc (h:Own w base v n zs) (o:Obj):Own (w.alloc o) base v n zs:=⟨h.1.alloc o,h.2⟩
theorem Own.drewN (h:Own w base v n zs) (k:Nat):Own (w.drewN k) base v n zs:=h
theorem Own.below {B:Nat} (h:Own w base v n zs) (hb:Below B w w') (hv:∀g,v.ownBlock=some g→g<B):Own w' base v n zs:=by
 refine ⟨⟨h.1.1,?_⟩,h.2⟩
 rcases h.1.2 with h0 | ⟨g,cap,cur,rfl,hg,hh,r⟩
 ·exact .inl h0
 ·exact .inr ⟨g,cap,cur,rfl,hg,(hb.block g (hv g rfl)).trans hh,r⟩
theorem Own.form (h:Own w base v n zs):(v=.slice none 0 0∧n=0)∨∃g cap,v=.slice (some ⟨g,0,none⟩) n cap∧base≤g∧g<w.heap.size∧n≤cap∧cap≤maxLen:=by
 rcases h.1.2 with h0 | ⟨g,cap,cur,rfl,hg,hh,h1,h2,_⟩
 ·exact .inl h0
 ·exact .inr ⟨g,cap,rfl,hg,(Array.getElem?_eq_some_iff.1 hh).1,h1,h2⟩
theorem Own.pos (h:Own w base v n zs) (h0:0<n):∃g cap,v=.slice (some ⟨g,0,none⟩) n cap∧base≤g∧g<w.heap.size∧n≤cap∧cap≤maxLen:=by
 rcases h.form with ⟨_,h1⟩ | h1
 ·omega
 ·exact h1
theorem Own.heap {g cap:Nat} (h:Own w base (.slice (some ⟨g,0,none⟩) n cap) n zs):∃cur:List Value,w.heap[g]?=some (.cells cur.toArray 5 (0,0))∧cur.length=cap∧cur.take n=zs.map (Value.int .u8)∧base≤g∧n≤cap∧cap≤maxLen:=by
 rcases h.1.2 with ⟨h0,_⟩ | ⟨g',cap',cur,hv,hg,hh,h1,h2,h3,h4⟩
 ·cases h0
 ·injection hv with hA _ hc
  injection hA with hA;injection hA with hA
  subst hA hc
  exact ⟨cur.toList,by simpa using hh,by simpa using h3,by simpa using h4,hg,h1,h2⟩
theorem Own.of_heap {g cap:Nat} {cur:List Value} (h:w.heap[g]?=some (.cells cur.toArray 5 (0,0))) (hl:cur.length=cap) (ht:cur.take n=zs.map (Value.int .u8)) (hz:zs.length=n) (hg:base≤g) (hn:n≤cap) (hm:cap≤maxLen) (hr:∀z∈zs,0≤z∧z≤255) :
  Own w base (.slice (some ⟨g,0,none⟩) n cap) n zs:=
 ⟨⟨by simp [hz],.inr ⟨g,cap,cur.toArray,rfl,hg,h,hn,hm,by simp [hl],by simpa using ht⟩⟩,hr⟩
theorem Own.byt {A:Option Addr} {cap:Nat} (h:Own w base (.slice A n cap) n zs):Byt w A n zs:=by
 refine ⟨h.len,h.2,fun h0=>?_⟩
 rcases h.1.2 with ⟨_,hn⟩ | ⟨g,cap',cur,hv,_,hh,_,_,_,ht⟩
 ·omega
 ·injection hv with hA _ hc
  refine ⟨g,0,hA,fun i hi=>?_⟩
  have hz:i<zs.length:=by rw [h.len];exact hi
  have e:(cur.toList.take (n*1))[i]?=some (.int .u8 zs[i]):=by rw [ht];simp [hz]
  rw [List.getElem?_take,if_pos (by omega)] at e
  have e2:cur[i]?=some (.int .u8 zs[i]):=by simpa using e
  simp [World.cell?,hh,e2,List.getD_eq_getElem?_getD,hz]
theorem Own.block (h:Own w base v n zs):∀g,v.ownBlock=some g→base≤g∧g<w.heap.size:=h.1.lt
end
theorem byt_new (w:World) (zs:List Int) (hr:∀z∈zs,0≤z∧z≤255) (C:Array Value) (hC:C.toList=zs.map (Value.int .u8)) (n:Nat) (hn:zs.length=n) (e:TypeId):Byt (w.alloc (.cells C e)) (some ⟨w.heap.size,0,none⟩) n zs:=by
 refine ⟨hn,hr,fun _=>⟨w.heap.size,0,rfl,fun i hi=>?_⟩⟩
 have hz:i<zs.length:=by omega
 have e1:C[i]?=some (.int .u8 zs[i]):=by rw [← Array.getElem?_toList,hC];simp [hz]
 have e2:(w.alloc (.cells C e)).heap[w.heap.size]?=some (.cells C e (0,0)):=heap_alloc_new w _
 rw [cell_blk e2,Nat.zero_add,e1];simp [List.getD_eq_getElem?_getD,hz]
theorem addr_plus (b off j:Nat):(⟨b,off,none⟩:Addr).add j=⟨b,off+j,none⟩:=by unfold Addr.add;split<;>simp_all
theorem wpList_append_bytes {w:World} {ops:Array Oper} {rest:List Oper} {o:Oper} {a:Act} {Q:Exit→Act→World→Prop} (hgd:o.guard=none) (s x:Operand)
  (ho:o.op=.call { callee:=.builtin .append,args:=#[s,x],argTypes:=#[22,22] })
  (base:Nat) (v:Value) (n:Nat) (zs:List Int) (hs:a.eval s=v) (hown:Own w base v n zs)
  (A:Option Addr) (m c:Nat) (ys:List Int) (hx:a.eval x=.slice A m c) (hy:Byt w A m ys) (hc:A=none→c=0) (h63:n+m≤140737488355328) (hbase:base≤w.heap.size)
  (h:∀v' w',Own w' base v' (n+m) (zs++ys)→w.grownBy w' v.ownBlock→wpList Tryz.prog ops Q rest (a.put o.dst v') w'):wpList Tryz.prog ops Q (o :: rest) a w:=by
 obtain ⟨i0,hi,hz0,hz1,hz2⟩:=info_parts info_u8
 rcases A with _ | ad
 ·have hm:m=0:=by
   rcases Nat.eq_zero_or_pos m with h0 | h0
   ·exact h0
   ·obtain ⟨b,off,e,_⟩:=hy.2.2 h0;cases e
  subst hm
  obtain rfl:ys=[]:=List.eq_nil_of_length_eq_zero hy.1
  rw [hc rfl] at hx
  refine wpList_append_own_none hgd s x 22 ho base 5 i0 1 Tryz.underlying22 hi v n _ hs hown.1 hx ?_
  exact h v w (by simpa using hown) (World.grownBy.refl w _)
 ·refine wpList_append_own w hgd s x 22 ho base 5 i0 (.int .u8 0) 1 1 Tryz.underlying22 hi hz0 hz1 hz2 rfl (by decide) v n _ hs hown.1 ad m c (ys.map (Value.int .u8)) hx (by simp [hy.1]) ?_ (by simp [Value.oneCell']) (by unfold maxLen;omega) (by omega) hbase ?_
  ·intro j u hu
   have hj:j<ys.length:=by
    rcases Nat.lt_or_ge j ys.length with h1 | h1
    ·exact h1
    ·rw [List.getElem?_eq_none (by simpa using h1)] at hu;cases hu
   obtain ⟨b,off,e,hcell⟩:=hy.2.2 (by rw [← hy.1];omega)
   obtain rfl:=Option.some.inj e
   have h2:=hcell j (by rw [← hy.1];exact hj)
   have hadd:=addr_plus b off j
   rw [hadd,h2]
   simp [hj] at hu
   simp [List.getD_eq_getElem?_getD,hj,hu]
  ·intro v' w' h1 h2 _
   refine h v' w' ⟨by simpa using h1,?_⟩ h2
   intro z hz
   rcases List.mem_append.mp hz with hz | hz
   ·exact hown.2 z hz
   ·exact hy.2.1 z hz
theorem splice_map (f:Int→Value) (L:List Int) (k:Nat) (ys:List Int):splice (L.map f) k (ys.map f)=(splice L k ys).map f:=by simp [splice]
theorem splice_range (L:List Int) (k:Nat) (ys:List Int) (h1:∀z∈L,0≤z∧z≤255) (h2:∀z∈ys,0≤z∧z≤255):∀z∈splice L k ys,0≤z∧z≤255:=by
 intro z hz
 unfold splice at hz
 rcases List.mem_append.mp hz with hz | hz
 ·exact h1 z (List.mem_of_mem_take hz)
 ·rcases List.mem_append.mp hz with hz | hz
  ·exact h2 z hz
  ·exact h1 z (List.mem_of_mem_drop hz)
theorem take_splice {α:Type} (L:List α) (k n:Nat) (ys:List α) (h:k+ys.length≤n) (hn:n≤L.length):(splice L k ys).take n=splice (L.take n) k ys:=by
 have e1:L.drop (k+ys.length)=(L.take n).drop (k+ys.length)++L.drop n:=by
  conv=>lhs;rw [← List.take_append_drop n L]
  rw [List.drop_append_of_le_length (by rw [List.length_take];omega)]
 have e2:L.take k=(L.take n).take k:=by rw [List.take_take,Nat.min_eq_left (by omega)]
 have e3:splice L k ys=splice (L.take n) k ys++L.drop n:=by
  unfold splice;rw [e1,e2];simp only [List.append_assoc]
 rw [e3]
 exact List.take_left' (by rw [length_splice _ _ _ (by rw [List.length_take];omega),List.length_take];omega)
theorem Byt.cells {w:World} {b off m:Nat} {ys:List Int} (h:Byt w (some ⟨b,off,none⟩) m ys) (h0:0<m):∀j u,(ys.map (Value.int .u8))[j]?=some u→w.cell? ((⟨b,off,none⟩:Addr).add j)=some u:=by
 intro j u hu
 have hj:j<ys.length:=by
  rcases Nat.lt_or_ge j ys.length with h1 | h1
  ·exact h1
  ·rw [List.getElem?_eq_none (by simpa using h1)] at hu;cases hu
 obtain ⟨b',off',e,hcell⟩:=h.2.2 h0
 injection e with e;injection e with e1 e2;subst e1 e2
 have h2:=hcell j (by rw [← h.1];exact hj)
 have hadd:(⟨b,off,none⟩:Addr).add j=⟨b,off+j,none⟩:=by unfold Addr.add;split<;>simp_all
 rw [hadd,h2]
 simp [hj] at hu
 simp [List.getD_eq_getElem?_getD,hj,hu]
theorem bcell_keep {w w':World} {b o:Nat} {v:Value} (h:w.cell? ⟨b,o,none⟩=some v) (hb:Below w.heap.size w w'):w'.cell? ⟨b,o,none⟩=some v:=by
 have hlt:b<w.heap.size:=by
  rcases Nat.lt_or_ge b w.heap.size with h2 | h2
  ·exact h2
  ·unfold World.cell? at h;simp only [Array.getElem?_eq_none h2] at h;cases h
 exact (hb.cell (p:=⟨b,o,none⟩) hlt).trans h
structure BytI (w:World) (A:Option Addr) (n:Nat) (zs:List Int):Prop where
 out:Byt w A n zs
theorem BytI.keep {w w':World} {A:Option Addr} {n:Nat} {zs:List Int} (h:BytI w A n zs) (hb:Below w.heap.size w w'):BytI w' A n zs:=⟨h.out.keep hb⟩
theorem below_of_drew {w w':World} {n:Nat} (h:w'=w.drewN n):Below w.heap.size w w':=by subst h;exact ⟨(Below.refl w.heap.size w).os,(Below.refl w.heap.size w).tape,(Below.refl w.heap.size w).output,(Below.refl w.heap.size w).size,(Below.refl w.heap.size w).block⟩
theorem below_draw (w:World) (n:Nat):Below w.heap.size w (w.drewN n):=⟨(Below.refl w.heap.size w).os,(Below.refl w.heap.size w).tape,(Below.refl w.heap.size w).output,(Below.refl w.heap.size w).size,(Below.refl w.heap.size w).block⟩
def opL:List Int:=[4,5,6,7,8,9,10,16,17,18,19,20,21,22,23,24,25,26,27,28,29,30,31,64,65,66,67,68,69,70,71,72,73,74,75,76,78,79,80,84,85,86,87,88,89,90,91,92,93,94,95,128,130,134,135,136,137,138,139,140,141,142,143,144,145,146,147,148,149,150,151,152,156,157,158,159,209,210,211,212,213,214,215,220,221,222,223,240,241,242,243,248,249,250,251,252,253]
def fmL:List Int:=[8,1,1,1,1,1,7,1,1,1,1,1,1,1,1,1,1,1,1,1,1,1,1,2,2,2,2,2,2,2,2,2,2,2,2,2,2,2,2,2,2,2,2,2,2,2,2,2,2,2,2,9,9,3,3,3,3,3,3,3,3,3,3,3,4,4,9,4,4,4,4,3,9,9,9,9,5,5,5,5,5,5,5,5,5,5,5,6,6,6,6,6,6,6,6,6,6]
def nmL:List (List Nat):=[[83,80,77],[66,65,76,82],[66,67,84,82],[66,67,82],[83,83,75],[73,83,75],[83,86,67],[76,80,82],[76,78,82],[76,84,82],[76,67,82],[78,82],[67,76,82],[79,82],[88,82],[76,82],[67,82],[65,82],[83,82],[77,82],[68,82],[65,76,82],[83,76,82],[83,84,72],[76,65],[83,84,67],[73,67],[69,88],[66,65,76],[66,67,84],[66,67],[76,72],[67,72],[65,72],[83,72],[77,72],[67,86,68],[67,86,66],[83,84],[78],[67,76],[79],[88],[76],[67],[65],[83],[77],[68],[65,76],[83,76],[83,83,77],[76,80,83,87],[66,88,72],[66,88,76,69],[83,82,76],[83,76,76],[83,82,65],[83,76,65],[83,82,68,76],[83,76,68,76],[83,82,68,65],[83,76,68,65],[83,84,77],[84,77],[77,86,73],[84,83],[78,73],[67,76,73],[79,73],[88,73],[76,77],[83,73,79],[84,73,79],[72,73,79],[84,67,72],[77,86,78],[77,86,67],[77,86,90],[78,67],[67,76,67],[79,67],[88,67],[84,82],[84,82,84],[69,68],[69,68,77,75],[83,82,80],[77,86,79],[80,65,67,75],[85,78,80,75],[90,65,80],[67,80],[65,80],[83,80],[77,80],[68,80]]
def opK (k:Nat):Int:=opL.getD k 0
def fmK (k:Nat):Int:=fmL.getD k 0
def nmK (k:Nat):List Nat:=nmL.getD k []
def hexd (n:Nat):Nat:=if n<10 then 48+n else 55+n
def rowK (k:Nat):List Nat:=[hexd ((opK k).toNat / 16),hexd ((opK k).toNat % 16)]++(nmK k++List.replicate (5 - (nmK k).length) 32)++[96+(fmK k).toNat]
def tbL:List Nat:=(List.range 97).flatMap rowK
def tbA:Array UInt8:=(tbL.map Nat.toUInt8).toArray
def tb (i:Nat):Nat:=tbL.getD i 0
theorem tb_get (d:Array UInt8) (i:Nat) (h:i<(ByteArray.mk d).size) (hd:d=tbA):((ByteArray.mk d)[i]'h).toNat=tb i:=by
 subst hd
 have h1:i<tbL.length:=by
  have:(ByteArray.mk tbA).size=tbL.length:=by show tbA.size=_;simp [tbA]
  omega
 have hs:∀z∈tbL,z<256:=by decide +kernel
 have h2:((ByteArray.mk tbA)[i]'h)=Nat.toUInt8 tbL[i]:=by
  show tbA[i]'_=_
  simp [tbA]
 rw [h2]
 unfold tb
 rw [List.getD_eq_getElem?_getD,List.getElem?_eq_getElem h1]
 show (Nat.toUInt8 tbL[i]).toNat=tbL[i]
 have:=hs _ (List.getElem_mem h1)
 simp [Nat.toUInt8]
 omega
def dig (c:Int):Int:=if 65≤c then c - 55 else c - 48
theorem tb_op:∀k,k<97→16*dig (tb (8*k))+dig (tb (8*k+1))=opK k:=by decide +kernel
theorem tb_hex:∀k,k<97→48≤tb (8*k)∧tb (8*k)≤255∧48≤tb (8*k+1)∧tb (8*k+1)≤255:=by decide +kernel
theorem tb_fm:∀k,k<97→97≤tb (8*k+7)∧tb (8*k+7)≤105∧(tb (8*k+7):Int) - 97+1=fmK k:=by decide +kernel
theorem op_up:∀k,k<96→opK k<opK (k+1):=by decide +kernel
theorem op_range:∀k,k<97→4≤opK k∧opK k≤253:=by decide +kernel
theorem op_lt {j k:Nat} (hj:j<k) (hk:k<97):opK j<opK k:=by
 induction k with
 | zero=>omega
 | succ k ih=>
  have h1:=op_up k (by omega)
  rcases Nat.lt_or_ge j k with h | h
  ·have:=ih h (by omega);omega
  ·rw [show j=k by omega];exact h1
def ix (op:Int):Nat:=opL.findIdx (· == op)
theorem ix_le (op:Int):ix op≤97:=by
 have:ix op≤opL.length:=List.findIdx_le_length
 have h2:opL.length=97:=by decide +kernel
 omega
theorem ix_of {op:Int} {k:Nat} (hk:k<97) (h:opK k=op):ix op=k:=by
 have hl:opL.length=97:=by decide +kernel
 refine (List.findIdx_eq (by omega)).2 ⟨?_,fun j hj=>?_⟩
 ·have:opK k=opL[k]'(by omega):=by unfold opK;rw [List.getD_eq_getElem?_getD,List.getElem?_eq_getElem (by omega)];rfl
  rw [← this,h];simp
 ·have e:opK j=opL[j]'(by omega):=by unfold opK;rw [List.getD_eq_getElem?_getD,List.getElem?_eq_getElem (by omega)];rfl
  have:=op_lt hj hk
  rw [← e];simp;omega
theorem ix_op {op:Int} (h:ix op<97):opK (ix op)=op:=by
 have hl:opL.length=97:=by decide +kernel
 have h1:ix op<opL.length:=by omega
 have h2:=List.findIdx_getElem (p:=fun x=>x == op) (xs:=opL) (w:=h1)
 have e:opK (ix op)=opL[ix op]'h1:=by unfold opK;rw [List.getD_eq_getElem?_getD,List.getElem?_eq_getElem h1];rfl
 rw [e]
 exact eq_of_beq h2
theorem ix_none {op:Int} (h:∀k,k<97→opK k≠op):ix op=97:=by
 have:=ix_le op
 rcases Nat.lt_or_ge (ix op) 97 with h1 | h1
 ·exact absurd (ix_op h1) (h _ h1)
 ·omega
theorem dig_range (c:Int) (h0:48≤c) (h1:c≤255):0≤dig c∧dig c≤255:=by unfold dig;split<;>omega
theorem wrap_hex {x y:Int} (hx:0≤x∧x≤255) (hy:0≤y∧y≤255):IntKind.i64.wrap (IntKind.i64.wrap (16*x)+y)=16*x+y:=by
 simp only [IntKind.wrap,IntKind.bits,IntKind.signed];simp;omega
def rowAt (op:Int):Int:=if ix op<97 then ((8*ix op:Nat):Int) else -1
def isOp (op:Int):Bool:=decide (ix op<97)
def fmOf (op:Int):Int:=if ix op<97 then fmK (ix op) else 0
def lenOf (op:Int):Int:=if 0≤op∧op≤255 then (if op<64 then 2 else if op<192 then 4 else 6) else 0
def nib (zs:List Int) (at_:Nat):Int:=if at_ % 2=0 then zs.getD (at_ / 2) 0 / 16 else zs.getD (at_ / 2) 0 % 16
def privB (op:Int):Bool:=decide (op=8∨op=9∨op=128∨op=130∨(156≤op∧op≤159))
def Fd (w:World) (base:Nat) (v:Value) (b c:Nat) (n at_:Int):Prop:=∃x,v=.pointer (some ⟨x,0,none⟩)∧base≤x∧w.cell? ⟨x,0,none⟩=some (.pointer (some ⟨b,c,none⟩))∧w.cell? ⟨x,1,none⟩=some (.int .i64 n)∧w.cell? ⟨x,2,none⟩=some (.int .i64 at_)
theorem Fd.keep {w w':World} {base:Nat} {v:Value} {b c:Nat} {n at_:Int} (h:Fd w base v b c n at_) (hb:Below w.heap.size w w'):Fd w' base v b c n at_:=by
 obtain ⟨x,h0,h1,h2,h3,h4⟩:=h
 exact ⟨x,h0,h1,bcell_keep h2 hb,bcell_keep h3 hb,bcell_keep h4 hb⟩
theorem Fd.le {w:World} {base base':Nat} {v:Value} {b c:Nat} {n at_:Int} (h:Fd w base v b c n at_) (hb:base'≤base):Fd w base' v b c n at_:=by
 obtain ⟨x,h0,h1,h2⟩:=h
 exact ⟨x,h0,Nat.le_trans hb h1,h2⟩
def lay (form:Int):List (Nat×Int×Int):=if form=1 then [(2,4,2),(3,4,3)] else if form=8 then [(2,4,2)] else if form=7 then [(11,8,2)] else if form=2 then [(2,4,2),(4,4,3),(7,4,4),(8,12,5)] else if form=3 then [(2,4,2),(3,4,3),(7,4,4),(8,12,5)] else if form=4 then [(11,8,2),(5,4,4),(6,12,5)] else if form=9 then [(5,4,4),(6,12,5)] else if form=5 then [(9,8,2),(5,4,4),(6,12,5),(7,4,8),(8,12,9)] else [(9,4,2),(10,4,3),(5,4,4),(6,12,5),(7,4,8),(8,12,9)]
def fvals (b:Nat) (l:List (Nat×Int×Int)):List Value:=l.flatMap fun f=>[.pointer (some ⟨b,f.1,none⟩),.int .i64 f.2.1,.int .i64 f.2.2]
def layPost (b:Nat) (form:Int) (w:World) (e:Ending) (w':World):Prop:=∃g,e=.returned (.slice (some ⟨g,0,none⟩) (lay form).length (lay form).length)∧w.heap.size≤g∧w'.heap[g]?=some (.cells (fvals b (lay form)).toArray 106 (0,0))∧Below w.heap.size w w'
theorem below_d {B:Nat} {a w:World} (h:Below B a w):Below B a w.drew:=⟨h.os,h.tape,h.output,h.size,h.block⟩
section
variable {w:World} {b c:Nat} {n at_:Int} {T:TypeId} {o1 o2 o3:Obj}
theorem al_keep (w:World) (o:Obj):Below w.heap.size w (w.alloc o):=(Below.refl _ _).alloc (Nat.le_refl _) o
theorem Fd.new (w:World) (b c:Nat) (n at_:Int) (T:TypeId):Fd (w.alloc (.cells #[.pointer (some ⟨b,c,none⟩),.int .i64 n,.int .i64 at_] T)) w.heap.size (.pointer (some ⟨w.heap.size,0,none⟩)) b c n at_:=
 ⟨_,rfl,Nat.le_refl _,by simp,by simp,by simp⟩
theorem fd_drew {w:World} {base:Nat} {v:Value} (h:Fd w base v b c n at_):Fd w.drew base v b c n at_:=h.keep (below_d (Below.refl _ _))
theorem fd3_a:Fd (((w.alloc (.cells #[.pointer (some ⟨b,c,none⟩),.int .i64 n,.int .i64 at_] T)).alloc o2).alloc o3).drew w.heap.size (.pointer (some ⟨w.heap.size,0,none⟩)) b c n at_:=fd_drew (((Fd.new w b c n at_ T).keep (al_keep _ _)).keep (al_keep _ _))
theorem fd3_b:Fd (((w.alloc o1).alloc (.cells #[.pointer (some ⟨b,c,none⟩),.int .i64 n,.int .i64 at_] T)).alloc o3).drew w.heap.size (.pointer (some ⟨w.heap.size+1,0,none⟩)) b c n at_:=by
 have h:=Fd.new (w.alloc o1) b c n at_ T
 rw [World.size_alloc] at h
 exact fd_drew ((h.le (Nat.le_succ _)).keep (al_keep _ _))
theorem fd3_c:Fd (((w.alloc o1).alloc o2).alloc (.cells #[.pointer (some ⟨b,c,none⟩),.int .i64 n,.int .i64 at_] T)).drew w.heap.size (.pointer (some ⟨w.heap.size+1+1,0,none⟩)) b c n at_:=by
 have h:=Fd.new ((w.alloc o1).alloc o2) b c n at_ T
 rw [World.size_alloc,World.size_alloc] at h
 exact fd_drew (h.le (by omega))
theorem fd2_a:Fd ((w.alloc (.cells #[.pointer (some ⟨b,c,none⟩),.int .i64 n,.int .i64 at_] T)).alloc o2).drew w.heap.size (.pointer (some ⟨w.heap.size,0,none⟩)) b c n at_:=fd_drew ((Fd.new w b c n at_ T).keep (al_keep _ _))
theorem fd2_b:Fd ((w.alloc o1).alloc (.cells #[.pointer (some ⟨b,c,none⟩),.int .i64 n,.int .i64 at_] T)).drew w.heap.size (.pointer (some ⟨w.heap.size+1,0,none⟩)) b c n at_:=by
 have h:=Fd.new (w.alloc o1) b c n at_ T
 rw [World.size_alloc] at h
 exact fd_drew (h.le (Nat.le_succ _))
end
theorem layout_c (b:Nat) (form:Int) (w:World) (h:w.cell? ⟨b,1,none⟩=some (.int .i64 form)):Calls Tryz.prog 56 #[.pointer (some ⟨b,0,none⟩)] w (layPost b form w):=by
 have H:=lh h
 clear h
 obtain ⟨w0,hw0⟩:∃w0,w0=w:=⟨_,rfl⟩
 have B0:=lh (show Below w.heap.size w w0 from hw0▸Below.refl _ _)
 rw [← hw0] at H
 have HW:=lh hw0
 suffices hmain:Calls Tryz.prog 56 #[.pointer (some ⟨b,0,none⟩)] w0 (layPost b form w) by rw [HW.out] at hmain;exact hmain
 clear hw0
 go_enter Tryz.func56,Tryz.ntmps56
 go_upto_region 1 with fail
 go_cut [3,4,5] from 13 to 25 (fun s3 s4 s5 wx=>Fd wx w.heap.size s3 b 2 4 2∧Fd wx w.heap.size s4 b 3 4 3∧Fd wx w.heap.size s5 b 4 4 3∧Below w0.heap.size w0 wx)
 case first=>
  go_region
  all_goals (go_wp2_with fail;go_meet;exact ⟨(by first | exact Fd.le fd3_a B0.out.size | exact Fd.le fd3_b B0.out.size | exact Fd.le fd3_c B0.out.size),(by first | exact Fd.le fd3_a B0.out.size | exact Fd.le fd3_b B0.out.size | exact Fd.le fd3_c B0.out.size),(by first | exact Fd.le fd3_a B0.out.size | exact Fd.le fd3_b B0.out.size | exact Fd.le fd3_c B0.out.size),below_d ((((Below.refl _ _).alloc (Nat.le_refl _) _).alloc (by simp) _).alloc (by simp;omega) _)⟩)
 case rest=>
 obtain ⟨f3,f4,f5,hb⟩:=hcut
 obtain ⟨w1,hnew⟩:∃x,x=wc:=⟨_,rfl⟩
 rw [← hnew] at hb f3 f4 f5
 rw [← hnew]
 clear hnew
 have G3:=lh f3
 have G4:=lh f4
 have G5:=lh f5
 have B1:=lh (B0.out.trans (hb.mono B0.out.size))
 replace H:=lh (bcell_keep H.out hb)
 clear hb f3 f4 f5
 go_upto_region 2 with fail
 go_cut [6,7,8] from 25 to 37 (fun s6 s7 s8 wx=>Fd wx w.heap.size s6 b 11 8 2∧Fd wx w.heap.size s7 b 9 4 2∧Fd wx w.heap.size s8 b 10 4 3∧Below w1.heap.size w1 wx)
 case first=>
  go_region
  all_goals (go_wp2_with fail;go_meet;exact ⟨(by first | exact Fd.le fd3_a B1.out.size | exact Fd.le fd3_b B1.out.size | exact Fd.le fd3_c B1.out.size),(by first | exact Fd.le fd3_a B1.out.size | exact Fd.le fd3_b B1.out.size | exact Fd.le fd3_c B1.out.size),(by first | exact Fd.le fd3_a B1.out.size | exact Fd.le fd3_b B1.out.size | exact Fd.le fd3_c B1.out.size),below_d ((((Below.refl _ _).alloc (Nat.le_refl _) _).alloc (by simp) _).alloc (by simp;omega) _)⟩)
 case rest=>
 obtain ⟨f6,f7,f8,hb⟩:=hcut
 obtain ⟨w2,hnew⟩:∃x,x=wc:=⟨_,rfl⟩
 rw [← hnew] at hb f6 f7 f8
 rw [← hnew]
 clear hnew
 have G6:=lh f6
 have G7:=lh f7
 have G8:=lh f8
 replace G3:=lh (G3.out.keep hb)
 replace G4:=lh (G4.out.keep hb)
 replace G5:=lh (G5.out.keep hb)
 have B2:=lh (B1.out.trans (hb.mono B1.out.size))
 replace H:=lh (bcell_keep H.out hb)
 clear hb f6 f7 f8
 go_upto_region 3 with fail
 go_cut [9,10] from 37 to 45 (fun s9 s10 wx=>Fd wx w.heap.size s9 b 5 4 4∧Fd wx w.heap.size s10 b 6 12 5∧Below w2.heap.size w2 wx)
 case first=>
  go_region
  all_goals (go_wp2_with fail;go_meet;exact ⟨(by first | exact Fd.le fd2_a B2.out.size | exact Fd.le fd2_b B2.out.size),(by first | exact Fd.le fd2_a B2.out.size | exact Fd.le fd2_b B2.out.size),below_d (((Below.refl _ _).alloc (Nat.le_refl _) _).alloc (by simp) _)⟩)
 case rest=>
 obtain ⟨f9,f10,hb⟩:=hcut
 obtain ⟨w3,hnew⟩:∃x,x=wc:=⟨_,rfl⟩
 rw [← hnew] at hb f9 f10
 rw [← hnew]
 clear hnew
 have G9:=lh f9
 have G10:=lh f10
 replace G3:=lh (G3.out.keep hb)
 replace G4:=lh (G4.out.keep hb)
 replace G5:=lh (G5.out.keep hb)
 replace G6:=lh (G6.out.keep hb)
 replace G7:=lh (G7.out.keep hb)
 replace G8:=lh (G8.out.keep hb)
 have B3:=lh (B2.out.trans (hb.mono B2.out.size))
 replace H:=lh (bcell_keep H.out hb)
 clear hb f9 f10
 go_upto_region 4 with fail
 go_cut [11,12] from 45 to 53 (fun s11 s12 wx=>Fd wx w.heap.size s11 b 7 4 8∧Fd wx w.heap.size s12 b 8 12 9∧Below w3.heap.size w3 wx)
 case first=>
  go_region
  all_goals (go_wp2_with fail;go_meet;exact ⟨(by first | exact Fd.le fd2_a B3.out.size | exact Fd.le fd2_b B3.out.size),(by first | exact Fd.le fd2_a B3.out.size | exact Fd.le fd2_b B3.out.size),below_d (((Below.refl _ _).alloc (Nat.le_refl _) _).alloc (by simp) _)⟩)
 case rest=>
 obtain ⟨f11,f12,hb⟩:=hcut
 obtain ⟨w4,hnew⟩:∃x,x=wc:=⟨_,rfl⟩
 rw [← hnew] at hb f11 f12
 rw [← hnew]
 clear hnew
 have G11:=lh f11
 have G12:=lh f12
 replace G3:=lh (G3.out.keep hb)
 replace G4:=lh (G4.out.keep hb)
 replace G5:=lh (G5.out.keep hb)
 replace G6:=lh (G6.out.keep hb)
 replace G7:=lh (G7.out.keep hb)
 replace G8:=lh (G8.out.keep hb)
 replace G9:=lh (G9.out.keep hb)
 replace G10:=lh (G10.out.keep hb)
 have B4:=lh (B3.out.trans (hb.mono B3.out.size))
 replace H:=lh (bcell_keep H.out hb)
 clear hb f11 f12
 have c0:=H.out
 by_cases e1:form=1
 ·subst e1
  have hl:=lh (show lay 1=[(2,4,2),(3,4,3)] from by decide)
  clear H
  obtain ⟨x3,rfl,_,c30,c31,c32⟩:=G3.out
  obtain ⟨x4,rfl,_,c40,c41,c42⟩:=G4.out
  clear G3 G4 G5 G6 G7 G8 G9 G10 G11 G12
  go_wp2_with fail
  all_goals go_ret
  all_goals unfold layPost
  all_goals rw [hl.out]
  all_goals exact ⟨w4.heap.size,rfl,B4.out.size,(heap_alloc_new w4 _),B4.out.alloc B4.out.size _⟩
 by_cases e8:form=8
 ·subst e8
  have hl:=lh (show lay 8=[(2,4,2)] from by decide)
  clear H
  obtain ⟨x3,rfl,_,c30,c31,c32⟩:=G3.out
  clear G3 G4 G5 G6 G7 G8 G9 G10 G11 G12
  go_wp2_with fail
  all_goals go_ret
  all_goals unfold layPost
  all_goals rw [hl.out]
  all_goals exact ⟨w4.heap.size,rfl,B4.out.size,(heap_alloc_new w4 _),B4.out.alloc B4.out.size _⟩
 by_cases e7:form=7
 ·subst e7
  have hl:=lh (show lay 7=[(11,8,2)] from by decide)
  clear H
  obtain ⟨x6,rfl,_,c60,c61,c62⟩:=G6.out
  clear G3 G4 G5 G6 G7 G8 G9 G10 G11 G12
  go_wp2_with fail
  all_goals go_ret
  all_goals unfold layPost
  all_goals rw [hl.out]
  all_goals exact ⟨w4.heap.size,rfl,B4.out.size,(heap_alloc_new w4 _),B4.out.alloc B4.out.size _⟩
 by_cases e2:form=2
 ·subst e2
  have hl:=lh (show lay 2=[(2,4,2),(4,4,3),(7,4,4),(8,12,5)] from by decide)
  clear H
  obtain ⟨x3,rfl,_,c30,c31,c32⟩:=G3.out
  obtain ⟨x5,rfl,_,c50,c51,c52⟩:=G5.out
  clear G3 G4 G5 G6 G7 G8 G9 G10 G11 G12
  go_wp2_with fail
  go_region
  all_goals go_wp2_with fail
  all_goals go_ret
  all_goals unfold layPost
  all_goals rw [hl.out]
  all_goals exact ⟨w4.heap.size,rfl,B4.out.size,(heap_alloc_new w4 _),below_d (B4.out.alloc B4.out.size _)⟩
 by_cases e3:form=3
 ·subst e3
  have hl:=lh (show lay 3=[(2,4,2),(3,4,3),(7,4,4),(8,12,5)] from by decide)
  clear H
  obtain ⟨x3,rfl,_,c30,c31,c32⟩:=G3.out
  obtain ⟨x4,rfl,_,c40,c41,c42⟩:=G4.out
  clear G3 G4 G5 G6 G7 G8 G9 G10 G11 G12
  go_wp2_with fail
  go_region
  all_goals go_wp2_with fail
  all_goals go_ret
  all_goals unfold layPost
  all_goals rw [hl.out]
  all_goals exact ⟨w4.heap.size,rfl,B4.out.size,(heap_alloc_new w4 _),below_d (B4.out.alloc B4.out.size _)⟩
 by_cases e4:form=4
 ·subst e4
  have hl:=lh (show lay 4=[(11,8,2),(5,4,4),(6,12,5)] from by decide)
  clear H
  obtain ⟨x6,rfl,_,c60,c61,c62⟩:=G6.out
  obtain ⟨x9,rfl,_,c90,c91,c92⟩:=G9.out
  obtain ⟨x10,rfl,_,c100,c101,c102⟩:=G10.out
  clear G3 G4 G5 G6 G7 G8 G9 G10 G11 G12
  go_wp2_with fail
  all_goals go_ret
  all_goals unfold layPost
  all_goals rw [hl.out]
  all_goals exact ⟨w4.heap.size,rfl,B4.out.size,(heap_alloc_new w4 _),B4.out.alloc B4.out.size _⟩
 by_cases e9:form=9
 ·subst e9
  have hl:=lh (show lay 9=[(5,4,4),(6,12,5)] from by decide)
  clear H
  obtain ⟨x9,rfl,_,c90,c91,c92⟩:=G9.out
  obtain ⟨x10,rfl,_,c100,c101,c102⟩:=G10.out
  clear G3 G4 G5 G6 G7 G8 G9 G10 G11 G12
  go_wp2_with fail
  all_goals go_ret
  all_goals unfold layPost
  all_goals rw [hl.out]
  all_goals exact ⟨w4.heap.size,rfl,B4.out.size,(heap_alloc_new w4 _),B4.out.alloc B4.out.size _⟩
 by_cases e5:form=5
 ·subst e5
  have hl:=lh (show lay 5=[(9,8,2),(5,4,4),(6,12,5),(7,4,8),(8,12,9)] from by decide)
  clear H
  obtain ⟨x9,rfl,_,c90,c91,c92⟩:=G9.out
  obtain ⟨x10,rfl,_,c100,c101,c102⟩:=G10.out
  obtain ⟨x11,rfl,_,c110,c111,c112⟩:=G11.out
  obtain ⟨x12,rfl,_,c120,c121,c122⟩:=G12.out
  clear G3 G4 G5 G6 G7 G8 G9 G10 G11 G12
  go_wp2_with fail
  go_region
  all_goals go_wp2_with fail
  all_goals go_ret
  all_goals unfold layPost
  all_goals rw [hl.out]
  all_goals exact ⟨w4.heap.size,rfl,B4.out.size,(heap_alloc_new w4 _),below_d (B4.out.alloc B4.out.size _)⟩
 have hl:=lh (show lay form=[(9,4,2),(10,4,3),(5,4,4),(6,12,5),(7,4,8),(8,12,9)] from by unfold lay;rw [if_neg e1,if_neg e8,if_neg e7,if_neg e2,if_neg e3,if_neg e4,if_neg e9,if_neg e5])
 have n1:(form == 1)=false:=by rw [beq_eq_false_iff_ne];exact e1
 have n8:(form == 8)=false:=by rw [beq_eq_false_iff_ne];exact e8
 have n7:(form == 7)=false:=by rw [beq_eq_false_iff_ne];exact e7
 have n2:(form == 2)=false:=by rw [beq_eq_false_iff_ne];exact e2
 have n3:(form == 3)=false:=by rw [beq_eq_false_iff_ne];exact e3
 have n4:(form == 4)=false:=by rw [beq_eq_false_iff_ne];exact e4
 have n9:(form == 9)=false:=by rw [beq_eq_false_iff_ne];exact e9
 have n5:(form == 5)=false:=by rw [beq_eq_false_iff_ne];exact e5
 clear H e1 e8 e7 e2 e3 e4 e9 e5
 obtain ⟨x7,rfl,_,c70,c71,c72⟩:=G7.out
 obtain ⟨x8,rfl,_,c80,c81,c82⟩:=G8.out
 obtain ⟨x9,rfl,_,c90,c91,c92⟩:=G9.out
 obtain ⟨x10,rfl,_,c100,c101,c102⟩:=G10.out
 obtain ⟨x11,rfl,_,c110,c111,c112⟩:=G11.out
 obtain ⟨x12,rfl,_,c120,c121,c122⟩:=G12.out
 clear G3 G4 G5 G6 G7 G8 G9 G10 G11 G12
 go_wp2_with fail
 all_goals go_ret
 all_goals unfold layPost
 all_goals rw [hl.out]
 all_goals exact ⟨w4.heap.size,rfl,B4.out.size,(heap_alloc_new w4 _),B4.out.alloc B4.out.size _⟩
end Go.Proofs.YtljajnaclpbecaaGreatDoor
namespace Go.Proofs.YtljajnaclpbecaaGreatDoor
set_option maxRecDepth 1000000
set_option maxHeartbeats 8000000
open Go.RowKit Go.Shelf
set_option linter.unusedVariables false
set_option linter.unusedSimpArgs false
attribute [local go_sem] Oper.semAt_some
theorem fields_c (p:Option Addr) (w:World):Calls Tryz.prog 43 #[.pointer p] w fun e w'=>e=.returned (.func (.func 55) #[] #[.pointer (some ⟨w.heap.size,0,none⟩)])∧w'=w.alloc (.cells #[.pointer p] 103):=by
 go_enter Tryz.func43,Tryz.ntmps43
 go_wp2
 go_ret
 exact ⟨rfl,rfl⟩
def KpC (n1:Nat) (W W':World):Prop:=W.heap.size≤W'.heap.size∧∀k o,n1≤k→W.heap[k]?=some o→o.isCells=true→W'.heap[k]?=some o
theorem kpC_t {n1:Nat} {A B C:World} (h:KpC n1 A B) (k:KpC n1 B C):KpC n1 A C:=⟨Nat.le_trans h.1 k.1,fun i o hi ho hc=>k.2 i o hi (h.2 i o hi ho hc) hc⟩
theorem kpC_b {n1:Nat} {w:World} (W:World) (l:Nat) (o o':Obj) (_:w.heap.size≤l) (h:W.heap[l]?=some o) (hc:o.isCells=false) (_:o.isWalk=false):KpC n1 W (W.putObj l o'):=
 ⟨by simp,fun k u hk hu hcu=>by
  have hne:k≠l:=by rintro rfl;rw [h] at hu;injection hu with hu;rw [hu] at hc;rw [hc] at hcu;cases hcu
  exact (World.putObj_heap_other hne).trans hu⟩
theorem kpC_refl (n1:Nat) (W:World):KpC n1 W W:=⟨Nat.le_refl _,fun _ _ _ h _=>h⟩
theorem kpC_of_below {n1:Nat} {W W':World} (h:Below W.heap.size W W'):KpC n1 W W':=⟨h.size,fun k o _ ho _=>(h.block k (Array.getElem?_eq_some_iff.1 ho).1).trans ho⟩
theorem kpC_set {n1:Nat} (W:World) (p:Addr) (v:Value) (hp:p.block<n1):KpC n1 W (W.setCell p v):=⟨(KeepsWalks.setCell W p v).size,fun k o hk ho _=>(Below.heap_setCell W p v k (by omega)).trans ho⟩
abbrev FE:=Nat×Int×Int
theorem fvals_get (b:Nat):∀ (l:List FE) (j:Nat) (x:FE),l[j]?=some x→(fvals b l)[j*3]?=some (.pointer (some ⟨b,x.1,none⟩))∧(fvals b l)[j*3+1]?=some (.int .i64 x.2.1)∧(fvals b l)[j*3+2]?=some (.int .i64 x.2.2)
 | [],j,x,h=>by simp at h
 | y :: l,0,x,h=>by simp at h;subst h;exact ⟨rfl,rfl,rfl⟩
 | y :: l,j+1,x,h=>by
  have ih:=fvals_get b l j x (by simpa using h)
  have e:fvals b (y :: l)=[.pointer (some ⟨b,y.1,none⟩),.int .i64 y.2.1,.int .i64 y.2.2]++fvals b l:=rfl
  rw [e]
  have e2:∀k,([.pointer (some ⟨b,y.1,none⟩),.int .i64 y.2.1,.int .i64 y.2.2]++fvals b l:List Value)[k+3]?=(fvals b l)[k]?:=fun k=>by rw [List.getElem?_append_right (by simp)];rfl
  refine ⟨?_,?_,?_⟩
  ·rw [show (j+1)*3=j*3+3 by omega,e2];exact ih.1
  ·rw [show (j+1)*3+1=j*3+1+3 by omega,e2];exact ih.2.1
  ·rw [show (j+1)*3+2=j*3+2+3 by omega,e2];exact ih.2.2
theorem cell_of_list {w:World} {g:Nat} {l:List Value} {T:TypeId} (h:w.heap[g]?=some (.cells l.toArray T (0,0))) {i:Nat} {v:Value} (hv:l[i]?=some v):w.cell? ⟨g,i,none⟩=some v:=by
 rw [cell_blk h];simpa using hv
theorem lay_len (form:Int):(lay form).length≤6:=by unfold lay;(repeat' split)<;>decide
theorem grown_of_below' {a w:World} {row:Option Nat} (h:Below a.heap.size a w):a.grownBy w row:=⟨h.os,h.tape,h.output,h.size,fun i hi _=>h.block i hi⟩
theorem fields1_stops (p:FE→Prop) (n:Nat) (hn:1≤n) (b Bx n1:Nat) (form:Int) (w:World) (hb:w.cell? ⟨b,1,none⟩=some (.int .i64 form)) (hx:w.cell? ⟨Bx,0,none⟩=some (.pointer (some ⟨b,0,none⟩))) (h1:n1≤w.heap.size) (hp:∀x∈lay form,p x) :
  SeqStopsK Fence.wide n Tryz.prog 55 #[.pointer (some ⟨Bx,0,none⟩)] (fun x:{ x:FE // p x }=>#[Value.agg #[.pointer (some ⟨b,x.1.1,none⟩),.int .i64 x.1.2.1,.int .i64 x.1.2.2]]) (KpC n1) (fun ys=>ys.map (·.1)=lay form) (fun pre=>∃c,c≤(lay form).length∧pre.map (·.1)=(lay form).take c) (lay form).length w:=fun l J Jx W hW hA hAx hY h0=>by
 have C1:=(hW.cell (p:=⟨b,1,none⟩) (World.block_lt_of_cell? w _ hb)).trans hb
 have C2:=(hW.cell (p:=⟨Bx,0,none⟩) (World.block_lt_of_cell? w _ hx)).trans hx
 have HZ:=hW.size
 obtain ⟨L,hL⟩:∃L,lay form=L:=⟨_,rfl⟩
 obtain ⟨m,hm⟩:∃m,L.length=m:=⟨_,rfl⟩
 have HM:=lh hm
 have m6:m≤6:=by rw [← hm,← hL];exact lay_len form
 have LC:=lh (layout_c b form W C1)
 unfold layPost at LC
 rw [hL] at hp
 rw [hL,hm] at LC hY
 rw [hL,hm]
 have HA:=lh hA
 have HL:=lh hL
 clear hm hb hx hL hA hAx
 refine callsIn_of_wp Tryz.func55 rfl trivial ?_ rfl
 simp only [Tryz.ntmps55,List.size_toArray,List.length_cons,List.length_nil,Nat.reduceAdd,Nat.reduceSub,Array.replicate_succ,Array.replicate_zero,List.push_toArray,List.append_toArray,List.nil_append,List.cons_append]
 gi_wp2_with (refine ⟨trivial,?_⟩;gi_at_call 56;refine (callsIn_wide.2 LC.out).mono ?_;rintro e w1 ⟨g,rfl,hg,hh,hbl⟩)
 have H0:=lh (HA.out [] W w1 none h0 (grown_of_below' hbl) (fun r e=>by cases e))
 have HH:=lh hh
 have n1g:n1≤g:=by omega
 clear h0 hh hbl C1 C2 LC
 gi_loopw [8] (fun iv wr=>∃ (j:Nat) (pre:List { x:FE // p x }),j≤m∧iv=.int .i64 j∧pre.map (·.1)=L.take j∧J pre wr∧wr.heap[g]?=some (.cells (fvals b L).toArray 106 (0,0))) (fun iv _=>m - (intOf iv).toNat)
 case atStart=>exact ⟨0,[],by omega,rfl,rfl,H0.out,HH.out⟩
 case round=>
  obtain ⟨j,pre,hj,rfl,hpre,hJ,hgb⟩:=hrel
  have PR:=lh hpre
  have PL:=lh (show pre.length=j from by have:=congrArg List.length hpre;rw [List.length_map,List.length_take] at this;have:=HM.out;omega)
  clear hpre
  have HJ:=lh hJ
  have HG:=lh hgb
  clear hJ hgb H0 HH
  by_cases hlt:j<m
  ·have hI:(j:Int)<(m:Int):=by omega
   obtain ⟨x,hx⟩:∃x,L[j]?=some x:=⟨_,List.getElem?_eq_getElem (by rw [HM.out];exact hlt)⟩
   obtain ⟨x,rfl⟩:∃x':{ x:FE // p x },x'.1=x:=⟨⟨x,hp x (List.mem_of_getElem? hx)⟩,rfl⟩
   obtain ⟨f0,f1,f2⟩:=fvals_get b L j x.1 hx
   have d0:=cell_of_list HG.out f0
   have d1:=cell_of_list HG.out f1
   have d2:=cell_of_list HG.out f2
   have ST:=lh (show (pre++[x]).map (·.1)=L.take (j+1) by rw [List.map_append,PR.out,List.take_add_one,hx];rfl)
   obtain ⟨fn,tmps,assign,body,hy,hR⟩:=hY pre x (wr.alloc (.cells #[.pointer (some ⟨b,x.1.1,none⟩),.int .i64 x.1.2.1,.int .i64 x.1.2.2] 106)) (HA.out _ wr _ none HJ.out (World.grownBy_alloc wr _ none) (fun r e=>by cases e)) (by rw [PL.out];exact hlt)
   clear f0 f1 f2 hx
   gi_wp2
   refine hR.mono ?_
   rintro e W3 (⟨rfl,hJ3,hk3⟩ | ⟨rfl,hJx3⟩)
   ·gi_wp2
    go_roundw
    case rel=>exact ⟨j+1,_,by omega,by go_num,ST.out,hJ3,hk3.2 g _ n1g ((Below.heap_alloc wr _ g (Array.getElem?_eq_some_iff.1 HG.out).1).trans HG.out) rfl⟩
    case measure=>simp [intOf];omega
   ·gi_wp2
    refine bodyPost_ret (results_none rfl _ _ _) rfl ?_
    exact ⟨⟨_,rfl⟩,.inr ⟨_,⟨j+1,by omega,ST.out⟩,hJx3⟩⟩
  ·obtain rfl:j=m:=by omega
   have HF:=lh (show L.take j=L by rw [List.take_of_length_le (by rw [HM.out];exact Nat.le_refl _)])
   gi_wp2
   go_end0
   exact ⟨⟨_,rfl⟩,.inl ⟨pre,PR.out.trans HF.out,HJ.out⟩⟩
end Go.Proofs.YtljajnaclpbecaaGreatDoor
namespace Go.Proofs.YtljajnaclpbecaaGreatDoor
open Go.RowKit
set_option maxRecDepth 1000000
set_option maxHeartbeats 8000000
set_option linter.unusedVariables false
set_option linter.unusedSimpArgs false
def inr (n most:Int):Bool:=decide (0≤n∧n≤most)
theorem inr_yes {n most:Int} (h:inr n most=true):0≤n∧n≤most:=by simpa [inr] using h
theorem inr_no {n most:Int} (h:inr n most=false):¬(0≤n∧n≤most):=by unfold inr at h;exact of_decide_eq_false h
def pok (m k c i q g a:Int):Bool:=inr m 255 && (inr k 15 && (inr c 65535 && (inr i 3 && (inr q 3 && (inr g 15 && inr a 16777215)))))
theorem pok_iff (m k c i q g a:Int):pok m k c i q g a=true↔(0≤m∧m≤255)∧(0≤k∧k≤15)∧(0≤c∧c≤65535)∧(0≤i∧i≤3)∧(0≤q∧q≤3)∧(0≤g∧g≤15)∧(0≤a∧a≤16777215):=by
 simp [pok,inr]
def b2i (b:Bool) (v:Int):Int:=if b=true then v else 0
def psec (k:Int) (M W P:Bool):Int:=16*k+(b2i M 4+b2i W 2+b2i P 1)
def penc (m k:Int) (M W P:Bool) (c i q g a:Int):List Int:=[m,psec k M W P,c / 256,c % 256,64*i+16*q+g,a / 65536,a / 256 % 256,a % 256]
def pdok (len:Nat) (zs:List Int):Bool:=decide (len=8∧zs.getD 1 0 / 8 % 2=0)
def pbr (mask cc:Int):Bool:=inr mask 15 && (inr cc 3 && decide (mask / (2 ^ (3 - cc.toNat):Nat) % 2=1))
def pprog (g code:Int):Bool:=if code=8 then decide (g / 8 % 2=1) else if code=10 then decide (g / 4 % 2=1) else decide (1≤code∧code≤11)
def pio (m ch:Int):Bool:=inr ch 6 && decide (m / (2 ^ (7 - ch.toNat):Nat) % 2=1)
def padm (m g:Int) (M:Bool) (cl code ch:Int):Bool:=
 if cl=1 then decide (m % 2=1) else if cl=2 then true else if cl=3 then pprog g code else if cl=4 then M else if cl=5 then pio m ch else false
def padv (ok:Bool) (n:Int):Bool:=ok && decide (n=2∨n=4∨n=6)
theorem wrap_i64_nat (n:Nat) (h:n<9223372036854775808):IntKind.i64.wrap (n:Int)=n:=by
 simp only [IntKind.wrap,IntKind.bits,IntKind.signed];simp;omega
theorem ofInt64_nat (a:Int) (h0:0≤a) (h1:a≤9223372036854775807):(BitVec.ofInt 64 a).toNat=a.toNat:=by rw [BitVec.toNat_ofInt];omega
theorem i64_and (a b:Int) (h0:0≤a) (h1:a≤9223372036854775807) (h2:0≤b) (h3:b≤9223372036854775807):bits .and .i64 a b=((a.toNat &&& b.toNat:Nat):Int):=by
 show IntKind.i64.wrap ((BitVec.ofInt 64 a &&& BitVec.ofInt 64 b).toNat:Int)=_
 rw [BitVec.toNat_and,ofInt64_nat a h0 h1,ofInt64_nat b h2 h3]
 exact wrap_i64_nat _ (Nat.lt_of_le_of_lt Nat.and_le_left (by omega))
theorem i64_or (a b:Int) (h0:0≤a) (h1:a≤9223372036854775807) (h2:0≤b) (h3:b≤9223372036854775807):bits .or .i64 a b=((a.toNat ||| b.toNat:Nat):Int):=by
 show IntKind.i64.wrap ((BitVec.ofInt 64 a ||| BitVec.ofInt 64 b).toNat:Int)=_
 rw [BitVec.toNat_or,ofInt64_nat a h0 h1,ofInt64_nat b h2 h3]
 exact wrap_i64_nat _ (Nat.or_lt_two_pow (n:=63) (by omega) (by omega))
theorem i64_bit (i:Nat) (p a:Int) (hp:p=((2 ^ i:Nat):Int)) (hi:i≤40) (h0:0≤a) (h1:a≤9223372036854775807):(bits .and .i64 a p != 0)=decide (a / p % 2=1):=by
 have hpos:0<2 ^ i:=Nat.two_pow_pos i
 have hle:2 ^ i≤2 ^ 40:=Nat.pow_le_pow_right (by omega) hi
 subst hp
 rw [i64_and a _ h0 h1 (by omega) (by omega),Int.toNat_natCast,nat_bit]
 obtain ⟨n,rfl⟩:=Int.eq_ofNat_of_zero_le h0
 rw [Int.toNat_natCast]
 have e:((n:Int) / ((2 ^ i:Nat):Int) % 2=1)↔n / 2 ^ i % 2=1:=by
  rw [← Int.natCast_ediv];omega
 rw [Bool.eq_iff_iff,bne_iff_ne,decide_eq_true_iff,e]
 rcases Nat.mod_two_eq_zero_or_one (n / 2 ^ i) with h | h
 ·rw [h];simp
 ·rw [h,Nat.one_mul];exact ⟨fun _=>rfl,fun _ hc=>by omega⟩
theorem andNot0 (u m:BitVec 64):(u &&& ~~~m)=0#64↔u &&& m=u:=by
 constructor
 ·intro h
  apply BitVec.eq_of_getLsbD_eq
  intro i hi
  have h2:=congrArg (fun x=>BitVec.getLsbD x i) h
  simp [hi] at h2
  simp
  exact h2
 ·intro h
  rw [← h]
  apply BitVec.eq_of_getLsbD_eq
  intro i hi
  simp [hi]
theorem andNot_in (n:Nat) (m x:Int) (hm:m=((2 ^ n - 1:Nat):Int)) (hn:n≤8) (h0:-9223372036854775808≤x) (h1:x≤9223372036854775807):(bits .andNot .i64 x m == 0)=inr x m:=by
 have hle:2 ^ n≤2 ^ 8:=Nat.pow_le_pow_right (by omega) hn
 have hpos:0<2 ^ n:=Nat.two_pow_pos n
 have eb:bits .andNot .i64 x m=IntKind.i64.wrap ((BitVec.ofInt 64 x &&& ~~~BitVec.ofInt 64 m).toNat:Int):=rfl
 rw [Bool.eq_iff_iff,beq_iff_eq,eb]
 have e1:IntKind.i64.wrap ((BitVec.ofInt 64 x &&& ~~~BitVec.ofInt 64 m).toNat:Int)=0↔(BitVec.ofInt 64 x &&& ~~~BitVec.ofInt 64 m)=0#64:=by
  constructor
  ·intro h
   apply BitVec.eq_of_toNat_eq
   have hl:=(BitVec.ofInt 64 x &&& ~~~BitVec.ofInt 64 m).isLt
   revert h hl
   generalize (BitVec.ofInt 64 x &&& ~~~BitVec.ofInt 64 m).toNat=t
   intro h hl
   simp only [IntKind.wrap,IntKind.bits,IntKind.signed] at h
   simp at h ⊢
   split at h<;>omega
  ·intro h;rw [h];rfl
 rw [e1,andNot0]
 have e2:(BitVec.ofInt 64 x &&& BitVec.ofInt 64 m=BitVec.ofInt 64 x)↔(BitVec.ofInt 64 x).toNat % 2 ^ n=(BitVec.ofInt 64 x).toNat:=by
  rw [← BitVec.toNat_inj,BitVec.toNat_and,ofInt64_nat m (by omega) (by omega),hm,Int.toNat_natCast,Nat.and_two_pow_sub_one_eq_mod]
 rw [e2,BitVec.toNat_ofInt]
 unfold inr
 rw [decide_eq_true_iff]
 have e3:(x % (2 ^ 64:Nat)).toNat % 2 ^ n=(x % (2 ^ 64:Nat)).toNat↔(x % (2 ^ 64:Nat)).toNat<2 ^ n:=by
  constructor
  ·intro h;rw [← h];exact Nat.mod_lt _ hpos
  ·exact Nat.mod_eq_of_lt
 rw [e3]
 omega
theorem i64_low (n:Nat) (m a:Int) (hm:m=((2 ^ n - 1:Nat):Int)) (hn:n≤40) (h0:0≤a) (h1:a≤9223372036854775807):bits .and .i64 a m=a % ((2 ^ n:Nat):Int):=by
 have hle:2 ^ n≤2 ^ 40:=Nat.pow_le_pow_right (by omega) hn
 have hpos:0<2 ^ n:=Nat.two_pow_pos n
 rw [i64_and a m h0 h1 (by omega) (by omega),hm,Int.toNat_natCast,Nat.and_two_pow_sub_one_eq_mod]
 obtain ⟨k,rfl⟩:=Int.eq_ofNat_of_zero_le h0
 simp
theorem i64_join (i:Nat) (p x y:Int) (hp:p=((2 ^ i:Nat):Int)) (hx:0≤x) (hx':x≤9223372036854775807) (hm:x % p=0) (hy:0≤y) (hy':y<p) (hyy:y≤9223372036854775807):bits .or .i64 x y=x+y:=by
 subst hp
 rw [i64_or _ _ hx hx' hy hyy]
 obtain ⟨a,rfl⟩:=Int.eq_ofNat_of_zero_le hx
 obtain ⟨b,rfl⟩:=Int.eq_ofNat_of_zero_le hy
 rw [Int.toNat_natCast,Int.toNat_natCast,nat_join i _ _ (by have:=hm;rw [← Int.natCast_emod] at this;omega) (by omega)]
 simp
theorem u8_join (i:Nat) (p x y:Int) (hp:p=((2 ^ i:Nat):Int)) (hx:0≤x) (hx':x≤255) (hm:x % p=0) (hy:0≤y) (hy':y<p) (hyy:y≤255):bits .or .u8 x y=x+y:=by
 subst hp
 rw [u8_or _ _ hx (by omega) hy (by omega)]
 obtain ⟨a,rfl⟩:=Int.eq_ofNat_of_zero_le hx
 obtain ⟨b,rfl⟩:=Int.eq_ofNat_of_zero_le hy
 rw [Int.toNat_natCast,Int.toNat_natCast,nat_join i _ _ (by have:=hm;rw [← Int.natCast_emod] at this;omega) (by omega)]
 simp
theorem u8_bit (i:Nat) (p a:Int) (hp:p=((2 ^ i:Nat):Int)) (hi:i≤7) (h0:0≤a) (h1:a≤255):(bits .and .u8 a p != 0)=decide (a / p % 2=1):=by
 have hpos:0<2 ^ i:=Nat.two_pow_pos i
 have hle:2 ^ i≤2 ^ 7:=Nat.pow_le_pow_right (by omega) hi
 subst hp
 rw [u8_and a _ h0 (by omega) (by omega) (by omega),Int.toNat_natCast,nat_bit]
 obtain ⟨n,rfl⟩:=Int.eq_ofNat_of_zero_le h0
 rw [Int.toNat_natCast]
 have e:((n:Int) / ((2 ^ i:Nat):Int) % 2=1)↔n / 2 ^ i % 2=1:=by
  rw [← Int.natCast_ediv];omega
 rw [Bool.eq_iff_iff,bne_iff_ne,decide_eq_true_iff,e]
 rcases Nat.mod_two_eq_zero_or_one (n / 2 ^ i) with h | h
 ·rw [h];simp
 ·rw [h,Nat.one_mul];exact ⟨fun _=>rfl,fun _ hc=>by omega⟩
theorem u8_low (n:Nat) (m a:Int) (hm:m=((2 ^ n - 1:Nat):Int)) (hn:n≤8) (h0:0≤a) (h1:a≤255):bits .and .u8 a m=a % ((2 ^ n:Nat):Int):=by
 have hle:2 ^ n≤2 ^ 8:=Nat.pow_le_pow_right (by omega) hn
 have hpos:0<2 ^ n:=Nat.two_pow_pos n
 rw [u8_and a m h0 (by omega) (by omega) (by omega),hm,Int.toNat_natCast,Nat.and_two_pow_sub_one_eq_mod]
 obtain ⟨k,rfl⟩:=Int.eq_ofNat_of_zero_le h0
 simp
theorem quiet_add_left {P:Program} {f:FuncId} {args:Array Value} {w:World} {a n:Nat} {v:Value}
  (h:Calls P f args (w.drewN (a+n)) fun e w'=>e=.returned v∧w.drewN (a+n)=w') :
  Calls P f args (w.drewN (a+n)) fun e w''=>e=.returned v∧∃m,w''=w.drewN (a+m):=
 h.mono fun _ _ ⟨he,hm⟩=>⟨he,n,hm.symm⟩
end Go.Proofs.YtljajnaclpbecaaGreatDoor
