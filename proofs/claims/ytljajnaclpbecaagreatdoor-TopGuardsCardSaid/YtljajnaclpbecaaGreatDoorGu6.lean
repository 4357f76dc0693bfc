/- Contracts and laws on the way to the statement, text 6 of 22. Conditions: as each states them. -/
import Derived.Test.YtljajnaclpbecaaGreatDoorGu1
import Derived.Test.YtljajnaclpbecaaGreatDoorGu2
import Derived.Test.YtljajnaclpbecaaGreatDoorGu3
import Derived.Test.YtljajnaclpbecaaGreatDoorGu4
import Derived.Test.YtljajnaclpbecaaGreatDoorGu5
import Derived.Deep.MidRow
import Derived.MapKept
namespace Go.Proofs.YtljajnaclpbecaaGreatDoor
open Go.RowKit
set_option maxRecDepth 1000000
set_option maxHeartbeats 8000000
set_option linter.unusedVariables false
set_option linter.unusedSimpArgs false
structure Pre where
 os:List Int
 key:Int
 il:Int
 cc:Int
 pg:Int
 ad:Int
 bs:List Int
 ks:List Int
structure Out where
 c:Int
 rs:List Int
 cc:Int
 pg:Int
 ad:Int
 ov:Bool
 bs:List Int
namespace Pre
def no (p:Pre) (c:Int):Out:=⟨c,p.os,p.cc,p.pg,p.ad,false,p.bs⟩
def rg (p:Pre) (rs:List Int):Out:=⟨0,rs,p.cc,p.pg,p.ad,false,p.bs⟩
def st (p:Pre) (rs:List Int) (cc:Int) (ov:Bool):Out:=⟨0,rs,cc,p.pg,p.ad,ov,p.bs⟩
def br (p:Pre) (rs:List Int) (t:Bool) (tgt:Int):Out:=⟨0,rs,p.cc,p.pg,if t=true then tgt else p.ad,false,p.bs⟩
def pc (p:Pre) (a n:Int):Int:=sCode (alP p.key) p.bs.length p.ks a n
def fc (p:Pre) (a n:Int):Int:=sCode (alF p.key) p.bs.length p.ks a n
def wr (p:Pre) (a n:Int) (ys:List Int) (cc:Int):Out:=if p.pc a n=0 then ⟨0,p.os,cc,p.pg,p.ad,false,sPut (alP p.key) p.bs p.ks a ys⟩ else p.no (p.pc a n)
end Pre
def brO (p:Pre) (op:Int) (n k:Nat) (a:Int):Out:=
 if op=4 then ⟨0,p.os,p.os.getD n 0 / 268435456 % 4,p.os.getD n 0 / 16777216 % 16,p.ad,false,p.bs⟩
 else if op=5 then p.br (p.os.set n (p.il*1073741824+p.cc*268435456+p.pg*16777216+p.ad)) (decide (k≠0)) (p.os.getD k 0 % 16777216)
 else if op=69 then p.br (p.os.set n (p.il*1073741824+p.cc*268435456+p.pg*16777216+p.ad)) true a
 else if op=6 then p.br (p.os.set n (lo32 (p.os.getD n 0 - 1))) ((p.os.getD n 0 != 1) && decide (k≠0)) (p.os.getD k 0 % 16777216)
 else if op=70 then p.br (p.os.set n (lo32 (p.os.getD n 0 - 1))) (p.os.getD n 0 != 1) a
 else if op=7 then p.br p.os (pbr (n:Int) p.cc && decide (k≠0)) (p.os.getD k 0 % 16777216)
 else if op=71 then p.br p.os (pbr (n:Int) p.cc) a
 else if op=134 then p.br (p.os.set n (lo32 (p.os.getD n 0+p.os.getD k 0))) (sgn (sg (lo32 (p.os.getD n 0+p.os.getD k 0)) - sg (p.os.getD (k / 2*2+1) 0)) == 2) a
 else p.br (p.os.set n (lo32 (p.os.getD n 0+p.os.getD k 0))) (!(sgn (sg (lo32 (p.os.getD n 0+p.os.getD k 0)) - sg (p.os.getD (k / 2*2+1) 0)) == 2)) a
def arO (p:Pre) (op:Int) (n:Nat) (c v:Int):Out:=
 if op=28∨op=29∨op=92∨op=93 then
  if n % 2=1 then p.no 6 else if c≠0 then p.no c
  else if op=28∨op=92 then p.rg ((p.os.set n (lo32 (sg (p.os.getD (n+1) 0)*sg v / 4294967296))).set (n+1) (lo32 (sg (p.os.getD (n+1) 0)*sg v)))
  else if dok (sg64 (dbl (p.os.getD n 0) (p.os.getD (n+1) 0))) (sg v)=true then p.rg ((p.os.set n (drem (sg64 (dbl (p.os.getD n 0) (p.os.getD (n+1) 0))) (sg v))).set (n+1) (dquo (sg64 (dbl (p.os.getD n 0) (p.os.getD (n+1) 0))) (sg v)))
  else p.no 9
 else if c≠0 then p.no c
 else if op=24∨op=88∨op=72 then p.rg (p.os.set n v)
 else if op=16∨op=17∨op=18∨op=19 then p.st (p.os.set n (sgnV op v)) (sgnQ op v) (sgnO op v)
 else if op=26∨op=90∨op=74 then p.st (p.os.set n (lo32 (sg (p.os.getD n 0)+sg v))) (rcc (sg (p.os.getD n 0)+sg v)) (ovf (sg (p.os.getD n 0)+sg v))
 else if op=27∨op=91∨op=75 then p.st (p.os.set n (lo32 (sg (p.os.getD n 0) - sg v))) (rcc (sg (p.os.getD n 0) - sg v)) (ovf (sg (p.os.getD n 0) - sg v))
 else if op=30∨op=94 then p.st (p.os.set n (lo32 (p.os.getD n 0+v))) (lcc (lo32 (p.os.getD n 0+v)) (decide (4294967296≤p.os.getD n 0+v))) false
 else if op=31∨op=95 then p.st (p.os.set n (lo32 (p.os.getD n 0 - v))) (lcc (lo32 (p.os.getD n 0 - v)) (decide (v≤p.os.getD n 0))) false
 else if op=25∨op=89∨op=73 then p.st p.os (sgn (sg (p.os.getD n 0) - sg v)) false
 else if op=21∨op=85 then p.st p.os (sgn (p.os.getD n 0 - v)) false
 else if op=20∨op=84 then p.st (p.os.set n (bits .and .u32 (p.os.getD n 0) v)) (if bits .and .u32 (p.os.getD n 0) v=0 then 0 else 1) false
 else if op=22∨op=86 then p.st (p.os.set n (bits .or .u32 (p.os.getD n 0) v)) (if bits .or .u32 (p.os.getD n 0) v=0 then 0 else 1) false
 else if op=23∨op=87 then p.st (p.os.set n (bits .xor .u32 (p.os.getD n 0) v)) (if bits .xor .u32 (p.os.getD n 0) v=0 then 0 else 1) false
 else p.rg (p.os.set n (lo32 (sg (p.os.getD n 0)*sg v)))
def shO (p:Pre) (op:Int) (n:Nat) (a:Int):Out:=
 if 140≤op∧n % 2=1 then p.no 6
 else if op=136 then p.rg (p.os.set n (slg (p.os.getD n 0) (plc a) false))
 else if op=137 then p.rg (p.os.set n (slg (p.os.getD n 0) (plc a) true))
 else if op=138 then p.st (p.os.set n (srv (p.os.getD n 0) (plc a))) (sgn (sg (srv (p.os.getD n 0) (plc a)))) false
 else if op=139 then p.st (p.os.set n (slv (p.os.getD n 0) (plc a))) (slc (p.os.getD n 0) (plc a)) (slo (p.os.getD n 0) (plc a))
 else if op=140 then p.rg ((p.os.set n (lo32 (dlg (dbl (p.os.getD n 0) (p.os.getD (n+1) 0)) (plc a) false / 4294967296))).set (n+1) (lo32 (dlg (dbl (p.os.getD n 0) (p.os.getD (n+1) 0)) (plc a) false)))
 else if op=141 then p.rg ((p.os.set n (lo32 (dlg (dbl (p.os.getD n 0) (p.os.getD (n+1) 0)) (plc a) true / 4294967296))).set (n+1) (lo32 (dlg (dbl (p.os.getD n 0) (p.os.getD (n+1) 0)) (plc a) true)))
 else if op=142 then p.st ((p.os.set n (lo32 (drv (dbl (p.os.getD n 0) (p.os.getD (n+1) 0)) (plc a) / 4294967296))).set (n+1) (lo32 (drv (dbl (p.os.getD n 0) (p.os.getD (n+1) 0)) (plc a)))) (sgn (sg64 (drv (dbl (p.os.getD n 0) (p.os.getD (n+1) 0)) (plc a)))) false
 else p.st ((p.os.set n (lo32 (dlv (dbl (p.os.getD n 0) (p.os.getD (n+1) 0)) (plc a) / 4294967296))).set (n+1) (lo32 (dlv (dbl (p.os.getD n 0) (p.os.getD (n+1) 0)) (plc a)))) (dlc (dbl (p.os.getD n 0) (p.os.getD (n+1) 0)) (plc a)) (dlo (dbl (p.os.getD n 0) (p.os.getD (n+1) 0)) (plc a))
def cnt (n m:Nat):Nat:=(m+16 - n) % 16+1
def mvO (p:Pre) (op:Int) (n m:Nat) (a:Int):Out:=
 if op=80 then (if a % 4=0 then p.wr a 4 (fb (p.os.getD n 0)) p.cc else p.no 6)
 else if op=64 then (if a % 2=0 then p.wr a 2 ((fb (p.os.getD n 0)).drop 2) p.cc else p.no 6)
 else if op=66 then p.wr a 1 ((fb (p.os.getD n 0)).drop 3) p.cc
 else if op=67 then (if p.fc a 1=0 then p.rg (p.os.set n (p.os.getD n 0 / 256*256+(sGet p.bs a 1).getD 0 0)) else p.no (p.fc a 1))
 else if op=144 then (if a % 4=0 then p.wr a ((4*cnt n m:Nat):Int) (stB p.os n (cnt n m)) p.cc else p.no 6)
 else (if a % 4=0 then (if p.fc a ((4*cnt n m:Nat):Int)=0 then p.rg (lmR p.os n (sGet p.bs a ((4*cnt n m:Nat):Int)) (cnt n m)) else p.no (p.fc a ((4*cnt n m:Nat):Int))) else p.no 6)
def imB (op b i:Int):Int:=if op=148 then bits .and .u8 b i else if op=150 then bits .or .u8 b i else bits .xor .u8 b i
def imO (p:Pre) (op:Int) (a i:Int):Out:=
 if op=146 then p.wr a 1 [i] p.cc
 else if p.fc a 1≠0 then p.no (p.fc a 1)
 else if op=145 then p.st p.os (if bits .and .u8 ((sGet p.bs a 1).getD 0 0) i=0 then 0 else if bits .and .u8 ((sGet p.bs a 1).getD 0 0) i=i then 3 else 1) false
 else if op=149 then p.st p.os (sgn ((sGet p.bs a 1).getD 0 0 - i)) false
 else if op=147 then p.wr a 1 [255] ((sGet p.bs a 1).getD 0 0 / 128)
 else p.wr a 1 [imB op ((sGet p.bs a 1).getD 0 0) i] (if imB op ((sGet p.bs a 1).getD 0 0) i=0 then 0 else 1)
def loO (p:Pre) (op:Int) (N:Nat) (a b:Int):Out:=
 if op=221 then (match scn p.bs p.ks p.key a b N 0 with
  | (c,o)=>if c=0 then ⟨0,scnR p.os p.os a o,scnQ N o,p.pg,p.ad,false,p.bs⟩ else p.no c)
 else if p.fc a N≠0 then p.no (p.fc a N)
 else if op=220 then (if trE p.bs p.ks (sGet p.bs a N) p.key b N=0 then p.wr a N (trS p.bs (sGet p.bs a N) a b N) p.cc else p.no (trE p.bs p.ks (sGet p.bs a N) p.key b N))
 else if p.fc b N≠0 then p.no (p.fc b N)
 else if op=213 then p.st p.os (clc (sGet p.bs a N) (sGet p.bs b N)) false
 else p.wr a N (cmb (cb op) (sGet p.bs a N) (sGet p.bs b N) (a - b) N) (if op=212∨op=214∨op=215 then cmbS (cb op) (sGet p.bs a N) (sGet p.bs b N) (a - b) N else p.cc)
def exO (p:Pre) (op fm:Int) (n k:Nat) (a1 a:Int) (l1:Nat) (i2:Int):Out:=
 if op<16∨(69≤op∧op≤71)∨op=134∨op=135 then brO p op n k a
 else if 136≤op∧op≤143 then shO p op n a
 else if op=65 then p.rg (p.os.set n a)
 else if op=64∨op=66∨op=67∨op=80∨op=144∨op=152 then mvO p op n k a
 else if 145≤op∧op≤151 then imO p op a1 i2
 else if 208≤op then loO p op (l1+1) a1 a
 else arO p op n (opC op fm p.bs p.ks p.key a) (opV op fm p.os k p.bs a)
theorem chkv_1 (op r1 r2 x2 b1 d1 b2 d2 l1 l2 i2:Int) (hi:isOp op=true) (hf:fmOf op=1):chk op 1 [op,1,r1,r2,x2,b1,d1,b2,d2,l1,l2,i2]=if (0≤r1∧r1<16)∧(0≤r2∧r2<16)∧x2=0∧b1=0∧d1=0∧b2=0∧d2=0∧l1=0∧l2=0∧i2=0 then 0 else 6:=by
 unfold chk
 rw [if_pos ⟨hi,hf⟩]
 by_cases h:(0≤r1∧r1<16)∧(0≤r2∧r2<16)∧x2=0∧b1=0∧d1=0∧b2=0∧d2=0∧l1=0∧l2=0∧i2=0
 ·rw [if_pos h]
  have hh:=h
  simp [lay,scan]
  (repeat' split)<;>first | rfl | (exfalso;simp_all;done) | (exfalso;simp_all;omega) | omega | (rename_i ys heq hy;subst hy;exfalso;(repeat' split at heq)<;>first | (cases heq;done) | (simp_all;done) | (simp_all;omega))
 ·rw [if_neg h]
  simp [lay,scan]
  (repeat' split)<;>first | rfl | (exfalso;simp_all;done) | (exfalso;simp_all;omega) | omega | (rename_i ys heq hy;subst hy;exfalso;(repeat' split at heq)<;>first | (cases heq;done) | (simp_all;done) | (simp_all;omega))
theorem chkv_7 (op r1 r2 x2 b1 d1 b2 d2 l1 l2 i2:Int) (hi:isOp op=true) (hf:fmOf op=7):chk op 7 [op,7,r1,r2,x2,b1,d1,b2,d2,l1,l2,i2]=if r1=0∧r2=0∧x2=0∧b1=0∧d1=0∧b2=0∧d2=0∧l1=0∧l2=0∧(0≤i2∧i2<256) then 0 else 6:=by
 unfold chk
 rw [if_pos ⟨hi,hf⟩]
 by_cases h:r1=0∧r2=0∧x2=0∧b1=0∧d1=0∧b2=0∧d2=0∧l1=0∧l2=0∧(0≤i2∧i2<256)
 ·rw [if_pos h]
  have hh:=h
  simp [lay,scan]
  (repeat' split)<;>first | rfl | (exfalso;simp_all;done) | (exfalso;simp_all;omega) | omega | (rename_i ys heq hy;subst hy;exfalso;(repeat' split at heq)<;>first | (cases heq;done) | (simp_all;done) | (simp_all;omega))
 ·rw [if_neg h]
  simp [lay,scan]
  (repeat' split)<;>first | rfl | (exfalso;simp_all;done) | (exfalso;simp_all;omega) | omega | (rename_i ys heq hy;subst hy;exfalso;(repeat' split at heq)<;>first | (cases heq;done) | (simp_all;done) | (simp_all;omega))
theorem chkv_8 (op r1 r2 x2 b1 d1 b2 d2 l1 l2 i2:Int) (hi:isOp op=true) (hf:fmOf op=8):chk op 8 [op,8,r1,r2,x2,b1,d1,b2,d2,l1,l2,i2]=if (0≤r1∧r1<16)∧r2=0∧x2=0∧b1=0∧d1=0∧b2=0∧d2=0∧l1=0∧l2=0∧i2=0 then 0 else 6:=by
 unfold chk
 rw [if_pos ⟨hi,hf⟩]
 by_cases h:(0≤r1∧r1<16)∧r2=0∧x2=0∧b1=0∧d1=0∧b2=0∧d2=0∧l1=0∧l2=0∧i2=0
 ·rw [if_pos h]
  have hh:=h
  simp [lay,scan]
  (repeat' split)<;>first | rfl | (exfalso;simp_all;done) | (exfalso;simp_all;omega) | omega | (rename_i ys heq hy;subst hy;exfalso;(repeat' split at heq)<;>first | (cases heq;done) | (simp_all;done) | (simp_all;omega))
 ·rw [if_neg h]
  simp [lay,scan]
  (repeat' split)<;>first | rfl | (exfalso;simp_all;done) | (exfalso;simp_all;omega) | omega | (rename_i ys heq hy;subst hy;exfalso;(repeat' split at heq)<;>first | (cases heq;done) | (simp_all;done) | (simp_all;omega))
theorem chkv_2 (op r1 r2 x2 b1 d1 b2 d2 l1 l2 i2:Int) (hi:isOp op=true) (hf:fmOf op=2):chk op 2 [op,2,r1,r2,x2,b1,d1,b2,d2,l1,l2,i2]=if (0≤r1∧r1<16)∧r2=0∧(0≤x2∧x2<16)∧b1=0∧d1=0∧(0≤b2∧b2<16)∧(0≤d2∧d2<4096)∧l1=0∧l2=0∧i2=0 then 0 else 6:=by
 unfold chk
 rw [if_pos ⟨hi,hf⟩]
 by_cases h:(0≤r1∧r1<16)∧r2=0∧(0≤x2∧x2<16)∧b1=0∧d1=0∧(0≤b2∧b2<16)∧(0≤d2∧d2<4096)∧l1=0∧l2=0∧i2=0
 ·rw [if_pos h]
  have hh:=h
  simp [lay,scan]
  (repeat' split)<;>first | rfl | (exfalso;simp_all;done) | (exfalso;simp_all;omega) | omega | (rename_i ys heq hy;subst hy;exfalso;(repeat' split at heq)<;>first | (cases heq;done) | (simp_all;done) | (simp_all;omega))
 ·rw [if_neg h]
  simp [lay,scan]
  (repeat' split)<;>first | rfl | (exfalso;simp_all;done) | (exfalso;simp_all;omega) | omega | (rename_i ys heq hy;subst hy;exfalso;(repeat' split at heq)<;>first | (cases heq;done) | (simp_all;done) | (simp_all;omega))
theorem chkv_3 (op r1 r2 x2 b1 d1 b2 d2 l1 l2 i2:Int) (hi:isOp op=true) (hf:fmOf op=3):chk op 3 [op,3,r1,r2,x2,b1,d1,b2,d2,l1,l2,i2]=if (0≤r1∧r1<16)∧(0≤r2∧r2<16)∧x2=0∧b1=0∧d1=0∧(0≤b2∧b2<16)∧(0≤d2∧d2<4096)∧l1=0∧l2=0∧i2=0 then 0 else 6:=by
 unfold chk
 rw [if_pos ⟨hi,hf⟩]
 by_cases h:(0≤r1∧r1<16)∧(0≤r2∧r2<16)∧x2=0∧b1=0∧d1=0∧(0≤b2∧b2<16)∧(0≤d2∧d2<4096)∧l1=0∧l2=0∧i2=0
 ·rw [if_pos h]
  have hh:=h
  simp [lay,scan]
  (repeat' split)<;>first | rfl | (exfalso;simp_all;done) | (exfalso;simp_all;omega) | omega | (rename_i ys heq hy;subst hy;exfalso;(repeat' split at heq)<;>first | (cases heq;done) | (simp_all;done) | (simp_all;omega))
 ·rw [if_neg h]
  simp [lay,scan]
  (repeat' split)<;>first | rfl | (exfalso;simp_all;done) | (exfalso;simp_all;omega) | omega | (rename_i ys heq hy;subst hy;exfalso;(repeat' split at heq)<;>first | (cases heq;done) | (simp_all;done) | (simp_all;omega))
theorem chkv_4 (op r1 r2 x2 b1 d1 b2 d2 l1 l2 i2:Int) (hi:isOp op=true) (hf:fmOf op=4):chk op 4 [op,4,r1,r2,x2,b1,d1,b2,d2,l1,l2,i2]=if r1=0∧r2=0∧x2=0∧(0≤b1∧b1<16)∧(0≤d1∧d1<4096)∧b2=0∧d2=0∧l1=0∧l2=0∧(0≤i2∧i2<256) then 0 else 6:=by
 unfold chk
 rw [if_pos ⟨hi,hf⟩]
 by_cases h:r1=0∧r2=0∧x2=0∧(0≤b1∧b1<16)∧(0≤d1∧d1<4096)∧b2=0∧d2=0∧l1=0∧l2=0∧(0≤i2∧i2<256)
 ·rw [if_pos h]
  have hh:=h
  simp [lay,scan]
  (repeat' split)<;>first | rfl | (exfalso;simp_all;done) | (exfalso;simp_all;omega) | omega | (rename_i ys heq hy;subst hy;exfalso;(repeat' split at heq)<;>first | (cases heq;done) | (simp_all;done) | (simp_all;omega))
 ·rw [if_neg h]
  simp [lay,scan]
  (repeat' split)<;>first | rfl | (exfalso;simp_all;done) | (exfalso;simp_all;omega) | omega | (rename_i ys heq hy;subst hy;exfalso;(repeat' split at heq)<;>first | (cases heq;done) | (simp_all;done) | (simp_all;omega))
theorem chkv_9 (op r1 r2 x2 b1 d1 b2 d2 l1 l2 i2:Int) (hi:isOp op=true) (hf:fmOf op=9):chk op 9 [op,9,r1,r2,x2,b1,d1,b2,d2,l1,l2,i2]=if r1=0∧r2=0∧x2=0∧(0≤b1∧b1<16)∧(0≤d1∧d1<4096)∧b2=0∧d2=0∧l1=0∧l2=0∧i2=0 then 0 else 6:=by
 unfold chk
 rw [if_pos ⟨hi,hf⟩]
 by_cases h:r1=0∧r2=0∧x2=0∧(0≤b1∧b1<16)∧(0≤d1∧d1<4096)∧b2=0∧d2=0∧l1=0∧l2=0∧i2=0
 ·rw [if_pos h]
  have hh:=h
  simp [lay,scan]
  (repeat' split)<;>first | rfl | (exfalso;simp_all;done) | (exfalso;simp_all;omega) | omega | (rename_i ys heq hy;subst hy;exfalso;(repeat' split at heq)<;>first | (cases heq;done) | (simp_all;done) | (simp_all;omega))
 ·rw [if_neg h]
  simp [lay,scan]
  (repeat' split)<;>first | rfl | (exfalso;simp_all;done) | (exfalso;simp_all;omega) | omega | (rename_i ys heq hy;subst hy;exfalso;(repeat' split at heq)<;>first | (cases heq;done) | (simp_all;done) | (simp_all;omega))
theorem chkv_5 (op r1 r2 x2 b1 d1 b2 d2 l1 l2 i2:Int) (hi:isOp op=true) (hf:fmOf op=5):chk op 5 [op,5,r1,r2,x2,b1,d1,b2,d2,l1,l2,i2]=if r1=0∧r2=0∧x2=0∧(0≤b1∧b1<16)∧(0≤d1∧d1<4096)∧(0≤b2∧b2<16)∧(0≤d2∧d2<4096)∧(0≤l1∧l1<256)∧l2=0∧i2=0 then 0 else 6:=by
 unfold chk
 rw [if_pos ⟨hi,hf⟩]
 by_cases h:r1=0∧r2=0∧x2=0∧(0≤b1∧b1<16)∧(0≤d1∧d1<4096)∧(0≤b2∧b2<16)∧(0≤d2∧d2<4096)∧(0≤l1∧l1<256)∧l2=0∧i2=0
 ·rw [if_pos h]
  have hh:=h
  simp [lay,scan]
  (repeat' split)<;>first | rfl | (exfalso;simp_all;done) | (exfalso;simp_all;omega) | omega | (rename_i ys heq hy;subst hy;exfalso;(repeat' split at heq)<;>first | (cases heq;done) | (simp_all;done) | (simp_all;omega))
 ·rw [if_neg h]
  simp [lay,scan]
  (repeat' split)<;>first | rfl | (exfalso;simp_all;done) | (exfalso;simp_all;omega) | omega | (rename_i ys heq hy;subst hy;exfalso;(repeat' split at heq)<;>first | (cases heq;done) | (simp_all;done) | (simp_all;omega))
theorem chkv_6 (op r1 r2 x2 b1 d1 b2 d2 l1 l2 i2:Int) (hi:isOp op=true) (hf:fmOf op=6):chk op 6 [op,6,r1,r2,x2,b1,d1,b2,d2,l1,l2,i2]=if r1=0∧r2=0∧x2=0∧(0≤b1∧b1<16)∧(0≤d1∧d1<4096)∧(0≤b2∧b2<16)∧(0≤d2∧d2<4096)∧(0≤l1∧l1<16)∧(0≤l2∧l2<16)∧i2=0 then 0 else 6:=by
 unfold chk
 rw [if_pos ⟨hi,hf⟩]
 by_cases h:r1=0∧r2=0∧x2=0∧(0≤b1∧b1<16)∧(0≤d1∧d1<4096)∧(0≤b2∧b2<16)∧(0≤d2∧d2<4096)∧(0≤l1∧l1<16)∧(0≤l2∧l2<16)∧i2=0
 ·rw [if_pos h]
  have hh:=h
  simp [lay,scan]
  (repeat' split)<;>first | rfl | (exfalso;simp_all;done) | (exfalso;simp_all;omega) | omega | (rename_i ys heq hy;subst hy;exfalso;(repeat' split at heq)<;>first | (cases heq;done) | (simp_all;done) | (simp_all;omega))
 ·rw [if_neg h]
  simp [lay,scan]
  (repeat' split)<;>first | rfl | (exfalso;simp_all;done) | (exfalso;simp_all;omega) | omega | (rename_i ys heq hy;subst hy;exfalso;(repeat' split at heq)<;>first | (cases heq;done) | (simp_all;done) | (simp_all;omega))
theorem fm_in:∀k,k<97→1≤fmK k∧fmK k≤9:=by decide +kernel
theorem fm_cases {op:Int} (h:isOp op=true):1≤fmOf op∧fmOf op≤9:=by
 unfold isOp at h;rw [decide_eq_true_iff] at h
 unfold fmOf
 rw [if_pos h];exact fm_in (ix op) h
theorem chk_rng {op fm r1 r2 x2 b1 d1 b2 d2 l1 l2 i2:Int} (h:chk op fm [op,fm,r1,r2,x2,b1,d1,b2,d2,l1,l2,i2]=0):isOp op=true∧fmOf op=fm∧(0≤r1∧r1<16)∧(0≤r2∧r2<16)∧(0≤x2∧x2<16)∧(0≤b1∧b1<16)∧(0≤d1∧d1<4096)∧(0≤b2∧b2<16)∧(0≤d2∧d2<4096)∧(0≤l1∧l1<256)∧(0≤l2∧l2<16)∧(0≤i2∧i2<256):=by
 have hi:isOp op=true∧fmOf op=fm:=by
  unfold chk at h
  by_cases hc:isOp op=true∧fmOf op=fm
  ·exact hc
  ·rw [if_neg hc] at h;cases h
 obtain ⟨h1,h2⟩:=hi
 obtain ⟨f1,f2⟩:=fm_cases h1
 rw [h2] at f1 f2
 refine ⟨h1,h2,?_⟩
 have hf:fm=1∨fm=7∨fm=8∨fm=2∨fm=3∨fm=4∨fm=9∨fm=5∨fm=6:=by omega
 rcases hf with rfl | rfl | rfl | rfl | rfl | rfl | rfl | rfl | rfl
 ·rw [chkv_1 _ _ _ _ _ _ _ _ _ _ _ h1 h2] at h;split at h<;>omega
 ·rw [chkv_7 _ _ _ _ _ _ _ _ _ _ _ h1 h2] at h;split at h<;>omega
 ·rw [chkv_8 _ _ _ _ _ _ _ _ _ _ _ h1 h2] at h;split at h<;>omega
 ·rw [chkv_2 _ _ _ _ _ _ _ _ _ _ _ h1 h2] at h;split at h<;>omega
 ·rw [chkv_3 _ _ _ _ _ _ _ _ _ _ _ h1 h2] at h;split at h<;>omega
 ·rw [chkv_4 _ _ _ _ _ _ _ _ _ _ _ h1 h2] at h;split at h<;>omega
 ·rw [chkv_9 _ _ _ _ _ _ _ _ _ _ _ h1 h2] at h;split at h<;>omega
 ·rw [chkv_5 _ _ _ _ _ _ _ _ _ _ _ h1 h2] at h;split at h<;>omega
 ·rw [chkv_6 _ _ _ _ _ _ _ _ _ _ _ h1 h2] at h;split at h<;>omega
structure Ps.ok (p:Ps):Prop where
 il:0≤p.il∧p.il≤3
 cc:0≤p.cc∧p.cc≤3
 pg:0≤p.pg∧p.pg≤15
 ad:0≤p.ad∧p.ad≤16777215
section
variable {P:Program} {L:List Oper} {Q:Exit→Act→World→Prop} {md:Region.Mode} {S:World→Prop} {i j:Nat} {v:Value} {oi:Oper} {fuel:Nat} {listed:Array Bool} {a:Act} {w:World}
theorem tk1 (hr:Region.ready md L.toArray listed=[i]) (h:wpOp P L.toArray Q i (fun a' w'=>S w'∧wpAnyH P md L.toArray Q S fuel (listed.setIfInBounds i true) a' w') a w):wpAnyH P md L.toArray Q S (fuel+1) listed a w:=by
 refine ⟨fun h0=>(by rw [hr] at h0;cases h0),fun k hk=>?_⟩
 rw [hr,List.mem_singleton] at hk
 subst hk
 exact h
theorem tk2 (hr:Region.ready md L.toArray listed=[i,j]) (h:wpOp P L.toArray Q i (fun a' w'=>S w'∧wpAnyH P md L.toArray Q S fuel (listed.setIfInBounds i true) a' w') a w) (h':wpOp P L.toArray Q j (fun a' w'=>S w'∧wpAnyH P md L.toArray Q S fuel (listed.setIfInBounds j true) a' w') a w):wpAnyH P md L.toArray Q S (fuel+1) listed a w:=by
 refine ⟨fun h0=>(by rw [hr] at h0;cases h0),fun k hk=>?_⟩
 rw [hr] at hk
 simp only [List.mem_cons,List.not_mem_nil,or_false] at hk
 rcases hk with rfl | rfl
 ·exact h
 ·exact h'
theorem opb {w1:World} {R:World→Prop} {X:World→Prop} (hR:R w1) (hRS:∀w',R w'→S w') (h:∀w',Hid (R w')→S w'→X w') (hi:L[i]?=some oi:=by rfl)
  (hw:Region.wanted oi (yielded L.toArray a.tmps)=true:=by rfl) (hx:(execOp a.eval oi).run P w=.ok (.value v) w1:=by (go_simp;(try with_reducible rfl)))
  (hP:∀w',wpAnyH P md L.toArray Q S fuel (listed.setIfInBounds i true) (a.put oi.dst v) w'=X w':=by (intro w';simp only [Act.put,List.setIfInBounds_toArray,List.set_cons_zero,List.set_cons_succ];try rfl)):wpOp P L.toArray Q i (fun a' w'=>S w'∧wpAnyH P md L.toArray Q S fuel (listed.setIfInBounds i true) a' w') a w:=by
 have hi':L.toArray[i]?=some oi:=by simpa using hi
 unfold wpOp
 simp only [hi',hw,if_true]
 refine .inl ?_
 unfold Oper.wp
 rw [hx]
 exact ⟨hRS _ hR,(hP _).symm▸h _ (lh hR) (hRS _ hR)⟩
end
theorem Byt.chg {w w':World} {b off len:Nat} {zs:List Int} {L:List Nat} (h:Byt w (some ⟨b,off,none⟩) len zs) (hc:Ch w w' L) (hb:b<w.heap.size) (hL:b∉L):Byt w' (some ⟨b,off,none⟩) len zs:=by
 refine ⟨h.1,h.2.1,fun h0=>?_⟩
 obtain ⟨b',off',e,hcell⟩:=h.2.2 h0
 injection e with e;injection e with e1 e2;subst e1 e2
 exact ⟨b,off,rfl,fun i hi=>by rw [← hcell i hi];unfold World.cell?;rw [hc.block b hb hL]⟩
section
variable {w0 w:World} {g:Nat} {G:Foot} {I:In} {os rs:List Int} {p q:Ps} {c:Int} {bs ks:List Int}
theorem byt0 {w:World} {b n:Nat} {zs:List Int} (h:Byt w (some ⟨b,0,none⟩) n zs) (hn:0<n):w.cell? ⟨b,0,none⟩=some (.int .u8 (zs.getD 0 0)):=by
 obtain ⟨b',off,e,hc⟩:=h.2.2 hn
 injection e with e;injection e with e1 e2;subst e1 e2
 exact hc 0 hn
end
section
variable {w0 w:World} {g:Nat} {G:Foot} {I:In} {os rs:List Int} {p q:Ps} {c:Int} {bs ks:List Int}
theorem byt_from {w:World} {b n k:Nat} {zs:List Int} (h:Byt w (some ⟨b,0,none⟩) n zs) (hk:k≤n) (m:Nat) (hm:n - k=m):Byt w (some ⟨b,k,none⟩) m (zs.drop k):=by
 subst hm
 refine ⟨by rw [List.length_drop,h.1],fun z hz=>h.2.1 z (List.mem_of_mem_drop hz),fun h0=>⟨b,k,rfl,fun i hi=>?_⟩⟩
 obtain ⟨b',off,e,hc⟩:=h.2.2 (by omega)
 injection e with e;injection e with e1 e2;subst e1 e2
 have:=hc (k+i) (by omega)
 rw [Nat.zero_add] at this
 rw [this]
 simp [List.getD_eq_getElem?_getD,List.getElem?_drop]
end
section
variable {P:Program} {L:List Oper} {Q:Exit→Act→World→Prop} {md:Region.Mode} {S:World→Prop} {v:Value} {oi:Oper} {fuel:Nat} {listed:Array Bool} {a:Act} {w:World} {X:Prop}
theorem tki (i:Nat) (h:X) (hi:L[i]?=some oi:=by rfl) (hf:Region.free md L.toArray listed i=true:=by kernel_rfl) (hr:(Region.ready md L.toArray listed).contains i=true:=by kernel_rfl)
  (hw:Region.wanted oi (yielded L.toArray a.tmps)=true:=by rfl) (y:∀w,S w→(execOp a.eval oi).run P w=.ok (.value v) w:=by (intro w hSw;go_simp;(try with_reducible rfl)))
  (hP:wpAnyH P md L.toArray Q S fuel (listed.setIfInBounds i true) (a.put oi.dst v) w=X:=by (simp only [Act.put,List.setIfInBounds_toArray,List.set_cons_zero,List.set_cons_succ];try rfl))
  (hs:Region.noSelect L.toArray=true:=by kernel_rfl)
  (hQ:∀c a w,Q (.panic c) (a.put oi.dst v) w→Q (.panic c) a w:=by exact fun _ _ _ h=>h) (hS:S w:=by assumption):wpAnyH P md L.toArray Q S (fuel+1) listed a w:=takeL hi hs hf hr hQ (.inl ⟨hw,y⟩) hS (hP▸h)
theorem tkv {i:Nat} (h:X) (hr:Region.ready md L.toArray listed=[i]:=by with_unfolding_all rfl) (hi:L[i]?=some oi:=by rfl)
  (hw:Region.wanted oi (yielded L.toArray a.tmps)=true:=by rfl) (y:(execOp a.eval oi).run P w=.ok (.value v) w:=by (go_simp;(try with_reducible rfl)))
  (hP:wpAnyH P md L.toArray Q S fuel (listed.setIfInBounds i true) (a.put oi.dst v) w=X:=by (simp only [Act.put,List.setIfInBounds_toArray,List.set_cons_zero,List.set_cons_succ];try rfl))
  (hS:S w:=by assumption):wpAnyH P md L.toArray Q S (fuel+1) listed a w:=by
 refine tk1 hr ?_
 have hi':L.toArray[i]?=some oi:=by simpa using hi
 unfold wpOp
 simp only [hi',hw,if_true]
 refine .inl ?_
 unfold Oper.wp
 rw [y]
 exact ⟨hS,hP▸h⟩
end
section
variable {w w':World} {g:Nat} {T:TypeId} {cs:List Value}
theorem Bk.mid {l r:List Value} (h:Bk w g T (l++(cs++r))):w.rangeAt g l.length cs:=fun j v hv=>by
 refine h.cell ?_
 rw [List.getElem?_append_right (by omega),show l.length+j - l.length=j by omega]
 rw [List.getElem?_append_left (List.getElem?_eq_some_iff.1 hv).1];exact hv
theorem Bk.row (h:Bk w g T cs):w.rangeAt g 0 cs:=fun j v hv=>by rw [Nat.zero_add];exact h.cell hv
theorem Bk.rowSet (h:Bk w g T cs) (cs':List Value):Bk (w.setRow g cs'.toArray) g T cs':=by
 unfold Bk at h ⊢
 unfold World.setRow
 simp only [Array.getElem?_modify,if_pos,h]
 rfl
theorem Bk.rowOth (h:Bk w g T cs) {k:Nat} (hk:g≠k) (cs':Array Value):Bk (w.setRow k cs') g T cs:=h.kept (setRow_other w k g cs' hk)
theorem Ch.row {a:World} {L:List Nat} (h:Ch a w L) {k:Nat} (hk:k∈L∨a.heap.size≤k) (cs':Array Value):Ch a (w.setRow k cs') L:=
 ⟨h.os,h.tape,h.output,by have:=h.size;simpa [World.setRow] using this,fun i hi hL=>(setRow_other w k i cs' (by rintro rfl;rcases hk with hk | hk;exact hL hk;omega)).trans (h.block i hi hL)⟩
theorem St.rowOth {F:Foot} {bs ks:List Int} {S:TypeId} (h:St S w F bs ks) {k:Nat} (h1:F.g≠k) (h2:F.gb≠k) (h3:F.gk≠k) (cs':Array Value):St S (w.setRow k cs') F bs ks:=h.keep (setRow_other w k _ cs' h1) (setRow_other w k _ cs' h2) (setRow_other w k _ cs' h3)
def isRw (T:TypeId):Prop:=(Tryz.prog.underlying T).map TypeDesc.isRow=some true
theorem isRw_some {T:TypeId} (h:isRw T):∃d,Tryz.prog.underlying T=some d∧d.isRow=true:=by
 unfold isRw at h
 cases hu:Tryz.prog.underlying T with
 | none=>rw [hu] at h;cases h
 | some d=>rw [hu] at h;exact ⟨d,rfl,by injection h⟩
theorem Bk.opn10 {X:Prop} {v0 v1 v2 v3 v4 v5 v6 v7 v8 v9:Value} (h:Bk w g T [v0,v1,v2,v3,v4,v5,v6,v7,v8,v9]) (hX:w.cell? ⟨g,0,none⟩=some v0→w.cell? ⟨g,1,none⟩=some v1→w.cell? ⟨g,2,none⟩=some v2→w.cell? ⟨g,3,none⟩=some v3→w.cell? ⟨g,4,none⟩=some v4→w.cell? ⟨g,5,none⟩=some v5→w.cell? ⟨g,6,none⟩=some v6→w.cell? ⟨g,7,none⟩=some v7→w.cell? ⟨g,8,none⟩=some v8→w.cell? ⟨g,9,none⟩=some v9→X):X:=hX (h.cell rfl) (h.cell rfl) (h.cell rfl) (h.cell rfl) (h.cell rfl) (h.cell rfl) (h.cell rfl) (h.cell rfl) (h.cell rfl) (h.cell rfl)
theorem Bk.opn12 {X:Prop} {v0 v1 v2 v3 v4 v5 v6 v7 v8 v9 v10 v11:Value} (h:Bk w g T [v0,v1,v2,v3,v4,v5,v6,v7,v8,v9,v10,v11]) (hX:w.cell? ⟨g,0,none⟩=some v0→w.cell? ⟨g,1,none⟩=some v1→w.cell? ⟨g,2,none⟩=some v2→w.cell? ⟨g,3,none⟩=some v3→w.cell? ⟨g,4,none⟩=some v4→w.cell? ⟨g,5,none⟩=some v5→w.cell? ⟨g,6,none⟩=some v6→w.cell? ⟨g,7,none⟩=some v7→w.cell? ⟨g,8,none⟩=some v8→w.cell? ⟨g,9,none⟩=some v9→w.cell? ⟨g,10,none⟩=some v10→w.cell? ⟨g,11,none⟩=some v11→X):X:=hX (h.cell rfl) (h.cell rfl) (h.cell rfl) (h.cell rfl) (h.cell rfl) (h.cell rfl) (h.cell rfl) (h.cell rfl) (h.cell rfl) (h.cell rfl) (h.cell rfl) (h.cell rfl)
theorem ld_row (h:Bk w g T cs) (hd:isRw T:=by unfold isRw;kernel_rfl) (hi:(Tryz.prog.info? T).map (·.size)=some cs.length:=by kernel_rfl):(Instr.loadAt T (.pointer (some ⟨g,0,none⟩))).run Tryz.prog w=.ok (.agg cs.toArray) w:=by
 obtain ⟨d,hu,hd⟩:=isRw_some hd
 exact run_loadAt_mid w g 0 T cs d h.row hu hd hi
theorem st_row (h:Bk w g T cs) {cs':List Value} (hl:cs.length=cs'.length) (h1:cs'.toArray.all (·.oneCell')=true) (hi:(Tryz.prog.info? T).map (·.size)=some cs'.length):(Instr.storeAt T (.pointer (some ⟨g,0,none⟩)) (.agg cs'.toArray)).run Tryz.prog w=.ok () (w.setRow g cs'.toArray):=by
 simp only [Instr.storeAt,Instr.sureAddr,Sem.run_bind,Sem.run_pure,Result.andThen_ok,run_storeVar_row w g T T cs.toArray cs'.toArray h (by simpa using hi) (by simpa using hl) h1]
end
section
variable {L:List Oper} {Q:Exit→Act→World→Prop} {md:Region.Mode} {S:World→Prop} {v:Value} {oi:Oper} {fuel:Nat} {listed:Array Bool} {a:Act} {w:World} {X:Prop}
theorem tkl (i:Nat) {g o:Nat} {T:TypeId} {x:Operand} {cs:List Value} (hR:∀w,S w→w.rangeAt g o cs) (h:X) (hi:L[i]?=some oi:=by rfl) (ho:oi.op=.load T x:=by rfl) (hx:a.eval x=.pointer (some ⟨g,o,none⟩):=by rfl) (hd:isRw T:=by unfold isRw;kernel_rfl) (hn:(Tryz.prog.info? T).map (·.size)=some cs.length:=by kernel_rfl) (hf:Region.free md L.toArray listed i=true:=by kernel_rfl) (hr:(Region.ready md L.toArray listed).contains i=true:=by kernel_rfl)
  (hw:Region.wanted oi (yielded L.toArray a.tmps)=true:=by rfl)
  (hP:wpAnyH Tryz.prog md L.toArray Q S fuel (listed.setIfInBounds i true) (a.put oi.dst (.agg cs.toArray)) w=X:=by (simp only [Act.put,List.setIfInBounds_toArray,List.set_cons_zero,List.set_cons_succ];try rfl))
  (hs:Region.noSelect L.toArray=true:=by kernel_rfl)
  (hQ:∀c a w,Q (.panic c) (a.put oi.dst (.agg cs.toArray)) w→Q (.panic c) a w:=by exact fun _ _ _ h=>h) (hS:S w:=by assumption):wpAnyH Tryz.prog md L.toArray Q S (fuel+1) listed a w:=by
 obtain ⟨d,hu,hd⟩:=isRw_some hd
 exact takeL hi hs hf hr hQ (yieldsIf_load_mid hw T x ho g o hx cs d hR hu hd hn) hS (hP▸h)
theorem tks_ {i:Nat} {g:Nat} {T:TypeId} {x y:Operand} {cs cs':List Value} {R:World→Prop} {X:World→Prop} (hB:Bk w g T cs) (hl:cs.length=cs'.length) (h1:cs'.toArray.all (·.oneCell')=true) (hn:(Tryz.prog.info? T).map (·.size)=some cs'.length) (hR:R (w.setRow g cs'.toArray)) (hRS:∀w',R w'→S w') (h:∀w',Hid (R w')→S w'→X w') (hr:Region.ready md L.toArray listed=[i]:=by with_unfolding_all rfl) (hi:L[i]?=some oi:=by rfl) (ho:oi.op=.store T x y:=by rfl) (hx:a.eval x=.pointer (some ⟨g,0,none⟩):=by rfl) (hy:a.eval y=.agg cs'.toArray:=by rfl)
  (hw:Region.wanted oi (yielded L.toArray a.tmps)=true:=by rfl)
  (hP:∀w',wpAnyH Tryz.prog md L.toArray Q S fuel (listed.setIfInBounds i true) (a.put oi.dst undef) w'=X w':=by (intro w';simp only [Act.put,List.setIfInBounds_toArray,List.set_cons_zero,List.set_cons_succ];try rfl)):wpAnyH Tryz.prog md L.toArray Q S (fuel+1) listed a w:=by
 refine tkw hR hRS h hr hi hw ?_ hP
 unfold execOp
 simp only [ho,hx,hy]
 simp only [Sem.run_bind,st_row hB hl h1 hn,Result.andThen_ok,Sem.run_pure]
end
section
variable {w0 w w':World} {g:Nat} {F:Foot} {I:In} {os rs:List Int} {p q:Ps} {ov:Bool} {bs ks:List Int}
theorem nxd {b:Bool} {c:Int} {Q:Ending→World→Prop} (h:b=true→Q (.returned (.tuple #[])) w) (h':b=false→Q (.panicked [{ v:=.iface 124 (.int .i64 c),recovered:=false }]) w):Calls Tryz.prog 108 #[.bool b,.int .i64 c] w Q:=by
 cases b
 ·exact (need_no c w).mono fun e w' he=>by obtain ⟨rfl,rfl⟩:=he;exact h' rfl
 ·exact (need_ok c w).mono fun e w' he=>by obtain ⟨rfl,rfl⟩:=he;exact h rfl
theorem st_u32 {a:Addr} {x:Int} {v:Value} (h:w.cell? a=some v) (hf:w.frozen? a=false):(Instr.storeAt 23 (.pointer (some a)) (.int .u32 x)).run Tryz.prog w=.ok () (w.setCell a (.int .u32 x)):=by go_simp
theorem st_int {a:Addr} {x:Int} {v:Value} (h:w.cell? a=some v) (hf:w.frozen? a=false):(Instr.storeAt 3 (.pointer (some a)) (.int .i64 x)).run Tryz.prog w=.ok () (w.setCell a (.int .i64 x)):=by go_simp
theorem st_bool {a:Addr} {x:Bool} {v:Value} (h:w.cell? a=some v) (hf:w.frozen? a=false):(Instr.storeAt 4 (.pointer (some a)) (.bool x)).run Tryz.prog w=.ok () (w.setCell a (.bool x)):=by go_simp
theorem st_u8 {a:Addr} {x:Int} {v:Value} (h:w.cell? a=some v) (hf:w.frozen? a=false):(Instr.storeAt 5 (.pointer (some a)) (.int .u8 x)).run Tryz.prog w=.ok () (w.setCell a (.int .u8 x)):=by go_simp
section
variable {L:List Oper} {Q:Exit→Act→World→Prop} {md:Region.Mode} {S:World→Prop} {i:Nat} {oi:Oper} {fuel:Nat} {listed:Array Bool} {a:Act}
theorem tk_st {T:TypeId} {x y:Operand} {A:Addr} {v:Value} {R:World→Prop} {X:World→Prop} (hst:(Instr.storeAt T (.pointer (some A)) v).run Tryz.prog w=.ok () (w.setCell A v)) (hR:R (w.setCell A v)) (hRS:∀w',R w'→S w') (h:∀w',Hid (R w')→S w'→X w') (hr:Region.ready md L.toArray listed=[i]) (hi:L[i]?=some oi) (ho:oi.op=.store T x y) (hx:a.eval x=.pointer (some A)) (hy:a.eval y=v)
  (hw:Region.wanted oi (yielded L.toArray a.tmps)=true)
  (hP:∀w',wpAnyH Tryz.prog md L.toArray Q S fuel (listed.setIfInBounds i true) (a.put oi.dst undef) w'=X w'):wpAnyH Tryz.prog md L.toArray Q S (fuel+1) listed a w:=by
 refine tkw hR hRS h hr hi hw ?_ hP
 unfold execOp
 simp only [ho,hx,hy]
 simp only [Sem.run_bind,hst,Result.andThen_ok,Sem.run_pure]
theorem tpr {n:Nat} {v:Int} {x y:Operand} {X:World→Prop} (hR:PS w0 w g F I os rs p q ov bs ks) (hn:n<16) (h:∀w',Hid (PS w0 w' g F I os (rs.set n v) p q ov bs ks)→S w'→X w') (hr:Region.ready md L.toArray listed=[i]:=by with_unfolding_all rfl) (hi:L[i]?=some oi:=by rfl) (ho:oi.op=.store 23 x y:=by rfl) (hx:a.eval x=.pointer (some ⟨g,28+n,none⟩):=by rfl) (hy:a.eval y=.int .u32 v:=by rfl)
  (hw:Region.wanted oi (yielded L.toArray a.tmps)=true:=by rfl)
  (hRS:∀w',PS w0 w' g F I os (rs.set n v) p q ov bs ks→S w':=by first | exact fun _ h=>h.x | exact fun _ h=>h.z)
  (hP:∀w',wpAnyH Tryz.prog md L.toArray Q S fuel (listed.setIfInBounds i true) (a.put oi.dst undef) w'=X w':=by (intro w';simp only [Act.put,List.setIfInBounds_toArray,List.set_cons_zero,List.set_cons_succ];try rfl)):wpAnyH Tryz.prog md L.toArray Q S (fuel+1) listed a w:=tk_st (st_u32 (hR.m.cr hn) (hR.fz _)) (hR.setr hn v) hRS h hr hi ho hx hy hw hP
theorem tpc {v:Int} {x y:Operand} {X:World→Prop} (hR:PS w0 w g F I os rs p q ov bs ks) (h:∀w',Hid (PS w0 w' g F I os rs p { q with cc:=v } ov bs ks)→S w'→X w') (hr:Region.ready md L.toArray listed=[i]:=by with_unfolding_all rfl) (hi:L[i]?=some oi:=by rfl) (ho:oi.op=.store 3 x y:=by rfl) (hx:a.eval x=.pointer (some ⟨g,51,none⟩):=by rfl) (hy:a.eval y=.int .i64 v:=by rfl)
  (hw:Region.wanted oi (yielded L.toArray a.tmps)=true:=by rfl)
  (hRS:∀w',PS w0 w' g F I os rs p { q with cc:=v } ov bs ks→S w':=by first | exact fun _ h=>h.x | exact fun _ h=>h.z)
  (hP:∀w',wpAnyH Tryz.prog md L.toArray Q S fuel (listed.setIfInBounds i true) (a.put oi.dst undef) w'=X w':=by (intro w';simp only [Act.put,List.setIfInBounds_toArray,List.set_cons_zero,List.set_cons_succ];try rfl)):wpAnyH Tryz.prog md L.toArray Q S (fuel+1) listed a w:=tk_st (st_int (hR.m.cp (n:=7) (by omega)) (hR.fz _)) (hR.setcc v) hRS h hr hi ho hx hy hw hP
theorem tpv {v:Bool} {x y:Operand} {X:World→Prop} (hR:PS w0 w g F I os rs p q ov bs ks) (h:∀w',Hid (PS w0 w' g F I os rs p q v bs ks)→S w'→X w') (hr:Region.ready md L.toArray listed=[i]:=by with_unfolding_all rfl) (hi:L[i]?=some oi:=by rfl) (ho:oi.op=.store 4 x y:=by rfl) (hx:a.eval x=.pointer (some ⟨g,55,none⟩):=by rfl) (hy:a.eval y=.bool v:=by rfl)
  (hw:Region.wanted oi (yielded L.toArray a.tmps)=true:=by rfl)
  (hRS:∀w',PS w0 w' g F I os rs p q v bs ks→S w':=by first | exact fun _ h=>h.x | exact fun _ h=>h.z)
  (hP:∀w',wpAnyH Tryz.prog md L.toArray Q S fuel (listed.setIfInBounds i true) (a.put oi.dst undef) w'=X w':=by (intro w';simp only [Act.put,List.setIfInBounds_toArray,List.set_cons_zero,List.set_cons_succ];try rfl)):wpAnyH Tryz.prog md L.toArray Q S (fuel+1) listed a w:=tk_st (st_bool (hR.m.cv) (hR.fz _)) (hR.setov v) hRS h hr hi ho hx hy hw hP
theorem tkz {f:FuncId} {args:Array Value} {v:Value} {X:Prop} (hc:Calls Tryz.prog f args w fun e w'=>e=.returned v∧w=w') (h:X) (hr:Region.ready md L.toArray listed=[i]:=by with_unfolding_all rfl) (hi:L[i]?=some oi:=by rfl)
  (hw:Region.wanted oi (yielded L.toArray a.tmps)=true:=by rfl) (hx:(execOp a.eval oi).run Tryz.prog w=.ok (.enter f args) w:=by (go_simp;(try with_reducible rfl)))
  (hP:wpAnyH Tryz.prog md L.toArray Q S fuel (listed.setIfInBounds i true) (a.put oi.dst v) w=X:=by (simp only [Act.put,List.setIfInBounds_toArray,List.set_cons_zero,List.set_cons_succ];try rfl)) (hS:S w:=by assumption):wpAnyH Tryz.prog md L.toArray Q S (fuel+1) listed a w:=by
 refine ⟨fun h0=>(by rw [hr] at h0;cases h0),fun j hj=>?_⟩
 rw [hr,List.mem_singleton] at hj
 subst hj
 have hi':L.toArray[j]?=some oi:=by simpa using hi
 unfold wpOp
 simp only [hi',hw,if_true]
 refine .inl ?_
 unfold Oper.wp
 rw [hx]
 refine Calls.mono hc fun e w' he=>?_
 obtain ⟨rfl,rfl⟩:=he
 exact ⟨hS,hP▸h⟩
end
theorem nz {P:Program} {f:FuncId} {args:Array Value} {v:Value} {Q:Ending→World→Prop} (hc:Calls P f args w fun e w'=>e=.returned v∧w=w') (h:Q (.returned v) w):Calls P f args w Q:=hc.mono fun _ _ ⟨he,hw⟩=>he▸hw▸h
theorem pset_c (h:PS w0 w g F I os rs p q ov bs ks) (v cc:Int) (o:Bool):Calls Tryz.prog 106 #[.pointer (some ⟨g,0,none⟩),.int .u32 v,.int .i64 cc,.bool o] w fun e w'=>e=.returned (.tuple #[])∧PS w0 w' g F I os (rs.set I.n v) p { q with cc:=cc } o bs ks:=by
 have R0:=lh h
 have hn:=h.ix.n
 clear h
 go_enter Tryz.func106,Tryz.ntmps106
 go_upto_region 0 with fail
 refine wp_region_held_drew (S:=Sy w0 g F I os p) (by kernel_rfl) R0.out.drew.x (fun hHeld=>?_)
 have R1:=lh R0.out.drew
 repeat refine tkp ?_
 refine tpr R1.out hn ?_
 clear R1 hHeld
 intro w2 R2 hHeld
 repeat refine tkp ?_
 refine tpc R2.out ?_
 clear R2 hHeld
 intro w3 R3 hHeld
 refine wpAnyH_done (by with_unfolding_all rfl) ?_ _
 refine R3.out.opn ?_
 clear hHeld
 intros
 go_wp2
 go_end0
 exact ⟨rfl,R3.out.setov o⟩
theorem pbits_c (h:PS w0 w g F I os rs p q ov bs ks) (v:Int):Calls Tryz.prog 139 #[.pointer (some ⟨g,0,none⟩),.int .u32 v] w fun e w'=>e=.returned (.tuple #[])∧PS w0 w' g F I os (rs.set I.n v) p { q with cc:=nzC v } false bs ks:=by
 have R0:=lh h
 clear h
 unfold nzC
 by_cases hz:v=0
 ·have e0:(v == 0)=true:=by simpa using hz
  rw [if_pos hz]
  clear hz
  go_enter Tryz.func139,Tryz.ntmps139
  go_wp2_with (go_at_call 106;refine nx (pset_c R0.out _ _ _) ?_;intro w1 R1;refine R1.out.opn ?_;intros)
  go_end0
  exact ⟨rfl,R1.out.setcc 0⟩
 ·have e0:(v == 0)=false:=by simpa using hz
  rw [if_neg hz]
  clear hz
  go_enter Tryz.func139,Tryz.ntmps139
  go_wp2_with (go_at_call 106;refine nx (pset_c R0.out _ _ _) ?_;intro w1 R1)
  go_end0
  exact ⟨rfl,R1.out⟩
theorem pfst_c (h:PS w0 w g F I os rs p q ov bs ks):Calls Tryz.prog 119 #[.pointer (some ⟨g,0,none⟩)] w fun e w'=>e=.returned (.int .i64 (I.a1 os))∧PS w0 w' g F I os rs p q ov bs ks:=
 (first_c g I.b I.d I.z os rs q.v _ ov w h.m h.ro rfl h.ix.d.1 h.ix.d.2 rfl h.ix.b).mono fun _ _ hh=>⟨hh.1,h.keep (hh.2.below (Nat.le_refl _) (by simp))⟩
theorem psec_c (h:PS w0 w g F I os rs p q ov bs ks):Calls Tryz.prog 74 #[.pointer (some ⟨g,0,none⟩)] w fun e w'=>e=.returned (.int .i64 (I.a os))∧PS w0 w' g F I os rs p q ov bs ks:=
 (second_c g I.b' I.x I.d' I.z os rs q.v _ ov w h.m h.ro rfl h.ix.d'.1 h.ix.d'.2 rfl h.ix.b' rfl h.ix.x).mono fun _ _ hh=>⟨hh.1,h.keep (hh.2.below (Nat.le_refl _) (by simp))⟩
def FdP (w0 w:World) (g:Nat) (F:Foot) (I:In) (os rs:List Int) (p q:Ps) (ov:Bool) (bs ks:List Int) (a:Int) (n:Nat) (v:Value) (w':World):Prop:=sCode (alF p.key) bs.length ks a n=0∧∃b cap,v=.slice (some ⟨b,0,none⟩) n cap∧Own w' w.heap.size v n (sGet bs a n)∧w.heap.size≤b∧b<w'.heap.size∧PS w0 w' g F I os rs p q ov bs ks
theorem pfet_c (h:PS w0 w g F I os rs p q ov bs ks) (a:Int) (n:Nat) (n0:0<n):Calls Tryz.prog 116 #[.pointer (some ⟨g,0,none⟩),.int .i64 a,.int .i64 (n:Int)] w (Th (FdP w0 w g F I os rs p q ov bs ks a n) (sCode (alF p.key) bs.length ks a n) (fun w'=>sCode (alF p.key) bs.length ks a n≠0∧PS w0 w' g F I os rs p q ov bs ks)):=by
 have FC:=lh (fetch_c w.drew (h.st.drewN 1) a n p.key)
 obtain ⟨cd,hcd⟩:∃x,sCode (alF p.key) bs.length ks a n=x:=⟨_,rfl⟩
 have hsf:sFet (alF p.key) bs ks a n=if cd=0 then sGet bs a n else []:=by unfold sFet;rw [hcd]
 have hgl:cd=0→(sGet bs a n).length=n:=by
  intro hz
  have h1:=sCode_zero (hcd.trans hz)
  obtain ⟨_,_,_,_⟩:=sIn_yes h1
  unfold sGet;rw [if_pos h1];simp;omega
 have hfd:∀v w',(cd=0∧∃b cap,v=.slice (some ⟨b,0,none⟩) n cap∧Own w' w.heap.size v n (sGet bs a n)∧w.heap.size≤b∧b<w'.heap.size∧PS w0 w' g F I os rs p q ov bs ks)→FdP w0 w g F I os rs p q ov bs ks a n v w':=fun v w' h=>⟨hcd.trans h.1,h.2⟩
 have HFD:=lh hfd
 rw [hcd] at FC ⊢
 rw [hsf] at FC
 clear hfd
 have HL:=lh hgl
 have R0:=lh h
 clear hcd hsf hgl h
 go_enter Tryz.func116,Tryz.ntmps116
 go_upto_region 1 with fail
 refine wp_region_held_drew (S:=Sy w0 g F I os p) (by kernel_rfl) R0.out.drew.x (fun hHeld=>?_)
 have R1:=lh R0.out.drew
 repeat refine tkp ?_
 refine tkce (R:=fun v w'=>∃A m cap,v=.tuple #[.slice A m cap,.int .i64 cd]∧Own w' w.heap.size (.slice A m cap) m (if cd=0 then sGet bs a n else [])∧PS w0 w' g F I os rs p q ov bs ks) (FC.out.mono ?_) (fun _ _ ⟨_,_,_,_,_,h⟩=>h.x) ?_
 ·rintro e w' ⟨A,m,cap,rfl,hO,hb⟩
  exact ⟨_,rfl,A,m,cap,rfl,hO,R1.out.keep hb⟩
 clear hHeld R1 FC
 intro v w1 R1 hHeld
 obtain ⟨A,m,cap,rfl,hO,hR⟩:=R1.out
 have O1:=lh hO
 replace R1:=lh hR
 clear hO hR
 repeat refine tkp ?_
 refine wpAnyH_done (by with_unfolding_all rfl) ?_ _
 clear hHeld
 by_cases hz:cd=0
 ·subst hz
  rw [if_pos rfl] at O1
  go_wp2_with (go_at_call 108;refine nxd (fun _=>?_) (fun h=>by cases h))
  go_ret
  have hm:m=n:=by have:=O1.out.len;rw [HL.out trivial] at this;exact this.symm
  subst hm
  obtain ⟨b,cap',hv,h1,h2,-,-⟩:=O1.out.pos n0
  injection hv with e1 e2 e3
  subst e1 e3
  (refine Th.ok ?_;exact HFD.out _ _ ⟨by trivial,b,_,rfl,O1.out,h1,h2,R1.out⟩)
 ·have e1:(cd == 0)=false:=by simpa using hz
  have HZ:=lh hz
  clear hz
  go_wp2_with (go_at_call 108;refine nxd (fun h=>by cases h) (fun _=>?_))
  (refine ⟨rfl,Th.no rfl ?_⟩;exact ⟨HZ.out,R1.out⟩)
theorem pput_c (h:PS w0 w g F I os rs p q ov bs ks) (a:Int) (A:Option Addr) (len cap:Nat) (ys:List Int) (hy:Byt w A len ys) (hl:(len:Int)≤9223372036854775807):Calls Tryz.prog 113 #[.pointer (some ⟨g,0,none⟩),.int .i64 a,.slice A len cap] w (Th (fun v w'=>v=.tuple #[]∧sCode (alP p.key) bs.length ks a len=0∧PS w0 w' g F I os rs p q ov (sPut (alP p.key) bs ks a ys) ks) (sCode (alP p.key) bs.length ks a len) (fun w'=>sCode (alP p.key) bs.length ks a len≠0∧PS w0 w' g F I os rs p q ov bs ks)):=by
 have PC:=lh (put_c w.drew (h.st.drewN 1) a p.key A len cap ys (hy.keep (below_draw w 1)) hl)
 have hsame:sCode (alP p.key) bs.length ks a len≠0→sPut (alP p.key) bs ks a ys=bs:=by
  intro hc
  unfold sPut
  rw [hy.1,if_neg hc]
 obtain ⟨cd,hcd⟩:∃x,sCode (alP p.key) bs.length ks a len=x:=⟨_,rfl⟩
 rw [hcd] at PC hsame ⊢
 obtain ⟨bs',hbs⟩:∃x,sPut (alP p.key) bs ks a ys=x:=⟨_,rfl⟩
 rw [hbs] at PC hsame ⊢
 have HS:=lh hsame
 have R0:=lh h
 clear hcd hbs hsame hy h
 go_enter Tryz.func113,Tryz.ntmps113
 go_upto_region 0 with fail
 refine wp_region_held_drew (S:=Sy w0 g F I os p) (by kernel_rfl) R0.out.drew.x (fun hHeld=>?_)
 have R1:=lh R0.out.drew
 repeat refine tkp ?_
 refine tkc (R:=fun w'=>PS w0 w' g F I os rs p q ov bs' ks) (PC.out.mono fun e w' he=>⟨he.1,R1.out.put_ he.2.1 he.2.2⟩) (fun _ h=>h.x) ?_
 clear hHeld R1 PC
 intro w1 R1 hHeld
 repeat refine tkp ?_
 refine wpAnyH_done (by with_unfolding_all rfl) ?_ _
 clear hHeld
 by_cases hz:cd=0
 ·subst hz
  go_wp2_with (go_at_call 108;refine nxd (fun _=>?_) (fun h=>by cases h))
  go_end0
  (refine Th.ok ?_;first | exact ⟨rfl,rfl,R1.out⟩ | exact ⟨rfl,R1.out⟩)
 ·have e1:(cd == 0)=false:=by simpa using hz
  have HZ:=lh hz
  clear hz
  go_wp2_with (go_at_call 108;refine nxd (fun h=>by cases h) (fun _=>?_))
  (refine ⟨rfl,Th.no rfl ?_⟩;exact ⟨HZ.out,HS.out HZ.out▸R1.out⟩)
theorem paln_c (h:PS w0 w g F I os rs p q ov bs ks) (n:Int) (hn:n=2∨n=4):Calls Tryz.prog 114 #[.pointer (some ⟨g,0,none⟩),.int .i64 n] w (Th (fun v w'=>v=.int .i64 (I.a os)∧I.a os % n=0∧PS w0 w' g F I os rs p q ov bs ks) 6 (fun w'=>¬ I.a os % n=0∧PS w0 w' g F I os rs p q ov bs ks)):=by
 have RA:=lh (psec_c h)
 have a0:=I.a_in os
 obtain ⟨A,hA⟩:∃A,I.a os=A:=⟨_,rfl⟩
 rw [hA] at RA a0 ⊢
 clear h hA
 have e1:IntKind.i64.wrap (A.tmod n)=A % n:=by rcases hn with rfl | rfl<;>rw [Int.tmod_eq_emod_of_nonneg a0.1]<;>exact wrap_i64_id (by omega) (by omega)
 have e2:(n == 0)=false:=by rcases hn with rfl | rfl<;>rfl
 have e3:¬ n=0:=by omega
 have e4:¬ n = -1:=by omega
 have HN:=lh hn
 clear hn
 by_cases hz:A % n=0
 ·have e0:(A % n == 0)=true:=by simpa using hz
  have HZ:=lh hz
  clear hz
  go_enter Tryz.func114,Tryz.ntmps114
  go_wp2_with (first
   | (go_at_call 74;refine nx RA.out ?_;intro w1 R1)
   | (go_at_call 108;refine nxd (fun _=>?_) (fun h=>by cases h)))
  go_ret
  (refine Th.ok ?_;exact ⟨rfl,HZ.out,R1.out⟩)
 ·have e0:(A % n == 0)=false:=by simpa using hz
  have HZ:=lh hz
  clear hz
  go_enter Tryz.func114,Tryz.ntmps114
  go_wp2_with (first
   | (go_at_call 74;refine nx RA.out ?_;intro w1 R1)
   | (go_at_call 108;refine nxd (fun h=>by cases h) (fun _=>?_)))
  (refine ⟨rfl,Th.no rfl ?_⟩;exact ⟨HZ.out,R1.out⟩)
end
section
variable {w0 w w':World} {g:Nat} {F:Foot} {I:In} {os rs:List Int} {p q:Ps} {ov:Bool} {bs ks:List Int}
theorem nxk {P:Program} {f:FuncId} {args:Array Value} {v0:Value} {c:Int} {cnd ncnd:Prop} {R R':World→Prop} {Q:Ending→World→Prop} (hc:Calls P f args w (Th (fun v w'=>v=v0∧cnd∧R w') c (fun w'=>ncnd∧R' w'))) (h:∀w',Hid cnd→Hid (R w')→Q (.returned v0) w') (h':∀w',Hid ncnd→Hid (R' w')→Q (.panicked [{ v:=.iface 124 (.int .i64 c),recovered:=false }]) w'):Calls P f args w Q:=
 hc.mono fun e w' he=>by
  rcases he with ⟨v,rfl,rfl,h1,h2⟩ | ⟨rfl,h1,h2⟩
  ·exact h w' (lh h1) (lh h2)
  ·exact h' w' (lh h1) (lh h2)
theorem nxh {P:Program} {f:FuncId} {args:Array Value} {c:Int} {ncnd:Prop} {R':World→Prop} {a:Int} {n:Nat} {Q:Ending→World→Prop} (hc:Calls P f args w (Th (FdP w0 w g F I os rs p q ov bs ks a n) c (fun w'=>ncnd∧R' w'))) (h:∀b cap w',Hid (sCode (alF p.key) bs.length ks a n=0)→Hid (Own w' w.heap.size (.slice (some ⟨b,0,none⟩) n cap) n (sGet bs a n))→w.heap.size≤b→b<w'.heap.size→Hid (PS w0 w' g F I os rs p q ov bs ks)→Q (.returned (.slice (some ⟨b,0,none⟩) n cap)) w') (h':∀w',Hid ncnd→Hid (R' w')→Q (.panicked [{ v:=.iface 124 (.int .i64 c),recovered:=false }]) w'):Calls P f args w Q:=
 hc.mono fun e w' he=>by
  rcases he with ⟨v,rfl,h0,b,cap,rfl,h1,h2,h3,h4⟩ | ⟨rfl,h1,h2⟩
  ·exact h b cap w' (lh h0) (lh h1) h2 h3 (lh h4)
  ·exact h' w' (lh h1) (lh h2)
def Gp (w0:World) (g:Nat) (F:Foot) (I:In) (os:List Int) (p:Ps) (bs ks:List Int) (o:Out) (e:Ending) (w':World):Prop:=
 (o.c=0→e=.returned (.tuple #[])∧PS w0 w' g F I os o.rs p (p.to o.cc o.pg o.ad) o.ov o.bs ks)∧(o.c≠0→e=Pn o.c∧∃rs q ov,PS w0 w' g F I os rs p q ov bs ks)
theorem gp_ok {o:Out} {bs':List Int} (hR:PS w0 w g F I os rs p q ov bs' ks) (ho:o=⟨0,rs,q.cc,q.pg,q.ad,ov,bs'⟩):Gp w0 g F I os p bs ks o (.returned (.tuple #[])) w:=by
 subst ho
 exact ⟨fun _=>⟨rfl,hR.hq▸hR⟩,fun h=>absurd rfl h⟩
theorem gp_no {o:Out} {c:Int} (hR:PS w0 w g F I os rs p q ov bs ks) (hc:o.c=c) (h0:c≠0):Gp w0 g F I os p bs ks o (.panicked [{ v:=.iface 124 (.int .i64 c),recovered:=false }]) w:=by
 subst hc
 exact ⟨fun h=>absurd h h0,fun _=>⟨rfl,_,_,_,hR⟩⟩
theorem popd_c (h:PS w0 w g F I os rs p q ov bs ks):Calls Tryz.prog 133 #[.pointer (some ⟨g,0,none⟩)] w (Th (fun v w'=>v=.int .u32 (opV I.op I.fm os I.k bs (I.a os))∧opC I.op I.fm bs ks p.key (I.a os)=0∧PS w0 w' g F I os rs p q ov bs ks) (opC I.op I.fm bs ks p.key (I.a os)) (fun w'=>opC I.op I.fm bs ks p.key (I.a os)≠0∧PS w0 w' g F I os rs p q ov bs ks)):=by
 unfold opV opC
 by_cases h1:I.fm=1
 ·rw [if_pos h1,if_pos h1]
  obtain ⟨v,hv⟩:∃v,os.getD I.k 0=v:=⟨_,rfl⟩
  rw [hv]
  have HV:=lh hv
  have e1:(I.fm == 1)=true:=by simpa using h1
  clear h1 hv
  refine h.opn ?_
  clear h
  intro R0
  intros
  go_enter Tryz.func133,Tryz.ntmps133
  go_upto_region 4 with fail
  refine wp_region_held_drew (S:=Sy w0 g F I os p) (by kernel_rfl) R0.out.drew.x (fun hHeld=>?_)
  have R1:=lh R0.out.drew
  repeat refine tkp ?_
  refine wpAnyH_done (by kernel_rfl) ?_ _
  go_wp2
  go_ret
  (refine Th.ok ?_;first | exact ⟨rfl,rfl,R1.out⟩ | exact ⟨rfl,trivial,R1.out⟩)
 rw [if_neg h1,if_neg h1]
 have e1:(I.fm == 1)=false:=by simpa using h1
 clear h1
 have A0:=I.a_in os
 obtain ⟨A,hA⟩:∃A,I.a os=A:=⟨_,rfl⟩
 rw [hA] at A0 ⊢
 have HA:=lh hA
 clear hA
 by_cases h2:72≤I.op∧I.op≤76
 ·rw [if_pos h2,if_pos h2]
  obtain ⟨h2,h3⟩:=h2
  have e2:I.op≥72:=h2
  clear h2
  obtain ⟨C,hC⟩:∃C,(if A % 2=0 then sCode (alF p.key) bs.length ks A 2 else 6)=C:=⟨_,rfl⟩
  obtain ⟨V,hV⟩:∃V,g2V bs A=V:=⟨_,rfl⟩
  rw [hC,hV]
  have HC:=lh hC
  have HV:=lh hV
  clear hC hV
  refine h.opn ?_
  clear h
  intro R0
  intros
  go_enter Tryz.func133,Tryz.ntmps133
  go_wp2_with (first
   | (go_at_call 114;refine nxk (HA.out▸paln_c hout 2 (.inl rfl)) (fun w1 Z1 R1=>?_) (fun w1 Z1 R1=>?_))
   | (go_at_call 116;refine nxh (pfet_c R1.out A 2 (by omega)) (fun b cap w1 Z2 O1 hb1 hb2 R1=>?_) (fun w1 Z2 R1=>?_))
   | (go_at_call 168;refine (half_any _ _ _ 0 _ _ (by omega) O1.out.byt (by omega) (by omega)).mono ?_;rintro e wx ⟨rfl,nd,rfl⟩))
  all_goals first
   | (go_ret;refine Th.ok ?_;exact ⟨by rw [← HV.out];rfl,by rw [← HC.out,if_pos Z1.out];exact Z2.out,R1.out.drewN _⟩)
   | (refine ⟨rfl,Th.no (by rw [← HC.out,if_pos Z1.out]) ?_⟩;exact ⟨by rw [← HC.out,if_pos Z1.out];exact Z2.out,R1.out⟩)
   | (refine ⟨rfl,Th.no (by rw [← HC.out,if_neg Z1.out]) ?_⟩;exact ⟨by rw [← HC.out,if_neg Z1.out];decide,R1.out⟩)
 ·rw [if_neg h2,if_neg h2]
  rcases (show ¬ I.op≥72∨(I.op≥72∧¬ I.op≤76) by omega) with h2 | ⟨h2,h3⟩
  all_goals
   obtain ⟨C,hC⟩:∃C,(if A % 4=0 then sCode (alF p.key) bs.length ks A 4 else 6)=C:=⟨_,rfl⟩
   obtain ⟨V,hV⟩:∃V,g4V bs A=V:=⟨_,rfl⟩
   rw [hC,hV]
   have HC:=lh hC
   have HV:=lh hV
   clear hC hV
   refine h.opn ?_
   clear h
   intro R0
   intros
   go_enter Tryz.func133,Tryz.ntmps133
   go_wp2_with (first
    | (go_at_call 114;refine nxk (HA.out▸paln_c hout 4 (.inr rfl)) (fun w1 Z1 R1=>?_) (fun w1 Z1 R1=>?_))
    | (go_at_call 116;refine nxh (pfet_c R1.out A 4 (by omega)) (fun b cap w1 Z2 O1 hb1 hb2 R1=>?_) (fun w1 Z2 R1=>?_))
    | (go_at_call 118;refine (full_any _ _ _ 0 _ _ (by omega) O1.out.byt (by omega) (by omega)).mono ?_;rintro e wx ⟨rfl,nd,rfl⟩))
   all_goals first
    | (go_ret;refine Th.ok ?_;exact ⟨by rw [← HV.out];rfl,by rw [← HC.out,if_pos Z1.out];exact Z2.out,R1.out.drewN _⟩)
    | (refine ⟨rfl,Th.no (by rw [← HC.out,if_pos Z1.out]) ?_⟩;exact ⟨by rw [← HC.out,if_pos Z1.out];exact Z2.out,R1.out⟩)
    | (refine ⟨rfl,Th.no (by rw [← HC.out,if_neg Z1.out]) ?_⟩;exact ⟨by rw [← HC.out,if_neg Z1.out];decide,R1.out⟩)
theorem arO_no {P:Pre} {op c v:Int} {n:Nat} (h:¬(op=28∨op=29∨op=92∨op=93)) (hc:c≠0):arO P op n c v=P.no c:=by unfold arO;rw [if_neg h,if_pos hc]
theorem opV_in {op fm a:Int} {k:Nat} (ro:∀z∈os,0≤z∧z≤4294967295) (hb:∀z∈bs,0≤z∧z≤255):0≤opV op fm os k bs a∧opV op fm os k bs a≤4294967295:=by
 unfold opV g2V g4V
 split
 ·exact getD_in ro k
 split
 ·have a0:=sGet_in (bs:=bs) a 2 hb 0
  have a1:=sGet_in (bs:=bs) a 2 hb 1
  unfold hfv lo32;omega
 ·have a0:=sGet_in (bs:=bs) a 4 hb 0
  have a1:=sGet_in (bs:=bs) a 4 hb 1
  have a2:=sGet_in (bs:=bs) a 4 hb 2
  have a3:=sGet_in (bs:=bs) a 4 hb 3
  unfold flv;omega
end
theorem one_ps (p:Ps):p.v.toArray.all (·.oneCell')=true:=by simp [Ps.v,Value.oneCell']
theorem one_u32 (os:List Int):(os.map (Value.int .u32)).toArray.all (·.oneCell')=true:=by simp [Value.oneCell']
theorem wr_len (p:Pre) (a n:Int) (ys:List Int) (cc:Int):(p.wr a n ys cc).rs=p.os:=by unfold Pre.wr;split<;>rfl
theorem brO_len (p:Pre) (op:Int) (n k:Nat) (a:Int):(brO p op n k a).rs.length=p.os.length:=by
 unfold brO
 repeat' split
 all_goals simp [Pre.br]
theorem ite_len (c:Prop) [Decidable c] (x y:Out):(if c then x else y).rs.length=if c then x.rs.length else y.rs.length:=by split<;>rfl
theorem arO_len (p:Pre) (op:Int) (n:Nat) (c v:Int):(arO p op n c v).rs.length=p.os.length:=by
 unfold arO
 simp only [ite_len,Pre.rg,Pre.st,Pre.no,List.length_set,ite_self]
theorem shO_len (p:Pre) (op:Int) (n:Nat) (a:Int):(shO p op n a).rs.length=p.os.length:=by
 unfold shO
 repeat' split
 all_goals simp [Pre.rg,Pre.st,Pre.no]
theorem lmR_len' (rs:List Int) (n:Nat) (zs:List Int):∀k,(lmR rs n zs k).length=rs.length
 | 0=>rfl
 | k+1=>by simp [lmR,lmR_len' rs n zs k]
theorem mvO_len (p:Pre) (op:Int) (n m:Nat) (a:Int):(mvO p op n m a).rs.length=p.os.length:=by
 unfold mvO
 repeat' split
 all_goals simp [Pre.rg,Pre.st,Pre.no,wr_len,lmR_len']
theorem imO_len (p:Pre) (op:Int) (a i:Int):(imO p op a i).rs.length=p.os.length:=by
 unfold imO
 repeat' split
 all_goals simp [Pre.rg,Pre.st,Pre.no,wr_len]
theorem scnR_len (os rs:List Int) (a:Int) (o:Option (Nat×Int)):(scnR os rs a o).length=rs.length:=by
 unfold scnR;split<;>simp
theorem loO_len (p:Pre) (op:Int) (N:Nat) (a b:Int):(loO p op N a b).rs.length=p.os.length:=by
 unfold loO
 repeat' split
 all_goals simp [Pre.rg,Pre.st,Pre.no,wr_len,scnR_len]
theorem exO_len (p:Pre) (op fm:Int) (n k:Nat) (a1 a:Int) (l1:Nat) (i2:Int):(exO p op fm n k a1 a l1 i2).rs.length=p.os.length:=by
 unfold exO
 repeat' split
 ·exact brO_len ..
 ·exact shO_len ..
 ·simp [Pre.rg]
 ·exact mvO_len ..
 ·exact imO_len ..
 ·exact loO_len ..
 ·exact arO_len ..
def agR (rs:List Int):Value:=.agg (rs.map (Value.int .u32)).toArray
def xC (op fm r1 r2 x2 b1 d1 b2 d2 l1 l2 i2:Int) (os:List Int) (m key cd il cc pg ad:Int) (bs ks:List Int):Out:=
 if kn op=true∧chk op fm [op,fm,r1,r2,x2,b1,d1,b2,d2,l1,l2,i2]=0∧pok m key cd il cc pg ad=true then
  if (exO ⟨os,key,il,cc,pg,ad,bs,ks⟩ op fm r1.toNat r2.toNat ((d1+sumB os [b1.toNat]) % 16777216) ((d2+sumB os [b2.toNat,x2.toNat]) % 16777216) l1.toNat i2).c=0 then { exO ⟨os,key,il,cc,pg,ad,bs,ks⟩ op fm r1.toNat r2.toNat ((d1+sumB os [b1.toNat]) % 16777216) ((d2+sumB os [b2.toNat,x2.toNat]) % 16777216) l1.toNat i2 with c:=if (exO ⟨os,key,il,cc,pg,ad,bs,ks⟩ op fm r1.toNat r2.toNat ((d1+sumB os [b1.toNat]) % 16777216) ((d2+sumB os [b2.toNat,x2.toNat]) % 16777216) l1.toNat i2).ov=true∧8≤pg then 8 else 0 }
  else ⟨(exO ⟨os,key,il,cc,pg,ad,bs,ks⟩ op fm r1.toNat r2.toNat ((d1+sumB os [b1.toNat]) % 16777216) ((d2+sumB os [b2.toNat,x2.toNat]) % 16777216) l1.toNat i2).c,os,cc,pg,ad,false,bs⟩
 else ⟨1,os,cc,pg,ad,false,bs⟩
theorem list_16 {α:Type}:∀ {l:List α},l.length=16→∃x0 x1 x2 x3 x4 x5 x6 x7 x8 x9 x10 x11 x12 x13 x14 x15,l=[x0,x1,x2,x3,x4,x5,x6,x7,x8,x9,x10,x11,x12,x13,x14,x15]
 | [x0,x1,x2,x3,x4,x5,x6,x7,x8,x9,x10,x11,x12,x13,x14,x15],_=>⟨_,_,_,_,_,_,_,_,_,_,_,_,_,_,_,_,rfl⟩
section
variable {w0 w w':World} {g:Nat} {F:Foot} {I:In} {os rs:List Int} {p q:Ps} {ov:Bool} {bs ks:List Int}
structure XG (w0 w:World) (F:Foot) (bs ks:List Int) (z r p a b:List Value) (v:Int):Prop where
 z:Bk w w0.heap.size 54 z
 r:Bk w (w0.heap.size+1) 25 r
 p:Bk w (w0.heap.size+1+1) 35 p
 a:Bk w (w0.heap.size+1+1+1) 25 a
 b:Bk w (w0.heap.size+1+1+1+1) 35 b
 c:Bk w (w0.heap.size+1+1+1+1+1) 3 [.int .i64 v]
 st:St 63 w F bs ks
 ch:Ch w0 w [F.gb]
 gs:F.g<w0.heap.size∧F.gb<w0.heap.size∧F.gk<w0.heap.size
section
variable {z r zp a b:List Value} {v:Int}
theorem XG.keep (h:XG w0 w F bs ks z r zp a b v) (hb:Below w.heap.size w w'):XG w0 w' F bs ks z r zp a b v:=⟨h.z.keep hb,h.r.keep hb,h.p.keep hb,h.a.keep hb,h.b.keep hb,h.c.keep hb,h.st.belowS hb,h.ch.trans (Ch.of_below hb _),h.gs⟩
theorem XG.drew (h:XG w0 w F bs ks z r zp a b v):XG w0 w.drew F bs ks z r zp a b v:=h.keep (dBelow' (Below.refl _ _) 1)
theorem XG.seta (h:XG w0 w F bs ks z r zp a b v) (a':List Value):XG w0 (w.setRow (w0.heap.size+1+1+1) a'.toArray) F bs ks z r zp a' b v:=
 have:=h.gs
 ⟨h.z.rowOth (by omega) _,h.r.rowOth (by omega) _,h.p.rowOth (by omega) _,h.a.rowSet _,h.b.rowOth (by omega) _,h.c.rowOth (by omega) _,h.st.rowOth (by omega) (by omega) (by omega) _,h.ch.row (.inr (by omega)) _,h.gs⟩
theorem XG.setb (h:XG w0 w F bs ks z r zp a b v) (b':List Value):XG w0 (w.setRow (w0.heap.size+1+1+1+1) b'.toArray) F bs ks z r zp a b' v:=
 have:=h.gs
 ⟨h.z.rowOth (by omega) _,h.r.rowOth (by omega) _,h.p.rowOth (by omega) _,h.a.rowOth (by omega) _,h.b.rowSet _,h.c.rowOth (by omega) _,h.st.rowOth (by omega) (by omega) (by omega) _,h.ch.row (.inr (by omega)) _,h.gs⟩
theorem XG.setc (h:XG w0 w F bs ks z r zp a b v) (v':Int):XG w0 (w.setCell ⟨w0.heap.size+1+1+1+1+1,0,none⟩ (.int .i64 v')) F bs ks z r zp a b v':=by
 have:=h.gs
 have e:∀k,k≠w0.heap.size+1+1+1+1+1→(w.setCell ⟨w0.heap.size+1+1+1+1+1,0,none⟩ (.int .i64 v')).heap[k]?=w.heap[k]?:=fun k hk=>Below.heap_setCell w ⟨w0.heap.size+1+1+1+1+1,0,none⟩ _ k hk
 exact ⟨h.z.kept (e _ (by omega)),h.r.kept (e _ (by omega)),h.p.kept (e _ (by omega)),h.a.kept (e _ (by omega)),h.b.kept (e _ (by omega)),h.c.set_ 0 _,h.st.keep (e _ (by omega)) (e _ (by omega)) (e _ (by omega)),h.ch.setNew (by show w0.heap.size≤w0.heap.size+1+1+1+1+1;omega) _,h.gs⟩
theorem XG.call {P:Program} {f:FuncId} {args:Array Value} {y:Value} (h:XG w0 w F bs ks z r zp a b v) (hc:Calls P f args w fun e w'=>e=.returned y∧Below w.heap.size w w'):Calls P f args w fun e w'=>e=.returned y∧XG w0 w' F bs ks z r zp a b v:=hc.mono fun _ _ hh=>⟨hh.1,h.keep hh.2⟩
theorem XG.ex {bs':List Int} (h:XG w0 w F bs ks z r zp a b v) (hc:Ch w w' [g,F.gb]) (hs:St 63 w' F bs' ks) (hg:w0.heap.size+1+1+1+1+1<g):XG w0 w' F bs' ks z r zp a b v:=by
 have:=h.gs
 exact ⟨h.z.ch hc (by simp;omega),h.r.ch hc (by simp;omega),h.p.ch hc (by simp;omega),h.a.ch hc (by simp;omega),h.b.ch hc (by simp;omega),h.c.ch hc (by simp;omega),hs,⟨hc.os.trans h.ch.os,hc.tape.trans h.ch.tape,hc.output.trans h.ch.output,Nat.le_trans h.ch.size hc.size,fun i hi hL=>(hc.block i (Nat.lt_of_lt_of_le hi h.ch.size) (by simp at hL ⊢;omega)).trans (h.ch.block i hi hL)⟩,h.gs⟩
theorem XG.opn {X:Prop} {z0 z1 z2 z3 z4 z5 z6 z7 z8 z9 za zb:Value} (h:XG w0 w F bs ks [z0,z1,z2,z3,z4,z5,z6,z7,z8,z9,za,zb] r p.v a b v) (hX:Hid (XG w0 w F bs ks [z0,z1,z2,z3,z4,z5,z6,z7,z8,z9,za,zb] r p.v a b v)→Bk w w0.heap.size 54 [z0,z1,z2,z3,z4,z5,z6,z7,z8,z9,za,zb]→Bk w (w0.heap.size+1+1) 35 [.int .i64 p.m,.int .i64 p.key,.bool p.M,.bool p.W,.bool p.P,.int .i64 p.cd,.int .i64 p.il,.int .i64 p.cc,.int .i64 p.pg,.int .i64 p.ad]→X):X:=hX (lh h) h.z h.p
theorem XG.start (h:St 63 w F bs ks) (z r zp a b:List Value) (v:Int):XG w ((((((w.alloc (.cells z.toArray 54)).alloc (.cells r.toArray 25)).alloc (.cells zp.toArray 35)).alloc (.cells a.toArray 25)).alloc (.cells b.toArray 35)).alloc (.cells #[.int .i64 v] 3)) F bs ks z r zp a b v:=by
 have e:∀ (w:World) (o:Obj),(w.alloc o).heap.size=w.heap.size+1:=fun w o=>by simp
 have B2:=Bk.new (w.alloc (.cells z.toArray 54)) r 25
 have B3:=Bk.new ((w.alloc (.cells z.toArray 54)).alloc (.cells r.toArray 25)) zp 35
 have B4:=Bk.new (((w.alloc (.cells z.toArray 54)).alloc (.cells r.toArray 25)).alloc (.cells zp.toArray 35)) a 25
 have B5:=Bk.new ((((w.alloc (.cells z.toArray 54)).alloc (.cells r.toArray 25)).alloc (.cells zp.toArray 35)).alloc (.cells a.toArray 25)) b 35
 have B6:=Bk.new (((((w.alloc (.cells z.toArray 54)).alloc (.cells r.toArray 25)).alloc (.cells zp.toArray 35)).alloc (.cells a.toArray 25)).alloc (.cells b.toArray 35)) [.int .i64 v] 3
 simp only [e] at B2 B3 B4 B5 B6
 exact ⟨(((((Bk.new w z _).alloc _).alloc _).alloc _).alloc _).alloc _,(((B2.alloc _).alloc _).alloc _).alloc _,((B3.alloc _).alloc _).alloc _,(B4.alloc _).alloc _,B5.alloc _,B6,h.belowS (((((((Below.refl _ _).alloc (Nat.le_refl _) _).alloc (by simp) _).alloc (by simp;omega) _).alloc (by simp;omega) _).alloc (by simp;omega) _).alloc (by simp;omega) _),((((((Ch.refl _ _).alloc _).alloc _).alloc _).alloc _).alloc _).alloc _,h.ltg,h.ltb,h.ltk⟩
end
theorem pknows_c (op:Int) (w:World):Calls Tryz.prog 65 #[.int .i64 op] w fun e w'=>e=.returned (.bool (kn op))∧Below w.heap.size w w':=(knows_c op w).mono fun e w' ⟨h,n,hw⟩=>⟨h,below_of_drew hw⟩
section
variable {P:Program} {ops:Array Oper} {rest:List Oper} {o:Oper} {act:Act} {Q:Exit→Act→World→Prop} {v:Value} {X:Prop}
theorem lsv (h:X) (hg:Region.wanted o (yielded ops act.tmps)=true:=by rfl) (hr:(execOp act.eval o).run P w=.ok (.value v) w':=by (go_simp;(try first | rfl | exact ⟨rfl,rfl⟩)))
  (hP:wpList P ops Q rest (act.put o.dst v) w'=X:=by (simp only [Act.put,List.setIfInBounds_toArray,List.set_cons_zero,List.set_cons_succ];try rfl)):wpList P ops Q (o :: rest) act w:=by
 refine wpList_step fun K hK=>?_
 rw [hg,if_pos rfl]
 unfold Oper.wp
 rw [hr]
 exact hK _ _ (hP▸h)
theorem lsk (hr:(execOp act.eval o).run P w=.ok .skip w') (h:X) (hg:Region.wanted o (yielded ops act.tmps)=true:=by rfl)
  (hP:wpList P ops Q rest (act.put o.dst undef) w'=X:=by (simp only [Act.put,List.setIfInBounds_toArray,List.set_cons_zero,List.set_cons_succ];try rfl)):wpList P ops Q (o :: rest) act w:=by
 refine wpList_step fun K hK=>?_
 rw [hg,if_pos rfl]
 unfold Oper.wp
 rw [hr]
 exact hK _ _ (hP▸h)
theorem lsl {k:Nat} {T:TypeId} {x:Operand} {cs:List Value} (hB:Bk w k T cs) (h:X) (hg:Region.wanted o (yielded ops act.tmps)=true:=by rfl) (ho:o.op=.load T x:=by rfl) (hx:act.eval x=.pointer (some ⟨k,0,none⟩):=by rfl) (hd:isRw T:=by unfold isRw;kernel_rfl) (hi:(Tryz.prog.info? T).map (·.size)=some cs.length:=by kernel_rfl)
  (hP:wpList Tryz.prog ops Q rest (act.put o.dst (.agg cs.toArray)) w=X:=by (simp only [Act.put,List.setIfInBounds_toArray,List.set_cons_zero,List.set_cons_succ];try rfl)):wpList Tryz.prog ops Q (o :: rest) act w:=
 lsv h hg (by unfold execOp;simp only [ho,hx,Sem.run_bind,ld_row hB hd hi,Result.andThen_ok,Sem.run_pure]) hP
theorem lss {k:Nat} {T:TypeId} {x y:Operand} {cs cs':List Value} (hB:Bk w k T cs) (hl:cs.length=cs'.length) (h1:cs'.toArray.all (·.oneCell')=true) (hi:(Tryz.prog.info? T).map (·.size)=some cs'.length) (h:X) (hg:Region.wanted o (yielded ops act.tmps)=true:=by rfl) (ho:o.op=.store T x y:=by rfl) (hx:act.eval x=.pointer (some ⟨k,0,none⟩):=by rfl) (hy:act.eval y=.agg cs'.toArray:=by rfl)
  (hP:wpList Tryz.prog ops Q rest (act.put o.dst undef) (w.setRow k cs'.toArray)=X:=by (simp only [Act.put,List.setIfInBounds_toArray,List.set_cons_zero,List.set_cons_succ];try rfl)):wpList Tryz.prog ops Q (o :: rest) act w:=
 lsk (by unfold execOp;simp only [ho,hx,hy,Sem.run_bind,st_row hB hl h1 hi,Result.andThen_ok,Sem.run_pure]) h hg hP
end
theorem leaves_congr {P:Program} {fn:Func} {t t':Array Value} {R:Ending→World→Prop} (h:∀w,(results fn t).run P w=(results fn t').run P w) (ds:List Deferred):∀ (u:FrameMode) (w:World),Leaves P fn t R ds u w→Leaves P fn t' R ds u w:=by
 induction ds with
 | nil=>
  intro u w hl
  cases u with
  | returning=>obtain ⟨v,h1,h2⟩:=hl;exact ⟨v,(h w).symm.trans h1,h2⟩
  | panicking c=>exact hl
  | run=>exact hl
 | cons d ds ih=>
  intro u w hl
  obtain ⟨hu,fv,cap,f,args,h1,h2,h3⟩:=hl
  refine ⟨hu,fv,cap,f,args,h1,h2,h3.mono fun e u' w' hh=>?_⟩
  cases e with
  | returned v=>exact ih _ _ hh
  | panicked c=>exact ih _ _ hh
  | outgrown=>exact hh
theorem exq {R:Ending→World→Prop} {c:List PanicEntry} {a:Act} {d:Nat} {v:Value} (h:bodyPostD Tryz.prog Tryz.f51 R (.panic c) (a.put (some d) v) w) (hd:(d != 8 && d != 9 && d != 10)=true:=by rfl):bodyPostD Tryz.prog Tryz.f51 R (.panic c) a w:=by
 refine leaves_congr (fun w=>?_) _ _ _ h
 simp only [Bool.and_eq_true,bne_iff_ne,ne_eq] at hd
 simp [results,Act.put,Tryz.results51,Array.getElem?_setIfInBounds,hd]
theorem pexec_no (op fm r1 r2 x2 b1 d1 b2 d2 l1 l2 i2:Int) (p:Ps) (hl:os.length=16) (h:St 63 w F bs ks) (hO:¬(kn op=true∧chk op fm [op,fm,r1,r2,x2,b1,d1,b2,d2,l1,l2,i2]=0∧pok p.m p.key p.cd p.il p.cc p.pg p.ad=true)):Calls Tryz.prog 51 #[.agg #[.int .i64 op,.int .i64 fm,.int .i64 r1,.int .i64 r2,.int .i64 x2,.int .i64 b1,.int .i64 d1,.int .i64 b2,.int .i64 d2,.int .i64 l1,.int .i64 l2,.int .i64 i2],agR os,.agg p.v.toArray,.pointer (some ⟨F.g,0,none⟩)] w fun e w'=>e=.returned (.tuple #[agR os,.agg p.v.toArray,.int .i64 1])∧St 63 w' F bs ks∧Ch w w' [F.gb]:=by
 have hsz:(os.map (Value.int .u32)).toArray.size=16:=by simpa using hl
 have hsp:p.v.toArray.size=10:=rfl
 have CK:=lh (fun W=>icheck_c op fm r1 r2 x2 b1 d1 b2 d2 l1 l2 i2 W)
 obtain ⟨C,hC⟩:∃C,chk op fm [op,fm,r1,r2,x2,b1,d1,b2,d2,l1,l2,i2]=C:=⟨_,rfl⟩
 rw [hC] at CK hO
 have HL:=lh hl
 have X0:=lh (XG.start h)
 unfold agR
 clear hC h
 rcases (show kn op=false∨(kn op=true∧C≠0)∨(kn op=true∧C=0∧pok p.m p.key p.cd p.il p.cc p.pg p.ad=false) by
  cases h1:kn op
  ·exact .inl rfl
  ·by_cases h2:C=0
   ·cases h3:pok p.m p.key p.cd p.il p.cc p.pg p.ad
    ·exact .inr (.inr ⟨rfl,h2,rfl⟩)
    ·exact absurd ⟨h1,h2,h3⟩ hO
   ·exact .inr (.inl ⟨rfl,h2⟩)) with h1 | ⟨h1,h2⟩ | ⟨h1,h2,h3⟩
 rotate_right
 all_goals
  (try have e1:(C != 0)=true:=by simpa using h2)
  (try subst h2)
  clear hO
  go_enter_defers Tryz.func51,Tryz.ntmps51
  go_upto_region 1 with fail
  have X1:=lh (X0.out [.int .i64 op,.int .i64 fm,.int .i64 r1,.int .i64 r2,.int .i64 x2,.int .i64 b1,.int .i64 d1,.int .i64 b2,.int .i64 d2,.int .i64 l1,.int .i64 l2,.int .i64 i2] (os.map (Value.int .u32)) p.v [.int .u32 0,.int .u32 0,.int .u32 0,.int .u32 0,.int .u32 0,.int .u32 0,.int .u32 0,.int .u32 0,.int .u32 0,.int .u32 0,.int .u32 0,.int .u32 0,.int .u32 0,.int .u32 0,.int .u32 0,.int .u32 0] [.int .i64 0,.int .i64 0,.bool false,.bool false,.bool false,.int .i64 0,.int .i64 0,.int .i64 0,.int .i64 0,.int .i64 0] 0)
  refine X1.out.opn ?_
  intro _ B1 B2
  refine B1.opn12 ?_
  refine B2.opn10 ?_
  clear B1 B2
  intros
  clear hsz hsp
  go_upto_region 2 with (first
   | (go_at_call 65;refine nx (X1.out.call (h1▸pknows_c op _)) ?_;intro w1 X1;refine X1.out.opn ?_;intro _ B1 B2;refine B1.opn12 ?_;refine B2.opn10 ?_;clear B1 B2;intros)
   | (go_at_call 41;refine nx (X1.out.call (CK.out _)) ?_;intro w1 X1;refine X1.out.opn ?_;intro _ B1 B2;refine B1.opn12 ?_;refine B2.opn10 ?_;clear B1 B2;intros)
   | (go_at_call 22;refine nx (X1.out.call (h3▸valid_c _ _ _ _ _ _ _ _ _ _ _)) ?_;intro w1 X1;refine X1.out.opn ?_;intro _ B1 B2;refine B1.opn12 ?_;refine B2.opn10 ?_;clear B1 B2;intros))
  refine wp_region_held_drew (S:=fun W=>∃a b v,XG w W F bs ks [.int .i64 op,.int .i64 fm,.int .i64 r1,.int .i64 r2,.int .i64 x2,.int .i64 b1,.int .i64 d1,.int .i64 b2,.int .i64 d2,.int .i64 l1,.int .i64 l2,.int .i64 i2] (os.map (Value.int .u32)) p.v a b v) (by kernel_rfl) ⟨_,_,_,X1.out.drew⟩ (fun hHeld=>?_)
  replace X1:=lh X1.out.drew
  refine tkl 0 (fun w ⟨_,_,_,h⟩=>h.r.row) ?_ (hn:=by rw [List.length_map,HL.out];kernel_rfl) (hQ:=by exact fun _ _ _ h=>exq h)
  refine tkl 1 (fun w ⟨_,_,_,h⟩=>h.p.row) ?_ (hQ:=by exact fun _ _ _ h=>exq h)
  refine tks_ X1.out.a (by rw [List.length_map,HL.out];rfl) (one_u32 os) (by rw [List.length_map,HL.out];kernel_rfl) (X1.out.seta _) (fun _ h=>⟨_,_,_,h⟩) ?_
  clear X1 hHeld
  intro w2 X1 hHeld
  refine tks_ (cs':=p.v) X1.out.b (by rfl) (one_ps p) (by kernel_rfl) (X1.out.setb _) (fun _ h=>⟨_,_,_,h⟩) ?_
  clear X1 hHeld
  intro w3 X1 hHeld
  refine tk_st (R:=_) (st_int (X1.out.c.cell (c:=0) rfl) (X1.out.c.free 0)) (X1.out.setc 1) (fun _ h=>⟨_,_,_,h⟩) ?_ (by with_unfolding_all rfl) (by rfl) (by rfl) (by rfl) (by rfl) (by rfl) (fun w'=>by simp only [Act.put,List.setIfInBounds_toArray,List.set_cons_zero,List.set_cons_succ];try rfl)
  clear X1 hHeld
  intro w4 X1 hHeld
  refine wpAnyH_done (by kernel_rfl) ?_ _
  clear hHeld
  go_wp2
  exact ⟨_,res_cells3 Tryz.results51 _ _ _ _ _ _ _ _ rfl rfl rfl X1.out.a X1.out.b X1.out.c Tryz.underlying25 rfl (by rw [List.length_map,HL.out];kernel_rfl) Tryz.underlying35 rfl (by kernel_rfl) (by have c5:=X1.out.c.cell (c:=0) rfl;go_simp),rfl,X1.out.st,X1.out.ch⟩
theorem pcatch_c {z a b:List Value} {v:Int} (c:Int) (older:List PanicEntry) (X:XG w0 w F bs ks z (os.map (Value.int .u32)) p.v a b v) (hl:os.length=16) (ha:a.length=16) (hb:b.length=10):CallsD Tryz.prog 66 #[.pointer (some ⟨w0.heap.size+1,0,none⟩),.pointer (some ⟨w0.heap.size+1+1,0,none⟩),.pointer (some ⟨w0.heap.size+1+1+1,0,none⟩),.pointer (some ⟨w0.heap.size+1+1+1+1,0,none⟩),.pointer (some ⟨w0.heap.size+1+1+1+1+1,0,none⟩)] (.panicking ({ v:=.iface 124 (.int .i64 c),recovered:=false } :: older)) w fun e u' w'=>e=.returned (.tuple #[])∧u'=.panicking ({ v:=.iface 124 (.int .i64 c),recovered:=true } :: older)∧XG w0 w' F bs ks z (os.map (Value.int .u32)) p.v (os.map (Value.int .u32)) p.v c:=by
 have X1:=lh X
 have HL:=lh hl
 have HA:=lh ha
 have HB:=lh hb
 clear X hl ha hb
 refine callsD_of_wpS Tryz.func66 rfl fun c₀ cs hu=>?_
 simp only [Tryz.ntmps66,List.size_toArray,List.length_cons,List.length_nil,Nat.reduceAdd,Nat.reduceSub,Array.replicate_succ,Array.replicate_zero,List.push_toArray,List.append_toArray,List.nil_append,List.cons_append]
 apply wpS_seq
 apply wpS_region
 show wpOpsS _ _ _ [0,1,2,3,4,5,6] _ _ _
 refine opsS_rec (v:=.iface 124 (.int .i64 c)) (cs':={ c₀ with mode:=.panicking ({ v:=.iface 124 (.int .i64 c),recovered:=true } :: older) } :: cs) (w':=w) rfl (by kernel_rfl) (by kernel_rfl) (by simp [recoverD,hu]) ?_
 iterate 2 refine opsS_value (v:=.tuple #[.int .i64 c,.bool true]) (w':=w) rfl (by kernel_rfl) (by kernel_rfl) ?_
 refine opsS_value (v:=.int .i64 c) (w':=w) rfl (by kernel_rfl) (by kernel_rfl) ?_
 refine opsS_value (v:=.bool true) (w':=w) rfl (by kernel_rfl) (by kernel_rfl) ?_
 refine opsS_value (v:=.int .i64 c) (w':=w) rfl (by kernel_rfl) (by kernel_rfl) ?_
 refine opsS_value (v:=.bool true) (w':=w) rfl (by kernel_rfl) (by kernel_rfl) ?_
 simp only [Act.put,List.setIfInBounds_toArray,List.set_cons_zero,List.set_cons_succ]
 unfold wpOpsS
 simp only [Exit.thenS]
 refine wpS_of_wp ?_
 go_upto_region 2 with fail
 refine wp_region_lit ?_
 refine lsl X1.out.r ?_ (hi:=by rw [List.length_map,HL.out];kernel_rfl)
 refine lsl X1.out.p ?_
 refine lsv (v:=.int .i64 c) (w':=w) ?_
 refine lss (cs':=os.map (Value.int .u32)) X1.out.a (by rw [List.length_map,HL.out,HA.out]) (one_u32 os) (by rw [List.length_map,HL.out];kernel_rfl) ?_
 replace X1:=lh (X1.out.seta (os.map (Value.int .u32)))
 refine lss (cs':=p.v) X1.out.b (by rw [HB.out];rfl) (one_ps p) (by kernel_rfl) ?_
 replace X1:=lh (X1.out.setb p.v)
 refine lsk (w':=((w.setRow (w0.heap.size+1+1+1) (os.map (Value.int .u32)).toArray).setRow (w0.heap.size+1+1+1+1) p.v.toArray).setCell ⟨w0.heap.size+1+1+1+1+1,0,none⟩ (.int .i64 c)) (by have c5:=X1.out.c.cell (c:=0) rfl;have f5:=X1.out.c.free 0;go_simp) ?_
 replace X1:=lh (X1.out.setc c)
 refine wpList_nil ?_
 go_wp2
 exact ⟨rfl,.panicking ({ v:=.iface 124 (.int .i64 c),recovered:=true } :: older),by cases c₀;simp_all,.tuple #[],by simp [results,Tryz.results66],rfl,rfl,X1.out⟩
end
end Go.Proofs.YtljajnaclpbecaaGreatDoor
namespace Go.Proofs.YtljajnaclpbecaaGreatDoor
set_option maxRecDepth 1000000
set_option maxHeartbeats 8000000
open Go.RowKit Go.MapKept
set_option linter.unusedVariables false
set_option linter.unusedSimpArgs false
section
variable {w0 w w':World} {es:Array MapEntry} {n:Nat}
structure MW (w0 w:World) (es:Array MapEntry) (n:Nat):Prop where
 m:w.heap[w0.heap.size]?=some (.map es n)
 b:Below w0.heap.size w0 w
theorem MW.set_ (h:MW w0 w es n) (es':Array MapEntry) (n':Nat):MW w0 { w with heap:=w.heap.setIfInBounds w0.heap.size (.map es' n') } es' n':=by
 have hlt:w0.heap.size<w.heap.size:=(Array.getElem?_eq_some_iff.1 h.m).1
 refine ⟨by simp [hlt],h.b.os,h.b.tape,h.b.output,by simpa using h.b.size,fun i hi=>?_⟩
 rw [← h.b.block i hi]
 exact Array.getElem?_setIfInBounds_ne (by omega)
theorem run_mup {b n:Nat} {T kt et:TypeId} {k:Int} {v:Value} (hT:Tryz.prog.underlying T=some (.map kt et)) (hk:Tryz.prog.underlying kt=some (.int .i64)) (hb:w.heap[b]?=some (.map es n)) (hf:Instr.findNow (.int .i64) (.int .i64 k) es.toList 0=some none):(Instr.mapUpdate T (.map (some b)) (.int .i64 k) v).run Tryz.prog w=.ok () { w with heap:=w.heap.setIfInBounds b (.map (es.push { key:=.int .i64 k,val:=v,born:=n }) (n+1)) }:=by
 simp only [Instr.mapUpdate,Sem.run_bind,run_underlying hT,Result.andThen_ok,MapKept.run_getObj_map hb,run_checkKey (k:=.int .i64 k) hk (by simp [IsKey]) false 9999,run_findKey hk hf,run_setObj_map _ hb]
theorem run_look {b n:Nat} {T kt et:TypeId} {k:Int} {z:Value} (hT:Tryz.prog.underlying T=some (.map kt et)) (hk:Tryz.prog.underlying kt=some (.int .i64)) (hb:w.heap[b]?=some (.map es n)) (hf:Instr.findNow (.int .i64) (.int .i64 k) es.toList 0=some none) (hz:(zeroValue et).run Tryz.prog w=.ok z w):(Instr.lookup T (.map (some b)) (.int .i64 k) true).run Tryz.prog w=.ok (.tuple #[z,.bool false]) w:=by
 simp [Instr.lookup,Sem.run_bind,run_underlying hT,Result.andThen_ok,MapKept.run_getObj_map hb,run_checkKey (k:=.int .i64 k) hk (by simp [IsKey]) es.isEmpty 9999,run_findKey hk hf,hz]
def isMapI:TypeDesc→Bool
 | .map k _=>k == 3
 | _=>false
def mapI (T:TypeId):Prop:=(Tryz.prog.underlying T).map isMapI=some true
theorem mapI_of {T:TypeId} (h:mapI T):∃et,Tryz.prog.underlying T=some (.map 3 et):=by
 unfold mapI at h
 cases hu:Tryz.prog.underlying T with
 | none=>rw [hu] at h;cases h
 | some d=>
  rw [hu] at h
  injection h with h
  unfold isMapI at h
  split at h
  ·simp only [beq_iff_eq] at h
   exact ⟨_,by rw [h]⟩
  ·cases h
section
variable {ops:Array Oper} {rest:List Oper} {o:Oper} {act:Act} {Q:Exit→Act→World→Prop} {X:World→Prop}
theorem lsu {T:TypeId} {x:Operand} {kx vx:Operand} {k:Int} {v:Value} (h:Hid (MW w0 w es n)) (hX:∀w',Hid (MW w0 w' (es.push { key:=.int .i64 k,val:=v,born:=n }) (n+1))→X w') (ho:o.op=.insert T x kx vx:=by rfl) (hx:act.eval x=.map (some w0.heap.size):=by rfl) (hkx:act.eval kx=.int .i64 k:=by rfl) (hvx:act.eval vx=v:=by rfl) (hT:mapI T:=by unfold mapI;kernel_rfl) (hf:Instr.findNow (.int .i64) (.int .i64 k) es.toList 0=some none:=by kernel_rfl) (hg:Region.wanted o (yielded ops act.tmps)=true:=by rfl)
  (hP:∀w',wpList Tryz.prog ops Q rest (act.put o.dst undef) w'=X w':=by (intro w';simp only [Act.put,List.setIfInBounds_toArray,List.set_cons_zero,List.set_cons_succ];try rfl)):wpList Tryz.prog ops Q (o :: rest) act w:=by
 obtain ⟨et,hT⟩:=mapI_of hT
 exact lsk (by unfold execOp;simp only [ho,hx,hkx,hvx,Sem.run_bind,run_mup hT Tryz.underlying3 h.out.m hf,Result.andThen_ok,Sem.run_pure]) (hX _ (lh (h.out.set_ _ _))) hg (hP _)
end
end
def ownE:Array MapEntry:=#[{ key:=.int .i64 10,val:=.func (.func 59) #[] #[],born:=0 },{ key:=.int .i64 68,val:=.func (.func 60) #[] #[],born:=1 },{ key:=.int .i64 128,val:=.func (.func 61) #[] #[],born:=2 },{ key:=.int .i64 130,val:=.func (.func 62) #[] #[],born:=3 },{ key:=.int .i64 8,val:=.func (.func 63) #[] #[],born:=4 },{ key:=.int .i64 9,val:=.func (.func 63) #[] #[],born:=5 },{ key:=.int .i64 156,val:=.func (.func 64) #[] #[],born:=6 },{ key:=.int .i64 157,val:=.func (.func 64) #[] #[],born:=7 },{ key:=.int .i64 158,val:=.func (.func 64) #[] #[],born:=8 },{ key:=.int .i64 159,val:=.func (.func 64) #[] #[],born:=9 }]
theorem own_c (w:World):Calls Tryz.prog 50 #[] w fun e w'=>e=.returned (.map (some w.heap.size))∧MW w w' ownE 10:=by
 have hmm:=@run_makeMap Tryz.prog
 go_enter Tryz.func50,Tryz.ntmps50
 go_upto_region 1 with fail
 refine wp_region_lit ?_
 refine lsv (v:=.map (some w.heap.size)) (w':=w.alloc (.map #[] 0)) ?_ (hr:=by kernel_rfl)
 have R:Hid (MW w (w.alloc (.map #[] 0)) #[] 0):=lh ⟨heap_alloc_new w _,(Below.refl _ _).alloc (Nat.le_refl _) _⟩
 refine lsu R ?_
 clear R
 intro w1 R
 refine lsu R ?_
 clear R
 intro w1 R
 refine lsu R ?_
 clear R
 intro w1 R
 refine lsu R ?_
 clear R
 intro w1 R
 refine lsu R ?_
 clear R
 intro w1 R
 refine lsu R ?_
 clear R
 intro w1 R
 refine lsu R ?_
 clear R
 intro w1 R
 refine lsu R ?_
 clear R
 intro w1 R
 refine lsu R ?_
 clear R
 intro w1 R
 refine lsu R ?_
 clear R
 intro w1 R
 iterate 2 refine lsv ?_
 refine wpList_nil ?_
 go_wp2
 go_ret
 exact ⟨rfl,R.out⟩
theorem index_c (f:Value) (w:World):Calls Tryz.prog 35 #[.slice none 0 0,f] w fun e w'=>e=.returned (.int .i64 (-1))∧w=w':=by
 go_enter Tryz.func35,Tryz.ntmps35
 go_wp2
 go_loop [8] (fun x=>x=.int .i64 0) (fun x=>0)
 case atStart=>rfl
 case round=>
  subst hrel
  go_wp2
  go_ret
  exact ⟨rfl,rfl⟩
end Go.Proofs.YtljajnaclpbecaaGreatDoor
