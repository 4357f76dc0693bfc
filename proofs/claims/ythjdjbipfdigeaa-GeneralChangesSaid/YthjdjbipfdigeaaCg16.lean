/- Contracts and laws on the way to the statement, text 16 of 25. Conditions: as each states them. -/
import Derived.Test.YthjdjbipfdigeaaCg15
namespace Go.Proofs.Ythjdjbipfdigeaa
open Go.RowKit
set_option maxRecDepth 100000
set_option linter.unusedVariables false
set_option linter.unusedSimpArgs false
/-- the cells of an instruction, of a status word -/
def isL (op fm : Int) (n k x2 b1 : Nat) (d1 : Int) (b2 : Nat) (d2 : Int) (l1 : Nat) (l2 i2 : Int) : List Int := [op, fm, (n : Int), (k : Int), (x2 : Int), (b1 : Int), d1, (b2 : Int), d2, (l1 : Int), l2, i2]
def psL (m key : Int) (M W P : Bool) (cd il cc pg ad : Int) : List Value := [.int .i64 m, .int .i64 key, .bool M, .bool W, .bool P, .int .i64 cd, .int .i64 il, .int .i64 cc, .int .i64 pg, .int .i64 ad]
/-- how exec ends -/
def Ends (g : Nat) (F : Foot) (is os : List Int) (m key : Int) (M W P : Bool) (cd il : Int) (bs ks : List Int) (o : Out) (w : World) (e : Ending) (w' : World) : Prop :=
  (o.c = 0 → e = .returned (.tuple #[]) ∧ MS w' g F is os o.rs (psL m key M W P cd il o.cc o.pg o.ad) o.ov o.bs ks) ∧ (o.c ≠ 0 → e = .panicked [{ v := .iface 65 (.int .i64 o.c), recovered := false }] ∧ ∃ rs ps ov, MS w' g F is os rs ps ov bs ks) ∧ Ch w w' [g, F.gb]
section
variable {g : Nat} {F : Foot} {is os : List Int} {m key : Int} {M W P : Bool} {cd il : Int} {bs ks : List Int} {o : Out} {w w' : World} {e : Ending} {rs : List Int} {ps : List Value} {ov : Bool}
theorem ends_ok {L : List Nat} (hc : o.c = 0) (he : e = .returned (.tuple #[])) (hM : MS w' g F is os o.rs (psL m key M W P cd il o.cc o.pg o.ad) o.ov o.bs ks) (hC : Ch w w' L) (hL : ∀ k, k ∈ L → k ∈ [g, F.gb]) : Ends g F is os m key M W P cd il bs ks o w e w' :=
  ⟨fun _ => ⟨he, hM⟩, fun h => absurd hc h, hC.mono hL⟩
theorem ends_no {L : List Nat} {c : Int} (hc : o.c = c) (hc0 : c ≠ 0) (he : e = .panicked [{ v := .iface 65 (.int .i64 c), recovered := false }]) (hM : MS w' g F is os rs ps ov bs ks) (hC : Ch w w' L) (hL : ∀ k, k ∈ L → k ∈ [g, F.gb]) : Ends g F is os m key M W P cd il bs ks o w e w' :=
  ⟨fun h => absurd (hc.symm.trans h) hc0, fun _ => ⟨by rw [hc]; exact he, _, _, _, hM⟩, hC.mono hL⟩
end
theorem exec_art {g : Nat} {op : Int} (ho : (16 ≤ op ∧ op ≤ 31) ∨ (72 ≤ op ∧ op ≤ 76) ∨ (84 ≤ op ∧ op ≤ 95)) (P : World → Prop) (w : World) (c0 : w.cell? ⟨g, 0, none⟩ = some (.int .i64 op)) (hb : Calls Try.prog 48 #[.pointer (some ⟨g, 0, none⟩)] w fun e w' => e = .returned (.tuple #[]) ∧ P w') : Calls Try.prog 31 #[.pointer (some ⟨g, 0, none⟩)] w fun e w' => e = .returned (.tuple #[]) ∧ P w' := by
  rcases ho with h | h | h
  · exact exec_a1 g op h.1 h.2 P w c0 hb
  · exact exec_a2 g op h.1 h.2 P w c0 hb
  · exact exec_a3 g op h.1 h.2 P w c0 hb
theorem exec_art_no {g : Nat} {op : Int} (ho : (16 ≤ op ∧ op ≤ 31) ∨ (72 ≤ op ∧ op ≤ 76) ∨ (84 ≤ op ∧ op ≤ 95)) (P : World → Prop) (c : Int) (w : World) (c0 : w.cell? ⟨g, 0, none⟩ = some (.int .i64 op)) (hb : Calls Try.prog 48 #[.pointer (some ⟨g, 0, none⟩)] w fun e w' => e = .panicked [{ v := .iface 65 (.int .i64 c), recovered := false }] ∧ P w') : Calls Try.prog 31 #[.pointer (some ⟨g, 0, none⟩)] w fun e w' => e = .panicked [{ v := .iface 65 (.int .i64 c), recovered := false }] ∧ P w' := by
  rcases ho with h | h | h
  · exact exec_a1_no g op h.1 h.2 P c w c0 hb
  · exact exec_a2_no g op h.1 h.2 P c w c0 hb
  · exact exec_a3_no g op h.1 h.2 P c w c0 hb
set_option maxRecDepth 1000000 in
set_option maxHeartbeats 8000000 in
theorem exec_gb (g n k x2 b1 b2 l1 : Nat) (F : Foot) (op fm d1 d2 l2 i2 : Int) (m key : Int) (M W P : Bool) (cd il cc pg ad : Int) (os bs ks : List Int) (w : World) (h : MS w g F (isL op fm n k x2 b1 d1 b2 d2 l1 l2 i2) os os (psL m key M W P cd il cc pg ad) false bs ks) (ro : ∀ z ∈ os, 0 ≤ z ∧ z ≤ 4294967295) (hn16 : n < 16) (hk16 : k < 16) (hx16 : x2 < 16) (hb116 : b1 < 16) (hb216 : b2 < 16) (hl1 : l1 < 256) (hd1 : 0 ≤ d1 ∧ d1 < 4096) (hd2 : 0 ≤ d2 ∧ d2 < 4096) (hi2 : 0 ≤ i2 ∧ i2 < 256) (a1 a : Int) (ha1 : (d1 + sumB os [b1]) % 16777216 = a1) (ha : (d2 + sumB os [b2, x2]) % 16777216 = a) (hps : pok m key cd il cc pg ad = true) (hop : op = 4 ∨ op = 5 ∨ op = 6 ∨ op = 7 ∨ op = 69 ∨ op = 70 ∨ op = 71 ∨ op = 134 ∨ op = 135) (hfm : op ≠ 4 → (fm = 1 ↔ op < 64)) : Calls Try.prog 31 #[.pointer (some ⟨g, 0, none⟩)] w (Ends g F (isL op fm n k x2 b1 d1 b2 d2 l1 l2 i2) os m key M W P cd il bs ks (exO (⟨os, key, il, cc, pg, ad, bs, ks⟩ : Pre) op fm n k a1 a l1 i2) w) := by
  have c0 : w.cell? ⟨g, 0, none⟩ = some (.int .i64 op) := h.m.ci (c := 0) (by omega)
  have hb0 : 0 ≤ a ∧ a ≤ 16777215 := by omega
  have hb1 : 0 ≤ a1 ∧ a1 ≤ 16777215 := by omega
  have hsec : ∀ (W' : World) (rs' : List Int) (ps' : List Value) (ov' : Bool) (bs' : List Int), MS W' g F (isL op fm n k x2 b1 d1 b2 d2 l1 l2 i2) os rs' ps' ov' bs' ks → Calls Try.prog 44 #[.pointer (some ⟨g, 0, none⟩)] W' fun e w' => e = .returned (.int .i64 a) ∧ Ch W' w' [] := fun W' rs' ps' ov' bs' hm => by rw [← ha]; exact second_c g b2 x2 d2 _ _ _ _ _ _ _ hm.m ro rfl hd2.1 (by omega) rfl hb216 rfl hx16
  have hfir : ∀ (W' : World) (rs' : List Int) (ps' : List Value) (ov' : Bool) (bs' : List Int), MS W' g F (isL op fm n k x2 b1 d1 b2 d2 l1 l2 i2) os rs' ps' ov' bs' ks → Calls Try.prog 71 #[.pointer (some ⟨g, 0, none⟩)] W' fun e w' => e = .returned (.int .i64 a1) ∧ Ch W' w' [] := fun W' rs' ps' ov' bs' hm => by rw [← ha1]; exact first_c g b1 d1 _ _ _ _ _ _ _ hm.m ro rfl hd1.1 (by omega) rfl hb116
  obtain ⟨-, -, -, q0, q1, q2, q3⟩ := (pok_iff _ _ _ _ _ _ _).1 hps
  rcases hop with rfl | rfl | rfl | rfl | rfl | rfl | rfl | rfl | rfl
  · refine (exec_b1 g 4 (by omega) (by omega) _ w c0 (branch_4 g n F _ _ _ _ _ _ _ w h rfl rfl hn16 ro)).mono ?_
    rintro e w' ⟨rfl, hM, hC⟩
    refine ends_ok (by simp [exO, brO, Pre.br]) rfl ?_ hC (by simp)
    simp [exO, brO, Pre.br]
    exact hM
  · refine (exec_b1 g 5 (by omega) (by omega) _ w c0 (branch_5 g n k F _ _ _ _ _ _ _ a fm w h rfl hn16 rfl hk16 rfl (fun W' rs' hm => hsec _ _ _ _ _ hm) ro il cc pg ad rfl rfl rfl rfl q0 q1 q2 q3 (by omega) rfl)).mono ?_
    rintro e w' ⟨rfl, hM, hC⟩
    refine ends_ok (by simp [exO, brO, Pre.br]) rfl ?_ hC (by simp)
    simp [exO, brO, Pre.br]
    revert hM
    (repeat' split) <;> intro hM <;> first | exact hM | (exfalso; simp_all; done)
  · refine (exec_b1 g 6 (by omega) (by omega) _ w c0 (branch_6 g n k F _ _ _ _ _ _ _ a fm w h rfl hn16 rfl hk16 rfl (fun W' rs' hm => hsec _ _ _ _ _ hm) ro (by omega) rfl)).mono ?_
    rintro e w' ⟨rfl, hM, hC⟩
    refine ends_ok (by simp [exO, brO, Pre.br]) rfl ?_ hC (by simp)
    simp [exO, brO, Pre.br]
    revert hM
    (repeat' split) <;> intro hM <;> first | exact hM | (exfalso; simp_all; done)
  · refine (exec_b1 g 7 (by omega) (by omega) _ w c0 (branch_7 g n k F _ _ _ _ _ _ _ a fm w h rfl hn16 rfl hk16 rfl (fun W' rs' hm => hsec _ _ _ _ _ hm) ro cc rfl q1 (by omega) rfl)).mono ?_
    rintro e w' ⟨rfl, hM, hC⟩
    refine ends_ok (by simp [exO, brO, Pre.br]) rfl ?_ hC (by simp)
    simp [exO, brO, Pre.br]
    revert hM
    (repeat' split) <;> intro hM <;> first | exact hM | (exfalso; simp_all; done)
  · refine (exec_b2 g 69 (by omega) (by omega) _ w c0 (branch_69 g n k F _ _ _ _ _ _ _ a fm w h rfl hn16 rfl hk16 rfl (fun W' rs' hm => hsec _ _ _ _ _ hm) ro il cc pg ad rfl rfl rfl rfl q0 q1 q2 q3 (by omega) rfl)).mono ?_
    rintro e w' ⟨rfl, hM, hC⟩
    refine ends_ok (by simp [exO, brO, Pre.br]) rfl ?_ hC (by simp)
    simp [exO, brO, Pre.br]
    revert hM
    (repeat' split) <;> intro hM <;> first | exact hM | (exfalso; simp_all; done)
  · refine (exec_b2 g 70 (by omega) (by omega) _ w c0 (branch_70 g n k F _ _ _ _ _ _ _ a fm w h rfl hn16 rfl hk16 rfl (fun W' rs' hm => hsec _ _ _ _ _ hm) ro (by omega) rfl)).mono ?_
    rintro e w' ⟨rfl, hM, hC⟩
    refine ends_ok (by simp [exO, brO, Pre.br]) rfl ?_ hC (by simp)
    simp [exO, brO, Pre.br]
    revert hM
    (repeat' split) <;> intro hM <;> first | exact hM | (exfalso; simp_all; done)
  · refine (exec_b2 g 71 (by omega) (by omega) _ w c0 (branch_71 g n k F _ _ _ _ _ _ _ a fm w h rfl hn16 rfl hk16 rfl (fun W' rs' hm => hsec _ _ _ _ _ hm) ro cc rfl q1 (by omega) rfl)).mono ?_
    rintro e w' ⟨rfl, hM, hC⟩
    refine ends_ok (by simp [exO, brO, Pre.br]) rfl ?_ hC (by simp)
    simp [exO, brO, Pre.br]
    revert hM
    (repeat' split) <;> intro hM <;> first | exact hM | (exfalso; simp_all; done)
  · refine (exec_b3 g _ w c0 (branch_134 g n k F _ _ _ _ _ _ _ a fm w h rfl hn16 rfl hk16 rfl (fun W' rs' hm => hsec _ _ _ _ _ hm) ro (by omega) rfl)).mono ?_
    rintro e w' ⟨rfl, hM, hC⟩
    refine ends_ok (by simp [exO, brO, Pre.br]) rfl ?_ hC (by simp)
    simp [exO, brO, Pre.br]
    revert hM
    (repeat' split) <;> intro hM <;> first | exact hM | (exfalso; simp_all; done)
  · refine (exec_b4 g _ w c0 (branch_135 g n k F _ _ _ _ _ _ _ a fm w h rfl hn16 rfl hk16 rfl (fun W' rs' hm => hsec _ _ _ _ _ hm) ro (by omega) rfl)).mono ?_
    rintro e w' ⟨rfl, hM, hC⟩
    refine ends_ok (by simp [exO, brO, Pre.br]) rfl ?_ hC (by simp)
    simp [exO, brO, Pre.br]
    revert hM
    (repeat' split) <;> intro hM <;> first | exact hM | (exfalso; simp_all; done)
set_option maxRecDepth 1000000 in
set_option maxHeartbeats 8000000 in
theorem exec_gs (g n k x2 b1 b2 l1 : Nat) (F : Foot) (op fm d1 d2 l2 i2 : Int) (m key : Int) (M W P : Bool) (cd il cc pg ad : Int) (os bs ks : List Int) (w : World) (h : MS w g F (isL op fm n k x2 b1 d1 b2 d2 l1 l2 i2) os os (psL m key M W P cd il cc pg ad) false bs ks) (ro : ∀ z ∈ os, 0 ≤ z ∧ z ≤ 4294967295) (hn16 : n < 16) (hk16 : k < 16) (hx16 : x2 < 16) (hb116 : b1 < 16) (hb216 : b2 < 16) (hl1 : l1 < 256) (hd1 : 0 ≤ d1 ∧ d1 < 4096) (hd2 : 0 ≤ d2 ∧ d2 < 4096) (hi2 : 0 ≤ i2 ∧ i2 < 256) (a1 a : Int) (ha1 : (d1 + sumB os [b1]) % 16777216 = a1) (ha : (d2 + sumB os [b2, x2]) % 16777216 = a)  (hop : 136 ≤ op ∧ op ≤ 143) : Calls Try.prog 31 #[.pointer (some ⟨g, 0, none⟩)] w (Ends g F (isL op fm n k x2 b1 d1 b2 d2 l1 l2 i2) os m key M W P cd il bs ks (exO (⟨os, key, il, cc, pg, ad, bs, ks⟩ : Pre) op fm n k a1 a l1 i2) w) := by
  have c0 : w.cell? ⟨g, 0, none⟩ = some (.int .i64 op) := h.m.ci (c := 0) (by omega)
  have hb0 : 0 ≤ a ∧ a ≤ 16777215 := by omega
  have hb1 : 0 ≤ a1 ∧ a1 ≤ 16777215 := by omega
  have hsec : ∀ (W' : World) (rs' : List Int) (ps' : List Value) (ov' : Bool) (bs' : List Int), MS W' g F (isL op fm n k x2 b1 d1 b2 d2 l1 l2 i2) os rs' ps' ov' bs' ks → Calls Try.prog 44 #[.pointer (some ⟨g, 0, none⟩)] W' fun e w' => e = .returned (.int .i64 a) ∧ Ch W' w' [] := fun W' rs' ps' ov' bs' hm => by rw [← ha]; exact second_c g b2 x2 d2 _ _ _ _ _ _ _ hm.m ro rfl hd2.1 (by omega) rfl hb216 rfl hx16
  have hfir : ∀ (W' : World) (rs' : List Int) (ps' : List Value) (ov' : Bool) (bs' : List Int), MS W' g F (isL op fm n k x2 b1 d1 b2 d2 l1 l2 i2) os rs' ps' ov' bs' ks → Calls Try.prog 71 #[.pointer (some ⟨g, 0, none⟩)] W' fun e w' => e = .returned (.int .i64 a1) ∧ Ch W' w' [] := fun W' rs' ps' ov' bs' hm => by rw [← ha1]; exact first_c g b1 d1 _ _ _ _ _ _ _ hm.m ro rfl hd1.1 (by omega) rfl hb116
  have hs := fun W' => hsec W' os (psL m key M W P cd il cc pg ad) false bs
  by_cases hev : 140 ≤ op ∧ n % 2 = 1
  · refine (exec_s_no g op hop.1 hop.2 _ 6 w c0 (shift_odd g n F _ _ _ _ _ _ _ a w h rfl hn16 hs hb0.1 hb0.2 ro op rfl hev.1 hev.2)).mono ?_
    rintro e w' ⟨rfl, hM, hC⟩
    refine ends_no (c := 6) ?_ (by decide) rfl hM hC (by simp)
    have e1 : exO (⟨os, key, il, cc, pg, ad, bs, ks⟩ : Pre) op fm n k a1 a l1 i2 = shO (⟨os, key, il, cc, pg, ad, bs, ks⟩ : Pre) op n a := by unfold exO; rw [if_neg (by omega), if_pos hop]
    rw [e1]; unfold shO; rw [if_pos hev]; rfl
  have hcs : op = 136 ∨ op = 137 ∨ op = 138 ∨ op = 139 ∨ op = 140 ∨ op = 141 ∨ op = 142 ∨ op = 143 := by omega
  rcases hcs with rfl | rfl | rfl | rfl | rfl | rfl | rfl | rfl
  · refine (exec_s g 136 (by omega) (by omega) _ w c0 (shift_136 g n F _ _ _ _ _ _ _ a w h rfl hn16 hs hb0.1 hb0.2 ro rfl)).mono ?_
    rintro e w' ⟨rfl, hM, hC⟩
    refine ends_ok (by simp [exO, shO, Pre.rg, Pre.st]) rfl ?_ hC (by simp)
    simp [exO, shO, Pre.rg, Pre.st]
    exact hM
  · refine (exec_s g 137 (by omega) (by omega) _ w c0 (shift_137 g n F _ _ _ _ _ _ _ a w h rfl hn16 hs hb0.1 hb0.2 ro rfl)).mono ?_
    rintro e w' ⟨rfl, hM, hC⟩
    refine ends_ok (by simp [exO, shO, Pre.rg, Pre.st]) rfl ?_ hC (by simp)
    simp [exO, shO, Pre.rg, Pre.st]
    exact hM
  · refine (exec_s g 138 (by omega) (by omega) _ w c0 (shift_138 g n F _ _ _ _ _ _ _ a w h rfl hn16 hs hb0.1 hb0.2 ro rfl)).mono ?_
    rintro e w' ⟨rfl, hM, hC⟩
    refine ends_ok (by simp [exO, shO, Pre.rg, Pre.st]) rfl ?_ hC (by simp)
    simp [exO, shO, Pre.rg, Pre.st]
    exact hM
  · refine (exec_s g 139 (by omega) (by omega) _ w c0 (shift_139 g n F _ _ _ _ _ _ _ a w h rfl hn16 hs hb0.1 hb0.2 ro rfl)).mono ?_
    rintro e w' ⟨rfl, hM, hC⟩
    refine ends_ok (by simp [exO, shO, Pre.rg, Pre.st]) rfl ?_ hC (by simp)
    simp [exO, shO, Pre.rg, Pre.st]
    exact hM
  · refine (exec_s g 140 (by omega) (by omega) _ w c0 (shift_140 g n (n + 1) F _ _ _ _ _ _ _ a w h rfl hn16 hs hb0.1 hb0.2 ro rfl (by omega) rfl)).mono ?_
    rintro e w' ⟨rfl, hM, hC⟩
    have hev' : ¬ n % 2 = 1 := by omega
    refine ends_ok (by simp [exO, shO, Pre.rg, Pre.st, hev']) rfl ?_ hC (by simp)
    simp [exO, shO, Pre.rg, Pre.st, hev']
    exact hM
  · refine (exec_s g 141 (by omega) (by omega) _ w c0 (shift_141 g n (n + 1) F _ _ _ _ _ _ _ a w h rfl hn16 hs hb0.1 hb0.2 ro rfl (by omega) rfl)).mono ?_
    rintro e w' ⟨rfl, hM, hC⟩
    have hev' : ¬ n % 2 = 1 := by omega
    refine ends_ok (by simp [exO, shO, Pre.rg, Pre.st, hev']) rfl ?_ hC (by simp)
    simp [exO, shO, Pre.rg, Pre.st, hev']
    exact hM
  · refine (exec_s g 142 (by omega) (by omega) _ w c0 (shift_142 g n (n + 1) F _ _ _ _ _ _ _ a w h rfl hn16 hs hb0.1 hb0.2 ro rfl (by omega) rfl)).mono ?_
    rintro e w' ⟨rfl, hM, hC⟩
    have hev' : ¬ n % 2 = 1 := by omega
    refine ends_ok (by simp [exO, shO, Pre.rg, Pre.st, hev']) rfl ?_ hC (by simp)
    simp [exO, shO, Pre.rg, Pre.st, hev']
    exact hM
  · refine (exec_s g 143 (by omega) (by omega) _ w c0 (shift_143 g n (n + 1) F _ _ _ _ _ _ _ a w h rfl hn16 hs hb0.1 hb0.2 ro rfl (by omega) rfl)).mono ?_
    rintro e w' ⟨rfl, hM, hC⟩
    have hev' : ¬ n % 2 = 1 := by omega
    refine ends_ok (by simp [exO, shO, Pre.rg, Pre.st, hev']) rfl ?_ hC (by simp)
    simp [exO, shO, Pre.rg, Pre.st, hev']
    exact hM
set_option maxRecDepth 1000000 in
set_option maxHeartbeats 8000000 in
theorem exec_gla (g n k x2 b1 b2 l1 : Nat) (F : Foot) (op fm d1 d2 l2 i2 : Int) (m key : Int) (M W P : Bool) (cd il cc pg ad : Int) (os bs ks : List Int) (w : World) (h : MS w g F (isL op fm n k x2 b1 d1 b2 d2 l1 l2 i2) os os (psL m key M W P cd il cc pg ad) false bs ks) (ro : ∀ z ∈ os, 0 ≤ z ∧ z ≤ 4294967295) (hn16 : n < 16) (hk16 : k < 16) (hx16 : x2 < 16) (hb116 : b1 < 16) (hb216 : b2 < 16) (hl1 : l1 < 256) (hd1 : 0 ≤ d1 ∧ d1 < 4096) (hd2 : 0 ≤ d2 ∧ d2 < 4096) (hi2 : 0 ≤ i2 ∧ i2 < 256) (a1 a : Int) (ha1 : (d1 + sumB os [b1]) % 16777216 = a1) (ha : (d2 + sumB os [b2, x2]) % 16777216 = a)  (hop : op = 65) : Calls Try.prog 31 #[.pointer (some ⟨g, 0, none⟩)] w (Ends g F (isL op fm n k x2 b1 d1 b2 d2 l1 l2 i2) os m key M W P cd il bs ks (exO (⟨os, key, il, cc, pg, ad, bs, ks⟩ : Pre) op fm n k a1 a l1 i2) w) := by
  have c0 : w.cell? ⟨g, 0, none⟩ = some (.int .i64 op) := h.m.ci (c := 0) (by omega)
  have hb0 : 0 ≤ a ∧ a ≤ 16777215 := by omega
  have hb1 : 0 ≤ a1 ∧ a1 ≤ 16777215 := by omega
  have hsec : ∀ (W' : World) (rs' : List Int) (ps' : List Value) (ov' : Bool) (bs' : List Int), MS W' g F (isL op fm n k x2 b1 d1 b2 d2 l1 l2 i2) os rs' ps' ov' bs' ks → Calls Try.prog 44 #[.pointer (some ⟨g, 0, none⟩)] W' fun e w' => e = .returned (.int .i64 a) ∧ Ch W' w' [] := fun W' rs' ps' ov' bs' hm => by rw [← ha]; exact second_c g b2 x2 d2 _ _ _ _ _ _ _ hm.m ro rfl hd2.1 (by omega) rfl hb216 rfl hx16
  have hfir : ∀ (W' : World) (rs' : List Int) (ps' : List Value) (ov' : Bool) (bs' : List Int), MS W' g F (isL op fm n k x2 b1 d1 b2 d2 l1 l2 i2) os rs' ps' ov' bs' ks → Calls Try.prog 71 #[.pointer (some ⟨g, 0, none⟩)] W' fun e w' => e = .returned (.int .i64 a1) ∧ Ch W' w' [] := fun W' rs' ps' ov' bs' hm => by rw [← ha1]; exact first_c g b1 d1 _ _ _ _ _ _ _ hm.m ro rfl hd1.1 (by omega) rfl hb116
  subst hop
  refine (exec_la g n F _ _ _ _ _ _ _ a w h rfl rfl hn16 (fun W' hm => hsec _ _ _ _ _ hm) hb0.1 hb0.2).mono ?_
  rintro e w' ⟨rfl, hM, hC⟩
  refine ends_ok (by simp [exO, Pre.rg]) rfl ?_ hC (by simp)
  simp [exO, Pre.rg]
  exact hM
set_option maxRecDepth 1000000 in
set_option maxHeartbeats 8000000 in
theorem exec_gm64 (g n k x2 b1 b2 l1 : Nat) (F : Foot) (op fm d1 d2 l2 i2 : Int) (m key : Int) (M W P : Bool) (cd il cc pg ad : Int) (os bs ks : List Int) (w : World) (h : MS w g F (isL op fm n k x2 b1 d1 b2 d2 l1 l2 i2) os os (psL m key M W P cd il cc pg ad) false bs ks) (ro : ∀ z ∈ os, 0 ≤ z ∧ z ≤ 4294967295) (hn16 : n < 16) (hk16 : k < 16) (hx16 : x2 < 16) (hb116 : b1 < 16) (hb216 : b2 < 16) (hl1 : l1 < 256) (hd1 : 0 ≤ d1 ∧ d1 < 4096) (hd2 : 0 ≤ d2 ∧ d2 < 4096) (hi2 : 0 ≤ i2 ∧ i2 < 256) (a1 a : Int) (ha1 : (d1 + sumB os [b1]) % 16777216 = a1) (ha : (d2 + sumB os [b2, x2]) % 16777216 = a)  (hop : op = 64) : Calls Try.prog 31 #[.pointer (some ⟨g, 0, none⟩)] w (Ends g F (isL op fm n k x2 b1 d1 b2 d2 l1 l2 i2) os m key M W P cd il bs ks (exO (⟨os, key, il, cc, pg, ad, bs, ks⟩ : Pre) op fm n k a1 a l1 i2) w) := by
  have c0 : w.cell? ⟨g, 0, none⟩ = some (.int .i64 op) := h.m.ci (c := 0) (by omega)
  have hb0 : 0 ≤ a ∧ a ≤ 16777215 := by omega
  have hb1 : 0 ≤ a1 ∧ a1 ≤ 16777215 := by omega
  have hsec : ∀ (W' : World) (rs' : List Int) (ps' : List Value) (ov' : Bool) (bs' : List Int), MS W' g F (isL op fm n k x2 b1 d1 b2 d2 l1 l2 i2) os rs' ps' ov' bs' ks → Calls Try.prog 44 #[.pointer (some ⟨g, 0, none⟩)] W' fun e w' => e = .returned (.int .i64 a) ∧ Ch W' w' [] := fun W' rs' ps' ov' bs' hm => by rw [← ha]; exact second_c g b2 x2 d2 _ _ _ _ _ _ _ hm.m ro rfl hd2.1 (by omega) rfl hb216 rfl hx16
  have hfir : ∀ (W' : World) (rs' : List Int) (ps' : List Value) (ov' : Bool) (bs' : List Int), MS W' g F (isL op fm n k x2 b1 d1 b2 d2 l1 l2 i2) os rs' ps' ov' bs' ks → Calls Try.prog 71 #[.pointer (some ⟨g, 0, none⟩)] W' fun e w' => e = .returned (.int .i64 a1) ∧ Ch W' w' [] := fun W' rs' ps' ov' bs' hm => by rw [← ha1]; exact first_c g b1 d1 _ _ _ _ _ _ _ hm.m ro rfl hd1.1 (by omega) rfl hb116
  subst hop
  have hs := fun W' => hsec W' os (psL m key M W P cd il cc pg ad) false bs
  by_cases hal : a % 2 = 0
  rotate_left
  · refine (exec_m1_no g _ 6 w c0 (move_64_odd g n F _ _ _ _ _ _ _ key a w h rfl hn16 rfl hs hb0.1 hb0.2 ro rfl hal)).mono ?_
    rintro e w' ⟨rfl, hM, hC⟩
    exact ends_no (c := 6) (by simp [exO, mvO, Pre.wr, Pre.no, Pre.rg, Pre.pc, Pre.fc, hal]) (by first | decide | assumption) rfl hM hC (by simp)
  by_cases hc : sCode (alP key) bs.length ks a 2 = 0
  · refine (exec_m1 g _ w c0 (move_64 g n F _ _ _ _ _ _ _ key a w h rfl hn16 rfl hs hb0.1 hb0.2 ro rfl hal hc)).mono ?_
    rintro e w' ⟨rfl, hM, hC⟩
    refine ends_ok (by simp [exO, mvO, Pre.wr, Pre.no, Pre.rg, Pre.pc, Pre.fc, hc, hal]) rfl ?_ hC (by simp)
    simp [exO, mvO, Pre.wr, Pre.no, Pre.rg, Pre.pc, Pre.fc, hc, hal]
    exact hM
  · refine (exec_m1_no g _ (sCode (alP key) bs.length ks a 2) w c0 (move_64_no g n F _ _ _ _ _ _ _ key a w h rfl hn16 rfl hs hb0.1 hb0.2 ro rfl hal _ rfl hc)).mono ?_
    rintro e w' ⟨rfl, hM, hC⟩
    exact ends_no (c := (sCode (alP key) bs.length ks a 2)) (by simp [exO, mvO, Pre.wr, Pre.no, Pre.rg, Pre.pc, Pre.fc, hc, hal]) (by first | decide | assumption) rfl hM hC (by simp)
set_option maxRecDepth 1000000 in
set_option maxHeartbeats 8000000 in
theorem exec_gm66 (g n k x2 b1 b2 l1 : Nat) (F : Foot) (op fm d1 d2 l2 i2 : Int) (m key : Int) (M W P : Bool) (cd il cc pg ad : Int) (os bs ks : List Int) (w : World) (h : MS w g F (isL op fm n k x2 b1 d1 b2 d2 l1 l2 i2) os os (psL m key M W P cd il cc pg ad) false bs ks) (ro : ∀ z ∈ os, 0 ≤ z ∧ z ≤ 4294967295) (hn16 : n < 16) (hk16 : k < 16) (hx16 : x2 < 16) (hb116 : b1 < 16) (hb216 : b2 < 16) (hl1 : l1 < 256) (hd1 : 0 ≤ d1 ∧ d1 < 4096) (hd2 : 0 ≤ d2 ∧ d2 < 4096) (hi2 : 0 ≤ i2 ∧ i2 < 256) (a1 a : Int) (ha1 : (d1 + sumB os [b1]) % 16777216 = a1) (ha : (d2 + sumB os [b2, x2]) % 16777216 = a)  (hop : op = 66) : Calls Try.prog 31 #[.pointer (some ⟨g, 0, none⟩)] w (Ends g F (isL op fm n k x2 b1 d1 b2 d2 l1 l2 i2) os m key M W P cd il bs ks (exO (⟨os, key, il, cc, pg, ad, bs, ks⟩ : Pre) op fm n k a1 a l1 i2) w) := by
  have c0 : w.cell? ⟨g, 0, none⟩ = some (.int .i64 op) := h.m.ci (c := 0) (by omega)
  have hb0 : 0 ≤ a ∧ a ≤ 16777215 := by omega
  have hb1 : 0 ≤ a1 ∧ a1 ≤ 16777215 := by omega
  have hsec : ∀ (W' : World) (rs' : List Int) (ps' : List Value) (ov' : Bool) (bs' : List Int), MS W' g F (isL op fm n k x2 b1 d1 b2 d2 l1 l2 i2) os rs' ps' ov' bs' ks → Calls Try.prog 44 #[.pointer (some ⟨g, 0, none⟩)] W' fun e w' => e = .returned (.int .i64 a) ∧ Ch W' w' [] := fun W' rs' ps' ov' bs' hm => by rw [← ha]; exact second_c g b2 x2 d2 _ _ _ _ _ _ _ hm.m ro rfl hd2.1 (by omega) rfl hb216 rfl hx16
  have hfir : ∀ (W' : World) (rs' : List Int) (ps' : List Value) (ov' : Bool) (bs' : List Int), MS W' g F (isL op fm n k x2 b1 d1 b2 d2 l1 l2 i2) os rs' ps' ov' bs' ks → Calls Try.prog 71 #[.pointer (some ⟨g, 0, none⟩)] W' fun e w' => e = .returned (.int .i64 a1) ∧ Ch W' w' [] := fun W' rs' ps' ov' bs' hm => by rw [← ha1]; exact first_c g b1 d1 _ _ _ _ _ _ _ hm.m ro rfl hd1.1 (by omega) rfl hb116
  subst hop
  have hs := fun W' => hsec W' os (psL m key M W P cd il cc pg ad) false bs
  by_cases hc : sCode (alP key) bs.length ks a 1 = 0
  · refine (exec_m2 g 66 (by omega) (by omega) _ w c0 (move_66 g n F _ _ _ _ _ _ _ key a w h rfl hn16 rfl hs hb0.1 hb0.2 ro rfl hc)).mono ?_
    rintro e w' ⟨rfl, hM, hC⟩
    refine ends_ok (by simp [exO, mvO, Pre.wr, Pre.no, Pre.rg, Pre.pc, Pre.fc, hc]) rfl ?_ hC (by simp)
    simp [exO, mvO, Pre.wr, Pre.no, Pre.rg, Pre.pc, Pre.fc, hc]
    exact hM
  · refine (exec_m2_no g 66 (by omega) (by omega) _ (sCode (alP key) bs.length ks a 1) w c0 (move_66_no g n F _ _ _ _ _ _ _ key a w h rfl hn16 rfl hs hb0.1 hb0.2 ro rfl _ rfl hc)).mono ?_
    rintro e w' ⟨rfl, hM, hC⟩
    exact ends_no (c := (sCode (alP key) bs.length ks a 1)) (by simp [exO, mvO, Pre.wr, Pre.no, Pre.rg, Pre.pc, Pre.fc, hc]) (by first | decide | assumption) rfl hM hC (by simp)
set_option maxRecDepth 1000000 in
set_option maxHeartbeats 8000000 in
theorem exec_gm67 (g n k x2 b1 b2 l1 : Nat) (F : Foot) (op fm d1 d2 l2 i2 : Int) (m key : Int) (M W P : Bool) (cd il cc pg ad : Int) (os bs ks : List Int) (w : World) (h : MS w g F (isL op fm n k x2 b1 d1 b2 d2 l1 l2 i2) os os (psL m key M W P cd il cc pg ad) false bs ks) (ro : ∀ z ∈ os, 0 ≤ z ∧ z ≤ 4294967295) (hn16 : n < 16) (hk16 : k < 16) (hx16 : x2 < 16) (hb116 : b1 < 16) (hb216 : b2 < 16) (hl1 : l1 < 256) (hd1 : 0 ≤ d1 ∧ d1 < 4096) (hd2 : 0 ≤ d2 ∧ d2 < 4096) (hi2 : 0 ≤ i2 ∧ i2 < 256) (a1 a : Int) (ha1 : (d1 + sumB os [b1]) % 16777216 = a1) (ha : (d2 + sumB os [b2, x2]) % 16777216 = a)  (hop : op = 67) : Calls Try.prog 31 #[.pointer (some ⟨g, 0, none⟩)] w (Ends g F (isL op fm n k x2 b1 d1 b2 d2 l1 l2 i2) os m key M W P cd il bs ks (exO (⟨os, key, il, cc, pg, ad, bs, ks⟩ : Pre) op fm n k a1 a l1 i2) w) := by
  have c0 : w.cell? ⟨g, 0, none⟩ = some (.int .i64 op) := h.m.ci (c := 0) (by omega)
  have hb0 : 0 ≤ a ∧ a ≤ 16777215 := by omega
  have hb1 : 0 ≤ a1 ∧ a1 ≤ 16777215 := by omega
  have hsec : ∀ (W' : World) (rs' : List Int) (ps' : List Value) (ov' : Bool) (bs' : List Int), MS W' g F (isL op fm n k x2 b1 d1 b2 d2 l1 l2 i2) os rs' ps' ov' bs' ks → Calls Try.prog 44 #[.pointer (some ⟨g, 0, none⟩)] W' fun e w' => e = .returned (.int .i64 a) ∧ Ch W' w' [] := fun W' rs' ps' ov' bs' hm => by rw [← ha]; exact second_c g b2 x2 d2 _ _ _ _ _ _ _ hm.m ro rfl hd2.1 (by omega) rfl hb216 rfl hx16
  have hfir : ∀ (W' : World) (rs' : List Int) (ps' : List Value) (ov' : Bool) (bs' : List Int), MS W' g F (isL op fm n k x2 b1 d1 b2 d2 l1 l2 i2) os rs' ps' ov' bs' ks → Calls Try.prog 71 #[.pointer (some ⟨g, 0, none⟩)] W' fun e w' => e = .returned (.int .i64 a1) ∧ Ch W' w' [] := fun W' rs' ps' ov' bs' hm => by rw [← ha1]; exact first_c g b1 d1 _ _ _ _ _ _ _ hm.m ro rfl hd1.1 (by omega) rfl hb116
  subst hop
  have hs := fun W' => hsec W' os (psL m key M W P cd il cc pg ad) false bs
  by_cases hc : sCode (alF key) bs.length ks a 1 = 0
  · refine (exec_m2 g 67 (by omega) (by omega) _ w c0 (move_67 g n F _ _ _ _ _ _ _ key a w h rfl hn16 rfl hs hb0.1 hb0.2 ro rfl hc)).mono ?_
    rintro e w' ⟨rfl, hM, hC⟩
    refine ends_ok (by simp [exO, mvO, Pre.wr, Pre.no, Pre.rg, Pre.pc, Pre.fc, hc]) rfl ?_ hC (by simp)
    simp [exO, mvO, Pre.wr, Pre.no, Pre.rg, Pre.pc, Pre.fc, hc]
    exact hM
  · refine (exec_m2_no g 67 (by omega) (by omega) _ (sCode (alF key) bs.length ks a 1) w c0 (move_67_no g n F _ _ _ _ _ _ _ key a w h rfl hn16 rfl hs hb0.1 hb0.2 ro rfl _ rfl hc)).mono ?_
    rintro e w' ⟨rfl, hM, hC⟩
    exact ends_no (c := (sCode (alF key) bs.length ks a 1)) (by simp [exO, mvO, Pre.wr, Pre.no, Pre.rg, Pre.pc, Pre.fc, hc]) (by first | decide | assumption) rfl hM hC (by simp)
set_option maxRecDepth 1000000 in
set_option maxHeartbeats 8000000 in
theorem exec_gm80 (g n k x2 b1 b2 l1 : Nat) (F : Foot) (op fm d1 d2 l2 i2 : Int) (m key : Int) (M W P : Bool) (cd il cc pg ad : Int) (os bs ks : List Int) (w : World) (h : MS w g F (isL op fm n k x2 b1 d1 b2 d2 l1 l2 i2) os os (psL m key M W P cd il cc pg ad) false bs ks) (ro : ∀ z ∈ os, 0 ≤ z ∧ z ≤ 4294967295) (hn16 : n < 16) (hk16 : k < 16) (hx16 : x2 < 16) (hb116 : b1 < 16) (hb216 : b2 < 16) (hl1 : l1 < 256) (hd1 : 0 ≤ d1 ∧ d1 < 4096) (hd2 : 0 ≤ d2 ∧ d2 < 4096) (hi2 : 0 ≤ i2 ∧ i2 < 256) (a1 a : Int) (ha1 : (d1 + sumB os [b1]) % 16777216 = a1) (ha : (d2 + sumB os [b2, x2]) % 16777216 = a)  (hop : op = 80) : Calls Try.prog 31 #[.pointer (some ⟨g, 0, none⟩)] w (Ends g F (isL op fm n k x2 b1 d1 b2 d2 l1 l2 i2) os m key M W P cd il bs ks (exO (⟨os, key, il, cc, pg, ad, bs, ks⟩ : Pre) op fm n k a1 a l1 i2) w) := by
  have c0 : w.cell? ⟨g, 0, none⟩ = some (.int .i64 op) := h.m.ci (c := 0) (by omega)
  have hb0 : 0 ≤ a ∧ a ≤ 16777215 := by omega
  have hb1 : 0 ≤ a1 ∧ a1 ≤ 16777215 := by omega
  have hsec : ∀ (W' : World) (rs' : List Int) (ps' : List Value) (ov' : Bool) (bs' : List Int), MS W' g F (isL op fm n k x2 b1 d1 b2 d2 l1 l2 i2) os rs' ps' ov' bs' ks → Calls Try.prog 44 #[.pointer (some ⟨g, 0, none⟩)] W' fun e w' => e = .returned (.int .i64 a) ∧ Ch W' w' [] := fun W' rs' ps' ov' bs' hm => by rw [← ha]; exact second_c g b2 x2 d2 _ _ _ _ _ _ _ hm.m ro rfl hd2.1 (by omega) rfl hb216 rfl hx16
  have hfir : ∀ (W' : World) (rs' : List Int) (ps' : List Value) (ov' : Bool) (bs' : List Int), MS W' g F (isL op fm n k x2 b1 d1 b2 d2 l1 l2 i2) os rs' ps' ov' bs' ks → Calls Try.prog 71 #[.pointer (some ⟨g, 0, none⟩)] W' fun e w' => e = .returned (.int .i64 a1) ∧ Ch W' w' [] := fun W' rs' ps' ov' bs' hm => by rw [← ha1]; exact first_c g b1 d1 _ _ _ _ _ _ _ hm.m ro rfl hd1.1 (by omega) rfl hb116
  subst hop
  have hs := fun W' => hsec W' os (psL m key M W P cd il cc pg ad) false bs
  by_cases hal : a % 4 = 0
  rotate_left
  · refine (exec_m3_no g _ 6 w c0 (move_80_odd g n F _ _ _ _ _ _ _ key a w h rfl hn16 rfl hs hb0.1 hb0.2 ro rfl hal)).mono ?_
    rintro e w' ⟨rfl, hM, hC⟩
    exact ends_no (c := 6) (by simp [exO, mvO, Pre.wr, Pre.no, Pre.rg, Pre.pc, Pre.fc, hal]) (by first | decide | assumption) rfl hM hC (by simp)
  by_cases hc : sCode (alP key) bs.length ks a 4 = 0
  · refine (exec_m3 g _ w c0 (move_80 g n F _ _ _ _ _ _ _ key a w h rfl hn16 rfl hs hb0.1 hb0.2 ro rfl hal hc)).mono ?_
    rintro e w' ⟨rfl, hM, hC⟩
    refine ends_ok (by simp [exO, mvO, Pre.wr, Pre.no, Pre.rg, Pre.pc, Pre.fc, hc, hal]) rfl ?_ hC (by simp)
    simp [exO, mvO, Pre.wr, Pre.no, Pre.rg, Pre.pc, Pre.fc, hc, hal]
    exact hM
  · refine (exec_m3_no g _ (sCode (alP key) bs.length ks a 4) w c0 (move_80_no g n F _ _ _ _ _ _ _ key a w h rfl hn16 rfl hs hb0.1 hb0.2 ro rfl hal _ rfl hc)).mono ?_
    rintro e w' ⟨rfl, hM, hC⟩
    exact ends_no (c := (sCode (alP key) bs.length ks a 4)) (by simp [exO, mvO, Pre.wr, Pre.no, Pre.rg, Pre.pc, Pre.fc, hc, hal]) (by first | decide | assumption) rfl hM hC (by simp)
set_option maxRecDepth 1000000 in
set_option maxHeartbeats 8000000 in
theorem exec_gm144 (g n k x2 b1 b2 l1 : Nat) (F : Foot) (op fm d1 d2 l2 i2 : Int) (m key : Int) (M W P : Bool) (cd il cc pg ad : Int) (os bs ks : List Int) (w : World) (h : MS w g F (isL op fm n k x2 b1 d1 b2 d2 l1 l2 i2) os os (psL m key M W P cd il cc pg ad) false bs ks) (ro : ∀ z ∈ os, 0 ≤ z ∧ z ≤ 4294967295) (hn16 : n < 16) (hk16 : k < 16) (hx16 : x2 < 16) (hb116 : b1 < 16) (hb216 : b2 < 16) (hl1 : l1 < 256) (hd1 : 0 ≤ d1 ∧ d1 < 4096) (hd2 : 0 ≤ d2 ∧ d2 < 4096) (hi2 : 0 ≤ i2 ∧ i2 < 256) (a1 a : Int) (ha1 : (d1 + sumB os [b1]) % 16777216 = a1) (ha : (d2 + sumB os [b2, x2]) % 16777216 = a)  (hop : op = 144) : Calls Try.prog 31 #[.pointer (some ⟨g, 0, none⟩)] w (Ends g F (isL op fm n k x2 b1 d1 b2 d2 l1 l2 i2) os m key M W P cd il bs ks (exO (⟨os, key, il, cc, pg, ad, bs, ks⟩ : Pre) op fm n k a1 a l1 i2) w) := by
  have c0 : w.cell? ⟨g, 0, none⟩ = some (.int .i64 op) := h.m.ci (c := 0) (by omega)
  have hb0 : 0 ≤ a ∧ a ≤ 16777215 := by omega
  have hb1 : 0 ≤ a1 ∧ a1 ≤ 16777215 := by omega
  have hsec : ∀ (W' : World) (rs' : List Int) (ps' : List Value) (ov' : Bool) (bs' : List Int), MS W' g F (isL op fm n k x2 b1 d1 b2 d2 l1 l2 i2) os rs' ps' ov' bs' ks → Calls Try.prog 44 #[.pointer (some ⟨g, 0, none⟩)] W' fun e w' => e = .returned (.int .i64 a) ∧ Ch W' w' [] := fun W' rs' ps' ov' bs' hm => by rw [← ha]; exact second_c g b2 x2 d2 _ _ _ _ _ _ _ hm.m ro rfl hd2.1 (by omega) rfl hb216 rfl hx16
  have hfir : ∀ (W' : World) (rs' : List Int) (ps' : List Value) (ov' : Bool) (bs' : List Int), MS W' g F (isL op fm n k x2 b1 d1 b2 d2 l1 l2 i2) os rs' ps' ov' bs' ks → Calls Try.prog 71 #[.pointer (some ⟨g, 0, none⟩)] W' fun e w' => e = .returned (.int .i64 a1) ∧ Ch W' w' [] := fun W' rs' ps' ov' bs' hm => by rw [← ha1]; exact first_c g b1 d1 _ _ _ _ _ _ _ hm.m ro rfl hd1.1 (by omega) rfl hb116
  subst hop
  have hs := fun W' => hsec W' os (psL m key M W P cd il cc pg ad) false bs
  obtain ⟨c, hcd⟩ : ∃ c, (if a % 4 = 0 then sCode (alP key) bs.length ks a ((4 * ((k + 16 - n) % 16 + 1) : Nat) : Int) else 6) = c := ⟨_, rfl⟩
  have hst := move_stm_any g n k F _ _ _ _ _ _ _ key a w h rfl rfl hn16 rfl hk16 ro rfl hs hb0.1 hb0.2 c hcd
  by_cases hc : c = 0
  · have hc' := hcd.trans hc
    have hal : a % 4 = 0 := by by_cases hq : a % 4 = 0; (· exact hq); (· rw [if_neg hq] at hc'; cases hc')
    rw [if_pos hal] at hc'
    refine (exec_m4 g (fun w' => MS w' g F (isL 144 fm n k x2 b1 d1 b2 d2 l1 l2 i2) os os (psL m key M W P cd il cc pg ad) false (sPut (alP key) bs ks a (stB os n ((k + 16 - n) % 16 + 1))) ks ∧ Ch w w' [F.gb]) w c0 (hst.mono ?_)).mono ?_
    · rintro e w' ⟨h1, h2, h3⟩; exact ⟨(h1 hc).1, (h1 hc).2, h3⟩
    rintro e w' ⟨rfl, hM, hC⟩
    have e1 : exO (⟨os, key, il, cc, pg, ad, bs, ks⟩ : Pre) 144 fm n k a1 a l1 i2 = ⟨0, os, cc, pg, ad, false, sPut (alP key) bs ks a (stB os n (cnt n k))⟩ := by
      have e0 : exO (⟨os, key, il, cc, pg, ad, bs, ks⟩ : Pre) 144 fm n k a1 a l1 i2 = (if a % 4 = 0 then Pre.wr (⟨os, key, il, cc, pg, ad, bs, ks⟩ : Pre) a ((4 * cnt n k : Nat) : Int) (stB os n (cnt n k)) cc else Pre.no (⟨os, key, il, cc, pg, ad, bs, ks⟩ : Pre) 6) := rfl
      have hc2 : Pre.pc (⟨os, key, il, cc, pg, ad, bs, ks⟩ : Pre) a ((4 * cnt n k : Nat) : Int) = 0 := hc'
      rw [e0, if_pos hal]; unfold Pre.wr; rw [if_pos hc2]
    rw [e1]
    exact ends_ok rfl rfl hM hC (by simp)
  · refine (exec_m4_no g (fun w' => MS w' g F (isL 144 fm n k x2 b1 d1 b2 d2 l1 l2 i2) os os (psL m key M W P cd il cc pg ad) false bs ks ∧ Ch w w' [F.gb]) c w c0 (hst.mono ?_)).mono ?_
    · rintro e w' ⟨h1, h2, h3⟩; exact ⟨(h2 hc).1, (h2 hc).2, h3⟩
    rintro e w' ⟨rfl, hM, hC⟩
    refine ends_no ?_ hc rfl hM hC (by simp)
    have e0 : exO (⟨os, key, il, cc, pg, ad, bs, ks⟩ : Pre) 144 fm n k a1 a l1 i2 = (if a % 4 = 0 then Pre.wr (⟨os, key, il, cc, pg, ad, bs, ks⟩ : Pre) a ((4 * cnt n k : Nat) : Int) (stB os n (cnt n k)) cc else Pre.no (⟨os, key, il, cc, pg, ad, bs, ks⟩ : Pre) 6) := rfl
    rw [e0]
    by_cases hal : a % 4 = 0
    · rw [if_pos hal] at hcd
      rw [if_pos hal]
      have hc2 : Pre.pc (⟨os, key, il, cc, pg, ad, bs, ks⟩ : Pre) a ((4 * cnt n k : Nat) : Int) = c := hcd
      unfold Pre.wr; rw [hc2, if_neg hc]; rfl
    · rw [if_neg hal] at hcd; rw [if_neg hal, ← hcd]; rfl
set_option maxRecDepth 1000000 in
set_option maxHeartbeats 8000000 in
theorem exec_gm152 (g n k x2 b1 b2 l1 : Nat) (F : Foot) (op fm d1 d2 l2 i2 : Int) (m key : Int) (M W P : Bool) (cd il cc pg ad : Int) (os bs ks : List Int) (w : World) (h : MS w g F (isL op fm n k x2 b1 d1 b2 d2 l1 l2 i2) os os (psL m key M W P cd il cc pg ad) false bs ks) (ro : ∀ z ∈ os, 0 ≤ z ∧ z ≤ 4294967295) (hn16 : n < 16) (hk16 : k < 16) (hx16 : x2 < 16) (hb116 : b1 < 16) (hb216 : b2 < 16) (hl1 : l1 < 256) (hd1 : 0 ≤ d1 ∧ d1 < 4096) (hd2 : 0 ≤ d2 ∧ d2 < 4096) (hi2 : 0 ≤ i2 ∧ i2 < 256) (a1 a : Int) (ha1 : (d1 + sumB os [b1]) % 16777216 = a1) (ha : (d2 + sumB os [b2, x2]) % 16777216 = a)  (hop : op = 152) : Calls Try.prog 31 #[.pointer (some ⟨g, 0, none⟩)] w (Ends g F (isL op fm n k x2 b1 d1 b2 d2 l1 l2 i2) os m key M W P cd il bs ks (exO (⟨os, key, il, cc, pg, ad, bs, ks⟩ : Pre) op fm n k a1 a l1 i2) w) := by
  have c0 : w.cell? ⟨g, 0, none⟩ = some (.int .i64 op) := h.m.ci (c := 0) (by omega)
  have hb0 : 0 ≤ a ∧ a ≤ 16777215 := by omega
  have hb1 : 0 ≤ a1 ∧ a1 ≤ 16777215 := by omega
  have hsec : ∀ (W' : World) (rs' : List Int) (ps' : List Value) (ov' : Bool) (bs' : List Int), MS W' g F (isL op fm n k x2 b1 d1 b2 d2 l1 l2 i2) os rs' ps' ov' bs' ks → Calls Try.prog 44 #[.pointer (some ⟨g, 0, none⟩)] W' fun e w' => e = .returned (.int .i64 a) ∧ Ch W' w' [] := fun W' rs' ps' ov' bs' hm => by rw [← ha]; exact second_c g b2 x2 d2 _ _ _ _ _ _ _ hm.m ro rfl hd2.1 (by omega) rfl hb216 rfl hx16
  have hfir : ∀ (W' : World) (rs' : List Int) (ps' : List Value) (ov' : Bool) (bs' : List Int), MS W' g F (isL op fm n k x2 b1 d1 b2 d2 l1 l2 i2) os rs' ps' ov' bs' ks → Calls Try.prog 71 #[.pointer (some ⟨g, 0, none⟩)] W' fun e w' => e = .returned (.int .i64 a1) ∧ Ch W' w' [] := fun W' rs' ps' ov' bs' hm => by rw [← ha1]; exact first_c g b1 d1 _ _ _ _ _ _ _ hm.m ro rfl hd1.1 (by omega) rfl hb116
  subst hop
  have hs := fun W' => hsec W' os (psL m key M W P cd il cc pg ad) false bs
  by_cases hal : a % 4 = 0
  rotate_left
  · refine (exec_m5_no g _ 6 w c0 (move_lm_odd g n k F _ _ _ _ _ _ _ key a w h rfl rfl hn16 rfl hk16 rfl hs hb0.1 hb0.2 hal)).mono ?_
    rintro e w' ⟨rfl, hM, hC⟩
    exact ends_no (c := 6) (by simp [exO, mvO, Pre.no, hal]) (by decide) rfl hM hC (by simp)
  by_cases hc : sCode (alF key) bs.length ks a ((4 * ((k + 16 - n) % 16 + 1) : Nat) : Int) = 0
  · refine (exec_m5 g _ w c0 (move_lm g n k F _ _ _ _ _ _ _ key a w h rfl rfl hn16 rfl hk16 rfl hs hb0.1 hb0.2 hal hc)).mono ?_
    rintro e w' ⟨rfl, hM, hC⟩
    have e1 : exO (⟨os, key, il, cc, pg, ad, bs, ks⟩ : Pre) 152 fm n k a1 a l1 i2 = ⟨0, lmR os n (sGet bs a ((4 * cnt n k : Nat) : Int)) (cnt n k), cc, pg, ad, false, bs⟩ := by
      have e0 : exO (⟨os, key, il, cc, pg, ad, bs, ks⟩ : Pre) 152 fm n k a1 a l1 i2 = (if a % 4 = 0 then (if Pre.fc (⟨os, key, il, cc, pg, ad, bs, ks⟩ : Pre) a ((4 * cnt n k : Nat) : Int) = 0 then Pre.rg (⟨os, key, il, cc, pg, ad, bs, ks⟩ : Pre) (lmR os n (sGet bs a ((4 * cnt n k : Nat) : Int)) (cnt n k)) else Pre.no (⟨os, key, il, cc, pg, ad, bs, ks⟩ : Pre) (Pre.fc (⟨os, key, il, cc, pg, ad, bs, ks⟩ : Pre) a ((4 * cnt n k : Nat) : Int))) else Pre.no (⟨os, key, il, cc, pg, ad, bs, ks⟩ : Pre) 6) := rfl
      have hc2 : Pre.fc (⟨os, key, il, cc, pg, ad, bs, ks⟩ : Pre) a ((4 * cnt n k : Nat) : Int) = 0 := hc
      rw [e0, if_pos hal, if_pos hc2]; rfl
    rw [e1]
    exact ends_ok rfl rfl hM hC (by simp)
  · refine (exec_m5_no g _ _ w c0 (move_lm_no g n k F _ _ _ _ _ _ _ key a w h rfl rfl hn16 rfl hk16 rfl hs hb0.1 hb0.2 hal _ rfl hc)).mono ?_
    rintro e w' ⟨rfl, hM, hC⟩
    refine ends_no ?_ hc rfl hM hC (by simp)
    have e0 : exO (⟨os, key, il, cc, pg, ad, bs, ks⟩ : Pre) 152 fm n k a1 a l1 i2 = (if a % 4 = 0 then (if Pre.fc (⟨os, key, il, cc, pg, ad, bs, ks⟩ : Pre) a ((4 * cnt n k : Nat) : Int) = 0 then Pre.rg (⟨os, key, il, cc, pg, ad, bs, ks⟩ : Pre) (lmR os n (sGet bs a ((4 * cnt n k : Nat) : Int)) (cnt n k)) else Pre.no (⟨os, key, il, cc, pg, ad, bs, ks⟩ : Pre) (Pre.fc (⟨os, key, il, cc, pg, ad, bs, ks⟩ : Pre) a ((4 * cnt n k : Nat) : Int))) else Pre.no (⟨os, key, il, cc, pg, ad, bs, ks⟩ : Pre) 6) := rfl
    have hc2 : ¬ Pre.fc (⟨os, key, il, cc, pg, ad, bs, ks⟩ : Pre) a ((4 * cnt n k : Nat) : Int) = 0 := hc
    rw [e0, if_pos hal, if_neg hc2]; rfl
end Go.Proofs.Ythjdjbipfdigeaa

