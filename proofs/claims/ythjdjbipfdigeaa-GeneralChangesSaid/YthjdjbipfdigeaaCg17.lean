/- Contracts and laws on the way to the statement, text 17 of 25. Conditions: as each states them. -/
import Derived.Test.YthjdjbipfdigeaaCg16
namespace Go.Proofs.Ythjdjbipfdigeaa
open Go.RowKit
set_option maxRecDepth 100000
set_option linter.unusedVariables false
set_option linter.unusedSimpArgs false
set_option maxRecDepth 1000000 in
set_option maxHeartbeats 8000000 in
theorem exec_gi (g n k x2 b1 b2 l1 : Nat) (F : Foot) (op fm d1 d2 l2 i2 : Int) (m key : Int) (M W P : Bool) (cd il cc pg ad : Int) (os bs ks : List Int) (w : World) (h : MS w g F (isL op fm n k x2 b1 d1 b2 d2 l1 l2 i2) os os (psL m key M W P cd il cc pg ad) false bs ks) (ro : ∀ z ∈ os, 0 ≤ z ∧ z ≤ 4294967295) (hn16 : n < 16) (hk16 : k < 16) (hx16 : x2 < 16) (hb116 : b1 < 16) (hb216 : b2 < 16) (hl1 : l1 < 256) (hd1 : 0 ≤ d1 ∧ d1 < 4096) (hd2 : 0 ≤ d2 ∧ d2 < 4096) (hi2 : 0 ≤ i2 ∧ i2 < 256) (a1 a : Int) (ha1 : (d1 + sumB os [b1]) % 16777216 = a1) (ha : (d2 + sumB os [b2, x2]) % 16777216 = a)  (hop : 145 ≤ op ∧ op ≤ 151) : Calls Try.prog 31 #[.pointer (some ⟨g, 0, none⟩)] w (Ends g F (isL op fm n k x2 b1 d1 b2 d2 l1 l2 i2) os m key M W P cd il bs ks (exO (⟨os, key, il, cc, pg, ad, bs, ks⟩ : Pre) op fm n k a1 a l1 i2) w) := by
  have c0 : w.cell? ⟨g, 0, none⟩ = some (.int .i64 op) := h.m.ci (c := 0) (by omega)
  have hb0 : 0 ≤ a ∧ a ≤ 16777215 := by omega
  have hb1 : 0 ≤ a1 ∧ a1 ≤ 16777215 := by omega
  have hsec : ∀ (W' : World) (rs' : List Int) (ps' : List Value) (ov' : Bool) (bs' : List Int), MS W' g F (isL op fm n k x2 b1 d1 b2 d2 l1 l2 i2) os rs' ps' ov' bs' ks → Calls Try.prog 44 #[.pointer (some ⟨g, 0, none⟩)] W' fun e w' => e = .returned (.int .i64 a) ∧ Ch W' w' [] := fun W' rs' ps' ov' bs' hm => by rw [← ha]; exact second_c g b2 x2 d2 _ _ _ _ _ _ _ hm.m ro rfl hd2.1 (by omega) rfl hb216 rfl hx16
  have hfir : ∀ (W' : World) (rs' : List Int) (ps' : List Value) (ov' : Bool) (bs' : List Int), MS W' g F (isL op fm n k x2 b1 d1 b2 d2 l1 l2 i2) os rs' ps' ov' bs' ks → Calls Try.prog 71 #[.pointer (some ⟨g, 0, none⟩)] W' fun e w' => e = .returned (.int .i64 a1) ∧ Ch W' w' [] := fun W' rs' ps' ov' bs' hm => by rw [← ha1]; exact first_c g b1 d1 _ _ _ _ _ _ _ hm.m ro rfl hd1.1 (by omega) rfl hb116
  have hs := fun W' => hfir W' os (psL m key M W P cd il cc pg ad) false bs
  have hr := sGet_in a1 1 h.st.rb 0
  by_cases h146 : op = 146
  · subst h146
    by_cases hc : sCode (alP key) bs.length ks a1 1 = 0
    · refine (exec_i g 146 (by omega) (by omega) _ w c0 (imm_146 g F _ _ _ _ _ _ _ key a1 w h rfl i2 rfl hi2.1 (by omega) hs rfl hc)).mono ?_
      rintro e w' ⟨rfl, hM, hC⟩
      refine ends_ok (by simp [exO, imO, Pre.wr, Pre.pc, hc]) rfl ?_ hC (by simp)
      simp [exO, imO, Pre.wr, Pre.pc, hc]
      exact hM
    · refine (exec_i_no g 146 (by omega) (by omega) _ _ w c0 (imm_146_no g F _ _ _ _ _ _ _ key a1 w h rfl i2 rfl hi2.1 (by omega) hs rfl _ rfl hc)).mono ?_
      rintro e w' ⟨rfl, hM, hC⟩
      exact ends_no (by simp [exO, imO, Pre.wr, Pre.pc, Pre.no, hc]) hc rfl hM hC (by simp)
  by_cases hf : sCode (alF key) bs.length ks a1 1 = 0
  rotate_left
  · refine (exec_i_no g op hop.1 hop.2 _ _ w c0 (imm_no g F _ _ _ _ _ _ _ key a1 w h rfl i2 rfl hi2.1 (by omega) hs op rfl h146 _ rfl hf)).mono ?_
    rintro e w' ⟨rfl, hM, hC⟩
    have e1 : exO (⟨os, key, il, cc, pg, ad, bs, ks⟩ : Pre) op fm n k a1 a l1 i2 = imO (⟨os, key, il, cc, pg, ad, bs, ks⟩ : Pre) op a1 i2 := by unfold exO; rw [if_neg (by omega), if_neg (by omega), if_neg (by omega), if_neg (by omega), if_pos hop]
    exact ends_no (by rw [e1]; simp [imO, Pre.fc, Pre.no, h146, hf]) hf rfl hM hC (by simp)
  have hcs : op = 145 ∨ op = 149 ∨ op = 147 ∨ op = 148 ∨ op = 150 ∨ op = 151 := by omega
  clear h146
  rcases hcs with rfl | rfl | rfl | rfl | rfl | rfl
  · by_cases hz : bits .and .u8 ((sGet bs a1 1).getD 0 0) i2 = 0
    · refine (exec_i g 145 (by omega) (by omega) _ w c0 (imm_145z g F _ _ _ _ _ _ _ key a1 w h rfl i2 rfl hi2.1 (by omega) hs hf hr hz rfl)).mono ?_
      rintro e w' ⟨rfl, hM, hC⟩
      have e0 : exO (⟨os, key, il, cc, pg, ad, bs, ks⟩ : Pre) 145 fm n k a1 a l1 i2 = (if Pre.fc (⟨os, key, il, cc, pg, ad, bs, ks⟩ : Pre) a1 1 ≠ 0 then Pre.no (⟨os, key, il, cc, pg, ad, bs, ks⟩ : Pre) (Pre.fc (⟨os, key, il, cc, pg, ad, bs, ks⟩ : Pre) a1 1) else Pre.st (⟨os, key, il, cc, pg, ad, bs, ks⟩ : Pre) os (if bits .and .u8 ((sGet bs a1 1).getD 0 0) i2 = 0 then 0 else if bits .and .u8 ((sGet bs a1 1).getD 0 0) i2 = i2 then 3 else 1) false) := rfl
      have hf2 : ¬ Pre.fc (⟨os, key, il, cc, pg, ad, bs, ks⟩ : Pre) a1 1 ≠ 0 := fun hx => hx hf
      rw [e0, if_neg hf2, if_pos hz]
      exact ends_ok rfl rfl hM hC (by simp)
    by_cases hz2 : bits .and .u8 ((sGet bs a1 1).getD 0 0) i2 = i2
    · refine (exec_i g 145 (by omega) (by omega) _ w c0 (imm_145e g F _ _ _ _ _ _ _ key a1 w h rfl i2 rfl hi2.1 (by omega) hs hf hr hz hz2 rfl)).mono ?_
      rintro e w' ⟨rfl, hM, hC⟩
      have e0 : exO (⟨os, key, il, cc, pg, ad, bs, ks⟩ : Pre) 145 fm n k a1 a l1 i2 = (if Pre.fc (⟨os, key, il, cc, pg, ad, bs, ks⟩ : Pre) a1 1 ≠ 0 then Pre.no (⟨os, key, il, cc, pg, ad, bs, ks⟩ : Pre) (Pre.fc (⟨os, key, il, cc, pg, ad, bs, ks⟩ : Pre) a1 1) else Pre.st (⟨os, key, il, cc, pg, ad, bs, ks⟩ : Pre) os (if bits .and .u8 ((sGet bs a1 1).getD 0 0) i2 = 0 then 0 else if bits .and .u8 ((sGet bs a1 1).getD 0 0) i2 = i2 then 3 else 1) false) := rfl
      have hf2 : ¬ Pre.fc (⟨os, key, il, cc, pg, ad, bs, ks⟩ : Pre) a1 1 ≠ 0 := fun hx => hx hf
      rw [e0, if_neg hf2, if_neg hz, if_pos hz2]
      exact ends_ok rfl rfl hM hC (by simp)
    · refine (exec_i g 145 (by omega) (by omega) _ w c0 (imm_145n g F _ _ _ _ _ _ _ key a1 w h rfl i2 rfl hi2.1 (by omega) hs hf hr hz hz2 rfl)).mono ?_
      rintro e w' ⟨rfl, hM, hC⟩
      have e0 : exO (⟨os, key, il, cc, pg, ad, bs, ks⟩ : Pre) 145 fm n k a1 a l1 i2 = (if Pre.fc (⟨os, key, il, cc, pg, ad, bs, ks⟩ : Pre) a1 1 ≠ 0 then Pre.no (⟨os, key, il, cc, pg, ad, bs, ks⟩ : Pre) (Pre.fc (⟨os, key, il, cc, pg, ad, bs, ks⟩ : Pre) a1 1) else Pre.st (⟨os, key, il, cc, pg, ad, bs, ks⟩ : Pre) os (if bits .and .u8 ((sGet bs a1 1).getD 0 0) i2 = 0 then 0 else if bits .and .u8 ((sGet bs a1 1).getD 0 0) i2 = i2 then 3 else 1) false) := rfl
      have hf2 : ¬ Pre.fc (⟨os, key, il, cc, pg, ad, bs, ks⟩ : Pre) a1 1 ≠ 0 := fun hx => hx hf
      rw [e0, if_neg hf2, if_neg hz, if_neg hz2]
      exact ends_ok rfl rfl hM hC (by simp)
  · refine (exec_i g 149 (by omega) (by omega) _ w c0 (imm_149 g F _ _ _ _ _ _ _ key a1 w h rfl i2 rfl hi2.1 (by omega) hs hf hr rfl)).mono ?_
    rintro e w' ⟨rfl, hM, hC⟩
    refine ends_ok (by simp [exO, imO, imB, Pre.st, Pre.wr, Pre.pc, Pre.fc, hf, hf]) rfl ?_ hC (by simp)
    simp [exO, imO, imB, Pre.st, Pre.wr, Pre.pc, Pre.fc, hf, hf]
    exact hM
  · by_cases hc : sCode (alP key) bs.length ks a1 1 = 0
    · refine (exec_i g 147 (by omega) (by omega) _ w c0 (imm_147 g F _ _ _ _ _ _ _ key a1 w h rfl i2 rfl hi2.1 (by omega) hs hf hr rfl hc)).mono ?_
      rintro e w' ⟨rfl, hM, hC⟩
      refine ends_ok (by simp [exO, imO, imB, Pre.st, Pre.wr, Pre.pc, Pre.fc, hf, hc]) rfl ?_ hC (by simp)
      simp [exO, imO, imB, Pre.st, Pre.wr, Pre.pc, Pre.fc, hf, hc]
      exact hM
    · refine (exec_i_no g 147 (by omega) (by omega) _ _ w c0 (imm_147_no g F _ _ _ _ _ _ _ key a1 w h rfl i2 rfl hi2.1 (by omega) hs hf hr rfl _ rfl hc)).mono ?_
      rintro e w' ⟨rfl, hM, hC⟩
      exact ends_no (by simp [exO, imO, imB, Pre.wr, Pre.pc, Pre.fc, Pre.no, hf, hc]) hc rfl hM hC (by simp)
  · by_cases hc : sCode (alP key) bs.length ks a1 1 = 0
    · refine (exec_i g 148 (by omega) (by omega) _ w c0 (imm_148 g F _ _ _ _ _ _ _ key a1 w h rfl i2 rfl hi2.1 (by omega) hs hf hr rfl (bounds_u8 (wf_bits .and .u8 _ _)) hc)).mono ?_
      rintro e w' ⟨rfl, hM, hC⟩
      refine ends_ok (by simp [exO, imO, imB, Pre.st, Pre.wr, Pre.pc, Pre.fc, hf, hc]) rfl ?_ hC (by simp)
      simp [exO, imO, imB, Pre.st, Pre.wr, Pre.pc, Pre.fc, hf, hc]
      exact hM
    · refine (exec_i_no g 148 (by omega) (by omega) _ _ w c0 (imm_148_no g F _ _ _ _ _ _ _ key a1 w h rfl i2 rfl hi2.1 (by omega) hs hf hr rfl (bounds_u8 (wf_bits .and .u8 _ _)) _ rfl hc)).mono ?_
      rintro e w' ⟨rfl, hM, hC⟩
      exact ends_no (by simp [exO, imO, imB, Pre.wr, Pre.pc, Pre.fc, Pre.no, hf, hc]) hc rfl hM hC (by simp)
  · by_cases hc : sCode (alP key) bs.length ks a1 1 = 0
    · refine (exec_i g 150 (by omega) (by omega) _ w c0 (imm_150 g F _ _ _ _ _ _ _ key a1 w h rfl i2 rfl hi2.1 (by omega) hs hf hr rfl (bounds_u8 (wf_bits .or .u8 _ _)) hc)).mono ?_
      rintro e w' ⟨rfl, hM, hC⟩
      refine ends_ok (by simp [exO, imO, imB, Pre.st, Pre.wr, Pre.pc, Pre.fc, hf, hc]) rfl ?_ hC (by simp)
      simp [exO, imO, imB, Pre.st, Pre.wr, Pre.pc, Pre.fc, hf, hc]
      exact hM
    · refine (exec_i_no g 150 (by omega) (by omega) _ _ w c0 (imm_150_no g F _ _ _ _ _ _ _ key a1 w h rfl i2 rfl hi2.1 (by omega) hs hf hr rfl (bounds_u8 (wf_bits .or .u8 _ _)) _ rfl hc)).mono ?_
      rintro e w' ⟨rfl, hM, hC⟩
      exact ends_no (by simp [exO, imO, imB, Pre.wr, Pre.pc, Pre.fc, Pre.no, hf, hc]) hc rfl hM hC (by simp)
  · by_cases hc : sCode (alP key) bs.length ks a1 1 = 0
    · refine (exec_i g 151 (by omega) (by omega) _ w c0 (imm_151 g F _ _ _ _ _ _ _ key a1 w h rfl i2 rfl hi2.1 (by omega) hs hf hr rfl (bounds_u8 (wf_bits .xor .u8 _ _)) hc)).mono ?_
      rintro e w' ⟨rfl, hM, hC⟩
      refine ends_ok (by simp [exO, imO, imB, Pre.st, Pre.wr, Pre.pc, Pre.fc, hf, hc]) rfl ?_ hC (by simp)
      simp [exO, imO, imB, Pre.st, Pre.wr, Pre.pc, Pre.fc, hf, hc]
      exact hM
    · refine (exec_i_no g 151 (by omega) (by omega) _ _ w c0 (imm_151_no g F _ _ _ _ _ _ _ key a1 w h rfl i2 rfl hi2.1 (by omega) hs hf hr rfl (bounds_u8 (wf_bits .xor .u8 _ _)) _ rfl hc)).mono ?_
      rintro e w' ⟨rfl, hM, hC⟩
      exact ends_no (by simp [exO, imO, imB, Pre.wr, Pre.pc, Pre.fc, Pre.no, hf, hc]) hc rfl hM hC (by simp)
set_option maxRecDepth 1000000 in
set_option maxHeartbeats 8000000 in
theorem exec_gl209 (g n k x2 b1 b2 l1 : Nat) (F : Foot) (op fm d1 d2 l2 i2 : Int) (m key : Int) (M W P : Bool) (cd il cc pg ad : Int) (os bs ks : List Int) (w : World) (h : MS w g F (isL op fm n k x2 b1 d1 b2 d2 l1 l2 i2) os os (psL m key M W P cd il cc pg ad) false bs ks) (ro : ∀ z ∈ os, 0 ≤ z ∧ z ≤ 4294967295) (hn16 : n < 16) (hk16 : k < 16) (hx16 : x2 < 16) (hb116 : b1 < 16) (hb216 : b2 < 16) (hl1 : l1 < 256) (hd1 : 0 ≤ d1 ∧ d1 < 4096) (hd2 : 0 ≤ d2 ∧ d2 < 4096) (hi2 : 0 ≤ i2 ∧ i2 < 256) (a1 a : Int) (ha1 : (d1 + sumB os [b1]) % 16777216 = a1) (ha : (d2 + sumB os [b2, x2]) % 16777216 = a)  (hop : op = 209) : Calls Try.prog 31 #[.pointer (some ⟨g, 0, none⟩)] w (Ends g F (isL op fm n k x2 b1 d1 b2 d2 l1 l2 i2) os m key M W P cd il bs ks (exO (⟨os, key, il, cc, pg, ad, bs, ks⟩ : Pre) op fm n k a1 a l1 i2) w) := by
  have c0 : w.cell? ⟨g, 0, none⟩ = some (.int .i64 op) := h.m.ci (c := 0) (by omega)
  have hb0 : 0 ≤ a ∧ a ≤ 16777215 := by omega
  have hb1 : 0 ≤ a1 ∧ a1 ≤ 16777215 := by omega
  have hsec : ∀ (W' : World) (rs' : List Int) (ps' : List Value) (ov' : Bool) (bs' : List Int), MS W' g F (isL op fm n k x2 b1 d1 b2 d2 l1 l2 i2) os rs' ps' ov' bs' ks → Calls Try.prog 44 #[.pointer (some ⟨g, 0, none⟩)] W' fun e w' => e = .returned (.int .i64 a) ∧ Ch W' w' [] := fun W' rs' ps' ov' bs' hm => by rw [← ha]; exact second_c g b2 x2 d2 _ _ _ _ _ _ _ hm.m ro rfl hd2.1 (by omega) rfl hb216 rfl hx16
  have hfir : ∀ (W' : World) (rs' : List Int) (ps' : List Value) (ov' : Bool) (bs' : List Int), MS W' g F (isL op fm n k x2 b1 d1 b2 d2 l1 l2 i2) os rs' ps' ov' bs' ks → Calls Try.prog 71 #[.pointer (some ⟨g, 0, none⟩)] W' fun e w' => e = .returned (.int .i64 a1) ∧ Ch W' w' [] := fun W' rs' ps' ov' bs' hm => by rw [← ha1]; exact first_c g b1 d1 _ _ _ _ _ _ _ hm.m ro rfl hd1.1 (by omega) rfl hb116
  have hs := fun W' => hsec W' os (psL m key M W P cd il cc pg ad) false bs
  have hs1 := fun W' => hfir W' os (psL m key M W P cd il cc pg ad) false bs
  have e1 : exO (⟨os, key, il, cc, pg, ad, bs, ks⟩ : Pre) 209 fm n k a1 a l1 i2 = loO (⟨os, key, il, cc, pg, ad, bs, ks⟩ : Pre) 209 (l1 + 1) a1 a := rfl
  subst hop
  rw [e1]
  by_cases hf1 : sCode (alF key) bs.length ks a1 ((l1 + 1 : Nat) : Int) = 0
  rotate_left
  · refine (exec_l_no g 209 (by omega) (by omega) _ _ w c0 (long_209_no g _ _ w c0 (combine_no1 g 75 (l1 + 1) (cb 209) false F _ _ _ _ _ _ _ key a1 a w h (show ((l1 : Nat) : Int) + 1 = ((l1 + 1 : Nat) : Int) by omega) (by omega) rfl hs1 hs hb1.1 hb1.2 hb0.1 hb0.2  _ rfl hf1))).mono ?_
    rintro e w' ⟨rfl, hM, hC⟩
    exact ends_no (show Out.c (loO (⟨os, key, il, cc, pg, ad, bs, ks⟩ : Pre) 209 (l1 + 1) a1 a) = _ by unfold loO Pre.fc; rw [if_neg (by decide), if_pos hf1]; rfl) hf1 rfl hM hC (by simp)
  by_cases hf2 : sCode (alF key) bs.length ks a ((l1 + 1 : Nat) : Int) = 0
  rotate_left
  · refine (exec_l_no g 209 (by omega) (by omega) _ _ w c0 (long_209_no g _ _ w c0 (combine_no2 g 75 (l1 + 1) (cb 209) false F _ _ _ _ _ _ _ key a1 a w h (show ((l1 : Nat) : Int) + 1 = ((l1 + 1 : Nat) : Int) by omega) (by omega) rfl hs1 hs hb1.1 hb1.2 hb0.1 hb0.2  hf1 _ rfl hf2))).mono ?_
    rintro e w' ⟨rfl, hM, hC⟩
    exact ends_no (show Out.c (loO (⟨os, key, il, cc, pg, ad, bs, ks⟩ : Pre) 209 (l1 + 1) a1 a) = _ by unfold loO Pre.fc; rw [if_neg (by decide), if_neg (by simpa using hf1), if_neg (by decide), if_pos hf2]; rfl) hf2 rfl hM hC (by simp)
  obtain ⟨c, hcd⟩ : ∃ c, sCode (alP key) bs.length ks a1 ((l1 + 1 : Nat) : Int) = c := ⟨_, rfl⟩
  have hst := combine_m g 75 (l1 + 1) (cb 209) false F _ _ _ _ _ _ _ key a1 a w h (show ((l1 : Nat) : Int) + 1 = ((l1 + 1 : Nat) : Int) by omega) (by omega) rfl hs1 hs hb1.1 hb1.2 hb0.1 hb0.2  (by omega) hf1 hf2 (clo_call_209) (fun x y W => clo_209 x y W) (fun x y => cb_in 209 x y) c hcd
  have e2 : loO (⟨os, key, il, cc, pg, ad, bs, ks⟩ : Pre) 209 (l1 + 1) a1 a = Pre.wr (⟨os, key, il, cc, pg, ad, bs, ks⟩ : Pre) a1 ((l1 + 1 : Nat) : Int) (cmb (cb 209) (sGet bs a1 ((l1 + 1 : Nat) : Int)) (sGet bs a ((l1 + 1 : Nat) : Int)) (a1 - a) (l1 + 1)) cc := by unfold loO Pre.fc; rw [if_neg (by decide), if_neg (by simpa using hf1), if_neg (by decide), if_neg (by simpa using hf2), if_neg (by decide)]; rfl
  rw [e2]
  by_cases hc : c = 0
  · have hcp := hcd.trans hc
    refine (exec_l g 209 (by omega) (by omega) (fun w' => MS w' g F (isL 209 fm n k x2 b1 d1 b2 d2 l1 l2 i2) os os (psL m key M W P cd il cc pg ad) false (sPut (alP key) bs ks a1 (cmb (cb 209) (sGet bs a1 ((l1 + 1 : Nat) : Int)) (sGet bs a ((l1 + 1 : Nat) : Int)) (a1 - a) (l1 + 1))) ks ∧ Ch w w' [g, F.gb]) w c0 (long_209 g _ w c0 (hst.mono ?_))).mono ?_
    · rintro e w' ⟨h1, h2, h3⟩; exact ⟨(h1 hc).1, (h1 hc).2, h3⟩
    rintro e w' ⟨rfl, hM, hC⟩
    have e3 : Pre.wr (⟨os, key, il, cc, pg, ad, bs, ks⟩ : Pre) a1 ((l1 + 1 : Nat) : Int) (cmb (cb 209) (sGet bs a1 ((l1 + 1 : Nat) : Int)) (sGet bs a ((l1 + 1 : Nat) : Int)) (a1 - a) (l1 + 1)) cc = ⟨0, os, cc, pg, ad, false, (sPut (alP key) bs ks a1 (cmb (cb 209) (sGet bs a1 ((l1 + 1 : Nat) : Int)) (sGet bs a ((l1 + 1 : Nat) : Int)) (a1 - a) (l1 + 1)))⟩ := by unfold Pre.wr Pre.pc; rw [if_pos hcp]
    rw [e3]
    exact ends_ok rfl rfl hM hC (by simp)
  · refine (exec_l_no g 209 (by omega) (by omega) (fun w' => MS w' g F (isL 209 fm n k x2 b1 d1 b2 d2 l1 l2 i2) os os (psL m key M W P cd il cc pg ad) false bs ks ∧ Ch w w' [g, F.gb]) c w c0 (long_209_no g _ c w c0 (hst.mono ?_))).mono ?_
    · rintro e w' ⟨h1, h2, h3⟩; exact ⟨(h2 hc).1, (h2 hc).2, h3⟩
    rintro e w' ⟨rfl, hM, hC⟩
    exact ends_no (c := c) (by unfold Pre.wr Pre.pc; rw [hcd, if_neg hc]; rfl) hc rfl hM hC (by simp)
set_option maxRecDepth 1000000 in
set_option maxHeartbeats 8000000 in
theorem exec_gl210 (g n k x2 b1 b2 l1 : Nat) (F : Foot) (op fm d1 d2 l2 i2 : Int) (m key : Int) (M W P : Bool) (cd il cc pg ad : Int) (os bs ks : List Int) (w : World) (h : MS w g F (isL op fm n k x2 b1 d1 b2 d2 l1 l2 i2) os os (psL m key M W P cd il cc pg ad) false bs ks) (ro : ∀ z ∈ os, 0 ≤ z ∧ z ≤ 4294967295) (hn16 : n < 16) (hk16 : k < 16) (hx16 : x2 < 16) (hb116 : b1 < 16) (hb216 : b2 < 16) (hl1 : l1 < 256) (hd1 : 0 ≤ d1 ∧ d1 < 4096) (hd2 : 0 ≤ d2 ∧ d2 < 4096) (hi2 : 0 ≤ i2 ∧ i2 < 256) (a1 a : Int) (ha1 : (d1 + sumB os [b1]) % 16777216 = a1) (ha : (d2 + sumB os [b2, x2]) % 16777216 = a)  (hop : op = 210) : Calls Try.prog 31 #[.pointer (some ⟨g, 0, none⟩)] w (Ends g F (isL op fm n k x2 b1 d1 b2 d2 l1 l2 i2) os m key M W P cd il bs ks (exO (⟨os, key, il, cc, pg, ad, bs, ks⟩ : Pre) op fm n k a1 a l1 i2) w) := by
  have c0 : w.cell? ⟨g, 0, none⟩ = some (.int .i64 op) := h.m.ci (c := 0) (by omega)
  have hb0 : 0 ≤ a ∧ a ≤ 16777215 := by omega
  have hb1 : 0 ≤ a1 ∧ a1 ≤ 16777215 := by omega
  have hsec : ∀ (W' : World) (rs' : List Int) (ps' : List Value) (ov' : Bool) (bs' : List Int), MS W' g F (isL op fm n k x2 b1 d1 b2 d2 l1 l2 i2) os rs' ps' ov' bs' ks → Calls Try.prog 44 #[.pointer (some ⟨g, 0, none⟩)] W' fun e w' => e = .returned (.int .i64 a) ∧ Ch W' w' [] := fun W' rs' ps' ov' bs' hm => by rw [← ha]; exact second_c g b2 x2 d2 _ _ _ _ _ _ _ hm.m ro rfl hd2.1 (by omega) rfl hb216 rfl hx16
  have hfir : ∀ (W' : World) (rs' : List Int) (ps' : List Value) (ov' : Bool) (bs' : List Int), MS W' g F (isL op fm n k x2 b1 d1 b2 d2 l1 l2 i2) os rs' ps' ov' bs' ks → Calls Try.prog 71 #[.pointer (some ⟨g, 0, none⟩)] W' fun e w' => e = .returned (.int .i64 a1) ∧ Ch W' w' [] := fun W' rs' ps' ov' bs' hm => by rw [← ha1]; exact first_c g b1 d1 _ _ _ _ _ _ _ hm.m ro rfl hd1.1 (by omega) rfl hb116
  have hs := fun W' => hsec W' os (psL m key M W P cd il cc pg ad) false bs
  have hs1 := fun W' => hfir W' os (psL m key M W P cd il cc pg ad) false bs
  have e1 : exO (⟨os, key, il, cc, pg, ad, bs, ks⟩ : Pre) 210 fm n k a1 a l1 i2 = loO (⟨os, key, il, cc, pg, ad, bs, ks⟩ : Pre) 210 (l1 + 1) a1 a := rfl
  subst hop
  rw [e1]
  by_cases hf1 : sCode (alF key) bs.length ks a1 ((l1 + 1 : Nat) : Int) = 0
  rotate_left
  · refine (exec_l_no g 210 (by omega) (by omega) _ _ w c0 (long_210_no g _ _ w c0 (combine_no1 g 76 (l1 + 1) (cb 210) false F _ _ _ _ _ _ _ key a1 a w h (show ((l1 : Nat) : Int) + 1 = ((l1 + 1 : Nat) : Int) by omega) (by omega) rfl hs1 hs hb1.1 hb1.2 hb0.1 hb0.2  _ rfl hf1))).mono ?_
    rintro e w' ⟨rfl, hM, hC⟩
    exact ends_no (show Out.c (loO (⟨os, key, il, cc, pg, ad, bs, ks⟩ : Pre) 210 (l1 + 1) a1 a) = _ by unfold loO Pre.fc; rw [if_neg (by decide), if_pos hf1]; rfl) hf1 rfl hM hC (by simp)
  by_cases hf2 : sCode (alF key) bs.length ks a ((l1 + 1 : Nat) : Int) = 0
  rotate_left
  · refine (exec_l_no g 210 (by omega) (by omega) _ _ w c0 (long_210_no g _ _ w c0 (combine_no2 g 76 (l1 + 1) (cb 210) false F _ _ _ _ _ _ _ key a1 a w h (show ((l1 : Nat) : Int) + 1 = ((l1 + 1 : Nat) : Int) by omega) (by omega) rfl hs1 hs hb1.1 hb1.2 hb0.1 hb0.2  hf1 _ rfl hf2))).mono ?_
    rintro e w' ⟨rfl, hM, hC⟩
    exact ends_no (show Out.c (loO (⟨os, key, il, cc, pg, ad, bs, ks⟩ : Pre) 210 (l1 + 1) a1 a) = _ by unfold loO Pre.fc; rw [if_neg (by decide), if_neg (by simpa using hf1), if_neg (by decide), if_pos hf2]; rfl) hf2 rfl hM hC (by simp)
  obtain ⟨c, hcd⟩ : ∃ c, sCode (alP key) bs.length ks a1 ((l1 + 1 : Nat) : Int) = c := ⟨_, rfl⟩
  have hst := combine_m g 76 (l1 + 1) (cb 210) false F _ _ _ _ _ _ _ key a1 a w h (show ((l1 : Nat) : Int) + 1 = ((l1 + 1 : Nat) : Int) by omega) (by omega) rfl hs1 hs hb1.1 hb1.2 hb0.1 hb0.2  (by omega) hf1 hf2 (clo_call_210) (fun x y W => clo_210 x y W) (fun x y => cb_in 210 x y) c hcd
  have e2 : loO (⟨os, key, il, cc, pg, ad, bs, ks⟩ : Pre) 210 (l1 + 1) a1 a = Pre.wr (⟨os, key, il, cc, pg, ad, bs, ks⟩ : Pre) a1 ((l1 + 1 : Nat) : Int) (cmb (cb 210) (sGet bs a1 ((l1 + 1 : Nat) : Int)) (sGet bs a ((l1 + 1 : Nat) : Int)) (a1 - a) (l1 + 1)) cc := by unfold loO Pre.fc; rw [if_neg (by decide), if_neg (by simpa using hf1), if_neg (by decide), if_neg (by simpa using hf2), if_neg (by decide)]; rfl
  rw [e2]
  by_cases hc : c = 0
  · have hcp := hcd.trans hc
    refine (exec_l g 210 (by omega) (by omega) (fun w' => MS w' g F (isL 210 fm n k x2 b1 d1 b2 d2 l1 l2 i2) os os (psL m key M W P cd il cc pg ad) false (sPut (alP key) bs ks a1 (cmb (cb 210) (sGet bs a1 ((l1 + 1 : Nat) : Int)) (sGet bs a ((l1 + 1 : Nat) : Int)) (a1 - a) (l1 + 1))) ks ∧ Ch w w' [g, F.gb]) w c0 (long_210 g _ w c0 (hst.mono ?_))).mono ?_
    · rintro e w' ⟨h1, h2, h3⟩; exact ⟨(h1 hc).1, (h1 hc).2, h3⟩
    rintro e w' ⟨rfl, hM, hC⟩
    have e3 : Pre.wr (⟨os, key, il, cc, pg, ad, bs, ks⟩ : Pre) a1 ((l1 + 1 : Nat) : Int) (cmb (cb 210) (sGet bs a1 ((l1 + 1 : Nat) : Int)) (sGet bs a ((l1 + 1 : Nat) : Int)) (a1 - a) (l1 + 1)) cc = ⟨0, os, cc, pg, ad, false, (sPut (alP key) bs ks a1 (cmb (cb 210) (sGet bs a1 ((l1 + 1 : Nat) : Int)) (sGet bs a ((l1 + 1 : Nat) : Int)) (a1 - a) (l1 + 1)))⟩ := by unfold Pre.wr Pre.pc; rw [if_pos hcp]
    rw [e3]
    exact ends_ok rfl rfl hM hC (by simp)
  · refine (exec_l_no g 210 (by omega) (by omega) (fun w' => MS w' g F (isL 210 fm n k x2 b1 d1 b2 d2 l1 l2 i2) os os (psL m key M W P cd il cc pg ad) false bs ks ∧ Ch w w' [g, F.gb]) c w c0 (long_210_no g _ c w c0 (hst.mono ?_))).mono ?_
    · rintro e w' ⟨h1, h2, h3⟩; exact ⟨(h2 hc).1, (h2 hc).2, h3⟩
    rintro e w' ⟨rfl, hM, hC⟩
    exact ends_no (c := c) (by unfold Pre.wr Pre.pc; rw [hcd, if_neg hc]; rfl) hc rfl hM hC (by simp)
set_option maxRecDepth 1000000 in
set_option maxHeartbeats 8000000 in
theorem exec_gl211 (g n k x2 b1 b2 l1 : Nat) (F : Foot) (op fm d1 d2 l2 i2 : Int) (m key : Int) (M W P : Bool) (cd il cc pg ad : Int) (os bs ks : List Int) (w : World) (h : MS w g F (isL op fm n k x2 b1 d1 b2 d2 l1 l2 i2) os os (psL m key M W P cd il cc pg ad) false bs ks) (ro : ∀ z ∈ os, 0 ≤ z ∧ z ≤ 4294967295) (hn16 : n < 16) (hk16 : k < 16) (hx16 : x2 < 16) (hb116 : b1 < 16) (hb216 : b2 < 16) (hl1 : l1 < 256) (hd1 : 0 ≤ d1 ∧ d1 < 4096) (hd2 : 0 ≤ d2 ∧ d2 < 4096) (hi2 : 0 ≤ i2 ∧ i2 < 256) (a1 a : Int) (ha1 : (d1 + sumB os [b1]) % 16777216 = a1) (ha : (d2 + sumB os [b2, x2]) % 16777216 = a)  (hop : op = 211) : Calls Try.prog 31 #[.pointer (some ⟨g, 0, none⟩)] w (Ends g F (isL op fm n k x2 b1 d1 b2 d2 l1 l2 i2) os m key M W P cd il bs ks (exO (⟨os, key, il, cc, pg, ad, bs, ks⟩ : Pre) op fm n k a1 a l1 i2) w) := by
  have c0 : w.cell? ⟨g, 0, none⟩ = some (.int .i64 op) := h.m.ci (c := 0) (by omega)
  have hb0 : 0 ≤ a ∧ a ≤ 16777215 := by omega
  have hb1 : 0 ≤ a1 ∧ a1 ≤ 16777215 := by omega
  have hsec : ∀ (W' : World) (rs' : List Int) (ps' : List Value) (ov' : Bool) (bs' : List Int), MS W' g F (isL op fm n k x2 b1 d1 b2 d2 l1 l2 i2) os rs' ps' ov' bs' ks → Calls Try.prog 44 #[.pointer (some ⟨g, 0, none⟩)] W' fun e w' => e = .returned (.int .i64 a) ∧ Ch W' w' [] := fun W' rs' ps' ov' bs' hm => by rw [← ha]; exact second_c g b2 x2 d2 _ _ _ _ _ _ _ hm.m ro rfl hd2.1 (by omega) rfl hb216 rfl hx16
  have hfir : ∀ (W' : World) (rs' : List Int) (ps' : List Value) (ov' : Bool) (bs' : List Int), MS W' g F (isL op fm n k x2 b1 d1 b2 d2 l1 l2 i2) os rs' ps' ov' bs' ks → Calls Try.prog 71 #[.pointer (some ⟨g, 0, none⟩)] W' fun e w' => e = .returned (.int .i64 a1) ∧ Ch W' w' [] := fun W' rs' ps' ov' bs' hm => by rw [← ha1]; exact first_c g b1 d1 _ _ _ _ _ _ _ hm.m ro rfl hd1.1 (by omega) rfl hb116
  have hs := fun W' => hsec W' os (psL m key M W P cd il cc pg ad) false bs
  have hs1 := fun W' => hfir W' os (psL m key M W P cd il cc pg ad) false bs
  have e1 : exO (⟨os, key, il, cc, pg, ad, bs, ks⟩ : Pre) 211 fm n k a1 a l1 i2 = loO (⟨os, key, il, cc, pg, ad, bs, ks⟩ : Pre) 211 (l1 + 1) a1 a := rfl
  subst hop
  rw [e1]
  by_cases hf1 : sCode (alF key) bs.length ks a1 ((l1 + 1 : Nat) : Int) = 0
  rotate_left
  · refine (exec_l_no g 211 (by omega) (by omega) _ _ w c0 (long_211_no g _ _ w c0 (combine_no1 g 77 (l1 + 1) (cb 211) false F _ _ _ _ _ _ _ key a1 a w h (show ((l1 : Nat) : Int) + 1 = ((l1 + 1 : Nat) : Int) by omega) (by omega) rfl hs1 hs hb1.1 hb1.2 hb0.1 hb0.2  _ rfl hf1))).mono ?_
    rintro e w' ⟨rfl, hM, hC⟩
    exact ends_no (show Out.c (loO (⟨os, key, il, cc, pg, ad, bs, ks⟩ : Pre) 211 (l1 + 1) a1 a) = _ by unfold loO Pre.fc; rw [if_neg (by decide), if_pos hf1]; rfl) hf1 rfl hM hC (by simp)
  by_cases hf2 : sCode (alF key) bs.length ks a ((l1 + 1 : Nat) : Int) = 0
  rotate_left
  · refine (exec_l_no g 211 (by omega) (by omega) _ _ w c0 (long_211_no g _ _ w c0 (combine_no2 g 77 (l1 + 1) (cb 211) false F _ _ _ _ _ _ _ key a1 a w h (show ((l1 : Nat) : Int) + 1 = ((l1 + 1 : Nat) : Int) by omega) (by omega) rfl hs1 hs hb1.1 hb1.2 hb0.1 hb0.2  hf1 _ rfl hf2))).mono ?_
    rintro e w' ⟨rfl, hM, hC⟩
    exact ends_no (show Out.c (loO (⟨os, key, il, cc, pg, ad, bs, ks⟩ : Pre) 211 (l1 + 1) a1 a) = _ by unfold loO Pre.fc; rw [if_neg (by decide), if_neg (by simpa using hf1), if_neg (by decide), if_pos hf2]; rfl) hf2 rfl hM hC (by simp)
  obtain ⟨c, hcd⟩ : ∃ c, sCode (alP key) bs.length ks a1 ((l1 + 1 : Nat) : Int) = c := ⟨_, rfl⟩
  have hst := combine_m g 77 (l1 + 1) (cb 211) false F _ _ _ _ _ _ _ key a1 a w h (show ((l1 : Nat) : Int) + 1 = ((l1 + 1 : Nat) : Int) by omega) (by omega) rfl hs1 hs hb1.1 hb1.2 hb0.1 hb0.2  (by omega) hf1 hf2 (clo_call_211) (fun x y W => clo_211 x y W) (fun x y => cb_in 211 x y) c hcd
  have e2 : loO (⟨os, key, il, cc, pg, ad, bs, ks⟩ : Pre) 211 (l1 + 1) a1 a = Pre.wr (⟨os, key, il, cc, pg, ad, bs, ks⟩ : Pre) a1 ((l1 + 1 : Nat) : Int) (cmb (cb 211) (sGet bs a1 ((l1 + 1 : Nat) : Int)) (sGet bs a ((l1 + 1 : Nat) : Int)) (a1 - a) (l1 + 1)) cc := by unfold loO Pre.fc; rw [if_neg (by decide), if_neg (by simpa using hf1), if_neg (by decide), if_neg (by simpa using hf2), if_neg (by decide)]; rfl
  rw [e2]
  by_cases hc : c = 0
  · have hcp := hcd.trans hc
    refine (exec_l g 211 (by omega) (by omega) (fun w' => MS w' g F (isL 211 fm n k x2 b1 d1 b2 d2 l1 l2 i2) os os (psL m key M W P cd il cc pg ad) false (sPut (alP key) bs ks a1 (cmb (cb 211) (sGet bs a1 ((l1 + 1 : Nat) : Int)) (sGet bs a ((l1 + 1 : Nat) : Int)) (a1 - a) (l1 + 1))) ks ∧ Ch w w' [g, F.gb]) w c0 (long_211 g _ w c0 (hst.mono ?_))).mono ?_
    · rintro e w' ⟨h1, h2, h3⟩; exact ⟨(h1 hc).1, (h1 hc).2, h3⟩
    rintro e w' ⟨rfl, hM, hC⟩
    have e3 : Pre.wr (⟨os, key, il, cc, pg, ad, bs, ks⟩ : Pre) a1 ((l1 + 1 : Nat) : Int) (cmb (cb 211) (sGet bs a1 ((l1 + 1 : Nat) : Int)) (sGet bs a ((l1 + 1 : Nat) : Int)) (a1 - a) (l1 + 1)) cc = ⟨0, os, cc, pg, ad, false, (sPut (alP key) bs ks a1 (cmb (cb 211) (sGet bs a1 ((l1 + 1 : Nat) : Int)) (sGet bs a ((l1 + 1 : Nat) : Int)) (a1 - a) (l1 + 1)))⟩ := by unfold Pre.wr Pre.pc; rw [if_pos hcp]
    rw [e3]
    exact ends_ok rfl rfl hM hC (by simp)
  · refine (exec_l_no g 211 (by omega) (by omega) (fun w' => MS w' g F (isL 211 fm n k x2 b1 d1 b2 d2 l1 l2 i2) os os (psL m key M W P cd il cc pg ad) false bs ks ∧ Ch w w' [g, F.gb]) c w c0 (long_211_no g _ c w c0 (hst.mono ?_))).mono ?_
    · rintro e w' ⟨h1, h2, h3⟩; exact ⟨(h2 hc).1, (h2 hc).2, h3⟩
    rintro e w' ⟨rfl, hM, hC⟩
    exact ends_no (c := c) (by unfold Pre.wr Pre.pc; rw [hcd, if_neg hc]; rfl) hc rfl hM hC (by simp)
set_option maxRecDepth 1000000 in
set_option maxHeartbeats 8000000 in
theorem exec_gl212 (g n k x2 b1 b2 l1 : Nat) (F : Foot) (op fm d1 d2 l2 i2 : Int) (m key : Int) (M W P : Bool) (cd il cc pg ad : Int) (os bs ks : List Int) (w : World) (h : MS w g F (isL op fm n k x2 b1 d1 b2 d2 l1 l2 i2) os os (psL m key M W P cd il cc pg ad) false bs ks) (ro : ∀ z ∈ os, 0 ≤ z ∧ z ≤ 4294967295) (hn16 : n < 16) (hk16 : k < 16) (hx16 : x2 < 16) (hb116 : b1 < 16) (hb216 : b2 < 16) (hl1 : l1 < 256) (hd1 : 0 ≤ d1 ∧ d1 < 4096) (hd2 : 0 ≤ d2 ∧ d2 < 4096) (hi2 : 0 ≤ i2 ∧ i2 < 256) (a1 a : Int) (ha1 : (d1 + sumB os [b1]) % 16777216 = a1) (ha : (d2 + sumB os [b2, x2]) % 16777216 = a)  (hop : op = 212) : Calls Try.prog 31 #[.pointer (some ⟨g, 0, none⟩)] w (Ends g F (isL op fm n k x2 b1 d1 b2 d2 l1 l2 i2) os m key M W P cd il bs ks (exO (⟨os, key, il, cc, pg, ad, bs, ks⟩ : Pre) op fm n k a1 a l1 i2) w) := by
  have c0 : w.cell? ⟨g, 0, none⟩ = some (.int .i64 op) := h.m.ci (c := 0) (by omega)
  have hb0 : 0 ≤ a ∧ a ≤ 16777215 := by omega
  have hb1 : 0 ≤ a1 ∧ a1 ≤ 16777215 := by omega
  have hsec : ∀ (W' : World) (rs' : List Int) (ps' : List Value) (ov' : Bool) (bs' : List Int), MS W' g F (isL op fm n k x2 b1 d1 b2 d2 l1 l2 i2) os rs' ps' ov' bs' ks → Calls Try.prog 44 #[.pointer (some ⟨g, 0, none⟩)] W' fun e w' => e = .returned (.int .i64 a) ∧ Ch W' w' [] := fun W' rs' ps' ov' bs' hm => by rw [← ha]; exact second_c g b2 x2 d2 _ _ _ _ _ _ _ hm.m ro rfl hd2.1 (by omega) rfl hb216 rfl hx16
  have hfir : ∀ (W' : World) (rs' : List Int) (ps' : List Value) (ov' : Bool) (bs' : List Int), MS W' g F (isL op fm n k x2 b1 d1 b2 d2 l1 l2 i2) os rs' ps' ov' bs' ks → Calls Try.prog 71 #[.pointer (some ⟨g, 0, none⟩)] W' fun e w' => e = .returned (.int .i64 a1) ∧ Ch W' w' [] := fun W' rs' ps' ov' bs' hm => by rw [← ha1]; exact first_c g b1 d1 _ _ _ _ _ _ _ hm.m ro rfl hd1.1 (by omega) rfl hb116
  have hs := fun W' => hsec W' os (psL m key M W P cd il cc pg ad) false bs
  have hs1 := fun W' => hfir W' os (psL m key M W P cd il cc pg ad) false bs
  have e1 : exO (⟨os, key, il, cc, pg, ad, bs, ks⟩ : Pre) 212 fm n k a1 a l1 i2 = loO (⟨os, key, il, cc, pg, ad, bs, ks⟩ : Pre) 212 (l1 + 1) a1 a := rfl
  subst hop
  rw [e1]
  by_cases hf1 : sCode (alF key) bs.length ks a1 ((l1 + 1 : Nat) : Int) = 0
  rotate_left
  · refine (exec_l_no g 212 (by omega) (by omega) _ _ w c0 (long_212_no g _ _ w c0 (combine_no1 g 78 (l1 + 1) (cb 212) true F _ _ _ _ _ _ _ key a1 a w h (show ((l1 : Nat) : Int) + 1 = ((l1 + 1 : Nat) : Int) by omega) (by omega) rfl hs1 hs hb1.1 hb1.2 hb0.1 hb0.2  _ rfl hf1))).mono ?_
    rintro e w' ⟨rfl, hM, hC⟩
    exact ends_no (show Out.c (loO (⟨os, key, il, cc, pg, ad, bs, ks⟩ : Pre) 212 (l1 + 1) a1 a) = _ by unfold loO Pre.fc; rw [if_neg (by decide), if_pos hf1]; rfl) hf1 rfl hM hC (by simp)
  by_cases hf2 : sCode (alF key) bs.length ks a ((l1 + 1 : Nat) : Int) = 0
  rotate_left
  · refine (exec_l_no g 212 (by omega) (by omega) _ _ w c0 (long_212_no g _ _ w c0 (combine_no2 g 78 (l1 + 1) (cb 212) true F _ _ _ _ _ _ _ key a1 a w h (show ((l1 : Nat) : Int) + 1 = ((l1 + 1 : Nat) : Int) by omega) (by omega) rfl hs1 hs hb1.1 hb1.2 hb0.1 hb0.2  hf1 _ rfl hf2))).mono ?_
    rintro e w' ⟨rfl, hM, hC⟩
    exact ends_no (show Out.c (loO (⟨os, key, il, cc, pg, ad, bs, ks⟩ : Pre) 212 (l1 + 1) a1 a) = _ by unfold loO Pre.fc; rw [if_neg (by decide), if_neg (by simpa using hf1), if_neg (by decide), if_pos hf2]; rfl) hf2 rfl hM hC (by simp)
  obtain ⟨c, hcd⟩ : ∃ c, sCode (alP key) bs.length ks a1 ((l1 + 1 : Nat) : Int) = c := ⟨_, rfl⟩
  have hst := combine_m g 78 (l1 + 1) (cb 212) true F _ _ _ _ _ _ _ key a1 a w h (show ((l1 : Nat) : Int) + 1 = ((l1 + 1 : Nat) : Int) by omega) (by omega) rfl hs1 hs hb1.1 hb1.2 hb0.1 hb0.2  (by omega) hf1 hf2 (clo_call_212) (fun x y W => clo_212 x y W) (fun x y => cb_in 212 x y) c hcd
  have e2 : loO (⟨os, key, il, cc, pg, ad, bs, ks⟩ : Pre) 212 (l1 + 1) a1 a = Pre.wr (⟨os, key, il, cc, pg, ad, bs, ks⟩ : Pre) a1 ((l1 + 1 : Nat) : Int) (cmb (cb 212) (sGet bs a1 ((l1 + 1 : Nat) : Int)) (sGet bs a ((l1 + 1 : Nat) : Int)) (a1 - a) (l1 + 1)) (cmbS (cb 212) (sGet bs a1 ((l1 + 1 : Nat) : Int)) (sGet bs a ((l1 + 1 : Nat) : Int)) (a1 - a) (l1 + 1)) := by unfold loO Pre.fc; rw [if_neg (by decide), if_neg (by simpa using hf1), if_neg (by decide), if_neg (by simpa using hf2), if_neg (by decide)]; rfl
  rw [e2]
  by_cases hc : c = 0
  · have hcp := hcd.trans hc
    refine (exec_l g 212 (by omega) (by omega) (fun w' => MS w' g F (isL 212 fm n k x2 b1 d1 b2 d2 l1 l2 i2) os os (psL m key M W P cd il (cmbS (cb 212) (sGet bs a1 ((l1 + 1 : Nat) : Int)) (sGet bs a ((l1 + 1 : Nat) : Int)) (a1 - a) (l1 + 1)) pg ad) false (sPut (alP key) bs ks a1 (cmb (cb 212) (sGet bs a1 ((l1 + 1 : Nat) : Int)) (sGet bs a ((l1 + 1 : Nat) : Int)) (a1 - a) (l1 + 1))) ks ∧ Ch w w' [g, F.gb]) w c0 (long_212 g _ w c0 (hst.mono ?_))).mono ?_
    · rintro e w' ⟨h1, h2, h3⟩; exact ⟨(h1 hc).1, (h1 hc).2, h3⟩
    rintro e w' ⟨rfl, hM, hC⟩
    have e3 : Pre.wr (⟨os, key, il, cc, pg, ad, bs, ks⟩ : Pre) a1 ((l1 + 1 : Nat) : Int) (cmb (cb 212) (sGet bs a1 ((l1 + 1 : Nat) : Int)) (sGet bs a ((l1 + 1 : Nat) : Int)) (a1 - a) (l1 + 1)) (cmbS (cb 212) (sGet bs a1 ((l1 + 1 : Nat) : Int)) (sGet bs a ((l1 + 1 : Nat) : Int)) (a1 - a) (l1 + 1)) = ⟨0, os, (cmbS (cb 212) (sGet bs a1 ((l1 + 1 : Nat) : Int)) (sGet bs a ((l1 + 1 : Nat) : Int)) (a1 - a) (l1 + 1)), pg, ad, false, (sPut (alP key) bs ks a1 (cmb (cb 212) (sGet bs a1 ((l1 + 1 : Nat) : Int)) (sGet bs a ((l1 + 1 : Nat) : Int)) (a1 - a) (l1 + 1)))⟩ := by unfold Pre.wr Pre.pc; rw [if_pos hcp]
    rw [e3]
    exact ends_ok rfl rfl hM hC (by simp)
  · refine (exec_l_no g 212 (by omega) (by omega) (fun w' => MS w' g F (isL 212 fm n k x2 b1 d1 b2 d2 l1 l2 i2) os os (psL m key M W P cd il cc pg ad) false bs ks ∧ Ch w w' [g, F.gb]) c w c0 (long_212_no g _ c w c0 (hst.mono ?_))).mono ?_
    · rintro e w' ⟨h1, h2, h3⟩; exact ⟨(h2 hc).1, (h2 hc).2, h3⟩
    rintro e w' ⟨rfl, hM, hC⟩
    exact ends_no (c := c) (by unfold Pre.wr Pre.pc; rw [hcd, if_neg hc]; rfl) hc rfl hM hC (by simp)
set_option maxRecDepth 1000000 in
set_option maxHeartbeats 8000000 in
theorem exec_gl214 (g n k x2 b1 b2 l1 : Nat) (F : Foot) (op fm d1 d2 l2 i2 : Int) (m key : Int) (M W P : Bool) (cd il cc pg ad : Int) (os bs ks : List Int) (w : World) (h : MS w g F (isL op fm n k x2 b1 d1 b2 d2 l1 l2 i2) os os (psL m key M W P cd il cc pg ad) false bs ks) (ro : ∀ z ∈ os, 0 ≤ z ∧ z ≤ 4294967295) (hn16 : n < 16) (hk16 : k < 16) (hx16 : x2 < 16) (hb116 : b1 < 16) (hb216 : b2 < 16) (hl1 : l1 < 256) (hd1 : 0 ≤ d1 ∧ d1 < 4096) (hd2 : 0 ≤ d2 ∧ d2 < 4096) (hi2 : 0 ≤ i2 ∧ i2 < 256) (a1 a : Int) (ha1 : (d1 + sumB os [b1]) % 16777216 = a1) (ha : (d2 + sumB os [b2, x2]) % 16777216 = a)  (hop : op = 214) : Calls Try.prog 31 #[.pointer (some ⟨g, 0, none⟩)] w (Ends g F (isL op fm n k x2 b1 d1 b2 d2 l1 l2 i2) os m key M W P cd il bs ks (exO (⟨os, key, il, cc, pg, ad, bs, ks⟩ : Pre) op fm n k a1 a l1 i2) w) := by
  have c0 : w.cell? ⟨g, 0, none⟩ = some (.int .i64 op) := h.m.ci (c := 0) (by omega)
  have hb0 : 0 ≤ a ∧ a ≤ 16777215 := by omega
  have hb1 : 0 ≤ a1 ∧ a1 ≤ 16777215 := by omega
  have hsec : ∀ (W' : World) (rs' : List Int) (ps' : List Value) (ov' : Bool) (bs' : List Int), MS W' g F (isL op fm n k x2 b1 d1 b2 d2 l1 l2 i2) os rs' ps' ov' bs' ks → Calls Try.prog 44 #[.pointer (some ⟨g, 0, none⟩)] W' fun e w' => e = .returned (.int .i64 a) ∧ Ch W' w' [] := fun W' rs' ps' ov' bs' hm => by rw [← ha]; exact second_c g b2 x2 d2 _ _ _ _ _ _ _ hm.m ro rfl hd2.1 (by omega) rfl hb216 rfl hx16
  have hfir : ∀ (W' : World) (rs' : List Int) (ps' : List Value) (ov' : Bool) (bs' : List Int), MS W' g F (isL op fm n k x2 b1 d1 b2 d2 l1 l2 i2) os rs' ps' ov' bs' ks → Calls Try.prog 71 #[.pointer (some ⟨g, 0, none⟩)] W' fun e w' => e = .returned (.int .i64 a1) ∧ Ch W' w' [] := fun W' rs' ps' ov' bs' hm => by rw [← ha1]; exact first_c g b1 d1 _ _ _ _ _ _ _ hm.m ro rfl hd1.1 (by omega) rfl hb116
  have hs := fun W' => hsec W' os (psL m key M W P cd il cc pg ad) false bs
  have hs1 := fun W' => hfir W' os (psL m key M W P cd il cc pg ad) false bs
  have e1 : exO (⟨os, key, il, cc, pg, ad, bs, ks⟩ : Pre) 214 fm n k a1 a l1 i2 = loO (⟨os, key, il, cc, pg, ad, bs, ks⟩ : Pre) 214 (l1 + 1) a1 a := rfl
  subst hop
  rw [e1]
  by_cases hf1 : sCode (alF key) bs.length ks a1 ((l1 + 1 : Nat) : Int) = 0
  rotate_left
  · refine (exec_l_no g 214 (by omega) (by omega) _ _ w c0 (long_214_no g _ _ w c0 (combine_no1 g 79 (l1 + 1) (cb 214) true F _ _ _ _ _ _ _ key a1 a w h (show ((l1 : Nat) : Int) + 1 = ((l1 + 1 : Nat) : Int) by omega) (by omega) rfl hs1 hs hb1.1 hb1.2 hb0.1 hb0.2  _ rfl hf1))).mono ?_
    rintro e w' ⟨rfl, hM, hC⟩
    exact ends_no (show Out.c (loO (⟨os, key, il, cc, pg, ad, bs, ks⟩ : Pre) 214 (l1 + 1) a1 a) = _ by unfold loO Pre.fc; rw [if_neg (by decide), if_pos hf1]; rfl) hf1 rfl hM hC (by simp)
  by_cases hf2 : sCode (alF key) bs.length ks a ((l1 + 1 : Nat) : Int) = 0
  rotate_left
  · refine (exec_l_no g 214 (by omega) (by omega) _ _ w c0 (long_214_no g _ _ w c0 (combine_no2 g 79 (l1 + 1) (cb 214) true F _ _ _ _ _ _ _ key a1 a w h (show ((l1 : Nat) : Int) + 1 = ((l1 + 1 : Nat) : Int) by omega) (by omega) rfl hs1 hs hb1.1 hb1.2 hb0.1 hb0.2  hf1 _ rfl hf2))).mono ?_
    rintro e w' ⟨rfl, hM, hC⟩
    exact ends_no (show Out.c (loO (⟨os, key, il, cc, pg, ad, bs, ks⟩ : Pre) 214 (l1 + 1) a1 a) = _ by unfold loO Pre.fc; rw [if_neg (by decide), if_neg (by simpa using hf1), if_neg (by decide), if_pos hf2]; rfl) hf2 rfl hM hC (by simp)
  obtain ⟨c, hcd⟩ : ∃ c, sCode (alP key) bs.length ks a1 ((l1 + 1 : Nat) : Int) = c := ⟨_, rfl⟩
  have hst := combine_m g 79 (l1 + 1) (cb 214) true F _ _ _ _ _ _ _ key a1 a w h (show ((l1 : Nat) : Int) + 1 = ((l1 + 1 : Nat) : Int) by omega) (by omega) rfl hs1 hs hb1.1 hb1.2 hb0.1 hb0.2  (by omega) hf1 hf2 (clo_call_214) (fun x y W => clo_214 x y W) (fun x y => cb_in 214 x y) c hcd
  have e2 : loO (⟨os, key, il, cc, pg, ad, bs, ks⟩ : Pre) 214 (l1 + 1) a1 a = Pre.wr (⟨os, key, il, cc, pg, ad, bs, ks⟩ : Pre) a1 ((l1 + 1 : Nat) : Int) (cmb (cb 214) (sGet bs a1 ((l1 + 1 : Nat) : Int)) (sGet bs a ((l1 + 1 : Nat) : Int)) (a1 - a) (l1 + 1)) (cmbS (cb 214) (sGet bs a1 ((l1 + 1 : Nat) : Int)) (sGet bs a ((l1 + 1 : Nat) : Int)) (a1 - a) (l1 + 1)) := by unfold loO Pre.fc; rw [if_neg (by decide), if_neg (by simpa using hf1), if_neg (by decide), if_neg (by simpa using hf2), if_neg (by decide)]; rfl
  rw [e2]
  by_cases hc : c = 0
  · have hcp := hcd.trans hc
    refine (exec_l g 214 (by omega) (by omega) (fun w' => MS w' g F (isL 214 fm n k x2 b1 d1 b2 d2 l1 l2 i2) os os (psL m key M W P cd il (cmbS (cb 214) (sGet bs a1 ((l1 + 1 : Nat) : Int)) (sGet bs a ((l1 + 1 : Nat) : Int)) (a1 - a) (l1 + 1)) pg ad) false (sPut (alP key) bs ks a1 (cmb (cb 214) (sGet bs a1 ((l1 + 1 : Nat) : Int)) (sGet bs a ((l1 + 1 : Nat) : Int)) (a1 - a) (l1 + 1))) ks ∧ Ch w w' [g, F.gb]) w c0 (long_214 g _ w c0 (hst.mono ?_))).mono ?_
    · rintro e w' ⟨h1, h2, h3⟩; exact ⟨(h1 hc).1, (h1 hc).2, h3⟩
    rintro e w' ⟨rfl, hM, hC⟩
    have e3 : Pre.wr (⟨os, key, il, cc, pg, ad, bs, ks⟩ : Pre) a1 ((l1 + 1 : Nat) : Int) (cmb (cb 214) (sGet bs a1 ((l1 + 1 : Nat) : Int)) (sGet bs a ((l1 + 1 : Nat) : Int)) (a1 - a) (l1 + 1)) (cmbS (cb 214) (sGet bs a1 ((l1 + 1 : Nat) : Int)) (sGet bs a ((l1 + 1 : Nat) : Int)) (a1 - a) (l1 + 1)) = ⟨0, os, (cmbS (cb 214) (sGet bs a1 ((l1 + 1 : Nat) : Int)) (sGet bs a ((l1 + 1 : Nat) : Int)) (a1 - a) (l1 + 1)), pg, ad, false, (sPut (alP key) bs ks a1 (cmb (cb 214) (sGet bs a1 ((l1 + 1 : Nat) : Int)) (sGet bs a ((l1 + 1 : Nat) : Int)) (a1 - a) (l1 + 1)))⟩ := by unfold Pre.wr Pre.pc; rw [if_pos hcp]
    rw [e3]
    exact ends_ok rfl rfl hM hC (by simp)
  · refine (exec_l_no g 214 (by omega) (by omega) (fun w' => MS w' g F (isL 214 fm n k x2 b1 d1 b2 d2 l1 l2 i2) os os (psL m key M W P cd il cc pg ad) false bs ks ∧ Ch w w' [g, F.gb]) c w c0 (long_214_no g _ c w c0 (hst.mono ?_))).mono ?_
    · rintro e w' ⟨h1, h2, h3⟩; exact ⟨(h2 hc).1, (h2 hc).2, h3⟩
    rintro e w' ⟨rfl, hM, hC⟩
    exact ends_no (c := c) (by unfold Pre.wr Pre.pc; rw [hcd, if_neg hc]; rfl) hc rfl hM hC (by simp)
set_option maxRecDepth 1000000 in
set_option maxHeartbeats 8000000 in
theorem exec_gl215 (g n k x2 b1 b2 l1 : Nat) (F : Foot) (op fm d1 d2 l2 i2 : Int) (m key : Int) (M W P : Bool) (cd il cc pg ad : Int) (os bs ks : List Int) (w : World) (h : MS w g F (isL op fm n k x2 b1 d1 b2 d2 l1 l2 i2) os os (psL m key M W P cd il cc pg ad) false bs ks) (ro : ∀ z ∈ os, 0 ≤ z ∧ z ≤ 4294967295) (hn16 : n < 16) (hk16 : k < 16) (hx16 : x2 < 16) (hb116 : b1 < 16) (hb216 : b2 < 16) (hl1 : l1 < 256) (hd1 : 0 ≤ d1 ∧ d1 < 4096) (hd2 : 0 ≤ d2 ∧ d2 < 4096) (hi2 : 0 ≤ i2 ∧ i2 < 256) (a1 a : Int) (ha1 : (d1 + sumB os [b1]) % 16777216 = a1) (ha : (d2 + sumB os [b2, x2]) % 16777216 = a)  (hop : op = 215) : Calls Try.prog 31 #[.pointer (some ⟨g, 0, none⟩)] w (Ends g F (isL op fm n k x2 b1 d1 b2 d2 l1 l2 i2) os m key M W P cd il bs ks (exO (⟨os, key, il, cc, pg, ad, bs, ks⟩ : Pre) op fm n k a1 a l1 i2) w) := by
  have c0 : w.cell? ⟨g, 0, none⟩ = some (.int .i64 op) := h.m.ci (c := 0) (by omega)
  have hb0 : 0 ≤ a ∧ a ≤ 16777215 := by omega
  have hb1 : 0 ≤ a1 ∧ a1 ≤ 16777215 := by omega
  have hsec : ∀ (W' : World) (rs' : List Int) (ps' : List Value) (ov' : Bool) (bs' : List Int), MS W' g F (isL op fm n k x2 b1 d1 b2 d2 l1 l2 i2) os rs' ps' ov' bs' ks → Calls Try.prog 44 #[.pointer (some ⟨g, 0, none⟩)] W' fun e w' => e = .returned (.int .i64 a) ∧ Ch W' w' [] := fun W' rs' ps' ov' bs' hm => by rw [← ha]; exact second_c g b2 x2 d2 _ _ _ _ _ _ _ hm.m ro rfl hd2.1 (by omega) rfl hb216 rfl hx16
  have hfir : ∀ (W' : World) (rs' : List Int) (ps' : List Value) (ov' : Bool) (bs' : List Int), MS W' g F (isL op fm n k x2 b1 d1 b2 d2 l1 l2 i2) os rs' ps' ov' bs' ks → Calls Try.prog 71 #[.pointer (some ⟨g, 0, none⟩)] W' fun e w' => e = .returned (.int .i64 a1) ∧ Ch W' w' [] := fun W' rs' ps' ov' bs' hm => by rw [← ha1]; exact first_c g b1 d1 _ _ _ _ _ _ _ hm.m ro rfl hd1.1 (by omega) rfl hb116
  have hs := fun W' => hsec W' os (psL m key M W P cd il cc pg ad) false bs
  have hs1 := fun W' => hfir W' os (psL m key M W P cd il cc pg ad) false bs
  have e1 : exO (⟨os, key, il, cc, pg, ad, bs, ks⟩ : Pre) 215 fm n k a1 a l1 i2 = loO (⟨os, key, il, cc, pg, ad, bs, ks⟩ : Pre) 215 (l1 + 1) a1 a := rfl
  subst hop
  rw [e1]
  by_cases hf1 : sCode (alF key) bs.length ks a1 ((l1 + 1 : Nat) : Int) = 0
  rotate_left
  · refine (exec_l_no g 215 (by omega) (by omega) _ _ w c0 (long_215_no g _ _ w c0 (combine_no1 g 80 (l1 + 1) (cb 215) true F _ _ _ _ _ _ _ key a1 a w h (show ((l1 : Nat) : Int) + 1 = ((l1 + 1 : Nat) : Int) by omega) (by omega) rfl hs1 hs hb1.1 hb1.2 hb0.1 hb0.2  _ rfl hf1))).mono ?_
    rintro e w' ⟨rfl, hM, hC⟩
    exact ends_no (show Out.c (loO (⟨os, key, il, cc, pg, ad, bs, ks⟩ : Pre) 215 (l1 + 1) a1 a) = _ by unfold loO Pre.fc; rw [if_neg (by decide), if_pos hf1]; rfl) hf1 rfl hM hC (by simp)
  by_cases hf2 : sCode (alF key) bs.length ks a ((l1 + 1 : Nat) : Int) = 0
  rotate_left
  · refine (exec_l_no g 215 (by omega) (by omega) _ _ w c0 (long_215_no g _ _ w c0 (combine_no2 g 80 (l1 + 1) (cb 215) true F _ _ _ _ _ _ _ key a1 a w h (show ((l1 : Nat) : Int) + 1 = ((l1 + 1 : Nat) : Int) by omega) (by omega) rfl hs1 hs hb1.1 hb1.2 hb0.1 hb0.2  hf1 _ rfl hf2))).mono ?_
    rintro e w' ⟨rfl, hM, hC⟩
    exact ends_no (show Out.c (loO (⟨os, key, il, cc, pg, ad, bs, ks⟩ : Pre) 215 (l1 + 1) a1 a) = _ by unfold loO Pre.fc; rw [if_neg (by decide), if_neg (by simpa using hf1), if_neg (by decide), if_pos hf2]; rfl) hf2 rfl hM hC (by simp)
  obtain ⟨c, hcd⟩ : ∃ c, sCode (alP key) bs.length ks a1 ((l1 + 1 : Nat) : Int) = c := ⟨_, rfl⟩
  have hst := combine_m g 80 (l1 + 1) (cb 215) true F _ _ _ _ _ _ _ key a1 a w h (show ((l1 : Nat) : Int) + 1 = ((l1 + 1 : Nat) : Int) by omega) (by omega) rfl hs1 hs hb1.1 hb1.2 hb0.1 hb0.2  (by omega) hf1 hf2 (clo_call_215) (fun x y W => clo_215 x y W) (fun x y => cb_in 215 x y) c hcd
  have e2 : loO (⟨os, key, il, cc, pg, ad, bs, ks⟩ : Pre) 215 (l1 + 1) a1 a = Pre.wr (⟨os, key, il, cc, pg, ad, bs, ks⟩ : Pre) a1 ((l1 + 1 : Nat) : Int) (cmb (cb 215) (sGet bs a1 ((l1 + 1 : Nat) : Int)) (sGet bs a ((l1 + 1 : Nat) : Int)) (a1 - a) (l1 + 1)) (cmbS (cb 215) (sGet bs a1 ((l1 + 1 : Nat) : Int)) (sGet bs a ((l1 + 1 : Nat) : Int)) (a1 - a) (l1 + 1)) := by unfold loO Pre.fc; rw [if_neg (by decide), if_neg (by simpa using hf1), if_neg (by decide), if_neg (by simpa using hf2), if_neg (by decide)]; rfl
  rw [e2]
  by_cases hc : c = 0
  · have hcp := hcd.trans hc
    refine (exec_l g 215 (by omega) (by omega) (fun w' => MS w' g F (isL 215 fm n k x2 b1 d1 b2 d2 l1 l2 i2) os os (psL m key M W P cd il (cmbS (cb 215) (sGet bs a1 ((l1 + 1 : Nat) : Int)) (sGet bs a ((l1 + 1 : Nat) : Int)) (a1 - a) (l1 + 1)) pg ad) false (sPut (alP key) bs ks a1 (cmb (cb 215) (sGet bs a1 ((l1 + 1 : Nat) : Int)) (sGet bs a ((l1 + 1 : Nat) : Int)) (a1 - a) (l1 + 1))) ks ∧ Ch w w' [g, F.gb]) w c0 (long_215 g _ w c0 (hst.mono ?_))).mono ?_
    · rintro e w' ⟨h1, h2, h3⟩; exact ⟨(h1 hc).1, (h1 hc).2, h3⟩
    rintro e w' ⟨rfl, hM, hC⟩
    have e3 : Pre.wr (⟨os, key, il, cc, pg, ad, bs, ks⟩ : Pre) a1 ((l1 + 1 : Nat) : Int) (cmb (cb 215) (sGet bs a1 ((l1 + 1 : Nat) : Int)) (sGet bs a ((l1 + 1 : Nat) : Int)) (a1 - a) (l1 + 1)) (cmbS (cb 215) (sGet bs a1 ((l1 + 1 : Nat) : Int)) (sGet bs a ((l1 + 1 : Nat) : Int)) (a1 - a) (l1 + 1)) = ⟨0, os, (cmbS (cb 215) (sGet bs a1 ((l1 + 1 : Nat) : Int)) (sGet bs a ((l1 + 1 : Nat) : Int)) (a1 - a) (l1 + 1)), pg, ad, false, (sPut (alP key) bs ks a1 (cmb (cb 215) (sGet bs a1 ((l1 + 1 : Nat) : Int)) (sGet bs a ((l1 + 1 : Nat) : Int)) (a1 - a) (l1 + 1)))⟩ := by unfold Pre.wr Pre.pc; rw [if_pos hcp]
    rw [e3]
    exact ends_ok rfl rfl hM hC (by simp)
  · refine (exec_l_no g 215 (by omega) (by omega) (fun w' => MS w' g F (isL 215 fm n k x2 b1 d1 b2 d2 l1 l2 i2) os os (psL m key M W P cd il cc pg ad) false bs ks ∧ Ch w w' [g, F.gb]) c w c0 (long_215_no g _ c w c0 (hst.mono ?_))).mono ?_
    · rintro e w' ⟨h1, h2, h3⟩; exact ⟨(h2 hc).1, (h2 hc).2, h3⟩
    rintro e w' ⟨rfl, hM, hC⟩
    exact ends_no (c := c) (by unfold Pre.wr Pre.pc; rw [hcd, if_neg hc]; rfl) hc rfl hM hC (by simp)
set_option maxRecDepth 1000000 in
set_option maxHeartbeats 8000000 in
theorem exec_gl213 (g n k x2 b1 b2 l1 : Nat) (F : Foot) (op fm d1 d2 l2 i2 : Int) (m key : Int) (M W P : Bool) (cd il cc pg ad : Int) (os bs ks : List Int) (w : World) (h : MS w g F (isL op fm n k x2 b1 d1 b2 d2 l1 l2 i2) os os (psL m key M W P cd il cc pg ad) false bs ks) (ro : ∀ z ∈ os, 0 ≤ z ∧ z ≤ 4294967295) (hn16 : n < 16) (hk16 : k < 16) (hx16 : x2 < 16) (hb116 : b1 < 16) (hb216 : b2 < 16) (hl1 : l1 < 256) (hd1 : 0 ≤ d1 ∧ d1 < 4096) (hd2 : 0 ≤ d2 ∧ d2 < 4096) (hi2 : 0 ≤ i2 ∧ i2 < 256) (a1 a : Int) (ha1 : (d1 + sumB os [b1]) % 16777216 = a1) (ha : (d2 + sumB os [b2, x2]) % 16777216 = a)  (hop : op = 213) : Calls Try.prog 31 #[.pointer (some ⟨g, 0, none⟩)] w (Ends g F (isL op fm n k x2 b1 d1 b2 d2 l1 l2 i2) os m key M W P cd il bs ks (exO (⟨os, key, il, cc, pg, ad, bs, ks⟩ : Pre) op fm n k a1 a l1 i2) w) := by
  have c0 : w.cell? ⟨g, 0, none⟩ = some (.int .i64 op) := h.m.ci (c := 0) (by omega)
  have hb0 : 0 ≤ a ∧ a ≤ 16777215 := by omega
  have hb1 : 0 ≤ a1 ∧ a1 ≤ 16777215 := by omega
  have hsec : ∀ (W' : World) (rs' : List Int) (ps' : List Value) (ov' : Bool) (bs' : List Int), MS W' g F (isL op fm n k x2 b1 d1 b2 d2 l1 l2 i2) os rs' ps' ov' bs' ks → Calls Try.prog 44 #[.pointer (some ⟨g, 0, none⟩)] W' fun e w' => e = .returned (.int .i64 a) ∧ Ch W' w' [] := fun W' rs' ps' ov' bs' hm => by rw [← ha]; exact second_c g b2 x2 d2 _ _ _ _ _ _ _ hm.m ro rfl hd2.1 (by omega) rfl hb216 rfl hx16
  have hfir : ∀ (W' : World) (rs' : List Int) (ps' : List Value) (ov' : Bool) (bs' : List Int), MS W' g F (isL op fm n k x2 b1 d1 b2 d2 l1 l2 i2) os rs' ps' ov' bs' ks → Calls Try.prog 71 #[.pointer (some ⟨g, 0, none⟩)] W' fun e w' => e = .returned (.int .i64 a1) ∧ Ch W' w' [] := fun W' rs' ps' ov' bs' hm => by rw [← ha1]; exact first_c g b1 d1 _ _ _ _ _ _ _ hm.m ro rfl hd1.1 (by omega) rfl hb116
  have hs := fun W' => hsec W' os (psL m key M W P cd il cc pg ad) false bs
  have hs1 := fun W' => hfir W' os (psL m key M W P cd il cc pg ad) false bs
  have e1 : exO (⟨os, key, il, cc, pg, ad, bs, ks⟩ : Pre) 213 fm n k a1 a l1 i2 = loO (⟨os, key, il, cc, pg, ad, bs, ks⟩ : Pre) 213 (l1 + 1) a1 a := rfl
  subst hop
  rw [e1]
  by_cases hf1 : sCode (alF key) bs.length ks a1 ((l1 + 1 : Nat) : Int) = 0
  rotate_left
  · refine (exec_l_no g 213 (by omega) (by omega) _ _ w c0 (long_213_no g _ _ w c0 (clc_no1 g (l1 + 1) F _ _ _ _ _ _ _ key a1 a w h (show ((l1 : Nat) : Int) + 1 = ((l1 + 1 : Nat) : Int) by omega) (by omega) rfl hs1 hs hb1.1 hb1.2 hb0.1 hb0.2  _ rfl hf1))).mono ?_
    rintro e w' ⟨rfl, hM, hC⟩
    exact ends_no (show Out.c (loO (⟨os, key, il, cc, pg, ad, bs, ks⟩ : Pre) 213 (l1 + 1) a1 a) = _ by unfold loO Pre.fc; rw [if_neg (by decide), if_pos hf1]; rfl) hf1 rfl hM hC (by simp)
  by_cases hf2 : sCode (alF key) bs.length ks a ((l1 + 1 : Nat) : Int) = 0
  rotate_left
  · refine (exec_l_no g 213 (by omega) (by omega) _ _ w c0 (long_213_no g _ _ w c0 (clc_no2 g (l1 + 1) F _ _ _ _ _ _ _ key a1 a w h (show ((l1 : Nat) : Int) + 1 = ((l1 + 1 : Nat) : Int) by omega) (by omega) rfl hs1 hs hb1.1 hb1.2 hb0.1 hb0.2  hf1 _ rfl hf2))).mono ?_
    rintro e w' ⟨rfl, hM, hC⟩
    exact ends_no (show Out.c (loO (⟨os, key, il, cc, pg, ad, bs, ks⟩ : Pre) 213 (l1 + 1) a1 a) = _ by unfold loO Pre.fc; rw [if_neg (by decide), if_neg (by simpa using hf1), if_neg (by decide), if_pos hf2]; rfl) hf2 rfl hM hC (by simp)
  refine (exec_l g 213 (by omega) (by omega) _ w c0 (long_213 g _ w c0 (clc_m g (l1 + 1) F _ _ _ _ _ _ _ key a1 a w h (show ((l1 : Nat) : Int) + 1 = ((l1 + 1 : Nat) : Int) by omega) (by omega) rfl hs1 hs hb1.1 hb1.2 hb0.1 hb0.2  (by omega) hf1 hf2))).mono ?_
  rintro e w' ⟨rfl, hM, hC⟩
  have e2 : loO (⟨os, key, il, cc, pg, ad, bs, ks⟩ : Pre) 213 (l1 + 1) a1 a = ⟨0, os, clc (sGet bs a1 ((l1 + 1 : Nat) : Int)) (sGet bs a ((l1 + 1 : Nat) : Int)), pg, ad, false, bs⟩ := by unfold loO Pre.fc; rw [if_neg (by decide), if_neg (by simpa using hf1), if_neg (by decide), if_neg (by simpa using hf2), if_pos rfl]; rfl
  rw [e2]
  exact ends_ok rfl rfl hM hC (by simp)
set_option maxRecDepth 1000000 in
set_option maxHeartbeats 8000000 in
theorem exec_gl220 (g n k x2 b1 b2 l1 : Nat) (F : Foot) (op fm d1 d2 l2 i2 : Int) (m key : Int) (M W P : Bool) (cd il cc pg ad : Int) (os bs ks : List Int) (w : World) (h : MS w g F (isL op fm n k x2 b1 d1 b2 d2 l1 l2 i2) os os (psL m key M W P cd il cc pg ad) false bs ks) (ro : ∀ z ∈ os, 0 ≤ z ∧ z ≤ 4294967295) (hn16 : n < 16) (hk16 : k < 16) (hx16 : x2 < 16) (hb116 : b1 < 16) (hb216 : b2 < 16) (hl1 : l1 < 256) (hd1 : 0 ≤ d1 ∧ d1 < 4096) (hd2 : 0 ≤ d2 ∧ d2 < 4096) (hi2 : 0 ≤ i2 ∧ i2 < 256) (a1 a : Int) (ha1 : (d1 + sumB os [b1]) % 16777216 = a1) (ha : (d2 + sumB os [b2, x2]) % 16777216 = a)  (hop : op = 220) : Calls Try.prog 31 #[.pointer (some ⟨g, 0, none⟩)] w (Ends g F (isL op fm n k x2 b1 d1 b2 d2 l1 l2 i2) os m key M W P cd il bs ks (exO (⟨os, key, il, cc, pg, ad, bs, ks⟩ : Pre) op fm n k a1 a l1 i2) w) := by
  have c0 : w.cell? ⟨g, 0, none⟩ = some (.int .i64 op) := h.m.ci (c := 0) (by omega)
  have hb0 : 0 ≤ a ∧ a ≤ 16777215 := by omega
  have hb1 : 0 ≤ a1 ∧ a1 ≤ 16777215 := by omega
  have hsec : ∀ (W' : World) (rs' : List Int) (ps' : List Value) (ov' : Bool) (bs' : List Int), MS W' g F (isL op fm n k x2 b1 d1 b2 d2 l1 l2 i2) os rs' ps' ov' bs' ks → Calls Try.prog 44 #[.pointer (some ⟨g, 0, none⟩)] W' fun e w' => e = .returned (.int .i64 a) ∧ Ch W' w' [] := fun W' rs' ps' ov' bs' hm => by rw [← ha]; exact second_c g b2 x2 d2 _ _ _ _ _ _ _ hm.m ro rfl hd2.1 (by omega) rfl hb216 rfl hx16
  have hfir : ∀ (W' : World) (rs' : List Int) (ps' : List Value) (ov' : Bool) (bs' : List Int), MS W' g F (isL op fm n k x2 b1 d1 b2 d2 l1 l2 i2) os rs' ps' ov' bs' ks → Calls Try.prog 71 #[.pointer (some ⟨g, 0, none⟩)] W' fun e w' => e = .returned (.int .i64 a1) ∧ Ch W' w' [] := fun W' rs' ps' ov' bs' hm => by rw [← ha1]; exact first_c g b1 d1 _ _ _ _ _ _ _ hm.m ro rfl hd1.1 (by omega) rfl hb116
  have hs := fun W' => hsec W' os (psL m key M W P cd il cc pg ad) false bs
  have hs1 := fun W' => hfir W' os (psL m key M W P cd il cc pg ad) false bs
  have e1 : exO (⟨os, key, il, cc, pg, ad, bs, ks⟩ : Pre) 220 fm n k a1 a l1 i2 = loO (⟨os, key, il, cc, pg, ad, bs, ks⟩ : Pre) 220 (l1 + 1) a1 a := rfl
  subst hop
  rw [e1]
  by_cases hf1 : sCode (alF key) bs.length ks a1 ((l1 + 1 : Nat) : Int) = 0
  rotate_left
  · refine (exec_l_no g 220 (by omega) (by omega) _ _ w c0 (long_220_no g _ _ w c0 (tr_no g (l1 + 1) F _ _ _ _ _ _ _ key a1 a w h (show ((l1 : Nat) : Int) + 1 = ((l1 + 1 : Nat) : Int) by omega) (by omega) rfl hs1 hs hb1.1 hb1.2 hb0.1 hb0.2  _ rfl hf1))).mono ?_
    rintro e w' ⟨rfl, hM, hC⟩
    exact ends_no (show Out.c (loO (⟨os, key, il, cc, pg, ad, bs, ks⟩ : Pre) 220 (l1 + 1) a1 a) = _ by unfold loO Pre.fc; rw [if_neg (by decide), if_pos hf1]; rfl) hf1 rfl hM hC (by simp)
  obtain ⟨c, hcd⟩ : ∃ c, (if trE bs ks (sGet bs a1 ((l1 + 1 : Nat) : Int)) key a (l1 + 1) = 0 then sCode (alP key) bs.length ks a1 ((l1 + 1 : Nat) : Int) else trE bs ks (sGet bs a1 ((l1 + 1 : Nat) : Int)) key a (l1 + 1)) = c := ⟨_, rfl⟩
  have hst := tr_m g (l1 + 1) F _ _ _ _ _ _ _ key a1 a w h (show ((l1 : Nat) : Int) + 1 = ((l1 + 1 : Nat) : Int) by omega) (by omega) rfl hs1 hs hb1.1 hb1.2 hb0.1 hb0.2  (by omega) hf1 c hcd
  obtain ⟨x, hx⟩ : ∃ x, sGet bs a1 ((l1 + 1 : Nat) : Int) = x := ⟨_, rfl⟩
  rw [hx] at hst hcd
  have e2 : loO (⟨os, key, il, cc, pg, ad, bs, ks⟩ : Pre) 220 (l1 + 1) a1 a = if trE bs ks x key a (l1 + 1) = 0 then Pre.wr (⟨os, key, il, cc, pg, ad, bs, ks⟩ : Pre) a1 ((l1 + 1 : Nat) : Int) (trS bs x a1 a (l1 + 1)) cc else Pre.no (⟨os, key, il, cc, pg, ad, bs, ks⟩ : Pre) (trE bs ks x key a (l1 + 1)) := by unfold loO Pre.fc; rw [if_neg (by decide), if_neg (by simpa using hf1), if_pos rfl]; dsimp only; rw [hx]
  rw [e2]
  by_cases hc : c = 0
  · have hp := hcd.trans hc
    have ht : trE bs ks x key a (l1 + 1) = 0 := by by_cases hq : trE bs ks x key a (l1 + 1) = 0; (· exact hq); (· rw [if_neg hq] at hp; exact hp)
    rw [if_pos ht] at hp
    refine (exec_l g 220 (by omega) (by omega) (fun w' => MS w' g F (isL 220 fm n k x2 b1 d1 b2 d2 l1 l2 i2) os os (psL m key M W P cd il cc pg ad) false (sPut (alP key) bs ks a1 (trS bs x a1 a (l1 + 1))) ks ∧ Ch w w' [g, F.gb]) w c0 (long_220 g _ w c0 (hst.mono ?_))).mono ?_
    · rintro e w' ⟨h1, h2, h3⟩; exact ⟨(h1 hc).1, (h1 hc).2, h3⟩
    rintro e w' ⟨rfl, hM, hC⟩
    rw [if_pos ht]
    have e3 : Pre.wr (⟨os, key, il, cc, pg, ad, bs, ks⟩ : Pre) a1 ((l1 + 1 : Nat) : Int) (trS bs x a1 a (l1 + 1)) cc = ⟨0, os, cc, pg, ad, false, sPut (alP key) bs ks a1 (trS bs x a1 a (l1 + 1))⟩ := by unfold Pre.wr Pre.pc; rw [if_pos hp]
    rw [e3]
    exact ends_ok rfl rfl hM hC (by simp)
  · refine (exec_l_no g 220 (by omega) (by omega) (fun w' => MS w' g F (isL 220 fm n k x2 b1 d1 b2 d2 l1 l2 i2) os os (psL m key M W P cd il cc pg ad) false bs ks ∧ Ch w w' [g, F.gb]) c w c0 (long_220_no g _ c w c0 (hst.mono ?_))).mono ?_
    · rintro e w' ⟨h1, h2, h3⟩; exact ⟨(h2 hc).1, (h2 hc).2, h3⟩
    rintro e w' ⟨rfl, hM, hC⟩
    refine ends_no (c := c) ?_ hc rfl hM hC (by simp)
    by_cases ht : trE bs ks x key a (l1 + 1) = 0
    · rw [if_pos ht] at hcd
      rw [if_pos ht]
      unfold Pre.wr Pre.pc; rw [hcd, if_neg hc]; rfl
    · rw [if_neg ht] at hcd; rw [if_neg ht, ← hcd]; rfl
set_option maxRecDepth 1000000 in
set_option maxHeartbeats 8000000 in
theorem exec_gl221 (g n k x2 b1 b2 l1 : Nat) (F : Foot) (op fm d1 d2 l2 i2 : Int) (m key : Int) (M W P : Bool) (cd il cc pg ad : Int) (os bs ks : List Int) (w : World) (h : MS w g F (isL op fm n k x2 b1 d1 b2 d2 l1 l2 i2) os os (psL m key M W P cd il cc pg ad) false bs ks) (ro : ∀ z ∈ os, 0 ≤ z ∧ z ≤ 4294967295) (hn16 : n < 16) (hk16 : k < 16) (hx16 : x2 < 16) (hb116 : b1 < 16) (hb216 : b2 < 16) (hl1 : l1 < 256) (hd1 : 0 ≤ d1 ∧ d1 < 4096) (hd2 : 0 ≤ d2 ∧ d2 < 4096) (hi2 : 0 ≤ i2 ∧ i2 < 256) (a1 a : Int) (ha1 : (d1 + sumB os [b1]) % 16777216 = a1) (ha : (d2 + sumB os [b2, x2]) % 16777216 = a)  (hop : op = 221) : Calls Try.prog 31 #[.pointer (some ⟨g, 0, none⟩)] w (Ends g F (isL op fm n k x2 b1 d1 b2 d2 l1 l2 i2) os m key M W P cd il bs ks (exO (⟨os, key, il, cc, pg, ad, bs, ks⟩ : Pre) op fm n k a1 a l1 i2) w) := by
  have c0 : w.cell? ⟨g, 0, none⟩ = some (.int .i64 op) := h.m.ci (c := 0) (by omega)
  have hb0 : 0 ≤ a ∧ a ≤ 16777215 := by omega
  have hb1 : 0 ≤ a1 ∧ a1 ≤ 16777215 := by omega
  have hsec : ∀ (W' : World) (rs' : List Int) (ps' : List Value) (ov' : Bool) (bs' : List Int), MS W' g F (isL op fm n k x2 b1 d1 b2 d2 l1 l2 i2) os rs' ps' ov' bs' ks → Calls Try.prog 44 #[.pointer (some ⟨g, 0, none⟩)] W' fun e w' => e = .returned (.int .i64 a) ∧ Ch W' w' [] := fun W' rs' ps' ov' bs' hm => by rw [← ha]; exact second_c g b2 x2 d2 _ _ _ _ _ _ _ hm.m ro rfl hd2.1 (by omega) rfl hb216 rfl hx16
  have hfir : ∀ (W' : World) (rs' : List Int) (ps' : List Value) (ov' : Bool) (bs' : List Int), MS W' g F (isL op fm n k x2 b1 d1 b2 d2 l1 l2 i2) os rs' ps' ov' bs' ks → Calls Try.prog 71 #[.pointer (some ⟨g, 0, none⟩)] W' fun e w' => e = .returned (.int .i64 a1) ∧ Ch W' w' [] := fun W' rs' ps' ov' bs' hm => by rw [← ha1]; exact first_c g b1 d1 _ _ _ _ _ _ _ hm.m ro rfl hd1.1 (by omega) rfl hb116
  have hs := fun W' => hsec W' os (psL m key M W P cd il cc pg ad) false bs
  have hs1 := fun W' => hfir W' os (psL m key M W P cd il cc pg ad) false bs
  have e1 : exO (⟨os, key, il, cc, pg, ad, bs, ks⟩ : Pre) 221 fm n k a1 a l1 i2 = loO (⟨os, key, il, cc, pg, ad, bs, ks⟩ : Pre) 221 (l1 + 1) a1 a := rfl
  subst hop
  rw [e1]
  obtain ⟨⟨c, o⟩, hco⟩ : ∃ x, scn bs ks key a1 a (l1 + 1) 0 = x := ⟨_, rfl⟩
  have hlen : bs.length ≤ 16777216 := by have h1 := h.st.ln; have h2 := h.st.l1; omega
  have hst := trt_m g (l1 + 1) F _ _ _ _ _ _ _ key a1 a w h (show ((l1 : Nat) : Int) + 1 = ((l1 + 1 : Nat) : Int) by omega) (by omega) rfl hs1 hs hb1.1 hb1.2 hb0.1 hb0.2  (by omega) hlen ro h.st.rb c o hco
  have e2 : loO (⟨os, key, il, cc, pg, ad, bs, ks⟩ : Pre) 221 (l1 + 1) a1 a = if c = 0 then ⟨0, scnR os os a1 o, scnQ (l1 + 1) o, pg, ad, false, bs⟩ else Pre.no (⟨os, key, il, cc, pg, ad, bs, ks⟩ : Pre) c := by unfold loO; rw [if_pos rfl]; dsimp only; rw [hco]
  rw [e2]
  by_cases hc : c = 0
  · refine (exec_l g 221 (by omega) (by omega) (fun w' => MS w' g F (isL 221 fm n k x2 b1 d1 b2 d2 l1 l2 i2) os (scnR os os a1 o) (psL m key M W P cd il (scnQ (l1 + 1) o) pg ad) false bs ks ∧ Ch w w' [g]) w c0 (long_221 g _ w c0 (hst.mono ?_))).mono ?_
    · rintro e w' ⟨h1, h2, h3⟩; exact ⟨(h1 hc).1, (h1 hc).2, h3⟩
    rintro e w' ⟨rfl, hM, hC⟩
    rw [if_pos hc]
    exact ends_ok rfl rfl hM hC (by simp)
  · refine (exec_l_no g 221 (by omega) (by omega) (fun w' => MS w' g F (isL 221 fm n k x2 b1 d1 b2 d2 l1 l2 i2) os os (psL m key M W P cd il 0 pg ad) false bs ks ∧ Ch w w' [g]) c w c0 (long_221_no g _ c w c0 (hst.mono ?_))).mono ?_
    · rintro e w' ⟨h1, h2, h3⟩; exact ⟨(h2 hc).1, (h2 hc).2, h3⟩
    rintro e w' ⟨rfl, hM, hC⟩
    rw [if_neg hc]
    exact ends_no (c := c) rfl hc rfl hM hC (by simp)
end Go.Proofs.Ythjdjbipfdigeaa

