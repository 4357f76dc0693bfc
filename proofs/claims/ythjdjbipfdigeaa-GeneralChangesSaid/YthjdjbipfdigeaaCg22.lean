/- Contracts and laws on the way to the statement, text 22 of 25. Conditions: as each states them. -/
import Derived.Test.YthjdjbipfdigeaaCg5
import Derived.Test.YthjdjbipfdigeaaCg17
import Derived.Test.YthjdjbipfdigeaaCg18
import Derived.Test.YthjdjbipfdigeaaCg21
namespace Go.Proofs.Ythjdjbipfdigeaa
open Go.RowKit
set_option maxRecDepth 100000
set_option linter.unusedVariables false
set_option linter.unusedSimpArgs false
theorem opV_in (op fm : Int) (os : List Int) (k : Nat) (bs : List Int) (a : Int) (ro : ∀ z ∈ os, 0 ≤ z ∧ z ≤ 4294967295) (hr : ∀ z ∈ bs, 0 ≤ z ∧ z ≤ 255) : 0 ≤ opV op fm os k bs a ∧ opV op fm os k bs a ≤ 4294967295 := by
  unfold opV
  split
  · exact getD_in ro k
  · split
    · unfold g2V hfv lo32; omega
    · unfold g4V flv
      have h0 := sGet_in a 4 hr 0
      have h1 := sGet_in a 4 hr 1
      have h2 := sGet_in a 4 hr 2
      have h3 := sGet_in a 4 hr 3
      omega
set_option maxRecDepth 1000000 in
set_option maxHeartbeats 8000000 in
theorem exec_gp28 (g n k x2 b1 b2 l1 : Nat) (F : Foot) (op fm d1 d2 l2 i2 : Int) (m key : Int) (M W P : Bool) (cd il cc pg ad : Int) (os bs ks : List Int) (w : World) (h : MS w g F (isL op fm n k x2 b1 d1 b2 d2 l1 l2 i2) os os (psL m key M W P cd il cc pg ad) false bs ks) (ro : ∀ z ∈ os, 0 ≤ z ∧ z ≤ 4294967295) (hn16 : n < 16) (hk16 : k < 16) (hx16 : x2 < 16) (hb116 : b1 < 16) (hb216 : b2 < 16) (hl1 : l1 < 256) (hd1 : 0 ≤ d1 ∧ d1 < 4096) (hd2 : 0 ≤ d2 ∧ d2 < 4096) (hi2 : 0 ≤ i2 ∧ i2 < 256) (a1 a : Int) (ha1 : (d1 + sumB os [b1]) % 16777216 = a1) (ha : (d2 + sumB os [b2, x2]) % 16777216 = a)  (hop : op = 28) : Calls Try.prog 31 #[.pointer (some ⟨g, 0, none⟩)] w (Ends g F (isL op fm n k x2 b1 d1 b2 d2 l1 l2 i2) os m key M W P cd il bs ks (exO (⟨os, key, il, cc, pg, ad, bs, ks⟩ : Pre) op fm n k a1 a l1 i2) w) := by
  have c0 : w.cell? ⟨g, 0, none⟩ = some (.int .i64 op) := h.m.ci (c := 0) (by omega)
  have hb0 : 0 ≤ a ∧ a ≤ 16777215 := by omega
  have hb1 : 0 ≤ a1 ∧ a1 ≤ 16777215 := by omega
  have hsec : ∀ (W' : World) (rs' : List Int) (ps' : List Value) (ov' : Bool) (bs' : List Int), MS W' g F (isL op fm n k x2 b1 d1 b2 d2 l1 l2 i2) os rs' ps' ov' bs' ks → Calls Try.prog 44 #[.pointer (some ⟨g, 0, none⟩)] W' fun e w' => e = .returned (.int .i64 a) ∧ Ch W' w' [] := fun W' rs' ps' ov' bs' hm => by rw [← ha]; exact second_c g b2 x2 d2 _ _ _ _ _ _ _ hm.m ro rfl hd2.1 (by omega) rfl hb216 rfl hx16
  have hfir : ∀ (W' : World) (rs' : List Int) (ps' : List Value) (ov' : Bool) (bs' : List Int), MS W' g F (isL op fm n k x2 b1 d1 b2 d2 l1 l2 i2) os rs' ps' ov' bs' ks → Calls Try.prog 71 #[.pointer (some ⟨g, 0, none⟩)] W' fun e w' => e = .returned (.int .i64 a1) ∧ Ch W' w' [] := fun W' rs' ps' ov' bs' hm => by rw [← ha1]; exact first_c g b1 d1 _ _ _ _ _ _ _ hm.m ro rfl hd1.1 (by omega) rfl hb116
  have hs := fun W' => hsec W' os (psL m key M W P cd il cc pg ad) false bs
  have vr := opV_in op fm os k bs a ro h.st.rb
  obtain ⟨c, hc⟩ : ∃ c, opC op fm bs ks key a = c := ⟨_, rfl⟩
  obtain ⟨v, hv⟩ : ∃ v, opV op fm os k bs a = v := ⟨_, rfl⟩
  have e1 : exO (⟨os, key, il, cc, pg, ad, bs, ks⟩ : Pre) op fm n k a1 a l1 i2 = arO (⟨os, key, il, cc, pg, ad, bs, ks⟩ : Pre) op n c v := by unfold exO; rw [if_neg (by omega), if_neg (by omega), if_neg (by omega), if_neg (by omega), if_neg (by omega), if_neg (by omega)]; dsimp only; rw [hc, hv]
  rw [e1]
  have hno := fun W hm hc0 => operand_no g k F (isL op fm n k x2 b1 d1 b2 d2 l1 l2 i2) _ _ _ _ _ _ op fm key a W hm rfl rfl rfl hs hb0.1 hb0.2 c hc hc0
  have hyes := fun W hm hc0 => operand_ok g k F (isL op fm n k x2 b1 d1 b2 d2 l1 l2 i2) _ _ _ _ _ _ op fm key a W hm rfl rfl rfl hk16 rfl hs hb0.1 hb0.2 (hc.trans hc0)
  rw [hv] at vr
  simp only [hv] at hyes
  subst hop
  by_cases hev : n % 2 = 1
  · refine (exec_art_no (by omega) _ 6 w c0 (arith_p28_no g _ 6 w c0 (product_odd g n F _ _ _ _ _ _ _ w h  rfl hn16 hev))).mono ?_
    rintro e w' ⟨rfl, hM, hC⟩
    exact ends_no (c := 6) (by unfold arO; rw [if_pos (by decide), if_pos hev]; rfl) (by decide) rfl hM hC (by simp)
  by_cases hc0 : c = 0
  rotate_left
  · refine (exec_art_no (by omega) _ c w c0 (arith_p28_no g _ c w c0 (product_no g n F _ _ _ _ _ _ _ w h  rfl hn16 c (fun W hm => hno W hm hc0) (by omega)))).mono ?_
    rintro e w' ⟨rfl, hM, hC⟩
    exact ends_no (c := c) (by unfold arO; rw [if_pos (by decide), if_neg hev, if_pos hc0]; rfl) hc0 rfl hM hC (by simp)
  refine (exec_art (by omega) _ w c0 (arith_p28 g _ w c0 (product_28 g n (n + 1) F _ _ _ _ _ _ _ w h  rfl hn16 v (fun W hm => hyes W hm hc0) vr.1 vr.2 ro (by omega) rfl rfl))).mono ?_
  rintro e w' ⟨rfl, hM, hC⟩
  unfold arO
  rw [if_pos (by decide), if_neg hev, if_neg (by simp [hc0]), if_pos (by decide)]
  exact ends_ok rfl rfl hM hC (by simp)
set_option maxRecDepth 1000000 in
set_option maxHeartbeats 8000000 in
theorem exec_gp29 (g n k x2 b1 b2 l1 : Nat) (F : Foot) (op fm d1 d2 l2 i2 : Int) (m key : Int) (M W P : Bool) (cd il cc pg ad : Int) (os bs ks : List Int) (w : World) (h : MS w g F (isL op fm n k x2 b1 d1 b2 d2 l1 l2 i2) os os (psL m key M W P cd il cc pg ad) false bs ks) (ro : ∀ z ∈ os, 0 ≤ z ∧ z ≤ 4294967295) (hn16 : n < 16) (hk16 : k < 16) (hx16 : x2 < 16) (hb116 : b1 < 16) (hb216 : b2 < 16) (hl1 : l1 < 256) (hd1 : 0 ≤ d1 ∧ d1 < 4096) (hd2 : 0 ≤ d2 ∧ d2 < 4096) (hi2 : 0 ≤ i2 ∧ i2 < 256) (a1 a : Int) (ha1 : (d1 + sumB os [b1]) % 16777216 = a1) (ha : (d2 + sumB os [b2, x2]) % 16777216 = a)  (hop : op = 29) : Calls Try.prog 31 #[.pointer (some ⟨g, 0, none⟩)] w (Ends g F (isL op fm n k x2 b1 d1 b2 d2 l1 l2 i2) os m key M W P cd il bs ks (exO (⟨os, key, il, cc, pg, ad, bs, ks⟩ : Pre) op fm n k a1 a l1 i2) w) := by
  have c0 : w.cell? ⟨g, 0, none⟩ = some (.int .i64 op) := h.m.ci (c := 0) (by omega)
  have hb0 : 0 ≤ a ∧ a ≤ 16777215 := by omega
  have hb1 : 0 ≤ a1 ∧ a1 ≤ 16777215 := by omega
  have hsec : ∀ (W' : World) (rs' : List Int) (ps' : List Value) (ov' : Bool) (bs' : List Int), MS W' g F (isL op fm n k x2 b1 d1 b2 d2 l1 l2 i2) os rs' ps' ov' bs' ks → Calls Try.prog 44 #[.pointer (some ⟨g, 0, none⟩)] W' fun e w' => e = .returned (.int .i64 a) ∧ Ch W' w' [] := fun W' rs' ps' ov' bs' hm => by rw [← ha]; exact second_c g b2 x2 d2 _ _ _ _ _ _ _ hm.m ro rfl hd2.1 (by omega) rfl hb216 rfl hx16
  have hfir : ∀ (W' : World) (rs' : List Int) (ps' : List Value) (ov' : Bool) (bs' : List Int), MS W' g F (isL op fm n k x2 b1 d1 b2 d2 l1 l2 i2) os rs' ps' ov' bs' ks → Calls Try.prog 71 #[.pointer (some ⟨g, 0, none⟩)] W' fun e w' => e = .returned (.int .i64 a1) ∧ Ch W' w' [] := fun W' rs' ps' ov' bs' hm => by rw [← ha1]; exact first_c g b1 d1 _ _ _ _ _ _ _ hm.m ro rfl hd1.1 (by omega) rfl hb116
  have hs := fun W' => hsec W' os (psL m key M W P cd il cc pg ad) false bs
  have vr := opV_in op fm os k bs a ro h.st.rb
  obtain ⟨c, hc⟩ : ∃ c, opC op fm bs ks key a = c := ⟨_, rfl⟩
  obtain ⟨v, hv⟩ : ∃ v, opV op fm os k bs a = v := ⟨_, rfl⟩
  have e1 : exO (⟨os, key, il, cc, pg, ad, bs, ks⟩ : Pre) op fm n k a1 a l1 i2 = arO (⟨os, key, il, cc, pg, ad, bs, ks⟩ : Pre) op n c v := by unfold exO; rw [if_neg (by omega), if_neg (by omega), if_neg (by omega), if_neg (by omega), if_neg (by omega), if_neg (by omega)]; dsimp only; rw [hc, hv]
  rw [e1]
  have hno := fun W hm hc0 => operand_no g k F (isL op fm n k x2 b1 d1 b2 d2 l1 l2 i2) _ _ _ _ _ _ op fm key a W hm rfl rfl rfl hs hb0.1 hb0.2 c hc hc0
  have hyes := fun W hm hc0 => operand_ok g k F (isL op fm n k x2 b1 d1 b2 d2 l1 l2 i2) _ _ _ _ _ _ op fm key a W hm rfl rfl rfl hk16 rfl hs hb0.1 hb0.2 (hc.trans hc0)
  rw [hv] at vr
  simp only [hv] at hyes
  subst hop
  by_cases hev : n % 2 = 1
  · refine (exec_art_no (by omega) _ 6 w c0 (arith_p29_no g _ 6 w c0 (product_odd g n F _ _ _ _ _ _ _ w h  rfl hn16 hev))).mono ?_
    rintro e w' ⟨rfl, hM, hC⟩
    exact ends_no (c := 6) (by unfold arO; rw [if_pos (by decide), if_pos hev]; rfl) (by decide) rfl hM hC (by simp)
  by_cases hc0 : c = 0
  rotate_left
  · refine (exec_art_no (by omega) _ c w c0 (arith_p29_no g _ c w c0 (product_no g n F _ _ _ _ _ _ _ w h  rfl hn16 c (fun W hm => hno W hm hc0) (by omega)))).mono ?_
    rintro e w' ⟨rfl, hM, hC⟩
    exact ends_no (c := c) (by unfold arO; rw [if_pos (by decide), if_neg hev, if_pos hc0]; rfl) hc0 rfl hM hC (by simp)
  by_cases hd : dok (sg64 (dbl (os.getD n 0) (os.getD (n + 1) 0))) (sg v) = true
  · refine (exec_art (by omega) _ w c0 (arith_p29 g _ w c0 (product_29 g n (n + 1) F _ _ _ _ _ _ _ w h  rfl hn16 v (fun W hm => hyes W hm hc0) vr.1 vr.2 ro (by omega) rfl rfl hd))).mono ?_
    rintro e w' ⟨rfl, hM, hC⟩
    unfold arO
    rw [if_pos (by decide), if_neg hev, if_neg (by simp [hc0]), if_neg (by decide), if_pos hd]
    exact ends_ok rfl rfl hM hC (by simp)
  · refine (exec_art_no (by omega) _ 9 w c0 (arith_p29_no g _ 9 w c0 (product_29_no g n (n + 1) F _ _ _ _ _ _ _ w h  rfl hn16 v (fun W hm => hyes W hm hc0) vr.1 vr.2 ro (by omega) rfl rfl (by simpa using hd)))).mono ?_
    rintro e w' ⟨rfl, hM, hC⟩
    exact ends_no (c := 9) (by unfold arO; rw [if_pos (by decide), if_neg hev, if_neg (by simp [hc0]), if_neg (by decide), if_neg hd]; rfl) (by decide) rfl hM hC (by simp)
set_option maxRecDepth 1000000 in
set_option maxHeartbeats 8000000 in
theorem exec_gp92 (g n k x2 b1 b2 l1 : Nat) (F : Foot) (op fm d1 d2 l2 i2 : Int) (m key : Int) (M W P : Bool) (cd il cc pg ad : Int) (os bs ks : List Int) (w : World) (h : MS w g F (isL op fm n k x2 b1 d1 b2 d2 l1 l2 i2) os os (psL m key M W P cd il cc pg ad) false bs ks) (ro : ∀ z ∈ os, 0 ≤ z ∧ z ≤ 4294967295) (hn16 : n < 16) (hk16 : k < 16) (hx16 : x2 < 16) (hb116 : b1 < 16) (hb216 : b2 < 16) (hl1 : l1 < 256) (hd1 : 0 ≤ d1 ∧ d1 < 4096) (hd2 : 0 ≤ d2 ∧ d2 < 4096) (hi2 : 0 ≤ i2 ∧ i2 < 256) (a1 a : Int) (ha1 : (d1 + sumB os [b1]) % 16777216 = a1) (ha : (d2 + sumB os [b2, x2]) % 16777216 = a)  (hop : op = 92) : Calls Try.prog 31 #[.pointer (some ⟨g, 0, none⟩)] w (Ends g F (isL op fm n k x2 b1 d1 b2 d2 l1 l2 i2) os m key M W P cd il bs ks (exO (⟨os, key, il, cc, pg, ad, bs, ks⟩ : Pre) op fm n k a1 a l1 i2) w) := by
  have c0 : w.cell? ⟨g, 0, none⟩ = some (.int .i64 op) := h.m.ci (c := 0) (by omega)
  have hb0 : 0 ≤ a ∧ a ≤ 16777215 := by omega
  have hb1 : 0 ≤ a1 ∧ a1 ≤ 16777215 := by omega
  have hsec : ∀ (W' : World) (rs' : List Int) (ps' : List Value) (ov' : Bool) (bs' : List Int), MS W' g F (isL op fm n k x2 b1 d1 b2 d2 l1 l2 i2) os rs' ps' ov' bs' ks → Calls Try.prog 44 #[.pointer (some ⟨g, 0, none⟩)] W' fun e w' => e = .returned (.int .i64 a) ∧ Ch W' w' [] := fun W' rs' ps' ov' bs' hm => by rw [← ha]; exact second_c g b2 x2 d2 _ _ _ _ _ _ _ hm.m ro rfl hd2.1 (by omega) rfl hb216 rfl hx16
  have hfir : ∀ (W' : World) (rs' : List Int) (ps' : List Value) (ov' : Bool) (bs' : List Int), MS W' g F (isL op fm n k x2 b1 d1 b2 d2 l1 l2 i2) os rs' ps' ov' bs' ks → Calls Try.prog 71 #[.pointer (some ⟨g, 0, none⟩)] W' fun e w' => e = .returned (.int .i64 a1) ∧ Ch W' w' [] := fun W' rs' ps' ov' bs' hm => by rw [← ha1]; exact first_c g b1 d1 _ _ _ _ _ _ _ hm.m ro rfl hd1.1 (by omega) rfl hb116
  have hs := fun W' => hsec W' os (psL m key M W P cd il cc pg ad) false bs
  have vr := opV_in op fm os k bs a ro h.st.rb
  obtain ⟨c, hc⟩ : ∃ c, opC op fm bs ks key a = c := ⟨_, rfl⟩
  obtain ⟨v, hv⟩ : ∃ v, opV op fm os k bs a = v := ⟨_, rfl⟩
  have e1 : exO (⟨os, key, il, cc, pg, ad, bs, ks⟩ : Pre) op fm n k a1 a l1 i2 = arO (⟨os, key, il, cc, pg, ad, bs, ks⟩ : Pre) op n c v := by unfold exO; rw [if_neg (by omega), if_neg (by omega), if_neg (by omega), if_neg (by omega), if_neg (by omega), if_neg (by omega)]; dsimp only; rw [hc, hv]
  rw [e1]
  have hno := fun W hm hc0 => operand_no g k F (isL op fm n k x2 b1 d1 b2 d2 l1 l2 i2) _ _ _ _ _ _ op fm key a W hm rfl rfl rfl hs hb0.1 hb0.2 c hc hc0
  have hyes := fun W hm hc0 => operand_ok g k F (isL op fm n k x2 b1 d1 b2 d2 l1 l2 i2) _ _ _ _ _ _ op fm key a W hm rfl rfl rfl hk16 rfl hs hb0.1 hb0.2 (hc.trans hc0)
  rw [hv] at vr
  simp only [hv] at hyes
  subst hop
  by_cases hev : n % 2 = 1
  · refine (exec_art_no (by omega) _ 6 w c0 (arith_p92_no g _ 6 w c0 (product_odd g n F _ _ _ _ _ _ _ w h  rfl hn16 hev))).mono ?_
    rintro e w' ⟨rfl, hM, hC⟩
    exact ends_no (c := 6) (by unfold arO; rw [if_pos (by decide), if_pos hev]; rfl) (by decide) rfl hM hC (by simp)
  by_cases hc0 : c = 0
  rotate_left
  · refine (exec_art_no (by omega) _ c w c0 (arith_p92_no g _ c w c0 (product_no g n F _ _ _ _ _ _ _ w h  rfl hn16 c (fun W hm => hno W hm hc0) (by omega)))).mono ?_
    rintro e w' ⟨rfl, hM, hC⟩
    exact ends_no (c := c) (by unfold arO; rw [if_pos (by decide), if_neg hev, if_pos hc0]; rfl) hc0 rfl hM hC (by simp)
  refine (exec_art (by omega) _ w c0 (arith_p92 g _ w c0 (product_92 g n (n + 1) F _ _ _ _ _ _ _ w h  rfl hn16 v (fun W hm => hyes W hm hc0) vr.1 vr.2 ro (by omega) rfl rfl))).mono ?_
  rintro e w' ⟨rfl, hM, hC⟩
  unfold arO
  rw [if_pos (by decide), if_neg hev, if_neg (by simp [hc0]), if_pos (by decide)]
  exact ends_ok rfl rfl hM hC (by simp)
set_option maxRecDepth 1000000 in
set_option maxHeartbeats 8000000 in
theorem exec_gp93 (g n k x2 b1 b2 l1 : Nat) (F : Foot) (op fm d1 d2 l2 i2 : Int) (m key : Int) (M W P : Bool) (cd il cc pg ad : Int) (os bs ks : List Int) (w : World) (h : MS w g F (isL op fm n k x2 b1 d1 b2 d2 l1 l2 i2) os os (psL m key M W P cd il cc pg ad) false bs ks) (ro : ∀ z ∈ os, 0 ≤ z ∧ z ≤ 4294967295) (hn16 : n < 16) (hk16 : k < 16) (hx16 : x2 < 16) (hb116 : b1 < 16) (hb216 : b2 < 16) (hl1 : l1 < 256) (hd1 : 0 ≤ d1 ∧ d1 < 4096) (hd2 : 0 ≤ d2 ∧ d2 < 4096) (hi2 : 0 ≤ i2 ∧ i2 < 256) (a1 a : Int) (ha1 : (d1 + sumB os [b1]) % 16777216 = a1) (ha : (d2 + sumB os [b2, x2]) % 16777216 = a)  (hop : op = 93) : Calls Try.prog 31 #[.pointer (some ⟨g, 0, none⟩)] w (Ends g F (isL op fm n k x2 b1 d1 b2 d2 l1 l2 i2) os m key M W P cd il bs ks (exO (⟨os, key, il, cc, pg, ad, bs, ks⟩ : Pre) op fm n k a1 a l1 i2) w) := by
  have c0 : w.cell? ⟨g, 0, none⟩ = some (.int .i64 op) := h.m.ci (c := 0) (by omega)
  have hb0 : 0 ≤ a ∧ a ≤ 16777215 := by omega
  have hb1 : 0 ≤ a1 ∧ a1 ≤ 16777215 := by omega
  have hsec : ∀ (W' : World) (rs' : List Int) (ps' : List Value) (ov' : Bool) (bs' : List Int), MS W' g F (isL op fm n k x2 b1 d1 b2 d2 l1 l2 i2) os rs' ps' ov' bs' ks → Calls Try.prog 44 #[.pointer (some ⟨g, 0, none⟩)] W' fun e w' => e = .returned (.int .i64 a) ∧ Ch W' w' [] := fun W' rs' ps' ov' bs' hm => by rw [← ha]; exact second_c g b2 x2 d2 _ _ _ _ _ _ _ hm.m ro rfl hd2.1 (by omega) rfl hb216 rfl hx16
  have hfir : ∀ (W' : World) (rs' : List Int) (ps' : List Value) (ov' : Bool) (bs' : List Int), MS W' g F (isL op fm n k x2 b1 d1 b2 d2 l1 l2 i2) os rs' ps' ov' bs' ks → Calls Try.prog 71 #[.pointer (some ⟨g, 0, none⟩)] W' fun e w' => e = .returned (.int .i64 a1) ∧ Ch W' w' [] := fun W' rs' ps' ov' bs' hm => by rw [← ha1]; exact first_c g b1 d1 _ _ _ _ _ _ _ hm.m ro rfl hd1.1 (by omega) rfl hb116
  have hs := fun W' => hsec W' os (psL m key M W P cd il cc pg ad) false bs
  have vr := opV_in op fm os k bs a ro h.st.rb
  obtain ⟨c, hc⟩ : ∃ c, opC op fm bs ks key a = c := ⟨_, rfl⟩
  obtain ⟨v, hv⟩ : ∃ v, opV op fm os k bs a = v := ⟨_, rfl⟩
  have e1 : exO (⟨os, key, il, cc, pg, ad, bs, ks⟩ : Pre) op fm n k a1 a l1 i2 = arO (⟨os, key, il, cc, pg, ad, bs, ks⟩ : Pre) op n c v := by unfold exO; rw [if_neg (by omega), if_neg (by omega), if_neg (by omega), if_neg (by omega), if_neg (by omega), if_neg (by omega)]; dsimp only; rw [hc, hv]
  rw [e1]
  have hno := fun W hm hc0 => operand_no g k F (isL op fm n k x2 b1 d1 b2 d2 l1 l2 i2) _ _ _ _ _ _ op fm key a W hm rfl rfl rfl hs hb0.1 hb0.2 c hc hc0
  have hyes := fun W hm hc0 => operand_ok g k F (isL op fm n k x2 b1 d1 b2 d2 l1 l2 i2) _ _ _ _ _ _ op fm key a W hm rfl rfl rfl hk16 rfl hs hb0.1 hb0.2 (hc.trans hc0)
  rw [hv] at vr
  simp only [hv] at hyes
  subst hop
  by_cases hev : n % 2 = 1
  · refine (exec_art_no (by omega) _ 6 w c0 (arith_p93_no g _ 6 w c0 (product_odd g n F _ _ _ _ _ _ _ w h  rfl hn16 hev))).mono ?_
    rintro e w' ⟨rfl, hM, hC⟩
    exact ends_no (c := 6) (by unfold arO; rw [if_pos (by decide), if_pos hev]; rfl) (by decide) rfl hM hC (by simp)
  by_cases hc0 : c = 0
  rotate_left
  · refine (exec_art_no (by omega) _ c w c0 (arith_p93_no g _ c w c0 (product_no g n F _ _ _ _ _ _ _ w h  rfl hn16 c (fun W hm => hno W hm hc0) (by omega)))).mono ?_
    rintro e w' ⟨rfl, hM, hC⟩
    exact ends_no (c := c) (by unfold arO; rw [if_pos (by decide), if_neg hev, if_pos hc0]; rfl) hc0 rfl hM hC (by simp)
  by_cases hd : dok (sg64 (dbl (os.getD n 0) (os.getD (n + 1) 0))) (sg v) = true
  · refine (exec_art (by omega) _ w c0 (arith_p93 g _ w c0 (product_93 g n (n + 1) F _ _ _ _ _ _ _ w h  rfl hn16 v (fun W hm => hyes W hm hc0) vr.1 vr.2 ro (by omega) rfl rfl hd))).mono ?_
    rintro e w' ⟨rfl, hM, hC⟩
    unfold arO
    rw [if_pos (by decide), if_neg hev, if_neg (by simp [hc0]), if_neg (by decide), if_pos hd]
    exact ends_ok rfl rfl hM hC (by simp)
  · refine (exec_art_no (by omega) _ 9 w c0 (arith_p93_no g _ 9 w c0 (product_93_no g n (n + 1) F _ _ _ _ _ _ _ w h  rfl hn16 v (fun W hm => hyes W hm hc0) vr.1 vr.2 ro (by omega) rfl rfl (by simpa using hd)))).mono ?_
    rintro e w' ⟨rfl, hM, hC⟩
    exact ends_no (c := 9) (by unfold arO; rw [if_pos (by decide), if_neg hev, if_neg (by simp [hc0]), if_neg (by decide), if_neg hd]; rfl) (by decide) rfl hM hC (by simp)
set_option maxRecDepth 1000000 in
set_option maxHeartbeats 8000000 in
theorem exec_ga (g n k x2 b1 b2 l1 : Nat) (F : Foot) (op fm d1 d2 l2 i2 : Int) (m key : Int) (M W P : Bool) (cd il cc pg ad : Int) (os bs ks : List Int) (w : World) (h : MS w g F (isL op fm n k x2 b1 d1 b2 d2 l1 l2 i2) os os (psL m key M W P cd il cc pg ad) false bs ks) (ro : ∀ z ∈ os, 0 ≤ z ∧ z ≤ 4294967295) (hn16 : n < 16) (hk16 : k < 16) (hx16 : x2 < 16) (hb116 : b1 < 16) (hb216 : b2 < 16) (hl1 : l1 < 256) (hd1 : 0 ≤ d1 ∧ d1 < 4096) (hd2 : 0 ≤ d2 ∧ d2 < 4096) (hi2 : 0 ≤ i2 ∧ i2 < 256) (a1 a : Int) (ha1 : (d1 + sumB os [b1]) % 16777216 = a1) (ha : (d2 + sumB os [b2, x2]) % 16777216 = a)  (hop : (16 ≤ op ∧ op ≤ 31) ∨ (72 ≤ op ∧ op ≤ 76) ∨ (84 ≤ op ∧ op ≤ 95)) (hpr : ¬ (op = 28 ∨ op = 29 ∨ op = 92 ∨ op = 93)) : Calls Try.prog 31 #[.pointer (some ⟨g, 0, none⟩)] w (Ends g F (isL op fm n k x2 b1 d1 b2 d2 l1 l2 i2) os m key M W P cd il bs ks (exO (⟨os, key, il, cc, pg, ad, bs, ks⟩ : Pre) op fm n k a1 a l1 i2) w) := by
  have c0 : w.cell? ⟨g, 0, none⟩ = some (.int .i64 op) := h.m.ci (c := 0) (by omega)
  have hb0 : 0 ≤ a ∧ a ≤ 16777215 := by omega
  have hb1 : 0 ≤ a1 ∧ a1 ≤ 16777215 := by omega
  have hsec : ∀ (W' : World) (rs' : List Int) (ps' : List Value) (ov' : Bool) (bs' : List Int), MS W' g F (isL op fm n k x2 b1 d1 b2 d2 l1 l2 i2) os rs' ps' ov' bs' ks → Calls Try.prog 44 #[.pointer (some ⟨g, 0, none⟩)] W' fun e w' => e = .returned (.int .i64 a) ∧ Ch W' w' [] := fun W' rs' ps' ov' bs' hm => by rw [← ha]; exact second_c g b2 x2 d2 _ _ _ _ _ _ _ hm.m ro rfl hd2.1 (by omega) rfl hb216 rfl hx16
  have hfir : ∀ (W' : World) (rs' : List Int) (ps' : List Value) (ov' : Bool) (bs' : List Int), MS W' g F (isL op fm n k x2 b1 d1 b2 d2 l1 l2 i2) os rs' ps' ov' bs' ks → Calls Try.prog 71 #[.pointer (some ⟨g, 0, none⟩)] W' fun e w' => e = .returned (.int .i64 a1) ∧ Ch W' w' [] := fun W' rs' ps' ov' bs' hm => by rw [← ha1]; exact first_c g b1 d1 _ _ _ _ _ _ _ hm.m ro rfl hd1.1 (by omega) rfl hb116
  have hs := fun W' => hsec W' os (psL m key M W P cd il cc pg ad) false bs
  have vr := opV_in op fm os k bs a ro h.st.rb
  obtain ⟨c, hc⟩ : ∃ c, opC op fm bs ks key a = c := ⟨_, rfl⟩
  obtain ⟨v, hv⟩ : ∃ v, opV op fm os k bs a = v := ⟨_, rfl⟩
  have e1 : exO (⟨os, key, il, cc, pg, ad, bs, ks⟩ : Pre) op fm n k a1 a l1 i2 = arO (⟨os, key, il, cc, pg, ad, bs, ks⟩ : Pre) op n c v := by unfold exO; rw [if_neg (by omega), if_neg (by omega), if_neg (by omega), if_neg (by omega), if_neg (by omega), if_neg (by omega)]; dsimp only; rw [hc, hv]
  rw [e1]
  have hno := fun W hm hc0 => operand_no g k F (isL op fm n k x2 b1 d1 b2 d2 l1 l2 i2) _ _ _ _ _ _ op fm key a W hm rfl rfl rfl hs hb0.1 hb0.2 c hc hc0
  have hyes := fun W hm hc0 => operand_ok g k F (isL op fm n k x2 b1 d1 b2 d2 l1 l2 i2) _ _ _ _ _ _ op fm key a W hm rfl rfl rfl hk16 rfl hs hb0.1 hb0.2 (hc.trans hc0)
  rw [hv] at vr
  simp only [hv] at hyes
  by_cases hc0 : c = 0
  rotate_left
  · refine (exec_art_no hop _ c w c0 (arith_no g n F _ _ _ _ _ _ _ w h  rfl hn16 c (fun W hm => hno W hm hc0) op rfl (by omega))).mono ?_
    rintro e w' ⟨rfl, hM, hC⟩
    exact ends_no (c := c) (by unfold arO; rw [if_neg hpr, if_pos hc0]; rfl) hc0 rfl hM hC (by simp)
  by_cases hld : op = 24 ∨ op = 88 ∨ op = 72
  · refine (exec_art hop _ w c0 (arith_ld g n F _ _ _ _ _ _ _ w h  rfl hn16 v (fun W hm => hyes W hm hc0) vr.1 vr.2 ro op rfl hld)).mono ?_
    rintro e w' ⟨rfl, hM, hC⟩
    unfold arO
    rw [if_neg hpr, if_neg (by simp [hc0]), if_pos hld]
    exact ends_ok rfl rfl hM hC (by simp)
  by_cases hsg : op = 16 ∨ op = 17 ∨ op = 18 ∨ op = 19
  · refine (exec_art hop _ w c0 (arith_sg g n F _ _ _ _ _ _ _ w h  rfl hn16 v (fun W hm => hyes W hm hc0) vr.1 vr.2 ro op rfl hsg)).mono ?_
    rintro e w' ⟨rfl, hM, hC⟩
    unfold arO
    rw [if_neg hpr, if_neg (by simp [hc0]), if_neg hld, if_pos hsg]
    exact ends_ok rfl rfl hM hC (by simp)
  by_cases hadd : op = 26 ∨ op = 90 ∨ op = 74
  · refine (exec_art hop _ w c0 (arith_add g n F _ _ _ _ _ _ _ w h  rfl hn16 v (fun W hm => hyes W hm hc0) vr.1 vr.2 ro op rfl hadd)).mono ?_
    rintro e w' ⟨rfl, hM, hC⟩
    unfold arO
    rw [if_neg hpr, if_neg (by simp [hc0]), if_neg hld, if_neg hsg, if_pos hadd]
    exact ends_ok rfl rfl hM hC (by simp)
  by_cases hsub : op = 27 ∨ op = 91 ∨ op = 75
  · refine (exec_art hop _ w c0 (arith_sub g n F _ _ _ _ _ _ _ w h  rfl hn16 v (fun W hm => hyes W hm hc0) vr.1 vr.2 ro op rfl hsub)).mono ?_
    rintro e w' ⟨rfl, hM, hC⟩
    unfold arO
    rw [if_neg hpr, if_neg (by simp [hc0]), if_neg hld, if_neg hsg, if_neg hadd, if_pos hsub]
    exact ends_ok rfl rfl hM hC (by simp)
  by_cases haddl : op = 30 ∨ op = 94
  · refine (exec_art hop _ w c0 (arith_addl g n F _ _ _ _ _ _ _ w h  rfl hn16 v (fun W hm => hyes W hm hc0) vr.1 vr.2 ro op rfl haddl)).mono ?_
    rintro e w' ⟨rfl, hM, hC⟩
    unfold arO
    rw [if_neg hpr, if_neg (by simp [hc0]), if_neg hld, if_neg hsg, if_neg hadd, if_neg hsub, if_pos haddl]
    exact ends_ok rfl rfl hM hC (by simp)
  by_cases hsubl : op = 31 ∨ op = 95
  · refine (exec_art hop _ w c0 (arith_subl g n F _ _ _ _ _ _ _ w h  rfl hn16 v (fun W hm => hyes W hm hc0) vr.1 vr.2 ro op rfl hsubl)).mono ?_
    rintro e w' ⟨rfl, hM, hC⟩
    unfold arO
    rw [if_neg hpr, if_neg (by simp [hc0]), if_neg hld, if_neg hsg, if_neg hadd, if_neg hsub, if_neg haddl, if_pos hsubl]
    exact ends_ok rfl rfl hM hC (by simp)
  by_cases hcmp : op = 25 ∨ op = 89 ∨ op = 73
  · refine (exec_art hop _ w c0 (arith_cmp g n F _ _ _ _ _ _ _ w h  rfl hn16 v (fun W hm => hyes W hm hc0) vr.1 vr.2 ro op rfl hcmp)).mono ?_
    rintro e w' ⟨rfl, hM, hC⟩
    unfold arO
    rw [if_neg hpr, if_neg (by simp [hc0]), if_neg hld, if_neg hsg, if_neg hadd, if_neg hsub, if_neg haddl, if_neg hsubl, if_pos hcmp]
    exact ends_ok rfl rfl hM hC (by simp)
  by_cases hcmpl : op = 21 ∨ op = 85
  · refine (exec_art hop _ w c0 (arith_cmpl g n F _ _ _ _ _ _ _ w h  rfl hn16 v (fun W hm => hyes W hm hc0) vr.1 vr.2 ro op rfl hcmpl)).mono ?_
    rintro e w' ⟨rfl, hM, hC⟩
    unfold arO
    rw [if_neg hpr, if_neg (by simp [hc0]), if_neg hld, if_neg hsg, if_neg hadd, if_neg hsub, if_neg haddl, if_neg hsubl, if_neg hcmp, if_pos hcmpl]
    exact ends_ok rfl rfl hM hC (by simp)
  by_cases hand : op = 20 ∨ op = 84
  · refine (exec_art hop _ w c0 (arith_and g n F _ _ _ _ _ _ _ w h  rfl hn16 v (fun W hm => hyes W hm hc0) vr.1 vr.2 ro op rfl hand)).mono ?_
    rintro e w' ⟨rfl, hM, hC⟩
    unfold arO
    rw [if_neg hpr, if_neg (by simp [hc0]), if_neg hld, if_neg hsg, if_neg hadd, if_neg hsub, if_neg haddl, if_neg hsubl, if_neg hcmp, if_neg hcmpl, if_pos hand]
    exact ends_ok rfl rfl hM hC (by simp)
  by_cases hor : op = 22 ∨ op = 86
  · refine (exec_art hop _ w c0 (arith_or g n F _ _ _ _ _ _ _ w h  rfl hn16 v (fun W hm => hyes W hm hc0) vr.1 vr.2 ro op rfl hor)).mono ?_
    rintro e w' ⟨rfl, hM, hC⟩
    unfold arO
    rw [if_neg hpr, if_neg (by simp [hc0]), if_neg hld, if_neg hsg, if_neg hadd, if_neg hsub, if_neg haddl, if_neg hsubl, if_neg hcmp, if_neg hcmpl, if_neg hand, if_pos hor]
    exact ends_ok rfl rfl hM hC (by simp)
  by_cases hxor : op = 23 ∨ op = 87
  · refine (exec_art hop _ w c0 (arith_xor g n F _ _ _ _ _ _ _ w h  rfl hn16 v (fun W hm => hyes W hm hc0) vr.1 vr.2 ro op rfl hxor)).mono ?_
    rintro e w' ⟨rfl, hM, hC⟩
    unfold arO
    rw [if_neg hpr, if_neg (by simp [hc0]), if_neg hld, if_neg hsg, if_neg hadd, if_neg hsub, if_neg haddl, if_neg hsubl, if_neg hcmp, if_neg hcmpl, if_neg hand, if_neg hor, if_pos hxor]
    exact ends_ok rfl rfl hM hC (by simp)
  refine (exec_art hop _ w c0 (arith_mh g n F _ _ _ _ _ _ _ w h  rfl hn16 v (fun W hm => hyes W hm hc0) vr.1 vr.2 ro op rfl (by omega))).mono ?_
  rintro e w' ⟨rfl, hM, hC⟩
  unfold arO
  rw [if_neg hpr, if_neg (by simp [hc0]), if_neg hld, if_neg hsg, if_neg hadd, if_neg hsub, if_neg haddl, if_neg hsubl, if_neg hcmp, if_neg hcmpl, if_neg hand, if_neg hor, if_neg hxor]
  exact ends_ok rfl rfl hM hC (by simp)
theorem kn_mem {op : Int} (h : kn op = true) : op ∈ knL := of_decide_eq_true h
theorem kn_grp : ∀ op ∈ knL, (op = 4 ∨ op = 5 ∨ op = 6 ∨ op = 7 ∨ op = 69 ∨ op = 70 ∨ op = 71 ∨ op = 134 ∨ op = 135) ∨ (136 ≤ op ∧ op ≤ 143) ∨ op = 65 ∨ op = 64 ∨ op = 66 ∨ op = 67 ∨ op = 80 ∨ op = 144 ∨ op = 152 ∨ (145 ≤ op ∧ op ≤ 151) ∨ op = 209 ∨ op = 210 ∨ op = 211 ∨ op = 212 ∨ op = 213 ∨ op = 214 ∨ op = 215 ∨ op = 220 ∨ op = 221 ∨ op = 28 ∨ op = 29 ∨ op = 92 ∨ op = 93 ∨ (((16 ≤ op ∧ op ≤ 31) ∨ (72 ≤ op ∧ op ≤ 76) ∨ (84 ≤ op ∧ op ≤ 95)) ∧ ¬ (op = 28 ∨ op = 29 ∨ op = 92 ∨ op = 93)) := by decide +kernel
theorem kn_fm : ∀ op ∈ knL, (op = 4 ∧ fmOf op = 8) ∨ (op ≠ 4 ∧ op < 64 ∧ fmOf op = 1) ∨ (64 ≤ op ∧ fmOf op ≠ 1) := by decide +kernel
set_option maxRecDepth 1000000 in
set_option maxHeartbeats 8000000 in
theorem exec_gall (g n k x2 b1 b2 l1 : Nat) (F : Foot) (op fm d1 d2 l2 i2 : Int) (m key : Int) (M W P : Bool) (cd il cc pg ad : Int) (os bs ks : List Int) (w : World) (h : MS w g F (isL op fm n k x2 b1 d1 b2 d2 l1 l2 i2) os os (psL m key M W P cd il cc pg ad) false bs ks) (ro : ∀ z ∈ os, 0 ≤ z ∧ z ≤ 4294967295) (hn16 : n < 16) (hk16 : k < 16) (hx16 : x2 < 16) (hb116 : b1 < 16) (hb216 : b2 < 16) (hl1 : l1 < 256) (hd1 : 0 ≤ d1 ∧ d1 < 4096) (hd2 : 0 ≤ d2 ∧ d2 < 4096) (hi2 : 0 ≤ i2 ∧ i2 < 256) (a1 a : Int) (ha1 : (d1 + sumB os [b1]) % 16777216 = a1) (ha : (d2 + sumB os [b2, x2]) % 16777216 = a) (hps : pok m key cd il cc pg ad = true) (hkn : kn op = true) (hfo : fmOf op = fm) : Calls Try.prog 31 #[.pointer (some ⟨g, 0, none⟩)] w (Ends g F (isL op fm n k x2 b1 d1 b2 d2 l1 l2 i2) os m key M W P cd il bs ks (exO (⟨os, key, il, cc, pg, ad, bs, ks⟩ : Pre) op fm n k a1 a l1 i2) w) := by
  have hfm : op ≠ 4 → (fm = 1 ↔ op < 64) := by
    have := kn_fm op (kn_mem hkn)
    rw [hfo] at this
    omega
  rcases kn_grp op (kn_mem hkn) with hg | hg | hg | hg | hg | hg | hg | hg | hg | hg | hg | hg | hg | hg | hg | hg | hg | hg | hg | hg | hg | hg | hg | ⟨hg, hg2⟩
  · exact exec_gb g n k x2 b1 b2 l1 F op fm d1 d2 l2 i2 m key M W P cd il cc pg ad os bs ks w h ro hn16 hk16 hx16 hb116 hb216 hl1 hd1 hd2 hi2 a1 a ha1 ha hps hg hfm
  · exact exec_gs g n k x2 b1 b2 l1 F op fm d1 d2 l2 i2 m key M W P cd il cc pg ad os bs ks w h ro hn16 hk16 hx16 hb116 hb216 hl1 hd1 hd2 hi2 a1 a ha1 ha hg
  · exact exec_gla g n k x2 b1 b2 l1 F op fm d1 d2 l2 i2 m key M W P cd il cc pg ad os bs ks w h ro hn16 hk16 hx16 hb116 hb216 hl1 hd1 hd2 hi2 a1 a ha1 ha hg
  · exact exec_gm64 g n k x2 b1 b2 l1 F op fm d1 d2 l2 i2 m key M W P cd il cc pg ad os bs ks w h ro hn16 hk16 hx16 hb116 hb216 hl1 hd1 hd2 hi2 a1 a ha1 ha hg
  · exact exec_gm66 g n k x2 b1 b2 l1 F op fm d1 d2 l2 i2 m key M W P cd il cc pg ad os bs ks w h ro hn16 hk16 hx16 hb116 hb216 hl1 hd1 hd2 hi2 a1 a ha1 ha hg
  · exact exec_gm67 g n k x2 b1 b2 l1 F op fm d1 d2 l2 i2 m key M W P cd il cc pg ad os bs ks w h ro hn16 hk16 hx16 hb116 hb216 hl1 hd1 hd2 hi2 a1 a ha1 ha hg
  · exact exec_gm80 g n k x2 b1 b2 l1 F op fm d1 d2 l2 i2 m key M W P cd il cc pg ad os bs ks w h ro hn16 hk16 hx16 hb116 hb216 hl1 hd1 hd2 hi2 a1 a ha1 ha hg
  · exact exec_gm144 g n k x2 b1 b2 l1 F op fm d1 d2 l2 i2 m key M W P cd il cc pg ad os bs ks w h ro hn16 hk16 hx16 hb116 hb216 hl1 hd1 hd2 hi2 a1 a ha1 ha hg
  · exact exec_gm152 g n k x2 b1 b2 l1 F op fm d1 d2 l2 i2 m key M W P cd il cc pg ad os bs ks w h ro hn16 hk16 hx16 hb116 hb216 hl1 hd1 hd2 hi2 a1 a ha1 ha hg
  · exact exec_gi g n k x2 b1 b2 l1 F op fm d1 d2 l2 i2 m key M W P cd il cc pg ad os bs ks w h ro hn16 hk16 hx16 hb116 hb216 hl1 hd1 hd2 hi2 a1 a ha1 ha hg
  · exact exec_gl209 g n k x2 b1 b2 l1 F op fm d1 d2 l2 i2 m key M W P cd il cc pg ad os bs ks w h ro hn16 hk16 hx16 hb116 hb216 hl1 hd1 hd2 hi2 a1 a ha1 ha hg
  · exact exec_gl210 g n k x2 b1 b2 l1 F op fm d1 d2 l2 i2 m key M W P cd il cc pg ad os bs ks w h ro hn16 hk16 hx16 hb116 hb216 hl1 hd1 hd2 hi2 a1 a ha1 ha hg
  · exact exec_gl211 g n k x2 b1 b2 l1 F op fm d1 d2 l2 i2 m key M W P cd il cc pg ad os bs ks w h ro hn16 hk16 hx16 hb116 hb216 hl1 hd1 hd2 hi2 a1 a ha1 ha hg
  · exact exec_gl212 g n k x2 b1 b2 l1 F op fm d1 d2 l2 i2 m key M W P cd il cc pg ad os bs ks w h ro hn16 hk16 hx16 hb116 hb216 hl1 hd1 hd2 hi2 a1 a ha1 ha hg
  · exact exec_gl213 g n k x2 b1 b2 l1 F op fm d1 d2 l2 i2 m key M W P cd il cc pg ad os bs ks w h ro hn16 hk16 hx16 hb116 hb216 hl1 hd1 hd2 hi2 a1 a ha1 ha hg
  · exact exec_gl214 g n k x2 b1 b2 l1 F op fm d1 d2 l2 i2 m key M W P cd il cc pg ad os bs ks w h ro hn16 hk16 hx16 hb116 hb216 hl1 hd1 hd2 hi2 a1 a ha1 ha hg
  · exact exec_gl215 g n k x2 b1 b2 l1 F op fm d1 d2 l2 i2 m key M W P cd il cc pg ad os bs ks w h ro hn16 hk16 hx16 hb116 hb216 hl1 hd1 hd2 hi2 a1 a ha1 ha hg
  · exact exec_gl220 g n k x2 b1 b2 l1 F op fm d1 d2 l2 i2 m key M W P cd il cc pg ad os bs ks w h ro hn16 hk16 hx16 hb116 hb216 hl1 hd1 hd2 hi2 a1 a ha1 ha hg
  · exact exec_gl221 g n k x2 b1 b2 l1 F op fm d1 d2 l2 i2 m key M W P cd il cc pg ad os bs ks w h ro hn16 hk16 hx16 hb116 hb216 hl1 hd1 hd2 hi2 a1 a ha1 ha hg
  · exact exec_gp28 g n k x2 b1 b2 l1 F op fm d1 d2 l2 i2 m key M W P cd il cc pg ad os bs ks w h ro hn16 hk16 hx16 hb116 hb216 hl1 hd1 hd2 hi2 a1 a ha1 ha hg
  · exact exec_gp29 g n k x2 b1 b2 l1 F op fm d1 d2 l2 i2 m key M W P cd il cc pg ad os bs ks w h ro hn16 hk16 hx16 hb116 hb216 hl1 hd1 hd2 hi2 a1 a ha1 ha hg
  · exact exec_gp92 g n k x2 b1 b2 l1 F op fm d1 d2 l2 i2 m key M W P cd il cc pg ad os bs ks w h ro hn16 hk16 hx16 hb116 hb216 hl1 hd1 hd2 hi2 a1 a ha1 ha hg
  · exact exec_gp93 g n k x2 b1 b2 l1 F op fm d1 d2 l2 i2 m key M W P cd il cc pg ad os bs ks w h ro hn16 hk16 hx16 hb116 hb216 hl1 hd1 hd2 hi2 a1 a ha1 ha hg
  · exact exec_ga g n k x2 b1 b2 l1 F op fm d1 d2 l2 i2 m key M W P cd il cc pg ad os bs ks w h ro hn16 hk16 hx16 hb116 hb216 hl1 hd1 hd2 hi2 a1 a ha1 ha hg hg2
end Go.Proofs.Ythjdjbipfdigeaa

namespace Go.Proofs.Ythjdjbipfdigeaa
open Go.RowKit
set_option maxRecDepth 100000
set_option linter.unusedVariables false
set_option linter.unusedSimpArgs false
set_option maxRecDepth 1000000 in
set_option maxHeartbeats 4000000 in
theorem Exec_under (op fm r1 r2 x2 b1 d1 b2 d2 l1 l2 i2 : Int) (a0 a1 a2 a3 a4 a5 a6 a7 a8 a9 a10 a11 a12 a13 a14 a15 : Int) (pm pk : Int) (pM pW pP : Bool) (pc pi pq pg pa : Int) (sg : Nat) (L : List Nat) (R : World → Prop) (n0 n1 n2 n3 n4 n5 n6 n7 n8 n9 n10 n11 n12 n13 n14 n15 : Int) (vm vk : Int) (vM vW vP : Bool) (vc vi vq vg va : Int) (ov : Bool) (w : World) (hkn : kn op = true) (hck : chk op fm [op, fm, r1, r2, x2, b1, d1, b2, d2, l1, l2, i2] = 0) (hv : pok pm pk pc pi pq pg pa = true) (hL : ∀ k, k ∈ L → k < w.heap.size) (hR : ∀ W W', R W → Below w.heap.size W W' → R W') (hex : ∀ (g : Nat) (W : World), w.heap.size ≤ g → Below w.heap.size w W → Mc W g [op, fm, r1, r2, x2, b1, d1, b2, d2, l1, l2, i2] [a0, a1, a2, a3, a4, a5, a6, a7, a8, a9, a10, a11, a12, a13, a14, a15] [a0, a1, a2, a3, a4, a5, a6, a7, a8, a9, a10, a11, a12, a13, a14, a15] [.int .i64 pm, .int .i64 pk, .bool pM, .bool pW, .bool pP, .int .i64 pc, .int .i64 pi, .int .i64 pq, .int .i64 pg, .int .i64 pa] (.pointer (some ⟨sg, 0, none⟩)) false → Calls Try.prog 31 #[.pointer (some ⟨g, 0, none⟩)] W fun e w' => e = .returned (.tuple #[]) ∧ Mc w' g [op, fm, r1, r2, x2, b1, d1, b2, d2, l1, l2, i2] [a0, a1, a2, a3, a4, a5, a6, a7, a8, a9, a10, a11, a12, a13, a14, a15] [n0, n1, n2, n3, n4, n5, n6, n7, n8, n9, n10, n11, n12, n13, n14, n15] [(.int .i64 vm), (.int .i64 vk), (.bool vM), (.bool vW), (.bool vP), (.int .i64 vc), (.int .i64 vi), (.int .i64 vq), (.int .i64 vg), (.int .i64 va)] (.pointer (some ⟨sg, 0, none⟩)) ov ∧ Ch W w' (g :: L) ∧ R w') (ho : ov = true) (h8 : bits .and .i64 pg 8 = 0) : Calls Try.prog 14 #[.agg #[.int .i64 op, .int .i64 fm, .int .i64 r1, .int .i64 r2, .int .i64 x2, .int .i64 b1, .int .i64 d1, .int .i64 b2, .int .i64 d2, .int .i64 l1, .int .i64 l2, .int .i64 i2], .agg #[.int .u32 a0, .int .u32 a1, .int .u32 a2, .int .u32 a3, .int .u32 a4, .int .u32 a5, .int .u32 a6, .int .u32 a7, .int .u32 a8, .int .u32 a9, .int .u32 a10, .int .u32 a11, .int .u32 a12, .int .u32 a13, .int .u32 a14, .int .u32 a15], .agg #[.int .i64 pm, .int .i64 pk, .bool pM, .bool pW, .bool pP, .int .i64 pc, .int .i64 pi, .int .i64 pq, .int .i64 pg, .int .i64 pa], .pointer (some ⟨sg, 0, none⟩)] w fun e w' => e = .returned (.tuple #[.agg #[.int .u32 n0, .int .u32 n1, .int .u32 n2, .int .u32 n3, .int .u32 n4, .int .u32 n5, .int .u32 n6, .int .u32 n7, .int .u32 n8, .int .u32 n9, .int .u32 n10, .int .u32 n11, .int .u32 n12, .int .u32 n13, .int .u32 n14, .int .u32 n15], .agg #[(.int .i64 vm), (.int .i64 vk), (.bool vM), (.bool vW), (.bool vP), (.int .i64 vc), (.int .i64 vi), (.int .i64 vq), (.int .i64 vg), (.int .i64 va)], .int .i64 0]) ∧ R w' ∧ Ch w w' L := by
  have hmf : ∀ (fn : Fn) (first cap : Array Value) (w : World), (Instr.makeFunc fn first cap).run Try.prog w = .ok (.func fn first cap) w := fun _ _ _ _ => rfl
  have KC := Lib.hid (fun W => knows_c op W)
  rw [hkn] at KC
  have CC := Lib.hid (fun W => icheck_c op fm r1 r2 x2 b1 d1 b2 d2 l1 l2 i2 W)
  rw [hck] at CC
  have VC := Lib.hid (fun W => valid_c pm pk pM pW pP pc pi pq pg pa W)
  rw [hv] at VC
  subst ho
  have e8 : ((0 : Int) != 0) = false := by decide
  have HX := Lib.hid hex
  have HLL := Lib.hid hL
  have HRR := Lib.hid hR
  clear hkn hck hv hex hL hR
  go_enter_defers Try.func14, Try.ntmps14
  go_upto_region 1 with fail
  have X0 := Lib.hid (show XF w ((((((w.alloc (.cells #[.int .i64 op, .int .i64 fm, .int .i64 r1, .int .i64 r2, .int .i64 x2, .int .i64 b1, .int .i64 d1, .int .i64 b2, .int .i64 d2, .int .i64 l1, .int .i64 l2, .int .i64 i2] 25)).alloc (.cells #[.int .u32 a0, .int .u32 a1, .int .u32 a2, .int .u32 a3, .int .u32 a4, .int .u32 a5, .int .u32 a6, .int .u32 a7, .int .u32 a8, .int .u32 a9, .int .u32 a10, .int .u32 a11, .int .u32 a12, .int .u32 a13, .int .u32 a14, .int .u32 a15] 28)).alloc (.cells #[.int .i64 pm, .int .i64 pk, .bool pM, .bool pW, .bool pP, .int .i64 pc, .int .i64 pi, .int .i64 pq, .int .i64 pg, .int .i64 pa] 30)).alloc (.cells #[.int .u32 0, .int .u32 0, .int .u32 0, .int .u32 0, .int .u32 0, .int .u32 0, .int .u32 0, .int .u32 0, .int .u32 0, .int .u32 0, .int .u32 0, .int .u32 0, .int .u32 0, .int .u32 0, .int .u32 0, .int .u32 0] 28)).alloc (.cells #[.int .i64 0, .int .i64 0, .bool false, .bool false, .bool false, .int .i64 0, .int .i64 0, .int .i64 0, .int .i64 0, .int .i64 0] 30)).alloc (.cells #[.int .i64 0] 3)) [] [op, fm, r1, r2, x2, b1, d1, b2, d2, l1, l2, i2] [a0, a1, a2, a3, a4, a5, a6, a7, a8, a9, a10, a11, a12, a13, a14, a15] [.int .i64 pm, .int .i64 pk, .bool pM, .bool pW, .bool pP, .int .i64 pc, .int .i64 pi, .int .i64 pq, .int .i64 pg, .int .i64 pa] [.int .u32 0, .int .u32 0, .int .u32 0, .int .u32 0, .int .u32 0, .int .u32 0, .int .u32 0, .int .u32 0, .int .u32 0, .int .u32 0, .int .u32 0, .int .u32 0, .int .u32 0, .int .u32 0, .int .u32 0, .int .u32 0] [.int .i64 0, .int .i64 0, .bool false, .bool false, .bool false, .int .i64 0, .int .i64 0, .int .i64 0, .int .i64 0, .int .i64 0] (.int .i64 0) from XF.start w [] [op, fm, r1, r2, x2, b1, d1, b2, d2, l1, l2, i2] [a0, a1, a2, a3, a4, a5, a6, a7, a8, a9, a10, a11, a12, a13, a14, a15] [.int .i64 pm, .int .i64 pk, .bool pM, .bool pW, .bool pP, .int .i64 pc, .int .i64 pi, .int .i64 pq, .int .i64 pg, .int .i64 pa] [.int .u32 0, .int .u32 0, .int .u32 0, .int .u32 0, .int .u32 0, .int .u32 0, .int .u32 0, .int .u32 0, .int .u32 0, .int .u32 0, .int .u32 0, .int .u32 0, .int .u32 0, .int .u32 0, .int .u32 0, .int .u32 0] [.int .i64 0, .int .i64 0, .bool false, .bool false, .bool false, .int .i64 0, .int .i64 0, .int .i64 0, .int .i64 0, .int .i64 0] (.int .i64 0))
  obtain ⟨W0, hW0⟩ : ∃ W0, ((((((w.alloc (.cells #[.int .i64 op, .int .i64 fm, .int .i64 r1, .int .i64 r2, .int .i64 x2, .int .i64 b1, .int .i64 d1, .int .i64 b2, .int .i64 d2, .int .i64 l1, .int .i64 l2, .int .i64 i2] 25)).alloc (.cells #[.int .u32 a0, .int .u32 a1, .int .u32 a2, .int .u32 a3, .int .u32 a4, .int .u32 a5, .int .u32 a6, .int .u32 a7, .int .u32 a8, .int .u32 a9, .int .u32 a10, .int .u32 a11, .int .u32 a12, .int .u32 a13, .int .u32 a14, .int .u32 a15] 28)).alloc (.cells #[.int .i64 pm, .int .i64 pk, .bool pM, .bool pW, .bool pP, .int .i64 pc, .int .i64 pi, .int .i64 pq, .int .i64 pg, .int .i64 pa] 30)).alloc (.cells #[.int .u32 0, .int .u32 0, .int .u32 0, .int .u32 0, .int .u32 0, .int .u32 0, .int .u32 0, .int .u32 0, .int .u32 0, .int .u32 0, .int .u32 0, .int .u32 0, .int .u32 0, .int .u32 0, .int .u32 0, .int .u32 0] 28)).alloc (.cells #[.int .i64 0, .int .i64 0, .bool false, .bool false, .bool false, .int .i64 0, .int .i64 0, .int .i64 0, .int .i64 0, .int .i64 0] 30)).alloc (.cells #[.int .i64 0] 3)) = W0 := ⟨_, rfl⟩
  rw [hW0] at X0
  try rw [hW0]
  clear hW0
  have hb0 : W0.cell? ⟨w.heap.size, 0, none⟩ = some (.int .i64 op) := X0.out.b0.cell (c := 0) rfl
  go_upto_region 3 with (first
    | (go_at_call 11; refine (KC.out _).mono ?_; rintro e w1 ⟨rfl, nk, hw1⟩; have X1 := Lib.hid (X0.out.keep (below_of_drew hw1)); clear hw1; have ka0 : w1.cell? ⟨w.heap.size, 0, none⟩ = some (.int .i64 op) := X1.out.b0.cell (c := 0) rfl; have ka1 : w1.cell? ⟨w.heap.size, 1, none⟩ = some (.int .i64 fm) := X1.out.b0.cell (c := 1) rfl; have ka2 : w1.cell? ⟨w.heap.size, 2, none⟩ = some (.int .i64 r1) := X1.out.b0.cell (c := 2) rfl; have ka3 : w1.cell? ⟨w.heap.size, 3, none⟩ = some (.int .i64 r2) := X1.out.b0.cell (c := 3) rfl; have ka4 : w1.cell? ⟨w.heap.size, 4, none⟩ = some (.int .i64 x2) := X1.out.b0.cell (c := 4) rfl; have ka5 : w1.cell? ⟨w.heap.size, 5, none⟩ = some (.int .i64 b1) := X1.out.b0.cell (c := 5) rfl; have ka6 : w1.cell? ⟨w.heap.size, 6, none⟩ = some (.int .i64 d1) := X1.out.b0.cell (c := 6) rfl; have ka7 : w1.cell? ⟨w.heap.size, 7, none⟩ = some (.int .i64 b2) := X1.out.b0.cell (c := 7) rfl; have ka8 : w1.cell? ⟨w.heap.size, 8, none⟩ = some (.int .i64 d2) := X1.out.b0.cell (c := 8) rfl; have ka9 : w1.cell? ⟨w.heap.size, 9, none⟩ = some (.int .i64 l1) := X1.out.b0.cell (c := 9) rfl; have ka10 : w1.cell? ⟨w.heap.size, 10, none⟩ = some (.int .i64 l2) := X1.out.b0.cell (c := 10) rfl; have ka11 : w1.cell? ⟨w.heap.size, 11, none⟩ = some (.int .i64 i2) := X1.out.b0.cell (c := 11) rfl)
    | (go_at_call 28; refine (CC.out _).mono ?_; rintro e w2 ⟨rfl, hb⟩; have X2 := Lib.hid (X1.out.keep hb); clear hb; have kb0 : w2.cell? ⟨w.heap.size + 1 + 1, 0, none⟩ = some (.int .i64 pm) := X2.out.b2.cell (c := 0) rfl; have kb1 : w2.cell? ⟨w.heap.size + 1 + 1, 1, none⟩ = some (.int .i64 pk) := X2.out.b2.cell (c := 1) rfl; have kb2 : w2.cell? ⟨w.heap.size + 1 + 1, 2, none⟩ = some (.bool pM) := X2.out.b2.cell (c := 2) rfl; have kb3 : w2.cell? ⟨w.heap.size + 1 + 1, 3, none⟩ = some (.bool pW) := X2.out.b2.cell (c := 3) rfl; have kb4 : w2.cell? ⟨w.heap.size + 1 + 1, 4, none⟩ = some (.bool pP) := X2.out.b2.cell (c := 4) rfl; have kb5 : w2.cell? ⟨w.heap.size + 1 + 1, 5, none⟩ = some (.int .i64 pc) := X2.out.b2.cell (c := 5) rfl; have kb6 : w2.cell? ⟨w.heap.size + 1 + 1, 6, none⟩ = some (.int .i64 pi) := X2.out.b2.cell (c := 6) rfl; have kb7 : w2.cell? ⟨w.heap.size + 1 + 1, 7, none⟩ = some (.int .i64 pq) := X2.out.b2.cell (c := 7) rfl; have kb8 : w2.cell? ⟨w.heap.size + 1 + 1, 8, none⟩ = some (.int .i64 pg) := X2.out.b2.cell (c := 8) rfl; have kb9 : w2.cell? ⟨w.heap.size + 1 + 1, 9, none⟩ = some (.int .i64 pa) := X2.out.b2.cell (c := 9) rfl)
    | (go_at_call 29; refine (VC.out _).mono ?_; rintro e W ⟨rfl, hb⟩; have X3 := Lib.hid (X2.out.keep hb); clear hb))
  clear X0 X1 X2 hb0 ka0 ka1 ka2 ka3 ka4 ka5 ka6 ka7 ka8 ka9 ka10 ka11 kb0 kb1 kb2 kb3 kb4 kb5 kb6 kb7 kb8 kb9
  have ka0 : W.cell? ⟨w.heap.size, 0, none⟩ = some (.int .i64 op) := X3.out.b0.cell (c := 0) rfl
  have ka1 : W.cell? ⟨w.heap.size, 1, none⟩ = some (.int .i64 fm) := X3.out.b0.cell (c := 1) rfl
  have ka2 : W.cell? ⟨w.heap.size, 2, none⟩ = some (.int .i64 r1) := X3.out.b0.cell (c := 2) rfl
  have ka3 : W.cell? ⟨w.heap.size, 3, none⟩ = some (.int .i64 r2) := X3.out.b0.cell (c := 3) rfl
  have ka4 : W.cell? ⟨w.heap.size, 4, none⟩ = some (.int .i64 x2) := X3.out.b0.cell (c := 4) rfl
  have ka5 : W.cell? ⟨w.heap.size, 5, none⟩ = some (.int .i64 b1) := X3.out.b0.cell (c := 5) rfl
  have ka6 : W.cell? ⟨w.heap.size, 6, none⟩ = some (.int .i64 d1) := X3.out.b0.cell (c := 6) rfl
  have ka7 : W.cell? ⟨w.heap.size, 7, none⟩ = some (.int .i64 b2) := X3.out.b0.cell (c := 7) rfl
  have ka8 : W.cell? ⟨w.heap.size, 8, none⟩ = some (.int .i64 d2) := X3.out.b0.cell (c := 8) rfl
  have ka9 : W.cell? ⟨w.heap.size, 9, none⟩ = some (.int .i64 l1) := X3.out.b0.cell (c := 9) rfl
  have ka10 : W.cell? ⟨w.heap.size, 10, none⟩ = some (.int .i64 l2) := X3.out.b0.cell (c := 10) rfl
  have ka11 : W.cell? ⟨w.heap.size, 11, none⟩ = some (.int .i64 i2) := X3.out.b0.cell (c := 11) rfl
  have kc0 : W.cell? ⟨w.heap.size + 1, 0, none⟩ = some (.int .u32 a0) := X3.out.b1.cell (c := 0) rfl
  have kc1 : W.cell? ⟨w.heap.size + 1, 1, none⟩ = some (.int .u32 a1) := X3.out.b1.cell (c := 1) rfl
  have kc2 : W.cell? ⟨w.heap.size + 1, 2, none⟩ = some (.int .u32 a2) := X3.out.b1.cell (c := 2) rfl
  have kc3 : W.cell? ⟨w.heap.size + 1, 3, none⟩ = some (.int .u32 a3) := X3.out.b1.cell (c := 3) rfl
  have kc4 : W.cell? ⟨w.heap.size + 1, 4, none⟩ = some (.int .u32 a4) := X3.out.b1.cell (c := 4) rfl
  have kc5 : W.cell? ⟨w.heap.size + 1, 5, none⟩ = some (.int .u32 a5) := X3.out.b1.cell (c := 5) rfl
  have kc6 : W.cell? ⟨w.heap.size + 1, 6, none⟩ = some (.int .u32 a6) := X3.out.b1.cell (c := 6) rfl
  have kc7 : W.cell? ⟨w.heap.size + 1, 7, none⟩ = some (.int .u32 a7) := X3.out.b1.cell (c := 7) rfl
  have kc8 : W.cell? ⟨w.heap.size + 1, 8, none⟩ = some (.int .u32 a8) := X3.out.b1.cell (c := 8) rfl
  have kc9 : W.cell? ⟨w.heap.size + 1, 9, none⟩ = some (.int .u32 a9) := X3.out.b1.cell (c := 9) rfl
  have kc10 : W.cell? ⟨w.heap.size + 1, 10, none⟩ = some (.int .u32 a10) := X3.out.b1.cell (c := 10) rfl
  have kc11 : W.cell? ⟨w.heap.size + 1, 11, none⟩ = some (.int .u32 a11) := X3.out.b1.cell (c := 11) rfl
  have kc12 : W.cell? ⟨w.heap.size + 1, 12, none⟩ = some (.int .u32 a12) := X3.out.b1.cell (c := 12) rfl
  have kc13 : W.cell? ⟨w.heap.size + 1, 13, none⟩ = some (.int .u32 a13) := X3.out.b1.cell (c := 13) rfl
  have kc14 : W.cell? ⟨w.heap.size + 1, 14, none⟩ = some (.int .u32 a14) := X3.out.b1.cell (c := 14) rfl
  have kc15 : W.cell? ⟨w.heap.size + 1, 15, none⟩ = some (.int .u32 a15) := X3.out.b1.cell (c := 15) rfl
  have kb0 : W.cell? ⟨w.heap.size + 1 + 1, 0, none⟩ = some (.int .i64 pm) := X3.out.b2.cell (c := 0) rfl
  have kb1 : W.cell? ⟨w.heap.size + 1 + 1, 1, none⟩ = some (.int .i64 pk) := X3.out.b2.cell (c := 1) rfl
  have kb2 : W.cell? ⟨w.heap.size + 1 + 1, 2, none⟩ = some (.bool pM) := X3.out.b2.cell (c := 2) rfl
  have kb3 : W.cell? ⟨w.heap.size + 1 + 1, 3, none⟩ = some (.bool pW) := X3.out.b2.cell (c := 3) rfl
  have kb4 : W.cell? ⟨w.heap.size + 1 + 1, 4, none⟩ = some (.bool pP) := X3.out.b2.cell (c := 4) rfl
  have kb5 : W.cell? ⟨w.heap.size + 1 + 1, 5, none⟩ = some (.int .i64 pc) := X3.out.b2.cell (c := 5) rfl
  have kb6 : W.cell? ⟨w.heap.size + 1 + 1, 6, none⟩ = some (.int .i64 pi) := X3.out.b2.cell (c := 6) rfl
  have kb7 : W.cell? ⟨w.heap.size + 1 + 1, 7, none⟩ = some (.int .i64 pq) := X3.out.b2.cell (c := 7) rfl
  have kb8 : W.cell? ⟨w.heap.size + 1 + 1, 8, none⟩ = some (.int .i64 pg) := X3.out.b2.cell (c := 8) rfl
  have kb9 : W.cell? ⟨w.heap.size + 1 + 1, 9, none⟩ = some (.int .i64 pa) := X3.out.b2.cell (c := 9) rfl
  go_upto_region 5 with fail
  clear ka0 ka1 ka2 ka3 ka4 ka5 ka6 ka7 ka8 ka9 ka10 ka11 kc0 kc1 kc2 kc3 kc4 kc5 kc6 kc7 kc8 kc9 kc10 kc11 kc12 kc13 kc14 kc15 kb0 kb1 kb2 kb3 kb4 kb5 kb6 kb7 kb8 kb9
  have M4 : Hid (Mc (W.alloc (.cells #[.int .i64 op, .int .i64 fm, .int .i64 r1, .int .i64 r2, .int .i64 x2, .int .i64 b1, .int .i64 d1, .int .i64 b2, .int .i64 d2, .int .i64 l1, .int .i64 l2, .int .i64 i2, .int .u32 a0, .int .u32 a1, .int .u32 a2, .int .u32 a3, .int .u32 a4, .int .u32 a5, .int .u32 a6, .int .u32 a7, .int .u32 a8, .int .u32 a9, .int .u32 a10, .int .u32 a11, .int .u32 a12, .int .u32 a13, .int .u32 a14, .int .u32 a15, .int .u32 a0, .int .u32 a1, .int .u32 a2, .int .u32 a3, .int .u32 a4, .int .u32 a5, .int .u32 a6, .int .u32 a7, .int .u32 a8, .int .u32 a9, .int .u32 a10, .int .u32 a11, .int .u32 a12, .int .u32 a13, .int .u32 a14, .int .u32 a15, .int .i64 pm, .int .i64 pk, .bool pM, .bool pW, .bool pP, .int .i64 pc, .int .i64 pi, .int .i64 pq, .int .i64 pg, .int .i64 pa, .pointer (some ⟨sg, 0, none⟩), .bool false] 69)) W.heap.size [op, fm, r1, r2, x2, b1, d1, b2, d2, l1, l2, i2] [a0, a1, a2, a3, a4, a5, a6, a7, a8, a9, a10, a11, a12, a13, a14, a15] [a0, a1, a2, a3, a4, a5, a6, a7, a8, a9, a10, a11, a12, a13, a14, a15] [.int .i64 pm, .int .i64 pk, .bool pM, .bool pW, .bool pP, .int .i64 pc, .int .i64 pi, .int .i64 pq, .int .i64 pg, .int .i64 pa] (.pointer (some ⟨sg, 0, none⟩)) false) := mc_new W [op, fm, r1, r2, x2, b1, d1, b2, d2, l1, l2, i2] [a0, a1, a2, a3, a4, a5, a6, a7, a8, a9, a10, a11, a12, a13, a14, a15] [a0, a1, a2, a3, a4, a5, a6, a7, a8, a9, a10, a11, a12, a13, a14, a15] [.int .i64 pm, .int .i64 pk, .bool pM, .bool pW, .bool pP, .int .i64 pc, .int .i64 pi, .int .i64 pq, .int .i64 pg, .int .i64 pa] (.pointer (some ⟨sg, 0, none⟩)) false rfl rfl rfl rfl
  have X4 := Lib.hid (X3.out.keep ((Below.refl W.heap.size W).alloc (Nat.le_refl _) (.cells #[.int .i64 op, .int .i64 fm, .int .i64 r1, .int .i64 r2, .int .i64 x2, .int .i64 b1, .int .i64 d1, .int .i64 b2, .int .i64 d2, .int .i64 l1, .int .i64 l2, .int .i64 i2, .int .u32 a0, .int .u32 a1, .int .u32 a2, .int .u32 a3, .int .u32 a4, .int .u32 a5, .int .u32 a6, .int .u32 a7, .int .u32 a8, .int .u32 a9, .int .u32 a10, .int .u32 a11, .int .u32 a12, .int .u32 a13, .int .u32 a14, .int .u32 a15, .int .u32 a0, .int .u32 a1, .int .u32 a2, .int .u32 a3, .int .u32 a4, .int .u32 a5, .int .u32 a6, .int .u32 a7, .int .u32 a8, .int .u32 a9, .int .u32 a10, .int .u32 a11, .int .u32 a12, .int .u32 a13, .int .u32 a14, .int .u32 a15, .int .i64 pm, .int .i64 pk, .bool pM, .bool pW, .bool pP, .int .i64 pc, .int .i64 pi, .int .i64 pq, .int .i64 pg, .int .i64 pa, .pointer (some ⟨sg, 0, none⟩), .bool false] 69)))
  have hgm : w.heap.size + 6 ≤ W.heap.size := by have := X3.out.b5.lt; omega
  obtain ⟨W4, hW4⟩ : ∃ W4, W.alloc (.cells #[.int .i64 op, .int .i64 fm, .int .i64 r1, .int .i64 r2, .int .i64 x2, .int .i64 b1, .int .i64 d1, .int .i64 b2, .int .i64 d2, .int .i64 l1, .int .i64 l2, .int .i64 i2, .int .u32 a0, .int .u32 a1, .int .u32 a2, .int .u32 a3, .int .u32 a4, .int .u32 a5, .int .u32 a6, .int .u32 a7, .int .u32 a8, .int .u32 a9, .int .u32 a10, .int .u32 a11, .int .u32 a12, .int .u32 a13, .int .u32 a14, .int .u32 a15, .int .u32 a0, .int .u32 a1, .int .u32 a2, .int .u32 a3, .int .u32 a4, .int .u32 a5, .int .u32 a6, .int .u32 a7, .int .u32 a8, .int .u32 a9, .int .u32 a10, .int .u32 a11, .int .u32 a12, .int .u32 a13, .int .u32 a14, .int .u32 a15, .int .i64 pm, .int .i64 pk, .bool pM, .bool pW, .bool pP, .int .i64 pc, .int .i64 pi, .int .i64 pq, .int .i64 pg, .int .i64 pa, .pointer (some ⟨sg, 0, none⟩), .bool false] 69) = W4 := ⟨_, rfl⟩
  rw [hW4] at M4 X4
  try rw [hW4]
  obtain ⟨gm, hg⟩ : ∃ gm, W.heap.size = gm := ⟨_, rfl⟩
  rw [hg] at M4 hgm
  simp only [hg]
  have B4 := Lib.hid (X4.out.be.below (Nat.le_refl _) (by simp))
  clear hW4 hg X3
  go_upto_region 6 with (go_at_call 31; refine (HX.out gm W4 (by omega) B4.out M4.out).mono ?_; rintro e W5 ⟨rfl, hM, hC, hr⟩; have M5 := Lib.hid hM; have X5 := Lib.hid (X4.out.ch hC HLL.out hgm); have R5 := Lib.hid hr; clear hM hC hr)
  have cv := M5.out.cv
  have hgm' : gm ≠ w.heap.size + 1 + 1 + 1 ∧ gm ≠ w.heap.size + 1 + 1 + 1 + 1 ∧ gm ≠ w.heap.size + 1 + 1 + 1 + 1 + 1 := by omega
  obtain ⟨hq1, hq2, hq3⟩ := hgm'
  have cq := X5.out.b2.cell (c := 8) rfl
  go_upto_region 8 with fail
  clear cv cq
  have mr0 : W5.cell? ⟨gm, 28, none⟩ = some (.int .u32 n0) := M5.out.cr (n := 0) (by omega)
  have mr1 : W5.cell? ⟨gm, 29, none⟩ = some (.int .u32 n1) := M5.out.cr (n := 1) (by omega)
  have mr2 : W5.cell? ⟨gm, 30, none⟩ = some (.int .u32 n2) := M5.out.cr (n := 2) (by omega)
  have mr3 : W5.cell? ⟨gm, 31, none⟩ = some (.int .u32 n3) := M5.out.cr (n := 3) (by omega)
  have mr4 : W5.cell? ⟨gm, 32, none⟩ = some (.int .u32 n4) := M5.out.cr (n := 4) (by omega)
  have mr5 : W5.cell? ⟨gm, 33, none⟩ = some (.int .u32 n5) := M5.out.cr (n := 5) (by omega)
  have mr6 : W5.cell? ⟨gm, 34, none⟩ = some (.int .u32 n6) := M5.out.cr (n := 6) (by omega)
  have mr7 : W5.cell? ⟨gm, 35, none⟩ = some (.int .u32 n7) := M5.out.cr (n := 7) (by omega)
  have mr8 : W5.cell? ⟨gm, 36, none⟩ = some (.int .u32 n8) := M5.out.cr (n := 8) (by omega)
  have mr9 : W5.cell? ⟨gm, 37, none⟩ = some (.int .u32 n9) := M5.out.cr (n := 9) (by omega)
  have mr10 : W5.cell? ⟨gm, 38, none⟩ = some (.int .u32 n10) := M5.out.cr (n := 10) (by omega)
  have mr11 : W5.cell? ⟨gm, 39, none⟩ = some (.int .u32 n11) := M5.out.cr (n := 11) (by omega)
  have mr12 : W5.cell? ⟨gm, 40, none⟩ = some (.int .u32 n12) := M5.out.cr (n := 12) (by omega)
  have mr13 : W5.cell? ⟨gm, 41, none⟩ = some (.int .u32 n13) := M5.out.cr (n := 13) (by omega)
  have mr14 : W5.cell? ⟨gm, 42, none⟩ = some (.int .u32 n14) := M5.out.cr (n := 14) (by omega)
  have mr15 : W5.cell? ⟨gm, 43, none⟩ = some (.int .u32 n15) := M5.out.cr (n := 15) (by omega)
  have mp0 : W5.cell? ⟨gm, 44, none⟩ = some (.int .i64 vm) := M5.out.cp (n := 0) (by omega)
  have mp1 : W5.cell? ⟨gm, 45, none⟩ = some (.int .i64 vk) := M5.out.cp (n := 1) (by omega)
  have mp2 : W5.cell? ⟨gm, 46, none⟩ = some (.bool vM) := M5.out.cp (n := 2) (by omega)
  have mp3 : W5.cell? ⟨gm, 47, none⟩ = some (.bool vW) := M5.out.cp (n := 3) (by omega)
  have mp4 : W5.cell? ⟨gm, 48, none⟩ = some (.bool vP) := M5.out.cp (n := 4) (by omega)
  have mp5 : W5.cell? ⟨gm, 49, none⟩ = some (.int .i64 vc) := M5.out.cp (n := 5) (by omega)
  have mp6 : W5.cell? ⟨gm, 50, none⟩ = some (.int .i64 vi) := M5.out.cp (n := 6) (by omega)
  have mp7 : W5.cell? ⟨gm, 51, none⟩ = some (.int .i64 vq) := M5.out.cp (n := 7) (by omega)
  have mp8 : W5.cell? ⟨gm, 52, none⟩ = some (.int .i64 vg) := M5.out.cp (n := 8) (by omega)
  have mp9 : W5.cell? ⟨gm, 53, none⟩ = some (.int .i64 va) := M5.out.cp (n := 9) (by omega)
  have xa0 : W5.cell? ⟨w.heap.size + 1 + 1 + 1, 0, none⟩ = some (.int .u32 0) := X5.out.b3.cell (c := 0) rfl
  have xaf0 := X5.out.b3.free 0
  have xa1 : W5.cell? ⟨w.heap.size + 1 + 1 + 1, 1, none⟩ = some (.int .u32 0) := X5.out.b3.cell (c := 1) rfl
  have xaf1 := X5.out.b3.free 1
  have xa2 : W5.cell? ⟨w.heap.size + 1 + 1 + 1, 2, none⟩ = some (.int .u32 0) := X5.out.b3.cell (c := 2) rfl
  have xaf2 := X5.out.b3.free 2
  have xa3 : W5.cell? ⟨w.heap.size + 1 + 1 + 1, 3, none⟩ = some (.int .u32 0) := X5.out.b3.cell (c := 3) rfl
  have xaf3 := X5.out.b3.free 3
  have xa4 : W5.cell? ⟨w.heap.size + 1 + 1 + 1, 4, none⟩ = some (.int .u32 0) := X5.out.b3.cell (c := 4) rfl
  have xaf4 := X5.out.b3.free 4
  have xa5 : W5.cell? ⟨w.heap.size + 1 + 1 + 1, 5, none⟩ = some (.int .u32 0) := X5.out.b3.cell (c := 5) rfl
  have xaf5 := X5.out.b3.free 5
  have xa6 : W5.cell? ⟨w.heap.size + 1 + 1 + 1, 6, none⟩ = some (.int .u32 0) := X5.out.b3.cell (c := 6) rfl
  have xaf6 := X5.out.b3.free 6
  have xa7 : W5.cell? ⟨w.heap.size + 1 + 1 + 1, 7, none⟩ = some (.int .u32 0) := X5.out.b3.cell (c := 7) rfl
  have xaf7 := X5.out.b3.free 7
  have xa8 : W5.cell? ⟨w.heap.size + 1 + 1 + 1, 8, none⟩ = some (.int .u32 0) := X5.out.b3.cell (c := 8) rfl
  have xaf8 := X5.out.b3.free 8
  have xa9 : W5.cell? ⟨w.heap.size + 1 + 1 + 1, 9, none⟩ = some (.int .u32 0) := X5.out.b3.cell (c := 9) rfl
  have xaf9 := X5.out.b3.free 9
  have xa10 : W5.cell? ⟨w.heap.size + 1 + 1 + 1, 10, none⟩ = some (.int .u32 0) := X5.out.b3.cell (c := 10) rfl
  have xaf10 := X5.out.b3.free 10
  have xa11 : W5.cell? ⟨w.heap.size + 1 + 1 + 1, 11, none⟩ = some (.int .u32 0) := X5.out.b3.cell (c := 11) rfl
  have xaf11 := X5.out.b3.free 11
  have xa12 : W5.cell? ⟨w.heap.size + 1 + 1 + 1, 12, none⟩ = some (.int .u32 0) := X5.out.b3.cell (c := 12) rfl
  have xaf12 := X5.out.b3.free 12
  have xa13 : W5.cell? ⟨w.heap.size + 1 + 1 + 1, 13, none⟩ = some (.int .u32 0) := X5.out.b3.cell (c := 13) rfl
  have xaf13 := X5.out.b3.free 13
  have xa14 : W5.cell? ⟨w.heap.size + 1 + 1 + 1, 14, none⟩ = some (.int .u32 0) := X5.out.b3.cell (c := 14) rfl
  have xaf14 := X5.out.b3.free 14
  have xa15 : W5.cell? ⟨w.heap.size + 1 + 1 + 1, 15, none⟩ = some (.int .u32 0) := X5.out.b3.cell (c := 15) rfl
  have xaf15 := X5.out.b3.free 15
  have ya0 : W5.cell? ⟨w.heap.size + 1 + 1 + 1 + 1, 0, none⟩ = some (.int .i64 0) := X5.out.b4.cell (c := 0) rfl
  have yaf0 := X5.out.b4.free 0
  have ya1 : W5.cell? ⟨w.heap.size + 1 + 1 + 1 + 1, 1, none⟩ = some (.int .i64 0) := X5.out.b4.cell (c := 1) rfl
  have yaf1 := X5.out.b4.free 1
  have ya2 : W5.cell? ⟨w.heap.size + 1 + 1 + 1 + 1, 2, none⟩ = some (.bool false) := X5.out.b4.cell (c := 2) rfl
  have yaf2 := X5.out.b4.free 2
  have ya3 : W5.cell? ⟨w.heap.size + 1 + 1 + 1 + 1, 3, none⟩ = some (.bool false) := X5.out.b4.cell (c := 3) rfl
  have yaf3 := X5.out.b4.free 3
  have ya4 : W5.cell? ⟨w.heap.size + 1 + 1 + 1 + 1, 4, none⟩ = some (.bool false) := X5.out.b4.cell (c := 4) rfl
  have yaf4 := X5.out.b4.free 4
  have ya5 : W5.cell? ⟨w.heap.size + 1 + 1 + 1 + 1, 5, none⟩ = some (.int .i64 0) := X5.out.b4.cell (c := 5) rfl
  have yaf5 := X5.out.b4.free 5
  have ya6 : W5.cell? ⟨w.heap.size + 1 + 1 + 1 + 1, 6, none⟩ = some (.int .i64 0) := X5.out.b4.cell (c := 6) rfl
  have yaf6 := X5.out.b4.free 6
  have ya7 : W5.cell? ⟨w.heap.size + 1 + 1 + 1 + 1, 7, none⟩ = some (.int .i64 0) := X5.out.b4.cell (c := 7) rfl
  have yaf7 := X5.out.b4.free 7
  have ya8 : W5.cell? ⟨w.heap.size + 1 + 1 + 1 + 1, 8, none⟩ = some (.int .i64 0) := X5.out.b4.cell (c := 8) rfl
  have yaf8 := X5.out.b4.free 8
  have ya9 : W5.cell? ⟨w.heap.size + 1 + 1 + 1 + 1, 9, none⟩ = some (.int .i64 0) := X5.out.b4.cell (c := 9) rfl
  have yaf9 := X5.out.b4.free 9
  have za0 : W5.cell? ⟨w.heap.size + 1 + 1 + 1 + 1 + 1, 0, none⟩ = some (.int .i64 0) := X5.out.b5.cell (c := 0) rfl
  have zaf0 := X5.out.b5.free 0
  go_region
  obtain ⟨W6, hW6⟩ : ∃ W6, (((((((((((((((((((((((((((W5.setCell ⟨w.heap.size + 1 + 1 + 1, 0, none⟩ (.int .u32 n0)).setCell ⟨w.heap.size + 1 + 1 + 1, 1, none⟩ (.int .u32 n1)).setCell ⟨w.heap.size + 1 + 1 + 1, 2, none⟩ (.int .u32 n2)).setCell ⟨w.heap.size + 1 + 1 + 1, 3, none⟩ (.int .u32 n3)).setCell ⟨w.heap.size + 1 + 1 + 1, 4, none⟩ (.int .u32 n4)).setCell ⟨w.heap.size + 1 + 1 + 1, 5, none⟩ (.int .u32 n5)).setCell ⟨w.heap.size + 1 + 1 + 1, 6, none⟩ (.int .u32 n6)).setCell ⟨w.heap.size + 1 + 1 + 1, 7, none⟩ (.int .u32 n7)).setCell ⟨w.heap.size + 1 + 1 + 1, 8, none⟩ (.int .u32 n8)).setCell ⟨w.heap.size + 1 + 1 + 1, 9, none⟩ (.int .u32 n9)).setCell ⟨w.heap.size + 1 + 1 + 1, 10, none⟩ (.int .u32 n10)).setCell ⟨w.heap.size + 1 + 1 + 1, 11, none⟩ (.int .u32 n11)).setCell ⟨w.heap.size + 1 + 1 + 1, 12, none⟩ (.int .u32 n12)).setCell ⟨w.heap.size + 1 + 1 + 1, 13, none⟩ (.int .u32 n13)).setCell ⟨w.heap.size + 1 + 1 + 1, 14, none⟩ (.int .u32 n14)).setCell ⟨w.heap.size + 1 + 1 + 1, 15, none⟩ (.int .u32 n15)).setCell ⟨w.heap.size + 1 + 1 + 1 + 1, 0, none⟩ ((.int .i64 vm))).setCell ⟨w.heap.size + 1 + 1 + 1 + 1, 1, none⟩ ((.int .i64 vk))).setCell ⟨w.heap.size + 1 + 1 + 1 + 1, 2, none⟩ ((.bool vM))).setCell ⟨w.heap.size + 1 + 1 + 1 + 1, 3, none⟩ ((.bool vW))).setCell ⟨w.heap.size + 1 + 1 + 1 + 1, 4, none⟩ ((.bool vP))).setCell ⟨w.heap.size + 1 + 1 + 1 + 1, 5, none⟩ ((.int .i64 vc))).setCell ⟨w.heap.size + 1 + 1 + 1 + 1, 6, none⟩ ((.int .i64 vi))).setCell ⟨w.heap.size + 1 + 1 + 1 + 1, 7, none⟩ ((.int .i64 vq))).setCell ⟨w.heap.size + 1 + 1 + 1 + 1, 8, none⟩ ((.int .i64 vg))).setCell ⟨w.heap.size + 1 + 1 + 1 + 1, 9, none⟩ ((.int .i64 va))).setCell ⟨w.heap.size + 1 + 1 + 1 + 1 + 1, 0, none⟩ (.int .i64 0)).drew = W6 := ⟨_, rfl⟩
  have X6 := Lib.hid (show XF w (((((((((((((((((((((((((((W5.setCell ⟨w.heap.size + 1 + 1 + 1, 0, none⟩ (.int .u32 n0)).setCell ⟨w.heap.size + 1 + 1 + 1, 1, none⟩ (.int .u32 n1)).setCell ⟨w.heap.size + 1 + 1 + 1, 2, none⟩ (.int .u32 n2)).setCell ⟨w.heap.size + 1 + 1 + 1, 3, none⟩ (.int .u32 n3)).setCell ⟨w.heap.size + 1 + 1 + 1, 4, none⟩ (.int .u32 n4)).setCell ⟨w.heap.size + 1 + 1 + 1, 5, none⟩ (.int .u32 n5)).setCell ⟨w.heap.size + 1 + 1 + 1, 6, none⟩ (.int .u32 n6)).setCell ⟨w.heap.size + 1 + 1 + 1, 7, none⟩ (.int .u32 n7)).setCell ⟨w.heap.size + 1 + 1 + 1, 8, none⟩ (.int .u32 n8)).setCell ⟨w.heap.size + 1 + 1 + 1, 9, none⟩ (.int .u32 n9)).setCell ⟨w.heap.size + 1 + 1 + 1, 10, none⟩ (.int .u32 n10)).setCell ⟨w.heap.size + 1 + 1 + 1, 11, none⟩ (.int .u32 n11)).setCell ⟨w.heap.size + 1 + 1 + 1, 12, none⟩ (.int .u32 n12)).setCell ⟨w.heap.size + 1 + 1 + 1, 13, none⟩ (.int .u32 n13)).setCell ⟨w.heap.size + 1 + 1 + 1, 14, none⟩ (.int .u32 n14)).setCell ⟨w.heap.size + 1 + 1 + 1, 15, none⟩ (.int .u32 n15)).setCell ⟨w.heap.size + 1 + 1 + 1 + 1, 0, none⟩ ((.int .i64 vm))).setCell ⟨w.heap.size + 1 + 1 + 1 + 1, 1, none⟩ ((.int .i64 vk))).setCell ⟨w.heap.size + 1 + 1 + 1 + 1, 2, none⟩ ((.bool vM))).setCell ⟨w.heap.size + 1 + 1 + 1 + 1, 3, none⟩ ((.bool vW))).setCell ⟨w.heap.size + 1 + 1 + 1 + 1, 4, none⟩ ((.bool vP))).setCell ⟨w.heap.size + 1 + 1 + 1 + 1, 5, none⟩ ((.int .i64 vc))).setCell ⟨w.heap.size + 1 + 1 + 1 + 1, 6, none⟩ ((.int .i64 vi))).setCell ⟨w.heap.size + 1 + 1 + 1 + 1, 7, none⟩ ((.int .i64 vq))).setCell ⟨w.heap.size + 1 + 1 + 1 + 1, 8, none⟩ ((.int .i64 vg))).setCell ⟨w.heap.size + 1 + 1 + 1 + 1, 9, none⟩ ((.int .i64 va))).setCell ⟨w.heap.size + 1 + 1 + 1 + 1 + 1, 0, none⟩ (.int .i64 0)).drew L [op, fm, r1, r2, x2, b1, d1, b2, d2, l1, l2, i2] [a0, a1, a2, a3, a4, a5, a6, a7, a8, a9, a10, a11, a12, a13, a14, a15] [.int .i64 pm, .int .i64 pk, .bool pM, .bool pW, .bool pP, .int .i64 pc, .int .i64 pi, .int .i64 pq, .int .i64 pg, .int .i64 pa] [.int .u32 n0, .int .u32 n1, .int .u32 n2, .int .u32 n3, .int .u32 n4, .int .u32 n5, .int .u32 n6, .int .u32 n7, .int .u32 n8, .int .u32 n9, .int .u32 n10, .int .u32 n11, .int .u32 n12, .int .u32 n13, .int .u32 n14, .int .u32 n15] [(.int .i64 vm), (.int .i64 vk), (.bool vM), (.bool vW), (.bool vP), (.int .i64 vc), (.int .i64 vi), (.int .i64 vq), (.int .i64 vg), (.int .i64 va)] (.int .i64 0) from (X5.out.give rfl rfl (.int .u32 n0) (.int .u32 n1) (.int .u32 n2) (.int .u32 n3) (.int .u32 n4) (.int .u32 n5) (.int .u32 n6) (.int .u32 n7) (.int .u32 n8) (.int .u32 n9) (.int .u32 n10) (.int .u32 n11) (.int .u32 n12) (.int .u32 n13) (.int .u32 n14) (.int .u32 n15) (.int .i64 vm) (.int .i64 vk) (.bool vM) (.bool vW) (.bool vP) (.int .i64 vc) (.int .i64 vi) (.int .i64 vq) (.int .i64 vg) (.int .i64 va) (.int .i64 0)).drewN 1)
  have R6 := Lib.hid (HRR.out W5 (((((((((((((((((((((((((((W5.setCell ⟨w.heap.size + 1 + 1 + 1, 0, none⟩ (.int .u32 n0)).setCell ⟨w.heap.size + 1 + 1 + 1, 1, none⟩ (.int .u32 n1)).setCell ⟨w.heap.size + 1 + 1 + 1, 2, none⟩ (.int .u32 n2)).setCell ⟨w.heap.size + 1 + 1 + 1, 3, none⟩ (.int .u32 n3)).setCell ⟨w.heap.size + 1 + 1 + 1, 4, none⟩ (.int .u32 n4)).setCell ⟨w.heap.size + 1 + 1 + 1, 5, none⟩ (.int .u32 n5)).setCell ⟨w.heap.size + 1 + 1 + 1, 6, none⟩ (.int .u32 n6)).setCell ⟨w.heap.size + 1 + 1 + 1, 7, none⟩ (.int .u32 n7)).setCell ⟨w.heap.size + 1 + 1 + 1, 8, none⟩ (.int .u32 n8)).setCell ⟨w.heap.size + 1 + 1 + 1, 9, none⟩ (.int .u32 n9)).setCell ⟨w.heap.size + 1 + 1 + 1, 10, none⟩ (.int .u32 n10)).setCell ⟨w.heap.size + 1 + 1 + 1, 11, none⟩ (.int .u32 n11)).setCell ⟨w.heap.size + 1 + 1 + 1, 12, none⟩ (.int .u32 n12)).setCell ⟨w.heap.size + 1 + 1 + 1, 13, none⟩ (.int .u32 n13)).setCell ⟨w.heap.size + 1 + 1 + 1, 14, none⟩ (.int .u32 n14)).setCell ⟨w.heap.size + 1 + 1 + 1, 15, none⟩ (.int .u32 n15)).setCell ⟨w.heap.size + 1 + 1 + 1 + 1, 0, none⟩ ((.int .i64 vm))).setCell ⟨w.heap.size + 1 + 1 + 1 + 1, 1, none⟩ ((.int .i64 vk))).setCell ⟨w.heap.size + 1 + 1 + 1 + 1, 2, none⟩ ((.bool vM))).setCell ⟨w.heap.size + 1 + 1 + 1 + 1, 3, none⟩ ((.bool vW))).setCell ⟨w.heap.size + 1 + 1 + 1 + 1, 4, none⟩ ((.bool vP))).setCell ⟨w.heap.size + 1 + 1 + 1 + 1, 5, none⟩ ((.int .i64 vc))).setCell ⟨w.heap.size + 1 + 1 + 1 + 1, 6, none⟩ ((.int .i64 vi))).setCell ⟨w.heap.size + 1 + 1 + 1 + 1, 7, none⟩ ((.int .i64 vq))).setCell ⟨w.heap.size + 1 + 1 + 1 + 1, 8, none⟩ ((.int .i64 vg))).setCell ⟨w.heap.size + 1 + 1 + 1 + 1, 9, none⟩ ((.int .i64 va))).setCell ⟨w.heap.size + 1 + 1 + 1 + 1 + 1, 0, none⟩ (.int .i64 0)).drew R5.out (dBelow' ((below_s10 (below_s16 (Below.refl _ _) (by omega) (.int .u32 n0) (.int .u32 n1) (.int .u32 n2) (.int .u32 n3) (.int .u32 n4) (.int .u32 n5) (.int .u32 n6) (.int .u32 n7) (.int .u32 n8) (.int .u32 n9) (.int .u32 n10) (.int .u32 n11) (.int .u32 n12) (.int .u32 n13) (.int .u32 n14) (.int .u32 n15)) (by omega) (.int .i64 vm) (.int .i64 vk) (.bool vM) (.bool vW) (.bool vP) (.int .i64 vc) (.int .i64 vi) (.int .i64 vq) (.int .i64 vg) (.int .i64 va)).setCell (p := ⟨_, 0, none⟩) (by first | (simp; done) | (simp; omega)) _) 1))
  rw [hW6] at X6 R6
  rw [hW6]
  clear hW6 X5 M5 R5 mr0 mr1 mr2 mr3 mr4 mr5 mr6 mr7 mr8 mr9 mr10 mr11 mr12 mr13 mr14 mr15 mp0 mp1 mp2 mp3 mp4 mp5 mp6 mp7 mp8 mp9 xa0 xaf0 xa1 xaf1 xa2 xaf2 xa3 xaf3 xa4 xaf4 xa5 xaf5 xa6 xaf6 xa7 xaf7 xa8 xaf8 xa9 xaf9 xa10 xaf10 xa11 xaf11 xa12 xaf12 xa13 xaf13 xa14 xaf14 xa15 xaf15 ya0 yaf0 ya1 yaf1 ya2 yaf2 ya3 yaf3 ya4 yaf4 ya5 yaf5 ya6 yaf6 ya7 yaf7 ya8 yaf8 ya9 yaf9 za0 zaf0
  go_wp2
  refine leaves_cons (f := 30) (args := #[.pointer (some ⟨w.heap.size + 1, 0, none⟩), .pointer (some ⟨w.heap.size + 1 + 1, 0, none⟩), .pointer (some ⟨w.heap.size + 1 + 1 + 1, 0, none⟩), .pointer (some ⟨w.heap.size + 1 + 1 + 1 + 1, 0, none⟩), .pointer (some ⟨w.heap.size + 1 + 1 + 1 + 1 + 1, 0, none⟩)]) (by simp) (by simp [go_sem]) ?_
  refine (catch_idle _ _ _ _ _ _).mono ?_
  rintro e u' w'' ⟨rfl, rfl, hw6⟩
  subst hw6
  have c5 := X6.out.b5.cell (c := 0) rfl
  exact ⟨_, res_cells3 Try.results14 _ _ _ _ _ _ _ _ rfl rfl rfl X6.out.b3 X6.out.b4 X6.out.b5 Try.underlying28 rfl (by kernel_rfl) Try.underlying30 rfl (by kernel_rfl) (by go_simp), rfl, R6.out, X6.out.be⟩
end Go.Proofs.Ythjdjbipfdigeaa

