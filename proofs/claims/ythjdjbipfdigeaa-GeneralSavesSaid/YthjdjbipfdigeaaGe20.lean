/- LAW: the loop of GeneralSaves. Conditions: what it reads. -/
import Derived.Test.YthjdjbipfdigeaaGe19
namespace Go.Proofs.Ythjdjbipfdigeaa
open Go.RowKit
set_option maxRecDepth 100000
set_option linter.unusedVariables false
set_option linter.unusedSimpArgs false
/-- the first loop's body -/
def loopAt : Code → Option Code
  | .loop b => some b
  | .seq a b => (loopAt a).or (loopAt b)
  | .cond _ a b => (loopAt a).or (loopAt b)
  | .block _ b => loopAt b
  | .scope b => loopAt b
  | _ => none
set_option maxRecDepth 1000000 in
set_option maxHeartbeats 8000000 in
theorem saves_loop {u0 u1 u2 u5 u6 u7 u8 u11 u12 u13 u15 u16 u18 u19 u20 u21 u22 u23 u24 u25 u26 u27 u28 u29 u30 u31 u32 u33 u34 u35 u36 u37 u38 u39 u40 u41 u42 u43 u44 u45 u46 u47 u48 u49 u50 u51 u52 u53 u54 u55 u56 u57 u58 u59 u60 u61 u62 u63 u64 u65 u66 u67 u68 u69 u70 u71 u72 u73 u74 u75 u76 u77 u78 u79 u80 u81 u82 u83 u84 u85 u86 u87 u88 u89 u90 u91 u92 u93 u94 u95 u96 u97 u98 u99 u100 u101 u102 u103 u104 u105 u106 u107 u108 u109 u110 u111 u112 u113 u114 u115 u116 u117 u118 u119 u120 u121 u122 u123 u124 u125 u126 u127 : Value} {gq go gn n m : Nat} {ql ol nl : List Int} {body : Code} (hbody : (Try.f5.body.bind loopAt) = some body) {Q : Exit → Act → World → Prop} {ds : List Deferred} {W : World}
    (hsv : ∀ j, j < 16 → ql.getD j 0 = if inB n m j = true then ol.getD j 0 else nl.getD j 0) (hq : ∀ k, k < 16 → W.cell? ⟨gq, k, none⟩ = some (.int .u32 (ql.getD k 0))) (ho : ∀ k, k < 16 → W.cell? ⟨go, k, none⟩ = some (.int .u32 (ol.getD k 0))) (hn : ∀ k, k < 16 → W.cell? ⟨gn, k, none⟩ = some (.int .u32 (nl.getD k 0)))
    (hQ : ∀ (c : List PanicEntry) (a a' : Act) (w : World), a'.defers = a.defers → Q (.panic c) a' w → Q (.panic c) a w)
    (h : ∀ (d : Nat) (x6 x17 x18 x82 x83 x84 x85 x86 x87 x88 x89 x90 x91 x92 x93 x94 x95 x96 x97 x98 x99 x100 x101 x102 x103 x104 x105 x106 x107 x108 x109 x110 x111 x112 x113 x114 x115 x116 x117 x118 x119 x120 x121 x122 x123 x124 x125 x126 x127 : Value), Q (.exit 0) { tmps := #[u0, u1, u2, .pointer (some ⟨go, 0, none⟩), .pointer (some ⟨gn, 0, none⟩), u5, x6, u7, u8, .int .i64 (n : Int), .int .i64 (m : Int), u11, u12, u13, .pointer (some ⟨gq, 0, none⟩), u15, u16, x17, x18, u19, u20, u21, u22, u23, u24, u25, u26, u27, u28, u29, u30, u31, u32, u33, u34, u35, u36, u37, u38, u39, u40, u41, u42, u43, u44, u45, u46, u47, u48, u49, u50, u51, u52, u53, u54, u55, u56, u57, u58, u59, u60, u61, u62, u63, u64, u65, u66, u67, u68, u69, u70, u71, u72, u73, u74, u75, u76, u77, u78, u79, u80, u81, x82, x83, x84, x85, x86, x87, x88, x89, x90, x91, x92, x93, x94, x95, x96, x97, x98, x99, x100, x101, x102, x103, x104, x105, x106, x107, x108, x109, x110, x111, x112, x113, x114, x115, x116, x117, x118, x119, x120, x121, x122, x123, x124, x125, x126, x127], defers := ds } (W.drewN d)) : Code.wp Try.prog (Code.loop body) Q { tmps := #[u0, u1, u2, .pointer (some ⟨go, 0, none⟩), .pointer (some ⟨gn, 0, none⟩), u5, u6, u7, u8, .int .i64 (n : Int), .int .i64 (m : Int), u11, u12, u13, .pointer (some ⟨gq, 0, none⟩), u15, u16, .int .i64 0, u18, u19, u20, u21, u22, u23, u24, u25, u26, u27, u28, u29, u30, u31, u32, u33, u34, u35, u36, u37, u38, u39, u40, u41, u42, u43, u44, u45, u46, u47, u48, u49, u50, u51, u52, u53, u54, u55, u56, u57, u58, u59, u60, u61, u62, u63, u64, u65, u66, u67, u68, u69, u70, u71, u72, u73, u74, u75, u76, u77, u78, u79, u80, u81, u82, u83, u84, u85, u86, u87, u88, u89, u90, u91, u92, u93, u94, u95, u96, u97, u98, u99, u100, u101, u102, u103, u104, u105, u106, u107, u108, u109, u110, u111, u112, u113, u114, u115, u116, u117, u118, u119, u120, u121, u122, u123, u124, u125, u126, u127], defers := ds } W := by
  simp [Try.f5, loopAt] at hbody
  subst hbody
  have SV := Lib.hid hsv
  have LQ := Lib.hid hq
  have LO := Lib.hid ho
  have LN := Lib.hid hn
  have HP := Lib.hid hQ
  have HE := Lib.hid h
  clear hsv hq ho hn hQ h
  dsimp only
  go_loopw [17] (fun x w' => ∃ k : Nat, k ≤ 16 ∧ x = .int .i64 (k : Int) ∧ ∃ d, w' = W.drewN d) (fun x _ => 16 - (intOf x).toNat)
  case atStart => exact ⟨0, by omega, rfl, 0, rfl⟩
  case round =>
    obtain ⟨k, hk, rfl, d, rfl⟩ := hrel
    by_cases hlt : k < 16
    · have i0 : (k : Int) < 16 := by omega
      have i1 : (0 : Int) ≤ (k : Int) := by omega
      obtain ⟨qv, hqv⟩ : ∃ v, ql.getD k 0 = v := ⟨_, rfl⟩
      obtain ⟨ov, hov⟩ : ∃ v, ol.getD k 0 = v := ⟨_, rfl⟩
      obtain ⟨nv, hnv⟩ : ∃ v, nl.getD k 0 = v := ⟨_, rfl⟩
      have HQ := Lib.hid (show (W.drewN d).cell? _ = _ from LQ.out k hlt)
      have HO := Lib.hid (show (W.drewN d).cell? _ = _ from LO.out k hlt)
      have HN := Lib.hid (show (W.drewN d).cell? _ = _ from LN.out k hlt)
      rw [hqv] at HQ
      rw [hov] at HO
      rw [hnv] at HN
      by_cases u0 : n ≤ m
      · by_cases u1 : n ≤ k
        · by_cases u2 : k ≤ m
          · have v0 := (show ¬ (n : Int) > (m : Int) by omega)
            have v1 := (show (k : Int) ≥ (n : Int) by omega)
            have v2 := (show (k : Int) ≤ (m : Int) by omega)
            have hi : inB n m k = true := by unfold inB; split <;> simp <;> omega
            have hs := SV.out k hlt
            rw [hi] at hs
            simp only [if_true, Bool.false_eq_true, if_false] at hs
            rw [hqv, hov] at hs
            clear hi hqv hov hnv
            go_upto_region 16 with fail
            refine reg_in (by kernel_rfl) hlt HQ.out HO.out HN.out hs (fun c a a' w e h => HP.out c a a' w e h) ?_
            intros
            go_wp2
            exact ⟨⟨k + 1, by omega, rfl, d + 1, rfl⟩, by simp [intOf]; omega⟩
          · have v0 := (show ¬ (n : Int) > (m : Int) by omega)
            have v1 := (show (k : Int) ≥ (n : Int) by omega)
            have v2 := (show ¬ (k : Int) ≤ (m : Int) by omega)
            have hi : inB n m k = false := by unfold inB; split <;> simp <;> omega
            have hs := SV.out k hlt
            rw [hi] at hs
            simp only [if_true, Bool.false_eq_true, if_false] at hs
            rw [hqv, hnv] at hs
            clear hi hqv hov hnv
            go_upto_region 16 with fail
            refine reg_out (by kernel_rfl) hlt HQ.out HO.out HN.out hs (fun c a a' w e h => HP.out c a a' w e h) ?_
            intros
            go_wp2
            exact ⟨⟨k + 1, by omega, rfl, d + 1, rfl⟩, by simp [intOf]; omega⟩
        · have v0 := (show ¬ (n : Int) > (m : Int) by omega)
          have v1 := (show ¬ (k : Int) ≥ (n : Int) by omega)
          have hi : inB n m k = false := by unfold inB; split <;> simp <;> omega
          have hs := SV.out k hlt
          rw [hi] at hs
          simp only [if_true, Bool.false_eq_true, if_false] at hs
          rw [hqv, hnv] at hs
          clear hi hqv hov hnv
          go_upto_region 16 with fail
          refine reg_out (by kernel_rfl) hlt HQ.out HO.out HN.out hs (fun c a a' w e h => HP.out c a a' w e h) ?_
          intros
          go_wp2
          exact ⟨⟨k + 1, by omega, rfl, d + 1, rfl⟩, by simp [intOf]; omega⟩
      · by_cases u1 : n ≤ k
        · have v0 := (show (n : Int) > (m : Int) by omega)
          have v1 := (show (k : Int) ≥ (n : Int) by omega)
          have hi : inB n m k = true := by unfold inB; split <;> simp <;> omega
          have hs := SV.out k hlt
          rw [hi] at hs
          simp only [if_true, Bool.false_eq_true, if_false] at hs
          rw [hqv, hov] at hs
          clear hi hqv hov hnv
          go_upto_region 16 with fail
          refine reg_in (by kernel_rfl) hlt HQ.out HO.out HN.out hs (fun c a a' w e h => HP.out c a a' w e h) ?_
          intros
          go_wp2
          exact ⟨⟨k + 1, by omega, rfl, d + 1, rfl⟩, by simp [intOf]; omega⟩
        · by_cases u2 : k ≤ m
          · have v0 := (show (n : Int) > (m : Int) by omega)
            have v1 := (show ¬ (k : Int) ≥ (n : Int) by omega)
            have v2 := (show (k : Int) ≤ (m : Int) by omega)
            have hi : inB n m k = true := by unfold inB; split <;> simp <;> omega
            have hs := SV.out k hlt
            rw [hi] at hs
            simp only [if_true, Bool.false_eq_true, if_false] at hs
            rw [hqv, hov] at hs
            clear hi hqv hov hnv
            go_upto_region 16 with fail
            refine reg_in (by kernel_rfl) hlt HQ.out HO.out HN.out hs (fun c a a' w e h => HP.out c a a' w e h) ?_
            intros
            go_wp2
            exact ⟨⟨k + 1, by omega, rfl, d + 1, rfl⟩, by simp [intOf]; omega⟩
          · have v0 := (show (n : Int) > (m : Int) by omega)
            have v1 := (show ¬ (k : Int) ≥ (n : Int) by omega)
            have v2 := (show ¬ (k : Int) ≤ (m : Int) by omega)
            have hi : inB n m k = false := by unfold inB; split <;> simp <;> omega
            have hs := SV.out k hlt
            rw [hi] at hs
            simp only [if_true, Bool.false_eq_true, if_false] at hs
            rw [hqv, hnv] at hs
            clear hi hqv hov hnv
            go_upto_region 16 with fail
            refine reg_out (by kernel_rfl) hlt HQ.out HO.out HN.out hs (fun c a a' w e h => HP.out c a a' w e h) ?_
            intros
            go_wp2
            exact ⟨⟨k + 1, by omega, rfl, d + 1, rfl⟩, by simp [intOf]; omega⟩
    · obtain rfl : k = 16 := by omega
      go_wp2
      exact HE.out d _ _ _ _ _ _ _ _ _ _ _ _ _ _ _ _ _ _ _ _ _ _ _ _ _ _ _ _ _ _ _ _ _ _ _ _ _ _ _ _ _ _ _ _ _ _ _ _ _
end Go.Proofs.Ythjdjbipfdigeaa
