/- Contracts and laws on the way to the statement, text 7 of 12. Conditions: as each states them. -/
import Derived.Test.YthjdjbipfdigeaaSw6
namespace Go.Proofs.Ythjdjbipfdigeaa
open Go.RowKit
set_option maxRecDepth 100000
set_option linter.unusedVariables false
set_option linter.unusedSimpArgs false
set_option maxRecDepth 1000000 in
set_option maxHeartbeats 16000000 in
theorem swaps_reg16 {u0 u1 u2 u3 u4 u6 u7 u9 u11 u12 u13 u14 u15 u16 u17 u18 u19 u20 u21 u22 u23 u24 u25 u26 u27 u28 u29 u30 u31 u32 u33 u34 u35 u36 u37 u38 u39 u40 u41 u42 u43 u44 u45 u46 u47 u48 u49 u50 u51 u52 u53 u54 u55 u56 u57 u58 u59 u60 u61 u62 u63 u64 u65 u66 u67 u68 u69 u70 u71 u72 u73 u74 u75 u76 u77 u78 u79 u80 u81 u82 u83 u84 u85 u86 u87 u88 u89 u90 u91 u92 u93 u94 u95 u96 u97 u98 u99 u100 u101 u102 u103 u104 u105 u106 u107 u108 u109 u110 u111 u112 u113 u114 u115 u116 u117 u118 u119 u120 u121 u122 u123 u124 u125 u126 u127 u128 u129 u130 u131 u132 u133 : Value} {n : Nat} {a0 a1 a2 a3 a4 a5 a6 a7 a8 a9 a10 a11 a12 a13 a14 a15 n0 n1 n2 n3 n4 n5 n6 n7 n8 n9 n10 n11 n12 n13 n14 n15 cq cd : Int} (hn0 : 1 ≤ (n : Int)) (hn1 : (n : Int) ≤ 256) {bs2 : List Int} {F : Foot} {bs ks : List Int} {go z_ : Nat} {ops : Array Oper} (hops : (Try.f7.body.bind (regOpsH 16)) = some ops) {Q : Exit → Act → World → Prop} {ds : List Deferred} {W : World} (hQ : ∀ (c : List PanicEntry) (a a' : Act) (w : World), a'.defers = a.defers → Q (.panic c) a' w → Q (.panic c) a w) (hS : St 71 W F bs ks) (hB10 : Bk W go 28 [.int .u32 a0, .int .u32 a1, .int .u32 a2, .int .u32 a3, .int .u32 a4, .int .u32 a5, .int .u32 a6, .int .u32 a7, .int .u32 a8, .int .u32 a9, .int .u32 a10, .int .u32 a11, .int .u32 a12, .int .u32 a13, .int .u32 a14, .int .u32 a15]) (hn10 : go ≠ F.gb) (hm10 : go ≠ F.g) (hk10 : go ≠ F.gk) (hx : ∀ w, St 71 w F bs ks → Calls Try.prog 14 #[.agg #[.int .i64 215, .int .i64 5, .int .i64 0, .int .i64 0, .int .i64 0, .int .i64 14, .int .i64 0, .int .i64 15, .int .i64 0, .int .i64 ((n : Int) - 1), .int .i64 0, .int .i64 0], .agg #[.int .u32 a0, .int .u32 a1, .int .u32 a2, .int .u32 a3, .int .u32 a4, .int .u32 a5, .int .u32 a6, .int .u32 a7, .int .u32 a8, .int .u32 a9, .int .u32 a10, .int .u32 a11, .int .u32 a12, .int .u32 a13, .int .u32 a14, .int .u32 a15], .agg #[.int .i64 0, .int .i64 0, .bool false, .bool false, .bool false, .int .i64 0, .int .i64 0, .int .i64 0, .int .i64 0, .int .i64 0], .pointer (some ⟨F.g, 0, none⟩)] w fun e w' => e = .returned (.tuple #[.agg #[.int .u32 n0, .int .u32 n1, .int .u32 n2, .int .u32 n3, .int .u32 n4, .int .u32 n5, .int .u32 n6, .int .u32 n7, .int .u32 n8, .int .u32 n9, .int .u32 n10, .int .u32 n11, .int .u32 n12, .int .u32 n13, .int .u32 n14, .int .u32 n15], .agg #[.int .i64 0, .int .i64 0, .bool false, .bool false, .bool false, .int .i64 0, .int .i64 0, .int .i64 cq, .int .i64 0, .int .i64 0], .int .i64 cd]) ∧ St 71 w' F bs2 ks ∧ Ch w w' [F.gb])
    (h : ∀ (w' : World) (x81 x82 x83 x84 x85 x86 x80 x87 x88 x89 : Value) (g12 g13 z_ : Nat), St 71 w' F bs2 ks → Bk w' go 28 [.int .u32 a0, .int .u32 a1, .int .u32 a2, .int .u32 a3, .int .u32 a4, .int .u32 a5, .int .u32 a6, .int .u32 a7, .int .u32 a8, .int .u32 a9, .int .u32 a10, .int .u32 a11, .int .u32 a12, .int .u32 a13, .int .u32 a14, .int .u32 a15] → Bk w' g12 28 [.int .u32 n0, .int .u32 n1, .int .u32 n2, .int .u32 n3, .int .u32 n4, .int .u32 n5, .int .u32 n6, .int .u32 n7, .int .u32 n8, .int .u32 n9, .int .u32 n10, .int .u32 n11, .int .u32 n12, .int .u32 n13, .int .u32 n14, .int .u32 n15] → Bk w' g13 30 [.int .i64 0, .int .i64 0, .bool false, .bool false, .bool false, .int .i64 0, .int .i64 0, .int .i64 cq, .int .i64 0, .int .i64 0] → W.heap.size ≤ g12 → W.heap.size ≤ g13 →  Ch W w'  [F.gb] → Q .normal { tmps := #[u0, u1, u2, u3, u4, .int .i64 (n : Int), u6, u7, .pointer (some ⟨F.g, 0, none⟩), u9, .pointer (some ⟨go, 0, none⟩), u11, .pointer (some ⟨g12, 0, none⟩), .pointer (some ⟨g13, 0, none⟩), .int .i64 cd, u15, u16, u17, u18, u19, u20, u21, u22, u23, u24, u25, u26, u27, u28, u29, u30, u31, u32, u33, u34, u35, u36, u37, u38, u39, u40, u41, u42, u43, u44, u45, u46, u47, u48, u49, u50, u51, u52, u53, u54, u55, u56, u57, u58, u59, u60, u61, u62, u63, u64, u65, u66, u67, u68, u69, u70, u71, u72, u73, u74, u75, u76, u77, u78, u79, x80, x81, x82, x83, x84, x85, x86, x87, x88, x89, u90, u91, u92, u93, u94, u95, u96, u97, u98, u99, u100, u101, u102, u103, u104, u105, u106, u107, u108, u109, u110, u111, u112, u113, u114, u115, u116, u117, u118, u119, u120, u121, u122, u123, u124, u125, u126, u127, u128, u129, u130, u131, u132, u133], defers := ds } w') : Code.wp Try.prog (Code.region 16 ops true) Q { tmps := #[u0, u1, u2, u3, u4, .int .i64 (n : Int), u6, u7, .pointer (some ⟨F.g, 0, none⟩), u9, .pointer (some ⟨go, 0, none⟩), u11, u12, u13, u14, u15, u16, u17, u18, u19, u20, u21, u22, u23, u24, u25, u26, u27, u28, u29, u30, u31, u32, u33, u34, u35, u36, u37, u38, u39, u40, u41, u42, u43, u44, u45, u46, u47, u48, u49, u50, u51, u52, u53, u54, u55, u56, u57, u58, u59, u60, u61, u62, u63, u64, u65, u66, u67, u68, u69, u70, u71, u72, u73, u74, u75, u76, u77, u78, u79, u80, u81, u82, u83, u84, u85, u86, u87, u88, u89, u90, u91, u92, u93, u94, u95, u96, u97, u98, u99, u100, u101, u102, u103, u104, u105, u106, u107, u108, u109, u110, u111, u112, u113, u114, u115, u116, u117, u118, u119, u120, u121, u122, u123, u124, u125, u126, u127, u128, u129, u130, u131, u132, u133], defers := ds } W := by
  simp [Try.f7, regOpsH] at hops
  subst hops
  have H := Lib.hid h
  have HX := Lib.hid hx
  have L1 := hS.ltg
  have L2 := hS.ltb
  have L3 := hS.ltk
  have BL10 := hB10.lt
  have S0 := Lib.hid hS
  have B0_10 := Lib.hid hB10
  clear h hx hS hB10
  refine' share2 (P := (fun A q12 q13 => St 71 A F bs2 ks ∧ Ch W A [F.gb] ∧ Bk A go 28 [.int .u32 a0, .int .u32 a1, .int .u32 a2, .int .u32 a3, .int .u32 a4, .int .u32 a5, .int .u32 a6, .int .u32 a7, .int .u32 a8, .int .u32 a9, .int .u32 a10, .int .u32 a11, .int .u32 a12, .int .u32 a13, .int .u32 a14, .int .u32 a15] ∧ Bk A q12 28 [.int .u32 0, .int .u32 0, .int .u32 0, .int .u32 0, .int .u32 0, .int .u32 0, .int .u32 0, .int .u32 0, .int .u32 0, .int .u32 0, .int .u32 0, .int .u32 0, .int .u32 0, .int .u32 0, .int .u32 0, .int .u32 0] ∧ Bk A q13 30 [.int .i64 0, .int .i64 0, .bool false, .bool false, .bool false, .int .i64 0, .int .i64 0, .int .i64 0, .int .i64 0, .int .i64 0] ∧ W.heap.size ≤ q12 ∧ W.heap.size ≤ q13 ∧ go ≠ q12 ∧ go ≠ q13 ∧ q12 ≠ q13 ∧ True)) (fun TL => ?tree) ?tail
  case tree =>
    obtain ⟨A, hWd⟩ : ∃ Wd, W.drew = Wd := ⟨_, rfl⟩
    have hsz : A.heap.size = W.heap.size := by rw [← hWd]; rfl
    have S : Hid (St 71 A F bs ks) := by rw [← hWd]; exact S0.out.drewN 1
    have C : Hid (Ch W A [F.gb]) := by rw [← hWd]; exact (Ch.refl W _).drewN 1
    have B10 : Hid (Bk A go 28 [.int .u32 a0, .int .u32 a1, .int .u32 a2, .int .u32 a3, .int .u32 a4, .int .u32 a5, .int .u32 a6, .int .u32 a7, .int .u32 a8, .int .u32 a9, .int .u32 a10, .int .u32 a11, .int .u32 a12, .int .u32 a13, .int .u32 a14, .int .u32 a15]) := by rw [← hWd]; exact B0_10.out.drewN 1
    refine wp_region_held_drew (S := (fun w' => Bk w' go 28 [.int .u32 a0, .int .u32 a1, .int .u32 a2, .int .u32 a3, .int .u32 a4, .int .u32 a5, .int .u32 a6, .int .u32 a7, .int .u32 a8, .int .u32 a9, .int .u32 a10, .int .u32 a11, .int .u32 a12, .int .u32 a13, .int .u32 a14, .int .u32 a15])) (by kernel_rfl) ?_ (fun hHeld => ?_)
    · (try dsimp only); (try rw [hWd]); exact B10.out
    rw [hWd]
    clear hWd hsz
    refine' takeL (i := 0) (v := _) rfl (by kernel_rfl) (by kernel_rfl) (by kernel_rfl) (fun c a w => hQ c a _ w rfl) (Or.inl ⟨by rfl, ?yy106⟩) (by assumption) ?rr106
    case yy106 => intro w hSw; (try dsimp only at hSw); go_simp; (try with_reducible rfl)
    try simp only [Act.put, List.setIfInBounds_toArray, List.set_cons_zero, List.set_cons_succ]
    refine' takeL (i := 2) (v := .agg #[.int .u32 a0, .int .u32 a1, .int .u32 a2, .int .u32 a3, .int .u32 a4, .int .u32 a5, .int .u32 a6, .int .u32 a7, .int .u32 a8, .int .u32 a9, .int .u32 a10, .int .u32 a11, .int .u32 a12, .int .u32 a13, .int .u32 a14, .int .u32 a15]) rfl (by kernel_rfl) (by kernel_rfl) (by kernel_rfl) (fun c a w => hQ c a _ w rfl) (Or.inl ⟨by rfl, ?yy107⟩) (by assumption) ?rr107
    case yy107 => intro w hSw; (try dsimp only at hSw); have q0 := hSw.cell (c := 0) rfl; have q1 := hSw.cell (c := 1) rfl; have q2 := hSw.cell (c := 2) rfl; have q3 := hSw.cell (c := 3) rfl; have q4 := hSw.cell (c := 4) rfl; have q5 := hSw.cell (c := 5) rfl; have q6 := hSw.cell (c := 6) rfl; have q7 := hSw.cell (c := 7) rfl; have q8 := hSw.cell (c := 8) rfl; have q9 := hSw.cell (c := 9) rfl; have q10 := hSw.cell (c := 10) rfl; have q11 := hSw.cell (c := 11) rfl; have q12 := hSw.cell (c := 12) rfl; have q13 := hSw.cell (c := 13) rfl; have q14 := hSw.cell (c := 14) rfl; have q15 := hSw.cell (c := 15) rfl; go_simp; (try with_reducible rfl)
    try simp only [Act.put, List.setIfInBounds_toArray, List.set_cons_zero, List.set_cons_succ]
    refine' takeL (i := 3) (v := _) rfl (by kernel_rfl) (by kernel_rfl) (by kernel_rfl) (fun c a w => hQ c a _ w rfl) (Or.inl ⟨by rfl, ?yy108⟩) (by assumption) ?rr108
    case yy108 => intro w hSw; (try dsimp only at hSw); go_simp; (try with_reducible rfl)
    try simp only [Act.put, List.setIfInBounds_toArray, List.set_cons_zero, List.set_cons_succ]
    refine' takeL (i := 4) (v := _) rfl (by kernel_rfl) (by kernel_rfl) (by kernel_rfl) (fun c a w => hQ c a _ w rfl) (Or.inl ⟨by rfl, ?yy109⟩) (by assumption) ?rr109
    case yy109 => intro w hSw; (try dsimp only at hSw); go_simp; (try with_reducible rfl)
    try simp only [Act.put, List.setIfInBounds_toArray, List.set_cons_zero, List.set_cons_succ]
    refine wpAnyH_ready (rs := [1, 10, 11]) (by kernel_rfl) (by simp) ?_
    refine consL rfl (fun K hK => ?_) ?_
    · go_simp
      go_at_call 17
      refine (ss_c 215 (n : Int) _ (by omega) (by omega)).mono ?_
      rintro e V ⟨rfl, hb⟩
      replace S := Lib.hid (S.out.belowS hb)
      replace C := Lib.hid (C.out.trans (Ch.of_below hb _))
      replace B10 := Lib.hid (B10.out.keep hb)
      clear hb hHeld
      clear A
      rename World => A
      go_wp2_with fail
      refine hK.out _ _ ?_ (fun hHeld => ?_)
      focus ((try dsimp only); exact B10.out)
      clear hK K
      try simp only [Act.put, List.setIfInBounds_toArray, List.set_cons_zero, List.set_cons_succ]
      refine wpAnyH_ready (rs := [5, 10, 11]) (by kernel_rfl) (by simp) ?_
      refine consL rfl (fun K hK => ?_) ?_
      · go_simp
        go_at_call 14
        refine (HX.out _ S.out).mono ?_
        rintro e V ⟨rfl, hs, hc⟩
        replace S := Lib.hid hs
        replace C := Lib.hid (C.out.trans (hc.mono (by simp)))
        replace B10 := Lib.hid (B10.out.ch hc (by simp; omega))
        clear hs hc hHeld
        clear A
        rename World => A
        go_wp2_with fail
        refine hK.out _ _ ?_ (fun hHeld => ?_)
        focus ((try dsimp only); exact B10.out)
        clear hK K
        try simp only [Act.put, List.setIfInBounds_toArray, List.set_cons_zero, List.set_cons_succ]
        refine' takeL (i := 6) (v := _) rfl (by kernel_rfl) (by kernel_rfl) (by kernel_rfl) (fun c a w => hQ c a _ w rfl) (Or.inl ⟨by rfl, ?yy110⟩) (by assumption) ?rr110
        case yy110 => intro w hSw; (try dsimp only at hSw); go_simp; (try with_reducible rfl)
        try simp only [Act.put, List.setIfInBounds_toArray, List.set_cons_zero, List.set_cons_succ]
        refine' takeL (i := 7) (v := _) rfl (by kernel_rfl) (by kernel_rfl) (by kernel_rfl) (fun c a w => hQ c a _ w rfl) (Or.inl ⟨by rfl, ?yy111⟩) (by assumption) ?rr111
        case yy111 => intro w hSw; (try dsimp only at hSw); go_simp; (try with_reducible rfl)
        try simp only [Act.put, List.setIfInBounds_toArray, List.set_cons_zero, List.set_cons_succ]
        refine' takeL (i := 8) (v := _) rfl (by kernel_rfl) (by kernel_rfl) (by kernel_rfl) (fun c a w => hQ c a _ w rfl) (Or.inl ⟨by rfl, ?yy112⟩) (by assumption) ?rr112
        case yy112 => intro w hSw; (try dsimp only at hSw); go_simp; (try with_reducible rfl)
        try simp only [Act.put, List.setIfInBounds_toArray, List.set_cons_zero, List.set_cons_succ]
        refine' takeL (i := 9) (v := _) rfl (by kernel_rfl) (by kernel_rfl) (by kernel_rfl) (fun c a w => hQ c a _ w rfl) (Or.inl ⟨by rfl, ?yy113⟩) (by assumption) ?rr113
        case yy113 => intro w hSw; (try dsimp only at hSw); go_simp; (try with_reducible rfl)
        try simp only [Act.put, List.setIfInBounds_toArray, List.set_cons_zero, List.set_cons_succ]
        refine wpAnyH_ready (rs := [10, 11]) (by kernel_rfl) (by simp) ?_
        refine consL rfl (fun K hK => ?_) ?_
        · go_simp
          obtain ⟨q12, hg⟩ : ∃ q, A.heap.size = q := ⟨_, rfl⟩
          have ge12 : W.heap.size ≤ q12 := by have := C.out.size; omega
          have ne12_10 : q12 ≠ go := by have := B10.out.lt; omega
          obtain ⟨V, hW⟩ : ∃ V, A.alloc (.cells #[.int .u32 0, .int .u32 0, .int .u32 0, .int .u32 0, .int .u32 0, .int .u32 0, .int .u32 0, .int .u32 0, .int .u32 0, .int .u32 0, .int .u32 0, .int .u32 0, .int .u32 0, .int .u32 0, .int .u32 0, .int .u32 0] 28) = V := ⟨_, rfl⟩
          have B12 : Hid (Bk V q12 28 [.int .u32 0, .int .u32 0, .int .u32 0, .int .u32 0, .int .u32 0, .int .u32 0, .int .u32 0, .int .u32 0, .int .u32 0, .int .u32 0, .int .u32 0, .int .u32 0, .int .u32 0, .int .u32 0, .int .u32 0, .int .u32 0]) := by rw [← hW, ← hg]; exact Bk.new A [.int .u32 0, .int .u32 0, .int .u32 0, .int .u32 0, .int .u32 0, .int .u32 0, .int .u32 0, .int .u32 0, .int .u32 0, .int .u32 0, .int .u32 0, .int .u32 0, .int .u32 0, .int .u32 0, .int .u32 0, .int .u32 0] 28
          replace S : Hid (St 71 V F bs2 ks) := by rw [← hW]; exact S.out.alloc _
          replace C : Hid (Ch W V [F.gb]) := by rw [← hW]; exact C.out.alloc _
          replace B10 : Hid (Bk V go 28 [.int .u32 a0, .int .u32 a1, .int .u32 a2, .int .u32 a3, .int .u32 a4, .int .u32 a5, .int .u32 a6, .int .u32 a7, .int .u32 a8, .int .u32 a9, .int .u32 a10, .int .u32 a11, .int .u32 a12, .int .u32 a13, .int .u32 a14, .int .u32 a15]) := by rw [← hW]; exact B10.out.alloc _
          rw [hW]
          try rw [hg]
          clear hW hg hHeld
          clear A
          rename World => A
          refine hK.out _ _ ?_ (fun hHeld => ?_)
          focus ((try dsimp only); exact B10.out)
          clear hK K
          try simp only [Act.put, List.setIfInBounds_toArray, List.set_cons_zero, List.set_cons_succ]
          refine wpAnyH_ready (rs := [11]) (by kernel_rfl) (by simp) ?_
          refine consL rfl (fun K hK => ?_) AllReadyH.nil
          go_simp
          obtain ⟨q13, hg⟩ : ∃ q, A.heap.size = q := ⟨_, rfl⟩
          have ge13 : W.heap.size ≤ q13 := by have := C.out.size; omega
          have ne13_10 : q13 ≠ go := by have := B10.out.lt; omega
          have ne13_12 : q13 ≠ q12 := by have := B12.out.lt; omega
          obtain ⟨V, hW⟩ : ∃ V, A.alloc (.cells #[.int .i64 0, .int .i64 0, .bool false, .bool false, .bool false, .int .i64 0, .int .i64 0, .int .i64 0, .int .i64 0, .int .i64 0] 30) = V := ⟨_, rfl⟩
          have B13 : Hid (Bk V q13 30 [.int .i64 0, .int .i64 0, .bool false, .bool false, .bool false, .int .i64 0, .int .i64 0, .int .i64 0, .int .i64 0, .int .i64 0]) := by rw [← hW, ← hg]; exact Bk.new A [.int .i64 0, .int .i64 0, .bool false, .bool false, .bool false, .int .i64 0, .int .i64 0, .int .i64 0, .int .i64 0, .int .i64 0] 30
          replace S : Hid (St 71 V F bs2 ks) := by rw [← hW]; exact S.out.alloc _
          replace C : Hid (Ch W V [F.gb]) := by rw [← hW]; exact C.out.alloc _
          replace B10 : Hid (Bk V go 28 [.int .u32 a0, .int .u32 a1, .int .u32 a2, .int .u32 a3, .int .u32 a4, .int .u32 a5, .int .u32 a6, .int .u32 a7, .int .u32 a8, .int .u32 a9, .int .u32 a10, .int .u32 a11, .int .u32 a12, .int .u32 a13, .int .u32 a14, .int .u32 a15]) := by rw [← hW]; exact B10.out.alloc _
          replace B12 : Hid (Bk V q12 28 [.int .u32 0, .int .u32 0, .int .u32 0, .int .u32 0, .int .u32 0, .int .u32 0, .int .u32 0, .int .u32 0, .int .u32 0, .int .u32 0, .int .u32 0, .int .u32 0, .int .u32 0, .int .u32 0, .int .u32 0, .int .u32 0]) := by rw [← hW]; exact B12.out.alloc _
          rw [hW]
          try rw [hg]
          clear hW hg hHeld
          clear A
          rename World => A
          refine hK.out _ _ ?_ (fun hHeld => ?_)
          focus ((try dsimp only); exact B10.out)
          clear hK K
          try simp only [Act.put, List.setIfInBounds_toArray, List.set_cons_zero, List.set_cons_succ]
          exact TL A q12 q13 ⟨S.out, C.out, B10.out, B12.out, B13.out, ge12, ge13, by omega, by omega, by omega, trivial⟩
        refine consL rfl (fun K hK => ?_) AllReadyH.nil
        go_simp
        obtain ⟨q13, hg⟩ : ∃ q, A.heap.size = q := ⟨_, rfl⟩
        have ge13 : W.heap.size ≤ q13 := by have := C.out.size; omega
        have ne13_10 : q13 ≠ go := by have := B10.out.lt; omega
        obtain ⟨V, hW⟩ : ∃ V, A.alloc (.cells #[.int .i64 0, .int .i64 0, .bool false, .bool false, .bool false, .int .i64 0, .int .i64 0, .int .i64 0, .int .i64 0, .int .i64 0] 30) = V := ⟨_, rfl⟩
        have B13 : Hid (Bk V q13 30 [.int .i64 0, .int .i64 0, .bool false, .bool false, .bool false, .int .i64 0, .int .i64 0, .int .i64 0, .int .i64 0, .int .i64 0]) := by rw [← hW, ← hg]; exact Bk.new A [.int .i64 0, .int .i64 0, .bool false, .bool false, .bool false, .int .i64 0, .int .i64 0, .int .i64 0, .int .i64 0, .int .i64 0] 30
        replace S : Hid (St 71 V F bs2 ks) := by rw [← hW]; exact S.out.alloc _
        replace C : Hid (Ch W V [F.gb]) := by rw [← hW]; exact C.out.alloc _
        replace B10 : Hid (Bk V go 28 [.int .u32 a0, .int .u32 a1, .int .u32 a2, .int .u32 a3, .int .u32 a4, .int .u32 a5, .int .u32 a6, .int .u32 a7, .int .u32 a8, .int .u32 a9, .int .u32 a10, .int .u32 a11, .int .u32 a12, .int .u32 a13, .int .u32 a14, .int .u32 a15]) := by rw [← hW]; exact B10.out.alloc _
        rw [hW]
        try rw [hg]
        clear hW hg hHeld
        clear A
        rename World => A
        refine hK.out _ _ ?_ (fun hHeld => ?_)
        focus ((try dsimp only); exact B10.out)
        clear hK K
        try simp only [Act.put, List.setIfInBounds_toArray, List.set_cons_zero, List.set_cons_succ]
        refine wpAnyH_ready (rs := [10]) (by kernel_rfl) (by simp) ?_
        refine consL rfl (fun K hK => ?_) AllReadyH.nil
        go_simp
        obtain ⟨q12, hg⟩ : ∃ q, A.heap.size = q := ⟨_, rfl⟩
        have ge12 : W.heap.size ≤ q12 := by have := C.out.size; omega
        have ne12_10 : q12 ≠ go := by have := B10.out.lt; omega
        have ne12_13 : q12 ≠ q13 := by have := B13.out.lt; omega
        obtain ⟨V, hW⟩ : ∃ V, A.alloc (.cells #[.int .u32 0, .int .u32 0, .int .u32 0, .int .u32 0, .int .u32 0, .int .u32 0, .int .u32 0, .int .u32 0, .int .u32 0, .int .u32 0, .int .u32 0, .int .u32 0, .int .u32 0, .int .u32 0, .int .u32 0, .int .u32 0] 28) = V := ⟨_, rfl⟩
        have B12 : Hid (Bk V q12 28 [.int .u32 0, .int .u32 0, .int .u32 0, .int .u32 0, .int .u32 0, .int .u32 0, .int .u32 0, .int .u32 0, .int .u32 0, .int .u32 0, .int .u32 0, .int .u32 0, .int .u32 0, .int .u32 0, .int .u32 0, .int .u32 0]) := by rw [← hW, ← hg]; exact Bk.new A [.int .u32 0, .int .u32 0, .int .u32 0, .int .u32 0, .int .u32 0, .int .u32 0, .int .u32 0, .int .u32 0, .int .u32 0, .int .u32 0, .int .u32 0, .int .u32 0, .int .u32 0, .int .u32 0, .int .u32 0, .int .u32 0] 28
        replace S : Hid (St 71 V F bs2 ks) := by rw [← hW]; exact S.out.alloc _
        replace C : Hid (Ch W V [F.gb]) := by rw [← hW]; exact C.out.alloc _
        replace B10 : Hid (Bk V go 28 [.int .u32 a0, .int .u32 a1, .int .u32 a2, .int .u32 a3, .int .u32 a4, .int .u32 a5, .int .u32 a6, .int .u32 a7, .int .u32 a8, .int .u32 a9, .int .u32 a10, .int .u32 a11, .int .u32 a12, .int .u32 a13, .int .u32 a14, .int .u32 a15]) := by rw [← hW]; exact B10.out.alloc _
        replace B13 : Hid (Bk V q13 30 [.int .i64 0, .int .i64 0, .bool false, .bool false, .bool false, .int .i64 0, .int .i64 0, .int .i64 0, .int .i64 0, .int .i64 0]) := by rw [← hW]; exact B13.out.alloc _
        rw [hW]
        try rw [hg]
        clear hW hg hHeld
        clear A
        rename World => A
        refine hK.out _ _ ?_ (fun hHeld => ?_)
        focus ((try dsimp only); exact B10.out)
        clear hK K
        try simp only [Act.put, List.setIfInBounds_toArray, List.set_cons_zero, List.set_cons_succ]
        exact TL A q12 q13 ⟨S.out, C.out, B10.out, B12.out, B13.out, ge12, ge13, by omega, by omega, by omega, trivial⟩
      refine consL rfl (fun K hK => ?_) ?_
      · go_simp
        obtain ⟨q12, hg⟩ : ∃ q, A.heap.size = q := ⟨_, rfl⟩
        have ge12 : W.heap.size ≤ q12 := by have := C.out.size; omega
        have ne12_10 : q12 ≠ go := by have := B10.out.lt; omega
        obtain ⟨V, hW⟩ : ∃ V, A.alloc (.cells #[.int .u32 0, .int .u32 0, .int .u32 0, .int .u32 0, .int .u32 0, .int .u32 0, .int .u32 0, .int .u32 0, .int .u32 0, .int .u32 0, .int .u32 0, .int .u32 0, .int .u32 0, .int .u32 0, .int .u32 0, .int .u32 0] 28) = V := ⟨_, rfl⟩
        have B12 : Hid (Bk V q12 28 [.int .u32 0, .int .u32 0, .int .u32 0, .int .u32 0, .int .u32 0, .int .u32 0, .int .u32 0, .int .u32 0, .int .u32 0, .int .u32 0, .int .u32 0, .int .u32 0, .int .u32 0, .int .u32 0, .int .u32 0, .int .u32 0]) := by rw [← hW, ← hg]; exact Bk.new A [.int .u32 0, .int .u32 0, .int .u32 0, .int .u32 0, .int .u32 0, .int .u32 0, .int .u32 0, .int .u32 0, .int .u32 0, .int .u32 0, .int .u32 0, .int .u32 0, .int .u32 0, .int .u32 0, .int .u32 0, .int .u32 0] 28
        replace S : Hid (St 71 V F bs ks) := by rw [← hW]; exact S.out.alloc _
        replace C : Hid (Ch W V [F.gb]) := by rw [← hW]; exact C.out.alloc _
        replace B10 : Hid (Bk V go 28 [.int .u32 a0, .int .u32 a1, .int .u32 a2, .int .u32 a3, .int .u32 a4, .int .u32 a5, .int .u32 a6, .int .u32 a7, .int .u32 a8, .int .u32 a9, .int .u32 a10, .int .u32 a11, .int .u32 a12, .int .u32 a13, .int .u32 a14, .int .u32 a15]) := by rw [← hW]; exact B10.out.alloc _
        rw [hW]
        try rw [hg]
        clear hW hg hHeld
        clear A
        rename World => A
        refine hK.out _ _ ?_ (fun hHeld => ?_)
        focus ((try dsimp only); exact B10.out)
        clear hK K
        try simp only [Act.put, List.setIfInBounds_toArray, List.set_cons_zero, List.set_cons_succ]
        refine wpAnyH_ready (rs := [5, 11]) (by kernel_rfl) (by simp) ?_
        refine consL rfl (fun K hK => ?_) ?_
        · go_simp
          go_at_call 14
          refine (HX.out _ S.out).mono ?_
          rintro e V ⟨rfl, hs, hc⟩
          replace S := Lib.hid hs
          replace C := Lib.hid (C.out.trans (hc.mono (by simp)))
          replace B10 := Lib.hid (B10.out.ch hc (by simp; omega))
          replace B12 := Lib.hid (B12.out.ch hc (by simp; omega))
          clear hs hc hHeld
          clear A
          rename World => A
          go_wp2_with fail
          refine hK.out _ _ ?_ (fun hHeld => ?_)
          focus ((try dsimp only); exact B10.out)
          clear hK K
          try simp only [Act.put, List.setIfInBounds_toArray, List.set_cons_zero, List.set_cons_succ]
          refine' takeL (i := 6) (v := _) rfl (by kernel_rfl) (by kernel_rfl) (by kernel_rfl) (fun c a w => hQ c a _ w rfl) (Or.inl ⟨by rfl, ?yy114⟩) (by assumption) ?rr114
          case yy114 => intro w hSw; (try dsimp only at hSw); go_simp; (try with_reducible rfl)
          try simp only [Act.put, List.setIfInBounds_toArray, List.set_cons_zero, List.set_cons_succ]
          refine' takeL (i := 7) (v := _) rfl (by kernel_rfl) (by kernel_rfl) (by kernel_rfl) (fun c a w => hQ c a _ w rfl) (Or.inl ⟨by rfl, ?yy115⟩) (by assumption) ?rr115
          case yy115 => intro w hSw; (try dsimp only at hSw); go_simp; (try with_reducible rfl)
          try simp only [Act.put, List.setIfInBounds_toArray, List.set_cons_zero, List.set_cons_succ]
          refine' takeL (i := 8) (v := _) rfl (by kernel_rfl) (by kernel_rfl) (by kernel_rfl) (fun c a w => hQ c a _ w rfl) (Or.inl ⟨by rfl, ?yy116⟩) (by assumption) ?rr116
          case yy116 => intro w hSw; (try dsimp only at hSw); go_simp; (try with_reducible rfl)
          try simp only [Act.put, List.setIfInBounds_toArray, List.set_cons_zero, List.set_cons_succ]
          refine' takeL (i := 9) (v := _) rfl (by kernel_rfl) (by kernel_rfl) (by kernel_rfl) (fun c a w => hQ c a _ w rfl) (Or.inl ⟨by rfl, ?yy117⟩) (by assumption) ?rr117
          case yy117 => intro w hSw; (try dsimp only at hSw); go_simp; (try with_reducible rfl)
          try simp only [Act.put, List.setIfInBounds_toArray, List.set_cons_zero, List.set_cons_succ]
          refine wpAnyH_ready (rs := [11]) (by kernel_rfl) (by simp) ?_
          refine consL rfl (fun K hK => ?_) AllReadyH.nil
          go_simp
          obtain ⟨q13, hg⟩ : ∃ q, A.heap.size = q := ⟨_, rfl⟩
          have ge13 : W.heap.size ≤ q13 := by have := C.out.size; omega
          have ne13_10 : q13 ≠ go := by have := B10.out.lt; omega
          have ne13_12 : q13 ≠ q12 := by have := B12.out.lt; omega
          obtain ⟨V, hW⟩ : ∃ V, A.alloc (.cells #[.int .i64 0, .int .i64 0, .bool false, .bool false, .bool false, .int .i64 0, .int .i64 0, .int .i64 0, .int .i64 0, .int .i64 0] 30) = V := ⟨_, rfl⟩
          have B13 : Hid (Bk V q13 30 [.int .i64 0, .int .i64 0, .bool false, .bool false, .bool false, .int .i64 0, .int .i64 0, .int .i64 0, .int .i64 0, .int .i64 0]) := by rw [← hW, ← hg]; exact Bk.new A [.int .i64 0, .int .i64 0, .bool false, .bool false, .bool false, .int .i64 0, .int .i64 0, .int .i64 0, .int .i64 0, .int .i64 0] 30
          replace S : Hid (St 71 V F bs2 ks) := by rw [← hW]; exact S.out.alloc _
          replace C : Hid (Ch W V [F.gb]) := by rw [← hW]; exact C.out.alloc _
          replace B10 : Hid (Bk V go 28 [.int .u32 a0, .int .u32 a1, .int .u32 a2, .int .u32 a3, .int .u32 a4, .int .u32 a5, .int .u32 a6, .int .u32 a7, .int .u32 a8, .int .u32 a9, .int .u32 a10, .int .u32 a11, .int .u32 a12, .int .u32 a13, .int .u32 a14, .int .u32 a15]) := by rw [← hW]; exact B10.out.alloc _
          replace B12 : Hid (Bk V q12 28 [.int .u32 0, .int .u32 0, .int .u32 0, .int .u32 0, .int .u32 0, .int .u32 0, .int .u32 0, .int .u32 0, .int .u32 0, .int .u32 0, .int .u32 0, .int .u32 0, .int .u32 0, .int .u32 0, .int .u32 0, .int .u32 0]) := by rw [← hW]; exact B12.out.alloc _
          rw [hW]
          try rw [hg]
          clear hW hg hHeld
          clear A
          rename World => A
          refine hK.out _ _ ?_ (fun hHeld => ?_)
          focus ((try dsimp only); exact B10.out)
          clear hK K
          try simp only [Act.put, List.setIfInBounds_toArray, List.set_cons_zero, List.set_cons_succ]
          exact TL A q12 q13 ⟨S.out, C.out, B10.out, B12.out, B13.out, ge12, ge13, by omega, by omega, by omega, trivial⟩
        refine consL rfl (fun K hK => ?_) AllReadyH.nil
        go_simp
        obtain ⟨q13, hg⟩ : ∃ q, A.heap.size = q := ⟨_, rfl⟩
        have ge13 : W.heap.size ≤ q13 := by have := C.out.size; omega
        have ne13_10 : q13 ≠ go := by have := B10.out.lt; omega
        have ne13_12 : q13 ≠ q12 := by have := B12.out.lt; omega
        obtain ⟨V, hW⟩ : ∃ V, A.alloc (.cells #[.int .i64 0, .int .i64 0, .bool false, .bool false, .bool false, .int .i64 0, .int .i64 0, .int .i64 0, .int .i64 0, .int .i64 0] 30) = V := ⟨_, rfl⟩
        have B13 : Hid (Bk V q13 30 [.int .i64 0, .int .i64 0, .bool false, .bool false, .bool false, .int .i64 0, .int .i64 0, .int .i64 0, .int .i64 0, .int .i64 0]) := by rw [← hW, ← hg]; exact Bk.new A [.int .i64 0, .int .i64 0, .bool false, .bool false, .bool false, .int .i64 0, .int .i64 0, .int .i64 0, .int .i64 0, .int .i64 0] 30
        replace S : Hid (St 71 V F bs ks) := by rw [← hW]; exact S.out.alloc _
        replace C : Hid (Ch W V [F.gb]) := by rw [← hW]; exact C.out.alloc _
        replace B10 : Hid (Bk V go 28 [.int .u32 a0, .int .u32 a1, .int .u32 a2, .int .u32 a3, .int .u32 a4, .int .u32 a5, .int .u32 a6, .int .u32 a7, .int .u32 a8, .int .u32 a9, .int .u32 a10, .int .u32 a11, .int .u32 a12, .int .u32 a13, .int .u32 a14, .int .u32 a15]) := by rw [← hW]; exact B10.out.alloc _
        replace B12 : Hid (Bk V q12 28 [.int .u32 0, .int .u32 0, .int .u32 0, .int .u32 0, .int .u32 0, .int .u32 0, .int .u32 0, .int .u32 0, .int .u32 0, .int .u32 0, .int .u32 0, .int .u32 0, .int .u32 0, .int .u32 0, .int .u32 0, .int .u32 0]) := by rw [← hW]; exact B12.out.alloc _
        rw [hW]
        try rw [hg]
        clear hW hg hHeld
        clear A
        rename World => A
        refine hK.out _ _ ?_ (fun hHeld => ?_)
        focus ((try dsimp only); exact B10.out)
        clear hK K
        try simp only [Act.put, List.setIfInBounds_toArray, List.set_cons_zero, List.set_cons_succ]
        refine wpAnyH_ready (rs := [5]) (by kernel_rfl) (by simp) ?_
        refine consL rfl (fun K hK => ?_) AllReadyH.nil
        go_simp
        go_at_call 14
        refine (HX.out _ S.out).mono ?_
        rintro e V ⟨rfl, hs, hc⟩
        replace S := Lib.hid hs
        replace C := Lib.hid (C.out.trans (hc.mono (by simp)))
        replace B10 := Lib.hid (B10.out.ch hc (by simp; omega))
        replace B12 := Lib.hid (B12.out.ch hc (by simp; omega))
        replace B13 := Lib.hid (B13.out.ch hc (by simp; omega))
        clear hs hc hHeld
        clear A
        rename World => A
        go_wp2_with fail
        refine hK.out _ _ ?_ (fun hHeld => ?_)
        focus ((try dsimp only); exact B10.out)
        clear hK K
        try simp only [Act.put, List.setIfInBounds_toArray, List.set_cons_zero, List.set_cons_succ]
        refine' takeL (i := 6) (v := _) rfl (by kernel_rfl) (by kernel_rfl) (by kernel_rfl) (fun c a w => hQ c a _ w rfl) (Or.inl ⟨by rfl, ?yy118⟩) (by assumption) ?rr118
        case yy118 => intro w hSw; (try dsimp only at hSw); go_simp; (try with_reducible rfl)
        try simp only [Act.put, List.setIfInBounds_toArray, List.set_cons_zero, List.set_cons_succ]
        refine' takeL (i := 7) (v := _) rfl (by kernel_rfl) (by kernel_rfl) (by kernel_rfl) (fun c a w => hQ c a _ w rfl) (Or.inl ⟨by rfl, ?yy119⟩) (by assumption) ?rr119
        case yy119 => intro w hSw; (try dsimp only at hSw); go_simp; (try with_reducible rfl)
        try simp only [Act.put, List.setIfInBounds_toArray, List.set_cons_zero, List.set_cons_succ]
        refine' takeL (i := 8) (v := _) rfl (by kernel_rfl) (by kernel_rfl) (by kernel_rfl) (fun c a w => hQ c a _ w rfl) (Or.inl ⟨by rfl, ?yy120⟩) (by assumption) ?rr120
        case yy120 => intro w hSw; (try dsimp only at hSw); go_simp; (try with_reducible rfl)
        try simp only [Act.put, List.setIfInBounds_toArray, List.set_cons_zero, List.set_cons_succ]
        refine' takeL (i := 9) (v := _) rfl (by kernel_rfl) (by kernel_rfl) (by kernel_rfl) (fun c a w => hQ c a _ w rfl) (Or.inl ⟨by rfl, ?yy121⟩) (by assumption) ?rr121
        case yy121 => intro w hSw; (try dsimp only at hSw); go_simp; (try with_reducible rfl)
        try simp only [Act.put, List.setIfInBounds_toArray, List.set_cons_zero, List.set_cons_succ]
        exact TL A q12 q13 ⟨S.out, C.out, B10.out, B12.out, B13.out, ge12, ge13, by omega, by omega, by omega, trivial⟩
      refine consL rfl (fun K hK => ?_) AllReadyH.nil
      go_simp
      obtain ⟨q13, hg⟩ : ∃ q, A.heap.size = q := ⟨_, rfl⟩
      have ge13 : W.heap.size ≤ q13 := by have := C.out.size; omega
      have ne13_10 : q13 ≠ go := by have := B10.out.lt; omega
      obtain ⟨V, hW⟩ : ∃ V, A.alloc (.cells #[.int .i64 0, .int .i64 0, .bool false, .bool false, .bool false, .int .i64 0, .int .i64 0, .int .i64 0, .int .i64 0, .int .i64 0] 30) = V := ⟨_, rfl⟩
      have B13 : Hid (Bk V q13 30 [.int .i64 0, .int .i64 0, .bool false, .bool false, .bool false, .int .i64 0, .int .i64 0, .int .i64 0, .int .i64 0, .int .i64 0]) := by rw [← hW, ← hg]; exact Bk.new A [.int .i64 0, .int .i64 0, .bool false, .bool false, .bool false, .int .i64 0, .int .i64 0, .int .i64 0, .int .i64 0, .int .i64 0] 30
      replace S : Hid (St 71 V F bs ks) := by rw [← hW]; exact S.out.alloc _
      replace C : Hid (Ch W V [F.gb]) := by rw [← hW]; exact C.out.alloc _
      replace B10 : Hid (Bk V go 28 [.int .u32 a0, .int .u32 a1, .int .u32 a2, .int .u32 a3, .int .u32 a4, .int .u32 a5, .int .u32 a6, .int .u32 a7, .int .u32 a8, .int .u32 a9, .int .u32 a10, .int .u32 a11, .int .u32 a12, .int .u32 a13, .int .u32 a14, .int .u32 a15]) := by rw [← hW]; exact B10.out.alloc _
      rw [hW]
      try rw [hg]
      clear hW hg hHeld
      clear A
      rename World => A
      refine hK.out _ _ ?_ (fun hHeld => ?_)
      focus ((try dsimp only); exact B10.out)
      clear hK K
      try simp only [Act.put, List.setIfInBounds_toArray, List.set_cons_zero, List.set_cons_succ]
      refine wpAnyH_ready (rs := [5, 10]) (by kernel_rfl) (by simp) ?_
      refine consL rfl (fun K hK => ?_) ?_
      · go_simp
        go_at_call 14
        refine (HX.out _ S.out).mono ?_
        rintro e V ⟨rfl, hs, hc⟩
        replace S := Lib.hid hs
        replace C := Lib.hid (C.out.trans (hc.mono (by simp)))
        replace B10 := Lib.hid (B10.out.ch hc (by simp; omega))
        replace B13 := Lib.hid (B13.out.ch hc (by simp; omega))
        clear hs hc hHeld
        clear A
        rename World => A
        go_wp2_with fail
        refine hK.out _ _ ?_ (fun hHeld => ?_)
        focus ((try dsimp only); exact B10.out)
        clear hK K
        try simp only [Act.put, List.setIfInBounds_toArray, List.set_cons_zero, List.set_cons_succ]
        refine' takeL (i := 6) (v := _) rfl (by kernel_rfl) (by kernel_rfl) (by kernel_rfl) (fun c a w => hQ c a _ w rfl) (Or.inl ⟨by rfl, ?yy122⟩) (by assumption) ?rr122
        case yy122 => intro w hSw; (try dsimp only at hSw); go_simp; (try with_reducible rfl)
        try simp only [Act.put, List.setIfInBounds_toArray, List.set_cons_zero, List.set_cons_succ]
        refine' takeL (i := 7) (v := _) rfl (by kernel_rfl) (by kernel_rfl) (by kernel_rfl) (fun c a w => hQ c a _ w rfl) (Or.inl ⟨by rfl, ?yy123⟩) (by assumption) ?rr123
        case yy123 => intro w hSw; (try dsimp only at hSw); go_simp; (try with_reducible rfl)
        try simp only [Act.put, List.setIfInBounds_toArray, List.set_cons_zero, List.set_cons_succ]
        refine' takeL (i := 8) (v := _) rfl (by kernel_rfl) (by kernel_rfl) (by kernel_rfl) (fun c a w => hQ c a _ w rfl) (Or.inl ⟨by rfl, ?yy124⟩) (by assumption) ?rr124
        case yy124 => intro w hSw; (try dsimp only at hSw); go_simp; (try with_reducible rfl)
        try simp only [Act.put, List.setIfInBounds_toArray, List.set_cons_zero, List.set_cons_succ]
        refine' takeL (i := 9) (v := _) rfl (by kernel_rfl) (by kernel_rfl) (by kernel_rfl) (fun c a w => hQ c a _ w rfl) (Or.inl ⟨by rfl, ?yy125⟩) (by assumption) ?rr125
        case yy125 => intro w hSw; (try dsimp only at hSw); go_simp; (try with_reducible rfl)
        try simp only [Act.put, List.setIfInBounds_toArray, List.set_cons_zero, List.set_cons_succ]
        refine wpAnyH_ready (rs := [10]) (by kernel_rfl) (by simp) ?_
        refine consL rfl (fun K hK => ?_) AllReadyH.nil
        go_simp
        obtain ⟨q12, hg⟩ : ∃ q, A.heap.size = q := ⟨_, rfl⟩
        have ge12 : W.heap.size ≤ q12 := by have := C.out.size; omega
        have ne12_10 : q12 ≠ go := by have := B10.out.lt; omega
        have ne12_13 : q12 ≠ q13 := by have := B13.out.lt; omega
        obtain ⟨V, hW⟩ : ∃ V, A.alloc (.cells #[.int .u32 0, .int .u32 0, .int .u32 0, .int .u32 0, .int .u32 0, .int .u32 0, .int .u32 0, .int .u32 0, .int .u32 0, .int .u32 0, .int .u32 0, .int .u32 0, .int .u32 0, .int .u32 0, .int .u32 0, .int .u32 0] 28) = V := ⟨_, rfl⟩
        have B12 : Hid (Bk V q12 28 [.int .u32 0, .int .u32 0, .int .u32 0, .int .u32 0, .int .u32 0, .int .u32 0, .int .u32 0, .int .u32 0, .int .u32 0, .int .u32 0, .int .u32 0, .int .u32 0, .int .u32 0, .int .u32 0, .int .u32 0, .int .u32 0]) := by rw [← hW, ← hg]; exact Bk.new A [.int .u32 0, .int .u32 0, .int .u32 0, .int .u32 0, .int .u32 0, .int .u32 0, .int .u32 0, .int .u32 0, .int .u32 0, .int .u32 0, .int .u32 0, .int .u32 0, .int .u32 0, .int .u32 0, .int .u32 0, .int .u32 0] 28
        replace S : Hid (St 71 V F bs2 ks) := by rw [← hW]; exact S.out.alloc _
        replace C : Hid (Ch W V [F.gb]) := by rw [← hW]; exact C.out.alloc _
        replace B10 : Hid (Bk V go 28 [.int .u32 a0, .int .u32 a1, .int .u32 a2, .int .u32 a3, .int .u32 a4, .int .u32 a5, .int .u32 a6, .int .u32 a7, .int .u32 a8, .int .u32 a9, .int .u32 a10, .int .u32 a11, .int .u32 a12, .int .u32 a13, .int .u32 a14, .int .u32 a15]) := by rw [← hW]; exact B10.out.alloc _
        replace B13 : Hid (Bk V q13 30 [.int .i64 0, .int .i64 0, .bool false, .bool false, .bool false, .int .i64 0, .int .i64 0, .int .i64 0, .int .i64 0, .int .i64 0]) := by rw [← hW]; exact B13.out.alloc _
        rw [hW]
        try rw [hg]
        clear hW hg hHeld
        clear A
        rename World => A
        refine hK.out _ _ ?_ (fun hHeld => ?_)
        focus ((try dsimp only); exact B10.out)
        clear hK K
        try simp only [Act.put, List.setIfInBounds_toArray, List.set_cons_zero, List.set_cons_succ]
        exact TL A q12 q13 ⟨S.out, C.out, B10.out, B12.out, B13.out, ge12, ge13, by omega, by omega, by omega, trivial⟩
      refine consL rfl (fun K hK => ?_) AllReadyH.nil
      go_simp
      obtain ⟨q12, hg⟩ : ∃ q, A.heap.size = q := ⟨_, rfl⟩
      have ge12 : W.heap.size ≤ q12 := by have := C.out.size; omega
      have ne12_10 : q12 ≠ go := by have := B10.out.lt; omega
      have ne12_13 : q12 ≠ q13 := by have := B13.out.lt; omega
      obtain ⟨V, hW⟩ : ∃ V, A.alloc (.cells #[.int .u32 0, .int .u32 0, .int .u32 0, .int .u32 0, .int .u32 0, .int .u32 0, .int .u32 0, .int .u32 0, .int .u32 0, .int .u32 0, .int .u32 0, .int .u32 0, .int .u32 0, .int .u32 0, .int .u32 0, .int .u32 0] 28) = V := ⟨_, rfl⟩
      have B12 : Hid (Bk V q12 28 [.int .u32 0, .int .u32 0, .int .u32 0, .int .u32 0, .int .u32 0, .int .u32 0, .int .u32 0, .int .u32 0, .int .u32 0, .int .u32 0, .int .u32 0, .int .u32 0, .int .u32 0, .int .u32 0, .int .u32 0, .int .u32 0]) := by rw [← hW, ← hg]; exact Bk.new A [.int .u32 0, .int .u32 0, .int .u32 0, .int .u32 0, .int .u32 0, .int .u32 0, .int .u32 0, .int .u32 0, .int .u32 0, .int .u32 0, .int .u32 0, .int .u32 0, .int .u32 0, .int .u32 0, .int .u32 0, .int .u32 0] 28
      replace S : Hid (St 71 V F bs ks) := by rw [← hW]; exact S.out.alloc _
      replace C : Hid (Ch W V [F.gb]) := by rw [← hW]; exact C.out.alloc _
      replace B10 : Hid (Bk V go 28 [.int .u32 a0, .int .u32 a1, .int .u32 a2, .int .u32 a3, .int .u32 a4, .int .u32 a5, .int .u32 a6, .int .u32 a7, .int .u32 a8, .int .u32 a9, .int .u32 a10, .int .u32 a11, .int .u32 a12, .int .u32 a13, .int .u32 a14, .int .u32 a15]) := by rw [← hW]; exact B10.out.alloc _
      replace B13 : Hid (Bk V q13 30 [.int .i64 0, .int .i64 0, .bool false, .bool false, .bool false, .int .i64 0, .int .i64 0, .int .i64 0, .int .i64 0, .int .i64 0]) := by rw [← hW]; exact B13.out.alloc _
      rw [hW]
      try rw [hg]
      clear hW hg hHeld
      clear A
      rename World => A
      refine hK.out _ _ ?_ (fun hHeld => ?_)
      focus ((try dsimp only); exact B10.out)
      clear hK K
      try simp only [Act.put, List.setIfInBounds_toArray, List.set_cons_zero, List.set_cons_succ]
      refine wpAnyH_ready (rs := [5]) (by kernel_rfl) (by simp) ?_
      refine consL rfl (fun K hK => ?_) AllReadyH.nil
      go_simp
      go_at_call 14
      refine (HX.out _ S.out).mono ?_
      rintro e V ⟨rfl, hs, hc⟩
      replace S := Lib.hid hs
      replace C := Lib.hid (C.out.trans (hc.mono (by simp)))
      replace B10 := Lib.hid (B10.out.ch hc (by simp; omega))
      replace B13 := Lib.hid (B13.out.ch hc (by simp; omega))
      replace B12 := Lib.hid (B12.out.ch hc (by simp; omega))
      clear hs hc hHeld
      clear A
      rename World => A
      go_wp2_with fail
      refine hK.out _ _ ?_ (fun hHeld => ?_)
      focus ((try dsimp only); exact B10.out)
      clear hK K
      try simp only [Act.put, List.setIfInBounds_toArray, List.set_cons_zero, List.set_cons_succ]
      refine' takeL (i := 6) (v := _) rfl (by kernel_rfl) (by kernel_rfl) (by kernel_rfl) (fun c a w => hQ c a _ w rfl) (Or.inl ⟨by rfl, ?yy126⟩) (by assumption) ?rr126
      case yy126 => intro w hSw; (try dsimp only at hSw); go_simp; (try with_reducible rfl)
      try simp only [Act.put, List.setIfInBounds_toArray, List.set_cons_zero, List.set_cons_succ]
      refine' takeL (i := 7) (v := _) rfl (by kernel_rfl) (by kernel_rfl) (by kernel_rfl) (fun c a w => hQ c a _ w rfl) (Or.inl ⟨by rfl, ?yy127⟩) (by assumption) ?rr127
      case yy127 => intro w hSw; (try dsimp only at hSw); go_simp; (try with_reducible rfl)
      try simp only [Act.put, List.setIfInBounds_toArray, List.set_cons_zero, List.set_cons_succ]
      refine' takeL (i := 8) (v := _) rfl (by kernel_rfl) (by kernel_rfl) (by kernel_rfl) (fun c a w => hQ c a _ w rfl) (Or.inl ⟨by rfl, ?yy128⟩) (by assumption) ?rr128
      case yy128 => intro w hSw; (try dsimp only at hSw); go_simp; (try with_reducible rfl)
      try simp only [Act.put, List.setIfInBounds_toArray, List.set_cons_zero, List.set_cons_succ]
      refine' takeL (i := 9) (v := _) rfl (by kernel_rfl) (by kernel_rfl) (by kernel_rfl) (fun c a w => hQ c a _ w rfl) (Or.inl ⟨by rfl, ?yy129⟩) (by assumption) ?rr129
      case yy129 => intro w hSw; (try dsimp only at hSw); go_simp; (try with_reducible rfl)
      try simp only [Act.put, List.setIfInBounds_toArray, List.set_cons_zero, List.set_cons_succ]
      exact TL A q12 q13 ⟨S.out, C.out, B10.out, B12.out, B13.out, ge12, ge13, by omega, by omega, by omega, trivial⟩
    refine consL rfl (fun K hK => ?_) ?_
    · go_simp
      obtain ⟨q12, hg⟩ : ∃ q, A.heap.size = q := ⟨_, rfl⟩
      have ge12 : W.heap.size ≤ q12 := by have := C.out.size; omega
      have ne12_10 : q12 ≠ go := by have := B10.out.lt; omega
      obtain ⟨V, hW⟩ : ∃ V, A.alloc (.cells #[.int .u32 0, .int .u32 0, .int .u32 0, .int .u32 0, .int .u32 0, .int .u32 0, .int .u32 0, .int .u32 0, .int .u32 0, .int .u32 0, .int .u32 0, .int .u32 0, .int .u32 0, .int .u32 0, .int .u32 0, .int .u32 0] 28) = V := ⟨_, rfl⟩
      have B12 : Hid (Bk V q12 28 [.int .u32 0, .int .u32 0, .int .u32 0, .int .u32 0, .int .u32 0, .int .u32 0, .int .u32 0, .int .u32 0, .int .u32 0, .int .u32 0, .int .u32 0, .int .u32 0, .int .u32 0, .int .u32 0, .int .u32 0, .int .u32 0]) := by rw [← hW, ← hg]; exact Bk.new A [.int .u32 0, .int .u32 0, .int .u32 0, .int .u32 0, .int .u32 0, .int .u32 0, .int .u32 0, .int .u32 0, .int .u32 0, .int .u32 0, .int .u32 0, .int .u32 0, .int .u32 0, .int .u32 0, .int .u32 0, .int .u32 0] 28
      replace S : Hid (St 71 V F bs ks) := by rw [← hW]; exact S.out.alloc _
      replace C : Hid (Ch W V [F.gb]) := by rw [← hW]; exact C.out.alloc _
      replace B10 : Hid (Bk V go 28 [.int .u32 a0, .int .u32 a1, .int .u32 a2, .int .u32 a3, .int .u32 a4, .int .u32 a5, .int .u32 a6, .int .u32 a7, .int .u32 a8, .int .u32 a9, .int .u32 a10, .int .u32 a11, .int .u32 a12, .int .u32 a13, .int .u32 a14, .int .u32 a15]) := by rw [← hW]; exact B10.out.alloc _
      rw [hW]
      try rw [hg]
      clear hW hg hHeld
      clear A
      rename World => A
      refine hK.out _ _ ?_ (fun hHeld => ?_)
      focus ((try dsimp only); exact B10.out)
      clear hK K
      try simp only [Act.put, List.setIfInBounds_toArray, List.set_cons_zero, List.set_cons_succ]
      refine wpAnyH_ready (rs := [1, 11]) (by kernel_rfl) (by simp) ?_
      refine consL rfl (fun K hK => ?_) ?_
      · go_simp
        go_at_call 17
        refine (ss_c 215 (n : Int) _ (by omega) (by omega)).mono ?_
        rintro e V ⟨rfl, hb⟩
        replace S := Lib.hid (S.out.belowS hb)
        replace C := Lib.hid (C.out.trans (Ch.of_below hb _))
        replace B10 := Lib.hid (B10.out.keep hb)
        replace B12 := Lib.hid (B12.out.keep hb)
        clear hb hHeld
        clear A
        rename World => A
        go_wp2_with fail
        refine hK.out _ _ ?_ (fun hHeld => ?_)
        focus ((try dsimp only); exact B10.out)
        clear hK K
        try simp only [Act.put, List.setIfInBounds_toArray, List.set_cons_zero, List.set_cons_succ]
        refine wpAnyH_ready (rs := [5, 11]) (by kernel_rfl) (by simp) ?_
        refine consL rfl (fun K hK => ?_) ?_
        · go_simp
          go_at_call 14
          refine (HX.out _ S.out).mono ?_
          rintro e V ⟨rfl, hs, hc⟩
          replace S := Lib.hid hs
          replace C := Lib.hid (C.out.trans (hc.mono (by simp)))
          replace B10 := Lib.hid (B10.out.ch hc (by simp; omega))
          replace B12 := Lib.hid (B12.out.ch hc (by simp; omega))
          clear hs hc hHeld
          clear A
          rename World => A
          go_wp2_with fail
          refine hK.out _ _ ?_ (fun hHeld => ?_)
          focus ((try dsimp only); exact B10.out)
          clear hK K
          try simp only [Act.put, List.setIfInBounds_toArray, List.set_cons_zero, List.set_cons_succ]
          refine' takeL (i := 6) (v := _) rfl (by kernel_rfl) (by kernel_rfl) (by kernel_rfl) (fun c a w => hQ c a _ w rfl) (Or.inl ⟨by rfl, ?yy130⟩) (by assumption) ?rr130
          case yy130 => intro w hSw; (try dsimp only at hSw); go_simp; (try with_reducible rfl)
          try simp only [Act.put, List.setIfInBounds_toArray, List.set_cons_zero, List.set_cons_succ]
          refine' takeL (i := 7) (v := _) rfl (by kernel_rfl) (by kernel_rfl) (by kernel_rfl) (fun c a w => hQ c a _ w rfl) (Or.inl ⟨by rfl, ?yy131⟩) (by assumption) ?rr131
          case yy131 => intro w hSw; (try dsimp only at hSw); go_simp; (try with_reducible rfl)
          try simp only [Act.put, List.setIfInBounds_toArray, List.set_cons_zero, List.set_cons_succ]
          refine' takeL (i := 8) (v := _) rfl (by kernel_rfl) (by kernel_rfl) (by kernel_rfl) (fun c a w => hQ c a _ w rfl) (Or.inl ⟨by rfl, ?yy132⟩) (by assumption) ?rr132
          case yy132 => intro w hSw; (try dsimp only at hSw); go_simp; (try with_reducible rfl)
          try simp only [Act.put, List.setIfInBounds_toArray, List.set_cons_zero, List.set_cons_succ]
          refine' takeL (i := 9) (v := _) rfl (by kernel_rfl) (by kernel_rfl) (by kernel_rfl) (fun c a w => hQ c a _ w rfl) (Or.inl ⟨by rfl, ?yy133⟩) (by assumption) ?rr133
          case yy133 => intro w hSw; (try dsimp only at hSw); go_simp; (try with_reducible rfl)
          try simp only [Act.put, List.setIfInBounds_toArray, List.set_cons_zero, List.set_cons_succ]
          refine wpAnyH_ready (rs := [11]) (by kernel_rfl) (by simp) ?_
          refine consL rfl (fun K hK => ?_) AllReadyH.nil
          go_simp
          obtain ⟨q13, hg⟩ : ∃ q, A.heap.size = q := ⟨_, rfl⟩
          have ge13 : W.heap.size ≤ q13 := by have := C.out.size; omega
          have ne13_10 : q13 ≠ go := by have := B10.out.lt; omega
          have ne13_12 : q13 ≠ q12 := by have := B12.out.lt; omega
          obtain ⟨V, hW⟩ : ∃ V, A.alloc (.cells #[.int .i64 0, .int .i64 0, .bool false, .bool false, .bool false, .int .i64 0, .int .i64 0, .int .i64 0, .int .i64 0, .int .i64 0] 30) = V := ⟨_, rfl⟩
          have B13 : Hid (Bk V q13 30 [.int .i64 0, .int .i64 0, .bool false, .bool false, .bool false, .int .i64 0, .int .i64 0, .int .i64 0, .int .i64 0, .int .i64 0]) := by rw [← hW, ← hg]; exact Bk.new A [.int .i64 0, .int .i64 0, .bool false, .bool false, .bool false, .int .i64 0, .int .i64 0, .int .i64 0, .int .i64 0, .int .i64 0] 30
          replace S : Hid (St 71 V F bs2 ks) := by rw [← hW]; exact S.out.alloc _
          replace C : Hid (Ch W V [F.gb]) := by rw [← hW]; exact C.out.alloc _
          replace B10 : Hid (Bk V go 28 [.int .u32 a0, .int .u32 a1, .int .u32 a2, .int .u32 a3, .int .u32 a4, .int .u32 a5, .int .u32 a6, .int .u32 a7, .int .u32 a8, .int .u32 a9, .int .u32 a10, .int .u32 a11, .int .u32 a12, .int .u32 a13, .int .u32 a14, .int .u32 a15]) := by rw [← hW]; exact B10.out.alloc _
          replace B12 : Hid (Bk V q12 28 [.int .u32 0, .int .u32 0, .int .u32 0, .int .u32 0, .int .u32 0, .int .u32 0, .int .u32 0, .int .u32 0, .int .u32 0, .int .u32 0, .int .u32 0, .int .u32 0, .int .u32 0, .int .u32 0, .int .u32 0, .int .u32 0]) := by rw [← hW]; exact B12.out.alloc _
          rw [hW]
          try rw [hg]
          clear hW hg hHeld
          clear A
          rename World => A
          refine hK.out _ _ ?_ (fun hHeld => ?_)
          focus ((try dsimp only); exact B10.out)
          clear hK K
          try simp only [Act.put, List.setIfInBounds_toArray, List.set_cons_zero, List.set_cons_succ]
          exact TL A q12 q13 ⟨S.out, C.out, B10.out, B12.out, B13.out, ge12, ge13, by omega, by omega, by omega, trivial⟩
        refine consL rfl (fun K hK => ?_) AllReadyH.nil
        go_simp
        obtain ⟨q13, hg⟩ : ∃ q, A.heap.size = q := ⟨_, rfl⟩
        have ge13 : W.heap.size ≤ q13 := by have := C.out.size; omega
        have ne13_10 : q13 ≠ go := by have := B10.out.lt; omega
        have ne13_12 : q13 ≠ q12 := by have := B12.out.lt; omega
        obtain ⟨V, hW⟩ : ∃ V, A.alloc (.cells #[.int .i64 0, .int .i64 0, .bool false, .bool false, .bool false, .int .i64 0, .int .i64 0, .int .i64 0, .int .i64 0, .int .i64 0] 30) = V := ⟨_, rfl⟩
        have B13 : Hid (Bk V q13 30 [.int .i64 0, .int .i64 0, .bool false, .bool false, .bool false, .int .i64 0, .int .i64 0, .int .i64 0, .int .i64 0, .int .i64 0]) := by rw [← hW, ← hg]; exact Bk.new A [.int .i64 0, .int .i64 0, .bool false, .bool false, .bool false, .int .i64 0, .int .i64 0, .int .i64 0, .int .i64 0, .int .i64 0] 30
        replace S : Hid (St 71 V F bs ks) := by rw [← hW]; exact S.out.alloc _
        replace C : Hid (Ch W V [F.gb]) := by rw [← hW]; exact C.out.alloc _
        replace B10 : Hid (Bk V go 28 [.int .u32 a0, .int .u32 a1, .int .u32 a2, .int .u32 a3, .int .u32 a4, .int .u32 a5, .int .u32 a6, .int .u32 a7, .int .u32 a8, .int .u32 a9, .int .u32 a10, .int .u32 a11, .int .u32 a12, .int .u32 a13, .int .u32 a14, .int .u32 a15]) := by rw [← hW]; exact B10.out.alloc _
        replace B12 : Hid (Bk V q12 28 [.int .u32 0, .int .u32 0, .int .u32 0, .int .u32 0, .int .u32 0, .int .u32 0, .int .u32 0, .int .u32 0, .int .u32 0, .int .u32 0, .int .u32 0, .int .u32 0, .int .u32 0, .int .u32 0, .int .u32 0, .int .u32 0]) := by rw [← hW]; exact B12.out.alloc _
        rw [hW]
        try rw [hg]
        clear hW hg hHeld
        clear A
        rename World => A
        refine hK.out _ _ ?_ (fun hHeld => ?_)
        focus ((try dsimp only); exact B10.out)
        clear hK K
        try simp only [Act.put, List.setIfInBounds_toArray, List.set_cons_zero, List.set_cons_succ]
        refine wpAnyH_ready (rs := [5]) (by kernel_rfl) (by simp) ?_
        refine consL rfl (fun K hK => ?_) AllReadyH.nil
        go_simp
        go_at_call 14
        refine (HX.out _ S.out).mono ?_
        rintro e V ⟨rfl, hs, hc⟩
        replace S := Lib.hid hs
        replace C := Lib.hid (C.out.trans (hc.mono (by simp)))
        replace B10 := Lib.hid (B10.out.ch hc (by simp; omega))
        replace B12 := Lib.hid (B12.out.ch hc (by simp; omega))
        replace B13 := Lib.hid (B13.out.ch hc (by simp; omega))
        clear hs hc hHeld
        clear A
        rename World => A
        go_wp2_with fail
        refine hK.out _ _ ?_ (fun hHeld => ?_)
        focus ((try dsimp only); exact B10.out)
        clear hK K
        try simp only [Act.put, List.setIfInBounds_toArray, List.set_cons_zero, List.set_cons_succ]
        refine' takeL (i := 6) (v := _) rfl (by kernel_rfl) (by kernel_rfl) (by kernel_rfl) (fun c a w => hQ c a _ w rfl) (Or.inl ⟨by rfl, ?yy134⟩) (by assumption) ?rr134
        case yy134 => intro w hSw; (try dsimp only at hSw); go_simp; (try with_reducible rfl)
        try simp only [Act.put, List.setIfInBounds_toArray, List.set_cons_zero, List.set_cons_succ]
        refine' takeL (i := 7) (v := _) rfl (by kernel_rfl) (by kernel_rfl) (by kernel_rfl) (fun c a w => hQ c a _ w rfl) (Or.inl ⟨by rfl, ?yy135⟩) (by assumption) ?rr135
        case yy135 => intro w hSw; (try dsimp only at hSw); go_simp; (try with_reducible rfl)
        try simp only [Act.put, List.setIfInBounds_toArray, List.set_cons_zero, List.set_cons_succ]
        refine' takeL (i := 8) (v := _) rfl (by kernel_rfl) (by kernel_rfl) (by kernel_rfl) (fun c a w => hQ c a _ w rfl) (Or.inl ⟨by rfl, ?yy136⟩) (by assumption) ?rr136
        case yy136 => intro w hSw; (try dsimp only at hSw); go_simp; (try with_reducible rfl)
        try simp only [Act.put, List.setIfInBounds_toArray, List.set_cons_zero, List.set_cons_succ]
        refine' takeL (i := 9) (v := _) rfl (by kernel_rfl) (by kernel_rfl) (by kernel_rfl) (fun c a w => hQ c a _ w rfl) (Or.inl ⟨by rfl, ?yy137⟩) (by assumption) ?rr137
        case yy137 => intro w hSw; (try dsimp only at hSw); go_simp; (try with_reducible rfl)
        try simp only [Act.put, List.setIfInBounds_toArray, List.set_cons_zero, List.set_cons_succ]
        exact TL A q12 q13 ⟨S.out, C.out, B10.out, B12.out, B13.out, ge12, ge13, by omega, by omega, by omega, trivial⟩
      refine consL rfl (fun K hK => ?_) AllReadyH.nil
      go_simp
      obtain ⟨q13, hg⟩ : ∃ q, A.heap.size = q := ⟨_, rfl⟩
      have ge13 : W.heap.size ≤ q13 := by have := C.out.size; omega
      have ne13_10 : q13 ≠ go := by have := B10.out.lt; omega
      have ne13_12 : q13 ≠ q12 := by have := B12.out.lt; omega
      obtain ⟨V, hW⟩ : ∃ V, A.alloc (.cells #[.int .i64 0, .int .i64 0, .bool false, .bool false, .bool false, .int .i64 0, .int .i64 0, .int .i64 0, .int .i64 0, .int .i64 0] 30) = V := ⟨_, rfl⟩
      have B13 : Hid (Bk V q13 30 [.int .i64 0, .int .i64 0, .bool false, .bool false, .bool false, .int .i64 0, .int .i64 0, .int .i64 0, .int .i64 0, .int .i64 0]) := by rw [← hW, ← hg]; exact Bk.new A [.int .i64 0, .int .i64 0, .bool false, .bool false, .bool false, .int .i64 0, .int .i64 0, .int .i64 0, .int .i64 0, .int .i64 0] 30
      replace S : Hid (St 71 V F bs ks) := by rw [← hW]; exact S.out.alloc _
      replace C : Hid (Ch W V [F.gb]) := by rw [← hW]; exact C.out.alloc _
      replace B10 : Hid (Bk V go 28 [.int .u32 a0, .int .u32 a1, .int .u32 a2, .int .u32 a3, .int .u32 a4, .int .u32 a5, .int .u32 a6, .int .u32 a7, .int .u32 a8, .int .u32 a9, .int .u32 a10, .int .u32 a11, .int .u32 a12, .int .u32 a13, .int .u32 a14, .int .u32 a15]) := by rw [← hW]; exact B10.out.alloc _
      replace B12 : Hid (Bk V q12 28 [.int .u32 0, .int .u32 0, .int .u32 0, .int .u32 0, .int .u32 0, .int .u32 0, .int .u32 0, .int .u32 0, .int .u32 0, .int .u32 0, .int .u32 0, .int .u32 0, .int .u32 0, .int .u32 0, .int .u32 0, .int .u32 0]) := by rw [← hW]; exact B12.out.alloc _
      rw [hW]
      try rw [hg]
      clear hW hg hHeld
      clear A
      rename World => A
      refine hK.out _ _ ?_ (fun hHeld => ?_)
      focus ((try dsimp only); exact B10.out)
      clear hK K
      try simp only [Act.put, List.setIfInBounds_toArray, List.set_cons_zero, List.set_cons_succ]
      refine wpAnyH_ready (rs := [1]) (by kernel_rfl) (by simp) ?_
      refine consL rfl (fun K hK => ?_) AllReadyH.nil
      go_simp
      go_at_call 17
      refine (ss_c 215 (n : Int) _ (by omega) (by omega)).mono ?_
      rintro e V ⟨rfl, hb⟩
      replace S := Lib.hid (S.out.belowS hb)
      replace C := Lib.hid (C.out.trans (Ch.of_below hb _))
      replace B10 := Lib.hid (B10.out.keep hb)
      replace B12 := Lib.hid (B12.out.keep hb)
      replace B13 := Lib.hid (B13.out.keep hb)
      clear hb hHeld
      clear A
      rename World => A
      go_wp2_with fail
      refine hK.out _ _ ?_ (fun hHeld => ?_)
      focus ((try dsimp only); exact B10.out)
      clear hK K
      try simp only [Act.put, List.setIfInBounds_toArray, List.set_cons_zero, List.set_cons_succ]
      refine wpAnyH_ready (rs := [5]) (by kernel_rfl) (by simp) ?_
      refine consL rfl (fun K hK => ?_) AllReadyH.nil
      go_simp
      go_at_call 14
      refine (HX.out _ S.out).mono ?_
      rintro e V ⟨rfl, hs, hc⟩
      replace S := Lib.hid hs
      replace C := Lib.hid (C.out.trans (hc.mono (by simp)))
      replace B10 := Lib.hid (B10.out.ch hc (by simp; omega))
      replace B12 := Lib.hid (B12.out.ch hc (by simp; omega))
      replace B13 := Lib.hid (B13.out.ch hc (by simp; omega))
      clear hs hc hHeld
      clear A
      rename World => A
      go_wp2_with fail
      refine hK.out _ _ ?_ (fun hHeld => ?_)
      focus ((try dsimp only); exact B10.out)
      clear hK K
      try simp only [Act.put, List.setIfInBounds_toArray, List.set_cons_zero, List.set_cons_succ]
      refine' takeL (i := 6) (v := _) rfl (by kernel_rfl) (by kernel_rfl) (by kernel_rfl) (fun c a w => hQ c a _ w rfl) (Or.inl ⟨by rfl, ?yy138⟩) (by assumption) ?rr138
      case yy138 => intro w hSw; (try dsimp only at hSw); go_simp; (try with_reducible rfl)
      try simp only [Act.put, List.setIfInBounds_toArray, List.set_cons_zero, List.set_cons_succ]
      refine' takeL (i := 7) (v := _) rfl (by kernel_rfl) (by kernel_rfl) (by kernel_rfl) (fun c a w => hQ c a _ w rfl) (Or.inl ⟨by rfl, ?yy139⟩) (by assumption) ?rr139
      case yy139 => intro w hSw; (try dsimp only at hSw); go_simp; (try with_reducible rfl)
      try simp only [Act.put, List.setIfInBounds_toArray, List.set_cons_zero, List.set_cons_succ]
      refine' takeL (i := 8) (v := _) rfl (by kernel_rfl) (by kernel_rfl) (by kernel_rfl) (fun c a w => hQ c a _ w rfl) (Or.inl ⟨by rfl, ?yy140⟩) (by assumption) ?rr140
      case yy140 => intro w hSw; (try dsimp only at hSw); go_simp; (try with_reducible rfl)
      try simp only [Act.put, List.setIfInBounds_toArray, List.set_cons_zero, List.set_cons_succ]
      refine' takeL (i := 9) (v := _) rfl (by kernel_rfl) (by kernel_rfl) (by kernel_rfl) (fun c a w => hQ c a _ w rfl) (Or.inl ⟨by rfl, ?yy141⟩) (by assumption) ?rr141
      case yy141 => intro w hSw; (try dsimp only at hSw); go_simp; (try with_reducible rfl)
      try simp only [Act.put, List.setIfInBounds_toArray, List.set_cons_zero, List.set_cons_succ]
      exact TL A q12 q13 ⟨S.out, C.out, B10.out, B12.out, B13.out, ge12, ge13, by omega, by omega, by omega, trivial⟩
    refine consL rfl (fun K hK => ?_) AllReadyH.nil
    go_simp
    obtain ⟨q13, hg⟩ : ∃ q, A.heap.size = q := ⟨_, rfl⟩
    have ge13 : W.heap.size ≤ q13 := by have := C.out.size; omega
    have ne13_10 : q13 ≠ go := by have := B10.out.lt; omega
    obtain ⟨V, hW⟩ : ∃ V, A.alloc (.cells #[.int .i64 0, .int .i64 0, .bool false, .bool false, .bool false, .int .i64 0, .int .i64 0, .int .i64 0, .int .i64 0, .int .i64 0] 30) = V := ⟨_, rfl⟩
    have B13 : Hid (Bk V q13 30 [.int .i64 0, .int .i64 0, .bool false, .bool false, .bool false, .int .i64 0, .int .i64 0, .int .i64 0, .int .i64 0, .int .i64 0]) := by rw [← hW, ← hg]; exact Bk.new A [.int .i64 0, .int .i64 0, .bool false, .bool false, .bool false, .int .i64 0, .int .i64 0, .int .i64 0, .int .i64 0, .int .i64 0] 30
    replace S : Hid (St 71 V F bs ks) := by rw [← hW]; exact S.out.alloc _
    replace C : Hid (Ch W V [F.gb]) := by rw [← hW]; exact C.out.alloc _
    replace B10 : Hid (Bk V go 28 [.int .u32 a0, .int .u32 a1, .int .u32 a2, .int .u32 a3, .int .u32 a4, .int .u32 a5, .int .u32 a6, .int .u32 a7, .int .u32 a8, .int .u32 a9, .int .u32 a10, .int .u32 a11, .int .u32 a12, .int .u32 a13, .int .u32 a14, .int .u32 a15]) := by rw [← hW]; exact B10.out.alloc _
    rw [hW]
    try rw [hg]
    clear hW hg hHeld
    clear A
    rename World => A
    refine hK.out _ _ ?_ (fun hHeld => ?_)
    focus ((try dsimp only); exact B10.out)
    clear hK K
    try simp only [Act.put, List.setIfInBounds_toArray, List.set_cons_zero, List.set_cons_succ]
    refine wpAnyH_ready (rs := [1, 10]) (by kernel_rfl) (by simp) ?_
    refine consL rfl (fun K hK => ?_) ?_
    · go_simp
      go_at_call 17
      refine (ss_c 215 (n : Int) _ (by omega) (by omega)).mono ?_
      rintro e V ⟨rfl, hb⟩
      replace S := Lib.hid (S.out.belowS hb)
      replace C := Lib.hid (C.out.trans (Ch.of_below hb _))
      replace B10 := Lib.hid (B10.out.keep hb)
      replace B13 := Lib.hid (B13.out.keep hb)
      clear hb hHeld
      clear A
      rename World => A
      go_wp2_with fail
      refine hK.out _ _ ?_ (fun hHeld => ?_)
      focus ((try dsimp only); exact B10.out)
      clear hK K
      try simp only [Act.put, List.setIfInBounds_toArray, List.set_cons_zero, List.set_cons_succ]
      refine wpAnyH_ready (rs := [5, 10]) (by kernel_rfl) (by simp) ?_
      refine consL rfl (fun K hK => ?_) ?_
      · go_simp
        go_at_call 14
        refine (HX.out _ S.out).mono ?_
        rintro e V ⟨rfl, hs, hc⟩
        replace S := Lib.hid hs
        replace C := Lib.hid (C.out.trans (hc.mono (by simp)))
        replace B10 := Lib.hid (B10.out.ch hc (by simp; omega))
        replace B13 := Lib.hid (B13.out.ch hc (by simp; omega))
        clear hs hc hHeld
        clear A
        rename World => A
        go_wp2_with fail
        refine hK.out _ _ ?_ (fun hHeld => ?_)
        focus ((try dsimp only); exact B10.out)
        clear hK K
        try simp only [Act.put, List.setIfInBounds_toArray, List.set_cons_zero, List.set_cons_succ]
        refine' takeL (i := 6) (v := _) rfl (by kernel_rfl) (by kernel_rfl) (by kernel_rfl) (fun c a w => hQ c a _ w rfl) (Or.inl ⟨by rfl, ?yy142⟩) (by assumption) ?rr142
        case yy142 => intro w hSw; (try dsimp only at hSw); go_simp; (try with_reducible rfl)
        try simp only [Act.put, List.setIfInBounds_toArray, List.set_cons_zero, List.set_cons_succ]
        refine' takeL (i := 7) (v := _) rfl (by kernel_rfl) (by kernel_rfl) (by kernel_rfl) (fun c a w => hQ c a _ w rfl) (Or.inl ⟨by rfl, ?yy143⟩) (by assumption) ?rr143
        case yy143 => intro w hSw; (try dsimp only at hSw); go_simp; (try with_reducible rfl)
        try simp only [Act.put, List.setIfInBounds_toArray, List.set_cons_zero, List.set_cons_succ]
        refine' takeL (i := 8) (v := _) rfl (by kernel_rfl) (by kernel_rfl) (by kernel_rfl) (fun c a w => hQ c a _ w rfl) (Or.inl ⟨by rfl, ?yy144⟩) (by assumption) ?rr144
        case yy144 => intro w hSw; (try dsimp only at hSw); go_simp; (try with_reducible rfl)
        try simp only [Act.put, List.setIfInBounds_toArray, List.set_cons_zero, List.set_cons_succ]
        refine' takeL (i := 9) (v := _) rfl (by kernel_rfl) (by kernel_rfl) (by kernel_rfl) (fun c a w => hQ c a _ w rfl) (Or.inl ⟨by rfl, ?yy145⟩) (by assumption) ?rr145
        case yy145 => intro w hSw; (try dsimp only at hSw); go_simp; (try with_reducible rfl)
        try simp only [Act.put, List.setIfInBounds_toArray, List.set_cons_zero, List.set_cons_succ]
        refine wpAnyH_ready (rs := [10]) (by kernel_rfl) (by simp) ?_
        refine consL rfl (fun K hK => ?_) AllReadyH.nil
        go_simp
        obtain ⟨q12, hg⟩ : ∃ q, A.heap.size = q := ⟨_, rfl⟩
        have ge12 : W.heap.size ≤ q12 := by have := C.out.size; omega
        have ne12_10 : q12 ≠ go := by have := B10.out.lt; omega
        have ne12_13 : q12 ≠ q13 := by have := B13.out.lt; omega
        obtain ⟨V, hW⟩ : ∃ V, A.alloc (.cells #[.int .u32 0, .int .u32 0, .int .u32 0, .int .u32 0, .int .u32 0, .int .u32 0, .int .u32 0, .int .u32 0, .int .u32 0, .int .u32 0, .int .u32 0, .int .u32 0, .int .u32 0, .int .u32 0, .int .u32 0, .int .u32 0] 28) = V := ⟨_, rfl⟩
        have B12 : Hid (Bk V q12 28 [.int .u32 0, .int .u32 0, .int .u32 0, .int .u32 0, .int .u32 0, .int .u32 0, .int .u32 0, .int .u32 0, .int .u32 0, .int .u32 0, .int .u32 0, .int .u32 0, .int .u32 0, .int .u32 0, .int .u32 0, .int .u32 0]) := by rw [← hW, ← hg]; exact Bk.new A [.int .u32 0, .int .u32 0, .int .u32 0, .int .u32 0, .int .u32 0, .int .u32 0, .int .u32 0, .int .u32 0, .int .u32 0, .int .u32 0, .int .u32 0, .int .u32 0, .int .u32 0, .int .u32 0, .int .u32 0, .int .u32 0] 28
        replace S : Hid (St 71 V F bs2 ks) := by rw [← hW]; exact S.out.alloc _
        replace C : Hid (Ch W V [F.gb]) := by rw [← hW]; exact C.out.alloc _
        replace B10 : Hid (Bk V go 28 [.int .u32 a0, .int .u32 a1, .int .u32 a2, .int .u32 a3, .int .u32 a4, .int .u32 a5, .int .u32 a6, .int .u32 a7, .int .u32 a8, .int .u32 a9, .int .u32 a10, .int .u32 a11, .int .u32 a12, .int .u32 a13, .int .u32 a14, .int .u32 a15]) := by rw [← hW]; exact B10.out.alloc _
        replace B13 : Hid (Bk V q13 30 [.int .i64 0, .int .i64 0, .bool false, .bool false, .bool false, .int .i64 0, .int .i64 0, .int .i64 0, .int .i64 0, .int .i64 0]) := by rw [← hW]; exact B13.out.alloc _
        rw [hW]
        try rw [hg]
        clear hW hg hHeld
        clear A
        rename World => A
        refine hK.out _ _ ?_ (fun hHeld => ?_)
        focus ((try dsimp only); exact B10.out)
        clear hK K
        try simp only [Act.put, List.setIfInBounds_toArray, List.set_cons_zero, List.set_cons_succ]
        exact TL A q12 q13 ⟨S.out, C.out, B10.out, B12.out, B13.out, ge12, ge13, by omega, by omega, by omega, trivial⟩
      refine consL rfl (fun K hK => ?_) AllReadyH.nil
      go_simp
      obtain ⟨q12, hg⟩ : ∃ q, A.heap.size = q := ⟨_, rfl⟩
      have ge12 : W.heap.size ≤ q12 := by have := C.out.size; omega
      have ne12_10 : q12 ≠ go := by have := B10.out.lt; omega
      have ne12_13 : q12 ≠ q13 := by have := B13.out.lt; omega
      obtain ⟨V, hW⟩ : ∃ V, A.alloc (.cells #[.int .u32 0, .int .u32 0, .int .u32 0, .int .u32 0, .int .u32 0, .int .u32 0, .int .u32 0, .int .u32 0, .int .u32 0, .int .u32 0, .int .u32 0, .int .u32 0, .int .u32 0, .int .u32 0, .int .u32 0, .int .u32 0] 28) = V := ⟨_, rfl⟩
      have B12 : Hid (Bk V q12 28 [.int .u32 0, .int .u32 0, .int .u32 0, .int .u32 0, .int .u32 0, .int .u32 0, .int .u32 0, .int .u32 0, .int .u32 0, .int .u32 0, .int .u32 0, .int .u32 0, .int .u32 0, .int .u32 0, .int .u32 0, .int .u32 0]) := by rw [← hW, ← hg]; exact Bk.new A [.int .u32 0, .int .u32 0, .int .u32 0, .int .u32 0, .int .u32 0, .int .u32 0, .int .u32 0, .int .u32 0, .int .u32 0, .int .u32 0, .int .u32 0, .int .u32 0, .int .u32 0, .int .u32 0, .int .u32 0, .int .u32 0] 28
      replace S : Hid (St 71 V F bs ks) := by rw [← hW]; exact S.out.alloc _
      replace C : Hid (Ch W V [F.gb]) := by rw [← hW]; exact C.out.alloc _
      replace B10 : Hid (Bk V go 28 [.int .u32 a0, .int .u32 a1, .int .u32 a2, .int .u32 a3, .int .u32 a4, .int .u32 a5, .int .u32 a6, .int .u32 a7, .int .u32 a8, .int .u32 a9, .int .u32 a10, .int .u32 a11, .int .u32 a12, .int .u32 a13, .int .u32 a14, .int .u32 a15]) := by rw [← hW]; exact B10.out.alloc _
      replace B13 : Hid (Bk V q13 30 [.int .i64 0, .int .i64 0, .bool false, .bool false, .bool false, .int .i64 0, .int .i64 0, .int .i64 0, .int .i64 0, .int .i64 0]) := by rw [← hW]; exact B13.out.alloc _
      rw [hW]
      try rw [hg]
      clear hW hg hHeld
      clear A
      rename World => A
      refine hK.out _ _ ?_ (fun hHeld => ?_)
      focus ((try dsimp only); exact B10.out)
      clear hK K
      try simp only [Act.put, List.setIfInBounds_toArray, List.set_cons_zero, List.set_cons_succ]
      refine wpAnyH_ready (rs := [5]) (by kernel_rfl) (by simp) ?_
      refine consL rfl (fun K hK => ?_) AllReadyH.nil
      go_simp
      go_at_call 14
      refine (HX.out _ S.out).mono ?_
      rintro e V ⟨rfl, hs, hc⟩
      replace S := Lib.hid hs
      replace C := Lib.hid (C.out.trans (hc.mono (by simp)))
      replace B10 := Lib.hid (B10.out.ch hc (by simp; omega))
      replace B13 := Lib.hid (B13.out.ch hc (by simp; omega))
      replace B12 := Lib.hid (B12.out.ch hc (by simp; omega))
      clear hs hc hHeld
      clear A
      rename World => A
      go_wp2_with fail
      refine hK.out _ _ ?_ (fun hHeld => ?_)
      focus ((try dsimp only); exact B10.out)
      clear hK K
      try simp only [Act.put, List.setIfInBounds_toArray, List.set_cons_zero, List.set_cons_succ]
      refine' takeL (i := 6) (v := _) rfl (by kernel_rfl) (by kernel_rfl) (by kernel_rfl) (fun c a w => hQ c a _ w rfl) (Or.inl ⟨by rfl, ?yy146⟩) (by assumption) ?rr146
      case yy146 => intro w hSw; (try dsimp only at hSw); go_simp; (try with_reducible rfl)
      try simp only [Act.put, List.setIfInBounds_toArray, List.set_cons_zero, List.set_cons_succ]
      refine' takeL (i := 7) (v := _) rfl (by kernel_rfl) (by kernel_rfl) (by kernel_rfl) (fun c a w => hQ c a _ w rfl) (Or.inl ⟨by rfl, ?yy147⟩) (by assumption) ?rr147
      case yy147 => intro w hSw; (try dsimp only at hSw); go_simp; (try with_reducible rfl)
      try simp only [Act.put, List.setIfInBounds_toArray, List.set_cons_zero, List.set_cons_succ]
      refine' takeL (i := 8) (v := _) rfl (by kernel_rfl) (by kernel_rfl) (by kernel_rfl) (fun c a w => hQ c a _ w rfl) (Or.inl ⟨by rfl, ?yy148⟩) (by assumption) ?rr148
      case yy148 => intro w hSw; (try dsimp only at hSw); go_simp; (try with_reducible rfl)
      try simp only [Act.put, List.setIfInBounds_toArray, List.set_cons_zero, List.set_cons_succ]
      refine' takeL (i := 9) (v := _) rfl (by kernel_rfl) (by kernel_rfl) (by kernel_rfl) (fun c a w => hQ c a _ w rfl) (Or.inl ⟨by rfl, ?yy149⟩) (by assumption) ?rr149
      case yy149 => intro w hSw; (try dsimp only at hSw); go_simp; (try with_reducible rfl)
      try simp only [Act.put, List.setIfInBounds_toArray, List.set_cons_zero, List.set_cons_succ]
      exact TL A q12 q13 ⟨S.out, C.out, B10.out, B12.out, B13.out, ge12, ge13, by omega, by omega, by omega, trivial⟩
    refine consL rfl (fun K hK => ?_) AllReadyH.nil
    go_simp
    obtain ⟨q12, hg⟩ : ∃ q, A.heap.size = q := ⟨_, rfl⟩
    have ge12 : W.heap.size ≤ q12 := by have := C.out.size; omega
    have ne12_10 : q12 ≠ go := by have := B10.out.lt; omega
    have ne12_13 : q12 ≠ q13 := by have := B13.out.lt; omega
    obtain ⟨V, hW⟩ : ∃ V, A.alloc (.cells #[.int .u32 0, .int .u32 0, .int .u32 0, .int .u32 0, .int .u32 0, .int .u32 0, .int .u32 0, .int .u32 0, .int .u32 0, .int .u32 0, .int .u32 0, .int .u32 0, .int .u32 0, .int .u32 0, .int .u32 0, .int .u32 0] 28) = V := ⟨_, rfl⟩
    have B12 : Hid (Bk V q12 28 [.int .u32 0, .int .u32 0, .int .u32 0, .int .u32 0, .int .u32 0, .int .u32 0, .int .u32 0, .int .u32 0, .int .u32 0, .int .u32 0, .int .u32 0, .int .u32 0, .int .u32 0, .int .u32 0, .int .u32 0, .int .u32 0]) := by rw [← hW, ← hg]; exact Bk.new A [.int .u32 0, .int .u32 0, .int .u32 0, .int .u32 0, .int .u32 0, .int .u32 0, .int .u32 0, .int .u32 0, .int .u32 0, .int .u32 0, .int .u32 0, .int .u32 0, .int .u32 0, .int .u32 0, .int .u32 0, .int .u32 0] 28
    replace S : Hid (St 71 V F bs ks) := by rw [← hW]; exact S.out.alloc _
    replace C : Hid (Ch W V [F.gb]) := by rw [← hW]; exact C.out.alloc _
    replace B10 : Hid (Bk V go 28 [.int .u32 a0, .int .u32 a1, .int .u32 a2, .int .u32 a3, .int .u32 a4, .int .u32 a5, .int .u32 a6, .int .u32 a7, .int .u32 a8, .int .u32 a9, .int .u32 a10, .int .u32 a11, .int .u32 a12, .int .u32 a13, .int .u32 a14, .int .u32 a15]) := by rw [← hW]; exact B10.out.alloc _
    replace B13 : Hid (Bk V q13 30 [.int .i64 0, .int .i64 0, .bool false, .bool false, .bool false, .int .i64 0, .int .i64 0, .int .i64 0, .int .i64 0, .int .i64 0]) := by rw [← hW]; exact B13.out.alloc _
    rw [hW]
    try rw [hg]
    clear hW hg hHeld
    clear A
    rename World => A
    refine hK.out _ _ ?_ (fun hHeld => ?_)
    focus ((try dsimp only); exact B10.out)
    clear hK K
    try simp only [Act.put, List.setIfInBounds_toArray, List.set_cons_zero, List.set_cons_succ]
    refine wpAnyH_ready (rs := [1]) (by kernel_rfl) (by simp) ?_
    refine consL rfl (fun K hK => ?_) AllReadyH.nil
    go_simp
    go_at_call 17
    refine (ss_c 215 (n : Int) _ (by omega) (by omega)).mono ?_
    rintro e V ⟨rfl, hb⟩
    replace S := Lib.hid (S.out.belowS hb)
    replace C := Lib.hid (C.out.trans (Ch.of_below hb _))
    replace B10 := Lib.hid (B10.out.keep hb)
    replace B13 := Lib.hid (B13.out.keep hb)
    replace B12 := Lib.hid (B12.out.keep hb)
    clear hb hHeld
    clear A
    rename World => A
    go_wp2_with fail
    refine hK.out _ _ ?_ (fun hHeld => ?_)
    focus ((try dsimp only); exact B10.out)
    clear hK K
    try simp only [Act.put, List.setIfInBounds_toArray, List.set_cons_zero, List.set_cons_succ]
    refine wpAnyH_ready (rs := [5]) (by kernel_rfl) (by simp) ?_
    refine consL rfl (fun K hK => ?_) AllReadyH.nil
    go_simp
    go_at_call 14
    refine (HX.out _ S.out).mono ?_
    rintro e V ⟨rfl, hs, hc⟩
    replace S := Lib.hid hs
    replace C := Lib.hid (C.out.trans (hc.mono (by simp)))
    replace B10 := Lib.hid (B10.out.ch hc (by simp; omega))
    replace B13 := Lib.hid (B13.out.ch hc (by simp; omega))
    replace B12 := Lib.hid (B12.out.ch hc (by simp; omega))
    clear hs hc hHeld
    clear A
    rename World => A
    go_wp2_with fail
    refine hK.out _ _ ?_ (fun hHeld => ?_)
    focus ((try dsimp only); exact B10.out)
    clear hK K
    try simp only [Act.put, List.setIfInBounds_toArray, List.set_cons_zero, List.set_cons_succ]
    refine' takeL (i := 6) (v := _) rfl (by kernel_rfl) (by kernel_rfl) (by kernel_rfl) (fun c a w => hQ c a _ w rfl) (Or.inl ⟨by rfl, ?yy150⟩) (by assumption) ?rr150
    case yy150 => intro w hSw; (try dsimp only at hSw); go_simp; (try with_reducible rfl)
    try simp only [Act.put, List.setIfInBounds_toArray, List.set_cons_zero, List.set_cons_succ]
    refine' takeL (i := 7) (v := _) rfl (by kernel_rfl) (by kernel_rfl) (by kernel_rfl) (fun c a w => hQ c a _ w rfl) (Or.inl ⟨by rfl, ?yy151⟩) (by assumption) ?rr151
    case yy151 => intro w hSw; (try dsimp only at hSw); go_simp; (try with_reducible rfl)
    try simp only [Act.put, List.setIfInBounds_toArray, List.set_cons_zero, List.set_cons_succ]
    refine' takeL (i := 8) (v := _) rfl (by kernel_rfl) (by kernel_rfl) (by kernel_rfl) (fun c a w => hQ c a _ w rfl) (Or.inl ⟨by rfl, ?yy152⟩) (by assumption) ?rr152
    case yy152 => intro w hSw; (try dsimp only at hSw); go_simp; (try with_reducible rfl)
    try simp only [Act.put, List.setIfInBounds_toArray, List.set_cons_zero, List.set_cons_succ]
    refine' takeL (i := 9) (v := _) rfl (by kernel_rfl) (by kernel_rfl) (by kernel_rfl) (fun c a w => hQ c a _ w rfl) (Or.inl ⟨by rfl, ?yy153⟩) (by assumption) ?rr153
    case yy153 => intro w hSw; (try dsimp only at hSw); go_simp; (try with_reducible rfl)
    try simp only [Act.put, List.setIfInBounds_toArray, List.set_cons_zero, List.set_cons_succ]
    exact TL A q12 q13 ⟨S.out, C.out, B10.out, B12.out, B13.out, ge12, ge13, by omega, by omega, by omega, trivial⟩
  case tail =>
    rintro A q12 q13 ⟨S, C, B10, B12, B13, ge12, ge13, ne_go_q12, ne_go_q13, ne_q12_q13, -⟩
    have hHeld := B10
    replace S := Lib.hid S
    replace C := Lib.hid C
    replace B10 := Lib.hid B10
    replace B12 := Lib.hid B12
    replace B13 := Lib.hid B13
    refine wpAnyH_ready (rs := [12]) (by kernel_rfl) (by simp) ?_
    refine consL rfl (fun K hK => ?_) AllReadyH.nil
    have cz := B12.out
    have cz0 := cz.cell (c := 0) rfl
    have fz0 := cz.free 0
    have cz1 := cz.cell (c := 1) rfl
    have fz1 := cz.free 1
    have cz2 := cz.cell (c := 2) rfl
    have fz2 := cz.free 2
    have cz3 := cz.cell (c := 3) rfl
    have fz3 := cz.free 3
    have cz4 := cz.cell (c := 4) rfl
    have fz4 := cz.free 4
    have cz5 := cz.cell (c := 5) rfl
    have fz5 := cz.free 5
    have cz6 := cz.cell (c := 6) rfl
    have fz6 := cz.free 6
    have cz7 := cz.cell (c := 7) rfl
    have fz7 := cz.free 7
    have cz8 := cz.cell (c := 8) rfl
    have fz8 := cz.free 8
    have cz9 := cz.cell (c := 9) rfl
    have fz9 := cz.free 9
    have cz10 := cz.cell (c := 10) rfl
    have fz10 := cz.free 10
    have cz11 := cz.cell (c := 11) rfl
    have fz11 := cz.free 11
    have cz12 := cz.cell (c := 12) rfl
    have fz12 := cz.free 12
    have cz13 := cz.cell (c := 13) rfl
    have fz13 := cz.free 13
    have cz14 := cz.cell (c := 14) rfl
    have fz14 := cz.free 14
    have cz15 := cz.cell (c := 15) rfl
    have fz15 := cz.free 15
    go_simp
    clear cz cz0 fz0 cz1 fz1 cz2 fz2 cz3 fz3 cz4 fz4 cz5 fz5 cz6 fz6 cz7 fz7 cz8 fz8 cz9 fz9 cz10 fz10 cz11 fz11 cz12 fz12 cz13 fz13 cz14 fz14 cz15 fz15
    obtain ⟨V, hW⟩ : ∃ V, ((((((((((((((((A.setCell ⟨q12, 0, none⟩ (.int .u32 n0)).setCell ⟨q12, 1, none⟩ (.int .u32 n1)).setCell ⟨q12, 2, none⟩ (.int .u32 n2)).setCell ⟨q12, 3, none⟩ (.int .u32 n3)).setCell ⟨q12, 4, none⟩ (.int .u32 n4)).setCell ⟨q12, 5, none⟩ (.int .u32 n5)).setCell ⟨q12, 6, none⟩ (.int .u32 n6)).setCell ⟨q12, 7, none⟩ (.int .u32 n7)).setCell ⟨q12, 8, none⟩ (.int .u32 n8)).setCell ⟨q12, 9, none⟩ (.int .u32 n9)).setCell ⟨q12, 10, none⟩ (.int .u32 n10)).setCell ⟨q12, 11, none⟩ (.int .u32 n11)).setCell ⟨q12, 12, none⟩ (.int .u32 n12)).setCell ⟨q12, 13, none⟩ (.int .u32 n13)).setCell ⟨q12, 14, none⟩ (.int .u32 n14)).setCell ⟨q12, 15, none⟩ (.int .u32 n15)) = V := ⟨_, rfl⟩
    have hc : Ch A V [q12] := by rw [← hW]; exact ch_n16 A q12 (.int .u32 n0) (.int .u32 n1) (.int .u32 n2) (.int .u32 n3) (.int .u32 n4) (.int .u32 n5) (.int .u32 n6) (.int .u32 n7) (.int .u32 n8) (.int .u32 n9) (.int .u32 n10) (.int .u32 n11) (.int .u32 n12) (.int .u32 n13) (.int .u32 n14) (.int .u32 n15)
    replace S := Lib.hid (S.out.chd hc (by simp; omega) (by simp; omega) (by simp; omega))
    replace C := Lib.hid (show Ch W V [F.gb] from (by rw [← hW]; exact ch_s16 C.out ge12 (.int .u32 n0) (.int .u32 n1) (.int .u32 n2) (.int .u32 n3) (.int .u32 n4) (.int .u32 n5) (.int .u32 n6) (.int .u32 n7) (.int .u32 n8) (.int .u32 n9) (.int .u32 n10) (.int .u32 n11) (.int .u32 n12) (.int .u32 n13) (.int .u32 n14) (.int .u32 n15)))
    replace B10 := Lib.hid (B10.out.ch hc (by simp; omega))
    replace B12 : Hid (Bk V q12 28 [.int .u32 n0, .int .u32 n1, .int .u32 n2, .int .u32 n3, .int .u32 n4, .int .u32 n5, .int .u32 n6, .int .u32 n7, .int .u32 n8, .int .u32 n9, .int .u32 n10, .int .u32 n11, .int .u32 n12, .int .u32 n13, .int .u32 n14, .int .u32 n15]) := by rw [← hW]; exact Bk.sets16 B12.out rfl (.int .u32 n0) (.int .u32 n1) (.int .u32 n2) (.int .u32 n3) (.int .u32 n4) (.int .u32 n5) (.int .u32 n6) (.int .u32 n7) (.int .u32 n8) (.int .u32 n9) (.int .u32 n10) (.int .u32 n11) (.int .u32 n12) (.int .u32 n13) (.int .u32 n14) (.int .u32 n15)
    replace B13 := Lib.hid (B13.out.ch hc (by simp; omega))
    rw [hW]
    clear hW hc hHeld
    clear A
    rename World => A
    refine hK.out _ _ ?_ (fun hHeld => ?_)
    focus ((try dsimp only); exact B10.out)
    clear hK K
    try simp only [Act.put, List.setIfInBounds_toArray, List.set_cons_zero, List.set_cons_succ]
    refine wpAnyH_ready (rs := [13]) (by kernel_rfl) (by simp) ?_
    refine consL rfl (fun K hK => ?_) AllReadyH.nil
    have cz := B13.out
    have cz0 := cz.cell (c := 0) rfl
    have fz0 := cz.free 0
    have cz1 := cz.cell (c := 1) rfl
    have fz1 := cz.free 1
    have cz2 := cz.cell (c := 2) rfl
    have fz2 := cz.free 2
    have cz3 := cz.cell (c := 3) rfl
    have fz3 := cz.free 3
    have cz4 := cz.cell (c := 4) rfl
    have fz4 := cz.free 4
    have cz5 := cz.cell (c := 5) rfl
    have fz5 := cz.free 5
    have cz6 := cz.cell (c := 6) rfl
    have fz6 := cz.free 6
    have cz7 := cz.cell (c := 7) rfl
    have fz7 := cz.free 7
    have cz8 := cz.cell (c := 8) rfl
    have fz8 := cz.free 8
    have cz9 := cz.cell (c := 9) rfl
    have fz9 := cz.free 9
    go_simp
    clear cz cz0 fz0 cz1 fz1 cz2 fz2 cz3 fz3 cz4 fz4 cz5 fz5 cz6 fz6 cz7 fz7 cz8 fz8 cz9 fz9
    obtain ⟨V, hW⟩ : ∃ V, ((((((((((A.setCell ⟨q13, 0, none⟩ (.int .i64 0)).setCell ⟨q13, 1, none⟩ (.int .i64 0)).setCell ⟨q13, 2, none⟩ (.bool false)).setCell ⟨q13, 3, none⟩ (.bool false)).setCell ⟨q13, 4, none⟩ (.bool false)).setCell ⟨q13, 5, none⟩ (.int .i64 0)).setCell ⟨q13, 6, none⟩ (.int .i64 0)).setCell ⟨q13, 7, none⟩ (.int .i64 cq)).setCell ⟨q13, 8, none⟩ (.int .i64 0)).setCell ⟨q13, 9, none⟩ (.int .i64 0)) = V := ⟨_, rfl⟩
    have hc : Ch A V [q13] := by rw [← hW]; exact ch_n10 A q13 (.int .i64 0) (.int .i64 0) (.bool false) (.bool false) (.bool false) (.int .i64 0) (.int .i64 0) (.int .i64 cq) (.int .i64 0) (.int .i64 0)
    replace S := Lib.hid (S.out.chd hc (by simp; omega) (by simp; omega) (by simp; omega))
    replace C := Lib.hid (show Ch W V [F.gb] from (by rw [← hW]; exact ch_s10 C.out ge13 (.int .i64 0) (.int .i64 0) (.bool false) (.bool false) (.bool false) (.int .i64 0) (.int .i64 0) (.int .i64 cq) (.int .i64 0) (.int .i64 0)))
    replace B10 := Lib.hid (B10.out.ch hc (by simp; omega))
    replace B12 := Lib.hid (B12.out.ch hc (by simp; omega))
    replace B13 : Hid (Bk V q13 30 [.int .i64 0, .int .i64 0, .bool false, .bool false, .bool false, .int .i64 0, .int .i64 0, .int .i64 cq, .int .i64 0, .int .i64 0]) := by rw [← hW]; exact Bk.sets10 B13.out rfl (.int .i64 0) (.int .i64 0) (.bool false) (.bool false) (.bool false) (.int .i64 0) (.int .i64 0) (.int .i64 cq) (.int .i64 0) (.int .i64 0)
    rw [hW]
    clear hW hc hHeld
    clear A
    rename World => A
    refine hK.out _ _ ?_ (fun hHeld => ?_)
    focus ((try dsimp only); exact B10.out)
    clear hK K
    try simp only [Act.put, List.setIfInBounds_toArray, List.set_cons_zero, List.set_cons_succ]
    refine takeL (i := 14) (v := .int .i64 cd) rfl (by kernel_rfl) (by kernel_rfl) (by kernel_rfl) (fun c a w => hQ c a _ w rfl) (Or.inl ⟨by rfl, ?_⟩) (by assumption) ?_
    focus (intro w hSw; (try dsimp only at hSw); go_simp; (try with_reducible rfl))
    try simp only [Act.put, List.setIfInBounds_toArray, List.set_cons_zero, List.set_cons_succ]
    refine wpAnyH_done (by kernel_rfl) ?_ _
    exact H.out _ _ _ _ _ _ _ _ _ _ _ q12 q13 0 S.out B10.out B12.out B13.out ge12 ge13 C.out
set_option maxRecDepth 1000000 in
set_option maxHeartbeats 16000000 in
theorem swaps_reg17 {u0 u1 u2 u3 u4 u6 u7 u9 u10 u12 u13 u14 u15 u16 u17 u18 u19 u20 u21 u22 u23 u24 u25 u26 u27 u28 u29 u30 u31 u32 u33 u34 u35 u36 u37 u38 u39 u40 u41 u42 u43 u44 u45 u46 u47 u48 u49 u50 u51 u52 u53 u54 u55 u56 u57 u58 u59 u60 u61 u62 u63 u64 u65 u66 u67 u68 u69 u70 u71 u72 u73 u74 u75 u76 u77 u78 u79 u80 u81 u82 u83 u84 u85 u86 u87 u88 u89 u90 u91 u92 u93 u94 u95 u96 u97 u98 u99 u100 u101 u102 u103 u104 u105 u106 u107 u108 u109 u110 u111 u112 u113 u114 u115 u116 u117 u118 u119 u120 u121 u122 u123 u124 u125 u126 u127 u128 u129 u130 u131 u132 u133 : Value} {n : Nat} {a0 a1 a2 a3 a4 a5 a6 a7 a8 a9 a10 a11 a12 a13 a14 a15 n0 n1 n2 n3 n4 n5 n6 n7 n8 n9 n10 n11 n12 n13 n14 n15 cq cd : Int} (hn0 : 1 ≤ (n : Int)) (hn1 : (n : Int) ≤ 256) {bs2 : List Int} {F : Foot} {bs ks : List Int} {go z_ : Nat} {ops : Array Oper} (hops : (Try.f7.body.bind (regOpsH 17)) = some ops) {Q : Exit → Act → World → Prop} {ds : List Deferred} {W : World} (hQ : ∀ (c : List PanicEntry) (a a' : Act) (w : World), a'.defers = a.defers → Q (.panic c) a' w → Q (.panic c) a w) (hS : St 71 W F bs ks) (hB11 : Bk W go 28 [.int .u32 a0, .int .u32 a1, .int .u32 a2, .int .u32 a3, .int .u32 a4, .int .u32 a5, .int .u32 a6, .int .u32 a7, .int .u32 a8, .int .u32 a9, .int .u32 a10, .int .u32 a11, .int .u32 a12, .int .u32 a13, .int .u32 a14, .int .u32 a15]) (hn11 : go ≠ F.gb) (hm11 : go ≠ F.g) (hk11 : go ≠ F.gk) (hx : ∀ w, St 71 w F bs ks → Calls Try.prog 14 #[.agg #[.int .i64 215, .int .i64 5, .int .i64 0, .int .i64 0, .int .i64 0, .int .i64 14, .int .i64 0, .int .i64 15, .int .i64 0, .int .i64 ((n : Int) - 1), .int .i64 0, .int .i64 0], .agg #[.int .u32 a0, .int .u32 a1, .int .u32 a2, .int .u32 a3, .int .u32 a4, .int .u32 a5, .int .u32 a6, .int .u32 a7, .int .u32 a8, .int .u32 a9, .int .u32 a10, .int .u32 a11, .int .u32 a12, .int .u32 a13, .int .u32 a14, .int .u32 a15], .agg #[.int .i64 0, .int .i64 0, .bool false, .bool false, .bool false, .int .i64 0, .int .i64 0, .int .i64 0, .int .i64 0, .int .i64 0], .pointer (some ⟨F.g, 0, none⟩)] w fun e w' => e = .returned (.tuple #[.agg #[.int .u32 n0, .int .u32 n1, .int .u32 n2, .int .u32 n3, .int .u32 n4, .int .u32 n5, .int .u32 n6, .int .u32 n7, .int .u32 n8, .int .u32 n9, .int .u32 n10, .int .u32 n11, .int .u32 n12, .int .u32 n13, .int .u32 n14, .int .u32 n15], .agg #[.int .i64 0, .int .i64 0, .bool false, .bool false, .bool false, .int .i64 0, .int .i64 0, .int .i64 cq, .int .i64 0, .int .i64 0], .int .i64 cd]) ∧ St 71 w' F bs2 ks ∧ Ch w w' [F.gb])
    (h : ∀ (w' : World) (x91 x92 x93 x94 x95 x96 x90 x97 x98 x99 : Value) (g15 g16 z_ : Nat), St 71 w' F bs2 ks → Bk w' go 28 [.int .u32 a0, .int .u32 a1, .int .u32 a2, .int .u32 a3, .int .u32 a4, .int .u32 a5, .int .u32 a6, .int .u32 a7, .int .u32 a8, .int .u32 a9, .int .u32 a10, .int .u32 a11, .int .u32 a12, .int .u32 a13, .int .u32 a14, .int .u32 a15] → Bk w' g15 28 [.int .u32 n0, .int .u32 n1, .int .u32 n2, .int .u32 n3, .int .u32 n4, .int .u32 n5, .int .u32 n6, .int .u32 n7, .int .u32 n8, .int .u32 n9, .int .u32 n10, .int .u32 n11, .int .u32 n12, .int .u32 n13, .int .u32 n14, .int .u32 n15] → Bk w' g16 30 [.int .i64 0, .int .i64 0, .bool false, .bool false, .bool false, .int .i64 0, .int .i64 0, .int .i64 cq, .int .i64 0, .int .i64 0] → W.heap.size ≤ g15 → W.heap.size ≤ g16 →  Ch W w'  [F.gb] → Q .normal { tmps := #[u0, u1, u2, u3, u4, .int .i64 (n : Int), u6, u7, .pointer (some ⟨F.g, 0, none⟩), u9, u10, .pointer (some ⟨go, 0, none⟩), u12, u13, u14, .pointer (some ⟨g15, 0, none⟩), .pointer (some ⟨g16, 0, none⟩), .int .i64 cd, u18, u19, u20, u21, u22, u23, u24, u25, u26, u27, u28, u29, u30, u31, u32, u33, u34, u35, u36, u37, u38, u39, u40, u41, u42, u43, u44, u45, u46, u47, u48, u49, u50, u51, u52, u53, u54, u55, u56, u57, u58, u59, u60, u61, u62, u63, u64, u65, u66, u67, u68, u69, u70, u71, u72, u73, u74, u75, u76, u77, u78, u79, u80, u81, u82, u83, u84, u85, u86, u87, u88, u89, x90, x91, x92, x93, x94, x95, x96, x97, x98, x99, u100, u101, u102, u103, u104, u105, u106, u107, u108, u109, u110, u111, u112, u113, u114, u115, u116, u117, u118, u119, u120, u121, u122, u123, u124, u125, u126, u127, u128, u129, u130, u131, u132, u133], defers := ds } w') : Code.wp Try.prog (Code.region 17 ops true) Q { tmps := #[u0, u1, u2, u3, u4, .int .i64 (n : Int), u6, u7, .pointer (some ⟨F.g, 0, none⟩), u9, u10, .pointer (some ⟨go, 0, none⟩), u12, u13, u14, u15, u16, u17, u18, u19, u20, u21, u22, u23, u24, u25, u26, u27, u28, u29, u30, u31, u32, u33, u34, u35, u36, u37, u38, u39, u40, u41, u42, u43, u44, u45, u46, u47, u48, u49, u50, u51, u52, u53, u54, u55, u56, u57, u58, u59, u60, u61, u62, u63, u64, u65, u66, u67, u68, u69, u70, u71, u72, u73, u74, u75, u76, u77, u78, u79, u80, u81, u82, u83, u84, u85, u86, u87, u88, u89, u90, u91, u92, u93, u94, u95, u96, u97, u98, u99, u100, u101, u102, u103, u104, u105, u106, u107, u108, u109, u110, u111, u112, u113, u114, u115, u116, u117, u118, u119, u120, u121, u122, u123, u124, u125, u126, u127, u128, u129, u130, u131, u132, u133], defers := ds } W := by
  simp [Try.f7, regOpsH] at hops
  subst hops
  have H := Lib.hid h
  have HX := Lib.hid hx
  have L1 := hS.ltg
  have L2 := hS.ltb
  have L3 := hS.ltk
  have BL11 := hB11.lt
  have S0 := Lib.hid hS
  have B0_11 := Lib.hid hB11
  clear h hx hS hB11
  refine' share2 (P := (fun A q15 q16 => St 71 A F bs2 ks ∧ Ch W A [F.gb] ∧ Bk A go 28 [.int .u32 a0, .int .u32 a1, .int .u32 a2, .int .u32 a3, .int .u32 a4, .int .u32 a5, .int .u32 a6, .int .u32 a7, .int .u32 a8, .int .u32 a9, .int .u32 a10, .int .u32 a11, .int .u32 a12, .int .u32 a13, .int .u32 a14, .int .u32 a15] ∧ Bk A q15 28 [.int .u32 0, .int .u32 0, .int .u32 0, .int .u32 0, .int .u32 0, .int .u32 0, .int .u32 0, .int .u32 0, .int .u32 0, .int .u32 0, .int .u32 0, .int .u32 0, .int .u32 0, .int .u32 0, .int .u32 0, .int .u32 0] ∧ Bk A q16 30 [.int .i64 0, .int .i64 0, .bool false, .bool false, .bool false, .int .i64 0, .int .i64 0, .int .i64 0, .int .i64 0, .int .i64 0] ∧ W.heap.size ≤ q15 ∧ W.heap.size ≤ q16 ∧ go ≠ q15 ∧ go ≠ q16 ∧ q15 ≠ q16 ∧ True)) (fun TL => ?tree) ?tail
  case tree =>
    obtain ⟨A, hWd⟩ : ∃ Wd, W.drew = Wd := ⟨_, rfl⟩
    have hsz : A.heap.size = W.heap.size := by rw [← hWd]; rfl
    have S : Hid (St 71 A F bs ks) := by rw [← hWd]; exact S0.out.drewN 1
    have C : Hid (Ch W A [F.gb]) := by rw [← hWd]; exact (Ch.refl W _).drewN 1
    have B11 : Hid (Bk A go 28 [.int .u32 a0, .int .u32 a1, .int .u32 a2, .int .u32 a3, .int .u32 a4, .int .u32 a5, .int .u32 a6, .int .u32 a7, .int .u32 a8, .int .u32 a9, .int .u32 a10, .int .u32 a11, .int .u32 a12, .int .u32 a13, .int .u32 a14, .int .u32 a15]) := by rw [← hWd]; exact B0_11.out.drewN 1
    refine wp_region_held_drew (S := (fun w' => Bk w' go 28 [.int .u32 a0, .int .u32 a1, .int .u32 a2, .int .u32 a3, .int .u32 a4, .int .u32 a5, .int .u32 a6, .int .u32 a7, .int .u32 a8, .int .u32 a9, .int .u32 a10, .int .u32 a11, .int .u32 a12, .int .u32 a13, .int .u32 a14, .int .u32 a15])) (by kernel_rfl) ?_ (fun hHeld => ?_)
    · (try dsimp only); (try rw [hWd]); exact B11.out
    rw [hWd]
    clear hWd hsz
    refine' takeL (i := 0) (v := _) rfl (by kernel_rfl) (by kernel_rfl) (by kernel_rfl) (fun c a w => hQ c a _ w rfl) (Or.inl ⟨by rfl, ?yy154⟩) (by assumption) ?rr154
    case yy154 => intro w hSw; (try dsimp only at hSw); go_simp; (try with_reducible rfl)
    try simp only [Act.put, List.setIfInBounds_toArray, List.set_cons_zero, List.set_cons_succ]
    refine' takeL (i := 2) (v := .agg #[.int .u32 a0, .int .u32 a1, .int .u32 a2, .int .u32 a3, .int .u32 a4, .int .u32 a5, .int .u32 a6, .int .u32 a7, .int .u32 a8, .int .u32 a9, .int .u32 a10, .int .u32 a11, .int .u32 a12, .int .u32 a13, .int .u32 a14, .int .u32 a15]) rfl (by kernel_rfl) (by kernel_rfl) (by kernel_rfl) (fun c a w => hQ c a _ w rfl) (Or.inl ⟨by rfl, ?yy155⟩) (by assumption) ?rr155
    case yy155 => intro w hSw; (try dsimp only at hSw); have q0 := hSw.cell (c := 0) rfl; have q1 := hSw.cell (c := 1) rfl; have q2 := hSw.cell (c := 2) rfl; have q3 := hSw.cell (c := 3) rfl; have q4 := hSw.cell (c := 4) rfl; have q5 := hSw.cell (c := 5) rfl; have q6 := hSw.cell (c := 6) rfl; have q7 := hSw.cell (c := 7) rfl; have q8 := hSw.cell (c := 8) rfl; have q9 := hSw.cell (c := 9) rfl; have q10 := hSw.cell (c := 10) rfl; have q11 := hSw.cell (c := 11) rfl; have q12 := hSw.cell (c := 12) rfl; have q13 := hSw.cell (c := 13) rfl; have q14 := hSw.cell (c := 14) rfl; have q15 := hSw.cell (c := 15) rfl; go_simp; (try with_reducible rfl)
    try simp only [Act.put, List.setIfInBounds_toArray, List.set_cons_zero, List.set_cons_succ]
    refine' takeL (i := 3) (v := _) rfl (by kernel_rfl) (by kernel_rfl) (by kernel_rfl) (fun c a w => hQ c a _ w rfl) (Or.inl ⟨by rfl, ?yy156⟩) (by assumption) ?rr156
    case yy156 => intro w hSw; (try dsimp only at hSw); go_simp; (try with_reducible rfl)
    try simp only [Act.put, List.setIfInBounds_toArray, List.set_cons_zero, List.set_cons_succ]
    refine' takeL (i := 4) (v := _) rfl (by kernel_rfl) (by kernel_rfl) (by kernel_rfl) (fun c a w => hQ c a _ w rfl) (Or.inl ⟨by rfl, ?yy157⟩) (by assumption) ?rr157
    case yy157 => intro w hSw; (try dsimp only at hSw); go_simp; (try with_reducible rfl)
    try simp only [Act.put, List.setIfInBounds_toArray, List.set_cons_zero, List.set_cons_succ]
    refine wpAnyH_ready (rs := [1, 10, 11]) (by kernel_rfl) (by simp) ?_
    refine consL rfl (fun K hK => ?_) ?_
    · go_simp
      go_at_call 17
      refine (ss_c 215 (n : Int) _ (by omega) (by omega)).mono ?_
      rintro e V ⟨rfl, hb⟩
      replace S := Lib.hid (S.out.belowS hb)
      replace C := Lib.hid (C.out.trans (Ch.of_below hb _))
      replace B11 := Lib.hid (B11.out.keep hb)
      clear hb hHeld
      clear A
      rename World => A
      go_wp2_with fail
      refine hK.out _ _ ?_ (fun hHeld => ?_)
      focus ((try dsimp only); exact B11.out)
      clear hK K
      try simp only [Act.put, List.setIfInBounds_toArray, List.set_cons_zero, List.set_cons_succ]
      refine wpAnyH_ready (rs := [5, 10, 11]) (by kernel_rfl) (by simp) ?_
      refine consL rfl (fun K hK => ?_) ?_
      · go_simp
        go_at_call 14
        refine (HX.out _ S.out).mono ?_
        rintro e V ⟨rfl, hs, hc⟩
        replace S := Lib.hid hs
        replace C := Lib.hid (C.out.trans (hc.mono (by simp)))
        replace B11 := Lib.hid (B11.out.ch hc (by simp; omega))
        clear hs hc hHeld
        clear A
        rename World => A
        go_wp2_with fail
        refine hK.out _ _ ?_ (fun hHeld => ?_)
        focus ((try dsimp only); exact B11.out)
        clear hK K
        try simp only [Act.put, List.setIfInBounds_toArray, List.set_cons_zero, List.set_cons_succ]
        refine' takeL (i := 6) (v := _) rfl (by kernel_rfl) (by kernel_rfl) (by kernel_rfl) (fun c a w => hQ c a _ w rfl) (Or.inl ⟨by rfl, ?yy158⟩) (by assumption) ?rr158
        case yy158 => intro w hSw; (try dsimp only at hSw); go_simp; (try with_reducible rfl)
        try simp only [Act.put, List.setIfInBounds_toArray, List.set_cons_zero, List.set_cons_succ]
        refine' takeL (i := 7) (v := _) rfl (by kernel_rfl) (by kernel_rfl) (by kernel_rfl) (fun c a w => hQ c a _ w rfl) (Or.inl ⟨by rfl, ?yy159⟩) (by assumption) ?rr159
        case yy159 => intro w hSw; (try dsimp only at hSw); go_simp; (try with_reducible rfl)
        try simp only [Act.put, List.setIfInBounds_toArray, List.set_cons_zero, List.set_cons_succ]
        refine' takeL (i := 8) (v := _) rfl (by kernel_rfl) (by kernel_rfl) (by kernel_rfl) (fun c a w => hQ c a _ w rfl) (Or.inl ⟨by rfl, ?yy160⟩) (by assumption) ?rr160
        case yy160 => intro w hSw; (try dsimp only at hSw); go_simp; (try with_reducible rfl)
        try simp only [Act.put, List.setIfInBounds_toArray, List.set_cons_zero, List.set_cons_succ]
        refine' takeL (i := 9) (v := _) rfl (by kernel_rfl) (by kernel_rfl) (by kernel_rfl) (fun c a w => hQ c a _ w rfl) (Or.inl ⟨by rfl, ?yy161⟩) (by assumption) ?rr161
        case yy161 => intro w hSw; (try dsimp only at hSw); go_simp; (try with_reducible rfl)
        try simp only [Act.put, List.setIfInBounds_toArray, List.set_cons_zero, List.set_cons_succ]
        refine wpAnyH_ready (rs := [10, 11]) (by kernel_rfl) (by simp) ?_
        refine consL rfl (fun K hK => ?_) ?_
        · go_simp
          obtain ⟨q15, hg⟩ : ∃ q, A.heap.size = q := ⟨_, rfl⟩
          have ge15 : W.heap.size ≤ q15 := by have := C.out.size; omega
          have ne15_11 : q15 ≠ go := by have := B11.out.lt; omega
          obtain ⟨V, hW⟩ : ∃ V, A.alloc (.cells #[.int .u32 0, .int .u32 0, .int .u32 0, .int .u32 0, .int .u32 0, .int .u32 0, .int .u32 0, .int .u32 0, .int .u32 0, .int .u32 0, .int .u32 0, .int .u32 0, .int .u32 0, .int .u32 0, .int .u32 0, .int .u32 0] 28) = V := ⟨_, rfl⟩
          have B15 : Hid (Bk V q15 28 [.int .u32 0, .int .u32 0, .int .u32 0, .int .u32 0, .int .u32 0, .int .u32 0, .int .u32 0, .int .u32 0, .int .u32 0, .int .u32 0, .int .u32 0, .int .u32 0, .int .u32 0, .int .u32 0, .int .u32 0, .int .u32 0]) := by rw [← hW, ← hg]; exact Bk.new A [.int .u32 0, .int .u32 0, .int .u32 0, .int .u32 0, .int .u32 0, .int .u32 0, .int .u32 0, .int .u32 0, .int .u32 0, .int .u32 0, .int .u32 0, .int .u32 0, .int .u32 0, .int .u32 0, .int .u32 0, .int .u32 0] 28
          replace S : Hid (St 71 V F bs2 ks) := by rw [← hW]; exact S.out.alloc _
          replace C : Hid (Ch W V [F.gb]) := by rw [← hW]; exact C.out.alloc _
          replace B11 : Hid (Bk V go 28 [.int .u32 a0, .int .u32 a1, .int .u32 a2, .int .u32 a3, .int .u32 a4, .int .u32 a5, .int .u32 a6, .int .u32 a7, .int .u32 a8, .int .u32 a9, .int .u32 a10, .int .u32 a11, .int .u32 a12, .int .u32 a13, .int .u32 a14, .int .u32 a15]) := by rw [← hW]; exact B11.out.alloc _
          rw [hW]
          try rw [hg]
          clear hW hg hHeld
          clear A
          rename World => A
          refine hK.out _ _ ?_ (fun hHeld => ?_)
          focus ((try dsimp only); exact B11.out)
          clear hK K
          try simp only [Act.put, List.setIfInBounds_toArray, List.set_cons_zero, List.set_cons_succ]
          refine wpAnyH_ready (rs := [11]) (by kernel_rfl) (by simp) ?_
          refine consL rfl (fun K hK => ?_) AllReadyH.nil
          go_simp
          obtain ⟨q16, hg⟩ : ∃ q, A.heap.size = q := ⟨_, rfl⟩
          have ge16 : W.heap.size ≤ q16 := by have := C.out.size; omega
          have ne16_11 : q16 ≠ go := by have := B11.out.lt; omega
          have ne16_15 : q16 ≠ q15 := by have := B15.out.lt; omega
          obtain ⟨V, hW⟩ : ∃ V, A.alloc (.cells #[.int .i64 0, .int .i64 0, .bool false, .bool false, .bool false, .int .i64 0, .int .i64 0, .int .i64 0, .int .i64 0, .int .i64 0] 30) = V := ⟨_, rfl⟩
          have B16 : Hid (Bk V q16 30 [.int .i64 0, .int .i64 0, .bool false, .bool false, .bool false, .int .i64 0, .int .i64 0, .int .i64 0, .int .i64 0, .int .i64 0]) := by rw [← hW, ← hg]; exact Bk.new A [.int .i64 0, .int .i64 0, .bool false, .bool false, .bool false, .int .i64 0, .int .i64 0, .int .i64 0, .int .i64 0, .int .i64 0] 30
          replace S : Hid (St 71 V F bs2 ks) := by rw [← hW]; exact S.out.alloc _
          replace C : Hid (Ch W V [F.gb]) := by rw [← hW]; exact C.out.alloc _
          replace B11 : Hid (Bk V go 28 [.int .u32 a0, .int .u32 a1, .int .u32 a2, .int .u32 a3, .int .u32 a4, .int .u32 a5, .int .u32 a6, .int .u32 a7, .int .u32 a8, .int .u32 a9, .int .u32 a10, .int .u32 a11, .int .u32 a12, .int .u32 a13, .int .u32 a14, .int .u32 a15]) := by rw [← hW]; exact B11.out.alloc _
          replace B15 : Hid (Bk V q15 28 [.int .u32 0, .int .u32 0, .int .u32 0, .int .u32 0, .int .u32 0, .int .u32 0, .int .u32 0, .int .u32 0, .int .u32 0, .int .u32 0, .int .u32 0, .int .u32 0, .int .u32 0, .int .u32 0, .int .u32 0, .int .u32 0]) := by rw [← hW]; exact B15.out.alloc _
          rw [hW]
          try rw [hg]
          clear hW hg hHeld
          clear A
          rename World => A
          refine hK.out _ _ ?_ (fun hHeld => ?_)
          focus ((try dsimp only); exact B11.out)
          clear hK K
          try simp only [Act.put, List.setIfInBounds_toArray, List.set_cons_zero, List.set_cons_succ]
          exact TL A q15 q16 ⟨S.out, C.out, B11.out, B15.out, B16.out, ge15, ge16, by omega, by omega, by omega, trivial⟩
        refine consL rfl (fun K hK => ?_) AllReadyH.nil
        go_simp
        obtain ⟨q16, hg⟩ : ∃ q, A.heap.size = q := ⟨_, rfl⟩
        have ge16 : W.heap.size ≤ q16 := by have := C.out.size; omega
        have ne16_11 : q16 ≠ go := by have := B11.out.lt; omega
        obtain ⟨V, hW⟩ : ∃ V, A.alloc (.cells #[.int .i64 0, .int .i64 0, .bool false, .bool false, .bool false, .int .i64 0, .int .i64 0, .int .i64 0, .int .i64 0, .int .i64 0] 30) = V := ⟨_, rfl⟩
        have B16 : Hid (Bk V q16 30 [.int .i64 0, .int .i64 0, .bool false, .bool false, .bool false, .int .i64 0, .int .i64 0, .int .i64 0, .int .i64 0, .int .i64 0]) := by rw [← hW, ← hg]; exact Bk.new A [.int .i64 0, .int .i64 0, .bool false, .bool false, .bool false, .int .i64 0, .int .i64 0, .int .i64 0, .int .i64 0, .int .i64 0] 30
        replace S : Hid (St 71 V F bs2 ks) := by rw [← hW]; exact S.out.alloc _
        replace C : Hid (Ch W V [F.gb]) := by rw [← hW]; exact C.out.alloc _
        replace B11 : Hid (Bk V go 28 [.int .u32 a0, .int .u32 a1, .int .u32 a2, .int .u32 a3, .int .u32 a4, .int .u32 a5, .int .u32 a6, .int .u32 a7, .int .u32 a8, .int .u32 a9, .int .u32 a10, .int .u32 a11, .int .u32 a12, .int .u32 a13, .int .u32 a14, .int .u32 a15]) := by rw [← hW]; exact B11.out.alloc _
        rw [hW]
        try rw [hg]
        clear hW hg hHeld
        clear A
        rename World => A
        refine hK.out _ _ ?_ (fun hHeld => ?_)
        focus ((try dsimp only); exact B11.out)
        clear hK K
        try simp only [Act.put, List.setIfInBounds_toArray, List.set_cons_zero, List.set_cons_succ]
        refine wpAnyH_ready (rs := [10]) (by kernel_rfl) (by simp) ?_
        refine consL rfl (fun K hK => ?_) AllReadyH.nil
        go_simp
        obtain ⟨q15, hg⟩ : ∃ q, A.heap.size = q := ⟨_, rfl⟩
        have ge15 : W.heap.size ≤ q15 := by have := C.out.size; omega
        have ne15_11 : q15 ≠ go := by have := B11.out.lt; omega
        have ne15_16 : q15 ≠ q16 := by have := B16.out.lt; omega
        obtain ⟨V, hW⟩ : ∃ V, A.alloc (.cells #[.int .u32 0, .int .u32 0, .int .u32 0, .int .u32 0, .int .u32 0, .int .u32 0, .int .u32 0, .int .u32 0, .int .u32 0, .int .u32 0, .int .u32 0, .int .u32 0, .int .u32 0, .int .u32 0, .int .u32 0, .int .u32 0] 28) = V := ⟨_, rfl⟩
        have B15 : Hid (Bk V q15 28 [.int .u32 0, .int .u32 0, .int .u32 0, .int .u32 0, .int .u32 0, .int .u32 0, .int .u32 0, .int .u32 0, .int .u32 0, .int .u32 0, .int .u32 0, .int .u32 0, .int .u32 0, .int .u32 0, .int .u32 0, .int .u32 0]) := by rw [← hW, ← hg]; exact Bk.new A [.int .u32 0, .int .u32 0, .int .u32 0, .int .u32 0, .int .u32 0, .int .u32 0, .int .u32 0, .int .u32 0, .int .u32 0, .int .u32 0, .int .u32 0, .int .u32 0, .int .u32 0, .int .u32 0, .int .u32 0, .int .u32 0] 28
        replace S : Hid (St 71 V F bs2 ks) := by rw [← hW]; exact S.out.alloc _
        replace C : Hid (Ch W V [F.gb]) := by rw [← hW]; exact C.out.alloc _
        replace B11 : Hid (Bk V go 28 [.int .u32 a0, .int .u32 a1, .int .u32 a2, .int .u32 a3, .int .u32 a4, .int .u32 a5, .int .u32 a6, .int .u32 a7, .int .u32 a8, .int .u32 a9, .int .u32 a10, .int .u32 a11, .int .u32 a12, .int .u32 a13, .int .u32 a14, .int .u32 a15]) := by rw [← hW]; exact B11.out.alloc _
        replace B16 : Hid (Bk V q16 30 [.int .i64 0, .int .i64 0, .bool false, .bool false, .bool false, .int .i64 0, .int .i64 0, .int .i64 0, .int .i64 0, .int .i64 0]) := by rw [← hW]; exact B16.out.alloc _
        rw [hW]
        try rw [hg]
        clear hW hg hHeld
        clear A
        rename World => A
        refine hK.out _ _ ?_ (fun hHeld => ?_)
        focus ((try dsimp only); exact B11.out)
        clear hK K
        try simp only [Act.put, List.setIfInBounds_toArray, List.set_cons_zero, List.set_cons_succ]
        exact TL A q15 q16 ⟨S.out, C.out, B11.out, B15.out, B16.out, ge15, ge16, by omega, by omega, by omega, trivial⟩
      refine consL rfl (fun K hK => ?_) ?_
      · go_simp
        obtain ⟨q15, hg⟩ : ∃ q, A.heap.size = q := ⟨_, rfl⟩
        have ge15 : W.heap.size ≤ q15 := by have := C.out.size; omega
        have ne15_11 : q15 ≠ go := by have := B11.out.lt; omega
        obtain ⟨V, hW⟩ : ∃ V, A.alloc (.cells #[.int .u32 0, .int .u32 0, .int .u32 0, .int .u32 0, .int .u32 0, .int .u32 0, .int .u32 0, .int .u32 0, .int .u32 0, .int .u32 0, .int .u32 0, .int .u32 0, .int .u32 0, .int .u32 0, .int .u32 0, .int .u32 0] 28) = V := ⟨_, rfl⟩
        have B15 : Hid (Bk V q15 28 [.int .u32 0, .int .u32 0, .int .u32 0, .int .u32 0, .int .u32 0, .int .u32 0, .int .u32 0, .int .u32 0, .int .u32 0, .int .u32 0, .int .u32 0, .int .u32 0, .int .u32 0, .int .u32 0, .int .u32 0, .int .u32 0]) := by rw [← hW, ← hg]; exact Bk.new A [.int .u32 0, .int .u32 0, .int .u32 0, .int .u32 0, .int .u32 0, .int .u32 0, .int .u32 0, .int .u32 0, .int .u32 0, .int .u32 0, .int .u32 0, .int .u32 0, .int .u32 0, .int .u32 0, .int .u32 0, .int .u32 0] 28
        replace S : Hid (St 71 V F bs ks) := by rw [← hW]; exact S.out.alloc _
        replace C : Hid (Ch W V [F.gb]) := by rw [← hW]; exact C.out.alloc _
        replace B11 : Hid (Bk V go 28 [.int .u32 a0, .int .u32 a1, .int .u32 a2, .int .u32 a3, .int .u32 a4, .int .u32 a5, .int .u32 a6, .int .u32 a7, .int .u32 a8, .int .u32 a9, .int .u32 a10, .int .u32 a11, .int .u32 a12, .int .u32 a13, .int .u32 a14, .int .u32 a15]) := by rw [← hW]; exact B11.out.alloc _
        rw [hW]
        try rw [hg]
        clear hW hg hHeld
        clear A
        rename World => A
        refine hK.out _ _ ?_ (fun hHeld => ?_)
        focus ((try dsimp only); exact B11.out)
        clear hK K
        try simp only [Act.put, List.setIfInBounds_toArray, List.set_cons_zero, List.set_cons_succ]
        refine wpAnyH_ready (rs := [5, 11]) (by kernel_rfl) (by simp) ?_
        refine consL rfl (fun K hK => ?_) ?_
        · go_simp
          go_at_call 14
          refine (HX.out _ S.out).mono ?_
          rintro e V ⟨rfl, hs, hc⟩
          replace S := Lib.hid hs
          replace C := Lib.hid (C.out.trans (hc.mono (by simp)))
          replace B11 := Lib.hid (B11.out.ch hc (by simp; omega))
          replace B15 := Lib.hid (B15.out.ch hc (by simp; omega))
          clear hs hc hHeld
          clear A
          rename World => A
          go_wp2_with fail
          refine hK.out _ _ ?_ (fun hHeld => ?_)
          focus ((try dsimp only); exact B11.out)
          clear hK K
          try simp only [Act.put, List.setIfInBounds_toArray, List.set_cons_zero, List.set_cons_succ]
          refine' takeL (i := 6) (v := _) rfl (by kernel_rfl) (by kernel_rfl) (by kernel_rfl) (fun c a w => hQ c a _ w rfl) (Or.inl ⟨by rfl, ?yy162⟩) (by assumption) ?rr162
          case yy162 => intro w hSw; (try dsimp only at hSw); go_simp; (try with_reducible rfl)
          try simp only [Act.put, List.setIfInBounds_toArray, List.set_cons_zero, List.set_cons_succ]
          refine' takeL (i := 7) (v := _) rfl (by kernel_rfl) (by kernel_rfl) (by kernel_rfl) (fun c a w => hQ c a _ w rfl) (Or.inl ⟨by rfl, ?yy163⟩) (by assumption) ?rr163
          case yy163 => intro w hSw; (try dsimp only at hSw); go_simp; (try with_reducible rfl)
          try simp only [Act.put, List.setIfInBounds_toArray, List.set_cons_zero, List.set_cons_succ]
          refine' takeL (i := 8) (v := _) rfl (by kernel_rfl) (by kernel_rfl) (by kernel_rfl) (fun c a w => hQ c a _ w rfl) (Or.inl ⟨by rfl, ?yy164⟩) (by assumption) ?rr164
          case yy164 => intro w hSw; (try dsimp only at hSw); go_simp; (try with_reducible rfl)
          try simp only [Act.put, List.setIfInBounds_toArray, List.set_cons_zero, List.set_cons_succ]
          refine' takeL (i := 9) (v := _) rfl (by kernel_rfl) (by kernel_rfl) (by kernel_rfl) (fun c a w => hQ c a _ w rfl) (Or.inl ⟨by rfl, ?yy165⟩) (by assumption) ?rr165
          case yy165 => intro w hSw; (try dsimp only at hSw); go_simp; (try with_reducible rfl)
          try simp only [Act.put, List.setIfInBounds_toArray, List.set_cons_zero, List.set_cons_succ]
          refine wpAnyH_ready (rs := [11]) (by kernel_rfl) (by simp) ?_
          refine consL rfl (fun K hK => ?_) AllReadyH.nil
          go_simp
          obtain ⟨q16, hg⟩ : ∃ q, A.heap.size = q := ⟨_, rfl⟩
          have ge16 : W.heap.size ≤ q16 := by have := C.out.size; omega
          have ne16_11 : q16 ≠ go := by have := B11.out.lt; omega
          have ne16_15 : q16 ≠ q15 := by have := B15.out.lt; omega
          obtain ⟨V, hW⟩ : ∃ V, A.alloc (.cells #[.int .i64 0, .int .i64 0, .bool false, .bool false, .bool false, .int .i64 0, .int .i64 0, .int .i64 0, .int .i64 0, .int .i64 0] 30) = V := ⟨_, rfl⟩
          have B16 : Hid (Bk V q16 30 [.int .i64 0, .int .i64 0, .bool false, .bool false, .bool false, .int .i64 0, .int .i64 0, .int .i64 0, .int .i64 0, .int .i64 0]) := by rw [← hW, ← hg]; exact Bk.new A [.int .i64 0, .int .i64 0, .bool false, .bool false, .bool false, .int .i64 0, .int .i64 0, .int .i64 0, .int .i64 0, .int .i64 0] 30
          replace S : Hid (St 71 V F bs2 ks) := by rw [← hW]; exact S.out.alloc _
          replace C : Hid (Ch W V [F.gb]) := by rw [← hW]; exact C.out.alloc _
          replace B11 : Hid (Bk V go 28 [.int .u32 a0, .int .u32 a1, .int .u32 a2, .int .u32 a3, .int .u32 a4, .int .u32 a5, .int .u32 a6, .int .u32 a7, .int .u32 a8, .int .u32 a9, .int .u32 a10, .int .u32 a11, .int .u32 a12, .int .u32 a13, .int .u32 a14, .int .u32 a15]) := by rw [← hW]; exact B11.out.alloc _
          replace B15 : Hid (Bk V q15 28 [.int .u32 0, .int .u32 0, .int .u32 0, .int .u32 0, .int .u32 0, .int .u32 0, .int .u32 0, .int .u32 0, .int .u32 0, .int .u32 0, .int .u32 0, .int .u32 0, .int .u32 0, .int .u32 0, .int .u32 0, .int .u32 0]) := by rw [← hW]; exact B15.out.alloc _
          rw [hW]
          try rw [hg]
          clear hW hg hHeld
          clear A
          rename World => A
          refine hK.out _ _ ?_ (fun hHeld => ?_)
          focus ((try dsimp only); exact B11.out)
          clear hK K
          try simp only [Act.put, List.setIfInBounds_toArray, List.set_cons_zero, List.set_cons_succ]
          exact TL A q15 q16 ⟨S.out, C.out, B11.out, B15.out, B16.out, ge15, ge16, by omega, by omega, by omega, trivial⟩
        refine consL rfl (fun K hK => ?_) AllReadyH.nil
        go_simp
        obtain ⟨q16, hg⟩ : ∃ q, A.heap.size = q := ⟨_, rfl⟩
        have ge16 : W.heap.size ≤ q16 := by have := C.out.size; omega
        have ne16_11 : q16 ≠ go := by have := B11.out.lt; omega
        have ne16_15 : q16 ≠ q15 := by have := B15.out.lt; omega
        obtain ⟨V, hW⟩ : ∃ V, A.alloc (.cells #[.int .i64 0, .int .i64 0, .bool false, .bool false, .bool false, .int .i64 0, .int .i64 0, .int .i64 0, .int .i64 0, .int .i64 0] 30) = V := ⟨_, rfl⟩
        have B16 : Hid (Bk V q16 30 [.int .i64 0, .int .i64 0, .bool false, .bool false, .bool false, .int .i64 0, .int .i64 0, .int .i64 0, .int .i64 0, .int .i64 0]) := by rw [← hW, ← hg]; exact Bk.new A [.int .i64 0, .int .i64 0, .bool false, .bool false, .bool false, .int .i64 0, .int .i64 0, .int .i64 0, .int .i64 0, .int .i64 0] 30
        replace S : Hid (St 71 V F bs ks) := by rw [← hW]; exact S.out.alloc _
        replace C : Hid (Ch W V [F.gb]) := by rw [← hW]; exact C.out.alloc _
        replace B11 : Hid (Bk V go 28 [.int .u32 a0, .int .u32 a1, .int .u32 a2, .int .u32 a3, .int .u32 a4, .int .u32 a5, .int .u32 a6, .int .u32 a7, .int .u32 a8, .int .u32 a9, .int .u32 a10, .int .u32 a11, .int .u32 a12, .int .u32 a13, .int .u32 a14, .int .u32 a15]) := by rw [← hW]; exact B11.out.alloc _
        replace B15 : Hid (Bk V q15 28 [.int .u32 0, .int .u32 0, .int .u32 0, .int .u32 0, .int .u32 0, .int .u32 0, .int .u32 0, .int .u32 0, .int .u32 0, .int .u32 0, .int .u32 0, .int .u32 0, .int .u32 0, .int .u32 0, .int .u32 0, .int .u32 0]) := by rw [← hW]; exact B15.out.alloc _
        rw [hW]
        try rw [hg]
        clear hW hg hHeld
        clear A
        rename World => A
        refine hK.out _ _ ?_ (fun hHeld => ?_)
        focus ((try dsimp only); exact B11.out)
        clear hK K
        try simp only [Act.put, List.setIfInBounds_toArray, List.set_cons_zero, List.set_cons_succ]
        refine wpAnyH_ready (rs := [5]) (by kernel_rfl) (by simp) ?_
        refine consL rfl (fun K hK => ?_) AllReadyH.nil
        go_simp
        go_at_call 14
        refine (HX.out _ S.out).mono ?_
        rintro e V ⟨rfl, hs, hc⟩
        replace S := Lib.hid hs
        replace C := Lib.hid (C.out.trans (hc.mono (by simp)))
        replace B11 := Lib.hid (B11.out.ch hc (by simp; omega))
        replace B15 := Lib.hid (B15.out.ch hc (by simp; omega))
        replace B16 := Lib.hid (B16.out.ch hc (by simp; omega))
        clear hs hc hHeld
        clear A
        rename World => A
        go_wp2_with fail
        refine hK.out _ _ ?_ (fun hHeld => ?_)
        focus ((try dsimp only); exact B11.out)
        clear hK K
        try simp only [Act.put, List.setIfInBounds_toArray, List.set_cons_zero, List.set_cons_succ]
        refine' takeL (i := 6) (v := _) rfl (by kernel_rfl) (by kernel_rfl) (by kernel_rfl) (fun c a w => hQ c a _ w rfl) (Or.inl ⟨by rfl, ?yy166⟩) (by assumption) ?rr166
        case yy166 => intro w hSw; (try dsimp only at hSw); go_simp; (try with_reducible rfl)
        try simp only [Act.put, List.setIfInBounds_toArray, List.set_cons_zero, List.set_cons_succ]
        refine' takeL (i := 7) (v := _) rfl (by kernel_rfl) (by kernel_rfl) (by kernel_rfl) (fun c a w => hQ c a _ w rfl) (Or.inl ⟨by rfl, ?yy167⟩) (by assumption) ?rr167
        case yy167 => intro w hSw; (try dsimp only at hSw); go_simp; (try with_reducible rfl)
        try simp only [Act.put, List.setIfInBounds_toArray, List.set_cons_zero, List.set_cons_succ]
        refine' takeL (i := 8) (v := _) rfl (by kernel_rfl) (by kernel_rfl) (by kernel_rfl) (fun c a w => hQ c a _ w rfl) (Or.inl ⟨by rfl, ?yy168⟩) (by assumption) ?rr168
        case yy168 => intro w hSw; (try dsimp only at hSw); go_simp; (try with_reducible rfl)
        try simp only [Act.put, List.setIfInBounds_toArray, List.set_cons_zero, List.set_cons_succ]
        refine' takeL (i := 9) (v := _) rfl (by kernel_rfl) (by kernel_rfl) (by kernel_rfl) (fun c a w => hQ c a _ w rfl) (Or.inl ⟨by rfl, ?yy169⟩) (by assumption) ?rr169
        case yy169 => intro w hSw; (try dsimp only at hSw); go_simp; (try with_reducible rfl)
        try simp only [Act.put, List.setIfInBounds_toArray, List.set_cons_zero, List.set_cons_succ]
        exact TL A q15 q16 ⟨S.out, C.out, B11.out, B15.out, B16.out, ge15, ge16, by omega, by omega, by omega, trivial⟩
      refine consL rfl (fun K hK => ?_) AllReadyH.nil
      go_simp
      obtain ⟨q16, hg⟩ : ∃ q, A.heap.size = q := ⟨_, rfl⟩
      have ge16 : W.heap.size ≤ q16 := by have := C.out.size; omega
      have ne16_11 : q16 ≠ go := by have := B11.out.lt; omega
      obtain ⟨V, hW⟩ : ∃ V, A.alloc (.cells #[.int .i64 0, .int .i64 0, .bool false, .bool false, .bool false, .int .i64 0, .int .i64 0, .int .i64 0, .int .i64 0, .int .i64 0] 30) = V := ⟨_, rfl⟩
      have B16 : Hid (Bk V q16 30 [.int .i64 0, .int .i64 0, .bool false, .bool false, .bool false, .int .i64 0, .int .i64 0, .int .i64 0, .int .i64 0, .int .i64 0]) := by rw [← hW, ← hg]; exact Bk.new A [.int .i64 0, .int .i64 0, .bool false, .bool false, .bool false, .int .i64 0, .int .i64 0, .int .i64 0, .int .i64 0, .int .i64 0] 30
      replace S : Hid (St 71 V F bs ks) := by rw [← hW]; exact S.out.alloc _
      replace C : Hid (Ch W V [F.gb]) := by rw [← hW]; exact C.out.alloc _
      replace B11 : Hid (Bk V go 28 [.int .u32 a0, .int .u32 a1, .int .u32 a2, .int .u32 a3, .int .u32 a4, .int .u32 a5, .int .u32 a6, .int .u32 a7, .int .u32 a8, .int .u32 a9, .int .u32 a10, .int .u32 a11, .int .u32 a12, .int .u32 a13, .int .u32 a14, .int .u32 a15]) := by rw [← hW]; exact B11.out.alloc _
      rw [hW]
      try rw [hg]
      clear hW hg hHeld
      clear A
      rename World => A
      refine hK.out _ _ ?_ (fun hHeld => ?_)
      focus ((try dsimp only); exact B11.out)
      clear hK K
      try simp only [Act.put, List.setIfInBounds_toArray, List.set_cons_zero, List.set_cons_succ]
      refine wpAnyH_ready (rs := [5, 10]) (by kernel_rfl) (by simp) ?_
      refine consL rfl (fun K hK => ?_) ?_
      · go_simp
        go_at_call 14
        refine (HX.out _ S.out).mono ?_
        rintro e V ⟨rfl, hs, hc⟩
        replace S := Lib.hid hs
        replace C := Lib.hid (C.out.trans (hc.mono (by simp)))
        replace B11 := Lib.hid (B11.out.ch hc (by simp; omega))
        replace B16 := Lib.hid (B16.out.ch hc (by simp; omega))
        clear hs hc hHeld
        clear A
        rename World => A
        go_wp2_with fail
        refine hK.out _ _ ?_ (fun hHeld => ?_)
        focus ((try dsimp only); exact B11.out)
        clear hK K
        try simp only [Act.put, List.setIfInBounds_toArray, List.set_cons_zero, List.set_cons_succ]
        refine' takeL (i := 6) (v := _) rfl (by kernel_rfl) (by kernel_rfl) (by kernel_rfl) (fun c a w => hQ c a _ w rfl) (Or.inl ⟨by rfl, ?yy170⟩) (by assumption) ?rr170
        case yy170 => intro w hSw; (try dsimp only at hSw); go_simp; (try with_reducible rfl)
        try simp only [Act.put, List.setIfInBounds_toArray, List.set_cons_zero, List.set_cons_succ]
        refine' takeL (i := 7) (v := _) rfl (by kernel_rfl) (by kernel_rfl) (by kernel_rfl) (fun c a w => hQ c a _ w rfl) (Or.inl ⟨by rfl, ?yy171⟩) (by assumption) ?rr171
        case yy171 => intro w hSw; (try dsimp only at hSw); go_simp; (try with_reducible rfl)
        try simp only [Act.put, List.setIfInBounds_toArray, List.set_cons_zero, List.set_cons_succ]
        refine' takeL (i := 8) (v := _) rfl (by kernel_rfl) (by kernel_rfl) (by kernel_rfl) (fun c a w => hQ c a _ w rfl) (Or.inl ⟨by rfl, ?yy172⟩) (by assumption) ?rr172
        case yy172 => intro w hSw; (try dsimp only at hSw); go_simp; (try with_reducible rfl)
        try simp only [Act.put, List.setIfInBounds_toArray, List.set_cons_zero, List.set_cons_succ]
        refine' takeL (i := 9) (v := _) rfl (by kernel_rfl) (by kernel_rfl) (by kernel_rfl) (fun c a w => hQ c a _ w rfl) (Or.inl ⟨by rfl, ?yy173⟩) (by assumption) ?rr173
        case yy173 => intro w hSw; (try dsimp only at hSw); go_simp; (try with_reducible rfl)
        try simp only [Act.put, List.setIfInBounds_toArray, List.set_cons_zero, List.set_cons_succ]
        refine wpAnyH_ready (rs := [10]) (by kernel_rfl) (by simp) ?_
        refine consL rfl (fun K hK => ?_) AllReadyH.nil
        go_simp
        obtain ⟨q15, hg⟩ : ∃ q, A.heap.size = q := ⟨_, rfl⟩
        have ge15 : W.heap.size ≤ q15 := by have := C.out.size; omega
        have ne15_11 : q15 ≠ go := by have := B11.out.lt; omega
        have ne15_16 : q15 ≠ q16 := by have := B16.out.lt; omega
        obtain ⟨V, hW⟩ : ∃ V, A.alloc (.cells #[.int .u32 0, .int .u32 0, .int .u32 0, .int .u32 0, .int .u32 0, .int .u32 0, .int .u32 0, .int .u32 0, .int .u32 0, .int .u32 0, .int .u32 0, .int .u32 0, .int .u32 0, .int .u32 0, .int .u32 0, .int .u32 0] 28) = V := ⟨_, rfl⟩
        have B15 : Hid (Bk V q15 28 [.int .u32 0, .int .u32 0, .int .u32 0, .int .u32 0, .int .u32 0, .int .u32 0, .int .u32 0, .int .u32 0, .int .u32 0, .int .u32 0, .int .u32 0, .int .u32 0, .int .u32 0, .int .u32 0, .int .u32 0, .int .u32 0]) := by rw [← hW, ← hg]; exact Bk.new A [.int .u32 0, .int .u32 0, .int .u32 0, .int .u32 0, .int .u32 0, .int .u32 0, .int .u32 0, .int .u32 0, .int .u32 0, .int .u32 0, .int .u32 0, .int .u32 0, .int .u32 0, .int .u32 0, .int .u32 0, .int .u32 0] 28
        replace S : Hid (St 71 V F bs2 ks) := by rw [← hW]; exact S.out.alloc _
        replace C : Hid (Ch W V [F.gb]) := by rw [← hW]; exact C.out.alloc _
        replace B11 : Hid (Bk V go 28 [.int .u32 a0, .int .u32 a1, .int .u32 a2, .int .u32 a3, .int .u32 a4, .int .u32 a5, .int .u32 a6, .int .u32 a7, .int .u32 a8, .int .u32 a9, .int .u32 a10, .int .u32 a11, .int .u32 a12, .int .u32 a13, .int .u32 a14, .int .u32 a15]) := by rw [← hW]; exact B11.out.alloc _
        replace B16 : Hid (Bk V q16 30 [.int .i64 0, .int .i64 0, .bool false, .bool false, .bool false, .int .i64 0, .int .i64 0, .int .i64 0, .int .i64 0, .int .i64 0]) := by rw [← hW]; exact B16.out.alloc _
        rw [hW]
        try rw [hg]
        clear hW hg hHeld
        clear A
        rename World => A
        refine hK.out _ _ ?_ (fun hHeld => ?_)
        focus ((try dsimp only); exact B11.out)
        clear hK K
        try simp only [Act.put, List.setIfInBounds_toArray, List.set_cons_zero, List.set_cons_succ]
        exact TL A q15 q16 ⟨S.out, C.out, B11.out, B15.out, B16.out, ge15, ge16, by omega, by omega, by omega, trivial⟩
      refine consL rfl (fun K hK => ?_) AllReadyH.nil
      go_simp
      obtain ⟨q15, hg⟩ : ∃ q, A.heap.size = q := ⟨_, rfl⟩
      have ge15 : W.heap.size ≤ q15 := by have := C.out.size; omega
      have ne15_11 : q15 ≠ go := by have := B11.out.lt; omega
      have ne15_16 : q15 ≠ q16 := by have := B16.out.lt; omega
      obtain ⟨V, hW⟩ : ∃ V, A.alloc (.cells #[.int .u32 0, .int .u32 0, .int .u32 0, .int .u32 0, .int .u32 0, .int .u32 0, .int .u32 0, .int .u32 0, .int .u32 0, .int .u32 0, .int .u32 0, .int .u32 0, .int .u32 0, .int .u32 0, .int .u32 0, .int .u32 0] 28) = V := ⟨_, rfl⟩
      have B15 : Hid (Bk V q15 28 [.int .u32 0, .int .u32 0, .int .u32 0, .int .u32 0, .int .u32 0, .int .u32 0, .int .u32 0, .int .u32 0, .int .u32 0, .int .u32 0, .int .u32 0, .int .u32 0, .int .u32 0, .int .u32 0, .int .u32 0, .int .u32 0]) := by rw [← hW, ← hg]; exact Bk.new A [.int .u32 0, .int .u32 0, .int .u32 0, .int .u32 0, .int .u32 0, .int .u32 0, .int .u32 0, .int .u32 0, .int .u32 0, .int .u32 0, .int .u32 0, .int .u32 0, .int .u32 0, .int .u32 0, .int .u32 0, .int .u32 0] 28
      replace S : Hid (St 71 V F bs ks) := by rw [← hW]; exact S.out.alloc _
      replace C : Hid (Ch W V [F.gb]) := by rw [← hW]; exact C.out.alloc _
      replace B11 : Hid (Bk V go 28 [.int .u32 a0, .int .u32 a1, .int .u32 a2, .int .u32 a3, .int .u32 a4, .int .u32 a5, .int .u32 a6, .int .u32 a7, .int .u32 a8, .int .u32 a9, .int .u32 a10, .int .u32 a11, .int .u32 a12, .int .u32 a13, .int .u32 a14, .int .u32 a15]) := by rw [← hW]; exact B11.out.alloc _
      replace B16 : Hid (Bk V q16 30 [.int .i64 0, .int .i64 0, .bool false, .bool false, .bool false, .int .i64 0, .int .i64 0, .int .i64 0, .int .i64 0, .int .i64 0]) := by rw [← hW]; exact B16.out.alloc _
      rw [hW]
      try rw [hg]
      clear hW hg hHeld
      clear A
      rename World => A
      refine hK.out _ _ ?_ (fun hHeld => ?_)
      focus ((try dsimp only); exact B11.out)
      clear hK K
      try simp only [Act.put, List.setIfInBounds_toArray, List.set_cons_zero, List.set_cons_succ]
      refine wpAnyH_ready (rs := [5]) (by kernel_rfl) (by simp) ?_
      refine consL rfl (fun K hK => ?_) AllReadyH.nil
      go_simp
      go_at_call 14
      refine (HX.out _ S.out).mono ?_
      rintro e V ⟨rfl, hs, hc⟩
      replace S := Lib.hid hs
      replace C := Lib.hid (C.out.trans (hc.mono (by simp)))
      replace B11 := Lib.hid (B11.out.ch hc (by simp; omega))
      replace B16 := Lib.hid (B16.out.ch hc (by simp; omega))
      replace B15 := Lib.hid (B15.out.ch hc (by simp; omega))
      clear hs hc hHeld
      clear A
      rename World => A
      go_wp2_with fail
      refine hK.out _ _ ?_ (fun hHeld => ?_)
      focus ((try dsimp only); exact B11.out)
      clear hK K
      try simp only [Act.put, List.setIfInBounds_toArray, List.set_cons_zero, List.set_cons_succ]
      refine' takeL (i := 6) (v := _) rfl (by kernel_rfl) (by kernel_rfl) (by kernel_rfl) (fun c a w => hQ c a _ w rfl) (Or.inl ⟨by rfl, ?yy174⟩) (by assumption) ?rr174
      case yy174 => intro w hSw; (try dsimp only at hSw); go_simp; (try with_reducible rfl)
      try simp only [Act.put, List.setIfInBounds_toArray, List.set_cons_zero, List.set_cons_succ]
      refine' takeL (i := 7) (v := _) rfl (by kernel_rfl) (by kernel_rfl) (by kernel_rfl) (fun c a w => hQ c a _ w rfl) (Or.inl ⟨by rfl, ?yy175⟩) (by assumption) ?rr175
      case yy175 => intro w hSw; (try dsimp only at hSw); go_simp; (try with_reducible rfl)
      try simp only [Act.put, List.setIfInBounds_toArray, List.set_cons_zero, List.set_cons_succ]
      refine' takeL (i := 8) (v := _) rfl (by kernel_rfl) (by kernel_rfl) (by kernel_rfl) (fun c a w => hQ c a _ w rfl) (Or.inl ⟨by rfl, ?yy176⟩) (by assumption) ?rr176
      case yy176 => intro w hSw; (try dsimp only at hSw); go_simp; (try with_reducible rfl)
      try simp only [Act.put, List.setIfInBounds_toArray, List.set_cons_zero, List.set_cons_succ]
      refine' takeL (i := 9) (v := _) rfl (by kernel_rfl) (by kernel_rfl) (by kernel_rfl) (fun c a w => hQ c a _ w rfl) (Or.inl ⟨by rfl, ?yy177⟩) (by assumption) ?rr177
      case yy177 => intro w hSw; (try dsimp only at hSw); go_simp; (try with_reducible rfl)
      try simp only [Act.put, List.setIfInBounds_toArray, List.set_cons_zero, List.set_cons_succ]
      exact TL A q15 q16 ⟨S.out, C.out, B11.out, B15.out, B16.out, ge15, ge16, by omega, by omega, by omega, trivial⟩
    refine consL rfl (fun K hK => ?_) ?_
    · go_simp
      obtain ⟨q15, hg⟩ : ∃ q, A.heap.size = q := ⟨_, rfl⟩
      have ge15 : W.heap.size ≤ q15 := by have := C.out.size; omega
      have ne15_11 : q15 ≠ go := by have := B11.out.lt; omega
      obtain ⟨V, hW⟩ : ∃ V, A.alloc (.cells #[.int .u32 0, .int .u32 0, .int .u32 0, .int .u32 0, .int .u32 0, .int .u32 0, .int .u32 0, .int .u32 0, .int .u32 0, .int .u32 0, .int .u32 0, .int .u32 0, .int .u32 0, .int .u32 0, .int .u32 0, .int .u32 0] 28) = V := ⟨_, rfl⟩
      have B15 : Hid (Bk V q15 28 [.int .u32 0, .int .u32 0, .int .u32 0, .int .u32 0, .int .u32 0, .int .u32 0, .int .u32 0, .int .u32 0, .int .u32 0, .int .u32 0, .int .u32 0, .int .u32 0, .int .u32 0, .int .u32 0, .int .u32 0, .int .u32 0]) := by rw [← hW, ← hg]; exact Bk.new A [.int .u32 0, .int .u32 0, .int .u32 0, .int .u32 0, .int .u32 0, .int .u32 0, .int .u32 0, .int .u32 0, .int .u32 0, .int .u32 0, .int .u32 0, .int .u32 0, .int .u32 0, .int .u32 0, .int .u32 0, .int .u32 0] 28
      replace S : Hid (St 71 V F bs ks) := by rw [← hW]; exact S.out.alloc _
      replace C : Hid (Ch W V [F.gb]) := by rw [← hW]; exact C.out.alloc _
      replace B11 : Hid (Bk V go 28 [.int .u32 a0, .int .u32 a1, .int .u32 a2, .int .u32 a3, .int .u32 a4, .int .u32 a5, .int .u32 a6, .int .u32 a7, .int .u32 a8, .int .u32 a9, .int .u32 a10, .int .u32 a11, .int .u32 a12, .int .u32 a13, .int .u32 a14, .int .u32 a15]) := by rw [← hW]; exact B11.out.alloc _
      rw [hW]
      try rw [hg]
      clear hW hg hHeld
      clear A
      rename World => A
      refine hK.out _ _ ?_ (fun hHeld => ?_)
      focus ((try dsimp only); exact B11.out)
      clear hK K
      try simp only [Act.put, List.setIfInBounds_toArray, List.set_cons_zero, List.set_cons_succ]
      refine wpAnyH_ready (rs := [1, 11]) (by kernel_rfl) (by simp) ?_
      refine consL rfl (fun K hK => ?_) ?_
      · go_simp
        go_at_call 17
        refine (ss_c 215 (n : Int) _ (by omega) (by omega)).mono ?_
        rintro e V ⟨rfl, hb⟩
        replace S := Lib.hid (S.out.belowS hb)
        replace C := Lib.hid (C.out.trans (Ch.of_below hb _))
        replace B11 := Lib.hid (B11.out.keep hb)
        replace B15 := Lib.hid (B15.out.keep hb)
        clear hb hHeld
        clear A
        rename World => A
        go_wp2_with fail
        refine hK.out _ _ ?_ (fun hHeld => ?_)
        focus ((try dsimp only); exact B11.out)
        clear hK K
        try simp only [Act.put, List.setIfInBounds_toArray, List.set_cons_zero, List.set_cons_succ]
        refine wpAnyH_ready (rs := [5, 11]) (by kernel_rfl) (by simp) ?_
        refine consL rfl (fun K hK => ?_) ?_
        · go_simp
          go_at_call 14
          refine (HX.out _ S.out).mono ?_
          rintro e V ⟨rfl, hs, hc⟩
          replace S := Lib.hid hs
          replace C := Lib.hid (C.out.trans (hc.mono (by simp)))
          replace B11 := Lib.hid (B11.out.ch hc (by simp; omega))
          replace B15 := Lib.hid (B15.out.ch hc (by simp; omega))
          clear hs hc hHeld
          clear A
          rename World => A
          go_wp2_with fail
          refine hK.out _ _ ?_ (fun hHeld => ?_)
          focus ((try dsimp only); exact B11.out)
          clear hK K
          try simp only [Act.put, List.setIfInBounds_toArray, List.set_cons_zero, List.set_cons_succ]
          refine' takeL (i := 6) (v := _) rfl (by kernel_rfl) (by kernel_rfl) (by kernel_rfl) (fun c a w => hQ c a _ w rfl) (Or.inl ⟨by rfl, ?yy178⟩) (by assumption) ?rr178
          case yy178 => intro w hSw; (try dsimp only at hSw); go_simp; (try with_reducible rfl)
          try simp only [Act.put, List.setIfInBounds_toArray, List.set_cons_zero, List.set_cons_succ]
          refine' takeL (i := 7) (v := _) rfl (by kernel_rfl) (by kernel_rfl) (by kernel_rfl) (fun c a w => hQ c a _ w rfl) (Or.inl ⟨by rfl, ?yy179⟩) (by assumption) ?rr179
          case yy179 => intro w hSw; (try dsimp only at hSw); go_simp; (try with_reducible rfl)
          try simp only [Act.put, List.setIfInBounds_toArray, List.set_cons_zero, List.set_cons_succ]
          refine' takeL (i := 8) (v := _) rfl (by kernel_rfl) (by kernel_rfl) (by kernel_rfl) (fun c a w => hQ c a _ w rfl) (Or.inl ⟨by rfl, ?yy180⟩) (by assumption) ?rr180
          case yy180 => intro w hSw; (try dsimp only at hSw); go_simp; (try with_reducible rfl)
          try simp only [Act.put, List.setIfInBounds_toArray, List.set_cons_zero, List.set_cons_succ]
          refine' takeL (i := 9) (v := _) rfl (by kernel_rfl) (by kernel_rfl) (by kernel_rfl) (fun c a w => hQ c a _ w rfl) (Or.inl ⟨by rfl, ?yy181⟩) (by assumption) ?rr181
          case yy181 => intro w hSw; (try dsimp only at hSw); go_simp; (try with_reducible rfl)
          try simp only [Act.put, List.setIfInBounds_toArray, List.set_cons_zero, List.set_cons_succ]
          refine wpAnyH_ready (rs := [11]) (by kernel_rfl) (by simp) ?_
          refine consL rfl (fun K hK => ?_) AllReadyH.nil
          go_simp
          obtain ⟨q16, hg⟩ : ∃ q, A.heap.size = q := ⟨_, rfl⟩
          have ge16 : W.heap.size ≤ q16 := by have := C.out.size; omega
          have ne16_11 : q16 ≠ go := by have := B11.out.lt; omega
          have ne16_15 : q16 ≠ q15 := by have := B15.out.lt; omega
          obtain ⟨V, hW⟩ : ∃ V, A.alloc (.cells #[.int .i64 0, .int .i64 0, .bool false, .bool false, .bool false, .int .i64 0, .int .i64 0, .int .i64 0, .int .i64 0, .int .i64 0] 30) = V := ⟨_, rfl⟩
          have B16 : Hid (Bk V q16 30 [.int .i64 0, .int .i64 0, .bool false, .bool false, .bool false, .int .i64 0, .int .i64 0, .int .i64 0, .int .i64 0, .int .i64 0]) := by rw [← hW, ← hg]; exact Bk.new A [.int .i64 0, .int .i64 0, .bool false, .bool false, .bool false, .int .i64 0, .int .i64 0, .int .i64 0, .int .i64 0, .int .i64 0] 30
          replace S : Hid (St 71 V F bs2 ks) := by rw [← hW]; exact S.out.alloc _
          replace C : Hid (Ch W V [F.gb]) := by rw [← hW]; exact C.out.alloc _
          replace B11 : Hid (Bk V go 28 [.int .u32 a0, .int .u32 a1, .int .u32 a2, .int .u32 a3, .int .u32 a4, .int .u32 a5, .int .u32 a6, .int .u32 a7, .int .u32 a8, .int .u32 a9, .int .u32 a10, .int .u32 a11, .int .u32 a12, .int .u32 a13, .int .u32 a14, .int .u32 a15]) := by rw [← hW]; exact B11.out.alloc _
          replace B15 : Hid (Bk V q15 28 [.int .u32 0, .int .u32 0, .int .u32 0, .int .u32 0, .int .u32 0, .int .u32 0, .int .u32 0, .int .u32 0, .int .u32 0, .int .u32 0, .int .u32 0, .int .u32 0, .int .u32 0, .int .u32 0, .int .u32 0, .int .u32 0]) := by rw [← hW]; exact B15.out.alloc _
          rw [hW]
          try rw [hg]
          clear hW hg hHeld
          clear A
          rename World => A
          refine hK.out _ _ ?_ (fun hHeld => ?_)
          focus ((try dsimp only); exact B11.out)
          clear hK K
          try simp only [Act.put, List.setIfInBounds_toArray, List.set_cons_zero, List.set_cons_succ]
          exact TL A q15 q16 ⟨S.out, C.out, B11.out, B15.out, B16.out, ge15, ge16, by omega, by omega, by omega, trivial⟩
        refine consL rfl (fun K hK => ?_) AllReadyH.nil
        go_simp
        obtain ⟨q16, hg⟩ : ∃ q, A.heap.size = q := ⟨_, rfl⟩
        have ge16 : W.heap.size ≤ q16 := by have := C.out.size; omega
        have ne16_11 : q16 ≠ go := by have := B11.out.lt; omega
        have ne16_15 : q16 ≠ q15 := by have := B15.out.lt; omega
        obtain ⟨V, hW⟩ : ∃ V, A.alloc (.cells #[.int .i64 0, .int .i64 0, .bool false, .bool false, .bool false, .int .i64 0, .int .i64 0, .int .i64 0, .int .i64 0, .int .i64 0] 30) = V := ⟨_, rfl⟩
        have B16 : Hid (Bk V q16 30 [.int .i64 0, .int .i64 0, .bool false, .bool false, .bool false, .int .i64 0, .int .i64 0, .int .i64 0, .int .i64 0, .int .i64 0]) := by rw [← hW, ← hg]; exact Bk.new A [.int .i64 0, .int .i64 0, .bool false, .bool false, .bool false, .int .i64 0, .int .i64 0, .int .i64 0, .int .i64 0, .int .i64 0] 30
        replace S : Hid (St 71 V F bs ks) := by rw [← hW]; exact S.out.alloc _
        replace C : Hid (Ch W V [F.gb]) := by rw [← hW]; exact C.out.alloc _
        replace B11 : Hid (Bk V go 28 [.int .u32 a0, .int .u32 a1, .int .u32 a2, .int .u32 a3, .int .u32 a4, .int .u32 a5, .int .u32 a6, .int .u32 a7, .int .u32 a8, .int .u32 a9, .int .u32 a10, .int .u32 a11, .int .u32 a12, .int .u32 a13, .int .u32 a14, .int .u32 a15]) := by rw [← hW]; exact B11.out.alloc _
        replace B15 : Hid (Bk V q15 28 [.int .u32 0, .int .u32 0, .int .u32 0, .int .u32 0, .int .u32 0, .int .u32 0, .int .u32 0, .int .u32 0, .int .u32 0, .int .u32 0, .int .u32 0, .int .u32 0, .int .u32 0, .int .u32 0, .int .u32 0, .int .u32 0]) := by rw [← hW]; exact B15.out.alloc _
        rw [hW]
        try rw [hg]
        clear hW hg hHeld
        clear A
        rename World => A
        refine hK.out _ _ ?_ (fun hHeld => ?_)
        focus ((try dsimp only); exact B11.out)
        clear hK K
        try simp only [Act.put, List.setIfInBounds_toArray, List.set_cons_zero, List.set_cons_succ]
        refine wpAnyH_ready (rs := [5]) (by kernel_rfl) (by simp) ?_
        refine consL rfl (fun K hK => ?_) AllReadyH.nil
        go_simp
        go_at_call 14
        refine (HX.out _ S.out).mono ?_
        rintro e V ⟨rfl, hs, hc⟩
        replace S := Lib.hid hs
        replace C := Lib.hid (C.out.trans (hc.mono (by simp)))
        replace B11 := Lib.hid (B11.out.ch hc (by simp; omega))
        replace B15 := Lib.hid (B15.out.ch hc (by simp; omega))
        replace B16 := Lib.hid (B16.out.ch hc (by simp; omega))
        clear hs hc hHeld
        clear A
        rename World => A
        go_wp2_with fail
        refine hK.out _ _ ?_ (fun hHeld => ?_)
        focus ((try dsimp only); exact B11.out)
        clear hK K
        try simp only [Act.put, List.setIfInBounds_toArray, List.set_cons_zero, List.set_cons_succ]
        refine' takeL (i := 6) (v := _) rfl (by kernel_rfl) (by kernel_rfl) (by kernel_rfl) (fun c a w => hQ c a _ w rfl) (Or.inl ⟨by rfl, ?yy182⟩) (by assumption) ?rr182
        case yy182 => intro w hSw; (try dsimp only at hSw); go_simp; (try with_reducible rfl)
        try simp only [Act.put, List.setIfInBounds_toArray, List.set_cons_zero, List.set_cons_succ]
        refine' takeL (i := 7) (v := _) rfl (by kernel_rfl) (by kernel_rfl) (by kernel_rfl) (fun c a w => hQ c a _ w rfl) (Or.inl ⟨by rfl, ?yy183⟩) (by assumption) ?rr183
        case yy183 => intro w hSw; (try dsimp only at hSw); go_simp; (try with_reducible rfl)
        try simp only [Act.put, List.setIfInBounds_toArray, List.set_cons_zero, List.set_cons_succ]
        refine' takeL (i := 8) (v := _) rfl (by kernel_rfl) (by kernel_rfl) (by kernel_rfl) (fun c a w => hQ c a _ w rfl) (Or.inl ⟨by rfl, ?yy184⟩) (by assumption) ?rr184
        case yy184 => intro w hSw; (try dsimp only at hSw); go_simp; (try with_reducible rfl)
        try simp only [Act.put, List.setIfInBounds_toArray, List.set_cons_zero, List.set_cons_succ]
        refine' takeL (i := 9) (v := _) rfl (by kernel_rfl) (by kernel_rfl) (by kernel_rfl) (fun c a w => hQ c a _ w rfl) (Or.inl ⟨by rfl, ?yy185⟩) (by assumption) ?rr185
        case yy185 => intro w hSw; (try dsimp only at hSw); go_simp; (try with_reducible rfl)
        try simp only [Act.put, List.setIfInBounds_toArray, List.set_cons_zero, List.set_cons_succ]
        exact TL A q15 q16 ⟨S.out, C.out, B11.out, B15.out, B16.out, ge15, ge16, by omega, by omega, by omega, trivial⟩
      refine consL rfl (fun K hK => ?_) AllReadyH.nil
      go_simp
      obtain ⟨q16, hg⟩ : ∃ q, A.heap.size = q := ⟨_, rfl⟩
      have ge16 : W.heap.size ≤ q16 := by have := C.out.size; omega
      have ne16_11 : q16 ≠ go := by have := B11.out.lt; omega
      have ne16_15 : q16 ≠ q15 := by have := B15.out.lt; omega
      obtain ⟨V, hW⟩ : ∃ V, A.alloc (.cells #[.int .i64 0, .int .i64 0, .bool false, .bool false, .bool false, .int .i64 0, .int .i64 0, .int .i64 0, .int .i64 0, .int .i64 0] 30) = V := ⟨_, rfl⟩
      have B16 : Hid (Bk V q16 30 [.int .i64 0, .int .i64 0, .bool false, .bool false, .bool false, .int .i64 0, .int .i64 0, .int .i64 0, .int .i64 0, .int .i64 0]) := by rw [← hW, ← hg]; exact Bk.new A [.int .i64 0, .int .i64 0, .bool false, .bool false, .bool false, .int .i64 0, .int .i64 0, .int .i64 0, .int .i64 0, .int .i64 0] 30
      replace S : Hid (St 71 V F bs ks) := by rw [← hW]; exact S.out.alloc _
      replace C : Hid (Ch W V [F.gb]) := by rw [← hW]; exact C.out.alloc _
      replace B11 : Hid (Bk V go 28 [.int .u32 a0, .int .u32 a1, .int .u32 a2, .int .u32 a3, .int .u32 a4, .int .u32 a5, .int .u32 a6, .int .u32 a7, .int .u32 a8, .int .u32 a9, .int .u32 a10, .int .u32 a11, .int .u32 a12, .int .u32 a13, .int .u32 a14, .int .u32 a15]) := by rw [← hW]; exact B11.out.alloc _
      replace B15 : Hid (Bk V q15 28 [.int .u32 0, .int .u32 0, .int .u32 0, .int .u32 0, .int .u32 0, .int .u32 0, .int .u32 0, .int .u32 0, .int .u32 0, .int .u32 0, .int .u32 0, .int .u32 0, .int .u32 0, .int .u32 0, .int .u32 0, .int .u32 0]) := by rw [← hW]; exact B15.out.alloc _
      rw [hW]
      try rw [hg]
      clear hW hg hHeld
      clear A
      rename World => A
      refine hK.out _ _ ?_ (fun hHeld => ?_)
      focus ((try dsimp only); exact B11.out)
      clear hK K
      try simp only [Act.put, List.setIfInBounds_toArray, List.set_cons_zero, List.set_cons_succ]
      refine wpAnyH_ready (rs := [1]) (by kernel_rfl) (by simp) ?_
      refine consL rfl (fun K hK => ?_) AllReadyH.nil
      go_simp
      go_at_call 17
      refine (ss_c 215 (n : Int) _ (by omega) (by omega)).mono ?_
      rintro e V ⟨rfl, hb⟩
      replace S := Lib.hid (S.out.belowS hb)
      replace C := Lib.hid (C.out.trans (Ch.of_below hb _))
      replace B11 := Lib.hid (B11.out.keep hb)
      replace B15 := Lib.hid (B15.out.keep hb)
      replace B16 := Lib.hid (B16.out.keep hb)
      clear hb hHeld
      clear A
      rename World => A
      go_wp2_with fail
      refine hK.out _ _ ?_ (fun hHeld => ?_)
      focus ((try dsimp only); exact B11.out)
      clear hK K
      try simp only [Act.put, List.setIfInBounds_toArray, List.set_cons_zero, List.set_cons_succ]
      refine wpAnyH_ready (rs := [5]) (by kernel_rfl) (by simp) ?_
      refine consL rfl (fun K hK => ?_) AllReadyH.nil
      go_simp
      go_at_call 14
      refine (HX.out _ S.out).mono ?_
      rintro e V ⟨rfl, hs, hc⟩
      replace S := Lib.hid hs
      replace C := Lib.hid (C.out.trans (hc.mono (by simp)))
      replace B11 := Lib.hid (B11.out.ch hc (by simp; omega))
      replace B15 := Lib.hid (B15.out.ch hc (by simp; omega))
      replace B16 := Lib.hid (B16.out.ch hc (by simp; omega))
      clear hs hc hHeld
      clear A
      rename World => A
      go_wp2_with fail
      refine hK.out _ _ ?_ (fun hHeld => ?_)
      focus ((try dsimp only); exact B11.out)
      clear hK K
      try simp only [Act.put, List.setIfInBounds_toArray, List.set_cons_zero, List.set_cons_succ]
      refine' takeL (i := 6) (v := _) rfl (by kernel_rfl) (by kernel_rfl) (by kernel_rfl) (fun c a w => hQ c a _ w rfl) (Or.inl ⟨by rfl, ?yy186⟩) (by assumption) ?rr186
      case yy186 => intro w hSw; (try dsimp only at hSw); go_simp; (try with_reducible rfl)
      try simp only [Act.put, List.setIfInBounds_toArray, List.set_cons_zero, List.set_cons_succ]
      refine' takeL (i := 7) (v := _) rfl (by kernel_rfl) (by kernel_rfl) (by kernel_rfl) (fun c a w => hQ c a _ w rfl) (Or.inl ⟨by rfl, ?yy187⟩) (by assumption) ?rr187
      case yy187 => intro w hSw; (try dsimp only at hSw); go_simp; (try with_reducible rfl)
      try simp only [Act.put, List.setIfInBounds_toArray, List.set_cons_zero, List.set_cons_succ]
      refine' takeL (i := 8) (v := _) rfl (by kernel_rfl) (by kernel_rfl) (by kernel_rfl) (fun c a w => hQ c a _ w rfl) (Or.inl ⟨by rfl, ?yy188⟩) (by assumption) ?rr188
      case yy188 => intro w hSw; (try dsimp only at hSw); go_simp; (try with_reducible rfl)
      try simp only [Act.put, List.setIfInBounds_toArray, List.set_cons_zero, List.set_cons_succ]
      refine' takeL (i := 9) (v := _) rfl (by kernel_rfl) (by kernel_rfl) (by kernel_rfl) (fun c a w => hQ c a _ w rfl) (Or.inl ⟨by rfl, ?yy189⟩) (by assumption) ?rr189
      case yy189 => intro w hSw; (try dsimp only at hSw); go_simp; (try with_reducible rfl)
      try simp only [Act.put, List.setIfInBounds_toArray, List.set_cons_zero, List.set_cons_succ]
      exact TL A q15 q16 ⟨S.out, C.out, B11.out, B15.out, B16.out, ge15, ge16, by omega, by omega, by omega, trivial⟩
    refine consL rfl (fun K hK => ?_) AllReadyH.nil
    go_simp
    obtain ⟨q16, hg⟩ : ∃ q, A.heap.size = q := ⟨_, rfl⟩
    have ge16 : W.heap.size ≤ q16 := by have := C.out.size; omega
    have ne16_11 : q16 ≠ go := by have := B11.out.lt; omega
    obtain ⟨V, hW⟩ : ∃ V, A.alloc (.cells #[.int .i64 0, .int .i64 0, .bool false, .bool false, .bool false, .int .i64 0, .int .i64 0, .int .i64 0, .int .i64 0, .int .i64 0] 30) = V := ⟨_, rfl⟩
    have B16 : Hid (Bk V q16 30 [.int .i64 0, .int .i64 0, .bool false, .bool false, .bool false, .int .i64 0, .int .i64 0, .int .i64 0, .int .i64 0, .int .i64 0]) := by rw [← hW, ← hg]; exact Bk.new A [.int .i64 0, .int .i64 0, .bool false, .bool false, .bool false, .int .i64 0, .int .i64 0, .int .i64 0, .int .i64 0, .int .i64 0] 30
    replace S : Hid (St 71 V F bs ks) := by rw [← hW]; exact S.out.alloc _
    replace C : Hid (Ch W V [F.gb]) := by rw [← hW]; exact C.out.alloc _
    replace B11 : Hid (Bk V go 28 [.int .u32 a0, .int .u32 a1, .int .u32 a2, .int .u32 a3, .int .u32 a4, .int .u32 a5, .int .u32 a6, .int .u32 a7, .int .u32 a8, .int .u32 a9, .int .u32 a10, .int .u32 a11, .int .u32 a12, .int .u32 a13, .int .u32 a14, .int .u32 a15]) := by rw [← hW]; exact B11.out.alloc _
    rw [hW]
    try rw [hg]
    clear hW hg hHeld
    clear A
    rename World => A
    refine hK.out _ _ ?_ (fun hHeld => ?_)
    focus ((try dsimp only); exact B11.out)
    clear hK K
    try simp only [Act.put, List.setIfInBounds_toArray, List.set_cons_zero, List.set_cons_succ]
    refine wpAnyH_ready (rs := [1, 10]) (by kernel_rfl) (by simp) ?_
    refine consL rfl (fun K hK => ?_) ?_
    · go_simp
      go_at_call 17
      refine (ss_c 215 (n : Int) _ (by omega) (by omega)).mono ?_
      rintro e V ⟨rfl, hb⟩
      replace S := Lib.hid (S.out.belowS hb)
      replace C := Lib.hid (C.out.trans (Ch.of_below hb _))
      replace B11 := Lib.hid (B11.out.keep hb)
      replace B16 := Lib.hid (B16.out.keep hb)
      clear hb hHeld
      clear A
      rename World => A
      go_wp2_with fail
      refine hK.out _ _ ?_ (fun hHeld => ?_)
      focus ((try dsimp only); exact B11.out)
      clear hK K
      try simp only [Act.put, List.setIfInBounds_toArray, List.set_cons_zero, List.set_cons_succ]
      refine wpAnyH_ready (rs := [5, 10]) (by kernel_rfl) (by simp) ?_
      refine consL rfl (fun K hK => ?_) ?_
      · go_simp
        go_at_call 14
        refine (HX.out _ S.out).mono ?_
        rintro e V ⟨rfl, hs, hc⟩
        replace S := Lib.hid hs
        replace C := Lib.hid (C.out.trans (hc.mono (by simp)))
        replace B11 := Lib.hid (B11.out.ch hc (by simp; omega))
        replace B16 := Lib.hid (B16.out.ch hc (by simp; omega))
        clear hs hc hHeld
        clear A
        rename World => A
        go_wp2_with fail
        refine hK.out _ _ ?_ (fun hHeld => ?_)
        focus ((try dsimp only); exact B11.out)
        clear hK K
        try simp only [Act.put, List.setIfInBounds_toArray, List.set_cons_zero, List.set_cons_succ]
        refine' takeL (i := 6) (v := _) rfl (by kernel_rfl) (by kernel_rfl) (by kernel_rfl) (fun c a w => hQ c a _ w rfl) (Or.inl ⟨by rfl, ?yy190⟩) (by assumption) ?rr190
        case yy190 => intro w hSw; (try dsimp only at hSw); go_simp; (try with_reducible rfl)
        try simp only [Act.put, List.setIfInBounds_toArray, List.set_cons_zero, List.set_cons_succ]
        refine' takeL (i := 7) (v := _) rfl (by kernel_rfl) (by kernel_rfl) (by kernel_rfl) (fun c a w => hQ c a _ w rfl) (Or.inl ⟨by rfl, ?yy191⟩) (by assumption) ?rr191
        case yy191 => intro w hSw; (try dsimp only at hSw); go_simp; (try with_reducible rfl)
        try simp only [Act.put, List.setIfInBounds_toArray, List.set_cons_zero, List.set_cons_succ]
        refine' takeL (i := 8) (v := _) rfl (by kernel_rfl) (by kernel_rfl) (by kernel_rfl) (fun c a w => hQ c a _ w rfl) (Or.inl ⟨by rfl, ?yy192⟩) (by assumption) ?rr192
        case yy192 => intro w hSw; (try dsimp only at hSw); go_simp; (try with_reducible rfl)
        try simp only [Act.put, List.setIfInBounds_toArray, List.set_cons_zero, List.set_cons_succ]
        refine' takeL (i := 9) (v := _) rfl (by kernel_rfl) (by kernel_rfl) (by kernel_rfl) (fun c a w => hQ c a _ w rfl) (Or.inl ⟨by rfl, ?yy193⟩) (by assumption) ?rr193
        case yy193 => intro w hSw; (try dsimp only at hSw); go_simp; (try with_reducible rfl)
        try simp only [Act.put, List.setIfInBounds_toArray, List.set_cons_zero, List.set_cons_succ]
        refine wpAnyH_ready (rs := [10]) (by kernel_rfl) (by simp) ?_
        refine consL rfl (fun K hK => ?_) AllReadyH.nil
        go_simp
        obtain ⟨q15, hg⟩ : ∃ q, A.heap.size = q := ⟨_, rfl⟩
        have ge15 : W.heap.size ≤ q15 := by have := C.out.size; omega
        have ne15_11 : q15 ≠ go := by have := B11.out.lt; omega
        have ne15_16 : q15 ≠ q16 := by have := B16.out.lt; omega
        obtain ⟨V, hW⟩ : ∃ V, A.alloc (.cells #[.int .u32 0, .int .u32 0, .int .u32 0, .int .u32 0, .int .u32 0, .int .u32 0, .int .u32 0, .int .u32 0, .int .u32 0, .int .u32 0, .int .u32 0, .int .u32 0, .int .u32 0, .int .u32 0, .int .u32 0, .int .u32 0] 28) = V := ⟨_, rfl⟩
        have B15 : Hid (Bk V q15 28 [.int .u32 0, .int .u32 0, .int .u32 0, .int .u32 0, .int .u32 0, .int .u32 0, .int .u32 0, .int .u32 0, .int .u32 0, .int .u32 0, .int .u32 0, .int .u32 0, .int .u32 0, .int .u32 0, .int .u32 0, .int .u32 0]) := by rw [← hW, ← hg]; exact Bk.new A [.int .u32 0, .int .u32 0, .int .u32 0, .int .u32 0, .int .u32 0, .int .u32 0, .int .u32 0, .int .u32 0, .int .u32 0, .int .u32 0, .int .u32 0, .int .u32 0, .int .u32 0, .int .u32 0, .int .u32 0, .int .u32 0] 28
        replace S : Hid (St 71 V F bs2 ks) := by rw [← hW]; exact S.out.alloc _
        replace C : Hid (Ch W V [F.gb]) := by rw [← hW]; exact C.out.alloc _
        replace B11 : Hid (Bk V go 28 [.int .u32 a0, .int .u32 a1, .int .u32 a2, .int .u32 a3, .int .u32 a4, .int .u32 a5, .int .u32 a6, .int .u32 a7, .int .u32 a8, .int .u32 a9, .int .u32 a10, .int .u32 a11, .int .u32 a12, .int .u32 a13, .int .u32 a14, .int .u32 a15]) := by rw [← hW]; exact B11.out.alloc _
        replace B16 : Hid (Bk V q16 30 [.int .i64 0, .int .i64 0, .bool false, .bool false, .bool false, .int .i64 0, .int .i64 0, .int .i64 0, .int .i64 0, .int .i64 0]) := by rw [← hW]; exact B16.out.alloc _
        rw [hW]
        try rw [hg]
        clear hW hg hHeld
        clear A
        rename World => A
        refine hK.out _ _ ?_ (fun hHeld => ?_)
        focus ((try dsimp only); exact B11.out)
        clear hK K
        try simp only [Act.put, List.setIfInBounds_toArray, List.set_cons_zero, List.set_cons_succ]
        exact TL A q15 q16 ⟨S.out, C.out, B11.out, B15.out, B16.out, ge15, ge16, by omega, by omega, by omega, trivial⟩
      refine consL rfl (fun K hK => ?_) AllReadyH.nil
      go_simp
      obtain ⟨q15, hg⟩ : ∃ q, A.heap.size = q := ⟨_, rfl⟩
      have ge15 : W.heap.size ≤ q15 := by have := C.out.size; omega
      have ne15_11 : q15 ≠ go := by have := B11.out.lt; omega
      have ne15_16 : q15 ≠ q16 := by have := B16.out.lt; omega
      obtain ⟨V, hW⟩ : ∃ V, A.alloc (.cells #[.int .u32 0, .int .u32 0, .int .u32 0, .int .u32 0, .int .u32 0, .int .u32 0, .int .u32 0, .int .u32 0, .int .u32 0, .int .u32 0, .int .u32 0, .int .u32 0, .int .u32 0, .int .u32 0, .int .u32 0, .int .u32 0] 28) = V := ⟨_, rfl⟩
      have B15 : Hid (Bk V q15 28 [.int .u32 0, .int .u32 0, .int .u32 0, .int .u32 0, .int .u32 0, .int .u32 0, .int .u32 0, .int .u32 0, .int .u32 0, .int .u32 0, .int .u32 0, .int .u32 0, .int .u32 0, .int .u32 0, .int .u32 0, .int .u32 0]) := by rw [← hW, ← hg]; exact Bk.new A [.int .u32 0, .int .u32 0, .int .u32 0, .int .u32 0, .int .u32 0, .int .u32 0, .int .u32 0, .int .u32 0, .int .u32 0, .int .u32 0, .int .u32 0, .int .u32 0, .int .u32 0, .int .u32 0, .int .u32 0, .int .u32 0] 28
      replace S : Hid (St 71 V F bs ks) := by rw [← hW]; exact S.out.alloc _
      replace C : Hid (Ch W V [F.gb]) := by rw [← hW]; exact C.out.alloc _
      replace B11 : Hid (Bk V go 28 [.int .u32 a0, .int .u32 a1, .int .u32 a2, .int .u32 a3, .int .u32 a4, .int .u32 a5, .int .u32 a6, .int .u32 a7, .int .u32 a8, .int .u32 a9, .int .u32 a10, .int .u32 a11, .int .u32 a12, .int .u32 a13, .int .u32 a14, .int .u32 a15]) := by rw [← hW]; exact B11.out.alloc _
      replace B16 : Hid (Bk V q16 30 [.int .i64 0, .int .i64 0, .bool false, .bool false, .bool false, .int .i64 0, .int .i64 0, .int .i64 0, .int .i64 0, .int .i64 0]) := by rw [← hW]; exact B16.out.alloc _
      rw [hW]
      try rw [hg]
      clear hW hg hHeld
      clear A
      rename World => A
      refine hK.out _ _ ?_ (fun hHeld => ?_)
      focus ((try dsimp only); exact B11.out)
      clear hK K
      try simp only [Act.put, List.setIfInBounds_toArray, List.set_cons_zero, List.set_cons_succ]
      refine wpAnyH_ready (rs := [5]) (by kernel_rfl) (by simp) ?_
      refine consL rfl (fun K hK => ?_) AllReadyH.nil
      go_simp
      go_at_call 14
      refine (HX.out _ S.out).mono ?_
      rintro e V ⟨rfl, hs, hc⟩
      replace S := Lib.hid hs
      replace C := Lib.hid (C.out.trans (hc.mono (by simp)))
      replace B11 := Lib.hid (B11.out.ch hc (by simp; omega))
      replace B16 := Lib.hid (B16.out.ch hc (by simp; omega))
      replace B15 := Lib.hid (B15.out.ch hc (by simp; omega))
      clear hs hc hHeld
      clear A
      rename World => A
      go_wp2_with fail
      refine hK.out _ _ ?_ (fun hHeld => ?_)
      focus ((try dsimp only); exact B11.out)
      clear hK K
      try simp only [Act.put, List.setIfInBounds_toArray, List.set_cons_zero, List.set_cons_succ]
      refine' takeL (i := 6) (v := _) rfl (by kernel_rfl) (by kernel_rfl) (by kernel_rfl) (fun c a w => hQ c a _ w rfl) (Or.inl ⟨by rfl, ?yy194⟩) (by assumption) ?rr194
      case yy194 => intro w hSw; (try dsimp only at hSw); go_simp; (try with_reducible rfl)
      try simp only [Act.put, List.setIfInBounds_toArray, List.set_cons_zero, List.set_cons_succ]
      refine' takeL (i := 7) (v := _) rfl (by kernel_rfl) (by kernel_rfl) (by kernel_rfl) (fun c a w => hQ c a _ w rfl) (Or.inl ⟨by rfl, ?yy195⟩) (by assumption) ?rr195
      case yy195 => intro w hSw; (try dsimp only at hSw); go_simp; (try with_reducible rfl)
      try simp only [Act.put, List.setIfInBounds_toArray, List.set_cons_zero, List.set_cons_succ]
      refine' takeL (i := 8) (v := _) rfl (by kernel_rfl) (by kernel_rfl) (by kernel_rfl) (fun c a w => hQ c a _ w rfl) (Or.inl ⟨by rfl, ?yy196⟩) (by assumption) ?rr196
      case yy196 => intro w hSw; (try dsimp only at hSw); go_simp; (try with_reducible rfl)
      try simp only [Act.put, List.setIfInBounds_toArray, List.set_cons_zero, List.set_cons_succ]
      refine' takeL (i := 9) (v := _) rfl (by kernel_rfl) (by kernel_rfl) (by kernel_rfl) (fun c a w => hQ c a _ w rfl) (Or.inl ⟨by rfl, ?yy197⟩) (by assumption) ?rr197
      case yy197 => intro w hSw; (try dsimp only at hSw); go_simp; (try with_reducible rfl)
      try simp only [Act.put, List.setIfInBounds_toArray, List.set_cons_zero, List.set_cons_succ]
      exact TL A q15 q16 ⟨S.out, C.out, B11.out, B15.out, B16.out, ge15, ge16, by omega, by omega, by omega, trivial⟩
    refine consL rfl (fun K hK => ?_) AllReadyH.nil
    go_simp
    obtain ⟨q15, hg⟩ : ∃ q, A.heap.size = q := ⟨_, rfl⟩
    have ge15 : W.heap.size ≤ q15 := by have := C.out.size; omega
    have ne15_11 : q15 ≠ go := by have := B11.out.lt; omega
    have ne15_16 : q15 ≠ q16 := by have := B16.out.lt; omega
    obtain ⟨V, hW⟩ : ∃ V, A.alloc (.cells #[.int .u32 0, .int .u32 0, .int .u32 0, .int .u32 0, .int .u32 0, .int .u32 0, .int .u32 0, .int .u32 0, .int .u32 0, .int .u32 0, .int .u32 0, .int .u32 0, .int .u32 0, .int .u32 0, .int .u32 0, .int .u32 0] 28) = V := ⟨_, rfl⟩
    have B15 : Hid (Bk V q15 28 [.int .u32 0, .int .u32 0, .int .u32 0, .int .u32 0, .int .u32 0, .int .u32 0, .int .u32 0, .int .u32 0, .int .u32 0, .int .u32 0, .int .u32 0, .int .u32 0, .int .u32 0, .int .u32 0, .int .u32 0, .int .u32 0]) := by rw [← hW, ← hg]; exact Bk.new A [.int .u32 0, .int .u32 0, .int .u32 0, .int .u32 0, .int .u32 0, .int .u32 0, .int .u32 0, .int .u32 0, .int .u32 0, .int .u32 0, .int .u32 0, .int .u32 0, .int .u32 0, .int .u32 0, .int .u32 0, .int .u32 0] 28
    replace S : Hid (St 71 V F bs ks) := by rw [← hW]; exact S.out.alloc _
    replace C : Hid (Ch W V [F.gb]) := by rw [← hW]; exact C.out.alloc _
    replace B11 : Hid (Bk V go 28 [.int .u32 a0, .int .u32 a1, .int .u32 a2, .int .u32 a3, .int .u32 a4, .int .u32 a5, .int .u32 a6, .int .u32 a7, .int .u32 a8, .int .u32 a9, .int .u32 a10, .int .u32 a11, .int .u32 a12, .int .u32 a13, .int .u32 a14, .int .u32 a15]) := by rw [← hW]; exact B11.out.alloc _
    replace B16 : Hid (Bk V q16 30 [.int .i64 0, .int .i64 0, .bool false, .bool false, .bool false, .int .i64 0, .int .i64 0, .int .i64 0, .int .i64 0, .int .i64 0]) := by rw [← hW]; exact B16.out.alloc _
    rw [hW]
    try rw [hg]
    clear hW hg hHeld
    clear A
    rename World => A
    refine hK.out _ _ ?_ (fun hHeld => ?_)
    focus ((try dsimp only); exact B11.out)
    clear hK K
    try simp only [Act.put, List.setIfInBounds_toArray, List.set_cons_zero, List.set_cons_succ]
    refine wpAnyH_ready (rs := [1]) (by kernel_rfl) (by simp) ?_
    refine consL rfl (fun K hK => ?_) AllReadyH.nil
    go_simp
    go_at_call 17
    refine (ss_c 215 (n : Int) _ (by omega) (by omega)).mono ?_
    rintro e V ⟨rfl, hb⟩
    replace S := Lib.hid (S.out.belowS hb)
    replace C := Lib.hid (C.out.trans (Ch.of_below hb _))
    replace B11 := Lib.hid (B11.out.keep hb)
    replace B16 := Lib.hid (B16.out.keep hb)
    replace B15 := Lib.hid (B15.out.keep hb)
    clear hb hHeld
    clear A
    rename World => A
    go_wp2_with fail
    refine hK.out _ _ ?_ (fun hHeld => ?_)
    focus ((try dsimp only); exact B11.out)
    clear hK K
    try simp only [Act.put, List.setIfInBounds_toArray, List.set_cons_zero, List.set_cons_succ]
    refine wpAnyH_ready (rs := [5]) (by kernel_rfl) (by simp) ?_
    refine consL rfl (fun K hK => ?_) AllReadyH.nil
    go_simp
    go_at_call 14
    refine (HX.out _ S.out).mono ?_
    rintro e V ⟨rfl, hs, hc⟩
    replace S := Lib.hid hs
    replace C := Lib.hid (C.out.trans (hc.mono (by simp)))
    replace B11 := Lib.hid (B11.out.ch hc (by simp; omega))
    replace B16 := Lib.hid (B16.out.ch hc (by simp; omega))
    replace B15 := Lib.hid (B15.out.ch hc (by simp; omega))
    clear hs hc hHeld
    clear A
    rename World => A
    go_wp2_with fail
    refine hK.out _ _ ?_ (fun hHeld => ?_)
    focus ((try dsimp only); exact B11.out)
    clear hK K
    try simp only [Act.put, List.setIfInBounds_toArray, List.set_cons_zero, List.set_cons_succ]
    refine' takeL (i := 6) (v := _) rfl (by kernel_rfl) (by kernel_rfl) (by kernel_rfl) (fun c a w => hQ c a _ w rfl) (Or.inl ⟨by rfl, ?yy198⟩) (by assumption) ?rr198
    case yy198 => intro w hSw; (try dsimp only at hSw); go_simp; (try with_reducible rfl)
    try simp only [Act.put, List.setIfInBounds_toArray, List.set_cons_zero, List.set_cons_succ]
    refine' takeL (i := 7) (v := _) rfl (by kernel_rfl) (by kernel_rfl) (by kernel_rfl) (fun c a w => hQ c a _ w rfl) (Or.inl ⟨by rfl, ?yy199⟩) (by assumption) ?rr199
    case yy199 => intro w hSw; (try dsimp only at hSw); go_simp; (try with_reducible rfl)
    try simp only [Act.put, List.setIfInBounds_toArray, List.set_cons_zero, List.set_cons_succ]
    refine' takeL (i := 8) (v := _) rfl (by kernel_rfl) (by kernel_rfl) (by kernel_rfl) (fun c a w => hQ c a _ w rfl) (Or.inl ⟨by rfl, ?yy200⟩) (by assumption) ?rr200
    case yy200 => intro w hSw; (try dsimp only at hSw); go_simp; (try with_reducible rfl)
    try simp only [Act.put, List.setIfInBounds_toArray, List.set_cons_zero, List.set_cons_succ]
    refine' takeL (i := 9) (v := _) rfl (by kernel_rfl) (by kernel_rfl) (by kernel_rfl) (fun c a w => hQ c a _ w rfl) (Or.inl ⟨by rfl, ?yy201⟩) (by assumption) ?rr201
    case yy201 => intro w hSw; (try dsimp only at hSw); go_simp; (try with_reducible rfl)
    try simp only [Act.put, List.setIfInBounds_toArray, List.set_cons_zero, List.set_cons_succ]
    exact TL A q15 q16 ⟨S.out, C.out, B11.out, B15.out, B16.out, ge15, ge16, by omega, by omega, by omega, trivial⟩
  case tail =>
    rintro A q15 q16 ⟨S, C, B11, B15, B16, ge15, ge16, ne_go_q15, ne_go_q16, ne_q15_q16, -⟩
    have hHeld := B11
    replace S := Lib.hid S
    replace C := Lib.hid C
    replace B11 := Lib.hid B11
    replace B15 := Lib.hid B15
    replace B16 := Lib.hid B16
    refine wpAnyH_ready (rs := [12]) (by kernel_rfl) (by simp) ?_
    refine consL rfl (fun K hK => ?_) AllReadyH.nil
    have cz := B15.out
    have cz0 := cz.cell (c := 0) rfl
    have fz0 := cz.free 0
    have cz1 := cz.cell (c := 1) rfl
    have fz1 := cz.free 1
    have cz2 := cz.cell (c := 2) rfl
    have fz2 := cz.free 2
    have cz3 := cz.cell (c := 3) rfl
    have fz3 := cz.free 3
    have cz4 := cz.cell (c := 4) rfl
    have fz4 := cz.free 4
    have cz5 := cz.cell (c := 5) rfl
    have fz5 := cz.free 5
    have cz6 := cz.cell (c := 6) rfl
    have fz6 := cz.free 6
    have cz7 := cz.cell (c := 7) rfl
    have fz7 := cz.free 7
    have cz8 := cz.cell (c := 8) rfl
    have fz8 := cz.free 8
    have cz9 := cz.cell (c := 9) rfl
    have fz9 := cz.free 9
    have cz10 := cz.cell (c := 10) rfl
    have fz10 := cz.free 10
    have cz11 := cz.cell (c := 11) rfl
    have fz11 := cz.free 11
    have cz12 := cz.cell (c := 12) rfl
    have fz12 := cz.free 12
    have cz13 := cz.cell (c := 13) rfl
    have fz13 := cz.free 13
    have cz14 := cz.cell (c := 14) rfl
    have fz14 := cz.free 14
    have cz15 := cz.cell (c := 15) rfl
    have fz15 := cz.free 15
    go_simp
    clear cz cz0 fz0 cz1 fz1 cz2 fz2 cz3 fz3 cz4 fz4 cz5 fz5 cz6 fz6 cz7 fz7 cz8 fz8 cz9 fz9 cz10 fz10 cz11 fz11 cz12 fz12 cz13 fz13 cz14 fz14 cz15 fz15
    obtain ⟨V, hW⟩ : ∃ V, ((((((((((((((((A.setCell ⟨q15, 0, none⟩ (.int .u32 n0)).setCell ⟨q15, 1, none⟩ (.int .u32 n1)).setCell ⟨q15, 2, none⟩ (.int .u32 n2)).setCell ⟨q15, 3, none⟩ (.int .u32 n3)).setCell ⟨q15, 4, none⟩ (.int .u32 n4)).setCell ⟨q15, 5, none⟩ (.int .u32 n5)).setCell ⟨q15, 6, none⟩ (.int .u32 n6)).setCell ⟨q15, 7, none⟩ (.int .u32 n7)).setCell ⟨q15, 8, none⟩ (.int .u32 n8)).setCell ⟨q15, 9, none⟩ (.int .u32 n9)).setCell ⟨q15, 10, none⟩ (.int .u32 n10)).setCell ⟨q15, 11, none⟩ (.int .u32 n11)).setCell ⟨q15, 12, none⟩ (.int .u32 n12)).setCell ⟨q15, 13, none⟩ (.int .u32 n13)).setCell ⟨q15, 14, none⟩ (.int .u32 n14)).setCell ⟨q15, 15, none⟩ (.int .u32 n15)) = V := ⟨_, rfl⟩
    have hc : Ch A V [q15] := by rw [← hW]; exact ch_n16 A q15 (.int .u32 n0) (.int .u32 n1) (.int .u32 n2) (.int .u32 n3) (.int .u32 n4) (.int .u32 n5) (.int .u32 n6) (.int .u32 n7) (.int .u32 n8) (.int .u32 n9) (.int .u32 n10) (.int .u32 n11) (.int .u32 n12) (.int .u32 n13) (.int .u32 n14) (.int .u32 n15)
    replace S := Lib.hid (S.out.chd hc (by simp; omega) (by simp; omega) (by simp; omega))
    replace C := Lib.hid (show Ch W V [F.gb] from (by rw [← hW]; exact ch_s16 C.out ge15 (.int .u32 n0) (.int .u32 n1) (.int .u32 n2) (.int .u32 n3) (.int .u32 n4) (.int .u32 n5) (.int .u32 n6) (.int .u32 n7) (.int .u32 n8) (.int .u32 n9) (.int .u32 n10) (.int .u32 n11) (.int .u32 n12) (.int .u32 n13) (.int .u32 n14) (.int .u32 n15)))
    replace B11 := Lib.hid (B11.out.ch hc (by simp; omega))
    replace B15 : Hid (Bk V q15 28 [.int .u32 n0, .int .u32 n1, .int .u32 n2, .int .u32 n3, .int .u32 n4, .int .u32 n5, .int .u32 n6, .int .u32 n7, .int .u32 n8, .int .u32 n9, .int .u32 n10, .int .u32 n11, .int .u32 n12, .int .u32 n13, .int .u32 n14, .int .u32 n15]) := by rw [← hW]; exact Bk.sets16 B15.out rfl (.int .u32 n0) (.int .u32 n1) (.int .u32 n2) (.int .u32 n3) (.int .u32 n4) (.int .u32 n5) (.int .u32 n6) (.int .u32 n7) (.int .u32 n8) (.int .u32 n9) (.int .u32 n10) (.int .u32 n11) (.int .u32 n12) (.int .u32 n13) (.int .u32 n14) (.int .u32 n15)
    replace B16 := Lib.hid (B16.out.ch hc (by simp; omega))
    rw [hW]
    clear hW hc hHeld
    clear A
    rename World => A
    refine hK.out _ _ ?_ (fun hHeld => ?_)
    focus ((try dsimp only); exact B11.out)
    clear hK K
    try simp only [Act.put, List.setIfInBounds_toArray, List.set_cons_zero, List.set_cons_succ]
    refine wpAnyH_ready (rs := [13]) (by kernel_rfl) (by simp) ?_
    refine consL rfl (fun K hK => ?_) AllReadyH.nil
    have cz := B16.out
    have cz0 := cz.cell (c := 0) rfl
    have fz0 := cz.free 0
    have cz1 := cz.cell (c := 1) rfl
    have fz1 := cz.free 1
    have cz2 := cz.cell (c := 2) rfl
    have fz2 := cz.free 2
    have cz3 := cz.cell (c := 3) rfl
    have fz3 := cz.free 3
    have cz4 := cz.cell (c := 4) rfl
    have fz4 := cz.free 4
    have cz5 := cz.cell (c := 5) rfl
    have fz5 := cz.free 5
    have cz6 := cz.cell (c := 6) rfl
    have fz6 := cz.free 6
    have cz7 := cz.cell (c := 7) rfl
    have fz7 := cz.free 7
    have cz8 := cz.cell (c := 8) rfl
    have fz8 := cz.free 8
    have cz9 := cz.cell (c := 9) rfl
    have fz9 := cz.free 9
    go_simp
    clear cz cz0 fz0 cz1 fz1 cz2 fz2 cz3 fz3 cz4 fz4 cz5 fz5 cz6 fz6 cz7 fz7 cz8 fz8 cz9 fz9
    obtain ⟨V, hW⟩ : ∃ V, ((((((((((A.setCell ⟨q16, 0, none⟩ (.int .i64 0)).setCell ⟨q16, 1, none⟩ (.int .i64 0)).setCell ⟨q16, 2, none⟩ (.bool false)).setCell ⟨q16, 3, none⟩ (.bool false)).setCell ⟨q16, 4, none⟩ (.bool false)).setCell ⟨q16, 5, none⟩ (.int .i64 0)).setCell ⟨q16, 6, none⟩ (.int .i64 0)).setCell ⟨q16, 7, none⟩ (.int .i64 cq)).setCell ⟨q16, 8, none⟩ (.int .i64 0)).setCell ⟨q16, 9, none⟩ (.int .i64 0)) = V := ⟨_, rfl⟩
    have hc : Ch A V [q16] := by rw [← hW]; exact ch_n10 A q16 (.int .i64 0) (.int .i64 0) (.bool false) (.bool false) (.bool false) (.int .i64 0) (.int .i64 0) (.int .i64 cq) (.int .i64 0) (.int .i64 0)
    replace S := Lib.hid (S.out.chd hc (by simp; omega) (by simp; omega) (by simp; omega))
    replace C := Lib.hid (show Ch W V [F.gb] from (by rw [← hW]; exact ch_s10 C.out ge16 (.int .i64 0) (.int .i64 0) (.bool false) (.bool false) (.bool false) (.int .i64 0) (.int .i64 0) (.int .i64 cq) (.int .i64 0) (.int .i64 0)))
    replace B11 := Lib.hid (B11.out.ch hc (by simp; omega))
    replace B15 := Lib.hid (B15.out.ch hc (by simp; omega))
    replace B16 : Hid (Bk V q16 30 [.int .i64 0, .int .i64 0, .bool false, .bool false, .bool false, .int .i64 0, .int .i64 0, .int .i64 cq, .int .i64 0, .int .i64 0]) := by rw [← hW]; exact Bk.sets10 B16.out rfl (.int .i64 0) (.int .i64 0) (.bool false) (.bool false) (.bool false) (.int .i64 0) (.int .i64 0) (.int .i64 cq) (.int .i64 0) (.int .i64 0)
    rw [hW]
    clear hW hc hHeld
    clear A
    rename World => A
    refine hK.out _ _ ?_ (fun hHeld => ?_)
    focus ((try dsimp only); exact B11.out)
    clear hK K
    try simp only [Act.put, List.setIfInBounds_toArray, List.set_cons_zero, List.set_cons_succ]
    refine takeL (i := 14) (v := .int .i64 cd) rfl (by kernel_rfl) (by kernel_rfl) (by kernel_rfl) (fun c a w => hQ c a _ w rfl) (Or.inl ⟨by rfl, ?_⟩) (by assumption) ?_
    focus (intro w hSw; (try dsimp only at hSw); go_simp; (try with_reducible rfl))
    try simp only [Act.put, List.setIfInBounds_toArray, List.set_cons_zero, List.set_cons_succ]
    refine wpAnyH_done (by kernel_rfl) ?_ _
    exact H.out _ _ _ _ _ _ _ _ _ _ _ q15 q16 0 S.out B11.out B15.out B16.out ge15 ge16 C.out
set_option maxRecDepth 1000000 in
set_option maxHeartbeats 16000000 in
theorem swaps_reg18 {u0 u1 u2 u3 u4 u6 u7 u9 u11 u12 u13 u14 u15 u16 u17 u18 u19 u20 u21 u22 u23 u24 u25 u26 u27 u28 u29 u30 u31 u32 u33 u34 u35 u36 u37 u38 u39 u40 u41 u42 u43 u44 u45 u46 u47 u48 u49 u50 u51 u52 u53 u54 u55 u56 u57 u58 u59 u60 u61 u62 u63 u64 u65 u66 u67 u68 u69 u70 u71 u72 u73 u74 u75 u76 u77 u78 u79 u80 u81 u82 u83 u84 u85 u86 u87 u88 u89 u90 u91 u92 u93 u94 u95 u96 u97 u98 u99 u100 u101 u102 u103 u104 u105 u106 u107 u108 u109 u110 u111 u112 u113 u114 u115 u116 u117 u118 u119 u120 u121 u122 u123 u124 u125 u126 u127 u128 u129 u130 u131 u132 u133 : Value} {n : Nat} {a0 a1 a2 a3 a4 a5 a6 a7 a8 a9 a10 a11 a12 a13 a14 a15 n0 n1 n2 n3 n4 n5 n6 n7 n8 n9 n10 n11 n12 n13 n14 n15 cq cd : Int} (hn0 : 1 ≤ (n : Int)) (hn1 : (n : Int) ≤ 256) {bs2 : List Int} {F : Foot} {bs ks : List Int} {go z_ : Nat} {ops : Array Oper} (hops : (Try.f7.body.bind (regOpsH 18)) = some ops) {Q : Exit → Act → World → Prop} {ds : List Deferred} {W : World} (hQ : ∀ (c : List PanicEntry) (a a' : Act) (w : World), a'.defers = a.defers → Q (.panic c) a' w → Q (.panic c) a w) (hS : St 71 W F bs ks) (hB10 : Bk W go 28 [.int .u32 a0, .int .u32 a1, .int .u32 a2, .int .u32 a3, .int .u32 a4, .int .u32 a5, .int .u32 a6, .int .u32 a7, .int .u32 a8, .int .u32 a9, .int .u32 a10, .int .u32 a11, .int .u32 a12, .int .u32 a13, .int .u32 a14, .int .u32 a15]) (hn10 : go ≠ F.gb) (hm10 : go ≠ F.g) (hk10 : go ≠ F.gk) (hx : ∀ w, St 71 w F bs ks → Calls Try.prog 14 #[.agg #[.int .i64 215, .int .i64 5, .int .i64 0, .int .i64 0, .int .i64 0, .int .i64 14, .int .i64 0, .int .i64 15, .int .i64 0, .int .i64 ((n : Int) - 1), .int .i64 0, .int .i64 0], .agg #[.int .u32 a0, .int .u32 a1, .int .u32 a2, .int .u32 a3, .int .u32 a4, .int .u32 a5, .int .u32 a6, .int .u32 a7, .int .u32 a8, .int .u32 a9, .int .u32 a10, .int .u32 a11, .int .u32 a12, .int .u32 a13, .int .u32 a14, .int .u32 a15], .agg #[.int .i64 0, .int .i64 0, .bool false, .bool false, .bool false, .int .i64 0, .int .i64 0, .int .i64 0, .int .i64 0, .int .i64 0], .pointer (some ⟨F.g, 0, none⟩)] w fun e w' => e = .returned (.tuple #[.agg #[.int .u32 n0, .int .u32 n1, .int .u32 n2, .int .u32 n3, .int .u32 n4, .int .u32 n5, .int .u32 n6, .int .u32 n7, .int .u32 n8, .int .u32 n9, .int .u32 n10, .int .u32 n11, .int .u32 n12, .int .u32 n13, .int .u32 n14, .int .u32 n15], .agg #[.int .i64 0, .int .i64 0, .bool false, .bool false, .bool false, .int .i64 0, .int .i64 0, .int .i64 cq, .int .i64 0, .int .i64 0], .int .i64 cd]) ∧ St 71 w' F bs2 ks ∧ Ch w w' [F.gb])
    (h : ∀ (w' : World) (x101 x102 x103 x104 x105 x106 x100 x107 x108 x109 : Value) (g18 g19 z_ : Nat), St 71 w' F bs2 ks → Bk w' go 28 [.int .u32 a0, .int .u32 a1, .int .u32 a2, .int .u32 a3, .int .u32 a4, .int .u32 a5, .int .u32 a6, .int .u32 a7, .int .u32 a8, .int .u32 a9, .int .u32 a10, .int .u32 a11, .int .u32 a12, .int .u32 a13, .int .u32 a14, .int .u32 a15] → Bk w' g18 28 [.int .u32 n0, .int .u32 n1, .int .u32 n2, .int .u32 n3, .int .u32 n4, .int .u32 n5, .int .u32 n6, .int .u32 n7, .int .u32 n8, .int .u32 n9, .int .u32 n10, .int .u32 n11, .int .u32 n12, .int .u32 n13, .int .u32 n14, .int .u32 n15] → Bk w' g19 30 [.int .i64 0, .int .i64 0, .bool false, .bool false, .bool false, .int .i64 0, .int .i64 0, .int .i64 cq, .int .i64 0, .int .i64 0] → W.heap.size ≤ g18 → W.heap.size ≤ g19 →  Ch W w'  [F.gb] → Q .normal { tmps := #[u0, u1, u2, u3, u4, .int .i64 (n : Int), u6, u7, .pointer (some ⟨F.g, 0, none⟩), u9, .pointer (some ⟨go, 0, none⟩), u11, u12, u13, u14, u15, u16, u17, .pointer (some ⟨g18, 0, none⟩), .pointer (some ⟨g19, 0, none⟩), .int .i64 cd, u21, u22, u23, u24, u25, u26, u27, u28, u29, u30, u31, u32, u33, u34, u35, u36, u37, u38, u39, u40, u41, u42, u43, u44, u45, u46, u47, u48, u49, u50, u51, u52, u53, u54, u55, u56, u57, u58, u59, u60, u61, u62, u63, u64, u65, u66, u67, u68, u69, u70, u71, u72, u73, u74, u75, u76, u77, u78, u79, u80, u81, u82, u83, u84, u85, u86, u87, u88, u89, u90, u91, u92, u93, u94, u95, u96, u97, u98, u99, x100, x101, x102, x103, x104, x105, x106, x107, x108, x109, u110, u111, u112, u113, u114, u115, u116, u117, u118, u119, u120, u121, u122, u123, u124, u125, u126, u127, u128, u129, u130, u131, u132, u133], defers := ds } w') : Code.wp Try.prog (Code.region 18 ops true) Q { tmps := #[u0, u1, u2, u3, u4, .int .i64 (n : Int), u6, u7, .pointer (some ⟨F.g, 0, none⟩), u9, .pointer (some ⟨go, 0, none⟩), u11, u12, u13, u14, u15, u16, u17, u18, u19, u20, u21, u22, u23, u24, u25, u26, u27, u28, u29, u30, u31, u32, u33, u34, u35, u36, u37, u38, u39, u40, u41, u42, u43, u44, u45, u46, u47, u48, u49, u50, u51, u52, u53, u54, u55, u56, u57, u58, u59, u60, u61, u62, u63, u64, u65, u66, u67, u68, u69, u70, u71, u72, u73, u74, u75, u76, u77, u78, u79, u80, u81, u82, u83, u84, u85, u86, u87, u88, u89, u90, u91, u92, u93, u94, u95, u96, u97, u98, u99, u100, u101, u102, u103, u104, u105, u106, u107, u108, u109, u110, u111, u112, u113, u114, u115, u116, u117, u118, u119, u120, u121, u122, u123, u124, u125, u126, u127, u128, u129, u130, u131, u132, u133], defers := ds } W := by
  simp [Try.f7, regOpsH] at hops
  subst hops
  have H := Lib.hid h
  have HX := Lib.hid hx
  have L1 := hS.ltg
  have L2 := hS.ltb
  have L3 := hS.ltk
  have BL10 := hB10.lt
  have S0 := Lib.hid hS
  have B0_10 := Lib.hid hB10
  clear h hx hS hB10
  refine' share2 (P := (fun A q18 q19 => St 71 A F bs2 ks ∧ Ch W A [F.gb] ∧ Bk A go 28 [.int .u32 a0, .int .u32 a1, .int .u32 a2, .int .u32 a3, .int .u32 a4, .int .u32 a5, .int .u32 a6, .int .u32 a7, .int .u32 a8, .int .u32 a9, .int .u32 a10, .int .u32 a11, .int .u32 a12, .int .u32 a13, .int .u32 a14, .int .u32 a15] ∧ Bk A q18 28 [.int .u32 0, .int .u32 0, .int .u32 0, .int .u32 0, .int .u32 0, .int .u32 0, .int .u32 0, .int .u32 0, .int .u32 0, .int .u32 0, .int .u32 0, .int .u32 0, .int .u32 0, .int .u32 0, .int .u32 0, .int .u32 0] ∧ Bk A q19 30 [.int .i64 0, .int .i64 0, .bool false, .bool false, .bool false, .int .i64 0, .int .i64 0, .int .i64 0, .int .i64 0, .int .i64 0] ∧ W.heap.size ≤ q18 ∧ W.heap.size ≤ q19 ∧ go ≠ q18 ∧ go ≠ q19 ∧ q18 ≠ q19 ∧ True)) (fun TL => ?tree) ?tail
  case tree =>
    obtain ⟨A, hWd⟩ : ∃ Wd, W.drew = Wd := ⟨_, rfl⟩
    have hsz : A.heap.size = W.heap.size := by rw [← hWd]; rfl
    have S : Hid (St 71 A F bs ks) := by rw [← hWd]; exact S0.out.drewN 1
    have C : Hid (Ch W A [F.gb]) := by rw [← hWd]; exact (Ch.refl W _).drewN 1
    have B10 : Hid (Bk A go 28 [.int .u32 a0, .int .u32 a1, .int .u32 a2, .int .u32 a3, .int .u32 a4, .int .u32 a5, .int .u32 a6, .int .u32 a7, .int .u32 a8, .int .u32 a9, .int .u32 a10, .int .u32 a11, .int .u32 a12, .int .u32 a13, .int .u32 a14, .int .u32 a15]) := by rw [← hWd]; exact B0_10.out.drewN 1
    refine wp_region_held_drew (S := (fun w' => Bk w' go 28 [.int .u32 a0, .int .u32 a1, .int .u32 a2, .int .u32 a3, .int .u32 a4, .int .u32 a5, .int .u32 a6, .int .u32 a7, .int .u32 a8, .int .u32 a9, .int .u32 a10, .int .u32 a11, .int .u32 a12, .int .u32 a13, .int .u32 a14, .int .u32 a15])) (by kernel_rfl) ?_ (fun hHeld => ?_)
    · (try dsimp only); (try rw [hWd]); exact B10.out
    rw [hWd]
    clear hWd hsz
    refine' takeL (i := 0) (v := _) rfl (by kernel_rfl) (by kernel_rfl) (by kernel_rfl) (fun c a w => hQ c a _ w rfl) (Or.inl ⟨by rfl, ?yy202⟩) (by assumption) ?rr202
    case yy202 => intro w hSw; (try dsimp only at hSw); go_simp; (try with_reducible rfl)
    try simp only [Act.put, List.setIfInBounds_toArray, List.set_cons_zero, List.set_cons_succ]
    refine' takeL (i := 2) (v := .agg #[.int .u32 a0, .int .u32 a1, .int .u32 a2, .int .u32 a3, .int .u32 a4, .int .u32 a5, .int .u32 a6, .int .u32 a7, .int .u32 a8, .int .u32 a9, .int .u32 a10, .int .u32 a11, .int .u32 a12, .int .u32 a13, .int .u32 a14, .int .u32 a15]) rfl (by kernel_rfl) (by kernel_rfl) (by kernel_rfl) (fun c a w => hQ c a _ w rfl) (Or.inl ⟨by rfl, ?yy203⟩) (by assumption) ?rr203
    case yy203 => intro w hSw; (try dsimp only at hSw); have q0 := hSw.cell (c := 0) rfl; have q1 := hSw.cell (c := 1) rfl; have q2 := hSw.cell (c := 2) rfl; have q3 := hSw.cell (c := 3) rfl; have q4 := hSw.cell (c := 4) rfl; have q5 := hSw.cell (c := 5) rfl; have q6 := hSw.cell (c := 6) rfl; have q7 := hSw.cell (c := 7) rfl; have q8 := hSw.cell (c := 8) rfl; have q9 := hSw.cell (c := 9) rfl; have q10 := hSw.cell (c := 10) rfl; have q11 := hSw.cell (c := 11) rfl; have q12 := hSw.cell (c := 12) rfl; have q13 := hSw.cell (c := 13) rfl; have q14 := hSw.cell (c := 14) rfl; have q15 := hSw.cell (c := 15) rfl; go_simp; (try with_reducible rfl)
    try simp only [Act.put, List.setIfInBounds_toArray, List.set_cons_zero, List.set_cons_succ]
    refine' takeL (i := 3) (v := _) rfl (by kernel_rfl) (by kernel_rfl) (by kernel_rfl) (fun c a w => hQ c a _ w rfl) (Or.inl ⟨by rfl, ?yy204⟩) (by assumption) ?rr204
    case yy204 => intro w hSw; (try dsimp only at hSw); go_simp; (try with_reducible rfl)
    try simp only [Act.put, List.setIfInBounds_toArray, List.set_cons_zero, List.set_cons_succ]
    refine' takeL (i := 4) (v := _) rfl (by kernel_rfl) (by kernel_rfl) (by kernel_rfl) (fun c a w => hQ c a _ w rfl) (Or.inl ⟨by rfl, ?yy205⟩) (by assumption) ?rr205
    case yy205 => intro w hSw; (try dsimp only at hSw); go_simp; (try with_reducible rfl)
    try simp only [Act.put, List.setIfInBounds_toArray, List.set_cons_zero, List.set_cons_succ]
    refine wpAnyH_ready (rs := [1, 10, 11]) (by kernel_rfl) (by simp) ?_
    refine consL rfl (fun K hK => ?_) ?_
    · go_simp
      go_at_call 17
      refine (ss_c 215 (n : Int) _ (by omega) (by omega)).mono ?_
      rintro e V ⟨rfl, hb⟩
      replace S := Lib.hid (S.out.belowS hb)
      replace C := Lib.hid (C.out.trans (Ch.of_below hb _))
      replace B10 := Lib.hid (B10.out.keep hb)
      clear hb hHeld
      clear A
      rename World => A
      go_wp2_with fail
      refine hK.out _ _ ?_ (fun hHeld => ?_)
      focus ((try dsimp only); exact B10.out)
      clear hK K
      try simp only [Act.put, List.setIfInBounds_toArray, List.set_cons_zero, List.set_cons_succ]
      refine wpAnyH_ready (rs := [5, 10, 11]) (by kernel_rfl) (by simp) ?_
      refine consL rfl (fun K hK => ?_) ?_
      · go_simp
        go_at_call 14
        refine (HX.out _ S.out).mono ?_
        rintro e V ⟨rfl, hs, hc⟩
        replace S := Lib.hid hs
        replace C := Lib.hid (C.out.trans (hc.mono (by simp)))
        replace B10 := Lib.hid (B10.out.ch hc (by simp; omega))
        clear hs hc hHeld
        clear A
        rename World => A
        go_wp2_with fail
        refine hK.out _ _ ?_ (fun hHeld => ?_)
        focus ((try dsimp only); exact B10.out)
        clear hK K
        try simp only [Act.put, List.setIfInBounds_toArray, List.set_cons_zero, List.set_cons_succ]
        refine' takeL (i := 6) (v := _) rfl (by kernel_rfl) (by kernel_rfl) (by kernel_rfl) (fun c a w => hQ c a _ w rfl) (Or.inl ⟨by rfl, ?yy206⟩) (by assumption) ?rr206
        case yy206 => intro w hSw; (try dsimp only at hSw); go_simp; (try with_reducible rfl)
        try simp only [Act.put, List.setIfInBounds_toArray, List.set_cons_zero, List.set_cons_succ]
        refine' takeL (i := 7) (v := _) rfl (by kernel_rfl) (by kernel_rfl) (by kernel_rfl) (fun c a w => hQ c a _ w rfl) (Or.inl ⟨by rfl, ?yy207⟩) (by assumption) ?rr207
        case yy207 => intro w hSw; (try dsimp only at hSw); go_simp; (try with_reducible rfl)
        try simp only [Act.put, List.setIfInBounds_toArray, List.set_cons_zero, List.set_cons_succ]
        refine' takeL (i := 8) (v := _) rfl (by kernel_rfl) (by kernel_rfl) (by kernel_rfl) (fun c a w => hQ c a _ w rfl) (Or.inl ⟨by rfl, ?yy208⟩) (by assumption) ?rr208
        case yy208 => intro w hSw; (try dsimp only at hSw); go_simp; (try with_reducible rfl)
        try simp only [Act.put, List.setIfInBounds_toArray, List.set_cons_zero, List.set_cons_succ]
        refine' takeL (i := 9) (v := _) rfl (by kernel_rfl) (by kernel_rfl) (by kernel_rfl) (fun c a w => hQ c a _ w rfl) (Or.inl ⟨by rfl, ?yy209⟩) (by assumption) ?rr209
        case yy209 => intro w hSw; (try dsimp only at hSw); go_simp; (try with_reducible rfl)
        try simp only [Act.put, List.setIfInBounds_toArray, List.set_cons_zero, List.set_cons_succ]
        refine wpAnyH_ready (rs := [10, 11]) (by kernel_rfl) (by simp) ?_
        refine consL rfl (fun K hK => ?_) ?_
        · go_simp
          obtain ⟨q18, hg⟩ : ∃ q, A.heap.size = q := ⟨_, rfl⟩
          have ge18 : W.heap.size ≤ q18 := by have := C.out.size; omega
          have ne18_10 : q18 ≠ go := by have := B10.out.lt; omega
          obtain ⟨V, hW⟩ : ∃ V, A.alloc (.cells #[.int .u32 0, .int .u32 0, .int .u32 0, .int .u32 0, .int .u32 0, .int .u32 0, .int .u32 0, .int .u32 0, .int .u32 0, .int .u32 0, .int .u32 0, .int .u32 0, .int .u32 0, .int .u32 0, .int .u32 0, .int .u32 0] 28) = V := ⟨_, rfl⟩
          have B18 : Hid (Bk V q18 28 [.int .u32 0, .int .u32 0, .int .u32 0, .int .u32 0, .int .u32 0, .int .u32 0, .int .u32 0, .int .u32 0, .int .u32 0, .int .u32 0, .int .u32 0, .int .u32 0, .int .u32 0, .int .u32 0, .int .u32 0, .int .u32 0]) := by rw [← hW, ← hg]; exact Bk.new A [.int .u32 0, .int .u32 0, .int .u32 0, .int .u32 0, .int .u32 0, .int .u32 0, .int .u32 0, .int .u32 0, .int .u32 0, .int .u32 0, .int .u32 0, .int .u32 0, .int .u32 0, .int .u32 0, .int .u32 0, .int .u32 0] 28
          replace S : Hid (St 71 V F bs2 ks) := by rw [← hW]; exact S.out.alloc _
          replace C : Hid (Ch W V [F.gb]) := by rw [← hW]; exact C.out.alloc _
          replace B10 : Hid (Bk V go 28 [.int .u32 a0, .int .u32 a1, .int .u32 a2, .int .u32 a3, .int .u32 a4, .int .u32 a5, .int .u32 a6, .int .u32 a7, .int .u32 a8, .int .u32 a9, .int .u32 a10, .int .u32 a11, .int .u32 a12, .int .u32 a13, .int .u32 a14, .int .u32 a15]) := by rw [← hW]; exact B10.out.alloc _
          rw [hW]
          try rw [hg]
          clear hW hg hHeld
          clear A
          rename World => A
          refine hK.out _ _ ?_ (fun hHeld => ?_)
          focus ((try dsimp only); exact B10.out)
          clear hK K
          try simp only [Act.put, List.setIfInBounds_toArray, List.set_cons_zero, List.set_cons_succ]
          refine wpAnyH_ready (rs := [11]) (by kernel_rfl) (by simp) ?_
          refine consL rfl (fun K hK => ?_) AllReadyH.nil
          go_simp
          obtain ⟨q19, hg⟩ : ∃ q, A.heap.size = q := ⟨_, rfl⟩
          have ge19 : W.heap.size ≤ q19 := by have := C.out.size; omega
          have ne19_10 : q19 ≠ go := by have := B10.out.lt; omega
          have ne19_18 : q19 ≠ q18 := by have := B18.out.lt; omega
          obtain ⟨V, hW⟩ : ∃ V, A.alloc (.cells #[.int .i64 0, .int .i64 0, .bool false, .bool false, .bool false, .int .i64 0, .int .i64 0, .int .i64 0, .int .i64 0, .int .i64 0] 30) = V := ⟨_, rfl⟩
          have B19 : Hid (Bk V q19 30 [.int .i64 0, .int .i64 0, .bool false, .bool false, .bool false, .int .i64 0, .int .i64 0, .int .i64 0, .int .i64 0, .int .i64 0]) := by rw [← hW, ← hg]; exact Bk.new A [.int .i64 0, .int .i64 0, .bool false, .bool false, .bool false, .int .i64 0, .int .i64 0, .int .i64 0, .int .i64 0, .int .i64 0] 30
          replace S : Hid (St 71 V F bs2 ks) := by rw [← hW]; exact S.out.alloc _
          replace C : Hid (Ch W V [F.gb]) := by rw [← hW]; exact C.out.alloc _
          replace B10 : Hid (Bk V go 28 [.int .u32 a0, .int .u32 a1, .int .u32 a2, .int .u32 a3, .int .u32 a4, .int .u32 a5, .int .u32 a6, .int .u32 a7, .int .u32 a8, .int .u32 a9, .int .u32 a10, .int .u32 a11, .int .u32 a12, .int .u32 a13, .int .u32 a14, .int .u32 a15]) := by rw [← hW]; exact B10.out.alloc _
          replace B18 : Hid (Bk V q18 28 [.int .u32 0, .int .u32 0, .int .u32 0, .int .u32 0, .int .u32 0, .int .u32 0, .int .u32 0, .int .u32 0, .int .u32 0, .int .u32 0, .int .u32 0, .int .u32 0, .int .u32 0, .int .u32 0, .int .u32 0, .int .u32 0]) := by rw [← hW]; exact B18.out.alloc _
          rw [hW]
          try rw [hg]
          clear hW hg hHeld
          clear A
          rename World => A
          refine hK.out _ _ ?_ (fun hHeld => ?_)
          focus ((try dsimp only); exact B10.out)
          clear hK K
          try simp only [Act.put, List.setIfInBounds_toArray, List.set_cons_zero, List.set_cons_succ]
          exact TL A q18 q19 ⟨S.out, C.out, B10.out, B18.out, B19.out, ge18, ge19, by omega, by omega, by omega, trivial⟩
        refine consL rfl (fun K hK => ?_) AllReadyH.nil
        go_simp
        obtain ⟨q19, hg⟩ : ∃ q, A.heap.size = q := ⟨_, rfl⟩
        have ge19 : W.heap.size ≤ q19 := by have := C.out.size; omega
        have ne19_10 : q19 ≠ go := by have := B10.out.lt; omega
        obtain ⟨V, hW⟩ : ∃ V, A.alloc (.cells #[.int .i64 0, .int .i64 0, .bool false, .bool false, .bool false, .int .i64 0, .int .i64 0, .int .i64 0, .int .i64 0, .int .i64 0] 30) = V := ⟨_, rfl⟩
        have B19 : Hid (Bk V q19 30 [.int .i64 0, .int .i64 0, .bool false, .bool false, .bool false, .int .i64 0, .int .i64 0, .int .i64 0, .int .i64 0, .int .i64 0]) := by rw [← hW, ← hg]; exact Bk.new A [.int .i64 0, .int .i64 0, .bool false, .bool false, .bool false, .int .i64 0, .int .i64 0, .int .i64 0, .int .i64 0, .int .i64 0] 30
        replace S : Hid (St 71 V F bs2 ks) := by rw [← hW]; exact S.out.alloc _
        replace C : Hid (Ch W V [F.gb]) := by rw [← hW]; exact C.out.alloc _
        replace B10 : Hid (Bk V go 28 [.int .u32 a0, .int .u32 a1, .int .u32 a2, .int .u32 a3, .int .u32 a4, .int .u32 a5, .int .u32 a6, .int .u32 a7, .int .u32 a8, .int .u32 a9, .int .u32 a10, .int .u32 a11, .int .u32 a12, .int .u32 a13, .int .u32 a14, .int .u32 a15]) := by rw [← hW]; exact B10.out.alloc _
        rw [hW]
        try rw [hg]
        clear hW hg hHeld
        clear A
        rename World => A
        refine hK.out _ _ ?_ (fun hHeld => ?_)
        focus ((try dsimp only); exact B10.out)
        clear hK K
        try simp only [Act.put, List.setIfInBounds_toArray, List.set_cons_zero, List.set_cons_succ]
        refine wpAnyH_ready (rs := [10]) (by kernel_rfl) (by simp) ?_
        refine consL rfl (fun K hK => ?_) AllReadyH.nil
        go_simp
        obtain ⟨q18, hg⟩ : ∃ q, A.heap.size = q := ⟨_, rfl⟩
        have ge18 : W.heap.size ≤ q18 := by have := C.out.size; omega
        have ne18_10 : q18 ≠ go := by have := B10.out.lt; omega
        have ne18_19 : q18 ≠ q19 := by have := B19.out.lt; omega
        obtain ⟨V, hW⟩ : ∃ V, A.alloc (.cells #[.int .u32 0, .int .u32 0, .int .u32 0, .int .u32 0, .int .u32 0, .int .u32 0, .int .u32 0, .int .u32 0, .int .u32 0, .int .u32 0, .int .u32 0, .int .u32 0, .int .u32 0, .int .u32 0, .int .u32 0, .int .u32 0] 28) = V := ⟨_, rfl⟩
        have B18 : Hid (Bk V q18 28 [.int .u32 0, .int .u32 0, .int .u32 0, .int .u32 0, .int .u32 0, .int .u32 0, .int .u32 0, .int .u32 0, .int .u32 0, .int .u32 0, .int .u32 0, .int .u32 0, .int .u32 0, .int .u32 0, .int .u32 0, .int .u32 0]) := by rw [← hW, ← hg]; exact Bk.new A [.int .u32 0, .int .u32 0, .int .u32 0, .int .u32 0, .int .u32 0, .int .u32 0, .int .u32 0, .int .u32 0, .int .u32 0, .int .u32 0, .int .u32 0, .int .u32 0, .int .u32 0, .int .u32 0, .int .u32 0, .int .u32 0] 28
        replace S : Hid (St 71 V F bs2 ks) := by rw [← hW]; exact S.out.alloc _
        replace C : Hid (Ch W V [F.gb]) := by rw [← hW]; exact C.out.alloc _
        replace B10 : Hid (Bk V go 28 [.int .u32 a0, .int .u32 a1, .int .u32 a2, .int .u32 a3, .int .u32 a4, .int .u32 a5, .int .u32 a6, .int .u32 a7, .int .u32 a8, .int .u32 a9, .int .u32 a10, .int .u32 a11, .int .u32 a12, .int .u32 a13, .int .u32 a14, .int .u32 a15]) := by rw [← hW]; exact B10.out.alloc _
        replace B19 : Hid (Bk V q19 30 [.int .i64 0, .int .i64 0, .bool false, .bool false, .bool false, .int .i64 0, .int .i64 0, .int .i64 0, .int .i64 0, .int .i64 0]) := by rw [← hW]; exact B19.out.alloc _
        rw [hW]
        try rw [hg]
        clear hW hg hHeld
        clear A
        rename World => A
        refine hK.out _ _ ?_ (fun hHeld => ?_)
        focus ((try dsimp only); exact B10.out)
        clear hK K
        try simp only [Act.put, List.setIfInBounds_toArray, List.set_cons_zero, List.set_cons_succ]
        exact TL A q18 q19 ⟨S.out, C.out, B10.out, B18.out, B19.out, ge18, ge19, by omega, by omega, by omega, trivial⟩
      refine consL rfl (fun K hK => ?_) ?_
      · go_simp
        obtain ⟨q18, hg⟩ : ∃ q, A.heap.size = q := ⟨_, rfl⟩
        have ge18 : W.heap.size ≤ q18 := by have := C.out.size; omega
        have ne18_10 : q18 ≠ go := by have := B10.out.lt; omega
        obtain ⟨V, hW⟩ : ∃ V, A.alloc (.cells #[.int .u32 0, .int .u32 0, .int .u32 0, .int .u32 0, .int .u32 0, .int .u32 0, .int .u32 0, .int .u32 0, .int .u32 0, .int .u32 0, .int .u32 0, .int .u32 0, .int .u32 0, .int .u32 0, .int .u32 0, .int .u32 0] 28) = V := ⟨_, rfl⟩
        have B18 : Hid (Bk V q18 28 [.int .u32 0, .int .u32 0, .int .u32 0, .int .u32 0, .int .u32 0, .int .u32 0, .int .u32 0, .int .u32 0, .int .u32 0, .int .u32 0, .int .u32 0, .int .u32 0, .int .u32 0, .int .u32 0, .int .u32 0, .int .u32 0]) := by rw [← hW, ← hg]; exact Bk.new A [.int .u32 0, .int .u32 0, .int .u32 0, .int .u32 0, .int .u32 0, .int .u32 0, .int .u32 0, .int .u32 0, .int .u32 0, .int .u32 0, .int .u32 0, .int .u32 0, .int .u32 0, .int .u32 0, .int .u32 0, .int .u32 0] 28
        replace S : Hid (St 71 V F bs ks) := by rw [← hW]; exact S.out.alloc _
        replace C : Hid (Ch W V [F.gb]) := by rw [← hW]; exact C.out.alloc _
        replace B10 : Hid (Bk V go 28 [.int .u32 a0, .int .u32 a1, .int .u32 a2, .int .u32 a3, .int .u32 a4, .int .u32 a5, .int .u32 a6, .int .u32 a7, .int .u32 a8, .int .u32 a9, .int .u32 a10, .int .u32 a11, .int .u32 a12, .int .u32 a13, .int .u32 a14, .int .u32 a15]) := by rw [← hW]; exact B10.out.alloc _
        rw [hW]
        try rw [hg]
        clear hW hg hHeld
        clear A
        rename World => A
        refine hK.out _ _ ?_ (fun hHeld => ?_)
        focus ((try dsimp only); exact B10.out)
        clear hK K
        try simp only [Act.put, List.setIfInBounds_toArray, List.set_cons_zero, List.set_cons_succ]
        refine wpAnyH_ready (rs := [5, 11]) (by kernel_rfl) (by simp) ?_
        refine consL rfl (fun K hK => ?_) ?_
        · go_simp
          go_at_call 14
          refine (HX.out _ S.out).mono ?_
          rintro e V ⟨rfl, hs, hc⟩
          replace S := Lib.hid hs
          replace C := Lib.hid (C.out.trans (hc.mono (by simp)))
          replace B10 := Lib.hid (B10.out.ch hc (by simp; omega))
          replace B18 := Lib.hid (B18.out.ch hc (by simp; omega))
          clear hs hc hHeld
          clear A
          rename World => A
          go_wp2_with fail
          refine hK.out _ _ ?_ (fun hHeld => ?_)
          focus ((try dsimp only); exact B10.out)
          clear hK K
          try simp only [Act.put, List.setIfInBounds_toArray, List.set_cons_zero, List.set_cons_succ]
          refine' takeL (i := 6) (v := _) rfl (by kernel_rfl) (by kernel_rfl) (by kernel_rfl) (fun c a w => hQ c a _ w rfl) (Or.inl ⟨by rfl, ?yy210⟩) (by assumption) ?rr210
          case yy210 => intro w hSw; (try dsimp only at hSw); go_simp; (try with_reducible rfl)
          try simp only [Act.put, List.setIfInBounds_toArray, List.set_cons_zero, List.set_cons_succ]
          refine' takeL (i := 7) (v := _) rfl (by kernel_rfl) (by kernel_rfl) (by kernel_rfl) (fun c a w => hQ c a _ w rfl) (Or.inl ⟨by rfl, ?yy211⟩) (by assumption) ?rr211
          case yy211 => intro w hSw; (try dsimp only at hSw); go_simp; (try with_reducible rfl)
          try simp only [Act.put, List.setIfInBounds_toArray, List.set_cons_zero, List.set_cons_succ]
          refine' takeL (i := 8) (v := _) rfl (by kernel_rfl) (by kernel_rfl) (by kernel_rfl) (fun c a w => hQ c a _ w rfl) (Or.inl ⟨by rfl, ?yy212⟩) (by assumption) ?rr212
          case yy212 => intro w hSw; (try dsimp only at hSw); go_simp; (try with_reducible rfl)
          try simp only [Act.put, List.setIfInBounds_toArray, List.set_cons_zero, List.set_cons_succ]
          refine' takeL (i := 9) (v := _) rfl (by kernel_rfl) (by kernel_rfl) (by kernel_rfl) (fun c a w => hQ c a _ w rfl) (Or.inl ⟨by rfl, ?yy213⟩) (by assumption) ?rr213
          case yy213 => intro w hSw; (try dsimp only at hSw); go_simp; (try with_reducible rfl)
          try simp only [Act.put, List.setIfInBounds_toArray, List.set_cons_zero, List.set_cons_succ]
          refine wpAnyH_ready (rs := [11]) (by kernel_rfl) (by simp) ?_
          refine consL rfl (fun K hK => ?_) AllReadyH.nil
          go_simp
          obtain ⟨q19, hg⟩ : ∃ q, A.heap.size = q := ⟨_, rfl⟩
          have ge19 : W.heap.size ≤ q19 := by have := C.out.size; omega
          have ne19_10 : q19 ≠ go := by have := B10.out.lt; omega
          have ne19_18 : q19 ≠ q18 := by have := B18.out.lt; omega
          obtain ⟨V, hW⟩ : ∃ V, A.alloc (.cells #[.int .i64 0, .int .i64 0, .bool false, .bool false, .bool false, .int .i64 0, .int .i64 0, .int .i64 0, .int .i64 0, .int .i64 0] 30) = V := ⟨_, rfl⟩
          have B19 : Hid (Bk V q19 30 [.int .i64 0, .int .i64 0, .bool false, .bool false, .bool false, .int .i64 0, .int .i64 0, .int .i64 0, .int .i64 0, .int .i64 0]) := by rw [← hW, ← hg]; exact Bk.new A [.int .i64 0, .int .i64 0, .bool false, .bool false, .bool false, .int .i64 0, .int .i64 0, .int .i64 0, .int .i64 0, .int .i64 0] 30
          replace S : Hid (St 71 V F bs2 ks) := by rw [← hW]; exact S.out.alloc _
          replace C : Hid (Ch W V [F.gb]) := by rw [← hW]; exact C.out.alloc _
          replace B10 : Hid (Bk V go 28 [.int .u32 a0, .int .u32 a1, .int .u32 a2, .int .u32 a3, .int .u32 a4, .int .u32 a5, .int .u32 a6, .int .u32 a7, .int .u32 a8, .int .u32 a9, .int .u32 a10, .int .u32 a11, .int .u32 a12, .int .u32 a13, .int .u32 a14, .int .u32 a15]) := by rw [← hW]; exact B10.out.alloc _
          replace B18 : Hid (Bk V q18 28 [.int .u32 0, .int .u32 0, .int .u32 0, .int .u32 0, .int .u32 0, .int .u32 0, .int .u32 0, .int .u32 0, .int .u32 0, .int .u32 0, .int .u32 0, .int .u32 0, .int .u32 0, .int .u32 0, .int .u32 0, .int .u32 0]) := by rw [← hW]; exact B18.out.alloc _
          rw [hW]
          try rw [hg]
          clear hW hg hHeld
          clear A
          rename World => A
          refine hK.out _ _ ?_ (fun hHeld => ?_)
          focus ((try dsimp only); exact B10.out)
          clear hK K
          try simp only [Act.put, List.setIfInBounds_toArray, List.set_cons_zero, List.set_cons_succ]
          exact TL A q18 q19 ⟨S.out, C.out, B10.out, B18.out, B19.out, ge18, ge19, by omega, by omega, by omega, trivial⟩
        refine consL rfl (fun K hK => ?_) AllReadyH.nil
        go_simp
        obtain ⟨q19, hg⟩ : ∃ q, A.heap.size = q := ⟨_, rfl⟩
        have ge19 : W.heap.size ≤ q19 := by have := C.out.size; omega
        have ne19_10 : q19 ≠ go := by have := B10.out.lt; omega
        have ne19_18 : q19 ≠ q18 := by have := B18.out.lt; omega
        obtain ⟨V, hW⟩ : ∃ V, A.alloc (.cells #[.int .i64 0, .int .i64 0, .bool false, .bool false, .bool false, .int .i64 0, .int .i64 0, .int .i64 0, .int .i64 0, .int .i64 0] 30) = V := ⟨_, rfl⟩
        have B19 : Hid (Bk V q19 30 [.int .i64 0, .int .i64 0, .bool false, .bool false, .bool false, .int .i64 0, .int .i64 0, .int .i64 0, .int .i64 0, .int .i64 0]) := by rw [← hW, ← hg]; exact Bk.new A [.int .i64 0, .int .i64 0, .bool false, .bool false, .bool false, .int .i64 0, .int .i64 0, .int .i64 0, .int .i64 0, .int .i64 0] 30
        replace S : Hid (St 71 V F bs ks) := by rw [← hW]; exact S.out.alloc _
        replace C : Hid (Ch W V [F.gb]) := by rw [← hW]; exact C.out.alloc _
        replace B10 : Hid (Bk V go 28 [.int .u32 a0, .int .u32 a1, .int .u32 a2, .int .u32 a3, .int .u32 a4, .int .u32 a5, .int .u32 a6, .int .u32 a7, .int .u32 a8, .int .u32 a9, .int .u32 a10, .int .u32 a11, .int .u32 a12, .int .u32 a13, .int .u32 a14, .int .u32 a15]) := by rw [← hW]; exact B10.out.alloc _
        replace B18 : Hid (Bk V q18 28 [.int .u32 0, .int .u32 0, .int .u32 0, .int .u32 0, .int .u32 0, .int .u32 0, .int .u32 0, .int .u32 0, .int .u32 0, .int .u32 0, .int .u32 0, .int .u32 0, .int .u32 0, .int .u32 0, .int .u32 0, .int .u32 0]) := by rw [← hW]; exact B18.out.alloc _
        rw [hW]
        try rw [hg]
        clear hW hg hHeld
        clear A
        rename World => A
        refine hK.out _ _ ?_ (fun hHeld => ?_)
        focus ((try dsimp only); exact B10.out)
        clear hK K
        try simp only [Act.put, List.setIfInBounds_toArray, List.set_cons_zero, List.set_cons_succ]
        refine wpAnyH_ready (rs := [5]) (by kernel_rfl) (by simp) ?_
        refine consL rfl (fun K hK => ?_) AllReadyH.nil
        go_simp
        go_at_call 14
        refine (HX.out _ S.out).mono ?_
        rintro e V ⟨rfl, hs, hc⟩
        replace S := Lib.hid hs
        replace C := Lib.hid (C.out.trans (hc.mono (by simp)))
        replace B10 := Lib.hid (B10.out.ch hc (by simp; omega))
        replace B18 := Lib.hid (B18.out.ch hc (by simp; omega))
        replace B19 := Lib.hid (B19.out.ch hc (by simp; omega))
        clear hs hc hHeld
        clear A
        rename World => A
        go_wp2_with fail
        refine hK.out _ _ ?_ (fun hHeld => ?_)
        focus ((try dsimp only); exact B10.out)
        clear hK K
        try simp only [Act.put, List.setIfInBounds_toArray, List.set_cons_zero, List.set_cons_succ]
        refine' takeL (i := 6) (v := _) rfl (by kernel_rfl) (by kernel_rfl) (by kernel_rfl) (fun c a w => hQ c a _ w rfl) (Or.inl ⟨by rfl, ?yy214⟩) (by assumption) ?rr214
        case yy214 => intro w hSw; (try dsimp only at hSw); go_simp; (try with_reducible rfl)
        try simp only [Act.put, List.setIfInBounds_toArray, List.set_cons_zero, List.set_cons_succ]
        refine' takeL (i := 7) (v := _) rfl (by kernel_rfl) (by kernel_rfl) (by kernel_rfl) (fun c a w => hQ c a _ w rfl) (Or.inl ⟨by rfl, ?yy215⟩) (by assumption) ?rr215
        case yy215 => intro w hSw; (try dsimp only at hSw); go_simp; (try with_reducible rfl)
        try simp only [Act.put, List.setIfInBounds_toArray, List.set_cons_zero, List.set_cons_succ]
        refine' takeL (i := 8) (v := _) rfl (by kernel_rfl) (by kernel_rfl) (by kernel_rfl) (fun c a w => hQ c a _ w rfl) (Or.inl ⟨by rfl, ?yy216⟩) (by assumption) ?rr216
        case yy216 => intro w hSw; (try dsimp only at hSw); go_simp; (try with_reducible rfl)
        try simp only [Act.put, List.setIfInBounds_toArray, List.set_cons_zero, List.set_cons_succ]
        refine' takeL (i := 9) (v := _) rfl (by kernel_rfl) (by kernel_rfl) (by kernel_rfl) (fun c a w => hQ c a _ w rfl) (Or.inl ⟨by rfl, ?yy217⟩) (by assumption) ?rr217
        case yy217 => intro w hSw; (try dsimp only at hSw); go_simp; (try with_reducible rfl)
        try simp only [Act.put, List.setIfInBounds_toArray, List.set_cons_zero, List.set_cons_succ]
        exact TL A q18 q19 ⟨S.out, C.out, B10.out, B18.out, B19.out, ge18, ge19, by omega, by omega, by omega, trivial⟩
      refine consL rfl (fun K hK => ?_) AllReadyH.nil
      go_simp
      obtain ⟨q19, hg⟩ : ∃ q, A.heap.size = q := ⟨_, rfl⟩
      have ge19 : W.heap.size ≤ q19 := by have := C.out.size; omega
      have ne19_10 : q19 ≠ go := by have := B10.out.lt; omega
      obtain ⟨V, hW⟩ : ∃ V, A.alloc (.cells #[.int .i64 0, .int .i64 0, .bool false, .bool false, .bool false, .int .i64 0, .int .i64 0, .int .i64 0, .int .i64 0, .int .i64 0] 30) = V := ⟨_, rfl⟩
      have B19 : Hid (Bk V q19 30 [.int .i64 0, .int .i64 0, .bool false, .bool false, .bool false, .int .i64 0, .int .i64 0, .int .i64 0, .int .i64 0, .int .i64 0]) := by rw [← hW, ← hg]; exact Bk.new A [.int .i64 0, .int .i64 0, .bool false, .bool false, .bool false, .int .i64 0, .int .i64 0, .int .i64 0, .int .i64 0, .int .i64 0] 30
      replace S : Hid (St 71 V F bs ks) := by rw [← hW]; exact S.out.alloc _
      replace C : Hid (Ch W V [F.gb]) := by rw [← hW]; exact C.out.alloc _
      replace B10 : Hid (Bk V go 28 [.int .u32 a0, .int .u32 a1, .int .u32 a2, .int .u32 a3, .int .u32 a4, .int .u32 a5, .int .u32 a6, .int .u32 a7, .int .u32 a8, .int .u32 a9, .int .u32 a10, .int .u32 a11, .int .u32 a12, .int .u32 a13, .int .u32 a14, .int .u32 a15]) := by rw [← hW]; exact B10.out.alloc _
      rw [hW]
      try rw [hg]
      clear hW hg hHeld
      clear A
      rename World => A
      refine hK.out _ _ ?_ (fun hHeld => ?_)
      focus ((try dsimp only); exact B10.out)
      clear hK K
      try simp only [Act.put, List.setIfInBounds_toArray, List.set_cons_zero, List.set_cons_succ]
      refine wpAnyH_ready (rs := [5, 10]) (by kernel_rfl) (by simp) ?_
      refine consL rfl (fun K hK => ?_) ?_
      · go_simp
        go_at_call 14
        refine (HX.out _ S.out).mono ?_
        rintro e V ⟨rfl, hs, hc⟩
        replace S := Lib.hid hs
        replace C := Lib.hid (C.out.trans (hc.mono (by simp)))
        replace B10 := Lib.hid (B10.out.ch hc (by simp; omega))
        replace B19 := Lib.hid (B19.out.ch hc (by simp; omega))
        clear hs hc hHeld
        clear A
        rename World => A
        go_wp2_with fail
        refine hK.out _ _ ?_ (fun hHeld => ?_)
        focus ((try dsimp only); exact B10.out)
        clear hK K
        try simp only [Act.put, List.setIfInBounds_toArray, List.set_cons_zero, List.set_cons_succ]
        refine' takeL (i := 6) (v := _) rfl (by kernel_rfl) (by kernel_rfl) (by kernel_rfl) (fun c a w => hQ c a _ w rfl) (Or.inl ⟨by rfl, ?yy218⟩) (by assumption) ?rr218
        case yy218 => intro w hSw; (try dsimp only at hSw); go_simp; (try with_reducible rfl)
        try simp only [Act.put, List.setIfInBounds_toArray, List.set_cons_zero, List.set_cons_succ]
        refine' takeL (i := 7) (v := _) rfl (by kernel_rfl) (by kernel_rfl) (by kernel_rfl) (fun c a w => hQ c a _ w rfl) (Or.inl ⟨by rfl, ?yy219⟩) (by assumption) ?rr219
        case yy219 => intro w hSw; (try dsimp only at hSw); go_simp; (try with_reducible rfl)
        try simp only [Act.put, List.setIfInBounds_toArray, List.set_cons_zero, List.set_cons_succ]
        refine' takeL (i := 8) (v := _) rfl (by kernel_rfl) (by kernel_rfl) (by kernel_rfl) (fun c a w => hQ c a _ w rfl) (Or.inl ⟨by rfl, ?yy220⟩) (by assumption) ?rr220
        case yy220 => intro w hSw; (try dsimp only at hSw); go_simp; (try with_reducible rfl)
        try simp only [Act.put, List.setIfInBounds_toArray, List.set_cons_zero, List.set_cons_succ]
        refine' takeL (i := 9) (v := _) rfl (by kernel_rfl) (by kernel_rfl) (by kernel_rfl) (fun c a w => hQ c a _ w rfl) (Or.inl ⟨by rfl, ?yy221⟩) (by assumption) ?rr221
        case yy221 => intro w hSw; (try dsimp only at hSw); go_simp; (try with_reducible rfl)
        try simp only [Act.put, List.setIfInBounds_toArray, List.set_cons_zero, List.set_cons_succ]
        refine wpAnyH_ready (rs := [10]) (by kernel_rfl) (by simp) ?_
        refine consL rfl (fun K hK => ?_) AllReadyH.nil
        go_simp
        obtain ⟨q18, hg⟩ : ∃ q, A.heap.size = q := ⟨_, rfl⟩
        have ge18 : W.heap.size ≤ q18 := by have := C.out.size; omega
        have ne18_10 : q18 ≠ go := by have := B10.out.lt; omega
        have ne18_19 : q18 ≠ q19 := by have := B19.out.lt; omega
        obtain ⟨V, hW⟩ : ∃ V, A.alloc (.cells #[.int .u32 0, .int .u32 0, .int .u32 0, .int .u32 0, .int .u32 0, .int .u32 0, .int .u32 0, .int .u32 0, .int .u32 0, .int .u32 0, .int .u32 0, .int .u32 0, .int .u32 0, .int .u32 0, .int .u32 0, .int .u32 0] 28) = V := ⟨_, rfl⟩
        have B18 : Hid (Bk V q18 28 [.int .u32 0, .int .u32 0, .int .u32 0, .int .u32 0, .int .u32 0, .int .u32 0, .int .u32 0, .int .u32 0, .int .u32 0, .int .u32 0, .int .u32 0, .int .u32 0, .int .u32 0, .int .u32 0, .int .u32 0, .int .u32 0]) := by rw [← hW, ← hg]; exact Bk.new A [.int .u32 0, .int .u32 0, .int .u32 0, .int .u32 0, .int .u32 0, .int .u32 0, .int .u32 0, .int .u32 0, .int .u32 0, .int .u32 0, .int .u32 0, .int .u32 0, .int .u32 0, .int .u32 0, .int .u32 0, .int .u32 0] 28
        replace S : Hid (St 71 V F bs2 ks) := by rw [← hW]; exact S.out.alloc _
        replace C : Hid (Ch W V [F.gb]) := by rw [← hW]; exact C.out.alloc _
        replace B10 : Hid (Bk V go 28 [.int .u32 a0, .int .u32 a1, .int .u32 a2, .int .u32 a3, .int .u32 a4, .int .u32 a5, .int .u32 a6, .int .u32 a7, .int .u32 a8, .int .u32 a9, .int .u32 a10, .int .u32 a11, .int .u32 a12, .int .u32 a13, .int .u32 a14, .int .u32 a15]) := by rw [← hW]; exact B10.out.alloc _
        replace B19 : Hid (Bk V q19 30 [.int .i64 0, .int .i64 0, .bool false, .bool false, .bool false, .int .i64 0, .int .i64 0, .int .i64 0, .int .i64 0, .int .i64 0]) := by rw [← hW]; exact B19.out.alloc _
        rw [hW]
        try rw [hg]
        clear hW hg hHeld
        clear A
        rename World => A
        refine hK.out _ _ ?_ (fun hHeld => ?_)
        focus ((try dsimp only); exact B10.out)
        clear hK K
        try simp only [Act.put, List.setIfInBounds_toArray, List.set_cons_zero, List.set_cons_succ]
        exact TL A q18 q19 ⟨S.out, C.out, B10.out, B18.out, B19.out, ge18, ge19, by omega, by omega, by omega, trivial⟩
      refine consL rfl (fun K hK => ?_) AllReadyH.nil
      go_simp
      obtain ⟨q18, hg⟩ : ∃ q, A.heap.size = q := ⟨_, rfl⟩
      have ge18 : W.heap.size ≤ q18 := by have := C.out.size; omega
      have ne18_10 : q18 ≠ go := by have := B10.out.lt; omega
      have ne18_19 : q18 ≠ q19 := by have := B19.out.lt; omega
      obtain ⟨V, hW⟩ : ∃ V, A.alloc (.cells #[.int .u32 0, .int .u32 0, .int .u32 0, .int .u32 0, .int .u32 0, .int .u32 0, .int .u32 0, .int .u32 0, .int .u32 0, .int .u32 0, .int .u32 0, .int .u32 0, .int .u32 0, .int .u32 0, .int .u32 0, .int .u32 0] 28) = V := ⟨_, rfl⟩
      have B18 : Hid (Bk V q18 28 [.int .u32 0, .int .u32 0, .int .u32 0, .int .u32 0, .int .u32 0, .int .u32 0, .int .u32 0, .int .u32 0, .int .u32 0, .int .u32 0, .int .u32 0, .int .u32 0, .int .u32 0, .int .u32 0, .int .u32 0, .int .u32 0]) := by rw [← hW, ← hg]; exact Bk.new A [.int .u32 0, .int .u32 0, .int .u32 0, .int .u32 0, .int .u32 0, .int .u32 0, .int .u32 0, .int .u32 0, .int .u32 0, .int .u32 0, .int .u32 0, .int .u32 0, .int .u32 0, .int .u32 0, .int .u32 0, .int .u32 0] 28
      replace S : Hid (St 71 V F bs ks) := by rw [← hW]; exact S.out.alloc _
      replace C : Hid (Ch W V [F.gb]) := by rw [← hW]; exact C.out.alloc _
      replace B10 : Hid (Bk V go 28 [.int .u32 a0, .int .u32 a1, .int .u32 a2, .int .u32 a3, .int .u32 a4, .int .u32 a5, .int .u32 a6, .int .u32 a7, .int .u32 a8, .int .u32 a9, .int .u32 a10, .int .u32 a11, .int .u32 a12, .int .u32 a13, .int .u32 a14, .int .u32 a15]) := by rw [← hW]; exact B10.out.alloc _
      replace B19 : Hid (Bk V q19 30 [.int .i64 0, .int .i64 0, .bool false, .bool false, .bool false, .int .i64 0, .int .i64 0, .int .i64 0, .int .i64 0, .int .i64 0]) := by rw [← hW]; exact B19.out.alloc _
      rw [hW]
      try rw [hg]
      clear hW hg hHeld
      clear A
      rename World => A
      refine hK.out _ _ ?_ (fun hHeld => ?_)
      focus ((try dsimp only); exact B10.out)
      clear hK K
      try simp only [Act.put, List.setIfInBounds_toArray, List.set_cons_zero, List.set_cons_succ]
      refine wpAnyH_ready (rs := [5]) (by kernel_rfl) (by simp) ?_
      refine consL rfl (fun K hK => ?_) AllReadyH.nil
      go_simp
      go_at_call 14
      refine (HX.out _ S.out).mono ?_
      rintro e V ⟨rfl, hs, hc⟩
      replace S := Lib.hid hs
      replace C := Lib.hid (C.out.trans (hc.mono (by simp)))
      replace B10 := Lib.hid (B10.out.ch hc (by simp; omega))
      replace B19 := Lib.hid (B19.out.ch hc (by simp; omega))
      replace B18 := Lib.hid (B18.out.ch hc (by simp; omega))
      clear hs hc hHeld
      clear A
      rename World => A
      go_wp2_with fail
      refine hK.out _ _ ?_ (fun hHeld => ?_)
      focus ((try dsimp only); exact B10.out)
      clear hK K
      try simp only [Act.put, List.setIfInBounds_toArray, List.set_cons_zero, List.set_cons_succ]
      refine' takeL (i := 6) (v := _) rfl (by kernel_rfl) (by kernel_rfl) (by kernel_rfl) (fun c a w => hQ c a _ w rfl) (Or.inl ⟨by rfl, ?yy222⟩) (by assumption) ?rr222
      case yy222 => intro w hSw; (try dsimp only at hSw); go_simp; (try with_reducible rfl)
      try simp only [Act.put, List.setIfInBounds_toArray, List.set_cons_zero, List.set_cons_succ]
      refine' takeL (i := 7) (v := _) rfl (by kernel_rfl) (by kernel_rfl) (by kernel_rfl) (fun c a w => hQ c a _ w rfl) (Or.inl ⟨by rfl, ?yy223⟩) (by assumption) ?rr223
      case yy223 => intro w hSw; (try dsimp only at hSw); go_simp; (try with_reducible rfl)
      try simp only [Act.put, List.setIfInBounds_toArray, List.set_cons_zero, List.set_cons_succ]
      refine' takeL (i := 8) (v := _) rfl (by kernel_rfl) (by kernel_rfl) (by kernel_rfl) (fun c a w => hQ c a _ w rfl) (Or.inl ⟨by rfl, ?yy224⟩) (by assumption) ?rr224
      case yy224 => intro w hSw; (try dsimp only at hSw); go_simp; (try with_reducible rfl)
      try simp only [Act.put, List.setIfInBounds_toArray, List.set_cons_zero, List.set_cons_succ]
      refine' takeL (i := 9) (v := _) rfl (by kernel_rfl) (by kernel_rfl) (by kernel_rfl) (fun c a w => hQ c a _ w rfl) (Or.inl ⟨by rfl, ?yy225⟩) (by assumption) ?rr225
      case yy225 => intro w hSw; (try dsimp only at hSw); go_simp; (try with_reducible rfl)
      try simp only [Act.put, List.setIfInBounds_toArray, List.set_cons_zero, List.set_cons_succ]
      exact TL A q18 q19 ⟨S.out, C.out, B10.out, B18.out, B19.out, ge18, ge19, by omega, by omega, by omega, trivial⟩
    refine consL rfl (fun K hK => ?_) ?_
    · go_simp
      obtain ⟨q18, hg⟩ : ∃ q, A.heap.size = q := ⟨_, rfl⟩
      have ge18 : W.heap.size ≤ q18 := by have := C.out.size; omega
      have ne18_10 : q18 ≠ go := by have := B10.out.lt; omega
      obtain ⟨V, hW⟩ : ∃ V, A.alloc (.cells #[.int .u32 0, .int .u32 0, .int .u32 0, .int .u32 0, .int .u32 0, .int .u32 0, .int .u32 0, .int .u32 0, .int .u32 0, .int .u32 0, .int .u32 0, .int .u32 0, .int .u32 0, .int .u32 0, .int .u32 0, .int .u32 0] 28) = V := ⟨_, rfl⟩
      have B18 : Hid (Bk V q18 28 [.int .u32 0, .int .u32 0, .int .u32 0, .int .u32 0, .int .u32 0, .int .u32 0, .int .u32 0, .int .u32 0, .int .u32 0, .int .u32 0, .int .u32 0, .int .u32 0, .int .u32 0, .int .u32 0, .int .u32 0, .int .u32 0]) := by rw [← hW, ← hg]; exact Bk.new A [.int .u32 0, .int .u32 0, .int .u32 0, .int .u32 0, .int .u32 0, .int .u32 0, .int .u32 0, .int .u32 0, .int .u32 0, .int .u32 0, .int .u32 0, .int .u32 0, .int .u32 0, .int .u32 0, .int .u32 0, .int .u32 0] 28
      replace S : Hid (St 71 V F bs ks) := by rw [← hW]; exact S.out.alloc _
      replace C : Hid (Ch W V [F.gb]) := by rw [← hW]; exact C.out.alloc _
      replace B10 : Hid (Bk V go 28 [.int .u32 a0, .int .u32 a1, .int .u32 a2, .int .u32 a3, .int .u32 a4, .int .u32 a5, .int .u32 a6, .int .u32 a7, .int .u32 a8, .int .u32 a9, .int .u32 a10, .int .u32 a11, .int .u32 a12, .int .u32 a13, .int .u32 a14, .int .u32 a15]) := by rw [← hW]; exact B10.out.alloc _
      rw [hW]
      try rw [hg]
      clear hW hg hHeld
      clear A
      rename World => A
      refine hK.out _ _ ?_ (fun hHeld => ?_)
      focus ((try dsimp only); exact B10.out)
      clear hK K
      try simp only [Act.put, List.setIfInBounds_toArray, List.set_cons_zero, List.set_cons_succ]
      refine wpAnyH_ready (rs := [1, 11]) (by kernel_rfl) (by simp) ?_
      refine consL rfl (fun K hK => ?_) ?_
      · go_simp
        go_at_call 17
        refine (ss_c 215 (n : Int) _ (by omega) (by omega)).mono ?_
        rintro e V ⟨rfl, hb⟩
        replace S := Lib.hid (S.out.belowS hb)
        replace C := Lib.hid (C.out.trans (Ch.of_below hb _))
        replace B10 := Lib.hid (B10.out.keep hb)
        replace B18 := Lib.hid (B18.out.keep hb)
        clear hb hHeld
        clear A
        rename World => A
        go_wp2_with fail
        refine hK.out _ _ ?_ (fun hHeld => ?_)
        focus ((try dsimp only); exact B10.out)
        clear hK K
        try simp only [Act.put, List.setIfInBounds_toArray, List.set_cons_zero, List.set_cons_succ]
        refine wpAnyH_ready (rs := [5, 11]) (by kernel_rfl) (by simp) ?_
        refine consL rfl (fun K hK => ?_) ?_
        · go_simp
          go_at_call 14
          refine (HX.out _ S.out).mono ?_
          rintro e V ⟨rfl, hs, hc⟩
          replace S := Lib.hid hs
          replace C := Lib.hid (C.out.trans (hc.mono (by simp)))
          replace B10 := Lib.hid (B10.out.ch hc (by simp; omega))
          replace B18 := Lib.hid (B18.out.ch hc (by simp; omega))
          clear hs hc hHeld
          clear A
          rename World => A
          go_wp2_with fail
          refine hK.out _ _ ?_ (fun hHeld => ?_)
          focus ((try dsimp only); exact B10.out)
          clear hK K
          try simp only [Act.put, List.setIfInBounds_toArray, List.set_cons_zero, List.set_cons_succ]
          refine' takeL (i := 6) (v := _) rfl (by kernel_rfl) (by kernel_rfl) (by kernel_rfl) (fun c a w => hQ c a _ w rfl) (Or.inl ⟨by rfl, ?yy226⟩) (by assumption) ?rr226
          case yy226 => intro w hSw; (try dsimp only at hSw); go_simp; (try with_reducible rfl)
          try simp only [Act.put, List.setIfInBounds_toArray, List.set_cons_zero, List.set_cons_succ]
          refine' takeL (i := 7) (v := _) rfl (by kernel_rfl) (by kernel_rfl) (by kernel_rfl) (fun c a w => hQ c a _ w rfl) (Or.inl ⟨by rfl, ?yy227⟩) (by assumption) ?rr227
          case yy227 => intro w hSw; (try dsimp only at hSw); go_simp; (try with_reducible rfl)
          try simp only [Act.put, List.setIfInBounds_toArray, List.set_cons_zero, List.set_cons_succ]
          refine' takeL (i := 8) (v := _) rfl (by kernel_rfl) (by kernel_rfl) (by kernel_rfl) (fun c a w => hQ c a _ w rfl) (Or.inl ⟨by rfl, ?yy228⟩) (by assumption) ?rr228
          case yy228 => intro w hSw; (try dsimp only at hSw); go_simp; (try with_reducible rfl)
          try simp only [Act.put, List.setIfInBounds_toArray, List.set_cons_zero, List.set_cons_succ]
          refine' takeL (i := 9) (v := _) rfl (by kernel_rfl) (by kernel_rfl) (by kernel_rfl) (fun c a w => hQ c a _ w rfl) (Or.inl ⟨by rfl, ?yy229⟩) (by assumption) ?rr229
          case yy229 => intro w hSw; (try dsimp only at hSw); go_simp; (try with_reducible rfl)
          try simp only [Act.put, List.setIfInBounds_toArray, List.set_cons_zero, List.set_cons_succ]
          refine wpAnyH_ready (rs := [11]) (by kernel_rfl) (by simp) ?_
          refine consL rfl (fun K hK => ?_) AllReadyH.nil
          go_simp
          obtain ⟨q19, hg⟩ : ∃ q, A.heap.size = q := ⟨_, rfl⟩
          have ge19 : W.heap.size ≤ q19 := by have := C.out.size; omega
          have ne19_10 : q19 ≠ go := by have := B10.out.lt; omega
          have ne19_18 : q19 ≠ q18 := by have := B18.out.lt; omega
          obtain ⟨V, hW⟩ : ∃ V, A.alloc (.cells #[.int .i64 0, .int .i64 0, .bool false, .bool false, .bool false, .int .i64 0, .int .i64 0, .int .i64 0, .int .i64 0, .int .i64 0] 30) = V := ⟨_, rfl⟩
          have B19 : Hid (Bk V q19 30 [.int .i64 0, .int .i64 0, .bool false, .bool false, .bool false, .int .i64 0, .int .i64 0, .int .i64 0, .int .i64 0, .int .i64 0]) := by rw [← hW, ← hg]; exact Bk.new A [.int .i64 0, .int .i64 0, .bool false, .bool false, .bool false, .int .i64 0, .int .i64 0, .int .i64 0, .int .i64 0, .int .i64 0] 30
          replace S : Hid (St 71 V F bs2 ks) := by rw [← hW]; exact S.out.alloc _
          replace C : Hid (Ch W V [F.gb]) := by rw [← hW]; exact C.out.alloc _
          replace B10 : Hid (Bk V go 28 [.int .u32 a0, .int .u32 a1, .int .u32 a2, .int .u32 a3, .int .u32 a4, .int .u32 a5, .int .u32 a6, .int .u32 a7, .int .u32 a8, .int .u32 a9, .int .u32 a10, .int .u32 a11, .int .u32 a12, .int .u32 a13, .int .u32 a14, .int .u32 a15]) := by rw [← hW]; exact B10.out.alloc _
          replace B18 : Hid (Bk V q18 28 [.int .u32 0, .int .u32 0, .int .u32 0, .int .u32 0, .int .u32 0, .int .u32 0, .int .u32 0, .int .u32 0, .int .u32 0, .int .u32 0, .int .u32 0, .int .u32 0, .int .u32 0, .int .u32 0, .int .u32 0, .int .u32 0]) := by rw [← hW]; exact B18.out.alloc _
          rw [hW]
          try rw [hg]
          clear hW hg hHeld
          clear A
          rename World => A
          refine hK.out _ _ ?_ (fun hHeld => ?_)
          focus ((try dsimp only); exact B10.out)
          clear hK K
          try simp only [Act.put, List.setIfInBounds_toArray, List.set_cons_zero, List.set_cons_succ]
          exact TL A q18 q19 ⟨S.out, C.out, B10.out, B18.out, B19.out, ge18, ge19, by omega, by omega, by omega, trivial⟩
        refine consL rfl (fun K hK => ?_) AllReadyH.nil
        go_simp
        obtain ⟨q19, hg⟩ : ∃ q, A.heap.size = q := ⟨_, rfl⟩
        have ge19 : W.heap.size ≤ q19 := by have := C.out.size; omega
        have ne19_10 : q19 ≠ go := by have := B10.out.lt; omega
        have ne19_18 : q19 ≠ q18 := by have := B18.out.lt; omega
        obtain ⟨V, hW⟩ : ∃ V, A.alloc (.cells #[.int .i64 0, .int .i64 0, .bool false, .bool false, .bool false, .int .i64 0, .int .i64 0, .int .i64 0, .int .i64 0, .int .i64 0] 30) = V := ⟨_, rfl⟩
        have B19 : Hid (Bk V q19 30 [.int .i64 0, .int .i64 0, .bool false, .bool false, .bool false, .int .i64 0, .int .i64 0, .int .i64 0, .int .i64 0, .int .i64 0]) := by rw [← hW, ← hg]; exact Bk.new A [.int .i64 0, .int .i64 0, .bool false, .bool false, .bool false, .int .i64 0, .int .i64 0, .int .i64 0, .int .i64 0, .int .i64 0] 30
        replace S : Hid (St 71 V F bs ks) := by rw [← hW]; exact S.out.alloc _
        replace C : Hid (Ch W V [F.gb]) := by rw [← hW]; exact C.out.alloc _
        replace B10 : Hid (Bk V go 28 [.int .u32 a0, .int .u32 a1, .int .u32 a2, .int .u32 a3, .int .u32 a4, .int .u32 a5, .int .u32 a6, .int .u32 a7, .int .u32 a8, .int .u32 a9, .int .u32 a10, .int .u32 a11, .int .u32 a12, .int .u32 a13, .int .u32 a14, .int .u32 a15]) := by rw [← hW]; exact B10.out.alloc _
        replace B18 : Hid (Bk V q18 28 [.int .u32 0, .int .u32 0, .int .u32 0, .int .u32 0, .int .u32 0, .int .u32 0, .int .u32 0, .int .u32 0, .int .u32 0, .int .u32 0, .int .u32 0, .int .u32 0, .int .u32 0, .int .u32 0, .int .u32 0, .int .u32 0]) := by rw [← hW]; exact B18.out.alloc _
        rw [hW]
        try rw [hg]
        clear hW hg hHeld
        clear A
        rename World => A
        refine hK.out _ _ ?_ (fun hHeld => ?_)
        focus ((try dsimp only); exact B10.out)
        clear hK K
        try simp only [Act.put, List.setIfInBounds_toArray, List.set_cons_zero, List.set_cons_succ]
        refine wpAnyH_ready (rs := [5]) (by kernel_rfl) (by simp) ?_
        refine consL rfl (fun K hK => ?_) AllReadyH.nil
        go_simp
        go_at_call 14
        refine (HX.out _ S.out).mono ?_
        rintro e V ⟨rfl, hs, hc⟩
        replace S := Lib.hid hs
        replace C := Lib.hid (C.out.trans (hc.mono (by simp)))
        replace B10 := Lib.hid (B10.out.ch hc (by simp; omega))
        replace B18 := Lib.hid (B18.out.ch hc (by simp; omega))
        replace B19 := Lib.hid (B19.out.ch hc (by simp; omega))
        clear hs hc hHeld
        clear A
        rename World => A
        go_wp2_with fail
        refine hK.out _ _ ?_ (fun hHeld => ?_)
        focus ((try dsimp only); exact B10.out)
        clear hK K
        try simp only [Act.put, List.setIfInBounds_toArray, List.set_cons_zero, List.set_cons_succ]
        refine' takeL (i := 6) (v := _) rfl (by kernel_rfl) (by kernel_rfl) (by kernel_rfl) (fun c a w => hQ c a _ w rfl) (Or.inl ⟨by rfl, ?yy230⟩) (by assumption) ?rr230
        case yy230 => intro w hSw; (try dsimp only at hSw); go_simp; (try with_reducible rfl)
        try simp only [Act.put, List.setIfInBounds_toArray, List.set_cons_zero, List.set_cons_succ]
        refine' takeL (i := 7) (v := _) rfl (by kernel_rfl) (by kernel_rfl) (by kernel_rfl) (fun c a w => hQ c a _ w rfl) (Or.inl ⟨by rfl, ?yy231⟩) (by assumption) ?rr231
        case yy231 => intro w hSw; (try dsimp only at hSw); go_simp; (try with_reducible rfl)
        try simp only [Act.put, List.setIfInBounds_toArray, List.set_cons_zero, List.set_cons_succ]
        refine' takeL (i := 8) (v := _) rfl (by kernel_rfl) (by kernel_rfl) (by kernel_rfl) (fun c a w => hQ c a _ w rfl) (Or.inl ⟨by rfl, ?yy232⟩) (by assumption) ?rr232
        case yy232 => intro w hSw; (try dsimp only at hSw); go_simp; (try with_reducible rfl)
        try simp only [Act.put, List.setIfInBounds_toArray, List.set_cons_zero, List.set_cons_succ]
        refine' takeL (i := 9) (v := _) rfl (by kernel_rfl) (by kernel_rfl) (by kernel_rfl) (fun c a w => hQ c a _ w rfl) (Or.inl ⟨by rfl, ?yy233⟩) (by assumption) ?rr233
        case yy233 => intro w hSw; (try dsimp only at hSw); go_simp; (try with_reducible rfl)
        try simp only [Act.put, List.setIfInBounds_toArray, List.set_cons_zero, List.set_cons_succ]
        exact TL A q18 q19 ⟨S.out, C.out, B10.out, B18.out, B19.out, ge18, ge19, by omega, by omega, by omega, trivial⟩
      refine consL rfl (fun K hK => ?_) AllReadyH.nil
      go_simp
      obtain ⟨q19, hg⟩ : ∃ q, A.heap.size = q := ⟨_, rfl⟩
      have ge19 : W.heap.size ≤ q19 := by have := C.out.size; omega
      have ne19_10 : q19 ≠ go := by have := B10.out.lt; omega
      have ne19_18 : q19 ≠ q18 := by have := B18.out.lt; omega
      obtain ⟨V, hW⟩ : ∃ V, A.alloc (.cells #[.int .i64 0, .int .i64 0, .bool false, .bool false, .bool false, .int .i64 0, .int .i64 0, .int .i64 0, .int .i64 0, .int .i64 0] 30) = V := ⟨_, rfl⟩
      have B19 : Hid (Bk V q19 30 [.int .i64 0, .int .i64 0, .bool false, .bool false, .bool false, .int .i64 0, .int .i64 0, .int .i64 0, .int .i64 0, .int .i64 0]) := by rw [← hW, ← hg]; exact Bk.new A [.int .i64 0, .int .i64 0, .bool false, .bool false, .bool false, .int .i64 0, .int .i64 0, .int .i64 0, .int .i64 0, .int .i64 0] 30
      replace S : Hid (St 71 V F bs ks) := by rw [← hW]; exact S.out.alloc _
      replace C : Hid (Ch W V [F.gb]) := by rw [← hW]; exact C.out.alloc _
      replace B10 : Hid (Bk V go 28 [.int .u32 a0, .int .u32 a1, .int .u32 a2, .int .u32 a3, .int .u32 a4, .int .u32 a5, .int .u32 a6, .int .u32 a7, .int .u32 a8, .int .u32 a9, .int .u32 a10, .int .u32 a11, .int .u32 a12, .int .u32 a13, .int .u32 a14, .int .u32 a15]) := by rw [← hW]; exact B10.out.alloc _
      replace B18 : Hid (Bk V q18 28 [.int .u32 0, .int .u32 0, .int .u32 0, .int .u32 0, .int .u32 0, .int .u32 0, .int .u32 0, .int .u32 0, .int .u32 0, .int .u32 0, .int .u32 0, .int .u32 0, .int .u32 0, .int .u32 0, .int .u32 0, .int .u32 0]) := by rw [← hW]; exact B18.out.alloc _
      rw [hW]
      try rw [hg]
      clear hW hg hHeld
      clear A
      rename World => A
      refine hK.out _ _ ?_ (fun hHeld => ?_)
      focus ((try dsimp only); exact B10.out)
      clear hK K
      try simp only [Act.put, List.setIfInBounds_toArray, List.set_cons_zero, List.set_cons_succ]
      refine wpAnyH_ready (rs := [1]) (by kernel_rfl) (by simp) ?_
      refine consL rfl (fun K hK => ?_) AllReadyH.nil
      go_simp
      go_at_call 17
      refine (ss_c 215 (n : Int) _ (by omega) (by omega)).mono ?_
      rintro e V ⟨rfl, hb⟩
      replace S := Lib.hid (S.out.belowS hb)
      replace C := Lib.hid (C.out.trans (Ch.of_below hb _))
      replace B10 := Lib.hid (B10.out.keep hb)
      replace B18 := Lib.hid (B18.out.keep hb)
      replace B19 := Lib.hid (B19.out.keep hb)
      clear hb hHeld
      clear A
      rename World => A
      go_wp2_with fail
      refine hK.out _ _ ?_ (fun hHeld => ?_)
      focus ((try dsimp only); exact B10.out)
      clear hK K
      try simp only [Act.put, List.setIfInBounds_toArray, List.set_cons_zero, List.set_cons_succ]
      refine wpAnyH_ready (rs := [5]) (by kernel_rfl) (by simp) ?_
      refine consL rfl (fun K hK => ?_) AllReadyH.nil
      go_simp
      go_at_call 14
      refine (HX.out _ S.out).mono ?_
      rintro e V ⟨rfl, hs, hc⟩
      replace S := Lib.hid hs
      replace C := Lib.hid (C.out.trans (hc.mono (by simp)))
      replace B10 := Lib.hid (B10.out.ch hc (by simp; omega))
      replace B18 := Lib.hid (B18.out.ch hc (by simp; omega))
      replace B19 := Lib.hid (B19.out.ch hc (by simp; omega))
      clear hs hc hHeld
      clear A
      rename World => A
      go_wp2_with fail
      refine hK.out _ _ ?_ (fun hHeld => ?_)
      focus ((try dsimp only); exact B10.out)
      clear hK K
      try simp only [Act.put, List.setIfInBounds_toArray, List.set_cons_zero, List.set_cons_succ]
      refine' takeL (i := 6) (v := _) rfl (by kernel_rfl) (by kernel_rfl) (by kernel_rfl) (fun c a w => hQ c a _ w rfl) (Or.inl ⟨by rfl, ?yy234⟩) (by assumption) ?rr234
      case yy234 => intro w hSw; (try dsimp only at hSw); go_simp; (try with_reducible rfl)
      try simp only [Act.put, List.setIfInBounds_toArray, List.set_cons_zero, List.set_cons_succ]
      refine' takeL (i := 7) (v := _) rfl (by kernel_rfl) (by kernel_rfl) (by kernel_rfl) (fun c a w => hQ c a _ w rfl) (Or.inl ⟨by rfl, ?yy235⟩) (by assumption) ?rr235
      case yy235 => intro w hSw; (try dsimp only at hSw); go_simp; (try with_reducible rfl)
      try simp only [Act.put, List.setIfInBounds_toArray, List.set_cons_zero, List.set_cons_succ]
      refine' takeL (i := 8) (v := _) rfl (by kernel_rfl) (by kernel_rfl) (by kernel_rfl) (fun c a w => hQ c a _ w rfl) (Or.inl ⟨by rfl, ?yy236⟩) (by assumption) ?rr236
      case yy236 => intro w hSw; (try dsimp only at hSw); go_simp; (try with_reducible rfl)
      try simp only [Act.put, List.setIfInBounds_toArray, List.set_cons_zero, List.set_cons_succ]
      refine' takeL (i := 9) (v := _) rfl (by kernel_rfl) (by kernel_rfl) (by kernel_rfl) (fun c a w => hQ c a _ w rfl) (Or.inl ⟨by rfl, ?yy237⟩) (by assumption) ?rr237
      case yy237 => intro w hSw; (try dsimp only at hSw); go_simp; (try with_reducible rfl)
      try simp only [Act.put, List.setIfInBounds_toArray, List.set_cons_zero, List.set_cons_succ]
      exact TL A q18 q19 ⟨S.out, C.out, B10.out, B18.out, B19.out, ge18, ge19, by omega, by omega, by omega, trivial⟩
    refine consL rfl (fun K hK => ?_) AllReadyH.nil
    go_simp
    obtain ⟨q19, hg⟩ : ∃ q, A.heap.size = q := ⟨_, rfl⟩
    have ge19 : W.heap.size ≤ q19 := by have := C.out.size; omega
    have ne19_10 : q19 ≠ go := by have := B10.out.lt; omega
    obtain ⟨V, hW⟩ : ∃ V, A.alloc (.cells #[.int .i64 0, .int .i64 0, .bool false, .bool false, .bool false, .int .i64 0, .int .i64 0, .int .i64 0, .int .i64 0, .int .i64 0] 30) = V := ⟨_, rfl⟩
    have B19 : Hid (Bk V q19 30 [.int .i64 0, .int .i64 0, .bool false, .bool false, .bool false, .int .i64 0, .int .i64 0, .int .i64 0, .int .i64 0, .int .i64 0]) := by rw [← hW, ← hg]; exact Bk.new A [.int .i64 0, .int .i64 0, .bool false, .bool false, .bool false, .int .i64 0, .int .i64 0, .int .i64 0, .int .i64 0, .int .i64 0] 30
    replace S : Hid (St 71 V F bs ks) := by rw [← hW]; exact S.out.alloc _
    replace C : Hid (Ch W V [F.gb]) := by rw [← hW]; exact C.out.alloc _
    replace B10 : Hid (Bk V go 28 [.int .u32 a0, .int .u32 a1, .int .u32 a2, .int .u32 a3, .int .u32 a4, .int .u32 a5, .int .u32 a6, .int .u32 a7, .int .u32 a8, .int .u32 a9, .int .u32 a10, .int .u32 a11, .int .u32 a12, .int .u32 a13, .int .u32 a14, .int .u32 a15]) := by rw [← hW]; exact B10.out.alloc _
    rw [hW]
    try rw [hg]
    clear hW hg hHeld
    clear A
    rename World => A
    refine hK.out _ _ ?_ (fun hHeld => ?_)
    focus ((try dsimp only); exact B10.out)
    clear hK K
    try simp only [Act.put, List.setIfInBounds_toArray, List.set_cons_zero, List.set_cons_succ]
    refine wpAnyH_ready (rs := [1, 10]) (by kernel_rfl) (by simp) ?_
    refine consL rfl (fun K hK => ?_) ?_
    · go_simp
      go_at_call 17
      refine (ss_c 215 (n : Int) _ (by omega) (by omega)).mono ?_
      rintro e V ⟨rfl, hb⟩
      replace S := Lib.hid (S.out.belowS hb)
      replace C := Lib.hid (C.out.trans (Ch.of_below hb _))
      replace B10 := Lib.hid (B10.out.keep hb)
      replace B19 := Lib.hid (B19.out.keep hb)
      clear hb hHeld
      clear A
      rename World => A
      go_wp2_with fail
      refine hK.out _ _ ?_ (fun hHeld => ?_)
      focus ((try dsimp only); exact B10.out)
      clear hK K
      try simp only [Act.put, List.setIfInBounds_toArray, List.set_cons_zero, List.set_cons_succ]
      refine wpAnyH_ready (rs := [5, 10]) (by kernel_rfl) (by simp) ?_
      refine consL rfl (fun K hK => ?_) ?_
      · go_simp
        go_at_call 14
        refine (HX.out _ S.out).mono ?_
        rintro e V ⟨rfl, hs, hc⟩
        replace S := Lib.hid hs
        replace C := Lib.hid (C.out.trans (hc.mono (by simp)))
        replace B10 := Lib.hid (B10.out.ch hc (by simp; omega))
        replace B19 := Lib.hid (B19.out.ch hc (by simp; omega))
        clear hs hc hHeld
        clear A
        rename World => A
        go_wp2_with fail
        refine hK.out _ _ ?_ (fun hHeld => ?_)
        focus ((try dsimp only); exact B10.out)
        clear hK K
        try simp only [Act.put, List.setIfInBounds_toArray, List.set_cons_zero, List.set_cons_succ]
        refine' takeL (i := 6) (v := _) rfl (by kernel_rfl) (by kernel_rfl) (by kernel_rfl) (fun c a w => hQ c a _ w rfl) (Or.inl ⟨by rfl, ?yy238⟩) (by assumption) ?rr238
        case yy238 => intro w hSw; (try dsimp only at hSw); go_simp; (try with_reducible rfl)
        try simp only [Act.put, List.setIfInBounds_toArray, List.set_cons_zero, List.set_cons_succ]
        refine' takeL (i := 7) (v := _) rfl (by kernel_rfl) (by kernel_rfl) (by kernel_rfl) (fun c a w => hQ c a _ w rfl) (Or.inl ⟨by rfl, ?yy239⟩) (by assumption) ?rr239
        case yy239 => intro w hSw; (try dsimp only at hSw); go_simp; (try with_reducible rfl)
        try simp only [Act.put, List.setIfInBounds_toArray, List.set_cons_zero, List.set_cons_succ]
        refine' takeL (i := 8) (v := _) rfl (by kernel_rfl) (by kernel_rfl) (by kernel_rfl) (fun c a w => hQ c a _ w rfl) (Or.inl ⟨by rfl, ?yy240⟩) (by assumption) ?rr240
        case yy240 => intro w hSw; (try dsimp only at hSw); go_simp; (try with_reducible rfl)
        try simp only [Act.put, List.setIfInBounds_toArray, List.set_cons_zero, List.set_cons_succ]
        refine' takeL (i := 9) (v := _) rfl (by kernel_rfl) (by kernel_rfl) (by kernel_rfl) (fun c a w => hQ c a _ w rfl) (Or.inl ⟨by rfl, ?yy241⟩) (by assumption) ?rr241
        case yy241 => intro w hSw; (try dsimp only at hSw); go_simp; (try with_reducible rfl)
        try simp only [Act.put, List.setIfInBounds_toArray, List.set_cons_zero, List.set_cons_succ]
        refine wpAnyH_ready (rs := [10]) (by kernel_rfl) (by simp) ?_
        refine consL rfl (fun K hK => ?_) AllReadyH.nil
        go_simp
        obtain ⟨q18, hg⟩ : ∃ q, A.heap.size = q := ⟨_, rfl⟩
        have ge18 : W.heap.size ≤ q18 := by have := C.out.size; omega
        have ne18_10 : q18 ≠ go := by have := B10.out.lt; omega
        have ne18_19 : q18 ≠ q19 := by have := B19.out.lt; omega
        obtain ⟨V, hW⟩ : ∃ V, A.alloc (.cells #[.int .u32 0, .int .u32 0, .int .u32 0, .int .u32 0, .int .u32 0, .int .u32 0, .int .u32 0, .int .u32 0, .int .u32 0, .int .u32 0, .int .u32 0, .int .u32 0, .int .u32 0, .int .u32 0, .int .u32 0, .int .u32 0] 28) = V := ⟨_, rfl⟩
        have B18 : Hid (Bk V q18 28 [.int .u32 0, .int .u32 0, .int .u32 0, .int .u32 0, .int .u32 0, .int .u32 0, .int .u32 0, .int .u32 0, .int .u32 0, .int .u32 0, .int .u32 0, .int .u32 0, .int .u32 0, .int .u32 0, .int .u32 0, .int .u32 0]) := by rw [← hW, ← hg]; exact Bk.new A [.int .u32 0, .int .u32 0, .int .u32 0, .int .u32 0, .int .u32 0, .int .u32 0, .int .u32 0, .int .u32 0, .int .u32 0, .int .u32 0, .int .u32 0, .int .u32 0, .int .u32 0, .int .u32 0, .int .u32 0, .int .u32 0] 28
        replace S : Hid (St 71 V F bs2 ks) := by rw [← hW]; exact S.out.alloc _
        replace C : Hid (Ch W V [F.gb]) := by rw [← hW]; exact C.out.alloc _
        replace B10 : Hid (Bk V go 28 [.int .u32 a0, .int .u32 a1, .int .u32 a2, .int .u32 a3, .int .u32 a4, .int .u32 a5, .int .u32 a6, .int .u32 a7, .int .u32 a8, .int .u32 a9, .int .u32 a10, .int .u32 a11, .int .u32 a12, .int .u32 a13, .int .u32 a14, .int .u32 a15]) := by rw [← hW]; exact B10.out.alloc _
        replace B19 : Hid (Bk V q19 30 [.int .i64 0, .int .i64 0, .bool false, .bool false, .bool false, .int .i64 0, .int .i64 0, .int .i64 0, .int .i64 0, .int .i64 0]) := by rw [← hW]; exact B19.out.alloc _
        rw [hW]
        try rw [hg]
        clear hW hg hHeld
        clear A
        rename World => A
        refine hK.out _ _ ?_ (fun hHeld => ?_)
        focus ((try dsimp only); exact B10.out)
        clear hK K
        try simp only [Act.put, List.setIfInBounds_toArray, List.set_cons_zero, List.set_cons_succ]
        exact TL A q18 q19 ⟨S.out, C.out, B10.out, B18.out, B19.out, ge18, ge19, by omega, by omega, by omega, trivial⟩
      refine consL rfl (fun K hK => ?_) AllReadyH.nil
      go_simp
      obtain ⟨q18, hg⟩ : ∃ q, A.heap.size = q := ⟨_, rfl⟩
      have ge18 : W.heap.size ≤ q18 := by have := C.out.size; omega
      have ne18_10 : q18 ≠ go := by have := B10.out.lt; omega
      have ne18_19 : q18 ≠ q19 := by have := B19.out.lt; omega
      obtain ⟨V, hW⟩ : ∃ V, A.alloc (.cells #[.int .u32 0, .int .u32 0, .int .u32 0, .int .u32 0, .int .u32 0, .int .u32 0, .int .u32 0, .int .u32 0, .int .u32 0, .int .u32 0, .int .u32 0, .int .u32 0, .int .u32 0, .int .u32 0, .int .u32 0, .int .u32 0] 28) = V := ⟨_, rfl⟩
      have B18 : Hid (Bk V q18 28 [.int .u32 0, .int .u32 0, .int .u32 0, .int .u32 0, .int .u32 0, .int .u32 0, .int .u32 0, .int .u32 0, .int .u32 0, .int .u32 0, .int .u32 0, .int .u32 0, .int .u32 0, .int .u32 0, .int .u32 0, .int .u32 0]) := by rw [← hW, ← hg]; exact Bk.new A [.int .u32 0, .int .u32 0, .int .u32 0, .int .u32 0, .int .u32 0, .int .u32 0, .int .u32 0, .int .u32 0, .int .u32 0, .int .u32 0, .int .u32 0, .int .u32 0, .int .u32 0, .int .u32 0, .int .u32 0, .int .u32 0] 28
      replace S : Hid (St 71 V F bs ks) := by rw [← hW]; exact S.out.alloc _
      replace C : Hid (Ch W V [F.gb]) := by rw [← hW]; exact C.out.alloc _
      replace B10 : Hid (Bk V go 28 [.int .u32 a0, .int .u32 a1, .int .u32 a2, .int .u32 a3, .int .u32 a4, .int .u32 a5, .int .u32 a6, .int .u32 a7, .int .u32 a8, .int .u32 a9, .int .u32 a10, .int .u32 a11, .int .u32 a12, .int .u32 a13, .int .u32 a14, .int .u32 a15]) := by rw [← hW]; exact B10.out.alloc _
      replace B19 : Hid (Bk V q19 30 [.int .i64 0, .int .i64 0, .bool false, .bool false, .bool false, .int .i64 0, .int .i64 0, .int .i64 0, .int .i64 0, .int .i64 0]) := by rw [← hW]; exact B19.out.alloc _
      rw [hW]
      try rw [hg]
      clear hW hg hHeld
      clear A
      rename World => A
      refine hK.out _ _ ?_ (fun hHeld => ?_)
      focus ((try dsimp only); exact B10.out)
      clear hK K
      try simp only [Act.put, List.setIfInBounds_toArray, List.set_cons_zero, List.set_cons_succ]
      refine wpAnyH_ready (rs := [5]) (by kernel_rfl) (by simp) ?_
      refine consL rfl (fun K hK => ?_) AllReadyH.nil
      go_simp
      go_at_call 14
      refine (HX.out _ S.out).mono ?_
      rintro e V ⟨rfl, hs, hc⟩
      replace S := Lib.hid hs
      replace C := Lib.hid (C.out.trans (hc.mono (by simp)))
      replace B10 := Lib.hid (B10.out.ch hc (by simp; omega))
      replace B19 := Lib.hid (B19.out.ch hc (by simp; omega))
      replace B18 := Lib.hid (B18.out.ch hc (by simp; omega))
      clear hs hc hHeld
      clear A
      rename World => A
      go_wp2_with fail
      refine hK.out _ _ ?_ (fun hHeld => ?_)
      focus ((try dsimp only); exact B10.out)
      clear hK K
      try simp only [Act.put, List.setIfInBounds_toArray, List.set_cons_zero, List.set_cons_succ]
      refine' takeL (i := 6) (v := _) rfl (by kernel_rfl) (by kernel_rfl) (by kernel_rfl) (fun c a w => hQ c a _ w rfl) (Or.inl ⟨by rfl, ?yy242⟩) (by assumption) ?rr242
      case yy242 => intro w hSw; (try dsimp only at hSw); go_simp; (try with_reducible rfl)
      try simp only [Act.put, List.setIfInBounds_toArray, List.set_cons_zero, List.set_cons_succ]
      refine' takeL (i := 7) (v := _) rfl (by kernel_rfl) (by kernel_rfl) (by kernel_rfl) (fun c a w => hQ c a _ w rfl) (Or.inl ⟨by rfl, ?yy243⟩) (by assumption) ?rr243
      case yy243 => intro w hSw; (try dsimp only at hSw); go_simp; (try with_reducible rfl)
      try simp only [Act.put, List.setIfInBounds_toArray, List.set_cons_zero, List.set_cons_succ]
      refine' takeL (i := 8) (v := _) rfl (by kernel_rfl) (by kernel_rfl) (by kernel_rfl) (fun c a w => hQ c a _ w rfl) (Or.inl ⟨by rfl, ?yy244⟩) (by assumption) ?rr244
      case yy244 => intro w hSw; (try dsimp only at hSw); go_simp; (try with_reducible rfl)
      try simp only [Act.put, List.setIfInBounds_toArray, List.set_cons_zero, List.set_cons_succ]
      refine' takeL (i := 9) (v := _) rfl (by kernel_rfl) (by kernel_rfl) (by kernel_rfl) (fun c a w => hQ c a _ w rfl) (Or.inl ⟨by rfl, ?yy245⟩) (by assumption) ?rr245
      case yy245 => intro w hSw; (try dsimp only at hSw); go_simp; (try with_reducible rfl)
      try simp only [Act.put, List.setIfInBounds_toArray, List.set_cons_zero, List.set_cons_succ]
      exact TL A q18 q19 ⟨S.out, C.out, B10.out, B18.out, B19.out, ge18, ge19, by omega, by omega, by omega, trivial⟩
    refine consL rfl (fun K hK => ?_) AllReadyH.nil
    go_simp
    obtain ⟨q18, hg⟩ : ∃ q, A.heap.size = q := ⟨_, rfl⟩
    have ge18 : W.heap.size ≤ q18 := by have := C.out.size; omega
    have ne18_10 : q18 ≠ go := by have := B10.out.lt; omega
    have ne18_19 : q18 ≠ q19 := by have := B19.out.lt; omega
    obtain ⟨V, hW⟩ : ∃ V, A.alloc (.cells #[.int .u32 0, .int .u32 0, .int .u32 0, .int .u32 0, .int .u32 0, .int .u32 0, .int .u32 0, .int .u32 0, .int .u32 0, .int .u32 0, .int .u32 0, .int .u32 0, .int .u32 0, .int .u32 0, .int .u32 0, .int .u32 0] 28) = V := ⟨_, rfl⟩
    have B18 : Hid (Bk V q18 28 [.int .u32 0, .int .u32 0, .int .u32 0, .int .u32 0, .int .u32 0, .int .u32 0, .int .u32 0, .int .u32 0, .int .u32 0, .int .u32 0, .int .u32 0, .int .u32 0, .int .u32 0, .int .u32 0, .int .u32 0, .int .u32 0]) := by rw [← hW, ← hg]; exact Bk.new A [.int .u32 0, .int .u32 0, .int .u32 0, .int .u32 0, .int .u32 0, .int .u32 0, .int .u32 0, .int .u32 0, .int .u32 0, .int .u32 0, .int .u32 0, .int .u32 0, .int .u32 0, .int .u32 0, .int .u32 0, .int .u32 0] 28
    replace S : Hid (St 71 V F bs ks) := by rw [← hW]; exact S.out.alloc _
    replace C : Hid (Ch W V [F.gb]) := by rw [← hW]; exact C.out.alloc _
    replace B10 : Hid (Bk V go 28 [.int .u32 a0, .int .u32 a1, .int .u32 a2, .int .u32 a3, .int .u32 a4, .int .u32 a5, .int .u32 a6, .int .u32 a7, .int .u32 a8, .int .u32 a9, .int .u32 a10, .int .u32 a11, .int .u32 a12, .int .u32 a13, .int .u32 a14, .int .u32 a15]) := by rw [← hW]; exact B10.out.alloc _
    replace B19 : Hid (Bk V q19 30 [.int .i64 0, .int .i64 0, .bool false, .bool false, .bool false, .int .i64 0, .int .i64 0, .int .i64 0, .int .i64 0, .int .i64 0]) := by rw [← hW]; exact B19.out.alloc _
    rw [hW]
    try rw [hg]
    clear hW hg hHeld
    clear A
    rename World => A
    refine hK.out _ _ ?_ (fun hHeld => ?_)
    focus ((try dsimp only); exact B10.out)
    clear hK K
    try simp only [Act.put, List.setIfInBounds_toArray, List.set_cons_zero, List.set_cons_succ]
    refine wpAnyH_ready (rs := [1]) (by kernel_rfl) (by simp) ?_
    refine consL rfl (fun K hK => ?_) AllReadyH.nil
    go_simp
    go_at_call 17
    refine (ss_c 215 (n : Int) _ (by omega) (by omega)).mono ?_
    rintro e V ⟨rfl, hb⟩
    replace S := Lib.hid (S.out.belowS hb)
    replace C := Lib.hid (C.out.trans (Ch.of_below hb _))
    replace B10 := Lib.hid (B10.out.keep hb)
    replace B19 := Lib.hid (B19.out.keep hb)
    replace B18 := Lib.hid (B18.out.keep hb)
    clear hb hHeld
    clear A
    rename World => A
    go_wp2_with fail
    refine hK.out _ _ ?_ (fun hHeld => ?_)
    focus ((try dsimp only); exact B10.out)
    clear hK K
    try simp only [Act.put, List.setIfInBounds_toArray, List.set_cons_zero, List.set_cons_succ]
    refine wpAnyH_ready (rs := [5]) (by kernel_rfl) (by simp) ?_
    refine consL rfl (fun K hK => ?_) AllReadyH.nil
    go_simp
    go_at_call 14
    refine (HX.out _ S.out).mono ?_
    rintro e V ⟨rfl, hs, hc⟩
    replace S := Lib.hid hs
    replace C := Lib.hid (C.out.trans (hc.mono (by simp)))
    replace B10 := Lib.hid (B10.out.ch hc (by simp; omega))
    replace B19 := Lib.hid (B19.out.ch hc (by simp; omega))
    replace B18 := Lib.hid (B18.out.ch hc (by simp; omega))
    clear hs hc hHeld
    clear A
    rename World => A
    go_wp2_with fail
    refine hK.out _ _ ?_ (fun hHeld => ?_)
    focus ((try dsimp only); exact B10.out)
    clear hK K
    try simp only [Act.put, List.setIfInBounds_toArray, List.set_cons_zero, List.set_cons_succ]
    refine' takeL (i := 6) (v := _) rfl (by kernel_rfl) (by kernel_rfl) (by kernel_rfl) (fun c a w => hQ c a _ w rfl) (Or.inl ⟨by rfl, ?yy246⟩) (by assumption) ?rr246
    case yy246 => intro w hSw; (try dsimp only at hSw); go_simp; (try with_reducible rfl)
    try simp only [Act.put, List.setIfInBounds_toArray, List.set_cons_zero, List.set_cons_succ]
    refine' takeL (i := 7) (v := _) rfl (by kernel_rfl) (by kernel_rfl) (by kernel_rfl) (fun c a w => hQ c a _ w rfl) (Or.inl ⟨by rfl, ?yy247⟩) (by assumption) ?rr247
    case yy247 => intro w hSw; (try dsimp only at hSw); go_simp; (try with_reducible rfl)
    try simp only [Act.put, List.setIfInBounds_toArray, List.set_cons_zero, List.set_cons_succ]
    refine' takeL (i := 8) (v := _) rfl (by kernel_rfl) (by kernel_rfl) (by kernel_rfl) (fun c a w => hQ c a _ w rfl) (Or.inl ⟨by rfl, ?yy248⟩) (by assumption) ?rr248
    case yy248 => intro w hSw; (try dsimp only at hSw); go_simp; (try with_reducible rfl)
    try simp only [Act.put, List.setIfInBounds_toArray, List.set_cons_zero, List.set_cons_succ]
    refine' takeL (i := 9) (v := _) rfl (by kernel_rfl) (by kernel_rfl) (by kernel_rfl) (fun c a w => hQ c a _ w rfl) (Or.inl ⟨by rfl, ?yy249⟩) (by assumption) ?rr249
    case yy249 => intro w hSw; (try dsimp only at hSw); go_simp; (try with_reducible rfl)
    try simp only [Act.put, List.setIfInBounds_toArray, List.set_cons_zero, List.set_cons_succ]
    exact TL A q18 q19 ⟨S.out, C.out, B10.out, B18.out, B19.out, ge18, ge19, by omega, by omega, by omega, trivial⟩
  case tail =>
    rintro A q18 q19 ⟨S, C, B10, B18, B19, ge18, ge19, ne_go_q18, ne_go_q19, ne_q18_q19, -⟩
    have hHeld := B10
    replace S := Lib.hid S
    replace C := Lib.hid C
    replace B10 := Lib.hid B10
    replace B18 := Lib.hid B18
    replace B19 := Lib.hid B19
    refine wpAnyH_ready (rs := [12]) (by kernel_rfl) (by simp) ?_
    refine consL rfl (fun K hK => ?_) AllReadyH.nil
    have cz := B18.out
    have cz0 := cz.cell (c := 0) rfl
    have fz0 := cz.free 0
    have cz1 := cz.cell (c := 1) rfl
    have fz1 := cz.free 1
    have cz2 := cz.cell (c := 2) rfl
    have fz2 := cz.free 2
    have cz3 := cz.cell (c := 3) rfl
    have fz3 := cz.free 3
    have cz4 := cz.cell (c := 4) rfl
    have fz4 := cz.free 4
    have cz5 := cz.cell (c := 5) rfl
    have fz5 := cz.free 5
    have cz6 := cz.cell (c := 6) rfl
    have fz6 := cz.free 6
    have cz7 := cz.cell (c := 7) rfl
    have fz7 := cz.free 7
    have cz8 := cz.cell (c := 8) rfl
    have fz8 := cz.free 8
    have cz9 := cz.cell (c := 9) rfl
    have fz9 := cz.free 9
    have cz10 := cz.cell (c := 10) rfl
    have fz10 := cz.free 10
    have cz11 := cz.cell (c := 11) rfl
    have fz11 := cz.free 11
    have cz12 := cz.cell (c := 12) rfl
    have fz12 := cz.free 12
    have cz13 := cz.cell (c := 13) rfl
    have fz13 := cz.free 13
    have cz14 := cz.cell (c := 14) rfl
    have fz14 := cz.free 14
    have cz15 := cz.cell (c := 15) rfl
    have fz15 := cz.free 15
    go_simp
    clear cz cz0 fz0 cz1 fz1 cz2 fz2 cz3 fz3 cz4 fz4 cz5 fz5 cz6 fz6 cz7 fz7 cz8 fz8 cz9 fz9 cz10 fz10 cz11 fz11 cz12 fz12 cz13 fz13 cz14 fz14 cz15 fz15
    obtain ⟨V, hW⟩ : ∃ V, ((((((((((((((((A.setCell ⟨q18, 0, none⟩ (.int .u32 n0)).setCell ⟨q18, 1, none⟩ (.int .u32 n1)).setCell ⟨q18, 2, none⟩ (.int .u32 n2)).setCell ⟨q18, 3, none⟩ (.int .u32 n3)).setCell ⟨q18, 4, none⟩ (.int .u32 n4)).setCell ⟨q18, 5, none⟩ (.int .u32 n5)).setCell ⟨q18, 6, none⟩ (.int .u32 n6)).setCell ⟨q18, 7, none⟩ (.int .u32 n7)).setCell ⟨q18, 8, none⟩ (.int .u32 n8)).setCell ⟨q18, 9, none⟩ (.int .u32 n9)).setCell ⟨q18, 10, none⟩ (.int .u32 n10)).setCell ⟨q18, 11, none⟩ (.int .u32 n11)).setCell ⟨q18, 12, none⟩ (.int .u32 n12)).setCell ⟨q18, 13, none⟩ (.int .u32 n13)).setCell ⟨q18, 14, none⟩ (.int .u32 n14)).setCell ⟨q18, 15, none⟩ (.int .u32 n15)) = V := ⟨_, rfl⟩
    have hc : Ch A V [q18] := by rw [← hW]; exact ch_n16 A q18 (.int .u32 n0) (.int .u32 n1) (.int .u32 n2) (.int .u32 n3) (.int .u32 n4) (.int .u32 n5) (.int .u32 n6) (.int .u32 n7) (.int .u32 n8) (.int .u32 n9) (.int .u32 n10) (.int .u32 n11) (.int .u32 n12) (.int .u32 n13) (.int .u32 n14) (.int .u32 n15)
    replace S := Lib.hid (S.out.chd hc (by simp; omega) (by simp; omega) (by simp; omega))
    replace C := Lib.hid (show Ch W V [F.gb] from (by rw [← hW]; exact ch_s16 C.out ge18 (.int .u32 n0) (.int .u32 n1) (.int .u32 n2) (.int .u32 n3) (.int .u32 n4) (.int .u32 n5) (.int .u32 n6) (.int .u32 n7) (.int .u32 n8) (.int .u32 n9) (.int .u32 n10) (.int .u32 n11) (.int .u32 n12) (.int .u32 n13) (.int .u32 n14) (.int .u32 n15)))
    replace B10 := Lib.hid (B10.out.ch hc (by simp; omega))
    replace B18 : Hid (Bk V q18 28 [.int .u32 n0, .int .u32 n1, .int .u32 n2, .int .u32 n3, .int .u32 n4, .int .u32 n5, .int .u32 n6, .int .u32 n7, .int .u32 n8, .int .u32 n9, .int .u32 n10, .int .u32 n11, .int .u32 n12, .int .u32 n13, .int .u32 n14, .int .u32 n15]) := by rw [← hW]; exact Bk.sets16 B18.out rfl (.int .u32 n0) (.int .u32 n1) (.int .u32 n2) (.int .u32 n3) (.int .u32 n4) (.int .u32 n5) (.int .u32 n6) (.int .u32 n7) (.int .u32 n8) (.int .u32 n9) (.int .u32 n10) (.int .u32 n11) (.int .u32 n12) (.int .u32 n13) (.int .u32 n14) (.int .u32 n15)
    replace B19 := Lib.hid (B19.out.ch hc (by simp; omega))
    rw [hW]
    clear hW hc hHeld
    clear A
    rename World => A
    refine hK.out _ _ ?_ (fun hHeld => ?_)
    focus ((try dsimp only); exact B10.out)
    clear hK K
    try simp only [Act.put, List.setIfInBounds_toArray, List.set_cons_zero, List.set_cons_succ]
    refine wpAnyH_ready (rs := [13]) (by kernel_rfl) (by simp) ?_
    refine consL rfl (fun K hK => ?_) AllReadyH.nil
    have cz := B19.out
    have cz0 := cz.cell (c := 0) rfl
    have fz0 := cz.free 0
    have cz1 := cz.cell (c := 1) rfl
    have fz1 := cz.free 1
    have cz2 := cz.cell (c := 2) rfl
    have fz2 := cz.free 2
    have cz3 := cz.cell (c := 3) rfl
    have fz3 := cz.free 3
    have cz4 := cz.cell (c := 4) rfl
    have fz4 := cz.free 4
    have cz5 := cz.cell (c := 5) rfl
    have fz5 := cz.free 5
    have cz6 := cz.cell (c := 6) rfl
    have fz6 := cz.free 6
    have cz7 := cz.cell (c := 7) rfl
    have fz7 := cz.free 7
    have cz8 := cz.cell (c := 8) rfl
    have fz8 := cz.free 8
    have cz9 := cz.cell (c := 9) rfl
    have fz9 := cz.free 9
    go_simp
    clear cz cz0 fz0 cz1 fz1 cz2 fz2 cz3 fz3 cz4 fz4 cz5 fz5 cz6 fz6 cz7 fz7 cz8 fz8 cz9 fz9
    obtain ⟨V, hW⟩ : ∃ V, ((((((((((A.setCell ⟨q19, 0, none⟩ (.int .i64 0)).setCell ⟨q19, 1, none⟩ (.int .i64 0)).setCell ⟨q19, 2, none⟩ (.bool false)).setCell ⟨q19, 3, none⟩ (.bool false)).setCell ⟨q19, 4, none⟩ (.bool false)).setCell ⟨q19, 5, none⟩ (.int .i64 0)).setCell ⟨q19, 6, none⟩ (.int .i64 0)).setCell ⟨q19, 7, none⟩ (.int .i64 cq)).setCell ⟨q19, 8, none⟩ (.int .i64 0)).setCell ⟨q19, 9, none⟩ (.int .i64 0)) = V := ⟨_, rfl⟩
    have hc : Ch A V [q19] := by rw [← hW]; exact ch_n10 A q19 (.int .i64 0) (.int .i64 0) (.bool false) (.bool false) (.bool false) (.int .i64 0) (.int .i64 0) (.int .i64 cq) (.int .i64 0) (.int .i64 0)
    replace S := Lib.hid (S.out.chd hc (by simp; omega) (by simp; omega) (by simp; omega))
    replace C := Lib.hid (show Ch W V [F.gb] from (by rw [← hW]; exact ch_s10 C.out ge19 (.int .i64 0) (.int .i64 0) (.bool false) (.bool false) (.bool false) (.int .i64 0) (.int .i64 0) (.int .i64 cq) (.int .i64 0) (.int .i64 0)))
    replace B10 := Lib.hid (B10.out.ch hc (by simp; omega))
    replace B18 := Lib.hid (B18.out.ch hc (by simp; omega))
    replace B19 : Hid (Bk V q19 30 [.int .i64 0, .int .i64 0, .bool false, .bool false, .bool false, .int .i64 0, .int .i64 0, .int .i64 cq, .int .i64 0, .int .i64 0]) := by rw [← hW]; exact Bk.sets10 B19.out rfl (.int .i64 0) (.int .i64 0) (.bool false) (.bool false) (.bool false) (.int .i64 0) (.int .i64 0) (.int .i64 cq) (.int .i64 0) (.int .i64 0)
    rw [hW]
    clear hW hc hHeld
    clear A
    rename World => A
    refine hK.out _ _ ?_ (fun hHeld => ?_)
    focus ((try dsimp only); exact B10.out)
    clear hK K
    try simp only [Act.put, List.setIfInBounds_toArray, List.set_cons_zero, List.set_cons_succ]
    refine takeL (i := 14) (v := .int .i64 cd) rfl (by kernel_rfl) (by kernel_rfl) (by kernel_rfl) (fun c a w => hQ c a _ w rfl) (Or.inl ⟨by rfl, ?_⟩) (by assumption) ?_
    focus (intro w hSw; (try dsimp only at hSw); go_simp; (try with_reducible rfl))
    try simp only [Act.put, List.setIfInBounds_toArray, List.set_cons_zero, List.set_cons_succ]
    refine wpAnyH_done (by kernel_rfl) ?_ _
    exact H.out _ _ _ _ _ _ _ _ _ _ _ q18 q19 0 S.out B10.out B18.out B19.out ge18 ge19 C.out
end Go.Proofs.Ythjdjbipfdigeaa

