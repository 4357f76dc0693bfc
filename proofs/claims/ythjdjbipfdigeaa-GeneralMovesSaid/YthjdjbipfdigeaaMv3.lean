/- Contracts and laws on the way to the statement, text 3 of 5. Conditions: as each states them. -/
import Derived.Test.YthjdjbipfdigeaaMv2
namespace Go.Proofs.Ythjdjbipfdigeaa
open Go.RowKit
set_option maxRecDepth 100000
set_option linter.unusedVariables false
set_option linter.unusedSimpArgs false
set_option maxRecDepth 1000000 in
set_option maxHeartbeats 16000000 in
theorem moves_reg8 {u0 u1 u2 u4 u7 u8 u9 u10 u11 u12 u13 u14 u15 u16 u17 u18 u19 u20 u21 u22 u23 u24 u25 u26 u27 u28 u29 u30 u31 u32 u33 u34 u35 u36 u37 u38 u39 u40 u41 u42 u43 u44 u45 u46 u47 u48 u49 u50 u51 u52 u53 u54 u55 u56 u57 u58 u59 u60 u61 u62 u63 u64 u65 u66 u67 u68 u69 u70 u71 u72 u73 u74 u75 u76 u77 u78 u79 u80 u81 u82 u83 u84 u85 u86 u87 u88 u89 u90 u91 u92 u93 u94 u95 u96 u97 u98 u99 u100 u101 u102 u103 u104 u105 u106 u107 u108 u109 u110 u111 u112 u113 u114 u115 u116 u117 u118 u119 u120 u121 u122 u123 u124 u125 u126 u127 u128 u129 u130 u131 u132 u133 u134 u135 u136 u137 u138 u139 u140 : Value} {n : Nat} {a0 a1 a2 a3 a4 a5 a6 a7 a8 a9 a10 a11 a12 a13 a14 a15 n0 n1 n2 n3 n4 n5 n6 n7 n8 n9 n10 n11 n12 n13 n14 n15 cq cd : Int} (hn0 : 1 ≤ (n : Int)) (hn1 : (n : Int) ≤ 256) {bs2 : List Int} {F : Foot} {bs ks : List Int} {go z_ : Nat} {ops : Array Oper} (hops : (Try.f6.body.bind (regOpsH 8)) = some ops) {Q : Exit → Act → World → Prop} {ds : List Deferred} {W : World} (hQ : ∀ (c : List PanicEntry) (a a' : Act) (w : World), a'.defers = a.defers → Q (.panic c) a' w → Q (.panic c) a w) (hS : St 71 W F bs ks) (hB6 : Bk W go 28 [.int .u32 a0, .int .u32 a1, .int .u32 a2, .int .u32 a3, .int .u32 a4, .int .u32 a5, .int .u32 a6, .int .u32 a7, .int .u32 a8, .int .u32 a9, .int .u32 a10, .int .u32 a11, .int .u32 a12, .int .u32 a13, .int .u32 a14, .int .u32 a15]) (hn6 : go ≠ F.gb) (hm6 : go ≠ F.g) (hk6 : go ≠ F.gk) (hx : ∀ w, St 71 w F bs ks → Calls Try.prog 14 #[.agg #[.int .i64 210, .int .i64 5, .int .i64 0, .int .i64 0, .int .i64 0, .int .i64 14, .int .i64 0, .int .i64 15, .int .i64 0, .int .i64 ((n : Int) - 1), .int .i64 0, .int .i64 0], .agg #[.int .u32 a0, .int .u32 a1, .int .u32 a2, .int .u32 a3, .int .u32 a4, .int .u32 a5, .int .u32 a6, .int .u32 a7, .int .u32 a8, .int .u32 a9, .int .u32 a10, .int .u32 a11, .int .u32 a12, .int .u32 a13, .int .u32 a14, .int .u32 a15], .agg #[.int .i64 0, .int .i64 0, .bool false, .bool false, .bool false, .int .i64 0, .int .i64 0, .int .i64 0, .int .i64 0, .int .i64 0], .pointer (some ⟨F.g, 0, none⟩)] w fun e w' => e = .returned (.tuple #[.agg #[.int .u32 n0, .int .u32 n1, .int .u32 n2, .int .u32 n3, .int .u32 n4, .int .u32 n5, .int .u32 n6, .int .u32 n7, .int .u32 n8, .int .u32 n9, .int .u32 n10, .int .u32 n11, .int .u32 n12, .int .u32 n13, .int .u32 n14, .int .u32 n15], .agg #[.int .i64 0, .int .i64 0, .bool false, .bool false, .bool false, .int .i64 0, .int .i64 0, .int .i64 cq, .int .i64 0, .int .i64 0], .int .i64 cd]) ∧ St 71 w' F bs2 ks ∧ Ch w w' [F.gb])
    (h : ∀ (w' : World) (x48 x49 x50 x51 x52 x53 x47 x54 x55 x56 : Value) (g7 g8 z_ : Nat), St 71 w' F bs2 ks → Bk w' go 28 [.int .u32 a0, .int .u32 a1, .int .u32 a2, .int .u32 a3, .int .u32 a4, .int .u32 a5, .int .u32 a6, .int .u32 a7, .int .u32 a8, .int .u32 a9, .int .u32 a10, .int .u32 a11, .int .u32 a12, .int .u32 a13, .int .u32 a14, .int .u32 a15] → Bk w' g7 28 [.int .u32 n0, .int .u32 n1, .int .u32 n2, .int .u32 n3, .int .u32 n4, .int .u32 n5, .int .u32 n6, .int .u32 n7, .int .u32 n8, .int .u32 n9, .int .u32 n10, .int .u32 n11, .int .u32 n12, .int .u32 n13, .int .u32 n14, .int .u32 n15] → Bk w' g8 30 [.int .i64 0, .int .i64 0, .bool false, .bool false, .bool false, .int .i64 0, .int .i64 0, .int .i64 cq, .int .i64 0, .int .i64 0] → W.heap.size ≤ g7 → W.heap.size ≤ g8 →  Ch W w'  [F.gb] → Q .normal { tmps := #[u0, u1, u2, .pointer (some ⟨F.g, 0, none⟩), u4, .int .i64 (n : Int), .pointer (some ⟨go, 0, none⟩), .pointer (some ⟨g7, 0, none⟩), .pointer (some ⟨g8, 0, none⟩), .int .i64 cd, u10, u11, u12, u13, u14, u15, u16, u17, u18, u19, u20, u21, u22, u23, u24, u25, u26, u27, u28, u29, u30, u31, u32, u33, u34, u35, u36, u37, u38, u39, u40, u41, u42, u43, u44, u45, u46, x47, x48, x49, x50, x51, x52, x53, x54, x55, x56, u57, u58, u59, u60, u61, u62, u63, u64, u65, u66, u67, u68, u69, u70, u71, u72, u73, u74, u75, u76, u77, u78, u79, u80, u81, u82, u83, u84, u85, u86, u87, u88, u89, u90, u91, u92, u93, u94, u95, u96, u97, u98, u99, u100, u101, u102, u103, u104, u105, u106, u107, u108, u109, u110, u111, u112, u113, u114, u115, u116, u117, u118, u119, u120, u121, u122, u123, u124, u125, u126, u127, u128, u129, u130, u131, u132, u133, u134, u135, u136, u137, u138, u139, u140], defers := ds } w') : Code.wp Try.prog (Code.region 8 ops true) Q { tmps := #[u0, u1, u2, .pointer (some ⟨F.g, 0, none⟩), u4, .int .i64 (n : Int), .pointer (some ⟨go, 0, none⟩), u7, u8, u9, u10, u11, u12, u13, u14, u15, u16, u17, u18, u19, u20, u21, u22, u23, u24, u25, u26, u27, u28, u29, u30, u31, u32, u33, u34, u35, u36, u37, u38, u39, u40, u41, u42, u43, u44, u45, u46, u47, u48, u49, u50, u51, u52, u53, u54, u55, u56, u57, u58, u59, u60, u61, u62, u63, u64, u65, u66, u67, u68, u69, u70, u71, u72, u73, u74, u75, u76, u77, u78, u79, u80, u81, u82, u83, u84, u85, u86, u87, u88, u89, u90, u91, u92, u93, u94, u95, u96, u97, u98, u99, u100, u101, u102, u103, u104, u105, u106, u107, u108, u109, u110, u111, u112, u113, u114, u115, u116, u117, u118, u119, u120, u121, u122, u123, u124, u125, u126, u127, u128, u129, u130, u131, u132, u133, u134, u135, u136, u137, u138, u139, u140], defers := ds } W := by
  simp [Try.f6, regOpsH] at hops
  subst hops
  have H := Lib.hid h
  have HX := Lib.hid hx
  have L1 := hS.ltg
  have L2 := hS.ltb
  have L3 := hS.ltk
  have BL6 := hB6.lt
  have S0 := Lib.hid hS
  have B0_6 := Lib.hid hB6
  clear h hx hS hB6
  refine' share2 (P := (fun A q7 q8 => St 71 A F bs2 ks ∧ Ch W A [F.gb] ∧ Bk A go 28 [.int .u32 a0, .int .u32 a1, .int .u32 a2, .int .u32 a3, .int .u32 a4, .int .u32 a5, .int .u32 a6, .int .u32 a7, .int .u32 a8, .int .u32 a9, .int .u32 a10, .int .u32 a11, .int .u32 a12, .int .u32 a13, .int .u32 a14, .int .u32 a15] ∧ Bk A q7 28 [.int .u32 0, .int .u32 0, .int .u32 0, .int .u32 0, .int .u32 0, .int .u32 0, .int .u32 0, .int .u32 0, .int .u32 0, .int .u32 0, .int .u32 0, .int .u32 0, .int .u32 0, .int .u32 0, .int .u32 0, .int .u32 0] ∧ Bk A q8 30 [.int .i64 0, .int .i64 0, .bool false, .bool false, .bool false, .int .i64 0, .int .i64 0, .int .i64 0, .int .i64 0, .int .i64 0] ∧ W.heap.size ≤ q7 ∧ W.heap.size ≤ q8 ∧ go ≠ q7 ∧ go ≠ q8 ∧ q7 ≠ q8 ∧ True)) (fun TL => ?tree) ?tail
  case tree =>
    obtain ⟨A, hWd⟩ : ∃ Wd, W.drew = Wd := ⟨_, rfl⟩
    have hsz : A.heap.size = W.heap.size := by rw [← hWd]; rfl
    have S : Hid (St 71 A F bs ks) := by rw [← hWd]; exact S0.out.drewN 1
    have C : Hid (Ch W A [F.gb]) := by rw [← hWd]; exact (Ch.refl W _).drewN 1
    have B6 : Hid (Bk A go 28 [.int .u32 a0, .int .u32 a1, .int .u32 a2, .int .u32 a3, .int .u32 a4, .int .u32 a5, .int .u32 a6, .int .u32 a7, .int .u32 a8, .int .u32 a9, .int .u32 a10, .int .u32 a11, .int .u32 a12, .int .u32 a13, .int .u32 a14, .int .u32 a15]) := by rw [← hWd]; exact B0_6.out.drewN 1
    refine wp_region_held_drew (S := (fun w' => Bk w' go 28 [.int .u32 a0, .int .u32 a1, .int .u32 a2, .int .u32 a3, .int .u32 a4, .int .u32 a5, .int .u32 a6, .int .u32 a7, .int .u32 a8, .int .u32 a9, .int .u32 a10, .int .u32 a11, .int .u32 a12, .int .u32 a13, .int .u32 a14, .int .u32 a15])) (by kernel_rfl) ?_ (fun hHeld => ?_)
    · (try dsimp only); (try rw [hWd]); exact B6.out
    rw [hWd]
    clear hWd hsz
    refine' takeL (i := 0) (v := _) rfl (by kernel_rfl) (by kernel_rfl) (by kernel_rfl) (fun c a w => hQ c a _ w rfl) (Or.inl ⟨by rfl, ?yy1⟩) (by assumption) ?rr1
    case yy1 => intro w hSw; (try dsimp only at hSw); go_simp; (try with_reducible rfl)
    try simp only [Act.put, List.setIfInBounds_toArray, List.set_cons_zero, List.set_cons_succ]
    refine' takeL (i := 2) (v := .agg #[.int .u32 a0, .int .u32 a1, .int .u32 a2, .int .u32 a3, .int .u32 a4, .int .u32 a5, .int .u32 a6, .int .u32 a7, .int .u32 a8, .int .u32 a9, .int .u32 a10, .int .u32 a11, .int .u32 a12, .int .u32 a13, .int .u32 a14, .int .u32 a15]) rfl (by kernel_rfl) (by kernel_rfl) (by kernel_rfl) (fun c a w => hQ c a _ w rfl) (Or.inl ⟨by rfl, ?yy2⟩) (by assumption) ?rr2
    case yy2 => intro w hSw; (try dsimp only at hSw); have q0 := hSw.cell (c := 0) rfl; have q1 := hSw.cell (c := 1) rfl; have q2 := hSw.cell (c := 2) rfl; have q3 := hSw.cell (c := 3) rfl; have q4 := hSw.cell (c := 4) rfl; have q5 := hSw.cell (c := 5) rfl; have q6 := hSw.cell (c := 6) rfl; have q7 := hSw.cell (c := 7) rfl; have q8 := hSw.cell (c := 8) rfl; have q9 := hSw.cell (c := 9) rfl; have q10 := hSw.cell (c := 10) rfl; have q11 := hSw.cell (c := 11) rfl; have q12 := hSw.cell (c := 12) rfl; have q13 := hSw.cell (c := 13) rfl; have q14 := hSw.cell (c := 14) rfl; have q15 := hSw.cell (c := 15) rfl; go_simp; (try with_reducible rfl)
    try simp only [Act.put, List.setIfInBounds_toArray, List.set_cons_zero, List.set_cons_succ]
    refine' takeL (i := 3) (v := _) rfl (by kernel_rfl) (by kernel_rfl) (by kernel_rfl) (fun c a w => hQ c a _ w rfl) (Or.inl ⟨by rfl, ?yy3⟩) (by assumption) ?rr3
    case yy3 => intro w hSw; (try dsimp only at hSw); go_simp; (try with_reducible rfl)
    try simp only [Act.put, List.setIfInBounds_toArray, List.set_cons_zero, List.set_cons_succ]
    refine' takeL (i := 4) (v := _) rfl (by kernel_rfl) (by kernel_rfl) (by kernel_rfl) (fun c a w => hQ c a _ w rfl) (Or.inl ⟨by rfl, ?yy4⟩) (by assumption) ?rr4
    case yy4 => intro w hSw; (try dsimp only at hSw); go_simp; (try with_reducible rfl)
    try simp only [Act.put, List.setIfInBounds_toArray, List.set_cons_zero, List.set_cons_succ]
    refine wpAnyH_ready (rs := [1, 10, 11]) (by kernel_rfl) (by simp) ?_
    refine consL rfl (fun K hK => ?_) ?_
    · go_simp
      go_at_call 17
      refine (ss_c 210 (n : Int) _ (by omega) (by omega)).mono ?_
      rintro e V ⟨rfl, hb⟩
      replace S := Lib.hid (S.out.belowS hb)
      replace C := Lib.hid (C.out.trans (Ch.of_below hb _))
      replace B6 := Lib.hid (B6.out.keep hb)
      clear hb hHeld
      clear A
      rename World => A
      go_wp2_with fail
      refine hK.out _ _ ?_ (fun hHeld => ?_)
      focus ((try dsimp only); exact B6.out)
      clear hK K
      try simp only [Act.put, List.setIfInBounds_toArray, List.set_cons_zero, List.set_cons_succ]
      refine wpAnyH_ready (rs := [5, 10, 11]) (by kernel_rfl) (by simp) ?_
      refine consL rfl (fun K hK => ?_) ?_
      · go_simp
        go_at_call 14
        refine (HX.out _ S.out).mono ?_
        rintro e V ⟨rfl, hs, hc⟩
        replace S := Lib.hid hs
        replace C := Lib.hid (C.out.trans (hc.mono (by simp)))
        replace B6 := Lib.hid (B6.out.ch hc (by simp; omega))
        clear hs hc hHeld
        clear A
        rename World => A
        go_wp2_with fail
        refine hK.out _ _ ?_ (fun hHeld => ?_)
        focus ((try dsimp only); exact B6.out)
        clear hK K
        try simp only [Act.put, List.setIfInBounds_toArray, List.set_cons_zero, List.set_cons_succ]
        refine' takeL (i := 6) (v := _) rfl (by kernel_rfl) (by kernel_rfl) (by kernel_rfl) (fun c a w => hQ c a _ w rfl) (Or.inl ⟨by rfl, ?yy5⟩) (by assumption) ?rr5
        case yy5 => intro w hSw; (try dsimp only at hSw); go_simp; (try with_reducible rfl)
        try simp only [Act.put, List.setIfInBounds_toArray, List.set_cons_zero, List.set_cons_succ]
        refine' takeL (i := 7) (v := _) rfl (by kernel_rfl) (by kernel_rfl) (by kernel_rfl) (fun c a w => hQ c a _ w rfl) (Or.inl ⟨by rfl, ?yy6⟩) (by assumption) ?rr6
        case yy6 => intro w hSw; (try dsimp only at hSw); go_simp; (try with_reducible rfl)
        try simp only [Act.put, List.setIfInBounds_toArray, List.set_cons_zero, List.set_cons_succ]
        refine' takeL (i := 8) (v := _) rfl (by kernel_rfl) (by kernel_rfl) (by kernel_rfl) (fun c a w => hQ c a _ w rfl) (Or.inl ⟨by rfl, ?yy7⟩) (by assumption) ?rr7
        case yy7 => intro w hSw; (try dsimp only at hSw); go_simp; (try with_reducible rfl)
        try simp only [Act.put, List.setIfInBounds_toArray, List.set_cons_zero, List.set_cons_succ]
        refine' takeL (i := 9) (v := _) rfl (by kernel_rfl) (by kernel_rfl) (by kernel_rfl) (fun c a w => hQ c a _ w rfl) (Or.inl ⟨by rfl, ?yy8⟩) (by assumption) ?rr8
        case yy8 => intro w hSw; (try dsimp only at hSw); go_simp; (try with_reducible rfl)
        try simp only [Act.put, List.setIfInBounds_toArray, List.set_cons_zero, List.set_cons_succ]
        refine wpAnyH_ready (rs := [10, 11]) (by kernel_rfl) (by simp) ?_
        refine consL rfl (fun K hK => ?_) ?_
        · go_simp
          obtain ⟨q7, hg⟩ : ∃ q, A.heap.size = q := ⟨_, rfl⟩
          have ge7 : W.heap.size ≤ q7 := by have := C.out.size; omega
          have ne7_6 : q7 ≠ go := by have := B6.out.lt; omega
          obtain ⟨V, hW⟩ : ∃ V, A.alloc (.cells #[.int .u32 0, .int .u32 0, .int .u32 0, .int .u32 0, .int .u32 0, .int .u32 0, .int .u32 0, .int .u32 0, .int .u32 0, .int .u32 0, .int .u32 0, .int .u32 0, .int .u32 0, .int .u32 0, .int .u32 0, .int .u32 0] 28) = V := ⟨_, rfl⟩
          have B7 : Hid (Bk V q7 28 [.int .u32 0, .int .u32 0, .int .u32 0, .int .u32 0, .int .u32 0, .int .u32 0, .int .u32 0, .int .u32 0, .int .u32 0, .int .u32 0, .int .u32 0, .int .u32 0, .int .u32 0, .int .u32 0, .int .u32 0, .int .u32 0]) := by rw [← hW, ← hg]; exact Bk.new A [.int .u32 0, .int .u32 0, .int .u32 0, .int .u32 0, .int .u32 0, .int .u32 0, .int .u32 0, .int .u32 0, .int .u32 0, .int .u32 0, .int .u32 0, .int .u32 0, .int .u32 0, .int .u32 0, .int .u32 0, .int .u32 0] 28
          replace S : Hid (St 71 V F bs2 ks) := by rw [← hW]; exact S.out.alloc _
          replace C : Hid (Ch W V [F.gb]) := by rw [← hW]; exact C.out.alloc _
          replace B6 : Hid (Bk V go 28 [.int .u32 a0, .int .u32 a1, .int .u32 a2, .int .u32 a3, .int .u32 a4, .int .u32 a5, .int .u32 a6, .int .u32 a7, .int .u32 a8, .int .u32 a9, .int .u32 a10, .int .u32 a11, .int .u32 a12, .int .u32 a13, .int .u32 a14, .int .u32 a15]) := by rw [← hW]; exact B6.out.alloc _
          rw [hW]
          try rw [hg]
          clear hW hg hHeld
          clear A
          rename World => A
          refine hK.out _ _ ?_ (fun hHeld => ?_)
          focus ((try dsimp only); exact B6.out)
          clear hK K
          try simp only [Act.put, List.setIfInBounds_toArray, List.set_cons_zero, List.set_cons_succ]
          refine wpAnyH_ready (rs := [11]) (by kernel_rfl) (by simp) ?_
          refine consL rfl (fun K hK => ?_) AllReadyH.nil
          go_simp
          obtain ⟨q8, hg⟩ : ∃ q, A.heap.size = q := ⟨_, rfl⟩
          have ge8 : W.heap.size ≤ q8 := by have := C.out.size; omega
          have ne8_6 : q8 ≠ go := by have := B6.out.lt; omega
          have ne8_7 : q8 ≠ q7 := by have := B7.out.lt; omega
          obtain ⟨V, hW⟩ : ∃ V, A.alloc (.cells #[.int .i64 0, .int .i64 0, .bool false, .bool false, .bool false, .int .i64 0, .int .i64 0, .int .i64 0, .int .i64 0, .int .i64 0] 30) = V := ⟨_, rfl⟩
          have B8 : Hid (Bk V q8 30 [.int .i64 0, .int .i64 0, .bool false, .bool false, .bool false, .int .i64 0, .int .i64 0, .int .i64 0, .int .i64 0, .int .i64 0]) := by rw [← hW, ← hg]; exact Bk.new A [.int .i64 0, .int .i64 0, .bool false, .bool false, .bool false, .int .i64 0, .int .i64 0, .int .i64 0, .int .i64 0, .int .i64 0] 30
          replace S : Hid (St 71 V F bs2 ks) := by rw [← hW]; exact S.out.alloc _
          replace C : Hid (Ch W V [F.gb]) := by rw [← hW]; exact C.out.alloc _
          replace B6 : Hid (Bk V go 28 [.int .u32 a0, .int .u32 a1, .int .u32 a2, .int .u32 a3, .int .u32 a4, .int .u32 a5, .int .u32 a6, .int .u32 a7, .int .u32 a8, .int .u32 a9, .int .u32 a10, .int .u32 a11, .int .u32 a12, .int .u32 a13, .int .u32 a14, .int .u32 a15]) := by rw [← hW]; exact B6.out.alloc _
          replace B7 : Hid (Bk V q7 28 [.int .u32 0, .int .u32 0, .int .u32 0, .int .u32 0, .int .u32 0, .int .u32 0, .int .u32 0, .int .u32 0, .int .u32 0, .int .u32 0, .int .u32 0, .int .u32 0, .int .u32 0, .int .u32 0, .int .u32 0, .int .u32 0]) := by rw [← hW]; exact B7.out.alloc _
          rw [hW]
          try rw [hg]
          clear hW hg hHeld
          clear A
          rename World => A
          refine hK.out _ _ ?_ (fun hHeld => ?_)
          focus ((try dsimp only); exact B6.out)
          clear hK K
          try simp only [Act.put, List.setIfInBounds_toArray, List.set_cons_zero, List.set_cons_succ]
          exact TL A q7 q8 ⟨S.out, C.out, B6.out, B7.out, B8.out, ge7, ge8, by omega, by omega, by omega, trivial⟩
        refine consL rfl (fun K hK => ?_) AllReadyH.nil
        go_simp
        obtain ⟨q8, hg⟩ : ∃ q, A.heap.size = q := ⟨_, rfl⟩
        have ge8 : W.heap.size ≤ q8 := by have := C.out.size; omega
        have ne8_6 : q8 ≠ go := by have := B6.out.lt; omega
        obtain ⟨V, hW⟩ : ∃ V, A.alloc (.cells #[.int .i64 0, .int .i64 0, .bool false, .bool false, .bool false, .int .i64 0, .int .i64 0, .int .i64 0, .int .i64 0, .int .i64 0] 30) = V := ⟨_, rfl⟩
        have B8 : Hid (Bk V q8 30 [.int .i64 0, .int .i64 0, .bool false, .bool false, .bool false, .int .i64 0, .int .i64 0, .int .i64 0, .int .i64 0, .int .i64 0]) := by rw [← hW, ← hg]; exact Bk.new A [.int .i64 0, .int .i64 0, .bool false, .bool false, .bool false, .int .i64 0, .int .i64 0, .int .i64 0, .int .i64 0, .int .i64 0] 30
        replace S : Hid (St 71 V F bs2 ks) := by rw [← hW]; exact S.out.alloc _
        replace C : Hid (Ch W V [F.gb]) := by rw [← hW]; exact C.out.alloc _
        replace B6 : Hid (Bk V go 28 [.int .u32 a0, .int .u32 a1, .int .u32 a2, .int .u32 a3, .int .u32 a4, .int .u32 a5, .int .u32 a6, .int .u32 a7, .int .u32 a8, .int .u32 a9, .int .u32 a10, .int .u32 a11, .int .u32 a12, .int .u32 a13, .int .u32 a14, .int .u32 a15]) := by rw [← hW]; exact B6.out.alloc _
        rw [hW]
        try rw [hg]
        clear hW hg hHeld
        clear A
        rename World => A
        refine hK.out _ _ ?_ (fun hHeld => ?_)
        focus ((try dsimp only); exact B6.out)
        clear hK K
        try simp only [Act.put, List.setIfInBounds_toArray, List.set_cons_zero, List.set_cons_succ]
        refine wpAnyH_ready (rs := [10]) (by kernel_rfl) (by simp) ?_
        refine consL rfl (fun K hK => ?_) AllReadyH.nil
        go_simp
        obtain ⟨q7, hg⟩ : ∃ q, A.heap.size = q := ⟨_, rfl⟩
        have ge7 : W.heap.size ≤ q7 := by have := C.out.size; omega
        have ne7_6 : q7 ≠ go := by have := B6.out.lt; omega
        have ne7_8 : q7 ≠ q8 := by have := B8.out.lt; omega
        obtain ⟨V, hW⟩ : ∃ V, A.alloc (.cells #[.int .u32 0, .int .u32 0, .int .u32 0, .int .u32 0, .int .u32 0, .int .u32 0, .int .u32 0, .int .u32 0, .int .u32 0, .int .u32 0, .int .u32 0, .int .u32 0, .int .u32 0, .int .u32 0, .int .u32 0, .int .u32 0] 28) = V := ⟨_, rfl⟩
        have B7 : Hid (Bk V q7 28 [.int .u32 0, .int .u32 0, .int .u32 0, .int .u32 0, .int .u32 0, .int .u32 0, .int .u32 0, .int .u32 0, .int .u32 0, .int .u32 0, .int .u32 0, .int .u32 0, .int .u32 0, .int .u32 0, .int .u32 0, .int .u32 0]) := by rw [← hW, ← hg]; exact Bk.new A [.int .u32 0, .int .u32 0, .int .u32 0, .int .u32 0, .int .u32 0, .int .u32 0, .int .u32 0, .int .u32 0, .int .u32 0, .int .u32 0, .int .u32 0, .int .u32 0, .int .u32 0, .int .u32 0, .int .u32 0, .int .u32 0] 28
        replace S : Hid (St 71 V F bs2 ks) := by rw [← hW]; exact S.out.alloc _
        replace C : Hid (Ch W V [F.gb]) := by rw [← hW]; exact C.out.alloc _
        replace B6 : Hid (Bk V go 28 [.int .u32 a0, .int .u32 a1, .int .u32 a2, .int .u32 a3, .int .u32 a4, .int .u32 a5, .int .u32 a6, .int .u32 a7, .int .u32 a8, .int .u32 a9, .int .u32 a10, .int .u32 a11, .int .u32 a12, .int .u32 a13, .int .u32 a14, .int .u32 a15]) := by rw [← hW]; exact B6.out.alloc _
        replace B8 : Hid (Bk V q8 30 [.int .i64 0, .int .i64 0, .bool false, .bool false, .bool false, .int .i64 0, .int .i64 0, .int .i64 0, .int .i64 0, .int .i64 0]) := by rw [← hW]; exact B8.out.alloc _
        rw [hW]
        try rw [hg]
        clear hW hg hHeld
        clear A
        rename World => A
        refine hK.out _ _ ?_ (fun hHeld => ?_)
        focus ((try dsimp only); exact B6.out)
        clear hK K
        try simp only [Act.put, List.setIfInBounds_toArray, List.set_cons_zero, List.set_cons_succ]
        exact TL A q7 q8 ⟨S.out, C.out, B6.out, B7.out, B8.out, ge7, ge8, by omega, by omega, by omega, trivial⟩
      refine consL rfl (fun K hK => ?_) ?_
      · go_simp
        obtain ⟨q7, hg⟩ : ∃ q, A.heap.size = q := ⟨_, rfl⟩
        have ge7 : W.heap.size ≤ q7 := by have := C.out.size; omega
        have ne7_6 : q7 ≠ go := by have := B6.out.lt; omega
        obtain ⟨V, hW⟩ : ∃ V, A.alloc (.cells #[.int .u32 0, .int .u32 0, .int .u32 0, .int .u32 0, .int .u32 0, .int .u32 0, .int .u32 0, .int .u32 0, .int .u32 0, .int .u32 0, .int .u32 0, .int .u32 0, .int .u32 0, .int .u32 0, .int .u32 0, .int .u32 0] 28) = V := ⟨_, rfl⟩
        have B7 : Hid (Bk V q7 28 [.int .u32 0, .int .u32 0, .int .u32 0, .int .u32 0, .int .u32 0, .int .u32 0, .int .u32 0, .int .u32 0, .int .u32 0, .int .u32 0, .int .u32 0, .int .u32 0, .int .u32 0, .int .u32 0, .int .u32 0, .int .u32 0]) := by rw [← hW, ← hg]; exact Bk.new A [.int .u32 0, .int .u32 0, .int .u32 0, .int .u32 0, .int .u32 0, .int .u32 0, .int .u32 0, .int .u32 0, .int .u32 0, .int .u32 0, .int .u32 0, .int .u32 0, .int .u32 0, .int .u32 0, .int .u32 0, .int .u32 0] 28
        replace S : Hid (St 71 V F bs ks) := by rw [← hW]; exact S.out.alloc _
        replace C : Hid (Ch W V [F.gb]) := by rw [← hW]; exact C.out.alloc _
        replace B6 : Hid (Bk V go 28 [.int .u32 a0, .int .u32 a1, .int .u32 a2, .int .u32 a3, .int .u32 a4, .int .u32 a5, .int .u32 a6, .int .u32 a7, .int .u32 a8, .int .u32 a9, .int .u32 a10, .int .u32 a11, .int .u32 a12, .int .u32 a13, .int .u32 a14, .int .u32 a15]) := by rw [← hW]; exact B6.out.alloc _
        rw [hW]
        try rw [hg]
        clear hW hg hHeld
        clear A
        rename World => A
        refine hK.out _ _ ?_ (fun hHeld => ?_)
        focus ((try dsimp only); exact B6.out)
        clear hK K
        try simp only [Act.put, List.setIfInBounds_toArray, List.set_cons_zero, List.set_cons_succ]
        refine wpAnyH_ready (rs := [5, 11]) (by kernel_rfl) (by simp) ?_
        refine consL rfl (fun K hK => ?_) ?_
        · go_simp
          go_at_call 14
          refine (HX.out _ S.out).mono ?_
          rintro e V ⟨rfl, hs, hc⟩
          replace S := Lib.hid hs
          replace C := Lib.hid (C.out.trans (hc.mono (by simp)))
          replace B6 := Lib.hid (B6.out.ch hc (by simp; omega))
          replace B7 := Lib.hid (B7.out.ch hc (by simp; omega))
          clear hs hc hHeld
          clear A
          rename World => A
          go_wp2_with fail
          refine hK.out _ _ ?_ (fun hHeld => ?_)
          focus ((try dsimp only); exact B6.out)
          clear hK K
          try simp only [Act.put, List.setIfInBounds_toArray, List.set_cons_zero, List.set_cons_succ]
          refine' takeL (i := 6) (v := _) rfl (by kernel_rfl) (by kernel_rfl) (by kernel_rfl) (fun c a w => hQ c a _ w rfl) (Or.inl ⟨by rfl, ?yy9⟩) (by assumption) ?rr9
          case yy9 => intro w hSw; (try dsimp only at hSw); go_simp; (try with_reducible rfl)
          try simp only [Act.put, List.setIfInBounds_toArray, List.set_cons_zero, List.set_cons_succ]
          refine' takeL (i := 7) (v := _) rfl (by kernel_rfl) (by kernel_rfl) (by kernel_rfl) (fun c a w => hQ c a _ w rfl) (Or.inl ⟨by rfl, ?yy10⟩) (by assumption) ?rr10
          case yy10 => intro w hSw; (try dsimp only at hSw); go_simp; (try with_reducible rfl)
          try simp only [Act.put, List.setIfInBounds_toArray, List.set_cons_zero, List.set_cons_succ]
          refine' takeL (i := 8) (v := _) rfl (by kernel_rfl) (by kernel_rfl) (by kernel_rfl) (fun c a w => hQ c a _ w rfl) (Or.inl ⟨by rfl, ?yy11⟩) (by assumption) ?rr11
          case yy11 => intro w hSw; (try dsimp only at hSw); go_simp; (try with_reducible rfl)
          try simp only [Act.put, List.setIfInBounds_toArray, List.set_cons_zero, List.set_cons_succ]
          refine' takeL (i := 9) (v := _) rfl (by kernel_rfl) (by kernel_rfl) (by kernel_rfl) (fun c a w => hQ c a _ w rfl) (Or.inl ⟨by rfl, ?yy12⟩) (by assumption) ?rr12
          case yy12 => intro w hSw; (try dsimp only at hSw); go_simp; (try with_reducible rfl)
          try simp only [Act.put, List.setIfInBounds_toArray, List.set_cons_zero, List.set_cons_succ]
          refine wpAnyH_ready (rs := [11]) (by kernel_rfl) (by simp) ?_
          refine consL rfl (fun K hK => ?_) AllReadyH.nil
          go_simp
          obtain ⟨q8, hg⟩ : ∃ q, A.heap.size = q := ⟨_, rfl⟩
          have ge8 : W.heap.size ≤ q8 := by have := C.out.size; omega
          have ne8_6 : q8 ≠ go := by have := B6.out.lt; omega
          have ne8_7 : q8 ≠ q7 := by have := B7.out.lt; omega
          obtain ⟨V, hW⟩ : ∃ V, A.alloc (.cells #[.int .i64 0, .int .i64 0, .bool false, .bool false, .bool false, .int .i64 0, .int .i64 0, .int .i64 0, .int .i64 0, .int .i64 0] 30) = V := ⟨_, rfl⟩
          have B8 : Hid (Bk V q8 30 [.int .i64 0, .int .i64 0, .bool false, .bool false, .bool false, .int .i64 0, .int .i64 0, .int .i64 0, .int .i64 0, .int .i64 0]) := by rw [← hW, ← hg]; exact Bk.new A [.int .i64 0, .int .i64 0, .bool false, .bool false, .bool false, .int .i64 0, .int .i64 0, .int .i64 0, .int .i64 0, .int .i64 0] 30
          replace S : Hid (St 71 V F bs2 ks) := by rw [← hW]; exact S.out.alloc _
          replace C : Hid (Ch W V [F.gb]) := by rw [← hW]; exact C.out.alloc _
          replace B6 : Hid (Bk V go 28 [.int .u32 a0, .int .u32 a1, .int .u32 a2, .int .u32 a3, .int .u32 a4, .int .u32 a5, .int .u32 a6, .int .u32 a7, .int .u32 a8, .int .u32 a9, .int .u32 a10, .int .u32 a11, .int .u32 a12, .int .u32 a13, .int .u32 a14, .int .u32 a15]) := by rw [← hW]; exact B6.out.alloc _
          replace B7 : Hid (Bk V q7 28 [.int .u32 0, .int .u32 0, .int .u32 0, .int .u32 0, .int .u32 0, .int .u32 0, .int .u32 0, .int .u32 0, .int .u32 0, .int .u32 0, .int .u32 0, .int .u32 0, .int .u32 0, .int .u32 0, .int .u32 0, .int .u32 0]) := by rw [← hW]; exact B7.out.alloc _
          rw [hW]
          try rw [hg]
          clear hW hg hHeld
          clear A
          rename World => A
          refine hK.out _ _ ?_ (fun hHeld => ?_)
          focus ((try dsimp only); exact B6.out)
          clear hK K
          try simp only [Act.put, List.setIfInBounds_toArray, List.set_cons_zero, List.set_cons_succ]
          exact TL A q7 q8 ⟨S.out, C.out, B6.out, B7.out, B8.out, ge7, ge8, by omega, by omega, by omega, trivial⟩
        refine consL rfl (fun K hK => ?_) AllReadyH.nil
        go_simp
        obtain ⟨q8, hg⟩ : ∃ q, A.heap.size = q := ⟨_, rfl⟩
        have ge8 : W.heap.size ≤ q8 := by have := C.out.size; omega
        have ne8_6 : q8 ≠ go := by have := B6.out.lt; omega
        have ne8_7 : q8 ≠ q7 := by have := B7.out.lt; omega
        obtain ⟨V, hW⟩ : ∃ V, A.alloc (.cells #[.int .i64 0, .int .i64 0, .bool false, .bool false, .bool false, .int .i64 0, .int .i64 0, .int .i64 0, .int .i64 0, .int .i64 0] 30) = V := ⟨_, rfl⟩
        have B8 : Hid (Bk V q8 30 [.int .i64 0, .int .i64 0, .bool false, .bool false, .bool false, .int .i64 0, .int .i64 0, .int .i64 0, .int .i64 0, .int .i64 0]) := by rw [← hW, ← hg]; exact Bk.new A [.int .i64 0, .int .i64 0, .bool false, .bool false, .bool false, .int .i64 0, .int .i64 0, .int .i64 0, .int .i64 0, .int .i64 0] 30
        replace S : Hid (St 71 V F bs ks) := by rw [← hW]; exact S.out.alloc _
        replace C : Hid (Ch W V [F.gb]) := by rw [← hW]; exact C.out.alloc _
        replace B6 : Hid (Bk V go 28 [.int .u32 a0, .int .u32 a1, .int .u32 a2, .int .u32 a3, .int .u32 a4, .int .u32 a5, .int .u32 a6, .int .u32 a7, .int .u32 a8, .int .u32 a9, .int .u32 a10, .int .u32 a11, .int .u32 a12, .int .u32 a13, .int .u32 a14, .int .u32 a15]) := by rw [← hW]; exact B6.out.alloc _
        replace B7 : Hid (Bk V q7 28 [.int .u32 0, .int .u32 0, .int .u32 0, .int .u32 0, .int .u32 0, .int .u32 0, .int .u32 0, .int .u32 0, .int .u32 0, .int .u32 0, .int .u32 0, .int .u32 0, .int .u32 0, .int .u32 0, .int .u32 0, .int .u32 0]) := by rw [← hW]; exact B7.out.alloc _
        rw [hW]
        try rw [hg]
        clear hW hg hHeld
        clear A
        rename World => A
        refine hK.out _ _ ?_ (fun hHeld => ?_)
        focus ((try dsimp only); exact B6.out)
        clear hK K
        try simp only [Act.put, List.setIfInBounds_toArray, List.set_cons_zero, List.set_cons_succ]
        refine wpAnyH_ready (rs := [5]) (by kernel_rfl) (by simp) ?_
        refine consL rfl (fun K hK => ?_) AllReadyH.nil
        go_simp
        go_at_call 14
        refine (HX.out _ S.out).mono ?_
        rintro e V ⟨rfl, hs, hc⟩
        replace S := Lib.hid hs
        replace C := Lib.hid (C.out.trans (hc.mono (by simp)))
        replace B6 := Lib.hid (B6.out.ch hc (by simp; omega))
        replace B7 := Lib.hid (B7.out.ch hc (by simp; omega))
        replace B8 := Lib.hid (B8.out.ch hc (by simp; omega))
        clear hs hc hHeld
        clear A
        rename World => A
        go_wp2_with fail
        refine hK.out _ _ ?_ (fun hHeld => ?_)
        focus ((try dsimp only); exact B6.out)
        clear hK K
        try simp only [Act.put, List.setIfInBounds_toArray, List.set_cons_zero, List.set_cons_succ]
        refine' takeL (i := 6) (v := _) rfl (by kernel_rfl) (by kernel_rfl) (by kernel_rfl) (fun c a w => hQ c a _ w rfl) (Or.inl ⟨by rfl, ?yy13⟩) (by assumption) ?rr13
        case yy13 => intro w hSw; (try dsimp only at hSw); go_simp; (try with_reducible rfl)
        try simp only [Act.put, List.setIfInBounds_toArray, List.set_cons_zero, List.set_cons_succ]
        refine' takeL (i := 7) (v := _) rfl (by kernel_rfl) (by kernel_rfl) (by kernel_rfl) (fun c a w => hQ c a _ w rfl) (Or.inl ⟨by rfl, ?yy14⟩) (by assumption) ?rr14
        case yy14 => intro w hSw; (try dsimp only at hSw); go_simp; (try with_reducible rfl)
        try simp only [Act.put, List.setIfInBounds_toArray, List.set_cons_zero, List.set_cons_succ]
        refine' takeL (i := 8) (v := _) rfl (by kernel_rfl) (by kernel_rfl) (by kernel_rfl) (fun c a w => hQ c a _ w rfl) (Or.inl ⟨by rfl, ?yy15⟩) (by assumption) ?rr15
        case yy15 => intro w hSw; (try dsimp only at hSw); go_simp; (try with_reducible rfl)
        try simp only [Act.put, List.setIfInBounds_toArray, List.set_cons_zero, List.set_cons_succ]
        refine' takeL (i := 9) (v := _) rfl (by kernel_rfl) (by kernel_rfl) (by kernel_rfl) (fun c a w => hQ c a _ w rfl) (Or.inl ⟨by rfl, ?yy16⟩) (by assumption) ?rr16
        case yy16 => intro w hSw; (try dsimp only at hSw); go_simp; (try with_reducible rfl)
        try simp only [Act.put, List.setIfInBounds_toArray, List.set_cons_zero, List.set_cons_succ]
        exact TL A q7 q8 ⟨S.out, C.out, B6.out, B7.out, B8.out, ge7, ge8, by omega, by omega, by omega, trivial⟩
      refine consL rfl (fun K hK => ?_) AllReadyH.nil
      go_simp
      obtain ⟨q8, hg⟩ : ∃ q, A.heap.size = q := ⟨_, rfl⟩
      have ge8 : W.heap.size ≤ q8 := by have := C.out.size; omega
      have ne8_6 : q8 ≠ go := by have := B6.out.lt; omega
      obtain ⟨V, hW⟩ : ∃ V, A.alloc (.cells #[.int .i64 0, .int .i64 0, .bool false, .bool false, .bool false, .int .i64 0, .int .i64 0, .int .i64 0, .int .i64 0, .int .i64 0] 30) = V := ⟨_, rfl⟩
      have B8 : Hid (Bk V q8 30 [.int .i64 0, .int .i64 0, .bool false, .bool false, .bool false, .int .i64 0, .int .i64 0, .int .i64 0, .int .i64 0, .int .i64 0]) := by rw [← hW, ← hg]; exact Bk.new A [.int .i64 0, .int .i64 0, .bool false, .bool false, .bool false, .int .i64 0, .int .i64 0, .int .i64 0, .int .i64 0, .int .i64 0] 30
      replace S : Hid (St 71 V F bs ks) := by rw [← hW]; exact S.out.alloc _
      replace C : Hid (Ch W V [F.gb]) := by rw [← hW]; exact C.out.alloc _
      replace B6 : Hid (Bk V go 28 [.int .u32 a0, .int .u32 a1, .int .u32 a2, .int .u32 a3, .int .u32 a4, .int .u32 a5, .int .u32 a6, .int .u32 a7, .int .u32 a8, .int .u32 a9, .int .u32 a10, .int .u32 a11, .int .u32 a12, .int .u32 a13, .int .u32 a14, .int .u32 a15]) := by rw [← hW]; exact B6.out.alloc _
      rw [hW]
      try rw [hg]
      clear hW hg hHeld
      clear A
      rename World => A
      refine hK.out _ _ ?_ (fun hHeld => ?_)
      focus ((try dsimp only); exact B6.out)
      clear hK K
      try simp only [Act.put, List.setIfInBounds_toArray, List.set_cons_zero, List.set_cons_succ]
      refine wpAnyH_ready (rs := [5, 10]) (by kernel_rfl) (by simp) ?_
      refine consL rfl (fun K hK => ?_) ?_
      · go_simp
        go_at_call 14
        refine (HX.out _ S.out).mono ?_
        rintro e V ⟨rfl, hs, hc⟩
        replace S := Lib.hid hs
        replace C := Lib.hid (C.out.trans (hc.mono (by simp)))
        replace B6 := Lib.hid (B6.out.ch hc (by simp; omega))
        replace B8 := Lib.hid (B8.out.ch hc (by simp; omega))
        clear hs hc hHeld
        clear A
        rename World => A
        go_wp2_with fail
        refine hK.out _ _ ?_ (fun hHeld => ?_)
        focus ((try dsimp only); exact B6.out)
        clear hK K
        try simp only [Act.put, List.setIfInBounds_toArray, List.set_cons_zero, List.set_cons_succ]
        refine' takeL (i := 6) (v := _) rfl (by kernel_rfl) (by kernel_rfl) (by kernel_rfl) (fun c a w => hQ c a _ w rfl) (Or.inl ⟨by rfl, ?yy17⟩) (by assumption) ?rr17
        case yy17 => intro w hSw; (try dsimp only at hSw); go_simp; (try with_reducible rfl)
        try simp only [Act.put, List.setIfInBounds_toArray, List.set_cons_zero, List.set_cons_succ]
        refine' takeL (i := 7) (v := _) rfl (by kernel_rfl) (by kernel_rfl) (by kernel_rfl) (fun c a w => hQ c a _ w rfl) (Or.inl ⟨by rfl, ?yy18⟩) (by assumption) ?rr18
        case yy18 => intro w hSw; (try dsimp only at hSw); go_simp; (try with_reducible rfl)
        try simp only [Act.put, List.setIfInBounds_toArray, List.set_cons_zero, List.set_cons_succ]
        refine' takeL (i := 8) (v := _) rfl (by kernel_rfl) (by kernel_rfl) (by kernel_rfl) (fun c a w => hQ c a _ w rfl) (Or.inl ⟨by rfl, ?yy19⟩) (by assumption) ?rr19
        case yy19 => intro w hSw; (try dsimp only at hSw); go_simp; (try with_reducible rfl)
        try simp only [Act.put, List.setIfInBounds_toArray, List.set_cons_zero, List.set_cons_succ]
        refine' takeL (i := 9) (v := _) rfl (by kernel_rfl) (by kernel_rfl) (by kernel_rfl) (fun c a w => hQ c a _ w rfl) (Or.inl ⟨by rfl, ?yy20⟩) (by assumption) ?rr20
        case yy20 => intro w hSw; (try dsimp only at hSw); go_simp; (try with_reducible rfl)
        try simp only [Act.put, List.setIfInBounds_toArray, List.set_cons_zero, List.set_cons_succ]
        refine wpAnyH_ready (rs := [10]) (by kernel_rfl) (by simp) ?_
        refine consL rfl (fun K hK => ?_) AllReadyH.nil
        go_simp
        obtain ⟨q7, hg⟩ : ∃ q, A.heap.size = q := ⟨_, rfl⟩
        have ge7 : W.heap.size ≤ q7 := by have := C.out.size; omega
        have ne7_6 : q7 ≠ go := by have := B6.out.lt; omega
        have ne7_8 : q7 ≠ q8 := by have := B8.out.lt; omega
        obtain ⟨V, hW⟩ : ∃ V, A.alloc (.cells #[.int .u32 0, .int .u32 0, .int .u32 0, .int .u32 0, .int .u32 0, .int .u32 0, .int .u32 0, .int .u32 0, .int .u32 0, .int .u32 0, .int .u32 0, .int .u32 0, .int .u32 0, .int .u32 0, .int .u32 0, .int .u32 0] 28) = V := ⟨_, rfl⟩
        have B7 : Hid (Bk V q7 28 [.int .u32 0, .int .u32 0, .int .u32 0, .int .u32 0, .int .u32 0, .int .u32 0, .int .u32 0, .int .u32 0, .int .u32 0, .int .u32 0, .int .u32 0, .int .u32 0, .int .u32 0, .int .u32 0, .int .u32 0, .int .u32 0]) := by rw [← hW, ← hg]; exact Bk.new A [.int .u32 0, .int .u32 0, .int .u32 0, .int .u32 0, .int .u32 0, .int .u32 0, .int .u32 0, .int .u32 0, .int .u32 0, .int .u32 0, .int .u32 0, .int .u32 0, .int .u32 0, .int .u32 0, .int .u32 0, .int .u32 0] 28
        replace S : Hid (St 71 V F bs2 ks) := by rw [← hW]; exact S.out.alloc _
        replace C : Hid (Ch W V [F.gb]) := by rw [← hW]; exact C.out.alloc _
        replace B6 : Hid (Bk V go 28 [.int .u32 a0, .int .u32 a1, .int .u32 a2, .int .u32 a3, .int .u32 a4, .int .u32 a5, .int .u32 a6, .int .u32 a7, .int .u32 a8, .int .u32 a9, .int .u32 a10, .int .u32 a11, .int .u32 a12, .int .u32 a13, .int .u32 a14, .int .u32 a15]) := by rw [← hW]; exact B6.out.alloc _
        replace B8 : Hid (Bk V q8 30 [.int .i64 0, .int .i64 0, .bool false, .bool false, .bool false, .int .i64 0, .int .i64 0, .int .i64 0, .int .i64 0, .int .i64 0]) := by rw [← hW]; exact B8.out.alloc _
        rw [hW]
        try rw [hg]
        clear hW hg hHeld
        clear A
        rename World => A
        refine hK.out _ _ ?_ (fun hHeld => ?_)
        focus ((try dsimp only); exact B6.out)
        clear hK K
        try simp only [Act.put, List.setIfInBounds_toArray, List.set_cons_zero, List.set_cons_succ]
        exact TL A q7 q8 ⟨S.out, C.out, B6.out, B7.out, B8.out, ge7, ge8, by omega, by omega, by omega, trivial⟩
      refine consL rfl (fun K hK => ?_) AllReadyH.nil
      go_simp
      obtain ⟨q7, hg⟩ : ∃ q, A.heap.size = q := ⟨_, rfl⟩
      have ge7 : W.heap.size ≤ q7 := by have := C.out.size; omega
      have ne7_6 : q7 ≠ go := by have := B6.out.lt; omega
      have ne7_8 : q7 ≠ q8 := by have := B8.out.lt; omega
      obtain ⟨V, hW⟩ : ∃ V, A.alloc (.cells #[.int .u32 0, .int .u32 0, .int .u32 0, .int .u32 0, .int .u32 0, .int .u32 0, .int .u32 0, .int .u32 0, .int .u32 0, .int .u32 0, .int .u32 0, .int .u32 0, .int .u32 0, .int .u32 0, .int .u32 0, .int .u32 0] 28) = V := ⟨_, rfl⟩
      have B7 : Hid (Bk V q7 28 [.int .u32 0, .int .u32 0, .int .u32 0, .int .u32 0, .int .u32 0, .int .u32 0, .int .u32 0, .int .u32 0, .int .u32 0, .int .u32 0, .int .u32 0, .int .u32 0, .int .u32 0, .int .u32 0, .int .u32 0, .int .u32 0]) := by rw [← hW, ← hg]; exact Bk.new A [.int .u32 0, .int .u32 0, .int .u32 0, .int .u32 0, .int .u32 0, .int .u32 0, .int .u32 0, .int .u32 0, .int .u32 0, .int .u32 0, .int .u32 0, .int .u32 0, .int .u32 0, .int .u32 0, .int .u32 0, .int .u32 0] 28
      replace S : Hid (St 71 V F bs ks) := by rw [← hW]; exact S.out.alloc _
      replace C : Hid (Ch W V [F.gb]) := by rw [← hW]; exact C.out.alloc _
      replace B6 : Hid (Bk V go 28 [.int .u32 a0, .int .u32 a1, .int .u32 a2, .int .u32 a3, .int .u32 a4, .int .u32 a5, .int .u32 a6, .int .u32 a7, .int .u32 a8, .int .u32 a9, .int .u32 a10, .int .u32 a11, .int .u32 a12, .int .u32 a13, .int .u32 a14, .int .u32 a15]) := by rw [← hW]; exact B6.out.alloc _
      replace B8 : Hid (Bk V q8 30 [.int .i64 0, .int .i64 0, .bool false, .bool false, .bool false, .int .i64 0, .int .i64 0, .int .i64 0, .int .i64 0, .int .i64 0]) := by rw [← hW]; exact B8.out.alloc _
      rw [hW]
      try rw [hg]
      clear hW hg hHeld
      clear A
      rename World => A
      refine hK.out _ _ ?_ (fun hHeld => ?_)
      focus ((try dsimp only); exact B6.out)
      clear hK K
      try simp only [Act.put, List.setIfInBounds_toArray, List.set_cons_zero, List.set_cons_succ]
      refine wpAnyH_ready (rs := [5]) (by kernel_rfl) (by simp) ?_
      refine consL rfl (fun K hK => ?_) AllReadyH.nil
      go_simp
      go_at_call 14
      refine (HX.out _ S.out).mono ?_
      rintro e V ⟨rfl, hs, hc⟩
      replace S := Lib.hid hs
      replace C := Lib.hid (C.out.trans (hc.mono (by simp)))
      replace B6 := Lib.hid (B6.out.ch hc (by simp; omega))
      replace B8 := Lib.hid (B8.out.ch hc (by simp; omega))
      replace B7 := Lib.hid (B7.out.ch hc (by simp; omega))
      clear hs hc hHeld
      clear A
      rename World => A
      go_wp2_with fail
      refine hK.out _ _ ?_ (fun hHeld => ?_)
      focus ((try dsimp only); exact B6.out)
      clear hK K
      try simp only [Act.put, List.setIfInBounds_toArray, List.set_cons_zero, List.set_cons_succ]
      refine' takeL (i := 6) (v := _) rfl (by kernel_rfl) (by kernel_rfl) (by kernel_rfl) (fun c a w => hQ c a _ w rfl) (Or.inl ⟨by rfl, ?yy21⟩) (by assumption) ?rr21
      case yy21 => intro w hSw; (try dsimp only at hSw); go_simp; (try with_reducible rfl)
      try simp only [Act.put, List.setIfInBounds_toArray, List.set_cons_zero, List.set_cons_succ]
      refine' takeL (i := 7) (v := _) rfl (by kernel_rfl) (by kernel_rfl) (by kernel_rfl) (fun c a w => hQ c a _ w rfl) (Or.inl ⟨by rfl, ?yy22⟩) (by assumption) ?rr22
      case yy22 => intro w hSw; (try dsimp only at hSw); go_simp; (try with_reducible rfl)
      try simp only [Act.put, List.setIfInBounds_toArray, List.set_cons_zero, List.set_cons_succ]
      refine' takeL (i := 8) (v := _) rfl (by kernel_rfl) (by kernel_rfl) (by kernel_rfl) (fun c a w => hQ c a _ w rfl) (Or.inl ⟨by rfl, ?yy23⟩) (by assumption) ?rr23
      case yy23 => intro w hSw; (try dsimp only at hSw); go_simp; (try with_reducible rfl)
      try simp only [Act.put, List.setIfInBounds_toArray, List.set_cons_zero, List.set_cons_succ]
      refine' takeL (i := 9) (v := _) rfl (by kernel_rfl) (by kernel_rfl) (by kernel_rfl) (fun c a w => hQ c a _ w rfl) (Or.inl ⟨by rfl, ?yy24⟩) (by assumption) ?rr24
      case yy24 => intro w hSw; (try dsimp only at hSw); go_simp; (try with_reducible rfl)
      try simp only [Act.put, List.setIfInBounds_toArray, List.set_cons_zero, List.set_cons_succ]
      exact TL A q7 q8 ⟨S.out, C.out, B6.out, B7.out, B8.out, ge7, ge8, by omega, by omega, by omega, trivial⟩
    refine consL rfl (fun K hK => ?_) ?_
    · go_simp
      obtain ⟨q7, hg⟩ : ∃ q, A.heap.size = q := ⟨_, rfl⟩
      have ge7 : W.heap.size ≤ q7 := by have := C.out.size; omega
      have ne7_6 : q7 ≠ go := by have := B6.out.lt; omega
      obtain ⟨V, hW⟩ : ∃ V, A.alloc (.cells #[.int .u32 0, .int .u32 0, .int .u32 0, .int .u32 0, .int .u32 0, .int .u32 0, .int .u32 0, .int .u32 0, .int .u32 0, .int .u32 0, .int .u32 0, .int .u32 0, .int .u32 0, .int .u32 0, .int .u32 0, .int .u32 0] 28) = V := ⟨_, rfl⟩
      have B7 : Hid (Bk V q7 28 [.int .u32 0, .int .u32 0, .int .u32 0, .int .u32 0, .int .u32 0, .int .u32 0, .int .u32 0, .int .u32 0, .int .u32 0, .int .u32 0, .int .u32 0, .int .u32 0, .int .u32 0, .int .u32 0, .int .u32 0, .int .u32 0]) := by rw [← hW, ← hg]; exact Bk.new A [.int .u32 0, .int .u32 0, .int .u32 0, .int .u32 0, .int .u32 0, .int .u32 0, .int .u32 0, .int .u32 0, .int .u32 0, .int .u32 0, .int .u32 0, .int .u32 0, .int .u32 0, .int .u32 0, .int .u32 0, .int .u32 0] 28
      replace S : Hid (St 71 V F bs ks) := by rw [← hW]; exact S.out.alloc _
      replace C : Hid (Ch W V [F.gb]) := by rw [← hW]; exact C.out.alloc _
      replace B6 : Hid (Bk V go 28 [.int .u32 a0, .int .u32 a1, .int .u32 a2, .int .u32 a3, .int .u32 a4, .int .u32 a5, .int .u32 a6, .int .u32 a7, .int .u32 a8, .int .u32 a9, .int .u32 a10, .int .u32 a11, .int .u32 a12, .int .u32 a13, .int .u32 a14, .int .u32 a15]) := by rw [← hW]; exact B6.out.alloc _
      rw [hW]
      try rw [hg]
      clear hW hg hHeld
      clear A
      rename World => A
      refine hK.out _ _ ?_ (fun hHeld => ?_)
      focus ((try dsimp only); exact B6.out)
      clear hK K
      try simp only [Act.put, List.setIfInBounds_toArray, List.set_cons_zero, List.set_cons_succ]
      refine wpAnyH_ready (rs := [1, 11]) (by kernel_rfl) (by simp) ?_
      refine consL rfl (fun K hK => ?_) ?_
      · go_simp
        go_at_call 17
        refine (ss_c 210 (n : Int) _ (by omega) (by omega)).mono ?_
        rintro e V ⟨rfl, hb⟩
        replace S := Lib.hid (S.out.belowS hb)
        replace C := Lib.hid (C.out.trans (Ch.of_below hb _))
        replace B6 := Lib.hid (B6.out.keep hb)
        replace B7 := Lib.hid (B7.out.keep hb)
        clear hb hHeld
        clear A
        rename World => A
        go_wp2_with fail
        refine hK.out _ _ ?_ (fun hHeld => ?_)
        focus ((try dsimp only); exact B6.out)
        clear hK K
        try simp only [Act.put, List.setIfInBounds_toArray, List.set_cons_zero, List.set_cons_succ]
        refine wpAnyH_ready (rs := [5, 11]) (by kernel_rfl) (by simp) ?_
        refine consL rfl (fun K hK => ?_) ?_
        · go_simp
          go_at_call 14
          refine (HX.out _ S.out).mono ?_
          rintro e V ⟨rfl, hs, hc⟩
          replace S := Lib.hid hs
          replace C := Lib.hid (C.out.trans (hc.mono (by simp)))
          replace B6 := Lib.hid (B6.out.ch hc (by simp; omega))
          replace B7 := Lib.hid (B7.out.ch hc (by simp; omega))
          clear hs hc hHeld
          clear A
          rename World => A
          go_wp2_with fail
          refine hK.out _ _ ?_ (fun hHeld => ?_)
          focus ((try dsimp only); exact B6.out)
          clear hK K
          try simp only [Act.put, List.setIfInBounds_toArray, List.set_cons_zero, List.set_cons_succ]
          refine' takeL (i := 6) (v := _) rfl (by kernel_rfl) (by kernel_rfl) (by kernel_rfl) (fun c a w => hQ c a _ w rfl) (Or.inl ⟨by rfl, ?yy25⟩) (by assumption) ?rr25
          case yy25 => intro w hSw; (try dsimp only at hSw); go_simp; (try with_reducible rfl)
          try simp only [Act.put, List.setIfInBounds_toArray, List.set_cons_zero, List.set_cons_succ]
          refine' takeL (i := 7) (v := _) rfl (by kernel_rfl) (by kernel_rfl) (by kernel_rfl) (fun c a w => hQ c a _ w rfl) (Or.inl ⟨by rfl, ?yy26⟩) (by assumption) ?rr26
          case yy26 => intro w hSw; (try dsimp only at hSw); go_simp; (try with_reducible rfl)
          try simp only [Act.put, List.setIfInBounds_toArray, List.set_cons_zero, List.set_cons_succ]
          refine' takeL (i := 8) (v := _) rfl (by kernel_rfl) (by kernel_rfl) (by kernel_rfl) (fun c a w => hQ c a _ w rfl) (Or.inl ⟨by rfl, ?yy27⟩) (by assumption) ?rr27
          case yy27 => intro w hSw; (try dsimp only at hSw); go_simp; (try with_reducible rfl)
          try simp only [Act.put, List.setIfInBounds_toArray, List.set_cons_zero, List.set_cons_succ]
          refine' takeL (i := 9) (v := _) rfl (by kernel_rfl) (by kernel_rfl) (by kernel_rfl) (fun c a w => hQ c a _ w rfl) (Or.inl ⟨by rfl, ?yy28⟩) (by assumption) ?rr28
          case yy28 => intro w hSw; (try dsimp only at hSw); go_simp; (try with_reducible rfl)
          try simp only [Act.put, List.setIfInBounds_toArray, List.set_cons_zero, List.set_cons_succ]
          refine wpAnyH_ready (rs := [11]) (by kernel_rfl) (by simp) ?_
          refine consL rfl (fun K hK => ?_) AllReadyH.nil
          go_simp
          obtain ⟨q8, hg⟩ : ∃ q, A.heap.size = q := ⟨_, rfl⟩
          have ge8 : W.heap.size ≤ q8 := by have := C.out.size; omega
          have ne8_6 : q8 ≠ go := by have := B6.out.lt; omega
          have ne8_7 : q8 ≠ q7 := by have := B7.out.lt; omega
          obtain ⟨V, hW⟩ : ∃ V, A.alloc (.cells #[.int .i64 0, .int .i64 0, .bool false, .bool false, .bool false, .int .i64 0, .int .i64 0, .int .i64 0, .int .i64 0, .int .i64 0] 30) = V := ⟨_, rfl⟩
          have B8 : Hid (Bk V q8 30 [.int .i64 0, .int .i64 0, .bool false, .bool false, .bool false, .int .i64 0, .int .i64 0, .int .i64 0, .int .i64 0, .int .i64 0]) := by rw [← hW, ← hg]; exact Bk.new A [.int .i64 0, .int .i64 0, .bool false, .bool false, .bool false, .int .i64 0, .int .i64 0, .int .i64 0, .int .i64 0, .int .i64 0] 30
          replace S : Hid (St 71 V F bs2 ks) := by rw [← hW]; exact S.out.alloc _
          replace C : Hid (Ch W V [F.gb]) := by rw [← hW]; exact C.out.alloc _
          replace B6 : Hid (Bk V go 28 [.int .u32 a0, .int .u32 a1, .int .u32 a2, .int .u32 a3, .int .u32 a4, .int .u32 a5, .int .u32 a6, .int .u32 a7, .int .u32 a8, .int .u32 a9, .int .u32 a10, .int .u32 a11, .int .u32 a12, .int .u32 a13, .int .u32 a14, .int .u32 a15]) := by rw [← hW]; exact B6.out.alloc _
          replace B7 : Hid (Bk V q7 28 [.int .u32 0, .int .u32 0, .int .u32 0, .int .u32 0, .int .u32 0, .int .u32 0, .int .u32 0, .int .u32 0, .int .u32 0, .int .u32 0, .int .u32 0, .int .u32 0, .int .u32 0, .int .u32 0, .int .u32 0, .int .u32 0]) := by rw [← hW]; exact B7.out.alloc _
          rw [hW]
          try rw [hg]
          clear hW hg hHeld
          clear A
          rename World => A
          refine hK.out _ _ ?_ (fun hHeld => ?_)
          focus ((try dsimp only); exact B6.out)
          clear hK K
          try simp only [Act.put, List.setIfInBounds_toArray, List.set_cons_zero, List.set_cons_succ]
          exact TL A q7 q8 ⟨S.out, C.out, B6.out, B7.out, B8.out, ge7, ge8, by omega, by omega, by omega, trivial⟩
        refine consL rfl (fun K hK => ?_) AllReadyH.nil
        go_simp
        obtain ⟨q8, hg⟩ : ∃ q, A.heap.size = q := ⟨_, rfl⟩
        have ge8 : W.heap.size ≤ q8 := by have := C.out.size; omega
        have ne8_6 : q8 ≠ go := by have := B6.out.lt; omega
        have ne8_7 : q8 ≠ q7 := by have := B7.out.lt; omega
        obtain ⟨V, hW⟩ : ∃ V, A.alloc (.cells #[.int .i64 0, .int .i64 0, .bool false, .bool false, .bool false, .int .i64 0, .int .i64 0, .int .i64 0, .int .i64 0, .int .i64 0] 30) = V := ⟨_, rfl⟩
        have B8 : Hid (Bk V q8 30 [.int .i64 0, .int .i64 0, .bool false, .bool false, .bool false, .int .i64 0, .int .i64 0, .int .i64 0, .int .i64 0, .int .i64 0]) := by rw [← hW, ← hg]; exact Bk.new A [.int .i64 0, .int .i64 0, .bool false, .bool false, .bool false, .int .i64 0, .int .i64 0, .int .i64 0, .int .i64 0, .int .i64 0] 30
        replace S : Hid (St 71 V F bs ks) := by rw [← hW]; exact S.out.alloc _
        replace C : Hid (Ch W V [F.gb]) := by rw [← hW]; exact C.out.alloc _
        replace B6 : Hid (Bk V go 28 [.int .u32 a0, .int .u32 a1, .int .u32 a2, .int .u32 a3, .int .u32 a4, .int .u32 a5, .int .u32 a6, .int .u32 a7, .int .u32 a8, .int .u32 a9, .int .u32 a10, .int .u32 a11, .int .u32 a12, .int .u32 a13, .int .u32 a14, .int .u32 a15]) := by rw [← hW]; exact B6.out.alloc _
        replace B7 : Hid (Bk V q7 28 [.int .u32 0, .int .u32 0, .int .u32 0, .int .u32 0, .int .u32 0, .int .u32 0, .int .u32 0, .int .u32 0, .int .u32 0, .int .u32 0, .int .u32 0, .int .u32 0, .int .u32 0, .int .u32 0, .int .u32 0, .int .u32 0]) := by rw [← hW]; exact B7.out.alloc _
        rw [hW]
        try rw [hg]
        clear hW hg hHeld
        clear A
        rename World => A
        refine hK.out _ _ ?_ (fun hHeld => ?_)
        focus ((try dsimp only); exact B6.out)
        clear hK K
        try simp only [Act.put, List.setIfInBounds_toArray, List.set_cons_zero, List.set_cons_succ]
        refine wpAnyH_ready (rs := [5]) (by kernel_rfl) (by simp) ?_
        refine consL rfl (fun K hK => ?_) AllReadyH.nil
        go_simp
        go_at_call 14
        refine (HX.out _ S.out).mono ?_
        rintro e V ⟨rfl, hs, hc⟩
        replace S := Lib.hid hs
        replace C := Lib.hid (C.out.trans (hc.mono (by simp)))
        replace B6 := Lib.hid (B6.out.ch hc (by simp; omega))
        replace B7 := Lib.hid (B7.out.ch hc (by simp; omega))
        replace B8 := Lib.hid (B8.out.ch hc (by simp; omega))
        clear hs hc hHeld
        clear A
        rename World => A
        go_wp2_with fail
        refine hK.out _ _ ?_ (fun hHeld => ?_)
        focus ((try dsimp only); exact B6.out)
        clear hK K
        try simp only [Act.put, List.setIfInBounds_toArray, List.set_cons_zero, List.set_cons_succ]
        refine' takeL (i := 6) (v := _) rfl (by kernel_rfl) (by kernel_rfl) (by kernel_rfl) (fun c a w => hQ c a _ w rfl) (Or.inl ⟨by rfl, ?yy29⟩) (by assumption) ?rr29
        case yy29 => intro w hSw; (try dsimp only at hSw); go_simp; (try with_reducible rfl)
        try simp only [Act.put, List.setIfInBounds_toArray, List.set_cons_zero, List.set_cons_succ]
        refine' takeL (i := 7) (v := _) rfl (by kernel_rfl) (by kernel_rfl) (by kernel_rfl) (fun c a w => hQ c a _ w rfl) (Or.inl ⟨by rfl, ?yy30⟩) (by assumption) ?rr30
        case yy30 => intro w hSw; (try dsimp only at hSw); go_simp; (try with_reducible rfl)
        try simp only [Act.put, List.setIfInBounds_toArray, List.set_cons_zero, List.set_cons_succ]
        refine' takeL (i := 8) (v := _) rfl (by kernel_rfl) (by kernel_rfl) (by kernel_rfl) (fun c a w => hQ c a _ w rfl) (Or.inl ⟨by rfl, ?yy31⟩) (by assumption) ?rr31
        case yy31 => intro w hSw; (try dsimp only at hSw); go_simp; (try with_reducible rfl)
        try simp only [Act.put, List.setIfInBounds_toArray, List.set_cons_zero, List.set_cons_succ]
        refine' takeL (i := 9) (v := _) rfl (by kernel_rfl) (by kernel_rfl) (by kernel_rfl) (fun c a w => hQ c a _ w rfl) (Or.inl ⟨by rfl, ?yy32⟩) (by assumption) ?rr32
        case yy32 => intro w hSw; (try dsimp only at hSw); go_simp; (try with_reducible rfl)
        try simp only [Act.put, List.setIfInBounds_toArray, List.set_cons_zero, List.set_cons_succ]
        exact TL A q7 q8 ⟨S.out, C.out, B6.out, B7.out, B8.out, ge7, ge8, by omega, by omega, by omega, trivial⟩
      refine consL rfl (fun K hK => ?_) AllReadyH.nil
      go_simp
      obtain ⟨q8, hg⟩ : ∃ q, A.heap.size = q := ⟨_, rfl⟩
      have ge8 : W.heap.size ≤ q8 := by have := C.out.size; omega
      have ne8_6 : q8 ≠ go := by have := B6.out.lt; omega
      have ne8_7 : q8 ≠ q7 := by have := B7.out.lt; omega
      obtain ⟨V, hW⟩ : ∃ V, A.alloc (.cells #[.int .i64 0, .int .i64 0, .bool false, .bool false, .bool false, .int .i64 0, .int .i64 0, .int .i64 0, .int .i64 0, .int .i64 0] 30) = V := ⟨_, rfl⟩
      have B8 : Hid (Bk V q8 30 [.int .i64 0, .int .i64 0, .bool false, .bool false, .bool false, .int .i64 0, .int .i64 0, .int .i64 0, .int .i64 0, .int .i64 0]) := by rw [← hW, ← hg]; exact Bk.new A [.int .i64 0, .int .i64 0, .bool false, .bool false, .bool false, .int .i64 0, .int .i64 0, .int .i64 0, .int .i64 0, .int .i64 0] 30
      replace S : Hid (St 71 V F bs ks) := by rw [← hW]; exact S.out.alloc _
      replace C : Hid (Ch W V [F.gb]) := by rw [← hW]; exact C.out.alloc _
      replace B6 : Hid (Bk V go 28 [.int .u32 a0, .int .u32 a1, .int .u32 a2, .int .u32 a3, .int .u32 a4, .int .u32 a5, .int .u32 a6, .int .u32 a7, .int .u32 a8, .int .u32 a9, .int .u32 a10, .int .u32 a11, .int .u32 a12, .int .u32 a13, .int .u32 a14, .int .u32 a15]) := by rw [← hW]; exact B6.out.alloc _
      replace B7 : Hid (Bk V q7 28 [.int .u32 0, .int .u32 0, .int .u32 0, .int .u32 0, .int .u32 0, .int .u32 0, .int .u32 0, .int .u32 0, .int .u32 0, .int .u32 0, .int .u32 0, .int .u32 0, .int .u32 0, .int .u32 0, .int .u32 0, .int .u32 0]) := by rw [← hW]; exact B7.out.alloc _
      rw [hW]
      try rw [hg]
      clear hW hg hHeld
      clear A
      rename World => A
      refine hK.out _ _ ?_ (fun hHeld => ?_)
      focus ((try dsimp only); exact B6.out)
      clear hK K
      try simp only [Act.put, List.setIfInBounds_toArray, List.set_cons_zero, List.set_cons_succ]
      refine wpAnyH_ready (rs := [1]) (by kernel_rfl) (by simp) ?_
      refine consL rfl (fun K hK => ?_) AllReadyH.nil
      go_simp
      go_at_call 17
      refine (ss_c 210 (n : Int) _ (by omega) (by omega)).mono ?_
      rintro e V ⟨rfl, hb⟩
      replace S := Lib.hid (S.out.belowS hb)
      replace C := Lib.hid (C.out.trans (Ch.of_below hb _))
      replace B6 := Lib.hid (B6.out.keep hb)
      replace B7 := Lib.hid (B7.out.keep hb)
      replace B8 := Lib.hid (B8.out.keep hb)
      clear hb hHeld
      clear A
      rename World => A
      go_wp2_with fail
      refine hK.out _ _ ?_ (fun hHeld => ?_)
      focus ((try dsimp only); exact B6.out)
      clear hK K
      try simp only [Act.put, List.setIfInBounds_toArray, List.set_cons_zero, List.set_cons_succ]
      refine wpAnyH_ready (rs := [5]) (by kernel_rfl) (by simp) ?_
      refine consL rfl (fun K hK => ?_) AllReadyH.nil
      go_simp
      go_at_call 14
      refine (HX.out _ S.out).mono ?_
      rintro e V ⟨rfl, hs, hc⟩
      replace S := Lib.hid hs
      replace C := Lib.hid (C.out.trans (hc.mono (by simp)))
      replace B6 := Lib.hid (B6.out.ch hc (by simp; omega))
      replace B7 := Lib.hid (B7.out.ch hc (by simp; omega))
      replace B8 := Lib.hid (B8.out.ch hc (by simp; omega))
      clear hs hc hHeld
      clear A
      rename World => A
      go_wp2_with fail
      refine hK.out _ _ ?_ (fun hHeld => ?_)
      focus ((try dsimp only); exact B6.out)
      clear hK K
      try simp only [Act.put, List.setIfInBounds_toArray, List.set_cons_zero, List.set_cons_succ]
      refine' takeL (i := 6) (v := _) rfl (by kernel_rfl) (by kernel_rfl) (by kernel_rfl) (fun c a w => hQ c a _ w rfl) (Or.inl ⟨by rfl, ?yy33⟩) (by assumption) ?rr33
      case yy33 => intro w hSw; (try dsimp only at hSw); go_simp; (try with_reducible rfl)
      try simp only [Act.put, List.setIfInBounds_toArray, List.set_cons_zero, List.set_cons_succ]
      refine' takeL (i := 7) (v := _) rfl (by kernel_rfl) (by kernel_rfl) (by kernel_rfl) (fun c a w => hQ c a _ w rfl) (Or.inl ⟨by rfl, ?yy34⟩) (by assumption) ?rr34
      case yy34 => intro w hSw; (try dsimp only at hSw); go_simp; (try with_reducible rfl)
      try simp only [Act.put, List.setIfInBounds_toArray, List.set_cons_zero, List.set_cons_succ]
      refine' takeL (i := 8) (v := _) rfl (by kernel_rfl) (by kernel_rfl) (by kernel_rfl) (fun c a w => hQ c a _ w rfl) (Or.inl ⟨by rfl, ?yy35⟩) (by assumption) ?rr35
      case yy35 => intro w hSw; (try dsimp only at hSw); go_simp; (try with_reducible rfl)
      try simp only [Act.put, List.setIfInBounds_toArray, List.set_cons_zero, List.set_cons_succ]
      refine' takeL (i := 9) (v := _) rfl (by kernel_rfl) (by kernel_rfl) (by kernel_rfl) (fun c a w => hQ c a _ w rfl) (Or.inl ⟨by rfl, ?yy36⟩) (by assumption) ?rr36
      case yy36 => intro w hSw; (try dsimp only at hSw); go_simp; (try with_reducible rfl)
      try simp only [Act.put, List.setIfInBounds_toArray, List.set_cons_zero, List.set_cons_succ]
      exact TL A q7 q8 ⟨S.out, C.out, B6.out, B7.out, B8.out, ge7, ge8, by omega, by omega, by omega, trivial⟩
    refine consL rfl (fun K hK => ?_) AllReadyH.nil
    go_simp
    obtain ⟨q8, hg⟩ : ∃ q, A.heap.size = q := ⟨_, rfl⟩
    have ge8 : W.heap.size ≤ q8 := by have := C.out.size; omega
    have ne8_6 : q8 ≠ go := by have := B6.out.lt; omega
    obtain ⟨V, hW⟩ : ∃ V, A.alloc (.cells #[.int .i64 0, .int .i64 0, .bool false, .bool false, .bool false, .int .i64 0, .int .i64 0, .int .i64 0, .int .i64 0, .int .i64 0] 30) = V := ⟨_, rfl⟩
    have B8 : Hid (Bk V q8 30 [.int .i64 0, .int .i64 0, .bool false, .bool false, .bool false, .int .i64 0, .int .i64 0, .int .i64 0, .int .i64 0, .int .i64 0]) := by rw [← hW, ← hg]; exact Bk.new A [.int .i64 0, .int .i64 0, .bool false, .bool false, .bool false, .int .i64 0, .int .i64 0, .int .i64 0, .int .i64 0, .int .i64 0] 30
    replace S : Hid (St 71 V F bs ks) := by rw [← hW]; exact S.out.alloc _
    replace C : Hid (Ch W V [F.gb]) := by rw [← hW]; exact C.out.alloc _
    replace B6 : Hid (Bk V go 28 [.int .u32 a0, .int .u32 a1, .int .u32 a2, .int .u32 a3, .int .u32 a4, .int .u32 a5, .int .u32 a6, .int .u32 a7, .int .u32 a8, .int .u32 a9, .int .u32 a10, .int .u32 a11, .int .u32 a12, .int .u32 a13, .int .u32 a14, .int .u32 a15]) := by rw [← hW]; exact B6.out.alloc _
    rw [hW]
    try rw [hg]
    clear hW hg hHeld
    clear A
    rename World => A
    refine hK.out _ _ ?_ (fun hHeld => ?_)
    focus ((try dsimp only); exact B6.out)
    clear hK K
    try simp only [Act.put, List.setIfInBounds_toArray, List.set_cons_zero, List.set_cons_succ]
    refine wpAnyH_ready (rs := [1, 10]) (by kernel_rfl) (by simp) ?_
    refine consL rfl (fun K hK => ?_) ?_
    · go_simp
      go_at_call 17
      refine (ss_c 210 (n : Int) _ (by omega) (by omega)).mono ?_
      rintro e V ⟨rfl, hb⟩
      replace S := Lib.hid (S.out.belowS hb)
      replace C := Lib.hid (C.out.trans (Ch.of_below hb _))
      replace B6 := Lib.hid (B6.out.keep hb)
      replace B8 := Lib.hid (B8.out.keep hb)
      clear hb hHeld
      clear A
      rename World => A
      go_wp2_with fail
      refine hK.out _ _ ?_ (fun hHeld => ?_)
      focus ((try dsimp only); exact B6.out)
      clear hK K
      try simp only [Act.put, List.setIfInBounds_toArray, List.set_cons_zero, List.set_cons_succ]
      refine wpAnyH_ready (rs := [5, 10]) (by kernel_rfl) (by simp) ?_
      refine consL rfl (fun K hK => ?_) ?_
      · go_simp
        go_at_call 14
        refine (HX.out _ S.out).mono ?_
        rintro e V ⟨rfl, hs, hc⟩
        replace S := Lib.hid hs
        replace C := Lib.hid (C.out.trans (hc.mono (by simp)))
        replace B6 := Lib.hid (B6.out.ch hc (by simp; omega))
        replace B8 := Lib.hid (B8.out.ch hc (by simp; omega))
        clear hs hc hHeld
        clear A
        rename World => A
        go_wp2_with fail
        refine hK.out _ _ ?_ (fun hHeld => ?_)
        focus ((try dsimp only); exact B6.out)
        clear hK K
        try simp only [Act.put, List.setIfInBounds_toArray, List.set_cons_zero, List.set_cons_succ]
        refine' takeL (i := 6) (v := _) rfl (by kernel_rfl) (by kernel_rfl) (by kernel_rfl) (fun c a w => hQ c a _ w rfl) (Or.inl ⟨by rfl, ?yy37⟩) (by assumption) ?rr37
        case yy37 => intro w hSw; (try dsimp only at hSw); go_simp; (try with_reducible rfl)
        try simp only [Act.put, List.setIfInBounds_toArray, List.set_cons_zero, List.set_cons_succ]
        refine' takeL (i := 7) (v := _) rfl (by kernel_rfl) (by kernel_rfl) (by kernel_rfl) (fun c a w => hQ c a _ w rfl) (Or.inl ⟨by rfl, ?yy38⟩) (by assumption) ?rr38
        case yy38 => intro w hSw; (try dsimp only at hSw); go_simp; (try with_reducible rfl)
        try simp only [Act.put, List.setIfInBounds_toArray, List.set_cons_zero, List.set_cons_succ]
        refine' takeL (i := 8) (v := _) rfl (by kernel_rfl) (by kernel_rfl) (by kernel_rfl) (fun c a w => hQ c a _ w rfl) (Or.inl ⟨by rfl, ?yy39⟩) (by assumption) ?rr39
        case yy39 => intro w hSw; (try dsimp only at hSw); go_simp; (try with_reducible rfl)
        try simp only [Act.put, List.setIfInBounds_toArray, List.set_cons_zero, List.set_cons_succ]
        refine' takeL (i := 9) (v := _) rfl (by kernel_rfl) (by kernel_rfl) (by kernel_rfl) (fun c a w => hQ c a _ w rfl) (Or.inl ⟨by rfl, ?yy40⟩) (by assumption) ?rr40
        case yy40 => intro w hSw; (try dsimp only at hSw); go_simp; (try with_reducible rfl)
        try simp only [Act.put, List.setIfInBounds_toArray, List.set_cons_zero, List.set_cons_succ]
        refine wpAnyH_ready (rs := [10]) (by kernel_rfl) (by simp) ?_
        refine consL rfl (fun K hK => ?_) AllReadyH.nil
        go_simp
        obtain ⟨q7, hg⟩ : ∃ q, A.heap.size = q := ⟨_, rfl⟩
        have ge7 : W.heap.size ≤ q7 := by have := C.out.size; omega
        have ne7_6 : q7 ≠ go := by have := B6.out.lt; omega
        have ne7_8 : q7 ≠ q8 := by have := B8.out.lt; omega
        obtain ⟨V, hW⟩ : ∃ V, A.alloc (.cells #[.int .u32 0, .int .u32 0, .int .u32 0, .int .u32 0, .int .u32 0, .int .u32 0, .int .u32 0, .int .u32 0, .int .u32 0, .int .u32 0, .int .u32 0, .int .u32 0, .int .u32 0, .int .u32 0, .int .u32 0, .int .u32 0] 28) = V := ⟨_, rfl⟩
        have B7 : Hid (Bk V q7 28 [.int .u32 0, .int .u32 0, .int .u32 0, .int .u32 0, .int .u32 0, .int .u32 0, .int .u32 0, .int .u32 0, .int .u32 0, .int .u32 0, .int .u32 0, .int .u32 0, .int .u32 0, .int .u32 0, .int .u32 0, .int .u32 0]) := by rw [← hW, ← hg]; exact Bk.new A [.int .u32 0, .int .u32 0, .int .u32 0, .int .u32 0, .int .u32 0, .int .u32 0, .int .u32 0, .int .u32 0, .int .u32 0, .int .u32 0, .int .u32 0, .int .u32 0, .int .u32 0, .int .u32 0, .int .u32 0, .int .u32 0] 28
        replace S : Hid (St 71 V F bs2 ks) := by rw [← hW]; exact S.out.alloc _
        replace C : Hid (Ch W V [F.gb]) := by rw [← hW]; exact C.out.alloc _
        replace B6 : Hid (Bk V go 28 [.int .u32 a0, .int .u32 a1, .int .u32 a2, .int .u32 a3, .int .u32 a4, .int .u32 a5, .int .u32 a6, .int .u32 a7, .int .u32 a8, .int .u32 a9, .int .u32 a10, .int .u32 a11, .int .u32 a12, .int .u32 a13, .int .u32 a14, .int .u32 a15]) := by rw [← hW]; exact B6.out.alloc _
        replace B8 : Hid (Bk V q8 30 [.int .i64 0, .int .i64 0, .bool false, .bool false, .bool false, .int .i64 0, .int .i64 0, .int .i64 0, .int .i64 0, .int .i64 0]) := by rw [← hW]; exact B8.out.alloc _
        rw [hW]
        try rw [hg]
        clear hW hg hHeld
        clear A
        rename World => A
        refine hK.out _ _ ?_ (fun hHeld => ?_)
        focus ((try dsimp only); exact B6.out)
        clear hK K
        try simp only [Act.put, List.setIfInBounds_toArray, List.set_cons_zero, List.set_cons_succ]
        exact TL A q7 q8 ⟨S.out, C.out, B6.out, B7.out, B8.out, ge7, ge8, by omega, by omega, by omega, trivial⟩
      refine consL rfl (fun K hK => ?_) AllReadyH.nil
      go_simp
      obtain ⟨q7, hg⟩ : ∃ q, A.heap.size = q := ⟨_, rfl⟩
      have ge7 : W.heap.size ≤ q7 := by have := C.out.size; omega
      have ne7_6 : q7 ≠ go := by have := B6.out.lt; omega
      have ne7_8 : q7 ≠ q8 := by have := B8.out.lt; omega
      obtain ⟨V, hW⟩ : ∃ V, A.alloc (.cells #[.int .u32 0, .int .u32 0, .int .u32 0, .int .u32 0, .int .u32 0, .int .u32 0, .int .u32 0, .int .u32 0, .int .u32 0, .int .u32 0, .int .u32 0, .int .u32 0, .int .u32 0, .int .u32 0, .int .u32 0, .int .u32 0] 28) = V := ⟨_, rfl⟩
      have B7 : Hid (Bk V q7 28 [.int .u32 0, .int .u32 0, .int .u32 0, .int .u32 0, .int .u32 0, .int .u32 0, .int .u32 0, .int .u32 0, .int .u32 0, .int .u32 0, .int .u32 0, .int .u32 0, .int .u32 0, .int .u32 0, .int .u32 0, .int .u32 0]) := by rw [← hW, ← hg]; exact Bk.new A [.int .u32 0, .int .u32 0, .int .u32 0, .int .u32 0, .int .u32 0, .int .u32 0, .int .u32 0, .int .u32 0, .int .u32 0, .int .u32 0, .int .u32 0, .int .u32 0, .int .u32 0, .int .u32 0, .int .u32 0, .int .u32 0] 28
      replace S : Hid (St 71 V F bs ks) := by rw [← hW]; exact S.out.alloc _
      replace C : Hid (Ch W V [F.gb]) := by rw [← hW]; exact C.out.alloc _
      replace B6 : Hid (Bk V go 28 [.int .u32 a0, .int .u32 a1, .int .u32 a2, .int .u32 a3, .int .u32 a4, .int .u32 a5, .int .u32 a6, .int .u32 a7, .int .u32 a8, .int .u32 a9, .int .u32 a10, .int .u32 a11, .int .u32 a12, .int .u32 a13, .int .u32 a14, .int .u32 a15]) := by rw [← hW]; exact B6.out.alloc _
      replace B8 : Hid (Bk V q8 30 [.int .i64 0, .int .i64 0, .bool false, .bool false, .bool false, .int .i64 0, .int .i64 0, .int .i64 0, .int .i64 0, .int .i64 0]) := by rw [← hW]; exact B8.out.alloc _
      rw [hW]
      try rw [hg]
      clear hW hg hHeld
      clear A
      rename World => A
      refine hK.out _ _ ?_ (fun hHeld => ?_)
      focus ((try dsimp only); exact B6.out)
      clear hK K
      try simp only [Act.put, List.setIfInBounds_toArray, List.set_cons_zero, List.set_cons_succ]
      refine wpAnyH_ready (rs := [5]) (by kernel_rfl) (by simp) ?_
      refine consL rfl (fun K hK => ?_) AllReadyH.nil
      go_simp
      go_at_call 14
      refine (HX.out _ S.out).mono ?_
      rintro e V ⟨rfl, hs, hc⟩
      replace S := Lib.hid hs
      replace C := Lib.hid (C.out.trans (hc.mono (by simp)))
      replace B6 := Lib.hid (B6.out.ch hc (by simp; omega))
      replace B8 := Lib.hid (B8.out.ch hc (by simp; omega))
      replace B7 := Lib.hid (B7.out.ch hc (by simp; omega))
      clear hs hc hHeld
      clear A
      rename World => A
      go_wp2_with fail
      refine hK.out _ _ ?_ (fun hHeld => ?_)
      focus ((try dsimp only); exact B6.out)
      clear hK K
      try simp only [Act.put, List.setIfInBounds_toArray, List.set_cons_zero, List.set_cons_succ]
      refine' takeL (i := 6) (v := _) rfl (by kernel_rfl) (by kernel_rfl) (by kernel_rfl) (fun c a w => hQ c a _ w rfl) (Or.inl ⟨by rfl, ?yy41⟩) (by assumption) ?rr41
      case yy41 => intro w hSw; (try dsimp only at hSw); go_simp; (try with_reducible rfl)
      try simp only [Act.put, List.setIfInBounds_toArray, List.set_cons_zero, List.set_cons_succ]
      refine' takeL (i := 7) (v := _) rfl (by kernel_rfl) (by kernel_rfl) (by kernel_rfl) (fun c a w => hQ c a _ w rfl) (Or.inl ⟨by rfl, ?yy42⟩) (by assumption) ?rr42
      case yy42 => intro w hSw; (try dsimp only at hSw); go_simp; (try with_reducible rfl)
      try simp only [Act.put, List.setIfInBounds_toArray, List.set_cons_zero, List.set_cons_succ]
      refine' takeL (i := 8) (v := _) rfl (by kernel_rfl) (by kernel_rfl) (by kernel_rfl) (fun c a w => hQ c a _ w rfl) (Or.inl ⟨by rfl, ?yy43⟩) (by assumption) ?rr43
      case yy43 => intro w hSw; (try dsimp only at hSw); go_simp; (try with_reducible rfl)
      try simp only [Act.put, List.setIfInBounds_toArray, List.set_cons_zero, List.set_cons_succ]
      refine' takeL (i := 9) (v := _) rfl (by kernel_rfl) (by kernel_rfl) (by kernel_rfl) (fun c a w => hQ c a _ w rfl) (Or.inl ⟨by rfl, ?yy44⟩) (by assumption) ?rr44
      case yy44 => intro w hSw; (try dsimp only at hSw); go_simp; (try with_reducible rfl)
      try simp only [Act.put, List.setIfInBounds_toArray, List.set_cons_zero, List.set_cons_succ]
      exact TL A q7 q8 ⟨S.out, C.out, B6.out, B7.out, B8.out, ge7, ge8, by omega, by omega, by omega, trivial⟩
    refine consL rfl (fun K hK => ?_) AllReadyH.nil
    go_simp
    obtain ⟨q7, hg⟩ : ∃ q, A.heap.size = q := ⟨_, rfl⟩
    have ge7 : W.heap.size ≤ q7 := by have := C.out.size; omega
    have ne7_6 : q7 ≠ go := by have := B6.out.lt; omega
    have ne7_8 : q7 ≠ q8 := by have := B8.out.lt; omega
    obtain ⟨V, hW⟩ : ∃ V, A.alloc (.cells #[.int .u32 0, .int .u32 0, .int .u32 0, .int .u32 0, .int .u32 0, .int .u32 0, .int .u32 0, .int .u32 0, .int .u32 0, .int .u32 0, .int .u32 0, .int .u32 0, .int .u32 0, .int .u32 0, .int .u32 0, .int .u32 0] 28) = V := ⟨_, rfl⟩
    have B7 : Hid (Bk V q7 28 [.int .u32 0, .int .u32 0, .int .u32 0, .int .u32 0, .int .u32 0, .int .u32 0, .int .u32 0, .int .u32 0, .int .u32 0, .int .u32 0, .int .u32 0, .int .u32 0, .int .u32 0, .int .u32 0, .int .u32 0, .int .u32 0]) := by rw [← hW, ← hg]; exact Bk.new A [.int .u32 0, .int .u32 0, .int .u32 0, .int .u32 0, .int .u32 0, .int .u32 0, .int .u32 0, .int .u32 0, .int .u32 0, .int .u32 0, .int .u32 0, .int .u32 0, .int .u32 0, .int .u32 0, .int .u32 0, .int .u32 0] 28
    replace S : Hid (St 71 V F bs ks) := by rw [← hW]; exact S.out.alloc _
    replace C : Hid (Ch W V [F.gb]) := by rw [← hW]; exact C.out.alloc _
    replace B6 : Hid (Bk V go 28 [.int .u32 a0, .int .u32 a1, .int .u32 a2, .int .u32 a3, .int .u32 a4, .int .u32 a5, .int .u32 a6, .int .u32 a7, .int .u32 a8, .int .u32 a9, .int .u32 a10, .int .u32 a11, .int .u32 a12, .int .u32 a13, .int .u32 a14, .int .u32 a15]) := by rw [← hW]; exact B6.out.alloc _
    replace B8 : Hid (Bk V q8 30 [.int .i64 0, .int .i64 0, .bool false, .bool false, .bool false, .int .i64 0, .int .i64 0, .int .i64 0, .int .i64 0, .int .i64 0]) := by rw [← hW]; exact B8.out.alloc _
    rw [hW]
    try rw [hg]
    clear hW hg hHeld
    clear A
    rename World => A
    refine hK.out _ _ ?_ (fun hHeld => ?_)
    focus ((try dsimp only); exact B6.out)
    clear hK K
    try simp only [Act.put, List.setIfInBounds_toArray, List.set_cons_zero, List.set_cons_succ]
    refine wpAnyH_ready (rs := [1]) (by kernel_rfl) (by simp) ?_
    refine consL rfl (fun K hK => ?_) AllReadyH.nil
    go_simp
    go_at_call 17
    refine (ss_c 210 (n : Int) _ (by omega) (by omega)).mono ?_
    rintro e V ⟨rfl, hb⟩
    replace S := Lib.hid (S.out.belowS hb)
    replace C := Lib.hid (C.out.trans (Ch.of_below hb _))
    replace B6 := Lib.hid (B6.out.keep hb)
    replace B8 := Lib.hid (B8.out.keep hb)
    replace B7 := Lib.hid (B7.out.keep hb)
    clear hb hHeld
    clear A
    rename World => A
    go_wp2_with fail
    refine hK.out _ _ ?_ (fun hHeld => ?_)
    focus ((try dsimp only); exact B6.out)
    clear hK K
    try simp only [Act.put, List.setIfInBounds_toArray, List.set_cons_zero, List.set_cons_succ]
    refine wpAnyH_ready (rs := [5]) (by kernel_rfl) (by simp) ?_
    refine consL rfl (fun K hK => ?_) AllReadyH.nil
    go_simp
    go_at_call 14
    refine (HX.out _ S.out).mono ?_
    rintro e V ⟨rfl, hs, hc⟩
    replace S := Lib.hid hs
    replace C := Lib.hid (C.out.trans (hc.mono (by simp)))
    replace B6 := Lib.hid (B6.out.ch hc (by simp; omega))
    replace B8 := Lib.hid (B8.out.ch hc (by simp; omega))
    replace B7 := Lib.hid (B7.out.ch hc (by simp; omega))
    clear hs hc hHeld
    clear A
    rename World => A
    go_wp2_with fail
    refine hK.out _ _ ?_ (fun hHeld => ?_)
    focus ((try dsimp only); exact B6.out)
    clear hK K
    try simp only [Act.put, List.setIfInBounds_toArray, List.set_cons_zero, List.set_cons_succ]
    refine' takeL (i := 6) (v := _) rfl (by kernel_rfl) (by kernel_rfl) (by kernel_rfl) (fun c a w => hQ c a _ w rfl) (Or.inl ⟨by rfl, ?yy45⟩) (by assumption) ?rr45
    case yy45 => intro w hSw; (try dsimp only at hSw); go_simp; (try with_reducible rfl)
    try simp only [Act.put, List.setIfInBounds_toArray, List.set_cons_zero, List.set_cons_succ]
    refine' takeL (i := 7) (v := _) rfl (by kernel_rfl) (by kernel_rfl) (by kernel_rfl) (fun c a w => hQ c a _ w rfl) (Or.inl ⟨by rfl, ?yy46⟩) (by assumption) ?rr46
    case yy46 => intro w hSw; (try dsimp only at hSw); go_simp; (try with_reducible rfl)
    try simp only [Act.put, List.setIfInBounds_toArray, List.set_cons_zero, List.set_cons_succ]
    refine' takeL (i := 8) (v := _) rfl (by kernel_rfl) (by kernel_rfl) (by kernel_rfl) (fun c a w => hQ c a _ w rfl) (Or.inl ⟨by rfl, ?yy47⟩) (by assumption) ?rr47
    case yy47 => intro w hSw; (try dsimp only at hSw); go_simp; (try with_reducible rfl)
    try simp only [Act.put, List.setIfInBounds_toArray, List.set_cons_zero, List.set_cons_succ]
    refine' takeL (i := 9) (v := _) rfl (by kernel_rfl) (by kernel_rfl) (by kernel_rfl) (fun c a w => hQ c a _ w rfl) (Or.inl ⟨by rfl, ?yy48⟩) (by assumption) ?rr48
    case yy48 => intro w hSw; (try dsimp only at hSw); go_simp; (try with_reducible rfl)
    try simp only [Act.put, List.setIfInBounds_toArray, List.set_cons_zero, List.set_cons_succ]
    exact TL A q7 q8 ⟨S.out, C.out, B6.out, B7.out, B8.out, ge7, ge8, by omega, by omega, by omega, trivial⟩
  case tail =>
    rintro A q7 q8 ⟨S, C, B6, B7, B8, ge7, ge8, ne_go_q7, ne_go_q8, ne_q7_q8, -⟩
    have hHeld := B6
    replace S := Lib.hid S
    replace C := Lib.hid C
    replace B6 := Lib.hid B6
    replace B7 := Lib.hid B7
    replace B8 := Lib.hid B8
    refine wpAnyH_ready (rs := [12]) (by kernel_rfl) (by simp) ?_
    refine consL rfl (fun K hK => ?_) AllReadyH.nil
    have cz := B7.out
    have cz0 := cz.cell (c := 0) rfl
    have fz0 := cz.free 0
    have cz1 := cz.cell (c := 1) rfl
    have fz1 := cz.free 1
    have cz2 := cz.cell (c := 2) rfl
    have fz2 := cz.free 2
    have cz3 := cz.cell (c := 3) rfl
    have fz3 := cz.free 3
    have cz4 := cz.cell (c := 4) rfl
    have fz4 := cz.free 4
    have cz5 := cz.cell (c := 5) rfl
    have fz5 := cz.free 5
    have cz6 := cz.cell (c := 6) rfl
    have fz6 := cz.free 6
    have cz7 := cz.cell (c := 7) rfl
    have fz7 := cz.free 7
    have cz8 := cz.cell (c := 8) rfl
    have fz8 := cz.free 8
    have cz9 := cz.cell (c := 9) rfl
    have fz9 := cz.free 9
    have cz10 := cz.cell (c := 10) rfl
    have fz10 := cz.free 10
    have cz11 := cz.cell (c := 11) rfl
    have fz11 := cz.free 11
    have cz12 := cz.cell (c := 12) rfl
    have fz12 := cz.free 12
    have cz13 := cz.cell (c := 13) rfl
    have fz13 := cz.free 13
    have cz14 := cz.cell (c := 14) rfl
    have fz14 := cz.free 14
    have cz15 := cz.cell (c := 15) rfl
    have fz15 := cz.free 15
    go_simp
    clear cz cz0 fz0 cz1 fz1 cz2 fz2 cz3 fz3 cz4 fz4 cz5 fz5 cz6 fz6 cz7 fz7 cz8 fz8 cz9 fz9 cz10 fz10 cz11 fz11 cz12 fz12 cz13 fz13 cz14 fz14 cz15 fz15
    obtain ⟨V, hW⟩ : ∃ V, ((((((((((((((((A.setCell ⟨q7, 0, none⟩ (.int .u32 n0)).setCell ⟨q7, 1, none⟩ (.int .u32 n1)).setCell ⟨q7, 2, none⟩ (.int .u32 n2)).setCell ⟨q7, 3, none⟩ (.int .u32 n3)).setCell ⟨q7, 4, none⟩ (.int .u32 n4)).setCell ⟨q7, 5, none⟩ (.int .u32 n5)).setCell ⟨q7, 6, none⟩ (.int .u32 n6)).setCell ⟨q7, 7, none⟩ (.int .u32 n7)).setCell ⟨q7, 8, none⟩ (.int .u32 n8)).setCell ⟨q7, 9, none⟩ (.int .u32 n9)).setCell ⟨q7, 10, none⟩ (.int .u32 n10)).setCell ⟨q7, 11, none⟩ (.int .u32 n11)).setCell ⟨q7, 12, none⟩ (.int .u32 n12)).setCell ⟨q7, 13, none⟩ (.int .u32 n13)).setCell ⟨q7, 14, none⟩ (.int .u32 n14)).setCell ⟨q7, 15, none⟩ (.int .u32 n15)) = V := ⟨_, rfl⟩
    have hc : Ch A V [q7] := by rw [← hW]; exact ch_n16 A q7 (.int .u32 n0) (.int .u32 n1) (.int .u32 n2) (.int .u32 n3) (.int .u32 n4) (.int .u32 n5) (.int .u32 n6) (.int .u32 n7) (.int .u32 n8) (.int .u32 n9) (.int .u32 n10) (.int .u32 n11) (.int .u32 n12) (.int .u32 n13) (.int .u32 n14) (.int .u32 n15)
    replace S := Lib.hid (S.out.chd hc (by simp; omega) (by simp; omega) (by simp; omega))
    replace C := Lib.hid (show Ch W V [F.gb] from (by rw [← hW]; exact ch_s16 C.out ge7 (.int .u32 n0) (.int .u32 n1) (.int .u32 n2) (.int .u32 n3) (.int .u32 n4) (.int .u32 n5) (.int .u32 n6) (.int .u32 n7) (.int .u32 n8) (.int .u32 n9) (.int .u32 n10) (.int .u32 n11) (.int .u32 n12) (.int .u32 n13) (.int .u32 n14) (.int .u32 n15)))
    replace B6 := Lib.hid (B6.out.ch hc (by simp; omega))
    replace B7 : Hid (Bk V q7 28 [.int .u32 n0, .int .u32 n1, .int .u32 n2, .int .u32 n3, .int .u32 n4, .int .u32 n5, .int .u32 n6, .int .u32 n7, .int .u32 n8, .int .u32 n9, .int .u32 n10, .int .u32 n11, .int .u32 n12, .int .u32 n13, .int .u32 n14, .int .u32 n15]) := by rw [← hW]; exact Bk.sets16 B7.out rfl (.int .u32 n0) (.int .u32 n1) (.int .u32 n2) (.int .u32 n3) (.int .u32 n4) (.int .u32 n5) (.int .u32 n6) (.int .u32 n7) (.int .u32 n8) (.int .u32 n9) (.int .u32 n10) (.int .u32 n11) (.int .u32 n12) (.int .u32 n13) (.int .u32 n14) (.int .u32 n15)
    replace B8 := Lib.hid (B8.out.ch hc (by simp; omega))
    rw [hW]
    clear hW hc hHeld
    clear A
    rename World => A
    refine hK.out _ _ ?_ (fun hHeld => ?_)
    focus ((try dsimp only); exact B6.out)
    clear hK K
    try simp only [Act.put, List.setIfInBounds_toArray, List.set_cons_zero, List.set_cons_succ]
    refine wpAnyH_ready (rs := [13]) (by kernel_rfl) (by simp) ?_
    refine consL rfl (fun K hK => ?_) AllReadyH.nil
    have cz := B8.out
    have cz0 := cz.cell (c := 0) rfl
    have fz0 := cz.free 0
    have cz1 := cz.cell (c := 1) rfl
    have fz1 := cz.free 1
    have cz2 := cz.cell (c := 2) rfl
    have fz2 := cz.free 2
    have cz3 := cz.cell (c := 3) rfl
    have fz3 := cz.free 3
    have cz4 := cz.cell (c := 4) rfl
    have fz4 := cz.free 4
    have cz5 := cz.cell (c := 5) rfl
    have fz5 := cz.free 5
    have cz6 := cz.cell (c := 6) rfl
    have fz6 := cz.free 6
    have cz7 := cz.cell (c := 7) rfl
    have fz7 := cz.free 7
    have cz8 := cz.cell (c := 8) rfl
    have fz8 := cz.free 8
    have cz9 := cz.cell (c := 9) rfl
    have fz9 := cz.free 9
    go_simp
    clear cz cz0 fz0 cz1 fz1 cz2 fz2 cz3 fz3 cz4 fz4 cz5 fz5 cz6 fz6 cz7 fz7 cz8 fz8 cz9 fz9
    obtain ⟨V, hW⟩ : ∃ V, ((((((((((A.setCell ⟨q8, 0, none⟩ (.int .i64 0)).setCell ⟨q8, 1, none⟩ (.int .i64 0)).setCell ⟨q8, 2, none⟩ (.bool false)).setCell ⟨q8, 3, none⟩ (.bool false)).setCell ⟨q8, 4, none⟩ (.bool false)).setCell ⟨q8, 5, none⟩ (.int .i64 0)).setCell ⟨q8, 6, none⟩ (.int .i64 0)).setCell ⟨q8, 7, none⟩ (.int .i64 cq)).setCell ⟨q8, 8, none⟩ (.int .i64 0)).setCell ⟨q8, 9, none⟩ (.int .i64 0)) = V := ⟨_, rfl⟩
    have hc : Ch A V [q8] := by rw [← hW]; exact ch_n10 A q8 (.int .i64 0) (.int .i64 0) (.bool false) (.bool false) (.bool false) (.int .i64 0) (.int .i64 0) (.int .i64 cq) (.int .i64 0) (.int .i64 0)
    replace S := Lib.hid (S.out.chd hc (by simp; omega) (by simp; omega) (by simp; omega))
    replace C := Lib.hid (show Ch W V [F.gb] from (by rw [← hW]; exact ch_s10 C.out ge8 (.int .i64 0) (.int .i64 0) (.bool false) (.bool false) (.bool false) (.int .i64 0) (.int .i64 0) (.int .i64 cq) (.int .i64 0) (.int .i64 0)))
    replace B6 := Lib.hid (B6.out.ch hc (by simp; omega))
    replace B7 := Lib.hid (B7.out.ch hc (by simp; omega))
    replace B8 : Hid (Bk V q8 30 [.int .i64 0, .int .i64 0, .bool false, .bool false, .bool false, .int .i64 0, .int .i64 0, .int .i64 cq, .int .i64 0, .int .i64 0]) := by rw [← hW]; exact Bk.sets10 B8.out rfl (.int .i64 0) (.int .i64 0) (.bool false) (.bool false) (.bool false) (.int .i64 0) (.int .i64 0) (.int .i64 cq) (.int .i64 0) (.int .i64 0)
    rw [hW]
    clear hW hc hHeld
    clear A
    rename World => A
    refine hK.out _ _ ?_ (fun hHeld => ?_)
    focus ((try dsimp only); exact B6.out)
    clear hK K
    try simp only [Act.put, List.setIfInBounds_toArray, List.set_cons_zero, List.set_cons_succ]
    refine takeL (i := 14) (v := .int .i64 cd) rfl (by kernel_rfl) (by kernel_rfl) (by kernel_rfl) (fun c a w => hQ c a _ w rfl) (Or.inl ⟨by rfl, ?_⟩) (by assumption) ?_
    focus (intro w hSw; (try dsimp only at hSw); go_simp; (try with_reducible rfl))
    try simp only [Act.put, List.setIfInBounds_toArray, List.set_cons_zero, List.set_cons_succ]
    refine wpAnyH_done (by kernel_rfl) ?_ _
    exact H.out _ _ _ _ _ _ _ _ _ _ _ q7 q8 0 S.out B6.out B7.out B8.out ge7 ge8 C.out
set_option maxRecDepth 1000000 in
set_option maxHeartbeats 16000000 in
theorem moves_reg12 {u0 u1 u2 u4 u7 u8 u9 u10 u11 u12 u13 u14 u15 u16 u17 u18 u19 u20 u21 u22 u23 u24 u25 u26 u27 u28 u29 u30 u31 u32 u33 u34 u35 u36 u37 u38 u39 u40 u41 u42 u43 u44 u45 u46 u47 u48 u49 u50 u51 u52 u53 u54 u55 u56 u57 u58 u59 u60 u61 u62 u63 u64 u65 u66 u67 u68 u69 u70 u71 u72 u73 u74 u75 u76 u77 u78 u79 u80 u81 u82 u83 u84 u85 u86 u87 u88 u89 u90 u91 u92 u93 u94 u95 u96 u97 u98 u99 u100 u101 u102 u103 u104 u105 u106 u107 u108 u109 u110 u111 u112 u113 u114 u115 u116 u117 u118 u119 u120 u121 u122 u123 u124 u125 u126 u127 u128 u129 u130 u131 u132 u133 u134 u135 u136 u137 u138 u139 u140 : Value} {n : Nat} {a0 a1 a2 a3 a4 a5 a6 a7 a8 a9 a10 a11 a12 a13 a14 a15 n0 n1 n2 n3 n4 n5 n6 n7 n8 n9 n10 n11 n12 n13 n14 n15 cq cd : Int} (hn0 : 1 ≤ (n : Int)) (hn1 : (n : Int) ≤ 256) {bs2 : List Int} {F : Foot} {bs ks : List Int} {go z_ : Nat} {ops : Array Oper} (hops : (Try.f6.body.bind (regOpsH 12)) = some ops) {Q : Exit → Act → World → Prop} {ds : List Deferred} {W : World} (hQ : ∀ (c : List PanicEntry) (a a' : Act) (w : World), a'.defers = a.defers → Q (.panic c) a' w → Q (.panic c) a w) (hS : St 71 W F bs ks) (hB6 : Bk W go 28 [.int .u32 a0, .int .u32 a1, .int .u32 a2, .int .u32 a3, .int .u32 a4, .int .u32 a5, .int .u32 a6, .int .u32 a7, .int .u32 a8, .int .u32 a9, .int .u32 a10, .int .u32 a11, .int .u32 a12, .int .u32 a13, .int .u32 a14, .int .u32 a15]) (hn6 : go ≠ F.gb) (hm6 : go ≠ F.g) (hk6 : go ≠ F.gk) (hx : ∀ w, St 71 w F bs ks → Calls Try.prog 14 #[.agg #[.int .i64 210, .int .i64 5, .int .i64 0, .int .i64 0, .int .i64 0, .int .i64 14, .int .i64 0, .int .i64 15, .int .i64 0, .int .i64 ((n : Int) - 1), .int .i64 0, .int .i64 0], .agg #[.int .u32 a0, .int .u32 a1, .int .u32 a2, .int .u32 a3, .int .u32 a4, .int .u32 a5, .int .u32 a6, .int .u32 a7, .int .u32 a8, .int .u32 a9, .int .u32 a10, .int .u32 a11, .int .u32 a12, .int .u32 a13, .int .u32 a14, .int .u32 a15], .agg #[.int .i64 0, .int .i64 0, .bool false, .bool false, .bool false, .int .i64 0, .int .i64 0, .int .i64 0, .int .i64 0, .int .i64 0], .pointer (some ⟨F.g, 0, none⟩)] w fun e w' => e = .returned (.tuple #[.agg #[.int .u32 n0, .int .u32 n1, .int .u32 n2, .int .u32 n3, .int .u32 n4, .int .u32 n5, .int .u32 n6, .int .u32 n7, .int .u32 n8, .int .u32 n9, .int .u32 n10, .int .u32 n11, .int .u32 n12, .int .u32 n13, .int .u32 n14, .int .u32 n15], .agg #[.int .i64 0, .int .i64 0, .bool false, .bool false, .bool false, .int .i64 0, .int .i64 0, .int .i64 cq, .int .i64 0, .int .i64 0], .int .i64 cd]) ∧ St 71 w' F bs2 ks ∧ Ch w w' [F.gb])
    (h : ∀ (w' : World) (x77 x78 x79 x80 x81 x82 x76 x83 x84 x85 : Value) (z_ : Nat), St 71 w' F bs2 ks → Bk w' go 28 [.int .u32 a0, .int .u32 a1, .int .u32 a2, .int .u32 a3, .int .u32 a4, .int .u32 a5, .int .u32 a6, .int .u32 a7, .int .u32 a8, .int .u32 a9, .int .u32 a10, .int .u32 a11, .int .u32 a12, .int .u32 a13, .int .u32 a14, .int .u32 a15] →  Ch W w'  [F.gb] → Q .normal { tmps := #[u0, u1, u2, .pointer (some ⟨F.g, 0, none⟩), u4, .int .i64 (n : Int), .pointer (some ⟨go, 0, none⟩), u7, u8, .int .i64 cd, u10, u11, u12, u13, u14, u15, u16, u17, u18, u19, u20, u21, u22, u23, u24, u25, u26, u27, u28, u29, u30, u31, u32, u33, u34, u35, u36, u37, u38, u39, u40, u41, u42, u43, u44, u45, u46, u47, u48, u49, u50, u51, u52, u53, u54, u55, u56, u57, u58, u59, u60, u61, u62, u63, u64, u65, u66, u67, u68, u69, u70, u71, u72, u73, u74, u75, x76, x77, x78, x79, x80, x81, x82, x83, x84, x85, u86, u87, u88, u89, u90, u91, u92, u93, u94, u95, u96, u97, u98, u99, u100, u101, u102, u103, u104, u105, u106, u107, u108, u109, u110, u111, u112, u113, u114, u115, u116, u117, u118, u119, u120, u121, u122, u123, u124, u125, u126, u127, u128, u129, u130, u131, u132, u133, u134, u135, u136, u137, u138, u139, u140], defers := ds } w') : Code.wp Try.prog (Code.region 12 ops true) Q { tmps := #[u0, u1, u2, .pointer (some ⟨F.g, 0, none⟩), u4, .int .i64 (n : Int), .pointer (some ⟨go, 0, none⟩), u7, u8, u9, u10, u11, u12, u13, u14, u15, u16, u17, u18, u19, u20, u21, u22, u23, u24, u25, u26, u27, u28, u29, u30, u31, u32, u33, u34, u35, u36, u37, u38, u39, u40, u41, u42, u43, u44, u45, u46, u47, u48, u49, u50, u51, u52, u53, u54, u55, u56, u57, u58, u59, u60, u61, u62, u63, u64, u65, u66, u67, u68, u69, u70, u71, u72, u73, u74, u75, u76, u77, u78, u79, u80, u81, u82, u83, u84, u85, u86, u87, u88, u89, u90, u91, u92, u93, u94, u95, u96, u97, u98, u99, u100, u101, u102, u103, u104, u105, u106, u107, u108, u109, u110, u111, u112, u113, u114, u115, u116, u117, u118, u119, u120, u121, u122, u123, u124, u125, u126, u127, u128, u129, u130, u131, u132, u133, u134, u135, u136, u137, u138, u139, u140], defers := ds } W := by
  simp [Try.f6, regOpsH] at hops
  subst hops
  have H := Lib.hid h
  have HX := Lib.hid hx
  have L1 := hS.ltg
  have L2 := hS.ltb
  have L3 := hS.ltk
  have BL6 := hB6.lt
  have S0 := Lib.hid hS
  have B0_6 := Lib.hid hB6
  clear h hx hS hB6
  obtain ⟨A, hWd⟩ : ∃ Wd, W.drew = Wd := ⟨_, rfl⟩
  have hsz : A.heap.size = W.heap.size := by rw [← hWd]; rfl
  have S : Hid (St 71 A F bs ks) := by rw [← hWd]; exact S0.out.drewN 1
  have C : Hid (Ch W A [F.gb]) := by rw [← hWd]; exact (Ch.refl W _).drewN 1
  have B6 : Hid (Bk A go 28 [.int .u32 a0, .int .u32 a1, .int .u32 a2, .int .u32 a3, .int .u32 a4, .int .u32 a5, .int .u32 a6, .int .u32 a7, .int .u32 a8, .int .u32 a9, .int .u32 a10, .int .u32 a11, .int .u32 a12, .int .u32 a13, .int .u32 a14, .int .u32 a15]) := by rw [← hWd]; exact B0_6.out.drewN 1
  refine wp_region_held_drew (S := (fun w' => Bk w' go 28 [.int .u32 a0, .int .u32 a1, .int .u32 a2, .int .u32 a3, .int .u32 a4, .int .u32 a5, .int .u32 a6, .int .u32 a7, .int .u32 a8, .int .u32 a9, .int .u32 a10, .int .u32 a11, .int .u32 a12, .int .u32 a13, .int .u32 a14, .int .u32 a15])) (by kernel_rfl) ?_ (fun hHeld => ?_)
  · (try dsimp only); (try rw [hWd]); exact B6.out
  rw [hWd]
  clear hWd hsz
  refine' takeL (i := 0) (v := _) rfl (by kernel_rfl) (by kernel_rfl) (by kernel_rfl) (fun c a w => hQ c a _ w rfl) (Or.inl ⟨by rfl, ?yy49⟩) (by assumption) ?rr49
  case yy49 => intro w hSw; (try dsimp only at hSw); go_simp; (try with_reducible rfl)
  try simp only [Act.put, List.setIfInBounds_toArray, List.set_cons_zero, List.set_cons_succ]
  refine' takeL (i := 2) (v := .agg #[.int .u32 a0, .int .u32 a1, .int .u32 a2, .int .u32 a3, .int .u32 a4, .int .u32 a5, .int .u32 a6, .int .u32 a7, .int .u32 a8, .int .u32 a9, .int .u32 a10, .int .u32 a11, .int .u32 a12, .int .u32 a13, .int .u32 a14, .int .u32 a15]) rfl (by kernel_rfl) (by kernel_rfl) (by kernel_rfl) (fun c a w => hQ c a _ w rfl) (Or.inl ⟨by rfl, ?yy50⟩) (by assumption) ?rr50
  case yy50 => intro w hSw; (try dsimp only at hSw); have q0 := hSw.cell (c := 0) rfl; have q1 := hSw.cell (c := 1) rfl; have q2 := hSw.cell (c := 2) rfl; have q3 := hSw.cell (c := 3) rfl; have q4 := hSw.cell (c := 4) rfl; have q5 := hSw.cell (c := 5) rfl; have q6 := hSw.cell (c := 6) rfl; have q7 := hSw.cell (c := 7) rfl; have q8 := hSw.cell (c := 8) rfl; have q9 := hSw.cell (c := 9) rfl; have q10 := hSw.cell (c := 10) rfl; have q11 := hSw.cell (c := 11) rfl; have q12 := hSw.cell (c := 12) rfl; have q13 := hSw.cell (c := 13) rfl; have q14 := hSw.cell (c := 14) rfl; have q15 := hSw.cell (c := 15) rfl; go_simp; (try with_reducible rfl)
  try simp only [Act.put, List.setIfInBounds_toArray, List.set_cons_zero, List.set_cons_succ]
  refine' takeL (i := 3) (v := _) rfl (by kernel_rfl) (by kernel_rfl) (by kernel_rfl) (fun c a w => hQ c a _ w rfl) (Or.inl ⟨by rfl, ?yy51⟩) (by assumption) ?rr51
  case yy51 => intro w hSw; (try dsimp only at hSw); go_simp; (try with_reducible rfl)
  try simp only [Act.put, List.setIfInBounds_toArray, List.set_cons_zero, List.set_cons_succ]
  refine' takeL (i := 4) (v := _) rfl (by kernel_rfl) (by kernel_rfl) (by kernel_rfl) (fun c a w => hQ c a _ w rfl) (Or.inl ⟨by rfl, ?yy52⟩) (by assumption) ?rr52
  case yy52 => intro w hSw; (try dsimp only at hSw); go_simp; (try with_reducible rfl)
  try simp only [Act.put, List.setIfInBounds_toArray, List.set_cons_zero, List.set_cons_succ]
  refine wpAnyH_ready (rs := [1]) (by kernel_rfl) (by simp) ?_
  refine consL rfl (fun K hK => ?_) AllReadyH.nil
  go_simp
  go_at_call 17
  refine (ss_c 210 (n : Int) _ (by omega) (by omega)).mono ?_
  rintro e V ⟨rfl, hb⟩
  replace S := Lib.hid (S.out.belowS hb)
  replace C := Lib.hid (C.out.trans (Ch.of_below hb _))
  replace B6 := Lib.hid (B6.out.keep hb)
  clear hb hHeld
  clear A
  rename World => A
  go_wp2_with fail
  refine hK.out _ _ ?_ (fun hHeld => ?_)
  focus ((try dsimp only); exact B6.out)
  clear hK K
  try simp only [Act.put, List.setIfInBounds_toArray, List.set_cons_zero, List.set_cons_succ]
  refine wpAnyH_ready (rs := [5]) (by kernel_rfl) (by simp) ?_
  refine consL rfl (fun K hK => ?_) AllReadyH.nil
  go_simp
  go_at_call 14
  refine (HX.out _ S.out).mono ?_
  rintro e V ⟨rfl, hs, hc⟩
  replace S := Lib.hid hs
  replace C := Lib.hid (C.out.trans (hc.mono (by simp)))
  replace B6 := Lib.hid (B6.out.ch hc (by simp; omega))
  clear hs hc hHeld
  clear A
  rename World => A
  go_wp2_with fail
  refine hK.out _ _ ?_ (fun hHeld => ?_)
  focus ((try dsimp only); exact B6.out)
  clear hK K
  try simp only [Act.put, List.setIfInBounds_toArray, List.set_cons_zero, List.set_cons_succ]
  refine' takeL (i := 6) (v := _) rfl (by kernel_rfl) (by kernel_rfl) (by kernel_rfl) (fun c a w => hQ c a _ w rfl) (Or.inl ⟨by rfl, ?yy53⟩) (by assumption) ?rr53
  case yy53 => intro w hSw; (try dsimp only at hSw); go_simp; (try with_reducible rfl)
  try simp only [Act.put, List.setIfInBounds_toArray, List.set_cons_zero, List.set_cons_succ]
  refine' takeL (i := 7) (v := _) rfl (by kernel_rfl) (by kernel_rfl) (by kernel_rfl) (fun c a w => hQ c a _ w rfl) (Or.inl ⟨by rfl, ?yy54⟩) (by assumption) ?rr54
  case yy54 => intro w hSw; (try dsimp only at hSw); go_simp; (try with_reducible rfl)
  try simp only [Act.put, List.setIfInBounds_toArray, List.set_cons_zero, List.set_cons_succ]
  refine' takeL (i := 8) (v := _) rfl (by kernel_rfl) (by kernel_rfl) (by kernel_rfl) (fun c a w => hQ c a _ w rfl) (Or.inl ⟨by rfl, ?yy55⟩) (by assumption) ?rr55
  case yy55 => intro w hSw; (try dsimp only at hSw); go_simp; (try with_reducible rfl)
  try simp only [Act.put, List.setIfInBounds_toArray, List.set_cons_zero, List.set_cons_succ]
  refine' takeL (i := 9) (v := _) rfl (by kernel_rfl) (by kernel_rfl) (by kernel_rfl) (fun c a w => hQ c a _ w rfl) (Or.inl ⟨by rfl, ?yy56⟩) (by assumption) ?rr56
  case yy56 => intro w hSw; (try dsimp only at hSw); go_simp; (try with_reducible rfl)
  try simp only [Act.put, List.setIfInBounds_toArray, List.set_cons_zero, List.set_cons_succ]
  refine' takeL (i := 10) (v := _) rfl (by kernel_rfl) (by kernel_rfl) (by kernel_rfl) (fun c a w => hQ c a _ w rfl) (Or.inl ⟨by rfl, ?yy57⟩) (by assumption) ?rr57
  case yy57 => intro w hSw; (try dsimp only at hSw); go_simp; (try with_reducible rfl)
  try simp only [Act.put, List.setIfInBounds_toArray, List.set_cons_zero, List.set_cons_succ]
  refine wpAnyH_done (by kernel_rfl) ?_ _
  exact H.out _ _ _ _ _ _ _ _ _ _ _ 0 S.out B6.out  C.out
set_option maxRecDepth 1000000 in
set_option maxHeartbeats 16000000 in
theorem moves_reg20 {u0 u1 u2 u4 u7 u8 u9 u10 u11 u12 u13 u14 u15 u16 u17 u18 u19 u20 u21 u22 u23 u24 u25 u26 u27 u28 u29 u30 u31 u32 u33 u34 u35 u36 u37 u38 u39 u40 u41 u42 u43 u44 u45 u46 u47 u48 u49 u50 u51 u52 u53 u54 u55 u56 u57 u58 u59 u60 u61 u62 u63 u64 u65 u66 u67 u68 u69 u70 u71 u72 u73 u74 u75 u76 u77 u78 u79 u80 u81 u82 u83 u84 u85 u86 u87 u88 u89 u90 u91 u92 u93 u94 u95 u96 u97 u98 u99 u100 u101 u102 u103 u104 u105 u106 u107 u108 u109 u110 u111 u112 u113 u114 u115 u116 u117 u118 u119 u120 u121 u122 u123 u124 u125 u126 u127 u128 u129 u130 u131 u132 u133 u134 u135 u136 u137 u138 u139 u140 : Value} {n : Nat} {a0 a1 a2 a3 a4 a5 a6 a7 a8 a9 a10 a11 a12 a13 a14 a15 n0 n1 n2 n3 n4 n5 n6 n7 n8 n9 n10 n11 n12 n13 n14 n15 cq cd : Int} (hn0 : 1 ≤ (n : Int)) (hn1 : (n : Int) ≤ 256) {bs2 : List Int} {F : Foot} {bs ks : List Int} {go z_ : Nat} {ops : Array Oper} (hops : (Try.f6.body.bind (regOpsH 20)) = some ops) {Q : Exit → Act → World → Prop} {ds : List Deferred} {W : World} (hQ : ∀ (c : List PanicEntry) (a a' : Act) (w : World), a'.defers = a.defers → Q (.panic c) a' w → Q (.panic c) a w) (hS : St 71 W F bs ks) (hB6 : Bk W go 28 [.int .u32 a0, .int .u32 a1, .int .u32 a2, .int .u32 a3, .int .u32 a4, .int .u32 a5, .int .u32 a6, .int .u32 a7, .int .u32 a8, .int .u32 a9, .int .u32 a10, .int .u32 a11, .int .u32 a12, .int .u32 a13, .int .u32 a14, .int .u32 a15]) (hn6 : go ≠ F.gb) (hm6 : go ≠ F.g) (hk6 : go ≠ F.gk) (hx : ∀ w, St 71 w F bs ks → Calls Try.prog 14 #[.agg #[.int .i64 215, .int .i64 5, .int .i64 0, .int .i64 0, .int .i64 0, .int .i64 14, .int .i64 0, .int .i64 15, .int .i64 0, .int .i64 ((n : Int) - 1), .int .i64 0, .int .i64 0], .agg #[.int .u32 a0, .int .u32 a1, .int .u32 a2, .int .u32 a3, .int .u32 a4, .int .u32 a5, .int .u32 a6, .int .u32 a7, .int .u32 a8, .int .u32 a9, .int .u32 a10, .int .u32 a11, .int .u32 a12, .int .u32 a13, .int .u32 a14, .int .u32 a15], .agg #[.int .i64 0, .int .i64 0, .bool false, .bool false, .bool false, .int .i64 0, .int .i64 0, .int .i64 2, .int .i64 0, .int .i64 0], .pointer (some ⟨F.g, 0, none⟩)] w fun e w' => e = .returned (.tuple #[.agg #[.int .u32 n0, .int .u32 n1, .int .u32 n2, .int .u32 n3, .int .u32 n4, .int .u32 n5, .int .u32 n6, .int .u32 n7, .int .u32 n8, .int .u32 n9, .int .u32 n10, .int .u32 n11, .int .u32 n12, .int .u32 n13, .int .u32 n14, .int .u32 n15], .agg #[.int .i64 0, .int .i64 0, .bool false, .bool false, .bool false, .int .i64 0, .int .i64 0, .int .i64 cq, .int .i64 0, .int .i64 0], .int .i64 cd]) ∧ St 71 w' F bs2 ks ∧ Ch w w' [F.gb])
    (h : ∀ (w' : World) (x106 x107 x108 x109 x110 x111 x105 x112 x113 x114 : Value) (g12 g13 z_ : Nat), St 71 w' F bs2 ks → Bk w' go 28 [.int .u32 a0, .int .u32 a1, .int .u32 a2, .int .u32 a3, .int .u32 a4, .int .u32 a5, .int .u32 a6, .int .u32 a7, .int .u32 a8, .int .u32 a9, .int .u32 a10, .int .u32 a11, .int .u32 a12, .int .u32 a13, .int .u32 a14, .int .u32 a15] → Bk w' g12 28 [.int .u32 n0, .int .u32 n1, .int .u32 n2, .int .u32 n3, .int .u32 n4, .int .u32 n5, .int .u32 n6, .int .u32 n7, .int .u32 n8, .int .u32 n9, .int .u32 n10, .int .u32 n11, .int .u32 n12, .int .u32 n13, .int .u32 n14, .int .u32 n15] → Bk w' g13 30 [.int .i64 0, .int .i64 0, .bool false, .bool false, .bool false, .int .i64 0, .int .i64 0, .int .i64 cq, .int .i64 0, .int .i64 0] → W.heap.size ≤ g12 → W.heap.size ≤ g13 →  Ch W w'  [F.gb] → Q .normal { tmps := #[u0, u1, u2, .pointer (some ⟨F.g, 0, none⟩), u4, .int .i64 (n : Int), .pointer (some ⟨go, 0, none⟩), u7, u8, u9, u10, u11, .pointer (some ⟨g12, 0, none⟩), .pointer (some ⟨g13, 0, none⟩), .int .i64 cd, u15, u16, u17, u18, u19, u20, u21, u22, u23, u24, u25, u26, u27, u28, u29, u30, u31, u32, u33, u34, u35, u36, u37, u38, u39, u40, u41, u42, u43, u44, u45, u46, u47, u48, u49, u50, u51, u52, u53, u54, u55, u56, u57, u58, u59, u60, u61, u62, u63, u64, u65, u66, u67, u68, u69, u70, u71, u72, u73, u74, u75, u76, u77, u78, u79, u80, u81, u82, u83, u84, u85, u86, u87, u88, u89, u90, u91, u92, u93, u94, u95, u96, u97, u98, u99, u100, u101, u102, u103, u104, x105, x106, x107, x108, x109, x110, x111, x112, x113, x114, u115, u116, u117, u118, u119, u120, u121, u122, u123, u124, u125, u126, u127, u128, u129, u130, u131, u132, u133, u134, u135, u136, u137, u138, u139, u140], defers := ds } w') : Code.wp Try.prog (Code.region 20 ops true) Q { tmps := #[u0, u1, u2, .pointer (some ⟨F.g, 0, none⟩), u4, .int .i64 (n : Int), .pointer (some ⟨go, 0, none⟩), u7, u8, u9, u10, u11, u12, u13, u14, u15, u16, u17, u18, u19, u20, u21, u22, u23, u24, u25, u26, u27, u28, u29, u30, u31, u32, u33, u34, u35, u36, u37, u38, u39, u40, u41, u42, u43, u44, u45, u46, u47, u48, u49, u50, u51, u52, u53, u54, u55, u56, u57, u58, u59, u60, u61, u62, u63, u64, u65, u66, u67, u68, u69, u70, u71, u72, u73, u74, u75, u76, u77, u78, u79, u80, u81, u82, u83, u84, u85, u86, u87, u88, u89, u90, u91, u92, u93, u94, u95, u96, u97, u98, u99, u100, u101, u102, u103, u104, u105, u106, u107, u108, u109, u110, u111, u112, u113, u114, u115, u116, u117, u118, u119, u120, u121, u122, u123, u124, u125, u126, u127, u128, u129, u130, u131, u132, u133, u134, u135, u136, u137, u138, u139, u140], defers := ds } W := by
  simp [Try.f6, regOpsH] at hops
  subst hops
  have H := Lib.hid h
  have HX := Lib.hid hx
  have L1 := hS.ltg
  have L2 := hS.ltb
  have L3 := hS.ltk
  have BL6 := hB6.lt
  have S0 := Lib.hid hS
  have B0_6 := Lib.hid hB6
  clear h hx hS hB6
  refine' share2 (P := (fun A q12 q13 => St 71 A F bs2 ks ∧ Ch W A [F.gb] ∧ Bk A go 28 [.int .u32 a0, .int .u32 a1, .int .u32 a2, .int .u32 a3, .int .u32 a4, .int .u32 a5, .int .u32 a6, .int .u32 a7, .int .u32 a8, .int .u32 a9, .int .u32 a10, .int .u32 a11, .int .u32 a12, .int .u32 a13, .int .u32 a14, .int .u32 a15] ∧ Bk A q12 28 [.int .u32 0, .int .u32 0, .int .u32 0, .int .u32 0, .int .u32 0, .int .u32 0, .int .u32 0, .int .u32 0, .int .u32 0, .int .u32 0, .int .u32 0, .int .u32 0, .int .u32 0, .int .u32 0, .int .u32 0, .int .u32 0] ∧ Bk A q13 30 [.int .i64 0, .int .i64 0, .bool false, .bool false, .bool false, .int .i64 0, .int .i64 0, .int .i64 0, .int .i64 0, .int .i64 0] ∧ W.heap.size ≤ q12 ∧ W.heap.size ≤ q13 ∧ go ≠ q12 ∧ go ≠ q13 ∧ q12 ≠ q13 ∧ True)) (fun TL => ?tree) ?tail
  case tree =>
    obtain ⟨A, hWd⟩ : ∃ Wd, W.drew = Wd := ⟨_, rfl⟩
    have hsz : A.heap.size = W.heap.size := by rw [← hWd]; rfl
    have S : Hid (St 71 A F bs ks) := by rw [← hWd]; exact S0.out.drewN 1
    have C : Hid (Ch W A [F.gb]) := by rw [← hWd]; exact (Ch.refl W _).drewN 1
    have B6 : Hid (Bk A go 28 [.int .u32 a0, .int .u32 a1, .int .u32 a2, .int .u32 a3, .int .u32 a4, .int .u32 a5, .int .u32 a6, .int .u32 a7, .int .u32 a8, .int .u32 a9, .int .u32 a10, .int .u32 a11, .int .u32 a12, .int .u32 a13, .int .u32 a14, .int .u32 a15]) := by rw [← hWd]; exact B0_6.out.drewN 1
    refine wp_region_held_drew (S := (fun w' => Bk w' go 28 [.int .u32 a0, .int .u32 a1, .int .u32 a2, .int .u32 a3, .int .u32 a4, .int .u32 a5, .int .u32 a6, .int .u32 a7, .int .u32 a8, .int .u32 a9, .int .u32 a10, .int .u32 a11, .int .u32 a12, .int .u32 a13, .int .u32 a14, .int .u32 a15])) (by kernel_rfl) ?_ (fun hHeld => ?_)
    · (try dsimp only); (try rw [hWd]); exact B6.out
    rw [hWd]
    clear hWd hsz
    refine' takeL (i := 0) (v := _) rfl (by kernel_rfl) (by kernel_rfl) (by kernel_rfl) (fun c a w => hQ c a _ w rfl) (Or.inl ⟨by rfl, ?yy58⟩) (by assumption) ?rr58
    case yy58 => intro w hSw; (try dsimp only at hSw); go_simp; (try with_reducible rfl)
    try simp only [Act.put, List.setIfInBounds_toArray, List.set_cons_zero, List.set_cons_succ]
    refine' takeL (i := 2) (v := .agg #[.int .u32 a0, .int .u32 a1, .int .u32 a2, .int .u32 a3, .int .u32 a4, .int .u32 a5, .int .u32 a6, .int .u32 a7, .int .u32 a8, .int .u32 a9, .int .u32 a10, .int .u32 a11, .int .u32 a12, .int .u32 a13, .int .u32 a14, .int .u32 a15]) rfl (by kernel_rfl) (by kernel_rfl) (by kernel_rfl) (fun c a w => hQ c a _ w rfl) (Or.inl ⟨by rfl, ?yy59⟩) (by assumption) ?rr59
    case yy59 => intro w hSw; (try dsimp only at hSw); have q0 := hSw.cell (c := 0) rfl; have q1 := hSw.cell (c := 1) rfl; have q2 := hSw.cell (c := 2) rfl; have q3 := hSw.cell (c := 3) rfl; have q4 := hSw.cell (c := 4) rfl; have q5 := hSw.cell (c := 5) rfl; have q6 := hSw.cell (c := 6) rfl; have q7 := hSw.cell (c := 7) rfl; have q8 := hSw.cell (c := 8) rfl; have q9 := hSw.cell (c := 9) rfl; have q10 := hSw.cell (c := 10) rfl; have q11 := hSw.cell (c := 11) rfl; have q12 := hSw.cell (c := 12) rfl; have q13 := hSw.cell (c := 13) rfl; have q14 := hSw.cell (c := 14) rfl; have q15 := hSw.cell (c := 15) rfl; go_simp; (try with_reducible rfl)
    try simp only [Act.put, List.setIfInBounds_toArray, List.set_cons_zero, List.set_cons_succ]
    refine' takeL (i := 3) (v := _) rfl (by kernel_rfl) (by kernel_rfl) (by kernel_rfl) (fun c a w => hQ c a _ w rfl) (Or.inl ⟨by rfl, ?yy60⟩) (by assumption) ?rr60
    case yy60 => intro w hSw; (try dsimp only at hSw); go_simp; (try with_reducible rfl)
    try simp only [Act.put, List.setIfInBounds_toArray, List.set_cons_zero, List.set_cons_succ]
    refine' takeL (i := 4) (v := _) rfl (by kernel_rfl) (by kernel_rfl) (by kernel_rfl) (fun c a w => hQ c a _ w rfl) (Or.inl ⟨by rfl, ?yy61⟩) (by assumption) ?rr61
    case yy61 => intro w hSw; (try dsimp only at hSw); go_simp; (try with_reducible rfl)
    try simp only [Act.put, List.setIfInBounds_toArray, List.set_cons_zero, List.set_cons_succ]
    refine wpAnyH_ready (rs := [1, 10, 11]) (by kernel_rfl) (by simp) ?_
    refine consL rfl (fun K hK => ?_) ?_
    · go_simp
      go_at_call 17
      refine (ss_c 215 (n : Int) _ (by omega) (by omega)).mono ?_
      rintro e V ⟨rfl, hb⟩
      replace S := Lib.hid (S.out.belowS hb)
      replace C := Lib.hid (C.out.trans (Ch.of_below hb _))
      replace B6 := Lib.hid (B6.out.keep hb)
      clear hb hHeld
      clear A
      rename World => A
      go_wp2_with fail
      refine hK.out _ _ ?_ (fun hHeld => ?_)
      focus ((try dsimp only); exact B6.out)
      clear hK K
      try simp only [Act.put, List.setIfInBounds_toArray, List.set_cons_zero, List.set_cons_succ]
      refine wpAnyH_ready (rs := [5, 10, 11]) (by kernel_rfl) (by simp) ?_
      refine consL rfl (fun K hK => ?_) ?_
      · go_simp
        go_at_call 14
        refine (HX.out _ S.out).mono ?_
        rintro e V ⟨rfl, hs, hc⟩
        replace S := Lib.hid hs
        replace C := Lib.hid (C.out.trans (hc.mono (by simp)))
        replace B6 := Lib.hid (B6.out.ch hc (by simp; omega))
        clear hs hc hHeld
        clear A
        rename World => A
        go_wp2_with fail
        refine hK.out _ _ ?_ (fun hHeld => ?_)
        focus ((try dsimp only); exact B6.out)
        clear hK K
        try simp only [Act.put, List.setIfInBounds_toArray, List.set_cons_zero, List.set_cons_succ]
        refine' takeL (i := 6) (v := _) rfl (by kernel_rfl) (by kernel_rfl) (by kernel_rfl) (fun c a w => hQ c a _ w rfl) (Or.inl ⟨by rfl, ?yy62⟩) (by assumption) ?rr62
        case yy62 => intro w hSw; (try dsimp only at hSw); go_simp; (try with_reducible rfl)
        try simp only [Act.put, List.setIfInBounds_toArray, List.set_cons_zero, List.set_cons_succ]
        refine' takeL (i := 7) (v := _) rfl (by kernel_rfl) (by kernel_rfl) (by kernel_rfl) (fun c a w => hQ c a _ w rfl) (Or.inl ⟨by rfl, ?yy63⟩) (by assumption) ?rr63
        case yy63 => intro w hSw; (try dsimp only at hSw); go_simp; (try with_reducible rfl)
        try simp only [Act.put, List.setIfInBounds_toArray, List.set_cons_zero, List.set_cons_succ]
        refine' takeL (i := 8) (v := _) rfl (by kernel_rfl) (by kernel_rfl) (by kernel_rfl) (fun c a w => hQ c a _ w rfl) (Or.inl ⟨by rfl, ?yy64⟩) (by assumption) ?rr64
        case yy64 => intro w hSw; (try dsimp only at hSw); go_simp; (try with_reducible rfl)
        try simp only [Act.put, List.setIfInBounds_toArray, List.set_cons_zero, List.set_cons_succ]
        refine' takeL (i := 9) (v := _) rfl (by kernel_rfl) (by kernel_rfl) (by kernel_rfl) (fun c a w => hQ c a _ w rfl) (Or.inl ⟨by rfl, ?yy65⟩) (by assumption) ?rr65
        case yy65 => intro w hSw; (try dsimp only at hSw); go_simp; (try with_reducible rfl)
        try simp only [Act.put, List.setIfInBounds_toArray, List.set_cons_zero, List.set_cons_succ]
        refine wpAnyH_ready (rs := [10, 11]) (by kernel_rfl) (by simp) ?_
        refine consL rfl (fun K hK => ?_) ?_
        · go_simp
          obtain ⟨q12, hg⟩ : ∃ q, A.heap.size = q := ⟨_, rfl⟩
          have ge12 : W.heap.size ≤ q12 := by have := C.out.size; omega
          have ne12_6 : q12 ≠ go := by have := B6.out.lt; omega
          obtain ⟨V, hW⟩ : ∃ V, A.alloc (.cells #[.int .u32 0, .int .u32 0, .int .u32 0, .int .u32 0, .int .u32 0, .int .u32 0, .int .u32 0, .int .u32 0, .int .u32 0, .int .u32 0, .int .u32 0, .int .u32 0, .int .u32 0, .int .u32 0, .int .u32 0, .int .u32 0] 28) = V := ⟨_, rfl⟩
          have B12 : Hid (Bk V q12 28 [.int .u32 0, .int .u32 0, .int .u32 0, .int .u32 0, .int .u32 0, .int .u32 0, .int .u32 0, .int .u32 0, .int .u32 0, .int .u32 0, .int .u32 0, .int .u32 0, .int .u32 0, .int .u32 0, .int .u32 0, .int .u32 0]) := by rw [← hW, ← hg]; exact Bk.new A [.int .u32 0, .int .u32 0, .int .u32 0, .int .u32 0, .int .u32 0, .int .u32 0, .int .u32 0, .int .u32 0, .int .u32 0, .int .u32 0, .int .u32 0, .int .u32 0, .int .u32 0, .int .u32 0, .int .u32 0, .int .u32 0] 28
          replace S : Hid (St 71 V F bs2 ks) := by rw [← hW]; exact S.out.alloc _
          replace C : Hid (Ch W V [F.gb]) := by rw [← hW]; exact C.out.alloc _
          replace B6 : Hid (Bk V go 28 [.int .u32 a0, .int .u32 a1, .int .u32 a2, .int .u32 a3, .int .u32 a4, .int .u32 a5, .int .u32 a6, .int .u32 a7, .int .u32 a8, .int .u32 a9, .int .u32 a10, .int .u32 a11, .int .u32 a12, .int .u32 a13, .int .u32 a14, .int .u32 a15]) := by rw [← hW]; exact B6.out.alloc _
          rw [hW]
          try rw [hg]
          clear hW hg hHeld
          clear A
          rename World => A
          refine hK.out _ _ ?_ (fun hHeld => ?_)
          focus ((try dsimp only); exact B6.out)
          clear hK K
          try simp only [Act.put, List.setIfInBounds_toArray, List.set_cons_zero, List.set_cons_succ]
          refine wpAnyH_ready (rs := [11]) (by kernel_rfl) (by simp) ?_
          refine consL rfl (fun K hK => ?_) AllReadyH.nil
          go_simp
          obtain ⟨q13, hg⟩ : ∃ q, A.heap.size = q := ⟨_, rfl⟩
          have ge13 : W.heap.size ≤ q13 := by have := C.out.size; omega
          have ne13_6 : q13 ≠ go := by have := B6.out.lt; omega
          have ne13_12 : q13 ≠ q12 := by have := B12.out.lt; omega
          obtain ⟨V, hW⟩ : ∃ V, A.alloc (.cells #[.int .i64 0, .int .i64 0, .bool false, .bool false, .bool false, .int .i64 0, .int .i64 0, .int .i64 0, .int .i64 0, .int .i64 0] 30) = V := ⟨_, rfl⟩
          have B13 : Hid (Bk V q13 30 [.int .i64 0, .int .i64 0, .bool false, .bool false, .bool false, .int .i64 0, .int .i64 0, .int .i64 0, .int .i64 0, .int .i64 0]) := by rw [← hW, ← hg]; exact Bk.new A [.int .i64 0, .int .i64 0, .bool false, .bool false, .bool false, .int .i64 0, .int .i64 0, .int .i64 0, .int .i64 0, .int .i64 0] 30
          replace S : Hid (St 71 V F bs2 ks) := by rw [← hW]; exact S.out.alloc _
          replace C : Hid (Ch W V [F.gb]) := by rw [← hW]; exact C.out.alloc _
          replace B6 : Hid (Bk V go 28 [.int .u32 a0, .int .u32 a1, .int .u32 a2, .int .u32 a3, .int .u32 a4, .int .u32 a5, .int .u32 a6, .int .u32 a7, .int .u32 a8, .int .u32 a9, .int .u32 a10, .int .u32 a11, .int .u32 a12, .int .u32 a13, .int .u32 a14, .int .u32 a15]) := by rw [← hW]; exact B6.out.alloc _
          replace B12 : Hid (Bk V q12 28 [.int .u32 0, .int .u32 0, .int .u32 0, .int .u32 0, .int .u32 0, .int .u32 0, .int .u32 0, .int .u32 0, .int .u32 0, .int .u32 0, .int .u32 0, .int .u32 0, .int .u32 0, .int .u32 0, .int .u32 0, .int .u32 0]) := by rw [← hW]; exact B12.out.alloc _
          rw [hW]
          try rw [hg]
          clear hW hg hHeld
          clear A
          rename World => A
          refine hK.out _ _ ?_ (fun hHeld => ?_)
          focus ((try dsimp only); exact B6.out)
          clear hK K
          try simp only [Act.put, List.setIfInBounds_toArray, List.set_cons_zero, List.set_cons_succ]
          exact TL A q12 q13 ⟨S.out, C.out, B6.out, B12.out, B13.out, ge12, ge13, by omega, by omega, by omega, trivial⟩
        refine consL rfl (fun K hK => ?_) AllReadyH.nil
        go_simp
        obtain ⟨q13, hg⟩ : ∃ q, A.heap.size = q := ⟨_, rfl⟩
        have ge13 : W.heap.size ≤ q13 := by have := C.out.size; omega
        have ne13_6 : q13 ≠ go := by have := B6.out.lt; omega
        obtain ⟨V, hW⟩ : ∃ V, A.alloc (.cells #[.int .i64 0, .int .i64 0, .bool false, .bool false, .bool false, .int .i64 0, .int .i64 0, .int .i64 0, .int .i64 0, .int .i64 0] 30) = V := ⟨_, rfl⟩
        have B13 : Hid (Bk V q13 30 [.int .i64 0, .int .i64 0, .bool false, .bool false, .bool false, .int .i64 0, .int .i64 0, .int .i64 0, .int .i64 0, .int .i64 0]) := by rw [← hW, ← hg]; exact Bk.new A [.int .i64 0, .int .i64 0, .bool false, .bool false, .bool false, .int .i64 0, .int .i64 0, .int .i64 0, .int .i64 0, .int .i64 0] 30
        replace S : Hid (St 71 V F bs2 ks) := by rw [← hW]; exact S.out.alloc _
        replace C : Hid (Ch W V [F.gb]) := by rw [← hW]; exact C.out.alloc _
        replace B6 : Hid (Bk V go 28 [.int .u32 a0, .int .u32 a1, .int .u32 a2, .int .u32 a3, .int .u32 a4, .int .u32 a5, .int .u32 a6, .int .u32 a7, .int .u32 a8, .int .u32 a9, .int .u32 a10, .int .u32 a11, .int .u32 a12, .int .u32 a13, .int .u32 a14, .int .u32 a15]) := by rw [← hW]; exact B6.out.alloc _
        rw [hW]
        try rw [hg]
        clear hW hg hHeld
        clear A
        rename World => A
        refine hK.out _ _ ?_ (fun hHeld => ?_)
        focus ((try dsimp only); exact B6.out)
        clear hK K
        try simp only [Act.put, List.setIfInBounds_toArray, List.set_cons_zero, List.set_cons_succ]
        refine wpAnyH_ready (rs := [10]) (by kernel_rfl) (by simp) ?_
        refine consL rfl (fun K hK => ?_) AllReadyH.nil
        go_simp
        obtain ⟨q12, hg⟩ : ∃ q, A.heap.size = q := ⟨_, rfl⟩
        have ge12 : W.heap.size ≤ q12 := by have := C.out.size; omega
        have ne12_6 : q12 ≠ go := by have := B6.out.lt; omega
        have ne12_13 : q12 ≠ q13 := by have := B13.out.lt; omega
        obtain ⟨V, hW⟩ : ∃ V, A.alloc (.cells #[.int .u32 0, .int .u32 0, .int .u32 0, .int .u32 0, .int .u32 0, .int .u32 0, .int .u32 0, .int .u32 0, .int .u32 0, .int .u32 0, .int .u32 0, .int .u32 0, .int .u32 0, .int .u32 0, .int .u32 0, .int .u32 0] 28) = V := ⟨_, rfl⟩
        have B12 : Hid (Bk V q12 28 [.int .u32 0, .int .u32 0, .int .u32 0, .int .u32 0, .int .u32 0, .int .u32 0, .int .u32 0, .int .u32 0, .int .u32 0, .int .u32 0, .int .u32 0, .int .u32 0, .int .u32 0, .int .u32 0, .int .u32 0, .int .u32 0]) := by rw [← hW, ← hg]; exact Bk.new A [.int .u32 0, .int .u32 0, .int .u32 0, .int .u32 0, .int .u32 0, .int .u32 0, .int .u32 0, .int .u32 0, .int .u32 0, .int .u32 0, .int .u32 0, .int .u32 0, .int .u32 0, .int .u32 0, .int .u32 0, .int .u32 0] 28
        replace S : Hid (St 71 V F bs2 ks) := by rw [← hW]; exact S.out.alloc _
        replace C : Hid (Ch W V [F.gb]) := by rw [← hW]; exact C.out.alloc _
        replace B6 : Hid (Bk V go 28 [.int .u32 a0, .int .u32 a1, .int .u32 a2, .int .u32 a3, .int .u32 a4, .int .u32 a5, .int .u32 a6, .int .u32 a7, .int .u32 a8, .int .u32 a9, .int .u32 a10, .int .u32 a11, .int .u32 a12, .int .u32 a13, .int .u32 a14, .int .u32 a15]) := by rw [← hW]; exact B6.out.alloc _
        replace B13 : Hid (Bk V q13 30 [.int .i64 0, .int .i64 0, .bool false, .bool false, .bool false, .int .i64 0, .int .i64 0, .int .i64 0, .int .i64 0, .int .i64 0]) := by rw [← hW]; exact B13.out.alloc _
        rw [hW]
        try rw [hg]
        clear hW hg hHeld
        clear A
        rename World => A
        refine hK.out _ _ ?_ (fun hHeld => ?_)
        focus ((try dsimp only); exact B6.out)
        clear hK K
        try simp only [Act.put, List.setIfInBounds_toArray, List.set_cons_zero, List.set_cons_succ]
        exact TL A q12 q13 ⟨S.out, C.out, B6.out, B12.out, B13.out, ge12, ge13, by omega, by omega, by omega, trivial⟩
      refine consL rfl (fun K hK => ?_) ?_
      · go_simp
        obtain ⟨q12, hg⟩ : ∃ q, A.heap.size = q := ⟨_, rfl⟩
        have ge12 : W.heap.size ≤ q12 := by have := C.out.size; omega
        have ne12_6 : q12 ≠ go := by have := B6.out.lt; omega
        obtain ⟨V, hW⟩ : ∃ V, A.alloc (.cells #[.int .u32 0, .int .u32 0, .int .u32 0, .int .u32 0, .int .u32 0, .int .u32 0, .int .u32 0, .int .u32 0, .int .u32 0, .int .u32 0, .int .u32 0, .int .u32 0, .int .u32 0, .int .u32 0, .int .u32 0, .int .u32 0] 28) = V := ⟨_, rfl⟩
        have B12 : Hid (Bk V q12 28 [.int .u32 0, .int .u32 0, .int .u32 0, .int .u32 0, .int .u32 0, .int .u32 0, .int .u32 0, .int .u32 0, .int .u32 0, .int .u32 0, .int .u32 0, .int .u32 0, .int .u32 0, .int .u32 0, .int .u32 0, .int .u32 0]) := by rw [← hW, ← hg]; exact Bk.new A [.int .u32 0, .int .u32 0, .int .u32 0, .int .u32 0, .int .u32 0, .int .u32 0, .int .u32 0, .int .u32 0, .int .u32 0, .int .u32 0, .int .u32 0, .int .u32 0, .int .u32 0, .int .u32 0, .int .u32 0, .int .u32 0] 28
        replace S : Hid (St 71 V F bs ks) := by rw [← hW]; exact S.out.alloc _
        replace C : Hid (Ch W V [F.gb]) := by rw [← hW]; exact C.out.alloc _
        replace B6 : Hid (Bk V go 28 [.int .u32 a0, .int .u32 a1, .int .u32 a2, .int .u32 a3, .int .u32 a4, .int .u32 a5, .int .u32 a6, .int .u32 a7, .int .u32 a8, .int .u32 a9, .int .u32 a10, .int .u32 a11, .int .u32 a12, .int .u32 a13, .int .u32 a14, .int .u32 a15]) := by rw [← hW]; exact B6.out.alloc _
        rw [hW]
        try rw [hg]
        clear hW hg hHeld
        clear A
        rename World => A
        refine hK.out _ _ ?_ (fun hHeld => ?_)
        focus ((try dsimp only); exact B6.out)
        clear hK K
        try simp only [Act.put, List.setIfInBounds_toArray, List.set_cons_zero, List.set_cons_succ]
        refine wpAnyH_ready (rs := [5, 11]) (by kernel_rfl) (by simp) ?_
        refine consL rfl (fun K hK => ?_) ?_
        · go_simp
          go_at_call 14
          refine (HX.out _ S.out).mono ?_
          rintro e V ⟨rfl, hs, hc⟩
          replace S := Lib.hid hs
          replace C := Lib.hid (C.out.trans (hc.mono (by simp)))
          replace B6 := Lib.hid (B6.out.ch hc (by simp; omega))
          replace B12 := Lib.hid (B12.out.ch hc (by simp; omega))
          clear hs hc hHeld
          clear A
          rename World => A
          go_wp2_with fail
          refine hK.out _ _ ?_ (fun hHeld => ?_)
          focus ((try dsimp only); exact B6.out)
          clear hK K
          try simp only [Act.put, List.setIfInBounds_toArray, List.set_cons_zero, List.set_cons_succ]
          refine' takeL (i := 6) (v := _) rfl (by kernel_rfl) (by kernel_rfl) (by kernel_rfl) (fun c a w => hQ c a _ w rfl) (Or.inl ⟨by rfl, ?yy66⟩) (by assumption) ?rr66
          case yy66 => intro w hSw; (try dsimp only at hSw); go_simp; (try with_reducible rfl)
          try simp only [Act.put, List.setIfInBounds_toArray, List.set_cons_zero, List.set_cons_succ]
          refine' takeL (i := 7) (v := _) rfl (by kernel_rfl) (by kernel_rfl) (by kernel_rfl) (fun c a w => hQ c a _ w rfl) (Or.inl ⟨by rfl, ?yy67⟩) (by assumption) ?rr67
          case yy67 => intro w hSw; (try dsimp only at hSw); go_simp; (try with_reducible rfl)
          try simp only [Act.put, List.setIfInBounds_toArray, List.set_cons_zero, List.set_cons_succ]
          refine' takeL (i := 8) (v := _) rfl (by kernel_rfl) (by kernel_rfl) (by kernel_rfl) (fun c a w => hQ c a _ w rfl) (Or.inl ⟨by rfl, ?yy68⟩) (by assumption) ?rr68
          case yy68 => intro w hSw; (try dsimp only at hSw); go_simp; (try with_reducible rfl)
          try simp only [Act.put, List.setIfInBounds_toArray, List.set_cons_zero, List.set_cons_succ]
          refine' takeL (i := 9) (v := _) rfl (by kernel_rfl) (by kernel_rfl) (by kernel_rfl) (fun c a w => hQ c a _ w rfl) (Or.inl ⟨by rfl, ?yy69⟩) (by assumption) ?rr69
          case yy69 => intro w hSw; (try dsimp only at hSw); go_simp; (try with_reducible rfl)
          try simp only [Act.put, List.setIfInBounds_toArray, List.set_cons_zero, List.set_cons_succ]
          refine wpAnyH_ready (rs := [11]) (by kernel_rfl) (by simp) ?_
          refine consL rfl (fun K hK => ?_) AllReadyH.nil
          go_simp
          obtain ⟨q13, hg⟩ : ∃ q, A.heap.size = q := ⟨_, rfl⟩
          have ge13 : W.heap.size ≤ q13 := by have := C.out.size; omega
          have ne13_6 : q13 ≠ go := by have := B6.out.lt; omega
          have ne13_12 : q13 ≠ q12 := by have := B12.out.lt; omega
          obtain ⟨V, hW⟩ : ∃ V, A.alloc (.cells #[.int .i64 0, .int .i64 0, .bool false, .bool false, .bool false, .int .i64 0, .int .i64 0, .int .i64 0, .int .i64 0, .int .i64 0] 30) = V := ⟨_, rfl⟩
          have B13 : Hid (Bk V q13 30 [.int .i64 0, .int .i64 0, .bool false, .bool false, .bool false, .int .i64 0, .int .i64 0, .int .i64 0, .int .i64 0, .int .i64 0]) := by rw [← hW, ← hg]; exact Bk.new A [.int .i64 0, .int .i64 0, .bool false, .bool false, .bool false, .int .i64 0, .int .i64 0, .int .i64 0, .int .i64 0, .int .i64 0] 30
          replace S : Hid (St 71 V F bs2 ks) := by rw [← hW]; exact S.out.alloc _
          replace C : Hid (Ch W V [F.gb]) := by rw [← hW]; exact C.out.alloc _
          replace B6 : Hid (Bk V go 28 [.int .u32 a0, .int .u32 a1, .int .u32 a2, .int .u32 a3, .int .u32 a4, .int .u32 a5, .int .u32 a6, .int .u32 a7, .int .u32 a8, .int .u32 a9, .int .u32 a10, .int .u32 a11, .int .u32 a12, .int .u32 a13, .int .u32 a14, .int .u32 a15]) := by rw [← hW]; exact B6.out.alloc _
          replace B12 : Hid (Bk V q12 28 [.int .u32 0, .int .u32 0, .int .u32 0, .int .u32 0, .int .u32 0, .int .u32 0, .int .u32 0, .int .u32 0, .int .u32 0, .int .u32 0, .int .u32 0, .int .u32 0, .int .u32 0, .int .u32 0, .int .u32 0, .int .u32 0]) := by rw [← hW]; exact B12.out.alloc _
          rw [hW]
          try rw [hg]
          clear hW hg hHeld
          clear A
          rename World => A
          refine hK.out _ _ ?_ (fun hHeld => ?_)
          focus ((try dsimp only); exact B6.out)
          clear hK K
          try simp only [Act.put, List.setIfInBounds_toArray, List.set_cons_zero, List.set_cons_succ]
          exact TL A q12 q13 ⟨S.out, C.out, B6.out, B12.out, B13.out, ge12, ge13, by omega, by omega, by omega, trivial⟩
        refine consL rfl (fun K hK => ?_) AllReadyH.nil
        go_simp
        obtain ⟨q13, hg⟩ : ∃ q, A.heap.size = q := ⟨_, rfl⟩
        have ge13 : W.heap.size ≤ q13 := by have := C.out.size; omega
        have ne13_6 : q13 ≠ go := by have := B6.out.lt; omega
        have ne13_12 : q13 ≠ q12 := by have := B12.out.lt; omega
        obtain ⟨V, hW⟩ : ∃ V, A.alloc (.cells #[.int .i64 0, .int .i64 0, .bool false, .bool false, .bool false, .int .i64 0, .int .i64 0, .int .i64 0, .int .i64 0, .int .i64 0] 30) = V := ⟨_, rfl⟩
        have B13 : Hid (Bk V q13 30 [.int .i64 0, .int .i64 0, .bool false, .bool false, .bool false, .int .i64 0, .int .i64 0, .int .i64 0, .int .i64 0, .int .i64 0]) := by rw [← hW, ← hg]; exact Bk.new A [.int .i64 0, .int .i64 0, .bool false, .bool false, .bool false, .int .i64 0, .int .i64 0, .int .i64 0, .int .i64 0, .int .i64 0] 30
        replace S : Hid (St 71 V F bs ks) := by rw [← hW]; exact S.out.alloc _
        replace C : Hid (Ch W V [F.gb]) := by rw [← hW]; exact C.out.alloc _
        replace B6 : Hid (Bk V go 28 [.int .u32 a0, .int .u32 a1, .int .u32 a2, .int .u32 a3, .int .u32 a4, .int .u32 a5, .int .u32 a6, .int .u32 a7, .int .u32 a8, .int .u32 a9, .int .u32 a10, .int .u32 a11, .int .u32 a12, .int .u32 a13, .int .u32 a14, .int .u32 a15]) := by rw [← hW]; exact B6.out.alloc _
        replace B12 : Hid (Bk V q12 28 [.int .u32 0, .int .u32 0, .int .u32 0, .int .u32 0, .int .u32 0, .int .u32 0, .int .u32 0, .int .u32 0, .int .u32 0, .int .u32 0, .int .u32 0, .int .u32 0, .int .u32 0, .int .u32 0, .int .u32 0, .int .u32 0]) := by rw [← hW]; exact B12.out.alloc _
        rw [hW]
        try rw [hg]
        clear hW hg hHeld
        clear A
        rename World => A
        refine hK.out _ _ ?_ (fun hHeld => ?_)
        focus ((try dsimp only); exact B6.out)
        clear hK K
        try simp only [Act.put, List.setIfInBounds_toArray, List.set_cons_zero, List.set_cons_succ]
        refine wpAnyH_ready (rs := [5]) (by kernel_rfl) (by simp) ?_
        refine consL rfl (fun K hK => ?_) AllReadyH.nil
        go_simp
        go_at_call 14
        refine (HX.out _ S.out).mono ?_
        rintro e V ⟨rfl, hs, hc⟩
        replace S := Lib.hid hs
        replace C := Lib.hid (C.out.trans (hc.mono (by simp)))
        replace B6 := Lib.hid (B6.out.ch hc (by simp; omega))
        replace B12 := Lib.hid (B12.out.ch hc (by simp; omega))
        replace B13 := Lib.hid (B13.out.ch hc (by simp; omega))
        clear hs hc hHeld
        clear A
        rename World => A
        go_wp2_with fail
        refine hK.out _ _ ?_ (fun hHeld => ?_)
        focus ((try dsimp only); exact B6.out)
        clear hK K
        try simp only [Act.put, List.setIfInBounds_toArray, List.set_cons_zero, List.set_cons_succ]
        refine' takeL (i := 6) (v := _) rfl (by kernel_rfl) (by kernel_rfl) (by kernel_rfl) (fun c a w => hQ c a _ w rfl) (Or.inl ⟨by rfl, ?yy70⟩) (by assumption) ?rr70
        case yy70 => intro w hSw; (try dsimp only at hSw); go_simp; (try with_reducible rfl)
        try simp only [Act.put, List.setIfInBounds_toArray, List.set_cons_zero, List.set_cons_succ]
        refine' takeL (i := 7) (v := _) rfl (by kernel_rfl) (by kernel_rfl) (by kernel_rfl) (fun c a w => hQ c a _ w rfl) (Or.inl ⟨by rfl, ?yy71⟩) (by assumption) ?rr71
        case yy71 => intro w hSw; (try dsimp only at hSw); go_simp; (try with_reducible rfl)
        try simp only [Act.put, List.setIfInBounds_toArray, List.set_cons_zero, List.set_cons_succ]
        refine' takeL (i := 8) (v := _) rfl (by kernel_rfl) (by kernel_rfl) (by kernel_rfl) (fun c a w => hQ c a _ w rfl) (Or.inl ⟨by rfl, ?yy72⟩) (by assumption) ?rr72
        case yy72 => intro w hSw; (try dsimp only at hSw); go_simp; (try with_reducible rfl)
        try simp only [Act.put, List.setIfInBounds_toArray, List.set_cons_zero, List.set_cons_succ]
        refine' takeL (i := 9) (v := _) rfl (by kernel_rfl) (by kernel_rfl) (by kernel_rfl) (fun c a w => hQ c a _ w rfl) (Or.inl ⟨by rfl, ?yy73⟩) (by assumption) ?rr73
        case yy73 => intro w hSw; (try dsimp only at hSw); go_simp; (try with_reducible rfl)
        try simp only [Act.put, List.setIfInBounds_toArray, List.set_cons_zero, List.set_cons_succ]
        exact TL A q12 q13 ⟨S.out, C.out, B6.out, B12.out, B13.out, ge12, ge13, by omega, by omega, by omega, trivial⟩
      refine consL rfl (fun K hK => ?_) AllReadyH.nil
      go_simp
      obtain ⟨q13, hg⟩ : ∃ q, A.heap.size = q := ⟨_, rfl⟩
      have ge13 : W.heap.size ≤ q13 := by have := C.out.size; omega
      have ne13_6 : q13 ≠ go := by have := B6.out.lt; omega
      obtain ⟨V, hW⟩ : ∃ V, A.alloc (.cells #[.int .i64 0, .int .i64 0, .bool false, .bool false, .bool false, .int .i64 0, .int .i64 0, .int .i64 0, .int .i64 0, .int .i64 0] 30) = V := ⟨_, rfl⟩
      have B13 : Hid (Bk V q13 30 [.int .i64 0, .int .i64 0, .bool false, .bool false, .bool false, .int .i64 0, .int .i64 0, .int .i64 0, .int .i64 0, .int .i64 0]) := by rw [← hW, ← hg]; exact Bk.new A [.int .i64 0, .int .i64 0, .bool false, .bool false, .bool false, .int .i64 0, .int .i64 0, .int .i64 0, .int .i64 0, .int .i64 0] 30
      replace S : Hid (St 71 V F bs ks) := by rw [← hW]; exact S.out.alloc _
      replace C : Hid (Ch W V [F.gb]) := by rw [← hW]; exact C.out.alloc _
      replace B6 : Hid (Bk V go 28 [.int .u32 a0, .int .u32 a1, .int .u32 a2, .int .u32 a3, .int .u32 a4, .int .u32 a5, .int .u32 a6, .int .u32 a7, .int .u32 a8, .int .u32 a9, .int .u32 a10, .int .u32 a11, .int .u32 a12, .int .u32 a13, .int .u32 a14, .int .u32 a15]) := by rw [← hW]; exact B6.out.alloc _
      rw [hW]
      try rw [hg]
      clear hW hg hHeld
      clear A
      rename World => A
      refine hK.out _ _ ?_ (fun hHeld => ?_)
      focus ((try dsimp only); exact B6.out)
      clear hK K
      try simp only [Act.put, List.setIfInBounds_toArray, List.set_cons_zero, List.set_cons_succ]
      refine wpAnyH_ready (rs := [5, 10]) (by kernel_rfl) (by simp) ?_
      refine consL rfl (fun K hK => ?_) ?_
      · go_simp
        go_at_call 14
        refine (HX.out _ S.out).mono ?_
        rintro e V ⟨rfl, hs, hc⟩
        replace S := Lib.hid hs
        replace C := Lib.hid (C.out.trans (hc.mono (by simp)))
        replace B6 := Lib.hid (B6.out.ch hc (by simp; omega))
        replace B13 := Lib.hid (B13.out.ch hc (by simp; omega))
        clear hs hc hHeld
        clear A
        rename World => A
        go_wp2_with fail
        refine hK.out _ _ ?_ (fun hHeld => ?_)
        focus ((try dsimp only); exact B6.out)
        clear hK K
        try simp only [Act.put, List.setIfInBounds_toArray, List.set_cons_zero, List.set_cons_succ]
        refine' takeL (i := 6) (v := _) rfl (by kernel_rfl) (by kernel_rfl) (by kernel_rfl) (fun c a w => hQ c a _ w rfl) (Or.inl ⟨by rfl, ?yy74⟩) (by assumption) ?rr74
        case yy74 => intro w hSw; (try dsimp only at hSw); go_simp; (try with_reducible rfl)
        try simp only [Act.put, List.setIfInBounds_toArray, List.set_cons_zero, List.set_cons_succ]
        refine' takeL (i := 7) (v := _) rfl (by kernel_rfl) (by kernel_rfl) (by kernel_rfl) (fun c a w => hQ c a _ w rfl) (Or.inl ⟨by rfl, ?yy75⟩) (by assumption) ?rr75
        case yy75 => intro w hSw; (try dsimp only at hSw); go_simp; (try with_reducible rfl)
        try simp only [Act.put, List.setIfInBounds_toArray, List.set_cons_zero, List.set_cons_succ]
        refine' takeL (i := 8) (v := _) rfl (by kernel_rfl) (by kernel_rfl) (by kernel_rfl) (fun c a w => hQ c a _ w rfl) (Or.inl ⟨by rfl, ?yy76⟩) (by assumption) ?rr76
        case yy76 => intro w hSw; (try dsimp only at hSw); go_simp; (try with_reducible rfl)
        try simp only [Act.put, List.setIfInBounds_toArray, List.set_cons_zero, List.set_cons_succ]
        refine' takeL (i := 9) (v := _) rfl (by kernel_rfl) (by kernel_rfl) (by kernel_rfl) (fun c a w => hQ c a _ w rfl) (Or.inl ⟨by rfl, ?yy77⟩) (by assumption) ?rr77
        case yy77 => intro w hSw; (try dsimp only at hSw); go_simp; (try with_reducible rfl)
        try simp only [Act.put, List.setIfInBounds_toArray, List.set_cons_zero, List.set_cons_succ]
        refine wpAnyH_ready (rs := [10]) (by kernel_rfl) (by simp) ?_
        refine consL rfl (fun K hK => ?_) AllReadyH.nil
        go_simp
        obtain ⟨q12, hg⟩ : ∃ q, A.heap.size = q := ⟨_, rfl⟩
        have ge12 : W.heap.size ≤ q12 := by have := C.out.size; omega
        have ne12_6 : q12 ≠ go := by have := B6.out.lt; omega
        have ne12_13 : q12 ≠ q13 := by have := B13.out.lt; omega
        obtain ⟨V, hW⟩ : ∃ V, A.alloc (.cells #[.int .u32 0, .int .u32 0, .int .u32 0, .int .u32 0, .int .u32 0, .int .u32 0, .int .u32 0, .int .u32 0, .int .u32 0, .int .u32 0, .int .u32 0, .int .u32 0, .int .u32 0, .int .u32 0, .int .u32 0, .int .u32 0] 28) = V := ⟨_, rfl⟩
        have B12 : Hid (Bk V q12 28 [.int .u32 0, .int .u32 0, .int .u32 0, .int .u32 0, .int .u32 0, .int .u32 0, .int .u32 0, .int .u32 0, .int .u32 0, .int .u32 0, .int .u32 0, .int .u32 0, .int .u32 0, .int .u32 0, .int .u32 0, .int .u32 0]) := by rw [← hW, ← hg]; exact Bk.new A [.int .u32 0, .int .u32 0, .int .u32 0, .int .u32 0, .int .u32 0, .int .u32 0, .int .u32 0, .int .u32 0, .int .u32 0, .int .u32 0, .int .u32 0, .int .u32 0, .int .u32 0, .int .u32 0, .int .u32 0, .int .u32 0] 28
        replace S : Hid (St 71 V F bs2 ks) := by rw [← hW]; exact S.out.alloc _
        replace C : Hid (Ch W V [F.gb]) := by rw [← hW]; exact C.out.alloc _
        replace B6 : Hid (Bk V go 28 [.int .u32 a0, .int .u32 a1, .int .u32 a2, .int .u32 a3, .int .u32 a4, .int .u32 a5, .int .u32 a6, .int .u32 a7, .int .u32 a8, .int .u32 a9, .int .u32 a10, .int .u32 a11, .int .u32 a12, .int .u32 a13, .int .u32 a14, .int .u32 a15]) := by rw [← hW]; exact B6.out.alloc _
        replace B13 : Hid (Bk V q13 30 [.int .i64 0, .int .i64 0, .bool false, .bool false, .bool false, .int .i64 0, .int .i64 0, .int .i64 0, .int .i64 0, .int .i64 0]) := by rw [← hW]; exact B13.out.alloc _
        rw [hW]
        try rw [hg]
        clear hW hg hHeld
        clear A
        rename World => A
        refine hK.out _ _ ?_ (fun hHeld => ?_)
        focus ((try dsimp only); exact B6.out)
        clear hK K
        try simp only [Act.put, List.setIfInBounds_toArray, List.set_cons_zero, List.set_cons_succ]
        exact TL A q12 q13 ⟨S.out, C.out, B6.out, B12.out, B13.out, ge12, ge13, by omega, by omega, by omega, trivial⟩
      refine consL rfl (fun K hK => ?_) AllReadyH.nil
      go_simp
      obtain ⟨q12, hg⟩ : ∃ q, A.heap.size = q := ⟨_, rfl⟩
      have ge12 : W.heap.size ≤ q12 := by have := C.out.size; omega
      have ne12_6 : q12 ≠ go := by have := B6.out.lt; omega
      have ne12_13 : q12 ≠ q13 := by have := B13.out.lt; omega
      obtain ⟨V, hW⟩ : ∃ V, A.alloc (.cells #[.int .u32 0, .int .u32 0, .int .u32 0, .int .u32 0, .int .u32 0, .int .u32 0, .int .u32 0, .int .u32 0, .int .u32 0, .int .u32 0, .int .u32 0, .int .u32 0, .int .u32 0, .int .u32 0, .int .u32 0, .int .u32 0] 28) = V := ⟨_, rfl⟩
      have B12 : Hid (Bk V q12 28 [.int .u32 0, .int .u32 0, .int .u32 0, .int .u32 0, .int .u32 0, .int .u32 0, .int .u32 0, .int .u32 0, .int .u32 0, .int .u32 0, .int .u32 0, .int .u32 0, .int .u32 0, .int .u32 0, .int .u32 0, .int .u32 0]) := by rw [← hW, ← hg]; exact Bk.new A [.int .u32 0, .int .u32 0, .int .u32 0, .int .u32 0, .int .u32 0, .int .u32 0, .int .u32 0, .int .u32 0, .int .u32 0, .int .u32 0, .int .u32 0, .int .u32 0, .int .u32 0, .int .u32 0, .int .u32 0, .int .u32 0] 28
      replace S : Hid (St 71 V F bs ks) := by rw [← hW]; exact S.out.alloc _
      replace C : Hid (Ch W V [F.gb]) := by rw [← hW]; exact C.out.alloc _
      replace B6 : Hid (Bk V go 28 [.int .u32 a0, .int .u32 a1, .int .u32 a2, .int .u32 a3, .int .u32 a4, .int .u32 a5, .int .u32 a6, .int .u32 a7, .int .u32 a8, .int .u32 a9, .int .u32 a10, .int .u32 a11, .int .u32 a12, .int .u32 a13, .int .u32 a14, .int .u32 a15]) := by rw [← hW]; exact B6.out.alloc _
      replace B13 : Hid (Bk V q13 30 [.int .i64 0, .int .i64 0, .bool false, .bool false, .bool false, .int .i64 0, .int .i64 0, .int .i64 0, .int .i64 0, .int .i64 0]) := by rw [← hW]; exact B13.out.alloc _
      rw [hW]
      try rw [hg]
      clear hW hg hHeld
      clear A
      rename World => A
      refine hK.out _ _ ?_ (fun hHeld => ?_)
      focus ((try dsimp only); exact B6.out)
      clear hK K
      try simp only [Act.put, List.setIfInBounds_toArray, List.set_cons_zero, List.set_cons_succ]
      refine wpAnyH_ready (rs := [5]) (by kernel_rfl) (by simp) ?_
      refine consL rfl (fun K hK => ?_) AllReadyH.nil
      go_simp
      go_at_call 14
      refine (HX.out _ S.out).mono ?_
      rintro e V ⟨rfl, hs, hc⟩
      replace S := Lib.hid hs
      replace C := Lib.hid (C.out.trans (hc.mono (by simp)))
      replace B6 := Lib.hid (B6.out.ch hc (by simp; omega))
      replace B13 := Lib.hid (B13.out.ch hc (by simp; omega))
      replace B12 := Lib.hid (B12.out.ch hc (by simp; omega))
      clear hs hc hHeld
      clear A
      rename World => A
      go_wp2_with fail
      refine hK.out _ _ ?_ (fun hHeld => ?_)
      focus ((try dsimp only); exact B6.out)
      clear hK K
      try simp only [Act.put, List.setIfInBounds_toArray, List.set_cons_zero, List.set_cons_succ]
      refine' takeL (i := 6) (v := _) rfl (by kernel_rfl) (by kernel_rfl) (by kernel_rfl) (fun c a w => hQ c a _ w rfl) (Or.inl ⟨by rfl, ?yy78⟩) (by assumption) ?rr78
      case yy78 => intro w hSw; (try dsimp only at hSw); go_simp; (try with_reducible rfl)
      try simp only [Act.put, List.setIfInBounds_toArray, List.set_cons_zero, List.set_cons_succ]
      refine' takeL (i := 7) (v := _) rfl (by kernel_rfl) (by kernel_rfl) (by kernel_rfl) (fun c a w => hQ c a _ w rfl) (Or.inl ⟨by rfl, ?yy79⟩) (by assumption) ?rr79
      case yy79 => intro w hSw; (try dsimp only at hSw); go_simp; (try with_reducible rfl)
      try simp only [Act.put, List.setIfInBounds_toArray, List.set_cons_zero, List.set_cons_succ]
      refine' takeL (i := 8) (v := _) rfl (by kernel_rfl) (by kernel_rfl) (by kernel_rfl) (fun c a w => hQ c a _ w rfl) (Or.inl ⟨by rfl, ?yy80⟩) (by assumption) ?rr80
      case yy80 => intro w hSw; (try dsimp only at hSw); go_simp; (try with_reducible rfl)
      try simp only [Act.put, List.setIfInBounds_toArray, List.set_cons_zero, List.set_cons_succ]
      refine' takeL (i := 9) (v := _) rfl (by kernel_rfl) (by kernel_rfl) (by kernel_rfl) (fun c a w => hQ c a _ w rfl) (Or.inl ⟨by rfl, ?yy81⟩) (by assumption) ?rr81
      case yy81 => intro w hSw; (try dsimp only at hSw); go_simp; (try with_reducible rfl)
      try simp only [Act.put, List.setIfInBounds_toArray, List.set_cons_zero, List.set_cons_succ]
      exact TL A q12 q13 ⟨S.out, C.out, B6.out, B12.out, B13.out, ge12, ge13, by omega, by omega, by omega, trivial⟩
    refine consL rfl (fun K hK => ?_) ?_
    · go_simp
      obtain ⟨q12, hg⟩ : ∃ q, A.heap.size = q := ⟨_, rfl⟩
      have ge12 : W.heap.size ≤ q12 := by have := C.out.size; omega
      have ne12_6 : q12 ≠ go := by have := B6.out.lt; omega
      obtain ⟨V, hW⟩ : ∃ V, A.alloc (.cells #[.int .u32 0, .int .u32 0, .int .u32 0, .int .u32 0, .int .u32 0, .int .u32 0, .int .u32 0, .int .u32 0, .int .u32 0, .int .u32 0, .int .u32 0, .int .u32 0, .int .u32 0, .int .u32 0, .int .u32 0, .int .u32 0] 28) = V := ⟨_, rfl⟩
      have B12 : Hid (Bk V q12 28 [.int .u32 0, .int .u32 0, .int .u32 0, .int .u32 0, .int .u32 0, .int .u32 0, .int .u32 0, .int .u32 0, .int .u32 0, .int .u32 0, .int .u32 0, .int .u32 0, .int .u32 0, .int .u32 0, .int .u32 0, .int .u32 0]) := by rw [← hW, ← hg]; exact Bk.new A [.int .u32 0, .int .u32 0, .int .u32 0, .int .u32 0, .int .u32 0, .int .u32 0, .int .u32 0, .int .u32 0, .int .u32 0, .int .u32 0, .int .u32 0, .int .u32 0, .int .u32 0, .int .u32 0, .int .u32 0, .int .u32 0] 28
      replace S : Hid (St 71 V F bs ks) := by rw [← hW]; exact S.out.alloc _
      replace C : Hid (Ch W V [F.gb]) := by rw [← hW]; exact C.out.alloc _
      replace B6 : Hid (Bk V go 28 [.int .u32 a0, .int .u32 a1, .int .u32 a2, .int .u32 a3, .int .u32 a4, .int .u32 a5, .int .u32 a6, .int .u32 a7, .int .u32 a8, .int .u32 a9, .int .u32 a10, .int .u32 a11, .int .u32 a12, .int .u32 a13, .int .u32 a14, .int .u32 a15]) := by rw [← hW]; exact B6.out.alloc _
      rw [hW]
      try rw [hg]
      clear hW hg hHeld
      clear A
      rename World => A
      refine hK.out _ _ ?_ (fun hHeld => ?_)
      focus ((try dsimp only); exact B6.out)
      clear hK K
      try simp only [Act.put, List.setIfInBounds_toArray, List.set_cons_zero, List.set_cons_succ]
      refine wpAnyH_ready (rs := [1, 11]) (by kernel_rfl) (by simp) ?_
      refine consL rfl (fun K hK => ?_) ?_
      · go_simp
        go_at_call 17
        refine (ss_c 215 (n : Int) _ (by omega) (by omega)).mono ?_
        rintro e V ⟨rfl, hb⟩
        replace S := Lib.hid (S.out.belowS hb)
        replace C := Lib.hid (C.out.trans (Ch.of_below hb _))
        replace B6 := Lib.hid (B6.out.keep hb)
        replace B12 := Lib.hid (B12.out.keep hb)
        clear hb hHeld
        clear A
        rename World => A
        go_wp2_with fail
        refine hK.out _ _ ?_ (fun hHeld => ?_)
        focus ((try dsimp only); exact B6.out)
        clear hK K
        try simp only [Act.put, List.setIfInBounds_toArray, List.set_cons_zero, List.set_cons_succ]
        refine wpAnyH_ready (rs := [5, 11]) (by kernel_rfl) (by simp) ?_
        refine consL rfl (fun K hK => ?_) ?_
        · go_simp
          go_at_call 14
          refine (HX.out _ S.out).mono ?_
          rintro e V ⟨rfl, hs, hc⟩
          replace S := Lib.hid hs
          replace C := Lib.hid (C.out.trans (hc.mono (by simp)))
          replace B6 := Lib.hid (B6.out.ch hc (by simp; omega))
          replace B12 := Lib.hid (B12.out.ch hc (by simp; omega))
          clear hs hc hHeld
          clear A
          rename World => A
          go_wp2_with fail
          refine hK.out _ _ ?_ (fun hHeld => ?_)
          focus ((try dsimp only); exact B6.out)
          clear hK K
          try simp only [Act.put, List.setIfInBounds_toArray, List.set_cons_zero, List.set_cons_succ]
          refine' takeL (i := 6) (v := _) rfl (by kernel_rfl) (by kernel_rfl) (by kernel_rfl) (fun c a w => hQ c a _ w rfl) (Or.inl ⟨by rfl, ?yy82⟩) (by assumption) ?rr82
          case yy82 => intro w hSw; (try dsimp only at hSw); go_simp; (try with_reducible rfl)
          try simp only [Act.put, List.setIfInBounds_toArray, List.set_cons_zero, List.set_cons_succ]
          refine' takeL (i := 7) (v := _) rfl (by kernel_rfl) (by kernel_rfl) (by kernel_rfl) (fun c a w => hQ c a _ w rfl) (Or.inl ⟨by rfl, ?yy83⟩) (by assumption) ?rr83
          case yy83 => intro w hSw; (try dsimp only at hSw); go_simp; (try with_reducible rfl)
          try simp only [Act.put, List.setIfInBounds_toArray, List.set_cons_zero, List.set_cons_succ]
          refine' takeL (i := 8) (v := _) rfl (by kernel_rfl) (by kernel_rfl) (by kernel_rfl) (fun c a w => hQ c a _ w rfl) (Or.inl ⟨by rfl, ?yy84⟩) (by assumption) ?rr84
          case yy84 => intro w hSw; (try dsimp only at hSw); go_simp; (try with_reducible rfl)
          try simp only [Act.put, List.setIfInBounds_toArray, List.set_cons_zero, List.set_cons_succ]
          refine' takeL (i := 9) (v := _) rfl (by kernel_rfl) (by kernel_rfl) (by kernel_rfl) (fun c a w => hQ c a _ w rfl) (Or.inl ⟨by rfl, ?yy85⟩) (by assumption) ?rr85
          case yy85 => intro w hSw; (try dsimp only at hSw); go_simp; (try with_reducible rfl)
          try simp only [Act.put, List.setIfInBounds_toArray, List.set_cons_zero, List.set_cons_succ]
          refine wpAnyH_ready (rs := [11]) (by kernel_rfl) (by simp) ?_
          refine consL rfl (fun K hK => ?_) AllReadyH.nil
          go_simp
          obtain ⟨q13, hg⟩ : ∃ q, A.heap.size = q := ⟨_, rfl⟩
          have ge13 : W.heap.size ≤ q13 := by have := C.out.size; omega
          have ne13_6 : q13 ≠ go := by have := B6.out.lt; omega
          have ne13_12 : q13 ≠ q12 := by have := B12.out.lt; omega
          obtain ⟨V, hW⟩ : ∃ V, A.alloc (.cells #[.int .i64 0, .int .i64 0, .bool false, .bool false, .bool false, .int .i64 0, .int .i64 0, .int .i64 0, .int .i64 0, .int .i64 0] 30) = V := ⟨_, rfl⟩
          have B13 : Hid (Bk V q13 30 [.int .i64 0, .int .i64 0, .bool false, .bool false, .bool false, .int .i64 0, .int .i64 0, .int .i64 0, .int .i64 0, .int .i64 0]) := by rw [← hW, ← hg]; exact Bk.new A [.int .i64 0, .int .i64 0, .bool false, .bool false, .bool false, .int .i64 0, .int .i64 0, .int .i64 0, .int .i64 0, .int .i64 0] 30
          replace S : Hid (St 71 V F bs2 ks) := by rw [← hW]; exact S.out.alloc _
          replace C : Hid (Ch W V [F.gb]) := by rw [← hW]; exact C.out.alloc _
          replace B6 : Hid (Bk V go 28 [.int .u32 a0, .int .u32 a1, .int .u32 a2, .int .u32 a3, .int .u32 a4, .int .u32 a5, .int .u32 a6, .int .u32 a7, .int .u32 a8, .int .u32 a9, .int .u32 a10, .int .u32 a11, .int .u32 a12, .int .u32 a13, .int .u32 a14, .int .u32 a15]) := by rw [← hW]; exact B6.out.alloc _
          replace B12 : Hid (Bk V q12 28 [.int .u32 0, .int .u32 0, .int .u32 0, .int .u32 0, .int .u32 0, .int .u32 0, .int .u32 0, .int .u32 0, .int .u32 0, .int .u32 0, .int .u32 0, .int .u32 0, .int .u32 0, .int .u32 0, .int .u32 0, .int .u32 0]) := by rw [← hW]; exact B12.out.alloc _
          rw [hW]
          try rw [hg]
          clear hW hg hHeld
          clear A
          rename World => A
          refine hK.out _ _ ?_ (fun hHeld => ?_)
          focus ((try dsimp only); exact B6.out)
          clear hK K
          try simp only [Act.put, List.setIfInBounds_toArray, List.set_cons_zero, List.set_cons_succ]
          exact TL A q12 q13 ⟨S.out, C.out, B6.out, B12.out, B13.out, ge12, ge13, by omega, by omega, by omega, trivial⟩
        refine consL rfl (fun K hK => ?_) AllReadyH.nil
        go_simp
        obtain ⟨q13, hg⟩ : ∃ q, A.heap.size = q := ⟨_, rfl⟩
        have ge13 : W.heap.size ≤ q13 := by have := C.out.size; omega
        have ne13_6 : q13 ≠ go := by have := B6.out.lt; omega
        have ne13_12 : q13 ≠ q12 := by have := B12.out.lt; omega
        obtain ⟨V, hW⟩ : ∃ V, A.alloc (.cells #[.int .i64 0, .int .i64 0, .bool false, .bool false, .bool false, .int .i64 0, .int .i64 0, .int .i64 0, .int .i64 0, .int .i64 0] 30) = V := ⟨_, rfl⟩
        have B13 : Hid (Bk V q13 30 [.int .i64 0, .int .i64 0, .bool false, .bool false, .bool false, .int .i64 0, .int .i64 0, .int .i64 0, .int .i64 0, .int .i64 0]) := by rw [← hW, ← hg]; exact Bk.new A [.int .i64 0, .int .i64 0, .bool false, .bool false, .bool false, .int .i64 0, .int .i64 0, .int .i64 0, .int .i64 0, .int .i64 0] 30
        replace S : Hid (St 71 V F bs ks) := by rw [← hW]; exact S.out.alloc _
        replace C : Hid (Ch W V [F.gb]) := by rw [← hW]; exact C.out.alloc _
        replace B6 : Hid (Bk V go 28 [.int .u32 a0, .int .u32 a1, .int .u32 a2, .int .u32 a3, .int .u32 a4, .int .u32 a5, .int .u32 a6, .int .u32 a7, .int .u32 a8, .int .u32 a9, .int .u32 a10, .int .u32 a11, .int .u32 a12, .int .u32 a13, .int .u32 a14, .int .u32 a15]) := by rw [← hW]; exact B6.out.alloc _
        replace B12 : Hid (Bk V q12 28 [.int .u32 0, .int .u32 0, .int .u32 0, .int .u32 0, .int .u32 0, .int .u32 0, .int .u32 0, .int .u32 0, .int .u32 0, .int .u32 0, .int .u32 0, .int .u32 0, .int .u32 0, .int .u32 0, .int .u32 0, .int .u32 0]) := by rw [← hW]; exact B12.out.alloc _
        rw [hW]
        try rw [hg]
        clear hW hg hHeld
        clear A
        rename World => A
        refine hK.out _ _ ?_ (fun hHeld => ?_)
        focus ((try dsimp only); exact B6.out)
        clear hK K
        try simp only [Act.put, List.setIfInBounds_toArray, List.set_cons_zero, List.set_cons_succ]
        refine wpAnyH_ready (rs := [5]) (by kernel_rfl) (by simp) ?_
        refine consL rfl (fun K hK => ?_) AllReadyH.nil
        go_simp
        go_at_call 14
        refine (HX.out _ S.out).mono ?_
        rintro e V ⟨rfl, hs, hc⟩
        replace S := Lib.hid hs
        replace C := Lib.hid (C.out.trans (hc.mono (by simp)))
        replace B6 := Lib.hid (B6.out.ch hc (by simp; omega))
        replace B12 := Lib.hid (B12.out.ch hc (by simp; omega))
        replace B13 := Lib.hid (B13.out.ch hc (by simp; omega))
        clear hs hc hHeld
        clear A
        rename World => A
        go_wp2_with fail
        refine hK.out _ _ ?_ (fun hHeld => ?_)
        focus ((try dsimp only); exact B6.out)
        clear hK K
        try simp only [Act.put, List.setIfInBounds_toArray, List.set_cons_zero, List.set_cons_succ]
        refine' takeL (i := 6) (v := _) rfl (by kernel_rfl) (by kernel_rfl) (by kernel_rfl) (fun c a w => hQ c a _ w rfl) (Or.inl ⟨by rfl, ?yy86⟩) (by assumption) ?rr86
        case yy86 => intro w hSw; (try dsimp only at hSw); go_simp; (try with_reducible rfl)
        try simp only [Act.put, List.setIfInBounds_toArray, List.set_cons_zero, List.set_cons_succ]
        refine' takeL (i := 7) (v := _) rfl (by kernel_rfl) (by kernel_rfl) (by kernel_rfl) (fun c a w => hQ c a _ w rfl) (Or.inl ⟨by rfl, ?yy87⟩) (by assumption) ?rr87
        case yy87 => intro w hSw; (try dsimp only at hSw); go_simp; (try with_reducible rfl)
        try simp only [Act.put, List.setIfInBounds_toArray, List.set_cons_zero, List.set_cons_succ]
        refine' takeL (i := 8) (v := _) rfl (by kernel_rfl) (by kernel_rfl) (by kernel_rfl) (fun c a w => hQ c a _ w rfl) (Or.inl ⟨by rfl, ?yy88⟩) (by assumption) ?rr88
        case yy88 => intro w hSw; (try dsimp only at hSw); go_simp; (try with_reducible rfl)
        try simp only [Act.put, List.setIfInBounds_toArray, List.set_cons_zero, List.set_cons_succ]
        refine' takeL (i := 9) (v := _) rfl (by kernel_rfl) (by kernel_rfl) (by kernel_rfl) (fun c a w => hQ c a _ w rfl) (Or.inl ⟨by rfl, ?yy89⟩) (by assumption) ?rr89
        case yy89 => intro w hSw; (try dsimp only at hSw); go_simp; (try with_reducible rfl)
        try simp only [Act.put, List.setIfInBounds_toArray, List.set_cons_zero, List.set_cons_succ]
        exact TL A q12 q13 ⟨S.out, C.out, B6.out, B12.out, B13.out, ge12, ge13, by omega, by omega, by omega, trivial⟩
      refine consL rfl (fun K hK => ?_) AllReadyH.nil
      go_simp
      obtain ⟨q13, hg⟩ : ∃ q, A.heap.size = q := ⟨_, rfl⟩
      have ge13 : W.heap.size ≤ q13 := by have := C.out.size; omega
      have ne13_6 : q13 ≠ go := by have := B6.out.lt; omega
      have ne13_12 : q13 ≠ q12 := by have := B12.out.lt; omega
      obtain ⟨V, hW⟩ : ∃ V, A.alloc (.cells #[.int .i64 0, .int .i64 0, .bool false, .bool false, .bool false, .int .i64 0, .int .i64 0, .int .i64 0, .int .i64 0, .int .i64 0] 30) = V := ⟨_, rfl⟩
      have B13 : Hid (Bk V q13 30 [.int .i64 0, .int .i64 0, .bool false, .bool false, .bool false, .int .i64 0, .int .i64 0, .int .i64 0, .int .i64 0, .int .i64 0]) := by rw [← hW, ← hg]; exact Bk.new A [.int .i64 0, .int .i64 0, .bool false, .bool false, .bool false, .int .i64 0, .int .i64 0, .int .i64 0, .int .i64 0, .int .i64 0] 30
      replace S : Hid (St 71 V F bs ks) := by rw [← hW]; exact S.out.alloc _
      replace C : Hid (Ch W V [F.gb]) := by rw [← hW]; exact C.out.alloc _
      replace B6 : Hid (Bk V go 28 [.int .u32 a0, .int .u32 a1, .int .u32 a2, .int .u32 a3, .int .u32 a4, .int .u32 a5, .int .u32 a6, .int .u32 a7, .int .u32 a8, .int .u32 a9, .int .u32 a10, .int .u32 a11, .int .u32 a12, .int .u32 a13, .int .u32 a14, .int .u32 a15]) := by rw [← hW]; exact B6.out.alloc _
      replace B12 : Hid (Bk V q12 28 [.int .u32 0, .int .u32 0, .int .u32 0, .int .u32 0, .int .u32 0, .int .u32 0, .int .u32 0, .int .u32 0, .int .u32 0, .int .u32 0, .int .u32 0, .int .u32 0, .int .u32 0, .int .u32 0, .int .u32 0, .int .u32 0]) := by rw [← hW]; exact B12.out.alloc _
      rw [hW]
      try rw [hg]
      clear hW hg hHeld
      clear A
      rename World => A
      refine hK.out _ _ ?_ (fun hHeld => ?_)
      focus ((try dsimp only); exact B6.out)
      clear hK K
      try simp only [Act.put, List.setIfInBounds_toArray, List.set_cons_zero, List.set_cons_succ]
      refine wpAnyH_ready (rs := [1]) (by kernel_rfl) (by simp) ?_
      refine consL rfl (fun K hK => ?_) AllReadyH.nil
      go_simp
      go_at_call 17
      refine (ss_c 215 (n : Int) _ (by omega) (by omega)).mono ?_
      rintro e V ⟨rfl, hb⟩
      replace S := Lib.hid (S.out.belowS hb)
      replace C := Lib.hid (C.out.trans (Ch.of_below hb _))
      replace B6 := Lib.hid (B6.out.keep hb)
      replace B12 := Lib.hid (B12.out.keep hb)
      replace B13 := Lib.hid (B13.out.keep hb)
      clear hb hHeld
      clear A
      rename World => A
      go_wp2_with fail
      refine hK.out _ _ ?_ (fun hHeld => ?_)
      focus ((try dsimp only); exact B6.out)
      clear hK K
      try simp only [Act.put, List.setIfInBounds_toArray, List.set_cons_zero, List.set_cons_succ]
      refine wpAnyH_ready (rs := [5]) (by kernel_rfl) (by simp) ?_
      refine consL rfl (fun K hK => ?_) AllReadyH.nil
      go_simp
      go_at_call 14
      refine (HX.out _ S.out).mono ?_
      rintro e V ⟨rfl, hs, hc⟩
      replace S := Lib.hid hs
      replace C := Lib.hid (C.out.trans (hc.mono (by simp)))
      replace B6 := Lib.hid (B6.out.ch hc (by simp; omega))
      replace B12 := Lib.hid (B12.out.ch hc (by simp; omega))
      replace B13 := Lib.hid (B13.out.ch hc (by simp; omega))
      clear hs hc hHeld
      clear A
      rename World => A
      go_wp2_with fail
      refine hK.out _ _ ?_ (fun hHeld => ?_)
      focus ((try dsimp only); exact B6.out)
      clear hK K
      try simp only [Act.put, List.setIfInBounds_toArray, List.set_cons_zero, List.set_cons_succ]
      refine' takeL (i := 6) (v := _) rfl (by kernel_rfl) (by kernel_rfl) (by kernel_rfl) (fun c a w => hQ c a _ w rfl) (Or.inl ⟨by rfl, ?yy90⟩) (by assumption) ?rr90
      case yy90 => intro w hSw; (try dsimp only at hSw); go_simp; (try with_reducible rfl)
      try simp only [Act.put, List.setIfInBounds_toArray, List.set_cons_zero, List.set_cons_succ]
      refine' takeL (i := 7) (v := _) rfl (by kernel_rfl) (by kernel_rfl) (by kernel_rfl) (fun c a w => hQ c a _ w rfl) (Or.inl ⟨by rfl, ?yy91⟩) (by assumption) ?rr91
      case yy91 => intro w hSw; (try dsimp only at hSw); go_simp; (try with_reducible rfl)
      try simp only [Act.put, List.setIfInBounds_toArray, List.set_cons_zero, List.set_cons_succ]
      refine' takeL (i := 8) (v := _) rfl (by kernel_rfl) (by kernel_rfl) (by kernel_rfl) (fun c a w => hQ c a _ w rfl) (Or.inl ⟨by rfl, ?yy92⟩) (by assumption) ?rr92
      case yy92 => intro w hSw; (try dsimp only at hSw); go_simp; (try with_reducible rfl)
      try simp only [Act.put, List.setIfInBounds_toArray, List.set_cons_zero, List.set_cons_succ]
      refine' takeL (i := 9) (v := _) rfl (by kernel_rfl) (by kernel_rfl) (by kernel_rfl) (fun c a w => hQ c a _ w rfl) (Or.inl ⟨by rfl, ?yy93⟩) (by assumption) ?rr93
      case yy93 => intro w hSw; (try dsimp only at hSw); go_simp; (try with_reducible rfl)
      try simp only [Act.put, List.setIfInBounds_toArray, List.set_cons_zero, List.set_cons_succ]
      exact TL A q12 q13 ⟨S.out, C.out, B6.out, B12.out, B13.out, ge12, ge13, by omega, by omega, by omega, trivial⟩
    refine consL rfl (fun K hK => ?_) AllReadyH.nil
    go_simp
    obtain ⟨q13, hg⟩ : ∃ q, A.heap.size = q := ⟨_, rfl⟩
    have ge13 : W.heap.size ≤ q13 := by have := C.out.size; omega
    have ne13_6 : q13 ≠ go := by have := B6.out.lt; omega
    obtain ⟨V, hW⟩ : ∃ V, A.alloc (.cells #[.int .i64 0, .int .i64 0, .bool false, .bool false, .bool false, .int .i64 0, .int .i64 0, .int .i64 0, .int .i64 0, .int .i64 0] 30) = V := ⟨_, rfl⟩
    have B13 : Hid (Bk V q13 30 [.int .i64 0, .int .i64 0, .bool false, .bool false, .bool false, .int .i64 0, .int .i64 0, .int .i64 0, .int .i64 0, .int .i64 0]) := by rw [← hW, ← hg]; exact Bk.new A [.int .i64 0, .int .i64 0, .bool false, .bool false, .bool false, .int .i64 0, .int .i64 0, .int .i64 0, .int .i64 0, .int .i64 0] 30
    replace S : Hid (St 71 V F bs ks) := by rw [← hW]; exact S.out.alloc _
    replace C : Hid (Ch W V [F.gb]) := by rw [← hW]; exact C.out.alloc _
    replace B6 : Hid (Bk V go 28 [.int .u32 a0, .int .u32 a1, .int .u32 a2, .int .u32 a3, .int .u32 a4, .int .u32 a5, .int .u32 a6, .int .u32 a7, .int .u32 a8, .int .u32 a9, .int .u32 a10, .int .u32 a11, .int .u32 a12, .int .u32 a13, .int .u32 a14, .int .u32 a15]) := by rw [← hW]; exact B6.out.alloc _
    rw [hW]
    try rw [hg]
    clear hW hg hHeld
    clear A
    rename World => A
    refine hK.out _ _ ?_ (fun hHeld => ?_)
    focus ((try dsimp only); exact B6.out)
    clear hK K
    try simp only [Act.put, List.setIfInBounds_toArray, List.set_cons_zero, List.set_cons_succ]
    refine wpAnyH_ready (rs := [1, 10]) (by kernel_rfl) (by simp) ?_
    refine consL rfl (fun K hK => ?_) ?_
    · go_simp
      go_at_call 17
      refine (ss_c 215 (n : Int) _ (by omega) (by omega)).mono ?_
      rintro e V ⟨rfl, hb⟩
      replace S := Lib.hid (S.out.belowS hb)
      replace C := Lib.hid (C.out.trans (Ch.of_below hb _))
      replace B6 := Lib.hid (B6.out.keep hb)
      replace B13 := Lib.hid (B13.out.keep hb)
      clear hb hHeld
      clear A
      rename World => A
      go_wp2_with fail
      refine hK.out _ _ ?_ (fun hHeld => ?_)
      focus ((try dsimp only); exact B6.out)
      clear hK K
      try simp only [Act.put, List.setIfInBounds_toArray, List.set_cons_zero, List.set_cons_succ]
      refine wpAnyH_ready (rs := [5, 10]) (by kernel_rfl) (by simp) ?_
      refine consL rfl (fun K hK => ?_) ?_
      · go_simp
        go_at_call 14
        refine (HX.out _ S.out).mono ?_
        rintro e V ⟨rfl, hs, hc⟩
        replace S := Lib.hid hs
        replace C := Lib.hid (C.out.trans (hc.mono (by simp)))
        replace B6 := Lib.hid (B6.out.ch hc (by simp; omega))
        replace B13 := Lib.hid (B13.out.ch hc (by simp; omega))
        clear hs hc hHeld
        clear A
        rename World => A
        go_wp2_with fail
        refine hK.out _ _ ?_ (fun hHeld => ?_)
        focus ((try dsimp only); exact B6.out)
        clear hK K
        try simp only [Act.put, List.setIfInBounds_toArray, List.set_cons_zero, List.set_cons_succ]
        refine' takeL (i := 6) (v := _) rfl (by kernel_rfl) (by kernel_rfl) (by kernel_rfl) (fun c a w => hQ c a _ w rfl) (Or.inl ⟨by rfl, ?yy94⟩) (by assumption) ?rr94
        case yy94 => intro w hSw; (try dsimp only at hSw); go_simp; (try with_reducible rfl)
        try simp only [Act.put, List.setIfInBounds_toArray, List.set_cons_zero, List.set_cons_succ]
        refine' takeL (i := 7) (v := _) rfl (by kernel_rfl) (by kernel_rfl) (by kernel_rfl) (fun c a w => hQ c a _ w rfl) (Or.inl ⟨by rfl, ?yy95⟩) (by assumption) ?rr95
        case yy95 => intro w hSw; (try dsimp only at hSw); go_simp; (try with_reducible rfl)
        try simp only [Act.put, List.setIfInBounds_toArray, List.set_cons_zero, List.set_cons_succ]
        refine' takeL (i := 8) (v := _) rfl (by kernel_rfl) (by kernel_rfl) (by kernel_rfl) (fun c a w => hQ c a _ w rfl) (Or.inl ⟨by rfl, ?yy96⟩) (by assumption) ?rr96
        case yy96 => intro w hSw; (try dsimp only at hSw); go_simp; (try with_reducible rfl)
        try simp only [Act.put, List.setIfInBounds_toArray, List.set_cons_zero, List.set_cons_succ]
        refine' takeL (i := 9) (v := _) rfl (by kernel_rfl) (by kernel_rfl) (by kernel_rfl) (fun c a w => hQ c a _ w rfl) (Or.inl ⟨by rfl, ?yy97⟩) (by assumption) ?rr97
        case yy97 => intro w hSw; (try dsimp only at hSw); go_simp; (try with_reducible rfl)
        try simp only [Act.put, List.setIfInBounds_toArray, List.set_cons_zero, List.set_cons_succ]
        refine wpAnyH_ready (rs := [10]) (by kernel_rfl) (by simp) ?_
        refine consL rfl (fun K hK => ?_) AllReadyH.nil
        go_simp
        obtain ⟨q12, hg⟩ : ∃ q, A.heap.size = q := ⟨_, rfl⟩
        have ge12 : W.heap.size ≤ q12 := by have := C.out.size; omega
        have ne12_6 : q12 ≠ go := by have := B6.out.lt; omega
        have ne12_13 : q12 ≠ q13 := by have := B13.out.lt; omega
        obtain ⟨V, hW⟩ : ∃ V, A.alloc (.cells #[.int .u32 0, .int .u32 0, .int .u32 0, .int .u32 0, .int .u32 0, .int .u32 0, .int .u32 0, .int .u32 0, .int .u32 0, .int .u32 0, .int .u32 0, .int .u32 0, .int .u32 0, .int .u32 0, .int .u32 0, .int .u32 0] 28) = V := ⟨_, rfl⟩
        have B12 : Hid (Bk V q12 28 [.int .u32 0, .int .u32 0, .int .u32 0, .int .u32 0, .int .u32 0, .int .u32 0, .int .u32 0, .int .u32 0, .int .u32 0, .int .u32 0, .int .u32 0, .int .u32 0, .int .u32 0, .int .u32 0, .int .u32 0, .int .u32 0]) := by rw [← hW, ← hg]; exact Bk.new A [.int .u32 0, .int .u32 0, .int .u32 0, .int .u32 0, .int .u32 0, .int .u32 0, .int .u32 0, .int .u32 0, .int .u32 0, .int .u32 0, .int .u32 0, .int .u32 0, .int .u32 0, .int .u32 0, .int .u32 0, .int .u32 0] 28
        replace S : Hid (St 71 V F bs2 ks) := by rw [← hW]; exact S.out.alloc _
        replace C : Hid (Ch W V [F.gb]) := by rw [← hW]; exact C.out.alloc _
        replace B6 : Hid (Bk V go 28 [.int .u32 a0, .int .u32 a1, .int .u32 a2, .int .u32 a3, .int .u32 a4, .int .u32 a5, .int .u32 a6, .int .u32 a7, .int .u32 a8, .int .u32 a9, .int .u32 a10, .int .u32 a11, .int .u32 a12, .int .u32 a13, .int .u32 a14, .int .u32 a15]) := by rw [← hW]; exact B6.out.alloc _
        replace B13 : Hid (Bk V q13 30 [.int .i64 0, .int .i64 0, .bool false, .bool false, .bool false, .int .i64 0, .int .i64 0, .int .i64 0, .int .i64 0, .int .i64 0]) := by rw [← hW]; exact B13.out.alloc _
        rw [hW]
        try rw [hg]
        clear hW hg hHeld
        clear A
        rename World => A
        refine hK.out _ _ ?_ (fun hHeld => ?_)
        focus ((try dsimp only); exact B6.out)
        clear hK K
        try simp only [Act.put, List.setIfInBounds_toArray, List.set_cons_zero, List.set_cons_succ]
        exact TL A q12 q13 ⟨S.out, C.out, B6.out, B12.out, B13.out, ge12, ge13, by omega, by omega, by omega, trivial⟩
      refine consL rfl (fun K hK => ?_) AllReadyH.nil
      go_simp
      obtain ⟨q12, hg⟩ : ∃ q, A.heap.size = q := ⟨_, rfl⟩
      have ge12 : W.heap.size ≤ q12 := by have := C.out.size; omega
      have ne12_6 : q12 ≠ go := by have := B6.out.lt; omega
      have ne12_13 : q12 ≠ q13 := by have := B13.out.lt; omega
      obtain ⟨V, hW⟩ : ∃ V, A.alloc (.cells #[.int .u32 0, .int .u32 0, .int .u32 0, .int .u32 0, .int .u32 0, .int .u32 0, .int .u32 0, .int .u32 0, .int .u32 0, .int .u32 0, .int .u32 0, .int .u32 0, .int .u32 0, .int .u32 0, .int .u32 0, .int .u32 0] 28) = V := ⟨_, rfl⟩
      have B12 : Hid (Bk V q12 28 [.int .u32 0, .int .u32 0, .int .u32 0, .int .u32 0, .int .u32 0, .int .u32 0, .int .u32 0, .int .u32 0, .int .u32 0, .int .u32 0, .int .u32 0, .int .u32 0, .int .u32 0, .int .u32 0, .int .u32 0, .int .u32 0]) := by rw [← hW, ← hg]; exact Bk.new A [.int .u32 0, .int .u32 0, .int .u32 0, .int .u32 0, .int .u32 0, .int .u32 0, .int .u32 0, .int .u32 0, .int .u32 0, .int .u32 0, .int .u32 0, .int .u32 0, .int .u32 0, .int .u32 0, .int .u32 0, .int .u32 0] 28
      replace S : Hid (St 71 V F bs ks) := by rw [← hW]; exact S.out.alloc _
      replace C : Hid (Ch W V [F.gb]) := by rw [← hW]; exact C.out.alloc _
      replace B6 : Hid (Bk V go 28 [.int .u32 a0, .int .u32 a1, .int .u32 a2, .int .u32 a3, .int .u32 a4, .int .u32 a5, .int .u32 a6, .int .u32 a7, .int .u32 a8, .int .u32 a9, .int .u32 a10, .int .u32 a11, .int .u32 a12, .int .u32 a13, .int .u32 a14, .int .u32 a15]) := by rw [← hW]; exact B6.out.alloc _
      replace B13 : Hid (Bk V q13 30 [.int .i64 0, .int .i64 0, .bool false, .bool false, .bool false, .int .i64 0, .int .i64 0, .int .i64 0, .int .i64 0, .int .i64 0]) := by rw [← hW]; exact B13.out.alloc _
      rw [hW]
      try rw [hg]
      clear hW hg hHeld
      clear A
      rename World => A
      refine hK.out _ _ ?_ (fun hHeld => ?_)
      focus ((try dsimp only); exact B6.out)
      clear hK K
      try simp only [Act.put, List.setIfInBounds_toArray, List.set_cons_zero, List.set_cons_succ]
      refine wpAnyH_ready (rs := [5]) (by kernel_rfl) (by simp) ?_
      refine consL rfl (fun K hK => ?_) AllReadyH.nil
      go_simp
      go_at_call 14
      refine (HX.out _ S.out).mono ?_
      rintro e V ⟨rfl, hs, hc⟩
      replace S := Lib.hid hs
      replace C := Lib.hid (C.out.trans (hc.mono (by simp)))
      replace B6 := Lib.hid (B6.out.ch hc (by simp; omega))
      replace B13 := Lib.hid (B13.out.ch hc (by simp; omega))
      replace B12 := Lib.hid (B12.out.ch hc (by simp; omega))
      clear hs hc hHeld
      clear A
      rename World => A
      go_wp2_with fail
      refine hK.out _ _ ?_ (fun hHeld => ?_)
      focus ((try dsimp only); exact B6.out)
      clear hK K
      try simp only [Act.put, List.setIfInBounds_toArray, List.set_cons_zero, List.set_cons_succ]
      refine' takeL (i := 6) (v := _) rfl (by kernel_rfl) (by kernel_rfl) (by kernel_rfl) (fun c a w => hQ c a _ w rfl) (Or.inl ⟨by rfl, ?yy98⟩) (by assumption) ?rr98
      case yy98 => intro w hSw; (try dsimp only at hSw); go_simp; (try with_reducible rfl)
      try simp only [Act.put, List.setIfInBounds_toArray, List.set_cons_zero, List.set_cons_succ]
      refine' takeL (i := 7) (v := _) rfl (by kernel_rfl) (by kernel_rfl) (by kernel_rfl) (fun c a w => hQ c a _ w rfl) (Or.inl ⟨by rfl, ?yy99⟩) (by assumption) ?rr99
      case yy99 => intro w hSw; (try dsimp only at hSw); go_simp; (try with_reducible rfl)
      try simp only [Act.put, List.setIfInBounds_toArray, List.set_cons_zero, List.set_cons_succ]
      refine' takeL (i := 8) (v := _) rfl (by kernel_rfl) (by kernel_rfl) (by kernel_rfl) (fun c a w => hQ c a _ w rfl) (Or.inl ⟨by rfl, ?yy100⟩) (by assumption) ?rr100
      case yy100 => intro w hSw; (try dsimp only at hSw); go_simp; (try with_reducible rfl)
      try simp only [Act.put, List.setIfInBounds_toArray, List.set_cons_zero, List.set_cons_succ]
      refine' takeL (i := 9) (v := _) rfl (by kernel_rfl) (by kernel_rfl) (by kernel_rfl) (fun c a w => hQ c a _ w rfl) (Or.inl ⟨by rfl, ?yy101⟩) (by assumption) ?rr101
      case yy101 => intro w hSw; (try dsimp only at hSw); go_simp; (try with_reducible rfl)
      try simp only [Act.put, List.setIfInBounds_toArray, List.set_cons_zero, List.set_cons_succ]
      exact TL A q12 q13 ⟨S.out, C.out, B6.out, B12.out, B13.out, ge12, ge13, by omega, by omega, by omega, trivial⟩
    refine consL rfl (fun K hK => ?_) AllReadyH.nil
    go_simp
    obtain ⟨q12, hg⟩ : ∃ q, A.heap.size = q := ⟨_, rfl⟩
    have ge12 : W.heap.size ≤ q12 := by have := C.out.size; omega
    have ne12_6 : q12 ≠ go := by have := B6.out.lt; omega
    have ne12_13 : q12 ≠ q13 := by have := B13.out.lt; omega
    obtain ⟨V, hW⟩ : ∃ V, A.alloc (.cells #[.int .u32 0, .int .u32 0, .int .u32 0, .int .u32 0, .int .u32 0, .int .u32 0, .int .u32 0, .int .u32 0, .int .u32 0, .int .u32 0, .int .u32 0, .int .u32 0, .int .u32 0, .int .u32 0, .int .u32 0, .int .u32 0] 28) = V := ⟨_, rfl⟩
    have B12 : Hid (Bk V q12 28 [.int .u32 0, .int .u32 0, .int .u32 0, .int .u32 0, .int .u32 0, .int .u32 0, .int .u32 0, .int .u32 0, .int .u32 0, .int .u32 0, .int .u32 0, .int .u32 0, .int .u32 0, .int .u32 0, .int .u32 0, .int .u32 0]) := by rw [← hW, ← hg]; exact Bk.new A [.int .u32 0, .int .u32 0, .int .u32 0, .int .u32 0, .int .u32 0, .int .u32 0, .int .u32 0, .int .u32 0, .int .u32 0, .int .u32 0, .int .u32 0, .int .u32 0, .int .u32 0, .int .u32 0, .int .u32 0, .int .u32 0] 28
    replace S : Hid (St 71 V F bs ks) := by rw [← hW]; exact S.out.alloc _
    replace C : Hid (Ch W V [F.gb]) := by rw [← hW]; exact C.out.alloc _
    replace B6 : Hid (Bk V go 28 [.int .u32 a0, .int .u32 a1, .int .u32 a2, .int .u32 a3, .int .u32 a4, .int .u32 a5, .int .u32 a6, .int .u32 a7, .int .u32 a8, .int .u32 a9, .int .u32 a10, .int .u32 a11, .int .u32 a12, .int .u32 a13, .int .u32 a14, .int .u32 a15]) := by rw [← hW]; exact B6.out.alloc _
    replace B13 : Hid (Bk V q13 30 [.int .i64 0, .int .i64 0, .bool false, .bool false, .bool false, .int .i64 0, .int .i64 0, .int .i64 0, .int .i64 0, .int .i64 0]) := by rw [← hW]; exact B13.out.alloc _
    rw [hW]
    try rw [hg]
    clear hW hg hHeld
    clear A
    rename World => A
    refine hK.out _ _ ?_ (fun hHeld => ?_)
    focus ((try dsimp only); exact B6.out)
    clear hK K
    try simp only [Act.put, List.setIfInBounds_toArray, List.set_cons_zero, List.set_cons_succ]
    refine wpAnyH_ready (rs := [1]) (by kernel_rfl) (by simp) ?_
    refine consL rfl (fun K hK => ?_) AllReadyH.nil
    go_simp
    go_at_call 17
    refine (ss_c 215 (n : Int) _ (by omega) (by omega)).mono ?_
    rintro e V ⟨rfl, hb⟩
    replace S := Lib.hid (S.out.belowS hb)
    replace C := Lib.hid (C.out.trans (Ch.of_below hb _))
    replace B6 := Lib.hid (B6.out.keep hb)
    replace B13 := Lib.hid (B13.out.keep hb)
    replace B12 := Lib.hid (B12.out.keep hb)
    clear hb hHeld
    clear A
    rename World => A
    go_wp2_with fail
    refine hK.out _ _ ?_ (fun hHeld => ?_)
    focus ((try dsimp only); exact B6.out)
    clear hK K
    try simp only [Act.put, List.setIfInBounds_toArray, List.set_cons_zero, List.set_cons_succ]
    refine wpAnyH_ready (rs := [5]) (by kernel_rfl) (by simp) ?_
    refine consL rfl (fun K hK => ?_) AllReadyH.nil
    go_simp
    go_at_call 14
    refine (HX.out _ S.out).mono ?_
    rintro e V ⟨rfl, hs, hc⟩
    replace S := Lib.hid hs
    replace C := Lib.hid (C.out.trans (hc.mono (by simp)))
    replace B6 := Lib.hid (B6.out.ch hc (by simp; omega))
    replace B13 := Lib.hid (B13.out.ch hc (by simp; omega))
    replace B12 := Lib.hid (B12.out.ch hc (by simp; omega))
    clear hs hc hHeld
    clear A
    rename World => A
    go_wp2_with fail
    refine hK.out _ _ ?_ (fun hHeld => ?_)
    focus ((try dsimp only); exact B6.out)
    clear hK K
    try simp only [Act.put, List.setIfInBounds_toArray, List.set_cons_zero, List.set_cons_succ]
    refine' takeL (i := 6) (v := _) rfl (by kernel_rfl) (by kernel_rfl) (by kernel_rfl) (fun c a w => hQ c a _ w rfl) (Or.inl ⟨by rfl, ?yy102⟩) (by assumption) ?rr102
    case yy102 => intro w hSw; (try dsimp only at hSw); go_simp; (try with_reducible rfl)
    try simp only [Act.put, List.setIfInBounds_toArray, List.set_cons_zero, List.set_cons_succ]
    refine' takeL (i := 7) (v := _) rfl (by kernel_rfl) (by kernel_rfl) (by kernel_rfl) (fun c a w => hQ c a _ w rfl) (Or.inl ⟨by rfl, ?yy103⟩) (by assumption) ?rr103
    case yy103 => intro w hSw; (try dsimp only at hSw); go_simp; (try with_reducible rfl)
    try simp only [Act.put, List.setIfInBounds_toArray, List.set_cons_zero, List.set_cons_succ]
    refine' takeL (i := 8) (v := _) rfl (by kernel_rfl) (by kernel_rfl) (by kernel_rfl) (fun c a w => hQ c a _ w rfl) (Or.inl ⟨by rfl, ?yy104⟩) (by assumption) ?rr104
    case yy104 => intro w hSw; (try dsimp only at hSw); go_simp; (try with_reducible rfl)
    try simp only [Act.put, List.setIfInBounds_toArray, List.set_cons_zero, List.set_cons_succ]
    refine' takeL (i := 9) (v := _) rfl (by kernel_rfl) (by kernel_rfl) (by kernel_rfl) (fun c a w => hQ c a _ w rfl) (Or.inl ⟨by rfl, ?yy105⟩) (by assumption) ?rr105
    case yy105 => intro w hSw; (try dsimp only at hSw); go_simp; (try with_reducible rfl)
    try simp only [Act.put, List.setIfInBounds_toArray, List.set_cons_zero, List.set_cons_succ]
    exact TL A q12 q13 ⟨S.out, C.out, B6.out, B12.out, B13.out, ge12, ge13, by omega, by omega, by omega, trivial⟩
  case tail =>
    rintro A q12 q13 ⟨S, C, B6, B12, B13, ge12, ge13, ne_go_q12, ne_go_q13, ne_q12_q13, -⟩
    have hHeld := B6
    replace S := Lib.hid S
    replace C := Lib.hid C
    replace B6 := Lib.hid B6
    replace B12 := Lib.hid B12
    replace B13 := Lib.hid B13
    refine wpAnyH_ready (rs := [12]) (by kernel_rfl) (by simp) ?_
    refine consL rfl (fun K hK => ?_) AllReadyH.nil
    have cz := B12.out
    have cz0 := cz.cell (c := 0) rfl
    have fz0 := cz.free 0
    have cz1 := cz.cell (c := 1) rfl
    have fz1 := cz.free 1
    have cz2 := cz.cell (c := 2) rfl
    have fz2 := cz.free 2
    have cz3 := cz.cell (c := 3) rfl
    have fz3 := cz.free 3
    have cz4 := cz.cell (c := 4) rfl
    have fz4 := cz.free 4
    have cz5 := cz.cell (c := 5) rfl
    have fz5 := cz.free 5
    have cz6 := cz.cell (c := 6) rfl
    have fz6 := cz.free 6
    have cz7 := cz.cell (c := 7) rfl
    have fz7 := cz.free 7
    have cz8 := cz.cell (c := 8) rfl
    have fz8 := cz.free 8
    have cz9 := cz.cell (c := 9) rfl
    have fz9 := cz.free 9
    have cz10 := cz.cell (c := 10) rfl
    have fz10 := cz.free 10
    have cz11 := cz.cell (c := 11) rfl
    have fz11 := cz.free 11
    have cz12 := cz.cell (c := 12) rfl
    have fz12 := cz.free 12
    have cz13 := cz.cell (c := 13) rfl
    have fz13 := cz.free 13
    have cz14 := cz.cell (c := 14) rfl
    have fz14 := cz.free 14
    have cz15 := cz.cell (c := 15) rfl
    have fz15 := cz.free 15
    go_simp
    clear cz cz0 fz0 cz1 fz1 cz2 fz2 cz3 fz3 cz4 fz4 cz5 fz5 cz6 fz6 cz7 fz7 cz8 fz8 cz9 fz9 cz10 fz10 cz11 fz11 cz12 fz12 cz13 fz13 cz14 fz14 cz15 fz15
    obtain ⟨V, hW⟩ : ∃ V, ((((((((((((((((A.setCell ⟨q12, 0, none⟩ (.int .u32 n0)).setCell ⟨q12, 1, none⟩ (.int .u32 n1)).setCell ⟨q12, 2, none⟩ (.int .u32 n2)).setCell ⟨q12, 3, none⟩ (.int .u32 n3)).setCell ⟨q12, 4, none⟩ (.int .u32 n4)).setCell ⟨q12, 5, none⟩ (.int .u32 n5)).setCell ⟨q12, 6, none⟩ (.int .u32 n6)).setCell ⟨q12, 7, none⟩ (.int .u32 n7)).setCell ⟨q12, 8, none⟩ (.int .u32 n8)).setCell ⟨q12, 9, none⟩ (.int .u32 n9)).setCell ⟨q12, 10, none⟩ (.int .u32 n10)).setCell ⟨q12, 11, none⟩ (.int .u32 n11)).setCell ⟨q12, 12, none⟩ (.int .u32 n12)).setCell ⟨q12, 13, none⟩ (.int .u32 n13)).setCell ⟨q12, 14, none⟩ (.int .u32 n14)).setCell ⟨q12, 15, none⟩ (.int .u32 n15)) = V := ⟨_, rfl⟩
    have hc : Ch A V [q12] := by rw [← hW]; exact ch_n16 A q12 (.int .u32 n0) (.int .u32 n1) (.int .u32 n2) (.int .u32 n3) (.int .u32 n4) (.int .u32 n5) (.int .u32 n6) (.int .u32 n7) (.int .u32 n8) (.int .u32 n9) (.int .u32 n10) (.int .u32 n11) (.int .u32 n12) (.int .u32 n13) (.int .u32 n14) (.int .u32 n15)
    replace S := Lib.hid (S.out.chd hc (by simp; omega) (by simp; omega) (by simp; omega))
    replace C := Lib.hid (show Ch W V [F.gb] from (by rw [← hW]; exact ch_s16 C.out ge12 (.int .u32 n0) (.int .u32 n1) (.int .u32 n2) (.int .u32 n3) (.int .u32 n4) (.int .u32 n5) (.int .u32 n6) (.int .u32 n7) (.int .u32 n8) (.int .u32 n9) (.int .u32 n10) (.int .u32 n11) (.int .u32 n12) (.int .u32 n13) (.int .u32 n14) (.int .u32 n15)))
    replace B6 := Lib.hid (B6.out.ch hc (by simp; omega))
    replace B12 : Hid (Bk V q12 28 [.int .u32 n0, .int .u32 n1, .int .u32 n2, .int .u32 n3, .int .u32 n4, .int .u32 n5, .int .u32 n6, .int .u32 n7, .int .u32 n8, .int .u32 n9, .int .u32 n10, .int .u32 n11, .int .u32 n12, .int .u32 n13, .int .u32 n14, .int .u32 n15]) := by rw [← hW]; exact Bk.sets16 B12.out rfl (.int .u32 n0) (.int .u32 n1) (.int .u32 n2) (.int .u32 n3) (.int .u32 n4) (.int .u32 n5) (.int .u32 n6) (.int .u32 n7) (.int .u32 n8) (.int .u32 n9) (.int .u32 n10) (.int .u32 n11) (.int .u32 n12) (.int .u32 n13) (.int .u32 n14) (.int .u32 n15)
    replace B13 := Lib.hid (B13.out.ch hc (by simp; omega))
    rw [hW]
    clear hW hc hHeld
    clear A
    rename World => A
    refine hK.out _ _ ?_ (fun hHeld => ?_)
    focus ((try dsimp only); exact B6.out)
    clear hK K
    try simp only [Act.put, List.setIfInBounds_toArray, List.set_cons_zero, List.set_cons_succ]
    refine wpAnyH_ready (rs := [13]) (by kernel_rfl) (by simp) ?_
    refine consL rfl (fun K hK => ?_) AllReadyH.nil
    have cz := B13.out
    have cz0 := cz.cell (c := 0) rfl
    have fz0 := cz.free 0
    have cz1 := cz.cell (c := 1) rfl
    have fz1 := cz.free 1
    have cz2 := cz.cell (c := 2) rfl
    have fz2 := cz.free 2
    have cz3 := cz.cell (c := 3) rfl
    have fz3 := cz.free 3
    have cz4 := cz.cell (c := 4) rfl
    have fz4 := cz.free 4
    have cz5 := cz.cell (c := 5) rfl
    have fz5 := cz.free 5
    have cz6 := cz.cell (c := 6) rfl
    have fz6 := cz.free 6
    have cz7 := cz.cell (c := 7) rfl
    have fz7 := cz.free 7
    have cz8 := cz.cell (c := 8) rfl
    have fz8 := cz.free 8
    have cz9 := cz.cell (c := 9) rfl
    have fz9 := cz.free 9
    go_simp
    clear cz cz0 fz0 cz1 fz1 cz2 fz2 cz3 fz3 cz4 fz4 cz5 fz5 cz6 fz6 cz7 fz7 cz8 fz8 cz9 fz9
    obtain ⟨V, hW⟩ : ∃ V, ((((((((((A.setCell ⟨q13, 0, none⟩ (.int .i64 0)).setCell ⟨q13, 1, none⟩ (.int .i64 0)).setCell ⟨q13, 2, none⟩ (.bool false)).setCell ⟨q13, 3, none⟩ (.bool false)).setCell ⟨q13, 4, none⟩ (.bool false)).setCell ⟨q13, 5, none⟩ (.int .i64 0)).setCell ⟨q13, 6, none⟩ (.int .i64 0)).setCell ⟨q13, 7, none⟩ (.int .i64 cq)).setCell ⟨q13, 8, none⟩ (.int .i64 0)).setCell ⟨q13, 9, none⟩ (.int .i64 0)) = V := ⟨_, rfl⟩
    have hc : Ch A V [q13] := by rw [← hW]; exact ch_n10 A q13 (.int .i64 0) (.int .i64 0) (.bool false) (.bool false) (.bool false) (.int .i64 0) (.int .i64 0) (.int .i64 cq) (.int .i64 0) (.int .i64 0)
    replace S := Lib.hid (S.out.chd hc (by simp; omega) (by simp; omega) (by simp; omega))
    replace C := Lib.hid (show Ch W V [F.gb] from (by rw [← hW]; exact ch_s10 C.out ge13 (.int .i64 0) (.int .i64 0) (.bool false) (.bool false) (.bool false) (.int .i64 0) (.int .i64 0) (.int .i64 cq) (.int .i64 0) (.int .i64 0)))
    replace B6 := Lib.hid (B6.out.ch hc (by simp; omega))
    replace B12 := Lib.hid (B12.out.ch hc (by simp; omega))
    replace B13 : Hid (Bk V q13 30 [.int .i64 0, .int .i64 0, .bool false, .bool false, .bool false, .int .i64 0, .int .i64 0, .int .i64 cq, .int .i64 0, .int .i64 0]) := by rw [← hW]; exact Bk.sets10 B13.out rfl (.int .i64 0) (.int .i64 0) (.bool false) (.bool false) (.bool false) (.int .i64 0) (.int .i64 0) (.int .i64 cq) (.int .i64 0) (.int .i64 0)
    rw [hW]
    clear hW hc hHeld
    clear A
    rename World => A
    refine hK.out _ _ ?_ (fun hHeld => ?_)
    focus ((try dsimp only); exact B6.out)
    clear hK K
    try simp only [Act.put, List.setIfInBounds_toArray, List.set_cons_zero, List.set_cons_succ]
    refine takeL (i := 14) (v := .int .i64 cd) rfl (by kernel_rfl) (by kernel_rfl) (by kernel_rfl) (fun c a w => hQ c a _ w rfl) (Or.inl ⟨by rfl, ?_⟩) (by assumption) ?_
    focus (intro w hSw; (try dsimp only at hSw); go_simp; (try with_reducible rfl))
    try simp only [Act.put, List.setIfInBounds_toArray, List.set_cons_zero, List.set_cons_succ]
    refine wpAnyH_done (by kernel_rfl) ?_ _
    exact H.out _ _ _ _ _ _ _ _ _ _ _ q12 q13 0 S.out B6.out B12.out B13.out ge12 ge13 C.out
end Go.Proofs.Ythjdjbipfdigeaa

