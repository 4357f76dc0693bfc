/- Contracts and laws on the way to the statement, text 23 of 25. Conditions: as each states them. -/
import Derived.Test.YthjdjbipfdigeaaKn22
namespace Go.Proofs.Ythjdjbipfdigeaa
open Go.RowKit
set_option maxRecDepth 100000
set_option linter.unusedVariables false
set_option linter.unusedSimpArgs false
set_option maxRecDepth 1000000 in
set_option maxHeartbeats 16000000 in
theorem kb_reg6 {u1 u2 u4 u5 u6 u7 u8 u9 u10 u11 u12 u13 u14 u15 u16 u17 u18 u19 u20 u21 u22 u23 u24 u25 u26 u27 u28 u29 u30 u31 u32 u33 u34 u35 u36 u37 u38 u39 u40 u41 u42 u43 u44 u45 u46 u47 u48 u49 u50 u51 u52 u53 u54 u55 u56 u57 u58 u59 u60 u61 u62 u63 u64 u65 u66 u67 u68 u69 u70 u71 u72 u73 u74 u75 u76 u77 u78 u79 u80 u81 u82 u83 u84 u85 u86 u87 u88 u89 u90 u91 u92 u93 u94 u95 u96 u97 u98 u99 u100 u101 u102 u103 u104 u105 u106 u107 u108 u109 u110 u111 u112 u113 u114 u115 u116 u117 u118 u119 u120 u121 u122 u123 u124 u125 u126 u127 u128 u129 u130 u131 u132 u133 u134 u135 u136 u137 u138 u139 u140 u141 u142 u143 u144 u145 : Value} {cd : Int} {bs2 : List Int} {F : Foot} {bs ks : List Int} {gz z_ : Nat} {ops : Array Oper} (hops : (Try.f20.body.bind (regOpsH 6)) = some ops) {Q : Exit → Act → World → Prop} {ds : List Deferred} {W : World} (hQ : ∀ (c : List PanicEntry) (a a' : Act) (w : World), a'.defers = a.defers → Q (.panic c) a' w → Q (.panic c) a w) (hS : St 71 W F bs ks) (hB3 : Bk W gz 30 [.int .i64 0, .int .i64 0, .bool false, .bool false, .bool false, .int .i64 0, .int .i64 0, .int .i64 0, .int .i64 0, .int .i64 0]) (hn3 : gz ≠ F.gb) (hm3 : gz ≠ F.g) (hk3 : gz ≠ F.gk) (hx : ∀ w, St 71 w F bs ks → Calls Try.prog 14 #[.agg #[.int .i64 210, .int .i64 5, .int .i64 0, .int .i64 0, .int .i64 0, .int .i64 14, .int .i64 0, .int .i64 15, .int .i64 0, .int .i64 2, .int .i64 0, .int .i64 0], .agg #[.int .u32 0, .int .u32 0, .int .u32 0, .int .u32 0, .int .u32 0, .int .u32 0, .int .u32 0, .int .u32 0, .int .u32 0, .int .u32 0, .int .u32 0, .int .u32 0, .int .u32 0, .int .u32 0, .int .u32 601, .int .u32 600], .agg #[.int .i64 0, .int .i64 0, .bool false, .bool false, .bool false, .int .i64 0, .int .i64 0, .int .i64 0, .int .i64 0, .int .i64 0], .pointer (some ⟨F.g, 0, none⟩)] w fun e w' => e = .returned (.tuple #[.agg #[.int .u32 0, .int .u32 0, .int .u32 0, .int .u32 0, .int .u32 0, .int .u32 0, .int .u32 0, .int .u32 0, .int .u32 0, .int .u32 0, .int .u32 0, .int .u32 0, .int .u32 0, .int .u32 0, .int .u32 601, .int .u32 600], .agg #[.int .i64 0, .int .i64 0, .bool false, .bool false, .bool false, .int .i64 0, .int .i64 0, .int .i64 0, .int .i64 0, .int .i64 0], .int .i64 cd]) ∧ St 71 w' F bs2 ks ∧ Ch w w' [F.gb])
    (h : ∀ (w' : World) (x43 x44 x45 x46 x47 x42 x48 x49 x50 : Value) (g10 g11 z_ : Nat), St 71 w' F bs2 ks → Bk w' gz 30 [.int .i64 0, .int .i64 0, .bool false, .bool false, .bool false, .int .i64 0, .int .i64 0, .int .i64 0, .int .i64 0, .int .i64 0] → Bk w' g10 28 [.int .u32 0, .int .u32 0, .int .u32 0, .int .u32 0, .int .u32 0, .int .u32 0, .int .u32 0, .int .u32 0, .int .u32 0, .int .u32 0, .int .u32 0, .int .u32 0, .int .u32 0, .int .u32 0, .int .u32 601, .int .u32 600] → Bk w' g11 30 [.int .i64 0, .int .i64 0, .bool false, .bool false, .bool false, .int .i64 0, .int .i64 0, .int .i64 0, .int .i64 0, .int .i64 0] → W.heap.size ≤ g10 → W.heap.size ≤ g11 →  Ch W w'  [F.gb] → Q .normal { tmps := #[.pointer (some ⟨F.g, 0, none⟩), u1, u2, .pointer (some ⟨gz, 0, none⟩), u4, u5, u6, u7, u8, u9, .pointer (some ⟨g10, 0, none⟩), .pointer (some ⟨g11, 0, none⟩), .int .i64 cd, u13, u14, u15, u16, u17, u18, u19, u20, u21, u22, u23, u24, u25, u26, u27, u28, u29, u30, u31, u32, u33, u34, u35, u36, u37, u38, u39, u40, u41, x42, x43, x44, x45, x46, x47, x48, x49, x50, u51, u52, u53, u54, u55, u56, u57, u58, u59, u60, u61, u62, u63, u64, u65, u66, u67, u68, u69, u70, u71, u72, u73, u74, u75, u76, u77, u78, u79, u80, u81, u82, u83, u84, u85, u86, u87, u88, u89, u90, u91, u92, u93, u94, u95, u96, u97, u98, u99, u100, u101, u102, u103, u104, u105, u106, u107, u108, u109, u110, u111, u112, u113, u114, u115, u116, u117, u118, u119, u120, u121, u122, u123, u124, u125, u126, u127, u128, u129, u130, u131, u132, u133, u134, u135, u136, u137, u138, u139, u140, u141, u142, u143, u144, u145], defers := ds } w') : Code.wp Try.prog (Code.region 6 ops true) Q { tmps := #[.pointer (some ⟨F.g, 0, none⟩), u1, u2, .pointer (some ⟨gz, 0, none⟩), u4, u5, u6, u7, u8, u9, u10, u11, u12, u13, u14, u15, u16, u17, u18, u19, u20, u21, u22, u23, u24, u25, u26, u27, u28, u29, u30, u31, u32, u33, u34, u35, u36, u37, u38, u39, u40, u41, u42, u43, u44, u45, u46, u47, u48, u49, u50, u51, u52, u53, u54, u55, u56, u57, u58, u59, u60, u61, u62, u63, u64, u65, u66, u67, u68, u69, u70, u71, u72, u73, u74, u75, u76, u77, u78, u79, u80, u81, u82, u83, u84, u85, u86, u87, u88, u89, u90, u91, u92, u93, u94, u95, u96, u97, u98, u99, u100, u101, u102, u103, u104, u105, u106, u107, u108, u109, u110, u111, u112, u113, u114, u115, u116, u117, u118, u119, u120, u121, u122, u123, u124, u125, u126, u127, u128, u129, u130, u131, u132, u133, u134, u135, u136, u137, u138, u139, u140, u141, u142, u143, u144, u145], defers := ds } W := by
  simp [Try.f20, regOpsH] at hops
  subst hops
  have H := Lib.hid h
  have HX := Lib.hid hx
  have L1 := hS.ltg
  have L2 := hS.ltb
  have L3 := hS.ltk
  have BL3 := hB3.lt
  have S0 := Lib.hid hS
  have B0_3 := Lib.hid hB3
  clear h hx hS hB3
  refine' share2 (P := (fun A q10 q11 => St 71 A F bs2 ks ∧ Ch W A [F.gb] ∧ Bk A gz 30 [.int .i64 0, .int .i64 0, .bool false, .bool false, .bool false, .int .i64 0, .int .i64 0, .int .i64 0, .int .i64 0, .int .i64 0] ∧ Bk A q10 28 [.int .u32 0, .int .u32 0, .int .u32 0, .int .u32 0, .int .u32 0, .int .u32 0, .int .u32 0, .int .u32 0, .int .u32 0, .int .u32 0, .int .u32 0, .int .u32 0, .int .u32 0, .int .u32 0, .int .u32 0, .int .u32 0] ∧ Bk A q11 30 [.int .i64 0, .int .i64 0, .bool false, .bool false, .bool false, .int .i64 0, .int .i64 0, .int .i64 0, .int .i64 0, .int .i64 0] ∧ W.heap.size ≤ q10 ∧ W.heap.size ≤ q11 ∧ gz ≠ q10 ∧ gz ≠ q11 ∧ q10 ≠ q11 ∧ True)) (fun TL => ?tree) ?tail
  case tree =>
    obtain ⟨A, hWd⟩ : ∃ Wd, W.drew = Wd := ⟨_, rfl⟩
    have hsz : A.heap.size = W.heap.size := by rw [← hWd]; rfl
    have S : Hid (St 71 A F bs ks) := by rw [← hWd]; exact S0.out.drewN 1
    have C : Hid (Ch W A [F.gb]) := by rw [← hWd]; exact (Ch.refl W _).drewN 1
    have B3 : Hid (Bk A gz 30 [.int .i64 0, .int .i64 0, .bool false, .bool false, .bool false, .int .i64 0, .int .i64 0, .int .i64 0, .int .i64 0, .int .i64 0]) := by rw [← hWd]; exact B0_3.out.drewN 1
    refine wp_region_held_drew (S := (fun w' => Bk w' gz 30 [.int .i64 0, .int .i64 0, .bool false, .bool false, .bool false, .int .i64 0, .int .i64 0, .int .i64 0, .int .i64 0, .int .i64 0])) (by kernel_rfl) ?_ (fun hHeld => ?_)
    · (try dsimp only); (try rw [hWd]); exact B3.out
    rw [hWd]
    clear hWd hsz
    refine' takeL (i := 1) (v := _) rfl (by kernel_rfl) (by kernel_rfl) (by kernel_rfl) (fun c a w => hQ c a _ w rfl) (Or.inl ⟨by rfl, ?yy1⟩) (by assumption) ?rr1
    case yy1 => intro w hSw; (try dsimp only at hSw); go_simp; (try with_reducible rfl)
    try simp only [Act.put, List.setIfInBounds_toArray, List.set_cons_zero, List.set_cons_succ]
    refine' takeL (i := 2) (v := .agg #[.int .i64 0, .int .i64 0, .bool false, .bool false, .bool false, .int .i64 0, .int .i64 0, .int .i64 0, .int .i64 0, .int .i64 0]) rfl (by kernel_rfl) (by kernel_rfl) (by kernel_rfl) (fun c a w => hQ c a _ w rfl) (Or.inl ⟨by rfl, ?yy2⟩) (by assumption) ?rr2
    case yy2 => intro w hSw; (try dsimp only at hSw); have q0 := hSw.cell (c := 0) rfl; have q1 := hSw.cell (c := 1) rfl; have q2 := hSw.cell (c := 2) rfl; have q3 := hSw.cell (c := 3) rfl; have q4 := hSw.cell (c := 4) rfl; have q5 := hSw.cell (c := 5) rfl; have q6 := hSw.cell (c := 6) rfl; have q7 := hSw.cell (c := 7) rfl; have q8 := hSw.cell (c := 8) rfl; have q9 := hSw.cell (c := 9) rfl; go_simp; (try with_reducible rfl)
    try simp only [Act.put, List.setIfInBounds_toArray, List.set_cons_zero, List.set_cons_succ]
    refine' takeL (i := 3) (v := _) rfl (by kernel_rfl) (by kernel_rfl) (by kernel_rfl) (fun c a w => hQ c a _ w rfl) (Or.inl ⟨by rfl, ?yy3⟩) (by assumption) ?rr3
    case yy3 => intro w hSw; (try dsimp only at hSw); go_simp; (try with_reducible rfl)
    try simp only [Act.put, List.setIfInBounds_toArray, List.set_cons_zero, List.set_cons_succ]
    refine wpAnyH_ready (rs := [0, 9, 10]) (by kernel_rfl) (by simp) ?_
    refine consL rfl (fun K hK => ?_) ?_
    · go_simp
      go_at_call 17
      refine (ss_c 210 3 _ (by omega) (by omega)).mono ?_
      rintro e V ⟨rfl, hb⟩
      replace S := Lib.hid (S.out.belowS hb)
      replace C := Lib.hid (C.out.trans (Ch.of_below hb _))
      replace B3 := Lib.hid (B3.out.keep hb)
      clear hb hHeld
      clear A
      rename World => A
      go_wp2_with fail
      refine hK.out _ _ ?_ (fun hHeld => ?_)
      focus ((try dsimp only); exact B3.out)
      clear hK K
      try simp only [Act.put, List.setIfInBounds_toArray, List.set_cons_zero, List.set_cons_succ]
      refine wpAnyH_ready (rs := [4, 9, 10]) (by kernel_rfl) (by simp) ?_
      refine consL rfl (fun K hK => ?_) ?_
      · go_simp
        go_at_call 14
        refine (HX.out _ S.out).mono ?_
        rintro e V ⟨rfl, hs, hc⟩
        replace S := Lib.hid hs
        replace C := Lib.hid (C.out.trans (hc.mono (by simp)))
        replace B3 := Lib.hid (B3.out.ch hc (by simp; omega))
        clear hs hc hHeld
        clear A
        rename World => A
        go_wp2_with fail
        refine hK.out _ _ ?_ (fun hHeld => ?_)
        focus ((try dsimp only); exact B3.out)
        clear hK K
        try simp only [Act.put, List.setIfInBounds_toArray, List.set_cons_zero, List.set_cons_succ]
        refine' takeL (i := 5) (v := _) rfl (by kernel_rfl) (by kernel_rfl) (by kernel_rfl) (fun c a w => hQ c a _ w rfl) (Or.inl ⟨by rfl, ?yy4⟩) (by assumption) ?rr4
        case yy4 => intro w hSw; (try dsimp only at hSw); go_simp; (try with_reducible rfl)
        try simp only [Act.put, List.setIfInBounds_toArray, List.set_cons_zero, List.set_cons_succ]
        refine' takeL (i := 6) (v := _) rfl (by kernel_rfl) (by kernel_rfl) (by kernel_rfl) (fun c a w => hQ c a _ w rfl) (Or.inl ⟨by rfl, ?yy5⟩) (by assumption) ?rr5
        case yy5 => intro w hSw; (try dsimp only at hSw); go_simp; (try with_reducible rfl)
        try simp only [Act.put, List.setIfInBounds_toArray, List.set_cons_zero, List.set_cons_succ]
        refine' takeL (i := 7) (v := _) rfl (by kernel_rfl) (by kernel_rfl) (by kernel_rfl) (fun c a w => hQ c a _ w rfl) (Or.inl ⟨by rfl, ?yy6⟩) (by assumption) ?rr6
        case yy6 => intro w hSw; (try dsimp only at hSw); go_simp; (try with_reducible rfl)
        try simp only [Act.put, List.setIfInBounds_toArray, List.set_cons_zero, List.set_cons_succ]
        refine' takeL (i := 8) (v := _) rfl (by kernel_rfl) (by kernel_rfl) (by kernel_rfl) (fun c a w => hQ c a _ w rfl) (Or.inl ⟨by rfl, ?yy7⟩) (by assumption) ?rr7
        case yy7 => intro w hSw; (try dsimp only at hSw); go_simp; (try with_reducible rfl)
        try simp only [Act.put, List.setIfInBounds_toArray, List.set_cons_zero, List.set_cons_succ]
        refine wpAnyH_ready (rs := [9, 10]) (by kernel_rfl) (by simp) ?_
        refine consL rfl (fun K hK => ?_) ?_
        · go_simp
          obtain ⟨q10, hg⟩ : ∃ q, A.heap.size = q := ⟨_, rfl⟩
          have ge10 : W.heap.size ≤ q10 := by have := C.out.size; omega
          have ne10_3 : q10 ≠ gz := by have := B3.out.lt; omega
          obtain ⟨V, hW⟩ : ∃ V, A.alloc (.cells #[.int .u32 0, .int .u32 0, .int .u32 0, .int .u32 0, .int .u32 0, .int .u32 0, .int .u32 0, .int .u32 0, .int .u32 0, .int .u32 0, .int .u32 0, .int .u32 0, .int .u32 0, .int .u32 0, .int .u32 0, .int .u32 0] 28) = V := ⟨_, rfl⟩
          have B10 : Hid (Bk V q10 28 [.int .u32 0, .int .u32 0, .int .u32 0, .int .u32 0, .int .u32 0, .int .u32 0, .int .u32 0, .int .u32 0, .int .u32 0, .int .u32 0, .int .u32 0, .int .u32 0, .int .u32 0, .int .u32 0, .int .u32 0, .int .u32 0]) := by rw [← hW, ← hg]; exact Bk.new A [.int .u32 0, .int .u32 0, .int .u32 0, .int .u32 0, .int .u32 0, .int .u32 0, .int .u32 0, .int .u32 0, .int .u32 0, .int .u32 0, .int .u32 0, .int .u32 0, .int .u32 0, .int .u32 0, .int .u32 0, .int .u32 0] 28
          replace S : Hid (St 71 V F bs2 ks) := by rw [← hW]; exact S.out.alloc _
          replace C : Hid (Ch W V [F.gb]) := by rw [← hW]; exact C.out.alloc _
          replace B3 : Hid (Bk V gz 30 [.int .i64 0, .int .i64 0, .bool false, .bool false, .bool false, .int .i64 0, .int .i64 0, .int .i64 0, .int .i64 0, .int .i64 0]) := by rw [← hW]; exact B3.out.alloc _
          rw [hW]
          try rw [hg]
          clear hW hg hHeld
          clear A
          rename World => A
          refine hK.out _ _ ?_ (fun hHeld => ?_)
          focus ((try dsimp only); exact B3.out)
          clear hK K
          try simp only [Act.put, List.setIfInBounds_toArray, List.set_cons_zero, List.set_cons_succ]
          refine wpAnyH_ready (rs := [10]) (by kernel_rfl) (by simp) ?_
          refine consL rfl (fun K hK => ?_) AllReadyH.nil
          go_simp
          obtain ⟨q11, hg⟩ : ∃ q, A.heap.size = q := ⟨_, rfl⟩
          have ge11 : W.heap.size ≤ q11 := by have := C.out.size; omega
          have ne11_3 : q11 ≠ gz := by have := B3.out.lt; omega
          have ne11_10 : q11 ≠ q10 := by have := B10.out.lt; omega
          obtain ⟨V, hW⟩ : ∃ V, A.alloc (.cells #[.int .i64 0, .int .i64 0, .bool false, .bool false, .bool false, .int .i64 0, .int .i64 0, .int .i64 0, .int .i64 0, .int .i64 0] 30) = V := ⟨_, rfl⟩
          have B11 : Hid (Bk V q11 30 [.int .i64 0, .int .i64 0, .bool false, .bool false, .bool false, .int .i64 0, .int .i64 0, .int .i64 0, .int .i64 0, .int .i64 0]) := by rw [← hW, ← hg]; exact Bk.new A [.int .i64 0, .int .i64 0, .bool false, .bool false, .bool false, .int .i64 0, .int .i64 0, .int .i64 0, .int .i64 0, .int .i64 0] 30
          replace S : Hid (St 71 V F bs2 ks) := by rw [← hW]; exact S.out.alloc _
          replace C : Hid (Ch W V [F.gb]) := by rw [← hW]; exact C.out.alloc _
          replace B3 : Hid (Bk V gz 30 [.int .i64 0, .int .i64 0, .bool false, .bool false, .bool false, .int .i64 0, .int .i64 0, .int .i64 0, .int .i64 0, .int .i64 0]) := by rw [← hW]; exact B3.out.alloc _
          replace B10 : Hid (Bk V q10 28 [.int .u32 0, .int .u32 0, .int .u32 0, .int .u32 0, .int .u32 0, .int .u32 0, .int .u32 0, .int .u32 0, .int .u32 0, .int .u32 0, .int .u32 0, .int .u32 0, .int .u32 0, .int .u32 0, .int .u32 0, .int .u32 0]) := by rw [← hW]; exact B10.out.alloc _
          rw [hW]
          try rw [hg]
          clear hW hg hHeld
          clear A
          rename World => A
          refine hK.out _ _ ?_ (fun hHeld => ?_)
          focus ((try dsimp only); exact B3.out)
          clear hK K
          try simp only [Act.put, List.setIfInBounds_toArray, List.set_cons_zero, List.set_cons_succ]
          exact TL A q10 q11 ⟨S.out, C.out, B3.out, B10.out, B11.out, ge10, ge11, by omega, by omega, by omega, trivial⟩
        refine consL rfl (fun K hK => ?_) AllReadyH.nil
        go_simp
        obtain ⟨q11, hg⟩ : ∃ q, A.heap.size = q := ⟨_, rfl⟩
        have ge11 : W.heap.size ≤ q11 := by have := C.out.size; omega
        have ne11_3 : q11 ≠ gz := by have := B3.out.lt; omega
        obtain ⟨V, hW⟩ : ∃ V, A.alloc (.cells #[.int .i64 0, .int .i64 0, .bool false, .bool false, .bool false, .int .i64 0, .int .i64 0, .int .i64 0, .int .i64 0, .int .i64 0] 30) = V := ⟨_, rfl⟩
        have B11 : Hid (Bk V q11 30 [.int .i64 0, .int .i64 0, .bool false, .bool false, .bool false, .int .i64 0, .int .i64 0, .int .i64 0, .int .i64 0, .int .i64 0]) := by rw [← hW, ← hg]; exact Bk.new A [.int .i64 0, .int .i64 0, .bool false, .bool false, .bool false, .int .i64 0, .int .i64 0, .int .i64 0, .int .i64 0, .int .i64 0] 30
        replace S : Hid (St 71 V F bs2 ks) := by rw [← hW]; exact S.out.alloc _
        replace C : Hid (Ch W V [F.gb]) := by rw [← hW]; exact C.out.alloc _
        replace B3 : Hid (Bk V gz 30 [.int .i64 0, .int .i64 0, .bool false, .bool false, .bool false, .int .i64 0, .int .i64 0, .int .i64 0, .int .i64 0, .int .i64 0]) := by rw [← hW]; exact B3.out.alloc _
        rw [hW]
        try rw [hg]
        clear hW hg hHeld
        clear A
        rename World => A
        refine hK.out _ _ ?_ (fun hHeld => ?_)
        focus ((try dsimp only); exact B3.out)
        clear hK K
        try simp only [Act.put, List.setIfInBounds_toArray, List.set_cons_zero, List.set_cons_succ]
        refine wpAnyH_ready (rs := [9]) (by kernel_rfl) (by simp) ?_
        refine consL rfl (fun K hK => ?_) AllReadyH.nil
        go_simp
        obtain ⟨q10, hg⟩ : ∃ q, A.heap.size = q := ⟨_, rfl⟩
        have ge10 : W.heap.size ≤ q10 := by have := C.out.size; omega
        have ne10_3 : q10 ≠ gz := by have := B3.out.lt; omega
        have ne10_11 : q10 ≠ q11 := by have := B11.out.lt; omega
        obtain ⟨V, hW⟩ : ∃ V, A.alloc (.cells #[.int .u32 0, .int .u32 0, .int .u32 0, .int .u32 0, .int .u32 0, .int .u32 0, .int .u32 0, .int .u32 0, .int .u32 0, .int .u32 0, .int .u32 0, .int .u32 0, .int .u32 0, .int .u32 0, .int .u32 0, .int .u32 0] 28) = V := ⟨_, rfl⟩
        have B10 : Hid (Bk V q10 28 [.int .u32 0, .int .u32 0, .int .u32 0, .int .u32 0, .int .u32 0, .int .u32 0, .int .u32 0, .int .u32 0, .int .u32 0, .int .u32 0, .int .u32 0, .int .u32 0, .int .u32 0, .int .u32 0, .int .u32 0, .int .u32 0]) := by rw [← hW, ← hg]; exact Bk.new A [.int .u32 0, .int .u32 0, .int .u32 0, .int .u32 0, .int .u32 0, .int .u32 0, .int .u32 0, .int .u32 0, .int .u32 0, .int .u32 0, .int .u32 0, .int .u32 0, .int .u32 0, .int .u32 0, .int .u32 0, .int .u32 0] 28
        replace S : Hid (St 71 V F bs2 ks) := by rw [← hW]; exact S.out.alloc _
        replace C : Hid (Ch W V [F.gb]) := by rw [← hW]; exact C.out.alloc _
        replace B3 : Hid (Bk V gz 30 [.int .i64 0, .int .i64 0, .bool false, .bool false, .bool false, .int .i64 0, .int .i64 0, .int .i64 0, .int .i64 0, .int .i64 0]) := by rw [← hW]; exact B3.out.alloc _
        replace B11 : Hid (Bk V q11 30 [.int .i64 0, .int .i64 0, .bool false, .bool false, .bool false, .int .i64 0, .int .i64 0, .int .i64 0, .int .i64 0, .int .i64 0]) := by rw [← hW]; exact B11.out.alloc _
        rw [hW]
        try rw [hg]
        clear hW hg hHeld
        clear A
        rename World => A
        refine hK.out _ _ ?_ (fun hHeld => ?_)
        focus ((try dsimp only); exact B3.out)
        clear hK K
        try simp only [Act.put, List.setIfInBounds_toArray, List.set_cons_zero, List.set_cons_succ]
        exact TL A q10 q11 ⟨S.out, C.out, B3.out, B10.out, B11.out, ge10, ge11, by omega, by omega, by omega, trivial⟩
      refine consL rfl (fun K hK => ?_) ?_
      · go_simp
        obtain ⟨q10, hg⟩ : ∃ q, A.heap.size = q := ⟨_, rfl⟩
        have ge10 : W.heap.size ≤ q10 := by have := C.out.size; omega
        have ne10_3 : q10 ≠ gz := by have := B3.out.lt; omega
        obtain ⟨V, hW⟩ : ∃ V, A.alloc (.cells #[.int .u32 0, .int .u32 0, .int .u32 0, .int .u32 0, .int .u32 0, .int .u32 0, .int .u32 0, .int .u32 0, .int .u32 0, .int .u32 0, .int .u32 0, .int .u32 0, .int .u32 0, .int .u32 0, .int .u32 0, .int .u32 0] 28) = V := ⟨_, rfl⟩
        have B10 : Hid (Bk V q10 28 [.int .u32 0, .int .u32 0, .int .u32 0, .int .u32 0, .int .u32 0, .int .u32 0, .int .u32 0, .int .u32 0, .int .u32 0, .int .u32 0, .int .u32 0, .int .u32 0, .int .u32 0, .int .u32 0, .int .u32 0, .int .u32 0]) := by rw [← hW, ← hg]; exact Bk.new A [.int .u32 0, .int .u32 0, .int .u32 0, .int .u32 0, .int .u32 0, .int .u32 0, .int .u32 0, .int .u32 0, .int .u32 0, .int .u32 0, .int .u32 0, .int .u32 0, .int .u32 0, .int .u32 0, .int .u32 0, .int .u32 0] 28
        replace S : Hid (St 71 V F bs ks) := by rw [← hW]; exact S.out.alloc _
        replace C : Hid (Ch W V [F.gb]) := by rw [← hW]; exact C.out.alloc _
        replace B3 : Hid (Bk V gz 30 [.int .i64 0, .int .i64 0, .bool false, .bool false, .bool false, .int .i64 0, .int .i64 0, .int .i64 0, .int .i64 0, .int .i64 0]) := by rw [← hW]; exact B3.out.alloc _
        rw [hW]
        try rw [hg]
        clear hW hg hHeld
        clear A
        rename World => A
        refine hK.out _ _ ?_ (fun hHeld => ?_)
        focus ((try dsimp only); exact B3.out)
        clear hK K
        try simp only [Act.put, List.setIfInBounds_toArray, List.set_cons_zero, List.set_cons_succ]
        refine wpAnyH_ready (rs := [4, 10]) (by kernel_rfl) (by simp) ?_
        refine consL rfl (fun K hK => ?_) ?_
        · go_simp
          go_at_call 14
          refine (HX.out _ S.out).mono ?_
          rintro e V ⟨rfl, hs, hc⟩
          replace S := Lib.hid hs
          replace C := Lib.hid (C.out.trans (hc.mono (by simp)))
          replace B3 := Lib.hid (B3.out.ch hc (by simp; omega))
          replace B10 := Lib.hid (B10.out.ch hc (by simp; omega))
          clear hs hc hHeld
          clear A
          rename World => A
          go_wp2_with fail
          refine hK.out _ _ ?_ (fun hHeld => ?_)
          focus ((try dsimp only); exact B3.out)
          clear hK K
          try simp only [Act.put, List.setIfInBounds_toArray, List.set_cons_zero, List.set_cons_succ]
          refine' takeL (i := 5) (v := _) rfl (by kernel_rfl) (by kernel_rfl) (by kernel_rfl) (fun c a w => hQ c a _ w rfl) (Or.inl ⟨by rfl, ?yy8⟩) (by assumption) ?rr8
          case yy8 => intro w hSw; (try dsimp only at hSw); go_simp; (try with_reducible rfl)
          try simp only [Act.put, List.setIfInBounds_toArray, List.set_cons_zero, List.set_cons_succ]
          refine' takeL (i := 6) (v := _) rfl (by kernel_rfl) (by kernel_rfl) (by kernel_rfl) (fun c a w => hQ c a _ w rfl) (Or.inl ⟨by rfl, ?yy9⟩) (by assumption) ?rr9
          case yy9 => intro w hSw; (try dsimp only at hSw); go_simp; (try with_reducible rfl)
          try simp only [Act.put, List.setIfInBounds_toArray, List.set_cons_zero, List.set_cons_succ]
          refine' takeL (i := 7) (v := _) rfl (by kernel_rfl) (by kernel_rfl) (by kernel_rfl) (fun c a w => hQ c a _ w rfl) (Or.inl ⟨by rfl, ?yy10⟩) (by assumption) ?rr10
          case yy10 => intro w hSw; (try dsimp only at hSw); go_simp; (try with_reducible rfl)
          try simp only [Act.put, List.setIfInBounds_toArray, List.set_cons_zero, List.set_cons_succ]
          refine' takeL (i := 8) (v := _) rfl (by kernel_rfl) (by kernel_rfl) (by kernel_rfl) (fun c a w => hQ c a _ w rfl) (Or.inl ⟨by rfl, ?yy11⟩) (by assumption) ?rr11
          case yy11 => intro w hSw; (try dsimp only at hSw); go_simp; (try with_reducible rfl)
          try simp only [Act.put, List.setIfInBounds_toArray, List.set_cons_zero, List.set_cons_succ]
          refine wpAnyH_ready (rs := [10]) (by kernel_rfl) (by simp) ?_
          refine consL rfl (fun K hK => ?_) AllReadyH.nil
          go_simp
          obtain ⟨q11, hg⟩ : ∃ q, A.heap.size = q := ⟨_, rfl⟩
          have ge11 : W.heap.size ≤ q11 := by have := C.out.size; omega
          have ne11_3 : q11 ≠ gz := by have := B3.out.lt; omega
          have ne11_10 : q11 ≠ q10 := by have := B10.out.lt; omega
          obtain ⟨V, hW⟩ : ∃ V, A.alloc (.cells #[.int .i64 0, .int .i64 0, .bool false, .bool false, .bool false, .int .i64 0, .int .i64 0, .int .i64 0, .int .i64 0, .int .i64 0] 30) = V := ⟨_, rfl⟩
          have B11 : Hid (Bk V q11 30 [.int .i64 0, .int .i64 0, .bool false, .bool false, .bool false, .int .i64 0, .int .i64 0, .int .i64 0, .int .i64 0, .int .i64 0]) := by rw [← hW, ← hg]; exact Bk.new A [.int .i64 0, .int .i64 0, .bool false, .bool false, .bool false, .int .i64 0, .int .i64 0, .int .i64 0, .int .i64 0, .int .i64 0] 30
          replace S : Hid (St 71 V F bs2 ks) := by rw [← hW]; exact S.out.alloc _
          replace C : Hid (Ch W V [F.gb]) := by rw [← hW]; exact C.out.alloc _
          replace B3 : Hid (Bk V gz 30 [.int .i64 0, .int .i64 0, .bool false, .bool false, .bool false, .int .i64 0, .int .i64 0, .int .i64 0, .int .i64 0, .int .i64 0]) := by rw [← hW]; exact B3.out.alloc _
          replace B10 : Hid (Bk V q10 28 [.int .u32 0, .int .u32 0, .int .u32 0, .int .u32 0, .int .u32 0, .int .u32 0, .int .u32 0, .int .u32 0, .int .u32 0, .int .u32 0, .int .u32 0, .int .u32 0, .int .u32 0, .int .u32 0, .int .u32 0, .int .u32 0]) := by rw [← hW]; exact B10.out.alloc _
          rw [hW]
          try rw [hg]
          clear hW hg hHeld
          clear A
          rename World => A
          refine hK.out _ _ ?_ (fun hHeld => ?_)
          focus ((try dsimp only); exact B3.out)
          clear hK K
          try simp only [Act.put, List.setIfInBounds_toArray, List.set_cons_zero, List.set_cons_succ]
          exact TL A q10 q11 ⟨S.out, C.out, B3.out, B10.out, B11.out, ge10, ge11, by omega, by omega, by omega, trivial⟩
        refine consL rfl (fun K hK => ?_) AllReadyH.nil
        go_simp
        obtain ⟨q11, hg⟩ : ∃ q, A.heap.size = q := ⟨_, rfl⟩
        have ge11 : W.heap.size ≤ q11 := by have := C.out.size; omega
        have ne11_3 : q11 ≠ gz := by have := B3.out.lt; omega
        have ne11_10 : q11 ≠ q10 := by have := B10.out.lt; omega
        obtain ⟨V, hW⟩ : ∃ V, A.alloc (.cells #[.int .i64 0, .int .i64 0, .bool false, .bool false, .bool false, .int .i64 0, .int .i64 0, .int .i64 0, .int .i64 0, .int .i64 0] 30) = V := ⟨_, rfl⟩
        have B11 : Hid (Bk V q11 30 [.int .i64 0, .int .i64 0, .bool false, .bool false, .bool false, .int .i64 0, .int .i64 0, .int .i64 0, .int .i64 0, .int .i64 0]) := by rw [← hW, ← hg]; exact Bk.new A [.int .i64 0, .int .i64 0, .bool false, .bool false, .bool false, .int .i64 0, .int .i64 0, .int .i64 0, .int .i64 0, .int .i64 0] 30
        replace S : Hid (St 71 V F bs ks) := by rw [← hW]; exact S.out.alloc _
        replace C : Hid (Ch W V [F.gb]) := by rw [← hW]; exact C.out.alloc _
        replace B3 : Hid (Bk V gz 30 [.int .i64 0, .int .i64 0, .bool false, .bool false, .bool false, .int .i64 0, .int .i64 0, .int .i64 0, .int .i64 0, .int .i64 0]) := by rw [← hW]; exact B3.out.alloc _
        replace B10 : Hid (Bk V q10 28 [.int .u32 0, .int .u32 0, .int .u32 0, .int .u32 0, .int .u32 0, .int .u32 0, .int .u32 0, .int .u32 0, .int .u32 0, .int .u32 0, .int .u32 0, .int .u32 0, .int .u32 0, .int .u32 0, .int .u32 0, .int .u32 0]) := by rw [← hW]; exact B10.out.alloc _
        rw [hW]
        try rw [hg]
        clear hW hg hHeld
        clear A
        rename World => A
        refine hK.out _ _ ?_ (fun hHeld => ?_)
        focus ((try dsimp only); exact B3.out)
        clear hK K
        try simp only [Act.put, List.setIfInBounds_toArray, List.set_cons_zero, List.set_cons_succ]
        refine wpAnyH_ready (rs := [4]) (by kernel_rfl) (by simp) ?_
        refine consL rfl (fun K hK => ?_) AllReadyH.nil
        go_simp
        go_at_call 14
        refine (HX.out _ S.out).mono ?_
        rintro e V ⟨rfl, hs, hc⟩
        replace S := Lib.hid hs
        replace C := Lib.hid (C.out.trans (hc.mono (by simp)))
        replace B3 := Lib.hid (B3.out.ch hc (by simp; omega))
        replace B10 := Lib.hid (B10.out.ch hc (by simp; omega))
        replace B11 := Lib.hid (B11.out.ch hc (by simp; omega))
        clear hs hc hHeld
        clear A
        rename World => A
        go_wp2_with fail
        refine hK.out _ _ ?_ (fun hHeld => ?_)
        focus ((try dsimp only); exact B3.out)
        clear hK K
        try simp only [Act.put, List.setIfInBounds_toArray, List.set_cons_zero, List.set_cons_succ]
        refine' takeL (i := 5) (v := _) rfl (by kernel_rfl) (by kernel_rfl) (by kernel_rfl) (fun c a w => hQ c a _ w rfl) (Or.inl ⟨by rfl, ?yy12⟩) (by assumption) ?rr12
        case yy12 => intro w hSw; (try dsimp only at hSw); go_simp; (try with_reducible rfl)
        try simp only [Act.put, List.setIfInBounds_toArray, List.set_cons_zero, List.set_cons_succ]
        refine' takeL (i := 6) (v := _) rfl (by kernel_rfl) (by kernel_rfl) (by kernel_rfl) (fun c a w => hQ c a _ w rfl) (Or.inl ⟨by rfl, ?yy13⟩) (by assumption) ?rr13
        case yy13 => intro w hSw; (try dsimp only at hSw); go_simp; (try with_reducible rfl)
        try simp only [Act.put, List.setIfInBounds_toArray, List.set_cons_zero, List.set_cons_succ]
        refine' takeL (i := 7) (v := _) rfl (by kernel_rfl) (by kernel_rfl) (by kernel_rfl) (fun c a w => hQ c a _ w rfl) (Or.inl ⟨by rfl, ?yy14⟩) (by assumption) ?rr14
        case yy14 => intro w hSw; (try dsimp only at hSw); go_simp; (try with_reducible rfl)
        try simp only [Act.put, List.setIfInBounds_toArray, List.set_cons_zero, List.set_cons_succ]
        refine' takeL (i := 8) (v := _) rfl (by kernel_rfl) (by kernel_rfl) (by kernel_rfl) (fun c a w => hQ c a _ w rfl) (Or.inl ⟨by rfl, ?yy15⟩) (by assumption) ?rr15
        case yy15 => intro w hSw; (try dsimp only at hSw); go_simp; (try with_reducible rfl)
        try simp only [Act.put, List.setIfInBounds_toArray, List.set_cons_zero, List.set_cons_succ]
        exact TL A q10 q11 ⟨S.out, C.out, B3.out, B10.out, B11.out, ge10, ge11, by omega, by omega, by omega, trivial⟩
      refine consL rfl (fun K hK => ?_) AllReadyH.nil
      go_simp
      obtain ⟨q11, hg⟩ : ∃ q, A.heap.size = q := ⟨_, rfl⟩
      have ge11 : W.heap.size ≤ q11 := by have := C.out.size; omega
      have ne11_3 : q11 ≠ gz := by have := B3.out.lt; omega
      obtain ⟨V, hW⟩ : ∃ V, A.alloc (.cells #[.int .i64 0, .int .i64 0, .bool false, .bool false, .bool false, .int .i64 0, .int .i64 0, .int .i64 0, .int .i64 0, .int .i64 0] 30) = V := ⟨_, rfl⟩
      have B11 : Hid (Bk V q11 30 [.int .i64 0, .int .i64 0, .bool false, .bool false, .bool false, .int .i64 0, .int .i64 0, .int .i64 0, .int .i64 0, .int .i64 0]) := by rw [← hW, ← hg]; exact Bk.new A [.int .i64 0, .int .i64 0, .bool false, .bool false, .bool false, .int .i64 0, .int .i64 0, .int .i64 0, .int .i64 0, .int .i64 0] 30
      replace S : Hid (St 71 V F bs ks) := by rw [← hW]; exact S.out.alloc _
      replace C : Hid (Ch W V [F.gb]) := by rw [← hW]; exact C.out.alloc _
      replace B3 : Hid (Bk V gz 30 [.int .i64 0, .int .i64 0, .bool false, .bool false, .bool false, .int .i64 0, .int .i64 0, .int .i64 0, .int .i64 0, .int .i64 0]) := by rw [← hW]; exact B3.out.alloc _
      rw [hW]
      try rw [hg]
      clear hW hg hHeld
      clear A
      rename World => A
      refine hK.out _ _ ?_ (fun hHeld => ?_)
      focus ((try dsimp only); exact B3.out)
      clear hK K
      try simp only [Act.put, List.setIfInBounds_toArray, List.set_cons_zero, List.set_cons_succ]
      refine wpAnyH_ready (rs := [4, 9]) (by kernel_rfl) (by simp) ?_
      refine consL rfl (fun K hK => ?_) ?_
      · go_simp
        go_at_call 14
        refine (HX.out _ S.out).mono ?_
        rintro e V ⟨rfl, hs, hc⟩
        replace S := Lib.hid hs
        replace C := Lib.hid (C.out.trans (hc.mono (by simp)))
        replace B3 := Lib.hid (B3.out.ch hc (by simp; omega))
        replace B11 := Lib.hid (B11.out.ch hc (by simp; omega))
        clear hs hc hHeld
        clear A
        rename World => A
        go_wp2_with fail
        refine hK.out _ _ ?_ (fun hHeld => ?_)
        focus ((try dsimp only); exact B3.out)
        clear hK K
        try simp only [Act.put, List.setIfInBounds_toArray, List.set_cons_zero, List.set_cons_succ]
        refine' takeL (i := 5) (v := _) rfl (by kernel_rfl) (by kernel_rfl) (by kernel_rfl) (fun c a w => hQ c a _ w rfl) (Or.inl ⟨by rfl, ?yy16⟩) (by assumption) ?rr16
        case yy16 => intro w hSw; (try dsimp only at hSw); go_simp; (try with_reducible rfl)
        try simp only [Act.put, List.setIfInBounds_toArray, List.set_cons_zero, List.set_cons_succ]
        refine' takeL (i := 6) (v := _) rfl (by kernel_rfl) (by kernel_rfl) (by kernel_rfl) (fun c a w => hQ c a _ w rfl) (Or.inl ⟨by rfl, ?yy17⟩) (by assumption) ?rr17
        case yy17 => intro w hSw; (try dsimp only at hSw); go_simp; (try with_reducible rfl)
        try simp only [Act.put, List.setIfInBounds_toArray, List.set_cons_zero, List.set_cons_succ]
        refine' takeL (i := 7) (v := _) rfl (by kernel_rfl) (by kernel_rfl) (by kernel_rfl) (fun c a w => hQ c a _ w rfl) (Or.inl ⟨by rfl, ?yy18⟩) (by assumption) ?rr18
        case yy18 => intro w hSw; (try dsimp only at hSw); go_simp; (try with_reducible rfl)
        try simp only [Act.put, List.setIfInBounds_toArray, List.set_cons_zero, List.set_cons_succ]
        refine' takeL (i := 8) (v := _) rfl (by kernel_rfl) (by kernel_rfl) (by kernel_rfl) (fun c a w => hQ c a _ w rfl) (Or.inl ⟨by rfl, ?yy19⟩) (by assumption) ?rr19
        case yy19 => intro w hSw; (try dsimp only at hSw); go_simp; (try with_reducible rfl)
        try simp only [Act.put, List.setIfInBounds_toArray, List.set_cons_zero, List.set_cons_succ]
        refine wpAnyH_ready (rs := [9]) (by kernel_rfl) (by simp) ?_
        refine consL rfl (fun K hK => ?_) AllReadyH.nil
        go_simp
        obtain ⟨q10, hg⟩ : ∃ q, A.heap.size = q := ⟨_, rfl⟩
        have ge10 : W.heap.size ≤ q10 := by have := C.out.size; omega
        have ne10_3 : q10 ≠ gz := by have := B3.out.lt; omega
        have ne10_11 : q10 ≠ q11 := by have := B11.out.lt; omega
        obtain ⟨V, hW⟩ : ∃ V, A.alloc (.cells #[.int .u32 0, .int .u32 0, .int .u32 0, .int .u32 0, .int .u32 0, .int .u32 0, .int .u32 0, .int .u32 0, .int .u32 0, .int .u32 0, .int .u32 0, .int .u32 0, .int .u32 0, .int .u32 0, .int .u32 0, .int .u32 0] 28) = V := ⟨_, rfl⟩
        have B10 : Hid (Bk V q10 28 [.int .u32 0, .int .u32 0, .int .u32 0, .int .u32 0, .int .u32 0, .int .u32 0, .int .u32 0, .int .u32 0, .int .u32 0, .int .u32 0, .int .u32 0, .int .u32 0, .int .u32 0, .int .u32 0, .int .u32 0, .int .u32 0]) := by rw [← hW, ← hg]; exact Bk.new A [.int .u32 0, .int .u32 0, .int .u32 0, .int .u32 0, .int .u32 0, .int .u32 0, .int .u32 0, .int .u32 0, .int .u32 0, .int .u32 0, .int .u32 0, .int .u32 0, .int .u32 0, .int .u32 0, .int .u32 0, .int .u32 0] 28
        replace S : Hid (St 71 V F bs2 ks) := by rw [← hW]; exact S.out.alloc _
        replace C : Hid (Ch W V [F.gb]) := by rw [← hW]; exact C.out.alloc _
        replace B3 : Hid (Bk V gz 30 [.int .i64 0, .int .i64 0, .bool false, .bool false, .bool false, .int .i64 0, .int .i64 0, .int .i64 0, .int .i64 0, .int .i64 0]) := by rw [← hW]; exact B3.out.alloc _
        replace B11 : Hid (Bk V q11 30 [.int .i64 0, .int .i64 0, .bool false, .bool false, .bool false, .int .i64 0, .int .i64 0, .int .i64 0, .int .i64 0, .int .i64 0]) := by rw [← hW]; exact B11.out.alloc _
        rw [hW]
        try rw [hg]
        clear hW hg hHeld
        clear A
        rename World => A
        refine hK.out _ _ ?_ (fun hHeld => ?_)
        focus ((try dsimp only); exact B3.out)
        clear hK K
        try simp only [Act.put, List.setIfInBounds_toArray, List.set_cons_zero, List.set_cons_succ]
        exact TL A q10 q11 ⟨S.out, C.out, B3.out, B10.out, B11.out, ge10, ge11, by omega, by omega, by omega, trivial⟩
      refine consL rfl (fun K hK => ?_) AllReadyH.nil
      go_simp
      obtain ⟨q10, hg⟩ : ∃ q, A.heap.size = q := ⟨_, rfl⟩
      have ge10 : W.heap.size ≤ q10 := by have := C.out.size; omega
      have ne10_3 : q10 ≠ gz := by have := B3.out.lt; omega
      have ne10_11 : q10 ≠ q11 := by have := B11.out.lt; omega
      obtain ⟨V, hW⟩ : ∃ V, A.alloc (.cells #[.int .u32 0, .int .u32 0, .int .u32 0, .int .u32 0, .int .u32 0, .int .u32 0, .int .u32 0, .int .u32 0, .int .u32 0, .int .u32 0, .int .u32 0, .int .u32 0, .int .u32 0, .int .u32 0, .int .u32 0, .int .u32 0] 28) = V := ⟨_, rfl⟩
      have B10 : Hid (Bk V q10 28 [.int .u32 0, .int .u32 0, .int .u32 0, .int .u32 0, .int .u32 0, .int .u32 0, .int .u32 0, .int .u32 0, .int .u32 0, .int .u32 0, .int .u32 0, .int .u32 0, .int .u32 0, .int .u32 0, .int .u32 0, .int .u32 0]) := by rw [← hW, ← hg]; exact Bk.new A [.int .u32 0, .int .u32 0, .int .u32 0, .int .u32 0, .int .u32 0, .int .u32 0, .int .u32 0, .int .u32 0, .int .u32 0, .int .u32 0, .int .u32 0, .int .u32 0, .int .u32 0, .int .u32 0, .int .u32 0, .int .u32 0] 28
      replace S : Hid (St 71 V F bs ks) := by rw [← hW]; exact S.out.alloc _
      replace C : Hid (Ch W V [F.gb]) := by rw [← hW]; exact C.out.alloc _
      replace B3 : Hid (Bk V gz 30 [.int .i64 0, .int .i64 0, .bool false, .bool false, .bool false, .int .i64 0, .int .i64 0, .int .i64 0, .int .i64 0, .int .i64 0]) := by rw [← hW]; exact B3.out.alloc _
      replace B11 : Hid (Bk V q11 30 [.int .i64 0, .int .i64 0, .bool false, .bool false, .bool false, .int .i64 0, .int .i64 0, .int .i64 0, .int .i64 0, .int .i64 0]) := by rw [← hW]; exact B11.out.alloc _
      rw [hW]
      try rw [hg]
      clear hW hg hHeld
      clear A
      rename World => A
      refine hK.out _ _ ?_ (fun hHeld => ?_)
      focus ((try dsimp only); exact B3.out)
      clear hK K
      try simp only [Act.put, List.setIfInBounds_toArray, List.set_cons_zero, List.set_cons_succ]
      refine wpAnyH_ready (rs := [4]) (by kernel_rfl) (by simp) ?_
      refine consL rfl (fun K hK => ?_) AllReadyH.nil
      go_simp
      go_at_call 14
      refine (HX.out _ S.out).mono ?_
      rintro e V ⟨rfl, hs, hc⟩
      replace S := Lib.hid hs
      replace C := Lib.hid (C.out.trans (hc.mono (by simp)))
      replace B3 := Lib.hid (B3.out.ch hc (by simp; omega))
      replace B11 := Lib.hid (B11.out.ch hc (by simp; omega))
      replace B10 := Lib.hid (B10.out.ch hc (by simp; omega))
      clear hs hc hHeld
      clear A
      rename World => A
      go_wp2_with fail
      refine hK.out _ _ ?_ (fun hHeld => ?_)
      focus ((try dsimp only); exact B3.out)
      clear hK K
      try simp only [Act.put, List.setIfInBounds_toArray, List.set_cons_zero, List.set_cons_succ]
      refine' takeL (i := 5) (v := _) rfl (by kernel_rfl) (by kernel_rfl) (by kernel_rfl) (fun c a w => hQ c a _ w rfl) (Or.inl ⟨by rfl, ?yy20⟩) (by assumption) ?rr20
      case yy20 => intro w hSw; (try dsimp only at hSw); go_simp; (try with_reducible rfl)
      try simp only [Act.put, List.setIfInBounds_toArray, List.set_cons_zero, List.set_cons_succ]
      refine' takeL (i := 6) (v := _) rfl (by kernel_rfl) (by kernel_rfl) (by kernel_rfl) (fun c a w => hQ c a _ w rfl) (Or.inl ⟨by rfl, ?yy21⟩) (by assumption) ?rr21
      case yy21 => intro w hSw; (try dsimp only at hSw); go_simp; (try with_reducible rfl)
      try simp only [Act.put, List.setIfInBounds_toArray, List.set_cons_zero, List.set_cons_succ]
      refine' takeL (i := 7) (v := _) rfl (by kernel_rfl) (by kernel_rfl) (by kernel_rfl) (fun c a w => hQ c a _ w rfl) (Or.inl ⟨by rfl, ?yy22⟩) (by assumption) ?rr22
      case yy22 => intro w hSw; (try dsimp only at hSw); go_simp; (try with_reducible rfl)
      try simp only [Act.put, List.setIfInBounds_toArray, List.set_cons_zero, List.set_cons_succ]
      refine' takeL (i := 8) (v := _) rfl (by kernel_rfl) (by kernel_rfl) (by kernel_rfl) (fun c a w => hQ c a _ w rfl) (Or.inl ⟨by rfl, ?yy23⟩) (by assumption) ?rr23
      case yy23 => intro w hSw; (try dsimp only at hSw); go_simp; (try with_reducible rfl)
      try simp only [Act.put, List.setIfInBounds_toArray, List.set_cons_zero, List.set_cons_succ]
      exact TL A q10 q11 ⟨S.out, C.out, B3.out, B10.out, B11.out, ge10, ge11, by omega, by omega, by omega, trivial⟩
    refine consL rfl (fun K hK => ?_) ?_
    · go_simp
      obtain ⟨q10, hg⟩ : ∃ q, A.heap.size = q := ⟨_, rfl⟩
      have ge10 : W.heap.size ≤ q10 := by have := C.out.size; omega
      have ne10_3 : q10 ≠ gz := by have := B3.out.lt; omega
      obtain ⟨V, hW⟩ : ∃ V, A.alloc (.cells #[.int .u32 0, .int .u32 0, .int .u32 0, .int .u32 0, .int .u32 0, .int .u32 0, .int .u32 0, .int .u32 0, .int .u32 0, .int .u32 0, .int .u32 0, .int .u32 0, .int .u32 0, .int .u32 0, .int .u32 0, .int .u32 0] 28) = V := ⟨_, rfl⟩
      have B10 : Hid (Bk V q10 28 [.int .u32 0, .int .u32 0, .int .u32 0, .int .u32 0, .int .u32 0, .int .u32 0, .int .u32 0, .int .u32 0, .int .u32 0, .int .u32 0, .int .u32 0, .int .u32 0, .int .u32 0, .int .u32 0, .int .u32 0, .int .u32 0]) := by rw [← hW, ← hg]; exact Bk.new A [.int .u32 0, .int .u32 0, .int .u32 0, .int .u32 0, .int .u32 0, .int .u32 0, .int .u32 0, .int .u32 0, .int .u32 0, .int .u32 0, .int .u32 0, .int .u32 0, .int .u32 0, .int .u32 0, .int .u32 0, .int .u32 0] 28
      replace S : Hid (St 71 V F bs ks) := by rw [← hW]; exact S.out.alloc _
      replace C : Hid (Ch W V [F.gb]) := by rw [← hW]; exact C.out.alloc _
      replace B3 : Hid (Bk V gz 30 [.int .i64 0, .int .i64 0, .bool false, .bool false, .bool false, .int .i64 0, .int .i64 0, .int .i64 0, .int .i64 0, .int .i64 0]) := by rw [← hW]; exact B3.out.alloc _
      rw [hW]
      try rw [hg]
      clear hW hg hHeld
      clear A
      rename World => A
      refine hK.out _ _ ?_ (fun hHeld => ?_)
      focus ((try dsimp only); exact B3.out)
      clear hK K
      try simp only [Act.put, List.setIfInBounds_toArray, List.set_cons_zero, List.set_cons_succ]
      refine wpAnyH_ready (rs := [0, 10]) (by kernel_rfl) (by simp) ?_
      refine consL rfl (fun K hK => ?_) ?_
      · go_simp
        go_at_call 17
        refine (ss_c 210 3 _ (by omega) (by omega)).mono ?_
        rintro e V ⟨rfl, hb⟩
        replace S := Lib.hid (S.out.belowS hb)
        replace C := Lib.hid (C.out.trans (Ch.of_below hb _))
        replace B3 := Lib.hid (B3.out.keep hb)
        replace B10 := Lib.hid (B10.out.keep hb)
        clear hb hHeld
        clear A
        rename World => A
        go_wp2_with fail
        refine hK.out _ _ ?_ (fun hHeld => ?_)
        focus ((try dsimp only); exact B3.out)
        clear hK K
        try simp only [Act.put, List.setIfInBounds_toArray, List.set_cons_zero, List.set_cons_succ]
        refine wpAnyH_ready (rs := [4, 10]) (by kernel_rfl) (by simp) ?_
        refine consL rfl (fun K hK => ?_) ?_
        · go_simp
          go_at_call 14
          refine (HX.out _ S.out).mono ?_
          rintro e V ⟨rfl, hs, hc⟩
          replace S := Lib.hid hs
          replace C := Lib.hid (C.out.trans (hc.mono (by simp)))
          replace B3 := Lib.hid (B3.out.ch hc (by simp; omega))
          replace B10 := Lib.hid (B10.out.ch hc (by simp; omega))
          clear hs hc hHeld
          clear A
          rename World => A
          go_wp2_with fail
          refine hK.out _ _ ?_ (fun hHeld => ?_)
          focus ((try dsimp only); exact B3.out)
          clear hK K
          try simp only [Act.put, List.setIfInBounds_toArray, List.set_cons_zero, List.set_cons_succ]
          refine' takeL (i := 5) (v := _) rfl (by kernel_rfl) (by kernel_rfl) (by kernel_rfl) (fun c a w => hQ c a _ w rfl) (Or.inl ⟨by rfl, ?yy24⟩) (by assumption) ?rr24
          case yy24 => intro w hSw; (try dsimp only at hSw); go_simp; (try with_reducible rfl)
          try simp only [Act.put, List.setIfInBounds_toArray, List.set_cons_zero, List.set_cons_succ]
          refine' takeL (i := 6) (v := _) rfl (by kernel_rfl) (by kernel_rfl) (by kernel_rfl) (fun c a w => hQ c a _ w rfl) (Or.inl ⟨by rfl, ?yy25⟩) (by assumption) ?rr25
          case yy25 => intro w hSw; (try dsimp only at hSw); go_simp; (try with_reducible rfl)
          try simp only [Act.put, List.setIfInBounds_toArray, List.set_cons_zero, List.set_cons_succ]
          refine' takeL (i := 7) (v := _) rfl (by kernel_rfl) (by kernel_rfl) (by kernel_rfl) (fun c a w => hQ c a _ w rfl) (Or.inl ⟨by rfl, ?yy26⟩) (by assumption) ?rr26
          case yy26 => intro w hSw; (try dsimp only at hSw); go_simp; (try with_reducible rfl)
          try simp only [Act.put, List.setIfInBounds_toArray, List.set_cons_zero, List.set_cons_succ]
          refine' takeL (i := 8) (v := _) rfl (by kernel_rfl) (by kernel_rfl) (by kernel_rfl) (fun c a w => hQ c a _ w rfl) (Or.inl ⟨by rfl, ?yy27⟩) (by assumption) ?rr27
          case yy27 => intro w hSw; (try dsimp only at hSw); go_simp; (try with_reducible rfl)
          try simp only [Act.put, List.setIfInBounds_toArray, List.set_cons_zero, List.set_cons_succ]
          refine wpAnyH_ready (rs := [10]) (by kernel_rfl) (by simp) ?_
          refine consL rfl (fun K hK => ?_) AllReadyH.nil
          go_simp
          obtain ⟨q11, hg⟩ : ∃ q, A.heap.size = q := ⟨_, rfl⟩
          have ge11 : W.heap.size ≤ q11 := by have := C.out.size; omega
          have ne11_3 : q11 ≠ gz := by have := B3.out.lt; omega
          have ne11_10 : q11 ≠ q10 := by have := B10.out.lt; omega
          obtain ⟨V, hW⟩ : ∃ V, A.alloc (.cells #[.int .i64 0, .int .i64 0, .bool false, .bool false, .bool false, .int .i64 0, .int .i64 0, .int .i64 0, .int .i64 0, .int .i64 0] 30) = V := ⟨_, rfl⟩
          have B11 : Hid (Bk V q11 30 [.int .i64 0, .int .i64 0, .bool false, .bool false, .bool false, .int .i64 0, .int .i64 0, .int .i64 0, .int .i64 0, .int .i64 0]) := by rw [← hW, ← hg]; exact Bk.new A [.int .i64 0, .int .i64 0, .bool false, .bool false, .bool false, .int .i64 0, .int .i64 0, .int .i64 0, .int .i64 0, .int .i64 0] 30
          replace S : Hid (St 71 V F bs2 ks) := by rw [← hW]; exact S.out.alloc _
          replace C : Hid (Ch W V [F.gb]) := by rw [← hW]; exact C.out.alloc _
          replace B3 : Hid (Bk V gz 30 [.int .i64 0, .int .i64 0, .bool false, .bool false, .bool false, .int .i64 0, .int .i64 0, .int .i64 0, .int .i64 0, .int .i64 0]) := by rw [← hW]; exact B3.out.alloc _
          replace B10 : Hid (Bk V q10 28 [.int .u32 0, .int .u32 0, .int .u32 0, .int .u32 0, .int .u32 0, .int .u32 0, .int .u32 0, .int .u32 0, .int .u32 0, .int .u32 0, .int .u32 0, .int .u32 0, .int .u32 0, .int .u32 0, .int .u32 0, .int .u32 0]) := by rw [← hW]; exact B10.out.alloc _
          rw [hW]
          try rw [hg]
          clear hW hg hHeld
          clear A
          rename World => A
          refine hK.out _ _ ?_ (fun hHeld => ?_)
          focus ((try dsimp only); exact B3.out)
          clear hK K
          try simp only [Act.put, List.setIfInBounds_toArray, List.set_cons_zero, List.set_cons_succ]
          exact TL A q10 q11 ⟨S.out, C.out, B3.out, B10.out, B11.out, ge10, ge11, by omega, by omega, by omega, trivial⟩
        refine consL rfl (fun K hK => ?_) AllReadyH.nil
        go_simp
        obtain ⟨q11, hg⟩ : ∃ q, A.heap.size = q := ⟨_, rfl⟩
        have ge11 : W.heap.size ≤ q11 := by have := C.out.size; omega
        have ne11_3 : q11 ≠ gz := by have := B3.out.lt; omega
        have ne11_10 : q11 ≠ q10 := by have := B10.out.lt; omega
        obtain ⟨V, hW⟩ : ∃ V, A.alloc (.cells #[.int .i64 0, .int .i64 0, .bool false, .bool false, .bool false, .int .i64 0, .int .i64 0, .int .i64 0, .int .i64 0, .int .i64 0] 30) = V := ⟨_, rfl⟩
        have B11 : Hid (Bk V q11 30 [.int .i64 0, .int .i64 0, .bool false, .bool false, .bool false, .int .i64 0, .int .i64 0, .int .i64 0, .int .i64 0, .int .i64 0]) := by rw [← hW, ← hg]; exact Bk.new A [.int .i64 0, .int .i64 0, .bool false, .bool false, .bool false, .int .i64 0, .int .i64 0, .int .i64 0, .int .i64 0, .int .i64 0] 30
        replace S : Hid (St 71 V F bs ks) := by rw [← hW]; exact S.out.alloc _
        replace C : Hid (Ch W V [F.gb]) := by rw [← hW]; exact C.out.alloc _
        replace B3 : Hid (Bk V gz 30 [.int .i64 0, .int .i64 0, .bool false, .bool false, .bool false, .int .i64 0, .int .i64 0, .int .i64 0, .int .i64 0, .int .i64 0]) := by rw [← hW]; exact B3.out.alloc _
        replace B10 : Hid (Bk V q10 28 [.int .u32 0, .int .u32 0, .int .u32 0, .int .u32 0, .int .u32 0, .int .u32 0, .int .u32 0, .int .u32 0, .int .u32 0, .int .u32 0, .int .u32 0, .int .u32 0, .int .u32 0, .int .u32 0, .int .u32 0, .int .u32 0]) := by rw [← hW]; exact B10.out.alloc _
        rw [hW]
        try rw [hg]
        clear hW hg hHeld
        clear A
        rename World => A
        refine hK.out _ _ ?_ (fun hHeld => ?_)
        focus ((try dsimp only); exact B3.out)
        clear hK K
        try simp only [Act.put, List.setIfInBounds_toArray, List.set_cons_zero, List.set_cons_succ]
        refine wpAnyH_ready (rs := [4]) (by kernel_rfl) (by simp) ?_
        refine consL rfl (fun K hK => ?_) AllReadyH.nil
        go_simp
        go_at_call 14
        refine (HX.out _ S.out).mono ?_
        rintro e V ⟨rfl, hs, hc⟩
        replace S := Lib.hid hs
        replace C := Lib.hid (C.out.trans (hc.mono (by simp)))
        replace B3 := Lib.hid (B3.out.ch hc (by simp; omega))
        replace B10 := Lib.hid (B10.out.ch hc (by simp; omega))
        replace B11 := Lib.hid (B11.out.ch hc (by simp; omega))
        clear hs hc hHeld
        clear A
        rename World => A
        go_wp2_with fail
        refine hK.out _ _ ?_ (fun hHeld => ?_)
        focus ((try dsimp only); exact B3.out)
        clear hK K
        try simp only [Act.put, List.setIfInBounds_toArray, List.set_cons_zero, List.set_cons_succ]
        refine' takeL (i := 5) (v := _) rfl (by kernel_rfl) (by kernel_rfl) (by kernel_rfl) (fun c a w => hQ c a _ w rfl) (Or.inl ⟨by rfl, ?yy28⟩) (by assumption) ?rr28
        case yy28 => intro w hSw; (try dsimp only at hSw); go_simp; (try with_reducible rfl)
        try simp only [Act.put, List.setIfInBounds_toArray, List.set_cons_zero, List.set_cons_succ]
        refine' takeL (i := 6) (v := _) rfl (by kernel_rfl) (by kernel_rfl) (by kernel_rfl) (fun c a w => hQ c a _ w rfl) (Or.inl ⟨by rfl, ?yy29⟩) (by assumption) ?rr29
        case yy29 => intro w hSw; (try dsimp only at hSw); go_simp; (try with_reducible rfl)
        try simp only [Act.put, List.setIfInBounds_toArray, List.set_cons_zero, List.set_cons_succ]
        refine' takeL (i := 7) (v := _) rfl (by kernel_rfl) (by kernel_rfl) (by kernel_rfl) (fun c a w => hQ c a _ w rfl) (Or.inl ⟨by rfl, ?yy30⟩) (by assumption) ?rr30
        case yy30 => intro w hSw; (try dsimp only at hSw); go_simp; (try with_reducible rfl)
        try simp only [Act.put, List.setIfInBounds_toArray, List.set_cons_zero, List.set_cons_succ]
        refine' takeL (i := 8) (v := _) rfl (by kernel_rfl) (by kernel_rfl) (by kernel_rfl) (fun c a w => hQ c a _ w rfl) (Or.inl ⟨by rfl, ?yy31⟩) (by assumption) ?rr31
        case yy31 => intro w hSw; (try dsimp only at hSw); go_simp; (try with_reducible rfl)
        try simp only [Act.put, List.setIfInBounds_toArray, List.set_cons_zero, List.set_cons_succ]
        exact TL A q10 q11 ⟨S.out, C.out, B3.out, B10.out, B11.out, ge10, ge11, by omega, by omega, by omega, trivial⟩
      refine consL rfl (fun K hK => ?_) AllReadyH.nil
      go_simp
      obtain ⟨q11, hg⟩ : ∃ q, A.heap.size = q := ⟨_, rfl⟩
      have ge11 : W.heap.size ≤ q11 := by have := C.out.size; omega
      have ne11_3 : q11 ≠ gz := by have := B3.out.lt; omega
      have ne11_10 : q11 ≠ q10 := by have := B10.out.lt; omega
      obtain ⟨V, hW⟩ : ∃ V, A.alloc (.cells #[.int .i64 0, .int .i64 0, .bool false, .bool false, .bool false, .int .i64 0, .int .i64 0, .int .i64 0, .int .i64 0, .int .i64 0] 30) = V := ⟨_, rfl⟩
      have B11 : Hid (Bk V q11 30 [.int .i64 0, .int .i64 0, .bool false, .bool false, .bool false, .int .i64 0, .int .i64 0, .int .i64 0, .int .i64 0, .int .i64 0]) := by rw [← hW, ← hg]; exact Bk.new A [.int .i64 0, .int .i64 0, .bool false, .bool false, .bool false, .int .i64 0, .int .i64 0, .int .i64 0, .int .i64 0, .int .i64 0] 30
      replace S : Hid (St 71 V F bs ks) := by rw [← hW]; exact S.out.alloc _
      replace C : Hid (Ch W V [F.gb]) := by rw [← hW]; exact C.out.alloc _
      replace B3 : Hid (Bk V gz 30 [.int .i64 0, .int .i64 0, .bool false, .bool false, .bool false, .int .i64 0, .int .i64 0, .int .i64 0, .int .i64 0, .int .i64 0]) := by rw [← hW]; exact B3.out.alloc _
      replace B10 : Hid (Bk V q10 28 [.int .u32 0, .int .u32 0, .int .u32 0, .int .u32 0, .int .u32 0, .int .u32 0, .int .u32 0, .int .u32 0, .int .u32 0, .int .u32 0, .int .u32 0, .int .u32 0, .int .u32 0, .int .u32 0, .int .u32 0, .int .u32 0]) := by rw [← hW]; exact B10.out.alloc _
      rw [hW]
      try rw [hg]
      clear hW hg hHeld
      clear A
      rename World => A
      refine hK.out _ _ ?_ (fun hHeld => ?_)
      focus ((try dsimp only); exact B3.out)
      clear hK K
      try simp only [Act.put, List.setIfInBounds_toArray, List.set_cons_zero, List.set_cons_succ]
      refine wpAnyH_ready (rs := [0]) (by kernel_rfl) (by simp) ?_
      refine consL rfl (fun K hK => ?_) AllReadyH.nil
      go_simp
      go_at_call 17
      refine (ss_c 210 3 _ (by omega) (by omega)).mono ?_
      rintro e V ⟨rfl, hb⟩
      replace S := Lib.hid (S.out.belowS hb)
      replace C := Lib.hid (C.out.trans (Ch.of_below hb _))
      replace B3 := Lib.hid (B3.out.keep hb)
      replace B10 := Lib.hid (B10.out.keep hb)
      replace B11 := Lib.hid (B11.out.keep hb)
      clear hb hHeld
      clear A
      rename World => A
      go_wp2_with fail
      refine hK.out _ _ ?_ (fun hHeld => ?_)
      focus ((try dsimp only); exact B3.out)
      clear hK K
      try simp only [Act.put, List.setIfInBounds_toArray, List.set_cons_zero, List.set_cons_succ]
      refine wpAnyH_ready (rs := [4]) (by kernel_rfl) (by simp) ?_
      refine consL rfl (fun K hK => ?_) AllReadyH.nil
      go_simp
      go_at_call 14
      refine (HX.out _ S.out).mono ?_
      rintro e V ⟨rfl, hs, hc⟩
      replace S := Lib.hid hs
      replace C := Lib.hid (C.out.trans (hc.mono (by simp)))
      replace B3 := Lib.hid (B3.out.ch hc (by simp; omega))
      replace B10 := Lib.hid (B10.out.ch hc (by simp; omega))
      replace B11 := Lib.hid (B11.out.ch hc (by simp; omega))
      clear hs hc hHeld
      clear A
      rename World => A
      go_wp2_with fail
      refine hK.out _ _ ?_ (fun hHeld => ?_)
      focus ((try dsimp only); exact B3.out)
      clear hK K
      try simp only [Act.put, List.setIfInBounds_toArray, List.set_cons_zero, List.set_cons_succ]
      refine' takeL (i := 5) (v := _) rfl (by kernel_rfl) (by kernel_rfl) (by kernel_rfl) (fun c a w => hQ c a _ w rfl) (Or.inl ⟨by rfl, ?yy32⟩) (by assumption) ?rr32
      case yy32 => intro w hSw; (try dsimp only at hSw); go_simp; (try with_reducible rfl)
      try simp only [Act.put, List.setIfInBounds_toArray, List.set_cons_zero, List.set_cons_succ]
      refine' takeL (i := 6) (v := _) rfl (by kernel_rfl) (by kernel_rfl) (by kernel_rfl) (fun c a w => hQ c a _ w rfl) (Or.inl ⟨by rfl, ?yy33⟩) (by assumption) ?rr33
      case yy33 => intro w hSw; (try dsimp only at hSw); go_simp; (try with_reducible rfl)
      try simp only [Act.put, List.setIfInBounds_toArray, List.set_cons_zero, List.set_cons_succ]
      refine' takeL (i := 7) (v := _) rfl (by kernel_rfl) (by kernel_rfl) (by kernel_rfl) (fun c a w => hQ c a _ w rfl) (Or.inl ⟨by rfl, ?yy34⟩) (by assumption) ?rr34
      case yy34 => intro w hSw; (try dsimp only at hSw); go_simp; (try with_reducible rfl)
      try simp only [Act.put, List.setIfInBounds_toArray, List.set_cons_zero, List.set_cons_succ]
      refine' takeL (i := 8) (v := _) rfl (by kernel_rfl) (by kernel_rfl) (by kernel_rfl) (fun c a w => hQ c a _ w rfl) (Or.inl ⟨by rfl, ?yy35⟩) (by assumption) ?rr35
      case yy35 => intro w hSw; (try dsimp only at hSw); go_simp; (try with_reducible rfl)
      try simp only [Act.put, List.setIfInBounds_toArray, List.set_cons_zero, List.set_cons_succ]
      exact TL A q10 q11 ⟨S.out, C.out, B3.out, B10.out, B11.out, ge10, ge11, by omega, by omega, by omega, trivial⟩
    refine consL rfl (fun K hK => ?_) AllReadyH.nil
    go_simp
    obtain ⟨q11, hg⟩ : ∃ q, A.heap.size = q := ⟨_, rfl⟩
    have ge11 : W.heap.size ≤ q11 := by have := C.out.size; omega
    have ne11_3 : q11 ≠ gz := by have := B3.out.lt; omega
    obtain ⟨V, hW⟩ : ∃ V, A.alloc (.cells #[.int .i64 0, .int .i64 0, .bool false, .bool false, .bool false, .int .i64 0, .int .i64 0, .int .i64 0, .int .i64 0, .int .i64 0] 30) = V := ⟨_, rfl⟩
    have B11 : Hid (Bk V q11 30 [.int .i64 0, .int .i64 0, .bool false, .bool false, .bool false, .int .i64 0, .int .i64 0, .int .i64 0, .int .i64 0, .int .i64 0]) := by rw [← hW, ← hg]; exact Bk.new A [.int .i64 0, .int .i64 0, .bool false, .bool false, .bool false, .int .i64 0, .int .i64 0, .int .i64 0, .int .i64 0, .int .i64 0] 30
    replace S : Hid (St 71 V F bs ks) := by rw [← hW]; exact S.out.alloc _
    replace C : Hid (Ch W V [F.gb]) := by rw [← hW]; exact C.out.alloc _
    replace B3 : Hid (Bk V gz 30 [.int .i64 0, .int .i64 0, .bool false, .bool false, .bool false, .int .i64 0, .int .i64 0, .int .i64 0, .int .i64 0, .int .i64 0]) := by rw [← hW]; exact B3.out.alloc _
    rw [hW]
    try rw [hg]
    clear hW hg hHeld
    clear A
    rename World => A
    refine hK.out _ _ ?_ (fun hHeld => ?_)
    focus ((try dsimp only); exact B3.out)
    clear hK K
    try simp only [Act.put, List.setIfInBounds_toArray, List.set_cons_zero, List.set_cons_succ]
    refine wpAnyH_ready (rs := [0, 9]) (by kernel_rfl) (by simp) ?_
    refine consL rfl (fun K hK => ?_) ?_
    · go_simp
      go_at_call 17
      refine (ss_c 210 3 _ (by omega) (by omega)).mono ?_
      rintro e V ⟨rfl, hb⟩
      replace S := Lib.hid (S.out.belowS hb)
      replace C := Lib.hid (C.out.trans (Ch.of_below hb _))
      replace B3 := Lib.hid (B3.out.keep hb)
      replace B11 := Lib.hid (B11.out.keep hb)
      clear hb hHeld
      clear A
      rename World => A
      go_wp2_with fail
      refine hK.out _ _ ?_ (fun hHeld => ?_)
      focus ((try dsimp only); exact B3.out)
      clear hK K
      try simp only [Act.put, List.setIfInBounds_toArray, List.set_cons_zero, List.set_cons_succ]
      refine wpAnyH_ready (rs := [4, 9]) (by kernel_rfl) (by simp) ?_
      refine consL rfl (fun K hK => ?_) ?_
      · go_simp
        go_at_call 14
        refine (HX.out _ S.out).mono ?_
        rintro e V ⟨rfl, hs, hc⟩
        replace S := Lib.hid hs
        replace C := Lib.hid (C.out.trans (hc.mono (by simp)))
        replace B3 := Lib.hid (B3.out.ch hc (by simp; omega))
        replace B11 := Lib.hid (B11.out.ch hc (by simp; omega))
        clear hs hc hHeld
        clear A
        rename World => A
        go_wp2_with fail
        refine hK.out _ _ ?_ (fun hHeld => ?_)
        focus ((try dsimp only); exact B3.out)
        clear hK K
        try simp only [Act.put, List.setIfInBounds_toArray, List.set_cons_zero, List.set_cons_succ]
        refine' takeL (i := 5) (v := _) rfl (by kernel_rfl) (by kernel_rfl) (by kernel_rfl) (fun c a w => hQ c a _ w rfl) (Or.inl ⟨by rfl, ?yy36⟩) (by assumption) ?rr36
        case yy36 => intro w hSw; (try dsimp only at hSw); go_simp; (try with_reducible rfl)
        try simp only [Act.put, List.setIfInBounds_toArray, List.set_cons_zero, List.set_cons_succ]
        refine' takeL (i := 6) (v := _) rfl (by kernel_rfl) (by kernel_rfl) (by kernel_rfl) (fun c a w => hQ c a _ w rfl) (Or.inl ⟨by rfl, ?yy37⟩) (by assumption) ?rr37
        case yy37 => intro w hSw; (try dsimp only at hSw); go_simp; (try with_reducible rfl)
        try simp only [Act.put, List.setIfInBounds_toArray, List.set_cons_zero, List.set_cons_succ]
        refine' takeL (i := 7) (v := _) rfl (by kernel_rfl) (by kernel_rfl) (by kernel_rfl) (fun c a w => hQ c a _ w rfl) (Or.inl ⟨by rfl, ?yy38⟩) (by assumption) ?rr38
        case yy38 => intro w hSw; (try dsimp only at hSw); go_simp; (try with_reducible rfl)
        try simp only [Act.put, List.setIfInBounds_toArray, List.set_cons_zero, List.set_cons_succ]
        refine' takeL (i := 8) (v := _) rfl (by kernel_rfl) (by kernel_rfl) (by kernel_rfl) (fun c a w => hQ c a _ w rfl) (Or.inl ⟨by rfl, ?yy39⟩) (by assumption) ?rr39
        case yy39 => intro w hSw; (try dsimp only at hSw); go_simp; (try with_reducible rfl)
        try simp only [Act.put, List.setIfInBounds_toArray, List.set_cons_zero, List.set_cons_succ]
        refine wpAnyH_ready (rs := [9]) (by kernel_rfl) (by simp) ?_
        refine consL rfl (fun K hK => ?_) AllReadyH.nil
        go_simp
        obtain ⟨q10, hg⟩ : ∃ q, A.heap.size = q := ⟨_, rfl⟩
        have ge10 : W.heap.size ≤ q10 := by have := C.out.size; omega
        have ne10_3 : q10 ≠ gz := by have := B3.out.lt; omega
        have ne10_11 : q10 ≠ q11 := by have := B11.out.lt; omega
        obtain ⟨V, hW⟩ : ∃ V, A.alloc (.cells #[.int .u32 0, .int .u32 0, .int .u32 0, .int .u32 0, .int .u32 0, .int .u32 0, .int .u32 0, .int .u32 0, .int .u32 0, .int .u32 0, .int .u32 0, .int .u32 0, .int .u32 0, .int .u32 0, .int .u32 0, .int .u32 0] 28) = V := ⟨_, rfl⟩
        have B10 : Hid (Bk V q10 28 [.int .u32 0, .int .u32 0, .int .u32 0, .int .u32 0, .int .u32 0, .int .u32 0, .int .u32 0, .int .u32 0, .int .u32 0, .int .u32 0, .int .u32 0, .int .u32 0, .int .u32 0, .int .u32 0, .int .u32 0, .int .u32 0]) := by rw [← hW, ← hg]; exact Bk.new A [.int .u32 0, .int .u32 0, .int .u32 0, .int .u32 0, .int .u32 0, .int .u32 0, .int .u32 0, .int .u32 0, .int .u32 0, .int .u32 0, .int .u32 0, .int .u32 0, .int .u32 0, .int .u32 0, .int .u32 0, .int .u32 0] 28
        replace S : Hid (St 71 V F bs2 ks) := by rw [← hW]; exact S.out.alloc _
        replace C : Hid (Ch W V [F.gb]) := by rw [← hW]; exact C.out.alloc _
        replace B3 : Hid (Bk V gz 30 [.int .i64 0, .int .i64 0, .bool false, .bool false, .bool false, .int .i64 0, .int .i64 0, .int .i64 0, .int .i64 0, .int .i64 0]) := by rw [← hW]; exact B3.out.alloc _
        replace B11 : Hid (Bk V q11 30 [.int .i64 0, .int .i64 0, .bool false, .bool false, .bool false, .int .i64 0, .int .i64 0, .int .i64 0, .int .i64 0, .int .i64 0]) := by rw [← hW]; exact B11.out.alloc _
        rw [hW]
        try rw [hg]
        clear hW hg hHeld
        clear A
        rename World => A
        refine hK.out _ _ ?_ (fun hHeld => ?_)
        focus ((try dsimp only); exact B3.out)
        clear hK K
        try simp only [Act.put, List.setIfInBounds_toArray, List.set_cons_zero, List.set_cons_succ]
        exact TL A q10 q11 ⟨S.out, C.out, B3.out, B10.out, B11.out, ge10, ge11, by omega, by omega, by omega, trivial⟩
      refine consL rfl (fun K hK => ?_) AllReadyH.nil
      go_simp
      obtain ⟨q10, hg⟩ : ∃ q, A.heap.size = q := ⟨_, rfl⟩
      have ge10 : W.heap.size ≤ q10 := by have := C.out.size; omega
      have ne10_3 : q10 ≠ gz := by have := B3.out.lt; omega
      have ne10_11 : q10 ≠ q11 := by have := B11.out.lt; omega
      obtain ⟨V, hW⟩ : ∃ V, A.alloc (.cells #[.int .u32 0, .int .u32 0, .int .u32 0, .int .u32 0, .int .u32 0, .int .u32 0, .int .u32 0, .int .u32 0, .int .u32 0, .int .u32 0, .int .u32 0, .int .u32 0, .int .u32 0, .int .u32 0, .int .u32 0, .int .u32 0] 28) = V := ⟨_, rfl⟩
      have B10 : Hid (Bk V q10 28 [.int .u32 0, .int .u32 0, .int .u32 0, .int .u32 0, .int .u32 0, .int .u32 0, .int .u32 0, .int .u32 0, .int .u32 0, .int .u32 0, .int .u32 0, .int .u32 0, .int .u32 0, .int .u32 0, .int .u32 0, .int .u32 0]) := by rw [← hW, ← hg]; exact Bk.new A [.int .u32 0, .int .u32 0, .int .u32 0, .int .u32 0, .int .u32 0, .int .u32 0, .int .u32 0, .int .u32 0, .int .u32 0, .int .u32 0, .int .u32 0, .int .u32 0, .int .u32 0, .int .u32 0, .int .u32 0, .int .u32 0] 28
      replace S : Hid (St 71 V F bs ks) := by rw [← hW]; exact S.out.alloc _
      replace C : Hid (Ch W V [F.gb]) := by rw [← hW]; exact C.out.alloc _
      replace B3 : Hid (Bk V gz 30 [.int .i64 0, .int .i64 0, .bool false, .bool false, .bool false, .int .i64 0, .int .i64 0, .int .i64 0, .int .i64 0, .int .i64 0]) := by rw [← hW]; exact B3.out.alloc _
      replace B11 : Hid (Bk V q11 30 [.int .i64 0, .int .i64 0, .bool false, .bool false, .bool false, .int .i64 0, .int .i64 0, .int .i64 0, .int .i64 0, .int .i64 0]) := by rw [← hW]; exact B11.out.alloc _
      rw [hW]
      try rw [hg]
      clear hW hg hHeld
      clear A
      rename World => A
      refine hK.out _ _ ?_ (fun hHeld => ?_)
      focus ((try dsimp only); exact B3.out)
      clear hK K
      try simp only [Act.put, List.setIfInBounds_toArray, List.set_cons_zero, List.set_cons_succ]
      refine wpAnyH_ready (rs := [4]) (by kernel_rfl) (by simp) ?_
      refine consL rfl (fun K hK => ?_) AllReadyH.nil
      go_simp
      go_at_call 14
      refine (HX.out _ S.out).mono ?_
      rintro e V ⟨rfl, hs, hc⟩
      replace S := Lib.hid hs
      replace C := Lib.hid (C.out.trans (hc.mono (by simp)))
      replace B3 := Lib.hid (B3.out.ch hc (by simp; omega))
      replace B11 := Lib.hid (B11.out.ch hc (by simp; omega))
      replace B10 := Lib.hid (B10.out.ch hc (by simp; omega))
      clear hs hc hHeld
      clear A
      rename World => A
      go_wp2_with fail
      refine hK.out _ _ ?_ (fun hHeld => ?_)
      focus ((try dsimp only); exact B3.out)
      clear hK K
      try simp only [Act.put, List.setIfInBounds_toArray, List.set_cons_zero, List.set_cons_succ]
      refine' takeL (i := 5) (v := _) rfl (by kernel_rfl) (by kernel_rfl) (by kernel_rfl) (fun c a w => hQ c a _ w rfl) (Or.inl ⟨by rfl, ?yy40⟩) (by assumption) ?rr40
      case yy40 => intro w hSw; (try dsimp only at hSw); go_simp; (try with_reducible rfl)
      try simp only [Act.put, List.setIfInBounds_toArray, List.set_cons_zero, List.set_cons_succ]
      refine' takeL (i := 6) (v := _) rfl (by kernel_rfl) (by kernel_rfl) (by kernel_rfl) (fun c a w => hQ c a _ w rfl) (Or.inl ⟨by rfl, ?yy41⟩) (by assumption) ?rr41
      case yy41 => intro w hSw; (try dsimp only at hSw); go_simp; (try with_reducible rfl)
      try simp only [Act.put, List.setIfInBounds_toArray, List.set_cons_zero, List.set_cons_succ]
      refine' takeL (i := 7) (v := _) rfl (by kernel_rfl) (by kernel_rfl) (by kernel_rfl) (fun c a w => hQ c a _ w rfl) (Or.inl ⟨by rfl, ?yy42⟩) (by assumption) ?rr42
      case yy42 => intro w hSw; (try dsimp only at hSw); go_simp; (try with_reducible rfl)
      try simp only [Act.put, List.setIfInBounds_toArray, List.set_cons_zero, List.set_cons_succ]
      refine' takeL (i := 8) (v := _) rfl (by kernel_rfl) (by kernel_rfl) (by kernel_rfl) (fun c a w => hQ c a _ w rfl) (Or.inl ⟨by rfl, ?yy43⟩) (by assumption) ?rr43
      case yy43 => intro w hSw; (try dsimp only at hSw); go_simp; (try with_reducible rfl)
      try simp only [Act.put, List.setIfInBounds_toArray, List.set_cons_zero, List.set_cons_succ]
      exact TL A q10 q11 ⟨S.out, C.out, B3.out, B10.out, B11.out, ge10, ge11, by omega, by omega, by omega, trivial⟩
    refine consL rfl (fun K hK => ?_) AllReadyH.nil
    go_simp
    obtain ⟨q10, hg⟩ : ∃ q, A.heap.size = q := ⟨_, rfl⟩
    have ge10 : W.heap.size ≤ q10 := by have := C.out.size; omega
    have ne10_3 : q10 ≠ gz := by have := B3.out.lt; omega
    have ne10_11 : q10 ≠ q11 := by have := B11.out.lt; omega
    obtain ⟨V, hW⟩ : ∃ V, A.alloc (.cells #[.int .u32 0, .int .u32 0, .int .u32 0, .int .u32 0, .int .u32 0, .int .u32 0, .int .u32 0, .int .u32 0, .int .u32 0, .int .u32 0, .int .u32 0, .int .u32 0, .int .u32 0, .int .u32 0, .int .u32 0, .int .u32 0] 28) = V := ⟨_, rfl⟩
    have B10 : Hid (Bk V q10 28 [.int .u32 0, .int .u32 0, .int .u32 0, .int .u32 0, .int .u32 0, .int .u32 0, .int .u32 0, .int .u32 0, .int .u32 0, .int .u32 0, .int .u32 0, .int .u32 0, .int .u32 0, .int .u32 0, .int .u32 0, .int .u32 0]) := by rw [← hW, ← hg]; exact Bk.new A [.int .u32 0, .int .u32 0, .int .u32 0, .int .u32 0, .int .u32 0, .int .u32 0, .int .u32 0, .int .u32 0, .int .u32 0, .int .u32 0, .int .u32 0, .int .u32 0, .int .u32 0, .int .u32 0, .int .u32 0, .int .u32 0] 28
    replace S : Hid (St 71 V F bs ks) := by rw [← hW]; exact S.out.alloc _
    replace C : Hid (Ch W V [F.gb]) := by rw [← hW]; exact C.out.alloc _
    replace B3 : Hid (Bk V gz 30 [.int .i64 0, .int .i64 0, .bool false, .bool false, .bool false, .int .i64 0, .int .i64 0, .int .i64 0, .int .i64 0, .int .i64 0]) := by rw [← hW]; exact B3.out.alloc _
    replace B11 : Hid (Bk V q11 30 [.int .i64 0, .int .i64 0, .bool false, .bool false, .bool false, .int .i64 0, .int .i64 0, .int .i64 0, .int .i64 0, .int .i64 0]) := by rw [← hW]; exact B11.out.alloc _
    rw [hW]
    try rw [hg]
    clear hW hg hHeld
    clear A
    rename World => A
    refine hK.out _ _ ?_ (fun hHeld => ?_)
    focus ((try dsimp only); exact B3.out)
    clear hK K
    try simp only [Act.put, List.setIfInBounds_toArray, List.set_cons_zero, List.set_cons_succ]
    refine wpAnyH_ready (rs := [0]) (by kernel_rfl) (by simp) ?_
    refine consL rfl (fun K hK => ?_) AllReadyH.nil
    go_simp
    go_at_call 17
    refine (ss_c 210 3 _ (by omega) (by omega)).mono ?_
    rintro e V ⟨rfl, hb⟩
    replace S := Lib.hid (S.out.belowS hb)
    replace C := Lib.hid (C.out.trans (Ch.of_below hb _))
    replace B3 := Lib.hid (B3.out.keep hb)
    replace B11 := Lib.hid (B11.out.keep hb)
    replace B10 := Lib.hid (B10.out.keep hb)
    clear hb hHeld
    clear A
    rename World => A
    go_wp2_with fail
    refine hK.out _ _ ?_ (fun hHeld => ?_)
    focus ((try dsimp only); exact B3.out)
    clear hK K
    try simp only [Act.put, List.setIfInBounds_toArray, List.set_cons_zero, List.set_cons_succ]
    refine wpAnyH_ready (rs := [4]) (by kernel_rfl) (by simp) ?_
    refine consL rfl (fun K hK => ?_) AllReadyH.nil
    go_simp
    go_at_call 14
    refine (HX.out _ S.out).mono ?_
    rintro e V ⟨rfl, hs, hc⟩
    replace S := Lib.hid hs
    replace C := Lib.hid (C.out.trans (hc.mono (by simp)))
    replace B3 := Lib.hid (B3.out.ch hc (by simp; omega))
    replace B11 := Lib.hid (B11.out.ch hc (by simp; omega))
    replace B10 := Lib.hid (B10.out.ch hc (by simp; omega))
    clear hs hc hHeld
    clear A
    rename World => A
    go_wp2_with fail
    refine hK.out _ _ ?_ (fun hHeld => ?_)
    focus ((try dsimp only); exact B3.out)
    clear hK K
    try simp only [Act.put, List.setIfInBounds_toArray, List.set_cons_zero, List.set_cons_succ]
    refine' takeL (i := 5) (v := _) rfl (by kernel_rfl) (by kernel_rfl) (by kernel_rfl) (fun c a w => hQ c a _ w rfl) (Or.inl ⟨by rfl, ?yy44⟩) (by assumption) ?rr44
    case yy44 => intro w hSw; (try dsimp only at hSw); go_simp; (try with_reducible rfl)
    try simp only [Act.put, List.setIfInBounds_toArray, List.set_cons_zero, List.set_cons_succ]
    refine' takeL (i := 6) (v := _) rfl (by kernel_rfl) (by kernel_rfl) (by kernel_rfl) (fun c a w => hQ c a _ w rfl) (Or.inl ⟨by rfl, ?yy45⟩) (by assumption) ?rr45
    case yy45 => intro w hSw; (try dsimp only at hSw); go_simp; (try with_reducible rfl)
    try simp only [Act.put, List.setIfInBounds_toArray, List.set_cons_zero, List.set_cons_succ]
    refine' takeL (i := 7) (v := _) rfl (by kernel_rfl) (by kernel_rfl) (by kernel_rfl) (fun c a w => hQ c a _ w rfl) (Or.inl ⟨by rfl, ?yy46⟩) (by assumption) ?rr46
    case yy46 => intro w hSw; (try dsimp only at hSw); go_simp; (try with_reducible rfl)
    try simp only [Act.put, List.setIfInBounds_toArray, List.set_cons_zero, List.set_cons_succ]
    refine' takeL (i := 8) (v := _) rfl (by kernel_rfl) (by kernel_rfl) (by kernel_rfl) (fun c a w => hQ c a _ w rfl) (Or.inl ⟨by rfl, ?yy47⟩) (by assumption) ?rr47
    case yy47 => intro w hSw; (try dsimp only at hSw); go_simp; (try with_reducible rfl)
    try simp only [Act.put, List.setIfInBounds_toArray, List.set_cons_zero, List.set_cons_succ]
    exact TL A q10 q11 ⟨S.out, C.out, B3.out, B10.out, B11.out, ge10, ge11, by omega, by omega, by omega, trivial⟩
  case tail =>
    rintro A q10 q11 ⟨S, C, B3, B10, B11, ge10, ge11, ne_gz_q10, ne_gz_q11, ne_q10_q11, -⟩
    have hHeld := B3
    replace S := Lib.hid S
    replace C := Lib.hid C
    replace B3 := Lib.hid B3
    replace B10 := Lib.hid B10
    replace B11 := Lib.hid B11
    refine wpAnyH_ready (rs := [11]) (by kernel_rfl) (by simp) ?_
    refine consL rfl (fun K hK => ?_) AllReadyH.nil
    have cz := B10.out
    have cz0 := cz.cell (c := 0) rfl
    have fz0 := cz.free 0
    have cz1 := cz.cell (c := 1) rfl
    have fz1 := cz.free 1
    have cz2 := cz.cell (c := 2) rfl
    have fz2 := cz.free 2
    have cz3 := cz.cell (c := 3) rfl
    have fz3 := cz.free 3
    have cz4 := cz.cell (c := 4) rfl
    have fz4 := cz.free 4
    have cz5 := cz.cell (c := 5) rfl
    have fz5 := cz.free 5
    have cz6 := cz.cell (c := 6) rfl
    have fz6 := cz.free 6
    have cz7 := cz.cell (c := 7) rfl
    have fz7 := cz.free 7
    have cz8 := cz.cell (c := 8) rfl
    have fz8 := cz.free 8
    have cz9 := cz.cell (c := 9) rfl
    have fz9 := cz.free 9
    have cz10 := cz.cell (c := 10) rfl
    have fz10 := cz.free 10
    have cz11 := cz.cell (c := 11) rfl
    have fz11 := cz.free 11
    have cz12 := cz.cell (c := 12) rfl
    have fz12 := cz.free 12
    have cz13 := cz.cell (c := 13) rfl
    have fz13 := cz.free 13
    have cz14 := cz.cell (c := 14) rfl
    have fz14 := cz.free 14
    have cz15 := cz.cell (c := 15) rfl
    have fz15 := cz.free 15
    go_simp
    clear cz cz0 fz0 cz1 fz1 cz2 fz2 cz3 fz3 cz4 fz4 cz5 fz5 cz6 fz6 cz7 fz7 cz8 fz8 cz9 fz9 cz10 fz10 cz11 fz11 cz12 fz12 cz13 fz13 cz14 fz14 cz15 fz15
    obtain ⟨V, hW⟩ : ∃ V, ((((((((((((((((A.setCell ⟨q10, 0, none⟩ (.int .u32 0)).setCell ⟨q10, 1, none⟩ (.int .u32 0)).setCell ⟨q10, 2, none⟩ (.int .u32 0)).setCell ⟨q10, 3, none⟩ (.int .u32 0)).setCell ⟨q10, 4, none⟩ (.int .u32 0)).setCell ⟨q10, 5, none⟩ (.int .u32 0)).setCell ⟨q10, 6, none⟩ (.int .u32 0)).setCell ⟨q10, 7, none⟩ (.int .u32 0)).setCell ⟨q10, 8, none⟩ (.int .u32 0)).setCell ⟨q10, 9, none⟩ (.int .u32 0)).setCell ⟨q10, 10, none⟩ (.int .u32 0)).setCell ⟨q10, 11, none⟩ (.int .u32 0)).setCell ⟨q10, 12, none⟩ (.int .u32 0)).setCell ⟨q10, 13, none⟩ (.int .u32 0)).setCell ⟨q10, 14, none⟩ (.int .u32 601)).setCell ⟨q10, 15, none⟩ (.int .u32 600)) = V := ⟨_, rfl⟩
    have hc : Ch A V [q10] := by rw [← hW]; exact ch_n16 A q10 (.int .u32 0) (.int .u32 0) (.int .u32 0) (.int .u32 0) (.int .u32 0) (.int .u32 0) (.int .u32 0) (.int .u32 0) (.int .u32 0) (.int .u32 0) (.int .u32 0) (.int .u32 0) (.int .u32 0) (.int .u32 0) (.int .u32 601) (.int .u32 600)
    replace S := Lib.hid (S.out.chd hc (by simp; omega) (by simp; omega) (by simp; omega))
    replace C := Lib.hid (show Ch W V [F.gb] from (by rw [← hW]; exact ch_s16 C.out ge10 (.int .u32 0) (.int .u32 0) (.int .u32 0) (.int .u32 0) (.int .u32 0) (.int .u32 0) (.int .u32 0) (.int .u32 0) (.int .u32 0) (.int .u32 0) (.int .u32 0) (.int .u32 0) (.int .u32 0) (.int .u32 0) (.int .u32 601) (.int .u32 600)))
    replace B3 := Lib.hid (B3.out.ch hc (by simp; omega))
    replace B10 : Hid (Bk V q10 28 [.int .u32 0, .int .u32 0, .int .u32 0, .int .u32 0, .int .u32 0, .int .u32 0, .int .u32 0, .int .u32 0, .int .u32 0, .int .u32 0, .int .u32 0, .int .u32 0, .int .u32 0, .int .u32 0, .int .u32 601, .int .u32 600]) := by rw [← hW]; exact Bk.sets16 B10.out rfl (.int .u32 0) (.int .u32 0) (.int .u32 0) (.int .u32 0) (.int .u32 0) (.int .u32 0) (.int .u32 0) (.int .u32 0) (.int .u32 0) (.int .u32 0) (.int .u32 0) (.int .u32 0) (.int .u32 0) (.int .u32 0) (.int .u32 601) (.int .u32 600)
    replace B11 := Lib.hid (B11.out.ch hc (by simp; omega))
    rw [hW]
    clear hW hc hHeld
    clear A
    rename World => A
    refine hK.out _ _ ?_ (fun hHeld => ?_)
    focus ((try dsimp only); exact B3.out)
    clear hK K
    try simp only [Act.put, List.setIfInBounds_toArray, List.set_cons_zero, List.set_cons_succ]
    refine wpAnyH_ready (rs := [12]) (by kernel_rfl) (by simp) ?_
    refine consL rfl (fun K hK => ?_) AllReadyH.nil
    have cz := B11.out
    have cz0 := cz.cell (c := 0) rfl
    have fz0 := cz.free 0
    have cz1 := cz.cell (c := 1) rfl
    have fz1 := cz.free 1
    have cz2 := cz.cell (c := 2) rfl
    have fz2 := cz.free 2
    have cz3 := cz.cell (c := 3) rfl
    have fz3 := cz.free 3
    have cz4 := cz.cell (c := 4) rfl
    have fz4 := cz.free 4
    have cz5 := cz.cell (c := 5) rfl
    have fz5 := cz.free 5
    have cz6 := cz.cell (c := 6) rfl
    have fz6 := cz.free 6
    have cz7 := cz.cell (c := 7) rfl
    have fz7 := cz.free 7
    have cz8 := cz.cell (c := 8) rfl
    have fz8 := cz.free 8
    have cz9 := cz.cell (c := 9) rfl
    have fz9 := cz.free 9
    go_simp
    clear cz cz0 fz0 cz1 fz1 cz2 fz2 cz3 fz3 cz4 fz4 cz5 fz5 cz6 fz6 cz7 fz7 cz8 fz8 cz9 fz9
    obtain ⟨V, hW⟩ : ∃ V, ((((((((((A.setCell ⟨q11, 0, none⟩ (.int .i64 0)).setCell ⟨q11, 1, none⟩ (.int .i64 0)).setCell ⟨q11, 2, none⟩ (.bool false)).setCell ⟨q11, 3, none⟩ (.bool false)).setCell ⟨q11, 4, none⟩ (.bool false)).setCell ⟨q11, 5, none⟩ (.int .i64 0)).setCell ⟨q11, 6, none⟩ (.int .i64 0)).setCell ⟨q11, 7, none⟩ (.int .i64 0)).setCell ⟨q11, 8, none⟩ (.int .i64 0)).setCell ⟨q11, 9, none⟩ (.int .i64 0)) = V := ⟨_, rfl⟩
    have hc : Ch A V [q11] := by rw [← hW]; exact ch_n10 A q11 (.int .i64 0) (.int .i64 0) (.bool false) (.bool false) (.bool false) (.int .i64 0) (.int .i64 0) (.int .i64 0) (.int .i64 0) (.int .i64 0)
    replace S := Lib.hid (S.out.chd hc (by simp; omega) (by simp; omega) (by simp; omega))
    replace C := Lib.hid (show Ch W V [F.gb] from (by rw [← hW]; exact ch_s10 C.out ge11 (.int .i64 0) (.int .i64 0) (.bool false) (.bool false) (.bool false) (.int .i64 0) (.int .i64 0) (.int .i64 0) (.int .i64 0) (.int .i64 0)))
    replace B3 := Lib.hid (B3.out.ch hc (by simp; omega))
    replace B10 := Lib.hid (B10.out.ch hc (by simp; omega))
    replace B11 : Hid (Bk V q11 30 [.int .i64 0, .int .i64 0, .bool false, .bool false, .bool false, .int .i64 0, .int .i64 0, .int .i64 0, .int .i64 0, .int .i64 0]) := by rw [← hW]; exact Bk.sets10 B11.out rfl (.int .i64 0) (.int .i64 0) (.bool false) (.bool false) (.bool false) (.int .i64 0) (.int .i64 0) (.int .i64 0) (.int .i64 0) (.int .i64 0)
    rw [hW]
    clear hW hc hHeld
    clear A
    rename World => A
    refine hK.out _ _ ?_ (fun hHeld => ?_)
    focus ((try dsimp only); exact B3.out)
    clear hK K
    try simp only [Act.put, List.setIfInBounds_toArray, List.set_cons_zero, List.set_cons_succ]
    refine takeL (i := 13) (v := .int .i64 cd) rfl (by kernel_rfl) (by kernel_rfl) (by kernel_rfl) (fun c a w => hQ c a _ w rfl) (Or.inl ⟨by rfl, ?_⟩) (by assumption) ?_
    focus (intro w hSw; (try dsimp only at hSw); go_simp; (try with_reducible rfl))
    try simp only [Act.put, List.setIfInBounds_toArray, List.set_cons_zero, List.set_cons_succ]
    refine wpAnyH_done (by kernel_rfl) ?_ _
    exact H.out _ _ _ _ _ _ _ _ _ _ q10 q11 0 S.out B3.out B10.out B11.out ge10 ge11 C.out
set_option maxRecDepth 1000000 in
set_option maxHeartbeats 16000000 in
theorem kb_reg11 {u1 u2 u4 u6 u7 u8 u9 u10 u11 u12 u13 u14 u15 u16 u17 u18 u19 u20 u21 u22 u23 u24 u25 u26 u27 u28 u29 u30 u31 u32 u33 u34 u35 u36 u37 u38 u39 u40 u41 u42 u43 u44 u45 u46 u47 u48 u49 u50 u51 u52 u53 u54 u55 u56 u57 u58 u59 u60 u61 u62 u63 u64 u65 u66 u67 u68 u69 u70 u71 u72 u73 u74 u75 u76 u77 u78 u79 u80 u81 u82 u83 u84 u85 u86 u87 u88 u89 u90 u91 u92 u93 u94 u95 u96 u97 u98 u99 u100 u101 u102 u103 u104 u105 u106 u107 u108 u109 u110 u111 u112 u113 u114 u115 u116 u117 u118 u119 u120 u121 u122 u123 u124 u125 u126 u127 u128 u129 u130 u131 u132 u133 u134 u135 u136 u137 u138 u139 u140 u141 u142 u143 u144 u145 : Value} {cd cq0 : Int} {bs2 : List Int} {F : Foot} {bs ks : List Int} {gp gz z_ : Nat} {ops : Array Oper} (hops : (Try.f20.body.bind (regOpsH 11)) = some ops) {Q : Exit → Act → World → Prop} {ds : List Deferred} {W : World} (hQ : ∀ (c : List PanicEntry) (a a' : Act) (w : World), a'.defers = a.defers → Q (.panic c) a' w → Q (.panic c) a w) (hS : St 71 W F bs ks) (hB3 : Bk W gz 30 [.int .i64 0, .int .i64 0, .bool false, .bool false, .bool false, .int .i64 0, .int .i64 0, .int .i64 0, .int .i64 0, .int .i64 0]) (hn3 : gz ≠ F.gb) (hm3 : gz ≠ F.g) (hk3 : gz ≠ F.gk) (hB5 : Bk W gp 30 [.int .i64 0, .int .i64 0, .bool false, .bool false, .bool false, .int .i64 0, .int .i64 0, .int .i64 cq0, .int .i64 0, .int .i64 0]) (hn5 : gp ≠ F.gb) (hm5 : gp ≠ F.g) (hk5 : gp ≠ F.gk) (hne5_3 : gp ≠ gz) (hx : ∀ w, St 71 w F bs ks → Calls Try.prog 14 #[.agg #[.int .i64 221, .int .i64 5, .int .i64 0, .int .i64 0, .int .i64 0, .int .i64 14, .int .i64 0, .int .i64 15, .int .i64 0, .int .i64 2, .int .i64 0, .int .i64 0], .agg #[.int .u32 0, .int .u32 2868903936, .int .u32 3452816845, .int .u32 0, .int .u32 0, .int .u32 0, .int .u32 0, .int .u32 0, .int .u32 0, .int .u32 0, .int .u32 0, .int .u32 0, .int .u32 0, .int .u32 0, .int .u32 700, .int .u32 1000], .agg #[.int .i64 0, .int .i64 0, .bool false, .bool false, .bool false, .int .i64 0, .int .i64 0, .int .i64 0, .int .i64 0, .int .i64 0], .pointer (some ⟨F.g, 0, none⟩)] w fun e w' => e = .returned (.tuple #[.agg #[.int .u32 0, .int .u32 2868904637, .int .u32 3452816645, .int .u32 0, .int .u32 0, .int .u32 0, .int .u32 0, .int .u32 0, .int .u32 0, .int .u32 0, .int .u32 0, .int .u32 0, .int .u32 0, .int .u32 0, .int .u32 700, .int .u32 1000], .agg #[.int .i64 0, .int .i64 0, .bool false, .bool false, .bool false, .int .i64 0, .int .i64 0, .int .i64 1, .int .i64 0, .int .i64 0], .int .i64 cd]) ∧ St 71 w' F bs2 ks ∧ Ch w w' [F.gb])
    (h : ∀ (w' : World) (x77 x78 x79 x80 x81 x76 x82 x83 x84 : Value) (g13 z_ : Nat), St 71 w' F bs2 ks → Bk w' gz 30 [.int .i64 0, .int .i64 0, .bool false, .bool false, .bool false, .int .i64 0, .int .i64 0, .int .i64 0, .int .i64 0, .int .i64 0] → Bk w' gp 30 [.int .i64 0, .int .i64 0, .bool false, .bool false, .bool false, .int .i64 0, .int .i64 0, .int .i64 1, .int .i64 0, .int .i64 0] → Bk w' g13 28 [.int .u32 0, .int .u32 2868904637, .int .u32 3452816645, .int .u32 0, .int .u32 0, .int .u32 0, .int .u32 0, .int .u32 0, .int .u32 0, .int .u32 0, .int .u32 0, .int .u32 0, .int .u32 0, .int .u32 0, .int .u32 700, .int .u32 1000] → W.heap.size ≤ g13 →  Ch W w'  [F.gb, gp] → Q .normal { tmps := #[.pointer (some ⟨F.g, 0, none⟩), u1, u2, .pointer (some ⟨gz, 0, none⟩), u4, .pointer (some ⟨gp, 0, none⟩), u6, u7, u8, u9, u10, u11, .int .i64 cd, .pointer (some ⟨g13, 0, none⟩), u14, u15, u16, u17, u18, u19, u20, u21, u22, u23, u24, u25, u26, u27, u28, u29, u30, u31, u32, u33, u34, u35, u36, u37, u38, u39, u40, u41, u42, u43, u44, u45, u46, u47, u48, u49, u50, u51, u52, u53, u54, u55, u56, u57, u58, u59, u60, u61, u62, u63, u64, u65, u66, u67, u68, u69, u70, u71, u72, u73, u74, u75, x76, x77, x78, x79, x80, x81, x82, x83, x84, u85, u86, u87, u88, u89, u90, u91, u92, u93, u94, u95, u96, u97, u98, u99, u100, u101, u102, u103, u104, u105, u106, u107, u108, u109, u110, u111, u112, u113, u114, u115, u116, u117, u118, u119, u120, u121, u122, u123, u124, u125, u126, u127, u128, u129, u130, u131, u132, u133, u134, u135, u136, u137, u138, u139, u140, u141, u142, u143, u144, u145], defers := ds } w') : Code.wp Try.prog (Code.region 11 ops true) Q { tmps := #[.pointer (some ⟨F.g, 0, none⟩), u1, u2, .pointer (some ⟨gz, 0, none⟩), u4, .pointer (some ⟨gp, 0, none⟩), u6, u7, u8, u9, u10, u11, u12, u13, u14, u15, u16, u17, u18, u19, u20, u21, u22, u23, u24, u25, u26, u27, u28, u29, u30, u31, u32, u33, u34, u35, u36, u37, u38, u39, u40, u41, u42, u43, u44, u45, u46, u47, u48, u49, u50, u51, u52, u53, u54, u55, u56, u57, u58, u59, u60, u61, u62, u63, u64, u65, u66, u67, u68, u69, u70, u71, u72, u73, u74, u75, u76, u77, u78, u79, u80, u81, u82, u83, u84, u85, u86, u87, u88, u89, u90, u91, u92, u93, u94, u95, u96, u97, u98, u99, u100, u101, u102, u103, u104, u105, u106, u107, u108, u109, u110, u111, u112, u113, u114, u115, u116, u117, u118, u119, u120, u121, u122, u123, u124, u125, u126, u127, u128, u129, u130, u131, u132, u133, u134, u135, u136, u137, u138, u139, u140, u141, u142, u143, u144, u145], defers := ds } W := by
  simp [Try.f20, regOpsH] at hops
  subst hops
  have H := Lib.hid h
  have HX := Lib.hid hx
  have L1 := hS.ltg
  have L2 := hS.ltb
  have L3 := hS.ltk
  have BL3 := hB3.lt
  have BL5 := hB5.lt
  have S0 := Lib.hid hS
  have B0_3 := Lib.hid hB3
  have B0_5 := Lib.hid hB5
  clear h hx hS hB3 hB5
  refine' share1 (P := (fun A q13 => St 71 A F bs2 ks ∧ Ch W A [F.gb, gp] ∧ Bk A gz 30 [.int .i64 0, .int .i64 0, .bool false, .bool false, .bool false, .int .i64 0, .int .i64 0, .int .i64 0, .int .i64 0, .int .i64 0] ∧ Bk A gp 30 [.int .i64 0, .int .i64 0, .bool false, .bool false, .bool false, .int .i64 0, .int .i64 0, .int .i64 cq0, .int .i64 0, .int .i64 0] ∧ Bk A q13 28 [.int .u32 0, .int .u32 0, .int .u32 0, .int .u32 0, .int .u32 0, .int .u32 0, .int .u32 0, .int .u32 0, .int .u32 0, .int .u32 0, .int .u32 0, .int .u32 0, .int .u32 0, .int .u32 0, .int .u32 0, .int .u32 0] ∧ W.heap.size ≤ q13 ∧ gz ≠ q13 ∧ gp ≠ q13 ∧ True)) (fun TL => ?tree) ?tail
  case tree =>
    obtain ⟨A, hWd⟩ : ∃ Wd, W.drew = Wd := ⟨_, rfl⟩
    have hsz : A.heap.size = W.heap.size := by rw [← hWd]; rfl
    have S : Hid (St 71 A F bs ks) := by rw [← hWd]; exact S0.out.drewN 1
    have C : Hid (Ch W A [F.gb, gp]) := by rw [← hWd]; exact (Ch.refl W _).drewN 1
    have B3 : Hid (Bk A gz 30 [.int .i64 0, .int .i64 0, .bool false, .bool false, .bool false, .int .i64 0, .int .i64 0, .int .i64 0, .int .i64 0, .int .i64 0]) := by rw [← hWd]; exact B0_3.out.drewN 1
    have B5 : Hid (Bk A gp 30 [.int .i64 0, .int .i64 0, .bool false, .bool false, .bool false, .int .i64 0, .int .i64 0, .int .i64 cq0, .int .i64 0, .int .i64 0]) := by rw [← hWd]; exact B0_5.out.drewN 1
    refine wp_region_held_drew (S := (fun w' => Bk w' gz 30 [.int .i64 0, .int .i64 0, .bool false, .bool false, .bool false, .int .i64 0, .int .i64 0, .int .i64 0, .int .i64 0, .int .i64 0])) (by kernel_rfl) ?_ (fun hHeld => ?_)
    · (try dsimp only); (try rw [hWd]); exact B3.out
    rw [hWd]
    clear hWd hsz
    refine' takeL (i := 1) (v := _) rfl (by kernel_rfl) (by kernel_rfl) (by kernel_rfl) (fun c a w => hQ c a _ w rfl) (Or.inl ⟨by rfl, ?yy48⟩) (by assumption) ?rr48
    case yy48 => intro w hSw; (try dsimp only at hSw); go_simp; (try with_reducible rfl)
    try simp only [Act.put, List.setIfInBounds_toArray, List.set_cons_zero, List.set_cons_succ]
    refine' takeL (i := 2) (v := .agg #[.int .i64 0, .int .i64 0, .bool false, .bool false, .bool false, .int .i64 0, .int .i64 0, .int .i64 0, .int .i64 0, .int .i64 0]) rfl (by kernel_rfl) (by kernel_rfl) (by kernel_rfl) (fun c a w => hQ c a _ w rfl) (Or.inl ⟨by rfl, ?yy49⟩) (by assumption) ?rr49
    case yy49 => intro w hSw; (try dsimp only at hSw); have q0 := hSw.cell (c := 0) rfl; have q1 := hSw.cell (c := 1) rfl; have q2 := hSw.cell (c := 2) rfl; have q3 := hSw.cell (c := 3) rfl; have q4 := hSw.cell (c := 4) rfl; have q5 := hSw.cell (c := 5) rfl; have q6 := hSw.cell (c := 6) rfl; have q7 := hSw.cell (c := 7) rfl; have q8 := hSw.cell (c := 8) rfl; have q9 := hSw.cell (c := 9) rfl; go_simp; (try with_reducible rfl)
    try simp only [Act.put, List.setIfInBounds_toArray, List.set_cons_zero, List.set_cons_succ]
    refine' takeL (i := 3) (v := _) rfl (by kernel_rfl) (by kernel_rfl) (by kernel_rfl) (fun c a w => hQ c a _ w rfl) (Or.inl ⟨by rfl, ?yy50⟩) (by assumption) ?rr50
    case yy50 => intro w hSw; (try dsimp only at hSw); go_simp; (try with_reducible rfl)
    try simp only [Act.put, List.setIfInBounds_toArray, List.set_cons_zero, List.set_cons_succ]
    refine wpAnyH_ready (rs := [0, 9]) (by kernel_rfl) (by simp) ?_
    refine consL rfl (fun K hK => ?_) ?_
    · go_simp
      go_at_call 17
      refine (ss_c 221 3 _ (by omega) (by omega)).mono ?_
      rintro e V ⟨rfl, hb⟩
      replace S := Lib.hid (S.out.belowS hb)
      replace C := Lib.hid (C.out.trans (Ch.of_below hb _))
      replace B3 := Lib.hid (B3.out.keep hb)
      replace B5 := Lib.hid (B5.out.keep hb)
      clear hb hHeld
      clear A
      rename World => A
      go_wp2_with fail
      refine hK.out _ _ ?_ (fun hHeld => ?_)
      focus ((try dsimp only); exact B3.out)
      clear hK K
      try simp only [Act.put, List.setIfInBounds_toArray, List.set_cons_zero, List.set_cons_succ]
      refine wpAnyH_ready (rs := [4, 9]) (by kernel_rfl) (by simp) ?_
      refine consL rfl (fun K hK => ?_) ?_
      · go_simp
        go_at_call 14
        refine (HX.out _ S.out).mono ?_
        rintro e V ⟨rfl, hs, hc⟩
        replace S := Lib.hid hs
        replace C := Lib.hid (C.out.trans (hc.mono (by simp)))
        replace B3 := Lib.hid (B3.out.ch hc (by simp; omega))
        replace B5 := Lib.hid (B5.out.ch hc (by simp; omega))
        clear hs hc hHeld
        clear A
        rename World => A
        go_wp2_with fail
        refine hK.out _ _ ?_ (fun hHeld => ?_)
        focus ((try dsimp only); exact B3.out)
        clear hK K
        try simp only [Act.put, List.setIfInBounds_toArray, List.set_cons_zero, List.set_cons_succ]
        refine' takeL (i := 5) (v := _) rfl (by kernel_rfl) (by kernel_rfl) (by kernel_rfl) (fun c a w => hQ c a _ w rfl) (Or.inl ⟨by rfl, ?yy51⟩) (by assumption) ?rr51
        case yy51 => intro w hSw; (try dsimp only at hSw); go_simp; (try with_reducible rfl)
        try simp only [Act.put, List.setIfInBounds_toArray, List.set_cons_zero, List.set_cons_succ]
        refine' takeL (i := 6) (v := _) rfl (by kernel_rfl) (by kernel_rfl) (by kernel_rfl) (fun c a w => hQ c a _ w rfl) (Or.inl ⟨by rfl, ?yy52⟩) (by assumption) ?rr52
        case yy52 => intro w hSw; (try dsimp only at hSw); go_simp; (try with_reducible rfl)
        try simp only [Act.put, List.setIfInBounds_toArray, List.set_cons_zero, List.set_cons_succ]
        refine' takeL (i := 7) (v := _) rfl (by kernel_rfl) (by kernel_rfl) (by kernel_rfl) (fun c a w => hQ c a _ w rfl) (Or.inl ⟨by rfl, ?yy53⟩) (by assumption) ?rr53
        case yy53 => intro w hSw; (try dsimp only at hSw); go_simp; (try with_reducible rfl)
        try simp only [Act.put, List.setIfInBounds_toArray, List.set_cons_zero, List.set_cons_succ]
        refine' takeL (i := 8) (v := _) rfl (by kernel_rfl) (by kernel_rfl) (by kernel_rfl) (fun c a w => hQ c a _ w rfl) (Or.inl ⟨by rfl, ?yy54⟩) (by assumption) ?rr54
        case yy54 => intro w hSw; (try dsimp only at hSw); go_simp; (try with_reducible rfl)
        try simp only [Act.put, List.setIfInBounds_toArray, List.set_cons_zero, List.set_cons_succ]
        refine wpAnyH_ready (rs := [9]) (by kernel_rfl) (by simp) ?_
        refine consL rfl (fun K hK => ?_) AllReadyH.nil
        go_simp
        obtain ⟨q13, hg⟩ : ∃ q, A.heap.size = q := ⟨_, rfl⟩
        have ge13 : W.heap.size ≤ q13 := by have := C.out.size; omega
        have ne13_3 : q13 ≠ gz := by have := B3.out.lt; omega
        have ne13_5 : q13 ≠ gp := by have := B5.out.lt; omega
        obtain ⟨V, hW⟩ : ∃ V, A.alloc (.cells #[.int .u32 0, .int .u32 0, .int .u32 0, .int .u32 0, .int .u32 0, .int .u32 0, .int .u32 0, .int .u32 0, .int .u32 0, .int .u32 0, .int .u32 0, .int .u32 0, .int .u32 0, .int .u32 0, .int .u32 0, .int .u32 0] 28) = V := ⟨_, rfl⟩
        have B13 : Hid (Bk V q13 28 [.int .u32 0, .int .u32 0, .int .u32 0, .int .u32 0, .int .u32 0, .int .u32 0, .int .u32 0, .int .u32 0, .int .u32 0, .int .u32 0, .int .u32 0, .int .u32 0, .int .u32 0, .int .u32 0, .int .u32 0, .int .u32 0]) := by rw [← hW, ← hg]; exact Bk.new A [.int .u32 0, .int .u32 0, .int .u32 0, .int .u32 0, .int .u32 0, .int .u32 0, .int .u32 0, .int .u32 0, .int .u32 0, .int .u32 0, .int .u32 0, .int .u32 0, .int .u32 0, .int .u32 0, .int .u32 0, .int .u32 0] 28
        replace S : Hid (St 71 V F bs2 ks) := by rw [← hW]; exact S.out.alloc _
        replace C : Hid (Ch W V [F.gb, gp]) := by rw [← hW]; exact C.out.alloc _
        replace B3 : Hid (Bk V gz 30 [.int .i64 0, .int .i64 0, .bool false, .bool false, .bool false, .int .i64 0, .int .i64 0, .int .i64 0, .int .i64 0, .int .i64 0]) := by rw [← hW]; exact B3.out.alloc _
        replace B5 : Hid (Bk V gp 30 [.int .i64 0, .int .i64 0, .bool false, .bool false, .bool false, .int .i64 0, .int .i64 0, .int .i64 cq0, .int .i64 0, .int .i64 0]) := by rw [← hW]; exact B5.out.alloc _
        rw [hW]
        try rw [hg]
        clear hW hg hHeld
        clear A
        rename World => A
        refine hK.out _ _ ?_ (fun hHeld => ?_)
        focus ((try dsimp only); exact B3.out)
        clear hK K
        try simp only [Act.put, List.setIfInBounds_toArray, List.set_cons_zero, List.set_cons_succ]
        exact TL A q13 ⟨S.out, C.out, B3.out, B5.out, B13.out, ge13, by omega, by omega, trivial⟩
      refine consL rfl (fun K hK => ?_) AllReadyH.nil
      go_simp
      obtain ⟨q13, hg⟩ : ∃ q, A.heap.size = q := ⟨_, rfl⟩
      have ge13 : W.heap.size ≤ q13 := by have := C.out.size; omega
      have ne13_3 : q13 ≠ gz := by have := B3.out.lt; omega
      have ne13_5 : q13 ≠ gp := by have := B5.out.lt; omega
      obtain ⟨V, hW⟩ : ∃ V, A.alloc (.cells #[.int .u32 0, .int .u32 0, .int .u32 0, .int .u32 0, .int .u32 0, .int .u32 0, .int .u32 0, .int .u32 0, .int .u32 0, .int .u32 0, .int .u32 0, .int .u32 0, .int .u32 0, .int .u32 0, .int .u32 0, .int .u32 0] 28) = V := ⟨_, rfl⟩
      have B13 : Hid (Bk V q13 28 [.int .u32 0, .int .u32 0, .int .u32 0, .int .u32 0, .int .u32 0, .int .u32 0, .int .u32 0, .int .u32 0, .int .u32 0, .int .u32 0, .int .u32 0, .int .u32 0, .int .u32 0, .int .u32 0, .int .u32 0, .int .u32 0]) := by rw [← hW, ← hg]; exact Bk.new A [.int .u32 0, .int .u32 0, .int .u32 0, .int .u32 0, .int .u32 0, .int .u32 0, .int .u32 0, .int .u32 0, .int .u32 0, .int .u32 0, .int .u32 0, .int .u32 0, .int .u32 0, .int .u32 0, .int .u32 0, .int .u32 0] 28
      replace S : Hid (St 71 V F bs ks) := by rw [← hW]; exact S.out.alloc _
      replace C : Hid (Ch W V [F.gb, gp]) := by rw [← hW]; exact C.out.alloc _
      replace B3 : Hid (Bk V gz 30 [.int .i64 0, .int .i64 0, .bool false, .bool false, .bool false, .int .i64 0, .int .i64 0, .int .i64 0, .int .i64 0, .int .i64 0]) := by rw [← hW]; exact B3.out.alloc _
      replace B5 : Hid (Bk V gp 30 [.int .i64 0, .int .i64 0, .bool false, .bool false, .bool false, .int .i64 0, .int .i64 0, .int .i64 cq0, .int .i64 0, .int .i64 0]) := by rw [← hW]; exact B5.out.alloc _
      rw [hW]
      try rw [hg]
      clear hW hg hHeld
      clear A
      rename World => A
      refine hK.out _ _ ?_ (fun hHeld => ?_)
      focus ((try dsimp only); exact B3.out)
      clear hK K
      try simp only [Act.put, List.setIfInBounds_toArray, List.set_cons_zero, List.set_cons_succ]
      refine wpAnyH_ready (rs := [4]) (by kernel_rfl) (by simp) ?_
      refine consL rfl (fun K hK => ?_) AllReadyH.nil
      go_simp
      go_at_call 14
      refine (HX.out _ S.out).mono ?_
      rintro e V ⟨rfl, hs, hc⟩
      replace S := Lib.hid hs
      replace C := Lib.hid (C.out.trans (hc.mono (by simp)))
      replace B3 := Lib.hid (B3.out.ch hc (by simp; omega))
      replace B5 := Lib.hid (B5.out.ch hc (by simp; omega))
      replace B13 := Lib.hid (B13.out.ch hc (by simp; omega))
      clear hs hc hHeld
      clear A
      rename World => A
      go_wp2_with fail
      refine hK.out _ _ ?_ (fun hHeld => ?_)
      focus ((try dsimp only); exact B3.out)
      clear hK K
      try simp only [Act.put, List.setIfInBounds_toArray, List.set_cons_zero, List.set_cons_succ]
      refine' takeL (i := 5) (v := _) rfl (by kernel_rfl) (by kernel_rfl) (by kernel_rfl) (fun c a w => hQ c a _ w rfl) (Or.inl ⟨by rfl, ?yy55⟩) (by assumption) ?rr55
      case yy55 => intro w hSw; (try dsimp only at hSw); go_simp; (try with_reducible rfl)
      try simp only [Act.put, List.setIfInBounds_toArray, List.set_cons_zero, List.set_cons_succ]
      refine' takeL (i := 6) (v := _) rfl (by kernel_rfl) (by kernel_rfl) (by kernel_rfl) (fun c a w => hQ c a _ w rfl) (Or.inl ⟨by rfl, ?yy56⟩) (by assumption) ?rr56
      case yy56 => intro w hSw; (try dsimp only at hSw); go_simp; (try with_reducible rfl)
      try simp only [Act.put, List.setIfInBounds_toArray, List.set_cons_zero, List.set_cons_succ]
      refine' takeL (i := 7) (v := _) rfl (by kernel_rfl) (by kernel_rfl) (by kernel_rfl) (fun c a w => hQ c a _ w rfl) (Or.inl ⟨by rfl, ?yy57⟩) (by assumption) ?rr57
      case yy57 => intro w hSw; (try dsimp only at hSw); go_simp; (try with_reducible rfl)
      try simp only [Act.put, List.setIfInBounds_toArray, List.set_cons_zero, List.set_cons_succ]
      refine' takeL (i := 8) (v := _) rfl (by kernel_rfl) (by kernel_rfl) (by kernel_rfl) (fun c a w => hQ c a _ w rfl) (Or.inl ⟨by rfl, ?yy58⟩) (by assumption) ?rr58
      case yy58 => intro w hSw; (try dsimp only at hSw); go_simp; (try with_reducible rfl)
      try simp only [Act.put, List.setIfInBounds_toArray, List.set_cons_zero, List.set_cons_succ]
      exact TL A q13 ⟨S.out, C.out, B3.out, B5.out, B13.out, ge13, by omega, by omega, trivial⟩
    refine consL rfl (fun K hK => ?_) AllReadyH.nil
    go_simp
    obtain ⟨q13, hg⟩ : ∃ q, A.heap.size = q := ⟨_, rfl⟩
    have ge13 : W.heap.size ≤ q13 := by have := C.out.size; omega
    have ne13_3 : q13 ≠ gz := by have := B3.out.lt; omega
    have ne13_5 : q13 ≠ gp := by have := B5.out.lt; omega
    obtain ⟨V, hW⟩ : ∃ V, A.alloc (.cells #[.int .u32 0, .int .u32 0, .int .u32 0, .int .u32 0, .int .u32 0, .int .u32 0, .int .u32 0, .int .u32 0, .int .u32 0, .int .u32 0, .int .u32 0, .int .u32 0, .int .u32 0, .int .u32 0, .int .u32 0, .int .u32 0] 28) = V := ⟨_, rfl⟩
    have B13 : Hid (Bk V q13 28 [.int .u32 0, .int .u32 0, .int .u32 0, .int .u32 0, .int .u32 0, .int .u32 0, .int .u32 0, .int .u32 0, .int .u32 0, .int .u32 0, .int .u32 0, .int .u32 0, .int .u32 0, .int .u32 0, .int .u32 0, .int .u32 0]) := by rw [← hW, ← hg]; exact Bk.new A [.int .u32 0, .int .u32 0, .int .u32 0, .int .u32 0, .int .u32 0, .int .u32 0, .int .u32 0, .int .u32 0, .int .u32 0, .int .u32 0, .int .u32 0, .int .u32 0, .int .u32 0, .int .u32 0, .int .u32 0, .int .u32 0] 28
    replace S : Hid (St 71 V F bs ks) := by rw [← hW]; exact S.out.alloc _
    replace C : Hid (Ch W V [F.gb, gp]) := by rw [← hW]; exact C.out.alloc _
    replace B3 : Hid (Bk V gz 30 [.int .i64 0, .int .i64 0, .bool false, .bool false, .bool false, .int .i64 0, .int .i64 0, .int .i64 0, .int .i64 0, .int .i64 0]) := by rw [← hW]; exact B3.out.alloc _
    replace B5 : Hid (Bk V gp 30 [.int .i64 0, .int .i64 0, .bool false, .bool false, .bool false, .int .i64 0, .int .i64 0, .int .i64 cq0, .int .i64 0, .int .i64 0]) := by rw [← hW]; exact B5.out.alloc _
    rw [hW]
    try rw [hg]
    clear hW hg hHeld
    clear A
    rename World => A
    refine hK.out _ _ ?_ (fun hHeld => ?_)
    focus ((try dsimp only); exact B3.out)
    clear hK K
    try simp only [Act.put, List.setIfInBounds_toArray, List.set_cons_zero, List.set_cons_succ]
    refine wpAnyH_ready (rs := [0]) (by kernel_rfl) (by simp) ?_
    refine consL rfl (fun K hK => ?_) AllReadyH.nil
    go_simp
    go_at_call 17
    refine (ss_c 221 3 _ (by omega) (by omega)).mono ?_
    rintro e V ⟨rfl, hb⟩
    replace S := Lib.hid (S.out.belowS hb)
    replace C := Lib.hid (C.out.trans (Ch.of_below hb _))
    replace B3 := Lib.hid (B3.out.keep hb)
    replace B5 := Lib.hid (B5.out.keep hb)
    replace B13 := Lib.hid (B13.out.keep hb)
    clear hb hHeld
    clear A
    rename World => A
    go_wp2_with fail
    refine hK.out _ _ ?_ (fun hHeld => ?_)
    focus ((try dsimp only); exact B3.out)
    clear hK K
    try simp only [Act.put, List.setIfInBounds_toArray, List.set_cons_zero, List.set_cons_succ]
    refine wpAnyH_ready (rs := [4]) (by kernel_rfl) (by simp) ?_
    refine consL rfl (fun K hK => ?_) AllReadyH.nil
    go_simp
    go_at_call 14
    refine (HX.out _ S.out).mono ?_
    rintro e V ⟨rfl, hs, hc⟩
    replace S := Lib.hid hs
    replace C := Lib.hid (C.out.trans (hc.mono (by simp)))
    replace B3 := Lib.hid (B3.out.ch hc (by simp; omega))
    replace B5 := Lib.hid (B5.out.ch hc (by simp; omega))
    replace B13 := Lib.hid (B13.out.ch hc (by simp; omega))
    clear hs hc hHeld
    clear A
    rename World => A
    go_wp2_with fail
    refine hK.out _ _ ?_ (fun hHeld => ?_)
    focus ((try dsimp only); exact B3.out)
    clear hK K
    try simp only [Act.put, List.setIfInBounds_toArray, List.set_cons_zero, List.set_cons_succ]
    refine' takeL (i := 5) (v := _) rfl (by kernel_rfl) (by kernel_rfl) (by kernel_rfl) (fun c a w => hQ c a _ w rfl) (Or.inl ⟨by rfl, ?yy59⟩) (by assumption) ?rr59
    case yy59 => intro w hSw; (try dsimp only at hSw); go_simp; (try with_reducible rfl)
    try simp only [Act.put, List.setIfInBounds_toArray, List.set_cons_zero, List.set_cons_succ]
    refine' takeL (i := 6) (v := _) rfl (by kernel_rfl) (by kernel_rfl) (by kernel_rfl) (fun c a w => hQ c a _ w rfl) (Or.inl ⟨by rfl, ?yy60⟩) (by assumption) ?rr60
    case yy60 => intro w hSw; (try dsimp only at hSw); go_simp; (try with_reducible rfl)
    try simp only [Act.put, List.setIfInBounds_toArray, List.set_cons_zero, List.set_cons_succ]
    refine' takeL (i := 7) (v := _) rfl (by kernel_rfl) (by kernel_rfl) (by kernel_rfl) (fun c a w => hQ c a _ w rfl) (Or.inl ⟨by rfl, ?yy61⟩) (by assumption) ?rr61
    case yy61 => intro w hSw; (try dsimp only at hSw); go_simp; (try with_reducible rfl)
    try simp only [Act.put, List.setIfInBounds_toArray, List.set_cons_zero, List.set_cons_succ]
    refine' takeL (i := 8) (v := _) rfl (by kernel_rfl) (by kernel_rfl) (by kernel_rfl) (fun c a w => hQ c a _ w rfl) (Or.inl ⟨by rfl, ?yy62⟩) (by assumption) ?rr62
    case yy62 => intro w hSw; (try dsimp only at hSw); go_simp; (try with_reducible rfl)
    try simp only [Act.put, List.setIfInBounds_toArray, List.set_cons_zero, List.set_cons_succ]
    exact TL A q13 ⟨S.out, C.out, B3.out, B5.out, B13.out, ge13, by omega, by omega, trivial⟩
  case tail =>
    rintro A q13 ⟨S, C, B3, B5, B13, ge13, ne_gz_q13, ne_gp_q13, -⟩
    have hHeld := B3
    replace S := Lib.hid S
    replace C := Lib.hid C
    replace B3 := Lib.hid B3
    replace B5 := Lib.hid B5
    replace B13 := Lib.hid B13
    refine wpAnyH_ready (rs := [10]) (by kernel_rfl) (by simp) ?_
    refine consL rfl (fun K hK => ?_) AllReadyH.nil
    have cz := B13.out
    have cz0 := cz.cell (c := 0) rfl
    have fz0 := cz.free 0
    have cz1 := cz.cell (c := 1) rfl
    have fz1 := cz.free 1
    have cz2 := cz.cell (c := 2) rfl
    have fz2 := cz.free 2
    have cz3 := cz.cell (c := 3) rfl
    have fz3 := cz.free 3
    have cz4 := cz.cell (c := 4) rfl
    have fz4 := cz.free 4
    have cz5 := cz.cell (c := 5) rfl
    have fz5 := cz.free 5
    have cz6 := cz.cell (c := 6) rfl
    have fz6 := cz.free 6
    have cz7 := cz.cell (c := 7) rfl
    have fz7 := cz.free 7
    have cz8 := cz.cell (c := 8) rfl
    have fz8 := cz.free 8
    have cz9 := cz.cell (c := 9) rfl
    have fz9 := cz.free 9
    have cz10 := cz.cell (c := 10) rfl
    have fz10 := cz.free 10
    have cz11 := cz.cell (c := 11) rfl
    have fz11 := cz.free 11
    have cz12 := cz.cell (c := 12) rfl
    have fz12 := cz.free 12
    have cz13 := cz.cell (c := 13) rfl
    have fz13 := cz.free 13
    have cz14 := cz.cell (c := 14) rfl
    have fz14 := cz.free 14
    have cz15 := cz.cell (c := 15) rfl
    have fz15 := cz.free 15
    go_simp
    clear cz cz0 fz0 cz1 fz1 cz2 fz2 cz3 fz3 cz4 fz4 cz5 fz5 cz6 fz6 cz7 fz7 cz8 fz8 cz9 fz9 cz10 fz10 cz11 fz11 cz12 fz12 cz13 fz13 cz14 fz14 cz15 fz15
    obtain ⟨V, hW⟩ : ∃ V, ((((((((((((((((A.setCell ⟨q13, 0, none⟩ (.int .u32 0)).setCell ⟨q13, 1, none⟩ (.int .u32 2868904637)).setCell ⟨q13, 2, none⟩ (.int .u32 3452816645)).setCell ⟨q13, 3, none⟩ (.int .u32 0)).setCell ⟨q13, 4, none⟩ (.int .u32 0)).setCell ⟨q13, 5, none⟩ (.int .u32 0)).setCell ⟨q13, 6, none⟩ (.int .u32 0)).setCell ⟨q13, 7, none⟩ (.int .u32 0)).setCell ⟨q13, 8, none⟩ (.int .u32 0)).setCell ⟨q13, 9, none⟩ (.int .u32 0)).setCell ⟨q13, 10, none⟩ (.int .u32 0)).setCell ⟨q13, 11, none⟩ (.int .u32 0)).setCell ⟨q13, 12, none⟩ (.int .u32 0)).setCell ⟨q13, 13, none⟩ (.int .u32 0)).setCell ⟨q13, 14, none⟩ (.int .u32 700)).setCell ⟨q13, 15, none⟩ (.int .u32 1000)) = V := ⟨_, rfl⟩
    have hc : Ch A V [q13] := by rw [← hW]; exact ch_n16 A q13 (.int .u32 0) (.int .u32 2868904637) (.int .u32 3452816645) (.int .u32 0) (.int .u32 0) (.int .u32 0) (.int .u32 0) (.int .u32 0) (.int .u32 0) (.int .u32 0) (.int .u32 0) (.int .u32 0) (.int .u32 0) (.int .u32 0) (.int .u32 700) (.int .u32 1000)
    replace S := Lib.hid (S.out.chd hc (by simp; omega) (by simp; omega) (by simp; omega))
    replace C := Lib.hid (show Ch W V [F.gb, gp] from (by rw [← hW]; exact ch_s16 C.out ge13 (.int .u32 0) (.int .u32 2868904637) (.int .u32 3452816645) (.int .u32 0) (.int .u32 0) (.int .u32 0) (.int .u32 0) (.int .u32 0) (.int .u32 0) (.int .u32 0) (.int .u32 0) (.int .u32 0) (.int .u32 0) (.int .u32 0) (.int .u32 700) (.int .u32 1000)))
    replace B3 := Lib.hid (B3.out.ch hc (by simp; omega))
    replace B5 := Lib.hid (B5.out.ch hc (by simp; omega))
    replace B13 : Hid (Bk V q13 28 [.int .u32 0, .int .u32 2868904637, .int .u32 3452816645, .int .u32 0, .int .u32 0, .int .u32 0, .int .u32 0, .int .u32 0, .int .u32 0, .int .u32 0, .int .u32 0, .int .u32 0, .int .u32 0, .int .u32 0, .int .u32 700, .int .u32 1000]) := by rw [← hW]; exact Bk.sets16 B13.out rfl (.int .u32 0) (.int .u32 2868904637) (.int .u32 3452816645) (.int .u32 0) (.int .u32 0) (.int .u32 0) (.int .u32 0) (.int .u32 0) (.int .u32 0) (.int .u32 0) (.int .u32 0) (.int .u32 0) (.int .u32 0) (.int .u32 0) (.int .u32 700) (.int .u32 1000)
    rw [hW]
    clear hW hc hHeld
    clear A
    rename World => A
    refine hK.out _ _ ?_ (fun hHeld => ?_)
    focus ((try dsimp only); exact B3.out)
    clear hK K
    try simp only [Act.put, List.setIfInBounds_toArray, List.set_cons_zero, List.set_cons_succ]
    refine wpAnyH_ready (rs := [11]) (by kernel_rfl) (by simp) ?_
    refine consL rfl (fun K hK => ?_) AllReadyH.nil
    have cz := B5.out
    have cz0 := cz.cell (c := 0) rfl
    have fz0 := cz.free 0
    have cz1 := cz.cell (c := 1) rfl
    have fz1 := cz.free 1
    have cz2 := cz.cell (c := 2) rfl
    have fz2 := cz.free 2
    have cz3 := cz.cell (c := 3) rfl
    have fz3 := cz.free 3
    have cz4 := cz.cell (c := 4) rfl
    have fz4 := cz.free 4
    have cz5 := cz.cell (c := 5) rfl
    have fz5 := cz.free 5
    have cz6 := cz.cell (c := 6) rfl
    have fz6 := cz.free 6
    have cz7 := cz.cell (c := 7) rfl
    have fz7 := cz.free 7
    have cz8 := cz.cell (c := 8) rfl
    have fz8 := cz.free 8
    have cz9 := cz.cell (c := 9) rfl
    have fz9 := cz.free 9
    go_simp
    clear cz cz0 fz0 cz1 fz1 cz2 fz2 cz3 fz3 cz4 fz4 cz5 fz5 cz6 fz6 cz7 fz7 cz8 fz8 cz9 fz9
    obtain ⟨V, hW⟩ : ∃ V, ((((((((((A.setCell ⟨gp, 0, none⟩ (.int .i64 0)).setCell ⟨gp, 1, none⟩ (.int .i64 0)).setCell ⟨gp, 2, none⟩ (.bool false)).setCell ⟨gp, 3, none⟩ (.bool false)).setCell ⟨gp, 4, none⟩ (.bool false)).setCell ⟨gp, 5, none⟩ (.int .i64 0)).setCell ⟨gp, 6, none⟩ (.int .i64 0)).setCell ⟨gp, 7, none⟩ (.int .i64 1)).setCell ⟨gp, 8, none⟩ (.int .i64 0)).setCell ⟨gp, 9, none⟩ (.int .i64 0)) = V := ⟨_, rfl⟩
    have hc : Ch A V [gp] := by rw [← hW]; exact ch_n10 A gp (.int .i64 0) (.int .i64 0) (.bool false) (.bool false) (.bool false) (.int .i64 0) (.int .i64 0) (.int .i64 1) (.int .i64 0) (.int .i64 0)
    replace S := Lib.hid (S.out.chd hc (by simp; omega) (by simp; omega) (by simp; omega))
    replace C := Lib.hid (show Ch W V [F.gb, gp] from C.out.trans (hc.mono (by simp)))
    replace B3 := Lib.hid (B3.out.ch hc (by simp; omega))
    replace B5 : Hid (Bk V gp 30 [.int .i64 0, .int .i64 0, .bool false, .bool false, .bool false, .int .i64 0, .int .i64 0, .int .i64 1, .int .i64 0, .int .i64 0]) := by rw [← hW]; exact Bk.sets10 B5.out rfl (.int .i64 0) (.int .i64 0) (.bool false) (.bool false) (.bool false) (.int .i64 0) (.int .i64 0) (.int .i64 1) (.int .i64 0) (.int .i64 0)
    replace B13 := Lib.hid (B13.out.ch hc (by simp; omega))
    rw [hW]
    clear hW hc hHeld
    clear A
    rename World => A
    refine hK.out _ _ ?_ (fun hHeld => ?_)
    focus ((try dsimp only); exact B3.out)
    clear hK K
    try simp only [Act.put, List.setIfInBounds_toArray, List.set_cons_zero, List.set_cons_succ]
    refine takeL (i := 12) (v := .int .i64 cd) rfl (by kernel_rfl) (by kernel_rfl) (by kernel_rfl) (fun c a w => hQ c a _ w rfl) (Or.inl ⟨by rfl, ?_⟩) (by assumption) ?_
    focus (intro w hSw; (try dsimp only at hSw); go_simp; (try with_reducible rfl))
    try simp only [Act.put, List.setIfInBounds_toArray, List.set_cons_zero, List.set_cons_succ]
    refine wpAnyH_done (by kernel_rfl) ?_ _
    exact H.out _ _ _ _ _ _ _ _ _ _ q13 0 S.out B3.out B5.out B13.out ge13 C.out
end Go.Proofs.Ythjdjbipfdigeaa

