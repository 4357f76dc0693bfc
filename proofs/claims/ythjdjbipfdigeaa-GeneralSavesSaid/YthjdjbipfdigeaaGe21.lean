/- LAWS: the regions of GeneralSaves that call Exec. Conditions: what they read; Exec's contract. -/
import Derived.Test.YthjdjbipfdigeaaGe20
namespace Go.Proofs.Ythjdjbipfdigeaa
open Go.RowKit
set_option maxRecDepth 100000
set_option linter.unusedVariables false
set_option linter.unusedSimpArgs false
set_option maxRecDepth 1000000 in
set_option maxHeartbeats 8000000 in
theorem saves_reg6 {u0 u1 u2 u4 u5 u6 u8 u11 u12 u13 u14 u15 u16 u17 u18 u19 u20 u21 u22 u23 u24 u25 u26 u27 u28 u29 u30 u31 u32 u33 u34 u35 u36 u37 u38 u39 u40 u41 u42 u43 u44 u45 u46 u47 u48 u49 u50 u51 u52 u53 u54 u55 u56 u57 u58 u59 u60 u61 u62 u63 u64 u65 u66 u67 u68 u69 u70 u71 u72 u73 u74 u75 u76 u77 u78 u79 u80 u81 u82 u83 u84 u85 u86 u87 u88 u89 u90 u91 u92 u93 u94 u95 u96 u97 u98 u99 u100 u101 u102 u103 u104 u105 u106 u107 u108 u109 u110 u111 u112 u113 u114 u115 u116 u117 u118 u119 u120 u121 u122 u123 u124 u125 u126 u127 : Value} {go sp n m : Nat} {a0 a1 a2 a3 a4 a5 a6 a7 a8 a9 a10 a11 a12 a13 a14 a15 n0 n1 n2 n3 n4 n5 n6 n7 n8 n9 n10 n11 n12 n13 n14 n15 : Int} {ops : Array Oper} (hops : (Try.f5.body.bind (regOps 6)) = some ops) {Q : Exit → Act → World → Prop} {ds : List Deferred} {W : World} {R : World → Prop} (hO : Bk W go 28 [.int .u32 a0, .int .u32 a1, .int .u32 a2, .int .u32 a3, .int .u32 a4, .int .u32 a5, .int .u32 a6, .int .u32 a7, .int .u32 a8, .int .u32 a9, .int .u32 a10, .int .u32 a11, .int .u32 a12, .int .u32 a13, .int .u32 a14, .int .u32 a15]) (hx : Calls Try.prog 14 #[.agg #[.int .i64 144, .int .i64 3, .int .i64 (n : Int), .int .i64 (m : Int), .int .i64 0, .int .i64 0, .int .i64 0, .int .i64 0, .int .i64 512, .int .i64 0, .int .i64 0, .int .i64 0], .agg #[.int .u32 a0, .int .u32 a1, .int .u32 a2, .int .u32 a3, .int .u32 a4, .int .u32 a5, .int .u32 a6, .int .u32 a7, .int .u32 a8, .int .u32 a9, .int .u32 a10, .int .u32 a11, .int .u32 a12, .int .u32 a13, .int .u32 a14, .int .u32 a15], .agg #[.int .i64 0, .int .i64 0, .bool false, .bool false, .bool false, .int .i64 0, .int .i64 0, .int .i64 0, .int .i64 0, .int .i64 0], .pointer (some ⟨sp, 0, none⟩)] W fun e w' => e = .returned (.tuple #[.agg #[.int .u32 n0, .int .u32 n1, .int .u32 n2, .int .u32 n3, .int .u32 n4, .int .u32 n5, .int .u32 n6, .int .u32 n7, .int .u32 n8, .int .u32 n9, .int .u32 n10, .int .u32 n11, .int .u32 n12, .int .u32 n13, .int .u32 n14, .int .u32 n15], .agg #[.int .i64 0, .int .i64 0, .bool false, .bool false, .bool false, .int .i64 0, .int .i64 0, .int .i64 0, .int .i64 0, .int .i64 0], .int .i64 0]) ∧ R w')
    (h : ∀ (w' : World) (x39 x40 x41 x42 x43 x44 x45 x46 x47 x48 x49 : Value), R w' → Q .normal { tmps := #[u0, u1, u2, .pointer (some ⟨go, 0, none⟩), u4, u5, u6, .pointer (some ⟨sp, 0, none⟩), u8, .int .i64 (n : Int), .int .i64 (m : Int), .pointer (some ⟨w'.heap.size, 0, none⟩), .pointer (some ⟨w'.heap.size + 1, 0, none⟩), .int .i64 0, u14, u15, u16, u17, u18, u19, u20, u21, u22, u23, u24, u25, u26, u27, u28, u29, u30, u31, u32, u33, u34, u35, u36, u37, u38, x39, x40, x41, x42, x43, x44, x45, x46, x47, x48, x49, u50, u51, u52, u53, u54, u55, u56, u57, u58, u59, u60, u61, u62, u63, u64, u65, u66, u67, u68, u69, u70, u71, u72, u73, u74, u75, u76, u77, u78, u79, u80, u81, u82, u83, u84, u85, u86, u87, u88, u89, u90, u91, u92, u93, u94, u95, u96, u97, u98, u99, u100, u101, u102, u103, u104, u105, u106, u107, u108, u109, u110, u111, u112, u113, u114, u115, u116, u117, u118, u119, u120, u121, u122, u123, u124, u125, u126, u127], defers := ds } ((w'.alloc (.cells #[.int .u32 n0, .int .u32 n1, .int .u32 n2, .int .u32 n3, .int .u32 n4, .int .u32 n5, .int .u32 n6, .int .u32 n7, .int .u32 n8, .int .u32 n9, .int .u32 n10, .int .u32 n11, .int .u32 n12, .int .u32 n13, .int .u32 n14, .int .u32 n15] 28)).alloc (.cells #[.int .i64 0, .int .i64 0, .bool false, .bool false, .bool false, .int .i64 0, .int .i64 0, .int .i64 0, .int .i64 0, .int .i64 0] 30))) : Code.wp Try.prog (Code.region 6 ops false) Q { tmps := #[u0, u1, u2, .pointer (some ⟨go, 0, none⟩), u4, u5, u6, .pointer (some ⟨sp, 0, none⟩), u8, .int .i64 (n : Int), .int .i64 (m : Int), u11, u12, u13, u14, u15, u16, u17, u18, u19, u20, u21, u22, u23, u24, u25, u26, u27, u28, u29, u30, u31, u32, u33, u34, u35, u36, u37, u38, u39, u40, u41, u42, u43, u44, u45, u46, u47, u48, u49, u50, u51, u52, u53, u54, u55, u56, u57, u58, u59, u60, u61, u62, u63, u64, u65, u66, u67, u68, u69, u70, u71, u72, u73, u74, u75, u76, u77, u78, u79, u80, u81, u82, u83, u84, u85, u86, u87, u88, u89, u90, u91, u92, u93, u94, u95, u96, u97, u98, u99, u100, u101, u102, u103, u104, u105, u106, u107, u108, u109, u110, u111, u112, u113, u114, u115, u116, u117, u118, u119, u120, u121, u122, u123, u124, u125, u126, u127], defers := ds } W := by
  simp [Try.f5, regOps] at hops
  subst hops
  have H := Lib.hid h
  have HX := Lib.hid hx
  clear h hx
  have k0 : W.cell? ⟨go, 0, none⟩ = some (.int .u32 a0) := hO.cell (c := 0) rfl
  have k1 : W.cell? ⟨go, 1, none⟩ = some (.int .u32 a1) := hO.cell (c := 1) rfl
  have k2 : W.cell? ⟨go, 2, none⟩ = some (.int .u32 a2) := hO.cell (c := 2) rfl
  have k3 : W.cell? ⟨go, 3, none⟩ = some (.int .u32 a3) := hO.cell (c := 3) rfl
  have k4 : W.cell? ⟨go, 4, none⟩ = some (.int .u32 a4) := hO.cell (c := 4) rfl
  have k5 : W.cell? ⟨go, 5, none⟩ = some (.int .u32 a5) := hO.cell (c := 5) rfl
  have k6 : W.cell? ⟨go, 6, none⟩ = some (.int .u32 a6) := hO.cell (c := 6) rfl
  have k7 : W.cell? ⟨go, 7, none⟩ = some (.int .u32 a7) := hO.cell (c := 7) rfl
  have k8 : W.cell? ⟨go, 8, none⟩ = some (.int .u32 a8) := hO.cell (c := 8) rfl
  have k9 : W.cell? ⟨go, 9, none⟩ = some (.int .u32 a9) := hO.cell (c := 9) rfl
  have k10 : W.cell? ⟨go, 10, none⟩ = some (.int .u32 a10) := hO.cell (c := 10) rfl
  have k11 : W.cell? ⟨go, 11, none⟩ = some (.int .u32 a11) := hO.cell (c := 11) rfl
  have k12 : W.cell? ⟨go, 12, none⟩ = some (.int .u32 a12) := hO.cell (c := 12) rfl
  have k13 : W.cell? ⟨go, 13, none⟩ = some (.int .u32 a13) := hO.cell (c := 13) rfl
  have k14 : W.cell? ⟨go, 14, none⟩ = some (.int .u32 a14) := hO.cell (c := 14) rfl
  have k15 : W.cell? ⟨go, 15, none⟩ = some (.int .u32 a15) := hO.cell (c := 15) rfl
  dsimp only
  go_wp2_with (go_at_call 14; refine HX.out.mono ?_; rintro e w' ⟨rfl, hr⟩; have HR := Lib.hid hr; clear hr hO k0 k1 k2 k3 k4 k5 k6 k7 k8 k9 k10 k11 k12 k13 k14 k15)
  exact H.out w' _ _ _ _ _ _ _ _ _ _ _ HR.out
set_option maxRecDepth 1000000 in
set_option maxHeartbeats 8000000 in
theorem saves_reg7 {u0 u1 u2 u3 u5 u6 u8 u11 u12 u13 u14 u15 u16 u17 u18 u19 u20 u21 u22 u23 u24 u25 u26 u27 u28 u29 u30 u31 u32 u33 u34 u35 u36 u37 u38 u39 u40 u41 u42 u43 u44 u45 u46 u47 u48 u49 u50 u51 u52 u53 u54 u55 u56 u57 u58 u59 u60 u61 u62 u63 u64 u65 u66 u67 u68 u69 u70 u71 u72 u73 u74 u75 u76 u77 u78 u79 u80 u81 u82 u83 u84 u85 u86 u87 u88 u89 u90 u91 u92 u93 u94 u95 u96 u97 u98 u99 u100 u101 u102 u103 u104 u105 u106 u107 u108 u109 u110 u111 u112 u113 u114 u115 u116 u117 u118 u119 u120 u121 u122 u123 u124 u125 u126 u127 : Value} {go sp n m : Nat} {a0 a1 a2 a3 a4 a5 a6 a7 a8 a9 a10 a11 a12 a13 a14 a15 n0 n1 n2 n3 n4 n5 n6 n7 n8 n9 n10 n11 n12 n13 n14 n15 : Int} {ops : Array Oper} (hops : (Try.f5.body.bind (regOps 7)) = some ops) {Q : Exit → Act → World → Prop} {ds : List Deferred} {W : World} {R : World → Prop} (hO : Bk W go 28 [.int .u32 a0, .int .u32 a1, .int .u32 a2, .int .u32 a3, .int .u32 a4, .int .u32 a5, .int .u32 a6, .int .u32 a7, .int .u32 a8, .int .u32 a9, .int .u32 a10, .int .u32 a11, .int .u32 a12, .int .u32 a13, .int .u32 a14, .int .u32 a15]) (hx : Calls Try.prog 14 #[.agg #[.int .i64 152, .int .i64 3, .int .i64 (n : Int), .int .i64 (m : Int), .int .i64 0, .int .i64 0, .int .i64 0, .int .i64 0, .int .i64 512, .int .i64 0, .int .i64 0, .int .i64 0], .agg #[.int .u32 a0, .int .u32 a1, .int .u32 a2, .int .u32 a3, .int .u32 a4, .int .u32 a5, .int .u32 a6, .int .u32 a7, .int .u32 a8, .int .u32 a9, .int .u32 a10, .int .u32 a11, .int .u32 a12, .int .u32 a13, .int .u32 a14, .int .u32 a15], .agg #[.int .i64 0, .int .i64 0, .bool false, .bool false, .bool false, .int .i64 0, .int .i64 0, .int .i64 0, .int .i64 0, .int .i64 0], .pointer (some ⟨sp, 0, none⟩)] W fun e w' => e = .returned (.tuple #[.agg #[.int .u32 n0, .int .u32 n1, .int .u32 n2, .int .u32 n3, .int .u32 n4, .int .u32 n5, .int .u32 n6, .int .u32 n7, .int .u32 n8, .int .u32 n9, .int .u32 n10, .int .u32 n11, .int .u32 n12, .int .u32 n13, .int .u32 n14, .int .u32 n15], .agg #[.int .i64 0, .int .i64 0, .bool false, .bool false, .bool false, .int .i64 0, .int .i64 0, .int .i64 0, .int .i64 0, .int .i64 0], .int .i64 0]) ∧ R w')
    (h : ∀ (w' : World) (x50 x51 x52 x53 x54 x55 x56 x57 x58 x59 x60 : Value), R w' → Q .normal { tmps := #[u0, u1, u2, u3, .pointer (some ⟨go, 0, none⟩), u5, u6, .pointer (some ⟨sp, 0, none⟩), u8, .int .i64 (n : Int), .int .i64 (m : Int), u11, u12, u13, .pointer (some ⟨w'.heap.size, 0, none⟩), .pointer (some ⟨w'.heap.size + 1, 0, none⟩), .int .i64 0, u17, u18, u19, u20, u21, u22, u23, u24, u25, u26, u27, u28, u29, u30, u31, u32, u33, u34, u35, u36, u37, u38, u39, u40, u41, u42, u43, u44, u45, u46, u47, u48, u49, x50, x51, x52, x53, x54, x55, x56, x57, x58, x59, x60, u61, u62, u63, u64, u65, u66, u67, u68, u69, u70, u71, u72, u73, u74, u75, u76, u77, u78, u79, u80, u81, u82, u83, u84, u85, u86, u87, u88, u89, u90, u91, u92, u93, u94, u95, u96, u97, u98, u99, u100, u101, u102, u103, u104, u105, u106, u107, u108, u109, u110, u111, u112, u113, u114, u115, u116, u117, u118, u119, u120, u121, u122, u123, u124, u125, u126, u127], defers := ds } ((w'.alloc (.cells #[.int .u32 n0, .int .u32 n1, .int .u32 n2, .int .u32 n3, .int .u32 n4, .int .u32 n5, .int .u32 n6, .int .u32 n7, .int .u32 n8, .int .u32 n9, .int .u32 n10, .int .u32 n11, .int .u32 n12, .int .u32 n13, .int .u32 n14, .int .u32 n15] 28)).alloc (.cells #[.int .i64 0, .int .i64 0, .bool false, .bool false, .bool false, .int .i64 0, .int .i64 0, .int .i64 0, .int .i64 0, .int .i64 0] 30))) : Code.wp Try.prog (Code.region 7 ops false) Q { tmps := #[u0, u1, u2, u3, .pointer (some ⟨go, 0, none⟩), u5, u6, .pointer (some ⟨sp, 0, none⟩), u8, .int .i64 (n : Int), .int .i64 (m : Int), u11, u12, u13, u14, u15, u16, u17, u18, u19, u20, u21, u22, u23, u24, u25, u26, u27, u28, u29, u30, u31, u32, u33, u34, u35, u36, u37, u38, u39, u40, u41, u42, u43, u44, u45, u46, u47, u48, u49, u50, u51, u52, u53, u54, u55, u56, u57, u58, u59, u60, u61, u62, u63, u64, u65, u66, u67, u68, u69, u70, u71, u72, u73, u74, u75, u76, u77, u78, u79, u80, u81, u82, u83, u84, u85, u86, u87, u88, u89, u90, u91, u92, u93, u94, u95, u96, u97, u98, u99, u100, u101, u102, u103, u104, u105, u106, u107, u108, u109, u110, u111, u112, u113, u114, u115, u116, u117, u118, u119, u120, u121, u122, u123, u124, u125, u126, u127], defers := ds } W := by
  simp [Try.f5, regOps] at hops
  subst hops
  have H := Lib.hid h
  have HX := Lib.hid hx
  clear h hx
  have k0 : W.cell? ⟨go, 0, none⟩ = some (.int .u32 a0) := hO.cell (c := 0) rfl
  have k1 : W.cell? ⟨go, 1, none⟩ = some (.int .u32 a1) := hO.cell (c := 1) rfl
  have k2 : W.cell? ⟨go, 2, none⟩ = some (.int .u32 a2) := hO.cell (c := 2) rfl
  have k3 : W.cell? ⟨go, 3, none⟩ = some (.int .u32 a3) := hO.cell (c := 3) rfl
  have k4 : W.cell? ⟨go, 4, none⟩ = some (.int .u32 a4) := hO.cell (c := 4) rfl
  have k5 : W.cell? ⟨go, 5, none⟩ = some (.int .u32 a5) := hO.cell (c := 5) rfl
  have k6 : W.cell? ⟨go, 6, none⟩ = some (.int .u32 a6) := hO.cell (c := 6) rfl
  have k7 : W.cell? ⟨go, 7, none⟩ = some (.int .u32 a7) := hO.cell (c := 7) rfl
  have k8 : W.cell? ⟨go, 8, none⟩ = some (.int .u32 a8) := hO.cell (c := 8) rfl
  have k9 : W.cell? ⟨go, 9, none⟩ = some (.int .u32 a9) := hO.cell (c := 9) rfl
  have k10 : W.cell? ⟨go, 10, none⟩ = some (.int .u32 a10) := hO.cell (c := 10) rfl
  have k11 : W.cell? ⟨go, 11, none⟩ = some (.int .u32 a11) := hO.cell (c := 11) rfl
  have k12 : W.cell? ⟨go, 12, none⟩ = some (.int .u32 a12) := hO.cell (c := 12) rfl
  have k13 : W.cell? ⟨go, 13, none⟩ = some (.int .u32 a13) := hO.cell (c := 13) rfl
  have k14 : W.cell? ⟨go, 14, none⟩ = some (.int .u32 a14) := hO.cell (c := 14) rfl
  have k15 : W.cell? ⟨go, 15, none⟩ = some (.int .u32 a15) := hO.cell (c := 15) rfl
  dsimp only
  go_wp2_with (go_at_call 14; refine HX.out.mono ?_; rintro e w' ⟨rfl, hr⟩; have HR := Lib.hid hr; clear hr hO k0 k1 k2 k3 k4 k5 k6 k7 k8 k9 k10 k11 k12 k13 k14 k15)
  exact H.out w' _ _ _ _ _ _ _ _ _ _ _ HR.out
end Go.Proofs.Ythjdjbipfdigeaa
