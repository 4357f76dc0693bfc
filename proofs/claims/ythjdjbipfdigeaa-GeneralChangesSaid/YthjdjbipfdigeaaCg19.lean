/- Contracts and laws on the way to the statement, text 19 of 25. Conditions: as each states them. -/
import Derived.Test.YthjdjbipfdigeaaCg18
namespace Go.Proofs.Ythjdjbipfdigeaa
open Go.RowKit
set_option maxRecDepth 100000
set_option linter.unusedVariables false
set_option linter.unusedSimpArgs false
set_option maxRecDepth 1000000 in
set_option maxHeartbeats 4000000 in
theorem changes_reg13_same {u0 u1 u2 u4 u5 u6 u8 u9 u10 u15 u16 u17 u18 u19 u20 u21 u22 u23 u24 u25 u26 u27 u28 u29 u30 u31 u32 u33 u34 u35 u36 u37 u38 u39 u40 u41 u42 u43 u44 u45 u46 u47 u48 u49 u50 u51 u52 u53 u54 u55 u56 u57 u58 u59 u60 u61 u62 u63 u64 u65 u66 u67 u68 u69 u70 u71 u72 u73 u74 u75 u76 u77 u78 u79 u80 u81 u82 u83 u84 u85 u86 u87 u88 u89 u90 u91 u92 u93 u94 u95 u96 u97 u98 u99 u100 u101 u102 u103 u104 u105 u106 u107 u108 u109 u110 u111 u112 u113 u114 u115 u116 u117 u118 u119 u120 u121 u122 u123 u124 u125 u126 u127 u128 u129 u130 u131 u132 u133 u134 u135 u136 u137 u138 u139 u140 u141 u142 u143 u144 u145 u146 u147 u148 u149 u150 u151 u152 u153 u154 u155 u156 u157 u158 u159 : Value} {k g1 g2 gx N c1 c2 : Nat} {v u key kv : Int} {ops : Array Oper} (hops : (Try.f10.body.bind (regOpsH 13)) = some ops) {Q : Exit → Act → World → Prop} {ds : List Deferred} {W : World} (hlt : k < N) (he : (v != u) = false) (hc1 : W.cell? ⟨g1, k, none⟩ = some (.int .u8 v)) (hc2 : W.cell? ⟨g2, k, none⟩ = some (.int .u8 u)) (hc3 : W.cell? ⟨gx, 17, none⟩ = some (.int .i64 key)) (hQ : ∀ (c : List PanicEntry) (a a' : Act) (w : World), a'.defers = a.defers → Q (.panic c) a' w → Q (.panic c) a w) (h : ∀ x80 x81 x82 x83 x84 x85 x86 x87 x88 x89 x90 x91 x92 x93 x94 x95 x96 x97 x98 x99 x100 x101 x102 x103 x104 x105, Q .normal { tmps := #[u0, u1, u2, .pointer (some ⟨gx, 0, none⟩), u4, u5, u6, .slice (some ⟨g1, 0, none⟩) N c1, u8, u9, u10, .slice (some ⟨g2, 0, none⟩) N c2, .int .i64 (k : Int), .int .i64 kv, .bool true, u15, u16, u17, u18, u19, u20, u21, u22, u23, u24, u25, u26, u27, u28, u29, u30, u31, u32, u33, u34, u35, u36, u37, u38, u39, u40, u41, u42, u43, u44, u45, u46, u47, u48, u49, u50, u51, u52, u53, u54, u55, u56, u57, u58, u59, u60, u61, u62, u63, u64, u65, u66, u67, u68, u69, u70, u71, u72, u73, u74, u75, u76, u77, u78, u79, x80, x81, x82, x83, x84, x85, x86, x87, x88, x89, x90, x91, x92, x93, x94, x95, x96, x97, x98, x99, x100, x101, x102, x103, x104, x105, .bool false, u107, u108, u109, u110, u111, u112, u113, u114, u115, u116, u117, u118, u119, u120, u121, u122, u123, u124, u125, u126, u127, u128, u129, u130, u131, u132, u133, u134, u135, u136, u137, u138, u139, u140, u141, u142, u143, u144, u145, u146, u147, u148, u149, u150, u151, u152, u153, u154, u155, u156, u157, u158, u159], defers := ds } W.drew) : Code.wp Try.prog (Code.region 13 ops true) Q { tmps := #[u0, u1, u2, .pointer (some ⟨gx, 0, none⟩), u4, u5, u6, .slice (some ⟨g1, 0, none⟩) N c1, u8, u9, u10, .slice (some ⟨g2, 0, none⟩) N c2, .int .i64 (k : Int), .int .i64 kv, .bool true, u15, u16, u17, u18, u19, u20, u21, u22, u23, u24, u25, u26, u27, u28, u29, u30, u31, u32, u33, u34, u35, u36, u37, u38, u39, u40, u41, u42, u43, u44, u45, u46, u47, u48, u49, u50, u51, u52, u53, u54, u55, u56, u57, u58, u59, u60, u61, u62, u63, u64, u65, u66, u67, u68, u69, u70, u71, u72, u73, u74, u75, u76, u77, u78, u79, u80, u81, u82, u83, u84, u85, u86, u87, u88, u89, u90, u91, u92, u93, u94, u95, u96, u97, u98, u99, u100, u101, u102, u103, u104, u105, u106, u107, u108, u109, u110, u111, u112, u113, u114, u115, u116, u117, u118, u119, u120, u121, u122, u123, u124, u125, u126, u127, u128, u129, u130, u131, u132, u133, u134, u135, u136, u137, u138, u139, u140, u141, u142, u143, u144, u145, u146, u147, u148, u149, u150, u151, u152, u153, u154, u155, u156, u157, u158, u159], defers := ds } W := by
  simp [Try.f10, regOpsH] at hops
  subst hops
  have i0 : (k : Int) < (N : Int) := by omega
  have i1 : (0 : Int) ≤ (k : Int) := by omega
  have H := Lib.hid h
  clear h hlt
  refine wp_region_held_drew (S := (fun w' => w'.cell? ⟨g1, k, none⟩ = some (.int .u8 v) ∧ w'.cell? ⟨g2, k, none⟩ = some (.int .u8 u) ∧ w'.cell? ⟨gx, 17, none⟩ = some (.int .i64 key))) (by kernel_rfl) ?_ (fun hHeld => ?_)
  · (try dsimp only); exact ⟨hc1, hc2, hc3⟩
  refine' takeL (i := 0) (v := _) rfl (by kernel_rfl) (by kernel_rfl) (by kernel_rfl) (fun c a w => hQ c a _ w rfl) (Or.inl ⟨by rfl, ?yy1⟩) (by assumption) ?rr1
  case yy1 => intro w hSw; (try dsimp only at hSw); go_simp; (try with_reducible rfl)
  try simp only [Act.put, List.setIfInBounds_toArray, List.set_cons_zero, List.set_cons_succ]
  refine' takeL (i := 1) (v := _) rfl (by kernel_rfl) (by kernel_rfl) (by kernel_rfl) (fun c a w => hQ c a _ w rfl) (Or.inl ⟨by rfl, ?yy2⟩) (by assumption) ?rr2
  case yy2 => intro w hSw; (try dsimp only at hSw); go_simp; (try with_reducible rfl)
  try simp only [Act.put, List.setIfInBounds_toArray, List.set_cons_zero, List.set_cons_succ]
  refine' takeL (i := 2) (v := _) rfl (by kernel_rfl) (by kernel_rfl) (by kernel_rfl) (fun c a w => hQ c a _ w rfl) (Or.inl ⟨by rfl, ?yy3⟩) (by assumption) ?rr3
  case yy3 => intro w hSw; (try dsimp only at hSw); have e := i0; have e' := i1; go_simp; (try with_reducible rfl)
  try simp only [Act.put, List.setIfInBounds_toArray, List.set_cons_zero, List.set_cons_succ]
  refine' takeL (i := 3) (v := .int .u8 v) rfl (by kernel_rfl) (by kernel_rfl) (by kernel_rfl) (fun c a w => hQ c a _ w rfl) (Or.inl ⟨by rfl, ?yy4⟩) (by assumption) ?rr4
  case yy4 => intro w hSw; (try dsimp only at hSw); have hz' := hSw.1; go_simp; (try with_reducible rfl)
  try simp only [Act.put, List.setIfInBounds_toArray, List.set_cons_zero, List.set_cons_succ]
  refine' takeL (i := 4) (v := _) rfl (by kernel_rfl) (by kernel_rfl) (by kernel_rfl) (fun c a w => hQ c a _ w rfl) (Or.inl ⟨by rfl, ?yy5⟩) (by assumption) ?rr5
  case yy5 => intro w hSw; (try dsimp only at hSw); go_simp; (try with_reducible rfl)
  try simp only [Act.put, List.setIfInBounds_toArray, List.set_cons_zero, List.set_cons_succ]
  refine' takeL (i := 5) (v := _) rfl (by kernel_rfl) (by kernel_rfl) (by kernel_rfl) (fun c a w => hQ c a _ w rfl) (Or.inl ⟨by rfl, ?yy6⟩) (by assumption) ?rr6
  case yy6 => intro w hSw; (try dsimp only at hSw); go_simp; (try with_reducible rfl)
  try simp only [Act.put, List.setIfInBounds_toArray, List.set_cons_zero, List.set_cons_succ]
  refine' takeL (i := 6) (v := _) rfl (by kernel_rfl) (by kernel_rfl) (by kernel_rfl) (fun c a w => hQ c a _ w rfl) (Or.inl ⟨by rfl, ?yy7⟩) (by assumption) ?rr7
  case yy7 => intro w hSw; (try dsimp only at hSw); have e := i0; have e' := i1; go_simp; (try with_reducible rfl)
  try simp only [Act.put, List.setIfInBounds_toArray, List.set_cons_zero, List.set_cons_succ]
  refine' takeL (i := 7) (v := .int .u8 u) rfl (by kernel_rfl) (by kernel_rfl) (by kernel_rfl) (fun c a w => hQ c a _ w rfl) (Or.inl ⟨by rfl, ?yy8⟩) (by assumption) ?rr8
  case yy8 => intro w hSw; (try dsimp only at hSw); have hz' := hSw.2.1; go_simp; (try with_reducible rfl)
  try simp only [Act.put, List.setIfInBounds_toArray, List.set_cons_zero, List.set_cons_succ]
  refine' takeL (i := 8) (v := .bool false) rfl (by kernel_rfl) (by kernel_rfl) (by kernel_rfl) (fun c a w => hQ c a _ w rfl) (Or.inl ⟨by rfl, ?yy9⟩) (by assumption) ?rr9
  case yy9 => intro w hSw; (try dsimp only at hSw); have e := he; go_simp; (try with_reducible rfl)
  try simp only [Act.put, List.setIfInBounds_toArray, List.set_cons_zero, List.set_cons_succ]
  refine' takeL (i := 9) (v := _) rfl (by kernel_rfl) (by kernel_rfl) (by kernel_rfl) (fun c a w => hQ c a _ w rfl) (Or.inl ⟨by rfl, ?yy10⟩) (by assumption) ?rr10
  case yy10 => intro w hSw; (try dsimp only at hSw); go_simp; (try with_reducible rfl)
  try simp only [Act.put, List.setIfInBounds_toArray, List.set_cons_zero, List.set_cons_succ]
  refine' takeL (i := 10) (v := _) rfl (by kernel_rfl) (by kernel_rfl) (by kernel_rfl) (fun c a w => hQ c a _ w rfl) (Or.inr ⟨by rfl, rfl⟩) (by assumption) ?rr11
  try simp only [Act.put, List.setIfInBounds_toArray, List.set_cons_zero, List.set_cons_succ]
  refine' takeL (i := 11) (v := _) rfl (by kernel_rfl) (by kernel_rfl) (by kernel_rfl) (fun c a w => hQ c a _ w rfl) (Or.inr ⟨by rfl, rfl⟩) (by assumption) ?rr12
  try simp only [Act.put, List.setIfInBounds_toArray, List.set_cons_zero, List.set_cons_succ]
  refine' takeL (i := 12) (v := _) rfl (by kernel_rfl) (by kernel_rfl) (by kernel_rfl) (fun c a w => hQ c a _ w rfl) (Or.inr ⟨by rfl, rfl⟩) (by assumption) ?rr13
  try simp only [Act.put, List.setIfInBounds_toArray, List.set_cons_zero, List.set_cons_succ]
  refine' takeL (i := 13) (v := _) rfl (by kernel_rfl) (by kernel_rfl) (by kernel_rfl) (fun c a w => hQ c a _ w rfl) (Or.inr ⟨by rfl, rfl⟩) (by assumption) ?rr14
  try simp only [Act.put, List.setIfInBounds_toArray, List.set_cons_zero, List.set_cons_succ]
  refine' takeL (i := 14) (v := _) rfl (by kernel_rfl) (by kernel_rfl) (by kernel_rfl) (fun c a w => hQ c a _ w rfl) (Or.inr ⟨by rfl, rfl⟩) (by assumption) ?rr15
  try simp only [Act.put, List.setIfInBounds_toArray, List.set_cons_zero, List.set_cons_succ]
  refine' takeL (i := 15) (v := _) rfl (by kernel_rfl) (by kernel_rfl) (by kernel_rfl) (fun c a w => hQ c a _ w rfl) (Or.inr ⟨by rfl, rfl⟩) (by assumption) ?rr16
  try simp only [Act.put, List.setIfInBounds_toArray, List.set_cons_zero, List.set_cons_succ]
  refine' takeL (i := 16) (v := _) rfl (by kernel_rfl) (by kernel_rfl) (by kernel_rfl) (fun c a w => hQ c a _ w rfl) (Or.inr ⟨by rfl, rfl⟩) (by assumption) ?rr17
  try simp only [Act.put, List.setIfInBounds_toArray, List.set_cons_zero, List.set_cons_succ]
  refine' takeL (i := 17) (v := _) rfl (by kernel_rfl) (by kernel_rfl) (by kernel_rfl) (fun c a w => hQ c a _ w rfl) (Or.inr ⟨by rfl, rfl⟩) (by assumption) ?rr18
  try simp only [Act.put, List.setIfInBounds_toArray, List.set_cons_zero, List.set_cons_succ]
  refine' takeL (i := 18) (v := _) rfl (by kernel_rfl) (by kernel_rfl) (by kernel_rfl) (fun c a w => hQ c a _ w rfl) (Or.inr ⟨by rfl, rfl⟩) (by assumption) ?rr19
  try simp only [Act.put, List.setIfInBounds_toArray, List.set_cons_zero, List.set_cons_succ]
  refine' takeL (i := 19) (v := _) rfl (by kernel_rfl) (by kernel_rfl) (by kernel_rfl) (fun c a w => hQ c a _ w rfl) (Or.inr ⟨by rfl, rfl⟩) (by assumption) ?rr20
  try simp only [Act.put, List.setIfInBounds_toArray, List.set_cons_zero, List.set_cons_succ]
  refine' takeL (i := 20) (v := _) rfl (by kernel_rfl) (by kernel_rfl) (by kernel_rfl) (fun c a w => hQ c a _ w rfl) (Or.inr ⟨by rfl, rfl⟩) (by assumption) ?rr21
  try simp only [Act.put, List.setIfInBounds_toArray, List.set_cons_zero, List.set_cons_succ]
  refine' takeL (i := 21) (v := _) rfl (by kernel_rfl) (by kernel_rfl) (by kernel_rfl) (fun c a w => hQ c a _ w rfl) (Or.inr ⟨by rfl, rfl⟩) (by assumption) ?rr22
  try simp only [Act.put, List.setIfInBounds_toArray, List.set_cons_zero, List.set_cons_succ]
  refine' takeL (i := 22) (v := _) rfl (by kernel_rfl) (by kernel_rfl) (by kernel_rfl) (fun c a w => hQ c a _ w rfl) (Or.inr ⟨by rfl, rfl⟩) (by assumption) ?rr23
  try simp only [Act.put, List.setIfInBounds_toArray, List.set_cons_zero, List.set_cons_succ]
  refine' takeL (i := 23) (v := _) rfl (by kernel_rfl) (by kernel_rfl) (by kernel_rfl) (fun c a w => hQ c a _ w rfl) (Or.inr ⟨by rfl, rfl⟩) (by assumption) ?rr24
  try simp only [Act.put, List.setIfInBounds_toArray, List.set_cons_zero, List.set_cons_succ]
  refine' takeL (i := 24) (v := _) rfl (by kernel_rfl) (by kernel_rfl) (by kernel_rfl) (fun c a w => hQ c a _ w rfl) (Or.inr ⟨by rfl, rfl⟩) (by assumption) ?rr25
  try simp only [Act.put, List.setIfInBounds_toArray, List.set_cons_zero, List.set_cons_succ]
  refine' takeL (i := 25) (v := _) rfl (by kernel_rfl) (by kernel_rfl) (by kernel_rfl) (fun c a w => hQ c a _ w rfl) (Or.inr ⟨by rfl, rfl⟩) (by assumption) ?rr26
  try simp only [Act.put, List.setIfInBounds_toArray, List.set_cons_zero, List.set_cons_succ]
  refine' takeL (i := 26) (v := _) rfl (by kernel_rfl) (by kernel_rfl) (by kernel_rfl) (fun c a w => hQ c a _ w rfl) (Or.inl ⟨by rfl, ?yy27⟩) (by assumption) ?rr27
  case yy27 => intro w hSw; (try dsimp only at hSw); go_simp; (try with_reducible rfl)
  try simp only [Act.put, List.setIfInBounds_toArray, List.set_cons_zero, List.set_cons_succ]
  refine wpAnyH_done (by kernel_rfl) ?_ _
  exact H.out _ _ _ _ _ _ _ _ _ _ _ _ _ _ _ _ _ _ _ _ _ _ _ _ _ _
set_option maxRecDepth 1000000 in
set_option maxHeartbeats 4000000 in
theorem changes_reg13_zero {u0 u1 u2 u4 u5 u6 u8 u9 u10 u15 u16 u17 u18 u19 u20 u21 u22 u23 u24 u25 u26 u27 u28 u29 u30 u31 u32 u33 u34 u35 u36 u37 u38 u39 u40 u41 u42 u43 u44 u45 u46 u47 u48 u49 u50 u51 u52 u53 u54 u55 u56 u57 u58 u59 u60 u61 u62 u63 u64 u65 u66 u67 u68 u69 u70 u71 u72 u73 u74 u75 u76 u77 u78 u79 u80 u81 u82 u83 u84 u85 u86 u87 u88 u89 u90 u91 u92 u93 u94 u95 u96 u97 u98 u99 u100 u101 u102 u103 u104 u105 u106 u107 u108 u109 u110 u111 u112 u113 u114 u115 u116 u117 u118 u119 u120 u121 u122 u123 u124 u125 u126 u127 u128 u129 u130 u131 u132 u133 u134 u135 u136 u137 u138 u139 u140 u141 u142 u143 u144 u145 u146 u147 u148 u149 u150 u151 u152 u153 u154 u155 u156 u157 u158 u159 : Value} {k g1 g2 gx N c1 c2 : Nat} {v u key kv : Int} {ops : Array Oper} (hops : (Try.f10.body.bind (regOpsH 13)) = some ops) {Q : Exit → Act → World → Prop} {ds : List Deferred} {W : World} (hlt : k < N) (he : (v != u) = true) (hz : (key != 0) = false) (hc1 : W.cell? ⟨g1, k, none⟩ = some (.int .u8 v)) (hc2 : W.cell? ⟨g2, k, none⟩ = some (.int .u8 u)) (hc3 : W.cell? ⟨gx, 17, none⟩ = some (.int .i64 key)) (hQ : ∀ (c : List PanicEntry) (a a' : Act) (w : World), a'.defers = a.defers → Q (.panic c) a' w → Q (.panic c) a w) (h : ∀ x80 x81 x82 x83 x84 x85 x86 x87 x88 x89 x90 x91 x92 x93 x94 x95 x96 x97 x98 x99 x100 x101 x102 x103 x104 x105, Q .normal { tmps := #[u0, u1, u2, .pointer (some ⟨gx, 0, none⟩), u4, u5, u6, .slice (some ⟨g1, 0, none⟩) N c1, u8, u9, u10, .slice (some ⟨g2, 0, none⟩) N c2, .int .i64 (k : Int), .int .i64 kv, .bool true, u15, u16, u17, u18, u19, u20, u21, u22, u23, u24, u25, u26, u27, u28, u29, u30, u31, u32, u33, u34, u35, u36, u37, u38, u39, u40, u41, u42, u43, u44, u45, u46, u47, u48, u49, u50, u51, u52, u53, u54, u55, u56, u57, u58, u59, u60, u61, u62, u63, u64, u65, u66, u67, u68, u69, u70, u71, u72, u73, u74, u75, u76, u77, u78, u79, x80, x81, x82, x83, x84, x85, x86, x87, x88, x89, x90, x91, x92, x93, x94, x95, x96, x97, x98, x99, x100, x101, x102, x103, x104, x105, .bool false, u107, u108, u109, u110, u111, u112, u113, u114, u115, u116, u117, u118, u119, u120, u121, u122, u123, u124, u125, u126, u127, u128, u129, u130, u131, u132, u133, u134, u135, u136, u137, u138, u139, u140, u141, u142, u143, u144, u145, u146, u147, u148, u149, u150, u151, u152, u153, u154, u155, u156, u157, u158, u159], defers := ds } W.drew) : Code.wp Try.prog (Code.region 13 ops true) Q { tmps := #[u0, u1, u2, .pointer (some ⟨gx, 0, none⟩), u4, u5, u6, .slice (some ⟨g1, 0, none⟩) N c1, u8, u9, u10, .slice (some ⟨g2, 0, none⟩) N c2, .int .i64 (k : Int), .int .i64 kv, .bool true, u15, u16, u17, u18, u19, u20, u21, u22, u23, u24, u25, u26, u27, u28, u29, u30, u31, u32, u33, u34, u35, u36, u37, u38, u39, u40, u41, u42, u43, u44, u45, u46, u47, u48, u49, u50, u51, u52, u53, u54, u55, u56, u57, u58, u59, u60, u61, u62, u63, u64, u65, u66, u67, u68, u69, u70, u71, u72, u73, u74, u75, u76, u77, u78, u79, u80, u81, u82, u83, u84, u85, u86, u87, u88, u89, u90, u91, u92, u93, u94, u95, u96, u97, u98, u99, u100, u101, u102, u103, u104, u105, u106, u107, u108, u109, u110, u111, u112, u113, u114, u115, u116, u117, u118, u119, u120, u121, u122, u123, u124, u125, u126, u127, u128, u129, u130, u131, u132, u133, u134, u135, u136, u137, u138, u139, u140, u141, u142, u143, u144, u145, u146, u147, u148, u149, u150, u151, u152, u153, u154, u155, u156, u157, u158, u159], defers := ds } W := by
  simp [Try.f10, regOpsH] at hops
  subst hops
  have i0 : (k : Int) < (N : Int) := by omega
  have i1 : (0 : Int) ≤ (k : Int) := by omega
  have H := Lib.hid h
  clear h hlt
  refine wp_region_held_drew (S := (fun w' => w'.cell? ⟨g1, k, none⟩ = some (.int .u8 v) ∧ w'.cell? ⟨g2, k, none⟩ = some (.int .u8 u) ∧ w'.cell? ⟨gx, 17, none⟩ = some (.int .i64 key))) (by kernel_rfl) ?_ (fun hHeld => ?_)
  · (try dsimp only); exact ⟨hc1, hc2, hc3⟩
  refine' takeL (i := 0) (v := _) rfl (by kernel_rfl) (by kernel_rfl) (by kernel_rfl) (fun c a w => hQ c a _ w rfl) (Or.inl ⟨by rfl, ?yy28⟩) (by assumption) ?rr28
  case yy28 => intro w hSw; (try dsimp only at hSw); go_simp; (try with_reducible rfl)
  try simp only [Act.put, List.setIfInBounds_toArray, List.set_cons_zero, List.set_cons_succ]
  refine' takeL (i := 1) (v := _) rfl (by kernel_rfl) (by kernel_rfl) (by kernel_rfl) (fun c a w => hQ c a _ w rfl) (Or.inl ⟨by rfl, ?yy29⟩) (by assumption) ?rr29
  case yy29 => intro w hSw; (try dsimp only at hSw); go_simp; (try with_reducible rfl)
  try simp only [Act.put, List.setIfInBounds_toArray, List.set_cons_zero, List.set_cons_succ]
  refine' takeL (i := 2) (v := _) rfl (by kernel_rfl) (by kernel_rfl) (by kernel_rfl) (fun c a w => hQ c a _ w rfl) (Or.inl ⟨by rfl, ?yy30⟩) (by assumption) ?rr30
  case yy30 => intro w hSw; (try dsimp only at hSw); have e := i0; have e' := i1; go_simp; (try with_reducible rfl)
  try simp only [Act.put, List.setIfInBounds_toArray, List.set_cons_zero, List.set_cons_succ]
  refine' takeL (i := 3) (v := .int .u8 v) rfl (by kernel_rfl) (by kernel_rfl) (by kernel_rfl) (fun c a w => hQ c a _ w rfl) (Or.inl ⟨by rfl, ?yy31⟩) (by assumption) ?rr31
  case yy31 => intro w hSw; (try dsimp only at hSw); have hz' := hSw.1; go_simp; (try with_reducible rfl)
  try simp only [Act.put, List.setIfInBounds_toArray, List.set_cons_zero, List.set_cons_succ]
  refine' takeL (i := 4) (v := _) rfl (by kernel_rfl) (by kernel_rfl) (by kernel_rfl) (fun c a w => hQ c a _ w rfl) (Or.inl ⟨by rfl, ?yy32⟩) (by assumption) ?rr32
  case yy32 => intro w hSw; (try dsimp only at hSw); go_simp; (try with_reducible rfl)
  try simp only [Act.put, List.setIfInBounds_toArray, List.set_cons_zero, List.set_cons_succ]
  refine' takeL (i := 5) (v := _) rfl (by kernel_rfl) (by kernel_rfl) (by kernel_rfl) (fun c a w => hQ c a _ w rfl) (Or.inl ⟨by rfl, ?yy33⟩) (by assumption) ?rr33
  case yy33 => intro w hSw; (try dsimp only at hSw); go_simp; (try with_reducible rfl)
  try simp only [Act.put, List.setIfInBounds_toArray, List.set_cons_zero, List.set_cons_succ]
  refine' takeL (i := 6) (v := _) rfl (by kernel_rfl) (by kernel_rfl) (by kernel_rfl) (fun c a w => hQ c a _ w rfl) (Or.inl ⟨by rfl, ?yy34⟩) (by assumption) ?rr34
  case yy34 => intro w hSw; (try dsimp only at hSw); have e := i0; have e' := i1; go_simp; (try with_reducible rfl)
  try simp only [Act.put, List.setIfInBounds_toArray, List.set_cons_zero, List.set_cons_succ]
  refine' takeL (i := 7) (v := .int .u8 u) rfl (by kernel_rfl) (by kernel_rfl) (by kernel_rfl) (fun c a w => hQ c a _ w rfl) (Or.inl ⟨by rfl, ?yy35⟩) (by assumption) ?rr35
  case yy35 => intro w hSw; (try dsimp only at hSw); have hz' := hSw.2.1; go_simp; (try with_reducible rfl)
  try simp only [Act.put, List.setIfInBounds_toArray, List.set_cons_zero, List.set_cons_succ]
  refine' takeL (i := 8) (v := .bool true) rfl (by kernel_rfl) (by kernel_rfl) (by kernel_rfl) (fun c a w => hQ c a _ w rfl) (Or.inl ⟨by rfl, ?yy36⟩) (by assumption) ?rr36
  case yy36 => intro w hSw; (try dsimp only at hSw); have e := he; go_simp; (try with_reducible rfl)
  try simp only [Act.put, List.setIfInBounds_toArray, List.set_cons_zero, List.set_cons_succ]
  refine' takeL (i := 9) (v := _) rfl (by kernel_rfl) (by kernel_rfl) (by kernel_rfl) (fun c a w => hQ c a _ w rfl) (Or.inl ⟨by rfl, ?yy37⟩) (by assumption) ?rr37
  case yy37 => intro w hSw; (try dsimp only at hSw); go_simp; (try with_reducible rfl)
  try simp only [Act.put, List.setIfInBounds_toArray, List.set_cons_zero, List.set_cons_succ]
  refine' takeL (i := 10) (v := _) rfl (by kernel_rfl) (by kernel_rfl) (by kernel_rfl) (fun c a w => hQ c a _ w rfl) (Or.inl ⟨by rfl, ?yy38⟩) (by assumption) ?rr38
  case yy38 => intro w hSw; (try dsimp only at hSw); go_simp; (try with_reducible rfl)
  try simp only [Act.put, List.setIfInBounds_toArray, List.set_cons_zero, List.set_cons_succ]
  refine' takeL (i := 11) (v := _) rfl (by kernel_rfl) (by kernel_rfl) (by kernel_rfl) (fun c a w => hQ c a _ w rfl) (Or.inl ⟨by rfl, ?yy39⟩) (by assumption) ?rr39
  case yy39 => intro w hSw; (try dsimp only at hSw); go_simp; (try with_reducible rfl)
  try simp only [Act.put, List.setIfInBounds_toArray, List.set_cons_zero, List.set_cons_succ]
  refine' takeL (i := 12) (v := _) rfl (by kernel_rfl) (by kernel_rfl) (by kernel_rfl) (fun c a w => hQ c a _ w rfl) (Or.inl ⟨by rfl, ?yy40⟩) (by assumption) ?rr40
  case yy40 => intro w hSw; (try dsimp only at hSw); go_simp; (try with_reducible rfl)
  try simp only [Act.put, List.setIfInBounds_toArray, List.set_cons_zero, List.set_cons_succ]
  refine' takeL (i := 13) (v := _) rfl (by kernel_rfl) (by kernel_rfl) (by kernel_rfl) (fun c a w => hQ c a _ w rfl) (Or.inl ⟨by rfl, ?yy41⟩) (by assumption) ?rr41
  case yy41 => intro w hSw; (try dsimp only at hSw); go_simp; (try with_reducible rfl)
  try simp only [Act.put, List.setIfInBounds_toArray, List.set_cons_zero, List.set_cons_succ]
  refine' takeL (i := 14) (v := _) rfl (by kernel_rfl) (by kernel_rfl) (by kernel_rfl) (fun c a w => hQ c a _ w rfl) (Or.inl ⟨by rfl, ?yy42⟩) (by assumption) ?rr42
  case yy42 => intro w hSw; (try dsimp only at hSw); go_simp; (try with_reducible rfl)
  try simp only [Act.put, List.setIfInBounds_toArray, List.set_cons_zero, List.set_cons_succ]
  refine' takeL (i := 15) (v := .int .i64 key) rfl (by kernel_rfl) (by kernel_rfl) (by kernel_rfl) (fun c a w => hQ c a _ w rfl) (Or.inl ⟨by rfl, ?yy43⟩) (by assumption) ?rr43
  case yy43 => intro w hSw; (try dsimp only at hSw); have hz' := hSw.2.2; go_simp; (try with_reducible rfl)
  try simp only [Act.put, List.setIfInBounds_toArray, List.set_cons_zero, List.set_cons_succ]
  refine' takeL (i := 16) (v := .bool false) rfl (by kernel_rfl) (by kernel_rfl) (by kernel_rfl) (fun c a w => hQ c a _ w rfl) (Or.inl ⟨by rfl, ?yy44⟩) (by assumption) ?rr44
  case yy44 => intro w hSw; (try dsimp only at hSw); have e := hz; go_simp; (try with_reducible rfl)
  try simp only [Act.put, List.setIfInBounds_toArray, List.set_cons_zero, List.set_cons_succ]
  refine' takeL (i := 17) (v := _) rfl (by kernel_rfl) (by kernel_rfl) (by kernel_rfl) (fun c a w => hQ c a _ w rfl) (Or.inl ⟨by rfl, ?yy45⟩) (by assumption) ?rr45
  case yy45 => intro w hSw; (try dsimp only at hSw); go_simp; (try with_reducible rfl)
  try simp only [Act.put, List.setIfInBounds_toArray, List.set_cons_zero, List.set_cons_succ]
  refine' takeL (i := 18) (v := _) rfl (by kernel_rfl) (by kernel_rfl) (by kernel_rfl) (fun c a w => hQ c a _ w rfl) (Or.inr ⟨by rfl, rfl⟩) (by assumption) ?rr46
  try simp only [Act.put, List.setIfInBounds_toArray, List.set_cons_zero, List.set_cons_succ]
  refine' takeL (i := 19) (v := _) rfl (by kernel_rfl) (by kernel_rfl) (by kernel_rfl) (fun c a w => hQ c a _ w rfl) (Or.inr ⟨by rfl, rfl⟩) (by assumption) ?rr47
  try simp only [Act.put, List.setIfInBounds_toArray, List.set_cons_zero, List.set_cons_succ]
  refine' takeL (i := 20) (v := _) rfl (by kernel_rfl) (by kernel_rfl) (by kernel_rfl) (fun c a w => hQ c a _ w rfl) (Or.inr ⟨by rfl, rfl⟩) (by assumption) ?rr48
  try simp only [Act.put, List.setIfInBounds_toArray, List.set_cons_zero, List.set_cons_succ]
  refine' takeL (i := 21) (v := _) rfl (by kernel_rfl) (by kernel_rfl) (by kernel_rfl) (fun c a w => hQ c a _ w rfl) (Or.inr ⟨by rfl, rfl⟩) (by assumption) ?rr49
  try simp only [Act.put, List.setIfInBounds_toArray, List.set_cons_zero, List.set_cons_succ]
  refine' takeL (i := 22) (v := _) rfl (by kernel_rfl) (by kernel_rfl) (by kernel_rfl) (fun c a w => hQ c a _ w rfl) (Or.inr ⟨by rfl, rfl⟩) (by assumption) ?rr50
  try simp only [Act.put, List.setIfInBounds_toArray, List.set_cons_zero, List.set_cons_succ]
  refine' takeL (i := 23) (v := _) rfl (by kernel_rfl) (by kernel_rfl) (by kernel_rfl) (fun c a w => hQ c a _ w rfl) (Or.inr ⟨by rfl, rfl⟩) (by assumption) ?rr51
  try simp only [Act.put, List.setIfInBounds_toArray, List.set_cons_zero, List.set_cons_succ]
  refine' takeL (i := 24) (v := _) rfl (by kernel_rfl) (by kernel_rfl) (by kernel_rfl) (fun c a w => hQ c a _ w rfl) (Or.inl ⟨by rfl, ?yy52⟩) (by assumption) ?rr52
  case yy52 => intro w hSw; (try dsimp only at hSw); go_simp; (try with_reducible rfl)
  try simp only [Act.put, List.setIfInBounds_toArray, List.set_cons_zero, List.set_cons_succ]
  refine' takeL (i := 25) (v := _) rfl (by kernel_rfl) (by kernel_rfl) (by kernel_rfl) (fun c a w => hQ c a _ w rfl) (Or.inl ⟨by rfl, ?yy53⟩) (by assumption) ?rr53
  case yy53 => intro w hSw; (try dsimp only at hSw); go_simp; (try with_reducible rfl)
  try simp only [Act.put, List.setIfInBounds_toArray, List.set_cons_zero, List.set_cons_succ]
  refine' takeL (i := 26) (v := _) rfl (by kernel_rfl) (by kernel_rfl) (by kernel_rfl) (fun c a w => hQ c a _ w rfl) (Or.inl ⟨by rfl, ?yy54⟩) (by assumption) ?rr54
  case yy54 => intro w hSw; (try dsimp only at hSw); go_simp; (try with_reducible rfl)
  try simp only [Act.put, List.setIfInBounds_toArray, List.set_cons_zero, List.set_cons_succ]
  refine wpAnyH_done (by kernel_rfl) ?_ _
  exact H.out _ _ _ _ _ _ _ _ _ _ _ _ _ _ _ _ _ _ _ _ _ _ _ _ _ _
set_option maxRecDepth 1000000 in
set_option maxHeartbeats 4000000 in
theorem changes_reg13_mine {u0 u1 u2 u4 u5 u6 u8 u9 u10 u15 u16 u17 u18 u19 u20 u21 u22 u23 u24 u25 u26 u27 u28 u29 u30 u31 u32 u33 u34 u35 u36 u37 u38 u39 u40 u41 u42 u43 u44 u45 u46 u47 u48 u49 u50 u51 u52 u53 u54 u55 u56 u57 u58 u59 u60 u61 u62 u63 u64 u65 u66 u67 u68 u69 u70 u71 u72 u73 u74 u75 u76 u77 u78 u79 u80 u81 u82 u83 u84 u85 u86 u87 u88 u89 u90 u91 u92 u93 u94 u95 u96 u97 u98 u99 u100 u101 u102 u103 u104 u105 u106 u107 u108 u109 u110 u111 u112 u113 u114 u115 u116 u117 u118 u119 u120 u121 u122 u123 u124 u125 u126 u127 u128 u129 u130 u131 u132 u133 u134 u135 u136 u137 u138 u139 u140 u141 u142 u143 u144 u145 u146 u147 u148 u149 u150 u151 u152 u153 u154 u155 u156 u157 u158 u159 : Value} {k g1 g2 gx N c1 c2 : Nat} {v u key kv : Int} {ops : Array Oper} (hops : (Try.f10.body.bind (regOpsH 13)) = some ops) {Q : Exit → Act → World → Prop} {ds : List Deferred} {W : World} (hlt : k < N) (he : (v != u) = true) (hz : (key != 0) = true) (hk : (kv / 2 != key) = false) (kv0 : 0 ≤ kv) (kv1 : kv ≤ 31) (hc1 : W.cell? ⟨g1, k, none⟩ = some (.int .u8 v)) (hc2 : W.cell? ⟨g2, k, none⟩ = some (.int .u8 u)) (hc3 : W.cell? ⟨gx, 17, none⟩ = some (.int .i64 key)) (hQ : ∀ (c : List PanicEntry) (a a' : Act) (w : World), a'.defers = a.defers → Q (.panic c) a' w → Q (.panic c) a w) (h : ∀ x80 x81 x82 x83 x84 x85 x86 x87 x88 x89 x90 x91 x92 x93 x94 x95 x96 x97 x98 x99 x100 x101 x102 x103 x104 x105, Q .normal { tmps := #[u0, u1, u2, .pointer (some ⟨gx, 0, none⟩), u4, u5, u6, .slice (some ⟨g1, 0, none⟩) N c1, u8, u9, u10, .slice (some ⟨g2, 0, none⟩) N c2, .int .i64 (k : Int), .int .i64 kv, .bool true, u15, u16, u17, u18, u19, u20, u21, u22, u23, u24, u25, u26, u27, u28, u29, u30, u31, u32, u33, u34, u35, u36, u37, u38, u39, u40, u41, u42, u43, u44, u45, u46, u47, u48, u49, u50, u51, u52, u53, u54, u55, u56, u57, u58, u59, u60, u61, u62, u63, u64, u65, u66, u67, u68, u69, u70, u71, u72, u73, u74, u75, u76, u77, u78, u79, x80, x81, x82, x83, x84, x85, x86, x87, x88, x89, x90, x91, x92, x93, x94, x95, x96, x97, x98, x99, x100, x101, x102, x103, x104, x105, .bool false, u107, u108, u109, u110, u111, u112, u113, u114, u115, u116, u117, u118, u119, u120, u121, u122, u123, u124, u125, u126, u127, u128, u129, u130, u131, u132, u133, u134, u135, u136, u137, u138, u139, u140, u141, u142, u143, u144, u145, u146, u147, u148, u149, u150, u151, u152, u153, u154, u155, u156, u157, u158, u159], defers := ds } W.drew) : Code.wp Try.prog (Code.region 13 ops true) Q { tmps := #[u0, u1, u2, .pointer (some ⟨gx, 0, none⟩), u4, u5, u6, .slice (some ⟨g1, 0, none⟩) N c1, u8, u9, u10, .slice (some ⟨g2, 0, none⟩) N c2, .int .i64 (k : Int), .int .i64 kv, .bool true, u15, u16, u17, u18, u19, u20, u21, u22, u23, u24, u25, u26, u27, u28, u29, u30, u31, u32, u33, u34, u35, u36, u37, u38, u39, u40, u41, u42, u43, u44, u45, u46, u47, u48, u49, u50, u51, u52, u53, u54, u55, u56, u57, u58, u59, u60, u61, u62, u63, u64, u65, u66, u67, u68, u69, u70, u71, u72, u73, u74, u75, u76, u77, u78, u79, u80, u81, u82, u83, u84, u85, u86, u87, u88, u89, u90, u91, u92, u93, u94, u95, u96, u97, u98, u99, u100, u101, u102, u103, u104, u105, u106, u107, u108, u109, u110, u111, u112, u113, u114, u115, u116, u117, u118, u119, u120, u121, u122, u123, u124, u125, u126, u127, u128, u129, u130, u131, u132, u133, u134, u135, u136, u137, u138, u139, u140, u141, u142, u143, u144, u145, u146, u147, u148, u149, u150, u151, u152, u153, u154, u155, u156, u157, u158, u159], defers := ds } W := by
  simp [Try.f10, regOpsH] at hops
  subst hops
  have i0 : (k : Int) < (N : Int) := by omega
  have i1 : (0 : Int) ≤ (k : Int) := by omega
  have wq : IntKind.i64.wrap (kv.tdiv 2) = kv / 2 := by rw [Int.tdiv_eq_ediv_of_nonneg kv0]; simp only [IntKind.wrap, IntKind.bits, IntKind.signed]; simp; omega
  have H := Lib.hid h
  clear h hlt
  refine wp_region_held_drew (S := (fun w' => w'.cell? ⟨g1, k, none⟩ = some (.int .u8 v) ∧ w'.cell? ⟨g2, k, none⟩ = some (.int .u8 u) ∧ w'.cell? ⟨gx, 17, none⟩ = some (.int .i64 key))) (by kernel_rfl) ?_ (fun hHeld => ?_)
  · (try dsimp only); exact ⟨hc1, hc2, hc3⟩
  refine' takeL (i := 0) (v := _) rfl (by kernel_rfl) (by kernel_rfl) (by kernel_rfl) (fun c a w => hQ c a _ w rfl) (Or.inl ⟨by rfl, ?yy55⟩) (by assumption) ?rr55
  case yy55 => intro w hSw; (try dsimp only at hSw); go_simp; (try with_reducible rfl)
  try simp only [Act.put, List.setIfInBounds_toArray, List.set_cons_zero, List.set_cons_succ]
  refine' takeL (i := 1) (v := _) rfl (by kernel_rfl) (by kernel_rfl) (by kernel_rfl) (fun c a w => hQ c a _ w rfl) (Or.inl ⟨by rfl, ?yy56⟩) (by assumption) ?rr56
  case yy56 => intro w hSw; (try dsimp only at hSw); go_simp; (try with_reducible rfl)
  try simp only [Act.put, List.setIfInBounds_toArray, List.set_cons_zero, List.set_cons_succ]
  refine' takeL (i := 2) (v := _) rfl (by kernel_rfl) (by kernel_rfl) (by kernel_rfl) (fun c a w => hQ c a _ w rfl) (Or.inl ⟨by rfl, ?yy57⟩) (by assumption) ?rr57
  case yy57 => intro w hSw; (try dsimp only at hSw); have e := i0; have e' := i1; go_simp; (try with_reducible rfl)
  try simp only [Act.put, List.setIfInBounds_toArray, List.set_cons_zero, List.set_cons_succ]
  refine' takeL (i := 3) (v := .int .u8 v) rfl (by kernel_rfl) (by kernel_rfl) (by kernel_rfl) (fun c a w => hQ c a _ w rfl) (Or.inl ⟨by rfl, ?yy58⟩) (by assumption) ?rr58
  case yy58 => intro w hSw; (try dsimp only at hSw); have hz' := hSw.1; go_simp; (try with_reducible rfl)
  try simp only [Act.put, List.setIfInBounds_toArray, List.set_cons_zero, List.set_cons_succ]
  refine' takeL (i := 4) (v := _) rfl (by kernel_rfl) (by kernel_rfl) (by kernel_rfl) (fun c a w => hQ c a _ w rfl) (Or.inl ⟨by rfl, ?yy59⟩) (by assumption) ?rr59
  case yy59 => intro w hSw; (try dsimp only at hSw); go_simp; (try with_reducible rfl)
  try simp only [Act.put, List.setIfInBounds_toArray, List.set_cons_zero, List.set_cons_succ]
  refine' takeL (i := 5) (v := _) rfl (by kernel_rfl) (by kernel_rfl) (by kernel_rfl) (fun c a w => hQ c a _ w rfl) (Or.inl ⟨by rfl, ?yy60⟩) (by assumption) ?rr60
  case yy60 => intro w hSw; (try dsimp only at hSw); go_simp; (try with_reducible rfl)
  try simp only [Act.put, List.setIfInBounds_toArray, List.set_cons_zero, List.set_cons_succ]
  refine' takeL (i := 6) (v := _) rfl (by kernel_rfl) (by kernel_rfl) (by kernel_rfl) (fun c a w => hQ c a _ w rfl) (Or.inl ⟨by rfl, ?yy61⟩) (by assumption) ?rr61
  case yy61 => intro w hSw; (try dsimp only at hSw); have e := i0; have e' := i1; go_simp; (try with_reducible rfl)
  try simp only [Act.put, List.setIfInBounds_toArray, List.set_cons_zero, List.set_cons_succ]
  refine' takeL (i := 7) (v := .int .u8 u) rfl (by kernel_rfl) (by kernel_rfl) (by kernel_rfl) (fun c a w => hQ c a _ w rfl) (Or.inl ⟨by rfl, ?yy62⟩) (by assumption) ?rr62
  case yy62 => intro w hSw; (try dsimp only at hSw); have hz' := hSw.2.1; go_simp; (try with_reducible rfl)
  try simp only [Act.put, List.setIfInBounds_toArray, List.set_cons_zero, List.set_cons_succ]
  refine' takeL (i := 8) (v := .bool true) rfl (by kernel_rfl) (by kernel_rfl) (by kernel_rfl) (fun c a w => hQ c a _ w rfl) (Or.inl ⟨by rfl, ?yy63⟩) (by assumption) ?rr63
  case yy63 => intro w hSw; (try dsimp only at hSw); have e := he; go_simp; (try with_reducible rfl)
  try simp only [Act.put, List.setIfInBounds_toArray, List.set_cons_zero, List.set_cons_succ]
  refine' takeL (i := 9) (v := _) rfl (by kernel_rfl) (by kernel_rfl) (by kernel_rfl) (fun c a w => hQ c a _ w rfl) (Or.inl ⟨by rfl, ?yy64⟩) (by assumption) ?rr64
  case yy64 => intro w hSw; (try dsimp only at hSw); go_simp; (try with_reducible rfl)
  try simp only [Act.put, List.setIfInBounds_toArray, List.set_cons_zero, List.set_cons_succ]
  refine' takeL (i := 10) (v := _) rfl (by kernel_rfl) (by kernel_rfl) (by kernel_rfl) (fun c a w => hQ c a _ w rfl) (Or.inl ⟨by rfl, ?yy65⟩) (by assumption) ?rr65
  case yy65 => intro w hSw; (try dsimp only at hSw); go_simp; (try with_reducible rfl)
  try simp only [Act.put, List.setIfInBounds_toArray, List.set_cons_zero, List.set_cons_succ]
  refine' takeL (i := 11) (v := _) rfl (by kernel_rfl) (by kernel_rfl) (by kernel_rfl) (fun c a w => hQ c a _ w rfl) (Or.inl ⟨by rfl, ?yy66⟩) (by assumption) ?rr66
  case yy66 => intro w hSw; (try dsimp only at hSw); go_simp; (try with_reducible rfl)
  try simp only [Act.put, List.setIfInBounds_toArray, List.set_cons_zero, List.set_cons_succ]
  refine' takeL (i := 12) (v := _) rfl (by kernel_rfl) (by kernel_rfl) (by kernel_rfl) (fun c a w => hQ c a _ w rfl) (Or.inl ⟨by rfl, ?yy67⟩) (by assumption) ?rr67
  case yy67 => intro w hSw; (try dsimp only at hSw); go_simp; (try with_reducible rfl)
  try simp only [Act.put, List.setIfInBounds_toArray, List.set_cons_zero, List.set_cons_succ]
  refine' takeL (i := 13) (v := _) rfl (by kernel_rfl) (by kernel_rfl) (by kernel_rfl) (fun c a w => hQ c a _ w rfl) (Or.inl ⟨by rfl, ?yy68⟩) (by assumption) ?rr68
  case yy68 => intro w hSw; (try dsimp only at hSw); go_simp; (try with_reducible rfl)
  try simp only [Act.put, List.setIfInBounds_toArray, List.set_cons_zero, List.set_cons_succ]
  refine' takeL (i := 14) (v := _) rfl (by kernel_rfl) (by kernel_rfl) (by kernel_rfl) (fun c a w => hQ c a _ w rfl) (Or.inl ⟨by rfl, ?yy69⟩) (by assumption) ?rr69
  case yy69 => intro w hSw; (try dsimp only at hSw); go_simp; (try with_reducible rfl)
  try simp only [Act.put, List.setIfInBounds_toArray, List.set_cons_zero, List.set_cons_succ]
  refine' takeL (i := 15) (v := .int .i64 key) rfl (by kernel_rfl) (by kernel_rfl) (by kernel_rfl) (fun c a w => hQ c a _ w rfl) (Or.inl ⟨by rfl, ?yy70⟩) (by assumption) ?rr70
  case yy70 => intro w hSw; (try dsimp only at hSw); have hz' := hSw.2.2; go_simp; (try with_reducible rfl)
  try simp only [Act.put, List.setIfInBounds_toArray, List.set_cons_zero, List.set_cons_succ]
  refine' takeL (i := 16) (v := .bool true) rfl (by kernel_rfl) (by kernel_rfl) (by kernel_rfl) (fun c a w => hQ c a _ w rfl) (Or.inl ⟨by rfl, ?yy71⟩) (by assumption) ?rr71
  case yy71 => intro w hSw; (try dsimp only at hSw); have e := hz; go_simp; (try with_reducible rfl)
  try simp only [Act.put, List.setIfInBounds_toArray, List.set_cons_zero, List.set_cons_succ]
  refine' takeL (i := 17) (v := _) rfl (by kernel_rfl) (by kernel_rfl) (by kernel_rfl) (fun c a w => hQ c a _ w rfl) (Or.inl ⟨by rfl, ?yy72⟩) (by assumption) ?rr72
  case yy72 => intro w hSw; (try dsimp only at hSw); go_simp; (try with_reducible rfl)
  try simp only [Act.put, List.setIfInBounds_toArray, List.set_cons_zero, List.set_cons_succ]
  refine' takeL (i := 18) (v := _) rfl (by kernel_rfl) (by kernel_rfl) (by kernel_rfl) (fun c a w => hQ c a _ w rfl) (Or.inl ⟨by rfl, ?yy73⟩) (by assumption) ?rr73
  case yy73 => intro w hSw; (try dsimp only at hSw); go_simp; (try with_reducible rfl)
  try simp only [Act.put, List.setIfInBounds_toArray, List.set_cons_zero, List.set_cons_succ]
  refine' takeL (i := 19) (v := .int .i64 (kv / 2)) rfl (by kernel_rfl) (by kernel_rfl) (by kernel_rfl) (fun c a w => hQ c a _ w rfl) (Or.inl ⟨by rfl, ?yy74⟩) (by assumption) ?rr74
  case yy74 => intro w hSw; (try dsimp only at hSw); have e := wq; go_simp; (try with_reducible rfl)
  try simp only [Act.put, List.setIfInBounds_toArray, List.set_cons_zero, List.set_cons_succ]
  refine' takeL (i := 20) (v := _) rfl (by kernel_rfl) (by kernel_rfl) (by kernel_rfl) (fun c a w => hQ c a _ w rfl) (Or.inl ⟨by rfl, ?yy75⟩) (by assumption) ?rr75
  case yy75 => intro w hSw; (try dsimp only at hSw); go_simp; (try with_reducible rfl)
  try simp only [Act.put, List.setIfInBounds_toArray, List.set_cons_zero, List.set_cons_succ]
  refine' takeL (i := 21) (v := _) rfl (by kernel_rfl) (by kernel_rfl) (by kernel_rfl) (fun c a w => hQ c a _ w rfl) (Or.inl ⟨by rfl, ?yy76⟩) (by assumption) ?rr76
  case yy76 => intro w hSw; (try dsimp only at hSw); go_simp; (try with_reducible rfl)
  try simp only [Act.put, List.setIfInBounds_toArray, List.set_cons_zero, List.set_cons_succ]
  refine' takeL (i := 22) (v := .int .i64 key) rfl (by kernel_rfl) (by kernel_rfl) (by kernel_rfl) (fun c a w => hQ c a _ w rfl) (Or.inl ⟨by rfl, ?yy77⟩) (by assumption) ?rr77
  case yy77 => intro w hSw; (try dsimp only at hSw); have hz' := hSw.2.2; go_simp; (try with_reducible rfl)
  try simp only [Act.put, List.setIfInBounds_toArray, List.set_cons_zero, List.set_cons_succ]
  refine' takeL (i := 23) (v := .bool false) rfl (by kernel_rfl) (by kernel_rfl) (by kernel_rfl) (fun c a w => hQ c a _ w rfl) (Or.inl ⟨by rfl, ?yy78⟩) (by assumption) ?rr78
  case yy78 => intro w hSw; (try dsimp only at hSw); have e := hk; go_simp; (try with_reducible rfl)
  try simp only [Act.put, List.setIfInBounds_toArray, List.set_cons_zero, List.set_cons_succ]
  refine' takeL (i := 24) (v := _) rfl (by kernel_rfl) (by kernel_rfl) (by kernel_rfl) (fun c a w => hQ c a _ w rfl) (Or.inl ⟨by rfl, ?yy79⟩) (by assumption) ?rr79
  case yy79 => intro w hSw; (try dsimp only at hSw); go_simp; (try with_reducible rfl)
  try simp only [Act.put, List.setIfInBounds_toArray, List.set_cons_zero, List.set_cons_succ]
  refine' takeL (i := 25) (v := _) rfl (by kernel_rfl) (by kernel_rfl) (by kernel_rfl) (fun c a w => hQ c a _ w rfl) (Or.inl ⟨by rfl, ?yy80⟩) (by assumption) ?rr80
  case yy80 => intro w hSw; (try dsimp only at hSw); go_simp; (try with_reducible rfl)
  try simp only [Act.put, List.setIfInBounds_toArray, List.set_cons_zero, List.set_cons_succ]
  refine' takeL (i := 26) (v := _) rfl (by kernel_rfl) (by kernel_rfl) (by kernel_rfl) (fun c a w => hQ c a _ w rfl) (Or.inl ⟨by rfl, ?yy81⟩) (by assumption) ?rr81
  case yy81 => intro w hSw; (try dsimp only at hSw); go_simp; (try with_reducible rfl)
  try simp only [Act.put, List.setIfInBounds_toArray, List.set_cons_zero, List.set_cons_succ]
  refine wpAnyH_done (by kernel_rfl) ?_ _
  exact H.out _ _ _ _ _ _ _ _ _ _ _ _ _ _ _ _ _ _ _ _ _ _ _ _ _ _
end Go.Proofs.Ythjdjbipfdigeaa

namespace Go.Proofs.Ythjdjbipfdigeaa
open Go.RowKit
set_option maxRecDepth 100000
set_option linter.unusedVariables false
set_option linter.unusedSimpArgs false
set_option maxRecDepth 1000000 in
set_option maxHeartbeats 8000000 in
theorem changes_loop {u0 u1 u2 u4 u6 u8 u9 u10 u13 u14 u15 u16 u17 u18 u19 u20 u21 u22 u23 u24 u25 u26 u27 u28 u29 u30 u31 u32 u33 u34 u35 u36 u37 u38 u39 u40 u41 u42 u43 u44 u45 u46 u47 u48 u49 u50 u51 u52 u53 u54 u55 u56 u57 u58 u59 u60 u61 u62 u63 u64 u65 u66 u67 u68 u69 u70 u71 u72 u73 u74 u75 u76 u77 u78 u79 u80 u81 u82 u83 u84 u85 u86 u87 u88 u89 u90 u91 u92 u93 u94 u95 u96 u97 u98 u99 u100 u101 u102 u103 u104 u105 u106 u107 u108 u109 u110 u111 u112 u113 u114 u115 u116 u117 u118 u119 u120 u121 u122 u123 u124 u125 u126 u127 u128 u129 u130 u131 u132 u133 u134 u135 u136 u137 u138 u139 u140 u141 u142 u143 u144 u145 u146 u147 u148 u149 u150 u151 u152 u153 u154 u155 u156 u157 u158 u159 : Value} {F : Foot} {g1 g2 gx N c1 c2 : Nat} {bs bs2 ks : List Int} {key : Int} {body : Code} (hbody : (Try.f10.body.bind loopAtH) = some body) {Q : Exit → Act → World → Prop} {ds : List Deferred} {W : World} (hS : St 71 W F bs2 ks) (hN : bs2.length = N) (h1 : ∀ k, k < N → W.cell? ⟨g1, k, none⟩ = some (.int .u8 (bs.getD k 0))) (h2 : ∀ k, k < N → W.cell? ⟨g2, k, none⟩ = some (.int .u8 (bs2.getD k 0))) (h3 : W.cell? ⟨gx, 17, none⟩ = some (.int .i64 key)) (hmay : ∀ j, bs2.getD j 0 ≠ bs.getD j 0 → alP key (ks.getD (j / 2048) 0) = true) (hQ : ∀ (c : List PanicEntry) (a a' : Act) (w : World), a'.defers = a.defers → Q (.panic c) a' w → Q (.panic c) a w)
    (h : ∀ (d : Nat) (x4 x12 x13 x14 x68 x69 x70 x71 x72 x73 x74 x75 x76 x77 x78 x79 x80 x81 x82 x83 x84 x85 x86 x87 x88 x89 x90 x91 x92 x93 x94 x95 x96 x97 x98 x99 x100 x101 x102 x103 x104 x105 x106 : Value), Q (.exit 0) { tmps := #[u0, u1, u2, .pointer (some ⟨gx, 0, none⟩), x4, .pointer (some ⟨F.g, 0, none⟩), u6, .slice (some ⟨g1, 0, none⟩) N c1, u8, u9, u10, .slice (some ⟨g2, 0, none⟩) N c2, x12, x13, x14, u15, u16, u17, u18, u19, u20, u21, u22, u23, u24, u25, u26, u27, u28, u29, u30, u31, u32, u33, u34, u35, u36, u37, u38, u39, u40, u41, u42, u43, u44, u45, u46, u47, u48, u49, u50, u51, u52, u53, u54, u55, u56, u57, u58, u59, u60, u61, u62, u63, u64, u65, u66, u67, x68, x69, x70, x71, x72, x73, x74, x75, x76, x77, x78, x79, x80, x81, x82, x83, x84, x85, x86, x87, x88, x89, x90, x91, x92, x93, x94, x95, x96, x97, x98, x99, x100, x101, x102, x103, x104, x105, x106, u107, u108, u109, u110, u111, u112, u113, u114, u115, u116, u117, u118, u119, u120, u121, u122, u123, u124, u125, u126, u127, u128, u129, u130, u131, u132, u133, u134, u135, u136, u137, u138, u139, u140, u141, u142, u143, u144, u145, u146, u147, u148, u149, u150, u151, u152, u153, u154, u155, u156, u157, u158, u159], defers := ds } (W.drewN d)) : Code.wp Try.prog (Code.loop body) Q { tmps := #[u0, u1, u2, .pointer (some ⟨gx, 0, none⟩), u4, .pointer (some ⟨F.g, 0, none⟩), u6, .slice (some ⟨g1, 0, none⟩) N c1, u8, u9, u10, .slice (some ⟨g2, 0, none⟩) N c2, .int .i64 0, u13, u14, u15, u16, u17, u18, u19, u20, u21, u22, u23, u24, u25, u26, u27, u28, u29, u30, u31, u32, u33, u34, u35, u36, u37, u38, u39, u40, u41, u42, u43, u44, u45, u46, u47, u48, u49, u50, u51, u52, u53, u54, u55, u56, u57, u58, u59, u60, u61, u62, u63, u64, u65, u66, u67, u68, u69, u70, u71, u72, u73, u74, u75, u76, u77, u78, u79, u80, u81, u82, u83, u84, u85, u86, u87, u88, u89, u90, u91, u92, u93, u94, u95, u96, u97, u98, u99, u100, u101, u102, u103, u104, u105, u106, u107, u108, u109, u110, u111, u112, u113, u114, u115, u116, u117, u118, u119, u120, u121, u122, u123, u124, u125, u126, u127, u128, u129, u130, u131, u132, u133, u134, u135, u136, u137, u138, u139, u140, u141, u142, u143, u144, u145, u146, u147, u148, u149, u150, u151, u152, u153, u154, u155, u156, u157, u158, u159], defers := ds } W := by
  simp [Try.f10, loopAtH] at hbody
  subst hbody
  have hlen : N ≤ 65536 := by have := hS.ln; have := hS.l1; omega
  have SS := Lib.hid hS
  have LN := Lib.hid hN
  have LA := Lib.hid h1
  have LB := Lib.hid h2
  have LC := Lib.hid h3
  have LM := Lib.hid hmay
  have HP := Lib.hid hQ
  have HE := Lib.hid h
  clear hS hN h1 h2 h3 hmay hQ h
  dsimp only
  go_loopw [12, 13, 14] (fun x y z w' => ∃ k : Nat, k ≤ N ∧ x = .int .i64 (k : Int) ∧ ∃ d, w' = W.drewN d) (fun x _ _ _ => N - (intOf x).toNat)
  case atStart => exact ⟨0, by omega, rfl, 0, rfl⟩
  case round =>
    obtain ⟨k, hk, rfl, d, rfl⟩ := hrel
    by_cases hlt : k < N
    · have i0 : (k : Int) < (N : Int) := by omega
      obtain ⟨v, hv⟩ : ∃ v, bs.getD k 0 = v := ⟨_, rfl⟩
      obtain ⟨u, hu⟩ : ∃ u, bs2.getD k 0 = u := ⟨_, rfl⟩
      obtain ⟨kv, hkv⟩ : ∃ q, ks.getD (k / 2048) 0 = q := ⟨_, rfl⟩
      have hr := SS.out.keyr (k / 2048)
      rw [hkv] at hr
      have L1 := Lib.hid (show (W.drewN d).cell? _ = some (.int .u8 v) from hv ▸ LA.out k hlt)
      have L2 := Lib.hid (show (W.drewN d).cell? _ = some (.int .u8 u) from hu ▸ LB.out k hlt)
      have L3 := Lib.hid (show (W.drewN d).cell? _ = _ from LC.out)
      have hm := LM.out k
      rw [hu, hv, hkv] at hm
      have KC : Calls Try.prog 23 #[.pointer (some ⟨F.g, 0, none⟩), .int .i64 (k : Int)] (W.drewN d) fun e w' => e = .returned (.tuple #[.int .i64 kv, .bool true]) ∧ W.drewN d = w' := by
        refine (keyof_c (W.drewN d) (SS.out.drewN d) (k : Int)).mono ?_
        rintro e w' ⟨he, hw⟩
        have ha : sAt bs2.length (k : Int) = true := by unfold sAt; rw [LN.out]; exact decide_eq_true (by omega)
        have hq : sKV bs2.length ks (k : Int) = kv := by unfold sKV; rw [if_pos ha, ← hkv]; congr 1
        rw [ha, hq] at he
        exact ⟨he, hw⟩
      have KK := Lib.hid KC
      have HM := Lib.hid hm
      clear hv hu hkv KC hm
      go_wp2_with fail
      refine KK.out.mono ?_
      rintro e w' ⟨rfl, rfl⟩
      clear KK
      go_upto_region 13 with fail
      by_cases he : v = u
      · have e1 : (v != u) = false := by simp [he]
        refine changes_reg13_same (by kernel_rfl) hlt e1 L1.out L2.out L3.out (fun c a a' w e h => HP.out c a a' w e h) ?_
        intros
        go_wp2
        exact ⟨⟨k + 1, by omega, rfl, d + 1, rfl⟩, by simp [intOf]; omega⟩
      have e1 : (v != u) = true := by simp [he]
      have ha := HM.out (fun e => he e.symm)
      by_cases hz : key = 0
      · have e2 : (key != 0) = false := by simp [hz]
        refine changes_reg13_zero (by kernel_rfl) hlt e1 e2 L1.out L2.out L3.out (fun c a a' w e h => HP.out c a a' w e h) ?_
        intros
        go_wp2
        exact ⟨⟨k + 1, by omega, rfl, d + 1, rfl⟩, by simp [intOf]; omega⟩
      · have e2 : (key != 0) = true := by simp [hz]
        have e3 : (kv / 2 != key) = false := by
          unfold alP at ha
          have := of_decide_eq_true ha
          simp
          omega
        refine changes_reg13_mine (by kernel_rfl) hlt e1 e2 e3 hr.1 hr.2 L1.out L2.out L3.out (fun c a a' w e h => HP.out c a a' w e h) ?_
        intros
        go_wp2
        exact ⟨⟨k + 1, by omega, rfl, d + 1, rfl⟩, by simp [intOf]; omega⟩
    · obtain rfl : k = N := by omega
      go_wp2
      exact HE.out d _ _ _ _ _ _ _ _ _ _ _ _ _ _ _ _ _ _ _ _ _ _ _ _ _ _ _ _ _ _ _ _ _ _ _ _ _ _ _ _ _ _ _
end Go.Proofs.Ythjdjbipfdigeaa

