/- Contracts and laws on the way to the statement, text 10 of 25. Conditions: as each states them. -/
import Derived.Test.YthjdjbipfdigeaaCg9
namespace Go.Proofs.Ythjdjbipfdigeaa
open Go.RowKit
set_option maxRecDepth 100000
set_option linter.unusedVariables false
set_option linter.unusedSimpArgs false
theorem u8_hi : ∀ n : Nat, n < 256 → bits .and .u8 (n : Int) 240 = (n : Int) / 16 * 16 := by decide +kernel
theorem u8_joinA : ∀ a : Nat, a < 16 → ∀ b : Nat, b < 16 → bits .or .u8 ((a : Int) * 16) (b : Int) = (a : Int) * 16 + (b : Int) := by decide +kernel
theorem u8_joinB : ∀ a : Nat, a < 16 → ∀ b : Nat, b < 16 → bits .or .u8 (b : Int) ((a : Int) * 16) = (a : Int) * 16 + (b : Int) := by decide +kernel
def cb (op x y : Int) : Int := if op = 209 then x / 16 * 16 + y % 16 else if op = 210 then y else if op = 211 then y / 16 * 16 + x % 16 else if op = 212 then bits .and .u8 x y else if op = 214 then bits .or .u8 x y else bits .xor .u8 x y
theorem cb_in (op x y : Int) (x0 : 0 ≤ x) (x1 : x ≤ 255) (y0 : 0 ≤ y) (y1 : y ≤ 255) : 0 ≤ cb op x y ∧ cb op x y ≤ 255 := by
  unfold cb
  repeat' split
  · omega
  · omega
  · omega
  · exact bounds_u8 (wf_bits .and .u8 x y)
  · exact bounds_u8 (wf_bits .or .u8 x y)
  · exact bounds_u8 (wf_bits .xor .u8 x y)
theorem mix (x y : Int) (x0 : 0 ≤ x) (x1 : x ≤ 255) (y0 : 0 ≤ y) (y1 : y ≤ 255) : bits .or .u8 (bits .and .u8 x 240) (y % 16) = x / 16 * 16 + y % 16 := by
  obtain ⟨a, rfl⟩ := Int.eq_ofNat_of_zero_le x0
  obtain ⟨b, rfl⟩ := Int.eq_ofNat_of_zero_le y0
  rw [u8_hi a (by omega)]
  have := u8_joinA (a / 16) (by omega) (b % 16) (by omega)
  simpa using this
theorem mix' (x y : Int) (x0 : 0 ≤ x) (x1 : x ≤ 255) (y0 : 0 ≤ y) (y1 : y ≤ 255) : bits .or .u8 (x % 16) (bits .and .u8 y 240) = y / 16 * 16 + x % 16 := by
  obtain ⟨a, rfl⟩ := Int.eq_ofNat_of_zero_le x0
  obtain ⟨b, rfl⟩ := Int.eq_ofNat_of_zero_le y0
  rw [u8_hi b (by omega)]
  have := u8_joinB (b / 16) (by omega) (a % 16) (by omega)
  simpa using this
set_option maxRecDepth 1000000 in
set_option maxHeartbeats 8000000 in
theorem clo_209 (x y : Int) (w : World) (x0 : 0 ≤ x) (x1 : x ≤ 255) (y0 : 0 ≤ y) (y1 : y ≤ 255) : Calls Try.prog 75 #[.int .u8 x, .int .u8 y] w fun e w' => e = .returned (.int .u8 (cb 209 x y)) ∧ w = w' := by
  have hm := mix x y x0 x1 y0 y1
  go_enter Try.func75, Try.ntmps75
  go_wp2
  go_ret
  exact ⟨by rfl, rfl⟩
theorem clo_call_209 (args : Array Value) (W : World) : Sem.run Try.prog (callFunc 75 args) W = .ok (.enter 75 args) W := by kernel_rfl
set_option maxRecDepth 1000000 in
set_option maxHeartbeats 8000000 in
theorem clo_210 (x y : Int) (w : World) (x0 : 0 ≤ x) (x1 : x ≤ 255) (y0 : 0 ≤ y) (y1 : y ≤ 255) : Calls Try.prog 76 #[.int .u8 x, .int .u8 y] w fun e w' => e = .returned (.int .u8 (cb 210 x y)) ∧ w = w' := by
  go_enter Try.func76, Try.ntmps76
  go_wp2
  go_ret
  exact ⟨by rfl, rfl⟩
theorem clo_call_210 (args : Array Value) (W : World) : Sem.run Try.prog (callFunc 76 args) W = .ok (.enter 76 args) W := by kernel_rfl
set_option maxRecDepth 1000000 in
set_option maxHeartbeats 8000000 in
theorem clo_211 (x y : Int) (w : World) (x0 : 0 ≤ x) (x1 : x ≤ 255) (y0 : 0 ≤ y) (y1 : y ≤ 255) : Calls Try.prog 77 #[.int .u8 x, .int .u8 y] w fun e w' => e = .returned (.int .u8 (cb 211 x y)) ∧ w = w' := by
  have hm := mix' x y x0 x1 y0 y1
  go_enter Try.func77, Try.ntmps77
  go_wp2
  go_ret
  exact ⟨by rfl, rfl⟩
theorem clo_call_211 (args : Array Value) (W : World) : Sem.run Try.prog (callFunc 77 args) W = .ok (.enter 77 args) W := by kernel_rfl
set_option maxRecDepth 1000000 in
set_option maxHeartbeats 8000000 in
theorem clo_212 (x y : Int) (w : World) (x0 : 0 ≤ x) (x1 : x ≤ 255) (y0 : 0 ≤ y) (y1 : y ≤ 255) : Calls Try.prog 78 #[.int .u8 x, .int .u8 y] w fun e w' => e = .returned (.int .u8 (cb 212 x y)) ∧ w = w' := by
  go_enter Try.func78, Try.ntmps78
  go_wp2
  go_ret
  exact ⟨by rfl, rfl⟩
theorem clo_call_212 (args : Array Value) (W : World) : Sem.run Try.prog (callFunc 78 args) W = .ok (.enter 78 args) W := by kernel_rfl
set_option maxRecDepth 1000000 in
set_option maxHeartbeats 8000000 in
theorem clo_214 (x y : Int) (w : World) (x0 : 0 ≤ x) (x1 : x ≤ 255) (y0 : 0 ≤ y) (y1 : y ≤ 255) : Calls Try.prog 79 #[.int .u8 x, .int .u8 y] w fun e w' => e = .returned (.int .u8 (cb 214 x y)) ∧ w = w' := by
  go_enter Try.func79, Try.ntmps79
  go_wp2
  go_ret
  exact ⟨by rfl, rfl⟩
theorem clo_call_214 (args : Array Value) (W : World) : Sem.run Try.prog (callFunc 79 args) W = .ok (.enter 79 args) W := by kernel_rfl
set_option maxRecDepth 1000000 in
set_option maxHeartbeats 8000000 in
theorem clo_215 (x y : Int) (w : World) (x0 : 0 ≤ x) (x1 : x ≤ 255) (y0 : 0 ≤ y) (y1 : y ≤ 255) : Calls Try.prog 80 #[.int .u8 x, .int .u8 y] w fun e w' => e = .returned (.int .u8 (cb 215 x y)) ∧ w = w' := by
  go_enter Try.func80, Try.ntmps80
  go_wp2
  go_ret
  exact ⟨by rfl, rfl⟩
theorem clo_call_215 (args : Array Value) (W : World) : Sem.run Try.prog (callFunc 80 args) W = .ok (.enter 80 args) W := by kernel_rfl
set_option maxRecDepth 1000000 in
set_option maxHeartbeats 8000000 in
theorem long_209 (g : Nat) (P : World → Prop) (w : World) (c0 : w.cell? ⟨g, 0, none⟩ = some (.int .i64 209)) (hb : Calls Try.prog 74 #[.pointer (some ⟨g, 0, none⟩), .func (.func 75) #[] #[], .bool false] w fun e w' => e = .returned (.tuple #[]) ∧ P w') : Calls Try.prog 47 #[.pointer (some ⟨g, 0, none⟩)] w fun e w' => e = .returned (.tuple #[]) ∧ P w' := by
  have HB := Lib.hid hb
  clear hb
  go_enter Try.func47, Try.ntmps47
  go_wp2_with (go_at_call 74; refine HB.out.mono ?_; rintro e w3 ⟨rfl, hR⟩; have HR := Lib.hid hR; clear hR)
  first | go_end0 | refine bodyPost_ret (results_none rfl _ _ _) rfl ?_
  exact ⟨rfl, HR.out⟩
set_option maxRecDepth 1000000 in
set_option maxHeartbeats 8000000 in
theorem long_209_no (g : Nat) (P : World → Prop) (c : Int) (w : World) (c0 : w.cell? ⟨g, 0, none⟩ = some (.int .i64 209)) (hb : Calls Try.prog 74 #[.pointer (some ⟨g, 0, none⟩), .func (.func 75) #[] #[], .bool false] w fun e w' => e = .panicked [{ v := .iface 65 (.int .i64 c), recovered := false }] ∧ P w') : Calls Try.prog 47 #[.pointer (some ⟨g, 0, none⟩)] w fun e w' => e = .panicked [{ v := .iface 65 (.int .i64 c), recovered := false }] ∧ P w' := by
  have HB := Lib.hid hb
  clear hb
  go_enter Try.func47, Try.ntmps47
  go_wp2_with (go_at_call 74; refine HB.out.mono ?_; rintro e w3 ⟨rfl, hR⟩; have HR := Lib.hid hR; clear hR)
  exact ⟨rfl, rfl, HR.out⟩
set_option maxRecDepth 1000000 in
set_option maxHeartbeats 8000000 in
theorem long_210 (g : Nat) (P : World → Prop) (w : World) (c0 : w.cell? ⟨g, 0, none⟩ = some (.int .i64 210)) (hb : Calls Try.prog 74 #[.pointer (some ⟨g, 0, none⟩), .func (.func 76) #[] #[], .bool false] w fun e w' => e = .returned (.tuple #[]) ∧ P w') : Calls Try.prog 47 #[.pointer (some ⟨g, 0, none⟩)] w fun e w' => e = .returned (.tuple #[]) ∧ P w' := by
  have HB := Lib.hid hb
  clear hb
  go_enter Try.func47, Try.ntmps47
  go_wp2_with (go_at_call 74; refine HB.out.mono ?_; rintro e w3 ⟨rfl, hR⟩; have HR := Lib.hid hR; clear hR)
  first | go_end0 | refine bodyPost_ret (results_none rfl _ _ _) rfl ?_
  exact ⟨rfl, HR.out⟩
set_option maxRecDepth 1000000 in
set_option maxHeartbeats 8000000 in
theorem long_210_no (g : Nat) (P : World → Prop) (c : Int) (w : World) (c0 : w.cell? ⟨g, 0, none⟩ = some (.int .i64 210)) (hb : Calls Try.prog 74 #[.pointer (some ⟨g, 0, none⟩), .func (.func 76) #[] #[], .bool false] w fun e w' => e = .panicked [{ v := .iface 65 (.int .i64 c), recovered := false }] ∧ P w') : Calls Try.prog 47 #[.pointer (some ⟨g, 0, none⟩)] w fun e w' => e = .panicked [{ v := .iface 65 (.int .i64 c), recovered := false }] ∧ P w' := by
  have HB := Lib.hid hb
  clear hb
  go_enter Try.func47, Try.ntmps47
  go_wp2_with (go_at_call 74; refine HB.out.mono ?_; rintro e w3 ⟨rfl, hR⟩; have HR := Lib.hid hR; clear hR)
  exact ⟨rfl, rfl, HR.out⟩
set_option maxRecDepth 1000000 in
set_option maxHeartbeats 8000000 in
theorem long_211 (g : Nat) (P : World → Prop) (w : World) (c0 : w.cell? ⟨g, 0, none⟩ = some (.int .i64 211)) (hb : Calls Try.prog 74 #[.pointer (some ⟨g, 0, none⟩), .func (.func 77) #[] #[], .bool false] w fun e w' => e = .returned (.tuple #[]) ∧ P w') : Calls Try.prog 47 #[.pointer (some ⟨g, 0, none⟩)] w fun e w' => e = .returned (.tuple #[]) ∧ P w' := by
  have HB := Lib.hid hb
  clear hb
  go_enter Try.func47, Try.ntmps47
  go_wp2_with (go_at_call 74; refine HB.out.mono ?_; rintro e w3 ⟨rfl, hR⟩; have HR := Lib.hid hR; clear hR)
  first | go_end0 | refine bodyPost_ret (results_none rfl _ _ _) rfl ?_
  exact ⟨rfl, HR.out⟩
set_option maxRecDepth 1000000 in
set_option maxHeartbeats 8000000 in
theorem long_211_no (g : Nat) (P : World → Prop) (c : Int) (w : World) (c0 : w.cell? ⟨g, 0, none⟩ = some (.int .i64 211)) (hb : Calls Try.prog 74 #[.pointer (some ⟨g, 0, none⟩), .func (.func 77) #[] #[], .bool false] w fun e w' => e = .panicked [{ v := .iface 65 (.int .i64 c), recovered := false }] ∧ P w') : Calls Try.prog 47 #[.pointer (some ⟨g, 0, none⟩)] w fun e w' => e = .panicked [{ v := .iface 65 (.int .i64 c), recovered := false }] ∧ P w' := by
  have HB := Lib.hid hb
  clear hb
  go_enter Try.func47, Try.ntmps47
  go_wp2_with (go_at_call 74; refine HB.out.mono ?_; rintro e w3 ⟨rfl, hR⟩; have HR := Lib.hid hR; clear hR)
  exact ⟨rfl, rfl, HR.out⟩
set_option maxRecDepth 1000000 in
set_option maxHeartbeats 8000000 in
theorem long_212 (g : Nat) (P : World → Prop) (w : World) (c0 : w.cell? ⟨g, 0, none⟩ = some (.int .i64 212)) (hb : Calls Try.prog 74 #[.pointer (some ⟨g, 0, none⟩), .func (.func 78) #[] #[], .bool true] w fun e w' => e = .returned (.tuple #[]) ∧ P w') : Calls Try.prog 47 #[.pointer (some ⟨g, 0, none⟩)] w fun e w' => e = .returned (.tuple #[]) ∧ P w' := by
  have HB := Lib.hid hb
  clear hb
  go_enter Try.func47, Try.ntmps47
  go_wp2_with (go_at_call 74; refine HB.out.mono ?_; rintro e w3 ⟨rfl, hR⟩; have HR := Lib.hid hR; clear hR)
  first | go_end0 | refine bodyPost_ret (results_none rfl _ _ _) rfl ?_
  exact ⟨rfl, HR.out⟩
set_option maxRecDepth 1000000 in
set_option maxHeartbeats 8000000 in
theorem long_212_no (g : Nat) (P : World → Prop) (c : Int) (w : World) (c0 : w.cell? ⟨g, 0, none⟩ = some (.int .i64 212)) (hb : Calls Try.prog 74 #[.pointer (some ⟨g, 0, none⟩), .func (.func 78) #[] #[], .bool true] w fun e w' => e = .panicked [{ v := .iface 65 (.int .i64 c), recovered := false }] ∧ P w') : Calls Try.prog 47 #[.pointer (some ⟨g, 0, none⟩)] w fun e w' => e = .panicked [{ v := .iface 65 (.int .i64 c), recovered := false }] ∧ P w' := by
  have HB := Lib.hid hb
  clear hb
  go_enter Try.func47, Try.ntmps47
  go_wp2_with (go_at_call 74; refine HB.out.mono ?_; rintro e w3 ⟨rfl, hR⟩; have HR := Lib.hid hR; clear hR)
  exact ⟨rfl, rfl, HR.out⟩
set_option maxRecDepth 1000000 in
set_option maxHeartbeats 8000000 in
theorem long_214 (g : Nat) (P : World → Prop) (w : World) (c0 : w.cell? ⟨g, 0, none⟩ = some (.int .i64 214)) (hb : Calls Try.prog 74 #[.pointer (some ⟨g, 0, none⟩), .func (.func 79) #[] #[], .bool true] w fun e w' => e = .returned (.tuple #[]) ∧ P w') : Calls Try.prog 47 #[.pointer (some ⟨g, 0, none⟩)] w fun e w' => e = .returned (.tuple #[]) ∧ P w' := by
  have HB := Lib.hid hb
  clear hb
  go_enter Try.func47, Try.ntmps47
  go_wp2_with (go_at_call 74; refine HB.out.mono ?_; rintro e w3 ⟨rfl, hR⟩; have HR := Lib.hid hR; clear hR)
  first | go_end0 | refine bodyPost_ret (results_none rfl _ _ _) rfl ?_
  exact ⟨rfl, HR.out⟩
set_option maxRecDepth 1000000 in
set_option maxHeartbeats 8000000 in
theorem long_214_no (g : Nat) (P : World → Prop) (c : Int) (w : World) (c0 : w.cell? ⟨g, 0, none⟩ = some (.int .i64 214)) (hb : Calls Try.prog 74 #[.pointer (some ⟨g, 0, none⟩), .func (.func 79) #[] #[], .bool true] w fun e w' => e = .panicked [{ v := .iface 65 (.int .i64 c), recovered := false }] ∧ P w') : Calls Try.prog 47 #[.pointer (some ⟨g, 0, none⟩)] w fun e w' => e = .panicked [{ v := .iface 65 (.int .i64 c), recovered := false }] ∧ P w' := by
  have HB := Lib.hid hb
  clear hb
  go_enter Try.func47, Try.ntmps47
  go_wp2_with (go_at_call 74; refine HB.out.mono ?_; rintro e w3 ⟨rfl, hR⟩; have HR := Lib.hid hR; clear hR)
  exact ⟨rfl, rfl, HR.out⟩
set_option maxRecDepth 1000000 in
set_option maxHeartbeats 8000000 in
theorem long_215 (g : Nat) (P : World → Prop) (w : World) (c0 : w.cell? ⟨g, 0, none⟩ = some (.int .i64 215)) (hb : Calls Try.prog 74 #[.pointer (some ⟨g, 0, none⟩), .func (.func 80) #[] #[], .bool true] w fun e w' => e = .returned (.tuple #[]) ∧ P w') : Calls Try.prog 47 #[.pointer (some ⟨g, 0, none⟩)] w fun e w' => e = .returned (.tuple #[]) ∧ P w' := by
  have HB := Lib.hid hb
  clear hb
  go_enter Try.func47, Try.ntmps47
  go_wp2_with (go_at_call 74; refine HB.out.mono ?_; rintro e w3 ⟨rfl, hR⟩; have HR := Lib.hid hR; clear hR)
  first | go_end0 | refine bodyPost_ret (results_none rfl _ _ _) rfl ?_
  exact ⟨rfl, HR.out⟩
set_option maxRecDepth 1000000 in
set_option maxHeartbeats 8000000 in
theorem long_215_no (g : Nat) (P : World → Prop) (c : Int) (w : World) (c0 : w.cell? ⟨g, 0, none⟩ = some (.int .i64 215)) (hb : Calls Try.prog 74 #[.pointer (some ⟨g, 0, none⟩), .func (.func 80) #[] #[], .bool true] w fun e w' => e = .panicked [{ v := .iface 65 (.int .i64 c), recovered := false }] ∧ P w') : Calls Try.prog 47 #[.pointer (some ⟨g, 0, none⟩)] w fun e w' => e = .panicked [{ v := .iface 65 (.int .i64 c), recovered := false }] ∧ P w' := by
  have HB := Lib.hid hb
  clear hb
  go_enter Try.func47, Try.ntmps47
  go_wp2_with (go_at_call 74; refine HB.out.mono ?_; rintro e w3 ⟨rfl, hR⟩; have HR := Lib.hid hR; clear hR)
  exact ⟨rfl, rfl, HR.out⟩
set_option maxRecDepth 1000000 in
set_option maxHeartbeats 8000000 in
theorem long_213 (g : Nat) (P : World → Prop) (w : World) (c0 : w.cell? ⟨g, 0, none⟩ = some (.int .i64 213)) (hb : Calls Try.prog 81 #[.pointer (some ⟨g, 0, none⟩)] w fun e w' => e = .returned (.tuple #[]) ∧ P w') : Calls Try.prog 47 #[.pointer (some ⟨g, 0, none⟩)] w fun e w' => e = .returned (.tuple #[]) ∧ P w' := by
  have HB := Lib.hid hb
  clear hb
  go_enter Try.func47, Try.ntmps47
  go_wp2_with (go_at_call 81; refine HB.out.mono ?_; rintro e w3 ⟨rfl, hR⟩; have HR := Lib.hid hR; clear hR)
  first | go_end0 | refine bodyPost_ret (results_none rfl _ _ _) rfl ?_
  exact ⟨rfl, HR.out⟩
set_option maxRecDepth 1000000 in
set_option maxHeartbeats 8000000 in
theorem long_213_no (g : Nat) (P : World → Prop) (c : Int) (w : World) (c0 : w.cell? ⟨g, 0, none⟩ = some (.int .i64 213)) (hb : Calls Try.prog 81 #[.pointer (some ⟨g, 0, none⟩)] w fun e w' => e = .panicked [{ v := .iface 65 (.int .i64 c), recovered := false }] ∧ P w') : Calls Try.prog 47 #[.pointer (some ⟨g, 0, none⟩)] w fun e w' => e = .panicked [{ v := .iface 65 (.int .i64 c), recovered := false }] ∧ P w' := by
  have HB := Lib.hid hb
  clear hb
  go_enter Try.func47, Try.ntmps47
  go_wp2_with (go_at_call 81; refine HB.out.mono ?_; rintro e w3 ⟨rfl, hR⟩; have HR := Lib.hid hR; clear hR)
  exact ⟨rfl, rfl, HR.out⟩
set_option maxRecDepth 1000000 in
set_option maxHeartbeats 8000000 in
theorem long_220 (g : Nat) (P : World → Prop) (w : World) (c0 : w.cell? ⟨g, 0, none⟩ = some (.int .i64 220)) (hb : Calls Try.prog 82 #[.pointer (some ⟨g, 0, none⟩)] w fun e w' => e = .returned (.tuple #[]) ∧ P w') : Calls Try.prog 47 #[.pointer (some ⟨g, 0, none⟩)] w fun e w' => e = .returned (.tuple #[]) ∧ P w' := by
  have HB := Lib.hid hb
  clear hb
  go_enter Try.func47, Try.ntmps47
  go_wp2_with (go_at_call 82; refine HB.out.mono ?_; rintro e w3 ⟨rfl, hR⟩; have HR := Lib.hid hR; clear hR)
  first | go_end0 | refine bodyPost_ret (results_none rfl _ _ _) rfl ?_
  exact ⟨rfl, HR.out⟩
set_option maxRecDepth 1000000 in
set_option maxHeartbeats 8000000 in
theorem long_220_no (g : Nat) (P : World → Prop) (c : Int) (w : World) (c0 : w.cell? ⟨g, 0, none⟩ = some (.int .i64 220)) (hb : Calls Try.prog 82 #[.pointer (some ⟨g, 0, none⟩)] w fun e w' => e = .panicked [{ v := .iface 65 (.int .i64 c), recovered := false }] ∧ P w') : Calls Try.prog 47 #[.pointer (some ⟨g, 0, none⟩)] w fun e w' => e = .panicked [{ v := .iface 65 (.int .i64 c), recovered := false }] ∧ P w' := by
  have HB := Lib.hid hb
  clear hb
  go_enter Try.func47, Try.ntmps47
  go_wp2_with (go_at_call 82; refine HB.out.mono ?_; rintro e w3 ⟨rfl, hR⟩; have HR := Lib.hid hR; clear hR)
  exact ⟨rfl, rfl, HR.out⟩
set_option maxRecDepth 1000000 in
set_option maxHeartbeats 8000000 in
theorem long_221 (g : Nat) (P : World → Prop) (w : World) (c0 : w.cell? ⟨g, 0, none⟩ = some (.int .i64 221)) (hb : Calls Try.prog 83 #[.pointer (some ⟨g, 0, none⟩)] w fun e w' => e = .returned (.tuple #[]) ∧ P w') : Calls Try.prog 47 #[.pointer (some ⟨g, 0, none⟩)] w fun e w' => e = .returned (.tuple #[]) ∧ P w' := by
  have HB := Lib.hid hb
  clear hb
  go_enter Try.func47, Try.ntmps47
  go_wp2_with (go_at_call 83; refine HB.out.mono ?_; rintro e w3 ⟨rfl, hR⟩; have HR := Lib.hid hR; clear hR)
  first | go_end0 | refine bodyPost_ret (results_none rfl _ _ _) rfl ?_
  exact ⟨rfl, HR.out⟩
set_option maxRecDepth 1000000 in
set_option maxHeartbeats 8000000 in
theorem long_221_no (g : Nat) (P : World → Prop) (c : Int) (w : World) (c0 : w.cell? ⟨g, 0, none⟩ = some (.int .i64 221)) (hb : Calls Try.prog 83 #[.pointer (some ⟨g, 0, none⟩)] w fun e w' => e = .panicked [{ v := .iface 65 (.int .i64 c), recovered := false }] ∧ P w') : Calls Try.prog 47 #[.pointer (some ⟨g, 0, none⟩)] w fun e w' => e = .panicked [{ v := .iface 65 (.int .i64 c), recovered := false }] ∧ P w' := by
  have HB := Lib.hid hb
  clear hb
  go_enter Try.func47, Try.ntmps47
  go_wp2_with (go_at_call 83; refine HB.out.mono ?_; rintro e w3 ⟨rfl, hR⟩; have HR := Lib.hid hR; clear hR)
  exact ⟨rfl, rfl, HR.out⟩
end Go.Proofs.Ythjdjbipfdigeaa

namespace Go.Proofs.Ythjdjbipfdigeaa
open Go.RowKit
set_option maxRecDepth 100000
set_option linter.unusedVariables false
set_option linter.unusedSimpArgs false
set_option maxRecDepth 1000000 in
set_option maxHeartbeats 8000000 in
theorem exec_b1 (g : Nat) (op : Int) (lo : 4 ≤ op) (hi : op ≤ 7) (P : World → Prop) (w : World) (c0 : w.cell? ⟨g, 0, none⟩ = some (.int .i64 op)) (hb : Calls Try.prog 42 #[.pointer (some ⟨g, 0, none⟩)] w fun e w' => e = .returned (.tuple #[]) ∧ P w') : Calls Try.prog 31 #[.pointer (some ⟨g, 0, none⟩)] w fun e w' => e = .returned (.tuple #[]) ∧ P w' := by
  have klt16 : op < 16 := by omega
  have kge69 : ¬ op ≥ 69 := by omega
  have kle71 : op ≤ 71 := by omega
  have keq134 : (op == 134) = false := by simp; omega
  have keq135 : (op == 135) = false := by simp; omega
  have kge136 : ¬ op ≥ 136 := by omega
  have kle143 : op ≤ 143 := by omega
  have keq65 : (op == 65) = false := by simp; omega
  have kge64 : ¬ op ≥ 64 := by omega
  have kle67 : op ≤ 67 := by omega
  have keq80 : (op == 80) = false := by simp; omega
  have keq144 : (op == 144) = false := by simp; omega
  have keq152 : (op == 152) = false := by simp; omega
  have kge145 : ¬ op ≥ 145 := by omega
  have kle151 : op ≤ 151 := by omega
  have kge208 : ¬ op ≥ 208 := by omega
  have HB := Lib.hid hb
  clear hb
  go_enter Try.func31, Try.ntmps31
  go_wp2_with (go_at_call 42; refine HB.out.mono ?_; rintro e w3 ⟨rfl, hR⟩; have HR := Lib.hid hR; clear hR)
  first | go_end0 | refine bodyPost_ret (results_none rfl _ _ _) rfl ?_
  exact ⟨rfl, HR.out⟩
set_option maxRecDepth 1000000 in
set_option maxHeartbeats 8000000 in
theorem exec_b2 (g : Nat) (op : Int) (lo : 69 ≤ op) (hi : op ≤ 71) (P : World → Prop) (w : World) (c0 : w.cell? ⟨g, 0, none⟩ = some (.int .i64 op)) (hb : Calls Try.prog 42 #[.pointer (some ⟨g, 0, none⟩)] w fun e w' => e = .returned (.tuple #[]) ∧ P w') : Calls Try.prog 31 #[.pointer (some ⟨g, 0, none⟩)] w fun e w' => e = .returned (.tuple #[]) ∧ P w' := by
  have klt16 : ¬ op < 16 := by omega
  have kge69 : op ≥ 69 := by omega
  have kle71 : op ≤ 71 := by omega
  have keq134 : (op == 134) = false := by simp; omega
  have keq135 : (op == 135) = false := by simp; omega
  have kge136 : ¬ op ≥ 136 := by omega
  have kle143 : op ≤ 143 := by omega
  have keq65 : (op == 65) = false := by simp; omega
  have kge64 : op ≥ 64 := by omega
  have kle67 : ¬ op ≤ 67 := by omega
  have keq80 : (op == 80) = false := by simp; omega
  have keq144 : (op == 144) = false := by simp; omega
  have keq152 : (op == 152) = false := by simp; omega
  have kge145 : ¬ op ≥ 145 := by omega
  have kle151 : op ≤ 151 := by omega
  have kge208 : ¬ op ≥ 208 := by omega
  have HB := Lib.hid hb
  clear hb
  go_enter Try.func31, Try.ntmps31
  go_wp2_with (go_at_call 42; refine HB.out.mono ?_; rintro e w3 ⟨rfl, hR⟩; have HR := Lib.hid hR; clear hR)
  first | go_end0 | refine bodyPost_ret (results_none rfl _ _ _) rfl ?_
  exact ⟨rfl, HR.out⟩
set_option maxRecDepth 1000000 in
set_option maxHeartbeats 8000000 in
theorem exec_b3 (g : Nat) (P : World → Prop) (w : World) (c0 : w.cell? ⟨g, 0, none⟩ = some (.int .i64 134)) (hb : Calls Try.prog 42 #[.pointer (some ⟨g, 0, none⟩)] w fun e w' => e = .returned (.tuple #[]) ∧ P w') : Calls Try.prog 31 #[.pointer (some ⟨g, 0, none⟩)] w fun e w' => e = .returned (.tuple #[]) ∧ P w' := by
  have HB := Lib.hid hb
  clear hb
  go_enter Try.func31, Try.ntmps31
  go_wp2_with (go_at_call 42; refine HB.out.mono ?_; rintro e w3 ⟨rfl, hR⟩; have HR := Lib.hid hR; clear hR)
  first | go_end0 | refine bodyPost_ret (results_none rfl _ _ _) rfl ?_
  exact ⟨rfl, HR.out⟩
set_option maxRecDepth 1000000 in
set_option maxHeartbeats 8000000 in
theorem exec_b4 (g : Nat) (P : World → Prop) (w : World) (c0 : w.cell? ⟨g, 0, none⟩ = some (.int .i64 135)) (hb : Calls Try.prog 42 #[.pointer (some ⟨g, 0, none⟩)] w fun e w' => e = .returned (.tuple #[]) ∧ P w') : Calls Try.prog 31 #[.pointer (some ⟨g, 0, none⟩)] w fun e w' => e = .returned (.tuple #[]) ∧ P w' := by
  have HB := Lib.hid hb
  clear hb
  go_enter Try.func31, Try.ntmps31
  go_wp2_with (go_at_call 42; refine HB.out.mono ?_; rintro e w3 ⟨rfl, hR⟩; have HR := Lib.hid hR; clear hR)
  first | go_end0 | refine bodyPost_ret (results_none rfl _ _ _) rfl ?_
  exact ⟨rfl, HR.out⟩
set_option maxRecDepth 1000000 in
set_option maxHeartbeats 8000000 in
theorem exec_s (g : Nat) (op : Int) (lo : 136 ≤ op) (hi : op ≤ 143) (P : World → Prop) (w : World) (c0 : w.cell? ⟨g, 0, none⟩ = some (.int .i64 op)) (hb : Calls Try.prog 43 #[.pointer (some ⟨g, 0, none⟩)] w fun e w' => e = .returned (.tuple #[]) ∧ P w') : Calls Try.prog 31 #[.pointer (some ⟨g, 0, none⟩)] w fun e w' => e = .returned (.tuple #[]) ∧ P w' := by
  have klt16 : ¬ op < 16 := by omega
  have kge69 : op ≥ 69 := by omega
  have kle71 : ¬ op ≤ 71 := by omega
  have keq134 : (op == 134) = false := by simp; omega
  have keq135 : (op == 135) = false := by simp; omega
  have kge136 : op ≥ 136 := by omega
  have kle143 : op ≤ 143 := by omega
  have keq65 : (op == 65) = false := by simp; omega
  have kge64 : op ≥ 64 := by omega
  have kle67 : ¬ op ≤ 67 := by omega
  have keq80 : (op == 80) = false := by simp; omega
  have keq144 : (op == 144) = false := by simp; omega
  have keq152 : (op == 152) = false := by simp; omega
  have kge145 : ¬ op ≥ 145 := by omega
  have kle151 : op ≤ 151 := by omega
  have kge208 : ¬ op ≥ 208 := by omega
  have HB := Lib.hid hb
  clear hb
  go_enter Try.func31, Try.ntmps31
  go_wp2_with (go_at_call 43; refine HB.out.mono ?_; rintro e w3 ⟨rfl, hR⟩; have HR := Lib.hid hR; clear hR)
  first | go_end0 | refine bodyPost_ret (results_none rfl _ _ _) rfl ?_
  exact ⟨rfl, HR.out⟩
set_option maxRecDepth 1000000 in
set_option maxHeartbeats 8000000 in
theorem exec_s_no (g : Nat) (op : Int) (lo : 136 ≤ op) (hi : op ≤ 143) (P : World → Prop) (c : Int) (w : World) (c0 : w.cell? ⟨g, 0, none⟩ = some (.int .i64 op)) (hb : Calls Try.prog 43 #[.pointer (some ⟨g, 0, none⟩)] w fun e w' => e = .panicked [{ v := .iface 65 (.int .i64 c), recovered := false }] ∧ P w') : Calls Try.prog 31 #[.pointer (some ⟨g, 0, none⟩)] w fun e w' => e = .panicked [{ v := .iface 65 (.int .i64 c), recovered := false }] ∧ P w' := by
  have klt16 : ¬ op < 16 := by omega
  have kge69 : op ≥ 69 := by omega
  have kle71 : ¬ op ≤ 71 := by omega
  have keq134 : (op == 134) = false := by simp; omega
  have keq135 : (op == 135) = false := by simp; omega
  have kge136 : op ≥ 136 := by omega
  have kle143 : op ≤ 143 := by omega
  have keq65 : (op == 65) = false := by simp; omega
  have kge64 : op ≥ 64 := by omega
  have kle67 : ¬ op ≤ 67 := by omega
  have keq80 : (op == 80) = false := by simp; omega
  have keq144 : (op == 144) = false := by simp; omega
  have keq152 : (op == 152) = false := by simp; omega
  have kge145 : ¬ op ≥ 145 := by omega
  have kle151 : op ≤ 151 := by omega
  have kge208 : ¬ op ≥ 208 := by omega
  have HB := Lib.hid hb
  clear hb
  go_enter Try.func31, Try.ntmps31
  go_wp2_with (go_at_call 43; refine HB.out.mono ?_; rintro e w3 ⟨rfl, hR⟩; have HR := Lib.hid hR; clear hR)
  exact ⟨rfl, rfl, HR.out⟩
set_option maxRecDepth 1000000 in
set_option maxHeartbeats 8000000 in
theorem exec_m1 (g : Nat) (P : World → Prop) (w : World) (c0 : w.cell? ⟨g, 0, none⟩ = some (.int .i64 64)) (hb : Calls Try.prog 45 #[.pointer (some ⟨g, 0, none⟩)] w fun e w' => e = .returned (.tuple #[]) ∧ P w') : Calls Try.prog 31 #[.pointer (some ⟨g, 0, none⟩)] w fun e w' => e = .returned (.tuple #[]) ∧ P w' := by
  have HB := Lib.hid hb
  clear hb
  go_enter Try.func31, Try.ntmps31
  go_wp2_with (go_at_call 45; refine HB.out.mono ?_; rintro e w3 ⟨rfl, hR⟩; have HR := Lib.hid hR; clear hR)
  first | go_end0 | refine bodyPost_ret (results_none rfl _ _ _) rfl ?_
  exact ⟨rfl, HR.out⟩
set_option maxRecDepth 1000000 in
set_option maxHeartbeats 8000000 in
theorem exec_m1_no (g : Nat) (P : World → Prop) (c : Int) (w : World) (c0 : w.cell? ⟨g, 0, none⟩ = some (.int .i64 64)) (hb : Calls Try.prog 45 #[.pointer (some ⟨g, 0, none⟩)] w fun e w' => e = .panicked [{ v := .iface 65 (.int .i64 c), recovered := false }] ∧ P w') : Calls Try.prog 31 #[.pointer (some ⟨g, 0, none⟩)] w fun e w' => e = .panicked [{ v := .iface 65 (.int .i64 c), recovered := false }] ∧ P w' := by
  have HB := Lib.hid hb
  clear hb
  go_enter Try.func31, Try.ntmps31
  go_wp2_with (go_at_call 45; refine HB.out.mono ?_; rintro e w3 ⟨rfl, hR⟩; have HR := Lib.hid hR; clear hR)
  exact ⟨rfl, rfl, HR.out⟩
set_option maxRecDepth 1000000 in
set_option maxHeartbeats 8000000 in
theorem exec_m2 (g : Nat) (op : Int) (lo : 66 ≤ op) (hi : op ≤ 67) (P : World → Prop) (w : World) (c0 : w.cell? ⟨g, 0, none⟩ = some (.int .i64 op)) (hb : Calls Try.prog 45 #[.pointer (some ⟨g, 0, none⟩)] w fun e w' => e = .returned (.tuple #[]) ∧ P w') : Calls Try.prog 31 #[.pointer (some ⟨g, 0, none⟩)] w fun e w' => e = .returned (.tuple #[]) ∧ P w' := by
  have klt16 : ¬ op < 16 := by omega
  have kge69 : ¬ op ≥ 69 := by omega
  have kle71 : op ≤ 71 := by omega
  have keq134 : (op == 134) = false := by simp; omega
  have keq135 : (op == 135) = false := by simp; omega
  have kge136 : ¬ op ≥ 136 := by omega
  have kle143 : op ≤ 143 := by omega
  have keq65 : (op == 65) = false := by simp; omega
  have kge64 : op ≥ 64 := by omega
  have kle67 : op ≤ 67 := by omega
  have keq80 : (op == 80) = false := by simp; omega
  have keq144 : (op == 144) = false := by simp; omega
  have keq152 : (op == 152) = false := by simp; omega
  have kge145 : ¬ op ≥ 145 := by omega
  have kle151 : op ≤ 151 := by omega
  have kge208 : ¬ op ≥ 208 := by omega
  have HB := Lib.hid hb
  clear hb
  go_enter Try.func31, Try.ntmps31
  go_wp2_with (go_at_call 45; refine HB.out.mono ?_; rintro e w3 ⟨rfl, hR⟩; have HR := Lib.hid hR; clear hR)
  first | go_end0 | refine bodyPost_ret (results_none rfl _ _ _) rfl ?_
  exact ⟨rfl, HR.out⟩
set_option maxRecDepth 1000000 in
set_option maxHeartbeats 8000000 in
theorem exec_m2_no (g : Nat) (op : Int) (lo : 66 ≤ op) (hi : op ≤ 67) (P : World → Prop) (c : Int) (w : World) (c0 : w.cell? ⟨g, 0, none⟩ = some (.int .i64 op)) (hb : Calls Try.prog 45 #[.pointer (some ⟨g, 0, none⟩)] w fun e w' => e = .panicked [{ v := .iface 65 (.int .i64 c), recovered := false }] ∧ P w') : Calls Try.prog 31 #[.pointer (some ⟨g, 0, none⟩)] w fun e w' => e = .panicked [{ v := .iface 65 (.int .i64 c), recovered := false }] ∧ P w' := by
  have klt16 : ¬ op < 16 := by omega
  have kge69 : ¬ op ≥ 69 := by omega
  have kle71 : op ≤ 71 := by omega
  have keq134 : (op == 134) = false := by simp; omega
  have keq135 : (op == 135) = false := by simp; omega
  have kge136 : ¬ op ≥ 136 := by omega
  have kle143 : op ≤ 143 := by omega
  have keq65 : (op == 65) = false := by simp; omega
  have kge64 : op ≥ 64 := by omega
  have kle67 : op ≤ 67 := by omega
  have keq80 : (op == 80) = false := by simp; omega
  have keq144 : (op == 144) = false := by simp; omega
  have keq152 : (op == 152) = false := by simp; omega
  have kge145 : ¬ op ≥ 145 := by omega
  have kle151 : op ≤ 151 := by omega
  have kge208 : ¬ op ≥ 208 := by omega
  have HB := Lib.hid hb
  clear hb
  go_enter Try.func31, Try.ntmps31
  go_wp2_with (go_at_call 45; refine HB.out.mono ?_; rintro e w3 ⟨rfl, hR⟩; have HR := Lib.hid hR; clear hR)
  exact ⟨rfl, rfl, HR.out⟩
set_option maxRecDepth 1000000 in
set_option maxHeartbeats 8000000 in
theorem exec_m3 (g : Nat) (P : World → Prop) (w : World) (c0 : w.cell? ⟨g, 0, none⟩ = some (.int .i64 80)) (hb : Calls Try.prog 45 #[.pointer (some ⟨g, 0, none⟩)] w fun e w' => e = .returned (.tuple #[]) ∧ P w') : Calls Try.prog 31 #[.pointer (some ⟨g, 0, none⟩)] w fun e w' => e = .returned (.tuple #[]) ∧ P w' := by
  have HB := Lib.hid hb
  clear hb
  go_enter Try.func31, Try.ntmps31
  go_wp2_with (go_at_call 45; refine HB.out.mono ?_; rintro e w3 ⟨rfl, hR⟩; have HR := Lib.hid hR; clear hR)
  first | go_end0 | refine bodyPost_ret (results_none rfl _ _ _) rfl ?_
  exact ⟨rfl, HR.out⟩
set_option maxRecDepth 1000000 in
set_option maxHeartbeats 8000000 in
theorem exec_m3_no (g : Nat) (P : World → Prop) (c : Int) (w : World) (c0 : w.cell? ⟨g, 0, none⟩ = some (.int .i64 80)) (hb : Calls Try.prog 45 #[.pointer (some ⟨g, 0, none⟩)] w fun e w' => e = .panicked [{ v := .iface 65 (.int .i64 c), recovered := false }] ∧ P w') : Calls Try.prog 31 #[.pointer (some ⟨g, 0, none⟩)] w fun e w' => e = .panicked [{ v := .iface 65 (.int .i64 c), recovered := false }] ∧ P w' := by
  have HB := Lib.hid hb
  clear hb
  go_enter Try.func31, Try.ntmps31
  go_wp2_with (go_at_call 45; refine HB.out.mono ?_; rintro e w3 ⟨rfl, hR⟩; have HR := Lib.hid hR; clear hR)
  exact ⟨rfl, rfl, HR.out⟩
set_option maxRecDepth 1000000 in
set_option maxHeartbeats 8000000 in
theorem exec_m4 (g : Nat) (P : World → Prop) (w : World) (c0 : w.cell? ⟨g, 0, none⟩ = some (.int .i64 144)) (hb : Calls Try.prog 45 #[.pointer (some ⟨g, 0, none⟩)] w fun e w' => e = .returned (.tuple #[]) ∧ P w') : Calls Try.prog 31 #[.pointer (some ⟨g, 0, none⟩)] w fun e w' => e = .returned (.tuple #[]) ∧ P w' := by
  have HB := Lib.hid hb
  clear hb
  go_enter Try.func31, Try.ntmps31
  go_wp2_with (go_at_call 45; refine HB.out.mono ?_; rintro e w3 ⟨rfl, hR⟩; have HR := Lib.hid hR; clear hR)
  first | go_end0 | refine bodyPost_ret (results_none rfl _ _ _) rfl ?_
  exact ⟨rfl, HR.out⟩
set_option maxRecDepth 1000000 in
set_option maxHeartbeats 8000000 in
theorem exec_m4_no (g : Nat) (P : World → Prop) (c : Int) (w : World) (c0 : w.cell? ⟨g, 0, none⟩ = some (.int .i64 144)) (hb : Calls Try.prog 45 #[.pointer (some ⟨g, 0, none⟩)] w fun e w' => e = .panicked [{ v := .iface 65 (.int .i64 c), recovered := false }] ∧ P w') : Calls Try.prog 31 #[.pointer (some ⟨g, 0, none⟩)] w fun e w' => e = .panicked [{ v := .iface 65 (.int .i64 c), recovered := false }] ∧ P w' := by
  have HB := Lib.hid hb
  clear hb
  go_enter Try.func31, Try.ntmps31
  go_wp2_with (go_at_call 45; refine HB.out.mono ?_; rintro e w3 ⟨rfl, hR⟩; have HR := Lib.hid hR; clear hR)
  exact ⟨rfl, rfl, HR.out⟩
set_option maxRecDepth 1000000 in
set_option maxHeartbeats 8000000 in
theorem exec_m5 (g : Nat) (P : World → Prop) (w : World) (c0 : w.cell? ⟨g, 0, none⟩ = some (.int .i64 152)) (hb : Calls Try.prog 45 #[.pointer (some ⟨g, 0, none⟩)] w fun e w' => e = .returned (.tuple #[]) ∧ P w') : Calls Try.prog 31 #[.pointer (some ⟨g, 0, none⟩)] w fun e w' => e = .returned (.tuple #[]) ∧ P w' := by
  have HB := Lib.hid hb
  clear hb
  go_enter Try.func31, Try.ntmps31
  go_wp2_with (go_at_call 45; refine HB.out.mono ?_; rintro e w3 ⟨rfl, hR⟩; have HR := Lib.hid hR; clear hR)
  first | go_end0 | refine bodyPost_ret (results_none rfl _ _ _) rfl ?_
  exact ⟨rfl, HR.out⟩
set_option maxRecDepth 1000000 in
set_option maxHeartbeats 8000000 in
theorem exec_m5_no (g : Nat) (P : World → Prop) (c : Int) (w : World) (c0 : w.cell? ⟨g, 0, none⟩ = some (.int .i64 152)) (hb : Calls Try.prog 45 #[.pointer (some ⟨g, 0, none⟩)] w fun e w' => e = .panicked [{ v := .iface 65 (.int .i64 c), recovered := false }] ∧ P w') : Calls Try.prog 31 #[.pointer (some ⟨g, 0, none⟩)] w fun e w' => e = .panicked [{ v := .iface 65 (.int .i64 c), recovered := false }] ∧ P w' := by
  have HB := Lib.hid hb
  clear hb
  go_enter Try.func31, Try.ntmps31
  go_wp2_with (go_at_call 45; refine HB.out.mono ?_; rintro e w3 ⟨rfl, hR⟩; have HR := Lib.hid hR; clear hR)
  exact ⟨rfl, rfl, HR.out⟩
set_option maxRecDepth 1000000 in
set_option maxHeartbeats 8000000 in
theorem exec_i (g : Nat) (op : Int) (lo : 145 ≤ op) (hi : op ≤ 151) (P : World → Prop) (w : World) (c0 : w.cell? ⟨g, 0, none⟩ = some (.int .i64 op)) (hb : Calls Try.prog 46 #[.pointer (some ⟨g, 0, none⟩)] w fun e w' => e = .returned (.tuple #[]) ∧ P w') : Calls Try.prog 31 #[.pointer (some ⟨g, 0, none⟩)] w fun e w' => e = .returned (.tuple #[]) ∧ P w' := by
  have klt16 : ¬ op < 16 := by omega
  have kge69 : op ≥ 69 := by omega
  have kle71 : ¬ op ≤ 71 := by omega
  have keq134 : (op == 134) = false := by simp; omega
  have keq135 : (op == 135) = false := by simp; omega
  have kge136 : op ≥ 136 := by omega
  have kle143 : ¬ op ≤ 143 := by omega
  have keq65 : (op == 65) = false := by simp; omega
  have kge64 : op ≥ 64 := by omega
  have kle67 : ¬ op ≤ 67 := by omega
  have keq80 : (op == 80) = false := by simp; omega
  have keq144 : (op == 144) = false := by simp; omega
  have keq152 : (op == 152) = false := by simp; omega
  have kge145 : op ≥ 145 := by omega
  have kle151 : op ≤ 151 := by omega
  have kge208 : ¬ op ≥ 208 := by omega
  have HB := Lib.hid hb
  clear hb
  go_enter Try.func31, Try.ntmps31
  go_wp2_with (go_at_call 46; refine HB.out.mono ?_; rintro e w3 ⟨rfl, hR⟩; have HR := Lib.hid hR; clear hR)
  first | go_end0 | refine bodyPost_ret (results_none rfl _ _ _) rfl ?_
  exact ⟨rfl, HR.out⟩
set_option maxRecDepth 1000000 in
set_option maxHeartbeats 8000000 in
theorem exec_i_no (g : Nat) (op : Int) (lo : 145 ≤ op) (hi : op ≤ 151) (P : World → Prop) (c : Int) (w : World) (c0 : w.cell? ⟨g, 0, none⟩ = some (.int .i64 op)) (hb : Calls Try.prog 46 #[.pointer (some ⟨g, 0, none⟩)] w fun e w' => e = .panicked [{ v := .iface 65 (.int .i64 c), recovered := false }] ∧ P w') : Calls Try.prog 31 #[.pointer (some ⟨g, 0, none⟩)] w fun e w' => e = .panicked [{ v := .iface 65 (.int .i64 c), recovered := false }] ∧ P w' := by
  have klt16 : ¬ op < 16 := by omega
  have kge69 : op ≥ 69 := by omega
  have kle71 : ¬ op ≤ 71 := by omega
  have keq134 : (op == 134) = false := by simp; omega
  have keq135 : (op == 135) = false := by simp; omega
  have kge136 : op ≥ 136 := by omega
  have kle143 : ¬ op ≤ 143 := by omega
  have keq65 : (op == 65) = false := by simp; omega
  have kge64 : op ≥ 64 := by omega
  have kle67 : ¬ op ≤ 67 := by omega
  have keq80 : (op == 80) = false := by simp; omega
  have keq144 : (op == 144) = false := by simp; omega
  have keq152 : (op == 152) = false := by simp; omega
  have kge145 : op ≥ 145 := by omega
  have kle151 : op ≤ 151 := by omega
  have kge208 : ¬ op ≥ 208 := by omega
  have HB := Lib.hid hb
  clear hb
  go_enter Try.func31, Try.ntmps31
  go_wp2_with (go_at_call 46; refine HB.out.mono ?_; rintro e w3 ⟨rfl, hR⟩; have HR := Lib.hid hR; clear hR)
  exact ⟨rfl, rfl, HR.out⟩
set_option maxRecDepth 1000000 in
set_option maxHeartbeats 8000000 in
theorem exec_l (g : Nat) (op : Int) (lo : 208 ≤ op) (hi : op ≤ 255) (P : World → Prop) (w : World) (c0 : w.cell? ⟨g, 0, none⟩ = some (.int .i64 op)) (hb : Calls Try.prog 47 #[.pointer (some ⟨g, 0, none⟩)] w fun e w' => e = .returned (.tuple #[]) ∧ P w') : Calls Try.prog 31 #[.pointer (some ⟨g, 0, none⟩)] w fun e w' => e = .returned (.tuple #[]) ∧ P w' := by
  have klt16 : ¬ op < 16 := by omega
  have kge69 : op ≥ 69 := by omega
  have kle71 : ¬ op ≤ 71 := by omega
  have keq134 : (op == 134) = false := by simp; omega
  have keq135 : (op == 135) = false := by simp; omega
  have kge136 : op ≥ 136 := by omega
  have kle143 : ¬ op ≤ 143 := by omega
  have keq65 : (op == 65) = false := by simp; omega
  have kge64 : op ≥ 64 := by omega
  have kle67 : ¬ op ≤ 67 := by omega
  have keq80 : (op == 80) = false := by simp; omega
  have keq144 : (op == 144) = false := by simp; omega
  have keq152 : (op == 152) = false := by simp; omega
  have kge145 : op ≥ 145 := by omega
  have kle151 : ¬ op ≤ 151 := by omega
  have kge208 : op ≥ 208 := by omega
  have HB := Lib.hid hb
  clear hb
  go_enter Try.func31, Try.ntmps31
  go_wp2_with (go_at_call 47; refine HB.out.mono ?_; rintro e w3 ⟨rfl, hR⟩; have HR := Lib.hid hR; clear hR)
  first | go_end0 | refine bodyPost_ret (results_none rfl _ _ _) rfl ?_
  exact ⟨rfl, HR.out⟩
set_option maxRecDepth 1000000 in
set_option maxHeartbeats 8000000 in
theorem exec_l_no (g : Nat) (op : Int) (lo : 208 ≤ op) (hi : op ≤ 255) (P : World → Prop) (c : Int) (w : World) (c0 : w.cell? ⟨g, 0, none⟩ = some (.int .i64 op)) (hb : Calls Try.prog 47 #[.pointer (some ⟨g, 0, none⟩)] w fun e w' => e = .panicked [{ v := .iface 65 (.int .i64 c), recovered := false }] ∧ P w') : Calls Try.prog 31 #[.pointer (some ⟨g, 0, none⟩)] w fun e w' => e = .panicked [{ v := .iface 65 (.int .i64 c), recovered := false }] ∧ P w' := by
  have klt16 : ¬ op < 16 := by omega
  have kge69 : op ≥ 69 := by omega
  have kle71 : ¬ op ≤ 71 := by omega
  have keq134 : (op == 134) = false := by simp; omega
  have keq135 : (op == 135) = false := by simp; omega
  have kge136 : op ≥ 136 := by omega
  have kle143 : ¬ op ≤ 143 := by omega
  have keq65 : (op == 65) = false := by simp; omega
  have kge64 : op ≥ 64 := by omega
  have kle67 : ¬ op ≤ 67 := by omega
  have keq80 : (op == 80) = false := by simp; omega
  have keq144 : (op == 144) = false := by simp; omega
  have keq152 : (op == 152) = false := by simp; omega
  have kge145 : op ≥ 145 := by omega
  have kle151 : ¬ op ≤ 151 := by omega
  have kge208 : op ≥ 208 := by omega
  have HB := Lib.hid hb
  clear hb
  go_enter Try.func31, Try.ntmps31
  go_wp2_with (go_at_call 47; refine HB.out.mono ?_; rintro e w3 ⟨rfl, hR⟩; have HR := Lib.hid hR; clear hR)
  exact ⟨rfl, rfl, HR.out⟩
set_option maxRecDepth 1000000 in
set_option maxHeartbeats 8000000 in
theorem exec_a1 (g : Nat) (op : Int) (lo : 16 ≤ op) (hi : op ≤ 31) (P : World → Prop) (w : World) (c0 : w.cell? ⟨g, 0, none⟩ = some (.int .i64 op)) (hb : Calls Try.prog 48 #[.pointer (some ⟨g, 0, none⟩)] w fun e w' => e = .returned (.tuple #[]) ∧ P w') : Calls Try.prog 31 #[.pointer (some ⟨g, 0, none⟩)] w fun e w' => e = .returned (.tuple #[]) ∧ P w' := by
  have klt16 : ¬ op < 16 := by omega
  have kge69 : ¬ op ≥ 69 := by omega
  have kle71 : op ≤ 71 := by omega
  have keq134 : (op == 134) = false := by simp; omega
  have keq135 : (op == 135) = false := by simp; omega
  have kge136 : ¬ op ≥ 136 := by omega
  have kle143 : op ≤ 143 := by omega
  have keq65 : (op == 65) = false := by simp; omega
  have kge64 : ¬ op ≥ 64 := by omega
  have kle67 : op ≤ 67 := by omega
  have keq80 : (op == 80) = false := by simp; omega
  have keq144 : (op == 144) = false := by simp; omega
  have keq152 : (op == 152) = false := by simp; omega
  have kge145 : ¬ op ≥ 145 := by omega
  have kle151 : op ≤ 151 := by omega
  have kge208 : ¬ op ≥ 208 := by omega
  have HB := Lib.hid hb
  clear hb
  go_enter Try.func31, Try.ntmps31
  go_wp2_with (go_at_call 48; refine HB.out.mono ?_; rintro e w3 ⟨rfl, hR⟩; have HR := Lib.hid hR; clear hR)
  first | go_end0 | refine bodyPost_ret (results_none rfl _ _ _) rfl ?_
  exact ⟨rfl, HR.out⟩
set_option maxRecDepth 1000000 in
set_option maxHeartbeats 8000000 in
theorem exec_a1_no (g : Nat) (op : Int) (lo : 16 ≤ op) (hi : op ≤ 31) (P : World → Prop) (c : Int) (w : World) (c0 : w.cell? ⟨g, 0, none⟩ = some (.int .i64 op)) (hb : Calls Try.prog 48 #[.pointer (some ⟨g, 0, none⟩)] w fun e w' => e = .panicked [{ v := .iface 65 (.int .i64 c), recovered := false }] ∧ P w') : Calls Try.prog 31 #[.pointer (some ⟨g, 0, none⟩)] w fun e w' => e = .panicked [{ v := .iface 65 (.int .i64 c), recovered := false }] ∧ P w' := by
  have klt16 : ¬ op < 16 := by omega
  have kge69 : ¬ op ≥ 69 := by omega
  have kle71 : op ≤ 71 := by omega
  have keq134 : (op == 134) = false := by simp; omega
  have keq135 : (op == 135) = false := by simp; omega
  have kge136 : ¬ op ≥ 136 := by omega
  have kle143 : op ≤ 143 := by omega
  have keq65 : (op == 65) = false := by simp; omega
  have kge64 : ¬ op ≥ 64 := by omega
  have kle67 : op ≤ 67 := by omega
  have keq80 : (op == 80) = false := by simp; omega
  have keq144 : (op == 144) = false := by simp; omega
  have keq152 : (op == 152) = false := by simp; omega
  have kge145 : ¬ op ≥ 145 := by omega
  have kle151 : op ≤ 151 := by omega
  have kge208 : ¬ op ≥ 208 := by omega
  have HB := Lib.hid hb
  clear hb
  go_enter Try.func31, Try.ntmps31
  go_wp2_with (go_at_call 48; refine HB.out.mono ?_; rintro e w3 ⟨rfl, hR⟩; have HR := Lib.hid hR; clear hR)
  exact ⟨rfl, rfl, HR.out⟩
set_option maxRecDepth 1000000 in
set_option maxHeartbeats 8000000 in
theorem exec_a2 (g : Nat) (op : Int) (lo : 72 ≤ op) (hi : op ≤ 76) (P : World → Prop) (w : World) (c0 : w.cell? ⟨g, 0, none⟩ = some (.int .i64 op)) (hb : Calls Try.prog 48 #[.pointer (some ⟨g, 0, none⟩)] w fun e w' => e = .returned (.tuple #[]) ∧ P w') : Calls Try.prog 31 #[.pointer (some ⟨g, 0, none⟩)] w fun e w' => e = .returned (.tuple #[]) ∧ P w' := by
  have klt16 : ¬ op < 16 := by omega
  have kge69 : op ≥ 69 := by omega
  have kle71 : ¬ op ≤ 71 := by omega
  have keq134 : (op == 134) = false := by simp; omega
  have keq135 : (op == 135) = false := by simp; omega
  have kge136 : ¬ op ≥ 136 := by omega
  have kle143 : op ≤ 143 := by omega
  have keq65 : (op == 65) = false := by simp; omega
  have kge64 : op ≥ 64 := by omega
  have kle67 : ¬ op ≤ 67 := by omega
  have keq80 : (op == 80) = false := by simp; omega
  have keq144 : (op == 144) = false := by simp; omega
  have keq152 : (op == 152) = false := by simp; omega
  have kge145 : ¬ op ≥ 145 := by omega
  have kle151 : op ≤ 151 := by omega
  have kge208 : ¬ op ≥ 208 := by omega
  have HB := Lib.hid hb
  clear hb
  go_enter Try.func31, Try.ntmps31
  go_wp2_with (go_at_call 48; refine HB.out.mono ?_; rintro e w3 ⟨rfl, hR⟩; have HR := Lib.hid hR; clear hR)
  first | go_end0 | refine bodyPost_ret (results_none rfl _ _ _) rfl ?_
  exact ⟨rfl, HR.out⟩
set_option maxRecDepth 1000000 in
set_option maxHeartbeats 8000000 in
theorem exec_a2_no (g : Nat) (op : Int) (lo : 72 ≤ op) (hi : op ≤ 76) (P : World → Prop) (c : Int) (w : World) (c0 : w.cell? ⟨g, 0, none⟩ = some (.int .i64 op)) (hb : Calls Try.prog 48 #[.pointer (some ⟨g, 0, none⟩)] w fun e w' => e = .panicked [{ v := .iface 65 (.int .i64 c), recovered := false }] ∧ P w') : Calls Try.prog 31 #[.pointer (some ⟨g, 0, none⟩)] w fun e w' => e = .panicked [{ v := .iface 65 (.int .i64 c), recovered := false }] ∧ P w' := by
  have klt16 : ¬ op < 16 := by omega
  have kge69 : op ≥ 69 := by omega
  have kle71 : ¬ op ≤ 71 := by omega
  have keq134 : (op == 134) = false := by simp; omega
  have keq135 : (op == 135) = false := by simp; omega
  have kge136 : ¬ op ≥ 136 := by omega
  have kle143 : op ≤ 143 := by omega
  have keq65 : (op == 65) = false := by simp; omega
  have kge64 : op ≥ 64 := by omega
  have kle67 : ¬ op ≤ 67 := by omega
  have keq80 : (op == 80) = false := by simp; omega
  have keq144 : (op == 144) = false := by simp; omega
  have keq152 : (op == 152) = false := by simp; omega
  have kge145 : ¬ op ≥ 145 := by omega
  have kle151 : op ≤ 151 := by omega
  have kge208 : ¬ op ≥ 208 := by omega
  have HB := Lib.hid hb
  clear hb
  go_enter Try.func31, Try.ntmps31
  go_wp2_with (go_at_call 48; refine HB.out.mono ?_; rintro e w3 ⟨rfl, hR⟩; have HR := Lib.hid hR; clear hR)
  exact ⟨rfl, rfl, HR.out⟩
set_option maxRecDepth 1000000 in
set_option maxHeartbeats 8000000 in
theorem exec_a3 (g : Nat) (op : Int) (lo : 84 ≤ op) (hi : op ≤ 95) (P : World → Prop) (w : World) (c0 : w.cell? ⟨g, 0, none⟩ = some (.int .i64 op)) (hb : Calls Try.prog 48 #[.pointer (some ⟨g, 0, none⟩)] w fun e w' => e = .returned (.tuple #[]) ∧ P w') : Calls Try.prog 31 #[.pointer (some ⟨g, 0, none⟩)] w fun e w' => e = .returned (.tuple #[]) ∧ P w' := by
  have klt16 : ¬ op < 16 := by omega
  have kge69 : op ≥ 69 := by omega
  have kle71 : ¬ op ≤ 71 := by omega
  have keq134 : (op == 134) = false := by simp; omega
  have keq135 : (op == 135) = false := by simp; omega
  have kge136 : ¬ op ≥ 136 := by omega
  have kle143 : op ≤ 143 := by omega
  have keq65 : (op == 65) = false := by simp; omega
  have kge64 : op ≥ 64 := by omega
  have kle67 : ¬ op ≤ 67 := by omega
  have keq80 : (op == 80) = false := by simp; omega
  have keq144 : (op == 144) = false := by simp; omega
  have keq152 : (op == 152) = false := by simp; omega
  have kge145 : ¬ op ≥ 145 := by omega
  have kle151 : op ≤ 151 := by omega
  have kge208 : ¬ op ≥ 208 := by omega
  have HB := Lib.hid hb
  clear hb
  go_enter Try.func31, Try.ntmps31
  go_wp2_with (go_at_call 48; refine HB.out.mono ?_; rintro e w3 ⟨rfl, hR⟩; have HR := Lib.hid hR; clear hR)
  first | go_end0 | refine bodyPost_ret (results_none rfl _ _ _) rfl ?_
  exact ⟨rfl, HR.out⟩
set_option maxRecDepth 1000000 in
set_option maxHeartbeats 8000000 in
theorem exec_a3_no (g : Nat) (op : Int) (lo : 84 ≤ op) (hi : op ≤ 95) (P : World → Prop) (c : Int) (w : World) (c0 : w.cell? ⟨g, 0, none⟩ = some (.int .i64 op)) (hb : Calls Try.prog 48 #[.pointer (some ⟨g, 0, none⟩)] w fun e w' => e = .panicked [{ v := .iface 65 (.int .i64 c), recovered := false }] ∧ P w') : Calls Try.prog 31 #[.pointer (some ⟨g, 0, none⟩)] w fun e w' => e = .panicked [{ v := .iface 65 (.int .i64 c), recovered := false }] ∧ P w' := by
  have klt16 : ¬ op < 16 := by omega
  have kge69 : op ≥ 69 := by omega
  have kle71 : ¬ op ≤ 71 := by omega
  have keq134 : (op == 134) = false := by simp; omega
  have keq135 : (op == 135) = false := by simp; omega
  have kge136 : ¬ op ≥ 136 := by omega
  have kle143 : op ≤ 143 := by omega
  have keq65 : (op == 65) = false := by simp; omega
  have kge64 : op ≥ 64 := by omega
  have kle67 : ¬ op ≤ 67 := by omega
  have keq80 : (op == 80) = false := by simp; omega
  have keq144 : (op == 144) = false := by simp; omega
  have keq152 : (op == 152) = false := by simp; omega
  have kge145 : ¬ op ≥ 145 := by omega
  have kle151 : op ≤ 151 := by omega
  have kge208 : ¬ op ≥ 208 := by omega
  have HB := Lib.hid hb
  clear hb
  go_enter Try.func31, Try.ntmps31
  go_wp2_with (go_at_call 48; refine HB.out.mono ?_; rintro e w3 ⟨rfl, hR⟩; have HR := Lib.hid hR; clear hR)
  exact ⟨rfl, rfl, HR.out⟩
set_option maxRecDepth 1000000 in
set_option maxHeartbeats 8000000 in
theorem exec_la (g n : Nat) (F : Foot) (is os rs : List Int) (ps : List Value) (ov : Bool) (bs ks : List Int) (a : Int) (w : World) (h : MS w g F is os rs ps ov bs ks) (h0 : is.getD 0 0 = 65) (hn : is.getD 2 0 = (n : Int)) (hn16 : n < 16) (hsec : ∀ W, MS W g F is os rs ps ov bs ks → Calls Try.prog 44 #[.pointer (some ⟨g, 0, none⟩)] W fun e w' => e = .returned (.int .i64 a) ∧ Ch W w' []) (ha0 : 0 ≤ a) (ha1 : a ≤ 16777215) : Calls Try.prog 31 #[.pointer (some ⟨g, 0, none⟩)] w fun e w' => e = .returned (.tuple #[]) ∧ MS w' g F is os (rs.set n a) ps ov bs ks ∧ Ch w w' [g] := by
  have c0 := h.m.ci (c := 0) (by omega)
  rw [h0] at c0
  have s2 : w.cell? ⟨g, 2, none⟩ = some (.int .i64 (n : Int)) := by have hq' := h.m.ci (c := 2) (by omega); rw [hn] at hq'; exact hq'
  have HM := Lib.hid (h.drewN 1)
  have D0 := Lib.hid ((Ch.refl w [g]).drewN 1)
  have SC := Lib.hid hsec
  have HN := Lib.hid hn
  have i0 : (n : Int) < 16 := by omega
  have i1 : (0 : Int) ≤ (n : Int) := by omega
  have wa : IntKind.u32.wrap a = a := by rw [IntKind.wrap_u32]; omega
  clear h h0 hn hsec
  go_enter Try.func31, Try.ntmps31
  go_upto_region 10 with fail
  go_region_held3 (fun w' => w'.cell? ⟨g, 2, none⟩ = some (.int .i64 (n : Int))) (first | exact s2 | exact t2 | (go_simp; done) | (simp; exact t2)) ((go_at_call 44; refine (SC.out _ HM.out).mono ?_; rintro e w1 ⟨rfl, hcs⟩; have M1 := Lib.hid (HM.out.ch hcs); have C1 := Lib.hid (D0.out.trans (hcs.mono (by simp))); have t2 : w1.cell? ⟨g, 2, none⟩ = some (.int .i64 (n : Int)) := (by have hq := M1.out.m.ci (c := 2) (by omega); rw [HN.out] at hq; exact hq); have c3 := M1.out.m.cr hn16; have f3 := M1.out.m.free (28 + n); clear hcs))
  go_wp2
  first | go_end0 | refine bodyPost_ret (results_none rfl _ _ _) rfl ?_
  exact ⟨rfl, M1.out.setr hn16 _, C1.out.setCell (by simp) _⟩
end Go.Proofs.Ythjdjbipfdigeaa

namespace Go.Proofs.Ythjdjbipfdigeaa
open Go.RowKit
set_option maxRecDepth 100000
set_option linter.unusedVariables false
set_option linter.unusedSimpArgs false
/-- TR, byte by byte -/
def trS (bs xs : List Int) (a b : Int) : Nat → List Int
  | 0 => xs
  | k + 1 => (trS bs xs a b k).set k (if a ≤ b + xs.getD k 0 ∧ b + xs.getD k 0 < a + (k : Int) then (trS bs xs a b k).getD (b + xs.getD k 0 - a).toNat 0 else (sGet bs (b + xs.getD k 0) 1).getD 0 0)
def trE (bs ks xs : List Int) (key b : Int) : Nat → Int
  | 0 => 0
  | k + 1 => if trE bs ks xs key b k = 0 then sCode (alF key) bs.length ks (b + xs.getD k 0) 1 else trE bs ks xs key b k
theorem trS_len (bs xs : List Int) (a b : Int) : ∀ k, (trS bs xs a b k).length = xs.length
  | 0 => rfl
  | k + 1 => by simp only [trS, List.length_set, trS_len bs xs a b k]
theorem trS_far (bs xs : List Int) (a b : Int) : ∀ k j, k ≤ j → (trS bs xs a b k).getD j 0 = xs.getD j 0
  | 0, _, _ => rfl
  | k + 1, j, h => by simp only [trS]; rw [getD_set_other _ _ _ _ (by omega)]; exact trS_far bs xs a b k j (by omega)
theorem trE_stay (bs ks xs : List Int) (key b : Int) {k : Nat} (h : trE bs ks xs key b k ≠ 0) : ∀ j, trE bs ks xs key b (k + j) = trE bs ks xs key b k
  | 0 => rfl
  | j + 1 => by
    have hj := trE_stay bs ks xs key b h j
    rw [show k + (j + 1) = (k + j) + 1 by omega]
    simp only [trE]
    rw [if_neg (by rw [hj]; exact h), hj]
set_option maxRecDepth 1000000 in
set_option maxHeartbeats 8000000 in
theorem tr_no (g N : Nat) (F : Foot) (is os rs : List Int) (ps : List Value) (ov : Bool) (bs ks : List Int) (key a b : Int) (w : World) (h : MS w g F is os rs ps ov bs ks) (hl : is.getD 9 0 + 1 = (N : Int)) (hN : N ≤ 256) (hkey : ps.getD 1 undef = .int .i64 key) (hfir : ∀ W, MS W g F is os rs ps ov bs ks → Calls Try.prog 71 #[.pointer (some ⟨g, 0, none⟩)] W fun e w' => e = .returned (.int .i64 a) ∧ Ch W w' []) (hsec : ∀ W, MS W g F is os rs ps ov bs ks → Calls Try.prog 44 #[.pointer (some ⟨g, 0, none⟩)] W fun e w' => e = .returned (.int .i64 b) ∧ Ch W w' []) (ha0 : 0 ≤ a) (ha1 : a ≤ 16777215) (hb0 : 0 ≤ b) (hb1 : b ≤ 16777215) (c : Int) (hc : sCode (alF key) bs.length ks a N = c) (hc0 : c ≠ 0) : Calls Try.prog 82 #[.pointer (some ⟨g, 0, none⟩)] w fun e w' => e = .panicked [{ v := .iface 65 (.int .i64 c), recovered := false }] ∧ MS w' g F is os rs ps ov bs ks ∧ Ch w w' [] := by
  have H9 := Lib.hid h
  have s9 : w.cell? ⟨g, 9, none⟩ = some (.int .i64 (is.getD 9 0)) := h.m.ci (c := 9) (by omega)
  obtain ⟨l1, hl1⟩ : ∃ l, is.getD 9 0 = l := ⟨_, rfl⟩
  rw [hl1] at hl s9
  have HM := Lib.hid h
  have HL := Lib.hid hl1
  have HK := Lib.hid hkey
  have FC := Lib.hid hfir
  have SC := Lib.hid hsec
  have D0 := Lib.hid (Ch.refl w ([] : List Nat))
  have wl : IntKind.i64.wrap (l1 + 1) = (N : Int) := by rw [wrap_i64_id (by omega) (by omega)]; exact hl
  have HC := Lib.hid hc
  have HC0 := Lib.hid hc0
  clear h hkey hfir hsec hl1 hc hc0 s9
  go_enter Try.func82, Try.ntmps82
  go_wp2_with (go_at_call 71; refine (FC.out _ HM.out).mono ?_; rintro e w1 ⟨rfl, hcs⟩; have M1 := Lib.hid (HM.out.ch hcs); have C1 := Lib.hid (D0.out.trans hcs); clear hcs)
  refine (SC.out _ M1.out).mono ?_
  rintro e w2 ⟨rfl, hcs⟩
  have M2 := Lib.hid (M1.out.ch hcs)
  have C2 := Lib.hid (C1.out.trans hcs)
  have t9 : w2.cell? ⟨g, 9, none⟩ = some (.int .i64 l1) := by have hq := M2.out.m.ci (c := 9) (by omega); rw [HL.out] at hq; exact hq
  clear hcs
  go_wp2_with (go_at_call 68; refine (fetch_no g F is os rs ps ov bs ks a (N : Int) key _ M2.out HK.out c HC.out HC0.out).mono ?_; rintro e w9 ⟨rfl, hM, hCh⟩; have M9 := Lib.hid hM; have C9 := Lib.hid (C2.out.trans hCh); clear hM hCh)
  exact ⟨rfl, rfl, M9.out, C9.out⟩
set_option maxRecDepth 1000000 in
set_option maxHeartbeats 8000000 in
theorem tr_m (g N : Nat) (F : Foot) (is os rs : List Int) (ps : List Value) (ov : Bool) (bs ks : List Int) (key a b : Int) (w : World) (h : MS w g F is os rs ps ov bs ks) (hl : is.getD 9 0 + 1 = (N : Int)) (hN : N ≤ 256) (hkey : ps.getD 1 undef = .int .i64 key) (hfir : ∀ W, MS W g F is os rs ps ov bs ks → Calls Try.prog 71 #[.pointer (some ⟨g, 0, none⟩)] W fun e w' => e = .returned (.int .i64 a) ∧ Ch W w' []) (hsec : ∀ W, MS W g F is os rs ps ov bs ks → Calls Try.prog 44 #[.pointer (some ⟨g, 0, none⟩)] W fun e w' => e = .returned (.int .i64 b) ∧ Ch W w' []) (ha0 : 0 ≤ a) (ha1 : a ≤ 16777215) (hb0 : 0 ≤ b) (hb1 : b ≤ 16777215) (hN1 : 1 ≤ N) (hf1 : sCode (alF key) bs.length ks a N = 0) (c : Int) (hc : (if trE bs ks (sGet bs a N) key b N = 0 then sCode (alP key) bs.length ks a N else trE bs ks (sGet bs a N) key b N) = c) : Calls Try.prog 82 #[.pointer (some ⟨g, 0, none⟩)] w fun e w' => (c = 0 → e = .returned (.tuple #[]) ∧ MS w' g F is os rs ps ov (sPut (alP key) bs ks a (trS bs (sGet bs a N) a b N)) ks) ∧ (c ≠ 0 → e = .panicked [{ v := .iface 65 (.int .i64 c), recovered := false }] ∧ MS w' g F is os rs ps ov bs ks) ∧ Ch w w' [g, F.gb] := by
  have s9 : w.cell? ⟨g, 9, none⟩ = some (.int .i64 (is.getD 9 0)) := h.m.ci (c := 9) (by omega)
  obtain ⟨l1, hl1⟩ : ∃ l, is.getD 9 0 = l := ⟨_, rfl⟩
  rw [hl1] at hl s9
  have HM := Lib.hid h
  have HL := Lib.hid hl1
  have HK := Lib.hid hkey
  have FC := Lib.hid hfir
  have SC := Lib.hid hsec
  have D0 := Lib.hid (Ch.refl w ([] : List Nat))
  have wl : IntKind.i64.wrap (l1 + 1) = (N : Int) := by rw [wrap_i64_id (by omega) (by omega)]; exact hl
  have HF1 := Lib.hid hf1
  have lx := sGet_leng hf1
  obtain ⟨xs, hxs⟩ : ∃ x, sGet bs a N = x := ⟨_, rfl⟩
  rw [hxs] at lx hc ⊢
  have HXS := Lib.hid hxs
  have HC := Lib.hid hc
  obtain ⟨R, hR⟩ : ∃ R : Ending → World → Prop, R = fun e w' => (c = 0 → e = .returned (.tuple #[]) ∧ MS w' g F is os rs ps ov (sPut (alP key) bs ks a (trS bs xs a b N)) ks) ∧ (c ≠ 0 → e = .panicked [{ v := .iface 65 (.int .i64 c), recovered := false }] ∧ MS w' g F is os rs ps ov bs ks) ∧ Ch w w' [g, F.gb] := ⟨_, rfl⟩
  suffices hs : Calls Try.prog 82 #[.pointer (some ⟨g, 0, none⟩)] w R by rw [hR] at hs; exact hs
  have HR := Lib.hid hR
  clear h hkey hfir hsec hl1 hf1 hxs hc hR s9
  go_enter Try.func82, Try.ntmps82
  go_wp2_with (go_at_call 71; refine (FC.out _ HM.out).mono ?_; rintro e w1 ⟨rfl, hcs⟩; have M1 := Lib.hid (HM.out.ch hcs); have C1 := Lib.hid (D0.out.trans hcs); clear hcs)
  refine (SC.out _ M1.out).mono ?_
  rintro e w2 ⟨rfl, hcs⟩
  have M2 := Lib.hid (M1.out.ch hcs)
  have C2 := Lib.hid (C1.out.trans hcs)
  have t9 : w2.cell? ⟨g, 9, none⟩ = some (.int .i64 l1) := by have hq := M2.out.m.ci (c := 9) (by omega); rw [HL.out] at hq; exact hq
  clear hcs
  go_wp2_with fail
  refine (fetch_m g F is os rs ps ov bs ks a (N : Int) key _ M2.out HK.out HF1.out).mono ?_
  rintro e w3 ⟨A3, m3, c3, rfl, hO, hM, hCh⟩
  rw [HXS.out] at hO
  have M3 := Lib.hid hM
  have C3 := Lib.hid (C2.out.trans hCh)
  have hm3 : m3 = N := by have := hO.byt.1; omega
  subst hm3
  obtain ⟨gx, cx, hv, hgx, hlx, -, -⟩ := hO.pos (by omega)
  injection hv with hv1 hv2 hv3
  subst hv1 hv3
  have RX3 := Lib.hid hO.ro
  have hgm : g ≠ gx ∧ w.heap.size ≤ gx := by
    have h1 := M2.out.m.lt
    have h4 := C2.out.size
    omega
  have HGX : Hid (gx ≠ F.g ∧ gx ≠ F.gb ∧ gx ≠ F.gk) := Lib.hid (by have := M2.out.st.ltg; have := M2.out.st.ltb; have := M2.out.st.ltk; omega)
  obtain ⟨hg1, hg4⟩ := hgm
  have G1 := Lib.hid hg1
  clear hO hM hCh hgx hlx hg1 M1 M2 C1 C2 HM D0 t9
  go_upto_region 3 with fail
  go_loopw [24] (fun x W => ∃ k : Nat, k ≤ m3 ∧ x = .int .i64 (k : Int) ∧ trE bs ks xs key b k = 0 ∧ MS W g F is os rs ps ov bs ks ∧ Ro W gx c3 (trS bs xs a b k) ∧ Below w.heap.size w W) (fun x _ => m3 - (intOf x).toNat)
  case atStart => exact ⟨0, by omega, rfl, rfl, M3.out, RX3.out, C3.out.below (Nat.le_refl _) (by simp)⟩
  case round =>
    obtain ⟨k, hk, rfl, het, hmw, hrx, hbw⟩ := hrel
    have MW := Lib.hid hmw
    have RX := Lib.hid hrx
    have BW := Lib.hid hbw
    have hxl : (trS bs xs a b k).length = m3 := by rw [trS_len]; omega
    have HET := Lib.hid het
    clear hmw hrx hbw het
    by_cases hlt : k < m3
    · have i0 : (k : Int) < (m3 : Int) := by omega
      have i1 : (0 : Int) ≤ (k : Int) := by omega
      obtain ⟨x, hx⟩ : ∃ x, xs.getD k 0 = x := ⟨_, rfl⟩
      have x01 := RX.out.rangeD k
      have cxk := RX.out.cell (i := k) (by omega)
      rw [trS_far bs xs a b k k (by omega), hx] at cxk x01
      obtain ⟨x0, x1⟩ := x01
      obtain ⟨t, ht⟩ : ∃ t, b + x = t := ⟨_, rfl⟩
      have wx : IntKind.i64.wrap x = x := wrap_i64_id (by omega) (by omega)
      have wt : IntKind.i64.wrap (b + x) = t := by rw [wrap_i64_id (by omega) (by omega)]; exact ht
      have wk : IntKind.i64.wrap (a + (k : Int)) = a + (k : Int) := wrap_i64_id (by omega) (by omega)
      have t0 : 0 ≤ t := by omega
      have t1 : t ≤ 16777470 := by omega
      have fxk := RX.out.free k
      have EE := Lib.hid (show trE bs ks xs key b (k + 1) = sCode (alF key) bs.length ks t 1 from by simp only [trE]; rw [if_pos HET.out, hx, ht])
      have SS := Lib.hid (show trS bs xs a b (k + 1) = (trS bs xs a b k).set k (if a ≤ t ∧ t < a + (k : Int) then (trS bs xs a b k).getD (t - a).toNat 0 else (sGet bs t 1).getD 0 0) from by simp only [trS, hx, ht])
      clear hx
      by_cases hsc : sCode (alF key) bs.length ks t 1 = 0
      · have HSC := Lib.hid hsc
        have E0 := Lib.hid (EE.out.trans hsc)
        have hl1 := sGet_leng hsc
        obtain ⟨zs, hzs⟩ : ∃ zs, sGet bs t 1 = zs := ⟨_, rfl⟩
        rw [hzs] at hl1
        obtain ⟨y, hy⟩ : ∃ y, zs.getD 0 0 = y := ⟨_, rfl⟩
        have HZ := Lib.hid hzs
        have HY := Lib.hid hy
        have HL1 := Lib.hid hl1
        clear hsc hzs hy hl1
        have FET := Lib.hid (fun (W : World) (hM : MS W g F is os rs ps ov bs ks) => fetch_m g F is os rs ps ov bs ks t 1 key W hM HK.out HSC.out)
        by_cases hin : a ≤ t ∧ t < a + (k : Int)
        · obtain ⟨j, hj⟩ : ∃ j, (t - a).toNat = j := ⟨_, rfl⟩
          have e1 : t ≥ a := hin.1
          have e2 : t < a + (k : Int) := hin.2
          have hj2 : t - a = (j : Int) := by omega
          have wj : IntKind.i64.wrap (t - a) = (j : Int) := by rw [wrap_i64_id (by omega) (by omega)]; exact hj2
          have j0 : (j : Int) < (m3 : Int) := by omega
          have j1 : (0 : Int) ≤ (j : Int) := by omega
          obtain ⟨v, hv⟩ : ∃ v, (trS bs xs a b k).getD j 0 = v := ⟨_, rfl⟩
          have V01 := Lib.hid (RX.out.rangeD j)
          rw [hv] at V01
          have S1 := Lib.hid (show trS bs xs a b (k + 1) = (trS bs xs a b k).set k v from by rw [SS.out, if_pos hin, hj, hv])
          have HV := Lib.hid hv
          clear hin hj hj2 hv
          go_wp2_with (go_at_call 68; refine (FET.out _ MW.out).mono ?_; rintro e wb ⟨A, mm, cb, rfl, hO, hM, hCh⟩; rw [HZ.out] at hO; have M2 := Lib.hid hM; have RX2 := Lib.hid (RX.out.belowS (hCh.below (Nat.le_refl _) (by simp))); have B2 := Lib.hid (BW.out.trans (hCh.below BW.out.size (by simp))); have hml : mm = 1 := (by have := hO.byt.1; have := HL1.out; omega); subst hml; obtain ⟨gb, cb', hv, hgb, hgl, -, -⟩ := hO.pos (by omega); injection hv with hv1 hv2 hv3; subst hv1 hv3; have Y01 := Lib.hid (hO.byt.range 0); rw [HY.out] at Y01; obtain ⟨gb', ob', e', hcell⟩ := hO.byt.at_ (by omega); cases e'; have yc' := hcell 0 (by omega); rw [HY.out] at yc'; have yc : wb.cell? ⟨gb, 0, none⟩ = some (.int .u8 y) := (by exact yc'); have dxk := RX2.out.cell (i := k) (by omega); have gxk := RX2.out.free k; have dxj := RX2.out.cell (i := j) (by omega); rw [HV.out] at dxj; clear hO hM hCh hgb hgl hcell yc')
          have M6 := Lib.hid (M2.out.othr (p := ⟨gx, k, none⟩) (.int .u8 v) G1.out HGX.out)
          have RX6 := Lib.hid (RX2.out.set_ (i := k) V01.out)
          have B6 := Lib.hid (B2.out.setCell (p := ⟨gx, k, none⟩) hg4 (.int .u8 v))
          rw [← S1.out] at RX6
          exact ⟨⟨k + 1, by omega, rfl, E0.out, M6.out, RX6.out, B6.out⟩, by simp [intOf]; omega⟩
        · have S1 := Lib.hid (show trS bs xs a b (k + 1) = (trS bs xs a b k).set k y from by rw [SS.out, if_neg hin, HZ.out, HY.out])
          by_cases hge : t ≥ a
          · have e2 : ¬ t < a + (k : Int) := by omega
            clear hin
            go_wp2_with (go_at_call 68; refine (FET.out _ MW.out).mono ?_; rintro e wb ⟨A, mm, cb, rfl, hO, hM, hCh⟩; rw [HZ.out] at hO; have M2 := Lib.hid hM; have RX2 := Lib.hid (RX.out.belowS (hCh.below (Nat.le_refl _) (by simp))); have B2 := Lib.hid (BW.out.trans (hCh.below BW.out.size (by simp))); have hml : mm = 1 := (by have := hO.byt.1; have := HL1.out; omega); subst hml; obtain ⟨gb, cb', hv, hgb, hgl, -, -⟩ := hO.pos (by omega); injection hv with hv1 hv2 hv3; subst hv1 hv3; have Y01 := Lib.hid (hO.byt.range 0); rw [HY.out] at Y01; obtain ⟨gb', ob', e', hcell⟩ := hO.byt.at_ (by omega); cases e'; have yc' := hcell 0 (by omega); rw [HY.out] at yc'; have yc : wb.cell? ⟨gb, 0, none⟩ = some (.int .u8 y) := (by exact yc'); have dxk := RX2.out.cell (i := k) (by omega); have gxk := RX2.out.free k; clear hO hM hCh hgb hgl hcell yc')
            have M6 := Lib.hid (M2.out.othr (p := ⟨gx, k, none⟩) (.int .u8 y) G1.out HGX.out)
            have RX6 := Lib.hid (RX2.out.set_ (i := k) Y01.out)
            have B6 := Lib.hid (B2.out.setCell (p := ⟨gx, k, none⟩) hg4 (.int .u8 y))
            rw [← S1.out] at RX6
            exact ⟨⟨k + 1, by omega, rfl, E0.out, M6.out, RX6.out, B6.out⟩, by simp [intOf]; omega⟩
          · clear hin
            go_wp2_with (go_at_call 68; refine (FET.out _ MW.out).mono ?_; rintro e wb ⟨A, mm, cb, rfl, hO, hM, hCh⟩; rw [HZ.out] at hO; have M2 := Lib.hid hM; have RX2 := Lib.hid (RX.out.belowS (hCh.below (Nat.le_refl _) (by simp))); have B2 := Lib.hid (BW.out.trans (hCh.below BW.out.size (by simp))); have hml : mm = 1 := (by have := hO.byt.1; have := HL1.out; omega); subst hml; obtain ⟨gb, cb', hv, hgb, hgl, -, -⟩ := hO.pos (by omega); injection hv with hv1 hv2 hv3; subst hv1 hv3; have Y01 := Lib.hid (hO.byt.range 0); rw [HY.out] at Y01; obtain ⟨gb', ob', e', hcell⟩ := hO.byt.at_ (by omega); cases e'; have yc' := hcell 0 (by omega); rw [HY.out] at yc'; have yc : wb.cell? ⟨gb, 0, none⟩ = some (.int .u8 y) := (by exact yc'); have dxk := RX2.out.cell (i := k) (by omega); have gxk := RX2.out.free k; clear hO hM hCh hgb hgl hcell yc')
            have M6 := Lib.hid (M2.out.othr (p := ⟨gx, k, none⟩) (.int .u8 y) G1.out HGX.out)
            have RX6 := Lib.hid (RX2.out.set_ (i := k) Y01.out)
            have B6 := Lib.hid (B2.out.setCell (p := ⟨gx, k, none⟩) hg4 (.int .u8 y))
            rw [← S1.out] at RX6
            exact ⟨⟨k + 1, by omega, rfl, E0.out, M6.out, RX6.out, B6.out⟩, by simp [intOf]; omega⟩
      · have HSC := Lib.hid hsc
        have hcc : trE bs ks xs key b m3 = sCode (alF key) bs.length ks t 1 := by
          have := trE_stay bs ks xs key b (k := k + 1) (by rw [EE.out]; exact hsc) (m3 - (k + 1))
          rw [show k + 1 + (m3 - (k + 1)) = m3 by omega, EE.out] at this
          exact this
        have hc := HC.out
        rw [hcc, if_neg hsc] at hc
        have HC2 := Lib.hid hc
        have HC0 := Lib.hid (show c ≠ 0 from by rw [← hc]; exact hsc)
        clear hsc hcc hc
        go_wp2_with (go_at_call 68; refine (fetch_no g F is os rs ps ov bs ks t 1 key _ MW.out HK.out c HC2.out HC0.out).mono ?_; rintro e w9 ⟨rfl, hM, hCh⟩; have M9 := Lib.hid hM; have B9 := Lib.hid (BW.out.trans (hCh.below BW.out.size (by simp))); clear hM hCh)
        refine ⟨rfl, ?_⟩
        rw [HR.out]
        exact ⟨fun h => absurd h HC0.out, fun _ => ⟨rfl, M9.out⟩, chB B9.out⟩
    · obtain rfl : k = m3 := by omega
      have hI : ¬ (k : Int) < (k : Int) := by omega
      have YB := Lib.hid (RX.out.byt k hxl)
      have hc := HC.out
      rw [if_pos HET.out] at hc
      by_cases hc0 : c = 0
      · have HC' := Lib.hid (hc.trans hc0)
        have HC0 := Lib.hid hc0
        clear hc0 hc
        go_wp2_with (go_at_call 65; refine (put_m g F is os rs ps ov bs ks a key _ _ _ (trS bs xs a b k) _ MW.out HK.out YB.out (by omega) HC'.out).mono ?_; rintro e w5 ⟨rfl, hM5, hC5⟩; have M5 := Lib.hid hM5; have C5 := Lib.hid ((show Ch w wr [g, F.gb] from chB BW.out).trans (hC5.mono (by simp))); clear hM5 hC5)
        first | go_end0 | refine bodyPost_ret (results_none rfl _ _ _) rfl ?_
        rw [HR.out]
        exact ⟨fun _ => ⟨rfl, M5.out⟩, fun h => absurd HC0.out h, C5.out⟩
      · have HC0 := Lib.hid hc0
        have HC2 := Lib.hid hc
        clear hc0 hc
        go_wp2_with (go_at_call 65; refine (put_no g F is os rs ps ov bs ks a key _ _ _ (trS bs xs a b k) _ MW.out HK.out YB.out (by omega) c HC2.out HC0.out).mono ?_; rintro e w5 ⟨rfl, hM5, hC5⟩; have M5 := Lib.hid hM5; have C5 := Lib.hid ((show Ch w wr [g, F.gb] from chB BW.out).trans (hC5.mono (by simp))); clear hM5 hC5)
        refine ⟨rfl, ?_⟩
        rw [HR.out]
        exact ⟨fun h => absurd h HC0.out, fun _ => ⟨rfl, M5.out⟩, C5.out⟩
end Go.Proofs.Ythjdjbipfdigeaa

