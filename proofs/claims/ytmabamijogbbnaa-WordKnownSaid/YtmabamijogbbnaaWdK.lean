/- CONTRACTS of the fields in one form each, whatever the index: both sides, the program's and the reference's; lent and kept. Conditions: the slices read as bytes; lengths within the form's reach. -/
import Derived.Test.YtmabamijogbbnaaWdJ
namespace Go.Proofs.Ytmabamijogbbnaa
open Go.RowKit
set_option linter.unusedVariables false

def hval (len : Nat) (at_ : Int) (zs : List Int) : Int := if fitB len at_ 2 = true then hfv (zs.getD at_.toNat 0) (zs.getD (at_.toNat + 1) 0) else 0
def fval (len : Nat) (at_ : Int) (zs : List Int) : Int := if fitB len at_ 4 = true then flv (zs.getD at_.toNat 0) (zs.getD (at_.toNat + 1) 0) (zs.getD (at_.toNat + 2) 0) (zs.getD (at_.toNat + 3) 0) else 0
def plen (len : Nat) (at_ n : Int) : Nat := if fitB len at_ n = true then len else 0
def pbytes (len : Nat) (at_ n : Int) (zs ys : List Int) : List Int := if fitB len at_ n = true then splice zs at_.toNat ys else []

theorem flv_lo (x y z u : Int) (hx : 0 ≤ x) (hy : 0 ≤ y) (hz : 0 ≤ z) (hu : 0 ≤ u) : 0 ≤ flv x y z u := by unfold flv; omega

theorem half_any (A : Option Addr) (len cap : Nat) (at_ : Int) (zs : List Int) (w : World) (hl : (len : Int) ≤ 9223372036854775807) (hb : Byt w A len zs) (ha : -9223372036854775808 ≤ at_) (ha' : at_ ≤ 9223372036854775807) :
    Calls Try.prog 35 #[.slice A len cap, .int .i64 at_] w fun e w' => e = .returned (.tuple #[.int .u32 (hval len at_ zs), .bool (fitB len at_ 2)]) ∧ ∃ n, w' = w.drewN n := by
  cases hf : fitB len at_ 2
  · have e : hval len at_ zs = 0 := by simp [hval, hf]
    rw [e]
    exact half_no A len cap at_ w hl ha ha' hf
  · obtain ⟨h0, h1⟩ := fitB_yes hf
    obtain ⟨k, rfl⟩ := Int.eq_ofNat_of_zero_le h0
    have e : hval len k zs = hfv (zs.getD k 0) (zs.getD (k + 1) 0) := by simp [hval, hf]
    rw [e]
    obtain ⟨b, off, rfl, hc⟩ := hb.at_ (by omega)
    exact half_yes b off len cap k _ _ w hl (by omega) (hc k (by omega)) (hc (k + 1) (by omega)) (hb.range k).1 (hb.range k).2 (hb.range (k + 1)).1 (hb.range (k + 1)).2
theorem full_any (A : Option Addr) (len cap : Nat) (at_ : Int) (zs : List Int) (w : World) (hl : (len : Int) ≤ 9223372036854775807) (hb : Byt w A len zs) (ha : -9223372036854775808 ≤ at_) (ha' : at_ ≤ 9223372036854775807) :
    Calls Try.prog 37 #[.slice A len cap, .int .i64 at_] w fun e w' => e = .returned (.tuple #[.int .u32 (fval len at_ zs), .bool (fitB len at_ 4)]) ∧ ∃ n, w' = w.drewN n := by
  cases hf : fitB len at_ 4
  · have e : fval len at_ zs = 0 := by simp [fval, hf]
    rw [e]
    exact full_no A len cap at_ w hl ha ha' hf
  · obtain ⟨h0, h1⟩ := fitB_yes hf
    obtain ⟨k, rfl⟩ := Int.eq_ofNat_of_zero_le h0
    have e : fval len k zs = flv (zs.getD k 0) (zs.getD (k + 1) 0) (zs.getD (k + 2) 0) (zs.getD (k + 3) 0) := by simp [fval, hf]
    rw [e]
    obtain ⟨b, off, rfl, hc⟩ := hb.at_ (by omega)
    exact full_yes b off len cap k _ _ _ _ w hl (by omega) (hc k (by omega)) (hc (k + 1) (by omega)) (hc (k + 2) (by omega)) (hc (k + 3) (by omega)) (hb.range k).1 (hb.range k).2 (hb.range (k + 1)).1 (hb.range (k + 1)).2 (hb.range (k + 2)).1 (hb.range (k + 2)).2 (hb.range (k + 3)).1 (hb.range (k + 3)).2
theorem rhalf_any (A : Option Addr) (len cap : Nat) (at_ : Int) (zs : List Int) (w : World) (hl : (len : Int) ≤ 9223372036854775807) (hb : Byt w A len zs) (ha : -9223372036854775808 ≤ at_) (ha' : at_ ≤ 9223372036854775807) :
    Calls Try.prog 36 #[.slice A len cap, .int .i64 at_] w fun e w' => e = .returned (.tuple #[.int .u32 (hval len at_ zs), .bool (fitB len at_ 2)]) ∧ w = w' := by
  cases hf : fitB len at_ 2
  · have e : hval len at_ zs = 0 := by simp [hval, hf]
    rw [e]
    exact rhalf_no A len cap at_ w hl ha ha' hf
  · obtain ⟨h0, h1⟩ := fitB_yes hf
    obtain ⟨k, rfl⟩ := Int.eq_ofNat_of_zero_le h0
    have e : hval len k zs = hfv (zs.getD k 0) (zs.getD (k + 1) 0) := by simp [hval, hf]
    rw [e]
    exact rhalf_yes A len cap k zs w hl hb (by omega)
theorem rfull_any (A : Option Addr) (len cap : Nat) (at_ : Int) (zs : List Int) (w : World) (hl : (len : Int) ≤ 9223372036854775807) (hb : Byt w A len zs) (ha : -9223372036854775808 ≤ at_) (ha' : at_ ≤ 9223372036854775807) :
    Calls Try.prog 38 #[.slice A len cap, .int .i64 at_] w fun e w' => e = .returned (.tuple #[.int .u32 (fval len at_ zs), .bool (fitB len at_ 4)]) ∧ w = w' := by
  cases hf : fitB len at_ 4
  · have e : fval len at_ zs = 0 := by simp [fval, hf]
    rw [e]
    exact rfull_no A len cap at_ w hl ha ha' hf
  · obtain ⟨h0, h1⟩ := fitB_yes hf
    obtain ⟨k, rfl⟩ := Int.eq_ofNat_of_zero_le h0
    have e : fval len k zs = flv (zs.getD k 0) (zs.getD (k + 1) 0) (zs.getD (k + 2) 0) (zs.getD (k + 3) 0) := by simp [fval, hf]
    rw [e]
    exact rfull_yes A len cap k zs w hl hb (by omega)

/-- what comes back: a slice of the call's own, or nil, and whether the field fits -/
def Gives (w : World) (n : Nat) (zs : List Int) (ok : Bool) (e : Ending) (w' : World) : Prop :=
  ∃ A cap, e = .returned (.tuple #[.slice A n cap, .bool ok]) ∧ Own w' w.heap.size (.slice A n cap) n zs ∧ (A = none → cap = 0) ∧ Below w.heap.size w w'
theorem Own.shape {w : World} {base n : Nat} {v : Value} {zs : List Int} (h : Own w base v n zs) : ∃ A cap, v = .slice A n cap ∧ (A = none → cap = 0) := by
  rcases h.form with ⟨rfl, rfl⟩ | ⟨g, cap, rfl, _⟩
  · exact ⟨none, 0, rfl, fun _ => rfl⟩
  · exact ⟨_, cap, rfl, fun h => nomatch h⟩
theorem gives_of_fresh {w : World} {n : Nat} {zs : List Int} {e : Ending} {w' : World} (h : Fresh w n zs e w') : Gives w n zs true e w' := by
  obtain ⟨v, rfl, ho, hb⟩ := h
  obtain ⟨A, cap, rfl, hA⟩ := ho.shape
  exact ⟨A, cap, rfl, ho, hA, hb⟩
theorem gives_nil {w w' : World} {e : Ending} (he : e = .returned (.tuple #[.slice none 0 0, .bool false])) (hb : Below w.heap.size w w') : Gives w 0 [] false e w' :=
  ⟨none, 0, he, Own.nil _ _, fun _ => rfl, hb⟩

theorem puthalf_any (A : Option Addr) (len cap : Nat) (at_ v : Int) (zs : List Int) (w : World) (hl : len ≤ 140737488355328) (hb : Byt w A len zs) (hA : A = none → cap = 0) (ha : -9223372036854775808 ≤ at_) (ha' : at_ ≤ 9223372036854775807) (hv : 0 ≤ v) (hv' : v ≤ 4294967295) :
    Calls Try.prog 39 #[.slice A len cap, .int .i64 at_, .int .u32 v] w (Gives w (plen len at_ 2) (pbytes len at_ 2 zs (hby v)) (fitB len at_ 2)) := by
  cases hf : fitB len at_ 2
  · have e1 : plen len at_ 2 = 0 := by simp [plen, hf]
    have e2 : pbytes len at_ 2 zs (hby v) = [] := by simp [pbytes, hf]
    rw [e1, e2]
    exact (puthalf_no A len cap at_ v w (by omega) ha ha' hf hv hv').mono fun e w' ⟨h1, h2⟩ => gives_nil h1 h2
  · obtain ⟨h0, h1⟩ := fitB_yes hf
    obtain ⟨k, rfl⟩ := Int.eq_ofNat_of_zero_le h0
    have e1 : plen len k 2 = len := by simp [plen, hf]
    have e2 : pbytes len k 2 zs (hby v) = splice zs k (hby v) := by simp [pbytes, hf]
    rw [e1, e2]
    exact (puthalf_yes A len cap k v zs w hl hb hA (by omega) hv hv').mono fun e w' h => gives_of_fresh h
theorem putfull_any (A : Option Addr) (len cap : Nat) (at_ v : Int) (zs : List Int) (w : World) (hl : len ≤ 140737488355328) (hb : Byt w A len zs) (hA : A = none → cap = 0) (ha : -9223372036854775808 ≤ at_) (ha' : at_ ≤ 9223372036854775807) (hv : 0 ≤ v) (hv' : v ≤ 4294967295) :
    Calls Try.prog 41 #[.slice A len cap, .int .i64 at_, .int .u32 v] w (Gives w (plen len at_ 4) (pbytes len at_ 4 zs (fby v)) (fitB len at_ 4)) := by
  cases hf : fitB len at_ 4
  · have e1 : plen len at_ 4 = 0 := by simp [plen, hf]
    have e2 : pbytes len at_ 4 zs (fby v) = [] := by simp [pbytes, hf]
    rw [e1, e2]
    exact (putfull_no A len cap at_ v w (by omega) ha ha' hf hv hv').mono fun e w' ⟨h1, h2⟩ => gives_nil h1 h2
  · obtain ⟨h0, h1⟩ := fitB_yes hf
    obtain ⟨k, rfl⟩ := Int.eq_ofNat_of_zero_le h0
    have e1 : plen len k 4 = len := by simp [plen, hf]
    have e2 : pbytes len k 4 zs (fby v) = splice zs k (fby v) := by simp [pbytes, hf]
    rw [e1, e2]
    exact (putfull_yes A len cap k v zs w hl hb hA (by omega) hv hv').mono fun e w' h => gives_of_fresh h

set_option maxHeartbeats 400000 in
theorem rput_any (A : Option Addr) (len cap m : Nat) (at_ n v : Int) (zs ys : List Int) (w : World) (hl : len ≤ 140737488355328) (hb : Byt w A len zs) (ha : -9223372036854775808 ≤ at_) (ha' : at_ ≤ 9223372036854775807) (hn : 2 ≤ n) (hn' : n ≤ 4) (hm : (m : Int) = n) (hv : 0 ≤ v) (hv' : v ≤ 4294967295)
    (hys : ys.length = m) (hyr : ∀ z ∈ ys, 0 ≤ z ∧ z ≤ 255) (hyv : ∀ d : Nat, d < m → v / 2 ^ (8 * (n - 1 - (d : Int))).toNat % 256 = ys.getD d 0) :
    Calls Try.prog 77 #[.slice A len cap, .int .i64 at_, .int .i64 n, .int .u32 v] w (Gives w (plen len at_ n) (pbytes len at_ n zs ys) (fitB len at_ n)) := by
  cases hf : fitB len at_ n
  · have e1 : plen len at_ n = 0 := by simp [plen, hf]
    have e2 : pbytes len at_ n zs ys = [] := by simp [pbytes, hf]
    have hl2 : (len : Int) ≤ 9223372036854775807 := by omega
    rw [e1, e2]
    have HF := Lib.hid hf
    clear hf hb hyv hyr hys hm e1 e2
    go_enter Try.func77, Try.ntmps77
    go_wp2_with (go_at_call 75; refine (rfield_no _ _ _ _ _ _ hl2 ha ha' hn hn' HF.out).mono ?_; rintro e w' ⟨rfl, rfl⟩)
    go_ret2
    exact gives_nil rfl (Below.refl _ _)
  · obtain ⟨h0, h1⟩ := fitB_yes hf
    obtain ⟨k, rfl⟩ := Int.eq_ofNat_of_zero_le h0
    have e1 : plen len k n = len := by simp [plen, hf]
    have e2 : pbytes len k n zs ys = splice zs k ys := by simp [pbytes, hf]
    rw [e1, e2]
    exact (rput_yes A len cap k m n v zs ys w hl hb hn hn' hm (by omega) hv hv' hys hyr hyv).mono fun e w' h => gives_of_fresh h

theorem hby_at (v : Int) (d : Nat) (h : d < 2) : v / 2 ^ (8 * ((2 : Int) - 1 - (d : Int))).toNat % 256 = (hby v).getD d 0 := by
  have : d = 0 ∨ d = 1 := by omega
  rcases this with rfl | rfl
  · rfl
  · show v / 2 ^ 0 % 256 = v % 256
    rw [Int.pow_zero, Int.ediv_one]
theorem fby_at (v : Int) (d : Nat) (h : d < 4) : v / 2 ^ (8 * ((4 : Int) - 1 - (d : Int))).toNat % 256 = (fby v).getD d 0 := by
  have : d = 0 ∨ d = 1 ∨ d = 2 ∨ d = 3 := by omega
  rcases this with rfl | rfl | rfl | rfl
  · rfl
  · rfl
  · rfl
  · show v / 2 ^ 0 % 256 = v % 256
    rw [Int.pow_zero, Int.ediv_one]

set_option maxHeartbeats 400000 in
theorem rputhalf_any (A : Option Addr) (len cap : Nat) (at_ v : Int) (zs : List Int) (w : World) (hl : len ≤ 140737488355328) (hb : Byt w A len zs) (ha : -9223372036854775808 ≤ at_) (ha' : at_ ≤ 9223372036854775807) (hv : 0 ≤ v) (hv' : v ≤ 4294967295) :
    Calls Try.prog 40 #[.slice A len cap, .int .i64 at_, .int .u32 v] w (Gives w (plen len at_ 2) (pbytes len at_ 2 zs (hby v)) (fitB len at_ 2)) := by
  have HC := Lib.hid (rput_any A len cap 2 at_ 2 v zs (hby v) w hl hb ha ha' (by omega) (by omega) rfl hv hv' rfl (by simp [hby]; omega) (hby_at v))
  clear hb
  go_enter Try.func40, Try.ntmps40
  go_wp2_with fail
  refine HC.out.mono ?_
  rintro e w' ⟨B, c, rfl, ho, hB, hbl⟩
  have HO := Lib.hid ho
  have HB := Lib.hid hB
  have HX := Lib.hid hbl
  clear ho hB hbl
  go_wp2_with fail
  go_ret2
  exact ⟨_, _, rfl, HO.out, HB.out, HX.out⟩

set_option maxHeartbeats 400000 in
theorem rputfull_any (A : Option Addr) (len cap : Nat) (at_ v : Int) (zs : List Int) (w : World) (hl : len ≤ 140737488355328) (hb : Byt w A len zs) (ha : -9223372036854775808 ≤ at_) (ha' : at_ ≤ 9223372036854775807) (hv : 0 ≤ v) (hv' : v ≤ 4294967295) :
    Calls Try.prog 42 #[.slice A len cap, .int .i64 at_, .int .u32 v] w (Gives w (plen len at_ 4) (pbytes len at_ 4 zs (fby v)) (fitB len at_ 4)) := by
  have HC := Lib.hid (rput_any A len cap 4 at_ 4 v zs (fby v) w hl hb ha ha' (by omega) (by omega) rfl hv hv' rfl (by simp [fby]; omega) (fby_at v))
  clear hb
  go_enter Try.func42, Try.ntmps42
  go_wp2_with fail
  refine HC.out.mono ?_
  rintro e w' ⟨B, c, rfl, ho, hB, hbl⟩
  have HO := Lib.hid ho
  have HB := Lib.hid hB
  have HX := Lib.hid hbl
  clear ho hB hbl
  go_wp2_with fail
  go_ret2
  exact ⟨_, _, rfl, HO.out, HB.out, HX.out⟩
end Go.Proofs.Ytmabamijogbbnaa
