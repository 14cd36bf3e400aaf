import Derived.Test.YtgnmdhnlcibbiaaDoorKA0
set_option maxHeartbeats 8000000
set_option maxRecDepth 100000
section
namespace Go.Proofs.YtgnmdhnlcibbiaaDoor.P
open Go.RowKit Go.Proofs.PrintWords Go.Proofs.PrintLast Go.Proofs.PrintMore
set_option linter.unusedVariables false
set_option linter.unusedSimpArgs false
namespace Tr
def b01 (b : Bool) : Int := if b = true then 1 else 0
def app (op a b : Int) : Int :=
 if op = 5 then wrap64 (-a) else if op = 6 then b01 (a == 0) else if op = 7 then wrap64 (a * b)
 else if op = 8 then (if b = 0 then 0 else wrap64 (Int.tdiv a b)) else if op = 9 then (if b = 0 then 0 else Int.tmod a b)
 else if op = 10 then wrap64 (a + b) else if op = 11 then wrap64 (a - b) else if op = 12 then b01 (a == b) else if op = 13 then b01 (a != b)
 else if op = 14 then b01 (decide (a < b)) else if op = 15 then b01 (decide (a ≤ b)) else if op = 16 then b01 (decide (a > b)) else if op = 17 then b01 (decide (a ≥ b))
 else if op = 18 then b01 (a != 0 && b != 0) else if op = 19 then b01 (a != 0 || b != 0) else if op = 20 then mn a b else if op = 21 then mx a b else 0
theorem truth_eq (b : Bool) : tree_truth.f b = some (b01 b) := by unfold tree_truth.f b01;cases b <;> rfl
theorem kinds (op : Int) : op = 5 ∨ op = 6 ∨ op = 7 ∨ op = 8 ∨ op = 9 ∨ op = 10 ∨ op = 11 ∨ op = 12 ∨ op = 13 ∨ op = 14 ∨ op = 15 ∨ op = 16 ∨ op = 17 ∨ op = 18 ∨ op = 19 ∨ op = 20 ∨ op = 21 ∨ (op < 5 ∨ 21 < op) := by omega
theorem tapp_ev (op a b : Int) : Ev (fun k => tree_Apply.f k op a b) (app op a b) := by
 have key : ∀ k,tree_Apply.f (k + 1) op a b = some (app op a b) := by
  intro k
  rcases kinds op with rfl | rfl | rfl | rfl | rfl | rfl | rfl | rfl | rfl | rfl | rfl | rfl | rfl | rfl | rfl | rfl | rfl | h
  ·simp [tree_Apply.f,app]
  ·simp [tree_Apply.f,app,truth_eq]
  ·simp [tree_Apply.f,app]
  ·by_cases hb : b = 0 <;> simp [tree_Apply.f,tree_Apply.j0,app,hb]
  ·by_cases hb : b = 0 <;> simp [tree_Apply.f,tree_Apply.j0,app,hb]
  iterate 8 · simp [tree_Apply.f,tree_Apply.j0,app,truth_eq]
  ·by_cases ha : a = 0 <;> by_cases hb : b = 0 <;> simp [tree_Apply.f,tree_Apply.j0,app,truth_eq,b01,ha,hb]
  ·by_cases ha : a = 0 <;> by_cases hb : b = 0 <;> simp [tree_Apply.f,tree_Apply.j0,app,truth_eq,b01,ha,hb]
  ·simp [tree_Apply.f,tree_Apply.j0,app]
  ·simp [tree_Apply.f,tree_Apply.j0,app]
  ·have e : (op == 9) = false := beq_eq_false_iff_ne.mpr (by omega)
   unfold tree_Apply.f app
   rw [if_neg (by omega),if_neg (by omega),if_neg (by omega),if_neg (by omega),e]
   simp only [tree_Apply.j0,Bool.false_eq_true,if_false]
   repeat rw [if_neg (by omega)]
 exact ⟨1,fun k hk => by obtain ⟨m,rfl⟩ : ∃ m,k = m + 1 := ⟨k - 1,by omega⟩;exact key m⟩
end Tr
open Tr
attribute [local go_sem] max2_int min2_int max_two min_two max_three min_three max_four min_four
def RA (op a b v : Int) : Prop := ∀ w : World,Calls Tryd.prog 26 #[.int .i64 op,.int .i64 a,.int .i64 b] w fun e w' => e = .returned (.int .i64 v) ∧ Below w.heap.size w w'
theorem ra_12_0 (a b : Int) (h : a < b) : RA 12 a b (0) := by
 intro w
 have h0_ : decide (a < b) = true := decide_eq_true h
 have h1_ : decide (b < a) = false := decide_eq_false (by omega)
 go_enter Tryd.func26,Tryd.ntmps26
 go_wp2
 go_ret
 exact ⟨by first | rfl | simp [*],by repeat (first | exact Below.refl _ _ | apply below_drew1 | apply pw_below_drewN)⟩
theorem ra_12_1 (a b : Int) (h : a = b) : RA 12 a b (1) := by
 intro w
 have h0_ : decide (a < b) = false := decide_eq_false (by omega)
 have h1_ : decide (b < a) = false := decide_eq_false (by omega)
 go_enter Tryd.func26,Tryd.ntmps26
 go_wp2
 go_ret
 exact ⟨by first | rfl | simp [*],by repeat (first | exact Below.refl _ _ | apply below_drew1 | apply pw_below_drewN)⟩
theorem ra_12_2 (a b : Int) (h : b < a) : RA 12 a b (0) := by
 intro w
 have h0_ : decide (a < b) = false := decide_eq_false (by omega)
 have h1_ : decide (b < a) = true := decide_eq_true h
 go_enter Tryd.func26,Tryd.ntmps26
 go_wp2
 go_ret
 exact ⟨by first | rfl | simp [*],by repeat (first | exact Below.refl _ _ | apply below_drew1 | apply pw_below_drewN)⟩
theorem ra_13_0 (a b : Int) (h : a < b) : RA 13 a b (1) := by
 intro w
 have h0_ : decide (a < b) = true := decide_eq_true h
 have h1_ : decide (b < a) = false := decide_eq_false (by omega)
 go_enter Tryd.func26,Tryd.ntmps26
 go_wp2
 go_ret
 exact ⟨by first | rfl | simp [*],by repeat (first | exact Below.refl _ _ | apply below_drew1 | apply pw_below_drewN)⟩
theorem ra_13_1 (a b : Int) (h : a = b) : RA 13 a b (0) := by
 intro w
 have h0_ : decide (a < b) = false := decide_eq_false (by omega)
 have h1_ : decide (b < a) = false := decide_eq_false (by omega)
 go_enter Tryd.func26,Tryd.ntmps26
 go_wp2
 go_ret
 exact ⟨by first | rfl | simp [*],by repeat (first | exact Below.refl _ _ | apply below_drew1 | apply pw_below_drewN)⟩
theorem ra_13_2 (a b : Int) (h : b < a) : RA 13 a b (1) := by
 intro w
 have h0_ : decide (a < b) = false := decide_eq_false (by omega)
 have h1_ : decide (b < a) = true := decide_eq_true h
 go_enter Tryd.func26,Tryd.ntmps26
 go_wp2
 go_ret
 exact ⟨by first | rfl | simp [*],by repeat (first | exact Below.refl _ _ | apply below_drew1 | apply pw_below_drewN)⟩
theorem ra_14_0 (a b : Int) (h : a < b) : RA 14 a b (1) := by
 intro w
 have h0_ : decide (a < b) = true := decide_eq_true h
 have h1_ : decide (b < a) = false := decide_eq_false (by omega)
 go_enter Tryd.func26,Tryd.ntmps26
 go_wp2
 go_ret
 exact ⟨by first | rfl | simp [*],by repeat (first | exact Below.refl _ _ | apply below_drew1 | apply pw_below_drewN)⟩
theorem ra_14_1 (a b : Int) (h : a = b) : RA 14 a b (0) := by
 intro w
 have h0_ : decide (a < b) = false := decide_eq_false (by omega)
 have h1_ : decide (b < a) = false := decide_eq_false (by omega)
 go_enter Tryd.func26,Tryd.ntmps26
 go_wp2
 go_ret
 exact ⟨by first | rfl | simp [*],by repeat (first | exact Below.refl _ _ | apply below_drew1 | apply pw_below_drewN)⟩
theorem ra_14_2 (a b : Int) (h : b < a) : RA 14 a b (0) := by
 intro w
 have h0_ : decide (a < b) = false := decide_eq_false (by omega)
 have h1_ : decide (b < a) = true := decide_eq_true h
 go_enter Tryd.func26,Tryd.ntmps26
 go_wp2
 go_ret
 exact ⟨by first | rfl | simp [*],by repeat (first | exact Below.refl _ _ | apply below_drew1 | apply pw_below_drewN)⟩
theorem ra_15_0 (a b : Int) (h : a < b) : RA 15 a b (1) := by
 intro w
 have h0_ : decide (a < b) = true := decide_eq_true h
 have h1_ : decide (b < a) = false := decide_eq_false (by omega)
 go_enter Tryd.func26,Tryd.ntmps26
 go_wp2
 go_ret
 exact ⟨by first | rfl | simp [*],by repeat (first | exact Below.refl _ _ | apply below_drew1 | apply pw_below_drewN)⟩
theorem ra_15_1 (a b : Int) (h : a = b) : RA 15 a b (1) := by
 intro w
 have h0_ : decide (a < b) = false := decide_eq_false (by omega)
 have h1_ : decide (b < a) = false := decide_eq_false (by omega)
 go_enter Tryd.func26,Tryd.ntmps26
 go_wp2
 go_ret
 exact ⟨by first | rfl | simp [*],by repeat (first | exact Below.refl _ _ | apply below_drew1 | apply pw_below_drewN)⟩
theorem ra_15_2 (a b : Int) (h : b < a) : RA 15 a b (0) := by
 intro w
 have h0_ : decide (a < b) = false := decide_eq_false (by omega)
 have h1_ : decide (b < a) = true := decide_eq_true h
 go_enter Tryd.func26,Tryd.ntmps26
 go_wp2
 go_ret
 exact ⟨by first | rfl | simp [*],by repeat (first | exact Below.refl _ _ | apply below_drew1 | apply pw_below_drewN)⟩
theorem ra_16_0 (a b : Int) (h : a < b) : RA 16 a b (0) := by
 intro w
 have h0_ : decide (a < b) = true := decide_eq_true h
 have h1_ : decide (b < a) = false := decide_eq_false (by omega)
 go_enter Tryd.func26,Tryd.ntmps26
 go_wp2
 go_ret
 exact ⟨by first | rfl | simp [*],by repeat (first | exact Below.refl _ _ | apply below_drew1 | apply pw_below_drewN)⟩
theorem ra_16_1 (a b : Int) (h : a = b) : RA 16 a b (0) := by
 intro w
 have h0_ : decide (a < b) = false := decide_eq_false (by omega)
 have h1_ : decide (b < a) = false := decide_eq_false (by omega)
 go_enter Tryd.func26,Tryd.ntmps26
 go_wp2
 go_ret
 exact ⟨by first | rfl | simp [*],by repeat (first | exact Below.refl _ _ | apply below_drew1 | apply pw_below_drewN)⟩
theorem ra_16_2 (a b : Int) (h : b < a) : RA 16 a b (1) := by
 intro w
 have h0_ : decide (a < b) = false := decide_eq_false (by omega)
 have h1_ : decide (b < a) = true := decide_eq_true h
 go_enter Tryd.func26,Tryd.ntmps26
 go_wp2
 go_ret
 exact ⟨by first | rfl | simp [*],by repeat (first | exact Below.refl _ _ | apply below_drew1 | apply pw_below_drewN)⟩
theorem ra_17_0 (a b : Int) (h : a < b) : RA 17 a b (0) := by
 intro w
 have h0_ : decide (a < b) = true := decide_eq_true h
 have h1_ : decide (b < a) = false := decide_eq_false (by omega)
 go_enter Tryd.func26,Tryd.ntmps26
 go_wp2
 go_ret
 exact ⟨by first | rfl | simp [*],by repeat (first | exact Below.refl _ _ | apply below_drew1 | apply pw_below_drewN)⟩
theorem ra_17_1 (a b : Int) (h : a = b) : RA 17 a b (1) := by
 intro w
 have h0_ : decide (a < b) = false := decide_eq_false (by omega)
 have h1_ : decide (b < a) = false := decide_eq_false (by omega)
 go_enter Tryd.func26,Tryd.ntmps26
 go_wp2
 go_ret
 exact ⟨by first | rfl | simp [*],by repeat (first | exact Below.refl _ _ | apply below_drew1 | apply pw_below_drewN)⟩
theorem ra_17_2 (a b : Int) (h : b < a) : RA 17 a b (1) := by
 intro w
 have h0_ : decide (a < b) = false := decide_eq_false (by omega)
 have h1_ : decide (b < a) = true := decide_eq_true h
 go_enter Tryd.func26,Tryd.ntmps26
 go_wp2
 go_ret
 exact ⟨by first | rfl | simp [*],by repeat (first | exact Below.refl _ _ | apply below_drew1 | apply pw_below_drewN)⟩
theorem ra_20_0 (a b : Int) (h : a < b) : RA 20 a b (a) := by
 intro w
 have h0_ : decide (a < b) = true := decide_eq_true h
 have h1_ : decide (b < a) = false := decide_eq_false (by omega)
 go_enter Tryd.func26,Tryd.ntmps26
 go_wp2
 go_ret
 exact ⟨by first | rfl | simp [*],by repeat (first | exact Below.refl _ _ | apply below_drew1 | apply pw_below_drewN)⟩
theorem ra_20_1 (a b : Int) (h : a = b) : RA 20 a b (b) := by
 intro w
 have h0_ : decide (a < b) = false := decide_eq_false (by omega)
 have h1_ : decide (b < a) = false := decide_eq_false (by omega)
 go_enter Tryd.func26,Tryd.ntmps26
 go_wp2
 go_ret
 exact ⟨by first | rfl | simp [*],by repeat (first | exact Below.refl _ _ | apply below_drew1 | apply pw_below_drewN)⟩
theorem ra_20_2 (a b : Int) (h : b < a) : RA 20 a b (b) := by
 intro w
 have h0_ : decide (a < b) = false := decide_eq_false (by omega)
 have h1_ : decide (b < a) = true := decide_eq_true h
 go_enter Tryd.func26,Tryd.ntmps26
 go_wp2
 go_ret
 exact ⟨by first | rfl | simp [*],by repeat (first | exact Below.refl _ _ | apply below_drew1 | apply pw_below_drewN)⟩
theorem ra_21_0 (a b : Int) (h : a < b) : RA 21 a b (b) := by
 intro w
 have h0_ : decide (a < b) = true := decide_eq_true h
 have h1_ : decide (b < a) = false := decide_eq_false (by omega)
 go_enter Tryd.func26,Tryd.ntmps26
 go_wp2
 go_ret
 exact ⟨by first | rfl | simp [*],by repeat (first | exact Below.refl _ _ | apply below_drew1 | apply pw_below_drewN)⟩
theorem ra_21_1 (a b : Int) (h : a = b) : RA 21 a b (b) := by
 intro w
 have h0_ : decide (a < b) = false := decide_eq_false (by omega)
 have h1_ : decide (b < a) = false := decide_eq_false (by omega)
 go_enter Tryd.func26,Tryd.ntmps26
 go_wp2
 go_ret
 exact ⟨by first | rfl | simp [*],by repeat (first | exact Below.refl _ _ | apply below_drew1 | apply pw_below_drewN)⟩
theorem ra_21_2 (a b : Int) (h : b < a) : RA 21 a b (a) := by
 intro w
 have h0_ : decide (a < b) = false := decide_eq_false (by omega)
 have h1_ : decide (b < a) = true := decide_eq_true h
 go_enter Tryd.func26,Tryd.ntmps26
 go_wp2
 go_ret
 exact ⟨by first | rfl | simp [*],by repeat (first | exact Below.refl _ _ | apply below_drew1 | apply pw_below_drewN)⟩
theorem ra_18_00 (a b : Int) (ha : a = 0) (hb : b = 0) : RA 18 a b (0) := by
 intro w
 have h0_ : (a == 0) = true := beq_iff_eq.mpr ha
 have h1_ : (a != 0) = false := by simp [ha]
 have h2_ : (b == 0) = true := beq_iff_eq.mpr hb
 have h3_ : (b != 0) = false := by simp [hb]
 go_enter Tryd.func26,Tryd.ntmps26
 go_wp2
 go_ret
 exact ⟨by first | rfl | simp [*],by repeat (first | exact Below.refl _ _ | apply below_drew1 | apply pw_below_drewN)⟩
theorem ra_18_01 (a b : Int) (ha : a = 0) (hb : ¬ b = 0) : RA 18 a b (0) := by
 intro w
 have h0_ : (a == 0) = true := beq_iff_eq.mpr ha
 have h1_ : (a != 0) = false := by simp [ha]
 have h2_ : (b == 0) = false := beq_eq_false_iff_ne.mpr hb
 have h3_ : (b != 0) = true := by simp [hb]
 go_enter Tryd.func26,Tryd.ntmps26
 go_wp2
 go_ret
 exact ⟨by first | rfl | simp [*],by repeat (first | exact Below.refl _ _ | apply below_drew1 | apply pw_below_drewN)⟩
theorem ra_18_10 (a b : Int) (ha : ¬ a = 0) (hb : b = 0) : RA 18 a b (0) := by
 intro w
 have h0_ : (a == 0) = false := beq_eq_false_iff_ne.mpr ha
 have h1_ : (a != 0) = true := by simp [ha]
 have h2_ : (b == 0) = true := beq_iff_eq.mpr hb
 have h3_ : (b != 0) = false := by simp [hb]
 go_enter Tryd.func26,Tryd.ntmps26
 go_wp2
 go_ret
 exact ⟨by first | rfl | simp [*],by repeat (first | exact Below.refl _ _ | apply below_drew1 | apply pw_below_drewN)⟩
theorem ra_18_11 (a b : Int) (ha : ¬ a = 0) (hb : ¬ b = 0) : RA 18 a b (1) := by
 intro w
 have h0_ : (a == 0) = false := beq_eq_false_iff_ne.mpr ha
 have h1_ : (a != 0) = true := by simp [ha]
 have h2_ : (b == 0) = false := beq_eq_false_iff_ne.mpr hb
 have h3_ : (b != 0) = true := by simp [hb]
 go_enter Tryd.func26,Tryd.ntmps26
 go_wp2
 go_ret
 exact ⟨by first | rfl | simp [*],by repeat (first | exact Below.refl _ _ | apply below_drew1 | apply pw_below_drewN)⟩
theorem ra_19_00 (a b : Int) (ha : a = 0) (hb : b = 0) : RA 19 a b (0) := by
 intro w
 have h0_ : (a == 0) = true := beq_iff_eq.mpr ha
 have h1_ : (a != 0) = false := by simp [ha]
 have h2_ : (b == 0) = true := beq_iff_eq.mpr hb
 have h3_ : (b != 0) = false := by simp [hb]
 go_enter Tryd.func26,Tryd.ntmps26
 go_wp2
 go_ret
 exact ⟨by first | rfl | simp [*],by repeat (first | exact Below.refl _ _ | apply below_drew1 | apply pw_below_drewN)⟩
theorem ra_19_01 (a b : Int) (ha : a = 0) (hb : ¬ b = 0) : RA 19 a b (1) := by
 intro w
 have h0_ : (a == 0) = true := beq_iff_eq.mpr ha
 have h1_ : (a != 0) = false := by simp [ha]
 have h2_ : (b == 0) = false := beq_eq_false_iff_ne.mpr hb
 have h3_ : (b != 0) = true := by simp [hb]
 go_enter Tryd.func26,Tryd.ntmps26
 go_wp2
 go_ret
 exact ⟨by first | rfl | simp [*],by repeat (first | exact Below.refl _ _ | apply below_drew1 | apply pw_below_drewN)⟩
theorem ra_19_10 (a b : Int) (ha : ¬ a = 0) (hb : b = 0) : RA 19 a b (1) := by
 intro w
 have h0_ : (a == 0) = false := beq_eq_false_iff_ne.mpr ha
 have h1_ : (a != 0) = true := by simp [ha]
 have h2_ : (b == 0) = true := beq_iff_eq.mpr hb
 have h3_ : (b != 0) = false := by simp [hb]
 go_enter Tryd.func26,Tryd.ntmps26
 go_wp2
 go_ret
 exact ⟨by first | rfl | simp [*],by repeat (first | exact Below.refl _ _ | apply below_drew1 | apply pw_below_drewN)⟩
theorem ra_19_11 (a b : Int) (ha : ¬ a = 0) (hb : ¬ b = 0) : RA 19 a b (1) := by
 intro w
 have h0_ : (a == 0) = false := beq_eq_false_iff_ne.mpr ha
 have h1_ : (a != 0) = true := by simp [ha]
 have h2_ : (b == 0) = false := beq_eq_false_iff_ne.mpr hb
 have h3_ : (b != 0) = true := by simp [hb]
 go_enter Tryd.func26,Tryd.ntmps26
 go_wp2
 go_ret
 exact ⟨by first | rfl | simp [*],by repeat (first | exact Below.refl _ _ | apply below_drew1 | apply pw_below_drewN)⟩
theorem ra_6_0 (a b : Int) (ha : a = 0) : RA 6 a b (1) := by
 intro w
 have h0_ : (a == 0) = true := beq_iff_eq.mpr ha
 have h1_ : (a != 0) = false := by simp [ha]
 go_enter Tryd.func26,Tryd.ntmps26
 go_wp2
 go_ret
 exact ⟨by first | rfl | simp [*],by repeat (first | exact Below.refl _ _ | apply below_drew1 | apply pw_below_drewN)⟩
theorem ra_6_1 (a b : Int) (ha : ¬ a = 0) : RA 6 a b (0) := by
 intro w
 have h0_ : (a == 0) = false := beq_eq_false_iff_ne.mpr ha
 have h1_ : (a != 0) = true := by simp [ha]
 go_enter Tryd.func26,Tryd.ntmps26
 go_wp2
 go_ret
 exact ⟨by first | rfl | simp [*],by repeat (first | exact Below.refl _ _ | apply below_drew1 | apply pw_below_drewN)⟩
theorem ra_5 (a b : Int) : RA 5 a b (wrap64 (-a)) := by
 intro w
 have h0_ : wrap64 (0 - a) = wrap64 (-a) := by rw [Int.zero_sub]
 go_enter Tryd.func26,Tryd.ntmps26
 go_wp2
 go_ret
 exact ⟨by first | rfl | simp [*],by repeat (first | exact Below.refl _ _ | apply below_drew1 | apply pw_below_drewN)⟩
theorem ra_10 (a b : Int) : RA 10 a b (wrap64 (a + b)) := by
 intro w
 go_enter Tryd.func26,Tryd.ntmps26
 go_wp2
 go_ret
 exact ⟨by first | rfl | simp [*],by repeat (first | exact Below.refl _ _ | apply below_drew1 | apply pw_below_drewN)⟩
theorem ra_11 (a b : Int) : RA 11 a b (wrap64 (a - b)) := by
 intro w
 go_enter Tryd.func26,Tryd.ntmps26
 go_wp2
 go_ret
 exact ⟨by first | rfl | simp [*],by repeat (first | exact Below.refl _ _ | apply below_drew1 | apply pw_below_drewN)⟩
theorem ra_7 (a b : Int) : RA 7 a b (wrap64 (a * b)) := by
 intro w
 go_enter Tryd.func26,Tryd.ntmps26
 go_wp2
 go_ret
 exact ⟨by first | rfl | simp [*],by repeat (first | exact Below.refl _ _ | apply below_drew1 | apply pw_below_drewN)⟩
theorem ra_8_0 (a b : Int) (hb : b = 0) : RA 8 a b (0) := by
 intro w
 have h0_ : (b == 0) = true := beq_iff_eq.mpr hb
 have h1_ : (b != 0) = false := by simp [hb]
 go_enter Tryd.func26,Tryd.ntmps26
 go_wp2
 go_ret
 exact ⟨by first | rfl | simp [*],by repeat (first | exact Below.refl _ _ | apply below_drew1 | apply pw_below_drewN)⟩
theorem ra_8_1 (a b : Int) (hb : ¬ b = 0) : RA 8 a b (wrap64 (Int.tdiv a b)) := by
 intro w
 have h0_ : (b == 0) = false := beq_eq_false_iff_ne.mpr hb
 have h1_ : (b != 0) = true := by simp [hb]
 go_enter Tryd.func26,Tryd.ntmps26
 go_wp2
 go_ret
 exact ⟨by first | rfl | simp [*],by repeat (first | exact Below.refl _ _ | apply below_drew1 | apply pw_below_drewN)⟩
theorem ra_9_0 (a b : Int) (hb : b = 0) : RA 9 a b (0) := by
 intro w
 have h0_ : (b == 0) = true := beq_iff_eq.mpr hb
 have h1_ : (b != 0) = false := by simp [hb]
 go_enter Tryd.func26,Tryd.ntmps26
 go_wp2
 go_ret
 exact ⟨by first | rfl | simp [*],by repeat (first | exact Below.refl _ _ | apply below_drew1 | apply pw_below_drewN)⟩
theorem ra_9_1 (a b : Int) (hb : ¬ b = 0) : RA 9 a b (Int.tmod a b) := by
 intro w
 have h0_ : (b == 0) = false := beq_eq_false_iff_ne.mpr hb
 have h1_ : (b != 0) = true := by simp [hb]
 go_enter Tryd.func26,Tryd.ntmps26
 go_wp2
 go_ret
 exact ⟨by first | rfl | simp [*],by repeat (first | exact Below.refl _ _ | apply below_drew1 | apply pw_below_drewN)⟩
theorem ra_lo (op a b : Int) (h : op < 5) : RA op a b 0 := by
 intro w
 have h0_ : decide (12 ≤ op) = false := decide_eq_false (by omega)
 have h1_ : (op == 5) = false := beq_eq_false_iff_ne.mpr (by omega)
 have h2_ : (op == 6) = false := beq_eq_false_iff_ne.mpr (by omega)
 have h3_ : (op == 7) = false := beq_eq_false_iff_ne.mpr (by omega)
 have h4_ : (op == 8) = false := beq_eq_false_iff_ne.mpr (by omega)
 have h5_ : (op == 9) = false := beq_eq_false_iff_ne.mpr (by omega)
 have h6_ : (op == 10) = false := beq_eq_false_iff_ne.mpr (by omega)
 have h7_ : (op == 11) = false := beq_eq_false_iff_ne.mpr (by omega)
 have h8_ : (op == 18) = false := beq_eq_false_iff_ne.mpr (by omega)
 have h9_ : (op == 19) = false := beq_eq_false_iff_ne.mpr (by omega)
 have h10_ : (op == 20) = false := beq_eq_false_iff_ne.mpr (by omega)
 have h11_ : (op == 21) = false := beq_eq_false_iff_ne.mpr (by omega)
 go_enter Tryd.func26,Tryd.ntmps26
 go_wp2
 go_ret
 exact ⟨rfl,by repeat (first | exact Below.refl _ _ | apply below_drew1 | apply pw_below_drewN)⟩
theorem ra_hi (op a b : Int) (h : 21 < op) : RA op a b 0 := by
 intro w
 have h0_ : decide (12 ≤ op) = true := decide_eq_true (by omega)
 have h1_ : decide (op ≤ 17) = false := decide_eq_false (by omega)
 have h2_ : (op == 5) = false := beq_eq_false_iff_ne.mpr (by omega)
 have h3_ : (op == 6) = false := beq_eq_false_iff_ne.mpr (by omega)
 have h4_ : (op == 7) = false := beq_eq_false_iff_ne.mpr (by omega)
 have h5_ : (op == 8) = false := beq_eq_false_iff_ne.mpr (by omega)
 have h6_ : (op == 9) = false := beq_eq_false_iff_ne.mpr (by omega)
 have h7_ : (op == 10) = false := beq_eq_false_iff_ne.mpr (by omega)
 have h8_ : (op == 11) = false := beq_eq_false_iff_ne.mpr (by omega)
 have h9_ : (op == 18) = false := beq_eq_false_iff_ne.mpr (by omega)
 have h10_ : (op == 19) = false := beq_eq_false_iff_ne.mpr (by omega)
 have h11_ : (op == 20) = false := beq_eq_false_iff_ne.mpr (by omega)
 have h12_ : (op == 21) = false := beq_eq_false_iff_ne.mpr (by omega)
 go_enter Tryd.func26,Tryd.ntmps26
 go_wp2
 go_ret
 exact ⟨rfl,by repeat (first | exact Below.refl _ _ | apply below_drew1 | apply pw_below_drewN)⟩
theorem ra_all (op a b : Int) : RA op a b (app op a b) := by
 have hab : a < b ∨ a = b ∨ b < a := by omega
 rcases kinds op with rfl | rfl | rfl | rfl | rfl | rfl | rfl | rfl | rfl | rfl | rfl | rfl | rfl | rfl | rfl | rfl | rfl | h
 ·simpa [app] using ra_5 a b
 ·by_cases ha : a = 0
  ·simpa [app,b01,ha] using ra_6_0 a b ha
  ·simpa [app,b01,ha] using ra_6_1 a b ha
 ·simpa [app] using ra_7 a b
 ·by_cases hb : b = 0
  ·simpa [app,hb] using ra_8_0 a b hb
  ·simpa [app,hb] using ra_8_1 a b hb
 ·by_cases hb : b = 0
  ·simpa [app,hb] using ra_9_0 a b hb
  ·simpa [app,hb] using ra_9_1 a b hb
 ·simpa [app] using ra_10 a b
 ·simpa [app] using ra_11 a b

 ·rcases hab with h | h | h
  ·have e : app 12 a b = 0 := by simp [app,b01];omega
   rw [e];exact ra_12_0 a b h
  ·have e : app 12 a b = 1 := by simp [app,b01];omega
   rw [e];exact ra_12_1 a b h
  ·have e : app 12 a b = 0 := by simp [app,b01];omega
   rw [e];exact ra_12_2 a b h
 ·rcases hab with h | h | h
  ·have e : app 13 a b = 1 := by simp [app,b01];omega
   rw [e];exact ra_13_0 a b h
  ·have e : app 13 a b = 0 := by simp [app,b01];omega
   rw [e];exact ra_13_1 a b h
  ·have e : app 13 a b = 1 := by simp [app,b01];omega
   rw [e];exact ra_13_2 a b h
 ·rcases hab with h | h | h
  ·have e : app 14 a b = 1 := by simp [app,b01];omega
   rw [e];exact ra_14_0 a b h
  ·have e : app 14 a b = 0 := by simp [app,b01];omega
   rw [e];exact ra_14_1 a b h
  ·have e : app 14 a b = 0 := by simp [app,b01];omega
   rw [e];exact ra_14_2 a b h
 ·rcases hab with h | h | h
  ·have e : app 15 a b = 1 := by simp [app,b01];omega
   rw [e];exact ra_15_0 a b h
  ·have e : app 15 a b = 1 := by simp [app,b01];omega
   rw [e];exact ra_15_1 a b h
  ·have e : app 15 a b = 0 := by simp [app,b01];omega
   rw [e];exact ra_15_2 a b h
 ·rcases hab with h | h | h
  ·have e : app 16 a b = 0 := by simp [app,b01];omega
   rw [e];exact ra_16_0 a b h
  ·have e : app 16 a b = 0 := by simp [app,b01];omega
   rw [e];exact ra_16_1 a b h
  ·have e : app 16 a b = 1 := by simp [app,b01];omega
   rw [e];exact ra_16_2 a b h
 ·rcases hab with h | h | h
  ·have e : app 17 a b = 0 := by simp [app,b01];omega
   rw [e];exact ra_17_0 a b h
  ·have e : app 17 a b = 1 := by simp [app,b01];omega
   rw [e];exact ra_17_1 a b h
  ·have e : app 17 a b = 1 := by simp [app,b01];omega
   rw [e];exact ra_17_2 a b h
 ·by_cases ha : a = 0 <;> by_cases hb : b = 0
  ·have e : app 18 a b = 0 := by simp [app,b01,ha,hb]
   rw [e];exact ra_18_00 a b ha hb
  ·have e : app 18 a b = 0 := by simp [app,b01,ha,hb]
   rw [e];exact ra_18_01 a b ha hb
  ·have e : app 18 a b = 0 := by simp [app,b01,ha,hb]
   rw [e];exact ra_18_10 a b ha hb
  ·have e : app 18 a b = 1 := by simp [app,b01,ha,hb]
   rw [e];exact ra_18_11 a b ha hb
 ·by_cases ha : a = 0 <;> by_cases hb : b = 0
  ·have e : app 19 a b = 0 := by simp [app,b01,ha,hb]
   rw [e];exact ra_19_00 a b ha hb
  ·have e : app 19 a b = 1 := by simp [app,b01,ha,hb]
   rw [e];exact ra_19_01 a b ha hb
  ·have e : app 19 a b = 1 := by simp [app,b01,ha,hb]
   rw [e];exact ra_19_10 a b ha hb
  ·have e : app 19 a b = 1 := by simp [app,b01,ha,hb]
   rw [e];exact ra_19_11 a b ha hb
 ·rcases hab with h | h | h
  ·have e : app 20 a b = a := by simp [app,mn,mx];omega
   rw [e];exact ra_20_0 a b h
  ·have e : app 20 a b = b := by simp [app,mn,mx];omega
   rw [e];exact ra_20_1 a b h
  ·have e : app 20 a b = b := by simp [app,mn,mx];omega
   rw [e];exact ra_20_2 a b h
 ·rcases hab with h | h | h
  ·have e : app 21 a b = b := by simp [app,mn,mx];omega
   rw [e];exact ra_21_0 a b h
  ·have e : app 21 a b = b := by simp [app,mn,mx];omega
   rw [e];exact ra_21_1 a b h
  ·have e : app 21 a b = a := by simp [app,mn,mx];omega
   rw [e];exact ra_21_2 a b h
 ·have e : app op a b = 0 := by unfold app;repeat rw [if_neg (by omega)]
  rw [e]
  rcases h with h | h
  ·exact ra_lo op a b h
  ·exact ra_hi op a b h
end Go.Proofs.YtgnmdhnlcibbiaaDoor.P
end
