import Derived.Test.YthmnhjcmefjgjaaGreatDoorXAD
section
set_option linter.all false
set_option autoImplicit true
set_option relaxedAutoImplicit true
namespace Go.Proofs
open Go Go.AM
set_option maxRecDepth 100000
set_option linter.unusedVariables false
variable {s : Bool} {K : KF} {h : AH} {a : Option Addr} {n c : Nat}
noncomputable def B14 : Code := bodyOf Tryz.f14
noncomputable def C14 (s : Bool) : Cx := ⟨E, s, none, B14, [([0], [0]), ([1, 0], [0]), ([1, 1, 0, 0], [0, 3]), ([1, 1, 0, 1, 0, 0, 0], [3, 8, 9, 10]), ([1, 1, 0, 1, 0, 0, 1, 1, 0, 0, 0], [3, 8, 9, 10]), ([1, 1, 0, 1, 0, 0, 1, 1, 0, 0, 1, 0, 0], [3, 5, 8, 9, 10]), ([1, 1, 0, 1, 0, 0, 1, 1, 0, 0, 1, 0, 1, 0, 0], []), ([1, 1, 0, 1, 0, 0, 1, 1, 0, 0, 1, 1, 0], [3, 5, 8, 9, 10]), ([1, 1, 0, 1, 0, 0, 1, 1, 0, 0, 1, 1, 1, 0, 0, 0], [3, 8, 9, 10, 30, 31, 32]), ([1, 1, 0, 1, 0, 0, 1, 1, 0, 0, 1, 1, 1, 0, 0, 1, 1, 0, 0, 0], [3, 8, 9, 10, 30, 31, 32]), ([1, 1, 0, 1, 0, 0, 1, 1, 0, 0, 1, 1, 1, 0, 0, 1, 1, 0, 0, 1, 0], [3, 7, 8, 9, 10, 30, 31, 32]), ([1, 1, 0, 1, 0, 0, 1, 1, 0, 0, 1, 1, 1, 0, 0, 1, 1, 0, 0, 1, 1, 0, 0], []), ([1, 1, 0, 1, 0, 0, 1, 1, 0, 0, 1, 1, 1, 0, 0, 1, 1, 1], [3, 8, 9, 10, 30, 31, 32]), ([1, 1, 0, 1, 0, 0, 1, 1, 1], [3, 8, 9, 10]), ([1, 1, 1, 0], [])], [2], []⟩
def P14_0 (s : Bool) (K : KF) (v0 : Value) (h : AH) : Prop := SP (C14 s ) K [0] [(0, v0)] h
def P14_1 (s : Bool) (K : KF) (v0 : Value) (h : AH) : Prop := SP (C14 s ) K [1, 0] [(0, v0)] h
def P14_2 (s : Bool) (K : KF) (v0 v3 : Value) (h : AH) : Prop := SP (C14 s ) K [1, 1, 0, 0] [(0, v0), (3, v3)] h
def P14_3 (s : Bool) (K : KF) (v3 v8 v9 v10 : Value) (h : AH) : Prop := SP (C14 s ) K [1, 1, 0, 1, 0, 0, 0] [(3, v3), (8, v8), (9, v9), (10, v10)] h
def P14_4 (s : Bool) (K : KF) (v3 v8 v9 v10 : Value) (h : AH) : Prop := SP (C14 s ) K [1, 1, 0, 1, 0, 0, 1, 1, 0, 0, 0] [(3, v3), (8, v8), (9, v9), (10, v10)] h
def P14_5 (s : Bool) (K : KF) (v3 v5 v8 v9 v10 : Value) (h : AH) : Prop := SP (C14 s ) K [1, 1, 0, 1, 0, 0, 1, 1, 0, 0, 1, 0, 0] [(3, v3), (5, v5), (8, v8), (9, v9), (10, v10)] h
def P14_6 (s : Bool) (K : KF) (h : AH) : Prop := SP (C14 s ) K [1, 1, 0, 1, 0, 0, 1, 1, 0, 0, 1, 0, 1, 0, 0] [] h
def P14_7 (s : Bool) (K : KF) (v3 v5 v8 v9 v10 : Value) (h : AH) : Prop := SP (C14 s ) K [1, 1, 0, 1, 0, 0, 1, 1, 0, 0, 1, 1, 0] [(3, v3), (5, v5), (8, v8), (9, v9), (10, v10)] h
def P14_8 (s : Bool) (K : KF) (v3 v8 v9 v10 v30 v31 v32 : Value) (h : AH) : Prop := SP (C14 s ) K [1, 1, 0, 1, 0, 0, 1, 1, 0, 0, 1, 1, 1, 0, 0, 0] [(3, v3), (8, v8), (9, v9), (10, v10), (30, v30), (31, v31), (32, v32)] h
def P14_9 (s : Bool) (K : KF) (v3 v8 v9 v10 v30 v31 v32 : Value) (h : AH) : Prop := SP (C14 s ) K [1, 1, 0, 1, 0, 0, 1, 1, 0, 0, 1, 1, 1, 0, 0, 1, 1, 0, 0, 0] [(3, v3), (8, v8), (9, v9), (10, v10), (30, v30), (31, v31), (32, v32)] h
def P14_10 (s : Bool) (K : KF) (v3 v7 v8 v9 v10 v30 v31 v32 : Value) (h : AH) : Prop := SP (C14 s ) K [1, 1, 0, 1, 0, 0, 1, 1, 0, 0, 1, 1, 1, 0, 0, 1, 1, 0, 0, 1, 0] [(3, v3), (7, v7), (8, v8), (9, v9), (10, v10), (30, v30), (31, v31), (32, v32)] h
def P14_11 (s : Bool) (K : KF) (h : AH) : Prop := SP (C14 s ) K [1, 1, 0, 1, 0, 0, 1, 1, 0, 0, 1, 1, 1, 0, 0, 1, 1, 0, 0, 1, 1, 0, 0] [] h
def P14_12 (s : Bool) (K : KF) (v3 v8 v9 v10 v30 v31 v32 : Value) (h : AH) : Prop := SP (C14 s ) K [1, 1, 0, 1, 0, 0, 1, 1, 0, 0, 1, 1, 1, 0, 0, 1, 1, 1] [(3, v3), (8, v8), (9, v9), (10, v10), (30, v30), (31, v31), (32, v32)] h
def P14_13 (s : Bool) (K : KF) (v3 v8 v9 v10 : Value) (h : AH) : Prop := SP (C14 s ) K [1, 1, 0, 1, 0, 0, 1, 1, 1] [(3, v3), (8, v8), (9, v9), (10, v10)] h
def P14_14 (s : Bool) (K : KF) (h : AH) : Prop := SP (C14 s ) K [1, 1, 1, 0] [] h
def Q14_0 (s : Bool) (K : KF) (v0 : Value) (h : AH) : Prop :=
 EvO (α := Value) (some (.bool false)) fun x0 =>
 P14_1 s K v0 h
theorem P14_0_of {v0 : Value} (H : Q14_0 s K v0 h) : P14_0 s K v0 h :=
  step_of (by kernel_rfl) rfl (by kernel_rfl) H
def Q14_1 (s : Bool) (K : KF) (v0 : Value) (h : AH) : Prop :=
 Ev s (wNewRow 3 h (zeroV E 3)) fun x0 =>
 Ev s (wStore E 3 x0.2 (some x0.1) (some (.int .i64 2000))) fun x1 =>
 P14_2 s K v0 x0.1 x1.2
theorem P14_1_of {v0 : Value} (H : Q14_1 s K v0 h) : P14_1 s K v0 h :=
  step_of (by kernel_rfl) rfl (by kernel_rfl) H
def Q14_2 (s : Bool) (K : KF) (v0 v3 : Value) (h : AH) : Prop :=
 EvO (some v0) fun x0 =>
 EvO (evRead E (tmOf [(8, x0)]) (opAt B14 [1, 1, 0, 0] 1) h) fun x1 =>
 EvO (α := Value) (some (.int .i64 0)) fun x2 =>
 P14_3 s K v3 x0 x1 x2 h
theorem P14_2_of {v0 v3 : Value} (H : Q14_2 s K v0 v3 h) : P14_2 s K v0 v3 h :=
  step_of (by kernel_rfl) rfl (by kernel_rfl) H
theorem len14_2_1 : evRead E (tmOf [(8, .slice a n c)]) (opAt B14 [1, 1, 0, 0] 1) h = some (.int .i64 (n : Int)) := by cases a <;> kernel_rfl
def Q14_3 (s : Bool) (K : KF) (v3 v8 v9 v10 : Value) (h : AH) : Prop :=
 EvO (binFast E .lss 3 v10 v9) fun x0 =>
 BrK (some x0) (P14_4 s K v3 v8 v9 v10 h) (P14_14 s K  h)
theorem P14_3_of {v3 v8 v9 v10 : Value} (H : Q14_3 s K v3 v8 v9 v10 h) : P14_3 s K v3 v8 v9 v10 h :=
  step_of (by kernel_rfl) rfl (by kernel_rfl) H
def Q14_4 (s : Bool) (K : KF) (v3 v8 v9 v10 : Value) (h : AH) : Prop :=
 EvO (pIndexAddr E 82 (some v8) (some v10)) fun x0 =>
 EvO (rLoad E 25 h (some x0)) fun x1 =>
 Ev s (wNewRow 25 h (zeroV E 25)) fun x2 =>
 Ev s (wStore E 25 x2.2 (some x2.1) (some x1)) fun x3 =>
 P14_5 s K v3 x2.1 v8 v9 v10 x3.2
theorem P14_4_of {v3 v8 v9 v10 : Value} (H : Q14_4 s K v3 v8 v9 v10 h) : P14_4 s K v3 v8 v9 v10 h :=
  step_of (by kernel_rfl) rfl (by kernel_rfl) H
def Q14_5 (s : Bool) (K : KF) (v3 v5 v8 v9 v10 : Value) (h : AH) : Prop :=
 EvO (pFieldAddr E 25 0 (some v5)) fun x0 =>
 EvO (rLoad E 3 h (some x0)) fun x1 =>
 EvO (binFast E .gtr 3 x1 (.int .i64 60)) fun x2 =>
 EvO (some x2) fun x3 =>
 EvO (gdB x3 false (pFieldAddr E 25 2 (some v5))) fun x4 =>
 EvO (gdB x3 false (rLoad E 23 h (some x4))) fun x5 =>
 EvO (gdB x3 false (evRead E (tmOf [(19, x5)]) (opAt B14 [1, 1, 0, 1, 0, 0, 1, 1, 0, 0, 1, 0, 0] 6) h)) fun x6 =>
 EvO (gdB x3 false (binFast E .gtr 3 x6 (.int .i64 300))) fun x7 =>
 EvO (pickV (some x3) (some (.bool true)) (some x7)) fun x8 =>
 EvO (some x8) fun x9 =>
 EvO (gdB x9 false (pFieldAddr E 25 1 (some v5))) fun x10 =>
 EvO (gdB x9 false (rLoad E 22 h (some x10))) fun x11 =>
 EvO (gdB x9 false (evRead E (tmOf [(25, x11)]) (opAt B14 [1, 1, 0, 1, 0, 0, 1, 1, 0, 0, 1, 0, 0] 12) h)) fun x12 =>
 EvO (gdB x9 false (binFast E .gtr 3 x12 (.int .i64 60))) fun x13 =>
 EvO (pickV (some x9) (some (.bool true)) (some x13)) fun x14 =>
 BrK (some x14) (P14_6 s K  h) (P14_7 s K v3 v5 v8 v9 v10 h)
theorem P14_5_of {v3 v5 v8 v9 v10 : Value} (H : Q14_5 s K v3 v5 v8 v9 v10 h) : P14_5 s K v3 v5 v8 v9 v10 h :=
  step_of (by kernel_rfl) rfl (by kernel_rfl) H
theorem len14_5_6 : evRead E (tmOf [(19, .slice a n c)]) (opAt B14 [1, 1, 0, 1, 0, 0, 1, 1, 0, 0, 1, 0, 0] 6) h = some (.int .i64 (n : Int)) := by cases a <;> kernel_rfl
theorem len14_5_12 : evRead E (tmOf [(25, .slice a n c)]) (opAt B14 [1, 1, 0, 1, 0, 0, 1, 1, 0, 0, 1, 0, 0] 12) h = some (.int .i64 (n : Int)) := by cases a <;> kernel_rfl
def Q14_6 (s : Bool) (K : KF) (h : AH) : Prop :=
 EvO (α := Value) (some (.bool false)) fun x0 =>
 K .ret [x0] h
theorem P14_6_of (H : Q14_6 s K h) : P14_6 s K h :=
  step_of (by kernel_rfl) rfl (by kernel_rfl) H
def Q14_7 (s : Bool) (K : KF) (v3 v5 v8 v9 v10 : Value) (h : AH) : Prop :=
 EvO (pFieldAddr E 25 1 (some v5)) fun x0 =>
 EvO (rLoad E 22 h (some x0)) fun x1 =>
 EvO (evRead E (tmOf [(30, x1)]) (opAt B14 [1, 1, 0, 1, 0, 0, 1, 1, 0, 0, 1, 1, 0] 2) h) fun x2 =>
 EvO (α := Value) (some (.int .i64 0)) fun x3 =>
 P14_8 s K v3 v8 v9 v10 x1 x2 x3 h
theorem P14_7_of {v3 v5 v8 v9 v10 : Value} (H : Q14_7 s K v3 v5 v8 v9 v10 h) : P14_7 s K v3 v5 v8 v9 v10 h :=
  step_of (by kernel_rfl) rfl (by kernel_rfl) H
theorem len14_7_2 : evRead E (tmOf [(30, .slice a n c)]) (opAt B14 [1, 1, 0, 1, 0, 0, 1, 1, 0, 0, 1, 1, 0] 2) h = some (.int .i64 (n : Int)) := by cases a <;> kernel_rfl
def Q14_8 (s : Bool) (K : KF) (v3 v8 v9 v10 v30 v31 v32 : Value) (h : AH) : Prop :=
 EvO (binFast E .lss 3 v32 v31) fun x0 =>
 BrK (some x0) (P14_9 s K v3 v8 v9 v10 v30 v31 v32 h) (P14_13 s K v3 v8 v9 v10 h)
theorem P14_8_of {v3 v8 v9 v10 v30 v31 v32 : Value} (H : Q14_8 s K v3 v8 v9 v10 v30 v31 v32 h) : P14_8 s K v3 v8 v9 v10 v30 v31 v32 h :=
  step_of (by kernel_rfl) rfl (by kernel_rfl) H
def Q14_9 (s : Bool) (K : KF) (v3 v8 v9 v10 v30 v31 v32 : Value) (h : AH) : Prop :=
 EvO (pIndexAddr E 22 (some v30) (some v32)) fun x0 =>
 EvO (rLoad E 36 h (some x0)) fun x1 =>
 Ev s (wNewRow 36 h (zeroV E 36)) fun x2 =>
 Ev s (wStore E 36 x2.2 (some x2.1) (some x1)) fun x3 =>
 P14_10 s K v3 x2.1 v8 v9 v10 v30 v31 v32 x3.2
theorem P14_9_of {v3 v8 v9 v10 v30 v31 v32 : Value} (H : Q14_9 s K v3 v8 v9 v10 v30 v31 v32 h) : P14_9 s K v3 v8 v9 v10 v30 v31 v32 h :=
  step_of (by kernel_rfl) rfl (by kernel_rfl) H
def Q14_10 (s : Bool) (K : KF) (v3 v7 v8 v9 v10 v30 v31 v32 : Value) (h : AH) : Prop :=
 EvO (pFieldAddr E 36 1 (some v7)) fun x0 =>
 EvO (rLoad E 34 h (some x0)) fun x1 =>
 Ev s (wCallV (recI E) (some (.func (.func 69) #[] #[])) (some [x1, v3, (.int .i64 1)]) h) fun x2 =>
 EvO (unFast .not x2.1) fun x3 =>
 BrK (some x3) (P14_11 s K  x2.2) (P14_12 s K v3 v8 v9 v10 v30 v31 v32 x2.2)
theorem P14_10_of {v3 v7 v8 v9 v10 v30 v31 v32 : Value} (H : Q14_10 s K v3 v7 v8 v9 v10 v30 v31 v32 h) : P14_10 s K v3 v7 v8 v9 v10 v30 v31 v32 h :=
  step_of (by kernel_rfl) rfl (by kernel_rfl) H
def Q14_11 (s : Bool) (K : KF) (h : AH) : Prop :=
 EvO (α := Value) (some (.bool false)) fun x0 =>
 K .ret [x0] h
theorem P14_11_of (H : Q14_11 s K h) : P14_11 s K h :=
  step_of (by kernel_rfl) rfl (by kernel_rfl) H
def Q14_12 (s : Bool) (K : KF) (v3 v8 v9 v10 v30 v31 v32 : Value) (h : AH) : Prop :=
 EvO (binFast E .add 3 v32 (.int .i64 1)) fun x0 =>
 EvO (some x0) fun x1 =>
 P14_8 s K v3 v8 v9 v10 v30 v31 x1 h
theorem P14_12_of {v3 v8 v9 v10 v30 v31 v32 : Value} (H : Q14_12 s K v3 v8 v9 v10 v30 v31 v32 h) : P14_12 s K v3 v8 v9 v10 v30 v31 v32 h :=
  step_of (by kernel_rfl) rfl (by kernel_rfl) H
def Q14_13 (s : Bool) (K : KF) (v3 v8 v9 v10 : Value) (h : AH) : Prop :=
 EvO (binFast E .add 3 v10 (.int .i64 1)) fun x0 =>
 EvO (some x0) fun x1 =>
 P14_3 s K v3 v8 v9 x1 h
theorem P14_13_of {v3 v8 v9 v10 : Value} (H : Q14_13 s K v3 v8 v9 v10 h) : P14_13 s K v3 v8 v9 v10 h :=
  step_of (by kernel_rfl) rfl (by kernel_rfl) H
def Q14_14 (s : Bool) (K : KF) (h : AH) : Prop :=
 EvO (α := Value) (some (.bool true)) fun x0 =>
 K .ret [x0] h
theorem P14_14_of (H : Q14_14 s K h) : P14_14 s K h :=
  step_of (by kernel_rfl) rfl (by kernel_rfl) H
theorem F14_ev {s : Bool} {v0 : Value} {h : AH} {Rp : Value → AH → Prop} (H : P14_0 s (KR E [.tmp 2] Rp) v0 h) :
 Ev s (R.andThen (evC E (recI E) none (bodyOf Tryz.f14) ⟨⟨Tryz.f14.ntmps, initT [v0] 0 .e⟩, h, []⟩) (endCall E Tryz.f14)) fun x => Rp x.1 x.2 :=
  call_ev (C := C14 s) rfl rfl ⟨rfl, rfl, by kernel_rfl, rfl⟩ (by kernel_rfl) (by kernel_rfl) ((by kernel_rfl : contK (C14 s) (KR E Tryz.f14.results.toList Rp) 30 (rs B14 60 (.at [])) (tmOf (zipL 0 [v0])) h = (P14_0 s (KR E [.tmp 2] Rp) v0 h)).mpr H)
theorem F14_get : E.tab.fn.get 14 = some Tryz.f14 := by kernel_rfl
theorem F14_body : Tryz.f14.body = some B14 := by kernel_rfl
theorem F14_sum (l : List Value) (h : AH) : E.sum 14 l h = none := by kernel_rfl
theorem F14_flatE {v0 : Value} {h : AH} {Rp : Value → Prop} (hok : h.ok) (H : P14_0 true (KR E [.tmp 2] (fun x k => (isFlat x = true ∧ Rp x) ∧ h.next ≤ k.wm)) v0 h.fresh) : ∃ v, Rp v ∧ (recI E).call 14 [v0] h = some [(v, h)] :=
  call_flatE hok F14_get F14_body (F14_sum _ _) (by kernel_rfl) (F14_ev (Rp := fun x k => (isFlat x = true ∧ Rp x) ∧ h.next ≤ k.wm) H)
noncomputable def B15 : Code := bodyOf Tryz.f15
noncomputable def C15 (s : Bool) : Cx := ⟨E, s, none, B15, [([0], [0, 1, 2]), ([1, 0, 0], [3, 4, 5]), ([1, 0, 1, 0], [3, 4, 5, 7]), ([1, 0, 1, 1, 0, 0], [7]), ([1, 1, 0, 0], [3, 4, 5]), ([1, 1, 0, 1, 0], [3, 4, 5, 8]), ([1, 1, 0, 1, 1, 0, 0], [8]), ([1, 1, 1, 0, 0], [3, 4, 5]), ([1, 1, 1, 0, 1, 0, 0], []), ([1, 1, 1, 1, 0], [])], [6], []⟩
def P15_0 (s : Bool) (K : KF) (v0 v1 v2 : Value) (h : AH) : Prop := SP (C15 s ) K [0] [(0, v0), (1, v1), (2, v2)] h
def P15_1 (s : Bool) (K : KF) (v3 v4 v5 : Value) (h : AH) : Prop := SP (C15 s ) K [1, 0, 0] [(3, v3), (4, v4), (5, v5)] h
def P15_2 (s : Bool) (K : KF) (v3 v4 v5 v7 : Value) (h : AH) : Prop := SP (C15 s ) K [1, 0, 1, 0] [(3, v3), (4, v4), (5, v5), (7, v7)] h
def P15_3 (s : Bool) (K : KF) (v7 : Value) (h : AH) : Prop := SP (C15 s ) K [1, 0, 1, 1, 0, 0] [(7, v7)] h
def P15_4 (s : Bool) (K : KF) (v3 v4 v5 : Value) (h : AH) : Prop := SP (C15 s ) K [1, 1, 0, 0] [(3, v3), (4, v4), (5, v5)] h
def P15_5 (s : Bool) (K : KF) (v3 v4 v5 v8 : Value) (h : AH) : Prop := SP (C15 s ) K [1, 1, 0, 1, 0] [(3, v3), (4, v4), (5, v5), (8, v8)] h
def P15_6 (s : Bool) (K : KF) (v8 : Value) (h : AH) : Prop := SP (C15 s ) K [1, 1, 0, 1, 1, 0, 0] [(8, v8)] h
def P15_7 (s : Bool) (K : KF) (v3 v4 v5 : Value) (h : AH) : Prop := SP (C15 s ) K [1, 1, 1, 0, 0] [(3, v3), (4, v4), (5, v5)] h
def P15_8 (s : Bool) (K : KF) (h : AH) : Prop := SP (C15 s ) K [1, 1, 1, 0, 1, 0, 0] [] h
def P15_9 (s : Bool) (K : KF) (h : AH) : Prop := SP (C15 s ) K [1, 1, 1, 1, 0] [] h
def Q15_0 (s : Bool) (K : KF) (v0 v1 v2 : Value) (h : AH) : Prop :=
 Ev s (wNewRow 25 h (some v0)) fun x0 =>
 Ev s (wNewRow 25 x0.2 (some v1)) fun x1 =>
 Ev s (wNewRow 32 x1.2 (some v2)) fun x2 =>
 EvO (α := Value) (some (.int .i64 0)) fun x3 =>
 P15_1 s K x0.1 x1.1 x2.1 x2.2
theorem P15_0_of {v0 v1 v2 : Value} (H : Q15_0 s K v0 v1 v2 h) : P15_0 s K v0 v1 v2 h :=
  step_of (by kernel_rfl) rfl (by kernel_rfl) H
def Q15_1 (s : Bool) (K : KF) (v3 v4 v5 : Value) (h : AH) : Prop :=
 EvO (rLoad E 25 h (some v3)) fun x0 =>
 EvO (rLoad E 25 h (some v4)) fun x1 =>
 Ev s (wBuildSlice E 82 2 (some [(0, x0), (1, x1)]) h) fun x2 =>
 Ev s (wCallV (recI E) (some (.func (.func 70) #[] #[])) (some [x2.1]) x2.2) fun x3 =>
 EvO (some x3.1) fun x4 =>
 P15_2 s K v3 v4 v5 x4 x3.2
theorem P15_1_of {v3 v4 v5 : Value} (H : Q15_1 s K v3 v4 v5 h) : P15_1 s K v3 v4 v5 h :=
  step_of (by kernel_rfl) rfl (by kernel_rfl) H
def Q15_2 (s : Bool) (K : KF) (v3 v4 v5 v7 : Value) (h : AH) : Prop :=
 EvO (some v7) fun x0 =>
 EvO (binFast E .neq 29 x0 (.int .i64 0)) fun x1 =>
 BrK (some x1) (P15_3 s K v7 h) (P15_4 s K v3 v4 v5 h)
theorem P15_2_of {v3 v4 v5 v7 : Value} (H : Q15_2 s K v3 v4 v5 v7 h) : P15_2 s K v3 v4 v5 v7 h :=
  step_of (by kernel_rfl) rfl (by kernel_rfl) H
def Q15_3 (s : Bool) (K : KF) (v7 : Value) (h : AH) : Prop :=
 EvO (some v7) fun x0 =>
 EvO (some x0) fun x1 =>
 K .ret [x1] h
theorem P15_3_of {v7 : Value} (H : Q15_3 s K v7 h) : P15_3 s K v7 h :=
  step_of (by kernel_rfl) rfl (by kernel_rfl) H
def Q15_4 (s : Bool) (K : KF) (v3 v4 v5 : Value) (h : AH) : Prop :=
 EvO (rLoad E 32 h (some v5)) fun x0 =>
 Ev s (wBuildSlice E 83 1 (some [(0, x0)]) h) fun x1 =>
 Ev s (wCallV (recI E) (some (.func (.func 71) #[] #[])) (some [x1.1]) x1.2) fun x2 =>
 EvO (some x2.1) fun x3 =>
 P15_5 s K v3 v4 v5 x3 x2.2
theorem P15_4_of {v3 v4 v5 : Value} (H : Q15_4 s K v3 v4 v5 h) : P15_4 s K v3 v4 v5 h :=
  step_of (by kernel_rfl) rfl (by kernel_rfl) H
def Q15_5 (s : Bool) (K : KF) (v3 v4 v5 v8 : Value) (h : AH) : Prop :=
 EvO (some v8) fun x0 =>
 EvO (binFast E .neq 29 x0 (.int .i64 0)) fun x1 =>
 BrK (some x1) (P15_6 s K v8 h) (P15_7 s K v3 v4 v5 h)
theorem P15_5_of {v3 v4 v5 v8 : Value} (H : Q15_5 s K v3 v4 v5 v8 h) : P15_5 s K v3 v4 v5 v8 h :=
  step_of (by kernel_rfl) rfl (by kernel_rfl) H
def Q15_6 (s : Bool) (K : KF) (v8 : Value) (h : AH) : Prop :=
 EvO (some v8) fun x0 =>
 EvO (some x0) fun x1 =>
 K .ret [x1] h
theorem P15_6_of {v8 : Value} (H : Q15_6 s K v8 h) : P15_6 s K v8 h :=
  step_of (by kernel_rfl) rfl (by kernel_rfl) H
def Q15_7 (s : Bool) (K : KF) (v3 v4 v5 : Value) (h : AH) : Prop :=
 EvO (rLoad E 25 h (some v3)) fun x0 =>
 EvO (rLoad E 25 h (some v4)) fun x1 =>
 EvO (rLoad E 32 h (some v5)) fun x2 =>
 Ev s (wCallV (recI E) (some (.func (.func 72) #[] #[])) (some [x0, x1, x2]) h) fun x3 =>
 EvO (unFast .not x3.1) fun x4 =>
 BrK (some x4) (P15_8 s K  x3.2) (P15_9 s K  x3.2)
theorem P15_7_of {v3 v4 v5 : Value} (H : Q15_7 s K v3 v4 v5 h) : P15_7 s K v3 v4 v5 h :=
  step_of (by kernel_rfl) rfl (by kernel_rfl) H
def Q15_8 (s : Bool) (K : KF) (h : AH) : Prop :=
 EvO (α := Value) (some (.int .i64 360)) fun x0 =>
 K .ret [x0] h
theorem P15_8_of (H : Q15_8 s K h) : P15_8 s K h :=
  step_of (by kernel_rfl) rfl (by kernel_rfl) H
def Q15_9 (s : Bool) (K : KF) (h : AH) : Prop :=
 EvO (α := Value) (some (.int .i64 0)) fun x0 =>
 K .ret [x0] h
theorem P15_9_of (H : Q15_9 s K h) : P15_9 s K h :=
  step_of (by kernel_rfl) rfl (by kernel_rfl) H
theorem F15_ev {s : Bool} {v0 v1 v2 : Value} {h : AH} {Rp : Value → AH → Prop} (H : P15_0 s (KR E [.tmp 6] Rp) v0 v1 v2 h) :
 Ev s (R.andThen (evC E (recI E) none (bodyOf Tryz.f15) ⟨⟨Tryz.f15.ntmps, initT [v0, v1, v2] 0 .e⟩, h, []⟩) (endCall E Tryz.f15)) fun x => Rp x.1 x.2 :=
  call_ev (C := C15 s) rfl rfl ⟨rfl, rfl, by kernel_rfl, rfl⟩ (by kernel_rfl) (by kernel_rfl) ((by kernel_rfl : contK (C15 s) (KR E Tryz.f15.results.toList Rp) 30 (rs B15 60 (.at [])) (tmOf (zipL 0 [v0, v1, v2])) h = (P15_0 s (KR E [.tmp 6] Rp) v0 v1 v2 h)).mpr H)
theorem F15_get : E.tab.fn.get 15 = some Tryz.f15 := by kernel_rfl
theorem F15_body : Tryz.f15.body = some B15 := by kernel_rfl
theorem F15_sum (l : List Value) (h : AH) : E.sum 15 l h = none := by kernel_rfl
theorem F15_flat {s : Bool} {v0 v1 v2 : Value} {h : AH} {v : Value} (hok : h.ok) (hv : isScalar v = true) (H : P15_0 s (KR E [.tmp 6] (fun x k => x = v ∧ h.next ≤ k.wm)) v0 v1 v2 h.fresh) : (recI E).call 15 [v0, v1, v2] h = some [(v, h)] :=
  call_flat (s := s) hok F15_get F15_body (F15_sum _ _) (by kernel_rfl) hv (F15_ev (Rp := fun x k => x = v ∧ h.next ≤ k.wm) H)
noncomputable def B16 : Code := bodyOf Tryz.f16
noncomputable def C16 (s : Bool) : Cx := ⟨E, s, none, B16, [([0], [0, 1]), ([1, 0], [0, 1, 4])], [4], []⟩
def P16_0 (s : Bool) (K : KF) (v0 v1 : Value) (h : AH) : Prop := SP (C16 s ) K [0] [(0, v0), (1, v1)] h
def P16_1 (s : Bool) (K : KF) (v0 v1 v4 : Value) (h : AH) : Prop := SP (C16 s ) K [1, 0] [(0, v0), (1, v1), (4, v4)] h
def Q16_0 (s : Bool) (K : KF) (v0 v1 : Value) (h : AH) : Prop :=
 Ev s (wNewRow 32 h (zeroV E 32)) fun x0 =>
 P16_1 s K v0 v1 x0.1 x0.2
theorem P16_0_of {v0 v1 : Value} (H : Q16_0 s K v0 v1 h) : P16_0 s K v0 v1 h :=
  step_of (by kernel_rfl) rfl (by kernel_rfl) H
def Q16_1 (s : Bool) (K : KF) (v0 v1 v4 : Value) (h : AH) : Prop :=
 EvO (some v0) fun x0 =>
 EvO (some v1) fun x1 =>
 EvO (pBuild E 32 (some [(0, x0), (1, x1)])) fun x2 =>
 Ev s (wStore E 32 h (some v4) (some x2)) fun x3 =>
 K .ret [v4] x3.2
theorem P16_1_of {v0 v1 v4 : Value} (H : Q16_1 s K v0 v1 v4 h) : P16_1 s K v0 v1 v4 h :=
  step_of (by kernel_rfl) rfl (by kernel_rfl) H
theorem F16_ev {s : Bool} {v0 v1 : Value} {h : AH} {Rp : Value → AH → Prop} (H : P16_0 s (KR E [.cell 4 32] Rp) v0 v1 h) :
 Ev s (R.andThen (evC E (recI E) none (bodyOf Tryz.f16) ⟨⟨Tryz.f16.ntmps, initT [v0, v1] 0 .e⟩, h, []⟩) (endCall E Tryz.f16)) fun x => Rp x.1 x.2 :=
  call_ev (C := C16 s) rfl rfl ⟨rfl, rfl, by kernel_rfl, rfl⟩ (by kernel_rfl) (by kernel_rfl) ((by kernel_rfl : contK (C16 s) (KR E Tryz.f16.results.toList Rp) 30 (rs B16 60 (.at [])) (tmOf (zipL 0 [v0, v1])) h = (P16_0 s (KR E [.cell 4 32] Rp) v0 v1 h)).mpr H)
theorem F16_get : E.tab.fn.get 16 = some Tryz.f16 := by kernel_rfl
theorem F16_body : Tryz.f16.body = some B16 := by kernel_rfl
theorem F16_sum (l : List Value) (h : AH) : E.sum 16 l h = none := by kernel_rfl
theorem F16_flat1 {v0 v1 : Value} {h : AH} {v : Value} (hok : h.ok) (hv : isFlat v = true) (H : P16_0 true (KR E [.cell 4 32] (fun x k => x = v ∧ h.next ≤ k.wm)) v0 v1 h.fresh) : (recI E).call 16 [v0, v1] h = some [(v, h)] :=
  call_flat1 hok F16_get F16_body (F16_sum _ _) (by kernel_rfl) hv (F16_ev (Rp := fun x k => x = v ∧ h.next ≤ k.wm) H)
theorem F16_some {v0 v1 : Value} {h : AH} {Rp : Value → AH → Prop} (H : P16_0 true (KR E [.cell 4 32] (fun x k => (isFlat x = false ∨ k.wm < h.next) ∧ Rp x ⟨k.t, k.next, cond (Nat.ble h.wm k.wm) h.wm k.wm⟩)) v0 v1 h.fresh) : Ev true ((recI E).call 16 [v0, v1] h) fun x => Rp x.1 x.2 :=
  call_some F16_get F16_body (F16_sum _ _) (by kernel_rfl) (F16_ev (Rp := fun x k => (isFlat x = false ∨ k.wm < h.next) ∧ Rp x ⟨k.t, k.next, cond (Nat.ble h.wm k.wm) h.wm k.wm⟩) H)
noncomputable def B17 : Code := bodyOf Tryz.f17
noncomputable def C17 (s : Bool) : Cx := ⟨E, s, none, B17, [([0], [0]), ([1, 0], [1])], [2], []⟩
def P17_0 (s : Bool) (K : KF) (v0 : Value) (h : AH) : Prop := SP (C17 s ) K [0] [(0, v0)] h
def P17_1 (s : Bool) (K : KF) (v1 : Value) (h : AH) : Prop := SP (C17 s ) K [1, 0] [(1, v1)] h
def Q17_0 (s : Bool) (K : KF) (v0 : Value) (h : AH) : Prop :=
 Ev s (wNewRow 36 h (some v0)) fun x0 =>
 EvO (α := Value) (some (.bool false)) fun x1 =>
 P17_1 s K x0.1 x0.2
theorem P17_0_of {v0 : Value} (H : Q17_0 s K v0 h) : P17_0 s K v0 h :=
  step_of (by kernel_rfl) rfl (by kernel_rfl) H
def Q17_1 (s : Bool) (K : KF) (v1 : Value) (h : AH) : Prop :=
 EvO (pFieldAddr E 36 0 (some v1)) fun x0 =>
 EvO (rLoad E 3 h (some x0)) fun x1 =>
 EvO (binFast E .eql 3 x1 (.int .i64 (-1))) fun x2 =>
 EvO (some x2) fun x3 =>
 K .ret [x3] h
theorem P17_1_of {v1 : Value} (H : Q17_1 s K v1 h) : P17_1 s K v1 h :=
  step_of (by kernel_rfl) rfl (by kernel_rfl) H
theorem F17_ev {s : Bool} {v0 : Value} {h : AH} {Rp : Value → AH → Prop} (H : P17_0 s (KR E [.tmp 2] Rp) v0 h) :
 Ev s (R.andThen (evC E (recI E) none (bodyOf Tryz.f17) ⟨⟨Tryz.f17.ntmps, initT [v0] 0 .e⟩, h, []⟩) (endCall E Tryz.f17)) fun x => Rp x.1 x.2 :=
  call_ev (C := C17 s) rfl rfl ⟨rfl, rfl, by kernel_rfl, rfl⟩ (by kernel_rfl) (by kernel_rfl) ((by kernel_rfl : contK (C17 s) (KR E Tryz.f17.results.toList Rp) 30 (rs B17 60 (.at [])) (tmOf (zipL 0 [v0])) h = (P17_0 s (KR E [.tmp 2] Rp) v0 h)).mpr H)
theorem F17_get : E.tab.fn.get 17 = some Tryz.f17 := by kernel_rfl
theorem F17_body : Tryz.f17.body = some B17 := by kernel_rfl
theorem F17_sum (l : List Value) (h : AH) : E.sum 17 l h = none := by kernel_rfl
theorem F17_flat {s : Bool} {v0 : Value} {h : AH} {v : Value} (hok : h.ok) (hv : isScalar v = true) (H : P17_0 s (KR E [.tmp 2] (fun x k => x = v ∧ h.next ≤ k.wm)) v0 h.fresh) : (recI E).call 17 [v0] h = some [(v, h)] :=
  call_flat (s := s) hok F17_get F17_body (F17_sum _ _) (by kernel_rfl) hv (F17_ev (Rp := fun x k => x = v ∧ h.next ≤ k.wm) H)
noncomputable def B18 : Code := bodyOf Tryz.f18
noncomputable def C18 (s : Bool) : Cx := ⟨E, s, none, B18, [([0], [0, 1]), ([1, 0], [0, 1])], [4], []⟩
def P18_0 (s : Bool) (K : KF) (v0 v1 : Value) (h : AH) : Prop := SP (C18 s ) K [0] [(0, v0), (1, v1)] h
def P18_1 (s : Bool) (K : KF) (v0 v1 : Value) (h : AH) : Prop := SP (C18 s ) K [1, 0] [(0, v0), (1, v1)] h
def Q18_0 (s : Bool) (K : KF) (v0 v1 : Value) (h : AH) : Prop :=
 EvO (α := Value) (some (.bool false)) fun x0 =>
 P18_1 s K v0 v1 h
theorem P18_0_of {v0 v1 : Value} (H : Q18_0 s K v0 v1 h) : P18_0 s K v0 v1 h :=
  step_of (by kernel_rfl) rfl (by kernel_rfl) H
def Q18_1 (s : Bool) (K : KF) (v0 v1 : Value) (h : AH) : Prop :=
 EvO (some v0) fun x0 =>
 EvO (some v1) fun x1 =>
 Ev s (wCallV (recI E) (some (.func (.func 73) #[] #[])) (some [x0, x1]) h) fun x2 =>
 EvO (binFast E .geq 3 x2.1 (.int .i64 0)) fun x3 =>
 EvO (some x3) fun x4 =>
 K .ret [x4] x2.2
theorem P18_1_of {v0 v1 : Value} (H : Q18_1 s K v0 v1 h) : P18_1 s K v0 v1 h :=
  step_of (by kernel_rfl) rfl (by kernel_rfl) H
theorem F18_ev {s : Bool} {v0 v1 : Value} {h : AH} {Rp : Value → AH → Prop} (H : P18_0 s (KR E [.tmp 4] Rp) v0 v1 h) :
 Ev s (R.andThen (evC E (recI E) none (bodyOf Tryz.f18) ⟨⟨Tryz.f18.ntmps, initT [v0, v1] 0 .e⟩, h, []⟩) (endCall E Tryz.f18)) fun x => Rp x.1 x.2 :=
  call_ev (C := C18 s) rfl rfl ⟨rfl, rfl, by kernel_rfl, rfl⟩ (by kernel_rfl) (by kernel_rfl) ((by kernel_rfl : contK (C18 s) (KR E Tryz.f18.results.toList Rp) 30 (rs B18 60 (.at [])) (tmOf (zipL 0 [v0, v1])) h = (P18_0 s (KR E [.tmp 4] Rp) v0 v1 h)).mpr H)
theorem F18_get : E.tab.fn.get 18 = some Tryz.f18 := by kernel_rfl
theorem F18_body : Tryz.f18.body = some B18 := by kernel_rfl
theorem F18_sum (l : List Value) (h : AH) : E.sum 18 l h = none := by kernel_rfl
theorem F18_flat {s : Bool} {v0 v1 : Value} {h : AH} {v : Value} (hok : h.ok) (hv : isScalar v = true) (H : P18_0 s (KR E [.tmp 4] (fun x k => x = v ∧ h.next ≤ k.wm)) v0 v1 h.fresh) : (recI E).call 18 [v0, v1] h = some [(v, h)] :=
  call_flat (s := s) hok F18_get F18_body (F18_sum _ _) (by kernel_rfl) hv (F18_ev (Rp := fun x k => x = v ∧ h.next ≤ k.wm) H)
noncomputable def B69 : Code := bodyOf Tryz.f69
noncomputable def C69 (s : Bool) : Cx := ⟨E, s, none, B69, [([0], [0, 1, 2]), ([1, 0, 0], [0, 1, 2]), ([1, 0, 1, 0, 0, 0], [1, 2, 9, 10, 11]), ([1, 0, 1, 0, 0, 1, 1, 0, 0, 0], [1, 2, 9, 10, 11]), ([1, 0, 1, 0, 0, 1, 1, 0, 0, 1, 0], [1, 2, 8, 9, 10, 11]), ([1, 0, 1, 0, 0, 1, 1, 0, 0, 1, 1, 0], [1, 2, 8, 9, 10, 11]), ([1, 0, 1, 0, 0, 1, 1, 0, 0, 1, 1, 1, 0, 0], []), ([1, 0, 1, 0, 0, 1, 1, 1], [1, 2, 9, 10, 11]), ([1, 1, 0], [])], [6], []⟩
def P69_0 (s : Bool) (K : KF) (v0 v1 v2 : Value) (h : AH) : Prop := SP (C69 s ) K [0] [(0, v0), (1, v1), (2, v2)] h
def P69_1 (s : Bool) (K : KF) (v0 v1 v2 : Value) (h : AH) : Prop := SP (C69 s ) K [1, 0, 0] [(0, v0), (1, v1), (2, v2)] h
def P69_2 (s : Bool) (K : KF) (v1 v2 v9 v10 v11 : Value) (h : AH) : Prop := SP (C69 s ) K [1, 0, 1, 0, 0, 0] [(1, v1), (2, v2), (9, v9), (10, v10), (11, v11)] h
def P69_3 (s : Bool) (K : KF) (v1 v2 v9 v10 v11 : Value) (h : AH) : Prop := SP (C69 s ) K [1, 0, 1, 0, 0, 1, 1, 0, 0, 0] [(1, v1), (2, v2), (9, v9), (10, v10), (11, v11)] h
def P69_4 (s : Bool) (K : KF) (v1 v2 v8 v9 v10 v11 : Value) (h : AH) : Prop := SP (C69 s ) K [1, 0, 1, 0, 0, 1, 1, 0, 0, 1, 0] [(1, v1), (2, v2), (8, v8), (9, v9), (10, v10), (11, v11)] h
def P69_5 (s : Bool) (K : KF) (v1 v2 v8 v9 v10 v11 : Value) (h : AH) : Prop := SP (C69 s ) K [1, 0, 1, 0, 0, 1, 1, 0, 0, 1, 1, 0] [(1, v1), (2, v2), (8, v8), (9, v9), (10, v10), (11, v11)] h
def P69_6 (s : Bool) (K : KF) (h : AH) : Prop := SP (C69 s ) K [1, 0, 1, 0, 0, 1, 1, 0, 0, 1, 1, 1, 0, 0] [] h
def P69_7 (s : Bool) (K : KF) (v1 v2 v9 v10 v11 : Value) (h : AH) : Prop := SP (C69 s ) K [1, 0, 1, 0, 0, 1, 1, 1] [(1, v1), (2, v2), (9, v9), (10, v10), (11, v11)] h
def P69_8 (s : Bool) (K : KF) (h : AH) : Prop := SP (C69 s ) K [1, 1, 0] [] h
def Q69_0 (s : Bool) (K : KF) (v0 v1 v2 : Value) (h : AH) : Prop :=
 EvO (α := Value) (some (.bool false)) fun x0 =>
 P69_1 s K v0 v1 v2 h
theorem P69_0_of {v0 v1 v2 : Value} (H : Q69_0 s K v0 v1 v2 h) : P69_0 s K v0 v1 v2 h :=
  step_of (by kernel_rfl) rfl (by kernel_rfl) H
def Q69_1 (s : Bool) (K : KF) (v0 v1 v2 : Value) (h : AH) : Prop :=
 EvO (some v0) fun x0 =>
 EvO (evRead E (tmOf [(9, x0)]) (opAt B69 [1, 0, 0] 1) h) fun x1 =>
 EvO (α := Value) (some (.int .i64 0)) fun x2 =>
 P69_2 s K v1 v2 x0 x1 x2 h
theorem P69_1_of {v0 v1 v2 : Value} (H : Q69_1 s K v0 v1 v2 h) : P69_1 s K v0 v1 v2 h :=
  step_of (by kernel_rfl) rfl (by kernel_rfl) H
theorem len69_1_1 : evRead E (tmOf [(9, .slice a n c)]) (opAt B69 [1, 0, 0] 1) h = some (.int .i64 (n : Int)) := by cases a <;> kernel_rfl
def Q69_2 (s : Bool) (K : KF) (v1 v2 v9 v10 v11 : Value) (h : AH) : Prop :=
 EvO (binFast E .lss 3 v11 v10) fun x0 =>
 BrK (some x0) (P69_3 s K v1 v2 v9 v10 v11 h) (P69_8 s K  h)
theorem P69_2_of {v1 v2 v9 v10 v11 : Value} (H : Q69_2 s K v1 v2 v9 v10 v11 h) : P69_2 s K v1 v2 v9 v10 v11 h :=
  step_of (by kernel_rfl) rfl (by kernel_rfl) H
def Q69_3 (s : Bool) (K : KF) (v1 v2 v9 v10 v11 : Value) (h : AH) : Prop :=
 EvO (pIndexAddr E 34 (some v9) (some v11)) fun x0 =>
 EvO (rLoad E 173 h (some x0)) fun x1 =>
 Ev s (wNewRow 173 h (zeroV E 173)) fun x2 =>
 Ev s (wStore E 173 x2.2 (some x2.1) (some x1)) fun x3 =>
 P69_4 s K v1 v2 x2.1 v9 v10 v11 x3.2
theorem P69_3_of {v1 v2 v9 v10 v11 : Value} (H : Q69_3 s K v1 v2 v9 v10 v11 h) : P69_3 s K v1 v2 v9 v10 v11 h :=
  step_of (by kernel_rfl) rfl (by kernel_rfl) H
def Q69_4 (s : Bool) (K : KF) (v1 v2 v8 v9 v10 v11 : Value) (h : AH) : Prop :=
 EvO (some v1) fun x0 =>
 EvO (pNilCheck (some x0)) fun x1 =>
 EvO (rLoad E 3 h (some x1)) fun x2 =>
 EvO (binFast E .sub 3 x2 (.int .i64 1)) fun x3 =>
 EvO (pNilCheck (some x0)) fun x4 =>
 Ev s (wStore E 3 h (some x4) (some x3)) fun x5 =>
 P69_5 s K v1 v2 v8 v9 v10 v11 x5.2
theorem P69_4_of {v1 v2 v8 v9 v10 v11 : Value} (H : Q69_4 s K v1 v2 v8 v9 v10 v11 h) : P69_4 s K v1 v2 v8 v9 v10 v11 h :=
  step_of (by kernel_rfl) rfl (by kernel_rfl) H
def Q69_5 (s : Bool) (K : KF) (v1 v2 v8 v9 v10 v11 : Value) (h : AH) : Prop :=
 EvO (some v1) fun x0 =>
 EvO (pNilCheck (some x0)) fun x1 =>
 EvO (rLoad E 3 h (some x1)) fun x2 =>
 EvO (binFast E .lss 3 x2 (.int .i64 0)) fun x3 =>
 EvO (some x3) fun x4 =>
 EvO (gdB x4 false (some v2)) fun x5 =>
 EvO (gdB x4 false (binFast E .gtr 3 x5 (.int .i64 100))) fun x6 =>
 EvO (pickV (some x4) (some (.bool true)) (some x6)) fun x7 =>
 EvO (some x7) fun x8 =>
 EvO (gdB x8 false (pFieldAddr E 173 2 (some v8))) fun x9 =>
 EvO (gdB x8 false (rLoad E 34 h (some x9))) fun x10 =>
 EvO (gdB x8 false (some v1)) fun x11 =>
 EvO (gdB x8 false (some v2)) fun x12 =>
 EvO (gdB x8 false (binFast E .add 3 x12 (.int .i64 1))) fun x13 =>
 Ev s (gdW x8 false (wCallV (recI E) (some (.func (.func 69) #[] #[])) (some [x10, x11, x13]) h) h) fun x14 =>
 EvO (gdB x8 false (unFast .not x14.1)) fun x15 =>
 EvO (pickV (some x8) (some (.bool true)) (some x15)) fun x16 =>
 BrK (some x16) (P69_6 s K  x14.2) (P69_7 s K v1 v2 v9 v10 v11 x14.2)
theorem P69_5_of {v1 v2 v8 v9 v10 v11 : Value} (H : Q69_5 s K v1 v2 v8 v9 v10 v11 h) : P69_5 s K v1 v2 v8 v9 v10 v11 h :=
  step_of (by kernel_rfl) rfl (by kernel_rfl) H
def Q69_6 (s : Bool) (K : KF) (h : AH) : Prop :=
 EvO (α := Value) (some (.bool false)) fun x0 =>
 K .ret [x0] h
theorem P69_6_of (H : Q69_6 s K h) : P69_6 s K h :=
  step_of (by kernel_rfl) rfl (by kernel_rfl) H
def Q69_7 (s : Bool) (K : KF) (v1 v2 v9 v10 v11 : Value) (h : AH) : Prop :=
 EvO (binFast E .add 3 v11 (.int .i64 1)) fun x0 =>
 EvO (some x0) fun x1 =>
 P69_2 s K v1 v2 v9 v10 x1 h
theorem P69_7_of {v1 v2 v9 v10 v11 : Value} (H : Q69_7 s K v1 v2 v9 v10 v11 h) : P69_7 s K v1 v2 v9 v10 v11 h :=
  step_of (by kernel_rfl) rfl (by kernel_rfl) H
def Q69_8 (s : Bool) (K : KF) (h : AH) : Prop :=
 EvO (α := Value) (some (.bool true)) fun x0 =>
 K .ret [x0] h
theorem P69_8_of (H : Q69_8 s K h) : P69_8 s K h :=
  step_of (by kernel_rfl) rfl (by kernel_rfl) H
theorem F69_ev {s : Bool} {v0 v1 v2 : Value} {h : AH} {Rp : Value → AH → Prop} (H : P69_0 s (KR E [.tmp 6] Rp) v0 v1 v2 h) :
 Ev s (R.andThen (evC E (recI E) none (bodyOf Tryz.f69) ⟨⟨Tryz.f69.ntmps, initT [v0, v1, v2] 0 .e⟩, h, []⟩) (endCall E Tryz.f69)) fun x => Rp x.1 x.2 :=
  call_ev (C := C69 s) rfl rfl ⟨rfl, rfl, by kernel_rfl, rfl⟩ (by kernel_rfl) (by kernel_rfl) ((by kernel_rfl : contK (C69 s) (KR E Tryz.f69.results.toList Rp) 30 (rs B69 60 (.at [])) (tmOf (zipL 0 [v0, v1, v2])) h = (P69_0 s (KR E [.tmp 6] Rp) v0 v1 v2 h)).mpr H)
theorem F69_get : E.tab.fn.get 69 = some Tryz.f69 := by kernel_rfl
theorem F69_body : Tryz.f69.body = some B69 := by kernel_rfl
theorem F69_sum (l : List Value) (h : AH) : E.sum 69 l h = none := by kernel_rfl
theorem F69_flat {s : Bool} {v0 v1 v2 : Value} {h : AH} {v : Value} (hok : h.ok) (hv : isScalar v = true) (H : P69_0 s (KR E [.tmp 6] (fun x k => x = v ∧ h.next ≤ k.wm)) v0 v1 v2 h.fresh) : (recI E).call 69 [v0, v1, v2] h = some [(v, h)] :=
  call_flat (s := s) hok F69_get F69_body (F69_sum _ _) (by kernel_rfl) hv (F69_ev (Rp := fun x k => x = v ∧ h.next ≤ k.wm) H)
theorem F69_some {v0 v1 v2 : Value} {h : AH} {Rp : Value → AH → Prop} (H : P69_0 true (KR E [.tmp 6] (fun x k => (isFlat x = false ∨ k.wm < h.next) ∧ Rp x ⟨k.t, k.next, cond (Nat.ble h.wm k.wm) h.wm k.wm⟩)) v0 v1 v2 h.fresh) : Ev true ((recI E).call 69 [v0, v1, v2] h) fun x => Rp x.1 x.2 :=
  call_some F69_get F69_body (F69_sum _ _) (by kernel_rfl) (F69_ev (Rp := fun x k => (isFlat x = false ∨ k.wm < h.next) ∧ Rp x ⟨k.t, k.next, cond (Nat.ble h.wm k.wm) h.wm k.wm⟩) H)
noncomputable def B70 : Code := bodyOf Tryz.f70
noncomputable def C70 (s : Bool) : Cx := ⟨E, s, none, B70, [([0], [0]), ([1, 0, 0], [0]), ([1, 0, 1, 0, 0, 0], [5, 6, 7]), ([1, 0, 1, 0, 0, 1, 1, 0, 0, 0], [5, 6, 7]), ([1, 0, 1, 0, 0, 1, 1, 0, 0, 1, 0], [4, 5, 6, 7]), ([1, 0, 1, 0, 0, 1, 1, 0, 0, 1, 1, 0, 0], []), ([1, 0, 1, 0, 0, 1, 1, 1], [5, 6, 7]), ([1, 1, 0], [])], [2], []⟩
def P70_0 (s : Bool) (K : KF) (v0 : Value) (h : AH) : Prop := SP (C70 s ) K [0] [(0, v0)] h
def P70_1 (s : Bool) (K : KF) (v0 : Value) (h : AH) : Prop := SP (C70 s ) K [1, 0, 0] [(0, v0)] h
def P70_2 (s : Bool) (K : KF) (v5 v6 v7 : Value) (h : AH) : Prop := SP (C70 s ) K [1, 0, 1, 0, 0, 0] [(5, v5), (6, v6), (7, v7)] h
def P70_3 (s : Bool) (K : KF) (v5 v6 v7 : Value) (h : AH) : Prop := SP (C70 s ) K [1, 0, 1, 0, 0, 1, 1, 0, 0, 0] [(5, v5), (6, v6), (7, v7)] h
def P70_4 (s : Bool) (K : KF) (v4 v5 v6 v7 : Value) (h : AH) : Prop := SP (C70 s ) K [1, 0, 1, 0, 0, 1, 1, 0, 0, 1, 0] [(4, v4), (5, v5), (6, v6), (7, v7)] h
def P70_5 (s : Bool) (K : KF) (h : AH) : Prop := SP (C70 s ) K [1, 0, 1, 0, 0, 1, 1, 0, 0, 1, 1, 0, 0] [] h
def P70_6 (s : Bool) (K : KF) (v5 v6 v7 : Value) (h : AH) : Prop := SP (C70 s ) K [1, 0, 1, 0, 0, 1, 1, 1] [(5, v5), (6, v6), (7, v7)] h
def P70_7 (s : Bool) (K : KF) (h : AH) : Prop := SP (C70 s ) K [1, 1, 0] [] h
def Q70_0 (s : Bool) (K : KF) (v0 : Value) (h : AH) : Prop :=
 EvO (α := Value) (some (.int .i64 0)) fun x0 =>
 P70_1 s K v0 h
theorem P70_0_of {v0 : Value} (H : Q70_0 s K v0 h) : P70_0 s K v0 h :=
  step_of (by kernel_rfl) rfl (by kernel_rfl) H
def Q70_1 (s : Bool) (K : KF) (v0 : Value) (h : AH) : Prop :=
 EvO (some v0) fun x0 =>
 EvO (evRead E (tmOf [(5, x0)]) (opAt B70 [1, 0, 0] 1) h) fun x1 =>
 EvO (α := Value) (some (.int .i64 0)) fun x2 =>
 P70_2 s K x0 x1 x2 h
theorem P70_1_of {v0 : Value} (H : Q70_1 s K v0 h) : P70_1 s K v0 h :=
  step_of (by kernel_rfl) rfl (by kernel_rfl) H
theorem len70_1_1 : evRead E (tmOf [(5, .slice a n c)]) (opAt B70 [1, 0, 0] 1) h = some (.int .i64 (n : Int)) := by cases a <;> kernel_rfl
def Q70_2 (s : Bool) (K : KF) (v5 v6 v7 : Value) (h : AH) : Prop :=
 EvO (binFast E .lss 3 v7 v6) fun x0 =>
 BrK (some x0) (P70_3 s K v5 v6 v7 h) (P70_7 s K  h)
theorem P70_2_of {v5 v6 v7 : Value} (H : Q70_2 s K v5 v6 v7 h) : P70_2 s K v5 v6 v7 h :=
  step_of (by kernel_rfl) rfl (by kernel_rfl) H
def Q70_3 (s : Bool) (K : KF) (v5 v6 v7 : Value) (h : AH) : Prop :=
 EvO (pIndexAddr E 82 (some v5) (some v7)) fun x0 =>
 EvO (rLoad E 25 h (some x0)) fun x1 =>
 Ev s (wNewRow 25 h (zeroV E 25)) fun x2 =>
 Ev s (wStore E 25 x2.2 (some x2.1) (some x1)) fun x3 =>
 P70_4 s K x2.1 v5 v6 v7 x3.2
theorem P70_3_of {v5 v6 v7 : Value} (H : Q70_3 s K v5 v6 v7 h) : P70_3 s K v5 v6 v7 h :=
  step_of (by kernel_rfl) rfl (by kernel_rfl) H
def Q70_4 (s : Bool) (K : KF) (v4 v5 v6 v7 : Value) (h : AH) : Prop :=
 EvO (rLoad E 25 h (some v4)) fun x0 =>
 Ev s (wCallV (recI E) (some (.func (.func 121) #[] #[])) (some [x0]) h) fun x1 =>
 EvO (binFast E .neq 29 x1.1 (.int .i64 0)) fun x2 =>
 BrK (some x2) (P70_5 s K  x1.2) (P70_6 s K v5 v6 v7 x1.2)
theorem P70_4_of {v4 v5 v6 v7 : Value} (H : Q70_4 s K v4 v5 v6 v7 h) : P70_4 s K v4 v5 v6 v7 h :=
  step_of (by kernel_rfl) rfl (by kernel_rfl) H
def Q70_5 (s : Bool) (K : KF) (h : AH) : Prop :=
 EvO (α := Value) (some (.int .i64 8)) fun x0 =>
 K .ret [x0] h
theorem P70_5_of (H : Q70_5 s K h) : P70_5 s K h :=
  step_of (by kernel_rfl) rfl (by kernel_rfl) H
def Q70_6 (s : Bool) (K : KF) (v5 v6 v7 : Value) (h : AH) : Prop :=
 EvO (binFast E .add 3 v7 (.int .i64 1)) fun x0 =>
 EvO (some x0) fun x1 =>
 P70_2 s K v5 v6 x1 h
theorem P70_6_of {v5 v6 v7 : Value} (H : Q70_6 s K v5 v6 v7 h) : P70_6 s K v5 v6 v7 h :=
  step_of (by kernel_rfl) rfl (by kernel_rfl) H
def Q70_7 (s : Bool) (K : KF) (h : AH) : Prop :=
 EvO (α := Value) (some (.int .i64 0)) fun x0 =>
 K .ret [x0] h
theorem P70_7_of (H : Q70_7 s K h) : P70_7 s K h :=
  step_of (by kernel_rfl) rfl (by kernel_rfl) H
theorem F70_ev {s : Bool} {v0 : Value} {h : AH} {Rp : Value → AH → Prop} (H : P70_0 s (KR E [.tmp 2] Rp) v0 h) :
 Ev s (R.andThen (evC E (recI E) none (bodyOf Tryz.f70) ⟨⟨Tryz.f70.ntmps, initT [v0] 0 .e⟩, h, []⟩) (endCall E Tryz.f70)) fun x => Rp x.1 x.2 :=
  call_ev (C := C70 s) rfl rfl ⟨rfl, rfl, by kernel_rfl, rfl⟩ (by kernel_rfl) (by kernel_rfl) ((by kernel_rfl : contK (C70 s) (KR E Tryz.f70.results.toList Rp) 30 (rs B70 60 (.at [])) (tmOf (zipL 0 [v0])) h = (P70_0 s (KR E [.tmp 2] Rp) v0 h)).mpr H)
theorem F70_get : E.tab.fn.get 70 = some Tryz.f70 := by kernel_rfl
theorem F70_body : Tryz.f70.body = some B70 := by kernel_rfl
theorem F70_sum (l : List Value) (h : AH) : E.sum 70 l h = none := by kernel_rfl
theorem F70_flat {s : Bool} {v0 : Value} {h : AH} {v : Value} (hok : h.ok) (hv : isScalar v = true) (H : P70_0 s (KR E [.tmp 2] (fun x k => x = v ∧ h.next ≤ k.wm)) v0 h.fresh) : (recI E).call 70 [v0] h = some [(v, h)] :=
  call_flat (s := s) hok F70_get F70_body (F70_sum _ _) (by kernel_rfl) hv (F70_ev (Rp := fun x k => x = v ∧ h.next ≤ k.wm) H)
noncomputable def B71 : Code := bodyOf Tryz.f71
noncomputable def C71 (s : Bool) : Cx := ⟨E, s, none, B71, [([0], [0]), ([1, 0, 0], [0]), ([1, 0, 1, 0, 0, 0], [7, 8, 9]), ([1, 0, 1, 0, 0, 1, 1, 0, 0, 0], [7, 8, 9]), ([1, 0, 1, 0, 0, 1, 1, 0, 0, 1, 0, 0], [4, 7, 8, 9]), ([1, 0, 1, 0, 0, 1, 1, 0, 0, 1, 0, 1, 0, 0], []), ([1, 0, 1, 0, 0, 1, 1, 0, 0, 1, 1, 0, 0], [4, 7, 8, 9]), ([1, 0, 1, 0, 0, 1, 1, 0, 0, 1, 1, 0, 1, 0, 0], []), ([1, 0, 1, 0, 0, 1, 1, 0, 0, 1, 1, 1, 0], [4, 7, 8, 9]), ([1, 0, 1, 0, 0, 1, 1, 0, 0, 1, 1, 1, 1, 0, 0, 0], [4, 7, 8, 9, 22, 23, 24]), ([1, 0, 1, 0, 0, 1, 1, 0, 0, 1, 1, 1, 1, 0, 0, 1, 1, 0, 0, 0], [4, 7, 8, 9, 22, 23, 24]), ([1, 0, 1, 0, 0, 1, 1, 0, 0, 1, 1, 1, 1, 0, 0, 1, 1, 0, 0, 1, 0], [4, 5, 6, 7, 8, 9, 22, 23, 24]), ([1, 0, 1, 0, 0, 1, 1, 0, 0, 1, 1, 1, 1, 0, 0, 1, 1, 0, 0, 1, 1, 0, 0], []), ([1, 0, 1, 0, 0, 1, 1, 0, 0, 1, 1, 1, 1, 0, 0, 1, 1, 1], [4, 7, 8, 9, 22, 23, 24]), ([1, 0, 1, 0, 0, 1, 1, 1], [7, 8, 9]), ([1, 1, 0], [])], [2], []⟩
def P71_0 (s : Bool) (K : KF) (v0 : Value) (h : AH) : Prop := SP (C71 s ) K [0] [(0, v0)] h
def P71_1 (s : Bool) (K : KF) (v0 : Value) (h : AH) : Prop := SP (C71 s ) K [1, 0, 0] [(0, v0)] h
def P71_2 (s : Bool) (K : KF) (v7 v8 v9 : Value) (h : AH) : Prop := SP (C71 s ) K [1, 0, 1, 0, 0, 0] [(7, v7), (8, v8), (9, v9)] h
def P71_3 (s : Bool) (K : KF) (v7 v8 v9 : Value) (h : AH) : Prop := SP (C71 s ) K [1, 0, 1, 0, 0, 1, 1, 0, 0, 0] [(7, v7), (8, v8), (9, v9)] h
def P71_4 (s : Bool) (K : KF) (v4 v7 v8 v9 : Value) (h : AH) : Prop := SP (C71 s ) K [1, 0, 1, 0, 0, 1, 1, 0, 0, 1, 0, 0] [(4, v4), (7, v7), (8, v8), (9, v9)] h
def P71_5 (s : Bool) (K : KF) (h : AH) : Prop := SP (C71 s ) K [1, 0, 1, 0, 0, 1, 1, 0, 0, 1, 0, 1, 0, 0] [] h
def P71_6 (s : Bool) (K : KF) (v4 v7 v8 v9 : Value) (h : AH) : Prop := SP (C71 s ) K [1, 0, 1, 0, 0, 1, 1, 0, 0, 1, 1, 0, 0] [(4, v4), (7, v7), (8, v8), (9, v9)] h
def P71_7 (s : Bool) (K : KF) (h : AH) : Prop := SP (C71 s ) K [1, 0, 1, 0, 0, 1, 1, 0, 0, 1, 1, 0, 1, 0, 0] [] h
def P71_8 (s : Bool) (K : KF) (v4 v7 v8 v9 : Value) (h : AH) : Prop := SP (C71 s ) K [1, 0, 1, 0, 0, 1, 1, 0, 0, 1, 1, 1, 0] [(4, v4), (7, v7), (8, v8), (9, v9)] h
def P71_9 (s : Bool) (K : KF) (v4 v7 v8 v9 v22 v23 v24 : Value) (h : AH) : Prop := SP (C71 s ) K [1, 0, 1, 0, 0, 1, 1, 0, 0, 1, 1, 1, 1, 0, 0, 0] [(4, v4), (7, v7), (8, v8), (9, v9), (22, v22), (23, v23), (24, v24)] h
def P71_10 (s : Bool) (K : KF) (v4 v7 v8 v9 v22 v23 v24 : Value) (h : AH) : Prop := SP (C71 s ) K [1, 0, 1, 0, 0, 1, 1, 0, 0, 1, 1, 1, 1, 0, 0, 1, 1, 0, 0, 0] [(4, v4), (7, v7), (8, v8), (9, v9), (22, v22), (23, v23), (24, v24)] h
def P71_11 (s : Bool) (K : KF) (v4 v5 v6 v7 v8 v9 v22 v23 v24 : Value) (h : AH) : Prop := SP (C71 s ) K [1, 0, 1, 0, 0, 1, 1, 0, 0, 1, 1, 1, 1, 0, 0, 1, 1, 0, 0, 1, 0] [(4, v4), (5, v5), (6, v6), (7, v7), (8, v8), (9, v9), (22, v22), (23, v23), (24, v24)] h
def P71_12 (s : Bool) (K : KF) (h : AH) : Prop := SP (C71 s ) K [1, 0, 1, 0, 0, 1, 1, 0, 0, 1, 1, 1, 1, 0, 0, 1, 1, 0, 0, 1, 1, 0, 0] [] h
def P71_13 (s : Bool) (K : KF) (v4 v7 v8 v9 v22 v23 v24 : Value) (h : AH) : Prop := SP (C71 s ) K [1, 0, 1, 0, 0, 1, 1, 0, 0, 1, 1, 1, 1, 0, 0, 1, 1, 1] [(4, v4), (7, v7), (8, v8), (9, v9), (22, v22), (23, v23), (24, v24)] h
def P71_14 (s : Bool) (K : KF) (v7 v8 v9 : Value) (h : AH) : Prop := SP (C71 s ) K [1, 0, 1, 0, 0, 1, 1, 1] [(7, v7), (8, v8), (9, v9)] h
def P71_15 (s : Bool) (K : KF) (h : AH) : Prop := SP (C71 s ) K [1, 1, 0] [] h
def Q71_0 (s : Bool) (K : KF) (v0 : Value) (h : AH) : Prop :=
 EvO (α := Value) (some (.int .i64 0)) fun x0 =>
 P71_1 s K v0 h
theorem P71_0_of {v0 : Value} (H : Q71_0 s K v0 h) : P71_0 s K v0 h :=
  step_of (by kernel_rfl) rfl (by kernel_rfl) H
def Q71_1 (s : Bool) (K : KF) (v0 : Value) (h : AH) : Prop :=
 EvO (some v0) fun x0 =>
 EvO (evRead E (tmOf [(7, x0)]) (opAt B71 [1, 0, 0] 1) h) fun x1 =>
 EvO (α := Value) (some (.int .i64 0)) fun x2 =>
 P71_2 s K x0 x1 x2 h
theorem P71_1_of {v0 : Value} (H : Q71_1 s K v0 h) : P71_1 s K v0 h :=
  step_of (by kernel_rfl) rfl (by kernel_rfl) H
theorem len71_1_1 : evRead E (tmOf [(7, .slice a n c)]) (opAt B71 [1, 0, 0] 1) h = some (.int .i64 (n : Int)) := by cases a <;> kernel_rfl
def Q71_2 (s : Bool) (K : KF) (v7 v8 v9 : Value) (h : AH) : Prop :=
 EvO (binFast E .lss 3 v9 v8) fun x0 =>
 BrK (some x0) (P71_3 s K v7 v8 v9 h) (P71_15 s K  h)
theorem P71_2_of {v7 v8 v9 : Value} (H : Q71_2 s K v7 v8 v9 h) : P71_2 s K v7 v8 v9 h :=
  step_of (by kernel_rfl) rfl (by kernel_rfl) H
def Q71_3 (s : Bool) (K : KF) (v7 v8 v9 : Value) (h : AH) : Prop :=
 EvO (pIndexAddr E 83 (some v7) (some v9)) fun x0 =>
 EvO (rLoad E 32 h (some x0)) fun x1 =>
 Ev s (wNewRow 32 h (zeroV E 32)) fun x2 =>
 Ev s (wStore E 32 x2.2 (some x2.1) (some x1)) fun x3 =>
 P71_4 s K x2.1 v7 v8 v9 x3.2
theorem P71_3_of {v7 v8 v9 : Value} (H : Q71_3 s K v7 v8 v9 h) : P71_3 s K v7 v8 v9 h :=
  step_of (by kernel_rfl) rfl (by kernel_rfl) H
def Q71_4 (s : Bool) (K : KF) (v4 v7 v8 v9 : Value) (h : AH) : Prop :=
 EvO (pFieldAddr E 32 0 (some v4)) fun x0 =>
 EvO (rLoad E 3 h (some x0)) fun x1 =>
 Ev s (wCallV (recI E) (some (.func (.func 105) #[] #[])) (some [x1]) h) fun x2 =>
 EvO (unFast .not x2.1) fun x3 =>
 BrK (some x3) (P71_5 s K  x2.2) (P71_6 s K v4 v7 v8 v9 x2.2)
theorem P71_4_of {v4 v7 v8 v9 : Value} (H : Q71_4 s K v4 v7 v8 v9 h) : P71_4 s K v4 v7 v8 v9 h :=
  step_of (by kernel_rfl) rfl (by kernel_rfl) H
def Q71_5 (s : Bool) (K : KF) (h : AH) : Prop :=
 EvO (α := Value) (some (.int .i64 361)) fun x0 =>
 K .ret [x0] h
theorem P71_5_of (H : Q71_5 s K h) : P71_5 s K h :=
  step_of (by kernel_rfl) rfl (by kernel_rfl) H
def Q71_6 (s : Bool) (K : KF) (v4 v7 v8 v9 : Value) (h : AH) : Prop :=
 EvO (pFieldAddr E 32 1 (some v4)) fun x0 =>
 EvO (rLoad E 26 h (some x0)) fun x1 =>
 EvO (evRead E (tmOf [(18, x1)]) (opAt B71 [1, 0, 1, 0, 0, 1, 1, 0, 0, 1, 1, 0, 0] 2) h) fun x2 =>
 EvO (binFast E .gtr 3 x2 (.int .i64 200000)) fun x3 =>
 BrK (some x3) (P71_7 s K  h) (P71_8 s K v4 v7 v8 v9 h)
theorem P71_6_of {v4 v7 v8 v9 : Value} (H : Q71_6 s K v4 v7 v8 v9 h) : P71_6 s K v4 v7 v8 v9 h :=
  step_of (by kernel_rfl) rfl (by kernel_rfl) H
theorem len71_6_2 : evRead E (tmOf [(18, .slice a n c)]) (opAt B71 [1, 0, 1, 0, 0, 1, 1, 0, 0, 1, 1, 0, 0] 2) h = some (.int .i64 (n : Int)) := by cases a <;> kernel_rfl
def Q71_7 (s : Bool) (K : KF) (h : AH) : Prop :=
 EvO (α := Value) (some (.int .i64 360)) fun x0 =>
 K .ret [x0] h
theorem P71_7_of (H : Q71_7 s K h) : P71_7 s K h :=
  step_of (by kernel_rfl) rfl (by kernel_rfl) H
def Q71_8 (s : Bool) (K : KF) (v4 v7 v8 v9 : Value) (h : AH) : Prop :=
 EvO (pFieldAddr E 32 1 (some v4)) fun x0 =>
 EvO (rLoad E 26 h (some x0)) fun x1 =>
 EvO (evRead E (tmOf [(22, x1)]) (opAt B71 [1, 0, 1, 0, 0, 1, 1, 0, 0, 1, 1, 1, 0] 2) h) fun x2 =>
 EvO (α := Value) (some (.int .i64 0)) fun x3 =>
 P71_9 s K v4 v7 v8 v9 x1 x2 x3 h
theorem P71_8_of {v4 v7 v8 v9 : Value} (H : Q71_8 s K v4 v7 v8 v9 h) : P71_8 s K v4 v7 v8 v9 h :=
  step_of (by kernel_rfl) rfl (by kernel_rfl) H
theorem len71_8_2 : evRead E (tmOf [(22, .slice a n c)]) (opAt B71 [1, 0, 1, 0, 0, 1, 1, 0, 0, 1, 1, 1, 0] 2) h = some (.int .i64 (n : Int)) := by cases a <;> kernel_rfl
def Q71_9 (s : Bool) (K : KF) (v4 v7 v8 v9 v22 v23 v24 : Value) (h : AH) : Prop :=
 EvO (binFast E .lss 3 v24 v23) fun x0 =>
 BrK (some x0) (P71_10 s K v4 v7 v8 v9 v22 v23 v24 h) (P71_14 s K v7 v8 v9 h)
theorem P71_9_of {v4 v7 v8 v9 v22 v23 v24 : Value} (H : Q71_9 s K v4 v7 v8 v9 v22 v23 v24 h) : P71_9 s K v4 v7 v8 v9 v22 v23 v24 h :=
  step_of (by kernel_rfl) rfl (by kernel_rfl) H
def Q71_10 (s : Bool) (K : KF) (v4 v7 v8 v9 v22 v23 v24 : Value) (h : AH) : Prop :=
 EvO (some v24) fun x0 =>
 EvO (pIndexAddr E 26 (some v22) (some v24)) fun x1 =>
 EvO (rLoad E 54 h (some x1)) fun x2 =>
 Ev s (wNewRow 54 h (zeroV E 54)) fun x3 =>
 EvO (some x0) fun x4 =>
 Ev s (wStore E 54 x3.2 (some x3.1) (some x2)) fun x5 =>
 P71_11 s K v4 x4 x3.1 v7 v8 v9 v22 v23 v24 x5.2
theorem P71_10_of {v4 v7 v8 v9 v22 v23 v24 : Value} (H : Q71_10 s K v4 v7 v8 v9 v22 v23 v24 h) : P71_10 s K v4 v7 v8 v9 v22 v23 v24 h :=
  step_of (by kernel_rfl) rfl (by kernel_rfl) H
def Q71_11 (s : Bool) (K : KF) (v4 v5 v6 v7 v8 v9 v22 v23 v24 : Value) (h : AH) : Prop :=
 EvO (pIndexAddr E 54 (some v6) (some (.int .i64 0))) fun x0 =>
 EvO (rLoad E 3 h (some x0)) fun x1 =>
 EvO (binFast E .lss 3 x1 (.int .i64 0)) fun x2 =>
 EvO (some x2) fun x3 =>
 EvO (gdB x3 false (pIndexAddr E 54 (some v6) (some (.int .i64 1)))) fun x4 =>
 EvO (gdB x3 false (rLoad E 3 h (some x4))) fun x5 =>
 EvO (gdB x3 false (binFast E .lss 3 x5 (.int .i64 0))) fun x6 =>
 EvO (pickV (some x3) (some (.bool true)) (some x6)) fun x7 =>
 EvO (some x7) fun x8 =>
 EvO (gdB x8 false (some v5)) fun x9 =>
 EvO (gdB x8 false (binFast E .gtr 3 x9 (.int .i64 0))) fun x10 =>
 EvO (gdB x8 false (some x10)) fun x11 =>
 EvO (gdB x11 true (pFieldAddr E 32 1 (some v4))) fun x12 =>
 EvO (gdB x11 true (rLoad E 26 h (some x12))) fun x13 =>
 EvO (gdB x11 true (some v5)) fun x14 =>
 EvO (gdB x11 true (binFast E .sub 3 x14 (.int .i64 1))) fun x15 =>
 EvO (gdB x11 true (pIndexAddr E 26 (some x13) (some x15))) fun x16 =>
 EvO (gdB x11 true (rLoad E 54 h (some x16))) fun x17 =>
 EvO (gdB x11 true (rLoad E 54 h (some v6))) fun x18 =>
 Ev s (gdW x11 true (wCallV (recI E) (some (.func (.func 122) #[] #[])) (some [x17, x18]) h) h) fun x19 =>
 EvO (gdB x11 true (binFast E .geq 3 x19.1 (.int .i64 0))) fun x20 =>
 EvO (gdB x8 false (pickV (some x11) (some x20) (some (.bool false)))) fun x21 =>
 EvO (pickV (some x8) (some (.bool true)) (some x21)) fun x22 =>
 BrK (some x22) (P71_12 s K  x19.2) (P71_13 s K v4 v7 v8 v9 v22 v23 v24 x19.2)
theorem P71_11_of {v4 v5 v6 v7 v8 v9 v22 v23 v24 : Value} (H : Q71_11 s K v4 v5 v6 v7 v8 v9 v22 v23 v24 h) : P71_11 s K v4 v5 v6 v7 v8 v9 v22 v23 v24 h :=
  step_of (by kernel_rfl) rfl (by kernel_rfl) H
def Q71_12 (s : Bool) (K : KF) (h : AH) : Prop :=
 EvO (α := Value) (some (.int .i64 360)) fun x0 =>
 K .ret [x0] h
theorem P71_12_of (H : Q71_12 s K h) : P71_12 s K h :=
  step_of (by kernel_rfl) rfl (by kernel_rfl) H
def Q71_13 (s : Bool) (K : KF) (v4 v7 v8 v9 v22 v23 v24 : Value) (h : AH) : Prop :=
 EvO (binFast E .add 3 v24 (.int .i64 1)) fun x0 =>
 EvO (some x0) fun x1 =>
 P71_9 s K v4 v7 v8 v9 v22 v23 x1 h
theorem P71_13_of {v4 v7 v8 v9 v22 v23 v24 : Value} (H : Q71_13 s K v4 v7 v8 v9 v22 v23 v24 h) : P71_13 s K v4 v7 v8 v9 v22 v23 v24 h :=
  step_of (by kernel_rfl) rfl (by kernel_rfl) H
def Q71_14 (s : Bool) (K : KF) (v7 v8 v9 : Value) (h : AH) : Prop :=
 EvO (binFast E .add 3 v9 (.int .i64 1)) fun x0 =>
 EvO (some x0) fun x1 =>
 P71_2 s K v7 v8 x1 h
theorem P71_14_of {v7 v8 v9 : Value} (H : Q71_14 s K v7 v8 v9 h) : P71_14 s K v7 v8 v9 h :=
  step_of (by kernel_rfl) rfl (by kernel_rfl) H
def Q71_15 (s : Bool) (K : KF) (h : AH) : Prop :=
 EvO (α := Value) (some (.int .i64 0)) fun x0 =>
 K .ret [x0] h
theorem P71_15_of (H : Q71_15 s K h) : P71_15 s K h :=
  step_of (by kernel_rfl) rfl (by kernel_rfl) H
theorem F71_ev {s : Bool} {v0 : Value} {h : AH} {Rp : Value → AH → Prop} (H : P71_0 s (KR E [.tmp 2] Rp) v0 h) :
 Ev s (R.andThen (evC E (recI E) none (bodyOf Tryz.f71) ⟨⟨Tryz.f71.ntmps, initT [v0] 0 .e⟩, h, []⟩) (endCall E Tryz.f71)) fun x => Rp x.1 x.2 :=
  call_ev (C := C71 s) rfl rfl ⟨rfl, rfl, by kernel_rfl, rfl⟩ (by kernel_rfl) (by kernel_rfl) ((by kernel_rfl : contK (C71 s) (KR E Tryz.f71.results.toList Rp) 30 (rs B71 60 (.at [])) (tmOf (zipL 0 [v0])) h = (P71_0 s (KR E [.tmp 2] Rp) v0 h)).mpr H)
theorem F71_get : E.tab.fn.get 71 = some Tryz.f71 := by kernel_rfl
theorem F71_body : Tryz.f71.body = some B71 := by kernel_rfl
theorem F71_sum (l : List Value) (h : AH) : E.sum 71 l h = none := by kernel_rfl
theorem F71_flat {s : Bool} {v0 : Value} {h : AH} {v : Value} (hok : h.ok) (hv : isScalar v = true) (H : P71_0 s (KR E [.tmp 2] (fun x k => x = v ∧ h.next ≤ k.wm)) v0 h.fresh) : (recI E).call 71 [v0] h = some [(v, h)] :=
  call_flat (s := s) hok F71_get F71_body (F71_sum _ _) (by kernel_rfl) hv (F71_ev (Rp := fun x k => x = v ∧ h.next ≤ k.wm) H)
noncomputable def B72 : Code := bodyOf Tryz.f72
noncomputable def C72 (s : Bool) : Cx := ⟨E, s, none, B72, [([0], [0, 1, 2]), ([1, 0], [3, 4, 5]), ([1, 1, 0], [3, 4, 5, 7]), ([1, 1, 1, 0, 0], [3, 4, 5, 8]), ([1, 1, 1, 0, 1, 0, 0, 0], [3, 4, 5, 8, 25, 26, 27]), ([1, 1, 1, 0, 1, 0, 0, 1, 1, 0, 0, 0], [3, 4, 5, 8, 25, 26, 27]), ([1, 1, 1, 0, 1, 0, 0, 1, 1, 0, 0, 1, 0, 0], [3, 4, 5, 8, 10, 25, 26, 27]), ([1, 1, 1, 0, 1, 0, 0, 1, 1, 0, 0, 1, 0, 1, 0, 0], []), ([1, 1, 1, 0, 1, 0, 0, 1, 1, 0, 0, 1, 1], [3, 4, 5, 8, 10, 25, 26, 27]), ([1, 1, 1, 0, 1, 0, 0, 1, 1, 1], [3, 4, 5, 8, 25, 26, 27]), ([1, 1, 1, 1, 0], [5, 8]), ([1, 1, 1, 1, 1, 0], [8, 11])], [6], []⟩
def P72_0 (s : Bool) (K : KF) (v0 v1 v2 : Value) (h : AH) : Prop := SP (C72 s ) K [0] [(0, v0), (1, v1), (2, v2)] h
def P72_1 (s : Bool) (K : KF) (v3 v4 v5 : Value) (h : AH) : Prop := SP (C72 s ) K [1, 0] [(3, v3), (4, v4), (5, v5)] h
def P72_2 (s : Bool) (K : KF) (v3 v4 v5 v7 : Value) (h : AH) : Prop := SP (C72 s ) K [1, 1, 0] [(3, v3), (4, v4), (5, v5), (7, v7)] h
def P72_3 (s : Bool) (K : KF) (v3 v4 v5 v8 : Value) (h : AH) : Prop := SP (C72 s ) K [1, 1, 1, 0, 0] [(3, v3), (4, v4), (5, v5), (8, v8)] h
def P72_4 (s : Bool) (K : KF) (v3 v4 v5 v8 v25 v26 v27 : Value) (h : AH) : Prop := SP (C72 s ) K [1, 1, 1, 0, 1, 0, 0, 0] [(3, v3), (4, v4), (5, v5), (8, v8), (25, v25), (26, v26), (27, v27)] h
def P72_5 (s : Bool) (K : KF) (v3 v4 v5 v8 v25 v26 v27 : Value) (h : AH) : Prop := SP (C72 s ) K [1, 1, 1, 0, 1, 0, 0, 1, 1, 0, 0, 0] [(3, v3), (4, v4), (5, v5), (8, v8), (25, v25), (26, v26), (27, v27)] h
def P72_6 (s : Bool) (K : KF) (v3 v4 v5 v8 v10 v25 v26 v27 : Value) (h : AH) : Prop := SP (C72 s ) K [1, 1, 1, 0, 1, 0, 0, 1, 1, 0, 0, 1, 0, 0] [(3, v3), (4, v4), (5, v5), (8, v8), (10, v10), (25, v25), (26, v26), (27, v27)] h
def P72_7 (s : Bool) (K : KF) (h : AH) : Prop := SP (C72 s ) K [1, 1, 1, 0, 1, 0, 0, 1, 1, 0, 0, 1, 0, 1, 0, 0] [] h
def P72_8 (s : Bool) (K : KF) (v3 v4 v5 v8 v10 v25 v26 v27 : Value) (h : AH) : Prop := SP (C72 s ) K [1, 1, 1, 0, 1, 0, 0, 1, 1, 0, 0, 1, 1] [(3, v3), (4, v4), (5, v5), (8, v8), (10, v10), (25, v25), (26, v26), (27, v27)] h
def P72_9 (s : Bool) (K : KF) (v3 v4 v5 v8 v25 v26 v27 : Value) (h : AH) : Prop := SP (C72 s ) K [1, 1, 1, 0, 1, 0, 0, 1, 1, 1] [(3, v3), (4, v4), (5, v5), (8, v8), (25, v25), (26, v26), (27, v27)] h
def P72_10 (s : Bool) (K : KF) (v5 v8 : Value) (h : AH) : Prop := SP (C72 s ) K [1, 1, 1, 1, 0] [(5, v5), (8, v8)] h
def P72_11 (s : Bool) (K : KF) (v8 v11 : Value) (h : AH) : Prop := SP (C72 s ) K [1, 1, 1, 1, 1, 0] [(8, v8), (11, v11)] h
def Q72_0 (s : Bool) (K : KF) (v0 v1 v2 : Value) (h : AH) : Prop :=
 Ev s (wNewRow 25 h (some v0)) fun x0 =>
 Ev s (wNewRow 25 x0.2 (some v1)) fun x1 =>
 Ev s (wNewRow 32 x1.2 (some v2)) fun x2 =>
 EvO (α := Value) (some (.bool false)) fun x3 =>
 P72_1 s K x0.1 x1.1 x2.1 x2.2
theorem P72_0_of {v0 v1 v2 : Value} (H : Q72_0 s K v0 v1 v2 h) : P72_0 s K v0 v1 v2 h :=
  step_of (by kernel_rfl) rfl (by kernel_rfl) H
def Q72_1 (s : Bool) (K : KF) (v3 v4 v5 : Value) (h : AH) : Prop :=
 EvO (rLoad E 25 h (some v3)) fun x0 =>
 EvO (rLoad E 25 h (some v4)) fun x1 =>
 Ev s (wBuildSlice E 82 2 (some [(0, x0), (1, x1)]) h) fun x2 =>
 Ev s (wCallV (recI E) (some (.func (.func 90) #[] #[])) (some [x2.1]) x2.2) fun x3 =>
 EvO (some x3.1) fun x4 =>
 P72_2 s K v3 v4 v5 x4 x3.2
theorem P72_1_of {v3 v4 v5 : Value} (H : Q72_1 s K v3 v4 v5 h) : P72_1 s K v3 v4 v5 h :=
  step_of (by kernel_rfl) rfl (by kernel_rfl) H
def Q72_2 (s : Bool) (K : KF) (v3 v4 v5 v7 : Value) (h : AH) : Prop :=
 EvO (some v7) fun x0 =>
 EvO (pIndexAddr E 126 (some x0) (some (.int .i64 0))) fun x1 =>
 EvO (rLoad E 128 h (some x1)) fun x2 =>
 EvO (some v7) fun x3 =>
 EvO (pIndexAddr E 126 (some x3) (some (.int .i64 1))) fun x4 =>
 EvO (rLoad E 128 h (some x4)) fun x5 =>
 s = false ∧ (Ev s (one (.map (some (h).next), (h).new (.map [] 0))) fun x6 =>
 EvO (rLoad E 128 x6.2 (some x4)) fun u6_5 => veq 100 u6_5 x5 = true ∧
 (EvO (rLoad E 128 x6.2 (some x1)) fun u6_2 => veq 100 u6_2 x2 = true ∧
 (EvO (pBuild E 176 (some [(0, x2), (1, x5), (2, x6.1)])) fun x7 =>
 Ev s (wNewRow 176 x6.2 (zeroV E 176)) fun x8 =>
 EvO (rLoad E 128 x8.2 (some x4)) fun u8_5 => veq 100 u8_5 x5 = true ∧
 (EvO (rLoad E 128 x8.2 (some x1)) fun u8_2 => veq 100 u8_2 x2 = true ∧
 (Ev s (wStore E 176 x8.2 (some x8.1) (some x7)) fun x9 =>
 P72_3 s K v3 v4 v5 x8.1 x9.2))))) ∧ (Ev s (wNewRow 176 h (zeroV E 176)) fun x8 =>
 EvO (rLoad E 128 x8.2 (some x4)) fun u8_5 => veq 100 u8_5 x5 = true ∧
 (EvO (rLoad E 128 x8.2 (some x1)) fun u8_2 => veq 100 u8_2 x2 = true ∧
 (Ev s (one (.map (some (x8.2).next), (x8.2).new (.map [] 0))) fun x6 =>
 EvO (rLoad E 128 x6.2 (some x4)) fun u6_5 => veq 100 u6_5 x5 = true ∧
 (EvO (rLoad E 128 x6.2 (some x1)) fun u6_2 => veq 100 u6_2 x2 = true ∧
 (EvO (pBuild E 176 (some [(0, x2), (1, x5), (2, x6.1)])) fun x7 =>
 Ev s (wStore E 176 x6.2 (some x8.1) (some x7)) fun x9 =>
 P72_3 s K v3 v4 v5 x8.1 x9.2)))))
theorem P72_2_of {v3 v4 v5 v7 : Value} (H : Q72_2 s K v3 v4 v5 v7 h) : P72_2 s K v3 v4 v5 v7 h :=
  step_of (by kernel_rfl) rfl (by kernel_rfl) H
def Q72_3 (s : Bool) (K : KF) (v3 v4 v5 v8 : Value) (h : AH) : Prop :=
 EvO (pFieldAddr E 32 1 (some v5)) fun x0 =>
 EvO (rLoad E 26 h (some x0)) fun x1 =>
 EvO (evRead E (tmOf [(25, x1)]) (opAt B72 [1, 1, 1, 0, 0] 2) h) fun x2 =>
 EvO (α := Value) (some (.int .i64 0)) fun x3 =>
 P72_4 s K v3 v4 v5 v8 x1 x2 x3 h
theorem P72_3_of {v3 v4 v5 v8 : Value} (H : Q72_3 s K v3 v4 v5 v8 h) : P72_3 s K v3 v4 v5 v8 h :=
  step_of (by kernel_rfl) rfl (by kernel_rfl) H
theorem len72_3_2 : evRead E (tmOf [(25, .slice a n c)]) (opAt B72 [1, 1, 1, 0, 0] 2) h = some (.int .i64 (n : Int)) := by cases a <;> kernel_rfl
def Q72_4 (s : Bool) (K : KF) (v3 v4 v5 v8 v25 v26 v27 : Value) (h : AH) : Prop :=
 EvO (binFast E .lss 3 v27 v26) fun x0 =>
 BrK (some x0) (P72_5 s K v3 v4 v5 v8 v25 v26 v27 h) (P72_10 s K v5 v8 h)
theorem P72_4_of {v3 v4 v5 v8 v25 v26 v27 : Value} (H : Q72_4 s K v3 v4 v5 v8 v25 v26 v27 h) : P72_4 s K v3 v4 v5 v8 v25 v26 v27 h :=
  step_of (by kernel_rfl) rfl (by kernel_rfl) H
def Q72_5 (s : Bool) (K : KF) (v3 v4 v5 v8 v25 v26 v27 : Value) (h : AH) : Prop :=
 EvO (pIndexAddr E 26 (some v25) (some v27)) fun x0 =>
 EvO (rLoad E 54 h (some x0)) fun x1 =>
 Ev s (wNewRow 54 h (zeroV E 54)) fun x2 =>
 Ev s (wStore E 54 x2.2 (some x2.1) (some x1)) fun x3 =>
 P72_6 s K v3 v4 v5 v8 x2.1 v25 v26 v27 x3.2
theorem P72_5_of {v3 v4 v5 v8 v25 v26 v27 : Value} (H : Q72_5 s K v3 v4 v5 v8 v25 v26 v27 h) : P72_5 s K v3 v4 v5 v8 v25 v26 v27 h :=
  step_of (by kernel_rfl) rfl (by kernel_rfl) H
def Q72_6 (s : Bool) (K : KF) (v3 v4 v5 v8 v10 v25 v26 v27 : Value) (h : AH) : Prop :=
 EvO (pIndexAddr E 54 (some v10) (some (.int .i64 0))) fun x0 =>
 EvO (rLoad E 3 h (some x0)) fun x1 =>
 EvO (pFieldAddr E 25 0 (some v3)) fun x2 =>
 EvO (rLoad E 3 h (some x2)) fun x3 =>
 EvO (binFast E .geq 3 x1 x3) fun x4 =>
 EvO (some x4) fun x5 =>
 EvO (gdB x5 false (pIndexAddr E 54 (some v10) (some (.int .i64 1)))) fun x6 =>
 EvO (gdB x5 false (rLoad E 3 h (some x6))) fun x7 =>
 EvO (gdB x5 false (pFieldAddr E 25 0 (some v4))) fun x8 =>
 EvO (gdB x5 false (rLoad E 3 h (some x8))) fun x9 =>
 EvO (gdB x5 false (binFast E .geq 3 x7 x9)) fun x10 =>
 EvO (pickV (some x5) (some (.bool true)) (some x10)) fun x11 =>
 BrK (some x11) (P72_7 s K  h) (P72_8 s K v3 v4 v5 v8 v10 v25 v26 v27 h)
theorem P72_6_of {v3 v4 v5 v8 v10 v25 v26 v27 : Value} (H : Q72_6 s K v3 v4 v5 v8 v10 v25 v26 v27 h) : P72_6 s K v3 v4 v5 v8 v10 v25 v26 v27 h :=
  step_of (by kernel_rfl) rfl (by kernel_rfl) H
def Q72_7 (s : Bool) (K : KF) (h : AH) : Prop :=
 EvO (α := Value) (some (.bool false)) fun x0 =>
 K .ret [x0] h
theorem P72_7_of (H : Q72_7 s K h) : P72_7 s K h :=
  step_of (by kernel_rfl) rfl (by kernel_rfl) H
def Q72_8 (s : Bool) (K : KF) (v3 v4 v5 v8 v10 v25 v26 v27 : Value) (h : AH) : Prop :=
 EvO (pFieldAddr E 176 2 (some v8)) fun x0 =>
 EvO (rLoad E 174 h (some x0)) fun x1 =>
 EvO (rLoad E 54 h (some v10)) fun x2 =>
 Ev s (wMapUpdate E 174 (some x1) (some x2) (some (.bool true)) h) fun x3 =>
 P72_9 s K v3 v4 v5 v8 v25 v26 v27 x3.2
theorem P72_8_of {v3 v4 v5 v8 v10 v25 v26 v27 : Value} (H : Q72_8 s K v3 v4 v5 v8 v10 v25 v26 v27 h) : P72_8 s K v3 v4 v5 v8 v10 v25 v26 v27 h :=
  step_of (by kernel_rfl) rfl (by kernel_rfl) H
def Q72_9 (s : Bool) (K : KF) (v3 v4 v5 v8 v25 v26 v27 : Value) (h : AH) : Prop :=
 EvO (binFast E .add 3 v27 (.int .i64 1)) fun x0 =>
 EvO (some x0) fun x1 =>
 P72_4 s K v3 v4 v5 v8 v25 v26 x1 h
theorem P72_9_of {v3 v4 v5 v8 v25 v26 v27 : Value} (H : Q72_9 s K v3 v4 v5 v8 v25 v26 v27 h) : P72_9 s K v3 v4 v5 v8 v25 v26 v27 h :=
  step_of (by kernel_rfl) rfl (by kernel_rfl) H
def Q72_10 (s : Bool) (K : KF) (v5 v8 : Value) (h : AH) : Prop :=
 EvO (pFieldAddr E 32 0 (some v5)) fun x1 =>
 EvO (rLoad E 3 h (some x1)) fun x2 =>
 s = false ∧ (Ev s (wCallV (recI E) (some (.func (.func 79) #[] #[])) (some []) h) fun x0 =>
 EvO (rLoad E 3 x0.2 (some x1)) fun u0_2 => veq 100 u0_2 x2 = true ∧
 (EvO (pIndex E 113 (some x0.1) (some x2)) fun x3 =>
 Ev s (wNewRow 112 x0.2 (zeroV E 112)) fun x4 =>
 EvO (rLoad E 3 x4.2 (some x1)) fun u4_2 => veq 100 u4_2 x2 = true ∧
 (Ev s (wStore E 112 x4.2 (some x4.1) (some x3)) fun x5 =>
 P72_11 s K v8 x4.1 x5.2))) ∧ (Ev s (wNewRow 112 h (zeroV E 112)) fun x4 =>
 EvO (rLoad E 3 x4.2 (some x1)) fun u4_2 => veq 100 u4_2 x2 = true ∧
 (Ev s (wCallV (recI E) (some (.func (.func 79) #[] #[])) (some []) x4.2) fun x0 =>
 EvO (rLoad E 3 x0.2 (some x1)) fun u0_2 => veq 100 u0_2 x2 = true ∧
 (EvO (pIndex E 113 (some x0.1) (some x2)) fun x3 =>
 Ev s (wStore E 112 x0.2 (some x4.1) (some x3)) fun x5 =>
 P72_11 s K v8 x4.1 x5.2)))
theorem P72_10_of {v5 v8 : Value} (H : Q72_10 s K v5 v8 h) : P72_10 s K v5 v8 h :=
  step_of (by kernel_rfl) rfl (by kernel_rfl) H
def Q72_11 (s : Bool) (K : KF) (v8 v11 : Value) (h : AH) : Prop :=
 EvO (rLoad E 176 h (some v8)) fun x0 =>
 Ev s (wCallV (recI E) (some (.func (.func 123) #[] #[])) (some [x0, (.int .i64 0), (.int .i64 0)]) h) fun x1 =>
 EvO (some x1.1) fun x2 =>
 EvO (gdB x2 true (rLoad E 176 x1.2 (some v8))) fun x3 =>
 EvO (gdB x2 true (pBuild E 178 (some [(0, x3)]))) fun x4 =>
 EvO (gdB x2 true (rLoad E 112 x1.2 (some v11))) fun x5 =>
 Ev s (gdW x2 true (wCallV (recI E) (some (.func (.func 124) #[] #[])) (some [x4, x5]) x1.2) x1.2) fun x6 =>
 EvO (pickV (some x2) (some x6.1) (some (.bool false))) fun x7 =>
 EvO (some x7) fun x8 =>
 EvO (gdB x8 true (rLoad E 176 x6.2 (some v8))) fun x9 =>
 EvO (gdB x8 true (rLoad E 112 x6.2 (some v11))) fun x12 =>
 Ev s (gdW x8 true (wCallV (recI E) (some (.func (.func 125) #[] #[])) (some [x9]) x6.2) x6.2) fun x10 =>
 EvO (gdB x8 true (rLoad E 112 x10.2 (some v11))) fun u10_12 => veq 100 u10_12 x12 = true ∧
 (EvO (gdB x8 true (pBuild E 178 (some [(0, x10.1)]))) fun x11 =>
 Ev s (gdW x8 true (wCallV (recI E) (some (.func (.func 124) #[] #[])) (some [x11, x12]) x10.2) x10.2) fun x13 =>
 EvO (pickV (some x8) (some x13.1) (some (.bool false))) fun x14 =>
 EvO (some x14) fun x15 =>
 K .ret [x15] x13.2)
theorem P72_11_of {v8 v11 : Value} (H : Q72_11 s K v8 v11 h) : P72_11 s K v8 v11 h :=
  step_of (by kernel_rfl) rfl (by kernel_rfl) H
theorem F72_ev {s : Bool} {v0 v1 v2 : Value} {h : AH} {Rp : Value → AH → Prop} (H : P72_0 s (KR E [.tmp 6] Rp) v0 v1 v2 h) :
 Ev s (R.andThen (evC E (recI E) none (bodyOf Tryz.f72) ⟨⟨Tryz.f72.ntmps, initT [v0, v1, v2] 0 .e⟩, h, []⟩) (endCall E Tryz.f72)) fun x => Rp x.1 x.2 :=
  call_ev (C := C72 s) rfl rfl ⟨rfl, rfl, by kernel_rfl, rfl⟩ (by kernel_rfl) (by kernel_rfl) ((by kernel_rfl : contK (C72 s) (KR E Tryz.f72.results.toList Rp) 30 (rs B72 60 (.at [])) (tmOf (zipL 0 [v0, v1, v2])) h = (P72_0 s (KR E [.tmp 6] Rp) v0 v1 v2 h)).mpr H)
theorem F72_get : E.tab.fn.get 72 = some Tryz.f72 := by kernel_rfl
theorem F72_body : Tryz.f72.body = some B72 := by kernel_rfl
theorem F72_sum (l : List Value) (h : AH) : E.sum 72 l h = none := by kernel_rfl
theorem F72_flat {s : Bool} {v0 v1 v2 : Value} {h : AH} {v : Value} (hok : h.ok) (hv : isScalar v = true) (H : P72_0 s (KR E [.tmp 6] (fun x k => x = v ∧ h.next ≤ k.wm)) v0 v1 v2 h.fresh) : (recI E).call 72 [v0, v1, v2] h = some [(v, h)] :=
  call_flat (s := s) hok F72_get F72_body (F72_sum _ _) (by kernel_rfl) hv (F72_ev (Rp := fun x k => x = v ∧ h.next ≤ k.wm) H)
noncomputable def B73 : Code := bodyOf Tryz.f73
noncomputable def C73 (s : Bool) : Cx := ⟨E, s, none, B73, [([0], [0, 1]), ([1, 0, 0], [0, 1]), ([1, 0, 1, 0, 0, 0], [0, 1, 7, 8]), ([1, 0, 1, 0, 0, 1, 1, 0, 0, 0], [0, 1, 7, 8]), ([1, 0, 1, 0, 0, 1, 1, 0, 0, 1, 0], [0, 1, 5, 7, 8]), ([1, 0, 1, 0, 0, 1, 1, 0, 0, 1, 1, 0, 0], [5]), ([1, 0, 1, 0, 0, 1, 1, 1], [0, 1, 7, 8]), ([1, 1, 0], [])], [4], []⟩
def P73_0 (s : Bool) (K : KF) (v0 v1 : Value) (h : AH) : Prop := SP (C73 s ) K [0] [(0, v0), (1, v1)] h
def P73_1 (s : Bool) (K : KF) (v0 v1 : Value) (h : AH) : Prop := SP (C73 s ) K [1, 0, 0] [(0, v0), (1, v1)] h
def P73_2 (s : Bool) (K : KF) (v0 v1 v7 v8 : Value) (h : AH) : Prop := SP (C73 s ) K [1, 0, 1, 0, 0, 0] [(0, v0), (1, v1), (7, v7), (8, v8)] h
def P73_3 (s : Bool) (K : KF) (v0 v1 v7 v8 : Value) (h : AH) : Prop := SP (C73 s ) K [1, 0, 1, 0, 0, 1, 1, 0, 0, 0] [(0, v0), (1, v1), (7, v7), (8, v8)] h
def P73_4 (s : Bool) (K : KF) (v0 v1 v5 v7 v8 : Value) (h : AH) : Prop := SP (C73 s ) K [1, 0, 1, 0, 0, 1, 1, 0, 0, 1, 0] [(0, v0), (1, v1), (5, v5), (7, v7), (8, v8)] h
def P73_5 (s : Bool) (K : KF) (v5 : Value) (h : AH) : Prop := SP (C73 s ) K [1, 0, 1, 0, 0, 1, 1, 0, 0, 1, 1, 0, 0] [(5, v5)] h
def P73_6 (s : Bool) (K : KF) (v0 v1 v7 v8 : Value) (h : AH) : Prop := SP (C73 s ) K [1, 0, 1, 0, 0, 1, 1, 1] [(0, v0), (1, v1), (7, v7), (8, v8)] h
def P73_7 (s : Bool) (K : KF) (h : AH) : Prop := SP (C73 s ) K [1, 1, 0] [] h
def Q73_0 (s : Bool) (K : KF) (v0 v1 : Value) (h : AH) : Prop :=
 EvO (α := Value) (some (.int .i64 0)) fun x0 =>
 P73_1 s K v0 v1 h
theorem P73_0_of {v0 v1 : Value} (H : Q73_0 s K v0 v1 h) : P73_0 s K v0 v1 h :=
  step_of (by kernel_rfl) rfl (by kernel_rfl) H
def Q73_1 (s : Bool) (K : KF) (v0 v1 : Value) (h : AH) : Prop :=
 EvO (some v0) fun x0 =>
 EvO (evRead E (tmOf [(6, x0)]) (opAt B73 [1, 0, 0] 1) h) fun x1 =>
 EvO (α := Value) (some (.int .i64 0)) fun x2 =>
 P73_2 s K v0 v1 x1 x2 h
theorem P73_1_of {v0 v1 : Value} (H : Q73_1 s K v0 v1 h) : P73_1 s K v0 v1 h :=
  step_of (by kernel_rfl) rfl (by kernel_rfl) H
theorem len73_1_1 : evRead E (tmOf [(6, .slice a n c)]) (opAt B73 [1, 0, 0] 1) h = some (.int .i64 (n : Int)) := by cases a <;> kernel_rfl
def Q73_2 (s : Bool) (K : KF) (v0 v1 v7 v8 : Value) (h : AH) : Prop :=
 EvO (binFast E .lss 3 v8 v7) fun x0 =>
 BrK (some x0) (P73_3 s K v0 v1 v7 v8 h) (P73_7 s K  h)
theorem P73_2_of {v0 v1 v7 v8 : Value} (H : Q73_2 s K v0 v1 v7 v8 h) : P73_2 s K v0 v1 v7 v8 h :=
  step_of (by kernel_rfl) rfl (by kernel_rfl) H
def Q73_3 (s : Bool) (K : KF) (v0 v1 v7 v8 : Value) (h : AH) : Prop :=
 EvO (some v8) fun x0 =>
 EvO (some x0) fun x1 =>
 P73_4 s K v0 v1 x1 v7 v8 h
theorem P73_3_of {v0 v1 v7 v8 : Value} (H : Q73_3 s K v0 v1 v7 v8 h) : P73_3 s K v0 v1 v7 v8 h :=
  step_of (by kernel_rfl) rfl (by kernel_rfl) H
def Q73_4 (s : Bool) (K : KF) (v0 v1 v5 v7 v8 : Value) (h : AH) : Prop :=
 EvO (some v1) fun x0 =>
 EvO (some v0) fun x1 =>
 EvO (some v5) fun x2 =>
 EvO (pIndexAddr E 22 (some x1) (some x2)) fun x3 =>
 EvO (rLoad E 36 h (some x3)) fun x4 =>
 Ev s (wCallV (recI E) (some x0) (some [x4]) h) fun x5 =>
 BrK (some x5.1) (P73_5 s K v5 x5.2) (P73_6 s K v0 v1 v7 v8 x5.2)
theorem P73_4_of {v0 v1 v5 v7 v8 : Value} (H : Q73_4 s K v0 v1 v5 v7 v8 h) : P73_4 s K v0 v1 v5 v7 v8 h :=
  step_of (by kernel_rfl) rfl (by kernel_rfl) H
def Q73_5 (s : Bool) (K : KF) (v5 : Value) (h : AH) : Prop :=
 EvO (some v5) fun x0 =>
 EvO (some x0) fun x1 =>
 K .ret [x1] h
theorem P73_5_of {v5 : Value} (H : Q73_5 s K v5 h) : P73_5 s K v5 h :=
  step_of (by kernel_rfl) rfl (by kernel_rfl) H
def Q73_6 (s : Bool) (K : KF) (v0 v1 v7 v8 : Value) (h : AH) : Prop :=
 EvO (binFast E .add 3 v8 (.int .i64 1)) fun x0 =>
 EvO (some x0) fun x1 =>
 P73_2 s K v0 v1 v7 x1 h
theorem P73_6_of {v0 v1 v7 v8 : Value} (H : Q73_6 s K v0 v1 v7 v8 h) : P73_6 s K v0 v1 v7 v8 h :=
  step_of (by kernel_rfl) rfl (by kernel_rfl) H
def Q73_7 (s : Bool) (K : KF) (h : AH) : Prop :=
 EvO (α := Value) (some (.int .i64 (-1))) fun x0 =>
 K .ret [x0] h
theorem P73_7_of (H : Q73_7 s K h) : P73_7 s K h :=
  step_of (by kernel_rfl) rfl (by kernel_rfl) H
theorem F73_ev {s : Bool} {v0 v1 : Value} {h : AH} {Rp : Value → AH → Prop} (H : P73_0 s (KR E [.tmp 4] Rp) v0 v1 h) :
 Ev s (R.andThen (evC E (recI E) none (bodyOf Tryz.f73) ⟨⟨Tryz.f73.ntmps, initT [v0, v1] 0 .e⟩, h, []⟩) (endCall E Tryz.f73)) fun x => Rp x.1 x.2 :=
  call_ev (C := C73 s) rfl rfl ⟨rfl, rfl, by kernel_rfl, rfl⟩ (by kernel_rfl) (by kernel_rfl) ((by kernel_rfl : contK (C73 s) (KR E Tryz.f73.results.toList Rp) 30 (rs B73 60 (.at [])) (tmOf (zipL 0 [v0, v1])) h = (P73_0 s (KR E [.tmp 4] Rp) v0 v1 h)).mpr H)
theorem F73_get : E.tab.fn.get 73 = some Tryz.f73 := by kernel_rfl
theorem F73_body : Tryz.f73.body = some B73 := by kernel_rfl
theorem F73_sum (l : List Value) (h : AH) : E.sum 73 l h = none := by kernel_rfl
theorem F73_flat {s : Bool} {v0 v1 : Value} {h : AH} {v : Value} (hok : h.ok) (hv : isScalar v = true) (H : P73_0 s (KR E [.tmp 4] (fun x k => x = v ∧ h.next ≤ k.wm)) v0 v1 h.fresh) : (recI E).call 73 [v0, v1] h = some [(v, h)] :=
  call_flat (s := s) hok F73_get F73_body (F73_sum _ _) (by kernel_rfl) hv (F73_ev (Rp := fun x k => x = v ∧ h.next ≤ k.wm) H)
noncomputable def B79 : Code := bodyOf Tryz.f79
noncomputable def C79 (s : Bool) : Cx := ⟨E, s, none, B79, [([0], []), ([1, 0], [0])], [0], []⟩
def P79_0 (s : Bool) (K : KF) (h : AH) : Prop := SP (C79 s ) K [0] [] h
def P79_1 (s : Bool) (K : KF) (v0 : Value) (h : AH) : Prop := SP (C79 s ) K [1, 0] [(0, v0)] h
def Q79_0 (s : Bool) (K : KF) (h : AH) : Prop :=
 Ev s (wNewRow 113 h (zeroV E 113)) fun x0 =>
 P79_1 s K x0.1 x0.2
theorem P79_0_of (H : Q79_0 s K h) : P79_0 s K h :=
  step_of (by kernel_rfl) rfl (by kernel_rfl) H
def Q79_1 (s : Bool) (K : KF) (v0 : Value) (h : AH) : Prop :=
 EvO (pBuild E 112 (some [(0, (.func (.func 128) #[] #[])), (1, (.func (.func 129) #[] #[])), (2, (.string ⟨#[115, 116, 114, 111, 110, 103]⟩))])) fun x0 =>
 EvO (pBuild E 112 (some [(0, (.func (.func 130) #[] #[])), (1, (.func (.func 131) #[] #[])), (2, (.string ⟨#[98, 114, 97, 110, 99, 104, 105, 110, 103]⟩))])) fun x1 =>
 EvO (pBuild E 113 (some [(1, x0), (2, x1)])) fun x2 =>
 Ev s (wStore E 113 h (some v0) (some x2)) fun x3 =>
 K .ret [v0] x3.2
theorem P79_1_of {v0 : Value} (H : Q79_1 s K v0 h) : P79_1 s K v0 h :=
  step_of (by kernel_rfl) rfl (by kernel_rfl) H
theorem F79_ev {s : Bool}  {h : AH} {Rp : Value → AH → Prop} (H : P79_0 s (KR E [.cell 0 113] Rp)  h) :
 Ev s (R.andThen (evC E (recI E) none (bodyOf Tryz.f79) ⟨⟨Tryz.f79.ntmps, initT [] 0 .e⟩, h, []⟩) (endCall E Tryz.f79)) fun x => Rp x.1 x.2 :=
  call_ev (C := C79 s) rfl rfl ⟨rfl, rfl, by kernel_rfl, rfl⟩ (by kernel_rfl) (by kernel_rfl) ((by kernel_rfl : contK (C79 s) (KR E Tryz.f79.results.toList Rp) 30 (rs B79 60 (.at [])) (tmOf (zipL 0 [])) h = (P79_0 s (KR E [.cell 0 113] Rp)  h)).mpr H)
theorem F79_get : E.tab.fn.get 79 = some Tryz.f79 := by kernel_rfl
theorem F79_body : Tryz.f79.body = some B79 := by kernel_rfl
theorem F79_sum (l : List Value) (h : AH) : E.sum 79 l h = none := by kernel_rfl
theorem F79_flat1 {h : AH} {v : Value} (hok : h.ok) (hv : isFlat v = true) (H : P79_0 true (KR E [.cell 0 113] (fun x k => x = v ∧ h.next ≤ k.wm))  h.fresh) : (recI E).call 79 [] h = some [(v, h)] :=
  call_flat1 hok F79_get F79_body (F79_sum _ _) (by kernel_rfl) hv (F79_ev (Rp := fun x k => x = v ∧ h.next ≤ k.wm) H)
noncomputable def B90 : Code := bodyOf Tryz.f90
noncomputable def C90 (s : Bool) : Cx := ⟨E, s, none, B90, [([0], [0]), ([1, 0], [0]), ([1, 1, 0, 0], [0, 3]), ([1, 1, 0, 1, 0, 0, 0], [0, 3, 17, 18, 19]), ([1, 1, 0, 1, 0, 0, 1, 1, 0, 0, 0], [0, 3, 17, 18, 19]), ([1, 1, 0, 1, 0, 0, 1, 1, 0, 0, 1, 0], [0, 3, 5, 17, 18, 19]), ([1, 1, 0, 1, 0, 0, 1, 1, 0, 0, 1, 1, 0, 0, 0], [0, 3, 17, 18, 19, 24, 25, 26]), ([1, 1, 0, 1, 0, 0, 1, 1, 0, 0, 1, 1, 0, 0, 1, 1, 0, 0, 0], [0, 3, 17, 18, 19, 24, 25, 26]), ([1, 1, 0, 1, 0, 0, 1, 1, 0, 0, 1, 1, 0, 0, 1, 1, 0, 0, 1], [0, 3, 7, 17, 18, 19, 24, 25, 26]), ([1, 1, 0, 1, 0, 0, 1, 1, 0, 0, 1, 1, 0, 0, 1, 1, 1], [0, 3, 17, 18, 19, 24, 25, 26]), ([1, 1, 0, 1, 0, 0, 1, 1, 1], [0, 3, 17, 18, 19]), ([1, 1, 1, 0], [0, 3]), ([1, 1, 1, 1, 0, 0], [0, 3, 8]), ([1, 1, 1, 1, 0, 1, 0, 0, 0], [3, 8, 34, 35, 36]), ([1, 1, 1, 1, 0, 1, 0, 0, 1, 1, 0, 0, 0], [3, 8, 34, 35, 36]), ([1, 1, 1, 1, 0, 1, 0, 0, 1, 1, 0, 0, 1, 0], [3, 8, 10, 34, 35, 36]), ([1, 1, 1, 1, 0, 1, 0, 0, 1, 1, 0, 0, 1, 1, 0], [3, 8, 10, 11, 34, 35, 36]), ([1, 1, 1, 1, 0, 1, 0, 0, 1, 1, 0, 0, 1, 1, 1, 0, 0], [3, 8, 10, 11, 12, 34, 35, 36]), ([1, 1, 1, 1, 0, 1, 0, 0, 1, 1, 0, 0, 1, 1, 1, 0, 1, 0, 0, 0], [3, 8, 10, 11, 12, 34, 35, 36, 50, 51, 52]), ([1, 1, 1, 1, 0, 1, 0, 0, 1, 1, 0, 0, 1, 1, 1, 0, 1, 0, 0, 1, 1, 0, 0, 0], [3, 8, 10, 11, 12, 34, 35, 36, 50, 51, 52]), ([1, 1, 1, 1, 0, 1, 0, 0, 1, 1, 0, 0, 1, 1, 1, 0, 1, 0, 0, 1, 1, 0, 0, 1], [3, 8, 10, 11, 12, 13, 14, 34, 35, 36, 50, 51, 52]), ([1, 1, 1, 1, 0, 1, 0, 0, 1, 1, 0, 0, 1, 1, 1, 0, 1, 0, 0, 1, 1, 1], [3, 8, 10, 11, 12, 34, 35, 36, 50, 51, 52]), ([1, 1, 1, 1, 0, 1, 0, 0, 1, 1, 0, 0, 1, 1, 1, 1, 0, 0], [3, 8, 10, 11, 12, 34, 35, 36]), ([1, 1, 1, 1, 0, 1, 0, 0, 1, 1, 0, 0, 1, 1, 1, 1, 0, 1, 0, 0, 0], [3, 8, 11, 12, 34, 35, 36, 64, 65, 66]), ([1, 1, 1, 1, 0, 1, 0, 0, 1, 1, 0, 0, 1, 1, 1, 1, 0, 1, 0, 0, 1, 1, 0, 0, 0], [3, 8, 11, 12, 34, 35, 36, 64, 65, 66]), ([1, 1, 1, 1, 0, 1, 0, 0, 1, 1, 0, 0, 1, 1, 1, 1, 0, 1, 0, 0, 1, 1, 0, 0, 1], [3, 8, 11, 12, 16, 34, 35, 36, 64, 65, 66]), ([1, 1, 1, 1, 0, 1, 0, 0, 1, 1, 0, 0, 1, 1, 1, 1, 0, 1, 0, 0, 1, 1, 1], [3, 8, 11, 12, 34, 35, 36, 64, 65, 66]), ([1, 1, 1, 1, 0, 1, 0, 0, 1, 1, 0, 0, 1, 1, 1, 1, 1], [3, 8, 11, 34, 35, 36]), ([1, 1, 1, 1, 0, 1, 0, 0, 1, 1, 1], [3, 8, 34, 35, 36]), ([1, 1, 1, 1, 1, 0], [8])], [2], []⟩
def P90_0 (s : Bool) (K : KF) (v0 : Value) (h : AH) : Prop := SP (C90 s ) K [0] [(0, v0)] h
def P90_1 (s : Bool) (K : KF) (v0 : Value) (h : AH) : Prop := SP (C90 s ) K [1, 0] [(0, v0)] h
def P90_2 (s : Bool) (K : KF) (v0 v3 : Value) (h : AH) : Prop := SP (C90 s ) K [1, 1, 0, 0] [(0, v0), (3, v3)] h
def P90_3 (s : Bool) (K : KF) (v0 v3 v17 v18 v19 : Value) (h : AH) : Prop := SP (C90 s ) K [1, 1, 0, 1, 0, 0, 0] [(0, v0), (3, v3), (17, v17), (18, v18), (19, v19)] h
def P90_4 (s : Bool) (K : KF) (v0 v3 v17 v18 v19 : Value) (h : AH) : Prop := SP (C90 s ) K [1, 1, 0, 1, 0, 0, 1, 1, 0, 0, 0] [(0, v0), (3, v3), (17, v17), (18, v18), (19, v19)] h
def P90_5 (s : Bool) (K : KF) (v0 v3 v5 v17 v18 v19 : Value) (h : AH) : Prop := SP (C90 s ) K [1, 1, 0, 1, 0, 0, 1, 1, 0, 0, 1, 0] [(0, v0), (3, v3), (5, v5), (17, v17), (18, v18), (19, v19)] h
def P90_6 (s : Bool) (K : KF) (v0 v3 v17 v18 v19 v24 v25 v26 : Value) (h : AH) : Prop := SP (C90 s ) K [1, 1, 0, 1, 0, 0, 1, 1, 0, 0, 1, 1, 0, 0, 0] [(0, v0), (3, v3), (17, v17), (18, v18), (19, v19), (24, v24), (25, v25), (26, v26)] h
def P90_7 (s : Bool) (K : KF) (v0 v3 v17 v18 v19 v24 v25 v26 : Value) (h : AH) : Prop := SP (C90 s ) K [1, 1, 0, 1, 0, 0, 1, 1, 0, 0, 1, 1, 0, 0, 1, 1, 0, 0, 0] [(0, v0), (3, v3), (17, v17), (18, v18), (19, v19), (24, v24), (25, v25), (26, v26)] h
def P90_8 (s : Bool) (K : KF) (v0 v3 v7 v17 v18 v19 v24 v25 v26 : Value) (h : AH) : Prop := SP (C90 s ) K [1, 1, 0, 1, 0, 0, 1, 1, 0, 0, 1, 1, 0, 0, 1, 1, 0, 0, 1] [(0, v0), (3, v3), (7, v7), (17, v17), (18, v18), (19, v19), (24, v24), (25, v25), (26, v26)] h
def P90_9 (s : Bool) (K : KF) (v0 v3 v17 v18 v19 v24 v25 v26 : Value) (h : AH) : Prop := SP (C90 s ) K [1, 1, 0, 1, 0, 0, 1, 1, 0, 0, 1, 1, 0, 0, 1, 1, 1] [(0, v0), (3, v3), (17, v17), (18, v18), (19, v19), (24, v24), (25, v25), (26, v26)] h
def P90_10 (s : Bool) (K : KF) (v0 v3 v17 v18 v19 : Value) (h : AH) : Prop := SP (C90 s ) K [1, 1, 0, 1, 0, 0, 1, 1, 1] [(0, v0), (3, v3), (17, v17), (18, v18), (19, v19)] h
def P90_11 (s : Bool) (K : KF) (v0 v3 : Value) (h : AH) : Prop := SP (C90 s ) K [1, 1, 1, 0] [(0, v0), (3, v3)] h
def P90_12 (s : Bool) (K : KF) (v0 v3 v8 : Value) (h : AH) : Prop := SP (C90 s ) K [1, 1, 1, 1, 0, 0] [(0, v0), (3, v3), (8, v8)] h
def P90_13 (s : Bool) (K : KF) (v3 v8 v34 v35 v36 : Value) (h : AH) : Prop := SP (C90 s ) K [1, 1, 1, 1, 0, 1, 0, 0, 0] [(3, v3), (8, v8), (34, v34), (35, v35), (36, v36)] h
def P90_14 (s : Bool) (K : KF) (v3 v8 v34 v35 v36 : Value) (h : AH) : Prop := SP (C90 s ) K [1, 1, 1, 1, 0, 1, 0, 0, 1, 1, 0, 0, 0] [(3, v3), (8, v8), (34, v34), (35, v35), (36, v36)] h
def P90_15 (s : Bool) (K : KF) (v3 v8 v10 v34 v35 v36 : Value) (h : AH) : Prop := SP (C90 s ) K [1, 1, 1, 1, 0, 1, 0, 0, 1, 1, 0, 0, 1, 0] [(3, v3), (8, v8), (10, v10), (34, v34), (35, v35), (36, v36)] h
def P90_16 (s : Bool) (K : KF) (v3 v8 v10 v11 v34 v35 v36 : Value) (h : AH) : Prop := SP (C90 s ) K [1, 1, 1, 1, 0, 1, 0, 0, 1, 1, 0, 0, 1, 1, 0] [(3, v3), (8, v8), (10, v10), (11, v11), (34, v34), (35, v35), (36, v36)] h
def P90_17 (s : Bool) (K : KF) (v3 v8 v10 v11 v12 v34 v35 v36 : Value) (h : AH) : Prop := SP (C90 s ) K [1, 1, 1, 1, 0, 1, 0, 0, 1, 1, 0, 0, 1, 1, 1, 0, 0] [(3, v3), (8, v8), (10, v10), (11, v11), (12, v12), (34, v34), (35, v35), (36, v36)] h
def P90_18 (s : Bool) (K : KF) (v3 v8 v10 v11 v12 v34 v35 v36 v50 v51 v52 : Value) (h : AH) : Prop := SP (C90 s ) K [1, 1, 1, 1, 0, 1, 0, 0, 1, 1, 0, 0, 1, 1, 1, 0, 1, 0, 0, 0] [(3, v3), (8, v8), (10, v10), (11, v11), (12, v12), (34, v34), (35, v35), (36, v36), (50, v50), (51, v51), (52, v52)] h
def P90_19 (s : Bool) (K : KF) (v3 v8 v10 v11 v12 v34 v35 v36 v50 v51 v52 : Value) (h : AH) : Prop := SP (C90 s ) K [1, 1, 1, 1, 0, 1, 0, 0, 1, 1, 0, 0, 1, 1, 1, 0, 1, 0, 0, 1, 1, 0, 0, 0] [(3, v3), (8, v8), (10, v10), (11, v11), (12, v12), (34, v34), (35, v35), (36, v36), (50, v50), (51, v51), (52, v52)] h
def P90_20 (s : Bool) (K : KF) (v3 v8 v10 v11 v12 v13 v14 v34 v35 v36 v50 v51 v52 : Value) (h : AH) : Prop := SP (C90 s ) K [1, 1, 1, 1, 0, 1, 0, 0, 1, 1, 0, 0, 1, 1, 1, 0, 1, 0, 0, 1, 1, 0, 0, 1] [(3, v3), (8, v8), (10, v10), (11, v11), (12, v12), (13, v13), (14, v14), (34, v34), (35, v35), (36, v36), (50, v50), (51, v51), (52, v52)] h
def P90_21 (s : Bool) (K : KF) (v3 v8 v10 v11 v12 v34 v35 v36 v50 v51 v52 : Value) (h : AH) : Prop := SP (C90 s ) K [1, 1, 1, 1, 0, 1, 0, 0, 1, 1, 0, 0, 1, 1, 1, 0, 1, 0, 0, 1, 1, 1] [(3, v3), (8, v8), (10, v10), (11, v11), (12, v12), (34, v34), (35, v35), (36, v36), (50, v50), (51, v51), (52, v52)] h
def P90_22 (s : Bool) (K : KF) (v3 v8 v10 v11 v12 v34 v35 v36 : Value) (h : AH) : Prop := SP (C90 s ) K [1, 1, 1, 1, 0, 1, 0, 0, 1, 1, 0, 0, 1, 1, 1, 1, 0, 0] [(3, v3), (8, v8), (10, v10), (11, v11), (12, v12), (34, v34), (35, v35), (36, v36)] h
def P90_23 (s : Bool) (K : KF) (v3 v8 v11 v12 v34 v35 v36 v64 v65 v66 : Value) (h : AH) : Prop := SP (C90 s ) K [1, 1, 1, 1, 0, 1, 0, 0, 1, 1, 0, 0, 1, 1, 1, 1, 0, 1, 0, 0, 0] [(3, v3), (8, v8), (11, v11), (12, v12), (34, v34), (35, v35), (36, v36), (64, v64), (65, v65), (66, v66)] h
def P90_24 (s : Bool) (K : KF) (v3 v8 v11 v12 v34 v35 v36 v64 v65 v66 : Value) (h : AH) : Prop := SP (C90 s ) K [1, 1, 1, 1, 0, 1, 0, 0, 1, 1, 0, 0, 1, 1, 1, 1, 0, 1, 0, 0, 1, 1, 0, 0, 0] [(3, v3), (8, v8), (11, v11), (12, v12), (34, v34), (35, v35), (36, v36), (64, v64), (65, v65), (66, v66)] h
def P90_25 (s : Bool) (K : KF) (v3 v8 v11 v12 v16 v34 v35 v36 v64 v65 v66 : Value) (h : AH) : Prop := SP (C90 s ) K [1, 1, 1, 1, 0, 1, 0, 0, 1, 1, 0, 0, 1, 1, 1, 1, 0, 1, 0, 0, 1, 1, 0, 0, 1] [(3, v3), (8, v8), (11, v11), (12, v12), (16, v16), (34, v34), (35, v35), (36, v36), (64, v64), (65, v65), (66, v66)] h
def P90_26 (s : Bool) (K : KF) (v3 v8 v11 v12 v34 v35 v36 v64 v65 v66 : Value) (h : AH) : Prop := SP (C90 s ) K [1, 1, 1, 1, 0, 1, 0, 0, 1, 1, 0, 0, 1, 1, 1, 1, 0, 1, 0, 0, 1, 1, 1] [(3, v3), (8, v8), (11, v11), (12, v12), (34, v34), (35, v35), (36, v36), (64, v64), (65, v65), (66, v66)] h
def P90_27 (s : Bool) (K : KF) (v3 v8 v11 v34 v35 v36 : Value) (h : AH) : Prop := SP (C90 s ) K [1, 1, 1, 1, 0, 1, 0, 0, 1, 1, 0, 0, 1, 1, 1, 1, 1] [(3, v3), (8, v8), (11, v11), (34, v34), (35, v35), (36, v36)] h
def P90_28 (s : Bool) (K : KF) (v3 v8 v34 v35 v36 : Value) (h : AH) : Prop := SP (C90 s ) K [1, 1, 1, 1, 0, 1, 0, 0, 1, 1, 1] [(3, v3), (8, v8), (34, v34), (35, v35), (36, v36)] h
def P90_29 (s : Bool) (K : KF) (v8 : Value) (h : AH) : Prop := SP (C90 s ) K [1, 1, 1, 1, 1, 0] [(8, v8)] h
def Q90_0 (s : Bool) (K : KF) (v0 : Value) (h : AH) : Prop :=
 EvO (α := Value) (some (.slice none 0 0)) fun x0 =>
 P90_1 s K v0 h
theorem P90_0_of {v0 : Value} (H : Q90_0 s K v0 h) : P90_0 s K v0 h :=
  step_of (by kernel_rfl) rfl (by kernel_rfl) H
def Q90_1 (s : Bool) (K : KF) (v0 : Value) (h : AH) : Prop :=
 Ev s (wNewRow 197 h (zeroV E 197)) fun x0 =>
 P90_2 s K v0 x0.1 x0.2
theorem P90_1_of {v0 : Value} (H : Q90_1 s K v0 h) : P90_1 s K v0 h :=
  step_of (by kernel_rfl) rfl (by kernel_rfl) H
def Q90_2 (s : Bool) (K : KF) (v0 v3 : Value) (h : AH) : Prop :=
 EvO (some v0) fun x0 =>
 EvO (evRead E (tmOf [(17, x0)]) (opAt B90 [1, 1, 0, 0] 1) h) fun x1 =>
 EvO (α := Value) (some (.int .i64 0)) fun x2 =>
 P90_3 s K v0 v3 x0 x1 x2 h
theorem P90_2_of {v0 v3 : Value} (H : Q90_2 s K v0 v3 h) : P90_2 s K v0 v3 h :=
  step_of (by kernel_rfl) rfl (by kernel_rfl) H
theorem len90_2_1 : evRead E (tmOf [(17, .slice a n c)]) (opAt B90 [1, 1, 0, 0] 1) h = some (.int .i64 (n : Int)) := by cases a <;> kernel_rfl
def Q90_3 (s : Bool) (K : KF) (v0 v3 v17 v18 v19 : Value) (h : AH) : Prop :=
 EvO (binFast E .lss 3 v19 v18) fun x0 =>
 BrK (some x0) (P90_4 s K v0 v3 v17 v18 v19 h) (P90_11 s K v0 v3 h)
theorem P90_3_of {v0 v3 v17 v18 v19 : Value} (H : Q90_3 s K v0 v3 v17 v18 v19 h) : P90_3 s K v0 v3 v17 v18 v19 h :=
  step_of (by kernel_rfl) rfl (by kernel_rfl) H
def Q90_4 (s : Bool) (K : KF) (v0 v3 v17 v18 v19 : Value) (h : AH) : Prop :=
 EvO (pIndexAddr E 82 (some v17) (some v19)) fun x0 =>
 EvO (rLoad E 25 h (some x0)) fun x1 =>
 Ev s (wNewRow 25 h (zeroV E 25)) fun x2 =>
 Ev s (wStore E 25 x2.2 (some x2.1) (some x1)) fun x3 =>
 P90_5 s K v0 v3 x2.1 v17 v18 v19 x3.2
theorem P90_4_of {v0 v3 v17 v18 v19 : Value} (H : Q90_4 s K v0 v3 v17 v18 v19 h) : P90_4 s K v0 v3 v17 v18 v19 h :=
  step_of (by kernel_rfl) rfl (by kernel_rfl) H
def Q90_5 (s : Bool) (K : KF) (v0 v3 v5 v17 v18 v19 : Value) (h : AH) : Prop :=
 EvO (pFieldAddr E 25 1 (some v5)) fun x0 =>
 EvO (rLoad E 22 h (some x0)) fun x1 =>
 EvO (evRead E (tmOf [(24, x1)]) (opAt B90 [1, 1, 0, 1, 0, 0, 1, 1, 0, 0, 1, 0] 2) h) fun x2 =>
 EvO (α := Value) (some (.int .i64 0)) fun x3 =>
 P90_6 s K v0 v3 v17 v18 v19 x1 x2 x3 h
theorem P90_5_of {v0 v3 v5 v17 v18 v19 : Value} (H : Q90_5 s K v0 v3 v5 v17 v18 v19 h) : P90_5 s K v0 v3 v5 v17 v18 v19 h :=
  step_of (by kernel_rfl) rfl (by kernel_rfl) H
theorem len90_5_2 : evRead E (tmOf [(24, .slice a n c)]) (opAt B90 [1, 1, 0, 1, 0, 0, 1, 1, 0, 0, 1, 0] 2) h = some (.int .i64 (n : Int)) := by cases a <;> kernel_rfl
def Q90_6 (s : Bool) (K : KF) (v0 v3 v17 v18 v19 v24 v25 v26 : Value) (h : AH) : Prop :=
 EvO (binFast E .lss 3 v26 v25) fun x0 =>
 BrK (some x0) (P90_7 s K v0 v3 v17 v18 v19 v24 v25 v26 h) (P90_10 s K v0 v3 v17 v18 v19 h)
theorem P90_6_of {v0 v3 v17 v18 v19 v24 v25 v26 : Value} (H : Q90_6 s K v0 v3 v17 v18 v19 v24 v25 v26 h) : P90_6 s K v0 v3 v17 v18 v19 v24 v25 v26 h :=
  step_of (by kernel_rfl) rfl (by kernel_rfl) H
def Q90_7 (s : Bool) (K : KF) (v0 v3 v17 v18 v19 v24 v25 v26 : Value) (h : AH) : Prop :=
 EvO (pIndexAddr E 22 (some v24) (some v26)) fun x0 =>
 EvO (rLoad E 36 h (some x0)) fun x1 =>
 Ev s (wNewRow 36 h (zeroV E 36)) fun x2 =>
 Ev s (wStore E 36 x2.2 (some x2.1) (some x1)) fun x3 =>
 P90_8 s K v0 v3 x2.1 v17 v18 v19 v24 v25 v26 x3.2
theorem P90_7_of {v0 v3 v17 v18 v19 v24 v25 v26 : Value} (H : Q90_7 s K v0 v3 v17 v18 v19 v24 v25 v26 h) : P90_7 s K v0 v3 v17 v18 v19 v24 v25 v26 h :=
  step_of (by kernel_rfl) rfl (by kernel_rfl) H
def Q90_8 (s : Bool) (K : KF) (v0 v3 v7 v17 v18 v19 v24 v25 v26 : Value) (h : AH) : Prop :=
 EvO (rLoad E 36 h (some v7)) fun x0 =>
 Ev s (wCallV (recI E) (some (.func (.func 143) #[] #[])) (some [v3, x0]) h) fun x1 =>
 P90_9 s K v0 v3 v17 v18 v19 v24 v25 v26 x1.2
theorem P90_8_of {v0 v3 v7 v17 v18 v19 v24 v25 v26 : Value} (H : Q90_8 s K v0 v3 v7 v17 v18 v19 v24 v25 v26 h) : P90_8 s K v0 v3 v7 v17 v18 v19 v24 v25 v26 h :=
  step_of (by kernel_rfl) rfl (by kernel_rfl) H
def Q90_9 (s : Bool) (K : KF) (v0 v3 v17 v18 v19 v24 v25 v26 : Value) (h : AH) : Prop :=
 EvO (binFast E .add 3 v26 (.int .i64 1)) fun x0 =>
 EvO (some x0) fun x1 =>
 P90_6 s K v0 v3 v17 v18 v19 v24 v25 x1 h
theorem P90_9_of {v0 v3 v17 v18 v19 v24 v25 v26 : Value} (H : Q90_9 s K v0 v3 v17 v18 v19 v24 v25 v26 h) : P90_9 s K v0 v3 v17 v18 v19 v24 v25 v26 h :=
  step_of (by kernel_rfl) rfl (by kernel_rfl) H
def Q90_10 (s : Bool) (K : KF) (v0 v3 v17 v18 v19 : Value) (h : AH) : Prop :=
 EvO (binFast E .add 3 v19 (.int .i64 1)) fun x0 =>
 EvO (some x0) fun x1 =>
 P90_3 s K v0 v3 v17 v18 x1 h
theorem P90_10_of {v0 v3 v17 v18 v19 : Value} (H : Q90_10 s K v0 v3 v17 v18 v19 h) : P90_10 s K v0 v3 v17 v18 v19 h :=
  step_of (by kernel_rfl) rfl (by kernel_rfl) H
def Q90_11 (s : Bool) (K : KF) (v0 v3 : Value) (h : AH) : Prop :=
 EvO (α := Value) (some (.slice none 0 0)) fun x0 =>
 P90_12 s K v0 v3 x0 h
theorem P90_11_of {v0 v3 : Value} (H : Q90_11 s K v0 v3 h) : P90_11 s K v0 v3 h :=
  step_of (by kernel_rfl) rfl (by kernel_rfl) H
def Q90_12 (s : Bool) (K : KF) (v0 v3 v8 : Value) (h : AH) : Prop :=
 EvO (some v0) fun x0 =>
 EvO (evRead E (tmOf [(34, x0)]) (opAt B90 [1, 1, 1, 1, 0, 0] 1) h) fun x1 =>
 EvO (α := Value) (some (.int .i64 0)) fun x2 =>
 P90_13 s K v3 v8 x0 x1 x2 h
theorem P90_12_of {v0 v3 v8 : Value} (H : Q90_12 s K v0 v3 v8 h) : P90_12 s K v0 v3 v8 h :=
  step_of (by kernel_rfl) rfl (by kernel_rfl) H
theorem len90_12_1 : evRead E (tmOf [(34, .slice a n c)]) (opAt B90 [1, 1, 1, 1, 0, 0] 1) h = some (.int .i64 (n : Int)) := by cases a <;> kernel_rfl
def Q90_13 (s : Bool) (K : KF) (v3 v8 v34 v35 v36 : Value) (h : AH) : Prop :=
 EvO (binFast E .lss 3 v36 v35) fun x0 =>
 BrK (some x0) (P90_14 s K v3 v8 v34 v35 v36 h) (P90_29 s K v8 h)
theorem P90_13_of {v3 v8 v34 v35 v36 : Value} (H : Q90_13 s K v3 v8 v34 v35 v36 h) : P90_13 s K v3 v8 v34 v35 v36 h :=
  step_of (by kernel_rfl) rfl (by kernel_rfl) H
def Q90_14 (s : Bool) (K : KF) (v3 v8 v34 v35 v36 : Value) (h : AH) : Prop :=
 EvO (pIndexAddr E 82 (some v34) (some v36)) fun x0 =>
 EvO (rLoad E 25 h (some x0)) fun x1 =>
 Ev s (wNewRow 25 h (zeroV E 25)) fun x2 =>
 Ev s (wStore E 25 x2.2 (some x2.1) (some x1)) fun x3 =>
 P90_15 s K v3 v8 x2.1 v34 v35 v36 x3.2
theorem P90_14_of {v3 v8 v34 v35 v36 : Value} (H : Q90_14 s K v3 v8 v34 v35 v36 h) : P90_14 s K v3 v8 v34 v35 v36 h :=
  step_of (by kernel_rfl) rfl (by kernel_rfl) H
def Q90_15 (s : Bool) (K : KF) (v3 v8 v10 v34 v35 v36 : Value) (h : AH) : Prop :=
 EvO (pFieldAddr E 25 0 (some v10)) fun x0 =>
 EvO (rLoad E 3 h (some x0)) fun x1 =>
 Ev s (wMakeSlice E 129 (some x1) (some x1) h) fun x2 =>
 EvO (pBuild E 131 (some [(0, x2.1)])) fun x3 =>
 Ev s (wNewRow 131 x2.2 (some x3)) fun x4 =>
 EvO (some x4.1) fun x5 =>
 P90_16 s K v3 v8 v10 x5 v34 v35 v36 x4.2
theorem P90_15_of {v3 v8 v10 v34 v35 v36 : Value} (H : Q90_15 s K v3 v8 v10 v34 v35 v36 h) : P90_15 s K v3 v8 v10 v34 v35 v36 h :=
  step_of (by kernel_rfl) rfl (by kernel_rfl) H
def Q90_16 (s : Bool) (K : KF) (v3 v8 v10 v11 v34 v35 v36 : Value) (h : AH) : Prop :=
 EvO (pFieldAddr E 25 1 (some v10)) fun x0 =>
 EvO (rLoad E 22 h (some x0)) fun x1 =>
 EvO (evRead E (tmOf [(46, x1)]) (opAt B90 [1, 1, 1, 1, 0, 1, 0, 0, 1, 1, 0, 0, 1, 1, 0] 2) h) fun x2 =>
 Ev s (wMakeSlice E 47 (some x2) (some x2) h) fun x3 =>
 EvO (some x3.1) fun x4 =>
 P90_17 s K v3 v8 v10 v11 x4 v34 v35 v36 x3.2
theorem P90_16_of {v3 v8 v10 v11 v34 v35 v36 : Value} (H : Q90_16 s K v3 v8 v10 v11 v34 v35 v36 h) : P90_16 s K v3 v8 v10 v11 v34 v35 v36 h :=
  step_of (by kernel_rfl) rfl (by kernel_rfl) H
theorem len90_16_2 : evRead E (tmOf [(46, .slice a n c)]) (opAt B90 [1, 1, 1, 1, 0, 1, 0, 0, 1, 1, 0, 0, 1, 1, 0] 2) h = some (.int .i64 (n : Int)) := by cases a <;> kernel_rfl
def Q90_17 (s : Bool) (K : KF) (v3 v8 v10 v11 v12 v34 v35 v36 : Value) (h : AH) : Prop :=
 EvO (pFieldAddr E 25 1 (some v10)) fun x0 =>
 EvO (rLoad E 22 h (some x0)) fun x1 =>
 EvO (evRead E (tmOf [(50, x1)]) (opAt B90 [1, 1, 1, 1, 0, 1, 0, 0, 1, 1, 0, 0, 1, 1, 1, 0, 0] 2) h) fun x2 =>
 EvO (α := Value) (some (.int .i64 0)) fun x3 =>
 P90_18 s K v3 v8 v10 v11 v12 v34 v35 v36 x1 x2 x3 h
theorem P90_17_of {v3 v8 v10 v11 v12 v34 v35 v36 : Value} (H : Q90_17 s K v3 v8 v10 v11 v12 v34 v35 v36 h) : P90_17 s K v3 v8 v10 v11 v12 v34 v35 v36 h :=
  step_of (by kernel_rfl) rfl (by kernel_rfl) H
theorem len90_17_2 : evRead E (tmOf [(50, .slice a n c)]) (opAt B90 [1, 1, 1, 1, 0, 1, 0, 0, 1, 1, 0, 0, 1, 1, 1, 0, 0] 2) h = some (.int .i64 (n : Int)) := by cases a <;> kernel_rfl
def Q90_18 (s : Bool) (K : KF) (v3 v8 v10 v11 v12 v34 v35 v36 v50 v51 v52 : Value) (h : AH) : Prop :=
 EvO (binFast E .lss 3 v52 v51) fun x0 =>
 BrK (some x0) (P90_19 s K v3 v8 v10 v11 v12 v34 v35 v36 v50 v51 v52 h) (P90_22 s K v3 v8 v10 v11 v12 v34 v35 v36 h)
theorem P90_18_of {v3 v8 v10 v11 v12 v34 v35 v36 v50 v51 v52 : Value} (H : Q90_18 s K v3 v8 v10 v11 v12 v34 v35 v36 v50 v51 v52 h) : P90_18 s K v3 v8 v10 v11 v12 v34 v35 v36 v50 v51 v52 h :=
  step_of (by kernel_rfl) rfl (by kernel_rfl) H
def Q90_19 (s : Bool) (K : KF) (v3 v8 v10 v11 v12 v34 v35 v36 v50 v51 v52 : Value) (h : AH) : Prop :=
 EvO (some v52) fun x0 =>
 EvO (pIndexAddr E 22 (some v50) (some v52)) fun x1 =>
 EvO (rLoad E 36 h (some x1)) fun x2 =>
 Ev s (wNewRow 36 h (zeroV E 36)) fun x3 =>
 EvO (some x0) fun x4 =>
 Ev s (wStore E 36 x3.2 (some x3.1) (some x2)) fun x5 =>
 P90_20 s K v3 v8 v10 v11 v12 x4 x3.1 v34 v35 v36 v50 v51 v52 x5.2
theorem P90_19_of {v3 v8 v10 v11 v12 v34 v35 v36 v50 v51 v52 : Value} (H : Q90_19 s K v3 v8 v10 v11 v12 v34 v35 v36 v50 v51 v52 h) : P90_19 s K v3 v8 v10 v11 v12 v34 v35 v36 v50 v51 v52 h :=
  step_of (by kernel_rfl) rfl (by kernel_rfl) H
def Q90_20 (s : Bool) (K : KF) (v3 v8 v10 v11 v12 v13 v14 v34 v35 v36 v50 v51 v52 : Value) (h : AH) : Prop :=
 EvO (some v12) fun x0 =>
 EvO (some v13) fun x1 =>
 EvO (rLoad E 36 h (some v14)) fun x2 =>
 Ev s (wCallV (recI E) (some (.func (.func 143) #[] #[])) (some [v3, x2]) h) fun x3 =>
 EvO (pIndexAddr E 47 (some x0) (some x1)) fun x4 =>
 Ev s (wStore E 3 x3.2 (some x4) (some x3.1)) fun x5 =>
 P90_21 s K v3 v8 v10 v11 v12 v34 v35 v36 v50 v51 v52 x5.2
theorem P90_20_of {v3 v8 v10 v11 v12 v13 v14 v34 v35 v36 v50 v51 v52 : Value} (H : Q90_20 s K v3 v8 v10 v11 v12 v13 v14 v34 v35 v36 v50 v51 v52 h) : P90_20 s K v3 v8 v10 v11 v12 v13 v14 v34 v35 v36 v50 v51 v52 h :=
  step_of (by kernel_rfl) rfl (by kernel_rfl) H
def Q90_21 (s : Bool) (K : KF) (v3 v8 v10 v11 v12 v34 v35 v36 v50 v51 v52 : Value) (h : AH) : Prop :=
 EvO (binFast E .add 3 v52 (.int .i64 1)) fun x0 =>
 EvO (some x0) fun x1 =>
 P90_18 s K v3 v8 v10 v11 v12 v34 v35 v36 v50 v51 x1 h
theorem P90_21_of {v3 v8 v10 v11 v12 v34 v35 v36 v50 v51 v52 : Value} (H : Q90_21 s K v3 v8 v10 v11 v12 v34 v35 v36 v50 v51 v52 h) : P90_21 s K v3 v8 v10 v11 v12 v34 v35 v36 v50 v51 v52 h :=
  step_of (by kernel_rfl) rfl (by kernel_rfl) H
def Q90_22 (s : Bool) (K : KF) (v3 v8 v10 v11 v12 v34 v35 v36 : Value) (h : AH) : Prop :=
 EvO (pFieldAddr E 25 2 (some v10)) fun x0 =>
 EvO (rLoad E 23 h (some x0)) fun x1 =>
 EvO (evRead E (tmOf [(64, x1)]) (opAt B90 [1, 1, 1, 1, 0, 1, 0, 0, 1, 1, 0, 0, 1, 1, 1, 1, 0, 0] 2) h) fun x2 =>
 EvO (α := Value) (some (.int .i64 0)) fun x3 =>
 P90_23 s K v3 v8 v11 v12 v34 v35 v36 x1 x2 x3 h
theorem P90_22_of {v3 v8 v10 v11 v12 v34 v35 v36 : Value} (H : Q90_22 s K v3 v8 v10 v11 v12 v34 v35 v36 h) : P90_22 s K v3 v8 v10 v11 v12 v34 v35 v36 h :=
  step_of (by kernel_rfl) rfl (by kernel_rfl) H
theorem len90_22_2 : evRead E (tmOf [(64, .slice a n c)]) (opAt B90 [1, 1, 1, 1, 0, 1, 0, 0, 1, 1, 0, 0, 1, 1, 1, 1, 0, 0] 2) h = some (.int .i64 (n : Int)) := by cases a <;> kernel_rfl
def Q90_23 (s : Bool) (K : KF) (v3 v8 v11 v12 v34 v35 v36 v64 v65 v66 : Value) (h : AH) : Prop :=
 EvO (binFast E .lss 3 v66 v65) fun x0 =>
 BrK (some x0) (P90_24 s K v3 v8 v11 v12 v34 v35 v36 v64 v65 v66 h) (P90_27 s K v3 v8 v11 v34 v35 v36 h)
theorem P90_23_of {v3 v8 v11 v12 v34 v35 v36 v64 v65 v66 : Value} (H : Q90_23 s K v3 v8 v11 v12 v34 v35 v36 v64 v65 v66 h) : P90_23 s K v3 v8 v11 v12 v34 v35 v36 v64 v65 v66 h :=
  step_of (by kernel_rfl) rfl (by kernel_rfl) H
def Q90_24 (s : Bool) (K : KF) (v3 v8 v11 v12 v34 v35 v36 v64 v65 v66 : Value) (h : AH) : Prop :=
 EvO (pIndexAddr E 23 (some v64) (some v66)) fun x0 =>
 EvO (rLoad E 52 h (some x0)) fun x1 =>
 Ev s (wNewRow 52 h (zeroV E 52)) fun x2 =>
 Ev s (wStore E 52 x2.2 (some x2.1) (some x1)) fun x3 =>
 P90_25 s K v3 v8 v11 v12 x2.1 v34 v35 v36 v64 v65 v66 x3.2
theorem P90_24_of {v3 v8 v11 v12 v34 v35 v36 v64 v65 v66 : Value} (H : Q90_24 s K v3 v8 v11 v12 v34 v35 v36 v64 v65 v66 h) : P90_24 s K v3 v8 v11 v12 v34 v35 v36 v64 v65 v66 h :=
  step_of (by kernel_rfl) rfl (by kernel_rfl) H
def Q90_25 (s : Bool) (K : KF) (v3 v8 v11 v12 v16 v34 v35 v36 v64 v65 v66 : Value) (h : AH) : Prop :=
 EvO (some v11) fun x0 =>
 EvO (pNilCheck (some x0)) fun x1 =>
 EvO (pFieldAddr E 131 0 (some x1)) fun x2 =>
 EvO (rLoad E 129 h (some x2)) fun x3 =>
 EvO (pFieldAddr E 52 0 (some v16)) fun x4 =>
 EvO (rLoad E 3 h (some x4)) fun x5 =>
 EvO (some v11) fun x6 =>
 EvO (pNilCheck (some x6)) fun x7 =>
 EvO (pFieldAddr E 131 0 (some x7)) fun x8 =>
 EvO (rLoad E 129 h (some x8)) fun x9 =>
 EvO (pFieldAddr E 52 0 (some v16)) fun x10 =>
 EvO (rLoad E 3 h (some x10)) fun x11 =>
 EvO (pIndexAddr E 129 (some x9) (some x11)) fun x12 =>
 EvO (rLoad E 132 h (some x12)) fun x13 =>
 EvO (some v12) fun x14 =>
 EvO (pFieldAddr E 52 1 (some v16)) fun x15 =>
 EvO (rLoad E 3 h (some x15)) fun x16 =>
 EvO (pIndexAddr E 47 (some x14) (some x16)) fun x17 =>
 EvO (rLoad E 3 h (some x17)) fun x18 =>
 EvO (pFieldAddr E 52 2 (some v16)) fun x19 =>
 EvO (rLoad E 3 h (some x19)) fun x20 =>
 EvO (pBuild E 134 (some [(0, x18), (1, x20)])) fun x21 =>
 Ev s (wBuildSlice E 132 1 (some [(0, x21)]) h) fun x22 =>
 EvO (rLoad E 132 x22.2 (some x12)) fun u22_13 => veq 100 u22_13 x13 = true ∧
 (EvO (rLoad E 3 x22.2 (some x10)) fun u22_11 => veq 100 u22_11 x11 = true ∧
 (EvO (rLoad E 129 x22.2 (some x8)) fun u22_9 => veq 100 u22_9 x9 = true ∧
 (EvO (rLoad E 3 x22.2 (some x4)) fun u22_5 => veq 100 u22_5 x5 = true ∧
 (EvO (rLoad E 129 x22.2 (some x2)) fun u22_3 => veq 100 u22_3 x3 = true ∧
 (Ev s (wBuiltinO E .append [132, 132] (some [x13, x22.1]) x22.2) fun x23 =>
 EvO (rLoad E 3 x23.2 (some x4)) fun u23_5 => veq 100 u23_5 x5 = true ∧
 (EvO (rLoad E 129 x23.2 (some x2)) fun u23_3 => veq 100 u23_3 x3 = true ∧
 (EvO (pIndexAddr E 129 (some x3) (some x5)) fun x24 =>
 Ev s (wStore E 132 x23.2 (some x24) (some x23.1)) fun x25 =>
 P90_26 s K v3 v8 v11 v12 v34 v35 v36 v64 v65 v66 x25.2)))))))
theorem P90_25_of {v3 v8 v11 v12 v16 v34 v35 v36 v64 v65 v66 : Value} (H : Q90_25 s K v3 v8 v11 v12 v16 v34 v35 v36 v64 v65 v66 h) : P90_25 s K v3 v8 v11 v12 v16 v34 v35 v36 v64 v65 v66 h :=
  step_of (by kernel_rfl) rfl (by kernel_rfl) H
def Q90_26 (s : Bool) (K : KF) (v3 v8 v11 v12 v34 v35 v36 v64 v65 v66 : Value) (h : AH) : Prop :=
 EvO (binFast E .add 3 v66 (.int .i64 1)) fun x0 =>
 EvO (some x0) fun x1 =>
 P90_23 s K v3 v8 v11 v12 v34 v35 v36 v64 v65 x1 h
theorem P90_26_of {v3 v8 v11 v12 v34 v35 v36 v64 v65 v66 : Value} (H : Q90_26 s K v3 v8 v11 v12 v34 v35 v36 v64 v65 v66 h) : P90_26 s K v3 v8 v11 v12 v34 v35 v36 v64 v65 v66 h :=
  step_of (by kernel_rfl) rfl (by kernel_rfl) H
def Q90_27 (s : Bool) (K : KF) (v3 v8 v11 v34 v35 v36 : Value) (h : AH) : Prop :=
 EvO (some v8) fun x0 =>
 EvO (some v11) fun x1 =>
 Ev s (wBuildSlice E 126 1 (some [(0, x1)]) h) fun x2 =>
 Ev s (wBuiltinO E .append [126, 126] (some [x0, x2.1]) x2.2) fun x3 =>
 EvO (some x3.1) fun x4 =>
 P90_28 s K v3 x4 v34 v35 v36 x3.2
theorem P90_27_of {v3 v8 v11 v34 v35 v36 : Value} (H : Q90_27 s K v3 v8 v11 v34 v35 v36 h) : P90_27 s K v3 v8 v11 v34 v35 v36 h :=
  step_of (by kernel_rfl) rfl (by kernel_rfl) H
def Q90_28 (s : Bool) (K : KF) (v3 v8 v34 v35 v36 : Value) (h : AH) : Prop :=
 EvO (binFast E .add 3 v36 (.int .i64 1)) fun x0 =>
 EvO (some x0) fun x1 =>
 P90_13 s K v3 v8 v34 v35 x1 h
theorem P90_28_of {v3 v8 v34 v35 v36 : Value} (H : Q90_28 s K v3 v8 v34 v35 v36 h) : P90_28 s K v3 v8 v34 v35 v36 h :=
  step_of (by kernel_rfl) rfl (by kernel_rfl) H
def Q90_29 (s : Bool) (K : KF) (v8 : Value) (h : AH) : Prop :=
 EvO (some v8) fun x0 =>
 EvO (some x0) fun x1 =>
 K .ret [x1] h
theorem P90_29_of {v8 : Value} (H : Q90_29 s K v8 h) : P90_29 s K v8 h :=
  step_of (by kernel_rfl) rfl (by kernel_rfl) H
theorem F90_ev {s : Bool} {v0 : Value} {h : AH} {Rp : Value → AH → Prop} (H : P90_0 s (KR E [.tmp 2] Rp) v0 h) :
 Ev s (R.andThen (evC E (recI E) none (bodyOf Tryz.f90) ⟨⟨Tryz.f90.ntmps, initT [v0] 0 .e⟩, h, []⟩) (endCall E Tryz.f90)) fun x => Rp x.1 x.2 :=
  call_ev (C := C90 s) rfl rfl ⟨rfl, rfl, by kernel_rfl, rfl⟩ (by kernel_rfl) (by kernel_rfl) ((by kernel_rfl : contK (C90 s) (KR E Tryz.f90.results.toList Rp) 30 (rs B90 60 (.at [])) (tmOf (zipL 0 [v0])) h = (P90_0 s (KR E [.tmp 2] Rp) v0 h)).mpr H)
theorem F90_get : E.tab.fn.get 90 = some Tryz.f90 := by kernel_rfl
theorem F90_body : Tryz.f90.body = some B90 := by kernel_rfl
theorem F90_sum (l : List Value) (h : AH) : E.sum 90 l h = none := by kernel_rfl
theorem F90_some {v0 : Value} {h : AH} {Rp : Value → AH → Prop} (H : P90_0 true (KR E [.tmp 2] (fun x k => (isFlat x = false ∨ k.wm < h.next) ∧ Rp x ⟨k.t, k.next, cond (Nat.ble h.wm k.wm) h.wm k.wm⟩)) v0 h.fresh) : Ev true ((recI E).call 90 [v0] h) fun x => Rp x.1 x.2 :=
  call_some F90_get F90_body (F90_sum _ _) (by kernel_rfl) (F90_ev (Rp := fun x k => (isFlat x = false ∨ k.wm < h.next) ∧ Rp x ⟨k.t, k.next, cond (Nat.ble h.wm k.wm) h.wm k.wm⟩) H)
noncomputable def B94 : Code := bodyOf Tryz.f94
noncomputable def C94 (s : Bool) : Cx := ⟨E, s, none, B94, [([0], [0, 1]), ([1, 0], [0, 1]), ([1, 1, 0], [0, 1, 5]), ([1, 1, 1, 0, 0], [0, 1, 5, 6]), ([1, 1, 1, 0, 1, 0, 0, 0], [6]), ([1, 1, 1, 0, 1, 0, 0, 1, 0, 0], []), ([1, 1, 1, 0, 1, 0, 1, 0], []), ([1, 1, 1, 1, 0, 0], [0, 1, 6]), ([1, 1, 1, 1, 0, 1, 0, 0], []), ([1, 1, 1, 1, 1, 0, 0], [0, 1]), ([1, 1, 1, 1, 1, 0, 1, 0, 0], []), ([1, 1, 1, 1, 1, 1, 0, 0], [0, 1]), ([1, 1, 1, 1, 1, 1, 0, 1, 0, 0], []), ([1, 1, 1, 1, 1, 1, 1, 0], [])], [4], []⟩
def P94_0 (s : Bool) (K : KF) (v0 v1 : Value) (h : AH) : Prop := SP (C94 s ) K [0] [(0, v0), (1, v1)] h
def P94_1 (s : Bool) (K : KF) (v0 v1 : Value) (h : AH) : Prop := SP (C94 s ) K [1, 0] [(0, v0), (1, v1)] h
def P94_2 (s : Bool) (K : KF) (v0 v1 v5 : Value) (h : AH) : Prop := SP (C94 s ) K [1, 1, 0] [(0, v0), (1, v1), (5, v5)] h
def P94_3 (s : Bool) (K : KF) (v0 v1 v5 v6 : Value) (h : AH) : Prop := SP (C94 s ) K [1, 1, 1, 0, 0] [(0, v0), (1, v1), (5, v5), (6, v6)] h
def P94_4 (s : Bool) (K : KF) (v6 : Value) (h : AH) : Prop := SP (C94 s ) K [1, 1, 1, 0, 1, 0, 0, 0] [(6, v6)] h
def P94_7 (s : Bool) (K : KF) (v0 v1 v6 : Value) (h : AH) : Prop := SP (C94 s ) K [1, 1, 1, 1, 0, 0] [(0, v0), (1, v1), (6, v6)] h
def P94_8 (s : Bool) (K : KF) (h : AH) : Prop := SP (C94 s ) K [1, 1, 1, 1, 0, 1, 0, 0] [] h
def P94_9 (s : Bool) (K : KF) (v0 v1 : Value) (h : AH) : Prop := SP (C94 s ) K [1, 1, 1, 1, 1, 0, 0] [(0, v0), (1, v1)] h
def P94_10 (s : Bool) (K : KF) (h : AH) : Prop := SP (C94 s ) K [1, 1, 1, 1, 1, 0, 1, 0, 0] [] h
def P94_11 (s : Bool) (K : KF) (v0 v1 : Value) (h : AH) : Prop := SP (C94 s ) K [1, 1, 1, 1, 1, 1, 0, 0] [(0, v0), (1, v1)] h
def P94_12 (s : Bool) (K : KF) (h : AH) : Prop := SP (C94 s ) K [1, 1, 1, 1, 1, 1, 0, 1, 0, 0] [] h
def P94_13 (s : Bool) (K : KF) (h : AH) : Prop := SP (C94 s ) K [1, 1, 1, 1, 1, 1, 1, 0] [] h
def Q94_0 (s : Bool) (K : KF) (v0 v1 : Value) (h : AH) : Prop :=
 EvO (α := Value) (some (.int .i64 0)) fun x0 =>
 P94_1 s K v0 v1 h
theorem P94_0_of {v0 v1 : Value} (H : Q94_0 s K v0 v1 h) : P94_0 s K v0 v1 h :=
  step_of (by kernel_rfl) rfl (by kernel_rfl) H
def Q94_1 (s : Bool) (K : KF) (v0 v1 : Value) (h : AH) : Prop :=
 EvO (some v0) fun x0 =>
 Ev s (wCallV (recI E) (some (.func (.func 154) #[] #[])) (some [x0]) h) fun x1 =>
 EvO (some x1.1) fun x2 =>
 P94_2 s K v0 v1 x2 x1.2
theorem P94_1_of {v0 v1 : Value} (H : Q94_1 s K v0 v1 h) : P94_1 s K v0 v1 h :=
  step_of (by kernel_rfl) rfl (by kernel_rfl) H
def Q94_2 (s : Bool) (K : KF) (v0 v1 v5 : Value) (h : AH) : Prop :=
 EvO (some v1) fun x0 =>
 Ev s (wCallV (recI E) (some (.func (.func 154) #[] #[])) (some [x0]) h) fun x1 =>
 EvO (some x1.1) fun x2 =>
 P94_3 s K v0 v1 v5 x2 x1.2
theorem P94_2_of {v0 v1 v5 : Value} (H : Q94_2 s K v0 v1 v5 h) : P94_2 s K v0 v1 v5 h :=
  step_of (by kernel_rfl) rfl (by kernel_rfl) H
def Q94_3 (s : Bool) (K : KF) (v0 v1 v5 v6 : Value) (h : AH) : Prop :=
 EvO (some v5) fun x0 =>
 BrK (some x0) (P94_4 s K v6 h) (P94_7 s K v0 v1 v6 h)
theorem P94_3_of {v0 v1 v5 v6 : Value} (H : Q94_3 s K v0 v1 v5 v6 h) : P94_3 s K v0 v1 v5 v6 h :=
  step_of (by kernel_rfl) rfl (by kernel_rfl) H
def Q94_7 (s : Bool) (K : KF) (v0 v1 v6 : Value) (h : AH) : Prop :=
 EvO (some v6) fun x0 =>
 BrK (some x0) (P94_8 s K  h) (P94_9 s K v0 v1 h)
theorem P94_7_of {v0 v1 v6 : Value} (H : Q94_7 s K v0 v1 v6 h) : P94_7 s K v0 v1 v6 h :=
  step_of (by kernel_rfl) rfl (by kernel_rfl) H
def Q94_9 (s : Bool) (K : KF) (v0 v1 : Value) (h : AH) : Prop :=
 EvO (some v0) fun x0 =>
 EvO (some v1) fun x1 =>
 EvO (binFast E .lss 3 x0 x1) fun x2 =>
 BrK (some x2) (P94_10 s K  h) (P94_11 s K v0 v1 h)
theorem P94_9_of {v0 v1 : Value} (H : Q94_9 s K v0 v1 h) : P94_9 s K v0 v1 h :=
  step_of (by kernel_rfl) rfl (by kernel_rfl) H
def Q94_10 (s : Bool) (K : KF) (h : AH) : Prop :=
 EvO (α := Value) (some (.int .i64 (-1))) fun x0 =>
 K .ret [x0] h
theorem P94_10_of (H : Q94_10 s K h) : P94_10 s K h :=
  step_of (by kernel_rfl) rfl (by kernel_rfl) H
def Q94_11 (s : Bool) (K : KF) (v0 v1 : Value) (h : AH) : Prop :=
 EvO (some v0) fun x0 =>
 EvO (some v1) fun x1 =>
 EvO (binFast E .gtr 3 x0 x1) fun x2 =>
 BrK (some x2) (P94_12 s K  h) (P94_13 s K  h)
theorem P94_11_of {v0 v1 : Value} (H : Q94_11 s K v0 v1 h) : P94_11 s K v0 v1 h :=
  step_of (by kernel_rfl) rfl (by kernel_rfl) H
def Q94_12 (s : Bool) (K : KF) (h : AH) : Prop :=
 EvO (α := Value) (some (.int .i64 1)) fun x0 =>
 K .ret [x0] h
theorem P94_12_of (H : Q94_12 s K h) : P94_12 s K h :=
  step_of (by kernel_rfl) rfl (by kernel_rfl) H
def Q94_13 (s : Bool) (K : KF) (h : AH) : Prop :=
 EvO (α := Value) (some (.int .i64 0)) fun x0 =>
 K .ret [x0] h
theorem P94_13_of (H : Q94_13 s K h) : P94_13 s K h :=
  step_of (by kernel_rfl) rfl (by kernel_rfl) H
theorem F94_ev {s : Bool} {v0 v1 : Value} {h : AH} {Rp : Value → AH → Prop} (H : P94_0 s (KR E [.tmp 4] Rp) v0 v1 h) :
 Ev s (R.andThen (evC E (recI E) none (bodyOf Tryz.f94) ⟨⟨Tryz.f94.ntmps, initT [v0, v1] 0 .e⟩, h, []⟩) (endCall E Tryz.f94)) fun x => Rp x.1 x.2 :=
  call_ev (C := C94 s) rfl rfl ⟨rfl, rfl, by kernel_rfl, rfl⟩ (by kernel_rfl) (by kernel_rfl) ((by kernel_rfl : contK (C94 s) (KR E Tryz.f94.results.toList Rp) 30 (rs B94 60 (.at [])) (tmOf (zipL 0 [v0, v1])) h = (P94_0 s (KR E [.tmp 4] Rp) v0 v1 h)).mpr H)
theorem F94_get : E.tab.fn.get 94 = some Tryz.f94 := by kernel_rfl
theorem F94_body : Tryz.f94.body = some B94 := by kernel_rfl
theorem F94_sum (l : List Value) (h : AH) : E.sum 94 l h = none := by kernel_rfl
theorem F94_flat {s : Bool} {v0 v1 : Value} {h : AH} {v : Value} (hok : h.ok) (hv : isScalar v = true) (H : P94_0 s (KR E [.tmp 4] (fun x k => x = v ∧ h.next ≤ k.wm)) v0 v1 h.fresh) : (recI E).call 94 [v0, v1] h = some [(v, h)] :=
  call_flat (s := s) hok F94_get F94_body (F94_sum _ _) (by kernel_rfl) hv (F94_ev (Rp := fun x k => x = v ∧ h.next ≤ k.wm) H)
noncomputable def B105 : Code := bodyOf Tryz.f105
noncomputable def C105 (s : Bool) : Cx := ⟨E, s, none, B105, [([0], [0]), ([1, 0], [0])], [2], []⟩
def P105_0 (s : Bool) (K : KF) (v0 : Value) (h : AH) : Prop := SP (C105 s ) K [0] [(0, v0)] h
def P105_1 (s : Bool) (K : KF) (v0 : Value) (h : AH) : Prop := SP (C105 s ) K [1, 0] [(0, v0)] h
def Q105_0 (s : Bool) (K : KF) (v0 : Value) (h : AH) : Prop :=
 EvO (α := Value) (some (.bool false)) fun x0 =>
 P105_1 s K v0 h
theorem P105_0_of {v0 : Value} (H : Q105_0 s K v0 h) : P105_0 s K v0 h :=
  step_of (by kernel_rfl) rfl (by kernel_rfl) H
def Q105_1 (s : Bool) (K : KF) (v0 : Value) (h : AH) : Prop :=
 EvO (some v0) fun x0 =>
 EvO (binFast E .eql 3 x0 (.int .i64 1)) fun x1 =>
 EvO (some x1) fun x2 =>
 EvO (gdB x2 false (some v0)) fun x3 =>
 EvO (gdB x2 false (binFast E .eql 3 x3 (.int .i64 2))) fun x4 =>
 EvO (pickV (some x2) (some (.bool true)) (some x4)) fun x5 =>
 EvO (some x5) fun x6 =>
 K .ret [x6] h
theorem P105_1_of {v0 : Value} (H : Q105_1 s K v0 h) : P105_1 s K v0 h :=
  step_of (by kernel_rfl) rfl (by kernel_rfl) H
theorem F105_ev {s : Bool} {v0 : Value} {h : AH} {Rp : Value → AH → Prop} (H : P105_0 s (KR E [.tmp 2] Rp) v0 h) :
 Ev s (R.andThen (evC E (recI E) none (bodyOf Tryz.f105) ⟨⟨Tryz.f105.ntmps, initT [v0] 0 .e⟩, h, []⟩) (endCall E Tryz.f105)) fun x => Rp x.1 x.2 :=
  call_ev (C := C105 s) rfl rfl ⟨rfl, rfl, by kernel_rfl, rfl⟩ (by kernel_rfl) (by kernel_rfl) ((by kernel_rfl : contK (C105 s) (KR E Tryz.f105.results.toList Rp) 30 (rs B105 60 (.at [])) (tmOf (zipL 0 [v0])) h = (P105_0 s (KR E [.tmp 2] Rp) v0 h)).mpr H)
theorem F105_get : E.tab.fn.get 105 = some Tryz.f105 := by kernel_rfl
theorem F105_body : Tryz.f105.body = some B105 := by kernel_rfl
theorem F105_sum (l : List Value) (h : AH) : E.sum 105 l h = none := by kernel_rfl
theorem F105_flat {s : Bool} {v0 : Value} {h : AH} {v : Value} (hok : h.ok) (hv : isScalar v = true) (H : P105_0 s (KR E [.tmp 2] (fun x k => x = v ∧ h.next ≤ k.wm)) v0 h.fresh) : (recI E).call 105 [v0] h = some [(v, h)] :=
  call_flat (s := s) hok F105_get F105_body (F105_sum _ _) (by kernel_rfl) hv (F105_ev (Rp := fun x k => x = v ∧ h.next ≤ k.wm) H)
noncomputable def B121 : Code := bodyOf Tryz.f121
noncomputable def C121 (s : Bool) : Cx := ⟨E, s, none, B121, [([0], [0]), ([1, 0, 0], [1]), ([1, 0, 1, 0, 0], []), ([1, 1, 0, 0], [1]), ([1, 1, 0, 1, 0, 0, 0], [1, 29, 30, 31]), ([1, 1, 0, 1, 0, 0, 1, 1, 0, 0, 0], [1, 29, 30, 31]), ([1, 1, 0, 1, 0, 0, 1, 1, 0, 0, 1, 0], [1, 3, 4, 29, 30, 31]), ([1, 1, 0, 1, 0, 0, 1, 1, 0, 0, 1, 1, 0, 0], []), ([1, 1, 0, 1, 0, 0, 1, 1, 1], [1, 29, 30, 31]), ([1, 1, 1, 0], [1]), ([1, 1, 1, 1, 0, 0], [1, 5]), ([1, 1, 1, 1, 0, 1, 0, 0, 0], [1, 5, 56, 57, 58]), ([1, 1, 1, 1, 0, 1, 0, 0, 1, 1, 0, 0, 0], [1, 5, 56, 57, 58]), ([1, 1, 1, 1, 0, 1, 0, 0, 1, 1, 0, 0, 1, 0], [1, 5, 6, 7, 56, 57, 58]), ([1, 1, 1, 1, 0, 1, 0, 0, 1, 1, 0, 0, 1, 1, 0, 0], []), ([1, 1, 1, 1, 0, 1, 0, 0, 1, 1, 1], [1, 5, 56, 57, 58]), ([1, 1, 1, 1, 1, 0], [])], [2], []⟩
def P121_0 (s : Bool) (K : KF) (v0 : Value) (h : AH) : Prop := SP (C121 s ) K [0] [(0, v0)] h
def P121_1 (s : Bool) (K : KF) (v1 : Value) (h : AH) : Prop := SP (C121 s ) K [1, 0, 0] [(1, v1)] h
def P121_2 (s : Bool) (K : KF) (h : AH) : Prop := SP (C121 s ) K [1, 0, 1, 0, 0] [] h
def P121_3 (s : Bool) (K : KF) (v1 : Value) (h : AH) : Prop := SP (C121 s ) K [1, 1, 0, 0] [(1, v1)] h
def P121_4 (s : Bool) (K : KF) (v1 v29 v30 v31 : Value) (h : AH) : Prop := SP (C121 s ) K [1, 1, 0, 1, 0, 0, 0] [(1, v1), (29, v29), (30, v30), (31, v31)] h
def P121_5 (s : Bool) (K : KF) (v1 v29 v30 v31 : Value) (h : AH) : Prop := SP (C121 s ) K [1, 1, 0, 1, 0, 0, 1, 1, 0, 0, 0] [(1, v1), (29, v29), (30, v30), (31, v31)] h
def P121_6 (s : Bool) (K : KF) (v1 v3 v4 v29 v30 v31 : Value) (h : AH) : Prop := SP (C121 s ) K [1, 1, 0, 1, 0, 0, 1, 1, 0, 0, 1, 0] [(1, v1), (3, v3), (4, v4), (29, v29), (30, v30), (31, v31)] h
def P121_7 (s : Bool) (K : KF) (h : AH) : Prop := SP (C121 s ) K [1, 1, 0, 1, 0, 0, 1, 1, 0, 0, 1, 1, 0, 0] [] h
def P121_8 (s : Bool) (K : KF) (v1 v29 v30 v31 : Value) (h : AH) : Prop := SP (C121 s ) K [1, 1, 0, 1, 0, 0, 1, 1, 1] [(1, v1), (29, v29), (30, v30), (31, v31)] h
def P121_9 (s : Bool) (K : KF) (v1 : Value) (h : AH) : Prop := SP (C121 s ) K [1, 1, 1, 0] [(1, v1)] h
def P121_10 (s : Bool) (K : KF) (v1 v5 : Value) (h : AH) : Prop := SP (C121 s ) K [1, 1, 1, 1, 0, 0] [(1, v1), (5, v5)] h
def P121_11 (s : Bool) (K : KF) (v1 v5 v56 v57 v58 : Value) (h : AH) : Prop := SP (C121 s ) K [1, 1, 1, 1, 0, 1, 0, 0, 0] [(1, v1), (5, v5), (56, v56), (57, v57), (58, v58)] h
def P121_12 (s : Bool) (K : KF) (v1 v5 v56 v57 v58 : Value) (h : AH) : Prop := SP (C121 s ) K [1, 1, 1, 1, 0, 1, 0, 0, 1, 1, 0, 0, 0] [(1, v1), (5, v5), (56, v56), (57, v57), (58, v58)] h
def P121_13 (s : Bool) (K : KF) (v1 v5 v6 v7 v56 v57 v58 : Value) (h : AH) : Prop := SP (C121 s ) K [1, 1, 1, 1, 0, 1, 0, 0, 1, 1, 0, 0, 1, 0] [(1, v1), (5, v5), (6, v6), (7, v7), (56, v56), (57, v57), (58, v58)] h
def P121_14 (s : Bool) (K : KF) (h : AH) : Prop := SP (C121 s ) K [1, 1, 1, 1, 0, 1, 0, 0, 1, 1, 0, 0, 1, 1, 0, 0] [] h
def P121_15 (s : Bool) (K : KF) (v1 v5 v56 v57 v58 : Value) (h : AH) : Prop := SP (C121 s ) K [1, 1, 1, 1, 0, 1, 0, 0, 1, 1, 1] [(1, v1), (5, v5), (56, v56), (57, v57), (58, v58)] h
def P121_16 (s : Bool) (K : KF) (h : AH) : Prop := SP (C121 s ) K [1, 1, 1, 1, 1, 0] [] h
def Q121_0 (s : Bool) (K : KF) (v0 : Value) (h : AH) : Prop :=
 Ev s (wNewRow 25 h (some v0)) fun x0 =>
 EvO (α := Value) (some (.int .i64 0)) fun x1 =>
 P121_1 s K x0.1 x0.2
theorem P121_0_of {v0 : Value} (H : Q121_0 s K v0 h) : P121_0 s K v0 h :=
  step_of (by kernel_rfl) rfl (by kernel_rfl) H
def Q121_1 (s : Bool) (K : KF) (v1 : Value) (h : AH) : Prop :=
 EvO (pFieldAddr E 25 0 (some v1)) fun x0 =>
 EvO (rLoad E 3 h (some x0)) fun x1 =>
 EvO (binFast E .lss 3 x1 (.int .i64 1)) fun x2 =>
 EvO (some x2) fun x3 =>
 EvO (gdB x3 false (pFieldAddr E 25 0 (some v1))) fun x4 =>
 EvO (gdB x3 false (rLoad E 3 h (some x4))) fun x5 =>
 EvO (gdB x3 false (binFast E .gtr 3 x5 (.int .i64 20000))) fun x6 =>
 EvO (pickV (some x3) (some (.bool true)) (some x6)) fun x7 =>
 EvO (some x7) fun x8 =>
 EvO (gdB x8 false (pFieldAddr E 25 1 (some v1))) fun x9 =>
 EvO (gdB x8 false (rLoad E 22 h (some x9))) fun x10 =>
 EvO (gdB x8 false (evRead E (tmOf [(18, x10)]) (opAt B121 [1, 0, 0] 11) h)) fun x11 =>
 EvO (gdB x8 false (binFast E .gtr 3 x11 (.int .i64 4000))) fun x12 =>
 EvO (pickV (some x8) (some (.bool true)) (some x12)) fun x13 =>
 EvO (some x13) fun x14 =>
 EvO (gdB x14 false (pFieldAddr E 25 2 (some v1))) fun x15 =>
 EvO (gdB x14 false (rLoad E 23 h (some x15))) fun x16 =>
 EvO (gdB x14 false (evRead E (tmOf [(24, x16)]) (opAt B121 [1, 0, 0] 17) h)) fun x17 =>
 EvO (gdB x14 false (binFast E .gtr 3 x17 (.int .i64 100000))) fun x18 =>
 EvO (pickV (some x14) (some (.bool true)) (some x18)) fun x19 =>
 BrK (some x19) (P121_2 s K  h) (P121_3 s K v1 h)
theorem P121_1_of {v1 : Value} (H : Q121_1 s K v1 h) : P121_1 s K v1 h :=
  step_of (by kernel_rfl) rfl (by kernel_rfl) H
theorem len121_1_11 : evRead E (tmOf [(18, .slice a n c)]) (opAt B121 [1, 0, 0] 11) h = some (.int .i64 (n : Int)) := by cases a <;> kernel_rfl
theorem len121_1_17 : evRead E (tmOf [(24, .slice a n c)]) (opAt B121 [1, 0, 0] 17) h = some (.int .i64 (n : Int)) := by cases a <;> kernel_rfl
def Q121_2 (s : Bool) (K : KF) (h : AH) : Prop :=
 EvO (α := Value) (some (.int .i64 8)) fun x0 =>
 K .ret [x0] h
theorem P121_2_of (H : Q121_2 s K h) : P121_2 s K h :=
  step_of (by kernel_rfl) rfl (by kernel_rfl) H
def Q121_3 (s : Bool) (K : KF) (v1 : Value) (h : AH) : Prop :=
 EvO (pFieldAddr E 25 1 (some v1)) fun x0 =>
 EvO (rLoad E 22 h (some x0)) fun x1 =>
 EvO (evRead E (tmOf [(29, x1)]) (opAt B121 [1, 1, 0, 0] 2) h) fun x2 =>
 EvO (α := Value) (some (.int .i64 0)) fun x3 =>
 P121_4 s K v1 x1 x2 x3 h
theorem P121_3_of {v1 : Value} (H : Q121_3 s K v1 h) : P121_3 s K v1 h :=
  step_of (by kernel_rfl) rfl (by kernel_rfl) H
theorem len121_3_2 : evRead E (tmOf [(29, .slice a n c)]) (opAt B121 [1, 1, 0, 0] 2) h = some (.int .i64 (n : Int)) := by cases a <;> kernel_rfl
def Q121_4 (s : Bool) (K : KF) (v1 v29 v30 v31 : Value) (h : AH) : Prop :=
 EvO (binFast E .lss 3 v31 v30) fun x0 =>
 BrK (some x0) (P121_5 s K v1 v29 v30 v31 h) (P121_9 s K v1 h)
theorem P121_4_of {v1 v29 v30 v31 : Value} (H : Q121_4 s K v1 v29 v30 v31 h) : P121_4 s K v1 v29 v30 v31 h :=
  step_of (by kernel_rfl) rfl (by kernel_rfl) H
def Q121_5 (s : Bool) (K : KF) (v1 v29 v30 v31 : Value) (h : AH) : Prop :=
 EvO (some v31) fun x0 =>
 EvO (pIndexAddr E 22 (some v29) (some v31)) fun x1 =>
 EvO (rLoad E 36 h (some x1)) fun x2 =>
 Ev s (wNewRow 36 h (zeroV E 36)) fun x3 =>
 EvO (some x0) fun x4 =>
 Ev s (wStore E 36 x3.2 (some x3.1) (some x2)) fun x5 =>
 P121_6 s K v1 x4 x3.1 v29 v30 v31 x5.2
theorem P121_5_of {v1 v29 v30 v31 : Value} (H : Q121_5 s K v1 v29 v30 v31 h) : P121_5 s K v1 v29 v30 v31 h :=
  step_of (by kernel_rfl) rfl (by kernel_rfl) H
def Q121_6 (s : Bool) (K : KF) (v1 v3 v4 v29 v30 v31 : Value) (h : AH) : Prop :=
 EvO (rLoad E 36 h (some v4)) fun x0 =>
 Ev s (wCallV (recI E) (some (.func (.func 167) #[] #[])) (some [x0]) h) fun x1 =>
 EvO (binFast E .neq 29 x1.1 (.int .i64 0)) fun x2 =>
 EvO (some x2) fun x3 =>
 EvO (gdB x3 false (some v3)) fun x4 =>
 EvO (gdB x3 false (binFast E .gtr 3 x4 (.int .i64 0))) fun x5 =>
 EvO (gdB x3 false (some x5)) fun x6 =>
 EvO (gdB x6 true (pFieldAddr E 25 1 (some v1))) fun x7 =>
 EvO (gdB x6 true (rLoad E 22 x1.2 (some x7))) fun x8 =>
 EvO (gdB x6 true (some v3)) fun x9 =>
 EvO (gdB x6 true (binFast E .sub 3 x9 (.int .i64 1))) fun x10 =>
 EvO (gdB x6 true (pIndexAddr E 22 (some x8) (some x10))) fun x11 =>
 EvO (gdB x6 true (rLoad E 36 x1.2 (some x11))) fun x12 =>
 EvO (gdB x6 true (rLoad E 36 x1.2 (some v4))) fun x13 =>
 Ev s (gdW x6 true (wCallV (recI E) (some (.func (.func 168) #[] #[])) (some [x12, x13]) x1.2) x1.2) fun x14 =>
 EvO (gdB x6 true (binFast E .geq 3 x14.1 (.int .i64 0))) fun x15 =>
 EvO (gdB x3 false (pickV (some x6) (some x15) (some (.bool false)))) fun x16 =>
 EvO (pickV (some x3) (some (.bool true)) (some x16)) fun x17 =>
 BrK (some x17) (P121_7 s K  x14.2) (P121_8 s K v1 v29 v30 v31 x14.2)
theorem P121_6_of {v1 v3 v4 v29 v30 v31 : Value} (H : Q121_6 s K v1 v3 v4 v29 v30 v31 h) : P121_6 s K v1 v3 v4 v29 v30 v31 h :=
  step_of (by kernel_rfl) rfl (by kernel_rfl) H
def Q121_7 (s : Bool) (K : KF) (h : AH) : Prop :=
 EvO (α := Value) (some (.int .i64 8)) fun x0 =>
 K .ret [x0] h
theorem P121_7_of (H : Q121_7 s K h) : P121_7 s K h :=
  step_of (by kernel_rfl) rfl (by kernel_rfl) H
def Q121_8 (s : Bool) (K : KF) (v1 v29 v30 v31 : Value) (h : AH) : Prop :=
 EvO (binFast E .add 3 v31 (.int .i64 1)) fun x0 =>
 EvO (some x0) fun x1 =>
 P121_4 s K v1 v29 v30 x1 h
theorem P121_8_of {v1 v29 v30 v31 : Value} (H : Q121_8 s K v1 v29 v30 v31 h) : P121_8 s K v1 v29 v30 v31 h :=
  step_of (by kernel_rfl) rfl (by kernel_rfl) H
def Q121_9 (s : Bool) (K : KF) (v1 : Value) (h : AH) : Prop :=
 EvO (α := Value) (some (.func (.func 169) #[] #[])) fun x0 =>
 P121_10 s K v1 x0 h
theorem P121_9_of {v1 : Value} (H : Q121_9 s K v1 h) : P121_9 s K v1 h :=
  step_of (by kernel_rfl) rfl (by kernel_rfl) H
def Q121_10 (s : Bool) (K : KF) (v1 v5 : Value) (h : AH) : Prop :=
 EvO (pFieldAddr E 25 2 (some v1)) fun x0 =>
 EvO (rLoad E 23 h (some x0)) fun x1 =>
 EvO (evRead E (tmOf [(56, x1)]) (opAt B121 [1, 1, 1, 1, 0, 0] 2) h) fun x2 =>
 EvO (α := Value) (some (.int .i64 0)) fun x3 =>
 P121_11 s K v1 v5 x1 x2 x3 h
theorem P121_10_of {v1 v5 : Value} (H : Q121_10 s K v1 v5 h) : P121_10 s K v1 v5 h :=
  step_of (by kernel_rfl) rfl (by kernel_rfl) H
theorem len121_10_2 : evRead E (tmOf [(56, .slice a n c)]) (opAt B121 [1, 1, 1, 1, 0, 0] 2) h = some (.int .i64 (n : Int)) := by cases a <;> kernel_rfl
def Q121_11 (s : Bool) (K : KF) (v1 v5 v56 v57 v58 : Value) (h : AH) : Prop :=
 EvO (binFast E .lss 3 v58 v57) fun x0 =>
 BrK (some x0) (P121_12 s K v1 v5 v56 v57 v58 h) (P121_16 s K  h)
theorem P121_11_of {v1 v5 v56 v57 v58 : Value} (H : Q121_11 s K v1 v5 v56 v57 v58 h) : P121_11 s K v1 v5 v56 v57 v58 h :=
  step_of (by kernel_rfl) rfl (by kernel_rfl) H
def Q121_12 (s : Bool) (K : KF) (v1 v5 v56 v57 v58 : Value) (h : AH) : Prop :=
 EvO (some v58) fun x0 =>
 EvO (pIndexAddr E 23 (some v56) (some v58)) fun x1 =>
 EvO (rLoad E 52 h (some x1)) fun x2 =>
 Ev s (wNewRow 52 h (zeroV E 52)) fun x3 =>
 EvO (some x0) fun x4 =>
 Ev s (wStore E 52 x3.2 (some x3.1) (some x2)) fun x5 =>
 P121_13 s K v1 v5 x4 x3.1 v56 v57 v58 x5.2
theorem P121_12_of {v1 v5 v56 v57 v58 : Value} (H : Q121_12 s K v1 v5 v56 v57 v58 h) : P121_12 s K v1 v5 v56 v57 v58 h :=
  step_of (by kernel_rfl) rfl (by kernel_rfl) H
def Q121_13 (s : Bool) (K : KF) (v1 v5 v6 v7 v56 v57 v58 : Value) (h : AH) : Prop :=
 EvO (some v5) fun x0 =>
 EvO (pFieldAddr E 52 0 (some v7)) fun x1 =>
 EvO (rLoad E 3 h (some x1)) fun x2 =>
 EvO (pFieldAddr E 25 0 (some v1)) fun x3 =>
 EvO (rLoad E 3 h (some x3)) fun x4 =>
 Ev s (wCallV (recI E) (some x0) (some [x2, x4]) h) fun x5 =>
 EvO (unFast .not x5.1) fun x6 =>
 EvO (some x6) fun x7 =>
 EvO (gdB x7 false (some v5)) fun x8 =>
 EvO (gdB x7 false (pFieldAddr E 52 2 (some v7))) fun x9 =>
 EvO (gdB x7 false (rLoad E 3 x5.2 (some x9))) fun x10 =>
 EvO (gdB x7 false (pFieldAddr E 25 0 (some v1))) fun x11 =>
 EvO (gdB x7 false (rLoad E 3 x5.2 (some x11))) fun x12 =>
 Ev s (gdW x7 false (wCallV (recI E) (some x8) (some [x10, x12]) x5.2) x5.2) fun x13 =>
 EvO (gdB x7 false (unFast .not x13.1)) fun x14 =>
 EvO (pickV (some x7) (some (.bool true)) (some x14)) fun x15 =>
 EvO (some x15) fun x16 =>
 EvO (gdB x16 false (some v5)) fun x17 =>
 EvO (gdB x16 false (pFieldAddr E 52 1 (some v7))) fun x18 =>
 EvO (gdB x16 false (rLoad E 3 x13.2 (some x18))) fun x19 =>
 EvO (gdB x16 false (pFieldAddr E 25 1 (some v1))) fun x20 =>
 EvO (gdB x16 false (rLoad E 22 x13.2 (some x20))) fun x21 =>
 EvO (gdB x16 false (evRead E (tmOf [(84, x21)]) (opAt B121 [1, 1, 1, 1, 0, 1, 0, 0, 1, 1, 0, 0, 1, 0] 22) x13.2)) fun x22 =>
 Ev s (gdW x16 false (wCallV (recI E) (some x17) (some [x19, x22]) x13.2) x13.2) fun x23 =>
 EvO (gdB x16 false (unFast .not x23.1)) fun x24 =>
 EvO (pickV (some x16) (some (.bool true)) (some x24)) fun x25 =>
 EvO (some x25) fun x26 =>
 EvO (gdB x26 false (some v6)) fun x27 =>
 EvO (gdB x26 false (binFast E .gtr 3 x27 (.int .i64 0))) fun x28 =>
 EvO (gdB x26 false (some x28)) fun x29 =>
 EvO (gdB x29 true (pFieldAddr E 25 2 (some v1))) fun x30 =>
 EvO (gdB x29 true (rLoad E 23 x23.2 (some x30))) fun x31 =>
 EvO (gdB x29 true (some v6)) fun x32 =>
 EvO (gdB x29 true (binFast E .sub 3 x32 (.int .i64 1))) fun x33 =>
 EvO (gdB x29 true (pIndexAddr E 23 (some x31) (some x33))) fun x34 =>
 EvO (gdB x29 true (rLoad E 52 x23.2 (some x34))) fun x35 =>
 EvO (gdB x29 true (rLoad E 52 x23.2 (some v7))) fun x36 =>
 Ev s (gdW x29 true (wCallV (recI E) (some (.func (.func 170) #[] #[])) (some [x35, x36]) x23.2) x23.2) fun x37 =>
 EvO (gdB x29 true (binFast E .geq 3 x37.1 (.int .i64 0))) fun x38 =>
 EvO (gdB x26 false (pickV (some x29) (some x38) (some (.bool false)))) fun x39 =>
 EvO (pickV (some x26) (some (.bool true)) (some x39)) fun x40 =>
 BrK (some x40) (P121_14 s K  x37.2) (P121_15 s K v1 v5 v56 v57 v58 x37.2)
theorem P121_13_of {v1 v5 v6 v7 v56 v57 v58 : Value} (H : Q121_13 s K v1 v5 v6 v7 v56 v57 v58 h) : P121_13 s K v1 v5 v6 v7 v56 v57 v58 h :=
  step_of (by kernel_rfl) rfl (by kernel_rfl) H
theorem len121_13_22 : evRead E (tmOf [(84, .slice a n c)]) (opAt B121 [1, 1, 1, 1, 0, 1, 0, 0, 1, 1, 0, 0, 1, 0] 22) h = some (.int .i64 (n : Int)) := by cases a <;> kernel_rfl
def Q121_14 (s : Bool) (K : KF) (h : AH) : Prop :=
 EvO (α := Value) (some (.int .i64 8)) fun x0 =>
 K .ret [x0] h
theorem P121_14_of (H : Q121_14 s K h) : P121_14 s K h :=
  step_of (by kernel_rfl) rfl (by kernel_rfl) H
def Q121_15 (s : Bool) (K : KF) (v1 v5 v56 v57 v58 : Value) (h : AH) : Prop :=
 EvO (binFast E .add 3 v58 (.int .i64 1)) fun x0 =>
 EvO (some x0) fun x1 =>
 P121_11 s K v1 v5 v56 v57 x1 h
theorem P121_15_of {v1 v5 v56 v57 v58 : Value} (H : Q121_15 s K v1 v5 v56 v57 v58 h) : P121_15 s K v1 v5 v56 v57 v58 h :=
  step_of (by kernel_rfl) rfl (by kernel_rfl) H
def Q121_16 (s : Bool) (K : KF) (h : AH) : Prop :=
 EvO (α := Value) (some (.int .i64 0)) fun x0 =>
 K .ret [x0] h
theorem P121_16_of (H : Q121_16 s K h) : P121_16 s K h :=
  step_of (by kernel_rfl) rfl (by kernel_rfl) H
theorem F121_ev {s : Bool} {v0 : Value} {h : AH} {Rp : Value → AH → Prop} (H : P121_0 s (KR E [.tmp 2] Rp) v0 h) :
 Ev s (R.andThen (evC E (recI E) none (bodyOf Tryz.f121) ⟨⟨Tryz.f121.ntmps, initT [v0] 0 .e⟩, h, []⟩) (endCall E Tryz.f121)) fun x => Rp x.1 x.2 :=
  call_ev (C := C121 s) rfl rfl ⟨rfl, rfl, by kernel_rfl, rfl⟩ (by kernel_rfl) (by kernel_rfl) ((by kernel_rfl : contK (C121 s) (KR E Tryz.f121.results.toList Rp) 30 (rs B121 60 (.at [])) (tmOf (zipL 0 [v0])) h = (P121_0 s (KR E [.tmp 2] Rp) v0 h)).mpr H)
theorem F121_get : E.tab.fn.get 121 = some Tryz.f121 := by kernel_rfl
theorem F121_body : Tryz.f121.body = some B121 := by kernel_rfl
theorem F121_sum (l : List Value) (h : AH) : E.sum 121 l h = none := by kernel_rfl
theorem F121_flat {s : Bool} {v0 : Value} {h : AH} {v : Value} (hok : h.ok) (hv : isScalar v = true) (H : P121_0 s (KR E [.tmp 2] (fun x k => x = v ∧ h.next ≤ k.wm)) v0 h.fresh) : (recI E).call 121 [v0] h = some [(v, h)] :=
  call_flat (s := s) hok F121_get F121_body (F121_sum _ _) (by kernel_rfl) hv (F121_ev (Rp := fun x k => x = v ∧ h.next ≤ k.wm) H)
noncomputable def B122 : Code := bodyOf Tryz.f122
noncomputable def C122 (s : Bool) : Cx := ⟨E, s, none, B122, [([0], [0, 1]), ([1, 0], [2, 3])], [4], []⟩
def P122_0 (s : Bool) (K : KF) (v0 v1 : Value) (h : AH) : Prop := SP (C122 s ) K [0] [(0, v0), (1, v1)] h
def P122_1 (s : Bool) (K : KF) (v2 v3 : Value) (h : AH) : Prop := SP (C122 s ) K [1, 0] [(2, v2), (3, v3)] h
def Q122_0 (s : Bool) (K : KF) (v0 v1 : Value) (h : AH) : Prop :=
 Ev s (wNewRow 54 h (some v0)) fun x0 =>
 Ev s (wNewRow 54 x0.2 (some v1)) fun x1 =>
 EvO (α := Value) (some (.int .i64 0)) fun x2 =>
 P122_1 s K x0.1 x1.1 x1.2
theorem P122_0_of {v0 v1 : Value} (H : Q122_0 s K v0 v1 h) : P122_0 s K v0 v1 h :=
  step_of (by kernel_rfl) rfl (by kernel_rfl) H
def Q122_1 (s : Bool) (K : KF) (v2 v3 : Value) (h : AH) : Prop :=
 EvO (pIndexAddr E 54 (some v2) (some (.int .i64 0))) fun x0 =>
 EvO (rLoad E 3 h (some x0)) fun x1 =>
 EvO (pIndexAddr E 54 (some v3) (some (.int .i64 0))) fun x2 =>
 EvO (rLoad E 3 h (some x2)) fun x3 =>
 EvO (pIndexAddr E 54 (some v2) (some (.int .i64 1))) fun x5 =>
 EvO (rLoad E 3 h (some x5)) fun x6 =>
 EvO (pIndexAddr E 54 (some v3) (some (.int .i64 1))) fun x7 =>
 EvO (rLoad E 3 h (some x7)) fun x8 =>
 Ev s (wCallV (recI E) (some (.func (.func 94) #[] #[])) (some [x1, x3]) h) fun x4 =>
 EvO (rLoad E 3 x4.2 (some x7)) fun u4_8 => veq 100 u4_8 x8 = true ∧
 (EvO (rLoad E 3 x4.2 (some x5)) fun u4_6 => veq 100 u4_6 x6 = true ∧
 (Ev s (wCallV (recI E) (some (.func (.func 94) #[] #[])) (some [x6, x8]) x4.2) fun x9 =>
 Ev s (wBuildSlice E 47 2 (some [(0, x4.1), (1, x9.1)]) x9.2) fun x10 =>
 Ev s (wCallV (recI E) (some (.func (.func 171) #[] #[])) (some [x10.1]) x10.2) fun x11 =>
 EvO (some x11.1) fun x12 =>
 K .ret [x12] x11.2))
theorem P122_1_of {v2 v3 : Value} (H : Q122_1 s K v2 v3 h) : P122_1 s K v2 v3 h :=
  step_of (by kernel_rfl) rfl (by kernel_rfl) H
theorem F122_ev {s : Bool} {v0 v1 : Value} {h : AH} {Rp : Value → AH → Prop} (H : P122_0 s (KR E [.tmp 4] Rp) v0 v1 h) :
 Ev s (R.andThen (evC E (recI E) none (bodyOf Tryz.f122) ⟨⟨Tryz.f122.ntmps, initT [v0, v1] 0 .e⟩, h, []⟩) (endCall E Tryz.f122)) fun x => Rp x.1 x.2 :=
  call_ev (C := C122 s) rfl rfl ⟨rfl, rfl, by kernel_rfl, rfl⟩ (by kernel_rfl) (by kernel_rfl) ((by kernel_rfl : contK (C122 s) (KR E Tryz.f122.results.toList Rp) 30 (rs B122 60 (.at [])) (tmOf (zipL 0 [v0, v1])) h = (P122_0 s (KR E [.tmp 4] Rp) v0 v1 h)).mpr H)
theorem F122_get : E.tab.fn.get 122 = some Tryz.f122 := by kernel_rfl
theorem F122_body : Tryz.f122.body = some B122 := by kernel_rfl
theorem F122_sum (l : List Value) (h : AH) : E.sum 122 l h = none := by kernel_rfl
theorem F122_flat {s : Bool} {v0 v1 : Value} {h : AH} {v : Value} (hok : h.ok) (hv : isScalar v = true) (H : P122_0 s (KR E [.tmp 4] (fun x k => x = v ∧ h.next ≤ k.wm)) v0 v1 h.fresh) : (recI E).call 122 [v0, v1] h = some [(v, h)] :=
  call_flat (s := s) hok F122_get F122_body (F122_sum _ _) (by kernel_rfl) hv (F122_ev (Rp := fun x k => x = v ∧ h.next ≤ k.wm) H)
noncomputable def B123 : Code := bodyOf Tryz.f123
noncomputable def C123 (s : Bool) : Cx := ⟨E, s, none, B123, [([0], [0, 1, 2]), ([1, 0], [1, 2, 3])], [6], []⟩
def P123_0 (s : Bool) (K : KF) (v0 v1 v2 : Value) (h : AH) : Prop := SP (C123 s ) K [0] [(0, v0), (1, v1), (2, v2)] h
def P123_1 (s : Bool) (K : KF) (v1 v2 v3 : Value) (h : AH) : Prop := SP (C123 s ) K [1, 0] [(1, v1), (2, v2), (3, v3)] h
def Q123_0 (s : Bool) (K : KF) (v0 v1 v2 : Value) (h : AH) : Prop :=
 Ev s (wNewRow 176 h (some v0)) fun x0 =>
 EvO (α := Value) (some (.bool false)) fun x1 =>
 P123_1 s K v1 v2 x0.1 x0.2
theorem P123_0_of {v0 v1 v2 : Value} (H : Q123_0 s K v0 v1 v2 h) : P123_0 s K v0 v1 v2 h :=
  step_of (by kernel_rfl) rfl (by kernel_rfl) H
def Q123_1 (s : Bool) (K : KF) (v1 v2 v3 : Value) (h : AH) : Prop :=
 EvO (pFieldAddr E 176 2 (some v3)) fun x0 =>
 EvO (rLoad E 174 h (some x0)) fun x1 =>
 EvO (some v1) fun x2 =>
 EvO (some v2) fun x3 =>
 EvO (pBuild E 54 (some [(0, x2), (1, x3)])) fun x4 =>
 EvO (rLookup E 174 false (some x1) (some x4) h) fun x5 =>
 EvO (some x5) fun x6 =>
 K .ret [x6] h
theorem P123_1_of {v1 v2 v3 : Value} (H : Q123_1 s K v1 v2 v3 h) : P123_1 s K v1 v2 v3 h :=
  step_of (by kernel_rfl) rfl (by kernel_rfl) H
theorem F123_ev {s : Bool} {v0 v1 v2 : Value} {h : AH} {Rp : Value → AH → Prop} (H : P123_0 s (KR E [.tmp 6] Rp) v0 v1 v2 h) :
 Ev s (R.andThen (evC E (recI E) none (bodyOf Tryz.f123) ⟨⟨Tryz.f123.ntmps, initT [v0, v1, v2] 0 .e⟩, h, []⟩) (endCall E Tryz.f123)) fun x => Rp x.1 x.2 :=
  call_ev (C := C123 s) rfl rfl ⟨rfl, rfl, by kernel_rfl, rfl⟩ (by kernel_rfl) (by kernel_rfl) ((by kernel_rfl : contK (C123 s) (KR E Tryz.f123.results.toList Rp) 30 (rs B123 60 (.at [])) (tmOf (zipL 0 [v0, v1, v2])) h = (P123_0 s (KR E [.tmp 6] Rp) v0 v1 v2 h)).mpr H)
theorem F123_get : E.tab.fn.get 123 = some Tryz.f123 := by kernel_rfl
theorem F123_body : Tryz.f123.body = some B123 := by kernel_rfl
theorem F123_sum (l : List Value) (h : AH) : E.sum 123 l h = none := by kernel_rfl
theorem F123_flat {s : Bool} {v0 v1 v2 : Value} {h : AH} {v : Value} (hok : h.ok) (hv : isScalar v = true) (H : P123_0 s (KR E [.tmp 6] (fun x k => x = v ∧ h.next ≤ k.wm)) v0 v1 v2 h.fresh) : (recI E).call 123 [v0, v1, v2] h = some [(v, h)] :=
  call_flat (s := s) hok F123_get F123_body (F123_sum _ _) (by kernel_rfl) hv (F123_ev (Rp := fun x k => x = v ∧ h.next ≤ k.wm) H)
noncomputable def B124 : Code := bodyOf Tryz.f124
noncomputable def C124 (s : Bool) : Cx := ⟨E, s, none, B124, [([0], [0, 1]), ([1, 0, 0], [2, 3]), ([1, 0, 1, 0, 0, 0], [2, 3, 11]), ([1, 0, 1, 0, 0, 1, 1, 0, 0], [2, 3, 11]), ([1, 0, 1, 0, 0, 1, 1, 0, 1, 0], [2, 3, 5, 11]), ([1, 0, 1, 0, 0, 1, 1, 0, 1, 1, 0, 0, 0], [2, 3, 5, 11, 25, 26, 27]), ([1, 0, 1, 0, 0, 1, 1, 0, 1, 1, 0, 0, 1, 1, 0, 0, 0], [2, 3, 5, 11, 25, 26, 27]), ([1, 0, 1, 0, 0, 1, 1, 0, 1, 1, 0, 0, 1, 1, 0, 0, 1, 0], [2, 3, 5, 7, 11, 25, 26, 27]), ([1, 0, 1, 0, 0, 1, 1, 0, 1, 1, 0, 0, 1, 1, 0, 0, 1, 1, 0, 0], []), ([1, 0, 1, 0, 0, 1, 1, 0, 1, 1, 0, 0, 1, 1, 1], [2, 3, 5, 11, 25, 26, 27]), ([1, 1, 0], [])], [4], []⟩
def P124_0 (s : Bool) (K : KF) (v0 v1 : Value) (h : AH) : Prop := SP (C124 s ) K [0] [(0, v0), (1, v1)] h
def P124_1 (s : Bool) (K : KF) (v2 v3 : Value) (h : AH) : Prop := SP (C124 s ) K [1, 0, 0] [(2, v2), (3, v3)] h
def P124_2 (s : Bool) (K : KF) (v2 v3 v11 : Value) (h : AH) : Prop := SP (C124 s ) K [1, 0, 1, 0, 0, 0] [(2, v2), (3, v3), (11, v11)] h
def P124_3 (s : Bool) (K : KF) (v2 v3 v11 : Value) (h : AH) : Prop := SP (C124 s ) K [1, 0, 1, 0, 0, 1, 1, 0, 0] [(2, v2), (3, v3), (11, v11)] h
def P124_4 (s : Bool) (K : KF) (v2 v3 v5 v11 : Value) (h : AH) : Prop := SP (C124 s ) K [1, 0, 1, 0, 0, 1, 1, 0, 1, 0] [(2, v2), (3, v3), (5, v5), (11, v11)] h
def P124_5 (s : Bool) (K : KF) (v2 v3 v5 v11 v25 v26 v27 : Value) (h : AH) : Prop := SP (C124 s ) K [1, 0, 1, 0, 0, 1, 1, 0, 1, 1, 0, 0, 0] [(2, v2), (3, v3), (5, v5), (11, v11), (25, v25), (26, v26), (27, v27)] h
def P124_6 (s : Bool) (K : KF) (v2 v3 v5 v11 v25 v26 v27 : Value) (h : AH) : Prop := SP (C124 s ) K [1, 0, 1, 0, 0, 1, 1, 0, 1, 1, 0, 0, 1, 1, 0, 0, 0] [(2, v2), (3, v3), (5, v5), (11, v11), (25, v25), (26, v26), (27, v27)] h
def P124_7 (s : Bool) (K : KF) (v2 v3 v5 v7 v11 v25 v26 v27 : Value) (h : AH) : Prop := SP (C124 s ) K [1, 0, 1, 0, 0, 1, 1, 0, 1, 1, 0, 0, 1, 1, 0, 0, 1, 0] [(2, v2), (3, v3), (5, v5), (7, v7), (11, v11), (25, v25), (26, v26), (27, v27)] h
def P124_8 (s : Bool) (K : KF) (h : AH) : Prop := SP (C124 s ) K [1, 0, 1, 0, 0, 1, 1, 0, 1, 1, 0, 0, 1, 1, 0, 0, 1, 1, 0, 0] [] h
def P124_9 (s : Bool) (K : KF) (v2 v3 v5 v11 v25 v26 v27 : Value) (h : AH) : Prop := SP (C124 s ) K [1, 0, 1, 0, 0, 1, 1, 0, 1, 1, 0, 0, 1, 1, 1] [(2, v2), (3, v3), (5, v5), (11, v11), (25, v25), (26, v26), (27, v27)] h
def P124_10 (s : Bool) (K : KF) (h : AH) : Prop := SP (C124 s ) K [1, 1, 0] [] h
def Q124_0 (s : Bool) (K : KF) (v0 v1 : Value) (h : AH) : Prop :=
 Ev s (wNewRow 178 h (some v0)) fun x0 =>
 Ev s (wNewRow 112 x0.2 (some v1)) fun x1 =>
 EvO (α := Value) (some (.bool false)) fun x2 =>
 P124_1 s K x0.1 x1.1 x1.2
theorem P124_0_of {v0 v1 : Value} (H : Q124_0 s K v0 v1 h) : P124_0 s K v0 v1 h :=
  step_of (by kernel_rfl) rfl (by kernel_rfl) H
def Q124_1 (s : Bool) (K : KF) (v2 v3 : Value) (h : AH) : Prop :=
 EvO (pFieldAddr E 178 0 (some v2)) fun x0 =>
 EvO (pFieldAddr E 176 2 (some x0)) fun x1 =>
 EvO (rLoad E 174 h (some x1)) fun x2 =>
 Ev s (wRange (some x2) h) fun x3 =>
 P124_2 s K v2 v3 x3.1 x3.2
theorem P124_1_of {v2 v3 : Value} (H : Q124_1 s K v2 v3 h) : P124_1 s K v2 v3 h :=
  step_of (by kernel_rfl) rfl (by kernel_rfl) H
def Q124_2 (s : Bool) (K : KF) (v2 v3 v11 : Value) (h : AH) : Prop :=
 Ev s (wNext false (some v11) h) fun x0 =>
 EvO (pExtract 0 (some x0.1)) fun x1 =>
 BrK (some x1) (P124_3 s K v2 v3 v11 x0.2) (P124_10 s K  x0.2)
theorem P124_2_of {v2 v3 v11 : Value} (H : Q124_2 s K v2 v3 v11 h) : P124_2 s K v2 v3 v11 h :=
  step_of (by kernel_rfl) rfl (by kernel_rfl) H
def Q124_3 (s : Bool) (K : KF) (v2 v3 v11 : Value) (h : AH) : Prop :=
 EvO (rEntry (some v11) h) fun x0 =>
 EvO (pExtract 0 (some x0)) fun x1 =>
 Ev s (wNewRow 54 h (zeroV E 54)) fun x2 =>
 Ev s (wStore E 54 x2.2 (some x2.1) (some x1)) fun x3 =>
 P124_4 s K v2 v3 x2.1 v11 x3.2
theorem P124_3_of {v2 v3 v11 : Value} (H : Q124_3 s K v2 v3 v11 h) : P124_3 s K v2 v3 v11 h :=
  step_of (by kernel_rfl) rfl (by kernel_rfl) H
def Q124_4 (s : Bool) (K : KF) (v2 v3 v5 v11 : Value) (h : AH) : Prop :=
 EvO (pFieldAddr E 178 0 (some v2)) fun x0 =>
 EvO (pFieldAddr E 176 0 (some x0)) fun x1 =>
 EvO (rLoad E 128 h (some x1)) fun x2 =>
 EvO (pNilCheck (some x2)) fun x3 =>
 EvO (pFieldAddr E 131 0 (some x3)) fun x4 =>
 EvO (rLoad E 129 h (some x4)) fun x5 =>
 EvO (pIndexAddr E 54 (some v5) (some (.int .i64 0))) fun x6 =>
 EvO (rLoad E 3 h (some x6)) fun x7 =>
 EvO (pIndexAddr E 129 (some x5) (some x7)) fun x8 =>
 EvO (rLoad E 132 h (some x8)) fun x9 =>
 EvO (evRead E (tmOf [(25, x9)]) (opAt B124 [1, 0, 1, 0, 0, 1, 1, 0, 1, 0] 10) h) fun x10 =>
 EvO (α := Value) (some (.int .i64 0)) fun x11 =>
 P124_5 s K v2 v3 v5 v11 x9 x10 x11 h
theorem P124_4_of {v2 v3 v5 v11 : Value} (H : Q124_4 s K v2 v3 v5 v11 h) : P124_4 s K v2 v3 v5 v11 h :=
  step_of (by kernel_rfl) rfl (by kernel_rfl) H
theorem len124_4_10 : evRead E (tmOf [(25, .slice a n c)]) (opAt B124 [1, 0, 1, 0, 0, 1, 1, 0, 1, 0] 10) h = some (.int .i64 (n : Int)) := by cases a <;> kernel_rfl
def Q124_5 (s : Bool) (K : KF) (v2 v3 v5 v11 v25 v26 v27 : Value) (h : AH) : Prop :=
 EvO (binFast E .lss 3 v27 v26) fun x0 =>
 BrK (some x0) (P124_6 s K v2 v3 v5 v11 v25 v26 v27 h) (P124_2 s K v2 v3 v11 h)
theorem P124_5_of {v2 v3 v5 v11 v25 v26 v27 : Value} (H : Q124_5 s K v2 v3 v5 v11 v25 v26 v27 h) : P124_5 s K v2 v3 v5 v11 v25 v26 v27 h :=
  step_of (by kernel_rfl) rfl (by kernel_rfl) H
def Q124_6 (s : Bool) (K : KF) (v2 v3 v5 v11 v25 v26 v27 : Value) (h : AH) : Prop :=
 EvO (pIndexAddr E 132 (some v25) (some v27)) fun x0 =>
 EvO (rLoad E 134 h (some x0)) fun x1 =>
 Ev s (wNewRow 134 h (zeroV E 134)) fun x2 =>
 Ev s (wStore E 134 x2.2 (some x2.1) (some x1)) fun x3 =>
 P124_7 s K v2 v3 v5 x2.1 v11 v25 v26 v27 x3.2
theorem P124_6_of {v2 v3 v5 v11 v25 v26 v27 : Value} (H : Q124_6 s K v2 v3 v5 v11 v25 v26 v27 h) : P124_6 s K v2 v3 v5 v11 v25 v26 v27 h :=
  step_of (by kernel_rfl) rfl (by kernel_rfl) H
def Q124_7 (s : Bool) (K : KF) (v2 v3 v5 v7 v11 v25 v26 v27 : Value) (h : AH) : Prop :=
 EvO (pFieldAddr E 112 0 (some v3)) fun x0 =>
 EvO (rLoad E 109 h (some x0)) fun x1 =>
 EvO (rLoad E 178 h (some v2)) fun x2 =>
 EvO (pIndexAddr E 54 (some v5) (some (.int .i64 0))) fun x3 =>
 EvO (rLoad E 3 h (some x3)) fun x4 =>
 EvO (pIndexAddr E 54 (some v5) (some (.int .i64 1))) fun x5 =>
 EvO (rLoad E 3 h (some x5)) fun x6 =>
 EvO (rLoad E 134 h (some v7)) fun x7 =>
 Ev s (wCallV (recI E) (some x1) (some [x2, x4, x6, x7]) h) fun x8 =>
 EvO (unFast .not x8.1) fun x9 =>
 BrK (some x9) (P124_8 s K  x8.2) (P124_9 s K v2 v3 v5 v11 v25 v26 v27 x8.2)
theorem P124_7_of {v2 v3 v5 v7 v11 v25 v26 v27 : Value} (H : Q124_7 s K v2 v3 v5 v7 v11 v25 v26 v27 h) : P124_7 s K v2 v3 v5 v7 v11 v25 v26 v27 h :=
  step_of (by kernel_rfl) rfl (by kernel_rfl) H
def Q124_8 (s : Bool) (K : KF) (h : AH) : Prop :=
 EvO (α := Value) (some (.bool false)) fun x0 =>
 K .ret [x0] h
theorem P124_8_of (H : Q124_8 s K h) : P124_8 s K h :=
  step_of (by kernel_rfl) rfl (by kernel_rfl) H
def Q124_9 (s : Bool) (K : KF) (v2 v3 v5 v11 v25 v26 v27 : Value) (h : AH) : Prop :=
 EvO (binFast E .add 3 v27 (.int .i64 1)) fun x0 =>
 EvO (some x0) fun x1 =>
 P124_5 s K v2 v3 v5 v11 v25 v26 x1 h
theorem P124_9_of {v2 v3 v5 v11 v25 v26 v27 : Value} (H : Q124_9 s K v2 v3 v5 v11 v25 v26 v27 h) : P124_9 s K v2 v3 v5 v11 v25 v26 v27 h :=
  step_of (by kernel_rfl) rfl (by kernel_rfl) H
def Q124_10 (s : Bool) (K : KF) (h : AH) : Prop :=
 EvO (α := Value) (some (.bool true)) fun x0 =>
 K .ret [x0] h
theorem P124_10_of (H : Q124_10 s K h) : P124_10 s K h :=
  step_of (by kernel_rfl) rfl (by kernel_rfl) H
theorem F124_ev {s : Bool} {v0 v1 : Value} {h : AH} {Rp : Value → AH → Prop} (H : P124_0 s (KR E [.tmp 4] Rp) v0 v1 h) :
 Ev s (R.andThen (evC E (recI E) none (bodyOf Tryz.f124) ⟨⟨Tryz.f124.ntmps, initT [v0, v1] 0 .e⟩, h, []⟩) (endCall E Tryz.f124)) fun x => Rp x.1 x.2 :=
  call_ev (C := C124 s) rfl rfl ⟨rfl, rfl, by kernel_rfl, rfl⟩ (by kernel_rfl) (by kernel_rfl) ((by kernel_rfl : contK (C124 s) (KR E Tryz.f124.results.toList Rp) 30 (rs B124 60 (.at [])) (tmOf (zipL 0 [v0, v1])) h = (P124_0 s (KR E [.tmp 4] Rp) v0 v1 h)).mpr H)
theorem F124_get : E.tab.fn.get 124 = some Tryz.f124 := by kernel_rfl
theorem F124_body : Tryz.f124.body = some B124 := by kernel_rfl
theorem F124_sum (l : List Value) (h : AH) : E.sum 124 l h = none := by kernel_rfl
theorem F124_flat {s : Bool} {v0 v1 : Value} {h : AH} {v : Value} (hok : h.ok) (hv : isScalar v = true) (H : P124_0 s (KR E [.tmp 4] (fun x k => x = v ∧ h.next ≤ k.wm)) v0 v1 h.fresh) : (recI E).call 124 [v0, v1] h = some [(v, h)] :=
  call_flat (s := s) hok F124_get F124_body (F124_sum _ _) (by kernel_rfl) hv (F124_ev (Rp := fun x k => x = v ∧ h.next ≤ k.wm) H)
noncomputable def B125 : Code := bodyOf Tryz.f125
noncomputable def C125 (s : Bool) : Cx := ⟨E, s, none, B125, [([0], [0]), ([1, 0], [1, 2]), ([1, 1, 0, 0], [1, 2, 3]), ([1, 1, 0, 1, 0, 0, 0], [2, 3, 13]), ([1, 1, 0, 1, 0, 0, 1, 1, 0, 0], [2, 3, 13]), ([1, 1, 0, 1, 0, 0, 1, 1, 0, 1], [2, 3, 4, 13]), ([1, 1, 1, 0], [2, 3])], [2], []⟩
def P125_0 (s : Bool) (K : KF) (v0 : Value) (h : AH) : Prop := SP (C125 s ) K [0] [(0, v0)] h
def P125_1 (s : Bool) (K : KF) (v1 v2 : Value) (h : AH) : Prop := SP (C125 s ) K [1, 0] [(1, v1), (2, v2)] h
def P125_2 (s : Bool) (K : KF) (v1 v2 v3 : Value) (h : AH) : Prop := SP (C125 s ) K [1, 1, 0, 0] [(1, v1), (2, v2), (3, v3)] h
def P125_3 (s : Bool) (K : KF) (v2 v3 v13 : Value) (h : AH) : Prop := SP (C125 s ) K [1, 1, 0, 1, 0, 0, 0] [(2, v2), (3, v3), (13, v13)] h
def P125_4 (s : Bool) (K : KF) (v2 v3 v13 : Value) (h : AH) : Prop := SP (C125 s ) K [1, 1, 0, 1, 0, 0, 1, 1, 0, 0] [(2, v2), (3, v3), (13, v13)] h
def P125_5 (s : Bool) (K : KF) (v2 v3 v4 v13 : Value) (h : AH) : Prop := SP (C125 s ) K [1, 1, 0, 1, 0, 0, 1, 1, 0, 1] [(2, v2), (3, v3), (4, v4), (13, v13)] h
def P125_6 (s : Bool) (K : KF) (v2 v3 : Value) (h : AH) : Prop := SP (C125 s ) K [1, 1, 1, 0] [(2, v2), (3, v3)] h
def Q125_0 (s : Bool) (K : KF) (v0 : Value) (h : AH) : Prop :=
 Ev s (wNewRow 176 h (some v0)) fun x0 =>
 Ev s (wNewRow 176 x0.2 (zeroV E 176)) fun x1 =>
 P125_1 s K x0.1 x1.1 x1.2
theorem P125_0_of {v0 : Value} (H : Q125_0 s K v0 h) : P125_0 s K v0 h :=
  step_of (by kernel_rfl) rfl (by kernel_rfl) H
def Q125_1 (s : Bool) (K : KF) (v1 v2 : Value) (h : AH) : Prop :=
 EvO (pFieldAddr E 176 1 (some v1)) fun x0 =>
 EvO (rLoad E 128 h (some x0)) fun x1 =>
 EvO (pFieldAddr E 176 0 (some v1)) fun x2 =>
 EvO (rLoad E 128 h (some x2)) fun x3 =>
 Ev s (one (.map (some (h).next), (h).new (.map [] 0))) fun x4 =>
 EvO (pBuild E 176 (some [(0, x1), (1, x3), (2, x4.1)])) fun x5 =>
 Ev s (wNewRow 176 x4.2 (zeroV E 176)) fun x6 =>
 Ev s (wStore E 176 x6.2 (some x6.1) (some x5)) fun x7 =>
 P125_2 s K v1 v2 x6.1 x7.2
theorem P125_1_of {v1 v2 : Value} (H : Q125_1 s K v1 v2 h) : P125_1 s K v1 v2 h :=
  step_of (by kernel_rfl) rfl (by kernel_rfl) H
def Q125_2 (s : Bool) (K : KF) (v1 v2 v3 : Value) (h : AH) : Prop :=
 EvO (pFieldAddr E 176 2 (some v1)) fun x0 =>
 EvO (rLoad E 174 h (some x0)) fun x1 =>
 Ev s (wRange (some x1) h) fun x2 =>
 P125_3 s K v2 v3 x2.1 x2.2
theorem P125_2_of {v1 v2 v3 : Value} (H : Q125_2 s K v1 v2 v3 h) : P125_2 s K v1 v2 v3 h :=
  step_of (by kernel_rfl) rfl (by kernel_rfl) H
def Q125_3 (s : Bool) (K : KF) (v2 v3 v13 : Value) (h : AH) : Prop :=
 Ev s (wNext false (some v13) h) fun x0 =>
 EvO (pExtract 0 (some x0.1)) fun x1 =>
 BrK (some x1) (P125_4 s K v2 v3 v13 x0.2) (P125_6 s K v2 v3 x0.2)
theorem P125_3_of {v2 v3 v13 : Value} (H : Q125_3 s K v2 v3 v13 h) : P125_3 s K v2 v3 v13 h :=
  step_of (by kernel_rfl) rfl (by kernel_rfl) H
def Q125_4 (s : Bool) (K : KF) (v2 v3 v13 : Value) (h : AH) : Prop :=
 EvO (rEntry (some v13) h) fun x0 =>
 EvO (pExtract 0 (some x0)) fun x1 =>
 Ev s (wNewRow 54 h (zeroV E 54)) fun x2 =>
 Ev s (wStore E 54 x2.2 (some x2.1) (some x1)) fun x3 =>
 P125_5 s K v2 v3 x2.1 v13 x3.2
theorem P125_4_of {v2 v3 v13 : Value} (H : Q125_4 s K v2 v3 v13 h) : P125_4 s K v2 v3 v13 h :=
  step_of (by kernel_rfl) rfl (by kernel_rfl) H
def Q125_5 (s : Bool) (K : KF) (v2 v3 v4 v13 : Value) (h : AH) : Prop :=
 EvO (pFieldAddr E 176 2 (some v3)) fun x0 =>
 EvO (rLoad E 174 h (some x0)) fun x1 =>
 EvO (pIndexAddr E 54 (some v4) (some (.int .i64 1))) fun x2 =>
 EvO (rLoad E 3 h (some x2)) fun x3 =>
 EvO (pIndexAddr E 54 (some v4) (some (.int .i64 0))) fun x4 =>
 EvO (rLoad E 3 h (some x4)) fun x5 =>
 EvO (pBuild E 54 (some [(0, x3), (1, x5)])) fun x6 =>
 Ev s (wMapUpdate E 174 (some x1) (some x6) (some (.bool true)) h) fun x7 =>
 P125_3 s K v2 v3 v13 x7.2
theorem P125_5_of {v2 v3 v4 v13 : Value} (H : Q125_5 s K v2 v3 v4 v13 h) : P125_5 s K v2 v3 v4 v13 h :=
  step_of (by kernel_rfl) rfl (by kernel_rfl) H
def Q125_6 (s : Bool) (K : KF) (v2 v3 : Value) (h : AH) : Prop :=
 EvO (rLoad E 176 h (some v3)) fun x0 =>
 Ev s (wStore E 176 h (some v2) (some x0)) fun x1 =>
 K .ret [v2] x1.2
theorem P125_6_of {v2 v3 : Value} (H : Q125_6 s K v2 v3 h) : P125_6 s K v2 v3 h :=
  step_of (by kernel_rfl) rfl (by kernel_rfl) H
theorem F125_ev {s : Bool} {v0 : Value} {h : AH} {Rp : Value → AH → Prop} (H : P125_0 s (KR E [.cell 2 176] Rp) v0 h) :
 Ev s (R.andThen (evC E (recI E) none (bodyOf Tryz.f125) ⟨⟨Tryz.f125.ntmps, initT [v0] 0 .e⟩, h, []⟩) (endCall E Tryz.f125)) fun x => Rp x.1 x.2 :=
  call_ev (C := C125 s) rfl rfl ⟨rfl, rfl, by kernel_rfl, rfl⟩ (by kernel_rfl) (by kernel_rfl) ((by kernel_rfl : contK (C125 s) (KR E Tryz.f125.results.toList Rp) 30 (rs B125 60 (.at [])) (tmOf (zipL 0 [v0])) h = (P125_0 s (KR E [.cell 2 176] Rp) v0 h)).mpr H)
theorem F125_get : E.tab.fn.get 125 = some Tryz.f125 := by kernel_rfl
theorem F125_body : Tryz.f125.body = some B125 := by kernel_rfl
theorem F125_sum (l : List Value) (h : AH) : E.sum 125 l h = none := by kernel_rfl
noncomputable def B128 : Code := bodyOf Tryz.f128
noncomputable def C128 (s : Bool) : Cx := ⟨E, s, none, B128, [([0], [0, 2, 3]), ([1, 0], [2, 4, 7])], [8], []⟩
def P128_0 (s : Bool) (K : KF) (v0 v2 v3 : Value) (h : AH) : Prop := SP (C128 s ) K [0] [(0, v0), (2, v2), (3, v3)] h
def P128_1 (s : Bool) (K : KF) (v2 v4 v7 : Value) (h : AH) : Prop := SP (C128 s ) K [1, 0] [(2, v2), (4, v4), (7, v7)] h
def Q128_0 (s : Bool) (K : KF) (v0 v2 v3 : Value) (h : AH) : Prop :=
 Ev s (wNewRow 178 h (some v0)) fun x0 =>
 Ev s (wNewRow 134 x0.2 (some v3)) fun x1 =>
 EvO (α := Value) (some (.bool false)) fun x2 =>
 P128_1 s K v2 x0.1 x1.1 x1.2
theorem P128_0_of {v0 v2 v3 : Value} (H : Q128_0 s K v0 v2 v3 h) : P128_0 s K v0 v2 v3 h :=
  step_of (by kernel_rfl) rfl (by kernel_rfl) H
def Q128_1 (s : Bool) (K : KF) (v2 v4 v7 : Value) (h : AH) : Prop :=
 EvO (pFieldAddr E 178 0 (some v4)) fun x0 =>
 EvO (pFieldAddr E 176 1 (some x0)) fun x1 =>
 EvO (rLoad E 128 h (some x1)) fun x2 =>
 EvO (pNilCheck (some x2)) fun x3 =>
 EvO (pFieldAddr E 131 0 (some x3)) fun x4 =>
 EvO (rLoad E 129 h (some x4)) fun x5 =>
 EvO (some v2) fun x6 =>
 EvO (pIndexAddr E 129 (some x5) (some x6)) fun x7 =>
 EvO (rLoad E 132 h (some x7)) fun x8 =>
 EvO (pMakeFunc (.func 174) (some []) (some [v7, v4])) fun x9 =>
 Ev s (wCallV (recI E) (some (.func (.func 173) #[] #[])) (some [x8, x9]) h) fun x10 =>
 EvO (some x10.1) fun x11 =>
 K .ret [x11] x10.2
theorem P128_1_of {v2 v4 v7 : Value} (H : Q128_1 s K v2 v4 v7 h) : P128_1 s K v2 v4 v7 h :=
  step_of (by kernel_rfl) rfl (by kernel_rfl) H
theorem F128_ev {s : Bool} {v0 v1 v2 v3 : Value} {h : AH} {Rp : Value → AH → Prop} (H : P128_0 s (KR E [.tmp 8] Rp) v0 v2 v3 h) :
 Ev s (R.andThen (evC E (recI E) none (bodyOf Tryz.f128) ⟨⟨Tryz.f128.ntmps, initT [v0, v1, v2, v3] 0 .e⟩, h, []⟩) (endCall E Tryz.f128)) fun x => Rp x.1 x.2 :=
  call_ev (C := C128 s) rfl rfl ⟨rfl, rfl, by kernel_rfl, rfl⟩ (by kernel_rfl) (by kernel_rfl) ((by kernel_rfl : contK (C128 s) (KR E Tryz.f128.results.toList Rp) 30 (rs B128 60 (.at [])) (tmOf (zipL 0 [v0, v1, v2, v3])) h = (P128_0 s (KR E [.tmp 8] Rp) v0 v2 v3 h)).mpr H)
theorem F128_get : E.tab.fn.get 128 = some Tryz.f128 := by kernel_rfl
theorem F128_body : Tryz.f128.body = some B128 := by kernel_rfl
theorem F128_sum (l : List Value) (h : AH) : E.sum 128 l h = none := by kernel_rfl
theorem F128_flat {s : Bool} {v0 v1 v2 v3 : Value} {h : AH} {v : Value} (hok : h.ok) (hv : isScalar v = true) (H : P128_0 s (KR E [.tmp 8] (fun x k => x = v ∧ h.next ≤ k.wm)) v0 v2 v3 h.fresh) : (recI E).call 128 [v0, v1, v2, v3] h = some [(v, h)] :=
  call_flat (s := s) hok F128_get F128_body (F128_sum _ _) (by kernel_rfl) hv (F128_ev (Rp := fun x k => x = v ∧ h.next ≤ k.wm) H)
noncomputable def B130 : Code := bodyOf Tryz.f130
theorem F130_get : E.tab.fn.get 130 = some Tryz.f130 := by kernel_rfl
theorem F130_body : Tryz.f130.body = some B130 := by kernel_rfl
theorem F130_sum (l : List Value) (h : AH) : E.sum 130 l h = none := by kernel_rfl
noncomputable def B143 : Code := bodyOf Tryz.f143
noncomputable def C143 (s : Bool) : Cx := ⟨E, s, none, B143, [([0], [0, 1]), ([1, 0, 0], [0, 3]), ([1, 0, 1, 0, 0], []), ([1, 1, 0], [0, 3]), ([1, 1, 1, 0, 0], [0, 3, 5, 6]), ([1, 1, 1, 0, 1, 0], [0, 3, 5]), ([1, 1, 1, 1, 0], [5])], [4], []⟩
def P143_0 (s : Bool) (K : KF) (v0 v1 : Value) (h : AH) : Prop := SP (C143 s ) K [0] [(0, v0), (1, v1)] h
def P143_1 (s : Bool) (K : KF) (v0 v3 : Value) (h : AH) : Prop := SP (C143 s ) K [1, 0, 0] [(0, v0), (3, v3)] h
def P143_2 (s : Bool) (K : KF) (h : AH) : Prop := SP (C143 s ) K [1, 0, 1, 0, 0] [] h
def P143_3 (s : Bool) (K : KF) (v0 v3 : Value) (h : AH) : Prop := SP (C143 s ) K [1, 1, 0] [(0, v0), (3, v3)] h
def P143_4 (s : Bool) (K : KF) (v0 v3 v5 v6 : Value) (h : AH) : Prop := SP (C143 s ) K [1, 1, 1, 0, 0] [(0, v0), (3, v3), (5, v5), (6, v6)] h
def P143_5 (s : Bool) (K : KF) (v0 v3 v5 : Value) (h : AH) : Prop := SP (C143 s ) K [1, 1, 1, 0, 1, 0] [(0, v0), (3, v3), (5, v5)] h
def P143_6 (s : Bool) (K : KF) (v5 : Value) (h : AH) : Prop := SP (C143 s ) K [1, 1, 1, 1, 0] [(5, v5)] h
def Q143_0 (s : Bool) (K : KF) (v0 v1 : Value) (h : AH) : Prop :=
 Ev s (wNewRow 36 h (some v1)) fun x0 =>
 EvO (α := Value) (some (.int .i64 0)) fun x1 =>
 P143_1 s K v0 x0.1 x0.2
theorem P143_0_of {v0 v1 : Value} (H : Q143_0 s K v0 v1 h) : P143_0 s K v0 v1 h :=
  step_of (by kernel_rfl) rfl (by kernel_rfl) H
def Q143_1 (s : Bool) (K : KF) (v0 v3 : Value) (h : AH) : Prop :=
 EvO (pFieldAddr E 36 0 (some v3)) fun x0 =>
 EvO (rLoad E 3 h (some x0)) fun x1 =>
 EvO (binFast E .eql 3 x1 (.int .i64 (-1))) fun x2 =>
 BrK (some x2) (P143_2 s K  h) (P143_3 s K v0 v3 h)
theorem P143_1_of {v0 v3 : Value} (H : Q143_1 s K v0 v3 h) : P143_1 s K v0 v3 h :=
  step_of (by kernel_rfl) rfl (by kernel_rfl) H
def Q143_2 (s : Bool) (K : KF) (h : AH) : Prop :=
 EvO (α := Value) (some (.int .i64 0)) fun x0 =>
 K .ret [x0] h
theorem P143_2_of (H : Q143_2 s K h) : P143_2 s K h :=
  step_of (by kernel_rfl) rfl (by kernel_rfl) H
def Q143_3 (s : Bool) (K : KF) (v0 v3 : Value) (h : AH) : Prop :=
 EvO (some v0) fun x0 =>
 EvO (pNilCheck (some x0)) fun x1 =>
 EvO (pFieldAddr E 197 0 (some x1)) fun x2 =>
 EvO (rLoad E 22 h (some x2)) fun x3 =>
 EvO (rLoad E 36 h (some v3)) fun x4 =>
 Ev s (wCallV (recI E) (some (.func (.func 190) #[] #[])) (some [x3, x4, (.func (.func 168) #[] #[])]) h) fun x5 =>
 EvO (some x5.1) fun x6 =>
 EvO (pExtract 0 (some x6)) fun x7 =>
 EvO (pExtract 1 (some x6)) fun x8 =>
 EvO (some x7) fun x9 =>
 EvO (some x8) fun x10 =>
 P143_4 s K v0 v3 x9 x10 x5.2
theorem P143_3_of {v0 v3 : Value} (H : Q143_3 s K v0 v3 h) : P143_3 s K v0 v3 h :=
  step_of (by kernel_rfl) rfl (by kernel_rfl) H
def Q143_4 (s : Bool) (K : KF) (v0 v3 v5 v6 : Value) (h : AH) : Prop :=
 EvO (some v6) fun x0 =>
 EvO (unFast .not x0) fun x1 =>
 BrK (some x1) (P143_5 s K v0 v3 v5 h) (P143_6 s K v5 h)
theorem P143_4_of {v0 v3 v5 v6 : Value} (H : Q143_4 s K v0 v3 v5 v6 h) : P143_4 s K v0 v3 v5 v6 h :=
  step_of (by kernel_rfl) rfl (by kernel_rfl) H
def Q143_5 (s : Bool) (K : KF) (v0 v3 v5 : Value) (h : AH) : Prop :=
 EvO (some v0) fun x0 =>
 EvO (some v0) fun x1 =>
 EvO (pNilCheck (some x1)) fun x2 =>
 EvO (pFieldAddr E 197 0 (some x2)) fun x3 =>
 EvO (rLoad E 22 h (some x3)) fun x4 =>
 EvO (some v5) fun x5 =>
 EvO (rLoad E 36 h (some v3)) fun x6 =>
 Ev s (wBuildSlice E 22 1 (some [(0, x6)]) h) fun x7 =>
 EvO (rLoad E 22 x7.2 (some x3)) fun u7_4 => veq 100 u7_4 x4 = true ∧
 (Ev s (wCallV (recI E) (some (.func (.func 191) #[] #[])) (some [x4, x5, x7.1]) x7.2) fun x8 =>
 EvO (pNilCheck (some x0)) fun x9 =>
 EvO (pFieldAddr E 197 0 (some x9)) fun x10 =>
 Ev s (wStore E 22 x8.2 (some x10) (some x8.1)) fun x11 =>
 P143_6 s K v5 x11.2)
theorem P143_5_of {v0 v3 v5 : Value} (H : Q143_5 s K v0 v3 v5 h) : P143_5 s K v0 v3 v5 h :=
  step_of (by kernel_rfl) rfl (by kernel_rfl) H
def Q143_6 (s : Bool) (K : KF) (v5 : Value) (h : AH) : Prop :=
 EvO (some v5) fun x0 =>
 EvO (binFast E .add 3 x0 (.int .i64 1)) fun x1 =>
 EvO (some x1) fun x2 =>
 K .ret [x2] h
theorem P143_6_of {v5 : Value} (H : Q143_6 s K v5 h) : P143_6 s K v5 h :=
  step_of (by kernel_rfl) rfl (by kernel_rfl) H
theorem F143_ev {s : Bool} {v0 v1 : Value} {h : AH} {Rp : Value → AH → Prop} (H : P143_0 s (KR E [.tmp 4] Rp) v0 v1 h) :
 Ev s (R.andThen (evC E (recI E) none (bodyOf Tryz.f143) ⟨⟨Tryz.f143.ntmps, initT [v0, v1] 0 .e⟩, h, []⟩) (endCall E Tryz.f143)) fun x => Rp x.1 x.2 :=
  call_ev (C := C143 s) rfl rfl ⟨rfl, rfl, by kernel_rfl, rfl⟩ (by kernel_rfl) (by kernel_rfl) ((by kernel_rfl : contK (C143 s) (KR E Tryz.f143.results.toList Rp) 30 (rs B143 60 (.at [])) (tmOf (zipL 0 [v0, v1])) h = (P143_0 s (KR E [.tmp 4] Rp) v0 v1 h)).mpr H)
theorem F143_get : E.tab.fn.get 143 = some Tryz.f143 := by kernel_rfl
theorem F143_body : Tryz.f143.body = some B143 := by kernel_rfl
theorem F143_sum (l : List Value) (h : AH) : E.sum 143 l h = none := by kernel_rfl
theorem F143_flat1 {v0 v1 : Value} {h : AH} {v : Value} (hok : h.ok) (hv : isFlat v = true) (H : P143_0 true (KR E [.tmp 4] (fun x k => x = v ∧ h.next ≤ k.wm)) v0 v1 h.fresh) : (recI E).call 143 [v0, v1] h = some [(v, h)] :=
  call_flat1 hok F143_get F143_body (F143_sum _ _) (by kernel_rfl) hv (F143_ev (Rp := fun x k => x = v ∧ h.next ≤ k.wm) H)
theorem F143_some {v0 v1 : Value} {h : AH} {Rp : Value → AH → Prop} (H : P143_0 true (KR E [.tmp 4] (fun x k => (isFlat x = false ∨ k.wm < h.next) ∧ Rp x ⟨k.t, k.next, cond (Nat.ble h.wm k.wm) h.wm k.wm⟩)) v0 v1 h.fresh) : Ev true ((recI E).call 143 [v0, v1] h) fun x => Rp x.1 x.2 :=
  call_some F143_get F143_body (F143_sum _ _) (by kernel_rfl) (F143_ev (Rp := fun x k => (isFlat x = false ∨ k.wm < h.next) ∧ Rp x ⟨k.t, k.next, cond (Nat.ble h.wm k.wm) h.wm k.wm⟩) H)
noncomputable def B154 : Code := bodyOf Tryz.f154
noncomputable def C154 (s : Bool) : Cx := ⟨E, s, none, B154, [([0], [0]), ([1, 0], [0])], [2], []⟩
def P154_0 (s : Bool) (K : KF) (v0 : Value) (h : AH) : Prop := SP (C154 s ) K [0] [(0, v0)] h
def P154_1 (s : Bool) (K : KF) (v0 : Value) (h : AH) : Prop := SP (C154 s ) K [1, 0] [(0, v0)] h
def Q154_0 (s : Bool) (K : KF) (v0 : Value) (h : AH) : Prop :=
 EvO (α := Value) (some (.bool false)) fun x0 =>
 P154_1 s K v0 h
theorem P154_0_of {v0 : Value} (H : Q154_0 s K v0 h) : P154_0 s K v0 h :=
  step_of (by kernel_rfl) rfl (by kernel_rfl) H
def Q154_1 (s : Bool) (K : KF) (v0 : Value) (h : AH) : Prop :=
 EvO (some v0) fun x0 =>
 EvO (some v0) fun x1 =>
 EvO (binFast E .neq 3 x0 x1) fun x2 =>
 EvO (some x2) fun x3 =>
 K .ret [x3] h
theorem P154_1_of {v0 : Value} (H : Q154_1 s K v0 h) : P154_1 s K v0 h :=
  step_of (by kernel_rfl) rfl (by kernel_rfl) H
theorem F154_ev {s : Bool} {v0 : Value} {h : AH} {Rp : Value → AH → Prop} (H : P154_0 s (KR E [.tmp 2] Rp) v0 h) :
 Ev s (R.andThen (evC E (recI E) none (bodyOf Tryz.f154) ⟨⟨Tryz.f154.ntmps, initT [v0] 0 .e⟩, h, []⟩) (endCall E Tryz.f154)) fun x => Rp x.1 x.2 :=
  call_ev (C := C154 s) rfl rfl ⟨rfl, rfl, by kernel_rfl, rfl⟩ (by kernel_rfl) (by kernel_rfl) ((by kernel_rfl : contK (C154 s) (KR E Tryz.f154.results.toList Rp) 30 (rs B154 60 (.at [])) (tmOf (zipL 0 [v0])) h = (P154_0 s (KR E [.tmp 2] Rp) v0 h)).mpr H)
theorem F154_get : E.tab.fn.get 154 = some Tryz.f154 := by kernel_rfl
theorem F154_body : Tryz.f154.body = some B154 := by kernel_rfl
theorem F154_sum (l : List Value) (h : AH) : E.sum 154 l h = none := by kernel_rfl
theorem F154_flat {s : Bool} {v0 : Value} {h : AH} {v : Value} (hok : h.ok) (hv : isScalar v = true) (H : P154_0 s (KR E [.tmp 2] (fun x k => x = v ∧ h.next ≤ k.wm)) v0 h.fresh) : (recI E).call 154 [v0] h = some [(v, h)] :=
  call_flat (s := s) hok F154_get F154_body (F154_sum _ _) (by kernel_rfl) hv (F154_ev (Rp := fun x k => x = v ∧ h.next ≤ k.wm) H)
noncomputable def B167 : Code := bodyOf Tryz.f167
noncomputable def C167 (s : Bool) : Cx := ⟨E, s, none, B167, [([0], [0]), ([1, 0], [1]), ([1, 1, 0, 0], [1, 3]), ([1, 1, 0, 1, 0, 0], []), ([1, 1, 1, 0], [])], [2], []⟩
def P167_0 (s : Bool) (K : KF) (v0 : Value) (h : AH) : Prop := SP (C167 s ) K [0] [(0, v0)] h
def P167_1 (s : Bool) (K : KF) (v1 : Value) (h : AH) : Prop := SP (C167 s ) K [1, 0] [(1, v1)] h
def P167_2 (s : Bool) (K : KF) (v1 v3 : Value) (h : AH) : Prop := SP (C167 s ) K [1, 1, 0, 0] [(1, v1), (3, v3)] h
def P167_3 (s : Bool) (K : KF) (h : AH) : Prop := SP (C167 s ) K [1, 1, 0, 1, 0, 0] [] h
def P167_4 (s : Bool) (K : KF) (h : AH) : Prop := SP (C167 s ) K [1, 1, 1, 0] [] h
def Q167_0 (s : Bool) (K : KF) (v0 : Value) (h : AH) : Prop :=
 Ev s (wNewRow 36 h (some v0)) fun x0 =>
 EvO (α := Value) (some (.int .i64 0)) fun x1 =>
 P167_1 s K x0.1 x0.2
theorem P167_0_of {v0 : Value} (H : Q167_0 s K v0 h) : P167_0 s K v0 h :=
  step_of (by kernel_rfl) rfl (by kernel_rfl) H
def Q167_1 (s : Bool) (K : KF) (v1 : Value) (h : AH) : Prop :=
 EvO (pFieldAddr E 36 0 (some v1)) fun x0 =>
 EvO (rLoad E 3 h (some x0)) fun x1 =>
 EvO (binFast E .eql 3 x1 (.int .i64 (-3))) fun x2 =>
 EvO (some x2) fun x3 =>
 EvO (gdB x3 false (pFieldAddr E 36 0 (some v1))) fun x4 =>
 EvO (gdB x3 false (rLoad E 3 h (some x4))) fun x5 =>
 EvO (gdB x3 false (binFast E .eql 3 x5 (.int .i64 (-1)))) fun x6 =>
 EvO (pickV (some x3) (some (.bool true)) (some x6)) fun x7 =>
 EvO (some x7) fun x8 =>
 P167_2 s K v1 x8 h
theorem P167_1_of {v1 : Value} (H : Q167_1 s K v1 h) : P167_1 s K v1 h :=
  step_of (by kernel_rfl) rfl (by kernel_rfl) H
def Q167_2 (s : Bool) (K : KF) (v1 v3 : Value) (h : AH) : Prop :=
 EvO (pFieldAddr E 36 0 (some v1)) fun x0 =>
 EvO (rLoad E 3 h (some x0)) fun x1 =>
 EvO (binFast E .lss 3 x1 (.int .i64 (-3))) fun x2 =>
 EvO (some x2) fun x3 =>
 EvO (gdB x3 false (pFieldAddr E 36 0 (some v1))) fun x4 =>
 EvO (gdB x3 false (rLoad E 3 h (some x4))) fun x5 =>
 EvO (gdB x3 false (binFast E .geq 3 x5 (.int .i64 32))) fun x6 =>
 EvO (pickV (some x3) (some (.bool true)) (some x6)) fun x7 =>
 EvO (some x7) fun x8 =>
 EvO (gdB x8 false (pFieldAddr E 36 1 (some v1))) fun x9 =>
 EvO (gdB x8 false (rLoad E 34 h (some x9))) fun x10 =>
 EvO (gdB x8 false (evRead E (tmOf [(22, x10)]) (opAt B167 [1, 1, 0, 0] 11) h)) fun x11 =>
 EvO (gdB x8 false (binFast E .gtr 3 x11 (.int .i64 8))) fun x12 =>
 EvO (pickV (some x8) (some (.bool true)) (some x12)) fun x13 =>
 EvO (some x13) fun x14 =>
 EvO (gdB x14 false (some v3)) fun x15 =>
 EvO (gdB x14 false (some x15)) fun x16 =>
 EvO (gdB x16 true (pFieldAddr E 36 1 (some v1))) fun x17 =>
 EvO (gdB x16 true (rLoad E 34 h (some x17))) fun x18 =>
 EvO (gdB x16 true (evRead E (tmOf [(30, x18)]) (opAt B167 [1, 1, 0, 0] 19) h)) fun x19 =>
 EvO (gdB x16 true (binFast E .gtr 3 x19 (.int .i64 0))) fun x20 =>
 EvO (gdB x14 false (pickV (some x16) (some x20) (some (.bool false)))) fun x21 =>
 EvO (pickV (some x14) (some (.bool true)) (some x21)) fun x22 =>
 EvO (some x22) fun x23 =>
 EvO (gdB x23 false (pFieldAddr E 36 1 (some v1))) fun x24 =>
 EvO (gdB x23 false (rLoad E 34 h (some x24))) fun x25 =>
 Ev s (gdW x23 false (wCallV (recI E) (some (.func (.func 215) #[] #[])) (some [x25, (.func (.func 216) #[] #[])]) h) h) fun x26 =>
 EvO (pickV (some x23) (some (.bool true)) (some x26.1)) fun x27 =>
 BrK (some x27) (P167_3 s K  x26.2) (P167_4 s K  x26.2)
theorem P167_2_of {v1 v3 : Value} (H : Q167_2 s K v1 v3 h) : P167_2 s K v1 v3 h :=
  step_of (by kernel_rfl) rfl (by kernel_rfl) H
theorem len167_2_11 : evRead E (tmOf [(22, .slice a n c)]) (opAt B167 [1, 1, 0, 0] 11) h = some (.int .i64 (n : Int)) := by cases a <;> kernel_rfl
theorem len167_2_19 : evRead E (tmOf [(30, .slice a n c)]) (opAt B167 [1, 1, 0, 0] 19) h = some (.int .i64 (n : Int)) := by cases a <;> kernel_rfl
def Q167_3 (s : Bool) (K : KF) (h : AH) : Prop :=
 EvO (α := Value) (some (.int .i64 170)) fun x0 =>
 K .ret [x0] h
theorem P167_3_of (H : Q167_3 s K h) : P167_3 s K h :=
  step_of (by kernel_rfl) rfl (by kernel_rfl) H
def Q167_4 (s : Bool) (K : KF) (h : AH) : Prop :=
 EvO (α := Value) (some (.int .i64 0)) fun x0 =>
 K .ret [x0] h
theorem P167_4_of (H : Q167_4 s K h) : P167_4 s K h :=
  step_of (by kernel_rfl) rfl (by kernel_rfl) H
theorem F167_ev {s : Bool} {v0 : Value} {h : AH} {Rp : Value → AH → Prop} (H : P167_0 s (KR E [.tmp 2] Rp) v0 h) :
 Ev s (R.andThen (evC E (recI E) none (bodyOf Tryz.f167) ⟨⟨Tryz.f167.ntmps, initT [v0] 0 .e⟩, h, []⟩) (endCall E Tryz.f167)) fun x => Rp x.1 x.2 :=
  call_ev (C := C167 s) rfl rfl ⟨rfl, rfl, by kernel_rfl, rfl⟩ (by kernel_rfl) (by kernel_rfl) ((by kernel_rfl : contK (C167 s) (KR E Tryz.f167.results.toList Rp) 30 (rs B167 60 (.at [])) (tmOf (zipL 0 [v0])) h = (P167_0 s (KR E [.tmp 2] Rp) v0 h)).mpr H)
theorem F167_get : E.tab.fn.get 167 = some Tryz.f167 := by kernel_rfl
theorem F167_body : Tryz.f167.body = some B167 := by kernel_rfl
theorem F167_sum (l : List Value) (h : AH) : E.sum 167 l h = none := by kernel_rfl
theorem F167_flat {s : Bool} {v0 : Value} {h : AH} {v : Value} (hok : h.ok) (hv : isScalar v = true) (H : P167_0 s (KR E [.tmp 2] (fun x k => x = v ∧ h.next ≤ k.wm)) v0 h.fresh) : (recI E).call 167 [v0] h = some [(v, h)] :=
  call_flat (s := s) hok F167_get F167_body (F167_sum _ _) (by kernel_rfl) hv (F167_ev (Rp := fun x k => x = v ∧ h.next ≤ k.wm) H)
noncomputable def B168 : Code := bodyOf Tryz.f168
noncomputable def C168 (s : Bool) : Cx := ⟨E, s, none, B168, [([0], [0, 1]), ([1, 0], [2, 3])], [4], []⟩
def P168_0 (s : Bool) (K : KF) (v0 v1 : Value) (h : AH) : Prop := SP (C168 s ) K [0] [(0, v0), (1, v1)] h
def P168_1 (s : Bool) (K : KF) (v2 v3 : Value) (h : AH) : Prop := SP (C168 s ) K [1, 0] [(2, v2), (3, v3)] h
def Q168_0 (s : Bool) (K : KF) (v0 v1 : Value) (h : AH) : Prop :=
 Ev s (wNewRow 36 h (some v0)) fun x0 =>
 Ev s (wNewRow 36 x0.2 (some v1)) fun x1 =>
 EvO (α := Value) (some (.int .i64 0)) fun x2 =>
 P168_1 s K x0.1 x1.1 x1.2
theorem P168_0_of {v0 v1 : Value} (H : Q168_0 s K v0 v1 h) : P168_0 s K v0 v1 h :=
  step_of (by kernel_rfl) rfl (by kernel_rfl) H
def Q168_1 (s : Bool) (K : KF) (v2 v3 : Value) (h : AH) : Prop :=
 EvO (pFieldAddr E 36 0 (some v2)) fun x0 =>
 EvO (rLoad E 3 h (some x0)) fun x1 =>
 EvO (pFieldAddr E 36 0 (some v3)) fun x2 =>
 EvO (rLoad E 3 h (some x2)) fun x3 =>
 EvO (pFieldAddr E 36 1 (some v2)) fun x5 =>
 EvO (rLoad E 34 h (some x5)) fun x6 =>
 EvO (pFieldAddr E 36 1 (some v3)) fun x7 =>
 EvO (rLoad E 34 h (some x7)) fun x8 =>
 Ev s (wCallV (recI E) (some (.func (.func 94) #[] #[])) (some [x1, x3]) h) fun x4 =>
 EvO (rLoad E 34 x4.2 (some x7)) fun u4_8 => veq 100 u4_8 x8 = true ∧
 (EvO (rLoad E 34 x4.2 (some x5)) fun u4_6 => veq 100 u4_6 x6 = true ∧
 (Ev s (wCallV (recI E) (some (.func (.func 218) #[] #[])) (some [x6, x8, (.func (.func 219) #[] #[])]) x4.2) fun x9 =>
 Ev s (wBuildSlice E 47 2 (some [(0, x4.1), (1, x9.1)]) x9.2) fun x10 =>
 Ev s (wCallV (recI E) (some (.func (.func 171) #[] #[])) (some [x10.1]) x10.2) fun x11 =>
 EvO (some x11.1) fun x12 =>
 K .ret [x12] x11.2))
theorem P168_1_of {v2 v3 : Value} (H : Q168_1 s K v2 v3 h) : P168_1 s K v2 v3 h :=
  step_of (by kernel_rfl) rfl (by kernel_rfl) H
theorem F168_ev {s : Bool} {v0 v1 : Value} {h : AH} {Rp : Value → AH → Prop} (H : P168_0 s (KR E [.tmp 4] Rp) v0 v1 h) :
 Ev s (R.andThen (evC E (recI E) none (bodyOf Tryz.f168) ⟨⟨Tryz.f168.ntmps, initT [v0, v1] 0 .e⟩, h, []⟩) (endCall E Tryz.f168)) fun x => Rp x.1 x.2 :=
  call_ev (C := C168 s) rfl rfl ⟨rfl, rfl, by kernel_rfl, rfl⟩ (by kernel_rfl) (by kernel_rfl) ((by kernel_rfl : contK (C168 s) (KR E Tryz.f168.results.toList Rp) 30 (rs B168 60 (.at [])) (tmOf (zipL 0 [v0, v1])) h = (P168_0 s (KR E [.tmp 4] Rp) v0 v1 h)).mpr H)
theorem F168_get : E.tab.fn.get 168 = some Tryz.f168 := by kernel_rfl
theorem F168_body : Tryz.f168.body = some B168 := by kernel_rfl
theorem F168_sum (l : List Value) (h : AH) : E.sum 168 l h = none := by kernel_rfl
theorem F168_flat {s : Bool} {v0 v1 : Value} {h : AH} {v : Value} (hok : h.ok) (hv : isScalar v = true) (H : P168_0 s (KR E [.tmp 4] (fun x k => x = v ∧ h.next ≤ k.wm)) v0 v1 h.fresh) : (recI E).call 168 [v0, v1] h = some [(v, h)] :=
  call_flat (s := s) hok F168_get F168_body (F168_sum _ _) (by kernel_rfl) hv (F168_ev (Rp := fun x k => x = v ∧ h.next ≤ k.wm) H)
noncomputable def B169 : Code := bodyOf Tryz.f169
noncomputable def C169 (s : Bool) : Cx := ⟨E, s, none, B169, [([0], [0, 1]), ([1, 0], [0, 1])], [4], []⟩
def P169_0 (s : Bool) (K : KF) (v0 v1 : Value) (h : AH) : Prop := SP (C169 s ) K [0] [(0, v0), (1, v1)] h
def P169_1 (s : Bool) (K : KF) (v0 v1 : Value) (h : AH) : Prop := SP (C169 s ) K [1, 0] [(0, v0), (1, v1)] h
def Q169_0 (s : Bool) (K : KF) (v0 v1 : Value) (h : AH) : Prop :=
 EvO (α := Value) (some (.bool false)) fun x0 =>
 P169_1 s K v0 v1 h
theorem P169_0_of {v0 v1 : Value} (H : Q169_0 s K v0 v1 h) : P169_0 s K v0 v1 h :=
  step_of (by kernel_rfl) rfl (by kernel_rfl) H
def Q169_1 (s : Bool) (K : KF) (v0 v1 : Value) (h : AH) : Prop :=
 EvO (some v0) fun x0 =>
 EvO (binFast E .geq 3 x0 (.int .i64 0)) fun x1 =>
 EvO (some x1) fun x2 =>
 EvO (gdB x2 true (some v0)) fun x3 =>
 EvO (gdB x2 true (some v1)) fun x4 =>
 EvO (gdB x2 true (binFast E .lss 3 x3 x4)) fun x5 =>
 EvO (pickV (some x2) (some x5) (some (.bool false))) fun x6 =>
 EvO (some x6) fun x7 =>
 K .ret [x7] h
theorem P169_1_of {v0 v1 : Value} (H : Q169_1 s K v0 v1 h) : P169_1 s K v0 v1 h :=
  step_of (by kernel_rfl) rfl (by kernel_rfl) H
theorem F169_ev {s : Bool} {v0 v1 : Value} {h : AH} {Rp : Value → AH → Prop} (H : P169_0 s (KR E [.tmp 4] Rp) v0 v1 h) :
 Ev s (R.andThen (evC E (recI E) none (bodyOf Tryz.f169) ⟨⟨Tryz.f169.ntmps, initT [v0, v1] 0 .e⟩, h, []⟩) (endCall E Tryz.f169)) fun x => Rp x.1 x.2 :=
  call_ev (C := C169 s) rfl rfl ⟨rfl, rfl, by kernel_rfl, rfl⟩ (by kernel_rfl) (by kernel_rfl) ((by kernel_rfl : contK (C169 s) (KR E Tryz.f169.results.toList Rp) 30 (rs B169 60 (.at [])) (tmOf (zipL 0 [v0, v1])) h = (P169_0 s (KR E [.tmp 4] Rp) v0 v1 h)).mpr H)
theorem F169_get : E.tab.fn.get 169 = some Tryz.f169 := by kernel_rfl
theorem F169_body : Tryz.f169.body = some B169 := by kernel_rfl
theorem F169_sum (l : List Value) (h : AH) : E.sum 169 l h = none := by kernel_rfl
theorem F169_flat {s : Bool} {v0 v1 : Value} {h : AH} {v : Value} (hok : h.ok) (hv : isScalar v = true) (H : P169_0 s (KR E [.tmp 4] (fun x k => x = v ∧ h.next ≤ k.wm)) v0 v1 h.fresh) : (recI E).call 169 [v0, v1] h = some [(v, h)] :=
  call_flat (s := s) hok F169_get F169_body (F169_sum _ _) (by kernel_rfl) hv (F169_ev (Rp := fun x k => x = v ∧ h.next ≤ k.wm) H)
noncomputable def B170 : Code := bodyOf Tryz.f170
noncomputable def C170 (s : Bool) : Cx := ⟨E, s, none, B170, [([0], [0, 1]), ([1, 0], [2, 3])], [4], []⟩
def P170_0 (s : Bool) (K : KF) (v0 v1 : Value) (h : AH) : Prop := SP (C170 s ) K [0] [(0, v0), (1, v1)] h
def P170_1 (s : Bool) (K : KF) (v2 v3 : Value) (h : AH) : Prop := SP (C170 s ) K [1, 0] [(2, v2), (3, v3)] h
def Q170_0 (s : Bool) (K : KF) (v0 v1 : Value) (h : AH) : Prop :=
 Ev s (wNewRow 52 h (some v0)) fun x0 =>
 Ev s (wNewRow 52 x0.2 (some v1)) fun x1 =>
 EvO (α := Value) (some (.int .i64 0)) fun x2 =>
 P170_1 s K x0.1 x1.1 x1.2
theorem P170_0_of {v0 v1 : Value} (H : Q170_0 s K v0 v1 h) : P170_0 s K v0 v1 h :=
  step_of (by kernel_rfl) rfl (by kernel_rfl) H
def Q170_1 (s : Bool) (K : KF) (v2 v3 : Value) (h : AH) : Prop :=
 EvO (pFieldAddr E 52 0 (some v2)) fun x0 =>
 EvO (rLoad E 3 h (some x0)) fun x1 =>
 EvO (pFieldAddr E 52 0 (some v3)) fun x2 =>
 EvO (rLoad E 3 h (some x2)) fun x3 =>
 EvO (pFieldAddr E 52 1 (some v2)) fun x5 =>
 EvO (rLoad E 3 h (some x5)) fun x6 =>
 EvO (pFieldAddr E 52 1 (some v3)) fun x7 =>
 EvO (rLoad E 3 h (some x7)) fun x8 =>
 EvO (pFieldAddr E 52 2 (some v2)) fun x10 =>
 EvO (rLoad E 3 h (some x10)) fun x11 =>
 EvO (pFieldAddr E 52 2 (some v3)) fun x12 =>
 EvO (rLoad E 3 h (some x12)) fun x13 =>
 Ev s (wCallV (recI E) (some (.func (.func 94) #[] #[])) (some [x1, x3]) h) fun x4 =>
 EvO (rLoad E 3 x4.2 (some x12)) fun u4_13 => veq 100 u4_13 x13 = true ∧
 (EvO (rLoad E 3 x4.2 (some x10)) fun u4_11 => veq 100 u4_11 x11 = true ∧
 (EvO (rLoad E 3 x4.2 (some x7)) fun u4_8 => veq 100 u4_8 x8 = true ∧
 (EvO (rLoad E 3 x4.2 (some x5)) fun u4_6 => veq 100 u4_6 x6 = true ∧
 (Ev s (wCallV (recI E) (some (.func (.func 94) #[] #[])) (some [x6, x8]) x4.2) fun x9 =>
 EvO (rLoad E 3 x9.2 (some x12)) fun u9_13 => veq 100 u9_13 x13 = true ∧
 (EvO (rLoad E 3 x9.2 (some x10)) fun u9_11 => veq 100 u9_11 x11 = true ∧
 (Ev s (wCallV (recI E) (some (.func (.func 94) #[] #[])) (some [x11, x13]) x9.2) fun x14 =>
 Ev s (wBuildSlice E 47 3 (some [(0, x4.1), (1, x9.1), (2, x14.1)]) x14.2) fun x15 =>
 Ev s (wCallV (recI E) (some (.func (.func 171) #[] #[])) (some [x15.1]) x15.2) fun x16 =>
 EvO (some x16.1) fun x17 =>
 K .ret [x17] x16.2))))))
theorem P170_1_of {v2 v3 : Value} (H : Q170_1 s K v2 v3 h) : P170_1 s K v2 v3 h :=
  step_of (by kernel_rfl) rfl (by kernel_rfl) H
theorem F170_ev {s : Bool} {v0 v1 : Value} {h : AH} {Rp : Value → AH → Prop} (H : P170_0 s (KR E [.tmp 4] Rp) v0 v1 h) :
 Ev s (R.andThen (evC E (recI E) none (bodyOf Tryz.f170) ⟨⟨Tryz.f170.ntmps, initT [v0, v1] 0 .e⟩, h, []⟩) (endCall E Tryz.f170)) fun x => Rp x.1 x.2 :=
  call_ev (C := C170 s) rfl rfl ⟨rfl, rfl, by kernel_rfl, rfl⟩ (by kernel_rfl) (by kernel_rfl) ((by kernel_rfl : contK (C170 s) (KR E Tryz.f170.results.toList Rp) 30 (rs B170 60 (.at [])) (tmOf (zipL 0 [v0, v1])) h = (P170_0 s (KR E [.tmp 4] Rp) v0 v1 h)).mpr H)
theorem F170_get : E.tab.fn.get 170 = some Tryz.f170 := by kernel_rfl
theorem F170_body : Tryz.f170.body = some B170 := by kernel_rfl
theorem F170_sum (l : List Value) (h : AH) : E.sum 170 l h = none := by kernel_rfl
theorem F170_flat {s : Bool} {v0 v1 : Value} {h : AH} {v : Value} (hok : h.ok) (hv : isScalar v = true) (H : P170_0 s (KR E [.tmp 4] (fun x k => x = v ∧ h.next ≤ k.wm)) v0 v1 h.fresh) : (recI E).call 170 [v0, v1] h = some [(v, h)] :=
  call_flat (s := s) hok F170_get F170_body (F170_sum _ _) (by kernel_rfl) hv (F170_ev (Rp := fun x k => x = v ∧ h.next ≤ k.wm) H)
noncomputable def B171 : Code := bodyOf Tryz.f171
noncomputable def C171 (s : Bool) : Cx := ⟨E, s, none, B171, [([0], [0]), ([1, 0], [0]), ([1, 1, 0, 0], [0, 3]), ([1, 1, 0, 1, 0, 0, 0], [3, 6, 7, 8]), ([1, 1, 0, 1, 0, 0, 1, 1, 0, 0, 0], [3, 6, 7, 8]), ([1, 1, 0, 1, 0, 0, 1, 1, 0, 0, 1, 0], [3, 5, 6, 7, 8]), ([1, 1, 0, 1, 0, 0, 1, 1, 0, 0, 1, 1, 0, 0], [5]), ([1, 1, 0, 1, 0, 0, 1, 1, 1], [3, 6, 7, 8]), ([1, 1, 1, 0], [3])], [2], []⟩
def P171_0 (s : Bool) (K : KF) (v0 : Value) (h : AH) : Prop := SP (C171 s ) K [0] [(0, v0)] h
def P171_1 (s : Bool) (K : KF) (v0 : Value) (h : AH) : Prop := SP (C171 s ) K [1, 0] [(0, v0)] h
def P171_2 (s : Bool) (K : KF) (v0 v3 : Value) (h : AH) : Prop := SP (C171 s ) K [1, 1, 0, 0] [(0, v0), (3, v3)] h
def P171_3 (s : Bool) (K : KF) (v3 v6 v7 v8 : Value) (h : AH) : Prop := SP (C171 s ) K [1, 1, 0, 1, 0, 0, 0] [(3, v3), (6, v6), (7, v7), (8, v8)] h
def P171_4 (s : Bool) (K : KF) (v3 v6 v7 v8 : Value) (h : AH) : Prop := SP (C171 s ) K [1, 1, 0, 1, 0, 0, 1, 1, 0, 0, 0] [(3, v3), (6, v6), (7, v7), (8, v8)] h
def P171_5 (s : Bool) (K : KF) (v3 v5 v6 v7 v8 : Value) (h : AH) : Prop := SP (C171 s ) K [1, 1, 0, 1, 0, 0, 1, 1, 0, 0, 1, 0] [(3, v3), (5, v5), (6, v6), (7, v7), (8, v8)] h
def P171_6 (s : Bool) (K : KF) (v5 : Value) (h : AH) : Prop := SP (C171 s ) K [1, 1, 0, 1, 0, 0, 1, 1, 0, 0, 1, 1, 0, 0] [(5, v5)] h
def P171_7 (s : Bool) (K : KF) (v3 v6 v7 v8 : Value) (h : AH) : Prop := SP (C171 s ) K [1, 1, 0, 1, 0, 0, 1, 1, 1] [(3, v3), (6, v6), (7, v7), (8, v8)] h
def P171_8 (s : Bool) (K : KF) (v3 : Value) (h : AH) : Prop := SP (C171 s ) K [1, 1, 1, 0] [(3, v3)] h
def Q171_0 (s : Bool) (K : KF) (v0 : Value) (h : AH) : Prop :=
 EvO (α := Value) (some (.int .i64 0)) fun x0 =>
 P171_1 s K v0 h
theorem P171_0_of {v0 : Value} (H : Q171_0 s K v0 h) : P171_0 s K v0 h :=
  step_of (by kernel_rfl) rfl (by kernel_rfl) H
def Q171_1 (s : Bool) (K : KF) (v0 : Value) (h : AH) : Prop :=
 EvO (α := Value) (some (.int .i64 0)) fun x0 =>
 P171_2 s K v0 x0 h
theorem P171_1_of {v0 : Value} (H : Q171_1 s K v0 h) : P171_1 s K v0 h :=
  step_of (by kernel_rfl) rfl (by kernel_rfl) H
def Q171_2 (s : Bool) (K : KF) (v0 v3 : Value) (h : AH) : Prop :=
 EvO (some v0) fun x0 =>
 EvO (evRead E (tmOf [(6, x0)]) (opAt B171 [1, 1, 0, 0] 1) h) fun x1 =>
 EvO (α := Value) (some (.int .i64 0)) fun x2 =>
 P171_3 s K v3 x0 x1 x2 h
theorem P171_2_of {v0 v3 : Value} (H : Q171_2 s K v0 v3 h) : P171_2 s K v0 v3 h :=
  step_of (by kernel_rfl) rfl (by kernel_rfl) H
theorem len171_2_1 : evRead E (tmOf [(6, .slice a n c)]) (opAt B171 [1, 1, 0, 0] 1) h = some (.int .i64 (n : Int)) := by cases a <;> kernel_rfl
def Q171_3 (s : Bool) (K : KF) (v3 v6 v7 v8 : Value) (h : AH) : Prop :=
 EvO (binFast E .lss 3 v8 v7) fun x0 =>
 BrK (some x0) (P171_4 s K v3 v6 v7 v8 h) (P171_8 s K v3 h)
theorem P171_3_of {v3 v6 v7 v8 : Value} (H : Q171_3 s K v3 v6 v7 v8 h) : P171_3 s K v3 v6 v7 v8 h :=
  step_of (by kernel_rfl) rfl (by kernel_rfl) H
def Q171_4 (s : Bool) (K : KF) (v3 v6 v7 v8 : Value) (h : AH) : Prop :=
 EvO (pIndexAddr E 47 (some v6) (some v8)) fun x0 =>
 EvO (rLoad E 3 h (some x0)) fun x1 =>
 EvO (some x1) fun x2 =>
 P171_5 s K v3 x2 v6 v7 v8 h
theorem P171_4_of {v3 v6 v7 v8 : Value} (H : Q171_4 s K v3 v6 v7 v8 h) : P171_4 s K v3 v6 v7 v8 h :=
  step_of (by kernel_rfl) rfl (by kernel_rfl) H
def Q171_5 (s : Bool) (K : KF) (v3 v5 v6 v7 v8 : Value) (h : AH) : Prop :=
 EvO (some v5) fun x0 =>
 EvO (some v3) fun x1 =>
 EvO (binFast E .neq 3 x0 x1) fun x2 =>
 BrK (some x2) (P171_6 s K v5 h) (P171_7 s K v3 v6 v7 v8 h)
theorem P171_5_of {v3 v5 v6 v7 v8 : Value} (H : Q171_5 s K v3 v5 v6 v7 v8 h) : P171_5 s K v3 v5 v6 v7 v8 h :=
  step_of (by kernel_rfl) rfl (by kernel_rfl) H
def Q171_6 (s : Bool) (K : KF) (v5 : Value) (h : AH) : Prop :=
 EvO (some v5) fun x0 =>
 EvO (some x0) fun x1 =>
 K .ret [x1] h
theorem P171_6_of {v5 : Value} (H : Q171_6 s K v5 h) : P171_6 s K v5 h :=
  step_of (by kernel_rfl) rfl (by kernel_rfl) H
def Q171_7 (s : Bool) (K : KF) (v3 v6 v7 v8 : Value) (h : AH) : Prop :=
 EvO (binFast E .add 3 v8 (.int .i64 1)) fun x0 =>
 EvO (some x0) fun x1 =>
 P171_3 s K v3 v6 v7 x1 h
theorem P171_7_of {v3 v6 v7 v8 : Value} (H : Q171_7 s K v3 v6 v7 v8 h) : P171_7 s K v3 v6 v7 v8 h :=
  step_of (by kernel_rfl) rfl (by kernel_rfl) H
def Q171_8 (s : Bool) (K : KF) (v3 : Value) (h : AH) : Prop :=
 EvO (some v3) fun x0 =>
 EvO (some x0) fun x1 =>
 K .ret [x1] h
theorem P171_8_of {v3 : Value} (H : Q171_8 s K v3 h) : P171_8 s K v3 h :=
  step_of (by kernel_rfl) rfl (by kernel_rfl) H
theorem F171_ev {s : Bool} {v0 : Value} {h : AH} {Rp : Value → AH → Prop} (H : P171_0 s (KR E [.tmp 2] Rp) v0 h) :
 Ev s (R.andThen (evC E (recI E) none (bodyOf Tryz.f171) ⟨⟨Tryz.f171.ntmps, initT [v0] 0 .e⟩, h, []⟩) (endCall E Tryz.f171)) fun x => Rp x.1 x.2 :=
  call_ev (C := C171 s) rfl rfl ⟨rfl, rfl, by kernel_rfl, rfl⟩ (by kernel_rfl) (by kernel_rfl) ((by kernel_rfl : contK (C171 s) (KR E Tryz.f171.results.toList Rp) 30 (rs B171 60 (.at [])) (tmOf (zipL 0 [v0])) h = (P171_0 s (KR E [.tmp 2] Rp) v0 h)).mpr H)
theorem F171_get : E.tab.fn.get 171 = some Tryz.f171 := by kernel_rfl
theorem F171_body : Tryz.f171.body = some B171 := by kernel_rfl
theorem F171_sum (l : List Value) (h : AH) : E.sum 171 l h = none := by kernel_rfl
theorem F171_flat {s : Bool} {v0 : Value} {h : AH} {v : Value} (hok : h.ok) (hv : isScalar v = true) (H : P171_0 s (KR E [.tmp 2] (fun x k => x = v ∧ h.next ≤ k.wm)) v0 h.fresh) : (recI E).call 171 [v0] h = some [(v, h)] :=
  call_flat (s := s) hok F171_get F171_body (F171_sum _ _) (by kernel_rfl) hv (F171_ev (Rp := fun x k => x = v ∧ h.next ≤ k.wm) H)
noncomputable def B173 : Code := bodyOf Tryz.f173
noncomputable def C173 (s : Bool) : Cx := ⟨E, s, none, B173, [([0], [0, 1]), ([1, 0], [0, 1])], [4], []⟩
def P173_0 (s : Bool) (K : KF) (v0 v1 : Value) (h : AH) : Prop := SP (C173 s ) K [0] [(0, v0), (1, v1)] h
def P173_1 (s : Bool) (K : KF) (v0 v1 : Value) (h : AH) : Prop := SP (C173 s ) K [1, 0] [(0, v0), (1, v1)] h
def Q173_0 (s : Bool) (K : KF) (v0 v1 : Value) (h : AH) : Prop :=
 EvO (α := Value) (some (.bool false)) fun x0 =>
 P173_1 s K v0 v1 h
theorem P173_0_of {v0 v1 : Value} (H : Q173_0 s K v0 v1 h) : P173_0 s K v0 v1 h :=
  step_of (by kernel_rfl) rfl (by kernel_rfl) H
def Q173_1 (s : Bool) (K : KF) (v0 v1 : Value) (h : AH) : Prop :=
 EvO (some v0) fun x0 =>
 EvO (some v1) fun x1 =>
 Ev s (wCallV (recI E) (some (.func (.func 220) #[] #[])) (some [x0, x1]) h) fun x2 =>
 EvO (binFast E .geq 3 x2.1 (.int .i64 0)) fun x3 =>
 EvO (some x3) fun x4 =>
 K .ret [x4] x2.2
theorem P173_1_of {v0 v1 : Value} (H : Q173_1 s K v0 v1 h) : P173_1 s K v0 v1 h :=
  step_of (by kernel_rfl) rfl (by kernel_rfl) H
theorem F173_ev {s : Bool} {v0 v1 : Value} {h : AH} {Rp : Value → AH → Prop} (H : P173_0 s (KR E [.tmp 4] Rp) v0 v1 h) :
 Ev s (R.andThen (evC E (recI E) none (bodyOf Tryz.f173) ⟨⟨Tryz.f173.ntmps, initT [v0, v1] 0 .e⟩, h, []⟩) (endCall E Tryz.f173)) fun x => Rp x.1 x.2 :=
  call_ev (C := C173 s) rfl rfl ⟨rfl, rfl, by kernel_rfl, rfl⟩ (by kernel_rfl) (by kernel_rfl) ((by kernel_rfl : contK (C173 s) (KR E Tryz.f173.results.toList Rp) 30 (rs B173 60 (.at [])) (tmOf (zipL 0 [v0, v1])) h = (P173_0 s (KR E [.tmp 4] Rp) v0 v1 h)).mpr H)
theorem F173_get : E.tab.fn.get 173 = some Tryz.f173 := by kernel_rfl
theorem F173_body : Tryz.f173.body = some B173 := by kernel_rfl
theorem F173_sum (l : List Value) (h : AH) : E.sum 173 l h = none := by kernel_rfl
theorem F173_flat {s : Bool} {v0 v1 : Value} {h : AH} {v : Value} (hok : h.ok) (hv : isScalar v = true) (H : P173_0 s (KR E [.tmp 4] (fun x k => x = v ∧ h.next ≤ k.wm)) v0 v1 h.fresh) : (recI E).call 173 [v0, v1] h = some [(v, h)] :=
  call_flat (s := s) hok F173_get F173_body (F173_sum _ _) (by kernel_rfl) hv (F173_ev (Rp := fun x k => x = v ∧ h.next ≤ k.wm) H)
noncomputable def B174 : Code := bodyOf Tryz.f174
noncomputable def C174 (s : Bool) : Cx := ⟨E, s, none, B174, [([0], [0, 1, 2]), ([1, 0], [1, 2, 3])], [4], []⟩
def P174_0 (s : Bool) (K : KF) (v0 v1 v2 : Value) (h : AH) : Prop := SP (C174 s ) K [0] [(0, v0), (1, v1), (2, v2)] h
def P174_1 (s : Bool) (K : KF) (v1 v2 v3 : Value) (h : AH) : Prop := SP (C174 s ) K [1, 0] [(1, v1), (2, v2), (3, v3)] h
def Q174_0 (s : Bool) (K : KF) (v0 v1 v2 : Value) (h : AH) : Prop :=
 Ev s (wNewRow 134 h (some v0)) fun x0 =>
 EvO (α := Value) (some (.bool false)) fun x1 =>
 P174_1 s K v1 v2 x0.1 x0.2
theorem P174_0_of {v0 v1 v2 : Value} (H : Q174_0 s K v0 v1 v2 h) : P174_0 s K v0 v1 v2 h :=
  step_of (by kernel_rfl) rfl (by kernel_rfl) H
def Q174_1 (s : Bool) (K : KF) (v1 v2 v3 : Value) (h : AH) : Prop :=
 EvO (pFieldAddr E 134 0 (some v3)) fun x0 =>
 EvO (rLoad E 3 h (some x0)) fun x1 =>
 EvO (pFieldAddr E 134 0 (some v1)) fun x2 =>
 EvO (rLoad E 3 h (some x2)) fun x3 =>
 EvO (binFast E .eql 3 x1 x3) fun x4 =>
 EvO (some x4) fun x5 =>
 EvO (gdB x5 true (pFieldAddr E 178 0 (some v2))) fun x6 =>
 EvO (gdB x5 true (rLoad E 176 h (some x6))) fun x7 =>
 EvO (gdB x5 true (pFieldAddr E 134 1 (some v1))) fun x8 =>
 EvO (gdB x5 true (rLoad E 3 h (some x8))) fun x9 =>
 EvO (gdB x5 true (pFieldAddr E 134 1 (some v3))) fun x10 =>
 EvO (gdB x5 true (rLoad E 3 h (some x10))) fun x11 =>
 Ev s (gdW x5 true (wCallV (recI E) (some (.func (.func 123) #[] #[])) (some [x7, x9, x11]) h) h) fun x12 =>
 EvO (pickV (some x5) (some x12.1) (some (.bool false))) fun x13 =>
 EvO (some x13) fun x14 =>
 K .ret [x14] x12.2
theorem P174_1_of {v1 v2 v3 : Value} (H : Q174_1 s K v1 v2 v3 h) : P174_1 s K v1 v2 v3 h :=
  step_of (by kernel_rfl) rfl (by kernel_rfl) H
theorem F174_ev {s : Bool} {v0 v1 v2 : Value} {h : AH} {Rp : Value → AH → Prop} (H : P174_0 s (KR E [.tmp 4] Rp) v0 v1 v2 h) :
 Ev s (R.andThen (evC E (recI E) none (bodyOf Tryz.f174) ⟨⟨Tryz.f174.ntmps, initT [v0, v1, v2] 0 .e⟩, h, []⟩) (endCall E Tryz.f174)) fun x => Rp x.1 x.2 :=
  call_ev (C := C174 s) rfl rfl ⟨rfl, rfl, by kernel_rfl, rfl⟩ (by kernel_rfl) (by kernel_rfl) ((by kernel_rfl : contK (C174 s) (KR E Tryz.f174.results.toList Rp) 30 (rs B174 60 (.at [])) (tmOf (zipL 0 [v0, v1, v2])) h = (P174_0 s (KR E [.tmp 4] Rp) v0 v1 v2 h)).mpr H)
theorem F174_get : E.tab.fn.get 174 = some Tryz.f174 := by kernel_rfl
theorem F174_body : Tryz.f174.body = some B174 := by kernel_rfl
theorem F174_sum (l : List Value) (h : AH) : E.sum 174 l h = none := by kernel_rfl
theorem F174_flat {s : Bool} {v0 v1 v2 : Value} {h : AH} {v : Value} (hok : h.ok) (hv : isScalar v = true) (H : P174_0 s (KR E [.tmp 4] (fun x k => x = v ∧ h.next ≤ k.wm)) v0 v1 v2 h.fresh) : (recI E).call 174 [v0, v1, v2] h = some [(v, h)] :=
  call_flat (s := s) hok F174_get F174_body (F174_sum _ _) (by kernel_rfl) hv (F174_ev (Rp := fun x k => x = v ∧ h.next ≤ k.wm) H)
noncomputable def B178 : Code := bodyOf Tryz.f178
noncomputable def C178 (s : Bool) : Cx := ⟨E, s, none, B178, [([0], [0, 1]), ([1, 0], [2, 3])], [4], []⟩
def P178_0 (s : Bool) (K : KF) (v0 v1 : Value) (h : AH) : Prop := SP (C178 s ) K [0] [(0, v0), (1, v1)] h
def P178_1 (s : Bool) (K : KF) (v2 v3 : Value) (h : AH) : Prop := SP (C178 s ) K [1, 0] [(2, v2), (3, v3)] h
def Q178_0 (s : Bool) (K : KF) (v0 v1 : Value) (h : AH) : Prop :=
 Ev s (wNewRow 128 h (some v0)) fun x0 =>
 Ev s (wNewRow 3 x0.2 (some v1)) fun x1 =>
 EvO (α := Value) (some .nilFunc) fun x2 =>
 P178_1 s K x0.1 x1.1 x1.2
theorem P178_0_of {v0 v1 : Value} (H : Q178_0 s K v0 v1 h) : P178_0 s K v0 v1 h :=
  step_of (by kernel_rfl) rfl (by kernel_rfl) H
def Q178_1 (s : Bool) (K : KF) (v2 v3 : Value) (h : AH) : Prop :=
 EvO (pMakeFunc (.func 222) (some []) (some [v3, v2])) fun x0 =>
 EvO (some x0) fun x1 =>
 K .ret [x1] h
theorem P178_1_of {v2 v3 : Value} (H : Q178_1 s K v2 v3 h) : P178_1 s K v2 v3 h :=
  step_of (by kernel_rfl) rfl (by kernel_rfl) H
theorem F178_ev {s : Bool} {v0 v1 : Value} {h : AH} {Rp : Value → AH → Prop} (H : P178_0 s (KR E [.tmp 4] Rp) v0 v1 h) :
 Ev s (R.andThen (evC E (recI E) none (bodyOf Tryz.f178) ⟨⟨Tryz.f178.ntmps, initT [v0, v1] 0 .e⟩, h, []⟩) (endCall E Tryz.f178)) fun x => Rp x.1 x.2 :=
  call_ev (C := C178 s) rfl rfl ⟨rfl, rfl, by kernel_rfl, rfl⟩ (by kernel_rfl) (by kernel_rfl) ((by kernel_rfl : contK (C178 s) (KR E Tryz.f178.results.toList Rp) 30 (rs B178 60 (.at [])) (tmOf (zipL 0 [v0, v1])) h = (P178_0 s (KR E [.tmp 4] Rp) v0 v1 h)).mpr H)
theorem F178_get : E.tab.fn.get 178 = some Tryz.f178 := by kernel_rfl
theorem F178_body : Tryz.f178.body = some B178 := by kernel_rfl
theorem F178_sum (l : List Value) (h : AH) : E.sum 178 l h = none := by kernel_rfl
theorem F178_some {v0 v1 : Value} {h : AH} {Rp : Value → AH → Prop} (H : P178_0 true (KR E [.tmp 4] (fun x k => (isFlat x = false ∨ k.wm < h.next) ∧ Rp x ⟨k.t, k.next, cond (Nat.ble h.wm k.wm) h.wm k.wm⟩)) v0 v1 h.fresh) : Ev true ((recI E).call 178 [v0, v1] h) fun x => Rp x.1 x.2 :=
  call_some F178_get F178_body (F178_sum _ _) (by kernel_rfl) (F178_ev (Rp := fun x k => (isFlat x = false ∨ k.wm < h.next) ∧ Rp x ⟨k.t, k.next, cond (Nat.ble h.wm k.wm) h.wm k.wm⟩) H)
noncomputable def B190 : Code := bodyOf Tryz.f190
noncomputable def C190 (s : Bool) : Cx := ⟨E, s, none, B190, [([0], [0, 1, 2]), ([1, 0], [0, 2, 4]), ([1, 1, 0], [0, 2, 4, 8]), ([1, 1, 1, 0, 0, 0, 0, 0], [0, 2, 4, 8, 9, 10]), ([1, 1, 1, 0, 0, 0, 1, 0, 0], [0, 2, 4, 8, 9, 10]), ([1, 1, 1, 0, 0, 0, 1, 0, 1, 0], [0, 2, 4, 8, 9, 10, 11]), ([1, 1, 1, 0, 0, 0, 1, 0, 1, 1, 0], [0, 2, 4, 8, 10, 11]), ([1, 1, 1, 0, 0, 0, 1, 0, 1, 1, 1], [0, 2, 4, 8, 9, 11]), ([1, 1, 1, 1, 0], [0, 2, 4, 8, 9])], [6, 7], []⟩
def P190_0 (s : Bool) (K : KF) (v0 v1 v2 : Value) (h : AH) : Prop := SP (C190 s ) K [0] [(0, v0), (1, v1), (2, v2)] h
def P190_1 (s : Bool) (K : KF) (v0 v2 v4 : Value) (h : AH) : Prop := SP (C190 s ) K [1, 0] [(0, v0), (2, v2), (4, v4)] h
def P190_2 (s : Bool) (K : KF) (v0 v2 v4 v8 : Value) (h : AH) : Prop := SP (C190 s ) K [1, 1, 0] [(0, v0), (2, v2), (4, v4), (8, v8)] h
def P190_3 (s : Bool) (K : KF) (v0 v2 v4 v8 v9 v10 : Value) (h : AH) : Prop := SP (C190 s ) K [1, 1, 1, 0, 0, 0, 0, 0] [(0, v0), (2, v2), (4, v4), (8, v8), (9, v9), (10, v10)] h
def P190_4 (s : Bool) (K : KF) (v0 v2 v4 v8 v9 v10 : Value) (h : AH) : Prop := SP (C190 s ) K [1, 1, 1, 0, 0, 0, 1, 0, 0] [(0, v0), (2, v2), (4, v4), (8, v8), (9, v9), (10, v10)] h
def P190_5 (s : Bool) (K : KF) (v0 v2 v4 v8 v9 v10 v11 : Value) (h : AH) : Prop := SP (C190 s ) K [1, 1, 1, 0, 0, 0, 1, 0, 1, 0] [(0, v0), (2, v2), (4, v4), (8, v8), (9, v9), (10, v10), (11, v11)] h
def P190_6 (s : Bool) (K : KF) (v0 v2 v4 v8 v10 v11 : Value) (h : AH) : Prop := SP (C190 s ) K [1, 1, 1, 0, 0, 0, 1, 0, 1, 1, 0] [(0, v0), (2, v2), (4, v4), (8, v8), (10, v10), (11, v11)] h
def P190_7 (s : Bool) (K : KF) (v0 v2 v4 v8 v9 v11 : Value) (h : AH) : Prop := SP (C190 s ) K [1, 1, 1, 0, 0, 0, 1, 0, 1, 1, 1] [(0, v0), (2, v2), (4, v4), (8, v8), (9, v9), (11, v11)] h
def P190_8 (s : Bool) (K : KF) (v0 v2 v4 v8 v9 : Value) (h : AH) : Prop := SP (C190 s ) K [1, 1, 1, 1, 0] [(0, v0), (2, v2), (4, v4), (8, v8), (9, v9)] h
def Q190_0 (s : Bool) (K : KF) (v0 v1 v2 : Value) (h : AH) : Prop :=
 Ev s (wNewRow 36 h (some v1)) fun x0 =>
 EvO (α := Value) (some (.int .i64 0)) fun x1 =>
 EvO (α := Value) (some (.bool false)) fun x2 =>
 P190_1 s K v0 v2 x0.1 x0.2
theorem P190_0_of {v0 v1 v2 : Value} (H : Q190_0 s K v0 v1 v2 h) : P190_0 s K v0 v1 v2 h :=
  step_of (by kernel_rfl) rfl (by kernel_rfl) H
def Q190_1 (s : Bool) (K : KF) (v0 v2 v4 : Value) (h : AH) : Prop :=
 EvO (some v0) fun x0 =>
 EvO (evRead E (tmOf [(12, x0)]) (opAt B190 [1, 0] 1) h) fun x1 =>
 EvO (some x1) fun x2 =>
 P190_2 s K v0 v2 v4 x2 h
theorem P190_1_of {v0 v2 v4 : Value} (H : Q190_1 s K v0 v2 v4 h) : P190_1 s K v0 v2 v4 h :=
  step_of (by kernel_rfl) rfl (by kernel_rfl) H
theorem len190_1_1 : evRead E (tmOf [(12, .slice a n c)]) (opAt B190 [1, 0] 1) h = some (.int .i64 (n : Int)) := by cases a <;> kernel_rfl
def Q190_2 (s : Bool) (K : KF) (v0 v2 v4 v8 : Value) (h : AH) : Prop :=
 EvO (some v8) fun x0 =>
 EvO (α := Value) (some (.int .i64 0)) fun x1 =>
 EvO (some x0) fun x2 =>
 P190_3 s K v0 v2 v4 v8 x1 x2 h
theorem P190_2_of {v0 v2 v4 v8 : Value} (H : Q190_2 s K v0 v2 v4 v8 h) : P190_2 s K v0 v2 v4 v8 h :=
  step_of (by kernel_rfl) rfl (by kernel_rfl) H
def Q190_3 (s : Bool) (K : KF) (v0 v2 v4 v8 v9 v10 : Value) (h : AH) : Prop :=
 EvO (some v9) fun x0 =>
 EvO (some v10) fun x1 =>
 EvO (binFast E .lss 3 x0 x1) fun x2 =>
 BrK (some x2) (P190_4 s K v0 v2 v4 v8 v9 v10 h) (P190_8 s K v0 v2 v4 v8 v9 h)
theorem P190_3_of {v0 v2 v4 v8 v9 v10 : Value} (H : Q190_3 s K v0 v2 v4 v8 v9 v10 h) : P190_3 s K v0 v2 v4 v8 v9 v10 h :=
  step_of (by kernel_rfl) rfl (by kernel_rfl) H
def Q190_4 (s : Bool) (K : KF) (v0 v2 v4 v8 v9 v10 : Value) (h : AH) : Prop :=
 EvO (some v9) fun x0 =>
 EvO (some v10) fun x1 =>
 EvO (binFast E .add 3 x0 x1) fun x2 =>
 EvO (evRead E (tmOf [(20, x2)]) (opAt B190 [1, 1, 1, 0, 0, 0, 1, 0, 0] 3) h) fun x3 =>
 EvO (evPure E (tmOf [(21, x3)]) (opAt B190 [1, 1, 1, 0, 0, 0, 1, 0, 0] 4)) fun x4 =>
 EvO (evRead E (tmOf [(22, x4)]) (opAt B190 [1, 1, 1, 0, 0, 0, 1, 0, 0] 5) h) fun x5 =>
 EvO (some x5) fun x6 =>
 P190_5 s K v0 v2 v4 v8 v9 v10 x6 h
theorem P190_4_of {v0 v2 v4 v8 v9 v10 : Value} (H : Q190_4 s K v0 v2 v4 v8 v9 v10 h) : P190_4 s K v0 v2 v4 v8 v9 v10 h :=
  step_of (by kernel_rfl) rfl (by kernel_rfl) H
def Q190_5 (s : Bool) (K : KF) (v0 v2 v4 v8 v9 v10 v11 : Value) (h : AH) : Prop :=
 EvO (some v2) fun x0 =>
 EvO (some v0) fun x1 =>
 EvO (some v11) fun x2 =>
 EvO (pIndexAddr E 22 (some x1) (some x2)) fun x3 =>
 EvO (rLoad E 36 h (some x3)) fun x4 =>
 EvO (rLoad E 36 h (some v4)) fun x5 =>
 Ev s (wCallV (recI E) (some x0) (some [x4, x5]) h) fun x6 =>
 EvO (binFast E .lss 3 x6.1 (.int .i64 0)) fun x7 =>
 BrK (some x7) (P190_6 s K v0 v2 v4 v8 v10 v11 x6.2) (P190_7 s K v0 v2 v4 v8 v9 v11 x6.2)
theorem P190_5_of {v0 v2 v4 v8 v9 v10 v11 : Value} (H : Q190_5 s K v0 v2 v4 v8 v9 v10 v11 h) : P190_5 s K v0 v2 v4 v8 v9 v10 v11 h :=
  step_of (by kernel_rfl) rfl (by kernel_rfl) H
def Q190_6 (s : Bool) (K : KF) (v0 v2 v4 v8 v10 v11 : Value) (h : AH) : Prop :=
 EvO (some v11) fun x0 =>
 EvO (binFast E .add 3 x0 (.int .i64 1)) fun x1 =>
 EvO (some x1) fun x2 =>
 P190_3 s K v0 v2 v4 v8 x2 v10 h
theorem P190_6_of {v0 v2 v4 v8 v10 v11 : Value} (H : Q190_6 s K v0 v2 v4 v8 v10 v11 h) : P190_6 s K v0 v2 v4 v8 v10 v11 h :=
  step_of (by kernel_rfl) rfl (by kernel_rfl) H
def Q190_7 (s : Bool) (K : KF) (v0 v2 v4 v8 v9 v11 : Value) (h : AH) : Prop :=
 EvO (some v11) fun x0 =>
 EvO (some x0) fun x1 =>
 P190_3 s K v0 v2 v4 v8 v9 x1 h
theorem P190_7_of {v0 v2 v4 v8 v9 v11 : Value} (H : Q190_7 s K v0 v2 v4 v8 v9 v11 h) : P190_7 s K v0 v2 v4 v8 v9 v11 h :=
  step_of (by kernel_rfl) rfl (by kernel_rfl) H
def Q190_8 (s : Bool) (K : KF) (v0 v2 v4 v8 v9 : Value) (h : AH) : Prop :=
 EvO (some v9) fun x0 =>
 EvO (some v9) fun x1 =>
 EvO (some v8) fun x2 =>
 EvO (binFast E .lss 3 x1 x2) fun x3 =>
 EvO (some x3) fun x4 =>
 EvO (gdB x4 true (some v2)) fun x5 =>
 EvO (gdB x4 true (some v0)) fun x6 =>
 EvO (gdB x4 true (some v9)) fun x7 =>
 EvO (gdB x4 true (pIndexAddr E 22 (some x6) (some x7))) fun x8 =>
 EvO (gdB x4 true (rLoad E 36 h (some x8))) fun x9 =>
 EvO (gdB x4 true (rLoad E 36 h (some v4))) fun x10 =>
 Ev s (gdW x4 true (wCallV (recI E) (some x5) (some [x9, x10]) h) h) fun x11 =>
 EvO (gdB x4 true (binFast E .eql 3 x11.1 (.int .i64 0))) fun x12 =>
 EvO (pickV (some x4) (some x12) (some (.bool false))) fun x13 =>
 EvO (some x0) fun x14 =>
 EvO (some x13) fun x15 =>
 K .ret [x14, x15] x11.2
theorem P190_8_of {v0 v2 v4 v8 v9 : Value} (H : Q190_8 s K v0 v2 v4 v8 v9 h) : P190_8 s K v0 v2 v4 v8 v9 h :=
  step_of (by kernel_rfl) rfl (by kernel_rfl) H
theorem F190_ev {s : Bool} {v0 v1 v2 : Value} {h : AH} {Rp : Value → AH → Prop} (H : P190_0 s (KR E [.tmp 6, .tmp 7] Rp) v0 v1 v2 h) :
 Ev s (R.andThen (evC E (recI E) none (bodyOf Tryz.f190) ⟨⟨Tryz.f190.ntmps, initT [v0, v1, v2] 0 .e⟩, h, []⟩) (endCall E Tryz.f190)) fun x => Rp x.1 x.2 :=
  call_ev (C := C190 s) rfl rfl ⟨rfl, rfl, by kernel_rfl, rfl⟩ (by kernel_rfl) (by kernel_rfl) ((by kernel_rfl : contK (C190 s) (KR E Tryz.f190.results.toList Rp) 30 (rs B190 60 (.at [])) (tmOf (zipL 0 [v0, v1, v2])) h = (P190_0 s (KR E [.tmp 6, .tmp 7] Rp) v0 v1 v2 h)).mpr H)
theorem F190_get : E.tab.fn.get 190 = some Tryz.f190 := by kernel_rfl
theorem F190_body : Tryz.f190.body = some B190 := by kernel_rfl
theorem F190_sum (l : List Value) (h : AH) : E.sum 190 l h = none := by kernel_rfl
theorem F190_flatE {v0 v1 v2 : Value} {h : AH} {Rp : Value → Prop} (hok : h.ok) (H : P190_0 true (KR E [.tmp 6, .tmp 7] (fun x k => (isFlat x = true ∧ Rp x) ∧ h.next ≤ k.wm)) v0 v1 v2 h.fresh) : ∃ v, Rp v ∧ (recI E).call 190 [v0, v1, v2] h = some [(v, h)] :=
  call_flatE hok F190_get F190_body (F190_sum _ _) (by kernel_rfl) (F190_ev (Rp := fun x k => (isFlat x = true ∧ Rp x) ∧ h.next ≤ k.wm) H)
noncomputable def B191 : Code := bodyOf Tryz.f191
noncomputable def C191 (s : Bool) : Cx := ⟨E, s, none, B191, [([0], [0, 1, 2]), ([1, 0], [0, 1, 2]), ([1, 1, 0], [0, 1, 2]), ([1, 1, 1, 0, 0], [0, 1, 2, 7]), ([1, 1, 1, 0, 1, 0, 0], [0]), ([1, 1, 1, 1, 0], [0, 1, 2, 7]), ([1, 1, 1, 1, 1, 0, 0], [0, 1, 2, 7, 8]), ([1, 1, 1, 1, 1, 0, 1, 0, 0], [0, 2]), ([1, 1, 1, 1, 1, 1, 0, 0], [0, 1, 2, 7, 8]), ([1, 1, 1, 1, 1, 1, 0, 1, 0, 0], [0, 1, 2, 7, 8]), ([1, 1, 1, 1, 1, 1, 0, 1, 0, 1, 0], [0, 1, 2, 7, 9]), ([1, 1, 1, 1, 1, 1, 0, 1, 0, 1, 1, 0], [0, 1, 7, 9]), ([1, 1, 1, 1, 1, 1, 0, 1, 0, 1, 1, 1, 0], [9]), ([1, 1, 1, 1, 1, 1, 1, 0], [0, 1, 2, 7, 8]), ([1, 1, 1, 1, 1, 1, 1, 1, 0, 0], [0, 1, 2, 7, 8]), ([1, 1, 1, 1, 1, 1, 1, 1, 0, 1, 0, 0], [0, 1, 2, 7]), ([1, 1, 1, 1, 1, 1, 1, 1, 0, 1, 0, 1, 0], [0, 1, 2]), ([1, 1, 1, 1, 1, 1, 1, 1, 0, 1, 0, 1, 1, 0], [0]), ([1, 1, 1, 1, 1, 1, 1, 1, 1, 0], [0, 1, 2, 7, 8]), ([1, 1, 1, 1, 1, 1, 1, 1, 1, 1, 0], [0, 1, 7]), ([1, 1, 1, 1, 1, 1, 1, 1, 1, 1, 1, 0], [0])], [6], []⟩
def P191_0 (s : Bool) (K : KF) (v0 v1 v2 : Value) (h : AH) : Prop := SP (C191 s ) K [0] [(0, v0), (1, v1), (2, v2)] h
def P191_1 (s : Bool) (K : KF) (v0 v1 v2 : Value) (h : AH) : Prop := SP (C191 s ) K [1, 0] [(0, v0), (1, v1), (2, v2)] h
def P191_2 (s : Bool) (K : KF) (v0 v1 v2 : Value) (h : AH) : Prop := SP (C191 s ) K [1, 1, 0] [(0, v0), (1, v1), (2, v2)] h
def P191_3 (s : Bool) (K : KF) (v0 v1 v2 v7 : Value) (h : AH) : Prop := SP (C191 s ) K [1, 1, 1, 0, 0] [(0, v0), (1, v1), (2, v2), (7, v7)] h
def P191_4 (s : Bool) (K : KF) (v0 : Value) (h : AH) : Prop := SP (C191 s ) K [1, 1, 1, 0, 1, 0, 0] [(0, v0)] h
def P191_5 (s : Bool) (K : KF) (v0 v1 v2 v7 : Value) (h : AH) : Prop := SP (C191 s ) K [1, 1, 1, 1, 0] [(0, v0), (1, v1), (2, v2), (7, v7)] h
def P191_6 (s : Bool) (K : KF) (v0 v1 v2 v7 v8 : Value) (h : AH) : Prop := SP (C191 s ) K [1, 1, 1, 1, 1, 0, 0] [(0, v0), (1, v1), (2, v2), (7, v7), (8, v8)] h
def P191_7 (s : Bool) (K : KF) (v0 v2 : Value) (h : AH) : Prop := SP (C191 s ) K [1, 1, 1, 1, 1, 0, 1, 0, 0] [(0, v0), (2, v2)] h
def P191_8 (s : Bool) (K : KF) (v0 v1 v2 v7 v8 : Value) (h : AH) : Prop := SP (C191 s ) K [1, 1, 1, 1, 1, 1, 0, 0] [(0, v0), (1, v1), (2, v2), (7, v7), (8, v8)] h
def Q191_0 (s : Bool) (K : KF) (v0 v1 v2 : Value) (h : AH) : Prop :=
 EvO (α := Value) (some (.slice none 0 0)) fun x0 =>
 P191_1 s K v0 v1 v2 h
theorem P191_0_of {v0 v1 v2 : Value} (H : Q191_0 s K v0 v1 v2 h) : P191_0 s K v0 v1 v2 h :=
  step_of (by kernel_rfl) rfl (by kernel_rfl) H
def Q191_1 (s : Bool) (K : KF) (v0 v1 v2 : Value) (h : AH) : Prop :=
 EvO (some v0) fun x0 =>
 EvO (some v1) fun x1 =>
 EvO (evPure E (tmOf [(10, x0), (11, x1)]) (opAt B191 [1, 0] 2)) fun x2 =>
 P191_2 s K v0 v1 v2 h
theorem P191_1_of {v0 v1 v2 : Value} (H : Q191_1 s K v0 v1 v2 h) : P191_1 s K v0 v1 v2 h :=
  step_of (by kernel_rfl) rfl (by kernel_rfl) H
def Q191_2 (s : Bool) (K : KF) (v0 v1 v2 : Value) (h : AH) : Prop :=
 EvO (some v2) fun x0 =>
 EvO (evRead E (tmOf [(13, x0)]) (opAt B191 [1, 1, 0] 1) h) fun x1 =>
 EvO (some x1) fun x2 =>
 P191_3 s K v0 v1 v2 x2 h
theorem P191_2_of {v0 v1 v2 : Value} (H : Q191_2 s K v0 v1 v2 h) : P191_2 s K v0 v1 v2 h :=
  step_of (by kernel_rfl) rfl (by kernel_rfl) H
theorem len191_2_1 : evRead E (tmOf [(13, .slice a n c)]) (opAt B191 [1, 1, 0] 1) h = some (.int .i64 (n : Int)) := by cases a <;> kernel_rfl
def Q191_3 (s : Bool) (K : KF) (v0 v1 v2 v7 : Value) (h : AH) : Prop :=
 EvO (some v7) fun x0 =>
 EvO (binFast E .eql 3 x0 (.int .i64 0)) fun x1 =>
 BrK (some x1) (P191_4 s K v0 h) (P191_5 s K v0 v1 v2 v7 h)
theorem P191_3_of {v0 v1 v2 v7 : Value} (H : Q191_3 s K v0 v1 v2 v7 h) : P191_3 s K v0 v1 v2 v7 h :=
  step_of (by kernel_rfl) rfl (by kernel_rfl) H
def Q191_5 (s : Bool) (K : KF) (v0 v1 v2 v7 : Value) (h : AH) : Prop :=
 EvO (some v0) fun x0 =>
 EvO (evRead E (tmOf [(18, x0)]) (opAt B191 [1, 1, 1, 1, 0] 1) h) fun x1 =>
 EvO (some x1) fun x2 =>
 P191_6 s K v0 v1 v2 v7 x2 h
theorem P191_5_of {v0 v1 v2 v7 : Value} (H : Q191_5 s K v0 v1 v2 v7 h) : P191_5 s K v0 v1 v2 v7 h :=
  step_of (by kernel_rfl) rfl (by kernel_rfl) H
theorem len191_5_1 : evRead E (tmOf [(18, .slice a n c)]) (opAt B191 [1, 1, 1, 1, 0] 1) h = some (.int .i64 (n : Int)) := by cases a <;> kernel_rfl
def Q191_6 (s : Bool) (K : KF) (v0 v1 v2 v7 v8 : Value) (h : AH) : Prop :=
 EvO (some v1) fun x0 =>
 EvO (some v8) fun x1 =>
 EvO (binFast E .eql 3 x0 x1) fun x2 =>
 BrK (some x2) (P191_7 s K v0 v2 h) (P191_8 s K v0 v1 v2 v7 v8 h)
theorem P191_6_of {v0 v1 v2 v7 v8 : Value} (H : Q191_6 s K v0 v1 v2 v7 v8 h) : P191_6 s K v0 v1 v2 v7 v8 h :=
  step_of (by kernel_rfl) rfl (by kernel_rfl) H
def Q191_7 (s : Bool) (K : KF) (v0 v2 : Value) (h : AH) : Prop :=
 EvO (some v0) fun x0 =>
 EvO (some v2) fun x1 =>
 Ev s (wBuiltinO E .append [22, 22] (some [x0, x1]) h) fun x2 =>
 EvO (some x2.1) fun x3 =>
 K .ret [x3] x2.2
theorem P191_7_of {v0 v2 : Value} (H : Q191_7 s K v0 v2 h) : P191_7 s K v0 v2 h :=
  step_of (by kernel_rfl) rfl (by kernel_rfl) H
theorem F191_ev {s : Bool} {v0 v1 v2 : Value} {h : AH} {Rp : Value → AH → Prop} (H : P191_0 s (KR E [.tmp 6] Rp) v0 v1 v2 h) :
 Ev s (R.andThen (evC E (recI E) none (bodyOf Tryz.f191) ⟨⟨Tryz.f191.ntmps, initT [v0, v1, v2] 0 .e⟩, h, []⟩) (endCall E Tryz.f191)) fun x => Rp x.1 x.2 :=
  call_ev (C := C191 s) rfl rfl ⟨rfl, rfl, by kernel_rfl, rfl⟩ (by kernel_rfl) (by kernel_rfl) ((by kernel_rfl : contK (C191 s) (KR E Tryz.f191.results.toList Rp) 30 (rs B191 60 (.at [])) (tmOf (zipL 0 [v0, v1, v2])) h = (P191_0 s (KR E [.tmp 6] Rp) v0 v1 v2 h)).mpr H)
theorem F191_get : E.tab.fn.get 191 = some Tryz.f191 := by kernel_rfl
theorem F191_body : Tryz.f191.body = some B191 := by kernel_rfl
noncomputable def B215 : Code := bodyOf Tryz.f215
noncomputable def C215 (s : Bool) : Cx := ⟨E, s, none, B215, [([0], [0, 1]), ([1, 0], [0, 1])], [4], []⟩
def P215_0 (s : Bool) (K : KF) (v0 v1 : Value) (h : AH) : Prop := SP (C215 s ) K [0] [(0, v0), (1, v1)] h
def P215_1 (s : Bool) (K : KF) (v0 v1 : Value) (h : AH) : Prop := SP (C215 s ) K [1, 0] [(0, v0), (1, v1)] h
def Q215_0 (s : Bool) (K : KF) (v0 v1 : Value) (h : AH) : Prop :=
 EvO (α := Value) (some (.bool false)) fun x0 =>
 P215_1 s K v0 v1 h
theorem P215_0_of {v0 v1 : Value} (H : Q215_0 s K v0 v1 h) : P215_0 s K v0 v1 h :=
  step_of (by kernel_rfl) rfl (by kernel_rfl) H
def Q215_1 (s : Bool) (K : KF) (v0 v1 : Value) (h : AH) : Prop :=
 EvO (some v0) fun x0 =>
 EvO (some v1) fun x1 =>
 Ev s (wCallV (recI E) (some (.func (.func 243) #[] #[])) (some [x0, x1]) h) fun x2 =>
 EvO (binFast E .geq 3 x2.1 (.int .i64 0)) fun x3 =>
 EvO (some x3) fun x4 =>
 K .ret [x4] x2.2
theorem P215_1_of {v0 v1 : Value} (H : Q215_1 s K v0 v1 h) : P215_1 s K v0 v1 h :=
  step_of (by kernel_rfl) rfl (by kernel_rfl) H
theorem F215_ev {s : Bool} {v0 v1 : Value} {h : AH} {Rp : Value → AH → Prop} (H : P215_0 s (KR E [.tmp 4] Rp) v0 v1 h) :
 Ev s (R.andThen (evC E (recI E) none (bodyOf Tryz.f215) ⟨⟨Tryz.f215.ntmps, initT [v0, v1] 0 .e⟩, h, []⟩) (endCall E Tryz.f215)) fun x => Rp x.1 x.2 :=
  call_ev (C := C215 s) rfl rfl ⟨rfl, rfl, by kernel_rfl, rfl⟩ (by kernel_rfl) (by kernel_rfl) ((by kernel_rfl : contK (C215 s) (KR E Tryz.f215.results.toList Rp) 30 (rs B215 60 (.at [])) (tmOf (zipL 0 [v0, v1])) h = (P215_0 s (KR E [.tmp 4] Rp) v0 v1 h)).mpr H)
theorem F215_get : E.tab.fn.get 215 = some Tryz.f215 := by kernel_rfl
theorem F215_body : Tryz.f215.body = some B215 := by kernel_rfl
theorem F215_sum (l : List Value) (h : AH) : E.sum 215 l h = none := by kernel_rfl
theorem F215_flat {s : Bool} {v0 v1 : Value} {h : AH} {v : Value} (hok : h.ok) (hv : isScalar v = true) (H : P215_0 s (KR E [.tmp 4] (fun x k => x = v ∧ h.next ≤ k.wm)) v0 v1 h.fresh) : (recI E).call 215 [v0, v1] h = some [(v, h)] :=
  call_flat (s := s) hok F215_get F215_body (F215_sum _ _) (by kernel_rfl) hv (F215_ev (Rp := fun x k => x = v ∧ h.next ≤ k.wm) H)
noncomputable def B216 : Code := bodyOf Tryz.f216
noncomputable def C216 (s : Bool) : Cx := ⟨E, s, none, B216, [([0], [0]), ([1, 0], [1])], [2], []⟩
def P216_0 (s : Bool) (K : KF) (v0 : Value) (h : AH) : Prop := SP (C216 s ) K [0] [(0, v0)] h
def P216_1 (s : Bool) (K : KF) (v1 : Value) (h : AH) : Prop := SP (C216 s ) K [1, 0] [(1, v1)] h
def Q216_0 (s : Bool) (K : KF) (v0 : Value) (h : AH) : Prop :=
 Ev s (wNewRow 173 h (some v0)) fun x0 =>
 EvO (α := Value) (some (.bool false)) fun x1 =>
 P216_1 s K x0.1 x0.2
theorem P216_0_of {v0 : Value} (H : Q216_0 s K v0 h) : P216_0 s K v0 h :=
  step_of (by kernel_rfl) rfl (by kernel_rfl) H
def Q216_1 (s : Bool) (K : KF) (v1 : Value) (h : AH) : Prop :=
 EvO (rLoad E 173 h (some v1)) fun x0 =>
 Ev s (wCallV (recI E) (some (.func (.func 217) #[] #[])) (some [x0]) h) fun x1 =>
 EvO (unFast .not x1.1) fun x2 =>
 EvO (some x2) fun x3 =>
 K .ret [x3] x1.2
theorem P216_1_of {v1 : Value} (H : Q216_1 s K v1 h) : P216_1 s K v1 h :=
  step_of (by kernel_rfl) rfl (by kernel_rfl) H
theorem F216_ev {s : Bool} {v0 : Value} {h : AH} {Rp : Value → AH → Prop} (H : P216_0 s (KR E [.tmp 2] Rp) v0 h) :
 Ev s (R.andThen (evC E (recI E) none (bodyOf Tryz.f216) ⟨⟨Tryz.f216.ntmps, initT [v0] 0 .e⟩, h, []⟩) (endCall E Tryz.f216)) fun x => Rp x.1 x.2 :=
  call_ev (C := C216 s) rfl rfl ⟨rfl, rfl, by kernel_rfl, rfl⟩ (by kernel_rfl) (by kernel_rfl) ((by kernel_rfl : contK (C216 s) (KR E Tryz.f216.results.toList Rp) 30 (rs B216 60 (.at [])) (tmOf (zipL 0 [v0])) h = (P216_0 s (KR E [.tmp 2] Rp) v0 h)).mpr H)
theorem F216_get : E.tab.fn.get 216 = some Tryz.f216 := by kernel_rfl
theorem F216_body : Tryz.f216.body = some B216 := by kernel_rfl
theorem F216_sum (l : List Value) (h : AH) : E.sum 216 l h = none := by kernel_rfl
theorem F216_flat {s : Bool} {v0 : Value} {h : AH} {v : Value} (hok : h.ok) (hv : isScalar v = true) (H : P216_0 s (KR E [.tmp 2] (fun x k => x = v ∧ h.next ≤ k.wm)) v0 h.fresh) : (recI E).call 216 [v0] h = some [(v, h)] :=
  call_flat (s := s) hok F216_get F216_body (F216_sum _ _) (by kernel_rfl) hv (F216_ev (Rp := fun x k => x = v ∧ h.next ≤ k.wm) H)
noncomputable def B217 : Code := bodyOf Tryz.f217
noncomputable def C217 (s : Bool) : Cx := ⟨E, s, none, B217, [([0], [0]), ([1, 0, 0], [1]), ([1, 0, 1, 0], [1, 3]), ([1, 0, 1, 1, 0, 0], []), ([1, 1, 0], [1]), ([1, 1, 1, 0], [1, 5]), ([1, 1, 1, 1, 0], [1, 5])], [2], []⟩
def P217_0 (s : Bool) (K : KF) (v0 : Value) (h : AH) : Prop := SP (C217 s ) K [0] [(0, v0)] h
def P217_1 (s : Bool) (K : KF) (v1 : Value) (h : AH) : Prop := SP (C217 s ) K [1, 0, 0] [(1, v1)] h
def P217_2 (s : Bool) (K : KF) (v1 v3 : Value) (h : AH) : Prop := SP (C217 s ) K [1, 0, 1, 0] [(1, v1), (3, v3)] h
def P217_3 (s : Bool) (K : KF) (h : AH) : Prop := SP (C217 s ) K [1, 0, 1, 1, 0, 0] [] h
def P217_4 (s : Bool) (K : KF) (v1 : Value) (h : AH) : Prop := SP (C217 s ) K [1, 1, 0] [(1, v1)] h
def P217_5 (s : Bool) (K : KF) (v1 v5 : Value) (h : AH) : Prop := SP (C217 s ) K [1, 1, 1, 0] [(1, v1), (5, v5)] h
def P217_6 (s : Bool) (K : KF) (v1 v5 : Value) (h : AH) : Prop := SP (C217 s ) K [1, 1, 1, 1, 0] [(1, v1), (5, v5)] h
def Q217_0 (s : Bool) (K : KF) (v0 : Value) (h : AH) : Prop :=
 Ev s (wNewRow 173 h (some v0)) fun x0 =>
 EvO (α := Value) (some (.bool false)) fun x1 =>
 P217_1 s K x0.1 x0.2
theorem P217_0_of {v0 : Value} (H : Q217_0 s K v0 h) : P217_0 s K v0 h :=
  step_of (by kernel_rfl) rfl (by kernel_rfl) H
def Q217_1 (s : Bool) (K : KF) (v1 : Value) (h : AH) : Prop :=
 EvO (rLoad E 173 h (some v1)) fun x0 =>
 Ev s (wCallV (recI E) (some (.func (.func 244) #[] #[])) (some [x0]) h) fun x1 =>
 EvO (some x1.1) fun x2 =>
 EvO (pExtract 0 (some x2)) fun x3 =>
 EvO (pExtract 1 (some x2)) fun x4 =>
 EvO (some x3) fun x5 =>
 EvO (some x4) fun x6 =>
 P217_2 s K v1 x5 x1.2
theorem P217_1_of {v1 : Value} (H : Q217_1 s K v1 h) : P217_1 s K v1 h :=
  step_of (by kernel_rfl) rfl (by kernel_rfl) H
def Q217_2 (s : Bool) (K : KF) (v1 v3 : Value) (h : AH) : Prop :=
 EvO (some v3) fun x0 =>
 EvO (binFast E .gtr 3 x0 (.int .i64 2000)) fun x1 =>
 BrK (some x1) (P217_3 s K  h) (P217_4 s K v1 h)
theorem P217_2_of {v1 v3 : Value} (H : Q217_2 s K v1 v3 h) : P217_2 s K v1 v3 h :=
  step_of (by kernel_rfl) rfl (by kernel_rfl) H
def Q217_3 (s : Bool) (K : KF) (h : AH) : Prop :=
 EvO (α := Value) (some (.bool false)) fun x0 =>
 K .ret [x0] h
theorem P217_3_of (H : Q217_3 s K h) : P217_3 s K h :=
  step_of (by kernel_rfl) rfl (by kernel_rfl) H
def Q217_4 (s : Bool) (K : KF) (v1 : Value) (h : AH) : Prop :=
 Ev s (wNewRow 247 h (zeroV E 247)) fun x0 =>
 P217_5 s K v1 x0.1 x0.2
theorem P217_4_of {v1 : Value} (H : Q217_4 s K v1 h) : P217_4 s K v1 h :=
  step_of (by kernel_rfl) rfl (by kernel_rfl) H
def Q217_5 (s : Bool) (K : KF) (v1 v5 : Value) (h : AH) : Prop :=
 EvO (pMakeFunc (.func 245) (some []) (some [v5])) fun x0 =>
 Ev s (wStore E 247 h (some v5) (some x0)) fun x1 =>
 P217_6 s K v1 v5 x1.2
theorem P217_5_of {v1 v5 : Value} (H : Q217_5 s K v1 v5 h) : P217_5 s K v1 v5 h :=
  step_of (by kernel_rfl) rfl (by kernel_rfl) H
def Q217_6 (s : Bool) (K : KF) (v1 v5 : Value) (h : AH) : Prop :=
 EvO (rLoad E 247 h (some v5)) fun x0 =>
 EvO (rLoad E 173 h (some v1)) fun x1 =>
 Ev s (wCallV (recI E) (some x0) (some [x1]) h) fun x2 =>
 EvO (some x2.1) fun x3 =>
 K .ret [x3] x2.2
theorem P217_6_of {v1 v5 : Value} (H : Q217_6 s K v1 v5 h) : P217_6 s K v1 v5 h :=
  step_of (by kernel_rfl) rfl (by kernel_rfl) H
theorem F217_ev {s : Bool} {v0 : Value} {h : AH} {Rp : Value → AH → Prop} (H : P217_0 s (KR E [.tmp 2] Rp) v0 h) :
 Ev s (R.andThen (evC E (recI E) none (bodyOf Tryz.f217) ⟨⟨Tryz.f217.ntmps, initT [v0] 0 .e⟩, h, []⟩) (endCall E Tryz.f217)) fun x => Rp x.1 x.2 :=
  call_ev (C := C217 s) rfl rfl ⟨rfl, rfl, by kernel_rfl, rfl⟩ (by kernel_rfl) (by kernel_rfl) ((by kernel_rfl : contK (C217 s) (KR E Tryz.f217.results.toList Rp) 30 (rs B217 60 (.at [])) (tmOf (zipL 0 [v0])) h = (P217_0 s (KR E [.tmp 2] Rp) v0 h)).mpr H)
theorem F217_get : E.tab.fn.get 217 = some Tryz.f217 := by kernel_rfl
theorem F217_body : Tryz.f217.body = some B217 := by kernel_rfl
theorem F217_sum (l : List Value) (h : AH) : E.sum 217 l h = none := by kernel_rfl
theorem F217_flat {s : Bool} {v0 : Value} {h : AH} {v : Value} (hok : h.ok) (hv : isScalar v = true) (H : P217_0 s (KR E [.tmp 2] (fun x k => x = v ∧ h.next ≤ k.wm)) v0 h.fresh) : (recI E).call 217 [v0] h = some [(v, h)] :=
  call_flat (s := s) hok F217_get F217_body (F217_sum _ _) (by kernel_rfl) hv (F217_ev (Rp := fun x k => x = v ∧ h.next ≤ k.wm) H)
noncomputable def B218 : Code := bodyOf Tryz.f218
noncomputable def C218 (s : Bool) : Cx := ⟨E, s, none, B218, [([0], [0, 1, 2]), ([1, 0], [0, 1, 2])], [6], []⟩
def P218_0 (s : Bool) (K : KF) (v0 v1 v2 : Value) (h : AH) : Prop := SP (C218 s ) K [0] [(0, v0), (1, v1), (2, v2)] h
def P218_1 (s : Bool) (K : KF) (v0 v1 v2 : Value) (h : AH) : Prop := SP (C218 s ) K [1, 0] [(0, v0), (1, v1), (2, v2)] h
def Q218_0 (s : Bool) (K : KF) (v0 v1 v2 : Value) (h : AH) : Prop :=
 EvO (α := Value) (some (.int .i64 0)) fun x0 =>
 P218_1 s K v0 v1 v2 h
theorem P218_0_of {v0 v1 v2 : Value} (H : Q218_0 s K v0 v1 v2 h) : P218_0 s K v0 v1 v2 h :=
  step_of (by kernel_rfl) rfl (by kernel_rfl) H
def Q218_1 (s : Bool) (K : KF) (v0 v1 v2 : Value) (h : AH) : Prop :=
 EvO (some v0) fun x0 =>
 EvO (some v1) fun x1 =>
 EvO (some v2) fun x2 =>
 Ev s (wCallV (recI E) (some (.func (.func 247) #[] #[])) (some [x0, x1, x2]) h) fun x3 =>
 EvO (some x3.1) fun x4 =>
 K .ret [x4] x3.2
theorem P218_1_of {v0 v1 v2 : Value} (H : Q218_1 s K v0 v1 v2 h) : P218_1 s K v0 v1 v2 h :=
  step_of (by kernel_rfl) rfl (by kernel_rfl) H
theorem F218_ev {s : Bool} {v0 v1 v2 : Value} {h : AH} {Rp : Value → AH → Prop} (H : P218_0 s (KR E [.tmp 6] Rp) v0 v1 v2 h) :
 Ev s (R.andThen (evC E (recI E) none (bodyOf Tryz.f218) ⟨⟨Tryz.f218.ntmps, initT [v0, v1, v2] 0 .e⟩, h, []⟩) (endCall E Tryz.f218)) fun x => Rp x.1 x.2 :=
  call_ev (C := C218 s) rfl rfl ⟨rfl, rfl, by kernel_rfl, rfl⟩ (by kernel_rfl) (by kernel_rfl) ((by kernel_rfl : contK (C218 s) (KR E Tryz.f218.results.toList Rp) 30 (rs B218 60 (.at [])) (tmOf (zipL 0 [v0, v1, v2])) h = (P218_0 s (KR E [.tmp 6] Rp) v0 v1 v2 h)).mpr H)
theorem F218_get : E.tab.fn.get 218 = some Tryz.f218 := by kernel_rfl
theorem F218_body : Tryz.f218.body = some B218 := by kernel_rfl
theorem F218_sum (l : List Value) (h : AH) : E.sum 218 l h = none := by kernel_rfl
theorem F218_flat {s : Bool} {v0 v1 v2 : Value} {h : AH} {v : Value} (hok : h.ok) (hv : isScalar v = true) (H : P218_0 s (KR E [.tmp 6] (fun x k => x = v ∧ h.next ≤ k.wm)) v0 v1 v2 h.fresh) : (recI E).call 218 [v0, v1, v2] h = some [(v, h)] :=
  call_flat (s := s) hok F218_get F218_body (F218_sum _ _) (by kernel_rfl) hv (F218_ev (Rp := fun x k => x = v ∧ h.next ≤ k.wm) H)
noncomputable def B219 : Code := bodyOf Tryz.f219
noncomputable def C219 (s : Bool) : Cx := ⟨E, s, none, B219, [([0], [0, 1]), ([1, 0, 0], [2, 3]), ([1, 0, 1, 0], [2, 3, 5]), ([1, 0, 1, 1, 0, 0], [5]), ([1, 1, 0], [2, 3])], [4], []⟩
def P219_0 (s : Bool) (K : KF) (v0 v1 : Value) (h : AH) : Prop := SP (C219 s ) K [0] [(0, v0), (1, v1)] h
def P219_1 (s : Bool) (K : KF) (v2 v3 : Value) (h : AH) : Prop := SP (C219 s ) K [1, 0, 0] [(2, v2), (3, v3)] h
def P219_2 (s : Bool) (K : KF) (v2 v3 v5 : Value) (h : AH) : Prop := SP (C219 s ) K [1, 0, 1, 0] [(2, v2), (3, v3), (5, v5)] h
def P219_3 (s : Bool) (K : KF) (v5 : Value) (h : AH) : Prop := SP (C219 s ) K [1, 0, 1, 1, 0, 0] [(5, v5)] h
def P219_4 (s : Bool) (K : KF) (v2 v3 : Value) (h : AH) : Prop := SP (C219 s ) K [1, 1, 0] [(2, v2), (3, v3)] h
def Q219_0 (s : Bool) (K : KF) (v0 v1 : Value) (h : AH) : Prop :=
 Ev s (wNewRow 173 h (some v0)) fun x0 =>
 Ev s (wNewRow 173 x0.2 (some v1)) fun x1 =>
 EvO (α := Value) (some (.int .i64 0)) fun x2 =>
 P219_1 s K x0.1 x1.1 x1.2
theorem P219_0_of {v0 v1 : Value} (H : Q219_0 s K v0 v1 h) : P219_0 s K v0 v1 h :=
  step_of (by kernel_rfl) rfl (by kernel_rfl) H
def Q219_1 (s : Bool) (K : KF) (v2 v3 : Value) (h : AH) : Prop :=
 EvO (pFieldAddr E 173 0 (some v2)) fun x0 =>
 EvO (rLoad E 3 h (some x0)) fun x1 =>
 EvO (pFieldAddr E 173 0 (some v3)) fun x2 =>
 EvO (rLoad E 3 h (some x2)) fun x3 =>
 EvO (pFieldAddr E 173 1 (some v2)) fun x5 =>
 EvO (rLoad E 3 h (some x5)) fun x6 =>
 EvO (pFieldAddr E 173 1 (some v3)) fun x7 =>
 EvO (rLoad E 3 h (some x7)) fun x8 =>
 EvO (pFieldAddr E 173 2 (some v2)) fun x10 =>
 EvO (rLoad E 34 h (some x10)) fun x11 =>
 EvO (evRead E (tmOf [(17, x11)]) (opAt B219 [1, 0, 0] 12) h) fun x12 =>
 EvO (pFieldAddr E 173 2 (some v3)) fun x13 =>
 EvO (rLoad E 34 h (some x13)) fun x14 =>
 EvO (evRead E (tmOf [(20, x14)]) (opAt B219 [1, 0, 0] 15) h) fun x15 =>
 Ev s (wCallV (recI E) (some (.func (.func 94) #[] #[])) (some [x1, x3]) h) fun x4 =>
 EvO (evRead E (tmOf [(20, x14)]) (opAt B219 [1, 0, 0] 15) x4.2) fun u4_15 => veq 100 u4_15 x15 = true ∧
 (EvO (rLoad E 34 x4.2 (some x13)) fun u4_14 => veq 100 u4_14 x14 = true ∧
 (EvO (evRead E (tmOf [(17, x11)]) (opAt B219 [1, 0, 0] 12) x4.2) fun u4_12 => veq 100 u4_12 x12 = true ∧
 (EvO (rLoad E 34 x4.2 (some x10)) fun u4_11 => veq 100 u4_11 x11 = true ∧
 (EvO (rLoad E 3 x4.2 (some x7)) fun u4_8 => veq 100 u4_8 x8 = true ∧
 (EvO (rLoad E 3 x4.2 (some x5)) fun u4_6 => veq 100 u4_6 x6 = true ∧
 (Ev s (wCallV (recI E) (some (.func (.func 94) #[] #[])) (some [x6, x8]) x4.2) fun x9 =>
 EvO (evRead E (tmOf [(20, x14)]) (opAt B219 [1, 0, 0] 15) x9.2) fun u9_15 => veq 100 u9_15 x15 = true ∧
 (EvO (rLoad E 34 x9.2 (some x13)) fun u9_14 => veq 100 u9_14 x14 = true ∧
 (EvO (evRead E (tmOf [(17, x11)]) (opAt B219 [1, 0, 0] 12) x9.2) fun u9_12 => veq 100 u9_12 x12 = true ∧
 (EvO (rLoad E 34 x9.2 (some x10)) fun u9_11 => veq 100 u9_11 x11 = true ∧
 (Ev s (wCallV (recI E) (some (.func (.func 94) #[] #[])) (some [x12, x15]) x9.2) fun x16 =>
 Ev s (wBuildSlice E 47 3 (some [(0, x4.1), (1, x9.1), (2, x16.1)]) x16.2) fun x17 =>
 Ev s (wCallV (recI E) (some (.func (.func 171) #[] #[])) (some [x17.1]) x17.2) fun x18 =>
 EvO (some x18.1) fun x19 =>
 P219_2 s K v2 v3 x19 x18.2))))))))))
theorem P219_1_of {v2 v3 : Value} (H : Q219_1 s K v2 v3 h) : P219_1 s K v2 v3 h :=
  step_of (by kernel_rfl) rfl (by kernel_rfl) H
theorem len219_1_12 : evRead E (tmOf [(17, .slice a n c)]) (opAt B219 [1, 0, 0] 12) h = some (.int .i64 (n : Int)) := by cases a <;> kernel_rfl
theorem len219_1_15 : evRead E (tmOf [(20, .slice a n c)]) (opAt B219 [1, 0, 0] 15) h = some (.int .i64 (n : Int)) := by cases a <;> kernel_rfl
def Q219_2 (s : Bool) (K : KF) (v2 v3 v5 : Value) (h : AH) : Prop :=
 EvO (some v5) fun x0 =>
 EvO (binFast E .neq 3 x0 (.int .i64 0)) fun x1 =>
 BrK (some x1) (P219_3 s K v5 h) (P219_4 s K v2 v3 h)
theorem P219_2_of {v2 v3 v5 : Value} (H : Q219_2 s K v2 v3 v5 h) : P219_2 s K v2 v3 v5 h :=
  step_of (by kernel_rfl) rfl (by kernel_rfl) H
def Q219_3 (s : Bool) (K : KF) (v5 : Value) (h : AH) : Prop :=
 EvO (some v5) fun x0 =>
 EvO (some x0) fun x1 =>
 K .ret [x1] h
theorem P219_3_of {v5 : Value} (H : Q219_3 s K v5 h) : P219_3 s K v5 h :=
  step_of (by kernel_rfl) rfl (by kernel_rfl) H
def Q219_4 (s : Bool) (K : KF) (v2 v3 : Value) (h : AH) : Prop :=
 EvO (pFieldAddr E 173 2 (some v2)) fun x0 =>
 EvO (rLoad E 34 h (some x0)) fun x1 =>
 EvO (pFieldAddr E 173 2 (some v3)) fun x2 =>
 EvO (rLoad E 34 h (some x2)) fun x3 =>
 Ev s (wCallV (recI E) (some (.func (.func 247) #[] #[])) (some [x1, x3, (.func (.func 219) #[] #[])]) h) fun x4 =>
 EvO (some x4.1) fun x5 =>
 K .ret [x5] x4.2
theorem P219_4_of {v2 v3 : Value} (H : Q219_4 s K v2 v3 h) : P219_4 s K v2 v3 h :=
  step_of (by kernel_rfl) rfl (by kernel_rfl) H
theorem F219_ev {s : Bool} {v0 v1 : Value} {h : AH} {Rp : Value → AH → Prop} (H : P219_0 s (KR E [.tmp 4] Rp) v0 v1 h) :
 Ev s (R.andThen (evC E (recI E) none (bodyOf Tryz.f219) ⟨⟨Tryz.f219.ntmps, initT [v0, v1] 0 .e⟩, h, []⟩) (endCall E Tryz.f219)) fun x => Rp x.1 x.2 :=
  call_ev (C := C219 s) rfl rfl ⟨rfl, rfl, by kernel_rfl, rfl⟩ (by kernel_rfl) (by kernel_rfl) ((by kernel_rfl : contK (C219 s) (KR E Tryz.f219.results.toList Rp) 30 (rs B219 60 (.at [])) (tmOf (zipL 0 [v0, v1])) h = (P219_0 s (KR E [.tmp 4] Rp) v0 v1 h)).mpr H)
theorem F219_get : E.tab.fn.get 219 = some Tryz.f219 := by kernel_rfl
theorem F219_body : Tryz.f219.body = some B219 := by kernel_rfl
theorem F219_sum (l : List Value) (h : AH) : E.sum 219 l h = none := by kernel_rfl
theorem F219_flat {s : Bool} {v0 v1 : Value} {h : AH} {v : Value} (hok : h.ok) (hv : isScalar v = true) (H : P219_0 s (KR E [.tmp 4] (fun x k => x = v ∧ h.next ≤ k.wm)) v0 v1 h.fresh) : (recI E).call 219 [v0, v1] h = some [(v, h)] :=
  call_flat (s := s) hok F219_get F219_body (F219_sum _ _) (by kernel_rfl) hv (F219_ev (Rp := fun x k => x = v ∧ h.next ≤ k.wm) H)
noncomputable def B220 : Code := bodyOf Tryz.f220
noncomputable def C220 (s : Bool) : Cx := ⟨E, s, none, B220, [([0], [0, 1]), ([1, 0, 0], [0, 1]), ([1, 0, 1, 0, 0, 0], [0, 1, 7, 8]), ([1, 0, 1, 0, 0, 1, 1, 0, 0, 0], [0, 1, 7, 8]), ([1, 0, 1, 0, 0, 1, 1, 0, 0, 1, 0], [0, 1, 5, 7, 8]), ([1, 0, 1, 0, 0, 1, 1, 0, 0, 1, 1, 0, 0], [5]), ([1, 0, 1, 0, 0, 1, 1, 1], [0, 1, 7, 8]), ([1, 1, 0], [])], [4], []⟩
def P220_0 (s : Bool) (K : KF) (v0 v1 : Value) (h : AH) : Prop := SP (C220 s ) K [0] [(0, v0), (1, v1)] h
def P220_1 (s : Bool) (K : KF) (v0 v1 : Value) (h : AH) : Prop := SP (C220 s ) K [1, 0, 0] [(0, v0), (1, v1)] h
def P220_2 (s : Bool) (K : KF) (v0 v1 v7 v8 : Value) (h : AH) : Prop := SP (C220 s ) K [1, 0, 1, 0, 0, 0] [(0, v0), (1, v1), (7, v7), (8, v8)] h
def P220_3 (s : Bool) (K : KF) (v0 v1 v7 v8 : Value) (h : AH) : Prop := SP (C220 s ) K [1, 0, 1, 0, 0, 1, 1, 0, 0, 0] [(0, v0), (1, v1), (7, v7), (8, v8)] h
def P220_4 (s : Bool) (K : KF) (v0 v1 v5 v7 v8 : Value) (h : AH) : Prop := SP (C220 s ) K [1, 0, 1, 0, 0, 1, 1, 0, 0, 1, 0] [(0, v0), (1, v1), (5, v5), (7, v7), (8, v8)] h
def P220_5 (s : Bool) (K : KF) (v5 : Value) (h : AH) : Prop := SP (C220 s ) K [1, 0, 1, 0, 0, 1, 1, 0, 0, 1, 1, 0, 0] [(5, v5)] h
def P220_6 (s : Bool) (K : KF) (v0 v1 v7 v8 : Value) (h : AH) : Prop := SP (C220 s ) K [1, 0, 1, 0, 0, 1, 1, 1] [(0, v0), (1, v1), (7, v7), (8, v8)] h
def P220_7 (s : Bool) (K : KF) (h : AH) : Prop := SP (C220 s ) K [1, 1, 0] [] h
def Q220_0 (s : Bool) (K : KF) (v0 v1 : Value) (h : AH) : Prop :=
 EvO (α := Value) (some (.int .i64 0)) fun x0 =>
 P220_1 s K v0 v1 h
theorem P220_0_of {v0 v1 : Value} (H : Q220_0 s K v0 v1 h) : P220_0 s K v0 v1 h :=
  step_of (by kernel_rfl) rfl (by kernel_rfl) H
def Q220_1 (s : Bool) (K : KF) (v0 v1 : Value) (h : AH) : Prop :=
 EvO (some v0) fun x0 =>
 EvO (evRead E (tmOf [(6, x0)]) (opAt B220 [1, 0, 0] 1) h) fun x1 =>
 EvO (α := Value) (some (.int .i64 0)) fun x2 =>
 P220_2 s K v0 v1 x1 x2 h
theorem P220_1_of {v0 v1 : Value} (H : Q220_1 s K v0 v1 h) : P220_1 s K v0 v1 h :=
  step_of (by kernel_rfl) rfl (by kernel_rfl) H
theorem len220_1_1 : evRead E (tmOf [(6, .slice a n c)]) (opAt B220 [1, 0, 0] 1) h = some (.int .i64 (n : Int)) := by cases a <;> kernel_rfl
def Q220_2 (s : Bool) (K : KF) (v0 v1 v7 v8 : Value) (h : AH) : Prop :=
 EvO (binFast E .lss 3 v8 v7) fun x0 =>
 BrK (some x0) (P220_3 s K v0 v1 v7 v8 h) (P220_7 s K  h)
theorem P220_2_of {v0 v1 v7 v8 : Value} (H : Q220_2 s K v0 v1 v7 v8 h) : P220_2 s K v0 v1 v7 v8 h :=
  step_of (by kernel_rfl) rfl (by kernel_rfl) H
def Q220_3 (s : Bool) (K : KF) (v0 v1 v7 v8 : Value) (h : AH) : Prop :=
 EvO (some v8) fun x0 =>
 EvO (some x0) fun x1 =>
 P220_4 s K v0 v1 x1 v7 v8 h
theorem P220_3_of {v0 v1 v7 v8 : Value} (H : Q220_3 s K v0 v1 v7 v8 h) : P220_3 s K v0 v1 v7 v8 h :=
  step_of (by kernel_rfl) rfl (by kernel_rfl) H
def Q220_4 (s : Bool) (K : KF) (v0 v1 v5 v7 v8 : Value) (h : AH) : Prop :=
 EvO (some v1) fun x0 =>
 EvO (some v0) fun x1 =>
 EvO (some v5) fun x2 =>
 EvO (pIndexAddr E 132 (some x1) (some x2)) fun x3 =>
 EvO (rLoad E 134 h (some x3)) fun x4 =>
 Ev s (wCallV (recI E) (some x0) (some [x4]) h) fun x5 =>
 BrK (some x5.1) (P220_5 s K v5 x5.2) (P220_6 s K v0 v1 v7 v8 x5.2)
theorem P220_4_of {v0 v1 v5 v7 v8 : Value} (H : Q220_4 s K v0 v1 v5 v7 v8 h) : P220_4 s K v0 v1 v5 v7 v8 h :=
  step_of (by kernel_rfl) rfl (by kernel_rfl) H
def Q220_5 (s : Bool) (K : KF) (v5 : Value) (h : AH) : Prop :=
 EvO (some v5) fun x0 =>
 EvO (some x0) fun x1 =>
 K .ret [x1] h
theorem P220_5_of {v5 : Value} (H : Q220_5 s K v5 h) : P220_5 s K v5 h :=
  step_of (by kernel_rfl) rfl (by kernel_rfl) H
def Q220_6 (s : Bool) (K : KF) (v0 v1 v7 v8 : Value) (h : AH) : Prop :=
 EvO (binFast E .add 3 v8 (.int .i64 1)) fun x0 =>
 EvO (some x0) fun x1 =>
 P220_2 s K v0 v1 v7 x1 h
theorem P220_6_of {v0 v1 v7 v8 : Value} (H : Q220_6 s K v0 v1 v7 v8 h) : P220_6 s K v0 v1 v7 v8 h :=
  step_of (by kernel_rfl) rfl (by kernel_rfl) H
def Q220_7 (s : Bool) (K : KF) (h : AH) : Prop :=
 EvO (α := Value) (some (.int .i64 (-1))) fun x0 =>
 K .ret [x0] h
theorem P220_7_of (H : Q220_7 s K h) : P220_7 s K h :=
  step_of (by kernel_rfl) rfl (by kernel_rfl) H
theorem F220_ev {s : Bool} {v0 v1 : Value} {h : AH} {Rp : Value → AH → Prop} (H : P220_0 s (KR E [.tmp 4] Rp) v0 v1 h) :
 Ev s (R.andThen (evC E (recI E) none (bodyOf Tryz.f220) ⟨⟨Tryz.f220.ntmps, initT [v0, v1] 0 .e⟩, h, []⟩) (endCall E Tryz.f220)) fun x => Rp x.1 x.2 :=
  call_ev (C := C220 s) rfl rfl ⟨rfl, rfl, by kernel_rfl, rfl⟩ (by kernel_rfl) (by kernel_rfl) ((by kernel_rfl : contK (C220 s) (KR E Tryz.f220.results.toList Rp) 30 (rs B220 60 (.at [])) (tmOf (zipL 0 [v0, v1])) h = (P220_0 s (KR E [.tmp 4] Rp) v0 v1 h)).mpr H)
theorem F220_get : E.tab.fn.get 220 = some Tryz.f220 := by kernel_rfl
theorem F220_body : Tryz.f220.body = some B220 := by kernel_rfl
theorem F220_sum (l : List Value) (h : AH) : E.sum 220 l h = none := by kernel_rfl
theorem F220_flat {s : Bool} {v0 v1 : Value} {h : AH} {v : Value} (hok : h.ok) (hv : isScalar v = true) (H : P220_0 s (KR E [.tmp 4] (fun x k => x = v ∧ h.next ≤ k.wm)) v0 v1 h.fresh) : (recI E).call 220 [v0, v1] h = some [(v, h)] :=
  call_flat (s := s) hok F220_get F220_body (F220_sum _ _) (by kernel_rfl) hv (F220_ev (Rp := fun x k => x = v ∧ h.next ≤ k.wm) H)
noncomputable def B243 : Code := bodyOf Tryz.f243
noncomputable def C243 (s : Bool) : Cx := ⟨E, s, none, B243, [([0], [0, 1]), ([1, 0, 0], [0, 1]), ([1, 0, 1, 0, 0, 0], [0, 1, 7, 8]), ([1, 0, 1, 0, 0, 1, 1, 0, 0, 0], [0, 1, 7, 8]), ([1, 0, 1, 0, 0, 1, 1, 0, 0, 1, 0], [0, 1, 5, 7, 8]), ([1, 0, 1, 0, 0, 1, 1, 0, 0, 1, 1, 0, 0], [5]), ([1, 0, 1, 0, 0, 1, 1, 1], [0, 1, 7, 8]), ([1, 1, 0], [])], [4], []⟩
def P243_0 (s : Bool) (K : KF) (v0 v1 : Value) (h : AH) : Prop := SP (C243 s ) K [0] [(0, v0), (1, v1)] h
def P243_1 (s : Bool) (K : KF) (v0 v1 : Value) (h : AH) : Prop := SP (C243 s ) K [1, 0, 0] [(0, v0), (1, v1)] h
def P243_2 (s : Bool) (K : KF) (v0 v1 v7 v8 : Value) (h : AH) : Prop := SP (C243 s ) K [1, 0, 1, 0, 0, 0] [(0, v0), (1, v1), (7, v7), (8, v8)] h
def P243_3 (s : Bool) (K : KF) (v0 v1 v7 v8 : Value) (h : AH) : Prop := SP (C243 s ) K [1, 0, 1, 0, 0, 1, 1, 0, 0, 0] [(0, v0), (1, v1), (7, v7), (8, v8)] h
def P243_4 (s : Bool) (K : KF) (v0 v1 v5 v7 v8 : Value) (h : AH) : Prop := SP (C243 s ) K [1, 0, 1, 0, 0, 1, 1, 0, 0, 1, 0] [(0, v0), (1, v1), (5, v5), (7, v7), (8, v8)] h
def P243_5 (s : Bool) (K : KF) (v5 : Value) (h : AH) : Prop := SP (C243 s ) K [1, 0, 1, 0, 0, 1, 1, 0, 0, 1, 1, 0, 0] [(5, v5)] h
def P243_6 (s : Bool) (K : KF) (v0 v1 v7 v8 : Value) (h : AH) : Prop := SP (C243 s ) K [1, 0, 1, 0, 0, 1, 1, 1] [(0, v0), (1, v1), (7, v7), (8, v8)] h
def P243_7 (s : Bool) (K : KF) (h : AH) : Prop := SP (C243 s ) K [1, 1, 0] [] h
def Q243_0 (s : Bool) (K : KF) (v0 v1 : Value) (h : AH) : Prop :=
 EvO (α := Value) (some (.int .i64 0)) fun x0 =>
 P243_1 s K v0 v1 h
theorem P243_0_of {v0 v1 : Value} (H : Q243_0 s K v0 v1 h) : P243_0 s K v0 v1 h :=
  step_of (by kernel_rfl) rfl (by kernel_rfl) H
def Q243_1 (s : Bool) (K : KF) (v0 v1 : Value) (h : AH) : Prop :=
 EvO (some v0) fun x0 =>
 EvO (evRead E (tmOf [(6, x0)]) (opAt B243 [1, 0, 0] 1) h) fun x1 =>
 EvO (α := Value) (some (.int .i64 0)) fun x2 =>
 P243_2 s K v0 v1 x1 x2 h
theorem P243_1_of {v0 v1 : Value} (H : Q243_1 s K v0 v1 h) : P243_1 s K v0 v1 h :=
  step_of (by kernel_rfl) rfl (by kernel_rfl) H
theorem len243_1_1 : evRead E (tmOf [(6, .slice a n c)]) (opAt B243 [1, 0, 0] 1) h = some (.int .i64 (n : Int)) := by cases a <;> kernel_rfl
def Q243_2 (s : Bool) (K : KF) (v0 v1 v7 v8 : Value) (h : AH) : Prop :=
 EvO (binFast E .lss 3 v8 v7) fun x0 =>
 BrK (some x0) (P243_3 s K v0 v1 v7 v8 h) (P243_7 s K  h)
theorem P243_2_of {v0 v1 v7 v8 : Value} (H : Q243_2 s K v0 v1 v7 v8 h) : P243_2 s K v0 v1 v7 v8 h :=
  step_of (by kernel_rfl) rfl (by kernel_rfl) H
def Q243_3 (s : Bool) (K : KF) (v0 v1 v7 v8 : Value) (h : AH) : Prop :=
 EvO (some v8) fun x0 =>
 EvO (some x0) fun x1 =>
 P243_4 s K v0 v1 x1 v7 v8 h
theorem P243_3_of {v0 v1 v7 v8 : Value} (H : Q243_3 s K v0 v1 v7 v8 h) : P243_3 s K v0 v1 v7 v8 h :=
  step_of (by kernel_rfl) rfl (by kernel_rfl) H
def Q243_4 (s : Bool) (K : KF) (v0 v1 v5 v7 v8 : Value) (h : AH) : Prop :=
 EvO (some v1) fun x0 =>
 EvO (some v0) fun x1 =>
 EvO (some v5) fun x2 =>
 EvO (pIndexAddr E 34 (some x1) (some x2)) fun x3 =>
 EvO (rLoad E 173 h (some x3)) fun x4 =>
 Ev s (wCallV (recI E) (some x0) (some [x4]) h) fun x5 =>
 BrK (some x5.1) (P243_5 s K v5 x5.2) (P243_6 s K v0 v1 v7 v8 x5.2)
theorem P243_4_of {v0 v1 v5 v7 v8 : Value} (H : Q243_4 s K v0 v1 v5 v7 v8 h) : P243_4 s K v0 v1 v5 v7 v8 h :=
  step_of (by kernel_rfl) rfl (by kernel_rfl) H
def Q243_5 (s : Bool) (K : KF) (v5 : Value) (h : AH) : Prop :=
 EvO (some v5) fun x0 =>
 EvO (some x0) fun x1 =>
 K .ret [x1] h
theorem P243_5_of {v5 : Value} (H : Q243_5 s K v5 h) : P243_5 s K v5 h :=
  step_of (by kernel_rfl) rfl (by kernel_rfl) H
def Q243_6 (s : Bool) (K : KF) (v0 v1 v7 v8 : Value) (h : AH) : Prop :=
 EvO (binFast E .add 3 v8 (.int .i64 1)) fun x0 =>
 EvO (some x0) fun x1 =>
 P243_2 s K v0 v1 v7 x1 h
theorem P243_6_of {v0 v1 v7 v8 : Value} (H : Q243_6 s K v0 v1 v7 v8 h) : P243_6 s K v0 v1 v7 v8 h :=
  step_of (by kernel_rfl) rfl (by kernel_rfl) H
def Q243_7 (s : Bool) (K : KF) (h : AH) : Prop :=
 EvO (α := Value) (some (.int .i64 (-1))) fun x0 =>
 K .ret [x0] h
theorem P243_7_of (H : Q243_7 s K h) : P243_7 s K h :=
  step_of (by kernel_rfl) rfl (by kernel_rfl) H
theorem F243_ev {s : Bool} {v0 v1 : Value} {h : AH} {Rp : Value → AH → Prop} (H : P243_0 s (KR E [.tmp 4] Rp) v0 v1 h) :
 Ev s (R.andThen (evC E (recI E) none (bodyOf Tryz.f243) ⟨⟨Tryz.f243.ntmps, initT [v0, v1] 0 .e⟩, h, []⟩) (endCall E Tryz.f243)) fun x => Rp x.1 x.2 :=
  call_ev (C := C243 s) rfl rfl ⟨rfl, rfl, by kernel_rfl, rfl⟩ (by kernel_rfl) (by kernel_rfl) ((by kernel_rfl : contK (C243 s) (KR E Tryz.f243.results.toList Rp) 30 (rs B243 60 (.at [])) (tmOf (zipL 0 [v0, v1])) h = (P243_0 s (KR E [.tmp 4] Rp) v0 v1 h)).mpr H)
theorem F243_get : E.tab.fn.get 243 = some Tryz.f243 := by kernel_rfl
theorem F243_body : Tryz.f243.body = some B243 := by kernel_rfl
theorem F243_sum (l : List Value) (h : AH) : E.sum 243 l h = none := by kernel_rfl
theorem F243_flat {s : Bool} {v0 v1 : Value} {h : AH} {v : Value} (hok : h.ok) (hv : isScalar v = true) (H : P243_0 s (KR E [.tmp 4] (fun x k => x = v ∧ h.next ≤ k.wm)) v0 v1 h.fresh) : (recI E).call 243 [v0, v1] h = some [(v, h)] :=
  call_flat (s := s) hok F243_get F243_body (F243_sum _ _) (by kernel_rfl) hv (F243_ev (Rp := fun x k => x = v ∧ h.next ≤ k.wm) H)
noncomputable def B244 : Code := bodyOf Tryz.f244
noncomputable def C244 (s : Bool) : Cx := ⟨E, s, none, B244, [([0], [0]), ([1, 0], [1]), ([1, 1, 0, 0], [1, 4]), ([1, 1, 0, 1, 0], [4]), ([1, 1, 0, 1, 1, 0, 0], []), ([1, 1, 1, 0], [4])], [2, 3], []⟩
def P244_0 (s : Bool) (K : KF) (v0 : Value) (h : AH) : Prop := SP (C244 s ) K [0] [(0, v0)] h
def P244_1 (s : Bool) (K : KF) (v1 : Value) (h : AH) : Prop := SP (C244 s ) K [1, 0] [(1, v1)] h
def P244_2 (s : Bool) (K : KF) (v1 v4 : Value) (h : AH) : Prop := SP (C244 s ) K [1, 1, 0, 0] [(1, v1), (4, v4)] h
def P244_3 (s : Bool) (K : KF) (v4 : Value) (h : AH) : Prop := SP (C244 s ) K [1, 1, 0, 1, 0] [(4, v4)] h
def P244_4 (s : Bool) (K : KF) (h : AH) : Prop := SP (C244 s ) K [1, 1, 0, 1, 1, 0, 0] [] h
def P244_5 (s : Bool) (K : KF) (v4 : Value) (h : AH) : Prop := SP (C244 s ) K [1, 1, 1, 0] [(4, v4)] h
def Q244_0 (s : Bool) (K : KF) (v0 : Value) (h : AH) : Prop :=
 Ev s (wNewRow 173 h (some v0)) fun x0 =>
 EvO (α := Value) (some (.int .i64 0)) fun x1 =>
 EvO (α := Value) (some (.int .i64 0)) fun x2 =>
 P244_1 s K x0.1 x0.2
theorem P244_0_of {v0 : Value} (H : Q244_0 s K v0 h) : P244_0 s K v0 h :=
  step_of (by kernel_rfl) rfl (by kernel_rfl) H
def Q244_1 (s : Bool) (K : KF) (v1 : Value) (h : AH) : Prop :=
 Ev s (wNewRow 306 h (zeroV E 306)) fun x0 =>
 P244_2 s K v1 x0.1 x0.2
theorem P244_1_of {v1 : Value} (H : Q244_1 s K v1 h) : P244_1 s K v1 h :=
  step_of (by kernel_rfl) rfl (by kernel_rfl) H
def Q244_2 (s : Bool) (K : KF) (v1 v4 : Value) (h : AH) : Prop :=
 EvO (rLoad E 173 h (some v1)) fun x0 =>
 Ev s (wCallV (recI E) (some (.func (.func 268) #[] #[])) (some [v4, x0, (.int .i64 1)]) h) fun x1 =>
 P244_3 s K v4 x1.2
theorem P244_2_of {v1 v4 : Value} (H : Q244_2 s K v1 v4 h) : P244_2 s K v1 v4 h :=
  step_of (by kernel_rfl) rfl (by kernel_rfl) H
def Q244_3 (s : Bool) (K : KF) (v4 : Value) (h : AH) : Prop :=
 Ev s (wCallV (recI E) (some (.func (.func 269) #[] #[])) (some [v4]) h) fun x0 =>
 BrK (some x0.1) (P244_4 s K  x0.2) (P244_5 s K v4 x0.2)
theorem P244_3_of {v4 : Value} (H : Q244_3 s K v4 h) : P244_3 s K v4 h :=
  step_of (by kernel_rfl) rfl (by kernel_rfl) H
def Q244_4 (s : Bool) (K : KF) (h : AH) : Prop :=
 EvO (α := Value) (some (.int .i64 2001)) fun x0 =>
 EvO (α := Value) (some (.int .i64 201)) fun x1 =>
 K .ret [x0, x1] h
theorem P244_4_of (H : Q244_4 s K h) : P244_4 s K h :=
  step_of (by kernel_rfl) rfl (by kernel_rfl) H
def Q244_5 (s : Bool) (K : KF) (v4 : Value) (h : AH) : Prop :=
 EvO (pFieldAddr E 306 0 (some v4)) fun x0 =>
 EvO (rLoad E 3 h (some x0)) fun x1 =>
 EvO (pFieldAddr E 306 1 (some v4)) fun x2 =>
 EvO (rLoad E 3 h (some x2)) fun x3 =>
 EvO (some x1) fun x4 =>
 EvO (some x3) fun x5 =>
 K .ret [x4, x5] h
theorem P244_5_of {v4 : Value} (H : Q244_5 s K v4 h) : P244_5 s K v4 h :=
  step_of (by kernel_rfl) rfl (by kernel_rfl) H
theorem F244_ev {s : Bool} {v0 : Value} {h : AH} {Rp : Value → AH → Prop} (H : P244_0 s (KR E [.tmp 2, .tmp 3] Rp) v0 h) :
 Ev s (R.andThen (evC E (recI E) none (bodyOf Tryz.f244) ⟨⟨Tryz.f244.ntmps, initT [v0] 0 .e⟩, h, []⟩) (endCall E Tryz.f244)) fun x => Rp x.1 x.2 :=
  call_ev (C := C244 s) rfl rfl ⟨rfl, rfl, by kernel_rfl, rfl⟩ (by kernel_rfl) (by kernel_rfl) ((by kernel_rfl : contK (C244 s) (KR E Tryz.f244.results.toList Rp) 30 (rs B244 60 (.at [])) (tmOf (zipL 0 [v0])) h = (P244_0 s (KR E [.tmp 2, .tmp 3] Rp) v0 h)).mpr H)
theorem F244_get : E.tab.fn.get 244 = some Tryz.f244 := by kernel_rfl
theorem F244_body : Tryz.f244.body = some B244 := by kernel_rfl
theorem F244_sum (l : List Value) (h : AH) : E.sum 244 l h = none := by kernel_rfl
theorem F244_flat1 {v0 : Value} {h : AH} {v : Value} (hok : h.ok) (hv : isFlat v = true) (H : P244_0 true (KR E [.tmp 2, .tmp 3] (fun x k => x = v ∧ h.next ≤ k.wm)) v0 h.fresh) : (recI E).call 244 [v0] h = some [(v, h)] :=
  call_flat1 hok F244_get F244_body (F244_sum _ _) (by kernel_rfl) hv (F244_ev (Rp := fun x k => x = v ∧ h.next ≤ k.wm) H)
noncomputable def B245 : Code := bodyOf Tryz.f245
noncomputable def C245 (s : Bool) : Cx := ⟨E, s, none, B245, [([0], [0, 1]), ([1, 0], [1, 2])], [3], []⟩
def P245_0 (s : Bool) (K : KF) (v0 v1 : Value) (h : AH) : Prop := SP (C245 s ) K [0] [(0, v0), (1, v1)] h
def P245_1 (s : Bool) (K : KF) (v1 v2 : Value) (h : AH) : Prop := SP (C245 s ) K [1, 0] [(1, v1), (2, v2)] h
def Q245_0 (s : Bool) (K : KF) (v0 v1 : Value) (h : AH) : Prop :=
 Ev s (wNewRow 173 h (some v0)) fun x0 =>
 EvO (α := Value) (some (.bool false)) fun x1 =>
 P245_1 s K v1 x0.1 x0.2
theorem P245_0_of {v0 v1 : Value} (H : Q245_0 s K v0 v1 h) : P245_0 s K v0 v1 h :=
  step_of (by kernel_rfl) rfl (by kernel_rfl) H
def Q245_1 (s : Bool) (K : KF) (v1 v2 : Value) (h : AH) : Prop :=
 EvO (pFieldAddr E 173 0 (some v2)) fun x0 =>
 EvO (rLoad E 3 h (some x0)) fun x1 =>
 EvO (binFast E .eql 3 x1 (.int .i64 2)) fun x2 =>
 EvO (some x2) fun x3 =>
 EvO (gdB x3 true (pFieldAddr E 173 1 (some v2))) fun x4 =>
 EvO (gdB x3 true (rLoad E 3 h (some x4))) fun x5 =>
 EvO (gdB x3 true (binFast E .geq 3 x5 (.int .i64 0))) fun x6 =>
 EvO (pickV (some x3) (some x6) (some (.bool false))) fun x7 =>
 EvO (some x7) fun x8 =>
 EvO (gdB x8 true (pFieldAddr E 173 1 (some v2))) fun x9 =>
 EvO (gdB x8 true (rLoad E 3 h (some x9))) fun x10 =>
 EvO (gdB x8 true (binFast E .lss 3 x10 (.int .i64 256))) fun x11 =>
 EvO (pickV (some x8) (some x11) (some (.bool false))) fun x12 =>
 EvO (some x12) fun x13 =>
 EvO (gdB x13 true (pFieldAddr E 173 2 (some v2))) fun x14 =>
 EvO (gdB x13 true (rLoad E 34 h (some x14))) fun x15 =>
 EvO (gdB x13 true (evRead E (tmOf [(19, x15)]) (opAt B245 [1, 0] 16) h)) fun x16 =>
 EvO (gdB x13 true (binFast E .leq 3 x16 (.int .i64 8))) fun x17 =>
 EvO (pickV (some x13) (some x17) (some (.bool false))) fun x18 =>
 EvO (some x18) fun x19 =>
 EvO (gdB x19 true (pFieldAddr E 173 2 (some v2))) fun x20 =>
 EvO (gdB x19 true (rLoad E 34 h (some x20))) fun x21 =>
 EvO (gdB x19 true (pMakeFunc (.func 246) (some []) (some [v1]))) fun x22 =>
 Ev s (gdW x19 true (wCallV (recI E) (some (.func (.func 215) #[] #[])) (some [x21, x22]) h) h) fun x23 =>
 EvO (gdB x19 true (unFast .not x23.1)) fun x24 =>
 EvO (pickV (some x19) (some x24) (some (.bool false))) fun x25 =>
 EvO (some x25) fun x26 =>
 K .ret [x26] x23.2
theorem P245_1_of {v1 v2 : Value} (H : Q245_1 s K v1 v2 h) : P245_1 s K v1 v2 h :=
  step_of (by kernel_rfl) rfl (by kernel_rfl) H
theorem len245_1_16 : evRead E (tmOf [(19, .slice a n c)]) (opAt B245 [1, 0] 16) h = some (.int .i64 (n : Int)) := by cases a <;> kernel_rfl
theorem F245_ev {s : Bool} {v0 v1 : Value} {h : AH} {Rp : Value → AH → Prop} (H : P245_0 s (KR E [.tmp 3] Rp) v0 v1 h) :
 Ev s (R.andThen (evC E (recI E) none (bodyOf Tryz.f245) ⟨⟨Tryz.f245.ntmps, initT [v0, v1] 0 .e⟩, h, []⟩) (endCall E Tryz.f245)) fun x => Rp x.1 x.2 :=
  call_ev (C := C245 s) rfl rfl ⟨rfl, rfl, by kernel_rfl, rfl⟩ (by kernel_rfl) (by kernel_rfl) ((by kernel_rfl : contK (C245 s) (KR E Tryz.f245.results.toList Rp) 30 (rs B245 60 (.at [])) (tmOf (zipL 0 [v0, v1])) h = (P245_0 s (KR E [.tmp 3] Rp) v0 v1 h)).mpr H)
theorem F245_get : E.tab.fn.get 245 = some Tryz.f245 := by kernel_rfl
theorem F245_body : Tryz.f245.body = some B245 := by kernel_rfl
theorem F245_sum (l : List Value) (h : AH) : E.sum 245 l h = none := by kernel_rfl
theorem F245_flat {s : Bool} {v0 v1 : Value} {h : AH} {v : Value} (hok : h.ok) (hv : isScalar v = true) (H : P245_0 s (KR E [.tmp 3] (fun x k => x = v ∧ h.next ≤ k.wm)) v0 v1 h.fresh) : (recI E).call 245 [v0, v1] h = some [(v, h)] :=
  call_flat (s := s) hok F245_get F245_body (F245_sum _ _) (by kernel_rfl) hv (F245_ev (Rp := fun x k => x = v ∧ h.next ≤ k.wm) H)
noncomputable def B246 : Code := bodyOf Tryz.f246
noncomputable def C246 (s : Bool) : Cx := ⟨E, s, none, B246, [([0], [0, 1]), ([1, 0], [1, 2])], [3], []⟩
def P246_0 (s : Bool) (K : KF) (v0 v1 : Value) (h : AH) : Prop := SP (C246 s ) K [0] [(0, v0), (1, v1)] h
def P246_1 (s : Bool) (K : KF) (v1 v2 : Value) (h : AH) : Prop := SP (C246 s ) K [1, 0] [(1, v1), (2, v2)] h
def Q246_0 (s : Bool) (K : KF) (v0 v1 : Value) (h : AH) : Prop :=
 Ev s (wNewRow 173 h (some v0)) fun x0 =>
 EvO (α := Value) (some (.bool false)) fun x1 =>
 P246_1 s K v1 x0.1 x0.2
theorem P246_0_of {v0 v1 : Value} (H : Q246_0 s K v0 v1 h) : P246_0 s K v0 v1 h :=
  step_of (by kernel_rfl) rfl (by kernel_rfl) H
def Q246_1 (s : Bool) (K : KF) (v1 v2 : Value) (h : AH) : Prop :=
 EvO (rLoad E 247 h (some v1)) fun x0 =>
 EvO (rLoad E 173 h (some v2)) fun x1 =>
 Ev s (wCallV (recI E) (some x0) (some [x1]) h) fun x2 =>
 EvO (unFast .not x2.1) fun x3 =>
 EvO (some x3) fun x4 =>
 K .ret [x4] x2.2
theorem P246_1_of {v1 v2 : Value} (H : Q246_1 s K v1 v2 h) : P246_1 s K v1 v2 h :=
  step_of (by kernel_rfl) rfl (by kernel_rfl) H
theorem F246_ev {s : Bool} {v0 v1 : Value} {h : AH} {Rp : Value → AH → Prop} (H : P246_0 s (KR E [.tmp 3] Rp) v0 v1 h) :
 Ev s (R.andThen (evC E (recI E) none (bodyOf Tryz.f246) ⟨⟨Tryz.f246.ntmps, initT [v0, v1] 0 .e⟩, h, []⟩) (endCall E Tryz.f246)) fun x => Rp x.1 x.2 :=
  call_ev (C := C246 s) rfl rfl ⟨rfl, rfl, by kernel_rfl, rfl⟩ (by kernel_rfl) (by kernel_rfl) ((by kernel_rfl : contK (C246 s) (KR E Tryz.f246.results.toList Rp) 30 (rs B246 60 (.at [])) (tmOf (zipL 0 [v0, v1])) h = (P246_0 s (KR E [.tmp 3] Rp) v0 v1 h)).mpr H)
theorem F246_get : E.tab.fn.get 246 = some Tryz.f246 := by kernel_rfl
theorem F246_body : Tryz.f246.body = some B246 := by kernel_rfl
theorem F246_sum (l : List Value) (h : AH) : E.sum 246 l h = none := by kernel_rfl
theorem F246_flat {s : Bool} {v0 v1 : Value} {h : AH} {v : Value} (hok : h.ok) (hv : isScalar v = true) (H : P246_0 s (KR E [.tmp 3] (fun x k => x = v ∧ h.next ≤ k.wm)) v0 v1 h.fresh) : (recI E).call 246 [v0, v1] h = some [(v, h)] :=
  call_flat (s := s) hok F246_get F246_body (F246_sum _ _) (by kernel_rfl) hv (F246_ev (Rp := fun x k => x = v ∧ h.next ≤ k.wm) H)
noncomputable def B247 : Code := bodyOf Tryz.f247
noncomputable def C247 (s : Bool) : Cx := ⟨E, s, none, B247, [([0], [0, 1, 2]), ([1, 0, 0], [0, 1, 2]), ([1, 0, 1, 0, 0, 0], [0, 1, 2, 11, 12, 13]), ([1, 0, 1, 0, 0, 1, 1, 0, 0, 0], [0, 1, 2, 11, 12, 13]), ([1, 0, 1, 0, 0, 1, 1, 0, 0, 1, 0, 0], [0, 1, 2, 7, 8, 11, 12, 13]), ([1, 0, 1, 0, 0, 1, 1, 0, 0, 1, 0, 1, 0, 0], []), ([1, 0, 1, 0, 0, 1, 1, 0, 0, 1, 1, 0], [0, 1, 2, 7, 8, 11, 12, 13]), ([1, 0, 1, 0, 0, 1, 1, 0, 0, 1, 1, 1, 0], [0, 1, 2, 8, 9, 11, 12, 13]), ([1, 0, 1, 0, 0, 1, 1, 0, 0, 1, 1, 1, 1, 0], [0, 1, 2, 10, 11, 12, 13]), ([1, 0, 1, 0, 0, 1, 1, 0, 0, 1, 1, 1, 1, 1, 0, 0], [10]), ([1, 0, 1, 0, 0, 1, 1, 1], [0, 1, 2, 11, 12, 13]), ([1, 1, 0, 0], [0, 1]), ([1, 1, 0, 1, 0, 0], []), ([1, 1, 1, 0], [])], [6], []⟩
def P247_0 (s : Bool) (K : KF) (v0 v1 v2 : Value) (h : AH) : Prop := SP (C247 s ) K [0] [(0, v0), (1, v1), (2, v2)] h
def P247_1 (s : Bool) (K : KF) (v0 v1 v2 : Value) (h : AH) : Prop := SP (C247 s ) K [1, 0, 0] [(0, v0), (1, v1), (2, v2)] h
def P247_2 (s : Bool) (K : KF) (v0 v1 v2 v11 v12 v13 : Value) (h : AH) : Prop := SP (C247 s ) K [1, 0, 1, 0, 0, 0] [(0, v0), (1, v1), (2, v2), (11, v11), (12, v12), (13, v13)] h
def P247_3 (s : Bool) (K : KF) (v0 v1 v2 v11 v12 v13 : Value) (h : AH) : Prop := SP (C247 s ) K [1, 0, 1, 0, 0, 1, 1, 0, 0, 0] [(0, v0), (1, v1), (2, v2), (11, v11), (12, v12), (13, v13)] h
def P247_4 (s : Bool) (K : KF) (v0 v1 v2 v7 v8 v11 v12 v13 : Value) (h : AH) : Prop := SP (C247 s ) K [1, 0, 1, 0, 0, 1, 1, 0, 0, 1, 0, 0] [(0, v0), (1, v1), (2, v2), (7, v7), (8, v8), (11, v11), (12, v12), (13, v13)] h
def P247_5 (s : Bool) (K : KF) (h : AH) : Prop := SP (C247 s ) K [1, 0, 1, 0, 0, 1, 1, 0, 0, 1, 0, 1, 0, 0] [] h
def P247_6 (s : Bool) (K : KF) (v0 v1 v2 v7 v8 v11 v12 v13 : Value) (h : AH) : Prop := SP (C247 s ) K [1, 0, 1, 0, 0, 1, 1, 0, 0, 1, 1, 0] [(0, v0), (1, v1), (2, v2), (7, v7), (8, v8), (11, v11), (12, v12), (13, v13)] h
def P247_7 (s : Bool) (K : KF) (v0 v1 v2 v8 v9 v11 v12 v13 : Value) (h : AH) : Prop := SP (C247 s ) K [1, 0, 1, 0, 0, 1, 1, 0, 0, 1, 1, 1, 0] [(0, v0), (1, v1), (2, v2), (8, v8), (9, v9), (11, v11), (12, v12), (13, v13)] h
def P247_8 (s : Bool) (K : KF) (v0 v1 v2 v10 v11 v12 v13 : Value) (h : AH) : Prop := SP (C247 s ) K [1, 0, 1, 0, 0, 1, 1, 0, 0, 1, 1, 1, 1, 0] [(0, v0), (1, v1), (2, v2), (10, v10), (11, v11), (12, v12), (13, v13)] h
def P247_9 (s : Bool) (K : KF) (v10 : Value) (h : AH) : Prop := SP (C247 s ) K [1, 0, 1, 0, 0, 1, 1, 0, 0, 1, 1, 1, 1, 1, 0, 0] [(10, v10)] h
def P247_10 (s : Bool) (K : KF) (v0 v1 v2 v11 v12 v13 : Value) (h : AH) : Prop := SP (C247 s ) K [1, 0, 1, 0, 0, 1, 1, 1] [(0, v0), (1, v1), (2, v2), (11, v11), (12, v12), (13, v13)] h
def P247_11 (s : Bool) (K : KF) (v0 v1 : Value) (h : AH) : Prop := SP (C247 s ) K [1, 1, 0, 0] [(0, v0), (1, v1)] h
def P247_12 (s : Bool) (K : KF) (h : AH) : Prop := SP (C247 s ) K [1, 1, 0, 1, 0, 0] [] h
def P247_13 (s : Bool) (K : KF) (h : AH) : Prop := SP (C247 s ) K [1, 1, 1, 0] [] h
def Q247_0 (s : Bool) (K : KF) (v0 v1 v2 : Value) (h : AH) : Prop :=
 EvO (α := Value) (some (.int .i64 0)) fun x0 =>
 P247_1 s K v0 v1 v2 h
theorem P247_0_of {v0 v1 v2 : Value} (H : Q247_0 s K v0 v1 v2 h) : P247_0 s K v0 v1 v2 h :=
  step_of (by kernel_rfl) rfl (by kernel_rfl) H
def Q247_1 (s : Bool) (K : KF) (v0 v1 v2 : Value) (h : AH) : Prop :=
 EvO (some v0) fun x0 =>
 EvO (evRead E (tmOf [(11, x0)]) (opAt B247 [1, 0, 0] 1) h) fun x1 =>
 EvO (α := Value) (some (.int .i64 0)) fun x2 =>
 P247_2 s K v0 v1 v2 x0 x1 x2 h
theorem P247_1_of {v0 v1 v2 : Value} (H : Q247_1 s K v0 v1 v2 h) : P247_1 s K v0 v1 v2 h :=
  step_of (by kernel_rfl) rfl (by kernel_rfl) H
theorem len247_1_1 : evRead E (tmOf [(11, .slice a n c)]) (opAt B247 [1, 0, 0] 1) h = some (.int .i64 (n : Int)) := by cases a <;> kernel_rfl
def Q247_2 (s : Bool) (K : KF) (v0 v1 v2 v11 v12 v13 : Value) (h : AH) : Prop :=
 EvO (binFast E .lss 3 v13 v12) fun x0 =>
 BrK (some x0) (P247_3 s K v0 v1 v2 v11 v12 v13 h) (P247_11 s K v0 v1 h)
theorem P247_2_of {v0 v1 v2 v11 v12 v13 : Value} (H : Q247_2 s K v0 v1 v2 v11 v12 v13 h) : P247_2 s K v0 v1 v2 v11 v12 v13 h :=
  step_of (by kernel_rfl) rfl (by kernel_rfl) H
def Q247_3 (s : Bool) (K : KF) (v0 v1 v2 v11 v12 v13 : Value) (h : AH) : Prop :=
 EvO (some v13) fun x0 =>
 EvO (pIndexAddr E 34 (some v11) (some v13)) fun x1 =>
 EvO (rLoad E 173 h (some x1)) fun x2 =>
 Ev s (wNewRow 173 h (zeroV E 173)) fun x3 =>
 EvO (some x0) fun x4 =>
 Ev s (wStore E 173 x3.2 (some x3.1) (some x2)) fun x5 =>
 P247_4 s K v0 v1 v2 x4 x3.1 v11 v12 v13 x5.2
theorem P247_3_of {v0 v1 v2 v11 v12 v13 : Value} (H : Q247_3 s K v0 v1 v2 v11 v12 v13 h) : P247_3 s K v0 v1 v2 v11 v12 v13 h :=
  step_of (by kernel_rfl) rfl (by kernel_rfl) H
def Q247_4 (s : Bool) (K : KF) (v0 v1 v2 v7 v8 v11 v12 v13 : Value) (h : AH) : Prop :=
 EvO (some v7) fun x0 =>
 EvO (some v1) fun x1 =>
 EvO (evRead E (tmOf [(19, x1)]) (opAt B247 [1, 0, 1, 0, 0, 1, 1, 0, 0, 1, 0, 0] 2) h) fun x2 =>
 EvO (binFast E .geq 3 x0 x2) fun x3 =>
 BrK (some x3) (P247_5 s K  h) (P247_6 s K v0 v1 v2 v7 v8 v11 v12 v13 h)
theorem P247_4_of {v0 v1 v2 v7 v8 v11 v12 v13 : Value} (H : Q247_4 s K v0 v1 v2 v7 v8 v11 v12 v13 h) : P247_4 s K v0 v1 v2 v7 v8 v11 v12 v13 h :=
  step_of (by kernel_rfl) rfl (by kernel_rfl) H
theorem len247_4_2 : evRead E (tmOf [(19, .slice a n c)]) (opAt B247 [1, 0, 1, 0, 0, 1, 1, 0, 0, 1, 0, 0] 2) h = some (.int .i64 (n : Int)) := by cases a <;> kernel_rfl
def Q247_5 (s : Bool) (K : KF) (h : AH) : Prop :=
 EvO (α := Value) (some (.int .i64 1)) fun x0 =>
 K .ret [x0] h
theorem P247_5_of (H : Q247_5 s K h) : P247_5 s K h :=
  step_of (by kernel_rfl) rfl (by kernel_rfl) H
def Q247_6 (s : Bool) (K : KF) (v0 v1 v2 v7 v8 v11 v12 v13 : Value) (h : AH) : Prop :=
 EvO (some v1) fun x0 =>
 EvO (some v7) fun x1 =>
 EvO (pIndexAddr E 34 (some x0) (some x1)) fun x2 =>
 EvO (rLoad E 173 h (some x2)) fun x3 =>
 Ev s (wNewRow 173 h (zeroV E 173)) fun x4 =>
 Ev s (wStore E 173 x4.2 (some x4.1) (some x3)) fun x5 =>
 P247_7 s K v0 v1 v2 v8 x4.1 v11 v12 v13 x5.2
theorem P247_6_of {v0 v1 v2 v7 v8 v11 v12 v13 : Value} (H : Q247_6 s K v0 v1 v2 v7 v8 v11 v12 v13 h) : P247_6 s K v0 v1 v2 v7 v8 v11 v12 v13 h :=
  step_of (by kernel_rfl) rfl (by kernel_rfl) H
def Q247_7 (s : Bool) (K : KF) (v0 v1 v2 v8 v9 v11 v12 v13 : Value) (h : AH) : Prop :=
 EvO (some v2) fun x0 =>
 EvO (rLoad E 173 h (some v8)) fun x1 =>
 EvO (rLoad E 173 h (some v9)) fun x2 =>
 Ev s (wCallV (recI E) (some x0) (some [x1, x2]) h) fun x3 =>
 EvO (some x3.1) fun x4 =>
 P247_8 s K v0 v1 v2 x4 v11 v12 v13 x3.2
theorem P247_7_of {v0 v1 v2 v8 v9 v11 v12 v13 : Value} (H : Q247_7 s K v0 v1 v2 v8 v9 v11 v12 v13 h) : P247_7 s K v0 v1 v2 v8 v9 v11 v12 v13 h :=
  step_of (by kernel_rfl) rfl (by kernel_rfl) H
def Q247_8 (s : Bool) (K : KF) (v0 v1 v2 v10 v11 v12 v13 : Value) (h : AH) : Prop :=
 EvO (some v10) fun x0 =>
 EvO (binFast E .neq 3 x0 (.int .i64 0)) fun x1 =>
 BrK (some x1) (P247_9 s K v10 h) (P247_10 s K v0 v1 v2 v11 v12 v13 h)
theorem P247_8_of {v0 v1 v2 v10 v11 v12 v13 : Value} (H : Q247_8 s K v0 v1 v2 v10 v11 v12 v13 h) : P247_8 s K v0 v1 v2 v10 v11 v12 v13 h :=
  step_of (by kernel_rfl) rfl (by kernel_rfl) H
def Q247_9 (s : Bool) (K : KF) (v10 : Value) (h : AH) : Prop :=
 EvO (some v10) fun x0 =>
 EvO (some x0) fun x1 =>
 K .ret [x1] h
theorem P247_9_of {v10 : Value} (H : Q247_9 s K v10 h) : P247_9 s K v10 h :=
  step_of (by kernel_rfl) rfl (by kernel_rfl) H
def Q247_10 (s : Bool) (K : KF) (v0 v1 v2 v11 v12 v13 : Value) (h : AH) : Prop :=
 EvO (binFast E .add 3 v13 (.int .i64 1)) fun x0 =>
 EvO (some x0) fun x1 =>
 P247_2 s K v0 v1 v2 v11 v12 x1 h
theorem P247_10_of {v0 v1 v2 v11 v12 v13 : Value} (H : Q247_10 s K v0 v1 v2 v11 v12 v13 h) : P247_10 s K v0 v1 v2 v11 v12 v13 h :=
  step_of (by kernel_rfl) rfl (by kernel_rfl) H
def Q247_11 (s : Bool) (K : KF) (v0 v1 : Value) (h : AH) : Prop :=
 EvO (some v0) fun x0 =>
 EvO (evRead E (tmOf [(34, x0)]) (opAt B247 [1, 1, 0, 0] 1) h) fun x1 =>
 EvO (some v1) fun x2 =>
 EvO (evRead E (tmOf [(36, x2)]) (opAt B247 [1, 1, 0, 0] 3) h) fun x3 =>
 EvO (binFast E .lss 3 x1 x3) fun x4 =>
 BrK (some x4) (P247_12 s K  h) (P247_13 s K  h)
theorem P247_11_of {v0 v1 : Value} (H : Q247_11 s K v0 v1 h) : P247_11 s K v0 v1 h :=
  step_of (by kernel_rfl) rfl (by kernel_rfl) H
theorem len247_11_1 : evRead E (tmOf [(34, .slice a n c)]) (opAt B247 [1, 1, 0, 0] 1) h = some (.int .i64 (n : Int)) := by cases a <;> kernel_rfl
theorem len247_11_3 : evRead E (tmOf [(36, .slice a n c)]) (opAt B247 [1, 1, 0, 0] 3) h = some (.int .i64 (n : Int)) := by cases a <;> kernel_rfl
def Q247_12 (s : Bool) (K : KF) (h : AH) : Prop :=
 EvO (α := Value) (some (.int .i64 (-1))) fun x0 =>
 K .ret [x0] h
theorem P247_12_of (H : Q247_12 s K h) : P247_12 s K h :=
  step_of (by kernel_rfl) rfl (by kernel_rfl) H
def Q247_13 (s : Bool) (K : KF) (h : AH) : Prop :=
 EvO (α := Value) (some (.int .i64 0)) fun x0 =>
 K .ret [x0] h
theorem P247_13_of (H : Q247_13 s K h) : P247_13 s K h :=
  step_of (by kernel_rfl) rfl (by kernel_rfl) H
theorem F247_ev {s : Bool} {v0 v1 v2 : Value} {h : AH} {Rp : Value → AH → Prop} (H : P247_0 s (KR E [.tmp 6] Rp) v0 v1 v2 h) :
 Ev s (R.andThen (evC E (recI E) none (bodyOf Tryz.f247) ⟨⟨Tryz.f247.ntmps, initT [v0, v1, v2] 0 .e⟩, h, []⟩) (endCall E Tryz.f247)) fun x => Rp x.1 x.2 :=
  call_ev (C := C247 s) rfl rfl ⟨rfl, rfl, by kernel_rfl, rfl⟩ (by kernel_rfl) (by kernel_rfl) ((by kernel_rfl : contK (C247 s) (KR E Tryz.f247.results.toList Rp) 30 (rs B247 60 (.at [])) (tmOf (zipL 0 [v0, v1, v2])) h = (P247_0 s (KR E [.tmp 6] Rp) v0 v1 v2 h)).mpr H)
theorem F247_get : E.tab.fn.get 247 = some Tryz.f247 := by kernel_rfl
theorem F247_body : Tryz.f247.body = some B247 := by kernel_rfl
theorem F247_sum (l : List Value) (h : AH) : E.sum 247 l h = none := by kernel_rfl
theorem F247_flat {s : Bool} {v0 v1 v2 : Value} {h : AH} {v : Value} (hok : h.ok) (hv : isScalar v = true) (H : P247_0 s (KR E [.tmp 6] (fun x k => x = v ∧ h.next ≤ k.wm)) v0 v1 v2 h.fresh) : (recI E).call 247 [v0, v1, v2] h = some [(v, h)] :=
  call_flat (s := s) hok F247_get F247_body (F247_sum _ _) (by kernel_rfl) hv (F247_ev (Rp := fun x k => x = v ∧ h.next ≤ k.wm) H)
noncomputable def B268 : Code := bodyOf Tryz.f268
noncomputable def C268 (s : Bool) : Cx := ⟨E, s, none, B268, [([0], [0, 1, 2]), ([1, 0], [0, 2, 4]), ([1, 1, 0], [0, 2, 4]), ([1, 1, 1, 0], [0, 2, 4]), ([1, 1, 1, 1, 0, 0, 0], [0, 2, 25, 26, 27]), ([1, 1, 1, 1, 0, 0, 1, 1, 0, 0, 0], [0, 2, 25, 26, 27]), ([1, 1, 1, 1, 0, 0, 1, 1, 0, 0, 1, 0, 0], [0, 2, 7, 25, 26, 27]), ([1, 1, 1, 1, 0, 0, 1, 1, 0, 0, 1, 1], [0, 2, 7, 25, 26, 27]), ([1, 1, 1, 1, 0, 0, 1, 1, 1], [0, 2, 25, 26, 27])], [], []⟩
def P268_0 (s : Bool) (K : KF) (v0 v1 v2 : Value) (h : AH) : Prop := SP (C268 s ) K [0] [(0, v0), (1, v1), (2, v2)] h
def P268_1 (s : Bool) (K : KF) (v0 v2 v4 : Value) (h : AH) : Prop := SP (C268 s ) K [1, 0] [(0, v0), (2, v2), (4, v4)] h
def P268_2 (s : Bool) (K : KF) (v0 v2 v4 : Value) (h : AH) : Prop := SP (C268 s ) K [1, 1, 0] [(0, v0), (2, v2), (4, v4)] h
def P268_3 (s : Bool) (K : KF) (v0 v2 v4 : Value) (h : AH) : Prop := SP (C268 s ) K [1, 1, 1, 0] [(0, v0), (2, v2), (4, v4)] h
def P268_4 (s : Bool) (K : KF) (v0 v2 v25 v26 v27 : Value) (h : AH) : Prop := SP (C268 s ) K [1, 1, 1, 1, 0, 0, 0] [(0, v0), (2, v2), (25, v25), (26, v26), (27, v27)] h
def P268_5 (s : Bool) (K : KF) (v0 v2 v25 v26 v27 : Value) (h : AH) : Prop := SP (C268 s ) K [1, 1, 1, 1, 0, 0, 1, 1, 0, 0, 0] [(0, v0), (2, v2), (25, v25), (26, v26), (27, v27)] h
def P268_6 (s : Bool) (K : KF) (v0 v2 v7 v25 v26 v27 : Value) (h : AH) : Prop := SP (C268 s ) K [1, 1, 1, 1, 0, 0, 1, 1, 0, 0, 1, 0, 0] [(0, v0), (2, v2), (7, v7), (25, v25), (26, v26), (27, v27)] h
def P268_7 (s : Bool) (K : KF) (v0 v2 v7 v25 v26 v27 : Value) (h : AH) : Prop := SP (C268 s ) K [1, 1, 1, 1, 0, 0, 1, 1, 0, 0, 1, 1] [(0, v0), (2, v2), (7, v7), (25, v25), (26, v26), (27, v27)] h
def P268_8 (s : Bool) (K : KF) (v0 v2 v25 v26 v27 : Value) (h : AH) : Prop := SP (C268 s ) K [1, 1, 1, 1, 0, 0, 1, 1, 1] [(0, v0), (2, v2), (25, v25), (26, v26), (27, v27)] h
def Q268_0 (s : Bool) (K : KF) (v0 v1 v2 : Value) (h : AH) : Prop :=
 Ev s (wNewRow 173 h (some v1)) fun x0 =>
 P268_1 s K v0 v2 x0.1 x0.2
theorem P268_0_of {v0 v1 v2 : Value} (H : Q268_0 s K v0 v1 v2 h) : P268_0 s K v0 v1 v2 h :=
  step_of (by kernel_rfl) rfl (by kernel_rfl) H
def Q268_1 (s : Bool) (K : KF) (v0 v2 v4 : Value) (h : AH) : Prop :=
 EvO (some v0) fun x0 =>
 EvO (pNilCheck (some x0)) fun x1 =>
 EvO (pFieldAddr E 306 0 (some x1)) fun x2 =>
 EvO (rLoad E 3 h (some x2)) fun x3 =>
 EvO (binFast E .add 3 x3 (.int .i64 1)) fun x4 =>
 EvO (pNilCheck (some x0)) fun x5 =>
 EvO (pFieldAddr E 306 0 (some x5)) fun x6 =>
 Ev s (wStore E 3 h (some x6) (some x4)) fun x7 =>
 P268_2 s K v0 v2 v4 x7.2
theorem P268_1_of {v0 v2 v4 : Value} (H : Q268_1 s K v0 v2 v4 h) : P268_1 s K v0 v2 v4 h :=
  step_of (by kernel_rfl) rfl (by kernel_rfl) H
def Q268_2 (s : Bool) (K : KF) (v0 v2 v4 : Value) (h : AH) : Prop :=
 EvO (some v0) fun x0 =>
 EvO (some v0) fun x1 =>
 EvO (pNilCheck (some x1)) fun x2 =>
 EvO (pFieldAddr E 306 1 (some x2)) fun x3 =>
 EvO (rLoad E 3 h (some x3)) fun x4 =>
 EvO (some v2) fun x5 =>
 EvO (evRead E (tmOf [(19, x4), (20, x5)]) (opAt B268 [1, 1, 0] 6) h) fun x6 =>
 EvO (pNilCheck (some x0)) fun x7 =>
 EvO (pFieldAddr E 306 1 (some x7)) fun x8 =>
 Ev s (wStore E 3 h (some x8) (some x6)) fun x9 =>
 P268_3 s K v0 v2 v4 x9.2
theorem P268_2_of {v0 v2 v4 : Value} (H : Q268_2 s K v0 v2 v4 h) : P268_2 s K v0 v2 v4 h :=
  step_of (by kernel_rfl) rfl (by kernel_rfl) H
def Q268_3 (s : Bool) (K : KF) (v0 v2 v4 : Value) (h : AH) : Prop :=
 EvO (pFieldAddr E 173 2 (some v4)) fun x0 =>
 EvO (rLoad E 34 h (some x0)) fun x1 =>
 EvO (evRead E (tmOf [(25, x1)]) (opAt B268 [1, 1, 1, 0] 2) h) fun x2 =>
 EvO (α := Value) (some (.int .i64 0)) fun x3 =>
 P268_4 s K v0 v2 x1 x2 x3 h
theorem P268_3_of {v0 v2 v4 : Value} (H : Q268_3 s K v0 v2 v4 h) : P268_3 s K v0 v2 v4 h :=
  step_of (by kernel_rfl) rfl (by kernel_rfl) H
theorem len268_3_2 : evRead E (tmOf [(25, .slice a n c)]) (opAt B268 [1, 1, 1, 0] 2) h = some (.int .i64 (n : Int)) := by cases a <;> kernel_rfl
def Q268_4 (s : Bool) (K : KF) (v0 v2 v25 v26 v27 : Value) (h : AH) : Prop :=
 EvO (binFast E .lss 3 v27 v26) fun x0 =>
 BrK (some x0) (P268_5 s K v0 v2 v25 v26 v27 h) (K .normal [] h)
theorem P268_4_of {v0 v2 v25 v26 v27 : Value} (H : Q268_4 s K v0 v2 v25 v26 v27 h) : P268_4 s K v0 v2 v25 v26 v27 h :=
  step_of (by kernel_rfl) rfl (by kernel_rfl) H
def Q268_5 (s : Bool) (K : KF) (v0 v2 v25 v26 v27 : Value) (h : AH) : Prop :=
 EvO (pIndexAddr E 34 (some v25) (some v27)) fun x0 =>
 EvO (rLoad E 173 h (some x0)) fun x1 =>
 Ev s (wNewRow 173 h (zeroV E 173)) fun x2 =>
 Ev s (wStore E 173 x2.2 (some x2.1) (some x1)) fun x3 =>
 P268_6 s K v0 v2 x2.1 v25 v26 v27 x3.2
theorem P268_5_of {v0 v2 v25 v26 v27 : Value} (H : Q268_5 s K v0 v2 v25 v26 v27 h) : P268_5 s K v0 v2 v25 v26 v27 h :=
  step_of (by kernel_rfl) rfl (by kernel_rfl) H
def Q268_6 (s : Bool) (K : KF) (v0 v2 v7 v25 v26 v27 : Value) (h : AH) : Prop :=
 EvO (some v0) fun x0 =>
 EvO (pNilCheck (some x0)) fun x1 =>
 EvO (pFieldAddr E 306 0 (some x1)) fun x2 =>
 EvO (rLoad E 3 h (some x2)) fun x3 =>
 EvO (binFast E .gtr 3 x3 (.int .i64 2000)) fun x4 =>
 EvO (some x4) fun x5 =>
 EvO (gdB x5 false (some v0)) fun x6 =>
 EvO (gdB x5 false (pNilCheck (some x6))) fun x7 =>
 EvO (gdB x5 false (pFieldAddr E 306 1 (some x7))) fun x8 =>
 EvO (gdB x5 false (rLoad E 3 h (some x8))) fun x9 =>
 EvO (gdB x5 false (binFast E .gtr 3 x9 (.int .i64 200))) fun x10 =>
 EvO (pickV (some x5) (some (.bool true)) (some x10)) fun x11 =>
 BrK (some x11) (K .ret [] h) (P268_7 s K v0 v2 v7 v25 v26 v27 h)
theorem P268_6_of {v0 v2 v7 v25 v26 v27 : Value} (H : Q268_6 s K v0 v2 v7 v25 v26 v27 h) : P268_6 s K v0 v2 v7 v25 v26 v27 h :=
  step_of (by kernel_rfl) rfl (by kernel_rfl) H
def Q268_7 (s : Bool) (K : KF) (v0 v2 v7 v25 v26 v27 : Value) (h : AH) : Prop :=
 EvO (some v0) fun x0 =>
 EvO (rLoad E 173 h (some v7)) fun x1 =>
 EvO (some v2) fun x2 =>
 EvO (binFast E .add 3 x2 (.int .i64 1)) fun x3 =>
 Ev s (wCallV (recI E) (some (.func (.func 268) #[] #[])) (some [x0, x1, x3]) h) fun x4 =>
 P268_8 s K v0 v2 v25 v26 v27 x4.2
theorem P268_7_of {v0 v2 v7 v25 v26 v27 : Value} (H : Q268_7 s K v0 v2 v7 v25 v26 v27 h) : P268_7 s K v0 v2 v7 v25 v26 v27 h :=
  step_of (by kernel_rfl) rfl (by kernel_rfl) H
def Q268_8 (s : Bool) (K : KF) (v0 v2 v25 v26 v27 : Value) (h : AH) : Prop :=
 EvO (binFast E .add 3 v27 (.int .i64 1)) fun x0 =>
 EvO (some x0) fun x1 =>
 P268_4 s K v0 v2 v25 v26 x1 h
theorem P268_8_of {v0 v2 v25 v26 v27 : Value} (H : Q268_8 s K v0 v2 v25 v26 v27 h) : P268_8 s K v0 v2 v25 v26 v27 h :=
  step_of (by kernel_rfl) rfl (by kernel_rfl) H
theorem F268_ev {s : Bool} {v0 v1 v2 : Value} {h : AH} {Rp : Value → AH → Prop} (H : P268_0 s (KR E [] Rp) v0 v1 v2 h) :
 Ev s (R.andThen (evC E (recI E) none (bodyOf Tryz.f268) ⟨⟨Tryz.f268.ntmps, initT [v0, v1, v2] 0 .e⟩, h, []⟩) (endCall E Tryz.f268)) fun x => Rp x.1 x.2 :=
  call_ev (C := C268 s) rfl rfl ⟨rfl, rfl, by kernel_rfl, rfl⟩ (by kernel_rfl) (by kernel_rfl) ((by kernel_rfl : contK (C268 s) (KR E Tryz.f268.results.toList Rp) 30 (rs B268 60 (.at [])) (tmOf (zipL 0 [v0, v1, v2])) h = (P268_0 s (KR E [] Rp) v0 v1 v2 h)).mpr H)
theorem F268_get : E.tab.fn.get 268 = some Tryz.f268 := by kernel_rfl
theorem F268_body : Tryz.f268.body = some B268 := by kernel_rfl
theorem F268_sum (l : List Value) (h : AH) : E.sum 268 l h = none := by kernel_rfl
theorem F268_some {v0 v1 v2 : Value} {h : AH} {Rp : Value → AH → Prop} (H : P268_0 true (KR E [] (fun x k => (isFlat x = false ∨ k.wm < h.next) ∧ Rp x ⟨k.t, k.next, cond (Nat.ble h.wm k.wm) h.wm k.wm⟩)) v0 v1 v2 h.fresh) : Ev true ((recI E).call 268 [v0, v1, v2] h) fun x => Rp x.1 x.2 :=
  call_some F268_get F268_body (F268_sum _ _) (by kernel_rfl) (F268_ev (Rp := fun x k => (isFlat x = false ∨ k.wm < h.next) ∧ Rp x ⟨k.t, k.next, cond (Nat.ble h.wm k.wm) h.wm k.wm⟩) H)
noncomputable def B269 : Code := bodyOf Tryz.f269
noncomputable def C269 (s : Bool) : Cx := ⟨E, s, none, B269, [([0], [0]), ([1, 0], [0])], [2], []⟩
def P269_0 (s : Bool) (K : KF) (v0 : Value) (h : AH) : Prop := SP (C269 s ) K [0] [(0, v0)] h
def P269_1 (s : Bool) (K : KF) (v0 : Value) (h : AH) : Prop := SP (C269 s ) K [1, 0] [(0, v0)] h
def Q269_0 (s : Bool) (K : KF) (v0 : Value) (h : AH) : Prop :=
 EvO (α := Value) (some (.bool false)) fun x0 =>
 P269_1 s K v0 h
theorem P269_0_of {v0 : Value} (H : Q269_0 s K v0 h) : P269_0 s K v0 h :=
  step_of (by kernel_rfl) rfl (by kernel_rfl) H
def Q269_1 (s : Bool) (K : KF) (v0 : Value) (h : AH) : Prop :=
 EvO (some v0) fun x0 =>
 EvO (pNilCheck (some x0)) fun x1 =>
 EvO (pFieldAddr E 306 0 (some x1)) fun x2 =>
 EvO (rLoad E 3 h (some x2)) fun x3 =>
 EvO (binFast E .gtr 3 x3 (.int .i64 2000)) fun x4 =>
 EvO (some x4) fun x5 =>
 EvO (gdB x5 false (some v0)) fun x6 =>
 EvO (gdB x5 false (pNilCheck (some x6))) fun x7 =>
 EvO (gdB x5 false (pFieldAddr E 306 1 (some x7))) fun x8 =>
 EvO (gdB x5 false (rLoad E 3 h (some x8))) fun x9 =>
 EvO (gdB x5 false (binFast E .gtr 3 x9 (.int .i64 200))) fun x10 =>
 EvO (pickV (some x5) (some (.bool true)) (some x10)) fun x11 =>
 EvO (some x11) fun x12 =>
 K .ret [x12] h
theorem P269_1_of {v0 : Value} (H : Q269_1 s K v0 h) : P269_1 s K v0 h :=
  step_of (by kernel_rfl) rfl (by kernel_rfl) H
theorem F269_ev {s : Bool} {v0 : Value} {h : AH} {Rp : Value → AH → Prop} (H : P269_0 s (KR E [.tmp 2] Rp) v0 h) :
 Ev s (R.andThen (evC E (recI E) none (bodyOf Tryz.f269) ⟨⟨Tryz.f269.ntmps, initT [v0] 0 .e⟩, h, []⟩) (endCall E Tryz.f269)) fun x => Rp x.1 x.2 :=
  call_ev (C := C269 s) rfl rfl ⟨rfl, rfl, by kernel_rfl, rfl⟩ (by kernel_rfl) (by kernel_rfl) ((by kernel_rfl : contK (C269 s) (KR E Tryz.f269.results.toList Rp) 30 (rs B269 60 (.at [])) (tmOf (zipL 0 [v0])) h = (P269_0 s (KR E [.tmp 2] Rp) v0 h)).mpr H)
theorem F269_get : E.tab.fn.get 269 = some Tryz.f269 := by kernel_rfl
theorem F269_body : Tryz.f269.body = some B269 := by kernel_rfl
theorem F269_sum (l : List Value) (h : AH) : E.sum 269 l h = none := by kernel_rfl
theorem F269_flat {s : Bool} {v0 : Value} {h : AH} {v : Value} (hok : h.ok) (hv : isScalar v = true) (H : P269_0 s (KR E [.tmp 2] (fun x k => x = v ∧ h.next ≤ k.wm)) v0 h.fresh) : (recI E).call 269 [v0] h = some [(v, h)] :=
  call_flat (s := s) hok F269_get F269_body (F269_sum _ _) (by kernel_rfl) hv (F269_ev (Rp := fun x k => x = v ∧ h.next ≤ k.wm) H)
noncomputable def B3 : Code := bodyOf Tryz.f3
noncomputable def C3 (s : Bool) : Cx := ⟨E, s, none, B3, [([0], [0, 1, 2]), ([1, 0, 0], [2, 3, 4]), ([1, 0, 1, 0, 0], []), ([1, 1, 0, 0], [2, 3, 4]), ([1, 1, 0, 1, 0, 0], []), ([1, 1, 1, 0], [2, 3, 4]), ([1, 1, 1, 1, 0], [3, 4, 7, 8]), ([1, 1, 1, 1, 1, 0, 0], [3, 4, 7, 8, 9]), ([1, 1, 1, 1, 1, 0, 1, 0, 0], [7, 8]), ([1, 1, 1, 1, 1, 1, 0], [7, 8])], [6], []⟩
def P3_0 (s : Bool) (K : KF) (v0 v1 v2 : Value) (h : AH) : Prop := SP (C3 s ) K [0] [(0, v0), (1, v1), (2, v2)] h
def P3_1 (s : Bool) (K : KF) (v2 v3 v4 : Value) (h : AH) : Prop := SP (C3 s ) K [1, 0, 0] [(2, v2), (3, v3), (4, v4)] h
def P3_2 (s : Bool) (K : KF) (h : AH) : Prop := SP (C3 s ) K [1, 0, 1, 0, 0] [] h
def P3_3 (s : Bool) (K : KF) (v2 v3 v4 : Value) (h : AH) : Prop := SP (C3 s ) K [1, 1, 0, 0] [(2, v2), (3, v3), (4, v4)] h
def P3_4 (s : Bool) (K : KF) (h : AH) : Prop := SP (C3 s ) K [1, 1, 0, 1, 0, 0] [] h
def P3_5 (s : Bool) (K : KF) (v2 v3 v4 : Value) (h : AH) : Prop := SP (C3 s ) K [1, 1, 1, 0] [(2, v2), (3, v3), (4, v4)] h
def P3_6 (s : Bool) (K : KF) (v3 v4 v7 v8 : Value) (h : AH) : Prop := SP (C3 s ) K [1, 1, 1, 1, 0] [(3, v3), (4, v4), (7, v7), (8, v8)] h
def P3_7 (s : Bool) (K : KF) (v3 v4 v7 v8 v9 : Value) (h : AH) : Prop := SP (C3 s ) K [1, 1, 1, 1, 1, 0, 0] [(3, v3), (4, v4), (7, v7), (8, v8), (9, v9)] h
def P3_8 (s : Bool) (K : KF) (v7 v8 : Value) (h : AH) : Prop := SP (C3 s ) K [1, 1, 1, 1, 1, 0, 1, 0, 0] [(7, v7), (8, v8)] h
def P3_9 (s : Bool) (K : KF) (v7 v8 : Value) (h : AH) : Prop := SP (C3 s ) K [1, 1, 1, 1, 1, 1, 0] [(7, v7), (8, v8)] h
def Q3_0 (s : Bool) (K : KF) (v0 v1 v2 : Value) (h : AH) : Prop :=
 Ev s (wNewRow 25 h (some v0)) fun x0 =>
 Ev s (wNewRow 25 x0.2 (some v1)) fun x1 =>
 EvO (α := Value) (some (.bool false)) fun x2 =>
 P3_1 s K v2 x0.1 x1.1 x1.2
theorem P3_0_of {v0 v1 v2 : Value} (H : Q3_0 s K v0 v1 v2 h) : P3_0 s K v0 v1 v2 h :=
  step_of (by kernel_rfl) rfl (by kernel_rfl) H
def Q3_1 (s : Bool) (K : KF) (v2 v3 v4 : Value) (h : AH) : Prop :=
 Ev s (wCallV (recI E) (some (.func (.func 13) #[] #[])) (some []) h) fun x0 =>
 EvO (unFast .not x0.1) fun x1 =>
 BrK (some x1) (P3_2 s K  x0.2) (P3_3 s K v2 v3 v4 x0.2)
theorem P3_1_of {v2 v3 v4 : Value} (H : Q3_1 s K v2 v3 v4 h) : P3_1 s K v2 v3 v4 h :=
  step_of (by kernel_rfl) rfl (by kernel_rfl) H
def Q3_3 (s : Bool) (K : KF) (v2 v3 v4 : Value) (h : AH) : Prop :=
 EvO (rLoad E 25 h (some v3)) fun x0 =>
 EvO (rLoad E 25 h (some v4)) fun x1 =>
 Ev s (wBuildSlice E 82 2 (some [(0, x0), (1, x1)]) h) fun x2 =>
 Ev s (wCallV (recI E) (some (.func (.func 14) #[] #[])) (some [x2.1]) x2.2) fun x3 =>
 EvO (unFast .not x3.1) fun x4 =>
 EvO (some x4) fun x5 =>
 EvO (gdB x5 false (some v2)) fun x6 =>
 EvO (gdB x5 false (evRead E (tmOf [(18, x6)]) (opAt B3 [1, 1, 0, 0] 7) x3.2)) fun x7 =>
 EvO (gdB x5 false (binFast E .gtr 3 x7 (.int .i64 4000))) fun x8 =>
 EvO (pickV (some x5) (some (.bool true)) (some x8)) fun x9 =>
 BrK (some x9) (P3_4 s K  x3.2) (P3_5 s K v2 v3 v4 x3.2)
theorem P3_3_of {v2 v3 v4 : Value} (H : Q3_3 s K v2 v3 v4 h) : P3_3 s K v2 v3 v4 h :=
  step_of (by kernel_rfl) rfl (by kernel_rfl) H
theorem len3_3_7 : evRead E (tmOf [(18, .slice a n c)]) (opAt B3 [1, 1, 0, 0] 7) h = some (.int .i64 (n : Int)) := by cases a <;> kernel_rfl
def Q3_4 (s : Bool) (K : KF) (h : AH) : Prop :=
 EvO (α := Value) (some (.bool true)) fun x0 =>
 K .ret [x0] h
theorem P3_4_of (H : Q3_4 s K h) : P3_4 s K h :=
  step_of (by kernel_rfl) rfl (by kernel_rfl) H
def Q3_5 (s : Bool) (K : KF) (v2 v3 v4 : Value) (h : AH) : Prop :=
 EvO (rLoad E 25 h (some v3)) fun x0 =>
 EvO (rLoad E 25 h (some v4)) fun x1 =>
 EvO (some v2) fun x2 =>
 EvO (rLoad E 25 h (some v3)) fun x5 =>
 EvO (rLoad E 25 h (some v4)) fun x6 =>
 EvO (some v2) fun x7 =>
 Ev s (wCallV (recI E) (some (.func (.func 16) #[] #[])) (some [(.int .i64 1), x2]) h) fun x3 =>
 EvO (rLoad E 25 x3.2 (some v4)) fun u3_6 => veq 100 u3_6 x6 = true ∧
 (EvO (rLoad E 25 x3.2 (some v3)) fun u3_5 => veq 100 u3_5 x5 = true ∧
 (EvO (rLoad E 25 x3.2 (some v4)) fun u3_1 => veq 100 u3_1 x1 = true ∧
 (EvO (rLoad E 25 x3.2 (some v3)) fun u3_0 => veq 100 u3_0 x0 = true ∧
 (Ev s (wCallV (recI E) (some (.func (.func 15) #[] #[])) (some [x0, x1, x3.1]) x3.2) fun x4 =>
 EvO (rLoad E 25 x4.2 (some v4)) fun u4_6 => veq 100 u4_6 x6 = true ∧
 (EvO (rLoad E 25 x4.2 (some v3)) fun u4_5 => veq 100 u4_5 x5 = true ∧
 (Ev s (wCallV (recI E) (some (.func (.func 16) #[] #[])) (some [(.int .i64 2), x7]) x4.2) fun x8 =>
 EvO (rLoad E 25 x8.2 (some v4)) fun u8_6 => veq 100 u8_6 x6 = true ∧
 (EvO (rLoad E 25 x8.2 (some v3)) fun u8_5 => veq 100 u8_5 x5 = true ∧
 (Ev s (wCallV (recI E) (some (.func (.func 15) #[] #[])) (some [x5, x6, x8.1]) x8.2) fun x9 =>
 EvO (some x4.1) fun x10 =>
 EvO (some x9.1) fun x11 =>
 P3_6 s K v3 v4 x10 x11 x9.2))))))))
theorem P3_5_of {v2 v3 v4 : Value} (H : Q3_5 s K v2 v3 v4 h) : P3_5 s K v2 v3 v4 h :=
  step_of (by kernel_rfl) rfl (by kernel_rfl) H
def Q3_6 (s : Bool) (K : KF) (v3 v4 v7 v8 : Value) (h : AH) : Prop :=
 EvO (α := Value) (some (.func (.func 17) #[] #[])) fun x0 =>
 P3_7 s K v3 v4 v7 v8 x0 h
theorem P3_6_of {v3 v4 v7 v8 : Value} (H : Q3_6 s K v3 v4 v7 v8 h) : P3_6 s K v3 v4 v7 v8 h :=
  step_of (by kernel_rfl) rfl (by kernel_rfl) H
def Q3_7 (s : Bool) (K : KF) (v3 v4 v7 v8 v9 : Value) (h : AH) : Prop :=
 EvO (pFieldAddr E 25 1 (some v3)) fun x0 =>
 EvO (rLoad E 22 h (some x0)) fun x1 =>
 EvO (some v9) fun x2 =>
 Ev s (wCallV (recI E) (some (.func (.func 18) #[] #[])) (some [x1, x2]) h) fun x3 =>
 EvO (unFast .not x3.1) fun x4 =>
 EvO (some x4) fun x5 =>
 EvO (gdB x5 true (pFieldAddr E 25 1 (some v4))) fun x6 =>
 EvO (gdB x5 true (rLoad E 22 x3.2 (some x6))) fun x7 =>
 EvO (gdB x5 true (some v9)) fun x8 =>
 Ev s (gdW x5 true (wCallV (recI E) (some (.func (.func 18) #[] #[])) (some [x7, x8]) x3.2) x3.2) fun x9 =>
 EvO (gdB x5 true (unFast .not x9.1)) fun x10 =>
 EvO (pickV (some x5) (some x10) (some (.bool false))) fun x11 =>
 BrK (some x11) (P3_8 s K v7 v8 x9.2) (P3_9 s K v7 v8 x9.2)
theorem P3_7_of {v3 v4 v7 v8 v9 : Value} (H : Q3_7 s K v3 v4 v7 v8 v9 h) : P3_7 s K v3 v4 v7 v8 v9 h :=
  step_of (by kernel_rfl) rfl (by kernel_rfl) H
def Q3_8 (s : Bool) (K : KF) (v7 v8 : Value) (h : AH) : Prop :=
 EvO (some v7) fun x0 =>
 EvO (some v8) fun x1 =>
 EvO (binFast E .eql 29 x0 x1) fun x2 =>
 EvO (some x2) fun x3 =>
 K .ret [x3] h
theorem P3_8_of {v7 v8 : Value} (H : Q3_8 s K v7 v8 h) : P3_8 s K v7 v8 h :=
  step_of (by kernel_rfl) rfl (by kernel_rfl) H
def Q3_9 (s : Bool) (K : KF) (v7 v8 : Value) (h : AH) : Prop :=
 EvO (some v7) fun x0 =>
 EvO (binFast E .neq 29 x0 (.int .i64 0)) fun x1 =>
 EvO (some x1) fun x2 =>
 EvO (gdB x2 false (some v8)) fun x3 =>
 EvO (gdB x2 false (binFast E .eql 29 x3 (.int .i64 0))) fun x4 =>
 EvO (pickV (some x2) (some (.bool true)) (some x4)) fun x5 =>
 EvO (some x5) fun x6 =>
 K .ret [x6] h
theorem P3_9_of {v7 v8 : Value} (H : Q3_9 s K v7 v8 h) : P3_9 s K v7 v8 h :=
  step_of (by kernel_rfl) rfl (by kernel_rfl) H
theorem F3_ev {s : Bool} {v0 v1 v2 : Value} {h : AH} {Rp : Value → AH → Prop} (H : P3_0 s (KR E [.tmp 6] Rp) v0 v1 v2 h) :
 Ev s (R.andThen (evC E (recI E) none (bodyOf Tryz.f3) ⟨⟨Tryz.f3.ntmps, initT [v0, v1, v2] 0 .e⟩, h, []⟩) (endCall E Tryz.f3)) fun x => Rp x.1 x.2 :=
  call_ev (C := C3 s) rfl rfl ⟨rfl, rfl, by kernel_rfl, rfl⟩ (by kernel_rfl) (by kernel_rfl) ((by kernel_rfl : contK (C3 s) (KR E Tryz.f3.results.toList Rp) 30 (rs B3 60 (.at [])) (tmOf (zipL 0 [v0, v1, v2])) h = (P3_0 s (KR E [.tmp 6] Rp) v0 v1 v2 h)).mpr H)
theorem F3_get : E.tab.fn.get 3 = some Tryz.f3 := by kernel_rfl
theorem F3_body : Tryz.f3.body = some B3 := by kernel_rfl
theorem F3_sum (l : List Value) (h : AH) : E.sum 3 l h = none := by kernel_rfl
theorem F3_flat {s : Bool} {v0 v1 v2 : Value} {h : AH} {v : Value} (hok : h.ok) (hv : isScalar v = true) (H : P3_0 s (KR E [.tmp 6] (fun x k => x = v ∧ h.next ≤ k.wm)) v0 v1 v2 h.fresh) : (recI E).call 3 [v0, v1, v2] h = some [(v, h)] :=
  call_flat (s := s) hok F3_get F3_body (F3_sum _ _) (by kernel_rfl) hv (F3_ev (Rp := fun x k => x = v ∧ h.next ≤ k.wm) H)
end Go.Proofs
end
