/- Path lemmas, by program. Accounts of the book and of the reference: both return what 'accounts' says. Accounts of the reference. Path lemmas, by program. Path lemmas, by program. BookOwes returns true. -/
import Derived.Test.YtipgfljojhdhjaaGreatDoorOwC
set_option linter.all false
set_option linter.unusedVariables false
set_option linter.unusedSimpArgs false
set_option linter.unnecessarySimpa false
set_option linter.deprecated false
set_option maxRecDepth 100000
namespace Go.Proofs.YtipgfljojhdhjaaGreatDoor
open Ai
theorem f17n_p1 {ca1r : Nat} {ca1o : Nat} {ca1l : Nat} {ca1k : Bool} {ca1c : Nat} {H : AH} (h1 : 400 < (ca1l : Int)) :
    CallsTo P gl 17 [.nils, .slice ca1r ca1o ca1l ca1k ca1c] H (.tup [.nils, .int .i64 0, .int .i64 5]) H := by
  exact callP_calls (orc := [(9, .bit true)]) (fs := [_]) (by kernel_rfl) ⟨(gt_t h1), trivial⟩
theorem f17n_p2 {ca1r : Nat} {ca1o : Nat} {ca1l : Nat} {ca1k : Bool} {ca1c : Nat} {H : AH} (h1 : (ca1l : Int) ≤ 400) {H11 : AH} (hH2 : H.push (.cells [] false 0) = H11) (w0 : WF H) {ow7L0r : Nat} {ow7L0o : Nat} {ow7L0l : Nat} {ow7L0k : Bool} {ow7L0c : Nat} {H14 : AH} (hl4 : To P gl none 17 108 (.loop (loopB P 17 0)) [(0, .nils), (1, .slice ca1r ca1o ca1l ca1k ca1c), (7, .slice H.next 0 0 true 0), (8, .int .i64 0)] [] H11 (.exit 0) [(0, .nils), (1, .slice ca1r ca1o ca1l ca1k ca1c), (7, .slice ow7L0r ow7L0o ow7L0l ow7L0k ow7L0c)] [] H14) (hk5 : Keep H11.next H11 H14) (hw6 : WF H14) :
    CallsTo P gl 17 [.nils, .slice ca1r ca1o ca1l ca1k ca1c] H (.tup [.nils, .int .i64 0, .int .i64 2]) H14 ∧ WF H14 ∧ Keep H.next H H14 := by
  have kp0 : KeepX H.next [] H H := KeepX.refl
  have q0 : WF H11 := by rw [← hH2]; exact WF.push w0 _
  have q1 : H.next ≤ H11.next := by rw [← hH2]; exact Nat.le_succ _
  have kp1 : KeepX H.next [] H H11 := by rw [← hH2]; exact KeepX.push (KeepX.refl (n := H.next) (xs := []) (H := H)) w0 _
  have q2 : H11.get H.next = some (.cells [] false 0) := by rw [← hH2]; exact get_push_new w0 _
  have q3 : H.next < H11.next := by rw [← hH2]; exact Nat.lt_succ_self _
  obtain ⟨J14, hl4⟩ := hl4.skolem
  have kp2 : KeepX H.next [] H H14 := KeepX.call kp1 hk5
  exact ⟨callP_calls (orc := [(9, .bit false), (11, .mem H11), (14, .to false [0, 1, 7, 8] (.exit 0) [(0, .nils), (1, .slice ca1r ca1o ca1l ca1k ca1c), (7, .slice ow7L0r ow7L0o ow7L0l ow7L0k ow7L0c)] J14 [] H14)]) (fs := [_, _, _]) (by kernel_rfl) ⟨hl4, hH2, (gt_f h1), trivial⟩, hw6, kp2.keep⟩
theorem f17n_p3 {ca1r : Nat} {ca1o : Nat} {ca1l : Nat} {ca1k : Bool} {ca1c : Nat} {H : AH} (h1 : (ca1l : Int) ≤ 400) {H11 : AH} (hH2 : H.push (.cells [] false 0) = H11) (w0 : WF H) {t5L0 : Int} {t6L0 : Int} {H14 : AH} (hl4 : To P gl none 17 108 (.loop (loopB P 17 0)) [(0, .nils), (1, .slice ca1r ca1o ca1l ca1k ca1c), (7, .slice H.next 0 0 true 0), (8, .int .i64 0)] [] H11 .ret [(4, .nils), (5, .int .i64 t5L0), (6, .int .i64 t6L0)] [] H14) (hk5 : Keep H11.next H11 H14) (hw6 : WF H14) :
    CallsTo P gl 17 [.nils, .slice ca1r ca1o ca1l ca1k ca1c] H (.tup [.nils, .int .i64 t5L0, .int .i64 t6L0]) H14 ∧ WF H14 ∧ Keep H.next H H14 := by
  have kp0 : KeepX H.next [] H H := KeepX.refl
  have q0 : WF H11 := by rw [← hH2]; exact WF.push w0 _
  have q1 : H.next ≤ H11.next := by rw [← hH2]; exact Nat.le_succ _
  have kp1 : KeepX H.next [] H H11 := by rw [← hH2]; exact KeepX.push (KeepX.refl (n := H.next) (xs := []) (H := H)) w0 _
  have q2 : H11.get H.next = some (.cells [] false 0) := by rw [← hH2]; exact get_push_new w0 _
  have q3 : H.next < H11.next := by rw [← hH2]; exact Nat.lt_succ_self _
  obtain ⟨J14, hl4⟩ := hl4.skolem
  have kp2 : KeepX H.next [] H H14 := KeepX.call kp1 hk5
  exact ⟨callP_calls (orc := [(9, .bit false), (11, .mem H11), (14, .to false [0, 1, 7, 8] .ret [(4, .nils), (5, .int .i64 t5L0), (6, .int .i64 t6L0)] J14 [] H14)]) (fs := [_, _, _]) (by kernel_rfl) ⟨hl4, hH2, (gt_f h1), trivial⟩, hw6, kp2.keep⟩
theorem f17n_p4 {H : AH} {H11 : AH} (hH1 : H.push (.cells [] false 0) = H11) (w0 : WF H) {ow7L0r : Nat} {ow7L0o : Nat} {ow7L0l : Nat} {ow7L0k : Bool} {ow7L0c : Nat} {H14 : AH} (hl3 : To P gl none 17 108 (.loop (loopB P 17 0)) [(0, .nils), (1, .nils), (7, .slice H.next 0 0 true 0), (8, .int .i64 0)] [] H11 (.exit 0) [(0, .nils), (1, .nils), (7, .slice ow7L0r ow7L0o ow7L0l ow7L0k ow7L0c)] [] H14) (hk4 : Keep H11.next H11 H14) (hw5 : WF H14) :
    CallsTo P gl 17 [.nils, .nils] H (.tup [.nils, .int .i64 0, .int .i64 2]) H14 ∧ WF H14 ∧ Keep H.next H H14 := by
  have kp0 : KeepX H.next [] H H := KeepX.refl
  have q0 : WF H11 := by rw [← hH1]; exact WF.push w0 _
  have q1 : H.next ≤ H11.next := by rw [← hH1]; exact Nat.le_succ _
  have kp1 : KeepX H.next [] H H11 := by rw [← hH1]; exact KeepX.push (KeepX.refl (n := H.next) (xs := []) (H := H)) w0 _
  have q2 : H11.get H.next = some (.cells [] false 0) := by rw [← hH1]; exact get_push_new w0 _
  have q3 : H.next < H11.next := by rw [← hH1]; exact Nat.lt_succ_self _
  obtain ⟨J14, hl3⟩ := hl3.skolem
  have kp2 : KeepX H.next [] H H14 := KeepX.call kp1 hk4
  exact ⟨callP_calls (orc := [(11, .mem H11), (14, .to false [0, 1, 7, 8] (.exit 0) [(0, .nils), (1, .nils), (7, .slice ow7L0r ow7L0o ow7L0l ow7L0k ow7L0c)] J14 [] H14)]) (fs := [_, _]) (by kernel_rfl) ⟨hl3, hH1, trivial⟩, hw5, kp2.keep⟩
theorem f17n_p5 {H : AH} {H11 : AH} (hH1 : H.push (.cells [] false 0) = H11) (w0 : WF H) {t5L0 : Int} {t6L0 : Int} {H14 : AH} (hl3 : To P gl none 17 108 (.loop (loopB P 17 0)) [(0, .nils), (1, .nils), (7, .slice H.next 0 0 true 0), (8, .int .i64 0)] [] H11 .ret [(4, .nils), (5, .int .i64 t5L0), (6, .int .i64 t6L0)] [] H14) (hk4 : Keep H11.next H11 H14) (hw5 : WF H14) :
    CallsTo P gl 17 [.nils, .nils] H (.tup [.nils, .int .i64 t5L0, .int .i64 t6L0]) H14 ∧ WF H14 ∧ Keep H.next H H14 := by
  have kp0 : KeepX H.next [] H H := KeepX.refl
  have q0 : WF H11 := by rw [← hH1]; exact WF.push w0 _
  have q1 : H.next ≤ H11.next := by rw [← hH1]; exact Nat.le_succ _
  have kp1 : KeepX H.next [] H H11 := by rw [← hH1]; exact KeepX.push (KeepX.refl (n := H.next) (xs := []) (H := H)) w0 _
  have q2 : H11.get H.next = some (.cells [] false 0) := by rw [← hH1]; exact get_push_new w0 _
  have q3 : H.next < H11.next := by rw [← hH1]; exact Nat.lt_succ_self _
  obtain ⟨J14, hl3⟩ := hl3.skolem
  have kp2 : KeepX H.next [] H H14 := KeepX.call kp1 hk4
  exact ⟨callP_calls (orc := [(11, .mem H11), (14, .to false [0, 1, 7, 8] .ret [(4, .nils), (5, .int .i64 t5L0), (6, .int .i64 t6L0)] J14 [] H14)]) (fs := [_, _]) (by kernel_rfl) ⟨hl3, hH1, trivial⟩, hw5, kp2.keep⟩
theorem f17_p1 {op0r : Nat} {op0o : Nat} {op0l : Nat} {op0k : Bool} {op0c : Nat} {ca1r : Nat} {ca1o : Nat} {ca1l : Nat} {ca1k : Bool} {ca1c : Nat} {H : AH} (h1 : 30 < (op0l : Int)) :
    CallsTo P gl 17 [.slice op0r op0o op0l op0k op0c, .slice ca1r ca1o ca1l ca1k ca1c] H (.tup [.nils, .int .i64 0, .int .i64 5]) H := by
  exact callP_calls (orc := [(5, .bit true)]) (fs := [_]) (by kernel_rfl) ⟨(gt_t h1), trivial⟩
theorem f17_p2 {op0r : Nat} {op0o : Nat} {op0l : Nat} {op0k : Bool} {op0c : Nat} {ca1r : Nat} {ca1o : Nat} {ca1l : Nat} {ca1k : Bool} {ca1c : Nat} {H : AH} (h1 : (op0l : Int) ≤ 30) (h2 : 400 < (ca1l : Int)) :
    CallsTo P gl 17 [.slice op0r op0o op0l op0k op0c, .slice ca1r ca1o ca1l ca1k ca1c] H (.tup [.nils, .int .i64 0, .int .i64 5]) H := by
  exact callP_calls (orc := [(5, .bit false), (9, .bit true)]) (fs := [_, _]) (by kernel_rfl) ⟨(gt_t h2), (gt_f h1), trivial⟩
theorem f17_p3 {op0r : Nat} {op0o : Nat} {op0l : Nat} {op0k : Bool} {op0c : Nat} {ca1r : Nat} {ca1o : Nat} {ca1l : Nat} {ca1k : Bool} {ca1c : Nat} {H : AH} (h1 : (op0l : Int) ≤ 30) (h2 : (ca1l : Int) ≤ 400) {H11 : AH} (hH3 : H.push (.cells [] false 0) = H11) (w0 : WF H) {ow7L0r : Nat} {ow7L0o : Nat} {ow7L0l : Nat} {ow7L0k : Bool} {ow7L0c : Nat} {H14 : AH} (hl5 : To P gl none 17 108 (.loop (loopB P 17 0)) [(0, .slice op0r op0o op0l op0k op0c), (1, .slice ca1r ca1o ca1l ca1k ca1c), (7, .slice H.next 0 0 true 0), (8, .int .i64 0)] [] H11 (.exit 0) [(0, .slice op0r op0o op0l op0k op0c), (1, .slice ca1r ca1o ca1l ca1k ca1c), (7, .slice ow7L0r ow7L0o ow7L0l ow7L0k ow7L0c)] [] H14) (hk6 : Keep H.next H11 H14) (hw7 : WF H14) (h8 : (op0l : Int) = 0) :
    CallsTo P gl 17 [.slice op0r op0o op0l op0k op0c, .slice ca1r ca1o ca1l ca1k ca1c] H (.tup [.nils, .int .i64 0, .int .i64 2]) H14 ∧ WF H14 ∧ Keep H.next H H14 := by
  have kp0 : KeepX H.next [] H H := KeepX.refl
  have q0 : WF H11 := by rw [← hH3]; exact WF.push w0 _
  have q1 : H.next ≤ H11.next := by rw [← hH3]; exact Nat.le_succ _
  have kp1 : KeepX H.next [] H H11 := by rw [← hH3]; exact KeepX.push (KeepX.refl (n := H.next) (xs := []) (H := H)) w0 _
  have q2 : H11.get H.next = some (.cells [] false 0) := by rw [← hH3]; exact get_push_new w0 _
  have q3 : H.next < H11.next := by rw [← hH3]; exact Nat.lt_succ_self _
  obtain ⟨J14, hl5⟩ := hl5.skolem
  have kp2 : KeepX H.next [] H H14 := KeepX.callH kp1 hk6
  exact ⟨callP_calls (orc := [(5, .bit false), (9, .bit false), (11, .mem H11), (14, .to false [0, 1, 7, 8] (.exit 0) [(0, .slice op0r op0o op0l op0k op0c), (1, .slice ca1r ca1o ca1l ca1k ca1c), (7, .slice ow7L0r ow7L0o ow7L0l ow7L0k ow7L0c)] J14 [] H14), (17, .bit true)]) (fs := [_, _, _, _, _]) (by kernel_rfl) ⟨(ieq_t h8), hl5, hH3, (gt_f h2), (gt_f h1), trivial⟩, hw7, kp2.keep⟩
theorem f17_p4 {op0r : Nat} {op0o : Nat} {op0l : Nat} {op0k : Bool} {op0c : Nat} {ca1r : Nat} {ca1o : Nat} {ca1l : Nat} {ca1k : Bool} {ca1c : Nat} {H : AH} (h1 : (op0l : Int) ≤ 30) (h2 : (ca1l : Int) ≤ 400) {H11 : AH} (hH3 : H.push (.cells [] false 0) = H11) (w0 : WF H) {ow7L0r : Nat} {ow7L0o : Nat} {ow7L0l : Nat} {ow7L0k : Bool} {ow7L0c : Nat} {H14 : AH} (hl5 : To P gl none 17 108 (.loop (loopB P 17 0)) [(0, .slice op0r op0o op0l op0k op0c), (1, .slice ca1r ca1o ca1l ca1k ca1c), (7, .slice H.next 0 0 true 0), (8, .int .i64 0)] [] H11 (.exit 0) [(0, .slice op0r op0o op0l op0k op0c), (1, .slice ca1r ca1o ca1l ca1k ca1c), (7, .slice ow7L0r ow7L0o ow7L0l ow7L0k ow7L0c)] [] H14) (hk6 : Keep H.next H11 H14) (hw7 : WF H14) (h8 : (op0l : Int) ≠ 0) {H19 : AH} (hl9 : To P gl none 17 108 (.loop (loopB P 17 1)) [(0, .slice op0r op0o op0l op0k op0c), (1, .slice ca1r ca1o ca1l ca1k ca1c), (7, .slice ow7L0r ow7L0o ow7L0l ow7L0k ow7L0c), (9, .int .i64 0)] [] H14 (.exit 2) [(7, .slice ow7L0r ow7L0o ow7L0l ow7L0k ow7L0c)] [] H19) (hk10 : Keep H.next H14 H19) (hw11 : WF H19) :
    CallsTo P gl 17 [.slice op0r op0o op0l op0k op0c, .slice ca1r ca1o ca1l ca1k ca1c] H (.tup [.slice ow7L0r ow7L0o ow7L0l ow7L0k ow7L0c, .int .i64 0, .int .i64 0]) H19 ∧ WF H19 ∧ Keep H.next H H19 := by
  have kp0 : KeepX H.next [] H H := KeepX.refl
  have q0 : WF H11 := by rw [← hH3]; exact WF.push w0 _
  have q1 : H.next ≤ H11.next := by rw [← hH3]; exact Nat.le_succ _
  have kp1 : KeepX H.next [] H H11 := by rw [← hH3]; exact KeepX.push (KeepX.refl (n := H.next) (xs := []) (H := H)) w0 _
  have q2 : H11.get H.next = some (.cells [] false 0) := by rw [← hH3]; exact get_push_new w0 _
  have q3 : H.next < H11.next := by rw [← hH3]; exact Nat.lt_succ_self _
  obtain ⟨J14, hl5⟩ := hl5.skolem
  have kp2 : KeepX H.next [] H H14 := KeepX.callH kp1 hk6
  obtain ⟨J19, hl9⟩ := hl9.skolem
  have kp3 : KeepX H.next [] H H19 := KeepX.callH kp2 hk10
  exact ⟨callP_calls (orc := [(5, .bit false), (9, .bit false), (11, .mem H11), (14, .to false [0, 1, 7, 8] (.exit 0) [(0, .slice op0r op0o op0l op0k op0c), (1, .slice ca1r ca1o ca1l ca1k ca1c), (7, .slice ow7L0r ow7L0o ow7L0l ow7L0k ow7L0c)] J14 [] H14), (17, .bit false), (19, .to false [0, 1, 7, 9] (.exit 2) [(7, .slice ow7L0r ow7L0o ow7L0l ow7L0k ow7L0c)] J19 [] H19)]) (fs := [_, _, _, _, _, _]) (by kernel_rfl) ⟨hl9, (ieq_f h8), hl5, hH3, (gt_f h2), (gt_f h1), trivial⟩, hw11, kp3.keep⟩
theorem f17_p5 {op0r : Nat} {op0o : Nat} {op0l : Nat} {op0k : Bool} {op0c : Nat} {ca1r : Nat} {ca1o : Nat} {ca1l : Nat} {ca1k : Bool} {ca1c : Nat} {H : AH} (h1 : (op0l : Int) ≤ 30) (h2 : (ca1l : Int) ≤ 400) {H11 : AH} (hH3 : H.push (.cells [] false 0) = H11) (w0 : WF H) {ow7L0r : Nat} {ow7L0o : Nat} {ow7L0l : Nat} {ow7L0k : Bool} {ow7L0c : Nat} {H14 : AH} (hl5 : To P gl none 17 108 (.loop (loopB P 17 0)) [(0, .slice op0r op0o op0l op0k op0c), (1, .slice ca1r ca1o ca1l ca1k ca1c), (7, .slice H.next 0 0 true 0), (8, .int .i64 0)] [] H11 (.exit 0) [(0, .slice op0r op0o op0l op0k op0c), (1, .slice ca1r ca1o ca1l ca1k ca1c), (7, .slice ow7L0r ow7L0o ow7L0l ow7L0k ow7L0c)] [] H14) (hk6 : Keep H.next H11 H14) (hw7 : WF H14) (h8 : (op0l : Int) ≠ 0) {t5L1 : Int} {t6L1 : Int} {H19 : AH} (hl9 : To P gl none 17 108 (.loop (loopB P 17 1)) [(0, .slice op0r op0o op0l op0k op0c), (1, .slice ca1r ca1o ca1l ca1k ca1c), (7, .slice ow7L0r ow7L0o ow7L0l ow7L0k ow7L0c), (9, .int .i64 0)] [] H14 .ret [(4, .nils), (5, .int .i64 t5L1), (6, .int .i64 t6L1)] [] H19) (hk10 : Keep H.next H14 H19) (hw11 : WF H19) :
    CallsTo P gl 17 [.slice op0r op0o op0l op0k op0c, .slice ca1r ca1o ca1l ca1k ca1c] H (.tup [.nils, .int .i64 t5L1, .int .i64 t6L1]) H19 ∧ WF H19 ∧ Keep H.next H H19 := by
  have kp0 : KeepX H.next [] H H := KeepX.refl
  have q0 : WF H11 := by rw [← hH3]; exact WF.push w0 _
  have q1 : H.next ≤ H11.next := by rw [← hH3]; exact Nat.le_succ _
  have kp1 : KeepX H.next [] H H11 := by rw [← hH3]; exact KeepX.push (KeepX.refl (n := H.next) (xs := []) (H := H)) w0 _
  have q2 : H11.get H.next = some (.cells [] false 0) := by rw [← hH3]; exact get_push_new w0 _
  have q3 : H.next < H11.next := by rw [← hH3]; exact Nat.lt_succ_self _
  obtain ⟨J14, hl5⟩ := hl5.skolem
  have kp2 : KeepX H.next [] H H14 := KeepX.callH kp1 hk6
  obtain ⟨J19, hl9⟩ := hl9.skolem
  have kp3 : KeepX H.next [] H H19 := KeepX.callH kp2 hk10
  exact ⟨callP_calls (orc := [(5, .bit false), (9, .bit false), (11, .mem H11), (14, .to false [0, 1, 7, 8] (.exit 0) [(0, .slice op0r op0o op0l op0k op0c), (1, .slice ca1r ca1o ca1l ca1k ca1c), (7, .slice ow7L0r ow7L0o ow7L0l ow7L0k ow7L0c)] J14 [] H14), (17, .bit false), (19, .to false [0, 1, 7, 9] .ret [(4, .nils), (5, .int .i64 t5L1), (6, .int .i64 t6L1)] J19 [] H19)]) (fs := [_, _, _, _, _, _]) (by kernel_rfl) ⟨hl9, (ieq_f h8), hl5, hH3, (gt_f h2), (gt_f h1), trivial⟩, hw11, kp3.keep⟩
theorem f17_p6 {op0r : Nat} {op0o : Nat} {op0l : Nat} {op0k : Bool} {op0c : Nat} {ca1r : Nat} {ca1o : Nat} {ca1l : Nat} {ca1k : Bool} {ca1c : Nat} {H : AH} (h1 : (op0l : Int) ≤ 30) (h2 : (ca1l : Int) ≤ 400) {H11 : AH} (hH3 : H.push (.cells [] false 0) = H11) (w0 : WF H) {t5L0 : Int} {t6L0 : Int} {H14 : AH} (hl5 : To P gl none 17 108 (.loop (loopB P 17 0)) [(0, .slice op0r op0o op0l op0k op0c), (1, .slice ca1r ca1o ca1l ca1k ca1c), (7, .slice H.next 0 0 true 0), (8, .int .i64 0)] [] H11 .ret [(4, .nils), (5, .int .i64 t5L0), (6, .int .i64 t6L0)] [] H14) (hk6 : Keep H.next H11 H14) (hw7 : WF H14) :
    CallsTo P gl 17 [.slice op0r op0o op0l op0k op0c, .slice ca1r ca1o ca1l ca1k ca1c] H (.tup [.nils, .int .i64 t5L0, .int .i64 t6L0]) H14 ∧ WF H14 ∧ Keep H.next H H14 := by
  have kp0 : KeepX H.next [] H H := KeepX.refl
  have q0 : WF H11 := by rw [← hH3]; exact WF.push w0 _
  have q1 : H.next ≤ H11.next := by rw [← hH3]; exact Nat.le_succ _
  have kp1 : KeepX H.next [] H H11 := by rw [← hH3]; exact KeepX.push (KeepX.refl (n := H.next) (xs := []) (H := H)) w0 _
  have q2 : H11.get H.next = some (.cells [] false 0) := by rw [← hH3]; exact get_push_new w0 _
  have q3 : H.next < H11.next := by rw [← hH3]; exact Nat.lt_succ_self _
  obtain ⟨J14, hl5⟩ := hl5.skolem
  have kp2 : KeepX H.next [] H H14 := KeepX.callH kp1 hk6
  exact ⟨callP_calls (orc := [(5, .bit false), (9, .bit false), (11, .mem H11), (14, .to false [0, 1, 7, 8] .ret [(4, .nils), (5, .int .i64 t5L0), (6, .int .i64 t6L0)] J14 [] H14)]) (fs := [_, _, _, _]) (by kernel_rfl) ⟨hl5, hH3, (gt_f h2), (gt_f h1), trivial⟩, hw7, kp2.keep⟩
theorem f17_p7 {op0r : Nat} {op0o : Nat} {op0l : Nat} {op0k : Bool} {op0c : Nat} {H : AH} (h1 : 30 < (op0l : Int)) :
    CallsTo P gl 17 [.slice op0r op0o op0l op0k op0c, .nils] H (.tup [.nils, .int .i64 0, .int .i64 5]) H := by
  exact callP_calls (orc := [(5, .bit true)]) (fs := [_]) (by kernel_rfl) ⟨(gt_t h1), trivial⟩
theorem f17_p8 {op0r : Nat} {op0o : Nat} {op0l : Nat} {op0k : Bool} {op0c : Nat} {H : AH} (h1 : (op0l : Int) ≤ 30) {H11 : AH} (hH2 : H.push (.cells [] false 0) = H11) (w0 : WF H) {ow7L0r : Nat} {ow7L0o : Nat} {ow7L0l : Nat} {ow7L0k : Bool} {ow7L0c : Nat} {H14 : AH} (hl4 : To P gl none 17 108 (.loop (loopB P 17 0)) [(0, .slice op0r op0o op0l op0k op0c), (1, .nils), (7, .slice H.next 0 0 true 0), (8, .int .i64 0)] [] H11 (.exit 0) [(0, .slice op0r op0o op0l op0k op0c), (1, .nils), (7, .slice ow7L0r ow7L0o ow7L0l ow7L0k ow7L0c)] [] H14) (hk5 : Keep H.next H11 H14) (hw6 : WF H14) (h7 : (op0l : Int) = 0) :
    CallsTo P gl 17 [.slice op0r op0o op0l op0k op0c, .nils] H (.tup [.nils, .int .i64 0, .int .i64 2]) H14 ∧ WF H14 ∧ Keep H.next H H14 := by
  have kp0 : KeepX H.next [] H H := KeepX.refl
  have q0 : WF H11 := by rw [← hH2]; exact WF.push w0 _
  have q1 : H.next ≤ H11.next := by rw [← hH2]; exact Nat.le_succ _
  have kp1 : KeepX H.next [] H H11 := by rw [← hH2]; exact KeepX.push (KeepX.refl (n := H.next) (xs := []) (H := H)) w0 _
  have q2 : H11.get H.next = some (.cells [] false 0) := by rw [← hH2]; exact get_push_new w0 _
  have q3 : H.next < H11.next := by rw [← hH2]; exact Nat.lt_succ_self _
  obtain ⟨J14, hl4⟩ := hl4.skolem
  have kp2 : KeepX H.next [] H H14 := KeepX.callH kp1 hk5
  exact ⟨callP_calls (orc := [(5, .bit false), (11, .mem H11), (14, .to false [0, 1, 7, 8] (.exit 0) [(0, .slice op0r op0o op0l op0k op0c), (1, .nils), (7, .slice ow7L0r ow7L0o ow7L0l ow7L0k ow7L0c)] J14 [] H14), (17, .bit true)]) (fs := [_, _, _, _]) (by kernel_rfl) ⟨(ieq_t h7), hl4, hH2, (gt_f h1), trivial⟩, hw6, kp2.keep⟩
theorem f17_p9 {op0r : Nat} {op0o : Nat} {op0l : Nat} {op0k : Bool} {op0c : Nat} {H : AH} (h1 : (op0l : Int) ≤ 30) {H11 : AH} (hH2 : H.push (.cells [] false 0) = H11) (w0 : WF H) {ow7L0r : Nat} {ow7L0o : Nat} {ow7L0l : Nat} {ow7L0k : Bool} {ow7L0c : Nat} {H14 : AH} (hl4 : To P gl none 17 108 (.loop (loopB P 17 0)) [(0, .slice op0r op0o op0l op0k op0c), (1, .nils), (7, .slice H.next 0 0 true 0), (8, .int .i64 0)] [] H11 (.exit 0) [(0, .slice op0r op0o op0l op0k op0c), (1, .nils), (7, .slice ow7L0r ow7L0o ow7L0l ow7L0k ow7L0c)] [] H14) (hk5 : Keep H.next H11 H14) (hw6 : WF H14) (h7 : (op0l : Int) ≠ 0) {H19 : AH} (hl8 : To P gl none 17 108 (.loop (loopB P 17 1)) [(0, .slice op0r op0o op0l op0k op0c), (1, .nils), (7, .slice ow7L0r ow7L0o ow7L0l ow7L0k ow7L0c), (9, .int .i64 0)] [] H14 (.exit 2) [(7, .slice ow7L0r ow7L0o ow7L0l ow7L0k ow7L0c)] [] H19) (hk9 : Keep H.next H14 H19) (hw10 : WF H19) :
    CallsTo P gl 17 [.slice op0r op0o op0l op0k op0c, .nils] H (.tup [.slice ow7L0r ow7L0o ow7L0l ow7L0k ow7L0c, .int .i64 0, .int .i64 0]) H19 ∧ WF H19 ∧ Keep H.next H H19 := by
  have kp0 : KeepX H.next [] H H := KeepX.refl
  have q0 : WF H11 := by rw [← hH2]; exact WF.push w0 _
  have q1 : H.next ≤ H11.next := by rw [← hH2]; exact Nat.le_succ _
  have kp1 : KeepX H.next [] H H11 := by rw [← hH2]; exact KeepX.push (KeepX.refl (n := H.next) (xs := []) (H := H)) w0 _
  have q2 : H11.get H.next = some (.cells [] false 0) := by rw [← hH2]; exact get_push_new w0 _
  have q3 : H.next < H11.next := by rw [← hH2]; exact Nat.lt_succ_self _
  obtain ⟨J14, hl4⟩ := hl4.skolem
  have kp2 : KeepX H.next [] H H14 := KeepX.callH kp1 hk5
  obtain ⟨J19, hl8⟩ := hl8.skolem
  have kp3 : KeepX H.next [] H H19 := KeepX.callH kp2 hk9
  exact ⟨callP_calls (orc := [(5, .bit false), (11, .mem H11), (14, .to false [0, 1, 7, 8] (.exit 0) [(0, .slice op0r op0o op0l op0k op0c), (1, .nils), (7, .slice ow7L0r ow7L0o ow7L0l ow7L0k ow7L0c)] J14 [] H14), (17, .bit false), (19, .to false [0, 1, 7, 9] (.exit 2) [(7, .slice ow7L0r ow7L0o ow7L0l ow7L0k ow7L0c)] J19 [] H19)]) (fs := [_, _, _, _, _]) (by kernel_rfl) ⟨hl8, (ieq_f h7), hl4, hH2, (gt_f h1), trivial⟩, hw10, kp3.keep⟩
theorem f17_p10 {op0r : Nat} {op0o : Nat} {op0l : Nat} {op0k : Bool} {op0c : Nat} {H : AH} (h1 : (op0l : Int) ≤ 30) {H11 : AH} (hH2 : H.push (.cells [] false 0) = H11) (w0 : WF H) {ow7L0r : Nat} {ow7L0o : Nat} {ow7L0l : Nat} {ow7L0k : Bool} {ow7L0c : Nat} {H14 : AH} (hl4 : To P gl none 17 108 (.loop (loopB P 17 0)) [(0, .slice op0r op0o op0l op0k op0c), (1, .nils), (7, .slice H.next 0 0 true 0), (8, .int .i64 0)] [] H11 (.exit 0) [(0, .slice op0r op0o op0l op0k op0c), (1, .nils), (7, .slice ow7L0r ow7L0o ow7L0l ow7L0k ow7L0c)] [] H14) (hk5 : Keep H.next H11 H14) (hw6 : WF H14) (h7 : (op0l : Int) ≠ 0) {t5L1 : Int} {t6L1 : Int} {H19 : AH} (hl8 : To P gl none 17 108 (.loop (loopB P 17 1)) [(0, .slice op0r op0o op0l op0k op0c), (1, .nils), (7, .slice ow7L0r ow7L0o ow7L0l ow7L0k ow7L0c), (9, .int .i64 0)] [] H14 .ret [(4, .nils), (5, .int .i64 t5L1), (6, .int .i64 t6L1)] [] H19) (hk9 : Keep H.next H14 H19) (hw10 : WF H19) :
    CallsTo P gl 17 [.slice op0r op0o op0l op0k op0c, .nils] H (.tup [.nils, .int .i64 t5L1, .int .i64 t6L1]) H19 ∧ WF H19 ∧ Keep H.next H H19 := by
  have kp0 : KeepX H.next [] H H := KeepX.refl
  have q0 : WF H11 := by rw [← hH2]; exact WF.push w0 _
  have q1 : H.next ≤ H11.next := by rw [← hH2]; exact Nat.le_succ _
  have kp1 : KeepX H.next [] H H11 := by rw [← hH2]; exact KeepX.push (KeepX.refl (n := H.next) (xs := []) (H := H)) w0 _
  have q2 : H11.get H.next = some (.cells [] false 0) := by rw [← hH2]; exact get_push_new w0 _
  have q3 : H.next < H11.next := by rw [← hH2]; exact Nat.lt_succ_self _
  obtain ⟨J14, hl4⟩ := hl4.skolem
  have kp2 : KeepX H.next [] H H14 := KeepX.callH kp1 hk5
  obtain ⟨J19, hl8⟩ := hl8.skolem
  have kp3 : KeepX H.next [] H H19 := KeepX.callH kp2 hk9
  exact ⟨callP_calls (orc := [(5, .bit false), (11, .mem H11), (14, .to false [0, 1, 7, 8] (.exit 0) [(0, .slice op0r op0o op0l op0k op0c), (1, .nils), (7, .slice ow7L0r ow7L0o ow7L0l ow7L0k ow7L0c)] J14 [] H14), (17, .bit false), (19, .to false [0, 1, 7, 9] .ret [(4, .nils), (5, .int .i64 t5L1), (6, .int .i64 t6L1)] J19 [] H19)]) (fs := [_, _, _, _, _]) (by kernel_rfl) ⟨hl8, (ieq_f h7), hl4, hH2, (gt_f h1), trivial⟩, hw10, kp3.keep⟩
theorem f17_p11 {op0r : Nat} {op0o : Nat} {op0l : Nat} {op0k : Bool} {op0c : Nat} {H : AH} (h1 : (op0l : Int) ≤ 30) {H11 : AH} (hH2 : H.push (.cells [] false 0) = H11) (w0 : WF H) {t5L0 : Int} {t6L0 : Int} {H14 : AH} (hl4 : To P gl none 17 108 (.loop (loopB P 17 0)) [(0, .slice op0r op0o op0l op0k op0c), (1, .nils), (7, .slice H.next 0 0 true 0), (8, .int .i64 0)] [] H11 .ret [(4, .nils), (5, .int .i64 t5L0), (6, .int .i64 t6L0)] [] H14) (hk5 : Keep H.next H11 H14) (hw6 : WF H14) :
    CallsTo P gl 17 [.slice op0r op0o op0l op0k op0c, .nils] H (.tup [.nils, .int .i64 t5L0, .int .i64 t6L0]) H14 ∧ WF H14 ∧ Keep H.next H H14 := by
  have kp0 : KeepX H.next [] H H := KeepX.refl
  have q0 : WF H11 := by rw [← hH2]; exact WF.push w0 _
  have q1 : H.next ≤ H11.next := by rw [← hH2]; exact Nat.le_succ _
  have kp1 : KeepX H.next [] H H11 := by rw [← hH2]; exact KeepX.push (KeepX.refl (n := H.next) (xs := []) (H := H)) w0 _
  have q2 : H11.get H.next = some (.cells [] false 0) := by rw [← hH2]; exact get_push_new w0 _
  have q3 : H.next < H11.next := by rw [← hH2]; exact Nat.lt_succ_self _
  obtain ⟨J14, hl4⟩ := hl4.skolem
  have kp2 : KeepX H.next [] H H14 := KeepX.callH kp1 hk5
  exact ⟨callP_calls (orc := [(5, .bit false), (11, .mem H11), (14, .to false [0, 1, 7, 8] .ret [(4, .nils), (5, .int .i64 t5L0), (6, .int .i64 t6L0)] J14 [] H14)]) (fs := [_, _, _]) (by kernel_rfl) ⟨hl4, hH2, (gt_f h1), trivial⟩, hw6, kp2.keep⟩
theorem f17n_b0_p1 {ca1 : AV} {ow7r : Nat} {ow7o : Nat} {ow7l : Nat} {ow7k : Bool} {ow7c : Nat} {H : AH} :
    To P gl none 17 108 (loopB P 17 0) [(0, .nils), (1, ca1), (7, .slice ow7r ow7o ow7l ow7k ow7c), (8, .int .i64 0)] [] H (.exit 0) [(0, .nils), (1, ca1), (7, .slice ow7r ow7o ow7l ow7k ow7c)] [] H := by
  exact execP_to rfl (orc := []) (n := 4) (fs := []) (fun J => by kernel_rfl) trivial
theorem f17_b0_p1 {op0r : Nat} {op0o : Nat} {op0l : Nat} {op0k : Bool} {op0c : Nat} {ca1 : AV} {ow7r : Nat} {ow7o : Nat} {ow7l : Nat} {ow7k : Bool} {ow7c : Nat} {i8 : Nat} {H : AH} (h1 : (i8 : Int) < (op0l : Int)) {p6 : Nat} (h2 : 0 ≤ (i8 : Int)) (h3 : op0o + (i8 : Int).toNat * 1 = p6) {c7 : List AV} {ro7 : Bool} {g7 : Nat} (hg4 : H.get op0r = some (.cells c7 ro7 g7)) {x7 : Int} (h5 : (c7 : List AV)[p6]? = some (.int .i64 x7)) (hc6 : CallsTo P gl 52 [.int .i64 x7, .int .i64 (-10000000), .int .i64 10000000] H (.bool true) H) {H15 : AH} (hH7 : H.push (.cells [.int .i64 x7] false 0) = H15) (w0 : WF H) {y16r : Nat} {y16o : Nat} {y16l : Nat} {y16k : Bool} {y16c : Nat} {H16 : AH} (hA9 : aappend P H15 22 false (.slice ow7r ow7o ow7l ow7k ow7c) (.slice H.next 0 1 true 1) = some (.slice y16r y16o y16l y16k y16c, H16)) {z19 : Int} (h11 : IntKind.wrap .i64 ((i8 : Int) + 1) = z19) :
    To P gl none 17 108 (loopB P 17 0) [(0, .slice op0r op0o op0l op0k op0c), (1, ca1), (7, .slice ow7r ow7o ow7l ow7k ow7c), (8, .int .i64 (i8 : Int))] [] H .normal [(0, .slice op0r op0o op0l op0k op0c), (1, ca1), (7, .slice y16r y16o y16l y16k y16c), (8, .int .i64 z19)] [] H16 ∧ WF H16 ∧ KeepX H.next [ow7r] H H16 := by
  have kp0 : KeepX H.next [] H H := KeepX.refl
  have q0 : WF H15 := by rw [← hH7]; exact WF.push w0 _
  have q1 : H.next ≤ H15.next := by rw [← hH7]; exact Nat.le_succ _
  have kp1 : KeepX H.next [] H H15 := by rw [← hH7]; exact KeepX.push (KeepX.refl (n := H.next) (xs := []) (H := H)) w0 _
  have q2 : H15.get H.next = some (.cells [.int .i64 x7] false 0) := by rw [← hH7]; exact get_push_new w0 _
  have q3 : H.next < H15.next := by rw [← hH7]; exact Nat.lt_succ_self _
  have q4 : WF H16 := append_wf q0 hA9
  have q5 : KeepX H15.next [ow7r] H15 H16 := append_sl q0 hA9
  have kp2 : KeepX H.next [ow7r] H H16 := KeepX.cally kp1 q5
  exact ⟨execP_to rfl (orc := [(3, .bit true), (6, .at p6), (7, .load c7 ro7 g7 (.int .i64 x7)), (8, .call (.bool true) H), (13, .at p6), (14, .load c7 ro7 g7 (.int .i64 x7)), (15, .mem H15), (16, .heap (.slice y16r y16o y16l y16k y16c) H16), (19, .int z19)]) (n := 21) (fs := [_, _, _, _, _, _, _, _, _, _, _, _, _, _, _]) (fun J => by kernel_rfl) ⟨h11, hA9, hH7, hg4, h5, h2, h1, h3, hc6, hg4, h5, h2, h1, h3, (lt_t h1), trivial⟩, q4, kp2⟩
theorem f17_b0_p2 {op0r : Nat} {op0o : Nat} {op0l : Nat} {op0k : Bool} {op0c : Nat} {ca1 : AV} {ow7r : Nat} {ow7o : Nat} {ow7l : Nat} {ow7k : Bool} {ow7c : Nat} {i8 : Nat} {H : AH} (h1 : (i8 : Int) < (op0l : Int)) {p6 : Nat} (h2 : 0 ≤ (i8 : Int)) (h3 : op0o + (i8 : Int).toNat * 1 = p6) {c7 : List AV} {ro7 : Bool} {g7 : Nat} (hg4 : H.get op0r = some (.cells c7 ro7 g7)) {x7 : Int} (h5 : (c7 : List AV)[p6]? = some (.int .i64 x7)) (hc6 : CallsTo P gl 52 [.int .i64 x7, .int .i64 (-10000000), .int .i64 10000000] H (.bool false) H) :
    To P gl none 17 108 (loopB P 17 0) [(0, .slice op0r op0o op0l op0k op0c), (1, ca1), (7, .slice ow7r ow7o ow7l ow7k ow7c), (8, .int .i64 (i8 : Int))] [] H .ret [(4, .nils), (5, .int .i64 0), (6, .int .i64 2)] [] H := by
  exact execP_to rfl (orc := [(3, .bit true), (6, .at p6), (7, .load c7 ro7 g7 (.int .i64 x7)), (8, .call (.bool false) H)]) (n := 13) (fs := [_, _, _, _, _, _, _]) (fun J => by kernel_rfl) ⟨hc6, hg4, h5, h2, h1, h3, (lt_t h1), trivial⟩
theorem f17_b0_p3 {op0r : Nat} {op0o : Nat} {op0l : Nat} {op0k : Bool} {op0c : Nat} {ca1 : AV} {ow7r : Nat} {ow7o : Nat} {ow7l : Nat} {ow7k : Bool} {ow7c : Nat} {i8 : Nat} {H : AH} (h1 : (op0l : Int) ≤ (i8 : Int)) :
    To P gl none 17 108 (loopB P 17 0) [(0, .slice op0r op0o op0l op0k op0c), (1, ca1), (7, .slice ow7r ow7o ow7l ow7k ow7c), (8, .int .i64 (i8 : Int))] [] H (.exit 0) [(0, .slice op0r op0o op0l op0k op0c), (1, ca1), (7, .slice ow7r ow7o ow7l ow7k ow7c)] [] H := by
  exact execP_to rfl (orc := [(3, .bit false)]) (n := 4) (fs := [_]) (fun J => by kernel_rfl) ⟨(lt_f h1), trivial⟩
theorem f17m_b1_p1 {op0r : Nat} {op0o : Nat} {op0l : Nat} {op0k : Bool} {op0c : Nat} {ow7r : Nat} {ow7o : Nat} {ow7l : Nat} {ow7k : Bool} {ow7c : Nat} {H : AH} :
    To P gl none 17 108 (loopB P 17 1) [(0, .slice op0r op0o op0l op0k op0c), (1, .nils), (7, .slice ow7r ow7o ow7l ow7k ow7c), (9, .int .i64 0)] [] H (.exit 2) [(7, .slice ow7r ow7o ow7l ow7k ow7c)] [] H := by
  exact execP_to rfl (orc := []) (n := 4) (fs := []) (fun J => by kernel_rfl) trivial
theorem f17_b1_p1 {op0r : Nat} {op0o : Nat} {op0l : Nat} {op0k : Bool} {op0c : Nat} {ca1r : Nat} {ca1o : Nat} {ca1l : Nat} {ca1k : Bool} {ca1c : Nat} {ow7r : Nat} {ow7o : Nat} {ow7l : Nat} {ow7k : Bool} {ow7c : Nat} {i9 : Nat} {H : AH} (h1 : (i9 : Int) < (ca1l : Int)) {p6 : Nat} (h2 : 0 ≤ (i9 : Int)) (h3 : ca1o + (i9 : Int).toNat * 4 = p6) {c7 : List AV} {ro7 : Bool} {g7 : Nat} (hg4 : H.get ca1r = some (.cells c7 ro7 g7)) {x7Number : Int} {x7Day : Int} {x7Parish : Int} {x7Amount : Int} (h5 : cut c7 p6 4 = some [.int .i64 x7Number, .int .i64 x7Day, .int .i64 x7Parish, .int .i64 x7Amount]) {H8 : AH} (hH6 : H.push (.cells [.int .i64 0, .int .i64 0, .int .i64 0, .int .i64 0] false 1966080) = H8) (w0 : WF H) {H9 : AH} (hH8 : H8.set H.next (.cells [.int .i64 x7Number, .int .i64 x7Day, .int .i64 x7Parish, .int .i64 x7Amount] false 1966080) = H9) {H12 : AH} (hc9 : CallsTo P gl 53 [.agg [.int .i64 x7Number, .int .i64 x7Day, .int .i64 x7Parish, .int .i64 x7Amount]] H9 (.bool true) H12) (hk10 : Keep H9.next H9 H12) (hw11 : WF H12) (h12 : (op0l : Int) ≤ x7Parish) :
    To P gl none 17 108 (loopB P 17 1) [(0, .slice op0r op0o op0l op0k op0c), (1, .slice ca1r ca1o ca1l ca1k ca1c), (7, .slice ow7r ow7o ow7l ow7k ow7c), (9, .int .i64 (i9 : Int))] [] H .ret [(4, .nils), (5, .int .i64 (i9 : Int)), (6, .int .i64 2)] [] H12 ∧ WF H12 ∧ Keep H.next H H12 := by
  have kp0 : KeepX H.next [] H H := KeepX.refl
  have q0 : WF H8 := by rw [← hH6]; exact WF.push w0 _
  have q1 : H.next ≤ H8.next := by rw [← hH6]; exact Nat.le_succ _
  have kp1 : KeepX H.next [] H H8 := by rw [← hH6]; exact KeepX.push (KeepX.refl (n := H.next) (xs := []) (H := H)) w0 _
  have q2 : H8.get H.next = some (.cells [.int .i64 0, .int .i64 0, .int .i64 0, .int .i64 0] false 1966080) := by rw [← hH6]; exact get_push_new w0 _
  have q3 : H.next < H8.next := by rw [← hH6]; exact Nat.lt_succ_self _
  have q4 : WF H9 := by rw [← hH8]; exact WF.set q0 _ _
  have q5 : H8.next ≤ H9.next := by rw [← hH8]; exact Nat.le_refl _
  have kp2 : KeepX H.next [] H H9 := by rw [← hH8]; exact KeepX.set kp1 _ kp0.next
  have q6 : H9.get H.next = some (.cells [.int .i64 x7Number, .int .i64 x7Day, .int .i64 x7Parish, .int .i64 x7Amount] false 1966080) := by rw [← hH8]; exact get_set_eq q0 q3 _
  have q7 : H.next < H9.next := by rw [← hH8]; exact q3
  have kp3 : KeepX H.next [] H H12 := KeepX.call kp2 hk10
  have q8 : H12.get H.next = some (.cells [.int .i64 x7Number, .int .i64 x7Day, .int .i64 x7Parish, .int .i64 x7Amount] false 1966080) := hk10.some q7 q6
  have q9 : H.next < H12.next := Nat.lt_of_lt_of_le q7 hk10.next
  exact ⟨execP_to rfl (orc := [(3, .bit true), (6, .at p6), (7, .load c7 ro7 g7 (.agg [.int .i64 x7Number, .int .i64 x7Day, .int .i64 x7Parish, .int .i64 x7Amount])), (8, .mem H8), (9, .store [.int .i64 0, .int .i64 0, .int .i64 0, .int .i64 0] 1966080 [.int .i64 x7Number, .int .i64 x7Day, .int .i64 x7Parish, .int .i64 x7Amount] H9), (11, .load [.int .i64 x7Number, .int .i64 x7Day, .int .i64 x7Parish, .int .i64 x7Amount] false 1966080 (.agg [.int .i64 x7Number, .int .i64 x7Day, .int .i64 x7Parish, .int .i64 x7Amount])), (12, .call (.bool true) H12), (16, .load [.int .i64 x7Number, .int .i64 x7Day, .int .i64 x7Parish, .int .i64 x7Amount] false 1966080 (.int .i64 x7Parish)), (19, .bit true)]) (n := 25) (fs := [_, _, _, _, _, _, _, _, _, _, _, _, _, _, _, _, _]) (fun J => by kernel_rfl) ⟨(ge_t h12), q8, (rfl : ([.int .i64 x7Number, .int .i64 x7Day, .int .i64 x7Parish, .int .i64 x7Amount] : List AV)[2]? = some (.int .i64 x7Parish)), hc9, q6, (rfl : cut [.int .i64 x7Number, .int .i64 x7Day, .int .i64 x7Parish, .int .i64 x7Amount] 0 4 = some [.int .i64 x7Number, .int .i64 x7Day, .int .i64 x7Parish, .int .i64 x7Amount]), q2, (Nat.le_of_ble_eq_true rfl : 0 + 4 ≤ ([.int .i64 0, .int .i64 0, .int .i64 0, .int .i64 0] : List AV).length), (rfl : setL [.int .i64 0, .int .i64 0, .int .i64 0, .int .i64 0] 0 [.int .i64 x7Number, .int .i64 x7Day, .int .i64 x7Parish, .int .i64 x7Amount] = [.int .i64 x7Number, .int .i64 x7Day, .int .i64 x7Parish, .int .i64 x7Amount]), hH8, hH6, hg4, h5, h2, h1, h3, (lt_t h1), trivial⟩, hw11, kp3.keep⟩
theorem f17_b1_p2 {op0r : Nat} {op0o : Nat} {op0l : Nat} {op0k : Bool} {op0c : Nat} {ca1r : Nat} {ca1o : Nat} {ca1l : Nat} {ca1k : Bool} {ca1c : Nat} {ow7r : Nat} {ow7o : Nat} {ow7l : Nat} {ow7k : Bool} {ow7c : Nat} {i9 : Nat} {H : AH} (h1 : (i9 : Int) < (ca1l : Int)) {p6 : Nat} (h2 : 0 ≤ (i9 : Int)) (h3 : ca1o + (i9 : Int).toNat * 4 = p6) {c7 : List AV} {ro7 : Bool} {g7 : Nat} (hg4 : H.get ca1r = some (.cells c7 ro7 g7)) {x7Number : Int} {x7Day : Int} {x7Parish : Int} {x7Amount : Int} (h5 : cut c7 p6 4 = some [.int .i64 x7Number, .int .i64 x7Day, .int .i64 x7Parish, .int .i64 x7Amount]) {H8 : AH} (hH6 : H.push (.cells [.int .i64 0, .int .i64 0, .int .i64 0, .int .i64 0] false 1966080) = H8) (w0 : WF H) {H9 : AH} (hH8 : H8.set H.next (.cells [.int .i64 x7Number, .int .i64 x7Day, .int .i64 x7Parish, .int .i64 x7Amount] false 1966080) = H9) {H12 : AH} (hc9 : CallsTo P gl 53 [.agg [.int .i64 x7Number, .int .i64 x7Day, .int .i64 x7Parish, .int .i64 x7Amount]] H9 (.bool true) H12) (hk10 : Keep H9.next H9 H12) (hw11 : WF H12) (h12 : x7Parish < (op0l : Int)) (hl13 : To P gl none 17 108 (.loop (loopB P 17 2)) [(0, .slice op0r op0o op0l op0k op0c), (1, .slice ca1r ca1o ca1l ca1k ca1c), (7, .slice ow7r ow7o ow7l ow7k ow7c), (9, .int .i64 (i9 : Int)), (10, .ptr H.next 0), (11, .bool false), (12, .int .i64 0)] [] H12 (.exit 4) [(0, .slice op0r op0o op0l op0k op0c), (1, .slice ca1r ca1o ca1l ca1k ca1c), (7, .slice ow7r ow7o ow7l ow7k ow7c), (9, .int .i64 (i9 : Int)), (10, .ptr H.next 0), (11, .bool true)] [] H12) {z26 : Int} (h14 : IntKind.wrap .i64 ((i9 : Int) + 1) = z26) :
    To P gl none 17 108 (loopB P 17 1) [(0, .slice op0r op0o op0l op0k op0c), (1, .slice ca1r ca1o ca1l ca1k ca1c), (7, .slice ow7r ow7o ow7l ow7k ow7c), (9, .int .i64 (i9 : Int))] [] H .normal [(0, .slice op0r op0o op0l op0k op0c), (1, .slice ca1r ca1o ca1l ca1k ca1c), (7, .slice ow7r ow7o ow7l ow7k ow7c), (9, .int .i64 z26)] [] H12 ∧ WF H12 ∧ Keep H.next H H12 := by
  have kp0 : KeepX H.next [] H H := KeepX.refl
  have q0 : WF H8 := by rw [← hH6]; exact WF.push w0 _
  have q1 : H.next ≤ H8.next := by rw [← hH6]; exact Nat.le_succ _
  have kp1 : KeepX H.next [] H H8 := by rw [← hH6]; exact KeepX.push (KeepX.refl (n := H.next) (xs := []) (H := H)) w0 _
  have q2 : H8.get H.next = some (.cells [.int .i64 0, .int .i64 0, .int .i64 0, .int .i64 0] false 1966080) := by rw [← hH6]; exact get_push_new w0 _
  have q3 : H.next < H8.next := by rw [← hH6]; exact Nat.lt_succ_self _
  have q4 : WF H9 := by rw [← hH8]; exact WF.set q0 _ _
  have q5 : H8.next ≤ H9.next := by rw [← hH8]; exact Nat.le_refl _
  have kp2 : KeepX H.next [] H H9 := by rw [← hH8]; exact KeepX.set kp1 _ kp0.next
  have q6 : H9.get H.next = some (.cells [.int .i64 x7Number, .int .i64 x7Day, .int .i64 x7Parish, .int .i64 x7Amount] false 1966080) := by rw [← hH8]; exact get_set_eq q0 q3 _
  have q7 : H.next < H9.next := by rw [← hH8]; exact q3
  have kp3 : KeepX H.next [] H H12 := KeepX.call kp2 hk10
  have q8 : H12.get H.next = some (.cells [.int .i64 x7Number, .int .i64 x7Day, .int .i64 x7Parish, .int .i64 x7Amount] false 1966080) := hk10.some q7 q6
  have q9 : H.next < H12.next := Nat.lt_of_lt_of_le q7 hk10.next
  obtain ⟨J22, hl13⟩ := hl13.skolem
  exact ⟨execP_to rfl (orc := [(3, .bit true), (6, .at p6), (7, .load c7 ro7 g7 (.agg [.int .i64 x7Number, .int .i64 x7Day, .int .i64 x7Parish, .int .i64 x7Amount])), (8, .mem H8), (9, .store [.int .i64 0, .int .i64 0, .int .i64 0, .int .i64 0] 1966080 [.int .i64 x7Number, .int .i64 x7Day, .int .i64 x7Parish, .int .i64 x7Amount] H9), (11, .load [.int .i64 x7Number, .int .i64 x7Day, .int .i64 x7Parish, .int .i64 x7Amount] false 1966080 (.agg [.int .i64 x7Number, .int .i64 x7Day, .int .i64 x7Parish, .int .i64 x7Amount])), (12, .call (.bool true) H12), (16, .load [.int .i64 x7Number, .int .i64 x7Day, .int .i64 x7Parish, .int .i64 x7Amount] false 1966080 (.int .i64 x7Parish)), (19, .bit false), (22, .to false [0, 1, 7, 9, 10, 11, 12] (.exit 4) [(0, .slice op0r op0o op0l op0k op0c), (1, .slice ca1r ca1o ca1l ca1k ca1c), (7, .slice ow7r ow7o ow7l ow7k ow7c), (9, .int .i64 (i9 : Int)), (10, .ptr H.next 0), (11, .bool true)] J22 [] H12), (26, .int z26)]) (n := 28) (fs := [_, _, _, _, _, _, _, _, _, _, _, _, _, _, _, _, _, _, _]) (fun J => by kernel_rfl) ⟨h14, hl13, (ge_f h12), q8, (rfl : ([.int .i64 x7Number, .int .i64 x7Day, .int .i64 x7Parish, .int .i64 x7Amount] : List AV)[2]? = some (.int .i64 x7Parish)), hc9, q6, (rfl : cut [.int .i64 x7Number, .int .i64 x7Day, .int .i64 x7Parish, .int .i64 x7Amount] 0 4 = some [.int .i64 x7Number, .int .i64 x7Day, .int .i64 x7Parish, .int .i64 x7Amount]), q2, (Nat.le_of_ble_eq_true rfl : 0 + 4 ≤ ([.int .i64 0, .int .i64 0, .int .i64 0, .int .i64 0] : List AV).length), (rfl : setL [.int .i64 0, .int .i64 0, .int .i64 0, .int .i64 0] 0 [.int .i64 x7Number, .int .i64 x7Day, .int .i64 x7Parish, .int .i64 x7Amount] = [.int .i64 x7Number, .int .i64 x7Day, .int .i64 x7Parish, .int .i64 x7Amount]), hH8, hH6, hg4, h5, h2, h1, h3, (lt_t h1), trivial⟩, hw11, kp3.keep⟩
theorem f17_b1_p3 {op0r : Nat} {op0o : Nat} {op0l : Nat} {op0k : Bool} {op0c : Nat} {ca1r : Nat} {ca1o : Nat} {ca1l : Nat} {ca1k : Bool} {ca1c : Nat} {ow7r : Nat} {ow7o : Nat} {ow7l : Nat} {ow7k : Bool} {ow7c : Nat} {i9 : Nat} {H : AH} (h1 : (i9 : Int) < (ca1l : Int)) {p6 : Nat} (h2 : 0 ≤ (i9 : Int)) (h3 : ca1o + (i9 : Int).toNat * 4 = p6) {c7 : List AV} {ro7 : Bool} {g7 : Nat} (hg4 : H.get ca1r = some (.cells c7 ro7 g7)) {x7Number : Int} {x7Day : Int} {x7Parish : Int} {x7Amount : Int} (h5 : cut c7 p6 4 = some [.int .i64 x7Number, .int .i64 x7Day, .int .i64 x7Parish, .int .i64 x7Amount]) {H8 : AH} (hH6 : H.push (.cells [.int .i64 0, .int .i64 0, .int .i64 0, .int .i64 0] false 1966080) = H8) (w0 : WF H) {H9 : AH} (hH8 : H8.set H.next (.cells [.int .i64 x7Number, .int .i64 x7Day, .int .i64 x7Parish, .int .i64 x7Amount] false 1966080) = H9) {H12 : AH} (hc9 : CallsTo P gl 53 [.agg [.int .i64 x7Number, .int .i64 x7Day, .int .i64 x7Parish, .int .i64 x7Amount]] H9 (.bool true) H12) (hk10 : Keep H9.next H9 H12) (hw11 : WF H12) (h12 : x7Parish < (op0l : Int)) (hl13 : To P gl none 17 108 (.loop (loopB P 17 2)) [(0, .slice op0r op0o op0l op0k op0c), (1, .slice ca1r ca1o ca1l ca1k ca1c), (7, .slice ow7r ow7o ow7l ow7k ow7c), (9, .int .i64 (i9 : Int)), (10, .ptr H.next 0), (11, .bool false), (12, .int .i64 0)] [] H12 (.exit 4) [(0, .slice op0r op0o op0l op0k op0c), (1, .slice ca1r ca1o ca1l ca1k ca1c), (7, .slice ow7r ow7o ow7l ow7k ow7c), (9, .int .i64 (i9 : Int)), (10, .ptr H.next 0), (11, .bool false)] [] H12) {p28 : Nat} (h14 : 0 ≤ x7Parish) (h15 : x7Parish < (ow7l : Int)) (h16 : ow7o + x7Parish.toNat * 1 = p28) {c29 : List AV} {ro29 : Bool} {g29 : Nat} (hg17 : H.get ow7r = some (.cells c29 ro29 g29)) {x29 : Int} (h18 : (c29 : List AV)[p28]? = some (.int .i64 x29)) {z32 : Int} (h19 : IntKind.wrap .i64 (x29 + x7Amount) = z32) {H34 : AH} {d34 : List AV} (h20 : ro29 = false) (h21 : p28 + 1 ≤ c29.length) (h22 : setL c29 p28 [.int .i64 z32] = d34) (hH23 : H12.set ow7r (.cells d34 false g29) = H34) {z36 : Int} (h24 : IntKind.wrap .i64 ((i9 : Int) + 1) = z36) :
    To P gl none 17 108 (loopB P 17 1) [(0, .slice op0r op0o op0l op0k op0c), (1, .slice ca1r ca1o ca1l ca1k ca1c), (7, .slice ow7r ow7o ow7l ow7k ow7c), (9, .int .i64 (i9 : Int))] [] H .normal [(0, .slice op0r op0o op0l op0k op0c), (1, .slice ca1r ca1o ca1l ca1k ca1c), (7, .slice ow7r ow7o ow7l ow7k ow7c), (9, .int .i64 z36)] [] H34 ∧ WF H34 ∧ KeepX H.next [ow7r] H H34 := by
  have kp0 : KeepX H.next [] H H := KeepX.refl
  have q0 : WF H8 := by rw [← hH6]; exact WF.push w0 _
  have q1 : H.next ≤ H8.next := by rw [← hH6]; exact Nat.le_succ _
  have kp1 : KeepX H.next [] H H8 := by rw [← hH6]; exact KeepX.push (KeepX.refl (n := H.next) (xs := []) (H := H)) w0 _
  have q2 : H8.get H.next = some (.cells [.int .i64 0, .int .i64 0, .int .i64 0, .int .i64 0] false 1966080) := by rw [← hH6]; exact get_push_new w0 _
  have q3 : H.next < H8.next := by rw [← hH6]; exact Nat.lt_succ_self _
  have q4 : WF H9 := by rw [← hH8]; exact WF.set q0 _ _
  have q5 : H8.next ≤ H9.next := by rw [← hH8]; exact Nat.le_refl _
  have kp2 : KeepX H.next [] H H9 := by rw [← hH8]; exact KeepX.set kp1 _ kp0.next
  have q6 : H9.get H.next = some (.cells [.int .i64 x7Number, .int .i64 x7Day, .int .i64 x7Parish, .int .i64 x7Amount] false 1966080) := by rw [← hH8]; exact get_set_eq q0 q3 _
  have q7 : H.next < H9.next := by rw [← hH8]; exact q3
  have kp3 : KeepX H.next [] H H12 := KeepX.call kp2 hk10
  have q8 : H12.get H.next = some (.cells [.int .i64 x7Number, .int .i64 x7Day, .int .i64 x7Parish, .int .i64 x7Amount] false 1966080) := hk10.some q7 q6
  have q9 : H.next < H12.next := Nat.lt_of_lt_of_le q7 hk10.next
  obtain ⟨J22, hl13⟩ := hl13.skolem
  have q10 : H8.get ow7r = some (.cells c29 ro29 g29) := by rw [← hH6]; exact (get_push_lt w0 _ (w0.lt hg17)).trans hg17
  have q11 : ow7r < H8.next := Nat.lt_of_lt_of_le (w0.lt hg17) q1
  have q12 : H9.get ow7r = some (.cells c29 ro29 g29) := by rw [← hH8]; exact (get_set_ne (Nat.ne_of_lt (w0.lt hg17))).trans q10
  have q13 : ow7r < H9.next := Nat.lt_of_lt_of_le q11 q5
  have q14 : H12.get ow7r = some (.cells c29 ro29 g29) := hk10.some q13 q12
  have q15 : ow7r < H12.next := Nat.lt_of_lt_of_le q13 hk10.next
  have q16 : WF H34 := by rw [← hH23]; exact WF.set hw11 _ _
  have q17 : H12.next ≤ H34.next := by rw [← hH23]; exact Nat.le_refl _
  have kp4 : KeepX H.next [ow7r] H H34 := by rw [← hH23]; exact KeepX.setx kp3 _ _
  have q18 : H34.get ow7r = some (.cells d34 false g29) := by rw [← hH23]; exact get_set_eq hw11 q15 _
  have q19 : ow7r < H34.next := by rw [← hH23]; exact q15
  have q20 : ow7r < H12.next := (Nat.lt_of_lt_of_le (Nat.lt_of_lt_of_le (Nat.lt_of_lt_of_le (w0.lt hg17) q1) q5) hk10.next)
  exact ⟨execP_to rfl (orc := [(3, .bit true), (6, .at p6), (7, .load c7 ro7 g7 (.agg [.int .i64 x7Number, .int .i64 x7Day, .int .i64 x7Parish, .int .i64 x7Amount])), (8, .mem H8), (9, .store [.int .i64 0, .int .i64 0, .int .i64 0, .int .i64 0] 1966080 [.int .i64 x7Number, .int .i64 x7Day, .int .i64 x7Parish, .int .i64 x7Amount] H9), (11, .load [.int .i64 x7Number, .int .i64 x7Day, .int .i64 x7Parish, .int .i64 x7Amount] false 1966080 (.agg [.int .i64 x7Number, .int .i64 x7Day, .int .i64 x7Parish, .int .i64 x7Amount])), (12, .call (.bool true) H12), (16, .load [.int .i64 x7Number, .int .i64 x7Day, .int .i64 x7Parish, .int .i64 x7Amount] false 1966080 (.int .i64 x7Parish)), (19, .bit false), (22, .to false [0, 1, 7, 9, 10, 11, 12] (.exit 4) [(0, .slice op0r op0o op0l op0k op0c), (1, .slice ca1r ca1o ca1l ca1k ca1c), (7, .slice ow7r ow7o ow7l ow7k ow7c), (9, .int .i64 (i9 : Int)), (10, .ptr H.next 0), (11, .bool false)] J22 [] H12), (27, .load [.int .i64 x7Number, .int .i64 x7Day, .int .i64 x7Parish, .int .i64 x7Amount] false 1966080 (.int .i64 x7Parish)), (28, .at p28), (29, .load c29 ro29 g29 (.int .i64 x29)), (31, .load [.int .i64 x7Number, .int .i64 x7Day, .int .i64 x7Parish, .int .i64 x7Amount] false 1966080 (.int .i64 x7Amount)), (32, .int z32), (33, .at p28), (34, .store c29 g29 d34 H34), (36, .int z36)]) (n := 38) (fs := [_, _, _, _, _, _, _, _, _, _, _, _, _, _, _, _, _, _, _, _, _, _, _, _, _, _, _, _, _, _, _, _, _, _, _, _, _, _]) (fun J => by kernel_rfl) ⟨h24, q20, q17, (h20 ▸ q14 : H12.get ow7r = some (.cells c29 false g29)), h21, h22, hH23, h14, h15, h16, h19, q8, (rfl : ([.int .i64 x7Number, .int .i64 x7Day, .int .i64 x7Parish, .int .i64 x7Amount] : List AV)[3]? = some (.int .i64 x7Amount)), q14, h18, h14, h15, h16, q8, (rfl : ([.int .i64 x7Number, .int .i64 x7Day, .int .i64 x7Parish, .int .i64 x7Amount] : List AV)[2]? = some (.int .i64 x7Parish)), hl13, (ge_f h12), q8, (rfl : ([.int .i64 x7Number, .int .i64 x7Day, .int .i64 x7Parish, .int .i64 x7Amount] : List AV)[2]? = some (.int .i64 x7Parish)), hc9, q6, (rfl : cut [.int .i64 x7Number, .int .i64 x7Day, .int .i64 x7Parish, .int .i64 x7Amount] 0 4 = some [.int .i64 x7Number, .int .i64 x7Day, .int .i64 x7Parish, .int .i64 x7Amount]), q2, (Nat.le_of_ble_eq_true rfl : 0 + 4 ≤ ([.int .i64 0, .int .i64 0, .int .i64 0, .int .i64 0] : List AV).length), (rfl : setL [.int .i64 0, .int .i64 0, .int .i64 0, .int .i64 0] 0 [.int .i64 x7Number, .int .i64 x7Day, .int .i64 x7Parish, .int .i64 x7Amount] = [.int .i64 x7Number, .int .i64 x7Day, .int .i64 x7Parish, .int .i64 x7Amount]), hH8, hH6, hg4, h5, h2, h1, h3, (lt_t h1), trivial⟩, q16, kp4⟩
theorem f17_b1_p4 {op0r : Nat} {op0o : Nat} {op0l : Nat} {op0k : Bool} {op0c : Nat} {ca1r : Nat} {ca1o : Nat} {ca1l : Nat} {ca1k : Bool} {ca1c : Nat} {ow7r : Nat} {ow7o : Nat} {ow7l : Nat} {ow7k : Bool} {ow7c : Nat} {i9 : Nat} {H : AH} (h1 : (i9 : Int) < (ca1l : Int)) {p6 : Nat} (h2 : 0 ≤ (i9 : Int)) (h3 : ca1o + (i9 : Int).toNat * 4 = p6) {c7 : List AV} {ro7 : Bool} {g7 : Nat} (hg4 : H.get ca1r = some (.cells c7 ro7 g7)) {x7Number : Int} {x7Day : Int} {x7Parish : Int} {x7Amount : Int} (h5 : cut c7 p6 4 = some [.int .i64 x7Number, .int .i64 x7Day, .int .i64 x7Parish, .int .i64 x7Amount]) {H8 : AH} (hH6 : H.push (.cells [.int .i64 0, .int .i64 0, .int .i64 0, .int .i64 0] false 1966080) = H8) (w0 : WF H) {H9 : AH} (hH8 : H8.set H.next (.cells [.int .i64 x7Number, .int .i64 x7Day, .int .i64 x7Parish, .int .i64 x7Amount] false 1966080) = H9) {H12 : AH} (hc9 : CallsTo P gl 53 [.agg [.int .i64 x7Number, .int .i64 x7Day, .int .i64 x7Parish, .int .i64 x7Amount]] H9 (.bool true) H12) (hk10 : Keep H9.next H9 H12) (hw11 : WF H12) (h12 : x7Parish < (op0l : Int)) {t5L2 : Int} {t6L2 : Int} (hl13 : To P gl none 17 108 (.loop (loopB P 17 2)) [(0, .slice op0r op0o op0l op0k op0c), (1, .slice ca1r ca1o ca1l ca1k ca1c), (7, .slice ow7r ow7o ow7l ow7k ow7c), (9, .int .i64 (i9 : Int)), (10, .ptr H.next 0), (11, .bool false), (12, .int .i64 0)] [] H12 .ret [(4, .nils), (5, .int .i64 t5L2), (6, .int .i64 t6L2)] [] H12) :
    To P gl none 17 108 (loopB P 17 1) [(0, .slice op0r op0o op0l op0k op0c), (1, .slice ca1r ca1o ca1l ca1k ca1c), (7, .slice ow7r ow7o ow7l ow7k ow7c), (9, .int .i64 (i9 : Int))] [] H .ret [(4, .nils), (5, .int .i64 t5L2), (6, .int .i64 t6L2)] [] H12 ∧ WF H12 ∧ Keep H.next H H12 := by
  have kp0 : KeepX H.next [] H H := KeepX.refl
  have q0 : WF H8 := by rw [← hH6]; exact WF.push w0 _
  have q1 : H.next ≤ H8.next := by rw [← hH6]; exact Nat.le_succ _
  have kp1 : KeepX H.next [] H H8 := by rw [← hH6]; exact KeepX.push (KeepX.refl (n := H.next) (xs := []) (H := H)) w0 _
  have q2 : H8.get H.next = some (.cells [.int .i64 0, .int .i64 0, .int .i64 0, .int .i64 0] false 1966080) := by rw [← hH6]; exact get_push_new w0 _
  have q3 : H.next < H8.next := by rw [← hH6]; exact Nat.lt_succ_self _
  have q4 : WF H9 := by rw [← hH8]; exact WF.set q0 _ _
  have q5 : H8.next ≤ H9.next := by rw [← hH8]; exact Nat.le_refl _
  have kp2 : KeepX H.next [] H H9 := by rw [← hH8]; exact KeepX.set kp1 _ kp0.next
  have q6 : H9.get H.next = some (.cells [.int .i64 x7Number, .int .i64 x7Day, .int .i64 x7Parish, .int .i64 x7Amount] false 1966080) := by rw [← hH8]; exact get_set_eq q0 q3 _
  have q7 : H.next < H9.next := by rw [← hH8]; exact q3
  have kp3 : KeepX H.next [] H H12 := KeepX.call kp2 hk10
  have q8 : H12.get H.next = some (.cells [.int .i64 x7Number, .int .i64 x7Day, .int .i64 x7Parish, .int .i64 x7Amount] false 1966080) := hk10.some q7 q6
  have q9 : H.next < H12.next := Nat.lt_of_lt_of_le q7 hk10.next
  obtain ⟨J22, hl13⟩ := hl13.skolem
  exact ⟨execP_to rfl (orc := [(3, .bit true), (6, .at p6), (7, .load c7 ro7 g7 (.agg [.int .i64 x7Number, .int .i64 x7Day, .int .i64 x7Parish, .int .i64 x7Amount])), (8, .mem H8), (9, .store [.int .i64 0, .int .i64 0, .int .i64 0, .int .i64 0] 1966080 [.int .i64 x7Number, .int .i64 x7Day, .int .i64 x7Parish, .int .i64 x7Amount] H9), (11, .load [.int .i64 x7Number, .int .i64 x7Day, .int .i64 x7Parish, .int .i64 x7Amount] false 1966080 (.agg [.int .i64 x7Number, .int .i64 x7Day, .int .i64 x7Parish, .int .i64 x7Amount])), (12, .call (.bool true) H12), (16, .load [.int .i64 x7Number, .int .i64 x7Day, .int .i64 x7Parish, .int .i64 x7Amount] false 1966080 (.int .i64 x7Parish)), (19, .bit false), (22, .to false [0, 1, 7, 9, 10, 11, 12] .ret [(4, .nils), (5, .int .i64 t5L2), (6, .int .i64 t6L2)] J22 [] H12)]) (n := 23) (fs := [_, _, _, _, _, _, _, _, _, _, _, _, _, _, _, _, _, _]) (fun J => by kernel_rfl) ⟨hl13, (ge_f h12), q8, (rfl : ([.int .i64 x7Number, .int .i64 x7Day, .int .i64 x7Parish, .int .i64 x7Amount] : List AV)[2]? = some (.int .i64 x7Parish)), hc9, q6, (rfl : cut [.int .i64 x7Number, .int .i64 x7Day, .int .i64 x7Parish, .int .i64 x7Amount] 0 4 = some [.int .i64 x7Number, .int .i64 x7Day, .int .i64 x7Parish, .int .i64 x7Amount]), q2, (Nat.le_of_ble_eq_true rfl : 0 + 4 ≤ ([.int .i64 0, .int .i64 0, .int .i64 0, .int .i64 0] : List AV).length), (rfl : setL [.int .i64 0, .int .i64 0, .int .i64 0, .int .i64 0] 0 [.int .i64 x7Number, .int .i64 x7Day, .int .i64 x7Parish, .int .i64 x7Amount] = [.int .i64 x7Number, .int .i64 x7Day, .int .i64 x7Parish, .int .i64 x7Amount]), hH8, hH6, hg4, h5, h2, h1, h3, (lt_t h1), trivial⟩, hw11, kp3.keep⟩
theorem f17_b1_p5 {op0r : Nat} {op0o : Nat} {op0l : Nat} {op0k : Bool} {op0c : Nat} {ca1r : Nat} {ca1o : Nat} {ca1l : Nat} {ca1k : Bool} {ca1c : Nat} {ow7r : Nat} {ow7o : Nat} {ow7l : Nat} {ow7k : Bool} {ow7c : Nat} {i9 : Nat} {H : AH} (h1 : (i9 : Int) < (ca1l : Int)) {p6 : Nat} (h2 : 0 ≤ (i9 : Int)) (h3 : ca1o + (i9 : Int).toNat * 4 = p6) {c7 : List AV} {ro7 : Bool} {g7 : Nat} (hg4 : H.get ca1r = some (.cells c7 ro7 g7)) {x7Number : Int} {x7Day : Int} {x7Parish : Int} {x7Amount : Int} (h5 : cut c7 p6 4 = some [.int .i64 x7Number, .int .i64 x7Day, .int .i64 x7Parish, .int .i64 x7Amount]) {H8 : AH} (hH6 : H.push (.cells [.int .i64 0, .int .i64 0, .int .i64 0, .int .i64 0] false 1966080) = H8) (w0 : WF H) {H9 : AH} (hH8 : H8.set H.next (.cells [.int .i64 x7Number, .int .i64 x7Day, .int .i64 x7Parish, .int .i64 x7Amount] false 1966080) = H9) {H12 : AH} (hc9 : CallsTo P gl 53 [.agg [.int .i64 x7Number, .int .i64 x7Day, .int .i64 x7Parish, .int .i64 x7Amount]] H9 (.bool false) H12) (hk10 : Keep H9.next H9 H12) (hw11 : WF H12) :
    To P gl none 17 108 (loopB P 17 1) [(0, .slice op0r op0o op0l op0k op0c), (1, .slice ca1r ca1o ca1l ca1k ca1c), (7, .slice ow7r ow7o ow7l ow7k ow7c), (9, .int .i64 (i9 : Int))] [] H .ret [(4, .nils), (5, .int .i64 (i9 : Int)), (6, .int .i64 2)] [] H12 ∧ WF H12 ∧ Keep H.next H H12 := by
  have kp0 : KeepX H.next [] H H := KeepX.refl
  have q0 : WF H8 := by rw [← hH6]; exact WF.push w0 _
  have q1 : H.next ≤ H8.next := by rw [← hH6]; exact Nat.le_succ _
  have kp1 : KeepX H.next [] H H8 := by rw [← hH6]; exact KeepX.push (KeepX.refl (n := H.next) (xs := []) (H := H)) w0 _
  have q2 : H8.get H.next = some (.cells [.int .i64 0, .int .i64 0, .int .i64 0, .int .i64 0] false 1966080) := by rw [← hH6]; exact get_push_new w0 _
  have q3 : H.next < H8.next := by rw [← hH6]; exact Nat.lt_succ_self _
  have q4 : WF H9 := by rw [← hH8]; exact WF.set q0 _ _
  have q5 : H8.next ≤ H9.next := by rw [← hH8]; exact Nat.le_refl _
  have kp2 : KeepX H.next [] H H9 := by rw [← hH8]; exact KeepX.set kp1 _ kp0.next
  have q6 : H9.get H.next = some (.cells [.int .i64 x7Number, .int .i64 x7Day, .int .i64 x7Parish, .int .i64 x7Amount] false 1966080) := by rw [← hH8]; exact get_set_eq q0 q3 _
  have q7 : H.next < H9.next := by rw [← hH8]; exact q3
  have kp3 : KeepX H.next [] H H12 := KeepX.call kp2 hk10
  exact ⟨execP_to rfl (orc := [(3, .bit true), (6, .at p6), (7, .load c7 ro7 g7 (.agg [.int .i64 x7Number, .int .i64 x7Day, .int .i64 x7Parish, .int .i64 x7Amount])), (8, .mem H8), (9, .store [.int .i64 0, .int .i64 0, .int .i64 0, .int .i64 0] 1966080 [.int .i64 x7Number, .int .i64 x7Day, .int .i64 x7Parish, .int .i64 x7Amount] H9), (11, .load [.int .i64 x7Number, .int .i64 x7Day, .int .i64 x7Parish, .int .i64 x7Amount] false 1966080 (.agg [.int .i64 x7Number, .int .i64 x7Day, .int .i64 x7Parish, .int .i64 x7Amount])), (12, .call (.bool false) H12)]) (n := 25) (fs := [_, _, _, _, _, _, _, _, _, _, _, _, _, _]) (fun J => by kernel_rfl) ⟨hc9, q6, (rfl : cut [.int .i64 x7Number, .int .i64 x7Day, .int .i64 x7Parish, .int .i64 x7Amount] 0 4 = some [.int .i64 x7Number, .int .i64 x7Day, .int .i64 x7Parish, .int .i64 x7Amount]), q2, (Nat.le_of_ble_eq_true rfl : 0 + 4 ≤ ([.int .i64 0, .int .i64 0, .int .i64 0, .int .i64 0] : List AV).length), (rfl : setL [.int .i64 0, .int .i64 0, .int .i64 0, .int .i64 0] 0 [.int .i64 x7Number, .int .i64 x7Day, .int .i64 x7Parish, .int .i64 x7Amount] = [.int .i64 x7Number, .int .i64 x7Day, .int .i64 x7Parish, .int .i64 x7Amount]), hH8, hH6, hg4, h5, h2, h1, h3, (lt_t h1), trivial⟩, hw11, kp3.keep⟩
theorem f17_b1_p6 {op0r : Nat} {op0o : Nat} {op0l : Nat} {op0k : Bool} {op0c : Nat} {ca1r : Nat} {ca1o : Nat} {ca1l : Nat} {ca1k : Bool} {ca1c : Nat} {ow7r : Nat} {ow7o : Nat} {ow7l : Nat} {ow7k : Bool} {ow7c : Nat} {i9 : Nat} {H : AH} (h1 : (ca1l : Int) ≤ (i9 : Int)) :
    To P gl none 17 108 (loopB P 17 1) [(0, .slice op0r op0o op0l op0k op0c), (1, .slice ca1r ca1o ca1l ca1k ca1c), (7, .slice ow7r ow7o ow7l ow7k ow7c), (9, .int .i64 (i9 : Int))] [] H (.exit 2) [(7, .slice ow7r ow7o ow7l ow7k ow7c)] [] H := by
  exact execP_to rfl (orc := [(3, .bit false)]) (n := 4) (fs := [_]) (fun J => by kernel_rfl) ⟨(lt_f h1), trivial⟩
theorem f17_b2_p1 {op0r : Nat} {op0o : Nat} {op0l : Nat} {op0k : Bool} {op0c : Nat} {ca1r : Nat} {ca1o : Nat} {ca1l : Nat} {ca1k : Bool} {ca1c : Nat} {ow7r : Nat} {ow7o : Nat} {ow7l : Nat} {ow7k : Bool} {ow7c : Nat} {i9 : Nat} {c10r : Nat} {k12 : Nat} {H : AH} (h1 : (k12 : Int) < (i9 : Int)) {p5 : Nat} (h2 : 0 ≤ (k12 : Int)) (h3 : (k12 : Int) < (ca1l : Int)) (h4 : ca1o + (k12 : Int).toNat * 4 = p5) {c7 : List AV} {ro7 : Bool} {g7 : Nat} (hg5 : H.get ca1r = some (.cells c7 ro7 g7)) {x7 : Int} (h6 : (c7 : List AV)[p5]? = some (.int .i64 x7)) {c9 : List AV} {ro9 : Bool} {g9 : Nat} (hg7 : H.get c10r = some (.cells c9 ro9 g9)) {x9 : Int} (h8 : (c9 : List AV)[0]? = some (.int .i64 x9)) (h9 : x7 = x9) {x15Number : Int} {x15Day : Int} {x15Parish : Int} {x15Amount : Int} (h10 : cut c7 p5 4 = some [.int .i64 x15Number, .int .i64 x15Day, .int .i64 x15Parish, .int .i64 x15Amount]) {x16Number : Int} {x16Day : Int} {x16Parish : Int} {x16Amount : Int} (h11 : cut c9 0 4 = some [.int .i64 x16Number, .int .i64 x16Day, .int .i64 x16Parish, .int .i64 x16Amount]) (h12 : AV.beqL [.int .i64 x15Number, .int .i64 x15Day, .int .i64 x15Parish, .int .i64 x15Amount] [.int .i64 x16Number, .int .i64 x16Day, .int .i64 x16Parish, .int .i64 x16Amount] = false) :
    To P gl none 17 108 (loopB P 17 2) [(0, .slice op0r op0o op0l op0k op0c), (1, .slice ca1r ca1o ca1l ca1k ca1c), (7, .slice ow7r ow7o ow7l ow7k ow7c), (9, .int .i64 (i9 : Int)), (10, .ptr c10r 0), (11, .bool true), (12, .int .i64 (k12 : Int))] [] H .ret [(4, .nils), (5, .int .i64 (i9 : Int)), (6, .int .i64 4)] [] H := by
  exact execP_to rfl (orc := [(2, .bit true), (5, .at p5), (7, .load c7 ro7 g7 (.int .i64 x7)), (9, .load c9 ro9 g9 (.int .i64 x9)), (10, .bit true), (14, .at p5), (15, .load c7 ro7 g7 (.agg [.int .i64 x15Number, .int .i64 x15Day, .int .i64 x15Parish, .int .i64 x15Amount])), (16, .load c9 ro9 g9 (.agg [.int .i64 x16Number, .int .i64 x16Day, .int .i64 x16Parish, .int .i64 x16Amount])), (17, .bit true)]) (n := 23) (fs := [_, _, _, _, _, _, _, _, _, _, _, _, _, _, _, _, _]) (fun J => by kernel_rfl) ⟨(not_t h12), hg7, h11, hg5, h10, h2, h3, h4, (ieq_t h9), hg7, h8, hg5, h6, h2, h3, h4, (lt_t h1), trivial⟩
theorem f17_b2_p2 {op0r : Nat} {op0o : Nat} {op0l : Nat} {op0k : Bool} {op0c : Nat} {ca1r : Nat} {ca1o : Nat} {ca1l : Nat} {ca1k : Bool} {ca1c : Nat} {ow7r : Nat} {ow7o : Nat} {ow7l : Nat} {ow7k : Bool} {ow7c : Nat} {i9 : Nat} {c10r : Nat} {k12 : Nat} {H : AH} (h1 : (k12 : Int) < (i9 : Int)) {p5 : Nat} (h2 : 0 ≤ (k12 : Int)) (h3 : (k12 : Int) < (ca1l : Int)) (h4 : ca1o + (k12 : Int).toNat * 4 = p5) {c7 : List AV} {ro7 : Bool} {g7 : Nat} (hg5 : H.get ca1r = some (.cells c7 ro7 g7)) {x7 : Int} (h6 : (c7 : List AV)[p5]? = some (.int .i64 x7)) {c9 : List AV} {ro9 : Bool} {g9 : Nat} (hg7 : H.get c10r = some (.cells c9 ro9 g9)) {x9 : Int} (h8 : (c9 : List AV)[0]? = some (.int .i64 x9)) (h9 : x7 = x9) {x15Number : Int} {x15Day : Int} {x15Parish : Int} {x15Amount : Int} (h10 : cut c7 p5 4 = some [.int .i64 x15Number, .int .i64 x15Day, .int .i64 x15Parish, .int .i64 x15Amount]) {x16Number : Int} {x16Day : Int} {x16Parish : Int} {x16Amount : Int} (h11 : cut c9 0 4 = some [.int .i64 x16Number, .int .i64 x16Day, .int .i64 x16Parish, .int .i64 x16Amount]) (h12 : AV.beqL [.int .i64 x15Number, .int .i64 x15Day, .int .i64 x15Parish, .int .i64 x15Amount] [.int .i64 x16Number, .int .i64 x16Day, .int .i64 x16Parish, .int .i64 x16Amount] = true) {z30 : Int} (h13 : IntKind.wrap .i64 ((k12 : Int) + 1) = z30) :
    To P gl none 17 108 (loopB P 17 2) [(0, .slice op0r op0o op0l op0k op0c), (1, .slice ca1r ca1o ca1l ca1k ca1c), (7, .slice ow7r ow7o ow7l ow7k ow7c), (9, .int .i64 (i9 : Int)), (10, .ptr c10r 0), (11, .bool true), (12, .int .i64 (k12 : Int))] [] H .normal [(0, .slice op0r op0o op0l op0k op0c), (1, .slice ca1r ca1o ca1l ca1k ca1c), (7, .slice ow7r ow7o ow7l ow7k ow7c), (9, .int .i64 (i9 : Int)), (10, .ptr c10r 0), (11, .bool true), (12, .int .i64 z30)] [] H := by
  exact execP_to rfl (orc := [(2, .bit true), (5, .at p5), (7, .load c7 ro7 g7 (.int .i64 x7)), (9, .load c9 ro9 g9 (.int .i64 x9)), (10, .bit true), (14, .at p5), (15, .load c7 ro7 g7 (.agg [.int .i64 x15Number, .int .i64 x15Day, .int .i64 x15Parish, .int .i64 x15Amount])), (16, .load c9 ro9 g9 (.agg [.int .i64 x16Number, .int .i64 x16Day, .int .i64 x16Parish, .int .i64 x16Amount])), (17, .bit false), (30, .int z30)]) (n := 32) (fs := [_, _, _, _, _, _, _, _, _, _, _, _, _, _, _, _, _, _]) (fun J => by kernel_rfl) ⟨h13, (not_f h12), hg7, h11, hg5, h10, h2, h3, h4, (ieq_t h9), hg7, h8, hg5, h6, h2, h3, h4, (lt_t h1), trivial⟩
theorem f17_b2_p3 {op0r : Nat} {op0o : Nat} {op0l : Nat} {op0k : Bool} {op0c : Nat} {ca1r : Nat} {ca1o : Nat} {ca1l : Nat} {ca1k : Bool} {ca1c : Nat} {ow7r : Nat} {ow7o : Nat} {ow7l : Nat} {ow7k : Bool} {ow7c : Nat} {i9 : Nat} {c10r : Nat} {k12 : Nat} {H : AH} (h1 : (k12 : Int) < (i9 : Int)) {p5 : Nat} (h2 : 0 ≤ (k12 : Int)) (h3 : (k12 : Int) < (ca1l : Int)) (h4 : ca1o + (k12 : Int).toNat * 4 = p5) {c7 : List AV} {ro7 : Bool} {g7 : Nat} (hg5 : H.get ca1r = some (.cells c7 ro7 g7)) {x7 : Int} (h6 : (c7 : List AV)[p5]? = some (.int .i64 x7)) {c9 : List AV} {ro9 : Bool} {g9 : Nat} (hg7 : H.get c10r = some (.cells c9 ro9 g9)) {x9 : Int} (h8 : (c9 : List AV)[0]? = some (.int .i64 x9)) (h9 : x7 ≠ x9) {z30 : Int} (h10 : IntKind.wrap .i64 ((k12 : Int) + 1) = z30) :
    To P gl none 17 108 (loopB P 17 2) [(0, .slice op0r op0o op0l op0k op0c), (1, .slice ca1r ca1o ca1l ca1k ca1c), (7, .slice ow7r ow7o ow7l ow7k ow7c), (9, .int .i64 (i9 : Int)), (10, .ptr c10r 0), (11, .bool true), (12, .int .i64 (k12 : Int))] [] H .normal [(0, .slice op0r op0o op0l op0k op0c), (1, .slice ca1r ca1o ca1l ca1k ca1c), (7, .slice ow7r ow7o ow7l ow7k ow7c), (9, .int .i64 (i9 : Int)), (10, .ptr c10r 0), (11, .bool true), (12, .int .i64 z30)] [] H := by
  exact execP_to rfl (orc := [(2, .bit true), (5, .at p5), (7, .load c7 ro7 g7 (.int .i64 x7)), (9, .load c9 ro9 g9 (.int .i64 x9)), (10, .bit false), (30, .int z30)]) (n := 32) (fs := [_, _, _, _, _, _, _, _, _, _]) (fun J => by kernel_rfl) ⟨h10, (ieq_f h9), hg7, h8, hg5, h6, h2, h3, h4, (lt_t h1), trivial⟩
theorem f17_b2_p4 {op0r : Nat} {op0o : Nat} {op0l : Nat} {op0k : Bool} {op0c : Nat} {ca1r : Nat} {ca1o : Nat} {ca1l : Nat} {ca1k : Bool} {ca1c : Nat} {ow7r : Nat} {ow7o : Nat} {ow7l : Nat} {ow7k : Bool} {ow7c : Nat} {i9 : Nat} {c10r : Nat} {k12 : Nat} {H : AH} (h1 : (i9 : Int) ≤ (k12 : Int)) :
    To P gl none 17 108 (loopB P 17 2) [(0, .slice op0r op0o op0l op0k op0c), (1, .slice ca1r ca1o ca1l ca1k ca1c), (7, .slice ow7r ow7o ow7l ow7k ow7c), (9, .int .i64 (i9 : Int)), (10, .ptr c10r 0), (11, .bool true), (12, .int .i64 (k12 : Int))] [] H (.exit 4) [(0, .slice op0r op0o op0l op0k op0c), (1, .slice ca1r ca1o ca1l ca1k ca1c), (7, .slice ow7r ow7o ow7l ow7k ow7c), (9, .int .i64 (i9 : Int)), (10, .ptr c10r 0), (11, .bool true)] [] H := by
  exact execP_to rfl (orc := [(2, .bit false)]) (n := 3) (fs := [_]) (fun J => by kernel_rfl) ⟨(lt_f h1), trivial⟩
theorem f17_b2_p5 {op0r : Nat} {op0o : Nat} {op0l : Nat} {op0k : Bool} {op0c : Nat} {ca1r : Nat} {ca1o : Nat} {ca1l : Nat} {ca1k : Bool} {ca1c : Nat} {ow7r : Nat} {ow7o : Nat} {ow7l : Nat} {ow7k : Bool} {ow7c : Nat} {i9 : Nat} {c10r : Nat} {k12 : Nat} {H : AH} (h1 : (k12 : Int) < (i9 : Int)) {p5 : Nat} (h2 : 0 ≤ (k12 : Int)) (h3 : (k12 : Int) < (ca1l : Int)) (h4 : ca1o + (k12 : Int).toNat * 4 = p5) {c7 : List AV} {ro7 : Bool} {g7 : Nat} (hg5 : H.get ca1r = some (.cells c7 ro7 g7)) {x7 : Int} (h6 : (c7 : List AV)[p5]? = some (.int .i64 x7)) {c9 : List AV} {ro9 : Bool} {g9 : Nat} (hg7 : H.get c10r = some (.cells c9 ro9 g9)) {x9 : Int} (h8 : (c9 : List AV)[0]? = some (.int .i64 x9)) (h9 : x7 = x9) {x15Number : Int} {x15Day : Int} {x15Parish : Int} {x15Amount : Int} (h10 : cut c7 p5 4 = some [.int .i64 x15Number, .int .i64 x15Day, .int .i64 x15Parish, .int .i64 x15Amount]) {x16Number : Int} {x16Day : Int} {x16Parish : Int} {x16Amount : Int} (h11 : cut c9 0 4 = some [.int .i64 x16Number, .int .i64 x16Day, .int .i64 x16Parish, .int .i64 x16Amount]) (h12 : AV.beqL [.int .i64 x15Number, .int .i64 x15Day, .int .i64 x15Parish, .int .i64 x15Amount] [.int .i64 x16Number, .int .i64 x16Day, .int .i64 x16Parish, .int .i64 x16Amount] = false) :
    To P gl none 17 108 (loopB P 17 2) [(0, .slice op0r op0o op0l op0k op0c), (1, .slice ca1r ca1o ca1l ca1k ca1c), (7, .slice ow7r ow7o ow7l ow7k ow7c), (9, .int .i64 (i9 : Int)), (10, .ptr c10r 0), (11, .bool false), (12, .int .i64 (k12 : Int))] [] H .ret [(4, .nils), (5, .int .i64 (i9 : Int)), (6, .int .i64 4)] [] H := by
  exact execP_to rfl (orc := [(2, .bit true), (5, .at p5), (7, .load c7 ro7 g7 (.int .i64 x7)), (9, .load c9 ro9 g9 (.int .i64 x9)), (10, .bit true), (14, .at p5), (15, .load c7 ro7 g7 (.agg [.int .i64 x15Number, .int .i64 x15Day, .int .i64 x15Parish, .int .i64 x15Amount])), (16, .load c9 ro9 g9 (.agg [.int .i64 x16Number, .int .i64 x16Day, .int .i64 x16Parish, .int .i64 x16Amount])), (17, .bit true)]) (n := 23) (fs := [_, _, _, _, _, _, _, _, _, _, _, _, _, _, _, _, _]) (fun J => by kernel_rfl) ⟨(not_t h12), hg7, h11, hg5, h10, h2, h3, h4, (ieq_t h9), hg7, h8, hg5, h6, h2, h3, h4, (lt_t h1), trivial⟩
theorem f17_b2_p6 {op0r : Nat} {op0o : Nat} {op0l : Nat} {op0k : Bool} {op0c : Nat} {ca1r : Nat} {ca1o : Nat} {ca1l : Nat} {ca1k : Bool} {ca1c : Nat} {ow7r : Nat} {ow7o : Nat} {ow7l : Nat} {ow7k : Bool} {ow7c : Nat} {i9 : Nat} {c10r : Nat} {k12 : Nat} {H : AH} (h1 : (k12 : Int) < (i9 : Int)) {p5 : Nat} (h2 : 0 ≤ (k12 : Int)) (h3 : (k12 : Int) < (ca1l : Int)) (h4 : ca1o + (k12 : Int).toNat * 4 = p5) {c7 : List AV} {ro7 : Bool} {g7 : Nat} (hg5 : H.get ca1r = some (.cells c7 ro7 g7)) {x7 : Int} (h6 : (c7 : List AV)[p5]? = some (.int .i64 x7)) {c9 : List AV} {ro9 : Bool} {g9 : Nat} (hg7 : H.get c10r = some (.cells c9 ro9 g9)) {x9 : Int} (h8 : (c9 : List AV)[0]? = some (.int .i64 x9)) (h9 : x7 = x9) {x15Number : Int} {x15Day : Int} {x15Parish : Int} {x15Amount : Int} (h10 : cut c7 p5 4 = some [.int .i64 x15Number, .int .i64 x15Day, .int .i64 x15Parish, .int .i64 x15Amount]) {x16Number : Int} {x16Day : Int} {x16Parish : Int} {x16Amount : Int} (h11 : cut c9 0 4 = some [.int .i64 x16Number, .int .i64 x16Day, .int .i64 x16Parish, .int .i64 x16Amount]) (h12 : AV.beqL [.int .i64 x15Number, .int .i64 x15Day, .int .i64 x15Parish, .int .i64 x15Amount] [.int .i64 x16Number, .int .i64 x16Day, .int .i64 x16Parish, .int .i64 x16Amount] = true) {z30 : Int} (h13 : IntKind.wrap .i64 ((k12 : Int) + 1) = z30) :
    To P gl none 17 108 (loopB P 17 2) [(0, .slice op0r op0o op0l op0k op0c), (1, .slice ca1r ca1o ca1l ca1k ca1c), (7, .slice ow7r ow7o ow7l ow7k ow7c), (9, .int .i64 (i9 : Int)), (10, .ptr c10r 0), (11, .bool false), (12, .int .i64 (k12 : Int))] [] H .normal [(0, .slice op0r op0o op0l op0k op0c), (1, .slice ca1r ca1o ca1l ca1k ca1c), (7, .slice ow7r ow7o ow7l ow7k ow7c), (9, .int .i64 (i9 : Int)), (10, .ptr c10r 0), (11, .bool true), (12, .int .i64 z30)] [] H := by
  exact execP_to rfl (orc := [(2, .bit true), (5, .at p5), (7, .load c7 ro7 g7 (.int .i64 x7)), (9, .load c9 ro9 g9 (.int .i64 x9)), (10, .bit true), (14, .at p5), (15, .load c7 ro7 g7 (.agg [.int .i64 x15Number, .int .i64 x15Day, .int .i64 x15Parish, .int .i64 x15Amount])), (16, .load c9 ro9 g9 (.agg [.int .i64 x16Number, .int .i64 x16Day, .int .i64 x16Parish, .int .i64 x16Amount])), (17, .bit false), (23, .at p5), (24, .load c7 ro7 g7 (.agg [.int .i64 x15Number, .int .i64 x15Day, .int .i64 x15Parish, .int .i64 x15Amount])), (25, .load c9 ro9 g9 (.agg [.int .i64 x16Number, .int .i64 x16Day, .int .i64 x16Parish, .int .i64 x16Amount])), (26, .bit true), (30, .int z30)]) (n := 32) (fs := [_, _, _, _, _, _, _, _, _, _, _, _, _, _, _, _, _, _, _, _, _, _, _, _, _, _]) (fun J => by kernel_rfl) ⟨h13, h12, hg7, h11, hg5, h10, h2, h3, h4, (not_f h12), hg7, h11, hg5, h10, h2, h3, h4, (ieq_t h9), hg7, h8, hg5, h6, h2, h3, h4, (lt_t h1), trivial⟩
theorem f17_b2_p7 {op0r : Nat} {op0o : Nat} {op0l : Nat} {op0k : Bool} {op0c : Nat} {ca1r : Nat} {ca1o : Nat} {ca1l : Nat} {ca1k : Bool} {ca1c : Nat} {ow7r : Nat} {ow7o : Nat} {ow7l : Nat} {ow7k : Bool} {ow7c : Nat} {i9 : Nat} {c10r : Nat} {k12 : Nat} {H : AH} (h1 : (k12 : Int) < (i9 : Int)) {p5 : Nat} (h2 : 0 ≤ (k12 : Int)) (h3 : (k12 : Int) < (ca1l : Int)) (h4 : ca1o + (k12 : Int).toNat * 4 = p5) {c7 : List AV} {ro7 : Bool} {g7 : Nat} (hg5 : H.get ca1r = some (.cells c7 ro7 g7)) {x7 : Int} (h6 : (c7 : List AV)[p5]? = some (.int .i64 x7)) {c9 : List AV} {ro9 : Bool} {g9 : Nat} (hg7 : H.get c10r = some (.cells c9 ro9 g9)) {x9 : Int} (h8 : (c9 : List AV)[0]? = some (.int .i64 x9)) (h9 : x7 ≠ x9) {x24Number : Int} {x24Day : Int} {x24Parish : Int} {x24Amount : Int} (h10 : cut c7 p5 4 = some [.int .i64 x24Number, .int .i64 x24Day, .int .i64 x24Parish, .int .i64 x24Amount]) {x25Number : Int} {x25Day : Int} {x25Parish : Int} {x25Amount : Int} (h11 : cut c9 0 4 = some [.int .i64 x25Number, .int .i64 x25Day, .int .i64 x25Parish, .int .i64 x25Amount]) (h12 : AV.beqL [.int .i64 x24Number, .int .i64 x24Day, .int .i64 x24Parish, .int .i64 x24Amount] [.int .i64 x25Number, .int .i64 x25Day, .int .i64 x25Parish, .int .i64 x25Amount] = true) {z30 : Int} (h13 : IntKind.wrap .i64 ((k12 : Int) + 1) = z30) :
    To P gl none 17 108 (loopB P 17 2) [(0, .slice op0r op0o op0l op0k op0c), (1, .slice ca1r ca1o ca1l ca1k ca1c), (7, .slice ow7r ow7o ow7l ow7k ow7c), (9, .int .i64 (i9 : Int)), (10, .ptr c10r 0), (11, .bool false), (12, .int .i64 (k12 : Int))] [] H .normal [(0, .slice op0r op0o op0l op0k op0c), (1, .slice ca1r ca1o ca1l ca1k ca1c), (7, .slice ow7r ow7o ow7l ow7k ow7c), (9, .int .i64 (i9 : Int)), (10, .ptr c10r 0), (11, .bool true), (12, .int .i64 z30)] [] H := by
  exact execP_to rfl (orc := [(2, .bit true), (5, .at p5), (7, .load c7 ro7 g7 (.int .i64 x7)), (9, .load c9 ro9 g9 (.int .i64 x9)), (10, .bit false), (23, .at p5), (24, .load c7 ro7 g7 (.agg [.int .i64 x24Number, .int .i64 x24Day, .int .i64 x24Parish, .int .i64 x24Amount])), (25, .load c9 ro9 g9 (.agg [.int .i64 x25Number, .int .i64 x25Day, .int .i64 x25Parish, .int .i64 x25Amount])), (26, .bit true), (30, .int z30)]) (n := 32) (fs := [_, _, _, _, _, _, _, _, _, _, _, _, _, _, _, _, _, _]) (fun J => by kernel_rfl) ⟨h13, h12, hg7, h11, hg5, h10, h2, h3, h4, (ieq_f h9), hg7, h8, hg5, h6, h2, h3, h4, (lt_t h1), trivial⟩
theorem f17_b2_p8 {op0r : Nat} {op0o : Nat} {op0l : Nat} {op0k : Bool} {op0c : Nat} {ca1r : Nat} {ca1o : Nat} {ca1l : Nat} {ca1k : Bool} {ca1c : Nat} {ow7r : Nat} {ow7o : Nat} {ow7l : Nat} {ow7k : Bool} {ow7c : Nat} {i9 : Nat} {c10r : Nat} {k12 : Nat} {H : AH} (h1 : (k12 : Int) < (i9 : Int)) {p5 : Nat} (h2 : 0 ≤ (k12 : Int)) (h3 : (k12 : Int) < (ca1l : Int)) (h4 : ca1o + (k12 : Int).toNat * 4 = p5) {c7 : List AV} {ro7 : Bool} {g7 : Nat} (hg5 : H.get ca1r = some (.cells c7 ro7 g7)) {x7 : Int} (h6 : (c7 : List AV)[p5]? = some (.int .i64 x7)) {c9 : List AV} {ro9 : Bool} {g9 : Nat} (hg7 : H.get c10r = some (.cells c9 ro9 g9)) {x9 : Int} (h8 : (c9 : List AV)[0]? = some (.int .i64 x9)) (h9 : x7 ≠ x9) {x24Number : Int} {x24Day : Int} {x24Parish : Int} {x24Amount : Int} (h10 : cut c7 p5 4 = some [.int .i64 x24Number, .int .i64 x24Day, .int .i64 x24Parish, .int .i64 x24Amount]) {x25Number : Int} {x25Day : Int} {x25Parish : Int} {x25Amount : Int} (h11 : cut c9 0 4 = some [.int .i64 x25Number, .int .i64 x25Day, .int .i64 x25Parish, .int .i64 x25Amount]) (h12 : AV.beqL [.int .i64 x24Number, .int .i64 x24Day, .int .i64 x24Parish, .int .i64 x24Amount] [.int .i64 x25Number, .int .i64 x25Day, .int .i64 x25Parish, .int .i64 x25Amount] = false) {z30 : Int} (h13 : IntKind.wrap .i64 ((k12 : Int) + 1) = z30) :
    To P gl none 17 108 (loopB P 17 2) [(0, .slice op0r op0o op0l op0k op0c), (1, .slice ca1r ca1o ca1l ca1k ca1c), (7, .slice ow7r ow7o ow7l ow7k ow7c), (9, .int .i64 (i9 : Int)), (10, .ptr c10r 0), (11, .bool false), (12, .int .i64 (k12 : Int))] [] H .normal [(0, .slice op0r op0o op0l op0k op0c), (1, .slice ca1r ca1o ca1l ca1k ca1c), (7, .slice ow7r ow7o ow7l ow7k ow7c), (9, .int .i64 (i9 : Int)), (10, .ptr c10r 0), (11, .bool false), (12, .int .i64 z30)] [] H := by
  exact execP_to rfl (orc := [(2, .bit true), (5, .at p5), (7, .load c7 ro7 g7 (.int .i64 x7)), (9, .load c9 ro9 g9 (.int .i64 x9)), (10, .bit false), (23, .at p5), (24, .load c7 ro7 g7 (.agg [.int .i64 x24Number, .int .i64 x24Day, .int .i64 x24Parish, .int .i64 x24Amount])), (25, .load c9 ro9 g9 (.agg [.int .i64 x25Number, .int .i64 x25Day, .int .i64 x25Parish, .int .i64 x25Amount])), (26, .bit false), (30, .int z30)]) (n := 32) (fs := [_, _, _, _, _, _, _, _, _, _, _, _, _, _, _, _, _, _]) (fun J => by kernel_rfl) ⟨h13, h12, hg7, h11, hg5, h10, h2, h3, h4, (ieq_f h9), hg7, h8, hg5, h6, h2, h3, h4, (lt_t h1), trivial⟩
theorem f17_b2_p9 {op0r : Nat} {op0o : Nat} {op0l : Nat} {op0k : Bool} {op0c : Nat} {ca1r : Nat} {ca1o : Nat} {ca1l : Nat} {ca1k : Bool} {ca1c : Nat} {ow7r : Nat} {ow7o : Nat} {ow7l : Nat} {ow7k : Bool} {ow7c : Nat} {i9 : Nat} {c10r : Nat} {k12 : Nat} {H : AH} (h1 : (i9 : Int) ≤ (k12 : Int)) :
    To P gl none 17 108 (loopB P 17 2) [(0, .slice op0r op0o op0l op0k op0c), (1, .slice ca1r ca1o ca1l ca1k ca1c), (7, .slice ow7r ow7o ow7l ow7k ow7c), (9, .int .i64 (i9 : Int)), (10, .ptr c10r 0), (11, .bool false), (12, .int .i64 (k12 : Int))] [] H (.exit 4) [(0, .slice op0r op0o op0l op0k op0c), (1, .slice ca1r ca1o ca1l ca1k ca1c), (7, .slice ow7r ow7o ow7l ow7k ow7c), (9, .int .i64 (i9 : Int)), (10, .ptr c10r 0), (11, .bool false)] [] H := by
  exact execP_to rfl (orc := [(2, .bit false)]) (n := 3) (fs := [_]) (fun J => by kernel_rfl) ⟨(lt_f h1), trivial⟩
end Go.Proofs.YtipgfljojhdhjaaGreatDoor

namespace Go.Proofs.YtipgfljojhdhjaaGreatDoor
open Ai

theorem accounts_book {H : AH} {r o kc r1 o1 c1 : Nat} {k k1 : Bool} {op : List Int} {cs : List Card} (hw : WF H) (ho : SlAt H (.slice r o op.length k kc) 1 (ints op)) (hc : SlAt H (.slice r1 o1 cs.length k1 c1) 4 (cards cs))
    (hol : op.length < 4611686018427387904) :
    ∃ v m e H', CallsTo P gl 16 [.slice r o op.length k kc, .slice r1 o1 cs.length k1 c1] H (.tup [v, .int .i64 m, .int .i64 e]) H' ∧ WF H' ∧ Keep H.next H H' ∧ oweV H' v m e (accounts op cs) := by
  unfold accounts
  by_cases h30 : 30 < op.length
  · rw [if_pos (.inl h30)]
    exact ⟨_, _, _, H, f16_p1 (by omega), hw, Keep.refl, rfl, rfl, rfl⟩
  by_cases h400 : 400 < cs.length
  · rw [if_pos (.inr h400)]
    exact ⟨_, _, _, H, f16_p2 (by omega) (by omega), hw, Keep.refl, rfl, rfl, rfl⟩
  rw [if_neg (by omega)]
  by_cases hnil : op = []
  · rw [if_pos (.inl hnil)]
    subst hnil
    exact ⟨_, _, _, H, f16_p3 (by simp) (by omega) (by simp), hw, Keep.refl, rfl, rfl, rfl⟩
  have hne : (op.length : Int) ≠ 0 := by
    have : op.length ≠ 0 := by simpa using hnil
    omega
  obtain ⟨H1, p1, p2, p3⟩ := isMoney_spec hw hol ho
  cases hm : inAll (-10000000) 10000000 op with
  | false =>
    rw [if_pos (.inr rfl)]
    rw [hm] at p1
    obtain ⟨q1, q2, q3⟩ := f16_p8 (ca1r := r1) (ca1o := o1) (ca1k := k1) (ca1c := c1) (by omega) (ca1l := cs.length) (by omega) hne p1 p3 hw p2
    exact ⟨_, _, _, _, q1, q2, q3, rfl, rfl, rfl⟩
  | true =>
  rw [if_neg (by simp [hnil])]
  rw [hm] at p1
  have ho1 := ho.keep hw p3
  obtain ⟨v', H2, a1, a2, a3, a4, a5⟩ := clone_spec p2 ho1 (by omega)
  -- the copy lies in a block of its own
  have hv : ∃ ro g k4 c4, v' = .slice ro 0 op.length k4 c4 ∧ H2.get ro = some (.cells (ints op).flatten false g) ∧ H1.next ≤ ro := by
    obtain ⟨el, i, _, _, _, _, _, _, h7⟩ := a4
    rcases h7 with ⟨_, h⟩ | ⟨_, _, _, h, _⟩ | ⟨ro, rfl, hg⟩
    · exact absurd (by simpa [ints] using h) hnil
    · exact absurd (by simpa [ints] using h) hnil
    · refine ⟨ro, _, false, 0, by rw [ints_length], hg, a5 _ _ _ _ _ rfl⟩
  obtain ⟨ro, g, k4, c4, rfl, hgo, hro⟩ := hv
  have k12 : Keep H.next H H2 := p3.trans (a3.le p3.next)
  have w3 := a2.push (.map [] 0)
  have k3 : Keep H.next H (H2.push (.map [] 0)) := k12.trans (Keep.push a2 _ k12.next)
  have hrlt := a2.lt hgo
  have hgo3 : (H2.push (.map [] 0)).get ro = some (.cells (ints op).flatten false g) := (get_push_lt a2 _ hrlt).trans hgo
  have hm3 : IMap (H2.push (.map [] 0)) H2.next (boxOf []) := get_push_new a2 _
  have hbd : ∀ x ∈ op, -10000000 * (((0 : Nat) : Int) + 1) ≤ x ∧ x ≤ 10000000 * (((0 : Nat) : Int) + 1) := by
    intro x hx
    unfold inAll at hm
    rw [List.all_eq_true] at hm
    have := hm x hx
    simp only [decide_eq_true_eq] at this
    omega
  -- the cards
  rcases hc.2 with ⟨hx, _⟩ | ⟨r', o', kn', c', c0, ro1, g1, hx, hg1, hcut⟩
  · cases hx
  injection hx with e1 e2 e3 e4 e5
  subst e1 e2 e4 e5
  obtain ⟨x, live', H4, t1, t2, t3, t4⟩ := f16_loop (r0 := r) (o0 := o) (n := op.length) (c0 := kc) (r29 := r1) (o29 := o1) (c29 := c1) (b := H2.next) (k0 := k) (k29 := k1) (cs := cs) (v0 := .nils) (g29 := g1) (by omega) hw hg1 (by rw [cards_length] at *; exact hcut)
    cs.length 0 (H2.push (.map [] 0)) op ro g c4 k4 [] (by omega) w3 k3 rfl hgo3 (Nat.le_trans p3.next hro) k12.next (Nat.ne_of_lt hrlt) hm3 (by intro k; simp) hbd
  simp only [List.take_zero, List.drop_zero] at t4
  cases hr : owes op.length [] op cs with
  | inl l =>
    rw [hr] at t4
    obtain ⟨rfl, rfl, hgl, hll⟩ := t4
    obtain ⟨q1, q2, q3⟩ := f16_p5 (by omega) (by omega) hne p1 p3 hw p2 a1 a3 a2 rfl t1 t3 t2
    refine ⟨_, _, _, _, q1, q2, q3, rfl, rfl, ?_⟩
    have := SlAt.of (H := H4) (r := ro) (o := 0) (c := c4) (kn := k4) (sz := 1) (es := ints l) (by simp [ints]) hgl (cut_all (by rw [ints_flat]; simp [ints]))
    rw [ints_length, hll] at this
    exact this
  | inr y =>
    obtain ⟨j, e⟩ := y
    rw [hr] at t4
    obtain ⟨rfl, rfl⟩ := t4
    obtain ⟨q1, q2, q3⟩ := f16_p6 (by omega) (by omega) hne p1 p3 hw p2 a1 a3 a2 rfl t1 t3 t2
    exact ⟨_, _, _, _, q1, q2, q3, rfl, rfl, rfl⟩

/-- The reference's look at the cards before: is one there with the same number and not the same? else: was it there? -/
def scan (c : Card) : List Card → Bool → Option Bool
  | [], a => some a
  | d :: l, a => if d.num = c.num ∧ d ≠ c then none else scan c l (a || decide (d = c))

def live17 (v0 v1 v7 : AV) (i : Nat) : List (Nat × AV) := [(0, v0), (1, v1), (7, v7), (9, .int .i64 (i : Int))]

theorem f17_inner {H : AH} {r0 o0 n0 c0 r1 o1 n1 c1 r7 o7 n7 c7 r10 g1 g10 : Nat} {k0 k1 k7 ro1 ro10 : Bool} {cells1 : List AV} {cs : List Card} {i : Nat} {c : Card} (hi : i ≤ cs.length) (hn1 : n1 = cs.length) (hb : cs.length ≤ 1000)
    (hg : H.get r1 = some (.cells cells1 ro1 g1)) (hcut : cut cells1 o1 ((cards cs).length * 4) = some (cards cs).flatten) (hg10 : H.get r10 = some (.cells c.cells ro10 g10)) :
    ∀ m k (a : Bool), k + m = i →
      match scan c ((cs.take i).drop k) a with
      | some a' => To P gl none 17 108 (.loop (loopB P 17 2)) (live17 (.slice r0 o0 n0 k0 c0) (.slice r1 o1 n1 k1 c1) (.slice r7 o7 n7 k7 c7) i ++ [(10, .ptr r10 0), (11, .bool a), (12, .int .i64 (k : Int))]) [] H (.exit 4) (live17 (.slice r0 o0 n0 k0 c0) (.slice r1 o1 n1 k1 c1) (.slice r7 o7 n7 k7 c7) i ++ [(10, .ptr r10 0), (11, .bool a')]) [] H
      | none => To P gl none 17 108 (.loop (loopB P 17 2)) (live17 (.slice r0 o0 n0 k0 c0) (.slice r1 o1 n1 k1 c1) (.slice r7 o7 n7 k7 c7) i ++ [(10, .ptr r10 0), (11, .bool a), (12, .int .i64 (k : Int))]) [] H .ret [(4, .nils), (5, .int .i64 (i : Int)), (6, .int .i64 4)] [] H := by
  intro m
  induction m with
  | zero =>
    intro k a hk
    have hl : (cs.take i).drop k = [] := List.drop_eq_nil_of_le (by simp; omega)
    rw [hl]
    simp only [scan]
    cases a with
    | true => exact To.loop_stop (f17_b2_p4 (by omega)) (by simp)
    | false => exact To.loop_stop (f17_b2_p9 (by omega)) (by simp)
  | succ m ih =>
    intro k a hk
    have hlt : k < (cs.take i).length := by simp; omega
    have hlt' : k < cs.length := by omega
    have hx : cs[k]? = some cs[k] := List.getElem?_eq_getElem hlt'
    have hd : (cs.take i).drop k = cs[k] :: (cs.take i).drop (k + 1) := by
      rw [List.drop_eq_getElem_cons hlt]; simp
    have hcell : cut cells1 (o1 + k * 4) 4 = some cs[k].cells := elem_cut (by simp [cards, Card.cells]) hcut (cards_get hx)
    have hnum : cells1[o1 + k * 4]? = some (.int .i64 cs[k].num) := by
      have := cut_get (i := 0) hcell (by omega)
      simpa [Card.cells] using this
    rw [hd]
    generalize hc : cs[k] = d at *
    simp only [scan]
    have hbq := card_beq d c
    have hcc : cut c.cells 0 4 = some c.cells := cut_all (by simp [Card.cells])
    by_cases hne : d.num = c.num
    · by_cases hdc : d = c
      · rw [if_neg (fun h => h.2 hdc)]
        have e : decide (d = c) = true := decide_eq_true hdc
        rw [e] at hbq ⊢
        have hih := ih (k + 1) true (by omega)
        rw [Bool.or_true]
        cases a with
        | true =>
          have st := f17_b2_p2 (op0r := r0) (op0o := o0) (op0l := n0) (op0k := k0) (op0c := c0) (ca1k := k1) (ca1c := c1) (ow7r := r7) (ow7o := o7) (ow7l := n7) (ow7k := k7) (ow7c := c7) (i9 := i) (k12 := k) (ca1l := n1) (by omega) (by omega) (by omega) rfl hg hnum hg10 rfl hne hcell hcc hbq (z30 := ((k + 1 : Nat) : Int)) (w64e (by omega) (by omega) (by omega))
          split at hih
          · exact To.loop st hih
          · exact To.loop st hih
        | false =>
          have st := f17_b2_p6 (op0r := r0) (op0o := o0) (op0l := n0) (op0k := k0) (op0c := c0) (ca1k := k1) (ca1c := c1) (ow7r := r7) (ow7o := o7) (ow7l := n7) (ow7k := k7) (ow7c := c7) (i9 := i) (k12 := k) (ca1l := n1) (by omega) (by omega) (by omega) rfl hg hnum hg10 rfl hne hcell hcc hbq (z30 := ((k + 1 : Nat) : Int)) (w64e (by omega) (by omega) (by omega))
          split at hih
          · exact To.loop st hih
          · exact To.loop st hih
      · rw [if_pos ⟨hne, hdc⟩]
        have e : decide (d = c) = false := decide_eq_false hdc
        rw [e] at hbq
        cases a with
        | true => exact To.loop_stop (f17_b2_p1 (i9 := i) (k12 := k) (by omega) (by omega) (by omega) rfl hg hnum hg10 rfl hne hcell hcc hbq) (by simp)
        | false => exact To.loop_stop (f17_b2_p5 (i9 := i) (k12 := k) (by omega) (by omega) (by omega) rfl hg hnum hg10 rfl hne hcell hcc hbq) (by simp)
    · have hdc : d ≠ c := fun h => hne (by rw [h])
      rw [if_neg (fun h => hne h.1)]
      have e : decide (d = c) = false := decide_eq_false hdc
      rw [e] at hbq ⊢
      rw [Bool.or_false]
      have hih := ih (k + 1) a (by omega)
      cases a with
      | true =>
        have st := f17_b2_p3 (op0r := r0) (op0o := o0) (op0l := n0) (op0k := k0) (op0c := c0) (ca1k := k1) (ca1c := c1) (ow7r := r7) (ow7o := o7) (ow7l := n7) (ow7k := k7) (ow7c := c7) (i9 := i) (k12 := k) (ca1l := n1) (by omega) (by omega) (by omega) rfl hg hnum hg10 rfl hne (z30 := ((k + 1 : Nat) : Int)) (w64e (by omega) (by omega) (by omega))
        split at hih
        · exact To.loop st hih
        · exact To.loop st hih
      | false =>
        have st := f17_b2_p8 (op0r := r0) (op0o := o0) (op0l := n0) (op0k := k0) (op0c := c0) (ca1k := k1) (ca1c := c1) (ow7r := r7) (ow7o := o7) (ow7l := n7) (ow7k := k7) (ow7c := c7) (i9 := i) (k12 := k) (ca1l := n1) (by omega) (by omega) (by omega) rfl hg hnum hg10 rfl hne hcell hcc hbq (z30 := ((k + 1 : Nat) : Int)) (w64e (by omega) (by omega) (by omega))
        split at hih
        · exact To.loop st hih
        · exact To.loop st hih

/-- Cards with the same number are the same. -/
def Cons (l : List Card) : Prop := ∀ d ∈ l, ∀ e ∈ l, d.num = e.num → d = e

theorem findNum_mem {k : Int} : ∀ {l : List Card} {d : Card}, findNum k l = some d → d ∈ l
  | c :: l, d, h => by
      simp only [findNum] at h
      split at h
      · cases h; exact List.mem_cons_self
      · exact List.mem_cons_of_mem _ (findNum_mem h)
theorem findNum_none {k : Int} : ∀ {l : List Card}, findNum k l = none → ∀ d ∈ l, d.num ≠ k
  | [], _, d, hd => by cases hd
  | c :: l, h, d, hd => by
      simp only [findNum] at h
      split at h
      · cases h
      · rename_i hk
        rcases List.mem_cons.1 hd with rfl | hd
        · exact fun e => hk e.symm
        · exact findNum_none h d hd

theorem scan_all {c : Card} : ∀ {l : List Card} {a : Bool}, (∀ d ∈ l, ¬(d.num = c.num ∧ d ≠ c)) → scan c l a = some (a || l.any fun d => decide (d = c))
  | [], a, _ => by simp [scan]
  | d :: l, a, h => by
      simp only [scan]
      rw [if_neg (h d List.mem_cons_self), scan_all (fun e he => h e (List.mem_cons_of_mem _ he))]
      simp [Bool.or_assoc]
theorem scan_none {c : Card} : ∀ {l : List Card} {a : Bool}, (∃ d ∈ l, d.num = c.num ∧ d ≠ c) → scan c l a = none
  | [], a, ⟨d, hd, _⟩ => by cases hd
  | e :: l, a, ⟨d, hd, h⟩ => by
      simp only [scan]
      by_cases he : e.num = c.num ∧ e ≠ c
      · rw [if_pos he]
      · rw [if_neg he]
        rcases List.mem_cons.1 hd with rfl | hd
        · exact absurd h he
        · exact scan_none ⟨d, hd, h⟩

theorem scan_find {c : Card} {l : List Card} (hl : Cons l) : scan c l false = match findNum c.num l with | none => some false | some d => if d = c then some true else none := by
  cases hf : findNum c.num l with
  | none =>
    have h := findNum_none hf
    rw [scan_all (fun d hd hx => h d hd hx.1)]
    simp only [Bool.false_or, Option.some.injEq]
    rw [List.any_eq_false]
    intro d hd
    have := h d hd
    simp only [decide_eq_true_eq]
    intro e; exact this (by rw [e])
  | some d =>
    have hm := findNum_mem hf
    have hn := findNum_num hf
    simp only
    by_cases hdc : d = c
    · rw [if_pos hdc]
      rw [scan_all (fun e he hx => hx.2 (by rw [← hdc]; exact hl e he d hm (by rw [hx.1, hn])))]
      simp only [Bool.false_or, Option.some.injEq]
      rw [List.any_eq_true]
      exact ⟨d, hm, decide_eq_true hdc⟩
    · rw [if_neg hdc]
      exact scan_none ⟨d, hm, hn, hdc⟩

end Go.Proofs.YtipgfljojhdhjaaGreatDoor

namespace Go.Proofs.YtipgfljojhdhjaaGreatDoor
open Ai

/-- A slice value in a block that is not older than n. -/
def Own (n : Nat) (v : AV) : Prop := ∃ r o l k c, v = .slice r o l k c ∧ n ≤ r
theorem acc_own {H : AH} {t : TypeId} {v : AV} {es : List (List AV)} (h : Acc P H t v es) (hne : es ≠ []) : ∃ r g, v = .slice r 0 es.length false 0 ∧ H.get r = some (.cells es.flatten false g) := by
  obtain ⟨el, i, _, _, _, _, _, _, h7⟩ := h
  rcases h7 with ⟨_, h⟩ | ⟨_, _, _, h, _⟩ | ⟨ro, rfl, hg⟩
  · exact absurd h hne
  · exact absurd h hne
  · exact ⟨ro, _, rfl, hg⟩

theorem f17_first {H0 : AH} {r0 o0 n c0 g0 : Nat} {k0 ro0 : Bool} {cells0 : List AV} {v1 : AV} {op : List Int} (hn : n = op.length) (hb : op.length ≤ 1000) (hw0 : WF H0) (hg : H0.get r0 = some (.cells cells0 ro0 g0)) (hcut : cut cells0 o0 (op.length * 1) = some (ints op).flatten) :
    ∀ m i (H : AH) (v7 : AV), i + m = op.length → WF H → Keep H0.next H0 H → Acc P H 22 v7 (ints (op.take i)) → Own H0.next v7 →
      ∃ x live' H', To P gl none 17 108 (.loop (loopB P 17 0)) [(0, .slice r0 o0 n k0 c0), (1, v1), (7, v7), (8, .int .i64 (i : Int))] [] H x live' [] H' ∧ WF H' ∧ Keep H0.next H H' ∧
        (match inAll (-10000000) 10000000 (op.drop i) with
         | true => x = .exit 0 ∧ ∃ v7', live' = [(0, .slice r0 o0 n k0 c0), (1, v1), (7, v7')] ∧ Acc P H' 22 v7' (ints op) ∧ Own H0.next v7'
         | false => x = .ret ∧ live' = [(4, .nils), (5, .int .i64 0), (6, .int .i64 2)]) := by
  intro m
  induction m with
  | zero =>
    intro i H v7 hi hw hk hacc hown
    obtain ⟨r7, o7, l7, k7, c7, rfl, hr7⟩ := hown
    have hd : op.drop i = [] := List.drop_eq_nil_of_le (by omega)
    refine ⟨_, _, H, To.loop_stop (f17_b0_p3 (by omega)) (by simp), hw, Keep.refl, ?_⟩
    rw [hd]
    refine ⟨rfl, _, rfl, ?_, r7, o7, l7, k7, c7, rfl, hr7⟩
    rw [List.take_of_length_le (by omega)] at hacc
    exact hacc
  | succ m ih =>
    intro i H v7 hi hw hk hacc hown
    obtain ⟨r7, o7, l7, k7, c7, rfl, hr7⟩ := hown
    have hlt : i < op.length := by omega
    have hx : op[i]? = some op[i] := List.getElem?_eq_getElem hlt
    have hd : op.drop i = op[i] :: op.drop (i + 1) := List.drop_eq_getElem_cons hlt
    have ht : op.take (i + 1) = op.take i ++ [op[i]] := by rw [List.take_add_one, hx]; rfl
    have hcell : cut cells0 (o0 + i * 1) 1 = some [.int .i64 op[i]] := elem_cut (by simp [ints]) (by rw [ints_length]; exact hcut) (ints_get hx)
    have hcell := cut_one.1 hcell
    have hg' := hk.some (hw0.lt hg) hg
    generalize hc : op[i] = c at *
    have hin := in_spec (H := H) (n := c) (a := -10000000) (b := 10000000)
    rw [hd]
    cases hv : within' (-10000000) 10000000 c with
    | false =>
      rw [hv] at hin
      have e : inAll (-10000000) 10000000 (c :: op.drop (i + 1)) = false := by
        simp only [inAll, List.all_cons]
        have : decide (-10000000 ≤ c ∧ c ≤ 10000000) = false := hv
        rw [this]; rfl
      rw [e]
      exact ⟨_, _, H, To.loop_stop (f17_b0_p2 (by omega) (by omega) rfl hg' hcell hin) (by simp), hw, Keep.refl, rfl, rfl⟩
    | true =>
      rw [hv] at hin
      have e : inAll (-10000000) 10000000 (c :: op.drop (i + 1)) = inAll (-10000000) 10000000 (op.drop (i + 1)) := by
        simp only [inAll, List.all_cons]
        have : decide (-10000000 ≤ c ∧ c ≤ 10000000) = true := hv
        rw [this]; rfl
      rw [e]
      have w1 := hw.push (.cells [.int .i64 c] false 0)
      have hlen : (ints (op.take i)).length = i := by rw [ints_length]; simp; omega
      obtain ⟨v', H2, a1, a2, a3, a4, a5, _⟩ := append_acc sty22 (hacc.keep hw (Keep.push hw _ (Nat.le_refl _))) w1 (by rw [sz3]; exact sl_one hw) (one_ints [c]) (by rw [by3, hlen]; simp [ints]; omega) (by rw [hlen]; simp [ints]; omega)
      have hv' := a5 (by simp [ints])
      subst hv'
      have q : To P gl none 17 108 (loopB P 17 0) [(0, .slice r0 o0 n k0 c0), (1, v1), (7, .slice r7 o7 l7 k7 c7), (8, .int .i64 (i : Int))] [] H .normal [(0, .slice r0 o0 n k0 c0), (1, v1), (7, _), (8, .int .i64 ((i + 1 : Nat) : Int))] [] H2 ∧ WF H2 ∧ _ :=
        f17_b0_p1 (by omega) (by omega) rfl hg' hcell hin rfl hw a1 (w64e (by omega) (by omega) (by omega))
      obtain ⟨q1, q2, q3⟩ := q
      have kk := q3.to (n := H0.next) (by simp; omega) hk.next
      have hacc2 : Acc P H2 22 (.slice (H.push (.cells [.int .i64 c] false 0)).next 0 ((ints (op.take i)).length + (ints [c]).length) false 0) (ints (op.take (i + 1))) := by
        rw [ht]; simpa [ints] using a2
      obtain ⟨x, live', H', t1, t2, t3, t4⟩ := ih (i + 1) H2 _ (by omega) q2 (hk.trans kk) hacc2 ⟨_, _, _, _, _, rfl, Nat.le_trans hk.next (Nat.le_succ _)⟩
      exact ⟨x, live', H', To.loop q1 t1, t2, kk.trans t3, t4⟩

theorem f17_outer {H0 : AH} {r0 o0 n c0 r1 o1 c1 g1 : Nat} {k0 k1 ro1 : Bool} {cells1 : List AV} {cs : List Card} (hcs : cs.length ≤ 400)
    (hw0 : WF H0) (hg : H0.get r1 = some (.cells cells1 ro1 g1)) (hcut : cut cells1 o1 ((cards cs).length * 4) = some (cards cs).flatten) :
    ∀ m i (H : AH) (owe : List Int) (ro g c7 : Nat) (k7 : Bool), i + m = cs.length → WF H → Keep H0.next H0 H → owe.length = n →
      H.get ro = some (.cells (ints owe).flatten false g) → H0.next ≤ ro → Cons (cs.take i) →
      (∀ x ∈ owe, -10000000 * (i + 1 : Int) ≤ x ∧ x ≤ 10000000 * (i + 1 : Int)) →
      ∃ x live' H', To P gl none 17 108 (.loop (loopB P 17 1)) (live17 (.slice r0 o0 n k0 c0) (.slice r1 o1 cs.length k1 c1) (.slice ro 0 n k7 c7) i) [] H x live' [] H' ∧ WF H' ∧ Keep H0.next H H' ∧
        (match owes n (cs.take i) owe (cs.drop i) with
         | .inl l => x = .exit 2 ∧ live' = [(7, .slice ro 0 n k7 c7)] ∧ H'.get ro = some (.cells (ints l).flatten false g) ∧ l.length = n
         | .inr (j, e) => x = .ret ∧ live' = [(4, .nils), (5, .int .i64 (j : Int)), (6, .int .i64 e)]) := by
  intro m
  induction m with
  | zero =>
    intro i H owe ro g c7 k7 hi hw hk hn hgo hro hcons hbd
    have hd : cs.drop i = [] := List.drop_eq_nil_of_le (by omega)
    refine ⟨_, _, H, To.loop_stop (f17_b1_p6 (by omega)) (by simp), hw, Keep.refl, ?_⟩
    rw [hd]
    exact ⟨rfl, rfl, hgo, hn⟩
  | succ m ih =>
    intro i H owe ro g c7 k7 hi hw hk hn hgo hro hcons hbd
    have hlt : i < cs.length := by omega
    have hx : cs[i]? = some cs[i] := List.getElem?_eq_getElem hlt
    have hd : cs.drop i = cs[i] :: cs.drop (i + 1) := List.drop_eq_getElem_cons hlt
    have ht : cs.take (i + 1) = cs.take i ++ [cs[i]] := by rw [List.take_add_one, hx]; rfl
    have hcell : cut cells1 (o1 + i * 4) 4 = some cs[i].cells := elem_cut (by simp [cards, Card.cells]) hcut (cards_get hx)
    have hg' := hk.some (hw0.lt hg) hg
    have hrl := hw.lt hgo
    generalize hc : cs[i] = c at *
    have wp := hw.push (.cells [.int .i64 0, .int .i64 0, .int .i64 0, .int .i64 0] false 1966080)
    have w1 : WF ((H.push (.cells [.int .i64 0, .int .i64 0, .int .i64 0, .int .i64 0] false 1966080)).set H.next (.cells c.cells false 1966080)) := wp.set _ _
    have kp1 : Keep H.next H ((H.push (.cells [.int .i64 0, .int .i64 0, .int .i64 0, .int .i64 0] false 1966080)).set H.next (.cells c.cells false 1966080)) := (Keep.push hw _ (Nat.le_refl _)).trans (Keep.set _ (Nat.le_refl _))
    have hbx : ((H.push (.cells [.int .i64 0, .int .i64 0, .int .i64 0, .int .i64 0] false 1966080)).set H.next (.cells c.cells false 1966080)).get H.next = some (.cells c.cells false 1966080) := get_set_eq wp (Nat.lt_succ_self _) _
    obtain ⟨H1, p1, p2, p3⟩ := Card_spec w1 c
    have hlen : (cs.take i).length = i := by simp; omega
    have hH1 : Keep H.next H H1 := kp1.trans (p3.le kp1.next)
    rw [hd]
    simp only [owes]
    cases hok : cardOk c with
    | false =>
      rw [hok] at p1
      have q : To P gl none 17 108 (loopB P 17 1) (live17 (.slice r0 o0 n k0 c0) (.slice r1 o1 cs.length k1 c1) (.slice ro 0 n k7 c7) i) [] H _ _ [] _ ∧ WF _ ∧ _ := f17_b1_p5 (by omega) (by omega) rfl hg' hcell rfl hw rfl p1 p3 p2
      obtain ⟨q1, q2, q3⟩ := q
      refine ⟨_, _, _, To.loop_stop q1 (by simp), q2, q3.le hk.next, ?_⟩
      simp [hlen]
    | true =>
    rw [hok] at p1
    by_cases hp : c.par < n
    · have e1 : decide ((n : Int) ≤ c.par) = false := decide_eq_false (by omega)
      rw [e1]
      simp only [Bool.not_true, Bool.or_false, Bool.false_eq_true, if_false]
      have hbox1 := p3.some (w1.lt hbx) hbx
      have hg1' := hH1.some (hw.lt hg') hg'
      have hin := f17_inner (H := H1) (r0 := r0) (o0 := o0) (n0 := n) (c0 := c0) (r1 := r1) (o1 := o1) (n1 := cs.length) (c1 := c1) (r7 := ro) (o7 := 0) (n7 := n) (c7 := c7) (k0 := k0) (k1 := k1) (k7 := k7) (i := i) (c := c) (cs := cs) (by omega) rfl (by omega) hg1' hcut hbox1 i 0 false (by omega)
      rw [List.drop_zero, scan_find hcons] at hin
      have hok2 := hok
      simp only [cardOk, within', Bool.and_eq_true, decide_eq_true_eq] at hok2
      cases hf : findNum c.num (cs.take i) with
      | some d =>
        rw [hf] at hin
        simp only at hin ⊢
        by_cases hdc : d = c
        · rw [if_pos hdc] at hin ⊢
          simp only at hin
          have q : To P gl none 17 108 (loopB P 17 1) (live17 (.slice r0 o0 n k0 c0) (.slice r1 o1 cs.length k1 c1) (.slice ro 0 n k7 c7) i) [] H .normal (live17 (.slice r0 o0 n k0 c0) (.slice r1 o1 cs.length k1 c1) (.slice ro 0 n k7 c7) (i + 1)) [] _ ∧ WF _ ∧ _ :=
            f17_b1_p2 (by omega) (by omega) rfl hg' hcell rfl hw rfl p1 p3 p2 hp hin (w64e (by omega) (by omega) (by omega))
          obtain ⟨q1, q2, q3⟩ := q
          have hcons' : Cons (cs.take (i + 1)) := by
            rw [ht]
            have hm := findNum_mem hf
            rw [hdc] at hm
            intro a ha b hb hab
            have ha' : a ∈ cs.take i := by rcases List.mem_append.1 ha with h | h
                                           · exact h
                                           · rw [List.mem_singleton.1 h]; exact hm
            have hb' : b ∈ cs.take i := by rcases List.mem_append.1 hb with h | h
                                           · exact h
                                           · rw [List.mem_singleton.1 h]; exact hm
            exact hcons a ha' b hb' hab
          obtain ⟨x, live', H', t1, t2, t3, t4⟩ := ih (i + 1) H1 owe ro g c7 k7 (by omega) q2 (hk.trans (q3.le hk.next)) hn (q3.some hrl hgo) hro hcons' (by intro x hx; have := hbd x hx; constructor <;> omega)
          refine ⟨x, live', H', To.loop q1 t1, t2, (q3.le hk.next).trans t3, ?_⟩
          rw [ht] at t4
          exact t4
        · rw [if_neg hdc] at hin ⊢
          simp only at hin
          have q : To P gl none 17 108 (loopB P 17 1) (live17 (.slice r0 o0 n k0 c0) (.slice r1 o1 cs.length k1 c1) (.slice ro 0 n k7 c7) i) [] H _ _ [] _ ∧ WF _ ∧ _ :=
            f17_b1_p4 (by omega) (by omega) rfl hg' hcell rfl hw rfl p1 p3 p2 hp hin
          obtain ⟨q1, q2, q3⟩ := q
          refine ⟨_, _, _, To.loop_stop q1 (by simp), q2, q3.le hk.next, ?_⟩
          simp [hlen]
      | none =>
        rw [hf] at hin
        simp only at hin ⊢
        have hpar : c.par.toNat < owe.length := by omega
        have hget : ((ints owe).flatten : List AV)[0 + c.par.toNat * 1]? = some (.int .i64 (owe.getD c.par.toNat 0)) := by
          rw [ints_flat]
          simp [List.getElem?_map, List.getElem?_eq_getElem hpar, List.getD_eq_getElem?_getD]
        have hbx := hbd (owe.getD c.par.toNat 0) (by
          rw [List.getD_eq_getElem?_getD, List.getElem?_eq_getElem hpar]; exact List.getElem_mem hpar)
        have hsum : IntKind.wrap .i64 (owe.getD c.par.toNat 0 + c.amt) = owe.getD c.par.toNat 0 + c.amt := w64 (by omega) (by omega)
        have q : To P gl none 17 108 (loopB P 17 1) (live17 (.slice r0 o0 n k0 c0) (.slice r1 o1 cs.length k1 c1) (.slice ro 0 n k7 c7) i) [] H .normal (live17 (.slice r0 o0 n k0 c0) (.slice r1 o1 cs.length k1 c1) (.slice ro 0 n k7 c7) (i + 1)) [] _ ∧ WF _ ∧ _ :=
          f17_b1_p3 (by omega) (by omega) rfl hg' hcell rfl hw rfl p1 p3 p2 hp hin (by omega) (by omega) rfl hgo hget hsum rfl (by rw [ints_flat, List.length_map]; omega) rfl rfl (w64e (by omega) (by omega) (by omega))
        obtain ⟨q1, q2, q3⟩ := q
        have hset : setL (ints owe).flatten (0 + c.par.toNat * 1) [.int .i64 (owe.getD c.par.toNat 0 + c.amt)] = (ints (addAt owe c.par c.amt)).flatten := by
          show (ints owe).flatten.set _ _ = _
          rw [ints_set]; simp [addAt]
        rw [hset] at q1 q2 q3
        have kk := q3.to (n := H0.next) (by simp; omega) hk.next
        have hro2 : ro < H1.next := by have := hH1.next; omega
        have hcons' : Cons (cs.take (i + 1)) := by
          rw [ht]
          have hno := findNum_none hf
          intro a ha b hb hab
          rcases List.mem_append.1 ha with h | h <;> rcases List.mem_append.1 hb with h' | h'
          · exact hcons a h b h' hab
          · rw [List.mem_singleton.1 h'] at hab; exact absurd hab (hno a h)
          · rw [List.mem_singleton.1 h] at hab; exact absurd hab.symm (hno b h')
          · rw [List.mem_singleton.1 h, List.mem_singleton.1 h']
        obtain ⟨x, live', H', t1, t2, t3, t4⟩ := ih (i + 1) _ (addAt owe c.par c.amt) ro g c7 k7 (by omega) q2 (hk.trans kk) (by rw [addAt_length]; exact hn) (get_set_eq p2 hro2 _) hro hcons' (by
            intro x hx
            have hi1 : ((i : Int) + 1 : Int) ≤ ((i + 1 : Nat) : Int) + 1 := by omega
            rcases List.mem_or_eq_of_mem_set hx with h | h
            · have := hbd x h; constructor <;> omega
            · subst h; constructor <;> omega)
        refine ⟨x, live', H', To.loop q1 t1, t2, kk.trans t3, ?_⟩
        rw [ht] at t4
        exact t4
    · have e1 : decide ((n : Int) ≤ c.par) = true := decide_eq_true (by omega)
      rw [e1]
      have q : To P gl none 17 108 (loopB P 17 1) (live17 (.slice r0 o0 n k0 c0) (.slice r1 o1 cs.length k1 c1) (.slice ro 0 n k7 c7) i) [] H _ _ [] _ ∧ WF _ ∧ _ :=
        f17_b1_p1 (by omega) (by omega) rfl hg' hcell rfl hw rfl p1 p3 p2 (by omega)
      obtain ⟨q1, q2, q3⟩ := q
      refine ⟨_, _, _, To.loop_stop q1 (by simp), q2, q3.le hk.next, ?_⟩
      simp [hlen]
end Go.Proofs.YtipgfljojhdhjaaGreatDoor

namespace Go.Proofs.YtipgfljojhdhjaaGreatDoor
open Ai
theorem f18nn_p1 {H : AH} (hl1 : To P gl none 18 26 (.loop (loopB P 18 0)) [(0, .nils), (1, .nils), (5, .int .i64 0)] [] H (.exit 0) [] [] H) :
    CallsTo P gl 18 [.nils, .nils] H (.bool true) H := by
  obtain ⟨J7, hl1⟩ := hl1.skolem
  exact callP_calls (orc := [(7, .to false [0, 1, 5] (.exit 0) [] J7 [] H)]) (fs := [_]) (by kernel_rfl) ⟨hl1, trivial⟩
theorem f18nn_p2 {H : AH} (hl1 : To P gl none 18 26 (.loop (loopB P 18 0)) [(0, .nils), (1, .nils), (5, .int .i64 0)] [] H .ret [(4, .bool false)] [] H) :
    CallsTo P gl 18 [.nils, .nils] H (.bool false) H := by
  obtain ⟨J7, hl1⟩ := hl1.skolem
  exact callP_calls (orc := [(7, .to false [0, 1, 5] .ret [(4, .bool false)] J7 [] H)]) (fs := [_]) (by kernel_rfl) ⟨hl1, trivial⟩
theorem f18ns_p1 {b1r : Nat} {b1o : Nat} {b1l : Nat} {b1k : Bool} {b1c : Nat} {H : AH} (h1 : 0 ≠ (b1l : Int)) :
    CallsTo P gl 18 [.nils, .slice b1r b1o b1l b1k b1c] H (.bool false) H := by
  exact callP_calls (orc := [(5, .bit true)]) (fs := [_]) (by kernel_rfl) ⟨(ine_t h1), trivial⟩
theorem f18ns_p2 {b1r : Nat} {b1o : Nat} {b1l : Nat} {b1k : Bool} {b1c : Nat} {H : AH} (h1 : 0 = (b1l : Int)) (hl2 : To P gl none 18 26 (.loop (loopB P 18 0)) [(0, .nils), (1, .slice b1r b1o b1l b1k b1c), (5, .int .i64 0)] [] H (.exit 0) [] [] H) :
    CallsTo P gl 18 [.nils, .slice b1r b1o b1l b1k b1c] H (.bool true) H := by
  obtain ⟨J7, hl2⟩ := hl2.skolem
  exact callP_calls (orc := [(5, .bit false), (7, .to false [0, 1, 5] (.exit 0) [] J7 [] H)]) (fs := [_, _]) (by kernel_rfl) ⟨hl2, (ine_f h1), trivial⟩
theorem f18ns_p3 {b1r : Nat} {b1o : Nat} {b1l : Nat} {b1k : Bool} {b1c : Nat} {H : AH} (h1 : 0 = (b1l : Int)) (hl2 : To P gl none 18 26 (.loop (loopB P 18 0)) [(0, .nils), (1, .slice b1r b1o b1l b1k b1c), (5, .int .i64 0)] [] H .ret [(4, .bool false)] [] H) :
    CallsTo P gl 18 [.nils, .slice b1r b1o b1l b1k b1c] H (.bool false) H := by
  obtain ⟨J7, hl2⟩ := hl2.skolem
  exact callP_calls (orc := [(5, .bit false), (7, .to false [0, 1, 5] .ret [(4, .bool false)] J7 [] H)]) (fs := [_, _]) (by kernel_rfl) ⟨hl2, (ine_f h1), trivial⟩
theorem f18sn_p1 {a0r : Nat} {a0o : Nat} {a0l : Nat} {a0k : Bool} {a0c : Nat} {H : AH} (h1 : (a0l : Int) ≠ 0) :
    CallsTo P gl 18 [.slice a0r a0o a0l a0k a0c, .nils] H (.bool false) H := by
  exact callP_calls (orc := [(5, .bit true)]) (fs := [_]) (by kernel_rfl) ⟨(ine_t h1), trivial⟩
theorem f18sn_p2 {a0r : Nat} {a0o : Nat} {a0l : Nat} {a0k : Bool} {a0c : Nat} {H : AH} (h1 : (a0l : Int) = 0) (hl2 : To P gl none 18 26 (.loop (loopB P 18 0)) [(0, .slice a0r a0o a0l a0k a0c), (1, .nils), (5, .int .i64 0)] [] H (.exit 0) [] [] H) :
    CallsTo P gl 18 [.slice a0r a0o a0l a0k a0c, .nils] H (.bool true) H := by
  obtain ⟨J7, hl2⟩ := hl2.skolem
  exact callP_calls (orc := [(5, .bit false), (7, .to false [0, 1, 5] (.exit 0) [] J7 [] H)]) (fs := [_, _]) (by kernel_rfl) ⟨hl2, (ine_f h1), trivial⟩
theorem f18sn_p3 {a0r : Nat} {a0o : Nat} {a0l : Nat} {a0k : Bool} {a0c : Nat} {H : AH} (h1 : (a0l : Int) = 0) (hl2 : To P gl none 18 26 (.loop (loopB P 18 0)) [(0, .slice a0r a0o a0l a0k a0c), (1, .nils), (5, .int .i64 0)] [] H .ret [(4, .bool false)] [] H) :
    CallsTo P gl 18 [.slice a0r a0o a0l a0k a0c, .nils] H (.bool false) H := by
  obtain ⟨J7, hl2⟩ := hl2.skolem
  exact callP_calls (orc := [(5, .bit false), (7, .to false [0, 1, 5] .ret [(4, .bool false)] J7 [] H)]) (fs := [_, _]) (by kernel_rfl) ⟨hl2, (ine_f h1), trivial⟩
theorem f18_p1 {a0r : Nat} {a0o : Nat} {a0l : Nat} {a0k : Bool} {a0c : Nat} {b1r : Nat} {b1o : Nat} {b1l : Nat} {b1k : Bool} {b1c : Nat} {H : AH} (h1 : (a0l : Int) ≠ (b1l : Int)) :
    CallsTo P gl 18 [.slice a0r a0o a0l a0k a0c, .slice b1r b1o b1l b1k b1c] H (.bool false) H := by
  exact callP_calls (orc := [(5, .bit true)]) (fs := [_]) (by kernel_rfl) ⟨(ine_t h1), trivial⟩
theorem f18_p2 {a0r : Nat} {a0o : Nat} {a0l : Nat} {a0k : Bool} {a0c : Nat} {b1r : Nat} {b1o : Nat} {b1l : Nat} {b1k : Bool} {b1c : Nat} {H : AH} (h1 : (a0l : Int) = (b1l : Int)) (hl2 : To P gl none 18 26 (.loop (loopB P 18 0)) [(0, .slice a0r a0o a0l a0k a0c), (1, .slice b1r b1o b1l b1k b1c), (5, .int .i64 0)] [] H (.exit 0) [] [] H) :
    CallsTo P gl 18 [.slice a0r a0o a0l a0k a0c, .slice b1r b1o b1l b1k b1c] H (.bool true) H := by
  obtain ⟨J7, hl2⟩ := hl2.skolem
  exact callP_calls (orc := [(5, .bit false), (7, .to false [0, 1, 5] (.exit 0) [] J7 [] H)]) (fs := [_, _]) (by kernel_rfl) ⟨hl2, (ine_f h1), trivial⟩
theorem f18_p3 {a0r : Nat} {a0o : Nat} {a0l : Nat} {a0k : Bool} {a0c : Nat} {b1r : Nat} {b1o : Nat} {b1l : Nat} {b1k : Bool} {b1c : Nat} {H : AH} (h1 : (a0l : Int) = (b1l : Int)) (hl2 : To P gl none 18 26 (.loop (loopB P 18 0)) [(0, .slice a0r a0o a0l a0k a0c), (1, .slice b1r b1o b1l b1k b1c), (5, .int .i64 0)] [] H .ret [(4, .bool false)] [] H) :
    CallsTo P gl 18 [.slice a0r a0o a0l a0k a0c, .slice b1r b1o b1l b1k b1c] H (.bool false) H := by
  obtain ⟨J7, hl2⟩ := hl2.skolem
  exact callP_calls (orc := [(5, .bit false), (7, .to false [0, 1, 5] .ret [(4, .bool false)] J7 [] H)]) (fs := [_, _]) (by kernel_rfl) ⟨hl2, (ine_f h1), trivial⟩
theorem f18n_b0_p1 {b1 : AV} {H : AH} :
    To P gl none 18 26 (loopB P 18 0) [(0, .nils), (1, b1), (5, .int .i64 0)] [] H (.exit 0) [] [] H := by
  exact execP_to rfl (orc := []) (n := 4) (fs := []) (fun J => by kernel_rfl) trivial
theorem f18s_b0_p1 {a0r : Nat} {a0o : Nat} {a0l : Nat} {a0k : Bool} {a0c : Nat} {i5 : Nat} {H : AH} (h1 : (a0l : Int) ≤ (i5 : Int)) :
    To P gl none 18 26 (loopB P 18 0) [(0, .slice a0r a0o a0l a0k a0c), (1, .nils), (5, .int .i64 (i5 : Int))] [] H (.exit 0) [] [] H := by
  exact execP_to rfl (orc := [(3, .bit false)]) (n := 4) (fs := [_]) (fun J => by kernel_rfl) ⟨(lt_f h1), trivial⟩
theorem f18_b0_p1 {a0r : Nat} {a0o : Nat} {a0l : Nat} {a0k : Bool} {a0c : Nat} {b1r : Nat} {b1o : Nat} {b1l : Nat} {b1k : Bool} {b1c : Nat} {i5 : Nat} {H : AH} (h1 : (i5 : Int) < (a0l : Int)) {p6 : Nat} (h2 : 0 ≤ (i5 : Int)) (h3 : a0o + (i5 : Int).toNat * 1 = p6) {c7 : List AV} {ro7 : Bool} {g7 : Nat} (hg4 : H.get a0r = some (.cells c7 ro7 g7)) {x7 : Int} (h5 : (c7 : List AV)[p6]? = some (.int .i64 x7)) {p10 : Nat} (h6 : (i5 : Int) < (b1l : Int)) (h7 : b1o + (i5 : Int).toNat * 1 = p10) {c11 : List AV} {ro11 : Bool} {g11 : Nat} (hg8 : H.get b1r = some (.cells c11 ro11 g11)) {x11 : Int} (h9 : (c11 : List AV)[p10]? = some (.int .i64 x11)) (h10 : x7 ≠ x11) :
    To P gl none 18 26 (loopB P 18 0) [(0, .slice a0r a0o a0l a0k a0c), (1, .slice b1r b1o b1l b1k b1c), (5, .int .i64 (i5 : Int))] [] H .ret [(4, .bool false)] [] H := by
  exact execP_to rfl (orc := [(3, .bit true), (6, .at p6), (7, .load c7 ro7 g7 (.int .i64 x7)), (10, .at p10), (11, .load c11 ro11 g11 (.int .i64 x11)), (12, .bit true)]) (n := 14) (fs := [_, _, _, _, _, _, _, _, _, _, _, _]) (fun J => by kernel_rfl) ⟨(ine_t h10), hg8, h9, h2, h6, h7, hg4, h5, h2, h1, h3, (lt_t h1), trivial⟩
theorem f18_b0_p2 {a0r : Nat} {a0o : Nat} {a0l : Nat} {a0k : Bool} {a0c : Nat} {b1r : Nat} {b1o : Nat} {b1l : Nat} {b1k : Bool} {b1c : Nat} {i5 : Nat} {H : AH} (h1 : (i5 : Int) < (a0l : Int)) {p6 : Nat} (h2 : 0 ≤ (i5 : Int)) (h3 : a0o + (i5 : Int).toNat * 1 = p6) {c7 : List AV} {ro7 : Bool} {g7 : Nat} (hg4 : H.get a0r = some (.cells c7 ro7 g7)) {x7 : Int} (h5 : (c7 : List AV)[p6]? = some (.int .i64 x7)) {p10 : Nat} (h6 : (i5 : Int) < (b1l : Int)) (h7 : b1o + (i5 : Int).toNat * 1 = p10) {c11 : List AV} {ro11 : Bool} {g11 : Nat} (hg8 : H.get b1r = some (.cells c11 ro11 g11)) {x11 : Int} (h9 : (c11 : List AV)[p10]? = some (.int .i64 x11)) (h10 : x7 = x11) {z14 : Int} (h11 : IntKind.wrap .i64 ((i5 : Int) + 1) = z14) :
    To P gl none 18 26 (loopB P 18 0) [(0, .slice a0r a0o a0l a0k a0c), (1, .slice b1r b1o b1l b1k b1c), (5, .int .i64 (i5 : Int))] [] H .normal [(0, .slice a0r a0o a0l a0k a0c), (1, .slice b1r b1o b1l b1k b1c), (5, .int .i64 z14)] [] H := by
  exact execP_to rfl (orc := [(3, .bit true), (6, .at p6), (7, .load c7 ro7 g7 (.int .i64 x7)), (10, .at p10), (11, .load c11 ro11 g11 (.int .i64 x11)), (12, .bit false), (14, .int z14)]) (n := 16) (fs := [_, _, _, _, _, _, _, _, _, _, _, _, _]) (fun J => by kernel_rfl) ⟨h11, (ine_f h10), hg8, h9, h2, h6, h7, hg4, h5, h2, h1, h3, (lt_t h1), trivial⟩
theorem f18_b0_p3 {a0r : Nat} {a0o : Nat} {a0l : Nat} {a0k : Bool} {a0c : Nat} {b1r : Nat} {b1o : Nat} {b1l : Nat} {b1k : Bool} {b1c : Nat} {i5 : Nat} {H : AH} (h1 : (a0l : Int) ≤ (i5 : Int)) :
    To P gl none 18 26 (loopB P 18 0) [(0, .slice a0r a0o a0l a0k a0c), (1, .slice b1r b1o b1l b1k b1c), (5, .int .i64 (i5 : Int))] [] H (.exit 0) [] [] H := by
  exact execP_to rfl (orc := [(3, .bit false)]) (n := 4) (fs := [_]) (fun J => by kernel_rfl) ⟨(lt_f h1), trivial⟩
end Go.Proofs.YtipgfljojhdhjaaGreatDoor

namespace Go.Proofs.YtipgfljojhdhjaaGreatDoor
open Ai
theorem f3_p1 {op0 : AV} {l1 : AV} {H : AH} {n2 : Nat} (hv1 : ∀ get, vLen P get 22 op0 = some (.int .i64 (n2 : Int))) (h2 : 40 < (n2 : Int)) (hc3 : CallsTo P gl 14 [] H (.bool true) H) :
    CallsTo P gl 3 [op0, l1] H (.bool true) H := by
  exact callP_calls (orc := [(2, .val (.int .i64 (n2 : Int))), (3, .bit true), (19, .call (.bool true) H)]) (fs := [_, _, _]) (by kernel_rfl) ⟨hc3, (gt_t h2), (hv1 H.get), trivial⟩
theorem f3_p2 {op0 : AV} {l1 : AV} {H : AH} {n2 : Nat} (hv1 : ∀ get, vLen P get 22 op0 = some (.int .i64 (n2 : Int))) (h2 : (n2 : Int) ≤ 40) {n6 : Nat} (hv3 : ∀ get, vLen P get 23 l1 = some (.int .i64 (n6 : Int))) (h4 : 60 < (n6 : Int)) (h5 : (n6 : Int) ≤ 400) (hc6 : CallsTo P gl 14 [] H (.bool true) H) :
    CallsTo P gl 3 [op0, l1] H (.bool true) H := by
  exact callP_calls (orc := [(2, .val (.int .i64 (n2 : Int))), (3, .bit false), (6, .val (.int .i64 (n6 : Int))), (7, .bit true), (10, .val (.int .i64 (n6 : Int))), (11, .bit true), (19, .call (.bool true) H)]) (fs := [_, _, _, _, _, _, _]) (by kernel_rfl) ⟨hc6, (le_t h5), (hv3 H.get), (gt_t h4), (hv3 H.get), (gt_f h2), (hv1 H.get), trivial⟩
theorem f3_p3 {op0 : AV} {l1 : AV} {H : AH} {n2 : Nat} (hv1 : ∀ get, vLen P get 22 op0 = some (.int .i64 (n2 : Int))) (h2 : (n2 : Int) ≤ 40) {n6 : Nat} (hv3 : ∀ get, vLen P get 23 l1 = some (.int .i64 (n6 : Int))) (h4 : 60 < (n6 : Int)) (h5 : 400 < (n6 : Int)) (h6 : 410 < (n6 : Int)) (hc7 : CallsTo P gl 14 [] H (.bool true) H) :
    CallsTo P gl 3 [op0, l1] H (.bool true) H := by
  exact callP_calls (orc := [(2, .val (.int .i64 (n2 : Int))), (3, .bit false), (6, .val (.int .i64 (n6 : Int))), (7, .bit true), (10, .val (.int .i64 (n6 : Int))), (11, .bit false), (16, .val (.int .i64 (n6 : Int))), (17, .bit true), (19, .call (.bool true) H)]) (fs := [_, _, _, _, _, _, _, _, _]) (by kernel_rfl) ⟨hc7, (gt_t h6), (hv3 H.get), (le_f h5), (hv3 H.get), (gt_t h4), (hv3 H.get), (gt_f h2), (hv1 H.get), trivial⟩
theorem f3_p4 {op0 : AV} {l1 : AV} {H : AH} {n2 : Nat} (hv1 : ∀ get, vLen P get 22 op0 = some (.int .i64 (n2 : Int))) (h2 : (n2 : Int) ≤ 40) {n6 : Nat} (hv3 : ∀ get, vLen P get 23 l1 = some (.int .i64 (n6 : Int))) (h4 : 60 < (n6 : Int)) (h5 : 400 < (n6 : Int)) (h6 : (n6 : Int) ≤ 410) {v20 : AV} {H20 : AH} (hc7 : CallsTo P gl 15 [l1] H v20 H20) (hk8 : Keep H.next H H20) (w0 : WF H) (hw10 : WF H20) {H22 : AH} (hH11 : H20.push (.cells [] false 0) = H22) {y24r : Nat} {y24o : Nat} {y24l : Nat} {y24k : Bool} {y24c : Nat} {H24 : AH} (hA12 : aappend P H22 22 false (.slice H20.next 0 0 true 0) op0 = some (.slice y24r y24o y24l y24k y24c, H24)) {v26_0 : AV} {v26_1 : Int} {v26_2 : Int} {H26 : AH} (hc14 : CallsTo P gl 16 [.slice y24r y24o y24l y24k y24c, v20] H24 (.tup [v26_0, .int .i64 v26_1, .int .i64 v26_2]) H26) (hk15 : Keep H24.next H24 H26) (hw16 : WF H26) (hl17 : To P gl none 3 81 (.loop (loopB P 3 0)) [(0, op0), (1, l1), (5, v20), (6, v26_0), (7, .int .i64 v26_1), (8, .int .i64 v26_2), (9, .int .i64 0)] [] H26 (.exit 0) [(0, op0), (1, l1), (6, v26_0), (7, .int .i64 v26_1), (8, .int .i64 v26_2)] [] H26) {v38_0 : AV} {v38_1 : Int} {v38_2 : Int} {H38 : AH} (hc18 : CallsTo P gl 17 [op0, l1] H26 (.tup [v38_0, .int .i64 v38_1, .int .i64 v38_2]) H38) (hk19 : Keep H26.next H26 H38) (hw20 : WF H38) (h21 : v26_2 = v38_2) (h22 : v26_1 = v38_1) (hc23 : CallsTo P gl 18 [v26_0, v38_0] H38 (.bool true) H38) (hc24 : CallsTo P gl 14 [] H38 (.bool true) H38) :
    CallsTo P gl 3 [op0, l1] H (.bool true) H38 ∧ WF H38 ∧ Keep H.next H H38 := by
  have kp0 : KeepX H.next [] H H := KeepX.refl
  have kp1 : KeepX H.next [] H H20 := KeepX.call (KeepX.refl (n := H.next) (xs := []) (H := H)) hk8
  have q0 : WF H22 := by rw [← hH11]; exact WF.push hw10 _
  have q1 : H20.next ≤ H22.next := by rw [← hH11]; exact Nat.le_succ _
  have kp2 : KeepX H.next [] H H22 := by rw [← hH11]; exact KeepX.push kp1 hw10 _
  have q2 : H22.get H20.next = some (.cells [] false 0) := by rw [← hH11]; exact get_push_new hw10 _
  have q3 : H20.next < H22.next := by rw [← hH11]; exact Nat.lt_succ_self _
  have q4 : WF H24 := append_wf q0 hA12
  have q5 : KeepX H22.next [H20.next] H22 H24 := append_sl q0 hA12
  have kp3 : KeepX H.next [] H H24 := KeepX.callx kp2 q5 kp1.next
  have kp4 : KeepX H.next [] H H26 := KeepX.call kp3 hk15
  obtain ⟨J35, hl17⟩ := hl17.skolem
  have kp5 : KeepX H.next [] H H38 := KeepX.call kp4 hk19
  exact ⟨callP_calls (orc := [(2, .val (.int .i64 (n2 : Int))), (3, .bit false), (6, .val (.int .i64 (n6 : Int))), (7, .bit true), (10, .val (.int .i64 (n6 : Int))), (11, .bit false), (16, .val (.int .i64 (n6 : Int))), (17, .bit false), (20, .call v20 H20), (22, .mem H22), (24, .heap (.slice y24r y24o y24l y24k y24c) H24), (26, .call (.tup [v26_0, .int .i64 v26_1, .int .i64 v26_2]) H26), (35, .to false [0, 1, 5, 6, 7, 8, 9] (.exit 0) [(0, op0), (1, l1), (6, v26_0), (7, .int .i64 v26_1), (8, .int .i64 v26_2)] J35 [] H26), (38, .call (.tup [v38_0, .int .i64 v38_1, .int .i64 v38_2]) H38), (48, .bit true), (52, .bit true), (57, .call (.bool true) H38), (60, .call (.bool true) H38)]) (fs := [_, _, _, _, _, _, _, _, _, _, _, _, _, _, _, _, _, _]) (by kernel_rfl) ⟨hc24, hc23, (ieq_t h22), (ieq_t h21), hc18, hl17, hc14, hA12, hH11, hc7, (gt_f h6), (hv3 H.get), (le_f h5), (hv3 H.get), (gt_t h4), (hv3 H.get), (gt_f h2), (hv1 H.get), trivial⟩, hw20, kp5.keep⟩
theorem f3_p5 {op0 : AV} {l1 : AV} {H : AH} {n2 : Nat} (hv1 : ∀ get, vLen P get 22 op0 = some (.int .i64 (n2 : Int))) (h2 : (n2 : Int) ≤ 40) {n6 : Nat} (hv3 : ∀ get, vLen P get 23 l1 = some (.int .i64 (n6 : Int))) (h4 : (n6 : Int) ≤ 60) (h5 : 410 < (n6 : Int)) (hc6 : CallsTo P gl 14 [] H (.bool true) H) :
    CallsTo P gl 3 [op0, l1] H (.bool true) H := by
  exact callP_calls (orc := [(2, .val (.int .i64 (n2 : Int))), (3, .bit false), (6, .val (.int .i64 (n6 : Int))), (7, .bit false), (16, .val (.int .i64 (n6 : Int))), (17, .bit true), (19, .call (.bool true) H)]) (fs := [_, _, _, _, _, _, _]) (by kernel_rfl) ⟨hc6, (gt_t h5), (hv3 H.get), (gt_f h4), (hv3 H.get), (gt_f h2), (hv1 H.get), trivial⟩
theorem f3_p6 {op0 : AV} {l1 : AV} {H : AH} {n2 : Nat} (hv1 : ∀ get, vLen P get 22 op0 = some (.int .i64 (n2 : Int))) (h2 : (n2 : Int) ≤ 40) {n6 : Nat} (hv3 : ∀ get, vLen P get 23 l1 = some (.int .i64 (n6 : Int))) (h4 : (n6 : Int) ≤ 60) (h5 : (n6 : Int) ≤ 410) {v20 : AV} {H20 : AH} (hc6 : CallsTo P gl 15 [l1] H v20 H20) (hk7 : Keep H.next H H20) (w0 : WF H) (hw9 : WF H20) {H22 : AH} (hH10 : H20.push (.cells [] false 0) = H22) {y24r : Nat} {y24o : Nat} {y24l : Nat} {y24k : Bool} {y24c : Nat} {H24 : AH} (hA11 : aappend P H22 22 false (.slice H20.next 0 0 true 0) op0 = some (.slice y24r y24o y24l y24k y24c, H24)) {v26_0 : AV} {v26_1 : Int} {v26_2 : Int} {H26 : AH} (hc13 : CallsTo P gl 16 [.slice y24r y24o y24l y24k y24c, v20] H24 (.tup [v26_0, .int .i64 v26_1, .int .i64 v26_2]) H26) (hk14 : Keep H24.next H24 H26) (hw15 : WF H26) (hl16 : To P gl none 3 81 (.loop (loopB P 3 0)) [(0, op0), (1, l1), (5, v20), (6, v26_0), (7, .int .i64 v26_1), (8, .int .i64 v26_2), (9, .int .i64 0)] [] H26 (.exit 0) [(0, op0), (1, l1), (6, v26_0), (7, .int .i64 v26_1), (8, .int .i64 v26_2)] [] H26) {v38_0 : AV} {v38_1 : Int} {v38_2 : Int} {H38 : AH} (hc17 : CallsTo P gl 17 [op0, l1] H26 (.tup [v38_0, .int .i64 v38_1, .int .i64 v38_2]) H38) (hk18 : Keep H26.next H26 H38) (hw19 : WF H38) (h20 : v26_2 = v38_2) (h21 : v26_1 = v38_1) (hc22 : CallsTo P gl 18 [v26_0, v38_0] H38 (.bool true) H38) (hc23 : CallsTo P gl 14 [] H38 (.bool true) H38) :
    CallsTo P gl 3 [op0, l1] H (.bool true) H38 ∧ WF H38 ∧ Keep H.next H H38 := by
  have kp0 : KeepX H.next [] H H := KeepX.refl
  have kp1 : KeepX H.next [] H H20 := KeepX.call (KeepX.refl (n := H.next) (xs := []) (H := H)) hk7
  have q0 : WF H22 := by rw [← hH10]; exact WF.push hw9 _
  have q1 : H20.next ≤ H22.next := by rw [← hH10]; exact Nat.le_succ _
  have kp2 : KeepX H.next [] H H22 := by rw [← hH10]; exact KeepX.push kp1 hw9 _
  have q2 : H22.get H20.next = some (.cells [] false 0) := by rw [← hH10]; exact get_push_new hw9 _
  have q3 : H20.next < H22.next := by rw [← hH10]; exact Nat.lt_succ_self _
  have q4 : WF H24 := append_wf q0 hA11
  have q5 : KeepX H22.next [H20.next] H22 H24 := append_sl q0 hA11
  have kp3 : KeepX H.next [] H H24 := KeepX.callx kp2 q5 kp1.next
  have kp4 : KeepX H.next [] H H26 := KeepX.call kp3 hk14
  obtain ⟨J35, hl16⟩ := hl16.skolem
  have kp5 : KeepX H.next [] H H38 := KeepX.call kp4 hk18
  exact ⟨callP_calls (orc := [(2, .val (.int .i64 (n2 : Int))), (3, .bit false), (6, .val (.int .i64 (n6 : Int))), (7, .bit false), (16, .val (.int .i64 (n6 : Int))), (17, .bit false), (20, .call v20 H20), (22, .mem H22), (24, .heap (.slice y24r y24o y24l y24k y24c) H24), (26, .call (.tup [v26_0, .int .i64 v26_1, .int .i64 v26_2]) H26), (35, .to false [0, 1, 5, 6, 7, 8, 9] (.exit 0) [(0, op0), (1, l1), (6, v26_0), (7, .int .i64 v26_1), (8, .int .i64 v26_2)] J35 [] H26), (38, .call (.tup [v38_0, .int .i64 v38_1, .int .i64 v38_2]) H38), (48, .bit true), (52, .bit true), (57, .call (.bool true) H38), (60, .call (.bool true) H38)]) (fs := [_, _, _, _, _, _, _, _, _, _, _, _, _, _, _, _]) (by kernel_rfl) ⟨hc23, hc22, (ieq_t h21), (ieq_t h20), hc17, hl16, hc13, hA11, hH10, hc6, (gt_f h5), (hv3 H.get), (gt_f h4), (hv3 H.get), (gt_f h2), (hv1 H.get), trivial⟩, hw19, kp5.keep⟩
theorem f3n_b0_p1 {op0 : AV} {in5 : AV} {ow6 : AV} {at7 : Int} {e8 : Int} {H : AH} :
    To P gl none 3 81 (loopB P 3 0) [(0, op0), (1, .nils), (5, in5), (6, ow6), (7, .int .i64 at7), (8, .int .i64 e8), (9, .int .i64 0)] [] H (.exit 0) [(0, op0), (1, .nils), (6, ow6), (7, .int .i64 at7), (8, .int .i64 e8)] [] H := by
  exact execP_to rfl (orc := []) (n := 4) (fs := []) (fun J => by kernel_rfl) trivial
theorem f3_b0_p1 {op0 : AV} {l1r : Nat} {l1o : Nat} {l1l : Nat} {l1k : Bool} {l1c : Nat} {in5r : Nat} {in5o : Nat} {in5l : Nat} {in5k : Bool} {in5c : Nat} {ow6 : AV} {at7 : Int} {e8 : Int} {i9 : Nat} {H : AH} (h1 : (i9 : Int) < (l1l : Int)) {p6 : Nat} (h2 : 0 ≤ (i9 : Int)) (h3 : (i9 : Int) < (in5l : Int)) (h4 : in5o + (i9 : Int).toNat * 4 = p6) {c7 : List AV} {ro7 : Bool} {g7 : Nat} (hg5 : H.get in5r = some (.cells c7 ro7 g7)) {x7Number : Int} {x7Day : Int} {x7Parish : Int} {x7Amount : Int} (h6 : cut c7 p6 4 = some [.int .i64 x7Number, .int .i64 x7Day, .int .i64 x7Parish, .int .i64 x7Amount]) {p10 : Nat} (h7 : l1o + (i9 : Int).toNat * 4 = p10) {c11 : List AV} {ro11 : Bool} {g11 : Nat} (hg8 : H.get l1r = some (.cells c11 ro11 g11)) {x11Number : Int} {x11Day : Int} {x11Parish : Int} {x11Amount : Int} (h9 : cut c11 p10 4 = some [.int .i64 x11Number, .int .i64 x11Day, .int .i64 x11Parish, .int .i64 x11Amount]) (h10 : AV.beqL [.int .i64 x7Number, .int .i64 x7Day, .int .i64 x7Parish, .int .i64 x7Amount] [.int .i64 x11Number, .int .i64 x11Day, .int .i64 x11Parish, .int .i64 x11Amount] = false) :
    To P gl none 3 81 (loopB P 3 0) [(0, op0), (1, .slice l1r l1o l1l l1k l1c), (5, .slice in5r in5o in5l in5k in5c), (6, ow6), (7, .int .i64 at7), (8, .int .i64 e8), (9, .int .i64 (i9 : Int))] [] H .ret [(4, .bool false)] [] H := by
  exact execP_to rfl (orc := [(3, .bit true), (6, .at p6), (7, .load c7 ro7 g7 (.agg [.int .i64 x7Number, .int .i64 x7Day, .int .i64 x7Parish, .int .i64 x7Amount])), (10, .at p10), (11, .load c11 ro11 g11 (.agg [.int .i64 x11Number, .int .i64 x11Day, .int .i64 x11Parish, .int .i64 x11Amount])), (12, .bit true)]) (n := 14) (fs := [_, _, _, _, _, _, _, _, _, _, _, _]) (fun J => by kernel_rfl) ⟨(not_t h10), hg8, h9, h2, h1, h7, hg5, h6, h2, h3, h4, (lt_t h1), trivial⟩
theorem f3_b0_p2 {op0 : AV} {l1r : Nat} {l1o : Nat} {l1l : Nat} {l1k : Bool} {l1c : Nat} {in5r : Nat} {in5o : Nat} {in5l : Nat} {in5k : Bool} {in5c : Nat} {ow6 : AV} {at7 : Int} {e8 : Int} {i9 : Nat} {H : AH} (h1 : (i9 : Int) < (l1l : Int)) {p6 : Nat} (h2 : 0 ≤ (i9 : Int)) (h3 : (i9 : Int) < (in5l : Int)) (h4 : in5o + (i9 : Int).toNat * 4 = p6) {c7 : List AV} {ro7 : Bool} {g7 : Nat} (hg5 : H.get in5r = some (.cells c7 ro7 g7)) {x7Number : Int} {x7Day : Int} {x7Parish : Int} {x7Amount : Int} (h6 : cut c7 p6 4 = some [.int .i64 x7Number, .int .i64 x7Day, .int .i64 x7Parish, .int .i64 x7Amount]) {p10 : Nat} (h7 : l1o + (i9 : Int).toNat * 4 = p10) {c11 : List AV} {ro11 : Bool} {g11 : Nat} (hg8 : H.get l1r = some (.cells c11 ro11 g11)) {x11Number : Int} {x11Day : Int} {x11Parish : Int} {x11Amount : Int} (h9 : cut c11 p10 4 = some [.int .i64 x11Number, .int .i64 x11Day, .int .i64 x11Parish, .int .i64 x11Amount]) (h10 : AV.beqL [.int .i64 x7Number, .int .i64 x7Day, .int .i64 x7Parish, .int .i64 x7Amount] [.int .i64 x11Number, .int .i64 x11Day, .int .i64 x11Parish, .int .i64 x11Amount] = true) {z14 : Int} (h11 : IntKind.wrap .i64 ((i9 : Int) + 1) = z14) :
    To P gl none 3 81 (loopB P 3 0) [(0, op0), (1, .slice l1r l1o l1l l1k l1c), (5, .slice in5r in5o in5l in5k in5c), (6, ow6), (7, .int .i64 at7), (8, .int .i64 e8), (9, .int .i64 (i9 : Int))] [] H .normal [(0, op0), (1, .slice l1r l1o l1l l1k l1c), (5, .slice in5r in5o in5l in5k in5c), (6, ow6), (7, .int .i64 at7), (8, .int .i64 e8), (9, .int .i64 z14)] [] H := by
  exact execP_to rfl (orc := [(3, .bit true), (6, .at p6), (7, .load c7 ro7 g7 (.agg [.int .i64 x7Number, .int .i64 x7Day, .int .i64 x7Parish, .int .i64 x7Amount])), (10, .at p10), (11, .load c11 ro11 g11 (.agg [.int .i64 x11Number, .int .i64 x11Day, .int .i64 x11Parish, .int .i64 x11Amount])), (12, .bit false), (14, .int z14)]) (n := 16) (fs := [_, _, _, _, _, _, _, _, _, _, _, _, _]) (fun J => by kernel_rfl) ⟨h11, (not_f h10), hg8, h9, h2, h1, h7, hg5, h6, h2, h3, h4, (lt_t h1), trivial⟩
theorem f3_b0_p3 {op0 : AV} {l1r : Nat} {l1o : Nat} {l1l : Nat} {l1k : Bool} {l1c : Nat} {in5r : Nat} {in5o : Nat} {in5l : Nat} {in5k : Bool} {in5c : Nat} {ow6 : AV} {at7 : Int} {e8 : Int} {i9 : Nat} {H : AH} (h1 : (l1l : Int) ≤ (i9 : Int)) :
    To P gl none 3 81 (loopB P 3 0) [(0, op0), (1, .slice l1r l1o l1l l1k l1c), (5, .slice in5r in5o in5l in5k in5c), (6, ow6), (7, .int .i64 at7), (8, .int .i64 e8), (9, .int .i64 (i9 : Int))] [] H (.exit 0) [(0, op0), (1, .slice l1r l1o l1l l1k l1c), (6, ow6), (7, .int .i64 at7), (8, .int .i64 e8)] [] H := by
  exact execP_to rfl (orc := [(3, .bit false)]) (n := 4) (fs := [_]) (fun J => by kernel_rfl) ⟨(lt_f h1), trivial⟩
end Go.Proofs.YtipgfljojhdhjaaGreatDoor

namespace Go.Proofs.YtipgfljojhdhjaaGreatDoor
open Ai

theorem und22 : P.underlying 22 = some (.slice 3) := by kernel_rfl
theorem und23 : P.underlying 23 = some (.slice 30) := by kernel_rfl

theorem accounts_ref {H : AH} {v0 v1 : AV} {op : List Int} {cs : List Card} (hw : WF H) (ho : SlAt H v0 1 (ints op)) (hc : SlAt H v1 4 (cards cs)) :
    ∃ v m e H', CallsTo P gl 17 [v0, v1] H (.tup [v, .int .i64 m, .int .i64 e]) H' ∧ WF H' ∧ Keep H.next H H' ∧ oweV H' v m e (accounts op cs) := by
  have hw1 := hw.push (.cells [] false 0)
  have k1 := Keep.push hw (.cells [] false 0) (Nat.le_refl _)
  have hempty : Acc P (H.push (.cells [] false 0)) 22 (.slice H.next 0 0 true 0) (ints (op.take 0)) := by
    rw [List.take_zero]; exact Acc.empty sty22 (get_push_new hw _)
  unfold accounts
  rcases ho.2 with ⟨rfl, hop⟩ | ⟨r0, o0, kn0, c0, cells0, ro0, g0, rfl, hg0, hcut0⟩
  · have hnil : op = [] := by simpa [ints] using hop
    subst hnil
    rcases hc.2 with ⟨rfl, hcs⟩ | ⟨r1, o1, kn1, c1, cells1, ro1, g1, rfl, hg1, hcut1⟩
    · have hcnil : cs = [] := by simpa [cards] using hcs
      subst hcnil
      rw [if_neg (by simp), if_pos (.inl rfl)]
      obtain ⟨q1, q2, q3⟩ := f17n_p4 rfl hw (To.loop_stop f17n_b0_p1 (by simp)) Keep.refl hw1
      exact ⟨_, _, _, _, q1, q2, q3, rfl, rfl, rfl⟩
    · rw [cards_length]
      by_cases h400 : 400 < cs.length
      · rw [if_pos (.inr h400)]
        exact ⟨_, _, _, H, f17n_p1 (by omega), hw, Keep.refl, rfl, rfl, rfl⟩
      · rw [if_neg (by simp; omega), if_pos (.inl rfl)]
        obtain ⟨q1, q2, q3⟩ := f17n_p2 (ca1r := r1) (ca1o := o1) (ca1k := kn1) (ca1c := c1) (ca1l := cs.length) (by omega) rfl hw (To.loop_stop f17n_b0_p1 (by simp)) Keep.refl hw1
        exact ⟨_, _, _, _, q1, q2, q3, rfl, rfl, rfl⟩
  · rw [ints_length]
    by_cases h30 : 30 < op.length
    · rw [if_pos (.inl h30)]
      rcases hc.2 with ⟨rfl, hcs⟩ | ⟨r1, o1, kn1, c1, cells1, ro1, g1, rfl, hg1, hcut1⟩
      · exact ⟨_, _, _, H, f17_p7 (by omega), hw, Keep.refl, rfl, rfl, rfl⟩
      · exact ⟨_, _, _, H, f17_p1 (by omega), hw, Keep.refl, rfl, rfl, rfl⟩
    by_cases h400 : 400 < cs.length
    · rw [if_pos (.inr h400)]
      rcases hc.2 with ⟨rfl, hcs⟩ | ⟨r1, o1, kn1, c1, cells1, ro1, g1, rfl, hg1, hcut1⟩
      · have hcnil : cs = [] := by simpa [cards] using hcs
        subst hcnil
        simp at h400
      · rw [cards_length]
        exact ⟨_, _, _, H, f17_p2 (by omega) (by omega), hw, Keep.refl, rfl, rfl, rfl⟩
    rw [if_neg (by omega)]
    obtain ⟨x, live', H1, t1, t2, t3, t4⟩ := f17_first (H0 := H) (r0 := r0) (o0 := o0) (n := op.length) (c0 := c0) (k0 := kn0) (v1 := v1) rfl (by omega) hw hg0 (by rw [ints_length] at hcut0; exact hcut0) op.length 0 (H.push (.cells [] false 0)) (.slice H.next 0 0 true 0) (by omega) hw1 k1 hempty ⟨_, _, _, _, _, rfl, Nat.le_refl _⟩
    rw [List.drop_zero] at t4
    cases hm : inAll (-10000000) 10000000 op with
    | false =>
      rw [hm] at t4
      obtain ⟨rfl, rfl⟩ := t4
      rw [if_pos (.inr rfl)]
      rcases hc.2 with ⟨rfl, hcs⟩ | ⟨r1, o1, kn1, c1, cells1, ro1, g1, rfl, hg1, hcut1⟩
      · obtain ⟨q1, q2, q3⟩ := f17_p11 (by omega) rfl hw t1 t3 t2
        exact ⟨_, _, _, _, q1, q2, q3, rfl, rfl, rfl⟩
      · rw [cards_length] at *
        obtain ⟨q1, q2, q3⟩ := f17_p6 (by omega) (by omega) rfl hw t1 t3 t2
        exact ⟨_, _, _, _, q1, q2, q3, rfl, rfl, rfl⟩
    | true =>
    rw [hm] at t4
    obtain ⟨rfl, v7, rfl, hacc, hown⟩ := t4
    by_cases hnil : op = []
    · subst hnil
      rw [if_pos (.inl rfl)]
      obtain ⟨r7, o7, l7, k7, c7, rfl, hr7⟩ := hown
      rcases hc.2 with ⟨rfl, hcs⟩ | ⟨r1, o1, kn1, c1, cells1, ro1, g1, rfl, hg1, hcut1⟩
      · obtain ⟨q1, q2, q3⟩ := f17_p8 (by simp) rfl hw t1 t3 t2 (by simp)
        exact ⟨_, _, _, _, q1, q2, q3, rfl, rfl, rfl⟩
      · rw [cards_length] at *
        obtain ⟨q1, q2, q3⟩ := f17_p3 (by simp) (by omega) rfl hw t1 t3 t2 (by simp)
        exact ⟨_, _, _, _, q1, q2, q3, rfl, rfl, rfl⟩
    rw [if_neg (by simp [hnil])]
    have hne : (op.length : Int) ≠ 0 := by
      have : op.length ≠ 0 := by simpa using hnil
      omega
    have hine : ints op ≠ [] := by simpa [ints] using hnil
    obtain ⟨r7, g7, rfl, hg7⟩ := acc_own hacc hine
    have hr7 : H.next ≤ r7 := by
      obtain ⟨_, _, _, _, _, h, h2⟩ := hown
      cases h; exact h2
    rw [ints_length] at t1
    have hbd : ∀ x ∈ op, -10000000 * (((0 : Nat) : Int) + 1) ≤ x ∧ x ≤ 10000000 * (((0 : Nat) : Int) + 1) := by
      intro x hx
      unfold inAll at hm
      rw [List.all_eq_true] at hm
      have := hm x hx
      simp only [decide_eq_true_eq] at this
      omega
    have hfin : ∀ (l : List Int) (H' : AH), H'.get r7 = some (.cells (ints l).flatten false g7) → l.length = op.length → SlAt H' (.slice r7 0 op.length false 0) 1 (ints l) := by
      intro l H' hgl hll
      have := SlAt.of (H := H') (r := r7) (o := 0) (c := 0) (kn := false) (sz := 1) (es := ints l) (by simp [ints]) hgl (cut_all (by rw [ints_flat]; simp [ints]))
      rw [ints_length, hll] at this
      exact this
    rcases hc.2 with ⟨rfl, hcs⟩ | ⟨r1, o1, kn1, c1, cells1, ro1, g1, rfl, hg1, hcut1⟩
    · have hcnil : cs = [] := by simpa [cards] using hcs
      subst hcnil
      obtain ⟨q1, q2, q3⟩ := f17_p9 (by omega) rfl hw t1 t3 t2 hne (To.loop_stop f17m_b1_p1 (by simp)) Keep.refl t2
      exact ⟨_, _, _, _, q1, q2, q3, rfl, rfl, hfin op _ hg7 rfl⟩
    · rw [cards_length] at *
      obtain ⟨x, live', H2, s1, s2, s3, s4⟩ := f17_outer (H0 := H) (r0 := r0) (o0 := o0) (n := op.length) (c0 := c0) (r1 := r1) (o1 := o1) (c1 := c1) (k0 := kn0) (k1 := kn1) (cs := cs) (by omega) hw hg1 (by rw [cards_length]; exact hcut1)
        cs.length 0 H1 op r7 g7 0 false (by omega) t2 (k1.trans t3) rfl hg7 hr7 (by intro d hd; simp at hd) hbd
      simp only [List.take_zero, List.drop_zero] at s4
      cases hr : owes op.length [] op cs with
      | inl l =>
        rw [hr] at s4
        obtain ⟨rfl, rfl, hgl, hll⟩ := s4
        obtain ⟨q1, q2, q3⟩ := f17_p4 (by omega) (by omega) rfl hw t1 t3 t2 hne s1 s3 s2
        exact ⟨_, _, _, _, q1, q2, q3, rfl, rfl, hfin l _ hgl hll⟩
      | inr y =>
        obtain ⟨j, e⟩ := y
        rw [hr] at s4
        obtain ⟨rfl, rfl⟩ := s4
        obtain ⟨q1, q2, q3⟩ := f17_p5 (by omega) (by omega) rfl hw t1 t3 t2 hne s1 s3 s2
        exact ⟨_, _, _, _, q1, q2, q3, rfl, rfl, rfl⟩

/-- Lists that are the same. -/
theorem same_true {H : AH} {a b : AV} {l : List Int} (hb : l.length < 4611686018427387904) (h1 : SlAt H a 1 (ints l)) (h2 : SlAt H b 1 (ints l)) : CallsTo P gl 18 [a, b] H (.bool true) H := by
  rcases h1.2 with ⟨rfl, hl⟩ | ⟨r, o, kn, c, c0, ro, g, rfl, hg, hcut⟩
  · have hnil : l = [] := by simpa [ints] using hl
    subst hnil
    rcases h2.2 with ⟨rfl, _⟩ | ⟨r', o', kn', c', c0', ro', g', rfl, _, _⟩
    · exact f18nn_p1 (To.loop_stop f18n_b0_p1 (by simp))
    · exact f18ns_p2 (by simp [ints]) (To.loop_stop f18n_b0_p1 (by simp))
  · rcases h2.2 with ⟨rfl, hl⟩ | ⟨r', o', kn', c', c0', ro', g', rfl, hg', hcut'⟩
    · have hnil : l = [] := by simpa [ints] using hl
      subst hnil
      exact f18sn_p2 (by simp [ints]) (To.loop_stop (f18s_b0_p1 (i5 := 0) (by simp [ints])) (by simp))
    · refine f18_p2 rfl ?_
      rw [ints_length]
      refine To.iter (fun i => [(0, .slice r o l.length kn c), (1, .slice r' o' l.length kn' c'), (5, .int .i64 (i : Int))]) (fun _ => H) l.length (fun i hi => ?_) (f18_b0_p3 (by omega)) (by simp) l.length 0 (by omega)
      have hx : l[i]? = some l[i] := List.getElem?_eq_getElem hi
      have e1 := cut_one.1 (elem_cut h1.1 hcut (ints_get hx))
      have e2 := cut_one.1 (elem_cut h2.1 hcut' (ints_get hx))
      exact f18_b0_p2 (by omega) (by omega) rfl hg e1 (by omega) rfl hg' e2 rfl (w64e (by omega) (by omega) (by omega))

theorem owes_length {n : Nat} : ∀ {cs pre : List Card} {owe l : List Int}, owes n pre owe cs = .inl l → l.length = owe.length
  | [], pre, owe, l, h => by simp only [owes] at h; cases h; rfl
  | c :: cs, pre, owe, l, h => by
      simp only [owes] at h
      split at h
      · cases h
      · split at h
        · have := owes_length h; rwa [addAt_length] at this
        · split at h
          · exact owes_length h
          · cases h

/-- The cards are not changed. -/
theorem f3_loop {H : AH} {v0 v1 v6 : AV} {r' o' c' : Nat} {kn' : Bool} {m e : Int} {cs : List Card} (hb : cs.length ≤ 1000000) (h1 : SlAt H v1 4 (cards cs)) (h5 : SlAt H (.slice r' o' cs.length kn' c') 4 (cards cs)) :
    To P gl none 3 81 (.loop (loopB P 3 0)) [(0, v0), (1, v1), (5, .slice r' o' cs.length kn' c'), (6, v6), (7, .int .i64 m), (8, .int .i64 e), (9, .int .i64 0)] [] H (.exit 0) [(0, v0), (1, v1), (6, v6), (7, .int .i64 m), (8, .int .i64 e)] [] H := by
  rcases h1.2 with ⟨rfl, hl⟩ | ⟨r, o, kn, c, c0, ro, g, rfl, hg, hcut⟩
  · exact To.loop_stop f3n_b0_p1 (by simp)
  · rcases h5.2 with ⟨hx, hl⟩ | ⟨r2, o2, kn2, c2, c0', ro', g', hx, hg', hcut'⟩
    · cases hx
    · injection hx with e1 e2 e3 e4 e5
      subst e1 e2 e4 e5
      rw [cards_length]
      refine To.iter (fun i => [(0, v0), (1, .slice r o cs.length kn c), (5, .slice r' o' cs.length kn' c'), (6, v6), (7, .int .i64 m), (8, .int .i64 e), (9, .int .i64 (i : Int))]) (fun _ => H) cs.length (fun i hi => ?_) (f3_b0_p3 (by omega)) (by simp) cs.length 0 (by omega)
      have hx : cs[i]? = some cs[i] := List.getElem?_eq_getElem hi
      have e1 := elem_cut h1.1 hcut (cards_get hx)
      have e2 := elem_cut h5.1 hcut' (cards_get hx)
      have hbq := card_beq cs[i] cs[i]
      rw [decide_eq_true rfl] at hbq
      exact f3_b0_p2 (by omega) (by omega) (by omega) rfl hg' e2 rfl hg e1 hbq (w64e (by omega) (by omega) (by omega))

theorem owes_calls {H : AH} {v0 v1 : AV} {op : List Int} {cs : List Card} (hw : WF H) (hp : H.get 0 = some (.cells pows true 0)) (ho : SlAt H v0 1 (ints op)) (hc : SlAt H v1 4 (cards cs)) :
    ∃ H', CallsTo P gl 3 [v0, v1] H (.bool true) H' ∧ WF H' ∧ Keep H.next H H' := by
  have h1n : ∀ {K : AH}, WF K → K.get 0 = some (.cells pows true 0) → CallsTo P gl 14 [] K (.bool true) K := fun hk hg => known_calls hg (hk.lt hg)
  have l0 : ∀ get, vLen P get 22 v0 = some (.int .i64 (op.length : Int)) := fun get => by have := ho.len und22 get; rwa [ints_length] at this
  have l1 : ∀ get, vLen P get 23 v1 = some (.int .i64 (cs.length : Int)) := fun get => by have := hc.len und23 get; rwa [cards_length] at this
  by_cases h40 : 40 < op.length
  · exact ⟨H, f3_p1 l0 (by omega) (h1n hw hp), hw, Keep.refl⟩
  have main : cs.length ≤ 60 ∨ (400 < cs.length ∧ cs.length ≤ 410) → ∃ H', CallsTo P gl 3 [v0, v1] H (.bool true) H' ∧ WF H' ∧ Keep H.next H H' := by
    intro hlen
    obtain ⟨r5, k5, H1, a1, a2, a3, a4, a5⟩ := cards_spec hw hc (by omega)
    obtain ⟨ro, ko, H3, b1, b2, b3, b4, b5⟩ := append_copy sty22 a2 (by rw [sz3]; exact ho.keep hw a3) (one_ints op) (by rw [by3, ints_length]; omega) (by rw [ints_length]; omega)
    have hop3 : SlAt H3 (.slice ro 0 op.length ko 0) 1 (ints op) := by
      have := b2.slAt sty22.und sty22.info
      rw [sz3, ints_length] at this
      exact this
    rw [ints_length] at b1
    have hc3 := a4.keep a2 b5
    obtain ⟨v6, m, e, H4, c1, c2, c3, c4⟩ := accounts_book b3 hop3 hc3 (by omega)
    have k4 : Keep H.next H H4 := (a3.trans (b5.le a3.next)).trans (c3.le (Nat.le_trans a3.next b5.next))
    have hc4 := hc.keep hw k4
    have ho4 := ho.keep hw k4
    obtain ⟨v7, m', e', H5, d1, d2, d3, d4⟩ := accounts_ref c2 ho4 hc4
    have k5' : Keep H.next H H5 := k4.trans (d3.le k4.next)
    have hp5 := k5'.some (hw.lt hp) hp
    have hres : e = e' ∧ m = m' ∧ CallsTo P gl 18 [v6, v7] H5 (.bool true) H5 := by
      cases hr : accounts op cs with
      | inl l =>
        rw [hr] at c4 d4
        obtain ⟨rfl, rfl, s1⟩ := c4
        obtain ⟨rfl, rfl, s2⟩ := d4
        refine ⟨rfl, rfl, same_true (l := l) ?_ (s1.keep c2 d3) s2⟩
        have hlen : l.length = op.length := by
          unfold accounts at hr
          split at hr
          · cases hr
          · split at hr
            · cases hr
            · exact owes_length hr
        omega
      | inr y =>
        obtain ⟨j, x⟩ := y
        rw [hr] at c4 d4
        obtain ⟨rfl, rfl, rfl⟩ := c4
        obtain ⟨rfl, rfl, rfl⟩ := d4
        exact ⟨rfl, rfl, same_true (l := []) (by simp) SlAt.nil SlAt.nil⟩
    obtain ⟨rfl, rfl, hs⟩ := hres
    have hloop := f3_loop (v0 := v0) (v6 := v6) (m := m) (e := e) (cs := cs) (by omega) hc4 ((hc3.keep b3 c3))
    rcases hlen with hlen | ⟨hl1, hl2⟩
    · obtain ⟨q1, q2, q3⟩ := f3_p6 l0 (by omega) l1 (by omega) (by omega) a1 a3 hw a2 rfl b1 c1 c3 c2 hloop d1 d3 d2 rfl rfl hs (h1n d2 hp5)
      exact ⟨_, q1, q2, q3⟩
    · obtain ⟨q1, q2, q3⟩ := f3_p4 l0 (by omega) l1 (by omega) (by omega) (by omega) a1 a3 hw a2 rfl b1 c1 c3 c2 hloop d1 d3 d2 rfl rfl hs (h1n d2 hp5)
      exact ⟨_, q1, q2, q3⟩
  by_cases h60 : cs.length ≤ 60
  · exact main (.inl h60)
  by_cases h400 : cs.length ≤ 400
  · exact ⟨H, f3_p2 l0 (by omega) l1 (by omega) (by omega) (h1n hw hp), hw, Keep.refl⟩
  by_cases h410 : cs.length ≤ 410
  · exact main (.inr ⟨by omega, h410⟩)
  · exact ⟨H, f3_p3 l0 (by omega) l1 (by omega) (by omega) (by omega) (h1n hw hp), hw, Keep.refl⟩

end Go.Proofs.YtipgfljojhdhjaaGreatDoor
