/- The program of this seat, where its variables lie, and what is known of known() beforehand. known() is true: reckoned by the kernel at a memory that holds the powers of ten alone; so it is at every memory that holds them. Path lemmas, by program. within, isMoney: what they return. Path lemmas, by program. Cards: isCard, box.add, Clone, cards; in and Card of the reference. Path lemmas, by program. book.Accounts: what it returns. -/
import Derived.Test.YtipgfljojhdhjaaGreatDoorAiC
import Derived.Test.YtipgfljojhdhjaaGreatDoorProg
set_option linter.all false
set_option linter.unusedVariables false
set_option linter.unusedSimpArgs false
set_option linter.unnecessarySimpa false
set_option linter.deprecated false
set_option maxRecDepth 100000
namespace Go.Proofs.YtipgfljojhdhjaaGreatDoor
open Ai
noncomputable abbrev P : Program := Tryz.prog
/-- The powers of ten (internal/strconv.uint64pow10). -/
def pows : List AV := [.int .u64 1, .int .u64 10, .int .u64 100, .int .u64 1000, .int .u64 10000, .int .u64 100000, .int .u64 1000000, .int .u64 10000000, .int .u64 100000000, .int .u64 1000000000, .int .u64 10000000000, .int .u64 100000000000, .int .u64 1000000000000, .int .u64 10000000000000, .int .u64 100000000000000, .int .u64 1000000000000000, .int .u64 10000000000000000, .int .u64 100000000000000000, .int .u64 1000000000000000000, .int .u64 10000000000000000000]
def glAt : Nat → Option Nat := fun g => bif Nat.beq g 1 then some 0 else none
open Classical in
noncomputable def knownExt (args : List AV) (H : AH) : Option (AV × AH) := if args = [] ∧ H.get 0 = some (.cells pows true 0) ∧ 1 ≤ H.next then some (.bool true, H) else none
noncomputable def gl : Gl := ⟨glAt, fun f args H => bif Nat.beq f 14 then knownExt args H else none⟩

/-- known() is true. -/
theorem known_calls {H : AH} (hg : H.get 0 = some (.cells pows true 0)) (hn : 1 ≤ H.next) : CallsTo P gl 14 [] H (.bool true) H :=
  CallsTo.ext (show knownExt [] H = _ by unfold knownExt; rw [if_pos ⟨rfl, hg, hn⟩])
end Go.Proofs.YtipgfljojhdhjaaGreatDoor

namespace Go.Proofs.YtipgfljojhdhjaaGreatDoor
open Ai
def HB : AH := H0.push (.cells pows true 0)
def trueAt : Option (AV × AH) → Bool
  | some (.bool true, _) => true
  | _ => false
theorem known_kernel : trueAt ((level P (noExt glAt) 100000).call 14 [] HB) = true := by kernel_rfl
theorem HB_get {r : Nat} {o : AObj} (h : HB.get r = some o) : r = 0 ∧ o = .cells pows true 0 := by
  rcases get_push h with ⟨h1, h2⟩ | ⟨_, h2⟩
  · exact ⟨h1, h2⟩
  · rw [get_H0] at h2; cases h2
theorem pows_ints : ∀ v ∈ pows, ∃ k m, v = AV.int k m := by
  intro v hv
  simp only [pows, List.mem_cons, List.not_mem_nil, or_false] at hv
  rcases hv with h | h | h | h | h | h | h | h | h | h | h | h | h | h | h | h | h | h | h | h <;> exact ⟨_, _, h⟩
theorem ext_ok (hmix : P.follows .mixedOrders = true) : ExtOk P gl := by
  intro f args H v H' h e w hS hG hi
  have h2 : (bif Nat.beq f 14 then knownExt args H else none) = some (v, H') := h
  clear h
  cases hf : Nat.beq f 14 with
  | false => rw [hf] at h2; cases h2
  | true =>
    rw [hf] at h2
    have hf : f = 14 := by simpa using hf
    subst hf
    simp only [cond_true, knownExt] at h2
    split at h2
    · rename_i hc
      obtain ⟨rfl, hg, hn⟩ := hc
      cases h2
      have hk := known_kernel
      unfold trueAt at hk
      split at hk
      · rename_i K' hK
        exact closed_ext (g := glAt) hmix hK (fun r o hr => by obtain ⟨rfl, rfl⟩ := HB_get hr; exact ⟨Nat.lt_succ_self _, pows, rfl, pows_ints⟩) (fun k r hk => hk)
          (fun r o hr => by obtain ⟨rfl, rfl⟩ := HB_get hr; exact hg) hn (fun k r hk => by
            unfold glAt at hk
            cases hb : Nat.beq k 1 with
            | true => rw [hb] at hk; cases hk; exact Nat.lt_succ_self _
            | false => rw [hb] at hk; cases hk) hS hG
      · cases hk
    · cases h2
end Go.Proofs.YtipgfljojhdhjaaGreatDoor

namespace Go.Proofs.YtipgfljojhdhjaaGreatDoor
open Ai
theorem f104_p1 {n0 : Int} {t1r : Nat} {t2r : Nat} {H : AH} {c2 : List AV} {ro2 : Bool} {g2 : Nat} (hg1 : H.get t1r = some (.cells c2 ro2 g2)) {x2 : Int} (h2 : (c2 : List AV)[0]? = some (.int .i64 x2)) (h3 : n0 < x2) :
    CallsTo P gl 104 [.int .i64 n0, .ptr t1r 0, .ptr t2r 0] H (.bool true) H := by
  exact callP_calls (orc := [(2, .load c2 ro2 g2 (.int .i64 x2)), (3, .bit true)]) (fs := [_, _, _]) (by kernel_rfl) ⟨(lt_t h3), hg1, h2, trivial⟩
theorem f104_p2 {n0 : Int} {t1r : Nat} {t2r : Nat} {H : AH} {c2 : List AV} {ro2 : Bool} {g2 : Nat} (hg1 : H.get t1r = some (.cells c2 ro2 g2)) {x2 : Int} (h2 : (c2 : List AV)[0]? = some (.int .i64 x2)) (h3 : x2 ≤ n0) {c6 : List AV} {ro6 : Bool} {g6 : Nat} (hg4 : H.get t2r = some (.cells c6 ro6 g6)) {x6 : Int} (h5 : (c6 : List AV)[0]? = some (.int .i64 x6)) (h6 : x6 < n0) :
    CallsTo P gl 104 [.int .i64 n0, .ptr t1r 0, .ptr t2r 0] H (.bool true) H := by
  exact callP_calls (orc := [(2, .load c2 ro2 g2 (.int .i64 x2)), (3, .bit false), (6, .load c6 ro6 g6 (.int .i64 x6)), (7, .bit true)]) (fs := [_, _, _, _, _, _]) (by kernel_rfl) ⟨(gt_t h6), hg4, h5, (lt_f h3), hg1, h2, trivial⟩
theorem f104_p3 {n0 : Int} {t1r : Nat} {t2r : Nat} {H : AH} {c2 : List AV} {ro2 : Bool} {g2 : Nat} (hg1 : H.get t1r = some (.cells c2 ro2 g2)) {x2 : Int} (h2 : (c2 : List AV)[0]? = some (.int .i64 x2)) (h3 : x2 ≤ n0) {c6 : List AV} {ro6 : Bool} {g6 : Nat} (hg4 : H.get t2r = some (.cells c6 ro6 g6)) {x6 : Int} (h5 : (c6 : List AV)[0]? = some (.int .i64 x6)) (h6 : n0 ≤ x6) :
    CallsTo P gl 104 [.int .i64 n0, .ptr t1r 0, .ptr t2r 0] H (.bool false) H := by
  exact callP_calls (orc := [(2, .load c2 ro2 g2 (.int .i64 x2)), (3, .bit false), (6, .load c6 ro6 g6 (.int .i64 x6)), (7, .bit false)]) (fs := [_, _, _, _, _, _]) (by kernel_rfl) ⟨(gt_f h6), hg4, h5, (lt_f h3), hg1, h2, trivial⟩
theorem f122_p1 {s0r : Nat} {s0o : Nat} {s0l : Nat} {s0k : Bool} {s0c : Nat} {f1q0r : Nat} {f1q1r : Nat} {H : AH} {H4 : AH} (hl1 : To P gl none 122 19 (.loop (loopB P 122 0)) [(0, .slice s0r s0o s0l s0k s0c), (1, .func 104 [] [.ptr f1q0r 0, .ptr f1q1r 0]), (7, .int .i64 (s0l : Int)), (8, .int .i64 0)] [] H (.exit 0) [] [] H4) :
    CallsTo P gl 122 [.slice s0r s0o s0l s0k s0c, .func 104 [] [.ptr f1q0r 0, .ptr f1q1r 0]] H (.int .i64 (-1)) H4 := by
  obtain ⟨J4, hl1⟩ := hl1.skolem
  exact callP_calls (orc := [(4, .to false [0, 1, 7, 8] (.exit 0) [] J4 [] H4)]) (fs := [_]) (by kernel_rfl) ⟨hl1, trivial⟩
theorem f122_p2 {s0r : Nat} {s0o : Nat} {s0l : Nat} {s0k : Bool} {s0c : Nat} {f1q0r : Nat} {f1q1r : Nat} {H : AH} {t4L0 : Nat} {H4 : AH} (hl1 : To P gl none 122 19 (.loop (loopB P 122 0)) [(0, .slice s0r s0o s0l s0k s0c), (1, .func 104 [] [.ptr f1q0r 0, .ptr f1q1r 0]), (7, .int .i64 (s0l : Int)), (8, .int .i64 0)] [] H .ret [(4, .int .i64 (t4L0 : Int))] [] H4) :
    CallsTo P gl 122 [.slice s0r s0o s0l s0k s0c, .func 104 [] [.ptr f1q0r 0, .ptr f1q1r 0]] H (.int .i64 (t4L0 : Int)) H4 := by
  obtain ⟨J4, hl1⟩ := hl1.skolem
  exact callP_calls (orc := [(4, .to false [0, 1, 7, 8] .ret [(4, .int .i64 (t4L0 : Int))] J4 [] H4)]) (fs := [_]) (by kernel_rfl) ⟨hl1, trivial⟩
theorem f122_b0_p1 {s0r : Nat} {s0o : Nat} {s0l : Nat} {s0k : Bool} {s0c : Nat} {f1q0r : Nat} {f1q1r : Nat} {t7 : Int} {t8 : Nat} {H : AH} (h1 : (t8 : Int) < t7) {p6 : Nat} (h2 : 0 ≤ (t8 : Int)) (h3 : (t8 : Int) < (s0l : Int)) (h4 : s0o + (t8 : Int).toNat * 1 = p6) {c7 : List AV} {ro7 : Bool} {g7 : Nat} (hg5 : H.get s0r = some (.cells c7 ro7 g7)) {x7 : Int} (h6 : (c7 : List AV)[p6]? = some (.int .i64 x7)) (hc7 : CallsTo P gl 104 [.int .i64 x7, .ptr f1q0r 0, .ptr f1q1r 0] H (.bool true) H) :
    To P gl none 122 19 (loopB P 122 0) [(0, .slice s0r s0o s0l s0k s0c), (1, .func 104 [] [.ptr f1q0r 0, .ptr f1q1r 0]), (7, .int .i64 t7), (8, .int .i64 (t8 : Int))] [] H .ret [(4, .int .i64 (t8 : Int))] [] H := by
  exact execP_to rfl (orc := [(0, .bit true), (6, .at p6), (7, .load c7 ro7 g7 (.int .i64 x7)), (8, .call (.bool true) H)]) (n := 11) (fs := [_, _, _, _, _, _, _]) (fun J => by kernel_rfl) ⟨hc7, hg5, h6, h2, h3, h4, (lt_t h1), trivial⟩
theorem f122_b0_p2 {s0r : Nat} {s0o : Nat} {s0l : Nat} {s0k : Bool} {s0c : Nat} {f1q0r : Nat} {f1q1r : Nat} {t7 : Int} {t8 : Nat} {H : AH} (h1 : (t8 : Int) < t7) {p6 : Nat} (h2 : 0 ≤ (t8 : Int)) (h3 : (t8 : Int) < (s0l : Int)) (h4 : s0o + (t8 : Int).toNat * 1 = p6) {c7 : List AV} {ro7 : Bool} {g7 : Nat} (hg5 : H.get s0r = some (.cells c7 ro7 g7)) {x7 : Int} (h6 : (c7 : List AV)[p6]? = some (.int .i64 x7)) (hc7 : CallsTo P gl 104 [.int .i64 x7, .ptr f1q0r 0, .ptr f1q1r 0] H (.bool false) H) {z9 : Int} (h8 : IntKind.wrap .i64 ((t8 : Int) + 1) = z9) :
    To P gl none 122 19 (loopB P 122 0) [(0, .slice s0r s0o s0l s0k s0c), (1, .func 104 [] [.ptr f1q0r 0, .ptr f1q1r 0]), (7, .int .i64 t7), (8, .int .i64 (t8 : Int))] [] H .normal [(0, .slice s0r s0o s0l s0k s0c), (1, .func 104 [] [.ptr f1q0r 0, .ptr f1q1r 0]), (7, .int .i64 t7), (8, .int .i64 z9)] [] H := by
  exact execP_to rfl (orc := [(0, .bit true), (6, .at p6), (7, .load c7 ro7 g7 (.int .i64 x7)), (8, .call (.bool false) H), (9, .int z9)]) (n := 11) (fs := [_, _, _, _, _, _, _, _]) (fun J => by kernel_rfl) ⟨h8, hc7, hg5, h6, h2, h3, h4, (lt_t h1), trivial⟩
theorem f122_b0_p3 {s0r : Nat} {s0o : Nat} {s0l : Nat} {s0k : Bool} {s0c : Nat} {f1q0r : Nat} {f1q1r : Nat} {t7 : Int} {t8 : Nat} {H : AH} (h1 : t7 ≤ (t8 : Int)) :
    To P gl none 122 19 (loopB P 122 0) [(0, .slice s0r s0o s0l s0k s0c), (1, .func 104 [] [.ptr f1q0r 0, .ptr f1q1r 0]), (7, .int .i64 t7), (8, .int .i64 (t8 : Int))] [] H (.exit 0) [] [] H := by
  exact execP_to rfl (orc := [(0, .bit false)]) (n := 1) (fs := [_]) (fun J => by kernel_rfl) ⟨(lt_f h1), trivial⟩
theorem f122n_p1 {f1q0r : Nat} {f1q1r : Nat} {H : AH} {H4 : AH} (hl1 : To P gl none 122 19 (.loop (loopB P 122 0)) [(0, .nils), (1, .func 104 [] [.ptr f1q0r 0, .ptr f1q1r 0]), (7, .int .i64 0), (8, .int .i64 0)] [] H (.exit 0) [] [] H4) :
    CallsTo P gl 122 [.nils, .func 104 [] [.ptr f1q0r 0, .ptr f1q1r 0]] H (.int .i64 (-1)) H4 := by
  obtain ⟨J4, hl1⟩ := hl1.skolem
  exact callP_calls (orc := [(4, .to false [0, 1, 7, 8] (.exit 0) [] J4 [] H4)]) (fs := [_]) (by kernel_rfl) ⟨hl1, trivial⟩
theorem f122n_p2 {f1q0r : Nat} {f1q1r : Nat} {H : AH} {t4L0 : Int} {H4 : AH} (hl1 : To P gl none 122 19 (.loop (loopB P 122 0)) [(0, .nils), (1, .func 104 [] [.ptr f1q0r 0, .ptr f1q1r 0]), (7, .int .i64 0), (8, .int .i64 0)] [] H .ret [(4, .int .i64 t4L0)] [] H4) :
    CallsTo P gl 122 [.nils, .func 104 [] [.ptr f1q0r 0, .ptr f1q1r 0]] H (.int .i64 t4L0) H4 := by
  obtain ⟨J4, hl1⟩ := hl1.skolem
  exact callP_calls (orc := [(4, .to false [0, 1, 7, 8] .ret [(4, .int .i64 t4L0)] J4 [] H4)]) (fs := [_]) (by kernel_rfl) ⟨hl1, trivial⟩
theorem f122n_b0_p1 {f1q0r : Nat} {f1q1r : Nat} {H : AH} :
    To P gl none 122 19 (loopB P 122 0) [(0, .nils), (1, .func 104 [] [.ptr f1q0r 0, .ptr f1q1r 0]), (7, .int .i64 0), (8, .int .i64 0)] [] H (.exit 0) [] [] H := by
  exact execP_to rfl (orc := []) (n := 1) (fs := []) (fun J => by kernel_rfl) trivial
theorem f103_p1 {s0 : AV} {f1 : AV} {H : AH} {v3 : Int} (hc1 : CallsTo P gl 122 [s0, f1] H (.int .i64 v3) H) (h2 : 0 ≤ v3) :
    CallsTo P gl 103 [s0, f1] H (.bool true) H := by
  exact callP_calls (orc := [(3, .call (.int .i64 v3) H), (4, .bit true)]) (fs := [_, _]) (by kernel_rfl) ⟨(ge_t h2), hc1, trivial⟩
theorem f103_p2 {s0 : AV} {f1 : AV} {H : AH} {v3 : Int} (hc1 : CallsTo P gl 122 [s0, f1] H (.int .i64 v3) H) (h2 : v3 < 0) :
    CallsTo P gl 103 [s0, f1] H (.bool false) H := by
  exact callP_calls (orc := [(3, .call (.int .i64 v3) H), (4, .bit false)]) (fs := [_, _]) (by kernel_rfl) ⟨(ge_f h2), hc1, trivial⟩
theorem f77_p1 {least0 : Int} {most1 : Int} {l2 : AV} {H : AH} {H0 : AH} (hH1 : H.push (.cells [.int .i64 least0] false 196608) = H0) {H1 : AH} (hH2 : H0.push (.cells [.int .i64 most1] false 196608) = H1) (hc3 : CallsTo P gl 103 [l2, .func 104 [] [.ptr H.next 0, .ptr H0.next 0]] H1 (.bool true) H1) :
    CallsTo P gl 77 [.int .i64 least0, .int .i64 most1, l2] H (.bool false) H1 := by
  exact callP_calls (orc := [(0, .mem H0), (1, .mem H1), (5, .call (.bool true) H1)]) (fs := [_, _, _]) (by kernel_rfl) ⟨hc3, hH2, hH1, trivial⟩
theorem f77_p2 {least0 : Int} {most1 : Int} {l2 : AV} {H : AH} {H0 : AH} (hH1 : H.push (.cells [.int .i64 least0] false 196608) = H0) {H1 : AH} (hH2 : H0.push (.cells [.int .i64 most1] false 196608) = H1) (hc3 : CallsTo P gl 103 [l2, .func 104 [] [.ptr H.next 0, .ptr H0.next 0]] H1 (.bool false) H1) :
    CallsTo P gl 77 [.int .i64 least0, .int .i64 most1, l2] H (.bool true) H1 := by
  exact callP_calls (orc := [(0, .mem H0), (1, .mem H1), (5, .call (.bool false) H1)]) (fs := [_, _, _]) (by kernel_rfl) ⟨hc3, hH2, hH1, trivial⟩
theorem f48_p1 {l0 : AV} {H : AH} {H2 : AH} (hc1 : CallsTo P gl 77 [.int .i64 (-10000000), .int .i64 10000000, l0] H (.bool true) H2) :
    CallsTo P gl 48 [l0] H (.bool true) H2 := by
  exact callP_calls (orc := [(2, .call (.bool true) H2)]) (fs := [_]) (by kernel_rfl) ⟨hc1, trivial⟩
theorem f48_p2 {l0 : AV} {H : AH} {H2 : AH} (hc1 : CallsTo P gl 77 [.int .i64 (-10000000), .int .i64 10000000, l0] H (.bool false) H2) :
    CallsTo P gl 48 [l0] H (.bool false) H2 := by
  exact callP_calls (orc := [(2, .call (.bool false) H2)]) (fs := [_]) (by kernel_rfl) ⟨hc1, trivial⟩
end Go.Proofs.YtipgfljojhdhjaaGreatDoor

namespace Go.Proofs.YtipgfljojhdhjaaGreatDoor
open Ai

theorem f104_spec {H : AH} {n a b : Int} {r1 r2 g1 g2 : Nat} {ro1 ro2 : Bool} (h1 : H.get r1 = some (.cells [.int .i64 a] ro1 g1)) (h2 : H.get r2 = some (.cells [.int .i64 b] ro2 g2)) :
    CallsTo P gl 104 [.int .i64 n, .ptr r1 0, .ptr r2 0] H (.bool (!(decide (a ≤ n ∧ n ≤ b)))) H := by
  by_cases c1 : n < a
  · have e : decide (a ≤ n ∧ n ≤ b) = false := decide_eq_false (by omega)
    rw [e]; exact f104_p1 h1 rfl c1
  · by_cases c2 : b < n
    · have e : decide (a ≤ n ∧ n ≤ b) = false := decide_eq_false (by omega)
      rw [e]; exact f104_p2 h1 rfl (by omega) h2 rfl c2
    · have e : decide (a ≤ n ∧ n ≤ b) = true := decide_eq_true (by omega)
      rw [e]; exact f104_p3 h1 rfl (by omega) h2 rfl (by omega)

def inAll (a b : Int) (l : List Int) : Bool := l.all fun x => decide (a ≤ x ∧ x ≤ b)

theorem f122_loop {H : AH} {a b : Int} {r o len c g : Nat} {k ro : Bool} {c0 : List AV} {l : List Int} {r1 r2 g1 g2 : Nat} {ro1 ro2 : Bool} (h1 : H.get r1 = some (.cells [.int .i64 a] ro1 g1)) (h2 : H.get r2 = some (.cells [.int .i64 b] ro2 g2))
    (hlen : l.length = len) (hb : len < 4611686018427387904) (hg : H.get r = some (.cells c0 ro g)) (hc : ∀ i e, (ints l)[i]? = some e → cut c0 (o + i * 1) 1 = some e) :
    ∀ m i, i + m = len → (inAll a b (l.drop i) = true ∧ To P gl none 122 19 (.loop (loopB P 122 0)) [(0, .slice r o len k c), (1, .func 104 [] [.ptr r1 0, .ptr r2 0]), (7, .int .i64 (len : Int)), (8, .int .i64 (i : Int))] [] H (.exit 0) [] [] H) ∨
      (inAll a b (l.drop i) = false ∧ ∃ t : Nat, To P gl none 122 19 (.loop (loopB P 122 0)) [(0, .slice r o len k c), (1, .func 104 [] [.ptr r1 0, .ptr r2 0]), (7, .int .i64 (len : Int)), (8, .int .i64 (i : Int))] [] H .ret [(4, .int .i64 (t : Int))] [] H) := by
  intro m
  induction m with
  | zero =>
    intro i hi
    have hl : l.drop i = [] := List.drop_eq_nil_of_le (by omega)
    exact .inl ⟨by rw [hl]; rfl, To.loop_stop (f122_b0_p3 (by omega)) (by simp)⟩
  | succ m ih =>
    intro i hi
    have hlt : i < l.length := by omega
    have hx : l[i]? = some l[i] := List.getElem?_eq_getElem hlt
    have hd : l.drop i = l[i] :: l.drop (i + 1) := List.drop_eq_getElem_cons hlt
    have hcell := cut_one.1 (hc i _ (ints_get hx))
    cases hv : decide (a ≤ l[i] ∧ l[i] ≤ b) with
    | false =>
      refine .inr ⟨by rw [hd]; simp only [inAll, List.all_cons]; rw [hv]; rfl, i, ?_⟩
      have hcall := f104_spec (n := l[i]) h1 h2
      rw [hv] at hcall
      exact To.loop_stop (f122_b0_p1 (by omega) (by omega) (by omega) rfl hg hcell hcall) (by simp)
    | true =>
      have hcall := f104_spec (n := l[i]) h1 h2
      rw [hv] at hcall
      have step : To P gl none 122 19 (loopB P 122 0) [(0, .slice r o len k c), (1, .func 104 [] [.ptr r1 0, .ptr r2 0]), (7, .int .i64 (len : Int)), (8, .int .i64 (i : Int))] [] H .normal [(0, .slice r o len k c), (1, .func 104 [] [.ptr r1 0, .ptr r2 0]), (7, .int .i64 (len : Int)), (8, .int .i64 ((i + 1 : Nat) : Int))] [] H :=
        f122_b0_p2 (by omega) (by omega) (by omega) rfl hg hcell hcall (w64e (by omega) (by omega) (by omega))
      have e : inAll a b (l.drop i) = inAll a b (l.drop (i + 1)) := by rw [hd]; simp only [inAll, List.all_cons]; rw [hv]; rfl
      rcases ih (i + 1) (by omega) with ⟨q1, q2⟩ | ⟨q1, t, q2⟩
      · exact .inl ⟨by rw [e]; exact q1, To.loop step q2⟩
      · exact .inr ⟨by rw [e]; exact q1, t, To.loop step q2⟩

theorem f122_spec {H : AH} {a b : Int} {v : AV} {l : List Int} {r1 r2 g1 g2 : Nat} {ro1 ro2 : Bool} (h1 : H.get r1 = some (.cells [.int .i64 a] ro1 g1)) (h2 : H.get r2 = some (.cells [.int .i64 b] ro2 g2))
    (hb : l.length < 4611686018427387904) (hs : SlAt H v 1 (ints l)) : ∃ t : Int, CallsTo P gl 122 [v, .func 104 [] [.ptr r1 0, .ptr r2 0]] H (.int .i64 t) H ∧ (0 ≤ t ↔ inAll a b l = false) := by
  obtain ⟨hsz, hs⟩ := hs
  rcases hs with ⟨rfl, hl⟩ | ⟨r, o, kn, c, c0, ro, g, rfl, hg, hc⟩
  · have : l = [] := by simpa [ints] using hl
    subst this
    exact ⟨-1, f122n_p1 (To.loop_stop f122n_b0_p1 (by simp)), by simp [inAll]⟩
  · have hc := fun i e (he : (ints l)[i]? = some e) => elem_cut hsz hc he
    rw [ints_length] at *
    rcases f122_loop (k := kn) (c := c) h1 h2 rfl hb hg hc l.length 0 (by omega) with ⟨q1, q2⟩ | ⟨q1, t, q2⟩
    · refine ⟨-1, f122_p1 q2, ?_⟩
      rw [List.drop_zero] at q1
      rw [q1]; simp
    · refine ⟨t, f122_p2 q2, ?_⟩
      rw [List.drop_zero] at q1
      rw [q1]; simp

theorem within_spec {H : AH} {a b : Int} {v : AV} {l : List Int} (hw : WF H) (hb : l.length < 4611686018427387904) (hs : SlAt H v 1 (ints l)) :
    Reads P gl 77 [.int .i64 a, .int .i64 b, v] H (.bool (inAll a b l)) := by
  have hw1 := hw.push (.cells [.int .i64 a] false 196608)
  have k1 := Keep.push hw (.cells [.int .i64 a] false 196608) (Nat.le_refl _)
  have hw2 := hw1.push (.cells [.int .i64 b] false 196608)
  have k2 := Keep.push hw1 (.cells [.int .i64 b] false 196608) (Nat.le_refl _)
  have g1 := get_push_new hw (.cells [.int .i64 a] false 196608)
  have g2 := get_push_new hw1 (.cells [.int .i64 b] false 196608)
  have g1' := k2.some (Nat.lt_succ_self _) g1
  have k3 := k1.trans (k2.le (Nat.le_succ _))
  obtain ⟨t, h1, h2⟩ := f122_spec g1' g2 hb (hs.keep hw k3)
  cases hi : inAll a b l with
  | true =>
    have : t < 0 := by
      by_cases h : 0 ≤ t
      · rw [h2.1 h] at hi; cases hi
      · omega
    exact ⟨_, f77_p2 rfl rfl (f103_p2 h1 this), hw2, k3⟩
  | false => exact ⟨_, f77_p1 rfl rfl (f103_p1 h1 (h2.2 hi)), hw2, k3⟩

theorem isMoney_spec {H : AH} {v : AV} {l : List Int} (hw : WF H) (hb : l.length < 4611686018427387904) (hs : SlAt H v 1 (ints l)) :
    Reads P gl 48 [v] H (.bool (inAll (-10000000) 10000000 l)) := by
  obtain ⟨H', h1, h2, h3⟩ := within_spec (a := -10000000) (b := 10000000) hw hb hs
  cases hi : inAll (-10000000) 10000000 l with
  | true => rw [hi] at h1; exact ⟨H', f48_p1 h1, h2, h3⟩
  | false => rw [hi] at h1; exact ⟨H', f48_p2 h1, h2, h3⟩

/-- One integer in a slice of its own. -/
theorem sl_one {H : AH} {x : Int} (hw : WF H) : SlAt (H.push (.cells [.int .i64 x] false 0)) (.slice H.next 0 1 true 1) 1 (ints [x]) :=
  SlAt.of (es := ints [x]) (by simp [ints]) (get_push_new hw _) (cut_all rfl)
theorem within_one {H : AH} {a b x : Int} (hw : WF H) : Reads P gl 77 [.int .i64 a, .int .i64 b, .slice H.next 0 1 true 1] (H.push (.cells [.int .i64 x] false 0)) (.bool (decide (a ≤ x ∧ x ≤ b))) := by
  have h := within_spec (a := a) (b := b) (l := [x]) (hw.push (.cells [.int .i64 x] false 0)) (by simp) (sl_one hw)
  simpa [inAll] using h
theorem isMoney_one {H : AH} {x : Int} (hw : WF H) : Reads P gl 48 [.slice H.next 0 1 true 1] (H.push (.cells [.int .i64 x] false 0)) (.bool (decide (-10000000 ≤ x ∧ x ≤ 10000000))) := by
  have h := isMoney_spec (l := [x]) (hw.push (.cells [.int .i64 x] false 0)) (by simp) (sl_one hw)
  simpa [inAll] using h

/-- What is known of a type. -/
noncomputable def infoOf (t : TypeId) : TypeInfo := (P.info? t).getD default
theorem sty22 : STy P 22 3 (infoOf 3) := ⟨by kernel_rfl, by kernel_rfl, Nat.le_of_ble_eq_true (by kernel_rfl), Nat.le_of_ble_eq_true (by kernel_rfl), (aZero P 3).getD undefA, by kernel_rfl, by kernel_rfl⟩
theorem sz3 : (infoOf 3).size = 1 := by kernel_rfl
theorem by3 : (infoOf 3).bytes = 8 := by kernel_rfl
theorem sty23 : STy P 23 30 (infoOf 30) := ⟨by kernel_rfl, by kernel_rfl, Nat.le_of_ble_eq_true (by kernel_rfl), Nat.le_of_ble_eq_true (by kernel_rfl), (aZero P 30).getD undefA, by kernel_rfl, by kernel_rfl⟩
theorem sz30 : (infoOf 30).size = 4 := by kernel_rfl
theorem by30 : (infoOf 30).bytes = 32 := by kernel_rfl

end Go.Proofs.YtipgfljojhdhjaaGreatDoor

namespace Go.Proofs.YtipgfljojhdhjaaGreatDoor
open Ai
theorem f50_p1 {c0Number : Int} {c0Day : Int} {c0Parish : Int} {c0Amount : Int} {H : AH} {H0 : AH} (hH1 : H.push (.cells [.int .i64 c0Number, .int .i64 c0Day, .int .i64 c0Parish, .int .i64 c0Amount] false 1966080) = H0) (w0 : WF H) {H4 : AH} (hH3 : H0.push (.cells [.int .i64 c0Number] false 0) = H4) {H5 : AH} (hc4 : CallsTo P gl 77 [.int .i64 0, .int .i64 999999, .slice H0.next 0 1 true 1] H4 (.bool true) H5) (hk5 : Keep H4.next H4 H5) (hw6 : WF H5) {H9 : AH} (hH7 : H5.push (.cells [.int .i64 c0Day] false 0) = H9) {H10 : AH} (hc8 : CallsTo P gl 77 [.int .i64 0, .int .i64 36524, .slice H5.next 0 1 true 1] H9 (.bool true) H10) (hk9 : Keep H9.next H9 H10) (hw10 : WF H10) {H15 : AH} (hH11 : H10.push (.cells [.int .i64 c0Parish] false 0) = H15) {H16 : AH} (hc12 : CallsTo P gl 77 [.int .i64 0, .int .i64 29, .slice H10.next 0 1 true 1] H15 (.bool true) H16) (hk13 : Keep H15.next H15 H16) (hw14 : WF H16) {H21 : AH} (hH15 : H16.push (.cells [.int .i64 c0Amount] false 0) = H21) {H22 : AH} (hc16 : CallsTo P gl 48 [.slice H16.next 0 1 true 1] H21 (.bool true) H22) (hk17 : Keep H21.next H21 H22) (hw18 : WF H22) (h19 : c0Amount ≠ 0) :
    CallsTo P gl 50 [.agg [.int .i64 c0Number, .int .i64 c0Day, .int .i64 c0Parish, .int .i64 c0Amount]] H (.bool true) H22 ∧ WF H22 ∧ Keep H.next H H22 := by
  have kp0 : KeepX H.next [] H H := KeepX.refl
  have q0 : WF H0 := by rw [← hH1]; exact WF.push w0 _
  have q1 : H.next ≤ H0.next := by rw [← hH1]; exact Nat.le_succ _
  have kp1 : KeepX H.next [] H H0 := by rw [← hH1]; exact KeepX.push (KeepX.refl (n := H.next) (xs := []) (H := H)) w0 _
  have q2 : H0.get H.next = some (.cells [.int .i64 c0Number, .int .i64 c0Day, .int .i64 c0Parish, .int .i64 c0Amount] false 1966080) := by rw [← hH1]; exact get_push_new w0 _
  have q3 : H.next < H0.next := by rw [← hH1]; exact Nat.lt_succ_self _
  have q4 : WF H4 := by rw [← hH3]; exact WF.push q0 _
  have q5 : H0.next ≤ H4.next := by rw [← hH3]; exact Nat.le_succ _
  have kp2 : KeepX H.next [] H H4 := by rw [← hH3]; exact KeepX.push kp1 q0 _
  have q6 : H4.get H0.next = some (.cells [.int .i64 c0Number] false 0) := by rw [← hH3]; exact get_push_new q0 _
  have q7 : H0.next < H4.next := by rw [← hH3]; exact Nat.lt_succ_self _
  have kp3 : KeepX H.next [] H H5 := KeepX.call kp2 hk5
  have q8 : H4.get H.next = some (.cells [.int .i64 c0Number, .int .i64 c0Day, .int .i64 c0Parish, .int .i64 c0Amount] false 1966080) := by rw [← hH3]; exact (get_push_lt q0 _ q3).trans q2
  have q9 : H.next < H4.next := Nat.lt_of_lt_of_le q3 q5
  have q10 : H5.get H.next = some (.cells [.int .i64 c0Number, .int .i64 c0Day, .int .i64 c0Parish, .int .i64 c0Amount] false 1966080) := hk5.some q9 q8
  have q11 : H.next < H5.next := Nat.lt_of_lt_of_le q9 hk5.next
  have q12 : WF H9 := by rw [← hH7]; exact WF.push hw6 _
  have q13 : H5.next ≤ H9.next := by rw [← hH7]; exact Nat.le_succ _
  have kp4 : KeepX H.next [] H H9 := by rw [← hH7]; exact KeepX.push kp3 hw6 _
  have q14 : H9.get H5.next = some (.cells [.int .i64 c0Day] false 0) := by rw [← hH7]; exact get_push_new hw6 _
  have q15 : H5.next < H9.next := by rw [← hH7]; exact Nat.lt_succ_self _
  have kp5 : KeepX H.next [] H H10 := KeepX.call kp4 hk9
  have q16 : H9.get H.next = some (.cells [.int .i64 c0Number, .int .i64 c0Day, .int .i64 c0Parish, .int .i64 c0Amount] false 1966080) := by rw [← hH7]; exact (get_push_lt hw6 _ q11).trans q10
  have q17 : H.next < H9.next := Nat.lt_of_lt_of_le q11 q13
  have q18 : H10.get H.next = some (.cells [.int .i64 c0Number, .int .i64 c0Day, .int .i64 c0Parish, .int .i64 c0Amount] false 1966080) := hk9.some q17 q16
  have q19 : H.next < H10.next := Nat.lt_of_lt_of_le q17 hk9.next
  have q20 : WF H15 := by rw [← hH11]; exact WF.push hw10 _
  have q21 : H10.next ≤ H15.next := by rw [← hH11]; exact Nat.le_succ _
  have kp6 : KeepX H.next [] H H15 := by rw [← hH11]; exact KeepX.push kp5 hw10 _
  have q22 : H15.get H10.next = some (.cells [.int .i64 c0Parish] false 0) := by rw [← hH11]; exact get_push_new hw10 _
  have q23 : H10.next < H15.next := by rw [← hH11]; exact Nat.lt_succ_self _
  have kp7 : KeepX H.next [] H H16 := KeepX.call kp6 hk13
  have q24 : H15.get H.next = some (.cells [.int .i64 c0Number, .int .i64 c0Day, .int .i64 c0Parish, .int .i64 c0Amount] false 1966080) := by rw [← hH11]; exact (get_push_lt hw10 _ q19).trans q18
  have q25 : H.next < H15.next := Nat.lt_of_lt_of_le q19 q21
  have q26 : H16.get H.next = some (.cells [.int .i64 c0Number, .int .i64 c0Day, .int .i64 c0Parish, .int .i64 c0Amount] false 1966080) := hk13.some q25 q24
  have q27 : H.next < H16.next := Nat.lt_of_lt_of_le q25 hk13.next
  have q28 : WF H21 := by rw [← hH15]; exact WF.push hw14 _
  have q29 : H16.next ≤ H21.next := by rw [← hH15]; exact Nat.le_succ _
  have kp8 : KeepX H.next [] H H21 := by rw [← hH15]; exact KeepX.push kp7 hw14 _
  have q30 : H21.get H16.next = some (.cells [.int .i64 c0Amount] false 0) := by rw [← hH15]; exact get_push_new hw14 _
  have q31 : H16.next < H21.next := by rw [← hH15]; exact Nat.lt_succ_self _
  have kp9 : KeepX H.next [] H H22 := KeepX.call kp8 hk17
  have q32 : H21.get H.next = some (.cells [.int .i64 c0Number, .int .i64 c0Day, .int .i64 c0Parish, .int .i64 c0Amount] false 1966080) := by rw [← hH15]; exact (get_push_lt hw14 _ q27).trans q26
  have q33 : H.next < H21.next := Nat.lt_of_lt_of_le q27 q29
  have q34 : H22.get H.next = some (.cells [.int .i64 c0Number, .int .i64 c0Day, .int .i64 c0Parish, .int .i64 c0Amount] false 1966080) := hk17.some q33 q32
  have q35 : H.next < H22.next := Nat.lt_of_lt_of_le q33 hk17.next
  exact ⟨callP_calls (orc := [(0, .mem H0), (3, .load [.int .i64 c0Number, .int .i64 c0Day, .int .i64 c0Parish, .int .i64 c0Amount] false 1966080 (.int .i64 c0Number)), (4, .mem H4), (5, .call (.bool true) H5), (8, .load [.int .i64 c0Number, .int .i64 c0Day, .int .i64 c0Parish, .int .i64 c0Amount] false 1966080 (.int .i64 c0Day)), (9, .mem H9), (10, .call (.bool true) H10), (14, .load [.int .i64 c0Number, .int .i64 c0Day, .int .i64 c0Parish, .int .i64 c0Amount] false 1966080 (.int .i64 c0Parish)), (15, .mem H15), (16, .call (.bool true) H16), (20, .load [.int .i64 c0Number, .int .i64 c0Day, .int .i64 c0Parish, .int .i64 c0Amount] false 1966080 (.int .i64 c0Amount)), (21, .mem H21), (22, .call (.bool true) H22), (26, .load [.int .i64 c0Number, .int .i64 c0Day, .int .i64 c0Parish, .int .i64 c0Amount] false 1966080 (.int .i64 c0Amount)), (27, .bit true)]) (fs := [_, _, _, _, _, _, _, _, _, _, _, _, _, _, _, _, _, _, _, _]) (by kernel_rfl) ⟨(ine_t h19), q34, (rfl : ([.int .i64 c0Number, .int .i64 c0Day, .int .i64 c0Parish, .int .i64 c0Amount] : List AV)[3]? = some (.int .i64 c0Amount)), hc16, hH15, q26, (rfl : ([.int .i64 c0Number, .int .i64 c0Day, .int .i64 c0Parish, .int .i64 c0Amount] : List AV)[3]? = some (.int .i64 c0Amount)), hc12, hH11, q18, (rfl : ([.int .i64 c0Number, .int .i64 c0Day, .int .i64 c0Parish, .int .i64 c0Amount] : List AV)[2]? = some (.int .i64 c0Parish)), hc8, hH7, q10, (rfl : ([.int .i64 c0Number, .int .i64 c0Day, .int .i64 c0Parish, .int .i64 c0Amount] : List AV)[1]? = some (.int .i64 c0Day)), hc4, hH3, q2, (rfl : ([.int .i64 c0Number, .int .i64 c0Day, .int .i64 c0Parish, .int .i64 c0Amount] : List AV)[0]? = some (.int .i64 c0Number)), hH1, trivial⟩, hw18, kp9.keep⟩
theorem f50_p2 {c0Number : Int} {c0Day : Int} {c0Parish : Int} {c0Amount : Int} {H : AH} {H0 : AH} (hH1 : H.push (.cells [.int .i64 c0Number, .int .i64 c0Day, .int .i64 c0Parish, .int .i64 c0Amount] false 1966080) = H0) (w0 : WF H) {H4 : AH} (hH3 : H0.push (.cells [.int .i64 c0Number] false 0) = H4) {H5 : AH} (hc4 : CallsTo P gl 77 [.int .i64 0, .int .i64 999999, .slice H0.next 0 1 true 1] H4 (.bool true) H5) (hk5 : Keep H4.next H4 H5) (hw6 : WF H5) {H9 : AH} (hH7 : H5.push (.cells [.int .i64 c0Day] false 0) = H9) {H10 : AH} (hc8 : CallsTo P gl 77 [.int .i64 0, .int .i64 36524, .slice H5.next 0 1 true 1] H9 (.bool true) H10) (hk9 : Keep H9.next H9 H10) (hw10 : WF H10) {H15 : AH} (hH11 : H10.push (.cells [.int .i64 c0Parish] false 0) = H15) {H16 : AH} (hc12 : CallsTo P gl 77 [.int .i64 0, .int .i64 29, .slice H10.next 0 1 true 1] H15 (.bool true) H16) (hk13 : Keep H15.next H15 H16) (hw14 : WF H16) {H21 : AH} (hH15 : H16.push (.cells [.int .i64 c0Amount] false 0) = H21) {H22 : AH} (hc16 : CallsTo P gl 48 [.slice H16.next 0 1 true 1] H21 (.bool true) H22) (hk17 : Keep H21.next H21 H22) (hw18 : WF H22) (h19 : c0Amount = 0) :
    CallsTo P gl 50 [.agg [.int .i64 c0Number, .int .i64 c0Day, .int .i64 c0Parish, .int .i64 c0Amount]] H (.bool false) H22 ∧ WF H22 ∧ Keep H.next H H22 := by
  have kp0 : KeepX H.next [] H H := KeepX.refl
  have q0 : WF H0 := by rw [← hH1]; exact WF.push w0 _
  have q1 : H.next ≤ H0.next := by rw [← hH1]; exact Nat.le_succ _
  have kp1 : KeepX H.next [] H H0 := by rw [← hH1]; exact KeepX.push (KeepX.refl (n := H.next) (xs := []) (H := H)) w0 _
  have q2 : H0.get H.next = some (.cells [.int .i64 c0Number, .int .i64 c0Day, .int .i64 c0Parish, .int .i64 c0Amount] false 1966080) := by rw [← hH1]; exact get_push_new w0 _
  have q3 : H.next < H0.next := by rw [← hH1]; exact Nat.lt_succ_self _
  have q4 : WF H4 := by rw [← hH3]; exact WF.push q0 _
  have q5 : H0.next ≤ H4.next := by rw [← hH3]; exact Nat.le_succ _
  have kp2 : KeepX H.next [] H H4 := by rw [← hH3]; exact KeepX.push kp1 q0 _
  have q6 : H4.get H0.next = some (.cells [.int .i64 c0Number] false 0) := by rw [← hH3]; exact get_push_new q0 _
  have q7 : H0.next < H4.next := by rw [← hH3]; exact Nat.lt_succ_self _
  have kp3 : KeepX H.next [] H H5 := KeepX.call kp2 hk5
  have q8 : H4.get H.next = some (.cells [.int .i64 c0Number, .int .i64 c0Day, .int .i64 c0Parish, .int .i64 c0Amount] false 1966080) := by rw [← hH3]; exact (get_push_lt q0 _ q3).trans q2
  have q9 : H.next < H4.next := Nat.lt_of_lt_of_le q3 q5
  have q10 : H5.get H.next = some (.cells [.int .i64 c0Number, .int .i64 c0Day, .int .i64 c0Parish, .int .i64 c0Amount] false 1966080) := hk5.some q9 q8
  have q11 : H.next < H5.next := Nat.lt_of_lt_of_le q9 hk5.next
  have q12 : WF H9 := by rw [← hH7]; exact WF.push hw6 _
  have q13 : H5.next ≤ H9.next := by rw [← hH7]; exact Nat.le_succ _
  have kp4 : KeepX H.next [] H H9 := by rw [← hH7]; exact KeepX.push kp3 hw6 _
  have q14 : H9.get H5.next = some (.cells [.int .i64 c0Day] false 0) := by rw [← hH7]; exact get_push_new hw6 _
  have q15 : H5.next < H9.next := by rw [← hH7]; exact Nat.lt_succ_self _
  have kp5 : KeepX H.next [] H H10 := KeepX.call kp4 hk9
  have q16 : H9.get H.next = some (.cells [.int .i64 c0Number, .int .i64 c0Day, .int .i64 c0Parish, .int .i64 c0Amount] false 1966080) := by rw [← hH7]; exact (get_push_lt hw6 _ q11).trans q10
  have q17 : H.next < H9.next := Nat.lt_of_lt_of_le q11 q13
  have q18 : H10.get H.next = some (.cells [.int .i64 c0Number, .int .i64 c0Day, .int .i64 c0Parish, .int .i64 c0Amount] false 1966080) := hk9.some q17 q16
  have q19 : H.next < H10.next := Nat.lt_of_lt_of_le q17 hk9.next
  have q20 : WF H15 := by rw [← hH11]; exact WF.push hw10 _
  have q21 : H10.next ≤ H15.next := by rw [← hH11]; exact Nat.le_succ _
  have kp6 : KeepX H.next [] H H15 := by rw [← hH11]; exact KeepX.push kp5 hw10 _
  have q22 : H15.get H10.next = some (.cells [.int .i64 c0Parish] false 0) := by rw [← hH11]; exact get_push_new hw10 _
  have q23 : H10.next < H15.next := by rw [← hH11]; exact Nat.lt_succ_self _
  have kp7 : KeepX H.next [] H H16 := KeepX.call kp6 hk13
  have q24 : H15.get H.next = some (.cells [.int .i64 c0Number, .int .i64 c0Day, .int .i64 c0Parish, .int .i64 c0Amount] false 1966080) := by rw [← hH11]; exact (get_push_lt hw10 _ q19).trans q18
  have q25 : H.next < H15.next := Nat.lt_of_lt_of_le q19 q21
  have q26 : H16.get H.next = some (.cells [.int .i64 c0Number, .int .i64 c0Day, .int .i64 c0Parish, .int .i64 c0Amount] false 1966080) := hk13.some q25 q24
  have q27 : H.next < H16.next := Nat.lt_of_lt_of_le q25 hk13.next
  have q28 : WF H21 := by rw [← hH15]; exact WF.push hw14 _
  have q29 : H16.next ≤ H21.next := by rw [← hH15]; exact Nat.le_succ _
  have kp8 : KeepX H.next [] H H21 := by rw [← hH15]; exact KeepX.push kp7 hw14 _
  have q30 : H21.get H16.next = some (.cells [.int .i64 c0Amount] false 0) := by rw [← hH15]; exact get_push_new hw14 _
  have q31 : H16.next < H21.next := by rw [← hH15]; exact Nat.lt_succ_self _
  have kp9 : KeepX H.next [] H H22 := KeepX.call kp8 hk17
  have q32 : H21.get H.next = some (.cells [.int .i64 c0Number, .int .i64 c0Day, .int .i64 c0Parish, .int .i64 c0Amount] false 1966080) := by rw [← hH15]; exact (get_push_lt hw14 _ q27).trans q26
  have q33 : H.next < H21.next := Nat.lt_of_lt_of_le q27 q29
  have q34 : H22.get H.next = some (.cells [.int .i64 c0Number, .int .i64 c0Day, .int .i64 c0Parish, .int .i64 c0Amount] false 1966080) := hk17.some q33 q32
  have q35 : H.next < H22.next := Nat.lt_of_lt_of_le q33 hk17.next
  exact ⟨callP_calls (orc := [(0, .mem H0), (3, .load [.int .i64 c0Number, .int .i64 c0Day, .int .i64 c0Parish, .int .i64 c0Amount] false 1966080 (.int .i64 c0Number)), (4, .mem H4), (5, .call (.bool true) H5), (8, .load [.int .i64 c0Number, .int .i64 c0Day, .int .i64 c0Parish, .int .i64 c0Amount] false 1966080 (.int .i64 c0Day)), (9, .mem H9), (10, .call (.bool true) H10), (14, .load [.int .i64 c0Number, .int .i64 c0Day, .int .i64 c0Parish, .int .i64 c0Amount] false 1966080 (.int .i64 c0Parish)), (15, .mem H15), (16, .call (.bool true) H16), (20, .load [.int .i64 c0Number, .int .i64 c0Day, .int .i64 c0Parish, .int .i64 c0Amount] false 1966080 (.int .i64 c0Amount)), (21, .mem H21), (22, .call (.bool true) H22), (26, .load [.int .i64 c0Number, .int .i64 c0Day, .int .i64 c0Parish, .int .i64 c0Amount] false 1966080 (.int .i64 c0Amount)), (27, .bit false)]) (fs := [_, _, _, _, _, _, _, _, _, _, _, _, _, _, _, _, _, _, _, _]) (by kernel_rfl) ⟨(ine_f h19), q34, (rfl : ([.int .i64 c0Number, .int .i64 c0Day, .int .i64 c0Parish, .int .i64 c0Amount] : List AV)[3]? = some (.int .i64 c0Amount)), hc16, hH15, q26, (rfl : ([.int .i64 c0Number, .int .i64 c0Day, .int .i64 c0Parish, .int .i64 c0Amount] : List AV)[3]? = some (.int .i64 c0Amount)), hc12, hH11, q18, (rfl : ([.int .i64 c0Number, .int .i64 c0Day, .int .i64 c0Parish, .int .i64 c0Amount] : List AV)[2]? = some (.int .i64 c0Parish)), hc8, hH7, q10, (rfl : ([.int .i64 c0Number, .int .i64 c0Day, .int .i64 c0Parish, .int .i64 c0Amount] : List AV)[1]? = some (.int .i64 c0Day)), hc4, hH3, q2, (rfl : ([.int .i64 c0Number, .int .i64 c0Day, .int .i64 c0Parish, .int .i64 c0Amount] : List AV)[0]? = some (.int .i64 c0Number)), hH1, trivial⟩, hw18, kp9.keep⟩
theorem f50_p3 {c0Number : Int} {c0Day : Int} {c0Parish : Int} {c0Amount : Int} {H : AH} {H0 : AH} (hH1 : H.push (.cells [.int .i64 c0Number, .int .i64 c0Day, .int .i64 c0Parish, .int .i64 c0Amount] false 1966080) = H0) (w0 : WF H) {H4 : AH} (hH3 : H0.push (.cells [.int .i64 c0Number] false 0) = H4) {H5 : AH} (hc4 : CallsTo P gl 77 [.int .i64 0, .int .i64 999999, .slice H0.next 0 1 true 1] H4 (.bool true) H5) (hk5 : Keep H4.next H4 H5) (hw6 : WF H5) {H9 : AH} (hH7 : H5.push (.cells [.int .i64 c0Day] false 0) = H9) {H10 : AH} (hc8 : CallsTo P gl 77 [.int .i64 0, .int .i64 36524, .slice H5.next 0 1 true 1] H9 (.bool true) H10) (hk9 : Keep H9.next H9 H10) (hw10 : WF H10) {H15 : AH} (hH11 : H10.push (.cells [.int .i64 c0Parish] false 0) = H15) {H16 : AH} (hc12 : CallsTo P gl 77 [.int .i64 0, .int .i64 29, .slice H10.next 0 1 true 1] H15 (.bool true) H16) (hk13 : Keep H15.next H15 H16) (hw14 : WF H16) {H21 : AH} (hH15 : H16.push (.cells [.int .i64 c0Amount] false 0) = H21) {H22 : AH} (hc16 : CallsTo P gl 48 [.slice H16.next 0 1 true 1] H21 (.bool false) H22) (hk17 : Keep H21.next H21 H22) (hw18 : WF H22) :
    CallsTo P gl 50 [.agg [.int .i64 c0Number, .int .i64 c0Day, .int .i64 c0Parish, .int .i64 c0Amount]] H (.bool false) H22 ∧ WF H22 ∧ Keep H.next H H22 := by
  have kp0 : KeepX H.next [] H H := KeepX.refl
  have q0 : WF H0 := by rw [← hH1]; exact WF.push w0 _
  have q1 : H.next ≤ H0.next := by rw [← hH1]; exact Nat.le_succ _
  have kp1 : KeepX H.next [] H H0 := by rw [← hH1]; exact KeepX.push (KeepX.refl (n := H.next) (xs := []) (H := H)) w0 _
  have q2 : H0.get H.next = some (.cells [.int .i64 c0Number, .int .i64 c0Day, .int .i64 c0Parish, .int .i64 c0Amount] false 1966080) := by rw [← hH1]; exact get_push_new w0 _
  have q3 : H.next < H0.next := by rw [← hH1]; exact Nat.lt_succ_self _
  have q4 : WF H4 := by rw [← hH3]; exact WF.push q0 _
  have q5 : H0.next ≤ H4.next := by rw [← hH3]; exact Nat.le_succ _
  have kp2 : KeepX H.next [] H H4 := by rw [← hH3]; exact KeepX.push kp1 q0 _
  have q6 : H4.get H0.next = some (.cells [.int .i64 c0Number] false 0) := by rw [← hH3]; exact get_push_new q0 _
  have q7 : H0.next < H4.next := by rw [← hH3]; exact Nat.lt_succ_self _
  have kp3 : KeepX H.next [] H H5 := KeepX.call kp2 hk5
  have q8 : H4.get H.next = some (.cells [.int .i64 c0Number, .int .i64 c0Day, .int .i64 c0Parish, .int .i64 c0Amount] false 1966080) := by rw [← hH3]; exact (get_push_lt q0 _ q3).trans q2
  have q9 : H.next < H4.next := Nat.lt_of_lt_of_le q3 q5
  have q10 : H5.get H.next = some (.cells [.int .i64 c0Number, .int .i64 c0Day, .int .i64 c0Parish, .int .i64 c0Amount] false 1966080) := hk5.some q9 q8
  have q11 : H.next < H5.next := Nat.lt_of_lt_of_le q9 hk5.next
  have q12 : WF H9 := by rw [← hH7]; exact WF.push hw6 _
  have q13 : H5.next ≤ H9.next := by rw [← hH7]; exact Nat.le_succ _
  have kp4 : KeepX H.next [] H H9 := by rw [← hH7]; exact KeepX.push kp3 hw6 _
  have q14 : H9.get H5.next = some (.cells [.int .i64 c0Day] false 0) := by rw [← hH7]; exact get_push_new hw6 _
  have q15 : H5.next < H9.next := by rw [← hH7]; exact Nat.lt_succ_self _
  have kp5 : KeepX H.next [] H H10 := KeepX.call kp4 hk9
  have q16 : H9.get H.next = some (.cells [.int .i64 c0Number, .int .i64 c0Day, .int .i64 c0Parish, .int .i64 c0Amount] false 1966080) := by rw [← hH7]; exact (get_push_lt hw6 _ q11).trans q10
  have q17 : H.next < H9.next := Nat.lt_of_lt_of_le q11 q13
  have q18 : H10.get H.next = some (.cells [.int .i64 c0Number, .int .i64 c0Day, .int .i64 c0Parish, .int .i64 c0Amount] false 1966080) := hk9.some q17 q16
  have q19 : H.next < H10.next := Nat.lt_of_lt_of_le q17 hk9.next
  have q20 : WF H15 := by rw [← hH11]; exact WF.push hw10 _
  have q21 : H10.next ≤ H15.next := by rw [← hH11]; exact Nat.le_succ _
  have kp6 : KeepX H.next [] H H15 := by rw [← hH11]; exact KeepX.push kp5 hw10 _
  have q22 : H15.get H10.next = some (.cells [.int .i64 c0Parish] false 0) := by rw [← hH11]; exact get_push_new hw10 _
  have q23 : H10.next < H15.next := by rw [← hH11]; exact Nat.lt_succ_self _
  have kp7 : KeepX H.next [] H H16 := KeepX.call kp6 hk13
  have q24 : H15.get H.next = some (.cells [.int .i64 c0Number, .int .i64 c0Day, .int .i64 c0Parish, .int .i64 c0Amount] false 1966080) := by rw [← hH11]; exact (get_push_lt hw10 _ q19).trans q18
  have q25 : H.next < H15.next := Nat.lt_of_lt_of_le q19 q21
  have q26 : H16.get H.next = some (.cells [.int .i64 c0Number, .int .i64 c0Day, .int .i64 c0Parish, .int .i64 c0Amount] false 1966080) := hk13.some q25 q24
  have q27 : H.next < H16.next := Nat.lt_of_lt_of_le q25 hk13.next
  have q28 : WF H21 := by rw [← hH15]; exact WF.push hw14 _
  have q29 : H16.next ≤ H21.next := by rw [← hH15]; exact Nat.le_succ _
  have kp8 : KeepX H.next [] H H21 := by rw [← hH15]; exact KeepX.push kp7 hw14 _
  have q30 : H21.get H16.next = some (.cells [.int .i64 c0Amount] false 0) := by rw [← hH15]; exact get_push_new hw14 _
  have q31 : H16.next < H21.next := by rw [← hH15]; exact Nat.lt_succ_self _
  have kp9 : KeepX H.next [] H H22 := KeepX.call kp8 hk17
  exact ⟨callP_calls (orc := [(0, .mem H0), (3, .load [.int .i64 c0Number, .int .i64 c0Day, .int .i64 c0Parish, .int .i64 c0Amount] false 1966080 (.int .i64 c0Number)), (4, .mem H4), (5, .call (.bool true) H5), (8, .load [.int .i64 c0Number, .int .i64 c0Day, .int .i64 c0Parish, .int .i64 c0Amount] false 1966080 (.int .i64 c0Day)), (9, .mem H9), (10, .call (.bool true) H10), (14, .load [.int .i64 c0Number, .int .i64 c0Day, .int .i64 c0Parish, .int .i64 c0Amount] false 1966080 (.int .i64 c0Parish)), (15, .mem H15), (16, .call (.bool true) H16), (20, .load [.int .i64 c0Number, .int .i64 c0Day, .int .i64 c0Parish, .int .i64 c0Amount] false 1966080 (.int .i64 c0Amount)), (21, .mem H21), (22, .call (.bool false) H22)]) (fs := [_, _, _, _, _, _, _, _, _, _, _, _, _, _, _, _, _]) (by kernel_rfl) ⟨hc16, hH15, q26, (rfl : ([.int .i64 c0Number, .int .i64 c0Day, .int .i64 c0Parish, .int .i64 c0Amount] : List AV)[3]? = some (.int .i64 c0Amount)), hc12, hH11, q18, (rfl : ([.int .i64 c0Number, .int .i64 c0Day, .int .i64 c0Parish, .int .i64 c0Amount] : List AV)[2]? = some (.int .i64 c0Parish)), hc8, hH7, q10, (rfl : ([.int .i64 c0Number, .int .i64 c0Day, .int .i64 c0Parish, .int .i64 c0Amount] : List AV)[1]? = some (.int .i64 c0Day)), hc4, hH3, q2, (rfl : ([.int .i64 c0Number, .int .i64 c0Day, .int .i64 c0Parish, .int .i64 c0Amount] : List AV)[0]? = some (.int .i64 c0Number)), hH1, trivial⟩, hw18, kp9.keep⟩
theorem f50_p4 {c0Number : Int} {c0Day : Int} {c0Parish : Int} {c0Amount : Int} {H : AH} {H0 : AH} (hH1 : H.push (.cells [.int .i64 c0Number, .int .i64 c0Day, .int .i64 c0Parish, .int .i64 c0Amount] false 1966080) = H0) (w0 : WF H) {H4 : AH} (hH3 : H0.push (.cells [.int .i64 c0Number] false 0) = H4) {H5 : AH} (hc4 : CallsTo P gl 77 [.int .i64 0, .int .i64 999999, .slice H0.next 0 1 true 1] H4 (.bool true) H5) (hk5 : Keep H4.next H4 H5) (hw6 : WF H5) {H9 : AH} (hH7 : H5.push (.cells [.int .i64 c0Day] false 0) = H9) {H10 : AH} (hc8 : CallsTo P gl 77 [.int .i64 0, .int .i64 36524, .slice H5.next 0 1 true 1] H9 (.bool true) H10) (hk9 : Keep H9.next H9 H10) (hw10 : WF H10) {H15 : AH} (hH11 : H10.push (.cells [.int .i64 c0Parish] false 0) = H15) {H16 : AH} (hc12 : CallsTo P gl 77 [.int .i64 0, .int .i64 29, .slice H10.next 0 1 true 1] H15 (.bool false) H16) (hk13 : Keep H15.next H15 H16) (hw14 : WF H16) :
    CallsTo P gl 50 [.agg [.int .i64 c0Number, .int .i64 c0Day, .int .i64 c0Parish, .int .i64 c0Amount]] H (.bool false) H16 ∧ WF H16 ∧ Keep H.next H H16 := by
  have kp0 : KeepX H.next [] H H := KeepX.refl
  have q0 : WF H0 := by rw [← hH1]; exact WF.push w0 _
  have q1 : H.next ≤ H0.next := by rw [← hH1]; exact Nat.le_succ _
  have kp1 : KeepX H.next [] H H0 := by rw [← hH1]; exact KeepX.push (KeepX.refl (n := H.next) (xs := []) (H := H)) w0 _
  have q2 : H0.get H.next = some (.cells [.int .i64 c0Number, .int .i64 c0Day, .int .i64 c0Parish, .int .i64 c0Amount] false 1966080) := by rw [← hH1]; exact get_push_new w0 _
  have q3 : H.next < H0.next := by rw [← hH1]; exact Nat.lt_succ_self _
  have q4 : WF H4 := by rw [← hH3]; exact WF.push q0 _
  have q5 : H0.next ≤ H4.next := by rw [← hH3]; exact Nat.le_succ _
  have kp2 : KeepX H.next [] H H4 := by rw [← hH3]; exact KeepX.push kp1 q0 _
  have q6 : H4.get H0.next = some (.cells [.int .i64 c0Number] false 0) := by rw [← hH3]; exact get_push_new q0 _
  have q7 : H0.next < H4.next := by rw [← hH3]; exact Nat.lt_succ_self _
  have kp3 : KeepX H.next [] H H5 := KeepX.call kp2 hk5
  have q8 : H4.get H.next = some (.cells [.int .i64 c0Number, .int .i64 c0Day, .int .i64 c0Parish, .int .i64 c0Amount] false 1966080) := by rw [← hH3]; exact (get_push_lt q0 _ q3).trans q2
  have q9 : H.next < H4.next := Nat.lt_of_lt_of_le q3 q5
  have q10 : H5.get H.next = some (.cells [.int .i64 c0Number, .int .i64 c0Day, .int .i64 c0Parish, .int .i64 c0Amount] false 1966080) := hk5.some q9 q8
  have q11 : H.next < H5.next := Nat.lt_of_lt_of_le q9 hk5.next
  have q12 : WF H9 := by rw [← hH7]; exact WF.push hw6 _
  have q13 : H5.next ≤ H9.next := by rw [← hH7]; exact Nat.le_succ _
  have kp4 : KeepX H.next [] H H9 := by rw [← hH7]; exact KeepX.push kp3 hw6 _
  have q14 : H9.get H5.next = some (.cells [.int .i64 c0Day] false 0) := by rw [← hH7]; exact get_push_new hw6 _
  have q15 : H5.next < H9.next := by rw [← hH7]; exact Nat.lt_succ_self _
  have kp5 : KeepX H.next [] H H10 := KeepX.call kp4 hk9
  have q16 : H9.get H.next = some (.cells [.int .i64 c0Number, .int .i64 c0Day, .int .i64 c0Parish, .int .i64 c0Amount] false 1966080) := by rw [← hH7]; exact (get_push_lt hw6 _ q11).trans q10
  have q17 : H.next < H9.next := Nat.lt_of_lt_of_le q11 q13
  have q18 : H10.get H.next = some (.cells [.int .i64 c0Number, .int .i64 c0Day, .int .i64 c0Parish, .int .i64 c0Amount] false 1966080) := hk9.some q17 q16
  have q19 : H.next < H10.next := Nat.lt_of_lt_of_le q17 hk9.next
  have q20 : WF H15 := by rw [← hH11]; exact WF.push hw10 _
  have q21 : H10.next ≤ H15.next := by rw [← hH11]; exact Nat.le_succ _
  have kp6 : KeepX H.next [] H H15 := by rw [← hH11]; exact KeepX.push kp5 hw10 _
  have q22 : H15.get H10.next = some (.cells [.int .i64 c0Parish] false 0) := by rw [← hH11]; exact get_push_new hw10 _
  have q23 : H10.next < H15.next := by rw [← hH11]; exact Nat.lt_succ_self _
  have kp7 : KeepX H.next [] H H16 := KeepX.call kp6 hk13
  exact ⟨callP_calls (orc := [(0, .mem H0), (3, .load [.int .i64 c0Number, .int .i64 c0Day, .int .i64 c0Parish, .int .i64 c0Amount] false 1966080 (.int .i64 c0Number)), (4, .mem H4), (5, .call (.bool true) H5), (8, .load [.int .i64 c0Number, .int .i64 c0Day, .int .i64 c0Parish, .int .i64 c0Amount] false 1966080 (.int .i64 c0Day)), (9, .mem H9), (10, .call (.bool true) H10), (14, .load [.int .i64 c0Number, .int .i64 c0Day, .int .i64 c0Parish, .int .i64 c0Amount] false 1966080 (.int .i64 c0Parish)), (15, .mem H15), (16, .call (.bool false) H16)]) (fs := [_, _, _, _, _, _, _, _, _, _, _, _, _]) (by kernel_rfl) ⟨hc12, hH11, q18, (rfl : ([.int .i64 c0Number, .int .i64 c0Day, .int .i64 c0Parish, .int .i64 c0Amount] : List AV)[2]? = some (.int .i64 c0Parish)), hc8, hH7, q10, (rfl : ([.int .i64 c0Number, .int .i64 c0Day, .int .i64 c0Parish, .int .i64 c0Amount] : List AV)[1]? = some (.int .i64 c0Day)), hc4, hH3, q2, (rfl : ([.int .i64 c0Number, .int .i64 c0Day, .int .i64 c0Parish, .int .i64 c0Amount] : List AV)[0]? = some (.int .i64 c0Number)), hH1, trivial⟩, hw14, kp7.keep⟩
theorem f50_p5 {c0Number : Int} {c0Day : Int} {c0Parish : Int} {c0Amount : Int} {H : AH} {H0 : AH} (hH1 : H.push (.cells [.int .i64 c0Number, .int .i64 c0Day, .int .i64 c0Parish, .int .i64 c0Amount] false 1966080) = H0) (w0 : WF H) {H4 : AH} (hH3 : H0.push (.cells [.int .i64 c0Number] false 0) = H4) {H5 : AH} (hc4 : CallsTo P gl 77 [.int .i64 0, .int .i64 999999, .slice H0.next 0 1 true 1] H4 (.bool true) H5) (hk5 : Keep H4.next H4 H5) (hw6 : WF H5) {H9 : AH} (hH7 : H5.push (.cells [.int .i64 c0Day] false 0) = H9) {H10 : AH} (hc8 : CallsTo P gl 77 [.int .i64 0, .int .i64 36524, .slice H5.next 0 1 true 1] H9 (.bool false) H10) (hk9 : Keep H9.next H9 H10) (hw10 : WF H10) :
    CallsTo P gl 50 [.agg [.int .i64 c0Number, .int .i64 c0Day, .int .i64 c0Parish, .int .i64 c0Amount]] H (.bool false) H10 ∧ WF H10 ∧ Keep H.next H H10 := by
  have kp0 : KeepX H.next [] H H := KeepX.refl
  have q0 : WF H0 := by rw [← hH1]; exact WF.push w0 _
  have q1 : H.next ≤ H0.next := by rw [← hH1]; exact Nat.le_succ _
  have kp1 : KeepX H.next [] H H0 := by rw [← hH1]; exact KeepX.push (KeepX.refl (n := H.next) (xs := []) (H := H)) w0 _
  have q2 : H0.get H.next = some (.cells [.int .i64 c0Number, .int .i64 c0Day, .int .i64 c0Parish, .int .i64 c0Amount] false 1966080) := by rw [← hH1]; exact get_push_new w0 _
  have q3 : H.next < H0.next := by rw [← hH1]; exact Nat.lt_succ_self _
  have q4 : WF H4 := by rw [← hH3]; exact WF.push q0 _
  have q5 : H0.next ≤ H4.next := by rw [← hH3]; exact Nat.le_succ _
  have kp2 : KeepX H.next [] H H4 := by rw [← hH3]; exact KeepX.push kp1 q0 _
  have q6 : H4.get H0.next = some (.cells [.int .i64 c0Number] false 0) := by rw [← hH3]; exact get_push_new q0 _
  have q7 : H0.next < H4.next := by rw [← hH3]; exact Nat.lt_succ_self _
  have kp3 : KeepX H.next [] H H5 := KeepX.call kp2 hk5
  have q8 : H4.get H.next = some (.cells [.int .i64 c0Number, .int .i64 c0Day, .int .i64 c0Parish, .int .i64 c0Amount] false 1966080) := by rw [← hH3]; exact (get_push_lt q0 _ q3).trans q2
  have q9 : H.next < H4.next := Nat.lt_of_lt_of_le q3 q5
  have q10 : H5.get H.next = some (.cells [.int .i64 c0Number, .int .i64 c0Day, .int .i64 c0Parish, .int .i64 c0Amount] false 1966080) := hk5.some q9 q8
  have q11 : H.next < H5.next := Nat.lt_of_lt_of_le q9 hk5.next
  have q12 : WF H9 := by rw [← hH7]; exact WF.push hw6 _
  have q13 : H5.next ≤ H9.next := by rw [← hH7]; exact Nat.le_succ _
  have kp4 : KeepX H.next [] H H9 := by rw [← hH7]; exact KeepX.push kp3 hw6 _
  have q14 : H9.get H5.next = some (.cells [.int .i64 c0Day] false 0) := by rw [← hH7]; exact get_push_new hw6 _
  have q15 : H5.next < H9.next := by rw [← hH7]; exact Nat.lt_succ_self _
  have kp5 : KeepX H.next [] H H10 := KeepX.call kp4 hk9
  exact ⟨callP_calls (orc := [(0, .mem H0), (3, .load [.int .i64 c0Number, .int .i64 c0Day, .int .i64 c0Parish, .int .i64 c0Amount] false 1966080 (.int .i64 c0Number)), (4, .mem H4), (5, .call (.bool true) H5), (8, .load [.int .i64 c0Number, .int .i64 c0Day, .int .i64 c0Parish, .int .i64 c0Amount] false 1966080 (.int .i64 c0Day)), (9, .mem H9), (10, .call (.bool false) H10)]) (fs := [_, _, _, _, _, _, _, _, _]) (by kernel_rfl) ⟨hc8, hH7, q10, (rfl : ([.int .i64 c0Number, .int .i64 c0Day, .int .i64 c0Parish, .int .i64 c0Amount] : List AV)[1]? = some (.int .i64 c0Day)), hc4, hH3, q2, (rfl : ([.int .i64 c0Number, .int .i64 c0Day, .int .i64 c0Parish, .int .i64 c0Amount] : List AV)[0]? = some (.int .i64 c0Number)), hH1, trivial⟩, hw10, kp5.keep⟩
theorem f50_p6 {c0Number : Int} {c0Day : Int} {c0Parish : Int} {c0Amount : Int} {H : AH} {H0 : AH} (hH1 : H.push (.cells [.int .i64 c0Number, .int .i64 c0Day, .int .i64 c0Parish, .int .i64 c0Amount] false 1966080) = H0) (w0 : WF H) {H4 : AH} (hH3 : H0.push (.cells [.int .i64 c0Number] false 0) = H4) {H5 : AH} (hc4 : CallsTo P gl 77 [.int .i64 0, .int .i64 999999, .slice H0.next 0 1 true 1] H4 (.bool false) H5) (hk5 : Keep H4.next H4 H5) (hw6 : WF H5) :
    CallsTo P gl 50 [.agg [.int .i64 c0Number, .int .i64 c0Day, .int .i64 c0Parish, .int .i64 c0Amount]] H (.bool false) H5 ∧ WF H5 ∧ Keep H.next H H5 := by
  have kp0 : KeepX H.next [] H H := KeepX.refl
  have q0 : WF H0 := by rw [← hH1]; exact WF.push w0 _
  have q1 : H.next ≤ H0.next := by rw [← hH1]; exact Nat.le_succ _
  have kp1 : KeepX H.next [] H H0 := by rw [← hH1]; exact KeepX.push (KeepX.refl (n := H.next) (xs := []) (H := H)) w0 _
  have q2 : H0.get H.next = some (.cells [.int .i64 c0Number, .int .i64 c0Day, .int .i64 c0Parish, .int .i64 c0Amount] false 1966080) := by rw [← hH1]; exact get_push_new w0 _
  have q3 : H.next < H0.next := by rw [← hH1]; exact Nat.lt_succ_self _
  have q4 : WF H4 := by rw [← hH3]; exact WF.push q0 _
  have q5 : H0.next ≤ H4.next := by rw [← hH3]; exact Nat.le_succ _
  have kp2 : KeepX H.next [] H H4 := by rw [← hH3]; exact KeepX.push kp1 q0 _
  have q6 : H4.get H0.next = some (.cells [.int .i64 c0Number] false 0) := by rw [← hH3]; exact get_push_new q0 _
  have q7 : H0.next < H4.next := by rw [← hH3]; exact Nat.lt_succ_self _
  have kp3 : KeepX H.next [] H H5 := KeepX.call kp2 hk5
  exact ⟨callP_calls (orc := [(0, .mem H0), (3, .load [.int .i64 c0Number, .int .i64 c0Day, .int .i64 c0Parish, .int .i64 c0Amount] false 1966080 (.int .i64 c0Number)), (4, .mem H4), (5, .call (.bool false) H5)]) (fs := [_, _, _, _, _]) (by kernel_rfl) ⟨hc4, hH3, q2, (rfl : ([.int .i64 c0Number, .int .i64 c0Day, .int .i64 c0Parish, .int .i64 c0Amount] : List AV)[0]? = some (.int .i64 c0Number)), hH1, trivial⟩, hw6, kp3.keep⟩
theorem f51_p1 {b0r : Nat} {c1Number : Int} {c1Day : Int} {c1Parish : Int} {c1Amount : Int} {H : AH} {H0 : AH} (hH1 : H.push (.cells [.int .i64 c1Number, .int .i64 c1Day, .int .i64 c1Parish, .int .i64 c1Amount] false 1966080) = H0) (w0 : WF H) {x6Number : Int} {x6Day : Int} {x6Parish : Int} {x6Amount : Int} (hv3 : vLookup P H0.get 106 (.map b0r) (.int .i64 c1Number) true = some (.tup [.agg [.int .i64 x6Number, .int .i64 x6Day, .int .i64 x6Parish, .int .i64 x6Amount], .bool true])) {H10 : AH} (hH4 : H0.push (.cells [.int .i64 0, .int .i64 0, .int .i64 0, .int .i64 0] false 1966080) = H10) {H11 : AH} (hH5 : H10.set H0.next (.cells [.int .i64 x6Number, .int .i64 x6Day, .int .i64 x6Parish, .int .i64 x6Amount] false 1966080) = H11) (h6 : AV.beqL [.int .i64 x6Number, .int .i64 x6Day, .int .i64 x6Parish, .int .i64 x6Amount] [.int .i64 c1Number, .int .i64 c1Day, .int .i64 c1Parish, .int .i64 c1Amount] = false) :
    CallsTo P gl 51 [.map b0r, .agg [.int .i64 c1Number, .int .i64 c1Day, .int .i64 c1Parish, .int .i64 c1Amount]] H (.tup [.bool false, .int .i64 4]) H11 ∧ WF H11 ∧ Keep H.next H H11 := by
  have kp0 : KeepX H.next [] H H := KeepX.refl
  have q0 : WF H0 := by rw [← hH1]; exact WF.push w0 _
  have q1 : H.next ≤ H0.next := by rw [← hH1]; exact Nat.le_succ _
  have kp1 : KeepX H.next [] H H0 := by rw [← hH1]; exact KeepX.push (KeepX.refl (n := H.next) (xs := []) (H := H)) w0 _
  have q2 : H0.get H.next = some (.cells [.int .i64 c1Number, .int .i64 c1Day, .int .i64 c1Parish, .int .i64 c1Amount] false 1966080) := by rw [← hH1]; exact get_push_new w0 _
  have q3 : H.next < H0.next := by rw [← hH1]; exact Nat.lt_succ_self _
  have q4 : WF H10 := by rw [← hH4]; exact WF.push q0 _
  have q5 : H0.next ≤ H10.next := by rw [← hH4]; exact Nat.le_succ _
  have kp2 : KeepX H.next [] H H10 := by rw [← hH4]; exact KeepX.push kp1 q0 _
  have q6 : H10.get H0.next = some (.cells [.int .i64 0, .int .i64 0, .int .i64 0, .int .i64 0] false 1966080) := by rw [← hH4]; exact get_push_new q0 _
  have q7 : H0.next < H10.next := by rw [← hH4]; exact Nat.lt_succ_self _
  have q8 : WF H11 := by rw [← hH5]; exact WF.set q4 _ _
  have q9 : H10.next ≤ H11.next := by rw [← hH5]; exact Nat.le_refl _
  have kp3 : KeepX H.next [] H H11 := by rw [← hH5]; exact KeepX.set kp2 _ kp1.next
  have q10 : H11.get H0.next = some (.cells [.int .i64 x6Number, .int .i64 x6Day, .int .i64 x6Parish, .int .i64 x6Amount] false 1966080) := by rw [← hH5]; exact get_set_eq q4 q7 _
  have q11 : H0.next < H11.next := by rw [← hH5]; exact q7
  have q12 : H10.get H.next = some (.cells [.int .i64 c1Number, .int .i64 c1Day, .int .i64 c1Parish, .int .i64 c1Amount] false 1966080) := by rw [← hH4]; exact (get_push_lt q0 _ q3).trans q2
  have q13 : H.next < H10.next := Nat.lt_of_lt_of_le q3 q5
  have q14 : H.next < H0.next := (by rw [← hH1]; exact Nat.lt_succ_self _)
  have q15 : H11.get H.next = some (.cells [.int .i64 c1Number, .int .i64 c1Day, .int .i64 c1Parish, .int .i64 c1Amount] false 1966080) := by rw [← hH5]; exact (get_set_ne (Nat.ne_of_lt q14)).trans q12
  have q16 : H.next < H11.next := Nat.lt_of_lt_of_le q13 q9
  exact ⟨callP_calls (orc := [(0, .mem H0), (5, .load [.int .i64 c1Number, .int .i64 c1Day, .int .i64 c1Parish, .int .i64 c1Amount] false 1966080 (.int .i64 c1Number)), (6, .val (.tup [.agg [.int .i64 x6Number, .int .i64 x6Day, .int .i64 x6Parish, .int .i64 x6Amount], .bool true])), (10, .mem H10), (11, .store [.int .i64 0, .int .i64 0, .int .i64 0, .int .i64 0] 1966080 [.int .i64 x6Number, .int .i64 x6Day, .int .i64 x6Parish, .int .i64 x6Amount] H11), (16, .load [.int .i64 x6Number, .int .i64 x6Day, .int .i64 x6Parish, .int .i64 x6Amount] false 1966080 (.agg [.int .i64 x6Number, .int .i64 x6Day, .int .i64 x6Parish, .int .i64 x6Amount])), (17, .load [.int .i64 c1Number, .int .i64 c1Day, .int .i64 c1Parish, .int .i64 c1Amount] false 1966080 (.agg [.int .i64 c1Number, .int .i64 c1Day, .int .i64 c1Parish, .int .i64 c1Amount])), (18, .bit true)]) (fs := [_, _, _, _, _, _, _, _, _, _, _, _, _, _]) (by kernel_rfl) ⟨(not_t h6), q15, (rfl : cut [.int .i64 c1Number, .int .i64 c1Day, .int .i64 c1Parish, .int .i64 c1Amount] 0 4 = some [.int .i64 c1Number, .int .i64 c1Day, .int .i64 c1Parish, .int .i64 c1Amount]), q10, (rfl : cut [.int .i64 x6Number, .int .i64 x6Day, .int .i64 x6Parish, .int .i64 x6Amount] 0 4 = some [.int .i64 x6Number, .int .i64 x6Day, .int .i64 x6Parish, .int .i64 x6Amount]), q6, (Nat.le_of_ble_eq_true rfl : 0 + 4 ≤ ([.int .i64 0, .int .i64 0, .int .i64 0, .int .i64 0] : List AV).length), (rfl : setL [.int .i64 0, .int .i64 0, .int .i64 0, .int .i64 0] 0 [.int .i64 x6Number, .int .i64 x6Day, .int .i64 x6Parish, .int .i64 x6Amount] = [.int .i64 x6Number, .int .i64 x6Day, .int .i64 x6Parish, .int .i64 x6Amount]), hH5, hH4, hv3, q2, (rfl : ([.int .i64 c1Number, .int .i64 c1Day, .int .i64 c1Parish, .int .i64 c1Amount] : List AV)[0]? = some (.int .i64 c1Number)), hH1, trivial⟩, q8, kp3.keep⟩
theorem f51_p2 {b0r : Nat} {c1Number : Int} {c1Day : Int} {c1Parish : Int} {c1Amount : Int} {H : AH} {H0 : AH} (hH1 : H.push (.cells [.int .i64 c1Number, .int .i64 c1Day, .int .i64 c1Parish, .int .i64 c1Amount] false 1966080) = H0) (w0 : WF H) {x6Number : Int} {x6Day : Int} {x6Parish : Int} {x6Amount : Int} (hv3 : vLookup P H0.get 106 (.map b0r) (.int .i64 c1Number) true = some (.tup [.agg [.int .i64 x6Number, .int .i64 x6Day, .int .i64 x6Parish, .int .i64 x6Amount], .bool true])) {H10 : AH} (hH4 : H0.push (.cells [.int .i64 0, .int .i64 0, .int .i64 0, .int .i64 0] false 1966080) = H10) {H11 : AH} (hH5 : H10.set H0.next (.cells [.int .i64 x6Number, .int .i64 x6Day, .int .i64 x6Parish, .int .i64 x6Amount] false 1966080) = H11) (h6 : AV.beqL [.int .i64 x6Number, .int .i64 x6Day, .int .i64 x6Parish, .int .i64 x6Amount] [.int .i64 c1Number, .int .i64 c1Day, .int .i64 c1Parish, .int .i64 c1Amount] = true) :
    CallsTo P gl 51 [.map b0r, .agg [.int .i64 c1Number, .int .i64 c1Day, .int .i64 c1Parish, .int .i64 c1Amount]] H (.tup [.bool false, .int .i64 0]) H11 ∧ WF H11 ∧ Keep H.next H H11 := by
  have kp0 : KeepX H.next [] H H := KeepX.refl
  have q0 : WF H0 := by rw [← hH1]; exact WF.push w0 _
  have q1 : H.next ≤ H0.next := by rw [← hH1]; exact Nat.le_succ _
  have kp1 : KeepX H.next [] H H0 := by rw [← hH1]; exact KeepX.push (KeepX.refl (n := H.next) (xs := []) (H := H)) w0 _
  have q2 : H0.get H.next = some (.cells [.int .i64 c1Number, .int .i64 c1Day, .int .i64 c1Parish, .int .i64 c1Amount] false 1966080) := by rw [← hH1]; exact get_push_new w0 _
  have q3 : H.next < H0.next := by rw [← hH1]; exact Nat.lt_succ_self _
  have q4 : WF H10 := by rw [← hH4]; exact WF.push q0 _
  have q5 : H0.next ≤ H10.next := by rw [← hH4]; exact Nat.le_succ _
  have kp2 : KeepX H.next [] H H10 := by rw [← hH4]; exact KeepX.push kp1 q0 _
  have q6 : H10.get H0.next = some (.cells [.int .i64 0, .int .i64 0, .int .i64 0, .int .i64 0] false 1966080) := by rw [← hH4]; exact get_push_new q0 _
  have q7 : H0.next < H10.next := by rw [← hH4]; exact Nat.lt_succ_self _
  have q8 : WF H11 := by rw [← hH5]; exact WF.set q4 _ _
  have q9 : H10.next ≤ H11.next := by rw [← hH5]; exact Nat.le_refl _
  have kp3 : KeepX H.next [] H H11 := by rw [← hH5]; exact KeepX.set kp2 _ kp1.next
  have q10 : H11.get H0.next = some (.cells [.int .i64 x6Number, .int .i64 x6Day, .int .i64 x6Parish, .int .i64 x6Amount] false 1966080) := by rw [← hH5]; exact get_set_eq q4 q7 _
  have q11 : H0.next < H11.next := by rw [← hH5]; exact q7
  have q12 : H10.get H.next = some (.cells [.int .i64 c1Number, .int .i64 c1Day, .int .i64 c1Parish, .int .i64 c1Amount] false 1966080) := by rw [← hH4]; exact (get_push_lt q0 _ q3).trans q2
  have q13 : H.next < H10.next := Nat.lt_of_lt_of_le q3 q5
  have q14 : H.next < H0.next := (by rw [← hH1]; exact Nat.lt_succ_self _)
  have q15 : H11.get H.next = some (.cells [.int .i64 c1Number, .int .i64 c1Day, .int .i64 c1Parish, .int .i64 c1Amount] false 1966080) := by rw [← hH5]; exact (get_set_ne (Nat.ne_of_lt q14)).trans q12
  have q16 : H.next < H11.next := Nat.lt_of_lt_of_le q13 q9
  exact ⟨callP_calls (orc := [(0, .mem H0), (5, .load [.int .i64 c1Number, .int .i64 c1Day, .int .i64 c1Parish, .int .i64 c1Amount] false 1966080 (.int .i64 c1Number)), (6, .val (.tup [.agg [.int .i64 x6Number, .int .i64 x6Day, .int .i64 x6Parish, .int .i64 x6Amount], .bool true])), (10, .mem H10), (11, .store [.int .i64 0, .int .i64 0, .int .i64 0, .int .i64 0] 1966080 [.int .i64 x6Number, .int .i64 x6Day, .int .i64 x6Parish, .int .i64 x6Amount] H11), (16, .load [.int .i64 x6Number, .int .i64 x6Day, .int .i64 x6Parish, .int .i64 x6Amount] false 1966080 (.agg [.int .i64 x6Number, .int .i64 x6Day, .int .i64 x6Parish, .int .i64 x6Amount])), (17, .load [.int .i64 c1Number, .int .i64 c1Day, .int .i64 c1Parish, .int .i64 c1Amount] false 1966080 (.agg [.int .i64 c1Number, .int .i64 c1Day, .int .i64 c1Parish, .int .i64 c1Amount])), (18, .bit false)]) (fs := [_, _, _, _, _, _, _, _, _, _, _, _, _, _]) (by kernel_rfl) ⟨(not_f h6), q15, (rfl : cut [.int .i64 c1Number, .int .i64 c1Day, .int .i64 c1Parish, .int .i64 c1Amount] 0 4 = some [.int .i64 c1Number, .int .i64 c1Day, .int .i64 c1Parish, .int .i64 c1Amount]), q10, (rfl : cut [.int .i64 x6Number, .int .i64 x6Day, .int .i64 x6Parish, .int .i64 x6Amount] 0 4 = some [.int .i64 x6Number, .int .i64 x6Day, .int .i64 x6Parish, .int .i64 x6Amount]), q6, (Nat.le_of_ble_eq_true rfl : 0 + 4 ≤ ([.int .i64 0, .int .i64 0, .int .i64 0, .int .i64 0] : List AV).length), (rfl : setL [.int .i64 0, .int .i64 0, .int .i64 0, .int .i64 0] 0 [.int .i64 x6Number, .int .i64 x6Day, .int .i64 x6Parish, .int .i64 x6Amount] = [.int .i64 x6Number, .int .i64 x6Day, .int .i64 x6Parish, .int .i64 x6Amount]), hH5, hH4, hv3, q2, (rfl : ([.int .i64 c1Number, .int .i64 c1Day, .int .i64 c1Parish, .int .i64 c1Amount] : List AV)[0]? = some (.int .i64 c1Number)), hH1, trivial⟩, q8, kp3.keep⟩
theorem f51_p3 {b0r : Nat} {c1Number : Int} {c1Day : Int} {c1Parish : Int} {c1Amount : Int} {H : AH} {H0 : AH} (hH1 : H.push (.cells [.int .i64 c1Number, .int .i64 c1Day, .int .i64 c1Parish, .int .i64 c1Amount] false 1966080) = H0) (w0 : WF H) {x6Number : Int} {x6Day : Int} {x6Parish : Int} {x6Amount : Int} (hv3 : vLookup P H0.get 106 (.map b0r) (.int .i64 c1Number) true = some (.tup [.agg [.int .i64 x6Number, .int .i64 x6Day, .int .i64 x6Parish, .int .i64 x6Amount], .bool false])) {H10 : AH} (hH4 : H0.push (.cells [.int .i64 0, .int .i64 0, .int .i64 0, .int .i64 0] false 1966080) = H10) {H11 : AH} (hH5 : H10.set H0.next (.cells [.int .i64 x6Number, .int .i64 x6Day, .int .i64 x6Parish, .int .i64 x6Amount] false 1966080) = H11) {H20 : AH} (hA6 : (aupdate P H11 106 (.map b0r) (.int .i64 c1Number) (.agg [.int .i64 c1Number, .int .i64 c1Day, .int .i64 c1Parish, .int .i64 c1Amount])).map (fun H => (undefA, H)) = some (undefA, H20)) :
    CallsTo P gl 51 [.map b0r, .agg [.int .i64 c1Number, .int .i64 c1Day, .int .i64 c1Parish, .int .i64 c1Amount]] H (.tup [.bool true, .int .i64 0]) H20 ∧ WF H20 ∧ KeepX H.next [b0r] H H20 := by
  have kp0 : KeepX H.next [] H H := KeepX.refl
  have q0 : WF H0 := by rw [← hH1]; exact WF.push w0 _
  have q1 : H.next ≤ H0.next := by rw [← hH1]; exact Nat.le_succ _
  have kp1 : KeepX H.next [] H H0 := by rw [← hH1]; exact KeepX.push (KeepX.refl (n := H.next) (xs := []) (H := H)) w0 _
  have q2 : H0.get H.next = some (.cells [.int .i64 c1Number, .int .i64 c1Day, .int .i64 c1Parish, .int .i64 c1Amount] false 1966080) := by rw [← hH1]; exact get_push_new w0 _
  have q3 : H.next < H0.next := by rw [← hH1]; exact Nat.lt_succ_self _
  have q4 : WF H10 := by rw [← hH4]; exact WF.push q0 _
  have q5 : H0.next ≤ H10.next := by rw [← hH4]; exact Nat.le_succ _
  have kp2 : KeepX H.next [] H H10 := by rw [← hH4]; exact KeepX.push kp1 q0 _
  have q6 : H10.get H0.next = some (.cells [.int .i64 0, .int .i64 0, .int .i64 0, .int .i64 0] false 1966080) := by rw [← hH4]; exact get_push_new q0 _
  have q7 : H0.next < H10.next := by rw [← hH4]; exact Nat.lt_succ_self _
  have q8 : WF H11 := by rw [← hH5]; exact WF.set q4 _ _
  have q9 : H10.next ≤ H11.next := by rw [← hH5]; exact Nat.le_refl _
  have kp3 : KeepX H.next [] H H11 := by rw [← hH5]; exact KeepX.set kp2 _ kp1.next
  have q10 : H11.get H0.next = some (.cells [.int .i64 x6Number, .int .i64 x6Day, .int .i64 x6Parish, .int .i64 x6Amount] false 1966080) := by rw [← hH5]; exact get_set_eq q4 q7 _
  have q11 : H0.next < H11.next := by rw [← hH5]; exact q7
  have q12 : H10.get H.next = some (.cells [.int .i64 c1Number, .int .i64 c1Day, .int .i64 c1Parish, .int .i64 c1Amount] false 1966080) := by rw [← hH4]; exact (get_push_lt q0 _ q3).trans q2
  have q13 : H.next < H10.next := Nat.lt_of_lt_of_le q3 q5
  have q14 : H.next < H0.next := (by rw [← hH1]; exact Nat.lt_succ_self _)
  have q15 : H11.get H.next = some (.cells [.int .i64 c1Number, .int .i64 c1Day, .int .i64 c1Parish, .int .i64 c1Amount] false 1966080) := by rw [← hH5]; exact (get_set_ne (Nat.ne_of_lt q14)).trans q12
  have q16 : H.next < H11.next := Nat.lt_of_lt_of_le q13 q9
  have q17 : WF H20 := update_wf q8 hA6
  have q18 : KeepX H11.next [b0r] H11 H20 := update_sl q8 hA6
  have kp4 : KeepX H.next [b0r] H H20 := KeepX.cally kp3 q18
  exact ⟨callP_calls (orc := [(0, .mem H0), (5, .load [.int .i64 c1Number, .int .i64 c1Day, .int .i64 c1Parish, .int .i64 c1Amount] false 1966080 (.int .i64 c1Number)), (6, .val (.tup [.agg [.int .i64 x6Number, .int .i64 x6Day, .int .i64 x6Parish, .int .i64 x6Amount], .bool false])), (10, .mem H10), (11, .store [.int .i64 0, .int .i64 0, .int .i64 0, .int .i64 0] 1966080 [.int .i64 x6Number, .int .i64 x6Day, .int .i64 x6Parish, .int .i64 x6Amount] H11), (18, .load [.int .i64 c1Number, .int .i64 c1Day, .int .i64 c1Parish, .int .i64 c1Amount] false 1966080 (.int .i64 c1Number)), (19, .load [.int .i64 c1Number, .int .i64 c1Day, .int .i64 c1Parish, .int .i64 c1Amount] false 1966080 (.agg [.int .i64 c1Number, .int .i64 c1Day, .int .i64 c1Parish, .int .i64 c1Amount])), (20, .heap undefA H20)]) (fs := [_, _, _, _, _, _, _, _, _, _, _, _, _, _]) (by kernel_rfl) ⟨hA6, q15, (rfl : cut [.int .i64 c1Number, .int .i64 c1Day, .int .i64 c1Parish, .int .i64 c1Amount] 0 4 = some [.int .i64 c1Number, .int .i64 c1Day, .int .i64 c1Parish, .int .i64 c1Amount]), q15, (rfl : ([.int .i64 c1Number, .int .i64 c1Day, .int .i64 c1Parish, .int .i64 c1Amount] : List AV)[0]? = some (.int .i64 c1Number)), q6, (Nat.le_of_ble_eq_true rfl : 0 + 4 ≤ ([.int .i64 0, .int .i64 0, .int .i64 0, .int .i64 0] : List AV).length), (rfl : setL [.int .i64 0, .int .i64 0, .int .i64 0, .int .i64 0] 0 [.int .i64 x6Number, .int .i64 x6Day, .int .i64 x6Parish, .int .i64 x6Amount] = [.int .i64 x6Number, .int .i64 x6Day, .int .i64 x6Parish, .int .i64 x6Amount]), hH5, hH4, hv3, q2, (rfl : ([.int .i64 c1Number, .int .i64 c1Day, .int .i64 c1Parish, .int .i64 c1Amount] : List AV)[0]? = some (.int .i64 c1Number)), hH1, trivial⟩, q17, kp4⟩
theorem f49n_p1 {H : AH} :
    CallsTo P gl 49 [.nils] H (.nils) H := by
  exact callP_calls (orc := []) (fs := []) (by kernel_rfl) trivial
theorem f49_p1 {s0r : Nat} {s0o : Nat} {s0l : Nat} {s0k : Bool} {s0c : Nat} {H : AH} {H3 : AH} (hH1 : H.push (.cells [] false 0) = H3) (w0 : WF H) {y5r : Nat} {y5o : Nat} {y5l : Nat} {y5k : Bool} {y5c : Nat} {H5 : AH} (hA3 : aappend P H3 22 false (.slice H.next 0 0 true 0) (.slice s0r s0o s0l s0k s0c) = some (.slice y5r y5o y5l y5k y5c, H5)) :
    CallsTo P gl 49 [.slice s0r s0o s0l s0k s0c] H (.slice y5r y5o y5l y5k y5c) H5 ∧ WF H5 ∧ Keep H.next H H5 := by
  have kp0 : KeepX H.next [] H H := KeepX.refl
  have q0 : WF H3 := by rw [← hH1]; exact WF.push w0 _
  have q1 : H.next ≤ H3.next := by rw [← hH1]; exact Nat.le_succ _
  have kp1 : KeepX H.next [] H H3 := by rw [← hH1]; exact KeepX.push (KeepX.refl (n := H.next) (xs := []) (H := H)) w0 _
  have q2 : H3.get H.next = some (.cells [] false 0) := by rw [← hH1]; exact get_push_new w0 _
  have q3 : H.next < H3.next := by rw [← hH1]; exact Nat.lt_succ_self _
  have q4 : WF H5 := append_wf q0 hA3
  have q5 : KeepX H3.next [H.next] H3 H5 := append_sl q0 hA3
  have kp2 : KeepX H.next [] H H5 := KeepX.callx kp1 q5 kp0.next
  exact ⟨callP_calls (orc := [(3, .mem H3), (5, .heap (.slice y5r y5o y5l y5k y5c) H5)]) (fs := [_, _]) (by kernel_rfl) ⟨hA3, hH1, trivial⟩, q4, kp2.keep⟩
theorem f15_p1 {l0 : AV} {H : AH} {H1 : AH} (hH1 : H.push (.cells [] false 0) = H1) (w0 : WF H) {y3r : Nat} {y3o : Nat} {y3l : Nat} {y3k : Bool} {y3c : Nat} {H3 : AH} (hA3 : aappend P H1 23 false (.slice H.next 0 0 true 0) l0 = some (.slice y3r y3o y3l y3k y3c, H3)) :
    CallsTo P gl 15 [l0] H (.slice y3r y3o y3l y3k y3c) H3 ∧ WF H3 ∧ Keep H.next H H3 := by
  have kp0 : KeepX H.next [] H H := KeepX.refl
  have q0 : WF H1 := by rw [← hH1]; exact WF.push w0 _
  have q1 : H.next ≤ H1.next := by rw [← hH1]; exact Nat.le_succ _
  have kp1 : KeepX H.next [] H H1 := by rw [← hH1]; exact KeepX.push (KeepX.refl (n := H.next) (xs := []) (H := H)) w0 _
  have q2 : H1.get H.next = some (.cells [] false 0) := by rw [← hH1]; exact get_push_new w0 _
  have q3 : H.next < H1.next := by rw [← hH1]; exact Nat.lt_succ_self _
  have q4 : WF H3 := append_wf q0 hA3
  have q5 : KeepX H1.next [H.next] H1 H3 := append_sl q0 hA3
  have kp2 : KeepX H.next [] H H3 := KeepX.callx kp1 q5 kp0.next
  exact ⟨callP_calls (orc := [(1, .mem H1), (3, .heap (.slice y3r y3o y3l y3k y3c) H3)]) (fs := [_, _]) (by kernel_rfl) ⟨hA3, hH1, trivial⟩, q4, kp2.keep⟩
theorem f52_p1 {n0 : Int} {least1 : Int} {most2 : Int} {H : AH} (h1 : least1 ≤ n0) (h2 : n0 ≤ most2) :
    CallsTo P gl 52 [.int .i64 n0, .int .i64 least1, .int .i64 most2] H (.bool true) H := by
  exact callP_calls (orc := [(3, .bit true), (7, .bit true)]) (fs := [_, _]) (by kernel_rfl) ⟨(le_t h2), (ge_t h1), trivial⟩
theorem f52_p2 {n0 : Int} {least1 : Int} {most2 : Int} {H : AH} (h1 : least1 ≤ n0) (h2 : most2 < n0) :
    CallsTo P gl 52 [.int .i64 n0, .int .i64 least1, .int .i64 most2] H (.bool false) H := by
  exact callP_calls (orc := [(3, .bit true), (7, .bit false)]) (fs := [_, _]) (by kernel_rfl) ⟨(le_f h2), (ge_t h1), trivial⟩
theorem f52_p3 {n0 : Int} {least1 : Int} {most2 : Int} {H : AH} (h1 : n0 < least1) :
    CallsTo P gl 52 [.int .i64 n0, .int .i64 least1, .int .i64 most2] H (.bool false) H := by
  exact callP_calls (orc := [(3, .bit false)]) (fs := [_]) (by kernel_rfl) ⟨(ge_f h1), trivial⟩
theorem f53_p1 {c0Number : Int} {c0Day : Int} {c0Parish : Int} {c0Amount : Int} {H : AH} {H0 : AH} (hH1 : H.push (.cells [.int .i64 c0Number, .int .i64 c0Day, .int .i64 c0Parish, .int .i64 c0Amount] false 1966080) = H0) (w0 : WF H) (hc3 : CallsTo P gl 52 [.int .i64 c0Number, .int .i64 0, .int .i64 999999] H0 (.bool true) H0) (hc4 : CallsTo P gl 52 [.int .i64 c0Day, .int .i64 0, .int .i64 36524] H0 (.bool true) H0) (hc5 : CallsTo P gl 52 [.int .i64 c0Parish, .int .i64 0, .int .i64 29] H0 (.bool true) H0) (hc6 : CallsTo P gl 52 [.int .i64 c0Amount, .int .i64 (-10000000), .int .i64 10000000] H0 (.bool true) H0) (h7 : c0Amount ≠ 0) :
    CallsTo P gl 53 [.agg [.int .i64 c0Number, .int .i64 c0Day, .int .i64 c0Parish, .int .i64 c0Amount]] H (.bool true) H0 ∧ WF H0 ∧ Keep H.next H H0 := by
  have kp0 : KeepX H.next [] H H := KeepX.refl
  have q0 : WF H0 := by rw [← hH1]; exact WF.push w0 _
  have q1 : H.next ≤ H0.next := by rw [← hH1]; exact Nat.le_succ _
  have kp1 : KeepX H.next [] H H0 := by rw [← hH1]; exact KeepX.push (KeepX.refl (n := H.next) (xs := []) (H := H)) w0 _
  have q2 : H0.get H.next = some (.cells [.int .i64 c0Number, .int .i64 c0Day, .int .i64 c0Parish, .int .i64 c0Amount] false 1966080) := by rw [← hH1]; exact get_push_new w0 _
  have q3 : H.next < H0.next := by rw [← hH1]; exact Nat.lt_succ_self _
  exact ⟨callP_calls (orc := [(0, .mem H0), (3, .load [.int .i64 c0Number, .int .i64 c0Day, .int .i64 c0Parish, .int .i64 c0Amount] false 1966080 (.int .i64 c0Number)), (4, .call (.bool true) H0), (7, .load [.int .i64 c0Number, .int .i64 c0Day, .int .i64 c0Parish, .int .i64 c0Amount] false 1966080 (.int .i64 c0Day)), (8, .call (.bool true) H0), (12, .load [.int .i64 c0Number, .int .i64 c0Day, .int .i64 c0Parish, .int .i64 c0Amount] false 1966080 (.int .i64 c0Parish)), (13, .call (.bool true) H0), (17, .load [.int .i64 c0Number, .int .i64 c0Day, .int .i64 c0Parish, .int .i64 c0Amount] false 1966080 (.int .i64 c0Amount)), (18, .call (.bool true) H0), (22, .load [.int .i64 c0Number, .int .i64 c0Day, .int .i64 c0Parish, .int .i64 c0Amount] false 1966080 (.int .i64 c0Amount)), (23, .bit true)]) (fs := [_, _, _, _, _, _, _, _, _, _, _, _, _, _, _, _]) (by kernel_rfl) ⟨(ine_t h7), q2, (rfl : ([.int .i64 c0Number, .int .i64 c0Day, .int .i64 c0Parish, .int .i64 c0Amount] : List AV)[3]? = some (.int .i64 c0Amount)), hc6, q2, (rfl : ([.int .i64 c0Number, .int .i64 c0Day, .int .i64 c0Parish, .int .i64 c0Amount] : List AV)[3]? = some (.int .i64 c0Amount)), hc5, q2, (rfl : ([.int .i64 c0Number, .int .i64 c0Day, .int .i64 c0Parish, .int .i64 c0Amount] : List AV)[2]? = some (.int .i64 c0Parish)), hc4, q2, (rfl : ([.int .i64 c0Number, .int .i64 c0Day, .int .i64 c0Parish, .int .i64 c0Amount] : List AV)[1]? = some (.int .i64 c0Day)), hc3, q2, (rfl : ([.int .i64 c0Number, .int .i64 c0Day, .int .i64 c0Parish, .int .i64 c0Amount] : List AV)[0]? = some (.int .i64 c0Number)), hH1, trivial⟩, q0, kp1.keep⟩
theorem f53_p2 {c0Number : Int} {c0Day : Int} {c0Parish : Int} {c0Amount : Int} {H : AH} {H0 : AH} (hH1 : H.push (.cells [.int .i64 c0Number, .int .i64 c0Day, .int .i64 c0Parish, .int .i64 c0Amount] false 1966080) = H0) (w0 : WF H) (hc3 : CallsTo P gl 52 [.int .i64 c0Number, .int .i64 0, .int .i64 999999] H0 (.bool true) H0) (hc4 : CallsTo P gl 52 [.int .i64 c0Day, .int .i64 0, .int .i64 36524] H0 (.bool true) H0) (hc5 : CallsTo P gl 52 [.int .i64 c0Parish, .int .i64 0, .int .i64 29] H0 (.bool true) H0) (hc6 : CallsTo P gl 52 [.int .i64 c0Amount, .int .i64 (-10000000), .int .i64 10000000] H0 (.bool true) H0) (h7 : c0Amount = 0) :
    CallsTo P gl 53 [.agg [.int .i64 c0Number, .int .i64 c0Day, .int .i64 c0Parish, .int .i64 c0Amount]] H (.bool false) H0 ∧ WF H0 ∧ Keep H.next H H0 := by
  have kp0 : KeepX H.next [] H H := KeepX.refl
  have q0 : WF H0 := by rw [← hH1]; exact WF.push w0 _
  have q1 : H.next ≤ H0.next := by rw [← hH1]; exact Nat.le_succ _
  have kp1 : KeepX H.next [] H H0 := by rw [← hH1]; exact KeepX.push (KeepX.refl (n := H.next) (xs := []) (H := H)) w0 _
  have q2 : H0.get H.next = some (.cells [.int .i64 c0Number, .int .i64 c0Day, .int .i64 c0Parish, .int .i64 c0Amount] false 1966080) := by rw [← hH1]; exact get_push_new w0 _
  have q3 : H.next < H0.next := by rw [← hH1]; exact Nat.lt_succ_self _
  exact ⟨callP_calls (orc := [(0, .mem H0), (3, .load [.int .i64 c0Number, .int .i64 c0Day, .int .i64 c0Parish, .int .i64 c0Amount] false 1966080 (.int .i64 c0Number)), (4, .call (.bool true) H0), (7, .load [.int .i64 c0Number, .int .i64 c0Day, .int .i64 c0Parish, .int .i64 c0Amount] false 1966080 (.int .i64 c0Day)), (8, .call (.bool true) H0), (12, .load [.int .i64 c0Number, .int .i64 c0Day, .int .i64 c0Parish, .int .i64 c0Amount] false 1966080 (.int .i64 c0Parish)), (13, .call (.bool true) H0), (17, .load [.int .i64 c0Number, .int .i64 c0Day, .int .i64 c0Parish, .int .i64 c0Amount] false 1966080 (.int .i64 c0Amount)), (18, .call (.bool true) H0), (22, .load [.int .i64 c0Number, .int .i64 c0Day, .int .i64 c0Parish, .int .i64 c0Amount] false 1966080 (.int .i64 c0Amount)), (23, .bit false)]) (fs := [_, _, _, _, _, _, _, _, _, _, _, _, _, _, _, _]) (by kernel_rfl) ⟨(ine_f h7), q2, (rfl : ([.int .i64 c0Number, .int .i64 c0Day, .int .i64 c0Parish, .int .i64 c0Amount] : List AV)[3]? = some (.int .i64 c0Amount)), hc6, q2, (rfl : ([.int .i64 c0Number, .int .i64 c0Day, .int .i64 c0Parish, .int .i64 c0Amount] : List AV)[3]? = some (.int .i64 c0Amount)), hc5, q2, (rfl : ([.int .i64 c0Number, .int .i64 c0Day, .int .i64 c0Parish, .int .i64 c0Amount] : List AV)[2]? = some (.int .i64 c0Parish)), hc4, q2, (rfl : ([.int .i64 c0Number, .int .i64 c0Day, .int .i64 c0Parish, .int .i64 c0Amount] : List AV)[1]? = some (.int .i64 c0Day)), hc3, q2, (rfl : ([.int .i64 c0Number, .int .i64 c0Day, .int .i64 c0Parish, .int .i64 c0Amount] : List AV)[0]? = some (.int .i64 c0Number)), hH1, trivial⟩, q0, kp1.keep⟩
theorem f53_p3 {c0Number : Int} {c0Day : Int} {c0Parish : Int} {c0Amount : Int} {H : AH} {H0 : AH} (hH1 : H.push (.cells [.int .i64 c0Number, .int .i64 c0Day, .int .i64 c0Parish, .int .i64 c0Amount] false 1966080) = H0) (w0 : WF H) (hc3 : CallsTo P gl 52 [.int .i64 c0Number, .int .i64 0, .int .i64 999999] H0 (.bool true) H0) (hc4 : CallsTo P gl 52 [.int .i64 c0Day, .int .i64 0, .int .i64 36524] H0 (.bool true) H0) (hc5 : CallsTo P gl 52 [.int .i64 c0Parish, .int .i64 0, .int .i64 29] H0 (.bool true) H0) (hc6 : CallsTo P gl 52 [.int .i64 c0Amount, .int .i64 (-10000000), .int .i64 10000000] H0 (.bool false) H0) :
    CallsTo P gl 53 [.agg [.int .i64 c0Number, .int .i64 c0Day, .int .i64 c0Parish, .int .i64 c0Amount]] H (.bool false) H0 ∧ WF H0 ∧ Keep H.next H H0 := by
  have kp0 : KeepX H.next [] H H := KeepX.refl
  have q0 : WF H0 := by rw [← hH1]; exact WF.push w0 _
  have q1 : H.next ≤ H0.next := by rw [← hH1]; exact Nat.le_succ _
  have kp1 : KeepX H.next [] H H0 := by rw [← hH1]; exact KeepX.push (KeepX.refl (n := H.next) (xs := []) (H := H)) w0 _
  have q2 : H0.get H.next = some (.cells [.int .i64 c0Number, .int .i64 c0Day, .int .i64 c0Parish, .int .i64 c0Amount] false 1966080) := by rw [← hH1]; exact get_push_new w0 _
  have q3 : H.next < H0.next := by rw [← hH1]; exact Nat.lt_succ_self _
  exact ⟨callP_calls (orc := [(0, .mem H0), (3, .load [.int .i64 c0Number, .int .i64 c0Day, .int .i64 c0Parish, .int .i64 c0Amount] false 1966080 (.int .i64 c0Number)), (4, .call (.bool true) H0), (7, .load [.int .i64 c0Number, .int .i64 c0Day, .int .i64 c0Parish, .int .i64 c0Amount] false 1966080 (.int .i64 c0Day)), (8, .call (.bool true) H0), (12, .load [.int .i64 c0Number, .int .i64 c0Day, .int .i64 c0Parish, .int .i64 c0Amount] false 1966080 (.int .i64 c0Parish)), (13, .call (.bool true) H0), (17, .load [.int .i64 c0Number, .int .i64 c0Day, .int .i64 c0Parish, .int .i64 c0Amount] false 1966080 (.int .i64 c0Amount)), (18, .call (.bool false) H0)]) (fs := [_, _, _, _, _, _, _, _, _, _, _, _, _]) (by kernel_rfl) ⟨hc6, q2, (rfl : ([.int .i64 c0Number, .int .i64 c0Day, .int .i64 c0Parish, .int .i64 c0Amount] : List AV)[3]? = some (.int .i64 c0Amount)), hc5, q2, (rfl : ([.int .i64 c0Number, .int .i64 c0Day, .int .i64 c0Parish, .int .i64 c0Amount] : List AV)[2]? = some (.int .i64 c0Parish)), hc4, q2, (rfl : ([.int .i64 c0Number, .int .i64 c0Day, .int .i64 c0Parish, .int .i64 c0Amount] : List AV)[1]? = some (.int .i64 c0Day)), hc3, q2, (rfl : ([.int .i64 c0Number, .int .i64 c0Day, .int .i64 c0Parish, .int .i64 c0Amount] : List AV)[0]? = some (.int .i64 c0Number)), hH1, trivial⟩, q0, kp1.keep⟩
theorem f53_p4 {c0Number : Int} {c0Day : Int} {c0Parish : Int} {c0Amount : Int} {H : AH} {H0 : AH} (hH1 : H.push (.cells [.int .i64 c0Number, .int .i64 c0Day, .int .i64 c0Parish, .int .i64 c0Amount] false 1966080) = H0) (w0 : WF H) (hc3 : CallsTo P gl 52 [.int .i64 c0Number, .int .i64 0, .int .i64 999999] H0 (.bool true) H0) (hc4 : CallsTo P gl 52 [.int .i64 c0Day, .int .i64 0, .int .i64 36524] H0 (.bool true) H0) (hc5 : CallsTo P gl 52 [.int .i64 c0Parish, .int .i64 0, .int .i64 29] H0 (.bool false) H0) :
    CallsTo P gl 53 [.agg [.int .i64 c0Number, .int .i64 c0Day, .int .i64 c0Parish, .int .i64 c0Amount]] H (.bool false) H0 ∧ WF H0 ∧ Keep H.next H H0 := by
  have kp0 : KeepX H.next [] H H := KeepX.refl
  have q0 : WF H0 := by rw [← hH1]; exact WF.push w0 _
  have q1 : H.next ≤ H0.next := by rw [← hH1]; exact Nat.le_succ _
  have kp1 : KeepX H.next [] H H0 := by rw [← hH1]; exact KeepX.push (KeepX.refl (n := H.next) (xs := []) (H := H)) w0 _
  have q2 : H0.get H.next = some (.cells [.int .i64 c0Number, .int .i64 c0Day, .int .i64 c0Parish, .int .i64 c0Amount] false 1966080) := by rw [← hH1]; exact get_push_new w0 _
  have q3 : H.next < H0.next := by rw [← hH1]; exact Nat.lt_succ_self _
  exact ⟨callP_calls (orc := [(0, .mem H0), (3, .load [.int .i64 c0Number, .int .i64 c0Day, .int .i64 c0Parish, .int .i64 c0Amount] false 1966080 (.int .i64 c0Number)), (4, .call (.bool true) H0), (7, .load [.int .i64 c0Number, .int .i64 c0Day, .int .i64 c0Parish, .int .i64 c0Amount] false 1966080 (.int .i64 c0Day)), (8, .call (.bool true) H0), (12, .load [.int .i64 c0Number, .int .i64 c0Day, .int .i64 c0Parish, .int .i64 c0Amount] false 1966080 (.int .i64 c0Parish)), (13, .call (.bool false) H0)]) (fs := [_, _, _, _, _, _, _, _, _, _]) (by kernel_rfl) ⟨hc5, q2, (rfl : ([.int .i64 c0Number, .int .i64 c0Day, .int .i64 c0Parish, .int .i64 c0Amount] : List AV)[2]? = some (.int .i64 c0Parish)), hc4, q2, (rfl : ([.int .i64 c0Number, .int .i64 c0Day, .int .i64 c0Parish, .int .i64 c0Amount] : List AV)[1]? = some (.int .i64 c0Day)), hc3, q2, (rfl : ([.int .i64 c0Number, .int .i64 c0Day, .int .i64 c0Parish, .int .i64 c0Amount] : List AV)[0]? = some (.int .i64 c0Number)), hH1, trivial⟩, q0, kp1.keep⟩
theorem f53_p5 {c0Number : Int} {c0Day : Int} {c0Parish : Int} {c0Amount : Int} {H : AH} {H0 : AH} (hH1 : H.push (.cells [.int .i64 c0Number, .int .i64 c0Day, .int .i64 c0Parish, .int .i64 c0Amount] false 1966080) = H0) (w0 : WF H) (hc3 : CallsTo P gl 52 [.int .i64 c0Number, .int .i64 0, .int .i64 999999] H0 (.bool true) H0) (hc4 : CallsTo P gl 52 [.int .i64 c0Day, .int .i64 0, .int .i64 36524] H0 (.bool false) H0) :
    CallsTo P gl 53 [.agg [.int .i64 c0Number, .int .i64 c0Day, .int .i64 c0Parish, .int .i64 c0Amount]] H (.bool false) H0 ∧ WF H0 ∧ Keep H.next H H0 := by
  have kp0 : KeepX H.next [] H H := KeepX.refl
  have q0 : WF H0 := by rw [← hH1]; exact WF.push w0 _
  have q1 : H.next ≤ H0.next := by rw [← hH1]; exact Nat.le_succ _
  have kp1 : KeepX H.next [] H H0 := by rw [← hH1]; exact KeepX.push (KeepX.refl (n := H.next) (xs := []) (H := H)) w0 _
  have q2 : H0.get H.next = some (.cells [.int .i64 c0Number, .int .i64 c0Day, .int .i64 c0Parish, .int .i64 c0Amount] false 1966080) := by rw [← hH1]; exact get_push_new w0 _
  have q3 : H.next < H0.next := by rw [← hH1]; exact Nat.lt_succ_self _
  exact ⟨callP_calls (orc := [(0, .mem H0), (3, .load [.int .i64 c0Number, .int .i64 c0Day, .int .i64 c0Parish, .int .i64 c0Amount] false 1966080 (.int .i64 c0Number)), (4, .call (.bool true) H0), (7, .load [.int .i64 c0Number, .int .i64 c0Day, .int .i64 c0Parish, .int .i64 c0Amount] false 1966080 (.int .i64 c0Day)), (8, .call (.bool false) H0)]) (fs := [_, _, _, _, _, _, _]) (by kernel_rfl) ⟨hc4, q2, (rfl : ([.int .i64 c0Number, .int .i64 c0Day, .int .i64 c0Parish, .int .i64 c0Amount] : List AV)[1]? = some (.int .i64 c0Day)), hc3, q2, (rfl : ([.int .i64 c0Number, .int .i64 c0Day, .int .i64 c0Parish, .int .i64 c0Amount] : List AV)[0]? = some (.int .i64 c0Number)), hH1, trivial⟩, q0, kp1.keep⟩
theorem f53_p6 {c0Number : Int} {c0Day : Int} {c0Parish : Int} {c0Amount : Int} {H : AH} {H0 : AH} (hH1 : H.push (.cells [.int .i64 c0Number, .int .i64 c0Day, .int .i64 c0Parish, .int .i64 c0Amount] false 1966080) = H0) (w0 : WF H) (hc3 : CallsTo P gl 52 [.int .i64 c0Number, .int .i64 0, .int .i64 999999] H0 (.bool false) H0) :
    CallsTo P gl 53 [.agg [.int .i64 c0Number, .int .i64 c0Day, .int .i64 c0Parish, .int .i64 c0Amount]] H (.bool false) H0 ∧ WF H0 ∧ Keep H.next H H0 := by
  have kp0 : KeepX H.next [] H H := KeepX.refl
  have q0 : WF H0 := by rw [← hH1]; exact WF.push w0 _
  have q1 : H.next ≤ H0.next := by rw [← hH1]; exact Nat.le_succ _
  have kp1 : KeepX H.next [] H H0 := by rw [← hH1]; exact KeepX.push (KeepX.refl (n := H.next) (xs := []) (H := H)) w0 _
  have q2 : H0.get H.next = some (.cells [.int .i64 c0Number, .int .i64 c0Day, .int .i64 c0Parish, .int .i64 c0Amount] false 1966080) := by rw [← hH1]; exact get_push_new w0 _
  have q3 : H.next < H0.next := by rw [← hH1]; exact Nat.lt_succ_self _
  exact ⟨callP_calls (orc := [(0, .mem H0), (3, .load [.int .i64 c0Number, .int .i64 c0Day, .int .i64 c0Parish, .int .i64 c0Amount] false 1966080 (.int .i64 c0Number)), (4, .call (.bool false) H0)]) (fs := [_, _, _, _]) (by kernel_rfl) ⟨hc3, q2, (rfl : ([.int .i64 c0Number, .int .i64 c0Day, .int .i64 c0Parish, .int .i64 c0Amount] : List AV)[0]? = some (.int .i64 c0Number)), hH1, trivial⟩, q0, kp1.keep⟩
end Go.Proofs.YtipgfljojhdhjaaGreatDoor

namespace Go.Proofs.YtipgfljojhdhjaaGreatDoor
open Ai

structure Card where
  num : Int
  day : Int
  par : Int
  amt : Int
  deriving DecidableEq
def Card.cells (c : Card) : List AV := [.int .i64 c.num, .int .i64 c.day, .int .i64 c.par, .int .i64 c.amt]
def cards (l : List Card) : List (List AV) := l.map Card.cells
theorem cards_length (l : List Card) : (cards l).length = l.length := by simp [cards]
theorem cards_get {l : List Card} {i : Nat} {c : Card} (h : l[i]? = some c) : (cards l)[i]? = some c.cells := by simp [cards, h]

def within' (a b x : Int) : Bool := decide (a ≤ x ∧ x ≤ b)
def cardOk (c : Card) : Bool := within' 0 999999 c.num && within' 0 36524 c.day && within' 0 29 c.par && within' (-10000000) 10000000 c.amt && decide (c.amt ≠ 0)

theorem isCard_spec {H : AH} (hw : WF H) (c : Card) : Reads P gl 50 [.agg c.cells] H (.bool (cardOk c)) := by
  have w0 := hw.push (.cells c.cells false 1966080)
  have c1 := within_one (a := 0) (b := 999999) (x := c.num) w0
  obtain ⟨H1, c1, w1, k1⟩ := c1
  cases e1 : within' 0 999999 c.num with
  | false =>
    unfold within' at e1; rw [e1] at c1
    have e : cardOk c = false := by simp [cardOk, within', e1]
    rw [e]; exact ⟨_, f50_p6 rfl hw rfl c1 k1 w1⟩
  | true =>
  have e1' := e1
  unfold within' at e1; rw [e1] at c1
  obtain ⟨H2, c2, w2, k2⟩ := within_one (a := 0) (b := 36524) (x := c.day) w1
  cases e2 : within' 0 36524 c.day with
  | false =>
    have e : cardOk c = false := by simp [cardOk, e2]
    unfold within' at e2; rw [e2] at c2
    rw [e]; exact ⟨_, f50_p5 rfl hw rfl c1 k1 w1 rfl c2 k2 w2⟩
  | true =>
  have e2' := e2
  unfold within' at e2; rw [e2] at c2
  obtain ⟨H3, c3, w3, k3⟩ := within_one (a := 0) (b := 29) (x := c.par) w2
  cases e3 : within' 0 29 c.par with
  | false =>
    have e : cardOk c = false := by simp [cardOk, e3]
    unfold within' at e3; rw [e3] at c3
    rw [e]; exact ⟨_, f50_p4 rfl hw rfl c1 k1 w1 rfl c2 k2 w2 rfl c3 k3 w3⟩
  | true =>
  have e3' := e3
  unfold within' at e3; rw [e3] at c3
  obtain ⟨H4, c4, w4, k4⟩ := isMoney_one (x := c.amt) w3
  cases e4 : within' (-10000000) 10000000 c.amt with
  | false =>
    have e : cardOk c = false := by simp [cardOk, e4]
    unfold within' at e4; rw [e4] at c4
    rw [e]; exact ⟨_, f50_p3 rfl hw rfl c1 k1 w1 rfl c2 k2 w2 rfl c3 k3 w3 rfl c4 k4 w4⟩
  | true =>
  have e4' := e4
  unfold within' at e4; rw [e4] at c4
  by_cases e5 : c.amt = 0
  · have e : cardOk c = false := by simp [cardOk, e5]
    rw [e]; exact ⟨_, f50_p2 rfl hw rfl c1 k1 w1 rfl c2 k2 w2 rfl c3 k3 w3 rfl c4 k4 w4 e5⟩
  · have e : cardOk c = true := by simp [cardOk, e1', e2', e3', e4', e5]
    rw [e]; exact ⟨_, f50_p1 rfl hw rfl c1 k1 w1 rfl c2 k2 w2 rfl c3 k3 w3 rfl c4 k4 w4 e5⟩

theorem in_spec {H : AH} {n a b : Int} : CallsTo P gl 52 [.int .i64 n, .int .i64 a, .int .i64 b] H (.bool (within' a b n)) H := by
  unfold within'
  by_cases c1 : a ≤ n
  · by_cases c2 : n ≤ b
    · rw [decide_eq_true (And.intro c1 c2)]; exact f52_p1 c1 c2
    · rw [decide_eq_false (fun h => c2 h.2)]; exact f52_p2 c1 (by omega)
  · rw [decide_eq_false (fun h => c1 h.1)]; exact f52_p3 (by omega)

theorem Card_spec {H : AH} (hw : WF H) (c : Card) : Reads P gl 53 [.agg c.cells] H (.bool (cardOk c)) := by
  have c1 := fun H => in_spec (H := H) (n := c.num) (a := 0) (b := 999999)
  have c2 := fun H => in_spec (H := H) (n := c.day) (a := 0) (b := 36524)
  have c3 := fun H => in_spec (H := H) (n := c.par) (a := 0) (b := 29)
  have c4 := fun H => in_spec (H := H) (n := c.amt) (a := -10000000) (b := 10000000)
  unfold cardOk
  cases e1 : within' 0 999999 c.num with
  | false => simp only [e1] at c1; exact ⟨_, f53_p6 rfl hw (c1 _)⟩
  | true =>
  simp only [e1] at c1
  cases e2 : within' 0 36524 c.day with
  | false => simp only [e2] at c2; exact ⟨_, f53_p5 rfl hw (c1 _) (c2 _)⟩
  | true =>
  simp only [e2] at c2
  cases e3 : within' 0 29 c.par with
  | false => simp only [e3] at c3; exact ⟨_, f53_p4 rfl hw (c1 _) (c2 _) (c3 _)⟩
  | true =>
  simp only [e3] at c3
  cases e4 : within' (-10000000) 10000000 c.amt with
  | false => simp only [e4] at c4; exact ⟨_, f53_p3 rfl hw (c1 _) (c2 _) (c3 _) (c4 _)⟩
  | true =>
  simp only [e4] at c4
  by_cases e5 : c.amt = 0
  · rw [e5]; exact ⟨_, f53_p2 rfl hw (c1 _) (c2 _) (c3 _) (c4 _) e5⟩
  · rw [decide_eq_true e5]; exact ⟨_, f53_p1 rfl hw (c1 _) (c2 _) (c3 _) (c4 _) e5⟩

/-- The map of cards by their numbers. -/
def boxOf (l : List Card) : List (Int × AV) := l.map fun c => (c.num, .agg c.cells)

theorem card_beq (a b : Card) : AV.beqL a.cells b.cells = decide (a = b) := by
  have h := beqL_ints [a.num, a.day, a.par, a.amt] [b.num, b.day, b.par, b.amt]
  have e : ([a.num, a.day, a.par, a.amt] = [b.num, b.day, b.par, b.amt]) ↔ a = b := by
    cases a; cases b; simp
  simp only [List.map_cons, List.map_nil] at h
  unfold Card.cells
  rw [h]
  simp only [e]

theorem und106 : P.underlying 106 = some (.map 3 30) := by kernel_rfl
theorem und3 : P.underlying 3 = some (.int .i64) := by kernel_rfl
theorem zero30 : aZero P 30 = some (.agg [.int .i64 0, .int .i64 0, .int .i64 0, .int .i64 0]) := by kernel_rfl

def findNum (k : Int) : List Card → Option Card
  | [] => none
  | c :: l => if k = c.num then some c else findNum k l
theorem look_box (k : Int) (l : List Card) : lookI k (boxOf l) = (findNum k l).map fun c => .agg c.cells := by
  induction l with
  | nil => rfl
  | cons c l ih =>
    simp only [boxOf, List.map_cons, lookI, findNum]
    split
    · rfl
    · exact ih

/-- add: a number that is new. -/
theorem add_new {H : AH} {r : Nat} {l : List Card} (hw : WF H) (hm : IMap H r (boxOf l)) (c : Card) (hn : findNum c.num l = none) :
    ∃ H', CallsTo P gl 51 [.map r, .agg c.cells] H (.tup [.bool true, .int .i64 0]) H' ∧ WF H' ∧ KeepX H.next [r] H H' ∧ IMap H' r (boxOf (l ++ [c])) := by
  have hr := hw.lt hm
  have w1 := hw.push (.cells c.cells false 1966080)
  have m1 : IMap (H.push (.cells c.cells false 1966080)) r (boxOf l) := (get_push_lt hw _ hr).trans hm
  have hlk : lookI c.num (boxOf l) = none := by rw [look_box, hn]; rfl
  have l1 := look_miss (ok := true) und106 und3 zero30 m1 hlk
  have m2 : IMap ((H.push (.cells c.cells false 1966080)).push (.cells [.int .i64 0, .int .i64 0, .int .i64 0, .int .i64 0] false 1966080)) r (boxOf l) := (get_push_lt w1 _ (Nat.lt_succ_of_lt hr)).trans m1
  have m3 : IMap (((H.push (.cells c.cells false 1966080)).push (.cells [.int .i64 0, .int .i64 0, .int .i64 0, .int .i64 0] false 1966080)).set (H.push (.cells c.cells false 1966080)).next (.cells [.int .i64 0, .int .i64 0, .int .i64 0, .int .i64 0] false 1966080)) r (boxOf l) :=
    (get_set_ne (Nat.ne_of_lt (Nat.lt_succ_of_lt hr))).trans m2
  have u := update_new (u := .agg c.cells) und106 und3 m3 hlk
  obtain ⟨p1, p2, p3⟩ := f51_p3 rfl hw l1 rfl rfl u
  refine ⟨_, p1, p2, p3, ?_⟩
  have e : boxOf (l ++ [c]) = boxOf l ++ [(c.num, .agg c.cells)] := by simp [boxOf]
  unfold IMap
  rw [e, get_set_eq (((w1.push _).set _ _)) (Nat.lt_succ_of_lt (Nat.lt_succ_of_lt hr))]
  simp
theorem add_old {H : AH} {r : Nat} {l : List Card} (hw : WF H) (hm : IMap H r (boxOf l)) (c d : Card) (hn : findNum c.num l = some d) :
    Reads P gl 51 [.map r, .agg c.cells] H (if d = c then .tup [.bool false, .int .i64 0] else .tup [.bool false, .int .i64 4]) := by
  have hr := hw.lt hm
  have m1 : IMap (H.push (.cells c.cells false 1966080)) r (boxOf l) := (get_push_lt hw _ hr).trans hm
  have hlk : lookI c.num (boxOf l) = some (.agg d.cells) := by rw [look_box, hn]; rfl
  have l1 := look_hit (ok := true) und106 und3 m1 hlk
  have hb := card_beq d c
  by_cases h : d = c
  · rw [if_pos h]; rw [decide_eq_true h] at hb; exact ⟨_, f51_p2 rfl hw l1 rfl rfl hb⟩
  · rw [if_neg h]; rw [decide_eq_false h] at hb; exact ⟨_, f51_p1 rfl hw l1 rfl rfl hb⟩

theorem one_ints : ∀ l : List Int, oneAll (ints l).flatten = true
  | [] => rfl
  | x :: l => by have := one_ints l; simp only [ints] at this; simp [ints, oneAll, AV.one, this]
theorem one_cards : ∀ l : List Card, oneAll (cards l).flatten = true
  | [] => rfl
  | x :: l => by have := one_cards l; simp only [cards] at this; simp [cards, Card.cells, oneAll, AV.one, this]

/-- A copy, in a new block. -/
theorem clone_spec {H : AH} {v : AV} {l : List Int} (hw : WF H) (hs : SlAt H v 1 (ints l)) (hb : l.length ≤ 100000000) :
    ∃ v' H', CallsTo P gl 49 [v] H v' H' ∧ WF H' ∧ Keep H.next H H' ∧ Acc P H' 22 v' (ints l) ∧ (∀ r o n kn c, v' = .slice r o n kn c → H.next ≤ r) := by
  have hs0 := hs
  rcases hs.2 with ⟨rfl, hl⟩ | ⟨r, o, kn, c, c0, ro, g, rfl, hg, hc⟩
  · rw [hl]
    exact ⟨_, _, f49n_p1, hw, Keep.refl, Acc.nil sty22, by intro r o n kn c h; cases h⟩
  · have w1 := hw.push (.cells [] false 0)
    have hx : SlAt (H.push (.cells [] false 0)) (.slice r o (ints l).length kn c) (infoOf 3).size (ints l) := by
      rw [sz3]; exact hs0.keep hw (Keep.push hw _ (Nat.le_refl _))
    have hacc : Acc P (H.push (.cells [] false 0)) 22 (.slice H.next 0 0 true 0) [] := Acc.empty sty22 (get_push_new hw _)
    have hlen := ints_length l
    obtain ⟨v', H', a1, a2, a3, a4, a5, a6⟩ := append_acc sty22 hacc w1 hx (one_ints l) (by rw [by3, hlen]; simp; omega) (by rw [hlen]; simp; omega)
    by_cases hl : ints l = []
    · obtain ⟨rfl, rfl⟩ := a6 hl
      obtain ⟨p1, p2, p3⟩ := f49_p1 rfl hw a1
      exact ⟨_, _, p1, p2, p3, by simpa using a2, by intro r o n kn c h; cases h; exact Nat.le_refl _⟩
    · have e := a5 hl
      subst e
      obtain ⟨p1, p2, p3⟩ := f49_p1 rfl hw a1
      exact ⟨_, _, p1, p2, p3, by simpa using a2, by intro r o n kn c h; cases h; exact Nat.le_succ _⟩

theorem cards_spec {H : AH} {v : AV} {l : List Card} (hw : WF H) (hs : SlAt H v 4 (cards l)) (hb : l.length ≤ 10000000) :
    ∃ r k H', CallsTo P gl 15 [v] H (.slice r 0 l.length k 0) H' ∧ WF H' ∧ Keep H.next H H' ∧ SlAt H' (.slice r 0 l.length k 0) 4 (cards l) ∧ H.next ≤ r := by
  have hlen := cards_length l
  obtain ⟨r, k, H', a1, a2, a3, a4, a5⟩ := append_copy sty23 hw (by rw [sz30]; exact hs) (one_cards l) (by rw [by30, hlen]; omega) (by omega)
  obtain ⟨p1, p2, p3⟩ := f15_p1 rfl hw a1
  have := a2.slAt sty23.und sty23.info
  rw [sz30] at this
  rw [hlen] at p1 this
  exact ⟨r, k, H', p1, p2, p3, this, a4⟩

end Go.Proofs.YtipgfljojhdhjaaGreatDoor

namespace Go.Proofs.YtipgfljojhdhjaaGreatDoor
open Ai
theorem f16_p1 {op0r : Nat} {op0o : Nat} {op0l : Nat} {op0k : Bool} {op0c : Nat} {ca1r : Nat} {ca1o : Nat} {ca1l : Nat} {ca1k : Bool} {ca1c : Nat} {H : AH} (h1 : 30 < (op0l : Int)) :
    CallsTo P gl 16 [.slice op0r op0o op0l op0k op0c, .slice ca1r ca1o ca1l ca1k ca1c] H (.tup [.nils, .int .i64 0, .int .i64 5]) H := by
  exact callP_calls (orc := [(5, .bit true)]) (fs := [_]) (by kernel_rfl) ⟨(gt_t h1), trivial⟩
theorem f16_p2 {op0r : Nat} {op0o : Nat} {op0l : Nat} {op0k : Bool} {op0c : Nat} {ca1r : Nat} {ca1o : Nat} {ca1l : Nat} {ca1k : Bool} {ca1c : Nat} {H : AH} (h1 : (op0l : Int) ≤ 30) (h2 : 400 < (ca1l : Int)) :
    CallsTo P gl 16 [.slice op0r op0o op0l op0k op0c, .slice ca1r ca1o ca1l ca1k ca1c] H (.tup [.nils, .int .i64 0, .int .i64 5]) H := by
  exact callP_calls (orc := [(5, .bit false), (9, .bit true)]) (fs := [_, _]) (by kernel_rfl) ⟨(gt_t h2), (gt_f h1), trivial⟩
theorem f16_p3 {op0r : Nat} {op0o : Nat} {op0l : Nat} {op0k : Bool} {op0c : Nat} {ca1r : Nat} {ca1o : Nat} {ca1l : Nat} {ca1k : Bool} {ca1c : Nat} {H : AH} (h1 : (op0l : Int) ≤ 30) (h2 : (ca1l : Int) ≤ 400) (h3 : (op0l : Int) = 0) :
    CallsTo P gl 16 [.slice op0r op0o op0l op0k op0c, .slice ca1r ca1o ca1l ca1k ca1c] H (.tup [.nils, .int .i64 0, .int .i64 2]) H := by
  exact callP_calls (orc := [(5, .bit false), (9, .bit false), (13, .bit true)]) (fs := [_, _, _]) (by kernel_rfl) ⟨(ieq_t h3), (gt_f h2), (gt_f h1), trivial⟩
theorem f16_p4 {op0r : Nat} {op0o : Nat} {op0l : Nat} {op0k : Bool} {op0c : Nat} {ca1r : Nat} {ca1o : Nat} {ca1l : Nat} {ca1k : Bool} {ca1c : Nat} {H : AH} (h1 : (op0l : Int) ≤ 30) (h2 : (ca1l : Int) ≤ 400) (h3 : (op0l : Int) ≠ 0) {H16 : AH} (hc4 : CallsTo P gl 48 [.slice op0r op0o op0l op0k op0c] H (.bool true) H16) (hk5 : Keep H.next H H16) (w0 : WF H) (hw7 : WF H16) {v20 : AV} {H20 : AH} (hc8 : CallsTo P gl 49 [.slice op0r op0o op0l op0k op0c] H16 v20 H20) (hk9 : Keep H16.next H16 H20) (hw10 : WF H20) {H22 : AH} (hH11 : H20.push (.map [] 0) = H22) {H27 : AH} (hl12 : To P gl none 16 71 (.loop (loopB P 16 0)) [(0, .slice op0r op0o op0l op0k op0c), (4, v20), (7, .map H20.next), (29, .slice ca1r ca1o ca1l ca1k ca1c), (30, .int .i64 (ca1l : Int)), (31, .int .i64 0)] [] H22 (.exit 1) [(4, .nils)] [] H27) (hk13 : Keep H.next H22 H27) (hw14 : WF H27) :
    CallsTo P gl 16 [.slice op0r op0o op0l op0k op0c, .slice ca1r ca1o ca1l ca1k ca1c] H (.tup [.nils, .int .i64 0, .int .i64 0]) H27 ∧ WF H27 ∧ Keep H.next H H27 := by
  have kp0 : KeepX H.next [] H H := KeepX.refl
  have kp1 : KeepX H.next [] H H16 := KeepX.call (KeepX.refl (n := H.next) (xs := []) (H := H)) hk5
  have kp2 : KeepX H.next [] H H20 := KeepX.call kp1 hk9
  have q0 : WF H22 := by rw [← hH11]; exact WF.push hw10 _
  have q1 : H20.next ≤ H22.next := by rw [← hH11]; exact Nat.le_succ _
  have kp3 : KeepX H.next [] H H22 := by rw [← hH11]; exact KeepX.push kp2 hw10 _
  obtain ⟨J27, hl12⟩ := hl12.skolem
  have kp4 : KeepX H.next [] H H27 := KeepX.callH kp3 hk13
  exact ⟨callP_calls (orc := [(5, .bit false), (9, .bit false), (13, .bit false), (16, .call (.bool true) H16), (20, .call v20 H20), (22, .mem H22), (27, .to false [0, 4, 7, 29, 30, 31] (.exit 1) [(4, .nils)] J27 [] H27)]) (fs := [_, _, _, _, _, _, _]) (by kernel_rfl) ⟨hl12, hH11, hc8, hc4, (ieq_f h3), (gt_f h2), (gt_f h1), trivial⟩, hw14, kp4.keep⟩
theorem f16_p5 {op0r : Nat} {op0o : Nat} {op0l : Nat} {op0k : Bool} {op0c : Nat} {ca1r : Nat} {ca1o : Nat} {ca1l : Nat} {ca1k : Bool} {ca1c : Nat} {H : AH} (h1 : (op0l : Int) ≤ 30) (h2 : (ca1l : Int) ≤ 400) (h3 : (op0l : Int) ≠ 0) {H16 : AH} (hc4 : CallsTo P gl 48 [.slice op0r op0o op0l op0k op0c] H (.bool true) H16) (hk5 : Keep H.next H H16) (w0 : WF H) (hw7 : WF H16) {v20 : AV} {H20 : AH} (hc8 : CallsTo P gl 49 [.slice op0r op0o op0l op0k op0c] H16 v20 H20) (hk9 : Keep H16.next H16 H20) (hw10 : WF H20) {H22 : AH} (hH11 : H20.push (.map [] 0) = H22) {ow4L0r : Nat} {ow4L0o : Nat} {ow4L0l : Nat} {ow4L0k : Bool} {ow4L0c : Nat} {H27 : AH} (hl12 : To P gl none 16 71 (.loop (loopB P 16 0)) [(0, .slice op0r op0o op0l op0k op0c), (4, v20), (7, .map H20.next), (29, .slice ca1r ca1o ca1l ca1k ca1c), (30, .int .i64 (ca1l : Int)), (31, .int .i64 0)] [] H22 (.exit 1) [(4, .slice ow4L0r ow4L0o ow4L0l ow4L0k ow4L0c)] [] H27) (hk13 : Keep H.next H22 H27) (hw14 : WF H27) :
    CallsTo P gl 16 [.slice op0r op0o op0l op0k op0c, .slice ca1r ca1o ca1l ca1k ca1c] H (.tup [.slice ow4L0r ow4L0o ow4L0l ow4L0k ow4L0c, .int .i64 0, .int .i64 0]) H27 ∧ WF H27 ∧ Keep H.next H H27 := by
  have kp0 : KeepX H.next [] H H := KeepX.refl
  have kp1 : KeepX H.next [] H H16 := KeepX.call (KeepX.refl (n := H.next) (xs := []) (H := H)) hk5
  have kp2 : KeepX H.next [] H H20 := KeepX.call kp1 hk9
  have q0 : WF H22 := by rw [← hH11]; exact WF.push hw10 _
  have q1 : H20.next ≤ H22.next := by rw [← hH11]; exact Nat.le_succ _
  have kp3 : KeepX H.next [] H H22 := by rw [← hH11]; exact KeepX.push kp2 hw10 _
  obtain ⟨J27, hl12⟩ := hl12.skolem
  have kp4 : KeepX H.next [] H H27 := KeepX.callH kp3 hk13
  exact ⟨callP_calls (orc := [(5, .bit false), (9, .bit false), (13, .bit false), (16, .call (.bool true) H16), (20, .call v20 H20), (22, .mem H22), (27, .to false [0, 4, 7, 29, 30, 31] (.exit 1) [(4, .slice ow4L0r ow4L0o ow4L0l ow4L0k ow4L0c)] J27 [] H27)]) (fs := [_, _, _, _, _, _, _]) (by kernel_rfl) ⟨hl12, hH11, hc8, hc4, (ieq_f h3), (gt_f h2), (gt_f h1), trivial⟩, hw14, kp4.keep⟩
theorem f16_p6 {op0r : Nat} {op0o : Nat} {op0l : Nat} {op0k : Bool} {op0c : Nat} {ca1r : Nat} {ca1o : Nat} {ca1l : Nat} {ca1k : Bool} {ca1c : Nat} {H : AH} (h1 : (op0l : Int) ≤ 30) (h2 : (ca1l : Int) ≤ 400) (h3 : (op0l : Int) ≠ 0) {H16 : AH} (hc4 : CallsTo P gl 48 [.slice op0r op0o op0l op0k op0c] H (.bool true) H16) (hk5 : Keep H.next H H16) (w0 : WF H) (hw7 : WF H16) {v20 : AV} {H20 : AH} (hc8 : CallsTo P gl 49 [.slice op0r op0o op0l op0k op0c] H16 v20 H20) (hk9 : Keep H16.next H16 H20) (hw10 : WF H20) {H22 : AH} (hH11 : H20.push (.map [] 0) = H22) {at5L0 : Int} {e6L0 : Int} {H27 : AH} (hl12 : To P gl none 16 71 (.loop (loopB P 16 0)) [(0, .slice op0r op0o op0l op0k op0c), (4, v20), (7, .map H20.next), (29, .slice ca1r ca1o ca1l ca1k ca1c), (30, .int .i64 (ca1l : Int)), (31, .int .i64 0)] [] H22 .ret [(4, .nils), (5, .int .i64 at5L0), (6, .int .i64 e6L0)] [] H27) (hk13 : Keep H.next H22 H27) (hw14 : WF H27) :
    CallsTo P gl 16 [.slice op0r op0o op0l op0k op0c, .slice ca1r ca1o ca1l ca1k ca1c] H (.tup [.nils, .int .i64 at5L0, .int .i64 e6L0]) H27 ∧ WF H27 ∧ Keep H.next H H27 := by
  have kp0 : KeepX H.next [] H H := KeepX.refl
  have kp1 : KeepX H.next [] H H16 := KeepX.call (KeepX.refl (n := H.next) (xs := []) (H := H)) hk5
  have kp2 : KeepX H.next [] H H20 := KeepX.call kp1 hk9
  have q0 : WF H22 := by rw [← hH11]; exact WF.push hw10 _
  have q1 : H20.next ≤ H22.next := by rw [← hH11]; exact Nat.le_succ _
  have kp3 : KeepX H.next [] H H22 := by rw [← hH11]; exact KeepX.push kp2 hw10 _
  obtain ⟨J27, hl12⟩ := hl12.skolem
  have kp4 : KeepX H.next [] H H27 := KeepX.callH kp3 hk13
  exact ⟨callP_calls (orc := [(5, .bit false), (9, .bit false), (13, .bit false), (16, .call (.bool true) H16), (20, .call v20 H20), (22, .mem H22), (27, .to false [0, 4, 7, 29, 30, 31] .ret [(4, .nils), (5, .int .i64 at5L0), (6, .int .i64 e6L0)] J27 [] H27)]) (fs := [_, _, _, _, _, _, _]) (by kernel_rfl) ⟨hl12, hH11, hc8, hc4, (ieq_f h3), (gt_f h2), (gt_f h1), trivial⟩, hw14, kp4.keep⟩
theorem f16_p7 {op0r : Nat} {op0o : Nat} {op0l : Nat} {op0k : Bool} {op0c : Nat} {ca1r : Nat} {ca1o : Nat} {ca1l : Nat} {ca1k : Bool} {ca1c : Nat} {H : AH} (h1 : (op0l : Int) ≤ 30) (h2 : (ca1l : Int) ≤ 400) (h3 : (op0l : Int) ≠ 0) {H16 : AH} (hc4 : CallsTo P gl 48 [.slice op0r op0o op0l op0k op0c] H (.bool true) H16) (hk5 : Keep H.next H H16) (w0 : WF H) (hw7 : WF H16) {v20 : AV} {H20 : AH} (hc8 : CallsTo P gl 49 [.slice op0r op0o op0l op0k op0c] H16 v20 H20) (hk9 : Keep H16.next H16 H20) (hw10 : WF H20) {H22 : AH} (hH11 : H20.push (.map [] 0) = H22) {ow4L0r : Nat} {ow4L0o : Nat} {ow4L0l : Nat} {ow4L0k : Bool} {ow4L0c : Nat} {at5L0 : Int} {e6L0 : Int} {H27 : AH} (hl12 : To P gl none 16 71 (.loop (loopB P 16 0)) [(0, .slice op0r op0o op0l op0k op0c), (4, v20), (7, .map H20.next), (29, .slice ca1r ca1o ca1l ca1k ca1c), (30, .int .i64 (ca1l : Int)), (31, .int .i64 0)] [] H22 .ret [(4, .slice ow4L0r ow4L0o ow4L0l ow4L0k ow4L0c), (5, .int .i64 at5L0), (6, .int .i64 e6L0)] [] H27) (hk13 : Keep H.next H22 H27) (hw14 : WF H27) :
    CallsTo P gl 16 [.slice op0r op0o op0l op0k op0c, .slice ca1r ca1o ca1l ca1k ca1c] H (.tup [.slice ow4L0r ow4L0o ow4L0l ow4L0k ow4L0c, .int .i64 at5L0, .int .i64 e6L0]) H27 ∧ WF H27 ∧ Keep H.next H H27 := by
  have kp0 : KeepX H.next [] H H := KeepX.refl
  have kp1 : KeepX H.next [] H H16 := KeepX.call (KeepX.refl (n := H.next) (xs := []) (H := H)) hk5
  have kp2 : KeepX H.next [] H H20 := KeepX.call kp1 hk9
  have q0 : WF H22 := by rw [← hH11]; exact WF.push hw10 _
  have q1 : H20.next ≤ H22.next := by rw [← hH11]; exact Nat.le_succ _
  have kp3 : KeepX H.next [] H H22 := by rw [← hH11]; exact KeepX.push kp2 hw10 _
  obtain ⟨J27, hl12⟩ := hl12.skolem
  have kp4 : KeepX H.next [] H H27 := KeepX.callH kp3 hk13
  exact ⟨callP_calls (orc := [(5, .bit false), (9, .bit false), (13, .bit false), (16, .call (.bool true) H16), (20, .call v20 H20), (22, .mem H22), (27, .to false [0, 4, 7, 29, 30, 31] .ret [(4, .slice ow4L0r ow4L0o ow4L0l ow4L0k ow4L0c), (5, .int .i64 at5L0), (6, .int .i64 e6L0)] J27 [] H27)]) (fs := [_, _, _, _, _, _, _]) (by kernel_rfl) ⟨hl12, hH11, hc8, hc4, (ieq_f h3), (gt_f h2), (gt_f h1), trivial⟩, hw14, kp4.keep⟩
theorem f16_p8 {op0r : Nat} {op0o : Nat} {op0l : Nat} {op0k : Bool} {op0c : Nat} {ca1r : Nat} {ca1o : Nat} {ca1l : Nat} {ca1k : Bool} {ca1c : Nat} {H : AH} (h1 : (op0l : Int) ≤ 30) (h2 : (ca1l : Int) ≤ 400) (h3 : (op0l : Int) ≠ 0) {H16 : AH} (hc4 : CallsTo P gl 48 [.slice op0r op0o op0l op0k op0c] H (.bool false) H16) (hk5 : Keep H.next H H16) (w0 : WF H) (hw7 : WF H16) :
    CallsTo P gl 16 [.slice op0r op0o op0l op0k op0c, .slice ca1r ca1o ca1l ca1k ca1c] H (.tup [.nils, .int .i64 0, .int .i64 2]) H16 ∧ WF H16 ∧ Keep H.next H H16 := by
  have kp0 : KeepX H.next [] H H := KeepX.refl
  have kp1 : KeepX H.next [] H H16 := KeepX.call (KeepX.refl (n := H.next) (xs := []) (H := H)) hk5
  exact ⟨callP_calls (orc := [(5, .bit false), (9, .bit false), (13, .bit false), (16, .call (.bool false) H16)]) (fs := [_, _, _, _]) (by kernel_rfl) ⟨hc4, (ieq_f h3), (gt_f h2), (gt_f h1), trivial⟩, hw7, kp1.keep⟩
theorem f16_b0_p1 {op0r : Nat} {op0o : Nat} {op0l : Nat} {op0k : Bool} {op0c : Nat} {ow4r : Nat} {ow4o : Nat} {ow4l : Nat} {ow4k : Bool} {ow4c : Nat} {b7r : Nat} {t29r : Nat} {t29o : Nat} {t29l : Nat} {t29k : Bool} {t29c : Nat} {t30 : Nat} {t31 : Nat} {H : AH} (h1 : ow4r ≠ b7r) (h2 : (t31 : Int) < (t30 : Int)) {p2 : Nat} (h3 : 0 ≤ (t31 : Int)) (h4 : (t31 : Int) < (t29l : Int)) (h5 : t29o + (t31 : Int).toNat * 4 = p2) {c3 : List AV} {ro3 : Bool} {g3 : Nat} (hg6 : H.get t29r = some (.cells c3 ro3 g3)) {x3Number : Int} {x3Day : Int} {x3Parish : Int} {x3Amount : Int} (h7 : cut c3 p2 4 = some [.int .i64 x3Number, .int .i64 x3Day, .int .i64 x3Parish, .int .i64 x3Amount]) {H4 : AH} (hH8 : H.push (.cells [.int .i64 0, .int .i64 0, .int .i64 0, .int .i64 0] false 1966080) = H4) (w0 : WF H) {H6 : AH} (hH10 : H4.set H.next (.cells [.int .i64 x3Number, .int .i64 x3Day, .int .i64 x3Parish, .int .i64 x3Amount] false 1966080) = H6) {H8 : AH} (hc11 : CallsTo P gl 50 [.agg [.int .i64 x3Number, .int .i64 x3Day, .int .i64 x3Parish, .int .i64 x3Amount]] H6 (.bool true) H8) (hk12 : Keep H6.next H6 H8) (hw13 : WF H8) (h14 : (op0l : Int) ≤ x3Parish) :
    To P gl none 16 71 (loopB P 16 0) [(0, .slice op0r op0o op0l op0k op0c), (4, .slice ow4r ow4o ow4l ow4k ow4c), (7, .map b7r), (29, .slice t29r t29o t29l t29k t29c), (30, .int .i64 (t30 : Int)), (31, .int .i64 (t31 : Int))] [] H .ret [(4, .nils), (5, .int .i64 (t31 : Int)), (6, .int .i64 2)] [] H8 ∧ WF H8 ∧ Keep H.next H H8 := by
  have kp0 : KeepX H.next [] H H := KeepX.refl
  have q0 : WF H4 := by rw [← hH8]; exact WF.push w0 _
  have q1 : H.next ≤ H4.next := by rw [← hH8]; exact Nat.le_succ _
  have kp1 : KeepX H.next [] H H4 := by rw [← hH8]; exact KeepX.push (KeepX.refl (n := H.next) (xs := []) (H := H)) w0 _
  have q2 : H4.get H.next = some (.cells [.int .i64 0, .int .i64 0, .int .i64 0, .int .i64 0] false 1966080) := by rw [← hH8]; exact get_push_new w0 _
  have q3 : H.next < H4.next := by rw [← hH8]; exact Nat.lt_succ_self _
  have q4 : WF H6 := by rw [← hH10]; exact WF.set q0 _ _
  have q5 : H4.next ≤ H6.next := by rw [← hH10]; exact Nat.le_refl _
  have kp2 : KeepX H.next [] H H6 := by rw [← hH10]; exact KeepX.set kp1 _ kp0.next
  have q6 : H6.get H.next = some (.cells [.int .i64 x3Number, .int .i64 x3Day, .int .i64 x3Parish, .int .i64 x3Amount] false 1966080) := by rw [← hH10]; exact get_set_eq q0 q3 _
  have q7 : H.next < H6.next := by rw [← hH10]; exact q3
  have kp3 : KeepX H.next [] H H8 := KeepX.call kp2 hk12
  have q8 : H8.get H.next = some (.cells [.int .i64 x3Number, .int .i64 x3Day, .int .i64 x3Parish, .int .i64 x3Amount] false 1966080) := hk12.some q7 q6
  have q9 : H.next < H8.next := Nat.lt_of_lt_of_le q7 hk12.next
  exact ⟨execP_to rfl (orc := [(0, .bit true), (2, .at p2), (3, .load c3 ro3 g3 (.agg [.int .i64 x3Number, .int .i64 x3Day, .int .i64 x3Parish, .int .i64 x3Amount])), (4, .mem H4), (6, .store [.int .i64 0, .int .i64 0, .int .i64 0, .int .i64 0] 1966080 [.int .i64 x3Number, .int .i64 x3Day, .int .i64 x3Parish, .int .i64 x3Amount] H6), (7, .load [.int .i64 x3Number, .int .i64 x3Day, .int .i64 x3Parish, .int .i64 x3Amount] false 1966080 (.agg [.int .i64 x3Number, .int .i64 x3Day, .int .i64 x3Parish, .int .i64 x3Amount])), (8, .call (.bool true) H8), (12, .load [.int .i64 x3Number, .int .i64 x3Day, .int .i64 x3Parish, .int .i64 x3Amount] false 1966080 (.int .i64 x3Parish)), (15, .bit true)]) (n := 21) (fs := [_, _, _, _, _, _, _, _, _, _, _, _, _, _, _, _, _]) (fun J => by kernel_rfl) ⟨(ge_t h14), q8, (rfl : ([.int .i64 x3Number, .int .i64 x3Day, .int .i64 x3Parish, .int .i64 x3Amount] : List AV)[2]? = some (.int .i64 x3Parish)), hc11, q6, (rfl : cut [.int .i64 x3Number, .int .i64 x3Day, .int .i64 x3Parish, .int .i64 x3Amount] 0 4 = some [.int .i64 x3Number, .int .i64 x3Day, .int .i64 x3Parish, .int .i64 x3Amount]), q2, (Nat.le_of_ble_eq_true rfl : 0 + 4 ≤ ([.int .i64 0, .int .i64 0, .int .i64 0, .int .i64 0] : List AV).length), (rfl : setL [.int .i64 0, .int .i64 0, .int .i64 0, .int .i64 0] 0 [.int .i64 x3Number, .int .i64 x3Day, .int .i64 x3Parish, .int .i64 x3Amount] = [.int .i64 x3Number, .int .i64 x3Day, .int .i64 x3Parish, .int .i64 x3Amount]), hH10, hH8, hg6, h7, h3, h4, h5, (lt_t h2), trivial⟩, hw13, kp3.keep⟩
theorem f16_b0_p2 {op0r : Nat} {op0o : Nat} {op0l : Nat} {op0k : Bool} {op0c : Nat} {ow4r : Nat} {ow4o : Nat} {ow4l : Nat} {ow4k : Bool} {ow4c : Nat} {b7r : Nat} {t29r : Nat} {t29o : Nat} {t29l : Nat} {t29k : Bool} {t29c : Nat} {t30 : Nat} {t31 : Nat} {H : AH} (h1 : ow4r ≠ b7r) (h2 : (t31 : Int) < (t30 : Int)) {p2 : Nat} (h3 : 0 ≤ (t31 : Int)) (h4 : (t31 : Int) < (t29l : Int)) (h5 : t29o + (t31 : Int).toNat * 4 = p2) {c3 : List AV} {ro3 : Bool} {g3 : Nat} (hg6 : H.get t29r = some (.cells c3 ro3 g3)) {x3Number : Int} {x3Day : Int} {x3Parish : Int} {x3Amount : Int} (h7 : cut c3 p2 4 = some [.int .i64 x3Number, .int .i64 x3Day, .int .i64 x3Parish, .int .i64 x3Amount]) {H4 : AH} (hH8 : H.push (.cells [.int .i64 0, .int .i64 0, .int .i64 0, .int .i64 0] false 1966080) = H4) (w0 : WF H) {H6 : AH} (hH10 : H4.set H.next (.cells [.int .i64 x3Number, .int .i64 x3Day, .int .i64 x3Parish, .int .i64 x3Amount] false 1966080) = H6) {H8 : AH} (hc11 : CallsTo P gl 50 [.agg [.int .i64 x3Number, .int .i64 x3Day, .int .i64 x3Parish, .int .i64 x3Amount]] H6 (.bool true) H8) (hk12 : Keep H6.next H6 H8) (hw13 : WF H8) (h14 : x3Parish < (op0l : Int)) {v19_1 : Int} {H19 : AH} (hc15 : CallsTo P gl 51 [.map b7r, .agg [.int .i64 x3Number, .int .i64 x3Day, .int .i64 x3Parish, .int .i64 x3Amount]] H8 (.tup [.bool true, .int .i64 v19_1]) H19) (hk16 : KeepX H8.next [b7r] H8 H19) (hw17 : WF H19) (h18 : v19_1 ≠ 0) :
    To P gl none 16 71 (loopB P 16 0) [(0, .slice op0r op0o op0l op0k op0c), (4, .slice ow4r ow4o ow4l ow4k ow4c), (7, .map b7r), (29, .slice t29r t29o t29l t29k t29c), (30, .int .i64 (t30 : Int)), (31, .int .i64 (t31 : Int))] [] H .ret [(4, .nils), (5, .int .i64 (t31 : Int)), (6, .int .i64 v19_1)] [] H19 ∧ WF H19 ∧ KeepX H.next [b7r] H H19 := by
  have kp0 : KeepX H.next [] H H := KeepX.refl
  have q0 : WF H4 := by rw [← hH8]; exact WF.push w0 _
  have q1 : H.next ≤ H4.next := by rw [← hH8]; exact Nat.le_succ _
  have kp1 : KeepX H.next [] H H4 := by rw [← hH8]; exact KeepX.push (KeepX.refl (n := H.next) (xs := []) (H := H)) w0 _
  have q2 : H4.get H.next = some (.cells [.int .i64 0, .int .i64 0, .int .i64 0, .int .i64 0] false 1966080) := by rw [← hH8]; exact get_push_new w0 _
  have q3 : H.next < H4.next := by rw [← hH8]; exact Nat.lt_succ_self _
  have q4 : WF H6 := by rw [← hH10]; exact WF.set q0 _ _
  have q5 : H4.next ≤ H6.next := by rw [← hH10]; exact Nat.le_refl _
  have kp2 : KeepX H.next [] H H6 := by rw [← hH10]; exact KeepX.set kp1 _ kp0.next
  have q6 : H6.get H.next = some (.cells [.int .i64 x3Number, .int .i64 x3Day, .int .i64 x3Parish, .int .i64 x3Amount] false 1966080) := by rw [← hH10]; exact get_set_eq q0 q3 _
  have q7 : H.next < H6.next := by rw [← hH10]; exact q3
  have kp3 : KeepX H.next [] H H8 := KeepX.call kp2 hk12
  have q8 : H8.get H.next = some (.cells [.int .i64 x3Number, .int .i64 x3Day, .int .i64 x3Parish, .int .i64 x3Amount] false 1966080) := hk12.some q7 q6
  have q9 : H.next < H8.next := Nat.lt_of_lt_of_le q7 hk12.next
  have kp4 : KeepX H.next [b7r] H H19 := KeepX.cally kp3 hk16
  exact ⟨execP_to rfl (orc := [(0, .bit true), (2, .at p2), (3, .load c3 ro3 g3 (.agg [.int .i64 x3Number, .int .i64 x3Day, .int .i64 x3Parish, .int .i64 x3Amount])), (4, .mem H4), (6, .store [.int .i64 0, .int .i64 0, .int .i64 0, .int .i64 0] 1966080 [.int .i64 x3Number, .int .i64 x3Day, .int .i64 x3Parish, .int .i64 x3Amount] H6), (7, .load [.int .i64 x3Number, .int .i64 x3Day, .int .i64 x3Parish, .int .i64 x3Amount] false 1966080 (.agg [.int .i64 x3Number, .int .i64 x3Day, .int .i64 x3Parish, .int .i64 x3Amount])), (8, .call (.bool true) H8), (12, .load [.int .i64 x3Number, .int .i64 x3Day, .int .i64 x3Parish, .int .i64 x3Amount] false 1966080 (.int .i64 x3Parish)), (15, .bit false), (18, .load [.int .i64 x3Number, .int .i64 x3Day, .int .i64 x3Parish, .int .i64 x3Amount] false 1966080 (.agg [.int .i64 x3Number, .int .i64 x3Day, .int .i64 x3Parish, .int .i64 x3Amount])), (19, .call (.tup [.bool true, .int .i64 v19_1]) H19), (26, .bit true)]) (n := 33) (fs := [_, _, _, _, _, _, _, _, _, _, _, _, _, _, _, _, _, _, _, _, _]) (fun J => by kernel_rfl) ⟨(ine_t h18), hc15, q8, (rfl : cut [.int .i64 x3Number, .int .i64 x3Day, .int .i64 x3Parish, .int .i64 x3Amount] 0 4 = some [.int .i64 x3Number, .int .i64 x3Day, .int .i64 x3Parish, .int .i64 x3Amount]), (ge_f h14), q8, (rfl : ([.int .i64 x3Number, .int .i64 x3Day, .int .i64 x3Parish, .int .i64 x3Amount] : List AV)[2]? = some (.int .i64 x3Parish)), hc11, q6, (rfl : cut [.int .i64 x3Number, .int .i64 x3Day, .int .i64 x3Parish, .int .i64 x3Amount] 0 4 = some [.int .i64 x3Number, .int .i64 x3Day, .int .i64 x3Parish, .int .i64 x3Amount]), q2, (Nat.le_of_ble_eq_true rfl : 0 + 4 ≤ ([.int .i64 0, .int .i64 0, .int .i64 0, .int .i64 0] : List AV).length), (rfl : setL [.int .i64 0, .int .i64 0, .int .i64 0, .int .i64 0] 0 [.int .i64 x3Number, .int .i64 x3Day, .int .i64 x3Parish, .int .i64 x3Amount] = [.int .i64 x3Number, .int .i64 x3Day, .int .i64 x3Parish, .int .i64 x3Amount]), hH10, hH8, hg6, h7, h3, h4, h5, (lt_t h2), trivial⟩, hw17, kp4⟩
theorem f16_b0_p3 {op0r : Nat} {op0o : Nat} {op0l : Nat} {op0k : Bool} {op0c : Nat} {ow4r : Nat} {ow4o : Nat} {ow4l : Nat} {ow4k : Bool} {ow4c : Nat} {b7r : Nat} {t29r : Nat} {t29o : Nat} {t29l : Nat} {t29k : Bool} {t29c : Nat} {t30 : Nat} {t31 : Nat} {H : AH} (h1 : ow4r ≠ b7r) (h2 : (t31 : Int) < (t30 : Int)) {p2 : Nat} (h3 : 0 ≤ (t31 : Int)) (h4 : (t31 : Int) < (t29l : Int)) (h5 : t29o + (t31 : Int).toNat * 4 = p2) {c3 : List AV} {ro3 : Bool} {g3 : Nat} (hg6 : H.get t29r = some (.cells c3 ro3 g3)) {x3Number : Int} {x3Day : Int} {x3Parish : Int} {x3Amount : Int} (h7 : cut c3 p2 4 = some [.int .i64 x3Number, .int .i64 x3Day, .int .i64 x3Parish, .int .i64 x3Amount]) {H4 : AH} (hH8 : H.push (.cells [.int .i64 0, .int .i64 0, .int .i64 0, .int .i64 0] false 1966080) = H4) (w0 : WF H) {H6 : AH} (hH10 : H4.set H.next (.cells [.int .i64 x3Number, .int .i64 x3Day, .int .i64 x3Parish, .int .i64 x3Amount] false 1966080) = H6) {H8 : AH} (hc11 : CallsTo P gl 50 [.agg [.int .i64 x3Number, .int .i64 x3Day, .int .i64 x3Parish, .int .i64 x3Amount]] H6 (.bool true) H8) (hk12 : Keep H6.next H6 H8) (hw13 : WF H8) (h14 : x3Parish < (op0l : Int)) {v19_1 : Int} {H19 : AH} (hc15 : CallsTo P gl 51 [.map b7r, .agg [.int .i64 x3Number, .int .i64 x3Day, .int .i64 x3Parish, .int .i64 x3Amount]] H8 (.tup [.bool true, .int .i64 v19_1]) H19) (hk16 : KeepX H8.next [b7r] H8 H19) (hw17 : WF H19) (h18 : v19_1 = 0) (hb19 : b7r < H.next) {p33 : Nat} (h20 : 0 ≤ x3Parish) (h21 : x3Parish < (ow4l : Int)) (h22 : ow4o + x3Parish.toNat * 1 = p33) {c34 : List AV} {ro34 : Bool} {g34 : Nat} (hg23 : H.get ow4r = some (.cells c34 ro34 g34)) {x34 : Int} (h24 : (c34 : List AV)[p33]? = some (.int .i64 x34)) {z37 : Int} (h25 : IntKind.wrap .i64 (x34 + x3Amount) = z37) {p38 : Nat} (h26 : ow4o + x3Parish.toNat * 1 = p38) {H39 : AH} {d39 : List AV} (h27 : ro34 = false) (h28 : p38 + 1 ≤ c34.length) (h29 : setL c34 p38 [.int .i64 z37] = d39) (hH30 : H19.set ow4r (.cells d39 false g34) = H39) {z40 : Int} (h31 : IntKind.wrap .i64 ((t31 : Int) + 1) = z40) :
    To P gl none 16 71 (loopB P 16 0) [(0, .slice op0r op0o op0l op0k op0c), (4, .slice ow4r ow4o ow4l ow4k ow4c), (7, .map b7r), (29, .slice t29r t29o t29l t29k t29c), (30, .int .i64 (t30 : Int)), (31, .int .i64 (t31 : Int))] [] H .normal [(0, .slice op0r op0o op0l op0k op0c), (4, .slice ow4r ow4o ow4l ow4k ow4c), (7, .map b7r), (29, .slice t29r t29o t29l t29k t29c), (30, .int .i64 (t30 : Int)), (31, .int .i64 z40)] [] H39 ∧ WF H39 ∧ KeepX H.next [ow4r, b7r] H H39 := by
  have kp0 : KeepX H.next [] H H := KeepX.refl
  have q0 : WF H4 := by rw [← hH8]; exact WF.push w0 _
  have q1 : H.next ≤ H4.next := by rw [← hH8]; exact Nat.le_succ _
  have kp1 : KeepX H.next [] H H4 := by rw [← hH8]; exact KeepX.push (KeepX.refl (n := H.next) (xs := []) (H := H)) w0 _
  have q2 : H4.get H.next = some (.cells [.int .i64 0, .int .i64 0, .int .i64 0, .int .i64 0] false 1966080) := by rw [← hH8]; exact get_push_new w0 _
  have q3 : H.next < H4.next := by rw [← hH8]; exact Nat.lt_succ_self _
  have q4 : WF H6 := by rw [← hH10]; exact WF.set q0 _ _
  have q5 : H4.next ≤ H6.next := by rw [← hH10]; exact Nat.le_refl _
  have kp2 : KeepX H.next [] H H6 := by rw [← hH10]; exact KeepX.set kp1 _ kp0.next
  have q6 : H6.get H.next = some (.cells [.int .i64 x3Number, .int .i64 x3Day, .int .i64 x3Parish, .int .i64 x3Amount] false 1966080) := by rw [← hH10]; exact get_set_eq q0 q3 _
  have q7 : H.next < H6.next := by rw [← hH10]; exact q3
  have kp3 : KeepX H.next [] H H8 := KeepX.call kp2 hk12
  have q8 : H8.get H.next = some (.cells [.int .i64 x3Number, .int .i64 x3Day, .int .i64 x3Parish, .int .i64 x3Amount] false 1966080) := hk12.some q7 q6
  have q9 : H.next < H8.next := Nat.lt_of_lt_of_le q7 hk12.next
  have kp4 : KeepX H.next [b7r] H H19 := KeepX.cally kp3 hk16
  have q10 : H19.get H.next = some (.cells [.int .i64 x3Number, .int .i64 x3Day, .int .i64 x3Parish, .int .i64 x3Amount] false 1966080) := hk16.some1 q9 (Nat.ne_of_gt hb19) q8
  have q11 : H.next < H19.next := Nat.lt_of_lt_of_le q9 hk16.next
  have q12 : H4.get ow4r = some (.cells c34 ro34 g34) := by rw [← hH8]; exact (get_push_lt w0 _ (w0.lt hg23)).trans hg23
  have q13 : ow4r < H4.next := Nat.lt_of_lt_of_le (w0.lt hg23) q1
  have q14 : H6.get ow4r = some (.cells c34 ro34 g34) := by rw [← hH10]; exact (get_set_ne (Nat.ne_of_lt (w0.lt hg23))).trans q12
  have q15 : ow4r < H6.next := Nat.lt_of_lt_of_le q13 q5
  have q16 : H8.get ow4r = some (.cells c34 ro34 g34) := hk12.some q15 q14
  have q17 : ow4r < H8.next := Nat.lt_of_lt_of_le q15 hk12.next
  have q18 : H19.get ow4r = some (.cells c34 ro34 g34) := hk16.some1 q17 h1 q16
  have q19 : ow4r < H19.next := Nat.lt_of_lt_of_le q17 hk16.next
  have q20 : WF H39 := by rw [← hH30]; exact WF.set hw17 _ _
  have q21 : H19.next ≤ H39.next := by rw [← hH30]; exact Nat.le_refl _
  have kp5 : KeepX H.next [ow4r, b7r] H H39 := by rw [← hH30]; exact KeepX.setx kp4 _ _
  have q22 : H39.get ow4r = some (.cells d39 false g34) := by rw [← hH30]; exact get_set_eq hw17 q19 _
  have q23 : ow4r < H39.next := by rw [← hH30]; exact q19
  have q24 : ow4r < H19.next := (Nat.lt_of_lt_of_le (Nat.lt_of_lt_of_le (Nat.lt_of_lt_of_le (Nat.lt_of_lt_of_le (w0.lt hg23) q1) q5) hk12.next) hk16.next)
  exact ⟨execP_to rfl (orc := [(0, .bit true), (2, .at p2), (3, .load c3 ro3 g3 (.agg [.int .i64 x3Number, .int .i64 x3Day, .int .i64 x3Parish, .int .i64 x3Amount])), (4, .mem H4), (6, .store [.int .i64 0, .int .i64 0, .int .i64 0, .int .i64 0] 1966080 [.int .i64 x3Number, .int .i64 x3Day, .int .i64 x3Parish, .int .i64 x3Amount] H6), (7, .load [.int .i64 x3Number, .int .i64 x3Day, .int .i64 x3Parish, .int .i64 x3Amount] false 1966080 (.agg [.int .i64 x3Number, .int .i64 x3Day, .int .i64 x3Parish, .int .i64 x3Amount])), (8, .call (.bool true) H8), (12, .load [.int .i64 x3Number, .int .i64 x3Day, .int .i64 x3Parish, .int .i64 x3Amount] false 1966080 (.int .i64 x3Parish)), (15, .bit false), (18, .load [.int .i64 x3Number, .int .i64 x3Day, .int .i64 x3Parish, .int .i64 x3Amount] false 1966080 (.agg [.int .i64 x3Number, .int .i64 x3Day, .int .i64 x3Parish, .int .i64 x3Amount])), (19, .call (.tup [.bool true, .int .i64 v19_1]) H19), (26, .bit false), (32, .load [.int .i64 x3Number, .int .i64 x3Day, .int .i64 x3Parish, .int .i64 x3Amount] false 1966080 (.int .i64 x3Parish)), (33, .at p33), (34, .load c34 ro34 g34 (.int .i64 x34)), (36, .load [.int .i64 x3Number, .int .i64 x3Day, .int .i64 x3Parish, .int .i64 x3Amount] false 1966080 (.int .i64 x3Amount)), (37, .int z37), (38, .at p38), (39, .store c34 g34 d39 H39), (40, .int z40)]) (n := 42) (fs := [_, _, _, _, _, _, _, _, _, _, _, _, _, _, _, _, _, _, _, _, _, _, _, _, _, _, _, _, _, _, _, _, _, _, _, _, _, _, _, _, _]) (fun J => by kernel_rfl) ⟨h31, q24, q21, (h27 ▸ q18 : H19.get ow4r = some (.cells c34 false g34)), h28, h29, hH30, h20, h21, h26, h25, q10, (rfl : ([.int .i64 x3Number, .int .i64 x3Day, .int .i64 x3Parish, .int .i64 x3Amount] : List AV)[3]? = some (.int .i64 x3Amount)), q18, h24, h20, h21, h22, q10, (rfl : ([.int .i64 x3Number, .int .i64 x3Day, .int .i64 x3Parish, .int .i64 x3Amount] : List AV)[2]? = some (.int .i64 x3Parish)), (ine_f h18), hc15, q8, (rfl : cut [.int .i64 x3Number, .int .i64 x3Day, .int .i64 x3Parish, .int .i64 x3Amount] 0 4 = some [.int .i64 x3Number, .int .i64 x3Day, .int .i64 x3Parish, .int .i64 x3Amount]), (ge_f h14), q8, (rfl : ([.int .i64 x3Number, .int .i64 x3Day, .int .i64 x3Parish, .int .i64 x3Amount] : List AV)[2]? = some (.int .i64 x3Parish)), hc11, q6, (rfl : cut [.int .i64 x3Number, .int .i64 x3Day, .int .i64 x3Parish, .int .i64 x3Amount] 0 4 = some [.int .i64 x3Number, .int .i64 x3Day, .int .i64 x3Parish, .int .i64 x3Amount]), q2, (Nat.le_of_ble_eq_true rfl : 0 + 4 ≤ ([.int .i64 0, .int .i64 0, .int .i64 0, .int .i64 0] : List AV).length), (rfl : setL [.int .i64 0, .int .i64 0, .int .i64 0, .int .i64 0] 0 [.int .i64 x3Number, .int .i64 x3Day, .int .i64 x3Parish, .int .i64 x3Amount] = [.int .i64 x3Number, .int .i64 x3Day, .int .i64 x3Parish, .int .i64 x3Amount]), hH10, hH8, hg6, h7, h3, h4, h5, (lt_t h2), trivial⟩, q20, kp5⟩
theorem f16_b0_p4 {op0r : Nat} {op0o : Nat} {op0l : Nat} {op0k : Bool} {op0c : Nat} {ow4r : Nat} {ow4o : Nat} {ow4l : Nat} {ow4k : Bool} {ow4c : Nat} {b7r : Nat} {t29r : Nat} {t29o : Nat} {t29l : Nat} {t29k : Bool} {t29c : Nat} {t30 : Nat} {t31 : Nat} {H : AH} (h1 : ow4r ≠ b7r) (h2 : (t31 : Int) < (t30 : Int)) {p2 : Nat} (h3 : 0 ≤ (t31 : Int)) (h4 : (t31 : Int) < (t29l : Int)) (h5 : t29o + (t31 : Int).toNat * 4 = p2) {c3 : List AV} {ro3 : Bool} {g3 : Nat} (hg6 : H.get t29r = some (.cells c3 ro3 g3)) {x3Number : Int} {x3Day : Int} {x3Parish : Int} {x3Amount : Int} (h7 : cut c3 p2 4 = some [.int .i64 x3Number, .int .i64 x3Day, .int .i64 x3Parish, .int .i64 x3Amount]) {H4 : AH} (hH8 : H.push (.cells [.int .i64 0, .int .i64 0, .int .i64 0, .int .i64 0] false 1966080) = H4) (w0 : WF H) {H6 : AH} (hH10 : H4.set H.next (.cells [.int .i64 x3Number, .int .i64 x3Day, .int .i64 x3Parish, .int .i64 x3Amount] false 1966080) = H6) {H8 : AH} (hc11 : CallsTo P gl 50 [.agg [.int .i64 x3Number, .int .i64 x3Day, .int .i64 x3Parish, .int .i64 x3Amount]] H6 (.bool true) H8) (hk12 : Keep H6.next H6 H8) (hw13 : WF H8) (h14 : x3Parish < (op0l : Int)) {v19_1 : Int} {H19 : AH} (hc15 : CallsTo P gl 51 [.map b7r, .agg [.int .i64 x3Number, .int .i64 x3Day, .int .i64 x3Parish, .int .i64 x3Amount]] H8 (.tup [.bool false, .int .i64 v19_1]) H19) (hk16 : KeepX H8.next [b7r] H8 H19) (hw17 : WF H19) (h18 : v19_1 ≠ 0) :
    To P gl none 16 71 (loopB P 16 0) [(0, .slice op0r op0o op0l op0k op0c), (4, .slice ow4r ow4o ow4l ow4k ow4c), (7, .map b7r), (29, .slice t29r t29o t29l t29k t29c), (30, .int .i64 (t30 : Int)), (31, .int .i64 (t31 : Int))] [] H .ret [(4, .nils), (5, .int .i64 (t31 : Int)), (6, .int .i64 v19_1)] [] H19 ∧ WF H19 ∧ KeepX H.next [b7r] H H19 := by
  have kp0 : KeepX H.next [] H H := KeepX.refl
  have q0 : WF H4 := by rw [← hH8]; exact WF.push w0 _
  have q1 : H.next ≤ H4.next := by rw [← hH8]; exact Nat.le_succ _
  have kp1 : KeepX H.next [] H H4 := by rw [← hH8]; exact KeepX.push (KeepX.refl (n := H.next) (xs := []) (H := H)) w0 _
  have q2 : H4.get H.next = some (.cells [.int .i64 0, .int .i64 0, .int .i64 0, .int .i64 0] false 1966080) := by rw [← hH8]; exact get_push_new w0 _
  have q3 : H.next < H4.next := by rw [← hH8]; exact Nat.lt_succ_self _
  have q4 : WF H6 := by rw [← hH10]; exact WF.set q0 _ _
  have q5 : H4.next ≤ H6.next := by rw [← hH10]; exact Nat.le_refl _
  have kp2 : KeepX H.next [] H H6 := by rw [← hH10]; exact KeepX.set kp1 _ kp0.next
  have q6 : H6.get H.next = some (.cells [.int .i64 x3Number, .int .i64 x3Day, .int .i64 x3Parish, .int .i64 x3Amount] false 1966080) := by rw [← hH10]; exact get_set_eq q0 q3 _
  have q7 : H.next < H6.next := by rw [← hH10]; exact q3
  have kp3 : KeepX H.next [] H H8 := KeepX.call kp2 hk12
  have q8 : H8.get H.next = some (.cells [.int .i64 x3Number, .int .i64 x3Day, .int .i64 x3Parish, .int .i64 x3Amount] false 1966080) := hk12.some q7 q6
  have q9 : H.next < H8.next := Nat.lt_of_lt_of_le q7 hk12.next
  have kp4 : KeepX H.next [b7r] H H19 := KeepX.cally kp3 hk16
  exact ⟨execP_to rfl (orc := [(0, .bit true), (2, .at p2), (3, .load c3 ro3 g3 (.agg [.int .i64 x3Number, .int .i64 x3Day, .int .i64 x3Parish, .int .i64 x3Amount])), (4, .mem H4), (6, .store [.int .i64 0, .int .i64 0, .int .i64 0, .int .i64 0] 1966080 [.int .i64 x3Number, .int .i64 x3Day, .int .i64 x3Parish, .int .i64 x3Amount] H6), (7, .load [.int .i64 x3Number, .int .i64 x3Day, .int .i64 x3Parish, .int .i64 x3Amount] false 1966080 (.agg [.int .i64 x3Number, .int .i64 x3Day, .int .i64 x3Parish, .int .i64 x3Amount])), (8, .call (.bool true) H8), (12, .load [.int .i64 x3Number, .int .i64 x3Day, .int .i64 x3Parish, .int .i64 x3Amount] false 1966080 (.int .i64 x3Parish)), (15, .bit false), (18, .load [.int .i64 x3Number, .int .i64 x3Day, .int .i64 x3Parish, .int .i64 x3Amount] false 1966080 (.agg [.int .i64 x3Number, .int .i64 x3Day, .int .i64 x3Parish, .int .i64 x3Amount])), (19, .call (.tup [.bool false, .int .i64 v19_1]) H19), (26, .bit true)]) (n := 33) (fs := [_, _, _, _, _, _, _, _, _, _, _, _, _, _, _, _, _, _, _, _, _]) (fun J => by kernel_rfl) ⟨(ine_t h18), hc15, q8, (rfl : cut [.int .i64 x3Number, .int .i64 x3Day, .int .i64 x3Parish, .int .i64 x3Amount] 0 4 = some [.int .i64 x3Number, .int .i64 x3Day, .int .i64 x3Parish, .int .i64 x3Amount]), (ge_f h14), q8, (rfl : ([.int .i64 x3Number, .int .i64 x3Day, .int .i64 x3Parish, .int .i64 x3Amount] : List AV)[2]? = some (.int .i64 x3Parish)), hc11, q6, (rfl : cut [.int .i64 x3Number, .int .i64 x3Day, .int .i64 x3Parish, .int .i64 x3Amount] 0 4 = some [.int .i64 x3Number, .int .i64 x3Day, .int .i64 x3Parish, .int .i64 x3Amount]), q2, (Nat.le_of_ble_eq_true rfl : 0 + 4 ≤ ([.int .i64 0, .int .i64 0, .int .i64 0, .int .i64 0] : List AV).length), (rfl : setL [.int .i64 0, .int .i64 0, .int .i64 0, .int .i64 0] 0 [.int .i64 x3Number, .int .i64 x3Day, .int .i64 x3Parish, .int .i64 x3Amount] = [.int .i64 x3Number, .int .i64 x3Day, .int .i64 x3Parish, .int .i64 x3Amount]), hH10, hH8, hg6, h7, h3, h4, h5, (lt_t h2), trivial⟩, hw17, kp4⟩
theorem f16_b0_p5 {op0r : Nat} {op0o : Nat} {op0l : Nat} {op0k : Bool} {op0c : Nat} {ow4r : Nat} {ow4o : Nat} {ow4l : Nat} {ow4k : Bool} {ow4c : Nat} {b7r : Nat} {t29r : Nat} {t29o : Nat} {t29l : Nat} {t29k : Bool} {t29c : Nat} {t30 : Nat} {t31 : Nat} {H : AH} (h1 : ow4r ≠ b7r) (h2 : (t31 : Int) < (t30 : Int)) {p2 : Nat} (h3 : 0 ≤ (t31 : Int)) (h4 : (t31 : Int) < (t29l : Int)) (h5 : t29o + (t31 : Int).toNat * 4 = p2) {c3 : List AV} {ro3 : Bool} {g3 : Nat} (hg6 : H.get t29r = some (.cells c3 ro3 g3)) {x3Number : Int} {x3Day : Int} {x3Parish : Int} {x3Amount : Int} (h7 : cut c3 p2 4 = some [.int .i64 x3Number, .int .i64 x3Day, .int .i64 x3Parish, .int .i64 x3Amount]) {H4 : AH} (hH8 : H.push (.cells [.int .i64 0, .int .i64 0, .int .i64 0, .int .i64 0] false 1966080) = H4) (w0 : WF H) {H6 : AH} (hH10 : H4.set H.next (.cells [.int .i64 x3Number, .int .i64 x3Day, .int .i64 x3Parish, .int .i64 x3Amount] false 1966080) = H6) {H8 : AH} (hc11 : CallsTo P gl 50 [.agg [.int .i64 x3Number, .int .i64 x3Day, .int .i64 x3Parish, .int .i64 x3Amount]] H6 (.bool true) H8) (hk12 : Keep H6.next H6 H8) (hw13 : WF H8) (h14 : x3Parish < (op0l : Int)) {v19_1 : Int} {H19 : AH} (hc15 : CallsTo P gl 51 [.map b7r, .agg [.int .i64 x3Number, .int .i64 x3Day, .int .i64 x3Parish, .int .i64 x3Amount]] H8 (.tup [.bool false, .int .i64 v19_1]) H19) (hk16 : KeepX H8.next [b7r] H8 H19) (hw17 : WF H19) (h18 : v19_1 = 0) {z30 : Int} (h19 : IntKind.wrap .i64 ((t31 : Int) + 1) = z30) :
    To P gl none 16 71 (loopB P 16 0) [(0, .slice op0r op0o op0l op0k op0c), (4, .slice ow4r ow4o ow4l ow4k ow4c), (7, .map b7r), (29, .slice t29r t29o t29l t29k t29c), (30, .int .i64 (t30 : Int)), (31, .int .i64 (t31 : Int))] [] H .normal [(0, .slice op0r op0o op0l op0k op0c), (4, .slice ow4r ow4o ow4l ow4k ow4c), (7, .map b7r), (29, .slice t29r t29o t29l t29k t29c), (30, .int .i64 (t30 : Int)), (31, .int .i64 z30)] [] H19 ∧ WF H19 ∧ KeepX H.next [b7r] H H19 := by
  have kp0 : KeepX H.next [] H H := KeepX.refl
  have q0 : WF H4 := by rw [← hH8]; exact WF.push w0 _
  have q1 : H.next ≤ H4.next := by rw [← hH8]; exact Nat.le_succ _
  have kp1 : KeepX H.next [] H H4 := by rw [← hH8]; exact KeepX.push (KeepX.refl (n := H.next) (xs := []) (H := H)) w0 _
  have q2 : H4.get H.next = some (.cells [.int .i64 0, .int .i64 0, .int .i64 0, .int .i64 0] false 1966080) := by rw [← hH8]; exact get_push_new w0 _
  have q3 : H.next < H4.next := by rw [← hH8]; exact Nat.lt_succ_self _
  have q4 : WF H6 := by rw [← hH10]; exact WF.set q0 _ _
  have q5 : H4.next ≤ H6.next := by rw [← hH10]; exact Nat.le_refl _
  have kp2 : KeepX H.next [] H H6 := by rw [← hH10]; exact KeepX.set kp1 _ kp0.next
  have q6 : H6.get H.next = some (.cells [.int .i64 x3Number, .int .i64 x3Day, .int .i64 x3Parish, .int .i64 x3Amount] false 1966080) := by rw [← hH10]; exact get_set_eq q0 q3 _
  have q7 : H.next < H6.next := by rw [← hH10]; exact q3
  have kp3 : KeepX H.next [] H H8 := KeepX.call kp2 hk12
  have q8 : H8.get H.next = some (.cells [.int .i64 x3Number, .int .i64 x3Day, .int .i64 x3Parish, .int .i64 x3Amount] false 1966080) := hk12.some q7 q6
  have q9 : H.next < H8.next := Nat.lt_of_lt_of_le q7 hk12.next
  have kp4 : KeepX H.next [b7r] H H19 := KeepX.cally kp3 hk16
  exact ⟨execP_to rfl (orc := [(0, .bit true), (2, .at p2), (3, .load c3 ro3 g3 (.agg [.int .i64 x3Number, .int .i64 x3Day, .int .i64 x3Parish, .int .i64 x3Amount])), (4, .mem H4), (6, .store [.int .i64 0, .int .i64 0, .int .i64 0, .int .i64 0] 1966080 [.int .i64 x3Number, .int .i64 x3Day, .int .i64 x3Parish, .int .i64 x3Amount] H6), (7, .load [.int .i64 x3Number, .int .i64 x3Day, .int .i64 x3Parish, .int .i64 x3Amount] false 1966080 (.agg [.int .i64 x3Number, .int .i64 x3Day, .int .i64 x3Parish, .int .i64 x3Amount])), (8, .call (.bool true) H8), (12, .load [.int .i64 x3Number, .int .i64 x3Day, .int .i64 x3Parish, .int .i64 x3Amount] false 1966080 (.int .i64 x3Parish)), (15, .bit false), (18, .load [.int .i64 x3Number, .int .i64 x3Day, .int .i64 x3Parish, .int .i64 x3Amount] false 1966080 (.agg [.int .i64 x3Number, .int .i64 x3Day, .int .i64 x3Parish, .int .i64 x3Amount])), (19, .call (.tup [.bool false, .int .i64 v19_1]) H19), (26, .bit false), (30, .int z30)]) (n := 32) (fs := [_, _, _, _, _, _, _, _, _, _, _, _, _, _, _, _, _, _, _, _, _, _]) (fun J => by kernel_rfl) ⟨h19, (ine_f h18), hc15, q8, (rfl : cut [.int .i64 x3Number, .int .i64 x3Day, .int .i64 x3Parish, .int .i64 x3Amount] 0 4 = some [.int .i64 x3Number, .int .i64 x3Day, .int .i64 x3Parish, .int .i64 x3Amount]), (ge_f h14), q8, (rfl : ([.int .i64 x3Number, .int .i64 x3Day, .int .i64 x3Parish, .int .i64 x3Amount] : List AV)[2]? = some (.int .i64 x3Parish)), hc11, q6, (rfl : cut [.int .i64 x3Number, .int .i64 x3Day, .int .i64 x3Parish, .int .i64 x3Amount] 0 4 = some [.int .i64 x3Number, .int .i64 x3Day, .int .i64 x3Parish, .int .i64 x3Amount]), q2, (Nat.le_of_ble_eq_true rfl : 0 + 4 ≤ ([.int .i64 0, .int .i64 0, .int .i64 0, .int .i64 0] : List AV).length), (rfl : setL [.int .i64 0, .int .i64 0, .int .i64 0, .int .i64 0] 0 [.int .i64 x3Number, .int .i64 x3Day, .int .i64 x3Parish, .int .i64 x3Amount] = [.int .i64 x3Number, .int .i64 x3Day, .int .i64 x3Parish, .int .i64 x3Amount]), hH10, hH8, hg6, h7, h3, h4, h5, (lt_t h2), trivial⟩, hw17, kp4⟩
theorem f16_b0_p6 {op0r : Nat} {op0o : Nat} {op0l : Nat} {op0k : Bool} {op0c : Nat} {ow4r : Nat} {ow4o : Nat} {ow4l : Nat} {ow4k : Bool} {ow4c : Nat} {b7r : Nat} {t29r : Nat} {t29o : Nat} {t29l : Nat} {t29k : Bool} {t29c : Nat} {t30 : Nat} {t31 : Nat} {H : AH} (h1 : ow4r ≠ b7r) (h2 : (t31 : Int) < (t30 : Int)) {p2 : Nat} (h3 : 0 ≤ (t31 : Int)) (h4 : (t31 : Int) < (t29l : Int)) (h5 : t29o + (t31 : Int).toNat * 4 = p2) {c3 : List AV} {ro3 : Bool} {g3 : Nat} (hg6 : H.get t29r = some (.cells c3 ro3 g3)) {x3Number : Int} {x3Day : Int} {x3Parish : Int} {x3Amount : Int} (h7 : cut c3 p2 4 = some [.int .i64 x3Number, .int .i64 x3Day, .int .i64 x3Parish, .int .i64 x3Amount]) {H4 : AH} (hH8 : H.push (.cells [.int .i64 0, .int .i64 0, .int .i64 0, .int .i64 0] false 1966080) = H4) (w0 : WF H) {H6 : AH} (hH10 : H4.set H.next (.cells [.int .i64 x3Number, .int .i64 x3Day, .int .i64 x3Parish, .int .i64 x3Amount] false 1966080) = H6) {H8 : AH} (hc11 : CallsTo P gl 50 [.agg [.int .i64 x3Number, .int .i64 x3Day, .int .i64 x3Parish, .int .i64 x3Amount]] H6 (.bool false) H8) (hk12 : Keep H6.next H6 H8) (hw13 : WF H8) :
    To P gl none 16 71 (loopB P 16 0) [(0, .slice op0r op0o op0l op0k op0c), (4, .slice ow4r ow4o ow4l ow4k ow4c), (7, .map b7r), (29, .slice t29r t29o t29l t29k t29c), (30, .int .i64 (t30 : Int)), (31, .int .i64 (t31 : Int))] [] H .ret [(4, .nils), (5, .int .i64 (t31 : Int)), (6, .int .i64 2)] [] H8 ∧ WF H8 ∧ Keep H.next H H8 := by
  have kp0 : KeepX H.next [] H H := KeepX.refl
  have q0 : WF H4 := by rw [← hH8]; exact WF.push w0 _
  have q1 : H.next ≤ H4.next := by rw [← hH8]; exact Nat.le_succ _
  have kp1 : KeepX H.next [] H H4 := by rw [← hH8]; exact KeepX.push (KeepX.refl (n := H.next) (xs := []) (H := H)) w0 _
  have q2 : H4.get H.next = some (.cells [.int .i64 0, .int .i64 0, .int .i64 0, .int .i64 0] false 1966080) := by rw [← hH8]; exact get_push_new w0 _
  have q3 : H.next < H4.next := by rw [← hH8]; exact Nat.lt_succ_self _
  have q4 : WF H6 := by rw [← hH10]; exact WF.set q0 _ _
  have q5 : H4.next ≤ H6.next := by rw [← hH10]; exact Nat.le_refl _
  have kp2 : KeepX H.next [] H H6 := by rw [← hH10]; exact KeepX.set kp1 _ kp0.next
  have q6 : H6.get H.next = some (.cells [.int .i64 x3Number, .int .i64 x3Day, .int .i64 x3Parish, .int .i64 x3Amount] false 1966080) := by rw [← hH10]; exact get_set_eq q0 q3 _
  have q7 : H.next < H6.next := by rw [← hH10]; exact q3
  have kp3 : KeepX H.next [] H H8 := KeepX.call kp2 hk12
  exact ⟨execP_to rfl (orc := [(0, .bit true), (2, .at p2), (3, .load c3 ro3 g3 (.agg [.int .i64 x3Number, .int .i64 x3Day, .int .i64 x3Parish, .int .i64 x3Amount])), (4, .mem H4), (6, .store [.int .i64 0, .int .i64 0, .int .i64 0, .int .i64 0] 1966080 [.int .i64 x3Number, .int .i64 x3Day, .int .i64 x3Parish, .int .i64 x3Amount] H6), (7, .load [.int .i64 x3Number, .int .i64 x3Day, .int .i64 x3Parish, .int .i64 x3Amount] false 1966080 (.agg [.int .i64 x3Number, .int .i64 x3Day, .int .i64 x3Parish, .int .i64 x3Amount])), (8, .call (.bool false) H8)]) (n := 21) (fs := [_, _, _, _, _, _, _, _, _, _, _, _, _, _]) (fun J => by kernel_rfl) ⟨hc11, q6, (rfl : cut [.int .i64 x3Number, .int .i64 x3Day, .int .i64 x3Parish, .int .i64 x3Amount] 0 4 = some [.int .i64 x3Number, .int .i64 x3Day, .int .i64 x3Parish, .int .i64 x3Amount]), q2, (Nat.le_of_ble_eq_true rfl : 0 + 4 ≤ ([.int .i64 0, .int .i64 0, .int .i64 0, .int .i64 0] : List AV).length), (rfl : setL [.int .i64 0, .int .i64 0, .int .i64 0, .int .i64 0] 0 [.int .i64 x3Number, .int .i64 x3Day, .int .i64 x3Parish, .int .i64 x3Amount] = [.int .i64 x3Number, .int .i64 x3Day, .int .i64 x3Parish, .int .i64 x3Amount]), hH10, hH8, hg6, h7, h3, h4, h5, (lt_t h2), trivial⟩, hw13, kp3.keep⟩
theorem f16_b0_p7 {op0r : Nat} {op0o : Nat} {op0l : Nat} {op0k : Bool} {op0c : Nat} {ow4r : Nat} {ow4o : Nat} {ow4l : Nat} {ow4k : Bool} {ow4c : Nat} {b7r : Nat} {t29r : Nat} {t29o : Nat} {t29l : Nat} {t29k : Bool} {t29c : Nat} {t30 : Nat} {t31 : Nat} {H : AH} (h1 : ow4r ≠ b7r) (h2 : (t30 : Int) ≤ (t31 : Int)) :
    To P gl none 16 71 (loopB P 16 0) [(0, .slice op0r op0o op0l op0k op0c), (4, .slice ow4r ow4o ow4l ow4k ow4c), (7, .map b7r), (29, .slice t29r t29o t29l t29k t29c), (30, .int .i64 (t30 : Int)), (31, .int .i64 (t31 : Int))] [] H (.exit 1) [(4, .slice ow4r ow4o ow4l ow4k ow4c)] [] H := by
  exact execP_to rfl (orc := [(0, .bit false)]) (n := 1) (fs := [_]) (fun J => by kernel_rfl) ⟨(lt_f h2), trivial⟩
end Go.Proofs.YtipgfljojhdhjaaGreatDoor

namespace Go.Proofs.YtipgfljojhdhjaaGreatDoor
open Ai

def addAt (l : List Int) (p : Int) (a : Int) : List Int := l.set p.toNat (l.getD p.toNat 0 + a)
/-- What all parishes owe: the cards one by one; or the number of a card with an error, and the error. -/
def owes (n : Nat) : List Card → List Int → List Card → Sum (List Int) (Nat × Int)
  | _, owe, [] => .inl owe
  | pre, owe, c :: rest =>
    if !cardOk c || decide (n ≤ c.par) then .inr (pre.length, 2) else
    match findNum c.num pre with
    | none => owes n (pre ++ [c]) (addAt owe c.par c.amt) rest
    | some d => if d = c then owes n (pre ++ [c]) owe rest else .inr (pre.length, 4)
def accounts (op : List Int) (cs : List Card) : Sum (List Int) (Nat × Int) :=
  if 30 < op.length ∨ 400 < cs.length then .inr (0, 5)
  else if op = [] ∨ inAll (-10000000) 10000000 op = false then .inr (0, 2)
  else owes op.length [] op cs

theorem ints_flat : ∀ l : List Int, (ints l).flatten = l.map (.int .i64)
  | [] => rfl
  | x :: l => by have := ints_flat l; simp only [ints] at this; simp [ints, this]
theorem ints_set (l : List Int) (p : Nat) (x : Int) : (ints l).flatten.set p (.int .i64 x) = (ints (l.set p x)).flatten := by
  rw [ints_flat, ints_flat, List.map_set]

/-- How an answer is written. -/
def oweV (H : AH) (v : AV) (n e : Int) : Sum (List Int) (Nat × Int) → Prop
  | .inl l => n = 0 ∧ e = 0 ∧ SlAt H v 1 (ints l)
  | .inr (i, x) => v = .nils ∧ n = i ∧ e = x

theorem findNum_app (k : Int) : ∀ (l m : List Card), findNum k (l ++ m) = (findNum k l).or (findNum k m)
  | [], _ => by simp [findNum]
  | c :: l, m => by
      simp only [List.cons_append, findNum]
      split
      · rfl
      · exact findNum_app k l m
theorem findNum_num {k : Int} : ∀ {l : List Card} {d : Card}, findNum k l = some d → d.num = k
  | c :: l, d, h => by
      simp only [findNum] at h
      split at h
      · cases h; rename_i h; exact h.symm
      · exact findNum_num h

theorem addAt_length (l : List Int) (p a : Int) : (addAt l p a).length = l.length := by simp [addAt]

def live16 (r0 o0 n c0 ro c4 b r29 o29 len c29 : Nat) (k0 k4 k29 : Bool) (i : Nat) : List (Nat × AV) :=
  [(0, .slice r0 o0 n k0 c0), (4, .slice ro 0 n k4 c4), (7, .map b), (29, .slice r29 o29 len k29 c29), (30, .int .i64 (len : Int)), (31, .int .i64 (i : Int))]

section
variable {n0 : Nat} {H0 : AH}

theorem f16_loop {v0 : AV} {r0 o0 n c0 r29 o29 c29 g29 b : Nat} {k0 k29 ro29 : Bool} {cells29 : List AV} {cs : List Card} (hcs : cs.length ≤ 400)
    (hw0 : WF H0) (hg : H0.get r29 = some (.cells cells29 ro29 g29)) (hcut : cut cells29 o29 ((cards cs).length * 4) = some (cards cs).flatten) :
    ∀ m i (H : AH) (owe : List Int) (ro g c4 : Nat) (k4 : Bool) (box : List Card), i + m = cs.length → WF H → Keep H0.next H0 H → owe.length = n →
      H.get ro = some (.cells (ints owe).flatten false g) → H0.next ≤ ro → H0.next ≤ b → ro ≠ b → IMap H b (boxOf box) → (∀ k, findNum k box = findNum k (cs.take i)) →
      (∀ x ∈ owe, -10000000 * (i + 1 : Int) ≤ x ∧ x ≤ 10000000 * (i + 1 : Int)) →
      ∃ x live' H', To P gl none 16 71 (.loop (loopB P 16 0)) (live16 r0 o0 n c0 ro c4 b r29 o29 cs.length c29 k0 k4 k29 i) [] H x live' [] H' ∧ WF H' ∧ Keep H0.next H H' ∧
        (match owes n (cs.take i) owe (cs.drop i) with
         | .inl l => x = .exit 1 ∧ live' = [(4, .slice ro 0 n k4 c4)] ∧ H'.get ro = some (.cells (ints l).flatten false g) ∧ l.length = n
         | .inr (j, e) => x = .ret ∧ live' = [(4, .nils), (5, .int .i64 (j : Int)), (6, .int .i64 e)]) := by
  intro m
  induction m with
  | zero =>
    intro i H owe ro g c4 k4 box hi hw hk hn hgo hro hb hne hm hbox hbd
    have hd : cs.drop i = [] := List.drop_eq_nil_of_le (by omega)
    refine ⟨_, _, H, To.loop_stop (f16_b0_p7 hne (by omega)) (by simp), hw, Keep.refl, ?_⟩
    rw [hd]
    exact ⟨rfl, rfl, hgo, hn⟩
  | succ m ih =>
    intro i H owe ro g c4 k4 box hi hw hk hn hgo hro hb hne hm hbox hbd
    have hlt : i < cs.length := by omega
    have hx : cs[i]? = some cs[i] := List.getElem?_eq_getElem hlt
    have hd : cs.drop i = cs[i] :: cs.drop (i + 1) := List.drop_eq_getElem_cons hlt
    have ht : cs.take (i + 1) = cs.take i ++ [cs[i]] := by rw [List.take_add_one, hx]; rfl
    have hcell : cut cells29 (o29 + i * 4) 4 = some cs[i].cells := elem_cut (by simp [cards, Card.cells]) hcut (cards_get hx)
    have hg' := hk.some (hw0.lt hg) hg
    have hbl := hw.lt hm
    have hrl := hw.lt hgo
    generalize hc : cs[i] = c at *
    have w1 : WF ((H.push (.cells [.int .i64 0, .int .i64 0, .int .i64 0, .int .i64 0] false 1966080)).set H.next (.cells c.cells false 1966080)) := (hw.push _).set _ _
    have kp1 : Keep H.next H ((H.push (.cells [.int .i64 0, .int .i64 0, .int .i64 0, .int .i64 0] false 1966080)).set H.next (.cells c.cells false 1966080)) := (Keep.push hw _ (Nat.le_refl _)).trans (Keep.set _ (Nat.le_refl _))
    obtain ⟨H1, p1, p2, p3⟩ := isCard_spec w1 c
    have hlen : (cs.take i).length = i := by simp; omega
    rw [hd]
    simp only [owes]
    cases hok : cardOk c with
    | false =>
      rw [hok] at p1
      have q : To P gl none 16 71 (loopB P 16 0) (live16 r0 o0 n c0 ro c4 b r29 o29 cs.length c29 k0 k4 k29 i) [] H _ _ [] _ ∧ WF _ ∧ _ := f16_b0_p6 hne (by omega) (by omega) (by omega) rfl hg' hcell rfl hw rfl p1 p3 p2
      obtain ⟨q1, q2, q3⟩ := q
      refine ⟨_, _, _, To.loop_stop q1 (by simp), q2, q3.le hk.next, ?_⟩
      simp [hlen]
    | true =>
    rw [hok] at p1
    by_cases hp : c.par < n
    · have e1 : decide ((n : Int) ≤ c.par) = false := decide_eq_false (by omega)
      rw [e1]
      simp only [Bool.not_true, Bool.or_false, Bool.false_eq_true, if_false]
      have hm1 : IMap H1 b (boxOf box) := (kp1.trans (p3.le kp1.next)).some hbl hm
      rw [← hbox]
      have hok2 := hok
      simp only [cardOk, within', Bool.and_eq_true, decide_eq_true_eq] at hok2
      cases hf : findNum c.num box with
      | some d =>
        simp only
        obtain ⟨H2, a1, a2, a3⟩ := add_old p2 hm1 c d hf
        by_cases hdc : d = c
        · rw [if_pos hdc] at a1 ⊢
          have q : To P gl none 16 71 (loopB P 16 0) (live16 r0 o0 n c0 ro c4 b r29 o29 cs.length c29 k0 k4 k29 i) [] H .normal (live16 r0 o0 n c0 ro c4 b r29 o29 cs.length c29 k0 k4 k29 (i + 1)) [] _ ∧ WF _ ∧ _ := f16_b0_p5 hne (by omega) (by omega) (by omega) rfl hg' hcell rfl hw rfl p1 p3 p2 hp a1 a3.x.weak' a2 rfl (z30 := ((i + 1 : Nat) : Int)) (w64e (by omega) (by omega) (by omega))
          obtain ⟨q1, q2, q3⟩ := q
          have kk := q3.to (n := H0.next) (by simp; omega) hk.next
          have k1 : Keep H1.next H1 H2 := a3
          have hkeepH : Keep H.next H H2 := (kp1.trans (p3.le kp1.next)).trans (k1.le (Nat.le_trans kp1.next p3.next))
          obtain ⟨x, live', H', t1, t2, t3, t4⟩ := ih (i + 1) H2 owe ro g c4 k4 box (by omega) q2 (hk.trans (hkeepH.le hk.next)) hn (hkeepH.some hrl hgo) hro hb hne (hkeepH.some hbl hm) (by
            intro k
            rw [ht, findNum_app, ← hbox]
            by_cases hkn : k = c.num
            · rw [hkn, hf]; rfl
            · have : findNum k [c] = none := by simp [findNum, hkn]
              rw [this]; simp) (by intro x hx; have := hbd x hx; constructor <;> omega)
          refine ⟨x, live', H', To.loop q1 t1, t2, (hkeepH.le hk.next).trans t3, ?_⟩
          rw [ht] at t4
          simpa using t4
        · rw [if_neg hdc] at a1 ⊢
          have q : To P gl none 16 71 (loopB P 16 0) (live16 r0 o0 n c0 ro c4 b r29 o29 cs.length c29 k0 k4 k29 i) [] H _ _ [] _ ∧ WF _ ∧ _ := f16_b0_p4 hne (by omega) (by omega) (by omega) rfl hg' hcell rfl hw rfl p1 p3 p2 hp a1 a3.x.weak' a2 (by decide)
          obtain ⟨q1, q2, q3⟩ := q
          have k1 : Keep H1.next H1 H2 := a3
          have hkeepH : Keep H.next H H2 := (kp1.trans (p3.le kp1.next)).trans (k1.le (Nat.le_trans kp1.next p3.next))
          refine ⟨_, _, _, To.loop_stop q1 (by simp), q2, hkeepH.le hk.next, ?_⟩
          simp [hlen]
      | none =>
        simp only
        obtain ⟨H2, a1, a2, a3, a4⟩ := add_new p2 hm1 c hf
        have hpar : c.par.toNat < owe.length := by omega
        have hget : ((ints owe).flatten : List AV)[0 + c.par.toNat * 1]? = some (.int .i64 (owe.getD c.par.toNat 0)) := by
          rw [ints_flat]
          simp [List.getElem?_map, List.getElem?_eq_getElem hpar, List.getD_eq_getElem?_getD]
        have hbx := hbd (owe.getD c.par.toNat 0) (by
          rw [List.getD_eq_getElem?_getD, List.getElem?_eq_getElem hpar]; exact List.getElem_mem hpar)
        have hsum : IntKind.wrap .i64 (owe.getD c.par.toNat 0 + c.amt) = owe.getD c.par.toNat 0 + c.amt := w64 (by omega) (by omega)
        have q : To P gl none 16 71 (loopB P 16 0) (live16 r0 o0 n c0 ro c4 b r29 o29 cs.length c29 k0 k4 k29 i) [] H .normal (live16 r0 o0 n c0 ro c4 b r29 o29 cs.length c29 k0 k4 k29 (i + 1)) [] _ ∧ WF _ ∧ _ := f16_b0_p3 hne (by omega) (by omega) (by omega) rfl hg' hcell rfl hw rfl p1 p3 p2 hp a1 a3 a2 rfl hbl (by omega) (by omega) rfl hgo hget hsum rfl rfl (by
            rw [ints_flat, List.length_map]; omega) rfl rfl (z40 := ((i + 1 : Nat) : Int)) (w64e (by omega) (by omega) (by omega))
        obtain ⟨q1, q2, q3⟩ := q
        have hset : setL (ints owe).flatten (0 + c.par.toNat * 1) [.int .i64 (owe.getD c.par.toNat 0 + c.amt)] = (ints (addAt owe c.par c.amt)).flatten := by
          show (ints owe).flatten.set _ _ = _
          rw [ints_set]; simp [addAt]
        rw [hset] at q1 q2 q3
        have kk := q3.to (n := H0.next) (by simp; omega) hk.next
        have hro2 : ro < H2.next := by have := kp1.next; have := p3.next; have := a3.next; omega
        obtain ⟨x, live', H', t1, t2, t3, t4⟩ := ih (i + 1) _ (addAt owe c.par c.amt) ro g c4 k4 (box ++ [c]) (by omega) q2 (hk.trans kk) (by rw [addAt_length]; exact hn) (get_set_eq a2 hro2 _) hro hb hne
          ((get_set_ne (Ne.symm hne)).trans a4) (by
            intro k
            rw [ht, findNum_app, findNum_app, ← hbox]) (by
            intro x hx
            have hi1 : ((i : Int) + 1 : Int) ≤ ((i + 1 : Nat) : Int) + 1 := by omega
            rcases List.mem_or_eq_of_mem_set hx with h | h
            · have := hbd x h; constructor <;> omega
            · subst h; constructor <;> omega)
        refine ⟨x, live', H', To.loop q1 t1, t2, kk.trans t3, ?_⟩
        rw [ht] at t4
        simpa using t4
    · have e1 : decide ((n : Int) ≤ c.par) = true := decide_eq_true (by omega)
      rw [e1]
      have q : To P gl none 16 71 (loopB P 16 0) (live16 r0 o0 n c0 ro c4 b r29 o29 cs.length c29 k0 k4 k29 i) [] H _ _ [] _ ∧ WF _ ∧ _ := f16_b0_p1 hne (by omega) (by omega) (by omega) rfl hg' hcell rfl hw rfl p1 p3 p2 (by omega)
      obtain ⟨q1, q2, q3⟩ := q
      refine ⟨_, _, _, To.loop_stop q1 (by simp), q2, q3.le hk.next, ?_⟩
      simp [hlen]
end

end Go.Proofs.YtipgfljojhdhjaaGreatDoor
