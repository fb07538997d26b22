/- What the row's condition on package-level variables gives: the powers of ten lie in block 1. For every list of openings and of cards BookOwes returns true and leaves both lists as they were; the package-level variables are as the program's text lays them (the card ties that). -/
import Derived.Test.YtipgfljojhdhjaaGreatDoorOwC
import Derived.Test.YtipgfljojhdhjaaGreatDoorAiC
import Derived.Test.YtipgfljojhdhjaaGreatDoorRows
import Derived.Lay
import Derived.OpenShut
import Derived.Test.YtipgfljojhdhjaaGreatDoorOwD
import Derived.Test.YtipgfljojhdhjaaGreatDoorTie
import Derived.Test.YtipgfljojhdhjaaGreatDoorCards
import Derived.Stop.Joined
import Derived.SevenTiedAt
set_option linter.all false
set_option linter.unusedVariables false
set_option linter.unusedSimpArgs false
set_option linter.unnecessarySimpa false
set_option linter.deprecated false
set_option maxRecDepth 100000
namespace Go.Proofs.YtipgfljojhdhjaaGreatDoor
open Ai Go.RowKit Go.ChangeShapes Go.WideShapes

def laidL : List (String × DataW Unit) := [("math/bits.deBruijn32tab", Rows.laid_math_bits_deBruijn32tab), ("math/bits.deBruijn64tab", Rows.laid_math_bits_deBruijn64tab), ("internal/strconv.uint64pow10", Rows.laid_internal_strconv_uint64pow10), ("unicode/utf8.acceptRanges", Rows.laid_unicode_utf8_acceptRanges), ("strconv.ErrRange", Rows.laid_strconv_ErrRange), ("strconv.ErrSyntax", Rows.laid_strconv_ErrSyntax), ("unicode/utf8.first", Rows.laid_unicode_utf8_first)]
theorem laid_own : Rows.bookOwesRow.laid = laidL := rfl
theorem g1 : P.globalNamed "internal/strconv.uint64pow10" = some 1 := by kernel_rfl
theorem g1t : ∃ e, ((P.globals[1]?).map (·.type)).bind P.underlying = some (.array 20 e) ∧ P.underlying e = some (.int .u64) ∧ P.cellsOf e = 1 :=
  ⟨((((P.globals[1]?).map (·.type)).bind P.underlying).map fun | .array _ e => e | _ => 0).getD 0, by kernel_rfl, by kernel_rfl, by kernel_rfl⟩

theorem laid_met (os : Os) (args : Array Value) : laidMetH P laidL ((World.laidAll P os laidL).forCall (fun _ _ => 0) ⟨#[], args, []⟩).memory := by
  rw [MakeChecks.laidMetH_plain _ _ _ (by kernel_rfl)]; exact laidMet_laidAll _ (by kernel_rfl) (by kernel_rfl)
theorem drop_take_one {l : List Value} {i : Nat} {v : Value} (h : (l.drop i).take 1 = [v]) : l[i]? = some v := by
  have : ((l.drop i).take 1)[0]? = some v := by rw [h]; rfl
  rw [List.getElem?_take] at this
  simpa using this

theorem pow_ok {W : World} (h : laidMetH P laidL W) : RB.ok W ⟨1, 0, pows⟩ := by
  rw [MakeChecks.laidMetH_plain _ _ _ (by kernel_rfl)] at h
  obtain ⟨ps, ⟨_, _, _, _, _, _, _, _, _, _, ⟨_, _, _, _, _, _, _, _, _, _, ⟨g2, t2, cs2, f2, p2, q2, hg2, ht2, hv2, hd2, _, _⟩, _⟩, _⟩, _, _⟩ := h
  obtain rfl := Option.some.inj (g1.symm.trans hg2)
  obtain ⟨e, he, hu, hc⟩ := g1t
  rw [ht2] at he
  simp only [Option.bind_some] at he
  obtain ⟨xs, m, _, hx, hlen, hn, hel⟩ := DataW.trod_array he hd2
  simp only [Prod.mk.injEq, Rows.laid_internal_strconv_uint64pow10, DataW.agg.injEq] at hx
  have hv : W.var? P "internal/strconv.uint64pow10" = some cs2 := hv2
  unfold World.var? at hv
  rw [g1] at hv
  simp only [Option.bind_some] at hv
  split at hv
  · rename_i cs T fr hb
    cases hv
    obtain ⟨lo, hi⟩ := fr
    refine ⟨cs2, T, lo, hi, hb, fun i v hi' => ?_, fun v hv => ?_⟩
    · have hi20 : i < 20 := by
        rcases Nat.lt_or_ge i 20 with h | h
        · exact h
        · rw [List.getElem?_eq_none (by simpa [pows] using h)] at hi'; cases hi'
      have h1 := hel i hi20
      rw [hc, Nat.mul_one, List.getElem?_eq_getElem (by omega)] at h1
      obtain ⟨n, h2, h3, _⟩ := DataW.trod_int hu h1
      have h4 := drop_take_one h2
      have h5 : (xs.map (·.1))[i]? = some (.lit (.int .u64 n)) := by
        rw [List.getElem?_map, List.getElem?_eq_getElem (by omega), h3]; rfl
      rw [← hx.1] at h5
      rw [Nat.zero_add]
      have key : ∀ j : Fin 20, ∀ n : Int, ([.lit (.int .u64 1), .lit (.int .u64 10), .lit (.int .u64 100), .lit (.int .u64 1000), .lit (.int .u64 10000), .lit (.int .u64 100000), .lit (.int .u64 1000000), .lit (.int .u64 10000000), .lit (.int .u64 100000000), .lit (.int .u64 1000000000), .lit (.int .u64 10000000000), .lit (.int .u64 100000000000), .lit (.int .u64 1000000000000), .lit (.int .u64 10000000000000), .lit (.int .u64 100000000000000), .lit (.int .u64 1000000000000000), .lit (.int .u64 10000000000000000), .lit (.int .u64 100000000000000000), .lit (.int .u64 1000000000000000000), .lit (.int .u64 10000000000000000000)] : List (DataW Unit))[j.val]? = some (.lit (.int .u64 n)) → pows[j.val]? = some (.int .u64 n) := by
        intro j n hj
        match j with
        | ⟨0, _⟩ | ⟨1, _⟩ | ⟨2, _⟩ | ⟨3, _⟩ | ⟨4, _⟩ | ⟨5, _⟩ | ⟨6, _⟩ | ⟨7, _⟩ | ⟨8, _⟩ | ⟨9, _⟩ | ⟨10, _⟩ | ⟨11, _⟩ | ⟨12, _⟩ | ⟨13, _⟩ | ⟨14, _⟩ | ⟨15, _⟩ | ⟨16, _⟩ | ⟨17, _⟩ | ⟨18, _⟩ | ⟨19, _⟩ => simp at hj; subst hj; rfl
      have hp := key ⟨i, hi20⟩ n h5
      rw [hp] at hi'
      cases hi'
      rw [← Array.getElem?_toList, h4]; rfl
    · obtain ⟨k, n, rfl⟩ := pows_ints v hv; trivial
  · cases hv

theorem hmix : P.follows .mixedOrders = true := by kernel_rfl
theorem gl_ok (l : List RB) : GlOk gl (mkE (⟨1, 0, pows⟩ :: l)) (l.length + 1) := by
  intro g r h
  have h : glAt g = some r := h
  unfold glAt at h
  cases hb : Nat.beq g 1 with
  | true => rw [hb] at h; cases h; have : g = 1 := by simpa using hb
            subst this; exact ⟨Nat.succ_pos _, rfl, rfl⟩
  | false => rw [hb] at h; cases h
theorem laidOut : laidOutB P = true := by kernel_rfl
theorem own : ownKnob P.godebug = none := by kernel_rfl
theorem und4 : P.underlying 4 = some .bool := by kernel_rfl
theorem flat3 : FlatE P 3 [.i64] := flat_int (by kernel_rfl) (by kernel_rfl)

end Go.Proofs.YtipgfljojhdhjaaGreatDoor

namespace Go.Proofs.YtipgfljojhdhjaaGreatDoor
open Ai Go.RowKit Go.ChangeShapes Go.WideShapes

theorem par3 : Tryz.f3.params = #[22, 23] := by kernel_rfl
theorem flat30 : FlatE P 30 [.i64, .i64, .i64, .i64] := by
  have hfs : ∃ fs, P.underlying 30 = some (.struct fs) ∧ fs.size = 4 ∧ ∀ i : Fin 4, ∃ f : Field, fs[i.val]? = some f ∧ f.offset = i.val ∧ P.cellsOf f.type = 1 ∧ P.underlying f.type = some (.int .i64) := by
    refine ⟨((P.underlying 30).map fun | .struct fs => fs | _ => #[]).getD #[], by kernel_rfl, by kernel_rfl, fun i => ?_⟩
    match i with
    | ⟨0, _⟩ => exact ⟨(((P.underlying 30).map fun | .struct fs => fs | _ => #[]).getD #[])[0]?.getD default, by kernel_rfl, by kernel_rfl, by kernel_rfl, by kernel_rfl⟩
    | ⟨1, _⟩ => exact ⟨(((P.underlying 30).map fun | .struct fs => fs | _ => #[]).getD #[])[1]?.getD default, by kernel_rfl, by kernel_rfl, by kernel_rfl, by kernel_rfl⟩
    | ⟨2, _⟩ => exact ⟨(((P.underlying 30).map fun | .struct fs => fs | _ => #[]).getD #[])[2]?.getD default, by kernel_rfl, by kernel_rfl, by kernel_rfl, by kernel_rfl⟩
    | ⟨3, _⟩ => exact ⟨(((P.underlying 30).map fun | .struct fs => fs | _ => #[]).getD #[])[3]?.getD default, by kernel_rfl, by kernel_rfl, by kernel_rfl, by kernel_rfl⟩
  obtain ⟨fs, h1, h2, h3⟩ := hfs
  refine flat_struct h1 (by kernel_rfl) fun i k hk => ?_
  have hi : i < 4 := by
    rcases Nat.lt_or_ge i 4 with h | h
    · exact h
    · rw [List.getElem?_eq_none (by simpa using h)] at hk; cases hk
  obtain ⟨f, q1, q2, q3, q4⟩ := h3 ⟨i, hi⟩
  refine ⟨f, q1, q2, q3, ?_⟩
  have hk4 : ∀ j : Fin 4, ([.i64, .i64, .i64, .i64] : List IntKind)[j.val]? = some k → k = .i64 := by
    intro j hj
    match j with
    | ⟨0, _⟩ | ⟨1, _⟩ | ⟨2, _⟩ | ⟨3, _⟩ => simpa using hj.symm
  rw [hk4 ⟨i, hi⟩ hk]
  exact q4

/-- The numbers of a slice argument. -/
def intsOf (w : World) : Value → List Int
  | .slice (some a) len _ => (List.range len).map fun i => cellInt w a i
  | _ => []
def cardsOf (w : World) : Value → List Card
  | .slice (some a) len _ => (List.range len).map fun i => ⟨cellInt w a (i * 4), cellInt w a (i * 4 + 1), cellInt w a (i * 4 + 2), cellInt w a (i * 4 + 3)⟩
  | _ => []
theorem elems_ints (w : World) : ∀ v : Value, elemsOf w [.i64] v = ints (intsOf w v)
  | .slice (some a) len cap => by simp [elemsOf, intsOf, ints, List.map_map, Function.comp_def, List.range_succ]
  | .slice none _ _ | .bool _ | .int _ _ | .float _ _ | .complex _ _ _ | .string _ | .pointer _ | .map _ | .chan _ | .func _ _ _ | .nilFunc | .iface _ _ | .nilIface | .agg _ | .tuple _ => rfl
theorem elems_cards (w : World) : ∀ v : Value, elemsOf w [.i64, .i64, .i64, .i64] v = cards (cardsOf w v)
  | .slice (some a) len cap => by simp [elemsOf, cardsOf, cards, List.map_map, Function.comp_def, List.range_succ, Card.cells]
  | .slice none _ _ | .bool _ | .int _ _ | .float _ _ | .complex _ _ _ | .string _ | .pointer _ | .map _ | .chan _ | .func _ _ _ | .nilFunc | .iface _ _ | .nilIface | .agg _ | .tuple _ => rfl

theorem owes_lifted (os : Os) (started : os.Started) (H : Type) (enc : TypeId × Value → H) :
    ReturnsInHanded {} Tryz.checked os 3 .any (fun w args => (Rows.bookOwesSpec.pre enc Tryz.prog Tryz.f3 [] false w args ∧ laidMetH Tryz.prog laidL w) ∧ sizedMet enc Tryz.prog Tryz.f3 (OpenSpec.ofChange Rows.bookOwesSpec) false w args)
      (Rows.bookOwesSpec.post enc Tryz.prog Tryz.f3 false true false false) := by
  refine returnsInHanded_of_change_and (C := Tryz.checked) (X := fun w _ => laidMetH Tryz.prog laidL w) (fun _ _ _ hh h => h.of_heap hh) own started (by kernel_rfl) Tryz.func3
    (ChangeSpec.witness_shaped (enc := enc) (C := Tryz.checked) (os := os) (X := fun w _ => laidMetH Tryz.prog laidL w) false (World.laidAll Tryz.prog os laidL) #[.slice none 0 0, .slice none 0 0] 8 (World.laidAll_os _ _ _)
      (World.shaped_of_ZipB (by kernel_rfl) (by kernel_rfl)) (by kernel_rfl) (by kernel_rfl) (by kernel_rfl) (laid_met os _)) ?_
  intro W base args ds gs before hval0 hW _ _ hL _
  have hval : ∀ (j : Nat) t v, Tryz.f3.params[j]? = some t → args[j]? = some v → Value.okWide Tryz.prog W .any base t v := hval0
  have hW' := hW
  obtain ⟨p, q, hA0, hV, _, _, _⟩ := hW
  have hA : DataW.TrodAll enc Tryz.prog W 0 (fun _ => true) true Tryz.f3.params.toList args.toList ds p := hA0
  obtain ⟨rfl, _⟩ := trodVars_none hV
  rw [par3] at hA hval
  obtain ⟨v0, v1, d0, d1, p0, p1, rfl, rfl, _, h0, h1⟩ := trodAll_two hA
  have r0 := arg_rows' (P := P) flat3 und22 (by simp) (hval 0 22 v0 rfl rfl) h0
  have r1 := arg_rows' (P := P) flat30 und23 (by simp) (hval 1 23 v1 rfl rfl) h1
  have hp := pow_ok hL
  have s0 := rows_sl (l := [⟨1, 0, pows⟩, rbOf W [.i64] ⟨1, 0, pows⟩ v0, rbOf W [.i64, .i64, .i64, .i64] ⟨1, 0, pows⟩ v1]) (r := 1) r0 rfl
  have s1 := rows_sl (l := [⟨1, 0, pows⟩, rbOf W [.i64] ⟨1, 0, pows⟩ v0, rbOf W [.i64, .i64, .i64, .i64] ⟨1, 0, pows⟩ v1]) (r := 2) r1 rfl
  rw [elems_ints] at s0
  rw [elems_cards] at s1
  obtain ⟨H', hc, _, _⟩ := owes_calls (mkH_wf _) (by rw [mkH_get]; rfl) s0 s1
  have hcalls := law_calls hmix (ext_ok hmix) (fun x hx => by
    simp only [List.mem_cons, List.not_mem_nil, or_false] at hx
    rcases hx with rfl | rfl | rfl
    · exact hp
    · exact rows_ok r0 hp
    · exact rows_ok r1 hp) (gl_ok _) (by
      refine ⟨rows_ids (by simp), rows_ids (by simp), trivial⟩) hc
  have e : concL (mkE [⟨1, 0, pows⟩, rbOf W [.i64] ⟨1, 0, pows⟩ v0, rbOf W [.i64, .i64, .i64, .i64] ⟨1, 0, pows⟩ v1]) [avOf 1 v0, avOf 2 v1] = [v0, v1] := by
    simp only [concL]
    rw [rows_conc r0 rfl, rows_conc r1 rfl]
  rw [e] at hcalls
  refine hcalls.mono fun en W' ⟨he, hb⟩ => ?_
  subst he
  exact ⟨_, rfl, law_post laidOut (by kernel_rfl) rfl ⟨4, by kernel_rfl, und4⟩ hW' hb rfl⟩

theorem owes_row : Rows.BookOwesSaid :=
  OpenClaim.holds_of_wide 3 Tryz.f3 rfl rfl rfl rfl rfl rfl rfl ⟨rfl, rfl, rfl, rfl, rfl⟩ rfl rfl rfl rfl rfl (by kernel_rfl) Tryz.func3 (by kernel_rfl)
    (of_decide_eq_true (by kernel_rfl)) (by unfold Func.isWrapper; first | (rw [if_pos (by decide +kernel)]; kernel_rfl) | (rw [if_neg (by decide +kernel)]; exact ⟨rfl, rfl⟩))
    (fun os started H enc _ => owes_lifted os started H enc)

theorem bookOwes_holds : Rows.BookOwesCardSaid :=
  Claim7.holds_tied_plain_at .later [] [.data, .data, .data, .data, .sentinel, .sentinel, .pinned] true (true, "aa4043c4bdadcbd98aab7e19f20356aa217da42954c5cb6da7be4d0b83658203") true owes_row (fun _ h => by cases h) (by kernel_rfl) (fun _ h => by cases h) bookOwes_row_tie rfl ⟨rfl, rfl⟩ (by kernel_rfl) rfl
    (fun f fn hf hfn => by
      obtain rfl : f = 3 := Option.some.inj ((show Tryz.prog.funcNamed "turret/turretlaw13.BookOwes" = some 3 by kernel_rfl).symm.trans hf) |>.symm
      obtain rfl : fn = Tryz.f3 := (Option.some.inj (Tryz.func3.symm.trans hfn)).symm
      exact ⟨by kernel_rfl, fun j t ht => by
        rw [par3] at ht
        have hm : t ∈ [22, 23] := by simpa using Array.mem_of_getElem? ht
        have hall : ([22, 23].all fun u => !Tryz.prog.wantsStandIn u) = true := by kernel_rfl
        exact (show Tryz.prog.wantsStandIn t = false by simpa using List.all_eq_true.1 hall t hm)⟩)
    (by kernel_rfl)
#print axioms bookOwes_holds
end Go.Proofs.YtipgfljojhdhjaaGreatDoor
