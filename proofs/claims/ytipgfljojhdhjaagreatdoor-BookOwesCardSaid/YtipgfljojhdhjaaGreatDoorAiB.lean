/- Operations that write memory: stores, maps, iterators. append. append, as the evaluator has it. Iterators over maps; clear; all writing operations but calls. clear, a map's entry at an iterator; all writing operations but calls. Calls, rounds, and operations in the text's order: what is asked of them, and one operation's step. Regions whose order is open: what the evaluator's run of one records; what an operation looks at. What an operation gives hangs only on the slots that it looks at; one that reads no memory, not on the memory. Regions whose order is open: how the memory stands when some of the operations have run. Regions whose order is open: a block that is made; code that runs; what is read; the slots. -/
import Derived.Test.YtipgfljojhdhjaaGreatDoorAiA
import Derived.Lib.ConvBytes
import Derived.Lib.UnsafeStr
import Derived.Laws.Externs
import Derived.KernelRfl
set_option linter.all false
set_option linter.unusedVariables false
set_option linter.unusedSimpArgs false
set_option linter.unnecessarySimpa false
set_option linter.deprecated false
namespace Go.Proofs.YtipgfljojhdhjaaGreatDoor
namespace Ai
section
variable {P : Program} {gl : Gl} {e : Emb} {H H' : AH} {env : Tm AV} {a : Act} {w : World}

/-- What a writing operation's run gives. -/
def Gives (P : Program) (s : Sem Next) (e : Emb) (H : AH) (w : World) (v : AV) (H' : AH) : Prop :=
  ∃ e' w' nx, s.run P w = .ok nx w' ∧ (nx = .value (conc e' v) ∨ (nx = .skip ∧ v = undefA)) ∧ Ext e H w e' H' w' ∧ Sim e' H' w' ∧ v.ids e' (· < H'.next)

theorem idsN_iff {n : Nat} {l : List AV} : AV.idsL e (· < n) l ↔ ∀ v ∈ l, v.ids e (· < n) := idsL_iff

def noCells : Obj → Bool
  | .cells .. => false
  | _ => true
theorem run_setObj {b : Nat} {o o' : Obj} (h : w.heap[b]? = some o) (hn : noCells o = true) : (setObj b o').run P w = .ok () (putBlk w b o') := by
  cases o <;> simp_all [setObj, Sem.run, noCells, putBlk]

theorem astore_sound {t : TypeId} {r o : Nat} {v : AV} (h : astore P H t r o v = some H') (hS : Sim e H w) (hv : v.ids e (· < H.next)) :
    ∃ w', (storeVar t ⟨e.blk r, e.base r + o, none⟩ (conc e v)).run P w = .ok () w' ∧ Ext e H w e H' w' ∧ Sim e H' w' := by
  unfold astore at h
  split at h
  · rename_i c g hg
    split at h
    · rename_i n hn
      obtain ⟨h1, h2⟩ := bif_some h
      simp only [Bool.and_eq_true] at h1
      obtain ⟨⟨h3, h4⟩, h5⟩ := h1
      have h3 : v.cells.length = n := Nat.eq_of_beq_eq_true h3
      have h4 : o + n ≤ c.length := Nat.le_of_ble_eq_true h4
      simp only [Option.some.injEq] at h2; subst h2
      obtain ⟨cs, T, lo, hi, k1, k2, k3, k4, k5⟩ := hS.obj r _ hg
      have hb : e.blk r < w.heap.size := (Array.getElem?_eq_some_iff.1 k1).1
      have hrun := run_storeCells (P := P) (concL e v.cells) (b := e.blk r) (o := e.base r + o) (i := 0) k1 (fun j hj => by
        rw [concL_length] at hj
        have hlt : o + j < c.length := by omega
        have hc := k2 (o + j) _ (List.getElem?_eq_getElem hlt)
        refine ⟨?_, ?_⟩
        · have := (Array.getElem?_eq_some_iff.1 hc).1; omega
        · have := k4 rfl (o + j) hlt
          rw [Nat.add_zero, Nat.add_assoc]; exact this)
        (fun x hx => by
          rw [concL_eq] at hx
          obtain ⟨u, hu, rfl⟩ := List.mem_map.1 hx
          exact one_conc (oneAll_iff.1 h5 u hu))
      refine ⟨putBlk w (e.blk r) (.cells (setArr cs (e.base r + o + 0) (concL e v.cells)) T (lo, hi)), ?_, ?_⟩
      · have hsz : ¬ (⟨concL e v.cells⟩ : Array Value).size ≠ n := by simp [concL_length, h3]
        simp only [storeVar, Sem.run_bind, run_size hn, Result.andThen_ok, cells_conc]
        rw [if_neg hsz]
        exact hrun
      · have hcells := cells_ids hv
        have hrel : ObjRel e (· < H.next) (.cells (setL c o v.cells) false g) (putBlk w (e.blk r) (.cells (setArr cs (e.base r + o + 0) (concL e v.cells)) T (lo, hi))) (e.blk r) (e.base r) (e.cap r) := by
          refine ⟨_, T, lo, hi, by rw [putBlk_get hb, if_pos rfl], fun i u hu => ?_, fun u hu => ?_, fun _ i hi => ?_, fun hgn => ⟨(k5 hgn).1, (k5 hgn).2.1, fun h0 hro => ?_⟩⟩
          · rw [Nat.add_zero]; exact setArr_rel _ _ _ _ k2 i u hu
          · rcases setL_mem _ _ _ _ hu with h | h
            · exact k3 u h
            · exact ⟨idsL_iff.1 hcells u h, oneAll_iff.1 h5 u h⟩
          · rw [setL_length] at hi; exact k4 rfl i hi
          · rw [setArr_size]; exact (k5 hgn).2.2 h0 hro
        obtain ⟨s1, s2⟩ := sim_write hS hg (by simp [AObj.wr]) (w' := putBlk w (e.blk r) (.cells (setArr cs (e.base r + o + 0) (concL e v.cells)) T (lo, hi))) putBlk_size
          (fun b hb' => by rw [putBlk_get hb, if_neg hb']) rfl rfl rfl hrel (by simp [AObj.wr])
        exact ⟨s2, s1⟩
    · simp at h
  · simp at h

/-! Maps. -/
theorem sim_map (hS : Sim e H w) {r : Nat} {es : List (AV × AV × Nat)} {c : Nat} (hg : H.get r = some (.map es c)) {es' : List (AV × AV × Nat)} {c' : Nat}
    (hids : ∀ x ∈ es', x.1.ids e (· < H.next) ∧ x.2.1.ids e (· < H.next)) :
    w.heap[e.blk r]? = some (.map ⟨es.map (conE e)⟩ c) ∧ Ext e H w e (H.set r (.map es' c')) (putBlk w (e.blk r) (.map ⟨es'.map (conE e)⟩ c')) ∧ Sim e (H.set r (.map es' c')) (putBlk w (e.blk r) (.map ⟨es'.map (conE e)⟩ c')) := by
  obtain ⟨k1, k2⟩ := hS.obj r _ hg
  have hb : e.blk r < w.heap.size := (Array.getElem?_eq_some_iff.1 k1).1
  obtain ⟨s1, s2⟩ := sim_write hS hg (by simp [AObj.wr]) (o' := .map es' c') (w' := putBlk w (e.blk r) (.map ⟨es'.map (conE e)⟩ c')) putBlk_size
    (fun b hb' => by rw [putBlk_get hb, if_neg hb']) rfl rfl rfl ⟨by rw [putBlk_get hb, if_pos rfl], hids⟩ (by simp [AObj.wr])
  exact ⟨k1, s2, s1⟩

theorem simple_bits {v : AV} (h : simpleV v = true) (n : Nat) : Instr.sameBits n (conc e v) (conc e v) = true := by
  cases v <;> simp [simpleV] at h <;> simp [conc, Instr.sameBits]
  rw [beq_toListBytes]; simp
theorem kindFits_simple {t : TypeId} {v : AV} (h : kindFits P t v = true) : simpleV v = true := by
  unfold kindFits at h
  split at h <;> simp_all [simpleV]
theorem fieldsFit_simple : ∀ {fs : List Field} {xs : List AV}, fieldsFit P fs xs = true → ∀ v ∈ xs, simpleV v = true
  | [], [], _, v, hv => by simp at hv
  | [], _ :: _, h, _, _ => by simp [fieldsFit] at h
  | _ :: _, [], h, _, _ => by simp [fieldsFit] at h
  | f :: fs, x :: xs, h, v, hv => by
      simp only [fieldsFit, Bool.and_eq_true] at h
      rcases List.mem_cons.1 hv with rfl | hv
      · exact kindFits_simple h.1
      · exact fieldsFit_simple h.2 v hv
theorem key_bits {k : TypeId} {key : AV} (h : keyOk P k key = true) : Instr.sameBits 10000 (conc e key) (conc e key) = true := by
  unfold keyOk at h
  split at h
  · simp [conc, Instr.sameBits]
  · rename_i fs ks hu
    unfold plainStruct at h
    rw [hu] at h
    simp only [Bool.and_eq_true] at h
    have hs := fieldsFit_simple h.1.1.2
    show Instr.sameBits (9999 + 1) _ _ = true
    simp only [conc, Instr.sameBits, Bool.and_eq_true]
    refine ⟨by simp, ?_⟩
    rw [List.all_eq_true]
    rintro ⟨x, y⟩ hxy
    have hxy' : x = y ∧ x ∈ concL e ks := by
      have := List.of_mem_zip hxy
      have he : x = y := by
        clear this
        generalize concL e ks = l at hxy
        induction l with
        | nil => simp at hxy
        | cons a l ih =>
          simp only [List.zip_cons_cons, List.mem_cons, Prod.mk.injEq] at hxy
          rcases hxy with ⟨rfl, rfl⟩ | h
          · rfl
          · exact ih h
      exact ⟨he, this.1⟩
    obtain ⟨rfl, hx⟩ := hxy'
    rw [concL_eq] at hx
    obtain ⟨u, hu', rfl⟩ := List.mem_map.1 hx
    exact simple_bits (hs u hu') _
  · simp at h

theorem aeq_true {t : TypeId} {x y : AV} {k : TypeId} (hk : keyOk P k x = true) (h : aeq P t x y = some true) : x = y := by
  unfold keyOk at hk
  split at hk
  · cases y <;> simp only [aeq, reduceCtorEq] at h
    obtain ⟨h1, h2⟩ := bif_some h
    have := of_decide_eq_true h1; subst this
    simp only [Option.some.injEq] at h2
    have : _ = _ := eq_of_beq h2
    rw [this]
  · cases y <;> simp only [aeq, reduceCtorEq] at h
    obtain ⟨h1, h2⟩ := bif_some h
    simp only [Option.some.injEq] at h2
    rw [beqL_eq _ _ h2]
  · simp at hk

theorem setVal_ids {es : List (AV × AV × Nat)} {i : Nat} {v : AV} {M : Nat → Prop} (h : ∀ x ∈ es, x.1.ids e M ∧ x.2.1.ids e M) (hv : v.ids e M) : ∀ x ∈ setVal es i v, x.1.ids e M ∧ x.2.1.ids e M := by
  unfold setVal
  split
  · rename_i k u b hk
    intro x hx
    rcases List.mem_or_eq_of_mem_set hx with hx | rfl
    · exact h x hx
    · exact ⟨(h _ (List.mem_of_getElem? hk)).1, hv⟩
  · exact h

theorem setVal_conc {es : List (AV × AV × Nat)} {i : Nat} {v key u : AV} {b : Nat} (h : es[i]? = some (key, u, b)) (f : MapEntry → MapEntry)
    (hf : ∀ u b, f (conE e (key, u, b)) = conE e (key, v, b)) : (⟨es.map (conE e)⟩ : Array MapEntry).modify i f = ⟨(setVal es i v).map (conE e)⟩ := by
  unfold setVal
  rw [h]
  apply Array.ext'
  simp only [Array.toList_modify, List.map_set]
  apply List.ext_getElem?
  intro j
  rw [List.getElem?_modify, List.getElem?_set]
  by_cases hj : i = j
  · subst hj
    have hlt : i < es.length := by
      rcases Nat.lt_or_ge i es.length with h' | h'
      · exact h'
      · rw [List.getElem?_eq_none h'] at h; simp at h
    simp only [List.getElem?_map, h, Option.map_some, if_true, List.length_map, hlt]
    show some (f (conE e (key, u, b))) = _
    rw [hf]
  · simp [hj]

theorem aupdate_sound {t : TypeId} {m k v : AV} (h : aupdate P H t m k v = some H') (hS : Sim e H w) (hm : m.ids e (· < H.next)) (hk : k.ids e (· < H.next)) (hv : v.ids e (· < H.next)) :
    ∃ w', (Instr.mapUpdate t (conc e m) (conc e k) (conc e v)).run P w = .ok () w' ∧ Ext e H w e H' w' ∧ Sim e H' w' := by
  unfold aupdate at h
  split at h
  · rename_i kt el r hu
    split at h
    · rename_i es c hg
      obtain ⟨hko, h2⟩ := bif_some h
      obtain ⟨_, kids⟩ := hS.obj r _ hg
      have hck := run_checkKey (P := P) (e := e) (w := w) hko false
      split at h2
      · rename_i i u hf
        simp only [Option.some.injEq] at h2; subst h2
        obtain ⟨key', b, h3, _, h5⟩ := findA_ids hf
        have := aeq_true hko h5; subst this
        rw [Nat.sub_zero] at h3
        obtain ⟨k1, k2, k3⟩ := sim_map hS hg (es' := setVal es i v) (c' := c) (setVal_ids kids hv)
        refine ⟨_, ?_, k2, k3⟩
        have hr := run_findKey (e := e) (w := w) hko hf
        have hkey : ((⟨es.map (conE e)⟩ : Array MapEntry)[i]?).map (·.key) = some (conc e k) := by
          rw [List.getElem?_toArray, List.getElem?_map, h3]; rfl
        simp only [Instr.mapUpdate, Sem.run_bind, run_underlying hu, Result.andThen_ok, conc, run_getMap k1, hck, hr, conR, Option.map_some, hkey, Option.getD_some, Instr.keyThatStays, key_bits hko, if_true, Sem.run_pure]
        rw [run_setObj k1 rfl, setVal_conc h3 _ (fun u b => rfl)]
      · rename_i hf
        simp only [Option.some.injEq] at h2; subst h2
        obtain ⟨k1, k2, k3⟩ := sim_map hS hg (es' := es ++ [(k, v, c)]) (c' := c + 1) (by
          intro x hx
          rcases List.mem_append.1 hx with hx | hx
          · exact kids x hx
          · simp only [List.mem_singleton] at hx; subst hx; exact ⟨hk, hv⟩)
        refine ⟨_, ?_, k2, k3⟩
        have hr := run_findKey (e := e) (w := w) hko hf
        simp only [Instr.mapUpdate, Sem.run_bind, run_underlying hu, Result.andThen_ok, conc, run_getMap k1, hck, hr, conR, Option.map_none]
        rw [run_setObj k1 rfl]
        simp [conE]
      · simp at h2
    · simp at h
  · simp at h

theorem aentry_sound {t : TypeId} {m k v : AV} (h : aentry P H t m k = some (v, H')) (hS : Sim e H w) (hm : m.ids e (· < H.next)) (hk : k.ids e (· < H.next)) :
    ∃ w', (Instr.mapEntry t (conc e m) (conc e k)).run P w = .ok (conc e v) w' ∧ Ext e H w e H' w' ∧ Sim e H' w' ∧ v.ids e (· < H'.next) := by
  unfold aentry at h
  split at h
  · rename_i kt el r hu
    split at h
    · rename_i es c z hg hz
      obtain ⟨hko, h2⟩ := bif_some h
      obtain ⟨k1', kids⟩ := hS.obj r _ hg
      have hck := run_checkKey (P := P) (e := e) (w := w) hko false
      split at h2
      · rename_i i u hf
        obtain ⟨key', b, h3, _, h5⟩ := findA_ids hf
        have := aeq_true hko h5; subst this
        rw [Nat.sub_zero] at h3
        rw [h3] at h2
        simp only [Option.some.injEq, Prod.mk.injEq] at h2
        obtain ⟨rfl, rfl⟩ := h2
        have hr := run_findKey (e := e) (w := w) hko hf
        have hkey : ((⟨es.map (conE e)⟩ : Array MapEntry)[i]?).map (·.key) = some (conc e k) := by
          rw [List.getElem?_toArray, List.getElem?_map, h3]; rfl
        refine ⟨w, ?_, Ext.refl _ _ _, hS, ?_⟩
        · simp only [Instr.mapEntry, Sem.run_bind, run_underlying hu, Result.andThen_ok, conc, run_getMap k1', hck, hr, conR, Option.map_some, hkey, Option.getD_some, Instr.keyThatStays, key_bits hko, if_true, Sem.run_pure]
          rw [run_setObj k1' rfl]
          have hsame : (⟨es.map (conE e)⟩ : Array MapEntry).modify i (fun e_1 => { key := conc e k, val := e_1.val, born := e_1.born }) = ⟨es.map (conE e)⟩ := by
            apply Array.ext'
            simp only [Array.toList_modify]
            apply List.ext_getElem?
            intro j
            rw [List.getElem?_modify]
            by_cases hj : i = j
            · subst hj; simp [List.getElem?_map, h3, conE]
            · simp [hj]
          rw [hsame, putBlk_same k1']
          simp [concL, conc, goInt, h3, conE]
        · simp only [AV.ids, AV.idsL, and_true]; exact (kids _ (List.mem_of_getElem? h3)).2
      · rename_i hf
        simp only [Option.some.injEq, Prod.mk.injEq] at h2
        obtain ⟨rfl, rfl⟩ := h2
        obtain ⟨hz1, hz2⟩ := run_zero hz e w
        obtain ⟨k1, k2, k3⟩ := sim_map hS hg (es' := es ++ [(k, z, c)]) (c' := c + 1) (by
          intro x hx
          rcases List.mem_append.1 hx with hx | hx
          · exact kids x hx
          · simp only [List.mem_singleton] at hx; subst hx; exact ⟨hk, hz2 _⟩)
        refine ⟨_, ?_, k2, k3, ?_⟩
        · have hr := run_findKey (e := e) (w := w) hko hf
          simp only [Instr.mapEntry, Sem.run_bind, run_underlying hu, Result.andThen_ok, conc, run_getMap k1, hck, hr, conR, Option.map_none, hz1]
          rw [run_setObj k1 rfl]
          simp [conE, concL, conc, goInt]
        · simp only [AV.ids, AV.idsL, and_true]; exact hz2 _
      · simp at h2
    · simp at h
  · simp at h

theorem bornAt_sound {b : Int} : ∀ {es : List (AV × AV × Nat)} {i n : Nat}, bornAt b es i = some n →
    i ≤ n ∧ (es.map (conE e)).findIdx? (fun x => (x.born : Int) == b) = some (n - i) ∧ ∃ x, es[n - i]? = some x
  | [], i, n, h => by simp [bornAt] at h
  | (x, u, c) :: es, i, n, h => by
      unfold bornAt at h
      cases hd : decide ((c : Int) = b) with
      | true =>
        rw [hd] at h
        simp only [cond_true, Option.some.injEq] at h; subst h
        have hd := of_decide_eq_true hd
        refine ⟨Nat.le_refl _, ?_, (x, u, c), by simp⟩
        rw [List.map_cons, List.findIdx?_cons]
        simp [conE, hd]
      | false =>
        rw [hd] at h
        simp only [cond_false] at h
        have hd := of_decide_eq_false hd
        obtain ⟨h1, h2, h3⟩ := bornAt_sound h
        have e1 : n - i = (n - (i + 1)) + 1 := by omega
        refine ⟨by omega, ?_, ?_⟩
        · rw [List.map_cons, List.findIdx?_cons, e1]
          simp [conE, hd, h2]
        · rw [e1]; simpa using h3

theorem aentryStore_sound {t : TypeId} {m s v : AV} (h : aentryStore H m s v = some H') (hS : Sim e H w) (hv : v.ids e (· < H.next)) :
    ∃ w', (Instr.entryStore t (conc e m) (conc e s) (conc e v)).run P w = .ok () w' ∧ Ext e H w e H' w' ∧ Sim e H' w' := by
  unfold aentryStore at h
  split at h
  · rename_i r k b
    split at h
    · rename_i es c hg
      obtain ⟨_, kids⟩ := hS.obj r _ hg
      split at h
      · rename_i i hi
        simp only [Option.some.injEq] at h; subst h
        obtain ⟨_, hf, ⟨key, u, b'⟩, hx⟩ := bornAt_sound (e := e) hi
        rw [Nat.sub_zero] at hf hx
        obtain ⟨k1, k2, k3⟩ := sim_map hS hg (es' := setVal es i v) (c' := c) (setVal_ids kids hv)
        refine ⟨_, ?_, k2, k3⟩
        have hf' : (⟨es.map (conE e)⟩ : Array MapEntry).findIdx? (fun x => (x.born : Int) == b) = some i := by
          rw [List.findIdx?_toArray]; exact hf
        simp only [Instr.entryStore, conc, Sem.run_bind, run_getMap k1, Result.andThen_ok, asInt, asIntOf, Sem.run_pure, hf']
        rw [run_setObj k1 rfl, setVal_conc hx _ (fun u b => rfl)]
      · simp at h
    · simp at h
  · simp at h

end
end Ai
end Go.Proofs.YtipgfljojhdhjaaGreatDoor

namespace Go.Proofs.YtipgfljojhdhjaaGreatDoor
namespace Ai
section
variable {P : Program} {gl : Gl} {e : Emb} {M : Nat → Prop} {get : Nat → Option AObj} {H H' : AH} {w : World}

theorem growBy_le (m : Nat) : ∀ (k c : Nat), Builtin.growBy m k c ≤ max c (m + (m + 768) / 4)
  | 0, c => by unfold Builtin.growBy; omega
  | k + 1, c => by
      unfold Builtin.growBy
      split
      · omega
      · have := growBy_le m k (c + (c + 768) / 4)
        omega
theorem nextcap_le {m c : Nat} (h : c < m) : Builtin.nextslicecap m c ≤ 2 * m + 512 := by
  unfold Builtin.nextslicecap
  split
  · omega
  · split
    · omega
    · have := growBy_le m 4 c
      omega

/-- How many elements, as 'append' asks. -/
def nOf (zeros : Bool) (elem : TypeId) (x : Value) : Sem Nat :=
  if zeros then do
      let l := IntKind.i64.wrap (← asInt x)
      if l < 0 then runtimePanic (.error "makeslice: len out of range")
      if l * (← typeInfo elem).bytes > 2 ^ 48 then
        let made ← choose (.extern "append.ofMake.carriedOut" 2)
        runtimePanic (.error (if made == 1 then "makeslice: len out of range" else "growslice: len out of range"))
      pure l.toNat
    else Builtin.lenOf x
def newOf (zeros : Bool) (elem : TypeId) (size n : Nat) (x : Value) : Sem (Array Value) :=
  if !zeros then Builtin.firstCells size n x
  else if n * size = 0 then pure #[]
  else do pure (Builtin.zeroCells (← zeroValue elem).cells n)

theorem zeroCells_eq (z : AV) (n : Nat) : Builtin.zeroCells (⟨concL e z.cells⟩ : Array Value) n = ⟨concL e (repZ z.cells n)⟩ := by
  have hs : (⟨concL e z.cells⟩ : Array Value).size = z.cells.length := by simp [concL_length]
  have := zeros_eq (e := e) z.cells n
  unfold Builtin.zeroCells
  rw [hs] at this ⊢
  exact this

theorem anew_sound {el : TypeId} {i : TypeInfo} {z : AV} {zeros : Bool} {x : AV} {new : List AV} {n : Nat} (h : anew P get el i zeros x = some (new, n)) (hi : P.info? el = some i) (hz : aZero P el = some z)
    (hV : View e M get w) (hx : x.ids e M) (hl : new.length = n * i.size) :
    (nOf zeros el (conc e x)).run P w = .ok n w ∧ (∀ w', w'.heap = w.heap → (newOf zeros el i.size n (conc e x)).run P w' = .ok ⟨concL e new⟩ w') ∧ AV.idsL e M new := by
  unfold anew at h
  split at h
  · cases zeros <;> simp only [cond_true, cond_false, Option.some.injEq, reduceCtorEq, Prod.mk.injEq] at h
    obtain ⟨rfl, rfl⟩ := h
    exact ⟨by simp [nOf, Builtin.lenOf, conc], fun w' _ => by simp [newOf, Builtin.firstCells, conc, concL], by simp [AV.idsL]⟩
  · rename_i r o m kn c
    cases zeros <;> simp only [cond_true, cond_false, reduceCtorEq] at h
    split at h
    · rename_i cs hcs
      split at h
      · rename_i l hcut
        simp only [Option.some.injEq, Prod.mk.injEq] at h
        obtain ⟨rfl, rfl⟩ := h
        have hr : M r := by simp only [AV.ids] at hx; exact hx.1
        refine ⟨by simp [nOf, Builtin.lenOf, conc], fun w' hw' => ?_, (run_loadCells_cut (P := P) hV hcs hr hcut).2.1⟩
        have hV' : View e M get w' := fun r o hg hr => (hV r o hg hr).congr (fun _ _ => ⟨rfl, rfl, rfl⟩) (fun _ h => h) (fun _ => by rw [hw'])
        simp [newOf, Builtin.firstCells, conc, (run_loadCells_cut (P := P) hV' hcs hr hcut).1]
      · simp at h
    · simp at h
  · rename_i s
    cases zeros <;> simp only [cond_true, cond_false, Option.some.injEq, reduceCtorEq, Prod.mk.injEq] at h
    obtain ⟨rfl, rfl⟩ := h
    refine ⟨by simp [nOf, Builtin.lenOf, conc, ByteArray.size], fun w' _ => ?_, ?_⟩
    · have : (⟨s.toArray⟩ : ByteArray).extract 0 s.length = ⟨s.toArray⟩ := by
        apply ByteArray.ext
        apply Array.ext'
        simp [ByteArray.data_extract, List.extract_eq_take_drop]
      simp [newOf, Builtin.firstCells, conc, this, concL_eq]
    · rw [idsL_iff]; intro v hv
      obtain ⟨b, _, rfl⟩ := List.mem_map.1 hv
      simp [AV.ids]
  · rename_i kk k
    obtain ⟨h1, h2⟩ := bif_some h
    simp only [Bool.and_eq_true, decide_eq_true_eq] at h1
    obtain ⟨⟨⟨h3, h4⟩, h5⟩, h6⟩ := h1
    subst h3
    rw [hz] at h2
    simp only [Option.some.injEq, Prod.mk.injEq] at h2
    obtain ⟨rfl, rfl⟩ := h2
    have w1 : IntKind.i64.wrap k = k := by unfold IntKind.wrap; simp [IntKind.bits, IntKind.signed]; omega
    refine ⟨?_, fun w' _ => ?_, ?_⟩
    · simp only [nOf, if_true, conc, asInt, asIntOf, Sem.run_bind, Sem.run_pure, Result.andThen_ok, w1]
      rw [if_neg (by omega)]
      simp only [Sem.run_bind, typeInfo, run_program, Result.andThen_ok, hi, Sem.run_pure]
      rw [if_neg (by generalize k * (i.bytes : Int) = q at *; omega)]
      rfl
    · obtain ⟨hz1, _⟩ := run_zero hz e w'
      by_cases h0 : k.toNat * i.size = 0
      · have hl' : (repZ z.cells k.toNat) = [] := List.length_eq_zero_iff.1 (by rw [hl, h0])
        simp [newOf, h0, hl', concL]
      · simp [newOf, h0, hz1, cells_conc, zeroCells_eq]
    · obtain ⟨_, hz2⟩ := run_zero hz e w
      rw [idsL_iff]; intro v hv
      exact idsL_iff.1 (cells_ids (hz2 M)) v (repZ_mem _ _ _ hv)
  · simp at h

/-- What the second argument's type says. -/
def ZK (P : Program) (ts : Array TypeId) (zeros : Bool) : Prop :=
  (ts[1]? = none ∧ zeros = false) ∨ ∃ t' d, ts[1]? = some t' ∧ P.underlying t' = some d ∧ (match d with | .int _ => true | _ => false) = zeros

theorem zk_of {ts : Array TypeId} {zeros : Bool} (h : intType P (ts.toList.drop 1) = some zeros) : ZK P ts zeros := by
  have h1 : ts[1]? = (ts.toList.drop 1)[0]? := by simp
  cases hd : ts.toList.drop 1 with
  | nil => rw [hd] at h h1; simp only [intType, Option.some.injEq] at h; exact .inl ⟨by simpa using h1, h.symm⟩
  | cons t' r =>
    rw [hd] at h h1
    unfold intType at h
    split at h
    · rename_i heq; simp at heq
    · rename_i t'' r' heq
      obtain ⟨rfl, rfl⟩ := List.cons.inj heq
      split at h
      · rename_i k hk
        simp only [Option.some.injEq] at h
        exact .inr ⟨_, _, by simpa using h1, hk, h⟩
      · rename_i d hne hk
        simp only [Option.some.injEq] at h
        refine .inr ⟨_, _, by simpa using h1, hk, ?_⟩
        subst h
        cases d <;> first | rfl | (rename_i k; exact absurd rfl (hne k))
      · simp at h

/-- What is known of the count, in the two forms. -/
def CountIs (P : Program) (w : World) (i : TypeInfo) (zeros : Bool) (x : Value) (n : Nat) : Prop :=
  (zeros = false → (Builtin.lenOf x).run P w = .ok n w) ∧ (zeros = true → ∃ k l, x = .int k l ∧ IntKind.i64.wrap l = l ∧ ¬ l < 0 ∧ ¬ l * (i.bytes : Int) > 2 ^ 48 ∧ n = l.toNat)

theorem append_fits {ts : Array TypeId} {ty : TypeId} {args : Array Value} {t el : TypeId} {i : TypeInfo} {zeros : Bool} {base : Option Addr} {sLen sCap n : Nat} {x : Value} {new : Array Value} {w : World}
    (ht : ts[0]? = some t) (ha : args[0]? = some (.slice base sLen sCap)) (hx : args[1]? = some x) (hu : P.underlying t = some (.slice el)) (hi : P.info? el = some i)
    (hzk : ZK P ts zeros) (hc : CountIs P w i zeros x n) (hnew : (newOf zeros el i.size n x).run P w = .ok new w) (hfit : sLen + n ≤ sCap) :
    (Builtin.append_ ts ty args).run P w = match base with
      | some a => ((storeCells (a.add (sLen * i.size)) new.toList).run P w).andThen fun _ w => .ok (.slice base (sLen + n) sCap) w
      | none => .ok (.slice base (sLen + n) sCap) w := by
  have hsz : (sizeOf el).run P w = .ok i.size w := by simp [sizeOf, typeInfo, hi]
  have hti : (typeInfo el).run P w = .ok i w := by simp [typeInfo, hi]
  cases zeros with
  | false =>
    have hl := hc.1 rfl
    simp only [newOf, Bool.not_false, if_true] at hnew
    rcases hzk with ⟨h1, _⟩ | ⟨t', d, h1, hk, hd⟩
    · simp only [Builtin.append_, ht, ha, hx, h1, Sem.run_bind, run_underlying hu, Result.andThen_ok, hsz, Sem.run_pure, Bool.false_eq_true, if_false, hl, Bool.not_false, if_true, Sem.run_ite, if_pos hfit, hnew]
      cases base <;> simp
    · cases d <;> first
        | (cases hd; done)
        | (simp only [Builtin.append_, ht, ha, hx, h1, Sem.run_bind, run_underlying hu, run_underlying hk, Result.andThen_ok, hsz, Sem.run_pure, Bool.false_eq_true, if_false, hl, Bool.not_false, if_true, Sem.run_ite, if_pos hfit, hnew]
           cases base <;> simp)
  | true =>
    obtain ⟨k, l, rfl, h2, h3, h4, rfl⟩ := hc.2 rfl
    simp only [newOf, Bool.not_true, Bool.false_eq_true, if_false, Sem.run_ite, Sem.run_bind, Sem.run_pure] at hnew
    rcases hzk with ⟨_, h1⟩ | ⟨t', d, h1, hk, hd⟩
    · cases h1
    · cases d <;> first
        | (cases hd; done)
        | (simp only [Builtin.append_, ht, ha, hx, h1, Sem.run_bind, run_underlying hu, run_underlying hk, Result.andThen_ok, hsz, Sem.run_pure, if_true, asInt, asIntOf, h2, Sem.run_ite, if_neg h3, hti, if_neg h4, if_pos hfit, Bool.not_true, Bool.false_eq_true, if_false]
           rw [hnew]
           cases base <;> simp)

theorem append_grows {ts : Array TypeId} {ty : TypeId} {args : Array Value} {t el : TypeId} {i : TypeInfo} {z : Value} {zeros : Bool} {base : Option Addr} {sLen sCap n : Nat} {x : Value} {new old : Array Value} {w : World}
    (ht : ts[0]? = some t) (ha : args[0]? = some (.slice base sLen sCap)) (hx : args[1]? = some x) (hu : P.underlying t = some (.slice el)) (hi : P.info? el = some i) (hz : ∀ w, (zeroValue el).run P w = .ok z w)
    (hzk : ZK P ts zeros) (hc : CountIs P w i zeros x n) (hnew : (newOf zeros el i.size n x).run P w.drew = .ok new w.drew)
    (hold : (Builtin.firstCells i.size sLen (.slice base sLen sCap)).run P w.drew = .ok old w.drew) (hfit : ¬ sLen + n ≤ sCap)
    (hbig : ¬ (((sLen + n : Nat) : Int) > IntKind.i64.max)) (hcap : ¬ Builtin.nextslicecap (sLen + n) sCap * i.bytes > 2 ^ 48) :
    ∃ newCap, sLen + n ≤ newCap ∧ (Builtin.append_ ts ty args).run P w = .ok (.slice (some ⟨w.heap.size, 0, none⟩) (sLen + n) newCap)
      { w.drew with heap := w.heap.push (.cells (old ++ new ++ Builtin.zeroCells z.cells (newCap - (sLen + n))) el) } := by
  have hsz : (sizeOf el).run P w = .ok i.size w := by simp [sizeOf, typeInfo, hi]
  have hti : ∀ w, (typeInfo el).run P w = .ok i w := fun w => by simp [typeInfo, hi]
  have hch : (choose (.appendCap (sLen + n) sCap el)).run P w = .ok ((sLen + n) + (w.tape w.drawn (.appendCap (sLen + n) sCap el)) % (2 ^ 63 - (sLen + n))) w.drew := by
    rw [run_choose]; rfl
  have hbig' : ¬ (((sLen + n : Nat) : Int) > IntKind.i64.max ∧ ((zeros : Bool) = true ∨ i.bytes = 0)) := fun h => hbig h.1
  refine ⟨(sLen + n) + (w.tape w.drawn (.appendCap (sLen + n) sCap el)) % (2 ^ 63 - (sLen + n)), Nat.le_add_right _ _, ?_⟩
  cases zeros with
  | false =>
    have hl := hc.1 rfl
    simp only [newOf, Bool.not_false, if_true] at hnew
    rcases hzk with ⟨h1, _⟩ | ⟨t', d, h1, hk, hd⟩
    · simp only [Builtin.append_, ht, ha, hx, h1, Sem.run_bind, run_underlying hu, Result.andThen_ok, hsz, Sem.run_pure, Bool.false_eq_true, if_false, hl, Bool.not_false, if_true, Sem.run_ite, if_neg hfit, hti]
      rw [if_neg (show ¬ (_ ∧ _) from fun h => hbig h.1), if_neg hcap, hch]
      simp only [Result.andThen_ok, hti, run_askRoom, hold, hnew, hz, newRow, Sem.run_bind, run_newObj, Sem.run_pure]
      rfl
    · cases d <;> first
        | (cases hd; done)
        | (simp only [Builtin.append_, ht, ha, hx, h1, Sem.run_bind, run_underlying hu, run_underlying hk, Result.andThen_ok, hsz, Sem.run_pure, Bool.false_eq_true, if_false, hl, Bool.not_false, if_true, Sem.run_ite, if_neg hfit, hti]
           rw [if_neg (show ¬ (_ ∧ _) from fun h => hbig h.1), if_neg hcap, hch]
           simp only [Result.andThen_ok, hti, run_askRoom, hold, hnew, hz, newRow, Sem.run_bind, run_newObj, Sem.run_pure]
           rfl)
  | true =>
    obtain ⟨k, l, rfl, h2, h3, h4, rfl⟩ := hc.2 rfl
    simp only [newOf, Bool.not_true, Bool.false_eq_true, if_false, Sem.run_ite, Sem.run_bind, Sem.run_pure] at hnew
    rcases hzk with ⟨_, h1⟩ | ⟨t', d, h1, hk, hd⟩
    · cases h1
    · cases d <;> first
        | (cases hd; done)
        | (simp only [Builtin.append_, ht, ha, hx, h1, Sem.run_bind, run_underlying hu, run_underlying hk, Result.andThen_ok, hsz, Sem.run_pure, if_true, asInt, asIntOf, h2, Sem.run_ite, if_neg h3, hti, if_neg h4, if_neg hfit, Bool.not_true, Bool.false_eq_true, if_false]
           rw [if_neg (show ¬ (_ ∧ _) from fun h => hbig h.1), if_neg hcap, hch]
           simp only [Result.andThen_ok, hti, run_askRoom, hold]
           rw [hnew]
           simp only [Result.andThen_ok, hz, newRow, Sem.run_bind, run_newObj, Sem.run_pure]
           rfl)

end
end Ai
end Go.Proofs.YtipgfljojhdhjaaGreatDoor

namespace Go.Proofs.YtipgfljojhdhjaaGreatDoor
namespace Ai
section
variable {P : Program} {gl : Gl} {e : Emb} {H H' : AH} {w : World}

theorem Sim.view (hS : Sim e H w) : View e (· < H.next) H.get w := fun r o hg _ => hS.obj r o hg

theorem count_of {el : TypeId} {i : TypeInfo} {zeros : Bool} {x : AV} {new : List AV} {n : Nat} {get : Nat → Option AObj} (h : anew P get el i zeros x = some (new, n)) : CountIs P w i zeros (conc e x) n := by
  unfold anew at h
  split at h
  · cases zeros <;> simp only [cond_true, cond_false, Option.some.injEq, reduceCtorEq, Prod.mk.injEq] at h
    obtain ⟨rfl, rfl⟩ := h
    exact ⟨fun _ => by simp [Builtin.lenOf, conc], fun h => by cases h⟩
  · cases zeros <;> simp only [cond_true, cond_false, reduceCtorEq] at h
    split at h
    · split at h
      · simp only [Option.some.injEq, Prod.mk.injEq] at h
        obtain ⟨rfl, rfl⟩ := h
        exact ⟨fun _ => by simp [Builtin.lenOf, conc], fun h => by cases h⟩
      · simp at h
    · simp at h
  · cases zeros <;> simp only [cond_true, cond_false, Option.some.injEq, reduceCtorEq, Prod.mk.injEq] at h
    obtain ⟨rfl, rfl⟩ := h
    exact ⟨fun _ => by simp [Builtin.lenOf, conc, ByteArray.size], fun h => by cases h⟩
  · rename_i kk k
    obtain ⟨h1, h2⟩ := bif_some h
    simp only [Bool.and_eq_true, decide_eq_true_eq] at h1
    obtain ⟨⟨⟨h3, h4⟩, h5⟩, h6⟩ := h1
    subst h3
    split at h2
    · simp only [Option.some.injEq, Prod.mk.injEq] at h2
      obtain ⟨_, rfl⟩ := h2
      refine ⟨(fun h => by cases h), fun _ => ⟨kk, k, rfl, ?_, (by omega), ?_, rfl⟩⟩
      · unfold IntKind.wrap; simp [IntKind.bits, IntKind.signed]; omega
      · generalize k * (i.bytes : Int) = q at *; omega
    · simp at h2
  · simp at h

theorem storeL {vs : List AV} {b base o : Nat} {c : List AV} {cs : Array Value} {T : TypeId} {lo hi : Nat} (k1 : w.heap[b]? = some (.cells cs T (lo, hi)))
    (hlt : ∀ j, j < vs.length → base + o + j < cs.size) (hfr : ∀ j, j < vs.length → ¬ (lo ≤ base + o + j ∧ base + o + j < hi)) (h5 : ∀ v ∈ vs, v.one = true) :
    (storeCells ⟨b, base + o, none⟩ (concL e vs)).run P w = .ok () (putBlk w b (.cells (setArr cs (base + o) (concL e vs)) T (lo, hi))) := by
  have := run_storeCells (P := P) (concL e vs) (b := b) (o := base + o) (i := 0) k1 (fun j hj => by
    rw [concL_length] at hj
    exact ⟨by have := hlt j hj; omega, by have := hfr j hj; rw [Nat.add_zero]; exact this⟩)
    (fun x hx => by
      rw [concL_eq] at hx
      obtain ⟨u, hu, rfl⟩ := List.mem_map.1 hx
      exact one_conc (h5 u hu))
  rw [Nat.add_zero] at this
  exact this

theorem setArr_get_lt : ∀ (vs : List Value) (cs : Array Value) (o i : Nat), i < o → (setArr cs o vs)[i]? = cs[i]?
  | [], cs, o, i, h => rfl
  | v :: vs, cs, o, i, h => by rw [setArr, setArr_get_lt vs _ _ _ (by omega), Array.getElem?_setIfInBounds, if_neg (by omega)]
theorem setArr_get_new : ∀ (vs : List Value) (cs : Array Value) (o i : Nat) (v : Value), vs[i]? = some v → o + vs.length ≤ cs.size → (setArr cs o vs)[o + i]? = some v
  | [], cs, o, i, v, h, _ => by simp at h
  | u :: vs, cs, o, i, v, h, hs => by
      simp only [List.length_cons] at hs
      rw [setArr]
      cases i with
      | zero =>
        simp only [List.getElem?_cons_zero, Option.some.injEq] at h; subst h
        rw [Nat.add_zero, setArr_get_lt _ _ _ _ (by omega), Array.getElem?_setIfInBounds]
        simp; omega
      | succ i =>
        rw [List.getElem?_cons_succ] at h
        have := setArr_get_new vs (cs.setIfInBounds o u) (o + 1) i v h (by simp; omega)
        have e1 : o + (i + 1) = o + 1 + i := by omega
        rw [e1]; exact this

/-- The elements of a slice, read anew. -/
theorem firstCells_cut (hS : Sim e H w) {r o len cap sz : Nat} {cs old : List AV} {ro : Bool} {g : Nat} (hg : H.get r = some (.cells cs ro g)) (hc : cut cs o (len * sz) = some old) (w' : World) (hw : w'.heap = w.heap) :
    (Builtin.firstCells sz len (.slice (some ⟨e.blk r, e.base r + o, none⟩) len cap)).run P w' = .ok ⟨concL e old⟩ w' ∧ AV.idsL e (· < H.next) old ∧ ∀ v ∈ old, v.one = true := by
  have hV : View e (· < H.next) H.get w' := fun r o hg _ => (hS.obj r o hg).congr (fun _ _ => ⟨rfl, rfl, rfl⟩) (fun _ h => h) (fun _ => by rw [hw])
  have hcs : cellsAt H.get r = some cs := by unfold cellsAt; rw [hg]
  obtain ⟨h1, h2, h3⟩ := run_loadCells_cut (P := P) hV hcs (hS.lt r _ hg) hc
  exact ⟨by simp [Builtin.firstCells, h1], h2, h3⟩

theorem aappend_sound {ts : Array TypeId} {ty : TypeId} {args : Array Value} {t : TypeId} {zeros : Bool} {s x v : AV} (h : aappend P H t zeros s x = some (v, H')) (hS : Sim e H w)
    (hs : s.ids e (· < H.next)) (hx : x.ids e (· < H.next)) (ht : ts[0]? = some t) (ha : args[0]? = some (conc e s)) (hxa : args[1]? = some (conc e x)) (hzk : ZK P ts zeros) :
    ∃ e' w', (Builtin.append_ ts ty args).run P w = .ok (conc e' v) w' ∧ Ext e H w e' H' w' ∧ Sim e' H' w' ∧ v.ids e' (· < H'.next) := by
  unfold aappend at h
  split at h
  · rename_i el hu
    split at h
    · simp at h
    · rename_i i hi
      split at h
      · simp at h
      · rename_i z hz
        split at h
        · simp at h
        · rename_i new n hnew
          obtain ⟨h1, h2⟩ := bif_some h
          simp only [Bool.and_eq_true] at h1
          obtain ⟨⟨⟨⟨h3, h4⟩, h5⟩, h6⟩, h65⟩ := h1
          have h65 : i.size < 65536 := Nat.le_of_ble_eq_true h65
          have hgm : gcode i.size el % 65536 = i.size := by unfold gcode; omega
          have hgd : gcode i.size el / 65536 = el := by unfold gcode; omega
          have h3 : z.cells.length = i.size := Nat.eq_of_beq_eq_true h3
          have h4 : new.length = n * i.size := Nat.eq_of_beq_eq_true h4
          have h5 := oneAll_iff.1 h5
          have h6 : 1 ≤ i.size := Nat.le_of_ble_eq_true h6
          have hcnt : CountIs P w i zeros (conc e x) n := count_of hnew
          obtain ⟨_, hn2, hn3⟩ := anew_sound hnew hi hz hS.view hx h4
          have hzr : ∀ w, (zeroValue el).run P w = .ok (conc e z) w := fun w => (run_zero hz e w).1
          have hzids : ∀ M, AV.idsL e M z.cells := fun M => cells_ids ((run_zero hz e w).2 M)
          have hzsz : (⟨concL e z.cells⟩ : Array Value).size = i.size := by simp [concL_length, h3]
          have hrest : ∀ k, (Builtin.zeroCells (conc e z).cells k) = ⟨concL e (repZ z.cells k)⟩ := fun k => by rw [cells_conc]; exact zeroCells_eq z k
          -- a block of its own
          have hgrow : ∀ (base : Option Addr) (sLen sCap : Nat) (old : List AV), conc e s = .slice base sLen sCap → old.length = sLen * i.size → AV.idsL e (· < H.next) old → (∀ v ∈ old, v.one = true) →
              (Builtin.firstCells i.size sLen (.slice base sLen sCap)).run P w.drew = .ok ⟨concL e old⟩ w.drew → ¬ sLen + n ≤ sCap → (sLen + n) * i.bytes ≤ 1000000000 → 1 ≤ n → sLen + n ≤ 1000000000000 →
              ∀ (H0 : AH), H0.next = H.next → Sim e H0 w → Ext e H w e H0 w → 
              ∃ e' w', (Builtin.append_ ts ty args).run P w = .ok (conc e' (.slice H.next 0 (sLen + n) false 0)) w' ∧ Ext e H w e' (H0.push (.cells (old ++ new) false (gcode i.size el))) w' ∧ Sim e' (H0.push (.cells (old ++ new) false (gcode i.size el))) w' ∧ (AV.slice H.next 0 (sLen + n) false 0).ids e' (· < H.next + 1) := by
            intro base sLen sCap old hsv hol hoi hoo hof hfit hby hn1 hlen H0 hH0 hS0 hE0
            have hcapb : ¬ Builtin.nextslicecap (sLen + n) sCap * i.bytes > 2 ^ 48 := by
              have hc := nextcap_le (m := sLen + n) (c := sCap) (by omega)
              have : Builtin.nextslicecap (sLen + n) sCap * i.bytes ≤ (2 * (sLen + n) + 512) * i.bytes := Nat.mul_le_mul_right _ hc
              have hb : i.bytes ≤ 1000000000 := Nat.le_trans (Nat.le_mul_of_pos_left _ (by omega)) hby
              have e1 : (2 * (sLen + n) + 512) * i.bytes = 2 * ((sLen + n) * i.bytes) + 512 * i.bytes := by rw [Nat.add_mul, Nat.mul_assoc]
              omega
            have hbig : ¬ (((sLen + n : Nat) : Int) > IntKind.i64.max) := by
              have : IntKind.i64.max = 9223372036854775807 := by decide
              omega
            obtain ⟨newCap, hle, hrun⟩ := append_grows (ty := ty) ht (by rw [ha, hsv]) hxa hu hi hzr hzk hcnt (hn2 w.drew rfl) hof hfit hbig hcapb
            rw [hrest] at hrun
            refine ⟨e.at H.next w.heap.size 0 newCap, { w.drew with heap := w.heap.push (.cells ((⟨concL e old⟩ : Array Value) ++ ⟨concL e new⟩ ++ ⟨concL e (repZ z.cells (newCap - (sLen + n)))⟩) el) }, ?_, ?_⟩
            · rw [hrun]; obtain ⟨q1, q2, q3⟩ := Emb.at_same e H.next w.heap.size 0 newCap; simp [conc, q1, q2, q3]
            · obtain ⟨q1, q2, q3⟩ := Emb.at_same e H.next w.heap.size 0 newCap
              have hag := Emb.at_agree e H.next w.heap.size 0 newCap
              have hids : AV.idsL e (· < H.next) (old ++ new) := idsL_append hoi hn3
              have hcells : ((⟨concL e old⟩ : Array Value) ++ ⟨concL e new⟩ ++ ⟨concL e (repZ z.cells (newCap - (sLen + n)))⟩) = ⟨concL e (old ++ new ++ repZ z.cells (newCap - (sLen + n)))⟩ := by
                apply Array.ext'; simp [concL_append]
              have hrel : ObjRel (e.at H.next w.heap.size 0 newCap) (· < H0.next + 1) (.cells (old ++ new) false (gcode i.size el))
                  { w.drew with heap := w.heap.push (.cells ((⟨concL e old⟩ : Array Value) ++ ⟨concL e new⟩ ++ ⟨concL e (repZ z.cells (newCap - (sLen + n)))⟩) el) } w.heap.size
                  ((e.at H.next w.heap.size 0 newCap).base H0.next) ((e.at H.next w.heap.size 0 newCap).cap H0.next) := by
                rw [hH0, q2, q3, hcells]
                refine ⟨⟨concL e (old ++ new ++ repZ z.cells (newCap - (sLen + n)))⟩, el, 0, 0, Array.getElem?_push_size, fun j u hj => ?_, fun u hu' => ⟨ids_mono hag (fun _ h => Nat.lt_succ_of_lt h) u (idsL_iff.1 hids u hu'), ?_⟩, fun _ j _ => by omega, fun _ => ⟨hgd.symm, fun h0 => by omega, fun _ _ => ⟨?_, fun j _ => by omega⟩⟩⟩
                · rw [Nat.zero_add, List.getElem?_toArray, concL_get]
                  have hjl : j < (old ++ new).length := by
                    rcases Nat.lt_or_ge j (old ++ new).length with h' | h'
                    · exact h'
                    · rw [List.getElem?_eq_none h'] at hj; simp at hj
                  rw [List.getElem?_append_left hjl, hj, Option.map_some, conc_congr hag u (idsL_iff.1 hids u (List.mem_of_getElem? hj))]
                · rcases List.mem_append.1 hu' with h' | h'
                  · exact hoo u h'
                  · exact h5 u h'
                · have : (⟨concL e (old ++ new ++ repZ z.cells (newCap - (sLen + n)))⟩ : Array Value).size = sLen * i.size + n * i.size + (newCap - (sLen + n)) * i.size := by
                    simp [concL_length, repZ_length, hol, h4, h3]; omega
                  rw [this, hgm, Nat.zero_add, ← Nat.add_mul, ← Nat.add_mul]
                  exact Nat.mul_le_mul_right _ (by omega)
              obtain ⟨p1, p2⟩ := sim_push hS0 (e' := e.at H.next w.heap.size 0 newCap) (by rw [hH0]; exact hag) (by rw [hH0]; exact q1)
                (w' := { w.drew with heap := w.heap.push (.cells ((⟨concL e old⟩ : Array Value) ++ ⟨concL e new⟩ ++ ⟨concL e (repZ z.cells (newCap - (sLen + n)))⟩) el) }) rfl rfl rfl rfl hrel
              refine ⟨hE0.trans p2, p1, ?_⟩
              simp only [AV.ids, q3]
              exact ⟨Nat.lt_succ_self _, fun _ => by omega⟩
          unfold appendTo at h2
          split at h2
          · -- a nil slice
            cases hn0 : Nat.beq n 0 with
            | true =>
              rw [hn0] at h2
              simp only [cond_true, Option.some.injEq, Prod.mk.injEq] at h2
              obtain ⟨rfl, rfl⟩ := h2
              have hn0 := Nat.eq_of_beq_eq_true hn0
              subst hn0
              refine ⟨e, w, ?_, Ext.refl _ _ _, hS, by simp [AV.ids]⟩
              rw [append_fits (base := none) (sLen := 0) (sCap := 0) ht ha hxa hu hi hzk hcnt (hn2 w rfl) (by omega)]
              simp [conc]
            | false =>
              rw [hn0] at h2
              simp only [cond_false] at h2
              obtain ⟨h7, h8⟩ := bif_some h2
              simp only [Bool.and_eq_true] at h7
              have h9 := Nat.le_of_ble_eq_true h7.1
              have h10 := Nat.le_of_ble_eq_true h7.2
              simp only [Option.some.injEq, Prod.mk.injEq] at h8
              obtain ⟨rfl, rfl⟩ := h8
              have hn1 : 1 ≤ n := by
                rcases Nat.eq_zero_or_pos n with h | h
                · subst h; simp at hn0
                · exact h
              have := hgrow none 0 0 [] rfl (by simp) (by simp [AV.idsL]) (by simp) (by simp [Builtin.firstCells, concL]) (by omega) (by rw [Nat.zero_add]; exact h9) hn1 (by omega) H rfl hS (Ext.refl _ _ _)
              simp only [Nat.zero_add, List.nil_append] at this
              exact this
          · rename_i r o len kn c
            have hcapv : conc e (.slice r o len kn c) = .slice (some ⟨e.blk r, e.base r + o, none⟩) len (bif kn then c else e.cap r - c) := by simp [conc]
            have hids : r < H.next ∧ (kn = false → len + c ≤ e.cap r) := by simpa only [AV.ids] using hs
            cases hn0 : Nat.beq n 0 with
            | true =>
              rw [hn0] at h2
              simp only [cond_true] at h2
              obtain ⟨h7, h8⟩ := bif_some h2
              simp only [Option.some.injEq, Prod.mk.injEq] at h8
              obtain ⟨rfl, rfl⟩ := h8
              have hn0 := Nat.eq_of_beq_eq_true hn0
              subst hn0
              have hnil : new = [] := List.length_eq_zero_iff.1 (by rw [h4, Nat.zero_mul])
              subst hnil
              refine ⟨e, w, ?_, Ext.refl _ _ _, hS, hs⟩
              rw [append_fits ht (by rw [ha, hcapv]) hxa hu hi hzk hcnt (hn2 w rfl) (by
                cases kn with
                | true => simp only [Bool.not_true, Bool.false_or] at h7; have := Nat.le_of_ble_eq_true h7; simp only [cond_true]; omega
                | false => have := hids.2 rfl; simp only [cond_false]; omega)]
              simp [concL, storeCells, conc]
            | false =>
              have hn1 : 1 ≤ n := by
                rcases Nat.eq_zero_or_pos n with h | h
                · subst h; simp at hn0
                · exact h
              rw [hn0] at h2
              simp only [cond_false] at h2
              cases hk : kn && Nat.ble (len + n) c with
              | true =>
                rw [hk] at h2
                simp only [cond_true] at h2
                simp only [Bool.and_eq_true] at hk
                obtain ⟨rfl, hk2⟩ := hk
                have hk2 := Nat.le_of_ble_eq_true hk2
                split at h2
                · rename_i cs g hg
                  obtain ⟨h7, h8⟩ := bif_some h2
                  have h7 := Nat.le_of_ble_eq_true h7
                  simp only [Option.some.injEq, Prod.mk.injEq] at h8
                  obtain ⟨rfl, rfl⟩ := h8
                  obtain ⟨csC, T, lo, hi', k1, k2, k3, k4, k5⟩ := hS.obj r _ hg
                  have hb : e.blk r < w.heap.size := (Array.getElem?_eq_some_iff.1 k1).1
                  have hidx : ∀ j, j < new.length → o + len * i.size + j < cs.length := fun j hj => by
                    have : (len + n) * i.size = len * i.size + n * i.size := Nat.add_mul _ _ _
                    omega
                  have hst := storeL (P := P) (e := e) (vs := new) (base := e.base r) (o := o + len * i.size) (c := cs) k1
                    (fun j hj => by
                      have := (Array.getElem?_eq_some_iff.1 (k2 _ _ (List.getElem?_eq_getElem (hidx j hj)))).1
                      omega)
                    (fun j hj => by have := k4 rfl _ (hidx j hj); rw [Nat.add_assoc]; exact this) h5
                  have hrel : ObjRel e (· < H.next) (.cells (setL cs (o + len * i.size) new) false g) (putBlk w (e.blk r) (.cells (setArr csC (e.base r + (o + len * i.size)) (concL e new)) T (lo, hi'))) (e.blk r) (e.base r) (e.cap r) := by
                    refine ⟨_, T, lo, hi', by rw [putBlk_get hb, if_pos rfl], fun j u hu' => setArr_rel _ _ _ _ k2 j u hu', fun u hu' => ?_, fun _ j hj => ?_, fun hgn => ⟨(k5 hgn).1, (k5 hgn).2.1, fun h0 hro => ?_⟩⟩
                    · rcases setL_mem _ _ _ _ hu' with h' | h'
                      · exact k3 u h'
                      · exact ⟨idsL_iff.1 hn3 u h', h5 u h'⟩
                    · rw [setL_length] at hj; exact k4 rfl j hj
                    · rw [setArr_size]; exact (k5 hgn).2.2 h0 hro
                  obtain ⟨s1, s2⟩ := sim_write hS hg (by simp [AObj.wr]) (w' := putBlk w (e.blk r) (.cells (setArr csC (e.base r + (o + len * i.size)) (concL e new)) T (lo, hi'))) putBlk_size
                    (fun b hb' => by rw [putBlk_get hb, if_neg hb']) rfl rfl rfl hrel (by simp [AObj.wr])
                  refine ⟨e, _, ?_, s2, s1, by simp only [AV.ids]; exact ⟨hids.1, fun h => by cases h⟩⟩
                  rw [append_fits ht (by rw [ha, hcapv]) hxa hu hi hzk hcnt (hn2 w rfl) (by simpa using hk2)]
                  simp only [Addr.add_lit, Nat.add_assoc]
                  rw [hst]
                  simp [conc]
                · simp at h2
              | false =>
                rw [hk] at h2
                simp only [cond_false] at h2
                split at h2
                · rename_i cs ro g hg
                  split at h2
                  · rename_i old hold
                    obtain ⟨h7, h8⟩ := bif_some h2
                    simp only [Bool.and_eq_true] at h7
                    have h9 := Nat.le_of_ble_eq_true h7.1
                    have h10 := Nat.le_of_ble_eq_true h7.2
                    obtain ⟨o1, o2, o3, o4, o5⟩ := cut_some hold
                    obtain ⟨f1, f2, f3⟩ := firstCells_cut (P := P) (cap := (bif kn then c else e.cap r - c)) hS hg hold w.drew rfl
                    cases kn with
                    | true =>
                      simp only [cond_true, Option.some.injEq, Prod.mk.injEq] at h8
                      obtain ⟨rfl, rfl⟩ := h8
                      have hfit : ¬ len + n ≤ c := fun hh => by
                        have : Nat.ble (len + n) c = true := Nat.ble_eq_true_of_le hh
                        rw [this] at hk; simp at hk
                      exact hgrow _ len _ old hcapv o3 f2 f3 f1 (by simpa using hfit) h9 hn1 (by omega) H rfl hS (Ext.refl _ _ _)
                    | false =>
                      simp only [cond_false] at h8
                      obtain ⟨h11, h12⟩ := bif_some h8
                      simp only [Bool.and_eq_true, Bool.not_eq_true'] at h11
                      obtain ⟨⟨hro, hgs⟩, hoc⟩ := h11
                      subst hro
                      have hgs := Nat.eq_of_beq_eq_true hgs
                      have hoc := Nat.eq_of_beq_eq_true hoc
                      simp only [Option.some.injEq, Prod.mk.injEq] at h12
                      obtain ⟨rfl, rfl⟩ := h12
                      by_cases hfit : len + n ≤ e.cap r - c
                      · -- in place
                        obtain ⟨csC, T, lo, hi', k1, k2, k3, k4, k5⟩ := hS.obj r _ hg
                        have hg0 : g ≠ 0 := by rw [hgs]; unfold gcode; omega
                        obtain ⟨kT, _, k5'⟩ := k5 hg0
                        obtain ⟨k6, k7⟩ := k5' (by rw [hgs, hgm]; omega) rfl
                        rw [hgs, hgm] at k6
                        rw [hgs, hgd] at kT
                        have hb : e.blk r < w.heap.size := (Array.getElem?_eq_some_iff.1 k1).1
                        have hwf := hids.2 rfl
                        have hspace : o + (len + n) * i.size ≤ e.cap r * i.size := by
                          rw [hoc, ← Nat.add_mul]; exact Nat.mul_le_mul_right _ (by omega)
                        have hmul : (len + n) * i.size = len * i.size + n * i.size := Nat.add_mul _ _ _
                        have hst := storeL (P := P) (e := e) (vs := new) (base := e.base r) (o := o + len * i.size) (c := cs) k1
                          (fun j hj => by omega) (fun j hj => k7 _ (by omega)) h5
                        have hag := Emb.at_agree e H.next (e.blk r) (e.base r + o) (e.cap r - c)
                        obtain ⟨q1, q2, q3⟩ := Emb.at_same e H.next (e.blk r) (e.base r + o) (e.cap r - c)
                        have hall : AV.idsL e (· < H.next) (old ++ new) := idsL_append f2 hn3
                        have hrel : ObjRel (e.at H.next (e.blk r) (e.base r + o) (e.cap r - c)) (· < H.next + 1) (.cells (old ++ new) false (gcode i.size el))
                            (putBlk w (e.blk r) (.cells (setArr csC (e.base r + (o + len * i.size)) (concL e new)) T (lo, hi'))) (e.blk r)
                            ((e.at H.next (e.blk r) (e.base r + o) (e.cap r - c)).base H.next) ((e.at H.next (e.blk r) (e.base r + o) (e.cap r - c)).cap H.next) := by
                          rw [q2, q3]
                          refine ⟨_, T, lo, hi', by rw [putBlk_get hb, if_pos rfl], fun j u hj => ?_, fun u hu' => ⟨ids_mono hag (fun _ h => Nat.lt_succ_of_lt h) u (idsL_iff.1 hall u hu'), ?_⟩, fun _ j _ => k7 _ (by omega), fun _ => ⟨by rw [hgd]; exact kT, fun h0 => by omega, fun _ _ => ⟨?_, fun j hj => k7 _ (by omega)⟩⟩⟩
                          · rw [conc_congr hag u (idsL_iff.1 hall u (List.mem_of_getElem? hj))]
                            by_cases hjl : j < len * i.size
                            · rw [List.getElem?_append_left (by rw [o3]; exact hjl), o4 j hjl] at hj
                              rw [setArr_get_lt _ _ _ _ (by omega), Nat.add_assoc]
                              exact k2 _ _ hj
                            · rw [List.getElem?_append_right (by rw [o3]; omega), o3] at hj
                              have := setArr_get_new (concL e new) csC (e.base r + (o + len * i.size)) (j - len * i.size) (conc e u) (by rw [concL_get, hj]; rfl) (by rw [concL_length]; omega)
                              have e1 : e.base r + (o + len * i.size) + (j - len * i.size) = e.base r + o + j := by omega
                              rw [e1] at this; exact this
                          · rcases List.mem_append.1 hu' with h' | h'
                            · exact f3 u h'
                            · exact h5 u h'
                          · rw [setArr_size, hgm]
                            have : (e.cap r - c) * i.size + c * i.size = e.cap r * i.size := by rw [← Nat.add_mul]; congr 1; omega
                            omega
                        obtain ⟨s1, s2⟩ := sim_move hS hg (by simp [AObj.wr]) hag q1 (w' := putBlk w (e.blk r) (.cells (setArr csC (e.base r + (o + len * i.size)) (concL e new)) T (lo, hi'))) putBlk_size
                          (fun b hb' => by rw [putBlk_get hb, if_neg hb']) rfl rfl rfl hrel
                        refine ⟨_, _, ?_, s2, s1, by simp only [AV.ids, q3]; exact ⟨Nat.lt_succ_self _, fun _ => by omega⟩⟩
                        rw [append_fits ht (by rw [ha, hcapv]) hxa hu hi hzk hcnt (hn2 w rfl) (by simpa using hfit)]
                        simp only [Addr.add_lit, Nat.add_assoc]
                        rw [hst]
                        simp [conc, q1, q2, q3]
                      · -- a new block
                        obtain ⟨s1, s2⟩ := sim_write hS hg (by simp [AObj.wr]) (o' := .dead) (w' := w) rfl (fun _ _ => rfl) rfl rfl rfl trivial (by simp [AObj.lv])
                        exact hgrow _ len _ old hcapv o3 f2 f3 f1 (by simpa using hfit) h9 hn1 (by omega) (H.set r .dead) rfl s1 s2
                  · simp at h2
                · simp at h2
          · simp at h2
  · simp at h

end
end Ai
end Go.Proofs.YtipgfljojhdhjaaGreatDoor

namespace Go.Proofs.YtipgfljojhdhjaaGreatDoor
namespace Ai
section
variable {P : Program} {gl : Gl} {e : Emb} {H H' : AH} {env : Tm AV} {a : Act} {w : World}

theorem arange_sound {t : TypeId} {x v : AV} (h : arange P H t x = some (v, H')) (hS : Sim e H w) (hx : x.ids e (· < H.next)) :
    ∃ e' w', (Instr.range t (conc e x)).run P w = .ok (conc e' v) w' ∧ Ext e H w e' H' w' ∧ Sim e' H' w' ∧ v.ids e' (· < H'.next) := by
  have key : ∀ (m : Option Nat) (since : Nat) (stepped : Nat), (∀ r, m = some r → r < H.next) →
      ∃ w', w' = { w with heap := w.heap.push (.mapIter (m.map e.blk) since #[] stepped) } ∧ Ext e H w (e.at H.next w.heap.size 0 0) (H.push (.mit m since [] stepped)) w' ∧ Sim (e.at H.next w.heap.size 0 0) (H.push (.mit m since [] stepped)) w' := by
    intro m since stepped hm
    obtain ⟨q1, q2, q3⟩ := Emb.at_same e H.next w.heap.size 0 0
    have hag := Emb.at_agree e H.next w.heap.size 0 0
    obtain ⟨p1, p2⟩ := sim_push hS (o := .mit m since [] stepped) (obj := .mapIter (m.map e.blk) since #[] stepped) hag q1 (w' := { w with heap := w.heap.push (.mapIter (m.map e.blk) since #[] stepped) }) rfl rfl rfl rfl (by
      refine ⟨?_, q2, fun r hr => Nat.lt_succ_of_lt (hm r hr)⟩
      show (w.heap.push _)[w.heap.size]? = _
      rw [Array.getElem?_push_size]
      cases m with
      | none => rfl
      | some r => simp [(hag r (hm r rfl)).1])
    exact ⟨_, rfl, p2, p1⟩
  obtain ⟨q1, q2, q3⟩ := Emb.at_same e H.next w.heap.size 0 0
  unfold arange at h
  split at h
  · rename_i k el hu
    simp only [Option.some.injEq, Prod.mk.injEq] at h
    obtain ⟨rfl, rfl⟩ := h
    obtain ⟨w', hw, h1, h2⟩ := key none 0 0 (by simp)
    refine ⟨_, w', ?_, h1, h2, by simp only [AV.ids]; exact Nat.lt_succ_self _⟩
    subst hw
    simp [Instr.range, run_underlying hu, conc, q1, q2]
  · rename_i k el m hu
    split at h
    · rename_i es clock hg
      simp only [Option.some.injEq, Prod.mk.injEq] at h
      obtain ⟨rfl, rfl⟩ := h
      obtain ⟨k1, _⟩ := hS.obj m _ hg
      obtain ⟨w', hw, h1, h2⟩ := key (some m) clock clock (fun r hr => by cases hr; exact hS.lt m _ hg)
      refine ⟨_, w', ?_, h1, h2, by simp only [AV.ids]; exact Nat.lt_succ_self _⟩
      subst hw
      simp [Instr.range, run_underlying hu, conc, q1, q2, run_getMap k1]
    · simp at h
  · simp at h

theorem run_getObj {b : Nat} {o : Obj} (h : w.heap[b]? = some o) (hn : noCells o = true) : (getObj b).run P w = .ok o w := by
  cases o <;> simp_all [getObj, Sem.run, noCells]

theorem filter_conE (es : List (AV × AV × Nat)) (p : Nat → Bool) : (⟨es.map (conE e)⟩ : Array MapEntry).filter (fun x => p x.born) = ⟨(es.filter fun x => p x.2.2).map (conE e)⟩ := by
  apply Array.ext'
  simp only [Array.toList_filter]
  rw [List.filter_map]
  rfl

theorem anext_sound {it v : AV} {b : Bool} {ty : TypeId} (h : anext H it b = some (v, H')) (hS : Sim e H w) :
    ∃ w', (Instr.next (conc e it) b ty).run P w = .ok (conc e v) w' ∧ Ext e H w e H' w' ∧ Sim e H' w' ∧ v.ids e (· < H'.next) := by
  unfold anext at h
  split at h
  · rename_i r
    split at h
    · rename_i since seen stepped hg
      simp only [Option.some.injEq, Prod.mk.injEq] at h
      obtain ⟨rfl, rfl⟩ := h
      obtain ⟨k1, k2, _⟩ := hS.obj r _ hg
      refine ⟨w, ?_, Ext.refl _ _ _, hS, by simp [AV.ids, AV.idsL]⟩
      simp only [conc, k2, Nat.add_zero, Instr.next, Sem.run_bind, run_getObj k1 rfl, Option.map_none, Result.andThen_ok, Sem.run_pure, concL]
    · rename_i m since seen last hg
      obtain ⟨k1, k2, k3⟩ := hS.obj r _ hg
      split at h
      · rename_i es clock hm
        obtain ⟨m1, m2⟩ := hS.obj m _ hm
        have hcond : (!(⟨seen⟩ : Array Nat).isEmpty && !(⟨es.map (conE e)⟩ : Array MapEntry).isEmpty && (⟨es.map (conE e)⟩ : Array MapEntry).all fun x => decide (x.born ≥ last)) =
            (!seen.isEmpty && !es.isEmpty && es.all fun x => decide (x.2.2 ≥ last)) := by
          simp only [List.isEmpty_toArray, List.all_toArray', List.isEmpty_map, List.all_map]
          rfl
        cases hc : (!seen.isEmpty && !es.isEmpty && es.all fun x => decide (x.2.2 ≥ last)) with
        | true => rw [hc] at h; simp at h
        | false =>
          rw [hc] at h hcond
          simp only [cond_false] at h
          have hleft : (⟨es.map (conE e)⟩ : Array MapEntry).filter (fun x => !(⟨seen⟩ : Array Nat).contains x.born) = ⟨(es.filter fun x => !seen.contains x.2.2).map (conE e)⟩ := by
            rw [← filter_conE es (fun b => !seen.contains b)]
            congr 1
            funext x
            simp
          split at h
          · rename_i hnil
            simp only [Option.some.injEq, Prod.mk.injEq] at h
            obtain ⟨rfl, rfl⟩ := h
            refine ⟨w, ?_, Ext.refl _ _ _, hS, by simp [AV.ids, AV.idsL]⟩
            rw [hnil] at hleft
            simp only [conc, k2, Nat.add_zero, Instr.next, Sem.run_bind, run_getObj k1 rfl, Option.map_some, Result.andThen_ok, run_getObj m1 rfl]
            rw [hcond]
            simp only [hleft, List.map_nil, Bool.false_eq_true, if_false]
            simp [run_choose, Question.forced, concL, conc]
          · rename_i x hone
            obtain ⟨h1, h2⟩ := bif_some h
            have h1 := of_decide_eq_true h1
            simp only [Option.some.injEq, Prod.mk.injEq] at h2
            obtain ⟨rfl, rfl⟩ := h2
            rw [hone] at hleft
            have hb : e.blk r < w.heap.size := (Array.getElem?_eq_some_iff.1 k1).1
            obtain ⟨s1, s2⟩ := sim_write hS hg (by simp [AObj.wr]) (o' := .mit (some m) since (seen ++ [x.2.2]) clock) (w' := putBlk w (e.blk r) (.mapIter (some (e.blk m)) since ⟨seen ++ [x.2.2]⟩ clock)) putBlk_size
              (fun b hb' => by rw [putBlk_get hb, if_neg hb']) rfl rfl rfl ⟨by rw [putBlk_get hb, if_pos rfl]; rfl, k2, k3⟩ (by simp [AObj.wr])
            refine ⟨_, ?_, s2, s1, ?_⟩
            · have hx1 : (conE e x).born < since := h1
              simp only [conc, k2, Nat.add_zero, Instr.next, Sem.run_bind, run_getObj k1 rfl, Option.map_some, Result.andThen_ok, run_getObj m1 rfl]
              rw [hcond]
              simp only [hleft, List.map_cons, List.map_nil, Bool.false_eq_true, if_false]
              have f1 : (⟨[conE e x]⟩ : Array MapEntry).filter (fun x => decide (x.born < since)) = ⟨[conE e x]⟩ := by
                apply Array.ext'; simp [hx1]
              have f2 : (⟨[conE e x]⟩ : Array MapEntry).filter (fun x => decide (x.born ≥ since)) = ⟨[]⟩ := by
                apply Array.ext'; simp; omega
              simp only [f1, f2]
              have k1' : w.heap[e.blk r]? = some (.mapIter (some (e.blk m)) since ⟨seen⟩ last) := k1
              simp [run_choose, Question.forced, run_setObj k1' rfl, concL, conc, conE]
            · have hmem : x ∈ es := by
                have : x ∈ es.filter fun x => !seen.contains x.2.2 := by rw [hone]; simp
                exact (List.mem_filter.1 this).1
              simp only [AV.ids, AV.idsL, and_true, true_and]
              exact m2 x hmem
          · simp at h
      · simp at h
    · simp at h
  · simp at h

end
end Ai
end Go.Proofs.YtipgfljojhdhjaaGreatDoor

namespace Go.Proofs.YtipgfljojhdhjaaGreatDoor
namespace Ai
section
variable {P : Program} {gl : Gl} {e : Emb} {H H' : AH} {env : Tm AV} {a : Act} {w : World} {r : Rec}

theorem aentryOf_sound {it v : AV} (h : aentryOf H it = some v) (hS : Sim e H w) : (Instr.entry (conc e it)).run P w = .ok (conc e v) w ∧ v.ids e (· < H.next) := by
  unfold aentryOf at h
  split at h
  · rename_i r
    split at h
    · rename_i m since seen stepped hg
      obtain ⟨k1, k2, _⟩ := hS.obj r _ hg
      split at h
      · rename_i es clock stamp hm hl
        obtain ⟨m1, m2⟩ := hS.obj m _ hm
        obtain ⟨h1, h2⟩ := bif_some h
        have h1 := Nat.eq_of_beq_eq_true h1
        split at h2
        · rename_i x hx
          simp only [Option.some.injEq] at h2; subst h2
          have hf : (⟨es.map (conE e)⟩ : Array MapEntry).find? (fun y => y.born == stamp) = some (conE e x) := by
            rw [List.find?_toArray, List.find?_map]
            have : ((fun y : MapEntry => y.born == stamp) ∘ conE e) = fun y => Nat.beq y.2.2 stamp := by
              funext y; simp only [Function.comp, conE]; rw [Bool.eq_iff_iff]; simp
            rw [this, hx]; rfl
          have hb : (⟨seen⟩ : Array Nat).back? = some stamp := by rw [List.back?_toArray]; exact hl
          refine ⟨?_, ?_⟩
          · simp only [conc, k2, Nat.add_zero, Instr.entry, Sem.run_bind, run_getObj k1 rfl, Option.map_some, Result.andThen_ok, hb, run_getObj m1 rfl, h1, bne_self_eq_false, Bool.false_eq_true, if_false]
            rw [hf]
            simp [concL, conE]
          · simp only [AV.ids, AV.idsL, and_true]
            exact m2 x (List.mem_of_find?_eq_some hx)
        · simp at h2
      · simp at h
    · simp at h
  · simp at h

theorem aclear_sound {t : TypeId} {x v : AV} (h : aclear P H t x = some (v, H')) (hS : Sim e H w) (hx : x.ids e (· < H.next)) (ts : Array TypeId) (ty : TypeId) (args : Array Value)
    (ht : ts[0]? = some t) (ha : args[0]? = some (conc e x)) : ∃ w', (Builtin.clear_ ts ty args).run P w = .ok (conc e v) w' ∧ Ext e H w e H' w' ∧ Sim e H' w' ∧ v.ids e (· < H'.next) := by
  unfold aclear at h
  split at h
  · rename_i d hu
    simp only [Option.some.injEq, Prod.mk.injEq] at h
    obtain ⟨rfl, rfl⟩ := h
    refine ⟨w, ?_, Ext.refl _ _ _, hS, by simp [AV.ids, AV.idsL]⟩
    simp [Builtin.clear_, ht, ha, run_underlying hu, conc, concL]
  · rename_i d hu
    simp only [Option.some.injEq, Prod.mk.injEq] at h
    obtain ⟨rfl, rfl⟩ := h
    refine ⟨w, ?_, Ext.refl _ _ _, hS, by simp [AV.ids, AV.idsL]⟩
    simp [Builtin.clear_, ht, ha, run_underlying hu, conc, concL]
  · rename_i k el r hu
    split at h
    · rename_i es clock hg
      simp only [Option.some.injEq, Prod.mk.injEq] at h
      obtain ⟨rfl, rfl⟩ := h
      obtain ⟨k1, k2, k3⟩ := sim_map hS hg (es' := []) (c' := clock) (by simp)
      refine ⟨_, ?_, k2, k3, by simp [AV.ids, AV.idsL]⟩
      simp [Builtin.clear_, ht, ha, run_underlying hu, conc, run_getObj k1 rfl, run_setObj k1 rfl, concL]
    · simp at h
  · rename_i el r o n kn c hu
    split at h
    · rename_i sz z cs g hsz hz hg
      obtain ⟨h1, h2⟩ := bif_some h
      simp only [Bool.and_eq_true] at h1
      obtain ⟨⟨h3, h4⟩, h5⟩ := h1
      have h3 := Nat.eq_of_beq_eq_true h3
      have h4 := oneAll_iff.1 h4
      have h5 := Nat.le_of_ble_eq_true h5
      simp only [Option.some.injEq, Prod.mk.injEq] at h2
      obtain ⟨rfl, rfl⟩ := h2
      obtain ⟨csC, T, lo, hi', k1, k2, k3, k4, k5⟩ := hS.obj r _ hg
      have hb : e.blk r < w.heap.size := (Array.getElem?_eq_some_iff.1 k1).1
      have hlen : (repZ z.cells n).length = n * sz := by rw [repZ_length, h3]
      obtain ⟨hz1, hz2⟩ := run_zero hz e w
      have hst := storeL (P := P) (e := e) (vs := repZ z.cells n) (base := e.base r) (o := o) (c := cs) k1
        (fun j hj => by
          have := (Array.getElem?_eq_some_iff.1 (k2 (o + j) _ (List.getElem?_eq_getElem (by omega)))).1
          omega)
        (fun j hj => by have := k4 rfl (o + j) (by omega); rw [Nat.add_assoc]; exact this) (fun v hv => h4 v (repZ_mem _ _ _ hv))
      have hrel : ObjRel e (· < H.next) (.cells (setL cs o (repZ z.cells n)) false g) (putBlk w (e.blk r) (.cells (setArr csC (e.base r + o) (concL e (repZ z.cells n))) T (lo, hi'))) (e.blk r) (e.base r) (e.cap r) := by
        refine ⟨_, T, lo, hi', by rw [putBlk_get hb, if_pos rfl], fun j u hu' => setArr_rel _ _ _ _ k2 j u hu', fun u hu' => ?_, fun _ j hj => ?_, fun hgn => ⟨(k5 hgn).1, (k5 hgn).2.1, fun h0 hro => ?_⟩⟩
        · rcases setL_mem _ _ _ _ hu' with h' | h'
          · exact k3 u h'
          · have := repZ_mem _ _ _ h'
            exact ⟨idsL_iff.1 (cells_ids (hz2 _)) u this, h4 u this⟩
        · rw [setL_length] at hj; exact k4 rfl j hj
        · rw [setArr_size]; exact (k5 hgn).2.2 h0 hro
      obtain ⟨s1, s2⟩ := sim_write hS hg (by simp [AObj.wr]) (w' := putBlk w (e.blk r) (.cells (setArr csC (e.base r + o) (concL e (repZ z.cells n))) T (lo, hi'))) putBlk_size
        (fun b hb' => by rw [putBlk_get hb, if_neg hb']) rfl rfl rfl hrel (by simp [AObj.wr])
      refine ⟨_, ?_, s2, s1, by simp [AV.ids, AV.idsL]⟩
      have hzc : (Builtin.zeroCells (conc e z).cells n).toList = concL e (repZ z.cells n) := by rw [cells_conc, zeroCells_eq]
      simp only [Builtin.clear_, ht, ha, Sem.run_bind, run_underlying hu, Result.andThen_ok, conc]
      cases n with
      | zero =>
        simp only [repZ, concL, setArr, setL] at *
        rw [putBlk_same k1]
        simp
      | succ n =>
        simp only [hz1, Sem.run_bind, Result.andThen_ok, hzc]
        rw [hst]
        simp [concL]
    · simp at h
  · simp at h

theorem strBytes_sound {src dst el : TypeId} {s : List UInt8} (hs : P.underlying src = some .string) (hd : P.underlying dst = some (.slice el)) (he : P.underlying el = some (.int .u8)) (hS : Sim e H w) :
    ∃ e' w', (convert src dst (.string ⟨s.toArray⟩)).run P w = .ok (conc e' (.slice H.next 0 s.length false 0)) w' ∧ Ext e H w e' (H.push (.cells (s.map fun (b : UInt8) => AV.int .u8 b.toNat) false 0)) w' ∧
      Sim e' (H.push (.cells (s.map fun (b : UInt8) => AV.int .u8 b.toNat) false 0)) w' ∧ (AV.slice H.next 0 s.length false 0).ids e' (· < (H.push (.cells (s.map fun (b : UInt8) => AV.int .u8 b.toNat) false 0)).next) := by
  have hrun := Lib.run_convert_string_bytes (P := P) w src dst el ⟨s.toArray⟩ hs hd he
  have hsz : (⟨s.toArray⟩ : ByteArray).size = s.length := by simp [ByteArray.size]
  rw [hsz] at hrun
  have hcap : s.length ≤ grownCap w s.length 0 el := by
    unfold grownCap
    first
      | exact Nat.le_add_right _ _
      | (simp [Question.cut])
  generalize hcv : grownCap w s.length 0 el = cap at hrun hcap
  have hag := Emb.at_agree e H.next w.heap.size 0 cap
  obtain ⟨q1, q2, q3⟩ := Emb.at_same e H.next w.heap.size 0 cap
  have hnew := Lib.bytesWorld_at_new w el ⟨s.toArray⟩
  have hheap : (Lib.bytesWorld w el ⟨s.toArray⟩).heap = w.heap.push (.cells (Lib.bytesCells w el ⟨s.toArray⟩) el ((Lib.bytesCells w el ⟨s.toArray⟩).size, (Lib.bytesCells w el ⟨s.toArray⟩).size + 1)) := by
    apply Array.ext_getElem?
    intro j
    rcases Nat.lt_trichotomy j w.heap.size with h | h | h
    · rw [Lib.bytesWorld_at_old w el _ j h, Array.getElem?_push, if_neg (by omega)]
    · subst h; rw [hnew, Array.getElem?_push_size]
    · rw [Array.getElem?_eq_none (by rw [Lib.bytesWorld_size]; omega), Array.getElem?_eq_none (by simp; omega)]
  have hcs : ∀ j (v : AV), (s.map fun (b : UInt8) => AV.int .u8 b.toNat)[j]? = some v → (Lib.bytesCells w el ⟨s.toArray⟩)[0 + j]? = some (conc (e.at H.next w.heap.size 0 cap) v) := by
    intro j v hj
    rw [List.getElem?_map] at hj
    cases hsj : s[j]? with
    | none => rw [hsj] at hj; simp at hj
    | some b =>
      rw [hsj] at hj
      simp only [Option.map_some, Option.some.injEq] at hj
      subst hj
      have hlt : j < s.length := (List.getElem?_eq_some_iff.1 hsj).1
      rw [Nat.zero_add]
      unfold Lib.bytesCells
      rw [Array.getElem?_append, if_pos (by simpa using hlt)]
      simp [hsj, conc]
  obtain ⟨p1, p2⟩ := sim_push hS (o := .cells (s.map fun (b : UInt8) => AV.int .u8 b.toNat) false 0) hag q1 (w' := Lib.bytesWorld w el ⟨s.toArray⟩) hheap rfl rfl rfl (by
    rw [q2]
    refine ⟨_, el, _, _, hnew, hcs, fun v hv => ?_, fun _ j hj => ?_, fun h0 => absurd rfl h0⟩
    · obtain ⟨b, _, rfl⟩ := List.mem_map.1 hv
      exact ⟨trivial, rfl⟩
    · have := (Array.getElem?_eq_some_iff.1 (hcs j _ (List.getElem?_eq_getElem hj))).1
      omega)
  refine ⟨_, _, ?_, p2, p1, ?_⟩
  · rw [hrun]; simp [conc, q1, q2, q3]
  · simp only [AV.ids, q3]
    exact ⟨Nat.lt_succ_self _, fun _ => by omega⟩

theorem run_unsafeString' {ats : Array TypeId} {ty pt u : TypeId} {b off : Nat} {n : Int} {ik : IntKind} {cs : Array Value} {f : Nat × Nat} {l : List UInt8} (ht : ats[0]? = some pt) (hp : P.underlying pt = some (.pointer u)) (hc : P.cellsOf u = 1)
    (h : w.heap[b]? = some (.cells cs u f)) (hn : n = l.length) (h0 : 0 < n) (hmax : n ≤ 1000000000000) (hle : off + l.length ≤ cs.size) (hcell : ∀ j x, l[j]? = some x → cs[off + j]? = some (.int .u8 x.toNat)) :
    (Builtin.unsafeString_ ats ty #[.pointer (some ⟨b, off, none⟩), .int ik n]).run P w = .ok (.string ⟨l.toArray⟩) (w.freeze ⟨b, off, none⟩ l.length) := by
  have hm : IntKind.i64.max = 9223372036854775807 := rfl
  have hlb := Lib.run_loadBytes (P := P) w l ⟨b, off, none⟩ .empty (fun j x hj => by
    simp only [Addr.add_lit, World.cell?, h]
    simpa using hcell j x hj)
  have hlies : liesAt P P.depth u (cs.size / P.cellsOf u) off u l.length = true := by
    have hd : 0 < P.depth := by unfold Program.depth; omega
    have hsame : sameLayout P P.depth u u = true := by
      generalize P.depth = D at hd
      cases D with
      | zero => omega
      | succ k => simp [sameLayout]
    have key : ∀ (D : Nat) (fits : TypeId → Bool), fits u = true → 0 < D → rowAt P fits D u (cs.size / P.cellsOf u) off l.length = true := by
      intro D fits hf hD
      cases D with
      | zero => omega
      | succ k =>
        unfold rowAt
        simp only [hc, hf]
        simp [Nat.mod_one, hle]
    have key2 : ∀ D : Nat, 0 < D → liesAt P D u (cs.size / P.cellsOf u) off u l.length = true := by
      intro D hD
      cases D with
      | zero => omega
      | succ k =>
        unfold liesAt
        rw [Bool.or_eq_true]
        exact .inl (key _ _ hsame hd)
    exact key2 _ hd
  have hneg : ¬ n < 0 := by omega
  have hmx : ¬ n > IntKind.i64.max := by rw [hm]; omega
  have hz : ¬ n = 0 := by omega
  have hnn : n.toNat = l.length := by omega
  have hsh : w.shape? b = some (u, cs.size) := by simp [World.shape?, h]
  have hva : (variablesAt ⟨b, off, none⟩ u l.length).run P w = .ok true w := by simp [variablesAt, hsh, hlies]
  have hel : (elemOf pt).run P w = .ok u w := by simp [elemOf, run_underlying hp]
  change Sem.run P (asInt (.int ik n) >>= _) w = _
  simp only [Sem.run_bind, asInt, asIntOf, Sem.run_pure, Result.andThen_ok]
  rw [ht]
  simp only [Sem.run_bind, Sem.run_ite, if_neg hneg, if_neg hmx, if_neg hz, Sem.run_pure, Result.andThen_ok, hel, hnn, hva, if_true, hlb, run_freeze]
  simp

theorem run_unsafeString0 {ats : Array TypeId} {ty pt : TypeId} {ik : IntKind} {p : Option Addr} (ht : ats[0]? = some pt) :
    (Builtin.unsafeString_ ats ty #[.pointer p, .int ik 0]).run P w = .ok (.string .empty) w := by
  cases p with
  | none =>
    change Sem.run P (asInt (.int ik 0) >>= _) w = _
    simp only [Sem.run_bind, asInt, asIntOf, Sem.run_pure, Result.andThen_ok]
    rw [ht]
    simp
  | some x =>
    change Sem.run P (asInt (.int ik 0) >>= _) w = _
    simp only [Sem.run_bind, asInt, asIntOf, Sem.run_pure, Result.andThen_ok]
    rw [ht]
    simp

theorem aunsafeString_sound {ats : Array TypeId} {ty t : TypeId} {r o : Nat} {n : Int} {ik : IntKind} {v : AV} (h : aunsafeString P H t r o n = some (v, H')) (hS : Sim e H w) (ht : ats[0]? = some t) :
    ∃ w', (Builtin.unsafeString_ ats ty #[conc e (.ptr r o), .int ik n]).run P w = .ok (conc e v) w' ∧ Ext e H w e H' w' ∧ Sim e H' w' ∧ v.ids e (· < H'.next) := by
  unfold aunsafeString at h
  split at h
  · rename_i c g u hg hu
    split at h
    · rename_i l hl
      split at h
      · rename_i bs hbs
        obtain ⟨h1, h2⟩ := bif_some h
        simp only [Option.some.injEq, Prod.mk.injEq] at h2
        obtain ⟨rfl, rfl⟩ := h2
        simp only [Bool.and_eq_true, decide_eq_true_eq] at h1
        obtain ⟨⟨⟨⟨⟨h1, h3⟩, h4⟩, h5⟩, h6⟩, h7⟩ := h1
        have h4 : 0 < g := Nat.le_of_ble_eq_true h4
        have h5 := Nat.eq_of_beq_eq_true h5
        have h6 := Nat.eq_of_beq_eq_true h6
        have h7 := beqL_eq _ _ h7
        subst h7
        obtain ⟨csC, T, lo, hi', k1, k2, k3, k4, k5⟩ := hS.obj r _ hg
        have hT := (k5 (by omega)).1
        rw [h5] at hT
        subst hT
        obtain ⟨o1, o2, o3, o4, o5⟩ := cut_some hl
        rw [List.length_map] at o3
        have hcell : ∀ j x, bs[j]? = some x → csC[e.base r + o + j]? = some (.int .u8 x.toNat) := by
          intro j x hj
          have hlt : j < n.toNat := by
            have := (List.getElem?_eq_some_iff.1 hj).1
            omega
          have h8 := o4 j hlt
          rw [List.getElem?_map, hj, Option.map_some] at h8
          have := k2 _ _ h8.symm
          rw [Nat.add_assoc]
          simpa [conc] using this
        have hle : e.base r + o + bs.length ≤ csC.size := by
          have hlast : bs.length - 1 < bs.length := by omega
          have := (Array.getElem?_eq_some_iff.1 (hcell (bs.length - 1) _ (List.getElem?_eq_getElem hlast))).1
          omega
        have hrun := run_unsafeString' (P := P) (w := w) (ats := ats) (ty := ty) (ik := ik) (off := e.base r + o) (n := n) (l := bs) ht hu h6 k1 (by omega) h1 h3 hle hcell
        have hfz : ∀ b, (w.freeze ⟨e.blk r, e.base r + o, none⟩ bs.length).heap[b]? = if b = e.blk r then some (.cells csC (g / 65536) (if lo == hi' then (e.base r + o, e.base r + o + bs.length) else (min lo (e.base r + o), max hi' (e.base r + o + bs.length)))) else w.heap[b]? := by
          intro b
          unfold World.freeze
          rw [if_neg (by omega)]
          simp only [Array.getElem?_modify]
          by_cases hb : e.blk r = b
          · subst hb
            rw [if_pos rfl, if_pos rfl, k1, h5]
            simp
          · rw [if_neg hb, if_neg (fun h => hb h.symm)]
        have hsz : (w.freeze ⟨e.blk r, e.base r + o, none⟩ bs.length).heap.size = w.heap.size := by
          unfold World.freeze
          rw [if_neg (by omega)]
          simp
        have hos : (w.freeze ⟨e.blk r, e.base r + o, none⟩ bs.length).os = w.os ∧ (w.freeze ⟨e.blk r, e.base r + o, none⟩ bs.length).tape = w.tape ∧ (w.freeze ⟨e.blk r, e.base r + o, none⟩ bs.length).output = w.output := by
          unfold World.freeze
          split <;> exact ⟨rfl, rfl, rfl⟩
        obtain ⟨s1, s2⟩ := sim_write' hS hg rfl (o' := .cells c true g) (w' := w.freeze ⟨e.blk r, e.base r + o, none⟩ bs.length) hsz (fun b hb => by rw [hfz, if_neg hb]) hos.1 hos.2.1 hos.2.2
          ⟨csC, g / 65536, _, _, by rw [hfz, if_pos rfl], k2, k3, (fun h0 => by cases h0), fun h0 => ⟨rfl, (k5 h0).2.1, (fun _ h9 => by cases h9)⟩⟩
        refine ⟨_, ?_, s2, s1, trivial⟩
        have e9 : (⟨(bs.toArray)⟩ : ByteArray) = ⟨bs.toArray⟩ := rfl
        simp only [conc]
        exact hrun
      · simp at h
    · simp at h
  · simp at h

/-- **A writing operation's run, calls aside.** -/
theorem aheavy_sound {o : Oper} {v : AV} (h : aheavy P r gl H env o.op = some (v, H')) (hE : EnvRel e (· < H.next) env a.tmps) (hG : GlM gl e (· < H.next)) (hS : Sim e H w)
    (hnc : ∀ c, o.op = .call c → ∃ b, c.callee = .builtin b) : Gives P (execOp a.eval o) e H w v H' := by
  unfold aheavy at h
  unfold execOp
  generalize o.type = oty at *
  generalize ho : o.op = op at *
  cases op <;> dsimp only at h ⊢ <;> (try (cases h; done))
  case store t x y =>
    split at h
    · rename_i b of u hx hy
      simp only [Option.map_eq_some_iff, Prod.mk.injEq] at h
      obtain ⟨H1, h1, rfl, rfl⟩ := h
      obtain ⟨e1, i1⟩ := aval_sound hx hE hG
      obtain ⟨e2, i2⟩ := aval_sound hy hE hG
      obtain ⟨w', h2, h3, h4⟩ := astore_sound (P := P) h1 hS i2
      refine ⟨e, w', .skip, ?_, .inr ⟨rfl, rfl⟩, h3, h4, undefA_ids⟩
      simp [Instr.storeAt, e1, e2, conc, Instr.sureAddr, h2]
    · simp at h
  case convert src dst x =>
    split at h
    · rename_i el s hs hd hx
      split at h
      · rename_i he
        simp only [Option.some.injEq, Prod.mk.injEq] at h
        obtain ⟨rfl, rfl⟩ := h
        obtain ⟨e1, i1⟩ := aval_sound hx hE hG
        obtain ⟨e', w', h2, h3, h4, h5⟩ := strBytes_sound (P := P) (s := s) hs hd he hS
        exact ⟨e', w', .value (conc e' (.slice H.next 0 s.length false 0)), by simp [e1, conc] at h2 ⊢; simp [h2], .inl rfl, h3, h4, h5⟩
      · simp at h
    · simp at h
  case insert t m k x =>
    split at h
    · rename_i mv kv xv hm hk hx
      simp only [Option.map_eq_some_iff, Prod.mk.injEq] at h
      obtain ⟨H1, h1, rfl, rfl⟩ := h
      obtain ⟨e1, i1⟩ := aval_sound hm hE hG
      obtain ⟨e2, i2⟩ := aval_sound hk hE hG
      obtain ⟨e3, i3⟩ := aval_sound hx hE hG
      obtain ⟨w', h2, h3, h4⟩ := aupdate_sound h1 hS i1 i2 i3
      exact ⟨e, w', .skip, by simp [e1, e2, e3, h2], .inr ⟨rfl, rfl⟩, h3, h4, undefA_ids⟩
    · simp at h
  case mapUpdate t m k x =>
    split at h
    · rename_i mv kv xv hm hk hx
      simp only [Option.map_eq_some_iff, Prod.mk.injEq] at h
      obtain ⟨H1, h1, rfl, rfl⟩ := h
      obtain ⟨e1, i1⟩ := aval_sound hm hE hG
      obtain ⟨e2, i2⟩ := aval_sound hk hE hG
      obtain ⟨e3, i3⟩ := aval_sound hx hE hG
      obtain ⟨w', h2, h3, h4⟩ := aupdate_sound h1 hS i1 i2 i3
      exact ⟨e, w', .skip, by simp [e1, e2, e3, h2], .inr ⟨rfl, rfl⟩, h3, h4, undefA_ids⟩
    · simp at h
  case mapEntry t m k =>
    split at h
    · rename_i mv kv hm hk
      obtain ⟨e1, i1⟩ := aval_sound hm hE hG
      obtain ⟨e2, i2⟩ := aval_sound hk hE hG
      obtain ⟨w', h2, h3, h4, h5⟩ := aentry_sound h hS i1 i2
      exact ⟨e, w', .value (conc e v), by simp [e1, e2, h2], .inl rfl, h3, h4, h5⟩
    · simp at h
  case entryStore t m s x =>
    split at h
    · rename_i mv sv xv hm hs hx
      simp only [Option.map_eq_some_iff, Prod.mk.injEq] at h
      obtain ⟨H1, h1, rfl, rfl⟩ := h
      obtain ⟨e1, i1⟩ := aval_sound hm hE hG
      obtain ⟨e2, i2⟩ := aval_sound hs hE hG
      obtain ⟨e3, i3⟩ := aval_sound hx hE hG
      obtain ⟨w', h2, h3, h4⟩ := aentryStore_sound (P := P) (t := t) h1 hS i3
      exact ⟨e, w', .skip, by simp [e1, e2, e3, h2], .inr ⟨rfl, rfl⟩, h3, h4, undefA_ids⟩
    · simp at h
  case range t x =>
    split at h
    · rename_i xv hx
      obtain ⟨e1, i1⟩ := aval_sound hx hE hG
      obtain ⟨e', w', h2, h3, h4, h5⟩ := arange_sound (P := P) h hS i1
      exact ⟨e', w', .value (conc e' v), by simp [e1, h2], .inl rfl, h3, h4, h5⟩
    · simp at h
  case next it b =>
    split at h
    · rename_i xv hx
      obtain ⟨e1, i1⟩ := aval_sound hx hE hG
      obtain ⟨w', h2, h3, h4, h5⟩ := anext_sound (P := P) (ty := oty) h hS
      exact ⟨e, w', .value (conc e v), by simp [e1, h2], .inl rfl, h3, h4, h5⟩
    · simp at h
  case entry it =>
    split at h
    · rename_i xv hx
      simp only [Option.map_eq_some_iff, Prod.mk.injEq] at h
      obtain ⟨u, h1, rfl, rfl⟩ := h
      obtain ⟨e1, i1⟩ := aval_sound hx hE hG
      obtain ⟨h2, h3⟩ := aentryOf_sound (P := P) h1 hS
      exact ⟨e, w, .value (conc e u), by simp [e1, h2], .inl rfl, Ext.refl _ _ _, hS, h3⟩
    · simp at h
  case call c =>
    obtain ⟨b, hb⟩ := hnc c rfl
    obtain ⟨callee, args, ats⟩ := c
    simp only at hb; subst hb
    split at h
    · simp at h
    · rename_i vs hvs
      obtain ⟨e1, i1⟩ := avals_sound hvs hE hG
      have ea : args.map a.eval = ⟨concL e vs⟩ := by apply Array.ext'; simp [e1]
      dsimp only at h
      have hrun : ∀ (consts : Array Bool) (R : Result Next), (builtin b ats oty consts ⟨concL e vs⟩).run P w = R →
          True := fun _ _ _ => trivial
      unfold heavyBuiltin at h
      split at h
      · split at h
        · rename_i t rest s x hts
          split at h
          · rename_i zeros hz
            simp only [AV.idsL, and_true] at i1
            have hrest : rest = ats.toList.drop 1 := by rw [hts]; rfl
            obtain ⟨e', w', h2, h3, h4, h5⟩ := aappend_sound (P := P) (ts := ats) (ty := oty) (args := ⟨concL e [s, x]⟩) h hS i1.1 i1.2 (by rw [← Array.getElem?_toList, hts]; rfl) (by simp [concL]) (by simp [concL])
              (zk_of (by rw [← hrest]; exact hz))
            exact ⟨e', w', .value (conc e' v), by simp [resolve, invoke, builtin, ea, h2], .inl rfl, h3, h4, h5⟩
          · simp at h
        · simp at h
      · split at h
        · rename_i t ts x xs hts
          simp only [AV.idsL] at i1
          obtain ⟨w', h2, h3, h4, h5⟩ := aclear_sound h hS i1.1 ats oty ⟨concL e (x :: xs)⟩ (by rw [← Array.getElem?_toList, hts]; rfl) (by simp [concL])
          exact ⟨e, w', .value (conc e v), by simp [resolve, invoke, builtin, ea, h2], .inl rfl, h3, h4, h5⟩
        · simp at h
      · split at h
        · rename_i t ts x ik n hts
          have hts0 : ats[0]? = some t := by rw [← Array.getElem?_toList, hts]; rfl
          split at h
          · rename_i r o
            cases hn : decide (n = 0) with
            | true =>
              rw [hn] at h
              simp only [cond_true, Option.some.injEq, Prod.mk.injEq] at h
              obtain ⟨rfl, rfl⟩ := h
              have hn := of_decide_eq_true hn
              subst hn
              have h2 := run_unsafeString0 (P := P) (w := w) (ats := ats) (ty := oty) (ik := ik) (p := some ⟨e.blk r, e.base r + o, none⟩) hts0
              refine ⟨e, w, .value (conc e (.str [])), ?_, .inl rfl, Ext.refl _ _ _, hS, trivial⟩
              have e2 : (⟨concL e [AV.ptr r o, AV.int ik 0]⟩ : Array Value) = #[.pointer (some ⟨e.blk r, e.base r + o, none⟩), .int ik 0] := by simp [concL, conc]
              simp only [resolve, invoke, builtin, ea, e2, Sem.run_bind, Sem.run_pure, Result.andThen_ok, h2]
              rfl
            | false =>
              rw [hn] at h
              simp only [cond_false] at h
              obtain ⟨w', h2, h3, h4, h5⟩ := aunsafeString_sound (P := P) (ats := ats) (ty := oty) (ik := ik) h hS hts0
              refine ⟨e, w', .value (conc e v), ?_, .inl rfl, h3, h4, h5⟩
              have e2 : (⟨concL e [AV.ptr r o, AV.int ik n]⟩ : Array Value) = #[conc e (.ptr r o), .int ik n] := by simp [concL, conc]
              simp only [resolve, invoke, builtin, ea, e2, Sem.run_bind, Sem.run_pure, Result.andThen_ok, h2]
          · obtain ⟨h1, h2⟩ := bif_some h
            simp only [Option.some.injEq, Prod.mk.injEq] at h2
            obtain ⟨rfl, rfl⟩ := h2
            have hn := of_decide_eq_true h1
            subst hn
            have h2 := run_unsafeString0 (P := P) (w := w) (ats := ats) (ty := oty) (ik := ik) (p := none) hts0
            refine ⟨e, w, .value (conc e (.str [])), ?_, .inl rfl, Ext.refl _ _ _, hS, trivial⟩
            have e2 : (⟨concL e [AV.nilp, AV.int ik 0]⟩ : Array Value) = #[.pointer none, .int ik 0] := by simp [concL, conc]
            simp only [resolve, invoke, builtin, ea, e2, Sem.run_bind, Sem.run_pure, Result.andThen_ok, h2]
            rfl
          · simp at h
        · simp at h
      · simp at h

end
end Ai
end Go.Proofs.YtipgfljojhdhjaaGreatDoor

namespace Go.Proofs.YtipgfljojhdhjaaGreatDoor
namespace Ai
section
variable {P : Program} {gl : Gl} {e : Emb} {H H' : AH} {env : Tm AV} {a : Act} {w : World} {r : Rec}

def F0 (e : Emb) : Option Nat → Fence
  | none => Fence.wide
  | some l => Fence.wide.inRound (e.blk l)

theorem F0_fn (e : Emb) (ro : Option Nat) (f : FuncId) : (F0 e ro).fn f := by cases ro <;> trivial
theorem F0_depth (e : Emb) (ro : Option Nat) : (F0 e ro).depth = none := by cases ro <;> rfl
theorem F0_congr {M : Nat → Prop} {e e' : Emb} (h : Agree M e e') {ro : Option Nat} (hr : ∀ l, ro = some l → M l) : F0 e' ro = F0 e ro := by
  cases ro with
  | none => rfl
  | some l => simp only [F0, (h l (hr l rfl)).1]

def exitOf : AX → Exit
  | .normal => .normal
  | .exit id => .exit id
  | .ret => .ret

def MarksRel (e : Emb) (n : Nat) (ms : List Nat) (ds : List Deferred) : Prop :=
  ds = ms.map (fun r => { target := .collected (e.blk r), args := #[] }) ∧ ∀ r ∈ ms, r < n

theorem MarksRel.congr {e e' : Emb} {n n' : Nat} {ms : List Nat} {ds : List Deferred} (h : MarksRel e n ms ds) (ha : Agree (· < n) e e') (hn : n ≤ n') : MarksRel e' n' ms ds := by
  refine ⟨h.1.trans (List.map_congr_left fun r hr => ?_), fun r hr => Nat.lt_of_lt_of_le (h.2 r hr) hn⟩
  rw [(ha r (h.2 r hr)).1]

/-- What a call, or a round, hands back. -/
def Back (e : Emb) (H : AH) (w : World) (v : AV) (H' : AH) (en : Ending) (w' : World) : Prop :=
  ∃ e', en = .returned (conc e' v) ∧ Ext e H w e' H' w' ∧ Sim e' H' w' ∧ v.ids e' (· < H'.next)

def CallOk (P : Program) (gl : Gl) (r : Rec) : Prop :=
  ∀ f args H v H', r.call f args H = some (v, H') → ∀ e w, Sim e H w → GlOk gl e H.next → AV.idsL e (· < H.next) args →
    (∀ (as : Array Value) w, (callFunc f as).run P w = .ok (.enter f as) w) ∧ CallsIn Fence.wide 0 P f ⟨concL e args⟩ w (Back e H w v H')

def RoundOk (P : Program) (gl : Gl) (r : Rec) : Prop :=
  ∀ l args H v H', r.round l args H = some (v, H') → ∀ e w, Sim e H w → GlOk gl e H.next → AV.idsL e (· < H.next) args →
    ∃ f tmps assign body, (Instr.yield (e.blk l) ⟨concL e args⟩).run P w = .ok (.round (e.blk l) f tmps assign body) w ∧
      RoundIn Fence.wide 0 P (e.blk l) f tmps assign body w (Back e H w v H')

def ExSound (P : Program) (gl : Gl) (ro : Option Nat) (c : Code) (s : St) (x : AX) (s' : St) : Prop :=
  ∀ e a w, Sim e s.h w → GlOk gl e s.h.next → EnvRel e (· < s.h.next) s.env a.tmps → MarksRel e s.h.next s.marks a.defers → (∀ l, ro = some l → l < s.h.next) →
    ∀ Q : Exit → Act → World → Prop, (∀ e' a' w', Ext e s.h w e' s'.h w' → Sim e' s'.h w' → EnvRel e' (· < s'.h.next) s'.env a'.tmps → MarksRel e' s'.h.next s'.marks a'.defers → Q (exitOf x) a' w') →
    c.wpIn (F0 e ro) 0 P Q a w

theorem GlOk.m {n : Nat} (h : GlOk gl e n) : GlM gl e (· < n) := h

theorem put_defers (a : Act) (d : Option Tmp) (v : Value) : (a.put d v).defers = a.defers := by cases d <;> rfl

/-! Functions without a body. -/
theorem extFn_some {f : FuncId} {fn : Func} (h : extFn P f = some fn) : P.funcs[f]? = some fn ∧ fn.body = none := by
  unfold extFn at h
  split at h
  · rename_i fn' hf
    split at h
    · rename_i hb
      simp only [Option.some.injEq] at h
      subst h
      exact ⟨hf, hb⟩
    · simp at h
  · simp at h

theorem find_noEscape {fn : Func} (h : fn.name = "internal/abi.NoEscape") : Extern.find fn = some Extern.AbiNoEscape.same := by
  unfold Extern.find
  rw [h]
  rfl
theorem find_indexByte {fn : Func} (h : fn.name = "internal/bytealg.IndexByteString") : Extern.find fn = some Extern.BytealgIndexByte.indexByte := by
  unfold Extern.find
  rw [h]
  rfl
theorem find_count {fn : Func} (h : fn.name = "internal/bytealg.CountString") : Extern.find fn = some Extern.BytealgCount.count := by
  unfold Extern.find
  rw [h]
  rfl

theorem aextern_sound {f : FuncId} {fn : Func} {vs : List AV} {v : AV} {M : Nat → Prop} (hf : extFn P f = some fn) (h : aextern fn vs = some v) (hi : AV.idsL e M vs) :
    (callFunc f ⟨concL e vs⟩).run P w = .ok (.value (conc e v)) w ∧ v.ids e M := by
  obtain ⟨hf1, hf2⟩ := extFn_some hf
  unfold aextern at h
  obtain ⟨h1, h⟩ := bif_some h
  simp only [Bool.and_eq_true, Bool.not_eq_true'] at h1
  obtain ⟨h1, h2⟩ := h1
  have h1 : Extern.findNext fn = none := by simpa using h1
  split at h
  · rename_i x _
    obtain ⟨h3, h4⟩ := bif_some h
    simp only [Option.some.injEq] at h4; subst h4
    have hn : fn.name = "internal/abi.NoEscape" := by simpa using h3
    refine ⟨?_, hi.1⟩
    rw [run_callFunc_extern hf1 h2 (by simp [hf2]) h1 (find_noEscape hn)]
    have : ∀ y : AV, Extern.AbiNoEscape.same ⟨concL e [y]⟩ = pure (conc e y) := fun _ => rfl
    rw [this]
    simp
  · rename_i s c _
    have e2 : (⟨concL e [.str s, .int .u8 c]⟩ : Array Value) = #[.string ⟨s.toArray⟩, .int .u8 c] := by simp [concL, conc]
    rw [e2]
    cases h3 : fn.name == "internal/bytealg.IndexByteString" with
    | true =>
      rw [h3] at h
      simp only [cond_true, Option.some.injEq] at h
      subst h
      have hn : fn.name = "internal/bytealg.IndexByteString" := by simpa using h3
      refine ⟨?_, trivial⟩
      rw [run_callFunc_extern hf1 h2 (by simp [hf2]) h1 (find_indexByte hn), Lib.run_indexByteString]
      simp [conc]
    | false =>
      rw [h3] at h
      simp only [cond_false] at h
      obtain ⟨h4, h5⟩ := bif_some h
      simp only [Option.some.injEq] at h5; subst h5
      have hn : fn.name = "internal/bytealg.CountString" := by simpa using h4
      refine ⟨?_, trivial⟩
      rw [run_callFunc_extern hf1 h2 (by simp [hf2]) h1 (find_count hn), Lib.run_countString]
      simp [conc]
  · simp at h

/-- **One operation's step.** -/
theorem aop_step' {ro : Option Nat} {o : Oper} {v : AV} {b : Act} (h : aop P r gl H env o.op = some (v, H')) (hC : CallOk P gl r) (hR : RoundOk P gl r) (hS : Sim e H w) (hG : GlOk gl e H.next) (hE : EnvRel e (· < H.next) env b.tmps)
    (hab : execOp a.eval o = execOp b.eval o)
    (next : Act → World → Prop) (Q : Exit → Act → World → Prop)
    (hK : ∀ e' w', Ext e H w e' H' w' → Sim e' H' w' → v.ids e' (· < H'.next) → next (a.put o.dst (conc e' v)) w') : o.wpIn (F0 e ro) 0 P a w next Q := by
  refine ⟨fun f _ => F0_fn e ro f, ?_⟩
  have hnd : ∀ c, o.op ≠ .defer c := by
    intro c hc
    rw [hc] at h
    simp [aop, cls, alight] at h
  rw [Oper.semAt_eq _ _ _ hnd, hab]
  unfold aop at h
  split at h
  · -- light
    split at h
    · rename_i u hu
      simp only [Option.some.injEq, Prod.mk.injEq] at h
      obtain ⟨rfl, rfl⟩ := h
      obtain ⟨h1, h2⟩ := alight_sound hu hE hG.m hS.view
      rw [h1, Oper.uponIn_value]
      exact hK e w (Ext.refl _ _ _) hS h2
    · simp at h
  · -- a new block
    split at h
    · rename_i u ob hu
      simp only [Option.some.injEq, Prod.mk.injEq] at h
      obtain ⟨rfl, rfl⟩ := h
      obtain ⟨h1, obj, h2, h3⟩ := afresh_sound hu hE hG.m w
      rw [h2, Oper.uponIn_value]
      obtain ⟨q1, q2, q3⟩ := Emb.at_same e H.next w.heap.size 0 0
      have hag := Emb.at_agree e H.next w.heap.size 0 0
      obtain ⟨p1, p2⟩ := sim_push hS (obj := obj) hag q1 (w' := { w with heap := w.heap.push obj }) rfl rfl rfl rfl (by
        rw [q2, q3]
        exact h3.rel hag (fun _ h => Nat.lt_succ_of_lt h) Array.getElem?_push_size 0)
      exact hK _ _ p2 p1 (h1.ids (Nat.lt_succ_self _))
    · simp at h
  · -- writes, or runs code
    by_cases hcall : ∃ c, o.op = .call c ∧ ∀ b, c.callee ≠ .builtin b
    · obtain ⟨c, hc, hnb⟩ := hcall
      rw [hc] at h
      obtain ⟨callee, args, ats⟩ := c
      simp only [aheavy] at h
      split at h
      · simp at h
      · rename_i vs hvs
        obtain ⟨e1, i1⟩ := avals_sound hvs hE hG.m
        have ea : args.map b.eval = ⟨concL e vs⟩ := by apply Array.ext'; simp [e1]
        cases callee with
        | builtin b => exact absurd rfl (hnb b)
        | invoke x m => simp at h
        | value fo =>
          simp only at h
          split at h
          · rename_i g first captured hfo
            obtain ⟨e2, i2⟩ := aval_sound hfo hE hG.m
            simp only [AV.ids] at i2
            have hres : (execOp b.eval o).run P w = (callFunc g ⟨concL e (first ++ vs ++ captured)⟩).run P w := by
              simp only [execOp, hc, resolve, ea, e2, conc, Deferred.ofValue, Sem.run_bind, Sem.run_pure, Result.andThen_ok, invoke]
              simp [concL_append]
            split at h
            · rename_i fnx hext
              simp only [Option.map_eq_some_iff, Prod.mk.injEq] at h
              obtain ⟨u, hu, rfl, rfl⟩ := h
              obtain ⟨x1, x2⟩ := aextern_sound (w := w) hext hu (idsL_append (idsL_append i2.1 i1) i2.2)
              rw [hres, x1, Oper.uponIn_value]
              exact hK e w (Ext.refl _ _ _) hS x2
            obtain ⟨hcf, hcall⟩ := hC _ _ _ _ _ h e w hS hG (idsL_append (idsL_append i2.1 i1) i2.2)
            have hrun : (execOp b.eval o).run P w = .ok (.enter g ⟨concL e (first ++ vs ++ captured)⟩) w := by
              simp only [execOp, hc, resolve, ea, e2, conc, Deferred.ofValue, Sem.run_bind, Sem.run_pure, Result.andThen_ok, invoke]
              rw [hcf]
              simp [concL_append]
            rw [hrun, Oper.uponIn_enter]
            refine ⟨fun hd => by rw [F0_depth] at hd; simp at hd, ?_⟩
            have hcall' : CallsIn (F0 e ro) (0 - 1) P g ⟨concL e (first ++ vs ++ captured)⟩ w (Back e H w v H') := by
              cases ro with
              | none => exact hcall
              | some l => exact hcall
            exact CallsIn.mono hcall' fun en w' hb => by
              obtain ⟨e', rfl, k1, k2, k3⟩ := hb
              exact hK e' w' k1 k2 k3
          · rename_i l hfo
            obtain ⟨e2, i2⟩ := aval_sound hfo hE hG.m
            obtain ⟨f, tmps, assign, body, hy, hround⟩ := hR _ _ _ _ _ h e w hS hG i1
            have hrun : (execOp b.eval o).run P w = .ok (.round (e.blk l) f tmps assign body) w := by
              simp only [execOp, hc, resolve, ea, e2, conc, Deferred.ofValue, Sem.run_bind, Sem.run_pure, Result.andThen_ok, invoke]
              simpa using hy
            rw [hrun, Oper.uponIn_round]
            refine ⟨fun hd => by rw [F0_depth] at hd; simp at hd, ?_⟩
            have hround' : RoundIn (F0 e ro) (0 - 1) P (e.blk l) f tmps assign body w (Back e H w v H') := by
              cases ro with
              | none => exact hround
              | some l' => exact hround
            exact RoundIn.mono hround' fun en w' hb => by
              obtain ⟨e', rfl, k1, k2, k3⟩ := hb
              exact hK e' w' k1 k2 k3
          · simp at h
    · have hnc : ∀ c, o.op = .call c → ∃ b, c.callee = .builtin b := by
        intro c hc
        apply Classical.byContradiction
        intro hne
        exact hcall ⟨c, hc, fun b hb => hne ⟨b, hb⟩⟩
      obtain ⟨e', w', nx, h1, h2, h3, h4, h5⟩ := aheavy_sound h hE hG.m hS hnc
      rw [h1]
      rcases h2 with rfl | ⟨rfl, rfl⟩
      · rw [Oper.uponIn_value]; exact hK e' w' h3 h4 h5
      · rw [Oper.uponIn_skip]; exact hK e' w' h3 h4 h5

theorem aop_step {ro : Option Nat} {o : Oper} {v : AV} (h : aop P r gl H env o.op = some (v, H')) (hC : CallOk P gl r) (hR : RoundOk P gl r) (hS : Sim e H w) (hG : GlOk gl e H.next) (hE : EnvRel e (· < H.next) env a.tmps)
    (next : Act → World → Prop) (Q : Exit → Act → World → Prop)
    (hK : ∀ e' w', Ext e H w e' H' w' → Sim e' H' w' → v.ids e' (· < H'.next) → next (a.put o.dst (conc e' v)) w') : o.wpIn (F0 e ro) 0 P a w next Q :=
  aop_step' h hC hR hS hG hE rfl next Q hK

theorem awanted_sound {M : Nat → Prop} {ops : Array Oper} {o : Oper} (hE : EnvRel e M env a.tmps) : Region.wanted o (yielded ops a.tmps) = awanted ops env o := by
  unfold Region.wanted awanted yielded
  cases o.guard with
  | none => rfl
  | some g =>
    obtain ⟨j, want⟩ := g
    simp only
    cases (ops[j]?).bind (·.dst) with
    | none => simp
    | some d =>
      have hv := hE.val d
      simp only [Option.bind_some]
      rw [← hv]
      cases hg : env.get d with
      | none => simp
      | some u =>
        cases u <;> simp [conc]

theorem idsL_undef {M : Nat → Prop} : undefA.ids e M := undefA_ids

/-- **The operations of a region, one after another.** -/
theorem runOps_sound {ro : Option Nat} {ops : Array Oper} (hC : CallOk P gl r) (hR : RoundOk P gl r) :
    ∀ (l : List Oper) (k : Nat), (∀ j, l[j]? = ops[k + j]?) → ∀ (env : Tm AV) (H : AH) (env' : Tm AV) (H' : AH), runOps P r gl ops l env H = some (env', H') →
      ∀ (e : Emb) (a : Act) (w : World), Sim e H w → GlOk gl e H.next → EnvRel e (· < H.next) env a.tmps → (∀ l, ro = some l → l < H.next) →
      ∀ Q : Exit → Act → World → Prop, (∀ e' a' w', Ext e H w e' H' w' → Sim e' H' w' → EnvRel e' (· < H'.next) env' a'.tmps → a'.defers = a.defers → Q .normal a' w') →
      wpOpsIn (F0 e ro) 0 P ops Q (List.range' k l.length) a w := by
  intro l
  induction l with
  | nil =>
    intro k _ env H env' H' h e a w hS hG hE hro Q hQ
    simp only [runOps, Option.some.injEq, Prod.mk.injEq] at h
    obtain ⟨rfl, rfl⟩ := h
    exact hQ e a w (Ext.refl _ _ _) hS hE rfl
  | cons o l ih =>
    intro k hk env H env' H' h e a w hS hG hE hro Q hQ
    have h0 : ops[k]? = some o := by simpa using (hk 0).symm
    have hk' : ∀ j, l[j]? = ops[k + 1 + j]? := fun j => by
      have := hk (j + 1)
      rw [List.getElem?_cons_succ] at this
      rw [this]; congr 1; omega
    simp only [List.length_cons, List.range'_succ, wpOpsIn, h0]
    rw [awanted_sound hE]
    simp only [runOps] at h
    cases hw : awanted ops env o with
    | true =>
      rw [hw] at h
      simp only [cond_true] at h
      rw [if_pos rfl]
      split at h
      · rename_i v H1 hop
        refine aop_step hop hC hR hS hG hE _ _ fun e1 w1 k1 k2 k3 => ?_
        have hF : F0 e1 ro = F0 e ro := F0_congr k1.agree hro
        rw [← hF]
        refine ih (k + 1) hk' _ _ _ _ h e1 _ w1 k2 (hG.ext k1) ((hE.ext k1).put o.dst v k3) (fun l hl => Nat.lt_of_lt_of_le (hro l hl) k1.next) Q fun e' a' w' m1 m2 m3 m4 => ?_
        exact hQ e' a' w' (k1.trans m1) m2 m3 (m4.trans (put_defers _ _ _))
      · simp at h
    | false =>
      rw [hw] at h
      simp only [cond_false] at h
      rw [if_neg (by simp)]
      refine ⟨fun f _ => F0_fn e ro f, ?_⟩
      refine ih (k + 1) hk' _ _ _ _ h e _ w hS hG ?_ hro Q fun e' a' w' m1 m2 m3 m4 => hQ e' a' w' m1 m2 m3 (m4.trans (put_defers _ _ _))
      have := hE.put o.dst undefA undefA_ids
      rw [undefA_conc] at this
      exact this

end
end Ai
end Go.Proofs.YtipgfljojhdhjaaGreatDoor

namespace Go.Proofs.YtipgfljojhdhjaaGreatDoor
namespace Ai

inductive Kd where
  | skip
  | light (v : AV)
  | chain (v : AV)
  | float (v : AV) (o : AObj)
def Kd.val : Kd → AV
  | .skip => undefA
  | .light v | .chain v | .float v _ => v
def Kd.mem : Kd → Prop
  | .chain _ | .float _ _ => True
  | _ => False

section
variable {P : Program} {gl : Gl} {r : Rec} {ops : Array Oper} {all : List Item}

def Stp (P : Program) (r : Rec) (gl : Gl) (ops : Array Oper) (all : List Item) (x : Item) (s s' : DS) : Kd → Prop
  | .skip => awanted ops s.env x.o = false ∧ s' = ⟨s.trs, s.fl, aput s.env x.o.dst undefA, s.h⟩
  | .light v => awanted ops s.env x.o = true ∧ cls P x.o.op = 0 ∧ alight P gl s.h.get s.env x.o.op = some v ∧ s.trs.all (trOk P gl s.fl (.light x s.env v)) = true ∧
      s' = ⟨.light x s.env v :: s.trs, s.fl, aput s.env x.o.dst v, s.h⟩
  | .chain v => awanted ops s.env x.o = true ∧ cls P x.o.op ≠ 0 ∧ isChain P all x = true ∧ aop P r gl s.h s.env x.o.op = some (v, s'.h) ∧ s.trs.all (trOk P gl s.fl (.chain x s.h s'.h)) = true ∧
      s.h.next ≤ s'.h.next ∧ seesOld ops x s.env s.h.next = true ∧ s' = ⟨.chain x s.h s'.h :: s.trs, s.fl, aput s.env x.o.dst v, s'.h⟩
  | .float v o => awanted ops s.env x.o = true ∧ cls P x.o.op = 1 ∧ isChain P all x = false ∧ afresh P gl s.env x.o.op s.h.next = some (v, o) ∧ seesOld ops x s.env s.h.next = true ∧
      s' = ⟨s.trs, (s.h.next, o) :: s.fl, aput s.env x.o.dst v, s.h.push o⟩

theorem drawStep_stp {x : Item} {s s' : DS} (h : drawStep P r gl ops all x s = some s') : ∃ k, Stp P r gl ops all x s s' k := by
  unfold drawStep at h
  cases hw : awanted ops s.env x.o with
  | false =>
    rw [hw] at h
    simp only [cond_false, Option.some.injEq] at h
    exact ⟨.skip, hw, h.symm⟩
  | true =>
    rw [hw] at h
    simp only [cond_true] at h
    cases h0 : Nat.beq (cls P x.o.op) 0 with
    | true =>
      rw [h0] at h
      simp only [cond_true] at h
      split at h
      · rename_i v hv
        obtain ⟨h1, h2⟩ := bif_some h
        exact ⟨.light v, hw, Nat.eq_of_beq_eq_true h0, hv, h1, (Option.some.inj h2).symm⟩
      · simp at h
    | false =>
      rw [h0] at h
      simp only [cond_false] at h
      have h0' : cls P x.o.op ≠ 0 := fun e => by rw [e] at h0; simp at h0
      cases hc : isChain P all x with
      | true =>
        rw [hc] at h
        simp only [cond_true] at h
        split at h
        · rename_i v H' hv
          obtain ⟨h1, h2⟩ := bif_some h
          simp only [Bool.and_eq_true] at h1
          have h2 := (Option.some.inj h2).symm
          subst h2
          exact ⟨.chain v, hw, h0', hc, hv, h1.1.1, Nat.le_of_ble_eq_true h1.1.2, h1.2, rfl⟩
        · simp at h
      | false =>
        rw [hc] at h
        simp only [cond_false] at h
        obtain ⟨h1, h2⟩ := bif_some h
        split at h2
        · rename_i v o hv
          obtain ⟨h3, h4⟩ := bif_some h2
          exact ⟨.float v o, hw, Nat.eq_of_beq_eq_true h1, hc, hv, h3, (Option.some.inj h4).symm⟩
        · simp at h2

theorem runDraw_trace : ∀ (l : List Item) (s s' : DS), runDraw P r gl ops all l s = some s' →
    ∃ (S : Nat → DS) (k : Nat → Kd), S 0 = s ∧ S l.length = s' ∧ ∀ i x, l[i]? = some x → Stp P r gl ops all x (S i) (S (i + 1)) (k i)
  | [], s, s', h => by
      simp only [runDraw, Option.some.injEq] at h
      exact ⟨fun _ => s, fun _ => .skip, rfl, h, fun i x hx => by simp at hx⟩
  | x :: l, s, s', h => by
      simp only [runDraw] at h
      split at h
      · rename_i s1 h1
        obtain ⟨k0, hk0⟩ := drawStep_stp h1
        obtain ⟨S, k, e0, e1, hs⟩ := runDraw_trace l s1 s' h
        refine ⟨fun i => match i with | 0 => s | i + 1 => S i, fun i => match i with | 0 => k0 | i + 1 => k i, rfl, e1, fun i y hy => ?_⟩
        cases i with
        | zero => simp at hy; subst hy; simp only [e0]; exact hk0
        | succ i => simp at hy; exact hs i y hy
      · simp at h

theorem Stp.env {x : Item} {s s' : DS} {k : Kd} (h : Stp P r gl ops all x s s' k) : s'.env = aput s.env x.o.dst k.val := by
  cases k with
  | skip => rw [h.2]; rfl
  | light v => rw [h.2.2.2.2]; rfl
  | chain v => obtain ⟨_, _, _, _, _, _, _, h⟩ := h; rw [h]; rfl
  | float v o => rw [h.2.2.2.2.2]; rfl
theorem Stp.next {x : Item} {s s' : DS} {k : Kd} (h : Stp P r gl ops all x s s' k) : s.h.next ≤ s'.h.next := by
  cases k with
  | skip => rw [h.2]; exact Nat.le_refl _
  | light v => rw [h.2.2.2.2]; exact Nat.le_refl _
  | chain v => obtain ⟨_, _, _, _, _, h, _⟩ := h; exact h
  | float v o => rw [h.2.2.2.2.2]; exact Nat.le_succ _
theorem Stp.wanted {x : Item} {s s' : DS} {k : Kd} (h : Stp P r gl ops all x s s' k) : awanted ops s.env x.o = true ∨ (k = .skip ∧ awanted ops s.env x.o = false) := by
  cases k with
  | skip => exact .inr ⟨rfl, h.1⟩
  | light v => exact .inl h.1
  | chain v => exact .inl h.1
  | float v o => exact .inl h.1
theorem Stp.trs {x : Item} {s s' : DS} {k : Kd} (h : Stp P r gl ops all x s s' k) : ∀ t ∈ s.trs, t ∈ s'.trs := by
  intro t ht
  cases k with
  | skip => rw [h.2]; exact ht
  | light v => rw [h.2.2.2.2]; exact List.mem_cons_of_mem _ ht
  | chain v => obtain ⟨_, _, _, _, _, _, _, h⟩ := h; rw [h]; exact List.mem_cons_of_mem _ ht
  | float v o => rw [h.2.2.2.2.2]; exact ht
theorem Stp.fl {x : Item} {s s' : DS} {k : Kd} (h : Stp P r gl ops all x s s' k) : ∀ t ∈ s'.fl, t ∈ s.fl ∨ (∃ v o, k = .float v o ∧ t = (s.h.next, o)) := by
  intro t ht
  cases k with
  | skip => rw [h.2] at ht; exact .inl ht
  | light v => rw [h.2.2.2.2] at ht; exact .inl ht
  | chain v => obtain ⟨_, _, _, _, _, _, _, h⟩ := h; rw [h] at ht; exact .inl ht
  | float v o =>
    rw [h.2.2.2.2.2] at ht
    rcases List.mem_cons.1 ht with h' | h'
    · exact .inr ⟨v, o, rfl, h'⟩
    · exact .inl h'

/-! Who surely comes before whom. -/
theorem bits_fold (acc : List Nat) (j : Nat) : ∀ (l : List Edge) (s : Nat), (l.foldl (fun s e => bif Region.binds .any e then s ||| 2 ^ e.on ||| (acc.getD e.on 0) else s) s).testBit j = true →
    s.testBit j = true ∨ ∃ e ∈ l, Region.binds .any e = true ∧ (j = e.on ∨ (acc.getD e.on 0).testBit j = true)
  | [], s, h => .inl h
  | e :: l, s, h => by
      simp only [List.foldl_cons] at h
      rcases bits_fold acc j l _ h with h | ⟨e', he, hb, h⟩
      · cases hb : Region.binds .any e with
        | true =>
          rw [hb] at h
          simp only [cond_true, Nat.testBit_or, Bool.or_eq_true, Nat.testBit_two_pow, decide_eq_true_eq] at h
          rcases h with (h | h) | h
          · exact .inl h
          · exact .inr ⟨e, List.mem_cons_self, hb, .inl h.symm⟩
          · exact .inr ⟨e, List.mem_cons_self, hb, .inr h⟩
        | false => rw [hb] at h; exact .inl h
      · exact .inr ⟨e', List.mem_cons_of_mem _ he, hb, h⟩

theorem befores_length : ∀ (l : List Oper) (acc : List Nat), (befores l acc).length = acc.length + l.length
  | [], acc => by simp [befores]
  | o :: l, acc => by rw [befores, befores_length l]; simp; omega
theorem befores_pre : ∀ (l : List Oper) (acc : List Nat) (i : Nat), i < acc.length → (befores l acc)[i]? = acc[i]?
  | [], acc, i, h => rfl
  | o :: l, acc, i, h => by
      rw [befores, befores_pre l _ i (by simp; omega), List.getElem?_append_left h]
theorem befores_get : ∀ (l : List Oper) (acc : List Nat) (i : Nat) (o : Oper), l[i]? = some o →
    ∃ acc', (befores l acc)[acc.length + i]? = some (beforeOf acc' o) ∧ ∀ j, j < acc.length + i → acc'[j]? = (befores l acc)[j]?
  | [], acc, i, o, h => by simp at h
  | o :: l, acc, 0, o', h => by
      simp at h; subst h
      refine ⟨acc, ?_, fun j hj => ?_⟩
      · rw [befores, befores_pre _ _ _ (by simp)]; simp
      · rw [befores, befores_pre _ _ _ (by simp; omega), List.getElem?_append_left (by omega)]
  | o :: l, acc, i + 1, o', h => by
      obtain ⟨acc', h1, h2⟩ := befores_get l (acc ++ [beforeOf acc o]) i o' (by simpa using h)
      rw [List.length_append, List.length_singleton] at h1 h2
      refine ⟨acc', ?_, fun j hj => ?_⟩
      · rw [befores]; rw [show acc.length + (i + 1) = acc.length + 1 + i by omega]; exact h1
      · rw [befores]; exact h2 j (by omega)

theorem items_get {i : Nat} {x : Item} (h : (items ops)[i]? = some x) : x.i = i ∧ ops[i]? = some x.o ∧ i < ops.size ∧ x.b = (befores ops.toList []).getD i 0 := by
  unfold items at h
  simp only [List.getElem?_map] at h
  cases hr : (List.range ops.size)[i]? with
  | none => rw [hr] at h; simp at h
  | some k =>
    rw [hr] at h
    have hlt : i < ops.size := by
      have := (List.getElem?_eq_some_iff.1 hr).1
      simpa using this
    rw [List.getElem?_range hlt] at hr
    simp only [Option.some.injEq] at hr
    subst hr
    simp only [Option.map_some, Option.some.injEq] at h
    subst h
    refine ⟨rfl, ?_, hlt, rfl⟩
    simp [Array.getD, hlt]
theorem items_length : (items ops).length = ops.size := by simp [items]
theorem items_at {i : Nat} (h : i < ops.size) : ∃ x, (items ops)[i]? = some x := ⟨_, List.getElem?_eq_getElem (by rw [items_length]; exact h)⟩

/-- A set of operations that holds, with each, those that it directly waits for. -/
def ClosedAt (D : Nat → Prop) (o : Oper) : Prop := ∀ e ∈ o.after, Region.binds .any e = true → D e.on

theorem bits_closed {D : Nat → Prop} (hD : ∀ (i : Nat) (o : Oper), ops[i]? = some o → D i → ClosedAt D o) (he : ∀ (i : Nat) (x : Item), (items ops)[i]? = some x → edgesOk x = true) :
    ∀ (i : Nat) (x : Item), (items ops)[i]? = some x → ClosedAt D x.o → ∀ j, x.b.testBit j = true → D j := by
  intro i
  induction i using Nat.strongRecOn with
  | _ i ih =>
    intro x hx hc j hj
    obtain ⟨hi, ho, hlt, hb⟩ := items_get hx
    obtain ⟨acc', h1, h2⟩ := befores_get ops.toList [] i x.o (by simpa using ho)
    simp only [List.length_nil, Nat.zero_add] at h1 h2
    rw [hb, List.getD_eq_getElem?_getD, h1, Option.getD_some] at hj
    unfold beforeOf at hj
    rcases bits_fold _ _ _ _ hj with h | ⟨e, hmem, hbd, h⟩
    · simp at h
    · have hmem' : e ∈ x.o.after := by simpa using hmem
      have hde := hc e hmem' hbd
      rcases h with rfl | h
      · exact hde
      · have hlt' : e.on < i := by
          have := he i x hx
          unfold edgesOk at this
          have := List.all_eq_true.1 this e hmem
          rw [hbd] at this
          simp only [Bool.not_true, Bool.false_or] at this
          have : e.on + 1 ≤ x.i := Nat.le_of_ble_eq_true this
          omega
        obtain ⟨y, hy⟩ := items_at (ops := ops) (i := e.on) (by omega)
        obtain ⟨_, hoy, _, hby⟩ := items_get hy
        refine ih e.on hlt' y hy (hD _ _ hoy hde) j ?_
        rw [hby, List.getD_eq_getElem?_getD, ← h2 _ hlt', ← List.getD_eq_getElem?_getD]
        exact h

theorem pairsOk_get : ∀ {l : List Item} {i j : Nat} {x y : Item}, pairsOk P ops l = true → i < j → l[i]? = some x → l[j]? = some y → pairOk P ops x y = true
  | [], i, j, x, y, h, hij, hx, hy => by simp at hx
  | z :: l, i, j, x, y, h, hij, hx, hy => by
      simp only [pairsOk, Bool.and_eq_true] at h
      cases j with
      | zero => omega
      | succ j =>
        simp only [List.getElem?_cons_succ] at hy
        cases i with
        | zero =>
          simp only [List.getElem?_cons_zero, Option.some.injEq] at hx; subst hx
          exact List.all_eq_true.1 h.1 y (List.mem_of_getElem? hy)
        | succ i =>
          have hx' : l[i]? = some x := by simpa using hx
          exact pairsOk_get h.2 (Nat.lt_of_succ_lt_succ hij) hx' hy

/-- Of two that make or write memory, the second a link of the chain: the first surely comes before. -/
theorem chain_ordered {i j : Nat} {x y : Item} (hd : drawOk P ops = true) (hij : i < j) (hx : (items ops)[i]? = some x) (hy : (items ops)[j]? = some y)
    (cx : cls P x.o.op ≠ 0) (cy : cls P y.o.op ≠ 0) (hc : isChain P (items ops) y = true) (hr : ∀ o : Oper, cls P o.op ≤ 2) : y.b.testBit i = true := by
  simp only [drawOk, Bool.and_eq_true] at hd
  have hp := pairsOk_get hd.2 hij hx hy
  obtain ⟨hi, _⟩ := items_get hx
  obtain ⟨hj, _⟩ := items_get hy
  unfold pairOk at hp
  rw [hi] at hp
  cases hb : y.b.testBit i with
  | true => rfl
  | false =>
    exfalso
    rw [hb, Bool.false_or, Bool.and_eq_true] at hp
    have hp := hp.2
    have := hr x.o
    have := hr y.o
    have hcy : cls P y.o.op = 1 ∨ cls P y.o.op = 2 := by omega
    have hcx : cls P x.o.op = 1 ∨ cls P x.o.op = 2 := by omega
    rcases hcy with hcy | hcy
    · unfold isChain at hc
      rw [hcy] at hc
      have := List.all_eq_true.1 hc x (List.mem_of_getElem? hx)
      have hyx : ¬ y.i = x.i := by omega
      have hne : Nat.beq y.i x.i = false := beq_no hyx
      have hlt : Nat.blt y.i x.i = false := by
        cases h : Nat.blt y.i x.i with
        | false => rfl
        | true => have : y.i + 1 ≤ x.i := Nat.le_of_ble_eq_true h
                  omega
      rw [hne, hlt, hi, hb] at this
      rcases hcx with h | h <;> rw [h] at this <;> simp at this
    · rw [hcy] at hp
      rcases hcx with h | h <;> rw [h] at hp <;> simp at hp

theorem cls_le (op : Op) : cls P op ≤ 2 := by
  unfold cls
  split <;> (try split) <;> (try split) <;> simp

end
end Ai
end Go.Proofs.YtipgfljojhdhjaaGreatDoor

namespace Go.Proofs.YtipgfljojhdhjaaGreatDoor
namespace Ai

section
variable {P : Program} {gl : Gl} {r : Rec} {ops : Array Oper} {env env' : Tm AV} {get get' : Nat → Option AObj} {H : AH}

theorem avals_congr : ∀ {l : List Operand}, (∀ x ∈ l, aval gl env x = aval gl env' x) → avals gl env l = avals gl env' l
  | [], _ => rfl
  | x :: l, h => by
      simp only [avals]
      rw [h x List.mem_cons_self, avals_congr (l := l) fun y hy => h y (List.mem_cons_of_mem _ hy)]
theorem partsA_congr : ∀ {l : List (Nat × Operand)}, (∀ x ∈ l.map (·.2), aval gl env x = aval gl env' x) → partsA gl env l = partsA gl env' l
  | [], _ => rfl
  | (i, x) :: l, h => by
      simp only [partsA]
      rw [h x (by simp), partsA_congr (l := l) fun y hy => h y (by simp only [List.map_cons]; exact List.mem_cons_of_mem _ hy)]
theorem avalO_congr {x : Option Operand} (h : ∀ y ∈ x.toArray, aval gl env y = aval gl env' y) : avalO gl env x = avalO gl env' x := by
  cases x with
  | none => rfl
  | some y => simp only [avalO]; rw [h y (by simp)]

theorem alight_congr {op : Op} (h : ∀ x ∈ op.operands, aval gl env x = aval gl env' x) : alight P gl get env op = alight P gl get env' op := by
  cases op
  case build t ps =>
    simp only [Op.operands] at h
    simp only [alight]
    rw [partsA_congr fun x hx => h x (by simpa using hx)]
  case makeFunc f first captured =>
    simp only [Op.operands] at h
    have e1 : avals gl env first.toList = avals gl env' first.toList := avals_congr fun x hx => h x (by simp; exact .inl (by simpa using hx))
    have e2 : avals gl env captured.toList = avals gl env' captured.toList := avals_congr fun x hx => h x (by simp; exact .inr (by simpa using hx))
    cases f <;> simp only [alight, e1, e2]
  case slice t x lo hi mx =>
    simp only [Op.operands] at h
    have e0 := h x (by simp)
    have e1 : avalO gl env lo = avalO gl env' lo := avalO_congr fun y hy => h y (by simp only [Array.mem_append]; exact .inl (.inl (.inr hy)))
    have e2 : avalO gl env hi = avalO gl env' hi := avalO_congr fun y hy => h y (by simp only [Array.mem_append]; exact .inl (.inr hy))
    have e3 : avalO gl env mx = avalO gl env' mx := avalO_congr fun y hy => h y (by simp only [Array.mem_append]; exact .inr hy)
    simp only [alight, on1, e0, e1, e2, e3]
  case call c =>
    simp only [Op.operands, Call.operands] at h
    have e1 : avals gl env c.args.toList = avals gl env' c.args.toList := avals_congr fun x hx => h x (by simp only [Array.mem_append]; exact .inr (by simpa using hx))
    simp only [alight, e1]
  all_goals simp only [Op.operands] at h
  all_goals first
    | rfl
    | (simp only [alight, on1, on2]; simp [h])

theorem afresh_congr {op : Op} {k : Nat} (h : ∀ x ∈ op.operands, aval gl env x = aval gl env' x) : afresh P gl env op k = afresh P gl env' op k := by
  cases op
  case buildSlice t n ps =>
    simp only [Op.operands] at h
    simp only [afresh]
    rw [partsA_congr fun x hx => h x (by simpa using hx)]
  case makeMap t x =>
    simp only [Op.operands] at h
    cases x with
    | none => rfl
    | some y => simp only [afresh]; rw [h y (by simp)]
  all_goals simp only [Op.operands] at h
  all_goals first
    | rfl
    | (simp only [afresh]; simp [h])

theorem aheavy_congr {op : Op} (h : ∀ x ∈ op.operands, aval gl env x = aval gl env' x) : aheavy P r gl H env op = aheavy P r gl H env' op := by
  cases op
  case call c =>
    simp only [Op.operands, Call.operands] at h
    have e1 : avals gl env c.args.toList = avals gl env' c.args.toList := avals_congr fun x hx => h x (by simp only [Array.mem_append]; exact .inr (by simpa using hx))
    obtain ⟨callee, args, ats⟩ := c
    cases callee with
    | value f =>
      have e2 := h f (by simp)
      simp only [aheavy]
      simp only at e1
      rw [e1, e2]
    | builtin b => simp only [aheavy]; simp only at e1; rw [e1]
    | invoke x m => simp only [aheavy]; simp only at e1; rw [e1]
  all_goals simp only [Op.operands] at h
  all_goals first
    | rfl
    | (simp only [aheavy]; simp [h])

theorem aop_congr {op : Op} (h : ∀ x ∈ op.operands, aval gl env x = aval gl env' x) : aop P r gl H env op = aop P r gl H env' op := by
  unfold aop
  rw [alight_congr h, afresh_congr h, aheavy_congr h]

theorem looks_aval {o : Oper} (h : ∀ d ∈ looks ops o, env.get d = env'.get d) : ∀ x ∈ o.op.operands, aval gl env x = aval gl env' x := by
  intro x hx
  cases x with
  | tmp t =>
    simp only [aval]
    rw [h t]
    unfold looks
    exact List.mem_append_left _ (List.mem_filterMap.2 ⟨.tmp t, by simpa using hx, rfl⟩)
  | _ => rfl

theorem looks_wanted {o : Oper} (h : ∀ d ∈ looks ops o, env.get d = env'.get d) : awanted ops env o = awanted ops env' o := by
  unfold awanted
  cases hg : o.guard with
  | none => rfl
  | some g =>
    obtain ⟨j, want⟩ := g
    simp only
    cases hd : (ops[j]?).bind (·.dst) with
    | none => rfl
    | some d =>
      simp only
      rw [h d]
      unfold looks
      refine List.mem_append_right _ ?_
      rw [hg]
      simp only
      rw [hd]
      exact List.mem_singleton.2 rfl

theorem alight_mem {op : Op} (h : readsMem op = false) : alight P gl get env op = alight P gl get' env op := by
  cases op
  case makeFunc f first captured => cases f <;> rfl
  all_goals first
    | rfl
    | (simp [readsMem] at h; done)

theorem memN_iff {x : Nat} : ∀ {l : List Nat}, memN x l = true ↔ x ∈ l
  | [] => by simp [memN]
  | y :: l => by
      simp only [memN, Bool.or_eq_true, List.mem_cons, memN_iff (l := l)]
      exact or_congr ⟨Nat.eq_of_beq_eq_true, fun h => by subst h; exact Nat.beq_refl x⟩ Iff.rfl

theorem apartOf_spec {x y : Oper} (h : apartOf ops x y = true) :
    (∀ d, x.dst = some d → d ∉ looks ops y) ∧ (∀ d, x.dst = some d → y.dst ≠ some d) ∧ (∀ d, y.dst = some d → d ∉ looks ops x) := by
  unfold apartOf at h
  simp only [Bool.and_eq_true] at h
  obtain ⟨h1, h2⟩ := h
  refine ⟨fun d hd hm => ?_, fun d hd hy => ?_, fun d hd hm => ?_⟩
  · rw [hd] at h1
    simp only [Bool.and_eq_true] at h1
    rw [memN_iff.2 hm] at h1
    simp at h1
  · rw [hd, hy] at h1
    simp only [Bool.and_eq_true] at h1
    have : Nat.beq d d = true := Nat.beq_refl d
    rw [this] at h1
    simp at h1
  · rw [hd] at h2
    simp only at h2
    rw [memN_iff.2 hm] at h2
    simp at h2

/-! Old values only. -/
mutual
theorem old_ids {e : Emb} {M : Nat → Prop} {n : Nat} : ∀ (v : AV), v.ids e M → AV.old n v = true → v.ids e (fun r => r < n ∧ M r)
  | .bool _, _, _ | .int _ _, _, _ | .str _, _, _ | .nilp, _, _ | .nils, _, _ | .nilm, _, _ | .nilf, _, _ | .nili, _, _ => by simp [AV.ids]
  | .ptr r o, hv, ho => by simp only [AV.ids, AV.old] at *; exact ⟨Nat.le_of_ble_eq_true ho, hv⟩
  | .slice r o l k c, hv, ho => by simp only [AV.ids, AV.old] at *; exact ⟨⟨Nat.le_of_ble_eq_true ho, hv.1⟩, hv.2⟩
  | .map r, hv, ho => by simp only [AV.ids, AV.old] at *; exact ⟨Nat.le_of_ble_eq_true ho, hv⟩
  | .yld r, hv, ho => by simp only [AV.ids, AV.old] at *; exact ⟨Nat.le_of_ble_eq_true ho, hv⟩
  | .func f a b, hv, ho => by simp only [AV.ids, AV.old, Bool.and_eq_true] at *; exact ⟨old_idsL a hv.1 ho.1, old_idsL b hv.2 ho.2⟩
  | .iface t v, hv, ho => by simp only [AV.ids, AV.old] at *; exact old_ids v hv ho
  | .agg cs, hv, ho => by simp only [AV.ids, AV.old] at *; exact old_idsL cs hv ho
  | .tup cs, hv, ho => by simp only [AV.ids, AV.old] at *; exact old_idsL cs hv ho
theorem old_idsL {e : Emb} {M : Nat → Prop} {n : Nat} : ∀ (l : List AV), AV.idsL e M l → AV.oldL n l = true → AV.idsL e (fun r => r < n ∧ M r) l
  | [], _, _ => trivial
  | v :: vs, hv, ho => by simp only [AV.idsL, AV.oldL, Bool.and_eq_true] at *; exact ⟨old_ids v hv.1 ho.1, old_idsL vs hv.2 ho.2⟩
end

/-- A frame of which only some slots are kept. -/
def keepT (p : Nat → Bool) : Tm AV → Tm AV
  | .lf => .lf
  | .nd v l r => .nd (bif p 0 then v else undefA) (keepT (fun j => p (2 * j + 1)) l) (keepT (fun j => p (2 * j + 2)) r)
theorem keepT_get : ∀ (t : Tm AV) (p : Nat → Bool) (k : Nat), (keepT p t).get k = (t.get k).map fun v => bif p k then v else undefA
  | .lf, p, k => by simp [keepT, Tm.get]
  | .nd v l r, p, 0 => by simp [keepT, Tm.get]
  | .nd v l r, p, k + 1 => by
      simp only [keepT, Tm.get]
      cases hk : Nat.beq (k % 2) 0 with
      | true =>
        have h1 : k % 2 = 0 := Nat.eq_of_beq_eq_true hk
        simp only [cond_true]
        rw [keepT_get l]
        rw [show 2 * (k / 2) + 1 = k + 1 by omega]
      | false =>
        have h1 : ¬ k % 2 = 0 := fun h => by rw [h] at hk; simp at hk
        simp only [cond_false]
        rw [keepT_get r]
        rw [show 2 * (k / 2) + 2 = k + 1 by omega]

/-- An activation that is alike where it is looked at, and names nothing new. -/
theorem masked {e : Emb} {M : Nat → Prop} {a : Act} {n : Nat} {x : Item} (hE : EnvRel e M env a.tmps) (hold : seesOld ops x env n = true) :
    ∃ (env1 : Tm AV) (b : Act), EnvRel e (fun r => r < n ∧ M r) env1 b.tmps ∧ (∀ d ∈ looks ops x.o, env1.get d = env.get d) ∧ (∀ y ∈ x.o.op.operands, b.eval y = a.eval y) := by
  let p : Nat → Bool := fun d => memN d (looks ops x.o)
  refine ⟨keepT p env, { a with tmps := a.tmps.mapIdx fun i v => bif p i then v else undef }, ⟨fun t => ?_, fun t v hv => ?_⟩, fun d hd => ?_, fun y hy => ?_⟩
  · rw [keepT_get, Array.getElem?_mapIdx, ← hE.val t]
    cases env.get t with
    | none => rfl
    | some v => simp only [Option.map_some]; cases p t <;> simp [undefA_conc]
  · rw [keepT_get] at hv
    cases hg : env.get t with
    | none => rw [hg] at hv; simp at hv
    | some u =>
      rw [hg] at hv
      simp only [Option.map_some, Option.some.injEq] at hv
      subst hv
      cases hp : p t with
      | false => exact undefA_ids
      | true =>
        simp only [cond_true]
        have := List.all_eq_true.1 hold t (memN_iff.1 hp)
        rw [hg] at this
        exact old_ids u (hE.ids t u hg) this
  · rw [keepT_get]
    have : p d = true := memN_iff.2 hd
    rw [this]
    simp
  · cases y with
    | tmp t =>
      have : p t = true := memN_iff.2 (List.mem_append_left _ (List.mem_filterMap.2 ⟨.tmp t, by simpa using hy, rfl⟩))
      simp only [Act.eval]
      rw [Array.getD_eq_getD_getElem?, Array.getElem?_mapIdx, Array.getD_eq_getD_getElem?, this]
      simp
    | _ => rfl

end
end Ai
end Go.Proofs.YtipgfljojhdhjaaGreatDoor

namespace Go.Proofs.YtipgfljojhdhjaaGreatDoor
namespace Ai

section
variable {P : Program} {gl : Gl} {r : Rec} {ops : Array Oper} {S : Nat → DS} {k : Nat → Kd} {D : Nat → Prop} {m : Nat} {e e' : Emb} {w w' w0 : World} {e0 : Emb} {H H' : AH}

theorem Tm.get_put_old {α : Type} (t : Tm α) : ∀ (k j : Nat) (x o : α), t.get j = some o → j ≠ k → (t.put k x).get j = some o := by
  induction t with
  | lf => intro k j x o h; simp [Tm.get] at h
  | nd v l r ihl ihr =>
    intro k j x o h hne
    cases k with
    | zero => cases j with
      | zero => exact absurd rfl hne
      | succ j => simpa [Tm.put, Tm.get] using h
    | succ k =>
      cases j with
      | zero => simp only [Tm.put]; cases hk : Nat.beq (k % 2) 0 <;> simpa [Tm.get] using h
      | succ j =>
        simp only [Tm.put]
        cases hk : Nat.beq (k % 2) 0 <;> cases hj : Nat.beq (j % 2) 0 <;> simp only [Tm.get, hj, cond_true, cond_false] at h ⊢
        · have h1 : ¬ k % 2 = 0 := fun h => by rw [h] at hk; simp at hk
          have h2 : ¬ j % 2 = 0 := fun h => by rw [h] at hj; simp at hj
          exact ihr _ _ _ _ h (by omega)
        · exact h
        · exact h
        · have h1 : k % 2 = 0 := Nat.eq_of_beq_eq_true hk
          have h2 : j % 2 = 0 := Nat.eq_of_beq_eq_true hj
          exact ihl _ _ _ _ h (by omega)

theorem get_push_old {o p : AObj} {q : Nat} (h : H.get q = some p) (hq : q < H.next) : (H.push o).get q = some p := Tm.get_put_old _ _ _ _ _ h (by omega)

structure Trace (P : Program) (r : Rec) (gl : Gl) (ops : Array Oper) (S : Nat → DS) (k : Nat → Kd) : Prop where
  draw : drawOk P ops = true
  trs : (S 0).trs = []
  fl : (S 0).fl = []
  stp : ∀ (i : Nat) (x : Item), (items ops)[i]? = some x → Stp P r gl ops (items ops) x (S i) (S (i + 1)) (k i)

theorem Trace.next (T : Trace P r gl ops S k) {i j : Nat} (h : i ≤ j) (hj : j ≤ ops.size) : (S i).h.next ≤ (S j).h.next := by
  induction j with
  | zero => have : i = 0 := by omega
            subst this; exact Nat.le_refl _
  | succ j ih =>
    by_cases hij : i = j + 1
    · subst hij; exact Nat.le_refl _
    · obtain ⟨x, hx⟩ := items_at (ops := ops) (i := j) (by omega)
      exact Nat.le_trans (ih (by omega) (by omega)) (T.stp j x hx).next

theorem Trace.float (T : Trace P r gl ops S k) {i : Nat} {v : AV} {o : AObj} (hi : i < ops.size) (hk : k i = .float v o) : (S (i + 1)).h = (S i).h.push o := by
  obtain ⟨x, hx⟩ := items_at (ops := ops) hi
  have := T.stp i x hx
  rw [hk] at this
  rw [this.2.2.2.2.2]
theorem Trace.quiet1 (T : Trace P r gl ops S k) {i : Nat} (hi : i < ops.size) (hk : ¬ (k i).mem) : (S (i + 1)).h = (S i).h := by
  obtain ⟨x, hx⟩ := items_at (ops := ops) hi
  have := T.stp i x hx
  cases hk' : k i with
  | skip => rw [hk'] at this; rw [this.2]
  | light v => rw [hk'] at this; rw [this.2.2.2.2]
  | chain v => rw [hk'] at hk; exact absurd trivial hk
  | float v o => rw [hk'] at hk; exact absurd trivial hk

theorem Trace.float_lt (T : Trace P r gl ops S k) {i j : Nat} {v : AV} {o : AObj} (h : i < j) (hj : j ≤ ops.size) (hk : k i = .float v o) : (S i).h.next < (S j).h.next := by
  have h1 := T.next (i := i + 1) (j := j) (by omega) hj
  rw [T.float (by omega) hk] at h1
  exact h1

theorem Trace.float_inj (T : Trace P r gl ops S k) {i j : Nat} {v v' : AV} {o o' : AObj} (hi : i < ops.size) (hj : j < ops.size) (hk : k i = .float v o) (hk' : k j = .float v' o') (h : (S i).h.next = (S j).h.next) : i = j := by
  rcases Nat.lt_trichotomy i j with hlt | heq | hgt
  · have := T.float_lt hlt (by omega) hk; omega
  · exact heq
  · have := T.float_lt hgt (by omega) hk'; omega

theorem Trace.trs_mono (T : Trace P r gl ops S k) {i j : Nat} (h : i ≤ j) (hj : j ≤ ops.size) : ∀ t ∈ (S i).trs, t ∈ (S j).trs := by
  induction j with
  | zero => have : i = 0 := by omega
            subst this; exact fun _ h => h
  | succ j ih =>
    by_cases hij : i = j + 1
    · subst hij; exact fun _ h => h
    · obtain ⟨x, hx⟩ := items_at (ops := ops) (i := j) (by omega)
      exact fun t ht => (T.stp j x hx).trs t (ih (by omega) (by omega) t ht)

theorem Trace.fl_mem (T : Trace P r gl ops S k) {j : Nat} (hj : j ≤ ops.size) {t : Nat × AObj} (ht : t ∈ (S j).fl) : ∃ i v o, i < j ∧ k i = .float v o ∧ t = ((S i).h.next, o) := by
  induction j with
  | zero => rw [T.fl] at ht; simp at ht
  | succ j ih =>
    obtain ⟨x, hx⟩ := items_at (ops := ops) (i := j) (by omega)
    rcases (T.stp j x hx).fl t ht with h | ⟨v, o, h1, h2⟩
    · obtain ⟨i, v, o, h1, h2, h3⟩ := ih (by omega) h
      exact ⟨i, v, o, by omega, h2, h3⟩
    · exact ⟨j, v, o, by omega, h1, h2⟩

theorem Trace.back (T : Trace P r gl ops S k) {i j : Nat} (h : i ≤ j) (hj : j ≤ ops.size) (hn : ∀ c v, i ≤ c → c < j → k c ≠ .chain v) {q : Nat} {o : AObj} (hg : (S j).h.get q = some o) :
    (S i).h.get q = some o ∨ ∃ f v, i ≤ f ∧ f < j ∧ k f = .float v o ∧ q = (S f).h.next := by
  induction j with
  | zero => have : i = 0 := by omega
            subst this; exact .inl hg
  | succ j ih =>
    by_cases hij : i = j + 1
    · subst hij; exact .inl hg
    · have ih' : (S j).h.get q = some o → (S i).h.get q = some o ∨ ∃ f v, i ≤ f ∧ f < j + 1 ∧ k f = .float v o ∧ q = (S f).h.next := fun hg => by
        rcases ih (by omega) (by omega) (fun c v h1 h2 => hn c v h1 (by omega)) hg with h | ⟨f, v, h1, h2, h3⟩
        · exact .inl h
        · exact .inr ⟨f, v, h1, by omega, h3⟩
      cases hk : k j with
      | chain v => exact absurd hk (hn j v (by omega) (by omega))
      | skip => rw [T.quiet1 (by omega) (by rw [hk]; exact id)] at hg; exact ih' hg
      | light v => rw [T.quiet1 (by omega) (by rw [hk]; exact id)] at hg; exact ih' hg
      | float v p =>
        rw [T.float (by omega) hk] at hg
        rcases get_push hg with ⟨h1, h2⟩ | ⟨h1, h2⟩
        · subst h2; exact .inr ⟨j, v, by omega, by omega, hk, h1⟩
        · exact ih' h2

theorem Trace.forth (T : Trace P r gl ops S k) {i j : Nat} (h : i ≤ j) (hj : j ≤ ops.size) (hn : ∀ c v, i ≤ c → c < j → k c ≠ .chain v) {q : Nat} {o : AObj} (hq : q < (S i).h.next) (hg : (S i).h.get q = some o) :
    (S j).h.get q = some o := by
  induction j with
  | zero => have : i = 0 := by omega
            subst this; exact hg
  | succ j ih =>
    by_cases hij : i = j + 1
    · subst hij; exact hg
    · have ih' := ih (by omega) (by omega) (fun c v h1 h2 => hn c v h1 (by omega))
      cases hk : k j with
      | chain v => exact absurd hk (hn j v (by omega) (by omega))
      | skip => rw [T.quiet1 (by omega) (by rw [hk]; exact id)]; exact ih'
      | light v => rw [T.quiet1 (by omega) (by rw [hk]; exact id)]; exact ih'
      | float v p =>
        rw [T.float (by omega) hk]
        exact get_push_old ih' (Nat.lt_of_lt_of_le hq (T.next (by omega) (by omega)))

/-- The numbers that are in use. -/
def MS (S : Nat → DS) (k : Nat → Kd) (n : Nat) (D : Nat → Prop) (m : Nat) (q : Nat) : Prop :=
  q < (S m).h.next ∨ ∃ i v o, m ≤ i ∧ i < n ∧ k i = .float v o ∧ D i ∧ q = (S i).h.next

structure FlAt (S : Nat → DS) (k : Nat → Kd) (n : Nat) (D : Nat → Prop) (m : Nat) (e : Emb) (w : World) (n0 : Nat) (i : Nat) (o : AObj) : Prop where
  rel : ObjRel e (fun q => q < (S i).h.next ∧ MS S k n D m q) o w (e.blk (S i).h.next) (e.base (S i).h.next) (e.cap (S i).h.next)
  lv : o.lv = true
  wr : o.wr = true
  old : n0 ≤ e.blk (S i).h.next
  out : ∀ q p, (S m).h.get q = some p → p.lv = true → e.blk q ≠ e.blk (S i).h.next

structure MI (S : Nat → DS) (k : Nat → Kd) (n : Nat) (e0 : Emb) (w0 : World) (D : Nat → Prop) (m : Nat) (e : Emb) (w : World) : Prop where
  le : m ≤ n
  done : ∀ i, i < m → (k i).mem → D i
  undone : ∀ i v, m ≤ i → i < n → k i = .chain v → ¬ D i
  wf : ∀ i, i ≤ m → ∀ q o, (S i).h.get q = some o → q < (S i).h.next
  sim : Sim e (S m).h w
  ext : Ext e0 (S 0).h w0 e (S m).h w
  fl : ∀ i v o, m ≤ i → i < n → k i = .float v o → D i → FlAt S k n D m e w w0.heap.size i o
  apart : ∀ i j v o v' o', m ≤ i → i < j → j < n → k i = .float v o → k j = .float v' o' → D i → D j → e.blk (S i).h.next ≠ e.blk (S j).h.next

theorem MS.mono {n : Nat} {D D' : Nat → Prop} (h : ∀ i, D i → D' i) {q : Nat} (hq : MS S k n D m q) : MS S k n D' m q := by
  rcases hq with h' | ⟨i, v, o, h1, h2, h3, h4, h5⟩
  · exact .inl h'
  · exact .inr ⟨i, v, o, h1, h2, h3, h _ h4, h5⟩

theorem MS.up (T : Trace P r gl ops S k) {y : Nat} (h : m ≤ y) (hy : y ≤ ops.size) {q : Nat} (hq : MS S k ops.size D m q) : MS S k ops.size D y q := by
  rcases hq with h' | ⟨i, v, o, h1, h2, h3, h4, h5⟩
  · exact .inl (Nat.lt_of_lt_of_le h' (T.next h hy))
  · by_cases hi : i < y
    · exact .inl (by rw [h5]; exact T.float_lt hi hy h3)
    · exact .inr ⟨i, v, o, by omega, h2, h3, h4, h5⟩

theorem sim_frame (hS : Sim e H w) (hA : Agree (· < H.next) e e') (hb : ∀ q o, H.get q = some o → o.lv = true → w'.heap[e.blk q]? = w.heap[e.blk q]?) : Sim e' H w' := by
  refine ⟨hS.lt, fun q o hg => ?_, fun q s o p hg hg' hne hl hw => ?_⟩
  · have hq := hS.lt q o hg
    exact Sim.congr_blk ((hS.obj q o hg).congr hA (fun _ h => h) fun hd => hb q o hg (by cases o <;> simp_all [AObj.lv])) (hA q hq)
  · rw [(hA q (hS.lt q o hg)).1, (hA s (hS.lt s p hg')).1]
    exact hS.inj q s o p hg hg' hne hl hw

theorem sim_adopt (hS : Sim e H w) {o : AObj} (hrel : ObjRel e (· < H.next + 1) o w (e.blk H.next) (e.base H.next) (e.cap H.next))
    (hout : ∀ q p, H.get q = some p → p.lv = true → e.blk q ≠ e.blk H.next) : Sim e (H.push o) w := by
  refine ⟨fun q p hg => ?_, fun q p hg => ?_, fun q s p p' hg hg' hne hl hw => ?_⟩
  · rcases get_push hg with ⟨rfl, _⟩ | ⟨_, h⟩
    · exact Nat.lt_succ_self _
    · exact Nat.lt_succ_of_lt (hS.lt q p h)
  · rcases get_push hg with ⟨rfl, rfl⟩ | ⟨_, h⟩
    · exact hrel
    · exact (hS.obj q p h).congr (fun _ _ => ⟨rfl, rfl, rfl⟩) (fun _ hx => Nat.lt_succ_of_lt hx) (fun _ => rfl)
  · rcases get_push hg with ⟨rfl, rfl⟩ | ⟨_, h⟩ <;> rcases get_push hg' with ⟨rfl, rfl⟩ | ⟨_, h'⟩
    · exact absurd rfl hne
    · exact fun he => hout s p' h' (AObj.lv_of_wr hw) he.symm
    · exact hout q p h hl
    · exact hS.inj q s p p' h h' hne hl hw

theorem ext_adopt (hX : Ext e0 H w0 e H' w) {o : AObj} (hold : w0.heap.size ≤ e.blk H'.next) : Ext e0 H w0 e (H'.push o) w := by
  refine ⟨hX.agree, Nat.le_succ_of_le hX.next, hX.os, hX.tape, hX.output, hX.size, hX.frame, fun q p hg hl hlt => ?_⟩
  rcases get_push hg with ⟨rfl, rfl⟩ | ⟨_, h⟩
  · omega
  · exact hX.img q p h hl hlt

theorem Agree.trans {M : Nat → Prop} {e e' e'' : Emb} (h : Agree M e e') (h' : Agree M e' e'') : Agree M e e'' := fun q hq => by
  obtain ⟨a, b, c⟩ := h q hq
  obtain ⟨a', b', c'⟩ := h' q hq
  exact ⟨a'.trans a, b'.trans b, c'.trans c⟩

/-- An operation that touches no memory. -/
theorem MI.same (h : MI S k ops.size e0 w0 D m e w) {y : Nat} (hy : ¬ (k y).mem) : MI S k ops.size e0 w0 (fun i => D i ∨ i = y) m e w := by
  have hne : ∀ i, (k i).mem → i ≠ y := fun i hi he => hy (he ▸ hi)
  have hm : ∀ i, D i → D i ∨ i = y := fun i => .inl
  refine ⟨h.le, fun i hi hk => .inl (h.done i hi hk), fun i v h1 h2 h3 hd => ?_, h.wf, h.sim, h.ext, fun i v o h1 h2 h3 h4 => ?_, fun i j v o v' o' h1 h2 h3 h4 h5 h6 h7 => ?_⟩
  · rcases hd with hd | hd
    · exact h.undone i v h1 h2 h3 hd
    · exact hne i (by rw [h3]; trivial) hd
  · have h4 := h4.resolve_right (hne i (by rw [h3]; trivial))
    have hf := h.fl i v o h1 h2 h3 h4
    exact ⟨hf.rel.congr (fun _ _ => ⟨rfl, rfl, rfl⟩) (fun _ hq => ⟨hq.1, hq.2.mono hm⟩) (fun _ => rfl), hf.lv, hf.wr, hf.old, hf.out⟩
  · exact h.apart i j v o v' o' h1 h2 h3 h4 h5 (h6.resolve_right (hne i (by rw [h4]; trivial))) (h7.resolve_right (hne j (by rw [h5]; trivial)))

/-- A block that was made early takes its number. -/
theorem MI.adopt1 (T : Trace P r gl ops S k) (h : MI S k ops.size e0 w0 D m e w) (hm : m < ops.size) (hc : ∀ v, k m ≠ .chain v) (hf : (k m).mem → D m) : MI S k ops.size e0 w0 D (m + 1) e w := by
  have hup : ∀ q, MS S k ops.size D m q → MS S k ops.size D (m + 1) q := fun q => MS.up T (by omega) (by omega)
  have hdone : ∀ i, i < m + 1 → (k i).mem → D i := fun i hi hk => by
    by_cases him : i = m
    · subst him; exact hf hk
    · exact h.done i (by omega) hk
  by_cases hmem : (k m).mem
  · cases hk : k m with
    | skip => rw [hk] at hmem; exact absurd hmem id
    | light v => rw [hk] at hmem; exact absurd hmem id
    | chain v => exact absurd hk (hc v)
    | float v o =>
      have hF := h.fl m v o (Nat.le_refl _) hm hk (hf hmem)
      have hS := T.float hm hk
      refine ⟨hm, hdone, fun i v h1 h2 h3 => h.undone i v (by omega) h2 h3, fun i hi q p hg => ?_, ?_, ?_, fun i v' o' h1 h2 h3 h4 => ?_, fun i j v o v' o' h1 h2 h3 h4 h5 h6 h7 => h.apart i j v o v' o' (by omega) h2 h3 h4 h5 h6 h7⟩
      · by_cases him : i = m + 1
        · subst him
          rw [hS] at hg ⊢
          rcases get_push hg with ⟨rfl, _⟩ | ⟨_, hg⟩
          · exact Nat.lt_succ_self _
          · exact Nat.lt_succ_of_lt (h.wf m (Nat.le_refl _) q p hg)
        · exact h.wf i (by omega) q p hg
      · rw [hS]
        exact sim_adopt h.sim (hF.rel.congr (fun _ _ => ⟨rfl, rfl, rfl⟩) (fun _ hq => Nat.lt_succ_of_lt hq.1) (fun _ => rfl)) hF.out
      · rw [hS]
        exact ext_adopt h.ext hF.old
      · have hF' := h.fl i v' o' (by omega) h2 h3 h4
        refine ⟨hF'.rel.congr (fun _ _ => ⟨rfl, rfl, rfl⟩) (fun q hq => ⟨hq.1, hup q hq.2⟩) (fun _ => rfl), hF'.lv, hF'.wr, hF'.old, fun q p hg hl => ?_⟩
        rw [hS] at hg
        rcases get_push hg with ⟨rfl, _⟩ | ⟨_, hg⟩
        · exact h.apart m i v o v' o' (Nat.le_refl _) (by omega) h2 hk h3 (hf hmem) h4
        · exact hF'.out q p hg hl
  · have hS := T.quiet1 hm hmem
    refine ⟨hm, hdone, fun i v h1 h2 h3 => h.undone i v (by omega) h2 h3, fun i hi q p hg => ?_, by rw [hS]; exact h.sim, by rw [hS]; exact h.ext, fun i v' o' h1 h2 h3 h4 => ?_, fun i j v o v' o' h1 h2 h3 h4 h5 h6 h7 => h.apart i j v o v' o' (by omega) h2 h3 h4 h5 h6 h7⟩
    · by_cases him : i = m + 1
      · subst him
        rw [hS] at hg ⊢
        exact h.wf m (Nat.le_refl _) q p hg
      · exact h.wf i (by omega) q p hg
    · have hF' := h.fl i v' o' (by omega) h2 h3 h4
      exact ⟨hF'.rel.congr (fun _ _ => ⟨rfl, rfl, rfl⟩) (fun q hq => ⟨hq.1, hup q hq.2⟩) (fun _ => rfl), hF'.lv, hF'.wr, hF'.old, by rw [hS]; exact hF'.out⟩

theorem MI.adopt (T : Trace P r gl ops S k) (h : MI S k ops.size e0 w0 D m e w) {y : Nat} (hy : m ≤ y) (hle : y ≤ ops.size) (hc : ∀ i v, m ≤ i → i < y → k i ≠ .chain v) (hf : ∀ i, m ≤ i → i < y → (k i).mem → D i) :
    MI S k ops.size e0 w0 D y e w := by
  induction y with
  | zero => have : m = 0 := by omega
            subst this; exact h
  | succ y ih =>
    by_cases hmy : m = y + 1
    · subst hmy; exact h
    · exact (ih (by omega) (by omega) (fun i v h1 h2 => hc i v h1 (by omega)) fun i h1 h2 => hf i h1 (by omega)).adopt1 T (by omega) (fun v => hc y v (by omega) (by omega)) (hf y (by omega) (by omega))

end
end Ai
end Go.Proofs.YtipgfljojhdhjaaGreatDoor

namespace Go.Proofs.YtipgfljojhdhjaaGreatDoor
namespace Ai

section
variable {P : Program} {gl : Gl} {r : Rec} {ops : Array Oper} {S : Nat → DS} {k : Nat → Kd} {D : Nat → Prop} {m : Nat} {e e' : Emb} {w w' w0 : World} {e0 : Emb} {H H' : AH}

theorem MI.m_le_of {n : Nat} (h : MI S k n e0 w0 D m e w) {y : Nat} (hk : (k y).mem) (hy : ¬ D y) : m ≤ y := by
  rcases Nat.lt_or_ge y m with hlt | hge
  · exact absurd (h.done y hlt hk) hy
  · exact hge

theorem MI.fresh_no (T : Trace P r gl ops S k) (h : MI S k ops.size e0 w0 D m e w) {y : Nat} (hys : y < ops.size) {v : AV} {o : AObj} (hk : k y = .float v o) (hy : ¬ D y) : ¬ MS S k ops.size D m (S y).h.next := by
  have hmy := h.m_le_of (by rw [hk]; trivial) hy
  intro hm
  rcases hm with hm | ⟨i, v', o', h1, h2, h3, h4, h5⟩
  · have := T.next hmy (by omega); omega
  · have := T.float_inj hys h2 hk h3 h5
    subst this; exact hy h4

theorem MI.float (T : Trace P r gl ops S k) (h : MI S k ops.size e0 w0 D m e w) {y : Nat} (hys : y < ops.size) {v : AV} {o : AObj} (hk : k y = .float v o) (hy : ¬ D y) {obj : Obj}
    (hF : FreshObj e (fun q => q < (S y).h.next ∧ MS S k ops.size D m q) o obj) :
    MI S k ops.size e0 w0 (fun i => D i ∨ i = y) m (e.at (S y).h.next w.heap.size 0 0) { w with heap := w.heap.push obj } ∧
      Agree (MS S k ops.size D m) e (e.at (S y).h.next w.heap.size 0 0) ∧ MS S k ops.size (fun i => D i ∨ i = y) m (S y).h.next := by
  have hmy := h.m_le_of (by rw [hk]; trivial) hy
  have hno := h.fresh_no T hys hk hy
  have hA := Emb.at_agree' e (S y).h.next w.heap.size 0 0 hno
  obtain ⟨q1, q2, q3⟩ := Emb.at_same e (S y).h.next w.heap.size 0 0
  generalize e.at (S y).h.next w.heap.size 0 0 = e' at *
  have hm : ∀ i, D i → D i ∨ i = y := fun i => .inl
  have hold : ∀ b, b < w.heap.size → (w.heap.push obj)[b]? = w.heap[b]? := fun b hb => by rw [Array.getElem?_push]; rw [if_neg (by omega)]
  have hAs : Agree (· < (S m).h.next) e e' := fun q hq => hA q (.inl hq)
  have hlt : ∀ i v o, m ≤ i → i < ops.size → k i = .float v o → D i → e.blk (S i).h.next < w.heap.size := fun i v o h1 h2 h3 h4 => by
    have hf := h.fl i v o h1 h2 h3 h4
    exact hf.rel.blk_lt hf.lv
  have hAi : ∀ i v o, m ≤ i → i < ops.size → k i = .float v o → D i → e'.blk (S i).h.next = e.blk (S i).h.next ∧ e'.base (S i).h.next = e.base (S i).h.next ∧ e'.cap (S i).h.next = e.cap (S i).h.next :=
    fun i v o h1 h2 h3 h4 => hA _ (.inr ⟨i, v, o, h1, h2, h3, h4, rfl⟩)
  refine ⟨⟨h.le, fun i hi hk => .inl (h.done i hi hk), fun i v h1 h2 h3 hd => ?_, h.wf, ?_, ?_, fun i v' o' h1 h2 h3 h4 => ?_, fun i j v1 o1 v2 o2 h1 h2 h3 h4 h5 h6 h7 => ?_⟩, hA, .inr ⟨y, v, o, hmy, hys, hk, .inr rfl, rfl⟩⟩
  · rcases hd with hd | hd
    · exact h.undone i v h1 h2 h3 hd
    · subst hd; rw [hk] at h3; cases h3
  · exact sim_frame h.sim hAs fun q p hg hl => hold _ (h.sim.blk_lt hg hl)
  · refine h.ext.trans ⟨hAs, Nat.le_refl _, rfl, rfl, rfl, by simp, fun b hb _ => hold b hb, fun q p hg hl _ => ⟨q, p, hg, hl, id, ((hAs q (h.sim.lt q p hg)).1).symm⟩⟩
  · by_cases hiy : i = y
    · subst hiy
      rw [hk] at h3
      cases h3
      refine ⟨?_, hF.lv.1, hF.lv.2, by rw [q1]; exact h.ext.size, fun q p hg hl => ?_⟩
      · rw [q1, q2]
        exact hF.rel (fun q hq => hA q hq.2) (fun q hq => ⟨hq.1, hq.2.mono hm⟩) Array.getElem?_push_size _
      · rw [q1, (hAs q (h.sim.lt q p hg)).1]
        have := h.sim.blk_lt hg hl
        omega
    · have h4 := h4.resolve_right hiy
      have hf := h.fl i v' o' h1 h2 h3 h4
      obtain ⟨a1, a2, a3⟩ := hAi i v' o' h1 h2 h3 h4
      refine ⟨?_, hf.lv, hf.wr, by rw [a1]; exact hf.old, fun q p hg hl => ?_⟩
      · rw [a1, a2, a3]
        exact hf.rel.congr (fun q hq => hA q hq.2) (fun q hq => ⟨hq.1, hq.2.mono hm⟩) (fun _ => hold _ (hlt i v' o' h1 h2 h3 h4))
      · rw [a1, (hAs q (h.sim.lt q p hg)).1]
        exact hf.out q p hg hl
  · by_cases hiy : i = y
    · subst hiy
      have h7 := h7.resolve_right (by omega)
      rw [q1, (hAi j v2 o2 (by omega) h3 h5 h7).1]
      have := hlt j v2 o2 (by omega) h3 h5 h7
      omega
    · have g6 := h6.resolve_right hiy
      by_cases hjy : j = y
      · subst hjy
        rw [q1, (hAi i v1 o1 h1 (by omega) h4 g6).1]
        have := hlt i v1 o1 h1 (by omega) h4 g6
        omega
      · have g7 := h7.resolve_right hjy
        rw [(hAi i v1 o1 h1 (by omega) h4 g6).1, (hAi j v2 o2 (by omega) h3 h5 g7).1]
        exact h.apart i j v1 o1 v2 o2 h1 h2 h3 h4 h5 g6 g7

theorem MI.chain (T : Trace P r gl ops S k) {y : Nat} (h : MI S k ops.size e0 w0 D y e w) (hys : y < ops.size) {v : AV} (hk : k y = .chain v) {e1 : Emb}
    (hX : Ext e (S y).h w e1 (S (y + 1)).h w') (hS : Sim e1 (S (y + 1)).h w') :
    ∃ e', MI S k ops.size e0 w0 (fun i => D i ∨ i = y) (y + 1) e' w' ∧ Agree (MS S k ops.size D y) e e' ∧ Agree (· < (S (y + 1)).h.next) e1 e' := by
  let N := (S (y + 1)).h.next
  let e' : Emb := ⟨fun q => bif Nat.blt q N then e1.blk q else e.blk q, fun q => bif Nat.blt q N then e1.base q else e.base q, fun q => bif Nat.blt q N then e1.cap q else e.cap q⟩
  have hlo : Agree (· < N) e1 e' := fun q (hq : q < N) => by
    have : Nat.blt q N = true := Nat.ble_eq_true_of_le hq
    simp [e', this]
  have hhi : ∀ q, N ≤ q → e'.blk q = e.blk q ∧ e'.base q = e.base q ∧ e'.cap q = e.cap q := fun q hq => by
    have : Nat.blt q N = false := by
      cases hb : Nat.blt q N with
      | false => rfl
      | true => have : q + 1 ≤ N := Nat.le_of_ble_eq_true hb
                omega
    simp [e', this]
  have hge : ∀ i v o, i < ops.size → k i = .float v o → y ≤ i → N ≤ (S i).h.next ∧ y + 1 ≤ i := fun i v' o h2 h3 h1 => by
    have : i ≠ y := fun he => by subst he; rw [hk] at h3; cases h3
    exact ⟨T.next (by omega) (by omega), by omega⟩
  have hA : Agree (MS S k ops.size D y) e e' := fun q hq => by
    rcases hq with hq | ⟨i, v', o, h1, h2, h3, h4, rfl⟩
    · obtain ⟨a1, a2, a3⟩ := hX.agree q hq
      obtain ⟨b1, b2, b3⟩ := hlo q (Nat.lt_of_lt_of_le hq hX.next)
      exact ⟨b1.trans a1, b2.trans a2, b3.trans a3⟩
    · exact hhi _ (hge i v' o h2 h3 h1).1
  have hm : ∀ i, D i → D i ∨ i = y := fun i => .inl
  have hX' : Ext e (S y).h w e' (S (y + 1)).h w' :=
    ⟨hX.agree.trans fun q hq => hlo q (Nat.lt_of_lt_of_le hq hX.next), hX.next, hX.os, hX.tape, hX.output, hX.size, hX.frame, fun q p hg hl hlt => by
      have e1' := (hlo q (hS.lt q p hg)).1
      rw [e1'] at hlt ⊢
      exact hX.img q p hg hl hlt⟩
  have hup : ∀ q, MS S k ops.size D y q → MS S k ops.size (fun i => D i ∨ i = y) (y + 1) q := fun q hq => (hq.up T (by omega) (by omega)).mono hm
  refine ⟨e', ⟨hys, fun i hi hki => ?_, fun i v' h1 h2 h3 hd => ?_, fun i hi q p hg => ?_, ?_, h.ext.trans hX', fun i v' o' h1 h2 h3 h4 => ?_, fun i j v1 o1 v2 o2 h1 h2 h3 h4 h5 h6 h7 => ?_⟩, hA, hlo⟩
  · by_cases hiy : i = y
    · exact .inr hiy
    · exact .inl (h.done i (by omega) hki)
  · rcases hd with hd | hd
    · exact h.undone i v' (by omega) h2 h3 hd
    · omega
  · by_cases hiy : i = y + 1
    · subst hiy; exact hS.lt q p hg
    · exact h.wf i (by omega) q p hg
  · exact sim_frame hS hlo fun _ _ _ _ => rfl
  · have h4 := h4.resolve_right (by omega)
    have hf := h.fl i v' o' (by omega) h2 h3 h4
    have hlt := hf.rel.blk_lt hf.lv
    obtain ⟨a1, a2, a3⟩ := hhi _ (hge i v' o' h2 h3 (by omega)).1
    refine ⟨?_, hf.lv, hf.wr, by rw [a1]; exact hf.old, fun q p hg hl he => ?_⟩
    · rw [a1, a2, a3]
      exact hf.rel.congr (fun q hq => hA q hq.2) (fun q hq => ⟨hq.1, hup q hq.2⟩) (fun _ => hX.frame _ hlt fun q p hg hw => hf.out q p hg (AObj.lv_of_wr hw))
    · rw [a1] at he
      obtain ⟨q0, p0, g0, l0, _, e0'⟩ := hX'.img q p hg hl (by rw [he]; exact hlt)
      exact hf.out q0 p0 g0 l0 (e0'.trans he)
  · have h6 := h6.resolve_right (by omega)
    have h7 := h7.resolve_right (by omega)
    rw [(hhi _ (hge i v1 o1 (by omega) h4 (by omega)).1).1, (hhi _ (hge j v2 o2 h3 h5 (by omega)).1).1]
    exact h.apart i j v1 o1 v2 o2 (by omega) h2 h3 h4 h5 h6 h7

/-- The last of the chain below b, from a on; or there is none. -/
theorem last_chain (k : Nat → Kd) (a : Nat) : ∀ b, a ≤ b → (∀ c v, a ≤ c → c < b → k c ≠ .chain v) ∨ ∃ c v, a ≤ c ∧ c < b ∧ k c = .chain v ∧ ∀ c' v', c < c' → c' < b → k c' ≠ .chain v'
  | 0, _ => .inl fun c v h1 h2 => by omega
  | b + 1, hab => by
      by_cases hb : ∃ v, k b = .chain v
      · obtain ⟨v, hv⟩ := hb
        by_cases hlt : a ≤ b
        · exact .inr ⟨b, v, hlt, by omega, hv, fun c' v' h1 h2 => by omega⟩
        · exact .inl fun c v h1 h2 => by omega
      · by_cases hlt : a ≤ b
        · rcases last_chain k a b hlt with h | ⟨c, v, h1, h2, h3, h4⟩
          · exact .inl fun c v h1 h2 h3 => by
              by_cases hc : c = b
              · subst hc; exact hb ⟨v, h3⟩
              · exact h c v h1 (by omega) h3
          · exact .inr ⟨c, v, h1, by omega, h3, fun c' v' g1 g2 g3 => by
              by_cases hc : c' = b
              · subst hc; exact hb ⟨v', g3⟩
              · exact h4 c' v' g1 (by omega) g3⟩
        · exact .inl fun c v h1 h2 => by omega

/-- The first of the chain from a on, below b; or there is none. -/
theorem first_chain (k : Nat → Kd) : ∀ (n a b : Nat), b = a + n → (∀ c v, a ≤ c → c < b → k c ≠ .chain v) ∨ ∃ c v, a ≤ c ∧ c < b ∧ k c = .chain v ∧ ∀ c' v', a ≤ c' → c' < c → k c' ≠ .chain v'
  | 0, a, b, hb => .inl fun c v h1 h2 => by omega
  | n + 1, a, b, hb => by
      by_cases ha : ∃ v, k a = .chain v
      · obtain ⟨v, hv⟩ := ha
        exact .inr ⟨a, v, Nat.le_refl _, by omega, hv, fun c' v' h1 h2 => by omega⟩
      · rcases first_chain k n (a + 1) b (by omega) with h | ⟨c, v, h1, h2, h3, h4⟩
        · exact .inl fun c v h1 h2 h3 => by
            by_cases hc : c = a
            · subst hc; exact ha ⟨v, h3⟩
            · exact h c v (by omega) h2 h3
        · exact .inr ⟨c, v, by omega, h2, h3, fun c' v' g1 g2 g3 => by
            by_cases hc : c' = a
            · subst hc; exact ha ⟨v', g3⟩
            · exact h4 c' v' (by omega) g2 g3⟩

theorem MI.live (h : MI S k ops.size e0 w0 D m e w) {q : Nat} {o : AObj} (hg : (S m).h.get q = some o) :
    ObjRel e (MS S k ops.size D m) o w (e.blk q) (e.base q) (e.cap q) :=
  (h.sim.obj q o hg).congr (fun _ _ => ⟨rfl, rfl, rfl⟩) (fun _ h => .inl h) (fun _ => rfl)
theorem MI.early (h : MI S k ops.size e0 w0 D m e w) {i : Nat} {v : AV} {o : AObj} (h1 : m ≤ i) (h2 : i < ops.size) (h3 : k i = .float v o) (h4 : D i) :
    ObjRel e (MS S k ops.size D m) o w (e.blk (S i).h.next) (e.base (S i).h.next) (e.cap (S i).h.next) :=
  (h.fl i v o h1 h2 h3 h4).rel.congr (fun _ _ => ⟨rfl, rfl, rfl⟩) (fun _ h => h.2) (fun _ => rfl)

/-- What a light operation reads is as it was when the evaluator ran it. -/
theorem MI.view (T : Trace P r gl ops S k) (h : MI S k ops.size e0 w0 D m e w) {y : Nat} {x : Item} (hx : (items ops)[y]? = some x) {v : AV} (hk : k y = .light v)
    (hb1 : ∀ c u, c < y → k c = .chain u → ¬ D c → x.b.testBit c = false)
    (hb2 : ∀ c u z, y < c → k c = .chain u → D c → (items ops)[c]? = some z → z.b.testBit y = false) :
    ∃ get, alight P gl get (S y).env x.o.op = some v ∧ View e (MS S k ops.size D m) get w := by
  obtain ⟨hxi, _, hys, _⟩ := items_get hx
  have hst := T.stp y x hx
  rw [hk] at hst
  obtain ⟨_, _, hal, htr, hS1⟩ := hst
  by_cases hrd : readsMem x.o.op = false
  · exact ⟨fun _ => none, by rw [alight_mem (get' := (S y).h.get) hrd]; exact hal, fun q o hg => by cases hg⟩
  · have hrd : readsMem x.o.op = true := by simpa using hrd
    have hmle := h.le
    rcases Nat.lt_or_ge y m with hlt | hge
    · -- the operation stands before the mark
      rcases last_chain k (y + 1) m (by omega) with hno | ⟨c, u, c1, c2, c3, c4⟩
      · refine ⟨(S y).h.get, hal, fun q o hg hq => ?_⟩
        have hqy := h.wf y (by omega) q o hg
        have := T.forth (i := y) (j := m) (by omega) h.le (fun c v' h1 h2 h3 => by
          by_cases hcy : c = y
          · subst hcy; rw [hk] at h3; cases h3
          · exact hno c v' (by omega) h2 h3) hqy hg
        exact h.live this
      · obtain ⟨z, hz⟩ := items_at (ops := ops) (i := c) (by omega)
        obtain ⟨hzi, _⟩ := items_get hz
        have hsc := T.stp c z hz
        rw [c3] at hsc
        obtain ⟨_, _, _, _, htrc, _⟩ := hsc
        have hmem : Tr.light x (S y).env v ∈ (S c).trs := T.trs_mono (i := y + 1) (by omega) (by omega) _ (by rw [hS1]; exact List.mem_cons_self)
        have hok := List.all_eq_true.1 htrc _ hmem
        have hbit := hb2 c u z (by omega) c3 (h.done c c2 (by rw [c3]; trivial)) hz
        unfold trOk at hok
        simp only [hxi, hbit, hrd, Bool.not_true, Bool.false_or] at hok
        unfold sameAtMem at hok
        split at hok
        · rename_i v1 hv1
          have := beq_eq _ _ hok
          subst this
          refine ⟨_, hv1, fun q o hg hq => ?_⟩
          unfold viewOf at hg
          cases hqn : Nat.blt q (S (c + 1)).h.next with
          | true =>
            rw [hqn] at hg
            simp only [cond_true] at hg
            have hqn' : q < (S (c + 1)).h.next := Nat.le_of_ble_eq_true hqn
            have := T.forth (i := c + 1) (j := m) (by omega) h.le (fun c' v' h1 h2 h3 => c4 c' v' (by omega) h2 h3) hqn' hg
            exact h.live this
          | false =>
            rw [hqn] at hg
            simp only [cond_false] at hg
            cases hfd : (S c).fl.find? (fun x => Nat.beq x.1 q) with
            | none => rw [hfd] at hg; simp at hg
            | some t =>
              exfalso
              have ht := List.mem_of_find?_eq_some hfd
              have hp := List.find?_some hfd
              obtain ⟨i, v', o', i1, i2, i3⟩ := T.fl_mem (by omega) ht
              have hqe : t.1 = q := Nat.eq_of_beq_eq_true hp
              rw [i3] at hqe
              simp only at hqe
              have h1 := T.float_lt (i := i) (j := c) i1 (by omega) i2
              have h2 := T.next (i := c) (j := c + 1) (by omega) (by omega)
              have : q < (S (c + 1)).h.next := by omega
              have : Nat.blt q (S (c + 1)).h.next = true := Nat.ble_eq_true_of_le this
              rw [this] at hqn; cases hqn
        · cases hok
    · -- the mark stands at it, or before
      rcases first_chain k (y - m) m y (by omega) with hno | ⟨c, u, c1, c2, c3, c4⟩
      · refine ⟨(S y).h.get, hal, fun q o hg hq => ?_⟩
        rcases T.back hge (by omega) hno hg with hb | ⟨f, v', f1, f2, f3, f4⟩
        · exact h.live hb
        · have hDf : D f := by
            rcases hq with hq | ⟨i, v1, o1, i1, i2, i3, i4, i5⟩
            · have := T.next (i := m) (j := f) f1 (by omega); omega
            · have := T.float_inj (by omega) i2 f3 i3 (by omega)
              subst this; exact i4
          rw [f4]
          exact h.early f1 (by omega) f3 hDf
      · obtain ⟨z, hz⟩ := items_at (ops := ops) (i := c) (by omega)
        obtain ⟨hzi, _⟩ := items_get hz
        have hsc := T.stp c z hz
        rw [c3] at hsc
        obtain ⟨_, _, _, _, _, _, _, hsc⟩ := hsc
        have hmem : Tr.chain z (S c).h (S (c + 1)).h ∈ (S y).trs := T.trs_mono (i := c + 1) (by omega) (by omega) _ (by rw [hsc]; exact List.mem_cons_self)
        have hok := List.all_eq_true.1 htr _ hmem
        have hbit := hb1 c u c2 c3 (h.undone c u c1 (by omega) c3)
        unfold trOk at hok
        simp only [hzi, hbit, hrd, Bool.not_true, Bool.false_or] at hok
        unfold sameAtMem at hok
        split at hok
        · rename_i v1 hv1
          have := beq_eq _ _ hok
          subst this
          refine ⟨_, hv1, fun q o hg hq => ?_⟩
          have hfloat : ∀ f v' o', k f = .float v' o' → f < ops.size → q = (S f).h.next → m ≤ f → D f := fun f v' o' f3 f2 f4 f1 => by
            rcases hq with hq | ⟨i, v1, o1, i1, i2, i3, i4, i5⟩
            · have := T.next (i := m) (j := f) f1 (by omega); omega
            · have := T.float_inj f2 i2 f3 i3 (by omega)
              subst this; exact i4
          unfold viewOf at hg
          cases hqn : Nat.blt q (S c).h.next with
          | true =>
            rw [hqn] at hg
            simp only [cond_true] at hg
            rcases T.back c1 (by omega) c4 hg with hb | ⟨f, v', f1, f2, f3, f4⟩
            · exact h.live hb
            · rw [f4]
              exact h.early f1 (by omega) f3 (hfloat f v' o f3 (by omega) f4 f1)
          | false =>
            rw [hqn] at hg
            simp only [cond_false] at hg
            cases hfd : (S y).fl.find? (fun x => Nat.beq x.1 q) with
            | none => rw [hfd] at hg; simp at hg
            | some t =>
              rw [hfd] at hg
              simp only [Option.map_some, Option.some.injEq] at hg
              have ht := List.mem_of_find?_eq_some hfd
              have hp := List.find?_some hfd
              obtain ⟨i, v', o', i1, i2, i3⟩ := T.fl_mem (by omega) ht
              have hqe : t.1 = q := Nat.eq_of_beq_eq_true hp
              rw [i3] at hqe hg
              simp only at hqe hg
              subst hg
              have hmi : m ≤ i := by
                rcases Nat.lt_or_ge i m with hlt' | hge'
                · exfalso
                  have h1 := T.float_lt (i := i) (j := c) (by omega) (by omega) i2
                  have : Nat.blt q (S c).h.next = true := Nat.ble_eq_true_of_le (by omega)
                  rw [this] at hqn; cases hqn
                · exact hge'
              rw [← hqe]
              exact h.early hmi (by omega) i2 (hfloat i v' o' i2 (by omega) hqe.symm hmi)
        · cases hok

end
end Ai
end Go.Proofs.YtipgfljojhdhjaaGreatDoor
