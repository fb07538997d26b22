/- Regions whose order is open: each order that may be drawn ends as the text's order does. Code: what the evaluator says of it holds. Code: what the evaluator says of it holds: all of it. Calls and rounds: what the evaluator says of them holds, at every level. What the evaluator says of a call, as the kit says it; more levels give no other answer. More levels give no other answer. Runs without a number of levels, and their rules. The evaluator with answers: what cannot be reckoned over variables is answered, and the answer is owed as a fact. The evaluator with answers, second part: regions in any order, code, calls. Plain lemmas for path lemmas: facts on Bools and numbers, memories that grow, slices as lists. Slices that grow, maps by integers. From a row's premises to the evaluator and back: arguments as memories that may not be written; what stands behind the call. -/
import Derived.Test.YtipgfljojhdhjaaGreatDoorAiB
import Derived.Below
import Derived.IntWalk
import Derived.ProofKit
import Derived.Carry
import Derived.ChangeSlices
import Derived.LaidMore
set_option linter.all false
set_option linter.unusedVariables false
set_option linter.unusedSimpArgs false
set_option linter.unnecessarySimpa false
set_option linter.deprecated false
namespace Go.Proofs.YtipgfljojhdhjaaGreatDoor
namespace Ai

section
variable {P : Program} {gl : Gl} {r : Rec} {ops : Array Oper} {S : Nat → DS} {k : Nat → Kd} {D : Nat → Prop} {m : Nat} {e e' : Emb} {w w' w0 : World} {e0 : Emb} {H H' : AH} {env : Tm AV}

theorem aput_get (env : Tm AV) (dst : Option Tmp) (v : AV) (d : Nat) : (aput env dst v).get d = if dst = some d then (env.get d).map (fun _ => v) else env.get d := by
  cases dst with
  | none => simp [aput]
  | some t =>
    simp only [aput, Tm.get_set, Option.some.injEq]
    by_cases h : d = t
    · subst h; simp
    · rw [if_neg h, if_neg (fun h' => h h'.symm)]

theorem Trace.shape (T : Trace P r gl ops S k) (d : Nat) : ∀ i, i ≤ ops.size → ((S i).env.get d).isSome = ((S 0).env.get d).isSome
  | 0, _ => rfl
  | i + 1, hi => by
      obtain ⟨x, hx⟩ := items_at (ops := ops) (i := i) (by omega)
      rw [(T.stp i x hx).env, aput_get, ← T.shape d i (by omega)]
      split <;> simp

theorem Trace.between (T : Trace P r gl ops S k) {d i j : Nat} (h : i ≤ j) (hj : j ≤ ops.size) (hn : ∀ (c : Nat) (x : Item), i ≤ c → c < j → (items ops)[c]? = some x → x.o.dst ≠ some d) : (S j).env.get d = (S i).env.get d := by
  induction j with
  | zero => have : i = 0 := by omega
            subst this; rfl
  | succ j ih =>
    by_cases hij : i = j + 1
    · subst hij; rfl
    · obtain ⟨x, hx⟩ := items_at (ops := ops) (i := j) (by omega)
      rw [(T.stp j x hx).env, aput_get, if_neg (hn j x (by omega) (by omega) hx)]
      exact ih (by omega) (by omega) fun c x h1 h2 => hn c x h1 (by omega)

theorem Trace.edges (T : Trace P r gl ops S k) (i : Nat) (x : Item) (hx : (items ops)[i]? = some x) : edgesOk x = true := by
  have := T.draw
  simp only [drawOk, Bool.and_eq_true] at this
  exact List.all_eq_true.1 this.1 x (List.mem_of_getElem? hx)
theorem Trace.pairs (T : Trace P r gl ops S k) : pairsOk P ops (items ops) = true := by
  have := T.draw
  simp only [drawOk, Bool.and_eq_true] at this
  exact this.2

structure EI (ops : Array Oper) (S : Nat → DS) (D : Nat → Prop) (env : Tm AV) : Prop where
  envs : ∀ (y d : Nat), y ≤ ops.size → (y = ops.size ∨ (¬ D y ∧ ∀ x : Item, (items ops)[y]? = some x → d ∈ looks ops x.o)) →
    (∀ (i : Nat) (x : Item), i < y → (items ops)[i]? = some x → x.o.dst = some d → D i) → env.get d = (S y).env.get d
  shape : ∀ d, (env.get d).isSome = ((S 0).env.get d).isSome
  closed : ∀ (i : Nat) (o : Oper), ops[i]? = some o → D i → ClosedAt D o

/-- Of two that share a slot: the first has run when the second runs. -/
theorem EI.before (T : Trace P r gl ops S k) (h : EI ops S D env) {i y : Nat} {z x : Item} (hz : (items ops)[i]? = some z) (hx : (items ops)[y]? = some x) (hiy : i < y) (hc : ClosedAt D x.o)
    (hap : apartOf ops z.o x.o = false) : D i := by
  have hp := pairsOk_get T.pairs hiy hz hx
  obtain ⟨hzi, _⟩ := items_get hz
  unfold pairOk at hp
  rw [hap, Bool.false_and, Bool.or_false, hzi] at hp
  exact bits_closed h.closed T.edges y x hx hc i hp

theorem EI.reads (T : Trace P r gl ops S k) (h : EI ops S D env) {y : Nat} {x : Item} (hx : (items ops)[y]? = some x) (hy : ¬ D y) (hc : ClosedAt D x.o) :
    ∀ d ∈ looks ops x.o, env.get d = (S y).env.get d := fun d hd => by
  obtain ⟨_, _, hlt, _⟩ := items_get hx
  refine h.envs y d (by omega) (.inr ⟨hy, fun x' hx' => by rw [hx] at hx'; cases hx'; exact hd⟩) fun i z hi hz hdst => ?_
  refine h.before T hz hx hi hc ?_
  cases hap : apartOf ops z.o x.o with
  | false => rfl
  | true => exact absurd hd ((apartOf_spec hap).1 d hdst)

theorem EI.step (T : Trace P r gl ops S k) (h : EI ops S D env) {y : Nat} {x : Item} (hx : (items ops)[y]? = some x) (hy : ¬ D y) (hc : ClosedAt D x.o) :
    EI ops S (fun i => D i ∨ i = y) (aput env x.o.dst (k y).val) := by
  obtain ⟨_, hox, hys, _⟩ := items_get hx
  refine ⟨fun t d ht htd hw => ?_, fun d => ?_, fun i o ho hd => ?_⟩
  · rw [aput_get]
    by_cases hdst : x.o.dst = some d
    · rw [if_pos hdst]
      have hyt : y < t := by
        rcases htd with rfl | ⟨hnt, hlk⟩
        · exact hys
        · rcases Nat.lt_trichotomy y t with hlt | heq | hgt
          · exact hlt
          · exact absurd (.inr heq.symm) hnt
          · exfalso
            obtain ⟨z, hz⟩ := items_at (ops := ops) (i := t) (by omega)
            have hDt : D t := by
              refine h.before T hz hx hgt hc ?_
              cases hap : apartOf ops z.o x.o with
              | false => rfl
              | true => exact absurd (hlk z hz) ((apartOf_spec hap).2.2 d hdst)
            exact hnt (.inl hDt)
      have hno : ∀ (c : Nat) (z : Item), y + 1 ≤ c → c < t → (items ops)[c]? = some z → z.o.dst ≠ some d := fun c z h1 h2 hz hzd => by
        have hDc := (hw c z h2 hz hzd).resolve_right (by omega)
        obtain ⟨_, hoz, _⟩ := items_get hz
        refine hy (h.before T hx hz (by omega) (h.closed c z.o hoz hDc) ?_)
        cases hap : apartOf ops x.o z.o with
        | false => rfl
        | true => exact absurd hzd ((apartOf_spec hap).2.1 d hdst)
      rw [T.between (i := y + 1) (by omega) ht hno, (T.stp y x hx).env, aput_get, if_pos hdst]
      have h1 := h.shape d
      have h2 := T.shape d y (by omega)
      rw [← h2] at h1
      cases ha : env.get d <;> cases hb : (S y).env.get d <;> simp_all
    · rw [if_neg hdst]
      refine h.envs t d ht (htd.imp id fun h' => ⟨fun hd => h'.1 (.inl hd), h'.2⟩) fun i z h1 hz hzd => (hw i z h1 hz hzd).resolve_right fun hiy => ?_
      subst hiy
      rw [hx] at hz; cases hz
      exact hdst hzd
  · rw [aput_get, ← h.shape d]
    split <;> simp
  · rcases hd with hd | hd
    · exact fun e he hb => .inl (h.closed i o ho hd e he hb)
    · subst hd
      rw [hox] at ho; cases ho
      exact fun e he hb => .inl (hc e he hb)

/-- Some have run. -/
structure DI (S : Nat → DS) (k : Nat → Kd) (ops : Array Oper) (e0 : Emb) (w0 : World) (ds : List Deferred) (D : Nat → Prop) (m : Nat) (e : Emb) (env : Tm AV) (a : Act) (w : World) : Prop where
  mi : MI S k ops.size e0 w0 D m e w
  ei : EI ops S D env
  env : EnvRel e (MS S k ops.size D m) env a.tmps
  defers : a.defers = ds

theorem DI.step {ro : Option Nat} {ds : List Deferred} {a : Act} (T : Trace P r gl ops S k) (hC : CallOk P gl r) (hR : RoundOk P gl r) (hG : GlOk gl e0 (S 0).h.next) (hro : ∀ l, ro = some l → l < (S 0).h.next)
    (h : DI S k ops e0 w0 ds D m e env a w) {y : Nat} {x : Item} (hx : (items ops)[y]? = some x) (hy : ¬ D y) (hc : ClosedAt D x.o) (K : Act → World → Prop) (Q : Exit → Act → World → Prop)
    (hK : ∀ m' e' env' a' w', DI S k ops e0 w0 ds (fun i => D i ∨ i = y) m' e' env' a' w' → K a' w') : wpOpIn (F0 e0 ro) 0 P ops Q y K a w := by
  obtain ⟨hxi, hox, hys, _⟩ := items_get hx
  obtain ⟨hM, hI, hE, hd⟩ := h
  have hrd := hI.reads T hx hy hc
  have hm : ∀ i, D i → D i ∨ i = y := fun i => .inl
  have hst := T.stp y x hx
  have hI' := hI.step T hx hy hc
  have hGM : GlM gl e (MS S k ops.size D m) := fun g q hg => by
    obtain ⟨a1, a2, a3⟩ := hG.ext hM.ext g q hg
    exact ⟨.inl a1, a2, a3⟩
  have hid : Agree (MS S k ops.size D m) e e := fun _ _ => ⟨rfl, rfl, rfl⟩
  unfold wpOpIn
  simp only [hox]
  rw [awanted_sound hE, looks_wanted hrd]
  have hfence : ∀ f, x.o.about P w a.eval = some f → (F0 e0 ro).fn f := fun f _ => F0_fn e0 ro f
  cases hk : k y with
  | skip =>
    rw [hk] at hst hI'
    rw [hst.1, if_neg (by simp)]
    refine ⟨hfence, hK m e _ _ w ⟨hM.same (by rw [hk]; exact id), hI', ?_, (put_defers _ _ _).trans hd⟩⟩
    have h1 := (hE.congr hid (fun q hq => MS.mono hm hq)).put x.o.dst undefA undefA_ids
    rw [undefA_conc] at h1
    exact h1
  | light v =>
    rw [hk] at hst hI'
    rw [hst.1, if_pos rfl]
    obtain ⟨get, hal, hV⟩ := hM.view T hx hk
      (fun c u _ _ hnd => by
        cases hb : x.b.testBit c with
        | false => rfl
        | true => exact absurd (bits_closed hI.closed T.edges y x hx hc c hb) hnd)
      (fun c u z _ _ hdc hz => by
        cases hb : z.b.testBit y with
        | false => rfl
        | true =>
          obtain ⟨_, hoz, _⟩ := items_get hz
          exact absurd (bits_closed hI.closed T.edges c z hz (hI.closed c z.o hoz hdc) y hb) hy)
    rw [← alight_congr (looks_aval hrd)] at hal
    obtain ⟨h1, h2⟩ := alight_sound hal hE hGM hV
    refine ⟨hfence, ?_⟩
    rw [Oper.semAt_eq _ _ _ (fun c hcd => by rw [hcd] at hal; simp [alight] at hal), h1, Oper.uponIn_value]
    exact hK m e _ _ w ⟨hM.same (by rw [hk]; exact id), hI', (hE.congr hid (fun q hq => MS.mono hm hq)).put x.o.dst v (ids_mono hid (fun q hq => MS.mono hm hq) v h2), (put_defers _ _ _).trans hd⟩
  | float v o =>
    rw [hk] at hst hI'
    rw [hst.1, if_pos rfl]
    obtain ⟨_, hcls, _, hfr, hold, _⟩ := hst
    have hmy := hM.m_le_of (y := y) (by rw [hk]; trivial) hy
    have hold' : seesOld ops x env (S y).h.next = true := by
      unfold seesOld at hold ⊢
      rw [List.all_eq_true] at hold ⊢
      intro d hdl
      rw [hrd d hdl]
      exact hold d hdl
    obtain ⟨env1, b, hE1, hl1, hb1⟩ := masked hE hold'
    rw [← afresh_congr (looks_aval fun d hd => (hl1 d hd).trans (hrd d hd))] at hfr
    have hG1 : GlM gl e (fun q => q < (S y).h.next ∧ MS S k ops.size D m q) := fun g q hg => by
      obtain ⟨a1, a2, a3⟩ := hG.ext hM.ext g q hg
      exact ⟨⟨Nat.lt_of_lt_of_le a1 (T.next hmy (by omega)), .inl a1⟩, a2, a3⟩
    obtain ⟨g1, obj, g2, g3⟩ := afresh_sound hfr hE1 hG1 w
    obtain ⟨j1, j2, j3⟩ := hM.float T hys hk hy g3
    refine ⟨hfence, ?_⟩
    rw [Oper.semAt_eq _ _ _ (fun c hcd => by rw [hcd] at hcls; simp [cls] at hcls), execOp_congr x.o (fun cs bb hcd => by rw [hcd] at hcls; simp [cls] at hcls) (fun z hz => (hb1 z hz).symm), g2, Oper.uponIn_value]
    refine hK m _ _ _ _ ⟨j1, hI', (hE.congr j2 (fun q hq => MS.mono hm hq)).put x.o.dst v (g1.ids j3), (put_defers _ _ _).trans hd⟩
  | chain v =>
    rw [hk] at hst hI'
    rw [hst.1, if_pos rfl]
    obtain ⟨_, hcls, hch, hop, _, _, hold, _⟩ := hst
    have hmy := hM.m_le_of (y := y) (by rw [hk]; trivial) hy
    have hbit : ∀ i, i < y → (k i).mem → D i := fun i hi hki => by
      obtain ⟨z, hz⟩ := items_at (ops := ops) (i := i) (by omega)
      have hsz := T.stp i z hz
      have hcz : cls P z.o.op ≠ 0 := by
        cases hki' : k i with
        | skip => rw [hki'] at hki; exact absurd hki id
        | light u => rw [hki'] at hki; exact absurd hki id
        | chain u => rw [hki'] at hsz; exact hsz.2.1
        | float u p => rw [hki'] at hsz; rw [hsz.2.1]; simp
      exact bits_closed hI.closed T.edges y x hx hc i (chain_ordered T.draw hi hz hx hcz hcls hch fun o => cls_le o.op)
    have hM1 := hM.adopt T hmy (by omega) (fun i u h1 h2 h3 => hM.undone i u h1 (by omega) h3 (hbit i h2 (by rw [h3]; trivial))) (fun i _ h2 h3 => hbit i h2 h3)
    have hup : ∀ q, MS S k ops.size D m q → MS S k ops.size D y q := fun q hq => MS.up T hmy (by omega) hq
    have hold' : seesOld ops x env (S y).h.next = true := by
      unfold seesOld at hold ⊢
      rw [List.all_eq_true] at hold ⊢
      intro d hdl
      rw [hrd d hdl]
      exact hold d hdl
    obtain ⟨env1, b, hE1, hl1, hb1⟩ := masked hE hold'
    rw [← aop_congr (looks_aval fun d hd => (hl1 d hd).trans (hrd d hd))] at hop
    have hE1' : EnvRel e (· < (S y).h.next) env1 b.tmps := hE1.congr (fun _ _ => ⟨rfl, rfl, rfl⟩) fun q hq => hq.1
    have hns : ∀ cs bb, x.o.op ≠ .select cs bb := fun cs bb hcd => by rw [hcd] at hcls; simp [cls] at hcls
    have hF : F0 e ro = F0 e0 ro := F0_congr hM.ext.agree hro
    rw [← hF]
    refine aop_step' hop hC hR hM1.sim (hG.ext hM1.ext) hE1' (execOp_congr x.o hns fun z hz => (hb1 z hz).symm) K Q fun e1 w1 k1 k2 k3 => ?_
    obtain ⟨e2, p1, p2, p3⟩ := hM1.chain T hys hk k1 k2
    have hup' : ∀ q, MS S k ops.size D m q → MS S k ops.size (fun i => D i ∨ i = y) (y + 1) q := fun q hq => MS.mono hm (MS.up T (by omega) (by omega) hq)
    have hag : Agree (MS S k ops.size D m) e e2 := fun q hq => p2 q (hup q hq)
    rw [← conc_congr p3 v k3]
    exact hK (y + 1) e2 _ _ w1 ⟨p1, hI', (hE.congr hag hup').put x.o.dst v (ids_mono p3 (fun q hq => .inl hq) v k3), (put_defers _ _ _).trans hd⟩

/-! All orders. -/
theorem count_set : ∀ (l : List Bool) (y : Nat), l[y]? = some false → (l.set y true).count false + 1 = l.count false
  | [], y, h => by simp at h
  | b :: l, 0, h => by simp at h; subst h; simp
  | b :: l, y + 1, h => by
      have h' : l[y]? = some false := by simpa using h
      have := count_set l y h'
      simp only [List.set_cons_succ, List.count_cons]
      omega

def dn (listed : Array Bool) (i : Nat) : Prop := listed.getD i false = true

theorem dn_set {listed : Array Bool} {y : Nat} (hy : y < listed.size) : dn (listed.setIfInBounds y true) = fun i => dn listed i ∨ i = y := by
  funext i
  unfold dn
  rw [Array.getD_eq_getD_getElem?, Array.getElem?_setIfInBounds, Array.getD_eq_getD_getElem?]
  by_cases h : y = i
  · subst h; simp [hy]
  · simp [h]
    intro hh; exact absurd hh.symm h

theorem any_sound {ro : Option Nat} {ds : List Deferred} (T : Trace P r gl ops S k) (hC : CallOk P gl r) (hR : RoundOk P gl r) (hG : GlOk gl e0 (S 0).h.next) (hro : ∀ l, ro = some l → l < (S 0).h.next)
    (Q : Exit → Act → World → Prop) (hQ : ∀ D m e env a w, (∀ i, i < ops.size → D i) → DI S k ops e0 w0 ds D m e env a w → Q .normal a w) :
    ∀ (fuel : Nat) (listed : Array Bool) (m : Nat) (e : Emb) (env : Tm AV) (a : Act) (w : World), listed.size = ops.size → listed.toList.count false ≤ fuel → DI S k ops e0 w0 ds (dn listed) m e env a w →
      wpAnyIn (F0 e0 ro) 0 P .any ops Q fuel listed a w := by
  have hall : ∀ (listed : Array Bool), listed.size = ops.size → Region.ready .any ops listed = [] → ∀ i, i < ops.size → dn listed i := by
    intro listed hsz hr i
    induction i using Nat.strongRecOn with
    | _ i ih =>
      intro hi
      apply Classical.byContradiction
      intro hnd
      obtain ⟨x, hx⟩ := items_at (ops := ops) hi
      obtain ⟨hxi, hox, _⟩ := items_get hx
      have : i ∈ Region.ready .any ops listed := by
        refine mem_ready.2 ⟨?_, x.o, hox, fun e he hb => ?_⟩
        · unfold dn at hnd
          have hlt : i < listed.size := by omega
          simp [Array.getD, hlt] at hnd ⊢
          exact hnd
        · have := T.edges i x hx
          unfold edgesOk at this
          have := List.all_eq_true.1 this e (by simpa using he)
          rw [hb] at this
          simp only [Bool.not_true, Bool.false_or] at this
          have : e.on + 1 ≤ x.i := Nat.le_of_ble_eq_true this
          exact ih e.on (by omega) (by omega)
      rw [hr] at this
      cases this
  intro fuel
  induction fuel with
  | zero =>
    intro listed m e env a w hsz hcnt h
    have hnil : Region.ready .any ops listed = [] := by
      apply List.eq_nil_iff_forall_not_mem.2
      intro i hi
      obtain ⟨h1, o, ho, _⟩ := mem_ready.1 hi
      have hlt : i < listed.size := by
        rw [hsz]; exact (Array.getElem?_eq_some_iff.1 ho).1
      have h2 : false ∈ listed.toList := by
        simp [Array.getD, hlt] at h1
        rw [← h1]
        simp
      have := List.count_pos_iff.2 h2
      omega
    exact ⟨hnil, hQ _ m e env a w (hall listed hsz hnil) h⟩
  | succ fuel ih =>
    intro listed m e env a w hsz hcnt h
    refine ⟨fun hnil => hQ _ m e env a w (hall listed hsz hnil) h, fun y hy => ?_⟩
    obtain ⟨h1, o, ho, hafter⟩ := mem_ready.1 hy
    have hlt : y < ops.size := (Array.getElem?_eq_some_iff.1 ho).1
    have hlt' : y < listed.size := by omega
    obtain ⟨x, hx⟩ := items_at (ops := ops) hlt
    obtain ⟨hxi, hox, _⟩ := items_get hx
    have : x.o = o := by rw [hox] at ho; exact Option.some.inj ho
    subst this
    have hg : listed[y]? = some false := by
      simp [Array.getD, hlt'] at h1
      simp [hlt', h1]
    refine h.step T hC hR hG hro hx ?_ hafter _ Q fun m' e' env' a' w' h' => ?_
    · unfold dn
      rw [Array.getD_eq_getD_getElem?, hg]
      simp
    · refine ih _ m' e' env' a' w' (by simp [hsz]) ?_ ?_
      · rw [Array.toList_setIfInBounds]
        have := count_set listed.toList y (by simpa using hg)
        omega
      · rw [dn_set hlt']; exact h'

/-- **A region whose order is drawn.** -/
theorem runDraw_sound {ro : Option Nat} (hC : CallOk P gl r) (hR : RoundOk P gl r) (hmix : P.follows .mixedOrders = true) {id : Nat} {a : Act} {env : Tm AV} {s' : DS} (hd : drawOk P ops = true)
    (h : runDraw P r gl ops (items ops) (items ops) ⟨[], [], env, H⟩ = some s') (hS : Sim e H w) (hG : GlOk gl e H.next) (hE : EnvRel e (· < H.next) env a.tmps) (hro : ∀ l, ro = some l → l < H.next)
    (Q : Exit → Act → World → Prop) (hQ : ∀ e' a' w', Ext e H w e' s'.h w' → Sim e' s'.h w' → EnvRel e' (· < s'.h.next) s'.env a'.tmps → a'.defers = a.defers → Q .normal a' w') :
    (Code.region id ops true).wpIn (F0 e ro) 0 P Q a w := by
  obtain ⟨S, k, h0, h1, hst⟩ := runDraw_trace _ _ _ h
  rw [items_length] at h1
  have T : Trace P r gl ops S k := ⟨hd, by rw [h0], by rw [h0], hst⟩
  have hH : (S 0).h = H := by rw [h0]
  have hEnv : (S 0).env = env := by rw [h0]
  refine wpIn_region_any hmix ?_
  have hS' : Sim e H { w with drawn := w.drawn + 1 } := sim_frame hS (fun _ _ => ⟨rfl, rfl, rfl⟩) fun _ _ _ _ => rfl
  have hX' : Ext e H w e H { w with drawn := w.drawn + 1 } := ⟨fun _ _ => ⟨rfl, rfl, rfl⟩, Nat.le_refl _, rfl, rfl, rfl, Nat.le_refl _, fun _ _ _ => rfl, fun q o hg hl _ => ⟨q, o, hg, hl, fun h => h, rfl⟩⟩
  have hnone : ∀ i, ¬ dn (Array.replicate ops.size false) i := fun i hi => by
    unfold dn at hi
    rw [Array.getD_eq_getD_getElem?, Array.getElem?_replicate] at hi
    split at hi <;> simp at hi
  refine any_sound (S := S) (k := k) (e0 := e) (w0 := { w with drawn := w.drawn + 1 }) (ds := a.defers) T hC hR (by rw [hH]; exact hG) (by rw [hH]; exact hro) Q ?_ ops.size _ 0 e env a _ (by simp) ?_ ?_
  · intro D m e' env' a' w' hall hDI
    obtain ⟨hM, hI, hE', hdf⟩ := hDI
    have hM1 := hM.adopt T hM.le (Nat.le_refl _) (fun i u g1 g2 g3 => absurd (hall i g2) (hM.undone i u g1 g2 g3)) fun i _ g2 _ => hall i g2
    have hx := hM1.ext
    rw [h1, hH] at hx
    have hs := hM1.sim
    rw [h1] at hs
    refine hQ e' a' w' (hX'.trans hx) hs ?_ hdf
    have hup : ∀ q, MS S k ops.size D m q → q < s'.h.next := fun q hq => by
      rcases MS.up T hM.le (Nat.le_refl _) hq with hq' | ⟨i, v, o, g1, g2, _⟩
      · rw [h1] at hq'; exact hq'
      · omega
    have heq : ∀ d, env'.get d = s'.env.get d := fun d => by
      rw [← h1]
      exact hI.envs ops.size d (Nat.le_refl _) (.inl rfl) fun i x g1 _ _ => hall i g1
    have hE2 := hE'.congr (e' := e') (M' := (· < s'.h.next)) (fun _ _ => ⟨rfl, rfl, rfl⟩) hup
    exact ⟨fun t => by rw [← heq t]; exact hE2.val t, fun t v hv => hE2.ids t v (by rw [heq t]; exact hv)⟩
  · simp only [Array.toList_replicate]
    exact Nat.le_trans (List.count_le_length) (by simp)
  · refine ⟨⟨Nat.zero_le _, fun i hi _ => by omega, fun i v _ _ _ => hnone i, fun i hi q o hg => ?_, ?_, ?_, fun i v o _ _ _ hd => absurd hd (hnone i), fun i j v o v' o' _ _ _ _ _ hd => absurd hd (hnone i)⟩, ⟨?_, ?_, ?_⟩, ?_, rfl⟩
    · have : i = 0 := by omega
      subst this
      rw [hH] at hg ⊢
      exact hS.lt q o hg
    · rw [hH]; exact hS'
    · rw [hH]; exact Ext.refl _ _ _
    · intro y d hy hyd hw
      rw [← hEnv]
      exact (T.between (i := 0) (j := y) (Nat.zero_le _) hy fun c x _ hc hx hdst => hnone c (hw c x hc hx hdst)).symm
    · intro d; rw [hEnv]
    · exact fun i o _ hd => absurd hd (hnone i)
    · exact hE.congr (fun _ _ => ⟨rfl, rfl, rfl⟩) fun q hq => .inl (by rw [hH]; exact hq)

end
end Ai
end Go.Proofs.YtipgfljojhdhjaaGreatDoor

namespace Go.Proofs.YtipgfljojhdhjaaGreatDoor
namespace Ai

section
variable {P : Program} {gl : Gl} {r : Rec} {e : Emb} {H H' : AH} {w w' : World} {env : Tm AV} {a : Act} {Q : Exit → Act → World → Prop}

/-- Within a loop. -/
def InLoop (F : Fence) (n : Nat) (P : Program) (c : Code) (Q : Exit → Act → World → Prop) (a : Act) (w : World) : Prop :=
  ∀ (b : Frame) (k : List Go.Item) (cs : List Frame), b.roundOf = F.round → F.fn b.fn → F.room (cs.length + 1 + n) →
    ∃ e a' w', Q e a' w' ∧ ArrivesIn (Machine.fenced P F) P (lone (b.atR a (.code c :: .inLoop c :: k)) cs w) b k cs e a' w'

theorem InLoop.loop {F : Fence} {n : Nat} {c : Code} (h : InLoop F n P c Q a w) : (Code.loop c).wpIn F n P Q a w := by
  intro b k cs hro hb hr
  obtain ⟨e, a', w', hq, harr⟩ := h b k cs hro hb hr
  exact ⟨e, a', w', hq, .of_steps (.one (fenced_calm hb hr rfl) stepR_loop) harr⟩

theorem InLoop.round {F : Fence} {n : Nat} {c : Code} (h : c.wpIn F n P (Exit.then (InLoop F n P c Q) Q) a w) : InLoop F n P c Q a w := by
  intro b k cs hro hb hr
  obtain ⟨e, a₁, w₁, hq, harr⟩ := h b (.inLoop c :: k) cs hro hb hr
  cases e with
  | normal =>
    obtain ⟨e₂, a₂, w₂, hq₂, harr₂⟩ := hq b k cs hro hb hr
    exact ⟨e₂, a₂, w₂, hq₂, .of_steps (StepsIn.trans harr (.one (fenced_calm hb hr rfl) stepR_inLoop)) harr₂⟩
  | exit id => exact ⟨_, a₁, w₁, hq, .pass (x := .inLoop c) rfl (fun _ _ => .inl (by simp)) harr⟩
  | goto l => exact ⟨_, a₁, w₁, hq, .pass (x := .inLoop c) rfl (fun _ _ => .inl (by simp)) harr⟩
  | ret => exact ⟨_, a₁, w₁, hq, .pass (x := .inLoop c) rfl (fun _ _ => .inl (by simp)) harr⟩
  | panic ch => exact ⟨_, a₁, w₁, hq, .pass (x := .inLoop c) rfl (fun _ _ => .inl (by simp)) harr⟩
  | outgrown => exact ⟨_, a₁, w₁, hq, .pass (x := .inLoop c) rfl (fun _ _ => .inl (by simp)) harr⟩

/-- As ExSound, for whatever is asked of an activation and a world. -/
def SoundOf (gl : Gl) (ro : Option Nat) (W : Emb → (Exit → Act → World → Prop) → Act → World → Prop) (s : St) (x : AX) (s' : St) : Prop :=
  ∀ e a w, Sim e s.h w → GlOk gl e s.h.next → EnvRel e (· < s.h.next) s.env a.tmps → MarksRel e s.h.next s.marks a.defers → (∀ l, ro = some l → l < s.h.next) →
    ∀ Q : Exit → Act → World → Prop, (∀ e' a' w', Ext e s.h w e' s'.h w' → Sim e' s'.h w' → EnvRel e' (· < s'.h.next) s'.env a'.tmps → MarksRel e' s'.h.next s'.marks a'.defers → Q (exitOf x) a' w') →
    W e Q a w

theorem ExSound_iff {ro : Option Nat} {c : Code} {s s' : St} {x : AX} : ExSound P gl ro c s x s' ↔ SoundOf gl ro (fun e Q a w => c.wpIn (F0 e ro) 0 P Q a w) s x s' := Iff.rfl

/-- One after the other. -/
theorem SoundOf.seq {ro : Option Nat} {W : Emb → (Exit → Act → World → Prop) → Act → World → Prop} {c : Code} {s s1 s2 : St} {x : AX}
    (h1 : ExSound P gl ro c s .normal s1) (h2 : SoundOf gl ro W s1 x s2)
    (hW : ∀ e e' Q a w, F0 e' ro = F0 e ro → W e' Q a w → W e Q a w) :
    SoundOf gl ro (fun e Q a w => c.wpIn (F0 e ro) 0 P (Exit.then (W e Q) Q) a w) s x s2 := by
  intro e a w hS hG hE hM hro Q hQ
  refine h1 e a w hS hG hE hM hro _ fun e1 a1 w1 k1 k2 k3 k4 => ?_
  show W e Q a1 w1
  refine hW e e1 Q a1 w1 (F0_congr k1.agree hro) (h2 e1 a1 w1 k2 (hG.ext k1) k3 k4 (fun l hl => Nat.lt_of_lt_of_le (hro l hl) k1.next) Q fun e2 a2 w2 m1 m2 m3 m4 => ?_)
  exact hQ e2 a2 w2 (k1.trans m1) m2 m3 m4

theorem SoundOf.stop {ro : Option Nat} {W : Emb → (Exit → Act → World → Prop) → Act → World → Prop} {c : Code} {s s1 : St} {x : AX}
    (h1 : ExSound P gl ro c s x s1) (hx : x ≠ .normal) : SoundOf gl ro (fun e Q a w => c.wpIn (F0 e ro) 0 P (Exit.then (W e Q) Q) a w) s x s1 := by
  intro e a w hS hG hE hM hro Q hQ
  refine h1 e a w hS hG hE hM hro _ fun e1 a1 w1 k1 k2 k3 k4 => ?_
  have := hQ e1 a1 w1 k1 k2 k3 k4
  cases x with
  | normal => exact absurd rfl hx
  | exit id => exact this
  | ret => exact this

/-! A range over a function. -/
theorem run_getLoop' {b : Nat} {o : Loop} (h : w.heap[b]? = some (.loop o)) : (Instr.getLoop b).run P w = .ok o w := by
  unfold Instr.getLoop
  simp only [Sem.run_bind, run_getObj h rfl, Result.andThen_ok, Sem.run_pure]

theorem run_endLoop' {b : Nat} {o : Loop} (h : w.heap[b]? = some (.loop o)) (hs : o.state ≠ .busy) :
    (Instr.endLoop b).run P w = .ok o.pending (putBlk w b (.loop { o with state := .exhausted })) := by
  unfold Instr.endLoop
  have hb : (o.state == LoopState.busy) = false := by cases ho : o.state <;> simp_all <;> rfl
  simp only [Sem.run_bind, run_getLoop' h, Result.andThen_ok, hb, Bool.false_eq_true, if_false, Sem.run_pure]
  rw [run_setObj h rfl]
  rfl

theorem rangeFunc_sound {ro : Option Nat} {f : FuncId} {g : Operand} {ps : Array Tmp} {assign body : Code} {s s' : St} {x : AX} (hC : CallOk P gl r)
    (h : execC P gl r ro f (.rangeFunc g ps assign body) s = some (x, s')) : ExSound P gl ro (.rangeFunc g ps assign body) s x s' := by
  intro e a w hS hG hE hM hro Q hQ
  simp only [execC] at h
  split at h
  · simp at h
  · rename_i fv hfv
    obtain ⟨ev, iv⟩ := aval_sound hfv hE hG.m
    split at h
    · simp at h
    · rename_i d mk H1 hent
      -- the block for the deferred calls
      have hent' : ∃ (e1 : Emb) (w1 : World) (dd : Nat) (mark : List Deferred), Ext e s.h w e1 H1 w1 ∧ Sim e1 H1 w1 ∧ d < H1.next ∧ dd = e1.blk d ∧ (∀ r ∈ mk, r < H1.next) ∧
          mark = mk.map (fun r => { target := .collected (e1.blk r), args := #[] }) ∧
          ∀ fn, (Instr.enterLoop fn a.tmps ps assign body (F0 e ro).round).run P w = .ok (w1.heap.size, mark) { w1 with heap := w1.heap.push (.loop { state := .ready, pending := none, fn := fn, tmps := a.tmps, params := ps, assign := assign, body := body, defers := dd }) } := by
        cases ro with
        | none =>
          simp only [Option.some.injEq, Prod.mk.injEq] at hent
          obtain ⟨rfl, rfl, rfl⟩ := hent
          obtain ⟨q1, q2, q3⟩ := Emb.at_same e s.h.next w.heap.size 0 0
          have hag := Emb.at_agree e s.h.next w.heap.size 0 0
          obtain ⟨p1, p2⟩ := sim_push hS (o := .defd) (obj := .deferred (some [])) hag q1 (w' := { w with heap := w.heap.push (.deferred (some [])) }) rfl rfl rfl rfl (by
            show (w.heap.push _)[w.heap.size]? = _
            exact Array.getElem?_push_size)
          refine ⟨_, _, _, _, p2, p1, Nat.lt_succ_self _, rfl, fun r hr => by simp at hr; subst hr; exact Nat.lt_succ_self _, rfl, fun fn => ?_⟩
          unfold Instr.enterLoop
          simp only [F0, Fence.wide, Sem.run_bind, run_newObj, Sem.run_pure, Result.andThen_ok]
          simp [q1]
        | some l =>
          simp only at hent
          split at hent
          · rename_i st pend f' env' ps' as' bd' d' hg
            simp only [Option.some.injEq, Prod.mk.injEq] at hent
            obtain ⟨rfl, rfl, rfl⟩ := hent
            obtain ⟨f2, tmps2, k1, k2, k3⟩ := hS.obj l _ hg
            refine ⟨e, w, _, [], Ext.refl _ _ _, hS, k3, rfl, fun r hr => by simp at hr, rfl, fun fn => ?_⟩
            unfold Instr.enterLoop
            simp only [F0, Fence.inRound, Sem.run_bind, run_getLoop' k1, run_newObj, Sem.run_pure, Result.andThen_ok]
          · simp at hent
      obtain ⟨e1, w1, dd, mark, x1, s1, d1, d2, mk1, mk2, hrun⟩ := hent'
      split at h
      · simp at h
      · rename_i v H2 hcall
        split at hcall
        · rename_i gf fi ca
          simp only [AV.ids] at iv
          split at h
          · simp at h
          · rename_i st pend f' env' ps' as' bd' d' hbusy hg2
            -- the loop's record
            have hwp : ∀ fn : FuncId, ∃ e2 : Emb, ∃ w2 : World, w2 = { w1 with heap := w1.heap.push (.loop { state := .ready, pending := none, fn := fn, tmps := a.tmps, params := ps, assign := assign, body := body, defers := dd }) } ∧
                Agree (· < H1.next) e1 e2 ∧ e2.blk H1.next = w1.heap.size ∧ Sim e2 (H1.push (.loop .ready none f s.env ps.toList assign body d)) w2 ∧ Ext e1 H1 w1 e2 (H1.push (.loop .ready none f s.env ps.toList assign body d)) w2 := by
              intro fn
              obtain ⟨q1, q2, q3⟩ := Emb.at_same e1 H1.next w1.heap.size 0 0
              have hag := Emb.at_agree e1 H1.next w1.heap.size 0 0
              obtain ⟨p1, p2⟩ := sim_push s1 (o := .loop .ready none f s.env ps.toList assign body d) (obj := .loop { state := .ready, pending := none, fn := fn, tmps := a.tmps, params := ps, assign := assign, body := body, defers := dd }) hag q1
                (w' := { w1 with heap := w1.heap.push (.loop { state := .ready, pending := none, fn := fn, tmps := a.tmps, params := ps, assign := assign, body := body, defers := dd }) }) rfl rfl rfl rfl (by
                  refine ⟨fn, a.tmps, ?_, (hE.ext x1).congr hag (fun _ hr => Nat.lt_succ_of_lt hr), Nat.lt_succ_of_lt d1⟩
                  show (w1.heap.push _)[w1.heap.size]? = _
                  rw [Array.getElem?_push_size, (hag d d1).1, d2])
              exact ⟨_, _, rfl, hag, q1, p1, p2⟩
            refine wpIn_rangeFunc fun fn _ => ?_
            obtain ⟨e2, w2, hw2, ag2, b2, s2, x2⟩ := hwp fn
            have x12 : Ext e s.h w e2 _ w2 := x1.trans x2
            have hG2 := hG.ext x12
            have hfi : AV.idsL e2 (· < (H1.push (.loop .ready none f s.env ps.toList assign body d)).next) fi := idsL_mono x12.agree (fun r hr => Nat.lt_of_lt_of_le hr x12.next) _ iv.1
            have hca : AV.idsL e2 (· < (H1.push (.loop .ready none f s.env ps.toList assign body d)).next) ca := idsL_mono x12.agree (fun r hr => Nat.lt_of_lt_of_le hr x12.next) _ iv.2
            have hy : AV.idsL e2 (· < (H1.push (.loop .ready none f s.env ps.toList assign body d)).next) [AV.yld H1.next] := by
              simp only [AV.idsL, AV.ids, and_true]; exact Nat.lt_succ_self _
            obtain ⟨hcf, hci⟩ := hC _ _ _ _ _ hcall e2 w2 s2 hG2 (idsL_append (idsL_append hfi hy) hca)
            refine ⟨w1.heap.size, mark, w2, ⟨.fn (.func gf) ⟨concL e2 ca⟩, ⟨concL e2 fi⟩ ++ #[.func (.yield w1.heap.size) #[] #[]]⟩, w2, gf, ⟨concL e2 (fi ++ [AV.yld H1.next] ++ ca)⟩, w2, ?_, ?_, fun f' _ => F0_fn e ro f', ?_, fun hd => by rw [F0_depth] at hd; simp at hd, ?_⟩
            · rw [hw2]; exact hrun fn
            · have c1 := concL_congr x12.agree fi iv.1
              have c2 := concL_congr x12.agree ca iv.2
              simp only [resolve, ev, conc, Deferred.ofValue, Sem.run_pure]
              simp [c1, c2, Act.eval]
            · simp only [invoke]
              rw [hcf]
              simp [concL_append, concL, conc, b2]
            · have hci' : CallsIn (F0 e ro) (0 - 1) P gf ⟨concL e2 (fi ++ [AV.yld H1.next] ++ ca)⟩ w2 (Back e2 (H1.push (.loop .ready none f s.env ps.toList assign body d)) w2 v H2) := by
                cases ro with
                | none => exact hci
                | some l => exact hci
              refine CallsIn.mono hci' fun en w3 hb => ?_
              obtain ⟨e3, rfl, x3, s3, _⟩ := hb
              have hb3 : e3.blk H1.next = w1.heap.size := by rw [(x3.agree H1.next (Nat.lt_succ_self _)).1, b2]
              obtain ⟨f3, tmps3, k1, k2, k3⟩ := s3.obj _ _ hg2
              rw [hb3] at k1
              have hnb : st ≠ .busy := fun hh => hbusy hh
              have hend := run_endLoop' (P := P) k1 hnb
              obtain ⟨z1, z2⟩ := sim_write s3 hg2 rfl (o' := .loop .exhausted pend f' env' ps' as' bd' d') (w' := putBlk w3 w1.heap.size (.loop { state := .exhausted, pending := pend, fn := f3, tmps := tmps3, params := ⟨ps'⟩, assign := as', body := bd', defers := e3.blk d' }))
                (by simp [putBlk]) (fun b hb => by rw [hb3] at hb; simp [putBlk, Array.getElem?_setIfInBounds_ne (Ne.symm hb)]) rfl rfl rfl
                ⟨f3, tmps3, by
                  have := (Array.getElem?_eq_some_iff.1 k1).1
                  rw [hb3]
                  simp [putBlk, this], k2, k3⟩ (fun _ => rfl)
              have xx : Ext e s.h w e3 _ _ := (x12.trans x3).trans z2
              have hE' := hE.ext xx
              have hM' : MarksRel e3 (H2.set H1.next (.loop .exhausted pend f' env' ps' as' bd' d')).next (mk ++ s.marks) (mark ++ a.defers) := by
                have hm0 := hM.congr xx.agree xx.next
                refine ⟨?_, fun r hr => ?_⟩
                · rw [hm0.1, mk2, List.map_append]
                  congr 1
                  refine List.map_congr_left fun r hr => ?_
                  have hr1 := mk1 r hr
                  rw [((x2.trans (x3.trans z2)).agree r hr1).1]
                · rcases List.mem_append.1 hr with hr | hr
                  · exact Nat.lt_of_lt_of_le (mk1 r hr) (x2.trans (x3.trans z2)).next
                  · exact hm0.2 r hr
              refine ⟨pend, _, hend, ?_⟩
              cases pend with
              | none =>
                simp only [Option.some.injEq, Prod.mk.injEq] at h
                obtain ⟨rfl, rfl⟩ := h
                exact hQ e3 _ _ xx z1 hE' hM'
              | some c =>
                cases c <;> simp only [Option.some.injEq, Prod.mk.injEq, reduceCtorEq] at h
                · obtain ⟨rfl, rfl⟩ := h
                  exact wpIn_exit (hQ e3 _ _ xx z1 hE' hM')
                · obtain ⟨rfl, rfl⟩ := h
                  exact wpIn_ret (hQ e3 _ _ xx z1 hE' hM')
          · simp at h
        · simp at hcall

end
end Ai
end Go.Proofs.YtipgfljojhdhjaaGreatDoor

namespace Go.Proofs.YtipgfljojhdhjaaGreatDoor
namespace Ai

section
variable {P : Program} {gl : Gl} {r : Rec} {e : Emb} {H H' : AH} {w w' : World} {env : Tm AV} {a : Act} {Q : Exit → Act → World → Prop}

def LevelOk (P : Program) (gl : Gl) (n : Nat) : Prop := ∀ m, m ≤ n → CallOk P gl (level P gl m) ∧ RoundOk P gl (level P gl m)

theorem exSound_here {ro : Option Nat} {c : Code} {s : St} {x : AX} (h : ∀ (F : Fence) (n : Nat) (Q : Exit → Act → World → Prop) (a : Act) (w : World), Q (exitOf x) a w → c.wpIn F n P Q a w) : ExSound P gl ro c s x s :=
  fun e a w hS _ hE hM _ Q hQ => h _ _ Q a w (hQ e a w (Ext.refl _ _ _) hS hE hM)

theorem exSound_loop {ro : Option Nat} {f : FuncId} {b : Code} (hb : ∀ n, LevelOk P gl n → ∀ s x s', execC P gl (level P gl n) ro f b s = some (x, s') → ExSound P gl ro b s x s') :
    ∀ n, LevelOk P gl n → ∀ s x s', execC P gl (level P gl n) ro f (.loop b) s = some (x, s') → SoundOf gl ro (fun e Q a w => InLoop (F0 e ro) 0 P b Q a w) s x s' := by
  intro n
  induction n with
  | zero =>
    intro hn s x s' h
    simp only [execC] at h
    split at h
    · simp [level] at h
    · have h1 := hb 0 hn s x s' h
      have hx : x ≠ .normal := fun hx => by subst hx; rename_i hne; exact hne s' h
      have := SoundOf.stop (W := fun e Q a w => InLoop (F0 e ro) 0 P b Q a w) h1 hx
      exact fun e a w k1 k2 k3 k4 k5 Q hQ => InLoop.round (this e a w k1 k2 k3 k4 k5 Q hQ)
  | succ n ih =>
    intro hn s x s' h
    simp only [execC] at h
    split at h
    · rename_i s1 h1
      have h2 := ih (fun m hm => hn m (Nat.le_succ_of_le hm)) s1 x s' h
      have := SoundOf.seq (hb (n + 1) hn s .normal s1 h1) h2 (fun e e' Q a w hF hw => by rw [← hF]; exact hw)
      exact fun e a w k1 k2 k3 k4 k5 Q hQ => InLoop.round (this e a w k1 k2 k3 k4 k5 Q hQ)
    · have h1 := hb (n + 1) hn s x s' h
      have hx : x ≠ .normal := fun hx => by subst hx; rename_i hne; exact hne s' h
      have := SoundOf.stop (W := fun e Q a w => InLoop (F0 e ro) 0 P b Q a w) h1 hx
      exact fun e a w k1 k2 k3 k4 k5 Q hQ => InLoop.round (this e a w k1 k2 k3 k4 k5 Q hQ)

/-- **Code.** -/
theorem execC_sound (hmix : P.follows .mixedOrders = true) : ∀ (c : Code) (n : Nat), LevelOk P gl n → ∀ (ro : Option Nat) (f : FuncId) (s : St) (x : AX) (s' : St),
    execC P gl (level P gl n) ro f c s = some (x, s') → ExSound P gl ro c s x s' := by
  intro c
  induction c with
  | skip =>
    intro n hn ro f s x s' h
    simp only [execC, Option.some.injEq, Prod.mk.injEq] at h
    obtain ⟨rfl, rfl⟩ := h
    exact exSound_here fun F n Q a w hq => wpIn_skip hq
  | label l =>
    intro n hn ro f s x s' h
    simp only [execC, Option.some.injEq, Prod.mk.injEq] at h
    obtain ⟨rfl, rfl⟩ := h
    exact exSound_here fun F n Q a w hq => wpIn_label hq
  | exit id =>
    intro n hn ro f s x s' h
    simp only [execC, Option.some.injEq, Prod.mk.injEq] at h
    obtain ⟨rfl, rfl⟩ := h
    exact exSound_here fun F n Q a w hq => wpIn_exit hq
  | ret =>
    intro n hn ro f s x s' h
    simp only [execC, Option.some.injEq, Prod.mk.injEq] at h
    obtain ⟨rfl, rfl⟩ := h
    exact exSound_here fun F n Q a w hq => wpIn_ret hq
  | seq x y ihx ihy =>
    intro n hn ro f s z s' h
    simp only [execC] at h
    split at h
    · rename_i s1 h1
      have := SoundOf.seq (W := fun e Q a w => y.wpIn (F0 e ro) 0 P Q a w) (ihx n hn ro f s .normal s1 h1) (ExSound_iff.1 (ihy n hn ro f s1 z s' h)) (fun e e' Q a w hF hw => by rw [← hF]; exact hw)
      exact fun e a w k1 k2 k3 k4 k5 Q hQ => wpIn_seq (this e a w k1 k2 k3 k4 k5 Q hQ)
    · have h1 := ihx n hn ro f s z s' h
      have hx : z ≠ .normal := fun hx => by subst hx; rename_i hne; exact hne s' h
      have := SoundOf.stop (W := fun e Q a w => y.wpIn (F0 e ro) 0 P Q a w) h1 hx
      exact fun e a w k1 k2 k3 k4 k5 Q hQ => wpIn_seq (this e a w k1 k2 k3 k4 k5 Q hQ)
  | cond c x y ihx ihy =>
    intro n hn ro f s z s' h
    simp only [execC] at h
    split at h
    · rename_i hc
      exact fun e a w k1 k2 k3 k4 k5 Q hQ => wpIn_cond_true (by simpa [conc] using (aval_sound hc k3 k2.m).1) (ihx n hn ro f s z s' h e a w k1 k2 k3 k4 k5 Q hQ)
    · rename_i hc
      exact fun e a w k1 k2 k3 k4 k5 Q hQ => wpIn_cond_false (by simpa [conc] using (aval_sound hc k3 k2.m).1) (ihy n hn ro f s z s' h e a w k1 k2 k3 k4 k5 Q hQ)
    · simp at h
  | block id b ih =>
    intro n hn ro f s z s' h
    simp only [execC] at h
    split at h
    · rename_i i s1 h1
      have h2 := ih n hn ro f s (.exit i) s1 h1
      intro e a w k1 k2 k3 k4 k5 Q hQ
      refine wpIn_block (h2 e a w k1 k2 k3 k4 k5 _ fun e1 a1 w1 m1 m2 m3 m4 => ?_)
      show (if i = id then Q .normal a1 w1 else Q (.exit i) a1 w1)
      cases hi : Nat.beq i id with
      | true =>
        rw [hi] at h
        simp only [cond_true, Option.some.injEq, Prod.mk.injEq] at h
        obtain ⟨rfl, rfl⟩ := h
        rw [if_pos (Nat.eq_of_beq_eq_true hi)]
        exact hQ e1 a1 w1 m1 m2 m3 m4
      | false =>
        rw [hi] at h
        simp only [cond_false, Option.some.injEq, Prod.mk.injEq] at h
        obtain ⟨rfl, rfl⟩ := h
        rw [if_neg (fun he => by subst he; rw [Nat.beq_refl] at hi; cases hi)]
        exact hQ e1 a1 w1 m1 m2 m3 m4
    · rename_i hne
      have h2 := ih n hn ro f s z s' h
      intro e a w k1 k2 k3 k4 k5 Q hQ
      refine wpIn_block (h2 e a w k1 k2 k3 k4 k5 _ fun e1 a1 w1 m1 m2 m3 m4 => ?_)
      have := hQ e1 a1 w1 m1 m2 m3 m4
      cases z with
      | normal => exact this
      | exit i => exact absurd h (hne i s')
      | ret => exact this
  | loop b ih =>
    intro n hn ro f s z s' h
    have := exSound_loop (fun m hm => ih m hm ro f) n hn s z s' h
    exact fun e a w k1 k2 k3 k4 k5 Q hQ => (this e a w k1 k2 k3 k4 k5 Q hQ).loop
  | region id ops draw =>
    intro n hn ro f s z s' h
    obtain ⟨hC, hR⟩ := hn n (Nat.le_refl _)
    cases draw with
    | false =>
      simp only [execC] at h
      split at h
      · rename_i env H hrun
        simp only [Option.some.injEq, Prod.mk.injEq] at h
        obtain ⟨rfl, rfl⟩ := h
        intro e a w k1 k2 k3 k4 k5 Q hQ
        refine wpIn_region ?_
        have := runOps_sound (ro := ro) hC hR ops.toList 0 (fun j => by simp) s.env s.h env H hrun e a w k1 k2 k3 k5 Q (fun e' a' w' m1 m2 m3 m4 => hQ e' a' w' m1 m2 m3 (by rw [m4]; exact k4.congr m1.agree m1.next))
        rw [List.range_eq_range']
        simpa using this
      · simp at h
    | true =>
      simp only [execC] at h
      obtain ⟨hd, h⟩ := bif_some h
      split at h
      · rename_i d hrun
        simp only [Option.some.injEq, Prod.mk.injEq] at h
        obtain ⟨rfl, rfl⟩ := h
        intro e a w k1 k2 k3 k4 k5 Q hQ
        exact runDraw_sound hC hR hmix hd hrun k1 k2 k3 k5 Q (fun e' a' w' m1 m2 m3 m4 => hQ e' a' w' m1 m2 m3 (by rw [m4]; exact k4.congr m1.agree m1.next))
      · simp at h
  | rangeFunc g ps assign body _ _ =>
    intro n hn ro f s z s' h
    exact rangeFunc_sound (hn n (Nat.le_refl _)).1 h
  | _ =>
    intro n hn ro f s z s' h
    simp [execC] at h

end
end Ai
end Go.Proofs.YtipgfljojhdhjaaGreatDoor

namespace Go.Proofs.YtipgfljojhdhjaaGreatDoor
namespace Ai

section
variable {P : Program} {gl : Gl} {r : Rec} {e : Emb} {M : Nat → Prop} {H H' : AH} {w w' : World} {env : Tm AV} {a : Act} {Q : Exit → Act → World → Prop}

theorem Tm.setL_get {α : Type} : ∀ (xs : List α) (t : Tm α) (k j : Nat), (t.setL k xs).get j = if k ≤ j ∧ j < k + xs.length then (t.get j).bind (fun _ => xs[j - k]?) else t.get j
  | [], t, k, j => by simp only [Tm.setL, List.length_nil]; rw [if_neg (by omega)]
  | x :: xs, t, k, j => by
      rw [Tm.setL, Tm.setL_get xs, Tm.get_set]
      simp only [List.length_cons]
      by_cases h1 : j = k
      · subst h1
        rw [if_neg (by omega), if_pos rfl, if_pos (by omega)]
        cases t.get j <;> simp
      · rw [if_neg h1]
        by_cases h2 : k + 1 ≤ j ∧ j < k + 1 + xs.length
        · rw [if_pos h2, if_pos (by omega)]
          congr 1
          funext _
          rw [show j - k = (j - (k + 1)) + 1 by omega, List.getElem?_cons_succ]
        · rw [if_neg h2, if_neg (by omega)]

theorem entry_env {args : List AV} {n : Nat} (hn : n < 4096) (hl : args.length ≤ n) (hi : AV.idsL e M args) :
    EnvRel e M ((Tm.blank undefA 12 n).setL 0 args) ((⟨concL e args⟩ : Array Value) ++ Array.replicate (n - (⟨concL e args⟩ : Array Value).size) undef) := by
  have hb : ∀ k, (Tm.blank undefA 12 n).get k = if k < n then some undefA else none := fun k => Tm.get_blank _ _ _ _ hn
  have hsz : (⟨concL e args⟩ : Array Value).size = args.length := by simp [concL_length]
  refine ⟨fun t => ?_, fun t v hv => ?_⟩
  · rw [Tm.setL_get, hb, Array.getElem?_append, hsz]
    by_cases h : t < args.length
    · rw [if_pos (by omega), if_pos h, if_pos (by omega)]
      simp only [Option.bind_some, Nat.sub_zero]
      rw [List.getElem?_toArray, concL_get]
    · rw [if_neg (by omega), if_neg h, Array.getElem?_replicate]
      by_cases h2 : t < n
      · rw [if_pos h2, if_pos (by omega)]
        simp [undefA_conc]
      · rw [if_neg h2, if_neg (by omega)]; rfl
  · rw [Tm.setL_get, hb] at hv
    by_cases h : t < args.length
    · rw [if_pos (by omega), if_pos (by omega)] at hv
      simp only [Option.bind_some, Nat.sub_zero] at hv
      exact idsL_iff.1 hi v (List.mem_of_getElem? hv)
    · rw [if_neg (by omega)] at hv
      split at hv
      · simp only [Option.some.injEq] at hv; subst hv; exact undefA_ids
      · cases hv

def resF (tmps : Array Value) : ResultVar → Sem Value
  | .tmp t => pure (tmps.getD t undef)
  | .cell a t => do loadVar t (← asAddr (tmps.getD a undef))
theorem results_eq (fn : Func) (tmps : Array Value) : results fn tmps = (do
    let vs ← fn.results.mapM (resF tmps)
    pure (if h : vs.size = 1 then vs[0] else .tuple vs)) := by
  unfold results
  congr 1
theorem run_asAddr' (x : Addr) : (asAddr (.pointer (some x))).run P w = .ok x w := by simp [asAddr]

theorem resultsA_sound {tmps : Array Value} (hE : EnvRel e (· < H.next) env tmps) (hS : Sim e H w) : ∀ {l : List ResultVar} {vs : List AV}, resultsA P env H l = some vs →
    (l.mapM (resF tmps)).run P w = .ok (concL e vs) w ∧ AV.idsL e (· < H.next) vs
  | [], vs, h => by
      simp only [resultsA, Option.some.injEq] at h
      subst h
      exact ⟨by simp [concL], trivial⟩
  | .tmp t :: rest, vs, h => by
      simp only [resultsA] at h
      split at h
      · rename_i us hus
        simp only [Option.some.injEq] at h
        subst h
        obtain ⟨h1, h2⟩ := resultsA_sound hE hS hus
        have hv := hE.val t
        have hd : tmps.getD t undef = conc e ((env.get t).getD undefA) := by
          rw [Array.getD_eq_getD_getElem?, ← hv]
          cases env.get t <;> simp [undefA_conc]
        refine ⟨?_, ?_, h2⟩
        · simp only [List.mapM_cons, resF, Sem.run_bind, Sem.run_pure, Result.andThen_ok, h1, concL, hd]
        · cases hg : env.get t with
          | none => exact undefA_ids
          | some v => exact hE.ids t v hg
      · simp at h
  | .cell c t :: rest, vs, h => by
      simp only [resultsA] at h
      split at h
      · rename_i r o hg
        split at h
        · rename_i v us hv hus
          simp only [Option.some.injEq] at h
          subst h
          obtain ⟨h1, h2⟩ := resultsA_sound hE hS hus
          have hr : r < H.next := by have := hE.ids c _ hg; simpa [AV.ids] using this
          obtain ⟨h3, h4⟩ := aload_sound hv hS.view hr
          have hd : tmps.getD c undef = .pointer (some ⟨e.blk r, e.base r + o, none⟩) := by
            rw [Array.getD_eq_getD_getElem?, ← hE.val c, hg]
            simp [conc]
          refine ⟨?_, h4, h2⟩
          simp only [List.mapM_cons, resF, Sem.run_bind, Sem.run_pure, Result.andThen_ok, h1, concL, hd, run_asAddr', h3]
        · simp at h
      · simp at h

def packA : List AV → AV
  | [v] => v
  | vs => .tup vs

theorem results_sound {fn : Func} {tmps : Array Value} (hE : EnvRel e (· < H.next) env tmps) (hS : Sim e H w) {vs : List AV} (h : resultsA P env H fn.results.toList = some vs) :
    (results fn tmps).run P w = .ok (conc e (packA vs)) w ∧ (packA vs).ids e (· < H.next) := by
  obtain ⟨h1, h2⟩ := resultsA_sound hE hS h
  rw [results_eq, Array.mapM_eq_mapM_toList]
  simp only [Sem.run_bind, map_eq_pure_bind, Sem.run_pure]
  rw [h1]
  simp only [Result.andThen_ok]
  rcases vs with _ | ⟨v, _ | ⟨u, us⟩⟩
  · exact ⟨by simp [packA, concL, conc], by simpa [packA, AV.ids] using h2⟩
  · exact ⟨by simp [packA, concL], h2.1⟩
  · exact ⟨by simp [packA, concL, conc], by simpa [packA, AV.ids] using h2⟩

theorem run_takeDeferred' {b : Nat} (h : w.heap[b]? = some (.deferred (some []))) : (Instr.takeDeferred b).run P w = .ok [] (putBlk w b (.deferred none)) := by
  unfold Instr.takeDeferred
  simp only [Sem.run_bind, run_getObj h rfl, Result.andThen_ok, Sem.run_pure]
  rw [run_setObj h rfl]
  rfl

theorem leave_sound {fn : Func} {tmps : Array Value} {R : Ending → World → Prop} : ∀ (ms : List Nat) (H H1 : AH) (w : World) (ds : List Deferred), dropMarks H ms = some H1 → Sim e H w → MarksRel e H.next ms ds →
    (∀ w1, Ext e H w e H1 w1 → Sim e H1 w1 → LeavesInM Fence.wide 0 P fn tmps R [] .returning w1) → LeavesInM Fence.wide 0 P fn tmps R ds .returning w
  | [], H, H1, w, ds, h, hS, hM, hK => by
      simp only [dropMarks, Option.some.injEq] at h
      subst h
      have : ds = [] := hM.1
      subst this
      exact hK w (Ext.refl _ _ _) hS
  | m :: ms, H, H1, w, ds, h, hS, hM, hK => by
      simp only [dropMarks] at h
      split at h
      · rename_i hg
        obtain ⟨hd, hlt⟩ := hM
        subst hd
        have ho : w.heap[e.blk m]? = some (.deferred (some [])) := hS.obj m _ hg
        have hb := (Array.getElem?_eq_some_iff.1 ho).1
        obtain ⟨z1, z2⟩ := sim_write hS hg rfl (o' := .dead) (w' := putBlk w (e.blk m) (.deferred none)) (by simp [putBlk])
          (fun b hb => by simp [putBlk, Array.getElem?_setIfInBounds_ne (Ne.symm hb)]) rfl rfl rfl trivial (fun h => by simp [AObj.lv] at h)
        refine ⟨by simp, .inl ⟨e.blk m, _, rfl, run_takeDeferred' ho, ?_⟩⟩
        exact leave_sound ms _ H1 _ _ h z1 ⟨rfl, fun r hr => hlt r (List.mem_cons_of_mem _ hr)⟩ fun w1 k1 k2 => hK w1 (z2.trans k1) k2
      · simp at h

theorem run_callFunc' {f : FuncId} {fn : Func} {c : Code} (hf : P.funcs[f]? = some fn) (hb : fn.body = some c) (hn : (fn.name == "runtime.NumGoroutine") = false) (as : Array Value) (w : World) :
    (callFunc f as).run P w = .ok (.enter f as) w := by
  simp [callFunc, go_sem, hf, hb]
  intro h
  rw [h] at hn
  simp at hn

/-- What is known of calls beforehand holds. -/
def ExtOk (P : Program) (gl : Gl) : Prop := CallOk P gl ⟨fun _ _ _ _ => none, gl.ext, fun _ _ _ => none⟩

theorem callC_sound' (hmix : P.follows .mixedOrders = true) {n : Nat} (hn : LevelOk P gl n) {f : FuncId} {args : List AV} {H : AH} {v : AV} {H' : AH} (h : callC P gl (level P gl n) f args H = some (v, H')) {e : Emb} {w : World} (hS : Sim e H w) (hG : GlOk gl e H.next) (hi : AV.idsL e (· < H.next) args) :
    (∀ (as : Array Value) w, (callFunc f as).run P w = .ok (.enter f as) w) ∧ CallsIn Fence.wide 0 P f ⟨concL e args⟩ w (Back e H w v H') := by
  unfold callC at h
  split at h
  · rename_i fn hf
    split at h
    · rename_i c hb
      obtain ⟨h1, h⟩ := bif_some h
      simp only [Bool.and_eq_true, Bool.not_eq_true'] at h1
      obtain ⟨⟨hle, hlt⟩, hname⟩ := h1
      have hle := Nat.le_of_ble_eq_true hle
      have hlt : fn.ntmps < 4096 := Nat.le_of_ble_eq_true hlt
      refine ⟨fun as w => run_callFunc' hf hb hname as w, ?_⟩
      have key : ∀ x s, execC P gl (level P gl n) none f c ⟨(Tm.blank undefA 12 fn.ntmps).setL 0 args, [], H⟩ = some (x, s) → (x = .normal ∨ x = .ret) → leaveA P fn s = some (v, H') →
          CallsIn Fence.wide 0 P f ⟨concL e args⟩ w (Back e H w v H') := by
        intro x s hx hxx hlv
        have hE := execC_sound hmix c n hn none f _ x s hx
        refine callsIn_of_wp_marks hf hb trivial (hE e _ w hS hG (entry_env hlt hle hi) ⟨rfl, fun r hr => by cases hr⟩ (fun l hl => by cases hl) _ fun e1 a1 w1 k1 k2 k3 k4 => ?_)
        have hfin : LeavesInM Fence.wide 0 P fn a1.tmps (Back e H w v H') a1.defers .returning w1 := by
          unfold leaveA at hlv
          split at hlv
          · rename_i H1 hdm
            refine leave_sound s.marks s.h H1 w1 a1.defers hdm k2 k4 fun w2 m1 m2 => ?_
            have hfin2 : ∀ vs, resultsA P s.env H1 fn.results.toList = some vs → some (packA vs, H1) = some (v, H') → LeavesInM Fence.wide 0 P fn a1.tmps (Back e H w v H') [] .returning w2 := by
              intro vs hvs heq
              simp only [Option.some.injEq, Prod.mk.injEq] at heq
              obtain ⟨rfl, rfl⟩ := heq
              obtain ⟨r1, r2⟩ := results_sound (k3.ext m1) m2 hvs
              exact ⟨_, r1, ⟨e1, rfl, k1.trans m1, m2, r2⟩⟩
            split at hlv
            · rename_i u hu
              exact hfin2 [u] hu hlv
            · rename_i vs hvs hne
              refine hfin2 vs hne ?_
              rw [← hlv]
              rcases vs with _ | ⟨u, _ | ⟨u2, us⟩⟩
              · rfl
              · exact absurd rfl (hvs u)
              · rfl
            · simp at hlv
          · simp at hlv
        rcases hxx with rfl | rfl
        · exact hfin
        · exact hfin
      split at h
      · rename_i s hx
        exact key _ s hx (.inl rfl) h
      · rename_i s hx
        exact key _ s hx (.inr rfl) h
      · simp at h
    · simp at h
  · simp at h

theorem run_beginRound' {b : Nat} {o : Loop} (h : w.heap[b]? = some (.loop o)) (hs : o.state = .ready) :
    (Instr.beginRound b).run P w = .ok () (putBlk w b (.loop { o with state := .busy })) := by
  unfold Instr.beginRound
  simp only [Sem.run_bind, run_getLoop' h, Result.andThen_ok, hs]
  rw [run_setObj h rfl]
  rfl
theorem run_endRound' {b : Nat} {o : Loop} (h : w.heap[b]? = some (.loop o)) (j : Option Code) :
    (Instr.endRound b j).run P w = .ok (.bool j.isNone) (putBlk w b (.loop { o with state := if j.isNone then .ready else .done, pending := j })) := by
  unfold Instr.endRound
  simp only [Sem.run_bind, run_getLoop' h, Result.andThen_ok, Sem.run_pure]
  rw [run_setObj h rfl]
  rfl
theorem run_yield' {b : Nat} {o : Loop} (h : w.heap[b]? = some (.loop o)) {as : Array Value} (ha : as.size = o.params.size) :
    (Instr.yield b as).run P w = .ok (.round b o.fn ((o.params.zip as).foldl (fun tmps (t, a) => tmps.setIfInBounds t a) o.tmps) o.assign o.body) w := by
  unfold Instr.yield
  simp only [Sem.run_bind, run_getLoop' h, Result.andThen_ok, ha]
  simp

theorem zip_env : ∀ (ps : List Tmp) (args : List AV) (env : Tm AV) (tmps : Array Value), EnvRel e M env tmps → AV.idsL e M args →
    EnvRel e M ((ps.zip args).foldl (fun e x => e.set x.1 x.2) env) ((ps.zip (concL e args)).foldl (fun tmps (t, a) => tmps.setIfInBounds t a) tmps)
  | [], _, env, tmps, h, _ => by simpa using h
  | _ :: _, [], env, tmps, h, _ => by simpa [concL] using h
  | p :: ps, v :: args, env, tmps, h, hi => by
      simp only [concL, List.zip_cons_cons, List.foldl_cons]
      exact zip_env ps args _ _ (h.set p v hi.1) hi.2

theorem callC_sound (hmix : P.follows .mixedOrders = true) (hext : ExtOk P gl) {n : Nat} (hn : LevelOk P gl n) : CallOk P gl (level P gl (n + 1)) := by
  intro f args H v H' h e w hS hG hi
  have h : (match gl.ext f args H with | some y => some y | none => callC P gl (level P gl n) f args H) = some (v, H') := h
  cases hx : gl.ext f args H with
  | some y => rw [hx] at h; cases h; exact hext f args H v H' hx e w hS hG hi
  | none => rw [hx] at h; exact callC_sound' hmix hn h hS hG hi

theorem roundC_sound (hmix : P.follows .mixedOrders = true) {n : Nat} (hn : LevelOk P gl n) : RoundOk P gl (level P gl (n + 1)) := by
  intro l args H v H' h e w hS hG hi
  have h : roundC P gl (level P gl n) l args H = some (v, H') := h
  unfold roundC at h
  split at h
  · rename_i pend0 f env ps assign body d hg
    obtain ⟨hlen, h⟩ := bif_some h
    have hlen := Nat.eq_of_beq_eq_true hlen
    have hl := hS.lt l _ hg
    obtain ⟨f1, tmps1, k1, k2, k3⟩ := hS.obj l _ hg
    split at h
    · rename_i s1 hx1
      split at h
      · rename_i pend1 f' env' ps' as' bd' d' hg1
        split at h
        · rename_i x s2 hx2
          split at h
          · rename_i st2 pend2 f'' env'' ps'' as'' bd'' d'' hmk hg2
            refine ⟨f1, _, assign, body, run_yield' k1 (by simp [concL_length, hlen]), ?_⟩
            refine roundIn_of_wpIn trivial ?_
            have hE1 := execC_sound hmix assign n hn (some l) f _ .normal s1 hx1
            have hz := zip_env ps args env tmps1 k2 hi
            refine hE1 e { tmps := _, defers := [] } w hS hG (by
              have : (⟨ps⟩ : Array Tmp).zip ⟨concL e args⟩ = ⟨ps.zip (concL e args)⟩ := by simp
              rw [this]
              simpa using hz) ⟨rfl, fun r hr => by cases hr⟩ (fun l' hl' => by cases hl'; exact hl) _ fun e1 a1 w1 m1 m2 m3 m4 => ?_
            have hb1 : e1.blk l = e.blk l := (m1.agree l hl).1
            obtain ⟨f2, tmps2, j1, j2, j3⟩ := m2.obj l _ hg1
            rw [hb1] at j1
            obtain ⟨z1, z2⟩ := sim_write m2 hg1 rfl (o' := .loop .busy pend1 f' env' ps' as' bd' d') (w' := putBlk w1 (e.blk l) (.loop { state := .busy, pending := pend1, fn := f2, tmps := tmps2, params := ⟨ps'⟩, assign := as', body := bd', defers := e1.blk d' }))
              (by simp [putBlk]) (fun b hb => by rw [hb1] at hb; simp [putBlk, Array.getElem?_setIfInBounds_ne (Ne.symm hb)]) rfl rfl rfl
              ⟨f2, tmps2, by
                have := (Array.getElem?_eq_some_iff.1 j1).1
                rw [hb1]
                simp [putBlk, this], j2, j3⟩ (fun _ => rfl)
            refine ⟨_, run_beginRound' j1 rfl, ?_⟩
            have hF : F0 e1 (some l) = F0 e (some l) := F0_congr m1.agree (fun l' hl' => by cases hl'; exact hl)
            have hE2 := execC_sound hmix body n hn (some l) f' _ x s2 hx2
            have hl1 : l < (s1.h.set l (.loop .busy pend1 f' env' ps' as' bd' d')).next := Nat.lt_of_lt_of_le hl m1.next
            have := hE2 e1 a1 _ z1 ((hG.ext m1).ext z2) (m3.ext z2) (m4.congr z2.agree z2.next) (fun l' hl' => by cases hl'; exact hl1) (roundPost P (e.blk l) (Back e H w v H')) fun e2 a2 w2 p1 p2 p3 p4 => ?_
            · rw [hF] at this; exact this
            · have hb2 : e2.blk l = e.blk l := ((p1.agree l hl1).1).trans hb1
              obtain ⟨f3, tmps3, q1, q2, q3⟩ := p2.obj l _ hg2
              rw [hb2] at q1
              have hl2 : l < s2.h.next := p2.lt l _ hg2
              have fin : ∀ (st : LoopState) (j : Option Code), st = (if j.isNone then .ready else .done) → (v, H') = (AV.bool j.isNone, s2.h.set l (.loop st j f'' env'' ps'' as'' bd'' d'')) →
                  ∃ v' w', (Instr.endRound (e.blk l) j).run P w2 = .ok v' w' ∧ Back e H w v H' (.returned v') w' := by
                intro st j hst hv
                simp only [Prod.mk.injEq] at hv
                obtain ⟨rfl, rfl⟩ := hv
                refine ⟨_, _, run_endRound' q1 j, e2, by simp [conc], ?_⟩
                obtain ⟨y1, y2⟩ := sim_write p2 hg2 rfl (o' := .loop st j f'' env'' ps'' as'' bd'' d'') (w' := putBlk w2 (e.blk l) (.loop { state := if j.isNone then .ready else .done, pending := j, fn := f3, tmps := tmps3, params := ⟨ps''⟩, assign := as'', body := bd'', defers := e2.blk d'' }))
                  (by simp [putBlk]) (fun b hb => by rw [hb2] at hb; simp [putBlk, Array.getElem?_setIfInBounds_ne (Ne.symm hb)]) rfl rfl rfl
                  ⟨f3, tmps3, by
                    have := (Array.getElem?_eq_some_iff.1 q1).1
                    rw [hb2]
                    simp [putBlk, this, hst], q2, q3⟩ (fun _ => rfl)
                exact ⟨((m1.trans z2).trans p1).trans y2, y1, trivial⟩
              cases x with
              | normal =>
                simp only [Option.some.injEq] at h
                exact fin .ready none rfl h.symm
              | exit id =>
                simp only [Option.some.injEq] at h
                exact fin .done (some (.exit id)) rfl h.symm
              | ret =>
                simp only [Option.some.injEq] at h
                exact fin .done (some .ret) rfl h.symm
          · simp at h
        · simp at h
      · simp at h
    · simp at h
  · simp at h

/-- **Every level.** -/
theorem level_ok (hmix : P.follows .mixedOrders = true) (hext : ExtOk P gl) : ∀ n, LevelOk P gl n := by
  intro n
  induction n with
  | zero =>
    intro m hm
    have : m = 0 := by omega
    subst this
    exact ⟨fun f args H v H' h => by simp [level] at h, fun l args H v H' h => by simp [level] at h⟩
  | succ n ih =>
    intro m hm
    by_cases hmn : m ≤ n
    · exact ih m hmn
    · have : m = n + 1 := by omega
      subst this
      exact ⟨callC_sound hmix hext ih, roundC_sound hmix ih⟩

end
end Ai
end Go.Proofs.YtipgfljojhdhjaaGreatDoor

namespace Go.Proofs.YtipgfljojhdhjaaGreatDoor
namespace Ai
open Go.RowKit

section
variable {P : Program} {gl : Gl} {e : Emb} {H H' : AH} {w w' : World}

/-- **A call.** -/
theorem call_sound (hmix : P.follows .mixedOrders = true) (hext : ExtOk P gl) {n : Nat} {f : FuncId} {args : List AV} {v : AV} (h : (level P gl n).call f args H = some (v, H')) (hS : Sim e H w) (hG : GlOk gl e H.next) (hi : AV.idsL e (· < H.next) args) :
    Calls P f ⟨concL e args⟩ w (Back e H w v H') :=
  callsIn_wide.1 (((level_ok hmix hext n n (Nat.le_refl _)).1 f args H v H' h e w hS hG hi).2)

/-- A memory of which nothing is known. -/
def E0 : Emb := ⟨fun _ => 0, fun _ => 0, fun _ => 0⟩
theorem get_H0 (r : Nat) : H0.get r = none := by
  unfold AH.get H0
  cases r <;> simp [Tm.get]
theorem sim_H0 (w : World) : Sim E0 H0 w :=
  ⟨(fun r o h => by rw [get_H0] at h; cases h), (fun r o h => by rw [get_H0] at h; cases h), (fun r s o p h => by rw [get_H0] at h; cases h)⟩

/-- Where nothing could be written, what was there stands. -/
theorem Ext.below {e' : Emb} (h : Ext e H w e' H' w') (hn : ∀ r o, H.get r = some o → o.wr = false) : Below w.heap.size w w' :=
  ⟨h.os, h.tape, h.output, h.size, fun k hk => h.frame k hk fun r o hg hw => by rw [hn r o hg] at hw; cases hw⟩

/-- Nothing is known beforehand. -/
def noExt (g : Nat → Option Nat) : Gl := ⟨g, fun _ _ _ => none⟩
theorem noExt_ok (g : Nat → Option Nat) : ExtOk P (noExt g) := fun f args H v H' h => by simp [noExt] at h

/-- **What a closed call gives, known beforehand**: reckoned at a memory of cells that may not be written (H0); it holds wherever they lie. -/
theorem closed_ext (hmix : P.follows .mixedOrders = true) {g : Nat → Option Nat} {n : Nat} {f : FuncId} {b : Bool} {K K' : AH} (h : (level P (noExt g) n).call f [] K = some (.bool b, K')) (hro : ∀ r o, K.get r = some o → r < K.next ∧ ∃ c, o = .cells c true 0 ∧ ∀ v ∈ c, ∃ k m, v = .int k m)
    (hg : ∀ k r, g k = some r → gl k = some r) {e : Emb} {H : AH} {w : World} (hK : ∀ r o, K.get r = some o → H.get r = some o) (hn : K.next ≤ H.next) (hgl : ∀ k r, g k = some r → r < K.next) (hS : Sim e H w) (hG : GlOk gl e H.next) :
    (∀ (as : Array Value) w, (callFunc f as).run P w = .ok (.enter f as) w) ∧ CallsIn Fence.wide 0 P f #[] w (Back e H w (.bool b) H) := by
  have hS0 : Sim e K w := by
    refine ⟨fun r o h => (hro r o h).1, fun r o h => ?_, fun r s o p h1 h2 => hS.inj r s o p (hK r o h1) (hK s p h2)⟩
    obtain ⟨_, c, rfl, hc⟩ := hro r o h
    obtain ⟨cs, T, lo, hi, h1, h2, h3, h4⟩ := hS.obj r _ (hK r _ h)
    refine ⟨cs, T, lo, hi, h1, h2, fun v hv => ⟨?_, (h3 v hv).2⟩, h4⟩
    obtain ⟨k, m, rfl⟩ := hc v hv
    trivial
  have hG0 : GlOk (noExt g) e K.next := by
    intro k r hk
    obtain ⟨h1, h2⟩ := hG k r (hg k r hk)
    exact ⟨hgl k r hk, h2⟩
  obtain ⟨h1, h2⟩ := (level_ok hmix (noExt_ok g) n n (Nat.le_refl _)).1 f [] K _ K' h e w hS0 hG0 trivial
  refine ⟨h1, h2.mono fun en w' hb => ?_⟩
  obtain ⟨e', rfl, hx, _, _⟩ := hb
  have hfr : ∀ k, k < w.heap.size → w'.heap[k]? = w.heap[k]? := fun k hk => hx.frame k hk fun r o hg hw => by obtain ⟨_, c, rfl, _⟩ := hro r o hg; cases hw
  have hlt : ∀ r o, H.get r = some o → o.lv = true → e.blk r < w.heap.size := fun r o hg hl => (hS.obj r o hg).blk_lt hl
  refine ⟨e, by simp [conc], ⟨(fun r hr => ⟨rfl, rfl, rfl⟩), Nat.le_refl _, hx.os, hx.tape, hx.output, hx.size, fun k hk _ => hfr k hk, fun r o hg hl _ => ⟨r, o, hg, hl, fun h => h, rfl⟩⟩, ?_, trivial⟩
  exact sim_frame hS ((fun r hr => ⟨rfl, rfl, rfl⟩)) fun q o hg hl => hfr _ (hlt q o hg hl)

end
end Ai
end Go.Proofs.YtipgfljojhdhjaaGreatDoor

namespace Go.Proofs.YtipgfljojhdhjaaGreatDoor
namespace Ai

section
variable {P : Program} {gl : Gl} {r r' : Rec}

structure RLe (r r' : Rec) : Prop where
  ex : ∀ ro f c s y, r.ex ro f c s = some y → r'.ex ro f c s = some y
  call : ∀ f args H y, r.call f args H = some y → r'.call f args H = some y
  round : ∀ l args H y, r.round l args H = some y → r'.round l args H = some y

theorem aheavy_mono (h : RLe r r') {H : AH} {env : Tm AV} {op : Op} {y : AV × AH} (hy : aheavy P r gl H env op = some y) : aheavy P r' gl H env op = some y := by
  cases op
  case call c =>
    obtain ⟨callee, args, ats⟩ := c
    cases callee with
    | value f =>
      simp only [aheavy] at hy ⊢
      cases ha : avals gl env args.toList with
      | none => rw [ha] at hy; cases hy
      | some vs =>
        rw [ha] at hy
        simp only at hy ⊢
        cases hf : aval gl env f with
        | none => rw [hf] at hy; cases hy
        | some fv =>
          rw [hf] at hy
          cases fv with
          | func g first captured =>
            simp only at hy ⊢
            cases hx : extFn P g with
            | none => rw [hx] at hy; exact h.call _ _ _ _ hy
            | some fn => rw [hx] at hy; exact hy
          | yld l => exact h.round _ _ _ _ hy
          | _ => cases hy
    | builtin b => exact hy
    | invoke x m => exact hy
  all_goals exact hy

theorem aop_mono (h : RLe r r') {H : AH} {env : Tm AV} {op : Op} {y : AV × AH} (hy : aop P r gl H env op = some y) : aop P r' gl H env op = some y := by
  unfold aop at hy ⊢
  split
  · rename_i hc; rw [hc] at hy; exact hy
  · rename_i hc; rw [hc] at hy; exact hy
  · rename_i h0 h1
    split at hy
    · rename_i hc; exact absurd hc h0
    · rename_i hc; exact absurd hc h1
    · exact aheavy_mono h hy

theorem runOps_mono (h : RLe r r') {ops : Array Oper} : ∀ {l : List Oper} {env : Tm AV} {H : AH} {y : Tm AV × AH}, runOps P r gl ops l env H = some y → runOps P r' gl ops l env H = some y
  | [], env, H, y, hy => hy
  | o :: l, env, H, y, hy => by
      simp only [runOps] at hy ⊢
      cases hw : awanted ops env o with
      | true =>
        rw [hw] at hy
        simp only [cond_true] at hy ⊢
        split at hy
        · rename_i v H1 h1
          rw [aop_mono h h1]
          exact runOps_mono h hy
        · cases hy
      | false =>
        rw [hw] at hy
        simp only [cond_false] at hy ⊢
        exact runOps_mono h hy

theorem drawStep_mono (h : RLe r r') {ops : Array Oper} {all : List Item} {x : Item} {s s' : DS} (hy : drawStep P r gl ops all x s = some s') : drawStep P r' gl ops all x s = some s' := by
  unfold drawStep at hy ⊢
  cases hw : awanted ops s.env x.o with
  | false => rw [hw] at hy; exact hy
  | true =>
    rw [hw] at hy
    simp only [cond_true] at hy ⊢
    cases h0 : Nat.beq (cls P x.o.op) 0 with
    | true => rw [h0] at hy; exact hy
    | false =>
      rw [h0] at hy
      simp only [cond_false] at hy ⊢
      cases hc : isChain P all x with
      | true =>
        rw [hc] at hy
        simp only [cond_true] at hy ⊢
        split at hy
        · rename_i v H1 h1
          rw [aop_mono h h1]
          exact hy
        · cases hy
      | false => rw [hc] at hy; exact hy

theorem runDraw_mono (h : RLe r r') {ops : Array Oper} {all : List Item} : ∀ {l : List Item} {s s' : DS}, runDraw P r gl ops all l s = some s' → runDraw P r' gl ops all l s = some s'
  | [], s, s', hy => hy
  | x :: l, s, s', hy => by
      simp only [runDraw] at hy ⊢
      split at hy
      · rename_i s1 h1
        rw [drawStep_mono h h1]
        exact runDraw_mono h hy
      · cases hy

theorem execC_mono (h : RLe r r') {ro : Option Nat} {f : FuncId} : ∀ (c : Code) {s : St} {y : AX × St}, execC P gl r ro f c s = some y → execC P gl r' ro f c s = some y := by
  intro c
  induction c with
  | seq a b iha ihb =>
    intro s y hy
    simp only [execC] at hy ⊢
    split at hy
    · rename_i s1 h1
      rw [iha h1]
      exact ihb hy
    · rename_i hne
      cases hx : execC P gl r ro f a s with
      | none => rw [hx] at hy; cases hy
      | some z =>
        rw [hx] at hy
        rw [iha hx]
        obtain ⟨x, s1⟩ := z
        cases x with
        | normal => exact absurd hx (hne s1)
        | exit i => exact hy
        | ret => exact hy
  | cond c a b iha ihb =>
    intro s y hy
    simp only [execC] at hy ⊢
    split at hy
    · exact iha hy
    · exact ihb hy
    · cases hy
  | block id b ih =>
    intro s y hy
    simp only [execC] at hy ⊢
    cases hx : execC P gl r ro f b s with
    | none => rw [hx] at hy; cases hy
    | some z => rw [hx] at hy; rw [ih hx]; exact hy
  | loop b ih =>
    intro s y hy
    simp only [execC] at hy ⊢
    split at hy
    · rename_i s1 h1
      rw [ih h1]
      exact h.ex _ _ _ _ _ hy
    · rename_i hne
      cases hx : execC P gl r ro f b s with
      | none => rw [hx] at hy; cases hy
      | some z =>
        rw [hx] at hy
        rw [ih hx]
        obtain ⟨x, s1⟩ := z
        cases x with
        | normal => exact absurd hx (hne s1)
        | exit i => exact hy
        | ret => exact hy
  | region id ops draw =>
    intro s y hy
    cases draw with
    | false =>
      simp only [execC] at hy ⊢
      split at hy
      · rename_i env H hr
        rw [runOps_mono h hr]
        exact hy
      · cases hy
    | true =>
      simp only [execC] at hy ⊢
      obtain ⟨hd, hy⟩ := bif_some hy
      rw [hd]
      simp only [cond_true]
      split at hy
      · rename_i d hr
        rw [runDraw_mono h hr]
        exact hy
      · cases hy
  | rangeFunc g ps assign body _ _ =>
    intro s y hy
    simp only [execC] at hy ⊢
    split at hy
    · cases hy
    · rename_i fv hfv
      try rw [hfv]
      try simp only
      split at hy
      · cases hy
      · rename_i d mk H1 hent
        try rw [hent]
        try simp only
        split at hy
        · cases hy
        · rename_i v H2 hcall
          split at hcall
          · rw [h.call _ _ _ _ hcall]
            exact hy
          · cases hcall
  | _ =>
    intro s y hy
    simpa [execC] using hy

theorem callC_mono (h : RLe r r') {f : FuncId} {args : List AV} {H : AH} {y : AV × AH} (hy : callC P gl r f args H = some y) : callC P gl r' f args H = some y := by
  unfold callC at hy ⊢
  split at hy
  · rename_i fn hf
    split at hy
    · rename_i c hb
      obtain ⟨h1, hy⟩ := bif_some hy
      try rw [hb]
      try simp only
      rw [h1]
      simp only [cond_true]
      split at hy
      · rename_i s hx; rw [execC_mono h c hx]; exact hy
      · rename_i s hx; rw [execC_mono h c hx]; exact hy
      · cases hy
    · cases hy
  · cases hy

theorem roundC_mono (h : RLe r r') {l : Nat} {args : List AV} {H : AH} {y : AV × AH} (hy : roundC P gl r l args H = some y) : roundC P gl r' l args H = some y := by
  unfold roundC at hy ⊢
  split at hy
  · rename_i pend0 f env ps assign body d hg
    try rw [hg]
    try simp only
    obtain ⟨h1, hy⟩ := bif_some hy
    rw [h1]
    simp only [cond_true]
    split at hy
    · rename_i s1 hx1
      rw [execC_mono h assign hx1]
      simp only
      split at hy
      · rename_i pend1 f' env' ps' as' bd' d' hg1
        try rw [hg1]
        try simp only
        split at hy
        · rename_i x s2 hx2
          rw [execC_mono h body hx2]
          exact hy
        · cases hy
      · cases hy
    · cases hy
  · cases hy

theorem level_succ : ∀ n, RLe (level P gl n) (level P gl (n + 1))
  | 0 => ⟨(fun _ _ _ _ _ h => by cases h), (fun _ _ _ _ h => by cases h), (fun _ _ _ _ h => by cases h)⟩
  | n + 1 => ⟨fun _ _ c _ _ h => execC_mono (level_succ n) c h, (fun f args H y h => by
      have h : (match gl.ext f args H with | some y => some y | none => callC P gl (level P gl n) f args H) = some y := h
      show (match gl.ext f args H with | some y => some y | none => callC P gl (level P gl (n + 1)) f args H) = some y
      cases hx : gl.ext f args H with
      | some z => rw [hx] at h; exact h
      | none => rw [hx] at h; exact callC_mono (level_succ n) h), fun _ _ _ _ h => roundC_mono (level_succ n) h⟩

theorem RLe.trans {r'' : Rec} (h : RLe r r') (k : RLe r' r'') : RLe r r'' :=
  ⟨fun _ _ _ _ _ x => k.ex _ _ _ _ _ (h.ex _ _ _ _ _ x), fun _ _ _ _ x => k.call _ _ _ _ (h.call _ _ _ _ x), fun _ _ _ _ x => k.round _ _ _ _ (h.round _ _ _ _ x)⟩

theorem level_le {n m : Nat} (h : n ≤ m) : RLe (level P gl n) (level P gl m) := by
  induction m with
  | zero => have : n = 0 := by omega
            subst this; exact ⟨fun _ _ _ _ _ h => h, fun _ _ _ _ h => h, fun _ _ _ _ h => h⟩
  | succ m ih =>
    by_cases hn : n = m + 1
    · subst hn; exact ⟨fun _ _ _ _ _ h => h, fun _ _ _ _ h => h, fun _ _ _ _ h => h⟩
    · exact (ih (by omega)).trans (level_succ m)

end
end Ai
end Go.Proofs.YtipgfljojhdhjaaGreatDoor

namespace Go.Proofs.YtipgfljojhdhjaaGreatDoor
namespace Ai

section
variable {P : Program} {gl : Gl}

def Runs (P : Program) (gl : Gl) (ro : Option Nat) (f : FuncId) (c : Code) (s : St) (x : AX) (s' : St) : Prop := ∃ n, execC P gl (level P gl n) ro f c s = some (x, s')
def CallsTo (P : Program) (gl : Gl) (f : FuncId) (args : List AV) (H : AH) (v : AV) (H' : AH) : Prop := ∃ n, (level P gl n).call f args H = some (v, H')
def RoundsTo (P : Program) (gl : Gl) (l : Nat) (args : List AV) (H : AH) (v : AV) (H' : AH) : Prop := ∃ n, (level P gl n).round l args H = some (v, H')
def OpsTo (P : Program) (gl : Gl) (ops : Array Oper) (l : List Oper) (env : Tm AV) (H : AH) (env' : Tm AV) (H' : AH) : Prop := ∃ n, runOps P (level P gl n) gl ops l env H = some (env', H')

variable {ro : Option Nat} {f : FuncId} {s s1 s2 : St} {x : AX} {a b : Code}

theorem Runs.skip : Runs P gl ro f .skip s .normal s := ⟨0, rfl⟩
theorem Runs.ret : Runs P gl ro f .ret s .ret s := ⟨0, rfl⟩
theorem Runs.exit {id : Nat} : Runs P gl ro f (.exit id) s (.exit id) s := ⟨0, rfl⟩
theorem Runs.seq (h1 : Runs P gl ro f a s .normal s1) (h2 : Runs P gl ro f b s1 x s2) : Runs P gl ro f (.seq a b) s x s2 := by
  obtain ⟨n, h1⟩ := h1
  obtain ⟨m, h2⟩ := h2
  refine ⟨max n m, ?_⟩
  simp only [execC]
  rw [execC_mono (level_le (Nat.le_max_left n m)) a h1]
  exact execC_mono (level_le (Nat.le_max_right n m)) b h2
theorem Runs.seq_stop (h1 : Runs P gl ro f a s x s1) (hx : x ≠ .normal) : Runs P gl ro f (.seq a b) s x s1 := by
  obtain ⟨n, h1⟩ := h1
  refine ⟨n, ?_⟩
  simp only [execC]
  rw [h1]
  cases x with
  | normal => exact absurd rfl hx
  | exit i => rfl
  | ret => rfl
theorem Runs.cond_true {c : Operand} (hc : aval gl s.env c = some (.bool true)) (h : Runs P gl ro f a s x s1) : Runs P gl ro f (.cond c a b) s x s1 := by
  obtain ⟨n, h⟩ := h
  exact ⟨n, by simp only [execC]; rw [hc]; exact h⟩
theorem Runs.cond_false {c : Operand} (hc : aval gl s.env c = some (.bool false)) (h : Runs P gl ro f b s x s1) : Runs P gl ro f (.cond c a b) s x s1 := by
  obtain ⟨n, h⟩ := h
  exact ⟨n, by simp only [execC]; rw [hc]; exact h⟩
/-- How a block is left. -/
def AX.out (id : Nat) : AX → AX
  | .exit i => bif Nat.beq i id then .normal else .exit i
  | x => x
theorem Runs.block {id : Nat} (h : Runs P gl ro f b s x s1) : Runs P gl ro f (.block id b) s (x.out id) s1 := by
  obtain ⟨n, h⟩ := h
  refine ⟨n, ?_⟩
  simp only [execC]
  rw [h]
  cases x with
  | normal => rfl
  | ret => rfl
  | exit i => simp only [AX.out]; cases Nat.beq i id <;> rfl
theorem Runs.loop (h1 : Runs P gl ro f b s .normal s1) (h2 : Runs P gl ro f (.loop b) s1 x s2) : Runs P gl ro f (.loop b) s x s2 := by
  obtain ⟨n, h1⟩ := h1
  obtain ⟨m, h2⟩ := h2
  refine ⟨max n m + 1, ?_⟩
  simp only [execC]
  rw [execC_mono (level_le (Nat.le_succ_of_le (Nat.le_max_left n m))) b h1]
  exact execC_mono (level_le (Nat.le_max_right n m)) (.loop b) h2
theorem Runs.loop_stop (h1 : Runs P gl ro f b s x s1) (hx : x ≠ .normal) : Runs P gl ro f (.loop b) s x s1 := by
  obtain ⟨n, h1⟩ := h1
  refine ⟨n, ?_⟩
  simp only [execC]
  rw [h1]
  cases x with
  | normal => exact absurd rfl hx
  | exit i => rfl
  | ret => rfl
theorem Runs.region {id : Nat} {ops : Array Oper} {env' : Tm AV} {H' : AH} (h : OpsTo P gl ops ops.toList s.env s.h env' H') : Runs P gl ro f (.region id ops false) s .normal ⟨env', s.marks, H'⟩ := by
  obtain ⟨n, h⟩ := h
  exact ⟨n, by simp only [execC]; rw [h]⟩

variable {ops : Array Oper} {o : Oper} {l : List Oper} {env env' : Tm AV} {H H1 H' : AH} {v : AV}
theorem OpsTo.nil : OpsTo P gl ops [] env H env H := ⟨0, rfl⟩
theorem OpsTo.skip (hw : awanted ops env o = false) (h : OpsTo P gl ops l (aput env o.dst undefA) H env' H') : OpsTo P gl ops (o :: l) env H env' H' := by
  obtain ⟨n, h⟩ := h
  exact ⟨n, by simp only [runOps]; rw [hw]; exact h⟩
/-- An operation that runs no code. -/
theorem OpsTo.step (hw : awanted ops env o = true) (ho : ∀ r, aop P r gl H env o.op = some (v, H1)) (h : OpsTo P gl ops l (aput env o.dst v) H1 env' H') : OpsTo P gl ops (o :: l) env H env' H' := by
  obtain ⟨n, h⟩ := h
  exact ⟨n, by simp only [runOps]; rw [hw, ho]; exact h⟩
/-- A call. -/
theorem OpsTo.call {g : Operand} {xs : Array Operand} {ats : Array TypeId} {k : FuncId} {first captured vs : List AV} (hw : awanted ops env o = true) (ho : o.op = .call ⟨.value g, xs, ats⟩) (hg : aval gl env g = some (.func k first captured))
    (hx : extFn P k = none) (hv : avals gl env xs.toList = some vs) (hc : CallsTo P gl k (first ++ vs ++ captured) H v H1) (h : OpsTo P gl ops l (aput env o.dst v) H1 env' H') : OpsTo P gl ops (o :: l) env H env' H' := by
  obtain ⟨n, h⟩ := h
  obtain ⟨m, hc⟩ := hc
  refine ⟨max n m, ?_⟩
  simp only [runOps]
  rw [hw]
  have hop : aop P (level P gl (max n m)) gl H env o.op = some (v, H1) := by
    rw [ho]
    simp only [aop, cls, aheavy]
    rw [hv, hg]
    simp only
    rw [hx]
    exact (level_le (Nat.le_max_right n m)).call _ _ _ _ hc
  rw [hop]
  exact runOps_mono (level_le (Nat.le_max_left n m)) h

/-- A function, from its body. -/
theorem CallsTo.ext {args : List AV} (h : gl.ext f args H = some (v, H')) : CallsTo P gl f args H v H' :=
  ⟨1, by show (match gl.ext f args H with | some y => some y | none => callC P gl (level P gl 0) f args H) = some (v, H'); rw [h]⟩
theorem CallsTo.of {fn : Func} {c : Code} {args : List AV} (hext : gl.ext f args H = none) (hf : P.funcs[f]? = some fn) (hb : fn.body = some c) (hn : (Nat.ble args.length fn.ntmps && Nat.blt fn.ntmps 4096 && !(fn.name == "runtime.NumGoroutine")) = true)
    (h : Runs P gl none f c ⟨(Tm.blank undefA 12 fn.ntmps).setL 0 args, [], H⟩ x s1) (hx : x = .normal ∨ x = .ret) (hl : leaveA P fn s1 = some (v, H')) : CallsTo P gl f args H v H' := by
  obtain ⟨n, h⟩ := h
  refine ⟨n + 1, ?_⟩
  show (match gl.ext f args H with | some y => some y | none => callC P gl (level P gl n) f args H) = some (v, H')
  rw [hext]
  show callC P gl (level P gl n) f args H = some (v, H')
  unfold callC
  rw [hf]
  simp only
  rw [hb]
  simp only
  rw [hn]
  simp only [cond_true]
  rw [h]
  rcases hx with rfl | rfl <;> exact hl

end
end Ai
end Go.Proofs.YtipgfljojhdhjaaGreatDoor

namespace Go.Proofs.YtipgfljojhdhjaaGreatDoor
namespace Ai

namespace Tm
variable {α : Type}
def ofFn : (Nat → α) → Nat → Nat → Tm α
  | _, 0, _ => .lf
  | F, d + 1, n => bif Nat.beq n 0 then .lf else .nd (F 0) (ofFn (fun k => F (2 * k + 1)) d (n / 2)) (ofFn (fun k => F (2 * k + 2)) d ((n - 1) / 2))

theorem blank_eq (x : α) : ∀ d n, blank x d n = ofFn (fun _ => x) d n
  | 0, _ => rfl
  | d + 1, n => by simp only [blank, ofFn]; rw [blank_eq x d, blank_eq x d]

theorem set_ofFn (x : α) : ∀ (d n k : Nat) (F : Nat → α), (ofFn F d n).set k x = ofFn (fun j => bif Nat.beq j k then x else F j) d n
  | 0, _, _, _ => rfl
  | d + 1, n, k, F => by
      simp only [ofFn]
      cases hn : Nat.beq n 0 with
      | true => rfl
      | false =>
        simp only [cond_false]
        cases k with
        | zero => simp only [set]; rfl
        | succ k =>
          simp only [set]
          cases hk : Nat.beq (k % 2) 0 with
          | true =>
            have h2 : k % 2 = 0 := by simpa using hk
            simp only [cond_true]
            rw [set_ofFn x d]
            congr 1
            · congr 1; funext j
              have : Nat.beq j (k / 2) = Nat.beq (2 * j + 1) (k + 1) := by
                rw [Bool.eq_iff_iff]; simp; omega
              rw [this]
            · congr 1; funext j
              have : Nat.beq (2 * j + 2) (k + 1) = false := by
                rw [← Bool.not_eq_true]; simp; omega
              rw [this]; rfl
          | false =>
            have h2 : k % 2 ≠ 0 := by intro h; rw [h] at hk; cases hk
            simp only [cond_false]
            rw [set_ofFn x d]
            congr 1
            · congr 1; funext j
              have : Nat.beq (2 * j + 1) (k + 1) = false := by
                rw [← Bool.not_eq_true]; simp; omega
              rw [this]; rfl
            · congr 1; funext j
              have : Nat.beq j (k / 2) = Nat.beq (2 * j + 2) (k + 1) := by
                rw [Bool.eq_iff_iff]; simp; omega
              rw [this]

theorem get_ofFn : ∀ (d n k : Nat) (F : Nat → α), n < 2 ^ d → (ofFn F d n).get k = if k < n then some (F k) else none
  | 0, n, k, F, h => by
      have : n = 0 := by simpa using h
      subst this; simp [ofFn, get]
  | d + 1, n, k, F, h => by
      simp only [ofFn]
      cases hn : Nat.beq n 0 with
      | true => have : n = 0 := by simpa using hn
                subst this; simp [get]
      | false =>
        have hn0 : n ≠ 0 := by intro h; rw [h] at hn; cases hn
        simp only [cond_false]
        have hp : 2 ^ (d + 1) = 2 * 2 ^ d := by rw [Nat.pow_succ]; omega
        cases k with
        | zero => simp [get]; omega
        | succ k =>
          simp only [get]
          cases hk : Nat.beq (k % 2) 0 with
          | true =>
            have h2 : k % 2 = 0 := by simpa using hk
            simp only [cond_true]
            rw [get_ofFn d _ _ _ (by omega)]
            have e1 : 2 * (k / 2) + 1 = k + 1 := by omega
            simp only [e1]
            by_cases hlt : k + 1 < n
            · rw [if_pos hlt, if_pos (by omega)]
            · rw [if_neg hlt, if_neg (by omega)]
          | false =>
            have h2 : k % 2 ≠ 0 := by intro h; rw [h] at hk; cases hk
            simp only [cond_false]
            rw [get_ofFn d _ _ _ (by omega)]
            have e1 : 2 * (k / 2) + 2 = k + 1 := by omega
            simp only [e1]
            by_cases hlt : k + 1 < n
            · rw [if_pos hlt, if_pos (by omega)]
            · rw [if_neg hlt, if_neg (by omega)]

theorem ofFn_congr : ∀ (d n : Nat) (F G : Nat → α), (∀ k, k < n → F k = G k) → ofFn F d n = ofFn G d n
  | 0, _, _, _, _ => rfl
  | d + 1, n, F, G, h => by
      simp only [ofFn]
      cases hn : Nat.beq n 0 with
      | true => rfl
      | false =>
        have hn0 : n ≠ 0 := by intro h; rw [h] at hn; cases hn
        simp only [cond_false]
        rw [h 0 (by omega), ofFn_congr d _ (fun k => F (2 * k + 1)) (fun k => G (2 * k + 1)) (fun k hk => h _ (by omega)), ofFn_congr d _ (fun k => F (2 * k + 2)) (fun k => G (2 * k + 2)) (fun k hk => h _ (by omega))]
end Tm

def pickJ (J : Nat → AV) : List (Nat × AV) → Nat → AV
  | [], k => J k
  | (i, v) :: l, k => bif Nat.beq i k then v else pickJ J l k
/-- n slots: some are named, the others are whatever J says. -/
def LV (n : Nat) (J : Nat → AV) (live : List (Nat × AV)) : Tm AV := Tm.ofFn (pickJ J live) 12 n
def junk (env : Tm AV) (k : Nat) : AV := (env.get k).getD undefA
def liveOf (env : Tm AV) (ks : List Nat) : List (Nat × AV) := ks.map fun k => (k, junk env k)
def Shaped (n : Nat) (env : Tm AV) : Prop := ∃ F, env = Tm.ofFn F 12 n

theorem pickJ_live (env : Tm AV) : ∀ ks k, pickJ (junk env) (liveOf env ks) k = junk env k
  | [], _ => rfl
  | i :: ks, k => by
      simp only [liveOf, List.map_cons, pickJ]
      cases h : Nat.beq i k with
      | true => have : i = k := by simpa using h
                rw [this]; rfl
      | false => exact pickJ_live env ks k

theorem Shaped.lv {n : Nat} {env : Tm AV} (h : Shaped n env) (hn : n < 4096) (ks : List Nat) : LV n (junk env) (liveOf env ks) = env := by
  obtain ⟨F, rfl⟩ := h
  unfold LV
  refine Tm.ofFn_congr _ _ _ _ fun k hk => ?_
  rw [pickJ_live]
  unfold junk
  rw [Tm.get_ofFn _ _ _ _ (by omega), if_pos hk]; rfl

theorem Shaped.of_lv {n : Nat} {J : Nat → AV} {l : List (Nat × AV)} : Shaped n (LV n J l) := ⟨_, rfl⟩
theorem Shaped.put {n : Nat} {env : Tm AV} (h : Shaped n env) (dst : Option Tmp) (v : AV) : Shaped n (aput env dst v) := by
  obtain ⟨F, rfl⟩ := h
  cases dst with
  | none => exact ⟨F, rfl⟩
  | some d => exact ⟨_, Tm.set_ofFn v 12 n d F⟩
theorem Shaped.setL {n : Nat} : ∀ (vs : List AV) (k : Nat) {env : Tm AV}, Shaped n env → Shaped n (env.setL k vs)
  | [], _, _, h => h
  | v :: vs, k, _, h => Shaped.setL vs (k + 1) (h.put (some k) v)
theorem Shaped.start (n : Nat) (args : List AV) : Shaped n ((Tm.blank undefA 12 n).setL 0 args) := Shaped.setL _ _ ⟨_, Tm.blank_eq _ _ _⟩

inductive Ans where
  | bit (b : Bool)                                   -- the Bool that is reckoned is b
  | int (z : Int)                                    -- the integer that is reckoned is z
  | eq (v : AV)                                      -- the value that is reckoned is v
  | mem (H : AH)                                     -- the memory that is reckoned is H
  | val (v : AV)                                     -- a light operation gives v
  | heap (v : AV) (H : AH)                           -- an operation that runs no code gives v, and this memory
  | load (c : List AV) (ro : Bool) (g : Nat) (v : AV)
  | store (c : List AV) (g : Nat) (c' : List AV) (H : AH)
  | at (p : Nat)                                     -- an element's place
  | byte (b : UInt8)
  | call (v : AV) (H : AH)
  | obj (o : AObj)
  | to (whole : Bool) (ks : List Nat) (x : AX) (live : List (Nat × AV)) (J : (Nat → AV) → Nat → AV) (marks : List Nat) (H : AH)

def AllP : List Prop → Prop
  | [] => True
  | p :: ps => p ∧ AllP ps
theorem AllP.app : ∀ {a b : List Prop}, AllP (a ++ b) → AllP a ∧ AllP b
  | [], _, h => ⟨trivial, h⟩
  | _ :: _, _, h => ⟨⟨h.1, (AllP.app h.2).1⟩, (AllP.app h.2).2⟩

structure PSt where
  env : Tm AV
  marks : List Nat
  h : AH
  n : Nat
  orc : List (Nat × Ans)
  fs : List Prop
def PSt.st (s : PSt) : St := ⟨s.env, s.marks, s.h⟩

def popA (n : Nat) : List (Nat × Ans) → Option Ans
  | (k, a) :: _ => bif Nat.beq k n then some a else none
  | [] => none
def popR (n : Nat) : List (Nat × Ans) → List (Nat × Ans)
  | (k, a) :: r => bif Nat.beq k n then r else (k, a) :: r
  | [] => []

def bot : Rec := ⟨fun _ _ _ _ => none, fun _ _ _ => none, fun _ _ _ => none⟩
theorem bot_le (r : Rec) : RLe bot r := ⟨(fun _ _ _ _ _ h => by cases h), (fun _ _ _ _ h => by cases h), (fun _ _ _ _ h => by cases h)⟩

section
variable (P : Program) (gl : Gl)

def loadP (H : AH) (c : List AV) (ro : Bool) (g : Nat) (v : AV) (t : TypeId) (p : AV) : Option (AV × AH × List Prop) :=
  match p with
  | .ptr r o => match aIsAgg P t with
    | some true => match aSize P t, v with
      | some n, .agg l => some (.agg l, H, [H.get r = some (.cells c ro g), cut c o n = some l])
      | _, _ => none
    | some false => some (v, H, [H.get r = some (.cells c ro g), c[o]? = some v])
    | none => none
  | _ => none

def opP (H : AH) (env : Tm AV) (op : Op) (a : Option Ans) : Option (AV × AH × List Prop) :=
  match a with
  | none => match aop P bot gl H env op with
    | some (v, H') => some (v, H', [])
    | none => none
  | some (.bit b) => match aop P bot gl H env op with
    | some (.bool t, H') => some (.bool b, H', [t = b])
    | _ => none
  | some (.int z) => match aop P bot gl H env op with
    | some (.int k e, H') => some (.int k z, H', [e = z])
    | _ => none
  | some (.eq v) => match aop P bot gl H env op with
    | some (u, H') => some (v, H', [u = v])
    | none => none
  | some (.mem K) => match aop P bot gl H env op with
    | some (v, H') => some (v, K, [H' = K])
    | none => none
  | some (.val v) => bif Nat.beq (cls P op) 0 then some (v, H, [alight P gl H.get env op = some v]) else none
  | some (.heap v K) => some (v, K, [aop P bot gl H env op = some (v, K)])
  | some (.load c ro g v) => match op with
    | .load t a => match aval gl env a with
      | some p => loadP P H c ro g v t p
      | none => none
    | _ => none
  | some (.store c g c' K) => match op with
    | .store t a x => match aval gl env a, aval gl env x with
      | some (.ptr r o), some v => match aSize P t with
        | some n => bif Nat.beq v.cells.length n && oneAll v.cells then
            some (undefA, K, [H.get r = some (.cells c false g), o + n ≤ c.length, Ai.setL c o v.cells = c', H.set r (.cells c' false g) = K]) else none
        | none => none
      | _, _ => none
    | _ => none
  | some (.at p) => match op with
    | .indexAddr t x ix => match aval gl env x, aval gl env ix with
      | some x, some (.int _ i) => match P.underlying t, x with
        | some (.array len e), .ptr r o => match aSize P e with
          | some n => some (.ptr r p, H, [0 ≤ i, i < len, o + i.toNat * n = p])
          | none => none
        | some (.slice e), .slice r o len _ _ => match aSize P e with
          | some n => some (.ptr r p, H, [0 ≤ i, i < len, o + i.toNat * n = p])
          | none => none
        | _, _ => none
      | _, _ => none
    | _ => none
  | some (.byte b) => match op with
    | .index t x ix => match aval gl env x, aval gl env ix with
      | some (.str s), some (.int _ i) => match P.underlying t with
        | some .string => some (.int .u8 b.toNat, H, [0 ≤ i, s[i.toNat]? = some b])
        | _ => none
      | _, _ => none
    | _ => none
  | some (.call v K) => match op with
    | .call c => match c.callee with
      | .value g => match avals gl env c.args.toList with
        | some vs => match aval gl env g with
          | some (.func k first captured) => match extFn P k with
            | none => some (v, K, [CallsTo P gl k (first ++ vs ++ captured) H v K])
            | some _ => none
          | some (.yld l) => some (v, K, [RoundsTo P gl l vs H v K])
          | _ => none
        | none => none
      | _ => none
    | _ => none
  | _ => none

def runOpsP (ops : Array Oper) : List Oper → PSt → Option PSt
  | [], s => some s
  | o :: rest, s =>
    bif awanted ops s.env o then
      match opP P gl s.h s.env o.op (popA s.n s.orc) with
      | some (v, H, fs) => runOpsP ops rest ⟨aput s.env o.dst v, s.marks, H, s.n + 1, popR s.n s.orc, fs ++ s.fs⟩
      | none => none
    else runOpsP ops rest ⟨aput s.env o.dst undefA, s.marks, s.h, s.n + 1, s.orc, s.fs⟩
end

section
variable {P : Program} {gl : Gl}

theorem aop_bot {H H' : AH} {env : Tm AV} {op : Op} {v : AV} (h : aop P bot gl H env op = some (v, H')) (r : Rec) : aop P r gl H env op = some (v, H') := aop_mono (bot_le r) h

theorem aop_light {H : AH} {env : Tm AV} {op : Op} {v : AV} (hc : Nat.beq (cls P op) 0 = true) (h : alight P gl H.get env op = some v) (r : Rec) : aop P r gl H env op = some (v, H) := by
  have hc : cls P op = 0 := by simpa using hc
  unfold aop
  rw [hc]
  simp only
  rw [h]

theorem loadP_sound {H H' : AH} {c : List AV} {ro : Bool} {g : Nat} {v w : AV} {t : TypeId} {p : AV} {fs : List Prop} (h : loadP P H c ro g v t p = some (w, H', fs)) (hf : AllP fs) :
    ∃ r o, p = .ptr r o ∧ aload P H.get t r o = some w ∧ H' = H := by
  cases p with
  | ptr r o =>
    simp only [loadP] at h
    refine ⟨r, o, rfl, ?_⟩
    unfold aload
    cases hA : aIsAgg P t with
    | none => rw [hA] at h; cases h
    | some A =>
      rw [hA] at h
      cases A with
      | true =>
        simp only at h
        split at h
        · rename_i n l hn
          cases h
          obtain ⟨h1, h2, _⟩ := hf
          have hc : cellsAt H.get r = some c := by unfold cellsAt; rw [h1]
          rw [hc]; simp only; rw [hn]; simp only; rw [h2]; exact ⟨rfl, trivial⟩
        · cases h
      | false =>
        simp only at h
        cases h
        obtain ⟨h1, h2, _⟩ := hf
        have hc : cellsAt H.get r = some c := by unfold cellsAt; rw [h1]
        rw [hc]; exact ⟨h2, rfl⟩
  | _ => cases h

/-- An operation with an answer. -/
theorem opP_sound {H H' : AH} {env : Tm AV} {op : Op} {a : Option Ans} {v : AV} {fs : List Prop} (h : opP P gl H env op a = some (v, H', fs)) (hf : AllP fs) :
    ∃ n, aop P (level P gl n) gl H env op = some (v, H') := by
  unfold opP at h
  split at h
  · split at h
    · rename_i v1 H1 h1; cases h; exact ⟨0, aop_bot h1 _⟩
    · cases h
  · split at h
    · rename_i t H1 h1; cases h; obtain ⟨h2, _⟩ := hf; subst h2; exact ⟨0, aop_bot h1 _⟩
    · cases h
  · split at h
    · rename_i k e H1 h1; cases h; obtain ⟨h2, _⟩ := hf; subst h2; exact ⟨0, aop_bot h1 _⟩
    · cases h
  · split at h
    · rename_i u H1 h1; cases h; obtain ⟨h2, _⟩ := hf; subst h2; exact ⟨0, aop_bot h1 _⟩
    · cases h
  · split at h
    · rename_i u H1 h1; cases h; obtain ⟨h2, _⟩ := hf; subst h2; exact ⟨0, aop_bot h1 _⟩
    · cases h
  · obtain ⟨hc, h⟩ := bif_some h
    cases h
    exact ⟨0, aop_light hc hf.1 _⟩
  · cases h; exact ⟨0, aop_bot hf.1 _⟩
  · split at h
    · rename_i t a'
      split at h
      · rename_i p hp
        obtain ⟨r, o, rfl, h1, rfl⟩ := loadP_sound h hf
        refine ⟨0, aop_light (by rfl) ?_ _⟩
        simp only [alight, on1]
        rw [hp]; exact h1
      · cases h
    · cases h
  · split at h
    · rename_i t a' x
      split at h
      · rename_i r o u hp hx
        split at h
        · rename_i n hn
          obtain ⟨hc, h⟩ := bif_some h
          cases h
          obtain ⟨h1, h2, h3, h4, _⟩ := hf
          simp only [Bool.and_eq_true] at hc
          refine ⟨0, ?_⟩
          show aheavy P (level P gl 0) gl H env (.store t a' x) = _
          simp only [aheavy]
          rw [hp, hx]
          simp only [astore]
          rw [h1]
          simp only
          rw [hn]
          simp only
          rw [hc.1, hc.2]
          have : Nat.ble (o + n) (List.length _) = true := Nat.ble_eq_true_of_le h2
          rw [this]
          simp only [Bool.and_true, cond_true, Option.map_some]
          rw [h3, h4]
        · cases h
      · cases h
    · cases h
  · split at h
    · rename_i t x ix
      split at h
      · rename_i xv k i hx hi
        split at h
        · rename_i len e r o hu
          split at h
          · rename_i n hn
            cases h
            obtain ⟨h1, h2, h3, _⟩ := hf
            refine ⟨0, aop_light (by rfl) ?_ _⟩
            simp only [alight, on2]
            rw [hx, hi]
            simp only [vIndexAddr]
            rw [hu]; simp only; rw [hn]; simp only
            rw [decide_eq_true h1, decide_eq_true h2, ← h3]; rfl
          · cases h
        · rename_i e r o len kn c hu
          split at h
          · rename_i n hn
            cases h
            obtain ⟨h1, h2, h3, _⟩ := hf
            refine ⟨0, aop_light (by rfl) ?_ _⟩
            simp only [alight, on2]
            rw [hx, hi]
            simp only [vIndexAddr]
            rw [hu]; simp only; rw [hn]; simp only
            rw [decide_eq_true h1, decide_eq_true h2, ← h3]; rfl
          · cases h
        · cases h
      · cases h
    · cases h
  · split at h
    · rename_i t x ix
      split at h
      · rename_i s k i hx hi
        split at h
        · rename_i hu
          cases h
          obtain ⟨h1, h2, _⟩ := hf
          refine ⟨0, aop_light (by rfl) ?_ _⟩
          simp only [alight, on2]
          rw [hx, hi]
          simp only [vIndex]
          rw [hu]; simp only
          rw [decide_eq_true h1, h2]; rfl
        · cases h
      · cases h
    · cases h
  · split at h
    · rename_i c
      split at h
      · rename_i g hg
        split at h
        · rename_i vs hvs
          split at h
          · rename_i k first captured hk
            split at h
            · rename_i hx
              cases h
              obtain ⟨⟨m, hm⟩, _⟩ := hf
              refine ⟨m, ?_⟩
              obtain ⟨callee, args, ats⟩ := c
              subst hg
              show aheavy P (level P gl m) gl H env (.call ⟨.value g, args, ats⟩) = _
              simp only [aheavy]
              rw [hvs, hk]
              simp only
              rw [hx]
              exact hm
            · cases h
          · rename_i l hk
            cases h
            obtain ⟨⟨m, hm⟩, _⟩ := hf
            refine ⟨m, ?_⟩
            obtain ⟨callee, args, ats⟩ := c
            subst hg
            show aheavy P (level P gl m) gl H env (.call ⟨.value g, args, ats⟩) = _
            simp only [aheavy]
            rw [hvs, hk]
            exact hm
          · cases h
        · cases h
      · cases h
    · cases h
  · cases h

theorem OpsTo.of {ops : Array Oper} {o : Oper} {l : List Oper} {env env' : Tm AV} {H H1 H' : AH} {v : AV} (hw : awanted ops env o = true) (ho : ∃ n, aop P (level P gl n) gl H env o.op = some (v, H1)) (h : OpsTo P gl ops l (aput env o.dst v) H1 env' H') :
    OpsTo P gl ops (o :: l) env H env' H' := by
  obtain ⟨n, h⟩ := h
  obtain ⟨m, ho⟩ := ho
  refine ⟨max n m, ?_⟩
  simp only [runOps]
  rw [hw, aop_mono (level_le (Nat.le_max_right n m)) ho]
  exact runOps_mono (level_le (Nat.le_max_left n m)) h

theorem runOpsP_sound {ops : Array Oper} {k : Nat} : ∀ {l : List Oper} {s s' : PSt}, runOpsP P gl ops l s = some s' → Shaped k s.env → AllP s'.fs →
    OpsTo P gl ops l s.env s.h s'.env s'.h ∧ s'.marks = s.marks ∧ Shaped k s'.env ∧ AllP s.fs
  | [], s, s', h, hs, hf => by cases h; exact ⟨OpsTo.nil, rfl, hs, hf⟩
  | o :: l, s, s', h, hs, hf => by
      simp only [runOpsP] at h
      cases hw : awanted ops s.env o with
      | true =>
        rw [hw] at h
        simp only [cond_true] at h
        split at h
        · rename_i v H fs ho
          obtain ⟨h1, h2, h3, h4⟩ := runOpsP_sound h (hs.put _ _) hf
          obtain ⟨h5, h6⟩ := AllP.app h4
          exact ⟨OpsTo.of hw (opP_sound ho h5) h1, h2, h3, h6⟩
        · cases h
      | false =>
        rw [hw] at h
        simp only [cond_false] at h
        obtain ⟨h1, h2, h3, h4⟩ := runOpsP_sound h (hs.put _ _) hf
        exact ⟨OpsTo.skip hw h1, h2, h3, h4⟩

end
end Ai
end Go.Proofs.YtipgfljojhdhjaaGreatDoor

namespace Go.Proofs.YtipgfljojhdhjaaGreatDoor
namespace Ai

mutual
theorem beq_refl : ∀ v : AV, AV.beq v v = true
  | .bool b => by simp [AV.beq]
  | .int k n => by simp [AV.beq]
  | .str s => by simp [AV.beq]
  | .nilp => rfl
  | .ptr r o => by simp [AV.beq]
  | .nils => rfl
  | .slice r o l k c => by simp [AV.beq]
  | .nilm => rfl
  | .map r => by simp [AV.beq]
  | .func f a b => by simp [AV.beq, beqL_refl a, beqL_refl b]
  | .yld l => by simp [AV.beq]
  | .nilf => rfl
  | .iface t v => by simp [AV.beq, beq_refl v]
  | .nili => rfl
  | .agg a => by simp [AV.beq, beqL_refl a]
  | .tup a => by simp [AV.beq, beqL_refl a]
theorem beqL_refl : ∀ v : List AV, AV.beqL v v = true
  | [] => rfl
  | a :: l => by simp [AV.beqL, beq_refl a, beqL_refl l]
end

mutual
def oldF (n : Nat) : AV → List Prop
  | .ptr r _ | .map r | .yld r => [r < n]
  | .slice r .. => [r < n]
  | .func _ a b => oldFL n a ++ oldFL n b
  | .iface _ v => oldF n v
  | .agg cs | .tup cs => oldFL n cs
  | _ => []
def oldFL (n : Nat) : List AV → List Prop
  | [] => []
  | v :: vs => oldF n v ++ oldFL n vs
end

mutual
theorem oldF_old (n : Nat) : ∀ v : AV, AllP (oldF n v) → AV.old n v = true
  | .ptr r _, h => by simpa [AV.old, oldF, AllP] using h
  | .map r, h => by simpa [AV.old, oldF, AllP] using h
  | .yld r, h => by simpa [AV.old, oldF, AllP] using h
  | .slice r _ _ _ _, h => by simpa [AV.old, oldF, AllP] using h
  | .func _ a b, h => by
      simp only [oldF] at h
      obtain ⟨h1, h2⟩ := AllP.app h
      simp [AV.old, oldFL_old n a h1, oldFL_old n b h2]
  | .iface _ v, h => by simp only [oldF] at h; simp [AV.old, oldF_old n v h]
  | .agg cs, h => by simp only [oldF] at h; simp [AV.old, oldFL_old n cs h]
  | .tup cs, h => by simp only [oldF] at h; simp [AV.old, oldFL_old n cs h]
  | .bool _, _ => rfl
  | .int _ _, _ => rfl
  | .str _, _ => rfl
  | .nilp, _ => rfl
  | .nils, _ => rfl
  | .nilm, _ => rfl
  | .nilf, _ => rfl
  | .nili, _ => rfl
theorem oldFL_old (n : Nat) : ∀ v : List AV, AllP (oldFL n v) → AV.oldL n v = true
  | [], _ => rfl
  | v :: vs, h => by
      simp only [oldFL] at h
      obtain ⟨h1, h2⟩ := AllP.app h
      simp [AV.oldL, oldF_old n v h1, oldFL_old n vs h2]
end

def seesF (env : Tm AV) (n : Nat) : List Tmp → List Prop
  | [] => []
  | d :: ds => (match env.get d with | some v => oldF n v | none => []) ++ seesF env n ds

theorem seesF_old {env : Tm AV} {n : Nat} : ∀ {l : List Tmp}, AllP (seesF env n l) → (l.all fun d => match env.get d with | some v => AV.old n v | none => true) = true
  | [], _ => rfl
  | d :: ds, h => by
      simp only [seesF] at h
      obtain ⟨h1, h2⟩ := AllP.app h
      simp only [List.all_cons, Bool.and_eq_true]
      refine ⟨?_, seesF_old h2⟩
      split
      · rename_i v hv; rw [hv] at h1; exact oldF_old n v h1
      · rfl

structure DP where
  trs : List Tr
  fl : List (Nat × AObj)
  env : Tm AV
  h : AH
  n : Nat
  orc : List (Nat × Ans)
  fs : List Prop
def DP.ds (s : DP) : DS := ⟨s.trs, s.fl, s.env, s.h⟩

section
variable (P : Program) (gl : Gl)

def lightFacts (fl : List (Nat × AObj)) (x : Item) (env : Tm AV) (v : AV) : List Tr → List Prop
  | [] => []
  | .light .. :: r => lightFacts fl x env v r
  | .chain c pre _ :: r => bif x.b.testBit c.i || !readsMem x.o.op then lightFacts fl x env v r else (alight P gl (viewOf pre fl) env x.o.op = some v) :: lightFacts fl x env v r
def chainFacts (fl : List (Nat × AObj)) (c : Item) (post : AH) : List Tr → List Prop
  | [] => []
  | .chain .. :: r => chainFacts fl c post r
  | .light x env v :: r => bif c.b.testBit x.i || !readsMem x.o.op then chainFacts fl c post r else (alight P gl (viewOf post fl) env x.o.op = some v) :: chainFacts fl c post r

def drawStepP (ops : Array Oper) (all : List Item) (x : Item) (s : DP) : Option DP :=
  bif awanted ops s.env x.o then
    bif Nat.beq (cls P x.o.op) 0 then
      match opP P gl s.h s.env x.o.op (popA s.n s.orc) with
      | some (v, _, fs) => some ⟨.light x s.env v :: s.trs, s.fl, aput s.env x.o.dst v, s.h, s.n + 1, popR s.n s.orc, lightFacts P gl s.fl x s.env v s.trs ++ (fs ++ s.fs)⟩
      | none => none
    else bif isChain P all x then
      match opP P gl s.h s.env x.o.op (popA s.n s.orc) with
      | some (v, H', fs) => some ⟨.chain x s.h H' :: s.trs, s.fl, aput s.env x.o.dst v, H', s.n + 1, popR s.n s.orc, chainFacts P gl s.fl x H' s.trs ++ (seesF s.env s.h.next (looks ops x.o) ++ ((s.h.next ≤ H'.next) :: (fs ++ s.fs)))⟩
      | none => none
    else bif Nat.beq (cls P x.o.op) 1 then
      match afresh P gl s.env x.o.op s.h.next with
      | some (v, o) => match popA s.n s.orc with
        | some (.mem K) => some ⟨s.trs, (s.h.next, o) :: s.fl, aput s.env x.o.dst v, K, s.n + 1, popR s.n s.orc, seesF s.env s.h.next (looks ops x.o) ++ ((s.h.push o = K) :: s.fs)⟩
        | none => some ⟨s.trs, (s.h.next, o) :: s.fl, aput s.env x.o.dst v, s.h.push o, s.n + 1, s.orc, seesF s.env s.h.next (looks ops x.o) ++ s.fs⟩
        | _ => none
      | none => none
    else none
  else some ⟨s.trs, s.fl, aput s.env x.o.dst undefA, s.h, s.n + 1, s.orc, s.fs⟩

def runDrawP (ops : Array Oper) (all : List Item) : List Item → DP → Option DP
  | [], s => some s
  | x :: rest, s => match drawStepP P gl ops all x s with
    | some s => runDrawP ops all rest s
    | none => none
end

section
variable {P : Program} {gl : Gl}

theorem lightFacts_ok {fl : List (Nat × AObj)} {x : Item} {env : Tm AV} {v : AV} : ∀ {l : List Tr}, AllP (lightFacts P gl fl x env v l) → l.all (trOk P gl fl (.light x env v)) = true
  | [], _ => rfl
  | .light .. :: r, h => by
      simp only [lightFacts] at h
      simp only [List.all_cons, Bool.and_eq_true]
      exact ⟨rfl, lightFacts_ok h⟩
  | .chain c pre post :: r, h => by
      simp only [lightFacts] at h
      simp only [List.all_cons, Bool.and_eq_true]
      cases hb : (x.b.testBit c.i || !readsMem x.o.op) with
      | true =>
        rw [hb] at h
        exact ⟨by simp only [trOk]; rw [hb]; rfl, lightFacts_ok h⟩
      | false =>
        rw [hb] at h
        simp only [cond_false] at h
        refine ⟨?_, lightFacts_ok h.2⟩
        simp only [trOk, sameAtMem]
        rw [hb, h.1]
        simp [beq_refl]

theorem chainFacts_ok {fl : List (Nat × AObj)} {c : Item} {pre post : AH} : ∀ {l : List Tr}, AllP (chainFacts P gl fl c post l) → l.all (trOk P gl fl (.chain c pre post)) = true
  | [], _ => rfl
  | .chain .. :: r, h => by
      simp only [chainFacts] at h
      simp only [List.all_cons, Bool.and_eq_true]
      exact ⟨rfl, chainFacts_ok h⟩
  | .light x env v :: r, h => by
      simp only [chainFacts] at h
      simp only [List.all_cons, Bool.and_eq_true]
      cases hb : (c.b.testBit x.i || !readsMem x.o.op) with
      | true =>
        rw [hb] at h
        exact ⟨by simp only [trOk]; rw [hb]; rfl, chainFacts_ok h⟩
      | false =>
        rw [hb] at h
        simp only [cond_false] at h
        refine ⟨?_, chainFacts_ok h.2⟩
        simp only [trOk, sameAtMem]
        rw [hb, h.1]
        simp [beq_refl]

theorem drawStepP_sound {ops : Array Oper} {all : List Item} {x : Item} {s s' : DP} {k : Nat} (h : drawStepP P gl ops all x s = some s') (hs : Shaped k s.env) (hf : AllP s'.fs) :
    (∃ n, drawStep P (level P gl n) gl ops all x s.ds = some s'.ds) ∧ Shaped k s'.env ∧ AllP s.fs := by
  unfold drawStepP at h
  cases hw : awanted ops s.env x.o with
  | false =>
    rw [hw] at h
    simp only [cond_false] at h
    cases h
    refine ⟨⟨0, ?_⟩, hs.put _ _, hf⟩
    unfold drawStep
    simp only [DP.ds]
    rw [hw]; rfl
  | true =>
    rw [hw] at h
    simp only [cond_true] at h
    cases h0 : Nat.beq (cls P x.o.op) 0 with
    | true =>
      rw [h0] at h
      simp only [cond_true] at h
      split at h
      · rename_i v H1 fs ho
        cases h
        obtain ⟨h1, h2⟩ := AllP.app hf
        obtain ⟨h3, h4⟩ := AllP.app h2
        obtain ⟨n, hn⟩ := opP_sound ho h3
        refine ⟨⟨n, ?_⟩, hs.put _ _, h4⟩
        have hc : cls P x.o.op = 0 := by simpa using h0
        have ha : alight P gl s.h.get s.env x.o.op = some v := by
          unfold aop at hn
          rw [hc] at hn
          simp only at hn
          split at hn
          · rename_i u hu; cases hn; exact hu
          · cases hn
        unfold drawStep
        simp only [DP.ds]
        rw [hw, h0, ha]
        simp only [cond_true]
        rw [lightFacts_ok h1]; rfl
      · cases h
    | false =>
      rw [h0] at h
      simp only [cond_false] at h
      cases hc : isChain P all x with
      | true =>
        rw [hc] at h
        simp only [cond_true] at h
        split at h
        · rename_i v H1 fs ho
          cases h
          obtain ⟨h1, h2⟩ := AllP.app hf
          obtain ⟨h3, h4⟩ := AllP.app h2
          obtain ⟨h5, h6⟩ := h4
          obtain ⟨h7, h8⟩ := AllP.app h6
          obtain ⟨n, hn⟩ := opP_sound ho h7
          refine ⟨⟨n, ?_⟩, hs.put _ _, h8⟩
          unfold drawStep
          simp only [DP.ds]
          rw [hw, h0, hc, hn]
          simp only [cond_true, cond_false]
          have e1 := chainFacts_ok (pre := s.h) h1
          have e2 : Nat.ble s.h.next H1.next = true := Nat.ble_eq_true_of_le h5
          have e3 : seesOld ops x s.env s.h.next = true := seesF_old h3
          rw [e1, e2, e3]; rfl
        · cases h
      | false =>
        rw [hc] at h
        simp only [cond_false] at h
        obtain ⟨h1, h⟩ := bif_some h
        split at h
        · rename_i v o hfr
          split at h
          · cases h
            obtain ⟨h3, h4⟩ := AllP.app hf
            obtain ⟨h5, h6⟩ := h4
            refine ⟨⟨0, ?_⟩, hs.put _ _, h6⟩
            unfold drawStep
            simp only [DP.ds]
            rw [hw, h0, hc, h1, hfr]
            simp only [cond_true, cond_false]
            have e3 : seesOld ops x s.env s.h.next = true := seesF_old h3
            rw [e3, ← h5]; rfl
          · cases h
            obtain ⟨h3, h4⟩ := AllP.app hf
            refine ⟨⟨0, ?_⟩, hs.put _ _, h4⟩
            unfold drawStep
            simp only [DP.ds]
            rw [hw, h0, hc, h1, hfr]
            simp only [cond_true, cond_false]
            have e3 : seesOld ops x s.env s.h.next = true := seesF_old h3
            rw [e3]; rfl
          · cases h
        · cases h

theorem runDrawP_sound {ops : Array Oper} {all : List Item} {k : Nat} : ∀ {l : List Item} {s s' : DP}, runDrawP P gl ops all l s = some s' → Shaped k s.env → AllP s'.fs →
    (∃ n, runDraw P (level P gl n) gl ops all l s.ds = some s'.ds) ∧ Shaped k s'.env ∧ AllP s.fs
  | [], s, s', h, hs, hf => by cases h; exact ⟨⟨0, rfl⟩, hs, hf⟩
  | x :: l, s, s', h, hs, hf => by
      simp only [runDrawP] at h
      split at h
      · rename_i s1 h1
        have hs1 : Shaped k s1.env := by
          unfold drawStepP at h1
          cases hw : awanted ops s.env x.o with
          | false => rw [hw] at h1; cases h1; exact hs.put _ _
          | true =>
            rw [hw] at h1
            simp only [cond_true] at h1
            cases h0 : Nat.beq (cls P x.o.op) 0 with
            | true =>
              rw [h0] at h1
              simp only [cond_true] at h1
              split at h1
              · cases h1; exact hs.put _ _
              · cases h1
            | false =>
              rw [h0] at h1
              simp only [cond_false] at h1
              cases hc : isChain P all x with
              | true =>
                rw [hc] at h1
                simp only [cond_true] at h1
                split at h1
                · cases h1; exact hs.put _ _
                · cases h1
              | false =>
                rw [hc] at h1
                simp only [cond_false] at h1
                obtain ⟨_, h1⟩ := bif_some h1
                split at h1
                · split at h1
                  · cases h1; exact hs.put _ _
                  · cases h1; exact hs.put _ _
                  · cases h1
                · cases h1
        obtain ⟨⟨n, hn⟩, h3, h4⟩ := runDrawP_sound h hs1 hf
        obtain ⟨⟨m, hm⟩, _, h6⟩ := drawStepP_sound h1 hs h4
        refine ⟨⟨max n m, ?_⟩, h3, h6⟩
        simp only [runDraw]
        rw [drawStep_mono (level_le (Nat.le_max_right n m)) hm]
        exact runDraw_mono (level_le (Nat.le_max_left n m)) hn
      · cases h
end

section
variable (P : Program) (gl : Gl) (ro : Option Nat) (f : FuncId) (k : Nat)

/-- A piece of code whose run is answered. -/
def toP (c : Code) (s : PSt) : Option (AX × PSt) :=
  match popA s.n s.orc with
  | some (.to _ ks x live J mk H) => some (x, ⟨LV k (J (junk s.env)) live, mk, H, s.n + 1, popR s.n s.orc, (∀ J0, Runs P gl ro f c ⟨LV k J0 (liveOf s.env ks), s.marks, s.h⟩ x ⟨LV k (J J0) live, mk, H⟩) :: s.fs⟩)
  | _ => none

def isTo (s : PSt) : Bool :=
  match popA s.n s.orc with
  | some (.to true ..) => true
  | _ => false

def enterP (s : PSt) : Option (Nat × List Nat × AH × PSt) :=
  match ro with
  | none => some (s.h.next, [s.h.next], s.h.push .defd, s)
  | some l => match popA s.n s.orc with
    | some (.obj (.loop st pd fn env ps as bd d)) => some (d, [], s.h, ⟨s.env, s.marks, s.h, s.n + 1, popR s.n s.orc, (s.h.get l = some (.loop st pd fn env ps as bd d)) :: s.fs⟩)
    | _ => none

def jumpX : Option Code → Option AX
  | none => some .normal
  | some .ret => some .ret
  | some (.exit id) => some (.exit id)
  | _ => none

def iterP (g : Operand) (ps : Array Tmp) (assign body : Code) (s : PSt) : Option (AX × PSt) :=
  match aval gl s.env g with
  | some (.func g fi ca) => match enterP ro s with
    | some (d, mk, H1, s) => match popA s.n s.orc with
      | some (.call v H2) => match popA (s.n + 1) (popR s.n s.orc) with
        | some (.obj (.loop st pend f' env' ps' as' bd' d')) => match popA (s.n + 2) (popR (s.n + 1) (popR s.n s.orc)) with
          | some (.mem K) => match st with
            | .busy => none
            | _ => match jumpX pend with
              | some x => some (x, ⟨s.env, mk ++ s.marks, K, s.n + 3, popR (s.n + 2) (popR (s.n + 1) (popR s.n s.orc)),
                  (H2.set H1.next (.loop .exhausted pend f' env' ps' as' bd' d') = K) :: (H2.get H1.next = some (.loop st pend f' env' ps' as' bd' d')) ::
                  CallsTo P gl g (fi ++ [AV.yld H1.next] ++ ca) (H1.push (.loop .ready none f s.env ps.toList assign body d)) v H2 :: s.fs⟩)
              | none => none
          | _ => none
        | _ => none
      | _ => none
    | none => none
  | _ => none

def execP : Code → PSt → Option (AX × PSt)
  | .skip, s => some (.normal, s)
  | .label _, s => some (.normal, s)
  | .exit id, s => some (.exit id, s)
  | .ret, s => some (.ret, s)
  | .seq a b, s => match execP a s with
    | some (.normal, s) => execP b s
    | x => x
  | .cond c a b, s => bif isTo s then toP P gl ro f k (.cond c a b) s else match aval gl s.env c with
    | some (.bool true) => execP a s
    | some (.bool false) => execP b s
    | _ => none
  | .block id b, s => bif isTo s then toP P gl ro f k (.block id b) s else match execP b s with
    | some (.exit i, s) => bif Nat.beq i id then some (.normal, s) else some (.exit i, s)
    | x => x
  | .loop b, s => toP P gl ro f k (.loop b) s
  | .region _ ops false, s => match runOpsP P gl ops ops.toList s with
    | some s => some (.normal, s)
    | none => none
  | .region _ ops true, s =>
    bif drawOk P ops then
      match runDrawP P gl ops (items ops) (items ops) ⟨[], [], s.env, s.h, s.n, s.orc, s.fs⟩ with
      | some d => some (.normal, ⟨d.env, s.marks, d.h, d.n, d.orc, d.fs⟩)
      | none => none
    else none
  | .rangeFunc g ps assign body, s => bif isTo s then toP P gl ro f k (.rangeFunc g ps assign body) s else iterP P gl ro f g ps assign body s
  | _, _ => none

def resP (H : AH) (env : Tm AV) : List ResultVar → Nat → List (Nat × Ans) → Option (List AV × List Prop)
  | [], _, _ => some ([], [])
  | .tmp t :: rest, n, orc => match resP H env rest n orc with
    | some (vs, fs) => some ((env.get t).getD undefA :: vs, fs)
    | none => none
  | .cell a t :: rest, n, orc => match env.get a with
    | some p => match popA n orc with
      | some (.load c ro g v) => match loadP P H c ro g v t p with
        | some (v, _, fs) => match resP H env rest (n + 1) (popR n orc) with
          | some (vs, gs) => some (v :: vs, fs ++ gs)
          | none => none
        | none => none
      | _ => none
    | none => none

def dropP (s : PSt) : Option PSt :=
  match s.marks with
  | [] => some s
  | mk => match popA s.n s.orc with
    | some (.mem K) => some ⟨s.env, [], K, s.n + 1, popR s.n s.orc, (dropMarks s.h mk = some K) :: s.fs⟩
    | _ => none

def tupA : List AV → AV
  | [v] => v
  | vs => .tup vs

def leaveP (fn : Func) (s : PSt) : Option (AV × AH × List Prop) :=
  match dropP s with
  | some s => match resP P s.h s.env fn.results.toList s.n s.orc with
    | some (vs, fs) => some (tupA vs, s.h, fs ++ s.fs)
    | none => none
  | none => none

end

def isExit : AX → Bool
  | .exit _ => true
  | _ => false

def callP (P : Program) (gl : Gl) (f : FuncId) (args : List AV) (orc : List (Nat × Ans)) (H : AH) : Option (AV × AH × List Prop) :=
  match P.funcs[f]? with
  | some fn => match fn.body with
    | some c =>
      bif (gl.ext f args H).isNone && (Nat.ble args.length fn.ntmps && Nat.blt fn.ntmps 4096 && !(fn.name == "runtime.NumGoroutine")) then
        match execP P gl none f fn.ntmps c ⟨(Tm.blank undefA 12 fn.ntmps).setL 0 args, [], H, 0, orc, []⟩ with
        | some (x, s) => bif isExit x then none else leaveP P fn s
        | none => none
      else none
    | none => none
  | none => none

section
variable {P : Program} {gl : Gl} {ro : Option Nat} {f : FuncId} {k : Nat}

theorem toP_sound (hk : k < 4096) {c : Code} {s s' : PSt} {x : AX} (h : toP P gl ro f k c s = some (x, s')) (hs : Shaped k s.env) (hf : AllP s'.fs) : Runs P gl ro f c s.st x s'.st ∧ Shaped k s'.env ∧ AllP s.fs := by
  unfold toP at h
  split at h
  · rename_i w ks x' live J mk H ha
    cases h
    obtain ⟨h1, h2⟩ := hf
    have := h1 (junk s.env)
    rw [hs.lv hk] at this
    exact ⟨this, Shaped.of_lv, h2⟩
  · cases h

def enterA (ro : Option Nat) (h : AH) : Option (Nat × List Nat × AH) :=
  match ro with
  | none => some (h.next, [h.next], h.push .defd)
  | some l => match h.get l with
    | some (.loop _ _ _ _ _ _ _ d) => some (d, [], h)
    | _ => none

theorem enterP_ok {s s1 : PSt} {d : Nat} {mk : List Nat} {H1 : AH} (h : enterP ro s = some (d, mk, H1, s1)) (hf : AllP s1.fs) :
    enterA ro s.h = some (d, mk, H1) ∧ s1.env = s.env ∧ s1.marks = s.marks ∧ AllP s.fs := by
  cases ro with
  | none => simp only [enterP] at h; cases h; exact ⟨rfl, rfl, rfl, hf⟩
  | some l =>
    simp only [enterP] at h
    split at h
    · cases h
      obtain ⟨h1, h2⟩ := hf
      simp only [enterA]
      rw [h1]
      refine ⟨rfl, ?_, ?_, h2⟩ <;> trivial
    · cases h

theorem rangeFunc_exec {r : Rec} {g : Operand} {ps : Array Tmp} {assign body : Code} {s : St} {d : Nat} {mk : List Nat} {H1 : AH} {fv : AV} (hg : aval gl s.env g = some fv) (he : enterA ro s.h = some (d, mk, H1)) :
    execC P gl r ro f (.rangeFunc g ps assign body) s = match (match fv with
          | .func g fi ca => r.call g (fi ++ [AV.yld H1.next] ++ ca) (H1.push (.loop .ready none f s.env ps.toList assign body d))
          | _ => none) with
        | none => none
        | some (_, H2) => match H2.get H1.next with
          | some (.loop .busy ..) => none
          | some (.loop _ pend f' env' ps' as' bd' d') =>
            let s' : St := ⟨s.env, mk ++ s.marks, H2.set H1.next (.loop .exhausted pend f' env' ps' as' bd' d')⟩
            match pend with
            | none => some (.normal, s')
            | some .ret => some (.ret, s')
            | some (.exit id) => some (.exit id, s')
            | _ => none
          | _ => none := by
  simp only [execC]
  rw [hg]
  simp only
  unfold enterA at he
  cases ro with
  | none => simp only at he ⊢; cases he; rfl
  | some l =>
    simp only at he ⊢
    split at he
    · rename_i hl; cases he; rw [hl]; rfl
    · cases he

theorem iterP_sound {g : Operand} {ps : Array Tmp} {assign body : Code} {s s' : PSt} {x : AX} (h : iterP P gl ro f g ps assign body s = some (x, s')) (hs : Shaped k s.env) (hf : AllP s'.fs) :
    Runs P gl ro f (.rangeFunc g ps assign body) s.st x s'.st ∧ Shaped k s'.env ∧ AllP s.fs := by
  unfold iterP at h
  split at h
  · rename_i g' fi ca hg
    split at h
    · rename_i d mk H1 s1 he
      split at h
      · rename_i v H2 hp
        split at h
        · rename_i st pend f' env' ps' as' bd' d' ho
          split at h
          · rename_i K hm
            split at h
            · cases h
            · rename_i hst
              split at h
              · rename_i y hj
                cases h
                obtain ⟨hK, hget, ⟨n, hc⟩, hfs⟩ := hf
                have key := enterP_ok he hfs
                obtain ⟨k1, k2, k3, k4⟩ := key
                refine ⟨⟨n, ?_⟩, by rw [k2]; exact hs, k4⟩
                rw [rangeFunc_exec (s := s.st) hg k1]
                simp only [PSt.st]
                rw [k2] at hc
                rw [hc]
                simp only
                rw [hget]
                cases st with
                | busy => exact absurd rfl hst
                | _ =>
                  simp only
                  rw [hK, k2, k3]
                  unfold jumpX at hj
                  split at hj <;> first | (cases hj; rfl) | cases hj
              · cases h
          · cases h
        · cases h
      · cases h
    · cases h
  · cases h

theorem execP_sound (hk : k < 4096) : ∀ (c : Code) {s s' : PSt} {x : AX}, execP P gl ro f k c s = some (x, s') → Shaped k s.env → AllP s'.fs → Runs P gl ro f c s.st x s'.st ∧ Shaped k s'.env ∧ AllP s.fs := by
  have hsh : ∀ (c : Code) {s s' : PSt} {x : AX}, execP P gl ro f k c s = some (x, s') → Shaped k s.env → Shaped k s'.env := by
    have hto : ∀ {c : Code} {s s' : PSt} {x : AX}, toP P gl ro f k c s = some (x, s') → Shaped k s'.env := by
      intro c s s' x h
      unfold toP at h
      split at h
      · cases h; exact Shaped.of_lv
      · cases h
    have hops : ∀ {ops : Array Oper} {l : List Oper} {s s' : PSt}, runOpsP P gl ops l s = some s' → Shaped k s.env → Shaped k s'.env := by
      intro ops l
      induction l with
      | nil => intro s s' h hs; cases h; exact hs
      | cons o l ih =>
        intro s s' h hs
        simp only [runOpsP] at h
        cases hw : awanted ops s.env o with
        | true =>
          rw [hw] at h
          simp only [cond_true] at h
          split at h
          · exact ih h (hs.put _ _)
          · cases h
        | false =>
          rw [hw] at h
          exact ih h (hs.put _ _)
    have hdr1 : ∀ {ops : Array Oper} {all : List Item} {x : Item} {s s' : DP}, drawStepP P gl ops all x s = some s' → Shaped k s.env → Shaped k s'.env := by
      intro ops all x s s' h1 hs
      unfold drawStepP at h1
      cases hw : awanted ops s.env x.o with
      | false => rw [hw] at h1; cases h1; exact hs.put _ _
      | true =>
        rw [hw] at h1
        simp only [cond_true] at h1
        cases h0 : Nat.beq (cls P x.o.op) 0 with
        | true =>
          rw [h0] at h1
          simp only [cond_true] at h1
          split at h1
          · cases h1; exact hs.put _ _
          · cases h1
        | false =>
          rw [h0] at h1
          simp only [cond_false] at h1
          cases hc : isChain P all x with
          | true =>
            rw [hc] at h1
            simp only [cond_true] at h1
            split at h1
            · cases h1; exact hs.put _ _
            · cases h1
          | false =>
            rw [hc] at h1
            simp only [cond_false] at h1
            obtain ⟨_, h1⟩ := bif_some h1
            split at h1
            · split at h1
              · cases h1; exact hs.put _ _
              · cases h1; exact hs.put _ _
              · cases h1
            · cases h1
    have hdr : ∀ {ops : Array Oper} {all l : List Item} {s s' : DP}, runDrawP P gl ops all l s = some s' → Shaped k s.env → Shaped k s'.env := by
      intro ops all l
      induction l with
      | nil => intro s s' h hs; cases h; exact hs
      | cons x l ih =>
        intro s s' h hs
        simp only [runDrawP] at h
        split at h
        · rename_i s1 h1; exact ih h (hdr1 h1 hs)
        · cases h
    have hit : ∀ {g : Operand} {ps : Array Tmp} {assign body : Code} {s s' : PSt} {x : AX}, iterP P gl ro f g ps assign body s = some (x, s') → Shaped k s.env → Shaped k s'.env := by
      intro g ps assign body s s' x h hs
      unfold iterP at h
      split at h
      · split at h
        · rename_i d mk H1 s1 he
          have k2 : s1.env = s.env := by
            unfold enterP at he
            split at he
            · cases he; rfl
            · split at he
              · cases he; rfl
              · cases he
          split at h
          · split at h
            · split at h
              · split at h
                · cases h
                · split at h
                  · cases h; rw [k2]; exact hs
                  · cases h
              · cases h
            · cases h
          · cases h
        · cases h
      · cases h
    intro c
    induction c with
    | seq a b iha ihb =>
      intro s s' x h hs
      simp only [execP] at h
      split at h
      · rename_i s1 h1; exact ihb h (iha h1 hs)
      · exact iha h hs
    | cond c a b iha ihb =>
      intro s s' x h hs
      simp only [execP] at h
      cases ht : isTo s with
      | true => rw [ht] at h; exact hto h
      | false =>
        rw [ht] at h
        simp only [cond_false] at h
        split at h
        · exact iha h hs
        · exact ihb h hs
        · cases h
    | block id b ih =>
      intro s s' x h hs
      simp only [execP] at h
      cases ht : isTo s with
      | true => rw [ht] at h; exact hto h
      | false =>
        rw [ht] at h
        simp only [cond_false] at h
        split at h
        · rename_i i s1 h1
          cases hb : Nat.beq i id with
          | true => rw [hb] at h; cases h; exact ih h1 hs
          | false => rw [hb] at h; cases h; exact ih h1 hs
        · exact ih h hs
    | loop b ih => intro s s' x h hs; simp only [execP] at h; exact hto h
    | region id ops draw =>
      intro s s' x h hs
      cases draw with
      | false =>
        simp only [execP] at h
        split at h
        · rename_i s1 h1; cases h; exact hops h1 hs
        · cases h
      | true =>
        simp only [execP] at h
        obtain ⟨_, h⟩ := bif_some h
        split at h
        · rename_i d hd; cases h; exact hdr hd hs
        · cases h
    | rangeFunc g ps assign body _ _ =>
      intro s s' x h hs
      simp only [execP] at h
      cases ht : isTo s with
      | true => rw [ht] at h; exact hto h
      | false => rw [ht] at h; exact hit h hs
    | skip => intro s s' x h hs; cases h; exact hs
    | label _ => intro s s' x h hs; cases h; exact hs
    | exit _ => intro s s' x h hs; cases h; exact hs
    | ret => intro s s' x h hs; cases h; exact hs
    | _ => intro s s' x h hs; simp only [execP] at h; cases h
  intro c
  induction c with
  | seq a b iha ihb =>
    intro s s' x h hs hf
    simp only [execP] at h
    split at h
    · rename_i s1 h1
      obtain ⟨r2, r3, r4⟩ := ihb h (hsh a h1 hs) hf
      obtain ⟨q2, q3, q4⟩ := iha h1 hs r4
      exact ⟨Runs.seq q2 r2, r3, q4⟩
    · rename_i hne
      obtain ⟨q2, q3, q4⟩ := iha h hs hf
      exact ⟨Runs.seq_stop q2 (by rintro rfl; exact hne _ h), q3, q4⟩
  | cond c a b iha ihb =>
    intro s s' x h hs hf
    simp only [execP] at h
    cases ht : isTo s with
    | true => rw [ht] at h; exact toP_sound hk h hs hf
    | false =>
      rw [ht] at h
      simp only [cond_false] at h
      split at h
      · rename_i hc
        obtain ⟨q2, q3, q4⟩ := iha h hs hf
        exact ⟨Runs.cond_true hc q2, q3, q4⟩
      · rename_i hc
        obtain ⟨q2, q3, q4⟩ := ihb h hs hf
        exact ⟨Runs.cond_false hc q2, q3, q4⟩
      · cases h
  | block id b ih =>
    intro s s' x h hs hf
    simp only [execP] at h
    cases ht : isTo s with
    | true => rw [ht] at h; exact toP_sound hk h hs hf
    | false =>
      rw [ht] at h
      simp only [cond_false] at h
      split at h
      · rename_i i s1 h1
        cases hb : Nat.beq i id with
        | true =>
          rw [hb] at h
          cases h
          obtain ⟨q2, q3, q4⟩ := ih h1 hs hf
          have := Runs.block (id := id) q2
          simp only [AX.out] at this
          rw [hb] at this
          exact ⟨this, q3, q4⟩
        | false =>
          rw [hb] at h
          cases h
          obtain ⟨q2, q3, q4⟩ := ih h1 hs hf
          have := Runs.block (id := id) q2
          simp only [AX.out] at this
          rw [hb] at this
          exact ⟨this, q3, q4⟩
      · rename_i hne
        obtain ⟨q2, q3, q4⟩ := ih h hs hf
        have := Runs.block (id := id) q2
        cases x with
        | exit i => exact absurd h (hne i s')
        | normal => exact ⟨this, q3, q4⟩
        | ret => exact ⟨this, q3, q4⟩
  | loop b ih => intro s s' x h hs hf; simp only [execP] at h; exact toP_sound hk h hs hf
  | region id ops draw =>
    intro s s' x h hs hf
    cases draw with
    | false =>
      simp only [execP] at h
      split at h
      · rename_i s1 h1
        cases h
        obtain ⟨q1, q2, q3, q4⟩ := runOpsP_sound h1 hs hf
        have := Runs.region (P := P) (gl := gl) (ro := ro) (f := f) (s := s.st) (id := id) (ops := ops) q1
        refine ⟨?_, q3, q4⟩
        simpa [PSt.st, q2] using this
      · cases h
    | true =>
      simp only [execP] at h
      obtain ⟨hd, h⟩ := bif_some h
      split at h
      · rename_i d h1
        cases h
        obtain ⟨⟨n, q1⟩, q3, q4⟩ := runDrawP_sound h1 hs hf
        refine ⟨⟨n, ?_⟩, q3, q4⟩
        simp only [DP.ds] at q1
        simp only [execC, PSt.st]
        rw [hd, q1]; rfl
      · cases h
  | rangeFunc g ps assign body _ _ =>
    intro s s' x h hs hf
    simp only [execP] at h
    cases ht : isTo s with
    | true => rw [ht] at h; exact toP_sound hk h hs hf
    | false => rw [ht] at h; exact iterP_sound h hs hf
  | skip => intro s s' x h hs hf; cases h; exact ⟨Runs.skip, hs, hf⟩
  | label _ => intro s s' x h hs hf; cases h; exact ⟨⟨0, rfl⟩, hs, hf⟩
  | exit _ => intro s s' x h hs hf; cases h; exact ⟨Runs.exit, hs, hf⟩
  | ret => intro s s' x h hs hf; cases h; exact ⟨Runs.ret, hs, hf⟩
  | _ => intro s s' x h hs hf; simp only [execP] at h; cases h

theorem resP_sound {H : AH} {env : Tm AV} : ∀ {l : List ResultVar} {n : Nat} {orc : List (Nat × Ans)} {vs : List AV} {fs : List Prop}, resP P H env l n orc = some (vs, fs) → AllP fs → resultsA P env H l = some vs
  | [], n, orc, vs, fs, h, _ => by cases h; rfl
  | .tmp t :: l, n, orc, vs, fs, h, hf => by
      simp only [resP] at h
      split at h
      · rename_i us gs h1
        cases h
        simp only [resultsA]
        rw [resP_sound h1 hf]
      · cases h
  | .cell a t :: l, n, orc, vs, fs, h, hf => by
      simp only [resP] at h
      split at h
      · rename_i p hp
        split at h
        · rename_i c ro g v ha
          split at h
          · rename_i v' H' fs' hl
            split at h
            · rename_i us gs h1
              cases h
              obtain ⟨h2, h3⟩ := AllP.app hf
              obtain ⟨r, o, rfl, h4, _⟩ := loadP_sound hl h2
              simp only [resultsA]
              rw [hp]
              simp only
              rw [h4, resP_sound h1 h3]
            · cases h
          · cases h
        · cases h
      · cases h

theorem leaveP_sound {fn : Func} {s : PSt} {v : AV} {H : AH} {fs : List Prop} (h : leaveP P fn s = some (v, H, fs)) (hf : AllP fs) : leaveA P fn s.st = some (v, H) ∧ AllP s.fs := by
  unfold leaveP at h
  split at h
  · rename_i s1 hd
    split at h
    · rename_i vs gs hr
      cases h
      obtain ⟨h1, h2⟩ := AllP.app hf
      have hr := resP_sound hr h1
      have hdr : dropMarks s.h s.marks = some s1.h ∧ s1.env = s.env ∧ AllP s.fs := by
        unfold dropP at hd
        split at hd
        · rename_i hm; cases hd; rw [hm]; exact ⟨rfl, rfl, h2⟩
        · split at hd
          · cases hd; exact ⟨h2.1, rfl, h2.2⟩
          · cases hd
      obtain ⟨d1, d2, d3⟩ := hdr
      refine ⟨?_, d3⟩
      unfold leaveA
      simp only [PSt.st]
      rw [d1]
      simp only
      rw [← d2, hr]
      unfold tupA
      match vs with
      | [] => rfl
      | [v] => rfl
      | _ :: _ :: _ => rfl
    · cases h
  · cases h

/-- **A call with answers.** -/
theorem callP_calls {args : List AV} {orc : List (Nat × Ans)} {H H' : AH} {v : AV} {fs : List Prop} (h : callP P gl f args orc H = some (v, H', fs)) (hf : AllP fs) : CallsTo P gl f args H v H' := by
  unfold callP at h
  split at h
  · rename_i fn hfn
    split at h
    · rename_i c hb
      obtain ⟨hn, h⟩ := bif_some h
      obtain ⟨hext, hn⟩ := Bool.and_eq_true_iff.1 hn
      have hext := Option.isNone_iff_eq_none.1 hext
      split at h
      · rename_i x s hx
        cases hi : isExit x with
        | true => rw [hi] at h; cases h
        | false =>
          rw [hi] at h
          simp only [cond_false] at h
          obtain ⟨h1, h2⟩ := leaveP_sound h hf
          have hk : fn.ntmps < 4096 := by
            simp only [Bool.and_eq_true] at hn
            exact Nat.le_of_ble_eq_true hn.1.2
          obtain ⟨h3, _, _⟩ := execP_sound hk c hx (Shaped.start _ _) h2
          refine CallsTo.of hext hfn hb hn h3 ?_ h1
          cases x with
          | exit i => cases hi
          | normal => exact .inl rfl
          | ret => exact .inr rfl
      · cases h
    · cases h
  · cases h

/-- A run that leaves nothing to say of the other slots. -/
def To (P : Program) (gl : Gl) (ro : Option Nat) (f : FuncId) (k : Nat) (c : Code) (live : List (Nat × AV)) (mk : List Nat) (H : AH) (x : AX) (live' : List (Nat × AV)) (mk' : List Nat) (H' : AH) : Prop :=
  ∀ J, ∃ J', Runs P gl ro f c ⟨LV k J live, mk, H⟩ x ⟨LV k J' live', mk', H'⟩

variable {a b : Code} {live live1 live2 : List (Nat × AV)} {mk mk1 mk2 : List Nat} {H H1 H2 : AH} {x : AX}

theorem To.skolem (h : To P gl ro f k a live mk H x live1 mk1 H1) : ∃ J : (Nat → AV) → Nat → AV, ∀ J0, Runs P gl ro f a ⟨LV k J0 live, mk, H⟩ x ⟨LV k (J J0) live1, mk1, H1⟩ :=
  ⟨fun J0 => Classical.choose (h J0), fun J0 => Classical.choose_spec (h J0)⟩
theorem To.seq (h1 : To P gl ro f k a live mk H .normal live1 mk1 H1) (h2 : To P gl ro f k b live1 mk1 H1 x live2 mk2 H2) : To P gl ro f k (.seq a b) live mk H x live2 mk2 H2 := fun J => by
  obtain ⟨J1, r1⟩ := h1 J
  obtain ⟨J2, r2⟩ := h2 J1
  exact ⟨J2, Runs.seq r1 r2⟩
theorem To.loop (h1 : To P gl ro f k b live mk H .normal live1 mk1 H1) (h2 : To P gl ro f k (.loop b) live1 mk1 H1 x live2 mk2 H2) : To P gl ro f k (.loop b) live mk H x live2 mk2 H2 := fun J => by
  obtain ⟨J1, r1⟩ := h1 J
  obtain ⟨J2, r2⟩ := h2 J1
  exact ⟨J2, Runs.loop r1 r2⟩
theorem To.loop_stop (h1 : To P gl ro f k b live mk H x live1 mk1 H1) (hx : x ≠ .normal) : To P gl ro f k (.loop b) live mk H x live1 mk1 H1 := fun J => by
  obtain ⟨J1, r1⟩ := h1 J
  exact ⟨J1, Runs.loop_stop r1 hx⟩

def outEnv : Option (AX × PSt) → Tm AV
  | some (_, s) => s.env
  | none => .lf

/-- **A piece of code with answers.** -/
theorem execP_to (hk : (Nat.blt k 4096) = true) {c : Code} {orc : List (Nat × Ans)} {n : Nat} {fs : List Prop}
    (h : ∀ J, execP P gl ro f k c ⟨LV k J live, mk, H, 0, orc, []⟩ = some (x, ⟨LV k (junk (outEnv (execP P gl ro f k c ⟨LV k J live, mk, H, 0, orc, []⟩))) live1, mk1, H1, n, [], fs⟩)) (hf : AllP fs) : To P gl ro f k c live mk H x live1 mk1 H1 :=
  fun J => ⟨_, (execP_sound (Nat.le_of_ble_eq_true hk) c (h J) Shaped.of_lv hf).1⟩

/-- The loops of a function, in the text's order. -/
def loopsOf : Code → List Code
  | .seq a b => loopsOf a ++ loopsOf b
  | .cond _ a b => loopsOf a ++ loopsOf b
  | .block _ b => loopsOf b
  | .loop b => b :: loopsOf b
  | .rangeFunc _ _ a b => loopsOf a ++ loopsOf b
  | .scope b => loopsOf b
  | _ => []
def nthC : List Code → Nat → Code
  | [], _ => .skip
  | c :: _, 0 => c
  | _ :: l, n + 1 => nthC l n
/-- The body of a function's loop. -/
def loopB (P : Program) (f : FuncId) (i : Nat) : Code :=
  match P.funcs[f]? with
  | some fn => match fn.body with
    | some c => nthC (loopsOf c) i
    | none => .skip
  | none => .skip

end
end Ai
end Go.Proofs.YtipgfljojhdhjaaGreatDoor

namespace Go.Proofs.YtipgfljojhdhjaaGreatDoor
namespace Ai

theorem lt_t {a b : Int} (h : a < b) : decide (a < b) = true := decide_eq_true h
theorem lt_f {a b : Int} (h : b ≤ a) : decide (a < b) = false := decide_eq_false (by omega)
theorem le_t {a b : Int} (h : a ≤ b) : decide (a ≤ b) = true := decide_eq_true h
theorem le_f {a b : Int} (h : b < a) : decide (a ≤ b) = false := decide_eq_false (by omega)
theorem gt_t {a b : Int} (h : b < a) : decide (a > b) = true := decide_eq_true h
theorem gt_f {a b : Int} (h : a ≤ b) : decide (a > b) = false := decide_eq_false (by omega)
theorem ge_t {a b : Int} (h : b ≤ a) : decide (a ≥ b) = true := decide_eq_true h
theorem ge_f {a b : Int} (h : a < b) : decide (a ≥ b) = false := decide_eq_false (by omega)
theorem ieq_t {a b : Int} (h : a = b) : (a == b) = true := by simp [h]
theorem ieq_f {a b : Int} (h : a ≠ b) : (a == b) = false := by simp [h]
theorem ine_t {a b : Int} (h : a ≠ b) : (!(a == b)) = true := by simp [h]
theorem ine_f {a b : Int} (h : a = b) : (!(a == b)) = false := by simp [h]
theorem beq_t {a b : Bool} (h : a = b) : (a == b) = true := by simp [h]
theorem beq_f {a b : Bool} (h : a ≠ b) : (a == b) = false := by simp [h]
theorem bne_t {a b : Bool} (h : a ≠ b) : (!(a == b)) = true := by simp [h]
theorem bne_f {a b : Bool} (h : a = b) : (!(a == b)) = false := by simp [h]
theorem seq_t {a b : List UInt8} (h : a = b) : (a == b) = true := by simp [h]
theorem seq_f {a b : List UInt8} (h : a ≠ b) : (a == b) = false := by simp [h]
theorem sne_t {a b : List UInt8} (h : a ≠ b) : (!(a == b)) = true := by simp [h]
theorem sne_f {a b : List UInt8} (h : a = b) : (!(a == b)) = false := by simp [h]
theorem not_t {a : Bool} (h : a = false) : (!a) = true := by simp [h]
theorem not_f {a : Bool} (h : a = true) : (!a) = false := by simp [h]

theorem w64 {n : Int} (h1 : -9223372036854775808 ≤ n) (h2 : n ≤ 9223372036854775807) : IntKind.wrap .i64 n = n := IntWalk.i64_in n ⟨h1, h2⟩

/-! Memories. -/
namespace Tm
variable {α : Type}
theorem ofFn_up : ∀ (d n : Nat) (F : Nat → α), n < 2 ^ d → ofFn F d n = ofFn F (d + 1) n
  | 0, n, F, h => by
      have : n = 0 := by simpa using h
      subst this; rfl
  | d + 1, n, F, h => by
      rw [ofFn, ofFn]
      cases hn : Nat.beq n 0 with
      | true => rfl
      | false =>
        simp only [cond_false]
        have hp : 2 ^ (d + 1) = 2 * 2 ^ d := by rw [Nat.pow_succ]; omega
        rw [ofFn_up d (n / 2) _ (by omega), ofFn_up d ((n - 1) / 2) _ (by omega)]
theorem put_ofFn (x : α) : ∀ (d n : Nat) (F : Nat → α), n + 1 < 2 ^ d → (ofFn F d n).put n x = ofFn (fun j => bif Nat.beq j n then x else F j) d (n + 1)
  | 0, n, F, h => by simp at h
  | d + 1, n, F, h => by
      have hp : 2 ^ (d + 1) = 2 * 2 ^ d := by rw [Nat.pow_succ]; omega
      rw [ofFn, ofFn]
      cases n with
      | zero => 
        cases d with
        | zero => rfl
        | succ d => rfl
      | succ k =>
        have e1 : Nat.beq (k + 1) 0 = false := rfl
        have e2 : Nat.beq (k + 1 + 1) 0 = false := rfl
        have e3 : Nat.beq 0 (k + 1) = false := rfl
        rw [e1, e2, e3]
        simp only [cond_false, put]
        cases hk : Nat.beq (k % 2) 0 with
        | true =>
          have h2 : k % 2 = 0 := by simpa using hk
          simp only [cond_true]
          have a1 : (k + 1) / 2 = k / 2 := by omega
          have a2 : (k + 1 + 1) / 2 = k / 2 + 1 := by omega
          have a3 : (k + 1 + 1 - 1) / 2 = (k + 1 - 1) / 2 := by omega
          rw [a1, put_ofFn x d (k / 2) _ (by omega), a2, a3]
          congr 1
          · refine ofFn_congr _ _ _ _ fun j _ => ?_
            have : Nat.beq j (k / 2) = Nat.beq (2 * j + 1) (k + 1) := by rw [Bool.eq_iff_iff]; simp; omega
            rw [this]
          · refine ofFn_congr _ _ _ _ fun j _ => ?_
            have : Nat.beq (2 * j + 2) (k + 1) = false := by rw [← Bool.not_eq_true]; simp; omega
            rw [this]; rfl
        | false =>
          have h2 : k % 2 ≠ 0 := by intro h; rw [h] at hk; cases hk
          simp only [cond_false]
          have a1 : (k + 1 + 1) / 2 = (k + 1) / 2 := by omega
          have a2 : (k + 1 - 1) / 2 = k / 2 := by omega
          have a3 : (k + 1 + 1 - 1) / 2 = k / 2 + 1 := by omega
          rw [a1, a2, a3, put_ofFn x d (k / 2) _ (by omega)]
          congr 1
          · refine ofFn_congr _ _ _ _ fun j _ => ?_
            have : Nat.beq (2 * j + 1) (k + 1) = false := by rw [← Bool.not_eq_true]; simp; omega
            rw [this]; rfl
          · refine ofFn_congr _ _ _ _ fun j _ => ?_
            have : Nat.beq j (k / 2) = Nat.beq (2 * j + 2) (k + 1) := by rw [Bool.eq_iff_iff]; simp; omega
            rw [this]
end Tm

/-- The places of a memory are those below 'next'. -/
def WF (H : AH) : Prop := ∃ d F, H.next < 2 ^ d ∧ H.m = Tm.ofFn F d H.next

section
variable {H H' H1 H2 H3 : AH} {o p : AObj} {r s n m : Nat}

theorem WF.get (h : WF H) (r : Nat) : r < H.next ↔ (H.get r).isSome := by
  obtain ⟨d, F, hn, hm⟩ := h
  unfold AH.get
  rw [hm, Tm.get_ofFn _ _ _ _ hn]
  by_cases hr : r < H.next
  · simp [hr]
  · simp [hr]
theorem WF.lt (h : WF H) (hg : H.get r = some o) : r < H.next := (h.get r).2 (by rw [hg]; rfl)
theorem WF.push (h : WF H) (o : AObj) : WF (H.push o) := by
  obtain ⟨d, F, hn, hm⟩ := h
  refine ⟨d + 1, fun j => bif Nat.beq j H.next then o else F j, ?_, ?_⟩
  · have hp : 2 ^ (d + 1) = 2 * 2 ^ d := by rw [Nat.pow_succ]; omega
    show H.next + 1 < 2 ^ (d + 1)
    omega
  · have hp : 2 ^ (d + 1) = 2 * 2 ^ d := by rw [Nat.pow_succ]; omega
    show H.m.put H.next o = _
    rw [hm, Tm.ofFn_up d _ _ hn, Tm.put_ofFn _ _ _ _ (by omega)]
    rfl
theorem WF.set (h : WF H) (r : Nat) (o : AObj) : WF (H.set r o) := by
  obtain ⟨d, F, hn, hm⟩ := h
  refine ⟨d, fun j => bif Nat.beq j r then o else F j, hn, ?_⟩
  · show H.m.set r o = _
    rw [hm, Tm.set_ofFn]; rfl
theorem get_push_new (h : WF H) (o : AObj) : (H.push o).get H.next = some o := by
  obtain ⟨d, F, hn, hm⟩ := h
  have hp : 2 ^ (d + 1) = 2 * 2 ^ d := by rw [Nat.pow_succ]; omega
  show (H.m.put H.next o).get H.next = some o
  rw [hm, Tm.ofFn_up d _ _ hn, Tm.put_ofFn _ _ _ _ (by omega), Tm.get_ofFn _ _ _ _ (by omega)]
  simp
theorem get_push_lt (h : WF H) (o : AObj) (hr : r < H.next) : (H.push o).get r = H.get r := by
  obtain ⟨d, F, hn, hm⟩ := h
  have hp : 2 ^ (d + 1) = 2 * 2 ^ d := by rw [Nat.pow_succ]; omega
  show (H.m.put H.next o).get r = H.m.get r
  rw [hm, Tm.ofFn_up d _ _ hn, Tm.put_ofFn _ _ _ _ (by omega), Tm.get_ofFn _ _ _ _ (by omega), Tm.get_ofFn _ _ _ _ (by omega)]
  have e : Nat.beq r H.next = false := by rw [← Bool.not_eq_true]; simp; omega
  rw [e, if_pos (by omega), if_pos hr]; rfl
theorem get_set_eq (h : WF H) (hr : r < H.next) (o : AObj) : (H.set r o).get r = some o := by
  obtain ⟨d, F, hn, hm⟩ := h
  show (H.m.set r o).get r = some o
  rw [hm, Tm.set_ofFn, Tm.get_ofFn _ _ _ _ hn, if_pos hr]
  simp
theorem next_push (H : AH) (o : AObj) : (H.push o).next = H.next + 1 := rfl
theorem next_set (H : AH) (r : Nat) (o : AObj) : (H.set r o).next = H.next := rfl

/-- What lies below n stands; nothing is lost. -/
structure Keep (n : Nat) (H H' : AH) : Prop where
  next : H.next ≤ H'.next
  get : ∀ r, r < n → H'.get r = H.get r
theorem Keep.refl : Keep n H H := ⟨Nat.le_refl _, fun _ _ => rfl⟩
theorem Keep.trans (h : Keep n H H1) (k : Keep n H1 H2) : Keep n H H2 := ⟨Nat.le_trans h.next k.next, fun r hr => (k.get r hr).trans (h.get r hr)⟩
theorem Keep.le (h : Keep n H H1) (hm : m ≤ n) : Keep m H H1 := ⟨h.next, fun r hr => h.get r (by omega)⟩
theorem Keep.push (h : WF H) (o : AObj) (hn : n ≤ H.next) : Keep n H (H.push o) := ⟨Nat.le_succ _, fun r hr => get_push_lt h o (by omega)⟩
theorem Keep.set (o : AObj) (hr : n ≤ r) : Keep n H (H.set r o) := ⟨Nat.le_refl _, fun s hs => get_set_ne (by omega)⟩
theorem Keep.some (h : Keep n H H1) (hr : r < n) (hg : H.get r = some o) : H1.get r = some o := (h.get r hr).trans hg

/-- What lies below n, but for some places, stands. -/
structure KeepX (n : Nat) (xs : List Nat) (H H' : AH) : Prop where
  next : H.next ≤ H'.next
  get : ∀ r, r < n → r ∉ xs → H'.get r = H.get r
theorem KeepX.refl {xs : List Nat} : KeepX n xs H H := ⟨Nat.le_refl _, fun _ _ _ => rfl⟩
theorem Keep.x (h : Keep n H H1) : KeepX n [] H H1 := ⟨h.next, fun r hr _ => h.get r hr⟩
theorem KeepX.keep (h : KeepX n [] H H1) : Keep n H H1 := ⟨h.next, fun r hr => h.get r hr (by simp)⟩
theorem KeepX.some1 (h : KeepX n [s] H H1) (hr : r < n) (hne : r ≠ s) (hg : H.get r = some o) : H1.get r = some o := (h.get r hr (by simpa using hne)).trans hg
theorem KeepX.some0 (h : KeepX n [] H H1) (hr : r < n) (hg : H.get r = some o) : H1.get r = some o := (h.get r hr (by simp)).trans hg
theorem KeepX.weak {xs : List Nat} (h : KeepX n xs H H1) (s : Nat) : KeepX n (s :: xs) H H1 := ⟨h.next, fun r hr hx => h.get r hr (fun h => hx (List.mem_cons_of_mem _ h))⟩
theorem KeepX.weak' (h : KeepX n [] H H1) : KeepX n [s] H H1 := h.weak s
theorem KeepX.le {xs : List Nat} (h : KeepX n xs H H1) (hm : m ≤ n) : KeepX m xs H H1 := ⟨h.next, fun r hr hx => h.get r (by omega) hx⟩
theorem KeepX.push {xs : List Nat} (h : KeepX H.next xs H H1) (hw : WF H1) (o : AObj) : KeepX H.next xs H (H1.push o) :=
  ⟨Nat.le_trans h.next (Nat.le_succ _), fun r hr hx => (get_push_lt hw o (by have := h.next; omega)).trans (h.get r hr hx)⟩
theorem KeepX.set {xs : List Nat} (h : KeepX H.next xs H H1) (o : AObj) (hr : H.next ≤ r) : KeepX H.next xs H (H1.set r o) :=
  ⟨h.next, fun s hs hx => (get_set_ne (by omega)).trans (h.get s hs hx)⟩
theorem KeepX.setx {xs : List Nat} (h : KeepX H.next xs H H1) (o : AObj) (r : Nat) : KeepX H.next (r :: xs) H (H1.set r o) :=
  ⟨h.next, fun s hs hx => (get_set_ne (fun e => hx (by simp [e]))).trans (h.get s hs (fun h => hx (List.mem_cons_of_mem _ h)))⟩
theorem KeepX.call {xs : List Nat} (h : KeepX H.next xs H H1) (k : Keep H1.next H1 H2) : KeepX H.next xs H H2 :=
  ⟨Nat.le_trans h.next k.next, fun r hr hx => (k.get r (by have := h.next; omega)).trans (h.get r hr hx)⟩
theorem KeepX.call0 {xs : List Nat} (h : KeepX H.next xs H H1) (k : KeepX H1.next [] H1 H2) : KeepX H.next xs H H2 := h.call k.keep
theorem KeepX.callH {xs : List Nat} (h : KeepX H.next xs H H1) (k : Keep H.next H1 H2) : KeepX H.next xs H H2 :=
  ⟨Nat.le_trans h.next k.next, fun r hr hx => (k.get r hr).trans (h.get r hr hx)⟩
theorem KeepX.to {xs : List Nat} (h : KeepX H.next xs H H1) (hx : ∀ x, x ∈ xs → n ≤ x) (hn : n ≤ H.next) : Keep n H H1 :=
  ⟨h.next, fun r hr => h.get r (by omega) (fun hm => by have := hx r hm; omega)⟩
theorem KeepX.callx {xs : List Nat} (h : KeepX H.next xs H H1) (k : KeepX H1.next [r] H1 H2) (hr : H.next ≤ r) : KeepX H.next xs H H2 :=
  ⟨Nat.le_trans h.next k.next, fun s hs hx => (k.get s (by have := h.next; omega) (by simp; omega)).trans (h.get s hs hx)⟩
theorem KeepX.cally {xs : List Nat} (h : KeepX H.next xs H H1) (k : KeepX H1.next [r] H1 H2) : KeepX H.next (r :: xs) H H2 :=
  ⟨Nat.le_trans h.next k.next, fun s hs hx => (k.get s (by have := h.next; omega) (fun e => hx (by simp at e; simp [e]))).trans (h.get s hs (fun h => hx (List.mem_cons_of_mem _ h)))⟩

/-! Slices as lists of elements, each a list of cells. -/
theorem cut_take {l k : List AV} {o n : Nat} (h : cut l o n = some k) : k = (l.drop o).take n ∧ o + n ≤ l.length := by
  unfold cut at h
  cases hb : Nat.ble (o + n) l.length with
  | true => rw [hb] at h; exact ⟨(Option.some.inj h).symm, Nat.le_of_ble_eq_true hb⟩
  | false => rw [hb] at h; cases h
theorem cut_of {l : List AV} {o n : Nat} (h : o + n ≤ l.length) : cut l o n = some ((l.drop o).take n) := by
  unfold cut
  rw [Nat.ble_eq_true_of_le h]; rfl
theorem cut_length {l k : List AV} {o n : Nat} (h : cut l o n = some k) : k.length = n := by
  obtain ⟨rfl, h2⟩ := cut_take h
  simp; omega
theorem cut_get {l k : List AV} {o n i : Nat} (h : cut l o n = some k) (hi : i < n) : l[o + i]? = k[i]? := by
  obtain ⟨rfl, h2⟩ := cut_take h
  rw [List.getElem?_take, if_pos hi, List.getElem?_drop]
theorem cut_one {l : List AV} {o : Nat} {v : AV} : cut l o 1 = some [v] ↔ l[o]? = some v := by
  constructor
  · intro h
    have := cut_get (i := 0) h (by omega)
    simpa using this
  · intro h
    have hlt : o < l.length := by
      rcases Nat.lt_or_ge o l.length with h1 | h1
      · exact h1
      · rw [List.getElem?_eq_none h1] at h; cases h
    rw [cut_of (by omega)]
    congr 1
    have : (l.drop o).take 1 = [v] := by
      rw [List.getElem?_eq_getElem hlt] at h
      rw [List.drop_eq_getElem_cons hlt]
      simp [Option.some.inj h]
    exact this
/-- A part of what was cut out. -/
theorem cut_cut {l k : List AV} {o n i m : Nat} (h : cut l o n = some k) (hi : i + m ≤ n) : cut l (o + i) m = cut k i m := by
  obtain ⟨rfl, h2⟩ := cut_take h
  rw [cut_of (by omega), cut_of (by simp; omega)]
  congr 1
  rw [List.drop_take, List.take_take, List.drop_drop]
  congr 1
  omega

theorem cut_zero (l : List AV) (n : Nat) : cut l 0 (0 * n) = some [] := by rw [Nat.zero_mul, cut_of (Nat.zero_le _)]; rfl
theorem cut_all {l : List AV} {n : Nat} (h : l.length = n) : cut l 0 n = some l := by rw [cut_of (by omega), ← h]; simp only [List.drop_zero, List.take_length]
theorem flatten_length {sz : Nat} : ∀ {es : List (List AV)}, (∀ e ∈ es, e.length = sz) → es.flatten.length = es.length * sz
  | [], _ => by simp
  | e :: es, h => by
      rw [List.flatten_cons, List.length_append, flatten_length (fun x hx => h x (List.mem_cons_of_mem _ hx)), h e List.mem_cons_self, List.length_cons, Nat.succ_mul]
      omega
theorem flatten_cut {sz : Nat} : ∀ {es : List (List AV)} {i : Nat} {e : List AV}, (∀ e ∈ es, e.length = sz) → es[i]? = some e → cut es.flatten (i * sz) sz = some e
  | [], i, e, _, h => by simp at h
  | x :: es, 0, e, hs, h => by
      simp only [List.getElem?_cons_zero, Option.some.injEq] at h
      subst h
      have hx := hs x List.mem_cons_self
      rw [cut_of (by rw [List.flatten_cons, List.length_append]; omega)]
      simp [hx]
  | x :: es, i + 1, e, hs, h => by
      have hx := hs x List.mem_cons_self
      have ih := flatten_cut (fun y hy => hs y (List.mem_cons_of_mem _ hy)) (by simpa using h)
      obtain ⟨h1, h2⟩ := cut_take ih
      have e1 : (i + 1) * sz = x.length + i * sz := by rw [Nat.succ_mul, hx]; omega
      rw [e1, cut_of (by rw [List.flatten_cons, List.length_append]; omega), h1, List.flatten_cons, List.drop_append, List.drop_eq_nil_of_le (Nat.le_add_right _ _), Nat.add_sub_cancel_left, List.nil_append]

/-- A slice value, its elements' cells. -/
def SlAt (H : AH) (v : AV) (sz : Nat) (es : List (List AV)) : Prop :=
  (∀ e ∈ es, e.length = sz) ∧ ((v = .nils ∧ es = []) ∨ ∃ r o kn c c0 ro g, v = .slice r o es.length kn c ∧ H.get r = some (.cells c0 ro g) ∧ cut c0 o (es.length * sz) = some es.flatten)

theorem SlAt.nil {sz : Nat} : SlAt H .nils sz [] := ⟨by simp, .inl ⟨rfl, rfl⟩⟩
theorem SlAt.keepx {v : AV} {sz : Nat} {es : List (List AV)} {xs : List Nat} (h : SlAt H v sz es) (hw : WF H) (hk : KeepX H.next xs H H') (hx : ∀ r o l kn c, v = .slice r o l kn c → r ∉ xs) : SlAt H' v sz es := by
  obtain ⟨h0, h⟩ := h
  refine ⟨h0, ?_⟩
  rcases h with h | ⟨r, o, kn, c, c0, ro, g, h1, h2, h3⟩
  · exact .inl h
  · exact .inr ⟨r, o, kn, c, c0, ro, g, h1, (hk.get r (hw.lt h2) (hx _ _ _ _ _ h1)).trans h2, h3⟩
theorem SlAt.keep {v : AV} {sz : Nat} {es : List (List AV)} (h : SlAt H v sz es) (hw : WF H) (hk : Keep H.next H H') : SlAt H' v sz es := h.keepx hw hk.x (by simp)
theorem SlAt.of {r o c g sz : Nat} {kn ro : Bool} {c0 : List AV} {es : List (List AV)} (hs : ∀ e ∈ es, e.length = sz) (hg : H.get r = some (.cells c0 ro g)) (hc : cut c0 o (es.length * sz) = some es.flatten) : SlAt H (.slice r o es.length kn c) sz es :=
  ⟨hs, .inr ⟨r, o, kn, c, c0, ro, g, rfl, hg, hc⟩⟩
theorem elem_cut {sz o i : Nat} {c0 e : List AV} {es : List (List AV)} (hs : ∀ e ∈ es, e.length = sz) (hc : cut c0 o (es.length * sz) = some es.flatten) (he : es[i]? = some e) : cut c0 (o + i * sz) sz = some e := by
  have hi : i < es.length := by
    rcases Nat.lt_or_ge i es.length with h | h
    · exact h
    · rw [List.getElem?_eq_none h] at he; cases he
  have : i * sz + sz ≤ es.length * sz := by
    have := Nat.mul_le_mul_right sz (Nat.succ_le_of_lt hi)
    rw [Nat.succ_mul] at this; exact this
  rw [cut_cut hc this]
  exact flatten_cut hs he
theorem SlAt.lt {r o l c sz : Nat} {kn : Bool} {es : List (List AV)} (h : SlAt H (.slice r o l kn c) sz es) (hw : WF H) : r < H.next := by
  rcases h.2 with ⟨h, _⟩ | ⟨r', o', kn', c', c0, ro, g, h1, h2, _⟩
  · cases h
  · cases h1; exact hw.lt h2

/-! Appending and map stores: what stands. -/
theorem appendTo_keep {el : TypeId} {i : TypeInfo} {new : List AV} {k : Nat} {v w : AV} (hw : WF H) (h : appendTo el i H new k v = some (w, H')) :
    WF H' ∧ ((v = .nils ∧ KeepX H.next [] H H') ∨ ∃ r o l kn c, v = .slice r o l kn c ∧ KeepX H.next [r] H H') := by
  cases v with
  | nils =>
    simp only [appendTo] at h
    cases hk : Nat.beq k 0 with
    | true => rw [hk] at h; cases h; exact ⟨hw, .inl ⟨rfl, KeepX.refl⟩⟩
    | false =>
      rw [hk] at h
      simp only [cond_false] at h
      obtain ⟨_, h⟩ := bif_some h
      cases h
      exact ⟨hw.push _, .inl ⟨rfl, KeepX.refl.push hw _⟩⟩
  | slice r o l kn c =>
    simp only [appendTo] at h
    refine ⟨?_, .inr ⟨r, o, l, kn, c, rfl, ?_⟩⟩
    all_goals
      cases hk : Nat.beq k 0 with
      | true =>
        rw [hk] at h
        simp only [cond_true] at h
        obtain ⟨_, h⟩ := bif_some h
        cases h
        first | exact hw | exact KeepX.refl
      | false =>
        rw [hk] at h
        simp only [cond_false] at h
        cases hc : (kn && Nat.ble (l + k) c) with
        | true =>
          rw [hc] at h
          simp only [cond_true] at h
          split at h
          · obtain ⟨_, h⟩ := bif_some h
            cases h
            first | exact hw.set _ _ | exact KeepX.refl.setx _ _
          · cases h
        | false =>
          rw [hc] at h
          simp only [cond_false] at h
          split at h
          · split at h
            · obtain ⟨_, h⟩ := bif_some h
              cases hkn : kn with
              | true =>
                rw [hkn] at h
                simp only [cond_true] at h
                cases h
                first | exact hw.push _ | exact (KeepX.refl.push hw _)
              | false =>
                rw [hkn] at h
                simp only [cond_false] at h
                obtain ⟨_, h⟩ := bif_some h
                cases h
                first | exact (hw.set _ _).push _ | exact (KeepX.refl.setx _ _).push (hw.set _ _) _
            · cases h
          · cases h
  | _ => cases h

theorem aappend_keep {P : Program} {t : TypeId} {zeros : Bool} {s x v : AV} (hw : WF H) (h : aappend P H t zeros s x = some (v, H')) :
    WF H' ∧ ((s = .nils ∧ KeepX H.next [] H H') ∨ ∃ r o l kn c, s = .slice r o l kn c ∧ KeepX H.next [r] H H') := by
  unfold aappend at h
  split at h
  · split at h
    · cases h
    · split at h
      · cases h
      · split at h
        · cases h
        · obtain ⟨_, h⟩ := bif_some h
          exact appendTo_keep hw h
  · cases h
theorem append_wf {P : Program} {t : TypeId} {zeros : Bool} {s x v : AV} (hw : WF H) (h : aappend P H t zeros s x = some (v, H')) : WF H' := (aappend_keep hw h).1
theorem append_nil {P : Program} {t : TypeId} {zeros : Bool} {x v : AV} (hw : WF H) (h : aappend P H t zeros .nils x = some (v, H')) : KeepX H.next [] H H' := by
  rcases (aappend_keep hw h).2 with ⟨_, h⟩ | ⟨r, o, l, kn, c, h1, _⟩
  · exact h
  · cases h1
theorem append_sl {P : Program} {t : TypeId} {zeros : Bool} {r o l c : Nat} {kn : Bool} {x v : AV} (hw : WF H) (h : aappend P H t zeros (.slice r o l kn c) x = some (v, H')) : KeepX H.next [r] H H' := by
  rcases (aappend_keep hw h).2 with ⟨h1, _⟩ | ⟨r', o', l', kn', c', h1, h⟩
  · cases h1
  · cases h1; exact h
theorem aupdate_keep {P : Program} {t : TypeId} {k x : AV} (hw : WF H) (h : aupdate P H t (.map r) k x = some H') : WF H' ∧ KeepX H.next [r] H H' := by
  unfold aupdate at h
  split at h
  · rename_i hm
    cases hm
    split at h
    · obtain ⟨_, h⟩ := bif_some h
      split at h
      · cases h; exact ⟨hw.set _ _, KeepX.refl.setx _ _⟩
      · cases h; exact ⟨hw.set _ _, KeepX.refl.setx _ _⟩
      · cases h
    · cases h
  · cases h
theorem update_of {P : Program} {t : TypeId} {m k x : AV} (h : (aupdate P H t m k x).map (fun H => (undefA, H)) = some (undefA, H')) : aupdate P H t m k x = some H' := by
  cases hu : aupdate P H t m k x with
  | none => rw [hu] at h; cases h
  | some K => rw [hu] at h; cases h; rfl
theorem update_wf {P : Program} {t : TypeId} {k x : AV} (hw : WF H) (h : (aupdate P H t (.map r) k x).map (fun H => (undefA, H)) = some (undefA, H')) : WF H' := (aupdate_keep hw (update_of h)).1
theorem update_sl {P : Program} {t : TypeId} {k x : AV} (hw : WF H) (h : (aupdate P H t (.map r) k x).map (fun H => (undefA, H)) = some (undefA, H')) : KeepX H.next [r] H H' := (aupdate_keep hw (update_of h)).2

/-! What floats, read beside a memory. -/
theorem view_get {fl : List (Nat × AObj)} (hr : r < H.next) : viewOf H fl r = H.get r := by
  unfold viewOf
  have : Nat.blt r H.next = true := Nat.ble_eq_true_of_le hr
  rw [this]; rfl
theorem view_cell1 {P : Program} {fl : List (Nat × AObj)} {t : TypeId} {c : List AV} {ro : Bool} {g q : Nat} {v : AV} (ht : aIsAgg P t = some false) (hr : r < H.next) (hg : H.get r = some (.cells c ro g)) (hv : c[q]? = some v) :
    aload P (viewOf H fl) t r q = some v := by
  unfold aload cellsAt
  rw [view_get hr, hg]
  simp only
  rw [ht]
  exact hv
theorem view_cells {P : Program} {fl : List (Nat × AObj)} {t : TypeId} {c l : List AV} {ro : Bool} {g q k : Nat} (ht : aIsAgg P t = some true) (hz : aSize P t = some k) (hr : r < H.next) (hg : H.get r = some (.cells c ro g)) (hv : cut c q k = some l) :
    aload P (viewOf H fl) t r q = some (.agg l) := by
  unfold aload cellsAt
  rw [view_get hr, hg]
  simp only
  rw [ht]
  simp only
  rw [hz]
  simp only
  rw [hv]

/-- A call that only reads what was there. -/
def Reads (P : Program) (gl : Gl) (f : FuncId) (args : List AV) (H : AH) (v : AV) : Prop := ∃ H', CallsTo P gl f args H v H' ∧ WF H' ∧ Keep H.next H H'
/-- A loop with a known state at each round. -/
theorem To.iter {P : Program} {gl : Gl} {ro : Option Nat} {f : FuncId} {k : Nat} {b : Code} {mk mk' : List Nat} {x : AX} {l' : List (Nat × AV)} {H' : AH} (live : Nat → List (Nat × AV)) (hp : Nat → AH) (n : Nat)
    (hs : ∀ i, i < n → To P gl ro f k b (live i) mk (hp i) .normal (live (i + 1)) mk (hp (i + 1))) (he : To P gl ro f k b (live n) mk (hp n) x l' mk' H') (hx : x ≠ .normal) :
    ∀ m i, i + m = n → To P gl ro f k (.loop b) (live i) mk (hp i) x l' mk' H'
  | 0, i, hi => by
      have : i = n := by omega
      subst this
      exact To.loop_stop he hx
  | m + 1, i, hi => To.loop (hs i (by omega)) (To.iter live hp n hs he hx m (i + 1) (by omega))
/-- An integer's sum that fits. -/
theorem w64e {n z : Int} (h1 : -9223372036854775808 ≤ n) (h2 : n ≤ 9223372036854775807) (h : n = z) : IntKind.wrap .i64 n = z := by rw [w64 h1 h2, h]

def ints (l : List Int) : List (List AV) := l.map fun x => [.int .i64 x]
theorem ints_length (l : List Int) : (ints l).length = l.length := by simp [ints]
theorem ints_get {l : List Int} {i : Nat} {x : Int} (h : l[i]? = some x) : (ints l)[i]? = some [.int .i64 x] := by simp [ints, h]

end
end Ai
end Go.Proofs.YtipgfljojhdhjaaGreatDoor

namespace Go.Proofs.YtipgfljojhdhjaaGreatDoor
namespace Ai

section
variable {P : Program} {H H' H1 : AH} {t el : TypeId} {v x : AV} {sz : Nat} {es fs : List (List AV)}

/-- A slice of one's own, that grows by append: nil, or empty, or a block that holds just its elements. -/
def Acc (P : Program) (H : AH) (t : TypeId) (v : AV) (es : List (List AV)) : Prop :=
  ∃ el i, P.underlying t = some (.slice el) ∧ P.info? el = some i ∧ 1 ≤ i.size ∧ i.size < 65536 ∧ (∃ z, aZero P el = some z ∧ z.cells.length = i.size) ∧ (∀ e ∈ es, e.length = i.size) ∧
    ((v = .nils ∧ es = []) ∨ (∃ r cs, v = .slice r 0 0 true 0 ∧ es = [] ∧ H.get r = some (.cells cs false 0)) ∨ ∃ r, v = .slice r 0 es.length false 0 ∧ H.get r = some (.cells es.flatten false (gcode i.size el)))

theorem Acc.sl (h : Acc P H t v es) : ∃ sz, SlAt H v sz es := by
  obtain ⟨el, i, h1, h2, h3, h4, h5, h6, h7⟩ := h
  refine ⟨i.size, h6, ?_⟩
  rcases h7 with h | ⟨r, cs, rfl, rfl, hg⟩ | ⟨r, rfl, hg⟩
  · exact .inl h
  · exact .inr ⟨r, 0, true, 0, cs, false, 0, rfl, hg, cut_zero _ _⟩
  · exact .inr ⟨r, 0, false, 0, _, false, _, rfl, hg, cut_all (flatten_length h6)⟩

theorem Acc.slAt (h : Acc P H t v es) {el : TypeId} {i : TypeInfo} (h1 : P.underlying t = some (.slice el)) (h2 : P.info? el = some i) : SlAt H v i.size es := by
  obtain ⟨el', i', k1, k2, h3, h4, h5, h6, h7⟩ := h
  rw [h1] at k1; cases k1
  rw [h2] at k2; cases k2
  refine ⟨h6, ?_⟩
  rcases h7 with h | ⟨r, cs, rfl, rfl, hg⟩ | ⟨r, rfl, hg⟩
  · exact .inl h
  · exact .inr ⟨r, 0, true, 0, cs, false, 0, rfl, hg, cut_zero _ _⟩
  · exact .inr ⟨r, 0, false, 0, _, false, _, rfl, hg, cut_all (flatten_length h6)⟩

theorem Acc.keepx {xs : List Nat} (h : Acc P H t v es) (hw : WF H) (hk : KeepX H.next xs H H') (hx : ∀ r o l kn c, v = .slice r o l kn c → r ∉ xs) : Acc P H' t v es := by
  obtain ⟨el, i, h1, h2, h3, h4, h5, h6, h7⟩ := h
  refine ⟨el, i, h1, h2, h3, h4, h5, h6, ?_⟩
  rcases h7 with h | ⟨r, cs, rfl, rfl, hg⟩ | ⟨r, rfl, hg⟩
  · exact .inl h
  · exact .inr (.inl ⟨r, cs, rfl, rfl, (hk.get r (hw.lt hg) (hx _ _ _ _ _ rfl)).trans hg⟩)
  · exact .inr (.inr ⟨r, rfl, (hk.get r (hw.lt hg) (hx _ _ _ _ _ rfl)).trans hg⟩)
theorem Acc.keep (h : Acc P H t v es) (hw : WF H) (hk : Keep H.next H H') : Acc P H' t v es := h.keepx hw hk.x (by simp)

theorem SlAt.len (h : SlAt H v sz es) (ht : P.underlying t = some (.slice el)) (get : Nat → Option AObj) : vLen P get t v = some (.int .i64 (es.length : Int)) := by
  rcases h.2 with ⟨rfl, rfl⟩ | ⟨r, o, kn, c, c0, ro, g, rfl, _, _⟩
  · simp [vLen, ht]
  · simp [vLen, ht]

/-- What is known of a slice type. -/
structure STy (P : Program) (t el : TypeId) (i : TypeInfo) : Prop where
  und : P.underlying t = some (.slice el)
  info : P.info? el = some i
  pos : 1 ≤ i.size
  lt : i.size < 65536
  zero : ∃ z, aZero P el = some z ∧ z.cells.length = i.size
theorem Acc.nil {i : TypeInfo} (h : STy P t el i) : Acc P H t .nils [] := ⟨el, i, h.und, h.info, h.pos, h.lt, h.zero, by simp, .inl ⟨rfl, rfl⟩⟩
theorem Acc.empty {i : TypeInfo} {r : Nat} {cs : List AV} (h : STy P t el i) (hg : H.get r = some (.cells cs false 0)) : Acc P H t (.slice r 0 0 true 0) [] := ⟨el, i, h.und, h.info, h.pos, h.lt, h.zero, by simp, .inr (.inl ⟨r, cs, rfl, rfl, hg⟩)⟩

theorem anew_sl {i : TypeInfo} {get : Nat → Option AObj} (h : SlAt H x i.size fs) (hg : get = H.get) : anew P get el i false x = some (fs.flatten, fs.length) := by
  subst hg
  obtain ⟨h0, h⟩ := h
  rcases h with ⟨rfl, rfl⟩ | ⟨r, o, kn, c, c0, ro, g, rfl, h2, h3⟩
  · rfl
  · simp only [anew, cellsAt]
    rw [h2]
    simp only
    rw [h3]; rfl

/-- Appending to a slice of one's own. -/
theorem append_acc {i : TypeInfo} (hty : STy P t el i) (hacc : Acc P H t v es) (hw : WF H) (hx : SlAt H x i.size fs) (hone : oneAll fs.flatten = true) (hb : (es.length + fs.length) * i.bytes ≤ 1000000000) (hb2 : es.length + fs.length ≤ 1000000000) :
    ∃ v' H', aappend P H t false v x = some (v', H') ∧ Acc P H' t v' (es ++ fs) ∧ WF H' ∧ H.next ≤ H'.next ∧
      (fs ≠ [] → v' = .slice H.next 0 (es.length + fs.length) false 0) ∧ (fs = [] → v' = v ∧ H' = H) := by
  obtain ⟨el', i', k1, k2, h3, h4, ⟨z, hz, hzl⟩, h6, h7⟩ := hacc
  rw [hty.und] at k1; cases k1
  rw [hty.info] at k2; cases k2
  have hfl := flatten_length hx.1
  have hel := flatten_length h6
  have hall : ∀ e ∈ es ++ fs, e.length = i.size := by
    intro e he
    rcases List.mem_append.1 he with h | h
    · exact h6 e h
    · exact hx.1 e h
  have key : ∀ v' H', appendTo el i H fs.flatten fs.length v = some (v', H') → aappend P H t false v x = some (v', H') := by
    intro v' H' h
    unfold aappend
    rw [hty.und]; simp only
    rw [hty.info]; simp only
    rw [hz]; simp only
    rw [anew_sl hx rfl]; simp only
    have e3 : Nat.ble 1 i.size = true := Nat.ble_eq_true_of_le h3
    have e4 : Nat.blt i.size 65536 = true := Nat.ble_eq_true_of_le h4
    rw [hzl, hfl, hone, e3, e4]
    simp [h]
  by_cases hf : fs = []
  · subst hf
    refine ⟨v, H, key _ _ ?_, ⟨el, i, hty.und, hty.info, h3, h4, ⟨z, hz, hzl⟩, hall, by simpa using h7⟩, hw, Nat.le_refl _, fun h => absurd rfl h, fun _ => ⟨rfl, rfl⟩⟩
    rcases h7 with ⟨rfl, rfl⟩ | ⟨r, cs, rfl, rfl, hg⟩ | ⟨r, rfl, hg⟩
    · rfl
    · rfl
    · rfl
  · have hn : fs.length ≠ 0 := by
      intro h; exact hf (List.length_eq_zero_iff.1 h)
    have hn0 : Nat.beq fs.length 0 = false := by rw [← Bool.not_eq_true]; simpa using hf
    have hbb : (Nat.ble ((es.length + fs.length) * i.bytes) 1000000000 && Nat.ble (es.length + fs.length) 1000000000) = true := by
      rw [Nat.ble_eq_true_of_le hb, Nat.ble_eq_true_of_le hb2]; rfl
    rcases h7 with ⟨rfl, rfl⟩ | ⟨r, cs, rfl, rfl, hg⟩ | ⟨r, rfl, hg⟩
    · refine ⟨.slice H.next 0 fs.length false 0, H.push (.cells fs.flatten false (gcode i.size el)), key _ _ ?_, ⟨el, i, hty.und, hty.info, h3, h4, ⟨z, hz, hzl⟩, hall, .inr (.inr ⟨H.next, by simp, ?_⟩)⟩, hw.push _, Nat.le_succ _, fun _ => by simp, fun h => absurd h hf⟩
      · simp only [appendTo]
        rw [hn0]
        simp only [List.length_nil, Nat.zero_add] at hbb
        rw [hbb]; rfl
      · simpa using get_push_new hw _
    · refine ⟨.slice H.next 0 fs.length false 0, H.push (.cells fs.flatten false (gcode i.size el)), key _ _ ?_, ⟨el, i, hty.und, hty.info, h3, h4, ⟨z, hz, hzl⟩, hall, .inr (.inr ⟨H.next, by simp, ?_⟩)⟩, hw.push _, Nat.le_succ _, fun _ => by simp, fun h => absurd h hf⟩
      · simp only [appendTo]
        rw [hn0, hg]
        have e1 : Nat.ble (0 + fs.length) 0 = false := by
          rw [← Bool.not_eq_true]; intro h; have := Nat.le_of_ble_eq_true h; omega
        have e2 : cut cs 0 (0 * i.size) = some [] := cut_zero _ _
        simp only [List.length_nil] at hbb
        rw [e1]
        simp only [cond_false, Bool.and_false]
        rw [e2]
        simp only
        rw [hbb]; simp
      · simpa using get_push_new hw _
    · refine ⟨.slice H.next 0 (es.length + fs.length) false 0, (H.set r .dead).push (.cells (es ++ fs).flatten false (gcode i.size el)), key _ _ ?_, ⟨el, i, hty.und, hty.info, h3, h4, ⟨z, hz, hzl⟩, hall, .inr (.inr ⟨H.next, by simp, ?_⟩)⟩, (hw.set _ _).push _, Nat.le_succ _, fun _ => rfl, fun h => absurd h hf⟩
      · simp only [appendTo]
        rw [hn0, hg]
        have e2 : cut es.flatten 0 (es.length * i.size) = some es.flatten := cut_all hel
        simp only [cond_false, Bool.false_and]
        rw [e2]
        simp only
        rw [hbb]
        simp
      · exact get_push_new (hw.set _ _) _

/-- A copy by append to an empty slice. -/
theorem append_copy {i : TypeInfo} (hty : STy P t el i) (hw : WF H) (hx : SlAt H x i.size fs) (hone : oneAll fs.flatten = true) (hb : fs.length * i.bytes ≤ 1000000000) (hb2 : fs.length ≤ 1000000000) :
    ∃ r k H', aappend P (H.push (.cells [] false 0)) t false (.slice H.next 0 0 true 0) x = some (.slice r 0 fs.length k 0, H') ∧ Acc P H' t (.slice r 0 fs.length k 0) fs ∧ WF H' ∧ H.next ≤ r ∧ Keep H.next H H' := by
  have w1 := hw.push (.cells [] false 0)
  have k1 := Keep.push hw (.cells [] false 0) (Nat.le_refl _)
  obtain ⟨v', H', a1, a2, a3, a4, a5, a6⟩ := append_acc hty (Acc.empty hty (get_push_new hw _)) w1 (hx.keep hw k1) hone (by simpa using hb) (by simpa using hb2)
  have kk : Keep H.next H H' := by
    have h := (append_sl w1 a1)
    exact k1.trans (h.to (by simp) (Nat.le_succ _))
  by_cases hf : fs = []
  · obtain ⟨rfl, rfl⟩ := a6 hf
    subst hf
    exact ⟨_, _, _, a1, by simpa using a2, a3, Nat.le_refl _, kk⟩
  · have e := a5 hf
    subst e
    simp only [List.length_nil, Nat.zero_add] at a1 a2
    exact ⟨_, _, _, a1, by simpa using a2, a3, Nat.le_succ _, kk⟩

/-! Maps by integers, of which nothing is struck out. -/
def entsFrom (n : Nat) : List (Int × AV) → List (AV × AV × Nat)
  | [] => []
  | (k, v) :: l => (.int .i64 k, v, n) :: entsFrom (n + 1) l
def ents (l : List (Int × AV)) : List (AV × AV × Nat) := entsFrom 0 l
def IMap (H : AH) (r : Nat) (l : List (Int × AV)) : Prop := H.get r = some (.map (ents l) l.length)
/-- What is laid under a key. -/
def lookI (k : Int) : List (Int × AV) → Option AV
  | [] => none
  | (j, v) :: l => if k = j then some v else lookI k l

theorem entsFrom_app (a b : List (Int × AV)) : ∀ n, entsFrom n (a ++ b) = entsFrom n a ++ entsFrom (n + a.length) b := by
  induction a with
  | nil => intro n; rfl
  | cons x a ih => intro n; obtain ⟨k, v⟩ := x; simp only [List.cons_append, entsFrom, ih, List.length_cons]; congr 3; omega
theorem entsFrom_length (a : List (Int × AV)) : ∀ n, (entsFrom n a).length = a.length := by
  induction a with
  | nil => intro n; rfl
  | cons x a ih => intro n; obtain ⟨k, v⟩ := x; simp [entsFrom, ih]

theorem aeq_int {kt : TypeId} {a b : Int} : aeq P kt (.int .i64 a) (.int .i64 b) = some (a == b) := by simp [aeq]

theorem findA_miss {kt : TypeId} {k : Int} : ∀ {l : List (Int × AV)} {n i : Nat}, lookI k l = none → findA P kt (.int .i64 k) (entsFrom n l) i = some none
  | [], _, _, _ => rfl
  | (j, v) :: l, n, i, h => by
      simp only [lookI] at h
      split at h
      · cases h
      · rename_i hne
        simp only [entsFrom, findA, aeq_int]
        have : (k == j) = false := by simpa using hne
        rw [this]
        exact findA_miss h
theorem findA_hit {kt : TypeId} {k : Int} {v : AV} : ∀ {l : List (Int × AV)} {n i : Nat}, lookI k l = some v → ∃ j, findA P kt (.int .i64 k) (entsFrom n l) i = some (some (j, v))
  | [], _, _, h => by cases h
  | (j, u) :: l, n, i, h => by
      simp only [lookI] at h
      split at h
      · rename_i he
        cases h
        refine ⟨i, ?_⟩
        simp only [entsFrom, findA, aeq_int]
        have : (k == j) = true := by simpa using he
        rw [this]
      · rename_i hne
        simp only [entsFrom, findA, aeq_int]
        have : (k == j) = false := by simpa using hne
        rw [this]
        exact findA_hit h

theorem keyOk_int {kt : TypeId} {k : Int} (hk : P.underlying kt = some (.int .i64)) : keyOk P kt (.int .i64 k) = true := by
  unfold keyOk; rw [hk]; rfl

theorem look_hit {kt e : TypeId} {r : Nat} {l : List (Int × AV)} {k : Int} {ok : Bool} {u : AV} (ht : P.underlying t = some (.map kt e)) (hk : P.underlying kt = some (.int .i64)) (hm : IMap H r l) (h : lookI k l = some u) :
    vLookup P H.get t (.map r) (.int .i64 k) ok = some (bif ok then .tup [u, .bool true] else u) := by
  unfold vLookup
  rw [ht]
  simp only [mapAt]
  rw [hm]
  simp only
  rw [keyOk_int hk]
  obtain ⟨j, hj⟩ := findA_hit (P := P) (kt := kt) (n := 0) (i := 0) h
  simp only [cond_true, ents]
  rw [hj]
theorem look_miss {kt e : TypeId} {r : Nat} {l : List (Int × AV)} {k : Int} {ok : Bool} {z : AV} (ht : P.underlying t = some (.map kt e)) (hk : P.underlying kt = some (.int .i64)) (hz : aZero P e = some z) (hm : IMap H r l) (h : lookI k l = none) :
    vLookup P H.get t (.map r) (.int .i64 k) ok = some (bif ok then .tup [z, .bool false] else z) := by
  unfold vLookup
  rw [ht]
  simp only [mapAt]
  rw [hm]
  simp only
  rw [keyOk_int hk]
  simp only [cond_true, ents]
  rw [findA_miss h]
  simp only
  rw [hz]
theorem update_new {kt e : TypeId} {r : Nat} {l : List (Int × AV)} {k : Int} {u : AV} (ht : P.underlying t = some (.map kt e)) (hk : P.underlying kt = some (.int .i64)) (hm : IMap H r l) (h : lookI k l = none) :
    (aupdate P H t (.map r) (.int .i64 k) u).map (fun H => (undefA, H)) = some (undefA, H.set r (.map (ents (l ++ [(k, u)])) (l.length + 1))) := by
  unfold aupdate
  rw [ht]
  simp only
  rw [hm]
  simp only
  rw [keyOk_int hk]
  simp only [cond_true, ents]
  rw [findA_miss h]
  simp only [Option.map_some, entsFrom_app, entsFrom, Nat.zero_add]

/-- Where two lists of integers are equal, cell by cell. -/
theorem beqL_ints : ∀ (a b : List Int), AV.beqL (a.map (.int .i64)) (b.map (.int .i64)) = decide (a = b)
  | [], [] => by simp [AV.beqL]
  | [], _ :: _ => by simp [AV.beqL]
  | _ :: _, [] => by simp [AV.beqL]
  | x :: a, y :: b => by
      simp only [List.map_cons, AV.beqL, AV.beq]
      rw [beqL_ints a b]
      rw [Bool.eq_iff_iff]
      simp

end
end Ai
end Go.Proofs.YtipgfljojhdhjaaGreatDoor

namespace Go.Proofs.YtipgfljojhdhjaaGreatDoor
namespace Ai
open Go.RowKit Go.ChangeShapes Go.WideShapes

/-- Values without a place in them. -/
def flatV : AV → Prop
  | .bool _ | .int _ _ | .str _ => True
  | _ => False
theorem flatV.conc {v : AV} (h : flatV v) (e e' : Emb) : conc e v = conc e' v := by
  cases v <;> first | rfl | cases h
theorem flatV.ids {v : AV} (h : flatV v) (e : Emb) (M : Nat → Prop) : v.ids e M := by
  cases v <;> first | trivial | cases h
theorem flatV.one {v : AV} (h : flatV v) : v.one = true := by
  cases v <;> first | rfl | cases h

/-- A piece of a block that holds flat values. -/
structure RB where
  b : Nat
  base : Nat
  c : List AV
def RB.ok (w : World) (x : RB) : Prop := ∃ (cs : Array Value) (T : TypeId) (lo hi : Nat), w.heap[x.b]? = some (.cells cs T (lo, hi)) ∧ (∀ i v, x.c[i]? = some v → cs[x.base + i]? = some (conc E0 v)) ∧ ∀ v ∈ x.c, flatV v

def pushAll (H : AH) : List RB → AH
  | [] => H
  | x :: l => pushAll (H.push (.cells x.c true 0)) l
def mkH (l : List RB) : AH := pushAll H0 l
def mkE (l : List RB) : Emb := ⟨fun r => ((l[r]?).map (·.b)).getD 0, fun r => ((l[r]?).map (·.base)).getD 0, fun _ => 0⟩

theorem wf_H0 : WF H0 := ⟨0, fun _ => .dead, by simp [H0], rfl⟩
theorem pushAll_next : ∀ (l : List RB) (H : AH), (pushAll H l).next = H.next + l.length
  | [], _ => rfl
  | _ :: l, H => by rw [pushAll, pushAll_next l, next_push, List.length_cons]; omega
theorem pushAll_wf : ∀ (l : List RB) {H : AH}, WF H → WF (pushAll H l)
  | [], _, h => h
  | _ :: l, _, h => pushAll_wf l (h.push _)
theorem pushAll_get : ∀ (l : List RB) {H : AH} (r : Nat), WF H → (pushAll H l).get r = if r < H.next then H.get r else (l[r - H.next]?).map fun x => .cells x.c true 0
  | [], H, r, h => by
      simp only [pushAll]
      split
      · rfl
      · rename_i hr
        cases hg : H.get r with
        | none => simp
        | some o => exact absurd (h.lt hg) hr
  | x :: l, H, r, h => by
      simp only [pushAll]
      rw [pushAll_get l r (h.push _), next_push]
      by_cases h1 : r < H.next
      · rw [if_pos (by omega), if_pos h1, get_push_lt h _ h1]
      · rw [if_neg h1]
        by_cases h2 : r = H.next
        · subst h2
          rw [if_pos (by omega), get_push_new h]
          simp
        · rw [if_neg (by omega)]
          have : r - H.next = (r - (H.next + 1)) + 1 := by omega
          rw [this, List.getElem?_cons_succ]
theorem mkH_get (l : List RB) (r : Nat) : (mkH l).get r = (l[r]?).map fun x => .cells x.c true 0 := by
  unfold mkH
  rw [pushAll_get l r wf_H0]
  simp [H0]
theorem mkH_next (l : List RB) : (mkH l).next = l.length := by
  unfold mkH; rw [pushAll_next]; simp [H0]
theorem mkH_wf (l : List RB) : WF (mkH l) := pushAll_wf l wf_H0

theorem mk_sim {w : World} {l : List RB} (h : ∀ x ∈ l, x.ok w) : Sim (mkE l) (mkH l) w := by
  refine ⟨fun r o hg => ?_, fun r o hg => ?_, fun r s o p h1 h2 _ _ hp => ?_⟩
  · exact (mkH_wf l).lt hg
  · rw [mkH_get] at hg
    cases hx : l[r]? with
    | none => rw [hx] at hg; cases hg
    | some x =>
      rw [hx] at hg
      cases hg
      obtain ⟨cs, T, lo, hi, h1, h2, h3⟩ := h x (List.mem_of_getElem? hx)
      have eb : (mkE l).blk r = x.b := by simp [mkE, hx]
      have ea : (mkE l).base r = x.base := by simp [mkE, hx]
      rw [eb, ea]
      exact ⟨cs, T, lo, hi, h1, fun i v hv => by rw [h2 i v hv, (h3 v (List.mem_of_getElem? hv)).conc], fun v hv => ⟨(h3 v hv).ids _ _, (h3 v hv).one⟩, (by intro h; cases h), fun h => absurd rfl h⟩
  · rw [mkH_get] at h2
    cases hx : l[s]? with
    | none => rw [hx] at h2; cases h2
    | some x => rw [hx] at h2; cases h2; cases hp

theorem mk_ro {l : List RB} {r : Nat} {o : AObj} (h : (mkH l).get r = some o) : o.wr = false := by
  rw [mkH_get] at h
  cases hx : l[r]? with
  | none => rw [hx] at h; cases h
  | some x => rw [hx] at h; cases h; rfl

/-- **A law's call**: true, and what was there stands. -/
theorem law_calls {P : Program} {gl : Gl} {w : World} {l : List RB} {f : FuncId} {avs : List AV} {H' : AH} (hmix : P.follows .mixedOrders = true) (hext : ExtOk P gl) (hl : ∀ x ∈ l, x.ok w) (hG : GlOk gl (mkE l) l.length)
    (hi : AV.idsL (mkE l) (· < l.length) avs) (h : CallsTo P gl f avs (mkH l) (.bool true) H') : Calls P f ⟨concL (mkE l) avs⟩ w fun en w' => en = .returned (.bool true) ∧ Below w.heap.size w w' := by
  obtain ⟨n, hn⟩ := h
  refine (call_sound hmix hext hn (mk_sim hl) (by rw [mkH_next]; exact hG) (by rw [mkH_next]; exact hi)).mono fun en w' hb => ?_
  obtain ⟨e', rfl, hx, _, _⟩ := hb
  exact ⟨by simp [conc], hx.below fun r o hg => mk_ro hg⟩

/-! Slices of integers, and of structs of integers. -/
/-- What a type of flat integers reads as. -/
def FlatE (P : Program) (e : TypeId) (kinds : List IntKind) : Prop :=
  P.cellsOf e = kinds.length ∧ ∀ {H : Type} (enc : TypeId × Value → H) (w : World) (base : Nat) (spare : Nat → Bool) (held : Bool) (fuel : Nat) (cs : List Value) (x : DataW H × List MemPlace),
    DataW.trod enc P w base spare held fuel e cs = some x → cs.length = kinds.length ∧ ∀ (i : Nat) (k : IntKind), kinds[i]? = some k → ∃ n : Int, cs[i]? = some (Value.int k n) ∧ (Lit.int k n).wf = true
theorem flat_int {P : Program} {e : TypeId} {k : IntKind} (he : P.underlying e = some (.int k)) (hc : P.cellsOf e = 1) : FlatE P e [k] := by
  refine ⟨hc, fun enc w base spare held fuel cs x h => ?_⟩
  obtain ⟨n, rfl, _, hw⟩ := DataW.trod_int he h
  refine ⟨rfl, fun i k' hk => ?_⟩
  cases i with
  | zero => simp at hk; subst hk; exact ⟨n, rfl, hw⟩
  | succ i => simp at hk
theorem flat_struct {P : Program} {e : TypeId} {fs : Array Field} {kinds : List IntKind} (he : P.underlying e = some (.struct fs)) (hc : P.cellsOf e = kinds.length)
    (hf : ∀ (i : Nat) (k : IntKind), kinds[i]? = some k → ∃ f : Field, fs[i]? = some f ∧ f.offset = i ∧ P.cellsOf f.type = 1 ∧ P.underlying f.type = some (.int k)) : FlatE P e kinds := by
  refine ⟨hc, fun enc w base spare held fuel cs x h => ?_⟩
  obtain ⟨xs, n, rfl, _, hlen, hxs, hfs⟩ := DataW.trod_struct he h
  refine ⟨by rw [hlen, hc], fun i k hk => ?_⟩
  obtain ⟨f, h1, h2, h3, h4⟩ := hf i k hk
  have h5 := hfs i f h1
  have hi : i < xs.length := by
    rw [hxs]; exact (Array.getElem?_eq_some_iff.1 h1).1
  rw [List.getElem?_eq_getElem hi, h2, h3] at h5
  obtain ⟨m, h6, _, h7⟩ := DataW.trod_int h4 h5
  refine ⟨m, ?_, h7⟩
  have : ((cs.drop i).take 1)[0]? = some (.int k m) := by rw [h6]; rfl
  rw [List.getElem?_take] at this
  simpa using this

theorem add_spot {a : Addr} (h : a.spot = none) (n : Nat) : a.add n = ⟨a.block, a.off + n, none⟩ := by
  obtain ⟨b, o, s⟩ := a
  simp only at h
  subst h
  unfold Addr.add
  split
  · rename_i hn; subst hn; rfl
  · rfl

/-- The integer that lies n cells behind a place. -/
def cellInt (w : World) (a : Addr) (n : Nat) : Int := match w.cell? (a.add n) with | some (.int _ z) => z | _ => 0

/-- A slice argument that can be read. -/
def ArgRows (w : World) (v : Value) (kinds : List IntKind) : Prop :=
  v = .slice none 0 0 ∨ ∃ a len cap, v = .slice (some a) len cap ∧ a.spot = none ∧ len ≤ cap ∧ cap ≤ maxLen ∧ (∃ cs T lo hi, w.heap[a.block]? = some (.cells cs T (lo, hi))) ∧
    ∀ n, n < cap * kinds.length → w.cell? (a.add n) = some (.int (kinds.getD (n % kinds.length) .i64) (cellInt w a n)) ∧ (Lit.int (kinds.getD (n % kinds.length) .i64) (cellInt w a n)).wf = true

theorem arg_rows {P : Program} {H : Type} {enc : TypeId × Value → H} {w : World} {held : Bool} {t e : TypeId} {kinds : List IntKind} {base fuel : Nat} {v : Value} {x : DataW H × List MemPlace} (hE : FlatE P e kinds) (ht : P.underlying t = some (.slice e)) (hk : kinds ≠ [])
    (hok : Cell.ok P w .any base t v) (h : DataW.trod enc P w 0 (fun _ => true) held fuel t [v] = some x) : ArgRows w v kinds := by
  rcases DataW.trod_slice ht h with ⟨h0, _⟩ | ⟨a, len, cap, elems, rest, n, _, hv, _, _, hl, hm, hlen, hel, hsp, _⟩
  · simp only [List.cons.injEq, and_true] at h0
    exact .inl h0
  · simp only [List.cons.injEq, and_true] at hv
    subst hv
    simp only [Cell.ok, ht] at hok
    obtain ⟨_, _, hhas⟩ := hok
    obtain ⟨_, hspot, row, cells, hshape, _⟩ := hhas
    have hkl : 0 < kinds.length := by
      rcases kinds with _ | ⟨k, ks⟩
      · exact absurd rfl hk
      · simp
    refine .inr ⟨a, len, cap, rfl, hspot, hl, hm, ?_, fun m hm' => ?_⟩
    · unfold World.shape? at hshape
      split at hshape
      · rename_i c el fr hb
        obtain ⟨lo, hi⟩ := fr
        exact ⟨c, el, lo, hi, hb⟩
      · cases hshape
    · -- the element and the cell
      obtain ⟨hrl, hr⟩ := hsp rfl
      have hdm := Nat.div_add_mod m kinds.length
      have hi : m / kinds.length < cap := Nat.div_lt_of_lt_mul (by rw [Nat.mul_comm]; exact hm')
      have hj : m % kinds.length < kinds.length := Nat.mod_lt _ hkl
      have hget : ∃ y, (w.cells? 0 (a.add (m / kinds.length * P.cellsOf e)) (P.cellsOf e)).bind (DataW.trod enc P w 0 (fun _ => true) held n e) = some y := by
        by_cases hlt : m / kinds.length < len
        · have := hel _ hlt
          rw [List.getElem?_eq_getElem (by omega)] at this
          exact ⟨_, this⟩
        · have := hr (m / kinds.length - len) (by omega)
          rw [show len + (m / kinds.length - len) = m / kinds.length by omega, List.getElem?_eq_getElem (by omega)] at this
          exact ⟨_, this⟩
      obtain ⟨y, hy⟩ := hget
      rw [Option.bind_eq_some_iff] at hy
      obtain ⟨cs, hcs, hy⟩ := hy
      obtain ⟨hlen2, hkk⟩ := hE.2 enc w 0 (fun _ => true) held n cs y hy
      rw [hE.1] at hcs
      have hcell := (World.cells?_some hcs).2.2 _ hj
      obtain ⟨z, hz, hwf⟩ := hkk _ _ (List.getElem?_eq_getElem hj)
      have hadd : (a.add (m / kinds.length * kinds.length)).add (m % kinds.length) = a.add m := by
        have e1 : a.off + m / kinds.length * kinds.length + m % kinds.length = a.off + m := by
          rw [Nat.add_assoc, Nat.mul_comm, hdm]
        rw [add_spot hspot, add_spot rfl, add_spot hspot, e1]
      rw [hadd, hz] at hcell
      have hkd : kinds.getD (m % kinds.length) .i64 = kinds[m % kinds.length] := by rw [List.getD_eq_getElem?_getD, List.getElem?_eq_getElem hj]; rfl
      have hci : cellInt w a m = z := by unfold cellInt; rw [hcell]
      rw [hkd, hci]
      exact ⟨hcell, hwf⟩

theorem arg_rows' {P : Program} {H : Type} {enc : TypeId × Value → H} {w : World} {held : Bool} {t e : TypeId} {kinds : List IntKind} {base : Nat} {v : Value} {d : DataW H} {p : List MemPlace} (hE : FlatE P e kinds) (ht : P.underlying t = some (.slice e)) (hk : kinds ≠ [])
    (hok : Value.okWide P w .any base t v) (h : DataW.Trod enc P w 0 (fun _ => true) held t v d p) : ArgRows w v kinds := by
  simp only [Value.okWide, ht, Cell.okWide] at hok
  obtain ⟨fuel, h⟩ := h
  have hv : v.cells.toList = [v] := by
    cases v <;> first | rfl | (simp [Cell.ok, ht] at hok)
  rw [hv] at h
  exact arg_rows hE ht hk hok h

/-- The elements. -/
def elemsOf (w : World) (kinds : List IntKind) : Value → List (List AV)
  | .slice (some a) len _ => (List.range len).map fun i => (List.range kinds.length).map fun j => .int (kinds.getD j .i64) (cellInt w a (i * kinds.length + j))
  | _ => []
def rbOf (w : World) (kinds : List IntKind) (dflt : RB) : Value → RB
  | .slice (some a) _ cap => ⟨a.block, a.off, (List.range (cap * kinds.length)).map fun n => .int (kinds.getD (n % kinds.length) .i64) (cellInt w a n)⟩
  | _ => dflt
def avOf (r : Nat) : Value → AV
  | .slice (some _) len cap => .slice r 0 len true cap
  | _ => .nils

theorem rows_ok {w : World} {v : Value} {kinds : List IntKind} {d : RB} (h : ArgRows w v kinds) (hd : d.ok w) : (rbOf w kinds d v).ok w := by
  rcases h with rfl | ⟨a, len, cap, rfl, hspot, hl, hm, ⟨cs, T, lo, hi, hb⟩, hc⟩
  · exact hd
  · refine ⟨cs, T, lo, hi, hb, fun i x hx => ?_, fun x hx => ?_⟩
    · simp only [rbOf, List.getElem?_map] at hx
      have hi' : i < cap * kinds.length := by
        rcases Nat.lt_or_ge i (cap * kinds.length) with h | h
        · exact h
        · rw [List.getElem?_eq_none (by simpa using h)] at hx; cases hx
      rw [List.getElem?_range hi'] at hx
      cases hx
      have := (hc i hi').1
      rw [add_spot hspot] at this
      unfold World.cell? at this
      simp only at this
      rw [hb] at this
      simp only [rbOf]
      simpa [conc] using this
    · simp only [rbOf, List.mem_map] at hx
      obtain ⟨i, _, rfl⟩ := hx
      trivial

theorem rows_conc {w : World} {v : Value} {kinds : List IntKind} {d : RB} {l : List RB} {r : Nat} (h : ArgRows w v kinds) (hr : l[r]? = some (rbOf w kinds d v)) : conc (mkE l) (avOf r v) = v := by
  rcases h with rfl | ⟨a, len, cap, rfl, hspot, hl, hm, hb, hc⟩
  · simp [avOf, conc]
  · obtain ⟨b, o, sp⟩ := a
    simp only at hspot
    subst hspot
    simp [avOf, conc, mkE, hr, rbOf]

theorem rows_ids {v : Value} {e : Emb} {r n : Nat} (hr : r < n) : (avOf r v).ids e (· < n) := by
  unfold avOf
  split
  · exact ⟨hr, by simp⟩
  · trivial

theorem flat_range (g : Nat → AV) (sz : Nat) : ∀ n, ((List.range n).map fun i => (List.range sz).map fun j => g (i * sz + j)).flatten = (List.range (n * sz)).map g
  | 0 => by simp
  | n + 1 => by
      rw [List.range_succ, List.map_append, List.flatten_append, flat_range g sz n, Nat.succ_mul, List.range_add, List.map_append]
      simp [List.map_map, Function.comp_def]

theorem rows_sl {w : World} {v : Value} {kinds : List IntKind} {d : RB} {l : List RB} {r : Nat} (h : ArgRows w v kinds) (hr : l[r]? = some (rbOf w kinds d v)) : SlAt (mkH l) (avOf r v) kinds.length (elemsOf w kinds v) := by
  rcases h with rfl | ⟨a, len, cap, rfl, hspot, hl, hm, hb, hc⟩
  · exact SlAt.nil
  · have hlen : (elemsOf w kinds (.slice (some a) len cap)).length = len := by simp [elemsOf]
    have hg : (mkH l).get r = some (.cells (rbOf w kinds d (.slice (some a) len cap)).c true 0) := by rw [mkH_get, hr]; rfl
    have hfl : (elemsOf w kinds (.slice (some a) len cap)).flatten = (List.range (len * kinds.length)).map fun n => .int (kinds.getD (n % kinds.length) .i64) (cellInt w a n) := by
      rw [← flat_range]
      simp only [elemsOf]
      congr 1
      refine List.map_congr_left fun i _ => List.map_congr_left fun j hj => ?_
      have hj := List.mem_range.1 hj
      have : (i * kinds.length + j) % kinds.length = j := by rw [Nat.mul_comm, Nat.mul_add_mod, Nat.mod_eq_of_lt hj]
      rw [this]
    have hcut : cut (rbOf w kinds d (.slice (some a) len cap)).c 0 ((elemsOf w kinds (.slice (some a) len cap)).length * kinds.length) = some (elemsOf w kinds (.slice (some a) len cap)).flatten := by
      have hle : len * kinds.length ≤ cap * kinds.length := Nat.mul_le_mul_right _ hl
      rw [hlen, cut_of (by simp [rbOf]; omega), hfl]
      simp only [rbOf, List.drop_zero, ← List.map_take, List.take_range]
      rw [Nat.min_eq_left hle]
    have := SlAt.of (sz := kinds.length) (kn := true) (c := cap) (by intro e he; simp only [elemsOf, List.mem_map] at he; obtain ⟨i, _, rfl⟩ := he; simp) hg hcut
    rw [hlen] at this
    exact this

/-! What stands behind the call. -/
theorem trodAll_below {H : Type} {enc : TypeId × Value → H} {P : Program} (hl : laidOutB P = true) {W W' : World} (hb : Below W.heap.size W W') :
    ∀ {ts : List TypeId} {vs : List Value} {ds : List (DataW H)} {ps : List MemPlace}, (ts.all fun t => P.readableRec t && decide (t < P.types.size)) = true → (∀ x ∈ ps, x.block < W.heap.size) →
      DataW.TrodAll enc P W 0 (fun _ => true) true ts vs ds ps → DataW.TrodAll enc P W' 0 (fun b => decide (b < W.heap.size)) true ts vs ds ps
  | [], vs, ds, ps, _, _, h => by
      cases vs with
      | nil => cases ds with
        | nil => exact h
        | cons _ _ => exact h.elim
      | cons _ _ => exact h.elim
  | t :: ts, vs, ds, ps, hr, hlt, h => by
      cases vs with
      | nil => exact h.elim
      | cons v vs =>
        cases ds with
        | nil => exact h.elim
        | cons d ds =>
          obtain ⟨p, q, h1, h2, rfl⟩ := h
          simp only [List.all_cons, Bool.and_eq_true, decide_eq_true_eq] at hr
          exact ⟨p, q, Below.trod hl hr.1.1 hr.1.2 h1 hb (fun x hx => hlt x (List.mem_append_left _ hx)), trodAll_below hl hb (by simpa using hr.2) (fun x hx => hlt x (List.mem_append_right _ hx)) h2, rfl⟩

/-- The row's last word, for a law: true; the arguments read as they did. -/
theorem law_post {H : Type} {enc : TypeId × Value → H} {P : Program} {f : Func} {s : ChangeSpec} {apart fresh handsOn : Bool} {W W' : World} {args : Array Value} {ds : List (DataW H)} {before : List MemPlace} (hl : laidOutB P = true)
    (hr : (f.params.toList.all fun t => P.readableRec t && decide (t < P.types.size)) = true) (hv : s.vars = []) (ht : ∃ t, f.resultTypes = #[t] ∧ P.underlying t = some .bool)
    (hW : DataW.Whole enc P f.params.toList s.vars apart W args.toList ds [] before) (hb : Below W.heap.size W W') (hs : s.fn H (ds ++ []) = { results := [.lit (.bool true)], args := ds }) :
    s.post enc P f apart fresh handsOn false W args (.bool true) W' := by
  have hlt := hW.lt
  have hW2 := hW
  obtain ⟨p, q, hA, hV, hpq, _, _⟩ := hW2
  rw [hv] at hV
  obtain ⟨_, rfl⟩ := trodVars_none hV
  have hpq : before = p := by rw [hpq, List.append_nil]
  subst hpq
  refine ⟨ds, [], before, [], before, [], hW, ?_, ?_, ?_, hb.frame _, (fun h => by cases h)⟩
  · rw [hs]
    obtain ⟨t, ht1, ht2⟩ := ht
    rw [ht1]
    exact trodAll_mk1 (shut_bool ht2 _)
  · rw [hs]
    exact trodAll_below hl hb hr hlt hA
  · rw [hs, hv]
    rfl
end Ai
end Go.Proofs.YtipgfljojhdhjaaGreatDoor
