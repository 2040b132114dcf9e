import Derived.Calls
import Derived.OrdersHeld
import Derived.Still
import Derived.Tactics
import Derived.Below
import Derived.Laws.AppendOwn
import Derived.Laws.Sem
import Derived.KernelRfl
import Derived.Laws.CopyRow
import Derived.Laws.Tables
import Derived.Laws.Entries
import Derived.Laws.IdiomRangeMap
import Derived.WalkKit
import Derived.Laws.CopyOwn
import Derived.Laws.MakeOwn
import Derived.Laws.Slices
import Derived.Maps.AppendAt
import Derived.Test.YtckdapbopihofaaGreatDoorProg
import Derived.Shelf.Strings.Builder1
import Derived.Shelf.Small.Strs
import Derived.Shelf.Strconv.Itoa0
import Derived.Shelf.Strconv.Itoa1
import Derived.Shelf.LaysM
import Derived.Shelf.Strconv.Itoa2
import Derived.Shelf.Strconv.Itoa3
import Derived.Shelf.Strings.Search1
import Derived.Shelf.Bits.Mul64
import Derived.Laws.Externs
/- WordsNone: for every input the law answers true, its arguments left as they were (the tied card). A part of that proof: Base, Ops, Eff, Sl, Fork, Fill, Facts, Shelf, Lib, Sets, TokenP, TokenQ, Nat, Bytes, Token. Conditions: none beyond the statement's own. By an AI agent; no person has read it. -/
section
set_option linter.unusedVariables false
set_option linter.unusedSimpArgs false
namespace Go.Clt
open Go
theorem beq_ne {i d : Nat} (h : ¬ i = d) : Nat.beq i d = false := by
  cases hb : Nat.beq i d with
  | false => rfl
  | true => exact absurd (Nat.eq_of_beq_eq_true hb) h
abbrev Env := List (Nat × Value)
def lk : Env → Nat → Option Value
  | [], _ => none
  | (j, v) :: r, i => cond (Nat.beq i j) (some v) (lk r i)
def ev (e : Env) : Operand → Option Value
  | .tmp t => lk e t
  | .const v => some v
  | .global g => some (.pointer (some ⟨g, 0, none⟩))
  | .func f => some (.func (.func f) #[] #[])
theorem lk_int {e : Env} {i : Nat} {k : IntKind} {a b : Int} (h : lk e i = some (.int k a)) (hab : a = b) : lk e i = some (.int k b) := by rw [h, hab]
theorem lk_bool {e : Env} {i : Nat} {a b : Bool} (h : lk e i = some (.bool a)) (hab : a = b) : lk e i = some (.bool b) := by rw [h, hab]
theorem lk_val {e : Env} {i : Nat} {a b : Value} (h : lk e i = some a) (hab : a = b) : lk e i = some b := by rw [h, hab]
structure Rep (n : Nat) (a : Act) (e : Env) : Prop where
  size : a.tmps.size = n
  get : ∀ i v, lk e i = some v → a.tmps.getD i undef = v
  defers : a.defers = []
theorem Rep.ev {n : Nat} {a : Act} {e : Env} (h : Rep n a e) {x : Operand} {v : Value} (hx : ev e x = some v) : a.eval x = v := by
  cases x with
  | tmp t => exact h.get t v hx
  | const u => exact Option.some.inj hx
  | global g => exact Option.some.inj hx
  | func f => exact Option.some.inj hx
theorem Rep.put {n : Nat} {a : Act} {e : Env} (h : Rep n a e) (d : Nat) (v : Value) (hd : Nat.blt d n = true) : Rep n (a.put (some d) v) ((d, v) :: e) := by
  have hd' : d < n := by simpa [Nat.blt_eq] using hd
  refine ⟨by simp [Act.put, h.size], fun i u hi => ?_, by simp [Act.put, h.defers]⟩
  simp only [lk] at hi
  by_cases hid : i = d
  · subst hid
    simp at hi
    subst hi
    simp [Act.put, h.size, hd']
  · have hb := beq_ne hid
    rw [hb] at hi
    have := h.get i u hi
    simpa [Act.put, Array.getElem?_setIfInBounds_ne (Ne.symm hid)] using this
def Sub : Env → Env → Prop
  | [], _ => True
  | (j, v) :: r, e => lk e j = some v ∧ Sub r e
theorem Sub.get {e' e : Env} (h : Sub e' e) : ∀ i v, lk e' i = some v → lk e i = some v := by
  induction e' with
  | nil => intro i v hi; simp [lk] at hi
  | cons p r ih =>
    intro i v hi
    simp only [lk] at hi
    cases hb : Nat.beq i p.1 with
    | true =>
      rw [hb] at hi
      have : i = p.1 := by simpa using hb
      subst this
      simp at hi
      subst hi
      exact h.1
    | false => rw [hb] at hi; exact ih h.2 i v hi
theorem Rep.sub {n : Nat} {a : Act} {e e' : Env} (h : Rep n a e) (hs : Sub e' e) : Rep n a e' := ⟨h.size, fun i v hi => h.get i v (hs.get i v hi), h.defers⟩
def argEnv : List Value → Nat → Env
  | [], _ => []
  | v :: r, i => (i, v) :: argEnv r (i + 1)
theorem lk_argEnv (l : List Value) : ∀ (k i : Nat) (v : Value), lk (argEnv l k) i = some v → k ≤ i ∧ l[i - k]? = some v := by
  induction l with
  | nil => intro k i v h; simp [argEnv, lk] at h
  | cons u r ih =>
    intro k i v h
    simp only [argEnv, lk] at h
    by_cases hik : i = k
    · subst hik
      simp at h
      subst h
      exact ⟨Nat.le_refl _, by simp⟩
    · have hb := beq_ne hik
      rw [hb] at h
      obtain ⟨h1, h2⟩ := ih (k + 1) i v h
      refine ⟨by omega, ?_⟩
      have : i - k = (i - (k + 1)) + 1 := by omega
      rw [this, List.getElem?_cons_succ]
      exact h2
section
variable {P : Program} {n : Nat}
def post (n : Nat) (N : Env → World → Prop) (B : Nat → Env → World → Prop) (R : Env → World → Prop) : Exit → Act → World → Prop
  | .normal, a, w => ∃ e, Rep n a e ∧ N e w
  | .exit k, a, w => ∃ e, Rep n a e ∧ B k e w
  | .ret, a, w => ∃ e, Rep n a e ∧ R e w
  | _, _, _ => False
def EW (P : Program) (n : Nat) (c : Code) (N : Env → World → Prop) (B : Nat → Env → World → Prop) (R : Env → World → Prop) (e : Env) (w : World) : Prop :=
  ∀ a, Rep n a e → c.wp P (post n N B R) a w
variable {N : Env → World → Prop} {B : Nat → Env → World → Prop} {R : Env → World → Prop} {e : Env} {w : World}
theorem EW.sub {c : Code} (e' : Env) (hs : Sub e' e) (h : EW P n c N B R e' w) : EW P n c N B R e w := fun a ha => h a (ha.sub hs)
theorem EW.seq {x y : Code} (h : EW P n x (fun e w => EW P n y N B R e w) B R e w) : EW P n (.seq x y) N B R e w := fun a ha =>
  wp_seq (Code.wp_mono (fun ex a' w' hq => by
    cases ex with
    | normal => obtain ⟨e', he', hN⟩ := hq; exact hN a' he'
    | _ => exact hq) (h a ha))
theorem EW.skip (h : N e w) : EW P n .skip N B R e w := fun a ha => wp_skip ⟨e, ha, h⟩
theorem EW.ret (h : R e w) : EW P n .ret N B R e w := fun a ha => wp_ret ⟨e, ha, h⟩
theorem EW.exit {k : Nat} (h : B k e w) : EW P n (.exit k) N B R e w := fun a ha => wp_exit ⟨e, ha, h⟩
def brk (id : Nat) (N : Env → World → Prop) (B : Nat → Env → World → Prop) (k : Nat) (e : Env) (w : World) : Prop := cond (Nat.beq k id) (N e w) (B k e w)
theorem EW.block {id : Nat} {c : Code} (h : EW P n c N (brk id N B) R e w) : EW P n (.block id c) N B R e w := fun a ha =>
  wp_block (Code.wp_mono (fun ex a' w' hq => by
    cases ex with
    | exit k =>
      obtain ⟨e', he', hB⟩ := hq
      simp only [Exit.inBlock, brk] at hB ⊢
      by_cases hk : k = id
      · subst hk
        simp at hB ⊢
        exact ⟨e', he', hB⟩
      · have hb := beq_ne hk
        rw [hb] at hB
        simp only [cond_false] at hB
        rw [if_neg hk]
        exact ⟨e', he', hB⟩
    | _ => exact hq) (h a ha))
theorem brk_here {id : Nat} (h : N e w) : brk id N B id e w := by unfold brk; simp; exact h
theorem brk_past {k id : Nat} (hk : Nat.beq k id = false) (h : B k e w) : brk id N B k e w := by unfold brk; rw [hk]; exact h
theorem EW.cond {c : Operand} {x y : Code} {t : Bool} (hc : ev e c = some (.bool t)) (h1 : t = true → EW P n x N B R e w) (h2 : t = false → EW P n y N B R e w) : EW P n (.cond c x y) N B R e w := fun a ha =>
  wp_cond_split (ha.ev hc) (fun ht => h1 ht a ha) (fun ht => h2 ht a ha)
theorem EW.condT {c : Operand} {x y : Code} (hc : ev e c = some (.bool true)) (h1 : EW P n x N B R e w) : EW P n (.cond c x y) N B R e w := EW.cond hc (fun _ => h1) (fun h => by cases h)
theorem EW.condF {c : Operand} {x y : Code} (hc : ev e c = some (.bool false)) (h1 : EW P n y N B R e w) : EW P n (.cond c x y) N B R e w := EW.cond hc (fun h => by cases h) (fun _ => h1)
theorem EW.mono {c : Code} {N' : Env → World → Prop} {B' : Nat → Env → World → Prop} {R' : Env → World → Prop} (hN : ∀ e w, N e w → N' e w) (hB : ∀ k e w, B k e w → B' k e w) (hR : ∀ e w, R e w → R' e w) (h : EW P n c N B R e w) : EW P n c N' B' R' e w := fun a ha =>
  Code.wp_mono (fun ex a' w' hq => by
    cases ex with
    | normal => obtain ⟨e', he', hN'⟩ := hq; exact ⟨e', he', hN _ _ hN'⟩
    | exit k => obtain ⟨e', he', hN'⟩ := hq; exact ⟨e', he', hB _ _ _ hN'⟩
    | ret => obtain ⟨e', he', hN'⟩ := hq; exact ⟨e', he', hR _ _ hN'⟩
    | _ => exact hq) (h a ha)
theorem EW.cut {x y : Code} (M : Env → World → Prop) (h : EW P n x M B R e w) (h2 : ∀ e w, M e w → EW P n y N B R e w) : EW P n (.seq x y) N B R e w :=
  EW.seq (EW.mono h2 (fun _ _ _ h => h) (fun _ _ h => h) h)
theorem EW.loop {c : Code} {σ : Type} (E : σ → Env) (I : σ → World → Prop) (μ : σ → World → Nat) (s0 : σ) (hs : Sub (E s0) e) (h0 : I s0 w)
    (round : ∀ s w, I s w → EW P n c (fun e' w' => ∃ s', Sub (E s') e' ∧ I s' w' ∧ μ s' w' < μ s w) B R (E s) w) : EW P n (.loop c) N B R e w := by
  intro a ha b k cs
  have key : ∀ m s w, μ s w = m → I s w → ∀ a, Rep n a (E s) → ∃ ex a' w', post n N B R ex a' w' ∧ Arrives P (lone (b.at a (.code c :: .inLoop c :: k)) cs w) b k cs ex a' w' := by
    intro m
    induction m using Nat.strongRecOn with
    | _ m ih =>
      intro s w hm hI a ha
      obtain ⟨ex, a1, w1, hq, harr⟩ := round s w hI a ha b (.inLoop c :: k) cs
      cases ex with
      | normal =>
        obtain ⟨e', he', s', hs', hI', hlt⟩ := hq
        obtain ⟨ex2, a2, w2, hq2, harr2⟩ := ih (μ s' w1) (by omega) s' w1 rfl hI' a1 (he'.sub hs')
        exact ⟨ex2, a2, w2, hq2, .of_steps (Steps.trans harr (.one step_inLoop)) harr2⟩
      | exit j => exact ⟨.exit j, a1, w1, hq, .pass (x := .inLoop c) rfl (fun _ _ => .inl (by simp)) harr⟩
      | ret => exact ⟨.ret, a1, w1, hq, .pass (x := .inLoop c) rfl (fun _ _ => .inl (by simp)) harr⟩
      | _ => exact hq.elim
  obtain ⟨ex, a', w', hq, harr⟩ := key _ s0 w rfl h0 a (ha.sub hs)
  exact ⟨ex, a', w', hq, .of_steps (.one step_loop) harr⟩
end
section
variable {P : Program} {ops : Array Oper} {Q : Exit → Act → World → Prop} {md : Region.Mode} {S : World → Prop} {tl : Nat}
def wpAnyT (P : Program) (md : Region.Mode) (ops : Array Oper) (Q : Exit → Act → World → Prop) (S : World → Prop) (tl : Nat) : Nat → Array Bool → Act → World → Prop
  | 0, listed, a, w => Region.ready md ops listed = [] ∧ Q .normal a w
  | fuel + 1, listed, a, w =>
    (Region.ready md ops listed = [] → Q .normal a w) ∧
    ∀ i ∈ Region.ready md ops listed, wpOp P ops Q i (fun a' w' => (i < tl → S w') ∧ wpAnyT P md ops Q S tl fuel (listed.setIfInBounds i true) a' w') a w
theorem wpAny_of_T : ∀ (fuel : Nat) (listed : Array Bool) (a : Act) (w : World), wpAnyT P md ops Q S tl fuel listed a w → wpAny P md ops Q fuel listed a w
  | 0, _, _, _, h => h
  | fuel + 1, _, _, _, h => ⟨h.1, fun i hi => wpOp_mono (fun a' w' h' => wpAny_of_T fuel _ a' w' h'.2) (h.2 i hi)⟩
def predsOf (md : Region.Mode) (ops : Array Oper) (j : Nat) : List Nat := ((ops[j]?).map fun o => (o.after.toList.filter (Region.binds md)).map (·.on)).getD []
def closeL (md : Region.Mode) (ops : Array Oper) : Nat → List Nat → List Nat
  | 0, l => l
  | f + 1, l => closeL md ops f (l ++ l.flatMap (predsOf md ops)).eraseDups
def tailF (md : Region.Mode) (ops : Array Oper) (F tl : Nat) : Bool :=
  (List.range ops.size).all fun j => decide (j < tl) || (let c := closeL md ops F (predsOf md ops j); (List.range tl).all fun i => c.contains i)
def tailB (md : Region.Mode) (ops : Array Oper) (tl : Nat) : Bool := tailF md ops 9 tl
def Closed (md : Region.Mode) (ops : Array Oper) (listed : Array Bool) : Prop := ∀ k, listed.getD k false = true → ∀ o, ops[k]? = some o → ∀ e ∈ o.after, Region.binds md e = true → listed.getD e.on false = true
theorem mem_predsOf {k j : Nat} (h : k ∈ predsOf md ops j) : ∃ o, ops[j]? = some o ∧ ∃ e ∈ o.after, Region.binds md e = true ∧ e.on = k := by
  unfold predsOf at h
  cases ho : ops[j]? with
  | none => rw [ho] at h; simp at h
  | some o =>
    rw [ho] at h
    simp only [Option.map_some, Option.getD_some, List.mem_map, List.mem_filter] at h
    obtain ⟨e, ⟨h1, h2⟩, h3⟩ := h
    exact ⟨o, rfl, e, by simpa using h1, h2, h3⟩
theorem closeL_listed {listed : Array Bool} (hc : Closed md ops listed) : ∀ (f : Nat) (l : List Nat), (∀ k ∈ l, listed.getD k false = true) → ∀ k ∈ closeL md ops f l, listed.getD k false = true
  | 0, l, h => h
  | f + 1, l, h => closeL_listed hc f _ fun k hk => by
    rw [List.mem_eraseDups, List.mem_append, List.mem_flatMap] at hk
    rcases hk with hk | ⟨j, hj, hk⟩
    · exact h k hk
    · obtain ⟨o, ho, e, he, hb, rfl⟩ := mem_predsOf hk
      exact hc j (h j hj) o ho e he hb
theorem tail_listed {F : Nat} (h : tailF md ops F tl = true) {listed : Array Bool} (hc : Closed md ops listed) {i j : Nat} {oj : Oper} (hi : i < tl) (hj : ¬ j < tl) (ho : ops[j]? = some oj) (hall : ∀ e ∈ oj.after, Region.binds md e = true → listed.getD e.on false = true) : listed.getD i false = true := by
  have hlt : j < ops.size := (Array.getElem?_eq_some_iff.1 ho).1
  unfold tailF at h
  rw [List.all_eq_true] at h
  have h1 := h j (List.mem_range.2 hlt)
  simp only [hj, decide_false, Bool.false_or] at h1
  rw [List.all_eq_true] at h1
  have h2 := h1 i (List.mem_range.2 hi)
  have hL : ∀ k ∈ closeL md ops F (predsOf md ops j), listed.getD k false = true := by
    refine closeL_listed hc F _ (fun k hk => ?_)
    obtain ⟨o, ho', e, he, hb, rfl⟩ := mem_predsOf hk
    rw [ho] at ho'
    injection ho' with ho'
    subst ho'
    exact hall e he hb
  generalize closeL md ops F (predsOf md ops j) = L at h2 hL
  exact hL i (List.contains_iff_mem.1 h2)
theorem Closed.add {listed : Array Bool} (hc : Closed md ops listed) {j : Nat} {oj : Oper} (ho : ops[j]? = some oj) (hall : ∀ e ∈ oj.after, Region.binds md e = true → listed.getD e.on false = true) : Closed md ops (listed.setIfInBounds j true) := by
  intro k hk o hok e he hb
  by_cases hkj : k = j
  · subst hkj
    rw [ho] at hok
    injection hok with hok
    subst hok
    exact getD_set_true (hall e he hb)
  · rw [getD_set_ne false (Ne.symm hkj)] at hk
    exact getD_set_true (hc k hk o hok e he hb)
theorem wpAnyT_first {i : Nat} {oi : Oper} {v : Value} (hi : ops[i]? = some oi) (hsel : ∀ (j : Nat) (o : Oper) cs b, ops[j]? = some o → o.op ≠ .select cs b)
    (hQ : ∀ c a w, Q (.panic c) (a.put oi.dst v) w → Q (.panic c) a w) (ht : tailB md ops tl = true) (hit : i < tl) :
    ∀ (fuel : Nat) (listed : Array Bool) (a : Act) (w : World), Closed md ops listed →
      (∀ j oj, ops[j]? = some oj → j ≠ i → listed.getD j true = false → (∀ e ∈ oj.after, Region.binds md e = true → e.on ≠ i) → oi.apart ops oj = true) →
      i ∈ Region.ready md ops listed → YieldsIf P ops S oi v a → S w →
      wpAnyT P md ops Q S tl fuel (listed.setIfInBounds i true) (a.put oi.dst v) w → wpAnyT P md ops Q S tl (fuel + 1) listed a w := by
  intro fuel
  induction fuel with
  | zero =>
    intro listed a w hcl _ hr hy hS H
    refine ⟨fun h => (by rw [h] at hr; cases hr), fun j hj => ?_⟩
    by_cases hji : j = i
    · subst hji; exact hy.wpOp hi hS ⟨fun _ => hS, H⟩
    · have := ready_mono hj hji
      rw [H.1] at this
      cases this
  | succ fuel ih =>
    intro listed a w hcl hfree hr hy hS H
    refine ⟨fun h => (by rw [h] at hr; cases hr), fun j hj => ?_⟩
    by_cases hji : j = i
    · subst hji; exact hy.wpOp hi hS ⟨fun _ => hS, H⟩
    · have h1 := H.2 j (ready_mono hj hji)
      obtain ⟨hjun, oj, hoj, hall⟩ := mem_ready.1 hj
      have hnot : ∀ e ∈ oj.after, Region.binds md e = true → e.on ≠ i := fun e he hb heq => by
        have h1 := hall e he hb
        have h0 := (mem_ready.1 hr).1
        rw [heq] at h1
        rcases Nat.lt_or_ge i listed.size with h' | h'
        · simp [h'] at h0 h1; rw [h0] at h1; cases h1
        · simp [Array.getElem?_eq_none h'] at h1
      have hjt : j < tl := by
        rcases Nat.lt_or_ge j tl with h | h
        · exact h
        · have h1 := tail_listed (show tailF md ops 9 tl = true from ht) hcl hit (Nat.not_lt.2 h) hoj hall
          have h0 := (mem_ready.1 hr).1
          rcases Nat.lt_or_ge i listed.size with h' | h'
          · simp [h'] at h0 h1; rw [h0] at h1; cases h1
          · simp [Array.getElem?_eq_none h'] at h1
      have h2 := wpOp_putIf hoj (hfree j oj hoj hji hjun hnot) (fun cs b => hsel i oi cs b hi) (fun cs b => hsel j oj cs b hoj) hQ hy h1
      have hfree' : ∀ k ok, ops[k]? = some ok → k ≠ i → (listed.setIfInBounds j true).getD k true = false →
          (∀ e ∈ ok.after, Region.binds md e = true → e.on ≠ i) → oi.apart ops ok = true := fun k ok hk hki hun hno => by
        refine hfree k ok hk hki ?_ hno
        by_cases hjk : j = k
        · subst hjk; exact hjun
        · rw [getD_set_ne true hjk] at hun; exact hun
      refine wpOp_mono (fun a' w' h3 => ⟨h3.2.1, ih (listed.setIfInBounds j true) a' w' (hcl.add hoj hall) hfree' (ready_mono hr (Ne.symm hji)) h3.1 (h3.2.1 hjt) ?_⟩) h2
      rw [Array.setIfInBounds_comm _ _ hji]
      exact h3.2.2
def wpO (P : Program) (ops : Array Oper) (Q : Exit → Act → World → Prop) (o : Oper) (K : Act → World → Prop) (a : Act) (w : World) : Prop :=
  if Region.wanted o (yielded ops a.tmps) then o.wp P a w K Q ∨ (o.asks P a w ∧ LetsOut Q) else K (a.put o.dst undef) w
theorem wpOp_of_wpO {i : Nat} {o : Oper} (hi : ops[i]? = some o) {K : Act → World → Prop} {a : Act} {w : World} (h : wpO P ops Q o K a w) : wpOp P ops Q i K a w := by
  unfold wpOp; simp only [hi]; exact h
def PlanWp (P : Program) (ops : Array Oper) (S : World → Prop) (Q : Exit → Act → World → Prop) : List (Nat × Oper) → Act → World → Prop
  | [], a, w => Q .normal a w
  | (0, o) :: r, a, w => ∃ v, YieldsIf P ops S o v a ∧ PlanWp P ops S Q r (a.put o.dst v) w
  | (1, o) :: r, a, w => wpO P ops Q o (fun a' w' => S w' ∧ PlanWp P ops S Q r a' w') a w
  | (_ + 2, o) :: r, a, w => wpO P ops Q o (fun a' w' => PlanWp P ops S Q r a' w') a w
def planB (md : Region.Mode) (ops : Array Oper) (tl : Nat) : List (Nat × Nat) → Array Bool → Bool
  | [], listed => (Region.ready md ops listed).isEmpty
  | (k, i) :: r, listed =>
    (match k with
      | 0 => decide (i < tl) && (Region.ready md ops listed).contains i && Region.free md ops listed i
      | 1 => decide (i < tl) && (Region.ready md ops listed == [i])
      | _ => decide (tl ≤ i) && (Region.ready md ops listed == [i]) && r.all fun p => decide (tl ≤ p.2)) && planB md ops tl r (listed.setIfInBounds i true)
def pick (ops : Array Oper) (l : List (Nat × Nat)) : List (Nat × Oper) := l.map fun p => (p.1, ops.getD p.2 default)
theorem plan_sound (hs : Region.noSelect ops = true) (ht : tailB md ops tl = true) (hQ : ∀ c a w, ¬ Q (.panic c) a w) : ∀ (l : List (Nat × Nat)) (listed : Array Bool) (a : Act) (w : World),
    Closed md ops listed → planB md ops tl l listed = true → (S w ∨ ∀ p ∈ l, tl ≤ p.2) → PlanWp P ops S Q (pick ops l) a w → wpAnyT P md ops Q S tl l.length listed a w
  | [], listed, a, w, _, hB, _, h => ⟨by simpa [planB] using hB, h⟩
  | (k, i) :: r, listed, a, w, hcl, hB, hS, h => by
    simp only [planB, Bool.and_eq_true] at hB
    obtain ⟨hk, hB⟩ := hB
    have hget : ∀ {o : Oper}, ops[i]? = some o → ops.getD i default = o := fun {o} ho => by simp [ho]
    match k, hk, h with
    | 0, hk, h =>
      simp only [Bool.and_eq_true, decide_eq_true_eq] at hk
      obtain ⟨⟨hit, hr⟩, hf⟩ := hk
      have hr' : i ∈ Region.ready md ops listed := by simpa using hr
      obtain ⟨_, o, ho, hall⟩ := mem_ready.1 hr'
      simp only [pick, List.map_cons, PlanWp, hget ho] at h
      obtain ⟨v, hy, h⟩ := h
      have hSw : S w := hS.resolve_right fun hall => by have := hall (0, i) (List.mem_cons_self ..); simp only at this; omega
      exact wpAnyT_first ho (Region.noSelect_spec hs) (fun c a w hq => absurd hq (hQ c _ w)) ht hit r.length listed a w hcl (Region.free_spec ho hf) hr' hy hSw
        (plan_sound hs ht hQ r _ _ _ (hcl.add ho hall) hB (.inl hSw) h)
    | 1, hk, h =>
      simp only [Bool.and_eq_true, decide_eq_true_eq, beq_iff_eq] at hk
      obtain ⟨hit, hr⟩ := hk
      have hr' : i ∈ Region.ready md ops listed := by simp [hr]
      obtain ⟨_, o, ho, hall⟩ := mem_ready.1 hr'
      simp only [pick, List.map_cons, PlanWp, hget ho] at h
      refine ⟨fun h0 => (by rw [hr] at h0; cases h0), fun j hj => ?_⟩
      have hji : j = i := by simpa [hr] using hj
      rw [hji]
      exact wpOp_mono (fun a' w' h' => ⟨fun _ => h'.1, plan_sound hs ht hQ r _ _ _ (hcl.add ho hall) hB (.inl h'.1) h'.2⟩) (wpOp_of_wpO ho h)
    | k + 2, hk, h =>
      simp only [Bool.and_eq_true, decide_eq_true_eq, beq_iff_eq, List.all_eq_true] at hk
      obtain ⟨⟨hit, hr⟩, hrest⟩ := hk
      have hr' : i ∈ Region.ready md ops listed := by simp [hr]
      obtain ⟨_, o, ho, hall⟩ := mem_ready.1 hr'
      simp only [pick, List.map_cons, PlanWp, hget ho] at h
      refine ⟨fun h0 => (by rw [hr] at h0; cases h0), fun j hj => ?_⟩
      have hji : j = i := by simpa [hr] using hj
      rw [hji]
      exact wpOp_mono (fun a' w' h' => ⟨fun hlt => absurd hlt (by omega), plan_sound hs ht hQ r _ _ _ (hcl.add ho hall) hB (.inr hrest) h'⟩) (wpOp_of_wpO ho h)
theorem list_sound : ∀ (l : List Oper) (a : Act) (w : World), PlanWp P ops S Q (l.map fun o => (2, o)) a w → wpList P ops Q l a w
  | [], _, _, h => h
  | o :: l, a, w, h => by
    simp only [List.map_cons, PlanWp, wpO] at h
    unfold wpList
    split
    · rename_i hw
      rw [if_pos hw] at h
      exact h.imp (Oper.wp_mono fun a' w' h' => list_sound l a' w' h') id
    · rename_i hw
      rw [if_neg hw] at h
      exact list_sound l _ _ h
end
section
variable {P : Program} {n : Nat} {ops : Array Oper} {S : World → Prop} {N : Env → World → Prop} {B : Nat → Env → World → Prop} {R : Env → World → Prop} {e : Env} {w : World}
def EP (P : Program) (n : Nat) (ops : Array Oper) (S : World → Prop) (N : Env → World → Prop) (B : Nat → Env → World → Prop) (R : Env → World → Prop) (l : List (Nat × Oper)) (e : Env) (w : World) : Prop :=
  ∀ a, Rep n a e → PlanWp P ops S (post n N B R) l a w
theorem EW.reg {id : Nat} {l : List Oper} (h : EP P n l.toArray (fun _ => True) N B R (l.map fun o => (2, o)) e w) : EW P n (.region id l.toArray false) N B R e w := fun a ha =>
  wp_region_lit (list_sound l a w (h a ha))
theorem EW.drw {id : Nat} (S : World → Prop) (tl : Nat) (l : List (Nat × Nat)) (hm : P.follows .mixedOrders = true)
    (hB : (Region.noSelect ops && tailB .any ops tl && planB .any ops tl l (Array.replicate ops.size false) && l.length == ops.size) = true)
    (hS : S { w with drawn := w.drawn + 1 }) (h : EP P n ops S N B R (pick ops l) e { w with drawn := w.drawn + 1 }) : EW P n (.region id ops true) N B R e w := fun a ha => by
  simp only [Bool.and_eq_true, beq_iff_eq] at hB
  obtain ⟨⟨⟨h1, h2⟩, h3⟩, h4⟩ := hB
  refine wp_region_any hm (wpAny_of_T (S := S) (tl := tl) _ _ _ _ ?_)
  rw [← h4]
  rw [← h4] at h3
  exact plan_sound h1 h2 (fun c a w hq => hq) l _ a _ (fun k hk => by rw [Array.getD_eq_getD_getElem?, Array.getElem?_replicate] at hk; split at hk <;> simp at hk) h3 (.inl hS) (h a ha)
theorem EP.nil (h : N e w) : EP P n ops S N B R [] e w := fun a ha => ⟨e, ha, h⟩
theorem EP.sub {l : List (Nat × Oper)} (e' : Env) (hs : Sub e' e) (h : EP P n ops S N B R l e' w) : EP P n ops S N B R l e w := fun a ha => h a (ha.sub hs)
def Does (P : Program) (n : Nat) (e : Env) (o : Oper) (φ : World → Prop) (v : Value) : Prop := ∀ a w, Rep n a e → φ w → (execOp a.eval o).run P w = .ok (.value v) w
section
variable {rest : List (Nat × Oper)} {d : Nat} {op : Op} {t : TypeId} {p : String} {af : Array Edge} {v : Value}
theorem EP.f (hd : Nat.blt d n = true) (hy : Does P n e ⟨some d, op, t, p, af, none⟩ S v) (h : EP P n ops S N B R rest ((d, v) :: e) w) :
    EP P n ops S N B R ((0, ⟨some d, op, t, p, af, none⟩) :: rest) e w := fun a ha =>
  ⟨v, .inl ⟨rfl, fun w' hS => hy a w' ha hS⟩, h _ (ha.put d v hd)⟩
theorem EP.o (hd : Nat.blt d n = true) (hy : Does P n e ⟨some d, op, t, p, af, none⟩ (fun w' => w' = w) v) (h : EP P n ops S N B R rest ((d, v) :: e) w) :
    EP P n ops S N B R ((2, ⟨some d, op, t, p, af, none⟩) :: rest) e w := fun a ha => by
  simp only [PlanWp, wpO, Region.wanted, if_true]
  refine .inl ?_
  unfold Oper.wp
  rw [hy a w ha rfl]
  exact h _ (ha.put d v hd)
theorem EP.x2 {w' : World} (hd : Nat.blt d n = true) (hy : ∀ a, Rep n a e → (execOp a.eval ⟨some d, op, t, p, af, none⟩).run P w = .ok (.value v) w') (h : EP P n ops S N B R rest ((d, v) :: e) w') :
    EP P n ops S N B R ((2, ⟨some d, op, t, p, af, none⟩) :: rest) e w := fun a ha => by
  simp only [PlanWp, wpO, Region.wanted, if_true]
  refine .inl ?_
  unfold Oper.wp
  rw [hy a ha]
  exact h _ (ha.put d v hd)
theorem EP.x1 {w' : World} (hd : Nat.blt d n = true) (hy : ∀ a, Rep n a e → (execOp a.eval ⟨some d, op, t, p, af, none⟩).run P w = .ok (.value v) w') (hS : S w') (h : EP P n ops S N B R rest ((d, v) :: e) w') :
    EP P n ops S N B R ((1, ⟨some d, op, t, p, af, none⟩) :: rest) e w := fun a ha => by
  simp only [PlanWp, wpO, Region.wanted, if_true]
  refine .inl ?_
  unfold Oper.wp
  rw [hy a ha]
  exact ⟨hS, h _ (ha.put d v hd)⟩
theorem EP.s2 {w' : World} (hy : ∀ a, Rep n a e → (execOp a.eval ⟨none, op, t, p, af, none⟩).run P w = .ok .skip w') (h : EP P n ops S N B R rest e w') :
    EP P n ops S N B R ((2, ⟨none, op, t, p, af, none⟩) :: rest) e w := fun a ha => by
  simp only [PlanWp, wpO, Region.wanted, if_true]
  refine .inl ?_
  unfold Oper.wp
  rw [hy a ha]
  exact h _ ha
theorem EP.s1 {w' : World} (hy : ∀ a, Rep n a e → (execOp a.eval ⟨none, op, t, p, af, none⟩).run P w = .ok .skip w') (hS : S w') (h : EP P n ops S N B R rest e w') :
    EP P n ops S N B R ((1, ⟨none, op, t, p, af, none⟩) :: rest) e w := fun a ha => by
  simp only [PlanWp, wpO, Region.wanted, if_true]
  refine .inl ?_
  unfold Oper.wp
  rw [hy a ha]
  exact ⟨hS, h _ ha⟩
def Ret (T : Value → World → Prop) : Ending → World → Prop
  | .returned v, w => T v w
  | _, _ => False
theorem EP.c2 {f : FuncId} {args : Array Value} {T : Value → World → Prop} (hd : Nat.blt d n = true) (hy : ∀ a, Rep n a e → (execOp a.eval ⟨some d, op, t, p, af, none⟩).run P w = .ok (.enter f args) w)
    (hc : Calls P f args w (Ret T)) (h : ∀ v w', T v w' → EP P n ops S N B R rest ((d, v) :: e) w') : EP P n ops S N B R ((2, ⟨some d, op, t, p, af, none⟩) :: rest) e w := fun a ha => by
  simp only [PlanWp, wpO, Region.wanted, if_true]
  refine .inl ?_
  unfold Oper.wp
  rw [hy a ha]
  refine hc.mono fun x w' hx => ?_
  cases x with
  | returned v => exact h v w' hx _ (ha.put d v hd)
  | _ => exact hx.elim
theorem EP.c1 {f : FuncId} {args : Array Value} {T : Value → World → Prop} (hd : Nat.blt d n = true) (hy : ∀ a, Rep n a e → (execOp a.eval ⟨some d, op, t, p, af, none⟩).run P w = .ok (.enter f args) w)
    (hc : Calls P f args w (Ret T)) (h : ∀ v w', T v w' → S w' ∧ EP P n ops S N B R rest ((d, v) :: e) w') : EP P n ops S N B R ((1, ⟨some d, op, t, p, af, none⟩) :: rest) e w := fun a ha => by
  simp only [PlanWp, wpO, Region.wanted, if_true]
  refine .inl ?_
  unfold Oper.wp
  rw [hy a ha]
  refine hc.mono fun x w' hx => ?_
  cases x with
  | returned v => exact ⟨(h v w' hx).1, (h v w' hx).2 _ (ha.put d v hd)⟩
  | _ => exact hx.elim
end
end
end Go.Clt
end
section
set_option linter.unusedVariables false
set_option linter.unusedSimpArgs false
namespace Go.Clt
open Go Go.RowKit
section
variable {P : Program} {n : Nat}
def Fin (P : Program) (fn : Func) (T : Value → World → Prop) (e : Env) (w : World) : Prop := ∀ a, Rep fn.ntmps a e → ∃ v, (results fn a.tmps).run P w = .ok v w ∧ T v w
theorem enter {f : FuncId} {fn : Func} {c : Code} {args : Array Value} {w : World} {T : Value → World → Prop} (hf : P.funcs[f]? = some fn) (hb : fn.body = some c) (hn : Nat.ble args.size fn.ntmps = true)
    (h : EW P fn.ntmps c (Fin P fn T) (fun _ _ _ => False) (Fin P fn T) (argEnv args.toList 0) w) : Calls P f args w (Ret T) := by
  refine calls_of_wp hf hb (Code.wp_mono ?_ (h _ ⟨?_, fun i v hi => ?_, rfl⟩))
  · intro ex a w' hq
    cases ex with
    | normal => obtain ⟨e', he', hN⟩ := hq; obtain ⟨v, hr, hT⟩ := hN a he'; exact ⟨he'.defers, v, hr, hT⟩
    | ret => obtain ⟨e', he', hN⟩ := hq; obtain ⟨v, hr, hT⟩ := hN a he'; exact ⟨he'.defers, v, hr, hT⟩
    | exit k => obtain ⟨e', he', hN⟩ := hq; exact hN.elim
    | _ => exact hq.elim
  · have := Nat.le_of_ble_eq_true hn
    simp; omega
  · obtain ⟨_, h2⟩ := lk_argEnv _ 0 i v hi
    simp only [Nat.sub_zero] at h2
    have hlt : i < args.toList.length := (List.getElem?_eq_some_iff.1 h2).1
    simp at hlt
    have h3 : args[i]? = some v := by simpa using h2
    simp [Array.getElem?_append, hlt, h3]
    exact (Array.getElem?_eq_some_iff.1 h3).2
variable {fn : Func} {T : Value → World → Prop} {e : Env} {w : World}
theorem Fin.none (hr : fn.results = #[]) (h : T (.tuple #[]) w) : Fin P fn T e w := fun a _ => ⟨_, results_none hr _ _ _, h⟩
theorem Fin.one {t : Tmp} {v : Value} (hr : fn.results = #[.tmp t]) (hv : lk e t = some v) (h : T v w) : Fin P fn T e w := fun a ha => ⟨v, by rw [results_tmp hr, ha.get t v hv], h⟩
theorem Fin.two {t u : Tmp} {v x : Value} (hr : fn.results = #[.tmp t, .tmp u]) (hv : lk e t = some v) (hx : lk e u = some x) (h : T (.tuple #[v, x]) w) : Fin P fn T e w := fun a ha =>
  ⟨_, by rw [results_tmp2 hr, ha.get t v hv, ha.get u x hx], h⟩
theorem Fin.three {t u s : Tmp} {v x y : Value} (hr : fn.results = #[.tmp t, .tmp u, .tmp s]) (hv : lk e t = some v) (hx : lk e u = some x) (hy : lk e s = some y) (h : T (.tuple #[v, x, y]) w) : Fin P fn T e w := fun a ha => by
  have h1 := ha.get t v hv
  have h2 := ha.get u x hx
  have h3 := ha.get s y hy
  exact ⟨.tuple #[v, x, y], by simp [results, hr, ← h1, ← h2, ← h3], h⟩
theorem Fin.cell {t : Tmp} {τ : TypeId} {a0 : Addr} {v : Value} (hr : fn.results = #[.cell t τ]) (hv : lk e t = some (.pointer (some a0))) (hl : (loadVar τ a0).run P w = .ok v w) (h : T v w) : Fin P fn T e w := fun a ha => by
  have h1 := ha.get t _ hv
  refine ⟨v, ?_, h⟩
  simp only [results, hr]
  simp only [Array.getD_eq_getD_getElem?] at h1
  simp [h1, asAddr, hl]
theorem Fin.cell_tmp {t u : Tmp} {τ : TypeId} {a0 : Addr} {v x : Value} (hr : fn.results = #[.cell t τ, .tmp u]) (hv : lk e t = some (.pointer (some a0))) (hl : (loadVar τ a0).run P w = .ok v w) (hx : lk e u = some x) (h : T (.tuple #[v, x]) w) : Fin P fn T e w := fun a ha => by
  have h1 := ha.get t _ hv
  have h2 := ha.get u x hx
  refine ⟨_, ?_, h⟩
  simp only [results, hr]
  simp only [Array.getD_eq_getD_getElem?] at h1
  simp [h1, asAddr, hl, ← h2]
end
structure Chg (S : List Nat) (w w' : World) : Prop where
  os : w'.os = w.os
  tape : w'.tape = w.tape
  output : w'.output = w.output
  size : w.heap.size ≤ w'.heap.size
  same : ∀ b, b < w.heap.size → b ∉ S → w'.heap[b]? = w.heap[b]?
theorem Chg.refl (S : List Nat) (w : World) : Chg S w w := ⟨rfl, rfl, rfl, Nat.le_refl _, fun _ _ _ => rfl⟩
theorem Chg.drawn (S : List Nat) (w : World) : Chg S w { w with drawn := w.drawn + 1 } := ⟨rfl, rfl, rfl, Nat.le_refl _, fun _ _ _ => rfl⟩
theorem Chg.alloc (S : List Nat) (w : World) (o : Obj) : Chg S w (w.alloc o) := ⟨rfl, rfl, rfl, by simp, fun b hb _ => heap_alloc_old w o hb⟩
theorem Chg.step {S S2 : List Nat} {w w1 w2 : World} (h : Chg S w w1) (k : Chg S2 w1 w2) (hs : ∀ b ∈ S2, b ∈ S ∨ w.heap.size ≤ b) : Chg S w w2 :=
  ⟨k.os.trans h.os, k.tape.trans h.tape, k.output.trans h.output, Nat.le_trans h.size k.size, fun b hb hn => by
    rw [k.same b (Nat.lt_of_lt_of_le hb h.size) (fun hm => by rcases hs b hm with h' | h'; exact hn h'; omega)]
    exact h.same b hb hn⟩
theorem Chg.step0 {S : List Nat} {w w1 w2 : World} (h : Chg S w w1) (k : Chg [] w1 w2) : Chg S w w2 := h.step k (fun b hb => by cases hb)
theorem Chg.mono {S S2 : List Nat} {w w1 : World} (h : Chg S w w1) (hs : ∀ b ∈ S, b ∈ S2 ∨ w.heap.size ≤ b) : Chg S2 w w1 := (Chg.refl S2 w).step h hs
theorem Chg.of_grown {w w1 : World} {row : Option Nat} (h : w.grownBy w1 row) : Chg row.toList w w1 := ⟨h.os, h.tape, h.output, h.size, fun b hb hn => h.block b hb (fun e => hn (by rw [← e]; simp))⟩
def Blk (w : World) (b : Nat) (cs : List Value) (t : TypeId) : Prop := w.heap[b]? = some (.cells cs.toArray t (0, 0))
theorem Blk.lt {w : World} {b : Nat} {cs : List Value} {t : TypeId} (h : Blk w b cs t) : b < w.heap.size := (Array.getElem?_eq_some_iff.1 h).1
theorem Blk.chg {S : List Nat} {w w' : World} {b : Nat} {cs : List Value} {t : TypeId} (h : Blk w b cs t) (k : Chg S w w') (hb : b ∉ S) : Blk w' b cs t := (k.same b h.lt hb).trans h
theorem Blk.chg0 {w w' : World} {b : Nat} {cs : List Value} {t : TypeId} (h : Blk w b cs t) (k : Chg [] w w') : Blk w' b cs t := h.chg k (by simp)
theorem Blk.ne {w : World} {b b' : Nat} {cs cs' : List Value} {t t' : TypeId} (h : Blk w b cs t) (h' : Blk w b' cs' t') (hne : t ≠ t') : b ≠ b' := by
  rintro rfl
  have := h.symm.trans h'
  injection this with this
  injection this with _ ht
  exact hne ht
theorem Blk.cell {w : World} {b : Nat} {cs : List Value} {t : TypeId} (h : Blk w b cs t) (i : Nat) : w.cell? ⟨b, i, none⟩ = cs[i]? := by simp [World.cell?, show w.heap[b]? = _ from h]
theorem Blk.frozen {w : World} {b : Nat} {cs : List Value} {t : TypeId} (h : Blk w b cs t) (i : Nat) : w.frozen? ⟨b, i, none⟩ = false := by simp [World.frozen?, show w.heap[b]? = _ from h]
theorem blk_new (w : World) (cs : List Value) (t : TypeId) : Blk (w.alloc (.cells cs.toArray t)) w.heap.size cs t := heap_alloc_new w _
def Keeps (φ : World → Prop) (b : Nat) (w : World) : Prop := ∀ w', φ w' → w'.heap[b]? = w.heap[b]?
theorem Keeps.now {w : World} (b : Nat) : Keeps (fun w' => w' = w) b w := fun w' h => by rw [h]
theorem Keeps.chg {S : List Nat} {w : World} {b : Nat} (hb : b < w.heap.size) (hn : b ∉ S) : Keeps (Chg S w) b w := fun w' h => h.same b hb hn
theorem Keeps.blk {φ : World → Prop} {b : Nat} {w : World} (h : Keeps φ b w) {cs : List Value} {t : TypeId} (hb : Blk w b cs t) (w' : World) (hw : φ w') : Blk w' b cs t := (h w' hw).trans hb
theorem Keeps.cell {φ : World → Prop} {b off : Nat} {w : World} (h : Keeps φ b w) {v : Value} (hc : w.cell? ⟨b, off, none⟩ = some v) (w' : World) (hw : φ w') : w'.cell? ⟨b, off, none⟩ = some v := by
  unfold World.cell? at *
  rw [h w' hw]
  exact hc
def aggB (P : Program) (t : TypeId) : Bool := match P.underlying t with | some (.struct _) | some (.array _ _) => true | _ => false
def known (P : Program) (t : TypeId) : Bool := (P.underlying t).isSome
def one (P : Program) (t : TypeId) : Bool := known P t && !aggB P t && (P.cellsOf t == 1)
def agg (P : Program) (t : TypeId) (k : Nat) : Bool := known P t && aggB P t && ((P.info? t).map (·.size) == some k)
theorem add0 (b off j : Nat) : (⟨b, off, none⟩ : Addr).add j = ⟨b, off + j, none⟩ := by unfold Addr.add; split <;> simp_all
section
variable {P : Program} {w : World}
theorem run_isAgg {t : TypeId} (h : known P t = true) : (isAgg t).run P w = .ok (aggB P t) w := by
  unfold known at h
  obtain ⟨d, hd⟩ := Option.isSome_iff_exists.1 h
  simp [isAgg, run_underlying hd, aggB, hd]
  cases d <;> rfl
theorem one_agg {t : TypeId} (h : one P t = true) : aggB P t = false := by simp [one] at h; exact h.1.2
theorem one_known {t : TypeId} (h : one P t = true) : known P t = true := by simp [one] at h; exact h.1.1
theorem run_loadVar_one {t : TypeId} (h : one P t = true) {b off : Nat} {v : Value} (hc : w.cell? ⟨b, off, none⟩ = some v) : (loadVar t ⟨b, off, none⟩).run P w = .ok v w := by
  simp [loadVar, run_isAgg (one_known h), one_agg h, hc]
theorem run_loadVar_agg {t : TypeId} {k : Nat} (h : agg P t k = true) {b off : Nat} {cs : List Value} (hl : cs.length = k) (hc : ∀ j v, cs[j]? = some v → w.cell? ⟨b, off + j, none⟩ = some v) :
    (loadVar t ⟨b, off, none⟩).run P w = .ok (.agg cs.toArray) w := by
  simp only [agg, Bool.and_eq_true, beq_iff_eq, Option.map_eq_some_iff] at h
  obtain ⟨⟨h1, h2⟩, i, hi, hs⟩ := h
  have := run_loadCells_list (P := P) (w := w) ⟨b, off, none⟩ cs (fun j v hj => by rw [add0]; exact hc j v hj)
  simp [loadVar, run_isAgg h1, h2, sizeOf, typeInfo, hi, hs, ← hl, this]
theorem Blk.loadA {t τ : TypeId} {k : Nat} (h : agg P τ k = true) {b off : Nat} {cs : List Value} (hb : Blk w b cs t) (hl : ((cs.drop off).take k).length = k) :
    (loadVar τ ⟨b, off, none⟩).run P w = .ok (.agg ((cs.drop off).take k).toArray) w :=
  run_loadVar_agg h hl fun j v hj => by
    rw [hb.cell]
    rw [List.getElem?_take] at hj
    split at hj
    · rwa [List.getElem?_drop] at hj
    · cases hj
theorem Blk.loadV {t τ : TypeId} {k : Nat} (h : agg P τ k = true) {b off : Nat} {cs vs : List Value} (hb : Blk w b cs t) (hv : (cs.drop off).take k = vs) (hl : vs.length = k) :
    (loadVar τ ⟨b, off, none⟩).run P w = .ok (.agg vs.toArray) w := by
  have := Blk.loadA h hb (off := off) (by rw [hv]; exact hl)
  rwa [hv] at this
end
section
variable {P : Program} {n : Nat} {e : Env} {φ : World → Prop} {dst : Option Tmp} {t : TypeId} {p : String} {af : Array Edge} {g : Option (Nat × Bool)}
theorem Does.move {x : Operand} {v : Value} (hx : ev e x = some v) : Does P n e ⟨dst, .move x, t, p, af, g⟩ φ v := fun a w ha _ => by simp [execOp, ha.ev hx]
theorem Does.assign {x : Operand} {v : Value} (hx : ev e x = some v) : Does P n e ⟨dst, .assign x, t, p, af, g⟩ φ v := fun a w ha _ => by simp [execOp, ha.ev hx]
theorem Does.pickT {c x y : Operand} {v : Value} (hc : ev e c = some (.bool true)) (hx : ev e x = some v) : Does P n e ⟨dst, .pick c x y, t, p, af, g⟩ φ v := fun a w ha _ => by simp [execOp, ha.ev hc, asBool, ha.ev hx]
theorem Does.pickF {c x y : Operand} {v : Value} (hc : ev e c = some (.bool false)) (hx : ev e y = some v) : Does P n e ⟨dst, .pick c x y, t, p, af, g⟩ φ v := fun a w ha _ => by simp [execOp, ha.ev hc, asBool, ha.ev hx]
theorem Does.extract {x : Operand} {i : Nat} {vs : Array Value} {v : Value} (hx : ev e x = some (.tuple vs)) (hv : vs[i]? = some v) : Does P n e ⟨dst, .extract x i, t, p, af, g⟩ φ v := fun a w ha _ => by
  simp [execOp, ha.ev hx, Instr.extract, hv]
theorem Does.nilCheck {x : Operand} {ad : Addr} (hx : ev e x = some (.pointer (some ad))) : Does P n e ⟨dst, .nilCheck x, t, p, af, g⟩ φ (.pointer (some ad)) := fun a w ha _ => by simp [execOp, ha.ev hx]
def plainPair : Value → Value → Bool
  | .nilIface, .nilIface => false
  | .agg _, .agg _ => false
  | _, _ => true
theorem eqGuard_run (op : BinOp) (τ : TypeId) (x y : Operand) {a b : Value} (h : plainPair a b = true) (w : World) : (eqGuard op τ x y a b).run P w = .ok () w := by
  cases op <;> first
    | rfl
    | (cases a <;> first
        | rfl
        | (cases b <;> first
            | rfl
            | (simp [plainPair] at h; done)))
theorem Does.bin {op : BinOp} {τ τ' : TypeId} {x y : Operand} {u v r : Value} (hx : ev e x = some u) (hy : ev e y = some v)
    (hg : plainPair u v = true) (hr : ∀ w, φ w → (binOp op τ u v).run P w = .ok r w) : Does P n e ⟨dst, .binOp op τ x y τ', t, p, af, g⟩ φ r := fun a w ha hw => by
  simp [execOp, ha.ev hx, ha.ev hy, eqGuard_run op τ x y hg, hr w hw]
theorem Does.add {τ τ' : TypeId} {x y : Operand} {k : IntKind} {i j : Int} (hx : ev e x = some (.int k i)) (hy : ev e y = some (.int k j)) : Does P n e ⟨dst, .binOp .add τ x y τ', t, p, af, g⟩ φ (.int k (k.wrap (i + j))) :=
  Does.bin hx hy rfl fun w _ => by simp [binOp, Op.intArith]
theorem Does.sub {τ τ' : TypeId} {x y : Operand} {k : IntKind} {i j : Int} (hx : ev e x = some (.int k i)) (hy : ev e y = some (.int k j)) : Does P n e ⟨dst, .binOp .sub τ x y τ', t, p, af, g⟩ φ (.int k (k.wrap (i - j))) :=
  Does.bin hx hy rfl fun w _ => by simp [binOp, Op.intArith]
theorem Does.mul {τ τ' : TypeId} {x y : Operand} {k : IntKind} {i j : Int} (hx : ev e x = some (.int k i)) (hy : ev e y = some (.int k j)) : Does P n e ⟨dst, .binOp .mul τ x y τ', t, p, af, g⟩ φ (.int k (k.wrap (i * j))) :=
  Does.bin hx hy rfl fun w _ => by simp [binOp, Op.intArith]
theorem wrap_i64 {x : Int} (h : -9223372036854775808 ≤ x ∧ x ≤ 9223372036854775807) : IntKind.i64.wrap x = x := by
  unfold IntKind.wrap; simp [IntKind.bits, IntKind.signed]; split <;> omega
theorem wrap_u8 {x : Int} (h : 0 ≤ x ∧ x ≤ 255) : IntKind.u8.wrap x = x := by unfold IntKind.wrap; simp [IntKind.bits, IntKind.signed]; omega
theorem wrap_u64 {x : Int} (h : 0 ≤ x ∧ x ≤ 18446744073709551615) : IntKind.u64.wrap x = x := by unfold IntKind.wrap; simp [IntKind.bits, IntKind.signed]; omega
theorem Does.addi {τ τ' : TypeId} {x y : Operand} {i j : Int} (hx : ev e x = some (.int .i64 i)) (hy : ev e y = some (.int .i64 j)) (h : -9223372036854775808 ≤ i + j ∧ i + j ≤ 9223372036854775807) : Does P n e ⟨dst, .binOp .add τ x y τ', t, p, af, g⟩ φ (.int .i64 (i + j)) := by
  have := Does.add (P := P) (n := n) (dst := dst) (t := t) (p := p) (af := af) (g := g) (φ := φ) (τ := τ) (τ' := τ') hx hy
  rwa [wrap_i64 h] at this
theorem Does.subi {τ τ' : TypeId} {x y : Operand} {i j : Int} (hx : ev e x = some (.int .i64 i)) (hy : ev e y = some (.int .i64 j)) (h : -9223372036854775808 ≤ i - j ∧ i - j ≤ 9223372036854775807) : Does P n e ⟨dst, .binOp .sub τ x y τ', t, p, af, g⟩ φ (.int .i64 (i - j)) := by
  have := Does.sub (P := P) (n := n) (dst := dst) (t := t) (p := p) (af := af) (g := g) (φ := φ) (τ := τ) (τ' := τ') hx hy
  rwa [wrap_i64 h] at this
theorem Does.muli {τ τ' : TypeId} {x y : Operand} {i j : Int} (hx : ev e x = some (.int .i64 i)) (hy : ev e y = some (.int .i64 j)) (h : -9223372036854775808 ≤ i * j ∧ i * j ≤ 9223372036854775807) : Does P n e ⟨dst, .binOp .mul τ x y τ', t, p, af, g⟩ φ (.int .i64 (i * j)) := by
  have := Does.mul (P := P) (n := n) (dst := dst) (t := t) (p := p) (af := af) (g := g) (φ := φ) (τ := τ) (τ' := τ') hx hy
  rwa [wrap_i64 h] at this
theorem Does.quo {τ τ' : TypeId} {x y : Operand} {k : IntKind} {i j : Int} (hx : ev e x = some (.int k i)) (hy : ev e y = some (.int k j)) (hj : j ≠ 0) : Does P n e ⟨dst, .binOp .quo τ x y τ', t, p, af, g⟩ φ (.int k (k.wrap (i.tdiv j))) :=
  Does.bin hx hy rfl fun w _ => by simp [binOp, Op.intDiv, hj]
theorem Does.rem {τ τ' : TypeId} {x y : Operand} {k : IntKind} {i j : Int} (hx : ev e x = some (.int k i)) (hy : ev e y = some (.int k j)) (hj : j ≠ 0) : Does P n e ⟨dst, .binOp .rem τ x y τ', t, p, af, g⟩ φ (.int k (i.tmod j)) :=
  Does.bin hx hy rfl fun w _ => by simp [binOp, Op.intDiv, hj]
theorem Does.quop {τ τ' : TypeId} {x y : Operand} {k : IntKind} {i j : Int} (hx : ev e x = some (.int k i)) (hy : ev e y = some (.int k j)) (h0 : 0 ≤ i) (hj : 0 < j) (hw : k.wrap (i / j) = i / j) : Does P n e ⟨dst, .binOp .quo τ x y τ', t, p, af, g⟩ φ (.int k (i / j)) := by
  have := Does.quo (P := P) (n := n) (dst := dst) (t := t) (p := p) (af := af) (g := g) (φ := φ) (τ := τ) (τ' := τ') hx hy (by omega)
  rwa [Int.tdiv_eq_ediv_of_nonneg h0, hw] at this
theorem Does.remp {τ τ' : TypeId} {x y : Operand} {k : IntKind} {i j : Int} (hx : ev e x = some (.int k i)) (hy : ev e y = some (.int k j)) (h0 : 0 ≤ i) (hj : 0 < j) : Does P n e ⟨dst, .binOp .rem τ x y τ', t, p, af, g⟩ φ (.int k (i % j)) := by
  have := Does.rem (P := P) (n := n) (dst := dst) (t := t) (p := p) (af := af) (g := g) (φ := φ) (τ := τ) (τ' := τ') hx hy (by omega)
  rwa [Int.tmod_eq_emod_of_nonneg h0] at this
theorem Does.convw {τ τ' : TypeId} {k : IntKind} {x : Operand} {k' : IntKind} {i : Int} (hs : known P τ = true) (hd : P.underlying τ' = some (.int k)) (hx : ev e x = some (.int k' i)) (hw : k.wrap i = i) : Does P n e ⟨dst, .convert τ τ' x, t, p, af, g⟩ φ (.int k i) := fun a w ha _ => by
  obtain ⟨d, hd'⟩ := Option.isSome_iff_exists.1 hs
  simp [execOp, ha.ev hx, convert, run_underlying hd', run_underlying hd, Conv.intToInt, hw]
theorem Does.shl {τ τ' : TypeId} {x y : Operand} {k k' : IntKind} {i j : Int} (hx : ev e x = some (.int k i)) (hy : ev e y = some (.int k' j)) (hj : 0 ≤ j) : Does P n e ⟨dst, .binOp .shl τ x y τ', t, p, af, g⟩ φ (.int k (k.wrap (i * 2 ^ (min j.toNat k.bits)))) :=
  Does.bin hx hy rfl fun w _ => by simp [binOp, Op.shift, Int.not_lt.2 hj]
theorem Does.shr {τ τ' : TypeId} {x y : Operand} {k k' : IntKind} {i j : Int} (hx : ev e x = some (.int k i)) (hy : ev e y = some (.int k' j)) (hj : 0 ≤ j) : Does P n e ⟨dst, .binOp .shr τ x y τ', t, p, af, g⟩ φ (.int k (i.fdiv (2 ^ (min j.toNat k.bits)))) :=
  Does.bin hx hy rfl fun w _ => by simp [binOp, Op.shift, Int.not_lt.2 hj]
def bitv (op : BinOp) (k : IntKind) (x y : Int) : Int :=
  let a := BitVec.ofInt k.bits x
  let b := BitVec.ofInt k.bits y
  match op with
  | .and => k.wrap (a &&& b).toNat
  | .or => k.wrap (a ||| b).toNat
  | .xor => k.wrap (a ^^^ b).toNat
  | _ => k.wrap (a &&& ~~~b).toNat
theorem Does.bits {op : BinOp} {τ τ' : TypeId} {x y : Operand} {k : IntKind} {i j : Int} (ho : (match op with | .and | .or | .xor | .andNot => true | _ => false) = true) (hx : ev e x = some (.int k i)) (hy : ev e y = some (.int k j)) :
    Does P n e ⟨dst, .binOp op τ x y τ', t, p, af, g⟩ φ (.int k (bitv op k i j)) :=
  Does.bin hx hy rfl fun w _ => by cases op <;> simp at ho <;> simp [binOp, Op.intBits, bitv]
def cmpB (op : BinOp) (x y : Int) : Bool :=
  match op with
  | .eql => x == y | .neq => x != y | .lss => decide (x < y) | .leq => decide (x ≤ y) | .gtr => decide (x > y) | _ => decide (x ≥ y)
@[simp] theorem cmpB_eql (a b : Int) : (cmpB .eql a b = true) = (a = b) := by simp [cmpB]
@[simp] theorem cmpB_eqlF (a b : Int) : (cmpB .eql a b = false) = ¬ (a = b) := by simp [cmpB]
@[simp] theorem cmpB_neq (a b : Int) : (cmpB .neq a b = true) = ¬ (a = b) := by simp [cmpB]
@[simp] theorem cmpB_neqF (a b : Int) : (cmpB .neq a b = false) = (a = b) := by simp [cmpB]
@[simp] theorem cmpB_lss (a b : Int) : (cmpB .lss a b = true) = (a < b) := by simp [cmpB]
@[simp] theorem cmpB_lssF (a b : Int) : (cmpB .lss a b = false) = (b ≤ a) := by simp [cmpB]
@[simp] theorem cmpB_leq (a b : Int) : (cmpB .leq a b = true) = (a ≤ b) := by simp [cmpB]
@[simp] theorem cmpB_leqF (a b : Int) : (cmpB .leq a b = false) = (b < a) := by simp [cmpB]
@[simp] theorem cmpB_gtr (a b : Int) : (cmpB .gtr a b = true) = (b < a) := by simp [cmpB]
@[simp] theorem cmpB_gtrF (a b : Int) : (cmpB .gtr a b = false) = (a ≤ b) := by simp [cmpB]
@[simp] theorem cmpB_geq (a b : Int) : (cmpB .geq a b = true) = (b ≤ a) := by simp [cmpB]
@[simp] theorem cmpB_geqF (a b : Int) : (cmpB .geq a b = false) = (a < b) := by simp [cmpB]
theorem Does.cmp {op : BinOp} {τ τ' : TypeId} {x y : Operand} {k : IntKind} {i j : Int} (ho : (match op with | .eql | .neq | .lss | .leq | .gtr | .geq => true | _ => false) = true) (hx : ev e x = some (.int k i)) (hy : ev e y = some (.int k j)) :
    Does P n e ⟨dst, .binOp op τ x y τ', t, p, af, g⟩ φ (.bool (cmpB op i j)) :=
  Does.bin hx hy rfl fun w _ => by cases op <;> simp at ho <;> simp [binOp, Op.intCmp, cmpB]
theorem Does.not {τ : TypeId} {x : Operand} {b : Bool} (hx : ev e x = some (.bool b)) : Does P n e ⟨dst, .unOp .not τ x, t, p, af, g⟩ φ (.bool !b) := fun a w ha _ => by simp [execOp, ha.ev hx, Op.unary]
theorem Does.neg {τ : TypeId} {x : Operand} {k : IntKind} {i : Int} (hx : ev e x = some (.int k i)) : Does P n e ⟨dst, .unOp .neg τ x, t, p, af, g⟩ φ (.int k (k.wrap (0 - i))) := fun a w ha _ => by simp [execOp, ha.ev hx, Op.unary, Op.intArith]
theorem Does.cpl {τ : TypeId} {x : Operand} {k : IntKind} {i : Int} (hx : ev e x = some (.int k i)) : Does P n e ⟨dst, .unOp .xor τ x, t, p, af, g⟩ φ (.int k (bitv .xor k (if k.signed then -1 else k.max) i)) := fun a w ha _ => by
  simp [execOp, ha.ev hx, Op.unary, Op.intBits, bitv]
theorem Does.eqS {τ τ' : TypeId} {x y : Operand} {i j : ByteArray} (hx : ev e x = some (.string i)) (hy : ev e y = some (.string j)) : Does P n e ⟨dst, .binOp .eql τ x y τ', t, p, af, g⟩ φ (.bool (i.toList == j.toList)) :=
  Does.bin hx hy rfl fun w _ => by simp [binOp, Op.stringOp]
theorem Does.addS {τ τ' : TypeId} {x y : Operand} {i j : ByteArray} (hx : ev e x = some (.string i)) (hy : ev e y = some (.string j)) (h : i.size + j.size ≤ 9223372036854775807) : Does P n e ⟨dst, .binOp .add τ x y τ', t, p, af, g⟩ φ (.string (i ++ j)) :=
  Does.bin hx hy rfl fun w _ => by
    have : ¬ (((i.size + j.size : Nat) : Int) > IntKind.i64.max) := by show ¬ (((i.size + j.size : Nat) : Int) > 9223372036854775807); omega
    simp only [binOp, Op.stringOp]
    rw [if_neg this]
    rfl
theorem Does.conv {τ τ' : TypeId} {k : IntKind} {x : Operand} {k' : IntKind} {i : Int} (hs : known P τ = true) (hd : P.underlying τ' = some (.int k)) (hx : ev e x = some (.int k' i)) : Does P n e ⟨dst, .convert τ τ' x, t, p, af, g⟩ φ (.int k (k.wrap i)) := fun a w ha _ => by
  obtain ⟨d, hd'⟩ := Option.isSome_iff_exists.1 hs
  simp [execOp, ha.ev hx, convert, run_underlying hd', run_underlying hd, Conv.intToInt]
theorem Does.min {x y : Operand} {k : IntKind} {i j : Int} {ts : Array TypeId} (hx : ev e x = some (.int k i)) (hy : ev e y = some (.int k j)) :
    Does P n e ⟨dst, .call { callee := .builtin .min, args := #[x, y], argTypes := ts }, t, p, af, g⟩ φ (.int k (Min.min i j)) := fun a w ha _ => by
  have : (if j < i then j else i) = Min.min i j := by split <;> omega
  simp [execOp, resolve, invoke, builtin, ha.ev hx, ha.ev hy, Builtin.min_, Builtin.min2, this]
theorem Does.max {x y : Operand} {k : IntKind} {i j : Int} {ts : Array TypeId} (hx : ev e x = some (.int k i)) (hy : ev e y = some (.int k j)) :
    Does P n e ⟨dst, .call { callee := .builtin .max, args := #[x, y], argTypes := ts }, t, p, af, g⟩ φ (.int k (Max.max i j)) := fun a w ha _ => by
  have : (if i < j then j else i) = Max.max i j := by split <;> omega
  simp [execOp, resolve, invoke, builtin, ha.ev hx, ha.ev hy, Builtin.max_, Builtin.max2, this]
theorem Does.lenS {x : Operand} {s : ByteArray} {τ : TypeId} (hu : P.underlying τ = some .string) (hx : ev e x = some (.string s)) :
    Does P n e ⟨dst, .call { callee := .builtin .len, args := #[x], argTypes := #[τ] }, t, p, af, g⟩ φ (.int .i64 s.size) := fun a w ha _ => by
  simp [execOp, resolve, invoke, builtin, ha.ev hx, Builtin.len_, run_underlying hu, goInt]
theorem Does.lenL {x : Operand} {A : Option Addr} {m c : Nat} {τ el : TypeId} (hu : P.underlying τ = some (.slice el)) (hx : ev e x = some (.slice A m c)) :
    Does P n e ⟨dst, .call { callee := .builtin .len, args := #[x], argTypes := #[τ] }, t, p, af, g⟩ φ (.int .i64 m) := fun a w ha _ => by
  simp [execOp, resolve, invoke, builtin, ha.ev hx, Builtin.len_, run_underlying hu, goInt]
def fldB (P : Program) (s : TypeId) (f off : Nat) : Bool :=
  match P.underlying s with
  | some (.struct fs) => (match fs[f]? with | some x => x.offset == off && (match P.info? x.type with | some i => i.size != 0 | none => false) | none => false)
  | _ => false
theorem Does.fieldAddr {s : TypeId} {x : Operand} {f off b o : Nat} (hf : fldB P s f off = true) (hx : ev e x = some (.pointer (some ⟨b, o, none⟩))) : Does P n e ⟨dst, .fieldAddr s x f, t, p, af, g⟩ φ (.pointer (some ⟨b, o + off, none⟩)) := fun a w ha _ => by
  unfold fldB at hf
  cases hu : P.underlying s with
  | none => rw [hu] at hf; cases hf
  | some d =>
    rw [hu] at hf
    cases d <;> try (cases hf; done)
    rename_i fs
    simp only at hf
    cases hfs : fs[f]? with
    | none => rw [hfs] at hf; cases hf
    | some y =>
      rw [hfs] at hf
      simp only [Bool.and_eq_true, beq_iff_eq] at hf
      obtain ⟨h1, h2⟩ := hf
      cases hi : P.info? y.type with
      | none => rw [hi] at h2; cases h2
      | some i =>
        rw [hi] at h2
        have h2' : i.size ≠ 0 := by simpa using h2
        simp [execOp, ha.ev hx, Instr.fieldAt, run_underlying hu, hfs, Instr.sureAddr, fieldPlace, sizeOf, typeInfo, hi, h2', add0, h1]
def slB (P : Program) (τ : TypeId) (sz : Nat) : Bool := match P.underlying τ with | some (.slice el) => (P.info? el).map (·.size) == some sz | _ => false
theorem slB_spec {τ : TypeId} {sz : Nat} (h : slB P τ sz = true) : ∃ el i, P.underlying τ = some (.slice el) ∧ P.info? el = some i ∧ i.size = sz := by
  unfold slB at h
  cases hu : P.underlying τ with
  | none => rw [hu] at h; cases h
  | some d =>
    rw [hu] at h
    cases d <;> try (cases h; done)
    simp only [beq_iff_eq, Option.map_eq_some_iff] at h
    obtain ⟨i, hi, hs⟩ := h
    exact ⟨_, i, rfl, hi, hs⟩
theorem Does.indexAddr {τ : TypeId} {sz : Nat} {x y : Operand} {b o m c : Nat} {k : IntKind} {i : Int} (ht : slB P τ sz = true) (hx : ev e x = some (.slice (some ⟨b, o, none⟩) m c)) (hy : ev e y = some (.int k i)) (h0 : 0 ≤ i) (h1 : i < m) :
    Does P n e ⟨dst, .indexAddr τ x y, t, p, af, g⟩ φ (.pointer (some ⟨b, o + i.toNat * sz, none⟩)) := fun a w ha _ => by
  obtain ⟨el, inf, hu, hi, hs⟩ := slB_spec ht
  simp [execOp, ha.ev hx, ha.ev hy, Instr.indexAt, asIntOf, run_underlying hu, h0, h1, sizeOf, typeInfo, hi, hs, add0]
theorem Does.indexAddr1 {τ : TypeId} {x y : Operand} {b o m c : Nat} {k : IntKind} {i : Int} (ht : slB P τ 1 = true) (hx : ev e x = some (.slice (some ⟨b, o, none⟩) m c)) (hy : ev e y = some (.int k i)) (h0 : 0 ≤ i) (h1 : i < m) :
    Does P n e ⟨dst, .indexAddr τ x y, t, p, af, g⟩ φ (.pointer (some ⟨b, o + i.toNat, none⟩)) := by
  have := Does.indexAddr (P := P) (n := n) (e := e) (dst := dst) (t := t) (p := p) (af := af) (g := g) (φ := φ) ht hx hy h0 h1
  rwa [Nat.mul_one] at this
def arB (P : Program) (τ : TypeId) (len sz : Nat) : Bool := match P.underlying τ with | some (.array l el) => l == len && (P.info? el).map (·.size) == some sz | _ => false
theorem arB_spec {τ : TypeId} {len sz : Nat} (h : arB P τ len sz = true) : ∃ el i, P.underlying τ = some (.array len el) ∧ P.info? el = some i ∧ i.size = sz := by
  unfold arB at h
  cases hu : P.underlying τ with
  | none => rw [hu] at h; cases h
  | some d =>
    rw [hu] at h
    cases d <;> try (cases h; done)
    rename_i l el
    simp only [Bool.and_eq_true, beq_iff_eq, Option.map_eq_some_iff] at h
    obtain ⟨rfl, i, hi, hs⟩ := h
    exact ⟨_, i, rfl, hi, hs⟩
theorem Does.indexAddrA {τ : TypeId} {len sz : Nat} {x y : Operand} {b o : Nat} {k : IntKind} {i : Int} (ht : arB P τ len sz = true) (hx : ev e x = some (.pointer (some ⟨b, o, none⟩))) (hy : ev e y = some (.int k i)) (h0 : 0 ≤ i) (h1 : i < len) :
    Does P n e ⟨dst, .indexAddr τ x y, t, p, af, g⟩ φ (.pointer (some ⟨b, o + i.toNat * sz, none⟩)) := fun a w ha _ => by
  obtain ⟨el, inf, hu, hi, hs⟩ := arB_spec ht
  simp [execOp, ha.ev hx, ha.ev hy, Instr.indexAt, asIntOf, run_underlying hu, Instr.sureAddr, h0, h1, sizeOf, typeInfo, hi, hs, add0]
theorem Does.indexAddrA1 {τ : TypeId} {len : Nat} {x y : Operand} {b o : Nat} {k : IntKind} {i : Int} (ht : arB P τ len 1 = true) (hx : ev e x = some (.pointer (some ⟨b, o, none⟩))) (hy : ev e y = some (.int k i)) (h0 : 0 ≤ i) (h1 : i < len) :
    Does P n e ⟨dst, .indexAddr τ x y, t, p, af, g⟩ φ (.pointer (some ⟨b, o + i.toNat, none⟩)) := by
  have := Does.indexAddrA (P := P) (n := n) (e := e) (dst := dst) (t := t) (p := p) (af := af) (g := g) (φ := φ) ht hx hy h0 h1
  rwa [Nat.mul_one] at this
theorem Does.indexV {τ : TypeId} {len : Nat} {x y : Operand} {cs : List Value} {k : IntKind} {i : Int} {v : Value} (ht : arB P τ len 1 = true) (ha1 : (match P.underlying τ with | some (.array _ el) => known P el && !aggB P el | _ => false) = true) (hx : ev e x = some (.agg cs.toArray)) (hy : ev e y = some (.int k i)) (h0 : 0 ≤ i) (h1 : i < len) (hv : cs[i.toNat]? = some v) :
    Does P n e ⟨dst, .index τ x y, t, p, af, g⟩ φ v := fun a w ha _ => by
  obtain ⟨el, inf, hu, hi, hs⟩ := arB_spec ht
  rw [hu] at ha1
  simp only [Bool.and_eq_true, Bool.not_eq_true'] at ha1
  simp [execOp, ha.ev hx, ha.ev hy, Instr.index, asIntOf, run_underlying hu, h0, h1, sizeOf, typeInfo, hi, hs, part, run_isAgg ha1.1, ha1.2, hv]
theorem Does.indexS {τ : TypeId} {x y : Operand} {s : ByteArray} {k : IntKind} {i : Int} {b : UInt8} (hu : P.underlying τ = some .string) (hx : ev e x = some (.string s)) (hy : ev e y = some (.int k i)) (h0 : 0 ≤ i) (hb : s.data.toList[i.toNat]? = some b) :
    Does P n e ⟨dst, .index τ x y, t, p, af, g⟩ φ (.int .u8 b.toNat) := fun a w ha _ => by
  have h1 : s[i.toNat]? = some b := by
    have hlt := (List.getElem?_eq_some_iff.1 hb).1
    have hv := (List.getElem?_eq_some_iff.1 hb).2
    have hlt' : i.toNat < s.size := by simpa using hlt
    rw [getElem?_pos s i.toNat hlt']
    congr 1
  simp [execOp, ha.ev hx, ha.ev hy, Instr.index, asIntOf, run_underlying hu, h0, h1]
theorem Does.load1 {x : Operand} {τ : TypeId} {b o : Nat} {w0 : World} {v : Value} (ht : one P τ = true) (hx : ev e x = some (.pointer (some ⟨b, o, none⟩))) (hk : Keeps φ b w0) (hc : w0.cell? ⟨b, o, none⟩ = some v) : Does P n e ⟨dst, .load τ x, t, p, af, g⟩ φ v := fun a w ha hw => by
  simp [execOp, ha.ev hx, Instr.loadAt, Instr.sureAddr, run_loadVar_one ht (hk.cell hc w hw)]
theorem Does.loadB {x : Operand} {τ t0 : TypeId} {b o : Nat} {w0 : World} {cs : List Value} {v : Value} (ht : one P τ = true) (hx : ev e x = some (.pointer (some ⟨b, o, none⟩))) (hk : Keeps φ b w0) (hb : Blk w0 b cs t0) (hv : cs[o]? = some v) : Does P n e ⟨dst, .load τ x, t, p, af, g⟩ φ v :=
  Does.load1 ht hx hk (by rw [hb.cell]; exact hv)
theorem Does.loadA {x : Operand} {τ t0 : TypeId} {k b o : Nat} {w0 : World} {cs vs : List Value} (ht : agg P τ k = true) (hx : ev e x = some (.pointer (some ⟨b, o, none⟩))) (hk : Keeps φ b w0) (hb : Blk w0 b cs t0) (hv : (cs.drop o).take k = vs) (hl : vs.length = k) :
    Does P n e ⟨dst, .load τ x, t, p, af, g⟩ φ (.agg vs.toArray) := fun a w ha hw => by
  have := Blk.loadA (P := P) ht (hk.blk hb w hw) (off := o) (by rw [hv]; exact hl)
  rw [hv] at this
  simp [execOp, ha.ev hx, Instr.loadAt, Instr.sureAddr, this]
theorem Does.loadCs {x : Operand} {τ : TypeId} {k b o : Nat} {w0 : World} {vs : List Value} (ht : agg P τ k = true) (hx : ev e x = some (.pointer (some ⟨b, o, none⟩))) (hk : Keeps φ b w0) (hc : ∀ j v, vs[j]? = some v → w0.cell? ⟨b, o + j, none⟩ = some v) (hl : vs.length = k) :
    Does P n e ⟨dst, .load τ x, t, p, af, g⟩ φ (.agg vs.toArray) := fun a w ha hw => by
  have := run_loadVar_agg (P := P) (w := w) ht hl (b := b) (off := o) (fun j v hj => hk.cell (hc j v hj) w hw)
  simp [execOp, ha.ev hx, Instr.loadAt, Instr.sureAddr, this]
theorem Does.loadBc {x : Operand} {τ t0 : TypeId} {b o : Nat} {S : List Nat} {w0 : World} {cs : List Value} {v : Value} (ht : one P τ = true) (hx : ev e x = some (.pointer (some ⟨b, o, none⟩))) (hb : Blk w0 b cs t0) (hn : b ∉ S) (hv : cs[o]? = some v) : Does P n e ⟨dst, .load τ x, t, p, af, g⟩ (Chg S w0) v :=
  Does.loadB ht hx (Keeps.chg hb.lt hn) hb hv
theorem Does.loadAc {x : Operand} {τ t0 : TypeId} {k b o : Nat} {S : List Nat} {w0 : World} {cs vs : List Value} (ht : agg P τ k = true) (hx : ev e x = some (.pointer (some ⟨b, o, none⟩))) (hb : Blk w0 b cs t0) (hn : b ∉ S) (hv : (cs.drop o).take k = vs) (hl : vs.length = k) :
    Does P n e ⟨dst, .load τ x, t, p, af, g⟩ (Chg S w0) (.agg vs.toArray) := Does.loadA ht hx (Keeps.chg hb.lt hn) hb hv hl
theorem Does.load1c {x : Operand} {τ : TypeId} {b o : Nat} {S : List Nat} {w0 : World} {v : Value} (ht : one P τ = true) (hx : ev e x = some (.pointer (some ⟨b, o, none⟩))) (hc : w0.cell? ⟨b, o, none⟩ = some v) (hn : b ∉ S) : Does P n e ⟨dst, .load τ x, t, p, af, g⟩ (Chg S w0) v :=
  Does.load1 ht hx (Keeps.chg (World.block_lt_of_cell? w0 ⟨b, o, none⟩ hc) hn) hc
theorem Does.loadCsc {x : Operand} {τ : TypeId} {k b o : Nat} {S : List Nat} {w0 : World} {vs : List Value} (ht : agg P τ k = true) (hx : ev e x = some (.pointer (some ⟨b, o, none⟩))) (hc : b < w0.heap.size ∧ ∀ j v, vs[j]? = some v → w0.cell? ⟨b, o + j, none⟩ = some v) (hn : b ∉ S) (hl : vs.length = k) :
    Does P n e ⟨dst, .load τ x, t, p, af, g⟩ (Chg S w0) (.agg vs.toArray) := Does.loadCs ht hx (Keeps.chg hc.1 hn) hc.2 hl
theorem Does.makeFunc {f : FuncId} {fi cp : Array Operand} {fv cv : Array Value} (hf : ∀ a, Rep n a e → fi.map a.eval = fv) (hc : ∀ a, Rep n a e → cp.map a.eval = cv) : Does P n e ⟨dst, .makeFunc (.func f) fi cp, t, p, af, g⟩ φ (.func (.func f) fv cv) := fun a w ha _ => by
  simp [execOp, Instr.makeFunc, hf a ha, hc a ha]
end
end Go.Clt
end
section
set_option linter.unusedVariables false
set_option linter.unusedSimpArgs false
namespace Go.Clt
open Go Go.RowKit
section
variable {P : Program} {n : Nat} {ops : Array Oper} {S : World → Prop} {N : Env → World → Prop} {B : Nat → Env → World → Prop} {R : Env → World → Prop} {e : Env} {w : World} {rest : List (Nat × Oper)}
theorem EP.bsplit {l : List (Nat × Oper)} {d : Nat} {b : Bool} (hb : lk e d = some (.bool b)) (h1 : b = true → EP P n ops S N B R l ((d, .bool true) :: e) w) (h2 : b = false → EP P n ops S N B R l ((d, .bool false) :: e) w) : EP P n ops S N B R l e w := by
  have key : ∀ c : Bool, b = c → ∀ a, Rep n a e → Rep n a ((d, .bool c) :: e) := fun c hc a ha => ⟨ha.size, fun i v hi => by
    simp only [lk] at hi
    cases hq : Nat.beq i d with
    | true =>
      rw [hq] at hi
      have : i = d := Nat.eq_of_beq_eq_true hq
      subst this
      simp at hi
      subst hi
      exact ha.get i _ (by rw [hb, hc])
    | false => rw [hq] at hi; exact ha.get i v hi, ha.defers⟩
  intro a ha
  cases hc : b with
  | true => exact h1 hc a (key true hc a ha)
  | false => exact h2 hc a (key false hc a ha)
theorem wanted_of {a : Act} {j d : Nat} {c c' : Bool} (ha : Rep n a e) (hj : (ops[j]?).bind (·.dst) = some d) (hd : Nat.blt d n = true) (hv : lk e d = some (.bool c)) {o : Oper} (ho : o.guard = some (j, c')) : Region.wanted o (yielded ops a.tmps) = (c == c') := by
  have h1 := ha.get d _ hv
  have hlt : d < a.tmps.size := by rw [ha.size]; simpa [Nat.blt_eq] using hd
  have h2 : a.tmps[d]? = some (.bool c) := by
    rw [Array.getElem?_eq_getElem hlt]
    rw [Array.getD_eq_getD_getElem?, Array.getElem?_eq_getElem hlt] at h1
    simpa using h1
  unfold Region.wanted
  rw [ho]
  simp only [yielded, hj, Option.bind_some, h2]
  cases c <;> cases c' <;> rfl
section
variable {dst : Option Tmp} {op : Op} {t : TypeId} {p : String} {af : Array Edge}
theorem EP.ung {k j d : Nat} {c : Bool} (hj : (ops[j]?).bind (·.dst) = some d) (hd : Nat.blt d n = true) (hv : lk e d = some (.bool c)) (h : EP P n ops S N B R ((k, ⟨dst, op, t, p, af, none⟩) :: rest) e w) : EP P n ops S N B R ((k, ⟨dst, op, t, p, af, some (j, c)⟩) :: rest) e w := fun a ha => by
  have h1 := h a ha
  have hw : Region.wanted ⟨dst, op, t, p, af, some (j, c)⟩ (yielded ops a.tmps) = true := by rw [wanted_of ha hj hd hv rfl]; simp
  match k, h1 with
  | 0, h1 =>
    simp only [PlanWp] at h1 ⊢
    obtain ⟨v, hy, h2⟩ := h1
    refine ⟨v, ?_, h2⟩
    rcases hy with ⟨_, hy⟩ | ⟨hy, _⟩
    · exact .inl ⟨hw, hy⟩
    · simp [Region.wanted] at hy
  | 1, h1 =>
    simp only [PlanWp, wpO] at h1 ⊢
    rw [if_pos hw]
    simp only [Region.wanted, if_true] at h1
    exact h1
  | k + 2, h1 =>
    simp only [PlanWp, wpO] at h1 ⊢
    rw [if_pos hw]
    simp only [Region.wanted, if_true] at h1
    exact h1
theorem EP.skp {k j d x : Nat} {c c' : Bool} (hj : (ops[j]?).bind (·.dst) = some d) (hd : Nat.blt d n = true) (hv : lk e d = some (.bool c)) (hc : (c == c') = false) (hx : Nat.blt x n = true) (hk : k = 1 → S w) (h : EP P n ops S N B R rest ((x, undef) :: e) w) :
    EP P n ops S N B R ((k, ⟨some x, op, t, p, af, some (j, c')⟩) :: rest) e w := fun a ha => by
  have hw : Region.wanted ⟨some x, op, t, p, af, some (j, c')⟩ (yielded ops a.tmps) = false := by rw [wanted_of ha hj hd hv rfl]; exact hc
  have h1 := h _ (ha.put x undef hx)
  match k, hk with
  | 0, _ => simp only [PlanWp]; exact ⟨undef, .inr ⟨hw, rfl⟩, h1⟩
  | 1, hk => simp only [PlanWp, wpO]; rw [if_neg (by rw [hw]; simp)]; exact ⟨hk rfl, h1⟩
  | k + 2, _ => simp only [PlanWp, wpO]; rw [if_neg (by rw [hw]; simp)]; exact h1
end
end
theorem EW.drw' {P : Program} {n : Nat} {ops : Array Oper} {N : Env → World → Prop} {B : Nat → Env → World → Prop} {R : Env → World → Prop} {e : Env} {w : World} {id : Nat} {S : List Nat} (tl : Nat) (l : List (Nat × Nat)) (hm : P.follows .mixedOrders = true)
    (hB : (Region.noSelect ops && tailB .any ops tl && planB .any ops tl l (Array.replicate ops.size false) && l.length == ops.size) = true)
    (h : ∀ w', Chg [] w w' → w'.heap.size = w.heap.size → EP P n ops (Chg S w') N B R (pick ops l) e w') : EW P n (.region id ops true) N B R e w :=
  EW.drw (Chg S { w with drawn := w.drawn + 1 }) tl l hm hB (Chg.refl _ _) (h _ (Chg.drawn _ _) rfl)
section
variable {P : Program} {n : Nat} {ops : Array Oper} {S : World → Prop} {N : Env → World → Prop} {B : Nat → Env → World → Prop} {R : Env → World → Prop} {e : Env} {w : World}
variable {rest : List (Nat × Oper)} {d : Nat} {op : Op} {t : TypeId} {p : String} {af : Array Edge}
def News (P : Program) (n : Nat) (e : Env) (o : Oper) (w : World) (cs : List Value) (τ : TypeId) (mk : Nat → Value) : Prop :=
  ∀ a, Rep n a e → (execOp a.eval o).run P w = .ok (.value (mk w.heap.size)) (w.alloc (.cells cs.toArray τ))
theorem EP.new2 {cs : List Value} {τ : TypeId} {mk : Nat → Value} (hd : Nat.blt d n = true) (hy : News P n e ⟨some d, op, t, p, af, none⟩ w cs τ mk)
    (h : ∀ b w', b = w.heap.size → w'.heap.size = b + 1 → Chg [] w w' → Blk w' b cs τ → EP P n ops S N B R rest ((d, mk b) :: e) w') : EP P n ops S N B R ((2, ⟨some d, op, t, p, af, none⟩) :: rest) e w :=
  EP.x2 hd hy (h _ _ rfl (by simp) (Chg.alloc [] w _) (blk_new w cs τ))
theorem EP.new1 {cs : List Value} {τ : TypeId} {mk : Nat → Value} (hd : Nat.blt d n = true) (hy : News P n e ⟨some d, op, t, p, af, none⟩ w cs τ mk)
    (h : ∀ b w', b = w.heap.size → w'.heap.size = b + 1 → Chg [] w w' → Blk w' b cs τ → S w' ∧ EP P n ops S N B R rest ((d, mk b) :: e) w') : EP P n ops S N B R ((1, ⟨some d, op, t, p, af, none⟩) :: rest) e w :=
  let h' := h _ _ rfl (by simp) (Chg.alloc [] w _) (blk_new w cs τ)
  EP.x1 hd hy h'.1 h'.2
def zeroB (P : Program) (τ : TypeId) : Option Value := (P.info? τ).bind (·.zero)
variable {dst : Option Tmp} {g : Option (Nat × Bool)}
theorem News.box {x : Operand} {τ : TypeId} {v : Value} {cs : List Value} (hx : ev e x = some v) (hc : v.cells = cs.toArray) : News P n e ⟨dst, .box τ x, t, p, af, g⟩ w cs τ (fun b => .pointer (some ⟨b, 0, none⟩)) := fun a ha => by
  simp [execOp, ha.ev hx, Instr.box, newVar, newRow, hc]
theorem News.alloc {τ : TypeId} {z : Value} {cs : List Value} (hz : zeroB P τ = some z) (hc : z.cells = cs.toArray) : News P n e ⟨dst, .alloc τ, t, p, af, g⟩ w cs τ (fun b => .pointer (some ⟨b, 0, none⟩)) := fun a ha => by
  unfold zeroB at hz
  obtain ⟨i, hi, hz⟩ := Option.bind_eq_some_iff.1 hz
  simp [execOp, Instr.alloc, zeroValue, typeInfo, hi, hz, newVar, newRow, hc]
def evs (e : Env) : List Operand → Option (List Value)
  | [] => some []
  | x :: r => match ev e x with
    | none => none
    | some v => match evs e r with
      | none => none
      | some vs => some (v :: vs)
def evp (e : Env) : List (Nat × Operand) → Option (List (Nat × Value))
  | [] => some []
  | q :: r => match ev e q.2 with
    | none => none
    | some v => match evp e r with
      | none => none
      | some vs => some ((q.1, v) :: vs)
theorem map_parts {parts : Array (Nat × Operand)} {vs : List (Nat × Value)} {a : Act} (ha : Rep n a e) (hp : evp e parts.toList = some vs) : (parts.map fun (i, x) => (i, a.eval x)).toList = vs := by
  obtain ⟨l⟩ := parts
  simp only [List.map_toArray] at *
  induction l generalizing vs with
  | nil => simp [evp] at hp; subst hp; rfl
  | cons q r ih =>
    simp only [evp] at hp
    cases hv : ev e q.2 with
    | none => rw [hv] at hp; cases hp
    | some v =>
      rw [hv] at hp
      cases hr : evp e r with
      | none => rw [hr] at hp; cases hp
      | some us =>
        rw [hr] at hp
        simp at hp
        subst hp
        have := ih hr
        simp only [List.map_cons]
        rw [ha.ev hv]
        simpa using this
theorem News.buildSlice {τ el : TypeId} {len sz : Nat} {parts : Array (Nat × Operand)} {vs : List (Nat × Value)} {z : Value} {cs : List Value} (ht : slB P τ sz = true) (hel : P.underlying τ = some (.slice el)) (hz : zeroB P el = some z) (hlen : Nat.ble (len * sz) 16777216 = true)
    (hp : evp e parts.toList = some vs)
    (hfill : Instr.fill (fun i => some (i * sz, sz)) ((Array.range (len * sz)).map (z.cells[· % z.cells.size]!)) vs = some cs.toArray) :
    News P n e ⟨dst, .buildSlice τ len parts, t, p, af, g⟩ w cs el (fun b => .slice (some ⟨b, 0, none⟩) len len) := fun a ha => by
  obtain ⟨el', inf, hu, hi, hs⟩ := slB_spec ht
  have : el' = el := by rw [hu] at hel; injection hel with h; injection h
  subst this
  unfold zeroB at hz
  obtain ⟨i, hi', hz⟩ := Option.bind_eq_some_iff.1 hz
  rw [hi] at hi'
  injection hi' with hi'
  subst hi'
  have hle : ¬ (len * inf.size > 2 ^ 24) := by have := Nat.le_of_ble_eq_true hlen; rw [hs]; omega
  obtain ⟨arr, harr, hcs⟩ : ∃ arr, Instr.fill (fun i => some (i * sz, sz)) ((Array.range (len * sz)).map (z.cells[· % z.cells.size]!)) vs = some arr ∧ arr.toList = cs := ⟨_, hfill, by simp⟩
  subst hcs
  have hvs := map_parts ha hp
  subst hs
  have hvs' : (parts.map fun (i, x) => (i, a.eval x)).toList = vs := hvs
  simp only [execOp, Instr.buildSlice, Sem.run_bind, run_underlying hu, Result.andThen_ok, sizeOf, typeInfo, run_program, hi, Sem.run_pure]
  rw [if_neg hle]
  by_cases h0 : len * inf.size = 0
  · have harr0 : Instr.fill (fun i => some (i * inf.size, inf.size)) #[] vs = some arr := by rw [h0, show ((Array.range 0).map (z.cells[· % z.cells.size]!)) = #[] from by simp [Array.range]] at harr; exact harr
    rw [if_pos h0, h0]
    simp only [Sem.run_pure, Sem.run_bind, Result.andThen_ok]
    rw [hvs', show ((Array.range 0).map ((#[] : Array Value)[· % (#[] : Array Value).size]!)) = #[] from by simp [Array.range], harr0]
    simp [newRow]
  · rw [if_neg h0]
    simp only [Sem.run_pure, Sem.run_bind, Result.andThen_ok, zeroValue, typeInfo, run_program, hi, hz]
    rw [hvs', harr]
    simp [newRow]
theorem blk_set {b o : Nat} {cs vs : List Value} {τ : TypeId} (hb : Blk w b cs τ) (hl : o + vs.length ≤ cs.length) (h1 : ∀ v ∈ vs, v.oneCell' = true) :
    ∃ w', (storeCells ⟨b, o, none⟩ vs).run P w = .ok () w' ∧ Chg [b] w w' ∧ w'.heap.size = w.heap.size ∧ Blk w' b (cs.take o ++ vs ++ cs.drop (o + vs.length)) τ := by
  have := run_storeCells_at P b o τ vs 0 cs.toArray w hb (by simpa using hl) h1
  refine ⟨_, this, ⟨rfl, rfl, rfl, by simp [World.setRow], fun k _ hk => setRow_other w b k _ (fun h => hk (by simp [h]))⟩, by simp [World.setRow], ?_⟩
  have h2 := setRow_heap w b cs.toArray (((cs.toArray).toList.take (o + 0) ++ vs ++ (cs.toArray).toList.drop (o + 0 + vs.length)).toArray) τ (0, 0) hb
  simpa [Blk] using h2
theorem sizeOf_run {τ : TypeId} {k : Nat} (h : ((P.info? τ).map (·.size) == some k) = true) (w : World) : (sizeOf τ).run P w = .ok k w := by
  simp only [beq_iff_eq, Option.map_eq_some_iff] at h
  obtain ⟨i, hi, hs⟩ := h
  simp [sizeOf, typeInfo, hi, hs]
def szB (P : Program) (τ : TypeId) (k : Nat) : Bool := (P.info? τ).map (·.size) == some k
def Puts (P : Program) (n : Nat) (e : Env) (o : Oper) (w : World) (b : Nat) (cs : List Value) (τ : TypeId) : Prop :=
  ∃ w', (∀ a, Rep n a e → (execOp a.eval o).run P w = .ok .skip w') ∧ Chg [b] w w' ∧ w'.heap.size = w.heap.size ∧ Blk w' b cs τ
theorem Puts.blk {x y : Operand} {τ t0 : TypeId} {b o k : Nat} {v : Value} {cs vs cs' : List Value} (hs : szB P τ k = true) (hx : ev e x = some (.pointer (some ⟨b, o, none⟩))) (hy : ev e y = some v) (hb : Blk w b cs t0)
    (hv : v.cells = vs.toArray) (hk : vs.length = k) (h1 : vs.all Value.oneCell' = true) (hl : Nat.ble (o + k) cs.length = true) (hc : cs.take o ++ vs ++ cs.drop (o + k) = cs') : Puts P n e ⟨dst, .store τ x y, t, p, af, g⟩ w b cs' t0 := by
  subst hc
  obtain ⟨w', hr, h2, h3, h4⟩ := blk_set (P := P) hb (o := o) (vs := vs) (by rw [hk]; exact Nat.le_of_ble_eq_true hl) (fun u hu => by rw [List.all_eq_true] at h1; exact h1 u hu)
  refine ⟨w', fun a ha => ?_, h2, h3, by rw [← hk]; exact h4⟩
  have hsz : v.cells.size = k := by rw [hv]; simpa using hk
  simp [execOp, ha.ev hx, ha.ev hy, Instr.storeAt, Instr.sureAddr, storeVar, sizeOf_run hs, hsz, hv, hk, hr]
theorem EP.put2 {b : Nat} {cs : List Value} {τ : TypeId} (hy : Puts P n e ⟨none, op, t, p, af, none⟩ w b cs τ)
    (h : ∀ w', w'.heap.size = w.heap.size → Chg [b] w w' → Blk w' b cs τ → EP P n ops S N B R rest e w') : EP P n ops S N B R ((2, ⟨none, op, t, p, af, none⟩) :: rest) e w := by
  obtain ⟨w', hr, h2, h3, h4⟩ := hy
  exact EP.s2 hr (h w' h3 h2 h4)
def bodyB (P : Program) (f : FuncId) : Bool := match P.funcs[f]? with | some fn => !(fn.name == "runtime.NumGoroutine") && !fn.body.isNone | none => false
theorem run_callFunc' {f : FuncId} (h : bodyB P f = true) (args : Array Value) (w : World) : (callFunc f args).run P w = .ok (.enter f args) w := by
  unfold bodyB at h
  cases hf : P.funcs[f]? with
  | none => rw [hf] at h; cases h
  | some fn =>
    rw [hf] at h
    simp only [Bool.and_eq_true, Bool.not_eq_true'] at h
    simp only [callFunc, Sem.run_bind, run_program, Result.andThen_ok, hf, h.1, h.2]
    rfl
theorem map_args {xs : Array Operand} {vs : List Value} {a : Act} (ha : Rep n a e) (hp : evs e xs.toList = some vs) : xs.map a.eval = vs.toArray := by
  obtain ⟨l⟩ := xs
  simp only [List.map_toArray] at *
  congr 1
  induction l generalizing vs with
  | nil => simp [evs] at hp; subst hp; rfl
  | cons q r ih =>
    simp only [evs] at hp
    cases hv : ev e q with
    | none => rw [hv] at hp; cases hp
    | some v =>
      rw [hv] at hp
      cases hr : evs e r with
      | none => rw [hr] at hp; cases hp
      | some us =>
        rw [hr] at hp
        simp at hp
        subst hp
        simp only [List.map_cons]
        rw [ha.ev hv, ih hr]
def Enters (P : Program) (n : Nat) (e : Env) (o : Oper) (w : World) (f : FuncId) (args : Array Value) : Prop := ∀ a, Rep n a e → (execOp a.eval o).run P w = .ok (.enter f args) w
theorem Enters.fn {f : FuncId} {xs : Array Operand} {ts : Array TypeId} {vs : List Value} (hf : bodyB P f = true) (hp : evs e xs.toList = some vs) :
    Enters P n e ⟨dst, .call { callee := .value (.func f), args := xs, argTypes := ts }, t, p, af, g⟩ w f vs.toArray := fun a ha => by
  have : a.eval (.func f) = .func (.func f) #[] #[] := ha.ev rfl
  simp [execOp, resolve, this, Deferred.ofValue, map_args ha hp, invoke, run_callFunc' hf]
theorem Enters.clo {f : FuncId} {x : Operand} {xs : Array Operand} {ts : Array TypeId} {vs : List Value} {fi cp : Array Value} (hx : ev e x = some (.func (.func f) fi cp)) (hf : bodyB P f = true) (hp : evs e xs.toList = some vs) :
    Enters P n e ⟨dst, .call { callee := .value x, args := xs, argTypes := ts }, t, p, af, g⟩ w f (fi ++ vs.toArray ++ cp) := fun a ha => by
  simp [execOp, resolve, ha.ev hx, Deferred.ofValue, map_args ha hp, invoke, run_callFunc' hf]
theorem EP.call2 {f : FuncId} {args : Array Value} {T : Value → World → Prop} (hd : Nat.blt d n = true) (hy : Enters P n e ⟨some d, op, t, p, af, none⟩ w f args) (hc : Calls P f args w (Ret T))
    (h : ∀ v w', T v w' → EP P n ops S N B R rest ((d, v) :: e) w') : EP P n ops S N B R ((2, ⟨some d, op, t, p, af, none⟩) :: rest) e w := EP.c2 hd hy hc h
theorem EP.call1 {f : FuncId} {args : Array Value} {T : Value → World → Prop} (hd : Nat.blt d n = true) (hy : Enters P n e ⟨some d, op, t, p, af, none⟩ w f args) (hc : Calls P f args w (Ret T))
    (h : ∀ v w', T v w' → S w' ∧ EP P n ops S N B R rest ((d, v) :: e) w') : EP P n ops S N B R ((1, ⟨some d, op, t, p, af, none⟩) :: rest) e w := EP.c1 hd hy hc h
theorem Calls.ret {f : FuncId} {args : Array Value} {T T' : Value → World → Prop} (h : Calls P f args w (Ret T)) (hT : ∀ v w', T v w' → T' v w') : Calls P f args w (Ret T') :=
  h.mono fun x w' hx => by cases x <;> first | exact hT _ _ hx | exact hx
def plB (P : Program) (τ : TypeId) : Option (List (Nat × Nat)) :=
  match P.underlying τ with
  | some (.struct fs) => fs.toList.mapM fun f => (P.info? f.type).map fun i => (f.offset, i.size)
  | _ => none
theorem run_places (w : World) : ∀ (fs : List Field) (pl : List (Nat × Nat)), (fs.mapM fun f => (P.info? f.type).map fun i => (f.offset, i.size)) = some pl → (fs.mapM fun f => do pure (f.offset, ← sizeOf f.type) : Sem (List (Nat × Nat))).run P w = .ok pl w
  | [], pl, h => by simp at h; subst h; simp
  | f :: fs, pl, h => by
    simp only [List.mapM_cons, Option.bind_eq_bind, Option.bind_eq_some_iff, Option.map_eq_some_iff] at h
    obtain ⟨q, ⟨i, hi, rfl⟩, us, hus, h⟩ := h
    simp at h
    subst h
    have := run_places w fs us hus
    simp [List.mapM_cons, sizeOf, typeInfo, hi, this] at *
    simp [this]
theorem Does.buildS {φ : World → Prop} {τ : TypeId} {parts : Array (Nat × Operand)} {vs : List (Nat × Value)} {z : Value} {pl : List (Nat × Nat)} {cs : List Value} (hz : zeroB P τ = some z) (hpl : plB P τ = some pl) (hp : evp e parts.toList = some vs)
    (hfill : Instr.fill (pl[·]?) z.cells vs = some cs.toArray) : Does P n e ⟨dst, .build τ parts, t, p, af, g⟩ φ (.agg cs.toArray) := fun a w ha _ => by
  unfold zeroB at hz
  obtain ⟨i, hi, hz⟩ := Option.bind_eq_some_iff.1 hz
  unfold plB at hpl
  cases hu : P.underlying τ with
  | none => rw [hu] at hpl; cases hpl
  | some dd =>
    rw [hu] at hpl
    cases dd <;> try (cases hpl; done)
    rename_i fs
    have h1 := run_places (P := P) w fs.toList pl hpl
    have h2 := map_parts ha hp
    have h3 : (fs.mapM fun f => do pure (f.offset, ← sizeOf f.type) : Sem (Array (Nat × Nat))).run P w = .ok pl.toArray w := by
      rw [Array.mapM_eq_mapM_toList, Sem.run_map, h1]
      rfl
    simp only [execOp, Instr.build, Sem.run_bind, zeroValue, typeInfo, run_program, hi, hz, Sem.run_pure, Result.andThen_ok, run_underlying hu, h3]
    rw [h2, show (fun x => pl.toArray[x]?) = (fun x => pl[x]?) from by funext x; simp, hfill]
    simp
theorem Does.buildA {φ : World → Prop} {τ : TypeId} {len sz : Nat} {parts : Array (Nat × Operand)} {vs : List (Nat × Value)} {z : Value} {cs : List Value} (hz : zeroB P τ = some z) (har : arB P τ len sz = true) (hp : evp e parts.toList = some vs)
    (hfill : Instr.fill (fun i => some (i * sz, sz)) z.cells vs = some cs.toArray) : Does P n e ⟨dst, .build τ parts, t, p, af, g⟩ φ (.agg cs.toArray) := fun a w ha _ => by
  unfold zeroB at hz
  obtain ⟨i, hi, hz⟩ := Option.bind_eq_some_iff.1 hz
  obtain ⟨el, inf, hu, hi2, hs⟩ := arB_spec har
  have h2 := map_parts ha hp
  simp only [execOp, Instr.build, Sem.run_bind, zeroValue, typeInfo, run_program, hi, hz, Sem.run_pure, Result.andThen_ok, run_underlying hu, sizeOf, hi2, hs]
  rw [h2, hfill]
  simp
end
end Go.Clt
end
section
set_option linter.unusedVariables false
set_option linter.unusedSimpArgs false
namespace Go.Clt
open Go Go.RowKit
structure Rd (F : Nat → Prop) (w : World) (sz : Nat) (A : Option Addr) (n : Nat) (cs : List Value) : Prop where
  len : cs.length = n * sz
  at_ : 0 < n → ∃ g off, A = some ⟨g, off, none⟩ ∧ F g ∧ g < w.heap.size ∧ ∀ j v, cs[j]? = some v → w.cell? ⟨g, off + j, none⟩ = some v
theorem Rd.nil (F : Nat → Prop) (w : World) (sz : Nat) (A : Option Addr) : Rd F w sz A 0 [] := ⟨by simp, fun h => absurd h (by omega)⟩
theorem Chg.cell {S : List Nat} {w w' : World} (k : Chg S w w') {g o : Nat} {v : Value} (hg : g ∉ S) (hc : w.cell? ⟨g, o, none⟩ = some v) : w'.cell? ⟨g, o, none⟩ = some v := by
  have := k.same g (World.block_lt_of_cell? w ⟨g, o, none⟩ hc) hg
  unfold World.cell? at *
  rw [this]
  exact hc
theorem Rd.chg {F : Nat → Prop} {w w' : World} {sz n : Nat} {A : Option Addr} {cs : List Value} {S : List Nat} (h : Rd F w sz A n cs) (k : Chg S w w') (hS : ∀ b ∈ S, ¬ F b) : Rd F w' sz A n cs :=
  ⟨h.len, fun hn => by
    obtain ⟨g, off, hA, hF, hlt, hc⟩ := h.at_ hn
    exact ⟨g, off, hA, hF, Nat.lt_of_lt_of_le hlt k.size, fun j v hj => k.cell (fun hg => hS g hg hF) (hc j v hj)⟩⟩
theorem Rd.chg0 {F : Nat → Prop} {w w' : World} {sz n : Nat} {A : Option Addr} {cs : List Value} (h : Rd F w sz A n cs) (k : Chg [] w w') : Rd F w' sz A n cs := h.chg k (fun b hb => by cases hb)
theorem Rd.mono {F F' : Nat → Prop} {w : World} {sz n : Nat} {A : Option Addr} {cs : List Value} (h : Rd F w sz A n cs) (hF : ∀ b, F b → b < w.heap.size → F' b) : Rd F' w sz A n cs :=
  ⟨h.len, fun hn => by
    obtain ⟨g, off, hA, hF0, hlt, hc⟩ := h.at_ hn
    exact ⟨g, off, hA, hF g hF0 hlt, hlt, hc⟩⟩
def Own (w : World) (lo : Nat) (el : TypeId) (sz : Nat) (A : Option Addr) (n c : Nat) (cs : List Value) : Prop := w.ownsRow lo el sz (.slice A n c) n cs
theorem Own.nil (w : World) (lo : Nat) (el : TypeId) (sz : Nat) : Own w lo el sz none 0 0 [] := World.ownsRow_nil w lo el sz
theorem Own.len {w : World} {lo : Nat} {el : TypeId} {sz n c : Nat} {A : Option Addr} {cs : List Value} (h : Own w lo el sz A n c cs) : cs.length = n * sz := h.1
theorem Own.cap {w : World} {lo : Nat} {el : TypeId} {sz n c : Nat} {A : Option Addr} {cs : List Value} (h : Own w lo el sz A n c cs) : n ≤ c := by
  rcases h.2 with ⟨h1, h2⟩ | ⟨g, cap, cur, h1, _, _, h2, _⟩
  · omega
  · cases h1; exact h2
theorem Own.form {w : World} {lo : Nat} {el : TypeId} {sz n c : Nat} {A : Option Addr} {cs : List Value} (h : Own w lo el sz A n c cs) : (A = none ∧ n = 0) ∨ ∃ g cur, A = some ⟨g, 0, none⟩ ∧ lo ≤ g ∧ Blk w g cur el ∧ cur.length = c * sz ∧ cur.take (n * sz) = cs := by
  rcases h.2 with ⟨h1, h2⟩ | ⟨g, cap, cur, h1, hb, hh, h2, _, h3, h4⟩
  · cases h1; exact .inl ⟨rfl, rfl⟩
  · cases h1; exact .inr ⟨g, cur.toList, rfl, hb, by simpa [Blk] using hh, by simpa using h3, h4⟩
theorem Own.chg {w w' : World} {lo : Nat} {el : TypeId} {sz n c : Nat} {A : Option Addr} {cs : List Value} {S : List Nat} (h : Own w lo el sz A n c cs) (k : Chg S w w') (hS : ∀ b ∈ S, b < lo ∨ A ≠ some ⟨b, 0, none⟩) : Own w' lo el sz A n c cs := by
  refine ⟨h.1, ?_⟩
  rcases h.2 with h1 | ⟨g, cap, cur, h1, hb, hh, r⟩
  · exact .inl h1
  · refine .inr ⟨g, cap, cur, h1, hb, (k.same g (Array.getElem?_eq_some_iff.1 hh).1 fun hg => ?_).trans hh, r⟩
    rcases hS g hg with h2 | h2
    · omega
    · cases h1; exact h2 rfl
theorem Own.chg0 {w w' : World} {lo : Nat} {el : TypeId} {sz n c : Nat} {A : Option Addr} {cs : List Value} (h : Own w lo el sz A n c cs) (k : Chg [] w w') : Own w' lo el sz A n c cs := h.chg k (fun b hb => by cases hb)
theorem Own.lower {w : World} {lo lo' : Nat} {el : TypeId} {sz n c : Nat} {A : Option Addr} {cs : List Value} (h : Own w lo el sz A n c cs) (hl : lo' ≤ lo) : Own w lo' el sz A n c cs := by
  refine ⟨h.1, ?_⟩
  rcases h.2 with h1 | ⟨g, cap, cur, h1, hb, r⟩
  · exact .inl h1
  · exact .inr ⟨g, cap, cur, h1, Nat.le_trans hl hb, r⟩
theorem Own.rd {w : World} {lo : Nat} {el : TypeId} {sz n c : Nat} {A : Option Addr} {cs : List Value} (h : Own w lo el sz A n c cs) {F : Nat → Prop} (hF : ∀ b, lo ≤ b → b < w.heap.size → F b) : Rd F w sz A n cs := by
  refine ⟨h.1, fun hn => ?_⟩
  rcases h.form with ⟨_, h0⟩ | ⟨g, cur, hA, hlo, hb, hl, ht⟩
  · omega
  · refine ⟨g, 0, hA, hF g hlo hb.lt, hb.lt, fun j v hj => ?_⟩
    rw [hb.cell, Nat.zero_add]
    rw [← ht, List.getElem?_take] at hj
    split at hj
    · exact hj
    · cases hj
section
variable {P : Program} {n : Nat} {ops : Array Oper} {S : World → Prop} {N : Env → World → Prop} {B : Nat → Env → World → Prop} {R : Env → World → Prop} {e : Env} {w : World}
variable {rest : List (Nat × Oper)} {d : Nat} {op : Op} {t : TypeId} {p : String} {af : Array Edge} {dst : Option Tmp} {g : Option (Nat × Bool)}
def blkOf : Option Addr → List Nat
  | some a => [a.block]
  | none => []
def elB (P : Program) (τ el : TypeId) (sz bytes : Nat) : Bool :=
  (match P.underlying τ with | some (.slice x) => x == el | _ => false) && (match P.info? el with | some i => i.size == sz && i.bytes == bytes && (match i.zero with | some z => z.cells.size == sz | none => false) | none => false) && decide (0 < sz) && decide (0 < bytes)
theorem elB_spec {τ el : TypeId} {sz bytes : Nat} (h : elB P τ el sz bytes = true) : P.underlying τ = some (.slice el) ∧ 0 < sz ∧ 0 < bytes ∧ ∃ i z, P.info? el = some i ∧ i.size = sz ∧ i.bytes = bytes ∧ i.zero = some z ∧ z.cells.size = sz := by
  simp only [elB, Bool.and_eq_true, decide_eq_true_eq] at h
  obtain ⟨⟨⟨h1, h2⟩, h3⟩, h4⟩ := h
  refine ⟨?_, h3, h4, ?_⟩
  · cases hu : P.underlying τ with
    | none => rw [hu] at h1; cases h1
    | some dd => rw [hu] at h1; cases dd <;> first | (cases h1; done) | (simp at h1; subst h1; rfl)
  · cases hi : P.info? el with
    | none => rw [hi] at h2; cases h2
    | some i =>
      rw [hi] at h2
      simp only [Bool.and_eq_true, beq_iff_eq] at h2
      obtain ⟨⟨ha, hb⟩, hc⟩ := h2
      cases hz : i.zero with
      | none => rw [hz] at hc; cases hc
      | some z => rw [hz] at hc; exact ⟨i, z, rfl, ha, hb, hz, by simpa using hc⟩
theorem run_append {τ el ty : TypeId} {sz bytes lo n c m c2 : Nat} {A A2 : Option Addr} {cs cs2 : List Value} {F : Nat → Prop} (ht : elB P τ el sz bytes = true) (ho : Own w lo el sz A n c cs) (hr : Rd F w sz A2 m cs2) (h1 : ∀ u ∈ cs2, u.oneCell' = true)
    (hl : (n + m) * bytes ≤ 140737488355328) (hlo : lo ≤ w.heap.size) :
    ∃ A' c' w', (Builtin.append_ #[τ, τ] ty #[.slice A n c, .slice A2 m c2]).run P w = .ok (.slice A' (n + m) c') w' ∧ Own w' lo el sz A' (n + m) c' (cs ++ cs2) ∧ Chg (blkOf A) w w' ∧ (A' = A ∨ ∃ b, A' = some ⟨b, 0, none⟩ ∧ w.heap.size ≤ b) := by
  obtain ⟨hu, hsz, hby, i, z, hi, hs, hb, hz, hzs⟩ := elB_spec ht
  have hle : n + m ≤ 140737488355328 := Nat.le_trans (Nat.le_mul_of_pos_right _ hby) hl
  have hchg : ∀ {w' : World}, w.grownBy w' (Value.ownBlock (.slice A n c)) → Chg (blkOf A) w w' := fun hg => by
    have := Chg.of_grown hg
    cases A <;> simpa [Value.ownBlock, blkOf] using this
  rcases Nat.eq_zero_or_pos m with hm | hm
  · subst hm
    obtain rfl : cs2 = [] := List.eq_nil_of_length_eq_zero (by simpa using hr.len)
    have hnc := ho.cap
    refine ⟨A, c, w, ?_, by simpa using ho, Chg.refl _ _, .inl rfl⟩
    rcases ho.form with ⟨rfl, rfl⟩ | ⟨g, cur, rfl, _⟩ <;> cases A2 <;> simp [Builtin.append_, run_underlying hu, sizeOf, typeInfo, hi, Builtin.lenOf, Builtin.firstCells, storeCells, hnc, loadCells, loadCellsFrom]
  · obtain ⟨g2, o2, rfl, hF, hlt, hc⟩ := hr.at_ hm
    obtain ⟨v', w', h2, h3, h4, _, h6⟩ := run_append_own_at (P := P) w lo τ ty el i z sz bytes hu hi hz hs hb hzs hsz (.slice A n c) n cs ho ⟨g2, o2, none⟩ m c2 cs2 hr.len (fun j u hj => by rw [add0]; exact hc j u hj) h1 (by simp only [maxLen]; omega) hl hlo
    have hv : ∃ A' c', v' = .slice A' (n + m) c' := by
      rcases h3.2 with ⟨hv, hn⟩ | ⟨g, cap, cur, hv, _⟩
      · exact ⟨none, 0, by rw [hv]; congr 1; omega⟩
      · exact ⟨_, cap, hv⟩
    obtain ⟨A', c', rfl⟩ := hv
    refine ⟨A', c', w', h2, h3, hchg h4, ?_⟩
    have hf := World.ownsRow.lt h3
    have hform := Own.form (show Own w' lo el sz A' (n + m) c' (cs ++ cs2) from h3)
    rcases hform with ⟨_, h0⟩ | ⟨g', cur, rfl, _⟩
    · omega
    · rcases h6 with h6 | h6
      · left
        cases A with
        | none => simp [Value.ownBlock] at h6
        | some a =>
          rcases ho.form with ⟨hA, _⟩ | ⟨g, cur', hA, _⟩
          · cases hA
          · injection hA with hA
            subst hA
            simp [Value.ownBlock] at h6
            rw [h6]
      · right
        exact ⟨g', rfl, by simp [Value.ownBlock] at h6; omega⟩
theorem EP.append2 {τ el : TypeId} {sz bytes lo n' c m c2 : Nat} {x y : Operand} {A A2 : Option Addr} {cs cs2 : List Value} {F : Nat → Prop} (hd : Nat.blt d n = true) (ht : elB P τ el sz bytes = true)
    (hx : ev e x = some (.slice A n' c)) (hy : ev e y = some (.slice A2 m c2)) (ho : Own w lo el sz A n' c cs) (hr : Rd F w sz A2 m cs2) (h1 : cs2.all Value.oneCell' = true) (hl : (n' + m) * bytes ≤ 140737488355328) (hlo : lo ≤ w.heap.size)
    (h : ∀ A' c' w', Own w' lo el sz A' (n' + m) c' (cs ++ cs2) → Chg (blkOf A) w w' → (A' = A ∨ ∃ b, A' = some ⟨b, 0, none⟩ ∧ w.heap.size ≤ b) → EP P n ops S N B R rest ((d, .slice A' (n' + m) c') :: e) w') :
    EP P n ops S N B R ((2, ⟨some d, .call { callee := .builtin .append, args := #[x, y], argTypes := #[τ, τ] }, t, p, af, none⟩) :: rest) e w := by
  obtain ⟨A', c', w', hrun, h2, h3, h4⟩ := run_append (ty := t) (c2 := c2) ht ho hr (fun u hu => by rw [List.all_eq_true] at h1; exact h1 u hu) hl hlo
  exact EP.x2 hd (fun a ha => by simp [execOp, resolve, invoke, builtin, ha.ev hx, ha.ev hy, hrun]) (h A' c' w' h2 h3 h4)
theorem EP.append1 {τ el : TypeId} {sz bytes lo n' c m c2 : Nat} {x y : Operand} {A A2 : Option Addr} {cs cs2 : List Value} {F : Nat → Prop} (hd : Nat.blt d n = true) (ht : elB P τ el sz bytes = true)
    (hx : ev e x = some (.slice A n' c)) (hy : ev e y = some (.slice A2 m c2)) (ho : Own w lo el sz A n' c cs) (hr : Rd F w sz A2 m cs2) (h1 : cs2.all Value.oneCell' = true) (hl : (n' + m) * bytes ≤ 140737488355328) (hlo : lo ≤ w.heap.size)
    (h : ∀ A' c' w', Own w' lo el sz A' (n' + m) c' (cs ++ cs2) → Chg (blkOf A) w w' → (A' = A ∨ ∃ b, A' = some ⟨b, 0, none⟩ ∧ w.heap.size ≤ b) → S w' ∧ EP P n ops S N B R rest ((d, .slice A' (n' + m) c') :: e) w') :
    EP P n ops S N B R ((1, ⟨some d, .call { callee := .builtin .append, args := #[x, y], argTypes := #[τ, τ] }, t, p, af, none⟩) :: rest) e w := by
  obtain ⟨A', c', w', hrun, h2, h3, h4⟩ := run_append (ty := t) (c2 := c2) ht ho hr (fun u hu => by rw [List.all_eq_true] at h1; exact h1 u hu) hl hlo
  exact EP.x1 hd (fun a ha => by simp [execOp, resolve, invoke, builtin, ha.ev hx, ha.ev hy, hrun]) (h A' c' w' h2 h3 h4).1 (h A' c' w' h2 h3 h4).2
theorem Blk.rd {b : Nat} {cs : List Value} {τ : TypeId} {F : Nat → Prop} (h : Blk w b cs τ) {sz m : Nat} (hl : cs.length = m * sz) (hF : F b) : Rd F w sz (some ⟨b, 0, none⟩) m cs :=
  ⟨hl, fun _ => ⟨b, 0, rfl, hF, h.lt, fun j v hj => by rw [h.cell, Nat.zero_add]; exact hj⟩⟩
theorem Blk.own {b lo : Nat} {cs : List Value} {τ : TypeId} (h : Blk w b cs τ) {sz m : Nat} (hl : cs.length = m * sz) (hlo : lo ≤ b) (hm : m ≤ 9223372036854775807) : Own w lo τ sz (some ⟨b, 0, none⟩) m m cs :=
  ⟨hl, .inr ⟨b, m, cs.toArray, rfl, hlo, h, Nat.le_refl _, by simpa [maxLen] using hm, by simpa using hl, by rw [← hl]; simp⟩⟩
theorem News.make {τ el : TypeId} {sz bytes : Nat} {z : Value} {x : Operand} {i : Int} {cs : List Value} (ht : elB P τ el sz bytes = true) (hz : zeroB P el = some z) (hx : ev e x = some (.int .i64 i)) (h0 : 0 ≤ i) (hb : i.toNat * bytes ≤ 140737488355328)
    (hc : (madeCells z.cells (i.toNat * sz)).toList = cs) : News P n e ⟨dst, .makeSlice τ x x, t, p, af, g⟩ w cs el (fun b => .slice (some ⟨b, 0, none⟩) i.toNat i.toNat) := fun a ha => by
  obtain ⟨hu, hsz, hby, inf, z', hi, hs, hb', hz', hzs⟩ := elB_spec ht
  unfold zeroB at hz
  rw [hi] at hz
  simp only [Option.bind_some] at hz
  rw [hz] at hz'
  injection hz' with hz'
  subst hz'
  subst hc
  have hle : i.toNat ≤ 140737488355328 := Nat.le_trans (Nat.le_mul_of_pos_right _ hby) hb
  obtain ⟨m, rfl⟩ := Int.eq_ofNat_of_zero_le h0
  simp only [Int.toNat_natCast] at *
  have hprod : (inf.bytes : Int) * (m : Int) ≤ 281474976710656 := by
    have : ((inf.bytes * m : Nat) : Int) ≤ 281474976710656 := by rw [hb', Nat.mul_comm]; omega
    rwa [Int.natCast_mul] at this
  have hr := run_make (P := P) w τ el inf z hu hi hz .i64 .i64 m m (by omega) (by omega) hprod (by omega)
  simp only [Int.toNat_natCast] at hr
  simp [execOp, ha.ev hx, hr, hs]
theorem made_one (z : Value) (m : Nat) : (madeCells #[z] m).toList = List.replicate m z := by
  apply List.ext_getElem
  · simp [madeCells]
  · intro i h1 h2
    simp [madeCells, Nat.mod_one]
end
end Go.Clt
end
section
set_option linter.unusedVariables false
set_option linter.unusedSimpArgs false
namespace Go.Clt
open Go
inductive PT where
  | seg (l : List (Nat × Nat))
  | two (l : List (Nat × Nat)) (i : Nat) (a : PT) (j : Nat) (b : PT)
  | three (l : List (Nat × Nat)) (i : Nat) (a : PT) (j : Nat) (b : PT) (k : Nat) (c : PT)
def afterL : List (Nat × Nat) → Array Bool → Array Bool
  | [], x => x
  | p :: r, x => afterL r (x.setIfInBounds p.2 true)
def segB (md : Region.Mode) (ops : Array Oper) (tl : Nat) : List (Nat × Nat) → Array Bool → Bool
  | [], _ => true
  | (k, i) :: r, listed =>
    (match k with
      | 0 => decide (i < tl) && (Region.ready md ops listed).contains i && Region.free md ops listed i
      | 1 => decide (i < tl) && (Region.ready md ops listed == [i])
      | _ => false) && segB md ops tl r (listed.setIfInBounds i true)
def planT (md : Region.Mode) (ops : Array Oper) (tl : Nat) : PT → Array Bool → Bool
  | .seg l, x => planB md ops tl l x
  | .two l i a j b, x => segB md ops tl l x && (Region.ready md ops (afterL l x) == [i, j]) && decide (i < tl) && decide (j < tl) && planT md ops tl a ((afterL l x).setIfInBounds i true) && planT md ops tl b ((afterL l x).setIfInBounds j true)
  | .three l i a j b k c, x => segB md ops tl l x && (Region.ready md ops (afterL l x) == [i, j, k]) && decide (i < tl) && decide (j < tl) && decide (k < tl) && planT md ops tl a ((afterL l x).setIfInBounds i true) && planT md ops tl b ((afterL l x).setIfInBounds j true) && planT md ops tl c ((afterL l x).setIfInBounds k true)
def PT.deep : PT → Nat
  | .seg l => l.length
  | .two l _ a _ b => l.length + 1 + max a.deep b.deep
  | .three l _ a _ b _ c => l.length + 1 + max a.deep (max b.deep c.deep)
section
variable {P : Program} {n : Nat} {ops : Array Oper} {S : World → Prop} {N : Env → World → Prop} {B : Nat → Env → World → Prop} {R : Env → World → Prop} {md : Region.Mode} {tl : Nat}
def ET (P : Program) (n : Nat) (ops : Array Oper) (S : World → Prop) (N : Env → World → Prop) (B : Nat → Env → World → Prop) (R : Env → World → Prop) : PT → Env → World → Prop
  | .seg l, e, w => EP P n ops S N B R (pick ops l) e w
  | .two l i a j b, e, w => EP P n ops S (fun e w => EP P n ops S (fun e w => ET P n ops S N B R a e w) B R (pick ops [(1, i)]) e w ∧ EP P n ops S (fun e w => ET P n ops S N B R b e w) B R (pick ops [(1, j)]) e w) B R (pick ops l) e w
  | .three l i a j b k c, e, w => EP P n ops S (fun e w => EP P n ops S (fun e w => ET P n ops S N B R a e w) B R (pick ops [(1, i)]) e w ∧ EP P n ops S (fun e w => ET P n ops S N B R b e w) B R (pick ops [(1, j)]) e w ∧ EP P n ops S (fun e w => ET P n ops S N B R c e w) B R (pick ops [(1, k)]) e w) B R (pick ops l) e w
theorem wp_toQ {o : Oper} {a : Act} {w : World} {K K' : Act → World → Prop} {N' : Env → World → Prop} (h : ∀ a w, K a w → K' a w)
    (hh : o.wp P a w K (post n N' B R)) : o.wp P a w K' (post n N B R) := by
  unfold Oper.wp at *
  generalize (execOp a.eval o).run P w = r at *
  cases r with
  | ok x w' =>
    cases x <;> simp only [Oper.upon] at hh ⊢
    · exact h _ _ hh
    · exact h _ _ hh
    all_goals first
      | exact h _ _ hh
      | exact Calls.mono hh (fun e w'' he => by
          cases e with
          | returned v => exact h _ _ he
          | panicked c => exact he.elim
          | outgrown => obtain ⟨_, _, hx⟩ := he; exact hx.elim)
      | exact Rows.mono hh (fun _ _ he => h _ _ he)
      | exact hh
  | halt x w' => cases x <;> simp only [Oper.upon] at hh ⊢ <;> first | exact hh | exact hh.elim
theorem wpO_toQ {o : Oper} {a : Act} {w : World} {K K' : Act → World → Prop} {N' : Env → World → Prop} (h : ∀ a w, K a w → K' a w)
    (hh : wpO P ops (post n N' B R) o K a w) : wpO P ops (post n N B R) o K' a w := by
  unfold wpO at *
  split
  · rename_i hw
    rw [if_pos hw] at hh
    rcases hh with hh | ⟨_, _, _, hx⟩
    · exact .inl (wp_toQ h hh)
    · exact hx.elim
  · rename_i hw
    rw [if_neg hw] at hh
    exact h _ _ hh
theorem afterL_closed : ∀ (l : List (Nat × Nat)) (x : Array Bool), Closed md ops x → segB md ops tl l x = true → Closed md ops (afterL l x)
  | [], _, h, _ => h
  | (k, i) :: r, x, h, hB => by
    simp only [segB, Bool.and_eq_true] at hB
    obtain ⟨hk, hB⟩ := hB
    have hr : i ∈ Region.ready md ops x := by
      match k, hk with
      | 0, hk => simp only [Bool.and_eq_true] at hk; simpa using hk.1.2
      | 1, hk => simp only [Bool.and_eq_true, beq_iff_eq] at hk; simp [hk.2]
    obtain ⟨_, o, ho, hall⟩ := mem_ready.1 hr
    exact afterL_closed r _ (h.add ho hall) hB
theorem seg_sound (hs : Region.noSelect ops = true) (ht : tailB md ops tl = true) {N' : Env → World → Prop} {fuel : Nat} : ∀ (l : List (Nat × Nat)) (listed : Array Bool) (a : Act) (w : World),
    Closed md ops listed → segB md ops tl l listed = true → S w → PlanWp P ops S (post n N' B R) (pick ops l) a w →
    (∀ a w, S w → post n N' B R .normal a w → wpAnyT P md ops (post n N B R) S tl fuel (afterL l listed) a w) → wpAnyT P md ops (post n N B R) S tl (fuel + l.length) listed a w
  | [], listed, a, w, _, _, hS, h, hN => hN a w hS h
  | (k, i) :: r, listed, a, w, hcl, hB, hS, h, hN => by
    simp only [segB, Bool.and_eq_true] at hB
    obtain ⟨hk, hB⟩ := hB
    have hget : ∀ {o : Oper}, ops[i]? = some o → ops.getD i default = o := fun {o} ho => by simp [ho]
    match k, hk, h with
    | 0, hk, h =>
      simp only [Bool.and_eq_true, decide_eq_true_eq] at hk
      obtain ⟨⟨hit, hr⟩, hf⟩ := hk
      have hr' : i ∈ Region.ready md ops listed := by simpa using hr
      obtain ⟨_, o, ho, hall⟩ := mem_ready.1 hr'
      simp only [pick, List.map_cons, PlanWp, hget ho] at h
      obtain ⟨v, hy, h⟩ := h
      exact wpAnyT_first ho (Region.noSelect_spec hs) (fun c a w hq => hq) ht hit _ listed a w hcl (Region.free_spec ho hf) hr' hy hS
        (seg_sound hs ht r _ _ _ (hcl.add ho hall) hB hS h hN)
    | 1, hk, h =>
      simp only [Bool.and_eq_true, decide_eq_true_eq, beq_iff_eq] at hk
      obtain ⟨hit, hr⟩ := hk
      have hr' : i ∈ Region.ready md ops listed := by simp [hr]
      obtain ⟨_, o, ho, hall⟩ := mem_ready.1 hr'
      simp only [pick, List.map_cons, PlanWp, hget ho] at h
      refine ⟨fun h0 => (by rw [hr] at h0; cases h0), fun j hj => ?_⟩
      have hji : j = i := by simpa [hr] using hj
      rw [hji]
      exact wpOp_of_wpO ho (wpO_toQ (fun a' w' h' => ⟨fun _ => h'.1, seg_sound hs ht r _ _ _ (hcl.add ho hall) hB h'.1 h'.2 hN⟩) h)
theorem wpAnyT_up {Q : Exit → Act → World → Prop} : ∀ (f g : Nat) (x : Array Bool) (a : Act) (w : World), f ≤ g → wpAnyT P md ops Q S tl f x a w → wpAnyT P md ops Q S tl g x a w
  | 0, 0, _, _, _, _, h => h
  | 0, g + 1, x, a, w, _, h => ⟨fun _ => h.2, fun i hi => by rw [h.1] at hi; cases hi⟩
  | f + 1, 0, _, _, _, hle, _ => by omega
  | f + 1, g + 1, x, a, w, hle, h => ⟨h.1, fun i hi => wpOp_mono (fun a' w' h' => ⟨h'.1, wpAnyT_up f g _ a' w' (by omega) h'.2⟩) (h.2 i hi)⟩
theorem kid_sound {i : Nat} {o : Oper} {listed : Array Bool} {fuel : Nat} {N' : Env → World → Prop} {a : Act} {w : World} (ho : ops[i]? = some o) (hit : i < tl)
    (h : PlanWp P ops S (post n N' B R) (pick ops [(1, i)]) a w) (hN : ∀ a w, S w → post n N' B R .normal a w → wpAnyT P md ops (post n N B R) S tl fuel (listed.setIfInBounds i true) a w) :
    wpOp P ops (post n N B R) i (fun a' w' => (i < tl → S w') ∧ wpAnyT P md ops (post n N B R) S tl fuel (listed.setIfInBounds i true) a' w') a w := by
  have hget : ops.getD i default = o := by simp [ho]
  simp only [pick, List.map_cons, List.map_nil, PlanWp, hget] at h
  exact wpOp_of_wpO ho (wpO_toQ (fun a' w' h' => ⟨fun _ => h'.1, hN _ _ h'.1 h'.2⟩) h)
theorem planT_sound (hs : Region.noSelect ops = true) (ht : tailB md ops tl = true) : ∀ (t : PT) (listed : Array Bool) (e : Env) (a : Act) (w : World),
    Closed md ops listed → planT md ops tl t listed = true → S w → Rep n a e → ET P n ops S N B R t e w → wpAnyT P md ops (post n N B R) S tl t.deep listed a w
  | .seg l, listed, e, a, w, hcl, hB, hS, ha, h => plan_sound hs ht (fun c a w hq => hq) l listed a w hcl hB (.inl hS) (h a ha)
  | .two l i x j y, listed, e, a, w, hcl, hB, hS, ha, h => by
    simp only [planT, Bool.and_eq_true, decide_eq_true_eq, beq_iff_eq] at hB
    obtain ⟨⟨⟨⟨⟨h1, h2⟩, h3⟩, h4⟩, h5⟩, h6⟩ := hB
    have hcl' := afterL_closed (tl := tl) l listed hcl h1
    refine wpAnyT_up (max x.deep y.deep + 1 + l.length) _ _ _ _ (by simp only [PT.deep]; omega) (seg_sound hs ht l listed a w hcl h1 hS (h a ha) (fun a w hS hq => ?_))
    obtain ⟨e', he', hx, hy⟩ := hq
    refine ⟨fun h0 => (by rw [h2] at h0; cases h0), fun k hk => ?_⟩
    obtain ⟨_, o, ho, hall⟩ := mem_ready.1 hk
    rw [h2] at hk
    simp only [List.mem_cons, List.not_mem_nil, or_false] at hk
    rcases hk with rfl | rfl
    · exact kid_sound ho h3 (hx a he') (fun a' w' hS' ⟨e2, he2, hq⟩ => wpAnyT_up _ _ _ _ _ (by omega) (planT_sound hs ht x _ e2 a' w' (hcl'.add ho hall) h5 hS' he2 hq))
    · exact kid_sound ho h4 (hy a he') (fun a' w' hS' ⟨e2, he2, hq⟩ => wpAnyT_up _ _ _ _ _ (by omega) (planT_sound hs ht y _ e2 a' w' (hcl'.add ho hall) h6 hS' he2 hq))
  | .three l i x j y m z, listed, e, a, w, hcl, hB, hS, ha, h => by
    simp only [planT, Bool.and_eq_true, decide_eq_true_eq, beq_iff_eq] at hB
    obtain ⟨⟨⟨⟨⟨⟨⟨h1, h2⟩, h3⟩, h4⟩, h4'⟩, h5⟩, h6⟩, h7⟩ := hB
    have hcl' := afterL_closed (tl := tl) l listed hcl h1
    refine wpAnyT_up (max x.deep (max y.deep z.deep) + 1 + l.length) _ _ _ _ (by simp only [PT.deep]; omega) (seg_sound hs ht l listed a w hcl h1 hS (h a ha) (fun a w hS hq => ?_))
    obtain ⟨e', he', hx, hy, hz⟩ := hq
    refine ⟨fun h0 => (by rw [h2] at h0; cases h0), fun k hk => ?_⟩
    obtain ⟨_, o, ho, hall⟩ := mem_ready.1 hk
    rw [h2] at hk
    simp only [List.mem_cons, List.not_mem_nil, or_false] at hk
    rcases hk with rfl | rfl | rfl
    · exact kid_sound ho h3 (hx a he') (fun a' w' hS' ⟨e2, he2, hq⟩ => wpAnyT_up _ _ _ _ _ (by omega) (planT_sound hs ht x _ e2 a' w' (hcl'.add ho hall) h5 hS' he2 hq))
    · exact kid_sound ho h4 (hy a he') (fun a' w' hS' ⟨e2, he2, hq⟩ => wpAnyT_up _ _ _ _ _ (by omega) (planT_sound hs ht y _ e2 a' w' (hcl'.add ho hall) h6 hS' he2 hq))
    · exact kid_sound ho h4' (hz a he') (fun a' w' hS' ⟨e2, he2, hq⟩ => wpAnyT_up _ _ _ _ _ (by omega) (planT_sound hs ht z _ e2 a' w' (hcl'.add ho hall) h7 hS' he2 hq))
theorem EW.drwT {e : Env} {w : World} {id : Nat} {S : List Nat} (tl : Nat) (t : PT) (hm : P.follows .mixedOrders = true)
    (hB : (Region.noSelect ops && tailB .any ops tl && planT .any ops tl t (Array.replicate ops.size false) && Nat.ble t.deep ops.size) = true)
    (h : ∀ w', Chg [] w w' → w'.heap.size = w.heap.size → ET P n ops (Chg S w') N B R t e w') : EW P n (.region id ops true) N B R e w := fun a ha => by
  simp only [Bool.and_eq_true, Nat.ble_eq] at hB
  obtain ⟨⟨⟨h1, h2⟩, h3⟩, h4⟩ := hB
  refine wp_region_any hm (wpAny_of_T (S := Chg S { w with drawn := w.drawn + 1 }) (tl := tl) _ _ _ _ ?_)
  exact wpAnyT_up t.deep _ _ _ _ h4 (planT_sound h1 h2 t _ e a _ (fun k hk => by rw [Array.getD_eq_getD_getElem?, Array.getElem?_replicate] at hk; split at hk <;> simp at hk) h3 (Chg.refl _ _) ha (h _ (Chg.drawn _ _) rfl))
end
end Go.Clt
end
section
set_option linter.unusedVariables false
set_option linter.unusedSimpArgs false
namespace Go.Clt
open Go
def putL : List Value → Nat → List Value → List Value
  | [], _, _ => []
  | c :: cs, 0, [] => c :: cs
  | _ :: cs, 0, v :: vs => v :: putL cs 0 vs
  | c :: cs, o + 1, vs => c :: putL cs o vs
def cellsL : Value → List Value
  | .agg cs => cs.toList
  | v => [v]
theorem cellsL_eq (v : Value) : v.cells.toList = cellsL v := by cases v <;> rfl
def fillL (place : Nat → Option (Nat × Nat)) (cells : List Value) : List (Nat × Value) → Option (List Value)
  | [] => some cells
  | (i, v) :: rest =>
    match place i with
    | none => none
    | some (off, size) => cond (Nat.beq (cellsL v).length size && Nat.ble (off + size) cells.length) (fillL place (putL cells off (cellsL v)) rest) none
def replL : Nat → List Value → List Value
  | 0, _ => []
  | n + 1, l => l ++ replL n l
theorem putL_get : ∀ (cs : List Value) (o : Nat) (vs : List Value) (i : Nat), o + vs.length ≤ cs.length → (putL cs o vs)[i]? = if o ≤ i ∧ i < o + vs.length then vs[i - o]? else cs[i]?
  | [], o, vs, i, h => by
    simp only [List.length_nil] at h
    have : vs = [] := List.length_eq_zero_iff.1 (by omega)
    subst this
    simp [putL]
  | c :: cs, 0, [], i, h => by simp [putL]
  | c :: cs, 0, v :: vs, i, h => by
    simp only [putL]
    cases i with
    | zero => simp
    | succ i =>
      have := putL_get cs 0 vs i (by simp at h ⊢; omega)
      simp only [List.getElem?_cons_succ, this]
      simp
  | c :: cs, o + 1, vs, i, h => by
    simp only [putL]
    cases i with
    | zero => simp
    | succ i =>
      have := putL_get cs o vs i (by simp at h ⊢; omega)
      simp only [List.getElem?_cons_succ, this]
      by_cases hc : o ≤ i ∧ i < o + vs.length
      · rw [if_pos hc, if_pos (by omega)]; congr 1; omega
      · rw [if_neg hc, if_neg (by omega)]
theorem foldl_setIf (off : Nat) : ∀ (vs : List Value) (k : Nat) (cs : List Value), off + k + vs.length ≤ cs.length →
    (vs.zipIdx k).foldl (fun (cs : Array Value) (x : Value × Nat) => cs.setIfInBounds (off + x.2) x.1) cs.toArray = (putL cs (off + k) vs).toArray
  | [], k, cs, h => by
    simp only [List.zipIdx_nil, List.foldl_nil]
    congr 1
    apply List.ext_getElem?
    intro i
    rw [putL_get _ _ _ _ h]
    simp
    intro h1 h2; omega
  | v :: vs, k, cs, h => by
    simp only [List.zipIdx_cons, List.foldl_cons]
    have h1 : cs.toArray.setIfInBounds (off + k) v = (cs.set (off + k) v).toArray := by simp
    simp only [List.length_cons] at h
    rw [h1, foldl_setIf off vs (k + 1) _ (by simp; omega)]
    congr 1
    apply List.ext_getElem?
    intro i
    rw [putL_get _ _ _ _ (by simp; omega), putL_get _ _ _ _ (by simp; omega), List.getElem?_set]
    simp only [List.length_cons]
    by_cases h2 : off + k = i
    · subst h2
      rw [if_neg (by omega), if_pos rfl, if_pos (by omega), if_pos (by omega)]
      simp
    · rw [if_neg h2]
      by_cases h3 : off + (k + 1) ≤ i ∧ i < off + (k + 1) + vs.length
      · rw [if_pos h3, if_pos (by omega)]
        have : i - (off + k) = (i - (off + (k + 1))) + 1 := by omega
        rw [this, List.getElem?_cons_succ]
      · rw [if_neg h3, if_neg (by omega)]
theorem fill_eq (place : Nat → Option (Nat × Nat)) : ∀ (vs : List (Nat × Value)) (cs : List Value) {r : List Value}, fillL place cs vs = some r → Instr.fill place cs.toArray vs = some r.toArray
  | [], cs, r, h => by
    simp only [fillL, Option.some.injEq] at h
    subst h
    rfl
  | (i, v) :: rest, cs, r, h => by
    simp only [fillL] at h
    unfold Instr.fill
    cases hp : place i with
    | none => rw [hp] at h; cases h
    | some os =>
      obtain ⟨off, size⟩ := os
      rw [hp] at h
      simp only at h ⊢
      cases hb : (Nat.beq (cellsL v).length size && Nat.ble (off + size) cs.length) with
      | false => rw [hb] at h; cases h
      | true =>
        rw [hb] at h
        simp only [Bool.and_eq_true, Nat.beq_eq, Nat.ble_eq] at hb
        have hsz : v.cells.size = (cellsL v).length := by rw [← cellsL_eq]; simp
        rw [if_neg (by rw [hsz]; simp; omega)]
        have : (v.cells.zipIdx.foldl (fun cs (x : Value × Nat) => cs.setIfInBounds (off + x.2) x.1) cs.toArray) = (putL cs off (cellsL v)).toArray := by
          rw [← cellsL_eq, ← Array.foldl_toList, Array.toList_zipIdx]
          exact foldl_setIf off v.cells.toList 0 cs (by simp; omega)
        rw [this]
        exact fill_eq place rest _ h
theorem map_range_repl (z : Value) (len sz : Nat) (hz : z.cells.size = sz) (h0 : 0 < sz) : (Array.range (len * sz)).map (z.cells[· % z.cells.size]!) = (replL len (cellsL z)).toArray := by
  have hl : (cellsL z).length = sz := by rw [← cellsL_eq]; simpa using hz
  have hget : ∀ (n i : Nat), (replL n (cellsL z))[i]? = if i < n * sz then (cellsL z)[i % sz]? else none := by
    intro n
    induction n with
    | zero => intro i; simp [replL]
    | succ n ih =>
      intro i
      simp only [replL, List.getElem?_append, hl, ih]
      have hm : (n + 1) * sz = n * sz + sz := Nat.succ_mul n sz
      by_cases h : i < sz
      · rw [if_pos h, if_pos (by omega), Nat.mod_eq_of_lt h]
      · rw [if_neg h]
        have h' : (i - sz) % sz = i % sz := by rw [Nat.mod_eq_sub_mod (by omega : i ≥ sz)]
        by_cases h2 : i - sz < n * sz
        · rw [if_pos h2, if_pos (by omega), h']
        · rw [if_neg h2, if_neg (by omega)]
  apply Array.ext'
  apply List.ext_getElem?
  intro i
  rw [List.toList_toArray, hget]
  simp only [Array.toList_map, List.getElem?_map]
  by_cases h : i < len * sz
  · rw [if_pos h]
    have hi : i % sz < (cellsL z).length := by rw [hl]; exact Nat.mod_lt _ h0
    have hi' : i % sz < z.cells.size := by rw [hz]; exact Nat.mod_lt _ h0
    simp [h, hz, List.getElem?_eq_getElem hi, ← cellsL_eq]
    rw [Array.getElem?_eq_getElem hi', getElem!_pos z.cells _ hi']
  · rw [if_neg h]
    simp [h]
section
variable {P : Program} {n : Nat} {ops : Array Oper} {S : World → Prop} {N : Env → World → Prop} {B : Nat → Env → World → Prop} {R : Env → World → Prop} {e : Env} {w : World}
variable {dst : Option Tmp} {t : TypeId} {p : String} {af : Array Edge} {g : Option (Nat × Bool)}
theorem News.buildL {τ el : TypeId} {len sz : Nat} {parts : Array (Nat × Operand)} {vs : List (Nat × Value)} {z : Value} {cs : List Value} (ht : slB P τ sz = true) (hel : P.underlying τ = some (.slice el)) (hz : zeroB P el = some z) (hlen : Nat.ble (len * sz) 16777216 = true)
    (hz2 : (Nat.beq (cellsL z).length sz && Nat.blt 0 sz) = true) (hp : evp e parts.toList = some vs) (hfill : fillL (fun i => some (i * sz, sz)) (replL len (cellsL z)) vs = some cs) :
    News P n e ⟨dst, .buildSlice τ len parts, t, p, af, g⟩ w cs el (fun b => .slice (some ⟨b, 0, none⟩) len len) := by
  simp only [Bool.and_eq_true, Nat.beq_eq, Nat.blt_eq] at hz2
  refine News.buildSlice ht hel hz hlen hp ?_
  rw [map_range_repl z len sz (by rw [← hz2.1, ← cellsL_eq]; simp) hz2.2]
  exact fill_eq _ _ _ hfill
theorem Does.buildSL {φ : World → Prop} {τ : TypeId} {parts : Array (Nat × Operand)} {vs : List (Nat × Value)} {z : Value} {pl : List (Nat × Nat)} {cs : List Value} (hz : zeroB P τ = some z) (hpl : plB P τ = some pl) (hp : evp e parts.toList = some vs)
    (hfill : fillL (pl[·]?) (cellsL z) vs = some cs) : Does P n e ⟨dst, .build τ parts, t, p, af, g⟩ φ (.agg cs.toArray) :=
  Does.buildS hz hpl hp (by rw [show z.cells = (cellsL z).toArray from by rw [← cellsL_eq]]; exact fill_eq _ _ _ hfill)
theorem Does.buildAL {φ : World → Prop} {τ : TypeId} {len sz : Nat} {parts : Array (Nat × Operand)} {vs : List (Nat × Value)} {z : Value} {cs : List Value} (hz : zeroB P τ = some z) (har : arB P τ len sz = true) (hp : evp e parts.toList = some vs)
    (hfill : fillL (fun i => some (i * sz, sz)) (cellsL z) vs = some cs) : Does P n e ⟨dst, .build τ parts, t, p, af, g⟩ φ (.agg cs.toArray) :=
  Does.buildA hz har hp (by rw [show z.cells = (cellsL z).toArray from by rw [← cellsL_eq]]; exact fill_eq _ _ _ hfill)
end
def mpB (P : Program) (t k e : TypeId) : Bool := match P.underlying t with | some (.map a b) => a == k && b == e | _ => false
end Go.Clt
end
section
set_option linter.unusedVariables false
namespace Go.Clt
open Go Go.Proofs
noncomputable abbrev P := Tryz.prog
theorem mo : P.follows .mixedOrders = true := by kernel_rfl
theorem ag127 : agg P 127 256 = true := by kernel_rfl
theorem ag158 : agg P 158 3 = true := by kernel_rfl
theorem ag205 : agg P 205 10 = true := by kernel_rfl
theorem ag223 : agg P 223 2 = true := by kernel_rfl
theorem ag70 : agg P 70 4 = true := by kernel_rfl
theorem ar127 : arB P 127 256 1 = true := by kernel_rfl
theorem ar226 : arB P 226 64 1 = true := by kernel_rfl
theorem ar246 : arB P 246 4 1 = true := by kernel_rfl
theorem ar252 : arB P 252 2 1 = true := by kernel_rfl
theorem ar70 : arB P 70 4 1 = true := by kernel_rfl
theorem el159 : elB P 159 156 1 8 = true := by kernel_rfl
theorem el195 : elB P 195 205 10 80 = true := by kernel_rfl
theorem el23 : elB P 23 70 4 32 = true := by kernel_rfl
theorem el24 : elB P 24 3 1 8 = true := by kernel_rfl
theorem el241 : elB P 241 149 1 8 = true := by kernel_rfl
theorem el25 : elB P 25 24 1 24 = true := by kernel_rfl
theorem el251 : elB P 251 67 1 8 = true := by kernel_rfl
theorem el44 : elB P 44 5 1 1 = true := by kernel_rfl
theorem el84 : elB P 84 92 1 8 = true := by kernel_rfl
theorem fb102 : bodyB P 102 = true := by kernel_rfl
theorem fb103 : bodyB P 103 = true := by kernel_rfl
theorem fb104 : bodyB P 104 = true := by kernel_rfl
theorem fb105 : bodyB P 105 = true := by kernel_rfl
theorem fb106 : bodyB P 106 = true := by kernel_rfl
theorem fb107 : bodyB P 107 = true := by kernel_rfl
theorem fb108 : bodyB P 108 = true := by kernel_rfl
theorem fb109 : bodyB P 109 = true := by kernel_rfl
theorem fb110 : bodyB P 110 = true := by kernel_rfl
theorem fb111 : bodyB P 111 = true := by kernel_rfl
theorem fb112 : bodyB P 112 = true := by kernel_rfl
theorem fb113 : bodyB P 113 = true := by kernel_rfl
theorem fb114 : bodyB P 114 = true := by kernel_rfl
theorem fb116 : bodyB P 116 = true := by kernel_rfl
theorem fb117 : bodyB P 117 = true := by kernel_rfl
theorem fb124 : bodyB P 124 = true := by kernel_rfl
theorem fb125 : bodyB P 125 = true := by kernel_rfl
theorem fb126 : bodyB P 126 = true := by kernel_rfl
theorem fb127 : bodyB P 127 = true := by kernel_rfl
theorem fb128 : bodyB P 128 = true := by kernel_rfl
theorem fb129 : bodyB P 129 = true := by kernel_rfl
theorem fb13 : bodyB P 13 = true := by kernel_rfl
theorem fb130 : bodyB P 130 = true := by kernel_rfl
theorem fb131 : bodyB P 131 = true := by kernel_rfl
theorem fb132 : bodyB P 132 = true := by kernel_rfl
theorem fb133 : bodyB P 133 = true := by kernel_rfl
theorem fb134 : bodyB P 134 = true := by kernel_rfl
theorem fb135 : bodyB P 135 = true := by kernel_rfl
theorem fb137 : bodyB P 137 = true := by kernel_rfl
theorem fb138 : bodyB P 138 = true := by kernel_rfl
theorem fb139 : bodyB P 139 = true := by kernel_rfl
theorem fb140 : bodyB P 140 = true := by kernel_rfl
theorem fb141 : bodyB P 141 = true := by kernel_rfl
theorem fb142 : bodyB P 142 = true := by kernel_rfl
theorem fb144 : bodyB P 144 = true := by kernel_rfl
theorem fb147 : bodyB P 147 = true := by kernel_rfl
theorem fb148 : bodyB P 148 = true := by kernel_rfl
theorem fb149 : bodyB P 149 = true := by kernel_rfl
theorem fb15 : bodyB P 15 = true := by kernel_rfl
theorem fb150 : bodyB P 150 = true := by kernel_rfl
theorem fb151 : bodyB P 151 = true := by kernel_rfl
theorem fb152 : bodyB P 152 = true := by kernel_rfl
theorem fb153 : bodyB P 153 = true := by kernel_rfl
theorem fb154 : bodyB P 154 = true := by kernel_rfl
theorem fb155 : bodyB P 155 = true := by kernel_rfl
theorem fb156 : bodyB P 156 = true := by kernel_rfl
theorem fb157 : bodyB P 157 = true := by kernel_rfl
theorem fb158 : bodyB P 158 = true := by kernel_rfl
theorem fb159 : bodyB P 159 = true := by kernel_rfl
theorem fb16 : bodyB P 16 = true := by kernel_rfl
theorem fb160 : bodyB P 160 = true := by kernel_rfl
theorem fb161 : bodyB P 161 = true := by kernel_rfl
theorem fb162 : bodyB P 162 = true := by kernel_rfl
theorem fb163 : bodyB P 163 = true := by kernel_rfl
theorem fb164 : bodyB P 164 = true := by kernel_rfl
theorem fb165 : bodyB P 165 = true := by kernel_rfl
theorem fb175 : bodyB P 175 = true := by kernel_rfl
theorem fb176 : bodyB P 176 = true := by kernel_rfl
theorem fb177 : bodyB P 177 = true := by kernel_rfl
theorem fb178 : bodyB P 178 = true := by kernel_rfl
theorem fb179 : bodyB P 179 = true := by kernel_rfl
theorem fb18 : bodyB P 18 = true := by kernel_rfl
theorem fb180 : bodyB P 180 = true := by kernel_rfl
theorem fb181 : bodyB P 181 = true := by kernel_rfl
theorem fb182 : bodyB P 182 = true := by kernel_rfl
theorem fb183 : bodyB P 183 = true := by kernel_rfl
theorem fb184 : bodyB P 184 = true := by kernel_rfl
theorem fb185 : bodyB P 185 = true := by kernel_rfl
theorem fb186 : bodyB P 186 = true := by kernel_rfl
theorem fb187 : bodyB P 187 = true := by kernel_rfl
theorem fb188 : bodyB P 188 = true := by kernel_rfl
theorem fb189 : bodyB P 189 = true := by kernel_rfl
theorem fb19 : bodyB P 19 = true := by kernel_rfl
theorem fb190 : bodyB P 190 = true := by kernel_rfl
theorem fb191 : bodyB P 191 = true := by kernel_rfl
theorem fb192 : bodyB P 192 = true := by kernel_rfl
theorem fb202 : bodyB P 202 = true := by kernel_rfl
theorem fb203 : bodyB P 203 = true := by kernel_rfl
theorem fb204 : bodyB P 204 = true := by kernel_rfl
theorem fb205 : bodyB P 205 = true := by kernel_rfl
theorem fb206 : bodyB P 206 = true := by kernel_rfl
theorem fb207 : bodyB P 207 = true := by kernel_rfl
theorem fb208 : bodyB P 208 = true := by kernel_rfl
theorem fb210 : bodyB P 210 = true := by kernel_rfl
theorem fb211 : bodyB P 211 = true := by kernel_rfl
theorem fb212 : bodyB P 212 = true := by kernel_rfl
theorem fb213 : bodyB P 213 = true := by kernel_rfl
theorem fb214 : bodyB P 214 = true := by kernel_rfl
theorem fb215 : bodyB P 215 = true := by kernel_rfl
theorem fb216 : bodyB P 216 = true := by kernel_rfl
theorem fb222 : bodyB P 222 = true := by kernel_rfl
theorem fb223 : bodyB P 223 = true := by kernel_rfl
theorem fb224 : bodyB P 224 = true := by kernel_rfl
theorem fb225 : bodyB P 225 = true := by kernel_rfl
theorem fb227 : bodyB P 227 = true := by kernel_rfl
theorem fb228 : bodyB P 228 = true := by kernel_rfl
theorem fb229 : bodyB P 229 = true := by kernel_rfl
theorem fb23 : bodyB P 23 = true := by kernel_rfl
theorem fb230 : bodyB P 230 = true := by kernel_rfl
theorem fb231 : bodyB P 231 = true := by kernel_rfl
theorem fb232 : bodyB P 232 = true := by kernel_rfl
theorem fb233 : bodyB P 233 = true := by kernel_rfl
theorem fb234 : bodyB P 234 = true := by kernel_rfl
theorem fb236 : bodyB P 236 = true := by kernel_rfl
theorem fb237 : bodyB P 237 = true := by kernel_rfl
theorem fb238 : bodyB P 238 = true := by kernel_rfl
theorem fb29 : bodyB P 29 = true := by kernel_rfl
theorem fb30 : bodyB P 30 = true := by kernel_rfl
theorem fb32 : bodyB P 32 = true := by kernel_rfl
theorem fb33 : bodyB P 33 = true := by kernel_rfl
theorem fb34 : bodyB P 34 = true := by kernel_rfl
theorem fb35 : bodyB P 35 = true := by kernel_rfl
theorem fb37 : bodyB P 37 = true := by kernel_rfl
theorem fb39 : bodyB P 39 = true := by kernel_rfl
theorem fb40 : bodyB P 40 = true := by kernel_rfl
theorem fb41 : bodyB P 41 = true := by kernel_rfl
theorem fb42 : bodyB P 42 = true := by kernel_rfl
theorem fb43 : bodyB P 43 = true := by kernel_rfl
theorem fb44 : bodyB P 44 = true := by kernel_rfl
theorem fb46 : bodyB P 46 = true := by kernel_rfl
theorem fb47 : bodyB P 47 = true := by kernel_rfl
theorem fb48 : bodyB P 48 = true := by kernel_rfl
theorem fb51 : bodyB P 51 = true := by kernel_rfl
theorem fb53 : bodyB P 53 = true := by kernel_rfl
theorem fb55 : bodyB P 55 = true := by kernel_rfl
theorem fb61 : bodyB P 61 = true := by kernel_rfl
theorem fb62 : bodyB P 62 = true := by kernel_rfl
theorem fb63 : bodyB P 63 = true := by kernel_rfl
theorem fb64 : bodyB P 64 = true := by kernel_rfl
theorem fb65 : bodyB P 65 = true := by kernel_rfl
theorem fb66 : bodyB P 66 = true := by kernel_rfl
theorem fb67 : bodyB P 67 = true := by kernel_rfl
theorem fb73 : bodyB P 73 = true := by kernel_rfl
theorem fb74 : bodyB P 74 = true := by kernel_rfl
theorem fb75 : bodyB P 75 = true := by kernel_rfl
theorem fb76 : bodyB P 76 = true := by kernel_rfl
theorem fb77 : bodyB P 77 = true := by kernel_rfl
theorem fb78 : bodyB P 78 = true := by kernel_rfl
theorem fb79 : bodyB P 79 = true := by kernel_rfl
theorem fb80 : bodyB P 80 = true := by kernel_rfl
theorem fb81 : bodyB P 81 = true := by kernel_rfl
theorem fb82 : bodyB P 82 = true := by kernel_rfl
theorem fb83 : bodyB P 83 = true := by kernel_rfl
theorem fb84 : bodyB P 84 = true := by kernel_rfl
theorem fb85 : bodyB P 85 = true := by kernel_rfl
theorem fb86 : bodyB P 86 = true := by kernel_rfl
theorem fb87 : bodyB P 87 = true := by kernel_rfl
theorem fb94 : bodyB P 94 = true := by kernel_rfl
theorem fb95 : bodyB P 95 = true := by kernel_rfl
theorem fb96 : bodyB P 96 = true := by kernel_rfl
theorem fb97 : bodyB P 97 = true := by kernel_rfl
theorem fb98 : bodyB P 98 = true := by kernel_rfl
theorem fb99 : bodyB P 99 = true := by kernel_rfl
theorem fl107_0 : fldB P 107 0 0 = true := by kernel_rfl
theorem fl107_1 : fldB P 107 1 1 = true := by kernel_rfl
theorem fl107_2 : fldB P 107 2 2 = true := by kernel_rfl
theorem fl120_0 : fldB P 120 0 0 = true := by kernel_rfl
theorem fl120_1 : fldB P 120 1 1 = true := by kernel_rfl
theorem fl120_2 : fldB P 120 2 2 = true := by kernel_rfl
theorem fl120_4 : fldB P 120 4 4 = true := by kernel_rfl
theorem fl129_0 : fldB P 129 0 0 = true := by kernel_rfl
theorem fl129_1 : fldB P 129 1 256 = true := by kernel_rfl
theorem fl158_0 : fldB P 158 0 0 = true := by kernel_rfl
theorem fl158_1 : fldB P 158 1 1 = true := by kernel_rfl
theorem fl158_2 : fldB P 158 2 2 = true := by kernel_rfl
theorem fl161_0 : fldB P 161 0 0 = true := by kernel_rfl
theorem fl161_1 : fldB P 161 1 3 = true := by kernel_rfl
theorem fl161_2 : fldB P 161 2 4 = true := by kernel_rfl
theorem fl174_0 : fldB P 174 0 0 = true := by kernel_rfl
theorem fl174_1 : fldB P 174 1 1 = true := by kernel_rfl
theorem fl200_0 : fldB P 200 0 0 = true := by kernel_rfl
theorem fl200_1 : fldB P 200 1 1 = true := by kernel_rfl
theorem fl200_2 : fldB P 200 2 2 = true := by kernel_rfl
theorem fl202_0 : fldB P 202 0 0 = true := by kernel_rfl
theorem fl202_1 : fldB P 202 1 3 = true := by kernel_rfl
theorem fl202_2 : fldB P 202 2 4 = true := by kernel_rfl
theorem fl202_3 : fldB P 202 3 5 = true := by kernel_rfl
theorem fl205_0 : fldB P 205 0 0 = true := by kernel_rfl
theorem fl205_1 : fldB P 205 1 1 = true := by kernel_rfl
theorem fl205_2 : fldB P 205 2 2 = true := by kernel_rfl
theorem fl205_3 : fldB P 205 3 3 = true := by kernel_rfl
theorem fl205_4 : fldB P 205 4 7 = true := by kernel_rfl
theorem fl205_5 : fldB P 205 5 8 = true := by kernel_rfl
theorem fl205_6 : fldB P 205 6 9 = true := by kernel_rfl
theorem fl214_0 : fldB P 214 0 0 = true := by kernel_rfl
theorem fl214_1 : fldB P 214 1 1 = true := by kernel_rfl
theorem fl214_3 : fldB P 214 3 6 = true := by kernel_rfl
theorem fl214_4 : fldB P 214 4 7 = true := by kernel_rfl
theorem fl237_0 : fldB P 237 0 0 = true := by kernel_rfl
theorem fl237_1 : fldB P 237 1 1 = true := by kernel_rfl
theorem fl237_2 : fldB P 237 2 2 = true := by kernel_rfl
theorem fl239_0 : fldB P 239 0 0 = true := by kernel_rfl
theorem fl239_1 : fldB P 239 1 3 = true := by kernel_rfl
theorem fl254_0 : fldB P 254 0 0 = true := by kernel_rfl
theorem fl254_1 : fldB P 254 1 1 = true := by kernel_rfl
theorem fl254_2 : fldB P 254 2 5 = true := by kernel_rfl
theorem fl254_3 : fldB P 254 3 6 = true := by kernel_rfl
theorem fl254_4 : fldB P 254 4 7 = true := by kernel_rfl
theorem fl254_5 : fldB P 254 5 8 = true := by kernel_rfl
theorem fl254_6 : fldB P 254 6 9 = true := by kernel_rfl
theorem fl86_0 : fldB P 86 0 0 = true := by kernel_rfl
theorem fl86_1 : fldB P 86 1 1 = true := by kernel_rfl
theorem fl86_2 : fldB P 86 2 2 = true := by kernel_rfl
theorem fl86_3 : fldB P 86 3 3 = true := by kernel_rfl
theorem fl86_4 : fldB P 86 4 4 = true := by kernel_rfl
theorem fl86_5 : fldB P 86 5 5 = true := by kernel_rfl
theorem fl86_6 : fldB P 86 6 6 = true := by kernel_rfl
theorem fl91_0 : fldB P 91 0 0 = true := by kernel_rfl
theorem fl91_1 : fldB P 91 1 1 = true := by kernel_rfl
theorem fl91_2 : fldB P 91 2 2 = true := by kernel_rfl
theorem fl91_3 : fldB P 91 3 3 = true := by kernel_rfl
theorem fl91_4 : fldB P 91 4 4 = true := by kernel_rfl
theorem kn3 : known P 3 = true := by kernel_rfl
theorem kn5 : known P 5 = true := by kernel_rfl
theorem kn68 : known P 68 = true := by kernel_rfl
theorem mp156 : mpB P 156 3 3 = true := by kernel_rfl
theorem mp220 : mpB P 220 223 3 = true := by kernel_rfl
theorem mp83 : mpB P 83 9 3 = true := by kernel_rfl
theorem o105 : one P 105 = true := by kernel_rfl
theorem o115 : one P 115 = true := by kernel_rfl
theorem o149 : one P 149 = true := by kernel_rfl
theorem o156 : one P 156 = true := by kernel_rfl
theorem o159 : one P 159 = true := by kernel_rfl
theorem o172 : one P 172 = true := by kernel_rfl
theorem o195 : one P 195 = true := by kernel_rfl
theorem o22 : one P 22 = true := by kernel_rfl
theorem o23 : one P 23 = true := by kernel_rfl
theorem o24 : one P 24 = true := by kernel_rfl
theorem o241 : one P 241 = true := by kernel_rfl
theorem o25 : one P 25 = true := by kernel_rfl
theorem o3 : one P 3 = true := by kernel_rfl
theorem o31 : one P 31 = true := by kernel_rfl
theorem o32 : one P 32 = true := by kernel_rfl
theorem o4 : one P 4 = true := by kernel_rfl
theorem o44 : one P 44 = true := by kernel_rfl
theorem o5 : one P 5 = true := by kernel_rfl
theorem o67 : one P 67 = true := by kernel_rfl
theorem o68 : one P 68 = true := by kernel_rfl
theorem o81 : one P 81 = true := by kernel_rfl
theorem o83 : one P 83 = true := by kernel_rfl
theorem o84 : one P 84 = true := by kernel_rfl
theorem o9 : one P 9 = true := by kernel_rfl
theorem o92 : one P 92 = true := by kernel_rfl
theorem pl107 : plB P 107 = some [(0, 1), (1, 1), (2, 1)] := by kernel_rfl
theorem pl120 : plB P 120 = some [(0, 1), (1, 1), (2, 1), (3, 1), (4, 1)] := by kernel_rfl
theorem pl129 : plB P 129 = some [(0, 256), (256, 1)] := by kernel_rfl
theorem pl158 : plB P 158 = some [(0, 1), (1, 1), (2, 1)] := by kernel_rfl
theorem pl161 : plB P 161 = some [(0, 3), (3, 1), (4, 1)] := by kernel_rfl
theorem pl200 : plB P 200 = some [(0, 1), (1, 1), (2, 1)] := by kernel_rfl
theorem pl202 : plB P 202 = some [(0, 3), (3, 1), (4, 1), (5, 1)] := by kernel_rfl
theorem pl205 : plB P 205 = some [(0, 1), (1, 1), (2, 1), (3, 4), (7, 1), (8, 1), (9, 1)] := by kernel_rfl
theorem pl214 : plB P 214 = some [(0, 1), (1, 4), (5, 1), (6, 1), (7, 1)] := by kernel_rfl
theorem pl223 : plB P 223 = some [(0, 1), (1, 1)] := by kernel_rfl
theorem pl237 : plB P 237 = some [(0, 1), (1, 1), (2, 1)] := by kernel_rfl
theorem pl239 : plB P 239 = some [(0, 3), (3, 1)] := by kernel_rfl
theorem pl254 : plB P 254 = some [(0, 1), (1, 4), (5, 1), (6, 1), (7, 1), (8, 1), (9, 2)] := by kernel_rfl
theorem pl86 : plB P 86 = some [(0, 1), (1, 1), (2, 1), (3, 1), (4, 1), (5, 1), (6, 1)] := by kernel_rfl
theorem pl91 : plB P 91 = some [(0, 1), (1, 1), (2, 1), (3, 1), (4, 1)] := by kernel_rfl
theorem sl159 : slB P 159 1 = true := by kernel_rfl
theorem sl195 : slB P 195 10 = true := by kernel_rfl
theorem sl23 : slB P 23 4 = true := by kernel_rfl
theorem sl24 : slB P 24 1 = true := by kernel_rfl
theorem sl241 : slB P 241 1 = true := by kernel_rfl
theorem sl25 : slB P 25 1 = true := by kernel_rfl
theorem sl251 : slB P 251 1 = true := by kernel_rfl
theorem sl44 : slB P 44 1 = true := by kernel_rfl
theorem sl84 : slB P 84 1 = true := by kernel_rfl
theorem sz127 : szB P 127 256 = true := by kernel_rfl
theorem sz158 : szB P 158 3 = true := by kernel_rfl
theorem sz159 : szB P 159 1 = true := by kernel_rfl
theorem sz172 : szB P 172 1 = true := by kernel_rfl
theorem sz195 : szB P 195 1 = true := by kernel_rfl
theorem sz205 : szB P 205 10 = true := by kernel_rfl
theorem sz223 : szB P 223 2 = true := by kernel_rfl
theorem sz23 : szB P 23 1 = true := by kernel_rfl
theorem sz24 : szB P 24 1 = true := by kernel_rfl
theorem sz25 : szB P 25 1 = true := by kernel_rfl
theorem sz3 : szB P 3 1 = true := by kernel_rfl
theorem sz32 : szB P 32 1 = true := by kernel_rfl
theorem sz4 : szB P 4 1 = true := by kernel_rfl
theorem sz44 : szB P 44 1 = true := by kernel_rfl
theorem sz68 : szB P 68 1 = true := by kernel_rfl
theorem sz70 : szB P 70 4 = true := by kernel_rfl
theorem sz84 : szB P 84 1 = true := by kernel_rfl
theorem zr107 : zeroB P 107 = some (.agg #[.nilIface, .slice none 0 0, .slice none 0 0]) := by kernel_rfl
theorem zr120 : zeroB P 120 = some (.agg #[.pointer none, .slice none 0 0, .slice none 0 0, .slice none 0 0, .slice none 0 0]) := by kernel_rfl
theorem zr127 : zeroB P 127 = some (.agg (List.replicate 256 (Value.int .i64 0)).toArray) := by kernel_rfl
theorem zr129 : zeroB P 129 = some (.agg (List.replicate 256 (Value.int .i64 0) ++ [Value.slice none 0 0]).toArray) := by kernel_rfl
theorem zr149 : zeroB P 149 = some (.pointer none) := by kernel_rfl
theorem zr156 : zeroB P 156 = some (.map none) := by kernel_rfl
theorem zr158 : zeroB P 158 = some (.agg #[.int .i64 0, .map none, .map none]) := by kernel_rfl
theorem zr161 : zeroB P 161 = some (.agg #[.int .i64 0, .map none, .map none, .slice none 0 0, .slice none 0 0]) := by kernel_rfl
theorem zr174 : zeroB P 174 = some (.agg #[.pointer none, .slice none 0 0]) := by kernel_rfl
theorem zr200 : zeroB P 200 = some (.agg #[.slice none 0 0, .int .i64 0, .int .i64 0]) := by kernel_rfl
theorem zr202 : zeroB P 202 = some (.agg #[.slice none 0 0, .int .i64 0, .int .i64 0, .int .i64 0, .int .i64 0, .int .i64 0]) := by kernel_rfl
theorem zr205 : zeroB P 205 = some (.agg #[.int .i64 0, .int .i64 0, .int .i64 0, .int .u64 0, .int .u64 0, .int .u64 0, .int .u64 0, .int .i64 0, .int .i64 0, .bool false]) := by kernel_rfl
theorem zr214 : zeroB P 214 = some (.agg #[.int .i64 0, .int .u64 0, .int .u64 0, .int .u64 0, .int .u64 0, .bool false, .pointer none, .pointer none]) := by kernel_rfl
theorem zr223 : zeroB P 223 = some (.agg #[.int .i64 0, .bool false]) := by kernel_rfl
theorem zr237 : zeroB P 237 = some (.agg #[.string ⟨#[]⟩, .int .i64 0, .int .i64 0]) := by kernel_rfl
theorem zr239 : zeroB P 239 = some (.agg #[.string ⟨#[]⟩, .int .i64 0, .int .i64 0, .slice none 0 0]) := by kernel_rfl
theorem zr24 : zeroB P 24 = some (.slice none 0 0) := by kernel_rfl
theorem zr246 : zeroB P 246 = some (.agg #[.int .i64 0, .int .i64 0, .int .i64 0, .int .i64 0]) := by kernel_rfl
theorem zr252 : zeroB P 252 = some (.agg #[.int .i64 0, .int .i64 0]) := by kernel_rfl
theorem zr254 : zeroB P 254 = some (.agg #[.int .i64 0, .int .u64 0, .int .u64 0, .int .u64 0, .int .u64 0, .int .i64 0, .int .i64 0, .bool false, .slice none 0 0, .int .i64 0, .int .i64 0]) := by kernel_rfl
theorem zr3 : zeroB P 3 = some (.int .i64 0) := by kernel_rfl
theorem zr5 : zeroB P 5 = some (.int .u8 0) := by kernel_rfl
theorem zr67 : zeroB P 67 = some (.pointer none) := by kernel_rfl
theorem zr70 : zeroB P 70 = some (.agg #[.int .u64 0, .int .u64 0, .int .u64 0, .int .u64 0]) := by kernel_rfl
theorem zr86 : zeroB P 86 = some (.agg #[.pointer none, .pointer none, .slice none 0 0, .slice none 0 0, .map none, .int .i64 0, .bool false]) := by kernel_rfl
theorem zr91 : zeroB P 91 = some (.agg #[.slice none 0 0, .string ⟨#[]⟩, .slice none 0 0, .bool false, .bool false]) := by kernel_rfl
theorem zr92 : zeroB P 92 = some (.pointer none) := by kernel_rfl
end Go.Clt
end
section
namespace Go.Proofs
open Go.Shelf
def Tryz.lays169_ren : Go.Shelf.Ren := ⟨fun | 169 => 111 | n => n, fun | 70 => 172 | 9 => 9 | 0 => 0 | 72 => 174 | 37 => 44 | 127 => 229 | 3 => 3 | 5 => 5 | n => n, fun | n => n⟩
theorem Tryz.lays169 : Go.Proofs.Lays.n169 Tryz.prog Tryz.lays169_ren := {
  mixed := by kernel_rfl
  f169 := Tryz.func111.trans (congrArg some (by kernel_rfl))
  t0 := Tryz.underlying0
  a0 := Tryz.isAgg0
  z0 := Tryz.sizeOf0
  v0 := Tryz.zeroValue0
  t3 := Tryz.underlying3
  a3 := Tryz.isAgg3
  z3 := Tryz.sizeOf3
  v3 := Tryz.zeroValue3
  t9 := Tryz.underlying9
  a9 := Tryz.isAgg9
  z9 := Tryz.sizeOf9
  v9 := Tryz.zeroValue9
  t37 := Tryz.underlying44
  a37 := Tryz.isAgg44
  z37 := Tryz.sizeOf44
  v37 := Tryz.zeroValue44
  t70 := Tryz.underlying172
  a70 := Tryz.isAgg172
  z70 := Tryz.sizeOf172
  v70 := Tryz.zeroValue172
  t72 := Tryz.underlying174
  a72 := Tryz.isAgg174
  z72 := Tryz.sizeOf174
  v72 := Tryz.zeroValue174
  t127 := Tryz.underlying229
  a127 := Tryz.isAgg229
  z127 := Tryz.sizeOf229
  v127 := Tryz.zeroValue229 }
theorem Tryz.Builder_Extra_169 : Builder.Extra Tryz.prog Tryz.lays169_ren := {
  sizeBuilder := by kernel_rfl
  liesBuilder := by kernel_rfl
  t5 := Tryz.underlying5
  a5 := Tryz.isAgg5
  z5 := Tryz.sizeOf5
  v5 := Tryz.zeroValue5
  infoByte := by kernel_rfl
  cellsByte := by kernel_rfl
  sizeByte := by kernel_rfl
  neB5 := by decide }
open Go.RowKit in
theorem Tryz.Builder_String_any (B b : Nat) (l : List UInt8) (w : World) (h : Lib.IsBuilder 174 5 B b (Lib.byteCells l) w) (hBw : B ≤ w.heap.size) :
    Calls Tryz.prog 111 #[.pointer (some ⟨b, 0, none⟩)] w fun e w' => e = .returned (.string ⟨l.toArray⟩) ∧ Below B w w' := Any.Builder_String_any Tryz.lays169 Tryz.Builder_Extra_169 B b l w h hBw
def Tryz.lays137_ren : Go.Shelf.Ren := ⟨fun | 137 => 181 | 217 => 209 | 266 => 226 | n => n, fun | 9 => 9 | 5 => 5 | 3 => 3 | n => n, fun | n => n⟩
theorem Tryz.lays137 : Go.Proofs.Lays.n137 Tryz.prog Tryz.lays137_ren := {
  mixed := by kernel_rfl
  f137 := Tryz.func181.trans (congrArg some (by kernel_rfl))
  f217 := Tryz.func209.trans (congrArg some (by kernel_rfl))
  f266 := Tryz.func226.trans (congrArg some (by kernel_rfl))
  t3 := Tryz.underlying3
  a3 := Tryz.isAgg3
  z3 := Tryz.sizeOf3
  v3 := Tryz.zeroValue3
  t5 := Tryz.underlying5
  a5 := Tryz.isAgg5
  z5 := Tryz.sizeOf5
  v5 := Tryz.zeroValue5
  t9 := Tryz.underlying9
  a9 := Tryz.isAgg9
  z9 := Tryz.sizeOf9
  v9 := Tryz.zeroValue9 }
open Go.RowKit in
theorem Tryz.strings_IndexByte (s : ByteArray) (c : Int) (w : World) :
    Calls Tryz.prog 181 #[.string s, .int .u8 c] w fun e w' => e = .returned (.int .i64 (Lib.indexByte s.data.toList c.toNat.toUInt8)) ∧ w' = w := Any.strings_IndexByte Tryz.lays137 s c w
def Tryz.lays171_ren : Go.Shelf.Ren := ⟨fun | 171 => 109 | 243 => 143 | 246 => 167 | 283 => 193 | 284 => 194 | 285 => 195 | 286 => 196 | 129 => 218 | 317 => 217 | 318 => 219 | 319 => 220 | 320 => 221 | 337 => 235 | 338 => 104 | n => n, fun | 3 => 3 | 9 => 9 | 2 => 2 | 4 => 4 | 171 => 284 | 0 => 0 | 53 => 68 | 37 => 44 | 5 => 5 | 173 => 286 | 212 => 301 | 51 => 302 | 20 => 20 | 213 => 303 | 46 => 227 | 232 => 313 | 233 => 226 | n => n, fun | 17 => 1 | 18 => 3 | 19 => 0 | n => n⟩
theorem Tryz.lays171 : Go.Proofs.Lays.n171 Tryz.prog Tryz.lays171_ren := {
  mixed := by kernel_rfl
  f129 := Tryz.func218.trans (congrArg some (by kernel_rfl))
  f171 := Tryz.func109.trans (congrArg some (by kernel_rfl))
  f243 := Tryz.func143.trans (congrArg some (by kernel_rfl))
  f246 := Tryz.func167.trans (congrArg some (by kernel_rfl))
  f283 := Tryz.func193.trans (congrArg some (by kernel_rfl))
  f284 := Tryz.func194.trans (congrArg some (by kernel_rfl))
  f285 := Tryz.func195.trans (congrArg some (by kernel_rfl))
  f286 := Tryz.func196.trans (congrArg some (by kernel_rfl))
  f317 := Tryz.func217.trans (congrArg some (by kernel_rfl))
  f318 := Tryz.func219.trans (congrArg some (by kernel_rfl))
  f319 := Tryz.func220.trans (congrArg some (by kernel_rfl))
  f320 := Tryz.func221.trans (congrArg some (by kernel_rfl))
  f337 := Tryz.func235.trans (congrArg some (by kernel_rfl))
  f338 := Tryz.func104.trans (congrArg some (by kernel_rfl))
  t0 := Tryz.underlying0
  a0 := Tryz.isAgg0
  z0 := Tryz.sizeOf0
  v0 := Tryz.zeroValue0
  t2 := Tryz.underlying2
  a2 := Tryz.isAgg2
  z2 := Tryz.sizeOf2
  v2 := Tryz.zeroValue2
  t3 := Tryz.underlying3
  a3 := Tryz.isAgg3
  z3 := Tryz.sizeOf3
  v3 := Tryz.zeroValue3
  t4 := Tryz.underlying4
  a4 := Tryz.isAgg4
  z4 := Tryz.sizeOf4
  v4 := Tryz.zeroValue4
  t5 := Tryz.underlying5
  a5 := Tryz.isAgg5
  z5 := Tryz.sizeOf5
  v5 := Tryz.zeroValue5
  t9 := Tryz.underlying9
  a9 := Tryz.isAgg9
  z9 := Tryz.sizeOf9
  v9 := Tryz.zeroValue9
  t20 := Tryz.underlying20
  a20 := Tryz.isAgg20
  z20 := Tryz.sizeOf20
  v20 := Tryz.zeroValue20
  t37 := Tryz.underlying44
  a37 := Tryz.isAgg44
  z37 := Tryz.sizeOf44
  v37 := Tryz.zeroValue44
  t46 := Tryz.underlying227
  a46 := Tryz.isAgg227
  z46 := Tryz.sizeOf227
  v46 := Tryz.zeroValue227
  t51 := Tryz.underlying302
  a51 := Tryz.isAgg302
  z51 := Tryz.sizeOf302
  v51 := Tryz.zeroValue302
  t53 := Tryz.underlying68
  a53 := Tryz.isAgg68
  z53 := Tryz.sizeOf68
  v53 := Tryz.zeroValue68
  t171 := Tryz.underlying284
  a171 := Tryz.isAgg284
  z171 := Tryz.sizeOf284
  v171 := Tryz.zeroValue284
  t173 := Tryz.underlying286
  a173 := Tryz.isAgg286
  z173 := Tryz.sizeOf286
  v173 := Tryz.zeroValue286
  t212 := Tryz.underlying301
  a212 := Tryz.isAgg301
  z212 := Tryz.sizeOf301
  v212 := Tryz.zeroValue301
  t213 := Tryz.underlying303
  a213 := Tryz.isAgg303
  z213 := Tryz.sizeOf303
  t232 := Tryz.underlying313
  a232 := Tryz.isAgg313
  z232 := Tryz.sizeOf313
  v232 := Tryz.zeroValue313
  t233 := Tryz.underlying226
  a233 := Tryz.isAgg226
  z233 := Tryz.sizeOf226
  v233 := Tryz.zeroValue226
  g17 := by kernel_rfl
  g18 := by kernel_rfl
  g19 := by kernel_rfl }
open Go.RowKit Go.Sort Go.Lib in
theorem Tryz.strconv_Itoa_small (i : Nat) (hi : i < 100) (w : World) :
    Calls Tryz.prog 109 #[.int .i64 i] w fun e w' => e = .returned (.string ⟨(Lib.decDigits i).toArray⟩) ∧ w' = w := Any.strconv_Itoa_small Tryz.lays171 i hi w
def Tryz.lays264_ren : Go.Shelf.Ren := ⟨fun | 264 => 144 | n => n, fun | 53 => 68 | 46 => 227 | n => n, fun | n => n⟩
theorem Tryz.lays264 : Go.Proofs.Lays.n264 Tryz.prog Tryz.lays264_ren := {
  mixed := by kernel_rfl
  f264 := Tryz.func144.trans (congrArg some (by kernel_rfl))
  t46 := Tryz.underlying227
  a46 := Tryz.isAgg227
  z46 := Tryz.sizeOf227
  v46 := Tryz.zeroValue227
  t53 := Tryz.underlying68
  a53 := Tryz.isAgg68
  z53 := Tryz.sizeOf68
  v53 := Tryz.zeroValue68 }
open Go.RowKit Go.Lib in
theorem Tryz.bits_Mul64 (x y : Nat) (hx : x < 18446744073709551616) (hy : y < 18446744073709551616) (w : World) :
    Calls Tryz.prog 144 #[.int .u64 x, .int .u64 y] w fun e w' => e = .returned (.tuple #[.int .u64 ((x * y / 18446744073709551616 : Nat) : Int), .int .u64 ((x * y % 18446744073709551616 : Nat) : Int)]) ∧ w' = w := Any.bits_Mul64 Tryz.lays264 x y hx hy w
end Go.Proofs
end
section
set_option linter.unusedVariables false
set_option linter.unusedSimpArgs false
namespace Go.Clt
open Go Go.RowKit Go.Proofs
section
variable {n : Nat} {e : Env} {φ : World → Prop} {dst : Option Tmp} {t : TypeId} {p : String} {af : Array Edge} {g : Option (Nat × Bool)}
theorem Does.ext {f : FuncId} {xs : Array Operand} {ts : Array TypeId} {vs : List Value} {v : Value} (hp : evs e xs.toList = some vs) (hr : ∀ w, (callFunc f vs.toArray).run P w = .ok (.value v) w) :
    Does P n e ⟨dst, .call { callee := .value (.func f), args := xs, argTypes := ts }, t, p, af, g⟩ φ v := fun a w ha _ => by
  have : a.eval (.func f) = .func (.func f) #[] #[] := ha.ev rfl
  simp [execOp, resolve, this, Deferred.ofValue, map_args ha hp, invoke, hr]
end
theorem find115 : Extern.find Tryz.f115 = some add64Entry := by kernel_rfl
theorem next115 : (Extern.findNext Tryz.f115).isNone = true := by kernel_rfl
theorem name115 : (Tryz.f115.name == "runtime.NumGoroutine") = false := by kernel_rfl
theorem body115 : Tryz.f115.body.isNone = true := by kernel_rfl
theorem add64_run (x y c : Int) (hx : 0 ≤ x) (hy : 0 ≤ y) (hc0 : 0 ≤ c) (hc : c ≤ 1) (w : World) :
    (callFunc 115 #[.int .u64 x, .int .u64 y, .int .u64 c]).run P w = .ok (.value (.tuple #[.int .u64 ((x + y + c) % 18446744073709551616), .int .u64 ((x + y + c) / 18446744073709551616)])) w := by
  have h1 : Extern.findNext Tryz.f115 = none := by simpa using next115
  simp only [callFunc, Sem.run_bind, run_program, Result.andThen_ok, Tryz.func115, name115, body115, Sem.run_ite]
  simp [run_mark, h1, find115, run_add64 x y c hx hy hc0 hc]
theorem of_calls {f : FuncId} {args : Array Value} {w : World} {v : Value} (h : Calls P f args w fun e w' => e = .returned v ∧ w' = w) : Calls P f args w (Ret fun u w' => u = v ∧ w' = w) :=
  h.mono fun e w' hh => by obtain ⟨rfl, rfl⟩ := hh; exact ⟨rfl, rfl⟩
def ints (l : List Int) : List Value := l.map (Value.int .i64)
theorem ints_length (l : List Int) : (ints l).length = l.length := by simp [ints]
theorem ints_get (l : List Int) (k : Nat) (h : k < l.length) : (ints l)[k]? = some (.int .i64 (l.getD k 0)) := by simp [ints, List.getElem?_eq_getElem h, List.getD_eq_getElem?_getD]
theorem foldl_take {α β : Type} (f : β → α → β) (b : β) (l : List α) (d : α) (k : Nat) (h : k < l.length) : (l.take (k + 1)).foldl f b = f ((l.take k).foldl f b) (l.getD k d) := by
  rw [List.take_succ_eq_append_getElem h, List.foldl_append]
  simp [List.getD_eq_getElem?_getD, List.getElem?_eq_getElem h]
theorem getD_mem {α : Type} (l : List α) (d : α) (k : Nat) (h : k < l.length) : l.getD k d ∈ l := by
  rw [List.getD_eq_getElem?_getD, List.getElem?_eq_getElem h]; simp
theorem vint {k : IntKind} {a b : Int} (h : a = b) : Value.int k a = Value.int k b := by rw [h]
theorem vbool {a b : Bool} (h : a = b) : Value.bool a = Value.bool b := by rw [h]
def sadd (a b : Int) : Int := min 9223372036854775807 (max a 0 + max b 0)
def smul (a b : Int) : Int := min 9223372036854775807 (max a 0 * max b 0)
theorem sadd_range (a b : Int) : 0 ≤ sadd a b ∧ sadd a b ≤ 9223372036854775807 := by unfold sadd; omega
theorem smul_range (a b : Int) : 0 ≤ smul a b ∧ smul a b ≤ 9223372036854775807 := by
  unfold smul
  have : 0 ≤ max a 0 * max b 0 := Int.mul_nonneg (by omega) (by omega)
  omega
def sprod (l : List Int) : Int := if l.any (fun x => decide (x ≤ 0)) then 0 else l.foldl smul 1
theorem fold_le {f : Int → Int → Int} (hf : ∀ a b, f a b ≤ 9223372036854775807) (l : List Int) (a : Int) (ha : a ≤ 9223372036854775807) : l.foldl f a ≤ 9223372036854775807 := by
  induction l generalizing a with
  | nil => exact ha
  | cons x l ih => exact ih _ (hf a x)
end Go.Clt
end
section
set_option linter.unusedVariables false
set_option linter.unusedSimpArgs false
namespace Go.Clt
open Go Go.RowKit
def wd (s i : Nat) : Int := ((s / 2 ^ (64 * i) % 2 ^ 64 : Nat) : Int)
def setCells (s : Nat) : List Value := [.int .u64 (wd s 0), .int .u64 (wd s 1), .int .u64 (wd s 2), .int .u64 (wd s 3)]
def SetOk (s : Nat) : Prop := s < 2 ^ 256
theorem wd_range (s i : Nat) : 0 ≤ wd s i ∧ wd s i < 18446744073709551616 := by unfold wd; have := Nat.mod_lt (s / 2 ^ (64 * i)) (show 0 < 2 ^ 64 by decide); omega
theorem bitv_and (a b : Nat) (ha : a < 2 ^ 64) (hb : b < 2 ^ 64) : bitv .and .u64 (a : Int) (b : Int) = ((a &&& b : Nat) : Int) := by
  have hx : a &&& b < 2 ^ 64 := Nat.and_lt_two_pow _ hb
  simp only [bitv]
  rw [BitVec.toNat_and, show IntKind.u64.bits = 64 from rfl, BitVec.ofInt_natCast, BitVec.ofInt_natCast, BitVec.toNat_ofNat, BitVec.toNat_ofNat, Nat.mod_eq_of_lt ha, Nat.mod_eq_of_lt hb]
  exact wrap_u64 (by omega)
theorem bitv_or (a b : Nat) (ha : a < 2 ^ 64) (hb : b < 2 ^ 64) : bitv .or .u64 (a : Int) (b : Int) = ((a ||| b : Nat) : Int) := by
  have hx : a ||| b < 2 ^ 64 := Nat.or_lt_two_pow ha hb
  simp only [bitv]
  rw [BitVec.toNat_or, show IntKind.u64.bits = 64 from rfl, BitVec.ofInt_natCast, BitVec.ofInt_natCast, BitVec.toNat_ofNat, BitVec.toNat_ofNat, Nat.mod_eq_of_lt ha, Nat.mod_eq_of_lt hb]
  exact wrap_u64 (by omega)
theorem bitv_cpl (a : Nat) (ha : a < 2 ^ 64) : bitv .xor .u64 (if IntKind.u64.signed then -1 else IntKind.u64.max) (a : Int) = ((2 ^ 64 - 1 - a : Nat) : Int) := by
  have hm : (if IntKind.u64.signed then -1 else IntKind.u64.max : Int) = ((2 ^ 64 - 1 : Nat) : Int) := rfl
  rw [hm]
  simp only [bitv]
  rw [show IntKind.u64.bits = 64 from rfl, BitVec.ofInt_natCast, BitVec.ofInt_natCast]
  have h1 : (BitVec.ofNat 64 (2 ^ 64 - 1)) ^^^ (BitVec.ofNat 64 a) = ~~~ (BitVec.ofNat 64 a) := by
    have : BitVec.ofNat 64 (2 ^ 64 - 1) = BitVec.allOnes 64 := rfl
    rw [this, BitVec.allOnes_xor]
  rw [h1, BitVec.toNat_not, BitVec.toNat_ofNat, Nat.mod_eq_of_lt ha]
  exact wrap_u64 (by omega)
theorem and_one (a : Nat) : a &&& 1 = a % 2 := by simp
theorem word_testBit (s q r : Nat) (hr : r < 64) : (s / 2 ^ (64 * q) % 2 ^ 64).testBit r = s.testBit (64 * q + r) := by
  rw [Nat.testBit_mod_two_pow, Nat.testBit_div_two_pow, Nat.add_comm r (64 * q)]
  simp [hr]
theorem word_div (s q r : Nat) : (wd s q).fdiv (2 ^ r) = ((s / 2 ^ (64 * q) % 2 ^ 64 / 2 ^ r : Nat) : Int) := by
  have h0 : (0 : Int) ≤ 2 ^ r := Int.le_of_lt (Int.pow_pos (by decide))
  unfold wd
  rw [Int.fdiv_eq_ediv_of_nonneg _ h0, Int.natCast_ediv, Int.natCast_pow]
  rfl
theorem has_eq (s b : Nat) : cmpB .eql (bitv .and .u64 ((wd s (b / 64)).fdiv (2 ^ (min (b % 64) 64))) 1) 1 = s.testBit b := by
  have hr : b % 64 < 64 := Nat.mod_lt _ (by decide)
  have hmin : min (b % 64) 64 = b % 64 := by omega
  rw [hmin, word_div]
  have hw : s / 2 ^ (64 * (b / 64)) % 2 ^ 64 < 2 ^ 64 := Nat.mod_lt _ (by decide)
  have hw2 : s / 2 ^ (64 * (b / 64)) % 2 ^ 64 / 2 ^ (b % 64) < 2 ^ 64 := Nat.lt_of_le_of_lt (Nat.div_le_self _ _) hw
  have h1 := bitv_and (s / 2 ^ (64 * (b / 64)) % 2 ^ 64 / 2 ^ (b % 64)) 1 hw2 (by decide)
  rw [show ((1 : Nat) : Int) = 1 from rfl] at h1
  rw [h1, and_one]
  have h2 := word_testBit s (b / 64) (b % 64) hr
  rw [Nat.div_add_mod] at h2
  rw [← h2, Nat.testBit_eq_decide_div_mod_eq]
  unfold cmpB
  have := Nat.mod_lt (s / 2 ^ (64 * (b / 64)) % 2 ^ 64 / 2 ^ (b % 64)) (show 0 < 2 by decide)
  by_cases hc : s / 2 ^ (64 * (b / 64)) % 2 ^ 64 / 2 ^ (b % 64) % 2 = 1
  · rw [hc]; simp
  · have : s / 2 ^ (64 * (b / 64)) % 2 ^ 64 / 2 ^ (b % 64) % 2 = 0 := by omega
    rw [this]; simp
theorem or_ok {s t : Nat} (hs : SetOk s) (ht : SetOk t) : SetOk (s ||| t) := Nat.or_lt_two_pow hs ht
theorem bit_ok {b : Nat} (hb : b < 256) : SetOk (2 ^ b) := Nat.pow_lt_pow_right (by decide) hb
theorem wd_or (s t i : Nat) : bitv .or .u64 (wd s i) (wd t i) = wd (s ||| t) i := by
  unfold wd
  rw [bitv_or _ _ (Nat.mod_lt _ (by decide)) (Nat.mod_lt _ (by decide)), Nat.or_div_two_pow, Nat.or_mod_two_pow]
theorem wd_bit (b i : Nat) (hb : b < 256) : wd (2 ^ b) i = if b / 64 = i then 2 ^ (b % 64) else 0 := by
  unfold wd
  have hmod : b % 64 < 64 := Nat.mod_lt _ (by decide)
  have key : 2 ^ b / 2 ^ (64 * i) % 2 ^ 64 = if b / 64 = i then 2 ^ (b % 64) else 0 := by
    apply Nat.eq_of_testBit_eq
    intro j
    rw [Nat.testBit_mod_two_pow, Nat.testBit_div_two_pow, Nat.testBit_two_pow]
    split
    · rw [Nat.testBit_two_pow]
      by_cases hj : b % 64 = j <;> simp [hj] <;> omega
    · simp; omega
  rw [key]
  split <;> simp
theorem put_word (s b : Nat) (hb : b < 256) : bitv .or .u64 (wd s (b / 64)) (IntKind.u64.wrap (1 * 2 ^ (min (b % 64) 64))) = wd (s ||| 2 ^ b) (b / 64) := by
  have hr : b % 64 < 64 := Nat.mod_lt _ (by decide)
  rw [show min (b % 64) 64 = b % 64 from by omega]
  have h1 : wd (2 ^ b) (b / 64) = 2 ^ (b % 64) := by rw [wd_bit b _ hb, if_pos rfl]
  have h2 := wd_range (2 ^ b) (b / 64)
  rw [Int.one_mul, wrap_u64 (by rw [← h1]; omega), ← h1, wd_or]
theorem put_other (s b i : Nat) (hb : b < 256) (hi : b / 64 ≠ i) : wd (s ||| 2 ^ b) i = wd s i := by
  rw [← wd_or, wd_bit b i hb, if_neg hi]
  have := bitv_or (s / 2 ^ (64 * i) % 2 ^ 64) 0 (Nat.mod_lt _ (by decide)) (by decide)
  simpa [wd] using this
theorem put_cells (s b : Nat) (hb : b < 256) : (setCells s).take (b / 64) ++ [.int .u64 (wd (s ||| 2 ^ b) (b / 64))] ++ (setCells s).drop (b / 64 + 1) = setCells (s ||| 2 ^ b) := by
  have h : b / 64 = 0 ∨ b / 64 = 1 ∨ b / 64 = 2 ∨ b / 64 = 3 := by omega
  have p := fun i hi => put_other s b i hb hi
  rcases h with h | h | h | h <;> rw [h] at p ⊢ <;> simp [setCells, p]
theorem setCells_get (s i : Nat) (hi : i < 4) : (setCells s)[i]? = some (.int .u64 (wd s i)) := by
  have h : i = 0 ∨ i = 1 ∨ i = 2 ∨ i = 3 := by omega
  rcases h with h | h | h | h <;> subst h <;> rfl
theorem setCells_length (s : Nat) : (setCells s).length = 4 := rfl
theorem set_ext {s t : Nat} (hs : SetOk s) (ht : SetOk t) (h : ∀ i, i < 4 → wd s i = wd t i) : s = t := by
  apply Nat.eq_of_testBit_eq
  intro j
  by_cases hj : j < 256
  · have h1 := h (j / 64) (by omega)
    unfold wd at h1
    have h1' : s / 2 ^ (64 * (j / 64)) % 2 ^ 64 = t / 2 ^ (64 * (j / 64)) % 2 ^ 64 := by exact_mod_cast h1
    have h2 := word_testBit s (j / 64) (j % 64) (Nat.mod_lt _ (by decide))
    have h3 := word_testBit t (j / 64) (j % 64) (Nat.mod_lt _ (by decide))
    rw [Nat.div_add_mod] at h2 h3
    rw [← h2, ← h3, h1']
  · rw [Nat.testBit_lt_two_pow (Nat.lt_of_lt_of_le hs (Nat.pow_le_pow_right (by decide) (by omega))), Nat.testBit_lt_two_pow (Nat.lt_of_lt_of_le ht (Nat.pow_le_pow_right (by decide) (by omega)))]
def setNot (s : Nat) : Nat := 2 ^ 256 - (s + 1)
theorem setNot_ok (s : Nat) : SetOk (setNot s) := by unfold setNot SetOk; omega
theorem setNot_bit {s : Nat} (hs : SetOk s) (j : Nat) : (setNot s).testBit j = (decide (j < 256) && !s.testBit j) := Nat.testBit_two_pow_sub_succ hs j
theorem wd_not {s : Nat} (hs : SetOk s) (i : Nat) (hi : i < 4) : bitv .xor .u64 (if IntKind.u64.signed then -1 else IntKind.u64.max) (wd s i) = wd (setNot s) i := by
  have hw : s / 2 ^ (64 * i) % 2 ^ 64 < 2 ^ 64 := Nat.mod_lt _ (by decide)
  unfold wd
  rw [bitv_cpl _ hw]
  congr 1
  apply Nat.eq_of_testBit_eq
  intro j
  rw [show 2 ^ 64 - 1 - s / 2 ^ (64 * i) % 2 ^ 64 = 2 ^ 64 - (s / 2 ^ (64 * i) % 2 ^ 64 + 1) from by omega, Nat.testBit_two_pow_sub_succ hw, Nat.testBit_mod_two_pow, Nat.testBit_mod_two_pow, Nat.testBit_div_two_pow, Nat.testBit_div_two_pow, setNot_bit hs]
  by_cases hj : j < 64
  · simp [hj]; omega
  · simp [hj]
theorem cell_set {w : World} {b i : Nat} {s : Nat} {τ : TypeId} (h : Blk w b (setCells s) τ) (hi : i < 4) : w.cell? ⟨b, 0 + i, none⟩ = some (.int .u64 (wd s i)) := by
  rw [h.cell, Nat.zero_add]; exact setCells_get s i hi
theorem setCells_zero : setCells 0 = [.int .u64 0, .int .u64 0, .int .u64 0, .int .u64 0] := by simp [setCells, wd]
def mixCells (u s k : Nat) : List Value := (setCells u).take k ++ (setCells s).drop k
theorem cell_mix {w : World} {b k u s : Nat} {τ : TypeId} (h : Blk w b (mixCells u s k) τ) (hk : k < 4) : w.cell? ⟨b, 0 + k, none⟩ = some (.int .u64 (wd s k)) := by
  rw [h.cell, Nat.zero_add]
  have hh : k = 0 ∨ k = 1 ∨ k = 2 ∨ k = 3 := by omega
  rcases hh with h | h | h | h <;> subst h <;> rfl
theorem mix_step (u s k : Nat) (hk : k < 4) : (mixCells u s k).take (0 + k) ++ [.int .u64 (wd u k)] ++ (mixCells u s k).drop (0 + k + 1) = mixCells u s (k + 1) := by
  have hh : k = 0 ∨ k = 1 ∨ k = 2 ∨ k = 3 := by omega
  rcases hh with h | h | h | h <;> subst h <;> rfl
theorem mix_length (u s k : Nat) (hk : k ≤ 4) : (mixCells u s k).length = 4 := by
  have hh : k = 0 ∨ k = 1 ∨ k = 2 ∨ k = 3 ∨ k = 4 := by omega
  rcases hh with h | h | h | h | h <;> subst h <;> rfl
theorem mix_end (u s : Nat) : mixCells u s 4 = setCells u := by simp [mixCells, setCells]
theorem mix_start (u s : Nat) : mixCells u s 0 = setCells s := by simp [mixCells, setCells]
def ofBytes (l : List Nat) : Nat := l.foldl (fun s b => s ||| 2 ^ b) 0
theorem fold_ok (l : List Nat) (hl : ∀ b ∈ l, b < 256) : ∀ s, SetOk s → SetOk (l.foldl (fun s b => s ||| 2 ^ b) s) := by
  induction l with
  | nil => intro s hs; exact hs
  | cons b l ih => intro s hs; exact ih (fun x hx => hl x (List.mem_cons_of_mem _ hx)) _ (or_ok hs (bit_ok (hl b (List.mem_cons_self ..))))
theorem zero_ok : SetOk 0 := by unfold SetOk; decide
theorem ofBytes_ok (l : List Nat) (hl : ∀ b ∈ l, b < 256) : SetOk (ofBytes l) := fold_ok l hl 0 zero_ok
def byv (b : Nat) : Value := .int .u8 (b : Int)
theorem ofBytes_concat (lo k : Nat) : ofBytes (List.range' lo (k + 1)) = ofBytes (List.range' lo k) ||| 2 ^ (lo + k) := by
  unfold ofBytes
  rw [List.range'_concat, List.foldl_append]
  simp
def bys (l : List Nat) : List Value := l.map byv
theorem bys_length (l : List Nat) : (bys l).length = l.length := by simp [bys]
theorem bys_get (l : List Nat) (k : Nat) (h : k < l.length) : (bys l)[k]? = some (.int .u8 ((l.getD k 0 : Nat) : Int)) := by simp [bys, byv, List.getElem?_eq_getElem h, List.getD_eq_getElem?_getD]
def setsCells (l : List Nat) : List Value := l.flatMap setCells
theorem setsCells_length (l : List Nat) : (setsCells l).length = l.length * 4 := by
  induction l with
  | nil => rfl
  | cons s l ih => simp only [setsCells, List.flatMap_cons, List.length_append, setCells_length, List.length_cons] at *; omega
theorem setsCells_get : ∀ (l : List Nat) (k j : Nat), k < l.length → j < 4 → (setsCells l)[k * 4 + j]? = (setCells (l.getD k 0))[j]?
  | [], k, j, h, _ => by simp at h
  | s :: l, 0, j, _, hj => by
    simp only [setsCells, List.flatMap_cons, Nat.zero_mul, Nat.zero_add]
    rw [List.getElem?_append_left (by rw [setCells_length]; exact hj)]
    rfl
  | s :: l, k + 1, j, h, hj => by
    simp only [setsCells, List.flatMap_cons]
    rw [List.getElem?_append_right (by rw [setCells_length]; omega), setCells_length, show (k + 1) * 4 + j - 4 = k * 4 + j from by omega]
    exact setsCells_get l k j (by simpa using h) hj
def unions (l : List Nat) : Nat := l.foldl (· ||| ·) 0
theorem unions_ok (l : List Nat) (hl : ∀ s ∈ l, SetOk s) : ∀ s, SetOk s → SetOk (l.foldl (· ||| ·) s) := by
  induction l with
  | nil => intro s hs; exact hs
  | cons b l ih => intro s hs; exact ih (fun x hx => hl x (List.mem_cons_of_mem _ hx)) _ (or_ok hs (hl b (List.mem_cons_self ..)))
end Go.Clt
end
section
set_option linter.unusedVariables false
set_option linter.unusedSimpArgs false
namespace Go.Clt
open Go Go.RowKit
structure Ps where
  i : Nat
  e : Int
deriving DecidableEq, Repr
def Ps.fail (p : Ps) (a : Nat) (e : Int) : Ps := if p.e = 0 then ⟨a, e⟩ else p
def Ps.go (p : Ps) (k : Nat) : Ps := ⟨p.i + k, p.e⟩
def peekC (L : List Nat) (p : Ps) : Nat := L.getD p.i 0
def isB (L : List Nat) (p : Ps) (b : Nat) : Bool := decide (p.i < L.length) && decide (L.getD p.i 0 = b)
def isS (L : List Nat) (p : Ps) (b : Nat) : Ps := if isB L p b then p.go 1 else p
def idxN : List Nat → Nat → Int
  | [], _ => -1
  | b :: l, c => if b = c then 0 else if idxN l c = -1 then -1 else idxN l c + 1
def hexT : List Nat := [48, 49, 50, 51, 52, 53, 54, 55, 56, 57, 97, 98, 99, 100, 101, 102]
def decT : List Nat := [48, 49, 50, 51, 52, 53, 54, 55, 56, 57]
def specialT : List Nat := [92, 124, 40, 41, 91, 93, 123, 125, 42, 43, 63, 46, 94, 36, 47, 45]
def otherT : List Nat := [49, 50, 51, 52, 53, 54, 55, 56, 57, 98, 66, 65, 122, 90, 71, 81, 69, 107, 112, 80]
def innerT : List Nat := [91, 93, 45, 94]
def loneT : List Nat := [93, 125]
def hexV (L : List Nat) (p : Ps) : Int := if peekC L p < 65 then idxN decT (peekC L p) else idxN hexT (peekC L p ||| 32)
def hexOk (L : List Nat) (p : Ps) : Bool := decide (p.i < L.length) && decide (0 ≤ hexV L p)
def hexP (L : List Nat) (p : Ps) : Nat × Ps := if hexOk L p then ((hexV L p).toNat, p.go 1) else (0, p.fail p.i 4)
def rangeS (a b : Nat) : Nat := ofBytes (List.range' a (b + 1 - a))
def digitsS : Nat := rangeS 48 57
def wordS : Nat := unions [digitsS, rangeS 97 122, rangeS 65 90, ofBytes [95]]
def spaceS : Nat := unions [rangeS 9 13, ofBytes [32]]
def namedP (c : Nat) : Option Nat :=
  if c = 110 then some (ofBytes [10]) else if c = 116 then some (ofBytes [9]) else if c = 114 then some (ofBytes [13]) else if c = 102 then some (ofBytes [12]) else if c = 118 then some (ofBytes [11])
  else if c = 100 then some digitsS else if c = 119 then some wordS else if c = 115 then some spaceS else if c = 68 then some (setNot digitsS) else if c = 87 then some (setNot wordS) else if c = 83 then some (setNot spaceS) else none
def escapeP (L : List Nat) (p : Ps) : Nat × Ps :=
  let q := p.go 1
  let c := peekC L q
  if ¬ q.i < L.length then (0, q.fail q.i 4)
  else if 0 ≤ idxN specialT c then (ofBytes [c], q.go 1)
  else match namedP c with
    | some s => (s, q.go 1)
    | none =>
      if c = 120 then
        let h := hexP L (q.go 1)
        if h.2.e = 0 then ((let l := hexP L h.2; (ofBytes [(16 * h.1 + l.1) % 256], l.2)) : Nat × Ps) else (0, h.2)
      else if 0 ≤ idxN otherT c then (0, q.fail p.i 6)
      else (0, q.fail q.i 4)
def itemP (L : List Nat) (p : Ps) : Nat × Ps :=
  if ¬ p.i < L.length ∨ 0 ≤ idxN innerT (peekC L p) then (0, p.fail p.i 4)
  else if peekC L p = 92 then escapeP L p
  else (ofBytes [peekC L p], p.go 1)
def countS (s : Nat) : Nat := ((List.range 256).filter fun b => s.testBit b).length
def firstS (s : Nat) : Nat := ((List.range 256).find? fun b => s.testBit b).getD 0
def spanP (L : List Nat) (p : Ps) : Nat × Ps :=
  let lo := itemP L p
  if lo.2.e ≠ 0 then lo
  else if isB L lo.2 45 = false then lo
  else
    let q := lo.2.go 1
    if countS lo.1 ≠ 1 then (lo.1, q.fail lo.2.i 4)
    else
      let hi := itemP L q
      let r := if hi.2.e = 0 ∧ countS hi.1 ≠ 1 then hi.2.fail q.i 4 else hi.2
      let a := firstS lo.1
      let b := firstS hi.1
      (rangeS a b, if r.e = 0 ∧ b < a then r.fail p.i 5 else r)
def classL (L : List Nat) : Nat → Nat → Ps → Nat × Ps
  | 0, s, p => (s, p)
  | f + 1, s, p => if p.e ≠ 0 then (s, p) else if isB L p 93 then (s, p.go 1) else let q := spanP L p; classL L f (unions [s, q.1]) q.2
def classP (L : List Nat) (p : Ps) : Nat × Ps :=
  let q := p.go 1
  let s := spanP L (isS L q 94)
  let r := classL L (L.length + 2) s.1 s.2
  (if isB L q 94 then setNot r.1 else r.1, r.2)
def digitB (L : List Nat) (p : Ps) : Bool := decide (p.i < L.length) && decide (48 ≤ peekC L p) && decide (peekC L p ≤ 57)
def numberL (L : List Nat) : Nat → Nat → Ps → Nat × Ps
  | 0, n, p => (n, p)
  | f + 1, n, p => if p.e = 0 ∧ digitB L p then numberL L f (min (10 * n + (peekC L p - 48)) 1001) (p.go 1) else (n, p)
def numberP (L : List Nat) (p : Ps) : Nat × Ps :=
  let q := if digitB L p then p else p.fail p.i 4
  let r := numberL L (L.length + 1) 0 q
  (r.1, if 1000 < r.1 then r.2.fail p.i 5 else r.2)
def bracesP (L : List Nat) (p : Ps) : Int × Int × Ps :=
  let lo := numberP L p
  let m : Int × Ps :=
    if lo.2.e = 0 ∧ isB L lo.2 44 then
      let q := lo.2.go 1
      if ¬ q.i < L.length ∨ peekC L q ≠ 125 then
        let hi := numberP L q
        ((hi.1 : Int), if hi.2.e = 0 ∧ hi.1 < lo.1 then hi.2.fail q.i 5 else hi.2)
      else (-1, q)
    else ((lo.1 : Int), lo.2)
  let r := m.2
  ((lo.1 : Int), m.1, if r.e = 0 then (if isB L r 125 then r.go 1 else r.fail r.i 4) else r)
structure Tok where
  kind : Int := 0
  src : Int := 0
  to : Int := 0
  set : Nat := 0
  min : Int := 0
  max : Int := 0
  lazy : Bool := false
deriving DecidableEq, Repr
def Tok.cells (t : Tok) : List Value := [.int .i64 t.kind, .int .i64 t.src, .int .i64 t.to] ++ setCells t.set ++ [.int .i64 t.min, .int .i64 t.max, .bool t.lazy]
def countP (L : List Nat) (p : Ps) (c : Nat) : Tok × Ps :=
  let m : Int × Int × Ps := if c = 43 then (1, -1, p) else if c = 63 then (0, 1, p) else if c = 123 then bracesP L p else (0, -1, p)
  let q := m.2.2
  if q.e ≠ 0 then ({ kind := 5, min := m.1, max := m.2.1 }, q)
  else
    let r := isS L q 63
    ({ kind := 5, min := m.1, max := m.2.1, lazy := isB L q 63 }, if isB L r 43 then r.fail r.i 6 else r)
def groupP (L : List Nat) (p : Ps) (src : Nat) : Tok × Ps :=
  if isB L p 63 && isB L (p.go 1) 58 then ({ kind := 2 }, p.go 2)
  else if isB L p 63 then ({ kind := 1 }, p.fail src 6)
  else ({ kind := 1 }, p)
def oneP (L : List Nat) (p : Ps) : Tok × Ps :=
  let c := peekC L p
  if c = 92 then let q := escapeP L p; ({ set := q.1 }, q.2)
  else if c = 91 then let q := classP L p; ({ set := q.1 }, q.2)
  else
    let q := p.go 1
    if c = 40 then groupP L q p.i
    else if c = 41 then ({ kind := 3 }, q)
    else if c = 124 then ({ kind := 4 }, q)
    else if c = 46 then ({ set := setNot (ofBytes [10]) }, q)
    else if c = 42 ∨ c = 43 ∨ c = 63 ∨ c = 123 then countP L q c
    else if c = 94 ∨ c = 36 then ({ set := ofBytes [c] }, q.fail p.i 6)
    else if 0 ≤ idxN loneT c then ({ set := ofBytes [c] }, q.fail p.i 4)
    else ({ set := ofBytes [c] }, q)
def scanL (L : List Nat) : Nat → Ps → List Tok → List Tok × Nat × Int
  | 0, p, l => (l, l.length, 0)
  | f + 1, p, l =>
    if p.i < L.length then
      let t := oneP L p
      if t.2.e ≠ 0 then ([], t.2.i, t.2.e)
      else scanL L f t.2 (l ++ [{ t.1 with src := p.i, to := t.2.i }])
    else (l, l.length, 0)
def scanP (L : List Nat) : List Tok × Nat × Int := if 1048576 < L.length then ([], 0, 3) else scanL L (L.length + 1) ⟨0, 0⟩ []
end Go.Clt
end
section
set_option linter.unusedVariables false
set_option linter.unusedSimpArgs false
namespace Go.Clt
open Go
structure Fine (n k : Nat) (p q : Ps) : Prop where
  le : q.i ≤ n
  adv : q.e = 0 → p.i + k ≤ q.i
  err : q.e = 0 → p.e = 0
theorem Fine.refl {n : Nat} {p : Ps} (h : p.i ≤ n) : Fine n 0 p p := ⟨h, fun _ => Nat.le_refl _, fun h => h⟩
theorem Fine.trans {n k j : Nat} {p q r : Ps} (h : Fine n k p q) (h2 : Fine n j q r) : Fine n (k + j) p r :=
  ⟨h2.le, fun he => by have := h.adv (h2.err he); have := h2.adv he; omega, fun he => h.err (h2.err he)⟩
theorem Fine.weak {n k j : Nat} {p q : Ps} (h : Fine n k p q) (hj : j ≤ k) : Fine n j p q := ⟨h.le, fun he => by have := h.adv he; omega, h.err⟩
theorem Fine.go {n k : Nat} {p : Ps} (h : p.i + k ≤ n) : Fine n k p (p.go k) := ⟨h, fun _ => Nat.le_refl _, fun h => h⟩
theorem fail_ne {p : Ps} {a : Nat} {e : Int} (he : e ≠ 0) : (p.fail a e).e ≠ 0 := by
  unfold Ps.fail; split <;> assumption
theorem Fine.fail {n k : Nat} {p : Ps} {a : Nat} {e : Int} (hp : p.i ≤ n) (ha : a ≤ n) (he : e ≠ 0) : Fine n k p (p.fail a e) :=
  ⟨by unfold Ps.fail; split <;> assumption, fun h => absurd h (fail_ne he), fun h => absurd h (fail_ne he)⟩
theorem Fine.thenFail {n k : Nat} {p q : Ps} {a : Nat} {e : Int} (h : Fine n k p q) (ha : a ≤ n) (he : e ≠ 0) : Fine n k p (q.fail a e) :=
  (h.trans (Fine.fail (k := 0) h.le ha he)).weak (by omega)
theorem Fine.ite {n k : Nat} {p q r : Ps} {c : Prop} [Decidable c] (h1 : Fine n k p q) (h2 : Fine n k p r) : Fine n k p (if c then q else r) := by split <;> assumption
theorem isB_lt {L : List Nat} {p : Ps} {b : Nat} (h : isB L p b = true) : p.i < L.length := by
  unfold isB at h; simp at h; exact h.1
theorem isS_fine {L : List Nat} {p : Ps} {b : Nat} (h : p.i ≤ L.length) : Fine L.length 0 p (isS L p b) := by
  unfold isS
  split
  · rename_i hb; exact (Fine.go (k := 1) (isB_lt hb)).weak (by omega)
  · exact Fine.refl h
theorem hexP_fine {L : List Nat} {p : Ps} (h : p.i ≤ L.length) : Fine L.length 0 p (hexP L p).2 := by
  unfold hexP
  split
  · rename_i hb; unfold hexOk at hb; simp at hb; exact (Fine.go (k := 1) (by omega)).weak (by omega)
  · exact Fine.fail h h (by decide)
theorem escapeP_fine {L : List Nat} {p : Ps} (h : p.i < L.length) : Fine L.length 1 p (escapeP L p).2 := by
  have hg : Fine L.length 1 p (p.go 1) := Fine.go h
  unfold escapeP
  simp only []
  split
  · exact hg.thenFail hg.le (by decide)
  · rename_i hlt
    have hlt' : (p.go 1).i < L.length := by omega
    have hg2 : Fine L.length 1 (p.go 1) ((p.go 1).go 1) := Fine.go hlt'
    split
    · exact (hg.trans hg2).weak (by omega)
    · split
      · exact (hg.trans hg2).weak (by omega)
      · split
        · split
          · exact ((hg.trans hg2).trans ((hexP_fine hg2.le).trans (hexP_fine (hexP_fine hg2.le).le))).weak (by omega)
          · exact ((hg.trans hg2).trans (hexP_fine hg2.le)).weak (by omega)
        · split
          · exact hg.thenFail (by omega) (by decide)
          · exact hg.thenFail hg.le (by decide)
theorem itemP_fine {L : List Nat} {p : Ps} (h : p.i ≤ L.length) : Fine L.length 1 p (itemP L p).2 := by
  unfold itemP
  split
  · exact Fine.fail h h (by decide)
  · rename_i hn
    have hlt : p.i < L.length := by omega
    split
    · exact escapeP_fine hlt
    · exact Fine.go hlt
theorem spanP_fine {L : List Nat} {p : Ps} (h : p.i ≤ L.length) : Fine L.length 1 p (spanP L p).2 := by
  have h1 := itemP_fine h
  unfold spanP
  simp only []
  split
  · exact h1
  · split
    · exact h1
    · rename_i hb
      have hb' : isB L (itemP L p).2 45 = true := by simpa using hb
      have hg : Fine L.length 1 (itemP L p).2 ((itemP L p).2.go 1) := Fine.go (isB_lt hb')
      have h2 := (h1.trans hg).weak (j := 1) (by omega)
      split
      · exact h2.thenFail h1.le (by decide)
      · have h3 := (h2.trans (itemP_fine hg.le)).weak (j := 1) (by omega)
        have h4 : Fine L.length 1 p (if (itemP L ((itemP L p).2.go 1)).2.e = 0 ∧ countS (itemP L ((itemP L p).2.go 1)).1 ≠ 1 then (itemP L ((itemP L p).2.go 1)).2.fail ((itemP L p).2.go 1).i 4 else (itemP L ((itemP L p).2.go 1)).2) :=
          Fine.ite (h3.thenFail hg.le (by decide)) h3
        exact Fine.ite (h4.thenFail h (by decide)) h4
theorem classL_fine {L : List Nat} : ∀ (f : Nat) (s : Nat) (p : Ps), p.i ≤ L.length → Fine L.length 0 p (classL L f s p).2
  | 0, _, _, h => Fine.refl h
  | f + 1, s, p, h => by
    unfold classL
    split
    · exact Fine.refl h
    · split
      · rename_i hb; exact (Fine.go (k := 1) (isB_lt hb)).weak (by omega)
      · exact ((spanP_fine h).trans (classL_fine f _ _ (spanP_fine h).le)).weak (by omega)
theorem classP_fine {L : List Nat} {p : Ps} (h : p.i < L.length) : Fine L.length 1 p (classP L p).2 := by
  have hg : Fine L.length 1 p (p.go 1) := Fine.go h
  have h1 := isS_fine (b := 94) hg.le
  have h2 := spanP_fine h1.le
  unfold classP
  exact (hg.trans (h1.trans (h2.trans (classL_fine _ _ _ h2.le)))).weak (by omega)
theorem digitB_lt {L : List Nat} {p : Ps} (h : digitB L p = true) : p.i < L.length := by
  unfold digitB at h; simp at h; omega
theorem numberL_fine {L : List Nat} : ∀ (f : Nat) (n : Nat) (p : Ps), p.i ≤ L.length → Fine L.length 0 p (numberL L f n p).2
  | 0, _, _, h => Fine.refl h
  | f + 1, s, p, h => by
    unfold numberL
    split
    · rename_i hb
      have hg : Fine L.length 1 p (p.go 1) := Fine.go (digitB_lt hb.2)
      exact (hg.trans (numberL_fine f _ _ hg.le)).weak (by omega)
    · exact Fine.refl h
theorem numberP_fine {L : List Nat} {p : Ps} (h : p.i ≤ L.length) : Fine L.length 0 p (numberP L p).2 := by
  unfold numberP
  have h1 : Fine L.length 0 p (if digitB L p then p else p.fail p.i 4) := Fine.ite (Fine.refl h) (Fine.fail h h (by decide))
  have h2 := (h1.trans (numberL_fine (L.length + 1) 0 _ h1.le)).weak (j := 0) (by omega)
  exact Fine.ite (h2.thenFail h (by decide)) h2
theorem bracesP_fine {L : List Nat} {p : Ps} (h : p.i ≤ L.length) : Fine L.length 0 p (bracesP L p).2.2 := by
  have h1 := numberP_fine h
  have key : ∀ m : Int × Ps, Fine L.length 0 p m.2 → Fine L.length 0 p (if m.2.e = 0 then (if isB L m.2 125 then m.2.go 1 else m.2.fail m.2.i 4) else m.2) := by
    intro m hm
    split
    · split
      · rename_i hb; exact (hm.trans (Fine.go (k := 1) (isB_lt hb))).weak (by omega)
      · exact hm.thenFail hm.le (by decide)
    · exact hm
  unfold bracesP
  refine key _ ?_
  split
  · rename_i hb
    have hg : Fine L.length 1 (numberP L p).2 ((numberP L p).2.go 1) := Fine.go (isB_lt hb.2)
    have h2 := (h1.trans hg).weak (j := 0) (by omega)
    simp only []
    split
    · have h3 := (h2.trans (numberP_fine hg.le)).weak (j := 0) (by omega)
      exact Fine.ite (h3.thenFail hg.le (by decide)) h3
    · exact h2
  · exact h1
theorem countP_fine {L : List Nat} {p : Ps} {c : Nat} (h : p.i ≤ L.length) : Fine L.length 0 p (countP L p c).2 := by
  have h1 : Fine L.length 0 p (if c = 43 then ((1, -1, p) : Int × Int × Ps) else if c = 63 then (0, 1, p) else if c = 123 then bracesP L p else (0, -1, p)).2.2 := by
    split
    · exact Fine.refl h
    · split
      · exact Fine.refl h
      · split
        · exact bracesP_fine h
        · exact Fine.refl h
  unfold countP
  generalize (if c = 43 then ((1, -1, p) : Int × Int × Ps) else if c = 63 then (0, 1, p) else if c = 123 then bracesP L p else (0, -1, p)) = m at h1
  simp only []
  split
  · exact h1
  · have h2 := (h1.trans (isS_fine (b := 63) h1.le)).weak (j := 0) (by omega)
    exact Fine.ite (h2.thenFail h2.le (by decide)) h2
theorem groupP_fine {L : List Nat} {p : Ps} {a : Nat} (h : p.i ≤ L.length) (ha : a ≤ L.length) : Fine L.length 0 p (groupP L p a).2 := by
  unfold groupP
  split
  · rename_i hb
    simp only [Bool.and_eq_true] at hb
    have := isB_lt hb.2
    exact (Fine.go (k := 2) (by simp [Ps.go] at this; omega)).weak (by omega)
  · split
    · exact Fine.fail h ha (by decide)
    · exact Fine.refl h
theorem oneP_fine {L : List Nat} {p : Ps} (h : p.i < L.length) : Fine L.length 1 p (oneP L p).2 := by
  have hg : Fine L.length 1 p (p.go 1) := Fine.go h
  unfold oneP
  simp only []
  split
  · exact escapeP_fine h
  · split
    · exact classP_fine h
    · split
      · exact (hg.trans (groupP_fine hg.le (by omega))).weak (by omega)
      · split
        · exact hg
        · split
          · exact hg
          · split
            · exact hg
            · split
              · exact (hg.trans (countP_fine hg.le)).weak (by omega)
              · split
                · exact hg.thenFail (by omega) (by decide)
                · split
                  · exact hg.thenFail (by omega) (by decide)
                  · exact hg
end Go.Clt
end
section
set_option linter.unusedVariables false
set_option linter.unusedSimpArgs false
set_option maxRecDepth 4000
namespace Go.Clt
open Go Go.RowKit Go.Proofs
theorem least_c (n : Int) (hn : n ≤ 9223372036854775807) (w : World) : Calls P 116 #[.int .i64 n] w (Ret fun v w' => v = .int .u64 (max n 0) ∧ w' = w) := by
  refine enter Tryz.func116 rfl rfl ?_
  refine EW.seq ?_
  refine EW.reg ?_
  refine EP.o rfl (Does.assign rfl) ?_
  refine EP.nil ?_
  refine EW.seq ?_
  refine EW.reg ?_
  refine EP.o rfl (Does.move rfl) ?_
  refine EP.o rfl (Does.max rfl rfl) ?_
  refine EP.o rfl (Does.convw kn3 Tryz.underlying68 rfl (by exact wrap_u64 (by omega))) ?_
  refine EP.o rfl (Does.assign rfl) ?_
  refine EP.nil ?_
  refine EW.ret ?_
  refine Fin.one rfl rfl ?_
  exact ⟨rfl, rfl⟩
theorem most_c (hi lo : Int) (h0 : 0 ≤ lo) (h1 : lo ≤ 18446744073709551615) (w : World) : Calls P 117 #[.int .u64 hi, .int .u64 lo] w (Ret fun v w' => v = .int .i64 (if hi = 0 ∧ lo ≤ 9223372036854775807 then lo else 9223372036854775807) ∧ w' = w) := by
  refine enter Tryz.func117 rfl rfl ?_
  refine EW.seq ?_
  refine EW.reg ?_
  refine EP.o rfl (Does.assign rfl) ?_
  refine EP.nil ?_
  refine EW.seq ?_
  refine EW.seq ?_
  refine EW.reg ?_
  refine EP.o rfl (Does.move rfl) ?_
  refine EP.o rfl (Does.cmp rfl rfl rfl) ?_
  refine EP.o rfl (Does.move rfl) ?_
  refine EP.bsplit (d := 7) rfl (fun h2 => ?_) (fun h2 => ?_)
  · try simp at h2
    refine EP.skp rfl rfl rfl rfl rfl (fun h => by cases h) ?_
    refine EP.skp rfl rfl rfl rfl rfl (fun h => by cases h) ?_
    refine EP.o rfl (Does.pickT rfl rfl) ?_
    refine EP.nil ?_
    refine EW.condT rfl ?_
    refine EW.seq ?_
    refine EW.reg ?_
    refine EP.o rfl (Does.assign rfl) ?_
    refine EP.nil ?_
    refine EW.ret ?_
    refine Fin.one rfl rfl ?_
    exact ⟨by rw [if_neg (by omega)], rfl⟩
  · try simp at h2
    refine EP.ung rfl rfl rfl ?_
    refine EP.o rfl (Does.move rfl) ?_
    refine EP.ung rfl rfl rfl ?_
    refine EP.o rfl (Does.cmp rfl rfl rfl) ?_
    refine EP.o rfl (Does.pickF rfl rfl) ?_
    refine EP.nil ?_
    refine EW.cond rfl (fun h3 => ?_) (fun h3 => ?_)
    · try simp at h3
      refine EW.seq ?_
      refine EW.reg ?_
      refine EP.o rfl (Does.assign rfl) ?_
      refine EP.nil ?_
      refine EW.ret ?_
      refine Fin.one rfl rfl ?_
      exact ⟨by rw [if_neg (by omega)], rfl⟩
    · try simp at h3
      refine EW.skip ?_
      refine EW.seq ?_
      refine EW.reg ?_
      refine EP.o rfl (Does.move rfl) ?_
      refine EP.o rfl (Does.convw kn68 Tryz.underlying3 rfl (by exact wrap_i64 (by omega))) ?_
      refine EP.o rfl (Does.assign rfl) ?_
      refine EP.nil ?_
      refine EW.ret ?_
      refine Fin.one rfl rfl ?_
      exact ⟨by rw [if_pos (by omega)], rfl⟩
theorem nadd_c (a b : Int) (ha : a ≤ 9223372036854775807) (hb : b ≤ 9223372036854775807) (w : World) : Calls P 86 #[.int .i64 a, .int .i64 b] w (Ret fun v w' => v = .int .i64 (sadd a b) ∧ w' = w) := by
  refine enter Tryz.func86 rfl rfl ?_
  refine EW.seq ?_
  refine EW.reg ?_
  refine EP.o rfl (Does.assign rfl) ?_
  refine EP.nil ?_
  refine EW.seq ?_
  refine EW.reg ?_
  refine EP.o rfl (Does.move rfl) ?_
  refine EP.call2 rfl (Enters.fn fb116 rfl) (least_c _ (by omega) _) ?_
  rintro _ _ ⟨rfl, rfl⟩
  refine EP.o rfl (Does.move rfl) ?_
  refine EP.call2 rfl (Enters.fn fb116 rfl) (least_c _ (by omega) _) ?_
  rintro _ _ ⟨rfl, rfl⟩
  refine EP.o rfl (Does.ext rfl (fun w => add64_run _ _ _ (by omega) (by omega) (by omega) (by omega) w)) ?_
  refine EP.o rfl (Does.move rfl) ?_
  refine EP.o rfl (Does.extract rfl rfl) ?_
  refine EP.o rfl (Does.extract rfl rfl) ?_
  refine EP.o rfl (Does.assign rfl) ?_
  refine EP.o rfl (Does.assign rfl) ?_
  refine EP.nil ?_
  refine EW.seq ?_
  refine EW.reg ?_
  refine EP.o rfl (Does.move rfl) ?_
  refine EP.o rfl (Does.move rfl) ?_
  refine EP.call2 rfl (Enters.fn fb117 rfl) (most_c _ _ (by omega) (by omega) _) ?_
  rintro _ _ ⟨rfl, rfl⟩
  refine EP.o rfl (Does.assign rfl) ?_
  refine EP.nil ?_
  refine EW.ret ?_
  refine Fin.one rfl rfl ?_
  exact ⟨vint (by unfold sadd; split <;> omega), rfl⟩
theorem mul64_c (x y : Int) (hx : 0 ≤ x) (hy : 0 ≤ y) (hx' : x < 18446744073709551616) (hy' : y < 18446744073709551616) (w : World) :
    Calls P 144 #[.int .u64 x, .int .u64 y] w (Ret fun v w' => v = .tuple #[.int .u64 (x * y / 18446744073709551616), .int .u64 (x * y % 18446744073709551616)] ∧ w' = w) := by
  obtain ⟨x, rfl⟩ := Int.eq_ofNat_of_zero_le hx
  obtain ⟨y, rfl⟩ := Int.eq_ofNat_of_zero_le hy
  exact of_calls (Tryz.bits_Mul64 x y (by omega) (by omega) w)
theorem mul_parts (x y : Int) (hx : 0 ≤ x) (hy : 0 ≤ y) : (if x * y / 18446744073709551616 = 0 ∧ x * y % 18446744073709551616 ≤ 9223372036854775807 then x * y % 18446744073709551616 else 9223372036854775807) = min 9223372036854775807 (x * y) := by
  have : 0 ≤ x * y := Int.mul_nonneg hx hy
  generalize x * y = z at *
  split <;> omega
theorem nmul_c (a b : Int) (ha : a ≤ 9223372036854775807) (hb : b ≤ 9223372036854775807) (w : World) : Calls P 114 #[.int .i64 a, .int .i64 b] w (Ret fun v w' => v = .int .i64 (smul a b) ∧ w' = w) := by
  refine enter Tryz.func114 rfl rfl ?_
  refine EW.seq ?_
  refine EW.reg ?_
  refine EP.o rfl (Does.assign rfl) ?_
  refine EP.nil ?_
  refine EW.seq ?_
  refine EW.reg ?_
  refine EP.o rfl (Does.move rfl) ?_
  refine EP.call2 rfl (Enters.fn fb116 rfl) (least_c _ (by omega) _) ?_
  rintro _ _ ⟨rfl, rfl⟩
  refine EP.o rfl (Does.move rfl) ?_
  refine EP.call2 rfl (Enters.fn fb116 rfl) (least_c _ (by omega) _) ?_
  rintro _ _ ⟨rfl, rfl⟩
  refine EP.call2 rfl (Enters.fn fb144 rfl) (mul64_c _ _ (by omega) (by omega) (by omega) (by omega) _) ?_
  rintro _ _ ⟨rfl, rfl⟩
  refine EP.o rfl (Does.move rfl) ?_
  refine EP.o rfl (Does.extract rfl rfl) ?_
  refine EP.o rfl (Does.extract rfl rfl) ?_
  refine EP.o rfl (Does.assign rfl) ?_
  refine EP.o rfl (Does.assign rfl) ?_
  refine EP.nil ?_
  refine EW.seq ?_
  refine EW.reg ?_
  refine EP.o rfl (Does.move rfl) ?_
  refine EP.o rfl (Does.move rfl) ?_
  refine EP.call2 rfl (Enters.fn fb117 rfl) (most_c _ _ (by omega) (by omega) _) ?_
  rintro _ _ ⟨rfl, rfl⟩
  refine EP.o rfl (Does.assign rfl) ?_
  refine EP.nil ?_
  refine EW.ret ?_
  refine Fin.one rfl rfl ?_
  exact ⟨by rw [mul_parts _ _ (by omega) (by omega)]; rfl, rfl⟩
theorem fold_add_c (F : Nat → Prop) (a : Int) (l : List Int) (A : Option Addr) (n c : Nat) (ha : a ≤ 9223372036854775807) (hl : ∀ x ∈ l, x ≤ 9223372036854775807) (hn : n < 9223372036854775807) (w : World) (hr : Rd F w 1 A n (ints l)) : Calls P 85 #[.int .i64 a, .slice A n c, .func (.func 86) #[] #[]] w (Ret fun v w' => v = .int .i64 (l.foldl sadd a) ∧ w' = w) := by
  have hlen : l.length = n := by have := hr.len; rw [ints_length] at this; omega
  refine enter Tryz.func85 rfl rfl ?_
  refine EW.seq ?_
  refine EW.reg ?_
  refine EP.o rfl (Does.assign rfl) ?_
  refine EP.nil ?_
  refine EW.seq ?_
  refine EW.seq ?_
  refine EW.reg ?_
  refine EP.o rfl (Does.move rfl) ?_
  refine EP.o rfl (Does.lenL Tryz.underlying24 rfl) ?_
  refine EP.o rfl (Does.move rfl) ?_
  refine EP.nil ?_
  refine EW.block ?_
  refine EW.loop (σ := Nat) (fun k => [(0, .int .i64 ((l.take k).foldl sadd a)), (2, .func (.func 86) #[] #[]), (9, .slice A n c), (10, .int .i64 n), (11, .int .i64 k)]) (fun k wr => w = wr ∧ k ≤ n) (fun k wr => n - k) 0 ⟨rfl, rfl, rfl, rfl, rfl, trivial⟩ ?_ ?_
  · exact ⟨rfl, by omega⟩
  rintro k wr ⟨rfl, hk⟩
  refine EW.seq ?_
  refine EW.reg ?_
  refine EP.o rfl (Does.cmp rfl rfl rfl) ?_
  refine EP.nil ?_
  refine EW.seq ?_
  refine EW.cond rfl (fun hc => ?_) (fun hc => ?_)
  · try simp at hc
    obtain ⟨g, off, rfl, hF, hlt, hcell⟩ := hr.at_ (by omega)
    have hx := hl _ (getD_mem l 0 k (by omega))
    have hacc : (l.take k).foldl sadd a ≤ 9223372036854775807 := fold_le (fun a b => (sadd_range a b).2) _ _ ha
    refine EW.skip ?_
    refine EW.seq ?_
    refine EW.block ?_
    refine EW.seq ?_
    refine EW.reg ?_
    refine EP.o rfl (Does.indexAddr1 sl24 rfl rfl (by omega) (by omega)) ?_
    refine EP.o rfl (Does.load1 o3 rfl (Keeps.now _) (hcell k _ (ints_get l k (by omega)))) ?_
    refine EP.o rfl (Does.assign rfl) ?_
    refine EP.nil ?_
    refine EW.reg ?_
    refine EP.o rfl (Does.move rfl) ?_
    refine EP.o rfl (Does.move rfl) ?_
    refine EP.o rfl (Does.move rfl) ?_
    refine EP.call2 rfl (Enters.clo rfl fb86 rfl) (nadd_c _ _ hacc hx _) ?_
    rintro _ _ ⟨rfl, rfl⟩
    refine EP.o rfl (Does.assign rfl) ?_
    refine EP.nil ?_
    refine EW.reg ?_
    refine EP.o rfl (Does.addi rfl rfl (by omega)) ?_
    refine EP.o rfl (Does.move rfl) ?_
    refine EP.nil ?_
    refine ⟨k + 1, ⟨(by rw [foldl_take _ _ _ 0 _ (by omega)]; rfl), rfl, rfl, rfl, rfl, trivial⟩, ?_, ?_⟩
    exact ⟨rfl, by omega⟩
    omega
  · try simp at hc
    refine EW.exit (brk_here ?_)
    refine EW.seq ?_
    refine EW.reg ?_
    refine EP.o rfl (Does.move rfl) ?_
    refine EP.o rfl (Does.assign rfl) ?_
    refine EP.nil ?_
    refine EW.ret ?_
    refine Fin.one rfl rfl ?_
    have : k = l.length := by omega
    subst this
    exact ⟨by rw [List.take_length], rfl⟩
theorem fold_mul_c (F : Nat → Prop) (a : Int) (l : List Int) (A : Option Addr) (n c : Nat) (ha : a ≤ 9223372036854775807) (hl : ∀ x ∈ l, x ≤ 9223372036854775807) (hn : n < 9223372036854775807) (w : World) (hr : Rd F w 1 A n (ints l)) : Calls P 85 #[.int .i64 a, .slice A n c, .func (.func 114) #[] #[]] w (Ret fun v w' => v = .int .i64 (l.foldl smul a) ∧ w' = w) := by
  have hlen : l.length = n := by have := hr.len; rw [ints_length] at this; omega
  refine enter Tryz.func85 rfl rfl ?_
  refine EW.seq ?_
  refine EW.reg ?_
  refine EP.o rfl (Does.assign rfl) ?_
  refine EP.nil ?_
  refine EW.seq ?_
  refine EW.seq ?_
  refine EW.reg ?_
  refine EP.o rfl (Does.move rfl) ?_
  refine EP.o rfl (Does.lenL Tryz.underlying24 rfl) ?_
  refine EP.o rfl (Does.move rfl) ?_
  refine EP.nil ?_
  refine EW.block ?_
  refine EW.loop (σ := Nat) (fun k => [(0, .int .i64 ((l.take k).foldl smul a)), (2, .func (.func 114) #[] #[]), (9, .slice A n c), (10, .int .i64 n), (11, .int .i64 k)]) (fun k wr => w = wr ∧ k ≤ n) (fun k wr => n - k) 0 ⟨rfl, rfl, rfl, rfl, rfl, trivial⟩ ?_ ?_
  · exact ⟨rfl, by omega⟩
  rintro k wr ⟨rfl, hk⟩
  refine EW.seq ?_
  refine EW.reg ?_
  refine EP.o rfl (Does.cmp rfl rfl rfl) ?_
  refine EP.nil ?_
  refine EW.seq ?_
  refine EW.cond rfl (fun hc => ?_) (fun hc => ?_)
  · try simp at hc
    obtain ⟨g, off, rfl, hF, hlt, hcell⟩ := hr.at_ (by omega)
    have hx := hl _ (getD_mem l 0 k (by omega))
    have hacc : (l.take k).foldl smul a ≤ 9223372036854775807 := fold_le (fun a b => (smul_range a b).2) _ _ ha
    refine EW.skip ?_
    refine EW.seq ?_
    refine EW.block ?_
    refine EW.seq ?_
    refine EW.reg ?_
    refine EP.o rfl (Does.indexAddr1 sl24 rfl rfl (by omega) (by omega)) ?_
    refine EP.o rfl (Does.load1 o3 rfl (Keeps.now _) (hcell k _ (ints_get l k (by omega)))) ?_
    refine EP.o rfl (Does.assign rfl) ?_
    refine EP.nil ?_
    refine EW.reg ?_
    refine EP.o rfl (Does.move rfl) ?_
    refine EP.o rfl (Does.move rfl) ?_
    refine EP.o rfl (Does.move rfl) ?_
    refine EP.call2 rfl (Enters.clo rfl fb114 rfl) (nmul_c _ _ hacc hx _) ?_
    rintro _ _ ⟨rfl, rfl⟩
    refine EP.o rfl (Does.assign rfl) ?_
    refine EP.nil ?_
    refine EW.reg ?_
    refine EP.o rfl (Does.addi rfl rfl (by omega)) ?_
    refine EP.o rfl (Does.move rfl) ?_
    refine EP.nil ?_
    refine ⟨k + 1, ⟨(by rw [foldl_take _ _ _ 0 _ (by omega)]; rfl), rfl, rfl, rfl, rfl, trivial⟩, ?_, ?_⟩
    exact ⟨rfl, by omega⟩
    omega
  · try simp at hc
    refine EW.exit (brk_here ?_)
    refine EW.seq ?_
    refine EW.reg ?_
    refine EP.o rfl (Does.move rfl) ?_
    refine EP.o rfl (Does.assign rfl) ?_
    refine EP.nil ?_
    refine EW.ret ?_
    refine Fin.one rfl rfl ?_
    have : k = l.length := by omega
    subst this
    exact ⟨by rw [List.take_length], rfl⟩
theorem nAdd_c (F : Nat → Prop) (l : List Int) (A : Option Addr) (n c : Nat) (hl : ∀ x ∈ l, x ≤ 9223372036854775807) (hn : n < 9223372036854775807) (w : World) (hr : Rd F w 1 A n (ints l)) : Calls P 46 #[.slice A n c] w (Ret fun v w' => v = .int .i64 (l.foldl sadd 0) ∧ w' = w) := by
  refine enter Tryz.func46 rfl rfl ?_
  refine EW.seq ?_
  refine EW.reg ?_
  refine EP.o rfl (Does.assign rfl) ?_
  refine EP.nil ?_
  refine EW.seq ?_
  refine EW.reg ?_
  refine EP.o rfl (Does.move rfl) ?_
  refine EP.call2 rfl (Enters.fn fb85 rfl) (fold_add_c F 0 l A n c (by omega) hl hn w hr) ?_
  rintro _ _ ⟨rfl, rfl⟩
  refine EP.o rfl (Does.assign rfl) ?_
  refine EP.nil ?_
  refine EW.ret ?_
  refine Fin.one rfl rfl ?_
  exact ⟨rfl, rfl⟩
theorem nSum_c (F : Nat → Prop) (l : List Int) (A : Option Addr) (n c : Nat) (hl : ∀ x ∈ l, x ≤ 9223372036854775807) (hn : n < 9223372036854775807) (w : World) (hr : Rd F w 1 A n (ints l)) : Calls P 215 #[.slice A n c] w (Ret fun v w' => v = .int .i64 (l.foldl sadd 0) ∧ w' = w) := by
  refine enter Tryz.func215 rfl rfl ?_
  refine EW.seq ?_
  refine EW.reg ?_
  refine EP.o rfl (Does.assign rfl) ?_
  refine EP.nil ?_
  refine EW.seq ?_
  refine EW.reg ?_
  refine EP.o rfl (Does.move rfl) ?_
  refine EP.call2 rfl (Enters.fn fb85 rfl) (fold_add_c F 0 l A n c (by omega) hl hn w hr) ?_
  rintro _ _ ⟨rfl, rfl⟩
  refine EP.o rfl (Does.assign rfl) ?_
  refine EP.nil ?_
  refine EW.ret ?_
  refine Fin.one rfl rfl ?_
  exact ⟨rfl, rfl⟩
theorem nMul_c (F : Nat → Prop) (l : List Int) (A : Option Addr) (n c : Nat) (hl : ∀ x ∈ l, x ≤ 9223372036854775807) (hn : n < 9223372036854775807) (w : World) (hr : Rd F w 1 A n (ints l)) : Calls P 84 #[.slice A n c] w (Ret fun v w' => v = .int .i64 (sprod l) ∧ w' = w) := by
  have hlen : l.length = n := by have := hr.len; rw [ints_length] at this; omega
  refine enter Tryz.func84 rfl rfl ?_
  refine EW.seq ?_
  refine EW.reg ?_
  refine EP.o rfl (Does.assign rfl) ?_
  refine EP.nil ?_
  refine EW.seq ?_
  refine EW.seq ?_
  refine EW.reg ?_
  refine EP.o rfl (Does.move rfl) ?_
  refine EP.o rfl (Does.lenL Tryz.underlying24 rfl) ?_
  refine EP.o rfl (Does.move rfl) ?_
  refine EP.nil ?_
  refine EW.block ?_
  refine EW.loop (σ := Nat) (fun k => [(0, .slice A n c), (5, .slice A n c), (6, .int .i64 n), (7, .int .i64 k)]) (fun k wr => w = wr ∧ k ≤ n ∧ ∀ x ∈ l.take k, ¬ x ≤ 0) (fun k wr => n - k) 0 ⟨rfl, rfl, rfl, rfl, trivial⟩ ?_ ?_
  · exact ⟨rfl, by omega, by simp⟩
  rintro k wr ⟨rfl, hk, hpos⟩
  refine EW.seq ?_
  refine EW.reg ?_
  refine EP.o rfl (Does.cmp rfl rfl rfl) ?_
  refine EP.nil ?_
  refine EW.seq ?_
  refine EW.cond rfl (fun hc => ?_) (fun hc => ?_)
  · try simp at hc
    obtain ⟨g, off, rfl, hF, hlt, hcell⟩ := hr.at_ (by omega)
    refine EW.skip ?_
    refine EW.seq ?_
    refine EW.block ?_
    refine EW.seq ?_
    refine EW.reg ?_
    refine EP.o rfl (Does.indexAddr1 sl24 rfl rfl (by omega) (by omega)) ?_
    refine EP.o rfl (Does.load1 o3 rfl (Keeps.now _) (hcell k _ (ints_get l k (by omega)))) ?_
    refine EP.o rfl (Does.assign rfl) ?_
    refine EP.nil ?_
    refine EW.seq ?_
    refine EW.reg ?_
    refine EP.o rfl (Does.move rfl) ?_
    refine EP.o rfl (Does.cmp rfl rfl rfl) ?_
    refine EP.nil ?_
    refine EW.cond rfl (fun h0 => ?_) (fun h0 => ?_)
    · try simp at h0
      have hm := getD_mem l 0 k (by omega)
      refine EW.seq ?_
      refine EW.reg ?_
      refine EP.o rfl (Does.assign rfl) ?_
      refine EP.nil ?_
      refine EW.ret ?_
      refine Fin.one rfl rfl ?_
      refine ⟨vint ?_, rfl⟩
      unfold sprod
      rw [if_pos]
      rw [List.any_eq_true]
      exact ⟨_, hm, by simpa using h0⟩
    · try simp at h0
      refine EW.skip ?_
      refine EW.reg ?_
      refine EP.o rfl (Does.addi rfl rfl (by omega)) ?_
      refine EP.o rfl (Does.move rfl) ?_
      refine EP.nil ?_
      refine ⟨k + 1, ⟨rfl, rfl, rfl, rfl, trivial⟩, ?_, ?_⟩
      refine ⟨rfl, by omega, fun x hx => ?_⟩
      rw [List.take_succ_eq_append_getElem (by omega)] at hx
      rcases List.mem_append.1 hx with h | h
      · exact hpos x h
      · have : x = l[k]?.getD 0 := by simpa [List.getElem?_eq_getElem (show k < l.length by omega)] using h
        omega
      omega
  · try simp at hc
    have hkn : k = l.length := by omega
    subst hkn
    rw [List.take_length] at hpos
    refine EW.exit (brk_here ?_)
    refine EW.seq ?_
    refine EW.reg ?_
    refine EP.o rfl (Does.move rfl) ?_
    refine EP.call2 rfl (Enters.fn fb85 rfl) (fold_mul_c F 1 l A n c (by omega) hl hn w hr) ?_
    rintro _ _ ⟨rfl, rfl⟩
    refine EP.o rfl (Does.assign rfl) ?_
    refine EP.nil ?_
    refine EW.ret ?_
    refine Fin.one rfl rfl ?_
    refine ⟨vint ?_, rfl⟩
    unfold sprod
    rw [if_neg]
    rw [List.any_eq_true]
    rintro ⟨x, hx, h0⟩
    exact hpos x hx (by simpa using h0)
end Go.Clt
end
section
set_option linter.unusedVariables false
set_option linter.unusedSimpArgs false
set_option maxRecDepth 4000
namespace Go.Clt
open Go Go.RowKit Go.Proofs
theorem has_c (s b : Nat) (hb : b < 256) (w : World) : Calls P 137 #[.agg (setCells s).toArray, .int .u8 (b : Int)] w (Ret fun v w' => v = .bool (s.testBit b) ∧ Chg [] w w') := by
  have hC := Chg.refl [] w
  refine enter Tryz.func137 rfl rfl ?_
  refine EW.seq ?_
  refine EW.reg ?_
  refine EP.new2 rfl (News.box rfl rfl) ?_
  intro b1 w1 hb1 hs1 hx1 hB1
  have hz1 := hx1.size
  replace hC := hC.step0 hx1
  refine EP.o rfl (Does.assign rfl) ?_
  refine EP.nil ?_
  refine EW.seq ?_
  refine EW.reg ?_
  refine EP.o rfl (Does.move rfl) ?_
  refine EP.o rfl (Does.quop rfl rfl (by omega) (by omega) (by exact wrap_u8 (by omega))) ?_
  refine EP.o rfl (Does.indexAddrA1 ar70 rfl rfl (by omega) (by omega)) ?_
  refine EP.o rfl (Does.load1 o68 rfl (Keeps.now _) (cell_set hB1 (by omega))) ?_
  refine EP.o rfl (Does.move rfl) ?_
  refine EP.o rfl (Does.remp rfl rfl (by omega) (by omega)) ?_
  refine EP.o rfl (Does.shr rfl rfl (by omega)) ?_
  refine EP.o rfl (Does.bits rfl rfl rfl) ?_
  refine EP.o rfl (Does.cmp rfl rfl rfl) ?_
  refine EP.o rfl (Does.assign rfl) ?_
  refine EP.nil ?_
  refine EW.ret ?_
  refine Fin.one rfl rfl ?_
  exact ⟨vbool (has_eq s b), hC⟩
theorem put_c (s b : Nat) (hb : b < 256) (w : World) : Calls P 164 #[.agg (setCells s).toArray, .int .u8 (b : Int)] w (Ret fun v w' => v = .agg (setCells (s ||| 2 ^ b)).toArray ∧ Chg [] w w') := by
  have hC := Chg.refl [] w
  refine enter Tryz.func164 rfl rfl ?_
  refine EW.seq ?_
  refine EW.reg ?_
  refine EP.new2 rfl (News.box rfl rfl) ?_
  intro b1 w1 hb1 hs1 hx1 hB1
  have hz1 := hx1.size
  replace hC := hC.step0 hx1
  refine EP.new2 rfl (News.alloc zr70 rfl) ?_
  intro b2 w2 hb2 hs2 hx2 hB2
  have hz2 := hx2.size
  replace hC := hC.step0 hx2
  replace hB1 := hB1.chg0 hx2
  refine EP.nil ?_
  refine EW.seq ?_
  refine EW.reg ?_
  refine EP.o rfl (Does.move rfl) ?_
  refine EP.o rfl (Does.quop rfl rfl (by omega) (by omega) (by exact wrap_u8 (by omega))) ?_
  refine EP.o rfl (Does.indexAddrA1 ar70 rfl rfl (by omega) (by omega)) ?_
  refine EP.o rfl (Does.load1 o68 rfl (Keeps.now _) (cell_set hB1 (by omega))) ?_
  have hput : Value.int .u64 (bitv .or .u64 (wd s (b / 64)) (IntKind.u64.wrap (1 * 2 ^ (min (b % 64) 64)))) = .int .u64 (wd (s ||| 2 ^ b) (b / 64)) := vint (put_word s b hb)
  refine EP.o rfl (Does.move rfl) ?_
  refine EP.o rfl (Does.remp rfl rfl (by omega) (by omega)) ?_
  refine EP.o rfl (Does.shl rfl rfl (by omega)) ?_
  refine EP.o rfl (Does.bits rfl rfl rfl) ?_
  refine EP.o rfl (Does.indexAddrA1 ar70 rfl rfl (by omega) (by omega)) ?_
  refine EP.put2 (Puts.blk (cs' := setCells (s ||| 2 ^ b)) sz68 rfl rfl hB1 rfl rfl rfl (by rw [Nat.ble_eq]; show 0 + b / 64 + 1 ≤ 4; omega) (by rw [← put_cells s b hb, Nat.zero_add]; exact congrArg (fun x => (setCells s).take (b / 64) ++ [x] ++ (setCells s).drop (b / 64 + 1)) hput)) ?_
  intro w3 hs3 hx3 hB3
  have hz3 := hx3.size
  replace hC := hC.step hx3 (by simp; omega)
  replace hB2 := hB2.chg hx3 (by simp; omega)
  clear hB1; have hB1 := hB3; clear hB3
  refine EP.nil ?_
  refine EW.seq ?_
  refine EW.reg ?_
  refine EP.o rfl (Does.loadA ag70 rfl (Keeps.now _) (by assumption) (by simp only [List.take, List.drop, List.append, List.cons_append, List.nil_append]; rfl) rfl) ?_
  refine EP.put2 (Puts.blk sz70 rfl rfl (by assumption) rfl rfl rfl rfl (by simp only [List.take, List.drop, List.append, List.cons_append, List.nil_append]; rfl)) ?_
  intro w4 hs4 hx4 hB4
  have hz4 := hx4.size
  replace hC := hC.step hx4 (by simp; omega)
  replace hB1 := hB1.chg hx4 (by simp; omega)
  clear hB2; have hB2 := hB4; clear hB4
  refine EP.nil ?_
  refine EW.ret ?_
  refine Fin.cell rfl rfl (Blk.loadV ag70 (by assumption) (by simp only [List.take, List.drop, List.append, List.cons_append, List.nil_append]; rfl) rfl) ?_
  exact ⟨rfl, hC⟩
theorem of_c (F : Nat → Prop) (l : List Nat) (A : Option Addr) (n c : Nat) (hl : ∀ b ∈ l, b < 256) (hn : n < 9223372036854775807) (w : World) (hr : Rd F w 1 A n (bys l)) (hF : ∀ b, F b → b < w.heap.size) : Calls P 139 #[.slice A n c] w (Ret fun v w' => v = .agg (setCells (ofBytes l)).toArray ∧ Chg [] w w') := by
  have hlen : l.length = n := by have := hr.len; rw [bys_length] at this; omega
  have hC := Chg.refl [] w
  refine enter Tryz.func139 rfl rfl ?_
  refine EW.seq ?_
  refine EW.reg ?_
  refine EP.new2 rfl (News.alloc zr70 rfl) ?_
  intro b1 w1 hb1 hs1 hx1 hB1
  have hz1 := hx1.size
  replace hC := hC.step0 hx1
  replace hr := hr.chg0 hx1
  refine EP.nil ?_
  refine EW.seq ?_
  refine EW.reg ?_
  refine EP.new2 rfl (News.alloc zr70 rfl) ?_
  intro b2 w2 hb2 hs2 hx2 hB2
  have hz2 := hx2.size
  replace hC := hC.step0 hx2
  replace hr := hr.chg0 hx2
  replace hB1 := hB1.chg0 hx2
  refine EP.nil ?_
  refine EW.seq ?_
  refine EW.seq ?_
  refine EW.reg ?_
  refine EP.o rfl (Does.move rfl) ?_
  refine EP.o rfl (Does.lenL Tryz.underlying44 rfl) ?_
  refine EP.o rfl (Does.move rfl) ?_
  refine EP.nil ?_
  refine EW.block ?_
  refine EW.loop (σ := Nat) (fun k => [(2, .pointer (some ⟨b1, 0, none⟩)), (3, .pointer (some ⟨b2, 0, none⟩)), (6, .slice A n c), (7, .int .i64 n), (8, .int .i64 k)]) (fun k wr => Chg [] w wr ∧ Rd F wr 1 A n (bys l) ∧ Blk wr b1 (setCells 0) 70 ∧ Blk wr b2 (setCells (ofBytes (l.take k))) 70 ∧ k ≤ n) (fun k wr => n - k) 0 ⟨rfl, rfl, rfl, rfl, rfl, trivial⟩ ?_ ?_
  · rw [← setCells_zero] at hB1 hB2
    exact ⟨hC, hr, hB1, hB2, by omega⟩
  rintro k w9 ⟨hC, hr, hB1, hB2, hk⟩
  refine EW.seq ?_
  refine EW.reg ?_
  refine EP.o rfl (Does.cmp rfl rfl rfl) ?_
  refine EP.nil ?_
  refine EW.seq ?_
  refine EW.cond rfl (fun hc => ?_) (fun hc => ?_)
  · try simp at hc
    obtain ⟨g, off, rfl, hFg, hlt, hcell⟩ := hr.at_ (by omega)
    have hb := hl _ (getD_mem l 0 k (by omega))
    refine EW.skip ?_
    refine EW.seq ?_
    refine EW.block ?_
    refine EW.seq ?_
    refine EW.reg ?_
    refine EP.o rfl (Does.indexAddr1 sl44 rfl rfl (by omega) (by omega)) ?_
    refine EP.o rfl (Does.load1 o5 rfl (Keeps.now _) (hcell k _ (bys_get l k (by omega)))) ?_
    refine EP.o rfl (Does.assign rfl) ?_
    refine EP.nil ?_
    refine EW.reg ?_
    refine EP.o rfl (Does.loadA ag70 rfl (Keeps.now _) (by assumption) (by simp only [List.take, List.drop, List.append, List.cons_append, List.nil_append]; rfl) rfl) ?_
    refine EP.o rfl (Does.move rfl) ?_
    refine EP.call2 rfl (Enters.fn fb164 rfl) (put_c _ _ (by omega) _) ?_
    rintro _ w3 ⟨rfl, hx3⟩
    have hz3 := hx3.size
    replace hC := hC.step0 hx3
    replace hr := hr.chg0 hx3
    replace hB1 := hB1.chg0 hx3
    replace hB2 := hB2.chg0 hx3
    refine EP.put2 (Puts.blk (cs' := setCells (ofBytes (l.take (k + 1)))) sz70 rfl rfl hB2 rfl rfl rfl rfl (by unfold ofBytes; rw [foldl_take _ _ _ 0 _ (by omega)]; rfl)) ?_
    intro w4 hs4 hx4 hB4
    have hz4 := hx4.size
    replace hC := hC.step hx4 (by simp; omega)
    replace hr := hr.chg hx4 (by intro b hb hFb; have := hF _ hFb; simp at hb; omega)
    replace hB1 := hB1.chg hx4 (by simp; omega)
    clear hB2; have hB2 := hB4; clear hB4
    refine EP.nil ?_
    refine EW.reg ?_
    refine EP.o rfl (Does.addi rfl rfl (by omega)) ?_
    refine EP.o rfl (Does.move rfl) ?_
    refine EP.nil ?_
    refine ⟨k + 1, ⟨rfl, rfl, rfl, rfl, rfl, trivial⟩, ?_, ?_⟩
    exact ⟨hC, hr, hB1, hB2, by omega⟩
    omega
  · try simp at hc
    have hkn : k = l.length := by omega
    refine EW.exit (brk_here ?_)
    refine EW.seq ?_
    refine EW.reg ?_
    refine EP.o rfl (Does.loadA ag70 rfl (Keeps.now _) (by assumption) (by simp only [List.take, List.drop, List.append, List.cons_append, List.nil_append]; rfl) rfl) ?_
    refine EP.put2 (Puts.blk sz70 rfl rfl (by assumption) rfl rfl rfl rfl (by simp only [List.take, List.drop, List.append, List.cons_append, List.nil_append]; rfl)) ?_
    intro w5 hs5 hx5 hB5
    have hz5 := hx5.size
    replace hC := hC.step hx5 (by simp; omega)
    replace hr := hr.chg hx5 (by intro b hb hFb; have := hF _ hFb; simp at hb; omega)
    replace hB2 := hB2.chg hx5 (by simp; omega)
    clear hB1; have hB1 := hB5; clear hB5
    refine EP.nil ?_
    refine EW.ret ?_
    refine Fin.cell rfl rfl (Blk.loadV ag70 (by assumption) (by simp only [List.take, List.drop, List.append, List.cons_append, List.nil_append]; rfl) rfl) ?_
    subst hkn
    rw [List.take_length]
    exact ⟨rfl, hC⟩
theorem range_c (lo hi : Nat) (hlo : lo < 256) (hhi : hi < 256) (w : World) : Calls P 222 #[.int .u8 (lo : Int), .int .u8 (hi : Int)] w (Ret fun v w' => v = .agg (setCells (ofBytes (List.range' lo (hi + 1 - lo)))).toArray ∧ Chg [] w w') := by
  have hC := Chg.refl [] w
  refine enter Tryz.func222 rfl rfl ?_
  refine EW.seq ?_
  refine EW.reg ?_
  refine EP.new2 rfl (News.alloc zr70 rfl) ?_
  intro b1 w1 hb1 hs1 hx1 hB1
  have hz1 := hx1.size
  replace hC := hC.step0 hx1
  refine EP.nil ?_
  refine EW.seq ?_
  refine EW.reg ?_
  refine EP.new2 rfl (News.alloc zr70 rfl) ?_
  intro b2 w2 hb2 hs2 hx2 hB2
  have hz2 := hx2.size
  replace hC := hC.step0 hx2
  replace hB1 := hB1.chg0 hx2
  refine EP.nil ?_
  refine EW.seq ?_
  refine EW.seq ?_
  refine EW.reg ?_
  refine EP.o rfl (Does.move rfl) ?_
  refine EP.o rfl (Does.convw kn5 Tryz.underlying3 rfl (by exact wrap_i64 (by omega))) ?_
  refine EP.o rfl (Does.assign rfl) ?_
  refine EP.nil ?_
  refine EW.block ?_
  refine EW.loop (σ := Nat) (fun k => [(1, .int .u8 (hi : Int)), (4, .pointer (some ⟨b1, 0, none⟩)), (5, .pointer (some ⟨b2, 0, none⟩)), (6, .int .i64 ((lo + k : Nat) : Int))]) (fun k wr => Chg [] w wr ∧ Blk wr b1 (setCells 0) 70 ∧ Blk wr b2 (setCells (ofBytes (List.range' lo k))) 70 ∧ k ≤ hi + 1 - lo) (fun k wr => 300 - k) 0 ⟨rfl, rfl, rfl, rfl, trivial⟩ ?_ ?_
  · rw [← setCells_zero] at hB1 hB2
    exact ⟨hC, hB1, hB2, by omega⟩
  rintro k w9 ⟨hC, hB1, hB2, hk⟩
  refine EW.seq ?_
  refine EW.seq ?_
  refine EW.reg ?_
  refine EP.o rfl (Does.move rfl) ?_
  refine EP.o rfl (Does.move rfl) ?_
  refine EP.o rfl (Does.convw kn5 Tryz.underlying3 rfl (by exact wrap_i64 (by omega))) ?_
  refine EP.o rfl (Does.cmp rfl rfl rfl) ?_
  refine EP.nil ?_
  refine EW.cond rfl (fun hc => ?_) (fun hc => ?_)
  · try simp at hc
    refine EW.skip ?_
    refine EW.seq ?_
    refine EW.block ?_
    refine EW.reg ?_
    refine EP.o rfl (Does.loadA ag70 rfl (Keeps.now _) (by assumption) (by simp only [List.take, List.drop, List.append, List.cons_append, List.nil_append]; rfl) rfl) ?_
    refine EP.o rfl (Does.move rfl) ?_
    refine EP.o rfl (Does.convw kn3 Tryz.underlying5 rfl (by exact wrap_u8 (by omega))) ?_
    refine EP.call2 rfl (Enters.fn fb164 rfl) (put_c _ (lo + k) (by omega) _) ?_
    rintro _ w3 ⟨rfl, hx3⟩
    have hz3 := hx3.size
    replace hC := hC.step0 hx3
    replace hB1 := hB1.chg0 hx3
    replace hB2 := hB2.chg0 hx3
    refine EP.put2 (Puts.blk (cs' := setCells (ofBytes (List.range' lo (k + 1)))) sz70 rfl rfl hB2 rfl rfl rfl rfl (by rw [ofBytes_concat]; rfl)) ?_
    intro w4 hs4 hx4 hB4
    have hz4 := hx4.size
    replace hC := hC.step hx4 (by simp; omega)
    replace hB1 := hB1.chg hx4 (by simp; omega)
    clear hB2; have hB2 := hB4; clear hB4
    refine EP.nil ?_
    refine EW.reg ?_
    refine EP.o rfl (Does.move rfl) ?_
    refine EP.o rfl (Does.addi rfl rfl (by omega)) ?_
    refine EP.o rfl (Does.assign rfl) ?_
    refine EP.nil ?_
    refine ⟨k + 1, ⟨rfl, rfl, rfl, rfl, trivial⟩, ?_, ?_⟩
    exact ⟨hC, hB1, hB2, by omega⟩
    omega
  · try simp at hc
    refine EW.exit (brk_here ?_)
    refine EW.seq ?_
    refine EW.reg ?_
    refine EP.o rfl (Does.loadA ag70 rfl (Keeps.now _) (by assumption) (by simp only [List.take, List.drop, List.append, List.cons_append, List.nil_append]; rfl) rfl) ?_
    refine EP.put2 (Puts.blk sz70 rfl rfl (by assumption) rfl rfl rfl rfl (by simp only [List.take, List.drop, List.append, List.cons_append, List.nil_append]; rfl)) ?_
    intro w5 hs5 hx5 hB5
    have hz5 := hx5.size
    replace hC := hC.step hx5 (by simp; omega)
    replace hB2 := hB2.chg hx5 (by simp; omega)
    clear hB1; have hB1 := hB5; clear hB5
    refine EP.nil ?_
    refine EW.ret ?_
    refine Fin.cell rfl rfl (Blk.loadV ag70 (by assumption) (by simp only [List.take, List.drop, List.append, List.cons_append, List.nil_append]; rfl) rfl) ?_
    have : k = hi + 1 - lo := by omega
    subst this
    exact ⟨rfl, hC⟩
theorem not_c (s : Nat) (hs : SetOk s) (w : World) : Calls P 178 #[.agg (setCells s).toArray] w (Ret fun v w' => v = .agg (setCells (setNot s)).toArray ∧ Chg [] w w') := by
  have hC := Chg.refl [] w
  refine enter Tryz.func178 rfl rfl ?_
  refine EW.seq ?_
  refine EW.reg ?_
  refine EP.new2 rfl (News.box rfl rfl) ?_
  intro b1 w1 hb1 hs1 hx1 hB1
  have hz1 := hx1.size
  replace hC := hC.step0 hx1
  refine EP.new2 rfl (News.alloc zr70 rfl) ?_
  intro b2 w2 hb2 hs2 hx2 hB2
  have hz2 := hx2.size
  replace hC := hC.step0 hx2
  replace hB1 := hB1.chg0 hx2
  refine EP.nil ?_
  refine EW.seq ?_
  refine EW.seq ?_
  refine EW.reg ?_
  refine EP.o rfl (Does.move rfl) ?_
  refine EP.nil ?_
  refine EW.block ?_
  refine EW.loop (σ := Nat) (fun k => [(1, .pointer (some ⟨b1, 0, none⟩)), (2, .pointer (some ⟨b2, 0, none⟩)), (4, .int .i64 k)]) (fun k wr => Chg [] w wr ∧ Blk wr b1 (mixCells (setNot s) s k) 70 ∧ Blk wr b2 (setCells 0) 70 ∧ k ≤ 4) (fun k wr => 4 - k) 0 ⟨rfl, rfl, rfl, trivial⟩ ?_ ?_
  · rw [← setCells_zero] at hB2
    exact ⟨hC, by rw [mix_start]; exact hB1, hB2, by omega⟩
  rintro k w9 ⟨hC, hB1, hB2, hk⟩
  refine EW.seq ?_
  refine EW.reg ?_
  refine EP.o rfl (Does.cmp rfl rfl rfl) ?_
  refine EP.nil ?_
  refine EW.seq ?_
  refine EW.cond rfl (fun hc => ?_) (fun hc => ?_)
  · try simp at hc
    refine EW.skip ?_
    refine EW.seq ?_
    refine EW.block ?_
    refine EW.seq ?_
    refine EW.reg ?_
    refine EP.o rfl (Does.move rfl) ?_
    refine EP.o rfl (Does.assign rfl) ?_
    refine EP.nil ?_
    refine EW.reg ?_
    refine EP.o rfl (Does.move rfl) ?_
    refine EP.o rfl (Does.move rfl) ?_
    refine EP.o rfl (Does.indexAddrA1 ar70 rfl rfl (by omega) (by omega)) ?_
    refine EP.o rfl (Does.load1 o68 rfl (Keeps.now _) (cell_mix hB1 (by omega))) ?_
    have hnot : Value.int .u64 (bitv .xor .u64 (if IntKind.u64.signed then -1 else IntKind.u64.max) (wd s k)) = .int .u64 (wd (setNot s) k) := vint (wd_not hs k (by omega))
    refine EP.o rfl (Does.cpl rfl) ?_
    refine EP.o rfl (Does.indexAddrA1 ar70 rfl rfl (by omega) (by omega)) ?_
    refine EP.put2 (Puts.blk (cs' := mixCells (setNot s) s (k + 1)) sz68 rfl rfl hB1 rfl rfl rfl (by rw [Nat.ble_eq, mix_length _ _ _ (by omega)]; show 0 + k + 1 ≤ 4; omega) (by rw [← mix_step _ _ _ (by omega)]; exact congrArg (fun x => (mixCells (setNot s) s k).take (0 + k) ++ [x] ++ (mixCells (setNot s) s k).drop (0 + k + 1)) hnot)) ?_
    intro w3 hs3 hx3 hB3
    have hz3 := hx3.size
    replace hC := hC.step hx3 (by simp; omega)
    replace hB2 := hB2.chg hx3 (by simp; omega)
    clear hB1; have hB1 := hB3; clear hB3
    refine EP.nil ?_
    refine EW.reg ?_
    refine EP.o rfl (Does.addi rfl rfl (by omega)) ?_
    refine EP.o rfl (Does.move rfl) ?_
    refine EP.nil ?_
    refine ⟨k + 1, ⟨rfl, rfl, rfl, trivial⟩, ?_, ?_⟩
    exact ⟨hC, hB1, hB2, by omega⟩
    omega
  · try simp at hc
    have hk4 : k = 4 := by omega
    subst hk4
    rw [mix_end] at hB1
    refine EW.exit (brk_here ?_)
    refine EW.seq ?_
    refine EW.reg ?_
    refine EP.o rfl (Does.loadA ag70 rfl (Keeps.now _) (by assumption) (by simp only [List.take, List.drop, List.append, List.cons_append, List.nil_append]; rfl) rfl) ?_
    refine EP.put2 (Puts.blk sz70 rfl rfl (by assumption) rfl rfl rfl rfl (by simp only [List.take, List.drop, List.append, List.cons_append, List.nil_append]; rfl)) ?_
    intro w4 hs4 hx4 hB4
    have hz4 := hx4.size
    replace hC := hC.step hx4 (by simp; omega)
    replace hB1 := hB1.chg hx4 (by simp; omega)
    clear hB2; have hB2 := hB4; clear hB4
    refine EP.nil ?_
    refine EW.ret ?_
    refine Fin.cell rfl rfl (Blk.loadV ag70 (by assumption) (by simp only [List.take, List.drop, List.append, List.cons_append, List.nil_append]; rfl) rfl) ?_
    exact ⟨rfl, hC⟩
theorem all_c (w : World) : Calls P 156 #[] w (Ret fun v w' => v = .agg (setCells (setNot 0)).toArray ∧ Chg [] w w') := by
  have hC := Chg.refl [] w
  refine enter Tryz.func156 rfl rfl ?_
  refine EW.seq ?_
  refine EW.reg ?_
  refine EP.new2 rfl (News.alloc zr70 rfl) ?_
  intro b1 w1 hb1 hs1 hx1 hB1
  have hz1 := hx1.size
  replace hC := hC.step0 hx1
  refine EP.nil ?_
  refine EW.seq ?_
  refine EW.reg ?_
  refine EP.o rfl (Does.buildA zr70 ar70 rfl (by rfl)) ?_
  refine EP.call2 rfl (Enters.fn fb178 rfl) ((show Calls P 178 #[.agg (setCells 0).toArray] _ _ from not_c 0 zero_ok _)) ?_
  rintro _ w2 ⟨rfl, hx2⟩
  have hz2 := hx2.size
  replace hC := hC.step0 hx2
  replace hB1 := hB1.chg0 hx2
  refine EP.put2 (Puts.blk sz70 rfl rfl (by assumption) rfl rfl rfl rfl (by simp only [List.take, List.drop, List.append, List.cons_append, List.nil_append]; rfl)) ?_
  intro w3 hs3 hx3 hB3
  have hz3 := hx3.size
  replace hC := hC.step hx3 (by simp; omega)
  clear hB1; have hB1 := hB3; clear hB3
  refine EP.nil ?_
  refine EW.ret ?_
  refine Fin.cell rfl rfl (Blk.loadV ag70 (by assumption) (by simp only [List.take, List.drop, List.append, List.cons_append, List.nil_append]; rfl) rfl) ?_
  exact ⟨rfl, hC⟩
theorem or1_c (s t i : Nat) (w : World) : Calls P 163 #[.int .u64 (wd s i), .int .u64 (wd t i)] w (Ret fun v w' => v = .int .u64 (wd (s ||| t) i) ∧ w' = w) := by
  refine enter Tryz.func163 rfl rfl ?_
  refine EW.seq ?_
  refine EW.reg ?_
  refine EP.o rfl (Does.assign rfl) ?_
  refine EP.nil ?_
  refine EW.seq ?_
  refine EW.reg ?_
  refine EP.o rfl (Does.move rfl) ?_
  refine EP.o rfl (Does.move rfl) ?_
  refine EP.o rfl (Does.bits rfl rfl rfl) ?_
  refine EP.o rfl (Does.assign rfl) ?_
  refine EP.nil ?_
  refine EW.ret ?_
  refine Fin.one rfl rfl ?_
  exact ⟨vint (wd_or s t i), rfl⟩
theorem each_or_c (s t : Nat) (w : World) : Calls P 162 #[.agg (setCells s).toArray, .agg (setCells t).toArray, .func (.func 163) #[] #[]] w (Ret fun v w' => v = .agg (setCells (s ||| t)).toArray ∧ Chg [] w w') := by
  have hC := Chg.refl [] w
  refine enter Tryz.func162 rfl rfl ?_
  refine EW.seq ?_
  refine EW.reg ?_
  refine EP.new2 rfl (News.box rfl rfl) ?_
  intro b1 w1 hb1 hs1 hx1 hB1
  have hz1 := hx1.size
  replace hC := hC.step0 hx1
  refine EP.new2 rfl (News.box rfl rfl) ?_
  intro b2 w2 hb2 hs2 hx2 hB2
  have hz2 := hx2.size
  replace hC := hC.step0 hx2
  replace hB1 := hB1.chg0 hx2
  refine EP.new2 rfl (News.alloc zr70 rfl) ?_
  intro b3 w3 hb3 hs3 hx3 hB3
  have hz3 := hx3.size
  replace hC := hC.step0 hx3
  replace hB1 := hB1.chg0 hx3
  replace hB2 := hB2.chg0 hx3
  refine EP.nil ?_
  refine EW.seq ?_
  refine EW.seq ?_
  refine EW.reg ?_
  refine EP.o rfl (Does.move rfl) ?_
  refine EP.nil ?_
  refine EW.block ?_
  refine EW.loop (σ := Nat) (fun k => [(2, .func (.func 163) #[] #[]), (3, .pointer (some ⟨b1, 0, none⟩)), (4, .pointer (some ⟨b2, 0, none⟩)), (6, .pointer (some ⟨b3, 0, none⟩)), (8, .int .i64 k)]) (fun k wr => Chg [] w wr ∧ Blk wr b1 (mixCells (s ||| t) s k) 70 ∧ Blk wr b2 (setCells t) 70 ∧ Blk wr b3 (setCells 0) 70 ∧ k ≤ 4) (fun k wr => 4 - k) 0 ⟨rfl, rfl, rfl, rfl, rfl, trivial⟩ ?_ ?_
  · rw [← setCells_zero] at hB3
    exact ⟨hC, by rw [mix_start]; exact hB1, hB2, hB3, by omega⟩
  rintro k w9 ⟨hC, hB1, hB2, hB3, hk⟩
  refine EW.seq ?_
  refine EW.reg ?_
  refine EP.o rfl (Does.cmp rfl rfl rfl) ?_
  refine EP.nil ?_
  refine EW.seq ?_
  refine EW.cond rfl (fun hc => ?_) (fun hc => ?_)
  · try simp at hc
    refine EW.skip ?_
    refine EW.seq ?_
    refine EW.block ?_
    refine EW.seq ?_
    refine EW.reg ?_
    refine EP.o rfl (Does.move rfl) ?_
    refine EP.o rfl (Does.assign rfl) ?_
    refine EP.nil ?_
    refine EW.drw' (S := []) 9 [(0, 0), (0, 1), (0, 2), (0, 3), (0, 4), (0, 5), (0, 6), (0, 7), (1, 8), (2, 9), (2, 10)] mo (by kernel_rfl) ?_
    intro w4 hx4 hh4
    have hz4 := hx4.size
    replace hC := hC.step0 hx4
    replace hB1 := hB1.chg0 hx4
    replace hB2 := hB2.chg0 hx4
    replace hB3 := hB3.chg0 hx4
    have hCS4 := Chg.refl ([]) w4
    refine EP.f rfl (Does.move rfl) ?_
    refine EP.f rfl (Does.move rfl) ?_
    refine EP.f rfl (Does.move rfl) ?_
    refine EP.f rfl (Does.indexAddrA1 ar70 rfl rfl (by omega) (by omega)) ?_
    refine EP.f rfl (Does.load1c o68 rfl (cell_mix hB1 (by omega)) (by first | (simp; done) | (simp; omega))) ?_
    refine EP.f rfl (Does.move rfl) ?_
    refine EP.f rfl (Does.indexAddrA1 ar70 rfl rfl (by omega) (by omega)) ?_
    refine EP.f rfl (Does.load1c o68 rfl (cell_set hB2 (by omega)) (by first | (simp; done) | (simp; omega))) ?_
    refine EP.call1 rfl (Enters.clo rfl fb163 rfl) (or1_c s t k _) ?_
    rintro _ _ ⟨rfl, rfl⟩
    refine ⟨hCS4, ?_⟩
    refine EP.o rfl (Does.indexAddrA1 ar70 rfl rfl (by omega) (by omega)) ?_
    refine EP.put2 (Puts.blk (cs' := mixCells (s ||| t) s (k + 1)) sz68 rfl rfl hB1 rfl rfl rfl (by rw [Nat.ble_eq, mix_length _ _ _ (by omega)]; show 0 + k + 1 ≤ 4; omega) (mix_step _ _ _ (by omega))) ?_
    intro w6 hs6 hx6 hB6
    have hz6 := hx6.size
    replace hC := hC.step hx6 (by simp; omega)
    replace hB2 := hB2.chg hx6 (by simp; omega)
    replace hB3 := hB3.chg hx6 (by simp; omega)
    clear hB1; have hB1 := hB6; clear hB6
    refine EP.nil ?_
    refine EW.reg ?_
    refine EP.o rfl (Does.addi rfl rfl (by omega)) ?_
    refine EP.o rfl (Does.move rfl) ?_
    refine EP.nil ?_
    refine ⟨k + 1, ⟨rfl, rfl, rfl, rfl, rfl, trivial⟩, ?_, ?_⟩
    exact ⟨hC, hB1, hB2, hB3, by omega⟩
    omega
  · try simp at hc
    have hk4 : k = 4 := by omega
    subst hk4
    rw [mix_end] at hB1
    refine EW.exit (brk_here ?_)
    refine EW.seq ?_
    refine EW.reg ?_
    refine EP.o rfl (Does.loadA ag70 rfl (Keeps.now _) (by assumption) (by simp only [List.take, List.drop, List.append, List.cons_append, List.nil_append]; rfl) rfl) ?_
    refine EP.put2 (Puts.blk sz70 rfl rfl (by assumption) rfl rfl rfl rfl (by simp only [List.take, List.drop, List.append, List.cons_append, List.nil_append]; rfl)) ?_
    intro w7 hs7 hx7 hB7
    have hz7 := hx7.size
    replace hC := hC.step hx7 (by simp; omega)
    replace hB1 := hB1.chg hx7 (by simp; omega)
    replace hB2 := hB2.chg hx7 (by simp; omega)
    clear hB3; have hB3 := hB7; clear hB7
    refine EP.nil ?_
    refine EW.ret ?_
    refine Fin.cell rfl rfl (Blk.loadV ag70 (by assumption) (by simp only [List.take, List.drop, List.append, List.cons_append, List.nil_append]; rfl) rfl) ?_
    exact ⟨rfl, hC⟩
theorem union_c (F : Nat → Prop) (l : List Nat) (A : Option Addr) (n c : Nat) (hn : n < 9223372036854775807) (w : World) (hr : Rd F w 4 A n (setsCells l)) (hF : ∀ b, F b → b < w.heap.size) : Calls P 138 #[.slice A n c] w (Ret fun v w' => v = .agg (setCells (unions l)).toArray ∧ Chg [] w w') := by
  have hlen : l.length = n := by have := hr.len; rw [setsCells_length] at this; omega
  have hC := Chg.refl [] w
  refine enter Tryz.func138 rfl rfl ?_
  refine EW.seq ?_
  refine EW.reg ?_
  refine EP.new2 rfl (News.alloc zr70 rfl) ?_
  intro b1 w1 hb1 hs1 hx1 hB1
  have hz1 := hx1.size
  replace hC := hC.step0 hx1
  replace hr := hr.chg0 hx1
  refine EP.nil ?_
  refine EW.seq ?_
  refine EW.reg ?_
  refine EP.new2 rfl (News.alloc zr70 rfl) ?_
  intro b2 w2 hb2 hs2 hx2 hB2
  have hz2 := hx2.size
  replace hC := hC.step0 hx2
  replace hr := hr.chg0 hx2
  replace hB1 := hB1.chg0 hx2
  refine EP.nil ?_
  refine EW.seq ?_
  refine EW.seq ?_
  refine EW.reg ?_
  refine EP.o rfl (Does.move rfl) ?_
  refine EP.o rfl (Does.lenL Tryz.underlying23 rfl) ?_
  refine EP.o rfl (Does.move rfl) ?_
  refine EP.nil ?_
  refine EW.block ?_
  refine EW.loop (σ := Nat) (fun k => [(2, .pointer (some ⟨b1, 0, none⟩)), (3, .pointer (some ⟨b2, 0, none⟩)), (6, .slice A n c), (7, .int .i64 n), (8, .int .i64 k)]) (fun k wr => Chg [] w wr ∧ Rd F wr 4 A n (setsCells l) ∧ Blk wr b1 (setCells 0) 70 ∧ Blk wr b2 (setCells (unions (l.take k))) 70 ∧ b2 < wr.heap.size ∧ k ≤ n) (fun k wr => n - k) 0 ⟨rfl, rfl, rfl, rfl, rfl, trivial⟩ ?_ ?_
  · rw [← setCells_zero] at hB1 hB2
    exact ⟨hC, hr, hB1, hB2, hB2.lt, by omega⟩
  rintro k w9 ⟨hC, hr, hB1, hB2, hb2l, hk⟩
  refine EW.seq ?_
  refine EW.reg ?_
  refine EP.o rfl (Does.cmp rfl rfl rfl) ?_
  refine EP.nil ?_
  refine EW.seq ?_
  refine EW.cond rfl (fun hc => ?_) (fun hc => ?_)
  · try simp at hc
    obtain ⟨g, off, rfl, hFg, hlt, hcell⟩ := hr.at_ (by omega)
    refine EW.skip ?_
    refine EW.seq ?_
    refine EW.block ?_
    refine EW.seq ?_
    refine EW.reg ?_
    refine EP.o rfl (Does.indexAddr sl23 rfl rfl (by omega) (by omega)) ?_
    refine EP.o rfl (Does.loadCs (vs := setCells (l.getD k 0)) ag70 rfl (Keeps.now _) (fun j v hj => by rw [Nat.add_assoc]; exact hcell (k * 4 + j) v (by have hj4 : j < 4 := (List.getElem?_eq_some_iff.1 hj).1; rw [setsCells_get l k j (by omega) hj4]; exact hj)) rfl) ?_
    refine EP.new2 rfl (News.alloc zr70 rfl) ?_
    intro b3 w3 hb3 hs3 hx3 hB3
    have hz3 := hx3.size
    replace hC := hC.step0 hx3
    replace hr := hr.chg0 hx3
    replace hB1 := hB1.chg0 hx3
    replace hB2 := hB2.chg0 hx3
    refine EP.put2 (Puts.blk sz70 rfl rfl (by assumption) rfl rfl rfl rfl (by simp only [List.take, List.drop, List.append, List.cons_append, List.nil_append]; rfl)) ?_
    intro w4 hs4 hx4 hB4
    have hz4 := hx4.size
    replace hC := hC.step hx4 (by simp; omega)
    replace hr := hr.chg hx4 (by intro b hb hFb; have := hF _ hFb; simp at hb; omega)
    replace hB1 := hB1.chg hx4 (by simp; omega)
    replace hB2 := hB2.chg hx4 (by simp; omega)
    clear hB3; have hB3 := hB4; clear hB4
    refine EP.nil ?_
    refine EW.reg ?_
    refine EP.o rfl (Does.loadA ag70 rfl (Keeps.now _) (by assumption) (by simp only [List.take, List.drop, List.append, List.cons_append, List.nil_append]; rfl) rfl) ?_
    refine EP.o rfl (Does.loadA ag70 rfl (Keeps.now _) (by assumption) (by simp only [List.take, List.drop, List.append, List.cons_append, List.nil_append]; rfl) rfl) ?_
    refine EP.call2 rfl (Enters.fn fb162 rfl) (each_or_c _ _ _) ?_
    rintro _ w5 ⟨rfl, hx5⟩
    have hz5 := hx5.size
    replace hC := hC.step0 hx5
    replace hr := hr.chg0 hx5
    replace hB1 := hB1.chg0 hx5
    replace hB2 := hB2.chg0 hx5
    replace hB3 := hB3.chg0 hx5
    refine EP.put2 (Puts.blk (cs' := setCells (unions (l.take (k + 1)))) sz70 rfl rfl hB2 rfl rfl rfl rfl (by unfold unions; rw [foldl_take _ _ _ 0 _ (by omega)]; rfl)) ?_
    intro w6 hs6 hx6 hB6
    have hz6 := hx6.size
    replace hC := hC.step hx6 (by simp; omega)
    replace hr := hr.chg hx6 (by intro b hb hFb; have := hF _ hFb; simp at hb; omega)
    replace hB1 := hB1.chg hx6 (by simp; omega)
    replace hB3 := hB3.chg hx6 (by simp; omega)
    clear hB2; have hB2 := hB6; clear hB6
    refine EP.nil ?_
    refine EW.reg ?_
    refine EP.o rfl (Does.addi rfl rfl (by omega)) ?_
    refine EP.o rfl (Does.move rfl) ?_
    refine EP.nil ?_
    refine ⟨k + 1, ⟨rfl, rfl, rfl, rfl, rfl, trivial⟩, ?_, ?_⟩
    exact ⟨hC, hr, hB1, hB2, by omega, by omega⟩
    omega
  · try simp at hc
    have hkn : k = l.length := by omega
    refine EW.exit (brk_here ?_)
    refine EW.seq ?_
    refine EW.reg ?_
    refine EP.o rfl (Does.loadA ag70 rfl (Keeps.now _) (by assumption) (by simp only [List.take, List.drop, List.append, List.cons_append, List.nil_append]; rfl) rfl) ?_
    refine EP.put2 (Puts.blk sz70 rfl rfl (by assumption) rfl rfl rfl rfl (by simp only [List.take, List.drop, List.append, List.cons_append, List.nil_append]; rfl)) ?_
    intro w7 hs7 hx7 hB7
    have hz7 := hx7.size
    replace hC := hC.step hx7 (by simp; omega)
    replace hr := hr.chg hx7 (by intro b hb hFb; have := hF _ hFb; simp at hb; omega)
    replace hB2 := hB2.chg hx7 (by simp; omega)
    clear hB1; have hB1 := hB7; clear hB7
    refine EP.nil ?_
    refine EW.ret ?_
    refine Fin.cell rfl rfl (Blk.loadV ag70 (by assumption) (by simp only [List.take, List.drop, List.append, List.cons_append, List.nil_append]; rfl) rfl) ?_
    subst hkn
    rw [List.take_length]
    exact ⟨rfl, hC⟩
theorem count_c_ (s : Nat) (w : World) (pc : Nat → Nat) (hpc : ∀ i, i < 4 → ∀ w, Calls P 113 #[.int .u64 (wd s i)] w (Ret fun v w' => v = .int .i64 (pc i : Nat) ∧ w' = w)) (hb : ∀ i, i < 4 → pc i ≤ 64) : Calls P 83 #[.agg (setCells s).toArray] w (Ret fun v w' => v = .int .i64 ((pc 0 + pc 1 + pc 2 + pc 3 : Nat) : Int) ∧ Chg [] w w') := by
  have hC := Chg.refl [] w
  refine enter Tryz.func83 rfl rfl ?_
  refine EW.seq ?_
  refine EW.reg ?_
  refine EP.new2 rfl (News.box rfl rfl) ?_
  intro b1 w1 hb1 hs1 hx1 hB1
  have hz1 := hx1.size
  replace hC := hC.step0 hx1
  refine EP.o rfl (Does.assign rfl) ?_
  refine EP.nil ?_
  refine EW.seq ?_
  refine EW.reg ?_
  refine EP.o rfl (Does.assign rfl) ?_
  refine EP.nil ?_
  refine EW.seq ?_
  refine EW.seq ?_
  refine EW.reg ?_
  refine EP.o rfl (Does.loadA ag70 rfl (Keeps.now _) (by assumption) (by simp only [List.take, List.drop, List.append, List.cons_append, List.nil_append]; rfl) rfl) ?_
  refine EP.o rfl (Does.move rfl) ?_
  refine EP.nil ?_
  refine EW.block ?_
  refine EW.loop (σ := Nat) (fun k => [(1, .pointer (some ⟨b1, 0, none⟩)), (3, .int .i64 ((((List.range k).map pc).sum : Nat) : Int)), (6, .agg (setCells s).toArray), (7, .int .i64 k)]) (fun k wr => Chg [] w wr ∧ k ≤ 4 ∧ ((List.range k).map pc).sum ≤ 64 * k) (fun k wr => 4 - k) 0 ⟨rfl, rfl, rfl, rfl, trivial⟩ ?_ ?_
  · exact ⟨hC, by omega, by simp⟩
  rintro k w9 ⟨hC, hk, hsum⟩
  refine EW.seq ?_
  refine EW.reg ?_
  refine EP.o rfl (Does.cmp rfl rfl rfl) ?_
  refine EP.nil ?_
  refine EW.seq ?_
  refine EW.cond rfl (fun hc => ?_) (fun hc => ?_)
  · try simp at hc
    have hbk := hb k (by omega)
    refine EW.skip ?_
    refine EW.seq ?_
    refine EW.block ?_
    refine EW.seq ?_
    refine EW.reg ?_
    refine EP.o rfl (Does.indexV ar70 (by kernel_rfl) rfl rfl (by omega) (by omega) (setCells_get s k (by omega))) ?_
    refine EP.o rfl (Does.assign rfl) ?_
    refine EP.nil ?_
    refine EW.reg ?_
    refine EP.o rfl (Does.move rfl) ?_
    refine EP.o rfl (Does.move rfl) ?_
    refine EP.call2 rfl (Enters.fn fb113 rfl) (hpc k (by omega) _) ?_
    rintro _ _ ⟨rfl, rfl⟩
    refine EP.o rfl (Does.addi rfl rfl (by omega)) ?_
    refine EP.o rfl (Does.assign rfl) ?_
    refine EP.nil ?_
    refine EW.reg ?_
    refine EP.o rfl (Does.addi rfl rfl (by omega)) ?_
    refine EP.o rfl (Does.move rfl) ?_
    refine EP.nil ?_
    refine ⟨k + 1, ⟨rfl, (lk_int rfl (by rw [List.range_succ, List.map_append, List.sum_append]; simp)), rfl, rfl, trivial⟩, ?_, ?_⟩
    exact ⟨hC, by omega, by rw [List.range_succ, List.map_append, List.sum_append]; simp; omega⟩
    omega
  · try simp at hc
    refine EW.exit (brk_here ?_)
    refine EW.seq ?_
    refine EW.reg ?_
    refine EP.o rfl (Does.move rfl) ?_
    refine EP.o rfl (Does.assign rfl) ?_
    refine EP.nil ?_
    refine EW.ret ?_
    refine Fin.one rfl rfl ?_
    have : k = 4 := by omega
    subst this
    exact ⟨vint (by simp [List.range_succ]; omega), hC⟩
end Go.Clt
end
section
set_option linter.unusedVariables false
set_option linter.unusedSimpArgs false
set_option maxRecDepth 4000
namespace Go.Clt
open Go Go.RowKit Go.Proofs
def strL (s : ByteArray) : List Nat := s.data.toList.map UInt8.toNat
theorem strL_length (s : ByteArray) : (strL s).length = s.size := by simp [strL]
theorem strL_get (s : ByteArray) (k : Nat) (h : k < s.size) : ∃ b : UInt8, s.data.toList[k]? = some b ∧ (strL s).getD k 0 = b.toNat := by
  have hk : k < s.data.toList.length := by simpa using h
  refine ⟨s.data.toList[k], List.getElem?_eq_getElem hk, ?_⟩
  simp [strL, List.getD_eq_getElem?_getD, List.getElem?_eq_getElem hk]
theorem peekC_lt (s : ByteArray) (p : Ps) : peekC (strL s) p < 256 := by
  unfold peekC
  rcases Nat.lt_or_ge p.i s.size with h | h
  · obtain ⟨b, _, hb⟩ := strL_get s p.i h
    rw [hb]; exact b.toNat_lt
  · rw [List.getD_eq_getElem?_getD, List.getElem?_eq_none (by rw [strL_length]; exact h)]; decide
abbrev rdC (s : ByteArray) (p : Ps) (sl : Value) : List Value := [.string s, .int .i64 (p.i : Int), .int .i64 p.e, sl]
theorem peek_at (s : ByteArray) (p : Ps) (h : p.i < s.size) : ∃ u : UInt8, s.data.toList[p.i]? = some u ∧ (u.toNat : Int) = peekC (strL s) p := by
  obtain ⟨u, h1, h2⟩ := strL_get s p.i h
  exact ⟨u, h1, by unfold peekC; rw [h2]⟩
theorem peek_out (s : ByteArray) (p : Ps) (h : s.size ≤ p.i) : peekC (strL s) p = 0 := by
  unfold peekC; rw [List.getD_eq_getElem?_getD, List.getElem?_eq_none (by rw [strL_length]; exact h)]; rfl
theorem peek_c (s : ByteArray) (p : Ps) (sl : Value) (b : Nat) (w : World) (hR : Blk w b (rdC s p sl) 239) : Calls P 202 #[.pointer (some ⟨b, 0, none⟩)] w (Ret fun v w' => v = .tuple #[.int .u8 (peekC (strL s) p : Nat), .bool (decide (p.i < s.size))] ∧ Chg [] w w') := by
  have hC := Chg.refl [] w
  refine enter Tryz.func202 rfl rfl ?_
  refine EW.seq ?_
  refine EW.reg ?_
  refine EP.o rfl (Does.assign rfl) ?_
  refine EP.o rfl (Does.assign rfl) ?_
  refine EP.nil ?_
  refine EW.seq ?_
  refine EW.seq ?_
  refine EW.drw' (S := []) 9 [(0, 0), (0, 1), (0, 2), (0, 3), (0, 4), (0, 5), (0, 6), (0, 7), (0, 8), (2, 9)] mo (by kernel_rfl) ?_
  intro w1 hx1 hh1
  have hz1 := hx1.size
  replace hC := hC.step0 hx1
  replace hR := hR.chg0 hx1
  refine EP.f rfl (Does.move rfl) ?_
  refine EP.f rfl (Does.nilCheck rfl) ?_
  refine EP.f rfl (Does.fieldAddr fl237_1 rfl) ?_
  refine EP.f rfl (Does.loadBc o3 rfl (by assumption) (by first | (simp; done) | (simp; omega)) (by rfl)) ?_
  refine EP.f rfl (Does.move rfl) ?_
  refine EP.f rfl (Does.nilCheck rfl) ?_
  refine EP.f rfl (Does.fieldAddr fl237_0 rfl) ?_
  refine EP.f rfl (Does.loadBc o9 rfl (by assumption) (by first | (simp; done) | (simp; omega)) (by rfl)) ?_
  refine EP.f rfl (Does.lenS Tryz.underlying9 rfl) ?_
  refine EP.o rfl (Does.cmp rfl rfl rfl) ?_
  refine EP.nil ?_
  refine EW.cond rfl (fun hc => ?_) (fun hc => ?_)
  · try simp at hc
    refine EW.seq ?_
    refine EW.reg ?_
    refine EP.o rfl (Does.assign rfl) ?_
    refine EP.o rfl (Does.assign rfl) ?_
    refine EP.nil ?_
    refine EW.ret ?_
    refine Fin.two rfl rfl rfl ?_
    exact ⟨by rw [peek_out s p (by omega), decide_eq_false (by omega)]; rfl, hC⟩
  · try simp at hc
    obtain ⟨u, hu, hu2⟩ := peek_at s p (by omega)
    refine EW.skip ?_
    refine EW.seq ?_
    refine EW.drw' (S := []) 8 [(0, 0), (0, 1), (0, 2), (0, 3), (0, 4), (0, 5), (0, 6), (0, 7), (2, 8), (2, 9), (2, 10)] mo (by kernel_rfl) ?_
    intro w2 hx2 hh2
    have hz2 := hx2.size
    replace hC := hC.step0 hx2
    replace hR := hR.chg0 hx2
    refine EP.f rfl (Does.move rfl) ?_
    refine EP.f rfl (Does.nilCheck rfl) ?_
    refine EP.f rfl (Does.fieldAddr fl237_0 rfl) ?_
    refine EP.f rfl (Does.loadBc o9 rfl (by assumption) (by first | (simp; done) | (simp; omega)) (by rfl)) ?_
    refine EP.f rfl (Does.move rfl) ?_
    refine EP.f rfl (Does.nilCheck rfl) ?_
    refine EP.f rfl (Does.fieldAddr fl237_1 rfl) ?_
    refine EP.f rfl (Does.loadBc o3 rfl (by assumption) (by first | (simp; done) | (simp; omega)) (by rfl)) ?_
    refine EP.o rfl (Does.indexS Tryz.underlying9 rfl rfl (by omega) (by exact hu)) ?_
    refine EP.o rfl (Does.assign rfl) ?_
    refine EP.o rfl (Does.assign rfl) ?_
    refine EP.nil ?_
    refine EW.ret ?_
    refine Fin.two rfl rfl rfl ?_
    exact ⟨by rw [← hu2, decide_eq_true (by omega)], hC⟩
theorem fail_c (s : ByteArray) (p : Ps) (sl : Value) (b a : Nat) (e : Int) (w : World) (hR : Blk w b (rdC s p sl) 239) : Calls P 180 #[.pointer (some ⟨b, 0, none⟩), .int .i64 (a : Int), .int .i64 e] w (Ret fun v w' => v = .tuple #[] ∧ Chg [b] w w' ∧ Blk w' b (rdC s (p.fail a e) sl) 239) := by
  have hC := Chg.refl [b] w
  refine enter Tryz.func180 rfl rfl ?_
  refine EW.seq ?_
  refine EW.reg ?_
  refine EP.o rfl (Does.move rfl) ?_
  refine EP.o rfl (Does.nilCheck rfl) ?_
  refine EP.o rfl (Does.fieldAddr fl237_2 rfl) ?_
  refine EP.o rfl (Does.loadB o32 rfl (Keeps.now _) (by assumption) (by rfl)) ?_
  refine EP.o rfl (Does.cmp rfl rfl rfl) ?_
  refine EP.nil ?_
  refine EW.cond rfl (fun hc => ?_) (fun hc => ?_)
  · try simp at hc
    refine EW.reg ?_
    refine EP.o rfl (Does.move rfl) ?_
    refine EP.o rfl (Does.move rfl) ?_
    refine EP.o rfl (Does.move rfl) ?_
    refine EP.o rfl (Does.move rfl) ?_
    refine EP.o rfl (Does.nilCheck rfl) ?_
    refine EP.o rfl (Does.fieldAddr fl237_1 rfl) ?_
    refine EP.put2 (Puts.blk sz3 rfl rfl (by assumption) rfl rfl rfl rfl (by simp only [List.take, List.drop, List.append, List.cons_append, List.nil_append]; rfl)) ?_
    intro w1 hs1 hx1 hB1
    have hz1 := hx1.size
    replace hC := hC.step hx1 (by first | (simp; done) | (simp; omega))
    clear hR; have hR := hB1; clear hB1
    refine EP.o rfl (Does.nilCheck rfl) ?_
    refine EP.o rfl (Does.fieldAddr fl237_2 rfl) ?_
    refine EP.put2 (Puts.blk sz32 rfl rfl (by assumption) rfl rfl rfl rfl (by simp only [List.take, List.drop, List.append, List.cons_append, List.nil_append]; rfl)) ?_
    intro w2 hs2 hx2 hB2
    have hz2 := hx2.size
    replace hC := hC.step hx2 (by first | (simp; done) | (simp; omega))
    clear hR; have hR := hB2; clear hB2
    refine EP.nil ?_
    refine Fin.none rfl ?_
    exact ⟨rfl, hC, by unfold Ps.fail; rw [if_pos hc]; exact hR⟩
  · try simp at hc
    refine EW.skip ?_
    refine Fin.none rfl ?_
    exact ⟨rfl, hC, by unfold Ps.fail; rw [if_neg hc]; exact hR⟩
theorem bad_c (s : ByteArray) (p : Ps) (sl : Value) (b : Nat) (w : World) (hR : Blk w b (rdC s p sl) 239) : Calls P 148 #[.pointer (some ⟨b, 0, none⟩)] w (Ret fun v w' => v = .bool (decide (p.e ≠ 0)) ∧ w' = w) := by
  refine enter Tryz.func148 rfl rfl ?_
  refine EW.seq ?_
  refine EW.reg ?_
  refine EP.o rfl (Does.assign rfl) ?_
  refine EP.nil ?_
  refine EW.seq ?_
  refine EW.reg ?_
  refine EP.o rfl (Does.move rfl) ?_
  refine EP.o rfl (Does.nilCheck rfl) ?_
  refine EP.o rfl (Does.fieldAddr fl237_2 rfl) ?_
  refine EP.o rfl (Does.loadB o32 rfl (Keeps.now _) (by assumption) (by rfl)) ?_
  refine EP.o rfl (Does.cmp rfl rfl rfl) ?_
  refine EP.o rfl (Does.assign rfl) ?_
  refine EP.nil ?_
  refine EW.ret ?_
  refine Fin.one rfl rfl ?_
  exact ⟨vbool (by by_cases h : p.e = 0 <;> simp [cmpB, h]), rfl⟩
theorem is_c (s : ByteArray) (p : Ps) (sl : Value) (b c : Nat) (w : World) (hs : s.size ≤ 1048576) (hR : Blk w b (rdC s p sl) 239) : Calls P 205 #[.pointer (some ⟨b, 0, none⟩), .int .u8 (c : Int)] w (Ret fun v w' => v = .bool (isB (strL s) p c) ∧ Chg [b] w w' ∧ Blk w' b (rdC s (isS (strL s) p c) sl) 239) := by
  have hC := Chg.refl [b] w
  have hB : isB (strL s) p c = (decide (p.i < s.size) && decide (peekC (strL s) p = c)) := by unfold isB; rw [strL_length]; rfl
  refine enter Tryz.func205 rfl rfl ?_
  refine EW.seq ?_
  refine EW.reg ?_
  refine EP.o rfl (Does.assign rfl) ?_
  refine EP.nil ?_
  refine EW.seq ?_
  refine EW.reg ?_
  refine EP.o rfl (Does.move rfl) ?_
  refine EP.call2 rfl (Enters.fn fb202 rfl) (peek_c _ _ _ _ _ (by assumption)) ?_
  rintro _ w1 ⟨rfl, hx1⟩
  have hz1 := hx1.size
  replace hC := hC.step0 hx1
  replace hR := hR.chg0 hx1
  refine EP.o rfl (Does.move rfl) ?_
  refine EP.o rfl (Does.extract rfl rfl) ?_
  refine EP.o rfl (Does.extract rfl rfl) ?_
  refine EP.o rfl (Does.assign rfl) ?_
  refine EP.o rfl (Does.assign rfl) ?_
  refine EP.nil ?_
  refine EW.seq ?_
  refine EW.seq ?_
  refine EW.reg ?_
  refine EP.o rfl (Does.move rfl) ?_
  refine EP.o rfl (Does.not rfl) ?_
  refine EP.o rfl (Does.move rfl) ?_
  refine EP.bsplit (d := 14) rfl (fun hg => ?_) (fun hg => ?_)
  · try simp at hg
    refine EP.skp rfl rfl rfl rfl rfl (fun h => by cases h) ?_
    refine EP.skp rfl rfl rfl rfl rfl (fun h => by cases h) ?_
    refine EP.skp rfl rfl rfl rfl rfl (fun h => by cases h) ?_
    refine EP.o rfl (Does.pickT rfl rfl) ?_
    refine EP.nil ?_
    refine EW.condT rfl ?_
    refine EW.seq ?_
    refine EW.reg ?_
    refine EP.o rfl (Does.assign rfl) ?_
    refine EP.nil ?_
    refine EW.ret ?_
    refine Fin.one rfl rfl ?_
    have : isB (strL s) p c = false := by rw [hB]; simp; omega
    exact ⟨vbool this.symm, hC, by unfold isS; rw [this]; exact hR⟩
  · try simp at hg
    refine EP.ung rfl rfl rfl ?_
    refine EP.o rfl (Does.move rfl) ?_
    refine EP.ung rfl rfl rfl ?_
    refine EP.o rfl (Does.move rfl) ?_
    refine EP.ung rfl rfl rfl ?_
    refine EP.o rfl (Does.cmp rfl rfl rfl) ?_
    refine EP.o rfl (Does.pickF rfl rfl) ?_
    refine EP.nil ?_
    refine EW.cond rfl (fun hc => ?_) (fun hc => ?_)
    · try simp at hc
      refine EW.seq ?_
      refine EW.reg ?_
      refine EP.o rfl (Does.assign rfl) ?_
      refine EP.nil ?_
      refine EW.ret ?_
      refine Fin.one rfl rfl ?_
      have : isB (strL s) p c = false := by rw [hB]; simp; omega
      exact ⟨vbool this.symm, hC, by unfold isS; rw [this]; exact hR⟩
    · try simp at hc
      refine EW.skip ?_
      refine EW.seq ?_
      refine EW.reg ?_
      refine EP.o rfl (Does.move rfl) ?_
      refine EP.o rfl (Does.nilCheck rfl) ?_
      refine EP.o rfl (Does.fieldAddr fl237_1 rfl) ?_
      refine EP.o rfl (Does.loadB o3 rfl (Keeps.now _) (by assumption) (by rfl)) ?_
      refine EP.o rfl (Does.addi rfl rfl (by omega)) ?_
      refine EP.o rfl (Does.nilCheck rfl) ?_
      refine EP.o rfl (Does.fieldAddr fl237_1 rfl) ?_
      refine EP.put2 (Puts.blk sz3 rfl rfl (by assumption) rfl rfl rfl rfl (by simp only [List.take, List.drop, List.append, List.cons_append, List.nil_append]; rfl)) ?_
      intro w2 hs2 hx2 hB2
      have hz2 := hx2.size
      replace hC := hC.step hx2 (by first | (simp; done) | (simp; omega))
      clear hR; have hR := hB2; clear hB2
      refine EP.nil ?_
      refine EW.seq ?_
      refine EW.reg ?_
      refine EP.o rfl (Does.assign rfl) ?_
      refine EP.nil ?_
      refine EW.ret ?_
      refine Fin.one rfl rfl ?_
      have : isB (strL s) p c = true := by rw [hB]; simp; omega
      exact ⟨vbool this.symm, hC, by unfold isS; rw [this]; exact hR⟩
theorem idxN_eq : ∀ (l : List UInt8) (c : Nat), c < 256 → Lib.indexByte l (Int.toNat (c : Int)).toUInt8 = idxN (l.map UInt8.toNat) c := by
  intro l c hc
  have hc' : (Int.toNat (c : Int)).toUInt8.toNat = c := by simp; omega
  generalize (Int.toNat (c : Int)).toUInt8 = u at hc'
  subst hc'
  induction l with
  | nil => rfl
  | cons b l ih =>
    simp only [Lib.indexByte, idxN, List.map_cons, ih]
    by_cases h : b = u
    · subst h; simp
    · have : ¬ b.toNat = u.toNat := fun h' => h (UInt8.toNat_inj.1 h')
      simp [h, this]
theorem ixb_c (s : ByteArray) (t : List Nat) (c : Nat) (ht : strL s = t) (hc : c < 256) (w : World) : Calls P 181 #[.string s, .int .u8 (c : Int)] w (Ret fun v w' => v = .int .i64 (idxN t c) ∧ w' = w) := by
  have h := of_calls (Tryz.strings_IndexByte s c w)
  rw [idxN_eq _ _ hc] at h
  rw [← ht]
  exact h
theorem of1_c (c : Int) (b n : Nat) (w : World) (τ : TypeId) (hB : Blk w b [.int .u8 c] τ) (h0 : 0 ≤ c) (h1 : c < 256) : Calls P 139 #[.slice (some ⟨b, 0, none⟩) 1 n] w (Ret fun v w' => v = .agg (setCells (ofBytes [c.toNat])).toArray ∧ Chg [] w w') :=
  of_c (fun x => x = b) [c.toNat] _ 1 n (by intro x hx; simp at hx; omega) (by omega) w (by
    have : bys [c.toNat] = [.int .u8 c] := by simp [bys, byv]; omega
    rw [this]
    exact hB.rd (m := 1) rfl rfl) (fun x hx => by rw [hx]; exact hB.lt)
theorem union2_c (s1 s2 b n : Nat) (w : World) (τ : TypeId) (hB : Blk w b (setsCells [s1, s2]) τ) : Calls P 138 #[.slice (some ⟨b, 0, none⟩) 2 n] w (Ret fun v w' => v = .agg (setCells (unions [s1, s2])).toArray ∧ Chg [] w w') :=
  union_c (fun x => x = b) _ _ 2 n (by omega) w (hB.rd (m := 2) (by rw [setsCells_length]; rfl) rfl) (fun x hx => by rw [hx]; exact hB.lt)
theorem union4_c (s1 s2 s3 s4 b n : Nat) (w : World) (τ : TypeId) (hB : Blk w b (setsCells [s1, s2, s3, s4]) τ) : Calls P 138 #[.slice (some ⟨b, 0, none⟩) 4 n] w (Ret fun v w' => v = .agg (setCells (unions [s1, s2, s3, s4])).toArray ∧ Chg [] w w') :=
  union_c (fun x => x = b) _ _ 4 n (by omega) w (hB.rd (m := 4) (by rw [setsCells_length]; rfl) rfl) (fun x hx => by rw [hx]; exact hB.lt)
theorem digits_c (s : ByteArray) (p : Ps) (sl : Value) (b : Nat) (w : World) (hR : Blk w b (rdC s p sl) 239) : Calls P 236 #[.pointer (some ⟨b, 0, none⟩)] w (Ret fun v w' => v = .bool (digitB (strL s) p) ∧ Chg [] w w') := by
  have hC := Chg.refl [] w
  have hB : digitB (strL s) p = (decide (p.i < s.size) && decide (48 ≤ peekC (strL s) p) && decide (peekC (strL s) p ≤ 57)) := by unfold digitB; rw [strL_length]
  refine enter Tryz.func236 rfl rfl ?_
  refine EW.seq ?_
  refine EW.reg ?_
  refine EP.o rfl (Does.assign rfl) ?_
  refine EP.nil ?_
  refine EW.seq ?_
  refine EW.reg ?_
  refine EP.o rfl (Does.move rfl) ?_
  refine EP.o rfl (Does.nilCheck rfl) ?_
  refine EP.o rfl (Does.fieldAddr fl239_0 rfl) ?_
  refine EP.call2 rfl (Enters.fn fb202 rfl) (peek_c _ _ _ _ _ (by assumption)) ?_
  rintro _ w1 ⟨rfl, hx1⟩
  have hz1 := hx1.size
  replace hC := hC.step0 hx1
  replace hR := hR.chg0 hx1
  refine EP.o rfl (Does.move rfl) ?_
  refine EP.o rfl (Does.extract rfl rfl) ?_
  refine EP.o rfl (Does.extract rfl rfl) ?_
  refine EP.o rfl (Does.assign rfl) ?_
  refine EP.o rfl (Does.assign rfl) ?_
  refine EP.nil ?_
  refine EW.seq ?_
  refine EW.reg ?_
  refine EP.o rfl (Does.move rfl) ?_
  refine EP.o rfl (Does.move rfl) ?_
  refine EP.bsplit (d := 13) rfl (fun hg => ?_) (fun hg => ?_)
  · try simp at hg
    refine EP.ung rfl rfl rfl ?_
    refine EP.o rfl (Does.move rfl) ?_
    refine EP.ung rfl rfl rfl ?_
    refine EP.o rfl (Does.cmp rfl rfl rfl) ?_
    refine EP.o rfl (Does.pickT rfl rfl) ?_
    refine EP.o rfl (Does.move rfl) ?_
    refine EP.bsplit (d := 17) rfl (fun hg2 => ?_) (fun hg2 => ?_)
    · try simp at hg2
      refine EP.ung rfl rfl rfl ?_
      refine EP.o rfl (Does.move rfl) ?_
      refine EP.ung rfl rfl rfl ?_
      refine EP.o rfl (Does.cmp rfl rfl rfl) ?_
      refine EP.o rfl (Does.pickT rfl rfl) ?_
      refine EP.o rfl (Does.assign rfl) ?_
      refine EP.nil ?_
      refine EW.ret ?_
      refine Fin.one rfl rfl ?_
      exact ⟨vbool (by rw [hB]; by_cases h : peekC (strL s) p ≤ 57 <;> simp [hg, hg2, h, cmpB] <;> omega), hC⟩
    · try simp at hg2
      refine EP.skp rfl rfl rfl rfl rfl (fun h => by cases h) ?_
      refine EP.skp rfl rfl rfl rfl rfl (fun h => by cases h) ?_
      refine EP.o rfl (Does.pickF rfl rfl) ?_
      refine EP.o rfl (Does.assign rfl) ?_
      refine EP.nil ?_
      refine EW.ret ?_
      refine Fin.one rfl rfl ?_
      exact ⟨vbool (by rw [hB]; simp; omega), hC⟩
  · try simp at hg
    refine EP.skp rfl rfl rfl rfl rfl (fun h => by cases h) ?_
    refine EP.skp rfl rfl rfl rfl rfl (fun h => by cases h) ?_
    refine EP.o rfl (Does.pickF rfl rfl) ?_
    refine EP.o rfl (Does.move rfl) ?_
    refine EP.skp rfl rfl rfl rfl rfl (fun h => by cases h) ?_
    refine EP.skp rfl rfl rfl rfl rfl (fun h => by cases h) ?_
    refine EP.o rfl (Does.pickF rfl rfl) ?_
    refine EP.o rfl (Does.assign rfl) ?_
    refine EP.nil ?_
    refine EW.ret ?_
    refine Fin.one rfl rfl ?_
    exact ⟨vbool (by rw [hB]; simp; omega), hC⟩
theorem Does.to {P : Program} {n : Nat} {e : Env} {o : Oper} {φ : World → Prop} {v v' : Value} (h : Does P n e o φ v) (hv : v = v') : Does P n e o φ v' := hv ▸ h
theorem bitv_or8 {a b : Nat} (ha : a < 256) (hb : b < 256) : bitv .or .u8 (a : Int) (b : Int) = ((a ||| b : Nat) : Int) := by
  have h : a ||| b < 256 := Nat.or_lt_two_pow (n := 8) ha hb
  unfold bitv
  have e1 : (BitVec.ofInt IntKind.u8.bits (a : Int)).toNat = a := by simp [IntKind.bits]; omega
  have e2 : (BitVec.ofInt IntKind.u8.bits (b : Int)).toNat = b := by simp [IntKind.bits]; omega
  simp only [BitVec.toNat_or, e1, e2]
  exact wrap_u8 (by omega)
theorem idxN_lt : ∀ (l : List Nat) (c : Nat), -1 ≤ idxN l c ∧ idxN l c < l.length
  | [], _ => by simp [idxN]
  | b :: l, c => by
    have := idxN_lt l c
    simp only [idxN, List.length_cons]
    split
    · omega
    · split <;> omega
theorem hexV_lt (L : List Nat) (p : Ps) : hexV L p < 17 := by
  unfold hexV
  have h1 := idxN_lt decT (peekC L p)
  have h2 := idxN_lt hexT (peekC L p ||| 32)
  simp only [decT, hexT, List.length_cons, List.length_nil] at h1 h2
  unfold decT hexT
  split <;> omega
theorem hex_c (s : ByteArray) (p : Ps) (sl : Value) (b : Nat) (w : World) (hs : s.size ≤ 1048576) (hR : Blk w b (rdC s p sl) 239) : Calls P 204 #[.pointer (some ⟨b, 0, none⟩)] w (Ret fun v w' => v = .int .u8 ((hexP (strL s) p).1 : Nat) ∧ Chg [b] w w' ∧ Blk w' b (rdC s (hexP (strL s) p).2 sl) 239) := by
  have hC := Chg.refl [b] w
  have hlt := peekC_lt s p
  have hor : peekC (strL s) p ||| 32 < 256 := Nat.or_lt_two_pow (n := 8) hlt (by omega)
  refine enter Tryz.func204 rfl rfl ?_
  refine EW.seq ?_
  refine EW.reg ?_
  refine EP.o rfl (Does.assign rfl) ?_
  refine EP.nil ?_
  refine EW.seq ?_
  refine EW.reg ?_
  refine EP.o rfl (Does.move rfl) ?_
  refine EP.o rfl (Does.nilCheck rfl) ?_
  refine EP.o rfl (Does.fieldAddr fl239_0 rfl) ?_
  refine EP.call2 rfl (Enters.fn fb202 rfl) (peek_c _ _ _ _ _ (by assumption)) ?_
  rintro _ w1 ⟨rfl, hx1⟩
  have hz1 := hx1.size
  replace hC := hC.step0 hx1
  replace hR := hR.chg0 hx1
  refine EP.o rfl (Does.move rfl) ?_
  refine EP.o rfl (Does.extract rfl rfl) ?_
  refine EP.o rfl (Does.extract rfl rfl) ?_
  refine EP.o rfl (Does.assign rfl) ?_
  refine EP.o rfl (Does.assign rfl) ?_
  refine EP.nil ?_
  refine EW.seq ?_
  refine EW.reg ?_
  refine EP.o rfl (Does.move rfl) ?_
  refine EP.o rfl ((Does.bits rfl rfl rfl).to (vint (bitv_or8 (b := 32) hlt (by decide)))) ?_
  refine EP.call2 rfl (Enters.fn fb181 rfl) (ixb_c _ hexT (peekC (strL s) p ||| 32) rfl hor _) ?_
  rintro _ _ ⟨rfl, rfl⟩
  refine EP.o rfl (Does.assign rfl) ?_
  refine EP.nil ?_
  refine EW.cut (fun e9 wr => Sub [(0, .pointer (some ⟨b, 0, none⟩)), (4, .bool (decide (p.i < s.size))), (5, .int .i64 (hexV (strL s) p))] e9 ∧ Chg [b] w wr ∧ Blk wr b (rdC s p sl) 239) ?_ ?_
  · refine EW.seq ?_
    refine EW.reg ?_
    refine EP.o rfl (Does.move rfl) ?_
    refine EP.o rfl (Does.cmp rfl rfl rfl) ?_
    refine EP.nil ?_
    refine EW.cond rfl (fun hc => ?_) (fun hc => ?_)
    · try simp at hc
      refine EW.reg ?_
      refine EP.o rfl (Does.move rfl) ?_
      refine EP.call2 rfl (Enters.fn fb181 rfl) (ixb_c _ decT (peekC (strL s) p) rfl hlt _) ?_
      rintro _ _ ⟨rfl, rfl⟩
      refine EP.o rfl (Does.assign rfl) ?_
      refine EP.nil ?_
      refine ⟨⟨rfl, rfl, (lk_int rfl (by unfold hexV; rw [if_pos (by omega)])), trivial⟩, ?_⟩
      exact ⟨hC, hR⟩
    · try simp at hc
      refine EW.skip ?_
      refine ⟨⟨rfl, rfl, (lk_int rfl (by unfold hexV; rw [if_neg (by omega)])), trivial⟩, ?_⟩
      exact ⟨hC, hR⟩
  rintro e9 w9 ⟨hs9, hC, hR⟩
  refine EW.sub _ hs9 ?_
  clear hs9 e9
  have hk : hexOk (strL s) p = (decide (p.i < s.size) && decide (0 ≤ hexV (strL s) p)) := by unfold hexOk; rw [strL_length]
  refine EW.seq ?_
  refine EW.seq ?_
  refine EW.reg ?_
  refine EP.o rfl (Does.move rfl) ?_
  refine EP.o rfl (Does.not rfl) ?_
  refine EP.o rfl (Does.move rfl) ?_
  refine EP.bsplit (d := 22) rfl (fun hg => ?_) (fun hg => ?_)
  · try simp at hg
    refine EP.skp rfl rfl rfl rfl rfl (fun h => by cases h) ?_
    refine EP.skp rfl rfl rfl rfl rfl (fun h => by cases h) ?_
    refine EP.o rfl (Does.pickT rfl rfl) ?_
    refine EP.nil ?_
    refine EW.condT rfl ?_
    refine EW.seq ?_
    refine EW.drw' (S := []) 8 [(0, 0), (0, 1), (0, 2), (0, 3), (0, 4), (0, 5), (0, 6), (0, 7), (2, 8)] mo (by kernel_rfl) ?_
    intro w4 hx4 hh4
    have hz4 := hx4.size
    replace hC := hC.step0 hx4
    replace hR := hR.chg0 hx4
    refine EP.f rfl (Does.move rfl) ?_
    refine EP.f rfl (Does.nilCheck rfl) ?_
    refine EP.f rfl (Does.fieldAddr fl239_0 rfl) ?_
    refine EP.f rfl (Does.move rfl) ?_
    refine EP.f rfl (Does.nilCheck rfl) ?_
    refine EP.f rfl (Does.fieldAddr fl239_0 rfl) ?_
    refine EP.f rfl (Does.fieldAddr fl237_1 rfl) ?_
    refine EP.f rfl (Does.loadBc o3 rfl (by assumption) (by first | (simp; done) | (simp; omega)) (by rfl)) ?_
    refine EP.call2 rfl (Enters.fn fb180 rfl) (fail_c s p sl b p.i 4 _ (by assumption)) ?_
    rintro _ w5 ⟨rfl, hx5, hR'⟩
    have hz5 := hx5.size
    replace hC := hC.step hx5 (by first | (simp; done) | (simp; omega))
    clear hR
    have hR := hR'; clear hR'
    refine EP.nil ?_
    refine EW.seq ?_
    refine EW.reg ?_
    refine EP.o rfl (Does.assign rfl) ?_
    refine EP.nil ?_
    refine EW.ret ?_
    refine Fin.one rfl rfl ?_
    have : hexOk (strL s) p = false := by rw [hk]; simp; omega
    exact ⟨by unfold hexP; rw [this]; rfl, hC, by unfold hexP; rw [this]; exact hR⟩
  · try simp at hg
    refine EP.ung rfl rfl rfl ?_
    refine EP.o rfl (Does.move rfl) ?_
    refine EP.ung rfl rfl rfl ?_
    refine EP.o rfl (Does.cmp rfl rfl rfl) ?_
    refine EP.o rfl (Does.pickF rfl rfl) ?_
    refine EP.nil ?_
    refine EW.cond rfl (fun hc => ?_) (fun hc => ?_)
    · try simp at hc
      refine EW.seq ?_
      refine EW.drw' (S := []) 8 [(0, 0), (0, 1), (0, 2), (0, 3), (0, 4), (0, 5), (0, 6), (0, 7), (2, 8)] mo (by kernel_rfl) ?_
      intro w6 hx6 hh6
      have hz6 := hx6.size
      replace hC := hC.step0 hx6
      replace hR := hR.chg0 hx6
      refine EP.f rfl (Does.move rfl) ?_
      refine EP.f rfl (Does.nilCheck rfl) ?_
      refine EP.f rfl (Does.fieldAddr fl239_0 rfl) ?_
      refine EP.f rfl (Does.move rfl) ?_
      refine EP.f rfl (Does.nilCheck rfl) ?_
      refine EP.f rfl (Does.fieldAddr fl239_0 rfl) ?_
      refine EP.f rfl (Does.fieldAddr fl237_1 rfl) ?_
      refine EP.f rfl (Does.loadBc o3 rfl (by assumption) (by first | (simp; done) | (simp; omega)) (by rfl)) ?_
      refine EP.call2 rfl (Enters.fn fb180 rfl) (fail_c s p sl b p.i 4 _ (by assumption)) ?_
      rintro _ w7 ⟨rfl, hx7, hR'⟩
      have hz7 := hx7.size
      replace hC := hC.step hx7 (by first | (simp; done) | (simp; omega))
      clear hR
      have hR := hR'; clear hR'
      refine EP.nil ?_
      refine EW.seq ?_
      refine EW.reg ?_
      refine EP.o rfl (Does.assign rfl) ?_
      refine EP.nil ?_
      refine EW.ret ?_
      refine Fin.one rfl rfl ?_
      have : hexOk (strL s) p = false := by rw [hk]; simp; omega
      exact ⟨by unfold hexP; rw [this]; rfl, hC, by unfold hexP; rw [this]; exact hR⟩
    · try simp at hc
      refine EW.skip ?_
      refine EW.seq ?_
      refine EW.reg ?_
      refine EP.o rfl (Does.move rfl) ?_
      refine EP.o rfl (Does.nilCheck rfl) ?_
      refine EP.o rfl (Does.fieldAddr fl239_0 rfl) ?_
      refine EP.o rfl (Does.fieldAddr fl237_1 rfl) ?_
      refine EP.o rfl (Does.loadB o3 rfl (Keeps.now _) (by assumption) (by rfl)) ?_
      refine EP.o rfl (Does.addi rfl rfl (by omega)) ?_
      refine EP.o rfl (Does.nilCheck rfl) ?_
      refine EP.o rfl (Does.fieldAddr fl239_0 rfl) ?_
      refine EP.o rfl (Does.fieldAddr fl237_1 rfl) ?_
      refine EP.put2 (Puts.blk sz3 rfl rfl (by assumption) rfl rfl rfl rfl (by simp only [List.take, List.drop, List.append, List.cons_append, List.nil_append]; rfl)) ?_
      intro w8 hs8 hx8 hB8
      have hz8 := hx8.size
      replace hC := hC.step hx8 (by first | (simp; done) | (simp; omega))
      clear hR; have hR := hB8; clear hB8
      refine EP.nil ?_
      refine EW.seq ?_
      refine EW.reg ?_
      refine EP.o rfl (Does.move rfl) ?_
      refine EP.o rfl (Does.conv kn3 Tryz.underlying5 rfl) ?_
      refine EP.o rfl (Does.assign rfl) ?_
      refine EP.nil ?_
      refine EW.ret ?_
      refine Fin.one rfl rfl ?_
      have : hexOk (strL s) p = true := by rw [hk]; simp; omega
      have hv : hexV (strL s) p < 17 := hexV_lt _ _
      exact ⟨by unfold hexP; rw [this]; exact vint (by rw [wrap_u8 (by omega)]; simp; omega), hC, by unfold hexP; rw [this]; exact hR⟩
end Go.Clt
end
