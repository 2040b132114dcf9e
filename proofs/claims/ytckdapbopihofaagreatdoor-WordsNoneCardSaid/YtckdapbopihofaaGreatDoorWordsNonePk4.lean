import Derived.Calls
import Derived.OrdersHeld
import Derived.Still
import Derived.Tactics
import Derived.Below
import Derived.Laws.AppendOwn
import Derived.Laws.Sem
import Derived.KernelRfl
import Derived.Laws.CopyRow
import Derived.Laws.Tables
import Derived.Laws.Entries
import Derived.Laws.IdiomRangeMap
import Derived.WalkKit
import Derived.Laws.CopyOwn
import Derived.Laws.MakeOwn
import Derived.Laws.Slices
import Derived.Maps.AppendAt
import Derived.Test.YtckdapbopihofaaGreatDoorProg
import Derived.Shelf.Strings.Builder1
import Derived.Shelf.Small.Strs
import Derived.Shelf.Strconv.Itoa0
import Derived.Shelf.Strconv.Itoa1
import Derived.Shelf.LaysM
import Derived.Shelf.Strconv.Itoa2
import Derived.Shelf.Strconv.Itoa3
import Derived.Shelf.Strings.Search1
import Derived.Shelf.Bits.Mul64
import Derived.Laws.Externs
import Derived.Lib.TrailingZeros
import Derived.ChangeKeysEq
import Derived.Maps.RangeRun
import Derived.Test.YtckdapbopihofaaGreatDoorWordsNonePk3
/- WordsNone: for every input the law answers true, its arguments left as they were (the tied card). A part of that proof: Form3, Form4, Form5, CoreP, Core1, Core2, Core3, Core4, Core5, Core6, Core7, Core8, Core9, Core10, Mp, WeighP, Weigh1, WeighM, Weigh2, WeighL, Weigh3. Conditions: none beyond the statement's own. By an AI agent; no person has read it. -/
section
set_option linter.unusedVariables false
set_option linter.unusedSimpArgs false
set_option maxRecDepth 4000
namespace Go.Clt
set_option maxHeartbeats 4000000
open Go Go.RowKit Go.Proofs
theorem ints_blk {w : World} {b : Nat} {l : List Int} {cs : List Value} {τ : TypeId} (hB : Blk w b cs τ) (h : cs = ints l) : Rd (fun x => x = b) w 1 (some ⟨b, 0, none⟩) l.length (ints l) := by
  subst h
  exact hB.rd (m := l.length) (by rw [ints_length]; omega) rfl
theorem form1s_c (t : Syn) (v : Value) (F : Nat → Prop) (ks : List Int) (cs : List Value) (τ : TypeId) (bk m bn : Nat) (w : World) (hks : ks.length ≤ 2000000) (hl : t.l.length ≤ 2000000) (hF : ∀ b, F b → b < w.heap.size) (hK : Blk w bk cs τ) (hcs : cs = ints ks) (hI : IsSyn F w t v) (hN : Blk w bn [v] 149) :
    Calls P 230 (#[] ++ [Value.slice (some ⟨bk, 0, none⟩) ks.length m].toArray ++ #[.pointer (some ⟨bn, 0, none⟩)]) w (Ret fun u w' => u = .bool (notK ks t.l) ∧ Chg [] w w') :=
  form1_c t v F (fun x => x = bk) ks (some ⟨bk, 0, none⟩) ks.length m bn w hks hl hF (fun y hy => by rw [hy]; exact hK.lt) hI hN (ints_blk hK hcs)
theorem form_c (t : Syn) (v : Value) (F : Nat → Prop) (w : World) (hs : SetOk t.set) (hl : t.l.length ≤ 2000000) (hF : ∀ b, F b → b < w.heap.size) (hI : IsSyn F w t v) : Calls P 211 #[v] w (Ret fun u w' => u = .bool (formQ t) ∧ Chg [] w w') := by
  have hC := Chg.refl [] w
  obtain ⟨q, A1, c1, vs, rfl, _, hB0, hr, hIs⟩ := hI.open
  have hnp : ∀ (k : Nat) (u : Value), vs[k]? = some u → ∃ a, u = .pointer (some a) := fun k u hu => by
    have hk : k < t.l.length := by rw [← hIs.length]; exact (List.getElem?_eq_some_iff.1 hu).1
    obtain ⟨u', hu', hiu⟩ := hIs.get k hk
    rw [hu] at hu'; injection hu' with hu'; subst hu'
    obtain ⟨p', _, hp', _⟩ := hiu.span
    exact ⟨_, hp'⟩
  have hb230 := fb230
  try have hlB0 := hB0.lt
  refine enter Tryz.func211 rfl rfl ?_
  refine EW.seq ?_
  refine EW.reg ?_
  refine EP.new2 rfl (News.box rfl rfl) ?_
  intro b1 w1 hb1 hs1 hx1 hB1
  have hz1 := hx1.size
  replace hC := hC.step0 hx1
  replace hI := hI.chg0 hx1
  replace hB0 := hB0.chg0 hx1
  replace hr := hr.chg0 hx1
  replace hIs := hIs.chg0 hx1
  refine EP.o rfl (Does.assign rfl) ?_
  refine EP.nil ?_
  refine EW.cut (fun e9 wr => Sub [(1, .pointer (some ⟨b1, 0, none⟩)), (2, .bool false)] e9 ∧ Chg [] w wr ∧ IsSyn F wr t (.pointer (some ⟨q, 0, none⟩)) ∧ Blk wr q (nodeC t.kind t.set t.mn t.mx t.lz (.slice A1 t.l.length c1) t.a t.b) 254 ∧ Rd F wr 1 A1 t.l.length vs ∧ IsSyns F wr t.l vs ∧ Blk wr b1 [.pointer (some ⟨q, 0, none⟩)] 149 ∧ (t.kind = 1 ∨ t.set = 0) ∧ (t.kind = 6 ∨ plainQ t = true)) ?_ ?_
  · refine EW.seq ?_
    refine EW.reg ?_
    refine EP.o rfl (Does.loadB o149 rfl (Keeps.now _) (by assumption) (by rfl)) ?_
    refine EP.o rfl (Does.nilCheck rfl) ?_
    refine EP.o rfl (Does.fieldAddr fl254_5 rfl) ?_
    refine EP.o rfl (Does.loadB o241 rfl (Keeps.now _) (by assumption) (by rfl)) ?_
    refine EP.call2 rfl (Enters.fn fb228 rfl) (hasP_c vs F A1 t.l.length c1 _ hl (fun y hy => by have := hF y hy; omega) (by assumption) hnp) ?_
    rintro _ w2 ⟨rfl, hx2⟩
    have hz2 := hx2.size
    replace hC := hC.step0 hx2
    replace hI := hI.chg0 hx2
    replace hB0 := hB0.chg0 hx2
    replace hr := hr.chg0 hx2
    replace hIs := hIs.chg0 hx2
    replace hB1 := hB1.chg0 hx2
    refine EP.o rfl (Does.move rfl) ?_
    refine EP.ung rfl rfl rfl ?_
    refine EP.o rfl (Does.loadB o149 rfl (Keeps.now _) (by assumption) (by rfl)) ?_
    refine EP.ung rfl rfl rfl ?_
    refine EP.o rfl (Does.nilCheck rfl) ?_
    refine EP.ung rfl rfl rfl ?_
    refine EP.o rfl (Does.fieldAddr fl254_0 rfl) ?_
    refine EP.ung rfl rfl rfl ?_
    refine EP.o rfl (Does.loadB o3 rfl (Keeps.now _) (by assumption) (by rfl)) ?_
    refine EP.ung rfl rfl rfl ?_
    refine EP.o rfl (Does.cmp rfl rfl rfl) ?_
    refine EP.ung rfl rfl rfl ?_
    refine EP.o rfl (Does.move rfl) ?_
    refine EP.bsplit (d := 15) rfl (fun h1 => ?_) (fun h1 => ?_)
    · try simp at h1
      refine EP.ung rfl rfl rfl ?_
      refine EP.o rfl (Does.loadB o149 rfl (Keeps.now _) (by assumption) (by rfl)) ?_
      refine EP.ung rfl rfl rfl ?_
      refine EP.o rfl (Does.nilCheck rfl) ?_
      refine EP.ung rfl rfl rfl ?_
      refine EP.o rfl (Does.fieldAddr fl254_1 rfl) ?_
      refine EP.ung rfl rfl rfl ?_
      refine EP.o rfl (Does.loadA ag70 rfl (Keeps.now _) (by assumption) (by rfl) rfl) ?_
      refine EP.ung rfl rfl rfl ?_
      refine EP.o rfl (Does.buildAL zr70 ar70 rfl (by rfl)) ?_
      refine EP.ung rfl rfl rfl ?_
      refine EP.o rfl (Does.neSet hs zero_ok rfl rfl) ?_
      refine EP.ung rfl rfl rfl ?_
      refine EP.o rfl (Does.pickT rfl rfl) ?_
      refine EP.o rfl (Does.pickF rfl rfl) ?_
      refine EP.o rfl (Does.move rfl) ?_
      refine EP.bsplit (d := 24) rfl (fun h2 => ?_) (fun h2 => ?_)
      · try simp at h2
        refine EP.skp rfl rfl rfl rfl rfl (fun h => by cases h) ?_
        refine EP.skp rfl rfl rfl rfl rfl (fun h => by cases h) ?_
        refine EP.skp rfl rfl rfl rfl rfl (fun h => by cases h) ?_
        refine EP.skp rfl rfl rfl rfl rfl (fun h => by cases h) ?_
        refine EP.skp rfl rfl rfl rfl rfl (fun h => by cases h) ?_
        refine EP.skp rfl rfl rfl rfl rfl (fun h => by cases h) ?_
        refine EP.sku rfl rfl rfl rfl (fun h => by cases h) ?_
        refine EP.sku rfl rfl rfl rfl (fun h => by cases h) ?_
        refine EP.sku rfl rfl rfl rfl (fun h => by cases h) ?_
        refine EP.skp rfl rfl rfl rfl rfl (fun h => by cases h) ?_
        refine EP.o rfl (Does.pickT rfl rfl) ?_
        refine EP.nil ?_
        refine EW.condT rfl ?_
        refine EW.seq ?_
        refine EW.reg ?_
        refine EP.o rfl (Does.assign rfl) ?_
        refine EP.nil ?_
        refine EW.ret ?_
        refine Fin.one rfl rfl ?_
        exact ⟨vbool (by unfold formQ; rw [decide_eq_false h1, decide_eq_false h2]; simp), hC⟩
      · try simp at h2
        refine EP.ung rfl rfl rfl ?_
        refine EP.o rfl (Does.loadB o149 rfl (Keeps.now _) (by assumption) (by rfl)) ?_
        refine EP.ung rfl rfl rfl ?_
        refine EP.o rfl (Does.nilCheck rfl) ?_
        refine EP.ung rfl rfl rfl ?_
        refine EP.o rfl (Does.fieldAddr fl254_0 rfl) ?_
        refine EP.ung rfl rfl rfl ?_
        refine EP.o rfl (Does.loadB o3 rfl (Keeps.now _) (by assumption) (by rfl)) ?_
        refine EP.ung rfl rfl rfl ?_
        refine EP.o rfl (Does.cmp rfl rfl rfl) ?_
        refine EP.ung rfl rfl rfl ?_
        refine EP.o rfl (Does.move rfl) ?_
        refine EP.bsplit (d := 30) rfl (fun h3 => ?_) (fun h3 => ?_)
        · try simp at h3
          refine EP.ung rfl rfl rfl ?_
          refine EP.o rfl (Does.loadB o149 rfl (Keeps.now _) (by assumption) (by rfl)) ?_
          refine EP.ung rfl rfl rfl ?_
          refine EP.call2 rfl (Enters.fn fb229 rfl) (plain_c t _ F _ (by assumption)) ?_
          rintro _ w3 ⟨rfl, hx3⟩
          have hz3 := hx3.size
          replace hC := hC.step0 hx3
          replace hI := hI.chg0 hx3
          replace hB0 := hB0.chg0 hx3
          replace hr := hr.chg0 hx3
          replace hIs := hIs.chg0 hx3
          replace hB1 := hB1.chg0 hx3
          refine EP.ung rfl rfl rfl ?_
          refine EP.o rfl (Does.not rfl) ?_
          refine EP.ung rfl rfl rfl ?_
          refine EP.o rfl (Does.pickT rfl rfl) ?_
          refine EP.o rfl (Does.pickF rfl rfl) ?_
          refine EP.nil ?_
          refine EW.cond rfl (fun h4 => ?_) (fun h4 => ?_)
          · try simp at h4
            refine EW.seq ?_
            refine EW.reg ?_
            refine EP.o rfl (Does.assign rfl) ?_
            refine EP.nil ?_
            refine EW.ret ?_
            refine Fin.one rfl rfl ?_
            exact ⟨vbool (by unfold formQ; rw [decide_eq_false h3, h4]; simp), hC⟩
          · try simp at h4
            refine EW.skip ?_
            refine ⟨⟨rfl, rfl, trivial⟩, ?_⟩
            exact ⟨hC, hI, hB0, hr, hIs, hB1, Or.inr h2, Or.inr h4⟩
        · try simp at h3
          refine EP.skp rfl rfl rfl rfl rfl (fun h => by cases h) ?_
          refine EP.skp rfl rfl rfl rfl rfl (fun h => by cases h) ?_
          refine EP.skp rfl rfl rfl rfl rfl (fun h => by cases h) ?_
          refine EP.ung rfl rfl rfl ?_
          refine EP.o rfl (Does.pickF rfl rfl) ?_
          refine EP.o rfl (Does.pickF rfl rfl) ?_
          refine EP.nil ?_
          refine EW.condF rfl ?_
          refine EW.skip ?_
          refine ⟨⟨rfl, rfl, trivial⟩, ?_⟩
          exact ⟨hC, hI, hB0, hr, hIs, hB1, Or.inr h2, Or.inl h3⟩
    · try simp at h1
      refine EP.skp rfl rfl rfl rfl rfl (fun h => by cases h) ?_
      refine EP.skp rfl rfl rfl rfl rfl (fun h => by cases h) ?_
      refine EP.skp rfl rfl rfl rfl rfl (fun h => by cases h) ?_
      refine EP.skp rfl rfl rfl rfl rfl (fun h => by cases h) ?_
      refine EP.skp rfl rfl rfl rfl rfl (fun h => by cases h) ?_
      refine EP.skp rfl rfl rfl rfl rfl (fun h => by cases h) ?_
      refine EP.ung rfl rfl rfl ?_
      refine EP.o rfl (Does.pickF rfl rfl) ?_
      refine EP.o rfl (Does.pickF rfl rfl) ?_
      refine EP.o rfl (Does.move rfl) ?_
      refine EP.ung rfl rfl rfl ?_
      refine EP.o rfl (Does.loadB o149 rfl (Keeps.now _) (by assumption) (by rfl)) ?_
      refine EP.ung rfl rfl rfl ?_
      refine EP.o rfl (Does.nilCheck rfl) ?_
      refine EP.ung rfl rfl rfl ?_
      refine EP.o rfl (Does.fieldAddr fl254_0 rfl) ?_
      refine EP.ung rfl rfl rfl ?_
      refine EP.o rfl (Does.loadB o3 rfl (Keeps.now _) (by assumption) (by rfl)) ?_
      refine EP.ung rfl rfl rfl ?_
      refine EP.o rfl (Does.cmp rfl rfl rfl) ?_
      refine EP.ung rfl rfl rfl ?_
      refine EP.o rfl (Does.move rfl) ?_
      refine EP.bsplit (d := 30) rfl (fun h3 => ?_) (fun h3 => ?_)
      · try simp at h3
        refine EP.ung rfl rfl rfl ?_
        refine EP.o rfl (Does.loadB o149 rfl (Keeps.now _) (by assumption) (by rfl)) ?_
        refine EP.ung rfl rfl rfl ?_
        refine EP.call2 rfl (Enters.fn fb229 rfl) (plain_c t _ F _ (by assumption)) ?_
        rintro _ w4 ⟨rfl, hx4⟩
        have hz4 := hx4.size
        replace hC := hC.step0 hx4
        replace hI := hI.chg0 hx4
        replace hB0 := hB0.chg0 hx4
        replace hr := hr.chg0 hx4
        replace hIs := hIs.chg0 hx4
        replace hB1 := hB1.chg0 hx4
        refine EP.ung rfl rfl rfl ?_
        refine EP.o rfl (Does.not rfl) ?_
        refine EP.ung rfl rfl rfl ?_
        refine EP.o rfl (Does.pickT rfl rfl) ?_
        refine EP.o rfl (Does.pickF rfl rfl) ?_
        refine EP.nil ?_
        refine EW.cond rfl (fun h4 => ?_) (fun h4 => ?_)
        · try simp at h4
          refine EW.seq ?_
          refine EW.reg ?_
          refine EP.o rfl (Does.assign rfl) ?_
          refine EP.nil ?_
          refine EW.ret ?_
          refine Fin.one rfl rfl ?_
          exact ⟨vbool (by unfold formQ; rw [decide_eq_false h3, h4]; simp), hC⟩
        · try simp at h4
          refine EW.skip ?_
          refine ⟨⟨rfl, rfl, trivial⟩, ?_⟩
          exact ⟨hC, hI, hB0, hr, hIs, hB1, Or.inl h1, Or.inr h4⟩
      · try simp at h3
        refine EP.skp rfl rfl rfl rfl rfl (fun h => by cases h) ?_
        refine EP.skp rfl rfl rfl rfl rfl (fun h => by cases h) ?_
        refine EP.skp rfl rfl rfl rfl rfl (fun h => by cases h) ?_
        refine EP.ung rfl rfl rfl ?_
        refine EP.o rfl (Does.pickF rfl rfl) ?_
        refine EP.o rfl (Does.pickF rfl rfl) ?_
        refine EP.nil ?_
        refine EW.condF rfl ?_
        refine EW.skip ?_
        refine ⟨⟨rfl, rfl, trivial⟩, ?_⟩
        exact ⟨hC, hI, hB0, hr, hIs, hB1, Or.inl h1, Or.inl h3⟩
  rintro e9 w9 ⟨hs9, hC, hI, hB0, hr, hIs, hB1, hk1, hk2⟩
  refine EW.sub _ hs9 ?_
  clear hs9 e9
  try have hzw := hC.size
  try have hlB0 := hB0.lt
  try have hlB1 := hB1.lt
  have e1 : (decide (t.kind = 1) || decide (t.set = 0)) = true := by rcases hk1 with h | h <;> simp [h]
  have e2 : (decide (t.kind = 6) || plainQ t) = true := by rcases hk2 with h | h <;> simp [h]
  have hform : formQ t = kidsQ t := by unfold formQ; rw [e1, e2]; rfl
  rw [hform]
  refine EW.seq ?_
  refine EW.reg ?_
  refine EP.o rfl (Does.makeFunc (fun a ha => map_args ha rfl) (fun a ha => map_args ha rfl)) ?_
  refine EP.o rfl (Does.assign rfl) ?_
  refine EP.nil ?_
  refine EW.seq ?_
  refine EW.seq ?_
  refine EW.reg ?_
  refine EP.o rfl (Does.loadB o149 rfl (Keeps.now _) (by assumption) (by rfl)) ?_
  refine EP.o rfl (Does.nilCheck rfl) ?_
  refine EP.o rfl (Does.fieldAddr fl254_0 rfl) ?_
  refine EP.o rfl (Does.loadB o3 rfl (Keeps.now _) (by assumption) (by rfl)) ?_
  refine EP.nil ?_
  refine EW.block ?_
  refine EW.cut (fun e9 wr => Sub [(1, .pointer (some ⟨b1, 0, none⟩)), (2, .bool false), (3, .func (.func 230) #[] #[.pointer (some ⟨b1, 0, none⟩)]), (40, .int .i64 t.kind), (41, .bool (decide (t.kind = 0 ∨ t.kind = 1)))] e9 ∧ wr = w9 ∧ Chg [] w wr) ?_ ?_
  · refine EW.seq ?_
    refine EW.reg ?_
    refine EP.o rfl (Does.cmp rfl rfl rfl) ?_
    refine EP.o rfl (Does.assign rfl) ?_
    refine EP.nil ?_
    refine EW.cond rfl (fun a1 => ?_) (fun a1 => ?_)
    · try simp at a1
      refine EW.skip ?_
      refine ⟨⟨rfl, rfl, rfl, rfl, (lk_bool rfl (by rw [Bool.eq_iff_iff, cmpB_eql, decide_eq_true_iff]; omega)), trivial⟩, ?_⟩
      exact ⟨rfl, hC⟩
    · try simp at a1
      refine EW.reg ?_
      refine EP.o rfl (Does.cmp rfl rfl rfl) ?_
      refine EP.o rfl (Does.assign rfl) ?_
      refine EP.nil ?_
      refine ⟨⟨rfl, rfl, rfl, rfl, (lk_bool rfl (by rw [Bool.eq_iff_iff, cmpB_eql, decide_eq_true_iff]; omega)), trivial⟩, ?_⟩
      exact ⟨rfl, hC⟩
  rintro e9 w8 ⟨hs9, rfl, hC⟩
  refine EW.sub _ hs9 ?_
  clear hs9 e9
  try have hzw := hC.size
  try have hlB0 := hB0.lt
  try have hlB1 := hB1.lt
  refine EW.cond rfl (fun a2 => ?_) (fun a2 => ?_)
  · try simp at a2
    refine EW.seq ?_
    refine EW.reg ?_
    refine EP.o rfl (Does.loadB o149 rfl (Keeps.now _) (by assumption) (by rfl)) ?_
    refine EP.o rfl (Does.nilCheck rfl) ?_
    refine EP.o rfl (Does.fieldAddr fl254_5 rfl) ?_
    refine EP.o rfl (Does.loadB o241 rfl (Keeps.now _) (by assumption) (by rfl)) ?_
    refine EP.o rfl (Does.lenL Tryz.underlying241 rfl) ?_
    refine EP.o rfl (Does.cmp rfl rfl rfl) ?_
    refine EP.o rfl (Does.assign rfl) ?_
    refine EP.nil ?_
    refine EW.ret ?_
    refine Fin.one rfl rfl ?_
    exact ⟨vbool (by unfold kidsQ; rw [if_pos a2, Bool.eq_iff_iff, cmpB_eql, decide_eq_true_iff]; omega), hC⟩
  · try simp at a2
    refine EW.cut (fun e9 wr => Sub [(1, .pointer (some ⟨b1, 0, none⟩)), (2, .bool false), (3, .func (.func 230) #[] #[.pointer (some ⟨b1, 0, none⟩)]), (40, .int .i64 t.kind), (50, .bool (decide (t.kind = 2 ∨ t.kind = 3)))] e9 ∧ wr = w8 ∧ Chg [] w wr) ?_ ?_
    · refine EW.seq ?_
      refine EW.reg ?_
      refine EP.o rfl (Does.cmp rfl rfl rfl) ?_
      refine EP.o rfl (Does.assign rfl) ?_
      refine EP.nil ?_
      refine EW.cond rfl (fun a1 => ?_) (fun a1 => ?_)
      · try simp at a1
        refine EW.skip ?_
        refine ⟨⟨rfl, rfl, rfl, rfl, (lk_bool rfl (by rw [Bool.eq_iff_iff, cmpB_eql, decide_eq_true_iff]; omega)), trivial⟩, ?_⟩
        exact ⟨rfl, hC⟩
      · try simp at a1
        refine EW.reg ?_
        refine EP.o rfl (Does.cmp rfl rfl rfl) ?_
        refine EP.o rfl (Does.assign rfl) ?_
        refine EP.nil ?_
        refine ⟨⟨rfl, rfl, rfl, rfl, (lk_bool rfl (by rw [Bool.eq_iff_iff, cmpB_eql, decide_eq_true_iff]; omega)), trivial⟩, ?_⟩
        exact ⟨rfl, hC⟩
    rintro e9 w7 ⟨hs9, rfl, hC⟩
    refine EW.sub _ hs9 ?_
    clear hs9 e9
    try have hzw := hC.size
    try have hlB0 := hB0.lt
    try have hlB1 := hB1.lt
    refine EW.cond rfl (fun a3 => ?_) (fun a3 => ?_)
    · try simp at a3
      refine EW.seq ?_
      refine EW.reg ?_
      refine EP.o rfl (Does.loadB o149 rfl (Keeps.now _) (by assumption) (by rfl)) ?_
      refine EP.o rfl (Does.nilCheck rfl) ?_
      refine EP.o rfl (Does.fieldAddr fl254_5 rfl) ?_
      refine EP.o rfl (Does.loadB o241 rfl (Keeps.now _) (by assumption) (by rfl)) ?_
      refine EP.o rfl (Does.lenL Tryz.underlying241 rfl) ?_
      refine EP.o rfl (Does.cmp rfl rfl rfl) ?_
      refine EP.o rfl (Does.assign rfl) ?_
      refine EP.nil ?_
      refine EW.ret ?_
      refine Fin.one rfl rfl ?_
      exact ⟨vbool (by unfold kidsQ; rw [if_neg (by omega), if_pos a3, Bool.eq_iff_iff, cmpB_eql, decide_eq_true_iff]; omega), hC⟩
    · try simp at a3
      refine EW.seq ?_
      refine EW.reg ?_
      refine EP.o rfl (Does.cmp rfl rfl rfl) ?_
      refine EP.o rfl (Does.assign rfl) ?_
      refine EP.nil ?_
      refine EW.cond rfl (fun a4 => ?_) (fun a4 => ?_)
      · try simp at a4
        have hE : kidsQ t = (decide (1 < t.l.length) && notK [4, 0, 5] t.l) := by unfold kidsQ; rw [if_neg (by omega), if_neg (by omega), if_pos a4]
        refine EW.seq ?_
        refine EW.reg ?_
        refine EP.o rfl (Does.loadB o149 rfl (Keeps.now _) (by assumption) (by rfl)) ?_
        refine EP.o rfl (Does.nilCheck rfl) ?_
        refine EP.o rfl (Does.fieldAddr fl254_5 rfl) ?_
        refine EP.o rfl (Does.loadB o241 rfl (Keeps.now _) (by assumption) (by rfl)) ?_
        refine EP.o rfl (Does.lenL Tryz.underlying241 rfl) ?_
        refine EP.o rfl (Does.cmp rfl rfl rfl) ?_
        refine EP.o rfl (Does.move rfl) ?_
        refine EP.bsplit (d := 67) rfl (fun a5 => ?_) (fun a5 => ?_)
        · try simp at a5
          refine EP.ung rfl rfl rfl ?_
          refine EP.o rfl (Does.move rfl) ?_
          refine EP.ung rfl rfl rfl ?_
          refine EP.new2 rfl (News.buildL sl24 Tryz.underlying24 zr3 rfl rfl rfl (by rfl)) ?_
          intro b5 w5 hb5 hs5 hx5 hB5
          have hz5 := hx5.size
          replace hC := hC.step0 hx5
          replace hI := hI.chg0 hx5
          replace hB0 := hB0.chg0 hx5
          replace hr := hr.chg0 hx5
          replace hIs := hIs.chg0 hx5
          replace hB1 := hB1.chg0 hx5
          refine EP.ung rfl rfl rfl ?_
          refine EP.call2 rfl (Enters.clo rfl hb230 rfl) (form1s_c t _ F [4, 0, 5] _ _ _ _ b1 _ (by decide) hl (fun y hy => by have := hF y hy; omega) (by assumption) rfl (by assumption) (by assumption)) ?_
          rintro _ w6 ⟨rfl, hx6⟩
          have hz6 := hx6.size
          replace hC := hC.step0 hx6
          replace hI := hI.chg0 hx6
          replace hB0 := hB0.chg0 hx6
          replace hr := hr.chg0 hx6
          replace hIs := hIs.chg0 hx6
          replace hB1 := hB1.chg0 hx6
          replace hB5 := hB5.chg0 hx6
          refine EP.o rfl (Does.pickT rfl rfl) ?_
          refine EP.o rfl (Does.assign rfl) ?_
          refine EP.nil ?_
          refine EW.ret ?_
          refine Fin.one rfl rfl ?_
          exact ⟨vbool (by rw [hE, decide_eq_true (by omega)]; rfl), hC⟩
        · try simp at a5
          refine EP.skp rfl rfl rfl rfl rfl (fun h => by cases h) ?_
          refine EP.skp rfl rfl rfl rfl rfl (fun h => by cases h) ?_
          refine EP.skp rfl rfl rfl rfl rfl (fun h => by cases h) ?_
          refine EP.o rfl (Does.pickF rfl rfl) ?_
          refine EP.o rfl (Does.assign rfl) ?_
          refine EP.nil ?_
          refine EW.ret ?_
          refine Fin.one rfl rfl ?_
          exact ⟨vbool (by rw [hE, decide_eq_false (by omega)]; rfl), hC⟩
      · try simp at a4
        refine EW.seq ?_
        refine EW.reg ?_
        refine EP.o rfl (Does.cmp rfl rfl rfl) ?_
        refine EP.o rfl (Does.assign rfl) ?_
        refine EP.nil ?_
        refine EW.cond rfl (fun a6 => ?_) (fun a6 => ?_)
        · try simp at a6
          have hE : kidsQ t = (decide (1 < t.l.length) && notK [5] t.l) := by unfold kidsQ; rw [if_neg (by omega), if_neg (by omega), if_neg (by omega), if_pos a6]
          refine EW.seq ?_
          refine EW.reg ?_
          refine EP.o rfl (Does.loadB o149 rfl (Keeps.now _) (by assumption) (by rfl)) ?_
          refine EP.o rfl (Does.nilCheck rfl) ?_
          refine EP.o rfl (Does.fieldAddr fl254_5 rfl) ?_
          refine EP.o rfl (Does.loadB o241 rfl (Keeps.now _) (by assumption) (by rfl)) ?_
          refine EP.o rfl (Does.lenL Tryz.underlying241 rfl) ?_
          refine EP.o rfl (Does.cmp rfl rfl rfl) ?_
          refine EP.o rfl (Does.move rfl) ?_
          refine EP.bsplit (d := 80) rfl (fun a7 => ?_) (fun a7 => ?_)
          · try simp at a7
            refine EP.ung rfl rfl rfl ?_
            refine EP.o rfl (Does.move rfl) ?_
            refine EP.ung rfl rfl rfl ?_
            refine EP.new2 rfl (News.buildL sl24 Tryz.underlying24 zr3 rfl rfl rfl (by rfl)) ?_
            intro b7 w7 hb7 hs7 hx7 hB7
            have hz7 := hx7.size
            replace hC := hC.step0 hx7
            replace hI := hI.chg0 hx7
            replace hB0 := hB0.chg0 hx7
            replace hr := hr.chg0 hx7
            replace hIs := hIs.chg0 hx7
            replace hB1 := hB1.chg0 hx7
            refine EP.ung rfl rfl rfl ?_
            refine EP.call2 rfl (Enters.clo rfl hb230 rfl) (form1s_c t _ F [5] _ _ _ _ b1 _ (by decide) hl (fun y hy => by have := hF y hy; omega) (by assumption) rfl (by assumption) (by assumption)) ?_
            rintro _ w8 ⟨rfl, hx8⟩
            have hz8 := hx8.size
            replace hC := hC.step0 hx8
            replace hI := hI.chg0 hx8
            replace hB0 := hB0.chg0 hx8
            replace hr := hr.chg0 hx8
            replace hIs := hIs.chg0 hx8
            replace hB1 := hB1.chg0 hx8
            replace hB7 := hB7.chg0 hx8
            refine EP.o rfl (Does.pickT rfl rfl) ?_
            refine EP.o rfl (Does.assign rfl) ?_
            refine EP.nil ?_
            refine EW.ret ?_
            refine Fin.one rfl rfl ?_
            exact ⟨vbool (by rw [hE, decide_eq_true (by omega)]; rfl), hC⟩
          · try simp at a7
            refine EP.skp rfl rfl rfl rfl rfl (fun h => by cases h) ?_
            refine EP.skp rfl rfl rfl rfl rfl (fun h => by cases h) ?_
            refine EP.skp rfl rfl rfl rfl rfl (fun h => by cases h) ?_
            refine EP.o rfl (Does.pickF rfl rfl) ?_
            refine EP.o rfl (Does.assign rfl) ?_
            refine EP.nil ?_
            refine EW.ret ?_
            refine Fin.one rfl rfl ?_
            exact ⟨vbool (by rw [hE, decide_eq_false (by omega)]; rfl), hC⟩
        · try simp at a6
          refine EW.seq ?_
          refine EW.reg ?_
          refine EP.o rfl (Does.cmp rfl rfl rfl) ?_
          refine EP.o rfl (Does.assign rfl) ?_
          refine EP.nil ?_
          refine EW.cond rfl (fun a8 => ?_) (fun a8 => ?_)
          · try simp at a8
            have hE : kidsQ t = (decide (t.l.length = 1) && (countOk t && (decide ((t.l.getD 0 default).kind = 1) || groupedQ (t.l.getD 0 default)))) := by unfold kidsQ; rw [if_neg (by omega), if_neg (by omega), if_neg (by omega), if_neg (by omega), if_pos a8]
            refine EW.seq ?_
            refine EW.reg ?_
            refine EP.o rfl (Does.loadB o149 rfl (Keeps.now _) (by assumption) (by rfl)) ?_
            refine EP.o rfl (Does.nilCheck rfl) ?_
            refine EP.o rfl (Does.fieldAddr fl254_5 rfl) ?_
            refine EP.o rfl (Does.loadB o241 rfl (Keeps.now _) (by assumption) (by rfl)) ?_
            refine EP.o rfl (Does.lenL Tryz.underlying241 rfl) ?_
            refine EP.o rfl (Does.cmp rfl rfl rfl) ?_
            refine EP.o rfl (Does.move rfl) ?_
            refine EP.bsplit (d := 93) rfl (fun a9 => ?_) (fun a9 => ?_)
            · try simp at a9
              have a9' : t.l.length = 1 := by omega
              refine EP.ung rfl rfl rfl ?_
              refine EP.o rfl (Does.loadB o149 rfl (Keeps.now _) (by assumption) (by rfl)) ?_
              refine EP.ung rfl rfl rfl ?_
              refine EP.call2 rfl (Enters.fn fb233 rfl) (counted_c t _ F _ (by assumption)) ?_
              rintro _ w9 ⟨rfl, hx9⟩
              have hz9 := hx9.size
              replace hC := hC.step0 hx9
              replace hI := hI.chg0 hx9
              replace hB0 := hB0.chg0 hx9
              replace hr := hr.chg0 hx9
              replace hIs := hIs.chg0 hx9
              replace hB1 := hB1.chg0 hx9
              refine EP.o rfl (Does.pickT rfl rfl) ?_
              refine EP.o rfl (Does.move rfl) ?_
              refine EP.bsplit (d := 97) rfl (fun a10 => ?_) (fun a10 => ?_)
              · try simp at a10
                obtain ⟨v0, hv0, hi0⟩ := hIs.get 0 (by omega)
                generalize t.l.getD 0 default = ch at *
                obtain ⟨p0, cs0, rfl, _, hBc, _, _, hk0⟩ := hi0.span
                obtain ⟨g, off, rfl, _, _, _⟩ := hr.at_ (by omega)
                refine EP.ung rfl rfl rfl ?_
                refine EP.o rfl (Does.loadB o149 rfl (Keeps.now _) (by assumption) (by rfl)) ?_
                refine EP.ung rfl rfl rfl ?_
                refine EP.o rfl (Does.nilCheck rfl) ?_
                refine EP.ung rfl rfl rfl ?_
                refine EP.o rfl (Does.fieldAddr fl254_5 rfl) ?_
                refine EP.ung rfl rfl rfl ?_
                refine EP.o rfl (Does.loadB o241 rfl (Keeps.now _) (by assumption) (by rfl)) ?_
                refine EP.ung rfl rfl rfl ?_
                refine EP.o rfl (Does.indexAddr1 sl241 rfl rfl (by omega) (by omega)) ?_
                refine EP.ung rfl rfl rfl ?_
                refine EP.o rfl (Does.load1 o149 rfl (Keeps.now _) (hr.one hv0).2) ?_
                refine EP.ung rfl rfl rfl ?_
                refine EP.o rfl (Does.nilCheck rfl) ?_
                refine EP.ung rfl rfl rfl ?_
                refine EP.o rfl (Does.fieldAddr fl254_0 rfl) ?_
                refine EP.ung rfl rfl rfl ?_
                refine EP.o rfl (Does.load1 o3 rfl (Keeps.now _) (by rw [hBc.cell]; exact hk0)) ?_
                refine EP.ung rfl rfl rfl ?_
                refine EP.o rfl (Does.cmp rfl rfl rfl) ?_
                refine EP.ung rfl rfl rfl ?_
                refine EP.o rfl (Does.move rfl) ?_
                refine EP.bsplit (d := 108) rfl (fun a11 => ?_) (fun a11 => ?_)
                · try simp at a11
                  refine EP.skp rfl rfl rfl rfl rfl (fun h => by cases h) ?_
                  refine EP.skp rfl rfl rfl rfl rfl (fun h => by cases h) ?_
                  refine EP.skp rfl rfl rfl rfl rfl (fun h => by cases h) ?_
                  refine EP.skp rfl rfl rfl rfl rfl (fun h => by cases h) ?_
                  refine EP.skp rfl rfl rfl rfl rfl (fun h => by cases h) ?_
                  refine EP.skp rfl rfl rfl rfl rfl (fun h => by cases h) ?_
                  refine EP.skp rfl rfl rfl rfl rfl (fun h => by cases h) ?_
                  refine EP.ung rfl rfl rfl ?_
                  refine EP.o rfl (Does.pickT rfl rfl) ?_
                  refine EP.o rfl (Does.pickT rfl rfl) ?_
                  refine EP.o rfl (Does.assign rfl) ?_
                  refine EP.nil ?_
                  refine EW.ret ?_
                  refine Fin.one rfl rfl ?_
                  exact ⟨vbool (by rw [hE, decide_eq_true a9', a10, decide_eq_true a11]; rfl), hC⟩
                · try simp at a11
                  refine EP.ung rfl rfl rfl ?_
                  refine EP.o rfl (Does.loadB o149 rfl (Keeps.now _) (by assumption) (by rfl)) ?_
                  refine EP.ung rfl rfl rfl ?_
                  refine EP.o rfl (Does.nilCheck rfl) ?_
                  refine EP.ung rfl rfl rfl ?_
                  refine EP.o rfl (Does.fieldAddr fl254_5 rfl) ?_
                  refine EP.ung rfl rfl rfl ?_
                  refine EP.o rfl (Does.loadB o241 rfl (Keeps.now _) (by assumption) (by rfl)) ?_
                  refine EP.ung rfl rfl rfl ?_
                  refine EP.o rfl (Does.indexAddr1 sl241 rfl rfl (by omega) (by omega)) ?_
                  refine EP.ung rfl rfl rfl ?_
                  refine EP.o rfl (Does.load1 o149 rfl (Keeps.now _) (hr.one hv0).2) ?_
                  refine EP.ung rfl rfl rfl ?_
                  refine EP.call2 rfl (Enters.fn fb214 rfl) (grouped_c _ _ F _ hi0) ?_
                  rintro _ w10 ⟨rfl, hx10⟩
                  have hz10 := hx10.size
                  replace hC := hC.step0 hx10
                  replace hI := hI.chg0 hx10
                  replace hB0 := hB0.chg0 hx10
                  replace hr := hr.chg0 hx10
                  replace hIs := hIs.chg0 hx10
                  replace hB1 := hB1.chg0 hx10
                  refine EP.ung rfl rfl rfl ?_
                  refine EP.o rfl (Does.pickF rfl rfl) ?_
                  refine EP.o rfl (Does.pickT rfl rfl) ?_
                  refine EP.o rfl (Does.assign rfl) ?_
                  refine EP.nil ?_
                  refine EW.ret ?_
                  refine Fin.one rfl rfl ?_
                  exact ⟨vbool (by rw [hE, decide_eq_true a9', a10, decide_eq_false a11]; simp), hC⟩
              · try simp at a10
                refine EP.skp rfl rfl rfl rfl rfl (fun h => by cases h) ?_
                refine EP.skp rfl rfl rfl rfl rfl (fun h => by cases h) ?_
                refine EP.skp rfl rfl rfl rfl rfl (fun h => by cases h) ?_
                refine EP.skp rfl rfl rfl rfl rfl (fun h => by cases h) ?_
                refine EP.skp rfl rfl rfl rfl rfl (fun h => by cases h) ?_
                refine EP.skp rfl rfl rfl rfl rfl (fun h => by cases h) ?_
                refine EP.skp rfl rfl rfl rfl rfl (fun h => by cases h) ?_
                refine EP.skp rfl rfl rfl rfl rfl (fun h => by cases h) ?_
                refine EP.skp rfl rfl rfl rfl rfl (fun h => by cases h) ?_
                refine EP.skp rfl rfl rfl rfl rfl (fun h => by cases h) ?_
                refine EP.skp rfl rfl rfl rfl rfl (fun h => by cases h) ?_
                refine EP.sku rfl rfl rfl rfl (fun h => by cases h) ?_
                refine EP.sku rfl rfl rfl rfl (fun h => by cases h) ?_
                refine EP.sku rfl rfl rfl rfl (fun h => by cases h) ?_
                refine EP.sku rfl rfl rfl rfl (fun h => by cases h) ?_
                refine EP.sku rfl rfl rfl rfl (fun h => by cases h) ?_
                refine EP.sku rfl rfl rfl rfl (fun h => by cases h) ?_
                refine EP.sku rfl rfl rfl rfl (fun h => by cases h) ?_
                refine EP.skp rfl rfl rfl rfl rfl (fun h => by cases h) ?_
                refine EP.o rfl (Does.pickF rfl rfl) ?_
                refine EP.o rfl (Does.assign rfl) ?_
                refine EP.nil ?_
                refine EW.ret ?_
                refine Fin.one rfl rfl ?_
                exact ⟨vbool (by rw [hE, a10]; simp), hC⟩
            · try simp at a9
              refine EP.skp rfl rfl rfl rfl rfl (fun h => by cases h) ?_
              refine EP.skp rfl rfl rfl rfl rfl (fun h => by cases h) ?_
              refine EP.o rfl (Does.pickF rfl rfl) ?_
              refine EP.o rfl (Does.move rfl) ?_
              refine EP.skp rfl rfl rfl rfl rfl (fun h => by cases h) ?_
              refine EP.skp rfl rfl rfl rfl rfl (fun h => by cases h) ?_
              refine EP.skp rfl rfl rfl rfl rfl (fun h => by cases h) ?_
              refine EP.skp rfl rfl rfl rfl rfl (fun h => by cases h) ?_
              refine EP.skp rfl rfl rfl rfl rfl (fun h => by cases h) ?_
              refine EP.skp rfl rfl rfl rfl rfl (fun h => by cases h) ?_
              refine EP.skp rfl rfl rfl rfl rfl (fun h => by cases h) ?_
              refine EP.skp rfl rfl rfl rfl rfl (fun h => by cases h) ?_
              refine EP.skp rfl rfl rfl rfl rfl (fun h => by cases h) ?_
              refine EP.skp rfl rfl rfl rfl rfl (fun h => by cases h) ?_
              refine EP.skp rfl rfl rfl rfl rfl (fun h => by cases h) ?_
              refine EP.sku rfl rfl rfl rfl (fun h => by cases h) ?_
              refine EP.sku rfl rfl rfl rfl (fun h => by cases h) ?_
              refine EP.sku rfl rfl rfl rfl (fun h => by cases h) ?_
              refine EP.sku rfl rfl rfl rfl (fun h => by cases h) ?_
              refine EP.sku rfl rfl rfl rfl (fun h => by cases h) ?_
              refine EP.sku rfl rfl rfl rfl (fun h => by cases h) ?_
              refine EP.sku rfl rfl rfl rfl (fun h => by cases h) ?_
              refine EP.skp rfl rfl rfl rfl rfl (fun h => by cases h) ?_
              refine EP.o rfl (Does.pickF rfl rfl) ?_
              refine EP.o rfl (Does.assign rfl) ?_
              refine EP.nil ?_
              refine EW.ret ?_
              refine Fin.one rfl rfl ?_
              exact ⟨vbool (by rw [hE, decide_eq_false (by omega)]; rfl), hC⟩
          · try simp at a8
            refine EW.skip ?_
            refine EW.seq ?_
            refine EW.reg ?_
            refine EP.o rfl (Does.assign rfl) ?_
            refine EP.nil ?_
            refine EW.ret ?_
            refine Fin.one rfl rfl ?_
            exact ⟨vbool (by unfold kidsQ; rw [if_neg (by omega), if_neg (by omega), if_neg (by omega), if_neg (by omega), if_neg (by omega)]), hC⟩
end Go.Clt
end
section
set_option linter.unusedVariables false
set_option linter.unusedSimpArgs false
set_option maxRecDepth 4000
namespace Go.Clt
set_option maxHeartbeats 4000000
open Go Go.RowKit Go.Proofs
mutual
def SynOk : Syn → Prop
  | .node _ s _ _ _ l _ _ => SetOk s ∧ l.length ≤ 2000000 ∧ SynsOk l
def SynsOk : List Syn → Prop
  | [] => True
  | t :: r => SynOk t ∧ SynsOk r
end
mutual
def formedQ : Syn → Bool
  | .node k s mn mx lz l a b => formQ (.node k s mn mx lz l a b) && formedL l
def formedL : List Syn → Bool
  | [] => true
  | t :: r => formedQ t && formedL r
end
mutual
def deepQ : Syn → Nat
  | .node k _ _ _ _ l _ _ => if k = 2 ∨ k = 3 then deepL l + 1 else deepL l
def deepL : List Syn → Nat
  | [] => 0
  | t :: r => max (deepQ t) (deepL r)
end
theorem SynsOk.get : ∀ {l : List Syn}, SynsOk l → ∀ k, k < l.length → SynOk (l.getD k default)
  | [], h, k, hk => by simp at hk
  | t :: r, h, 0, hk => h.1
  | t :: r, h, k + 1, hk => by simpa using SynsOk.get h.2 k (by simpa using hk)
theorem formedL_any : ∀ (l : List Syn), formedL l = !((List.range l.length).any fun k => !formedQ (l.getD k default))
  | [] => rfl
  | t :: r => by
    rw [formedL, formedL_any r, List.length_cons, List.range_succ_eq_map, List.any_cons, List.any_map]
    simp only [List.getD_cons_zero, Function.comp_def, List.getD_cons_succ, Bool.not_or, Bool.not_not]
def FormedC (t : Syn) : Prop := ∀ (v : Value) (F : Nat → Prop) (w : World), (∀ b, F b → b < w.heap.size) → IsSyn F w t v → Calls P 184 #[v] w (Ret fun u w' => u = .bool (formedQ t) ∧ Chg [] w w')
theorem formed1_c (t : Syn) (v : Value) (F : Nat → Prop) (w : World) (hF : ∀ b, F b → b < w.heap.size) (hI : IsSyn F w t v) (hc : FormedC t) : Calls P 213 #[v] w (Ret fun u w' => u = .bool (!formedQ t) ∧ Chg [] w w') := by
  have hC := Chg.refl [] w
  refine enter Tryz.func213 rfl rfl ?_
  refine EW.seq ?_
  refine EW.reg ?_
  refine EP.o rfl (Does.assign rfl) ?_
  refine EP.nil ?_
  refine EW.seq ?_
  refine EW.reg ?_
  refine EP.o rfl (Does.move rfl) ?_
  refine EP.call2 rfl (Enters.fn fb184 rfl) (hc v F _ hF hI) ?_
  rintro _ w1 ⟨rfl, hx1⟩
  have hz1 := hx1.size
  replace hC := hC.step0 hx1
  refine EP.o rfl (Does.not rfl) ?_
  refine EP.o rfl (Does.assign rfl) ?_
  refine EP.nil ?_
  refine EW.ret ?_
  refine Fin.one rfl rfl ?_
  exact ⟨rfl, hC⟩
theorem formed_kids {l : List Syn} {vs : List Value} {F : Nat → Prop} {w : World} (hIs : IsSyns F w l vs) (hF : ∀ b, F b → b < w.heap.size) (hc : ∀ k, k < l.length → FormedC (l.getD k default)) (k : Nat) (v : Value) (w' : World) (hk : k < l.length) (hv : vs[k]? = some v) (hx : Chg [] w w') :
    Calls P 213 (#[] ++ #[v] ++ #[]) w' (Ret fun u w2 => u = .bool (!formedQ (l.getD k default)) ∧ Chg [] w' w2) := by
  obtain ⟨u, hu, hiu⟩ := (hIs.chg0 hx).get k hk
  rw [hv] at hu
  injection hu with hu
  subst hu
  exact formed1_c _ _ F w' (fun y hy => by have := hF y hy; have := hx.size; omega) hiu (hc k hk)
theorem formed_step (t : Syn) (ht : SynOk t) (hc : ∀ k, k < t.l.length → FormedC (t.l.getD k default)) : FormedC t := by
  intro v F w hF hI
  have hC := Chg.refl [] w
  have hset : SetOk t.set := by cases t with | node k s mn mx lz l a b => exact ht.1
  have hll : t.l.length ≤ 2000000 := by cases t with | node k s mn mx lz l a b => exact ht.2.1
  have hE : formedQ t = (formQ t && formedL t.l) := by cases t with | node k s mn mx lz l a b => rfl
  obtain ⟨q, A1, c1, vs, rfl, _, hB0, hr, hIs⟩ := hI.open
  try have hlB0 := hB0.lt
  refine enter Tryz.func184 rfl rfl ?_
  refine EW.seq ?_
  refine EW.reg ?_
  refine EP.o rfl (Does.assign rfl) ?_
  refine EP.nil ?_
  refine EW.seq ?_
  refine EW.reg ?_
  refine EP.o rfl (Does.move rfl) ?_
  refine EP.o rfl (Does.nePtr Tryz.underlying149 rfl rfl) ?_
  refine EP.o rfl (Does.move rfl) ?_
  refine EP.bsplit (d := 5) rfl (fun h0 => ?_) (fun h0 => ?_)
  · try simp at h0
    refine EP.ung rfl rfl rfl ?_
    refine EP.o rfl (Does.move rfl) ?_
    refine EP.ung rfl rfl rfl ?_
    refine EP.call2 rfl (Enters.fn fb211 rfl) (form_c t _ F _ hset hll (fun y hy => by have := hF y hy; omega) (by assumption)) ?_
    rintro _ w1 ⟨rfl, hx1⟩
    have hz1 := hx1.size
    replace hC := hC.step0 hx1
    replace hI := hI.chg0 hx1
    replace hB0 := hB0.chg0 hx1
    replace hr := hr.chg0 hx1
    replace hIs := hIs.chg0 hx1
    refine EP.o rfl (Does.pickT rfl rfl) ?_
    refine EP.o rfl (Does.move rfl) ?_
    refine EP.bsplit (d := 9) rfl (fun h1 => ?_) (fun h1 => ?_)
    · try simp at h1
      refine EP.ung rfl rfl rfl ?_
      refine EP.o rfl (Does.move rfl) ?_
      refine EP.ung rfl rfl rfl ?_
      refine EP.o rfl (Does.nilCheck rfl) ?_
      refine EP.ung rfl rfl rfl ?_
      refine EP.o rfl (Does.fieldAddr fl254_5 rfl) ?_
      refine EP.ung rfl rfl rfl ?_
      refine EP.o rfl (Does.loadB o241 rfl (Keeps.now _) (by assumption) (by rfl)) ?_
      refine EP.ung rfl rfl rfl ?_
      refine EP.call2 rfl (Enters.fn fb212 rfl) (anyN_c 213 #[] #[] fb213 vs (fun k => !formedQ (t.l.getD k default)) F A1 t.l.length c1 _ hll (fun y hy => by have := hF y hy; omega) (by assumption) (formed_kids hIs (fun y hy => by have := hF y hy; omega) hc)) ?_
      rintro _ w2 ⟨rfl, hx2⟩
      have hz2 := hx2.size
      replace hC := hC.step0 hx2
      replace hI := hI.chg0 hx2
      replace hB0 := hB0.chg0 hx2
      replace hr := hr.chg0 hx2
      replace hIs := hIs.chg0 hx2
      refine EP.ung rfl rfl rfl ?_
      refine EP.o rfl (Does.not rfl) ?_
      refine EP.o rfl (Does.pickT rfl rfl) ?_
      refine EP.o rfl (Does.assign rfl) ?_
      refine EP.nil ?_
      refine EW.ret ?_
      refine Fin.one rfl rfl ?_
      exact ⟨vbool (by rw [hE, h1, formedL_any]; rfl), hC⟩
    · try simp at h1
      refine EP.skp rfl rfl rfl rfl rfl (fun h => by cases h) ?_
      refine EP.skp rfl rfl rfl rfl rfl (fun h => by cases h) ?_
      refine EP.skp rfl rfl rfl rfl rfl (fun h => by cases h) ?_
      refine EP.skp rfl rfl rfl rfl rfl (fun h => by cases h) ?_
      refine EP.skp rfl rfl rfl rfl rfl (fun h => by cases h) ?_
      refine EP.skp rfl rfl rfl rfl rfl (fun h => by cases h) ?_
      refine EP.o rfl (Does.pickF rfl rfl) ?_
      refine EP.o rfl (Does.assign rfl) ?_
      refine EP.nil ?_
      refine EW.ret ?_
      refine Fin.one rfl rfl ?_
      exact ⟨vbool (by rw [hE, h1]; rfl), hC⟩
  · try simp at h0
    all_goals cases h0
mutual
theorem formed_all : ∀ (t : Syn), SynOk t → FormedC t
  | .node k s mn mx lz l a b, ht => formed_step _ ht (formed_list l ht.2.2)
theorem formed_list : ∀ (l : List Syn), SynsOk l → ∀ k, k < l.length → FormedC (l.getD k default)
  | [], _, k, hk => absurd hk (by simp)
  | t :: r, h, 0, _ => formed_all t h.1
  | t :: r, h, k + 1, hk => by rw [List.getD_cons_succ]; exact formed_list r h.2 k (by simpa using hk)
end
theorem deepL_take (l : List Syn) (k : Nat) (hk : k < l.length) : deepL (l.take (k + 1)) = max (deepL (l.take k)) (deepQ (l.getD k default)) := by
  induction l generalizing k with
  | nil => simp at hk
  | cons t r ih =>
    cases k with
    | zero => simp [deepL]
    | succ k =>
      have := ih k (by simpa using hk)
      simp only [List.take_succ_cons, deepL, List.getD_cons_succ, this]
      omega
def DeepC (t : Syn) : Prop := ∀ (v : Value) (F : Nat → Prop) (w : World), (∀ b, F b → b < w.heap.size) → IsSyn F w t v → Calls P 185 #[v] w (Ret fun u w' => u = .int .i64 (deepQ t : Nat) ∧ Chg [] w w')
theorem deep_step (t : Syn) (hll : t.l.length ≤ 2000000) (hd : deepL t.l ≤ 100000000) (hc : ∀ k, k < t.l.length → DeepC (t.l.getD k default)) : DeepC t := by
  intro v F w hF hI
  have hC := Chg.refl [] w
  have hE : deepQ t = if t.kind = 2 ∨ t.kind = 3 then deepL t.l + 1 else deepL t.l := by cases t with | node k s mn mx lz l a b => rfl
  have hgq : groupedQ t = decide (t.kind = 2 ∨ t.kind = 3) := by unfold groupedQ; rw [Bool.eq_iff_iff]; simp
  obtain ⟨q, A1, c1, vs, rfl, _, hB0, hr, hIs⟩ := hI.open
  try have hlB0 := hB0.lt
  refine enter Tryz.func185 rfl rfl ?_
  refine EW.seq ?_
  refine EW.reg ?_
  refine EP.o rfl (Does.assign rfl) ?_
  refine EP.nil ?_
  refine EW.seq ?_
  refine EW.seq ?_
  refine EW.reg ?_
  refine EP.o rfl (Does.move rfl) ?_
  refine EP.o rfl (Does.eqPtr Tryz.underlying149 rfl rfl) ?_
  refine EP.nil ?_
  refine EW.cond rfl (fun h0 => ?_) (fun h0 => ?_)
  · try simp at h0
    all_goals cases h0
  · try simp at h0
    refine EW.skip ?_
    refine EW.seq ?_
    refine EW.reg ?_
    refine EP.o rfl (Does.assign rfl) ?_
    refine EP.nil ?_
    refine EW.seq ?_
    refine EW.seq ?_
    refine EW.reg ?_
    refine EP.o rfl (Does.move rfl) ?_
    refine EP.o rfl (Does.nilCheck rfl) ?_
    refine EP.o rfl (Does.fieldAddr fl254_5 rfl) ?_
    refine EP.o rfl (Does.loadB o241 rfl (Keeps.now _) (by assumption) (by rfl)) ?_
    refine EP.o rfl (Does.lenL Tryz.underlying241 rfl) ?_
    refine EP.o rfl (Does.move rfl) ?_
    refine EP.nil ?_
    refine EW.block ?_
    refine EW.loop (σ := Nat) (fun k => [(0, .pointer (some ⟨q, 0, none⟩)), (3, .int .i64 ((deepL (t.l.take k) : Nat) : Int)), (11, .slice A1 t.l.length c1), (12, .int .i64 t.l.length), (13, .int .i64 k)]) (fun k wr => Chg [] w wr ∧ IsSyn F wr t (.pointer (some ⟨q, 0, none⟩)) ∧ Rd F wr 1 A1 t.l.length vs ∧ IsSyns F wr t.l vs ∧ k ≤ t.l.length) (fun k wr => t.l.length - k) 0 ⟨rfl, rfl, rfl, rfl, rfl, trivial⟩ ?_ ?_
    · exact ⟨hC, hI, hr, hIs, Nat.zero_le _⟩
    rintro k w9 ⟨hC, hI, hr, hIs, hk⟩
    try have hzw := hC.size
    refine EW.seq ?_
    refine EW.reg ?_
    refine EP.o rfl (Does.cmp rfl rfl rfl) ?_
    refine EP.nil ?_
    refine EW.seq ?_
    refine EW.cond rfl (fun h1 => ?_) (fun h1 => ?_)
    · try simp at h1
      have hkn : k < t.l.length := by omega
      obtain ⟨v0, hv0, hi0⟩ := hIs.get k hkn
      obtain ⟨g, off, rfl, _, _, _⟩ := hr.at_ (by omega)
      refine EW.skip ?_
      refine EW.seq ?_
      refine EW.block ?_
      refine EW.seq ?_
      refine EW.reg ?_
      refine EP.o rfl (Does.indexAddr1 sl241 rfl rfl (by omega) (by omega)) ?_
      refine EP.o rfl (Does.load1 o149 rfl (Keeps.now _) (hr.one hv0).2) ?_
      refine EP.o rfl (Does.assign rfl) ?_
      refine EP.nil ?_
      refine EW.reg ?_
      refine EP.o rfl (Does.move rfl) ?_
      refine EP.o rfl (Does.move rfl) ?_
      refine EP.call2 rfl (Enters.fn fb185 rfl) (hc k hkn v0 F _ (fun y hy => by have := hF y hy; omega) hi0) ?_
      rintro _ w1 ⟨rfl, hx1⟩
      have hz1 := hx1.size
      replace hC := hC.step0 hx1
      replace hI := hI.chg0 hx1
      replace hr := hr.chg0 hx1
      replace hIs := hIs.chg0 hx1
      refine EP.o rfl (Does.max rfl rfl) ?_
      refine EP.o rfl (Does.assign rfl) ?_
      refine EP.nil ?_
      refine EW.reg ?_
      refine EP.o rfl (Does.addi rfl rfl (by omega)) ?_
      refine EP.o rfl (Does.move rfl) ?_
      refine EP.nil ?_
      refine ⟨k + 1, ⟨rfl, (lk_int rfl (by rw [deepL_take t.l k hkn]; omega)), rfl, rfl, rfl, trivial⟩, ?_, ?_⟩
      exact ⟨hC, hI, hr, hIs, hkn⟩
      omega
    · try simp at h1
      have hkk : k = t.l.length := by omega
      subst hkk
      rw [List.take_length]
      refine EW.exit (brk_here ?_)
      refine EW.seq ?_
      refine EW.seq ?_
      refine EW.reg ?_
      refine EP.o rfl (Does.move rfl) ?_
      refine EP.call2 rfl (Enters.fn fb214 rfl) (grouped_c t _ F _ (by assumption)) ?_
      rintro _ w2 ⟨rfl, hx2⟩
      have hz2 := hx2.size
      replace hC := hC.step0 hx2
      replace hI := hI.chg0 hx2
      replace hr := hr.chg0 hx2
      replace hIs := hIs.chg0 hx2
      refine EP.nil ?_
      refine EW.cond rfl (fun h2 => ?_) (fun h2 => ?_)
      · try simp at h2
        refine EW.reg ?_
        refine EP.o rfl (Does.move rfl) ?_
        refine EP.o rfl (Does.addi rfl rfl (by omega)) ?_
        refine EP.o rfl (Does.assign rfl) ?_
        refine EP.nil ?_
        refine EW.seq ?_
        refine EW.reg ?_
        refine EP.o rfl (Does.move rfl) ?_
        refine EP.o rfl (Does.assign rfl) ?_
        refine EP.nil ?_
        refine EW.ret ?_
        refine Fin.one rfl rfl ?_
        exact ⟨vint (by rw [hE, if_pos (by rw [hgq] at h2; simpa using h2)]; omega), hC⟩
      · try simp at h2
        refine EW.skip ?_
        refine EW.seq ?_
        refine EW.reg ?_
        refine EP.o rfl (Does.move rfl) ?_
        refine EP.o rfl (Does.assign rfl) ?_
        refine EP.nil ?_
        refine EW.ret ?_
        refine Fin.one rfl rfl ?_
        exact ⟨vint (by rw [hE, if_neg (by rw [hgq] at h2; simpa using h2)]), hC⟩
end Go.Clt
end
section
set_option linter.unusedVariables false
set_option linter.unusedSimpArgs false
set_option maxRecDepth 4000
namespace Go.Clt
set_option maxHeartbeats 4000000
open Go Go.RowKit Go.Proofs
theorem deepQ_l (t : Syn) : deepL t.l ≤ deepQ t := by
  cases t with
  | node k s mn mx lz l a b => unfold deepQ; show deepL l ≤ _; split <;> omega
mutual
theorem deep_all : ∀ (t : Syn), SynOk t → deepQ t ≤ 100000000 → DeepC t
  | .node k s mn mx lz l a b, ht, hd => deep_step _ ht.2.1 (Nat.le_trans (deepQ_l _) hd) (deep_list l ht.2.2 (Nat.le_trans (deepQ_l (.node k s mn mx lz l a b)) hd))
theorem deep_list : ∀ (l : List Syn), SynsOk l → deepL l ≤ 100000000 → ∀ k, k < l.length → DeepC (l.getD k default)
  | [], _, _, k, hk => absurd hk (by simp)
  | t :: r, h, hd, 0, _ => deep_all t h.1 (by unfold deepL at hd; omega)
  | t :: r, h, hd, k + 1, hk => by rw [List.getD_cons_succ]; exact deep_list r h.2 (by unfold deepL at hd; omega) k (by simpa using hk)
end
def rightQ (t : Syn) : Bool := formedQ t && decide (deepQ t ≤ 200)
theorem right_c (t : Syn) (ht : SynOk t) (hd : deepQ t ≤ 100000000) (v : Value) (F : Nat → Prop) (w : World) (hF : ∀ b, F b → b < w.heap.size) (hI : IsSyn F w t v) : Calls P 152 #[v] w (Ret fun u w' => u = .bool (rightQ t) ∧ Chg [] w w') := by
  have hC := Chg.refl [] w
  refine enter Tryz.func152 rfl rfl ?_
  refine EW.seq ?_
  refine EW.reg ?_
  refine EP.o rfl (Does.assign rfl) ?_
  refine EP.nil ?_
  refine EW.seq ?_
  refine EW.reg ?_
  refine EP.o rfl (Does.move rfl) ?_
  refine EP.call2 rfl (Enters.fn fb184 rfl) (formed_all t ht v F _ hF (by assumption)) ?_
  rintro _ w1 ⟨rfl, hx1⟩
  have hz1 := hx1.size
  replace hC := hC.step0 hx1
  replace hI := hI.chg0 hx1
  refine EP.o rfl (Does.move rfl) ?_
  refine EP.bsplit (d := 5) rfl (fun h1 => ?_) (fun h1 => ?_)
  · try simp at h1
    refine EP.ung rfl rfl rfl ?_
    refine EP.o rfl (Does.move rfl) ?_
    refine EP.ung rfl rfl rfl ?_
    refine EP.call2 rfl (Enters.fn fb185 rfl) (deep_all t ht hd v F _ (fun y hy => by have := hF y hy; omega) (by assumption)) ?_
    rintro _ w2 ⟨rfl, hx2⟩
    have hz2 := hx2.size
    replace hC := hC.step0 hx2
    replace hI := hI.chg0 hx2
    refine EP.ung rfl rfl rfl ?_
    refine EP.o rfl (Does.cmp rfl rfl rfl) ?_
    refine EP.o rfl (Does.pickT rfl rfl) ?_
    refine EP.o rfl (Does.assign rfl) ?_
    refine EP.nil ?_
    refine EW.ret ?_
    refine Fin.one rfl rfl ?_
    exact ⟨vbool (by unfold rightQ; rw [h1, Bool.true_and, Bool.eq_iff_iff, cmpB_leq, decide_eq_true_iff]; omega), hC⟩
  · try simp at h1
    refine EP.skp rfl rfl rfl rfl rfl (fun h => by cases h) ?_
    refine EP.skp rfl rfl rfl rfl rfl (fun h => by cases h) ?_
    refine EP.skp rfl rfl rfl rfl rfl (fun h => by cases h) ?_
    refine EP.o rfl (Does.pickF rfl rfl) ?_
    refine EP.o rfl (Does.assign rfl) ?_
    refine EP.nil ?_
    refine EW.ret ?_
    refine Fin.one rfl rfl ?_
    exact ⟨vbool (by unfold rightQ; rw [h1]; rfl), hC⟩
end Go.Clt
end
section
set_option linter.unusedVariables false
set_option linter.unusedSimpArgs false
namespace Go.Clt
open Go Go.RowKit Go.Proofs
inductive Cor where
  | empty
  | set (s : Nat)
  | cat (a b : Cor)
  | alt (a b : Cor)
  | star (lz : Bool) (a : Cor)
def foldC (j : Cor → Cor → Cor) : List Cor → Cor
  | [] => .empty
  | [x] => x
  | x :: y :: r => j x (foldC j (y :: r))
def choiceC (n : Cor) (lz : Bool) : Cor := if lz then .alt .empty n else .alt n .empty
def choicesC (r : Cor) (lz : Bool) : Nat → Cor
  | 0 => choiceC r lz
  | k + 1 => choiceC (.cat r (choicesC r lz k)) lz
def repeatC (mn mx : Int) (lz : Bool) (r : Cor) : Cor :=
  foldC .cat (List.replicate mn.toNat r ++ (if mx = -1 then [.star lz r] else if mn < mx then [choicesC r lz ((mx - mn).toNat - 1)] else []))
mutual
def buildC : Syn → Cor
  | .node k s mn mx lz l a b =>
    if k = 1 then .set s
    else if k = 2 ∨ k = 3 then (buildL l).headD .empty
    else if k = 4 then foldC .cat (buildL l)
    else if k = 5 then foldC .alt (buildL l)
    else if k = 6 then repeatC mn mx lz ((buildL l).headD .empty)
    else .empty
def buildL : List Syn → List Cor
  | [] => []
  | t :: r => buildC t :: buildL r
end
def restC : Cor := .star true (.set (setNot 0))
def wrapC (r : Cor) (mode : Int) : Cor := if mode = 1 then .cat r restC else if mode = 2 then .cat restC r else if mode = 3 then .cat restC (.cat r restC) else r
def corC (k : Int) (s : Nat) (lz : Bool) (a b : Value) : List Value := [.int .i64 k] ++ setCells s ++ [.bool lz, a, b]
def IsCor (F : Nat → Prop) (w : World) : Cor → Value → Prop
  | .empty, v => ∃ p, v = .pointer (some ⟨p, 0, none⟩) ∧ F p ∧ Blk w p (corC 0 0 false (.pointer none) (.pointer none)) 214
  | .set s, v => ∃ p, v = .pointer (some ⟨p, 0, none⟩) ∧ F p ∧ Blk w p (corC 1 s false (.pointer none) (.pointer none)) 214
  | .cat a b, v => ∃ p va vb, v = .pointer (some ⟨p, 0, none⟩) ∧ F p ∧ Blk w p (corC 2 0 false va vb) 214 ∧ IsCor F w a va ∧ IsCor F w b vb
  | .alt a b, v => ∃ p va vb, v = .pointer (some ⟨p, 0, none⟩) ∧ F p ∧ Blk w p (corC 3 0 false va vb) 214 ∧ IsCor F w a va ∧ IsCor F w b vb
  | .star lz a, v => ∃ p va, v = .pointer (some ⟨p, 0, none⟩) ∧ F p ∧ Blk w p (corC 4 0 lz va (.pointer none)) 214 ∧ IsCor F w a va
theorem IsCor.map {F F' : Nat → Prop} {w w' : World} (hB : ∀ p cs τ, F p → Blk w p cs τ → F' p ∧ Blk w' p cs τ) : ∀ (t : Cor) (v : Value), IsCor F w t v → IsCor F' w' t v
  | .empty, v, ⟨p, h1, h2, h3⟩ => ⟨p, h1, (hB _ _ _ h2 h3).1, (hB _ _ _ h2 h3).2⟩
  | .set s, v, ⟨p, h1, h2, h3⟩ => ⟨p, h1, (hB _ _ _ h2 h3).1, (hB _ _ _ h2 h3).2⟩
  | .cat a b, v, ⟨p, va, vb, h1, h2, h3, h4, h5⟩ => ⟨p, va, vb, h1, (hB _ _ _ h2 h3).1, (hB _ _ _ h2 h3).2, IsCor.map hB a va h4, IsCor.map hB b vb h5⟩
  | .alt a b, v, ⟨p, va, vb, h1, h2, h3, h4, h5⟩ => ⟨p, va, vb, h1, (hB _ _ _ h2 h3).1, (hB _ _ _ h2 h3).2, IsCor.map hB a va h4, IsCor.map hB b vb h5⟩
  | .star lz a, v, ⟨p, va, h1, h2, h3, h4⟩ => ⟨p, va, h1, (hB _ _ _ h2 h3).1, (hB _ _ _ h2 h3).2, IsCor.map hB a va h4⟩
theorem IsCor.chg {F : Nat → Prop} {w w' : World} {S : List Nat} {t : Cor} {v : Value} (h : IsCor F w t v) (k : Chg S w w') (hS : ∀ b ∈ S, ¬ F b) : IsCor F w' t v :=
  IsCor.map (fun p cs τ hp hb => ⟨hp, hb.chg k (fun hm => hS p hm hp)⟩) t v h
theorem IsCor.chg0 {F : Nat → Prop} {w w' : World} {t : Cor} {v : Value} (h : IsCor F w t v) (k : Chg [] w w') : IsCor F w' t v := h.chg k (fun b hb => by cases hb)
theorem IsCor.mono {F F' : Nat → Prop} {w : World} {t : Cor} {v : Value} (h : IsCor F w t v) (hF : ∀ b, F b → b < w.heap.size → F' b) : IsCor F' w t v :=
  IsCor.map (fun p cs τ hp hb => ⟨hF p hp hb.lt, hb⟩) t v h
theorem IsCor.ptr {F : Nat → Prop} {w : World} {t : Cor} {v : Value} (h : IsCor F w t v) : ∃ p, v = .pointer (some ⟨p, 0, none⟩) := by
  cases t with
  | empty => obtain ⟨p, h1, _⟩ := h; exact ⟨p, h1⟩
  | set s => obtain ⟨p, h1, _⟩ := h; exact ⟨p, h1⟩
  | cat a b => obtain ⟨p, _, _, h1, _⟩ := h; exact ⟨p, h1⟩
  | alt a b => obtain ⟨p, _, _, h1, _⟩ := h; exact ⟨p, h1⟩
  | star lz a => obtain ⟨p, _, h1, _⟩ := h; exact ⟨p, h1⟩
end Go.Clt
end
section
set_option linter.unusedVariables false
set_option linter.unusedSimpArgs false
set_option maxRecDepth 4000
namespace Go.Clt
set_option maxHeartbeats 4000000
open Go Go.RowKit Go.Proofs
theorem corC0 (k : Int) (lz : Bool) (a b : Value) : corC k 0 lz a b = [.int .i64 k, .int .u64 0, .int .u64 0, .int .u64 0, .int .u64 0, .bool lz, a, b] := by
  simp [corC, setCells_zero]
theorem two_c (k : Int) (pa pb : Nat) (w : World) : Calls P 157 #[.int .i64 k, .pointer (some ⟨pa, 0, none⟩), .pointer (some ⟨pb, 0, none⟩)] w (Ret fun v w' => Chg [] w w' ∧ ∃ p, v = .pointer (some ⟨p, 0, none⟩) ∧ w.heap.size ≤ p ∧ Blk w' p (corC k 0 false (.pointer (some ⟨pa, 0, none⟩)) (.pointer (some ⟨pb, 0, none⟩))) 214) := by
  have hC := Chg.refl [] w
  refine enter Tryz.func157 rfl rfl ?_
  refine EW.seq ?_
  refine EW.reg ?_
  refine EP.o rfl (Does.assign rfl) ?_
  refine EP.nil ?_
  refine EW.seq ?_
  refine EW.reg ?_
  refine EP.o rfl (Does.move rfl) ?_
  refine EP.o rfl (Does.move rfl) ?_
  refine EP.o rfl (Does.move rfl) ?_
  refine EP.o rfl (Does.buildSL zr214 pl214 rfl (by rfl)) ?_
  refine EP.new2 rfl (News.box rfl rfl) ?_
  intro b1 w1 hb1 hs1 hx1 hB1
  have hz1 := hx1.size
  replace hC := hC.step0 hx1
  refine EP.o rfl (Does.assign rfl) ?_
  refine EP.nil ?_
  refine EW.ret ?_
  refine Fin.one rfl rfl ?_
  exact ⟨hC, _, rfl, by omega, by rw [corC0]; assumption⟩
theorem star_c (pa : Nat) (lz : Bool) (w : World) : Calls P 155 #[.pointer (some ⟨pa, 0, none⟩), .bool lz] w (Ret fun v w' => Chg [] w w' ∧ ∃ p, v = .pointer (some ⟨p, 0, none⟩) ∧ w.heap.size ≤ p ∧ Blk w' p (corC 4 0 lz (.pointer (some ⟨pa, 0, none⟩)) (.pointer none)) 214) := by
  have hC := Chg.refl [] w
  refine enter Tryz.func155 rfl rfl ?_
  refine EW.seq ?_
  refine EW.reg ?_
  refine EP.o rfl (Does.assign rfl) ?_
  refine EP.nil ?_
  refine EW.seq ?_
  refine EW.reg ?_
  refine EP.o rfl (Does.move rfl) ?_
  refine EP.o rfl (Does.move rfl) ?_
  refine EP.o rfl (Does.buildSL zr214 pl214 rfl (by rfl)) ?_
  refine EP.new2 rfl (News.box rfl rfl) ?_
  intro b1 w1 hb1 hs1 hx1 hB1
  have hz1 := hx1.size
  replace hC := hC.step0 hx1
  refine EP.o rfl (Does.assign rfl) ?_
  refine EP.nil ?_
  refine EW.ret ?_
  refine Fin.one rfl rfl ?_
  exact ⟨hC, _, rfl, by omega, by rw [corC0]; assumption⟩
theorem catf_c (a b : Cor) (va vb : Value) (F : Nat → Prop) (w : World) (ha : IsCor F w a va) (hb : IsCor F w b vb) : Calls P 189 #[va, vb] w (Ret fun v w' => Chg [] w w' ∧ IsCor (fun x => F x ∨ w.heap.size ≤ x) w' (.cat a b) v) := by
  have hC := Chg.refl [] w
  obtain ⟨pa, rfl⟩ := ha.ptr
  obtain ⟨pb, rfl⟩ := hb.ptr
  refine enter Tryz.func189 rfl rfl ?_
  refine EW.seq ?_
  refine EW.reg ?_
  refine EP.o rfl (Does.assign rfl) ?_
  refine EP.nil ?_
  refine EW.seq ?_
  refine EW.reg ?_
  refine EP.o rfl (Does.move rfl) ?_
  refine EP.o rfl (Does.move rfl) ?_
  refine EP.call2 rfl (Enters.fn fb157 rfl) (two_c 2 pa pb _) ?_
  rintro v7 w1 ⟨hx1, p, hv, hp, hBn⟩
  have hz1 := hx1.size
  replace hC := hC.step0 hx1
  refine EP.o rfl (Does.assign rfl) ?_
  refine EP.nil ?_
  refine EW.ret ?_
  refine Fin.one rfl rfl ?_
  exact ⟨hC, p, _, _, hv, Or.inr hp, hBn, (ha.chg0 hC).mono (fun y hy _ => Or.inl hy), (hb.chg0 hC).mono (fun y hy _ => Or.inl hy)⟩
theorem altf_c (a b : Cor) (va vb : Value) (F : Nat → Prop) (w : World) (ha : IsCor F w a va) (hb : IsCor F w b vb) : Calls P 190 #[va, vb] w (Ret fun v w' => Chg [] w w' ∧ IsCor (fun x => F x ∨ w.heap.size ≤ x) w' (.alt a b) v) := by
  have hC := Chg.refl [] w
  obtain ⟨pa, rfl⟩ := ha.ptr
  obtain ⟨pb, rfl⟩ := hb.ptr
  refine enter Tryz.func190 rfl rfl ?_
  refine EW.seq ?_
  refine EW.reg ?_
  refine EP.o rfl (Does.assign rfl) ?_
  refine EP.nil ?_
  refine EW.seq ?_
  refine EW.reg ?_
  refine EP.o rfl (Does.move rfl) ?_
  refine EP.o rfl (Does.move rfl) ?_
  refine EP.call2 rfl (Enters.fn fb157 rfl) (two_c 3 pa pb _) ?_
  rintro v7 w1 ⟨hx1, p, hv, hp, hBn⟩
  have hz1 := hx1.size
  replace hC := hC.step0 hx1
  refine EP.o rfl (Does.assign rfl) ?_
  refine EP.nil ?_
  refine EW.ret ?_
  refine Fin.one rfl rfl ?_
  exact ⟨hC, p, _, _, hv, Or.inr hp, hBn, (ha.chg0 hC).mono (fun y hy _ => Or.inl hy), (hb.chg0 hC).mono (fun y hy _ => Or.inl hy)⟩
end Go.Clt
end
section
set_option linter.unusedVariables false
set_option linter.unusedSimpArgs false
set_option maxRecDepth 4000
namespace Go.Clt
set_option maxHeartbeats 4000000
open Go Go.RowKit Go.Proofs
theorem choice_c (a : Cor) (lz : Bool) (va : Value) (F : Nat → Prop) (w : World) (ha : IsCor F w a va) : Calls P 216 #[va, .bool lz] w (Ret fun v w' => Chg [] w w' ∧ IsCor (fun x => F x ∨ w.heap.size ≤ x) w' (choiceC a lz) v) := by
  have hC := Chg.refl [] w
  obtain ⟨pa, rfl⟩ := ha.ptr
  refine enter Tryz.func216 rfl rfl ?_
  refine EW.seq ?_
  refine EW.reg ?_
  refine EP.o rfl (Does.assign rfl) ?_
  refine EP.nil ?_
  refine EW.seq ?_
  refine EW.seq ?_
  refine EW.reg ?_
  refine EP.o rfl (Does.move rfl) ?_
  refine EP.nil ?_
  refine EW.cond rfl (fun h1 => ?_) (fun h1 => ?_)
  · try simp at h1
    refine EW.seq ?_
    refine EW.reg ?_
    refine EP.o rfl (Does.buildSL zr214 pl214 rfl (by rfl)) ?_
    refine EP.new2 rfl (News.box rfl rfl) ?_
    intro b1 w1 hb1 hs1 hx1 hB1
    have hz1 := hx1.size
    replace hC := hC.step0 hx1
    refine EP.o rfl (Does.move rfl) ?_
    refine EP.call2 rfl (Enters.fn fb157 rfl) (two_c 3 b1 pa _) ?_
    rintro v7 w2 ⟨hx2, p, hv, hp, hBn⟩
    have hz2 := hx2.size
    replace hC := hC.step0 hx2
    replace hB1 := hB1.chg0 hx2
    refine EP.o rfl (Does.assign rfl) ?_
    refine EP.nil ?_
    refine EW.ret ?_
    refine Fin.one rfl rfl ?_
    subst h1
    exact ⟨hC, p, _, _, hv, Or.inr (by omega), hBn, ⟨b1, rfl, Or.inr (by omega), by rw [corC0]; assumption⟩, (ha.chg0 hC).mono (fun y hy _ => Or.inl hy)⟩
  · try simp at h1
    refine EW.skip ?_
    refine EW.seq ?_
    refine EW.reg ?_
    refine EP.o rfl (Does.move rfl) ?_
    refine EP.o rfl (Does.buildSL zr214 pl214 rfl (by rfl)) ?_
    refine EP.new2 rfl (News.box rfl rfl) ?_
    intro b3 w3 hb3 hs3 hx3 hB3
    have hz3 := hx3.size
    replace hC := hC.step0 hx3
    refine EP.call2 rfl (Enters.fn fb157 rfl) (two_c 3 pa b3 _) ?_
    rintro v7 w4 ⟨hx4, p, hv, hp, hBn⟩
    have hz4 := hx4.size
    replace hC := hC.step0 hx4
    replace hB3 := hB3.chg0 hx4
    refine EP.o rfl (Does.assign rfl) ?_
    refine EP.nil ?_
    refine EW.ret ?_
    refine Fin.one rfl rfl ?_
    subst h1
    exact ⟨hC, p, _, _, hv, Or.inr (by omega), hBn, (ha.chg0 hC).mono (fun y hy _ => Or.inl hy), ⟨b3, rfl, Or.inr (by omega), by rw [corC0]; assumption⟩⟩
theorem choices_c (a : Cor) (lz : Bool) (m : Int) (va : Value) (F : Nat → Prop) (w : World) (hm0 : -1000000 ≤ m) (hm : m ≤ 1000000) (hF : ∀ b, F b → b < w.heap.size) (ha : IsCor F w a va) : Calls P 191 #[va, .int .i64 m, .bool lz] w (Ret fun v w' => Chg [] w w' ∧ IsCor (fun x => F x ∨ w.heap.size ≤ x) w' (choicesC a lz (m - 1).toNat) v) := by
  have hC := Chg.refl [] w
  obtain ⟨pa, rfl⟩ := ha.ptr
  have hIa := ha
  refine enter Tryz.func191 rfl rfl ?_
  refine EW.seq ?_
  refine EW.reg ?_
  refine EP.o rfl (Does.assign rfl) ?_
  refine EP.nil ?_
  refine EW.seq ?_
  refine EW.reg ?_
  refine EP.o rfl (Does.move rfl) ?_
  refine EP.o rfl (Does.move rfl) ?_
  refine EP.call2 rfl (Enters.fn fb216 rfl) (choice_c a lz _ F _ hIa) ?_
  rintro v7 w1 ⟨hx1, hIo'⟩
  have hz1 := hx1.size
  replace hC := hC.step0 hx1
  replace hIa := hIa.chg0 hx1
  have hIo := hIo'; clear hIo'
  obtain ⟨po, rfl⟩ := hIo.ptr
  refine EP.o rfl (Does.assign rfl) ?_
  refine EP.nil ?_
  refine EW.seq ?_
  refine EW.seq ?_
  refine EW.reg ?_
  refine EP.o rfl (Does.move rfl) ?_
  refine EP.o rfl (Does.subi rfl rfl (by omega)) ?_
  refine EP.o rfl (Does.move rfl) ?_
  refine EP.nil ?_
  refine EW.block ?_
  refine EW.loop (σ := Nat × Nat) (fun (k, po) => [(0, .pointer (some ⟨pa, 0, none⟩)), (2, .bool lz), (7, .pointer (some ⟨po, 0, none⟩)), (12, .int .i64 (m - 1)), (13, .int .i64 k)]) (fun (k, po) wr => Chg [] w wr ∧ IsCor F wr a (.pointer (some ⟨pa, 0, none⟩)) ∧ IsCor (fun x => F x ∨ w.heap.size ≤ x) wr (choicesC a lz k) (.pointer (some ⟨po, 0, none⟩)) ∧ k ≤ (m - 1).toNat) (fun (k, po) wr => (m - 1).toNat - k) (0, po) ⟨rfl, rfl, rfl, rfl, rfl, trivial⟩ ?_ ?_
  · exact ⟨hC, hIa, hIo, Nat.zero_le _⟩
  rintro ⟨k, po⟩ w9 ⟨hC, hIa, hIo, hk⟩
  try have hzw := hC.size
  refine EW.seq ?_
  refine EW.reg ?_
  refine EP.o rfl (Does.cmp rfl rfl rfl) ?_
  refine EP.nil ?_
  refine EW.seq ?_
  refine EW.cond rfl (fun h1 => ?_) (fun h1 => ?_)
  · try simp at h1
    refine EW.skip ?_
    refine EW.seq ?_
    refine EW.block ?_
    refine EW.reg ?_
    refine EP.o rfl (Does.move rfl) ?_
    refine EP.o rfl (Does.move rfl) ?_
    refine EP.call2 rfl (Enters.fn fb157 rfl) (two_c 2 pa po _) ?_
    rintro v8 w2 ⟨hx2, p, hv8, hp, hBn⟩
    have hz2 := hx2.size
    replace hC := hC.step0 hx2
    replace hIa := hIa.chg0 hx2
    replace hIo := hIo.chg0 hx2
    subst hv8
    refine EP.o rfl (Does.move rfl) ?_
    refine EP.call2 rfl (Enters.fn fb216 rfl) (choice_c (.cat a (choicesC a lz k)) lz _ (fun x => F x ∨ w.heap.size ≤ x) _ ⟨p, _, _, rfl, Or.inr (by omega), hBn, hIa.mono (fun y hy _ => Or.inl hy), hIo⟩) ?_
    rintro v9 w3 ⟨hx3, hIn⟩
    have hz3 := hx3.size
    replace hC := hC.step0 hx3
    replace hIa := hIa.chg0 hx3
    replace hIo := hIo.chg0 hx3
    obtain ⟨pn, rfl⟩ := hIn.ptr
    refine EP.o rfl (Does.assign rfl) ?_
    refine EP.nil ?_
    refine EW.reg ?_
    refine EP.o rfl (Does.addi rfl rfl (by omega)) ?_
    refine EP.o rfl (Does.move rfl) ?_
    refine EP.nil ?_
    refine ⟨(k + 1, pn), ⟨rfl, rfl, rfl, rfl, rfl, trivial⟩, ?_, ?_⟩
    refine ⟨hC, hIa, hIn.mono (fun y hy _ => ?_), by omega⟩
    rcases hy with hy | hy
    · exact hy
    · right; omega
    show (m - 1).toNat - (k + 1) < (m - 1).toNat - k
    omega
  · try simp at h1
    have hkk : k = (m - 1).toNat := by omega
    subst hkk
    refine EW.exit (brk_here ?_)
    refine EW.seq ?_
    refine EW.reg ?_
    refine EP.o rfl (Does.move rfl) ?_
    refine EP.o rfl (Does.assign rfl) ?_
    refine EP.nil ?_
    refine EW.ret ?_
    refine Fin.one rfl rfl ?_
    exact ⟨hC, hIo⟩
end Go.Clt
end
section
set_option linter.unusedVariables false
set_option linter.unusedSimpArgs false
set_option maxRecDepth 4000
namespace Go.Clt
set_option maxHeartbeats 4000000
open Go Go.RowKit Go.Proofs
def IsCors (F : Nat → Prop) (w : World) (l : List Cor) (vs : List Value) : Prop := vs.length = l.length ∧ ∀ k, k < l.length → ∃ v, vs[k]? = some v ∧ IsCor F w (l.getD k .empty) v
theorem IsCors.chg {F : Nat → Prop} {w w' : World} {S : List Nat} {l : List Cor} {vs : List Value} (h : IsCors F w l vs) (k : Chg S w w') (hS : ∀ b ∈ S, ¬ F b) : IsCors F w' l vs :=
  ⟨h.1, fun i hi => by obtain ⟨v, h1, h2⟩ := h.2 i hi; exact ⟨v, h1, h2.chg k hS⟩⟩
theorem IsCors.chg0 {F : Nat → Prop} {w w' : World} {l : List Cor} {vs : List Value} (h : IsCors F w l vs) (k : Chg [] w w') : IsCors F w' l vs := h.chg k (fun b hb => by cases hb)
theorem IsCors.mono {F F' : Nat → Prop} {w : World} {l : List Cor} {vs : List Value} (h : IsCors F w l vs) (hF : ∀ b, F b → b < w.heap.size → F' b) : IsCors F' w l vs :=
  ⟨h.1, fun i hi => by obtain ⟨v, h1, h2⟩ := h.2 i hi; exact ⟨v, h1, h2.mono hF⟩⟩
theorem foldC_drop (j : Cor → Cor → Cor) : ∀ (l : List Cor) (k : Nat), k + 1 < l.length → foldC j (l.drop k) = j (l.getD k .empty) (foldC j (l.drop (k + 1)))
  | [], k, h => by simp at h
  | [x], k, h => by simp at h
  | x :: y :: r, 0, h => rfl
  | x :: y :: r, k + 1, h => by
    have := foldC_drop j (y :: r) k (by simpa using h)
    simpa using this
theorem foldC_last (j : Cor → Cor → Cor) : ∀ (l : List Cor), 0 < l.length → foldC j (l.drop (l.length - 1)) = l.getD (l.length - 1) .empty
  | [], h => by simp at h
  | [x], h => rfl
  | x :: y :: r, h => by
    have := foldC_last j (y :: r) (by simp)
    simpa using this
theorem fold_c (j : Cor → Cor → Cor) (G : FuncId) (hb : bodyB P G = true) (hj : ∀ (a b : Cor) (va vb : Value) (F : Nat → Prop) (w : World), IsCor F w a va → IsCor F w b vb → Calls P G (#[] ++ [va, vb].toArray ++ #[]) w (Ret fun v w' => Chg [] w w' ∧ IsCor (fun x => F x ∨ w.heap.size ≤ x) w' (j a b) v))
    (l : List Cor) (vs : List Value) (F F2 : Nat → Prop) (A : Option Addr) (c : Nat) (w : World) (hl : l.length ≤ 2000000) (hF2 : ∀ b, F2 b → b < w.heap.size) (hr : Rd F2 w 1 A l.length vs) (hI : IsCors F w l vs) :
    Calls P 188 #[.slice A l.length c, .func (.func G) #[] #[]] w (Ret fun v w' => Chg [] w w' ∧ IsCor (fun x => F x ∨ w.heap.size ≤ x) w' (foldC j l) v) := by
  have hC := Chg.refl [] w
  have hF := hF2
  refine enter Tryz.func188 rfl rfl ?_
  refine EW.seq ?_
  refine EW.reg ?_
  refine EP.o rfl (Does.assign rfl) ?_
  refine EP.nil ?_
  refine EW.seq ?_
  refine EW.seq ?_
  refine EW.reg ?_
  refine EP.o rfl (Does.move rfl) ?_
  refine EP.o rfl (Does.lenL Tryz.underlying251 rfl) ?_
  refine EP.o rfl (Does.cmp rfl rfl rfl) ?_
  refine EP.nil ?_
  refine EW.cond rfl (fun h1 => ?_) (fun h1 => ?_)
  · try simp at h1
    refine EW.seq ?_
    refine EW.reg ?_
    refine EP.o rfl (Does.buildSL zr214 pl214 rfl (by rfl)) ?_
    refine EP.new2 rfl (News.box rfl rfl) ?_
    intro b1 w1 hb1 hs1 hx1 hB1
    have hz1 := hx1.size
    replace hC := hC.step0 hx1
    replace hr := hr.chg0 hx1
    replace hI := hI.chg0 hx1
    refine EP.o rfl (Does.assign rfl) ?_
    refine EP.nil ?_
    refine EW.ret ?_
    refine Fin.one rfl rfl ?_
    have : l = [] := by first | exact h1 | exact List.length_eq_zero_iff.1 (by omega)
    subst this
    exact ⟨hC, b1, rfl, Or.inr (by omega), by rw [corC0]; assumption⟩
  · try simp at h1
    have hl0 : 0 < l.length := by first | omega | exact List.length_pos_iff.2 h1
    obtain ⟨v0, hv0, hi0⟩ := hI.2 (l.length - 1) (by omega)
    obtain ⟨g, off, rfl, _, _, _⟩ := hr.at_ hl0
    obtain ⟨p0, rfl⟩ := hi0.ptr
    refine EW.skip ?_
    refine EW.seq ?_
    refine EW.reg ?_
    refine EP.o rfl (Does.move rfl) ?_
    refine EP.o rfl (Does.move rfl) ?_
    refine EP.o rfl (Does.lenL Tryz.underlying251 rfl) ?_
    refine EP.o rfl (Does.subi rfl rfl (by omega)) ?_
    refine EP.o rfl (Does.indexAddr1 sl251 rfl rfl (by omega) (by omega)) ?_
    refine EP.o rfl (Does.load1 o67 rfl (Keeps.now _) (show _ = _ from by have := (hr.one hv0).2; rw [show l.length - 1 = ((l.length : Int) - 1).toNat from by omega] at this; exact this)) ?_
    refine EP.o rfl (Does.assign rfl) ?_
    refine EP.nil ?_
    refine EW.seq ?_
    refine EW.seq ?_
    refine EW.reg ?_
    refine EP.o rfl (Does.move rfl) ?_
    refine EP.o rfl (Does.lenL Tryz.underlying251 rfl) ?_
    refine EP.o rfl (Does.subi rfl rfl (by omega)) ?_
    refine EP.o rfl (Does.assign rfl) ?_
    refine EP.nil ?_
    refine EW.block ?_
    refine EW.loop (σ := Nat × Nat) (fun (k, po) => [(0, .slice (some ⟨g, off, none⟩) l.length c), (1, .func (.func G) #[] #[]), (5, .pointer (some ⟨po, 0, none⟩)), (6, .int .i64 ((k : Int) - 1))]) (fun (k, po) wr => Chg [] w wr ∧ Rd F2 wr 1 (some ⟨g, off, none⟩) l.length vs ∧ IsCors F wr l vs ∧ IsCor (fun x => F x ∨ w.heap.size ≤ x) wr (foldC j (l.drop k)) (.pointer (some ⟨po, 0, none⟩)) ∧ k < l.length) (fun (k, po) wr => k) (l.length - 1, p0) ⟨rfl, rfl, rfl, (lk_int rfl (by omega)), trivial⟩ ?_ ?_
    · exact ⟨hC, hr, hI, by rw [foldC_last j l hl0]; exact hi0.mono (fun y hy _ => Or.inl hy), by omega⟩
    rintro ⟨k, po⟩ w9 ⟨hC, hr, hI, hIo, hk⟩
    try have hzw := hC.size
    refine EW.seq ?_
    refine EW.seq ?_
    refine EW.reg ?_
    refine EP.o rfl (Does.move rfl) ?_
    refine EP.o rfl (Does.cmp rfl rfl rfl) ?_
    refine EP.nil ?_
    refine EW.cond rfl (fun h2 => ?_) (fun h2 => ?_)
    · try simp at h2
      obtain ⟨k, rfl⟩ : ∃ i, k = i + 1 := ⟨k - 1, by omega⟩
      obtain ⟨v1, hv1, hi1⟩ := hI.2 k (by omega)
      obtain ⟨p1, rfl⟩ := hi1.ptr
      refine EW.skip ?_
      refine EW.seq ?_
      refine EW.block ?_
      refine EW.reg ?_
      refine EP.o rfl (Does.move rfl) ?_
      refine EP.o rfl (Does.move rfl) ?_
      refine EP.o rfl (Does.move rfl) ?_
      refine EP.o rfl (Does.indexAddr1 sl251 rfl rfl (by omega) (by omega)) ?_
      refine EP.o rfl (Does.load1 o67 rfl (Keeps.now _) (show _ = _ from by have := (hr.one hv1).2; rw [show k = (((k + 1 : Nat) : Int) - 1).toNat from by omega] at this; exact this)) ?_
      refine EP.o rfl (Does.move rfl) ?_
      refine EP.call2 rfl (Enters.clo rfl hb rfl) (hj (l.getD k .empty) (foldC j (l.drop (k + 1))) (.pointer (some ⟨p1, 0, none⟩)) (.pointer (some ⟨po, 0, none⟩)) (fun x => F x ∨ w.heap.size ≤ x) _ (hi1.mono (fun y hy _ => Or.inl hy)) hIo) ?_
      rintro v9 w2 ⟨hx2, hIn⟩
      have hz2 := hx2.size
      replace hC := hC.step0 hx2
      replace hr := hr.chg0 hx2
      replace hI := hI.chg0 hx2
      obtain ⟨pn, rfl⟩ := hIn.ptr
      refine EP.o rfl (Does.assign rfl) ?_
      refine EP.nil ?_
      refine EW.reg ?_
      refine EP.o rfl (Does.move rfl) ?_
      refine EP.o rfl (Does.subi rfl rfl (by omega)) ?_
      refine EP.o rfl (Does.assign rfl) ?_
      refine EP.nil ?_
      refine ⟨(k, pn), ⟨rfl, rfl, rfl, (lk_int rfl (by omega)), trivial⟩, ?_, ?_⟩
      refine ⟨hC, hr, hI, by rw [foldC_drop j l k hk]; exact hIn.mono (fun y hy _ => hy.elim id (fun h => Or.inr (by omega))), by omega⟩
      show k < k + 1
      omega
    · try simp at h2
      have : k = 0 := by omega
      subst this
      refine EW.exit (brk_here ?_)
      refine EW.seq ?_
      refine EW.reg ?_
      refine EP.o rfl (Does.move rfl) ?_
      refine EP.o rfl (Does.assign rfl) ?_
      refine EP.nil ?_
      refine EW.ret ?_
      refine Fin.one rfl rfl ?_
      exact ⟨hC, hIo⟩
end Go.Clt
end
section
set_option linter.unusedVariables false
set_option linter.unusedSimpArgs false
set_option maxRecDepth 4000
namespace Go.Clt
set_option maxHeartbeats 4000000
open Go Go.RowKit Go.Proofs
theorem catl_c (l : List Cor) (vs : List Value) (F F2 : Nat → Prop) (A : Option Addr) (c : Nat) (w : World) (hl : l.length ≤ 2000000) (hF2 : ∀ b, F2 b → b < w.heap.size) (hr : Rd F2 w 1 A l.length vs) (hI : IsCors F w l vs) :
    Calls P 158 #[.slice A l.length c] w (Ret fun v w' => Chg [] w w' ∧ IsCor (fun x => F x ∨ w.heap.size ≤ x) w' (foldC .cat l) v) := by
  have hC := Chg.refl [] w
  refine enter Tryz.func158 rfl rfl ?_
  refine EW.seq ?_
  refine EW.reg ?_
  refine EP.o rfl (Does.assign rfl) ?_
  refine EP.nil ?_
  refine EW.seq ?_
  refine EW.reg ?_
  refine EP.o rfl (Does.move rfl) ?_
  refine EP.call2 rfl (Enters.fn fb188 rfl) (fold_c .cat 189 fb189 (fun a b va vb F w ha hb => catf_c a b va vb F w ha hb) l vs F F2 A c _ hl hF2 hr hI) ?_
  rintro v9 w1 ⟨hx1, hV⟩
  have hz1 := hx1.size
  replace hC := hC.step0 hx1
  refine EP.o rfl (Does.assign rfl) ?_
  refine EP.nil ?_
  refine EW.ret ?_
  refine Fin.one rfl rfl ?_
  exact ⟨hC, hV⟩
theorem altl_c (l : List Cor) (vs : List Value) (F F2 : Nat → Prop) (A : Option Addr) (c : Nat) (w : World) (hl : l.length ≤ 2000000) (hF2 : ∀ b, F2 b → b < w.heap.size) (hr : Rd F2 w 1 A l.length vs) (hI : IsCors F w l vs) :
    Calls P 159 #[.slice A l.length c] w (Ret fun v w' => Chg [] w w' ∧ IsCor (fun x => F x ∨ w.heap.size ≤ x) w' (foldC .alt l) v) := by
  have hC := Chg.refl [] w
  refine enter Tryz.func159 rfl rfl ?_
  refine EW.seq ?_
  refine EW.reg ?_
  refine EP.o rfl (Does.assign rfl) ?_
  refine EP.nil ?_
  refine EW.seq ?_
  refine EW.reg ?_
  refine EP.o rfl (Does.move rfl) ?_
  refine EP.call2 rfl (Enters.fn fb188 rfl) (fold_c .alt 190 fb190 (fun a b va vb F w ha hb => altf_c a b va vb F w ha hb) l vs F F2 A c _ hl hF2 hr hI) ?_
  rintro v9 w1 ⟨hx1, hV⟩
  have hz1 := hx1.size
  replace hC := hC.step0 hx1
  refine EP.o rfl (Does.assign rfl) ?_
  refine EP.nil ?_
  refine EW.ret ?_
  refine Fin.one rfl rfl ?_
  exact ⟨hC, hV⟩
end Go.Clt
end
section
set_option linter.unusedVariables false
set_option linter.unusedSimpArgs false
set_option maxRecDepth 4000
namespace Go.Clt
set_option maxHeartbeats 4000000
open Go Go.RowKit Go.Proofs
theorem countOk_mn {t : Syn} (h : countOk t = true) : 0 ≤ t.mn ∧ t.mn ≤ 1000 ∧ (t.mx = -1 ∨ (t.mn ≤ t.mx ∧ t.mx ≤ 1000)) := by
  unfold countOk at h
  simp at h
  omega
theorem cors_rep {F : Nat → Prop} {w : World} {r : Cor} {v : Value} (h : IsCor F w r v) (n : Nat) : IsCors F w (List.replicate n r) (List.replicate n v) := by
  refine ⟨by simp, fun k hk => ⟨v, ?_, ?_⟩⟩
  · simp at hk; simp [hk]
  · simp at hk; simpa [hk, List.getD_eq_getElem?_getD] using h
theorem cors_snoc {F : Nat → Prop} {w : World} {l : List Cor} {vs : List Value} {r : Cor} {v : Value} (h : IsCors F w l vs) (hr : IsCor F w r v) : IsCors F w (l ++ [r]) (vs ++ [v]) := by
  refine ⟨by simp [h.1], fun k hk => ?_⟩
  rcases Nat.lt_or_ge k l.length with hlt | hge
  · obtain ⟨u, h1, h2⟩ := h.2 k hlt
    refine ⟨u, by rw [List.getElem?_append_left (by rw [h.1]; exact hlt)]; exact h1, ?_⟩
    rw [List.getD_eq_getElem?_getD, List.getElem?_append_left hlt, ← List.getD_eq_getElem?_getD]; exact h2
  · have hk' : k = l.length := by simp at hk; omega
    subst hk'
    refine ⟨v, by rw [← h.1]; simp, ?_⟩
    simpa [List.getD_eq_getElem?_getD] using hr
theorem repeat_c (t : Syn) (r : Cor) (vt vr : Value) (F FT : Nat → Prop) (w : World) (hc : countOk t = true) (hF : ∀ b, F b → b < w.heap.size) (hT : IsSyn FT w t vt) (hI : IsCor F w r vr) : Calls P 160 #[vt, vr] w (Ret fun v w' => Chg [] w w' ∧ IsCor (fun x => F x ∨ w.heap.size ≤ x) w' (repeatC t.mn t.mx t.lz r) v) := by
  have hC := Chg.refl [] w
  obtain ⟨q, A1, c1, vs1, rfl, _, hB0, _, _⟩ := hT.open
  obtain ⟨pr, rfl⟩ := hI.ptr
  obtain ⟨hm1, hm2, hm3⟩ := countOk_mn hc
  have hqw := hB0.lt
  try have hlB0 := hB0.lt
  refine enter Tryz.func160 rfl rfl ?_
  refine EW.seq ?_
  refine EW.reg ?_
  refine EP.o rfl (Does.assign rfl) ?_
  refine EP.nil ?_
  refine EW.seq ?_
  refine EW.reg ?_
  refine EP.o rfl (Does.assign rfl) ?_
  refine EP.nil ?_
  refine EW.seq ?_
  refine EW.seq ?_
  refine EW.reg ?_
  refine EP.o rfl (Does.move rfl) ?_
  refine EP.o rfl (Does.nilCheck rfl) ?_
  refine EP.o rfl (Does.fieldAddr fl254_2 rfl) ?_
  refine EP.o rfl (Does.loadB o3 rfl (Keeps.now _) (by assumption) (by rfl)) ?_
  refine EP.o rfl (Does.move rfl) ?_
  refine EP.nil ?_
  refine EW.block ?_
  refine EW.loop (σ := Nat × Option Addr × Nat) (fun (k, A, c) => [(0, .pointer (some ⟨q, 0, none⟩)), (1, .pointer (some ⟨pr, 0, none⟩)), (5, .slice A k c), (9, .int .i64 t.mn), (10, .int .i64 k)]) (fun (k, A, c) wr => Chg [] w wr ∧ Blk wr q (nodeC t.kind t.set t.mn t.mx t.lz (.slice A1 t.l.length c1) t.a t.b) 254 ∧ IsCor F wr r (.pointer (some ⟨pr, 0, none⟩)) ∧ Own wr w.heap.size 67 1 A k c (List.replicate k (.pointer (some ⟨pr, 0, none⟩))) ∧ (k : Int) ≤ t.mn) (fun (k, A, c) wr => t.mn.toNat - k) (0, none, 0) ⟨rfl, rfl, rfl, rfl, rfl, trivial⟩ ?_ ?_
  · exact ⟨hC, hB0, hI, Own.nil _ _ _ _, hm1⟩
  rintro ⟨k, A, c⟩ w9 ⟨hC, hB0, hI, hO, hk⟩
  have hOb := hO.blk
  try have hzw := hC.size
  try have hlB0 := hB0.lt
  refine EW.seq ?_
  refine EW.reg ?_
  refine EP.o rfl (Does.cmp rfl rfl rfl) ?_
  refine EP.nil ?_
  refine EW.seq ?_
  refine EW.cond rfl (fun h1 => ?_) (fun h1 => ?_)
  · try simp at h1
    refine EW.skip ?_
    refine EW.seq ?_
    refine EW.block ?_
    refine EW.reg ?_
    refine EP.o rfl (Does.move rfl) ?_
    refine EP.o rfl (Does.move rfl) ?_
    refine EP.new2 rfl (News.buildL sl251 Tryz.underlying251 zr67 rfl rfl rfl (by rfl)) ?_
    intro b1 w1 hb1 hs1 hx1 hB1
    have hz1 := hx1.size
    replace hC := hC.step0 hx1
    replace hB0 := hB0.chg0 hx1
    replace hI := hI.chg0 hx1
    replace hO := hO.chg0 hx1
    refine EP.append2 rfl el251 rfl rfl hO (Blk.rd (F := fun _ => True) (by assumption) rfl trivial) (by rfl) (by omega) (by omega) ?_
    intro A' c' w2 hO2 hx2 hA'
    have hz2 := hx2.size
    replace hC := hC.step hx2 (by intro x h; have := hOb x h; exact .inr (by omega))
    replace hB0 := hB0.chg hx2 (by intro h; have := hOb _ h; omega)
    replace hI := hI.chg hx2 (by intro x hx hf; have := hOb x hx; have := hF x hf; omega)
    replace hB1 := hB1.chg hx2 (by intro h; have := hOb _ h; omega)
    clear hO; have hO := hO2; clear hO2
    refine EP.o rfl (Does.assign rfl) ?_
    refine EP.nil ?_
    refine EW.reg ?_
    refine EP.o rfl (Does.addi rfl rfl (by omega)) ?_
    refine EP.o rfl (Does.move rfl) ?_
    refine EP.nil ?_
    refine ⟨(k + 1, A', c'), ⟨rfl, rfl, rfl, rfl, rfl, trivial⟩, ?_, ?_⟩
    refine ⟨hC, hB0, hI, by rw [List.replicate_succ']; exact hO, by omega⟩
    show t.mn.toNat - (k + 1) < t.mn.toNat - k
    omega
  · try simp at h1
    have hkk : k = t.mn.toNat := by omega
    subst hkk
    have hRC : repeatC t.mn t.mx t.lz r = foldC .cat (List.replicate t.mn.toNat r ++ (if t.mx = -1 then [.star t.lz r] else if t.mn < t.mx then [choicesC r t.lz ((t.mx - t.mn).toNat - 1)] else [])) := rfl
    have hcr := cors_rep hI t.mn.toNat
    refine EW.exit (brk_here ?_)
    refine EW.cut (fun e9 wr => ∃ l vs A' c', Sub [(5, .slice A' l.length c')] e9 ∧ Chg [] w wr ∧ Own wr w.heap.size 67 1 A' l.length c' vs ∧ IsCors (fun x => F x ∨ w.heap.size ≤ x) wr l vs ∧ repeatC t.mn t.mx t.lz r = foldC .cat l ∧ l.length ≤ 2000) ?_ ?_
    · refine EW.block ?_
      refine EW.seq ?_
      refine EW.reg ?_
      refine EP.o rfl (Does.move rfl) ?_
      refine EP.o rfl (Does.nilCheck rfl) ?_
      refine EP.o rfl (Does.fieldAddr fl254_3 rfl) ?_
      refine EP.o rfl (Does.loadB o3 rfl (Keeps.now _) (by assumption) (by rfl)) ?_
      refine EP.o rfl (Does.cmp rfl rfl rfl) ?_
      refine EP.o rfl (Does.assign rfl) ?_
      refine EP.nil ?_
      refine EW.cond rfl (fun g1 => ?_) (fun g1 => ?_)
      · try simp at g1
        refine EW.reg ?_
        refine EP.o rfl (Does.move rfl) ?_
        refine EP.o rfl (Does.move rfl) ?_
        refine EP.o rfl (Does.move rfl) ?_
        refine EP.o rfl (Does.nilCheck rfl) ?_
        refine EP.o rfl (Does.fieldAddr fl254_4 rfl) ?_
        refine EP.o rfl (Does.loadB o4 rfl (Keeps.now _) (by assumption) (by rfl)) ?_
        refine EP.call2 rfl (Enters.fn fb155 rfl) (star_c pr t.lz _) ?_
        rintro v6 w3 ⟨hx3, ps, hv, hp, hBs'⟩
        have hz3 := hx3.size
        replace hC := hC.step0 hx3
        replace hB0 := hB0.chg0 hx3
        replace hI := hI.chg0 hx3
        replace hO := hO.chg0 hx3
        have hBs := hBs'; clear hBs'
        subst hv
        refine EP.new2 rfl (News.buildL sl251 Tryz.underlying251 zr67 rfl rfl rfl (by rfl)) ?_
        intro b4 w4 hb4 hs4 hx4 hB4
        have hz4 := hx4.size
        replace hC := hC.step0 hx4
        replace hB0 := hB0.chg0 hx4
        replace hI := hI.chg0 hx4
        replace hO := hO.chg0 hx4
        replace hBs := hBs.chg0 hx4
        refine EP.append2 rfl el251 rfl rfl hO (Blk.rd (F := fun _ => True) (by assumption) rfl trivial) (by rfl) (by omega) (by omega) ?_
        intro A' c' w5 hO5 hx5 hA'
        have hz5 := hx5.size
        replace hC := hC.step hx5 (by intro x h; have := hOb x h; exact .inr (by omega))
        replace hB0 := hB0.chg hx5 (by intro h; have := hOb _ h; omega)
        replace hI := hI.chg hx5 (by intro x hx hf; have := hOb x hx; have := hF x hf; omega)
        replace hBs := hBs.chg hx5 (by intro h; have := hOb _ h; omega)
        replace hB4 := hB4.chg hx5 (by intro h; have := hOb _ h; omega)
        clear hO; have hO := hO5; clear hO5
        refine EP.o rfl (Does.assign rfl) ?_
        refine EP.nil ?_
        refine ⟨List.replicate t.mn.toNat r ++ [.star t.lz r], List.replicate t.mn.toNat (.pointer (some ⟨pr, 0, none⟩)) ++ [.pointer (some ⟨ps, 0, none⟩)], A', c', ⟨(lk_val rfl (by simp)), trivial⟩, ?_⟩
        refine ⟨hC, by rw [List.length_append, List.length_replicate]; exact hO, cors_snoc ((cors_rep hI _).mono (fun y hy _ => Or.inl hy)) ⟨ps, _, rfl, Or.inr (by omega), hBs, hI.mono (fun y hy _ => Or.inl hy)⟩, by rw [hRC, if_pos g1], by simp; omega⟩
      · try simp at g1
        refine EW.seq ?_
        refine EW.drw' (S := []) 8 [(0, 0), (0, 1), (0, 2), (0, 3), (0, 4), (0, 5), (0, 6), (0, 7), (2, 8), (2, 9)] mo (by kernel_rfl) ?_
        intro w6 hx6 hh6
        have hz6 := hx6.size
        replace hC := hC.step0 hx6
        replace hB0 := hB0.chg0 hx6
        replace hI := hI.chg0 hx6
        replace hO := hO.chg0 hx6
        refine EP.f rfl (Does.move rfl) ?_
        refine EP.f rfl (Does.nilCheck rfl) ?_
        refine EP.f rfl (Does.fieldAddr fl254_3 rfl) ?_
        refine EP.f rfl (Does.loadBc o3 rfl (by assumption) (by simp; done) (by rfl)) ?_
        refine EP.f rfl (Does.move rfl) ?_
        refine EP.f rfl (Does.nilCheck rfl) ?_
        refine EP.f rfl (Does.fieldAddr fl254_2 rfl) ?_
        refine EP.f rfl (Does.loadBc o3 rfl (by assumption) (by simp; done) (by rfl)) ?_
        refine EP.o rfl (Does.cmp rfl rfl rfl) ?_
        refine EP.o rfl (Does.assign rfl) ?_
        refine EP.nil ?_
        refine EW.cond rfl (fun g2 => ?_) (fun g2 => ?_)
        · try simp at g2
          refine EW.drw' (S := []) 17 [(0, 0), (0, 1), (0, 2), (0, 3), (0, 4), (0, 5), (0, 6), (0, 7), (0, 8), (0, 9), (0, 10), (0, 11), (0, 12), (0, 13), (0, 14), (1, 15), (1, 16), (2, 17), (2, 18)] mo (by kernel_rfl) ?_
          intro w7 hx7 hh7
          have hz7 := hx7.size
          replace hC := hC.step0 hx7
          replace hB0 := hB0.chg0 hx7
          replace hI := hI.chg0 hx7
          replace hO := hO.chg0 hx7
          have hCS7 := Chg.refl ([]) w7
          refine EP.f rfl (Does.move rfl) ?_
          refine EP.f rfl (Does.move rfl) ?_
          refine EP.f rfl (Does.move rfl) ?_
          refine EP.f rfl (Does.nilCheck rfl) ?_
          refine EP.f rfl (Does.fieldAddr fl254_3 rfl) ?_
          refine EP.f rfl (Does.loadBc o3 rfl (by assumption) (by simp; done) (by rfl)) ?_
          refine EP.f rfl (Does.move rfl) ?_
          refine EP.f rfl (Does.nilCheck rfl) ?_
          refine EP.f rfl (Does.fieldAddr fl254_2 rfl) ?_
          refine EP.f rfl (Does.loadBc o3 rfl (by assumption) (by simp; done) (by rfl)) ?_
          refine EP.f rfl (Does.subi rfl rfl (by omega)) ?_
          refine EP.f rfl (Does.move rfl) ?_
          refine EP.f rfl (Does.nilCheck rfl) ?_
          refine EP.f rfl (Does.fieldAddr fl254_4 rfl) ?_
          refine EP.f rfl (Does.loadBc o4 rfl (by assumption) (by simp; done) (by rfl)) ?_
          refine EP.call1 rfl (Enters.fn fb191 rfl) (choices_c r t.lz (t.mx - t.mn) _ F _ (by omega) (by omega) (fun y hy => by have := hF y hy; omega) (by assumption)) ?_
          rintro v6 w8 ⟨hx8, hIo'⟩
          have hz8 := hx8.size
          replace hC := hC.step0 hx8
          replace hB0 := hB0.chg0 hx8
          replace hI := hI.chg0 hx8
          replace hO := hO.chg0 hx8
          replace hCS7 := hCS7.step0 hx8
          have hIo := hIo'; clear hIo'
          refine ⟨hCS7, ?_⟩
          obtain ⟨po, rfl⟩ := hIo.ptr
          refine EP.new1 rfl (News.buildL sl251 Tryz.underlying251 zr67 rfl rfl rfl (by rfl)) ?_
          intro b9 w9 hb9 hs9 hx9 hB9
          have hz9 := hx9.size
          replace hC := hC.step0 hx9
          replace hB0 := hB0.chg0 hx9
          replace hI := hI.chg0 hx9
          replace hO := hO.chg0 hx9
          replace hCS7 := hCS7.step0 hx9
          replace hIo := hIo.chg0 hx9
          refine ⟨hCS7, ?_⟩
          refine EP.append2 rfl el251 rfl rfl hO (Blk.rd (F := fun _ => True) (by assumption) rfl trivial) (by rfl) (by omega) (by omega) ?_
          intro A' c' w10 hO10 hx10 hA'
          have hz10 := hx10.size
          replace hC := hC.step hx10 (by intro x h; have := hOb x h; exact .inr (by omega))
          replace hB0 := hB0.chg hx10 (by intro h; have := hOb _ h; omega)
          replace hI := hI.chg hx10 (by intro x hx hf; have := hOb x hx; have := hF x hf; omega)
          replace hIo := hIo.chg hx10 (by intro x hx hf; have := hOb x hx; rcases hf with hf | hf; have := hF x hf; omega; omega)
          replace hB9 := hB9.chg hx10 (by intro h; have := hOb _ h; omega)
          clear hO; have hO := hO10; clear hO10
          refine EP.o rfl (Does.assign rfl) ?_
          refine EP.nil ?_
          refine ⟨List.replicate t.mn.toNat r ++ [choicesC r t.lz ((t.mx - t.mn).toNat - 1)], List.replicate t.mn.toNat (.pointer (some ⟨pr, 0, none⟩)) ++ [.pointer (some ⟨po, 0, none⟩)], A', c', ⟨(lk_val rfl (by simp)), trivial⟩, ?_⟩
          refine ⟨hC, by rw [List.length_append, List.length_replicate]; exact hO, cors_snoc ((cors_rep hI _).mono (fun y hy _ => Or.inl hy)) ?_, by rw [hRC, if_neg g1, if_pos (by omega)], by simp; omega⟩
          rw [show (t.mx - t.mn).toNat - 1 = (t.mx - t.mn - 1).toNat from by omega]
          exact hIo.mono (fun y hy _ => hy.elim Or.inl (fun h => Or.inr (by omega)))
        · try simp at g2
          refine EW.skip ?_
          refine ⟨List.replicate t.mn.toNat r, List.replicate t.mn.toNat (.pointer (some ⟨pr, 0, none⟩)), A, c, ⟨(lk_val rfl (by simp)), trivial⟩, ?_⟩
          exact ⟨hC, by simpa using hO, (cors_rep hI _).mono (fun y hy _ => Or.inl hy), by rw [hRC, if_neg g1, if_neg (by omega), List.append_nil], by simp; omega⟩
    rintro e9 w8 ⟨l, vs, A', c', hs9, hC, hO, hIl, hRC2, hll⟩
    refine EW.sub _ hs9 ?_
    clear hs9 e9
    try have hzw := hC.size
    rw [hRC2]
    refine EW.seq ?_
    refine EW.reg ?_
    refine EP.o rfl (Does.move rfl) ?_
    refine EP.call2 rfl (Enters.fn fb158 rfl) (catl_c l vs (fun x => F x ∨ w.heap.size ≤ x) (fun x => w.heap.size ≤ x ∧ x < w8.heap.size) A' c' _ (by omega) (fun y hy => hy.2) (hO.rd (fun y h1 h2 => ⟨h1, h2⟩)) hIl) ?_
    rintro v9 w11 ⟨hx11, hV⟩
    have hz11 := hx11.size
    replace hC := hC.step0 hx11
    replace hO := hO.chg0 hx11
    refine EP.o rfl (Does.assign rfl) ?_
    refine EP.nil ?_
    refine EW.ret ?_
    refine Fin.one rfl rfl ?_
    exact ⟨hC, hV.mono (fun y hy _ => hy.elim id (fun h => Or.inr (by omega)))⟩
end Go.Clt
end
section
set_option linter.unusedVariables false
set_option linter.unusedSimpArgs false
set_option maxRecDepth 4000
namespace Go.Clt
set_option maxHeartbeats 4000000
open Go Go.RowKit Go.Proofs
def BuildC (t : Syn) : Prop := ∀ (v : Value) (FT : Nat → Prop) (w : World), (∀ b, FT b → b < w.heap.size) → IsSyn FT w t v → Calls P 131 #[v] w (Ret fun u w' => Chg [] w w' ∧ IsCor (FR w.heap.size w'.heap.size []) w' (buildC t) u)
theorem buildL_len : ∀ (l : List Syn), (buildL l).length = l.length
  | [] => rfl
  | t :: r => by rw [buildL, List.length_cons, List.length_cons, buildL_len r]
theorem buildL_get : ∀ (l : List Syn) (k : Nat), k < l.length → (buildL l).getD k .empty = buildC (l.getD k default)
  | [], k, h => by simp at h
  | t :: r, 0, _ => rfl
  | t :: r, k + 1, h => by rw [buildL, List.getD_cons_succ, List.getD_cons_succ]; exact buildL_get r k (by simpa using h)
theorem take_snoc {l : List Cor} {k : Nat} (h : k < l.length) : l.take (k + 1) = l.take k ++ [l.getD k .empty] := by
  rw [List.take_add_one, List.getElem?_eq_getElem h, List.getD_eq_getElem?_getD, List.getElem?_eq_getElem h]; rfl
theorem build_eq (t : Syn) : buildC t = if t.kind = 1 then .set t.set
    else if t.kind = 2 ∨ t.kind = 3 then (buildL t.l).headD .empty
    else if t.kind = 4 then foldC .cat (buildL t.l)
    else if t.kind = 5 then foldC .alt (buildL t.l)
    else if t.kind = 6 then repeatC t.mn t.mx t.lz ((buildL t.l).headD .empty)
    else .empty := by
  cases t with | node k s mn mx lz l a b => rw [buildC]; rfl
theorem build_step (t : Syn) (hf : formQ t = true) (hll : t.l.length ≤ 2000000) (hc : ∀ k, k < t.l.length → BuildC (t.l.getD k default)) : BuildC t := by
  intro v FT w hFT hT
  have hC := Chg.refl [] w
  obtain ⟨q, A1, c1, vs1, rfl, _, hB0, hr, hIs⟩ := hT.open
  have hF := hFT
  have hbl := buildL_len t.l
  try have hlB0 := hB0.lt
  refine enter Tryz.func131 rfl rfl ?_
  refine EW.seq ?_
  refine EW.reg ?_
  refine EP.o rfl (Does.assign rfl) ?_
  refine EP.nil ?_
  refine EW.seq ?_
  refine EW.reg ?_
  refine EP.o rfl (Does.assign rfl) ?_
  refine EP.nil ?_
  refine EW.seq ?_
  refine EW.seq ?_
  refine EW.reg ?_
  refine EP.o rfl (Does.move rfl) ?_
  refine EP.o rfl (Does.nilCheck rfl) ?_
  refine EP.o rfl (Does.fieldAddr fl254_5 rfl) ?_
  refine EP.o rfl (Does.loadB o241 rfl (Keeps.now _) (by assumption) (by rfl)) ?_
  refine EP.o rfl (Does.lenL Tryz.underlying241 rfl) ?_
  refine EP.o rfl (Does.move rfl) ?_
  refine EP.nil ?_
  refine EW.block ?_
  refine EW.loop (σ := Nat × Option Addr × Nat × List Value) (fun (k, A, c, vs) => [(0, .pointer (some ⟨q, 0, none⟩)), (3, .slice A k c), (9, .slice A1 t.l.length c1), (10, .int .i64 t.l.length), (11, .int .i64 k)]) (fun (k, A, c, vs) wr => Chg [] w wr ∧ IsSyn FT wr t (.pointer (some ⟨q, 0, none⟩)) ∧ Blk wr q (nodeC t.kind t.set t.mn t.mx t.lz (.slice A1 t.l.length c1) t.a t.b) 254 ∧ Rd FT wr 1 A1 t.l.length vs1 ∧ IsSyns FT wr t.l vs1 ∧ Own wr w.heap.size 67 1 A k c vs ∧ IsCors (FR w.heap.size wr.heap.size (blkOf A)) wr ((buildL t.l).take k) vs ∧ k ≤ t.l.length) (fun (k, A, c, vs) wr => t.l.length - k) (0, none, 0, []) ⟨rfl, rfl, rfl, rfl, rfl, trivial⟩ ?_ ?_
  · exact ⟨hC, hT, hB0, hr, hIs, Own.nil _ _ _ _, ⟨rfl, fun k hk => absurd hk (by simp)⟩, Nat.zero_le _⟩
  rintro ⟨k, A, c, vs⟩ w9 ⟨hC, hT, hB0, hr, hIs, hO, hIc, hk⟩
  have hOb := hO.blk
  try have hzw := hC.size
  try have hlB0 := hB0.lt
  refine EW.seq ?_
  refine EW.reg ?_
  refine EP.o rfl (Does.cmp rfl rfl rfl) ?_
  refine EP.nil ?_
  refine EW.seq ?_
  refine EW.cond rfl (fun h1 => ?_) (fun h1 => ?_)
  · try simp at h1
    have hkn : k < t.l.length := by omega
    obtain ⟨v0, hv0, hi0⟩ := hIs.get k hkn
    obtain ⟨g, off, rfl, _, _, _⟩ := hr.at_ (by omega)
    refine EW.skip ?_
    refine EW.seq ?_
    refine EW.block ?_
    refine EW.seq ?_
    refine EW.reg ?_
    refine EP.o rfl (Does.indexAddr1 sl241 rfl rfl (by omega) (by omega)) ?_
    refine EP.o rfl (Does.load1 o149 rfl (Keeps.now _) (hr.one hv0).2) ?_
    refine EP.o rfl (Does.assign rfl) ?_
    refine EP.nil ?_
    refine EW.reg ?_
    refine EP.o rfl (Does.move rfl) ?_
    refine EP.o rfl (Does.move rfl) ?_
    refine EP.call2 rfl (Enters.fn fb131 rfl) (hc k hkn v0 FT _ (fun y hy => by have := hFT y hy; omega) hi0) ?_
    rintro v8 w1 ⟨hx1, hIv'⟩
    have hz1 := hx1.size
    replace hC := hC.step0 hx1
    replace hT := hT.chg0 hx1
    replace hB0 := hB0.chg0 hx1
    replace hr := hr.chg0 hx1
    replace hIs := hIs.chg0 hx1
    replace hO := hO.chg0 hx1
    replace hIc := hIc.chg0 hx1
    have hIv := hIv'; clear hIv'
    obtain ⟨pv, rfl⟩ := hIv.ptr
    refine EP.new2 rfl (News.buildL sl251 Tryz.underlying251 zr67 rfl rfl rfl (by rfl)) ?_
    intro b2 w2 hb2 hs2 hx2 hB2
    have hz2 := hx2.size
    replace hC := hC.step0 hx2
    replace hT := hT.chg0 hx2
    replace hB0 := hB0.chg0 hx2
    replace hr := hr.chg0 hx2
    replace hIs := hIs.chg0 hx2
    replace hO := hO.chg0 hx2
    replace hIc := hIc.chg0 hx2
    replace hIv := hIv.chg0 hx2
    refine EP.append2 rfl el251 rfl rfl hO (Blk.rd (F := fun _ => True) (by assumption) rfl trivial) (by rfl) (by omega) (by omega) ?_
    intro A' c' w3 hO3 hx3 hA'
    have hz3 := hx3.size
    replace hC := hC.step hx3 (by intro x h; have := hOb x h; exact .inr (by omega))
    replace hT := hT.chg hx3 (by intro x hx hf; have := hOb x hx; have := hF x hf; omega)
    replace hB0 := hB0.chg hx3 (by intro h; have := hOb _ h; omega)
    replace hr := hr.chg hx3 (by intro x hx hf; have := hOb x hx; have := hF x hf; omega)
    replace hIs := hIs.chg hx3 (by intro x hx hf; have := hOb x hx; have := hF x hf; omega)
    replace hIc := hIc.chg hx3 (by intro x hx hf; exact hf.2.2 hx)
    replace hIv := hIv.chg hx3 (by intro x hx hf; have := hOb x hx; have h1 := hf.1; have h2 := hf.2.1; omega)
    replace hB2 := hB2.chg hx3 (by intro h; have := hOb _ h; omega)
    clear hO; have hO := hO3; clear hO3
    refine EP.o rfl (Does.assign rfl) ?_
    refine EP.nil ?_
    refine EW.reg ?_
    refine EP.o rfl (Does.addi rfl rfl (by omega)) ?_
    refine EP.o rfl (Does.move rfl) ?_
    refine EP.nil ?_
    refine ⟨(k + 1, A', c', vs ++ [.pointer (some ⟨pv, 0, none⟩)]), ⟨rfl, rfl, rfl, rfl, rfl, trivial⟩, ?_, ?_⟩
    refine ⟨hC, hT, hB0, hr, hIs, hO, ?_, by omega⟩
    rw [take_snoc (by omega)]
    refine cors_snoc (hIc.mono (fun y hy _ => ⟨hy.1, by have := hy.2.1; omega, app_out hA' hy.2.2 (by have := hy.2.1; omega)⟩)) ?_
    rw [buildL_get _ _ hkn]
    exact hIv.mono (fun y hy _ => ⟨by have := hy.1; omega, by have := hy.2.1; omega, app_out hA' (fun hm => by have := hOb y hm; have := hy.1; omega) (by have := hy.2.1; omega)⟩)
    show t.l.length - (k + 1) < t.l.length - k
    omega
  · try simp at h1
    have hkk : k = t.l.length := by omega
    subst hkk
    rw [List.take_of_length_le (by omega)] at hIc
    have hrv : Rd (FR w.heap.size w9.heap.size []) w9 1 A t.l.length vs := hO.rd (fun y h1 h2 => ⟨h1, h2, by simp⟩)
    have hIl := hIc.mono (F' := FR w.heap.size w9.heap.size []) (fun y hy _ => ⟨hy.1, hy.2.1, by simp⟩)
    have hkq : kidsQ t = true := by unfold formQ at hf; simp only [Bool.and_eq_true] at hf; exact hf.2.2
    rw [build_eq]
    refine EW.exit (brk_here ?_)
    refine EW.seq ?_
    refine EW.seq ?_
    refine EW.reg ?_
    refine EP.o rfl (Does.move rfl) ?_
    refine EP.o rfl (Does.nilCheck rfl) ?_
    refine EP.o rfl (Does.fieldAddr fl254_0 rfl) ?_
    refine EP.o rfl (Does.loadB o3 rfl (Keeps.now _) (by assumption) (by rfl)) ?_
    refine EP.nil ?_
    refine EW.block ?_
    refine EW.seq ?_
    refine EW.reg ?_
    refine EP.o rfl (Does.cmp rfl rfl rfl) ?_
    refine EP.o rfl (Does.assign rfl) ?_
    refine EP.nil ?_
    refine EW.cond rfl (fun a1 => ?_) (fun a1 => ?_)
    · try simp at a1
      refine EW.seq ?_
      refine EW.reg ?_
      refine EP.o rfl (Does.move rfl) ?_
      refine EP.o rfl (Does.nilCheck rfl) ?_
      refine EP.o rfl (Does.fieldAddr fl254_1 rfl) ?_
      refine EP.o rfl (Does.loadA ag70 rfl (Keeps.now _) (by assumption) (by rfl) rfl) ?_
      refine EP.o rfl (Does.buildSL zr214 pl214 rfl (by rfl)) ?_
      refine EP.new2 rfl (News.box rfl rfl) ?_
      intro b4 w4 hb4 hs4 hx4 hB4
      have hz4 := hx4.size
      replace hC := hC.step0 hx4
      replace hT := hT.chg0 hx4
      replace hB0 := hB0.chg0 hx4
      replace hr := hr.chg0 hx4
      replace hIs := hIs.chg0 hx4
      replace hO := hO.chg0 hx4
      replace hIc := hIc.chg0 hx4
      refine EP.o rfl (Does.assign rfl) ?_
      refine EP.nil ?_
      refine EW.ret ?_
      refine Fin.one rfl rfl ?_
      rw [if_pos a1]
      exact ⟨hC, _, rfl, ⟨by omega, by omega, by simp⟩, by assumption⟩
    · try simp at a1
      rw [if_neg a1]
      have hone : t.kind = 2 ∨ t.kind = 3 ∨ t.kind = 6 → t.l.length = 1 := fun h => by
        unfold kidsQ at hkq
        rw [if_neg (by omega)] at hkq
        by_cases h23 : t.kind = 2 ∨ t.kind = 3
        · rw [if_pos h23] at hkq; simpa using hkq
        · rw [if_neg h23, if_neg (by omega), if_neg (by omega), if_pos (by omega)] at hkq
          simp only [Bool.and_eq_true, decide_eq_true_eq] at hkq
          exact hkq.1
      have hcnt : t.kind = 6 → countOk t = true := fun h => by
        unfold kidsQ at hkq
        rw [if_neg (by omega), if_neg (by omega), if_neg (by omega), if_neg (by omega), if_pos h] at hkq
        simp only [Bool.and_eq_true] at hkq
        exact hkq.2.1
      have hhd : t.l.length = 1 → ∃ g off p0, A = some ⟨g, off, none⟩ ∧ vs[0]? = some (.pointer (some ⟨p0, 0, none⟩)) ∧ IsCor (FR w.heap.size w9.heap.size []) w9 ((buildL t.l).headD .empty) (.pointer (some ⟨p0, 0, none⟩)) := fun h => by
        obtain ⟨g, off, hA, _, _, _⟩ := hrv.at_ (by omega)
        obtain ⟨u, hu, hiu⟩ := hIl.2 0 (by omega)
        obtain ⟨p0, rfl⟩ := hiu.ptr
        refine ⟨g, off, p0, hA, hu, ?_⟩
        rw [show (buildL t.l).headD .empty = (buildL t.l).getD 0 .empty from by cases buildL t.l <;> rfl]
        exact hiu
      refine EW.cut (fun e9 wr => Sub [(0, .pointer (some ⟨q, 0, none⟩)), (3, .slice A t.l.length c), (24, .int .i64 t.kind), (33, .bool (decide (t.kind = 2 ∨ t.kind = 3)))] e9 ∧ wr = w9 ∧ Chg [] w wr) ?_ ?_
      · refine EW.seq ?_
        refine EW.reg ?_
        refine EP.o rfl (Does.cmp rfl rfl rfl) ?_
        refine EP.o rfl (Does.assign rfl) ?_
        refine EP.nil ?_
        refine EW.cond rfl (fun a2 => ?_) (fun a2 => ?_)
        · try simp at a2
          refine EW.skip ?_
          refine ⟨⟨rfl, rfl, rfl, (lk_bool rfl (by rw [Bool.eq_iff_iff, cmpB_eql, decide_eq_true_iff]; omega)), trivial⟩, ?_⟩
          exact ⟨rfl, hC⟩
        · try simp at a2
          refine EW.reg ?_
          refine EP.o rfl (Does.cmp rfl rfl rfl) ?_
          refine EP.o rfl (Does.assign rfl) ?_
          refine EP.nil ?_
          refine ⟨⟨rfl, rfl, rfl, (lk_bool rfl (by rw [Bool.eq_iff_iff, cmpB_eql, decide_eq_true_iff]; omega)), trivial⟩, ?_⟩
          exact ⟨rfl, hC⟩
      rintro e9 w8 ⟨hs9, rfl, hC⟩
      refine EW.sub _ hs9 ?_
      clear hs9 e9
      try have hzw := hC.size
      refine EW.cond rfl (fun a3 => ?_) (fun a3 => ?_)
      · try simp at a3
        obtain ⟨g, off, p0, rfl, hv0, hi0⟩ := hhd (hone (by omega))
        have hl1 := hone (by omega)
        refine EW.seq ?_
        refine EW.reg ?_
        refine EP.o rfl (Does.move rfl) ?_
        refine EP.o rfl (Does.indexAddr1 sl251 rfl rfl (by omega) (by omega)) ?_
        refine EP.o rfl (Does.load1 o67 rfl (Keeps.now _) (hrv.one hv0).2) ?_
        refine EP.o rfl (Does.assign rfl) ?_
        refine EP.nil ?_
        refine EW.ret ?_
        refine Fin.one rfl rfl ?_
        rw [if_pos a3]
        exact ⟨hC, hi0⟩
      · try simp at a3
        rw [if_neg (by omega)]
        refine EW.seq ?_
        refine EW.reg ?_
        refine EP.o rfl (Does.cmp rfl rfl rfl) ?_
        refine EP.o rfl (Does.assign rfl) ?_
        refine EP.nil ?_
        refine EW.cond rfl (fun a4 => ?_) (fun a4 => ?_)
        · try simp at a4
          refine EW.seq ?_
          refine EW.reg ?_
          refine EP.o rfl (Does.move rfl) ?_
          refine EP.call2 rfl (Enters.fn fb158 rfl) ((show Calls P 158 #[.slice A t.l.length c] w8 _ from hbl ▸ catl_c (buildL t.l) vs (FR w.heap.size w8.heap.size []) (FR w.heap.size w8.heap.size []) A c w8 (by omega) (fun y hy => hy.2.1) (hbl.symm ▸ hrv) hIl)) ?_
          rintro v9 w5 ⟨hx5, hV⟩
          have hz5 := hx5.size
          replace hC := hC.step0 hx5
          refine EP.o rfl (Does.assign rfl) ?_
          refine EP.nil ?_
          refine EW.ret ?_
          refine Fin.one rfl rfl ?_
          rw [if_pos a4]
          exact ⟨hC, hV.mono (fun y hy hyl => ⟨hy.elim (fun h => h.1) (fun h => by omega), hyl, by simp⟩)⟩
        · try simp at a4
          rw [if_neg a4]
          refine EW.seq ?_
          refine EW.reg ?_
          refine EP.o rfl (Does.cmp rfl rfl rfl) ?_
          refine EP.o rfl (Does.assign rfl) ?_
          refine EP.nil ?_
          refine EW.cond rfl (fun a5 => ?_) (fun a5 => ?_)
          · try simp at a5
            refine EW.seq ?_
            refine EW.reg ?_
            refine EP.o rfl (Does.move rfl) ?_
            refine EP.call2 rfl (Enters.fn fb159 rfl) ((show Calls P 159 #[.slice A t.l.length c] w8 _ from hbl ▸ altl_c (buildL t.l) vs (FR w.heap.size w8.heap.size []) (FR w.heap.size w8.heap.size []) A c w8 (by omega) (fun y hy => hy.2.1) (hbl.symm ▸ hrv) hIl)) ?_
            rintro v9 w6 ⟨hx6, hV⟩
            have hz6 := hx6.size
            replace hC := hC.step0 hx6
            refine EP.o rfl (Does.assign rfl) ?_
            refine EP.nil ?_
            refine EW.ret ?_
            refine Fin.one rfl rfl ?_
            rw [if_pos a5]
            exact ⟨hC, hV.mono (fun y hy hyl => ⟨hy.elim (fun h => h.1) (fun h => by omega), hyl, by simp⟩)⟩
          · try simp at a5
            rw [if_neg a5]
            refine EW.seq ?_
            refine EW.reg ?_
            refine EP.o rfl (Does.cmp rfl rfl rfl) ?_
            refine EP.o rfl (Does.assign rfl) ?_
            refine EP.nil ?_
            refine EW.cond rfl (fun a6 => ?_) (fun a6 => ?_)
            · try simp at a6
              obtain ⟨g, off, p0, rfl, hv0, hi0⟩ := hhd (hone (by omega))
              have hl1 := hone (by omega)
              refine EW.seq ?_
              refine EW.reg ?_
              refine EP.o rfl (Does.move rfl) ?_
              refine EP.o rfl (Does.move rfl) ?_
              refine EP.o rfl (Does.indexAddr1 sl251 rfl rfl (by omega) (by omega)) ?_
              refine EP.o rfl (Does.load1 o67 rfl (Keeps.now _) (hrv.one hv0).2) ?_
              refine EP.call2 rfl (Enters.fn fb160 rfl) (repeat_c t ((buildL t.l).headD .empty) _ _ (FR w.heap.size w8.heap.size []) FT w8 (hcnt a6) (fun y hy => hy.2.1) hT hi0) ?_
              rintro v9 w7 ⟨hx7, hV⟩
              have hz7 := hx7.size
              replace hC := hC.step0 hx7
              refine EP.o rfl (Does.assign rfl) ?_
              refine EP.nil ?_
              refine EW.ret ?_
              refine Fin.one rfl rfl ?_
              rw [if_pos a6]
              exact ⟨hC, hV.mono (fun y hy hyl => ⟨hy.elim (fun h => h.1) (fun h => by omega), hyl, by simp⟩)⟩
            · try simp at a6
              rw [if_neg a6]
              refine EW.skip ?_
              refine EW.seq ?_
              refine EW.reg ?_
              refine EP.o rfl (Does.buildSL zr214 pl214 rfl (by rfl)) ?_
              refine EP.new2 rfl (News.box rfl rfl) ?_
              intro b8 w8 hb8 hs8 hx8 hB8
              have hz8 := hx8.size
              replace hC := hC.step0 hx8
              refine EP.o rfl (Does.assign rfl) ?_
              refine EP.nil ?_
              refine EW.ret ?_
              refine Fin.one rfl rfl ?_
              exact ⟨hC, _, rfl, ⟨by omega, by omega, by simp⟩, by rw [corC0]; assumption⟩
end Go.Clt
end
section
set_option linter.unusedVariables false
set_option linter.unusedSimpArgs false
set_option maxRecDepth 4000
namespace Go.Clt
set_option maxHeartbeats 4000000
open Go Go.RowKit Go.Proofs
def sumM (l : List Int) : Int := l.foldl sadd 0
theorem sumM_range (l : List Int) : 0 ≤ sumM l ∧ sumM l ≤ 9223372036854775807 := by
  unfold sumM
  rcases List.eq_nil_or_concat l with rfl | ⟨r, x, rfl⟩
  · simp
  · rw [List.concat_eq_append, List.foldl_append]; exact sadd_range _ _
theorem sprod_range (l : List Int) (hl : ∀ x ∈ l, x ≤ 9223372036854775807) : 0 ≤ sprod l ∧ sprod l ≤ 9223372036854775807 := by
  unfold sprod
  split
  · omega
  · rcases List.eq_nil_or_concat l with rfl | ⟨r, x, rfl⟩
    · simp
    · rw [List.concat_eq_append, List.foldl_append]; exact smul_range _ _
theorem addL_c (l : List Int) (b n : Nat) (cs : List Value) (τ : TypeId) (w : World) (hB : Blk w b cs τ) (hcs : cs = ints l) (hl : ∀ x ∈ l, x ≤ 9223372036854775807) (hn : l.length ≤ 1000000) : Calls P 46 #[.slice (some ⟨b, 0, none⟩) l.length n] w (Ret fun v w' => v = .int .i64 (sumM l) ∧ w' = w) :=
  nAdd_c (fun x => x = b) l _ l.length n hl (by omega) w (ints_blk hB hcs)
theorem mulL_c (l : List Int) (b n : Nat) (cs : List Value) (τ : TypeId) (w : World) (hB : Blk w b cs τ) (hcs : cs = ints l) (hl : ∀ x ∈ l, x ≤ 9223372036854775807) (hn : l.length ≤ 1000000) : Calls P 84 #[.slice (some ⟨b, 0, none⟩) l.length n] w (Ret fun v w' => v = .int .i64 (sprod l) ∧ w' = w) :=
  nMul_c (fun x => x = b) l _ l.length n hl (by omega) w (ints_blk hB hcs)
def foldedQ (l : List Int) : Int := if l.length = 0 then 1 else sumM [sumM l, (l.length : Int) - 1]
theorem folded_c (l : List Int) (F : Nat → Prop) (A : Option Addr) (c : Nat) (w : World) (hl : ∀ x ∈ l, x ≤ 9223372036854775807) (hn : l.length ≤ 2000000) (hr : Rd F w 1 A l.length (ints l)) : Calls P 186 #[.slice A l.length c] w (Ret fun v w' => v = .int .i64 (foldedQ l) ∧ Chg [] w w') := by
  have hC := Chg.refl [] w
  have hsr := sumM_range l
  refine enter Tryz.func186 rfl rfl ?_
  refine EW.seq ?_
  refine EW.reg ?_
  refine EP.o rfl (Does.assign rfl) ?_
  refine EP.nil ?_
  refine EW.seq ?_
  refine EW.seq ?_
  refine EW.reg ?_
  refine EP.o rfl (Does.move rfl) ?_
  refine EP.o rfl (Does.lenL Tryz.underlying24 rfl) ?_
  refine EP.o rfl (Does.cmp rfl rfl rfl) ?_
  refine EP.nil ?_
  refine EW.cond rfl (fun h1 => ?_) (fun h1 => ?_)
  · try simp at h1
    refine EW.seq ?_
    refine EW.reg ?_
    refine EP.o rfl (Does.assign rfl) ?_
    refine EP.nil ?_
    refine EW.ret ?_
    refine Fin.one rfl rfl ?_
    have : l.length = 0 := by first | omega | (rw [h1]; rfl)
    exact ⟨vint (by unfold foldedQ; rw [if_pos this]), hC⟩
  · try simp at h1
    have hne : ¬ l.length = 0 := by first | omega | (intro h; exact h1 (List.length_eq_zero_iff.1 h))
    refine EW.skip ?_
    refine EW.seq ?_
    refine EW.reg ?_
    refine EP.o rfl (Does.move rfl) ?_
    refine EP.call2 rfl (Enters.fn fb215 rfl) (nSum_c F l A l.length c hl (by omega) _ hr) ?_
    rintro _ _ ⟨rfl, rfl⟩
    refine EP.o rfl (Does.move rfl) ?_
    refine EP.o rfl (Does.lenL Tryz.underlying24 rfl) ?_
    refine EP.o rfl (Does.subi rfl rfl (by omega)) ?_
    refine EP.new2 rfl (News.buildL sl24 Tryz.underlying24 zr3 rfl rfl rfl (by rfl)) ?_
    intro b2 w2 hb2 hs2 hx2 hB2
    have hz2 := hx2.size
    replace hC := hC.step0 hx2
    refine EP.call2 rfl (Enters.fn fb46 rfl) (addL_c [sumM l, (l.length : Int) - 1] _ _ _ _ _ (by assumption) rfl (by intro x hx; simp at hx; omega) (by simp)) ?_
    rintro _ _ ⟨rfl, rfl⟩
    refine EP.o rfl (Does.assign rfl) ?_
    refine EP.nil ?_
    refine EW.ret ?_
    refine Fin.one rfl rfl ?_
    exact ⟨vint (by unfold foldedQ; rw [if_neg hne]), hC⟩
def tailQ (mn mx size : Int) : Int × Int := if mx = -1 then (sumM [size, 1], mn + 1) else if 0 < mx - mn then (sumM [sprod [mx - mn, sumM [size, 2]], mx - mn - 1], mn + 1) else (0, mn)
def repeatedQ (mn mx size : Int) : Int := if (tailQ mn mx size).2 = 0 then 1 else sumM [sprod [mn, size], (tailQ mn mx size).1, (tailQ mn mx size).2 - 1]
theorem repeated_c (t : Syn) (size : Int) (v : Value) (F : Nat → Prop) (w : World) (hs : 0 ≤ size ∧ size ≤ 9223372036854775807) (hc : countOk t = true) (hT : IsSyn F w t v) : Calls P 187 #[v, .int .i64 size] w (Ret fun u w' => u = .int .i64 (repeatedQ t.mn t.mx size) ∧ Chg [] w w') := by
  have hC := Chg.refl [] w
  obtain ⟨q, A1, c1, vs1, rfl, _, hB0, _, _⟩ := hT.open
  obtain ⟨hm1, hm2, hm3⟩ := countOk_mn hc
  try have hlB0 := hB0.lt
  refine enter Tryz.func187 rfl rfl ?_
  refine EW.seq ?_
  refine EW.reg ?_
  refine EP.o rfl (Does.assign rfl) ?_
  refine EP.nil ?_
  refine EW.seq ?_
  refine EW.drw' (S := []) 5 [(0, 0), (0, 1), (0, 2), (0, 3), (0, 4), (2, 5)] mo (by kernel_rfl) ?_
  intro w1 hx1 hh1
  have hz1 := hx1.size
  replace hC := hC.step0 hx1
  replace hB0 := hB0.chg0 hx1
  refine EP.f rfl (Does.move rfl) ?_
  refine EP.f rfl (Does.nilCheck rfl) ?_
  refine EP.f rfl (Does.fieldAddr fl254_2 rfl) ?_
  refine EP.f rfl (Does.loadBc o3 rfl (by assumption) (by simp; done) (by rfl)) ?_
  refine EP.f rfl (Does.assign rfl) ?_
  refine EP.o rfl (Does.assign rfl) ?_
  refine EP.nil ?_
  refine EW.cut (fun e9 wr => Sub [(0, .pointer (some ⟨q, 0, none⟩)), (1, .int .i64 size), (5, .int .i64 (tailQ t.mn t.mx size).1), (6, .int .i64 (tailQ t.mn t.mx size).2)] e9 ∧ Chg [] w wr ∧ Blk wr q (nodeC t.kind t.set t.mn t.mx t.lz (.slice A1 t.l.length c1) t.a t.b) 254 ∧ (tailQ t.mn t.mx size).1 ≤ 9223372036854775807 ∧ 0 ≤ (tailQ t.mn t.mx size).2 ∧ (tailQ t.mn t.mx size).2 ≤ 2000) ?_ ?_
  · refine EW.seq ?_
    refine EW.drw' (S := []) 8 [(0, 0), (0, 1), (0, 2), (0, 3), (0, 4), (0, 5), (0, 6), (0, 7), (2, 8), (2, 9)] mo (by kernel_rfl) ?_
    intro w2 hx2 hh2
    have hz2 := hx2.size
    replace hC := hC.step0 hx2
    replace hB0 := hB0.chg0 hx2
    refine EP.f rfl (Does.move rfl) ?_
    refine EP.f rfl (Does.nilCheck rfl) ?_
    refine EP.f rfl (Does.fieldAddr fl254_3 rfl) ?_
    refine EP.f rfl (Does.loadBc o3 rfl (by assumption) (by simp; done) (by rfl)) ?_
    refine EP.f rfl (Does.move rfl) ?_
    refine EP.f rfl (Does.nilCheck rfl) ?_
    refine EP.f rfl (Does.fieldAddr fl254_2 rfl) ?_
    refine EP.f rfl (Does.loadBc o3 rfl (by assumption) (by simp; done) (by rfl)) ?_
    refine EP.o rfl (Does.subi rfl rfl (by omega)) ?_
    refine EP.o rfl (Does.assign rfl) ?_
    refine EP.nil ?_
    refine EW.block ?_
    refine EW.seq ?_
    refine EW.reg ?_
    refine EP.o rfl (Does.move rfl) ?_
    refine EP.o rfl (Does.nilCheck rfl) ?_
    refine EP.o rfl (Does.fieldAddr fl254_3 rfl) ?_
    refine EP.o rfl (Does.loadB o3 rfl (Keeps.now _) (by assumption) (by rfl)) ?_
    refine EP.o rfl (Does.cmp rfl rfl rfl) ?_
    refine EP.o rfl (Does.assign rfl) ?_
    refine EP.nil ?_
    refine EW.cond rfl (fun g1 => ?_) (fun g1 => ?_)
    · try simp at g1
      have hE : tailQ t.mn t.mx size = (sumM [size, 1], t.mn + 1) := by unfold tailQ; rw [if_pos g1]
      have hr1 := sumM_range [size, 1]
      refine EW.reg ?_
      refine EP.o rfl (Does.move rfl) ?_
      refine EP.new2 rfl (News.buildL sl24 Tryz.underlying24 zr3 rfl rfl rfl (by rfl)) ?_
      intro b3 w3 hb3 hs3 hx3 hB3
      have hz3 := hx3.size
      replace hC := hC.step0 hx3
      replace hB0 := hB0.chg0 hx3
      refine EP.call2 rfl (Enters.fn fb46 rfl) (addL_c [size, 1] _ _ _ _ _ (by assumption) rfl (by intro x hx; simp at hx; omega) (by simp)) ?_
      rintro _ _ ⟨rfl, rfl⟩
      refine EP.o rfl (Does.move rfl) ?_
      refine EP.o rfl (Does.addi rfl rfl (by omega)) ?_
      refine EP.o rfl (Does.assign rfl) ?_
      refine EP.o rfl (Does.assign rfl) ?_
      refine EP.nil ?_
      refine ⟨⟨rfl, rfl, (lk_int rfl (by rw [hE])), (lk_int rfl (by rw [hE])), trivial⟩, ?_⟩
      rw [hE]
      exact ⟨hC, hB0, hr1.2, by show 0 ≤ t.mn + 1; omega, by show t.mn + 1 ≤ 2000; omega⟩
    · try simp at g1
      refine EW.seq ?_
      refine EW.reg ?_
      refine EP.o rfl (Does.move rfl) ?_
      refine EP.o rfl (Does.cmp rfl rfl rfl) ?_
      refine EP.o rfl (Does.assign rfl) ?_
      refine EP.nil ?_
      refine EW.cond rfl (fun g2 => ?_) (fun g2 => ?_)
      · try simp at g2
        have hE : tailQ t.mn t.mx size = (sumM [sprod [t.mx - t.mn, sumM [size, 2]], t.mx - t.mn - 1], t.mn + 1) := by unfold tailQ; rw [if_neg g1, if_pos (by omega)]
        have hr1 := sumM_range [size, 2]
        have hr2 := sprod_range [t.mx - t.mn, sumM [size, 2]] (by intro x hx; simp at hx; omega)
        have hr3 := sumM_range [sprod [t.mx - t.mn, sumM [size, 2]], t.mx - t.mn - 1]
        refine EW.reg ?_
        refine EP.o rfl (Does.move rfl) ?_
        refine EP.o rfl (Does.move rfl) ?_
        refine EP.new2 rfl (News.buildL sl24 Tryz.underlying24 zr3 rfl rfl rfl (by rfl)) ?_
        intro b5 w5 hb5 hs5 hx5 hB5
        have hz5 := hx5.size
        replace hC := hC.step0 hx5
        replace hB0 := hB0.chg0 hx5
        refine EP.call2 rfl (Enters.fn fb46 rfl) (addL_c [size, 2] _ _ _ _ _ (by assumption) rfl (by intro x hx; simp at hx; omega) (by simp)) ?_
        rintro _ _ ⟨rfl, rfl⟩
        refine EP.new2 rfl (News.buildL sl24 Tryz.underlying24 zr3 rfl rfl rfl (by rfl)) ?_
        intro b7 w7 hb7 hs7 hx7 hB7
        have hz7 := hx7.size
        replace hC := hC.step0 hx7
        replace hB0 := hB0.chg0 hx7
        replace hB5 := hB5.chg0 hx7
        refine EP.call2 rfl (Enters.fn fb84 rfl) (mulL_c [t.mx - t.mn, sumM [size, 2]] _ _ _ _ _ (by assumption) rfl (by intro x hx; simp at hx; omega) (by simp)) ?_
        rintro _ _ ⟨rfl, rfl⟩
        refine EP.o rfl (Does.move rfl) ?_
        refine EP.o rfl (Does.subi rfl rfl (by omega)) ?_
        refine EP.new2 rfl (News.buildL sl24 Tryz.underlying24 zr3 rfl rfl rfl (by rfl)) ?_
        intro b9 w9 hb9 hs9 hx9 hB9
        have hz9 := hx9.size
        replace hC := hC.step0 hx9
        replace hB0 := hB0.chg0 hx9
        replace hB5 := hB5.chg0 hx9
        replace hB7 := hB7.chg0 hx9
        refine EP.call2 rfl (Enters.fn fb46 rfl) (addL_c [sprod [t.mx - t.mn, sumM [size, 2]], t.mx - t.mn - 1] _ _ _ _ _ (by assumption) rfl (by intro x hx; simp at hx; omega) (by simp)) ?_
        rintro _ _ ⟨rfl, rfl⟩
        refine EP.o rfl (Does.move rfl) ?_
        refine EP.o rfl (Does.addi rfl rfl (by omega)) ?_
        refine EP.o rfl (Does.assign rfl) ?_
        refine EP.o rfl (Does.assign rfl) ?_
        refine EP.nil ?_
        refine ⟨⟨rfl, rfl, (lk_int rfl (by rw [hE])), (lk_int rfl (by rw [hE])), trivial⟩, ?_⟩
        rw [hE]
        exact ⟨hC, hB0, hr3.2, by show 0 ≤ t.mn + 1; omega, by show t.mn + 1 ≤ 2000; omega⟩
      · try simp at g2
        have hE : tailQ t.mn t.mx size = (0, t.mn) := by unfold tailQ; rw [if_neg g1, if_neg (by omega)]
        refine EW.skip ?_
        refine ⟨⟨rfl, rfl, (lk_int rfl (by rw [hE])), (lk_int rfl (by rw [hE])), trivial⟩, ?_⟩
        rw [hE]
        exact ⟨hC, hB0, by show (0 : Int) ≤ _; omega, hm1, by show t.mn ≤ 2000; omega⟩
  rintro e9 w9 ⟨hs9, hC, hB0, hb1, hb2, hb3⟩
  refine EW.sub _ hs9 ?_
  clear hs9 e9
  try have hzw := hC.size
  unfold repeatedQ
  generalize tailQ t.mn t.mx size = tp at *
  try have hlB0 := hB0.lt
  refine EW.seq ?_
  refine EW.seq ?_
  refine EW.reg ?_
  refine EP.o rfl (Does.move rfl) ?_
  refine EP.o rfl (Does.cmp rfl rfl rfl) ?_
  refine EP.nil ?_
  refine EW.cond rfl (fun g3 => ?_) (fun g3 => ?_)
  · try simp at g3
    refine EW.seq ?_
    refine EW.reg ?_
    refine EP.o rfl (Does.assign rfl) ?_
    refine EP.nil ?_
    refine EW.ret ?_
    refine Fin.one rfl rfl ?_
    exact ⟨vint (by rw [if_pos g3]), hC⟩
  · try simp at g3
    have hr4 := sprod_range [t.mn, size] (by intro x hx; simp at hx; omega)
    refine EW.skip ?_
    refine EW.seq ?_
    refine EW.reg ?_
    refine EP.o rfl (Does.move rfl) ?_
    refine EP.o rfl (Does.nilCheck rfl) ?_
    refine EP.o rfl (Does.fieldAddr fl254_2 rfl) ?_
    refine EP.o rfl (Does.loadB o3 rfl (Keeps.now _) (by assumption) (by rfl)) ?_
    refine EP.o rfl (Does.move rfl) ?_
    refine EP.new2 rfl (News.buildL sl24 Tryz.underlying24 zr3 rfl rfl rfl (by rfl)) ?_
    intro b11 w11 hb11 hs11 hx11 hB11
    have hz11 := hx11.size
    replace hC := hC.step0 hx11
    replace hB0 := hB0.chg0 hx11
    refine EP.call2 rfl (Enters.fn fb84 rfl) (mulL_c [t.mn, size] _ _ _ _ _ (by assumption) rfl (by intro x hx; simp at hx; omega) (by simp)) ?_
    rintro _ _ ⟨rfl, rfl⟩
    refine EP.o rfl (Does.move rfl) ?_
    refine EP.o rfl (Does.move rfl) ?_
    refine EP.o rfl (Does.subi rfl rfl (by omega)) ?_
    refine EP.new2 rfl (News.buildL sl24 Tryz.underlying24 zr3 rfl rfl rfl (by rfl)) ?_
    intro b13 w13 hb13 hs13 hx13 hB13
    have hz13 := hx13.size
    replace hC := hC.step0 hx13
    replace hB0 := hB0.chg0 hx13
    replace hB11 := hB11.chg0 hx13
    refine EP.call2 rfl (Enters.fn fb46 rfl) (addL_c [sprod [t.mn, size], tp.1, tp.2 - 1] _ _ _ _ _ (by assumption) rfl (by intro x hx; simp at hx; omega) (by simp)) ?_
    rintro _ _ ⟨rfl, rfl⟩
    refine EP.o rfl (Does.assign rfl) ?_
    refine EP.nil ?_
    refine EW.ret ?_
    refine Fin.one rfl rfl ?_
    exact ⟨vint (by rw [if_neg g3]), hC⟩
end Go.Clt
end
section
set_option linter.unusedVariables false
set_option linter.unusedSimpArgs false
set_option maxRecDepth 4000
namespace Go.Clt
set_option maxHeartbeats 4000000
open Go Go.RowKit Go.Proofs
mutual
def measureQ : Syn → Int
  | .node k s mn mx lz l a b => if k = 2 ∨ k = 3 then (measureL l).headD 0 else if k = 4 ∨ k = 5 then foldedQ (measureL l) else if k = 6 then repeatedQ mn mx ((measureL l).headD 0) else 1
def measureL : List Syn → List Int
  | [] => []
  | t :: r => measureQ t :: measureL r
end
theorem foldedQ_range (l : List Int) : 0 ≤ foldedQ l ∧ foldedQ l ≤ 9223372036854775807 := by
  unfold foldedQ
  split
  · omega
  · exact sumM_range _
theorem repeatedQ_range (mn mx size : Int) : 0 ≤ repeatedQ mn mx size ∧ repeatedQ mn mx size ≤ 9223372036854775807 := by
  unfold repeatedQ
  split
  · omega
  · exact sumM_range _
mutual
theorem measureQ_range : ∀ t : Syn, 0 ≤ measureQ t ∧ measureQ t ≤ 9223372036854775807
  | .node k s mn mx lz l a b => by
    unfold measureQ
    split
    · cases l with
      | nil => simp [measureL]
      | cons t r => simp only [measureL, List.headD_cons]; exact measureQ_range t
    · split
      · exact foldedQ_range _
      · split
        · exact repeatedQ_range _ _ _
        · omega
theorem measureL_range : ∀ (l : List Syn), ∀ x ∈ measureL l, 0 ≤ x ∧ x ≤ 9223372036854775807
  | [], x, hx => by simp [measureL] at hx
  | t :: r, x, hx => by
    simp only [measureL, List.mem_cons] at hx
    rcases hx with rfl | hx
    · exact measureQ_range t
    · exact measureL_range r x hx
end
theorem measureL_len : ∀ (l : List Syn), (measureL l).length = l.length
  | [] => rfl
  | t :: r => by rw [measureL, List.length_cons, List.length_cons, measureL_len r]
theorem measureL_get : ∀ (l : List Syn) (k : Nat), k < l.length → (measureL l).getD k 0 = measureQ (l.getD k default)
  | [], k, h => by simp at h
  | t :: r, 0, _ => rfl
  | t :: r, k + 1, h => by rw [measureL, List.getD_cons_succ, List.getD_cons_succ]; exact measureL_get r k (by simpa using h)
theorem measure_eq (t : Syn) : measureQ t = if t.kind = 2 ∨ t.kind = 3 then (measureL t.l).headD 0 else if t.kind = 4 ∨ t.kind = 5 then foldedQ (measureL t.l) else if t.kind = 6 then repeatedQ t.mn t.mx ((measureL t.l).headD 0) else 1 := by
  cases t with | node k s mn mx lz l a b => rw [measureQ]; rfl
theorem ints_take {l : List Int} {k : Nat} (h : k < l.length) : ints (l.take (k + 1)) = ints (l.take k) ++ [.int .i64 (l.getD k 0)] := by
  rw [List.take_add_one, List.getElem?_eq_getElem h, List.getD_eq_getElem?_getD, List.getElem?_eq_getElem h]
  unfold ints
  rw [List.map_append]
  rfl
theorem kids_one {t : Syn} (hkq : kidsQ t = true) (h : t.kind = 2 ∨ t.kind = 3 ∨ t.kind = 6) : t.l.length = 1 := by
  unfold kidsQ at hkq
  rw [if_neg (by omega)] at hkq
  by_cases h23 : t.kind = 2 ∨ t.kind = 3
  · rw [if_pos h23] at hkq; simpa using hkq
  · rw [if_neg h23, if_neg (by omega), if_neg (by omega), if_pos (by omega)] at hkq
    simp only [Bool.and_eq_true, decide_eq_true_eq] at hkq
    exact hkq.1
theorem kids_cnt {t : Syn} (hkq : kidsQ t = true) (h : t.kind = 6) : countOk t = true := by
  unfold kidsQ at hkq
  rw [if_neg (by omega), if_neg (by omega), if_neg (by omega), if_neg (by omega), if_pos h] at hkq
  simp only [Bool.and_eq_true] at hkq
  exact hkq.2.1
theorem form_kids {t : Syn} (hf : formQ t = true) : kidsQ t = true := by unfold formQ at hf; simp only [Bool.and_eq_true] at hf; exact hf.2.2
def MeasC (t : Syn) : Prop := ∀ (v : Value) (FT : Nat → Prop) (w : World), (∀ b, FT b → b < w.heap.size) → IsSyn FT w t v → Calls P 153 #[v] w (Ret fun u w' => u = .int .i64 (measureQ t) ∧ Chg [] w w')
theorem measure_step (t : Syn) (hf : formQ t = true) (hll : t.l.length ≤ 2000000) (hc : ∀ k, k < t.l.length → MeasC (t.l.getD k default)) : MeasC t := by
  intro v FT w hFT hT
  have hC := Chg.refl [] w
  obtain ⟨q, A1, c1, vs1, rfl, _, hB0, hr, hIs⟩ := hT.open
  have hF := hFT
  have hbl := measureL_len t.l
  have hkq := form_kids hf
  have hqw := hB0.lt
  try have hlB0 := hB0.lt
  refine enter Tryz.func153 rfl rfl ?_
  refine EW.seq ?_
  refine EW.reg ?_
  refine EP.o rfl (Does.assign rfl) ?_
  refine EP.nil ?_
  refine EW.seq ?_
  refine EW.reg ?_
  refine EP.o rfl (Does.assign rfl) ?_
  refine EP.nil ?_
  refine EW.seq ?_
  refine EW.seq ?_
  refine EW.reg ?_
  refine EP.o rfl (Does.move rfl) ?_
  refine EP.o rfl (Does.nilCheck rfl) ?_
  refine EP.o rfl (Does.fieldAddr fl254_5 rfl) ?_
  refine EP.o rfl (Does.loadB o241 rfl (Keeps.now _) (by assumption) (by rfl)) ?_
  refine EP.o rfl (Does.lenL Tryz.underlying241 rfl) ?_
  refine EP.o rfl (Does.move rfl) ?_
  refine EP.nil ?_
  refine EW.block ?_
  refine EW.loop (σ := Nat × Option Addr × Nat) (fun (k, A, c) => [(0, .pointer (some ⟨q, 0, none⟩)), (3, .slice A k c), (9, .slice A1 t.l.length c1), (10, .int .i64 t.l.length), (11, .int .i64 k)]) (fun (k, A, c) wr => Chg [] w wr ∧ IsSyn FT wr t (.pointer (some ⟨q, 0, none⟩)) ∧ Blk wr q (nodeC t.kind t.set t.mn t.mx t.lz (.slice A1 t.l.length c1) t.a t.b) 254 ∧ Rd FT wr 1 A1 t.l.length vs1 ∧ IsSyns FT wr t.l vs1 ∧ Own wr w.heap.size 3 1 A k c (ints ((measureL t.l).take k)) ∧ k ≤ t.l.length) (fun (k, A, c) wr => t.l.length - k) (0, none, 0) ⟨rfl, rfl, rfl, rfl, rfl, trivial⟩ ?_ ?_
  · exact ⟨hC, hT, hB0, hr, hIs, Own.nil _ _ _ _, Nat.zero_le _⟩
  rintro ⟨k, A, c⟩ w9 ⟨hC, hT, hB0, hr, hIs, hO, hk⟩
  have hOb := hO.blk
  try have hzw := hC.size
  try have hlB0 := hB0.lt
  refine EW.seq ?_
  refine EW.reg ?_
  refine EP.o rfl (Does.cmp rfl rfl rfl) ?_
  refine EP.nil ?_
  refine EW.seq ?_
  refine EW.cond rfl (fun h1 => ?_) (fun h1 => ?_)
  · try simp at h1
    have hkn : k < t.l.length := by omega
    obtain ⟨v0, hv0, hi0⟩ := hIs.get k hkn
    obtain ⟨g, off, rfl, _, _, _⟩ := hr.at_ (by omega)
    refine EW.skip ?_
    refine EW.seq ?_
    refine EW.block ?_
    refine EW.seq ?_
    refine EW.reg ?_
    refine EP.o rfl (Does.indexAddr1 sl241 rfl rfl (by omega) (by omega)) ?_
    refine EP.o rfl (Does.load1 o149 rfl (Keeps.now _) (hr.one hv0).2) ?_
    refine EP.o rfl (Does.assign rfl) ?_
    refine EP.nil ?_
    refine EW.reg ?_
    refine EP.o rfl (Does.move rfl) ?_
    refine EP.o rfl (Does.move rfl) ?_
    refine EP.call2 rfl (Enters.fn fb153 rfl) (hc k hkn v0 FT _ (fun y hy => by have := hFT y hy; omega) hi0) ?_
    rintro _ w1 ⟨rfl, hx1⟩
    have hz1 := hx1.size
    replace hC := hC.step0 hx1
    replace hT := hT.chg0 hx1
    replace hB0 := hB0.chg0 hx1
    replace hr := hr.chg0 hx1
    replace hIs := hIs.chg0 hx1
    replace hO := hO.chg0 hx1
    refine EP.new2 rfl (News.buildL sl24 Tryz.underlying24 zr3 rfl rfl rfl (by rfl)) ?_
    intro b2 w2 hb2 hs2 hx2 hB2
    have hz2 := hx2.size
    replace hC := hC.step0 hx2
    replace hT := hT.chg0 hx2
    replace hB0 := hB0.chg0 hx2
    replace hr := hr.chg0 hx2
    replace hIs := hIs.chg0 hx2
    replace hO := hO.chg0 hx2
    refine EP.append2 rfl el24 rfl rfl hO (Blk.rd (F := fun _ => True) (by assumption) rfl trivial) (by rfl) (by omega) (by omega) ?_
    intro A' c' w3 hO3 hx3 hA'
    have hz3 := hx3.size
    replace hC := hC.step hx3 (by intro x h; have := hOb x h; exact .inr (by omega))
    replace hT := hT.chg hx3 (by intro x hx hf; have := hOb x hx; have := hF x hf; omega)
    replace hB0 := hB0.chg hx3 (by intro h; have := hOb _ h; omega)
    replace hr := hr.chg hx3 (by intro x hx hf; have := hOb x hx; have := hF x hf; omega)
    replace hIs := hIs.chg hx3 (by intro x hx hf; have := hOb x hx; have := hF x hf; omega)
    replace hB2 := hB2.chg hx3 (by intro h; have := hOb _ h; omega)
    clear hO; have hO := hO3; clear hO3
    refine EP.o rfl (Does.assign rfl) ?_
    refine EP.nil ?_
    refine EW.reg ?_
    refine EP.o rfl (Does.addi rfl rfl (by omega)) ?_
    refine EP.o rfl (Does.move rfl) ?_
    refine EP.nil ?_
    refine ⟨(k + 1, A', c'), ⟨rfl, rfl, rfl, rfl, rfl, trivial⟩, ?_, ?_⟩
    refine ⟨hC, hT, hB0, hr, hIs, ?_, by omega⟩
    rw [ints_take (by omega), measureL_get _ _ hkn]
    exact hO
    show t.l.length - (k + 1) < t.l.length - k
    omega
  · try simp at h1
    have hkk : k = t.l.length := by omega
    subst hkk
    rw [List.take_of_length_le (by omega)] at hO
    have hrv : Rd (FR w.heap.size w9.heap.size []) w9 1 A t.l.length (ints (measureL t.l)) := hO.rd (fun y h1 h2 => ⟨h1, h2, by simp⟩)
    have hmr := measureL_range t.l
    have hhd : t.l.length = 1 → (ints (measureL t.l))[0]? = some (.int .i64 ((measureL t.l).headD 0)) ∧ 0 ≤ (measureL t.l).headD 0 ∧ (measureL t.l).headD 0 ≤ 9223372036854775807 := fun h => by
      cases hm : measureL t.l with
      | nil => rw [hm] at hbl; simp at hbl; omega
      | cons x r => exact ⟨rfl, hmr x (by rw [hm]; simp)⟩
    rw [measure_eq]
    refine EW.exit (brk_here ?_)
    refine EW.seq ?_
    refine EW.seq ?_
    refine EW.reg ?_
    refine EP.o rfl (Does.move rfl) ?_
    refine EP.o rfl (Does.nilCheck rfl) ?_
    refine EP.o rfl (Does.fieldAddr fl254_0 rfl) ?_
    refine EP.o rfl (Does.loadB o3 rfl (Keeps.now _) (by assumption) (by rfl)) ?_
    refine EP.nil ?_
    refine EW.block ?_
    refine EW.cut (fun e9 wr => Sub [(0, .pointer (some ⟨q, 0, none⟩)), (3, .slice A t.l.length c), (24, .int .i64 t.kind), (25, .bool (decide (t.kind = 2 ∨ t.kind = 3)))] e9 ∧ wr = w9 ∧ Chg [] w wr) ?_ ?_
    · refine EW.seq ?_
      refine EW.reg ?_
      refine EP.o rfl (Does.cmp rfl rfl rfl) ?_
      refine EP.o rfl (Does.assign rfl) ?_
      refine EP.nil ?_
      refine EW.cond rfl (fun a1 => ?_) (fun a1 => ?_)
      · try simp at a1
        refine EW.skip ?_
        refine ⟨⟨rfl, rfl, rfl, (lk_bool rfl (by rw [Bool.eq_iff_iff, cmpB_eql, decide_eq_true_iff]; omega)), trivial⟩, ?_⟩
        exact ⟨rfl, hC⟩
      · try simp at a1
        refine EW.reg ?_
        refine EP.o rfl (Does.cmp rfl rfl rfl) ?_
        refine EP.o rfl (Does.assign rfl) ?_
        refine EP.nil ?_
        refine ⟨⟨rfl, rfl, rfl, (lk_bool rfl (by rw [Bool.eq_iff_iff, cmpB_eql, decide_eq_true_iff]; omega)), trivial⟩, ?_⟩
        exact ⟨rfl, hC⟩
    rintro e9 w8 ⟨hs9, rfl, hC⟩
    refine EW.sub _ hs9 ?_
    clear hs9 e9
    try have hzw := hC.size
    refine EW.cond rfl (fun a2 => ?_) (fun a2 => ?_)
    · try simp at a2
      have hl1 := kids_one hkq (by omega)
      obtain ⟨hv0, _, _⟩ := hhd hl1
      obtain ⟨g, off, rfl, _, _, _⟩ := hrv.at_ (by omega)
      refine EW.seq ?_
      refine EW.reg ?_
      refine EP.o rfl (Does.move rfl) ?_
      refine EP.o rfl (Does.indexAddr1 sl24 rfl rfl (by omega) (by omega)) ?_
      refine EP.o rfl (Does.load1 o3 rfl (Keeps.now _) (hrv.one hv0).2) ?_
      refine EP.o rfl (Does.assign rfl) ?_
      refine EP.nil ?_
      refine EW.ret ?_
      refine Fin.one rfl rfl ?_
      exact ⟨vint (by rw [if_pos a2]), hC⟩
    · try simp at a2
      rw [if_neg (by omega)]
      refine EW.cut (fun e9 wr => Sub [(0, .pointer (some ⟨q, 0, none⟩)), (3, .slice A t.l.length c), (24, .int .i64 t.kind), (31, .bool (decide (t.kind = 4 ∨ t.kind = 5)))] e9 ∧ wr = w8 ∧ Chg [] w wr) ?_ ?_
      · refine EW.seq ?_
        refine EW.reg ?_
        refine EP.o rfl (Does.cmp rfl rfl rfl) ?_
        refine EP.o rfl (Does.assign rfl) ?_
        refine EP.nil ?_
        refine EW.cond rfl (fun a3 => ?_) (fun a3 => ?_)
        · try simp at a3
          refine EW.skip ?_
          refine ⟨⟨rfl, rfl, rfl, (lk_bool rfl (by rw [Bool.eq_iff_iff, cmpB_eql, decide_eq_true_iff]; omega)), trivial⟩, ?_⟩
          exact ⟨rfl, hC⟩
        · try simp at a3
          refine EW.reg ?_
          refine EP.o rfl (Does.cmp rfl rfl rfl) ?_
          refine EP.o rfl (Does.assign rfl) ?_
          refine EP.nil ?_
          refine ⟨⟨rfl, rfl, rfl, (lk_bool rfl (by rw [Bool.eq_iff_iff, cmpB_eql, decide_eq_true_iff]; omega)), trivial⟩, ?_⟩
          exact ⟨rfl, hC⟩
      rintro e9 w7 ⟨hs9, rfl, hC⟩
      refine EW.sub _ hs9 ?_
      clear hs9 e9
      try have hzw := hC.size
      refine EW.cond rfl (fun a4 => ?_) (fun a4 => ?_)
      · try simp at a4
        refine EW.seq ?_
        refine EW.reg ?_
        refine EP.o rfl (Does.move rfl) ?_
        refine EP.call2 rfl (Enters.fn fb186 rfl) ((show Calls P 186 #[.slice A t.l.length c] w7 _ from hbl ▸ folded_c (measureL t.l) (FR w.heap.size w7.heap.size []) A c w7 (fun x hx => (hmr x hx).2) (by omega) (hbl.symm ▸ hrv))) ?_
        rintro _ w4 ⟨rfl, hx4⟩
        have hz4 := hx4.size
        replace hC := hC.step0 hx4
        refine EP.o rfl (Does.assign rfl) ?_
        refine EP.nil ?_
        refine EW.ret ?_
        refine Fin.one rfl rfl ?_
        exact ⟨vint (by rw [if_pos a4]), hC⟩
      · try simp at a4
        rw [if_neg (by omega)]
        refine EW.seq ?_
        refine EW.reg ?_
        refine EP.o rfl (Does.cmp rfl rfl rfl) ?_
        refine EP.o rfl (Does.assign rfl) ?_
        refine EP.nil ?_
        refine EW.cond rfl (fun a5 => ?_) (fun a5 => ?_)
        · try simp at a5
          have hl1 := kids_one hkq (by omega)
          obtain ⟨hv0, hb1, hb2⟩ := hhd hl1
          obtain ⟨g, off, rfl, _, _, _⟩ := hrv.at_ (by omega)
          refine EW.seq ?_
          refine EW.reg ?_
          refine EP.o rfl (Does.move rfl) ?_
          refine EP.o rfl (Does.move rfl) ?_
          refine EP.o rfl (Does.indexAddr1 sl24 rfl rfl (by omega) (by omega)) ?_
          refine EP.o rfl (Does.load1 o3 rfl (Keeps.now _) (hrv.one hv0).2) ?_
          refine EP.call2 rfl (Enters.fn fb187 rfl) (repeated_c t ((measureL t.l).headD 0) _ FT w7 ⟨hb1, hb2⟩ (kids_cnt hkq a5) hT) ?_
          rintro _ w5 ⟨rfl, hx5⟩
          have hz5 := hx5.size
          replace hC := hC.step0 hx5
          refine EP.o rfl (Does.assign rfl) ?_
          refine EP.nil ?_
          refine EW.ret ?_
          refine Fin.one rfl rfl ?_
          exact ⟨vint (by rw [if_pos a5]), hC⟩
        · try simp at a5
          refine EW.skip ?_
          refine EW.seq ?_
          refine EW.reg ?_
          refine EP.o rfl (Does.assign rfl) ?_
          refine EP.nil ?_
          refine EW.ret ?_
          refine Fin.one rfl rfl ?_
          exact ⟨vint (by rw [if_neg a5]), hC⟩
end Go.Clt
end
section
set_option linter.unusedVariables false
set_option linter.unusedSimpArgs false
set_option maxRecDepth 4000
namespace Go.Clt
set_option maxHeartbeats 4000000
open Go Go.RowKit Go.Proofs
theorem formed_form {t : Syn} (h : formedQ t = true) : formQ t = true ∧ formedL t.l = true := by
  cases t with | node k s mn mx lz l a b => unfold formedQ at h; simp only [Bool.and_eq_true] at h; exact h
theorem synOk_l {t : Syn} (h : SynOk t) : SetOk t.set ∧ t.l.length ≤ 2000000 ∧ SynsOk t.l := by
  cases t with | node k s mn mx lz l a b => unfold SynOk at h; exact h
mutual
theorem build_all : ∀ (t : Syn), SynOk t → formedQ t = true → BuildC t
  | .node k s mn mx lz l a b, ht, hf => build_step _ (formed_form hf).1 (synOk_l ht).2.1 (build_list l (synOk_l ht).2.2 (formed_form hf).2)
theorem build_list : ∀ (l : List Syn), SynsOk l → formedL l = true → ∀ k, k < l.length → BuildC (l.getD k default)
  | [], _, _, k, hk => absurd hk (by simp)
  | t :: r, h, hf, 0, _ => build_all t h.1 (by unfold formedL at hf; simp only [Bool.and_eq_true] at hf; exact hf.1)
  | t :: r, h, hf, k + 1, hk => by rw [List.getD_cons_succ]; exact build_list r h.2 (by unfold formedL at hf; simp only [Bool.and_eq_true] at hf; exact hf.2) k (by simpa using hk)
end
mutual
theorem measure_all : ∀ (t : Syn), SynOk t → formedQ t = true → MeasC t
  | .node k s mn mx lz l a b, ht, hf => measure_step _ (formed_form hf).1 (synOk_l ht).2.1 (measure_list l (synOk_l ht).2.2 (formed_form hf).2)
theorem measure_list : ∀ (l : List Syn), SynsOk l → formedL l = true → ∀ k, k < l.length → MeasC (l.getD k default)
  | [], _, _, k, hk => absurd hk (by simp)
  | t :: r, h, hf, 0, _ => measure_all t h.1 (by unfold formedL at hf; simp only [Bool.and_eq_true] at hf; exact hf.1)
  | t :: r, h, hf, k + 1, hk => by rw [List.getD_cons_succ]; exact measure_list r h.2 (by unfold formedL at hf; simp only [Bool.and_eq_true] at hf; exact hf.2) k (by simpa using hk)
end
theorem rest_c (w : World) : Calls P 154 #[] w (Ret fun u w' => Chg [] w w' ∧ IsCor (FR w.heap.size w'.heap.size []) w' restC u) := by
  have hC := Chg.refl [] w
  refine enter Tryz.func154 rfl rfl ?_
  refine EW.seq ?_
  refine EW.reg ?_
  refine EP.o rfl (Does.assign rfl) ?_
  refine EP.nil ?_
  refine EW.seq ?_
  refine EW.reg ?_
  refine EP.call2 rfl (Enters.fn fb156 rfl) (all_c _) ?_
  rintro _ w1 ⟨rfl, hx1⟩
  have hz1 := hx1.size
  replace hC := hC.step0 hx1
  refine EP.o rfl (Does.buildSL zr214 pl214 rfl (by rfl)) ?_
  refine EP.new2 rfl (News.box rfl rfl) ?_
  intro b2 w2 hb2 hs2 hx2 hB2
  have hz2 := hx2.size
  replace hC := hC.step0 hx2
  refine EP.call2 rfl (Enters.fn fb155 rfl) (star_c _ true _) ?_
  rintro v7 w3 ⟨hx3, p, hv, hp, hBn⟩
  have hz3 := hx3.size
  replace hC := hC.step0 hx3
  replace hB2 := hB2.chg0 hx3
  refine EP.o rfl (Does.assign rfl) ?_
  refine EP.nil ?_
  refine EW.ret ?_
  refine Fin.one rfl rfl ?_
  exact ⟨hC, p, _, hv, ⟨by omega, hBn.lt, by simp⟩, hBn, b2, rfl, ⟨by omega, by omega, by simp⟩, by assumption⟩
theorem wrap_c (r : Cor) (v : Value) (mode : Int) (F : Nat → Prop) (w : World) (hI : IsCor F w r v) : Calls P 130 #[v, .int .i64 mode] w (Ret fun u w' => Chg [] w w' ∧ IsCor (fun x => F x ∨ w.heap.size ≤ x) w' (wrapC r mode) u) := by
  have hC := Chg.refl [] w
  obtain ⟨p, rfl⟩ := hI.ptr
  have hF : ∀ b, F b → ¬ b ∈ ([] : List Nat) := fun b _ => by simp
  refine enter Tryz.func130 rfl rfl ?_
  unfold wrapC
  refine EW.seq ?_
  refine EW.reg ?_
  refine EP.o rfl (Does.assign rfl) ?_
  refine EP.nil ?_
  refine EW.seq ?_
  refine EW.reg ?_
  refine EP.o rfl (Does.assign rfl) ?_
  refine EP.nil ?_
  refine EW.seq ?_
  refine EW.seq ?_
  refine EW.reg ?_
  refine EP.o rfl (Does.move rfl) ?_
  refine EP.nil ?_
  refine EW.block ?_
  refine EW.seq ?_
  refine EW.reg ?_
  refine EP.o rfl (Does.cmp rfl rfl rfl) ?_
  refine EP.o rfl (Does.assign rfl) ?_
  refine EP.nil ?_
  refine EW.cond rfl (fun a1 => ?_) (fun a1 => ?_)
  · try simp at a1
    refine EW.seq ?_
    refine EW.reg ?_
    refine EP.o rfl (Does.move rfl) ?_
    refine EP.o rfl (Does.move rfl) ?_
    refine EP.call2 rfl (Enters.clo rfl fb154 rfl) (rest_c _) ?_
    rintro v6 w1 ⟨hx1, hR'⟩
    have hz1 := hx1.size
    replace hC := hC.step0 hx1
    replace hI := hI.chg0 hx1
    have hR := hR'; clear hR'
    obtain ⟨pr, rfl⟩ := hR.ptr
    refine EP.call2 rfl (Enters.fn fb157 rfl) (two_c 2 _ _ _) ?_
    rintro v7 w2 ⟨hx2, p2, rfl, hp, hBn⟩
    have hz2 := hx2.size
    replace hC := hC.step0 hx2
    replace hI := hI.chg0 hx2
    replace hR := hR.chg0 hx2
    refine EP.o rfl (Does.assign rfl) ?_
    refine EP.nil ?_
    refine EW.ret ?_
    refine Fin.one rfl rfl ?_
    rw [if_pos a1]
    exact ⟨hC, _, _, _, rfl, Or.inr (by omega), hBn, hI.mono (fun y hy _ => Or.inl hy), hR.mono (fun y hy _ => Or.inr (by have := hy.1; omega))⟩
  · try simp at a1
    rw [if_neg a1]
    refine EW.seq ?_
    refine EW.reg ?_
    refine EP.o rfl (Does.cmp rfl rfl rfl) ?_
    refine EP.o rfl (Does.assign rfl) ?_
    refine EP.nil ?_
    refine EW.cond rfl (fun a2 => ?_) (fun a2 => ?_)
    · try simp at a2
      refine EW.seq ?_
      refine EW.reg ?_
      refine EP.o rfl (Does.move rfl) ?_
      refine EP.call2 rfl (Enters.clo rfl fb154 rfl) (rest_c _) ?_
      rintro v6 w3 ⟨hx3, hR'⟩
      have hz3 := hx3.size
      replace hC := hC.step0 hx3
      replace hI := hI.chg0 hx3
      have hR := hR'; clear hR'
      obtain ⟨pr, rfl⟩ := hR.ptr
      refine EP.o rfl (Does.move rfl) ?_
      refine EP.call2 rfl (Enters.fn fb157 rfl) (two_c 2 _ _ _) ?_
      rintro v7 w4 ⟨hx4, p2, rfl, hp, hBn⟩
      have hz4 := hx4.size
      replace hC := hC.step0 hx4
      replace hI := hI.chg0 hx4
      replace hR := hR.chg0 hx4
      refine EP.o rfl (Does.assign rfl) ?_
      refine EP.nil ?_
      refine EW.ret ?_
      refine Fin.one rfl rfl ?_
      rw [if_pos a2]
      exact ⟨hC, _, _, _, rfl, Or.inr (by omega), hBn, hR.mono (fun y hy _ => Or.inr (by have := hy.1; omega)), hI.mono (fun y hy _ => Or.inl hy)⟩
    · try simp at a2
      rw [if_neg a2]
      refine EW.seq ?_
      refine EW.reg ?_
      refine EP.o rfl (Does.cmp rfl rfl rfl) ?_
      refine EP.o rfl (Does.assign rfl) ?_
      refine EP.nil ?_
      refine EW.cond rfl (fun a3 => ?_) (fun a3 => ?_)
      · try simp at a3
        refine EW.seq ?_
        refine EW.reg ?_
        refine EP.o rfl (Does.move rfl) ?_
        refine EP.call2 rfl (Enters.clo rfl fb154 rfl) (rest_c _) ?_
        rintro v6 w5 ⟨hx5, hR'⟩
        have hz5 := hx5.size
        replace hC := hC.step0 hx5
        replace hI := hI.chg0 hx5
        have hR := hR'; clear hR'
        obtain ⟨pr, rfl⟩ := hR.ptr
        refine EP.o rfl (Does.move rfl) ?_
        refine EP.o rfl (Does.move rfl) ?_
        refine EP.call2 rfl (Enters.clo rfl fb154 rfl) (rest_c _) ?_
        rintro v6 w6 ⟨hx6, hQ'⟩
        have hz6 := hx6.size
        replace hC := hC.step0 hx6
        replace hI := hI.chg0 hx6
        replace hR := hR.chg0 hx6
        have hQ := hQ'; clear hQ'
        obtain ⟨pq, rfl⟩ := hQ.ptr
        refine EP.call2 rfl (Enters.fn fb157 rfl) (two_c 2 _ _ _) ?_
        rintro v7 w7 ⟨hx7, p2, rfl, hp, hBn'⟩
        have hz7 := hx7.size
        replace hC := hC.step0 hx7
        replace hI := hI.chg0 hx7
        replace hR := hR.chg0 hx7
        replace hQ := hQ.chg0 hx7
        have hBn := hBn'; clear hBn'
        refine EP.call2 rfl (Enters.fn fb157 rfl) (two_c 2 _ _ _) ?_
        rintro v8 w8 ⟨hx8, p3, rfl, hp3, hBm⟩
        have hz8 := hx8.size
        replace hC := hC.step0 hx8
        replace hI := hI.chg0 hx8
        replace hR := hR.chg0 hx8
        replace hQ := hQ.chg0 hx8
        replace hBn := hBn.chg0 hx8
        refine EP.o rfl (Does.assign rfl) ?_
        refine EP.nil ?_
        refine EW.ret ?_
        refine Fin.one rfl rfl ?_
        rw [if_pos a3]
        exact ⟨hC, _, _, _, rfl, Or.inr (by omega), hBm, hR.mono (fun y hy _ => Or.inr (by have := hy.1; omega)), _, _, _, rfl, Or.inr (by omega), hBn, hI.mono (fun y hy _ => Or.inl hy), hQ.mono (fun y hy _ => Or.inr (by have := hy.1; omega))⟩
      · try simp at a3
        rw [if_neg a3]
        refine EW.skip ?_
        refine EW.seq ?_
        refine EW.reg ?_
        refine EP.o rfl (Does.move rfl) ?_
        refine EP.o rfl (Does.assign rfl) ?_
        refine EP.nil ?_
        refine EW.ret ?_
        refine Fin.one rfl rfl ?_
        exact ⟨hC, hI.mono (fun y hy _ => Or.inl hy)⟩
def rightM (t : Syn) (mode : Int) : Bool := rightQ t && decide (0 ≤ mode) && decide (mode < 4)
theorem rightm_c (t : Syn) (mode : Int) (ht : SynOk t) (hd : deepQ t ≤ 100000000) (v : Value) (F : Nat → Prop) (w : World) (hF : ∀ b, F b → b < w.heap.size) (hI : IsSyn F w t v) : Calls P 128 #[v, .int .i64 mode] w (Ret fun u w' => u = .bool (rightM t mode) ∧ Chg [] w w') := by
  have hC := Chg.refl [] w
  refine enter Tryz.func128 rfl rfl ?_
  refine EW.seq ?_
  refine EW.reg ?_
  refine EP.o rfl (Does.assign rfl) ?_
  refine EP.nil ?_
  refine EW.seq ?_
  refine EW.reg ?_
  refine EP.o rfl (Does.move rfl) ?_
  refine EP.call2 rfl (Enters.fn fb152 rfl) (right_c t ht hd v F _ hF (by assumption)) ?_
  rintro _ w1 ⟨rfl, hx1⟩
  have hz1 := hx1.size
  replace hC := hC.step0 hx1
  replace hI := hI.chg0 hx1
  unfold rightM
  refine EP.o rfl (Does.move rfl) ?_
  refine EP.bsplit (d := 7) rfl (fun h1 => ?_) (fun h1 => ?_)
  · try simp at h1
    refine EP.ung rfl rfl rfl ?_
    refine EP.o rfl (Does.move rfl) ?_
    refine EP.ung rfl rfl rfl ?_
    refine EP.o rfl (Does.cmp rfl rfl rfl) ?_
    refine EP.o rfl (Does.pickT rfl rfl) ?_
    refine EP.o rfl (Does.move rfl) ?_
    refine EP.bsplit (d := 11) rfl (fun h2 => ?_) (fun h2 => ?_)
    · try simp at h2
      refine EP.ung rfl rfl rfl ?_
      refine EP.o rfl (Does.move rfl) ?_
      refine EP.ung rfl rfl rfl ?_
      refine EP.o rfl (Does.cmp rfl rfl rfl) ?_
      refine EP.o rfl (Does.pickT rfl rfl) ?_
      refine EP.o rfl (Does.assign rfl) ?_
      refine EP.nil ?_
      refine EW.ret ?_
      refine Fin.one rfl rfl ?_
      exact ⟨vbool (by rw [h1]; simp [h2, cmpB]), hC⟩
    · try simp at h2
      refine EP.skp rfl rfl rfl rfl rfl (fun h => by cases h) ?_
      refine EP.skp rfl rfl rfl rfl rfl (fun h => by cases h) ?_
      refine EP.o rfl (Does.pickF rfl rfl) ?_
      refine EP.o rfl (Does.assign rfl) ?_
      refine EP.nil ?_
      refine EW.ret ?_
      refine Fin.one rfl rfl ?_
      exact ⟨vbool (by rw [h1]; simp [h2]; omega), hC⟩
  · try simp at h1
    refine EP.skp rfl rfl rfl rfl rfl (fun h => by cases h) ?_
    refine EP.skp rfl rfl rfl rfl rfl (fun h => by cases h) ?_
    refine EP.o rfl (Does.pickF rfl rfl) ?_
    refine EP.o rfl (Does.move rfl) ?_
    refine EP.skp rfl rfl rfl rfl rfl (fun h => by cases h) ?_
    refine EP.skp rfl rfl rfl rfl rfl (fun h => by cases h) ?_
    refine EP.o rfl (Does.pickF rfl rfl) ?_
    refine EP.o rfl (Does.assign rfl) ?_
    refine EP.nil ?_
    refine EW.ret ?_
    refine Fin.one rfl rfl ?_
    exact ⟨vbool (by rw [h1]; simp), hC⟩
def modeN (mode : Int) : Int := if mode = 0 then 0 else if mode = 3 then 6 else 3
theorem modeN_at (mode : Int) (h0 : 0 ≤ mode) (h1 : mode < 4) : ([.int .i64 0, .int .i64 3, .int .i64 3, .int .i64 6] : List Value)[mode.toNat]? = some (.int .i64 (modeN mode)) := by
  have h : mode = 0 ∨ mode = 1 ∨ mode = 2 ∨ mode = 3 := by omega
  rcases h with rfl | rfl | rfl | rfl <;> rfl
theorem modeN_range (mode : Int) : 0 ≤ modeN mode ∧ modeN mode ≤ 6 := by unfold modeN; split; omega; split <;> omega
def MeasureQ (t : Syn) (mode : Int) : Int := if rightM t mode then sumM [measureQ t, modeN mode] else 0
theorem rightM_ok {t : Syn} {mode : Int} (h : rightM t mode = true) : formedQ t = true ∧ 0 ≤ mode ∧ mode < 4 := by
  unfold rightM rightQ at h
  simp only [Bool.and_eq_true, decide_eq_true_eq] at h
  exact ⟨h.1.1.1, h.1.2, h.2⟩
theorem measurem_c (t : Syn) (mode : Int) (ht : SynOk t) (hd : deepQ t ≤ 100000000) (v : Value) (F : Nat → Prop) (w : World) (hF : ∀ b, F b → b < w.heap.size) (hI : IsSyn F w t v) : Calls P 129 #[v, .int .i64 mode] w (Ret fun u w' => u = .int .i64 (MeasureQ t mode) ∧ Chg [] w w') := by
  have hC := Chg.refl [] w
  have hmr := measureQ_range t
  have hmn := modeN_range mode
  refine enter Tryz.func129 rfl rfl ?_
  refine EW.seq ?_
  refine EW.reg ?_
  refine EP.o rfl (Does.assign rfl) ?_
  refine EP.nil ?_
  refine EW.seq ?_
  refine EW.seq ?_
  refine EW.reg ?_
  refine EP.o rfl (Does.move rfl) ?_
  refine EP.o rfl (Does.move rfl) ?_
  refine EP.call2 rfl (Enters.fn fb128 rfl) (rightm_c t mode ht hd v F _ hF (by assumption)) ?_
  rintro _ w1 ⟨rfl, hx1⟩
  have hz1 := hx1.size
  replace hC := hC.step0 hx1
  replace hI := hI.chg0 hx1
  unfold MeasureQ
  refine EP.o rfl (Does.not rfl) ?_
  refine EP.nil ?_
  refine EW.cond rfl (fun h1 => ?_) (fun h1 => ?_)
  · try simp at h1
    refine EW.seq ?_
    refine EW.reg ?_
    refine EP.o rfl (Does.assign rfl) ?_
    refine EP.nil ?_
    refine EW.ret ?_
    refine Fin.one rfl rfl ?_
    exact ⟨vint (by rw [h1]; rfl), hC⟩
  · try simp at h1
    obtain ⟨hf, hm0, hm1⟩ := rightM_ok h1
    refine EW.skip ?_
    refine EW.seq ?_
    refine EW.drw' (S := []) 5 [(0, 0), (0, 2), (0, 3), (0, 4), (1, 1), (2, 5), (2, 6), (2, 7)] mo (by kernel_rfl) ?_
    intro w2 hx2 hh2
    have hz2 := hx2.size
    replace hC := hC.step0 hx2
    replace hI := hI.chg0 hx2
    have hCS2 := Chg.refl ([]) w2
    refine EP.f rfl (Does.move rfl) ?_
    refine EP.f rfl (Does.buildAL zr246 ar246 rfl (by rfl)) ?_
    refine EP.f rfl (Does.move rfl) ?_
    refine EP.f rfl (Does.indexV ar246 (by kernel_rfl) rfl rfl (by omega) (by omega) (modeN_at mode hm0 hm1)) ?_
    refine EP.call1 rfl (Enters.fn fb153 rfl) (measure_all t ht hf v F _ (fun y hy => by have := hF y hy; omega) (by assumption)) ?_
    rintro _ w3 ⟨rfl, hx3⟩
    have hz3 := hx3.size
    replace hC := hC.step0 hx3
    replace hI := hI.chg0 hx3
    replace hCS2 := hCS2.step0 hx3
    refine ⟨hCS2, ?_⟩
    refine EP.new2 rfl (News.buildL sl24 Tryz.underlying24 zr3 rfl rfl rfl (by rfl)) ?_
    intro b4 w4 hb4 hs4 hx4 hB4
    have hz4 := hx4.size
    replace hC := hC.step0 hx4
    replace hI := hI.chg0 hx4
    refine EP.call2 rfl (Enters.fn fb46 rfl) (addL_c [measureQ t, modeN mode] _ _ _ _ _ (by assumption) rfl (by intro x hx; simp at hx; omega) (by simp)) ?_
    rintro _ _ ⟨rfl, rfl⟩
    refine EP.o rfl (Does.assign rfl) ?_
    refine EP.nil ?_
    refine EW.ret ?_
    refine Fin.one rfl rfl ?_
    exact ⟨vint (by rw [h1]; rfl), hC⟩
def buildE (t : Syn) (mode : Int) : Int := if rightM t mode = false then 1 else if 4096 < MeasureQ t mode then 3 else 0
theorem buildm_c (t : Syn) (mode : Int) (ht : SynOk t) (hd : deepQ t ≤ 100000000) (v : Value) (F : Nat → Prop) (w : World) (hF : ∀ b, F b → b < w.heap.size) (hI : IsSyn F w t v) :
    Calls P 95 #[v, .int .i64 mode] w (Ret fun u w' => Chg [] w w' ∧ ∃ ad, u = .tuple #[.pointer ad, .int .i64 (buildE t mode)] ∧ (buildE t mode = 0 → IsCor (FR w.heap.size w'.heap.size []) w' (wrapC (buildC t) mode) (.pointer ad)) ∧ (buildE t mode ≠ 0 → ad = none)) := by
  have hC := Chg.refl [] w
  refine enter Tryz.func95 rfl rfl ?_
  refine EW.seq ?_
  refine EW.reg ?_
  refine EP.o rfl (Does.assign rfl) ?_
  refine EP.o rfl (Does.assign rfl) ?_
  refine EP.nil ?_
  refine EW.seq ?_
  refine EW.block ?_
  refine EW.seq ?_
  refine EW.reg ?_
  refine EP.o rfl (Does.move rfl) ?_
  refine EP.o rfl (Does.move rfl) ?_
  refine EP.call2 rfl (Enters.fn fb128 rfl) (rightm_c t mode ht hd v F _ hF (by assumption)) ?_
  rintro _ w1 ⟨rfl, hx1⟩
  have hz1 := hx1.size
  replace hC := hC.step0 hx1
  replace hI := hI.chg0 hx1
  unfold buildE
  refine EP.o rfl (Does.not rfl) ?_
  refine EP.o rfl (Does.assign rfl) ?_
  refine EP.nil ?_
  refine EW.cond rfl (fun h1 => ?_) (fun h1 => ?_)
  · try simp at h1
    refine EW.seq ?_
    refine EW.reg ?_
    refine EP.o rfl (Does.assign rfl) ?_
    refine EP.o rfl (Does.assign rfl) ?_
    refine EP.nil ?_
    refine EW.ret ?_
    refine Fin.two rfl rfl rfl ?_
    rw [if_pos h1]
    exact ⟨hC, none, rfl, fun h => by omega, fun _ => rfl⟩
  · try simp at h1
    rw [if_neg (by rw [h1]; simp)]
    obtain ⟨hf, hm0, hm1⟩ := rightM_ok h1
    refine EW.seq ?_
    refine EW.reg ?_
    refine EP.o rfl (Does.move rfl) ?_
    refine EP.o rfl (Does.move rfl) ?_
    refine EP.call2 rfl (Enters.fn fb129 rfl) (measurem_c t mode ht hd v F _ (fun y hy => by have := hF y hy; omega) (by assumption)) ?_
    rintro _ w2 ⟨rfl, hx2⟩
    have hz2 := hx2.size
    replace hC := hC.step0 hx2
    replace hI := hI.chg0 hx2
    refine EP.o rfl (Does.cmp rfl rfl rfl) ?_
    refine EP.o rfl (Does.assign rfl) ?_
    refine EP.nil ?_
    refine EW.cond rfl (fun h2 => ?_) (fun h2 => ?_)
    · try simp at h2
      refine EW.seq ?_
      refine EW.reg ?_
      refine EP.o rfl (Does.assign rfl) ?_
      refine EP.o rfl (Does.assign rfl) ?_
      refine EP.nil ?_
      refine EW.ret ?_
      refine Fin.two rfl rfl rfl ?_
      rw [if_pos h2]
      exact ⟨hC, none, rfl, fun h => by omega, fun _ => rfl⟩
    · try simp at h2
      rw [if_neg (by omega)]
      refine EW.skip ?_
      refine EW.seq ?_
      refine EW.reg ?_
      refine EP.o rfl (Does.move rfl) ?_
      refine EP.call2 rfl (Enters.fn fb131 rfl) (build_all t ht hf v F _ (fun y hy => by have := hF y hy; omega) (by assumption)) ?_
      rintro v6 w3 ⟨hx3, hV'⟩
      have hz3 := hx3.size
      replace hC := hC.step0 hx3
      replace hI := hI.chg0 hx3
      have hV := hV'; clear hV'
      refine EP.o rfl (Does.move rfl) ?_
      refine EP.call2 rfl (Enters.fn fb130 rfl) (wrap_c (buildC t) _ mode _ _ (by assumption)) ?_
      rintro v7 w4 ⟨hx4, hW⟩
      have hz4 := hx4.size
      replace hC := hC.step0 hx4
      replace hI := hI.chg0 hx4
      replace hV := hV.chg0 hx4
      obtain ⟨pw, rfl⟩ := hW.ptr
      refine EP.o rfl (Does.assign rfl) ?_
      refine EP.o rfl (Does.assign rfl) ?_
      refine EP.nil ?_
      refine EW.ret ?_
      refine Fin.two rfl rfl rfl ?_
      exact ⟨hC, _, rfl, fun _ => hW.mono (fun y hy hl => ⟨hy.elim (fun h => by have := h.1; omega) (fun h => by omega), hl, by simp⟩), fun h => absurd rfl h⟩
end Go.Clt
end
section
set_option linter.unusedVariables false
set_option linter.unusedSimpArgs false
set_option maxRecDepth 4000
namespace Go.Clt
set_option maxHeartbeats 4000000
open Go Go.RowKit Go.Proofs
def setsC : Cor → List Nat
  | .empty => []
  | .set s => [s]
  | .cat a b => setsC a ++ setsC b
  | .alt a b => setsC a ++ setsC b
  | .star _ a => setsC a
theorem setsCells_append (a b : List Nat) : setsCells (a ++ b) = setsCells a ++ setsCells b := by simp [setsCells]
def SetsR (l : List Nat) (w : World) (u : Value) (w' : World) : Prop := Chg [] w w' ∧ ∃ A c, u = .slice A l.length c ∧ Own w' w.heap.size 70 4 A l.length c (setsCells l)
theorem sets_nil_c (w : World) : Calls P 96 #[.pointer none] w (Ret (SetsR [] w)) := by
  have hC := Chg.refl [] w
  refine enter Tryz.func96 rfl rfl ?_
  refine EW.seq ?_
  refine EW.reg ?_
  refine EP.o rfl (Does.assign rfl) ?_
  refine EP.nil ?_
  refine EW.seq ?_
  refine EW.seq ?_
  refine EW.reg ?_
  refine EP.o rfl (Does.move rfl) ?_
  refine EP.o rfl (Does.eqPtr Tryz.underlying67 rfl rfl) ?_
  refine EP.nil ?_
  refine EW.cond rfl (fun h0 => ?_) (fun h0 => ?_)
  · try simp at h0
    refine EW.seq ?_
    refine EW.reg ?_
    refine EP.o rfl (Does.assign rfl) ?_
    refine EP.nil ?_
    refine EW.ret ?_
    refine Fin.one rfl rfl ?_
    exact ⟨hC, none, 0, rfl, Own.nil _ _ _ _⟩
  · try simp at h0
    all_goals cases h0
theorem sets_set_c (s p : Nat) (lz : Bool) (va vb : Value) (w : World) (hB0 : Blk w p (corC 1 s lz va vb) 214) : Calls P 96 #[.pointer (some ⟨p, 0, none⟩)] w (Ret (SetsR [s] w)) := by
  have hC := Chg.refl [] w
  try have hlB0 := hB0.lt
  refine enter Tryz.func96 rfl rfl ?_
  refine EW.seq ?_
  refine EW.reg ?_
  refine EP.o rfl (Does.assign rfl) ?_
  refine EP.nil ?_
  refine EW.seq ?_
  refine EW.seq ?_
  refine EW.reg ?_
  refine EP.o rfl (Does.move rfl) ?_
  refine EP.o rfl (Does.eqPtr Tryz.underlying67 rfl rfl) ?_
  refine EP.nil ?_
  refine EW.cond rfl (fun h0 => ?_) (fun h0 => ?_)
  · try simp at h0
    all_goals cases h0
  · try simp at h0
    refine EW.skip ?_
    refine EW.seq ?_
    refine EW.seq ?_
    refine EW.reg ?_
    refine EP.o rfl (Does.move rfl) ?_
    refine EP.o rfl (Does.nilCheck rfl) ?_
    refine EP.o rfl (Does.fieldAddr fl214_0 rfl) ?_
    refine EP.o rfl (Does.loadB o3 rfl (Keeps.now _) (by assumption) (by rfl)) ?_
    refine EP.o rfl (Does.cmp rfl rfl rfl) ?_
    refine EP.nil ?_
    refine EW.condT (rfl) ?_
    refine EW.seq ?_
    refine EW.reg ?_
    refine EP.o rfl (Does.move rfl) ?_
    refine EP.o rfl (Does.nilCheck rfl) ?_
    refine EP.o rfl (Does.fieldAddr fl214_1 rfl) ?_
    refine EP.o rfl (Does.loadA ag70 rfl (Keeps.now _) (by assumption) (by rfl) rfl) ?_
    refine EP.new2 rfl (News.buildL sl23 Tryz.underlying23 zr70 rfl rfl rfl (by rfl)) ?_
    intro b1 w1 hb1 hs1 hx1 hB1
    have hz1 := hx1.size
    replace hC := hC.step0 hx1
    replace hB0 := hB0.chg0 hx1
    refine EP.o rfl (Does.assign rfl) ?_
    refine EP.nil ?_
    refine EW.ret ?_
    refine Fin.one rfl rfl ?_
    exact ⟨hC, _, _, rfl, Blk.own (cs := setsCells [s]) (by assumption) rfl (by omega) (by simp)⟩
theorem all_one (l : List Nat) : (setsCells l).all Value.oneCell' = true := by
  induction l with
  | nil => rfl
  | cons s l ih => simp only [setsCells, List.flatMap_cons, List.all_append, Bool.and_eq_true] at *; exact ⟨rfl, ih⟩
theorem sets_step_c (k : Int) (hk : k ≠ 1) (la lb : List Nat) (hla : la.length ≤ 1000000) (hlb : lb.length ≤ 1000000) (p : Nat) (lz : Bool) (va vb : Value) (w : World) (hB0 : Blk w p (corC k 0 lz va vb) 214)
    (ha : ∀ w', Chg [] w w' → Calls P 96 #[va] w' (Ret (SetsR la w'))) (hb : ∀ w', Chg [] w w' → Calls P 96 #[vb] w' (Ret (SetsR lb w'))) : Calls P 96 #[.pointer (some ⟨p, 0, none⟩)] w (Ret (SetsR (la ++ lb) w)) := by
  have hC := Chg.refl [] w
  try have hlB0 := hB0.lt
  refine enter Tryz.func96 rfl rfl ?_
  refine EW.seq ?_
  refine EW.reg ?_
  refine EP.o rfl (Does.assign rfl) ?_
  refine EP.nil ?_
  refine EW.seq ?_
  refine EW.seq ?_
  refine EW.reg ?_
  refine EP.o rfl (Does.move rfl) ?_
  refine EP.o rfl (Does.eqPtr Tryz.underlying67 rfl rfl) ?_
  refine EP.nil ?_
  refine EW.cond rfl (fun h0 => ?_) (fun h0 => ?_)
  · try simp at h0
    all_goals cases h0
  · try simp at h0
    refine EW.skip ?_
    refine EW.seq ?_
    refine EW.seq ?_
    refine EW.reg ?_
    refine EP.o rfl (Does.move rfl) ?_
    refine EP.o rfl (Does.nilCheck rfl) ?_
    refine EP.o rfl (Does.fieldAddr fl214_0 rfl) ?_
    refine EP.o rfl (Does.loadB o3 rfl (Keeps.now _) (by assumption) (by rfl)) ?_
    refine EP.o rfl (Does.cmp rfl rfl rfl) ?_
    refine EP.nil ?_
    refine EW.cond rfl (fun h1 => ?_) (fun h1 => ?_)
    · try simp at h1
      exact absurd h1 hk
    · try simp at h1
      refine EW.skip ?_
      refine EW.seq ?_
      refine EW.drw' (S := []) 9 [(0, 0), (0, 1), (0, 2), (0, 3), (0, 5), (0, 6), (0, 7), (0, 8), (1, 4), (2, 9), (2, 10), (2, 11)] mo (by kernel_rfl) ?_
      intro w1 hx1 hh1
      have hz1 := hx1.size
      replace hC := hC.step0 hx1
      replace hB0 := hB0.chg0 hx1
      have hCS1 := Chg.refl ([]) w1
      refine EP.f rfl (Does.move rfl) ?_
      refine EP.f rfl (Does.nilCheck rfl) ?_
      refine EP.f rfl (Does.fieldAddr fl214_3 rfl) ?_
      refine EP.f rfl (Does.loadBc o67 rfl (by assumption) (by simp; done) (by rfl)) ?_
      refine EP.f rfl (Does.move rfl) ?_
      refine EP.f rfl (Does.nilCheck rfl) ?_
      refine EP.f rfl (Does.fieldAddr fl214_4 rfl) ?_
      refine EP.f rfl (Does.loadBc o67 rfl (by assumption) (by simp; done) (by rfl)) ?_
      refine EP.call1 rfl (Enters.fn fb96 rfl) (ha _ hC) ?_
      rintro _ w2 ⟨hx2, A1, c1, rfl, hO'⟩
      have hz2 := hx2.size
      replace hC := hC.step0 hx2
      replace hB0 := hB0.chg0 hx2
      replace hCS1 := hCS1.step0 hx2
      have hO := hO'; clear hO'
      refine ⟨hCS1, ?_⟩
      refine EP.call2 rfl (Enters.fn fb96 rfl) (hb _ hC) ?_
      rintro _ w3 ⟨hx3, A2, c2, rfl, hQ'⟩
      have hz3 := hx3.size
      replace hC := hC.step0 hx3
      replace hB0 := hB0.chg0 hx3
      replace hO := hO.chg0 hx3
      have hQ := hQ'; clear hQ'
      have hOb := hO.blk
      refine EP.append2 rfl el23 rfl rfl hO (hQ.rd (F := fun _ => True) (fun _ _ _ => trivial)) (by exact all_one _) (by omega) (by omega) ?_
      intro A' c' w4 hO4 hx4 hA'
      have hz4 := hx4.size
      replace hC := hC.step hx4 (by intro x h; have := hOb x h; exact .inr (by omega))
      replace hB0 := hB0.chg hx4 (by intro h; have := hOb _ h; omega)
      clear hO; have hO := hO4; clear hO4
      refine EP.o rfl (Does.assign rfl) ?_
      refine EP.nil ?_
      refine EW.ret ?_
      refine Fin.one rfl rfl ?_
      refine ⟨hC, A', c', ?_, ?_⟩
      rw [List.length_append]
      rw [setsCells_append, List.length_append]
      exact hO.lower (by omega)
theorem sets_c : ∀ (t : Cor) (v : Value) (F : Nat → Prop) (w : World), IsCor F w t v → (setsC t).length ≤ 1000000 → Calls P 96 #[v] w (Ret (SetsR (setsC t) w))
  | .empty, v, F, w, h, hl => by
    obtain ⟨p, rfl, _, hB⟩ := h
    exact sets_step_c 0 (by decide) [] [] (by simp) (by simp) p _ _ _ w hB (fun w' _ => sets_nil_c w') (fun w' _ => sets_nil_c w')
  | .set s, v, F, w, h, hl => by
    obtain ⟨p, rfl, _, hB⟩ := h
    exact sets_set_c s p _ _ _ w hB
  | .cat a b, v, F, w, h, hl => by
    obtain ⟨p, va, vb, rfl, _, hB, h1, h2⟩ := h
    simp only [setsC, List.length_append] at hl
    exact sets_step_c 2 (by decide) _ _ (by omega) (by omega) p _ _ _ w hB (fun w' hw => sets_c a va F w' (h1.chg0 hw) (by omega)) (fun w' hw => sets_c b vb F w' (h2.chg0 hw) (by omega))
  | .alt a b, v, F, w, h, hl => by
    obtain ⟨p, va, vb, rfl, _, hB, h1, h2⟩ := h
    simp only [setsC, List.length_append] at hl
    exact sets_step_c 3 (by decide) _ _ (by omega) (by omega) p _ _ _ w hB (fun w' hw => sets_c a va F w' (h1.chg0 hw) (by omega)) (fun w' hw => sets_c b vb F w' (h2.chg0 hw) (by omega))
  | .star lz a, v, F, w, h, hl => by
    obtain ⟨p, va, rfl, _, hB, h1⟩ := h
    simp only [setsC] at hl
    have := sets_step_c 4 (by decide) (setsC a) [] (by omega) (by simp) p _ _ _ w hB (fun w' hw => sets_c a va F w' (h1.chg0 hw) (by omega)) (fun w' _ => sets_nil_c w')
    rwa [List.append_nil] at this
def coreP (L : List Nat) (mode : Int) : Cor × Int × Int :=
  if mode < 0 ∨ 4 ≤ mode then (.empty, 0, 1)
  else if (parseP L).2.2 ≠ 0 then (.empty, (parseP L).2.1, (parseP L).2.2)
  else (wrapC (buildC (parseP L).1) mode, 0, buildE (parseP L).1 mode)
theorem coreparse_c (s : ByteArray) (mode : Int) (w : World) (hL : Laid w) (hok : (parseP (strL s)).2.2 = 0 → SynOk (parseP (strL s)).1 ∧ deepQ (parseP (strL s)).1 ≤ 100000000) :
    Calls P 61 #[.string s, .int .i64 mode] w (Ret fun u w' => Chg [] w w' ∧ ∃ ad, u = .tuple #[.pointer ad, .int .i64 (coreP (strL s) mode).2.1, .int .i64 (coreP (strL s) mode).2.2] ∧ ((coreP (strL s) mode).2.2 = 0 → IsCor (FR w.heap.size w'.heap.size []) w' (coreP (strL s) mode).1 (.pointer ad)) ∧ ((coreP (strL s) mode).2.2 ≠ 0 → ad = none)) := by
  have hC := Chg.refl [] w
  try have hz4 := hL.sz
  refine enter Tryz.func61 rfl rfl ?_
  unfold coreP
  refine EW.seq ?_
  refine EW.reg ?_
  refine EP.o rfl (Does.assign rfl) ?_
  refine EP.o rfl (Does.assign rfl) ?_
  refine EP.o rfl (Does.assign rfl) ?_
  refine EP.nil ?_
  refine EW.seq ?_
  refine EW.seq ?_
  refine EW.reg ?_
  refine EP.o rfl (Does.move rfl) ?_
  refine EP.o rfl (Does.cmp rfl rfl rfl) ?_
  refine EP.o rfl (Does.move rfl) ?_
  refine EP.bsplit (d := 13) rfl (fun h1 => ?_) (fun h1 => ?_)
  · try simp at h1
    refine EP.skp rfl rfl rfl rfl rfl (fun h => by cases h) ?_
    refine EP.skp rfl rfl rfl rfl rfl (fun h => by cases h) ?_
    refine EP.o rfl (Does.pickT rfl rfl) ?_
    refine EP.nil ?_
    refine EW.condT rfl ?_
    refine EW.seq ?_
    refine EW.reg ?_
    refine EP.o rfl (Does.assign rfl) ?_
    refine EP.o rfl (Does.assign rfl) ?_
    refine EP.o rfl (Does.assign rfl) ?_
    refine EP.nil ?_
    refine EW.ret ?_
    refine Fin.three rfl rfl rfl rfl ?_
    rw [if_pos (Or.inl h1)]
    exact ⟨hC, none, rfl, fun h => absurd h (by decide), fun _ => rfl⟩
  · try simp at h1
    refine EP.ung rfl rfl rfl ?_
    refine EP.o rfl (Does.move rfl) ?_
    refine EP.ung rfl rfl rfl ?_
    refine EP.o rfl (Does.cmp rfl rfl rfl) ?_
    refine EP.o rfl (Does.pickF rfl rfl) ?_
    refine EP.nil ?_
    refine EW.cond rfl (fun h2 => ?_) (fun h2 => ?_)
    · try simp at h2
      refine EW.seq ?_
      refine EW.reg ?_
      refine EP.o rfl (Does.assign rfl) ?_
      refine EP.o rfl (Does.assign rfl) ?_
      refine EP.o rfl (Does.assign rfl) ?_
      refine EP.nil ?_
      refine EW.ret ?_
      refine Fin.three rfl rfl rfl rfl ?_
      rw [if_pos (Or.inr h2)]
      exact ⟨hC, none, rfl, fun h => absurd h (by decide), fun _ => rfl⟩
    · try simp at h2
      rw [if_neg (by omega)]
      refine EW.skip ?_
      refine EW.seq ?_
      refine EW.reg ?_
      refine EP.o rfl (Does.move rfl) ?_
      refine EP.call2 rfl (Enters.fn fb94 rfl) (parse_c s _ hL) ?_
      rintro _ w1 ⟨hx1, ad, rfl, hT'⟩
      have hz1 := hx1.size
      replace hC := hC.step0 hx1
      replace hL := hL.chg0 hx1
      refine EP.o rfl (Does.move rfl) ?_
      refine EP.o rfl (Does.extract rfl rfl) ?_
      refine EP.o rfl (Does.extract rfl rfl) ?_
      refine EP.o rfl (Does.extract rfl rfl) ?_
      refine EP.o rfl (Does.assign rfl) ?_
      refine EP.o rfl (Does.assign rfl) ?_
      refine EP.o rfl (Does.assign rfl) ?_
      refine EP.nil ?_
      refine EW.seq ?_
      refine EW.seq ?_
      refine EW.reg ?_
      refine EP.o rfl (Does.move rfl) ?_
      refine EP.o rfl (Does.cmp rfl rfl rfl) ?_
      refine EP.nil ?_
      refine EW.cond rfl (fun h3 => ?_) (fun h3 => ?_)
      · try simp at h3
        refine EW.seq ?_
        refine EW.reg ?_
        refine EP.o rfl (Does.move rfl) ?_
        refine EP.o rfl (Does.move rfl) ?_
        refine EP.o rfl (Does.assign rfl) ?_
        refine EP.o rfl (Does.assign rfl) ?_
        refine EP.o rfl (Does.assign rfl) ?_
        refine EP.nil ?_
        refine EW.ret ?_
        refine Fin.three rfl rfl rfl rfl ?_
        rw [if_pos h3]
        exact ⟨hC, none, rfl, fun h => absurd h h3, fun _ => rfl⟩
      · try simp at h3
        rw [if_neg (by simpa using h3)]
        obtain ⟨hok1, hok2⟩ := hok h3
        refine EW.skip ?_
        refine EW.seq ?_
        refine EW.reg ?_
        refine EP.o rfl (Does.move rfl) ?_
        refine EP.o rfl (Does.move rfl) ?_
        refine EP.call2 rfl (Enters.fn fb95 rfl) (buildm_c (parseP (strL s)).1 mode hok1 hok2 _ _ _ (fun y hy => hy.2.1) (hT' h3)) ?_
        rintro _ w2 ⟨hx2, ad2, rfl, hV, hN⟩
        have hz2 := hx2.size
        replace hC := hC.step0 hx2
        replace hL := hL.chg0 hx2
        refine EP.o rfl (Does.move rfl) ?_
        refine EP.o rfl (Does.extract rfl rfl) ?_
        refine EP.o rfl (Does.extract rfl rfl) ?_
        refine EP.o rfl (Does.assign rfl) ?_
        refine EP.o rfl (Does.assign rfl) ?_
        refine EP.nil ?_
        refine EW.seq ?_
        refine EW.reg ?_
        refine EP.o rfl (Does.move rfl) ?_
        refine EP.o rfl (Does.move rfl) ?_
        refine EP.o rfl (Does.assign rfl) ?_
        refine EP.o rfl (Does.assign rfl) ?_
        refine EP.o rfl (Does.assign rfl) ?_
        refine EP.nil ?_
        refine EW.ret ?_
        refine Fin.three rfl rfl rfl rfl ?_
        exact ⟨hC, ad2, rfl, fun h => (hV h).mono (fun y hy hl => ⟨by have := hy.1; omega, hl, by simp⟩), hN⟩
end Go.Clt
end
section
set_option linter.unusedVariables false
set_option linter.unusedSimpArgs false
set_option maxRecDepth 4000
namespace Go.Clt
open Go Go.RowKit Go.Proofs Go.ChangeMaps
section
variable {α : Type} [DecidableEq α]
def asc : List (α × Int) → Nat → α → Option (Nat × Int)
  | [], _, _ => none
  | p :: r, i, a => if a = p.1 then some (i, p.2) else asc r (i + 1) a
def mget (L : List (α × Int)) (a : α) : Option Int := (asc L 0 a).map (·.2)
def mput : List (α × Int) → α → Int → List (α × Int)
  | [], a, v => [(a, v)]
  | p :: r, a, v => if a = p.1 then (p.1, v) :: r else p :: mput r a v
def kvs (enc : α → Value) (L : List (α × Int)) : List (Value × Value) := L.map fun p => (enc p.1, .int .i64 p.2)
structure KL (P : Program) (k : TypeId) (enc : α → Value) : Prop where
  check : ∀ e a w, (Instr.checkKey e 10000 k (enc a)).run P w = .ok () w
  find : ∀ a (L : List (α × Int)) (es : List MapEntry) w, es.map (fun x => (x.key, x.val)) = kvs enc L → (Instr.findKey k (enc a) es).run P w = .ok ((asc L 0 a).map fun q => (q.1, .int .i64 q.2)) w
  same : ∀ a, Instr.sameBits 10000 (enc a) (enc a) = true
def Mp (enc : α → Value) (w : World) (b : Nat) (L : List (α × Int)) : Prop :=
  ∃ es clock, w.heap[b]? = some (.map es clock) ∧ (es.toList.map (·.born)).Nodup ∧ (∀ x ∈ es.toList, x.born < clock) ∧ es.toList.map (fun x => (x.key, x.val)) = kvs enc L
variable {enc : α → Value}
theorem Mp.lt {α : Type} {enc : α → Value} {w : World} {b : Nat} {L : List (α × Int)} (h : Mp enc w b L) : b < w.heap.size := by
  obtain ⟨es, clock, h, _⟩ := h
  exact (Array.getElem?_eq_some_iff.1 h).1
theorem Mp.chg {α : Type} {enc : α → Value} {S : List Nat} {w w' : World} {b : Nat} {L : List (α × Int)} (h : Mp enc w b L) (k : Chg S w w') (hb : b ∉ S) : Mp enc w' b L := by
  have hl := h.lt
  obtain ⟨es, clock, h, r⟩ := h
  exact ⟨es, clock, (k.same b hl hb).trans h, r⟩
theorem Mp.chg0 {α : Type} {enc : α → Value} {w w' : World} {b : Nat} {L : List (α × Int)} (h : Mp enc w b L) (k : Chg [] w w') : Mp enc w' b L := h.chg k (by simp)
theorem Mp.neBlk {α : Type} {enc : α → Value} {w : World} {b b' : Nat} {L : List (α × Int)} {cs : List Value} {τ : TypeId} (h : Mp enc w b L) (h' : Blk w b' cs τ) : b ≠ b' := by
  rintro rfl
  obtain ⟨es, clock, h, _⟩ := h
  rw [show w.heap[b]? = _ from h'] at h
  cases h
theorem asc_shift (L : List (α × Int)) : ∀ (i j : Nat) (a : α), asc L (i + j) a = (asc L i a).map fun q => (q.1 + j, q.2) := by
  induction L with
  | nil => intros; rfl
  | cons p r ih =>
    intro i j a
    simp only [asc]
    split
    · rfl
    · rw [show i + j + 1 = (i + 1) + j from by omega, ih]
theorem mput_mem {L : List (α × Int)} {a : α} {v : Int} {x : α × Int} (h : x ∈ mput L a v) : x = (a, v) ∨ x ∈ L := by
  induction L with
  | nil => simp [mput] at h; exact .inl h
  | cons p r ih =>
    simp only [mput] at h
    split at h
    · rename_i he
      rcases List.mem_cons.1 h with h | h
      · left; rw [h, he]
      · right; exact List.mem_cons_of_mem _ h
    · rcases List.mem_cons.1 h with h | h
      · right; rw [h]; exact List.mem_cons_self ..
      · rcases ih h with h | h
        · exact .inl h
        · exact .inr (List.mem_cons_of_mem _ h)
theorem mget_cons (p : α × Int) (r : List (α × Int)) (a : α) : mget (p :: r) a = if a = p.1 then some p.2 else mget r a := by
  unfold mget
  simp only [asc]
  split
  · rfl
  · rw [show (0 + 1) = 0 + 1 from rfl, asc_shift r 0 1 a]
    cases asc r 0 a <;> rfl
theorem mget_nil (a : α) : mget ([] : List (α × Int)) a = none := rfl
theorem mput_cons (p : α × Int) (r : List (α × Int)) (a : α) (v : Int) : mput (p :: r) a v = if a = p.1 then (p.1, v) :: r else p :: mput r a v := rfl
theorem mget_mput (L : List (α × Int)) (a : α) (v : Int) (c : α) : mget (mput L a v) c = if c = a then some v else mget L c := by
  induction L with
  | nil => simp only [mput, mget_cons, mget_nil]
  | cons p r ih =>
    rw [mput_cons]
    by_cases h : a = p.1
    · rw [if_pos h]
      simp only [mget_cons]
      subst h
      by_cases hc : c = p.1
      · rw [if_pos hc, if_pos hc]
      · rw [if_neg hc, if_neg hc, if_neg hc]
    · rw [if_neg h]
      simp only [mget_cons, ih]
      by_cases hc : c = p.1
      · rw [if_pos hc, if_pos hc, if_neg (by rintro rfl; exact h hc)]
      · rw [if_neg hc, if_neg hc]
theorem mput_len (L : List (α × Int)) (a : α) (v : Int) : (mput L a v).length = if mget L a = none then L.length + 1 else L.length := by
  induction L with
  | nil => rfl
  | cons p r ih =>
    rw [mput_cons, mget_cons]
    split
    · simp
    · simp only [List.length_cons, ih]
      split <;> rfl
theorem mem_of_mget {L : List (α × Int)} {a : α} {v : Int} (h : mget L a = some v) : (a, v) ∈ L := by
  induction L with
  | nil => cases h
  | cons p r ih =>
    rw [mget_cons] at h
    split at h
    · rename_i he
      cases h
      subst he
      exact List.mem_cons_self ..
    · exact List.mem_cons_of_mem _ (ih h)
theorem mget_none {L : List (α × Int)} {a : α} (h : mget L a = none) : ∀ x ∈ L, x.1 ≠ a := by
  induction L with
  | nil => intro x hx; cases hx
  | cons p r ih =>
    rw [mget_cons] at h
    split at h
    · cases h
    · rename_i he
      intro x hx
      rcases List.mem_cons.1 hx with rfl | hx
      · exact fun e => he e.symm
      · exact ih h x hx
theorem mget_of_mem {L : List (α × Int)} (hn : (L.map (·.1)).Nodup) {a : α} {v : Int} (h : (a, v) ∈ L) : mget L a = some v := by
  induction L with
  | nil => cases h
  | cons p r ih =>
    rw [mget_cons]
    simp only [List.map_cons, List.nodup_cons] at hn
    rcases List.mem_cons.1 h with h | h
    · rw [if_pos (by rw [← h]), ← h]
    · rw [if_neg, ih hn.2 h]
      intro e
      exact hn.1 (by rw [← e]; exact List.mem_map.2 ⟨_, h, rfl⟩)
theorem mput_nodup {L : List (α × Int)} (hn : (L.map (·.1)).Nodup) (a : α) (v : Int) : ((mput L a v).map (·.1)).Nodup := by
  induction L with
  | nil => simp [mput]
  | cons p r ih =>
    rw [mput_cons]
    simp only [List.map_cons, List.nodup_cons] at hn
    split
    · simp only [List.map_cons, List.nodup_cons]; exact hn
    · rename_i he
      simp only [List.map_cons, List.nodup_cons]
      refine ⟨fun hm => ?_, ih hn.2⟩
      obtain ⟨x, hx, hxe⟩ := List.mem_map.1 hm
      rcases mput_mem hx with rfl | hx
      · exact he hxe
      · exact hn.1 (List.mem_map.2 ⟨x, hx, hxe⟩)
theorem mpB_spec {P : Program} {t k e : TypeId} (h : mpB P t k e = true) : P.underlying t = some (.map k e) := by
  unfold mpB at h
  cases hu : P.underlying t with
  | none => rw [hu] at h; cases h
  | some d => rw [hu] at h; cases d <;> first | (cases h; done) | (simp only [Bool.and_eq_true, beq_iff_eq] at h; obtain ⟨rfl, rfl⟩ := h; rfl)
section
variable {P : Program} {n : Nat} {ops : Array Oper} {S : World → Prop} {N : Env → World → Prop} {B : Nat → Env → World → Prop} {R : Env → World → Prop} {e : Env} {w : World}
variable {rest : List (Nat × Oper)} {d : Nat} {op : Op} {t : TypeId} {p : String} {af : Array Edge} {dst : Option Tmp} {g : Option (Nat × Bool)} {φ : World → Prop}
theorem run_look {τ k el : TypeId} {b : Nat} {L : List (α × Int)} (K : KL P k enc) (ht : mpB P τ k el = true) (hz : zeroB P el = some (.int .i64 0)) (hm : Mp enc w b L) (a : α) (ok : Bool) :
    (Instr.lookup τ (.map (some b)) (enc a) ok).run P w = .ok (if ok then .tuple #[.int .i64 ((mget L a).getD 0), .bool (mget L a).isSome] else .int .i64 ((mget L a).getD 0)) w := by
  obtain ⟨es, clock, hb, hn, hc, hL⟩ := hm
  unfold zeroB at hz
  obtain ⟨i, hi, hz⟩ := Option.bind_eq_some_iff.1 hz
  simp only [Instr.lookup, Sem.run_bind, run_underlying (mpB_spec ht), Result.andThen_ok, MapKept.run_getObj_map hb, Sem.run_pure, K.check, K.find a L es.toList w hL]
  unfold mget
  cases asc L 0 a with
  | none => simp [zeroValue, typeInfo, hi, hz]
  | some q => simp
theorem Does.look {τ k el : TypeId} {x y : Operand} {b : Nat} {L : List (α × Int)} {a : α} {w0 : World} (K : KL P k enc) (ht : mpB P τ k el = true) (hz : zeroB P el = some (.int .i64 0)) (hx : ev e x = some (.map (some b))) (hy : ev e y = some (enc a)) (hm : Mp enc w0 b L) (hk : Keeps φ b w0) :
    Does P n e ⟨dst, .lookup τ x y false, t, p, af, g⟩ φ (.int .i64 ((mget L a).getD 0)) := fun ac w ha hw => by
  have hm' : Mp enc w b L := by obtain ⟨es, clock, hb, r⟩ := hm; exact ⟨es, clock, (hk w hw).trans hb, r⟩
  simp [execOp, ha.ev hx, ha.ev hy, run_look K ht hz hm' a false]
theorem Does.lookOk {τ k el : TypeId} {x y : Operand} {b : Nat} {L : List (α × Int)} {a : α} {w0 : World} (K : KL P k enc) (ht : mpB P τ k el = true) (hz : zeroB P el = some (.int .i64 0)) (hx : ev e x = some (.map (some b))) (hy : ev e y = some (enc a)) (hm : Mp enc w0 b L) (hk : Keeps φ b w0) :
    Does P n e ⟨dst, .lookup τ x y true, t, p, af, g⟩ φ (.tuple #[.int .i64 ((mget L a).getD 0), .bool (mget L a).isSome]) := fun ac w ha hw => by
  have hm' : Mp enc w b L := by obtain ⟨es, clock, hb, r⟩ := hm; exact ⟨es, clock, (hk w hw).trans hb, r⟩
  simp [execOp, ha.ev hx, ha.ev hy, run_look K ht hz hm' a true]
theorem Does.mlen {α : Type} {enc : α → Value} {τ k el : TypeId} {x : Operand} {b : Nat} {L : List (α × Int)} {w0 : World} (ht : mpB P τ k el = true) (hx : ev e x = some (.map (some b))) (hm : Mp enc w0 b L) (hk : Keeps φ b w0) :
    Does P n e ⟨dst, .call { callee := .builtin .len, args := #[x], argTypes := #[τ] }, t, p, af, g⟩ φ (.int .i64 L.length) := fun ac w ha hw => by
  obtain ⟨es, clock, hb, hn, hc, hL⟩ := hm
  have hb' := (hk w hw).trans hb
  have : es.toList.length = L.length := by have := congrArg List.length hL; simpa [kvs] using this
  simp at this
  simp [execOp, resolve, invoke, builtin, ha.ev hx, Builtin.len_, run_underlying (mpB_spec ht), MapKept.run_getObj_map hb', goInt, this]
theorem heap_set {w : World} {b : Nat} {o o' : Obj} (h : w.heap[b]? = some o) : (setBlock w b o').heap[b]? = some o' := by
  have hl := (Array.getElem?_eq_some_iff.1 h).1
  simp [setBlock, hl]
theorem chg_set {w : World} {b : Nat} {o' : Obj} : Chg [b] w (setBlock w b o') := ⟨rfl, rfl, rfl, by simp [setBlock], fun k _ hk => by
  have : ¬ b = k := fun h => hk (by simp [h])
  simp [setBlock, Array.getElem?_setIfInBounds_ne this]⟩
theorem modify_list (es : Array MapEntry) (i : Nat) (f : MapEntry → MapEntry) : (es.modify i f).toList = es.toList.modify i f := by simp
theorem asc_some {L : List (α × Int)} : ∀ {i : Nat} {a : α} {q : Nat × Int}, asc L i a = some q → i ≤ q.1 ∧ ∃ v, L[q.1 - i]? = some (a, v) ∧ ∀ u, mput L a u = L.set (q.1 - i) (a, u) := by
  induction L with
  | nil => intro i a q h; cases h
  | cons x r ih =>
    intro i a q h
    simp only [asc] at h
    split at h
    · rename_i he
      cases h
      refine ⟨Nat.le_refl _, x.2, by simp [he], fun u => ?_⟩
      rw [mput_cons, if_pos he, he]
      simp
    · rename_i he
      obtain ⟨h1, v, h2, h3⟩ := ih h
      refine ⟨by omega, v, ?_, fun u => ?_⟩
      · rw [show q.1 - i = (q.1 - (i + 1)) + 1 from by omega, List.getElem?_cons_succ]; exact h2
      · rw [mput_cons, if_neg he, h3, show q.1 - i = (q.1 - (i + 1)) + 1 from by omega, List.set_cons_succ]
theorem asc_none {L : List (α × Int)} : ∀ {i : Nat} {a : α}, asc L i a = none → ∀ u, mput L a u = L ++ [(a, u)] := by
  induction L with
  | nil => intro i a h u; rfl
  | cons x r ih =>
    intro i a h u
    simp only [asc] at h
    split at h
    · cases h
    · rename_i he
      rw [mput_cons, if_neg he, ih h u]; rfl
theorem run_upd {τ k el : TypeId} {b : Nat} {L : List (α × Int)} (K : KL P k enc) (ht : mpB P τ k el = true) (hm : Mp enc w b L) (a : α) (v : Int) :
    ∃ w', (Instr.mapUpdate τ (.map (some b)) (enc a) (.int .i64 v)).run P w = .ok () w' ∧ Chg [b] w w' ∧ w'.heap.size = w.heap.size ∧ Mp enc w' b (mput L a v) := by
  obtain ⟨es, clock, hb, hn, hc, hL⟩ := hm
  cases hf : asc L 0 a with
  | none =>
    refine ⟨setBlock w b (.map (es.push { key := enc a, val := .int .i64 v, born := clock }) (clock + 1)), ?_, chg_set, by simp [setBlock], _, _, heap_set hb, ?_, ?_, ?_⟩
    · simp [Instr.mapUpdate, run_underlying (mpB_spec ht), MapKept.run_getObj_map hb, K.check, K.find a L es.toList w hL, hf, MapKept.run_setObj_map _ hb, setBlock]
    · simp only [Array.toList_push, List.map_append, List.map_cons, List.map_nil]
      rw [List.nodup_append]
      refine ⟨hn, by simp, fun x hx y hy => ?_⟩
      obtain ⟨z, hz, rfl⟩ := List.mem_map.1 hx
      have := hc z hz
      simp at hy
      omega
    · intro x hx
      simp only [Array.toList_push, List.mem_append, List.mem_singleton] at hx
      rcases hx with hx | rfl
      · have := hc x hx; omega
      · simp
    · rw [asc_none hf v]
      simp only [Array.toList_push, List.map_append, List.map_cons, List.map_nil, hL, kvs]
  | some q =>
    obtain ⟨h1, u, h2, h3⟩ := asc_some hf
    simp only [Nat.sub_zero] at h2 h3
    have hlen : es.toList.length = L.length := by have := congrArg List.length hL; simpa [kvs] using this
    have hq : q.1 < L.length := (List.getElem?_eq_some_iff.1 h2).1
    have hq' : q.1 < es.size := by simpa [← hlen] using hq
    have hkey : es[q.1].key = enc a := by
      have := congrArg (fun l => l[q.1]?) hL
      simp [kvs, h2, hq'] at this
      exact this.1
    have hk1 : ∀ w, (Instr.keyThatStays (enc a) (enc a)).run P w = .ok (enc a) w := fun w => by simp [Instr.keyThatStays, K.same]
    refine ⟨setBlock w b (.map (es.modify q.1 fun x => { x with key := enc a, val := .int .i64 v }) clock), ?_, chg_set, by simp [setBlock], _, _, heap_set hb, ?_, ?_, ?_⟩
    · simp [Instr.mapUpdate, run_underlying (mpB_spec ht), MapKept.run_getObj_map hb, K.check, K.find a L es.toList w hL, hf, MapKept.run_setObj_map _ hb, setBlock, hq', hkey, hk1]
    · rw [modify_list, show (es.toList.modify q.1 fun x => { x with key := enc a, val := .int .i64 v }).map (·.born) = es.toList.map (·.born) from ?_]
      · exact hn
      · apply List.ext_getElem?
        intro i
        simp only [List.getElem?_map, List.getElem?_modify]
        cases es.toList[i]? with
        | none => rfl
        | some x => simp; split <;> rfl
    · rw [modify_list]
      intro x hx
      obtain ⟨i, hi⟩ := List.mem_iff_getElem?.1 hx
      rw [List.getElem?_modify] at hi
      cases hx0 : es.toList[i]? with
      | none => rw [hx0] at hi; cases hi
      | some y =>
        rw [hx0] at hi
        have := hc y (List.mem_iff_getElem?.2 ⟨i, hx0⟩)
        simp at hi
        rw [← hi]
        split <;> exact this
    · rw [modify_list, h3 v]
      apply List.ext_getElem?
      intro i
      have hLi := congrArg (fun l => l[i]?) hL
      simp only [List.getElem?_map, kvs] at hLi
      simp only [List.getElem?_map, List.getElem?_modify, kvs, List.getElem?_set]
      by_cases hi : q.1 = i
      · subst hi
        rw [if_pos rfl, if_pos hq]
        rw [show es.toList[q.1]? = some es[q.1] from by simp [hq']]
        simp
      · rw [if_neg hi]
        rw [← hLi]
        cases es.toList[i]? with
        | none => rfl
        | some x => simp [hi]
theorem EP.upd2 {τ k el : TypeId} {x y z : Operand} {b : Nat} {L : List (α × Int)} {a : α} {v : Int} {q : Op} (ho : q = .mapUpdate τ x y z ∨ q = .insert τ x y z) (K : KL P k enc) (ht : mpB P τ k el = true) (hx : ev e x = some (.map (some b))) (hy : ev e y = some (enc a)) (hz : ev e z = some (.int .i64 v)) (hm : Mp enc w b L)
    (h : ∀ w', w'.heap.size = w.heap.size → Chg [b] w w' → Mp enc w' b (mput L a v) → EP P n ops S N B R rest e w') : EP P n ops S N B R ((2, ⟨none, q, t, p, af, none⟩) :: rest) e w := by
  obtain ⟨w', hr, h2, h3, h4⟩ := run_upd K ht hm a v
  refine EP.s2 (fun ac ha => ?_) (h w' h3 h2 h4)
  rcases ho with rfl | rfl <;> simp [execOp, ha.ev hx, ha.ev hy, ha.ev hz, hr]
theorem EP.mmap2 {α : Type} {τ : TypeId} (enc : α → Value) (hd : Nat.blt d n = true)
    (h : ∀ b w', b = w.heap.size → w'.heap.size = b + 1 → Chg [] w w' → Mp enc w' b [] → EP P n ops S N B R rest ((d, .map (some b)) :: e) w') : EP P n ops S N B R ((2, ⟨some d, .makeMap τ none, t, p, af, none⟩) :: rest) e w :=
  EP.x2 (w' := w.alloc (.map #[] 0)) hd (fun ac ha => by simp [execOp, Instr.makeMap]) (h _ _ rfl (by simp) (Chg.alloc [] w _) ⟨#[], 0, heap_alloc_new w _, by simp, by simp, rfl⟩)
end
def It (enc : α → Value) (w : World) (r m : Nat) (L R : List (α × Int)) : Prop :=
  ∃ es clock seen c0, w.heap[r]? = some (.mapIter (some m) clock seen c0) ∧ clock ≤ c0 ∧ w.heap[m]? = some (.map es clock) ∧ (es.toList.map (·.born)).Nodup ∧ (∀ x ∈ es.toList, x.born < clock) ∧
    es.toList.map (fun x => (x.key, x.val)) = kvs enc L ∧ (leftOf es seen).toList.map (fun x => (x.key, x.val)) = kvs enc R
def ItAt (enc : α → Value) (w : World) (r m : Nat) (x : α × Int) : Prop :=
  ∃ es clock seen en, w.heap[r]? = some (.mapIter (some m) clock (Array.push seen en.born) clock) ∧ w.heap[m]? = some (.map es clock) ∧ en ∈ es.toList ∧ (es.toList.map (·.born)).Nodup ∧ en.key = enc x.1 ∧ en.val = .int .i64 x.2
theorem It.mp {α : Type} {enc : α → Value} {w : World} {r m : Nat} {L R : List (α × Int)} (h : It enc w r m L R) : Mp enc w m L := by
  obtain ⟨es, clock, seen, c0, h1, h2, h3, h4, h5, h6, h7⟩ := h
  exact ⟨es, clock, h3, h4, h5, h6⟩
theorem It.chg {α : Type} {enc : α → Value} {S : List Nat} {w w' : World} {r m : Nat} {L R : List (α × Int)} (h : It enc w r m L R) (k : Chg S w w') (hS : r ∉ S ∧ m ∉ S) : It enc w' r m L R := by
  obtain ⟨es, clock, seen, c0, h1, h2, h3, h4⟩ := h
  exact ⟨es, clock, seen, c0, (k.same r (Array.getElem?_eq_some_iff.1 h1).1 hS.1).trans h1, h2, (k.same m (Array.getElem?_eq_some_iff.1 h3).1 hS.2).trans h3, h4⟩
theorem It.chg0 {α : Type} {enc : α → Value} {w w' : World} {r m : Nat} {L R : List (α × Int)} (h : It enc w r m L R) (k : Chg [] w w') : It enc w' r m L R := h.chg k (by simp)
theorem It.lt {α : Type} {enc : α → Value} {w : World} {r m : Nat} {L R : List (α × Int)} (h : It enc w r m L R) : r < w.heap.size ∧ m < w.heap.size ∧ r ≠ m := by
  obtain ⟨es, clock, seen, c0, h1, h2, h3, h4⟩ := h
  refine ⟨(Array.getElem?_eq_some_iff.1 h1).1, (Array.getElem?_eq_some_iff.1 h3).1, ?_⟩
  rintro rfl
  rw [h1] at h3
  cases h3
theorem filter_push {es : List MapEntry} (hn : (es.map (·.born)).Nodup) : ∀ {A B : List MapEntry} {x : MapEntry} , es = A ++ x :: B → es.filter (fun y => !(y.born == x.born)) = A ++ B := by
  intro A B x h
  subst h
  simp only [List.map_append, List.map_cons, List.nodup_append, List.nodup_cons] at hn
  rw [List.filter_append, List.filter_cons]
  simp only [beq_self_eq_true, Bool.not_true, Bool.false_eq_true, if_false]
  congr 1
  · rw [List.filter_eq_self]
    intro y hy
    have := hn.2.2 y.born (List.mem_map.2 ⟨y, hy, rfl⟩) x.born (List.mem_cons_self ..)
    simpa using this
  · rw [List.filter_eq_self]
    intro y hy
    have : y.born ≠ x.born := fun e => hn.2.1.1 (by rw [← e]; exact List.mem_map.2 ⟨y, hy, rfl⟩)
    simpa using this
theorem left_push (es : Array MapEntry) (seen : Array Nat) (b : Nat) : (leftOf es (seen.push b)).toList = (leftOf es seen).toList.filter (fun y => !(y.born == b)) := by
  unfold leftOf
  rw [Array.toList_filter, Array.toList_filter, List.filter_filter]
  congr 1
  funext y
  rw [contains_push]
  cases seen.contains y.born <;> cases y.born == b <;> rfl
section
variable {P : Program} {n : Nat} {ops : Array Oper} {S : World → Prop} {N : Env → World → Prop} {B : Nat → Env → World → Prop} {R : Env → World → Prop} {e : Env} {w : World}
variable {rest : List (Nat × Oper)} {d : Nat} {op : Op} {t : TypeId} {p : String} {af : Array Edge} {dst : Option Tmp} {g : Option (Nat × Bool)} {φ : World → Prop}
theorem EP.range2 {α : Type} {enc : α → Value} {τ k el : TypeId} {x : Operand} {m : Nat} {L : List (α × Int)} (hd : Nat.blt d n = true) (ht : mpB P τ k el = true) (hx : ev e x = some (.map (some m))) (hm : Mp enc w m L)
    (h : ∀ b w', b = w.heap.size → w'.heap.size = b + 1 → Chg [] w w' → It enc w' b m L L → EP P n ops S N B R rest ((d, .pointer (some ⟨b, 0, none⟩)) :: e) w') : EP P n ops S N B R ((2, ⟨some d, .range τ x, t, p, af, none⟩) :: rest) e w := by
  have hml := hm.lt
  obtain ⟨es, clock, hb, hn, hc, hL⟩ := hm
  refine EP.x2 (v := .pointer (some ⟨w.heap.size, 0, none⟩)) (w' := w.alloc (.mapIter (some m) clock #[] clock)) hd (fun ac ha => by simp [execOp, ha.ev hx, run_range_map w τ k el m es clock (mpB_spec ht) hb]) ?_
  refine h _ _ rfl (by simp) (Chg.alloc [] w _) ⟨es, clock, #[], clock, heap_alloc_new w _, Nat.le_refl _, (heap_alloc_old w _ hml).trans hb, hn, hc, hL, ?_⟩
  unfold leftOf
  rw [Array.toList_filter, List.filter_eq_self.2 (fun x _ => by simp)]
  exact hL
theorem EP.next2 {α : Type} {enc : α → Value} {it : Operand} {r m : Nat} {L M : List (α × Int)} (hd : Nat.blt d n = true) (hx : ev e it = some (.pointer (some ⟨r, 0, none⟩))) (hI : It enc w r m L M)
    (h0 : M = [] → EP P n ops S N B R rest ((d, .tuple #[.bool false]) :: e) w)
    (h1 : ∀ M1 x M2 w', M = M1 ++ x :: M2 → Chg [r] w w' → w'.heap.size = w.heap.size → It enc w' r m L (M1 ++ M2) → ItAt enc w' r m x → EP P n ops S N B R rest ((d, .tuple #[.bool true, enc x.1, .int .i64 x.2]) :: e) w') :
    EP P n ops S N B R ((2, ⟨some d, .next it false, t, p, af, none⟩) :: rest) e w := by
  have hne := hI.lt
  obtain ⟨es, clock, seen, c0, hr, hc0, hb, hn, hc, hL, hM⟩ := hI
  rcases run_next_at (P := P) w t r m clock c0 seen es clock hr hb hc hc0 with ⟨h2, h3⟩ | ⟨en, h2, w1, h3, h4⟩
  · have hM0 : M = [] := by
      have : (leftOf es seen).toList.length = M.length := by have := congrArg List.length hM; simpa [kvs] using this
      exact List.eq_nil_of_length_eq_zero (by rw [← this]; simpa using h2)
    exact EP.x2 hd (fun ac ha => by simp [execOp, ha.ev hx, h3]) (h0 hM0)
  · obtain ⟨A, B', hAB⟩ := List.append_of_mem h2
    have hM' := hM
    rw [hAB, List.map_append, List.map_cons] at hM'
    unfold kvs at hM'
    obtain ⟨M1, M', hMM, hA1, hA2⟩ := List.map_eq_append_iff.1 hM'.symm
    obtain ⟨x, M2, rfl, hx2, hB2⟩ := List.map_eq_cons_iff.1 hA2
    simp only [Prod.mk.injEq] at hx2
    have hes : en ∈ es.toList := (mem_left h2).1
    have hw1 : w1.heap = w.heap ∧ w1.os = w.os ∧ w1.tape = w.tape ∧ w1.output = w.output := by rcases h3 with rfl | rfl <;> exact ⟨rfl, rfl, rfl, rfl⟩
    have hr1 : w1.heap[r]? = some (.mapIter (some m) clock seen c0) := by rw [hw1.1]; exact hr
    have hb1 : w1.heap[m]? = some (.map es clock) := by rw [hw1.1]; exact hb
    have hcg : Chg [r] w (setBlock w1 r (.mapIter (some m) clock (seen.push en.born) clock)) := by
      have hk := chg_set (w := w1) (b := r) (o' := .mapIter (some m) clock (seen.push en.born) clock)
      exact ⟨hk.os.trans hw1.2.1, hk.tape.trans hw1.2.2.1, hk.output.trans hw1.2.2.2, by rw [← hw1.1]; exact hk.size, fun b hb hnb => by rw [hk.same b (by rw [hw1.1]; exact hb) hnb, hw1.1]⟩
    have hbm : (setBlock w1 r (.mapIter (some m) clock (seen.push en.born) clock)).heap[m]? = some (.map es clock) := by
      have : ¬ r = m := hne.2.2
      simp [setBlock, Array.getElem?_setIfInBounds_ne this, hb1]
    refine EP.x2 hd (v := .tuple #[.bool true, enc x.1, .int .i64 x.2]) (fun ac ha => by simp only [execOp, ha.ev hx, Sem.run_bind, h4, Result.andThen_ok, ← hx2.1, ← hx2.2]; rfl) ?_
    refine h1 M1 x M2 _ hMM hcg (by simp [setBlock, hw1.1]) ⟨es, clock, seen.push en.born, clock, heap_set hr1, Nat.le_refl _, hbm, hn, hc, hL, ?_⟩ ⟨es, clock, seen, en, heap_set hr1, hbm, hes, hn, hx2.1.symm, hx2.2.symm⟩
    have hnl : ((leftOf es seen).toList.map (·.born)).Nodup := by
      unfold leftOf
      rw [Array.toList_filter]
      exact hn.sublist ((List.filter_sublist).map _)
    rw [left_push, filter_push hnl hAB, List.map_append]
    unfold kvs
    rw [List.map_append, ← hA1, ← hB2]
theorem Does.entry {α : Type} {enc : α → Value} {it : Operand} {r m : Nat} {x : α × Int} (hx : ev e it = some (.pointer (some ⟨r, 0, none⟩))) (hI : ItAt enc w r m x) : Does P n e ⟨dst, .entry it, t, p, af, g⟩ (fun w' => w' = w) (.tuple #[enc x.1, .int .i64 x.2]) := fun ac w' ha hw => by
  subst hw
  obtain ⟨es, clock, seen, en, hr, hb, hes, hn, h1, h2⟩ := hI
  have := run_entry_at (P := P) w' r m clock seen es clock en hr hb hes hn
  simp [execOp, ha.ev hx, this, h1, h2]
end
end
def ik (a : Int) : Value := .int .i64 a
theorem ik_law {P : Program} {k : TypeId} (hk : P.underlying k = some (.int .i64)) : KL P k ik where
  check := fun e a w => by
    unfold Instr.checkKey ik
    simp [run_underlying hk]
  find := fun a L es w h => by
    have key : ∀ (L : List (Int × Int)) (es : List MapEntry) (i : Nat), es.map (fun x => (x.key, x.val)) = kvs ik L → Instr.findNow (.int .i64) (ik a) es i = some ((asc L i a).map fun q => (q.1, .int .i64 q.2)) := by
      intro L
      induction L with
      | nil => intro es i h; simp [kvs] at h; subst h; rfl
      | cons p r ih =>
        intro es i h
        cases es with
        | nil => simp [kvs] at h
        | cons x es =>
          simp only [List.map_cons, kvs, List.cons.injEq, Prod.mk.injEq] at h
          obtain ⟨⟨h1, h2⟩, h3⟩ := h
          simp only [Instr.findNow, h1, h2, asc]
          by_cases hc : a = p.1
          · rw [if_pos hc]; simp [ik, Instr.sameNow, hc]
          · rw [if_neg hc]
            have : (a == p.1) = false := by simpa using hc
            simp only [ik, Instr.sameNow, if_true, this]
            exact ih es (i + 1) h3
    simp [Instr.findKey, run_underlying hk, key L es 0 h]
  same := fun a => by unfold Instr.sameBits ik; simp
end Go.Clt
end
section
set_option linter.unusedVariables false
set_option linter.unusedSimpArgs false
set_option maxRecDepth 4000
namespace Go.Clt
open Go Go.RowKit Go.Proofs
abbrev BagF := Nat → Int
def addF (f g : BagF) (by_ : Int) : BagF := fun i => sadd (f i) (smul (g i) by_)
def one1 (p : Nat) : BagF := fun i => if i = p then 1 else 0
def zeroF : BagF := fun _ => 0
structure Kn where
  void : Int
  first : BagF
  last : BagF
structure Wst where
  S : List Nat
  G : List BagF
def linkF (G : List BagF) (f g : BagF) : List BagF := G.mapIdx fun i h => addF h g (f i)
def placeF (q : Wst) (s : Nat) : Kn × Wst := (⟨0, one1 q.S.length, one1 q.S.length⟩, ⟨q.S ++ [s], q.G ++ [zeroF]⟩)
def walkF : Cor → Wst → Kn × Wst
  | .empty, q => (⟨1, zeroF, zeroF⟩, q)
  | .set s, q => placeF q s
  | .cat a b, q =>
    let x := walkF a q
    let y := walkF b x.2
    (⟨smul x.1.void y.1.void, addF x.1.first y.1.first x.1.void, addF y.1.last x.1.last y.1.void⟩, ⟨y.2.S, linkF y.2.G x.1.last y.1.first⟩)
  | .alt a b, q =>
    let x := walkF a q
    let y := walkF b x.2
    (⟨sadd x.1.void y.1.void, addF x.1.first y.1.first 1, addF x.1.last y.1.last 1⟩, y.2)
  | .star _ a, q =>
    let x := walkF a q
    (⟨1, x.1.first, x.1.last⟩, ⟨x.2.S, linkF x.2.G x.1.last x.1.first⟩)
def BagL (L : List (Int × Int)) (f : BagF) (n : Nat) : Prop := (L.map (·.1)).Nodup ∧ (∀ x ∈ L, 0 ≤ x.1 ∧ x.1 < n ∧ 0 ≤ x.2 ∧ x.2 ≤ 9223372036854775807) ∧ ∀ i : Nat, f i = (mget L (i : Int)).getD 0
def Bag (w : World) (b : Nat) (f : BagF) (n : Nat) : Prop := ∃ L, Mp ik w b L ∧ BagL L f n
theorem Bag.chg {S : List Nat} {w w' : World} {b n : Nat} {f : BagF} (h : Bag w b f n) (k : Chg S w w') (hb : b ∉ S) : Bag w' b f n := by
  obtain ⟨L, h1, h2⟩ := h; exact ⟨L, h1.chg k hb, h2⟩
theorem Bag.chg0 {w w' : World} {b n : Nat} {f : BagF} (h : Bag w b f n) (k : Chg [] w w') : Bag w' b f n := h.chg k (by simp)
theorem Bag.lt {w : World} {b n : Nat} {f : BagF} (h : Bag w b f n) : b < w.heap.size := by obtain ⟨L, h1, h2⟩ := h; exact h1.lt
theorem BagL.grow {L : List (Int × Int)} {f : BagF} {n m : Nat} (h : BagL L f n) (hm : n ≤ m) : BagL L f m := ⟨h.1, fun x hx => by have := h.2.1 x hx; omega, h.2.2⟩
theorem Bag.grow {w : World} {b n m : Nat} {f : BagF} (h : Bag w b f n) (hm : n ≤ m) : Bag w b f m := by obtain ⟨L, h1, h2⟩ := h; exact ⟨L, h1, h2.grow hm⟩
theorem Bag.neBlk {w : World} {b n b' : Nat} {f : BagF} {cs : List Value} {τ : TypeId} (h : Bag w b f n) (h' : Blk w b' cs τ) : b ≠ b' := by obtain ⟨L, h1, h2⟩ := h; exact h1.neBlk h'
theorem mget_range {L : List (Int × Int)} {n : Nat} (h : ∀ x ∈ L, 0 ≤ x.1 ∧ x.1 < n ∧ 0 ≤ x.2 ∧ x.2 ≤ 9223372036854775807) (k : Int) : 0 ≤ (mget L k).getD 0 ∧ (mget L k).getD 0 ≤ 9223372036854775807 := by
  cases hm : mget L k with
  | none => simp
  | some v => have := h _ (mem_of_mget hm); simp only [Option.getD_some]; omega
theorem BagL.range {L : List (Int × Int)} {f : BagF} {n : Nat} (h : BagL L f n) (i : Nat) : 0 ≤ f i ∧ f i ≤ 9223372036854775807 := by rw [h.2.2]; exact mget_range h.2.1 _
theorem Bag.range {w : World} {b n : Nat} {f : BagF} (h : Bag w b f n) (i : Nat) : 0 ≤ f i ∧ f i ≤ 9223372036854775807 := by obtain ⟨L, h1, h2⟩ := h; exact h2.range i
theorem bagL_nil (n : Nat) : BagL [] zeroF n := ⟨by simp, by simp, fun i => rfl⟩
theorem bagL_put {L : List (Int × Int)} {f : BagF} {n : Nat} (h : BagL L f n) (p : Nat) (hp : p < n) (v : Int) (hv : 0 ≤ v ∧ v ≤ 9223372036854775807) : BagL (mput L p v) (fun i => if i = p then v else f i) n := by
  refine ⟨mput_nodup h.1 _ _, fun x hx => ?_, fun i => ?_⟩
  · rcases mput_mem hx with rfl | hx
    · simp only; omega
    · exact h.2.1 x hx
  · rw [mget_mput]
    show (if i = p then v else f i) = _
    by_cases hi : i = p
    · rw [if_pos hi, if_pos (by omega)]; rfl
    · rw [if_neg hi, if_neg (by omega)]; exact h.2.2 i
theorem sumM_two (a b : Int) (ha : 0 ≤ a) (ha2 : a ≤ 9223372036854775807) : sumM [a, b] = sadd a b := by
  have : sadd 0 a = a := by unfold sadd; omega
  simp [sumM, this]
theorem sprod_two (a b : Int) (ha : 0 ≤ a) (ha2 : a ≤ 9223372036854775807) : sprod [a, b] = smul a b := by
  have h1 : smul 1 a = a := by unfold smul; rw [show max (1 : Int) 0 = 1 from rfl, Int.one_mul]; omega
  unfold sprod
  by_cases h : a ≤ 0 ∨ b ≤ 0
  · rw [if_pos (by simp; omega)]
    unfold smul
    have : max a 0 * max b 0 = 0 := by
      rcases h with h | h
      · rw [show max a 0 = 0 from by omega, Int.zero_mul]
      · rw [show max b 0 = 0 from by omega, Int.mul_zero]
    rw [this]; rfl
  · rw [if_neg (by simp; omega)]
    simp [h1]
theorem smul_zero (a : Int) : smul a 0 = 0 := by unfold smul; rw [show max (0 : Int) 0 = 0 from rfl, Int.mul_zero]; rfl
theorem smul_zeroL (a : Int) : smul 0 a = 0 := by unfold smul; rw [show max (0 : Int) 0 = 0 from rfl, Int.zero_mul]; rfl
theorem smul_one (a : Int) (h : 0 ≤ a ∧ a ≤ 9223372036854775807) : smul a 1 = a := by unfold smul; rw [show max (1 : Int) 0 = 1 from rfl, Int.mul_one]; omega
theorem sadd_zero (a : Int) (h : 0 ≤ a ∧ a ≤ 9223372036854775807) : sadd a 0 = a := by unfold sadd; omega
theorem sadd_zeroL (a : Int) (h : 0 ≤ a ∧ a ≤ 9223372036854775807) : sadd 0 a = a := by unfold sadd; omega
def midF (f g : BagF) (by_ : Int) (R : List (Int × Int)) : BagF := fun i => if (mget R (i : Int)).isSome then f i else sadd (f i) (smul (g i) by_)
theorem mid_start {f g : BagF} {by_ : Int} {L : List (Int × Int)} {n : Nat} (hg : BagL L g n) (hf : ∀ i, 0 ≤ f i ∧ f i ≤ 9223372036854775807) : midF f g by_ L = f := by
  funext i
  unfold midF
  split
  · rfl
  · rename_i h
    have : g i = 0 := by
      rw [hg.2.2]
      cases hm : mget L (i : Int) with
      | none => rfl
      | some v => rw [hm] at h; simp at h
    rw [this, smul_zeroL, sadd_zero _ (hf i)]
theorem mid_end {f g : BagF} {by_ : Int} : midF f g by_ [] = addF f g by_ := by
  funext i; unfold midF addF; rw [if_neg (by simp [mget_nil])]
theorem sub_nodup {L R1 R2 : List (Int × Int)} {x : Int × Int} (hn : (L.map (·.1)).Nodup) (hs : (R1 ++ x :: R2).Sublist L) : (R1 ++ R2).Sublist L ∧ mget (R1 ++ R2) x.1 = none ∧ (∀ c, c ≠ x.1 → mget (R1 ++ R2) c = mget (R1 ++ x :: R2) c) ∧ mget (R1 ++ x :: R2) x.1 = some x.2 ∧ mget L x.1 = some x.2 := by
  have hn2 : ((R1 ++ x :: R2).map (·.1)).Nodup := hn.sublist (hs.map _)
  have hs2 : (R1 ++ R2).Sublist (R1 ++ x :: R2) := List.Sublist.append (List.Sublist.refl _) (List.sublist_cons_self _ _)
  have hn3 : ((R1 ++ R2).map (·.1)).Nodup := hn2.sublist (hs2.map _)
  have hx : mget (R1 ++ x :: R2) x.1 = some x.2 := mget_of_mem hn2 (by simp)
  refine ⟨hs2.trans hs, ?_, fun c hc => ?_, hx, mget_of_mem hn (hs.subset (by simp))⟩
  · cases hm : mget (R1 ++ R2) x.1 with
    | none => rfl
    | some v =>
      exfalso
      have h1 := mem_of_mget hm
      rw [List.map_append, List.map_cons, List.nodup_append] at hn2
      obtain ⟨_, h3, h4⟩ := hn2
      rcases List.mem_append.1 h1 with h | h
      · exact h4 x.1 (List.mem_map.2 ⟨_, h, rfl⟩) x.1 (List.mem_cons_self ..) rfl
      · exact (List.nodup_cons.1 h3).1 (List.mem_map.2 ⟨_, h, rfl⟩)
  · cases hm : mget (R1 ++ x :: R2) c with
    | none =>
      cases hm2 : mget (R1 ++ R2) c with
      | none => rfl
      | some v => exact absurd rfl (mget_none hm _ (hs2.subset (mem_of_mget hm2)))
    | some v =>
      have h1 := mem_of_mget hm
      refine mget_of_mem hn3 ?_
      rcases List.mem_append.1 h1 with h | h
      · exact List.mem_append_left _ h
      · rcases List.mem_cons.1 h with h | h
        · exact absurd (by rw [← h]) hc
        · exact List.mem_append_right _ h
theorem mid_step {f g : BagF} {by_ : Int} {L R1 R2 : List (Int × Int)} {k : Nat} {v : Int} {n : Nat} (hg : BagL L g n) (hs : (R1 ++ ((k : Int), v) :: R2).Sublist L) (hby : 0 ≤ by_) :
    midF f g by_ (R1 ++ R2) = (fun i => if i = k then sadd (midF f g by_ (R1 ++ ((k : Int), v) :: R2) k) (smul v by_) else midF f g by_ (R1 ++ ((k : Int), v) :: R2) i) := by
  obtain ⟨h1, h2, h3, h4, h5⟩ := sub_nodup hg.1 hs
  funext i
  by_cases hi : i = k
  · subst hi
    rw [if_pos rfl]
    unfold midF
    simp only at h2 h4 h5
    rw [h2, h4]
    simp only [Option.isSome_none, Bool.false_eq_true, if_false, Option.isSome_some, if_true]
    rw [hg.2.2 i, h5]
    rfl
  · rw [if_neg hi]
    unfold midF
    rw [h3 (i : Int) (by simp only; omega)]
end Go.Clt
end
section
set_option linter.unusedVariables false
set_option linter.unusedSimpArgs false
set_option maxRecDepth 4000
namespace Go.Clt
set_option maxHeartbeats 4000000
open Go Go.RowKit Go.Proofs
theorem bagadd_c (b m n : Nat) (f g : BagF) (by_ : Int) (w : World) (hb : Bag w b f n) (hm : Bag w m g n) (hne : b ≠ m) (hby : 0 ≤ by_ ∧ by_ ≤ 9223372036854775807) :
    Calls P 161 #[.map (some b), .map (some m), .int .i64 by_] w (Ret fun v w' => Chg [b] w w' ∧ Bag w' b (addF f g by_) n) := by
  have hC := Chg.refl [b] w
  obtain ⟨L, hM, hL⟩ := hm
  have hfr := hb.range
  have hbl := hb.lt
  have hml := hM.lt
  refine enter Tryz.func161 rfl rfl ?_
  refine EW.seq ?_
  refine EW.seq ?_
  refine EW.reg ?_
  refine EP.o rfl (Does.move rfl) ?_
  refine EP.o rfl (Does.cmp rfl rfl rfl) ?_
  refine EP.nil ?_
  refine EW.cond rfl (fun h0 => ?_) (fun h0 => ?_)
  · try simp at h0
    refine EW.ret ?_
    refine Fin.none rfl ?_
    refine ⟨hC, ?_⟩
    have : addF f g by_ = f := by funext i; unfold addF; rw [h0, smul_zero, sadd_zero _ (hfr i)]
    rw [this]
    exact hb
  · try simp at h0
    refine EW.skip ?_
    refine EW.seq ?_
    refine EW.reg ?_
    refine EP.o rfl (Does.move rfl) ?_
    refine EP.range2 (k := 3) (el := 3) rfl mp156 rfl hM ?_
    intro b1 w1 hb1 hs1 hx1 hI1
    have hz1 := hx1.size
    replace hC := hC.step0 hx1
    replace hb := hb.chg0 hx1
    replace hM := hM.chg0 hx1
    refine EP.nil ?_
    refine EW.block ?_
    refine EW.loop (σ := List (Int × Int)) (fun R => [(0, .map (some b)), (2, .int .i64 by_), (11, .pointer (some ⟨b1, 0, none⟩))]) (fun R wr => Chg [b] w wr ∧ It ik wr b1 m L R ∧ Bag wr b (midF f g by_ R) n ∧ R.Sublist L) (fun R wr => R.length) L ⟨rfl, rfl, rfl, trivial⟩ ?_ ?_
    · refine ⟨hC, hI1, ?_, List.Sublist.refl _⟩
      rw [mid_start hL hfr]
      exact hb
    rintro R w9 ⟨hC, hI, hb, hs⟩
    have hlt := hI.lt
    have hbl' := hb.lt
    have hbm1 : b1 ≠ b := by omega
    try have hzw := hC.size
    refine EW.seq ?_
    refine EW.reg ?_
    refine EP.next2 rfl rfl hI (fun hE => ?_) ?_
    · refine EP.o rfl (Does.extract rfl rfl) ?_
      refine EP.nil ?_
      refine EW.seq ?_
      refine EW.condF rfl ?_
      refine EW.exit (brk_here ?_)
      refine Fin.none rfl ?_
      rw [hE, mid_end] at hb
      exact ⟨hC, hb⟩
    · rintro L1 ⟨xk, xv⟩ L2 w2 hML hx2 hs2 hI2 hA2
      have hz2 := hx2.size
      replace hC := hC.step hx2 (by simp; omega)
      replace hb := hb.chg hx2 (by simp; omega)
      clear hI; have hI := hI2; clear hI2
      subst hML
      obtain ⟨hp0, hp1, hv0, hv1⟩ := hL.2.1 (xk, xv) (hs.subset (by simp))
      obtain ⟨k, rfl⟩ := Int.eq_ofNat_of_zero_le hp0
      simp only at hp0 hp1 hv0 hv1
      obtain ⟨Lb, hMb, hLb⟩ := hb
      have hmr := mget_range hLb.2.1 (k : Int)
      refine EP.o rfl (Does.extract rfl rfl) ?_
      refine EP.nil ?_
      refine EW.seq ?_
      refine EW.condT rfl ?_
      refine EW.skip ?_
      refine EW.block ?_
      refine EW.seq ?_
      refine EW.reg ?_
      refine EP.o rfl (Does.entry rfl (by assumption)) ?_
      refine EP.o rfl (Does.extract rfl rfl) ?_
      refine EP.o rfl (Does.extract rfl rfl) ?_
      refine EP.o rfl (Does.assign rfl) ?_
      refine EP.o rfl (Does.assign rfl) ?_
      refine EP.nil ?_
      refine EW.drw' (S := []) 11 [(0, 0), (0, 1), (0, 2), (0, 3), (0, 4), (0, 5), (0, 6), (1, 7), (1, 8), (1, 9), (1, 10), (2, 11)] mo (by kernel_rfl) ?_
      intro w3 hx3 hh3
      have hz3 := hx3.size
      replace hC := hC.step0 hx3
      replace hI := hI.chg0 hx3
      replace hMb := hMb.chg0 hx3
      have hCS3 := Chg.refl ([]) w3
      refine EP.f rfl (Does.move rfl) ?_
      refine EP.f rfl (Does.move rfl) ?_
      refine EP.f rfl (Does.move rfl) ?_
      refine EP.f rfl (Does.move rfl) ?_
      refine EP.f rfl (Does.look (ik_law Tryz.underlying3) mp156 zr3 rfl rfl hMb (Keeps.chg hMb.lt (by first | (simp; done) | (simp; omega)))) ?_
      refine EP.f rfl (Does.move rfl) ?_
      refine EP.f rfl (Does.move rfl) ?_
      refine EP.new1 rfl (News.buildL sl24 Tryz.underlying24 zr3 rfl rfl rfl (by rfl)) ?_
      intro b4 w4 hb4 hs4 hx4 hB4
      have hz4 := hx4.size
      replace hC := hC.step0 hx4
      replace hI := hI.chg0 hx4
      replace hMb := hMb.chg0 hx4
      replace hCS3 := hCS3.step0 hx4
      refine ⟨hCS3, ?_⟩
      refine EP.call1 rfl (Enters.fn fb84 rfl) (mulL_c [xv, by_] _ _ _ _ _ (by assumption) rfl (by intro x hx; simp at hx; omega) (by simp)) ?_
      rintro _ _ ⟨rfl, rfl⟩
      refine ⟨hCS3, ?_⟩
      refine EP.new1 rfl (News.buildL sl24 Tryz.underlying24 zr3 rfl rfl rfl (by rfl)) ?_
      intro b6 w6 hb6 hs6 hx6 hB6
      have hz6 := hx6.size
      replace hC := hC.step0 hx6
      replace hI := hI.chg0 hx6
      replace hMb := hMb.chg0 hx6
      replace hCS3 := hCS3.step0 hx6
      replace hB4 := hB4.chg0 hx6
      refine ⟨hCS3, ?_⟩
      refine EP.call1 rfl (Enters.fn fb46 rfl) (addL_c [(mget Lb (k : Int)).getD 0, sprod [xv, by_]] _ _ _ _ _ (by assumption) rfl (by have := sprod_range [xv, by_] (by intro x hx; simp at hx; omega); intro x hx; simp at hx; omega) (by simp)) ?_
      rintro _ _ ⟨rfl, rfl⟩
      refine ⟨hCS3, ?_⟩
      refine EP.upd2 (Or.inl rfl) (ik_law Tryz.underlying3) mp156 rfl rfl rfl hMb ?_
      intro w8 hs8 hx8 hM8
      have hz8 := hx8.size
      replace hC := hC.step hx8 (by simp; done)
      replace hI := hI.chg hx8 (by simp; omega)
      replace hB4 := hB4.chg hx8 (by simp; omega)
      replace hB6 := hB6.chg hx8 (by simp; omega)
      clear hMb; have hMb := hM8; clear hM8
      refine EP.nil ?_
      refine ⟨L1 ++ L2, ⟨rfl, rfl, rfl, trivial⟩, ?_, ?_⟩
      refine ⟨hC, hI, ⟨_, hMb, ?_⟩, (sub_nodup hL.1 hs).1⟩
      rw [sprod_two _ _ hv0 hv1, sumM_two _ _ hmr.1 hmr.2, ← hLb.2.2 k, mid_step hL hs hby.1]
      exact bagL_put hLb k (by omega) _ (sadd_range _ _)
      simp
theorem bagsum_c (b m n : Nat) (f g : BagF) (by_ : Int) (w : World) (hb : Bag w b f n) (hm : Bag w m g n) (hby : 0 ≤ by_ ∧ by_ ≤ 9223372036854775807) :
    Calls P 134 #[.map (some b), .map (some m), .int .i64 by_] w (Ret fun v w' => Chg [] w w' ∧ ∃ o, v = .map (some o) ∧ w.heap.size ≤ o ∧ Bag w' o (addF f g by_) n) := by
  have hC := Chg.refl [] w
  have hfr := hb.range
  have hbl := hb.lt
  have hml := hm.lt
  refine enter Tryz.func134 rfl rfl ?_
  refine EW.seq ?_
  refine EW.reg ?_
  refine EP.o rfl (Does.assign rfl) ?_
  refine EP.nil ?_
  refine EW.seq ?_
  refine EW.reg ?_
  refine EP.mmap2 ik rfl ?_
  intro b1 w1 hb1 hs1 hx1 hM1
  have hz1 := hx1.size
  replace hC := hC.step0 hx1
  replace hb := hb.chg0 hx1
  replace hm := hm.chg0 hx1
  have hl1 := hM1.lt
  have hZ : Bag w1 b1 zeroF n := ⟨[], hM1, bagL_nil n⟩
  refine EP.o rfl (Does.assign rfl) ?_
  refine EP.nil ?_
  refine EW.seq ?_
  refine EW.reg ?_
  refine EP.o rfl (Does.move rfl) ?_
  refine EP.o rfl (Does.move rfl) ?_
  refine EP.call2 rfl (Enters.fn fb161 rfl) (bagadd_c b1 b n zeroF f 1 _ hZ hb (by omega) (by omega)) ?_
  rintro _ w2 ⟨hx2, hZ'⟩
  have hz2 := hx2.size
  replace hC := hC.step hx2 (by simp; omega)
  replace hb := hb.chg hx2 (by simp; omega)
  replace hm := hm.chg hx2 (by simp; omega)
  clear hZ
  have hZ := hZ'; clear hZ'
  have hff : addF zeroF f 1 = f := by funext i; unfold addF zeroF; rw [smul_one _ (hfr i), sadd_zeroL _ (hfr i)]
  rw [hff] at hZ
  refine EP.nil ?_
  refine EW.seq ?_
  refine EW.reg ?_
  refine EP.o rfl (Does.move rfl) ?_
  refine EP.o rfl (Does.move rfl) ?_
  refine EP.o rfl (Does.move rfl) ?_
  refine EP.call2 rfl (Enters.fn fb161 rfl) (bagadd_c b1 m n f g by_ _ hZ hm (by omega) hby) ?_
  rintro _ w3 ⟨hx3, hZ'⟩
  have hz3 := hx3.size
  replace hC := hC.step hx3 (by simp; omega)
  replace hb := hb.chg hx3 (by simp; omega)
  replace hm := hm.chg hx3 (by simp; omega)
  clear hZ
  have hZ := hZ'; clear hZ'
  refine EP.nil ?_
  refine EW.seq ?_
  refine EW.reg ?_
  refine EP.o rfl (Does.move rfl) ?_
  refine EP.o rfl (Does.assign rfl) ?_
  refine EP.nil ?_
  refine EW.ret ?_
  refine Fin.one rfl rfl ?_
  exact ⟨hC, b1, rfl, by omega, hZ⟩
end Go.Clt
end
section
set_option linter.unusedVariables false
set_option linter.unusedSimpArgs false
set_option maxRecDepth 4000
namespace Go.Clt
open Go Go.RowKit Go.Proofs
def mapsV (bs : List Nat) : List Value := bs.map fun b => .map (some b)
theorem mapsV_get (bs : List Nat) (k : Nat) (h : k < bs.length) : (mapsV bs)[k]? = some (.map (some (bs.getD k 0))) := by simp [mapsV, List.getElem?_eq_getElem h, List.getD_eq_getElem?_getD]
def GB (w : World) (bs : List Nat) (G : List BagF) (n : Nat) : Prop := bs.length = G.length ∧ ∀ i, i < bs.length → Bag w (bs.getD i 0) (G.getD i zeroF) n
theorem GB.chg {S : List Nat} {w w' : World} {bs : List Nat} {G : List BagF} {n : Nat} (h : GB w bs G n) (k : Chg S w w') (hS : ∀ x ∈ bs, x ∉ S) : GB w' bs G n :=
  ⟨h.1, fun i hi => (h.2 i hi).chg k (hS _ (getD_mem bs 0 i hi))⟩
theorem GB.chg0 {w w' : World} {bs : List Nat} {G : List BagF} {n : Nat} (h : GB w bs G n) (k : Chg [] w w') : GB w' bs G n := h.chg k (by simp)
theorem GB.lt {w : World} {bs : List Nat} {G : List BagF} {n : Nat} (h : GB w bs G n) : ∀ x ∈ bs, x < w.heap.size := fun x hx => by
  obtain ⟨i, hi, rfl⟩ := List.mem_iff_getElem.1 hx
  have := (h.2 i hi).lt
  rw [List.getD_eq_getElem?_getD, List.getElem?_eq_getElem hi] at this
  exact this
theorem GB.bag {w : World} {bs : List Nat} {G : List BagF} {n : Nat} (h : GB w bs G n) {x : Nat} (hx : x ∈ bs) : ∃ f, Bag w x f n := by
  obtain ⟨i, hi, rfl⟩ := List.mem_iff_getElem.1 hx
  have := h.2 i hi
  rw [List.getD_eq_getElem?_getD, List.getElem?_eq_getElem hi] at this
  exact ⟨_, this⟩
theorem GB.grow {w : World} {bs : List Nat} {G : List BagF} {n m : Nat} (h : GB w bs G n) (hm : n ≤ m) : GB w bs G m := ⟨h.1, fun i hi => (h.2 i hi).grow hm⟩
theorem GB.snoc {w : World} {bs : List Nat} {G : List BagF} {n b : Nat} {f : BagF} (h : GB w bs G n) (hb : Bag w b f n) : GB w (bs ++ [b]) (G ++ [f]) n := by
  refine ⟨by simp [h.1], fun i hi => ?_⟩
  simp at hi
  by_cases h2 : i < bs.length
  · rw [List.getD_eq_getElem?_getD, List.getElem?_append_left h2, List.getD_eq_getElem?_getD, List.getElem?_append_left (by rw [← h.1]; exact h2), ← List.getD_eq_getElem?_getD, ← List.getD_eq_getElem?_getD]
    exact h.2 i h2
  · have : i = bs.length := by omega
    subst this
    rw [List.getD_eq_getElem?_getD, List.getElem?_append_right (by omega), List.getD_eq_getElem?_getD, List.getElem?_append_right (by rw [h.1]; omega)]
    simpa [h.1] using hb
theorem GB.upd {w w' : World} {bs : List Nat} {G : List BagF} {n k : Nat} {f : BagF} (h : GB w bs G n) (hn : bs.Nodup) (hk : k < bs.length) (hc : Chg [bs.getD k 0] w w') (hb : Bag w' (bs.getD k 0) f n) : GB w' bs (G.set k f) n := by
  refine ⟨by simp [h.1], fun i hi => ?_⟩
  by_cases hik : i = k
  · subst hik
    rw [List.getD_eq_getElem?_getD (l := G.set i f), List.getElem?_set, if_pos rfl, if_pos (by rw [← h.1]; exact hi)]
    exact hb
  · rw [List.getD_eq_getElem?_getD (l := G.set k f), List.getElem?_set, if_neg (Ne.symm hik), ← List.getD_eq_getElem?_getD]
    refine (h.2 i hi).chg hc ?_
    rw [List.mem_singleton]
    rw [List.getD_eq_getElem?_getD, List.getElem?_eq_getElem hi, List.getD_eq_getElem?_getD, List.getElem?_eq_getElem hk]
    simp only [Option.getD_some]
    intro he
    have hp := List.pairwise_iff_getElem.1 hn
    rcases Nat.lt_or_ge i k with h1 | h1
    · exact hp i k hi hk h1 he
    · exact hp k i hk hi (by omega) he.symm
structure WBlk (w : World) (p : Nat) (q : Wst) (kv : List Value) (A : Option Addr) (c : Nat) (A2 : Option Addr) (c2 : Nat) (bs : List Nat) : Prop where
  blk : Blk w p (kv ++ [.slice A q.S.length c, .slice A2 q.S.length c2]) 161
  kl : kv.length = 3
  os : Own w (p + 1) 70 4 A q.S.length c (setsCells q.S)
  of_ : Own w (p + 1) 156 1 A2 q.S.length c2 (mapsV bs)
  gb : GB w bs q.G q.S.length
  gl : q.G.length = q.S.length
  nd : bs.Nodup
  lo : ∀ x ∈ bs, p < x
def wT (p : Nat) (A A2 : Option Addr) (bs : List Nat) : List Nat := p :: (blkOf A ++ blkOf A2 ++ bs)
theorem wT_mem {p : Nat} {A A2 : Option Addr} {bs : List Nat} {x : Nat} : x ∈ wT p A A2 bs ↔ x = p ∨ x ∈ blkOf A ∨ x ∈ blkOf A2 ∨ x ∈ bs := by simp [wT, or_assoc]
def IsW (w : World) (p : Nat) (q : Wst) (kv : List Value) (T : List Nat) : Prop := ∃ A c A2 c2 bs, WBlk w p q kv A c A2 c2 bs ∧ T = wT p A A2 bs
theorem Own.notBag {w : World} {lo : Nat} {el : TypeId} {sz n c : Nat} {A : Option Addr} {cs : List Value} (h : Own w lo el sz A n c cs) {x m : Nat} {f : BagF} (hb : Bag w x f m) : x ∉ blkOf A := by
  intro hx
  rcases h.form with ⟨hA, _⟩ | ⟨g, cur, hA, _, hB, _⟩
  · rw [hA] at hx; simp [blkOf] at hx
  · rw [hA] at hx
    simp [blkOf] at hx
    exact hb.neBlk hB hx
theorem Own.apart {w : World} {lo lo' : Nat} {el el' : TypeId} {sz n c sz' n' c' : Nat} {A A' : Option Addr} {cs cs' : List Value} (h : Own w lo el sz A n c cs) (h' : Own w lo' el' sz' A' n' c' cs') (hne : el ≠ el') : ∀ x ∈ blkOf A, x ∉ blkOf A' := by
  intro x hx hx'
  rcases h.form with ⟨hA, _⟩ | ⟨g, cur, hA, _, hB, _⟩
  · rw [hA] at hx; simp [blkOf] at hx
  · rcases h'.form with ⟨hA', _⟩ | ⟨g', cur', hA', _, hB', _⟩
    · rw [hA'] at hx'; simp [blkOf] at hx'
    · rw [hA] at hx
      rw [hA'] at hx'
      simp [blkOf] at hx hx'
      exact hB.ne hB' hne (hx.symm.trans hx')
theorem Own.keep {w w' : World} {lo : Nat} {el : TypeId} {sz n c : Nat} {A : Option Addr} {cs : List Value} {S : List Nat} (h : Own w lo el sz A n c cs) (k : Chg S w w') (hS : ∀ x ∈ blkOf A, x ∉ S) : Own w' lo el sz A n c cs :=
  h.chg k (fun b hb => by
    right
    intro hA
    rw [hA] at hS
    exact hS b (by simp [blkOf]) hb)
theorem Own.offBlk {w : World} {lo : Nat} {el : TypeId} {sz n c : Nat} {A : Option Addr} {cs : List Value} (h : Own w lo el sz A n c cs) {b : Nat} {cs' : List Value} {τ : TypeId} (hb : Blk w b cs' τ) (hne : el ≠ τ) : ∀ x ∈ blkOf A, x ∉ [b] := by
  intro x hx hm
  rw [List.mem_singleton] at hm
  subst hm
  rcases h.form with ⟨hA, _⟩ | ⟨g, cur, hA, _, hB, _⟩
  · rw [hA] at hx; simp [blkOf] at hx
  · rw [hA] at hx
    simp [blkOf] at hx
    exact hB.ne hb hne hx.symm
theorem Own.offMp {w : World} {lo : Nat} {el : TypeId} {sz n c : Nat} {A : Option Addr} {cs : List Value} (h : Own w lo el sz A n c cs) {b : Nat} (hb : ∃ es clock, w.heap[b]? = some (.map es clock)) : ∀ x ∈ blkOf A, x ∉ [b] := by
  intro x hx hm
  rw [List.mem_singleton] at hm
  subst hm
  rcases h.form with ⟨hA, _⟩ | ⟨g, cur, hA, _, hB, _⟩
  · rw [hA] at hx; simp [blkOf] at hx
  · rw [hA] at hx
    simp [blkOf] at hx
    subst hx
    obtain ⟨es, clock, hb⟩ := hb
    rw [show w.heap[x]? = _ from hB] at hb
    cases hb
theorem Mp.is {α : Type} {enc : α → Value} {w : World} {b : Nat} {L : List (α × Int)} (h : Mp enc w b L) : ∃ es clock, w.heap[b]? = some (.map es clock) := by obtain ⟨es, clock, h, _⟩ := h; exact ⟨es, clock, h⟩
theorem WBlk.chg {S : List Nat} {w w' : World} {p : Nat} {q : Wst} {kv : List Value} {A : Option Addr} {c : Nat} {A2 : Option Addr} {c2 : Nat} {bs : List Nat} (h : WBlk w p q kv A c A2 c2 bs) (k : Chg S w w') (hS : ∀ x ∈ wT p A A2 bs, x ∉ S) : WBlk w' p q kv A c A2 c2 bs :=
  ⟨h.blk.chg k (hS p (wT_mem.2 (.inl rfl))), h.kl, h.os.keep k (fun x hx => hS x (wT_mem.2 (.inr (.inl hx)))), h.of_.keep k (fun x hx => hS x (wT_mem.2 (.inr (.inr (.inl hx))))), h.gb.chg k (fun x hx => hS x (wT_mem.2 (.inr (.inr (.inr hx))))), h.gl, h.nd, h.lo⟩
theorem IsW.chg {S : List Nat} {w w' : World} {p : Nat} {q : Wst} {kv : List Value} {T : List Nat} (h : IsW w p q kv T) (k : Chg S w w') (hS : ∀ x ∈ T, x ∉ S) : IsW w' p q kv T := by
  obtain ⟨A, c, A2, c2, bs, h, rfl⟩ := h
  exact ⟨A, c, A2, c2, bs, h.chg k hS, rfl⟩
theorem IsW.chg0 {w w' : World} {p : Nat} {q : Wst} {kv : List Value} {T : List Nat} (h : IsW w p q kv T) (k : Chg [] w w') : IsW w' p q kv T := h.chg k (by simp)
theorem WBlk.mem {w : World} {p : Nat} {q : Wst} {kv : List Value} {A : Option Addr} {c : Nat} {A2 : Option Addr} {c2 : Nat} {bs : List Nat} (h : WBlk w p q kv A c A2 c2 bs) : ∀ x ∈ wT p A A2 bs, p ≤ x ∧ x < w.heap.size := fun x hx => by
  rcases wT_mem.1 hx with rfl | hx | hx | hx
  · exact ⟨Nat.le_refl _, h.blk.lt⟩
  · have := h.os.blk x hx; omega
  · have := h.of_.blk x hx; omega
  · exact ⟨Nat.le_of_lt (h.lo x hx), h.gb.lt x hx⟩
theorem IsW.mem {w : World} {p : Nat} {q : Wst} {kv : List Value} {T : List Nat} (h : IsW w p q kv T) : ∀ x ∈ T, p ≤ x ∧ x < w.heap.size := by
  obtain ⟨A, c, A2, c2, bs, h, rfl⟩ := h; exact h.mem
theorem IsW.gl {w : World} {p : Nat} {q : Wst} {kv : List Value} {T : List Nat} (h : IsW w p q kv T) : q.G.length = q.S.length := by
  obtain ⟨A, c, A2, c2, bs, h, rfl⟩ := h; exact h.gl
def IsKn (w : World) (lo hi : Nat) (T : List Nat) (k : Kn) (v : Value) (n : Nat) : Prop := ∃ b1 b2, v = .agg #[.int .i64 k.void, .map (some b1), .map (some b2)] ∧ Bag w b1 k.first n ∧ Bag w b2 k.last n ∧ (lo ≤ b1 ∧ b1 < hi) ∧ (lo ≤ b2 ∧ b2 < hi) ∧ b1 ∉ T ∧ b2 ∉ T ∧ 0 ≤ k.void ∧ k.void ≤ 9223372036854775807
def WalkR (w : World) (p : Nat) (kv : List Value) (T : List Nat) (r : Kn × Wst) (v : Value) (w' : World) : Prop :=
  Chg T w w' ∧ ∃ T', IsW w' p r.2 kv T' ∧ (∀ x ∈ T', x ∈ T ∨ w.heap.size ≤ x) ∧ IsKn w' w.heap.size w'.heap.size T' r.1 v r.2.S.length
end Go.Clt
end
section
set_option linter.unusedVariables false
set_option linter.unusedSimpArgs false
set_option maxRecDepth 4000
namespace Go.Clt
set_option maxHeartbeats 4000000
open Go Go.RowKit Go.Proofs
theorem three {kv : List Value} (h : kv.length = 3) : ∃ x y z, kv = [x, y, z] := by
  match kv, h with
  | [x, y, z], _ => exact ⟨x, y, z, rfl⟩
theorem place_c (p : Nat) (q : Wst) (kv : List Value) (T : List Nat) (s : Nat) (w : World) (hW : IsW w p q kv T) (hn : q.S.length ≤ 1000000) :
    Calls P 132 #[.pointer (some ⟨p, 0, none⟩), .agg (setCells s).toArray] w (Ret (WalkR w p kv T (placeF q s))) := by
  obtain ⟨A, c, A2, c2, bs, hK, rfl⟩ := hW
  have hT := hK.mem
  obtain ⟨hB0, hkl, hO, hO2, hG, hgl, hnd, hlo⟩ := hK
  obtain ⟨k1, k2, k3, rfl⟩ := three hkl
  have hC := Chg.refl (wT p A A2 bs) w
  have hOb := hO.blk
  have hQb := hO2.blk
  have hbL : ∀ x ∈ bs, p < x ∧ x < w.heap.size := fun x hx => ⟨hlo x hx, hG.lt x hx⟩
  have hGA : ∀ x ∈ bs, x ∉ blkOf A := fun x hx => by obtain ⟨f, hf⟩ := hG.bag hx; exact hO.notBag hf
  have hGA2 : ∀ x ∈ bs, x ∉ blkOf A2 := fun x hx => by obtain ⟨f, hf⟩ := hG.bag hx; exact hO2.notBag hf
  have hAQ := hO.apart hO2 (by decide)
  have hQA := hO2.apart hO (by decide)
  have hpw := hB0.lt
  try have hlB0 := hB0.lt
  refine enter Tryz.func132 rfl rfl ?_
  refine EW.seq ?_
  refine EW.reg ?_
  refine EP.new2 rfl (News.box rfl rfl) ?_
  intro b1 w1 hb1 hs1 hx1 hB1
  have hz1 := hx1.size
  replace hC := hC.step0 hx1
  replace hB0 := hB0.chg0 hx1
  replace hO := hO.chg0 hx1
  replace hO2 := hO2.chg0 hx1
  replace hG := hG.chg0 hx1
  refine EP.new2 rfl (News.alloc zr158 rfl) ?_
  intro b2 w2 hb2 hs2 hx2 hB2
  have hz2 := hx2.size
  replace hC := hC.step0 hx2
  replace hB0 := hB0.chg0 hx2
  replace hO := hO.chg0 hx2
  replace hO2 := hO2.chg0 hx2
  replace hG := hG.chg0 hx2
  replace hB1 := hB1.chg0 hx2
  refine EP.nil ?_
  refine EW.seq ?_
  refine EW.reg ?_
  refine EP.o rfl (Does.move rfl) ?_
  refine EP.o rfl (Does.nilCheck rfl) ?_
  refine EP.o rfl (Does.fieldAddr fl161_1 rfl) ?_
  refine EP.o rfl (Does.loadB o23 rfl (Keeps.now _) (by assumption) (by rfl)) ?_
  refine EP.o rfl (Does.lenL Tryz.underlying23 rfl) ?_
  refine EP.o rfl (Does.assign rfl) ?_
  refine EP.nil ?_
  refine EW.seq ?_
  refine EW.drw' (S := blkOf A) 8 [(0, 0), (0, 1), (0, 2), (0, 3), (0, 4), (0, 5), (1, 6), (1, 7), (2, 8), (2, 9), (2, 10)] mo (by kernel_rfl) ?_
  intro w3 hx3 hh3
  have hz3 := hx3.size
  replace hC := hC.step0 hx3
  replace hB0 := hB0.chg0 hx3
  replace hO := hO.chg0 hx3
  replace hO2 := hO2.chg0 hx3
  replace hG := hG.chg0 hx3
  replace hB1 := hB1.chg0 hx3
  replace hB2 := hB2.chg0 hx3
  have hCS3 := Chg.refl (blkOf A) w3
  refine EP.f rfl (Does.move rfl) ?_
  refine EP.f rfl (Does.move rfl) ?_
  refine EP.f rfl (Does.nilCheck rfl) ?_
  refine EP.f rfl (Does.fieldAddr fl161_1 rfl) ?_
  refine EP.f rfl (Does.loadBc o23 rfl (by assumption) (by intro h; have := hOb _ h; omega) (by rfl)) ?_
  refine EP.f rfl (Does.loadAc ag70 rfl (by assumption) (by intro h; have := hOb _ h; omega) (by simp only [List.take, List.drop, List.append, List.cons_append, List.nil_append]; rfl) rfl) ?_
  refine EP.new1 rfl (News.buildL sl23 Tryz.underlying23 zr70 rfl rfl rfl (by rfl)) ?_
  intro b4 w4 hb4 hs4 hx4 hB4
  have hz4 := hx4.size
  replace hC := hC.step0 hx4
  replace hB0 := hB0.chg0 hx4
  replace hO := hO.chg0 hx4
  replace hO2 := hO2.chg0 hx4
  replace hG := hG.chg0 hx4
  replace hB1 := hB1.chg0 hx4
  replace hB2 := hB2.chg0 hx4
  replace hCS3 := hCS3.step0 hx4
  refine ⟨hCS3, ?_⟩
  refine EP.append1 rfl el23 rfl rfl hO (Blk.rd (F := fun _ => True) (by assumption) rfl trivial) (by rfl) (by omega) (by omega) ?_
  intro A' c' w5 hO5 hx5 hA'
  have hz5 := hx5.size
  replace hC := hC.step hx5 (by intro x h; left; first | assumption | exact wT_mem.2 (.inl (List.mem_singleton.1 h)) | exact wT_mem.2 (.inr (.inl h)) | exact wT_mem.2 (.inr (.inr (.inl h))) | exact wT_mem.2 (.inr (.inr (.inr h))))
  replace hB0 := hB0.chg hx5 (by intro h; have := hOb _ h; omega)
  replace hO2 := (by exact hO2.keep hx5 (by assumption))
  replace hG := hG.chg hx5 (by assumption)
  replace hB1 := hB1.chg hx5 (by intro h; have := hOb _ h; omega)
  replace hB2 := hB2.chg hx5 (by intro h; have := hOb _ h; omega)
  replace hCS3 := hCS3.step hx5 (by exact fun x h => .inl h)
  replace hB4 := hB4.chg hx5 (by intro h; have := hOb _ h; omega)
  clear hO; have hO := hO5; clear hO5
  refine ⟨hCS3, ?_⟩
  have hAQ := hO.apart hO2 (by decide)
  have hAb := hO.blk
  refine EP.o rfl (Does.nilCheck rfl) ?_
  refine EP.o rfl (Does.fieldAddr fl161_1 rfl) ?_
  refine EP.put2 (Puts.blk sz23 rfl rfl (by assumption) rfl rfl rfl rfl (by simp only [List.take, List.drop, List.append, List.cons_append, List.nil_append]; rfl)) ?_
  intro w6 hs6 hx6 hB6
  have hz6 := hx6.size
  replace hC := hC.step hx6 (by intro x h; left; first | assumption | exact wT_mem.2 (.inl (List.mem_singleton.1 h)) | exact wT_mem.2 (.inr (.inl h)) | exact wT_mem.2 (.inr (.inr (.inl h))) | exact wT_mem.2 (.inr (.inr (.inr h))))
  replace hO := (by exact hO.chg hx6 (by first | (intro x hx; simp at hx; left; omega) | (intro x hx; simp at hx; right; rw [hx]; assumption) | (intro x hx; have hx := List.mem_singleton.1 hx; right; intro h; have := hOb x (by rw [h]; exact List.mem_singleton.2 rfl); omega) | (intro x hx; have := hOb x hx; left; omega)))
  replace hO2 := (by exact hO2.chg hx6 (by first | (intro x hx; simp at hx; left; omega) | (intro x hx; simp at hx; right; rw [hx]; assumption) | (intro x hx; have hx := List.mem_singleton.1 hx; right; intro h; have := hOb x (by rw [h]; exact List.mem_singleton.2 rfl); omega) | (intro x hx; have := hOb x hx; left; omega)))
  replace hG := hG.chg hx6 (by intro x hx; have h1 := hbL x hx; simp; omega)
  replace hB1 := hB1.chg hx6 (by simp; omega)
  replace hB2 := hB2.chg hx6 (by simp; omega)
  replace hB4 := hB4.chg hx6 (by simp; omega)
  clear hB0; have hB0 := hB6; clear hB6
  refine EP.nil ?_
  refine EW.seq ?_
  refine EW.reg ?_
  refine EP.o rfl (Does.move rfl) ?_
  refine EP.o rfl (Does.move rfl) ?_
  refine EP.o rfl (Does.nilCheck rfl) ?_
  refine EP.o rfl (Does.fieldAddr fl161_2 rfl) ?_
  refine EP.o rfl (Does.loadB o159 rfl (Keeps.now _) (by assumption) (by rfl)) ?_
  refine EP.mmap2 ik rfl ?_
  intro b7 w7 hb7 hs7 hx7 hM7
  have hz7 := hx7.size
  replace hC := hC.step0 hx7
  replace hB0 := hB0.chg0 hx7
  replace hO := hO.chg0 hx7
  replace hO2 := hO2.chg0 hx7
  replace hG := hG.chg0 hx7
  replace hB1 := hB1.chg0 hx7
  replace hB2 := hB2.chg0 hx7
  replace hB4 := hB4.chg0 hx7
  have hl7 := hM7.lt
  refine EP.new2 rfl (News.buildL sl159 Tryz.underlying159 zr156 rfl rfl rfl (by rfl)) ?_
  intro b8 w8 hb8 hs8 hx8 hB8
  have hz8 := hx8.size
  replace hC := hC.step0 hx8
  replace hB0 := hB0.chg0 hx8
  replace hO := hO.chg0 hx8
  replace hO2 := hO2.chg0 hx8
  replace hG := hG.chg0 hx8
  replace hB1 := hB1.chg0 hx8
  replace hB2 := hB2.chg0 hx8
  replace hB4 := hB4.chg0 hx8
  replace hM7 := hM7.chg0 hx8
  refine EP.append2 rfl el159 rfl rfl hO2 (Blk.rd (F := fun _ => True) (by assumption) rfl trivial) (by rfl) (by omega) (by omega) ?_
  intro A2' c2' w9 hO9 hx9 hA2'
  have hz9 := hx9.size
  replace hC := hC.step hx9 (by intro x h; left; first | assumption | exact wT_mem.2 (.inl (List.mem_singleton.1 h)) | exact wT_mem.2 (.inr (.inl h)) | exact wT_mem.2 (.inr (.inr (.inl h))) | exact wT_mem.2 (.inr (.inr (.inr h))))
  replace hB0 := hB0.chg hx9 (by intro h; have := hQb _ h; omega)
  replace hO := (by exact hO.keep hx9 (by assumption))
  replace hG := hG.chg hx9 (by assumption)
  replace hB1 := hB1.chg hx9 (by intro h; have := hQb _ h; omega)
  replace hB2 := hB2.chg hx9 (by intro h; have := hQb _ h; omega)
  replace hB4 := hB4.chg hx9 (by intro h; have := hQb _ h; omega)
  replace hM7 := hM7.chg hx9 (by intro h; have := hQb _ h; omega)
  replace hB8 := hB8.chg hx9 (by intro h; have := hQb _ h; omega)
  clear hO2; have hO2 := hO9; clear hO9
  refine EP.o rfl (Does.nilCheck rfl) ?_
  refine EP.o rfl (Does.fieldAddr fl161_2 rfl) ?_
  refine EP.put2 (Puts.blk sz159 rfl rfl (by assumption) rfl rfl rfl rfl (by simp only [List.take, List.drop, List.append, List.cons_append, List.nil_append]; rfl)) ?_
  intro w10 hs10 hx10 hB10
  have hz10 := hx10.size
  replace hC := hC.step hx10 (by intro x h; left; first | assumption | exact wT_mem.2 (.inl (List.mem_singleton.1 h)) | exact wT_mem.2 (.inr (.inl h)) | exact wT_mem.2 (.inr (.inr (.inl h))) | exact wT_mem.2 (.inr (.inr (.inr h))))
  replace hO := (by exact hO.chg hx10 (by first | (intro x hx; simp at hx; left; omega) | (intro x hx; simp at hx; right; rw [hx]; assumption) | (intro x hx; have hx := List.mem_singleton.1 hx; right; intro h; have := hOb x (by rw [h]; exact List.mem_singleton.2 rfl); omega) | (intro x hx; have := hOb x hx; left; omega)))
  replace hO2 := (by exact hO2.chg hx10 (by first | (intro x hx; simp at hx; left; omega) | (intro x hx; simp at hx; right; rw [hx]; assumption) | (intro x hx; have hx := List.mem_singleton.1 hx; right; intro h; have := hOb x (by rw [h]; exact List.mem_singleton.2 rfl); omega) | (intro x hx; have := hOb x hx; left; omega)))
  replace hG := hG.chg hx10 (by intro x hx; have h1 := hbL x hx; simp; omega)
  replace hB1 := hB1.chg hx10 (by simp; omega)
  replace hB2 := hB2.chg hx10 (by simp; omega)
  replace hB4 := hB4.chg hx10 (by simp; omega)
  replace hM7 := hM7.chg hx10 (by simp; omega)
  replace hB8 := hB8.chg hx10 (by simp; omega)
  clear hB0; have hB0 := hB10; clear hB10
  refine EP.nil ?_
  refine EW.seq ?_
  refine EW.reg ?_
  refine EP.mmap2 ik rfl ?_
  intro b11 w11 hb11 hs11 hx11 hM11
  have hz11 := hx11.size
  replace hC := hC.step0 hx11
  replace hB0 := hB0.chg0 hx11
  replace hO := hO.chg0 hx11
  replace hO2 := hO2.chg0 hx11
  replace hG := hG.chg0 hx11
  replace hB1 := hB1.chg0 hx11
  replace hB2 := hB2.chg0 hx11
  replace hB4 := hB4.chg0 hx11
  replace hM7 := hM7.chg0 hx11
  replace hB8 := hB8.chg0 hx11
  have hl11 := hM11.lt
  have ho1 := hO.offMp hM11.is
  have ho2 := hO2.offMp hM11.is
  refine EP.o rfl (Does.move rfl) ?_
  refine EP.upd2 (Or.inr rfl) (ik_law Tryz.underlying3) mp156 rfl rfl rfl hM11 ?_
  intro w12 hs12 hx12 hM12
  have hz12 := hx12.size
  replace hC := hC.step hx12 (by simp; omega)
  replace hB0 := hB0.chg hx12 (by simp; omega)
  replace hO := (by exact hO.keep hx12 (by assumption))
  replace hO2 := (by exact hO2.keep hx12 (by assumption))
  replace hG := hG.chg hx12 (by intro x hx; have h1 := hbL x hx; simp; omega)
  replace hB1 := hB1.chg hx12 (by simp; omega)
  replace hB2 := hB2.chg hx12 (by simp; omega)
  replace hB4 := hB4.chg hx12 (by simp; omega)
  replace hM7 := hM7.chg hx12 (by simp; omega)
  replace hB8 := hB8.chg hx12 (by simp; omega)
  clear hM11; have hM11 := hM12; clear hM12
  refine EP.o rfl (Does.move rfl) ?_
  refine EP.mmap2 ik rfl ?_
  intro b13 w13 hb13 hs13 hx13 hM13
  have hz13 := hx13.size
  replace hC := hC.step0 hx13
  replace hB0 := hB0.chg0 hx13
  replace hO := hO.chg0 hx13
  replace hO2 := hO2.chg0 hx13
  replace hG := hG.chg0 hx13
  replace hB1 := hB1.chg0 hx13
  replace hB2 := hB2.chg0 hx13
  replace hB4 := hB4.chg0 hx13
  replace hM7 := hM7.chg0 hx13
  replace hB8 := hB8.chg0 hx13
  replace hM11 := hM11.chg0 hx13
  have hl13 := hM13.lt
  have ho3 := hO.offMp hM13.is
  have ho4 := hO2.offMp hM13.is
  refine EP.o rfl (Does.move rfl) ?_
  refine EP.upd2 (Or.inr rfl) (ik_law Tryz.underlying3) mp156 rfl rfl rfl hM13 ?_
  intro w14 hs14 hx14 hM14
  have hz14 := hx14.size
  replace hC := hC.step hx14 (by simp; omega)
  replace hB0 := hB0.chg hx14 (by simp; omega)
  replace hO := (by exact hO.keep hx14 (by assumption))
  replace hO2 := (by exact hO2.keep hx14 (by assumption))
  replace hG := hG.chg hx14 (by intro x hx; have h1 := hbL x hx; simp; omega)
  replace hB1 := hB1.chg hx14 (by simp; omega)
  replace hB2 := hB2.chg hx14 (by simp; omega)
  replace hB4 := hB4.chg hx14 (by simp; omega)
  replace hM7 := hM7.chg hx14 (by simp; omega)
  replace hB8 := hB8.chg hx14 (by simp; omega)
  replace hM11 := hM11.chg hx14 (by simp; omega)
  clear hM13; have hM13 := hM14; clear hM14
  refine EP.o rfl (Does.move rfl) ?_
  have ho5 := hO.offBlk hB2 (by decide)
  have ho6 := hO2.offBlk hB2 (by decide)
  refine EP.o rfl (Does.buildSL zr158 pl158 rfl (by rfl)) ?_
  refine EP.put2 (Puts.blk sz158 rfl rfl (by assumption) rfl rfl rfl rfl (by simp only [List.take, List.drop, List.append, List.cons_append, List.nil_append]; rfl)) ?_
  intro w15 hs15 hx15 hB15
  have hz15 := hx15.size
  replace hC := hC.step hx15 (by simp; omega)
  replace hB0 := hB0.chg hx15 (by simp; omega)
  replace hO := (by exact hO.keep hx15 (by assumption))
  replace hO2 := (by exact hO2.keep hx15 (by assumption))
  replace hG := hG.chg hx15 (by intro x hx; have h1 := hbL x hx; simp; omega)
  replace hB1 := hB1.chg hx15 (by simp; omega)
  replace hB4 := hB4.chg hx15 (by simp; omega)
  replace hM7 := hM7.chg hx15 (by simp; omega)
  replace hB8 := hB8.chg hx15 (by simp; omega)
  replace hM11 := hM11.chg hx15 (by simp; omega)
  replace hM13 := hM13.chg hx15 (by simp; omega)
  clear hB2; have hB2 := hB15; clear hB15
  refine EP.nil ?_
  refine EW.ret ?_
  refine Fin.cell rfl rfl (Blk.loadV ag158 (by assumption) (by simp only [List.take, List.drop, List.append, List.cons_append, List.nil_append]; rfl) rfl) ?_
  have hGl := hG.1
  have hZ : Bag w15 b7 zeroF (q.S.length + 1) := ⟨[], hM7, bagL_nil _⟩
  have h1 : BagL (mput [] ((q.S.length : Nat) : Int) 1) (one1 q.S.length) (q.S.length + 1) := by
    have := bagL_put (bagL_nil (q.S.length + 1)) q.S.length (by omega) 1 (by omega)
    exact this
  have hl1 : (placeF q s).2.S.length = q.S.length + 1 := by simp [placeF]
  have hA2b := hO2.blk
  refine ⟨hC, wT p A' A2' (bs ++ [b7]), ⟨A', c', A2', c2', bs ++ [b7], ⟨?_, hkl, ?_, ?_, ?_, ?_, ?_, ?_⟩, rfl⟩, ?_, b11, b13, rfl, ?_, ?_, ⟨by omega, hM11.lt⟩, ⟨by omega, hM13.lt⟩, ?_, ?_, by simp [placeF], by simp [placeF]⟩
  · rw [hl1]; exact hB0
  · rw [hl1]; show Own _ _ _ _ _ _ _ (setsCells (q.S ++ [s])); rw [setsCells_append]; exact hO
  · rw [hl1]; unfold mapsV; rw [List.map_append]; exact hO2
  · rw [hl1]; exact (hG.grow (by omega)).snoc hZ
  · rw [hl1]; show (q.G ++ [zeroF]).length = _; simp [hgl]
  · rw [List.nodup_append]
    exact ⟨hnd, by simp, fun x hx y hy => by have := hbL x hx; simp at hy; omega⟩
  · intro x hx
    rcases List.mem_append.1 hx with hx | hx
    · exact hlo x hx
    · simp at hx; omega
  · intro x hx
    rcases wT_mem.1 hx with rfl | hx | hx | hx
    · exact .inl (wT_mem.2 (.inl rfl))
    · rcases hA' with h | ⟨b, h, hb⟩
      · rw [h] at hx; exact .inl (wT_mem.2 (.inr (.inl hx)))
      · rw [h] at hx; simp [blkOf] at hx; right; omega
    · rcases hA2' with h | ⟨b, h, hb⟩
      · rw [h] at hx; exact .inl (wT_mem.2 (.inr (.inr (.inl hx))))
      · rw [h] at hx; simp [blkOf] at hx; right; omega
    · rcases List.mem_append.1 hx with hx | hx
      · exact .inl (wT_mem.2 (.inr (.inr (.inr hx))))
      · simp at hx; right; omega
  · rw [hl1]; exact ⟨_, hM11, h1⟩
  · rw [hl1]; exact ⟨_, hM13, h1⟩
  · intro hx
    rcases wT_mem.1 hx with hx | hx | hx | hx
    · omega
    · exact ho1 _ hx (by simp)
    · exact ho2 _ hx (by simp)
    · rcases List.mem_append.1 hx with hx | hx
      · have := hbL _ hx; omega
      · simp at hx; omega
  · intro hx
    rcases wT_mem.1 hx with hx | hx | hx | hx
    · omega
    · exact ho3 _ hx (by simp)
    · exact ho4 _ hx (by simp)
    · rcases List.mem_append.1 hx with hx | hx
      · have := hbL _ hx; omega
      · simp at hx; omega
end Go.Clt
end
section
set_option linter.unusedVariables false
set_option linter.unusedSimpArgs false
set_option maxRecDepth 4000
namespace Go.Clt
open Go Go.RowKit Go.Proofs
def midG (G : List BagF) (f g : BagF) (R : List (Int × Int)) : List BagF := G.mapIdx fun i h => if (mget R (i : Int)).isSome then h else addF h g (f i)
theorem midG_len (G : List BagF) (f g : BagF) (R : List (Int × Int)) : (midG G f g R).length = G.length := by simp [midG]
theorem midG_end (G : List BagF) (f g : BagF) : midG G f g [] = linkF G f g := by simp [midG, linkF, mget_nil]
theorem addF_zero (h g : BagF) (hr : ∀ i, 0 ≤ h i ∧ h i ≤ 9223372036854775807) : addF h g 0 = h := by
  funext i; unfold addF; rw [smul_zero, sadd_zero _ (hr i)]
theorem midG_start {G : List BagF} {f g : BagF} {L : List (Int × Int)} {n : Nat} (hf : BagL L f n) (hr : ∀ h ∈ G, ∀ i, 0 ≤ h i ∧ h i ≤ 9223372036854775807) : midG G f g L = G := by
  apply List.ext_getElem?
  intro i
  unfold midG
  rw [List.getElem?_mapIdx]
  cases hi : G[i]? with
  | none => rfl
  | some h =>
    simp only [Option.map_some]
    congr 1
    split
    · rfl
    · rename_i hm
      have : f i = 0 := by
        rw [hf.2.2]
        cases hx : mget L (i : Int) with
        | none => rfl
        | some v => rw [hx] at hm; simp at hm
      rw [this]
      exact addF_zero h g (hr h (List.mem_of_getElem? hi))
theorem midG_step {G : List BagF} {f g : BagF} {L R1 R2 : List (Int × Int)} {k : Nat} {v : Int} {n : Nat} (hf : BagL L f n) (hs : (R1 ++ ((k : Int), v) :: R2).Sublist L) (hk : k < G.length) :
    midG G f g (R1 ++ R2) = (midG G f g (R1 ++ ((k : Int), v) :: R2)).set k (addF ((midG G f g (R1 ++ ((k : Int), v) :: R2)).getD k zeroF) g v) := by
  obtain ⟨h1, h2, h3, h4, h5⟩ := sub_nodup hf.1 hs
  have hkl : k < (midG G f g (R1 ++ ((k : Int), v) :: R2)).length := by rw [midG_len]; exact hk
  apply List.ext_getElem?
  intro i
  by_cases hi : i = k
  · subst hi
    rw [List.getElem?_set, if_pos rfl, if_pos hkl]
    unfold midG
    rw [List.getElem?_mapIdx, List.getElem?_eq_getElem hk]
    simp only [Option.map_some]
    simp only at h2 h4 h5
    rw [h2, List.getD_eq_getElem?_getD, List.getElem?_mapIdx, List.getElem?_eq_getElem hk]
    simp only [Option.map_some, Option.getD_some, h4, Option.isSome_some, if_true]
    rw [hf.2.2 i, h5]
    rfl
  · rw [List.getElem?_set, if_neg (Ne.symm hi)]
    unfold midG
    rw [List.getElem?_mapIdx, List.getElem?_mapIdx, h3 (i : Int) (by simp only; omega)]
theorem GB.ranges {w : World} {bs : List Nat} {G : List BagF} {n : Nat} (h : GB w bs G n) : ∀ g ∈ G, ∀ i, 0 ≤ g i ∧ g i ≤ 9223372036854775807 := fun g hg i => by
  obtain ⟨j, hj, rfl⟩ := List.mem_iff_getElem.1 hg
  have := (h.2 j (by rw [h.1]; exact hj)).range i
  rw [List.getD_eq_getElem?_getD (l := G), List.getElem?_eq_getElem hj] at this
  exact this
theorem IsKn.chg {w w' : World} {lo hi n : Nat} {T S : List Nat} {k : Kn} {v : Value} (h : IsKn w lo hi T k v n) (hc : Chg S w w') (hS : ∀ b, lo ≤ b → b < hi → b ∉ T → b ∉ S) : IsKn w' lo hi T k v n := by
  obtain ⟨b1, b2, h1, h2, h3, h4, h5, h6, h7, h8⟩ := h
  exact ⟨b1, b2, h1, h2.chg hc (hS _ h4.1 h4.2 h6), h3.chg hc (hS _ h5.1 h5.2 h7), h4, h5, h6, h7, h8⟩
theorem IsKn.chg0 {w w' : World} {lo hi n : Nat} {T : List Nat} {k : Kn} {v : Value} (h : IsKn w lo hi T k v n) (hc : Chg [] w w') : IsKn w' lo hi T k v n := h.chg hc (by simp)
theorem IsKn.val {w : World} {lo hi n : Nat} {T : List Nat} {k : Kn} {v : Value} (h : IsKn w lo hi T k v n) : ∃ f l, v = .agg #[.int .i64 k.void, .map (some f), .map (some l)] := by
  obtain ⟨b1, b2, h1, _⟩ := h; exact ⟨b1, b2, h1⟩
theorem IsKn.bags {w : World} {lo hi n : Nat} {T : List Nat} {k : Kn} {x : Int} {f l : Nat} (h : IsKn w lo hi T k (.agg #[.int .i64 x, .map (some f), .map (some l)]) n) : Bag w f k.first n ∧ Bag w l k.last n ∧ (lo ≤ f ∧ f < hi) ∧ (lo ≤ l ∧ l < hi) ∧ f ∉ T ∧ l ∉ T ∧ 0 ≤ k.void ∧ k.void ≤ 9223372036854775807 := by
  obtain ⟨b1, b2, h1, h2, h3, h4⟩ := h
  injection h1 with h1
  injection h1 with h1
  simp at h1
  obtain ⟨_, rfl, rfl⟩ := h1
  exact ⟨h2, h3, h4⟩
theorem IsW.lt {w : World} {p : Nat} {q : Wst} {kv : List Value} {T : List Nat} (h : IsW w p q kv T) : p < w.heap.size := by
  obtain ⟨A, c, A2, c2, bs, h, rfl⟩ := h; exact h.blk.lt
theorem walkF_S : ∀ (t : Cor) (q : Wst), (walkF t q).2.S = q.S ++ setsC t
  | .empty, q => by simp [walkF, setsC]
  | .set s, q => rfl
  | .cat a b, q => by simp only [walkF, setsC]; rw [walkF_S b, walkF_S a, List.append_assoc]
  | .alt a b, q => by simp only [walkF, setsC]; rw [walkF_S b, walkF_S a, List.append_assoc]
  | .star lz a, q => by simp only [walkF, setsC]; rw [walkF_S a]
theorem walkF_len (t : Cor) (q : Wst) : (walkF t q).2.S.length = q.S.length + (setsC t).length := by rw [walkF_S, List.length_append]
theorem IsKn.walk {w w' : World} {lo hi n : Nat} {T T' : List Nat} {k : Kn} {v : Value} {q : Wst} (h : IsKn w lo hi T k v n) (hc : Chg T w w') (hT : ∀ x ∈ T', x ∈ T ∨ w.heap.size ≤ x) (hn : n ≤ q.S.length) : IsKn w' lo hi T' k v q.S.length := by
  obtain ⟨b1, b2, h1, h2, h3, h4, h5, h6, h7, h8⟩ := h
  exact ⟨b1, b2, h1, (h2.chg hc h6).grow hn, (h3.chg hc h7).grow hn, h4, h5, fun hm => by have := h2.lt; rcases hT _ hm with h | h; exact h6 h; omega, fun hm => by have := h3.lt; rcases hT _ hm with h | h; exact h7 h; omega, h8⟩
theorem IsKn.wide {w : World} {lo lo' hi hi' n : Nat} {T : List Nat} {k : Kn} {v : Value} (h : IsKn w lo hi T k v n) (hl : lo' ≤ lo) (hh : hi ≤ hi') : IsKn w lo' hi' T k v n := by
  obtain ⟨b1, b2, h1, h2, h3, h4, h5, r⟩ := h
  exact ⟨b1, b2, h1, h2, h3, by omega, by omega, r⟩
theorem IsKn.lts {w : World} {lo hi n : Nat} {T : List Nat} {k : Kn} {v : Value} (h : IsKn w lo hi T k v n) : IsKn w lo w.heap.size T k v n := by
  obtain ⟨b1, b2, h1, h2, h3, h4, h5, r⟩ := h
  exact ⟨b1, b2, h1, h2, h3, ⟨h4.1, h2.lt⟩, ⟨h5.1, h3.lt⟩, r⟩
end Go.Clt
end
section
set_option linter.unusedVariables false
set_option linter.unusedSimpArgs false
set_option maxRecDepth 4000
namespace Go.Clt
set_option maxHeartbeats 4000000
open Go Go.RowKit Go.Proofs
theorem Bag.is {w : World} {b n : Nat} {f : BagF} (h : Bag w b f n) : ∃ es clock, w.heap[b]? = some (.map es clock) := by obtain ⟨L, h, _⟩ := h; exact h.is
theorem WBlk.chg0 {w w' : World} {p : Nat} {q : Wst} {kv : List Value} {A : Option Addr} {c : Nat} {A2 : Option Addr} {c2 : Nat} {bs : List Nat} (h : WBlk w p q kv A c A2 c2 bs) (k : Chg [] w w') : WBlk w' p q kv A c A2 c2 bs := h.chg k (by simp)
theorem link_c (p : Nat) (q : Wst) (kv : List Value) (T : List Nat) (x1 x2 : Nat) (f g : BagF) (w : World) (hW : IsW w p q kv T) (h1 : Bag w x1 f q.S.length) (h2 : Bag w x2 g q.S.length) (n1 : x1 ∉ T) (n2 : x2 ∉ T) :
    Calls P 135 #[.pointer (some ⟨p, 0, none⟩), .map (some x1), .map (some x2)] w (Ret fun v w' => Chg T w w' ∧ IsW w' p ⟨q.S, linkF q.G f g⟩ kv T) := by
  obtain ⟨A, c, A2, c2, bs, hK, rfl⟩ := hW
  have hbL := hK.mem
  have hC := Chg.refl (wT p A A2 bs) w
  obtain ⟨L, hM, hL⟩ := h1
  have hY := h2
  have hyl := h2.lt
  have hxl := hM.lt
  have hpw := hK.blk.lt
  refine enter Tryz.func135 rfl rfl ?_
  refine EW.seq ?_
  refine EW.reg ?_
  refine EP.o rfl (Does.move rfl) ?_
  refine EP.range2 (k := 3) (el := 3) rfl mp156 rfl hM ?_
  intro b1 w1 hb1 hs1 hx1 hI1
  have hz1 := hx1.size
  replace hC := hC.step0 hx1
  replace hK := hK.chg0 hx1
  replace hM := hM.chg0 hx1
  replace hY := hY.chg0 hx1
  refine EP.nil ?_
  refine EW.block ?_
  refine EW.loop (σ := List (Int × Int)) (fun R => [(0, .pointer (some ⟨p, 0, none⟩)), (2, .map (some x2)), (9, .pointer (some ⟨b1, 0, none⟩))]) (fun R wr => Chg (wT p A A2 bs) w wr ∧ It ik wr b1 x1 L R ∧ WBlk wr p ⟨q.S, midG q.G f g R⟩ kv A c A2 c2 bs ∧ Bag wr x2 g q.S.length ∧ R.Sublist L) (fun R wr => R.length) L ⟨rfl, rfl, rfl, trivial⟩ ?_ ?_
  · refine ⟨hC, hI1, ?_, hY, List.Sublist.refl _⟩
    rw [midG_start hL hK.gb.ranges]
    exact hK
  rintro R w9 ⟨hC, hI, hK, hY, hs⟩
  have hlt := hI.lt
  try have hzw := hC.size
  refine EW.seq ?_
  refine EW.reg ?_
  refine EP.next2 rfl rfl hI (fun hE => ?_) ?_
  · refine EP.o rfl (Does.extract rfl rfl) ?_
    refine EP.nil ?_
    refine EW.seq ?_
    refine EW.condF rfl ?_
    refine EW.exit (brk_here ?_)
    refine Fin.none rfl ?_
    rw [hE, midG_end] at hK
    exact ⟨hC, A, c, A2, c2, bs, hK, rfl⟩
  · rintro L1 ⟨xk, xv⟩ L2 w2 hML hx2 hs2 hI2 hA2
    have hz2 := hx2.size
    replace hC := hC.step hx2 (by simp; omega)
    replace hK := hK.chg hx2 (by intro x hx; have h1 := hbL x hx; simp; omega)
    replace hY := hY.chg hx2 (by simp; omega)
    clear hI; have hI := hI2; clear hI2
    subst hML
    obtain ⟨hp0, hp1, hv0, hv1⟩ := hL.2.1 (xk, xv) (hs.subset (by simp))
    obtain ⟨k, rfl⟩ := Int.eq_ofNat_of_zero_le hp0
    simp only at hp0 hp1 hv0 hv1
    obtain ⟨hB0, hkl, hO, hO2, hG, hgl, hnd, hlo⟩ := hK
    obtain ⟨k1, k2, k3, rfl⟩ := three hkl
    have hkb : k < bs.length := by rw [hG.1, hgl]; show k < q.S.length; omega
    have hkS : k < q.S.length := by omega
    have hBk := hG.2 k hkb
    have hBk0 := hBk
    have hmk := getD_mem bs 0 k hkb
    generalize hbk : bs.getD k 0 = bk at *
    have hb1 := hbL bk (wT_mem.2 (.inr (.inr (.inr hmk))))
    have hpk := hlo bk hmk
    have hx1k : x1 ≠ bk := fun e => n1 (by rw [e]; exact wT_mem.2 (.inr (.inr (.inr hmk))))
    have hx2k : x2 ≠ bk := fun e => n2 (by rw [e]; exact wT_mem.2 (.inr (.inr (.inr hmk))))
    have hkT : ∀ b ∈ [bk], b ∈ wT p A A2 bs ∨ w.heap.size ≤ b := fun b hb => by rw [List.mem_singleton] at hb; subst hb; exact .inl (wT_mem.2 (.inr (.inr (.inr hmk))))
    have ho1 := hO.offMp hBk.is
    have ho2 := hO2.offMp hBk.is
    have hrd := hO2.rd (F := fun _ => True) (fun _ _ _ => trivial)
    obtain ⟨g2, off2, hA2, _⟩ := hrd.at_ (by show 0 < q.S.length; omega)
    subst hA2
    have hcell := (hrd.one (k := k) (v := .map (some bk)) (by rw [mapsV_get bs k hkb, hbk])).2
    try have hlB0 := hB0.lt
    refine EP.o rfl (Does.extract rfl rfl) ?_
    refine EP.nil ?_
    refine EW.seq ?_
    refine EW.condT rfl ?_
    refine EW.skip ?_
    refine EW.block ?_
    refine EW.seq ?_
    refine EW.reg ?_
    refine EP.o rfl (Does.entry rfl (by assumption)) ?_
    refine EP.o rfl (Does.extract rfl rfl) ?_
    refine EP.o rfl (Does.extract rfl rfl) ?_
    refine EP.o rfl (Does.assign rfl) ?_
    refine EP.o rfl (Does.assign rfl) ?_
    refine EP.nil ?_
    refine EW.reg ?_
    refine EP.o rfl (Does.move rfl) ?_
    refine EP.o rfl (Does.nilCheck rfl) ?_
    refine EP.o rfl (Does.fieldAddr fl161_2 rfl) ?_
    refine EP.o rfl (Does.loadB o159 rfl (Keeps.now _) (by assumption) (by rfl)) ?_
    refine EP.o rfl (Does.move rfl) ?_
    refine EP.o rfl (Does.indexAddr1 sl159 rfl rfl (by omega) (by omega)) ?_
    refine EP.o rfl (Does.load1 o156 rfl (Keeps.now _) hcell) ?_
    refine EP.o rfl (Does.move rfl) ?_
    refine EP.o rfl (Does.move rfl) ?_
    refine EP.call2 rfl (Enters.fn fb161 rfl) (bagadd_c bk x2 q.S.length _ g xv _ hBk0 hY (by omega) (by omega)) ?_
    rintro _ w3 ⟨hx3, hN⟩
    have hz3 := hx3.size
    replace hC := hC.step hx3 (by assumption)
    replace hY := hY.chg hx3 (by simp; omega)
    replace hI := hI.chg hx3 (by simp; omega)
    replace hB0 := hB0.chg hx3 (by simp; omega)
    replace hO := (by exact hO.keep hx3 (by assumption))
    replace hO2 := (by exact hO2.keep hx3 (by assumption))
    refine EP.nil ?_
    refine ⟨L1 ++ L2, ⟨rfl, rfl, rfl, trivial⟩, ?_, ?_⟩
    refine ⟨hC, hI, ⟨hB0, rfl, hO, hO2, ?_, by rw [← hgl]; simp only [midG_len], hnd, hlo⟩, hY, (sub_nodup hL.1 hs).1⟩
    simp only
    rw [midG_step hL hs (by rw [← midG_len q.G f g (L1 ++ ((k : Int), xv) :: L2), hgl]; exact hkS)]
    subst hbk
    exact hG.upd hnd hkb hx3 hN
    simp
end Go.Clt
end
