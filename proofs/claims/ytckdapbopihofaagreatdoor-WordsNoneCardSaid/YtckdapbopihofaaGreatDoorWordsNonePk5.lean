import Derived.Calls
import Derived.OrdersHeld
import Derived.Still
import Derived.Tactics
import Derived.Below
import Derived.Laws.AppendOwn
import Derived.Laws.Sem
import Derived.KernelRfl
import Derived.Laws.CopyRow
import Derived.Laws.Tables
import Derived.Laws.Entries
import Derived.Laws.IdiomRangeMap
import Derived.WalkKit
import Derived.Laws.CopyOwn
import Derived.Laws.MakeOwn
import Derived.Laws.Slices
import Derived.Maps.AppendAt
import Derived.Test.YtckdapbopihofaaGreatDoorProg
import Derived.Shelf.Strings.Builder1
import Derived.Shelf.Small.Strs
import Derived.Shelf.Strconv.Itoa0
import Derived.Shelf.Strconv.Itoa1
import Derived.Shelf.LaysM
import Derived.Shelf.Strconv.Itoa2
import Derived.Shelf.Strconv.Itoa3
import Derived.Shelf.Strings.Search1
import Derived.Shelf.Bits.Mul64
import Derived.Laws.Externs
import Derived.Lib.TrailingZeros
import Derived.ChangeKeysEq
import Derived.Maps.RangeRun
import Derived.Lib.AppendStr
import Derived.Laws.IdiomStrings
import Derived.Test.YtckdapbopihofaaGreatDoorWordsNonePk4
/- WordsNone: for every input the law answers true, its arguments left as they were (the tied card). A part of that proof: Weigh4, Weigh5, Weigh6, Auto1, Auto2, Own2, Member1, Member2, Member3, Member4, Mk, BlkP, Blk1, Blk2, Blk3, Bld, Bld1, Bld2, DfaP, DfaM, Dfa1, Str. Conditions: none beyond the statement's own. By an AI agent; no person has read it. -/
section
set_option linter.unusedVariables false
set_option linter.unusedSimpArgs false
set_option maxRecDepth 4000
namespace Go.Clt
set_option maxHeartbeats 4000000
open Go Go.RowKit Go.Proofs
theorem cat_c (p : Nat) (q : Wst) (kv : List Value) (T : List Nat) (ka kb : Kn) (va vb : Value) (lo hi : Nat) (w : World) (hW : IsW w p q kv T) (ha : IsKn w lo hi T ka va q.S.length) (hb : IsKn w lo hi T kb vb q.S.length) :
    Calls P 133 #[.pointer (some ⟨p, 0, none⟩), va, vb] w (Ret fun v w' => Chg T w w' ∧ IsW w' p ⟨q.S, linkF q.G ka.last kb.first⟩ kv T ∧ IsKn w' w.heap.size w'.heap.size T ⟨smul ka.void kb.void, addF ka.first kb.first ka.void, addF kb.last ka.last kb.void⟩ v q.S.length) := by
  have hbL := hW.mem
  have hTb := hbL
  have hC := Chg.refl T w
  obtain ⟨f1, l1, rfl, haf, hal, ha3, ha4, ha5, ha6, ha7, ha8⟩ := ha
  obtain ⟨f2, l2, rfl, hbf, hbl, hb3, hb4, hb5, hb6, hb7, hb8⟩ := hb
  have hf1 := haf.lt
  have hl1 := hal.lt
  have hf2 := hbf.lt
  have hl2 := hbl.lt
  refine enter Tryz.func133 rfl rfl ?_
  refine EW.seq ?_
  refine EW.reg ?_
  refine EP.new2 rfl (News.box rfl rfl) ?_
  intro b1 w1 hb1 hs1 hx1 hB1
  have hz1 := hx1.size
  replace hC := hC.step0 hx1
  replace hW := hW.chg0 hx1
  replace haf := haf.chg0 hx1
  replace hal := hal.chg0 hx1
  replace hbf := hbf.chg0 hx1
  replace hbl := hbl.chg0 hx1
  refine EP.new2 rfl (News.box rfl rfl) ?_
  intro b2 w2 hb2 hs2 hx2 hB2
  have hz2 := hx2.size
  replace hC := hC.step0 hx2
  replace hW := hW.chg0 hx2
  replace haf := haf.chg0 hx2
  replace hal := hal.chg0 hx2
  replace hbf := hbf.chg0 hx2
  replace hbl := hbl.chg0 hx2
  replace hB1 := hB1.chg0 hx2
  refine EP.new2 rfl (News.alloc zr158 rfl) ?_
  intro b3 w3 hb3 hs3 hx3 hB3
  have hz3 := hx3.size
  replace hC := hC.step0 hx3
  replace hW := hW.chg0 hx3
  replace haf := haf.chg0 hx3
  replace hal := hal.chg0 hx3
  replace hbf := hbf.chg0 hx3
  replace hbl := hbl.chg0 hx3
  replace hB1 := hB1.chg0 hx3
  replace hB2 := hB2.chg0 hx3
  refine EP.nil ?_
  refine EW.seq ?_
  refine EW.reg ?_
  refine EP.o rfl (Does.move rfl) ?_
  refine EP.o rfl (Does.fieldAddr fl158_2 rfl) ?_
  refine EP.o rfl (Does.loadB o156 rfl (Keeps.now _) (by assumption) (by rfl)) ?_
  refine EP.o rfl (Does.fieldAddr fl158_1 rfl) ?_
  refine EP.o rfl (Does.loadB o156 rfl (Keeps.now _) (by assumption) (by rfl)) ?_
  refine EP.call2 rfl (Enters.fn fb135 rfl) (link_c p q kv T l1 f2 ka.last kb.first _ hW hal hbf ha6 hb5) ?_
  rintro _ w4 ⟨hx4, hW'⟩
  have hz4 := hx4.size
  replace hC := hC.step hx4 (by exact fun x h => .inl h)
  replace haf := haf.chg hx4 (by assumption)
  replace hal := hal.chg hx4 (by assumption)
  replace hbf := hbf.chg hx4 (by assumption)
  replace hbl := hbl.chg hx4 (by assumption)
  replace hB1 := hB1.chg hx4 (by intro h; have := hTb _ h; omega)
  replace hB2 := hB2.chg hx4 (by intro h; have := hTb _ h; omega)
  replace hB3 := hB3.chg hx4 (by intro h; have := hTb _ h; omega)
  clear hW
  have hW := hW'; clear hW'
  refine EP.nil ?_
  refine EW.seq ?_
  refine EW.drw' (S := []) 19 [(0, 0), (0, 1), (0, 2), (0, 3), (0, 6), (0, 7), (0, 8), (0, 9), (0, 10), (0, 11), (0, 13), (0, 14), (0, 15), (0, 16), (0, 17), (0, 18), (1, 4), (1, 5), (1, 12), (2, 19), (2, 20), (2, 21)] mo (by kernel_rfl) ?_
  intro w5 hx5 hh5
  have hz5 := hx5.size
  replace hC := hC.step0 hx5
  replace hW := hW.chg0 hx5
  replace haf := haf.chg0 hx5
  replace hal := hal.chg0 hx5
  replace hbf := hbf.chg0 hx5
  replace hbl := hbl.chg0 hx5
  replace hB1 := hB1.chg0 hx5
  replace hB2 := hB2.chg0 hx5
  replace hB3 := hB3.chg0 hx5
  have hCS5 := Chg.refl ([]) w5
  refine EP.f rfl (Does.fieldAddr fl158_0 rfl) ?_
  refine EP.f rfl (Does.loadBc o3 rfl (by assumption) (by simp; done) (by rfl)) ?_
  refine EP.f rfl (Does.fieldAddr fl158_0 rfl) ?_
  refine EP.f rfl (Does.loadBc o3 rfl (by assumption) (by simp; done) (by rfl)) ?_
  refine EP.f rfl (Does.fieldAddr fl158_1 rfl) ?_
  refine EP.f rfl (Does.loadBc o156 rfl (by assumption) (by simp; done) (by rfl)) ?_
  refine EP.f rfl (Does.fieldAddr fl158_1 rfl) ?_
  refine EP.f rfl (Does.loadBc o156 rfl (by assumption) (by simp; done) (by rfl)) ?_
  refine EP.f rfl (Does.fieldAddr fl158_0 rfl) ?_
  refine EP.f rfl (Does.loadBc o3 rfl (by assumption) (by simp; done) (by rfl)) ?_
  refine EP.f rfl (Does.fieldAddr fl158_2 rfl) ?_
  refine EP.f rfl (Does.loadBc o156 rfl (by assumption) (by simp; done) (by rfl)) ?_
  refine EP.f rfl (Does.fieldAddr fl158_2 rfl) ?_
  refine EP.f rfl (Does.loadBc o156 rfl (by assumption) (by simp; done) (by rfl)) ?_
  refine EP.f rfl (Does.fieldAddr fl158_0 rfl) ?_
  refine EP.f rfl (Does.loadBc o3 rfl (by assumption) (by simp; done) (by rfl)) ?_
  refine EP.new1 rfl (News.buildL sl24 Tryz.underlying24 zr3 rfl rfl rfl (by rfl)) ?_
  intro b6 w6 hb6 hs6 hx6 hB6
  have hz6 := hx6.size
  replace hC := hC.step0 hx6
  replace hW := hW.chg0 hx6
  replace haf := haf.chg0 hx6
  replace hal := hal.chg0 hx6
  replace hbf := hbf.chg0 hx6
  replace hbl := hbl.chg0 hx6
  replace hB1 := hB1.chg0 hx6
  replace hB2 := hB2.chg0 hx6
  replace hB3 := hB3.chg0 hx6
  replace hCS5 := hCS5.step0 hx6
  refine ⟨hCS5, ?_⟩
  refine EP.call1 rfl (Enters.fn fb84 rfl) (mulL_c [ka.void, kb.void] _ _ _ _ _ (by assumption) rfl (by intro x hx; simp at hx; omega) (by simp)) ?_
  rintro _ _ ⟨rfl, rfl⟩
  refine ⟨hCS5, ?_⟩
  refine EP.call1 rfl (Enters.fn fb134 rfl) (bagsum_c f1 f2 q.S.length ka.first kb.first ka.void _ haf hbf ⟨ha7, ha8⟩) ?_
  rintro _ w8 ⟨hx8, o1, rfl, ho1, hS1'⟩
  have hz8 := hx8.size
  replace hC := hC.step0 hx8
  replace hW := hW.chg0 hx8
  replace haf := haf.chg0 hx8
  replace hal := hal.chg0 hx8
  replace hbf := hbf.chg0 hx8
  replace hbl := hbl.chg0 hx8
  replace hB1 := hB1.chg0 hx8
  replace hB2 := hB2.chg0 hx8
  replace hB3 := hB3.chg0 hx8
  replace hCS5 := hCS5.step0 hx8
  replace hB6 := hB6.chg0 hx8
  have hS1 := hS1'; clear hS1'
  refine ⟨hCS5, ?_⟩
  refine EP.call2 rfl (Enters.fn fb134 rfl) (bagsum_c l2 l1 q.S.length kb.last ka.last kb.void _ hbl hal ⟨hb7, hb8⟩) ?_
  rintro _ w9 ⟨hx9, o2, rfl, ho2, hS2'⟩
  have hz9 := hx9.size
  replace hC := hC.step0 hx9
  replace hW := hW.chg0 hx9
  replace haf := haf.chg0 hx9
  replace hal := hal.chg0 hx9
  replace hbf := hbf.chg0 hx9
  replace hbl := hbl.chg0 hx9
  replace hB1 := hB1.chg0 hx9
  replace hB2 := hB2.chg0 hx9
  replace hB3 := hB3.chg0 hx9
  replace hB6 := hB6.chg0 hx9
  replace hS1 := hS1.chg0 hx9
  have hS2 := hS2'; clear hS2'
  have hl3 := hS1.lt
  have hl4 := hS2.lt
  have hoT1 : o1 ∉ T := fun h => by have := hbL _ h; omega
  have hoT2 : o2 ∉ T := fun h => by have := hbL _ h; omega
  refine EP.o rfl (Does.buildSL zr158 pl158 rfl (by rfl)) ?_
  refine EP.put2 (Puts.blk sz158 rfl rfl (by assumption) rfl rfl rfl rfl (by simp only [List.take, List.drop, List.append, List.cons_append, List.nil_append]; rfl)) ?_
  intro w10 hs10 hx10 hB10
  have hz10 := hx10.size
  replace hC := hC.step hx10 (by simp; omega)
  replace hW := hW.chg hx10 (by intro x hx; have h1 := hbL x hx; simp; omega)
  replace haf := haf.chg hx10 (by simp; omega)
  replace hal := hal.chg hx10 (by simp; omega)
  replace hbf := hbf.chg hx10 (by simp; omega)
  replace hbl := hbl.chg hx10 (by simp; omega)
  replace hB1 := hB1.chg hx10 (by simp; omega)
  replace hB2 := hB2.chg hx10 (by simp; omega)
  replace hB6 := hB6.chg hx10 (by simp; omega)
  replace hS1 := hS1.chg hx10 (by simp; omega)
  replace hS2 := hS2.chg hx10 (by simp; omega)
  clear hB3; have hB3 := hB10; clear hB10
  refine EP.nil ?_
  refine EW.ret ?_
  refine Fin.cell rfl rfl (Blk.loadV ag158 (by assumption) (by simp only [List.take, List.drop, List.append, List.cons_append, List.nil_append]; rfl) rfl) ?_
  refine ⟨hC, hW, o1, o2, ?_, hS1, hS2, ⟨by omega, hS1.lt⟩, ⟨by omega, hS2.lt⟩, hoT1, hoT2, (smul_range _ _).1, (smul_range _ _).2⟩
  rw [sprod_two _ _ ha7 ha8]
  rfl
def WalkC (t : Cor) : Prop := ∀ (p : Nat) (q : Wst) (kv : List Value) (T : List Nat) (v : Value) (F : Nat → Prop) (w : World), IsW w p q kv T → IsCor F w t v → (∀ x, F x → x < p) → q.S.length + (setsC t).length ≤ 1000000 →
  Calls P 97 #[.pointer (some ⟨p, 0, none⟩), v] w (Ret (WalkR w p kv T (walkF t q)))
end Go.Clt
end
section
set_option linter.unusedVariables false
set_option linter.unusedSimpArgs false
set_option maxRecDepth 4000
namespace Go.Clt
set_option maxHeartbeats 4000000
open Go Go.RowKit Go.Proofs
theorem walk_set (s : Nat) : WalkC (.set s) := by
  intro p q kv T v F w hW hT hF hl
  obtain ⟨pn, rfl, hFp, hB0⟩ := hT
  have hC := Chg.refl T w
  have hTb := hW.mem
  have hpw := hW.lt
  have hnp := hF pn hFp
  try have hlB0 := hB0.lt
  refine enter Tryz.func97 rfl rfl ?_
  refine EW.seq ?_
  refine EW.reg ?_
  refine EP.new2 rfl (News.alloc zr158 rfl) ?_
  intro b1 w1 hb1 hs1 hx1 hB1
  have hz1 := hx1.size
  replace hC := hC.step0 hx1
  replace hW := hW.chg0 hx1
  replace hB0 := hB0.chg0 hx1
  refine EP.nil ?_
  refine EW.seq ?_
  refine EW.seq ?_
  refine EW.reg ?_
  refine EP.o rfl (Does.move rfl) ?_
  refine EP.o rfl (Does.nilCheck rfl) ?_
  refine EP.o rfl (Does.fieldAddr fl214_0 rfl) ?_
  refine EP.o rfl (Does.loadB o3 rfl (Keeps.now _) (by assumption) (by rfl)) ?_
  refine EP.nil ?_
  refine EW.block ?_
  refine EW.seq ?_
  refine EW.reg ?_
  refine EP.o rfl (Does.cmp rfl rfl rfl) ?_
  refine EP.o rfl (Does.assign rfl) ?_
  refine EP.nil ?_
  refine EW.condT (rfl) ?_
  refine EW.seq ?_
  refine EW.reg ?_
  refine EP.o rfl (Does.move rfl) ?_
  refine EP.o rfl (Does.move rfl) ?_
  refine EP.o rfl (Does.nilCheck rfl) ?_
  refine EP.o rfl (Does.fieldAddr fl214_1 rfl) ?_
  refine EP.o rfl (Does.loadA ag70 rfl (Keeps.now _) (by assumption) (by rfl) rfl) ?_
  refine EP.call2 rfl (Enters.fn fb132 rfl) (place_c p q kv T s _ hW (by omega)) ?_
  rintro v9 w2 ⟨hx2, T1, hW1, hs1, hK1⟩
  have hz2 := hx2.size
  replace hC := hC.step hx2 (by exact fun x h => .inl h)
  replace hB0 := hB0.chg hx2 (by intro h; have := hTb _ h; omega)
  replace hB1 := hB1.chg hx2 (by intro h; have := hTb _ h; omega)
  obtain ⟨f1, l1, rfl⟩ := hK1.val
  have hTn : ∀ x ∈ T1, x ∉ [b1] := fun x hx h => by simp at h; rcases hs1 x hx with h2 | h2; have := hTb x h2; omega; omega
  refine EP.put2 (Puts.blk sz158 rfl rfl (by assumption) rfl rfl rfl rfl (by simp only [List.take, List.drop, List.append, List.cons_append, List.nil_append]; rfl)) ?_
  intro w3 hs3 hx3 hB3
  have hz3 := hx3.size
  replace hC := hC.step hx3 (by simp; omega)
  replace hB0 := hB0.chg hx3 (by simp; omega)
  replace hW1 := hW1.chg hx3 (by assumption)
  replace hK1 := hK1.chg hx3 (by simp; omega)
  clear hB1; have hB1 := hB3; clear hB3
  refine EP.nil ?_
  refine EW.ret ?_
  refine Fin.cell rfl rfl (Blk.loadV ag158 (by assumption) (by simp only [List.take, List.drop, List.append, List.cons_append, List.nil_append]; rfl) rfl) ?_
  exact ⟨hC, T1, hW1, fun x hx => (hs1 x hx).imp id (fun h => by omega), hK1.wide (by omega) (by omega)⟩
theorem walk_empty : WalkC .empty := by
  intro p q kv T v F w hW hT hF hl
  obtain ⟨pn, rfl, hFp, hB0⟩ := hT
  have hC := Chg.refl T w
  have hTb := hW.mem
  have hpw := hW.lt
  have hbL := hW.mem
  have hnp := hF pn hFp
  try have hlB0 := hB0.lt
  refine enter Tryz.func97 rfl rfl ?_
  refine EW.seq ?_
  refine EW.reg ?_
  refine EP.new2 rfl (News.alloc zr158 rfl) ?_
  intro b1 w1 hb1 hs1 hx1 hB1
  have hz1 := hx1.size
  replace hC := hC.step0 hx1
  replace hW := hW.chg0 hx1
  replace hB0 := hB0.chg0 hx1
  refine EP.nil ?_
  refine EW.seq ?_
  refine EW.seq ?_
  refine EW.reg ?_
  refine EP.o rfl (Does.move rfl) ?_
  refine EP.o rfl (Does.nilCheck rfl) ?_
  refine EP.o rfl (Does.fieldAddr fl214_0 rfl) ?_
  refine EP.o rfl (Does.loadB o3 rfl (Keeps.now _) (by assumption) (by rfl)) ?_
  refine EP.nil ?_
  refine EW.block ?_
  refine EW.seq ?_
  refine EW.reg ?_
  refine EP.o rfl (Does.cmp rfl rfl rfl) ?_
  refine EP.o rfl (Does.assign rfl) ?_
  refine EP.nil ?_
  refine EW.condF (rfl) ?_
  refine EW.seq ?_
  refine EW.reg ?_
  refine EP.o rfl (Does.cmp rfl rfl rfl) ?_
  refine EP.o rfl (Does.assign rfl) ?_
  refine EP.nil ?_
  refine EW.condF (rfl) ?_
  refine EW.seq ?_
  refine EW.reg ?_
  refine EP.o rfl (Does.cmp rfl rfl rfl) ?_
  refine EP.o rfl (Does.assign rfl) ?_
  refine EP.nil ?_
  refine EW.condF (rfl) ?_
  refine EW.seq ?_
  refine EW.reg ?_
  refine EP.o rfl (Does.cmp rfl rfl rfl) ?_
  refine EP.o rfl (Does.assign rfl) ?_
  refine EP.nil ?_
  refine EW.condF (rfl) ?_
  refine EW.skip ?_
  refine EW.seq ?_
  refine EW.reg ?_
  refine EP.mmap2 ik rfl ?_
  intro b2 w2 hb2 hs2 hx2 hM2
  have hz2 := hx2.size
  replace hC := hC.step0 hx2
  replace hW := hW.chg0 hx2
  replace hB0 := hB0.chg0 hx2
  replace hB1 := hB1.chg0 hx2
  have hl2 := hM2.lt
  refine EP.mmap2 ik rfl ?_
  intro b3 w3 hb3 hs3 hx3 hM3
  have hz3 := hx3.size
  replace hC := hC.step0 hx3
  replace hW := hW.chg0 hx3
  replace hB0 := hB0.chg0 hx3
  replace hB1 := hB1.chg0 hx3
  replace hM2 := hM2.chg0 hx3
  have hl3 := hM3.lt
  refine EP.o rfl (Does.buildSL zr158 pl158 rfl (by rfl)) ?_
  refine EP.put2 (Puts.blk sz158 rfl rfl (by assumption) rfl rfl rfl rfl (by simp only [List.take, List.drop, List.append, List.cons_append, List.nil_append]; rfl)) ?_
  intro w4 hs4 hx4 hB4
  have hz4 := hx4.size
  replace hC := hC.step hx4 (by simp; omega)
  replace hW := hW.chg hx4 (by intro x hx; have h1 := hbL x hx; simp; omega)
  replace hB0 := hB0.chg hx4 (by simp; omega)
  replace hM2 := hM2.chg hx4 (by simp; omega)
  replace hM3 := hM3.chg hx4 (by simp; omega)
  clear hB1; have hB1 := hB4; clear hB4
  refine EP.nil ?_
  refine EW.ret ?_
  refine Fin.cell rfl rfl (Blk.loadV ag158 (by assumption) (by simp only [List.take, List.drop, List.append, List.cons_append, List.nil_append]; rfl) rfl) ?_
  exact ⟨hC, T, hW, fun x hx => .inl hx, b2, b3, rfl, ⟨_, hM2, bagL_nil _⟩, ⟨_, hM3, bagL_nil _⟩, ⟨by omega, hM2.lt⟩, ⟨by omega, hM3.lt⟩, fun h => by have := hTb _ h; omega, fun h => by have := hTb _ h; omega, by simp [walkF], by simp [walkF]⟩
theorem walk_cat (a b : Cor) (ca : WalkC a) (cb : WalkC b) : WalkC (.cat a b) := by
  intro p q kv T v F w hW hT hF hl
  obtain ⟨pn, va, vb, rfl, hFp, hB0, hta, htb⟩ := hT
  have hC := Chg.refl T w
  have hTb := hW.mem
  have hpw := hW.lt
  have hnp := hF pn hFp
  have hTF : ∀ x ∈ T, ¬ F x := fun x hx h => by have := hTb x hx; have := hF x h; omega
  have hls : q.S.length + ((setsC a).length + (setsC b).length) ≤ 1000000 := by simpa [setsC] using hl
  have hl1 := walkF_len a q
  have hl2 := walkF_len b (walkF a q).2
  try have hlB0 := hB0.lt
  refine enter Tryz.func97 rfl rfl ?_
  refine EW.seq ?_
  refine EW.reg ?_
  refine EP.new2 rfl (News.alloc zr158 rfl) ?_
  intro b1 w1 hb1 hs1 hx1 hB1
  have hz1 := hx1.size
  replace hC := hC.step0 hx1
  replace hW := hW.chg0 hx1
  replace hB0 := hB0.chg0 hx1
  replace hta := hta.chg0 hx1
  replace htb := htb.chg0 hx1
  refine EP.nil ?_
  refine EW.seq ?_
  refine EW.seq ?_
  refine EW.reg ?_
  refine EP.o rfl (Does.move rfl) ?_
  refine EP.o rfl (Does.nilCheck rfl) ?_
  refine EP.o rfl (Does.fieldAddr fl214_0 rfl) ?_
  refine EP.o rfl (Does.loadB o3 rfl (Keeps.now _) (by assumption) (by rfl)) ?_
  refine EP.nil ?_
  refine EW.block ?_
  refine EW.seq ?_
  refine EW.reg ?_
  refine EP.o rfl (Does.cmp rfl rfl rfl) ?_
  refine EP.o rfl (Does.assign rfl) ?_
  refine EP.nil ?_
  refine EW.condF (rfl) ?_
  refine EW.seq ?_
  refine EW.reg ?_
  refine EP.o rfl (Does.cmp rfl rfl rfl) ?_
  refine EP.o rfl (Does.assign rfl) ?_
  refine EP.nil ?_
  refine EW.condT (rfl) ?_
  refine EW.seq ?_
  refine EW.reg ?_
  refine EP.o rfl (Does.move rfl) ?_
  refine EP.o rfl (Does.move rfl) ?_
  refine EP.o rfl (Does.nilCheck rfl) ?_
  refine EP.o rfl (Does.fieldAddr fl214_3 rfl) ?_
  refine EP.o rfl (Does.loadB o67 rfl (Keeps.now _) (by assumption) (by rfl)) ?_
  refine EP.call2 rfl (Enters.fn fb97 rfl) (ca p q kv T va F _ hW hta hF (by omega)) ?_
  rintro v9 w2 ⟨hx2, T1, hW1, hs1, hK1⟩
  have hz2 := hx2.size
  replace hC := hC.step hx2 (by exact fun x h => .inl h)
  replace hB0 := hB0.chg hx2 (by intro h; have := hTb _ h; omega)
  replace hta := hta.chg hx2 (by assumption)
  replace htb := htb.chg hx2 (by assumption)
  replace hB1 := hB1.chg hx2 (by intro h; have := hTb _ h; omega)
  obtain ⟨f1, l1, rfl⟩ := hK1.val
  have hTn : ∀ x ∈ T1, x ∉ [b1] := fun x hx h => by simp at h; rcases hs1 x hx with h2 | h2; have := hTb x h2; omega; omega
  have hTm := hW1.mem
  have hTF1 : ∀ x ∈ T1, ¬ F x := fun x hx h => by have := hTm x hx; have := hF x h; omega
  have hb1n : b1 ∉ T1 := fun h => hTn _ h (by simp)
  have hpn1 : pn ∉ T1 := fun h => hTF1 _ h hFp
  have hbL := hTm
  refine EP.new2 rfl (News.alloc zr158 rfl) ?_
  intro b3 w3 hb3 hs3 hx3 hB3
  have hz3 := hx3.size
  replace hC := hC.step0 hx3
  replace hB0 := hB0.chg0 hx3
  replace hta := hta.chg0 hx3
  replace htb := htb.chg0 hx3
  replace hB1 := hB1.chg0 hx3
  replace hW1 := hW1.chg0 hx3
  replace hK1 := hK1.chg0 hx3
  refine EP.put2 (Puts.blk sz158 rfl rfl (by assumption) rfl rfl rfl rfl (by simp only [List.take, List.drop, List.append, List.cons_append, List.nil_append]; rfl)) ?_
  intro w4 hs4 hx4 hB4
  have hz4 := hx4.size
  replace hC := hC.step hx4 (by simp; omega)
  replace hB0 := hB0.chg hx4 (by simp; omega)
  replace hta := hta.chg hx4 (by intro b hb hFb; have := hF _ hFb; simp at hb; omega)
  replace htb := htb.chg hx4 (by intro b hb hFb; have := hF _ hFb; simp at hb; omega)
  replace hB1 := hB1.chg hx4 (by simp; omega)
  replace hW1 := hW1.chg hx4 (by intro x hx; have h1 := hbL x hx; simp; omega)
  replace hK1 := hK1.chg hx4 (by simp; omega)
  clear hB3; have hB3 := hB4; clear hB4
  refine EP.nil ?_
  refine EW.seq ?_
  refine EW.drw' (S := T1) 8 [(0, 0), (0, 1), (0, 2), (0, 3), (0, 4), (0, 5), (0, 6), (1, 7), (2, 8), (2, 9)] mo (by kernel_rfl) ?_
  intro w5 hx5 hh5
  have hz5 := hx5.size
  replace hC := hC.step0 hx5
  replace hB0 := hB0.chg0 hx5
  replace hta := hta.chg0 hx5
  replace htb := htb.chg0 hx5
  replace hB1 := hB1.chg0 hx5
  replace hW1 := hW1.chg0 hx5
  replace hK1 := hK1.chg0 hx5
  replace hB3 := hB3.chg0 hx5
  have hCS5 := Chg.refl (T1) w5
  have hb3n : b3 ∉ T1 := fun h => by have := hTm _ h; omega
  have hCT : ∀ x ∈ T1, x ∈ T ∨ w.heap.size ≤ x := fun x hx => (hs1 x hx).imp id (fun h => by omega)
  refine EP.f rfl (Does.move rfl) ?_
  refine EP.f rfl (Does.loadAc ag158 rfl (by assumption) (by assumption) (by simp only [List.take, List.drop, List.append, List.cons_append, List.nil_append]; rfl) rfl) ?_
  refine EP.f rfl (Does.move rfl) ?_
  refine EP.f rfl (Does.move rfl) ?_
  refine EP.f rfl (Does.nilCheck rfl) ?_
  refine EP.f rfl (Does.fieldAddr fl214_4 rfl) ?_
  refine EP.f rfl (Does.loadBc o67 rfl (by assumption) (by assumption) (by rfl)) ?_
  refine EP.call1 rfl (Enters.fn fb97 rfl) (cb p (walkF a q).2 kv T1 vb F _ hW1 htb hF (by omega)) ?_
  rintro v9 w6 ⟨hxb, T2, hW2, hs2, hK2⟩
  have hzb := hxb.size
  replace hC := hC.step hxb (by assumption)
  replace hB0 := hB0.chg hxb (by assumption)
  replace hta := hta.chg hxb (by assumption)
  replace htb := htb.chg hxb (by assumption)
  replace hB1 := hB1.chg hxb (by assumption)
  replace hB3 := hB3.chg hxb (by assumption)
  replace hCS5 := hCS5.step hxb (by exact fun x h => .inl h)
  refine ⟨hCS5, ?_⟩
  obtain ⟨f2, l2, rfl⟩ := hK2.val
  have hK1 := hK1.walk hxb hs2 (q := (walkF b (walkF a q).2).2) (by omega)
  have hb1m : b1 ∉ T2 := fun h => by rcases hs2 _ h with h | h; exact hb1n h; omega
  have hb3m : b3 ∉ T2 := fun h => by rcases hs2 _ h with h | h; exact hb3n h; omega
  have hpn2 : pn ∉ T2 := fun h => by rcases hs2 _ h with h | h; exact hpn1 h; omega
  have hTF2 : ∀ x ∈ T2, ¬ F x := fun x hx h => by rcases hs2 _ hx with h2 | h2; exact hTF1 x h2 h; have := hF x h; omega
  have hCT2 : ∀ x ∈ T2, x ∈ T ∨ w.heap.size ≤ x := fun x hx => by rcases hs2 _ hx with h2 | h2; exact hCT _ h2; exact .inr (by omega)
  refine EP.call2 rfl (Enters.fn fb133 rfl) (cat_c p (walkF b (walkF a q).2).2 kv T2 (walkF a q).1 (walkF b (walkF a q).2).1 _ _ w.heap.size (World.heap _).size _ hW2 (hK1.lts.wide (by omega) (Nat.le_refl _)) (hK2.lts.wide (by omega) (Nat.le_refl _))) ?_
  rintro v9 w7 ⟨hxc, hW3, hK3⟩
  have hzc := hxc.size
  replace hC := hC.step hxc (by assumption)
  replace hB0 := hB0.chg hxc (by assumption)
  replace hta := hta.chg hxc (by assumption)
  replace htb := htb.chg hxc (by assumption)
  replace hB1 := hB1.chg hxc (by assumption)
  replace hB3 := hB3.chg hxc (by assumption)
  obtain ⟨f3, l3, rfl⟩ := hK3.val
  have hTp : ∀ x ∈ T2, x ∉ [b1] := fun x hx h => by simp at h; rw [h] at hx; exact hb1m hx
  refine EP.put2 (Puts.blk sz158 rfl rfl (by assumption) rfl rfl rfl rfl (by simp only [List.take, List.drop, List.append, List.cons_append, List.nil_append]; rfl)) ?_
  intro w8 hs8 hx8 hB8
  have hz8 := hx8.size
  replace hC := hC.step hx8 (by simp; omega)
  replace hB0 := hB0.chg hx8 (by simp; omega)
  replace hta := hta.chg hx8 (by intro b hb hFb; have := hF _ hFb; simp at hb; omega)
  replace htb := htb.chg hx8 (by intro b hb hFb; have := hF _ hFb; simp at hb; omega)
  replace hB3 := hB3.chg hx8 (by simp; omega)
  replace hW3 := hW3.chg hx8 (by assumption)
  replace hK3 := hK3.chg hx8 (by simp; omega)
  clear hB1; have hB1 := hB8; clear hB8
  refine EP.nil ?_
  refine EW.ret ?_
  refine Fin.cell rfl rfl (Blk.loadV ag158 (by assumption) (by simp only [List.take, List.drop, List.append, List.cons_append, List.nil_append]; rfl) rfl) ?_
  exact ⟨hC, T2, hW3, hCT2, hK3.wide (by omega) (by omega)⟩
theorem walk_alt (a b : Cor) (ca : WalkC a) (cb : WalkC b) : WalkC (.alt a b) := by
  intro p q kv T v F w hW hT hF hl
  obtain ⟨pn, va, vb, rfl, hFp, hB0, hta, htb⟩ := hT
  have hC := Chg.refl T w
  have hTb := hW.mem
  have hpw := hW.lt
  have hnp := hF pn hFp
  have hTF : ∀ x ∈ T, ¬ F x := fun x hx h => by have := hTb x hx; have := hF x h; omega
  have hls : q.S.length + ((setsC a).length + (setsC b).length) ≤ 1000000 := by simpa [setsC] using hl
  have hl1 := walkF_len a q
  have hl2 := walkF_len b (walkF a q).2
  try have hlB0 := hB0.lt
  refine enter Tryz.func97 rfl rfl ?_
  refine EW.seq ?_
  refine EW.reg ?_
  refine EP.new2 rfl (News.alloc zr158 rfl) ?_
  intro b1 w1 hb1 hs1 hx1 hB1
  have hz1 := hx1.size
  replace hC := hC.step0 hx1
  replace hW := hW.chg0 hx1
  replace hB0 := hB0.chg0 hx1
  replace hta := hta.chg0 hx1
  replace htb := htb.chg0 hx1
  refine EP.nil ?_
  refine EW.seq ?_
  refine EW.seq ?_
  refine EW.reg ?_
  refine EP.o rfl (Does.move rfl) ?_
  refine EP.o rfl (Does.nilCheck rfl) ?_
  refine EP.o rfl (Does.fieldAddr fl214_0 rfl) ?_
  refine EP.o rfl (Does.loadB o3 rfl (Keeps.now _) (by assumption) (by rfl)) ?_
  refine EP.nil ?_
  refine EW.block ?_
  refine EW.seq ?_
  refine EW.reg ?_
  refine EP.o rfl (Does.cmp rfl rfl rfl) ?_
  refine EP.o rfl (Does.assign rfl) ?_
  refine EP.nil ?_
  refine EW.condF (rfl) ?_
  refine EW.seq ?_
  refine EW.reg ?_
  refine EP.o rfl (Does.cmp rfl rfl rfl) ?_
  refine EP.o rfl (Does.assign rfl) ?_
  refine EP.nil ?_
  refine EW.condF (rfl) ?_
  refine EW.seq ?_
  refine EW.reg ?_
  refine EP.o rfl (Does.cmp rfl rfl rfl) ?_
  refine EP.o rfl (Does.assign rfl) ?_
  refine EP.nil ?_
  refine EW.condT (rfl) ?_
  refine EW.seq ?_
  refine EW.reg ?_
  refine EP.o rfl (Does.move rfl) ?_
  refine EP.o rfl (Does.move rfl) ?_
  refine EP.o rfl (Does.nilCheck rfl) ?_
  refine EP.o rfl (Does.fieldAddr fl214_3 rfl) ?_
  refine EP.o rfl (Does.loadB o67 rfl (Keeps.now _) (by assumption) (by rfl)) ?_
  refine EP.call2 rfl (Enters.fn fb97 rfl) (ca p q kv T va F _ hW hta hF (by omega)) ?_
  rintro v9 w2 ⟨hx2, T1, hW1, hs1, hK1⟩
  have hz2 := hx2.size
  replace hC := hC.step hx2 (by exact fun x h => .inl h)
  replace hB0 := hB0.chg hx2 (by intro h; have := hTb _ h; omega)
  replace hta := hta.chg hx2 (by assumption)
  replace htb := htb.chg hx2 (by assumption)
  replace hB1 := hB1.chg hx2 (by intro h; have := hTb _ h; omega)
  obtain ⟨f1, l1, rfl⟩ := hK1.val
  have hTn : ∀ x ∈ T1, x ∉ [b1] := fun x hx h => by simp at h; rcases hs1 x hx with h2 | h2; have := hTb x h2; omega; omega
  have hTm := hW1.mem
  have hTF1 : ∀ x ∈ T1, ¬ F x := fun x hx h => by have := hTm x hx; have := hF x h; omega
  have hb1n : b1 ∉ T1 := fun h => hTn _ h (by simp)
  have hpn1 : pn ∉ T1 := fun h => hTF1 _ h hFp
  have hbL := hTm
  have hTb := hTm
  have hCT : ∀ x ∈ T1, x ∈ T ∨ w.heap.size ≤ x := fun x hx => (hs1 x hx).imp id (fun h => by omega)
  refine EP.new2 rfl (News.alloc zr158 rfl) ?_
  intro b3 w3 hb3 hs3 hx3 hB3
  have hz3 := hx3.size
  replace hC := hC.step0 hx3
  replace hB0 := hB0.chg0 hx3
  replace hta := hta.chg0 hx3
  replace htb := htb.chg0 hx3
  replace hB1 := hB1.chg0 hx3
  replace hW1 := hW1.chg0 hx3
  replace hK1 := hK1.chg0 hx3
  refine EP.put2 (Puts.blk sz158 rfl rfl (by assumption) rfl rfl rfl rfl (by simp only [List.take, List.drop, List.append, List.cons_append, List.nil_append]; rfl)) ?_
  intro w4 hs4 hx4 hB4
  have hz4 := hx4.size
  replace hC := hC.step hx4 (by simp; omega)
  replace hB0 := hB0.chg hx4 (by simp; omega)
  replace hta := hta.chg hx4 (by intro b hb hFb; have := hF _ hFb; simp at hb; omega)
  replace htb := htb.chg hx4 (by intro b hb hFb; have := hF _ hFb; simp at hb; omega)
  replace hB1 := hB1.chg hx4 (by simp; omega)
  replace hW1 := hW1.chg hx4 (by intro x hx; have h1 := hbL x hx; simp; omega)
  replace hK1 := hK1.chg hx4 (by simp; omega)
  clear hB3; have hB3 := hB4; clear hB4
  refine EP.nil ?_
  refine EW.seq ?_
  refine EW.reg ?_
  have hb3n : b3 ∉ T1 := fun h => by have := hTm _ h; omega
  refine EP.o rfl (Does.move rfl) ?_
  refine EP.o rfl (Does.move rfl) ?_
  refine EP.o rfl (Does.nilCheck rfl) ?_
  refine EP.o rfl (Does.fieldAddr fl214_4 rfl) ?_
  refine EP.o rfl (Does.loadB o67 rfl (Keeps.now _) (by assumption) (by rfl)) ?_
  refine EP.call2 rfl (Enters.fn fb97 rfl) (cb p (walkF a q).2 kv T1 vb F _ hW1 htb hF (by omega)) ?_
  rintro v9 w5 ⟨hxb, T2, hW2, hs2, hK2⟩
  have hzb := hxb.size
  replace hC := hC.step hxb (by assumption)
  replace hB0 := hB0.chg hxb (by assumption)
  replace hta := hta.chg hxb (by assumption)
  replace htb := htb.chg hxb (by assumption)
  replace hB1 := hB1.chg hxb (by assumption)
  replace hB3 := hB3.chg hxb (by assumption)
  obtain ⟨f2, l2, rfl⟩ := hK2.val
  have hK1 := hK1.walk hxb hs2 (q := (walkF b (walkF a q).2).2) (by omega)
  have hTm2 := hW2.mem
  have hb1m : b1 ∉ T2 := fun h => by rcases hs2 _ h with h | h; exact hb1n h; omega
  have hb3m : b3 ∉ T2 := fun h => by rcases hs2 _ h with h | h; exact hb3n h; omega
  have hpn2 : pn ∉ T2 := fun h => by rcases hs2 _ h with h | h; exact hpn1 h; omega
  have hTF2 : ∀ x ∈ T2, ¬ F x := fun x hx h => by rcases hs2 _ hx with h2 | h2; exact hTF1 x h2 h; have := hF x h; omega
  have hCT2 : ∀ x ∈ T2, x ∈ T ∨ w.heap.size ≤ x := fun x hx => by rcases hs2 _ hx with h2 | h2; exact hCT _ h2; exact .inr (by omega)
  have hbL := hTm2
  refine EP.new2 rfl (News.alloc zr158 rfl) ?_
  intro b6 w6 hb6 hs6 hx6 hB6
  have hz6 := hx6.size
  replace hC := hC.step0 hx6
  replace hB0 := hB0.chg0 hx6
  replace hta := hta.chg0 hx6
  replace htb := htb.chg0 hx6
  replace hB1 := hB1.chg0 hx6
  replace hB3 := hB3.chg0 hx6
  replace hW2 := hW2.chg0 hx6
  replace hK1 := hK1.chg0 hx6
  replace hK2 := hK2.chg0 hx6
  refine EP.put2 (Puts.blk sz158 rfl rfl (by assumption) rfl rfl rfl rfl (by simp only [List.take, List.drop, List.append, List.cons_append, List.nil_append]; rfl)) ?_
  intro w7 hs7 hx7 hB7
  have hz7 := hx7.size
  replace hC := hC.step hx7 (by simp; omega)
  replace hB0 := hB0.chg hx7 (by simp; omega)
  replace hta := hta.chg hx7 (by intro b hb hFb; have := hF _ hFb; simp at hb; omega)
  replace htb := htb.chg hx7 (by intro b hb hFb; have := hF _ hFb; simp at hb; omega)
  replace hB1 := hB1.chg hx7 (by simp; omega)
  replace hB3 := hB3.chg hx7 (by simp; omega)
  replace hW2 := hW2.chg hx7 (by intro x hx; have h1 := hbL x hx; simp; omega)
  replace hK1 := hK1.chg hx7 (by simp; omega)
  replace hK2 := hK2.chg hx7 (by simp; omega)
  clear hB6; have hB6 := hB7; clear hB7
  refine EP.nil ?_
  refine EW.seq ?_
  refine EW.drw' (S := []) 15 [(0, 0), (0, 1), (0, 2), (0, 3), (0, 6), (0, 7), (0, 8), (0, 9), (0, 11), (0, 12), (0, 13), (0, 14), (1, 4), (1, 5), (1, 10), (2, 15), (2, 16), (2, 17)] mo (by kernel_rfl) ?_
  intro w8 hx8 hh8
  have hz8 := hx8.size
  replace hC := hC.step0 hx8
  replace hB0 := hB0.chg0 hx8
  replace hta := hta.chg0 hx8
  replace htb := htb.chg0 hx8
  replace hB1 := hB1.chg0 hx8
  replace hB3 := hB3.chg0 hx8
  replace hW2 := hW2.chg0 hx8
  replace hK1 := hK1.chg0 hx8
  replace hK2 := hK2.chg0 hx8
  replace hB6 := hB6.chg0 hx8
  have hCS8 := Chg.refl ([]) w8
  have hr1 := hK1.bags
  have hr2 := hK2.bags
  refine EP.f rfl (Does.fieldAddr fl158_0 rfl) ?_
  refine EP.f rfl (Does.loadBc o3 rfl (by assumption) (by simp; done) (by rfl)) ?_
  refine EP.f rfl (Does.fieldAddr fl158_0 rfl) ?_
  refine EP.f rfl (Does.loadBc o3 rfl (by assumption) (by simp; done) (by rfl)) ?_
  refine EP.f rfl (Does.fieldAddr fl158_1 rfl) ?_
  refine EP.f rfl (Does.loadBc o156 rfl (by assumption) (by simp; done) (by rfl)) ?_
  refine EP.f rfl (Does.fieldAddr fl158_1 rfl) ?_
  refine EP.f rfl (Does.loadBc o156 rfl (by assumption) (by simp; done) (by rfl)) ?_
  refine EP.f rfl (Does.fieldAddr fl158_2 rfl) ?_
  refine EP.f rfl (Does.loadBc o156 rfl (by assumption) (by simp; done) (by rfl)) ?_
  refine EP.f rfl (Does.fieldAddr fl158_2 rfl) ?_
  refine EP.f rfl (Does.loadBc o156 rfl (by assumption) (by simp; done) (by rfl)) ?_
  refine EP.new1 rfl (News.buildL sl24 Tryz.underlying24 zr3 rfl rfl rfl (by rfl)) ?_
  intro b9 w9 hb9 hs9 hx9 hB9
  have hz9 := hx9.size
  replace hC := hC.step0 hx9
  replace hB0 := hB0.chg0 hx9
  replace hta := hta.chg0 hx9
  replace htb := htb.chg0 hx9
  replace hB1 := hB1.chg0 hx9
  replace hB3 := hB3.chg0 hx9
  replace hW2 := hW2.chg0 hx9
  replace hK1 := hK1.chg0 hx9
  replace hK2 := hK2.chg0 hx9
  replace hB6 := hB6.chg0 hx9
  replace hCS8 := hCS8.step0 hx9
  refine ⟨hCS8, ?_⟩
  refine EP.call1 rfl (Enters.fn fb46 rfl) (addL_c [(walkF a q).1.void, (walkF b (walkF a q).2).1.void] _ _ _ _ _ (by assumption) rfl (by intro x hx; simp at hx; omega) (by simp)) ?_
  rintro _ _ ⟨rfl, rfl⟩
  refine ⟨hCS8, ?_⟩
  refine EP.call1 rfl (Enters.fn fb134 rfl) (bagsum_c f1 f2 _ _ _ 1 _ hK1.bags.1 hK2.bags.1 (by omega)) ?_
  rintro _ w11 ⟨hx11, o1, rfl, ho1, hS1'⟩
  have hz11 := hx11.size
  replace hC := hC.step0 hx11
  replace hB0 := hB0.chg0 hx11
  replace hta := hta.chg0 hx11
  replace htb := htb.chg0 hx11
  replace hB1 := hB1.chg0 hx11
  replace hB3 := hB3.chg0 hx11
  replace hW2 := hW2.chg0 hx11
  replace hK1 := hK1.chg0 hx11
  replace hK2 := hK2.chg0 hx11
  replace hB6 := hB6.chg0 hx11
  replace hCS8 := hCS8.step0 hx11
  replace hB9 := hB9.chg0 hx11
  have hS1 := hS1'; clear hS1'
  refine ⟨hCS8, ?_⟩
  refine EP.call2 rfl (Enters.fn fb134 rfl) (bagsum_c l1 l2 _ _ _ 1 _ hK1.bags.2.1 hK2.bags.2.1 (by omega)) ?_
  rintro _ w12 ⟨hx12, o2, rfl, ho2, hS2'⟩
  have hz12 := hx12.size
  replace hC := hC.step0 hx12
  replace hB0 := hB0.chg0 hx12
  replace hta := hta.chg0 hx12
  replace htb := htb.chg0 hx12
  replace hB1 := hB1.chg0 hx12
  replace hB3 := hB3.chg0 hx12
  replace hW2 := hW2.chg0 hx12
  replace hK1 := hK1.chg0 hx12
  replace hK2 := hK2.chg0 hx12
  replace hB6 := hB6.chg0 hx12
  replace hB9 := hB9.chg0 hx12
  replace hS1 := hS1.chg0 hx12
  have hS2 := hS2'; clear hS2'
  have hl3 := hS1.lt
  have hl4 := hS2.lt
  have hTm3 : ∀ x ∈ T2, x ∉ [b1] := fun x hx h => by simp at h; rw [h] at hx; exact hb1m hx
  refine EP.o rfl (Does.buildSL zr158 pl158 rfl (by rfl)) ?_
  refine EP.put2 (Puts.blk sz158 rfl rfl (by assumption) rfl rfl rfl rfl (by simp only [List.take, List.drop, List.append, List.cons_append, List.nil_append]; rfl)) ?_
  intro w13 hs13 hx13 hB13
  have hz13 := hx13.size
  replace hC := hC.step hx13 (by simp; omega)
  replace hB0 := hB0.chg hx13 (by simp; omega)
  replace hta := hta.chg hx13 (by intro b hb hFb; have := hF _ hFb; simp at hb; omega)
  replace htb := htb.chg hx13 (by intro b hb hFb; have := hF _ hFb; simp at hb; omega)
  replace hB3 := hB3.chg hx13 (by simp; omega)
  replace hW2 := hW2.chg hx13 (by assumption)
  replace hK1 := hK1.chg hx13 (by simp; omega)
  replace hK2 := hK2.chg hx13 (by simp; omega)
  replace hB6 := hB6.chg hx13 (by simp; omega)
  replace hB9 := hB9.chg hx13 (by simp; omega)
  replace hS1 := hS1.chg hx13 (by simp; omega)
  replace hS2 := hS2.chg hx13 (by simp; omega)
  clear hB1; have hB1 := hB13; clear hB13
  refine EP.nil ?_
  refine EW.ret ?_
  refine Fin.cell rfl rfl (Blk.loadV ag158 (by assumption) (by simp only [List.take, List.drop, List.append, List.cons_append, List.nil_append]; rfl) rfl) ?_
  refine ⟨hC, T2, hW2, hCT2, o1, o2, ?_, hS1, hS2, ⟨by omega, by omega⟩, ⟨by omega, by omega⟩, fun h => by have := hTm2 _ h; omega, fun h => by have := hTm2 _ h; omega, (sadd_range _ _).1, (sadd_range _ _).2⟩
  rw [sumM_two _ _ hr1.2.2.2.2.2.2.1 hr1.2.2.2.2.2.2.2]
  rfl
theorem walk_star (lz : Bool) (a : Cor) (ca : WalkC a) : WalkC (.star lz a) := by
  intro p q kv T v F w hW hT hF hl
  obtain ⟨pn, va, rfl, hFp, hB0, hta⟩ := hT
  have hC := Chg.refl T w
  have hTb := hW.mem
  have hpw := hW.lt
  have hnp := hF pn hFp
  have hTF : ∀ x ∈ T, ¬ F x := fun x hx h => by have := hTb x hx; have := hF x h; omega
  have hls : q.S.length + (setsC a).length ≤ 1000000 := by simpa [setsC] using hl
  have hl1 := walkF_len a q
  try have hlB0 := hB0.lt
  refine enter Tryz.func97 rfl rfl ?_
  refine EW.seq ?_
  refine EW.reg ?_
  refine EP.new2 rfl (News.alloc zr158 rfl) ?_
  intro b1 w1 hb1 hs1 hx1 hB1
  have hz1 := hx1.size
  replace hC := hC.step0 hx1
  replace hW := hW.chg0 hx1
  replace hB0 := hB0.chg0 hx1
  refine EP.nil ?_
  refine EW.seq ?_
  refine EW.seq ?_
  refine EW.reg ?_
  refine EP.o rfl (Does.move rfl) ?_
  refine EP.o rfl (Does.nilCheck rfl) ?_
  refine EP.o rfl (Does.fieldAddr fl214_0 rfl) ?_
  refine EP.o rfl (Does.loadB o3 rfl (Keeps.now _) (by assumption) (by rfl)) ?_
  refine EP.nil ?_
  refine EW.block ?_
  refine EW.seq ?_
  refine EW.reg ?_
  refine EP.o rfl (Does.cmp rfl rfl rfl) ?_
  refine EP.o rfl (Does.assign rfl) ?_
  refine EP.nil ?_
  refine EW.condF (rfl) ?_
  refine EW.seq ?_
  refine EW.reg ?_
  refine EP.o rfl (Does.cmp rfl rfl rfl) ?_
  refine EP.o rfl (Does.assign rfl) ?_
  refine EP.nil ?_
  refine EW.condF (rfl) ?_
  refine EW.seq ?_
  refine EW.reg ?_
  refine EP.o rfl (Does.cmp rfl rfl rfl) ?_
  refine EP.o rfl (Does.assign rfl) ?_
  refine EP.nil ?_
  refine EW.condF (rfl) ?_
  refine EW.seq ?_
  refine EW.reg ?_
  refine EP.o rfl (Does.cmp rfl rfl rfl) ?_
  refine EP.o rfl (Does.assign rfl) ?_
  refine EP.nil ?_
  refine EW.condT (rfl) ?_
  refine EW.seq ?_
  refine EW.reg ?_
  refine EP.o rfl (Does.move rfl) ?_
  refine EP.o rfl (Does.move rfl) ?_
  refine EP.o rfl (Does.nilCheck rfl) ?_
  refine EP.o rfl (Does.fieldAddr fl214_3 rfl) ?_
  refine EP.o rfl (Does.loadB o67 rfl (Keeps.now _) (by assumption) (by rfl)) ?_
  refine EP.call2 rfl (Enters.fn fb97 rfl) (ca p q kv T va F _ hW (hta.chg0 (by assumption)) hF (by omega)) ?_
  rintro v9 w2 ⟨hx2, T1, hW1, hs1, hK1⟩
  have hz2 := hx2.size
  replace hC := hC.step hx2 (by exact fun x h => .inl h)
  replace hB0 := hB0.chg hx2 (by intro h; have := hTb _ h; omega)
  replace hB1 := hB1.chg hx2 (by intro h; have := hTb _ h; omega)
  obtain ⟨f1, l1, rfl⟩ := hK1.val
  have hTn : ∀ x ∈ T1, x ∉ [b1] := fun x hx h => by simp at h; rcases hs1 x hx with h2 | h2; have := hTb x h2; omega; omega
  have hTm := hW1.mem
  have hTF1 : ∀ x ∈ T1, ¬ F x := fun x hx h => by have := hTm x hx; have := hF x h; omega
  have hb1n : b1 ∉ T1 := fun h => hTn _ h (by simp)
  have hpn1 : pn ∉ T1 := fun h => hTF1 _ h hFp
  have hbL := hTm
  have hCT : ∀ x ∈ T1, x ∈ T ∨ w.heap.size ≤ x := fun x hx => (hs1 x hx).imp id (fun h => by omega)
  refine EP.new2 rfl (News.alloc zr158 rfl) ?_
  intro b3 w3 hb3 hs3 hx3 hB3
  have hz3 := hx3.size
  replace hC := hC.step0 hx3
  replace hB0 := hB0.chg0 hx3
  replace hB1 := hB1.chg0 hx3
  replace hW1 := hW1.chg0 hx3
  replace hK1 := hK1.chg0 hx3
  refine EP.put2 (Puts.blk sz158 rfl rfl (by assumption) rfl rfl rfl rfl (by simp only [List.take, List.drop, List.append, List.cons_append, List.nil_append]; rfl)) ?_
  intro w4 hs4 hx4 hB4
  have hz4 := hx4.size
  replace hC := hC.step hx4 (by simp; omega)
  replace hB0 := hB0.chg hx4 (by simp; omega)
  replace hB1 := hB1.chg hx4 (by simp; omega)
  replace hW1 := hW1.chg hx4 (by intro x hx; have h1 := hbL x hx; simp; omega)
  replace hK1 := hK1.chg hx4 (by simp; omega)
  clear hB3; have hB3 := hB4; clear hB4
  refine EP.nil ?_
  refine EW.seq ?_
  refine EW.reg ?_
  have hb3n : b3 ∉ T1 := fun h => by have := hTm _ h; omega
  have hr1 := hK1.bags
  refine EP.o rfl (Does.move rfl) ?_
  refine EP.o rfl (Does.fieldAddr fl158_2 rfl) ?_
  refine EP.o rfl (Does.loadB o156 rfl (Keeps.now _) (by assumption) (by rfl)) ?_
  refine EP.o rfl (Does.fieldAddr fl158_1 rfl) ?_
  refine EP.o rfl (Does.loadB o156 rfl (Keeps.now _) (by assumption) (by rfl)) ?_
  refine EP.call2 rfl (Enters.fn fb135 rfl) (link_c p (walkF a q).2 kv T1 l1 f1 (walkF a q).1.last (walkF a q).1.first _ hW1 hr1.2.1 hr1.1 hr1.2.2.2.2.2.1 hr1.2.2.2.2.1) ?_
  rintro _ w5 ⟨hx5, hW2⟩
  have hz5 := hx5.size
  replace hC := hC.step hx5 (by assumption)
  replace hB0 := hB0.chg hx5 (by assumption)
  replace hB1 := hB1.chg hx5 (by assumption)
  replace hK1 := hK1.chg hx5 (by simp; done)
  replace hB3 := hB3.chg hx5 (by assumption)
  have hTm2 : ∀ x ∈ T1, x ∉ [b1] := hTn
  refine EP.nil ?_
  refine EW.seq ?_
  refine EW.reg ?_
  refine EP.o rfl (Does.fieldAddr fl158_1 rfl) ?_
  refine EP.o rfl (Does.loadB o156 rfl (Keeps.now _) (by assumption) (by rfl)) ?_
  refine EP.o rfl (Does.fieldAddr fl158_2 rfl) ?_
  refine EP.o rfl (Does.loadB o156 rfl (Keeps.now _) (by assumption) (by rfl)) ?_
  refine EP.o rfl (Does.buildSL zr158 pl158 rfl (by rfl)) ?_
  refine EP.put2 (Puts.blk sz158 rfl rfl (by assumption) rfl rfl rfl rfl (by simp only [List.take, List.drop, List.append, List.cons_append, List.nil_append]; rfl)) ?_
  intro w6 hs6 hx6 hB6
  have hz6 := hx6.size
  replace hC := hC.step hx6 (by simp; omega)
  replace hB0 := hB0.chg hx6 (by simp; omega)
  replace hK1 := hK1.chg hx6 (by simp; omega)
  replace hB3 := hB3.chg hx6 (by simp; omega)
  replace hW2 := hW2.chg hx6 (by assumption)
  clear hB1; have hB1 := hB6; clear hB6
  refine EP.nil ?_
  refine EW.ret ?_
  refine Fin.cell rfl rfl (Blk.loadV ag158 (by assumption) (by simp only [List.take, List.drop, List.append, List.cons_append, List.nil_append]; rfl) rfl) ?_
  have hr2 := hK1.bags
  exact ⟨hC, T1, hW2, hCT, f1, l1, rfl, hr2.1, hr2.2.1, ⟨by omega, hr2.1.lt⟩, ⟨by omega, hr2.2.1.lt⟩, hr2.2.2.2.2.1, hr2.2.2.2.2.2.1, by simp [walkF], by simp [walkF]⟩
theorem walk_c : ∀ (t : Cor), WalkC t
  | .empty => walk_empty
  | .set s => walk_set s
  | .cat a b => walk_cat a b (walk_c a) (walk_c b)
  | .alt a b => walk_alt a b (walk_c a) (walk_c b)
  | .star lz a => walk_star lz a (walk_c a)
end Go.Clt
end
section
set_option linter.unusedVariables false
set_option linter.unusedSimpArgs false
set_option maxRecDepth 4000
namespace Go.Clt
set_option maxHeartbeats 4000000
open Go Go.RowKit Go.Proofs
structure WeiM (F : Nat → Prop) (w : World) (p : Nat) (k : Kn) (q : Wst) (x1 x2 : Nat) (A : Option Addr) (c : Nat) (A2 : Option Addr) (c2 : Nat) (bs : List Nat) : Prop where
  blk : Blk w p [.int .i64 k.void, .map (some x1), .map (some x2), .slice A q.S.length c, .slice A2 q.S.length c2] 161
  fp : F p
  rs : Rd F w 4 A q.S.length (setsCells q.S)
  rf : Rd F w 1 A2 q.S.length (mapsV bs)
  gb : GB w bs q.G q.S.length
  gl : q.G.length = q.S.length
  fb : ∀ x ∈ bs, F x
  bf : Bag w x1 k.first q.S.length
  bl : Bag w x2 k.last q.S.length
  f1 : F x1
  f2 : F x2
  v0 : 0 ≤ k.void
  v1 : k.void ≤ 9223372036854775807
def IsWei (F : Nat → Prop) (w : World) (p : Nat) (k : Kn) (q : Wst) : Prop := ∃ x1 x2 A c A2 c2 bs, WeiM F w p k q x1 x2 A c A2 c2 bs
theorem IsWei.chg {F : Nat → Prop} {w w' : World} {p : Nat} {k : Kn} {q : Wst} {S : List Nat} (h : IsWei F w p k q) (c : Chg S w w') (hS : ∀ b ∈ S, ¬ F b) : IsWei F w' p k q := by
  obtain ⟨x1, x2, A, c1, A2, c2, bs, h⟩ := h
  exact ⟨x1, x2, A, c1, A2, c2, bs, h.blk.chg c (fun hm => hS _ hm h.fp), h.fp, h.rs.chg c hS, h.rf.chg c hS, h.gb.chg c (fun x hx hm => hS _ hm (h.fb x hx)), h.gl, h.fb, h.bf.chg c (fun hm => hS _ hm h.f1), h.bl.chg c (fun hm => hS _ hm h.f2), h.f1, h.f2, h.v0, h.v1⟩
theorem IsWei.chg0 {F : Nat → Prop} {w w' : World} {p : Nat} {k : Kn} {q : Wst} (h : IsWei F w p k q) (c : Chg [] w w') : IsWei F w' p k q := h.chg c (by simp)
theorem IsWei.mono {F F' : Nat → Prop} {w : World} {p : Nat} {k : Kn} {q : Wst} (h : IsWei F w p k q) (hF : ∀ b, F b → b < w.heap.size → F' b) : IsWei F' w p k q := by
  obtain ⟨x1, x2, A, c1, A2, c2, bs, h⟩ := h
  exact ⟨x1, x2, A, c1, A2, c2, bs, h.blk, hF _ h.fp h.blk.lt, h.rs.mono hF, h.rf.mono hF, h.gb, h.gl, fun x hx => hF _ (h.fb x hx) (h.gb.lt x hx), h.bf, h.bl, hF _ h.f1 h.bf.lt, hF _ h.f2 h.bl.lt, h.v0, h.v1⟩
theorem IsWei.lt {F : Nat → Prop} {w : World} {p : Nat} {k : Kn} {q : Wst} (h : IsWei F w p k q) : p < w.heap.size := by
  obtain ⟨x1, x2, A, c1, A2, c2, bs, h⟩ := h; exact h.blk.lt
def weighF (t : Cor) : Kn × Wst := walkF t ⟨[], []⟩
theorem weighF_S (t : Cor) : (weighF t).2.S = setsC t := by unfold weighF; rw [walkF_S]; rfl
theorem wnew_c (t : Cor) (v : Value) (F : Nat → Prop) (w : World) (hT : IsCor F w t v) (hF : ∀ x, F x → x < w.heap.size) (hl : (setsC t).length ≤ 1000000) :
    Calls P 62 #[v] w (Ret fun u w' => Chg [] w w' ∧ (600 < (setsC t).length → u = .tuple #[.pointer none, .int .i64 3]) ∧ ((setsC t).length ≤ 600 → ∃ p, u = .tuple #[.pointer (some ⟨p, 0, none⟩), .int .i64 0] ∧ IsWei (FR w.heap.size w'.heap.size []) w' p (weighF t).1 (weighF t).2)) := by
  have hC := Chg.refl [] w
  obtain ⟨pv, rfl⟩ := hT.ptr
  refine enter Tryz.func62 rfl rfl ?_
  refine EW.seq ?_
  refine EW.reg ?_
  refine EP.o rfl (Does.assign rfl) ?_
  refine EP.o rfl (Does.assign rfl) ?_
  refine EP.nil ?_
  refine EW.seq ?_
  refine EW.block ?_
  refine EW.seq ?_
  refine EW.reg ?_
  refine EP.o rfl (Does.move rfl) ?_
  refine EP.o rfl (Does.eqPtr Tryz.underlying67 rfl rfl) ?_
  refine EP.o rfl (Does.assign rfl) ?_
  refine EP.nil ?_
  refine EW.cond rfl (fun h0 => ?_) (fun h0 => ?_)
  · try simp at h0
    all_goals cases h0
  · try simp at h0
    refine EW.seq ?_
    refine EW.reg ?_
    refine EP.o rfl (Does.move rfl) ?_
    refine EP.call2 rfl (Enters.fn fb96 rfl) (sets_c t _ F _ hT hl) ?_
    rintro _ w1 ⟨hx1, A0, c0, rfl, hO0⟩
    have hz1 := hx1.size
    replace hC := hC.step0 hx1
    replace hT := hT.chg0 hx1
    refine EP.o rfl (Does.lenL Tryz.underlying23 rfl) ?_
    refine EP.o rfl (Does.cmp rfl rfl rfl) ?_
    refine EP.o rfl (Does.assign rfl) ?_
    refine EP.nil ?_
    refine EW.cond rfl (fun h1 => ?_) (fun h1 => ?_)
    · try simp at h1
      refine EW.seq ?_
      refine EW.reg ?_
      refine EP.o rfl (Does.assign rfl) ?_
      refine EP.o rfl (Does.assign rfl) ?_
      refine EP.nil ?_
      refine EW.ret ?_
      refine Fin.two rfl rfl rfl ?_
      exact ⟨hC, fun _ => rfl, fun h => by omega⟩
    · try simp at h1
      refine EW.skip ?_
      refine EW.seq ?_
      refine EW.reg ?_
      refine EP.o rfl (Does.buildSL zr161 pl161 rfl (by rfl)) ?_
      refine EP.new2 rfl (News.box rfl rfl) ?_
      intro b2 w2 hb2 hs2 hx2 hB2
      have hz2 := hx2.size
      replace hC := hC.step0 hx2
      replace hT := hT.chg0 hx2
      have hW0 : IsW w2 b2 ⟨[], []⟩ [.int .i64 0, .map none, .map none] [b2] := ⟨none, 0, none, 0, [], ⟨hB2, rfl, Own.nil _ _ _ _, Own.nil _ _ _ _, ⟨rfl, fun i hi => by simp at hi⟩, rfl, List.nodup_nil, by simp⟩, by simp [wT, blkOf]⟩
      refine EP.o rfl (Does.assign rfl) ?_
      refine EP.nil ?_
      refine EW.seq ?_
      refine EW.reg ?_
      refine EP.o rfl (Does.move rfl) ?_
      refine EP.o rfl (Does.move rfl) ?_
      refine EP.o rfl (Does.move rfl) ?_
      refine EP.call2 rfl (Enters.fn fb97 rfl) (walk_c t b2 ⟨[], []⟩ _ [b2] _ F _ hW0 hT (fun x hx => by have := hF x hx; omega) (by simpa using hl)) ?_
      rintro v9 w3 ⟨hxa, T', hW', hs', hK'⟩
      have hza := hxa.size
      replace hC := hC.step hxa (by simp; omega)
      replace hT := hT.chg hxa (by intro b hb hFb; have := hF _ hFb; simp at hb; omega)
      obtain ⟨f1, l1, rfl⟩ := hK'.val
      obtain ⟨A, c, A2, c2, bs, hK, rfl⟩ := hW'
      have hr := hK'.bags
      have hmm := hK.mem
      obtain ⟨hB0, _, hO, hO2, hG, hgl, hnd, hlo⟩ := hK
      have hfn1 : f1 ≠ b2 := fun e => hr.2.2.2.2.1 (by rw [e]; exact wT_mem.2 (.inl rfl))
      have hln1 : l1 ≠ b2 := fun e => hr.2.2.2.2.2.1 (by rw [e]; exact wT_mem.2 (.inl rfl))
      have hK1 := hr.1
      have hK2 := hr.2.1
      have hbL : ∀ x ∈ bs, b2 < x := hlo
      try have hlB0 := hB0.lt
      refine EP.o rfl (Does.nilCheck rfl) ?_
      refine EP.o rfl (Does.fieldAddr fl161_0 rfl) ?_
      refine EP.put2 (Puts.blk sz158 rfl rfl (by assumption) rfl rfl rfl rfl (by simp only [List.take, List.drop, List.append, List.cons_append, List.nil_append]; rfl)) ?_
      intro w4 hs4 hx4 hB4
      have hz4 := hx4.size
      replace hC := hC.step hx4 (by simp; omega)
      replace hO := (by exact hO.chg hx4 (by first | (intro x hx; simp at hx; left; omega) | (intro x hx; simp at hx; right; rw [hx]; assumption) | (intro x hx; have hx := List.mem_singleton.1 hx; right; intro h; have := hOb x (by rw [h]; exact List.mem_singleton.2 rfl); omega) | (intro x hx; have := hOb x hx; left; omega)))
      replace hO2 := (by exact hO2.chg hx4 (by first | (intro x hx; simp at hx; left; omega) | (intro x hx; simp at hx; right; rw [hx]; assumption) | (intro x hx; have hx := List.mem_singleton.1 hx; right; intro h; have := hOb x (by rw [h]; exact List.mem_singleton.2 rfl); omega) | (intro x hx; have := hOb x hx; left; omega)))
      replace hG := hG.chg hx4 (by intro x hx; have h1 := hbL x hx; simp; omega)
      replace hK1 := hK1.chg hx4 (by simp; omega)
      replace hK2 := hK2.chg hx4 (by simp; omega)
      clear hB0; have hB0 := hB4; clear hB4
      refine EP.nil ?_
      refine EW.seq ?_
      refine EW.reg ?_
      refine EP.o rfl (Does.move rfl) ?_
      refine EP.o rfl (Does.assign rfl) ?_
      refine EP.o rfl (Does.assign rfl) ?_
      refine EP.nil ?_
      refine EW.ret ?_
      refine Fin.two rfl rfl rfl ?_
      refine ⟨hC, fun h => by omega, fun _ => ⟨b2, rfl, f1, l1, A, c, A2, c2, bs, hB0, ⟨by omega, by omega, by simp⟩, hO.rd (fun x h1 h2 => ⟨by omega, h2, by simp⟩), hO2.rd (fun x h1 h2 => ⟨by omega, h2, by simp⟩), hG, hgl, fun x hx => ⟨by have := hlo x hx; omega, hG.lt x hx, by simp⟩, hK1, hK2, ⟨by omega, hK1.lt, by simp⟩, ⟨by omega, hK2.lt, by simp⟩, hr.2.2.2.2.2.2.1, hr.2.2.2.2.2.2.2⟩⟩
theorem places_c (F : Nat → Prop) (p : Nat) (k : Kn) (q : Wst) (w : World) (hW : IsWei F w p k q) : Calls P 65 #[.pointer (some ⟨p, 0, none⟩)] w (Ret fun u w' => u = .int .i64 (q.S.length : Nat) ∧ Chg [] w w') := by
  obtain ⟨x1, x2, A, c1, A2, c2, bs, h⟩ := hW
  have hB0 := h.blk
  try have hlB0 := hB0.lt
  refine enter Tryz.func65 rfl rfl ?_
  refine EW.seq ?_
  refine EW.reg ?_
  refine EP.o rfl (Does.assign rfl) ?_
  refine EP.nil ?_
  refine EW.seq ?_
  refine EW.seq ?_
  refine EW.reg ?_
  refine EP.o rfl (Does.move rfl) ?_
  refine EP.o rfl (Does.eqPtr Tryz.underlying115 rfl rfl) ?_
  refine EP.nil ?_
  refine EW.cond rfl (fun h0 => ?_) (fun h0 => ?_)
  · try simp at h0
    all_goals cases h0
  · try simp at h0
    refine EW.skip ?_
    refine EW.seq ?_
    refine EW.reg ?_
    refine EP.o rfl (Does.move rfl) ?_
    refine EP.o rfl (Does.nilCheck rfl) ?_
    refine EP.o rfl (Does.fieldAddr fl161_1 rfl) ?_
    refine EP.o rfl (Does.loadB o23 rfl (Keeps.now _) (by assumption) (by rfl)) ?_
    refine EP.o rfl (Does.lenL Tryz.underlying23 rfl) ?_
    refine EP.o rfl (Does.assign rfl) ?_
    refine EP.nil ?_
    refine EW.ret ?_
    refine Fin.one rfl rfl ?_
    exact ⟨rfl, Chg.refl [] w⟩
theorem void_c (F : Nat → Prop) (p : Nat) (k : Kn) (q : Wst) (w : World) (hW : IsWei F w p k q) : Calls P 77 #[.pointer (some ⟨p, 0, none⟩)] w (Ret fun u w' => u = .int .i64 k.void ∧ Chg [] w w') := by
  obtain ⟨x1, x2, A, c1, A2, c2, bs, h⟩ := hW
  have hB0 := h.blk
  try have hlB0 := hB0.lt
  refine enter Tryz.func77 rfl rfl ?_
  refine EW.seq ?_
  refine EW.reg ?_
  refine EP.o rfl (Does.assign rfl) ?_
  refine EP.nil ?_
  refine EW.seq ?_
  refine EW.seq ?_
  refine EW.reg ?_
  refine EP.o rfl (Does.move rfl) ?_
  refine EP.o rfl (Does.eqPtr Tryz.underlying115 rfl rfl) ?_
  refine EP.nil ?_
  refine EW.cond rfl (fun h0 => ?_) (fun h0 => ?_)
  · try simp at h0
    all_goals cases h0
  · try simp at h0
    refine EW.skip ?_
    refine EW.seq ?_
    refine EW.reg ?_
    refine EP.o rfl (Does.move rfl) ?_
    refine EP.o rfl (Does.nilCheck rfl) ?_
    refine EP.o rfl (Does.fieldAddr fl161_0 rfl) ?_
    refine EP.o rfl (Does.fieldAddr fl158_0 rfl) ?_
    refine EP.o rfl (Does.loadB o3 rfl (Keeps.now _) (by assumption) (by rfl)) ?_
    refine EP.o rfl (Does.assign rfl) ?_
    refine EP.nil ?_
    refine EW.ret ?_
    refine Fin.one rfl rfl ?_
    exact ⟨rfl, Chg.refl [] w⟩
theorem whas_c (F : Nat → Prop) (p : Nat) (k : Kn) (q : Wst) (i : Int) (w : World) (hW : IsWei F w p k q) : Calls P 99 #[.pointer (some ⟨p, 0, none⟩), .int .i64 i] w (Ret fun u w' => u = .bool (decide (0 ≤ i ∧ i < q.S.length)) ∧ Chg [] w w') := by
  have hC := Chg.refl [] w
  refine enter Tryz.func99 rfl rfl ?_
  refine EW.seq ?_
  refine EW.reg ?_
  refine EP.o rfl (Does.assign rfl) ?_
  refine EP.nil ?_
  refine EW.seq ?_
  refine EW.reg ?_
  refine EP.o rfl (Does.move rfl) ?_
  refine EP.o rfl (Does.cmp rfl rfl rfl) ?_
  refine EP.o rfl (Does.move rfl) ?_
  refine EP.bsplit (d := 7) rfl (fun h1 => ?_) (fun h1 => ?_)
  · try simp at h1
    refine EP.ung rfl rfl rfl ?_
    refine EP.o rfl (Does.move rfl) ?_
    refine EP.ung rfl rfl rfl ?_
    refine EP.o rfl (Does.move rfl) ?_
    refine EP.ung rfl rfl rfl ?_
    refine EP.call2 rfl (Enters.fn fb65 rfl) (places_c F p k q _ hW) ?_
    rintro _ w1 ⟨rfl, hx1⟩
    have hz1 := hx1.size
    replace hC := hC.step0 hx1
    replace hW := hW.chg0 hx1
    refine EP.ung rfl rfl rfl ?_
    refine EP.o rfl (Does.cmp rfl rfl rfl) ?_
    refine EP.o rfl (Does.pickT rfl rfl) ?_
    refine EP.o rfl (Does.assign rfl) ?_
    refine EP.nil ?_
    refine EW.ret ?_
    refine Fin.one rfl rfl ?_
    exact ⟨vbool (by rw [Bool.eq_iff_iff, cmpB_lss, decide_eq_true_iff]; omega), hC⟩
  · try simp at h1
    refine EP.skp rfl rfl rfl rfl rfl (fun h => by cases h) ?_
    refine EP.skp rfl rfl rfl rfl rfl (fun h => by cases h) ?_
    refine EP.skp rfl rfl rfl rfl rfl (fun h => by cases h) ?_
    refine EP.skp rfl rfl rfl rfl rfl (fun h => by cases h) ?_
    refine EP.o rfl (Does.pickF rfl rfl) ?_
    refine EP.o rfl (Does.assign rfl) ?_
    refine EP.nil ?_
    refine EW.ret ?_
    refine Fin.one rfl rfl ?_
    exact ⟨vbool (by rw [Bool.eq_iff_iff, decide_eq_true_iff]; simp; omega), hC⟩
theorem wset_c (F : Nat → Prop) (p : Nat) (k : Kn) (q : Wst) (i : Nat) (hi : i < q.S.length) (hn : q.S.length ≤ 1000000) (w : World) (hW : IsWei F w p k q) (hF : ∀ b, F b → b < w.heap.size) : Calls P 66 #[.pointer (some ⟨p, 0, none⟩), .int .i64 i] w (Ret fun u w' => u = .agg (setCells (q.S.getD i 0)).toArray ∧ Chg [] w w') := by
  have hC := Chg.refl [] w
  have hpw := hW.lt
  refine enter Tryz.func66 rfl rfl ?_
  refine EW.seq ?_
  refine EW.reg ?_
  refine EP.new2 rfl (News.alloc zr70 rfl) ?_
  intro b1 w1 hb1 hs1 hx1 hB1
  have hz1 := hx1.size
  replace hC := hC.step0 hx1
  replace hW := hW.chg0 hx1
  refine EP.nil ?_
  refine EW.seq ?_
  refine EW.seq ?_
  refine EW.reg ?_
  refine EP.o rfl (Does.move rfl) ?_
  refine EP.o rfl (Does.move rfl) ?_
  refine EP.call2 rfl (Enters.fn fb99 rfl) (whas_c F p k q i _ hW) ?_
  rintro _ w2 ⟨rfl, hx2⟩
  have hz2 := hx2.size
  replace hC := hC.step0 hx2
  replace hW := hW.chg0 hx2
  replace hB1 := hB1.chg0 hx2
  refine EP.o rfl (Does.not rfl) ?_
  refine EP.nil ?_
  refine EW.cond rfl (fun h1 => ?_) (fun h1 => ?_)
  · try simp at h1
    omega
  · try simp at h1
    obtain ⟨x1, x2, A, c1, A2, c2, bs, h⟩ := hW
    have hB0 := h.blk
    have hR := h.rs
    obtain ⟨g, off, rfl, _, hgl, hc⟩ := hR.at_ (by omega)
    try have hlB0 := hB0.lt
    try have hlR := hR.lt
    refine EW.skip ?_
    refine EW.seq ?_
    refine EW.reg ?_
    refine EP.o rfl (Does.move rfl) ?_
    refine EP.o rfl (Does.nilCheck rfl) ?_
    refine EP.o rfl (Does.fieldAddr fl161_1 rfl) ?_
    refine EP.o rfl (Does.loadB o23 rfl (Keeps.now _) (by assumption) (by rfl)) ?_
    refine EP.o rfl (Does.move rfl) ?_
    refine EP.o rfl (Does.indexAddr sl23 rfl rfl (by omega) (by omega)) ?_
    refine EP.o rfl (Does.loadCs (vs := (setCells (q.S.getD i 0))) ag70 rfl (Keeps.now _) (fun j v hj => by have hj4 : j < 4 := (List.getElem?_eq_some_iff.1 hj).1; rw [Nat.add_assoc]; exact hc _ v (by rw [show (((i : Nat) : Int)).toNat = i from by omega, setsCells_get _ _ _ hi hj4]; exact hj)) rfl) ?_
    refine EP.put2 (Puts.blk sz70 rfl rfl (by assumption) rfl rfl rfl rfl (by simp only [List.take, List.drop, List.append, List.cons_append, List.nil_append]; rfl)) ?_
    intro w3 hs3 hx3 hB3
    have hz3 := hx3.size
    replace hC := hC.step hx3 (by simp; omega)
    replace hB0 := hB0.chg hx3 (by simp; omega)
    replace hR := hR.chg hx3 (by intro b hb hFb; have := hF _ hFb; simp at hb; omega)
    clear hB1; have hB1 := hB3; clear hB3
    refine EP.nil ?_
    refine EW.ret ?_
    refine Fin.cell rfl rfl (Blk.loadV ag70 (by assumption) (by simp only [List.take, List.drop, List.append, List.cons_append, List.nil_append]; rfl) rfl) ?_
    exact ⟨rfl, hC⟩
def rowL (f : BagF) (n : Nat) : List Int := (List.range n).map f
def rowR (f : BagF) (R : List (Int × Int)) : BagF := fun i => if (mget R (i : Int)).isSome then 0 else f i
theorem rowL_len (f : BagF) (n : Nat) : (rowL f n).length = n := by simp [rowL]
theorem row_start {f : BagF} {L : List (Int × Int)} {n m : Nat} (hf : BagL L f n) : rowL (rowR f L) m = List.replicate m 0 := by
  apply List.ext_getElem
  · simp [rowL]
  · intro i h1 h2
    simp only [rowL, List.getElem_map, List.getElem_range, List.getElem_replicate, rowR]
    split
    · rfl
    · rename_i hm
      rw [hf.2.2]
      cases hx : mget L (i : Int) with
      | none => rfl
      | some v => rw [hx] at hm; simp at hm
theorem row_end (f : BagF) : rowR f [] = f := by funext i; simp [rowR, mget_nil]
theorem row_step {f : BagF} {L R1 R2 : List (Int × Int)} {k n m : Nat} {v : Int} (hf : BagL L f n) (hs : (R1 ++ ((k : Int), v) :: R2).Sublist L) : ints (rowL (rowR f (R1 ++ R2)) m) = (ints (rowL (rowR f (R1 ++ ((k : Int), v) :: R2)) m)).set k (.int .i64 v) := by
  obtain ⟨h1, h2, h3, h4, h5⟩ := sub_nodup hf.1 hs
  simp only at h2 h3 h4 h5
  apply List.ext_getElem?
  intro i
  simp only [ints, rowL, List.getElem?_map, List.getElem?_set, List.length_map, List.length_range]
  by_cases hi : i < m
  · rw [List.getElem?_range hi]
    simp only [Option.map_some, rowR]
    by_cases hk : k = i
    · subst hk
      rw [if_pos rfl, if_pos hi, h2]
      simp [hf.2.2, h5]
    · rw [if_neg hk, h3 (i : Int) (by simp; omega)]
  · rw [List.getElem?_eq_none (by simp; omega)]
    simp only [Option.map_none]
    split
    · rw [if_neg (by omega)]
    · rfl
theorem row_c (F : Nat → Prop) (p : Nat) (k : Kn) (q : Wst) (x : Nat) (f : BagF) (w : World) (hn : q.S.length ≤ 1000000) (hW : IsWei F w p k q) (hb : Bag w x f q.S.length) (hF : ∀ b, F b → b < w.heap.size) :
    Calls P 98 #[.pointer (some ⟨p, 0, none⟩), .map (some x)] w (Ret fun u w' => Chg [] w w' ∧ ∃ b, u = .slice (some ⟨b, 0, none⟩) q.S.length q.S.length ∧ w.heap.size ≤ b ∧ Blk w' b (ints (rowL f q.S.length)) 3) := by
  have hC := Chg.refl [] w
  obtain ⟨L, hM, hL⟩ := hb
  have hxl := hM.lt
  refine enter Tryz.func98 rfl rfl ?_
  refine EW.seq ?_
  refine EW.reg ?_
  refine EP.o rfl (Does.assign rfl) ?_
  refine EP.nil ?_
  refine EW.seq ?_
  refine EW.reg ?_
  refine EP.o rfl (Does.move rfl) ?_
  refine EP.call2 rfl (Enters.fn fb65 rfl) (places_c F p k q _ hW) ?_
  rintro _ w1 ⟨rfl, hx1⟩
  have hz1 := hx1.size
  replace hC := hC.step0 hx1
  replace hW := hW.chg0 hx1
  replace hM := hM.chg0 hx1
  refine EP.new2 rfl (News.make el24 zr3 rfl (cs := List.replicate q.S.length (.int .i64 0)) (by omega) (by omega) (by show (madeCells #[_] (((q.S.length : Nat) : Int).toNat * 1)).toList = _; rw [Int.toNat_natCast, Nat.mul_one]; exact made_one _ _)) ?_
  intro b2 w2 hb2 hs2 hx2 hB2
  have hz2 := hx2.size
  replace hC := hC.step0 hx2
  replace hW := hW.chg0 hx2
  replace hM := hM.chg0 hx2
  refine EP.o rfl (Does.assign rfl) ?_
  refine EP.nil ?_
  refine EW.seq ?_
  refine EW.seq ?_
  refine EW.reg ?_
  refine EP.o rfl (Does.move rfl) ?_
  refine EP.range2 (k := 3) (el := 3) rfl mp156 rfl hM ?_
  intro b3 w3 hb3 hs3 hx3 hI3
  have hz3 := hx3.size
  replace hC := hC.step0 hx3
  replace hW := hW.chg0 hx3
  replace hM := hM.chg0 hx3
  replace hB2 := hB2.chg0 hx3
  refine EP.nil ?_
  refine EW.block ?_
  refine EW.loop (σ := List (Int × Int)) (fun R => [(5, .slice (some ⟨b2, 0, none⟩) q.S.length q.S.length), (12, .pointer (some ⟨b3, 0, none⟩))]) (fun R wr => Chg [] w wr ∧ It ik wr b3 x L R ∧ Blk wr b2 (ints (rowL (rowR f R) q.S.length)) 3 ∧ R.Sublist L) (fun R wr => R.length) L ⟨(lk_val rfl (by simp)), rfl, trivial⟩ ?_ ?_
  · refine ⟨hC, hI3, ?_, List.Sublist.refl _⟩
    rw [row_start hL]
    have : ints (List.replicate q.S.length 0) = List.replicate q.S.length (.int .i64 0) := by simp [ints]
    rw [this]
    exact hB2
  rintro R w9 ⟨hC, hI, hB2, hs⟩
  have hlt := hI.lt
  try have hzw := hC.size
  try have hlB2 := hB2.lt
  refine EW.seq ?_
  refine EW.reg ?_
  refine EP.next2 rfl rfl hI (fun hE => ?_) ?_
  · refine EP.o rfl (Does.extract rfl rfl) ?_
    refine EP.nil ?_
    refine EW.seq ?_
    refine EW.condF rfl ?_
    refine EW.exit (brk_here ?_)
    refine EW.seq ?_
    refine EW.reg ?_
    refine EP.o rfl (Does.move rfl) ?_
    refine EP.o rfl (Does.assign rfl) ?_
    refine EP.nil ?_
    refine EW.ret ?_
    refine Fin.one rfl rfl ?_
    rw [hE, row_end] at hB2
    exact ⟨hC, b2, rfl, by omega, hB2⟩
  · rintro L1 ⟨xk, xv⟩ L2 w4 hML hx4 hs4 hI4 hA4
    have hz4 := hx4.size
    replace hC := hC.step hx4 (by simp; omega)
    replace hB2 := hB2.chg hx4 (by simp; omega)
    clear hI; have hI := hI4; clear hI4
    subst hML
    obtain ⟨hp0, hp1, hv0, hv1⟩ := hL.2.1 (xk, xv) (hs.subset (by simp))
    obtain ⟨k', rfl⟩ := Int.eq_ofNat_of_zero_le hp0
    simp only at hp0 hp1 hv0 hv1
    have hrl := rowL_len (rowR f (L1 ++ ((k' : Int), xv) :: L2)) q.S.length
    refine EP.o rfl (Does.extract rfl rfl) ?_
    refine EP.nil ?_
    refine EW.seq ?_
    refine EW.condT rfl ?_
    refine EW.skip ?_
    refine EW.block ?_
    refine EW.seq ?_
    refine EW.reg ?_
    refine EP.o rfl (Does.entry rfl (by assumption)) ?_
    refine EP.o rfl (Does.extract rfl rfl) ?_
    refine EP.o rfl (Does.extract rfl rfl) ?_
    refine EP.o rfl (Does.assign rfl) ?_
    refine EP.o rfl (Does.assign rfl) ?_
    refine EP.nil ?_
    refine EW.reg ?_
    refine EP.o rfl (Does.move rfl) ?_
    refine EP.o rfl (Does.move rfl) ?_
    refine EP.o rfl (Does.move rfl) ?_
    refine EP.o rfl (Does.indexAddr1 sl24 rfl rfl (by omega) (by omega)) ?_
    refine EP.put2 (Puts.blk (cs' := (ints (rowL (rowR f (L1 ++ L2)) q.S.length))) sz3 rfl rfl hB2 rfl rfl rfl (by simp [ints, hrl]; omega) (by rw [row_step hL hs]; simp [List.set_eq_take_append_cons_drop, ints, hrl]; omega)) ?_
    intro w5 hs5 hx5 hB5
    have hz5 := hx5.size
    replace hC := hC.step hx5 (by simp; omega)
    replace hI := hI.chg hx5 (by simp; omega)
    clear hB2; have hB2 := hB5; clear hB5
    refine EP.nil ?_
    refine ⟨L1 ++ L2, ⟨rfl, rfl, trivial⟩, ?_, ?_⟩
    exact ⟨hC, hI, hB2, (sub_nodup hL.1 hs).1⟩
    simp
end Go.Clt
end
section
set_option linter.unusedVariables false
set_option linter.unusedSimpArgs false
set_option maxRecDepth 4000
namespace Go.Clt
set_option maxHeartbeats 4000000
open Go Go.RowKit Go.Proofs
def RowR (f : BagF) (n : Nat) (w : World) (u : Value) (w' : World) : Prop := Chg [] w w' ∧ ∃ b, u = .slice (some ⟨b, 0, none⟩) n n ∧ w.heap.size ≤ b ∧ Blk w' b (ints (rowL f n)) 3
theorem first_row_c (F : Nat → Prop) (p : Nat) (k : Kn) (q : Wst) (w : World) (hn : q.S.length ≤ 1000000) (hW : IsWei F w p k q) (hF : ∀ b, F b → b < w.heap.size) : Calls P 63 #[.pointer (some ⟨p, 0, none⟩)] w (Ret (RowR k.first q.S.length w)) := by
  have hC := Chg.refl [] w
  obtain ⟨x1, x2, A, c1, A2, c2, bs, h⟩ := hW
  have hW : IsWei F w p k q := ⟨x1, x2, A, c1, A2, c2, bs, h⟩
  have hB0 := h.blk
  have hK1 := h.bf
  try have hlB0 := hB0.lt
  refine enter Tryz.func63 rfl rfl ?_
  refine EW.seq ?_
  refine EW.reg ?_
  refine EP.o rfl (Does.assign rfl) ?_
  refine EP.nil ?_
  refine EW.seq ?_
  refine EW.seq ?_
  refine EW.reg ?_
  refine EP.o rfl (Does.move rfl) ?_
  refine EP.o rfl (Does.eqPtr Tryz.underlying115 rfl rfl) ?_
  refine EP.nil ?_
  refine EW.cond rfl (fun h0 => ?_) (fun h0 => ?_)
  · try simp at h0
    all_goals cases h0
  · try simp at h0
    refine EW.skip ?_
    refine EW.seq ?_
    refine EW.reg ?_
    refine EP.o rfl (Does.move rfl) ?_
    refine EP.o rfl (Does.move rfl) ?_
    refine EP.o rfl (Does.nilCheck rfl) ?_
    refine EP.o rfl (Does.fieldAddr fl161_0 rfl) ?_
    refine EP.o rfl (Does.fieldAddr fl158_1 rfl) ?_
    refine EP.o rfl (Does.loadB o156 rfl (Keeps.now _) (by assumption) (by rfl)) ?_
    refine EP.call2 rfl (Enters.fn fb98 rfl) (row_c F p k q x1 k.first _ hn hW hK1 hF) ?_
    rintro v7 w1 ⟨hx1, b, hv, hb, hB⟩
    have hz1 := hx1.size
    replace hC := hC.step0 hx1
    replace hW := hW.chg0 hx1
    replace hB0 := hB0.chg0 hx1
    replace hK1 := hK1.chg0 hx1
    refine EP.o rfl (Does.assign rfl) ?_
    refine EP.nil ?_
    refine EW.ret ?_
    refine Fin.one rfl rfl ?_
    exact ⟨hC, b, hv, by omega, hB⟩
theorem last_row_c (F : Nat → Prop) (p : Nat) (k : Kn) (q : Wst) (w : World) (hn : q.S.length ≤ 1000000) (hW : IsWei F w p k q) (hF : ∀ b, F b → b < w.heap.size) : Calls P 64 #[.pointer (some ⟨p, 0, none⟩)] w (Ret (RowR k.last q.S.length w)) := by
  have hC := Chg.refl [] w
  obtain ⟨x1, x2, A, c1, A2, c2, bs, h⟩ := hW
  have hW : IsWei F w p k q := ⟨x1, x2, A, c1, A2, c2, bs, h⟩
  have hB0 := h.blk
  have hK1 := h.bl
  try have hlB0 := hB0.lt
  refine enter Tryz.func64 rfl rfl ?_
  refine EW.seq ?_
  refine EW.reg ?_
  refine EP.o rfl (Does.assign rfl) ?_
  refine EP.nil ?_
  refine EW.seq ?_
  refine EW.seq ?_
  refine EW.reg ?_
  refine EP.o rfl (Does.move rfl) ?_
  refine EP.o rfl (Does.eqPtr Tryz.underlying115 rfl rfl) ?_
  refine EP.nil ?_
  refine EW.cond rfl (fun h0 => ?_) (fun h0 => ?_)
  · try simp at h0
    all_goals cases h0
  · try simp at h0
    refine EW.skip ?_
    refine EW.seq ?_
    refine EW.reg ?_
    refine EP.o rfl (Does.move rfl) ?_
    refine EP.o rfl (Does.move rfl) ?_
    refine EP.o rfl (Does.nilCheck rfl) ?_
    refine EP.o rfl (Does.fieldAddr fl161_0 rfl) ?_
    refine EP.o rfl (Does.fieldAddr fl158_2 rfl) ?_
    refine EP.o rfl (Does.loadB o156 rfl (Keeps.now _) (by assumption) (by rfl)) ?_
    refine EP.call2 rfl (Enters.fn fb98 rfl) (row_c F p k q x2 k.last _ hn hW hK1 hF) ?_
    rintro v7 w1 ⟨hx1, b, hv, hb, hB⟩
    have hz1 := hx1.size
    replace hC := hC.step0 hx1
    replace hW := hW.chg0 hx1
    replace hB0 := hB0.chg0 hx1
    replace hK1 := hK1.chg0 hx1
    refine EP.o rfl (Does.assign rfl) ?_
    refine EP.nil ?_
    refine EW.ret ?_
    refine Fin.one rfl rfl ?_
    exact ⟨hC, b, hv, by omega, hB⟩
theorem follow_row_c (F : Nat → Prop) (p : Nat) (k : Kn) (q : Wst) (i : Nat) (hi : i < q.S.length) (w : World) (hn : q.S.length ≤ 1000000) (hW : IsWei F w p k q) (hF : ∀ b, F b → b < w.heap.size) : Calls P 67 #[.pointer (some ⟨p, 0, none⟩), .int .i64 i] w (Ret (RowR (q.G.getD i zeroF) q.S.length w)) := by
  have hC := Chg.refl [] w
  refine enter Tryz.func67 rfl rfl ?_
  refine EW.seq ?_
  refine EW.reg ?_
  refine EP.o rfl (Does.assign rfl) ?_
  refine EP.nil ?_
  refine EW.seq ?_
  refine EW.seq ?_
  refine EW.reg ?_
  refine EP.o rfl (Does.move rfl) ?_
  refine EP.o rfl (Does.move rfl) ?_
  refine EP.call2 rfl (Enters.fn fb99 rfl) (whas_c F p k q i _ hW) ?_
  rintro _ w1 ⟨rfl, hx1⟩
  have hz1 := hx1.size
  replace hC := hC.step0 hx1
  replace hW := hW.chg0 hx1
  refine EP.o rfl (Does.not rfl) ?_
  refine EP.nil ?_
  refine EW.cond rfl (fun h1 => ?_) (fun h1 => ?_)
  · try simp at h1
    omega
  · try simp at h1
    obtain ⟨x1, x2, A, c1, A2, c2, bs, h⟩ := hW
    have hW : IsWei F w1 p k q := ⟨x1, x2, A, c1, A2, c2, bs, h⟩
    have hB0 := h.blk
    have hib : i < bs.length := by rw [h.gb.1, h.gl]; exact hi
    have hK1 := h.gb.2 i hib
    have hR := h.rf
    obtain ⟨g, off, rfl, _, _, _⟩ := hR.at_ (by omega)
    have hcell := (hR.one (mapsV_get bs i hib)).2
    try have hlB0 := hB0.lt
    refine EW.skip ?_
    refine EW.seq ?_
    refine EW.reg ?_
    refine EP.o rfl (Does.move rfl) ?_
    refine EP.o rfl (Does.move rfl) ?_
    refine EP.o rfl (Does.nilCheck rfl) ?_
    refine EP.o rfl (Does.fieldAddr fl161_2 rfl) ?_
    refine EP.o rfl (Does.loadB o159 rfl (Keeps.now _) (by assumption) (by rfl)) ?_
    refine EP.o rfl (Does.move rfl) ?_
    refine EP.o rfl (Does.indexAddr1 sl159 rfl rfl (by omega) (by omega)) ?_
    refine EP.o rfl (Does.load1 o156 rfl (Keeps.now _) hcell) ?_
    refine EP.call2 rfl (Enters.fn fb98 rfl) (row_c F p k q _ _ _ hn hW hK1 (fun y hy => by have := hF y hy; omega)) ?_
    rintro v7 w2 ⟨hx2, b, hv, hb, hB⟩
    have hz2 := hx2.size
    replace hC := hC.step0 hx2
    replace hW := hW.chg0 hx2
    replace hB0 := hB0.chg0 hx2
    replace hK1 := hK1.chg0 hx2
    refine EP.o rfl (Does.assign rfl) ?_
    refine EP.nil ?_
    refine EW.ret ?_
    refine Fin.one rfl rfl ?_
    exact ⟨hC, b, hv, by omega, hB⟩
def rowsV (n : Nat) (gs : List Nat) : List Value := gs.map fun b => .slice (some ⟨b, 0, none⟩) n n
theorem rowsV_get (n : Nat) (gs : List Nat) (k : Nat) (h : k < gs.length) : (rowsV n gs)[k]? = some (.slice (some ⟨gs.getD k 0, 0, none⟩) n n) := by simp [rowsV, List.getElem?_eq_getElem h, List.getD_eq_getElem?_getD]
def GR (w : World) (lo : Nat) (gs : List Nat) (G : List BagF) (n : Nat) : Prop := ∀ i, i < gs.length → lo ≤ gs.getD i 0 ∧ Blk w (gs.getD i 0) (ints (rowL (G.getD i zeroF) n)) 3
theorem GR.mem {w : World} {lo : Nat} {gs : List Nat} {G : List BagF} {n : Nat} (h : GR w lo gs G n) {x : Nat} (hx : x ∈ gs) : lo ≤ x ∧ ∃ cs, Blk w x cs 3 := by
  obtain ⟨i, hi, rfl⟩ := List.mem_iff_getElem.1 hx
  have := h i hi
  rw [List.getD_eq_getElem?_getD, List.getElem?_eq_getElem hi] at this
  exact ⟨this.1, _, this.2⟩
theorem GR.chg {S : List Nat} {w w' : World} {lo : Nat} {gs : List Nat} {G : List BagF} {n : Nat} (h : GR w lo gs G n) (k : Chg S w w') (hS : ∀ x ∈ gs, x ∉ S) : GR w' lo gs G n := fun i hi => ⟨(h i hi).1, (h i hi).2.chg k (hS _ (getD_mem gs 0 i hi))⟩
theorem GR.chg0 {w w' : World} {lo : Nat} {gs : List Nat} {G : List BagF} {n : Nat} (h : GR w lo gs G n) (k : Chg [] w w') : GR w' lo gs G n := h.chg k (by simp)
theorem GR.snoc {w : World} {lo b : Nat} {gs : List Nat} {G : List BagF} {n : Nat} (h : GR w lo gs G n) (hlo : lo ≤ b) (hb : Blk w b (ints (rowL (G.getD gs.length zeroF) n)) 3) : GR w lo (gs ++ [b]) G n := fun i hi => by
  simp at hi
  by_cases h2 : i < gs.length
  · rw [List.getD_eq_getElem?_getD, List.getElem?_append_left h2, ← List.getD_eq_getElem?_getD]; exact h i h2
  · have : i = gs.length := by omega
    subst this
    rw [List.getD_eq_getElem?_getD (l := gs ++ [b]), List.getElem?_append_right (Nat.le_refl _)]
    simp only [Nat.sub_self, List.getElem?_cons_zero, Option.getD_some]
    exact ⟨hlo, hb⟩
structure AutM (F : Nat → Prop) (w : World) (p : Nat) (k : Kn) (q : Wst) (pw : Nat) (A : Option Addr) (c : Nat) (bf bl : Nat) (A2 : Option Addr) (c2 : Nat) (gs : List Nat) : Prop where
  blk : Blk w p [.pointer (some ⟨pw, 0, none⟩), .slice A q.S.length c, .slice (some ⟨bf, 0, none⟩) q.S.length q.S.length, .slice (some ⟨bl, 0, none⟩) q.S.length q.S.length, .slice A2 q.S.length c2] 120
  fp : F p
  wei : IsWei F w pw k q
  rs : Rd F w 4 A q.S.length (setsCells q.S)
  first : Blk w bf (ints (rowL k.first q.S.length)) 3
  ff : F bf
  last : Blk w bl (ints (rowL k.last q.S.length)) 3
  fl : F bl
  rg : Rd F w 1 A2 q.S.length (rowsV q.S.length gs)
  gr : GR w 0 gs q.G q.S.length
  fg : ∀ x ∈ gs, F x
  gl : gs.length = q.S.length
def IsAut (F : Nat → Prop) (w : World) (p : Nat) (k : Kn) (q : Wst) : Prop := ∃ pw A c bf bl A2 c2 gs, AutM F w p k q pw A c bf bl A2 c2 gs
theorem IsAut.chg {F : Nat → Prop} {w w' : World} {p : Nat} {k : Kn} {q : Wst} {S : List Nat} (h : IsAut F w p k q) (c : Chg S w w') (hS : ∀ b ∈ S, ¬ F b) : IsAut F w' p k q := by
  obtain ⟨pw, A, c1, bf, bl, A2, c2, gs, h⟩ := h
  exact ⟨pw, A, c1, bf, bl, A2, c2, gs, h.blk.chg c (fun hm => hS _ hm h.fp), h.fp, h.wei.chg c hS, h.rs.chg c hS, h.first.chg c (fun hm => hS _ hm h.ff), h.ff, h.last.chg c (fun hm => hS _ hm h.fl), h.fl, h.rg.chg c hS, h.gr.chg c (fun x hx hm => hS _ hm (h.fg x hx)), h.fg, h.gl⟩
theorem IsAut.chg0 {F : Nat → Prop} {w w' : World} {p : Nat} {k : Kn} {q : Wst} (h : IsAut F w p k q) (c : Chg [] w w') : IsAut F w' p k q := h.chg c (by simp)
theorem IsAut.mono {F F' : Nat → Prop} {w : World} {p : Nat} {k : Kn} {q : Wst} (h : IsAut F w p k q) (hF : ∀ b, F b → b < w.heap.size → F' b) : IsAut F' w p k q := by
  obtain ⟨pw, A, c1, bf, bl, A2, c2, gs, h⟩ := h
  exact ⟨pw, A, c1, bf, bl, A2, c2, gs, h.blk, hF _ h.fp h.blk.lt, h.wei.mono hF, h.rs.mono hF, h.first, hF _ h.ff h.first.lt, h.last, hF _ h.fl h.last.lt, h.rg.mono hF, h.gr, fun x hx => hF _ (h.fg x hx) (by obtain ⟨_, cs, hb⟩ := h.gr.mem hx; exact hb.lt), h.gl⟩
theorem IsAut.lt {F : Nat → Prop} {w : World} {p : Nat} {k : Kn} {q : Wst} (h : IsAut F w p k q) : p < w.heap.size := by
  obtain ⟨pw, A, c1, bf, bl, A2, c2, gs, h⟩ := h; exact h.blk.lt
end Go.Clt
end
section
set_option linter.unusedVariables false
set_option linter.unusedSimpArgs false
set_option maxRecDepth 4000
namespace Go.Clt
set_option maxHeartbeats 4000000
open Go Go.RowKit Go.Proofs
theorem GR.off {w : World} {lo lo' : Nat} {gs : List Nat} {G : List BagF} {n : Nat} (h : GR w lo gs G n) {el : TypeId} {sz m c : Nat} {A : Option Addr} {cs : List Value} (ho : Own w lo' el sz A m c cs) (hne : el ≠ 3) : ∀ x ∈ gs, x ∉ blkOf A := fun x hx hm => by
  obtain ⟨_, cs', hb⟩ := h.mem hx
  exact ho.offBlk hb hne x hm (by simp)
theorem GR.low {w : World} {lo lo' : Nat} {gs : List Nat} {G : List BagF} {n : Nat} (h : GR w lo gs G n) (hl : lo' ≤ lo) : GR w lo' gs G n := fun i hi => ⟨Nat.le_trans hl (h i hi).1, (h i hi).2⟩
theorem anew_c (t : Cor) (v : Value) (F0 : Nat → Prop) (w : World) (hT : IsCor F0 w t v) (hF0 : ∀ x, F0 x → x < w.heap.size) (hl : (setsC t).length ≤ 1000000) :
    Calls P 37 #[v] w (Ret fun u w' => Chg [] w w' ∧ (600 < (setsC t).length → u = .tuple #[.pointer none, .int .i64 3]) ∧ ((setsC t).length ≤ 600 → ∃ p, u = .tuple #[.pointer (some ⟨p, 0, none⟩), .int .i64 0] ∧ IsAut (FR w.heap.size w'.heap.size []) w' p (weighF t).1 (weighF t).2)) := by
  have hC := Chg.refl [] w
  refine enter Tryz.func37 rfl rfl ?_
  refine EW.seq ?_
  refine EW.reg ?_
  refine EP.o rfl (Does.assign rfl) ?_
  refine EP.o rfl (Does.assign rfl) ?_
  refine EP.nil ?_
  refine EW.seq ?_
  refine EW.reg ?_
  refine EP.o rfl (Does.move rfl) ?_
  refine EP.call2 rfl (Enters.fn fb62 rfl) (wnew_c t v F0 _ hT hF0 hl) ?_
  rintro v6 w1 ⟨hx1, hbig, hsm⟩
  have hz1 := hx1.size
  replace hC := hC.step0 hx1
  have hcase : (600 < (setsC t).length ∧ v6 = .tuple #[.pointer none, .int .i64 3]) ∨ ((setsC t).length ≤ 600 ∧ ∃ p, v6 = .tuple #[.pointer (some ⟨p, 0, none⟩), .int .i64 0] ∧ IsWei (FR w.heap.size w1.heap.size []) w1 p (weighF t).1 (weighF t).2) := by
    rcases Nat.lt_or_ge 600 (setsC t).length with h | h
    · exact .inl ⟨h, hbig h⟩
    · exact .inr ⟨h, hsm h⟩
  by_cases hbg : 600 < (setsC t).length
  · rcases hcase with ⟨_, rfl⟩ | ⟨h, _⟩
    rotate_left
    omega
    refine EP.o rfl (Does.move rfl) ?_
    refine EP.o rfl (Does.extract rfl rfl) ?_
    refine EP.o rfl (Does.extract rfl rfl) ?_
    refine EP.o rfl (Does.assign rfl) ?_
    refine EP.o rfl (Does.assign rfl) ?_
    refine EP.nil ?_
    refine EW.seq ?_
    refine EW.seq ?_
    refine EW.reg ?_
    refine EP.o rfl (Does.move rfl) ?_
    refine EP.o rfl (Does.cmp rfl rfl rfl) ?_
    refine EP.nil ?_
    refine EW.condT (rfl) ?_
    refine EW.seq ?_
    refine EW.reg ?_
    refine EP.o rfl (Does.move rfl) ?_
    refine EP.o rfl (Does.assign rfl) ?_
    refine EP.o rfl (Does.assign rfl) ?_
    refine EP.nil ?_
    refine EW.ret ?_
    refine Fin.two rfl rfl rfl ?_
    exact ⟨hC, fun _ => rfl, fun h => by omega⟩
  · rcases hcase with ⟨h, _⟩ | ⟨_, pw, rfl, hW⟩
    omega
    refine EP.o rfl (Does.move rfl) ?_
    refine EP.o rfl (Does.extract rfl rfl) ?_
    refine EP.o rfl (Does.extract rfl rfl) ?_
    refine EP.o rfl (Does.assign rfl) ?_
    refine EP.o rfl (Does.assign rfl) ?_
    refine EP.nil ?_
    refine EW.seq ?_
    refine EW.seq ?_
    refine EW.reg ?_
    refine EP.o rfl (Does.move rfl) ?_
    refine EP.o rfl (Does.cmp rfl rfl rfl) ?_
    refine EP.nil ?_
    refine EW.condF (rfl) ?_
    have hSl := weighF_S t
    generalize weighF t = kq at *
    obtain ⟨k, q⟩ := kq
    simp only at hSl hW
    have hn : q.S.length ≤ 600 := by rw [hSl]; omega
    have hF : ∀ b, FR w.heap.size w1.heap.size [] b → b < w1.heap.size := fun b h => h.2.1
    have hpw := hF _ (by obtain ⟨_, _, _, _, _, _, _, h⟩ := hW; exact h.fp)
    refine EW.skip ?_
    refine EW.seq ?_
    refine EW.reg ?_
    refine EP.o rfl (Does.move rfl) ?_
    refine EP.o rfl (Does.move rfl) ?_
    refine EP.call2 rfl (Enters.fn fb63 rfl) (first_row_c _ pw k q _ (by omega) hW hF) ?_
    rintro v7 w2 ⟨hx2, bf, rfl, hbf, hBf⟩
    have hz2 := hx2.size
    replace hC := hC.step0 hx2
    replace hW := hW.chg0 hx2
    try have hlBf := hBf.lt
    refine EP.o rfl (Does.move rfl) ?_
    refine EP.call2 rfl (Enters.fn fb64 rfl) (last_row_c _ pw k q _ (by omega) hW (fun b h => by have := hF b h; omega)) ?_
    rintro v8 w3 ⟨hx3, bl, rfl, hbl, hBl⟩
    have hz3 := hx3.size
    replace hC := hC.step0 hx3
    replace hW := hW.chg0 hx3
    replace hBf := hBf.chg0 hx3
    try have hlBl := hBl.lt
    refine EP.o rfl (Does.buildSL zr120 pl120 rfl (by rfl)) ?_
    refine EP.new2 rfl (News.box rfl rfl) ?_
    intro b4 w4 hb4 hs4 hx4 hB4
    have hz4 := hx4.size
    replace hC := hC.step0 hx4
    replace hW := hW.chg0 hx4
    replace hBf := hBf.chg0 hx4
    replace hBl := hBl.chg0 hx4
    refine EP.o rfl (Does.assign rfl) ?_
    refine EP.nil ?_
    refine EW.seq ?_
    refine EW.seq ?_
    refine EW.reg ?_
    refine EP.o rfl (Does.move rfl) ?_
    refine EP.call2 rfl (Enters.fn fb65 rfl) (places_c _ pw k q _ hW) ?_
    rintro _ w5 ⟨rfl, hx5⟩
    have hz5 := hx5.size
    replace hC := hC.step0 hx5
    replace hW := hW.chg0 hx5
    replace hBf := hBf.chg0 hx5
    replace hBl := hBl.chg0 hx5
    replace hB4 := hB4.chg0 hx5
    refine EP.o rfl (Does.move rfl) ?_
    refine EP.nil ?_
    refine EW.block ?_
    refine EW.loop (σ := Nat × Option Addr × Nat × Option Addr × Nat × List Nat) (fun (i, A, c, A2, c2, gs) => [(4, .pointer (some ⟨pw, 0, none⟩)), (6, .pointer (some ⟨b4, 0, none⟩)), (24, .int .i64 (q.S.length : Nat)), (25, .int .i64 i)]) (fun (i, A, c, A2, c2, gs) wr => Chg [] w wr ∧ IsWei (FR w.heap.size w1.heap.size []) wr pw k q ∧ Blk wr b4 [.pointer (some ⟨pw, 0, none⟩), .slice A i c, .slice (some ⟨bf, 0, none⟩) q.S.length q.S.length, .slice (some ⟨bl, 0, none⟩) q.S.length q.S.length, .slice A2 i c2] 120 ∧ Own wr (b4 + 1) 70 4 A i c (setsCells (q.S.take i)) ∧ Own wr (b4 + 1) 24 1 A2 i c2 (rowsV q.S.length gs) ∧ GR wr (b4 + 1) gs q.G q.S.length ∧ gs.length = i ∧ i ≤ q.S.length ∧ Blk wr bf (ints (rowL k.first q.S.length)) 3 ∧ Blk wr bl (ints (rowL k.last q.S.length)) 3) (fun (i, A, c, A2, c2, gs) wr => q.S.length - i) (0, none, 0, none, 0, []) ⟨rfl, rfl, rfl, rfl, trivial⟩ ?_ ?_
    · exact ⟨hC, hW, hB4, Own.nil _ _ _ _, Own.nil _ _ _ _, fun i hi => absurd hi (by simp), rfl, Nat.zero_le _, hBf, hBl⟩
    rintro ⟨i, A, c, A2, c2, gs⟩ w9 ⟨hC, hW, hB4, hO, hO2, hG, hgl, hi, hBf, hBl⟩
    have hblf := hBf.lt
    have hbll := hBl.lt
    have hbf4 : bf < b4 ∧ bl < b4 := by omega
    try have hzw := hC.size
    try have hlB4 := hB4.lt
    try have hlBf := hBf.lt
    try have hlBl := hBl.lt
    refine EW.seq ?_
    refine EW.reg ?_
    refine EP.o rfl (Does.cmp rfl rfl rfl) ?_
    refine EP.nil ?_
    refine EW.seq ?_
    refine EW.cond rfl (fun h2 => ?_) (fun h2 => ?_)
    · try simp at h2
      have hin : i < q.S.length := by omega
      have hOb := hO.blk
      have hQb := hO2.blk
      have hQA := hO2.apart hO (by decide)
      have hGA := hG.off hO (by decide)
      have hbL : ∀ x ∈ gs, b4 < x := fun x hx => by have := (hG.mem hx).1; omega
      refine EW.skip ?_
      refine EW.seq ?_
      refine EW.block ?_
      refine EW.seq ?_
      refine EW.reg ?_
      refine EP.o rfl (Does.move rfl) ?_
      refine EP.o rfl (Does.assign rfl) ?_
      refine EP.nil ?_
      refine EW.seq ?_
      refine EW.drw' (S := blkOf A) 10 [(0, 0), (0, 1), (0, 2), (0, 3), (0, 4), (0, 5), (0, 6), (1, 7), (1, 8), (1, 9), (2, 10), (2, 11), (2, 12)] mo (by kernel_rfl) ?_
      intro w6 hx6 hh6
      have hz6 := hx6.size
      replace hC := hC.step0 hx6
      replace hW := hW.chg0 hx6
      replace hB4 := hB4.chg0 hx6
      replace hO := hO.chg0 hx6
      replace hO2 := hO2.chg0 hx6
      replace hG := hG.chg0 hx6
      replace hBf := hBf.chg0 hx6
      replace hBl := hBl.chg0 hx6
      have hCS6 := Chg.refl (blkOf A) w6
      refine EP.f rfl (Does.move rfl) ?_
      refine EP.f rfl (Does.move rfl) ?_
      refine EP.f rfl (Does.nilCheck rfl) ?_
      refine EP.f rfl (Does.fieldAddr fl120_1 rfl) ?_
      refine EP.f rfl (Does.loadBc o23 rfl (by assumption) (by intro h; have := hOb _ h; omega) (by rfl)) ?_
      refine EP.f rfl (Does.move rfl) ?_
      refine EP.f rfl (Does.move rfl) ?_
      refine EP.call1 rfl (Enters.fn fb66 rfl) (wset_c _ pw k q i hin (by omega) _ hW (fun b h => by have := hF b h; omega)) ?_
      rintro _ w7 ⟨rfl, hx7⟩
      have hz7 := hx7.size
      replace hC := hC.step0 hx7
      replace hW := hW.chg0 hx7
      replace hB4 := hB4.chg0 hx7
      replace hO := hO.chg0 hx7
      replace hO2 := hO2.chg0 hx7
      replace hG := hG.chg0 hx7
      replace hBf := hBf.chg0 hx7
      replace hBl := hBl.chg0 hx7
      replace hCS6 := hCS6.step0 hx7
      refine ⟨hCS6, ?_⟩
      refine EP.new1 rfl (News.buildL sl23 Tryz.underlying23 zr70 rfl rfl rfl (by rfl)) ?_
      intro b8 w8 hb8 hs8 hx8 hB8
      have hz8 := hx8.size
      replace hC := hC.step0 hx8
      replace hW := hW.chg0 hx8
      replace hB4 := hB4.chg0 hx8
      replace hO := hO.chg0 hx8
      replace hO2 := hO2.chg0 hx8
      replace hG := hG.chg0 hx8
      replace hBf := hBf.chg0 hx8
      replace hBl := hBl.chg0 hx8
      replace hCS6 := hCS6.step0 hx8
      refine ⟨hCS6, ?_⟩
      refine EP.append1 rfl el23 rfl rfl hO (Blk.rd (F := fun _ => True) (by assumption) rfl trivial) (by rfl) (by omega) (by omega) ?_
      intro A' c' w9 hO9 hx9 hA'
      have hz9 := hx9.size
      replace hC := hC.step hx9 (by intro x h; have := hOb x h; exact .inr (by omega))
      replace hW := hW.chg hx9 (by intro x hx hf; have := hOb x hx; have h1 := hf.1; have h2 := hf.2.1; omega)
      replace hB4 := hB4.chg hx9 (by intro h; have := hOb _ h; omega)
      replace hO2 := (by exact hO2.keep hx9 (by assumption))
      replace hG := hG.chg hx9 (by assumption)
      replace hBf := hBf.chg hx9 (by intro h; have := hOb _ h; omega)
      replace hBl := hBl.chg hx9 (by intro h; have := hOb _ h; omega)
      replace hCS6 := hCS6.step hx9 (by exact fun x h => .inl h)
      replace hB8 := hB8.chg hx9 (by intro h; have := hOb _ h; omega)
      clear hO; have hO := hO9; clear hO9
      refine ⟨hCS6, ?_⟩
      have hAb := hO.blk
      have hAQ := hO.apart hO2 (by decide)
      refine EP.o rfl (Does.nilCheck rfl) ?_
      refine EP.o rfl (Does.fieldAddr fl120_1 rfl) ?_
      refine EP.put2 (Puts.blk sz23 rfl rfl (by assumption) rfl rfl rfl rfl (by simp only [List.take, List.drop, List.append, List.cons_append, List.nil_append]; rfl)) ?_
      intro w10 hs10 hx10 hB10
      have hz10 := hx10.size
      replace hC := hC.step hx10 (by simp; omega)
      replace hW := hW.chg hx10 (by intro b hb hFb; have := hF _ hFb; simp at hb; omega)
      replace hO := (by exact hO.chg hx10 (by first | (intro x hx; simp at hx; left; omega) | (intro x hx; simp at hx; right; rw [hx]; assumption) | (intro x hx; have hx := List.mem_singleton.1 hx; right; intro h; have := hOb x (by rw [h]; exact List.mem_singleton.2 rfl); omega) | (intro x hx; have := hOb x hx; left; omega)))
      replace hO2 := (by exact hO2.chg hx10 (by first | (intro x hx; simp at hx; left; omega) | (intro x hx; simp at hx; right; rw [hx]; assumption) | (intro x hx; have hx := List.mem_singleton.1 hx; right; intro h; have := hOb x (by rw [h]; exact List.mem_singleton.2 rfl); omega) | (intro x hx; have := hOb x hx; left; omega)))
      replace hG := hG.chg hx10 (by intro x hx; have h1 := hbL x hx; simp; omega)
      replace hBf := hBf.chg hx10 (by simp; omega)
      replace hBl := hBl.chg hx10 (by simp; omega)
      replace hB8 := hB8.chg hx10 (by simp; omega)
      clear hB4; have hB4 := hB10; clear hB10
      refine EP.nil ?_
      refine EW.drw' (S := blkOf A2) 10 [(0, 0), (0, 1), (0, 2), (0, 3), (0, 4), (0, 5), (0, 6), (1, 7), (1, 8), (1, 9), (2, 10), (2, 11), (2, 12)] mo (by kernel_rfl) ?_
      intro w11 hx11 hh11
      have hz11 := hx11.size
      replace hC := hC.step0 hx11
      replace hW := hW.chg0 hx11
      replace hB4 := hB4.chg0 hx11
      replace hO := hO.chg0 hx11
      replace hO2 := hO2.chg0 hx11
      replace hG := hG.chg0 hx11
      replace hBf := hBf.chg0 hx11
      replace hBl := hBl.chg0 hx11
      replace hB8 := hB8.chg0 hx11
      have hCS11 := Chg.refl (blkOf A2) w11
      have hGA2 := hG.off hO2 (by decide)
      refine EP.f rfl (Does.move rfl) ?_
      refine EP.f rfl (Does.move rfl) ?_
      refine EP.f rfl (Does.nilCheck rfl) ?_
      refine EP.f rfl (Does.fieldAddr fl120_4 rfl) ?_
      refine EP.f rfl (Does.loadBc o25 rfl (by assumption) (by intro h; have := hQb _ h; omega) (by rfl)) ?_
      refine EP.f rfl (Does.move rfl) ?_
      refine EP.f rfl (Does.move rfl) ?_
      refine EP.call1 rfl (Enters.fn fb67 rfl) (follow_row_c _ pw k q i hin _ (by omega) hW (fun b h => by have := hF b h; omega)) ?_
      rintro v12 w12 ⟨hx12, br, rfl, hbr, hBr⟩
      have hz12 := hx12.size
      replace hC := hC.step0 hx12
      replace hW := hW.chg0 hx12
      replace hB4 := hB4.chg0 hx12
      replace hO := hO.chg0 hx12
      replace hO2 := hO2.chg0 hx12
      replace hG := hG.chg0 hx12
      replace hBf := hBf.chg0 hx12
      replace hBl := hBl.chg0 hx12
      replace hB8 := hB8.chg0 hx12
      replace hCS11 := hCS11.step0 hx12
      refine ⟨hCS11, ?_⟩
      try have hlBr := hBr.lt
      refine EP.new1 rfl (News.buildL sl25 Tryz.underlying25 zr24 rfl rfl rfl (by rfl)) ?_
      intro b13 w13 hb13 hs13 hx13 hB13
      have hz13 := hx13.size
      replace hC := hC.step0 hx13
      replace hW := hW.chg0 hx13
      replace hB4 := hB4.chg0 hx13
      replace hO := hO.chg0 hx13
      replace hO2 := hO2.chg0 hx13
      replace hG := hG.chg0 hx13
      replace hBf := hBf.chg0 hx13
      replace hBl := hBl.chg0 hx13
      replace hB8 := hB8.chg0 hx13
      replace hCS11 := hCS11.step0 hx13
      replace hBr := hBr.chg0 hx13
      refine ⟨hCS11, ?_⟩
      refine EP.append1 rfl el25 rfl rfl hO2 (Blk.rd (F := fun _ => True) (by assumption) rfl trivial) (by rfl) (by omega) (by omega) ?_
      intro A2' c2' w14 hO14 hx14 hA2'
      have hz14 := hx14.size
      replace hC := hC.step hx14 (by intro x h; have := hQb x h; exact .inr (by omega))
      replace hW := hW.chg hx14 (by intro x hx hf; have := hQb x hx; have h1 := hf.1; have h2 := hf.2.1; omega)
      replace hB4 := hB4.chg hx14 (by intro h; have := hQb _ h; omega)
      replace hO := (by exact hO.keep hx14 (by assumption))
      replace hG := hG.chg hx14 (by assumption)
      replace hBf := hBf.chg hx14 (by intro h; have := hQb _ h; omega)
      replace hBl := hBl.chg hx14 (by intro h; have := hQb _ h; omega)
      replace hB8 := hB8.chg hx14 (by intro h; have := hQb _ h; omega)
      replace hCS11 := hCS11.step hx14 (by exact fun x h => .inl h)
      replace hBr := hBr.chg hx14 (by intro h; have := hQb _ h; omega)
      replace hB13 := hB13.chg hx14 (by intro h; have := hQb _ h; omega)
      clear hO2; have hO2 := hO14; clear hO14
      refine ⟨hCS11, ?_⟩
      have hoN : ∀ x ∈ blkOf A', x ∉ blkOf A2 := hAQ
      refine EP.o rfl (Does.nilCheck rfl) ?_
      refine EP.o rfl (Does.fieldAddr fl120_4 rfl) ?_
      refine EP.put2 (Puts.blk sz25 rfl rfl (by assumption) rfl rfl rfl rfl (by simp only [List.take, List.drop, List.append, List.cons_append, List.nil_append]; rfl)) ?_
      intro w15 hs15 hx15 hB15
      have hz15 := hx15.size
      replace hC := hC.step hx15 (by simp; omega)
      replace hW := hW.chg hx15 (by intro b hb hFb; have := hF _ hFb; simp at hb; omega)
      replace hO := (by exact hO.chg hx15 (by first | (intro x hx; simp at hx; left; omega) | (intro x hx; simp at hx; right; rw [hx]; assumption) | (intro x hx; have hx := List.mem_singleton.1 hx; right; intro h; have := hOb x (by rw [h]; exact List.mem_singleton.2 rfl); omega) | (intro x hx; have := hOb x hx; left; omega)))
      replace hO2 := (by exact hO2.chg hx15 (by first | (intro x hx; simp at hx; left; omega) | (intro x hx; simp at hx; right; rw [hx]; assumption) | (intro x hx; have hx := List.mem_singleton.1 hx; right; intro h; have := hOb x (by rw [h]; exact List.mem_singleton.2 rfl); omega) | (intro x hx; have := hOb x hx; left; omega)))
      replace hG := hG.chg hx15 (by intro x hx; have h1 := hbL x hx; simp; omega)
      replace hBf := hBf.chg hx15 (by simp; omega)
      replace hBl := hBl.chg hx15 (by simp; omega)
      replace hB8 := hB8.chg hx15 (by simp; omega)
      replace hBr := hBr.chg hx15 (by simp; omega)
      replace hB13 := hB13.chg hx15 (by simp; omega)
      clear hB4; have hB4 := hB15; clear hB15
      refine EP.nil ?_
      refine EW.reg ?_
      refine EP.o rfl (Does.addi rfl rfl (by omega)) ?_
      refine EP.o rfl (Does.move rfl) ?_
      refine EP.nil ?_
      refine ⟨(i + 1, A', c', A2', c2', gs ++ [br]), ⟨rfl, rfl, rfl, rfl, trivial⟩, ?_, ?_⟩
      have hgd : q.G.getD i zeroF = q.G.getD gs.length zeroF := by rw [hgl]
      rw [hgd] at hBr
      refine ⟨hC, hW, hB4, ?_, ?_, hG.snoc (by omega) hBr, by simp [hgl], hin, hBf, hBl⟩
      rw [show q.S.take (i + 1) = q.S.take i ++ [q.S.getD i 0] from by rw [List.take_add_one, List.getElem?_eq_getElem hin, List.getD_eq_getElem?_getD, List.getElem?_eq_getElem hin]; rfl, setsCells_append]
      exact hO
      unfold rowsV
      rw [List.map_append]
      exact hO2
      show q.S.length - (i + 1) < q.S.length - i
      omega
    · try simp at h2
      have hkk : i = q.S.length := by omega
      subst hkk
      rw [List.take_of_length_le (Nat.le_refl _)] at hO
      refine EW.exit (brk_here ?_)
      refine EW.seq ?_
      refine EW.reg ?_
      refine EP.o rfl (Does.move rfl) ?_
      refine EP.o rfl (Does.assign rfl) ?_
      refine EP.o rfl (Does.assign rfl) ?_
      refine EP.nil ?_
      refine EW.ret ?_
      refine Fin.two rfl rfl rfl ?_
      refine ⟨hC, fun h => by omega, fun _ => ⟨b4, rfl, pw, A, c, bf, bl, A2, c2, gs, hB4, ⟨by omega, by omega, by simp⟩, hW.mono (fun y hy _ => ⟨hy.1, by have := hy.2.1; omega, by simp⟩), hO.rd (fun x h1 h2 => ⟨by omega, h2, by simp⟩), hBf, ⟨by omega, by omega, by simp⟩, hBl, ⟨by omega, by omega, by simp⟩, hO2.rd (fun x h1 h2 => ⟨by omega, h2, by simp⟩), hG.low (Nat.zero_le _), fun x hx => ⟨by have := (hG.mem hx).1; omega, by obtain ⟨_, cs, hb⟩ := hG.mem hx; exact hb.lt, by simp⟩, hgl⟩⟩
end Go.Clt
end
section
set_option linter.unusedVariables false
set_option linter.unusedSimpArgs false
set_option maxRecDepth 4000
namespace Go.Clt
open Go Go.RowKit Go.Proofs
section
variable {P : Program} {n : Nat} {ops : Array Oper} {S : World → Prop} {N : Env → World → Prop} {B : Nat → Env → World → Prop} {R : Env → World → Prop} {e : Env} {w : World}
variable {rest : List (Nat × Oper)} {d : Nat} {op : Op} {t : TypeId} {p : String} {af : Array Edge} {dst : Option Tmp} {g : Option (Nat × Bool)}
theorem take_set {α : Type} (l : List α) (m i : Nat) (v : α) : (l.set i v).take m = (l.take m).set i v := by
  apply List.ext_getElem?
  intro j
  simp only [List.getElem?_take, List.getElem?_set, List.length_take]
  by_cases h1 : j < m
  · rw [if_pos h1, if_pos h1]
    by_cases h2 : i = j
    · subst h2
      rw [if_pos rfl, if_pos rfl]
      by_cases h3 : i < l.length
      · rw [if_pos h3, if_pos (by omega)]
      · rw [if_neg h3, if_neg (by omega)]
    · rw [if_neg h2, if_neg h2]
  · rw [if_neg h1, if_neg h1]
    by_cases h2 : i = j
    · rw [if_pos h2, if_neg (by omega)]
    · rw [if_neg h2]
theorem set_cut {α : Type} (l : List α) (i : Nat) (v : α) (h : i < l.length) : l.take i ++ [v] ++ l.drop (i + 1) = l.set i v := by
  rw [List.set_eq_take_append_cons_drop, if_pos h]; simp
theorem own_put {lo : Nat} {el : TypeId} {m c i : Nat} {A : Option Addr} {cs : List Value} {v : Value} (h : Own w lo el 1 A m c cs) (hi : i < m) (h1 : v.oneCell' = true) :
    ∃ b w', A = some ⟨b, 0, none⟩ ∧ (storeCells ⟨b, i, none⟩ [v]).run P w = .ok () w' ∧ w'.heap.size = w.heap.size ∧ Chg (blkOf A) w w' ∧ Own w' lo el 1 A m c (cs.set i v) := by
  obtain ⟨hl, h⟩ := h
  rcases h with ⟨hA, h2⟩ | ⟨b, cap, cur, hA, hb, hh, h2, h3, h4, h5⟩
  · omega
  · cases hA
    have hcl : i < cur.toList.length := by simp; omega
    obtain ⟨w', hr, h6, h7, h8⟩ := blk_set (P := P) (w := w) (b := b) (cs := cur.toList) (τ := el) (by simpa [Blk] using hh) (o := i) (vs := [v]) (by simp at hcl ⊢; omega) (by simpa using h1)
    refine ⟨b, w', rfl, hr, h7, by simpa [blkOf] using h6, by simpa using hl, .inr ⟨b, c, _, rfl, hb, h8, h2, h3, ?_, ?_⟩⟩
    · simp; simp at hcl; omega
    · rw [List.length_singleton, set_cut _ _ _ hcl, List.toList_toArray, take_set, h5]
theorem EP.own2 {τ : TypeId} {x y : Operand} {lo : Nat} {el : TypeId} {m c i : Nat} {A : Option Addr} {b o : Nat} {cs : List Value} {v : Value} (hs : szB P τ 1 = true) (hx : ev e x = some (.pointer (some ⟨b, o, none⟩))) (hy : ev e y = some v) (hA : A = some ⟨b, 0, none⟩) (ho : o = i) (h : Own w lo el 1 A m c cs) (hi : i < m) (hv : v.cells = #[v]) (h1 : v.oneCell' = true)
    (hn : ∀ w', w'.heap.size = w.heap.size → Chg (blkOf A) w w' → Own w' lo el 1 A m c (cs.set i v) → EP P n ops S N B R rest e w') : EP P n ops S N B R ((2, ⟨none, .store τ x y, t, p, af, none⟩) :: rest) e w := by
  obtain ⟨b', w', hA', hr, h3, h4, h5⟩ := own_put (P := P) h hi h1
  rw [hA] at hA'
  injection hA' with hA'
  injection hA' with hb'
  subst hb' ho
  refine EP.s2 (fun a ha => ?_) (hn w' h3 h4 h5)
  simp [execOp, ha.ev hx, ha.ev hy, Instr.storeAt, Instr.sureAddr, storeVar, sizeOf_run hs, hv, hr]
end
def nats (l : List Nat) : List Value := l.map fun i => .int .i64 ((i : Nat) : Int)
theorem nats_len (l : List Nat) : (nats l).length = l.length := by simp [nats]
theorem nats_get (l : List Nat) (k : Nat) (h : k < l.length) : (nats l)[k]? = some (.int .i64 ((l.getD k 0 : Nat) : Int)) := by simp [nats, List.getElem?_eq_getElem h, List.getD_eq_getElem?_getD]
theorem ints_one (l : List Int) : (ints l).all Value.oneCell' = true := by
  induction l with
  | nil => rfl
  | cons b r ih => simp only [ints, List.map_cons, List.all_cons, Bool.and_eq_true] at *; exact ⟨rfl, ih⟩
def keptU (S : List Nat) (v : List Int) (b i : Nat) : List Int := v.mapIdx fun j x => if j < i ∧ (S.getD j 0).testBit b = false then 0 else x
def keptL (S : List Nat) (v : List Int) (b : Nat) : List Int := v.mapIdx fun j x => if (S.getD j 0).testBit b = false then 0 else x
theorem keptU_zero (S : List Nat) (v : List Int) (b : Nat) : keptU S v b 0 = v := by
  apply List.ext_getElem?; intro j; simp [keptU]
theorem keptU_full (S : List Nat) (v : List Int) (b i : Nat) (h : v.length ≤ i) : keptU S v b i = keptL S v b := by
  apply List.ext_getElem?
  intro j
  simp only [keptU, keptL, List.getElem?_mapIdx]
  cases hj : v[j]? with
  | none => rfl
  | some x =>
    have := (List.getElem?_eq_some_iff.1 hj).1
    simp only [Option.map_some]
    by_cases h2 : (S.getD j 0).testBit b = false
    · rw [if_pos ⟨by omega, h2⟩, if_pos h2]
    · rw [if_neg (fun h3 => h2 h3.2), if_neg h2]
theorem keptU_out (S : List Nat) (v : List Int) (b i : Nat) (hb : (S.getD i 0).testBit b = false) : ints (keptU S v b (i + 1)) = (ints (keptU S v b i)).set i (.int .i64 0) := by
  apply List.ext_getElem?
  intro j
  simp only [ints, keptU, List.getElem?_map, List.getElem?_mapIdx, List.getElem?_set, List.length_map, List.length_mapIdx]
  by_cases hij : i = j
  · subst hij
    rw [if_pos rfl]
    by_cases hl : i < v.length
    · rw [if_pos hl, List.getElem?_eq_getElem hl]
      simp only [Option.map_some]
      rw [if_pos ⟨by omega, hb⟩]
    · rw [if_neg hl, List.getElem?_eq_none (by omega)]; rfl
  · rw [if_neg hij]
    cases v[j]? with
    | none => rfl
    | some x =>
      simp only [Option.map_some]
      by_cases h2 : j < i
      · by_cases h3 : (S.getD j 0).testBit b = false
        · rw [if_pos ⟨by omega, h3⟩, if_pos ⟨h2, h3⟩]
        · rw [if_neg (fun h => h3 h.2), if_neg (fun h => h3 h.2)]
      · rw [if_neg (fun h => by omega), if_neg (fun h => h2 h.1)]
theorem keptU_in (S : List Nat) (v : List Int) (b i : Nat) (hb : (S.getD i 0).testBit b = true) : keptU S v b (i + 1) = keptU S v b i := by
  apply List.ext_getElem?
  intro j
  simp only [keptU, List.getElem?_mapIdx]
  cases v[j]? with
  | none => rfl
  | some x =>
    simp only [Option.map_some]
    by_cases hij : j = i
    · subst hij
      rw [if_neg (fun h => by rw [hb] at h; exact absurd h.2 (by simp)), if_neg (fun h => by omega)]
    · by_cases h2 : j < i
      · by_cases h3 : (S.getD j 0).testBit b = false
        · rw [if_pos ⟨by omega, h3⟩, if_pos ⟨h2, h3⟩]
        · rw [if_neg (fun h => h3 h.2), if_neg (fun h => h3 h.2)]
      · rw [if_neg (fun h => by omega), if_neg (fun h => h2 h.1)]
def someL (v : List Int) : List Nat := (List.range v.length).filter fun i => decide (0 < v.getD i 0)
def someU (v : List Int) (k : Nat) : List Nat := (List.range k).filter fun i => decide (0 < v.getD i 0)
theorem someU_succ (v : List Int) (k : Nat) : someU v (k + 1) = if 0 < v.getD k 0 then someU v k ++ [k] else someU v k := by
  unfold someU
  rw [List.range_succ, List.filter_append]
  split
  · rename_i h; simp only [List.filter_cons, h, decide_true, if_true, List.filter_nil]
  · rename_i h; simp only [List.filter_cons, h, decide_false, Bool.false_eq_true, if_false, List.filter_nil, List.append_nil]
theorem someU_le (v : List Int) (k : Nat) : (someU v k).length ≤ k := by
  have := List.length_filter_le (fun i => decide (0 < v.getD i 0)) (List.range k)
  simpa [someU] using this
end Go.Clt
end
section
set_option linter.unusedVariables false
set_option linter.unusedSimpArgs false
set_option maxRecDepth 4000
namespace Go.Clt
set_option maxHeartbeats 4000000
open Go Go.RowKit Go.Proofs
theorem kept_c (F : Nat → Prop) (pa : Nat) (k : Kn) (q : Wst) (v : List Int) (b : Nat) (A : Option Addr) (c lo : Nat) (w : World) (hb : b < 256) (hn : q.S.length ≤ 1000000) (hv : v.length = q.S.length) (hW : IsAut F w pa k q) (hF : ∀ x, F x → x < lo) (hO : Own w lo 3 1 A q.S.length c (ints v)) :
    Calls P 192 #[.pointer (some ⟨pa, 0, none⟩), .slice A q.S.length c, .int .u8 b] w (Ret fun u w' => u = .slice A q.S.length c ∧ Chg (blkOf A) w w' ∧ Own w' lo 3 1 A q.S.length c (ints (keptL q.S v b))) := by
  have hC := Chg.refl (blkOf A) w
  obtain ⟨pw, As, cs, bf, bl, A2, c2, gs, h⟩ := hW
  have hB0 := h.blk
  have hR := h.rs
  have hFp := hF _ h.fp
  have hOb0 := hO.blk
  try have hlB0 := hB0.lt
  try have hlR := hR.lt
  refine enter Tryz.func192 rfl rfl ?_
  refine EW.seq ?_
  refine EW.reg ?_
  refine EP.o rfl (Does.assign rfl) ?_
  refine EP.nil ?_
  refine EW.seq ?_
  refine EW.seq ?_
  refine EW.reg ?_
  refine EP.o rfl (Does.move rfl) ?_
  refine EP.o rfl (Does.lenL Tryz.underlying24 rfl) ?_
  refine EP.o rfl (Does.move rfl) ?_
  refine EP.nil ?_
  refine EW.block ?_
  refine EW.loop (σ := Nat) (fun i => [(0, .pointer (some ⟨pa, 0, none⟩)), (1, .slice A q.S.length c), (2, .int .u8 b), (9, .int .i64 (q.S.length : Nat)), (10, .int .i64 i)]) (fun i wr => Chg (blkOf A) w wr ∧ Blk wr pa [.pointer (some ⟨pw, 0, none⟩), .slice As q.S.length cs, .slice (some ⟨bf, 0, none⟩) q.S.length q.S.length, .slice (some ⟨bl, 0, none⟩) q.S.length q.S.length, .slice A2 q.S.length c2] 120 ∧ Rd F wr 4 As q.S.length (setsCells q.S) ∧ Own wr lo 3 1 A q.S.length c (ints (keptU q.S v b i)) ∧ i ≤ q.S.length) (fun i wr => q.S.length - i) 0 ⟨rfl, rfl, rfl, rfl, rfl, trivial⟩ ?_ ?_
  · exact ⟨hC, hB0, hR, by rw [keptU_zero]; exact hO, Nat.zero_le _⟩
  rintro i w9 ⟨hC, hB0, hR, hO, hi⟩
  have hOb := hO.blk
  try have hzw := hC.size
  try have hlB0 := hB0.lt
  try have hlR := hR.lt
  refine EW.seq ?_
  refine EW.reg ?_
  refine EP.o rfl (Does.cmp rfl rfl rfl) ?_
  refine EP.nil ?_
  refine EW.seq ?_
  refine EW.cond rfl (fun h1 => ?_) (fun h1 => ?_)
  · try simp at h1
    have hin : i < q.S.length := by omega
    obtain ⟨g, off, hAs, _, hgl, hc⟩ := hR.at_ (by omega)
    subst hAs
    refine EW.skip ?_
    refine EW.seq ?_
    refine EW.block ?_
    refine EW.seq ?_
    refine EW.reg ?_
    refine EP.o rfl (Does.move rfl) ?_
    refine EP.o rfl (Does.assign rfl) ?_
    refine EP.nil ?_
    refine EW.seq ?_
    refine EW.reg ?_
    refine EP.o rfl (Does.move rfl) ?_
    refine EP.o rfl (Does.nilCheck rfl) ?_
    refine EP.o rfl (Does.fieldAddr fl120_1 rfl) ?_
    refine EP.o rfl (Does.loadB o23 rfl (Keeps.now _) (by assumption) (by rfl)) ?_
    refine EP.o rfl (Does.move rfl) ?_
    refine EP.o rfl (Does.indexAddr sl23 rfl rfl (by omega) (by omega)) ?_
    refine EP.o rfl (Does.loadCs (vs := (setCells (q.S.getD i 0))) ag70 rfl (Keeps.now _) (fun j v hj => by have hj4 : j < 4 := (List.getElem?_eq_some_iff.1 hj).1; rw [Nat.add_assoc]; exact hc _ v (by rw [show (((i : Nat) : Int)).toNat = i from by omega, setsCells_get _ _ _ hin hj4]; exact hj)) rfl) ?_
    refine EP.o rfl (Does.move rfl) ?_
    refine EP.call2 rfl (Enters.fn fb137 rfl) (has_c (q.S.getD i 0) b hb _) ?_
    rintro _ w1 ⟨rfl, hx1⟩
    have hz1 := hx1.size
    replace hC := hC.step0 hx1
    replace hB0 := hB0.chg0 hx1
    replace hR := hR.chg0 hx1
    replace hO := hO.chg0 hx1
    refine EP.o rfl (Does.not rfl) ?_
    refine EP.nil ?_
    refine EW.cond rfl (fun h2 => ?_) (fun h2 => ?_)
    · try simp at h2
      obtain ⟨gA, curA, hA, _⟩ : ∃ gA cur, A = some ⟨gA, 0, none⟩ ∧ Blk w1 gA cur 3 := by
        rcases hO.form with ⟨_, h0⟩ | ⟨gA, cur, h1, _, h2, _⟩
        · omega
        · exact ⟨gA, cur, h1, h2⟩
      subst hA
      refine EW.reg ?_
      refine EP.o rfl (Does.move rfl) ?_
      refine EP.o rfl (Does.move rfl) ?_
      refine EP.o rfl (Does.indexAddr1 sl24 rfl rfl (by omega) (by omega)) ?_
      refine EP.own2 sz3 rfl rfl rfl rfl hO (by omega) rfl rfl ?_
      intro w2 hs2 hx2 hO2
      have hz2 := hx2.size
      replace hC := hC.step hx2 (by exact fun x h => .inl h)
      replace hB0 := hB0.chg hx2 (by intro h; have := hOb _ h; omega)
      replace hR := hR.chg hx2 (by intro x hx hf; have := hOb x hx; have := hF x hf; omega)
      clear hO; have hO := hO2; clear hO2
      refine EP.nil ?_
      refine EW.reg ?_
      refine EP.o rfl (Does.addi rfl rfl (by omega)) ?_
      refine EP.o rfl (Does.move rfl) ?_
      refine EP.nil ?_
      refine ⟨i + 1, ⟨rfl, rfl, rfl, rfl, rfl, trivial⟩, ?_, ?_⟩
      exact ⟨hC, hB0, hR, by rw [keptU_out _ _ _ _ h2]; simpa using hO, hin⟩
      omega
    · try simp at h2
      refine EW.skip ?_
      refine EW.reg ?_
      refine EP.o rfl (Does.addi rfl rfl (by omega)) ?_
      refine EP.o rfl (Does.move rfl) ?_
      refine EP.nil ?_
      refine ⟨i + 1, ⟨rfl, rfl, rfl, rfl, rfl, trivial⟩, ?_, ?_⟩
      exact ⟨hC, hB0, hR, by rw [keptU_in _ _ _ _ h2]; exact hO, hin⟩
      omega
  · try simp at h1
    have hkk : i = q.S.length := by omega
    subst hkk
    rw [keptU_full _ _ _ _ (by omega)] at hO
    refine EW.exit (brk_here ?_)
    refine EW.seq ?_
    refine EW.reg ?_
    refine EP.o rfl (Does.move rfl) ?_
    refine EP.o rfl (Does.assign rfl) ?_
    refine EP.nil ?_
    refine EW.ret ?_
    refine Fin.one rfl rfl ?_
    exact ⟨rfl, hC, hO⟩
theorem begin_vec_c (F : Nat → Prop) (pa : Nat) (k : Kn) (q : Wst) (b : Nat) (w : World) (hb : b < 256) (hn : q.S.length ≤ 1000000) (hW : IsAut F w pa k q) (hF : ∀ x, F x → x < w.heap.size) :
    Calls P 165 #[.pointer (some ⟨pa, 0, none⟩), .int .u8 b] w (Ret fun u w' => Chg [] w w' ∧ ∃ A c, u = .slice A q.S.length c ∧ Own w' w.heap.size 3 1 A q.S.length c (ints (keptL q.S (rowL k.first q.S.length) b))) := by
  have hC := Chg.refl [] w
  obtain ⟨pw, As, cs, bf, bl, A2, c2, gs, h⟩ := hW
  have hW : IsAut F w pa k q := ⟨pw, As, cs, bf, bl, A2, c2, gs, h⟩
  have hB0 := h.blk
  have hBf := h.first
  have hrl := rowL_len k.first q.S.length
  have hrd := hBf.rd (F := fun _ => True) (sz := 1) (m := q.S.length) (by rw [ints_length, hrl, Nat.mul_one]) trivial
  have hO := Own.nil w w.heap.size 3 1
  try have hlB0 := hB0.lt
  refine enter Tryz.func165 rfl rfl ?_
  refine EW.seq ?_
  refine EW.reg ?_
  refine EP.o rfl (Does.assign rfl) ?_
  refine EP.nil ?_
  refine EW.seq ?_
  refine EW.seq ?_
  refine EW.reg ?_
  refine EP.o rfl (Does.move rfl) ?_
  refine EP.o rfl (Does.eqPtr Tryz.underlying22 rfl rfl) ?_
  refine EP.nil ?_
  refine EW.cond rfl (fun h0 => ?_) (fun h0 => ?_)
  · try simp at h0
    all_goals cases h0
  · try simp at h0
    refine EW.skip ?_
    refine EW.seq ?_
    refine EW.reg ?_
    refine EP.o rfl (Does.move rfl) ?_
    refine EP.o rfl (Does.move rfl) ?_
    refine EP.o rfl (Does.nilCheck rfl) ?_
    refine EP.o rfl (Does.fieldAddr fl120_2 rfl) ?_
    refine EP.o rfl (Does.loadB o24 rfl (Keeps.now _) (by assumption) (by rfl)) ?_
    refine EP.append2 rfl el24 rfl rfl hO (hrd) (by exact ints_one _) (by omega) (Nat.le_refl _) ?_
    intro A' c' w1 hO1 hx1 hA'
    have hz1 := hx1.size
    replace hC := hC.step0 hx1
    replace hB0 := hB0.chg0 hx1
    replace hW := hW.chg0 hx1
    clear hO; have hO := hO1; clear hO1
    rw [Nat.zero_add, List.nil_append] at hO
    rw [Nat.zero_add q.S.length]
    have hOb := hO.blk
    refine EP.o rfl (Does.move rfl) ?_
    refine EP.call2 rfl (Enters.fn fb192 rfl) (kept_c F pa k q (rowL k.first q.S.length) b A' c' w.heap.size _ hb hn hrl hW hF hO) ?_
    rintro v9 w2 ⟨rfl, hxk, hOk⟩
    have hzk := hxk.size
    replace hC := hC.step hxk (by intro x h; have := hOb x h; exact .inr (by omega))
    replace hB0 := hB0.chg hxk (by intro h; have := hOb _ h; omega)
    replace hW := hW.chg hxk (by intro x hx hf; have := hOb x hx; have := hF x hf; omega)
    refine EP.o rfl (Does.assign rfl) ?_
    refine EP.nil ?_
    refine EW.ret ?_
    refine Fin.one rfl rfl ?_
    exact ⟨hC, A', c', rfl, hOk⟩
end Go.Clt
end
section
set_option linter.unusedVariables false
set_option linter.unusedSimpArgs false
set_option maxRecDepth 4000
namespace Go.Clt
set_option maxHeartbeats 4000000
open Go Go.RowKit Go.Proofs
theorem nats_snoc (l : List Nat) (k : Nat) : nats (l ++ [k]) = nats l ++ [.int .i64 ((k : Nat) : Int)] := by simp [nats]
theorem some_c (v : List Int) (F : Nat → Prop) (A : Option Addr) (c : Nat) (w : World) (hn : v.length ≤ 1000000) (hF : ∀ x, F x → x < w.heap.size) (hr : Rd F w 1 A v.length (ints v)) :
    Calls P 141 #[.slice A v.length c] w (Ret fun u w' => Chg [] w w' ∧ ∃ A' c', u = .slice A' (someL v).length c' ∧ Own w' w.heap.size 3 1 A' (someL v).length c' (nats (someL v))) := by
  have hC := Chg.refl [] w
  refine enter Tryz.func141 rfl rfl ?_
  refine EW.seq ?_
  refine EW.reg ?_
  refine EP.o rfl (Does.assign rfl) ?_
  refine EP.nil ?_
  refine EW.seq ?_
  refine EW.reg ?_
  refine EP.o rfl (Does.assign rfl) ?_
  refine EP.nil ?_
  refine EW.seq ?_
  refine EW.seq ?_
  refine EW.reg ?_
  refine EP.o rfl (Does.move rfl) ?_
  refine EP.o rfl (Does.lenL Tryz.underlying24 rfl) ?_
  refine EP.o rfl (Does.move rfl) ?_
  refine EP.nil ?_
  refine EW.block ?_
  refine EW.loop (σ := Nat × Option Addr × Nat) (fun (i, A', c') => [(3, .slice A' (someU v i).length c'), (6, .slice A v.length c), (7, .int .i64 (v.length : Nat)), (8, .int .i64 i)]) (fun (i, A', c') wr => Chg [] w wr ∧ Rd F wr 1 A v.length (ints v) ∧ Own wr w.heap.size 3 1 A' (someU v i).length c' (nats (someU v i)) ∧ i ≤ v.length) (fun (i, A', c') wr => v.length - i) (0, none, 0) ⟨rfl, rfl, rfl, rfl, trivial⟩ ?_ ?_
  · exact ⟨hC, hr, Own.nil _ _ _ _, Nat.zero_le _⟩
  rintro ⟨i, A', c'⟩ w9 ⟨hC, hr, hO, hi⟩
  have hOb := hO.blk
  have hul := someU_le v i
  try have hzw := hC.size
  refine EW.seq ?_
  refine EW.reg ?_
  refine EP.o rfl (Does.cmp rfl rfl rfl) ?_
  refine EP.nil ?_
  refine EW.seq ?_
  refine EW.cond rfl (fun h1 => ?_) (fun h1 => ?_)
  · try simp at h1
    have hin : i < v.length := by omega
    have hcell := (show ∃ g off, A = some ⟨g, off, none⟩ from by obtain ⟨g, off, h, _⟩ := hr.at_ (by omega); exact ⟨g, off, h⟩)
    obtain ⟨g, off, rfl⟩ := hcell
    refine EW.skip ?_
    refine EW.seq ?_
    refine EW.block ?_
    refine EW.seq ?_
    refine EW.reg ?_
    refine EP.o rfl (Does.move rfl) ?_
    refine EP.o rfl (Does.indexAddr1 sl24 rfl rfl (by omega) (by omega)) ?_
    refine EP.o rfl (Does.load1 o3 rfl (Keeps.now _) (hr.one (ints_get v i hin)).2) ?_
    refine EP.o rfl (Does.assign rfl) ?_
    refine EP.o rfl (Does.assign rfl) ?_
    refine EP.nil ?_
    refine EW.seq ?_
    refine EW.reg ?_
    refine EP.o rfl (Does.move rfl) ?_
    refine EP.o rfl (Does.cmp rfl rfl rfl) ?_
    refine EP.nil ?_
    refine EW.cond rfl (fun h2 => ?_) (fun h2 => ?_)
    · try simp at h2
      refine EW.reg ?_
      refine EP.o rfl (Does.move rfl) ?_
      refine EP.o rfl (Does.move rfl) ?_
      refine EP.new2 rfl (News.buildL sl24 Tryz.underlying24 zr3 rfl rfl rfl (by rfl)) ?_
      intro b1 w1 hb1 hs1 hx1 hB1
      have hz1 := hx1.size
      replace hC := hC.step0 hx1
      replace hr := hr.chg0 hx1
      replace hO := hO.chg0 hx1
      refine EP.append2 rfl el24 rfl rfl hO (Blk.rd (F := fun _ => True) (by assumption) rfl trivial) (by rfl) (by omega) (by omega) ?_
      intro AN' cN' w2 hO2 hx2 hAN'
      have hz2 := hx2.size
      replace hC := hC.step hx2 (by intro x h; have := hOb x h; exact .inr (by omega))
      replace hr := hr.chg hx2 (by intro x hx hf; have := hOb x hx; have := hF x hf; omega)
      replace hB1 := hB1.chg hx2 (by intro h; have := hOb _ h; omega)
      clear hO; have hO := hO2; clear hO2
      have hs : someU v (i + 1) = someU v i ++ [i] := by rw [someU_succ, if_pos (by simpa using h2)]
      refine EP.o rfl (Does.assign rfl) ?_
      refine EP.nil ?_
      refine EW.reg ?_
      refine EP.o rfl (Does.addi rfl rfl (by omega)) ?_
      refine EP.o rfl (Does.move rfl) ?_
      refine EP.nil ?_
      refine ⟨(i + 1, AN', cN'), ⟨(lk_val rfl (by rw [hs, List.length_append]; rfl)), rfl, rfl, rfl, trivial⟩, ?_, ?_⟩
      refine ⟨hC, hr, ?_, hin⟩
      rw [hs, nats_snoc, List.length_append]
      exact hO
      show v.length - (i + 1) < v.length - i
      omega
    · try simp at h2
      have hs : someU v (i + 1) = someU v i := by rw [someU_succ, if_neg (by simpa using h2)]
      refine EW.skip ?_
      refine EW.reg ?_
      refine EP.o rfl (Does.addi rfl rfl (by omega)) ?_
      refine EP.o rfl (Does.move rfl) ?_
      refine EP.nil ?_
      refine ⟨(i + 1, A', c'), ⟨(lk_val rfl (by rw [hs])), rfl, rfl, rfl, trivial⟩, ?_, ?_⟩
      refine ⟨hC, hr, ?_, hin⟩
      rw [hs]
      exact hO
      show v.length - (i + 1) < v.length - i
      omega
  · try simp at h1
    have hkk : i = v.length := by omega
    subst hkk
    refine EW.exit (brk_here ?_)
    refine EW.seq ?_
    refine EW.reg ?_
    refine EP.o rfl (Does.move rfl) ?_
    refine EP.o rfl (Does.assign rfl) ?_
    refine EP.nil ?_
    refine EW.ret ?_
    refine Fin.one rfl rfl ?_
    exact ⟨hC, A', c', rfl, hO⟩
def beginL (k : Kn) (q : Wst) (b : Nat) : List Nat := someL (keptL q.S (rowL k.first q.S.length) b)
theorem keptL_len (S : List Nat) (v : List Int) (b : Nat) : (keptL S v b).length = v.length := by simp [keptL]
theorem begin_c (F : Nat → Prop) (pa : Nat) (k : Kn) (q : Wst) (b : Nat) (w : World) (hb : b < 256) (hn : q.S.length ≤ 1000000) (hW : IsAut F w pa k q) (hF : ∀ x, F x → x < w.heap.size) :
    Calls P 140 #[.pointer (some ⟨pa, 0, none⟩), .int .u8 b] w (Ret fun u w' => Chg [] w w' ∧ ∃ A' c', u = .slice A' (beginL k q b).length c' ∧ Own w' w.heap.size 3 1 A' (beginL k q b).length c' (nats (beginL k q b))) := by
  have hC := Chg.refl [] w
  refine enter Tryz.func140 rfl rfl ?_
  refine EW.seq ?_
  refine EW.reg ?_
  refine EP.o rfl (Does.assign rfl) ?_
  refine EP.nil ?_
  refine EW.seq ?_
  refine EW.reg ?_
  refine EP.o rfl (Does.move rfl) ?_
  refine EP.o rfl (Does.move rfl) ?_
  refine EP.call2 rfl (Enters.fn fb165 rfl) (begin_vec_c F pa k q b _ hb hn hW hF) ?_
  rintro v9 w1 ⟨hx1, A, c, rfl, hO⟩
  have hz1 := hx1.size
  replace hC := hC.step0 hx1
  replace hW := hW.chg0 hx1
  have hkl : (keptL q.S (rowL k.first q.S.length) b).length = q.S.length := by rw [keptL_len, rowL_len]
  have hrd := hO.rd (F := fun x => x < w1.heap.size) (fun x _ h => h)
  refine EP.call2 rfl (Enters.fn fb141 rfl) ((show Calls P 141 #[.slice A q.S.length c] _ _ from hkl ▸ some_c (keptL q.S (rowL k.first q.S.length) b) (fun x => x < w1.heap.size) A c _ (by omega) (fun x h => h) (hkl.symm ▸ hrd))) ?_
  rintro v8 w2 ⟨hx2, A', c', rfl, hO2⟩
  have hz2 := hx2.size
  replace hC := hC.step0 hx2
  replace hW := hW.chg0 hx2
  refine EP.o rfl (Does.assign rfl) ?_
  refine EP.nil ?_
  refine EW.ret ?_
  refine Fin.one rfl rfl ?_
  exact ⟨hC, A', c', rfl, hO2.lower (by omega)⟩
theorem ends1_c (f : BagF) (n p bq bv : Nat) (w : World) (hn : n ≤ 1000000) (hB0 : Blk w bq [.slice (some ⟨bv, 0, none⟩) n n] 24) (hB1 : Blk w bv (ints (rowL f n)) 3) :
    Calls P 107 #[.int .i64 (p : Nat), .pointer (some ⟨bq, 0, none⟩)] w (Ret fun u w' => u = .bool (decide (p < n) && decide (0 < f p)) ∧ Chg [] w w') := by
  have hC := Chg.refl [] w
  try have hlB0 := hB0.lt
  try have hlB1 := hB1.lt
  refine enter Tryz.func107 rfl rfl ?_
  refine EW.seq ?_
  refine EW.reg ?_
  refine EP.o rfl (Does.assign rfl) ?_
  refine EP.nil ?_
  refine EW.seq ?_
  refine EW.reg ?_
  refine EP.o rfl (Does.move rfl) ?_
  refine EP.o rfl (Does.cmp rfl rfl rfl) ?_
  refine EP.o rfl (Does.move rfl) ?_
  refine EP.bsplit (d := 6) rfl (fun h1 => ?_) (fun h1 => ?_)
  · try simp at h1
    refine EP.ung rfl rfl rfl ?_
    refine EP.o rfl (Does.move rfl) ?_
    refine EP.ung rfl rfl rfl ?_
    refine EP.o rfl (Does.loadB o24 rfl (Keeps.now _) (by assumption) (by rfl)) ?_
    refine EP.ung rfl rfl rfl ?_
    refine EP.o rfl (Does.lenL Tryz.underlying24 rfl) ?_
    refine EP.ung rfl rfl rfl ?_
    refine EP.o rfl (Does.cmp rfl rfl rfl) ?_
    refine EP.o rfl (Does.pickT rfl rfl) ?_
    refine EP.o rfl (Does.move rfl) ?_
    refine EP.bsplit (d := 12) rfl (fun h2 => ?_) (fun h2 => ?_)
    · try simp at h2
      have hpn : p < n := by omega
      have hrd := hB1.rd (F := fun _ => True) (sz := 1) (m := n) (by rw [ints_length, rowL_len, Nat.mul_one]) trivial
      have hcell := (hrd.one (ints_get (rowL f n) p (by rw [rowL_len]; exact hpn))).2
      refine EP.ung rfl rfl rfl ?_
      refine EP.o rfl (Does.loadB o24 rfl (Keeps.now _) (by assumption) (by rfl)) ?_
      refine EP.ung rfl rfl rfl ?_
      refine EP.o rfl (Does.move rfl) ?_
      refine EP.ung rfl rfl rfl ?_
      refine EP.o rfl (Does.indexAddr1 sl24 rfl rfl (by omega) (by omega)) ?_
      refine EP.ung rfl rfl rfl ?_
      refine EP.o rfl (Does.load1 o3 rfl (Keeps.now _) hcell) ?_
      refine EP.ung rfl rfl rfl ?_
      refine EP.o rfl (Does.cmp rfl rfl rfl) ?_
      refine EP.o rfl (Does.pickT rfl rfl) ?_
      refine EP.o rfl (Does.assign rfl) ?_
      refine EP.nil ?_
      refine EW.ret ?_
      refine Fin.one rfl rfl ?_
      have hfp : (rowL f n).getD p 0 = f p := by simp [rowL, List.getD_eq_getElem?_getD, hpn]
      exact ⟨vbool (by rw [hfp, Bool.eq_iff_iff, cmpB_gtr]; simp [hpn]), hC⟩
    · try simp at h2
      refine EP.skp rfl rfl rfl rfl rfl (fun h => by cases h) ?_
      refine EP.skp rfl rfl rfl rfl rfl (fun h => by cases h) ?_
      refine EP.skp rfl rfl rfl rfl rfl (fun h => by cases h) ?_
      refine EP.skp rfl rfl rfl rfl rfl (fun h => by cases h) ?_
      refine EP.skp rfl rfl rfl rfl rfl (fun h => by cases h) ?_
      refine EP.o rfl (Does.pickF rfl rfl) ?_
      refine EP.o rfl (Does.assign rfl) ?_
      refine EP.nil ?_
      refine EW.ret ?_
      refine Fin.one rfl rfl ?_
      exact ⟨vbool (by rw [Bool.eq_iff_iff]; simp; omega), hC⟩
  · try simp at h1
    refine EP.skp rfl rfl rfl rfl rfl (fun h => by cases h) ?_
    refine EP.skp rfl rfl rfl rfl rfl (fun h => by cases h) ?_
    refine EP.skp rfl rfl rfl rfl rfl (fun h => by cases h) ?_
    refine EP.skp rfl rfl rfl rfl rfl (fun h => by cases h) ?_
    refine EP.o rfl (Does.pickF rfl rfl) ?_
    refine EP.o rfl (Does.move rfl) ?_
    refine EP.skp rfl rfl rfl rfl rfl (fun h => by cases h) ?_
    refine EP.skp rfl rfl rfl rfl rfl (fun h => by cases h) ?_
    refine EP.skp rfl rfl rfl rfl rfl (fun h => by cases h) ?_
    refine EP.skp rfl rfl rfl rfl rfl (fun h => by cases h) ?_
    refine EP.skp rfl rfl rfl rfl rfl (fun h => by cases h) ?_
    refine EP.o rfl (Does.pickF rfl rfl) ?_
    refine EP.o rfl (Does.assign rfl) ?_
    refine EP.nil ?_
    refine EW.ret ?_
    refine Fin.one rfl rfl ?_
    exact ⟨vbool (by rw [Bool.eq_iff_iff]; simp; omega), hC⟩
def endsL (k : Kn) (q : Wst) (l : List Nat) : Bool := l.any fun p => decide (p < q.S.length) && decide (0 < k.last p)
theorem ends_c (F F2 : Nat → Prop) (pa : Nat) (k : Kn) (q : Wst) (l : List Nat) (A : Option Addr) (c : Nat) (w : World) (hn : q.S.length ≤ 1000000) (hl : l.length ≤ 1000000) (hW : IsAut F w pa k q) (hF : ∀ x, F x → x < w.heap.size) (hr : Rd F2 w 1 A l.length (nats l)) (hF2 : ∀ x, F2 x → x < w.heap.size) :
    Calls P 79 #[.pointer (some ⟨pa, 0, none⟩), .slice A l.length c] w (Ret fun u w' => u = .bool (endsL k q l) ∧ Chg [] w w') := by
  have hC := Chg.refl [] w
  obtain ⟨pw, As, cs, bf, bl, A2, c2, gs, h⟩ := hW
  have hB0 := h.blk
  have hWei := h.wei
  have hF0 : ∀ b ∈ ([] : List Nat), ¬ F2 b := by simp
  try have hlB0 := hB0.lt
  refine enter Tryz.func79 rfl rfl ?_
  refine EW.seq ?_
  refine EW.reg ?_
  refine EP.o rfl (Does.assign rfl) ?_
  refine EP.nil ?_
  refine EW.seq ?_
  refine EW.seq ?_
  refine EW.reg ?_
  refine EP.o rfl (Does.move rfl) ?_
  refine EP.o rfl (Does.eqPtr Tryz.underlying22 rfl rfl) ?_
  refine EP.nil ?_
  refine EW.cond rfl (fun h0 => ?_) (fun h0 => ?_)
  · try simp at h0
    all_goals cases h0
  · try simp at h0
    refine EW.skip ?_
    refine EW.seq ?_
    refine EW.reg ?_
    refine EP.o rfl (Does.move rfl) ?_
    refine EP.o rfl (Does.nilCheck rfl) ?_
    refine EP.o rfl (Does.fieldAddr fl120_0 rfl) ?_
    refine EP.o rfl (Does.loadB o115 rfl (Keeps.now _) (by assumption) (by rfl)) ?_
    refine EP.call2 rfl (Enters.fn fb64 rfl) (last_row_c F pw k q _ hn hWei hF) ?_
    rintro v9 w1 ⟨hx1, bv, rfl, hbv, hBv⟩
    have hz1 := hx1.size
    replace hC := hC.step0 hx1
    replace hB0 := hB0.chg0 hx1
    replace hr := hr.chg0 hx1
    have hF := hF2
    try have hlBv := hBv.lt
    refine EP.new2 rfl (News.alloc zr24 rfl) ?_
    intro b2 w2 hb2 hs2 hx2 hB2
    have hz2 := hx2.size
    replace hC := hC.step0 hx2
    replace hB0 := hB0.chg0 hx2
    replace hr := hr.chg0 hx2
    replace hBv := hBv.chg0 hx2
    refine EP.put2 (Puts.blk sz24 rfl rfl (by assumption) rfl rfl rfl rfl (by simp only [List.take, List.drop, List.append, List.cons_append, List.nil_append]; rfl)) ?_
    intro w3 hs3 hx3 hB3
    have hz3 := hx3.size
    replace hC := hC.step hx3 (by simp; omega)
    replace hB0 := hB0.chg hx3 (by simp; omega)
    replace hr := hr.chg hx3 (by intro b hb hFb; have := hF _ hFb; simp at hb; omega)
    replace hBv := hBv.chg hx3 (by simp; omega)
    clear hB2; have hB2 := hB3; clear hB3
    refine EP.nil ?_
    refine EW.seq ?_
    refine EW.reg ?_
    refine EP.o rfl (Does.move rfl) ?_
    refine EP.o rfl (Does.makeFunc (fun a ha => map_args ha rfl) (fun a ha => map_args ha rfl)) ?_
    refine EP.call2 rfl (Enters.fn fb81 rfl) (anyI_c 107 #[] #[.pointer (some ⟨b2, 0, none⟩)] fb107 (nats l) (fun i => decide (l.getD i 0 < q.S.length) && decide (0 < k.last (l.getD i 0))) F2 A l.length c _ (by omega) (fun x h => by have := hF2 x h; omega) hr (fun i v w' hi hv hw => by rw [nats_get l i hi] at hv; cases hv; exact ends1_c k.last q.S.length (l.getD i 0) b2 bv w' hn (Blk.chg0 (by assumption) hw) (Blk.chg0 (by assumption) hw))) ?_
    rintro _ w4 ⟨rfl, hx4⟩
    have hz4 := hx4.size
    replace hC := hC.step0 hx4
    replace hB0 := hB0.chg0 hx4
    replace hr := hr.chg0 hx4
    replace hBv := hBv.chg0 hx4
    replace hB2 := hB2.chg0 hx4
    refine EP.o rfl (Does.assign rfl) ?_
    refine EP.nil ?_
    refine EW.ret ?_
    refine Fin.one rfl rfl ?_
    refine ⟨vbool ?_, hC⟩
    unfold endsL
    rw [Bool.eq_iff_iff, List.any_eq_true, List.any_eq_true]
    constructor
    · rintro ⟨i, hi, h⟩
      rw [List.mem_range] at hi
      exact ⟨l.getD i 0, getD_mem l 0 i hi, h⟩
    · rintro ⟨p, hp, h⟩
      obtain ⟨i, hi, rfl⟩ := List.mem_iff_getElem.1 hp
      exact ⟨i, List.mem_range.2 hi, by rw [List.getD_eq_getElem?_getD, List.getElem?_eq_getElem hi]; exact h⟩
end Go.Clt
end
section
set_option linter.unusedVariables false
set_option linter.unusedSimpArgs false
set_option maxRecDepth 4000
namespace Go.Clt
set_option maxHeartbeats 4000000
open Go Go.RowKit Go.Proofs
def hitV (n : Nat) (ok : Nat → Bool) : List Int := (List.range n).map fun i => if ok i then 1 else 0
theorem hitV_len (n : Nat) (ok : Nat → Bool) : (hitV n ok).length = n := by simp [hitV]
theorem some_hit (n : Nat) (ok : Nat → Bool) : someL (hitV n ok) = (List.range n).filter ok := by
  unfold someL
  rw [hitV_len]
  apply List.filter_congr
  intro i hi
  rw [List.mem_range] at hi
  simp only [hitV, List.getD_eq_getElem?_getD, List.getElem?_map, List.getElem?_range hi, Option.map_some, Option.getD_some]
  cases ok i <;> simp
def goF (q : Wst) (p : Nat) (b : Nat) (i : Nat) : Bool := decide (0 < (q.G.getD p zeroF) i) && (q.S.getD i 0).testBit b
def nextL (q : Wst) (l : List Nat) (b : Nat) : List Nat := (List.range q.S.length).filter fun i => l.any fun p => goF q p b i
def okU (q : Wst) (l : List Nat) (b k : Nat) (i : Nat) : Bool := (l.take k).any fun p => goF q p b i
def okV (q : Wst) (l : List Nat) (b k j : Nat) (i : Nat) : Bool := okU q l b k i || (decide (i < j) && goF q (l.getD k 0) b i)
theorem hit_set (n j : Nat) (ok ok' : Nat → Bool) (h1 : ok' j = true) (h2 : ∀ i, i ≠ j → ok' i = ok i) : ints (hitV n ok') = (ints (hitV n ok)).set j (.int .i64 1) := by
  apply List.ext_getElem?
  intro i
  simp only [ints, hitV, List.getElem?_map, List.getElem?_set, List.length_map, List.length_range]
  by_cases hi : i < n
  · rw [List.getElem?_range hi]
    simp only [Option.map_some]
    by_cases hij : j = i
    · subst hij; rw [if_pos rfl, if_pos hi, h1]; rfl
    · rw [if_neg hij, h2 i (fun e => hij e.symm)]
  · rw [List.getElem?_eq_none (by simp; omega)]
    simp only [Option.map_none]
    split
    · rw [if_neg (by omega)]
    · rfl
theorem okV_zero (q : Wst) (l : List Nat) (b k : Nat) : okV q l b k 0 = okU q l b k := by funext i; simp [okV]
theorem okV_full (q : Wst) (l : List Nat) (b k : Nat) (hk : k < l.length) : ∀ i, i < q.S.length → okV q l b k q.S.length i = okU q l b (k + 1) i := by
  intro i hi
  unfold okV okU
  rw [List.take_add_one, List.getElem?_eq_getElem hk, List.any_append]
  simp [hi, List.getD_eq_getElem?_getD, List.getElem?_eq_getElem hk]
theorem hit_congr (n : Nat) (ok ok' : Nat → Bool) (h : ∀ i, i < n → ok i = ok' i) : hitV n ok = hitV n ok' := by
  unfold hitV
  apply List.map_congr_left
  intro i hi
  rw [h i (List.mem_range.1 hi)]
theorem okV_hit (q : Wst) (l : List Nat) (b k j : Nat) (h : goF q (l.getD k 0) b j = true) : okV q l b k (j + 1) j = true ∧ ∀ i, i ≠ j → okV q l b k (j + 1) i = okV q l b k j i := by
  refine ⟨by unfold okV; rw [h]; simp, fun i hi => ?_⟩
  unfold okV
  rw [show decide (i < j + 1) = decide (i < j) from by rw [decide_eq_decide]; omega]
theorem okV_miss (q : Wst) (l : List Nat) (b k j : Nat) (h : goF q (l.getD k 0) b j = false) : okV q l b k (j + 1) = okV q l b k j := by
  funext i
  unfold okV
  by_cases hi : i = j
  · subst hi; rw [h]; simp
  · rw [show decide (i < j + 1) = decide (i < j) from by rw [decide_eq_decide]; omega]
theorem rowL_get (f : BagF) (n i : Nat) (h : i < n) : (rowL f n).getD i 0 = f i := by simp [rowL, List.getD_eq_getElem?_getD, h]
theorem some_n_c (v : List Int) (n : Nat) (hv : v.length = n) (F : Nat → Prop) (A : Option Addr) (c : Nat) (w : World) (hn : n ≤ 1000000) (hF : ∀ x, F x → x < w.heap.size) (hr : Rd F w 1 A n (ints v)) :
    Calls P 141 #[.slice A n c] w (Ret fun u w' => Chg [] w w' ∧ ∃ A' c', u = .slice A' (someL v).length c' ∧ Own w' w.heap.size 3 1 A' (someL v).length c' (nats (someL v))) := by
  subst hv; exact some_c v F A c w hn hF hr
theorem next_c (F F2 : Nat → Prop) (pa : Nat) (k : Kn) (q : Wst) (l : List Nat) (b : Nat) (A : Option Addr) (c : Nat) (w : World) (hb : b < 256) (hn : q.S.length ≤ 1000000) (hl : l.length ≤ 1000000) (hlv : ∀ p ∈ l, p < q.S.length) (hW : IsAut F w pa k q) (hFw : ∀ x, F x → x < w.heap.size) (hr : Rd F2 w 1 A l.length (nats l)) (hF2 : ∀ x, F2 x → x < w.heap.size) :
    Calls P 106 #[.pointer (some ⟨pa, 0, none⟩), .slice A l.length c, .int .u8 b] w (Ret fun u w' => Chg [] w w' ∧ ∃ A' c', u = .slice A' (nextL q l b).length c' ∧ Own w' w.heap.size 3 1 A' (nextL q l b).length c' (nats (nextL q l b))) := by
  have hC := Chg.refl [] w
  obtain ⟨pw, As, cs, bf, bl, A2, c2, gs, h⟩ := hW
  have hB0 := h.blk
  have hWei := h.wei
  have hpa := hB0.lt
  try have hlB0 := hB0.lt
  refine enter Tryz.func106 rfl rfl ?_
  refine EW.seq ?_
  refine EW.reg ?_
  refine EP.o rfl (Does.assign rfl) ?_
  refine EP.nil ?_
  refine EW.seq ?_
  refine EW.seq ?_
  refine EW.reg ?_
  refine EP.o rfl (Does.move rfl) ?_
  refine EP.o rfl (Does.eqPtr Tryz.underlying22 rfl rfl) ?_
  refine EP.nil ?_
  refine EW.cond rfl (fun h0 => ?_) (fun h0 => ?_)
  · try simp at h0
    all_goals cases h0
  · try simp at h0
    refine EW.skip ?_
    refine EW.seq ?_
    refine EW.reg ?_
    refine EP.o rfl (Does.move rfl) ?_
    refine EP.o rfl (Does.nilCheck rfl) ?_
    refine EP.o rfl (Does.fieldAddr fl120_0 rfl) ?_
    refine EP.o rfl (Does.loadB o115 rfl (Keeps.now _) (by assumption) (by rfl)) ?_
    refine EP.call2 rfl (Enters.fn fb65 rfl) (places_c F pw k q _ hWei) ?_
    rintro _ w1 ⟨rfl, hx1⟩
    have hz1 := hx1.size
    replace hC := hC.step0 hx1
    replace hB0 := hB0.chg0 hx1
    replace hWei := hWei.chg0 hx1
    replace hr := hr.chg0 hx1
    refine EP.new2 rfl (News.make el24 zr3 rfl (cs := List.replicate q.S.length (.int .i64 0)) (by omega) (by omega) (by show (madeCells #[_] (((q.S.length : Nat) : Int).toNat * 1)).toList = _; rw [Int.toNat_natCast, Nat.mul_one]; exact made_one _ _)) ?_
    intro b2 w2 hb2 hs2 hx2 hB2
    have hz2 := hx2.size
    replace hC := hC.step0 hx2
    replace hB0 := hB0.chg0 hx2
    replace hWei := hWei.chg0 hx2
    replace hr := hr.chg0 hx2
    refine EP.o rfl (Does.assign rfl) ?_
    refine EP.nil ?_
    refine EW.seq ?_
    refine EW.seq ?_
    refine EW.reg ?_
    refine EP.o rfl (Does.move rfl) ?_
    refine EP.o rfl (Does.lenL Tryz.underlying24 rfl) ?_
    refine EP.o rfl (Does.move rfl) ?_
    refine EP.nil ?_
    refine EW.block ?_
    refine EW.loop (σ := Nat) (fun i => [(0, .pointer (some ⟨pa, 0, none⟩)), (2, .int .u8 b), (7, .slice (some ⟨b2, 0, none⟩) q.S.length q.S.length), (20, .slice A l.length c), (21, .int .i64 (l.length : Nat)), (22, .int .i64 i)]) (fun i wr => Chg [] w wr ∧ Blk wr pa [.pointer (some ⟨pw, 0, none⟩), .slice As q.S.length cs, .slice (some ⟨bf, 0, none⟩) q.S.length q.S.length, .slice (some ⟨bl, 0, none⟩) q.S.length q.S.length, .slice A2 q.S.length c2] 120 ∧ IsWei F wr pw k q ∧ Rd F2 wr 1 A l.length (nats l) ∧ Blk wr b2 (ints (hitV q.S.length (okU q l b i))) 3 ∧ i ≤ l.length) (fun i wr => l.length - i) 0 ⟨rfl, rfl, rfl, rfl, rfl, rfl, trivial⟩ ?_ ?_
    · refine ⟨hC, hB0, hWei, hr, ?_, Nat.zero_le _⟩
      have : ints (hitV q.S.length (okU q l b 0)) = List.replicate q.S.length (.int .i64 0) := by
        apply List.ext_getElem
        · simp [ints, hitV]
        · intro i h1 h2
          simp [ints, hitV, okU]
      rw [this]
      exact hB2
    rintro i w9 ⟨hC, hB0, hWei, hr, hB2, hi⟩
    try have hzw := hC.size
    try have hlB0 := hB0.lt
    try have hlB2 := hB2.lt
    refine EW.seq ?_
    refine EW.reg ?_
    refine EP.o rfl (Does.cmp rfl rfl rfl) ?_
    refine EP.nil ?_
    refine EW.seq ?_
    refine EW.cond rfl (fun h1 => ?_) (fun h1 => ?_)
    · try simp at h1
      have hin : i < l.length := by omega
      have hA : ∃ g off, A = some ⟨g, off, none⟩ := by obtain ⟨g, off, h, _⟩ := hr.at_ (by omega); exact ⟨g, off, h⟩
      obtain ⟨g, off, rfl⟩ := hA
      have hpv := hlv _ (getD_mem l 0 i hin)
      refine EW.skip ?_
      refine EW.seq ?_
      refine EW.block ?_
      refine EW.seq ?_
      refine EW.reg ?_
      refine EP.o rfl (Does.indexAddr1 sl24 rfl rfl (by omega) (by omega)) ?_
      refine EP.o rfl (Does.load1 o3 rfl (Keeps.now _) (hr.one (nats_get l i hin)).2) ?_
      refine EP.o rfl (Does.assign rfl) ?_
      refine EP.nil ?_
      refine EW.seq ?_
      refine EW.reg ?_
      refine EP.o rfl (Does.move rfl) ?_
      refine EP.o rfl (Does.nilCheck rfl) ?_
      refine EP.o rfl (Does.fieldAddr fl120_0 rfl) ?_
      refine EP.o rfl (Does.loadB o115 rfl (Keeps.now _) (by assumption) (by rfl)) ?_
      refine EP.o rfl (Does.move rfl) ?_
      refine EP.call2 rfl (Enters.fn fb67 rfl) (follow_row_c F pw k q (l.getD i 0) hpv _ hn hWei (fun x h => by have := hFw x h; omega)) ?_
      rintro v9 w3 ⟨hx3, br, rfl, hbr, hBr⟩
      have hz3 := hx3.size
      replace hC := hC.step0 hx3
      replace hB0 := hB0.chg0 hx3
      replace hWei := hWei.chg0 hx3
      replace hr := hr.chg0 hx3
      replace hB2 := hB2.chg0 hx3
      try have hlBr := hBr.lt
      refine EP.o rfl (Does.lenL Tryz.underlying24 rfl) ?_
      refine EP.o rfl (Does.move rfl) ?_
      refine EP.nil ?_
      refine EW.block ?_
      refine EW.loop (σ := Nat) (fun j => [(0, .pointer (some ⟨pa, 0, none⟩)), (2, .int .u8 b), (7, .slice (some ⟨b2, 0, none⟩) q.S.length q.S.length), (31, .slice (some ⟨br, 0, none⟩) q.S.length q.S.length), (32, .int .i64 (q.S.length : Nat)), (33, .int .i64 j), (20, .slice (some ⟨g, off, none⟩) l.length c), (21, .int .i64 (l.length : Nat)), (22, .int .i64 i)]) (fun j wr => Chg [] w wr ∧ Blk wr pa [.pointer (some ⟨pw, 0, none⟩), .slice As q.S.length cs, .slice (some ⟨bf, 0, none⟩) q.S.length q.S.length, .slice (some ⟨bl, 0, none⟩) q.S.length q.S.length, .slice A2 q.S.length c2] 120 ∧ IsWei F wr pw k q ∧ Rd F2 wr 1 (some ⟨g, off, none⟩) l.length (nats l) ∧ Blk wr b2 (ints (hitV q.S.length (okV q l b i j))) 3 ∧ Blk wr br (ints (rowL (q.G.getD (l.getD i 0) zeroF) q.S.length)) 3 ∧ j ≤ q.S.length) (fun j wr => q.S.length - j) 0 ⟨rfl, rfl, rfl, rfl, rfl, rfl, rfl, rfl, rfl, trivial⟩ ?_ ?_
      · exact ⟨hC, hB0, hWei, hr, by rw [okV_zero]; exact hB2, hBr, Nat.zero_le _⟩
      rintro j w8 ⟨hC, hB0, hWei, hr, hB2, hBr, hj⟩
      try have hzw := hC.size
      try have hlB0 := hB0.lt
      try have hlB2 := hB2.lt
      try have hlBr := hBr.lt
      refine EW.seq ?_
      refine EW.reg ?_
      refine EP.o rfl (Does.cmp rfl rfl rfl) ?_
      refine EP.nil ?_
      refine EW.seq ?_
      refine EW.cond rfl (fun h2 => ?_) (fun h2 => ?_)
      · try simp at h2
        have hjn : j < q.S.length := by omega
        have hrd := hBr.rd (F := fun _ => True) (sz := 1) (m := q.S.length) (by rw [ints_length, rowL_len, Nat.mul_one]) trivial
        have hcell := (hrd.one (ints_get (rowL (q.G.getD (l.getD i 0) zeroF) q.S.length) j (by rw [rowL_len]; exact hjn))).2
        rw [rowL_get _ _ _ hjn] at hcell
        have hl1 := hitV_len q.S.length (okV q l b i j)
        refine EW.skip ?_
        refine EW.seq ?_
        refine EW.block ?_
        refine EW.seq ?_
        refine EW.reg ?_
        refine EP.o rfl (Does.move rfl) ?_
        refine EP.o rfl (Does.indexAddr1 sl24 rfl rfl (by omega) (by omega)) ?_
        refine EP.o rfl (Does.load1 o3 rfl (Keeps.now _) hcell) ?_
        have hFn : ∀ x ∈ [b2], ¬ F x := fun x hx h => by have := hFw x h; have := List.mem_singleton.1 hx; omega
        have hFn2 : ∀ x ∈ [b2], ¬ F2 x := fun x hx h => by have := hF2 x h; have := List.mem_singleton.1 hx; omega
        refine EP.o rfl (Does.assign rfl) ?_
        refine EP.o rfl (Does.assign rfl) ?_
        refine EP.nil ?_
        refine EW.seq ?_
        refine EW.reg ?_
        refine EP.o rfl (Does.move rfl) ?_
        refine EP.o rfl (Does.cmp rfl rfl rfl) ?_
        refine EP.o rfl (Does.move rfl) ?_
        refine EP.bsplit (d := 40) rfl (fun h3 => ?_) (fun h3 => ?_)
        · try simp at h3
          refine EP.ung rfl rfl rfl ?_
          refine EP.o rfl (Does.move rfl) ?_
          refine EP.ung rfl rfl rfl ?_
          refine EP.o rfl (Does.nilCheck rfl) ?_
          refine EP.ung rfl rfl rfl ?_
          refine EP.o rfl (Does.fieldAddr fl120_0 rfl) ?_
          refine EP.ung rfl rfl rfl ?_
          refine EP.o rfl (Does.loadB o115 rfl (Keeps.now _) (by assumption) (by rfl)) ?_
          refine EP.ung rfl rfl rfl ?_
          refine EP.o rfl (Does.move rfl) ?_
          refine EP.ung rfl rfl rfl ?_
          refine EP.call2 rfl (Enters.fn fb66 rfl) (wset_c F pw k q j hjn hn _ hWei (fun x h => by have := hFw x h; omega)) ?_
          rintro _ w4 ⟨rfl, hx4⟩
          have hz4 := hx4.size
          replace hC := hC.step0 hx4
          replace hB0 := hB0.chg0 hx4
          replace hWei := hWei.chg0 hx4
          replace hr := hr.chg0 hx4
          replace hB2 := hB2.chg0 hx4
          replace hBr := hBr.chg0 hx4
          refine EP.ung rfl rfl rfl ?_
          refine EP.o rfl (Does.move rfl) ?_
          refine EP.ung rfl rfl rfl ?_
          refine EP.call2 rfl (Enters.fn fb137 rfl) (has_c (q.S.getD j 0) b hb _) ?_
          rintro _ w5 ⟨rfl, hx5⟩
          have hz5 := hx5.size
          replace hC := hC.step0 hx5
          replace hB0 := hB0.chg0 hx5
          replace hWei := hWei.chg0 hx5
          replace hr := hr.chg0 hx5
          replace hB2 := hB2.chg0 hx5
          replace hBr := hBr.chg0 hx5
          refine EP.o rfl (Does.pickT rfl rfl) ?_
          refine EP.nil ?_
          refine EW.cond rfl (fun h4 => ?_) (fun h4 => ?_)
          · try simp at h4
            have hgo : goF q (l.getD i 0) b j = true := by unfold goF; simp; exact ⟨h3, h4⟩
            refine EW.reg ?_
            refine EP.o rfl (Does.move rfl) ?_
            refine EP.o rfl (Does.move rfl) ?_
            refine EP.o rfl (Does.indexAddr1 sl24 rfl rfl (by omega) (by omega)) ?_
            refine EP.put2 (Puts.blk (cs' := (ints (hitV q.S.length (okV q l b i (j + 1))))) sz3 rfl rfl hB2 rfl rfl rfl (by simp [ints, hl1]; omega) (by rw [hit_set _ j _ _ (okV_hit q l b i j hgo).1 (okV_hit q l b i j hgo).2]; simp [List.set_eq_take_append_cons_drop, ints, hl1]; omega)) ?_
            intro w6 hs6 hx6 hB6
            have hz6 := hx6.size
            replace hC := hC.step hx6 (by simp; omega)
            replace hB0 := hB0.chg hx6 (by simp; omega)
            replace hWei := hWei.chg hx6 (by assumption)
            replace hr := hr.chg hx6 (by assumption)
            replace hBr := hBr.chg hx6 (by simp; omega)
            clear hB2; have hB2 := hB6; clear hB6
            refine EP.nil ?_
            refine EW.reg ?_
            refine EP.o rfl (Does.addi rfl rfl (by omega)) ?_
            refine EP.o rfl (Does.move rfl) ?_
            refine EP.nil ?_
            refine ⟨j + 1, ⟨rfl, rfl, rfl, rfl, rfl, rfl, rfl, rfl, rfl, trivial⟩, ?_, ?_⟩
            exact ⟨hC, hB0, hWei, hr, hB2, hBr, hjn⟩
            omega
          · try simp at h4
            have hgo : goF q (l.getD i 0) b j = false := by unfold goF; simp [h4]
            refine EW.skip ?_
            refine EW.reg ?_
            refine EP.o rfl (Does.addi rfl rfl (by omega)) ?_
            refine EP.o rfl (Does.move rfl) ?_
            refine EP.nil ?_
            refine ⟨j + 1, ⟨rfl, rfl, rfl, rfl, rfl, rfl, rfl, rfl, rfl, trivial⟩, ?_, ?_⟩
            exact ⟨hC, hB0, hWei, hr, by rw [okV_miss q l b i j hgo]; exact hB2, hBr, hjn⟩
            omega
        · try simp at h3
          have hgo : goF q (l.getD i 0) b j = false := by unfold goF; rw [show decide (0 < q.G.getD (l.getD i 0) zeroF j) = false from by simpa using h3]; rfl
          refine EP.skp rfl rfl rfl rfl rfl (fun h => by cases h) ?_
          refine EP.skp rfl rfl rfl rfl rfl (fun h => by cases h) ?_
          refine EP.skp rfl rfl rfl rfl rfl (fun h => by cases h) ?_
          refine EP.skp rfl rfl rfl rfl rfl (fun h => by cases h) ?_
          refine EP.skp rfl rfl rfl rfl rfl (fun h => by cases h) ?_
          refine EP.skp rfl rfl rfl rfl rfl (fun h => by cases h) ?_
          refine EP.skp rfl rfl rfl rfl rfl (fun h => by cases h) ?_
          refine EP.skp rfl rfl rfl rfl rfl (fun h => by cases h) ?_
          refine EP.o rfl (Does.pickF rfl rfl) ?_
          refine EP.nil ?_
          refine EW.condF rfl ?_
          refine EW.skip ?_
          refine EW.reg ?_
          refine EP.o rfl (Does.addi rfl rfl (by omega)) ?_
          refine EP.o rfl (Does.move rfl) ?_
          refine EP.nil ?_
          refine ⟨j + 1, ⟨rfl, rfl, rfl, rfl, rfl, rfl, rfl, rfl, rfl, trivial⟩, ?_, ?_⟩
          exact ⟨hC, hB0, hWei, hr, by rw [okV_miss q l b i j hgo]; exact hB2, hBr, hjn⟩
          omega
      · try simp at h2
        have hjj : j = q.S.length := by omega
        subst hjj
        rw [hit_congr _ _ _ (okV_full q l b i hin)] at hB2
        refine EW.exit (brk_here ?_)
        refine EW.reg ?_
        refine EP.o rfl (Does.addi rfl rfl (by omega)) ?_
        refine EP.o rfl (Does.move rfl) ?_
        refine EP.nil ?_
        refine ⟨i + 1, ⟨rfl, rfl, rfl, rfl, rfl, rfl, trivial⟩, ?_, ?_⟩
        exact ⟨hC, hB0, hWei, hr, hB2, hin⟩
        omega
    · try simp at h1
      have hii : i = l.length := by omega
      subst hii
      have hlen := hitV_len q.S.length (okU q l b l.length)
      have hrd := hB2.rd (F := fun x => x < w9.heap.size) (sz := 1) (m := q.S.length) (by rw [ints_length, hlen, Nat.mul_one]) hB2.lt
      refine EW.exit (brk_here ?_)
      refine EW.seq ?_
      refine EW.reg ?_
      refine EP.o rfl (Does.move rfl) ?_
      refine EP.call2 rfl (Enters.fn fb141 rfl) (some_n_c (hitV q.S.length (okU q l b l.length)) _ hlen (fun x => x < w9.heap.size) _ _ _ hn (fun x h => h) hrd) ?_
      rintro v9 w7 ⟨hx7, A', c', hv, hO⟩
      have hz7 := hx7.size
      replace hC := hC.step0 hx7
      replace hB0 := hB0.chg0 hx7
      replace hWei := hWei.chg0 hx7
      replace hr := hr.chg0 hx7
      replace hB2 := hB2.chg0 hx7
      refine EP.o rfl (Does.assign rfl) ?_
      refine EP.nil ?_
      refine EW.ret ?_
      refine Fin.one rfl rfl ?_
      have hE : someL (hitV q.S.length (okU q l b l.length)) = nextL q l b := by
        rw [some_hit]
        unfold nextL okU
        rw [List.take_of_length_le (Nat.le_refl _)]
      rw [hE] at hv hO
      exact ⟨hC, A', c', hv, hO.lower (by omega)⟩
end Go.Clt
end
section
set_option linter.unusedVariables false
set_option linter.unusedSimpArgs false
set_option maxRecDepth 4000
namespace Go.Clt
set_option maxHeartbeats 4000000
open Go Go.RowKit Go.Proofs
theorem alive_c (F : Nat → Prop) (pa : Nat) (k : Kn) (q : Wst) (s : ByteArray) (b : Nat) (w : World) (hs : strL s = [b]) (hb : b < 256) (hn : q.S.length ≤ 1000000) (hW : IsAut F w pa k q) (hFw : ∀ x, F x → x < w.heap.size) :
    Calls P 105 #[.pointer (some ⟨pa, 0, none⟩), .string s] w (Ret fun u w' => Chg [] w w' ∧ ∃ A' c', u = .slice A' (beginL k q b).length c' ∧ Own w' w.heap.size 3 1 A' (beginL k q b).length c' (nats (beginL k q b))) := by
  have hC := Chg.refl [] w
  have hsz : s.size = 1 := by rw [← strL_length, hs]; rfl
  refine enter Tryz.func105 rfl rfl ?_
  refine EW.seq ?_
  refine EW.reg ?_
  refine EP.o rfl (Does.assign rfl) ?_
  refine EP.nil ?_
  refine EW.seq ?_
  refine EW.reg ?_
  refine EP.o rfl (Does.assign rfl) ?_
  refine EP.nil ?_
  refine EW.seq ?_
  refine EW.seq ?_
  refine EW.reg ?_
  refine EP.o rfl (Does.move rfl) ?_
  refine EP.o rfl (Does.lenS Tryz.underlying9 rfl) ?_
  refine EP.o rfl (Does.move rfl) ?_
  refine EP.nil ?_
  refine EW.block ?_
  refine EW.loop (σ := Nat × Option Addr × Nat × List Nat) (fun (i, A, c, l) => [(0, .pointer (some ⟨pa, 0, none⟩)), (1, .string s), (5, .slice A l.length c), (8, .int .i64 (s.size : Nat)), (9, .int .i64 i)]) (fun (i, A, c, l) wr => Chg [] w wr ∧ IsAut F wr pa k q ∧ Own wr w.heap.size 3 1 A l.length c (nats l) ∧ i ≤ 1 ∧ (i = 1 → l = beginL k q b)) (fun (i, A, c, l) wr => 1 - i) (0, none, 0, []) ⟨rfl, rfl, rfl, rfl, rfl, trivial⟩ ?_ ?_
  · exact ⟨hC, hW, Own.nil _ _ _ _, by omega, fun h => by omega⟩
  rintro ⟨i, A, c, l⟩ w9 ⟨hC, hW, hO, hi, hl⟩
  try have hzw := hC.size
  refine EW.seq ?_
  refine EW.reg ?_
  refine EP.o rfl (Does.cmp rfl rfl rfl) ?_
  refine EP.nil ?_
  refine EW.seq ?_
  refine EW.cond rfl (fun h1 => ?_) (fun h1 => ?_)
  · try simp at h1
    have hi0 : i = 0 := by omega
    subst hi0
    refine EW.skip ?_
    refine EW.seq ?_
    refine EW.block ?_
    refine EW.seq ?_
    refine EW.reg ?_
    refine EP.o rfl (Does.move rfl) ?_
    refine EP.o rfl (Does.assign rfl) ?_
    refine EP.nil ?_
    refine EW.seq ?_
    refine EW.reg ?_
    refine EP.o rfl (Does.move rfl) ?_
    refine EP.o rfl (Does.cmp rfl rfl rfl) ?_
    refine EP.nil ?_
    refine EW.cond rfl (fun h2 => ?_) (fun h2 => ?_)
    · try simp at h2
      obtain ⟨u8, hu, hu2⟩ := strL_get s 0 (by omega)
      rw [hs] at hu2
      have hu3 : b = u8.toNat := hu2
      refine EW.reg ?_
      refine EP.o rfl (Does.move rfl) ?_
      refine EP.o rfl (Does.move rfl) ?_
      refine EP.o rfl (Does.move rfl) ?_
      refine EP.o rfl (Does.to (Does.indexS Tryz.underlying9 rfl rfl (by omega) (by exact hu)) (vint (show ((u8.toNat : Nat) : Int) = (b : Nat) by rw [hu3]))) ?_
      refine EP.call2 rfl (Enters.fn fb140 rfl) (begin_c F pa k q b _ hb hn hW (fun x h => by have := hFw x h; omega)) ?_
      rintro v9 w1 ⟨hx1, A', c', rfl, hO2⟩
      have hz1 := hx1.size
      replace hC := hC.step0 hx1
      replace hW := hW.chg0 hx1
      replace hO := hO.chg0 hx1
      refine EP.o rfl (Does.assign rfl) ?_
      refine EP.nil ?_
      refine EW.reg ?_
      refine EP.o rfl (Does.addi rfl rfl (by omega)) ?_
      refine EP.o rfl (Does.move rfl) ?_
      refine EP.nil ?_
      refine ⟨(1, A', c', beginL k q b), ⟨rfl, rfl, rfl, rfl, rfl, trivial⟩, ?_, ?_⟩
      exact ⟨hC, hW, hO2.lower (by omega), Nat.le_refl _, fun _ => rfl⟩
      show 1 - 1 < 1 - 0
      omega
    · try simp at h2
      all_goals omega
  · try simp at h1
    have hi1 : i = 1 := by omega
    have hl := hl hi1
    subst hl
    refine EW.exit (brk_here ?_)
    refine EW.seq ?_
    refine EW.reg ?_
    refine EP.o rfl (Does.move rfl) ?_
    refine EP.o rfl (Does.assign rfl) ?_
    refine EP.nil ?_
    refine EW.ret ?_
    refine Fin.one rfl rfl ?_
    exact ⟨hC, A, c, rfl, hO⟩
end Go.Clt
end
section
set_option linter.unusedVariables false
set_option linter.unusedSimpArgs false
set_option maxRecDepth 4000
namespace Go.Clt
open Go Go.RowKit Go.Proofs
def mk (a : Int × Bool) : Value := .agg #[.int .i64 a.1, .bool a.2]
theorem kn3' : known P 3 = true := by kernel_rfl
theorem kn4' : known P 4 = true := by kernel_rfl
theorem ag3' : aggB P 3 = false := by kernel_rfl
theorem ag4' : aggB P 4 = false := by kernel_rfl
theorem sh223 : P.stoodInHeld 223 = false := by kernel_rfl
theorem part3 (cs : Array Value) (i : Nat) (v : Value) (h : cs[i]? = some v) (w : World) : (part 3 cs i).run P w = .ok v w := by simp [part, run_isAgg kn3', ag3', h]
theorem part4 (cs : Array Value) (i : Nat) (v : Value) (h : cs[i]? = some v) (w : World) : (part 4 cs i).run P w = .ok v w := by simp [part, run_isAgg kn4', ag4', h]
theorem eqmk (d : Nat) (a b : Int × Bool) (w : World) : (Op.equalIn (d + 2) 223 (mk a) (mk b)).run P w = .ok (decide (a = b)) w := by
  have h3 : ∀ x y : Int, (Op.equalIn (d + 1) 3 (.int .i64 x) (.int .i64 y)).run P w = .ok (x == y) w := fun x y => by simp [Op.equalIn, run_underlying Tryz.underlying3]
  have h4 : ∀ x y : Bool, (Op.equalIn (d + 1) 4 (.bool x) (.bool y)).run P w = .ok (x == y) w := fun x y => by simp [Op.equalIn, run_underlying Tryz.underlying4]
  have p1 := fun a : Int × Bool => part3 #[.int .i64 a.1, .bool a.2] 0 (.int .i64 a.1) rfl w
  have p2 := fun a : Int × Bool => part4 #[.int .i64 a.1, .bool a.2] 1 (.bool a.2) rfl w
  unfold Op.equalIn mk
  simp only [Sem.run_bind, run_underlying Tryz.underlying223, Result.andThen_ok, run_program, sh223]
  simp [p1, p2, h3, h4]
  obtain ⟨a1, a2⟩ := a
  obtain ⟨c1, c2⟩ := b
  by_cases h1 : a1 = c1
  · by_cases h2 : a2 = c2
    · simp [h1, h2]
    · simp [h1, h2]
  · simp [h1]
theorem mk_law {d : TypeDesc} (hd : P.underlying 223 = some d) : KL P 223 mk where
  check := fun e a w => by
    unfold Instr.checkKey mk
    simp only [Sem.run_bind, run_underlying Tryz.underlying223, Result.andThen_ok]
    have p1 := part3 #[.int .i64 a.1, .bool a.2] 0 (.int .i64 a.1) rfl w
    have p2 := part4 #[.int .i64 a.1, .bool a.2] 1 (.bool a.2) rfl w
    have c3 : (Instr.checkKey e 9999 3 (.int .i64 a.1)).run P w = .ok () w := by unfold Instr.checkKey; simp [run_underlying Tryz.underlying3]
    have c4 : (Instr.checkKey e 9999 4 (.bool a.2)).run P w = .ok () w := by unfold Instr.checkKey; simp [run_underlying Tryz.underlying4]
    simp [p1, p2, c3, c4]
  find := fun a L es w h => by
    have key : ∀ (L : List ((Int × Bool) × Int)) (es : List MapEntry) (i : Nat), es.map (fun x => (x.key, x.val)) = kvs mk L → (Instr.findAsking 223 (mk a) es i).run P w = .ok ((asc L i a).map fun q => (q.1, .int .i64 q.2)) w := by
      intro L
      induction L with
      | nil => intro es i h; simp [kvs] at h; subst h; rfl
      | cons p r ih =>
        intro es i h
        cases es with
        | nil => simp [kvs] at h
        | cons x es =>
          simp only [List.map_cons, kvs, List.cons.injEq, Prod.mk.injEq] at h
          obtain ⟨⟨h1, h2⟩, h3⟩ := h
          have he : (Op.equal 223 (mk a) x.key).run P w = .ok (decide (a = p.1)) w := by rw [h1]; exact eqmk 9998 a p.1 w
          simp only [Instr.findAsking, Sem.run_bind, he, Result.andThen_ok, asc]
          by_cases hc : a = p.1
          · simp [hc, h2]
          · simp only [hc, decide_false, Bool.false_eq_true, if_false]
            exact ih es (i + 1) h3
    have hk := key L es 0 h
    cases es with
    | nil =>
      cases L with
      | nil => simp [Instr.findKey, run_underlying Tryz.underlying223, Instr.findNow, asc]
      | cons p r => simp [kvs] at h
    | cons x es =>
      cases L with
      | nil => simp [kvs] at h
      | cons p r =>
        simp only [List.map_cons, kvs, List.cons.injEq, Prod.mk.injEq] at h
        obtain ⟨⟨h1, h2⟩, h3⟩ := h
        simp only [Instr.findKey, Sem.run_bind, run_underlying Tryz.underlying223, Result.andThen_ok, Instr.findNow, h1]
        have : ∀ fs, Instr.sameNow (.struct fs) (mk a) (mk p.1) = none := fun fs => rfl
        rw [this]
        exact hk
  same := fun a => by unfold Instr.sameBits mk; simp [Instr.sameBits]
end Go.Clt
end
section
set_option linter.unusedVariables false
set_option linter.unusedSimpArgs false
set_option maxRecDepth 4000
namespace Go.Clt
open Go Go.RowKit Go.Proofs
abbrev Mark := Int × Bool
def mkAt (f : List Nat) (s k : Nat) : Mark := (((f.getD k 0 : Nat) : Int), s.testBit k)
def metU (f : List Nat) (s : Nat) : Nat → List (Mark × Int)
  | 0 => []
  | k + 1 => if (mget (metU f s k) (mkAt f s k)).isSome then metU f s k else mput (metU f s k) (mkAt f s k) ((metU f s k).length : Nat)
def newAt (f : List Nat) (s k : Nat) : Nat := ((mget (metU f s (k + 1)) (mkAt f s k)).getD 0).toNat
def splitU (f : List Nat) (s k : Nat) : List Nat := (List.range k).map (newAt f s) ++ f.drop k
def splitL (f : List Nat) (s : Nat) : List Nat × Nat := ((List.range 256).map (newAt f s), (metU f s 256).length)
def blocksF (S : List Nat) : List Nat × Nat := S.foldl (fun x s => splitL x.1 s) (List.replicate 256 0, 1)
def blockOf (f : List Nat) (k i : Nat) : Nat := ofBytes ((List.range k).filter fun b => decide (f.getD b 0 = i))
def buildU (f : List Nat) (n k : Nat) : List Nat := (List.range n).map (blockOf f k)
theorem metU_vals (f : List Nat) (s : Nat) : ∀ k, ∀ x ∈ metU f s k, 0 ≤ x.2 ∧ x.2 < ((metU f s k).length : Nat)
  | 0, x, hx => by simp [metU] at hx
  | k + 1, x, hx => by
    have ih := metU_vals f s k
    unfold metU at hx ⊢
    split
    · rename_i h; rw [if_pos h] at hx; exact ih x hx
    · rename_i h
      rw [if_neg h] at hx
      rw [mput_len]
      have hn : mget (metU f s k) (mkAt f s k) = none := by
        cases hm : mget (metU f s k) (mkAt f s k) with
        | none => rfl
        | some v => rw [hm] at h; simp at h
      rw [if_pos hn]
      rcases mput_mem hx with rfl | hx
      · simp only; omega
      · have := ih x hx; omega
theorem metU_len (f : List Nat) (s : Nat) : ∀ k, (metU f s k).length ≤ k
  | 0 => by simp [metU]
  | k + 1 => by
    have ih := metU_len f s k
    unfold metU
    split
    · omega
    · rw [mput_len]; split <;> omega
theorem metU_mono (f : List Nat) (s : Nat) (k : Nat) (m : Mark) (v : Int) (h : mget (metU f s k) m = some v) : mget (metU f s (k + 1)) m = some v := by
  rw [metU]
  split
  · exact h
  · rename_i hn
    rw [mget_mput]
    by_cases hm : m = mkAt f s k
    · subst hm; rw [h] at hn; simp at hn
    · rw [if_neg hm]; exact h
theorem metU_self (f : List Nat) (s k : Nat) : ∃ v, mget (metU f s (k + 1)) (mkAt f s k) = some v := by
  rw [metU]
  split
  · rename_i h; exact Option.isSome_iff_exists.1 h
  · rw [mget_mput, if_pos rfl]; exact ⟨_, rfl⟩
theorem metU_up (f : List Nat) (s : Nat) (m : Mark) (v : Int) : ∀ (d k : Nat), mget (metU f s k) m = some v → mget (metU f s (k + d)) m = some v
  | 0, k, h => h
  | d + 1, k, h => by rw [show k + (d + 1) = (k + d) + 1 from by omega]; exact metU_mono f s _ m v (metU_up f s m v d k h)
theorem newAt_lt (f : List Nat) (s k n : Nat) (h : k < n) : newAt f s k < (metU f s n).length := by
  obtain ⟨v, hv⟩ := metU_self f s k
  have h1 := metU_up f s _ v (n - (k + 1)) (k + 1) hv
  rw [show k + 1 + (n - (k + 1)) = n from by omega] at h1
  have h2 := metU_vals f s n _ (mem_of_mget h1)
  unfold newAt
  rw [hv]
  simp only [Option.getD_some]
  simp only at h2
  omega
theorem splitL_len (f : List Nat) (s : Nat) : (splitL f s).1.length = 256 := by simp [splitL]
theorem splitU_len (f : List Nat) (s k : Nat) (hf : f.length = 256) (hk : k ≤ 256) : (splitU f s k).length = 256 := by simp [splitU]; omega
theorem splitU_zero (f : List Nat) (s : Nat) : splitU f s 0 = f := by simp [splitU]
theorem splitU_full (f : List Nat) (s : Nat) (hf : f.length = 256) : splitU f s 256 = (splitL f s).1 := by
  unfold splitU splitL
  rw [List.drop_of_length_le (by omega), List.append_nil]
theorem splitU_succ (f : List Nat) (s k : Nat) (hf : f.length = 256) (hk : k < 256) : nats (splitU f s (k + 1)) = (nats (splitU f s k)).set k (.int .i64 ((newAt f s k : Nat) : Int)) := by
  apply List.ext_getElem?
  intro i
  simp only [nats, splitU, List.getElem?_map, List.getElem?_set, List.getElem?_append, List.length_map, List.length_range, List.length_append, List.length_drop, hf, List.getElem?_drop]
  by_cases h1 : i < k
  · rw [if_pos (by omega : i < k + 1), if_pos h1, if_neg (by omega : ¬ k = i), List.getElem?_range (by omega : i < k + 1), List.getElem?_range h1]
  · by_cases h2 : i = k
    · subst h2
      rw [if_pos (by omega : i < i + 1), if_pos rfl, if_pos (by omega), List.getElem?_range (by omega : i < i + 1)]
      rfl
    · rw [if_neg (by omega : ¬ i < k + 1), if_neg h1, if_neg (by omega : ¬ k = i)]
      congr 2; omega
theorem splitU_get (f : List Nat) (s k : Nat) (hk : k < 256) : (splitU f s k).getD k 0 = f.getD k 0 := by
  simp only [splitU, List.getD_eq_getElem?_getD]
  rw [List.getElem?_append_right (by simp)]
  simp [List.getElem?_drop]
theorem blocksF_ok (S : List Nat) : (blocksF S).1.length = 256 ∧ (∀ b, b < 256 → (blocksF S).1.getD b 0 < (blocksF S).2) ∧ (blocksF S).2 ≤ 256 := by
  unfold blocksF
  rcases List.eq_nil_or_concat S with rfl | ⟨r, s, rfl⟩
  · simp only [List.foldl_nil]
    refine ⟨List.length_replicate, fun b hb => ?_, by show 1 ≤ 256; omega⟩
    rw [List.getD_eq_getElem?_getD, List.getElem?_replicate, if_pos hb]
    exact Nat.one_pos
  · rw [List.concat_eq_append, List.foldl_append]
    simp only [List.foldl_cons, List.foldl_nil]
    generalize r.foldl (fun x s => splitL x.1 s) (List.replicate 256 0, 1) = y
    have h3 : (splitL y.1 s).2 ≤ 256 := by
      have h := metU_len y.1 s 256
      unfold splitL
      generalize metU y.1 s 256 = z at h ⊢
      exact h
    refine ⟨splitL_len _ _, fun b hb => ?_, h3⟩
    simp only [splitL]
    rw [List.getD_eq_getElem?_getD, List.getElem?_map, List.getElem?_range hb]
    exact newAt_lt _ _ _ _ hb
theorem buildU_len (f : List Nat) (n k : Nat) : (buildU f n k).length = n := by simp [buildU]
theorem buildU_zero (f : List Nat) (n : Nat) : buildU f n 0 = List.replicate n 0 := by
  apply List.ext_getElem
  · simp [buildU]
  · intro i h1 h2
    simp [buildU, blockOf, ofBytes]
theorem ofBytes_snoc (l : List Nat) (k : Nat) : ofBytes (l ++ [k]) = ofBytes l ||| 2 ^ k := by unfold ofBytes; rw [List.foldl_append]; rfl
theorem buildU_succ (f : List Nat) (n k : Nat) (hk : f.getD k 0 < n) : buildU f n (k + 1) = (buildU f n k).set (f.getD k 0) (unions [(buildU f n k).getD (f.getD k 0) 0, ofBytes [k]]) := by
  have hu : unions [(buildU f n k).getD (f.getD k 0) 0, ofBytes [k]] = blockOf f (k + 1) (f.getD k 0) := by
    have h1 : (buildU f n k).getD (f.getD k 0) 0 = blockOf f k (f.getD k 0) := by
      rw [List.getD_eq_getElem?_getD, buildU, List.getElem?_map, List.getElem?_range hk]; rfl
    rw [h1]
    unfold unions blockOf
    rw [List.range_succ, List.filter_append]
    simp only [List.filter_cons, decide_true, if_true, List.filter_nil]
    rw [ofBytes_snoc]
    have h2 : ofBytes [k] = 2 ^ k := by simp [ofBytes]
    simp [h2]
  rw [hu]
  apply List.ext_getElem?
  intro i
  simp only [buildU, List.getElem?_map, List.getElem?_set, List.length_map, List.length_range]
  by_cases hi : i < n
  · rw [List.getElem?_range hi]
    simp only [Option.map_some]
    by_cases h2 : f.getD k 0 = i
    · rw [if_pos h2, if_pos hk, h2]
    · rw [if_neg h2]
      unfold blockOf
      rw [List.range_succ, List.filter_append]
      simp only [List.filter_cons, h2, decide_false, Bool.false_eq_true, if_false, List.filter_nil, List.append_nil]
  · rw [List.getElem?_eq_none (by simp; omega)]
    simp only [Option.map_none]
    split
    · omega
    · rfl
theorem sets_put : ∀ (l : List Nat) (i u : Nat), i < l.length → (setsCells l).take (0 + i * 4) ++ setCells u ++ (setsCells l).drop (0 + i * 4 + 4) = setsCells (l.set i u)
  | [], i, u, h => by simp at h
  | s :: l, 0, u, h => by simp [setsCells, setCells]
  | s :: l, i + 1, u, h => by
    have ih := sets_put l i u (by simpa using h)
    simp only [Nat.zero_add] at ih ⊢
    rw [show (i + 1) * 4 = i * 4 + 1 + 1 + 1 + 1 from by omega, show i * 4 + 1 + 1 + 1 + 1 + 4 = (i * 4 + 4) + 1 + 1 + 1 + 1 from by omega]
    show (setCells s ++ setsCells l).take _ ++ _ ++ (setCells s ++ setsCells l).drop _ = setCells s ++ setsCells (l.set i u)
    simp only [setCells, List.cons_append, List.nil_append, List.take_succ_cons, List.drop_succ_cons]
    simp only [setCells] at ih
    rw [← ih]
theorem blockOf_ok (f : List Nat) (i : Nat) : SetOk (blockOf f 256 i) := ofBytes_ok _ fun b hb => List.mem_range.1 (List.mem_filter.1 hb).1
end Go.Clt
end
section
set_option linter.unusedVariables false
set_option linter.unusedSimpArgs false
set_option maxRecDepth 4000
namespace Go.Clt
set_option maxHeartbeats 4000000
open Go Go.RowKit Go.Proofs
theorem nats_zero (n : Nat) : nats (List.replicate n 0) = List.replicate n (.int .i64 0) := by simp [nats]
theorem nats_one (l : List Nat) : (nats l).all Value.oneCell' = true := by
  induction l with
  | nil => rfl
  | cons b r ih => simp only [nats, List.map_cons, List.all_cons, Bool.and_eq_true] at *; exact ⟨rfl, ih⟩
theorem Blk.cells {w : World} {b : Nat} {cs : List Value} {τ : TypeId} (h : Blk w b cs τ) : ∀ j v, cs[j]? = some v → w.cell? ⟨b, 0 + j, none⟩ = some v := fun j v hj => by rw [h.cell, Nat.zero_add]; exact hj
theorem splitU_val (f : List Nat) (s k : Nat) : ∃ v, (mget (metU f s (k + 1)) (mkAt f s k)) = some v ∧ v = ((newAt f s k : Nat) : Int) := by
  obtain ⟨v, hv⟩ := metU_self f s k
  refine ⟨v, hv, ?_⟩
  have := metU_vals f s (k + 1) _ (mem_of_mget hv)
  unfold newAt
  rw [hv]
  simp only [Option.getD_some] at this ⊢
  omega
theorem splitL_two (f : List Nat) (s : Nat) : (splitL f s).2 = (metU f s 256).length := by
  unfold splitL
  generalize metU f s 256 = z
  rfl
theorem split_c (f : List Nat) (s : Nat) (hf : f.length = 256) (w : World) : Calls P 102 #[.agg (nats f).toArray, .agg (setCells s).toArray] w (Ret fun u w' => Chg [] w w' ∧ u = .tuple #[.agg (nats (splitL f s).1).toArray, .int .i64 ((splitL f s).2 : Nat)]) := by
  have hC := Chg.refl [] w
  refine enter Tryz.func102 rfl rfl ?_
  refine EW.seq ?_
  refine EW.reg ?_
  refine EP.new2 rfl (News.box rfl rfl) ?_
  intro b1 w1 hb1 hs1 hx1 hB1
  have hz1 := hx1.size
  replace hC := hC.step0 hx1
  refine EP.new2 rfl (News.box rfl rfl) ?_
  intro b2 w2 hb2 hs2 hx2 hB2
  have hz2 := hx2.size
  replace hC := hC.step0 hx2
  replace hB1 := hB1.chg0 hx2
  refine EP.new2 rfl (News.alloc (cs := List.replicate 256 (.int .i64 0)) zr127 rfl) ?_
  intro b3 w3 hb3 hs3 hx3 hB3
  have hz3 := hx3.size
  replace hC := hC.step0 hx3
  replace hB1 := hB1.chg0 hx3
  replace hB2 := hB2.chg0 hx3
  refine EP.o rfl (Does.assign rfl) ?_
  refine EP.nil ?_
  refine EW.seq ?_
  refine EW.reg ?_
  refine EP.mmap2 mk rfl ?_
  intro b4 w4 hb4 hs4 hx4 hM4
  have hz4 := hx4.size
  replace hC := hC.step0 hx4
  replace hB1 := hB1.chg0 hx4
  replace hB2 := hB2.chg0 hx4
  replace hB3 := hB3.chg0 hx4
  have hl4 := hM4.lt
  refine EP.o rfl (Does.assign rfl) ?_
  refine EP.nil ?_
  refine EW.seq ?_
  refine EW.seq ?_
  refine EW.reg ?_
  refine EP.o rfl (Does.move rfl) ?_
  refine EP.nil ?_
  refine EW.block ?_
  refine EW.loop (σ := Nat) (fun k => [(2, .pointer (some ⟨b1, 0, none⟩)), (3, .pointer (some ⟨b2, 0, none⟩)), (4, .pointer (some ⟨b3, 0, none⟩)), (5, .int .i64 0), (6, .map (some b4)), (12, .int .i64 k)]) (fun k wr => Chg [] w wr ∧ Blk wr b1 (nats (splitU f s k)) 127 ∧ Blk wr b2 (setCells s) 70 ∧ Blk wr b3 (List.replicate 256 (.int .i64 0)) 127 ∧ Mp mk wr b4 (metU f s k) ∧ k ≤ 256) (fun k wr => 256 - k) 0 ⟨rfl, rfl, rfl, rfl, rfl, rfl, trivial⟩ ?_ ?_
  · refine ⟨hC, ?_, hB2, hB3, hM4, Nat.zero_le _⟩
    rw [splitU_zero]
    exact hB1
  rintro k w9 ⟨hC, hB1, hB2, hB3, hM, hk⟩
  have hlM := hM.lt
  try have hzw := hC.size
  try have hlB1 := hB1.lt
  try have hlB2 := hB2.lt
  try have hlB3 := hB3.lt
  refine EW.seq ?_
  refine EW.reg ?_
  refine EP.o rfl (Does.cmp rfl rfl rfl) ?_
  refine EP.nil ?_
  refine EW.seq ?_
  refine EW.cond rfl (fun h1 => ?_) (fun h1 => ?_)
  · try simp at h1
    have hk' : k < 256 := by omega
    have hul := splitU_len f s k hf hk
    refine EW.skip ?_
    refine EW.seq ?_
    refine EW.block ?_
    refine EW.seq ?_
    refine EW.reg ?_
    refine EP.o rfl (Does.move rfl) ?_
    refine EP.o rfl (Does.assign rfl) ?_
    refine EP.nil ?_
    refine EW.cut (fun e9 wr => ∃ bm, Sub [(2, .pointer (some ⟨b1, 0, none⟩)), (3, .pointer (some ⟨b2, 0, none⟩)), (4, .pointer (some ⟨b3, 0, none⟩)), (5, .int .i64 0), (6, .map (some b4)), (7, .int .i64 k), (12, .int .i64 k), (8, .pointer (some ⟨bm, 0, none⟩))] e9 ∧ Chg [] w wr ∧ Blk wr b1 (nats (splitU f s k)) 127 ∧ Blk wr b2 (setCells s) 70 ∧ Blk wr b3 (List.replicate 256 (.int .i64 0)) 127 ∧ Mp mk wr b4 (metU f s k) ∧ Blk wr bm [.int .i64 ((f.getD k 0 : Nat) : Int), .bool (s.testBit k)] 223) ?_ ?_
    · refine EW.drwT (S := []) 9 (.two [(0, 0), (0, 1), (0, 2), (0, 3), (0, 4), (0, 5)] 6 (.seg [(0, 7), (1, 8), (2, 9)]) 8 (.seg [(1, 6), (0, 7), (2, 9)])) mo (by kernel_rfl) ?_
      simp only [ET]
      intro w5 hx5 hh5
      have hz5 := hx5.size
      replace hC := hC.step0 hx5
      replace hB1 := hB1.chg0 hx5
      replace hB2 := hB2.chg0 hx5
      replace hB3 := hB3.chg0 hx5
      replace hM := hM.chg0 hx5
      have hCS5 := Chg.refl ([]) w5
      have hcell := hB1.cells k _ (nats_get (splitU f s k) k (by omega))
      rw [splitU_get f s k hk'] at hcell
      refine EP.f rfl (Does.move rfl) ?_
      refine EP.f rfl (Does.indexAddrA1 ar127 rfl rfl (by omega) (by omega)) ?_
      refine EP.f rfl (Does.load1c o3 rfl hcell (by first | (simp; done) | (simp; omega))) ?_
      refine EP.f rfl (Does.loadAc ag70 rfl (by assumption) (by simp; done) (by simp only [List.take, List.drop, List.append, List.cons_append, List.nil_append]; rfl) rfl) ?_
      refine EP.f rfl (Does.move rfl) ?_
      refine EP.f rfl (Does.convw kn3 Tryz.underlying5 rfl (by exact wrap_u8 (by omega))) ?_
      refine EP.nil ?_
      refine ⟨?_, ?_⟩
      · refine EP.call1 rfl (Enters.fn fb137 rfl) (has_c s k hk' _) ?_
        rintro _ w6 ⟨rfl, hx6⟩
        have hz6 := hx6.size
        replace hC := hC.step0 hx6
        replace hB1 := hB1.chg0 hx6
        replace hB2 := hB2.chg0 hx6
        replace hB3 := hB3.chg0 hx6
        replace hM := hM.chg0 hx6
        replace hCS5 := hCS5.step0 hx6
        refine ⟨hCS5, ?_⟩
        refine EP.nil ?_
        refine EP.f rfl (Does.buildSL zr223 pl223 rfl (by rfl)) ?_
        refine EP.new1 rfl (News.alloc zr223 rfl) ?_
        intro b7 w7 hb7 hs7 hx7 hB7
        have hz7 := hx7.size
        replace hC := hC.step0 hx7
        replace hB1 := hB1.chg0 hx7
        replace hB2 := hB2.chg0 hx7
        replace hB3 := hB3.chg0 hx7
        replace hM := hM.chg0 hx7
        replace hCS5 := hCS5.step0 hx7
        refine ⟨hCS5, ?_⟩
        refine EP.put2 (Puts.blk sz223 rfl rfl (by assumption) rfl rfl rfl rfl (by simp only [List.take, List.drop, List.append, List.cons_append, List.nil_append]; rfl)) ?_
        intro w8 hs8 hx8 hB8
        have hz8 := hx8.size
        replace hC := hC.step hx8 (by simp; omega)
        replace hB1 := hB1.chg hx8 (by simp; omega)
        replace hB2 := hB2.chg hx8 (by simp; omega)
        replace hB3 := hB3.chg hx8 (by simp; omega)
        replace hM := hM.chg hx8 (by simp; omega)
        clear hB7; have hB7 := hB8; clear hB8
        refine EP.nil ?_
        exact ⟨b7, ⟨rfl, rfl, rfl, rfl, rfl, rfl, rfl, rfl, trivial⟩, hC, hB1, hB2, hB3, hM, hB7⟩
      · refine EP.new1 rfl (News.alloc zr223 rfl) ?_
        intro b9 w9 hb9 hs9 hx9 hB9
        have hz9 := hx9.size
        replace hC := hC.step0 hx9
        replace hB1 := hB1.chg0 hx9
        replace hB2 := hB2.chg0 hx9
        replace hB3 := hB3.chg0 hx9
        replace hM := hM.chg0 hx9
        replace hCS5 := hCS5.step0 hx9
        refine ⟨hCS5, ?_⟩
        refine EP.nil ?_
        refine EP.call1 rfl (Enters.fn fb137 rfl) (has_c s k hk' _) ?_
        rintro _ w10 ⟨rfl, hx10⟩
        have hz10 := hx10.size
        replace hC := hC.step0 hx10
        replace hB1 := hB1.chg0 hx10
        replace hB2 := hB2.chg0 hx10
        replace hB3 := hB3.chg0 hx10
        replace hM := hM.chg0 hx10
        replace hCS5 := hCS5.step0 hx10
        replace hB9 := hB9.chg0 hx10
        refine ⟨hCS5, ?_⟩
        refine EP.f rfl (Does.buildSL zr223 pl223 rfl (by rfl)) ?_
        refine EP.put2 (Puts.blk sz223 rfl rfl (by assumption) rfl rfl rfl rfl (by simp only [List.take, List.drop, List.append, List.cons_append, List.nil_append]; rfl)) ?_
        intro w11 hs11 hx11 hB11
        have hz11 := hx11.size
        replace hC := hC.step hx11 (by simp; omega)
        replace hB1 := hB1.chg hx11 (by simp; omega)
        replace hB2 := hB2.chg hx11 (by simp; omega)
        replace hB3 := hB3.chg hx11 (by simp; omega)
        replace hM := hM.chg hx11 (by simp; omega)
        clear hB9; have hB9 := hB11; clear hB11
        refine EP.nil ?_
        exact ⟨b9, ⟨rfl, rfl, rfl, rfl, rfl, rfl, rfl, rfl, trivial⟩, hC, hB1, hB2, hB3, hM, hB9⟩
    rintro e9 w8 ⟨bm, hs9, hC, hB1, hB2, hB3, hM, hBm⟩
    refine EW.sub _ hs9 ?_
    clear hs9 e9
    try have hzw := hC.size
    try have hlB1 := hB1.lt
    try have hlB2 := hB2.lt
    try have hlB3 := hB3.lt
    try have hlBm := hBm.lt
    have hlB1 := hB1.lt
    have hlM := hM.lt
    have hneM1 := hM.neBlk hB1
    have hneM2 := hM.neBlk hB2
    have hneM3 := hM.neBlk hB3
    have hneMm := hM.neBlk hBm
    have hnem1 := hBm.ne hB1 (by decide)
    obtain ⟨v, hv, hvn⟩ := splitU_val f s k
    refine EW.seq ?_
    refine EW.reg ?_
    refine EP.o rfl (Does.move rfl) ?_
    refine EP.o rfl (Does.loadA ag223 rfl (Keeps.now _) (by assumption) (by simp only [List.take, List.drop, List.append, List.cons_append, List.nil_append]; rfl) rfl) ?_
    refine EP.o rfl (Does.lookOk (mk_law Tryz.underlying223) mp220 zr3 rfl rfl (a := mkAt f s k) hM (Keeps.now _)) ?_
    refine EP.o rfl (Does.move rfl) ?_
    refine EP.o rfl (Does.extract rfl rfl) ?_
    refine EP.o rfl (Does.extract rfl rfl) ?_
    refine EP.o rfl (Does.assign rfl) ?_
    refine EP.o rfl (Does.assign rfl) ?_
    refine EP.nil ?_
    refine EW.seq ?_
    refine EW.seq ?_
    refine EW.reg ?_
    refine EP.o rfl (Does.move rfl) ?_
    refine EP.o rfl (Does.not rfl) ?_
    refine EP.nil ?_
    refine EW.cond rfl (fun h2 => ?_) (fun h2 => ?_)
    · try simp at h2
      have hno : mget (metU f s k) (mkAt f s k) = none := by simpa using h2
      have hme : metU f s (k + 1) = mput (metU f s k) (mkAt f s k) ((metU f s k).length : Nat) := by rw [metU, if_neg (by rw [hno]; simp)]
      have hv2 : v = ((metU f s k).length : Nat) := by rw [hme, mget_mput, if_pos rfl] at hv; cases hv; rfl
      have hml := metU_len f s k
      refine EW.seq ?_
      refine EW.reg ?_
      refine EP.o rfl (Does.move rfl) ?_
      refine EP.o rfl (Does.mlen (k := 223) (el := 3) mp220 rfl hM (Keeps.now _)) ?_
      refine EP.o rfl (Does.assign rfl) ?_
      refine EP.nil ?_
      refine EW.reg ?_
      refine EP.o rfl (Does.move rfl) ?_
      refine EP.o rfl (Does.loadA ag223 rfl (Keeps.now _) (by assumption) (by simp only [List.take, List.drop, List.append, List.cons_append, List.nil_append]; rfl) rfl) ?_
      refine EP.o rfl (Does.move rfl) ?_
      refine EP.upd2 (a := mkAt f s k) (Or.inl rfl) (mk_law Tryz.underlying223) mp220 rfl rfl rfl hM ?_
      intro w12 hs12 hx12 hM12
      have hz12 := hx12.size
      replace hC := hC.step hx12 (by simp; omega)
      replace hB1 := hB1.chg hx12 (by simp; omega)
      replace hB2 := hB2.chg hx12 (by simp; omega)
      replace hB3 := hB3.chg hx12 (by simp; omega)
      replace hBm := hBm.chg hx12 (by simp; omega)
      clear hM; have hM := hM12; clear hM12
      refine EP.nil ?_
      refine EW.reg ?_
      refine EP.o rfl (Does.move rfl) ?_
      refine EP.o rfl (Does.move rfl) ?_
      refine EP.o rfl (Does.indexAddrA1 ar127 rfl rfl (by omega) (by omega)) ?_
      refine EP.put2 (Puts.blk (cs' := (nats (splitU f s (k + 1)))) sz3 rfl rfl hB1 rfl rfl rfl (by simp [nats, hul]; omega) (by rw [splitU_succ f s k hf hk', ← hvn, hv2]; simp [List.set_eq_take_append_cons_drop, nats, hul]; omega)) ?_
      intro w13 hs13 hx13 hB13
      have hz13 := hx13.size
      replace hC := hC.step hx13 (by simp; omega)
      replace hB2 := hB2.chg hx13 (by simp; omega)
      replace hB3 := hB3.chg hx13 (by simp; omega)
      replace hM := hM.chg hx13 (by simp; omega)
      replace hBm := hBm.chg hx13 (by simp; omega)
      clear hB1; have hB1 := hB13; clear hB13
      refine EP.nil ?_
      refine EW.reg ?_
      refine EP.o rfl (Does.addi rfl rfl (by omega)) ?_
      refine EP.o rfl (Does.move rfl) ?_
      refine EP.nil ?_
      refine ⟨k + 1, ⟨rfl, rfl, rfl, rfl, rfl, rfl, trivial⟩, ?_, ?_⟩
      exact ⟨hC, hB1, hB2, hB3, by rw [hme]; exact hM, hk'⟩
      omega
    · try simp at h2
      have hyes : (mget (metU f s k) (mkAt f s k)).isSome = true := by simpa using h2
      have hme : metU f s (k + 1) = metU f s k := by rw [metU, if_pos hyes]
      have hv2 : (mget (metU f s k) (mkAt f s k)).getD 0 = ((newAt f s k : Nat) : Int) := by rw [← hme, hv, hvn]; rfl
      refine EW.skip ?_
      refine EW.reg ?_
      refine EP.o rfl (Does.move rfl) ?_
      refine EP.o rfl (Does.move rfl) ?_
      refine EP.o rfl (Does.indexAddrA1 ar127 rfl rfl (by omega) (by omega)) ?_
      refine EP.put2 (Puts.blk (cs' := (nats (splitU f s (k + 1)))) sz3 rfl rfl hB1 rfl rfl rfl (by simp [nats, hul]; omega) (by rw [splitU_succ f s k hf hk', ← hv2]; simp [List.set_eq_take_append_cons_drop, nats, hul]; omega)) ?_
      intro w14 hs14 hx14 hB14
      have hz14 := hx14.size
      replace hC := hC.step hx14 (by simp; omega)
      replace hB2 := hB2.chg hx14 (by simp; omega)
      replace hB3 := hB3.chg hx14 (by simp; omega)
      replace hM := hM.chg hx14 (by simp; omega)
      replace hBm := hBm.chg hx14 (by simp; omega)
      clear hB1; have hB1 := hB14; clear hB14
      refine EP.nil ?_
      refine EW.reg ?_
      refine EP.o rfl (Does.addi rfl rfl (by omega)) ?_
      refine EP.o rfl (Does.move rfl) ?_
      refine EP.nil ?_
      refine ⟨k + 1, ⟨rfl, rfl, rfl, rfl, rfl, rfl, trivial⟩, ?_, ?_⟩
      exact ⟨hC, hB1, hB2, hB3, by rw [hme]; exact hM, hk'⟩
      omega
  · try simp at h1
    have hkk : k = 256 := by omega
    subst hkk
    rw [splitU_full f s hf] at hB1
    have hsl := splitL_len f s
    refine EW.exit (brk_here ?_)
    refine EW.seq ?_
    refine EW.reg ?_
    refine EP.o rfl (Does.loadCs (vs := (nats (splitL f s).1)) ag127 rfl (Keeps.now _) hB1.cells (by rw [nats_len]; exact hsl)) ?_
    refine EP.o rfl (Does.move rfl) ?_
    refine EP.o rfl (Does.mlen (k := 223) (el := 3) mp220 rfl hM (Keeps.now _)) ?_
    refine EP.put2 (Puts.blk (cs' := (nats (splitL f s).1)) sz127 rfl rfl hB3 rfl (by rw [nats_len]; exact hsl) (nats_one _) rfl (by simp [nats, hsl])) ?_
    intro w15 hs15 hx15 hB15
    have hz15 := hx15.size
    replace hC := hC.step hx15 (by simp; omega)
    replace hB1 := hB1.chg hx15 (by simp; omega)
    replace hB2 := hB2.chg hx15 (by simp; omega)
    replace hM := hM.chg hx15 (by simp; omega)
    clear hB3; have hB3 := hB15; clear hB15
    refine EP.o rfl (Does.assign rfl) ?_
    refine EP.nil ?_
    refine EW.ret ?_
    refine Fin.cell_tmp rfl rfl (Blk.loadV ag127 (by assumption) (by simp only [List.take, List.drop, List.append, List.cons_append, List.nil_append]; rfl) rfl) rfl ?_
    refine ⟨hC, ?_⟩
    rw [List.take_of_length_le (by rw [nats_len]; omega), splitL_two]
end Go.Clt
end
section
set_option linter.unusedVariables false
set_option linter.unusedSimpArgs false
set_option maxRecDepth 4000
namespace Go.Clt
set_option maxHeartbeats 4000000
open Go Go.RowKit Go.Proofs
theorem putL_zero : ∀ (cs vs : List Value), vs.length ≤ cs.length → putL cs 0 vs = vs ++ cs.drop vs.length
  | [], [], _ => rfl
  | [], v :: vs, h => by simp at h
  | c :: cs, [], _ => rfl
  | c :: cs, v :: vs, h => by simp only [putL, List.length_cons, List.drop_succ_cons, List.cons_append]; rw [putL_zero cs vs (by simpa using h)]
theorem putL_skip : ∀ (cs : List Value) (o : Nat) (vs : List Value), vs.length ≤ cs.length - o → o ≤ cs.length → putL cs o vs = cs.take o ++ putL (cs.drop o) 0 vs
  | cs, 0, vs, _, _ => by simp
  | [], o + 1, vs, _, h => by simp at h
  | c :: cs, o + 1, vs, h1, h2 => by simp only [putL, List.take_succ_cons, List.drop_succ_cons, List.cons_append]; rw [putL_skip cs o vs (by simpa using h1) (by simpa using h2)]
theorem fill129 (f : List Value) (hf : f.length = 256) (x : Value) (hx : cellsL x = [x]) : fillL ([(0, 256), (256, 1)][·]?) (cellsL (.agg (List.replicate 256 (Value.int .i64 0) ++ [Value.slice none 0 0]).toArray)) [(0, .agg f.toArray), (1, x)] = some (f ++ [x]) := by
  have h0 : cellsL (.agg (List.replicate 256 (Value.int .i64 0) ++ [Value.slice none 0 0]).toArray) = List.replicate 256 (Value.int .i64 0) ++ [Value.slice none 0 0] := rfl
  have h1 : cellsL (.agg f.toArray) = f := rfl
  rw [h0]
  generalize hz : (List.replicate 256 (Value.int .i64 0)) = z
  have hzl : z.length = 256 := by rw [← hz, List.length_replicate]
  unfold fillL
  simp only [List.getElem?_cons_zero, h1]
  have hb : (Nat.beq f.length 256 && Nat.ble (0 + 256) (z ++ [Value.slice none 0 0]).length) = true := by simp [hf, hzl]
  rw [hb, cond_true]
  unfold fillL
  simp only [List.getElem?_cons_succ, List.getElem?_cons_zero, hx]
  rw [putL_zero _ _ (by simp [hzl, hf])]
  have hd : (z ++ [Value.slice none 0 0]).drop f.length = [Value.slice none 0 0] := by rw [List.drop_append_of_le_length (by omega), List.drop_of_length_le (by omega)]; rfl
  rw [hd]
  have hb2 : (Nat.beq [x].length 1 && Nat.ble (256 + 1) (f ++ [Value.slice none 0 0]).length) = true := by simp [hf]
  rw [hb2, cond_true]
  unfold fillL
  rw [putL_skip _ 256 _ (by simp [hf]) (by simp [hf]), putL_zero _ _ (by simp [hf])]
  simp [← hf]
structure BlkM (F : Nat → Prop) (w : World) (p : Nat) (f : List Nat) (n : Nat) (bs : Nat) : Prop where
  blk : Blk w p (nats f ++ [.slice (some ⟨bs, 0, none⟩) n n]) 129
  fp : F p
  sets : Blk w bs (setsCells (buildU f n 256)) 70
  fs : F bs
  len : f.length = 256
def IsBlk (F : Nat → Prop) (w : World) (p : Nat) (f : List Nat) (n : Nat) : Prop := ∃ bs, BlkM F w p f n bs
theorem IsBlk.chg {F : Nat → Prop} {w w' : World} {p n : Nat} {f : List Nat} {S : List Nat} (h : IsBlk F w p f n) (c : Chg S w w') (hS : ∀ b ∈ S, ¬ F b) : IsBlk F w' p f n := by
  obtain ⟨bs, h⟩ := h
  exact ⟨bs, h.blk.chg c (fun hm => hS _ hm h.fp), h.fp, h.sets.chg c (fun hm => hS _ hm h.fs), h.fs, h.len⟩
theorem IsBlk.chg0 {F : Nat → Prop} {w w' : World} {p n : Nat} {f : List Nat} (h : IsBlk F w p f n) (c : Chg [] w w') : IsBlk F w' p f n := h.chg c (by simp)
theorem IsBlk.mono {F F' : Nat → Prop} {w : World} {p n : Nat} {f : List Nat} (h : IsBlk F w p f n) (hF : ∀ b, F b → b < w.heap.size → F' b) : IsBlk F' w p f n := by
  obtain ⟨bs, h⟩ := h
  exact ⟨bs, h.blk, hF _ h.fp h.blk.lt, h.sets, hF _ h.fs h.sets.lt, h.len⟩
theorem IsBlk.lt {F : Nat → Prop} {w : World} {p n : Nat} {f : List Nat} (h : IsBlk F w p f n) : p < w.heap.size := by
  obtain ⟨bs, h⟩ := h; exact h.blk.lt
theorem setsCells_zero (n : Nat) : setsCells (List.replicate n 0) = List.replicate (n * 4) (.int .u64 0) := by
  induction n with
  | zero => rfl
  | succ n ih =>
    rw [List.replicate_succ, show (n + 1) * 4 = 4 + n * 4 from by omega, ← List.replicate_append_replicate]
    show setCells 0 ++ setsCells (List.replicate n 0) = _
    rw [ih, setCells_zero]; rfl
theorem made_set (m : Nat) : (madeCells #[.int .u64 0, .int .u64 0, .int .u64 0, .int .u64 0] m).toList = List.replicate m (.int .u64 0) := by
  apply List.ext_getElem
  · simp [madeCells]
  · intro i h1 h2
    have h4 : i % 4 = 0 ∨ i % 4 = 1 ∨ i % 4 = 2 ∨ i % 4 = 3 := by omega
    simp only [madeCells]
    rcases h4 with h | h | h | h <;> simp [h]
theorem bbuild_c (f : List Nat) (n : Nat) (hf : f.length = 256) (hv : ∀ b, b < 256 → f.getD b 0 < n) (hn : n ≤ 256) (w : World) : Calls P 103 #[.agg (nats f).toArray, .int .i64 (n : Nat)] w (Ret fun u w' => Chg [] w w' ∧ ∃ p, u = .pointer (some ⟨p, 0, none⟩) ∧ IsBlk (FR w.heap.size w'.heap.size []) w' p f n) := by
  have hC := Chg.refl [] w
  have hnl : (nats f).length = 256 := by rw [nats_len]; exact hf
  refine enter Tryz.func103 rfl rfl ?_
  refine EW.seq ?_
  refine EW.reg ?_
  refine EP.new2 rfl (News.box rfl rfl) ?_
  intro b1 w1 hb1 hs1 hx1 hB1
  have hz1 := hx1.size
  replace hC := hC.step0 hx1
  refine EP.o rfl (Does.assign rfl) ?_
  refine EP.nil ?_
  refine EW.seq ?_
  refine EW.drw' (S := []) 3 [(0, 0), (0, 1), (1, 2), (2, 3), (2, 4), (2, 5)] mo (by kernel_rfl) ?_
  intro w2 hx2 hh2
  have hz2 := hx2.size
  replace hC := hC.step0 hx2
  replace hB1 := hB1.chg0 hx2
  have hCS2 := Chg.refl ([]) w2
  refine EP.f rfl (Does.loadCsc (vs := (nats f)) ag127 rfl ⟨Blk.lt (by assumption), Blk.cells (by assumption)⟩ (by simp; done) hnl) ?_
  refine EP.f rfl (Does.move rfl) ?_
  refine EP.new1 rfl (News.make el23 zr70 rfl (cs := List.replicate (n * 4) (.int .u64 0)) (by omega) (by omega) (by show (madeCells #[_, _, _, _] (((n : Nat) : Int).toNat * 4)).toList = _; rw [Int.toNat_natCast]; exact made_set _)) ?_
  intro b3 w3 hb3 hs3 hx3 hB3
  have hz3 := hx3.size
  replace hC := hC.step0 hx3
  replace hB1 := hB1.chg0 hx3
  replace hCS2 := hCS2.step0 hx3
  refine ⟨hCS2, ?_⟩
  refine EP.o rfl (Does.buildSL (vs := [(0, .agg (nats f).toArray), (1, .slice (some ⟨b3, 0, none⟩) n n)]) zr129 pl129 (by rfl) (fill129 (nats f) hnl _ rfl)) ?_
  refine EP.new2 rfl (News.box rfl rfl) ?_
  intro b4 w4 hb4 hs4 hx4 hB4
  have hz4 := hx4.size
  replace hC := hC.step0 hx4
  replace hB1 := hB1.chg0 hx4
  replace hB3 := hB3.chg0 hx4
  refine EP.o rfl (Does.assign rfl) ?_
  refine EP.nil ?_
  refine EW.seq ?_
  refine EW.seq ?_
  refine EW.reg ?_
  refine EP.o rfl (Does.move rfl) ?_
  refine EP.nil ?_
  refine EW.block ?_
  refine EW.loop (σ := Nat) (fun k => [(2, .pointer (some ⟨b1, 0, none⟩)), (5, .pointer (some ⟨b4, 0, none⟩)), (12, .int .i64 k)]) (fun k wr => Chg [] w wr ∧ Blk wr b1 (nats f) 127 ∧ Blk wr b4 (nats f ++ [.slice (some ⟨b3, 0, none⟩) n n]) 129 ∧ Blk wr b3 (setsCells (buildU f n k)) 70 ∧ k ≤ 256) (fun k wr => 256 - k) 0 ⟨rfl, rfl, rfl, trivial⟩ ?_ ?_
  · refine ⟨hC, hB1, hB4, ?_, Nat.zero_le _⟩
    rw [buildU_zero, setsCells_zero]
    exact hB3
  rintro k w9 ⟨hC, hB1, hB4, hB3, hk⟩
  try have hzw := hC.size
  try have hlB1 := hB1.lt
  try have hlB4 := hB4.lt
  try have hlB3 := hB3.lt
  refine EW.seq ?_
  refine EW.reg ?_
  refine EP.o rfl (Does.cmp rfl rfl rfl) ?_
  refine EP.nil ?_
  refine EW.seq ?_
  refine EW.cond rfl (fun h1 => ?_) (fun h1 => ?_)
  · try simp at h1
    have hk' : k < 256 := by omega
    have hfv := hv k hk'
    have hbl := buildU_len f n k
    have hcell := hB1.cells k _ (nats_get f k (by omega))
    refine EW.skip ?_
    refine EW.seq ?_
    refine EW.block ?_
    refine EW.seq ?_
    refine EW.reg ?_
    refine EP.o rfl (Does.move rfl) ?_
    refine EP.o rfl (Does.assign rfl) ?_
    refine EP.nil ?_
    refine EW.drw' (S := []) 22 [(0, 0), (0, 1), (0, 2), (0, 3), (0, 4), (0, 5), (0, 6), (0, 7), (0, 8), (0, 9), (0, 10), (0, 11), (0, 12), (0, 13), (0, 14), (0, 15), (0, 16), (0, 17), (1, 18), (1, 19), (1, 20), (1, 21), (2, 22), (2, 23)] mo (by kernel_rfl) ?_
    intro w5 hx5 hh5
    have hz5 := hx5.size
    replace hC := hC.step0 hx5
    replace hB1 := hB1.chg0 hx5
    replace hB4 := hB4.chg0 hx5
    replace hB3 := hB3.chg0 hx5
    have hCS5 := Chg.refl ([]) w5
    have hcell := hB1.cells k _ (nats_get f k (by omega))
    have hsl := hB4.cells 256 (.slice (some ⟨b3, 0, none⟩) n n) (by rw [List.getElem?_append_right (by omega), hnl]; rfl)
    have hset : ∀ j v, (setCells ((buildU f n k).getD (f.getD k 0) 0))[j]? = some v → ((World.cell? _ ⟨b3, 0 + (((f.getD k 0 : Nat) : Int)).toNat * 4 + j, none⟩) = some v) := fun j v hj => by
      have hj4 : j < 4 := (List.getElem?_eq_some_iff.1 hj).1
      rw [hB3.cell, Nat.zero_add, Int.toNat_natCast, setsCells_get _ _ _ (by rw [hbl]; exact hfv) hj4]
      exact hj
    refine EP.f rfl (Does.move rfl) ?_
    refine EP.f rfl (Does.nilCheck rfl) ?_
    refine EP.f rfl (Does.fieldAddr fl129_1 rfl) ?_
    refine EP.f rfl (Does.load1c o23 rfl hsl (by first | (simp; done) | (simp; omega))) ?_
    refine EP.f rfl (Does.move rfl) ?_
    refine EP.f rfl (Does.indexAddrA1 ar127 rfl rfl (by omega) (by omega)) ?_
    refine EP.f rfl (Does.load1c o3 rfl hcell (by first | (simp; done) | (simp; omega))) ?_
    refine EP.f rfl (Does.move rfl) ?_
    refine EP.f rfl (Does.nilCheck rfl) ?_
    refine EP.f rfl (Does.fieldAddr fl129_1 rfl) ?_
    refine EP.f rfl (Does.load1c o23 rfl hsl (by first | (simp; done) | (simp; omega))) ?_
    refine EP.f rfl (Does.move rfl) ?_
    refine EP.f rfl (Does.indexAddrA1 ar127 rfl rfl (by omega) (by omega)) ?_
    refine EP.f rfl (Does.load1c o3 rfl hcell (by first | (simp; done) | (simp; omega))) ?_
    refine EP.f rfl (Does.indexAddr sl23 rfl rfl (by omega) (by omega)) ?_
    refine EP.f rfl (Does.loadCsc (vs := (setCells ((buildU f n k).getD (f.getD k 0) 0))) ag70 rfl ⟨hB3.lt, hset⟩ (by simp; done) rfl) ?_
    refine EP.f rfl (Does.move rfl) ?_
    refine EP.f rfl (Does.convw kn3 Tryz.underlying5 rfl (by exact wrap_u8 (by omega))) ?_
    refine EP.new1 rfl (News.buildL sl44 Tryz.underlying44 zr5 rfl rfl rfl (by rfl)) ?_
    intro b6 w6 hb6 hs6 hx6 hB6
    have hz6 := hx6.size
    replace hC := hC.step0 hx6
    replace hB1 := hB1.chg0 hx6
    replace hB4 := hB4.chg0 hx6
    replace hB3 := hB3.chg0 hx6
    replace hCS5 := hCS5.step0 hx6
    refine ⟨hCS5, ?_⟩
    refine EP.call1 rfl (Enters.fn fb139 rfl) (of1_c _ _ _ _ _ (by assumption) (by omega) (by omega)) ?_
    rintro _ w7 ⟨rfl, hx7⟩
    have hz7 := hx7.size
    replace hC := hC.step0 hx7
    replace hB1 := hB1.chg0 hx7
    replace hB4 := hB4.chg0 hx7
    replace hB3 := hB3.chg0 hx7
    replace hCS5 := hCS5.step0 hx7
    replace hB6 := hB6.chg0 hx7
    refine ⟨hCS5, ?_⟩
    refine EP.new1 rfl (News.buildL sl23 Tryz.underlying23 zr70 rfl rfl rfl (by rfl)) ?_
    intro b8 w8 hb8 hs8 hx8 hB8
    have hz8 := hx8.size
    replace hC := hC.step0 hx8
    replace hB1 := hB1.chg0 hx8
    replace hB4 := hB4.chg0 hx8
    replace hB3 := hB3.chg0 hx8
    replace hCS5 := hCS5.step0 hx8
    replace hB6 := hB6.chg0 hx8
    refine ⟨hCS5, ?_⟩
    refine EP.call1 rfl (Enters.fn fb138 rfl) (union2_c ((buildU f n k).getD (f.getD k 0) 0) (ofBytes [k]) _ _ _ _ (by assumption)) ?_
    rintro _ w9 ⟨rfl, hx9⟩
    have hz9 := hx9.size
    replace hC := hC.step0 hx9
    replace hB1 := hB1.chg0 hx9
    replace hB4 := hB4.chg0 hx9
    replace hB3 := hB3.chg0 hx9
    replace hCS5 := hCS5.step0 hx9
    replace hB6 := hB6.chg0 hx9
    replace hB8 := hB8.chg0 hx9
    refine ⟨hCS5, ?_⟩
    refine EP.o rfl (Does.indexAddr sl23 rfl rfl (by omega) (by omega)) ?_
    refine EP.put2 (Puts.blk (cs' := (setsCells (buildU f n (k + 1)))) sz70 rfl rfl hB3 rfl rfl rfl (by rw [setsCells_length, hbl, Nat.ble_eq]; omega) (by rw [buildU_succ f n k hfv, Int.toNat_natCast]; exact sets_put _ _ _ (by rw [hbl]; exact hfv))) ?_
    intro w10 hs10 hx10 hB10
    have hz10 := hx10.size
    replace hC := hC.step hx10 (by simp; omega)
    replace hB1 := hB1.chg hx10 (by simp; omega)
    replace hB4 := hB4.chg hx10 (by simp; omega)
    replace hB6 := hB6.chg hx10 (by simp; omega)
    replace hB8 := hB8.chg hx10 (by simp; omega)
    clear hB3; have hB3 := hB10; clear hB10
    refine EP.nil ?_
    refine EW.reg ?_
    refine EP.o rfl (Does.addi rfl rfl (by omega)) ?_
    refine EP.o rfl (Does.move rfl) ?_
    refine EP.nil ?_
    refine ⟨k + 1, ⟨rfl, rfl, rfl, trivial⟩, ?_, ?_⟩
    exact ⟨hC, hB1, hB4, hB3, hk'⟩
    omega
  · try simp at h1
    have hkk : k = 256 := by omega
    subst hkk
    refine EW.exit (brk_here ?_)
    refine EW.seq ?_
    refine EW.reg ?_
    refine EP.o rfl (Does.move rfl) ?_
    refine EP.o rfl (Does.assign rfl) ?_
    refine EP.nil ?_
    refine EW.ret ?_
    refine Fin.one rfl rfl ?_
    exact ⟨hC, b4, rfl, b3, hB4, ⟨by omega, hB4.lt, by simp⟩, hB3, ⟨by omega, hB3.lt, by simp⟩, hf⟩
end Go.Clt
end
section
set_option linter.unusedVariables false
set_option linter.unusedSimpArgs false
set_option maxRecDepth 4000
namespace Go.Clt
set_option maxHeartbeats 4000000
open Go Go.RowKit Go.Proofs
theorem blocksF_take (S : List Nat) (k : Nat) (hk : k < S.length) : blocksF (S.take (k + 1)) = splitL (blocksF (S.take k)).1 (S.getD k 0) := by
  unfold blocksF
  rw [List.take_succ_eq_append_getElem hk, List.foldl_append]
  simp only [List.foldl_cons, List.foldl_nil]
  rw [List.getD_eq_getElem?_getD, List.getElem?_eq_getElem hk]
  rfl
theorem bnew_c (S : List Nat) (F : Nat → Prop) (A : Option Addr) (c : Nat) (w : World) (hn : S.length ≤ 1000000) (hF : ∀ x, F x → x < w.heap.size) (hr : Rd F w 4 A S.length (setsCells S)) :
    Calls P 73 #[.slice A S.length c] w (Ret fun u w' => Chg [] w w' ∧ ∃ p, u = .pointer (some ⟨p, 0, none⟩) ∧ IsBlk (FR w.heap.size w'.heap.size []) w' p (blocksF S).1 (blocksF S).2) := by
  have hC := Chg.refl [] w
  refine enter Tryz.func73 rfl rfl ?_
  refine EW.seq ?_
  refine EW.reg ?_
  refine EP.o rfl (Does.assign rfl) ?_
  refine EP.nil ?_
  refine EW.seq ?_
  refine EW.reg ?_
  refine EP.new2 rfl (News.alloc (cs := List.replicate 256 (Value.int .i64 0)) zr127 rfl) ?_
  intro b1 w1 hb1 hs1 hx1 hB1
  have hz1 := hx1.size
  replace hC := hC.step0 hx1
  replace hr := hr.chg0 hx1
  refine EP.nil ?_
  refine EW.seq ?_
  refine EW.reg ?_
  refine EP.o rfl (Does.assign rfl) ?_
  refine EP.nil ?_
  refine EW.seq ?_
  refine EW.seq ?_
  refine EW.reg ?_
  refine EP.o rfl (Does.move rfl) ?_
  refine EP.o rfl (Does.lenL Tryz.underlying23 rfl) ?_
  refine EP.o rfl (Does.move rfl) ?_
  refine EP.nil ?_
  refine EW.block ?_
  refine EW.loop (σ := Nat) (fun k => [(3, .pointer (some ⟨b1, 0, none⟩)), (4, .int .i64 (((blocksF (S.take k)).2 : Nat) : Int)), (7, .slice A S.length c), (8, .int .i64 (S.length : Nat)), (9, .int .i64 k)]) (fun k wr => Chg [] w wr ∧ Rd F wr 4 A S.length (setsCells S) ∧ Blk wr b1 (nats (blocksF (S.take k)).1) 127 ∧ k ≤ S.length) (fun k wr => S.length - k) 0 ⟨rfl, rfl, rfl, rfl, rfl, trivial⟩ ?_ ?_
  · refine ⟨hC, hr, ?_, Nat.zero_le _⟩
    show Blk _ b1 (nats (List.replicate 256 0)) 127
    rw [nats_zero]
    exact hB1
  rintro k w9 ⟨hC, hr, hB1, hk⟩
  have hok := blocksF_ok (S.take k)
  try have hzw := hC.size
  try have hlB1 := hB1.lt
  refine EW.seq ?_
  refine EW.reg ?_
  refine EP.o rfl (Does.cmp rfl rfl rfl) ?_
  refine EP.nil ?_
  refine EW.seq ?_
  refine EW.cond rfl (fun h1 => ?_) (fun h1 => ?_)
  · try simp at h1
    have hkn : k < S.length := by omega
    have hA : ∃ g off, A = some ⟨g, off, none⟩ ∧ F g := by obtain ⟨g, off, h, h2, _⟩ := hr.at_ (by omega); exact ⟨g, off, h, h2⟩
    obtain ⟨g, off, rfl, _⟩ := hA
    have hset : ∀ j v, (setCells (S.getD k 0))[j]? = some v → (w9.cell? ⟨g, off + (((k : Nat) : Int)).toNat * 4 + j, none⟩ = some v) := fun j v hj => by
      obtain ⟨g', off', h, _, _, hc⟩ := hr.at_ (by omega)
      injection h with h; injection h with h1 h2; subst h1; subst h2
      have hj4 : j < 4 := (List.getElem?_eq_some_iff.1 hj).1
      rw [Nat.add_assoc, Int.toNat_natCast]
      exact hc _ v (by rw [setsCells_get _ _ _ hkn hj4]; exact hj)
    have hfl : (nats (blocksF (S.take k)).1).length = 256 := by rw [nats_len]; exact hok.1
    have hFn : ∀ x ∈ [b1], ¬ F x := fun x hx h => by have := hF x h; have := List.mem_singleton.1 hx; omega
    refine EW.skip ?_
    refine EW.seq ?_
    refine EW.block ?_
    refine EW.seq ?_
    refine EW.reg ?_
    refine EP.o rfl (Does.indexAddr sl23 rfl rfl (by omega) (by omega)) ?_
    refine EP.o rfl (Does.loadCs (vs := (setCells (S.getD k 0))) ag70 rfl (Keeps.now _) hset rfl) ?_
    refine EP.new2 rfl (News.alloc zr70 rfl) ?_
    intro b2 w2 hb2 hs2 hx2 hB2
    have hz2 := hx2.size
    replace hC := hC.step0 hx2
    replace hr := hr.chg0 hx2
    replace hB1 := hB1.chg0 hx2
    refine EP.put2 (Puts.blk sz70 rfl rfl (by assumption) rfl rfl rfl rfl (by simp only [List.take, List.drop, List.append, List.cons_append, List.nil_append]; rfl)) ?_
    intro w3 hs3 hx3 hB3
    have hz3 := hx3.size
    replace hC := hC.step hx3 (by simp; omega)
    replace hr := hr.chg hx3 (by intro b hb hFb; have := hF _ hFb; simp at hb; omega)
    replace hB1 := hB1.chg hx3 (by simp; omega)
    clear hB2; have hB2 := hB3; clear hB3
    refine EP.nil ?_
    refine EW.reg ?_
    refine EP.o rfl (Does.loadCs (vs := (nats (blocksF (S.take k)).1)) ag127 rfl (Keeps.now _) hB1.cells hfl) ?_
    refine EP.o rfl (Does.loadA ag70 rfl (Keeps.now _) (by assumption) (by simp only [List.take, List.drop, List.append, List.cons_append, List.nil_append]; rfl) rfl) ?_
    refine EP.call2 rfl (Enters.fn fb102 rfl) (split_c (blocksF (S.take k)).1 (S.getD k 0) hok.1 _) ?_
    rintro _ w4 ⟨hx4, rfl⟩
    have hz4 := hx4.size
    replace hC := hC.step0 hx4
    replace hr := hr.chg0 hx4
    replace hB1 := hB1.chg0 hx4
    replace hB2 := hB2.chg0 hx4
    refine EP.o rfl (Does.move rfl) ?_
    refine EP.o rfl (Does.extract rfl rfl) ?_
    refine EP.o rfl (Does.extract rfl rfl) ?_
    refine EP.put2 (Puts.blk (cs' := (nats (splitL (blocksF (S.take k)).1 (S.getD k 0)).1)) sz127 rfl rfl hB1 rfl (by rw [nats_len]; exact splitL_len _ _) (nats_one _) (by rw [hfl]; rfl) (by have := splitL_len (blocksF (S.take k)).1 (S.getD k 0); simp [nats, hok.1, this])) ?_
    intro w5 hs5 hx5 hB5
    have hz5 := hx5.size
    replace hC := hC.step hx5 (by simp; omega)
    replace hr := hr.chg hx5 (by assumption)
    replace hB2 := hB2.chg hx5 (by simp; omega)
    clear hB1; have hB1 := hB5; clear hB5
    refine EP.o rfl (Does.assign rfl) ?_
    refine EP.nil ?_
    refine EW.reg ?_
    refine EP.o rfl (Does.addi rfl rfl (by omega)) ?_
    refine EP.o rfl (Does.move rfl) ?_
    refine EP.nil ?_
    refine ⟨k + 1, ⟨rfl, (lk_int rfl (by rw [blocksF_take S k hkn])), rfl, rfl, rfl, trivial⟩, ?_, ?_⟩
    exact ⟨hC, hr, by rw [blocksF_take S k hkn]; exact hB1, hkn⟩
    omega
  · try simp at h1
    have hkk : k = S.length := by omega
    subst hkk
    rw [List.take_of_length_le (Nat.le_refl _)] at hok hB1
    rw [List.take_of_length_le (Nat.le_refl _)]
    have hfl : (nats (blocksF S).1).length = 256 := by rw [nats_len]; exact hok.1
    refine EW.exit (brk_here ?_)
    refine EW.seq ?_
    refine EW.reg ?_
    refine EP.o rfl (Does.loadCs (vs := (nats (blocksF S).1)) ag127 rfl (Keeps.now _) hB1.cells hfl) ?_
    refine EP.o rfl (Does.move rfl) ?_
    refine EP.call2 rfl (Enters.fn fb103 rfl) (bbuild_c (blocksF S).1 (blocksF S).2 hok.1 hok.2.1 hok.2.2 _) ?_
    rintro v9 w6 ⟨hx6, p, rfl, hI⟩
    have hz6 := hx6.size
    replace hC := hC.step0 hx6
    replace hr := hr.chg0 hx6
    replace hB1 := hB1.chg0 hx6
    refine EP.o rfl (Does.assign rfl) ?_
    refine EP.nil ?_
    refine EW.ret ?_
    refine Fin.one rfl rfl ?_
    exact ⟨hC, p, rfl, hI.mono (fun y hy hl => ⟨by have := hy.1; omega, hl, by simp⟩)⟩
theorem bcount_c (F : Nat → Prop) (p : Nat) (f : List Nat) (n : Nat) (w : World) (hI : IsBlk F w p f n) : Calls P 41 #[.pointer (some ⟨p, 0, none⟩)] w (Ret fun u w' => u = .int .i64 (n : Nat) ∧ Chg [] w w') := by
  obtain ⟨bs, h⟩ := hI
  have hB0 := h.blk
  have hnl : (nats f).length = 256 := by rw [nats_len]; exact h.len
  have hsl := hB0.cells 256 (.slice (some ⟨bs, 0, none⟩) n n) (by rw [List.getElem?_append_right (by omega), hnl]; rfl)
  refine enter Tryz.func41 rfl rfl ?_
  refine EW.seq ?_
  refine EW.reg ?_
  refine EP.o rfl (Does.assign rfl) ?_
  refine EP.nil ?_
  refine EW.seq ?_
  refine EW.seq ?_
  refine EW.reg ?_
  refine EP.o rfl (Does.move rfl) ?_
  refine EP.o rfl (Does.eqPtr Tryz.underlying81 rfl rfl) ?_
  refine EP.nil ?_
  refine EW.cond rfl (fun h0 => ?_) (fun h0 => ?_)
  · try simp at h0
    all_goals cases h0
  · try simp at h0
    refine EW.skip ?_
    refine EW.seq ?_
    refine EW.reg ?_
    refine EP.o rfl (Does.move rfl) ?_
    refine EP.o rfl (Does.nilCheck rfl) ?_
    refine EP.o rfl (Does.fieldAddr fl129_1 rfl) ?_
    refine EP.o rfl (Does.load1 o23 rfl (Keeps.now _) hsl) ?_
    refine EP.o rfl (Does.lenL Tryz.underlying23 rfl) ?_
    refine EP.o rfl (Does.assign rfl) ?_
    refine EP.nil ?_
    refine EW.ret ?_
    refine Fin.one rfl rfl ?_
    exact ⟨rfl, Chg.refl [] w⟩
theorem bof_c (F : Nat → Prop) (p : Nat) (f : List Nat) (n b : Nat) (hb : b < 256) (w : World) (hI : IsBlk F w p f n) : Calls P 48 #[.pointer (some ⟨p, 0, none⟩), .int .u8 (b : Nat)] w (Ret fun u w' => u = .int .i64 ((f.getD b 0 : Nat) : Int) ∧ Chg [] w w') := by
  obtain ⟨bs, h⟩ := hI
  have hB0 := h.blk
  have hcell := hB0.cells b (.int .i64 ((f.getD b 0 : Nat) : Int)) (by rw [List.getElem?_append_left (by rw [nats_len, h.len]; exact hb)]; exact nats_get f b (by rw [h.len]; exact hb))
  refine enter Tryz.func48 rfl rfl ?_
  refine EW.seq ?_
  refine EW.reg ?_
  refine EP.o rfl (Does.assign rfl) ?_
  refine EP.nil ?_
  refine EW.seq ?_
  refine EW.seq ?_
  refine EW.reg ?_
  refine EP.o rfl (Does.move rfl) ?_
  refine EP.o rfl (Does.eqPtr Tryz.underlying81 rfl rfl) ?_
  refine EP.nil ?_
  refine EW.cond rfl (fun h0 => ?_) (fun h0 => ?_)
  · try simp at h0
    all_goals cases h0
  · try simp at h0
    refine EW.skip ?_
    refine EW.seq ?_
    refine EW.reg ?_
    refine EP.o rfl (Does.move rfl) ?_
    refine EP.o rfl (Does.move rfl) ?_
    refine EP.o rfl (Does.nilCheck rfl) ?_
    refine EP.o rfl (Does.fieldAddr fl129_0 rfl) ?_
    refine EP.o rfl (Does.indexAddrA1 ar127 rfl rfl (by omega) (by omega)) ?_
    refine EP.o rfl (Does.load1 o3 rfl (Keeps.now _) hcell) ?_
    refine EP.o rfl (Does.assign rfl) ?_
    refine EP.nil ?_
    refine EW.ret ?_
    refine Fin.one rfl rfl ?_
    exact ⟨rfl, Chg.refl [] w⟩
theorem bset_c (F : Nat → Prop) (p : Nat) (f : List Nat) (n i : Nat) (hi : i < n) (hn : n ≤ 256) (w : World) (hI : IsBlk F w p f n) (hFw : ∀ x, F x → x < w.heap.size) : Calls P 75 #[.pointer (some ⟨p, 0, none⟩), .int .i64 (i : Nat)] w (Ret fun u w' => u = .agg (setCells (blockOf f 256 i)).toArray ∧ Chg [] w w') := by
  have hC := Chg.refl [] w
  refine enter Tryz.func75 rfl rfl ?_
  refine EW.seq ?_
  refine EW.reg ?_
  refine EP.new2 rfl (News.alloc zr70 rfl) ?_
  intro b1 w1 hb1 hs1 hx1 hB1
  have hz1 := hx1.size
  replace hC := hC.step0 hx1
  replace hI := hI.chg0 hx1
  refine EP.nil ?_
  refine EW.seq ?_
  refine EW.seq ?_
  refine EW.reg ?_
  refine EP.o rfl (Does.move rfl) ?_
  refine EP.o rfl (Does.cmp rfl rfl rfl) ?_
  refine EP.o rfl (Does.move rfl) ?_
  refine EP.bsplit (d := 7) rfl (fun h1 => ?_) (fun h1 => ?_)
  · try simp at h1
    all_goals omega
  · try simp at h1
    refine EP.ung rfl rfl rfl ?_
    refine EP.o rfl (Does.move rfl) ?_
    refine EP.ung rfl rfl rfl ?_
    refine EP.o rfl (Does.move rfl) ?_
    refine EP.ung rfl rfl rfl ?_
    refine EP.call2 rfl (Enters.fn fb41 rfl) (bcount_c F p f n _ hI) ?_
    rintro _ w2 ⟨rfl, hx2⟩
    have hz2 := hx2.size
    replace hC := hC.step0 hx2
    replace hI := hI.chg0 hx2
    replace hB1 := hB1.chg0 hx2
    refine EP.ung rfl rfl rfl ?_
    refine EP.o rfl (Does.cmp rfl rfl rfl) ?_
    refine EP.o rfl (Does.pickF rfl rfl) ?_
    refine EP.nil ?_
    refine EW.cond rfl (fun h2 => ?_) (fun h2 => ?_)
    · try simp at h2
      all_goals omega
    · try simp at h2
      obtain ⟨bs, h⟩ := hI
      have hB0 := h.blk
      have hBs := h.sets
      have hnl : (nats f).length = 256 := by rw [nats_len]; exact h.len
      have hbl := buildU_len f n 256
      have hsl := hB0.cells 256 (.slice (some ⟨bs, 0, none⟩) n n) (by rw [List.getElem?_append_right (by omega), hnl]; rfl)
      have hbe : (buildU f n 256).getD i 0 = blockOf f 256 i := by rw [List.getD_eq_getElem?_getD, buildU, List.getElem?_map, List.getElem?_range hi]; rfl
      have hset : ∀ j v, (setCells (blockOf f 256 i))[j]? = some v → (World.cell? _ ⟨bs, 0 + (((i : Nat) : Int)).toNat * 4 + j, none⟩ = some v) := fun j v hj => by
        have hj4 : j < 4 := (List.getElem?_eq_some_iff.1 hj).1
        rw [hBs.cell, Nat.zero_add, Int.toNat_natCast, setsCells_get _ _ _ (by rw [hbl]; exact hi) hj4, hbe]
        exact hj
      refine EW.skip ?_
      refine EW.seq ?_
      refine EW.reg ?_
      refine EP.o rfl (Does.move rfl) ?_
      refine EP.o rfl (Does.nilCheck rfl) ?_
      refine EP.o rfl (Does.fieldAddr fl129_1 rfl) ?_
      refine EP.o rfl (Does.load1 o23 rfl (Keeps.now _) hsl) ?_
      refine EP.o rfl (Does.move rfl) ?_
      refine EP.o rfl (Does.indexAddr sl23 rfl rfl (by omega) (by omega)) ?_
      refine EP.o rfl (Does.loadCs (vs := (setCells (blockOf f 256 i))) ag70 rfl (Keeps.now _) hset rfl) ?_
      refine EP.put2 (Puts.blk sz70 rfl rfl (by assumption) rfl rfl rfl rfl (by simp only [List.take, List.drop, List.append, List.cons_append, List.nil_append]; rfl)) ?_
      intro w3 hs3 hx3 hB3
      have hz3 := hx3.size
      replace hC := hC.step hx3 (by simp; omega)
      clear hB1; have hB1 := hB3; clear hB3
      refine EP.nil ?_
      refine EW.ret ?_
      refine Fin.cell rfl rfl (Blk.loadV ag70 (by assumption) (by simp only [List.take, List.drop, List.append, List.cons_append, List.nil_append]; rfl) rfl) ?_
      exact ⟨rfl, hC⟩
theorem bleast_c (F : Nat → Prop) (p : Nat) (f : List Nat) (n i : Nat) (hi : i < n) (hn : n ≤ 256) (w : World) (hL : Laid w) (hI : IsBlk F w p f n) (hFw : ∀ x, F x → x < w.heap.size) : Calls P 42 #[.pointer (some ⟨p, 0, none⟩), .int .i64 (i : Nat)] w (Ret fun u w' => u = .tuple #[.int .u8 ((firstS (blockOf f 256 i) : Nat) : Int), .bool (decide (blockOf f 256 i ≠ 0))] ∧ Chg [] w w') := by
  have hC := Chg.refl [] w
  try have hz4 := hL.sz
  refine enter Tryz.func42 rfl rfl ?_
  refine EW.seq ?_
  refine EW.reg ?_
  refine EP.o rfl (Does.assign rfl) ?_
  refine EP.o rfl (Does.assign rfl) ?_
  refine EP.nil ?_
  refine EW.seq ?_
  refine EW.reg ?_
  refine EP.o rfl (Does.move rfl) ?_
  refine EP.o rfl (Does.move rfl) ?_
  refine EP.call2 rfl (Enters.fn fb75 rfl) (bset_c F p f n i hi hn _ hI hFw) ?_
  rintro _ w1 ⟨rfl, hx1⟩
  have hz1 := hx1.size
  replace hC := hC.step0 hx1
  replace hL := hL.chg0 hx1
  refine EP.call2 rfl (Enters.fn fb74 rfl) (first_c (blockOf f 256 i) (blockOf_ok f i) _ hL) ?_
  rintro _ w2 ⟨rfl, hx2⟩
  have hz2 := hx2.size
  replace hC := hC.step0 hx2
  replace hL := hL.chg0 hx2
  refine EP.o rfl (Does.extract rfl rfl) ?_
  refine EP.o rfl (Does.extract rfl rfl) ?_
  refine EP.o rfl (Does.assign rfl) ?_
  refine EP.o rfl (Does.assign rfl) ?_
  refine EP.nil ?_
  refine EW.ret ?_
  refine Fin.two rfl rfl rfl ?_
  exact ⟨rfl, hC⟩
end Go.Clt
end
section
set_option linter.unusedVariables false
set_option linter.unusedSimpArgs false
set_option maxRecDepth 4000
namespace Go.Clt
open Go Go.RowKit Go.Proofs
section
variable {n : Nat} {ops : Array Oper} {S : World → Prop} {N : Env → World → Prop} {B : Nat → Env → World → Prop} {R : Env → World → Prop} {e : Env} {w : World}
variable {rest : List (Nat × Oper)} {d : Nat} {op : Op} {t : TypeId} {p : String} {af : Array Edge} {dst : Option Tmp} {g : Option (Nat × Bool)} {φ : World → Prop}
theorem info5 : ∃ i, P.info? 5 = some i ∧ i.zero = some (.int .u8 0) ∧ i.size = 1 ∧ i.bytes = 1 := by
  have h : ((P.info? 5).map fun i => (decide (i.size = 1) && decide (i.bytes = 1))) = some true := by kernel_rfl
  have hz : (P.info? 5).bind (·.zero) = some (.int .u8 0) := by kernel_rfl
  obtain ⟨i, hi, h⟩ := Option.map_eq_some_iff.1 h
  obtain ⟨j, hj, hz⟩ := Option.bind_eq_some_iff.1 hz
  rw [hi] at hj
  injection hj with hj
  subst hj
  simp only [Bool.and_eq_true, decide_eq_true_eq] at h
  exact ⟨i, hi, hz, h.1, h.2⟩
theorem EP.appS2 {lo m c : Nat} {x y : Operand} {A : Option Addr} {cs : List Value} {s : ByteArray} (hd : Nat.blt d n = true) (hx : ev e x = some (.slice A m c)) (hy : ev e y = some (.string s)) (ho : Own w lo 5 1 A m c cs) (hl : m + s.size ≤ 140737488355328) (hlo : lo ≤ w.heap.size)
    (h : ∀ A' c' w', Own w' lo 5 1 A' (m + s.size) c' (cs ++ Lib.strCells s) → Chg (blkOf A) w w' → EP P n ops S N B R rest ((d, .slice A' (m + s.size) c') :: e) w') :
    EP P n ops S N B R ((2, ⟨some d, .call { callee := .builtin .append, args := #[x, y], argTypes := #[44, 9] }, t, p, af, none⟩) :: rest) e w := by
  obtain ⟨i, hi, hz, hs, hb⟩ := info5
  obtain ⟨v', w', hrun, h2, h3, _⟩ := Lib.run_append_own_string (P := P) w lo 44 9 t 5 i Tryz.underlying44 Tryz.underlying9 hi hz hs hb (.slice A m c) m cs ho s (by simp only [maxLen]; omega) hl hlo
  have hv : ∃ A' c', v' = .slice A' (m + s.size) c' := by
    rcases h2.2 with ⟨hv, hn⟩ | ⟨g, cap, cur, hv, _⟩
    · exact ⟨none, 0, by rw [hv]; congr 1; omega⟩
    · exact ⟨_, cap, hv⟩
  obtain ⟨A', c', rfl⟩ := hv
  have hc : Chg (blkOf A) w w' := by
    have := Chg.of_grown h3
    cases A <;> simpa [Value.ownBlock, blkOf] using this
  exact EP.x2 hd (fun a ha => by simp [execOp, resolve, invoke, builtin, ha.ev hx, ha.ev hy, hrun]) (h A' c' w' h2 hc)
theorem Does.neSelf {τ τ' el : TypeId} {x y : Operand} {a : Addr} (hu : P.underlying τ = some (.pointer el)) (hi : (P.info? el).isSome = true) (hx : ev e x = some (.pointer (some a))) (hy : ev e y = some (.pointer (some a))) : Does P n e ⟨dst, .binOp .neq τ x y τ', t, p, af, g⟩ φ (.bool false) :=
  Does.bin hx hy rfl fun w _ => by
    obtain ⟨j, hj⟩ := Option.isSome_iff_exists.1 hi
    exact Lib.run_neq_ptr_same w a hu hj
theorem Blk.shape {b : Nat} {cs : List Value} {τ : TypeId} (h : Blk w b cs τ) : w.shape? b = some (τ, cs.length) := by
  simp [World.shape?, show w.heap[b]? = _ from h]
theorem Does.toUns {src dst' el : TypeId} {x : Operand} {b : Nat} {cs : List Value} {τ : TypeId} (hs : P.underlying src = some (.pointer el)) (hd : P.underlying dst' = some .unsafePointer) (hi : (match P.info? el with | some i => decide (i.size ≠ 0) | none => false) = true) (hx : ev e x = some (.pointer (some ⟨b, 0, none⟩))) (hb : Blk w b cs τ) (hl : 0 < cs.length) :
    Does P n e ⟨dst, .convert src dst' x, t, p, af, g⟩ (fun w' => w' = w) (.pointer (some ⟨b, 0, none⟩)) := fun a w' ha hw => by
  subst hw
  cases hj : P.info? el with
  | none => rw [hj] at hi; cases hi
  | some j =>
    rw [hj] at hi
    simp [execOp, ha.ev hx, Lib.run_to_unsafe w' ⟨b, 0, none⟩ hs hd hj (by simpa using hi) hb.shape hl]
theorem Does.ofUns {src dst' u : TypeId} {x : Operand} {b : Nat} {cs : List Value} {τ : TypeId} (hs : P.underlying src = some .unsafePointer) (hd : P.underlying dst' = some (.pointer u)) (hi : (P.info? u).isSome = true) (hx : ev e x = some (.pointer (some ⟨b, 0, none⟩))) (hb : Blk w b cs τ) (hl : liesAt P P.depth τ (cs.length / P.cellsOf τ) 0 u 1 = true) :
    Does P n e ⟨dst, .convert src dst' x, t, p, af, g⟩ (fun w' => w' = w) (.pointer (some ⟨b, 0, none⟩)) := fun a w' ha hw => by
  subst hw
  obtain ⟨j, hj⟩ := Option.isSome_iff_exists.1 hi
  simp [execOp, ha.ev hx, Lib.run_from_unsafe w' ⟨b, 0, none⟩ hs hd hj hb.shape hl]
theorem noesc_run (v : Value) (w : World) : (callFunc 166 #[v]).run P w = .ok (.value v) w := by
  have h1 : Extern.findNext Tryz.f166 = none := by
    have : (Extern.findNext Tryz.f166).isNone = true := by kernel_rfl
    simpa using this
  rw [run_callFunc_extern Tryz.func166 (by kernel_rfl) (by kernel_rfl) h1 (e := Extern.AbiNoEscape.same) (by kernel_rfl)]
  rw [Lib.run_noEscape]; rfl
end
theorem lies174 : liesAt P P.depth 174 (2 / P.cellsOf 174) 0 174 1 = true := by kernel_rfl
theorem is174 : (P.info? 174).isSome = true := by kernel_rfl
theorem sz174' : (match P.info? 174 with | some i => decide (i.size ≠ 0) | none => false) = true := by kernel_rfl
theorem Chg.under {S : List Nat} {w w1 w2 : World} {b : Nat} (h : Chg S w w1) (k : Below b w1 w2) (hb : w.heap.size ≤ b) : Chg S w w2 := by
  obtain ⟨k1, k2, k3, k4, k5⟩ := k
  exact ⟨k1.trans h.os, k2.trans h.tape, k3.trans h.output, Nat.le_trans h.size k4, fun i hi hn => by rw [k5 i (by omega)]; exact h.same i hi hn⟩
end Go.Clt
end
section
set_option linter.unusedVariables false
set_option linter.unusedSimpArgs false
set_option maxRecDepth 4000
namespace Go.Clt
set_option maxHeartbeats 4000000
open Go Go.RowKit Go.Proofs
theorem copy_fresh_c (b : Nat) (sl : Value) (w : World) (hB0 : Blk w b [.pointer none, sl] 174) : Calls P 142 #[.pointer (some ⟨b, 0, none⟩)] w (Ret fun u w' => Chg [b] w w' ∧ Blk w' b [.pointer (some ⟨b, 0, none⟩), sl] 174) := by
  have hC := Chg.refl [b] w
  try have hlB0 := hB0.lt
  refine enter Tryz.func142 rfl rfl ?_
  refine EW.seq ?_
  refine EW.reg ?_
  refine EP.o rfl (Does.move rfl) ?_
  refine EP.o rfl (Does.nilCheck rfl) ?_
  refine EP.o rfl (Does.fieldAddr fl174_0 rfl) ?_
  refine EP.o rfl (Does.loadB o172 rfl (Keeps.now _) (by assumption) (by rfl)) ?_
  refine EP.o rfl (Does.eqPtr Tryz.underlying172 rfl rfl) ?_
  refine EP.nil ?_
  refine EW.condT (rfl) ?_
  refine EW.reg ?_
  refine EP.o rfl (Does.move rfl) ?_
  refine EP.o rfl (Does.move rfl) ?_
  refine EP.o rfl (Does.toUns Tryz.underlying172 Tryz.underlying262 sz174' rfl hB0 (by simp)) ?_
  refine EP.o rfl (Does.ext rfl (fun w => noesc_run _ w)) ?_
  refine EP.o rfl (Does.ofUns Tryz.underlying262 Tryz.underlying172 is174 rfl hB0 lies174) ?_
  refine EP.o rfl (Does.nilCheck rfl) ?_
  refine EP.o rfl (Does.fieldAddr fl174_0 rfl) ?_
  refine EP.put2 (Puts.blk sz172 rfl rfl (by assumption) rfl rfl rfl rfl (by simp only [List.take, List.drop, List.append, List.cons_append, List.nil_append]; rfl)) ?_
  intro w1 hs1 hx1 hB1
  have hz1 := hx1.size
  replace hC := hC.step hx1 (by simp; done)
  clear hB0; have hB0 := hB1; clear hB1
  refine EP.nil ?_
  refine Fin.none rfl ?_
  exact ⟨hC, hB0⟩
theorem copy_used_c (b : Nat) (sl : Value) (w : World) (hB0 : Blk w b [.pointer (some ⟨b, 0, none⟩), sl] 174) : Calls P 142 #[.pointer (some ⟨b, 0, none⟩)] w (Ret fun u w' => Chg [b] w w' ∧ Blk w' b [.pointer (some ⟨b, 0, none⟩), sl] 174) := by
  have hC := Chg.refl [b] w
  try have hlB0 := hB0.lt
  refine enter Tryz.func142 rfl rfl ?_
  refine EW.seq ?_
  refine EW.reg ?_
  refine EP.o rfl (Does.move rfl) ?_
  refine EP.o rfl (Does.nilCheck rfl) ?_
  refine EP.o rfl (Does.fieldAddr fl174_0 rfl) ?_
  refine EP.o rfl (Does.loadB o172 rfl (Keeps.now _) (by assumption) (by rfl)) ?_
  refine EP.o rfl (Does.eqPtr Tryz.underlying172 rfl rfl) ?_
  refine EP.nil ?_
  refine EW.condF (rfl) ?_
  refine EW.seq ?_
  refine EW.reg ?_
  refine EP.o rfl (Does.move rfl) ?_
  refine EP.o rfl (Does.nilCheck rfl) ?_
  refine EP.o rfl (Does.fieldAddr fl174_0 rfl) ?_
  refine EP.o rfl (Does.loadB o172 rfl (Keeps.now _) (by assumption) (by rfl)) ?_
  refine EP.o rfl (Does.move rfl) ?_
  refine EP.o rfl (Does.neSelf Tryz.underlying172 is174 rfl rfl) ?_
  refine EP.nil ?_
  refine EW.condF (rfl) ?_
  refine EW.skip ?_
  refine Fin.none rfl ?_
  exact ⟨hC, hB0⟩
def selfOr (b : Nat) (pv : Value) : Prop := pv = .pointer none ∨ pv = .pointer (some ⟨b, 0, none⟩)
theorem copy_c (b : Nat) (pv sl : Value) (w : World) (hp : selfOr b pv) (hB0 : Blk w b [pv, sl] 174) : Calls P 142 #[.pointer (some ⟨b, 0, none⟩)] w (Ret fun u w' => Chg [b] w w' ∧ Blk w' b [.pointer (some ⟨b, 0, none⟩), sl] 174) := by
  rcases hp with rfl | rfl
  · exact copy_fresh_c b sl w hB0
  · exact copy_used_c b sl w hB0
theorem wstr_c (b m c : Nat) (pv : Value) (A : Option Addr) (cs : List Value) (s : ByteArray) (w : World) (hp : selfOr b pv) (hl : m + s.size ≤ 1000000) (hB0 : Blk w b [pv, .slice A m c] 174) (hO : Own w (b + 1) 5 1 A m c cs) :
    Calls P 108 #[.pointer (some ⟨b, 0, none⟩), .string s] w (Ret fun u w' => Chg (b :: blkOf A) w w' ∧ ∃ A' c', Blk w' b [.pointer (some ⟨b, 0, none⟩), .slice A' (m + s.size) c'] 174 ∧ Own w' (b + 1) 5 1 A' (m + s.size) c' (cs ++ Lib.strCells s)) := by
  have hC := Chg.refl (b :: blkOf A) w
  have hOb := hO.blk
  have hbl := hB0.lt
  try have hlB0 := hB0.lt
  refine enter Tryz.func108 rfl rfl ?_
  refine EW.seq ?_
  refine EW.reg ?_
  refine EP.o rfl (Does.assign rfl) ?_
  refine EP.o rfl (Does.assign rfl) ?_
  refine EP.nil ?_
  refine EW.seq ?_
  refine EW.reg ?_
  refine EP.o rfl (Does.move rfl) ?_
  refine EP.call2 rfl (Enters.fn fb142 rfl) (copy_c b pv _ _ hp hB0) ?_
  rintro _ w1 ⟨hx1, hB0'⟩
  have hz1 := hx1.size
  replace hO := (by exact hO.chg hx1 (by first | (intro x hx; simp at hx; left; omega) | (intro x hx; simp at hx; right; rw [hx]; assumption) | (intro x hx; have hx := List.mem_singleton.1 hx; right; intro h; have := hOb x (by rw [h]; exact List.mem_singleton.2 rfl); omega) | (intro x hx; have := hOb x hx; left; omega)))
  have hB0 := hB0'; clear hB0'
  have hC := hC.step hx1 (fun x h => .inl (by rw [List.mem_singleton.1 h]; exact List.mem_cons_self ..))
  refine EP.nil ?_
  refine EW.seq ?_
  refine EW.reg ?_
  refine EP.o rfl (Does.move rfl) ?_
  refine EP.o rfl (Does.move rfl) ?_
  refine EP.o rfl (Does.nilCheck rfl) ?_
  refine EP.o rfl (Does.fieldAddr fl174_1 rfl) ?_
  refine EP.o rfl (Does.loadB o44 rfl (Keeps.now _) (by assumption) (by rfl)) ?_
  refine EP.o rfl (Does.move rfl) ?_
  refine EP.appS2 rfl rfl rfl hO (by omega) (by omega) ?_
  intro A' c' w9 hO9 hx9
  have hz9 := hx9.size
  replace hB0 := hB0.chg hx9 (fun h => by have := hOb b h; omega)
  replace hC := hC.step hx9 (fun x h => .inl (List.mem_cons_of_mem _ h))
  clear hO; have hO := hO9; clear hO9
  refine EP.o rfl (Does.nilCheck rfl) ?_
  refine EP.o rfl (Does.fieldAddr fl174_1 rfl) ?_
  refine EP.put2 (Puts.blk sz44 rfl rfl (by assumption) rfl rfl rfl rfl (by simp only [List.take, List.drop, List.append, List.cons_append, List.nil_append]; rfl)) ?_
  intro w2 hs2 hx2 hB2
  have hz2 := hx2.size
  replace hO := (by exact hO.chg hx2 (by first | (intro x hx; simp at hx; left; omega) | (intro x hx; simp at hx; right; rw [hx]; assumption) | (intro x hx; have hx := List.mem_singleton.1 hx; right; intro h; have := hOb x (by rw [h]; exact List.mem_singleton.2 rfl); omega) | (intro x hx; have := hOb x hx; left; omega)))
  replace hC := hC.step hx2 (by simp; done)
  clear hB0; have hB0 := hB2; clear hB2
  refine EP.nil ?_
  refine EW.seq ?_
  refine EW.reg ?_
  refine EP.o rfl (Does.move rfl) ?_
  refine EP.o rfl (Does.lenS Tryz.underlying9 rfl) ?_
  refine EP.o rfl (Does.assign rfl) ?_
  refine EP.o rfl (Does.assign rfl) ?_
  refine EP.nil ?_
  refine EW.ret ?_
  refine Fin.two rfl rfl rfl ?_
  exact ⟨hC, A', c', hB0, hO⟩
end Go.Clt
end
section
set_option linter.unusedVariables false
set_option linter.unusedSimpArgs false
set_option maxRecDepth 4000
namespace Go.Clt
set_option maxHeartbeats 4000000
open Go Go.RowKit Go.Proofs
theorem wbyte_c (b m c x : Nat) (pv : Value) (A : Option Addr) (cs : List Value) (w : World) (hp : selfOr b pv) (hl : m + 1 ≤ 1000000) (hB0 : Blk w b [pv, .slice A m c] 174) (hO : Own w (b + 1) 5 1 A m c cs) :
    Calls P 110 #[.pointer (some ⟨b, 0, none⟩), .int .u8 (x : Nat)] w (Ret fun u w' => Chg (b :: blkOf A) w w' ∧ ∃ A' c', Blk w' b [.pointer (some ⟨b, 0, none⟩), .slice A' (m + 1) c'] 174 ∧ Own w' (b + 1) 5 1 A' (m + 1) c' (cs ++ [.int .u8 (x : Nat)])) := by
  have hC := Chg.refl (b :: blkOf A) w
  have hOb := hO.blk
  have hbl := hB0.lt
  try have hlB0 := hB0.lt
  refine enter Tryz.func110 rfl rfl ?_
  refine EW.seq ?_
  refine EW.reg ?_
  refine EP.o rfl (Does.assign rfl) ?_
  refine EP.nil ?_
  refine EW.seq ?_
  refine EW.reg ?_
  refine EP.o rfl (Does.move rfl) ?_
  refine EP.call2 rfl (Enters.fn fb142 rfl) (copy_c b pv _ _ hp hB0) ?_
  rintro _ w1 ⟨hx1, hB0'⟩
  have hz1 := hx1.size
  replace hO := (by exact hO.chg hx1 (by first | (intro x hx; simp at hx; left; omega) | (intro x hx; simp at hx; right; rw [hx]; assumption) | (intro x hx; have hx := List.mem_singleton.1 hx; right; intro h; have := hOb x (by rw [h]; exact List.mem_singleton.2 rfl); omega) | (intro x hx; have := hOb x hx; left; omega)))
  have hB0 := hB0'; clear hB0'
  have hC := hC.step hx1 (fun x h => .inl (by rw [List.mem_singleton.1 h]; exact List.mem_cons_self ..))
  have hin : ∀ x ∈ blkOf A, x ∈ b :: blkOf A ∨ w.heap.size ≤ x := fun x h => .inl (List.mem_cons_of_mem _ h)
  refine EP.nil ?_
  refine EW.seq ?_
  refine EW.reg ?_
  refine EP.o rfl (Does.move rfl) ?_
  refine EP.o rfl (Does.move rfl) ?_
  refine EP.o rfl (Does.nilCheck rfl) ?_
  refine EP.o rfl (Does.fieldAddr fl174_1 rfl) ?_
  refine EP.o rfl (Does.loadB o44 rfl (Keeps.now _) (by assumption) (by rfl)) ?_
  refine EP.o rfl (Does.move rfl) ?_
  refine EP.new2 rfl (News.buildL sl44 Tryz.underlying44 zr5 rfl rfl rfl (by rfl)) ?_
  intro b2 w2 hb2 hs2 hx2 hB2
  have hz2 := hx2.size
  replace hO := hO.chg0 hx2
  replace hB0 := hB0.chg0 hx2
  replace hC := hC.step0 hx2
  refine EP.append2 rfl el44 rfl rfl hO (Blk.rd (F := fun _ => True) (by assumption) rfl trivial) (by rfl) (by omega) (by omega) ?_
  intro A' c' w3 hO3 hx3 hA'
  have hz3 := hx3.size
  replace hB0 := hB0.chg hx3 (by intro h; have := hOb _ h; omega)
  replace hC := hC.step hx3 (by assumption)
  replace hB2 := hB2.chg hx3 (by intro h; have := hOb _ h; omega)
  clear hO; have hO := hO3; clear hO3
  refine EP.o rfl (Does.nilCheck rfl) ?_
  refine EP.o rfl (Does.fieldAddr fl174_1 rfl) ?_
  refine EP.put2 (Puts.blk sz44 rfl rfl (by assumption) rfl rfl rfl rfl (by simp only [List.take, List.drop, List.append, List.cons_append, List.nil_append]; rfl)) ?_
  intro w4 hs4 hx4 hB4
  have hz4 := hx4.size
  replace hO := (by exact hO.chg hx4 (by first | (intro x hx; simp at hx; left; omega) | (intro x hx; simp at hx; right; rw [hx]; assumption) | (intro x hx; have hx := List.mem_singleton.1 hx; right; intro h; have := hOb x (by rw [h]; exact List.mem_singleton.2 rfl); omega) | (intro x hx; have := hOb x hx; left; omega)))
  replace hC := hC.step hx4 (by simp; done)
  replace hB2 := hB2.chg hx4 (by simp; omega)
  clear hB0; have hB0 := hB4; clear hB4
  refine EP.nil ?_
  refine EW.seq ?_
  refine EW.reg ?_
  refine EP.o rfl (Does.assign rfl) ?_
  refine EP.nil ?_
  refine EW.ret ?_
  refine Fin.one rfl rfl ?_
  exact ⟨hC, A', c', hB0, hO⟩
def textL (l : List Nat) : List UInt8 := l.flatMap fun p => [UInt8.ofNat (48 + p), 32]
theorem textL_snoc (l : List Nat) (p : Nat) : textL (l ++ [p]) = textL l ++ [UInt8.ofNat (48 + p), 32] := by simp [textL]
theorem textL_len (l : List Nat) : (textL l).length = 2 * l.length := by
  induction l with
  | nil => rfl
  | cons p r ih => simp only [textL, List.flatMap_cons, List.length_append, List.length_cons, List.length_nil] at *; omega
theorem dec_small {p : Nat} (h : p < 10) : Lib.decDigits p = [UInt8.ofNat (48 + p)] := by unfold Lib.decDigits; rw [dif_pos h]
theorem itoa_small_c (p : Nat) (h : p < 10) (w : World) : Calls P 109 #[.int .i64 (p : Nat)] w (Ret fun u w' => u = .string ⟨#[UInt8.ofNat (48 + p)]⟩ ∧ Chg [] w w') :=
  Calls.ret (of_calls (Tryz.strconv_Itoa_small p (by omega) w)) fun v w' hh => ⟨by rw [hh.1, dec_small h], by rw [hh.2]; exact Chg.refl [] w⟩
theorem bstring_c (b m c : Nat) (pv : Value) (A : Option Addr) (l : List UInt8) (w : World) (hp : selfOr b pv) (hm : m = l.length) (hB0 : Blk w b [pv, .slice A m c] 174) (hO : Own w (b + 1) 5 1 A m c (Lib.byteCells l)) :
    Calls P 111 #[.pointer (some ⟨b, 0, none⟩)] w (Ret fun u w' => u = .string ⟨l.toArray⟩ ∧ Below b w w') := by
  have hI : Lib.IsBuilder 174 5 b b (Lib.byteCells l) w := by
    have key : Lib.BuilderAt 174 5 b b pv (Lib.byteCells l) w := by
      refine ⟨Nat.le_refl _, .slice A m c, by simpa [Blk] using hB0, ?_, ?_⟩
      · have := hO.lower (Nat.le_succ b)
        rw [Lib.byteCells_length, ← hm]
        exact this
      · intro h
        have := hO.blk b (by cases A with
          | none => simp [Value.ownBlock] at h
          | some a => simpa [Value.ownBlock, blkOf, eq_comm] using h)
        omega
    rcases hp with rfl | rfl
    · exact .inl key
    · exact .inr key
  exact (Tryz.Builder_String_any b b l w hI (Nat.le_of_lt hB0.lt)).mono fun e w' hh => by obtain ⟨rfl, h⟩ := hh; exact ⟨rfl, h⟩
theorem text_c (l : List Nat) (hl : ∀ p ∈ l, p < 10) (hn : l.length ≤ 1000) (F : Nat → Prop) (A : Option Addr) (c : Nat) (w : World) (hF : ∀ x, F x → x < w.heap.size) (hr : Rd F w 1 A l.length (nats l)) :
    Calls P 80 #[.slice A l.length c] w (Ret fun u w' => u = .string ⟨(textL l).toArray⟩ ∧ Chg [] w w') := by
  have hC := Chg.refl [] w
  refine enter Tryz.func80 rfl rfl ?_
  refine EW.seq ?_
  refine EW.reg ?_
  refine EP.o rfl (Does.assign rfl) ?_
  refine EP.nil ?_
  refine EW.seq ?_
  refine EW.reg ?_
  refine EP.new2 rfl (News.alloc zr174 rfl) ?_
  intro b1 w1 hb1 hs1 hx1 hB1
  have hz1 := hx1.size
  replace hC := hC.step0 hx1
  replace hr := hr.chg0 hx1
  refine EP.nil ?_
  refine EW.seq ?_
  refine EW.seq ?_
  refine EW.reg ?_
  refine EP.o rfl (Does.move rfl) ?_
  refine EP.o rfl (Does.lenL Tryz.underlying24 rfl) ?_
  refine EP.o rfl (Does.move rfl) ?_
  refine EP.nil ?_
  refine EW.block ?_
  refine EW.loop (σ := Nat × Value × Option Addr × Nat) (fun (i, pv, A', c') => [(3, .pointer (some ⟨b1, 0, none⟩)), (6, .slice A l.length c), (7, .int .i64 (l.length : Nat)), (8, .int .i64 i)]) (fun (i, pv, A', c') wr => Chg [] w wr ∧ Rd F wr 1 A l.length (nats l) ∧ Blk wr b1 [pv, .slice A' (2 * i) c'] 174 ∧ Own wr (b1 + 1) 5 1 A' (2 * i) c' (Lib.byteCells (textL (l.take i))) ∧ selfOr b1 pv ∧ i ≤ l.length) (fun (i, pv, A', c') wr => l.length - i) (0, .pointer none, none, 0) ⟨rfl, rfl, rfl, rfl, trivial⟩ ?_ ?_
  · exact ⟨hC, hr, hB1, Own.nil _ _ _ _, .inl rfl, Nat.zero_le _⟩
  rintro ⟨i, pv, A', c'⟩ w9 ⟨hC, hr, hB1, hO, hp, hi⟩
  try have hzw := hC.size
  refine EW.seq ?_
  refine EW.reg ?_
  refine EP.o rfl (Does.cmp rfl rfl rfl) ?_
  refine EP.nil ?_
  refine EW.seq ?_
  refine EW.cond rfl (fun h1 => ?_) (fun h1 => ?_)
  · try simp at h1
    have hin : i < l.length := by omega
    have hpv := hl _ (getD_mem l 0 i hin)
    have hA : ∃ g off, A = some ⟨g, off, none⟩ := by obtain ⟨g, off, h, _⟩ := hr.at_ (by omega); exact ⟨g, off, h⟩
    obtain ⟨g, off, rfl⟩ := hA
    have hOb := hO.blk
    have hFn : ∀ x ∈ b1 :: blkOf A', ¬ F x := fun x hx h => by
      have := hF x h
      rcases List.mem_cons.1 hx with rfl | hx
      · omega
      · have := hOb x hx; omega
    have hCn : ∀ x ∈ b1 :: blkOf A', x ∈ ([] : List Nat) ∨ w.heap.size ≤ x := fun x hx => by
      rcases List.mem_cons.1 hx with rfl | hx
      · right; omega
      · right; have := hOb x hx; omega
    refine EW.skip ?_
    refine EW.seq ?_
    refine EW.block ?_
    refine EW.seq ?_
    refine EW.reg ?_
    refine EP.o rfl (Does.indexAddr1 sl24 rfl rfl (by omega) (by omega)) ?_
    refine EP.o rfl (Does.load1 o3 rfl (Keeps.now _) (hr.one (nats_get l i hin)).2) ?_
    try have hlB1 := hB1.lt
    refine EP.o rfl (Does.assign rfl) ?_
    refine EP.nil ?_
    refine EW.seq ?_
    refine EW.reg ?_
    refine EP.o rfl (Does.move rfl) ?_
    refine EP.call2 rfl (Enters.fn fb109 rfl) (itoa_small_c (l.getD i 0) hpv _) ?_
    rintro _ w2 ⟨rfl, hx2⟩
    have hz2 := hx2.size
    replace hC := hC.step0 hx2
    replace hr := hr.chg0 hx2
    replace hB1 := hB1.chg0 hx2
    replace hO := hO.chg0 hx2
    refine EP.call2 rfl (Enters.fn fb108 rfl) (wstr_c b1 _ _ pv A' _ ⟨#[UInt8.ofNat (48 + l.getD i 0)]⟩ _ hp (by show 2 * i + 1 ≤ _; omega) hB1 hO) ?_
    rintro v9 w3 ⟨hx3, A2, c2, hB2, hO2⟩
    have hz3 := hx3.size
    replace hC := hC.step hx3 (by assumption)
    replace hr := hr.chg hx3 (by assumption)
    have hO2b := hO2.blk
    have hFn2 : ∀ x ∈ b1 :: blkOf A2, ¬ F x := fun x hx h => by
      have := hF x h
      rcases List.mem_cons.1 hx with rfl | hx
      · omega
      · have := hO2b x hx; omega
    have hCn2 : ∀ x ∈ b1 :: blkOf A2, x ∈ ([] : List Nat) ∨ w.heap.size ≤ x := fun x hx => by
      rcases List.mem_cons.1 hx with rfl | hx
      · right; omega
      · right; have := hO2b x hx; omega
    refine EP.nil ?_
    refine EW.reg ?_
    refine EP.call2 rfl (Enters.fn fb110 rfl) (wbyte_c b1 _ _ 32 _ A2 _ _ (.inr rfl) (by show 2 * i + 1 + 1 ≤ _; omega) hB2 hO2) ?_
    rintro v8 w4 ⟨hx4, A3, c3, hB3, hO3⟩
    have hz4 := hx4.size
    replace hC := hC.step hx4 (by assumption)
    replace hr := hr.chg hx4 (by assumption)
    refine EP.nil ?_
    refine EW.reg ?_
    refine EP.o rfl (Does.addi rfl rfl (by omega)) ?_
    refine EP.o rfl (Does.move rfl) ?_
    refine EP.nil ?_
    refine ⟨(i + 1, .pointer (some ⟨b1, 0, none⟩), A3, c3), ⟨rfl, rfl, rfl, rfl, trivial⟩, ?_, ?_⟩
    have h2i : 2 * i + 1 + 1 = 2 * (i + 1) := by omega
    have hsz : (⟨#[UInt8.ofNat (48 + l.getD i 0)]⟩ : ByteArray).size = 1 := rfl
    rw [hsz] at hB3 hO3
    rw [h2i] at hB3 hO3
    refine ⟨hC, hr, hB3, ?_, .inr rfl, hin⟩
    rw [show l.take (i + 1) = l.take i ++ [l.getD i 0] from by rw [List.take_add_one, List.getElem?_eq_getElem hin, List.getD_eq_getElem?_getD, List.getElem?_eq_getElem hin]; rfl, textL_snoc]
    have he : Lib.byteCells (textL (l.take i) ++ [UInt8.ofNat (48 + l.getD i 0), 32]) = Lib.byteCells (textL (l.take i)) ++ Lib.strCells ⟨#[UInt8.ofNat (48 + l.getD i 0)]⟩ ++ [.int .u8 (32 : Nat)] := by
      simp [Lib.byteCells, Lib.strCells]
    rw [he]
    exact hO3
    show l.length - (i + 1) < l.length - i
    omega
  · try simp at h1
    have hkk : i = l.length := by omega
    subst hkk
    rw [List.take_of_length_le (Nat.le_refl _)] at hO
    refine EW.exit (brk_here ?_)
    refine EW.seq ?_
    refine EW.reg ?_
    refine EP.call2 rfl (Enters.fn fb111 rfl) (bstring_c b1 _ _ pv A' (textL l) _ hp (textL_len l).symm hB1 hO) ?_
    rintro _ _ ⟨rfl, hbel⟩
    have hC := hC.under hbel (by omega)
    refine EP.o rfl (Does.assign rfl) ?_
    refine EP.nil ?_
    refine EW.ret ?_
    refine Fin.one rfl rfl ?_
    exact ⟨rfl, hC⟩
end Go.Clt
end
section
set_option linter.unusedVariables false
set_option linter.unusedSimpArgs false
set_option maxRecDepth 4000
namespace Go.Clt
open Go Go.RowKit Go.Proofs
def sk (l : List UInt8) : Value := .string ⟨l.toArray⟩
theorem sk_beq (a b : List UInt8) : ((⟨a.toArray⟩ : ByteArray) == ⟨b.toArray⟩) = decide (a = b) := by
  show (a.toArray == b.toArray) = _
  rw [Bool.eq_iff_iff, beq_iff_eq, decide_eq_true_iff]
  simp
theorem sk_law {k : TypeId} (hk : P.underlying k = some .string) : KL P k sk where
  check := fun e a w => by unfold Instr.checkKey sk; simp [run_underlying hk]
  find := fun a L es w h => by
    have key : ∀ (L : List (List UInt8 × Int)) (es : List MapEntry) (i : Nat), es.map (fun x => (x.key, x.val)) = kvs sk L → Instr.findNow .string (sk a) es i = some ((asc L i a).map fun q => (q.1, .int .i64 q.2)) := by
      intro L
      induction L with
      | nil => intro es i h; simp [kvs] at h; subst h; rfl
      | cons p r ih =>
        intro es i h
        cases es with
        | nil => simp [kvs] at h
        | cons x es =>
          simp only [List.map_cons, kvs, List.cons.injEq, Prod.mk.injEq] at h
          obtain ⟨⟨h1, h2⟩, h3⟩ := h
          simp only [Instr.findNow, h1, h2, asc]
          by_cases hc : a = p.1
          · rw [if_pos hc]
            have : Instr.sameNow .string (sk a) (sk p.1) = some true := by
              show some ((⟨a.toArray⟩ : ByteArray) == ⟨p.1.toArray⟩) = _
              rw [sk_beq]; simp [hc]
            simp [this]
          · rw [if_neg hc]
            have : Instr.sameNow .string (sk a) (sk p.1) = some false := by
              show some ((⟨a.toArray⟩ : ByteArray) == ⟨p.1.toArray⟩) = _
              rw [sk_beq]; simp [hc]
            simp only [this]
            exact ih es (i + 1) h3
    simp [Instr.findKey, run_underlying hk, key L es 0 h]
  same := fun a => by
    unfold Instr.sameBits sk
    show ((⟨a.toArray⟩ : ByteArray) == ⟨a.toArray⟩) = true
    rw [sk_beq]; simp
structure St where
  l : List Nat
  word : List Nat
  next : List Nat
  meant : Bool
  dead : Bool
deriving DecidableEq, Inhabited
def wordB (w : List Nat) : ByteArray := ⟨(w.map UInt8.ofNat).toArray⟩
def wordV (w : List Nat) : Value := .string (wordB w)
theorem wordB_size (w : List Nat) : (wordB w).size = w.length := by show ((w.map UInt8.ofNat).toArray).size = _; simp
theorem wordB_append (a b : List Nat) : wordB a ++ wordB b = wordB (a ++ b) := by
  apply ByteArray.ext
  simp [wordB, ByteArray.append_eq, ByteArray.data_append]
theorem strL_wordB (w : List Nat) (h : ∀ b ∈ w, b < 256) : strL (wordB w) = w := by
  unfold strL wordB
  simp only [List.map_map]
  conv => rhs; rw [← List.map_id w]
  apply List.map_congr_left
  intro b hb
  have := h b hb
  simp; omega
structure DE where
  k : Kn
  q : Wst
  f : List Nat
  nB : Nat
  bytes : List Nat
  budget : Nat
structure DS where
  l : List St
  met : List (List UInt8 × Int)
  full : Bool
def firstN : List UInt8 := [102, 105, 114, 115, 116]
def meetP (E : DE) (D : DS) (name : List UInt8) (s : St) : Nat × DS :=
  match mget D.met name with
  | some v => (v.toNat, D)
  | none => if E.budget ≤ D.l.length then (0, { D with full := true }) else (D.l.length, { D with met := mput D.met name (D.l.length : Nat), l := D.l ++ [s] })
def behindP (E : DE) (l : List St) (n b : Nat) : List Nat := if n = 0 then beginL E.k E.q b else nextL E.q (l.getD n default).l b
def addNext (D : DS) (n v : Nat) : DS := { D with l := D.l.set n { D.l.getD n default with next := (D.l.getD n default).next ++ [v] } }
def newSt (E : DE) (l : List St) (n b : Nat) : St := ⟨behindP E l n b, (l.getD n default).word ++ [b], [], endsL E.k E.q (behindP E l n b), false⟩
def explore1 (E : DE) (n : Nat) (D : DS) (b : Nat) : DS :=
  let m := meetP E D (textL (behindP E D.l n b)) (newSt E D.l n b)
  addNext m.2 n m.1
def exploreIn (E : DE) (n : Nat) (D : DS) : DS := E.bytes.foldl (explore1 E n) D
def exploreL (E : DE) : Nat → Nat → DS → DS
  | 0, _, D => D
  | f + 1, n, D => if n < D.l.length ∧ D.full = false then exploreL E f (n + 1) (exploreIn E n D) else D
def exploreP (E : DE) : DS := exploreL E (E.budget + 1) 0 (meetP E ⟨[], [], false⟩ firstN ⟨[], [], [], decide (0 < E.k.void), false⟩).2
def undead (l : List St) (s : St) : Bool := s.next.any fun j => !(l.getD j default).dead
def markStep (x : List St × Bool) (i : Nat) : List St × Bool :=
  if (x.1.getD i default).dead && undead x.1 (x.1.getD i default) then (x.1.set i { x.1.getD i default with dead := false }, true) else x
def markU (l : List St) (k : Nat) : List St × Bool := (List.range k).foldl markStep (l, false)
def markL : Nat → List St → List St
  | 0, l => l
  | f + 1, l => if (markU l l.length).2 then markL f (markU l l.length).1 else (markU l l.length).1
def dead0 (l : List St) : List St := l.map fun s => { s with dead := !s.meant }
def markP (l : List St) : List St := markL (l.length + 1) (dead0 l)
def leastL (f : List Nat) (n : Nat) : List Nat := (List.range n).map fun i => firstS (blockOf f 256 i)
def dfaE (k : Kn) (q : Wst) (budget : Nat) : DE :=
  let x := blocksF q.S
  ⟨k, q, x.1, x.2, leastL x.1 x.2, budget⟩
def dfaP (k : Kn) (q : Wst) (budget : Nat) : Option (List St) :=
  let D := exploreP (dfaE k q budget)
  if D.full then none else some (markP D.l)
end Go.Clt
end
section
set_option linter.unusedVariables false
set_option linter.unusedSimpArgs false
set_option maxRecDepth 4000
namespace Go.Clt
open Go Go.RowKit Go.Proofs
structure StM where
  p : Nat
  A : Option Addr
  c : Nat
  A2 : Option Addr
  c2 : Nat
deriving Inhabited
def StM.fp (m : StM) : List Nat := m.p :: (blkOf m.A ++ blkOf m.A2)
theorem fp_mem {m : StM} {x : Nat} : x ∈ m.fp ↔ x = m.p ∨ x ∈ blkOf m.A ∨ x ∈ blkOf m.A2 := by simp [StM.fp]
def stC (s : St) (m : StM) : List Value := [.slice m.A s.l.length m.c, wordV s.word, .slice m.A2 s.next.length m.c2, .bool s.meant, .bool s.dead]
structure StOk (w : World) (s : St) (m : StM) : Prop where
  blk : Blk w m.p (stC s m) 91
  rl : Own w 0 3 1 m.A s.l.length m.c (nats s.l)
  on : Own w 0 3 1 m.A2 s.next.length m.c2 (nats s.next)
  s2 : ∀ x ∈ blkOf m.A, x ∉ blkOf m.A2
theorem StOk.chg {S : List Nat} {w w' : World} {s : St} {m : StM} (h : StOk w s m) (k : Chg S w w') (hS : ∀ x ∈ m.fp, x ∉ S) : StOk w' s m :=
  ⟨h.blk.chg k (hS _ (fp_mem.2 (.inl rfl))), h.rl.keep k (fun x hx => hS x (fp_mem.2 (.inr (.inl hx)))), h.on.keep k (fun x hx => hS x (fp_mem.2 (.inr (.inr hx)))), h.s2⟩
theorem StOk.lt {w : World} {s : St} {m : StM} (h : StOk w s m) : ∀ x ∈ m.fp, x < w.heap.size := fun x hx => by
  rcases fp_mem.1 hx with rfl | hx | hx
  · exact h.blk.lt
  · exact (h.rl.blk x hx).2
  · exact (h.on.blk x hx).2
structure StsOk (w : World) (l : List St) (ms : List StM) : Prop where
  len : ms.length = l.length
  ok : ∀ i, i < l.length → StOk w (l.getD i default) (ms.getD i default)
  sep : ∀ i j, i < l.length → j < l.length → i ≠ j → ∀ x ∈ (ms.getD i default).fp, x ∉ (ms.getD j default).fp
def inSts (ms : List StM) (x : Nat) : Prop := ∃ i, i < ms.length ∧ x ∈ (ms.getD i default).fp
theorem StsOk.chg {S : List Nat} {w w' : World} {l : List St} {ms : List StM} (h : StsOk w l ms) (k : Chg S w w') (hS : ∀ x ∈ S, ¬ inSts ms x) : StsOk w' l ms :=
  ⟨h.len, fun i hi => (h.ok i hi).chg k (fun x hx hm => hS x hm ⟨i, by rw [h.len]; exact hi, hx⟩), h.sep⟩
theorem StsOk.chg0 {w w' : World} {l : List St} {ms : List StM} (h : StsOk w l ms) (k : Chg [] w w') : StsOk w' l ms := h.chg k (by simp)
theorem StsOk.lt {w : World} {l : List St} {ms : List StM} (h : StsOk w l ms) {x : Nat} (hx : inSts ms x) : x < w.heap.size := by
  obtain ⟨i, hi, hx⟩ := hx
  exact (h.ok i (by rw [← h.len]; exact hi)).lt x hx
theorem getD_set {α : Type} (l : List α) (n i : Nat) (v d : α) (hn : n < l.length) : (l.set n v).getD i d = if i = n then v else l.getD i d := by
  rw [List.getD_eq_getElem?_getD, List.getElem?_set]
  by_cases h : n = i
  · subst h; rw [if_pos rfl, if_pos rfl, if_pos hn]; rfl
  · rw [if_neg h, if_neg (Ne.symm h), List.getD_eq_getElem?_getD]
theorem getD_snoc {α : Type} (l : List α) (i : Nat) (v d : α) (hi : i ≤ l.length) : (l ++ [v]).getD i d = if i = l.length then v else l.getD i d := by
  rw [List.getD_eq_getElem?_getD, List.getElem?_append]
  by_cases h : i = l.length
  · subst h; rw [if_neg (by omega), if_pos rfl]; simp
  · rw [if_pos (by omega), if_neg h, List.getD_eq_getElem?_getD]
theorem StsOk.upd {S : List Nat} {w w' : World} {l : List St} {ms : List StM} {n : Nat} {s' : St} {m' : StM} (h : StsOk w l ms) (hn : n < l.length) (k : Chg S w w') (hS : ∀ x ∈ S, x ∈ (ms.getD n default).fp) (hs : StOk w' s' m') (hfp : ∀ x ∈ m'.fp, x ∈ (ms.getD n default).fp ∨ w.heap.size ≤ x) :
    StsOk w' (l.set n s') (ms.set n m') := by
  have hm : n < ms.length := by rw [h.len]; exact hn
  refine ⟨by simp [h.len], fun i hi => ?_, fun i j hi hj hij x hx => ?_⟩
  · rw [List.length_set] at hi
    rw [getD_set _ _ _ _ _ hn, getD_set _ _ _ _ _ hm]
    by_cases hin : i = n
    · rw [if_pos hin, if_pos hin]; exact hs
    · rw [if_neg hin, if_neg hin]
      exact (h.ok i hi).chg k (fun x hx hm => h.sep i n hi hn hin x hx (hS x hm))
  · rw [List.length_set] at hi hj
    rw [getD_set _ _ _ _ _ hm] at hx ⊢
    by_cases hin : i = n
    · rw [if_pos hin] at hx
      rw [if_neg (by omega)]
      rcases hfp x hx with h1 | h1
      · exact h.sep n j hn hj (by omega) x h1
      · intro h2; have := (h.ok j hj).lt x h2; omega
    · rw [if_neg hin] at hx
      by_cases hjn : j = n
      · rw [if_pos hjn]
        intro h2
        rcases hfp x h2 with h1 | h1
        · exact h.sep i n hi hn hin x hx h1
        · have := (h.ok i hi).lt x hx; omega
      · rw [if_neg hjn]; exact h.sep i j hi hj hij x hx
theorem StsOk.snoc {w : World} {l : List St} {ms : List StM} {s : St} {m : StM} (h : StsOk w l ms) (hs : StOk w s m) (hfp : ∀ x ∈ m.fp, ¬ inSts ms x) : StsOk w (l ++ [s]) (ms ++ [m]) := by
  refine ⟨by simp [h.len], fun i hi => ?_, fun i j hi hj hij x hx => ?_⟩
  · simp at hi
    rw [getD_snoc _ _ _ _ (by omega), getD_snoc _ _ _ _ (by rw [h.len]; omega), h.len]
    by_cases h1 : i = l.length
    · rw [if_pos h1, if_pos h1]; exact hs
    · rw [if_neg h1, if_neg h1]; exact h.ok i (by omega)
  · simp at hi hj
    rw [getD_snoc _ _ _ _ (by rw [h.len]; omega), h.len] at hx ⊢
    by_cases h1 : i = l.length
    · rw [if_pos h1] at hx
      rw [if_neg (by omega)]
      exact fun h2 => hfp x hx ⟨j, by rw [h.len]; omega, h2⟩
    · rw [if_neg h1] at hx
      by_cases h2 : j = l.length
      · rw [if_pos h2]; exact fun h3 => hfp x h3 ⟨i, by rw [h.len]; omega, hx⟩
      · rw [if_neg h2]; exact h.sep i j (by omega) (by omega) hij x hx
theorem StsOk.offBlk {w : World} {l : List St} {ms : List StM} (h : StsOk w l ms) {b : Nat} {cs : List Value} {τ : TypeId} (hb : Blk w b cs τ) (h1 : τ ≠ 91) (h3 : τ ≠ 3) : ∀ x ∈ [b], ¬ inSts ms x := by
  rintro x hx ⟨i, hi, hm⟩
  rw [List.mem_singleton] at hx
  subst hx
  have hk := h.ok i (by rw [← h.len]; exact hi)
  rcases fp_mem.1 hm with e | e | e
  · exact hb.ne hk.blk h1 e
  · exact hk.rl.offBlk hb (Ne.symm h3) x e (by simp)
  · exact hk.on.offBlk hb (Ne.symm h3) x e (by simp)
theorem StsOk.offMp {w : World} {l : List St} {ms : List StM} (h : StsOk w l ms) {b : Nat} (hb : ∃ es clock, w.heap[b]? = some (.map es clock)) : ∀ x ∈ [b], ¬ inSts ms x := by
  rintro x hx ⟨i, hi, hm⟩
  rw [List.mem_singleton] at hx
  subst hx
  have hk := h.ok i (by rw [← h.len]; exact hi)
  rcases fp_mem.1 hm with e | e | e
  · obtain ⟨es, clock, hb⟩ := hb
    have := hk.blk
    rw [← e] at this
    rw [show w.heap[x]? = _ from this] at hb
    cases hb
  · exact hk.rl.offMp hb x e (by simp)
  · exact hk.on.offMp hb x e (by simp)
theorem StsOk.offOwn {w : World} {l : List St} {ms : List StM} (h : StsOk w l ms) {lo : Nat} {el : TypeId} {sz n c : Nat} {A : Option Addr} {cs : List Value} (ho : Own w lo el sz A n c cs) (h1 : el ≠ 91) (h3 : el ≠ 3) : ∀ x ∈ blkOf A, ¬ inSts ms x := by
  rintro x hx ⟨i, hi, hm⟩
  have hk := h.ok i (by rw [← h.len]; exact hi)
  rcases fp_mem.1 hm with e | e | e
  · exact ho.offBlk hk.blk h1 x hx (by rw [e]; simp)
  · exact hk.rl.apart ho (Ne.symm h3) x e hx
  · exact hk.on.apart ho (Ne.symm h3) x e hx
def ptrsV (ms : List StM) : List Value := ms.map fun m => .pointer (some ⟨m.p, 0, none⟩)
theorem ptrsV_get (ms : List StM) (i : Nat) (h : i < ms.length) : (ptrsV ms)[i]? = some (.pointer (some ⟨(ms.getD i default).p, 0, none⟩)) := by
  simp [ptrsV, List.getElem?_eq_getElem h, List.getD_eq_getElem?_getD]
def dC (pa pb : Nat) (E : DE) (D : DS) (Ab : Option Addr) (cb : Nat) (Al : Option Addr) (cl bm : Nat) : List Value :=
  [.pointer (some ⟨pa, 0, none⟩), .pointer (some ⟨pb, 0, none⟩), .slice Ab E.bytes.length cb, .slice Al D.l.length cl, .map (some bm), .int .i64 E.budget, .bool D.full]
structure DOk (F : Nat → Prop) (w : World) (p pa pb : Nat) (E : DE) (D : DS) (Ab : Option Addr) (cb : Nat) (Al : Option Addr) (cl bm : Nat) (ms : List StM) : Prop where
  blk : Blk w p (dC pa pb E D Ab cb Al cl bm) 86
  aut : IsAut F w pa E.k E.q
  bl : IsBlk F w pb E.f E.nB
  hF : ∀ x, F x → x < bm
  ob : Own w (p + 1) 5 1 Ab E.bytes.length cb (bys E.bytes)
  ol : Own w (p + 1) 92 1 Al D.l.length cl (ptrsV ms)
  mp : Mp sk w bm D.met
  bp : bm < p
  sts : StsOk w D.l ms
  slo : ∀ x, inSts ms x → p < x
  mv : ∀ x ∈ D.met, 0 ≤ x.2 ∧ x.2 < (D.l.length : Nat)
  lb : D.l.length ≤ E.budget
theorem inSts.of {w : World} {l : List St} {ms : List StM} (h : StsOk w l ms) {i x : Nat} (hi : i < l.length) (hx : x ∈ (ms.getD i default).fp) : inSts ms x := ⟨i, by rw [h.len]; exact hi, hx⟩
end Go.Clt
end
section
set_option linter.unusedVariables false
set_option linter.unusedSimpArgs false
set_option maxRecDepth 4000
namespace Go.Clt
set_option maxHeartbeats 4000000
open Go Go.RowKit Go.Proofs
theorem one_sts {w : World} {s : St} {m : StM} (h : StOk w s m) : StsOk w [s] [m] := by
  refine ⟨rfl, fun i hi => ?_, fun i j hi hj hij => ?_⟩
  · simp at hi; subst hi; exact h
  · simp at hi hj; omega
theorem StsOk.one {w : World} {s : St} {m : StM} (h : StsOk w [s] [m]) : StOk w s m := h.ok 0 (by simp)
theorem meet_c (F : Nat → Prop) (p pa pb : Nat) (E : DE) (D : DS) (Ab : Option Addr) (cb : Nat) (Al : Option Addr) (cl bm : Nat) (ms : List StM) (name : List UInt8) (s : St) (m : StM) (w : World) (hb : E.budget ≤ 1000000)
    (hD : DOk F w p pa pb E D Ab cb Al cl bm ms) (hs : StOk w s m) (hm : ∀ x ∈ m.fp, p < x ∧ ¬ inSts ms x) :
    Calls P 76 #[.pointer (some ⟨p, 0, none⟩), sk name, .pointer (some ⟨m.p, 0, none⟩)] w (Ret fun u w' => Chg (p :: bm :: blkOf Al) w w' ∧ ∃ Al' cl' ms', DOk F w' p pa pb E (meetP E D name s).2 Ab cb Al' cl' bm ms' ∧ u = .int .i64 ((meetP E D name s).1 : Nat) ∧ (ms' = ms ∨ ms' = ms ++ [m]) ∧ StOk w' s m) := by
  have hC := Chg.refl (p :: bm :: blkOf Al) w
  obtain ⟨hB0, hA, hI, hF, hOy, hO, hM, hbp, hT, hslo, hmv, hlb⟩ := hD
  have hN := one_sts hs
  have hOb := hO.blk
  have hbl := hB0.lt
  have hyA := hOy.apart hO (by decide)
  have hT1 := hT.offMp hM.is
  have hT2 := hT.offBlk hB0 (by decide) (by decide)
  have hT3 := hT.offOwn hO (by decide) (by decide)
  have hN1 := hN.offMp hM.is
  have hN2 := hN.offBlk hB0 (by decide) (by decide)
  have hN3 := hN.offOwn hO (by decide) (by decide)
  have hc1 : ∀ x ∈ [bm], x ∈ p :: bm :: blkOf Al ∨ w.heap.size ≤ x := fun x hx => by simp at hx; simp [hx]
  have hc2 : ∀ x ∈ [p], x ∈ p :: bm :: blkOf Al ∨ w.heap.size ≤ x := fun x hx => by simp at hx; simp [hx]
  have hc3 : ∀ x ∈ blkOf Al, x ∈ p :: bm :: blkOf Al ∨ w.heap.size ≤ x := fun x hx => by simp [hx]
  try have hlB0 := hB0.lt
  refine enter Tryz.func76 rfl rfl ?_
  refine EW.seq ?_
  refine EW.reg ?_
  refine EP.o rfl (Does.assign rfl) ?_
  refine EP.nil ?_
  refine EW.seq ?_
  refine EW.reg ?_
  refine EP.o rfl (Does.move rfl) ?_
  refine EP.o rfl (Does.nilCheck rfl) ?_
  refine EP.o rfl (Does.fieldAddr fl86_4 rfl) ?_
  refine EP.o rfl (Does.loadB o83 rfl (Keeps.now _) (by assumption) (by rfl)) ?_
  refine EP.o rfl (Does.move rfl) ?_
  refine EP.o rfl (Does.lookOk (sk_law Tryz.underlying9) mp83 zr3 rfl rfl hM (Keeps.now _)) ?_
  refine EP.o rfl (Does.move rfl) ?_
  refine EP.o rfl (Does.extract rfl rfl) ?_
  refine EP.o rfl (Does.extract rfl rfl) ?_
  refine EP.o rfl (Does.assign rfl) ?_
  refine EP.o rfl (Does.assign rfl) ?_
  refine EP.nil ?_
  refine EW.seq ?_
  refine EW.seq ?_
  refine EW.reg ?_
  refine EP.o rfl (Does.move rfl) ?_
  refine EP.nil ?_
  refine EW.cond rfl (fun h1 => ?_) (fun h1 => ?_)
  · try simp at h1
    obtain ⟨v, hv⟩ := Option.isSome_iff_exists.1 h1
    have hE : meetP E D name s = (v.toNat, D) := by unfold meetP; rw [hv]
    have hvr := hmv _ (mem_of_mget hv)
    refine EW.seq ?_
    refine EW.reg ?_
    refine EP.o rfl (Does.move rfl) ?_
    refine EP.o rfl (Does.assign rfl) ?_
    refine EP.nil ?_
    refine EW.ret ?_
    refine Fin.one rfl rfl ?_
    rw [hE]
    refine ⟨hC, Al, cl, ms, ⟨hB0, hA, hI, hF, hOy, hO, hM, hbp, hT, hslo, hmv, hlb⟩, vint ?_, .inl rfl, hN.one⟩
    rw [hv]
    simp only at hvr
    show v = _
    omega
  · try simp at h1
    have hno : mget D.met name = none := by simpa using h1
    refine EW.skip ?_
    refine EW.seq ?_
    refine EW.seq ?_
    refine EW.drw' (S := []) 9 [(0, 0), (0, 1), (0, 2), (0, 3), (0, 4), (0, 5), (0, 6), (0, 7), (0, 8), (2, 9)] mo (by kernel_rfl) ?_
    intro w1 hx1 hh1
    have hz1 := hx1.size
    replace hC := hC.step0 hx1
    replace hB0 := hB0.chg0 hx1
    replace hA := hA.chg0 hx1
    replace hI := hI.chg0 hx1
    replace hOy := hOy.chg0 hx1
    replace hO := hO.chg0 hx1
    replace hM := hM.chg0 hx1
    replace hT := hT.chg0 hx1
    replace hN := hN.chg0 hx1
    refine EP.f rfl (Does.move rfl) ?_
    refine EP.f rfl (Does.nilCheck rfl) ?_
    refine EP.f rfl (Does.fieldAddr fl86_3 rfl) ?_
    refine EP.f rfl (Does.loadBc o84 rfl (by assumption) (by simp; done) (by rfl)) ?_
    refine EP.f rfl (Does.lenL Tryz.underlying84 rfl) ?_
    refine EP.f rfl (Does.move rfl) ?_
    refine EP.f rfl (Does.nilCheck rfl) ?_
    refine EP.f rfl (Does.fieldAddr fl86_5 rfl) ?_
    refine EP.f rfl (Does.loadBc o3 rfl (by assumption) (by simp; done) (by rfl)) ?_
    refine EP.o rfl (Does.cmp rfl rfl rfl) ?_
    refine EP.nil ?_
    refine EW.cond rfl (fun h2 => ?_) (fun h2 => ?_)
    · try simp at h2
      have hE : meetP E D name s = (0, { D with full := true }) := by unfold meetP; rw [hno]; simp only; rw [if_pos (by omega)]
      refine EW.seq ?_
      refine EW.reg ?_
      refine EP.o rfl (Does.move rfl) ?_
      refine EP.o rfl (Does.nilCheck rfl) ?_
      refine EP.o rfl (Does.fieldAddr fl86_6 rfl) ?_
      refine EP.put2 (Puts.blk sz4 rfl rfl (by assumption) rfl rfl rfl rfl (by rfl)) ?_
      intro w2 hs2 hx2 hB2
      have hz2 := hx2.size
      replace hC := hC.step hx2 (by simp; done)
      replace hA := hA.chg hx2 (by intro b hb hFb; have := hF _ hFb; simp at hb; omega)
      replace hI := hI.chg hx2 (by intro b hb hFb; have := hF _ hFb; simp at hb; omega)
      replace hOy := (by exact hOy.chg hx2 (by first | (intro x hx; simp at hx; left; omega) | (intro x hx; simp at hx; right; rw [hx]; assumption) | (intro x hx; have hx := List.mem_singleton.1 hx; right; intro h; have := hOb x (by rw [h]; exact List.mem_singleton.2 rfl); omega) | (intro x hx; have := hOb x hx; left; omega)))
      replace hO := (by exact hO.chg hx2 (by first | (intro x hx; simp at hx; left; omega) | (intro x hx; simp at hx; right; rw [hx]; assumption) | (intro x hx; have hx := List.mem_singleton.1 hx; right; intro h; have := hOb x (by rw [h]; exact List.mem_singleton.2 rfl); omega) | (intro x hx; have := hOb x hx; left; omega)))
      replace hM := hM.chg hx2 (by simp; omega)
      replace hT := hT.chg hx2 (by assumption)
      replace hN := hN.chg hx2 (by assumption)
      clear hB0; have hB0 := hB2; clear hB2
      refine EP.nil ?_
      refine EW.seq ?_
      refine EW.reg ?_
      refine EP.o rfl (Does.assign rfl) ?_
      refine EP.nil ?_
      refine EW.ret ?_
      refine Fin.one rfl rfl ?_
      rw [hE]
      exact ⟨hC, Al, cl, ms, ⟨hB0, hA, hI, hF, hOy, hO, hM, hbp, hT, hslo, hmv, hlb⟩, rfl, .inl rfl, hN.one⟩
    · try simp at h2
      have hE : meetP E D name s = (D.l.length, { D with met := mput D.met name (D.l.length : Nat), l := D.l ++ [s] }) := by unfold meetP; rw [hno]; simp only; rw [if_neg (by omega)]
      refine EW.skip ?_
      refine EW.seq ?_
      refine EW.reg ?_
      refine EP.o rfl (Does.move rfl) ?_
      refine EP.o rfl (Does.nilCheck rfl) ?_
      refine EP.o rfl (Does.fieldAddr fl86_3 rfl) ?_
      refine EP.o rfl (Does.loadB o84 rfl (Keeps.now _) (by assumption) (by rfl)) ?_
      refine EP.o rfl (Does.lenL Tryz.underlying84 rfl) ?_
      refine EP.o rfl (Does.assign rfl) ?_
      refine EP.nil ?_
      refine EW.seq ?_
      refine EW.reg ?_
      refine EP.o rfl (Does.move rfl) ?_
      refine EP.o rfl (Does.nilCheck rfl) ?_
      refine EP.o rfl (Does.fieldAddr fl86_4 rfl) ?_
      refine EP.o rfl (Does.loadB o83 rfl (Keeps.now _) (by assumption) (by rfl)) ?_
      refine EP.o rfl (Does.move rfl) ?_
      refine EP.o rfl (Does.move rfl) ?_
      refine EP.upd2 (a := name) (Or.inl rfl) (sk_law Tryz.underlying9) mp83 rfl rfl rfl hM ?_
      intro w3 hs3 hx3 hM3
      have hz3 := hx3.size
      replace hC := hC.step hx3 (by simp; done)
      replace hB0 := hB0.chg hx3 (by simp; omega)
      replace hA := hA.chg hx3 (by intro b hb hFb; have := hF _ hFb; simp at hb; omega)
      replace hI := hI.chg hx3 (by intro b hb hFb; have := hF _ hFb; simp at hb; omega)
      replace hOy := (by exact hOy.chg hx3 (by first | (intro x hx; simp at hx; left; omega) | (intro x hx; simp at hx; right; rw [hx]; assumption) | (intro x hx; have hx := List.mem_singleton.1 hx; right; intro h; have := hOb x (by rw [h]; exact List.mem_singleton.2 rfl); omega) | (intro x hx; have := hOb x hx; left; omega)))
      replace hO := (by exact hO.chg hx3 (by first | (intro x hx; simp at hx; left; omega) | (intro x hx; simp at hx; right; rw [hx]; assumption) | (intro x hx; have hx := List.mem_singleton.1 hx; right; intro h; have := hOb x (by rw [h]; exact List.mem_singleton.2 rfl); omega) | (intro x hx; have := hOb x hx; left; omega)))
      replace hT := hT.chg hx3 (by assumption)
      replace hN := hN.chg hx3 (by assumption)
      clear hM; have hM := hM3; clear hM3
      refine EP.nil ?_
      refine EW.seq ?_
      refine EW.reg ?_
      refine EP.o rfl (Does.move rfl) ?_
      refine EP.o rfl (Does.move rfl) ?_
      refine EP.o rfl (Does.nilCheck rfl) ?_
      refine EP.o rfl (Does.fieldAddr fl86_3 rfl) ?_
      refine EP.o rfl (Does.loadB o84 rfl (Keeps.now _) (by assumption) (by rfl)) ?_
      refine EP.o rfl (Does.move rfl) ?_
      refine EP.new2 rfl (News.buildL sl84 Tryz.underlying84 zr92 rfl rfl rfl (by rfl)) ?_
      intro b4 w4 hb4 hs4 hx4 hB4
      have hz4 := hx4.size
      replace hC := hC.step0 hx4
      replace hB0 := hB0.chg0 hx4
      replace hA := hA.chg0 hx4
      replace hI := hI.chg0 hx4
      replace hOy := hOy.chg0 hx4
      replace hO := hO.chg0 hx4
      replace hM := hM.chg0 hx4
      replace hT := hT.chg0 hx4
      replace hN := hN.chg0 hx4
      refine EP.append2 rfl el84 rfl rfl hO (Blk.rd (F := fun _ => True) (by assumption) rfl trivial) (by rfl) (by omega) (by omega) ?_
      intro A' c' w5 hO5 hx5 hA'
      have hz5 := hx5.size
      replace hC := hC.step hx5 (by assumption)
      replace hB0 := hB0.chg hx5 (by intro h; have := hOb _ h; omega)
      replace hA := hA.chg hx5 (by intro x hx hf; have := hOb x hx; have := hF x hf; omega)
      replace hI := hI.chg hx5 (by intro x hx hf; have := hOb x hx; have := hF x hf; omega)
      replace hOy := (by exact hOy.keep hx5 (by assumption))
      replace hM := hM.chg hx5 (by intro h; have := hOb _ h; omega)
      replace hT := hT.chg hx5 (by assumption)
      replace hN := hN.chg hx5 (by assumption)
      replace hB4 := hB4.chg hx5 (by intro h; have := hOb _ h; omega)
      clear hO; have hO := hO5; clear hO5
      have hoA := hO.offBlk hB0 (by decide)
      refine EP.o rfl (Does.nilCheck rfl) ?_
      refine EP.o rfl (Does.fieldAddr fl86_3 rfl) ?_
      refine EP.put2 (Puts.blk sz84 rfl rfl (by assumption) rfl rfl rfl rfl (by rfl)) ?_
      intro w6 hs6 hx6 hB6
      have hz6 := hx6.size
      replace hC := hC.step hx6 (by simp; done)
      replace hA := hA.chg hx6 (by intro b hb hFb; have := hF _ hFb; simp at hb; omega)
      replace hI := hI.chg hx6 (by intro b hb hFb; have := hF _ hFb; simp at hb; omega)
      replace hOy := (by exact hOy.chg hx6 (by first | (intro x hx; simp at hx; left; omega) | (intro x hx; simp at hx; right; rw [hx]; assumption) | (intro x hx; have hx := List.mem_singleton.1 hx; right; intro h; have := hOb x (by rw [h]; exact List.mem_singleton.2 rfl); omega) | (intro x hx; have := hOb x hx; left; omega)))
      replace hO := (by exact hO.chg hx6 (by first | (intro x hx; simp at hx; left; omega) | (intro x hx; simp at hx; right; rw [hx]; assumption) | (intro x hx; have hx := List.mem_singleton.1 hx; right; intro h; have := hOb x (by rw [h]; exact List.mem_singleton.2 rfl); omega) | (intro x hx; have := hOb x hx; left; omega)))
      replace hM := hM.chg hx6 (by simp; omega)
      replace hT := hT.chg hx6 (by assumption)
      replace hN := hN.chg hx6 (by assumption)
      replace hB4 := hB4.chg hx6 (by simp; omega)
      clear hB0; have hB0 := hB6; clear hB6
      refine EP.nil ?_
      refine EW.seq ?_
      refine EW.reg ?_
      refine EP.o rfl (Does.move rfl) ?_
      refine EP.o rfl (Does.assign rfl) ?_
      refine EP.nil ?_
      refine EW.ret ?_
      refine Fin.one rfl rfl ?_
      rw [hE]
      have hins : ∀ x, inSts (ms ++ [m]) x → inSts ms x ∨ x ∈ m.fp := fun x hx => by
        obtain ⟨i, hi, hx⟩ := hx
        simp at hi
        rw [getD_snoc _ _ _ _ (by omega)] at hx
        by_cases h : i = ms.length
        · rw [if_pos h] at hx; exact .inr hx
        · rw [if_neg h] at hx; exact .inl ⟨i, by omega, hx⟩
      refine ⟨hC, A', c', ms ++ [m], ⟨?_, hA, hI, hF, hOy, ?_, hM, hbp, hT.snoc hN.one (fun x hx => (hm x hx).2), fun x hx => (hins x hx).elim (hslo x) (fun h => (hm x h).1), ?_, ?_⟩, rfl, .inr rfl, hN.one⟩
      · unfold dC
        simp only [List.length_append, List.length_singleton]
        exact hB0
      · simp only [List.length_append, List.length_singleton]
        unfold ptrsV
        rw [List.map_append]
        exact hO
      · intro x hx
        simp only [List.length_append, List.length_singleton]
        rcases mput_mem hx with rfl | hx
        · simp only; omega
        · have := hmv x hx; omega
      · simp only [List.length_append, List.length_singleton]; omega
end Go.Clt
end
section
set_option linter.unusedVariables false
set_option linter.unusedSimpArgs false
set_option maxRecDepth 4000
namespace Go.Clt
open Go Go.RowKit Go.Proofs
section
variable {P : Program} {n : Nat} {ops : Array Oper} {S : World → Prop} {N : Env → World → Prop} {B : Nat → Env → World → Prop} {R : Env → World → Prop} {e : Env} {w : World}
variable {rest : List (Nat × Oper)} {d : Nat} {op : Op} {t : TypeId} {p : String} {af : Array Edge} {v : Value}
theorem EP.o1 (hd : Nat.blt d n = true) (hy : Does P n e ⟨some d, op, t, p, af, none⟩ (fun w' => w' = w) v) (hS : S w) (h : EP P n ops S N B R rest ((d, v) :: e) w) : EP P n ops S N B R ((1, ⟨some d, op, t, p, af, none⟩) :: rest) e w :=
  EP.x1 (w' := w) hd (fun a ha => hy a w ha rfl) hS h
end
section
variable {n : Nat} {e : Env} {w : World} {dst : Option Tmp} {t : TypeId} {p : String} {af : Array Edge} {g : Option (Nat × Bool)}
theorem Does.eqSl {φ : World → Prop} {τ τ' el : TypeId} {x y : Operand} {A : Option Addr} {m c : Nat} (hu : P.underlying τ = some (.slice el)) (hx : ev e x = some (.slice A m c)) (hy : ev e y = some (.slice none 0 0)) : Does P n e ⟨dst, .binOp .eql τ x y τ', t, p, af, g⟩ φ (.bool A.isNone) :=
  Does.bin hx hy rfl fun w _ => by
    have h : ∀ d : Nat, (Op.equalIn (d + 1) τ (.slice A m c) (.slice none 0 0)).run P w = .ok A.isNone w := fun d => by cases A <;> simp [Op.equalIn, run_underlying hu]
    simp only [binOp]
    simp [Op.equal, Op.maxDepth, h 9999]
theorem Does.toStr {x : Operand} {A : Option Addr} {m c : Nat} {l : List Nat} {F : Nat → Prop} (hx : ev e x = some (.slice A m c)) (hm : m = l.length) (hl : ∀ b ∈ l, b < 256) (hr : Rd F w 1 A m (bys l)) :
    Does P n e ⟨dst, .convert 44 9 x, t, p, af, g⟩ (fun w' => w' = w) (wordV l) := fun a w' ha hw => by
  subst hw hm
  have hlen : (l.map UInt8.ofNat).length = l.length := by simp
  have key : (convert 44 9 (.slice A l.length c)).run P w' = .ok (wordV l) w' := by
    cases A with
    | none =>
      have hl0 : l = [] := by
        rcases Nat.eq_zero_or_pos l.length with h | h
        · exact List.eq_nil_of_length_eq_zero h
        · obtain ⟨_, _, h2, _⟩ := hr.at_ h; cases h2
      subst hl0
      rw [run_convert_bytes_string w' 44 9 5 none _ c Tryz.underlying44 Tryz.underlying5 Tryz.underlying9]
      rfl
    | some ad =>
      have := run_convert_bytes_back (P := P) w' 44 9 5 ad c (l.map UInt8.ofNat) Tryz.underlying44 Tryz.underlying5 Tryz.underlying9 (fun j hj => by
        rw [hlen] at hj
        obtain ⟨gb, off, h2, _, _, hc⟩ := hr.at_ (by omega)
        injection h2 with h2
        subst h2
        rw [add0]
        have hb := hl l[j] (List.getElem_mem hj)
        refine hc j _ ?_
        rw [bys_get l j hj, List.getD_eq_getElem?_getD, List.getElem?_eq_getElem hj]
        simp
        omega)
      rw [hlen] at this
      exact this
  simp [execOp, ha.ev hx, key]
end
end Go.Clt
end
