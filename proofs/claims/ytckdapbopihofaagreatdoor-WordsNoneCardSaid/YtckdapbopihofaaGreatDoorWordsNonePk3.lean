import Derived.Calls
import Derived.OrdersHeld
import Derived.Still
import Derived.Tactics
import Derived.Below
import Derived.Laws.AppendOwn
import Derived.Laws.Sem
import Derived.KernelRfl
import Derived.Laws.CopyRow
import Derived.Laws.Tables
import Derived.Laws.Entries
import Derived.Laws.IdiomRangeMap
import Derived.WalkKit
import Derived.Laws.CopyOwn
import Derived.Laws.MakeOwn
import Derived.Laws.Slices
import Derived.Maps.AppendAt
import Derived.Test.YtckdapbopihofaaGreatDoorProg
import Derived.Shelf.Strings.Builder1
import Derived.Shelf.Small.Strs
import Derived.Shelf.Strconv.Itoa0
import Derived.Shelf.Strconv.Itoa1
import Derived.Shelf.LaysM
import Derived.Shelf.Strconv.Itoa2
import Derived.Shelf.Strconv.Itoa3
import Derived.Shelf.Strings.Search1
import Derived.Shelf.Bits.Mul64
import Derived.Laws.Externs
import Derived.Lib.TrailingZeros
import Derived.ChangeKeysEq
import Derived.Test.YtckdapbopihofaaGreatDoorWordsNonePk2
/- WordsNone: for every input the law answers true, its arguments left as they were (the tied card). A part of that proof: Reader7, Reader8, Scan, SynP, Syn1, Syn2, SynR, Syn3, Syn4, Syn5, Syn6, Syn7, Slc, Slc2, SetEq, Skip, Form, Form2. Conditions: none beyond the statement's own. By an AI agent; no person has read it. -/
section
set_option linter.unusedVariables false
set_option linter.unusedSimpArgs false
set_option maxRecDepth 4000
namespace Go.Clt
set_option maxHeartbeats 2000000
open Go Go.RowKit Go.Proofs
theorem tok_cells0 (k a c mn mx : Int) (lz : Bool) : Tok.cells { kind := k, src := a, to := c, set := 0, min := mn, max := mx, lazy := lz } = [.int .i64 k, .int .i64 a, .int .i64 c, .int .u64 0, .int .u64 0, .int .u64 0, .int .u64 0, .int .i64 mn, .int .i64 mx, .bool lz] := by
  simp [Tok.cells, setCells_zero]
def countM (L : List Nat) (p : Ps) (c : Nat) : Int × Int × Ps := if c = 43 then (1, -1, p) else if c = 63 then (0, 1, p) else if c = 123 then bracesP L p else (0, -1, p)
theorem countP_eq (L : List Nat) (p : Ps) (c : Nat) : countP L p c = if (countM L p c).2.2.e ≠ 0 then (({ kind := 5, min := (countM L p c).1, max := (countM L p c).2.1 } : Tok), (countM L p c).2.2)
  else (({ kind := 5, min := (countM L p c).1, max := (countM L p c).2.1, lazy := isB L (countM L p c).2.2 63 } : Tok), if isB L (isS L (countM L p c).2.2 63) 43 then (isS L (countM L p c).2.2 63).fail (isS L (countM L p c).2.2 63).i 6 else isS L (countM L p c).2.2 63) := rfl
theorem countT_c (s : ByteArray) (p : Ps) (sl : Value) (b c : Nat) (w : World) (hs : s.size ≤ 1048576) (hp : p.i ≤ s.size) (hR : Blk w b (rdC s p sl) 239) : Calls P 179 #[.pointer (some ⟨b, 0, none⟩), .int .u8 (c : Int)] w (Ret fun v w' => v = .agg (countP (strL s) p c).1.cells.toArray ∧ Chg [b] w w' ∧ Blk w' b (rdC s (countP (strL s) p c).2 sl) 239) := by
  have hC := Chg.refl [b] w
  have hle : (strL s).length = s.size := strL_length s
  rw [countP_eq]
  try have hlR := hR.lt
  refine enter Tryz.func179 rfl rfl ?_
  refine EW.seq ?_
  refine EW.reg ?_
  refine EP.new2 rfl (News.alloc zr205 rfl) ?_
  intro b1 w1 hb1 hs1 hx1 hB1
  have hz1 := hx1.size
  replace hC := hC.step0 hx1
  replace hR := hR.chg0 hx1
  refine EP.nil ?_
  refine EW.seq ?_
  refine EW.reg ?_
  refine EP.o rfl (Does.buildSL zr205 pl205 rfl (by rfl)) ?_
  refine EP.new2 rfl (News.alloc zr205 rfl) ?_
  intro b2 w2 hb2 hs2 hx2 hB2
  have hz2 := hx2.size
  replace hC := hC.step0 hx2
  replace hR := hR.chg0 hx2
  replace hB1 := hB1.chg0 hx2
  refine EP.put2 (Puts.blk sz205 rfl rfl (by assumption) rfl rfl rfl rfl (by simp only [List.take, List.drop, List.append, List.cons_append, List.nil_append]; rfl)) ?_
  intro w3 hs3 hx3 hB3
  have hz3 := hx3.size
  replace hC := hC.step hx3 (by first | (simp; done) | (simp; omega))
  replace hR := hR.chg hx3 (by simp; omega)
  replace hB1 := hB1.chg hx3 (by simp; omega)
  clear hB2; have hB2 := hB3; clear hB3
  refine EP.nil ?_
  refine EW.cut (fun e9 wr => ∃ b4 b5, Sub [(0, .pointer (some ⟨b, 0, none⟩)), (4, .pointer (some ⟨b4, 0, none⟩)), (5, .pointer (some ⟨b5, 0, none⟩))] e9 ∧ Chg [b] w wr ∧ Blk wr b (rdC s (countM (strL s) p c).2.2 sl) 239 ∧ Blk wr b4 [.int .i64 0, .int .i64 0, .int .i64 0, .int .u64 0, .int .u64 0, .int .u64 0, .int .u64 0, .int .i64 0, .int .i64 0, .bool false] 205 ∧ Blk wr b5 [.int .i64 5, .int .i64 0, .int .i64 0, .int .u64 0, .int .u64 0, .int .u64 0, .int .u64 0, .int .i64 (countM (strL s) p c).1, .int .i64 (countM (strL s) p c).2.1, .bool false] 205 ∧ w.heap.size ≤ b4 ∧ b4 < b5 ∧ b < b4) ?_ ?_
  · refine EW.seq ?_
    refine EW.reg ?_
    refine EP.o rfl (Does.move rfl) ?_
    refine EP.nil ?_
    refine EW.block ?_
    refine EW.seq ?_
    refine EW.reg ?_
    refine EP.o rfl (Does.cmp rfl rfl rfl) ?_
    refine EP.o rfl (Does.assign rfl) ?_
    refine EP.nil ?_
    refine EW.cond rfl (fun g1 => ?_) (fun g1 => ?_)
    · try simp at g1
      have hM : countM (strL s) p c = (1, -1, p) := by unfold countM; rw [if_pos (by omega)]
      refine EW.reg ?_
      refine EP.o rfl (Does.fieldAddr fl205_4 rfl) ?_
      refine EP.put2 (Puts.blk sz3 rfl rfl (by assumption) rfl rfl rfl rfl (by rfl)) ?_
      intro w4 hs4 hx4 hB4
      have hz4 := hx4.size
      replace hC := hC.step hx4 (by first | (simp; done) | (simp; omega))
      replace hR := hR.chg hx4 (by simp; omega)
      replace hB1 := hB1.chg hx4 (by simp; omega)
      clear hB2; have hB2 := hB4; clear hB4
      refine EP.nil ?_
      refine ⟨b1, b2, ⟨rfl, rfl, rfl, trivial⟩, ?_⟩
      rw [hM]
      exact ⟨hC, hR, hB1, hB2, by omega, by omega, by omega⟩
    · try simp at g1
      refine EW.seq ?_
      refine EW.reg ?_
      refine EP.o rfl (Does.cmp rfl rfl rfl) ?_
      refine EP.o rfl (Does.assign rfl) ?_
      refine EP.nil ?_
      refine EW.cond rfl (fun g2 => ?_) (fun g2 => ?_)
      · try simp at g2
        have hM : countM (strL s) p c = (0, 1, p) := by unfold countM; rw [if_neg (by omega), if_pos (by omega)]
        refine EW.reg ?_
        refine EP.o rfl (Does.fieldAddr fl205_5 rfl) ?_
        refine EP.put2 (Puts.blk sz3 rfl rfl (by assumption) rfl rfl rfl rfl (by rfl)) ?_
        intro w5 hs5 hx5 hB5
        have hz5 := hx5.size
        replace hC := hC.step hx5 (by first | (simp; done) | (simp; omega))
        replace hR := hR.chg hx5 (by simp; omega)
        replace hB1 := hB1.chg hx5 (by simp; omega)
        clear hB2; have hB2 := hB5; clear hB5
        refine EP.nil ?_
        refine ⟨b1, b2, ⟨rfl, rfl, rfl, trivial⟩, ?_⟩
        rw [hM]
        exact ⟨hC, hR, hB1, hB2, by omega, by omega, by omega⟩
      · try simp at g2
        refine EW.seq ?_
        refine EW.reg ?_
        refine EP.o rfl (Does.cmp rfl rfl rfl) ?_
        refine EP.o rfl (Does.assign rfl) ?_
        refine EP.nil ?_
        refine EW.cond rfl (fun g3 => ?_) (fun g3 => ?_)
        · try simp at g3
          have hM : countM (strL s) p c = bracesP (strL s) p := by unfold countM; rw [if_neg (by omega), if_neg (by omega), if_pos (by omega)]
          refine EW.reg ?_
          refine EP.o rfl (Does.move rfl) ?_
          refine EP.call2 rfl (Enters.fn fb208 rfl) (braces_c s p sl b _ hs hp (by assumption)) ?_
          rintro _ w6 ⟨rfl, hx6, hR'⟩
          have hz6 := hx6.size
          replace hC := hC.step hx6 (by first | (simp; done) | (simp; omega))
          replace hB1 := hB1.chg hx6 (by simp; omega)
          replace hB2 := hB2.chg hx6 (by simp; omega)
          clear hR
          have hR := hR'; clear hR'
          refine EP.o rfl (Does.move rfl) ?_
          refine EP.o rfl (Does.extract rfl rfl) ?_
          refine EP.o rfl (Does.extract rfl rfl) ?_
          refine EP.o rfl (Does.fieldAddr fl205_4 rfl) ?_
          refine EP.put2 (Puts.blk sz3 rfl rfl (by assumption) rfl rfl rfl rfl (by rfl)) ?_
          intro w7 hs7 hx7 hB7
          have hz7 := hx7.size
          replace hC := hC.step hx7 (by first | (simp; done) | (simp; omega))
          replace hR := hR.chg hx7 (by simp; omega)
          replace hB1 := hB1.chg hx7 (by simp; omega)
          clear hB2; have hB2 := hB7; clear hB7
          refine EP.o rfl (Does.fieldAddr fl205_5 rfl) ?_
          refine EP.put2 (Puts.blk sz3 rfl rfl (by assumption) rfl rfl rfl rfl (by rfl)) ?_
          intro w8 hs8 hx8 hB8
          have hz8 := hx8.size
          replace hC := hC.step hx8 (by first | (simp; done) | (simp; omega))
          replace hR := hR.chg hx8 (by simp; omega)
          replace hB1 := hB1.chg hx8 (by simp; omega)
          clear hB2; have hB2 := hB8; clear hB8
          refine EP.nil ?_
          refine ⟨b1, b2, ⟨rfl, rfl, rfl, trivial⟩, ?_⟩
          rw [hM]
          exact ⟨hC, hR, hB1, hB2, by omega, by omega, by omega⟩
        · try simp at g3
          have hM : countM (strL s) p c = (0, -1, p) := by unfold countM; rw [if_neg (by omega), if_neg (by omega), if_neg (by omega)]
          refine EW.skip ?_
          refine ⟨b1, b2, ⟨rfl, rfl, rfl, trivial⟩, ?_⟩
          rw [hM]
          exact ⟨hC, hR, hB1, hB2, by omega, by omega, by omega⟩
  rintro e9 w9 ⟨b4, b5, hs9, hC, hR, hB1, hB2, hlt1, hlt2, hlt3⟩
  refine EW.sub _ hs9 ?_
  clear hs9 e9
  try have hzw := hC.size
  generalize countM (strL s) p c = m at *
  obtain ⟨mn, mx, q⟩ := m
  dsimp only at *
  try have hlR := hR.lt
  try have hlB1 := hB1.lt
  try have hlB2 := hB2.lt
  refine EW.seq ?_
  refine EW.seq ?_
  refine EW.reg ?_
  refine EP.o rfl (Does.move rfl) ?_
  refine EP.o rfl (Does.nilCheck rfl) ?_
  refine EP.o rfl (Does.fieldAddr fl239_0 rfl) ?_
  refine EP.call2 rfl (Enters.fn fb148 rfl) (bad_c s q sl b _ (by assumption)) ?_
  rintro _ _ ⟨rfl, rfl⟩
  refine EP.nil ?_
  refine EW.cond rfl (fun g4 => ?_) (fun g4 => ?_)
  · try simp at g4
    refine EW.seq ?_
    refine EW.reg ?_
    refine EP.o rfl (Does.loadA ag205 rfl (Keeps.now _) (by assumption) (by simp only [List.take, List.drop, List.append, List.cons_append, List.nil_append]; rfl) rfl) ?_
    refine EP.put2 (Puts.blk sz205 rfl rfl (by assumption) rfl rfl rfl rfl (by simp only [List.take, List.drop, List.append, List.cons_append, List.nil_append]; rfl)) ?_
    intro w10 hs10 hx10 hB10
    have hz10 := hx10.size
    replace hC := hC.step hx10 (by first | (simp; done) | (simp; omega))
    replace hR := hR.chg hx10 (by simp; omega)
    replace hB2 := hB2.chg hx10 (by simp; omega)
    clear hB1; have hB1 := hB10; clear hB10
    refine EP.nil ?_
    refine EW.ret ?_
    refine Fin.cell rfl rfl (Blk.loadV ag205 (by assumption) (by simp only [List.take, List.drop, List.append, List.cons_append, List.nil_append]; rfl) rfl) ?_
    exact ⟨by rw [if_pos g4, tok_cells0] <;> rfl, hC, by rw [if_pos g4]; exact hR⟩
  · try simp at g4
    rw [if_neg (by simpa using g4)]
    refine EW.skip ?_
    refine EW.seq ?_
    refine EW.reg ?_
    refine EP.o rfl (Does.move rfl) ?_
    refine EP.o rfl (Does.nilCheck rfl) ?_
    refine EP.o rfl (Does.fieldAddr fl239_0 rfl) ?_
    refine EP.call2 rfl (Enters.fn fb205 rfl) (is_c s q sl b 63 _ hs (by assumption)) ?_
    rintro _ w11 ⟨rfl, hx11, hR'⟩
    have hz11 := hx11.size
    replace hC := hC.step hx11 (by first | (simp; done) | (simp; omega))
    replace hB1 := hB1.chg hx11 (by simp; omega)
    replace hB2 := hB2.chg hx11 (by simp; omega)
    clear hR
    have hR := hR'; clear hR'
    generalize isB (strL s) q 63 = lz at *
    generalize isS (strL s) q 63 = r at *
    have hB' : isB (strL s) r 43 = (decide (r.i < s.size) && decide (peekC (strL s) r = 43)) := by unfold isB; rw [strL_length]; rfl
    refine EP.o rfl (Does.fieldAddr fl205_6 rfl) ?_
    refine EP.put2 (Puts.blk sz4 rfl rfl (by assumption) rfl rfl rfl rfl (by simp only [List.take, List.drop, List.append, List.cons_append, List.nil_append]; rfl)) ?_
    intro w12 hs12 hx12 hB12
    have hz12 := hx12.size
    replace hC := hC.step hx12 (by first | (simp; done) | (simp; omega))
    replace hR := hR.chg hx12 (by simp; omega)
    replace hB1 := hB1.chg hx12 (by simp; omega)
    clear hB2; have hB2 := hB12; clear hB12
    refine EP.nil ?_
    refine EW.seq ?_
    refine EW.seq ?_
    refine EW.reg ?_
    refine EP.o rfl (Does.move rfl) ?_
    refine EP.o rfl (Does.nilCheck rfl) ?_
    refine EP.o rfl (Does.fieldAddr fl239_0 rfl) ?_
    refine EP.call2 rfl (Enters.fn fb202 rfl) (peek_c s r sl b _ (by assumption)) ?_
    rintro _ w13 ⟨rfl, hx13⟩
    have hz13 := hx13.size
    replace hC := hC.step0 hx13
    replace hR := hR.chg0 hx13
    replace hB1 := hB1.chg0 hx13
    replace hB2 := hB2.chg0 hx13
    refine EP.o rfl (Does.move rfl) ?_
    refine EP.o rfl (Does.extract rfl rfl) ?_
    refine EP.o rfl (Does.extract rfl rfl) ?_
    refine EP.o rfl (Does.assign rfl) ?_
    refine EP.o rfl (Does.assign rfl) ?_
    refine EP.nil ?_
    refine EW.seq ?_
    refine EW.reg ?_
    refine EP.o rfl (Does.move rfl) ?_
    refine EP.o rfl (Does.move rfl) ?_
    refine EP.bsplit (d := 43) rfl (fun g5 => ?_) (fun g5 => ?_)
    · try simp at g5
      refine EP.ung rfl rfl rfl ?_
      refine EP.o rfl (Does.move rfl) ?_
      refine EP.ung rfl rfl rfl ?_
      refine EP.o rfl (Does.cmp rfl rfl rfl) ?_
      refine EP.o rfl (Does.pickT rfl rfl) ?_
      refine EP.nil ?_
      refine EW.cond rfl (fun g6 => ?_) (fun g6 => ?_)
      · try simp at g6
        refine EW.drw' (S := []) 8 [(0, 0), (0, 1), (0, 2), (0, 3), (0, 4), (0, 5), (0, 6), (0, 7), (2, 8)] mo (by kernel_rfl) ?_
        intro w14 hx14 hh14
        have hz14 := hx14.size
        replace hC := hC.step0 hx14
        replace hR := hR.chg0 hx14
        replace hB1 := hB1.chg0 hx14
        replace hB2 := hB2.chg0 hx14
        refine EP.f rfl (Does.move rfl) ?_
        refine EP.f rfl (Does.nilCheck rfl) ?_
        refine EP.f rfl (Does.fieldAddr fl239_0 rfl) ?_
        refine EP.f rfl (Does.move rfl) ?_
        refine EP.f rfl (Does.nilCheck rfl) ?_
        refine EP.f rfl (Does.fieldAddr fl239_0 rfl) ?_
        refine EP.f rfl (Does.fieldAddr fl237_1 rfl) ?_
        refine EP.f rfl (Does.loadBc o3 rfl (by assumption) (by first | (simp; done) | (simp; omega)) (by rfl)) ?_
        refine EP.call2 rfl (Enters.fn fb180 rfl) (fail_c s r sl b r.i 6 _ (by assumption)) ?_
        rintro _ w15 ⟨rfl, hx15, hR'⟩
        have hz15 := hx15.size
        replace hC := hC.step hx15 (by first | (simp; done) | (simp; omega))
        replace hB1 := hB1.chg hx15 (by simp; omega)
        replace hB2 := hB2.chg hx15 (by simp; omega)
        clear hR
        have hR := hR'; clear hR'
        refine EP.nil ?_
        refine EW.seq ?_
        refine EW.reg ?_
        refine EP.o rfl (Does.loadA ag205 rfl (Keeps.now _) (by assumption) (by simp only [List.take, List.drop, List.append, List.cons_append, List.nil_append]; rfl) rfl) ?_
        refine EP.put2 (Puts.blk sz205 rfl rfl (by assumption) rfl rfl rfl rfl (by simp only [List.take, List.drop, List.append, List.cons_append, List.nil_append]; rfl)) ?_
        intro w16 hs16 hx16 hB16
        have hz16 := hx16.size
        replace hC := hC.step hx16 (by first | (simp; done) | (simp; omega))
        replace hR := hR.chg hx16 (by simp; omega)
        replace hB2 := hB2.chg hx16 (by simp; omega)
        clear hB1; have hB1 := hB16; clear hB16
        refine EP.nil ?_
        refine EW.ret ?_
        refine Fin.cell rfl rfl (Blk.loadV ag205 (by assumption) (by simp only [List.take, List.drop, List.append, List.cons_append, List.nil_append]; rfl) rfl) ?_
        exact ⟨by rw [tok_cells0] <;> rfl, hC, by dsimp only; rw [if_pos (by rw [hB']; simp; omega)]; exact hR⟩
      · try simp at g6
        refine EW.skip ?_
        refine EW.seq ?_
        refine EW.reg ?_
        refine EP.o rfl (Does.loadA ag205 rfl (Keeps.now _) (by assumption) (by simp only [List.take, List.drop, List.append, List.cons_append, List.nil_append]; rfl) rfl) ?_
        refine EP.put2 (Puts.blk sz205 rfl rfl (by assumption) rfl rfl rfl rfl (by simp only [List.take, List.drop, List.append, List.cons_append, List.nil_append]; rfl)) ?_
        intro w17 hs17 hx17 hB17
        have hz17 := hx17.size
        replace hC := hC.step hx17 (by first | (simp; done) | (simp; omega))
        replace hR := hR.chg hx17 (by simp; omega)
        replace hB2 := hB2.chg hx17 (by simp; omega)
        clear hB1; have hB1 := hB17; clear hB17
        refine EP.nil ?_
        refine EW.ret ?_
        refine Fin.cell rfl rfl (Blk.loadV ag205 (by assumption) (by simp only [List.take, List.drop, List.append, List.cons_append, List.nil_append]; rfl) rfl) ?_
        exact ⟨by rw [tok_cells0] <;> rfl, hC, by dsimp only; rw [if_neg (by rw [hB']; simp; omega)]; exact hR⟩
    · try simp at g5
      refine EP.skp rfl rfl rfl rfl rfl (fun h => by cases h) ?_
      refine EP.skp rfl rfl rfl rfl rfl (fun h => by cases h) ?_
      refine EP.o rfl (Does.pickF rfl rfl) ?_
      refine EP.nil ?_
      refine EW.condF rfl ?_
      refine EW.skip ?_
      refine EW.seq ?_
      refine EW.reg ?_
      refine EP.o rfl (Does.loadA ag205 rfl (Keeps.now _) (by assumption) (by simp only [List.take, List.drop, List.append, List.cons_append, List.nil_append]; rfl) rfl) ?_
      refine EP.put2 (Puts.blk sz205 rfl rfl (by assumption) rfl rfl rfl rfl (by simp only [List.take, List.drop, List.append, List.cons_append, List.nil_append]; rfl)) ?_
      intro w18 hs18 hx18 hB18
      have hz18 := hx18.size
      replace hC := hC.step hx18 (by first | (simp; done) | (simp; omega))
      replace hR := hR.chg hx18 (by simp; omega)
      replace hB2 := hB2.chg hx18 (by simp; omega)
      clear hB1; have hB1 := hB18; clear hB18
      refine EP.nil ?_
      refine EW.ret ?_
      refine Fin.cell rfl rfl (Blk.loadV ag205 (by assumption) (by simp only [List.take, List.drop, List.append, List.cons_append, List.nil_append]; rfl) rfl) ?_
      exact ⟨by rw [tok_cells0] <;> rfl, hC, by dsimp only; rw [if_neg (by rw [hB']; simp; omega)]; exact hR⟩
theorem isB_iff (L : List Nat) (p : Ps) (b : Nat) : isB L p b = true ↔ p.i < L.length ∧ L.getD p.i 0 = b := by unfold isB; simp
theorem pre_bits (L : List Nat) (p : Ps) : preB (L.drop p.i) [63] = isB L p 63 ∧ preB (L.drop p.i) [63, 58] = (isB L p 63 && isB L (p.go 1) 58) := by
  have hl : (L.drop p.i).length = L.length - p.i := by simp
  have h0 : L.getD p.i 0 = (L.drop p.i).getD 0 0 := by simp [List.getD_eq_getElem?_getD]
  have h1 : L.getD (p.i + 1) 0 = (L.drop p.i).getD 1 0 := by simp [List.getD_eq_getElem?_getD]
  have i0 : isB L p 63 = true ↔ 0 < (L.drop p.i).length ∧ (L.drop p.i).getD 0 0 = 63 := by rw [isB_iff, h0]; constructor <;> (intro h; exact ⟨by omega, h.2⟩)
  have i1 : isB L (p.go 1) 58 = true ↔ 1 < (L.drop p.i).length ∧ (L.drop p.i).getD 1 0 = 58 := by rw [isB_iff, show (p.go 1).i = p.i + 1 from rfl, h1]; constructor <;> (intro h; exact ⟨by omega, h.2⟩)
  constructor
  · rw [Bool.eq_iff_iff, i0]
    generalize L.drop p.i = D
    match D with
    | [] => simp [preB]
    | [a] => simp [preB]
    | a :: c :: r => simp [preB]
  · rw [Bool.eq_iff_iff, Bool.and_eq_true, i0, i1]
    generalize L.drop p.i = D
    match D with
    | [] => simp [preB]
    | [a] => simp [preB]
    | a :: c :: r => simp [preB]
theorem group_c (s : ByteArray) (p : Ps) (sl : Value) (b a : Nat) (w : World) (hs : s.size ≤ 1048576) (hp : p.i ≤ s.size) (hR : Blk w b (rdC s p sl) 239) : Calls P 177 #[.pointer (some ⟨b, 0, none⟩), .int .i64 (a : Int)] w (Ret fun v w' => v = .agg (groupP (strL s) p a).1.cells.toArray ∧ Chg [b] w w' ∧ Blk w' b (rdC s (groupP (strL s) p a).2 sl) 239) := by
  have hC := Chg.refl [b] w
  have hle : (strL s).length = s.size := strL_length s
  have hpb := pre_bits (strL s) p
  have hx : strL (s.extract p.i s.size) = (strL s).drop p.i := by rw [strL_extract, List.take_of_length_le (by omega)]
  try have hlR := hR.lt
  refine enter Tryz.func177 rfl rfl ?_
  refine EW.seq ?_
  refine EW.reg ?_
  refine EP.new2 rfl (News.alloc zr205 rfl) ?_
  intro b1 w1 hb1 hs1 hx1 hB1
  have hz1 := hx1.size
  replace hC := hC.step0 hx1
  replace hR := hR.chg0 hx1
  refine EP.nil ?_
  refine EW.seq ?_
  refine EW.block ?_
  refine EW.seq ?_
  refine EW.drw' (S := []) 10 [(0, 0), (0, 1), (0, 2), (0, 3), (0, 4), (0, 5), (0, 6), (0, 7), (0, 8), (0, 9), (2, 10), (2, 11), (2, 12)] mo (by kernel_rfl) ?_
  intro w2 hx2 hh2
  have hz2 := hx2.size
  replace hC := hC.step0 hx2
  replace hR := hR.chg0 hx2
  replace hB1 := hB1.chg0 hx2
  refine EP.f rfl (Does.move rfl) ?_
  refine EP.f rfl (Does.nilCheck rfl) ?_
  refine EP.f rfl (Does.fieldAddr fl239_0 rfl) ?_
  refine EP.f rfl (Does.fieldAddr fl237_0 rfl) ?_
  refine EP.f rfl (Does.loadBc o9 rfl (by assumption) (by first | (simp; done) | (simp; omega)) (by rfl)) ?_
  refine EP.f rfl (Does.move rfl) ?_
  refine EP.f rfl (Does.nilCheck rfl) ?_
  refine EP.f rfl (Does.fieldAddr fl239_0 rfl) ?_
  refine EP.f rfl (Does.fieldAddr fl237_1 rfl) ?_
  refine EP.f rfl (Does.loadBc o3 rfl (by assumption) (by first | (simp; done) | (simp; omega)) (by rfl)) ?_
  refine EP.o rfl (Does.sliceLo Tryz.underlying9 rfl rfl (by omega) (by omega)) ?_
  refine EP.call2 rfl (Enters.fn fb207 rfl) (pre_c (s.extract p.i s.size) _ _) ?_
  rintro _ _ ⟨rfl, rfl⟩
  refine EP.o rfl (Does.assign rfl) ?_
  refine EP.nil ?_
  refine EW.cond rfl (fun g1 => ?_) (fun g1 => ?_)
  · try simp at g1
    have g1' : (isB (strL s) p 63 && isB (strL s) (p.go 1) 58) = true := by rw [← hpb.2, ← hx]; exact g1
    have hlt := isB_lt (by simp only [Bool.and_eq_true] at g1'; exact g1'.2)
    have hgo : (p.go 1).i = p.i + 1 := rfl
    have hE : groupP (strL s) p a = ({ kind := 2 }, p.go 2) := by unfold groupP; rw [if_pos g1']
    refine EW.seq ?_
    refine EW.reg ?_
    refine EP.o rfl (Does.move rfl) ?_
    refine EP.o rfl (Does.nilCheck rfl) ?_
    refine EP.o rfl (Does.fieldAddr fl239_0 rfl) ?_
    refine EP.o rfl (Does.fieldAddr fl237_1 rfl) ?_
    refine EP.o rfl (Does.loadB o3 rfl (Keeps.now _) (by assumption) (by rfl)) ?_
    refine EP.o rfl (Does.addi rfl rfl (by omega)) ?_
    refine EP.o rfl (Does.nilCheck rfl) ?_
    refine EP.o rfl (Does.fieldAddr fl239_0 rfl) ?_
    refine EP.o rfl (Does.fieldAddr fl237_1 rfl) ?_
    refine EP.put2 (Puts.blk sz3 rfl rfl (by assumption) rfl rfl rfl rfl (by simp only [List.take, List.drop, List.append, List.cons_append, List.nil_append]; rfl)) ?_
    intro w4 hs4 hx4 hB4
    have hz4 := hx4.size
    replace hC := hC.step hx4 (by first | (simp; done) | (simp; omega))
    replace hB1 := hB1.chg hx4 (by simp; omega)
    clear hR; have hR := hB4; clear hB4
    refine EP.nil ?_
    refine EW.seq ?_
    refine EW.reg ?_
    refine EP.o rfl (Does.buildSL zr205 pl205 rfl (by rfl)) ?_
    refine EP.put2 (Puts.blk sz205 rfl rfl (by assumption) rfl rfl rfl rfl (by simp only [List.take, List.drop, List.append, List.cons_append, List.nil_append]; rfl)) ?_
    intro w5 hs5 hx5 hB5
    have hz5 := hx5.size
    replace hC := hC.step hx5 (by first | (simp; done) | (simp; omega))
    replace hR := hR.chg hx5 (by simp; omega)
    clear hB1; have hB1 := hB5; clear hB5
    refine EP.nil ?_
    refine EW.ret ?_
    refine Fin.cell rfl rfl (Blk.loadV ag205 (by assumption) (by simp only [List.take, List.drop, List.append, List.cons_append, List.nil_append]; rfl) rfl) ?_
    exact ⟨by rw [hE, tok_cells0] <;> rfl, hC, by rw [hE]; exact hR⟩
  · try simp at g1
    have g1' : ¬ (isB (strL s) p 63 && isB (strL s) (p.go 1) 58) = true := by rw [← hpb.2, ← hx]; intro h; rw [show preB (strL (s.extract p.i s.size)) [63, 58] = false from g1] at h; cases h
    refine EW.seq ?_
    refine EW.drw' (S := []) 10 [(0, 0), (0, 1), (0, 2), (0, 3), (0, 4), (0, 5), (0, 6), (0, 7), (0, 8), (0, 9), (2, 10), (2, 11), (2, 12)] mo (by kernel_rfl) ?_
    intro w6 hx6 hh6
    have hz6 := hx6.size
    replace hC := hC.step0 hx6
    replace hR := hR.chg0 hx6
    replace hB1 := hB1.chg0 hx6
    refine EP.f rfl (Does.move rfl) ?_
    refine EP.f rfl (Does.nilCheck rfl) ?_
    refine EP.f rfl (Does.fieldAddr fl239_0 rfl) ?_
    refine EP.f rfl (Does.fieldAddr fl237_0 rfl) ?_
    refine EP.f rfl (Does.loadBc o9 rfl (by assumption) (by first | (simp; done) | (simp; omega)) (by rfl)) ?_
    refine EP.f rfl (Does.move rfl) ?_
    refine EP.f rfl (Does.nilCheck rfl) ?_
    refine EP.f rfl (Does.fieldAddr fl239_0 rfl) ?_
    refine EP.f rfl (Does.fieldAddr fl237_1 rfl) ?_
    refine EP.f rfl (Does.loadBc o3 rfl (by assumption) (by first | (simp; done) | (simp; omega)) (by rfl)) ?_
    refine EP.o rfl (Does.sliceLo Tryz.underlying9 rfl rfl (by omega) (by omega)) ?_
    refine EP.call2 rfl (Enters.fn fb207 rfl) (pre_c (s.extract p.i s.size) _ _) ?_
    rintro _ _ ⟨rfl, rfl⟩
    refine EP.o rfl (Does.assign rfl) ?_
    refine EP.nil ?_
    refine EW.cond rfl (fun g2 => ?_) (fun g2 => ?_)
    · try simp at g2
      have g2' : isB (strL s) p 63 = true := by rw [← hpb.1, ← hx]; exact g2
      have hE : groupP (strL s) p a = ({ kind := 1 }, p.fail a 6) := by unfold groupP; rw [if_neg g1', if_pos g2']
      refine EW.reg ?_
      refine EP.o rfl (Does.move rfl) ?_
      refine EP.o rfl (Does.nilCheck rfl) ?_
      refine EP.o rfl (Does.fieldAddr fl239_0 rfl) ?_
      refine EP.o rfl (Does.move rfl) ?_
      refine EP.call2 rfl (Enters.fn fb180 rfl) (fail_c s p sl b a 6 _ (by assumption)) ?_
      rintro _ w8 ⟨rfl, hx8, hR'⟩
      have hz8 := hx8.size
      replace hC := hC.step hx8 (by first | (simp; done) | (simp; omega))
      replace hB1 := hB1.chg hx8 (by simp; omega)
      clear hR
      have hR := hR'; clear hR'
      refine EP.nil ?_
      refine EW.seq ?_
      refine EW.reg ?_
      refine EP.o rfl (Does.buildSL zr205 pl205 rfl (by rfl)) ?_
      refine EP.put2 (Puts.blk sz205 rfl rfl (by assumption) rfl rfl rfl rfl (by simp only [List.take, List.drop, List.append, List.cons_append, List.nil_append]; rfl)) ?_
      intro w9 hs9 hx9 hB9
      have hz9 := hx9.size
      replace hC := hC.step hx9 (by first | (simp; done) | (simp; omega))
      replace hR := hR.chg hx9 (by simp; omega)
      clear hB1; have hB1 := hB9; clear hB9
      refine EP.nil ?_
      refine EW.ret ?_
      refine Fin.cell rfl rfl (Blk.loadV ag205 (by assumption) (by simp only [List.take, List.drop, List.append, List.cons_append, List.nil_append]; rfl) rfl) ?_
      exact ⟨by rw [hE, tok_cells0] <;> rfl, hC, by rw [hE]; exact hR⟩
    · try simp at g2
      have g2' : ¬ isB (strL s) p 63 = true := by rw [← hpb.1, ← hx]; intro h; rw [show preB (strL (s.extract p.i s.size)) [63] = false from g2] at h; cases h
      have hE : groupP (strL s) p a = ({ kind := 1 }, p) := by unfold groupP; rw [if_neg g1', if_neg g2']
      refine EW.skip ?_
      refine EW.seq ?_
      refine EW.reg ?_
      refine EP.o rfl (Does.buildSL zr205 pl205 rfl (by rfl)) ?_
      refine EP.put2 (Puts.blk sz205 rfl rfl (by assumption) rfl rfl rfl rfl (by simp only [List.take, List.drop, List.append, List.cons_append, List.nil_append]; rfl)) ?_
      intro w10 hs10 hx10 hB10
      have hz10 := hx10.size
      replace hC := hC.step hx10 (by first | (simp; done) | (simp; omega))
      replace hR := hR.chg hx10 (by simp; omega)
      clear hB1; have hB1 := hB10; clear hB10
      refine EP.nil ?_
      refine EW.ret ?_
      refine Fin.cell rfl rfl (Blk.loadV ag205 (by assumption) (by simp only [List.take, List.drop, List.append, List.cons_append, List.nil_append]; rfl) rfl) ?_
      exact ⟨by rw [hE, tok_cells0] <;> rfl, hC, by rw [hE]; exact hR⟩
end Go.Clt
end
section
set_option linter.unusedVariables false
set_option linter.unusedSimpArgs false
set_option maxRecDepth 4000
namespace Go.Clt
set_option maxHeartbeats 4000000
open Go Go.RowKit Go.Proofs
theorem one_c (s : ByteArray) (p : Ps) (sl : Value) (b : Nat) (w : World) (hs : s.size ≤ 1048576) (hp : p.i < s.size) (hb4 : 4 ≤ b) (hL : Laid w) (hR : Blk w b (rdC s p sl) 239) : Calls P 147 #[.pointer (some ⟨b, 0, none⟩)] w (Ret fun v w' => v = .agg (oneP (strL s) p).1.cells.toArray ∧ Chg [b] w w' ∧ Blk w' b (rdC s (oneP (strL s) p).2 sl) 239) := by
  have hC := Chg.refl [b] w
  have hle : (strL s).length = s.size := strL_length s
  have hlt := peekC_lt s p
  have hgo : (p.go 1).i = p.i + 1 := rfl
  have hU : ∀ x, oneP (strL s) p = x ↔ oneP (strL s) p = x := fun _ => Iff.rfl
  obtain ⟨u, hu, hu2⟩ := peek_at s p hp
  try have hlR := hR.lt
  try have hz4 := hL.sz
  refine enter Tryz.func147 rfl rfl ?_
  refine EW.seq ?_
  refine EW.reg ?_
  refine EP.new2 rfl (News.alloc zr205 rfl) ?_
  intro b1 w1 hb1 hs1 hx1 hB1
  have hz1 := hx1.size
  replace hC := hC.step0 hx1
  replace hR := hR.chg0 hx1
  replace hL := hL.chg0 hx1
  refine EP.nil ?_
  refine EW.seq ?_
  refine EW.reg ?_
  refine EP.o rfl (Does.move rfl) ?_
  refine EP.o rfl (Does.nilCheck rfl) ?_
  refine EP.o rfl (Does.fieldAddr fl239_0 rfl) ?_
  refine EP.o rfl (Does.fieldAddr fl237_1 rfl) ?_
  refine EP.o rfl (Does.loadB o3 rfl (Keeps.now _) (by assumption) (by rfl)) ?_
  refine EP.o rfl (Does.assign rfl) ?_
  refine EP.nil ?_
  refine EW.seq ?_
  refine EW.reg ?_
  refine EP.o rfl (Does.move rfl) ?_
  refine EP.o rfl (Does.nilCheck rfl) ?_
  refine EP.o rfl (Does.fieldAddr fl239_0 rfl) ?_
  refine EP.o rfl (Does.fieldAddr fl237_0 rfl) ?_
  refine EP.o rfl (Does.loadB o9 rfl (Keeps.now _) (by assumption) (by rfl)) ?_
  refine EP.o rfl (Does.move rfl) ?_
  refine EP.o rfl (Does.to (Does.indexS Tryz.underlying9 rfl rfl (by omega) (by exact hu)) (vint hu2)) ?_
  refine EP.o rfl (Does.assign rfl) ?_
  refine EP.nil ?_
  refine EW.seq ?_
  refine EW.seq ?_
  refine EW.reg ?_
  refine EP.o rfl (Does.move rfl) ?_
  refine EP.nil ?_
  refine EW.block ?_
  refine EW.seq ?_
  refine EW.reg ?_
  refine EP.o rfl (Does.cmp rfl rfl rfl) ?_
  refine EP.o rfl (Does.assign rfl) ?_
  refine EP.nil ?_
  refine EW.cond rfl (fun g1 => ?_) (fun g1 => ?_)
  · try simp at g1
    have hE : oneP (strL s) p = ({ set := (escapeP (strL s) p).1 }, (escapeP (strL s) p).2) := by unfold oneP; dsimp only; rw [if_pos (by omega)]
    refine EW.seq ?_
    refine EW.reg ?_
    refine EP.o rfl (Does.move rfl) ?_
    refine EP.call2 rfl (Enters.fn fb175 rfl) (escape_c s p sl b _ hs hp (by assumption)) ?_
    rintro _ w2 ⟨rfl, hx2, hR'⟩
    have hz2 := hx2.size
    replace hC := hC.step hx2 (by first | (simp; done) | (simp; omega))
    replace hL := hL.chg hx2 (by simp; omega)
    replace hB1 := hB1.chg hx2 (by simp; omega)
    clear hR
    have hR := hR'; clear hR'
    refine EP.o rfl (Does.buildSL zr205 pl205 rfl (by rfl)) ?_
    refine EP.put2 (Puts.blk sz205 rfl rfl (by assumption) rfl rfl rfl rfl (by simp only [List.take, List.drop, List.append, List.cons_append, List.nil_append]; rfl)) ?_
    intro w3 hs3 hx3 hB3
    have hz3 := hx3.size
    replace hC := hC.step hx3 (by first | (simp; done) | (simp; omega))
    replace hR := hR.chg hx3 (by simp; omega)
    replace hL := hL.chg hx3 (by simp; omega)
    clear hB1; have hB1 := hB3; clear hB3
    refine EP.nil ?_
    refine EW.ret ?_
    refine Fin.cell rfl rfl (Blk.loadV ag205 (by assumption) (by simp only [List.take, List.drop, List.append, List.cons_append, List.nil_append]; rfl) rfl) ?_
    exact ⟨by rw [hE] <;> rfl, hC, by rw [hE]; exact hR⟩
  · try simp at g1
    refine EW.seq ?_
    refine EW.reg ?_
    refine EP.o rfl (Does.cmp rfl rfl rfl) ?_
    refine EP.o rfl (Does.assign rfl) ?_
    refine EP.nil ?_
    refine EW.cond rfl (fun g2 => ?_) (fun g2 => ?_)
    · try simp at g2
      have hE : oneP (strL s) p = ({ set := (classP (strL s) p).1 }, (classP (strL s) p).2) := by unfold oneP; dsimp only; rw [if_neg (by omega), if_pos (by omega)]
      refine EW.seq ?_
      refine EW.reg ?_
      refine EP.o rfl (Does.move rfl) ?_
      refine EP.call2 rfl (Enters.fn fb176 rfl) (class_c s p sl b _ hs hp hb4 (by assumption) (by assumption)) ?_
      rintro _ w4 ⟨rfl, hx4, hR'⟩
      have hz4 := hx4.size
      replace hC := hC.step hx4 (by first | (simp; done) | (simp; omega))
      replace hL := hL.chg hx4 (by simp; omega)
      replace hB1 := hB1.chg hx4 (by simp; omega)
      clear hR
      have hR := hR'; clear hR'
      refine EP.o rfl (Does.buildSL zr205 pl205 rfl (by rfl)) ?_
      refine EP.put2 (Puts.blk sz205 rfl rfl (by assumption) rfl rfl rfl rfl (by simp only [List.take, List.drop, List.append, List.cons_append, List.nil_append]; rfl)) ?_
      intro w5 hs5 hx5 hB5
      have hz5 := hx5.size
      replace hC := hC.step hx5 (by first | (simp; done) | (simp; omega))
      replace hR := hR.chg hx5 (by simp; omega)
      replace hL := hL.chg hx5 (by simp; omega)
      clear hB1; have hB1 := hB5; clear hB5
      refine EP.nil ?_
      refine EW.ret ?_
      refine Fin.cell rfl rfl (Blk.loadV ag205 (by assumption) (by simp only [List.take, List.drop, List.append, List.cons_append, List.nil_append]; rfl) rfl) ?_
      exact ⟨by rw [hE] <;> rfl, hC, by rw [hE]; exact hR⟩
    · try simp at g2
      refine EW.skip ?_
      refine EW.seq ?_
      refine EW.reg ?_
      refine EP.o rfl (Does.move rfl) ?_
      refine EP.o rfl (Does.nilCheck rfl) ?_
      refine EP.o rfl (Does.fieldAddr fl239_0 rfl) ?_
      refine EP.o rfl (Does.fieldAddr fl237_1 rfl) ?_
      refine EP.o rfl (Does.loadB o3 rfl (Keeps.now _) (by assumption) (by rfl)) ?_
      refine EP.o rfl (Does.addi rfl rfl (by omega)) ?_
      refine EP.o rfl (Does.nilCheck rfl) ?_
      refine EP.o rfl (Does.fieldAddr fl239_0 rfl) ?_
      refine EP.o rfl (Does.fieldAddr fl237_1 rfl) ?_
      refine EP.put2 (Puts.blk sz3 rfl rfl (by assumption) rfl rfl rfl rfl (by simp only [List.take, List.drop, List.append, List.cons_append, List.nil_append]; rfl)) ?_
      intro w6 hs6 hx6 hB6
      have hz6 := hx6.size
      replace hC := hC.step hx6 (by first | (simp; done) | (simp; omega))
      replace hL := hL.chg hx6 (by simp; omega)
      replace hB1 := hB1.chg hx6 (by simp; omega)
      clear hR; have hR := hB6; clear hB6
      refine EP.nil ?_
      refine EW.seq ?_
      refine EW.block ?_
      refine EW.seq ?_
      refine EW.reg ?_
      refine EP.o rfl (Does.move rfl) ?_
      refine EP.o rfl (Does.cmp rfl rfl rfl) ?_
      refine EP.o rfl (Does.assign rfl) ?_
      refine EP.nil ?_
      refine EW.cond rfl (fun g3 => ?_) (fun g3 => ?_)
      · try simp at g3
        have hE : oneP (strL s) p = groupP (strL s) (p.go 1) p.i := by unfold oneP; dsimp only; rw [if_neg (by omega), if_neg (by omega), if_pos (by omega)]
        refine EW.seq ?_
        refine EW.reg ?_
        refine EP.o rfl (Does.move rfl) ?_
        refine EP.o rfl (Does.move rfl) ?_
        refine EP.call2 rfl (Enters.fn fb177 rfl) (group_c s (p.go 1) sl b p.i _ hs (by omega) (by assumption)) ?_
        rintro _ w7 ⟨rfl, hx7, hR'⟩
        have hz7 := hx7.size
        replace hC := hC.step hx7 (by first | (simp; done) | (simp; omega))
        replace hL := hL.chg hx7 (by simp; omega)
        replace hB1 := hB1.chg hx7 (by simp; omega)
        clear hR
        have hR := hR'; clear hR'
        refine EP.put2 (Puts.blk sz205 rfl rfl (by assumption) rfl rfl rfl rfl (by simp only [List.take, List.drop, List.append, List.cons_append, List.nil_append]; rfl)) ?_
        intro w8 hs8 hx8 hB8
        have hz8 := hx8.size
        replace hC := hC.step hx8 (by first | (simp; done) | (simp; omega))
        replace hR := hR.chg hx8 (by simp; omega)
        replace hL := hL.chg hx8 (by simp; omega)
        clear hB1; have hB1 := hB8; clear hB8
        refine EP.nil ?_
        refine EW.ret ?_
        refine Fin.cell rfl rfl (Blk.loadV ag205 (by assumption) (by simp only [List.take, List.drop, List.append, List.cons_append, List.nil_append]; rfl) rfl) ?_
        exact ⟨by rw [hE] <;> rfl, hC, by rw [hE]; exact hR⟩
      · try simp at g3
        refine EW.seq ?_
        refine EW.reg ?_
        refine EP.o rfl (Does.move rfl) ?_
        refine EP.o rfl (Does.cmp rfl rfl rfl) ?_
        refine EP.o rfl (Does.assign rfl) ?_
        refine EP.nil ?_
        refine EW.cond rfl (fun g4 => ?_) (fun g4 => ?_)
        · try simp at g4
          have hE : oneP (strL s) p = ({ kind := 3 }, p.go 1) := by unfold oneP; dsimp only; rw [if_neg (by omega), if_neg (by omega), if_neg (by omega), if_pos (by omega)]
          refine EW.seq ?_
          refine EW.reg ?_
          refine EP.o rfl (Does.buildSL zr205 pl205 rfl (by rfl)) ?_
          refine EP.put2 (Puts.blk sz205 rfl rfl (by assumption) rfl rfl rfl rfl (by simp only [List.take, List.drop, List.append, List.cons_append, List.nil_append]; rfl)) ?_
          intro w9 hs9 hx9 hB9
          have hz9 := hx9.size
          replace hC := hC.step hx9 (by first | (simp; done) | (simp; omega))
          replace hR := hR.chg hx9 (by simp; omega)
          replace hL := hL.chg hx9 (by simp; omega)
          clear hB1; have hB1 := hB9; clear hB9
          refine EP.nil ?_
          refine EW.ret ?_
          refine Fin.cell rfl rfl (Blk.loadV ag205 (by assumption) (by simp only [List.take, List.drop, List.append, List.cons_append, List.nil_append]; rfl) rfl) ?_
          exact ⟨by rw [hE, tok_cells0] <;> rfl, hC, by rw [hE]; exact hR⟩
        · try simp at g4
          refine EW.seq ?_
          refine EW.reg ?_
          refine EP.o rfl (Does.move rfl) ?_
          refine EP.o rfl (Does.cmp rfl rfl rfl) ?_
          refine EP.o rfl (Does.assign rfl) ?_
          refine EP.nil ?_
          refine EW.cond rfl (fun g5 => ?_) (fun g5 => ?_)
          · try simp at g5
            have hE : oneP (strL s) p = ({ kind := 4 }, p.go 1) := by unfold oneP; dsimp only; rw [if_neg (by omega), if_neg (by omega), if_neg (by omega), if_neg (by omega), if_pos (by omega)]
            refine EW.seq ?_
            refine EW.reg ?_
            refine EP.o rfl (Does.buildSL zr205 pl205 rfl (by rfl)) ?_
            refine EP.put2 (Puts.blk sz205 rfl rfl (by assumption) rfl rfl rfl rfl (by simp only [List.take, List.drop, List.append, List.cons_append, List.nil_append]; rfl)) ?_
            intro w10 hs10 hx10 hB10
            have hz10 := hx10.size
            replace hC := hC.step hx10 (by first | (simp; done) | (simp; omega))
            replace hR := hR.chg hx10 (by simp; omega)
            replace hL := hL.chg hx10 (by simp; omega)
            clear hB1; have hB1 := hB10; clear hB10
            refine EP.nil ?_
            refine EW.ret ?_
            refine Fin.cell rfl rfl (Blk.loadV ag205 (by assumption) (by simp only [List.take, List.drop, List.append, List.cons_append, List.nil_append]; rfl) rfl) ?_
            exact ⟨by rw [hE, tok_cells0] <;> rfl, hC, by rw [hE]; exact hR⟩
          · try simp at g5
            refine EW.seq ?_
            refine EW.reg ?_
            refine EP.o rfl (Does.move rfl) ?_
            refine EP.o rfl (Does.cmp rfl rfl rfl) ?_
            refine EP.o rfl (Does.assign rfl) ?_
            refine EP.nil ?_
            refine EW.cond rfl (fun g6 => ?_) (fun g6 => ?_)
            · try simp at g6
              have hE : oneP (strL s) p = ({ set := setNot (ofBytes [10]) }, p.go 1) := by unfold oneP; dsimp only; rw [if_neg (by omega), if_neg (by omega), if_neg (by omega), if_neg (by omega), if_neg (by omega), if_pos (by omega)]
              refine EW.seq ?_
              refine EW.reg ?_
              refine EP.new2 rfl (News.buildL sl44 Tryz.underlying44 zr5 rfl rfl rfl (by rfl)) ?_
              intro b11 w11 hb11 hs11 hx11 hB11
              have hz11 := hx11.size
              replace hC := hC.step0 hx11
              replace hR := hR.chg0 hx11
              replace hL := hL.chg0 hx11
              replace hB1 := hB1.chg0 hx11
              refine EP.call2 rfl (Enters.fn fb139 rfl) (of1_c _ _ _ _ _ (by assumption) (by omega) (by omega)) ?_
              rintro _ w12 ⟨rfl, hx12⟩
              have hz12 := hx12.size
              replace hC := hC.step0 hx12
              replace hR := hR.chg0 hx12
              replace hL := hL.chg0 hx12
              replace hB1 := hB1.chg0 hx12
              replace hB11 := hB11.chg0 hx12
              refine EP.call2 rfl (Enters.fn fb178 rfl) (not_c (ofBytes [Int.toNat 10]) (one_ok (c := 10) (by decide)) _) ?_
              rintro _ w13 ⟨rfl, hx13⟩
              have hz13 := hx13.size
              replace hC := hC.step0 hx13
              replace hR := hR.chg0 hx13
              replace hL := hL.chg0 hx13
              replace hB1 := hB1.chg0 hx13
              replace hB11 := hB11.chg0 hx13
              refine EP.o rfl (Does.buildSL zr205 pl205 rfl (by rfl)) ?_
              refine EP.put2 (Puts.blk sz205 rfl rfl (by assumption) rfl rfl rfl rfl (by simp only [List.take, List.drop, List.append, List.cons_append, List.nil_append]; rfl)) ?_
              intro w14 hs14 hx14 hB14
              have hz14 := hx14.size
              replace hC := hC.step hx14 (by first | (simp; done) | (simp; omega))
              replace hR := hR.chg hx14 (by simp; omega)
              replace hL := hL.chg hx14 (by simp; omega)
              replace hB11 := hB11.chg hx14 (by simp; omega)
              clear hB1; have hB1 := hB14; clear hB14
              refine EP.nil ?_
              refine EW.ret ?_
              refine Fin.cell rfl rfl (Blk.loadV ag205 (by assumption) (by simp only [List.take, List.drop, List.append, List.cons_append, List.nil_append]; rfl) rfl) ?_
              exact ⟨by rw [hE] <;> rfl, hC, by rw [hE]; exact hR⟩
            · try simp at g6
              refine EW.cut (fun e9 wr => Sub [(0, .pointer (some ⟨b, 0, none⟩)), (2, .pointer (some ⟨b1, 0, none⟩)), (3, .int .i64 (p.i : Int)), (4, .int .u8 (peekC (strL s) p : Int)), (58, .bool (decide (peekC (strL s) p = 42 ∨ peekC (strL s) p = 43 ∨ peekC (strL s) p = 63 ∨ peekC (strL s) p = 123)))] e9 ∧ wr = w6 ∧ Chg [b] w wr) ?_ ?_
              · refine EW.reg ?_
                refine EP.o rfl (Does.move rfl) ?_
                refine EP.o rfl (Does.cmp rfl rfl rfl) ?_
                refine EP.o rfl (Does.move rfl) ?_
                refine EP.bsplit (d := 61) rfl (fun h1 => ?_) (fun h1 => ?_)
                · try simp at h1
                  refine EP.skp rfl rfl rfl rfl rfl (fun h => by cases h) ?_
                  refine EP.skp rfl rfl rfl rfl rfl (fun h => by cases h) ?_
                  refine EP.o rfl (Does.pickT rfl rfl) ?_
                  refine EP.o rfl (Does.move rfl) ?_
                  refine EP.skp rfl rfl rfl rfl rfl (fun h => by cases h) ?_
                  refine EP.skp rfl rfl rfl rfl rfl (fun h => by cases h) ?_
                  refine EP.o rfl (Does.pickT rfl rfl) ?_
                  refine EP.o rfl (Does.move rfl) ?_
                  refine EP.skp rfl rfl rfl rfl rfl (fun h => by cases h) ?_
                  refine EP.skp rfl rfl rfl rfl rfl (fun h => by cases h) ?_
                  refine EP.o rfl (Does.pickT rfl rfl) ?_
                  refine EP.o rfl (Does.assign rfl) ?_
                  refine EP.nil ?_
                  refine ⟨⟨rfl, rfl, rfl, rfl, (lk_bool rfl (by rw [decide_eq_true (by omega)])), trivial⟩, ?_⟩
                  exact ⟨rfl, hC⟩
                · try simp at h1
                  refine EP.ung rfl rfl rfl ?_
                  refine EP.o rfl (Does.move rfl) ?_
                  refine EP.ung rfl rfl rfl ?_
                  refine EP.o rfl (Does.cmp rfl rfl rfl) ?_
                  refine EP.o rfl (Does.pickF rfl rfl) ?_
                  refine EP.o rfl (Does.move rfl) ?_
                  refine EP.bsplit (d := 65) rfl (fun h2 => ?_) (fun h2 => ?_)
                  · try simp at h2
                    refine EP.skp rfl rfl rfl rfl rfl (fun h => by cases h) ?_
                    refine EP.skp rfl rfl rfl rfl rfl (fun h => by cases h) ?_
                    refine EP.o rfl (Does.pickT rfl rfl) ?_
                    refine EP.o rfl (Does.move rfl) ?_
                    refine EP.skp rfl rfl rfl rfl rfl (fun h => by cases h) ?_
                    refine EP.skp rfl rfl rfl rfl rfl (fun h => by cases h) ?_
                    refine EP.o rfl (Does.pickT rfl rfl) ?_
                    refine EP.o rfl (Does.assign rfl) ?_
                    refine EP.nil ?_
                    refine ⟨⟨rfl, rfl, rfl, rfl, (lk_bool rfl (by rw [decide_eq_true (by omega)])), trivial⟩, ?_⟩
                    exact ⟨rfl, hC⟩
                  · try simp at h2
                    refine EP.ung rfl rfl rfl ?_
                    refine EP.o rfl (Does.move rfl) ?_
                    refine EP.ung rfl rfl rfl ?_
                    refine EP.o rfl (Does.cmp rfl rfl rfl) ?_
                    refine EP.o rfl (Does.pickF rfl rfl) ?_
                    refine EP.o rfl (Does.move rfl) ?_
                    refine EP.bsplit (d := 69) rfl (fun h3 => ?_) (fun h3 => ?_)
                    · try simp at h3
                      refine EP.skp rfl rfl rfl rfl rfl (fun h => by cases h) ?_
                      refine EP.skp rfl rfl rfl rfl rfl (fun h => by cases h) ?_
                      refine EP.o rfl (Does.pickT rfl rfl) ?_
                      refine EP.o rfl (Does.assign rfl) ?_
                      refine EP.nil ?_
                      refine ⟨⟨rfl, rfl, rfl, rfl, (lk_bool rfl (by rw [decide_eq_true (by omega)])), trivial⟩, ?_⟩
                      exact ⟨rfl, hC⟩
                    · try simp at h3
                      refine EP.ung rfl rfl rfl ?_
                      refine EP.o rfl (Does.move rfl) ?_
                      refine EP.ung rfl rfl rfl ?_
                      refine EP.o rfl (Does.cmp rfl rfl rfl) ?_
                      refine EP.o rfl (Does.pickF rfl rfl) ?_
                      refine EP.o rfl (Does.assign rfl) ?_
                      refine EP.nil ?_
                      refine ⟨⟨rfl, rfl, rfl, rfl, (lk_bool rfl (by rw [Bool.eq_iff_iff, cmpB_eql, decide_eq_true_iff]; omega)), trivial⟩, ?_⟩
                      exact ⟨rfl, hC⟩
              rintro e9 w8 ⟨hs9, rfl, hC⟩
              refine EW.sub _ hs9 ?_
              clear hs9 e9
              try have hzw := hC.size
              try have hlR := hR.lt
              try have hz4 := hL.sz
              try have hlB1 := hB1.lt
              refine EW.cond rfl (fun g7 => ?_) (fun g7 => ?_)
              · try simp at g7
                have hE : oneP (strL s) p = countP (strL s) (p.go 1) (peekC (strL s) p) := by unfold oneP; dsimp only; rw [if_neg (by omega), if_neg (by omega), if_neg (by omega), if_neg (by omega), if_neg (by omega), if_neg (by omega), if_pos (by omega)]
                refine EW.seq ?_
                refine EW.reg ?_
                refine EP.o rfl (Does.move rfl) ?_
                refine EP.o rfl (Does.move rfl) ?_
                refine EP.call2 rfl (Enters.fn fb179 rfl) (countT_c s (p.go 1) sl b (peekC (strL s) p) _ hs (by omega) (by assumption)) ?_
                rintro _ w15 ⟨rfl, hx15, hR'⟩
                have hz15 := hx15.size
                replace hC := hC.step hx15 (by first | (simp; done) | (simp; omega))
                replace hL := hL.chg hx15 (by simp; omega)
                replace hB1 := hB1.chg hx15 (by simp; omega)
                clear hR
                have hR := hR'; clear hR'
                refine EP.put2 (Puts.blk sz205 rfl rfl (by assumption) rfl rfl rfl rfl (by simp only [List.take, List.drop, List.append, List.cons_append, List.nil_append]; rfl)) ?_
                intro w16 hs16 hx16 hB16
                have hz16 := hx16.size
                replace hC := hC.step hx16 (by first | (simp; done) | (simp; omega))
                replace hR := hR.chg hx16 (by simp; omega)
                replace hL := hL.chg hx16 (by simp; omega)
                clear hB1; have hB1 := hB16; clear hB16
                refine EP.nil ?_
                refine EW.ret ?_
                refine Fin.cell rfl rfl (Blk.loadV ag205 (by assumption) (by simp only [List.take, List.drop, List.append, List.cons_append, List.nil_append]; rfl) rfl) ?_
                exact ⟨by rw [hE] <;> rfl, hC, by rw [hE]; exact hR⟩
              · try simp at g7
                refine EW.cut (fun e9 wr => Sub [(0, .pointer (some ⟨b, 0, none⟩)), (2, .pointer (some ⟨b1, 0, none⟩)), (3, .int .i64 (p.i : Int)), (4, .int .u8 (peekC (strL s) p : Int)), (76, .bool (decide (peekC (strL s) p = 94 ∨ peekC (strL s) p = 36)))] e9 ∧ wr = w8 ∧ Chg [b] w wr) ?_ ?_
                · refine EW.reg ?_
                  refine EP.o rfl (Does.move rfl) ?_
                  refine EP.o rfl (Does.cmp rfl rfl rfl) ?_
                  refine EP.o rfl (Does.move rfl) ?_
                  refine EP.bsplit (d := 79) rfl (fun h4 => ?_) (fun h4 => ?_)
                  · try simp at h4
                    refine EP.skp rfl rfl rfl rfl rfl (fun h => by cases h) ?_
                    refine EP.skp rfl rfl rfl rfl rfl (fun h => by cases h) ?_
                    refine EP.o rfl (Does.pickT rfl rfl) ?_
                    refine EP.o rfl (Does.assign rfl) ?_
                    refine EP.nil ?_
                    refine ⟨⟨rfl, rfl, rfl, rfl, (lk_bool rfl (by rw [decide_eq_true (by omega)])), trivial⟩, ?_⟩
                    exact ⟨rfl, hC⟩
                  · try simp at h4
                    refine EP.ung rfl rfl rfl ?_
                    refine EP.o rfl (Does.move rfl) ?_
                    refine EP.ung rfl rfl rfl ?_
                    refine EP.o rfl (Does.cmp rfl rfl rfl) ?_
                    refine EP.o rfl (Does.pickF rfl rfl) ?_
                    refine EP.o rfl (Does.assign rfl) ?_
                    refine EP.nil ?_
                    refine ⟨⟨rfl, rfl, rfl, rfl, (lk_bool rfl (by rw [Bool.eq_iff_iff, cmpB_eql, decide_eq_true_iff]; omega)), trivial⟩, ?_⟩
                    exact ⟨rfl, hC⟩
                rintro e9 w9 ⟨hs9, rfl, hC⟩
                refine EW.sub _ hs9 ?_
                clear hs9 e9
                try have hzw := hC.size
                try have hlR := hR.lt
                try have hz4 := hL.sz
                try have hlB1 := hB1.lt
                refine EW.cond rfl (fun g8 => ?_) (fun g8 => ?_)
                · try simp at g8
                  have hE : oneP (strL s) p = ({ set := ofBytes [peekC (strL s) p] }, (p.go 1).fail p.i 6) := by unfold oneP; dsimp only; rw [if_neg (by omega), if_neg (by omega), if_neg (by omega), if_neg (by omega), if_neg (by omega), if_neg (by omega), if_neg (by omega), if_pos (by omega)]
                  refine EW.reg ?_
                  refine EP.o rfl (Does.move rfl) ?_
                  refine EP.o rfl (Does.nilCheck rfl) ?_
                  refine EP.o rfl (Does.fieldAddr fl239_0 rfl) ?_
                  refine EP.o rfl (Does.move rfl) ?_
                  refine EP.call2 rfl (Enters.fn fb180 rfl) (fail_c s (p.go 1) sl b p.i 6 _ (by assumption)) ?_
                  rintro _ w17 ⟨rfl, hx17, hR'⟩
                  have hz17 := hx17.size
                  replace hC := hC.step hx17 (by first | (simp; done) | (simp; omega))
                  replace hL := hL.chg hx17 (by simp; omega)
                  replace hB1 := hB1.chg hx17 (by simp; omega)
                  clear hR
                  have hR := hR'; clear hR'
                  refine EP.nil ?_
                  refine EW.seq ?_
                  refine EW.reg ?_
                  refine EP.o rfl (Does.move rfl) ?_
                  refine EP.new2 rfl (News.buildL sl44 Tryz.underlying44 zr5 rfl rfl rfl (by rfl)) ?_
                  intro b18 w18 hb18 hs18 hx18 hB18
                  have hz18 := hx18.size
                  replace hC := hC.step0 hx18
                  replace hR := hR.chg0 hx18
                  replace hL := hL.chg0 hx18
                  replace hB1 := hB1.chg0 hx18
                  refine EP.call2 rfl (Enters.fn fb139 rfl) (of1_c _ _ _ _ _ (by assumption) (by omega) (by omega)) ?_
                  rintro _ w19 ⟨rfl, hx19⟩
                  have hz19 := hx19.size
                  replace hC := hC.step0 hx19
                  replace hR := hR.chg0 hx19
                  replace hL := hL.chg0 hx19
                  replace hB1 := hB1.chg0 hx19
                  replace hB18 := hB18.chg0 hx19
                  refine EP.o rfl (Does.buildSL zr205 pl205 rfl (by rfl)) ?_
                  refine EP.put2 (Puts.blk sz205 rfl rfl (by assumption) rfl rfl rfl rfl (by simp only [List.take, List.drop, List.append, List.cons_append, List.nil_append]; rfl)) ?_
                  intro w20 hs20 hx20 hB20
                  have hz20 := hx20.size
                  replace hC := hC.step hx20 (by first | (simp; done) | (simp; omega))
                  replace hR := hR.chg hx20 (by simp; omega)
                  replace hL := hL.chg hx20 (by simp; omega)
                  replace hB18 := hB18.chg hx20 (by simp; omega)
                  clear hB1; have hB1 := hB20; clear hB20
                  refine EP.nil ?_
                  refine EW.ret ?_
                  refine Fin.cell rfl rfl (Blk.loadV ag205 (by assumption) (by simp only [List.take, List.drop, List.append, List.cons_append, List.nil_append]; rfl) rfl) ?_
                  exact ⟨by rw [hE] <;> rfl, hC, by rw [hE]; exact hR⟩
                · try simp at g8
                  refine EW.seq ?_
                  refine EW.reg ?_
                  refine EP.o rfl (Does.move rfl) ?_
                  refine EP.call2 rfl (Enters.fn fb181 rfl) (ixb_c _ loneT _ (by rfl) hlt _) ?_
                  rintro _ _ ⟨rfl, rfl⟩
                  refine EP.o rfl (Does.cmp rfl rfl rfl) ?_
                  refine EP.o rfl (Does.assign rfl) ?_
                  refine EP.nil ?_
                  refine EW.cond rfl (fun g9 => ?_) (fun g9 => ?_)
                  · try simp at g9
                    have hE : oneP (strL s) p = ({ set := ofBytes [peekC (strL s) p] }, (p.go 1).fail p.i 4) := by unfold oneP; dsimp only; rw [if_neg (by omega), if_neg (by omega), if_neg (by omega), if_neg (by omega), if_neg (by omega), if_neg (by omega), if_neg (by omega), if_neg (by omega), if_pos g9]
                    refine EW.reg ?_
                    refine EP.o rfl (Does.move rfl) ?_
                    refine EP.o rfl (Does.nilCheck rfl) ?_
                    refine EP.o rfl (Does.fieldAddr fl239_0 rfl) ?_
                    refine EP.o rfl (Does.move rfl) ?_
                    refine EP.call2 rfl (Enters.fn fb180 rfl) (fail_c s (p.go 1) sl b p.i 4 _ (by assumption)) ?_
                    rintro _ w22 ⟨rfl, hx22, hR'⟩
                    have hz22 := hx22.size
                    replace hC := hC.step hx22 (by first | (simp; done) | (simp; omega))
                    replace hL := hL.chg hx22 (by simp; omega)
                    replace hB1 := hB1.chg hx22 (by simp; omega)
                    clear hR
                    have hR := hR'; clear hR'
                    refine EP.nil ?_
                    refine EW.seq ?_
                    refine EW.reg ?_
                    refine EP.o rfl (Does.move rfl) ?_
                    refine EP.new2 rfl (News.buildL sl44 Tryz.underlying44 zr5 rfl rfl rfl (by rfl)) ?_
                    intro b23 w23 hb23 hs23 hx23 hB23
                    have hz23 := hx23.size
                    replace hC := hC.step0 hx23
                    replace hR := hR.chg0 hx23
                    replace hL := hL.chg0 hx23
                    replace hB1 := hB1.chg0 hx23
                    refine EP.call2 rfl (Enters.fn fb139 rfl) (of1_c _ _ _ _ _ (by assumption) (by omega) (by omega)) ?_
                    rintro _ w24 ⟨rfl, hx24⟩
                    have hz24 := hx24.size
                    replace hC := hC.step0 hx24
                    replace hR := hR.chg0 hx24
                    replace hL := hL.chg0 hx24
                    replace hB1 := hB1.chg0 hx24
                    replace hB23 := hB23.chg0 hx24
                    refine EP.o rfl (Does.buildSL zr205 pl205 rfl (by rfl)) ?_
                    refine EP.put2 (Puts.blk sz205 rfl rfl (by assumption) rfl rfl rfl rfl (by simp only [List.take, List.drop, List.append, List.cons_append, List.nil_append]; rfl)) ?_
                    intro w25 hs25 hx25 hB25
                    have hz25 := hx25.size
                    replace hC := hC.step hx25 (by first | (simp; done) | (simp; omega))
                    replace hR := hR.chg hx25 (by simp; omega)
                    replace hL := hL.chg hx25 (by simp; omega)
                    replace hB23 := hB23.chg hx25 (by simp; omega)
                    clear hB1; have hB1 := hB25; clear hB25
                    refine EP.nil ?_
                    refine EW.ret ?_
                    refine Fin.cell rfl rfl (Blk.loadV ag205 (by assumption) (by simp only [List.take, List.drop, List.append, List.cons_append, List.nil_append]; rfl) rfl) ?_
                    exact ⟨by rw [hE] <;> rfl, hC, by rw [hE]; exact hR⟩
                  · try simp at g9
                    have hE : oneP (strL s) p = ({ set := ofBytes [peekC (strL s) p] }, p.go 1) := by unfold oneP; dsimp only; rw [if_neg (by omega), if_neg (by omega), if_neg (by omega), if_neg (by omega), if_neg (by omega), if_neg (by omega), if_neg (by omega), if_neg (by omega), if_neg (by omega)]
                    refine EW.skip ?_
                    refine EW.seq ?_
                    refine EW.reg ?_
                    refine EP.o rfl (Does.move rfl) ?_
                    refine EP.new2 rfl (News.buildL sl44 Tryz.underlying44 zr5 rfl rfl rfl (by rfl)) ?_
                    intro b26 w26 hb26 hs26 hx26 hB26
                    have hz26 := hx26.size
                    replace hC := hC.step0 hx26
                    replace hR := hR.chg0 hx26
                    replace hL := hL.chg0 hx26
                    replace hB1 := hB1.chg0 hx26
                    refine EP.call2 rfl (Enters.fn fb139 rfl) (of1_c _ _ _ _ _ (by assumption) (by omega) (by omega)) ?_
                    rintro _ w27 ⟨rfl, hx27⟩
                    have hz27 := hx27.size
                    replace hC := hC.step0 hx27
                    replace hR := hR.chg0 hx27
                    replace hL := hL.chg0 hx27
                    replace hB1 := hB1.chg0 hx27
                    replace hB26 := hB26.chg0 hx27
                    refine EP.o rfl (Does.buildSL zr205 pl205 rfl (by rfl)) ?_
                    refine EP.put2 (Puts.blk sz205 rfl rfl (by assumption) rfl rfl rfl rfl (by simp only [List.take, List.drop, List.append, List.cons_append, List.nil_append]; rfl)) ?_
                    intro w28 hs28 hx28 hB28
                    have hz28 := hx28.size
                    replace hC := hC.step hx28 (by first | (simp; done) | (simp; omega))
                    replace hR := hR.chg hx28 (by simp; omega)
                    replace hL := hL.chg hx28 (by simp; omega)
                    replace hB26 := hB26.chg hx28 (by simp; omega)
                    clear hB1; have hB1 := hB28; clear hB28
                    refine EP.nil ?_
                    refine EW.ret ?_
                    refine Fin.cell rfl rfl (Blk.loadV ag205 (by assumption) (by simp only [List.take, List.drop, List.append, List.cons_append, List.nil_append]; rfl) rfl) ?_
                    exact ⟨by rw [hE] <;> rfl, hC, by rw [hE]; exact hR⟩
end Go.Clt
end
section
set_option linter.unusedVariables false
set_option linter.unusedSimpArgs false
set_option maxRecDepth 4000
namespace Go.Clt
set_option maxHeartbeats 4000000
open Go Go.RowKit Go.Proofs
theorem EP.put1 {P : Program} {n : Nat} {ops : Array Oper} {S : World → Prop} {N : Env → World → Prop} {B : Nat → Env → World → Prop} {R : Env → World → Prop} {e : Env} {w : World} {rest : List (Nat × Oper)} {op : Op} {t : TypeId} {p : String} {af : Array Edge} {b : Nat} {cs : List Value} {τ : TypeId} (hy : Puts P n e ⟨none, op, t, p, af, none⟩ w b cs τ)
    (h : ∀ w', w'.heap.size = w.heap.size → Chg [b] w w' → Blk w' b cs τ → S w' ∧ EP P n ops S N B R rest e w') : EP P n ops S N B R ((1, ⟨none, op, t, p, af, none⟩) :: rest) e w := by
  obtain ⟨w', hr, h2, h3, h4⟩ := hy
  exact EP.s1 hr (h w' h3 h2 h4).1 (h w' h3 h2 h4).2
theorem Own.blk {w : World} {lo : Nat} {el : TypeId} {sz n c : Nat} {A : Option Addr} {cs : List Value} (h : Own w lo el sz A n c cs) : ∀ x ∈ blkOf A, lo ≤ x ∧ x < w.heap.size := by
  intro x hx
  rcases h.form with ⟨rfl, _⟩ | ⟨g, cur, rfl, hg, hb, _⟩
  · cases hx
  · simp [blkOf] at hx; subst hx; exact ⟨hg, hb.lt⟩
def toksC (l : List Tok) : List Value := l.flatMap Tok.cells
theorem toksC_append (l : List Tok) (t : Tok) : toksC (l ++ [t]) = toksC l ++ t.cells := by simp [toksC]
theorem tok_len (t : Tok) : t.cells.length = 10 := by simp [Tok.cells, setCells]
def Tok.at (t : Tok) (a b : Int) : Tok := { t with src := a, to := b }
theorem tok_at (t : Tok) (a b : Int) : (t.at a b).cells = [.int .i64 t.kind, .int .i64 a, .int .i64 b, .int .u64 (wd t.set 0), .int .u64 (wd t.set 1), .int .u64 (wd t.set 2), .int .u64 (wd t.set 3), .int .i64 t.min, .int .i64 t.max, .bool t.lazy] := rfl
theorem scan_c (s : ByteArray) (w : World) (hL : Laid w) : Calls P 124 #[.string s] w (Ret fun v w' => ∃ A c, v = .tuple #[.slice A (scanP (strL s)).1.length c, .int .i64 ((scanP (strL s)).2.1 : Nat), .int .i64 (scanP (strL s)).2.2] ∧ Chg [] w w' ∧ Rd (fun x => w.heap.size ≤ x) w' 10 A (scanP (strL s)).1.length (toksC (scanP (strL s)).1)) := by
  have hC := Chg.refl [] w
  have hle : (strL s).length = s.size := strL_length s
  try have hz4 := hL.sz
  refine enter Tryz.func124 rfl rfl ?_
  refine EW.seq ?_
  refine EW.reg ?_
  refine EP.o rfl (Does.assign rfl) ?_
  refine EP.o rfl (Does.assign rfl) ?_
  refine EP.o rfl (Does.assign rfl) ?_
  refine EP.nil ?_
  refine EW.seq ?_
  refine EW.seq ?_
  refine EW.reg ?_
  refine EP.o rfl (Does.move rfl) ?_
  refine EP.o rfl (Does.lenS Tryz.underlying9 rfl) ?_
  refine EP.o rfl (Does.cmp rfl rfl rfl) ?_
  refine EP.nil ?_
  refine EW.cond rfl (fun g1 => ?_) (fun g1 => ?_)
  · try simp at g1
    refine EW.seq ?_
    refine EW.reg ?_
    refine EP.o rfl (Does.assign rfl) ?_
    refine EP.o rfl (Does.assign rfl) ?_
    refine EP.o rfl (Does.assign rfl) ?_
    refine EP.nil ?_
    refine EW.ret ?_
    refine Fin.three rfl rfl rfl rfl ?_
    have hE : scanP (strL s) = ([], 0, 3) := by unfold scanP; rw [if_pos (by omega)]
    rw [hE]
    exact ⟨none, 0, rfl, hC, Rd.nil _ _ _ _⟩
  · try simp at g1
    have hE : scanP (strL s) = scanL (strL s) ((strL s).length + 1) ⟨0, 0⟩ [] := by unfold scanP; rw [if_neg (by omega)]
    generalize scanP (strL s) = r at *
    refine EW.skip ?_
    refine EW.seq ?_
    refine EW.reg ?_
    refine EP.o rfl (Does.move rfl) ?_
    refine EP.o rfl (Does.buildSL zr237 pl237 rfl (by rfl)) ?_
    refine EP.o rfl (Does.buildSL zr239 pl239 rfl (by rfl)) ?_
    refine EP.new2 rfl (News.box rfl rfl) ?_
    intro b1 w1 hb1 hs1 hx1 hB1
    have hz1 := hx1.size
    replace hC := hC.step0 hx1
    replace hL := hL.chg0 hx1
    refine EP.o rfl (Does.assign rfl) ?_
    refine EP.nil ?_
    refine EW.seq ?_
    refine EW.block ?_
    refine EW.loop (σ := Nat × Ps × List Tok × Option Addr × Nat) (fun (f, q, l, A, c) => [(0, .string s), (5, .pointer (some ⟨b1, 0, none⟩))]) (fun (f, q, l, A, c) wr => Chg [] w wr ∧ Laid wr ∧ Blk wr b1 (rdC s q (.slice A l.length c)) 239 ∧ Own wr (b1 + 1) 205 10 A l.length c (toksC l) ∧ r = scanL (strL s) f q l ∧ q.i ≤ (strL s).length ∧ (strL s).length < q.i + f ∧ q.e = 0 ∧ l.length ≤ q.i) (fun (f, q, l, A, c) wr => f) ((strL s).length + 1, ⟨0, 0⟩, [], none, 0) ⟨rfl, rfl, trivial⟩ ?_ ?_
    · exact ⟨hC, hL, hB1, Own.nil _ _ _ _, hE, Nat.zero_le _, by show _ < 0 + _; omega, rfl, Nat.le_refl _⟩
    rintro ⟨f, q, l, A, c⟩ w9 ⟨hC, hL, hB1, hO, hr, hqi, hfu, hqe, hlq⟩
    have hOb := hO.blk
    try have hzw := hC.size
    try have hz4 := hL.sz
    try have hlB1 := hB1.lt
    refine EW.seq ?_
    refine EW.seq ?_
    refine EW.reg ?_
    refine EP.o rfl (Does.move rfl) ?_
    refine EP.o rfl (Does.nilCheck rfl) ?_
    refine EP.o rfl (Does.fieldAddr fl239_0 rfl) ?_
    refine EP.o rfl (Does.fieldAddr fl237_1 rfl) ?_
    refine EP.o rfl (Does.loadB o3 rfl (Keeps.now _) (by assumption) (by rfl)) ?_
    refine EP.o rfl (Does.move rfl) ?_
    refine EP.o rfl (Does.lenS Tryz.underlying9 rfl) ?_
    refine EP.o rfl (Does.cmp rfl rfl rfl) ?_
    refine EP.nil ?_
    refine EW.cond rfl (fun g2 => ?_) (fun g2 => ?_)
    · try simp at g2
      obtain ⟨f, rfl⟩ : ∃ g, f = g + 1 := ⟨f - 1, by omega⟩
      have hcl : scanL (strL s) (f + 1) q l = if (oneP (strL s) q).2.e ≠ 0 then ([], (oneP (strL s) q).2.i, (oneP (strL s) q).2.e) else scanL (strL s) f (oneP (strL s) q).2 (l ++ [(oneP (strL s) q).1.at q.i (oneP (strL s) q).2.i]) := by
        show (if q.i < (strL s).length then _ else _) = _
        rw [if_pos (by omega)]
        rfl
      have hf := oneP_fine (L := strL s) (p := q) (by omega)
      refine EW.skip ?_
      refine EW.block ?_
      refine EW.seq ?_
      refine EW.reg ?_
      refine EP.o rfl (Does.move rfl) ?_
      refine EP.o rfl (Does.nilCheck rfl) ?_
      refine EP.o rfl (Does.fieldAddr fl239_0 rfl) ?_
      refine EP.o rfl (Does.fieldAddr fl237_1 rfl) ?_
      refine EP.o rfl (Does.loadB o3 rfl (Keeps.now _) (by assumption) (by rfl)) ?_
      refine EP.o rfl (Does.assign rfl) ?_
      refine EP.nil ?_
      refine EW.seq ?_
      refine EW.reg ?_
      refine EP.o rfl (Does.move rfl) ?_
      refine EP.call2 rfl (Enters.fn fb147 rfl) (one_c s q _ b1 _ (by omega) (by omega) (by omega) (by assumption) (by assumption)) ?_
      rintro _ w2 ⟨rfl, hx2, hB1'⟩
      have hz2 := hx2.size
      replace hC := hC.step hx2 (by simp; omega)
      replace hL := hL.chg hx2 (by simp; omega)
      replace hO := hO.chg hx2 (by intro x hx; simp at hx; left; omega)
      clear hB1
      have hB1 := hB1'; clear hB1'
      refine EP.new2 rfl (News.alloc zr205 rfl) ?_
      intro b3 w3 hb3 hs3 hx3 hB3
      have hz3 := hx3.size
      replace hC := hC.step0 hx3
      replace hL := hL.chg0 hx3
      replace hB1 := hB1.chg0 hx3
      replace hO := hO.chg0 hx3
      refine EP.put2 (Puts.blk sz205 rfl rfl (by assumption) rfl rfl rfl rfl (by simp only [List.take, List.drop, List.append, List.cons_append, List.nil_append]; rfl)) ?_
      intro w4 hs4 hx4 hB4
      have hz4 := hx4.size
      replace hC := hC.step hx4 (by first | (simp; done) | (simp; omega))
      replace hL := hL.chg hx4 (by simp; omega)
      replace hB1 := hB1.chg hx4 (by simp; omega)
      replace hO := hO.chg hx4 (by intro x hx; have hx := List.mem_singleton.1 hx; right; intro h; have := hOb x (by rw [h]; exact List.mem_singleton.2 rfl); omega)
      clear hB3; have hB3 := hB4; clear hB4
      refine EP.nil ?_
      refine EW.seq ?_
      refine EW.seq ?_
      refine EW.reg ?_
      refine EP.o rfl (Does.move rfl) ?_
      refine EP.o rfl (Does.nilCheck rfl) ?_
      refine EP.o rfl (Does.fieldAddr fl239_0 rfl) ?_
      refine EP.call2 rfl (Enters.fn fb148 rfl) (bad_c s _ _ b1 _ (by assumption)) ?_
      rintro _ _ ⟨rfl, rfl⟩
      refine EP.nil ?_
      refine EW.cond rfl (fun g3 => ?_) (fun g3 => ?_)
      · try simp at g3
        refine EW.seq ?_
        refine EW.drw' (S := []) 12 [(0, 0), (0, 1), (0, 2), (0, 3), (0, 4), (0, 5), (0, 6), (0, 7), (0, 8), (0, 9), (0, 10), (0, 11), (2, 12)] mo (by kernel_rfl) ?_
        intro w6 hx6 hh6
        have hz6 := hx6.size
        replace hC := hC.step0 hx6
        replace hL := hL.chg0 hx6
        replace hB1 := hB1.chg0 hx6
        replace hO := hO.chg0 hx6
        replace hB3 := hB3.chg0 hx6
        refine EP.f rfl (Does.move rfl) ?_
        refine EP.f rfl (Does.nilCheck rfl) ?_
        refine EP.f rfl (Does.fieldAddr fl239_0 rfl) ?_
        refine EP.f rfl (Does.fieldAddr fl237_1 rfl) ?_
        refine EP.f rfl (Does.loadBc o3 rfl (by assumption) (by simp; done) (by rfl)) ?_
        refine EP.f rfl (Does.move rfl) ?_
        refine EP.f rfl (Does.nilCheck rfl) ?_
        refine EP.f rfl (Does.fieldAddr fl239_0 rfl) ?_
        refine EP.f rfl (Does.fieldAddr fl237_2 rfl) ?_
        refine EP.f rfl (Does.loadBc o32 rfl (by assumption) (by simp; done) (by rfl)) ?_
        refine EP.f rfl (Does.assign rfl) ?_
        refine EP.f rfl (Does.assign rfl) ?_
        refine EP.o rfl (Does.assign rfl) ?_
        refine EP.nil ?_
        refine EW.ret ?_
        refine Fin.three rfl rfl rfl rfl ?_
        rw [hr, hcl, if_pos g3]
        exact ⟨none, 0, rfl, hC, Rd.nil _ _ _ _⟩
      · try simp at g3
        refine EW.skip ?_
        refine EW.seq ?_
        refine EW.drw' (S := [b3]) 8 [(0, 0), (0, 1), (0, 2), (0, 3), (0, 4), (0, 5), (0, 6), (1, 7), (2, 8), (2, 9)] mo (by kernel_rfl) ?_
        intro w7 hx7 hh7
        have hz7 := hx7.size
        replace hC := hC.step0 hx7
        replace hL := hL.chg0 hx7
        replace hB1 := hB1.chg0 hx7
        replace hO := hO.chg0 hx7
        replace hB3 := hB3.chg0 hx7
        have hCS7 := Chg.refl ([b3]) w7
        have hbn : 10 * 8 * (l.length + 1) ≤ 140737488355328 := by omega
        refine EP.f rfl (Does.move rfl) ?_
        refine EP.f rfl (Does.move rfl) ?_
        refine EP.f rfl (Does.nilCheck rfl) ?_
        refine EP.f rfl (Does.fieldAddr fl239_0 rfl) ?_
        refine EP.f rfl (Does.fieldAddr fl237_1 rfl) ?_
        refine EP.f rfl (Does.loadBc o3 rfl (by assumption) (by simp; omega) (by rfl)) ?_
        refine EP.f rfl (Does.fieldAddr fl205_1 rfl) ?_
        refine EP.put1 (Puts.blk sz3 rfl rfl (by assumption) rfl rfl rfl rfl (by rfl)) ?_
        intro w8 hs8 hx8 hB8
        have hz8 := hx8.size
        replace hC := hC.step hx8 (by first | (simp; done) | (simp; omega))
        replace hL := hL.chg hx8 (by simp; omega)
        replace hB1 := hB1.chg hx8 (by simp; omega)
        replace hO := hO.chg hx8 (by intro x hx; have hx := List.mem_singleton.1 hx; right; intro h; have := hOb x (by rw [h]; exact List.mem_singleton.2 rfl); omega)
        replace hCS7 := hCS7.step hx8 (by first | (simp; done) | (simp; omega))
        clear hB3; have hB3 := hB8; clear hB8
        refine ⟨hCS7, ?_⟩
        refine EP.o rfl (Does.fieldAddr fl205_2 rfl) ?_
        refine EP.put2 (Puts.blk sz3 rfl rfl (by assumption) rfl rfl rfl rfl (by rfl)) ?_
        intro w9 hs9 hx9 hB9
        have hz9 := hx9.size
        replace hC := hC.step hx9 (by first | (simp; done) | (simp; omega))
        replace hL := hL.chg hx9 (by simp; omega)
        replace hB1 := hB1.chg hx9 (by simp; omega)
        replace hO := hO.chg hx9 (by intro x hx; have hx := List.mem_singleton.1 hx; right; intro h; have := hOb x (by rw [h]; exact List.mem_singleton.2 rfl); omega)
        clear hB3; have hB3 := hB9; clear hB9
        refine EP.nil ?_
        refine EW.drw' (S := blkOf A) 8 [(0, 0), (0, 1), (0, 2), (0, 3), (0, 4), (0, 5), (1, 6), (1, 7), (2, 8), (2, 9), (2, 10)] mo (by kernel_rfl) ?_
        intro w10 hx10 hh10
        have hz10 := hx10.size
        replace hC := hC.step0 hx10
        replace hL := hL.chg0 hx10
        replace hB1 := hB1.chg0 hx10
        replace hO := hO.chg0 hx10
        replace hB3 := hB3.chg0 hx10
        have hCS10 := Chg.refl (blkOf A) w10
        refine EP.f rfl (Does.move rfl) ?_
        refine EP.f rfl (Does.move rfl) ?_
        refine EP.f rfl (Does.nilCheck rfl) ?_
        refine EP.f rfl (Does.fieldAddr fl239_1 rfl) ?_
        refine EP.f rfl (Does.loadBc o195 rfl (by assumption) (by intro h; have := hOb _ h; omega) (by rfl)) ?_
        refine EP.f rfl (Does.loadAc ag205 rfl (by assumption) (by intro h; have := hOb _ h; omega) (by simp only [List.take, List.drop, List.append, List.cons_append, List.nil_append]; rfl) rfl) ?_
        refine EP.new1 rfl (News.buildL sl195 Tryz.underlying195 zr205 rfl rfl rfl (by rfl)) ?_
        intro b11 w11 hb11 hs11 hx11 hB11
        have hz11 := hx11.size
        replace hC := hC.step0 hx11
        replace hL := hL.chg0 hx11
        replace hB1 := hB1.chg0 hx11
        replace hO := hO.chg0 hx11
        replace hB3 := hB3.chg0 hx11
        replace hCS10 := hCS10.step0 hx11
        refine ⟨hCS10, ?_⟩
        refine EP.append1 rfl el195 rfl rfl hO (Blk.rd (F := fun _ => True) (by assumption) rfl trivial) (by rfl) (by omega) (by omega) ?_
        intro A' c' w12 hO12 hx12 hA'
        have hz12 := hx12.size
        replace hC := hC.step hx12 (by intro x h; have := hOb x h; exact .inr (by omega))
        replace hL := hL.chg hx12 (by intro x h; have := hOb x h; first | omega | exact .inr (by omega))
        replace hB1 := hB1.chg hx12 (by intro h; have := hOb _ h; omega)
        replace hB3 := hB3.chg hx12 (by intro h; have := hOb _ h; omega)
        replace hCS10 := hCS10.step hx12 (by exact fun x h => .inl h)
        replace hB11 := hB11.chg hx12 (by intro h; have := hOb _ h; omega)
        clear hO; have hO := hO12; clear hO12
        refine ⟨hCS10, ?_⟩
        refine EP.o rfl (Does.nilCheck rfl) ?_
        refine EP.o rfl (Does.fieldAddr fl239_1 rfl) ?_
        refine EP.put2 (Puts.blk sz195 rfl rfl (by assumption) rfl rfl rfl rfl (by simp only [List.take, List.drop, List.append, List.cons_append, List.nil_append]; rfl)) ?_
        intro w13 hs13 hx13 hB13
        have hz13 := hx13.size
        replace hC := hC.step hx13 (by first | (simp; done) | (simp; omega))
        replace hL := hL.chg hx13 (by simp; omega)
        replace hO := hO.chg hx13 (by intro x hx; simp at hx; left; omega)
        replace hB3 := hB3.chg hx13 (by simp; omega)
        replace hB11 := hB11.chg hx13 (by simp; omega)
        clear hB1; have hB1 := hB13; clear hB13
        refine EP.nil ?_
        refine ⟨(f, (oneP (strL s) q).2, l ++ [(oneP (strL s) q).1.at q.i (oneP (strL s) q).2.i], A', c'), ⟨rfl, rfl, trivial⟩, ?_, ?_⟩
        have hll : (l ++ [(oneP (strL s) q).1.at q.i (oneP (strL s) q).2.i]).length = l.length + 1 := by simp
        have ha := hf.adv (by simpa using g3)
        refine ⟨hC, hL, by rw [hll]; exact hB1, by rw [hll, toksC_append, tok_at]; exact hO, by rw [hr, hcl, if_neg (by simpa using g3)], hf.le, by omega, by simpa using g3, by omega⟩
        exact Nat.lt_succ_self f
    · try simp at g2
      have hcl : r = (l, l.length, 0) := by
        rw [hr]
        cases f with
        | zero => rfl
        | succ f => unfold scanL; rw [if_neg (by omega)]
      refine EW.exit (brk_here ?_)
      refine EW.seq ?_
      refine EW.drw' (S := []) 10 [(0, 0), (0, 1), (0, 2), (0, 3), (0, 4), (0, 5), (0, 6), (0, 7), (0, 8), (0, 9), (2, 10), (2, 11)] mo (by kernel_rfl) ?_
      intro w14 hx14 hh14
      have hz14 := hx14.size
      replace hC := hC.step0 hx14
      replace hL := hL.chg0 hx14
      replace hB1 := hB1.chg0 hx14
      replace hO := hO.chg0 hx14
      refine EP.f rfl (Does.move rfl) ?_
      refine EP.f rfl (Does.nilCheck rfl) ?_
      refine EP.f rfl (Does.fieldAddr fl239_1 rfl) ?_
      refine EP.f rfl (Does.loadBc o195 rfl (by assumption) (by simp; done) (by rfl)) ?_
      refine EP.f rfl (Does.move rfl) ?_
      refine EP.f rfl (Does.nilCheck rfl) ?_
      refine EP.f rfl (Does.fieldAddr fl239_1 rfl) ?_
      refine EP.f rfl (Does.loadBc o195 rfl (by assumption) (by simp; done) (by rfl)) ?_
      refine EP.f rfl (Does.lenL Tryz.underlying195 rfl) ?_
      refine EP.f rfl (Does.assign rfl) ?_
      refine EP.o rfl (Does.assign rfl) ?_
      refine EP.o rfl (Does.assign rfl) ?_
      refine EP.nil ?_
      refine EW.ret ?_
      refine Fin.three rfl rfl rfl rfl ?_
      rw [hcl]
      exact ⟨A, c, rfl, hC, hO.rd (fun x h1 _ => by omega)⟩
end Go.Clt
end
section
set_option linter.unusedVariables false
set_option linter.unusedSimpArgs false
namespace Go.Clt
open Go Go.RowKit Go.Proofs
inductive Syn where
  | node (kind : Int) (set : Nat) (mn mx : Int) (lz : Bool) (l : List Syn) (a b : Int)
def Syn.kind : Syn → Int | .node k _ _ _ _ _ _ _ => k
def Syn.set : Syn → Nat | .node _ s _ _ _ _ _ _ => s
def Syn.mn : Syn → Int | .node _ _ m _ _ _ _ _ => m
def Syn.mx : Syn → Int | .node _ _ _ m _ _ _ _ => m
def Syn.lz : Syn → Bool | .node _ _ _ _ z _ _ _ => z
def Syn.l : Syn → List Syn | .node _ _ _ _ _ l _ _ => l
def Syn.a : Syn → Int | .node _ _ _ _ _ _ a _ => a
def Syn.b : Syn → Int | .node _ _ _ _ _ _ _ b => b
instance : Inhabited Syn := ⟨.node 0 0 0 0 false [] 0 0⟩
structure Pp where
  next : Nat
  deep : Nat
  pl : Int
  e : Int
def Pp.fail (p : Pp) (a e : Int) : Pp := if p.e = 0 then { p with pl := a, e := e } else p
def Pp.adv (p : Pp) : Pp := { p with next := p.next + 1 }
def pkQ (T : List Tok) (en : Nat) (p : Pp) : Tok := if p.next < T.length then T.getD p.next {} else { src := en, to := en }
def okQ (T : List Tok) (p : Pp) : Bool := decide (p.next < T.length)
def isQ (T : List Tok) (en : Nat) (p : Pp) (k : Int) : Bool := okQ T p && decide ((pkQ T en p).kind = k)
def lastQ (T : List Tok) (p : Pp) : Int := (T.getD (p.next - 1) {}).to
def manyQ (k : Int) (l : List Syn) : Syn := match l with
  | [x] => x
  | l => .node k 0 0 0 false l (l.getD 0 default).a (l.getD (l.length - 1) default).b
def catEnd (p : Pp) (a : Int) (l : List Syn) : Syn := if p.e ≠ 0 ∨ l.length = 0 then .node 0 0 0 0 false [] a a else manyQ 4 l
def goesQ (T : List Tok) (en : Nat) (p : Pp) : Bool := decide (p.e = 0) && okQ T p && !decide ((pkQ T en p).kind = 4) && !decide ((pkQ T en p).kind = 3)
mutual
def altQ (T : List Tok) (en : Nat) : Nat → Pp → Syn × Pp
  | 0, p => (default, p)
  | f + 1, p => altL T en f (catQ T en f p).2 [(catQ T en f p).1]
def altL (T : List Tok) (en : Nat) : Nat → Pp → List Syn → Syn × Pp
  | 0, p, l => (manyQ 5 l, p)
  | f + 1, p, l => if p.e = 0 ∧ isQ T en p 4 then altL T en f (catQ T en f p.adv).2 (l ++ [(catQ T en f p.adv).1]) else (manyQ 5 l, p)
def catQ (T : List Tok) (en : Nat) : Nat → Pp → Syn × Pp
  | 0, p => (default, p)
  | f + 1, p => catL T en f p (pkQ T en p).src []
def catL (T : List Tok) (en : Nat) : Nat → Pp → Int → List Syn → Syn × Pp
  | 0, p, a, l => (catEnd p a l, p)
  | f + 1, p, a, l => if goesQ T en p then catL T en f (itemQ T en f p (pkQ T en p)).2 a (l ++ [(itemQ T en f p (pkQ T en p)).1]) else (catEnd p a l, p)
def itemQ (T : List Tok) (en : Nat) : Nat → Pp → Tok → Syn × Pp
  | 0, p, x => (default, p)
  | f + 1, p, x =>
    let m : Syn × Pp := if x.kind = 0 then (.node 1 x.set 0 0 false [] x.src x.to, p.adv) else if x.kind = 1 ∨ x.kind = 2 then groupQ T en f p x else (default, p.fail x.src 4)
    if m.2.e ≠ 0 ∨ isQ T en m.2 5 = false then m else (.node 6 0 (pkQ T en m.2).min (pkQ T en m.2).max (pkQ T en m.2).lazy [m.1] x.src (pkQ T en m.2).to, m.2.adv)
def groupQ (T : List Tok) (en : Nat) : Nat → Pp → Tok → Syn × Pp
  | 0, p, x => (default, p)
  | f + 1, p, x =>
    if 200 ≤ p.deep then (default, p.fail x.src 3)
    else
      let c := altQ T en f { p with deep := p.deep + 1, next := p.next + 1 }
      let q : Pp := { c.2 with deep := c.2.deep - 1 }
      if q.e ≠ 0 then (default, q)
      else if isQ T en q 3 = false then (default, q.fail en 4)
      else (.node (if x.kind = 2 then 3 else 2) 0 0 0 false [c.1] x.src (lastQ T q.adv), q.adv)
end
def left (T : List Tok) (p : Pp) : Nat := T.length - p.next
def parseT (T : List Tok) (en : Nat) : Syn × Int × Int :=
  let r := altQ T en (5 * T.length + 5) ⟨0, 0, 0, 0⟩
  let q := if okQ T r.2 then r.2.fail (pkQ T en r.2).src 4 else r.2
  if q.e ≠ 0 then (default, q.pl, q.e) else (r.1, 0, 0)
def parseP (L : List Nat) : Syn × Int × Int :=
  let t := scanP L
  if t.2.2 ≠ 0 then (default, t.2.1, t.2.2) else parseT t.1 L.length
def FR (lo hi : Nat) (T : List Nat) (x : Nat) : Prop := lo ≤ x ∧ x < hi ∧ x ∉ T
def nodeC (k : Int) (s : Nat) (mn mx : Int) (lz : Bool) (sl : Value) (a b : Int) : List Value :=
  [.int .i64 k] ++ setCells s ++ [.int .i64 mn, .int .i64 mx, .bool lz, sl, .int .i64 a, .int .i64 b]
mutual
def IsSyn (F : Nat → Prop) (w : World) : Syn → Value → Prop
  | .node k s mn mx lz l a b, v => ∃ p A c vs, v = .pointer (some ⟨p, 0, none⟩) ∧ F p ∧ Blk w p (nodeC k s mn mx lz (.slice A l.length c) a b) 254 ∧ Rd F w 1 A l.length vs ∧ IsSyns F w l vs
def IsSyns (F : Nat → Prop) (w : World) : List Syn → List Value → Prop
  | [], vs => vs = []
  | t :: r, vs => ∃ v vr, vs = v :: vr ∧ IsSyn F w t v ∧ IsSyns F w r vr
end
mutual
theorem IsSyn.map {F F' : Nat → Prop} {w w' : World} (hB : ∀ p cs τ, F p → Blk w p cs τ → F' p ∧ Blk w' p cs τ) (hR : ∀ A n vs, Rd F w 1 A n vs → Rd F' w' 1 A n vs) : ∀ (t : Syn) (v : Value), IsSyn F w t v → IsSyn F' w' t v
  | .node k s mn mx lz l a b, v, h => by
    obtain ⟨p, A, c, vs, h1, h2, h3, h4, h5⟩ := h
    exact ⟨p, A, c, vs, h1, (hB _ _ _ h2 h3).1, (hB _ _ _ h2 h3).2, hR _ _ _ h4, IsSyns.map hB hR l vs h5⟩
theorem IsSyns.map {F F' : Nat → Prop} {w w' : World} (hB : ∀ p cs τ, F p → Blk w p cs τ → F' p ∧ Blk w' p cs τ) (hR : ∀ A n vs, Rd F w 1 A n vs → Rd F' w' 1 A n vs) : ∀ (l : List Syn) (vs : List Value), IsSyns F w l vs → IsSyns F' w' l vs
  | [], vs, h => h
  | t :: r, vs, h => by
    obtain ⟨v, vr, h1, h2, h3⟩ := h
    exact ⟨v, vr, h1, IsSyn.map hB hR t v h2, IsSyns.map hB hR r vr h3⟩
end
theorem IsSyn.chg {F : Nat → Prop} {w w' : World} {S : List Nat} {t : Syn} {v : Value} (h : IsSyn F w t v) (k : Chg S w w') (hS : ∀ b ∈ S, ¬ F b) : IsSyn F w' t v :=
  IsSyn.map (fun p cs τ hp hb => ⟨hp, hb.chg k (fun hm => hS p hm hp)⟩) (fun A n vs hr => hr.chg k hS) t v h
theorem IsSyn.chg0 {F : Nat → Prop} {w w' : World} {t : Syn} {v : Value} (h : IsSyn F w t v) (k : Chg [] w w') : IsSyn F w' t v := h.chg k (fun b hb => by cases hb)
theorem IsSyn.mono {F F' : Nat → Prop} {w : World} {t : Syn} {v : Value} (h : IsSyn F w t v) (hF : ∀ b, F b → b < w.heap.size → F' b) : IsSyn F' w t v :=
  IsSyn.map (fun p cs τ hp hb => ⟨hF p hp hb.lt, hb⟩) (fun A n vs hr => hr.mono hF) t v h
theorem IsSyns.chg {F : Nat → Prop} {w w' : World} {S : List Nat} {t : List Syn} {v : List Value} (h : IsSyns F w t v) (k : Chg S w w') (hS : ∀ b ∈ S, ¬ F b) : IsSyns F w' t v :=
  IsSyns.map (fun p cs τ hp hb => ⟨hp, hb.chg k (fun hm => hS p hm hp)⟩) (fun A n vs hr => hr.chg k hS) t v h
theorem IsSyns.chg0 {F : Nat → Prop} {w w' : World} {t : List Syn} {v : List Value} (h : IsSyns F w t v) (k : Chg [] w w') : IsSyns F w' t v := h.chg k (fun b hb => by cases hb)
theorem IsSyns.mono {F F' : Nat → Prop} {w : World} {t : List Syn} {v : List Value} (h : IsSyns F w t v) (hF : ∀ b, F b → b < w.heap.size → F' b) : IsSyns F' w t v :=
  IsSyns.map (fun p cs τ hp hb => ⟨hF p hp hb.lt, hb⟩) (fun A n vs hr => hr.mono hF) t v h
theorem IsSyns.length {F : Nat → Prop} {w : World} : ∀ {l : List Syn} {vs : List Value}, IsSyns F w l vs → vs.length = l.length
  | [], vs, h => by rw [show vs = [] from h]; rfl
  | t :: r, vs, h => by obtain ⟨v, vr, rfl, _, h3⟩ := h; simp [h3.length]
theorem IsSyns.append {F : Nat → Prop} {w : World} {t : Syn} {v : Value} (ht : IsSyn F w t v) : ∀ {l : List Syn} {vs : List Value}, IsSyns F w l vs → IsSyns F w (l ++ [t]) (vs ++ [v])
  | [], vs, h => by rw [show vs = [] from h]; exact ⟨v, [], rfl, ht, rfl⟩
  | t' :: r, vs, h => by obtain ⟨v', vr, rfl, h2, h3⟩ := h; exact ⟨v', vr ++ [v], rfl, h2, IsSyns.append ht h3⟩
theorem IsSyns.get {F : Nat → Prop} {w : World} : ∀ {l : List Syn} {vs : List Value}, IsSyns F w l vs → ∀ k, k < l.length → ∃ v, vs[k]? = some v ∧ IsSyn F w (l.getD k default) v
  | [], vs, h, k, hk => by simp at hk
  | t :: r, vs, h, k, hk => by
    obtain ⟨v, vr, rfl, h2, h3⟩ := h
    cases k with
    | zero => exact ⟨v, rfl, h2⟩
    | succ k => obtain ⟨u, h4, h5⟩ := IsSyns.get h3 k (by simpa using hk); exact ⟨u, by simpa using h4, by simpa using h5⟩
end Go.Clt
end
section
set_option linter.unusedVariables false
set_option linter.unusedSimpArgs false
set_option maxRecDepth 4000
namespace Go.Clt
set_option maxHeartbeats 2000000
open Go Go.RowKit Go.Proofs
abbrev psC (A : Option Addr) (n c en : Nat) (p : Pp) : List Value := [.slice A n c, .int .i64 (p.next : Int), .int .i64 (en : Int), .int .i64 (p.deep : Int), .int .i64 p.pl, .int .i64 p.e]
theorem toksC_get : ∀ (l : List Tok) (k j : Nat), k < l.length → j < 10 → (toksC l)[k * 10 + j]? = (l.getD k {}).cells[j]?
  | [], k, j, hk, hj => by simp at hk
  | t :: l, 0, j, hk, hj => by
    simp only [toksC, List.flatMap_cons, Nat.zero_mul, Nat.zero_add]
    rw [List.getElem?_append_left (by rw [tok_len]; exact hj)]
    simp
  | t :: l, k + 1, j, hk, hj => by
    simp only [toksC, List.flatMap_cons]
    rw [List.getElem?_append_right (by rw [tok_len]; omega), tok_len, show (k + 1) * 10 + j - 10 = k * 10 + j from by omega]
    exact toksC_get l k j (by simpa using hk) hj
theorem tok_at0 (a : Int) : Tok.cells { src := a, to := a } = [.int .i64 0, .int .i64 a, .int .i64 a, .int .u64 0, .int .u64 0, .int .u64 0, .int .u64 0, .int .i64 0, .int .i64 0, .bool false] := by
  simp [Tok.cells, setCells_zero]
theorem tokE (t : Tok) : t.cells = [.int .i64 t.kind, .int .i64 t.src, .int .i64 t.to, .int .u64 (wd t.set 0), .int .u64 (wd t.set 1), .int .u64 (wd t.set 2), .int .u64 (wd t.set 3), .int .i64 t.min, .int .i64 t.max, .bool t.lazy] := rfl
theorem rd_tok {F : Nat → Prop} {w : World} {g off k : Nat} {T : List Tok} (hr : Rd F w 10 (some ⟨g, off, none⟩) T.length (toksC T)) (hk : k < T.length) :
    g < w.heap.size ∧ ∀ (j : Nat) (v : Value), (T.getD k {}).cells[j]? = some v → w.cell? ⟨g, off + k * 10 + j, none⟩ = some v := by
  obtain ⟨g', off', h, _, hlt, hc⟩ := hr.at_ (by omega)
  injection h with h; injection h with h1 h2; subst h1; subst h2
  refine ⟨hlt, fun j v hj => ?_⟩
  have hj10 : j < 10 := by have := (List.getElem?_eq_some_iff.1 hj).1; rw [tok_len] at this; exact this
  rw [Nat.add_assoc]
  exact hc _ _ (by rw [toksC_get T k j hk hj10]; exact hj)
theorem rd_to {F : Nat → Prop} {w : World} {g off : Nat} {T : List Tok} {p : Pp} (hr : Rd F w 10 (some ⟨g, off, none⟩) T.length (toksC T)) (hn : 0 < p.next ∧ p.next ≤ T.length) :
    w.cell? ⟨g, off + ((p.next : Int) - 1).toNat * 10 + 2, none⟩ = some (.int .i64 (lastQ T p)) := by
  have h := (rd_tok hr (k := p.next - 1) (by omega)).2 2 (.int .i64 (lastQ T p)) rfl
  rw [show ((p.next : Int) - 1).toNat = p.next - 1 from by omega]
  exact h
theorem pkT_c (T : List Tok) (F : Nat → Prop) (A : Option Addr) (c en : Nat) (p : Pp) (b : Nat) (w : World) (hT : T.length ≤ 1048576) (hF : ∀ b, F b → b < w.heap.size) (hr : Rd F w 10 A T.length (toksC T)) (hR : Blk w b (psC A T.length c en p) 202) : Calls P 126 #[.pointer (some ⟨b, 0, none⟩)] w (Ret fun v w' => v = .tuple #[.agg (pkQ T en p).cells.toArray, .bool (okQ T p)] ∧ Chg [] w w') := by
  have hC := Chg.refl [] w
  try have hlR := hR.lt
  refine enter Tryz.func126 rfl rfl ?_
  refine EW.seq ?_
  refine EW.reg ?_
  refine EP.new2 rfl (News.alloc zr205 rfl) ?_
  intro b1 w1 hb1 hs1 hx1 hB1
  have hz1 := hx1.size
  replace hC := hC.step0 hx1
  replace hR := hR.chg0 hx1
  replace hr := hr.chg0 hx1
  refine EP.o rfl (Does.assign rfl) ?_
  refine EP.nil ?_
  refine EW.seq ?_
  refine EW.seq ?_
  refine EW.drw' (S := []) 9 [(0, 0), (0, 1), (0, 2), (0, 3), (0, 4), (0, 5), (0, 6), (0, 7), (0, 8), (2, 9)] mo (by kernel_rfl) ?_
  intro w2 hx2 hh2
  have hz2 := hx2.size
  replace hC := hC.step0 hx2
  replace hR := hR.chg0 hx2
  replace hr := hr.chg0 hx2
  replace hB1 := hB1.chg0 hx2
  refine EP.f rfl (Does.move rfl) ?_
  refine EP.f rfl (Does.nilCheck rfl) ?_
  refine EP.f rfl (Does.fieldAddr fl200_1 rfl) ?_
  refine EP.f rfl (Does.loadBc o3 rfl (by assumption) (by simp; done) (by rfl)) ?_
  refine EP.f rfl (Does.move rfl) ?_
  refine EP.f rfl (Does.nilCheck rfl) ?_
  refine EP.f rfl (Does.fieldAddr fl200_0 rfl) ?_
  refine EP.f rfl (Does.loadBc o195 rfl (by assumption) (by simp; done) (by rfl)) ?_
  refine EP.f rfl (Does.lenL Tryz.underlying195 rfl) ?_
  refine EP.o rfl (Does.cmp rfl rfl rfl) ?_
  refine EP.nil ?_
  refine EW.cond rfl (fun h1 => ?_) (fun h1 => ?_)
  · try simp at h1
    have hp : pkQ T en p = { src := en, to := en } := by unfold pkQ; rw [if_neg (by omega)]
    refine EW.seq ?_
    refine EW.drw' (S := []) 8 [(0, 0), (0, 1), (0, 2), (0, 3), (0, 4), (0, 5), (0, 6), (0, 7), (2, 8), (2, 9), (2, 10)] mo (by kernel_rfl) ?_
    intro w3 hx3 hh3
    have hz3 := hx3.size
    replace hC := hC.step0 hx3
    replace hR := hR.chg0 hx3
    replace hr := hr.chg0 hx3
    replace hB1 := hB1.chg0 hx3
    refine EP.f rfl (Does.move rfl) ?_
    refine EP.f rfl (Does.nilCheck rfl) ?_
    refine EP.f rfl (Does.fieldAddr fl200_2 rfl) ?_
    refine EP.f rfl (Does.loadBc o3 rfl (by assumption) (by simp; done) (by rfl)) ?_
    refine EP.f rfl (Does.move rfl) ?_
    refine EP.f rfl (Does.nilCheck rfl) ?_
    refine EP.f rfl (Does.fieldAddr fl200_2 rfl) ?_
    refine EP.f rfl (Does.loadBc o3 rfl (by assumption) (by simp; done) (by rfl)) ?_
    refine EP.o rfl (Does.buildSL zr205 pl205 rfl (by rfl)) ?_
    refine EP.put2 (Puts.blk sz205 rfl rfl (by assumption) rfl rfl rfl rfl (by simp only [List.take, List.drop, List.append, List.cons_append, List.nil_append]; rfl)) ?_
    intro w4 hs4 hx4 hB4
    have hz4 := hx4.size
    replace hC := hC.step hx4 (by first | (simp; done) | (simp; omega))
    replace hR := hR.chg hx4 (by simp; omega)
    replace hr := hr.chg hx4 (by intro b hb hFb; have := hF _ hFb; simp at hb; omega)
    clear hB1; have hB1 := hB4; clear hB4
    refine EP.o rfl (Does.assign rfl) ?_
    refine EP.nil ?_
    refine EW.ret ?_
    refine Fin.cell_tmp rfl rfl (Blk.loadV ag205 (by assumption) (by simp only [List.take, List.drop, List.append, List.cons_append, List.nil_append]; rfl) rfl) rfl ?_
    exact ⟨by rw [hp, tok_at0, show okQ T p = false from decide_eq_false (by omega)] <;> rfl, hC⟩
  · try simp at h1
    have hk : p.next < T.length := by omega
    have hp : pkQ T en p = T.getD p.next {} := by unfold pkQ; rw [if_pos hk]
    obtain ⟨g, off, rfl, _, _, _⟩ := hr.at_ (by omega)
    refine EW.skip ?_
    refine EW.seq ?_
    refine EW.drw' (S := []) 8 [(0, 0), (0, 1), (0, 2), (0, 3), (0, 4), (0, 5), (0, 6), (0, 7), (2, 8), (2, 9), (2, 10), (2, 11)] mo (by kernel_rfl) ?_
    intro w5 hx5 hh5
    have hz5 := hx5.size
    replace hC := hC.step0 hx5
    replace hR := hR.chg0 hx5
    replace hr := hr.chg0 hx5
    replace hB1 := hB1.chg0 hx5
    refine EP.f rfl (Does.move rfl) ?_
    refine EP.f rfl (Does.nilCheck rfl) ?_
    refine EP.f rfl (Does.fieldAddr fl200_0 rfl) ?_
    refine EP.f rfl (Does.loadBc o195 rfl (by assumption) (by simp; done) (by rfl)) ?_
    refine EP.f rfl (Does.move rfl) ?_
    refine EP.f rfl (Does.nilCheck rfl) ?_
    refine EP.f rfl (Does.fieldAddr fl200_1 rfl) ?_
    refine EP.f rfl (Does.loadBc o3 rfl (by assumption) (by simp; done) (by rfl)) ?_
    refine EP.o rfl (Does.indexAddr sl195 rfl rfl (by omega) (by omega)) ?_
    refine EP.o rfl (Does.loadCs (vs := (T.getD p.next {}).cells) ag205 rfl (Keeps.now _) (rd_tok hr hk).2 rfl) ?_
    refine EP.put2 (Puts.blk sz205 rfl rfl (by assumption) rfl rfl rfl rfl (by simp only [List.take, List.drop, List.append, List.cons_append, List.nil_append]; rfl)) ?_
    intro w6 hs6 hx6 hB6
    have hz6 := hx6.size
    replace hC := hC.step hx6 (by first | (simp; done) | (simp; omega))
    replace hR := hR.chg hx6 (by simp; omega)
    replace hr := hr.chg hx6 (by intro b hb hFb; have := hF _ hFb; simp at hb; omega)
    clear hB1; have hB1 := hB6; clear hB6
    refine EP.o rfl (Does.assign rfl) ?_
    refine EP.nil ?_
    refine EW.ret ?_
    refine Fin.cell_tmp rfl rfl (Blk.loadV ag205 (by assumption) (by simp only [List.take, List.drop, List.append, List.cons_append, List.nil_append]; rfl) rfl) rfl ?_
    exact ⟨by rw [hp, show okQ T p = true from decide_eq_true hk, tokE] <;> rfl, hC⟩
theorem isT_c (T : List Tok) (F : Nat → Prop) (A : Option Addr) (c en : Nat) (p : Pp) (b : Nat) (k : Int) (w : World) (hT : T.length ≤ 1048576) (hF : ∀ b, F b → b < w.heap.size) (hr : Rd F w 10 A T.length (toksC T)) (hR : Blk w b (psC A T.length c en p) 202) : Calls P 150 #[.pointer (some ⟨b, 0, none⟩), .int .i64 k] w (Ret fun v w' => v = .bool (isQ T en p k) ∧ Chg [] w w') := by
  have hC := Chg.refl [] w
  try have hlR := hR.lt
  refine enter Tryz.func150 rfl rfl ?_
  refine EW.seq ?_
  refine EW.reg ?_
  refine EP.o rfl (Does.assign rfl) ?_
  refine EP.nil ?_
  refine EW.seq ?_
  refine EW.reg ?_
  refine EP.o rfl (Does.move rfl) ?_
  refine EP.call2 rfl (Enters.fn fb126 rfl) (pkT_c T F A c en p b _ hT hF (by assumption) (by assumption)) ?_
  rintro _ w1 ⟨rfl, hx1⟩
  have hz1 := hx1.size
  replace hC := hC.step0 hx1
  replace hR := hR.chg0 hx1
  replace hr := hr.chg0 hx1
  refine EP.o rfl (Does.move rfl) ?_
  refine EP.o rfl (Does.extract rfl rfl) ?_
  refine EP.o rfl (Does.extract rfl rfl) ?_
  refine EP.new2 rfl (News.alloc zr205 rfl) ?_
  intro b2 w2 hb2 hs2 hx2 hB2
  have hz2 := hx2.size
  replace hC := hC.step0 hx2
  replace hR := hR.chg0 hx2
  replace hr := hr.chg0 hx2
  refine EP.put2 (Puts.blk sz205 rfl rfl (by assumption) rfl rfl rfl rfl (by simp only [List.take, List.drop, List.append, List.cons_append, List.nil_append]; rfl)) ?_
  intro w3 hs3 hx3 hB3
  have hz3 := hx3.size
  replace hC := hC.step hx3 (by first | (simp; done) | (simp; omega))
  replace hR := hR.chg hx3 (by simp; omega)
  replace hr := hr.chg hx3 (by intro b hb hFb; have := hF _ hFb; simp at hb; omega)
  clear hB2; have hB2 := hB3; clear hB3
  refine EP.o rfl (Does.assign rfl) ?_
  refine EP.nil ?_
  refine EW.seq ?_
  refine EW.reg ?_
  refine EP.o rfl (Does.move rfl) ?_
  refine EP.o rfl (Does.move rfl) ?_
  refine EP.bsplit (d := 13) rfl (fun h1 => ?_) (fun h1 => ?_)
  · try simp at h1
    refine EP.ung rfl rfl rfl ?_
    refine EP.o rfl (Does.fieldAddr fl205_0 rfl) ?_
    refine EP.ung rfl rfl rfl ?_
    refine EP.o rfl (Does.loadB o3 rfl (Keeps.now _) (by assumption) (by rfl)) ?_
    refine EP.ung rfl rfl rfl ?_
    refine EP.o rfl (Does.move rfl) ?_
    refine EP.ung rfl rfl rfl ?_
    refine EP.o rfl (Does.cmp rfl rfl rfl) ?_
    refine EP.o rfl (Does.pickT rfl rfl) ?_
    refine EP.o rfl (Does.assign rfl) ?_
    refine EP.nil ?_
    refine EW.ret ?_
    refine Fin.one rfl rfl ?_
    exact ⟨vbool (by unfold isQ; rw [h1, Bool.true_and, Bool.eq_iff_iff, cmpB_eql, decide_eq_true_iff]), hC⟩
  · try simp at h1
    refine EP.skp rfl rfl rfl rfl rfl (fun h => by cases h) ?_
    refine EP.skp rfl rfl rfl rfl rfl (fun h => by cases h) ?_
    refine EP.skp rfl rfl rfl rfl rfl (fun h => by cases h) ?_
    refine EP.skp rfl rfl rfl rfl rfl (fun h => by cases h) ?_
    refine EP.o rfl (Does.pickF rfl rfl) ?_
    refine EP.o rfl (Does.assign rfl) ?_
    refine EP.nil ?_
    refine EW.ret ?_
    refine Fin.one rfl rfl ?_
    exact ⟨vbool (by unfold isQ; rw [h1]; rfl), hC⟩
theorem atT_c (T : List Tok) (F : Nat → Prop) (A : Option Addr) (c en : Nat) (p : Pp) (b : Nat) (w : World) (hT : T.length ≤ 1048576) (hF : ∀ b, F b → b < w.heap.size) (hr : Rd F w 10 A T.length (toksC T)) (hR : Blk w b (psC A T.length c en p) 202) : Calls P 182 #[.pointer (some ⟨b, 0, none⟩)] w (Ret fun v w' => v = .int .i64 (pkQ T en p).src ∧ Chg [] w w') := by
  have hC := Chg.refl [] w
  try have hlR := hR.lt
  refine enter Tryz.func182 rfl rfl ?_
  refine EW.seq ?_
  refine EW.reg ?_
  refine EP.o rfl (Does.assign rfl) ?_
  refine EP.nil ?_
  refine EW.seq ?_
  refine EW.reg ?_
  refine EP.o rfl (Does.move rfl) ?_
  refine EP.call2 rfl (Enters.fn fb126 rfl) (pkT_c T F A c en p b _ hT hF (by assumption) (by assumption)) ?_
  rintro _ w1 ⟨rfl, hx1⟩
  have hz1 := hx1.size
  replace hC := hC.step0 hx1
  replace hR := hR.chg0 hx1
  replace hr := hr.chg0 hx1
  refine EP.o rfl (Does.move rfl) ?_
  refine EP.o rfl (Does.extract rfl rfl) ?_
  refine EP.o rfl (Does.extract rfl rfl) ?_
  refine EP.new2 rfl (News.alloc zr205 rfl) ?_
  intro b2 w2 hb2 hs2 hx2 hB2
  have hz2 := hx2.size
  replace hC := hC.step0 hx2
  replace hR := hR.chg0 hx2
  replace hr := hr.chg0 hx2
  refine EP.put2 (Puts.blk sz205 rfl rfl (by assumption) rfl rfl rfl rfl (by simp only [List.take, List.drop, List.append, List.cons_append, List.nil_append]; rfl)) ?_
  intro w3 hs3 hx3 hB3
  have hz3 := hx3.size
  replace hC := hC.step hx3 (by first | (simp; done) | (simp; omega))
  replace hR := hR.chg hx3 (by simp; omega)
  replace hr := hr.chg hx3 (by intro b hb hFb; have := hF _ hFb; simp at hb; omega)
  clear hB2; have hB2 := hB3; clear hB3
  refine EP.o rfl (Does.assign rfl) ?_
  refine EP.nil ?_
  refine EW.seq ?_
  refine EW.reg ?_
  refine EP.o rfl (Does.fieldAddr fl205_1 rfl) ?_
  refine EP.o rfl (Does.loadB o3 rfl (Keeps.now _) (by assumption) (by rfl)) ?_
  refine EP.o rfl (Does.assign rfl) ?_
  refine EP.nil ?_
  refine EW.ret ?_
  refine Fin.one rfl rfl ?_
  exact ⟨rfl, hC⟩
theorem lastT_c (T : List Tok) (F : Nat → Prop) (A : Option Addr) (c en : Nat) (p : Pp) (b : Nat) (w : World) (hT : T.length ≤ 1048576) (hn : 0 < p.next ∧ p.next ≤ T.length) (hF : ∀ b, F b → b < w.heap.size) (hr : Rd F w 10 A T.length (toksC T)) (hR : Blk w b (psC A T.length c en p) 202) : Calls P 227 #[.pointer (some ⟨b, 0, none⟩)] w (Ret fun v w' => v = .int .i64 (lastQ T p) ∧ Chg [] w w') := by
  have hC := Chg.refl [] w
  obtain ⟨g, off, rfl, _, _, _⟩ := hr.at_ (by omega)
  try have hlR := hR.lt
  refine enter Tryz.func227 rfl rfl ?_
  refine EW.seq ?_
  refine EW.reg ?_
  refine EP.o rfl (Does.assign rfl) ?_
  refine EP.nil ?_
  refine EW.seq ?_
  refine EW.drw' (S := []) 9 [(0, 0), (0, 1), (0, 2), (0, 3), (0, 4), (0, 5), (0, 6), (0, 7), (0, 8), (2, 9), (2, 10), (2, 11), (2, 12)] mo (by kernel_rfl) ?_
  intro w1 hx1 hh1
  have hz1 := hx1.size
  replace hC := hC.step0 hx1
  replace hR := hR.chg0 hx1
  replace hr := hr.chg0 hx1
  refine EP.f rfl (Does.move rfl) ?_
  refine EP.f rfl (Does.nilCheck rfl) ?_
  refine EP.f rfl (Does.fieldAddr fl200_0 rfl) ?_
  refine EP.f rfl (Does.loadBc o195 rfl (by assumption) (by simp; done) (by rfl)) ?_
  refine EP.f rfl (Does.move rfl) ?_
  refine EP.f rfl (Does.nilCheck rfl) ?_
  refine EP.f rfl (Does.fieldAddr fl200_1 rfl) ?_
  refine EP.f rfl (Does.loadBc o3 rfl (by assumption) (by simp; done) (by rfl)) ?_
  refine EP.f rfl (Does.subi rfl rfl (by omega)) ?_
  refine EP.o rfl (Does.indexAddr sl195 rfl rfl (by omega) (by omega)) ?_
  refine EP.o rfl (Does.fieldAddr fl205_2 rfl) ?_
  refine EP.o rfl (Does.load1 o3 rfl (Keeps.now _) (rd_to hr hn)) ?_
  refine EP.o rfl (Does.assign rfl) ?_
  refine EP.nil ?_
  refine EW.ret ?_
  refine Fin.one rfl rfl ?_
  exact ⟨rfl, hC⟩
theorem pfail_c (A : Option Addr) (n c en : Nat) (p : Pp) (b : Nat) (a e : Int) (w : World) (hR : Blk w b (psC A n c en p) 202) : Calls P 127 #[.pointer (some ⟨b, 0, none⟩), .int .i64 a, .int .i64 e] w (Ret fun v w' => v = .tuple #[] ∧ Chg [b] w w' ∧ Blk w' b (psC A n c en (p.fail a e)) 202) := by
  have hC := Chg.refl [b] w
  try have hlR := hR.lt
  refine enter Tryz.func127 rfl rfl ?_
  refine EW.seq ?_
  refine EW.reg ?_
  refine EP.o rfl (Does.move rfl) ?_
  refine EP.o rfl (Does.nilCheck rfl) ?_
  refine EP.o rfl (Does.fieldAddr fl202_3 rfl) ?_
  refine EP.o rfl (Does.loadB o32 rfl (Keeps.now _) (by assumption) (by rfl)) ?_
  refine EP.o rfl (Does.cmp rfl rfl rfl) ?_
  refine EP.nil ?_
  refine EW.cond rfl (fun hc => ?_) (fun hc => ?_)
  · try simp at hc
    refine EW.reg ?_
    refine EP.o rfl (Does.move rfl) ?_
    refine EP.o rfl (Does.move rfl) ?_
    refine EP.o rfl (Does.move rfl) ?_
    refine EP.o rfl (Does.move rfl) ?_
    refine EP.o rfl (Does.nilCheck rfl) ?_
    refine EP.o rfl (Does.fieldAddr fl202_2 rfl) ?_
    refine EP.put2 (Puts.blk sz3 rfl rfl (by assumption) rfl rfl rfl rfl (by simp only [List.take, List.drop, List.append, List.cons_append, List.nil_append]; rfl)) ?_
    intro w1 hs1 hx1 hB1
    have hz1 := hx1.size
    replace hC := hC.step hx1 (by first | (simp; done) | (simp; omega))
    clear hR; have hR := hB1; clear hB1
    refine EP.o rfl (Does.nilCheck rfl) ?_
    refine EP.o rfl (Does.fieldAddr fl202_3 rfl) ?_
    refine EP.put2 (Puts.blk sz32 rfl rfl (by assumption) rfl rfl rfl rfl (by simp only [List.take, List.drop, List.append, List.cons_append, List.nil_append]; rfl)) ?_
    intro w2 hs2 hx2 hB2
    have hz2 := hx2.size
    replace hC := hC.step hx2 (by first | (simp; done) | (simp; omega))
    clear hR; have hR := hB2; clear hB2
    refine EP.nil ?_
    refine Fin.none rfl ?_
    exact ⟨rfl, hC, by unfold Pp.fail; rw [if_pos hc]; exact hR⟩
  · try simp at hc
    refine EW.skip ?_
    refine Fin.none rfl ?_
    exact ⟨rfl, hC, by unfold Pp.fail; rw [if_neg hc]; exact hR⟩
end Go.Clt
end
section
set_option linter.unusedVariables false
set_option linter.unusedSimpArgs false
set_option maxRecDepth 4000
namespace Go.Clt
set_option maxHeartbeats 2000000
open Go Go.RowKit Go.Proofs
theorem Rd.one {F : Nat → Prop} {w : World} {g off n k : Nat} {vs : List Value} {v : Value} (hr : Rd F w 1 (some ⟨g, off, none⟩) n vs) (hv : vs[k]? = some v) : g < w.heap.size ∧ w.cell? ⟨g, off + k, none⟩ = some v := by
  have hk : k < vs.length := (List.getElem?_eq_some_iff.1 hv).1
  have hl := hr.len
  obtain ⟨g', off', h, _, hlt, hc⟩ := hr.at_ (by omega)
  injection h with h; injection h with h1 h2; subst h1; subst h2
  exact ⟨hlt, hc _ _ hv⟩
theorem nodeC0 (k mn mx : Int) (lz : Bool) (sl : Value) (a b : Int) : nodeC k 0 mn mx lz sl a b = [.int .i64 k, .int .u64 0, .int .u64 0, .int .u64 0, .int .u64 0, .int .i64 mn, .int .i64 mx, .bool lz, sl, .int .i64 a, .int .i64 b] := by
  simp [nodeC, setCells_zero]
theorem IsSyn.span {F : Nat → Prop} {w : World} {t : Syn} {v : Value} (h : IsSyn F w t v) : ∃ p cs, v = .pointer (some ⟨p, 0, none⟩) ∧ F p ∧ Blk w p cs 254 ∧ cs[9]? = some (.int .i64 t.a) ∧ cs[10]? = some (.int .i64 t.b) ∧ cs[0]? = some (.int .i64 t.kind) := by
  cases t with
  | node k s mn mx lz l a b =>
    obtain ⟨p, A, c, vs, h1, h2, h3, _⟩ := h
    exact ⟨p, _, h1, h2, h3, rfl, rfl, rfl⟩
theorem manyQ_two {k : Int} {l : List Syn} (h : l.length ≠ 1) : manyQ k l = .node k 0 0 0 false l (l.getD 0 default).a (l.getD (l.length - 1) default).b := by
  match l, h with
  | [], _ => rfl
  | x :: y :: r, _ => rfl
theorem many_c (k : Int) (l : List Syn) (vs : List Value) (F : Nat → Prop) (A : Option Addr) (c : Nat) (w : World) (hl : 0 < l.length) (hl2 : l.length ≤ 2000000) (hF : ∀ b, F b → b < w.heap.size) (hr : Rd F w 1 A l.length vs) (hI : IsSyns F w l vs) : Calls P 151 #[.int .i64 k, .slice A l.length c] w (Ret fun v w' => Chg [] w w' ∧ IsSyn (fun x => F x ∨ w.heap.size ≤ x) w' (manyQ k l) v) := by
  have hC := Chg.refl [] w
  obtain ⟨g, off, rfl, _, _, _⟩ := hr.at_ hl
  refine enter Tryz.func151 rfl rfl ?_
  refine EW.seq ?_
  refine EW.reg ?_
  refine EP.o rfl (Does.assign rfl) ?_
  refine EP.nil ?_
  refine EW.seq ?_
  refine EW.seq ?_
  refine EW.reg ?_
  refine EP.o rfl (Does.move rfl) ?_
  refine EP.o rfl (Does.lenL Tryz.underlying241 rfl) ?_
  refine EP.o rfl (Does.cmp rfl rfl rfl) ?_
  refine EP.nil ?_
  refine EW.cond rfl (fun h1 => ?_) (fun h1 => ?_)
  · try simp at h1
    obtain ⟨v0, hv0, hi0⟩ := hI.get 0 hl
    refine EW.seq ?_
    refine EW.reg ?_
    refine EP.o rfl (Does.move rfl) ?_
    refine EP.o rfl (Does.indexAddr1 sl241 rfl rfl (by omega) (by omega)) ?_
    refine EP.o rfl (Does.load1 o149 rfl (Keeps.now _) (hr.one hv0).2) ?_
    refine EP.o rfl (Does.assign rfl) ?_
    refine EP.nil ?_
    refine EW.ret ?_
    refine Fin.one rfl rfl ?_
    refine ⟨hC, ?_⟩
    have : manyQ k l = l.getD 0 default := by
      match l, h1 with
      | [x], _ => rfl
    rw [this]
    exact hi0.mono (fun x hx _ => Or.inl hx)
  · try simp at h1
    obtain ⟨v0, hv0, hi0⟩ := hI.get 0 hl
    obtain ⟨v1, hv1, hi1⟩ := hI.get (l.length - 1) (by omega)
    obtain ⟨p0, cs0, rfl, _, hB0, ha0, _, _⟩ := hi0.span
    obtain ⟨p1, cs1, rfl, _, hB1, _, hb1, _⟩ := hi1.span
    try have hlB0 := hB0.lt
    try have hlB1 := hB1.lt
    refine EW.skip ?_
    refine EW.seq ?_
    refine EW.drw' (S := []) 22 [(0, 0), (0, 1), (0, 2), (0, 3), (0, 4), (0, 5), (0, 6), (0, 7), (0, 8), (0, 9), (0, 10), (0, 11), (0, 12), (0, 13), (0, 14), (0, 15), (0, 16), (0, 17), (0, 18), (0, 19), (0, 20), (1, 21), (2, 22)] mo (by kernel_rfl) ?_
    intro w1 hx1 hh1
    have hz1 := hx1.size
    replace hC := hC.step0 hx1
    replace hr := hr.chg0 hx1
    replace hI := hI.chg0 hx1
    replace hB0 := hB0.chg0 hx1
    replace hB1 := hB1.chg0 hx1
    have hCS1 := Chg.refl ([]) w1
    refine EP.f rfl (Does.move rfl) ?_
    refine EP.f rfl (Does.move rfl) ?_
    refine EP.f rfl (Does.move rfl) ?_
    refine EP.f rfl (Does.indexAddr1 sl241 rfl rfl (by omega) (by omega)) ?_
    refine EP.f rfl (Does.load1c o149 rfl (hr.one hv0).2 (by first | (simp; done) | (simp; omega))) ?_
    refine EP.f rfl (Does.nilCheck rfl) ?_
    refine EP.f rfl (Does.fieldAddr fl254_6 rfl) ?_
    refine EP.f rfl (Does.indexAddrA1 ar252 rfl rfl (by omega) (by omega)) ?_
    refine EP.f rfl (Does.load1c o3 rfl (by rw [hB0.cell]; exact ha0) (by first | (simp; done) | (simp; omega))) ?_
    refine EP.f rfl (Does.move rfl) ?_
    refine EP.f rfl (Does.move rfl) ?_
    refine EP.f rfl (Does.lenL Tryz.underlying241 rfl) ?_
    refine EP.f rfl (Does.subi rfl rfl (by omega)) ?_
    refine EP.f rfl (Does.indexAddr1 sl241 rfl rfl (by omega) (by omega)) ?_
    refine EP.f rfl (Does.load1c o149 rfl (show _ = _ from by have := (hr.one hv1).2; rw [show l.length - 1 = ((l.length : Int) - 1).toNat from by omega] at this; exact this) (by first | (simp; done) | (simp; omega))) ?_
    refine EP.f rfl (Does.nilCheck rfl) ?_
    refine EP.f rfl (Does.fieldAddr fl254_6 rfl) ?_
    refine EP.f rfl (Does.indexAddrA1 ar252 rfl rfl (by omega) (by omega)) ?_
    refine EP.f rfl (Does.load1c o3 rfl (by rw [hB1.cell]; exact hb1) (by first | (simp; done) | (simp; omega))) ?_
    refine EP.f rfl (Does.buildAL zr252 ar252 rfl (by rfl)) ?_
    refine EP.f rfl (Does.buildSL zr254 pl254 rfl (by rfl)) ?_
    refine EP.new1 rfl (News.box rfl rfl) ?_
    intro b2 w2 hb2 hs2 hx2 hB2
    have hz2 := hx2.size
    replace hC := hC.step0 hx2
    replace hr := hr.chg0 hx2
    replace hI := hI.chg0 hx2
    replace hB0 := hB0.chg0 hx2
    replace hB1 := hB1.chg0 hx2
    replace hCS1 := hCS1.step0 hx2
    refine ⟨hCS1, ?_⟩
    refine EP.o rfl (Does.assign rfl) ?_
    refine EP.nil ?_
    refine EW.ret ?_
    refine Fin.one rfl rfl ?_
    refine ⟨hC, ?_⟩
    rw [manyQ_two (by omega)]
    refine ⟨_, some ⟨g, off, none⟩, c, vs, rfl, Or.inr (by omega), ?_, hr.mono (fun x hx _ => Or.inl hx), hI.mono (fun x hx _ => Or.inl hx)⟩
    rw [nodeC0]
    trace_state
    exact hB2
end Go.Clt
end
section
set_option linter.unusedVariables false
set_option linter.unusedSimpArgs false
namespace Go.Clt
open Go
structure GoQ (T : List Tok) (p q : Pp) : Prop where
  deep : q.deep = p.deep
  ge : p.next ≤ q.next
  le : q.next ≤ T.length
theorem GoQ.refl {T : List Tok} {p : Pp} (h : p.next ≤ T.length) : GoQ T p p := ⟨rfl, Nat.le_refl _, h⟩
theorem GoQ.trans {T : List Tok} {p q r : Pp} (h : GoQ T p q) (k : GoQ T q r) : GoQ T p r := ⟨k.deep.trans h.deep, Nat.le_trans h.ge k.ge, k.le⟩
theorem GoQ.adv {T : List Tok} {p : Pp} (h : p.next < T.length) : GoQ T p p.adv := ⟨rfl, Nat.le_succ _, h⟩
theorem pfail_next {p : Pp} {a e : Int} : (p.fail a e).next = p.next := by unfold Pp.fail; split <;> rfl
theorem pfail_deep {p : Pp} {a e : Int} : (p.fail a e).deep = p.deep := by unfold Pp.fail; split <;> rfl
theorem pfail_e {p : Pp} {a e : Int} (he : e ≠ 0) : (p.fail a e).e ≠ 0 := by unfold Pp.fail; split <;> assumption
theorem GoQ.fail {T : List Tok} {p : Pp} {a e : Int} (h : p.next ≤ T.length) : GoQ T p (p.fail a e) := ⟨pfail_deep, by rw [pfail_next]; exact Nat.le_refl _, by rw [pfail_next]; exact h⟩
theorem isQ_ok {T : List Tok} {en : Nat} {p : Pp} {k : Int} (h : isQ T en p k = true) : p.next < T.length := by
  unfold isQ okQ at h; simp at h; exact h.1
theorem goesQ_ok {T : List Tok} {en : Nat} {p : Pp} (h : goesQ T en p = true) : p.e = 0 ∧ p.next < T.length := by
  unfold goesQ okQ at h; simp at h; exact ⟨h.1.1.1, h.1.1.2⟩
structure AllQ (T : List Tok) (en f : Nat) : Prop where
  alt : ∀ p, p.next ≤ T.length → GoQ T p (altQ T en f p).2
  altL : ∀ p l, p.next ≤ T.length → GoQ T p (altL T en f p l).2
  cat : ∀ p, p.next ≤ T.length → GoQ T p (catQ T en f p).2
  catL : ∀ p a l, p.next ≤ T.length → GoQ T p (catL T en f p a l).2
  item : ∀ p x, p.next < T.length → GoQ T p (itemQ T en f p x).2
  group : ∀ p x, p.next < T.length → GoQ T p (groupQ T en f p x).2
theorem allQ (T : List Tok) (en : Nat) : ∀ f, AllQ T en f
  | 0 => by
    refine ⟨fun p h => ?_, fun p l h => ?_, fun p h => ?_, fun p a l h => ?_, fun p x h => ?_, fun p x h => ?_⟩
    · unfold altQ; exact GoQ.refl h
    · unfold altL; exact GoQ.refl h
    · unfold catQ; exact GoQ.refl h
    · unfold catL; exact GoQ.refl h
    · unfold itemQ; exact GoQ.refl (Nat.le_of_lt h)
    · unfold groupQ; exact GoQ.refl (Nat.le_of_lt h)
  | f + 1 => by
    have ih := allQ T en f
    refine ⟨fun p h => ?_, fun p l h => ?_, fun p h => ?_, fun p a l h => ?_, fun p x h => ?_, fun p x h => ?_⟩
    · unfold altQ; exact (ih.cat p h).trans (ih.altL _ _ (ih.cat p h).le)
    · unfold altL
      split
      · rename_i hc
        have h1 := GoQ.adv (isQ_ok hc.2)
        have h2 := ih.cat p.adv h1.le
        exact (h1.trans h2).trans (ih.altL _ _ h2.le)
      · exact GoQ.refl h
    · unfold catQ; exact ih.catL _ _ _ h
    · unfold catL
      split
      · rename_i hc
        have h2 := ih.item p (pkQ T en p) (goesQ_ok hc).2
        exact h2.trans (ih.catL _ _ _ h2.le)
      · exact GoQ.refl h
    · unfold itemQ
      have hm : GoQ T p (if x.kind = 0 then ((.node 1 x.set 0 0 false [] x.src x.to, p.adv) : Syn × Pp) else if x.kind = 1 ∨ x.kind = 2 then groupQ T en f p x else (default, p.fail x.src 4)).2 := by
        split
        · exact GoQ.adv h
        · split
          · exact ih.group p x h
          · exact GoQ.fail (Nat.le_of_lt h)
      generalize (if x.kind = 0 then ((.node 1 x.set 0 0 false [] x.src x.to, p.adv) : Syn × Pp) else if x.kind = 1 ∨ x.kind = 2 then groupQ T en f p x else (default, p.fail x.src 4)) = m at hm
      dsimp only
      split
      · exact hm
      · rename_i hc
        have : isQ T en m.2 5 = true := by
          cases hq : isQ T en m.2 5 with
          | true => rfl
          | false => exact absurd (Or.inr hq) hc
        exact hm.trans (GoQ.adv (isQ_ok this))
    · unfold groupQ
      split
      · exact GoQ.fail (Nat.le_of_lt h)
      · have h1 := ih.alt { p with deep := p.deep + 1, next := p.next + 1 } h
        dsimp only
        have hq : GoQ T p { (altQ T en f { p with deep := p.deep + 1, next := p.next + 1 }).2 with deep := (altQ T en f { p with deep := p.deep + 1, next := p.next + 1 }).2.deep - 1 } :=
          ⟨by have := h1.deep; simp only at this ⊢; omega, by have := h1.ge; simp only at this ⊢; omega, h1.le⟩
        generalize altQ T en f { p with deep := p.deep + 1, next := p.next + 1 } = c at hq h1
        split
        · exact hq
        · split
          · exact hq.trans (GoQ.fail hq.le)
          · rename_i hn
            have : isQ T en { c.2 with deep := c.2.deep - 1 } 3 = true := by
              cases hq' : isQ T en { c.2 with deep := c.2.deep - 1 } 3 with
              | true => rfl
              | false => exact absurd hq' hn
            exact hq.trans (GoQ.adv (isQ_ok this))
theorem group_gt (T : List Tok) (en : Nat) (f : Nat) (p : Pp) (x : Tok) (h : p.next < T.length) (he : (groupQ T en (f + 1) p x).2.e = 0) : p.next < (groupQ T en (f + 1) p x).2.next := by
  unfold groupQ at he ⊢
  split at he
  · exact absurd he (pfail_e (by decide))
  · rename_i hd
    rw [if_neg hd]
    have h1 := (allQ T en f).alt { p with deep := p.deep + 1, next := p.next + 1 } h
    dsimp only at he ⊢
    generalize altQ T en f { p with deep := p.deep + 1, next := p.next + 1 } = c at *
    have := h1.ge
    simp only at this
    split at he
    · rename_i hne; exact absurd he hne
    · rename_i hne
      rw [if_neg hne]
      split at he
      · exact absurd he (pfail_e (by decide))
      · rename_i h3
        rw [if_neg h3]
        show p.next < c.2.next + 1
        omega
theorem item_gt (T : List Tok) (en : Nat) (f : Nat) (p : Pp) (x : Tok) (h : p.next < T.length) (he : (itemQ T en (f + 2) p x).2.e = 0) : p.next < (itemQ T en (f + 2) p x).2.next := by
  unfold itemQ at he ⊢
  have hm : (if x.kind = 0 then ((.node 1 x.set 0 0 false [] x.src x.to, p.adv) : Syn × Pp) else if x.kind = 1 ∨ x.kind = 2 then groupQ T en (f + 1) p x else (default, p.fail x.src 4)).2.e = 0 → p.next < (if x.kind = 0 then ((.node 1 x.set 0 0 false [] x.src x.to, p.adv) : Syn × Pp) else if x.kind = 1 ∨ x.kind = 2 then groupQ T en (f + 1) p x else (default, p.fail x.src 4)).2.next := by
    split
    · intro _; exact Nat.lt_succ_self _
    · split
      · exact group_gt T en f p x h
      · intro he; exact absurd he (pfail_e (by decide))
  generalize (if x.kind = 0 then ((.node 1 x.set 0 0 false [] x.src x.to, p.adv) : Syn × Pp) else if x.kind = 1 ∨ x.kind = 2 then groupQ T en (f + 1) p x else (default, p.fail x.src 4)) = m at *
  dsimp only at he ⊢
  split at he
  · rename_i hc; rw [if_pos hc]; exact hm he
  · rename_i hc
    rw [if_neg hc]
    have : m.2.e = 0 := he
    have := hm this
    show p.next < m.2.next + 1
    omega
end Go.Clt
end
section
set_option linter.unusedVariables false
set_option linter.unusedSimpArgs false
set_option maxRecDepth 4000
namespace Go.Clt
set_option maxHeartbeats 2000000
open Go Go.RowKit Go.Proofs
def AltC (T : List Tok) (A : Option Addr) (c en f : Nat) : Prop := ∀ (p : Pp) (b : Nat) (w : World), 5 * left T p + 5 ≤ f → p.next ≤ T.length → p.deep ≤ 200 → Rd (FR 0 b []) w 10 A T.length (toksC T) → Blk w b (psC A T.length c en p) 202 →
  Calls P 125 #[.pointer (some ⟨b, 0, none⟩)] w (Ret fun v w' => Chg [b] w w' ∧ Blk w' b (psC A T.length c en (altQ T en f p).2) 202 ∧ IsSyn (FR w.heap.size w'.heap.size []) w' (altQ T en f p).1 v)
def CatC (T : List Tok) (A : Option Addr) (c en f : Nat) : Prop := ∀ (p : Pp) (b : Nat) (w : World), 5 * left T p + 4 ≤ f → p.next ≤ T.length → p.deep ≤ 200 → Rd (FR 0 b []) w 10 A T.length (toksC T) → Blk w b (psC A T.length c en p) 202 →
  Calls P 149 #[.pointer (some ⟨b, 0, none⟩)] w (Ret fun v w' => Chg [b] w w' ∧ Blk w' b (psC A T.length c en (catQ T en f p).2) 202 ∧ IsSyn (FR w.heap.size w'.heap.size []) w' (catQ T en f p).1 v)
def ItemC (T : List Tok) (A : Option Addr) (c en f : Nat) : Prop := ∀ (p : Pp) (x : Tok) (b : Nat) (w : World), 5 * left T p + 2 ≤ f → p.next < T.length → p.e = 0 → p.deep ≤ 200 → Rd (FR 0 b []) w 10 A T.length (toksC T) → Blk w b (psC A T.length c en p) 202 →
  Calls P 183 #[.pointer (some ⟨b, 0, none⟩), .agg x.cells.toArray] w (Ret fun v w' => Chg [b] w w' ∧ Blk w' b (psC A T.length c en (itemQ T en f p x).2) 202 ∧ (∃ ad, v = .pointer ad) ∧ ((itemQ T en f p x).2.e = 0 → IsSyn (FR w.heap.size w'.heap.size []) w' (itemQ T en f p x).1 v))
def GroupC (T : List Tok) (A : Option Addr) (c en f : Nat) : Prop := ∀ (p : Pp) (x : Tok) (b : Nat) (w : World), 5 * left T p + 1 ≤ f → p.next < T.length → p.e = 0 → p.deep ≤ 200 → Rd (FR 0 b []) w 10 A T.length (toksC T) → Blk w b (psC A T.length c en p) 202 →
  Calls P 210 #[.pointer (some ⟨b, 0, none⟩), .agg x.cells.toArray] w (Ret fun v w' => Chg [b] w w' ∧ Blk w' b (psC A T.length c en (groupQ T en f p x).2) 202 ∧ (∃ ad, v = .pointer ad) ∧ ((groupQ T en f p x).2.e = 0 → IsSyn (FR w.heap.size w'.heap.size []) w' (groupQ T en f p x).1 v))
theorem isyn_one {F : Nat → Prop} {w : World} {bn bs : Nat} {k mn mx a b : Int} {lz : Bool} {t : Syn} {v : Value} {τ : TypeId} (hn : Blk w bn (nodeC k 0 mn mx lz (.slice (some ⟨bs, 0, none⟩) 1 1) a b) 254) (hs : Blk w bs [v] τ) (hI : IsSyn F w t v) (h1 : F bn) (h2 : F bs) :
    IsSyn F w (.node k 0 mn mx lz [t] a b) (.pointer (some ⟨bn, 0, none⟩)) :=
  ⟨bn, some ⟨bs, 0, none⟩, 1, [v], rfl, h1, hn, hs.rd (m := 1) rfl h2, v, [], rfl, hI, rfl⟩
theorem pgroup_c (T : List Tok) (A : Option Addr) (c en f : Nat) (hT : T.length ≤ 1048576) (hA : AltC T A c en f) : GroupC T A c en (f + 1) := by
  intro p x b w hf hn he hd hr hR
  have hC := Chg.refl [b] w
  have hF : ∀ y, FR 0 b [] y → y < w.heap.size := fun y hy => Nat.lt_trans hy.2.1 hR.lt
  try have hlR := hR.lt
  refine enter Tryz.func210 rfl rfl ?_
  refine EW.seq ?_
  refine EW.reg ?_
  refine EP.new2 rfl (News.box rfl rfl) ?_
  intro b1 w1 hb1 hs1 hx1 hB1
  have hz1 := hx1.size
  replace hC := hC.step0 hx1
  replace hR := hR.chg0 hx1
  replace hr := hr.chg0 hx1
  refine EP.o rfl (Does.assign rfl) ?_
  refine EP.nil ?_
  refine EW.seq ?_
  refine EW.seq ?_
  refine EW.reg ?_
  refine EP.o rfl (Does.move rfl) ?_
  refine EP.o rfl (Does.nilCheck rfl) ?_
  refine EP.o rfl (Does.fieldAddr fl202_1 rfl) ?_
  refine EP.o rfl (Does.loadB o3 rfl (Keeps.now _) (by assumption) (by rfl)) ?_
  refine EP.o rfl (Does.cmp rfl rfl rfl) ?_
  refine EP.nil ?_
  refine EW.cond rfl (fun h1 => ?_) (fun h1 => ?_)
  · try simp at h1
    have hE : groupQ T en (f + 1) p x = (default, p.fail x.src 3) := by unfold groupQ; rw [if_pos (by omega)]
    refine EW.seq ?_
    refine EW.reg ?_
    refine EP.o rfl (Does.move rfl) ?_
    refine EP.o rfl (Does.fieldAddr fl205_1 rfl) ?_
    refine EP.o rfl (Does.loadB o3 rfl (Keeps.now _) (by assumption) (by rfl)) ?_
    refine EP.call2 rfl (Enters.fn fb127 rfl) (pfail_c A T.length c en p b x.src 3 _ (by assumption)) ?_
    rintro _ w2 ⟨rfl, hx2, hR'⟩
    have hz2 := hx2.size
    replace hC := hC.step hx2 (by simp; done)
    replace hr := hr.chg hx2 (by intro x hx hf; have hx := List.mem_singleton.1 hx; have h1 := hf.1; have h2 := hf.2.1; omega)
    replace hB1 := hB1.chg hx2 (by simp; omega)
    clear hR
    have hR := hR'; clear hR'
    refine EP.nil ?_
    refine EW.seq ?_
    refine EW.reg ?_
    refine EP.o rfl (Does.assign rfl) ?_
    refine EP.nil ?_
    refine EW.ret ?_
    refine Fin.one rfl rfl ?_
    rw [hE]
    exact ⟨hC, hR, ⟨_, rfl⟩, fun h => absurd h (pfail_e (by decide))⟩
  · try simp at h1
    have hd' : ¬ 200 ≤ p.deep := by omega
    have hl : left T { p with deep := p.deep + 1, next := p.next + 1 } + 1 = left T p := by unfold left; simp only; omega
    have hgo := (allQ T en f).alt { p with deep := p.deep + 1, next := p.next + 1 } hn
    refine EW.skip ?_
    refine EW.seq ?_
    refine EW.reg ?_
    refine EP.o rfl (Does.move rfl) ?_
    refine EP.o rfl (Does.nilCheck rfl) ?_
    refine EP.o rfl (Does.fieldAddr fl202_1 rfl) ?_
    refine EP.o rfl (Does.loadB o3 rfl (Keeps.now _) (by assumption) (by rfl)) ?_
    refine EP.o rfl (Does.addi rfl rfl (by omega)) ?_
    refine EP.o rfl (Does.nilCheck rfl) ?_
    refine EP.o rfl (Does.fieldAddr fl202_1 rfl) ?_
    refine EP.put2 (Puts.blk sz3 rfl rfl (by assumption) rfl rfl rfl rfl (by simp only [List.take, List.drop, List.append, List.cons_append, List.nil_append]; rfl)) ?_
    intro w3 hs3 hx3 hB3
    have hz3 := hx3.size
    replace hC := hC.step hx3 (by first | (simp; done) | (simp; omega))
    replace hr := hr.chg hx3 (by intro x hx hf; have hx := List.mem_singleton.1 hx; have h1 := hf.1; have h2 := hf.2.1; omega)
    replace hB1 := hB1.chg hx3 (by simp; omega)
    clear hR; have hR := hB3; clear hB3
    refine EP.nil ?_
    refine EW.seq ?_
    refine EW.reg ?_
    refine EP.o rfl (Does.move rfl) ?_
    refine EP.o rfl (Does.nilCheck rfl) ?_
    refine EP.o rfl (Does.fieldAddr fl202_0 rfl) ?_
    refine EP.o rfl (Does.fieldAddr fl200_1 rfl) ?_
    refine EP.o rfl (Does.loadB o3 rfl (Keeps.now _) (by assumption) (by rfl)) ?_
    refine EP.o rfl (Does.addi rfl rfl (by omega)) ?_
    refine EP.o rfl (Does.nilCheck rfl) ?_
    refine EP.o rfl (Does.fieldAddr fl202_0 rfl) ?_
    refine EP.o rfl (Does.fieldAddr fl200_1 rfl) ?_
    refine EP.put2 (Puts.blk sz3 rfl rfl (by assumption) rfl rfl rfl rfl (by simp only [List.take, List.drop, List.append, List.cons_append, List.nil_append]; rfl)) ?_
    intro w4 hs4 hx4 hB4
    have hz4 := hx4.size
    replace hC := hC.step hx4 (by first | (simp; done) | (simp; omega))
    replace hr := hr.chg hx4 (by intro x hx hf; have hx := List.mem_singleton.1 hx; have h1 := hf.1; have h2 := hf.2.1; omega)
    replace hB1 := hB1.chg hx4 (by simp; omega)
    clear hR; have hR := hB4; clear hB4
    refine EP.nil ?_
    refine EW.seq ?_
    refine EW.reg ?_
    refine EP.o rfl (Does.move rfl) ?_
    refine EP.call2 rfl (Enters.fn fb125 rfl) (hA { p with deep := p.deep + 1, next := p.next + 1 } b _ (by omega) hn (by show p.deep + 1 ≤ 200; omega) (by assumption) (by assumption)) ?_
    rintro v5 w5 ⟨hx5, hR', hI'⟩
    have hz5 := hx5.size
    replace hC := hC.step hx5 (by simp; done)
    replace hr := hr.chg hx5 (by intro x hx hf; have hx := List.mem_singleton.1 hx; have h1 := hf.1; have h2 := hf.2.1; omega)
    replace hB1 := hB1.chg hx5 (by simp; omega)
    clear hR
    have hR := hR'; clear hR'
    have hI := hI'; clear hI'
    obtain ⟨pn, _, hv5, _, _, _, _, _⟩ := hI.span
    subst hv5
    have hE : groupQ T en (f + 1) p x = (if ({ (altQ T en f { p with deep := p.deep + 1, next := p.next + 1 }).2 with deep := (altQ T en f { p with deep := p.deep + 1, next := p.next + 1 }).2.deep - 1 } : Pp).e ≠ 0 then (default, { (altQ T en f { p with deep := p.deep + 1, next := p.next + 1 }).2 with deep := (altQ T en f { p with deep := p.deep + 1, next := p.next + 1 }).2.deep - 1 })
          else if isQ T en { (altQ T en f { p with deep := p.deep + 1, next := p.next + 1 }).2 with deep := (altQ T en f { p with deep := p.deep + 1, next := p.next + 1 }).2.deep - 1 } 3 = false then (default, ({ (altQ T en f { p with deep := p.deep + 1, next := p.next + 1 }).2 with deep := (altQ T en f { p with deep := p.deep + 1, next := p.next + 1 }).2.deep - 1 } : Pp).fail en 4)
          else (.node (if x.kind = 2 then 3 else 2) 0 0 0 false [(altQ T en f { p with deep := p.deep + 1, next := p.next + 1 }).1] x.src (lastQ T ({ (altQ T en f { p with deep := p.deep + 1, next := p.next + 1 }).2 with deep := (altQ T en f { p with deep := p.deep + 1, next := p.next + 1 }).2.deep - 1 } : Pp).adv), ({ (altQ T en f { p with deep := p.deep + 1, next := p.next + 1 }).2 with deep := (altQ T en f { p with deep := p.deep + 1, next := p.next + 1 }).2.deep - 1 } : Pp).adv)) := by rw [groupQ, if_neg hd']
    generalize altQ T en f { p with deep := p.deep + 1, next := p.next + 1 } = g at *
    have hgd : g.2.deep = p.deep + 1 := hgo.deep
    have hgl : g.2.next ≤ T.length := hgo.le
    obtain ⟨q, hq⟩ : ∃ q : Pp, q = { g.2 with deep := g.2.deep - 1 } := ⟨_, rfl⟩
    rw [← hq] at hE
    have hqn : q.next = g.2.next := by rw [hq]
    have hqe : q.e = g.2.e := by rw [hq]
    have hqR : psC A T.length c en q = [.slice A T.length c, .int .i64 (g.2.next : Int), .int .i64 (en : Int), .int .i64 ((g.2.deep - 1 : Nat) : Int), .int .i64 g.2.pl, .int .i64 g.2.e] := by rw [hq]
    refine EP.o rfl (Does.assign rfl) ?_
    refine EP.nil ?_
    refine EW.seq ?_
    refine EW.reg ?_
    refine EP.o rfl (Does.move rfl) ?_
    refine EP.o rfl (Does.nilCheck rfl) ?_
    refine EP.o rfl (Does.fieldAddr fl202_1 rfl) ?_
    refine EP.o rfl (Does.loadB o3 rfl (Keeps.now _) (by assumption) (by rfl)) ?_
    refine EP.o rfl (Does.to (Does.subi rfl rfl (by omega)) (vint (show _ = ((g.2.deep - 1 : Nat) : Int) by omega))) ?_
    refine EP.o rfl (Does.nilCheck rfl) ?_
    refine EP.o rfl (Does.fieldAddr fl202_1 rfl) ?_
    refine EP.put2 (Puts.blk sz3 rfl rfl (by assumption) rfl rfl rfl rfl (by simp only [List.take, List.drop, List.append, List.cons_append, List.nil_append]; rfl)) ?_
    intro w6 hs6 hx6 hB6
    have hz6 := hx6.size
    replace hC := hC.step hx6 (by first | (simp; done) | (simp; omega))
    replace hr := hr.chg hx6 (by intro x hx hf; have hx := List.mem_singleton.1 hx; have h1 := hf.1; have h2 := hf.2.1; omega)
    replace hB1 := hB1.chg hx6 (by simp; omega)
    replace hI := hI.chg hx6 (by intro x hx hf; have hx := List.mem_singleton.1 hx; have h1 := hf.1; have h2 := hf.2.1; omega)
    clear hR; have hR := hB6; clear hB6
    refine EP.nil ?_
    refine EW.seq ?_
    refine EW.seq ?_
    refine EW.reg ?_
    refine EP.o rfl (Does.move rfl) ?_
    refine EP.o rfl (Does.nilCheck rfl) ?_
    refine EP.o rfl (Does.fieldAddr fl202_3 rfl) ?_
    refine EP.o rfl (Does.loadB o32 rfl (Keeps.now _) (by assumption) (by rfl)) ?_
    refine EP.o rfl (Does.cmp rfl rfl rfl) ?_
    refine EP.nil ?_
    refine EW.cond rfl (fun h2 => ?_) (fun h2 => ?_)
    · try simp at h2
      refine EW.seq ?_
      refine EW.reg ?_
      refine EP.o rfl (Does.assign rfl) ?_
      refine EP.nil ?_
      refine EW.ret ?_
      refine Fin.one rfl rfl ?_
      rw [← hqe] at h2
      rw [hE, if_pos h2]
      exact ⟨hC, by rw [hqR]; exact hR, ⟨_, rfl⟩, fun h => absurd h h2⟩
    · try simp at h2
      rw [← hqR] at hR
      have h2' : ¬ q.e ≠ 0 := by rw [hqe]; simpa using h2
      rw [if_neg h2'] at hE
      refine EW.skip ?_
      refine EW.seq ?_
      refine EW.seq ?_
      refine EW.reg ?_
      refine EP.o rfl (Does.move rfl) ?_
      refine EP.o rfl (Does.nilCheck rfl) ?_
      refine EP.o rfl (Does.fieldAddr fl202_0 rfl) ?_
      refine EP.call2 rfl (Enters.fn fb150 rfl) (isT_c T (FR 0 b []) A c en q b 3 _ hT (fun y hy => Nat.lt_trans hy.2.1 hR.lt) (by assumption) (by assumption)) ?_
      rintro _ w7 ⟨rfl, hx7⟩
      have hz7 := hx7.size
      replace hC := hC.step0 hx7
      replace hR := hR.chg0 hx7
      replace hr := hr.chg0 hx7
      replace hB1 := hB1.chg0 hx7
      replace hI := hI.chg0 hx7
      refine EP.o rfl (Does.not rfl) ?_
      refine EP.nil ?_
      refine EW.cond rfl (fun h3 => ?_) (fun h3 => ?_)
      · try simp at h3
        refine EW.seq ?_
        refine EW.reg ?_
        refine EP.o rfl (Does.move rfl) ?_
        refine EP.o rfl (Does.move rfl) ?_
        refine EP.o rfl (Does.nilCheck rfl) ?_
        refine EP.o rfl (Does.fieldAddr fl202_0 rfl) ?_
        refine EP.o rfl (Does.fieldAddr fl200_2 rfl) ?_
        refine EP.o rfl (Does.loadB o3 rfl (Keeps.now _) (by assumption) (by rfl)) ?_
        refine EP.call2 rfl (Enters.fn fb127 rfl) (pfail_c A T.length c en q b (en : Int) 4 _ (by assumption)) ?_
        rintro _ w8 ⟨rfl, hx8, hR'⟩
        have hz8 := hx8.size
        replace hC := hC.step hx8 (by simp; done)
        replace hr := hr.chg hx8 (by intro x hx hf; have hx := List.mem_singleton.1 hx; have h1 := hf.1; have h2 := hf.2.1; omega)
        replace hB1 := hB1.chg hx8 (by simp; omega)
        replace hI := hI.chg hx8 (by intro x hx hf; have hx := List.mem_singleton.1 hx; have h1 := hf.1; have h2 := hf.2.1; omega)
        clear hR
        have hR := hR'; clear hR'
        refine EP.nil ?_
        refine EW.seq ?_
        refine EW.reg ?_
        refine EP.o rfl (Does.assign rfl) ?_
        refine EP.nil ?_
        refine EW.ret ?_
        refine Fin.one rfl rfl ?_
        rw [hE, if_pos h3]
        exact ⟨hC, hR, ⟨_, rfl⟩, fun h => absurd h (pfail_e (by decide))⟩
      · try simp at h3
        rw [if_neg (by rw [h3]; simp)] at hE
        have hql := isQ_ok h3
        refine EW.skip ?_
        refine EW.seq ?_
        refine EW.reg ?_
        refine EP.o rfl (Does.move rfl) ?_
        refine EP.o rfl (Does.nilCheck rfl) ?_
        refine EP.o rfl (Does.fieldAddr fl202_0 rfl) ?_
        refine EP.o rfl (Does.fieldAddr fl200_1 rfl) ?_
        refine EP.o rfl (Does.loadB o3 rfl (Keeps.now _) (by assumption) (by rfl)) ?_
        refine EP.o rfl (Does.addi rfl rfl (by omega)) ?_
        refine EP.o rfl (Does.nilCheck rfl) ?_
        refine EP.o rfl (Does.fieldAddr fl202_0 rfl) ?_
        refine EP.o rfl (Does.fieldAddr fl200_1 rfl) ?_
        refine EP.put2 (Puts.blk sz3 rfl rfl (by assumption) rfl rfl rfl rfl (by simp only [List.take, List.drop, List.append, List.cons_append, List.nil_append]; rfl)) ?_
        intro w9 hs9 hx9 hB9
        have hz9 := hx9.size
        replace hC := hC.step hx9 (by first | (simp; done) | (simp; omega))
        replace hr := hr.chg hx9 (by intro x hx hf; have hx := List.mem_singleton.1 hx; have h1 := hf.1; have h2 := hf.2.1; omega)
        replace hB1 := hB1.chg hx9 (by simp; omega)
        replace hI := hI.chg hx9 (by intro x hx hf; have hx := List.mem_singleton.1 hx; have h1 := hf.1; have h2 := hf.2.1; omega)
        clear hR; have hR := hB9; clear hB9
        refine EP.nil ?_
        refine EW.seq ?_
        refine EW.reg ?_
        refine EP.o rfl (Does.assign rfl) ?_
        refine EP.nil ?_
        refine EW.cut (fun e9 wr => Sub [(0, .pointer (some ⟨b, 0, none⟩)), (3, .pointer (some ⟨b1, 0, none⟩)), (5, .pointer (some ⟨pn, 0, none⟩)), (6, .int .i64 (if x.kind = 2 then 3 else 2))] e9 ∧ Chg [b] w wr ∧ Rd (FR 0 b []) wr 10 A T.length (toksC T) ∧ Blk wr b (psC A T.length c en q.adv) 202 ∧ IsSyn (FR w4.heap.size w5.heap.size []) wr g.1 (.pointer (some ⟨pn, 0, none⟩)) ∧ Blk wr b1 x.cells 205 ∧ w5.heap.size ≤ wr.heap.size) ?_ ?_
        · refine EW.seq ?_
          refine EW.reg ?_
          refine EP.o rfl (Does.fieldAddr fl205_0 rfl) ?_
          refine EP.o rfl (Does.loadB o3 rfl (Keeps.now _) (by assumption) (by rfl)) ?_
          refine EP.o rfl (Does.cmp rfl rfl rfl) ?_
          refine EP.nil ?_
          refine EW.cond rfl (fun h4 => ?_) (fun h4 => ?_)
          · try simp at h4
            refine EW.reg ?_
            refine EP.o rfl (Does.assign rfl) ?_
            refine EP.nil ?_
            refine ⟨⟨rfl, rfl, rfl, (lk_int rfl (by rw [if_pos h4])), trivial⟩, ?_⟩
            exact ⟨hC, hr, hR, hI, hB1, by omega⟩
          · try simp at h4
            refine EW.skip ?_
            refine ⟨⟨rfl, rfl, rfl, (lk_int rfl (by rw [if_neg h4])), trivial⟩, ?_⟩
            exact ⟨hC, hr, hR, hI, hB1, by omega⟩
        rintro e9 w9 ⟨hs9, hC, hr, hR, hI, hB1, hsz⟩
        refine EW.sub _ hs9 ?_
        clear hs9 e9
        try have hzw := hC.size
        try have hlR := hR.lt
        try have hlB1 := hB1.lt
        refine EW.cut (fun e9 wr => ∃ bn, Sub [(4, .pointer (some ⟨bn, 0, none⟩))] e9 ∧ Chg [b] w wr ∧ Blk wr b (psC A T.length c en q.adv) 202 ∧ IsSyn (FR w.heap.size wr.heap.size []) wr (.node (if x.kind = 2 then 3 else 2) 0 0 0 false [g.1] x.src (lastQ T q.adv)) (.pointer (some ⟨bn, 0, none⟩))) ?_ ?_
        · refine EW.drwT (S := []) 10 (.two [(0, 0), (0, 1), (0, 3), (0, 4), (0, 5), (0, 6), (0, 7)] 2 (.seg [(1, 8), (0, 9), (2, 10), (2, 11), (2, 12)]) 8 (.seg [(0, 9), (1, 2), (2, 10), (2, 11), (2, 12)])) mo (by kernel_rfl) ?_
          simp only [ET]
          intro w10 hx10 hh10
          have hz10 := hx10.size
          replace hC := hC.step0 hx10
          replace hr := hr.chg0 hx10
          replace hR := hR.chg0 hx10
          replace hI := hI.chg0 hx10
          replace hB1 := hB1.chg0 hx10
          have hCS10 := Chg.refl ([]) w10
          refine EP.f rfl (Does.move rfl) ?_
          refine EP.f rfl (Does.move rfl) ?_
          refine EP.f rfl (Does.fieldAddr fl205_1 rfl) ?_
          refine EP.f rfl (Does.loadBc o3 rfl (by assumption) (by simp; done) (by rfl)) ?_
          refine EP.f rfl (Does.move rfl) ?_
          refine EP.f rfl (Does.nilCheck rfl) ?_
          refine EP.f rfl (Does.fieldAddr fl202_0 rfl) ?_
          refine EP.nil ?_
          refine ⟨?_, ?_⟩
          · refine EP.new1 rfl (News.buildL sl241 Tryz.underlying241 zr149 rfl rfl rfl (by rfl)) ?_
            intro b11 w11 hb11 hs11 hx11 hB11
            have hz11 := hx11.size
            replace hC := hC.step0 hx11
            replace hr := hr.chg0 hx11
            replace hR := hR.chg0 hx11
            replace hI := hI.chg0 hx11
            replace hB1 := hB1.chg0 hx11
            replace hCS10 := hCS10.step0 hx11
            refine ⟨hCS10, ?_⟩
            refine EP.nil ?_
            refine EP.call1 rfl (Enters.fn fb227 rfl) (lastT_c T (FR 0 b []) A c en q.adv b _ hT ⟨Nat.succ_pos _, hql⟩ (fun y hy => Nat.lt_trans hy.2.1 hR.lt) (by assumption) (by assumption)) ?_
            rintro _ w12 ⟨rfl, hx12⟩
            have hz12 := hx12.size
            replace hC := hC.step0 hx12
            replace hr := hr.chg0 hx12
            replace hR := hR.chg0 hx12
            replace hI := hI.chg0 hx12
            replace hB1 := hB1.chg0 hx12
            replace hCS10 := hCS10.step0 hx12
            replace hB11 := hB11.chg0 hx12
            refine ⟨hCS10, ?_⟩
            refine EP.f rfl (Does.buildAL zr252 ar252 rfl (by rfl)) ?_
            refine EP.o rfl (Does.buildSL zr254 pl254 rfl (by rfl)) ?_
            refine EP.new2 rfl (News.box rfl rfl) ?_
            intro b13 w13 hb13 hs13 hx13 hB13
            have hz13 := hx13.size
            replace hC := hC.step0 hx13
            replace hr := hr.chg0 hx13
            replace hR := hR.chg0 hx13
            replace hI := hI.chg0 hx13
            replace hB1 := hB1.chg0 hx13
            replace hB11 := hB11.chg0 hx13
            refine EP.o rfl (Does.assign rfl) ?_
            refine EP.nil ?_
            exact ⟨b13, ⟨rfl, trivial⟩, hC, hR, isyn_one (τ := 149) (by rw [nodeC0]; exact hB13) hB11 (hI.mono (fun y hy _ => ⟨by have := hy.1; omega, by have := hy.2.1; omega, by simp⟩)) ⟨by omega, by omega, by simp⟩ ⟨by omega, by omega, by simp⟩⟩
          · refine EP.call1 rfl (Enters.fn fb227 rfl) (lastT_c T (FR 0 b []) A c en q.adv b _ hT ⟨Nat.succ_pos _, hql⟩ (fun y hy => Nat.lt_trans hy.2.1 hR.lt) (by assumption) (by assumption)) ?_
            rintro _ w14 ⟨rfl, hx14⟩
            have hz14 := hx14.size
            replace hC := hC.step0 hx14
            replace hr := hr.chg0 hx14
            replace hR := hR.chg0 hx14
            replace hI := hI.chg0 hx14
            replace hB1 := hB1.chg0 hx14
            replace hCS10 := hCS10.step0 hx14
            refine ⟨hCS10, ?_⟩
            refine EP.nil ?_
            refine EP.f rfl (Does.buildAL zr252 ar252 rfl (by rfl)) ?_
            refine EP.new1 rfl (News.buildL sl241 Tryz.underlying241 zr149 rfl rfl rfl (by rfl)) ?_
            intro b15 w15 hb15 hs15 hx15 hB15
            have hz15 := hx15.size
            replace hC := hC.step0 hx15
            replace hr := hr.chg0 hx15
            replace hR := hR.chg0 hx15
            replace hI := hI.chg0 hx15
            replace hB1 := hB1.chg0 hx15
            replace hCS10 := hCS10.step0 hx15
            refine ⟨hCS10, ?_⟩
            refine EP.o rfl (Does.buildSL zr254 pl254 rfl (by rfl)) ?_
            refine EP.new2 rfl (News.box rfl rfl) ?_
            intro b16 w16 hb16 hs16 hx16 hB16
            have hz16 := hx16.size
            replace hC := hC.step0 hx16
            replace hr := hr.chg0 hx16
            replace hR := hR.chg0 hx16
            replace hI := hI.chg0 hx16
            replace hB1 := hB1.chg0 hx16
            replace hB15 := hB15.chg0 hx16
            refine EP.o rfl (Does.assign rfl) ?_
            refine EP.nil ?_
            exact ⟨b16, ⟨rfl, trivial⟩, hC, hR, isyn_one (τ := 149) (by rw [nodeC0]; exact hB16) hB15 (hI.mono (fun y hy _ => ⟨by have := hy.1; omega, by have := hy.2.1; omega, by simp⟩)) ⟨by omega, by omega, by simp⟩ ⟨by omega, by omega, by simp⟩⟩
        rintro e9 w10 ⟨bn, hs9, hC, hR, hI⟩
        refine EW.sub _ hs9 ?_
        clear hs9 e9
        try have hzw := hC.size
        refine EW.ret ?_
        refine Fin.one rfl rfl ?_
        rw [hE]
        exact ⟨hC, hR, ⟨_, rfl⟩, fun _ => hI⟩
end Go.Clt
end
section
set_option linter.unusedVariables false
set_option linter.unusedSimpArgs false
set_option maxRecDepth 4000
namespace Go.Clt
set_option maxHeartbeats 2000000
open Go Go.RowKit Go.Proofs
def itemM (T : List Tok) (en f : Nat) (p : Pp) (x : Tok) : Syn × Pp := if x.kind = 0 then (.node 1 x.set 0 0 false [] x.src x.to, p.adv) else if x.kind = 1 ∨ x.kind = 2 then groupQ T en f p x else (default, p.fail x.src 4)
theorem itemQ_eq (T : List Tok) (en f : Nat) (p : Pp) (x : Tok) : itemQ T en (f + 1) p x = if (itemM T en f p x).2.e ≠ 0 ∨ isQ T en (itemM T en f p x).2 5 = false then itemM T en f p x else (.node 6 0 (pkQ T en (itemM T en f p x).2).min (pkQ T en (itemM T en f p x).2).max (pkQ T en (itemM T en f p x).2).lazy [(itemM T en f p x).1] x.src (pkQ T en (itemM T en f p x).2).to, (itemM T en f p x).2.adv) := by rw [itemQ]; rfl
theorem pitem_c (T : List Tok) (A : Option Addr) (c en f : Nat) (hT : T.length ≤ 1048576) (hG : GroupC T A c en f) : ItemC T A c en (f + 1) := by
  intro p x b w hf hn he hd hr hR
  have hC := Chg.refl [b] w
  rw [itemQ_eq]
  have hgo : GoQ T p (itemM T en f p x).2 := by
    unfold itemM
    split
    · exact GoQ.adv hn
    · split
      · exact (allQ T en f).group p x hn
      · exact GoQ.fail (Nat.le_of_lt hn)
  try have hlR := hR.lt
  refine enter Tryz.func183 rfl rfl ?_
  refine EW.seq ?_
  refine EW.reg ?_
  refine EP.new2 rfl (News.box rfl rfl) ?_
  intro b1 w1 hb1 hs1 hx1 hB1
  have hz1 := hx1.size
  replace hC := hC.step0 hx1
  replace hR := hR.chg0 hx1
  replace hr := hr.chg0 hx1
  refine EP.o rfl (Does.assign rfl) ?_
  refine EP.nil ?_
  refine EW.seq ?_
  refine EW.reg ?_
  refine EP.o rfl (Does.assign rfl) ?_
  refine EP.nil ?_
  refine EW.cut (fun e9 wr => ∃ ad, Sub [(0, .pointer (some ⟨b, 0, none⟩)), (3, .pointer (some ⟨b1, 0, none⟩)), (5, .pointer ad)] e9 ∧ Chg [b] w wr ∧ Rd (FR 0 b []) wr 10 A T.length (toksC T) ∧ Blk wr b (psC A T.length c en (itemM T en f p x).2) 202 ∧ Blk wr b1 x.cells 205 ∧ ((itemM T en f p x).2.e = 0 → IsSyn (FR w.heap.size wr.heap.size []) wr (itemM T en f p x).1 (.pointer ad))) ?_ ?_
  · refine EW.seq ?_
    refine EW.reg ?_
    refine EP.o rfl (Does.fieldAddr fl205_0 rfl) ?_
    refine EP.o rfl (Does.loadB o3 rfl (Keeps.now _) (by assumption) (by rfl)) ?_
    refine EP.nil ?_
    refine EW.block ?_
    refine EW.seq ?_
    refine EW.reg ?_
    refine EP.o rfl (Does.cmp rfl rfl rfl) ?_
    refine EP.o rfl (Does.assign rfl) ?_
    refine EP.nil ?_
    refine EW.cond rfl (fun h1 => ?_) (fun h1 => ?_)
    · try simp at h1
      have hM : itemM T en f p x = (.node 1 x.set 0 0 false [] x.src x.to, p.adv) := by unfold itemM; rw [if_pos h1]
      refine EW.seq ?_
      refine EW.reg ?_
      refine EP.o rfl (Does.move rfl) ?_
      refine EP.o rfl (Does.nilCheck rfl) ?_
      refine EP.o rfl (Does.fieldAddr fl202_0 rfl) ?_
      refine EP.o rfl (Does.fieldAddr fl200_1 rfl) ?_
      refine EP.o rfl (Does.loadB o3 rfl (Keeps.now _) (by assumption) (by rfl)) ?_
      refine EP.o rfl (Does.addi rfl rfl (by omega)) ?_
      refine EP.o rfl (Does.nilCheck rfl) ?_
      refine EP.o rfl (Does.fieldAddr fl202_0 rfl) ?_
      refine EP.o rfl (Does.fieldAddr fl200_1 rfl) ?_
      refine EP.put2 (Puts.blk sz3 rfl rfl (by assumption) rfl rfl rfl rfl (by simp only [List.take, List.drop, List.append, List.cons_append, List.nil_append]; rfl)) ?_
      intro w2 hs2 hx2 hB2
      have hz2 := hx2.size
      replace hC := hC.step hx2 (by first | (simp; done) | (simp; omega))
      replace hr := hr.chg hx2 (by intro x hx hf; have hx := List.mem_singleton.1 hx; have h1 := hf.1; have h2 := hf.2.1; omega)
      replace hB1 := hB1.chg hx2 (by simp; omega)
      clear hR; have hR := hB2; clear hB2
      refine EP.nil ?_
      refine EW.reg ?_
      refine EP.o rfl (Does.fieldAddr fl205_3 rfl) ?_
      refine EP.o rfl (Does.loadA ag70 rfl (Keeps.now _) (by assumption) (by rfl) rfl) ?_
      refine EP.o rfl (Does.fieldAddr fl205_1 rfl) ?_
      refine EP.o rfl (Does.loadB o3 rfl (Keeps.now _) (by assumption) (by rfl)) ?_
      refine EP.o rfl (Does.fieldAddr fl205_2 rfl) ?_
      refine EP.o rfl (Does.loadB o3 rfl (Keeps.now _) (by assumption) (by rfl)) ?_
      refine EP.o rfl (Does.buildAL zr252 ar252 rfl (by rfl)) ?_
      refine EP.o rfl (Does.buildSL zr254 pl254 rfl (by rfl)) ?_
      refine EP.new2 rfl (News.box rfl rfl) ?_
      intro b3 w3 hb3 hs3 hx3 hB3
      have hz3 := hx3.size
      replace hC := hC.step0 hx3
      replace hR := hR.chg0 hx3
      replace hr := hr.chg0 hx3
      replace hB1 := hB1.chg0 hx3
      refine EP.o rfl (Does.assign rfl) ?_
      refine EP.nil ?_
      refine ⟨some ⟨b3, 0, none⟩, ⟨rfl, rfl, rfl, trivial⟩, ?_⟩
      rw [hM]
      exact ⟨hC, hr, hR, hB1, fun _ => ⟨b3, none, 0, [], rfl, ⟨by omega, by omega, by simp⟩, hB3, Rd.nil _ _ _ _, rfl⟩⟩
    · try simp at h1
      refine EW.cut (fun e9 wr => Sub [(0, .pointer (some ⟨b, 0, none⟩)), (3, .pointer (some ⟨b1, 0, none⟩)), (5, .pointer none), (34, .bool (decide (x.kind = 1 ∨ x.kind = 2)))] e9 ∧ wr = w1 ∧ Chg [b] w wr) ?_ ?_
      · refine EW.seq ?_
        refine EW.reg ?_
        refine EP.o rfl (Does.cmp rfl rfl rfl) ?_
        refine EP.o rfl (Does.assign rfl) ?_
        refine EP.nil ?_
        refine EW.cond rfl (fun h2 => ?_) (fun h2 => ?_)
        · try simp at h2
          refine EW.skip ?_
          refine ⟨⟨rfl, rfl, rfl, (lk_bool rfl (by rw [Bool.eq_iff_iff, cmpB_eql, decide_eq_true_iff]; omega)), trivial⟩, ?_⟩
          exact ⟨rfl, hC⟩
        · try simp at h2
          refine EW.reg ?_
          refine EP.o rfl (Does.cmp rfl rfl rfl) ?_
          refine EP.o rfl (Does.assign rfl) ?_
          refine EP.nil ?_
          refine ⟨⟨rfl, rfl, rfl, (lk_bool rfl (by rw [Bool.eq_iff_iff, cmpB_eql, decide_eq_true_iff]; omega)), trivial⟩, ?_⟩
          exact ⟨rfl, hC⟩
      rintro e9 w8 ⟨hs9, rfl, hC⟩
      refine EW.sub _ hs9 ?_
      clear hs9 e9
      try have hzw := hC.size
      try have hlR := hR.lt
      try have hlB1 := hB1.lt
      refine EW.cond rfl (fun h3 => ?_) (fun h3 => ?_)
      · try simp at h3
        have hM : itemM T en f p x = groupQ T en f p x := by unfold itemM; rw [if_neg h1, if_pos h3]
        refine EW.reg ?_
        refine EP.o rfl (Does.move rfl) ?_
        refine EP.o rfl (Does.loadA ag205 rfl (Keeps.now _) (by assumption) (by simp only [List.take, List.drop, List.append, List.cons_append, List.nil_append]; rfl) rfl) ?_
        refine EP.call2 rfl (Enters.fn fb210 rfl) (hG p x b _ (by omega) hn he hd (by assumption) (by assumption)) ?_
        rintro _ w4 ⟨hx4, hR', ⟨ad, rfl⟩, hI⟩
        have hz4 := hx4.size
        replace hC := hC.step hx4 (by simp; done)
        replace hr := hr.chg hx4 (by intro x hx hf; have hx := List.mem_singleton.1 hx; have h1 := hf.1; have h2 := hf.2.1; omega)
        replace hB1 := hB1.chg hx4 (by simp; omega)
        clear hR
        have hR := hR'; clear hR'
        refine EP.o rfl (Does.assign rfl) ?_
        refine EP.nil ?_
        refine ⟨ad, ⟨rfl, rfl, rfl, trivial⟩, ?_⟩
        rw [hM]
        exact ⟨hC, hr, hR, hB1, fun h => (hI h).mono (fun y hy _ => ⟨by have := hy.1; omega, hy.2.1, by simp⟩)⟩
      · try simp at h3
        have hM : itemM T en f p x = (default, p.fail x.src 4) := by unfold itemM; rw [if_neg h1, if_neg (by omega)]
        refine EW.reg ?_
        refine EP.o rfl (Does.move rfl) ?_
        refine EP.o rfl (Does.fieldAddr fl205_1 rfl) ?_
        refine EP.o rfl (Does.loadB o3 rfl (Keeps.now _) (by assumption) (by rfl)) ?_
        refine EP.call2 rfl (Enters.fn fb127 rfl) (pfail_c A T.length c en p b x.src 4 _ (by assumption)) ?_
        rintro _ w5 ⟨rfl, hx5, hR'⟩
        have hz5 := hx5.size
        replace hC := hC.step hx5 (by simp; done)
        replace hr := hr.chg hx5 (by intro x hx hf; have hx := List.mem_singleton.1 hx; have h1 := hf.1; have h2 := hf.2.1; omega)
        replace hB1 := hB1.chg hx5 (by simp; omega)
        clear hR
        have hR := hR'; clear hR'
        refine EP.nil ?_
        refine ⟨none, ⟨rfl, rfl, rfl, trivial⟩, ?_⟩
        rw [hM]
        exact ⟨hC, hr, hR, hB1, fun h => absurd h (pfail_e (by decide))⟩
  rintro e9 w9 ⟨ad, hs9, hC, hr, hR, hB1, hmI⟩
  refine EW.sub _ hs9 ?_
  clear hs9 e9
  try have hzw := hC.size
  generalize itemM T en f p x = m at *
  have hml := hgo.le
  try have hlR := hR.lt
  try have hlB1 := hB1.lt
  refine EW.seq ?_
  refine EW.seq ?_
  refine EW.reg ?_
  refine EP.o rfl (Does.move rfl) ?_
  refine EP.o rfl (Does.nilCheck rfl) ?_
  refine EP.o rfl (Does.fieldAddr fl202_3 rfl) ?_
  refine EP.o rfl (Does.loadB o32 rfl (Keeps.now _) (by assumption) (by rfl)) ?_
  refine EP.o rfl (Does.cmp rfl rfl rfl) ?_
  refine EP.o rfl (Does.move rfl) ?_
  refine EP.bsplit (d := 45) rfl (fun g1 => ?_) (fun g1 => ?_)
  · try simp at g1
    refine EP.skp rfl rfl rfl rfl rfl (fun h => by cases h) ?_
    refine EP.skp rfl rfl rfl rfl rfl (fun h => by cases h) ?_
    refine EP.skp rfl rfl rfl rfl rfl (fun h => by cases h) ?_
    refine EP.skp rfl rfl rfl rfl rfl (fun h => by cases h) ?_
    refine EP.skp rfl rfl rfl rfl rfl (fun h => by cases h) ?_
    refine EP.o rfl (Does.pickT rfl rfl) ?_
    refine EP.nil ?_
    refine EW.condT rfl ?_
    refine EW.seq ?_
    refine EW.reg ?_
    refine EP.o rfl (Does.move rfl) ?_
    refine EP.o rfl (Does.assign rfl) ?_
    refine EP.nil ?_
    refine EW.ret ?_
    refine Fin.one rfl rfl ?_
    have g1' : m.2.e ≠ 0 := by simpa using g1
    rw [if_pos (Or.inl g1')]
    exact ⟨hC, hR, ⟨_, rfl⟩, fun h => absurd h g1'⟩
  · try simp at g1
    have g1' : m.2.e = 0 := by simpa using g1
    have hI := hmI g1'
    obtain ⟨pn, _, hv5, _, _, _, _, _⟩ := hI.span
    injection hv5 with hv5
    subst hv5
    refine EP.ung rfl rfl rfl ?_
    refine EP.o rfl (Does.move rfl) ?_
    refine EP.ung rfl rfl rfl ?_
    refine EP.o rfl (Does.nilCheck rfl) ?_
    refine EP.ung rfl rfl rfl ?_
    refine EP.o rfl (Does.fieldAddr fl202_0 rfl) ?_
    refine EP.ung rfl rfl rfl ?_
    refine EP.call2 rfl (Enters.fn fb150 rfl) (isT_c T (FR 0 b []) A c en m.2 b 5 _ hT (fun y hy => Nat.lt_trans hy.2.1 hR.lt) (by assumption) (by assumption)) ?_
    rintro _ w6 ⟨rfl, hx6⟩
    have hz6 := hx6.size
    replace hC := hC.step0 hx6
    replace hr := hr.chg0 hx6
    replace hR := hR.chg0 hx6
    replace hB1 := hB1.chg0 hx6
    replace hI := hI.chg0 hx6
    refine EP.ung rfl rfl rfl ?_
    refine EP.o rfl (Does.not rfl) ?_
    refine EP.o rfl (Does.pickF rfl rfl) ?_
    refine EP.nil ?_
    refine EW.cond rfl (fun g2 => ?_) (fun g2 => ?_)
    · try simp at g2
      refine EW.seq ?_
      refine EW.reg ?_
      refine EP.o rfl (Does.move rfl) ?_
      refine EP.o rfl (Does.assign rfl) ?_
      refine EP.nil ?_
      refine EW.ret ?_
      refine Fin.one rfl rfl ?_
      rw [if_pos (Or.inr g2)]
      exact ⟨hC, hR, ⟨_, rfl⟩, fun h => hI.mono (fun y hy _ => ⟨hy.1, by have := hy.2.1; omega, by simp⟩)⟩
    · try simp at g2
      have hql := isQ_ok g2
      refine EW.skip ?_
      refine EW.seq ?_
      refine EW.reg ?_
      refine EP.o rfl (Does.move rfl) ?_
      refine EP.o rfl (Does.nilCheck rfl) ?_
      refine EP.o rfl (Does.fieldAddr fl202_0 rfl) ?_
      refine EP.call2 rfl (Enters.fn fb126 rfl) (pkT_c T (FR 0 b []) A c en m.2 b _ hT (fun y hy => Nat.lt_trans hy.2.1 hR.lt) (by assumption) (by assumption)) ?_
      rintro _ w7 ⟨rfl, hx7⟩
      have hz7 := hx7.size
      replace hC := hC.step0 hx7
      replace hr := hr.chg0 hx7
      replace hR := hR.chg0 hx7
      replace hB1 := hB1.chg0 hx7
      replace hI := hI.chg0 hx7
      refine EP.o rfl (Does.move rfl) ?_
      refine EP.o rfl (Does.extract rfl rfl) ?_
      refine EP.o rfl (Does.extract rfl rfl) ?_
      refine EP.new2 rfl (News.alloc zr205 rfl) ?_
      intro b8 w8 hb8 hs8 hx8 hB8
      have hz8 := hx8.size
      replace hC := hC.step0 hx8
      replace hr := hr.chg0 hx8
      replace hR := hR.chg0 hx8
      replace hB1 := hB1.chg0 hx8
      replace hI := hI.chg0 hx8
      refine EP.put2 (Puts.blk sz205 rfl rfl (by assumption) rfl rfl rfl rfl (by simp only [List.take, List.drop, List.append, List.cons_append, List.nil_append]; rfl)) ?_
      intro w9 hs9 hx9 hB9
      have hz9 := hx9.size
      replace hC := hC.step hx9 (by first | (simp; done) | (simp; omega))
      replace hr := hr.chg hx9 (by intro x hx hf; have hx := List.mem_singleton.1 hx; have h1 := hf.1; have h2 := hf.2.1; omega)
      replace hR := hR.chg hx9 (by simp; omega)
      replace hB1 := hB1.chg hx9 (by simp; omega)
      replace hI := hI.chg hx9 (by intro x hx hf; have hx := List.mem_singleton.1 hx; have h1 := hf.1; have h2 := hf.2.1; omega)
      clear hB8; have hB8 := hB9; clear hB9
      refine EP.o rfl (Does.assign rfl) ?_
      refine EP.nil ?_
      refine EW.seq ?_
      refine EW.reg ?_
      refine EP.o rfl (Does.move rfl) ?_
      refine EP.o rfl (Does.nilCheck rfl) ?_
      refine EP.o rfl (Does.fieldAddr fl202_0 rfl) ?_
      refine EP.o rfl (Does.fieldAddr fl200_1 rfl) ?_
      refine EP.o rfl (Does.loadB o3 rfl (Keeps.now _) (by assumption) (by rfl)) ?_
      refine EP.o rfl (Does.addi rfl rfl (by omega)) ?_
      refine EP.o rfl (Does.nilCheck rfl) ?_
      refine EP.o rfl (Does.fieldAddr fl202_0 rfl) ?_
      refine EP.o rfl (Does.fieldAddr fl200_1 rfl) ?_
      refine EP.put2 (Puts.blk sz3 rfl rfl (by assumption) rfl rfl rfl rfl (by simp only [List.take, List.drop, List.append, List.cons_append, List.nil_append]; rfl)) ?_
      intro w10 hs10 hx10 hB10
      have hz10 := hx10.size
      replace hC := hC.step hx10 (by first | (simp; done) | (simp; omega))
      replace hr := hr.chg hx10 (by intro x hx hf; have hx := List.mem_singleton.1 hx; have h1 := hf.1; have h2 := hf.2.1; omega)
      replace hB1 := hB1.chg hx10 (by simp; omega)
      replace hI := hI.chg hx10 (by intro x hx hf; have hx := List.mem_singleton.1 hx; have h1 := hf.1; have h2 := hf.2.1; omega)
      replace hB8 := hB8.chg hx10 (by simp; omega)
      clear hR; have hR := hB10; clear hB10
      refine EP.nil ?_
      refine EW.seq ?_
      refine EW.reg ?_
      refine EP.o rfl (Does.fieldAddr fl205_4 rfl) ?_
      refine EP.o rfl (Does.loadB o3 rfl (Keeps.now _) (by assumption) (by rfl)) ?_
      refine EP.o rfl (Does.fieldAddr fl205_5 rfl) ?_
      refine EP.o rfl (Does.loadB o3 rfl (Keeps.now _) (by assumption) (by rfl)) ?_
      refine EP.o rfl (Does.fieldAddr fl205_6 rfl) ?_
      refine EP.o rfl (Does.loadB o4 rfl (Keeps.now _) (by assumption) (by rfl)) ?_
      refine EP.o rfl (Does.move rfl) ?_
      refine EP.new2 rfl (News.buildL sl241 Tryz.underlying241 zr149 rfl rfl rfl (by rfl)) ?_
      intro b11 w11 hb11 hs11 hx11 hB11
      have hz11 := hx11.size
      replace hC := hC.step0 hx11
      replace hr := hr.chg0 hx11
      replace hR := hR.chg0 hx11
      replace hB1 := hB1.chg0 hx11
      replace hI := hI.chg0 hx11
      replace hB8 := hB8.chg0 hx11
      refine EP.o rfl (Does.fieldAddr fl205_1 rfl) ?_
      refine EP.o rfl (Does.loadB o3 rfl (Keeps.now _) (by assumption) (by rfl)) ?_
      refine EP.o rfl (Does.fieldAddr fl205_2 rfl) ?_
      refine EP.o rfl (Does.loadB o3 rfl (Keeps.now _) (by assumption) (by rfl)) ?_
      refine EP.o rfl (Does.buildAL zr252 ar252 rfl (by rfl)) ?_
      refine EP.o rfl (Does.buildSL zr254 pl254 rfl (by rfl)) ?_
      refine EP.new2 rfl (News.box rfl rfl) ?_
      intro b12 w12 hb12 hs12 hx12 hB12
      have hz12 := hx12.size
      replace hC := hC.step0 hx12
      replace hr := hr.chg0 hx12
      replace hR := hR.chg0 hx12
      replace hB1 := hB1.chg0 hx12
      replace hI := hI.chg0 hx12
      replace hB8 := hB8.chg0 hx12
      replace hB11 := hB11.chg0 hx12
      refine EP.o rfl (Does.assign rfl) ?_
      refine EP.nil ?_
      refine EW.ret ?_
      refine Fin.one rfl rfl ?_
      rw [if_neg (by intro h; rcases h with h | h; exact h g1'; rw [g2] at h; cases h)]
      exact ⟨hC, hR, ⟨_, rfl⟩, fun _ => isyn_one (τ := 149) (by rw [nodeC0]; assumption) (by assumption) (hI.mono (fun y hy _ => ⟨hy.1, by have := hy.2.1; omega, by simp⟩)) ⟨by omega, by omega, by simp⟩ ⟨by omega, by omega, by simp⟩⟩
end Go.Clt
end
section
set_option linter.unusedVariables false
set_option linter.unusedSimpArgs false
set_option maxRecDepth 4000
namespace Go.Clt
set_option maxHeartbeats 4000000
open Go Go.RowKit Go.Proofs
theorem catL_stop {T : List Tok} {en : Nat} {q : Pp} (h : goesQ T en q = false) (f : Nat) (a : Int) (l : List Syn) : catL T en f q a l = (catEnd q a l, q) := by
  cases f with
  | zero => unfold catL; rfl
  | succ f => unfold catL; rw [if_neg (by rw [h]; simp)]
theorem goes_e {T : List Tok} {en : Nat} {q : Pp} (h : q.e ≠ 0) : goesQ T en q = false := by unfold goesQ; rw [decide_eq_false h]; rfl
theorem isyn_leaf {F : Nat → Prop} {w : World} {bn c : Nat} {k mn mx a b : Int} {lz : Bool} {s : Nat} (hn : Blk w bn (nodeC k s mn mx lz (.slice none 0 c) a b) 254) (h1 : F bn) : IsSyn F w (.node k s mn mx lz [] a b) (.pointer (some ⟨bn, 0, none⟩)) :=
  ⟨bn, none, c, [], rfl, h1, hn, Rd.nil _ _ _ _, rfl⟩
theorem app_out {A A' : Option Addr} {w : World} (hA : A' = A ∨ ∃ b, A' = some ⟨b, 0, none⟩ ∧ w.heap.size ≤ b) {y : Nat} (h1 : y ∉ blkOf A) (h2 : y < w.heap.size) : y ∉ blkOf A' := by
  rcases hA with rfl | ⟨b, rfl, hb⟩
  · exact h1
  · simp [blkOf]; omega
theorem pcat_c (T : List Tok) (A : Option Addr) (c en f : Nat) (hT : T.length ≤ 1048576) (hI0 : ∀ g, g ≤ f → ItemC T A c en g) : CatC T A c en (f + 1) := by
  intro p b w hf hn hd hr hR
  have hbw := hR.lt
  have hC := Chg.refl [b] w
  try have hlR := hR.lt
  refine enter Tryz.func149 rfl rfl ?_
  refine EW.seq ?_
  refine EW.reg ?_
  refine EP.o rfl (Does.assign rfl) ?_
  refine EP.nil ?_
  refine EW.seq ?_
  refine EW.reg ?_
  refine EP.o rfl (Does.move rfl) ?_
  refine EP.o rfl (Does.nilCheck rfl) ?_
  refine EP.o rfl (Does.fieldAddr fl202_0 rfl) ?_
  refine EP.call2 rfl (Enters.fn fb182 rfl) (atT_c T (FR 0 b []) A c en p b _ hT (fun y hy => Nat.lt_trans hy.2.1 hR.lt) (by assumption) (by assumption)) ?_
  rintro _ w1 ⟨rfl, hx1⟩
  have hz1 := hx1.size
  replace hC := hC.step0 hx1
  replace hR := hR.chg0 hx1
  replace hr := hr.chg0 hx1
  have hcq : catQ T en (f + 1) p = catL T en f p (pkQ T en p).src [] := by rw [catQ]
  rw [hcq]
  generalize (pkQ T en p).src = a0 at *
  generalize hr0 : catL T en f p a0 [] = r at *
  refine EP.o rfl (Does.assign rfl) ?_
  refine EP.nil ?_
  refine EW.seq ?_
  refine EW.reg ?_
  refine EP.o rfl (Does.assign rfl) ?_
  refine EP.nil ?_
  refine EW.cut (fun e9 wr => ∃ q l vs A' c', Sub [(0, .pointer (some ⟨b, 0, none⟩)), (3, .int .i64 a0), (4, .slice A' l.length c')] e9 ∧ Chg [b] w wr ∧ Blk wr b (psC A T.length c en q) 202 ∧ Own wr w.heap.size 149 1 A' l.length c' vs ∧ (q.e = 0 → IsSyns (FR w.heap.size wr.heap.size (blkOf A')) wr l vs) ∧ r = (catEnd q a0 l, q) ∧ (q.e = 0 → l.length ≤ T.length) ∧ w.heap.size ≤ wr.heap.size) ?_ ?_
  · refine EW.block ?_
    refine EW.loop (σ := Nat × Pp × List Syn × List Value × Option Addr × Nat) (fun (g, q, l, vs, A', c') => [(0, .pointer (some ⟨b, 0, none⟩)), (3, .int .i64 a0), (4, .slice A' l.length c')]) (fun (g, q, l, vs, A', c') wr => Chg [b] w wr ∧ Rd (FR 0 b []) wr 10 A T.length (toksC T) ∧ Blk wr b (psC A T.length c en q) 202 ∧ Own wr w.heap.size 149 1 A' l.length c' vs ∧ (q.e = 0 → IsSyns (FR w.heap.size wr.heap.size (blkOf A')) wr l vs) ∧ r = catL T en g q a0 l ∧ (q.e = 0 → 5 * left T q + 3 ≤ g) ∧ GoQ T p q ∧ (q.e = 0 → l.length ≤ q.next) ∧ g ≤ f) (fun (g, q, l, vs, A', c') wr => g) (f, p, [], [], none, 0) ⟨rfl, rfl, rfl, trivial⟩ ?_ ?_
    · exact ⟨hC, hr, hR, Own.nil _ _ _ _, fun _ => rfl, hr0.symm, fun _ => by omega, GoQ.refl hn, fun _ => Nat.zero_le _, Nat.le_refl _⟩
    rintro ⟨g, q, l, vs, A', c'⟩ w9 ⟨hC, hr, hR, hO, hIc, hrr, hfu, hgo, hlq', hgf⟩
    have hOb := hO.blk
    have hqd : q.deep ≤ 200 := by rw [hgo.deep]; exact hd
    have hql := hgo.le
    try have hzw := hC.size
    try have hlR := hR.lt
    refine EW.seq ?_
    refine EW.seq ?_
    refine EW.reg ?_
    refine EP.o rfl (Does.move rfl) ?_
    refine EP.o rfl (Does.nilCheck rfl) ?_
    refine EP.o rfl (Does.fieldAddr fl202_3 rfl) ?_
    refine EP.o rfl (Does.loadB o32 rfl (Keeps.now _) (by assumption) (by rfl)) ?_
    refine EP.o rfl (Does.cmp rfl rfl rfl) ?_
    refine EP.nil ?_
    refine EW.cond rfl (fun h1 => ?_) (fun h1 => ?_)
    · try simp at h1
      have hIs := hIc h1
      have hlq := hlq' h1
      have hfu' := hfu h1
      refine EW.skip ?_
      refine EW.block ?_
      refine EW.seq ?_
      refine EW.reg ?_
      refine EP.o rfl (Does.move rfl) ?_
      refine EP.o rfl (Does.nilCheck rfl) ?_
      refine EP.o rfl (Does.fieldAddr fl202_0 rfl) ?_
      refine EP.call2 rfl (Enters.fn fb126 rfl) (pkT_c T (FR 0 b []) A c en q b _ hT (fun y hy => Nat.lt_trans hy.2.1 hR.lt) (by assumption) (by assumption)) ?_
      rintro _ w2 ⟨rfl, hx2⟩
      have hz2 := hx2.size
      replace hC := hC.step0 hx2
      replace hR := hR.chg0 hx2
      replace hr := hr.chg0 hx2
      replace hO := hO.chg0 hx2
      replace hIs := hIs.chg0 hx2
      refine EP.o rfl (Does.move rfl) ?_
      refine EP.o rfl (Does.extract rfl rfl) ?_
      refine EP.o rfl (Does.extract rfl rfl) ?_
      refine EP.new2 rfl (News.alloc zr205 rfl) ?_
      intro b3 w3 hb3 hs3 hx3 hB3
      have hz3 := hx3.size
      replace hC := hC.step0 hx3
      replace hR := hR.chg0 hx3
      replace hr := hr.chg0 hx3
      replace hO := hO.chg0 hx3
      replace hIs := hIs.chg0 hx3
      refine EP.put2 (Puts.blk sz205 rfl rfl (by assumption) rfl rfl rfl rfl (by simp only [List.take, List.drop, List.append, List.cons_append, List.nil_append]; rfl)) ?_
      intro w4 hs4 hx4 hB4
      have hz4 := hx4.size
      replace hC := hC.step hx4 (by first | (simp; done) | (simp; omega))
      replace hR := hR.chg hx4 (by simp; omega)
      replace hr := hr.chg hx4 (by intro x hx hf; have hx := List.mem_singleton.1 hx; have h1 := hf.1; have h2 := hf.2.1; omega)
      replace hO := hO.chg hx4 (by intro x hx; have hx := List.mem_singleton.1 hx; right; intro h; have := hOb x (by rw [h]; exact List.mem_singleton.2 rfl); omega)
      replace hIs := hIs.chg hx4 (by intro x hx hf; have hx := List.mem_singleton.1 hx; have h1 := hf.1; have h2 := hf.2.1; omega)
      clear hB3; have hB3 := hB4; clear hB4
      refine EP.o rfl (Does.assign rfl) ?_
      refine EP.nil ?_
      refine EW.seq ?_
      refine EW.seq ?_
      refine EW.reg ?_
      refine EP.o rfl (Does.move rfl) ?_
      refine EP.o rfl (Does.not rfl) ?_
      refine EP.o rfl (Does.move rfl) ?_
      refine EP.bsplit (d := 25) rfl (fun h2 => ?_) (fun h2 => ?_)
      · try simp at h2
        have hG : goesQ T en q = false := by unfold goesQ; rw [h2]; simp
        refine EP.skp rfl rfl rfl rfl rfl (fun h => by cases h) ?_
        refine EP.skp rfl rfl rfl rfl rfl (fun h => by cases h) ?_
        refine EP.skp rfl rfl rfl rfl rfl (fun h => by cases h) ?_
        refine EP.o rfl (Does.pickT rfl rfl) ?_
        refine EP.o rfl (Does.move rfl) ?_
        refine EP.skp rfl rfl rfl rfl rfl (fun h => by cases h) ?_
        refine EP.skp rfl rfl rfl rfl rfl (fun h => by cases h) ?_
        refine EP.skp rfl rfl rfl rfl rfl (fun h => by cases h) ?_
        refine EP.o rfl (Does.pickT rfl rfl) ?_
        refine EP.nil ?_
        refine EW.condT rfl ?_
        refine EW.exit (brk_past rfl (brk_here ?_))
        refine ⟨q, l, vs, A', c', ⟨rfl, rfl, rfl, trivial⟩, ?_⟩
        exact ⟨hC, hR, hO, fun _ => hIs.mono (fun y hy _ => ⟨hy.1, by have := hy.2.1; omega, hy.2.2⟩), by rw [hrr, catL_stop hG], fun _ => by omega, by omega⟩
      · try simp at h2
        refine EP.ung rfl rfl rfl ?_
        refine EP.o rfl (Does.fieldAddr fl205_0 rfl) ?_
        refine EP.ung rfl rfl rfl ?_
        refine EP.o rfl (Does.loadB o3 rfl (Keeps.now _) (by assumption) (by rfl)) ?_
        refine EP.ung rfl rfl rfl ?_
        refine EP.o rfl (Does.cmp rfl rfl rfl) ?_
        refine EP.o rfl (Does.pickF rfl rfl) ?_
        refine EP.o rfl (Does.move rfl) ?_
        refine EP.bsplit (d := 30) rfl (fun h3 => ?_) (fun h3 => ?_)
        · try simp at h3
          have hG : goesQ T en q = false := by unfold goesQ; rw [decide_eq_true h3]; simp
          refine EP.skp rfl rfl rfl rfl rfl (fun h => by cases h) ?_
          refine EP.skp rfl rfl rfl rfl rfl (fun h => by cases h) ?_
          refine EP.skp rfl rfl rfl rfl rfl (fun h => by cases h) ?_
          refine EP.o rfl (Does.pickT rfl rfl) ?_
          refine EP.nil ?_
          refine EW.condT rfl ?_
          refine EW.exit (brk_past rfl (brk_here ?_))
          refine ⟨q, l, vs, A', c', ⟨rfl, rfl, rfl, trivial⟩, ?_⟩
          exact ⟨hC, hR, hO, fun _ => hIs.mono (fun y hy _ => ⟨hy.1, by have := hy.2.1; omega, hy.2.2⟩), by rw [hrr, catL_stop hG], fun _ => by omega, by omega⟩
        · try simp at h3
          refine EP.ung rfl rfl rfl ?_
          refine EP.o rfl (Does.fieldAddr fl205_0 rfl) ?_
          refine EP.ung rfl rfl rfl ?_
          refine EP.o rfl (Does.loadB o3 rfl (Keeps.now _) (by assumption) (by rfl)) ?_
          refine EP.ung rfl rfl rfl ?_
          refine EP.o rfl (Does.cmp rfl rfl rfl) ?_
          refine EP.o rfl (Does.pickF rfl rfl) ?_
          refine EP.nil ?_
          refine EW.cond rfl (fun h4 => ?_) (fun h4 => ?_)
          · try simp at h4
            have hG : goesQ T en q = false := by unfold goesQ; rw [decide_eq_true h4]; simp
            refine EW.exit (brk_past rfl (brk_here ?_))
            refine ⟨q, l, vs, A', c', ⟨rfl, rfl, rfl, trivial⟩, ?_⟩
            exact ⟨hC, hR, hO, fun _ => hIs.mono (fun y hy _ => ⟨hy.1, by have := hy.2.1; omega, hy.2.2⟩), by rw [hrr, catL_stop hG], fun _ => by omega, by omega⟩
          · try simp at h4
            have hG : goesQ T en q = true := by unfold goesQ; rw [h2, decide_eq_true h1, decide_eq_false h3, decide_eq_false h4]; rfl
            have hqn : q.next < T.length := (goesQ_ok hG).2
            have hlf : 1 ≤ left T q := by unfold left; omega
            obtain ⟨g, rfl⟩ : ∃ k, g = k + 1 := ⟨g - 1, by omega⟩
            have hcl : catL T en (g + 1) q a0 l = catL T en g (itemQ T en g q (pkQ T en q)).2 a0 (l ++ [(itemQ T en g q (pkQ T en q)).1]) := by rw [catL, if_pos hG]
            refine EW.skip ?_
            refine EW.reg ?_
            refine EP.o rfl (Does.move rfl) ?_
            refine EP.o rfl (Does.move rfl) ?_
            refine EP.o rfl (Does.loadA ag205 rfl (Keeps.now _) (by assumption) (by simp only [List.take, List.drop, List.append, List.cons_append, List.nil_append]; rfl) rfl) ?_
            refine EP.call2 rfl (Enters.fn fb183 rfl) (hI0 g (by omega) q (pkQ T en q) b _ (by omega) hqn h1 hqd (by assumption) (by assumption)) ?_
            rintro _ w5 ⟨hx5, hR', ⟨ad, rfl⟩, hV⟩
            have hz5 := hx5.size
            replace hC := hC.step hx5 (by simp; done)
            replace hr := hr.chg hx5 (by intro x hx hf; have hx := List.mem_singleton.1 hx; have h1 := hf.1; have h2 := hf.2.1; omega)
            replace hO := hO.chg hx5 (by intro x hx; simp at hx; left; omega)
            replace hIs := hIs.chg hx5 (by intro x hx hf; have hx := List.mem_singleton.1 hx; have h1 := hf.1; have h2 := hf.2.1; omega)
            replace hB3 := hB3.chg hx5 (by simp; omega)
            clear hR
            have hR := hR'; clear hR'
            have hgi := (allQ T en g).item q (pkQ T en q) hqn
            have hgt : (itemQ T en g q (pkQ T en q)).2.e = 0 → q.next < (itemQ T en g q (pkQ T en q)).2.next := by
              obtain ⟨k, rfl⟩ : ∃ k, g = k + 2 := ⟨g - 2, by omega⟩
              exact item_gt T en k q _ hqn
            rw [hcl] at hrr
            generalize (itemQ T en g q (pkQ T en q)) = m at *
            have hll : (l ++ [m.1]).length = l.length + 1 := by simp
            have hge := hgi.ge
            have hmle := hgi.le
            by_cases he : m.2.e = 0
            · have hgt' := hgt he
              have hIv := hV he
              refine EP.new2 rfl (News.buildL sl241 Tryz.underlying241 zr149 rfl rfl rfl (by rfl)) ?_
              intro b6 w6 hb6 hs6 hx6 hB6
              have hz6 := hx6.size
              replace hC := hC.step0 hx6
              replace hR := hR.chg0 hx6
              replace hr := hr.chg0 hx6
              replace hO := hO.chg0 hx6
              replace hIs := hIs.chg0 hx6
              replace hB3 := hB3.chg0 hx6
              replace hIv := hIv.chg0 hx6
              refine EP.append2 rfl el241 rfl rfl hO (Blk.rd (F := fun _ => True) (by assumption) rfl trivial) (by rfl) (by omega) (by omega) ?_
              intro A' c' w7 hO7 hx7 hA'
              have hz7 := hx7.size
              replace hC := hC.step hx7 (by intro x h; have := hOb x h; exact .inr (by omega))
              replace hR := hR.chg hx7 (by intro h; have := hOb _ h; omega)
              replace hr := hr.chg hx7 (by intro x hx hf; have := hOb x hx; have h1 := hf.1; have h2 := hf.2.1; omega)
              replace hIs := hIs.chg hx7 (by intro x hx hf; exact hf.2.2 hx)
              replace hB3 := hB3.chg hx7 (by intro h; have := hOb _ h; omega)
              replace hIv := hIv.chg hx7 (by intro x hx hf; have := hOb x hx; have h1 := hf.1; have h2 := hf.2.1; omega)
              replace hB6 := hB6.chg hx7 (by intro h; have := hOb _ h; omega)
              clear hO; have hO := hO7; clear hO7
              refine EP.o rfl (Does.assign rfl) ?_
              refine EP.nil ?_
              refine ⟨(g, m.2, l ++ [m.1], vs ++ [.pointer ad], A', c'), ⟨rfl, rfl, (lk_val rfl (by rw [hll])), trivial⟩, ?_, ?_⟩
              refine ⟨hC, hr, hR, by rw [hll]; exact hO, fun _ => IsSyns.append ?_ ?_, hrr, fun _ => ?_, hgo.trans hgi, fun _ => by omega, by omega⟩
              exact hIv.mono (fun y hy _ => ⟨by have := hy.1; omega, by have := hy.2.1; omega, app_out hA' (fun hm => by have := hOb y hm; have := hy.1; omega) (by have := hy.2.1; omega)⟩)
              exact hIs.mono (fun y hy _ => ⟨hy.1, by have := hy.2.1; omega, app_out hA' hy.2.2 (by have := hy.2.1; omega)⟩)
              unfold left at *; omega
              exact Nat.lt_succ_self g
            · refine EP.new2 rfl (News.buildL sl241 Tryz.underlying241 zr149 rfl rfl rfl (by rfl)) ?_
              intro b8 w8 hb8 hs8 hx8 hB8
              have hz8 := hx8.size
              replace hC := hC.step0 hx8
              replace hR := hR.chg0 hx8
              replace hr := hr.chg0 hx8
              replace hO := hO.chg0 hx8
              replace hIs := hIs.chg0 hx8
              replace hB3 := hB3.chg0 hx8
              refine EP.append2 rfl el241 rfl rfl hO (Blk.rd (F := fun _ => True) (by assumption) rfl trivial) (by rfl) (by omega) (by omega) ?_
              intro A' c' w9 hO9 hx9 hA'
              have hz9 := hx9.size
              replace hC := hC.step hx9 (by intro x h; have := hOb x h; exact .inr (by omega))
              replace hR := hR.chg hx9 (by intro h; have := hOb _ h; omega)
              replace hr := hr.chg hx9 (by intro x hx hf; have := hOb x hx; have h1 := hf.1; have h2 := hf.2.1; omega)
              replace hIs := hIs.chg hx9 (by intro x hx hf; exact hf.2.2 hx)
              replace hB3 := hB3.chg hx9 (by intro h; have := hOb _ h; omega)
              replace hB8 := hB8.chg hx9 (by intro h; have := hOb _ h; omega)
              clear hO; have hO := hO9; clear hO9
              refine EP.o rfl (Does.assign rfl) ?_
              refine EP.nil ?_
              refine ⟨(g, m.2, l ++ [m.1], vs ++ [.pointer ad], A', c'), ⟨rfl, rfl, (lk_val rfl (by rw [hll])), trivial⟩, ?_, ?_⟩
              refine ⟨hC, hr, hR, by rw [hll]; exact hO, fun h => absurd h he, hrr, fun h => absurd h he, hgo.trans hgi, fun h => absurd h he, by omega⟩
              exact Nat.lt_succ_self g
    · try simp at h1
      refine EW.exit (brk_here ?_)
      refine ⟨q, l, vs, A', c', ⟨rfl, rfl, rfl, trivial⟩, ?_⟩
      exact ⟨hC, hR, hO, fun h => absurd h h1, by rw [hrr, catL_stop (goes_e h1)], fun h => absurd h h1, by omega⟩
  rintro e9 w9 ⟨q, l, vs, A', c', hs9, hC, hR, hO, hIc, hrr, hll, hsz⟩
  refine EW.sub _ hs9 ?_
  clear hs9 e9
  try have hzw := hC.size
  rw [hrr]
  try have hlR := hR.lt
  refine EW.seq ?_
  refine EW.seq ?_
  refine EW.reg ?_
  refine EP.o rfl (Does.move rfl) ?_
  refine EP.o rfl (Does.nilCheck rfl) ?_
  refine EP.o rfl (Does.fieldAddr fl202_3 rfl) ?_
  refine EP.o rfl (Does.loadB o32 rfl (Keeps.now _) (by assumption) (by rfl)) ?_
  refine EP.o rfl (Does.cmp rfl rfl rfl) ?_
  refine EP.o rfl (Does.move rfl) ?_
  refine EP.bsplit (d := 46) rfl (fun g1 => ?_) (fun g1 => ?_)
  · try simp at g1
    have g1' : q.e ≠ 0 := by simpa using g1
    refine EP.skp rfl rfl rfl rfl rfl (fun h => by cases h) ?_
    refine EP.skp rfl rfl rfl rfl rfl (fun h => by cases h) ?_
    refine EP.skp rfl rfl rfl rfl rfl (fun h => by cases h) ?_
    refine EP.o rfl (Does.pickT rfl rfl) ?_
    refine EP.nil ?_
    refine EW.condT rfl ?_
    refine EW.seq ?_
    refine EW.reg ?_
    refine EP.o rfl (Does.move rfl) ?_
    refine EP.o rfl (Does.move rfl) ?_
    refine EP.o rfl (Does.buildAL zr252 ar252 rfl (by rfl)) ?_
    refine EP.o rfl (Does.buildSL zr254 pl254 rfl (by rfl)) ?_
    refine EP.new2 rfl (News.box rfl rfl) ?_
    intro b10 w10 hb10 hs10 hx10 hB10
    have hz10 := hx10.size
    replace hC := hC.step0 hx10
    replace hR := hR.chg0 hx10
    replace hO := hO.chg0 hx10
    refine EP.o rfl (Does.assign rfl) ?_
    refine EP.nil ?_
    refine EW.ret ?_
    refine Fin.one rfl rfl ?_
    have hE : catEnd q a0 l = .node 0 0 0 0 false [] a0 a0 := by unfold catEnd; rw [if_pos (Or.inl g1')]
    refine ⟨hC, hR, ?_⟩
    rw [show (catEnd q a0 l, q).1 = Syn.node 0 0 0 0 false [] a0 a0 from hE]
    exact isyn_leaf (c := 0) (by rw [nodeC0]; assumption) ⟨by omega, by omega, by simp⟩
  · try simp at g1
    have g1' : q.e = 0 := by simpa using g1
    have hIs := hIc g1'
    have hll' := hll g1'
    refine EP.ung rfl rfl rfl ?_
    refine EP.o rfl (Does.move rfl) ?_
    refine EP.ung rfl rfl rfl ?_
    refine EP.o rfl (Does.lenL Tryz.underlying241 rfl) ?_
    refine EP.ung rfl rfl rfl ?_
    refine EP.o rfl (Does.cmp rfl rfl rfl) ?_
    refine EP.o rfl (Does.pickF rfl rfl) ?_
    refine EP.nil ?_
    refine EW.cond rfl (fun g2 => ?_) (fun g2 => ?_)
    · try simp at g2
      refine EW.seq ?_
      refine EW.reg ?_
      refine EP.o rfl (Does.move rfl) ?_
      refine EP.o rfl (Does.move rfl) ?_
      refine EP.o rfl (Does.buildAL zr252 ar252 rfl (by rfl)) ?_
      refine EP.o rfl (Does.buildSL zr254 pl254 rfl (by rfl)) ?_
      refine EP.new2 rfl (News.box rfl rfl) ?_
      intro b11 w11 hb11 hs11 hx11 hB11
      have hz11 := hx11.size
      replace hC := hC.step0 hx11
      replace hR := hR.chg0 hx11
      replace hO := hO.chg0 hx11
      replace hIs := hIs.chg0 hx11
      refine EP.o rfl (Does.assign rfl) ?_
      refine EP.nil ?_
      refine EW.ret ?_
      refine Fin.one rfl rfl ?_
      have hE : catEnd q a0 l = .node 0 0 0 0 false [] a0 a0 := by unfold catEnd; rw [if_pos (Or.inr (by rw [g2]; rfl))]
      refine ⟨hC, hR, ?_⟩
      rw [show (catEnd q a0 l, q).1 = Syn.node 0 0 0 0 false [] a0 a0 from hE]
      exact isyn_leaf (c := 0) (by rw [nodeC0]; assumption) ⟨by omega, by omega, by simp⟩
    · try simp at g2
      have hE : catEnd q a0 l = manyQ 4 l := by unfold catEnd; rw [if_neg (by intro h; rcases h with h | h; exact h g1'; exact g2 (List.length_eq_zero_iff.1 h))]
      refine EW.skip ?_
      refine EW.seq ?_
      refine EW.reg ?_
      refine EP.o rfl (Does.move rfl) ?_
      refine EP.call2 rfl (Enters.fn fb151 rfl) (many_c 4 l vs (FR w.heap.size w9.heap.size []) A' c' _ (List.length_pos_iff.2 g2) (by omega) (fun y hy => by have := hy.2.1; omega) (hO.rd (fun y h1 h2 => ⟨h1, by omega, by simp⟩)) (hIs.mono (fun y hy _ => ⟨hy.1, hy.2.1, by simp⟩))) ?_
      rintro v5 w12 ⟨hx12, hV⟩
      have hz12 := hx12.size
      replace hC := hC.step0 hx12
      replace hR := hR.chg0 hx12
      replace hO := hO.chg0 hx12
      replace hIs := hIs.chg0 hx12
      refine EP.o rfl (Does.assign rfl) ?_
      refine EP.nil ?_
      refine EW.ret ?_
      refine Fin.one rfl rfl ?_
      refine ⟨hC, hR, ?_⟩
      rw [show (catEnd q a0 l, q).1 = manyQ 4 l from hE]
      exact hV.mono (fun y hy hyl => ⟨by rcases hy with hy | hy; exact hy.1; omega, hyl, by simp⟩)
end Go.Clt
end
section
set_option linter.unusedVariables false
set_option linter.unusedSimpArgs false
set_option maxRecDepth 4000
namespace Go.Clt
set_option maxHeartbeats 4000000
open Go Go.RowKit Go.Proofs
theorem altL_stop {T : List Tok} {en : Nat} {q : Pp} (h : ¬ (q.e = 0 ∧ isQ T en q 4 = true)) (f : Nat) (l : List Syn) : altL T en f q l = (manyQ 5 l, q) := by
  cases f with
  | zero => unfold altL; rfl
  | succ f => unfold altL; rw [if_neg h]
theorem palt_c (T : List Tok) (A : Option Addr) (c en f : Nat) (hT : T.length ≤ 1048576) (hC0 : ∀ g, g ≤ f → CatC T A c en g) : AltC T A c en (f + 1) := by
  intro p b w hf hn hd hr hR
  have hbw := hR.lt
  have hC := Chg.refl [b] w
  have hgc := (allQ T en f).cat p hn
  try have hlR := hR.lt
  refine enter Tryz.func125 rfl rfl ?_
  refine EW.seq ?_
  refine EW.reg ?_
  refine EP.o rfl (Does.assign rfl) ?_
  refine EP.nil ?_
  refine EW.seq ?_
  refine EW.reg ?_
  refine EP.o rfl (Does.move rfl) ?_
  refine EP.call2 rfl (Enters.fn fb149 rfl) (hC0 f (Nat.le_refl _) p b _ (by omega) hn hd (by assumption) (by assumption)) ?_
  rintro v5 w1 ⟨hx1, hR', hI'⟩
  have hz1 := hx1.size
  replace hC := hC.step hx1 (by simp; done)
  replace hr := hr.chg hx1 (by intro x hx hf; have hx := List.mem_singleton.1 hx; have h1 := hf.1; have h2 := hf.2.1; omega)
  clear hR
  have hR := hR'; clear hR'
  have hI := hI'; clear hI'
  obtain ⟨pn, _, hv5, _, _, _, _, _⟩ := hI.span
  subst hv5
  rw [altQ]
  generalize hr0 : altL T en f (catQ T en f p).2 [(catQ T en f p).1] = r at *
  generalize catQ T en f p = m at *
  refine EP.new2 rfl (News.buildL sl241 Tryz.underlying241 zr149 rfl rfl rfl (by rfl)) ?_
  intro b2 w2 hb2 hs2 hx2 hB2
  have hz2 := hx2.size
  replace hC := hC.step0 hx2
  replace hR := hR.chg0 hx2
  replace hr := hr.chg0 hx2
  replace hI := hI.chg0 hx2
  refine EP.o rfl (Does.assign rfl) ?_
  refine EP.nil ?_
  refine EW.cut (fun e9 wr => ∃ q l vs A' c', Sub [(0, .pointer (some ⟨b, 0, none⟩)), (3, .slice A' l.length c')] e9 ∧ Chg [b] w wr ∧ Blk wr b (psC A T.length c en q) 202 ∧ Own wr w.heap.size 149 1 A' l.length c' vs ∧ IsSyns (FR w.heap.size wr.heap.size (blkOf A')) wr l vs ∧ r = (manyQ 5 l, q) ∧ l.length ≤ T.length + 1 ∧ 0 < l.length) ?_ ?_
  · have hO := hB2.own (sz := 1) (m := 1) (lo := w.heap.size) rfl (by omega) (by omega)
    refine EW.block ?_
    refine EW.loop (σ := Nat × Pp × List Syn × List Value × Option Addr × Nat) (fun (g, q, l, vs, A', c') => [(0, .pointer (some ⟨b, 0, none⟩)), (3, .slice A' l.length c')]) (fun (g, q, l, vs, A', c') wr => Chg [b] w wr ∧ Rd (FR 0 b []) wr 10 A T.length (toksC T) ∧ Blk wr b (psC A T.length c en q) 202 ∧ Own wr w.heap.size 149 1 A' l.length c' vs ∧ IsSyns (FR w.heap.size wr.heap.size (blkOf A')) wr l vs ∧ r = altL T en g q l ∧ (q.e = 0 → 5 * left T q + 4 ≤ g) ∧ GoQ T p q ∧ l.length ≤ q.next + 1 ∧ g ≤ f ∧ 0 < l.length) (fun (g, q, l, vs, A', c') wr => g) (f, m.2, [m.1], [.pointer (some ⟨pn, 0, none⟩)], some ⟨b2, 0, none⟩, 1) ⟨rfl, rfl, trivial⟩ ?_ ?_
    · refine ⟨hC, hr, hR, hO, ⟨_, [], rfl, hI.mono (fun y hy _ => ⟨hy.1, by have := hy.2.1; omega, ?_⟩), rfl⟩, hr0.symm, fun _ => ?_, hgc, by show 1 ≤ _; omega, Nat.le_refl _, Nat.succ_pos _⟩
      simp [blkOf]
      have := hy.2.1
      omega
      have := hgc.ge
      have : left T m.2 ≤ left T p := by unfold left; omega
      show _ ≤ f
      omega
    rintro ⟨g, q, l, vs, A', c'⟩ w9 ⟨hC, hr, hR, hO, hIs, hrr, hfu, hgo, hlq, hgf, hl0⟩
    have hOb := hO.blk
    have hqd : q.deep ≤ 200 := by rw [hgo.deep]; exact hd
    have hql := hgo.le
    try have hzw := hC.size
    try have hlR := hR.lt
    refine EW.seq ?_
    refine EW.seq ?_
    refine EW.reg ?_
    refine EP.o rfl (Does.move rfl) ?_
    refine EP.o rfl (Does.nilCheck rfl) ?_
    refine EP.o rfl (Does.fieldAddr fl202_3 rfl) ?_
    refine EP.o rfl (Does.loadB o32 rfl (Keeps.now _) (by assumption) (by rfl)) ?_
    refine EP.o rfl (Does.cmp rfl rfl rfl) ?_
    refine EP.o rfl (Does.move rfl) ?_
    refine EP.bsplit (d := 12) rfl (fun h1 => ?_) (fun h1 => ?_)
    · try simp at h1
      have hfu' := hfu h1
      refine EP.ung rfl rfl rfl ?_
      refine EP.o rfl (Does.move rfl) ?_
      refine EP.ung rfl rfl rfl ?_
      refine EP.o rfl (Does.nilCheck rfl) ?_
      refine EP.ung rfl rfl rfl ?_
      refine EP.o rfl (Does.fieldAddr fl202_0 rfl) ?_
      refine EP.ung rfl rfl rfl ?_
      refine EP.call2 rfl (Enters.fn fb150 rfl) (isT_c T (FR 0 b []) A c en q b 4 _ hT (fun y hy => Nat.lt_trans hy.2.1 hR.lt) (by assumption) (by assumption)) ?_
      rintro _ w3 ⟨rfl, hx3⟩
      have hz3 := hx3.size
      replace hC := hC.step0 hx3
      replace hR := hR.chg0 hx3
      replace hr := hr.chg0 hx3
      replace hO := hO.chg0 hx3
      replace hIs := hIs.chg0 hx3
      refine EP.o rfl (Does.pickT rfl rfl) ?_
      refine EP.nil ?_
      refine EW.cond rfl (fun h2 => ?_) (fun h2 => ?_)
      · try simp at h2
        have hqn := isQ_ok h2
        have hadv := GoQ.adv hqn
        have hlf : left T q.adv + 1 = left T q := by unfold left; show _ - (q.next + 1) + 1 = _; omega
        obtain ⟨g, rfl⟩ : ∃ k, g = k + 1 := ⟨g - 1, by omega⟩
        have hcl : altL T en (g + 1) q l = altL T en g (catQ T en g q.adv).2 (l ++ [(catQ T en g q.adv).1]) := by rw [altL, if_pos ⟨h1, h2⟩]
        refine EW.skip ?_
        refine EW.block ?_
        refine EW.seq ?_
        refine EW.reg ?_
        refine EP.o rfl (Does.move rfl) ?_
        refine EP.o rfl (Does.nilCheck rfl) ?_
        refine EP.o rfl (Does.fieldAddr fl202_0 rfl) ?_
        refine EP.o rfl (Does.fieldAddr fl200_1 rfl) ?_
        refine EP.o rfl (Does.loadB o3 rfl (Keeps.now _) (by assumption) (by rfl)) ?_
        refine EP.o rfl (Does.addi rfl rfl (by omega)) ?_
        refine EP.o rfl (Does.nilCheck rfl) ?_
        refine EP.o rfl (Does.fieldAddr fl202_0 rfl) ?_
        refine EP.o rfl (Does.fieldAddr fl200_1 rfl) ?_
        refine EP.put2 (Puts.blk sz3 rfl rfl (by assumption) rfl rfl rfl rfl (by simp only [List.take, List.drop, List.append, List.cons_append, List.nil_append]; rfl)) ?_
        intro w4 hs4 hx4 hB4
        have hz4 := hx4.size
        replace hC := hC.step hx4 (by first | (simp; done) | (simp; omega))
        replace hr := hr.chg hx4 (by intro x hx hf; have hx := List.mem_singleton.1 hx; have h1 := hf.1; have h2 := hf.2.1; omega)
        replace hO := hO.chg hx4 (by intro x hx; simp at hx; left; omega)
        replace hIs := hIs.chg hx4 (by intro x hx hf; have hx := List.mem_singleton.1 hx; have h1 := hf.1; have h2 := hf.2.1; omega)
        clear hR; have hR := hB4; clear hB4
        refine EP.nil ?_
        refine EW.reg ?_
        refine EP.o rfl (Does.move rfl) ?_
        refine EP.o rfl (Does.move rfl) ?_
        refine EP.call2 rfl (Enters.fn fb149 rfl) (hC0 g (by omega) q.adv b _ (by omega) hqn hqd (by assumption) (by assumption)) ?_
        rintro v7 w5 ⟨hx5, hR', hIv'⟩
        have hz5 := hx5.size
        replace hC := hC.step hx5 (by simp; done)
        replace hr := hr.chg hx5 (by intro x hx hf; have hx := List.mem_singleton.1 hx; have h1 := hf.1; have h2 := hf.2.1; omega)
        replace hO := hO.chg hx5 (by intro x hx; simp at hx; left; omega)
        replace hIs := hIs.chg hx5 (by intro x hx hf; have hx := List.mem_singleton.1 hx; have h1 := hf.1; have h2 := hf.2.1; omega)
        clear hR
        have hR := hR'; clear hR'
        have hIv := hIv'; clear hIv'
        obtain ⟨pv, _, hv7, _, _, _, _, _⟩ := hIv.span
        subst hv7
        have hgi := (allQ T en g).cat q.adv hqn
        rw [hcl] at hrr
        generalize catQ T en g q.adv = m7 at *
        have hll : (l ++ [m7.1]).length = l.length + 1 := by simp
        have hge := hgi.ge
        have hge2 : q.next + 1 ≤ m7.2.next := hge
        have hmle := hgi.le
        refine EP.new2 rfl (News.buildL sl241 Tryz.underlying241 zr149 rfl rfl rfl (by rfl)) ?_
        intro b6 w6 hb6 hs6 hx6 hB6
        have hz6 := hx6.size
        replace hC := hC.step0 hx6
        replace hR := hR.chg0 hx6
        replace hr := hr.chg0 hx6
        replace hO := hO.chg0 hx6
        replace hIs := hIs.chg0 hx6
        replace hIv := hIv.chg0 hx6
        refine EP.append2 rfl el241 rfl rfl hO (Blk.rd (F := fun _ => True) (by assumption) rfl trivial) (by rfl) (by omega) (by omega) ?_
        intro A' c' w7 hO7 hx7 hA'
        have hz7 := hx7.size
        replace hC := hC.step hx7 (by intro x h; have := hOb x h; exact .inr (by omega))
        replace hR := hR.chg hx7 (by intro h; have := hOb _ h; omega)
        replace hr := hr.chg hx7 (by intro x hx hf; have := hOb x hx; have h1 := hf.1; have h2 := hf.2.1; omega)
        replace hIs := hIs.chg hx7 (by intro x hx hf; exact hf.2.2 hx)
        replace hIv := hIv.chg hx7 (by intro x hx hf; have := hOb x hx; have h1 := hf.1; have h2 := hf.2.1; omega)
        replace hB6 := hB6.chg hx7 (by intro h; have := hOb _ h; omega)
        clear hO; have hO := hO7; clear hO7
        refine EP.o rfl (Does.assign rfl) ?_
        refine EP.nil ?_
        refine ⟨(g, m7.2, l ++ [m7.1], vs ++ [.pointer (some ⟨pv, 0, none⟩)], A', c'), ⟨rfl, (lk_val rfl (by rw [hll])), trivial⟩, ?_, ?_⟩
        refine ⟨hC, hr, hR, by rw [hll]; exact hO, IsSyns.append ?_ ?_, hrr, fun _ => ?_, (hgo.trans hadv).trans hgi, by omega, by omega, by omega⟩
        exact hIv.mono (fun y hy _ => ⟨by have := hy.1; omega, by have := hy.2.1; omega, app_out hA' (fun hm => by have := hOb y hm; have := hy.1; omega) (by have := hy.2.1; omega)⟩)
        exact hIs.mono (fun y hy _ => ⟨hy.1, by have := hy.2.1; omega, app_out hA' hy.2.2 (by have := hy.2.1; omega)⟩)
        unfold left at *; omega
        exact Nat.lt_succ_self g
      · try simp at h2
        refine EW.exit (brk_here ?_)
        refine ⟨q, l, vs, A', c', ⟨rfl, rfl, trivial⟩, ?_⟩
        exact ⟨hC, hR, hO, hIs.mono (fun y hy _ => ⟨hy.1, by have := hy.2.1; omega, hy.2.2⟩), by rw [hrr, altL_stop (by rw [h2]; simp)], by omega, hl0⟩
    · try simp at h1
      refine EP.skp rfl rfl rfl rfl rfl (fun h => by cases h) ?_
      refine EP.skp rfl rfl rfl rfl rfl (fun h => by cases h) ?_
      refine EP.skp rfl rfl rfl rfl rfl (fun h => by cases h) ?_
      refine EP.skp rfl rfl rfl rfl rfl (fun h => by cases h) ?_
      refine EP.o rfl (Does.pickF rfl rfl) ?_
      refine EP.nil ?_
      refine EW.condF rfl ?_
      refine EW.exit (brk_here ?_)
      refine ⟨q, l, vs, A', c', ⟨rfl, rfl, trivial⟩, ?_⟩
      exact ⟨hC, hR, hO, hIs, by rw [hrr, altL_stop (by intro h; exact h1 h.1)], by omega, hl0⟩
  rintro e9 w9 ⟨q, l, vs, A', c', hs9, hC, hR, hO, hIs, hrr, hll, hl0⟩
  refine EW.sub _ hs9 ?_
  clear hs9 e9
  try have hzw := hC.size
  rw [hrr]
  try have hlR := hR.lt
  refine EW.seq ?_
  refine EW.reg ?_
  refine EP.o rfl (Does.move rfl) ?_
  refine EP.call2 rfl (Enters.fn fb151 rfl) (many_c 5 l vs (FR w.heap.size w9.heap.size []) A' c' _ hl0 (by omega) (fun y hy => by have := hy.2.1; omega) (hO.rd (fun y h1 h2 => ⟨h1, by omega, by simp⟩)) (hIs.mono (fun y hy _ => ⟨hy.1, hy.2.1, by simp⟩))) ?_
  rintro v8 w8 ⟨hx8, hV⟩
  have hz8 := hx8.size
  replace hC := hC.step0 hx8
  replace hR := hR.chg0 hx8
  replace hO := hO.chg0 hx8
  replace hIs := hIs.chg0 hx8
  refine EP.o rfl (Does.assign rfl) ?_
  refine EP.nil ?_
  refine EW.ret ?_
  refine Fin.one rfl rfl ?_
  refine ⟨hC, hR, ?_⟩
  exact hV.mono (fun y hy hyl => ⟨by rcases hy with hy | hy; exact hy.1; omega, hyl, by simp⟩)
end Go.Clt
end
section
set_option linter.unusedVariables false
set_option linter.unusedSimpArgs false
set_option maxRecDepth 4000
namespace Go.Clt
set_option maxHeartbeats 4000000
open Go Go.RowKit Go.Proofs
theorem parser_all (T : List Tok) (A : Option Addr) (c en : Nat) (hT : T.length ≤ 1048576) : ∀ n f, f ≤ n → AltC T A c en f ∧ CatC T A c en f ∧ ItemC T A c en f ∧ GroupC T A c en f
  | n, 0, _ => ⟨fun p b w h => absurd h (by omega), fun p b w h => absurd h (by omega), fun p x b w h => absurd h (by omega), fun p x b w h => absurd h (by omega)⟩
  | 0, f + 1, h => absurd h (by omega)
  | n + 1, f + 1, h => by
    have ih := parser_all T A c en hT n
    exact ⟨palt_c T A c en f hT (fun g hg => (ih g (by omega)).2.1), pcat_c T A c en f hT (fun g hg => (ih g (by omega)).2.2.1), pitem_c T A c en f hT (ih f (by omega)).2.2.2, pgroup_c T A c en f hT (ih f (by omega)).1⟩
theorem scanL_len (L : List Nat) : ∀ (f : Nat) (p : Ps) (l : List Tok), l.length ≤ p.i → p.i ≤ L.length → (scanL L f p l).1.length ≤ L.length
  | 0, p, l, h, hp => by unfold scanL; exact Nat.le_trans h hp
  | f + 1, p, l, h, hp => by
    unfold scanL
    split
    · rename_i hlt
      have hf := oneP_fine (L := L) (p := p) hlt
      dsimp only
      split
      · exact Nat.zero_le _
      · rename_i he
        have := hf.adv (by simpa using he)
        exact scanL_len L f _ _ (by simp; omega) hf.le
    · exact Nat.le_trans h hp
theorem scanP_len (L : List Nat) : (scanP L).1.length ≤ 1048576 := by
  unfold scanP
  split
  · exact Nat.zero_le _
  · exact Nat.le_trans (scanL_len L _ _ _ (Nat.le_refl _) (Nat.zero_le _)) (by omega)
theorem scanP_long (L : List Nat) (h : (scanP L).2.2 = 0) : L.length ≤ 1048576 := by
  unfold scanP at h
  split at h
  · cases h
  · omega
theorem parse_c (s : ByteArray) (w : World) (hL : Laid w) : Calls P 94 #[.string s] w (Ret fun v w' => Chg [] w w' ∧ ∃ ad, v = .tuple #[.pointer ad, .int .i64 (parseP (strL s)).2.1, .int .i64 (parseP (strL s)).2.2] ∧ ((parseP (strL s)).2.2 = 0 → IsSyn (FR w.heap.size w'.heap.size []) w' (parseP (strL s)).1 (.pointer ad))) := by
  have hC := Chg.refl [] w
  have hle : (strL s).length = s.size := strL_length s
  have hlen := scanP_len (strL s)
  have hlong := scanP_long (strL s)
  try have hz4 := hL.sz
  refine enter Tryz.func94 rfl rfl ?_
  refine EW.seq ?_
  refine EW.reg ?_
  refine EP.o rfl (Does.assign rfl) ?_
  refine EP.o rfl (Does.assign rfl) ?_
  refine EP.o rfl (Does.assign rfl) ?_
  refine EP.nil ?_
  refine EW.seq ?_
  refine EW.reg ?_
  refine EP.o rfl (Does.move rfl) ?_
  refine EP.call2 rfl (Enters.fn fb124 rfl) (scan_c s _ (by assumption)) ?_
  rintro _ w1 ⟨A, c, rfl, hx1, hr'⟩
  have hz1 := hx1.size
  replace hC := hC.step0 hx1
  replace hL := hL.chg0 hx1
  have hr := hr'; clear hr'
  have hP : parseP (strL s) = if (scanP (strL s)).2.2 ≠ 0 then (default, (((scanP (strL s)).2.1 : Nat) : Int), (scanP (strL s)).2.2) else parseT (scanP (strL s)).1 (strL s).length := rfl
  generalize scanP (strL s) = t at *
  rw [hle] at hP
  refine EP.o rfl (Does.move rfl) ?_
  refine EP.o rfl (Does.extract rfl rfl) ?_
  refine EP.o rfl (Does.extract rfl rfl) ?_
  refine EP.o rfl (Does.extract rfl rfl) ?_
  refine EP.o rfl (Does.assign rfl) ?_
  refine EP.o rfl (Does.assign rfl) ?_
  refine EP.o rfl (Does.assign rfl) ?_
  refine EP.nil ?_
  refine EW.seq ?_
  refine EW.seq ?_
  refine EW.reg ?_
  refine EP.o rfl (Does.move rfl) ?_
  refine EP.o rfl (Does.cmp rfl rfl rfl) ?_
  refine EP.nil ?_
  refine EW.cond rfl (fun h1 => ?_) (fun h1 => ?_)
  · try simp at h1
    refine EW.seq ?_
    refine EW.reg ?_
    refine EP.o rfl (Does.move rfl) ?_
    refine EP.o rfl (Does.move rfl) ?_
    refine EP.o rfl (Does.assign rfl) ?_
    refine EP.o rfl (Does.assign rfl) ?_
    refine EP.o rfl (Does.assign rfl) ?_
    refine EP.nil ?_
    refine EW.ret ?_
    refine Fin.three rfl rfl rfl rfl ?_
    rw [hP, if_pos h1]
    exact ⟨hC, none, rfl, fun h => absurd h h1⟩
  · try simp at h1
    rw [if_neg (by simpa using h1)] at hP
    have hsz := hlong (by simpa using h1)
    have hr2 : Rd (FR 0 w1.heap.size []) w1 10 A t.1.length (toksC t.1) := hr.mono (fun x _ hx => ⟨Nat.zero_le _, hx, by simp⟩)
    obtain ⟨hA, _, _, _⟩ := parser_all t.1 A c s.size hlen (5 * t.1.length + 5) (5 * t.1.length + 5) (Nat.le_refl _)
    refine EW.skip ?_
    refine EW.seq ?_
    refine EW.reg ?_
    refine EP.o rfl (Does.move rfl) ?_
    refine EP.o rfl (Does.move rfl) ?_
    refine EP.o rfl (Does.lenS Tryz.underlying9 rfl) ?_
    refine EP.o rfl (Does.buildSL zr200 pl200 rfl (by rfl)) ?_
    refine EP.o rfl (Does.buildSL zr202 pl202 rfl (by rfl)) ?_
    refine EP.new2 rfl (News.box rfl rfl) ?_
    intro b2 w2 hb2 hs2 hx2 hB2
    have hz2 := hx2.size
    replace hC := hC.step0 hx2
    replace hL := hL.chg0 hx2
    replace hr2 := hr2.chg0 hx2
    refine EP.o rfl (Does.assign rfl) ?_
    refine EP.nil ?_
    refine EW.seq ?_
    refine EW.reg ?_
    refine EP.o rfl (Does.move rfl) ?_
    refine EP.call2 rfl (Enters.fn fb125 rfl) (hA ⟨0, 0, 0, 0⟩ b2 _ (by unfold left; simp) (Nat.zero_le _) (by decide) (by rw [hb2]; assumption) (by assumption)) ?_
    rintro v5 w3 ⟨hx3, hB2', hI'⟩
    have hz3 := hx3.size
    replace hC := hC.step hx3 (by simp; omega)
    replace hL := hL.chg hx3 (by simp; omega)
    replace hr2 := hr2.chg hx3 (by intro x hx hf; have hx := List.mem_singleton.1 hx; have h1 := hf.1; have h2 := hf.2.1; omega)
    clear hB2
    have hB2 := hB2'; clear hB2'
    have hI := hI'; clear hI'
    obtain ⟨pn, _, hv5, _, _, _, _, _⟩ := hI.span
    subst hv5
    have hPT : parseT t.1 s.size = if (if okQ t.1 (altQ t.1 s.size (5 * t.1.length + 5) ⟨0, 0, 0, 0⟩).2 then (altQ t.1 s.size (5 * t.1.length + 5) ⟨0, 0, 0, 0⟩).2.fail (pkQ t.1 s.size (altQ t.1 s.size (5 * t.1.length + 5) ⟨0, 0, 0, 0⟩).2).src 4 else (altQ t.1 s.size (5 * t.1.length + 5) ⟨0, 0, 0, 0⟩).2).e ≠ 0 then (default, (if okQ t.1 (altQ t.1 s.size (5 * t.1.length + 5) ⟨0, 0, 0, 0⟩).2 then (altQ t.1 s.size (5 * t.1.length + 5) ⟨0, 0, 0, 0⟩).2.fail (pkQ t.1 s.size (altQ t.1 s.size (5 * t.1.length + 5) ⟨0, 0, 0, 0⟩).2).src 4 else (altQ t.1 s.size (5 * t.1.length + 5) ⟨0, 0, 0, 0⟩).2).pl, (if okQ t.1 (altQ t.1 s.size (5 * t.1.length + 5) ⟨0, 0, 0, 0⟩).2 then (altQ t.1 s.size (5 * t.1.length + 5) ⟨0, 0, 0, 0⟩).2.fail (pkQ t.1 s.size (altQ t.1 s.size (5 * t.1.length + 5) ⟨0, 0, 0, 0⟩).2).src 4 else (altQ t.1 s.size (5 * t.1.length + 5) ⟨0, 0, 0, 0⟩).2).e) else ((altQ t.1 s.size (5 * t.1.length + 5) ⟨0, 0, 0, 0⟩).1, 0, 0) := rfl
    rw [hPT] at hP
    generalize altQ t.1 s.size (5 * t.1.length + 5) ⟨0, 0, 0, 0⟩ = m at *
    refine EP.o rfl (Does.assign rfl) ?_
    refine EP.nil ?_
    refine EW.cut (fun e9 wr => Sub [(8, .pointer (some ⟨b2, 0, none⟩)), (9, .pointer (some ⟨pn, 0, none⟩))] e9 ∧ Chg [] w wr ∧ Blk wr b2 (psC A t.1.length c s.size (if okQ t.1 m.2 then m.2.fail (pkQ t.1 s.size m.2).src 4 else m.2)) 202 ∧ IsSyn (FR w.heap.size wr.heap.size []) wr m.1 (.pointer (some ⟨pn, 0, none⟩))) ?_ ?_
    · refine EW.seq ?_
      refine EW.reg ?_
      refine EP.o rfl (Does.move rfl) ?_
      refine EP.o rfl (Does.nilCheck rfl) ?_
      refine EP.o rfl (Does.fieldAddr fl202_0 rfl) ?_
      refine EP.call2 rfl (Enters.fn fb126 rfl) (pkT_c t.1 (FR 0 w1.heap.size []) A c s.size m.2 b2 _ hlen (fun y hy => by have := hy.2.1; omega) (by assumption) (by assumption)) ?_
      rintro _ w4 ⟨rfl, hx4⟩
      have hz4 := hx4.size
      replace hC := hC.step0 hx4
      replace hL := hL.chg0 hx4
      replace hr2 := hr2.chg0 hx4
      replace hB2 := hB2.chg0 hx4
      replace hI := hI.chg0 hx4
      refine EP.o rfl (Does.move rfl) ?_
      refine EP.o rfl (Does.extract rfl rfl) ?_
      refine EP.o rfl (Does.extract rfl rfl) ?_
      refine EP.new2 rfl (News.alloc zr205 rfl) ?_
      intro b5 w5 hb5 hs5 hx5 hB5
      have hz5 := hx5.size
      replace hC := hC.step0 hx5
      replace hL := hL.chg0 hx5
      replace hr2 := hr2.chg0 hx5
      replace hB2 := hB2.chg0 hx5
      replace hI := hI.chg0 hx5
      refine EP.put2 (Puts.blk sz205 rfl rfl (by assumption) rfl rfl rfl rfl (by simp only [List.take, List.drop, List.append, List.cons_append, List.nil_append]; rfl)) ?_
      intro w6 hs6 hx6 hB6
      have hz6 := hx6.size
      replace hC := hC.step hx6 (by first | (simp; done) | (simp; omega))
      replace hL := hL.chg hx6 (by simp; omega)
      replace hr2 := hr2.chg hx6 (by intro x hx hf; have hx := List.mem_singleton.1 hx; have h1 := hf.1; have h2 := hf.2.1; omega)
      replace hB2 := hB2.chg hx6 (by simp; omega)
      replace hI := hI.chg hx6 (by intro x hx hf; have hx := List.mem_singleton.1 hx; have h1 := hf.1; have h2 := hf.2.1; omega)
      clear hB5; have hB5 := hB6; clear hB6
      refine EP.o rfl (Does.assign rfl) ?_
      refine EP.nil ?_
      refine EW.seq ?_
      refine EW.reg ?_
      refine EP.o rfl (Does.move rfl) ?_
      refine EP.nil ?_
      refine EW.cond rfl (fun h2 => ?_) (fun h2 => ?_)
      · try simp at h2
        refine EW.reg ?_
        refine EP.o rfl (Does.move rfl) ?_
        refine EP.o rfl (Does.fieldAddr fl205_1 rfl) ?_
        refine EP.o rfl (Does.loadB o3 rfl (Keeps.now _) (by assumption) (by rfl)) ?_
        refine EP.call2 rfl (Enters.fn fb127 rfl) (pfail_c A t.1.length c s.size m.2 b2 (pkQ t.1 s.size m.2).src 4 _ (by assumption)) ?_
        rintro _ w7 ⟨rfl, hx7, hB2'⟩
        have hz7 := hx7.size
        replace hC := hC.step hx7 (by simp; omega)
        replace hL := hL.chg hx7 (by simp; omega)
        replace hr2 := hr2.chg hx7 (by intro x hx hf; have hx := List.mem_singleton.1 hx; have h1 := hf.1; have h2 := hf.2.1; omega)
        replace hI := hI.chg hx7 (by intro x hx hf; have hx := List.mem_singleton.1 hx; have h1 := hf.1; have h2 := hf.2.1; omega)
        replace hB5 := hB5.chg hx7 (by simp; omega)
        clear hB2
        have hB2 := hB2'; clear hB2'
        refine EP.nil ?_
        refine ⟨⟨rfl, rfl, trivial⟩, ?_⟩
        exact ⟨hC, by rw [if_pos h2]; exact hB2, hI.mono (fun y hy hyl => ⟨by have := hy.1; omega, hyl, by simp⟩)⟩
      · try simp at h2
        refine EW.skip ?_
        refine ⟨⟨rfl, rfl, trivial⟩, ?_⟩
        exact ⟨hC, by rw [if_neg (by rw [h2]; simp)]; exact hB2, hI.mono (fun y hy hyl => ⟨by have := hy.1; omega, hyl, by simp⟩)⟩
    rintro e9 w9 ⟨hs9, hC, hB2, hI⟩
    refine EW.sub _ hs9 ?_
    clear hs9 e9
    try have hzw := hC.size
    generalize (if okQ t.1 m.2 then m.2.fail (pkQ t.1 s.size m.2).src 4 else m.2) = q at *
    try have hlB2 := hB2.lt
    refine EW.seq ?_
    refine EW.seq ?_
    refine EW.reg ?_
    refine EP.o rfl (Does.move rfl) ?_
    refine EP.o rfl (Does.nilCheck rfl) ?_
    refine EP.o rfl (Does.fieldAddr fl202_3 rfl) ?_
    refine EP.o rfl (Does.loadB o32 rfl (Keeps.now _) (by assumption) (by rfl)) ?_
    refine EP.o rfl (Does.cmp rfl rfl rfl) ?_
    refine EP.nil ?_
    refine EW.cond rfl (fun h3 => ?_) (fun h3 => ?_)
    · try simp at h3
      refine EW.seq ?_
      refine EW.drw' (S := []) 10 [(0, 0), (0, 1), (0, 2), (0, 3), (0, 4), (0, 5), (0, 6), (0, 7), (0, 8), (0, 9), (2, 10)] mo (by kernel_rfl) ?_
      intro w8 hx8 hh8
      have hz8 := hx8.size
      replace hC := hC.step0 hx8
      replace hB2 := hB2.chg0 hx8
      replace hI := hI.chg0 hx8
      refine EP.f rfl (Does.move rfl) ?_
      refine EP.f rfl (Does.nilCheck rfl) ?_
      refine EP.f rfl (Does.fieldAddr fl202_2 rfl) ?_
      refine EP.f rfl (Does.loadBc o3 rfl (by assumption) (by simp; done) (by rfl)) ?_
      refine EP.f rfl (Does.move rfl) ?_
      refine EP.f rfl (Does.nilCheck rfl) ?_
      refine EP.f rfl (Does.fieldAddr fl202_3 rfl) ?_
      refine EP.f rfl (Does.loadBc o32 rfl (by assumption) (by simp; done) (by rfl)) ?_
      refine EP.f rfl (Does.assign rfl) ?_
      refine EP.f rfl (Does.assign rfl) ?_
      refine EP.o rfl (Does.assign rfl) ?_
      refine EP.nil ?_
      refine EW.ret ?_
      refine Fin.three rfl rfl rfl rfl ?_
      rw [hP, if_pos h3]
      exact ⟨hC, none, rfl, fun h => absurd h h3⟩
    · try simp at h3
      refine EW.skip ?_
      refine EW.seq ?_
      refine EW.reg ?_
      refine EP.o rfl (Does.move rfl) ?_
      refine EP.o rfl (Does.assign rfl) ?_
      refine EP.o rfl (Does.assign rfl) ?_
      refine EP.o rfl (Does.assign rfl) ?_
      refine EP.nil ?_
      refine EW.ret ?_
      refine Fin.three rfl rfl rfl rfl ?_
      rw [hP, if_neg (by simpa using h3)]
      exact ⟨hC, _, rfl, fun _ => hI⟩
end Go.Clt
end
section
set_option linter.unusedVariables false
set_option linter.unusedSimpArgs false
set_option maxRecDepth 4000
namespace Go.Clt
set_option maxHeartbeats 2000000
open Go Go.RowKit Go.Proofs
section
variable {P : Program} {n : Nat} {e : Env} {dst : Option Tmp} {t : TypeId} {p : String} {af : Array Edge} {g : Option (Nat × Bool)} {φ : World → Prop}
theorem Does.eqNil {τ τ' el : TypeId} {x y : Operand} {b : Option Addr} (hu : P.underlying τ = some (.pointer el)) (hx : ev e x = some (.pointer none)) (hy : ev e y = some (.pointer b)) : Does P n e ⟨dst, .binOp .eql τ x y τ', t, p, af, g⟩ φ (.bool b.isNone) :=
  Does.bin hx hy rfl fun w _ => by
    have h : ∀ d : Nat, (Op.equalIn (d + 1) τ (.pointer none) (.pointer b)).run P w = .ok b.isNone w := fun d => by simp [Op.equalIn, run_underlying hu]
    simp only [binOp]
    simp [Op.equal, Op.maxDepth, h 9999]
theorem Does.eqPtr {τ τ' el : TypeId} {x y : Operand} {b : Option Addr} (hu : P.underlying τ = some (.pointer el)) (hx : ev e x = some (.pointer b)) (hy : ev e y = some (.pointer none)) : Does P n e ⟨dst, .binOp .eql τ x y τ', t, p, af, g⟩ φ (.bool b.isNone) :=
  Does.bin hx hy rfl fun w _ => by
    have h : ∀ d : Nat, (Op.equalIn (d + 1) τ (.pointer b) (.pointer none)).run P w = .ok b.isNone w := fun d => by cases b <;> simp [Op.equalIn, run_underlying hu]
    simp only [binOp]
    simp [Op.equal, Op.maxDepth, h 9999]
theorem Does.nePtr {τ τ' el : TypeId} {x y : Operand} {b : Option Addr} (hu : P.underlying τ = some (.pointer el)) (hx : ev e x = some (.pointer b)) (hy : ev e y = some (.pointer none)) : Does P n e ⟨dst, .binOp .neq τ x y τ', t, p, af, g⟩ φ (.bool !b.isNone) :=
  Does.bin hx hy rfl fun w _ => by
    have h : ∀ d : Nat, (Op.equalIn (d + 1) τ (.pointer b) (.pointer none)).run P w = .ok b.isNone w := fun d => by cases b <;> simp [Op.equalIn, run_underlying hu]
    simp only [binOp]
    simp [Op.equal, Op.maxDepth, h 9999]
end
def fstB (bs : Nat → Bool) (n : Nat) : Int := match (List.range n).find? bs with | some k => (k : Int) | none => -1
theorem fstB_hit {bs : Nat → Bool} {n k : Nat} (hk : k < n) (h1 : bs k = true) (h0 : ∀ j, j < k → bs j = false) : fstB bs n = k := by
  unfold fstB
  have : (List.range n).find? bs = some k := by
    rw [List.find?_range_eq_some]
    exact ⟨h1, by simpa using hk, fun j hj => by rw [h0 j hj]; rfl⟩
  rw [this]
theorem fstB_no {bs : Nat → Bool} {n : Nat} (h0 : ∀ j, j < n → bs j = false) : fstB bs n = -1 := by
  unfold fstB
  have : (List.range n).find? bs = none := by
    rw [List.find?_range_eq_none]
    intro j hj; rw [h0 j hj]; rfl
  rw [this]
theorem fstB_any (bs : Nat → Bool) (n : Nat) : decide (0 ≤ fstB bs n) = (List.range n).any bs := by
  unfold fstB
  cases h : (List.range n).find? bs with
  | none => rw [List.find?_eq_none] at h; simp; intro x hx; simpa using h x (List.mem_range.2 hx)
  | some k => have h1 := List.find?_some h; have h2 := List.mem_of_find?_eq_some h; simp; exact ⟨k, by simpa using h2, h1⟩
theorem idxfN_c (G : FuncId) (fi cp : Array Value) (hb : bodyB P G = true) (vs : List Value) (bs : Nat → Bool) (F : Nat → Prop) (A : Option Addr) (n c : Nat) (w : World) (hn : n ≤ 2000000) (hF : ∀ b, F b → b < w.heap.size) (hr : Rd F w 1 A n vs)
    (hcall : ∀ k v w', k < n → vs[k]? = some v → Chg [] w w' → Calls P G (fi ++ #[v] ++ cp) w' (Ret fun u w2 => u = .bool (bs k) ∧ Chg [] w' w2)) :
    Calls P 234 #[.slice A n c, .func (.func G) fi cp] w (Ret fun u w' => u = .int .i64 (fstB bs n) ∧ Chg [] w w') := by
  have hC := Chg.refl [] w
  have hlen : vs.length = n := by have := hr.len; omega
  refine enter Tryz.func234 rfl rfl ?_
  refine EW.seq ?_
  refine EW.reg ?_
  refine EP.o rfl (Does.assign rfl) ?_
  refine EP.nil ?_
  refine EW.seq ?_
  refine EW.seq ?_
  refine EW.reg ?_
  refine EP.o rfl (Does.move rfl) ?_
  refine EP.o rfl (Does.lenL Tryz.underlying241 rfl) ?_
  refine EP.o rfl (Does.move rfl) ?_
  refine EP.nil ?_
  refine EW.block ?_
  refine EW.loop (σ := Nat) (fun k => [(0, .slice A n c), (1, .func (.func G) fi cp), (7, .int .i64 n), (8, .int .i64 k)]) (fun k wr => Chg [] w wr ∧ Rd F wr 1 A n vs ∧ k ≤ n ∧ (∀ j, j < k → bs j = false)) (fun k wr => n - k) 0 ⟨rfl, rfl, rfl, rfl, trivial⟩ ?_ ?_
  · exact ⟨hC, hr, Nat.zero_le _, fun j hj => absurd hj (by omega)⟩
  rintro k w9 ⟨hC, hr, hk, h0⟩
  try have hzw := hC.size
  refine EW.seq ?_
  refine EW.reg ?_
  refine EP.o rfl (Does.cmp rfl rfl rfl) ?_
  refine EP.nil ?_
  refine EW.seq ?_
  refine EW.cond rfl (fun h1 => ?_) (fun h1 => ?_)
  · try simp at h1
    have hkn : k < n := by omega
    obtain ⟨v, hv⟩ : ∃ v, vs[k]? = some v := ⟨_, List.getElem?_eq_getElem (by omega)⟩
    obtain ⟨g, off, rfl, _, _, _⟩ := hr.at_ (by omega)
    refine EW.skip ?_
    refine EW.seq ?_
    refine EW.block ?_
    refine EW.seq ?_
    refine EW.reg ?_
    refine EP.o rfl (Does.move rfl) ?_
    refine EP.o rfl (Does.assign rfl) ?_
    refine EP.nil ?_
    refine EW.seq ?_
    refine EW.reg ?_
    refine EP.o rfl (Does.move rfl) ?_
    refine EP.o rfl (Does.move rfl) ?_
    refine EP.o rfl (Does.move rfl) ?_
    refine EP.o rfl (Does.indexAddr1 sl241 rfl rfl (by omega) (by omega)) ?_
    refine EP.o rfl (Does.load1 o149 rfl (Keeps.now _) (hr.one hv).2) ?_
    refine EP.call2 rfl (Enters.clo rfl hb rfl) (hcall k v _ hkn hv (by assumption)) ?_
    rintro _ w1 ⟨rfl, hx1⟩
    have hz1 := hx1.size
    replace hC := hC.step0 hx1
    replace hr := hr.chg0 hx1
    refine EP.nil ?_
    refine EW.cond rfl (fun h2 => ?_) (fun h2 => ?_)
    · try simp at h2
      refine EW.seq ?_
      refine EW.reg ?_
      refine EP.o rfl (Does.move rfl) ?_
      refine EP.o rfl (Does.assign rfl) ?_
      refine EP.nil ?_
      refine EW.ret ?_
      refine Fin.one rfl rfl ?_
      exact ⟨vint (fstB_hit hkn h2 h0).symm, hC⟩
    · try simp at h2
      refine EW.skip ?_
      refine EW.reg ?_
      refine EP.o rfl (Does.addi rfl rfl (by omega)) ?_
      refine EP.o rfl (Does.move rfl) ?_
      refine EP.nil ?_
      refine ⟨k + 1, ⟨rfl, rfl, rfl, rfl, trivial⟩, ?_, ?_⟩
      refine ⟨hC, hr, hkn, fun j hj => ?_⟩
      by_cases hjk : j = k
      · rw [hjk]; exact h2
      · exact h0 j (by omega)
      omega
  · try simp at h1
    refine EW.exit (brk_here ?_)
    refine EW.seq ?_
    refine EW.reg ?_
    refine EP.o rfl (Does.assign rfl) ?_
    refine EP.nil ?_
    refine EW.ret ?_
    refine Fin.one rfl rfl ?_
    exact ⟨vint (fstB_no (fun j hj => h0 j (by omega))).symm, hC⟩
theorem anyN_c (G : FuncId) (fi cp : Array Value) (hb : bodyB P G = true) (vs : List Value) (bs : Nat → Bool) (F : Nat → Prop) (A : Option Addr) (n c : Nat) (w : World) (hn : n ≤ 2000000) (hF : ∀ b, F b → b < w.heap.size) (hr : Rd F w 1 A n vs)
    (hcall : ∀ k v w', k < n → vs[k]? = some v → Chg [] w w' → Calls P G (fi ++ #[v] ++ cp) w' (Ret fun u w2 => u = .bool (bs k) ∧ Chg [] w' w2)) :
    Calls P 212 #[.slice A n c, .func (.func G) fi cp] w (Ret fun u w' => u = .bool ((List.range n).any bs) ∧ Chg [] w w') := by
  have hC := Chg.refl [] w
  refine enter Tryz.func212 rfl rfl ?_
  refine EW.seq ?_
  refine EW.reg ?_
  refine EP.o rfl (Does.assign rfl) ?_
  refine EP.nil ?_
  refine EW.seq ?_
  refine EW.reg ?_
  refine EP.o rfl (Does.move rfl) ?_
  refine EP.o rfl (Does.move rfl) ?_
  refine EP.call2 rfl (Enters.fn fb234 rfl) (idxfN_c G fi cp hb vs bs F A n c _ hn hF hr hcall) ?_
  rintro _ w1 ⟨rfl, hx1⟩
  have hz1 := hx1.size
  replace hC := hC.step0 hx1
  refine EP.o rfl (Does.cmp rfl rfl rfl) ?_
  refine EP.o rfl (Does.assign rfl) ?_
  refine EP.nil ?_
  refine EW.ret ?_
  refine Fin.one rfl rfl ?_
  exact ⟨vbool (by rw [← fstB_any, Bool.eq_iff_iff]; simp [cmpB]), hC⟩
end Go.Clt
end
section
set_option linter.unusedVariables false
set_option linter.unusedSimpArgs false
set_option maxRecDepth 4000
namespace Go.Clt
set_option maxHeartbeats 2000000
open Go Go.RowKit Go.Proofs
theorem idxfI_c (G : FuncId) (fi cp : Array Value) (hb : bodyB P G = true) (vs : List Value) (bs : Nat → Bool) (F : Nat → Prop) (A : Option Addr) (n c : Nat) (w : World) (hn : n ≤ 2000000) (hF : ∀ b, F b → b < w.heap.size) (hr : Rd F w 1 A n vs)
    (hcall : ∀ k v w', k < n → vs[k]? = some v → Chg [] w w' → Calls P G (fi ++ #[v] ++ cp) w' (Ret fun u w2 => u = .bool (bs k) ∧ Chg [] w' w2)) :
    Calls P 112 #[.slice A n c, .func (.func G) fi cp] w (Ret fun u w' => u = .int .i64 (fstB bs n) ∧ Chg [] w w') := by
  have hC := Chg.refl [] w
  have hlen : vs.length = n := by have := hr.len; omega
  refine enter Tryz.func112 rfl rfl ?_
  refine EW.seq ?_
  refine EW.reg ?_
  refine EP.o rfl (Does.assign rfl) ?_
  refine EP.nil ?_
  refine EW.seq ?_
  refine EW.seq ?_
  refine EW.reg ?_
  refine EP.o rfl (Does.move rfl) ?_
  refine EP.o rfl (Does.lenL Tryz.underlying24 rfl) ?_
  refine EP.o rfl (Does.move rfl) ?_
  refine EP.nil ?_
  refine EW.block ?_
  refine EW.loop (σ := Nat) (fun k => [(0, .slice A n c), (1, .func (.func G) fi cp), (7, .int .i64 n), (8, .int .i64 k)]) (fun k wr => Chg [] w wr ∧ Rd F wr 1 A n vs ∧ k ≤ n ∧ (∀ j, j < k → bs j = false)) (fun k wr => n - k) 0 ⟨rfl, rfl, rfl, rfl, trivial⟩ ?_ ?_
  · exact ⟨hC, hr, Nat.zero_le _, fun j hj => absurd hj (by omega)⟩
  rintro k w9 ⟨hC, hr, hk, h0⟩
  try have hzw := hC.size
  refine EW.seq ?_
  refine EW.reg ?_
  refine EP.o rfl (Does.cmp rfl rfl rfl) ?_
  refine EP.nil ?_
  refine EW.seq ?_
  refine EW.cond rfl (fun h1 => ?_) (fun h1 => ?_)
  · try simp at h1
    have hkn : k < n := by omega
    obtain ⟨v, hv⟩ : ∃ v, vs[k]? = some v := ⟨_, List.getElem?_eq_getElem (by omega)⟩
    obtain ⟨g, off, rfl, _, _, _⟩ := hr.at_ (by omega)
    refine EW.skip ?_
    refine EW.seq ?_
    refine EW.block ?_
    refine EW.seq ?_
    refine EW.reg ?_
    refine EP.o rfl (Does.move rfl) ?_
    refine EP.o rfl (Does.assign rfl) ?_
    refine EP.nil ?_
    refine EW.seq ?_
    refine EW.reg ?_
    refine EP.o rfl (Does.move rfl) ?_
    refine EP.o rfl (Does.move rfl) ?_
    refine EP.o rfl (Does.move rfl) ?_
    refine EP.o rfl (Does.indexAddr1 sl24 rfl rfl (by omega) (by omega)) ?_
    refine EP.o rfl (Does.load1 o3 rfl (Keeps.now _) (hr.one hv).2) ?_
    refine EP.call2 rfl (Enters.clo rfl hb rfl) (hcall k v _ hkn hv (by assumption)) ?_
    rintro _ w1 ⟨rfl, hx1⟩
    have hz1 := hx1.size
    replace hC := hC.step0 hx1
    replace hr := hr.chg0 hx1
    refine EP.nil ?_
    refine EW.cond rfl (fun h2 => ?_) (fun h2 => ?_)
    · try simp at h2
      refine EW.seq ?_
      refine EW.reg ?_
      refine EP.o rfl (Does.move rfl) ?_
      refine EP.o rfl (Does.assign rfl) ?_
      refine EP.nil ?_
      refine EW.ret ?_
      refine Fin.one rfl rfl ?_
      exact ⟨vint (fstB_hit hkn h2 h0).symm, hC⟩
    · try simp at h2
      refine EW.skip ?_
      refine EW.reg ?_
      refine EP.o rfl (Does.addi rfl rfl (by omega)) ?_
      refine EP.o rfl (Does.move rfl) ?_
      refine EP.nil ?_
      refine ⟨k + 1, ⟨rfl, rfl, rfl, rfl, trivial⟩, ?_, ?_⟩
      refine ⟨hC, hr, hkn, fun j hj => ?_⟩
      by_cases hjk : j = k
      · rw [hjk]; exact h2
      · exact h0 j (by omega)
      omega
  · try simp at h1
    refine EW.exit (brk_here ?_)
    refine EW.seq ?_
    refine EW.reg ?_
    refine EP.o rfl (Does.assign rfl) ?_
    refine EP.nil ?_
    refine EW.ret ?_
    refine Fin.one rfl rfl ?_
    exact ⟨vint (fstB_no (fun j hj => h0 j (by omega))).symm, hC⟩
theorem anyI_c (G : FuncId) (fi cp : Array Value) (hb : bodyB P G = true) (vs : List Value) (bs : Nat → Bool) (F : Nat → Prop) (A : Option Addr) (n c : Nat) (w : World) (hn : n ≤ 2000000) (hF : ∀ b, F b → b < w.heap.size) (hr : Rd F w 1 A n vs)
    (hcall : ∀ k v w', k < n → vs[k]? = some v → Chg [] w w' → Calls P G (fi ++ #[v] ++ cp) w' (Ret fun u w2 => u = .bool (bs k) ∧ Chg [] w' w2)) :
    Calls P 81 #[.slice A n c, .func (.func G) fi cp] w (Ret fun u w' => u = .bool ((List.range n).any bs) ∧ Chg [] w w') := by
  have hC := Chg.refl [] w
  refine enter Tryz.func81 rfl rfl ?_
  refine EW.seq ?_
  refine EW.reg ?_
  refine EP.o rfl (Does.assign rfl) ?_
  refine EP.nil ?_
  refine EW.seq ?_
  refine EW.reg ?_
  refine EP.o rfl (Does.move rfl) ?_
  refine EP.o rfl (Does.move rfl) ?_
  refine EP.call2 rfl (Enters.fn fb112 rfl) (idxfI_c G fi cp hb vs bs F A n c _ hn hF hr hcall) ?_
  rintro _ w1 ⟨rfl, hx1⟩
  have hz1 := hx1.size
  replace hC := hC.step0 hx1
  refine EP.o rfl (Does.cmp rfl rfl rfl) ?_
  refine EP.o rfl (Does.assign rfl) ?_
  refine EP.nil ?_
  refine EW.ret ?_
  refine Fin.one rfl rfl ?_
  exact ⟨vbool (by rw [← fstB_any, Bool.eq_iff_iff]; simp [cmpB]), hC⟩
theorem idxI_c (vs : List Int) (x : Int) (F : Nat → Prop) (A : Option Addr) (n c : Nat) (w : World) (hn : n ≤ 2000000) (hF : ∀ b, F b → b < w.heap.size) (hr : Rd F w 1 A n (ints vs)) :
    Calls P 238 #[.slice A n c, .int .i64 x] w (Ret fun u w' => u = .int .i64 (fstB (fun k => decide (vs.getD k 0 = x)) n) ∧ Chg [] w w') := by
  have hC := Chg.refl [] w
  have hlen : vs.length = n := by have := hr.len; rw [ints_length] at this; omega
  refine enter Tryz.func238 rfl rfl ?_
  refine EW.seq ?_
  refine EW.reg ?_
  refine EP.o rfl (Does.assign rfl) ?_
  refine EP.nil ?_
  refine EW.seq ?_
  refine EW.seq ?_
  refine EW.reg ?_
  refine EP.o rfl (Does.move rfl) ?_
  refine EP.o rfl (Does.lenL Tryz.underlying24 rfl) ?_
  refine EP.o rfl (Does.move rfl) ?_
  refine EP.nil ?_
  refine EW.block ?_
  refine EW.loop (σ := Nat) (fun k => [(0, .slice A n c), (1, .int .i64 x), (7, .int .i64 n), (8, .int .i64 k)]) (fun k wr => Chg [] w wr ∧ Rd F wr 1 A n (ints vs) ∧ k ≤ n ∧ (∀ j, j < k → ¬ vs.getD j 0 = x)) (fun k wr => n - k) 0 ⟨rfl, rfl, rfl, rfl, trivial⟩ ?_ ?_
  · exact ⟨hC, hr, Nat.zero_le _, fun j hj => absurd hj (by omega)⟩
  rintro k w9 ⟨hC, hr, hk, h0⟩
  try have hzw := hC.size
  refine EW.seq ?_
  refine EW.reg ?_
  refine EP.o rfl (Does.cmp rfl rfl rfl) ?_
  refine EP.nil ?_
  refine EW.seq ?_
  refine EW.cond rfl (fun h1 => ?_) (fun h1 => ?_)
  · try simp at h1
    have hkn : k < n := by omega
    obtain ⟨g, off, rfl, _, _, _⟩ := hr.at_ (by omega)
    refine EW.skip ?_
    refine EW.seq ?_
    refine EW.block ?_
    refine EW.seq ?_
    refine EW.reg ?_
    refine EP.o rfl (Does.move rfl) ?_
    refine EP.o rfl (Does.assign rfl) ?_
    refine EP.nil ?_
    refine EW.seq ?_
    refine EW.reg ?_
    refine EP.o rfl (Does.move rfl) ?_
    refine EP.o rfl (Does.move rfl) ?_
    refine EP.o rfl (Does.move rfl) ?_
    refine EP.o rfl (Does.indexAddr1 sl24 rfl rfl (by omega) (by omega)) ?_
    refine EP.o rfl (Does.load1 o3 rfl (Keeps.now _) (hr.one (ints_get vs k (by omega))).2) ?_
    refine EP.o rfl (Does.cmp rfl rfl rfl) ?_
    refine EP.nil ?_
    refine EW.cond rfl (fun h2 => ?_) (fun h2 => ?_)
    · try simp at h2
      refine EW.seq ?_
      refine EW.reg ?_
      refine EP.o rfl (Does.move rfl) ?_
      refine EP.o rfl (Does.assign rfl) ?_
      refine EP.nil ?_
      refine EW.ret ?_
      refine Fin.one rfl rfl ?_
      exact ⟨vint (fstB_hit hkn (decide_eq_true h2.symm) (fun j hj => decide_eq_false (h0 j hj))).symm, hC⟩
    · try simp at h2
      refine EW.skip ?_
      refine EW.reg ?_
      refine EP.o rfl (Does.addi rfl rfl (by omega)) ?_
      refine EP.o rfl (Does.move rfl) ?_
      refine EP.nil ?_
      refine ⟨k + 1, ⟨rfl, rfl, rfl, rfl, trivial⟩, ?_, ?_⟩
      refine ⟨hC, hr, hkn, fun j hj => ?_⟩
      by_cases hjk : j = k
      · rw [hjk]; exact fun h => h2 h.symm
      · exact h0 j (by omega)
      omega
  · try simp at h1
    refine EW.exit (brk_here ?_)
    refine EW.seq ?_
    refine EW.reg ?_
    refine EP.o rfl (Does.assign rfl) ?_
    refine EP.nil ?_
    refine EW.ret ?_
    refine Fin.one rfl rfl ?_
    exact ⟨vint (fstB_no (fun j hj => decide_eq_false (h0 j (by omega)))).symm, hC⟩
theorem hasI_c (vs : List Int) (x : Int) (F : Nat → Prop) (A : Option Addr) (n c : Nat) (w : World) (hn : n ≤ 2000000) (hF : ∀ b, F b → b < w.heap.size) (hr : Rd F w 1 A n (ints vs)) :
    Calls P 232 #[.slice A n c, .int .i64 x] w (Ret fun u w' => u = .bool (vs.contains x) ∧ Chg [] w w') := by
  have hC := Chg.refl [] w
  have hlen : vs.length = n := by have := hr.len; rw [ints_length] at this; omega
  refine enter Tryz.func232 rfl rfl ?_
  refine EW.seq ?_
  refine EW.reg ?_
  refine EP.o rfl (Does.assign rfl) ?_
  refine EP.nil ?_
  refine EW.seq ?_
  refine EW.reg ?_
  refine EP.o rfl (Does.move rfl) ?_
  refine EP.o rfl (Does.move rfl) ?_
  refine EP.call2 rfl (Enters.fn fb238 rfl) (idxI_c vs x F A n c _ hn hF hr) ?_
  rintro _ w1 ⟨rfl, hx1⟩
  have hz1 := hx1.size
  replace hC := hC.step0 hx1
  refine EP.o rfl (Does.cmp rfl rfl rfl) ?_
  refine EP.o rfl (Does.assign rfl) ?_
  refine EP.nil ?_
  refine EW.ret ?_
  refine Fin.one rfl rfl ?_
  refine ⟨vbool ?_, hC⟩
  rw [Bool.eq_iff_iff]
  have := fstB_any (fun k => decide (vs.getD k 0 = x)) n
  rw [Bool.eq_iff_iff, decide_eq_true_iff] at this
  rw [cmpB_geq, this, List.any_eq_true, List.contains_iff_mem]
  constructor
  · rintro ⟨k, hk, h⟩
    have hk := List.mem_range.1 hk
    rw [decide_eq_true_iff] at h
    rw [← h]
    exact getD_mem vs 0 k (by omega)
  · intro h
    obtain ⟨k, hk, hx⟩ := List.getElem_of_mem h
    exact ⟨k, List.mem_range.2 (by omega), decide_eq_true (by rw [List.getD_eq_getElem?_getD, List.getElem?_eq_getElem hk]; exact hx)⟩
theorem idxP_c (vs : List Value) (F : Nat → Prop) (A : Option Addr) (n c : Nat) (w : World) (hn : n ≤ 2000000) (hF : ∀ b, F b → b < w.heap.size) (hr : Rd F w 1 A n vs) (hv : ∀ (k : Nat) (v : Value), vs[k]? = some v → ∃ a, v = .pointer (some a)) :
    Calls P 237 #[.slice A n c, .pointer none] w (Ret fun u w' => u = .int .i64 (-1) ∧ Chg [] w w') := by
  have hC := Chg.refl [] w
  have hlen : vs.length = n := by have := hr.len; omega
  refine enter Tryz.func237 rfl rfl ?_
  refine EW.seq ?_
  refine EW.reg ?_
  refine EP.o rfl (Does.assign rfl) ?_
  refine EP.nil ?_
  refine EW.seq ?_
  refine EW.seq ?_
  refine EW.reg ?_
  refine EP.o rfl (Does.move rfl) ?_
  refine EP.o rfl (Does.lenL Tryz.underlying241 rfl) ?_
  refine EP.o rfl (Does.move rfl) ?_
  refine EP.nil ?_
  refine EW.block ?_
  refine EW.loop (σ := Nat) (fun k => [(0, .slice A n c), (1, .pointer none), (7, .int .i64 n), (8, .int .i64 k)]) (fun k wr => Chg [] w wr ∧ Rd F wr 1 A n vs ∧ k ≤ n) (fun k wr => n - k) 0 ⟨rfl, rfl, rfl, rfl, trivial⟩ ?_ ?_
  · exact ⟨hC, hr, Nat.zero_le _⟩
  rintro k w9 ⟨hC, hr, hk⟩
  try have hzw := hC.size
  refine EW.seq ?_
  refine EW.reg ?_
  refine EP.o rfl (Does.cmp rfl rfl rfl) ?_
  refine EP.nil ?_
  refine EW.seq ?_
  refine EW.cond rfl (fun h1 => ?_) (fun h1 => ?_)
  · try simp at h1
    have hkn : k < n := by omega
    obtain ⟨v, hvk⟩ : ∃ v, vs[k]? = some v := ⟨_, List.getElem?_eq_getElem (by omega)⟩
    obtain ⟨a, rfl⟩ := hv k v hvk
    obtain ⟨g, off, rfl, _, _, _⟩ := hr.at_ (by omega)
    refine EW.skip ?_
    refine EW.seq ?_
    refine EW.block ?_
    refine EW.seq ?_
    refine EW.reg ?_
    refine EP.o rfl (Does.move rfl) ?_
    refine EP.o rfl (Does.assign rfl) ?_
    refine EP.nil ?_
    refine EW.seq ?_
    refine EW.reg ?_
    refine EP.o rfl (Does.move rfl) ?_
    refine EP.o rfl (Does.move rfl) ?_
    refine EP.o rfl (Does.move rfl) ?_
    refine EP.o rfl (Does.indexAddr1 sl241 rfl rfl (by omega) (by omega)) ?_
    refine EP.o rfl (Does.load1 o149 rfl (Keeps.now _) (hr.one hvk).2) ?_
    refine EP.o rfl (Does.eqNil Tryz.underlying149 rfl rfl) ?_
    refine EP.nil ?_
    refine EW.condF (rfl) ?_
    refine EW.skip ?_
    refine EW.reg ?_
    refine EP.o rfl (Does.addi rfl rfl (by omega)) ?_
    refine EP.o rfl (Does.move rfl) ?_
    refine EP.nil ?_
    refine ⟨k + 1, ⟨rfl, rfl, rfl, rfl, trivial⟩, ?_, ?_⟩
    exact ⟨hC, hr, hkn⟩
    omega
  · try simp at h1
    refine EW.exit (brk_here ?_)
    refine EW.seq ?_
    refine EW.reg ?_
    refine EP.o rfl (Does.assign rfl) ?_
    refine EP.nil ?_
    refine EW.ret ?_
    refine Fin.one rfl rfl ?_
    exact ⟨rfl, hC⟩
theorem hasP_c (vs : List Value) (F : Nat → Prop) (A : Option Addr) (n c : Nat) (w : World) (hn : n ≤ 2000000) (hF : ∀ b, F b → b < w.heap.size) (hr : Rd F w 1 A n vs) (hv : ∀ (k : Nat) (v : Value), vs[k]? = some v → ∃ a, v = .pointer (some a)) :
    Calls P 228 #[.slice A n c, .pointer none] w (Ret fun u w' => u = .bool false ∧ Chg [] w w') := by
  have hC := Chg.refl [] w
  refine enter Tryz.func228 rfl rfl ?_
  refine EW.seq ?_
  refine EW.reg ?_
  refine EP.o rfl (Does.assign rfl) ?_
  refine EP.nil ?_
  refine EW.seq ?_
  refine EW.reg ?_
  refine EP.o rfl (Does.move rfl) ?_
  refine EP.o rfl (Does.move rfl) ?_
  refine EP.call2 rfl (Enters.fn fb237 rfl) (idxP_c vs F A n c _ hn hF hr hv) ?_
  rintro _ w1 ⟨rfl, hx1⟩
  have hz1 := hx1.size
  replace hC := hC.step0 hx1
  refine EP.o rfl (Does.cmp rfl rfl rfl) ?_
  refine EP.o rfl (Does.assign rfl) ?_
  refine EP.nil ?_
  refine EW.ret ?_
  refine Fin.one rfl rfl ?_
  exact ⟨rfl, hC⟩
end Go.Clt
end
section
set_option linter.unusedVariables false
set_option linter.unusedSimpArgs false
namespace Go.Clt
open Go Go.RowKit Go.Proofs
theorem ag68 : aggB P 68 = false := by kernel_rfl
theorem kn68' : known P 68 = true := by kernel_rfl
theorem cel68 : P.cellsOf 68 = 1 := by kernel_rfl
theorem inf68 : (P.info? 68).isSome = true := by kernel_rfl
theorem grd70 : P.eqGuardType P.depth 70 = false := by kernel_rfl
theorem part68 (cs : List Value) (i : Nat) (v : Value) (h : cs[i]? = some v) (w : World) : (part 68 cs.toArray i).run P w = .ok v w := by
  simp [part, run_isAgg kn68', ag68, h]
theorem eq68 (d : Nat) (a b : Int) (w : World) : (Op.equalIn (d + 1) 68 (.int .u64 a) (.int .u64 b)).run P w = .ok (a == b) w := by
  simp [Op.equalIn, run_underlying Tryz.underlying68]
theorem eqSet_run (d s t : Nat) (hs : SetOk s) (ht : SetOk t) (w : World) : (Op.equalIn (d + 2) 70 (.agg (setCells s).toArray) (.agg (setCells t).toArray)).run P w = .ok (decide (s = t)) w := by
  obtain ⟨i, hi⟩ := Option.isSome_iff_exists.1 inf68
  rw [run_equalIn_array w (d + 1) _ _ Tryz.underlying70 hi, cel68]
  have hst : s = t ↔ ∀ k, k < 4 → wd s k = wd t k := ⟨fun h => by rw [h]; intros; rfl, fun h => set_ext hs ht h⟩
  have h4 : List.range 4 = [0, 1, 2, 3] := rfl
  rw [h4]
  have qs0 := part68 (setCells s) 0 (.int .u64 (wd s 0)) rfl
  have qs1 := part68 (setCells s) 1 (.int .u64 (wd s 1)) rfl
  have qs2 := part68 (setCells s) 2 (.int .u64 (wd s 2)) rfl
  have qs3 := part68 (setCells s) 3 (.int .u64 (wd s 3)) rfl
  have qt0 := part68 (setCells t) 0 (.int .u64 (wd t 0)) rfl
  have qt1 := part68 (setCells t) 1 (.int .u64 (wd t 1)) rfl
  have qt2 := part68 (setCells t) 2 (.int .u64 (wd t 2)) rfl
  have qt3 := part68 (setCells t) 3 (.int .u64 (wd t 3)) rfl
  simp only [Op.eqItems, Sem.run_bind, Nat.mul_one, qs0, qt0, eq68, Result.andThen_ok]
  by_cases h0 : wd s 0 = wd t 0
  · by_cases h1 : wd s 1 = wd t 1
    · by_cases h2 : wd s 2 = wd t 2
      · by_cases h3 : wd s 3 = wd t 3
        · have : s = t := hst.2 (fun k hk => by
            rcases (by omega : k = 0 ∨ k = 1 ∨ k = 2 ∨ k = 3) with rfl | rfl | rfl | rfl <;> assumption)
          simp [qs1, qs2, qs3, qt1, qt2, qt3, eq68, h0, h1, h2, h3, this]
        · have : ¬ s = t := fun h => h3 (by rw [h])
          simp [qs1, qs2, qs3, qt1, qt2, qt3, eq68, h0, h1, h2, h3, this]
      · have : ¬ s = t := fun h => h2 (by rw [h])
        simp [qs1, qs2, qs3, qt1, qt2, qt3, eq68, h0, h1, h2, this]
    · have : ¬ s = t := fun h => h1 (by rw [h])
      simp [qs1, qs2, qs3, qt1, qt2, qt3, eq68, h0, h1, this]
  · have : ¬ s = t := fun h => h0 (by rw [h])
    simp [h0, this]
section
variable {n : Nat} {e : Env} {dst : Option Tmp} {t : TypeId} {p : String} {af : Array Edge} {g : Option (Nat × Bool)} {φ : World → Prop}
theorem Does.neSet {τ' : TypeId} {x y : Operand} {s u : Nat} (hs : SetOk s) (hu : SetOk u) (hx : ev e x = some (.agg (setCells s).toArray)) (hy : ev e y = some (.agg (setCells u).toArray)) : Does P n e ⟨dst, .binOp .neq 70 x y τ', t, p, af, g⟩ φ (.bool !decide (s = u)) := fun a w ha hw => by
  have h := eqSet_run 9998 s u hs hu w
  have hgd : (eqGuard .neq 70 x y (.agg (setCells s).toArray) (.agg (setCells u).toArray)).run P w = .ok () w := by
    simp [eqGuard, run_program, grd70]
  simp only [execOp, ha.ev hx, ha.ev hy, Sem.run_bind, hgd, Result.andThen_ok, binOp, Op.equal, Op.maxDepth]
  simp [h]
end
end Go.Clt
end
section
set_option linter.unusedVariables false
set_option linter.unusedSimpArgs false
namespace Go.Clt
open Go
theorem wanted_undef {n : Nat} {ops : Array Oper} {e : Env} {a : Act} {j d : Nat} {c' : Bool} (ha : Rep n a e) (hj : (ops[j]?).bind (·.dst) = some d) (hd : Nat.blt d n = true) (hv : lk e d = some undef) {o : Oper} (ho : o.guard = some (j, c')) : Region.wanted o (yielded ops a.tmps) = false := by
  have h1 := ha.get d _ hv
  have hlt : d < a.tmps.size := by rw [ha.size]; simpa [Nat.blt_eq] using hd
  have h2 : a.tmps[d]? = some undef := by
    rw [Array.getElem?_eq_getElem hlt]
    rw [Array.getD_eq_getD_getElem?, Array.getElem?_eq_getElem hlt] at h1
    simpa using h1
  unfold Region.wanted
  rw [ho]
  simp only [yielded, hj, Option.bind_some, h2, undef]
  cases c' <;> rfl
theorem EP.sku {P : Program} {n : Nat} {ops : Array Oper} {S : World → Prop} {N : Env → World → Prop} {B : Nat → Env → World → Prop} {R : Env → World → Prop} {e : Env} {w : World} {rest : List (Nat × Oper)} {op : Op} {t : TypeId} {p : String} {af : Array Edge} {k j d x : Nat} {c' : Bool}
    (hj : (ops[j]?).bind (·.dst) = some d) (hd : Nat.blt d n = true) (hv : lk e d = some undef) (hx : Nat.blt x n = true) (hk : k = 1 → S w) (h : EP P n ops S N B R rest ((x, undef) :: e) w) :
    EP P n ops S N B R ((k, ⟨some x, op, t, p, af, some (j, c')⟩) :: rest) e w := fun a ha => by
  have hw : Region.wanted ⟨some x, op, t, p, af, some (j, c')⟩ (yielded ops a.tmps) = false := wanted_undef ha hj hd hv rfl
  have h1 := h _ (ha.put x undef hx)
  match k, hk with
  | 0, _ => simp only [PlanWp]; exact ⟨undef, .inr ⟨hw, rfl⟩, h1⟩
  | 1, hk => simp only [PlanWp, wpO]; rw [if_neg (by rw [hw]; simp)]; exact ⟨hk rfl, h1⟩
  | k + 2, _ => simp only [PlanWp, wpO]; rw [if_neg (by rw [hw]; simp)]; exact h1
end Go.Clt
end
section
set_option linter.unusedVariables false
set_option linter.unusedSimpArgs false
set_option maxRecDepth 4000
namespace Go.Clt
set_option maxHeartbeats 2000000
open Go Go.RowKit Go.Proofs
def groupedQ (t : Syn) : Bool := decide (t.kind = 2) || decide (t.kind = 3)
def plainQ (t : Syn) : Bool := decide (t.mn = 0) && (decide (t.mx = 0) && !t.lz)
def countOk (t : Syn) : Bool := decide (0 ≤ t.mn) && (decide (t.mn ≤ 1000) && (decide (t.mx = -1) || (decide (t.mn ≤ t.mx) && decide (t.mx ≤ 1000))))
def notK (ks : List Int) (l : List Syn) : Bool := !((List.range l.length).any fun k => ks.contains (l.getD k default).kind)
def kidsQ (t : Syn) : Bool :=
  if t.kind = 0 ∨ t.kind = 1 then decide (t.l.length = 0)
  else if t.kind = 2 ∨ t.kind = 3 then decide (t.l.length = 1)
  else if t.kind = 4 then decide (1 < t.l.length) && notK [4, 0, 5] t.l
  else if t.kind = 5 then decide (1 < t.l.length) && notK [5] t.l
  else if t.kind = 6 then decide (t.l.length = 1) && (countOk t && (decide ((t.l.getD 0 default).kind = 1) || groupedQ (t.l.getD 0 default)))
  else false
def formQ (t : Syn) : Bool := (decide (t.kind = 1) || decide (t.set = 0)) && ((decide (t.kind = 6) || plainQ t) && kidsQ t)
theorem IsSyn.open {F : Nat → Prop} {w : World} {t : Syn} {v : Value} (h : IsSyn F w t v) : ∃ p A c vs, v = .pointer (some ⟨p, 0, none⟩) ∧ F p ∧ Blk w p (nodeC t.kind t.set t.mn t.mx t.lz (.slice A t.l.length c) t.a t.b) 254 ∧ Rd F w 1 A t.l.length vs ∧ IsSyns F w t.l vs := by
  cases t with
  | node k s mn mx lz l a b => exact h
theorem grouped_c (t : Syn) (v : Value) (F : Nat → Prop) (w : World) (hI : IsSyn F w t v) : Calls P 214 #[v] w (Ret fun u w' => u = .bool (groupedQ t) ∧ Chg [] w w') := by
  have hC := Chg.refl [] w
  obtain ⟨q, A, c, vs, rfl, _, hB0, _, _⟩ := hI.open
  try have hlB0 := hB0.lt
  refine enter Tryz.func214 rfl rfl ?_
  refine EW.seq ?_
  refine EW.reg ?_
  refine EP.o rfl (Does.assign rfl) ?_
  refine EP.nil ?_
  refine EW.seq ?_
  refine EW.reg ?_
  refine EP.o rfl (Does.move rfl) ?_
  refine EP.o rfl (Does.nilCheck rfl) ?_
  refine EP.o rfl (Does.fieldAddr fl254_0 rfl) ?_
  refine EP.o rfl (Does.loadB o3 rfl (Keeps.now _) (by assumption) (by rfl)) ?_
  refine EP.o rfl (Does.cmp rfl rfl rfl) ?_
  refine EP.o rfl (Does.move rfl) ?_
  refine EP.bsplit (d := 8) rfl (fun h1 => ?_) (fun h1 => ?_)
  · try simp at h1
    refine EP.skp rfl rfl rfl rfl rfl (fun h => by cases h) ?_
    refine EP.skp rfl rfl rfl rfl rfl (fun h => by cases h) ?_
    refine EP.skp rfl rfl rfl rfl rfl (fun h => by cases h) ?_
    refine EP.skp rfl rfl rfl rfl rfl (fun h => by cases h) ?_
    refine EP.skp rfl rfl rfl rfl rfl (fun h => by cases h) ?_
    refine EP.o rfl (Does.pickT rfl rfl) ?_
    refine EP.o rfl (Does.assign rfl) ?_
    refine EP.nil ?_
    refine EW.ret ?_
    refine Fin.one rfl rfl ?_
    exact ⟨vbool (by unfold groupedQ; rw [decide_eq_true h1]; rfl), hC⟩
  · try simp at h1
    refine EP.ung rfl rfl rfl ?_
    refine EP.o rfl (Does.move rfl) ?_
    refine EP.ung rfl rfl rfl ?_
    refine EP.o rfl (Does.nilCheck rfl) ?_
    refine EP.ung rfl rfl rfl ?_
    refine EP.o rfl (Does.fieldAddr fl254_0 rfl) ?_
    refine EP.ung rfl rfl rfl ?_
    refine EP.o rfl (Does.loadB o3 rfl (Keeps.now _) (by assumption) (by rfl)) ?_
    refine EP.ung rfl rfl rfl ?_
    refine EP.o rfl (Does.cmp rfl rfl rfl) ?_
    refine EP.o rfl (Does.pickF rfl rfl) ?_
    refine EP.o rfl (Does.assign rfl) ?_
    refine EP.nil ?_
    refine EW.ret ?_
    refine Fin.one rfl rfl ?_
    exact ⟨vbool (by unfold groupedQ; rw [decide_eq_false h1, Bool.false_or, Bool.eq_iff_iff, cmpB_eql, decide_eq_true_iff]), hC⟩
theorem plain_c (t : Syn) (v : Value) (F : Nat → Prop) (w : World) (hI : IsSyn F w t v) : Calls P 229 #[v] w (Ret fun u w' => u = .bool (plainQ t) ∧ Chg [] w w') := by
  have hC := Chg.refl [] w
  obtain ⟨q, A, c, vs, rfl, _, hB0, _, _⟩ := hI.open
  try have hlB0 := hB0.lt
  refine enter Tryz.func229 rfl rfl ?_
  refine EW.seq ?_
  refine EW.reg ?_
  refine EP.o rfl (Does.assign rfl) ?_
  refine EP.nil ?_
  refine EW.seq ?_
  refine EW.reg ?_
  refine EP.o rfl (Does.move rfl) ?_
  refine EP.o rfl (Does.nilCheck rfl) ?_
  refine EP.o rfl (Does.fieldAddr fl254_2 rfl) ?_
  refine EP.o rfl (Does.loadB o3 rfl (Keeps.now _) (by assumption) (by rfl)) ?_
  refine EP.o rfl (Does.cmp rfl rfl rfl) ?_
  refine EP.o rfl (Does.move rfl) ?_
  refine EP.bsplit (d := 8) rfl (fun h1 => ?_) (fun h1 => ?_)
  · try simp at h1
    refine EP.ung rfl rfl rfl ?_
    refine EP.o rfl (Does.move rfl) ?_
    refine EP.ung rfl rfl rfl ?_
    refine EP.o rfl (Does.nilCheck rfl) ?_
    refine EP.ung rfl rfl rfl ?_
    refine EP.o rfl (Does.fieldAddr fl254_3 rfl) ?_
    refine EP.ung rfl rfl rfl ?_
    refine EP.o rfl (Does.loadB o3 rfl (Keeps.now _) (by assumption) (by rfl)) ?_
    refine EP.ung rfl rfl rfl ?_
    refine EP.o rfl (Does.cmp rfl rfl rfl) ?_
    refine EP.o rfl (Does.pickT rfl rfl) ?_
    refine EP.o rfl (Does.move rfl) ?_
    refine EP.bsplit (d := 15) rfl (fun h2 => ?_) (fun h2 => ?_)
    · try simp at h2
      refine EP.ung rfl rfl rfl ?_
      refine EP.o rfl (Does.move rfl) ?_
      refine EP.ung rfl rfl rfl ?_
      refine EP.o rfl (Does.nilCheck rfl) ?_
      refine EP.ung rfl rfl rfl ?_
      refine EP.o rfl (Does.fieldAddr fl254_4 rfl) ?_
      refine EP.ung rfl rfl rfl ?_
      refine EP.o rfl (Does.loadB o4 rfl (Keeps.now _) (by assumption) (by rfl)) ?_
      refine EP.ung rfl rfl rfl ?_
      refine EP.o rfl (Does.not rfl) ?_
      refine EP.o rfl (Does.pickT rfl rfl) ?_
      refine EP.o rfl (Does.assign rfl) ?_
      refine EP.nil ?_
      refine EW.ret ?_
      refine Fin.one rfl rfl ?_
      exact ⟨vbool (by unfold plainQ; rw [decide_eq_true h1, decide_eq_true h2]; rfl), hC⟩
    · try simp at h2
      refine EP.skp rfl rfl rfl rfl rfl (fun h => by cases h) ?_
      refine EP.skp rfl rfl rfl rfl rfl (fun h => by cases h) ?_
      refine EP.skp rfl rfl rfl rfl rfl (fun h => by cases h) ?_
      refine EP.skp rfl rfl rfl rfl rfl (fun h => by cases h) ?_
      refine EP.skp rfl rfl rfl rfl rfl (fun h => by cases h) ?_
      refine EP.o rfl (Does.pickF rfl rfl) ?_
      refine EP.o rfl (Does.assign rfl) ?_
      refine EP.nil ?_
      refine EW.ret ?_
      refine Fin.one rfl rfl ?_
      exact ⟨vbool (by unfold plainQ; rw [decide_eq_false h2]; simp), hC⟩
  · try simp at h1
    refine EP.skp rfl rfl rfl rfl rfl (fun h => by cases h) ?_
    refine EP.skp rfl rfl rfl rfl rfl (fun h => by cases h) ?_
    refine EP.skp rfl rfl rfl rfl rfl (fun h => by cases h) ?_
    refine EP.skp rfl rfl rfl rfl rfl (fun h => by cases h) ?_
    refine EP.skp rfl rfl rfl rfl rfl (fun h => by cases h) ?_
    refine EP.o rfl (Does.pickF rfl rfl) ?_
    refine EP.o rfl (Does.move rfl) ?_
    refine EP.skp rfl rfl rfl rfl rfl (fun h => by cases h) ?_
    refine EP.skp rfl rfl rfl rfl rfl (fun h => by cases h) ?_
    refine EP.skp rfl rfl rfl rfl rfl (fun h => by cases h) ?_
    refine EP.skp rfl rfl rfl rfl rfl (fun h => by cases h) ?_
    refine EP.skp rfl rfl rfl rfl rfl (fun h => by cases h) ?_
    refine EP.o rfl (Does.pickF rfl rfl) ?_
    refine EP.o rfl (Does.assign rfl) ?_
    refine EP.nil ?_
    refine EW.ret ?_
    refine Fin.one rfl rfl ?_
    exact ⟨vbool (by unfold plainQ; rw [decide_eq_false h1]; rfl), hC⟩
theorem counted_c (t : Syn) (v : Value) (F : Nat → Prop) (w : World) (hI : IsSyn F w t v) : Calls P 233 #[v] w (Ret fun u w' => u = .bool (countOk t) ∧ Chg [] w w') := by
  have hC := Chg.refl [] w
  obtain ⟨q, A, c, vs, rfl, _, hB0, _, _⟩ := hI.open
  try have hlB0 := hB0.lt
  refine enter Tryz.func233 rfl rfl ?_
  refine EW.seq ?_
  refine EW.reg ?_
  refine EP.o rfl (Does.assign rfl) ?_
  refine EP.nil ?_
  refine EW.seq ?_
  refine EW.drw' (S := []) 27 [(0, 0), (0, 1), (0, 2), (0, 3), (0, 4), (0, 5), (0, 6), (0, 7), (0, 8), (0, 9), (0, 10), (0, 11), (0, 12), (0, 13), (0, 14), (0, 15), (0, 16), (0, 17), (0, 18), (0, 19), (0, 20), (0, 21), (0, 22), (0, 23), (0, 24), (0, 25), (0, 26), (2, 27), (2, 28), (2, 29), (2, 30), (2, 31), (2, 32), (2, 33), (2, 34), (2, 35), (2, 36), (2, 37)] mo (by kernel_rfl) ?_
  intro w1 hx1 hh1
  have hz1 := hx1.size
  replace hC := hC.step0 hx1
  replace hB0 := hB0.chg0 hx1
  refine EP.f rfl (Does.move rfl) ?_
  refine EP.f rfl (Does.nilCheck rfl) ?_
  refine EP.f rfl (Does.fieldAddr fl254_2 rfl) ?_
  refine EP.f rfl (Does.loadBc o3 rfl (by assumption) (by simp; done) (by rfl)) ?_
  refine EP.f rfl (Does.cmp rfl rfl rfl) ?_
  refine EP.f rfl (Does.move rfl) ?_
  refine EP.bsplit (d := 8) rfl (fun h1 => ?_) (fun h1 => ?_)
  · try simp at h1
    refine EP.ung rfl rfl rfl ?_
    refine EP.f rfl (Does.move rfl) ?_
    refine EP.ung rfl rfl rfl ?_
    refine EP.f rfl (Does.nilCheck rfl) ?_
    refine EP.ung rfl rfl rfl ?_
    refine EP.f rfl (Does.fieldAddr fl254_2 rfl) ?_
    refine EP.ung rfl rfl rfl ?_
    refine EP.f rfl (Does.loadBc o3 rfl (by assumption) (by simp; done) (by rfl)) ?_
    refine EP.ung rfl rfl rfl ?_
    refine EP.f rfl (Does.cmp rfl rfl rfl) ?_
    refine EP.f rfl (Does.pickT rfl rfl) ?_
    refine EP.f rfl (Does.move rfl) ?_
    refine EP.bsplit (d := 15) rfl (fun h2 => ?_) (fun h2 => ?_)
    · try simp at h2
      refine EP.ung rfl rfl rfl ?_
      refine EP.f rfl (Does.move rfl) ?_
      refine EP.ung rfl rfl rfl ?_
      refine EP.f rfl (Does.nilCheck rfl) ?_
      refine EP.ung rfl rfl rfl ?_
      refine EP.f rfl (Does.fieldAddr fl254_3 rfl) ?_
      refine EP.ung rfl rfl rfl ?_
      refine EP.f rfl (Does.loadBc o3 rfl (by assumption) (by simp; done) (by rfl)) ?_
      refine EP.ung rfl rfl rfl ?_
      refine EP.f rfl (Does.cmp rfl rfl rfl) ?_
      refine EP.ung rfl rfl rfl ?_
      refine EP.f rfl (Does.move rfl) ?_
      refine EP.bsplit (d := 21) rfl (fun h3 => ?_) (fun h3 => ?_)
      · try simp at h3
        refine EP.skp rfl rfl rfl rfl rfl (fun h => by cases h) ?_
        refine EP.skp rfl rfl rfl rfl rfl (fun h => by cases h) ?_
        refine EP.skp rfl rfl rfl rfl rfl (fun h => by cases h) ?_
        refine EP.skp rfl rfl rfl rfl rfl (fun h => by cases h) ?_
        refine EP.skp rfl rfl rfl rfl rfl (fun h => by cases h) ?_
        refine EP.skp rfl rfl rfl rfl rfl (fun h => by cases h) ?_
        refine EP.skp rfl rfl rfl rfl rfl (fun h => by cases h) ?_
        refine EP.skp rfl rfl rfl rfl rfl (fun h => by cases h) ?_
        refine EP.skp rfl rfl rfl rfl rfl (fun h => by cases h) ?_
        refine EP.skp rfl rfl rfl rfl rfl (fun h => by cases h) ?_
        refine EP.sku rfl rfl rfl rfl (fun h => by cases h) ?_
        refine EP.sku rfl rfl rfl rfl (fun h => by cases h) ?_
        refine EP.sku rfl rfl rfl rfl (fun h => by cases h) ?_
        refine EP.sku rfl rfl rfl rfl (fun h => by cases h) ?_
        refine EP.sku rfl rfl rfl rfl (fun h => by cases h) ?_
        refine EP.skp rfl rfl rfl rfl rfl (fun h => by cases h) ?_
        refine EP.ung rfl rfl rfl ?_
        refine EP.o rfl (Does.pickT rfl rfl) ?_
        refine EP.o rfl (Does.pickT rfl rfl) ?_
        refine EP.o rfl (Does.assign rfl) ?_
        refine EP.nil ?_
        refine EW.ret ?_
        refine Fin.one rfl rfl ?_
        exact ⟨vbool (by unfold countOk; rw [decide_eq_true h1, decide_eq_true h2, decide_eq_true h3]; rfl), hC⟩
      · try simp at h3
        refine EP.ung rfl rfl rfl ?_
        refine EP.f rfl (Does.move rfl) ?_
        refine EP.ung rfl rfl rfl ?_
        refine EP.f rfl (Does.nilCheck rfl) ?_
        refine EP.ung rfl rfl rfl ?_
        refine EP.f rfl (Does.fieldAddr fl254_3 rfl) ?_
        refine EP.ung rfl rfl rfl ?_
        refine EP.f rfl (Does.loadBc o3 rfl (by assumption) (by simp; done) (by rfl)) ?_
        refine EP.ung rfl rfl rfl ?_
        refine EP.f rfl (Does.move rfl) ?_
        refine EP.ung rfl rfl rfl ?_
        refine EP.f rfl (Does.nilCheck rfl) ?_
        refine EP.ung rfl rfl rfl ?_
        refine EP.f rfl (Does.fieldAddr fl254_2 rfl) ?_
        refine EP.ung rfl rfl rfl ?_
        refine EP.f rfl (Does.loadBc o3 rfl (by assumption) (by simp; done) (by rfl)) ?_
        refine EP.ung rfl rfl rfl ?_
        refine EP.o rfl (Does.cmp rfl rfl rfl) ?_
        refine EP.ung rfl rfl rfl ?_
        refine EP.o rfl (Does.move rfl) ?_
        refine EP.bsplit (d := 31) rfl (fun h4 => ?_) (fun h4 => ?_)
        · try simp at h4
          refine EP.ung rfl rfl rfl ?_
          refine EP.o rfl (Does.move rfl) ?_
          refine EP.ung rfl rfl rfl ?_
          refine EP.o rfl (Does.nilCheck rfl) ?_
          refine EP.ung rfl rfl rfl ?_
          refine EP.o rfl (Does.fieldAddr fl254_3 rfl) ?_
          refine EP.ung rfl rfl rfl ?_
          refine EP.o rfl (Does.loadB o3 rfl (Keeps.now _) (by assumption) (by rfl)) ?_
          refine EP.ung rfl rfl rfl ?_
          refine EP.o rfl (Does.cmp rfl rfl rfl) ?_
          refine EP.ung rfl rfl rfl ?_
          refine EP.o rfl (Does.pickT rfl rfl) ?_
          refine EP.ung rfl rfl rfl ?_
          refine EP.o rfl (Does.pickF rfl rfl) ?_
          refine EP.o rfl (Does.pickT rfl rfl) ?_
          refine EP.o rfl (Does.assign rfl) ?_
          refine EP.nil ?_
          refine EW.ret ?_
          refine Fin.one rfl rfl ?_
          exact ⟨vbool (by unfold countOk; rw [decide_eq_true h1, decide_eq_true h2, decide_eq_false h3, decide_eq_true h4, Bool.true_and, Bool.true_and, Bool.false_or, Bool.true_and, Bool.eq_iff_iff, cmpB_leq, decide_eq_true_iff]), hC⟩
        · try simp at h4
          refine EP.skp rfl rfl rfl rfl rfl (fun h => by cases h) ?_
          refine EP.skp rfl rfl rfl rfl rfl (fun h => by cases h) ?_
          refine EP.skp rfl rfl rfl rfl rfl (fun h => by cases h) ?_
          refine EP.skp rfl rfl rfl rfl rfl (fun h => by cases h) ?_
          refine EP.skp rfl rfl rfl rfl rfl (fun h => by cases h) ?_
          refine EP.ung rfl rfl rfl ?_
          refine EP.o rfl (Does.pickF rfl rfl) ?_
          refine EP.ung rfl rfl rfl ?_
          refine EP.o rfl (Does.pickF rfl rfl) ?_
          refine EP.o rfl (Does.pickT rfl rfl) ?_
          refine EP.o rfl (Does.assign rfl) ?_
          refine EP.nil ?_
          refine EW.ret ?_
          refine Fin.one rfl rfl ?_
          exact ⟨vbool (by unfold countOk; rw [decide_eq_true h1, decide_eq_true h2, decide_eq_false h3, decide_eq_false (by omega : ¬ t.mn ≤ t.mx)]; rfl), hC⟩
    · try simp at h2
      refine EP.skp rfl rfl rfl rfl rfl (fun h => by cases h) ?_
      refine EP.skp rfl rfl rfl rfl rfl (fun h => by cases h) ?_
      refine EP.skp rfl rfl rfl rfl rfl (fun h => by cases h) ?_
      refine EP.skp rfl rfl rfl rfl rfl (fun h => by cases h) ?_
      refine EP.skp rfl rfl rfl rfl rfl (fun h => by cases h) ?_
      refine EP.skp rfl rfl rfl rfl rfl (fun h => by cases h) ?_
      refine EP.sku rfl rfl rfl rfl (fun h => by cases h) ?_
      refine EP.sku rfl rfl rfl rfl (fun h => by cases h) ?_
      refine EP.sku rfl rfl rfl rfl (fun h => by cases h) ?_
      refine EP.sku rfl rfl rfl rfl (fun h => by cases h) ?_
      refine EP.sku rfl rfl rfl rfl (fun h => by cases h) ?_
      refine EP.sku rfl rfl rfl rfl (fun h => by cases h) ?_
      refine EP.sku rfl rfl rfl rfl (fun h => by cases h) ?_
      refine EP.sku rfl rfl rfl rfl (fun h => by cases h) ?_
      refine EP.sku rfl rfl rfl rfl (fun h => by cases h) ?_
      refine EP.sku rfl rfl rfl rfl (fun h => by cases h) ?_
      refine EP.sku rfl rfl rfl rfl (fun h => by cases h) ?_
      refine EP.sku rfl rfl rfl rfl (fun h => by cases h) ?_
      refine EP.sku rfl rfl rfl rfl (fun h => by cases h) ?_
      refine EP.sku rfl rfl rfl rfl (fun h => by cases h) ?_
      refine EP.sku rfl rfl rfl rfl (fun h => by cases h) ?_
      refine EP.sku rfl rfl rfl rfl (fun h => by cases h) ?_
      refine EP.skp rfl rfl rfl rfl rfl (fun h => by cases h) ?_
      refine EP.o rfl (Does.pickF rfl rfl) ?_
      refine EP.o rfl (Does.assign rfl) ?_
      refine EP.nil ?_
      refine EW.ret ?_
      refine Fin.one rfl rfl ?_
      exact ⟨vbool (by unfold countOk; rw [decide_eq_false (by omega : ¬ t.mn ≤ 1000)]; simp), hC⟩
  · try simp at h1
    refine EP.skp rfl rfl rfl rfl rfl (fun h => by cases h) ?_
    refine EP.skp rfl rfl rfl rfl rfl (fun h => by cases h) ?_
    refine EP.skp rfl rfl rfl rfl rfl (fun h => by cases h) ?_
    refine EP.skp rfl rfl rfl rfl rfl (fun h => by cases h) ?_
    refine EP.skp rfl rfl rfl rfl rfl (fun h => by cases h) ?_
    refine EP.f rfl (Does.pickF rfl rfl) ?_
    refine EP.f rfl (Does.move rfl) ?_
    refine EP.skp rfl rfl rfl rfl rfl (fun h => by cases h) ?_
    refine EP.skp rfl rfl rfl rfl rfl (fun h => by cases h) ?_
    refine EP.skp rfl rfl rfl rfl rfl (fun h => by cases h) ?_
    refine EP.skp rfl rfl rfl rfl rfl (fun h => by cases h) ?_
    refine EP.skp rfl rfl rfl rfl rfl (fun h => by cases h) ?_
    refine EP.skp rfl rfl rfl rfl rfl (fun h => by cases h) ?_
    refine EP.sku rfl rfl rfl rfl (fun h => by cases h) ?_
    refine EP.sku rfl rfl rfl rfl (fun h => by cases h) ?_
    refine EP.sku rfl rfl rfl rfl (fun h => by cases h) ?_
    refine EP.sku rfl rfl rfl rfl (fun h => by cases h) ?_
    refine EP.sku rfl rfl rfl rfl (fun h => by cases h) ?_
    refine EP.sku rfl rfl rfl rfl (fun h => by cases h) ?_
    refine EP.sku rfl rfl rfl rfl (fun h => by cases h) ?_
    refine EP.sku rfl rfl rfl rfl (fun h => by cases h) ?_
    refine EP.sku rfl rfl rfl rfl (fun h => by cases h) ?_
    refine EP.sku rfl rfl rfl rfl (fun h => by cases h) ?_
    refine EP.sku rfl rfl rfl rfl (fun h => by cases h) ?_
    refine EP.sku rfl rfl rfl rfl (fun h => by cases h) ?_
    refine EP.sku rfl rfl rfl rfl (fun h => by cases h) ?_
    refine EP.sku rfl rfl rfl rfl (fun h => by cases h) ?_
    refine EP.sku rfl rfl rfl rfl (fun h => by cases h) ?_
    refine EP.sku rfl rfl rfl rfl (fun h => by cases h) ?_
    refine EP.skp rfl rfl rfl rfl rfl (fun h => by cases h) ?_
    refine EP.o rfl (Does.pickF rfl rfl) ?_
    refine EP.o rfl (Does.assign rfl) ?_
    refine EP.nil ?_
    refine EW.ret ?_
    refine Fin.one rfl rfl ?_
    exact ⟨vbool (by unfold countOk; rw [decide_eq_false (by omega : ¬ 0 ≤ t.mn)]; rfl), hC⟩
end Go.Clt
end
section
set_option linter.unusedVariables false
set_option linter.unusedSimpArgs false
set_option maxRecDepth 4000
namespace Go.Clt
set_option maxHeartbeats 2000000
open Go Go.RowKit Go.Proofs
theorem form11_c (t : Syn) (v : Value) (F F2 : Nat → Prop) (ks : List Int) (A : Option Addr) (n c bk : Nat) (w : World) (hn : n ≤ 2000000) (hF2 : ∀ b, F2 b → b < w.heap.size) (hI : IsSyn F w t v) (hK : Blk w bk [.slice A n c] 24) (hrK : Rd F2 w 1 A n (ints ks)) : Calls P 231 #[v, .pointer (some ⟨bk, 0, none⟩)] w (Ret fun u w' => u = .bool (ks.contains t.kind) ∧ Chg [] w w') := by
  have hC := Chg.refl [] w
  obtain ⟨q, A1, c1, vs, rfl, _, hB0, _, _⟩ := hI.open
  try have hlB0 := hB0.lt
  refine enter Tryz.func231 rfl rfl ?_
  refine EW.seq ?_
  refine EW.reg ?_
  refine EP.o rfl (Does.assign rfl) ?_
  refine EP.nil ?_
  refine EW.seq ?_
  refine EW.drw' (S := []) 5 [(0, 0), (0, 1), (0, 2), (0, 3), (0, 4), (2, 5), (2, 6)] mo (by kernel_rfl) ?_
  intro w1 hx1 hh1
  have hz1 := hx1.size
  replace hC := hC.step0 hx1
  replace hB0 := hB0.chg0 hx1
  replace hK := hK.chg0 hx1
  replace hrK := hrK.chg0 hx1
  refine EP.f rfl (Does.loadBc o24 rfl (by assumption) (by simp; done) (by rfl)) ?_
  refine EP.f rfl (Does.move rfl) ?_
  refine EP.f rfl (Does.nilCheck rfl) ?_
  refine EP.f rfl (Does.fieldAddr fl254_0 rfl) ?_
  refine EP.f rfl (Does.loadBc o3 rfl (by assumption) (by simp; done) (by rfl)) ?_
  refine EP.call2 rfl (Enters.fn fb232 rfl) (hasI_c ks t.kind F2 A n c _ hn (fun y hy => by have := hF2 y hy; omega) (by assumption)) ?_
  rintro _ w2 ⟨rfl, hx2⟩
  have hz2 := hx2.size
  replace hC := hC.step0 hx2
  replace hB0 := hB0.chg0 hx2
  replace hK := hK.chg0 hx2
  replace hrK := hrK.chg0 hx2
  refine EP.o rfl (Does.assign rfl) ?_
  refine EP.nil ?_
  refine EW.ret ?_
  refine Fin.one rfl rfl ?_
  exact ⟨rfl, hC⟩
theorem kids_call {l : List Syn} {vs : List Value} {F F2 : Nat → Prop} {ks : List Int} {A : Option Addr} {n c bk : Nat} {w : World} (hIs : IsSyns F w l vs) (hn : n ≤ 2000000) (hF2 : ∀ b, F2 b → b < w.heap.size) (hK : Blk w bk [.slice A n c] 24) (hrK : Rd F2 w 1 A n (ints ks)) (k : Nat) (v : Value) (w' : World) (hk : k < l.length) (hv : vs[k]? = some v) (hx : Chg [] w w') :
    Calls P 231 (#[] ++ #[v] ++ #[.pointer (some ⟨bk, 0, none⟩)]) w' (Ret fun u w2 => u = .bool (ks.contains (l.getD k default).kind) ∧ Chg [] w' w2) := by
  obtain ⟨u, hu, hiu⟩ := (hIs.chg0 hx).get k hk
  rw [hv] at hu
  injection hu with hu
  subst hu
  exact form11_c _ _ F F2 ks A n c bk w' hn (fun y hy => by have := hF2 y hy; have := hx.size; omega) hiu (hK.chg0 hx) (hrK.chg0 hx)
theorem form1_c (t : Syn) (v : Value) (F F2 : Nat → Prop) (ks : List Int) (A : Option Addr) (n c bn : Nat) (w : World) (hn : n ≤ 2000000) (hl : t.l.length ≤ 2000000) (hF : ∀ b, F b → b < w.heap.size) (hF2 : ∀ b, F2 b → b < w.heap.size) (hI : IsSyn F w t v) (hN : Blk w bn [v] 149) (hrK : Rd F2 w 1 A n (ints ks)) : Calls P 230 #[.slice A n c, .pointer (some ⟨bn, 0, none⟩)] w (Ret fun u w' => u = .bool (notK ks t.l) ∧ Chg [] w w') := by
  have hC := Chg.refl [] w
  obtain ⟨q, A1, c1, vs, rfl, _, hB0, hr, hIs⟩ := hI.open
  try have hlB0 := hB0.lt
  refine enter Tryz.func230 rfl rfl ?_
  refine EW.seq ?_
  refine EW.reg ?_
  refine EP.new2 rfl (News.box rfl rfl) ?_
  intro b1 w1 hb1 hs1 hx1 hB1
  have hz1 := hx1.size
  replace hC := hC.step0 hx1
  replace hB0 := hB0.chg0 hx1
  replace hN := hN.chg0 hx1
  replace hr := hr.chg0 hx1
  replace hIs := hIs.chg0 hx1
  replace hrK := hrK.chg0 hx1
  refine EP.o rfl (Does.assign rfl) ?_
  refine EP.nil ?_
  refine EW.seq ?_
  refine EW.reg ?_
  refine EP.o rfl (Does.loadB o149 rfl (Keeps.now _) (by assumption) (by rfl)) ?_
  refine EP.o rfl (Does.nilCheck rfl) ?_
  refine EP.o rfl (Does.fieldAddr fl254_5 rfl) ?_
  refine EP.o rfl (Does.load1 o241 rfl (Keeps.now _) (by rw [hB0.cell]; rfl)) ?_
  refine EP.o rfl (Does.makeFunc (fun a ha => map_args ha rfl) (fun a ha => map_args ha rfl)) ?_
  refine EP.call2 rfl (Enters.fn fb212 rfl) (anyN_c 231 #[] #[.pointer (some ⟨b1, 0, none⟩)] fb231 vs (fun k => ks.contains (t.l.getD k default).kind) F A1 t.l.length c1 _ hl (fun y hy => by have := hF y hy; omega) (by assumption) (kids_call hIs hn (fun y hy => by have := hF2 y hy; omega) hB1 hrK)) ?_
  rintro _ w2 ⟨rfl, hx2⟩
  have hz2 := hx2.size
  replace hC := hC.step0 hx2
  replace hB0 := hB0.chg0 hx2
  replace hN := hN.chg0 hx2
  replace hr := hr.chg0 hx2
  replace hIs := hIs.chg0 hx2
  replace hrK := hrK.chg0 hx2
  replace hB1 := hB1.chg0 hx2
  refine EP.o rfl (Does.not rfl) ?_
  refine EP.o rfl (Does.assign rfl) ?_
  refine EP.nil ?_
  refine EW.ret ?_
  refine Fin.one rfl rfl ?_
  exact ⟨rfl, hC⟩
end Go.Clt
end
