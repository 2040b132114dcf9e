import Derived.Calls
import Derived.OrdersHeld
import Derived.Still
import Derived.Tactics
import Derived.Below
import Derived.Laws.AppendOwn
import Derived.Laws.Sem
import Derived.KernelRfl
import Derived.Laws.CopyRow
import Derived.Laws.Tables
import Derived.Laws.Entries
import Derived.Laws.IdiomRangeMap
import Derived.WalkKit
import Derived.Laws.CopyOwn
import Derived.Laws.MakeOwn
import Derived.Laws.Slices
import Derived.Maps.AppendAt
import Derived.Test.YtckdapbopihofaaGreatDoorProg
import Derived.Shelf.Strings.Builder1
import Derived.Shelf.Small.Strs
import Derived.Shelf.Strconv.Itoa0
import Derived.Shelf.Strconv.Itoa1
import Derived.Shelf.LaysM
import Derived.Shelf.Strconv.Itoa2
import Derived.Shelf.Strconv.Itoa3
import Derived.Shelf.Strings.Search1
import Derived.Shelf.Bits.Mul64
import Derived.Laws.Externs
import Derived.Lib.TrailingZeros
import Derived.Test.YtckdapbopihofaaGreatDoorWordsNonePk1
/- WordsNone: for every input the law answers true, its arguments left as they were (the tied card). A part of that proof: Named, Pop, First, Reader, Reader2, Reader3, Reader4, Reader5, Reader6. Conditions: none beyond the statement's own. By an AI agent; no person has read it. -/
section
set_option linter.unusedVariables false
set_option linter.unusedSimpArgs false
set_option maxRecDepth 4000
namespace Go.Clt
set_option maxHeartbeats 2000000
open Go Go.RowKit Go.Proofs
theorem digits_ok : SetOk digitsS := by unfold SetOk; decide +kernel
theorem word_ok : SetOk wordS := by unfold SetOk; decide +kernel
theorem space_ok : SetOk spaceS := by unfold SetOk; decide +kernel
theorem named_c (c : Nat) (hc : c < 256) (w : World) : Calls P 203 #[.int .u8 (c : Int)] w (Ret fun v w' => v = .tuple #[.agg (setCells ((namedP c).getD 0)).toArray, .bool (namedP c).isSome] ∧ Chg [] w w') := by
  have hC := Chg.refl [] w
  refine enter Tryz.func203 rfl rfl ?_
  refine EW.seq ?_
  refine EW.reg ?_
  refine EP.new2 rfl (News.alloc zr70 rfl) ?_
  intro b1 w1 hb1 hs1 hx1 hB1
  have hz1 := hx1.size
  replace hC := hC.step0 hx1
  refine EP.o rfl (Does.assign rfl) ?_
  refine EP.nil ?_
  refine EW.seq ?_
  refine EW.reg ?_
  refine EP.call2 rfl (Enters.fn fb222 rfl) ((show Calls P 222 #[.int .u8 48, .int .u8 57] _ _ from range_c 48 57 (by decide) (by decide) _)) ?_
  rintro _ w2 ⟨rfl, hx2⟩
  have hz2 := hx2.size
  replace hC := hC.step0 hx2
  replace hB1 := hB1.chg0 hx2
  refine EP.new2 rfl (News.alloc zr70 rfl) ?_
  intro b3 w3 hb3 hs3 hx3 hB3
  have hz3 := hx3.size
  replace hC := hC.step0 hx3
  replace hB1 := hB1.chg0 hx3
  refine EP.put2 (Puts.blk sz70 rfl rfl (by assumption) rfl rfl rfl rfl (by simp only [List.take, List.drop, List.append, List.cons_append, List.nil_append]; rfl)) ?_
  intro w4 hs4 hx4 hB4
  have hz4 := hx4.size
  replace hC := hC.step hx4 (by first | (simp; done) | (simp; omega))
  replace hB1 := hB1.chg hx4 (by simp; omega)
  clear hB3; have hB3 := hB4; clear hB4
  refine EP.nil ?_
  refine EW.cut (fun e9 wr => ∃ b1 b2 b3, Sub [(0, .int .u8 (c : Int)), (2, .pointer (some ⟨b1, 0, none⟩)), (4, .pointer (some ⟨b2, 0, none⟩)), (5, .pointer (some ⟨b3, 0, none⟩))] e9 ∧ Chg [] w wr ∧ Blk wr b1 (setCells 0) 70 ∧ Blk wr b2 (setCells digitsS) 70 ∧ Blk wr b3 (setCells wordS) 70 ∧ b1 < b2 ∧ b1 < b3 ∧ w.heap.size ≤ b1) ?_ ?_
  · refine EW.drwT (S := []) 8 (.three [(0, 0)] 1 (.three [] 2 (.two [] 3 (.two [] 4 (.two [] 5 (.two [] 6 (.seg [(1, 7), (2, 8)]) 7 (.seg [(1, 6), (2, 8)])) 7 (.seg [(1, 5), (1, 6), (2, 8)])) 7 (.seg [(1, 4), (1, 5), (1, 6), (2, 8)])) 7 (.seg [(1, 3), (1, 4), (1, 5), (1, 6), (2, 8)])) 3 (.two [] 2 (.two [] 4 (.two [] 5 (.two [] 6 (.seg [(1, 7), (2, 8)]) 7 (.seg [(1, 6), (2, 8)])) 7 (.seg [(1, 5), (1, 6), (2, 8)])) 7 (.seg [(1, 4), (1, 5), (1, 6), (2, 8)])) 7 (.seg [(1, 2), (1, 4), (1, 5), (1, 6), (2, 8)])) 7 (.two [] 2 (.seg [(1, 3), (1, 4), (1, 5), (1, 6), (2, 8)]) 3 (.seg [(1, 2), (1, 4), (1, 5), (1, 6), (2, 8)]))) 3 (.two [] 1 (.two [] 2 (.two [] 4 (.two [] 5 (.two [] 6 (.seg [(1, 7), (2, 8)]) 7 (.seg [(1, 6), (2, 8)])) 7 (.seg [(1, 5), (1, 6), (2, 8)])) 7 (.seg [(1, 4), (1, 5), (1, 6), (2, 8)])) 7 (.seg [(1, 2), (1, 4), (1, 5), (1, 6), (2, 8)])) 7 (.seg [(1, 1), (1, 2), (1, 4), (1, 5), (1, 6), (2, 8)])) 7 (.two [] 1 (.two [] 2 (.seg [(1, 3), (1, 4), (1, 5), (1, 6), (2, 8)]) 3 (.seg [(1, 2), (1, 4), (1, 5), (1, 6), (2, 8)])) 3 (.seg [(1, 1), (1, 2), (1, 4), (1, 5), (1, 6), (2, 8)]))) mo (by kernel_rfl) ?_
    simp only [ET]
    intro w5 hx5 hh5
    have hz5 := hx5.size
    replace hC := hC.step0 hx5
    replace hB1 := hB1.chg0 hx5
    replace hB3 := hB3.chg0 hx5
    have hCS5 := Chg.refl ([]) w5
    refine EP.f rfl (Does.loadAc ag70 rfl (by assumption) (by first | (simp; done) | (simp; omega)) (by simp only [List.take, List.drop, List.append, List.cons_append, List.nil_append]; rfl) rfl) ?_
    refine EP.nil ?_
    refine ⟨?_, ?_, ?_⟩
    · refine EP.call1 rfl (Enters.fn fb222 rfl) (range_c _ _ (by decide) (by decide) _) ?_
      rintro _ w6 ⟨rfl, hx6⟩
      have hz6 := hx6.size
      replace hC := hC.step0 hx6
      replace hB1 := hB1.chg0 hx6
      replace hB3 := hB3.chg0 hx6
      replace hCS5 := hCS5.step0 hx6
      refine ⟨hCS5, ?_⟩
      refine EP.nil ?_
      refine EP.nil ?_
      refine ⟨?_, ?_, ?_⟩
      · refine EP.call1 rfl (Enters.fn fb222 rfl) (range_c _ _ (by decide) (by decide) _) ?_
        rintro _ w7 ⟨rfl, hx7⟩
        have hz7 := hx7.size
        replace hC := hC.step0 hx7
        replace hB1 := hB1.chg0 hx7
        replace hB3 := hB3.chg0 hx7
        replace hCS5 := hCS5.step0 hx7
        refine ⟨hCS5, ?_⟩
        refine EP.nil ?_
        refine EP.nil ?_
        refine ⟨?_, ?_⟩
        · refine EP.new1 rfl (News.buildL sl44 Tryz.underlying44 zr5 rfl rfl rfl (by rfl)) ?_
          intro b8 w8 hb8 hs8 hx8 hB8
          have hz8 := hx8.size
          replace hC := hC.step0 hx8
          replace hB1 := hB1.chg0 hx8
          replace hB3 := hB3.chg0 hx8
          replace hCS5 := hCS5.step0 hx8
          refine ⟨hCS5, ?_⟩
          refine EP.nil ?_
          refine EP.nil ?_
          refine ⟨?_, ?_⟩
          · refine EP.call1 rfl (Enters.fn fb139 rfl) (of1_c _ _ _ _ _ (by assumption) (by omega) (by omega)) ?_
            rintro _ w9 ⟨rfl, hx9⟩
            have hz9 := hx9.size
            replace hC := hC.step0 hx9
            replace hB1 := hB1.chg0 hx9
            replace hB3 := hB3.chg0 hx9
            replace hCS5 := hCS5.step0 hx9
            replace hB8 := hB8.chg0 hx9
            refine ⟨hCS5, ?_⟩
            refine EP.nil ?_
            refine EP.nil ?_
            refine ⟨?_, ?_⟩
            · refine EP.new1 rfl (News.buildL sl23 Tryz.underlying23 zr70 rfl rfl rfl (by rfl)) ?_
              intro b10 w10 hb10 hs10 hx10 hB10
              have hz10 := hx10.size
              replace hC := hC.step0 hx10
              replace hB1 := hB1.chg0 hx10
              replace hB3 := hB3.chg0 hx10
              replace hCS5 := hCS5.step0 hx10
              replace hB8 := hB8.chg0 hx10
              refine ⟨hCS5, ?_⟩
              refine EP.nil ?_
              refine EP.nil ?_
              refine ⟨?_, ?_⟩
              · refine EP.call1 rfl (Enters.fn fb138 rfl) (union4_c _ _ _ _ _ _ _ _ (by assumption)) ?_
                rintro _ w11 ⟨rfl, hx11⟩
                have hz11 := hx11.size
                replace hC := hC.step0 hx11
                replace hB1 := hB1.chg0 hx11
                replace hB3 := hB3.chg0 hx11
                replace hCS5 := hCS5.step0 hx11
                replace hB8 := hB8.chg0 hx11
                replace hB10 := hB10.chg0 hx11
                refine ⟨hCS5, ?_⟩
                refine EP.nil ?_
                refine EP.new1 rfl (News.alloc zr70 rfl) ?_
                intro b12 w12 hb12 hs12 hx12 hB12
                have hz12 := hx12.size
                replace hC := hC.step0 hx12
                replace hB1 := hB1.chg0 hx12
                replace hB3 := hB3.chg0 hx12
                replace hCS5 := hCS5.step0 hx12
                replace hB8 := hB8.chg0 hx12
                replace hB10 := hB10.chg0 hx12
                refine ⟨hCS5, ?_⟩
                refine EP.put2 (Puts.blk sz70 rfl rfl (by assumption) rfl rfl rfl rfl (by simp only [List.take, List.drop, List.append, List.cons_append, List.nil_append]; rfl)) ?_
                intro w13 hs13 hx13 hB13
                have hz13 := hx13.size
                replace hC := hC.step hx13 (by first | (simp; done) | (simp; omega))
                replace hB1 := hB1.chg hx13 (by simp; omega)
                replace hB3 := hB3.chg hx13 (by simp; omega)
                replace hB8 := hB8.chg hx13 (by simp; omega)
                replace hB10 := hB10.chg hx13 (by simp; omega)
                clear hB12; have hB12 := hB13; clear hB13
                refine EP.nil ?_
                exact ⟨b1, b3, b12, ⟨rfl, rfl, rfl, rfl, trivial⟩, hC, hB1, hB3, hB12, by omega, by omega, by omega⟩
              · refine EP.new1 rfl (News.alloc zr70 rfl) ?_
                intro b14 w14 hb14 hs14 hx14 hB14
                have hz14 := hx14.size
                replace hC := hC.step0 hx14
                replace hB1 := hB1.chg0 hx14
                replace hB3 := hB3.chg0 hx14
                replace hCS5 := hCS5.step0 hx14
                replace hB8 := hB8.chg0 hx14
                replace hB10 := hB10.chg0 hx14
                refine ⟨hCS5, ?_⟩
                refine EP.nil ?_
                refine EP.call1 rfl (Enters.fn fb138 rfl) (union4_c _ _ _ _ _ _ _ _ (by assumption)) ?_
                rintro _ w15 ⟨rfl, hx15⟩
                have hz15 := hx15.size
                replace hC := hC.step0 hx15
                replace hB1 := hB1.chg0 hx15
                replace hB3 := hB3.chg0 hx15
                replace hCS5 := hCS5.step0 hx15
                replace hB8 := hB8.chg0 hx15
                replace hB10 := hB10.chg0 hx15
                replace hB14 := hB14.chg0 hx15
                refine ⟨hCS5, ?_⟩
                refine EP.put2 (Puts.blk sz70 rfl rfl (by assumption) rfl rfl rfl rfl (by simp only [List.take, List.drop, List.append, List.cons_append, List.nil_append]; rfl)) ?_
                intro w16 hs16 hx16 hB16
                have hz16 := hx16.size
                replace hC := hC.step hx16 (by first | (simp; done) | (simp; omega))
                replace hB1 := hB1.chg hx16 (by simp; omega)
                replace hB3 := hB3.chg hx16 (by simp; omega)
                replace hB8 := hB8.chg hx16 (by simp; omega)
                replace hB10 := hB10.chg hx16 (by simp; omega)
                clear hB14; have hB14 := hB16; clear hB16
                refine EP.nil ?_
                exact ⟨b1, b3, b14, ⟨rfl, rfl, rfl, rfl, trivial⟩, hC, hB1, hB3, hB14, by omega, by omega, by omega⟩
            · refine EP.new1 rfl (News.alloc zr70 rfl) ?_
              intro b17 w17 hb17 hs17 hx17 hB17
              have hz17 := hx17.size
              replace hC := hC.step0 hx17
              replace hB1 := hB1.chg0 hx17
              replace hB3 := hB3.chg0 hx17
              replace hCS5 := hCS5.step0 hx17
              replace hB8 := hB8.chg0 hx17
              refine ⟨hCS5, ?_⟩
              refine EP.nil ?_
              refine EP.new1 rfl (News.buildL sl23 Tryz.underlying23 zr70 rfl rfl rfl (by rfl)) ?_
              intro b18 w18 hb18 hs18 hx18 hB18
              have hz18 := hx18.size
              replace hC := hC.step0 hx18
              replace hB1 := hB1.chg0 hx18
              replace hB3 := hB3.chg0 hx18
              replace hCS5 := hCS5.step0 hx18
              replace hB8 := hB8.chg0 hx18
              replace hB17 := hB17.chg0 hx18
              refine ⟨hCS5, ?_⟩
              refine EP.call1 rfl (Enters.fn fb138 rfl) (union4_c _ _ _ _ _ _ _ _ (by assumption)) ?_
              rintro _ w19 ⟨rfl, hx19⟩
              have hz19 := hx19.size
              replace hC := hC.step0 hx19
              replace hB1 := hB1.chg0 hx19
              replace hB3 := hB3.chg0 hx19
              replace hCS5 := hCS5.step0 hx19
              replace hB8 := hB8.chg0 hx19
              replace hB17 := hB17.chg0 hx19
              replace hB18 := hB18.chg0 hx19
              refine ⟨hCS5, ?_⟩
              refine EP.put2 (Puts.blk sz70 rfl rfl (by assumption) rfl rfl rfl rfl (by simp only [List.take, List.drop, List.append, List.cons_append, List.nil_append]; rfl)) ?_
              intro w20 hs20 hx20 hB20
              have hz20 := hx20.size
              replace hC := hC.step hx20 (by first | (simp; done) | (simp; omega))
              replace hB1 := hB1.chg hx20 (by simp; omega)
              replace hB3 := hB3.chg hx20 (by simp; omega)
              replace hB8 := hB8.chg hx20 (by simp; omega)
              replace hB18 := hB18.chg hx20 (by simp; omega)
              clear hB17; have hB17 := hB20; clear hB20
              refine EP.nil ?_
              exact ⟨b1, b3, b17, ⟨rfl, rfl, rfl, rfl, trivial⟩, hC, hB1, hB3, hB17, by omega, by omega, by omega⟩
          · refine EP.new1 rfl (News.alloc zr70 rfl) ?_
            intro b21 w21 hb21 hs21 hx21 hB21
            have hz21 := hx21.size
            replace hC := hC.step0 hx21
            replace hB1 := hB1.chg0 hx21
            replace hB3 := hB3.chg0 hx21
            replace hCS5 := hCS5.step0 hx21
            replace hB8 := hB8.chg0 hx21
            refine ⟨hCS5, ?_⟩
            refine EP.nil ?_
            refine EP.call1 rfl (Enters.fn fb139 rfl) (of1_c _ _ _ _ _ (by assumption) (by omega) (by omega)) ?_
            rintro _ w22 ⟨rfl, hx22⟩
            have hz22 := hx22.size
            replace hC := hC.step0 hx22
            replace hB1 := hB1.chg0 hx22
            replace hB3 := hB3.chg0 hx22
            replace hCS5 := hCS5.step0 hx22
            replace hB8 := hB8.chg0 hx22
            replace hB21 := hB21.chg0 hx22
            refine ⟨hCS5, ?_⟩
            refine EP.new1 rfl (News.buildL sl23 Tryz.underlying23 zr70 rfl rfl rfl (by rfl)) ?_
            intro b23 w23 hb23 hs23 hx23 hB23
            have hz23 := hx23.size
            replace hC := hC.step0 hx23
            replace hB1 := hB1.chg0 hx23
            replace hB3 := hB3.chg0 hx23
            replace hCS5 := hCS5.step0 hx23
            replace hB8 := hB8.chg0 hx23
            replace hB21 := hB21.chg0 hx23
            refine ⟨hCS5, ?_⟩
            refine EP.call1 rfl (Enters.fn fb138 rfl) (union4_c _ _ _ _ _ _ _ _ (by assumption)) ?_
            rintro _ w24 ⟨rfl, hx24⟩
            have hz24 := hx24.size
            replace hC := hC.step0 hx24
            replace hB1 := hB1.chg0 hx24
            replace hB3 := hB3.chg0 hx24
            replace hCS5 := hCS5.step0 hx24
            replace hB8 := hB8.chg0 hx24
            replace hB21 := hB21.chg0 hx24
            replace hB23 := hB23.chg0 hx24
            refine ⟨hCS5, ?_⟩
            refine EP.put2 (Puts.blk sz70 rfl rfl (by assumption) rfl rfl rfl rfl (by simp only [List.take, List.drop, List.append, List.cons_append, List.nil_append]; rfl)) ?_
            intro w25 hs25 hx25 hB25
            have hz25 := hx25.size
            replace hC := hC.step hx25 (by first | (simp; done) | (simp; omega))
            replace hB1 := hB1.chg hx25 (by simp; omega)
            replace hB3 := hB3.chg hx25 (by simp; omega)
            replace hB8 := hB8.chg hx25 (by simp; omega)
            replace hB23 := hB23.chg hx25 (by simp; omega)
            clear hB21; have hB21 := hB25; clear hB25
            refine EP.nil ?_
            exact ⟨b1, b3, b21, ⟨rfl, rfl, rfl, rfl, trivial⟩, hC, hB1, hB3, hB21, by omega, by omega, by omega⟩
        · refine EP.new1 rfl (News.alloc zr70 rfl) ?_
          intro b26 w26 hb26 hs26 hx26 hB26
          have hz26 := hx26.size
          replace hC := hC.step0 hx26
          replace hB1 := hB1.chg0 hx26
          replace hB3 := hB3.chg0 hx26
          replace hCS5 := hCS5.step0 hx26
          refine ⟨hCS5, ?_⟩
          refine EP.nil ?_
          refine EP.new1 rfl (News.buildL sl44 Tryz.underlying44 zr5 rfl rfl rfl (by rfl)) ?_
          intro b27 w27 hb27 hs27 hx27 hB27
          have hz27 := hx27.size
          replace hC := hC.step0 hx27
          replace hB1 := hB1.chg0 hx27
          replace hB3 := hB3.chg0 hx27
          replace hCS5 := hCS5.step0 hx27
          replace hB26 := hB26.chg0 hx27
          refine ⟨hCS5, ?_⟩
          refine EP.call1 rfl (Enters.fn fb139 rfl) (of1_c _ _ _ _ _ (by assumption) (by omega) (by omega)) ?_
          rintro _ w28 ⟨rfl, hx28⟩
          have hz28 := hx28.size
          replace hC := hC.step0 hx28
          replace hB1 := hB1.chg0 hx28
          replace hB3 := hB3.chg0 hx28
          replace hCS5 := hCS5.step0 hx28
          replace hB26 := hB26.chg0 hx28
          replace hB27 := hB27.chg0 hx28
          refine ⟨hCS5, ?_⟩
          refine EP.new1 rfl (News.buildL sl23 Tryz.underlying23 zr70 rfl rfl rfl (by rfl)) ?_
          intro b29 w29 hb29 hs29 hx29 hB29
          have hz29 := hx29.size
          replace hC := hC.step0 hx29
          replace hB1 := hB1.chg0 hx29
          replace hB3 := hB3.chg0 hx29
          replace hCS5 := hCS5.step0 hx29
          replace hB26 := hB26.chg0 hx29
          replace hB27 := hB27.chg0 hx29
          refine ⟨hCS5, ?_⟩
          refine EP.call1 rfl (Enters.fn fb138 rfl) (union4_c _ _ _ _ _ _ _ _ (by assumption)) ?_
          rintro _ w30 ⟨rfl, hx30⟩
          have hz30 := hx30.size
          replace hC := hC.step0 hx30
          replace hB1 := hB1.chg0 hx30
          replace hB3 := hB3.chg0 hx30
          replace hCS5 := hCS5.step0 hx30
          replace hB26 := hB26.chg0 hx30
          replace hB27 := hB27.chg0 hx30
          replace hB29 := hB29.chg0 hx30
          refine ⟨hCS5, ?_⟩
          refine EP.put2 (Puts.blk sz70 rfl rfl (by assumption) rfl rfl rfl rfl (by simp only [List.take, List.drop, List.append, List.cons_append, List.nil_append]; rfl)) ?_
          intro w31 hs31 hx31 hB31
          have hz31 := hx31.size
          replace hC := hC.step hx31 (by first | (simp; done) | (simp; omega))
          replace hB1 := hB1.chg hx31 (by simp; omega)
          replace hB3 := hB3.chg hx31 (by simp; omega)
          replace hB27 := hB27.chg hx31 (by simp; omega)
          replace hB29 := hB29.chg hx31 (by simp; omega)
          clear hB26; have hB26 := hB31; clear hB31
          refine EP.nil ?_
          exact ⟨b1, b3, b26, ⟨rfl, rfl, rfl, rfl, trivial⟩, hC, hB1, hB3, hB26, by omega, by omega, by omega⟩
      · refine EP.new1 rfl (News.buildL sl44 Tryz.underlying44 zr5 rfl rfl rfl (by rfl)) ?_
        intro b32 w32 hb32 hs32 hx32 hB32
        have hz32 := hx32.size
        replace hC := hC.step0 hx32
        replace hB1 := hB1.chg0 hx32
        replace hB3 := hB3.chg0 hx32
        replace hCS5 := hCS5.step0 hx32
        refine ⟨hCS5, ?_⟩
        refine EP.nil ?_
        refine EP.nil ?_
        refine ⟨?_, ?_⟩
        · refine EP.call1 rfl (Enters.fn fb222 rfl) (range_c _ _ (by decide) (by decide) _) ?_
          rintro _ w33 ⟨rfl, hx33⟩
          have hz33 := hx33.size
          replace hC := hC.step0 hx33
          replace hB1 := hB1.chg0 hx33
          replace hB3 := hB3.chg0 hx33
          replace hCS5 := hCS5.step0 hx33
          replace hB32 := hB32.chg0 hx33
          refine ⟨hCS5, ?_⟩
          refine EP.nil ?_
          refine EP.nil ?_
          refine ⟨?_, ?_⟩
          · refine EP.call1 rfl (Enters.fn fb139 rfl) (of1_c _ _ _ _ _ (by assumption) (by omega) (by omega)) ?_
            rintro _ w34 ⟨rfl, hx34⟩
            have hz34 := hx34.size
            replace hC := hC.step0 hx34
            replace hB1 := hB1.chg0 hx34
            replace hB3 := hB3.chg0 hx34
            replace hCS5 := hCS5.step0 hx34
            replace hB32 := hB32.chg0 hx34
            refine ⟨hCS5, ?_⟩
            refine EP.nil ?_
            refine EP.nil ?_
            refine ⟨?_, ?_⟩
            · refine EP.new1 rfl (News.buildL sl23 Tryz.underlying23 zr70 rfl rfl rfl (by rfl)) ?_
              intro b35 w35 hb35 hs35 hx35 hB35
              have hz35 := hx35.size
              replace hC := hC.step0 hx35
              replace hB1 := hB1.chg0 hx35
              replace hB3 := hB3.chg0 hx35
              replace hCS5 := hCS5.step0 hx35
              replace hB32 := hB32.chg0 hx35
              refine ⟨hCS5, ?_⟩
              refine EP.nil ?_
              refine EP.nil ?_
              refine ⟨?_, ?_⟩
              · refine EP.call1 rfl (Enters.fn fb138 rfl) (union4_c _ _ _ _ _ _ _ _ (by assumption)) ?_
                rintro _ w36 ⟨rfl, hx36⟩
                have hz36 := hx36.size
                replace hC := hC.step0 hx36
                replace hB1 := hB1.chg0 hx36
                replace hB3 := hB3.chg0 hx36
                replace hCS5 := hCS5.step0 hx36
                replace hB32 := hB32.chg0 hx36
                replace hB35 := hB35.chg0 hx36
                refine ⟨hCS5, ?_⟩
                refine EP.nil ?_
                refine EP.new1 rfl (News.alloc zr70 rfl) ?_
                intro b37 w37 hb37 hs37 hx37 hB37
                have hz37 := hx37.size
                replace hC := hC.step0 hx37
                replace hB1 := hB1.chg0 hx37
                replace hB3 := hB3.chg0 hx37
                replace hCS5 := hCS5.step0 hx37
                replace hB32 := hB32.chg0 hx37
                replace hB35 := hB35.chg0 hx37
                refine ⟨hCS5, ?_⟩
                refine EP.put2 (Puts.blk sz70 rfl rfl (by assumption) rfl rfl rfl rfl (by simp only [List.take, List.drop, List.append, List.cons_append, List.nil_append]; rfl)) ?_
                intro w38 hs38 hx38 hB38
                have hz38 := hx38.size
                replace hC := hC.step hx38 (by first | (simp; done) | (simp; omega))
                replace hB1 := hB1.chg hx38 (by simp; omega)
                replace hB3 := hB3.chg hx38 (by simp; omega)
                replace hB32 := hB32.chg hx38 (by simp; omega)
                replace hB35 := hB35.chg hx38 (by simp; omega)
                clear hB37; have hB37 := hB38; clear hB38
                refine EP.nil ?_
                exact ⟨b1, b3, b37, ⟨rfl, rfl, rfl, rfl, trivial⟩, hC, hB1, hB3, hB37, by omega, by omega, by omega⟩
              · refine EP.new1 rfl (News.alloc zr70 rfl) ?_
                intro b39 w39 hb39 hs39 hx39 hB39
                have hz39 := hx39.size
                replace hC := hC.step0 hx39
                replace hB1 := hB1.chg0 hx39
                replace hB3 := hB3.chg0 hx39
                replace hCS5 := hCS5.step0 hx39
                replace hB32 := hB32.chg0 hx39
                replace hB35 := hB35.chg0 hx39
                refine ⟨hCS5, ?_⟩
                refine EP.nil ?_
                refine EP.call1 rfl (Enters.fn fb138 rfl) (union4_c _ _ _ _ _ _ _ _ (by assumption)) ?_
                rintro _ w40 ⟨rfl, hx40⟩
                have hz40 := hx40.size
                replace hC := hC.step0 hx40
                replace hB1 := hB1.chg0 hx40
                replace hB3 := hB3.chg0 hx40
                replace hCS5 := hCS5.step0 hx40
                replace hB32 := hB32.chg0 hx40
                replace hB35 := hB35.chg0 hx40
                replace hB39 := hB39.chg0 hx40
                refine ⟨hCS5, ?_⟩
                refine EP.put2 (Puts.blk sz70 rfl rfl (by assumption) rfl rfl rfl rfl (by simp only [List.take, List.drop, List.append, List.cons_append, List.nil_append]; rfl)) ?_
                intro w41 hs41 hx41 hB41
                have hz41 := hx41.size
                replace hC := hC.step hx41 (by first | (simp; done) | (simp; omega))
                replace hB1 := hB1.chg hx41 (by simp; omega)
                replace hB3 := hB3.chg hx41 (by simp; omega)
                replace hB32 := hB32.chg hx41 (by simp; omega)
                replace hB35 := hB35.chg hx41 (by simp; omega)
                clear hB39; have hB39 := hB41; clear hB41
                refine EP.nil ?_
                exact ⟨b1, b3, b39, ⟨rfl, rfl, rfl, rfl, trivial⟩, hC, hB1, hB3, hB39, by omega, by omega, by omega⟩
            · refine EP.new1 rfl (News.alloc zr70 rfl) ?_
              intro b42 w42 hb42 hs42 hx42 hB42
              have hz42 := hx42.size
              replace hC := hC.step0 hx42
              replace hB1 := hB1.chg0 hx42
              replace hB3 := hB3.chg0 hx42
              replace hCS5 := hCS5.step0 hx42
              replace hB32 := hB32.chg0 hx42
              refine ⟨hCS5, ?_⟩
              refine EP.nil ?_
              refine EP.new1 rfl (News.buildL sl23 Tryz.underlying23 zr70 rfl rfl rfl (by rfl)) ?_
              intro b43 w43 hb43 hs43 hx43 hB43
              have hz43 := hx43.size
              replace hC := hC.step0 hx43
              replace hB1 := hB1.chg0 hx43
              replace hB3 := hB3.chg0 hx43
              replace hCS5 := hCS5.step0 hx43
              replace hB32 := hB32.chg0 hx43
              replace hB42 := hB42.chg0 hx43
              refine ⟨hCS5, ?_⟩
              refine EP.call1 rfl (Enters.fn fb138 rfl) (union4_c _ _ _ _ _ _ _ _ (by assumption)) ?_
              rintro _ w44 ⟨rfl, hx44⟩
              have hz44 := hx44.size
              replace hC := hC.step0 hx44
              replace hB1 := hB1.chg0 hx44
              replace hB3 := hB3.chg0 hx44
              replace hCS5 := hCS5.step0 hx44
              replace hB32 := hB32.chg0 hx44
              replace hB42 := hB42.chg0 hx44
              replace hB43 := hB43.chg0 hx44
              refine ⟨hCS5, ?_⟩
              refine EP.put2 (Puts.blk sz70 rfl rfl (by assumption) rfl rfl rfl rfl (by simp only [List.take, List.drop, List.append, List.cons_append, List.nil_append]; rfl)) ?_
              intro w45 hs45 hx45 hB45
              have hz45 := hx45.size
              replace hC := hC.step hx45 (by first | (simp; done) | (simp; omega))
              replace hB1 := hB1.chg hx45 (by simp; omega)
              replace hB3 := hB3.chg hx45 (by simp; omega)
              replace hB32 := hB32.chg hx45 (by simp; omega)
              replace hB43 := hB43.chg hx45 (by simp; omega)
              clear hB42; have hB42 := hB45; clear hB45
              refine EP.nil ?_
              exact ⟨b1, b3, b42, ⟨rfl, rfl, rfl, rfl, trivial⟩, hC, hB1, hB3, hB42, by omega, by omega, by omega⟩
          · refine EP.new1 rfl (News.alloc zr70 rfl) ?_
            intro b46 w46 hb46 hs46 hx46 hB46
            have hz46 := hx46.size
            replace hC := hC.step0 hx46
            replace hB1 := hB1.chg0 hx46
            replace hB3 := hB3.chg0 hx46
            replace hCS5 := hCS5.step0 hx46
            replace hB32 := hB32.chg0 hx46
            refine ⟨hCS5, ?_⟩
            refine EP.nil ?_
            refine EP.call1 rfl (Enters.fn fb139 rfl) (of1_c _ _ _ _ _ (by assumption) (by omega) (by omega)) ?_
            rintro _ w47 ⟨rfl, hx47⟩
            have hz47 := hx47.size
            replace hC := hC.step0 hx47
            replace hB1 := hB1.chg0 hx47
            replace hB3 := hB3.chg0 hx47
            replace hCS5 := hCS5.step0 hx47
            replace hB32 := hB32.chg0 hx47
            replace hB46 := hB46.chg0 hx47
            refine ⟨hCS5, ?_⟩
            refine EP.new1 rfl (News.buildL sl23 Tryz.underlying23 zr70 rfl rfl rfl (by rfl)) ?_
            intro b48 w48 hb48 hs48 hx48 hB48
            have hz48 := hx48.size
            replace hC := hC.step0 hx48
            replace hB1 := hB1.chg0 hx48
            replace hB3 := hB3.chg0 hx48
            replace hCS5 := hCS5.step0 hx48
            replace hB32 := hB32.chg0 hx48
            replace hB46 := hB46.chg0 hx48
            refine ⟨hCS5, ?_⟩
            refine EP.call1 rfl (Enters.fn fb138 rfl) (union4_c _ _ _ _ _ _ _ _ (by assumption)) ?_
            rintro _ w49 ⟨rfl, hx49⟩
            have hz49 := hx49.size
            replace hC := hC.step0 hx49
            replace hB1 := hB1.chg0 hx49
            replace hB3 := hB3.chg0 hx49
            replace hCS5 := hCS5.step0 hx49
            replace hB32 := hB32.chg0 hx49
            replace hB46 := hB46.chg0 hx49
            replace hB48 := hB48.chg0 hx49
            refine ⟨hCS5, ?_⟩
            refine EP.put2 (Puts.blk sz70 rfl rfl (by assumption) rfl rfl rfl rfl (by simp only [List.take, List.drop, List.append, List.cons_append, List.nil_append]; rfl)) ?_
            intro w50 hs50 hx50 hB50
            have hz50 := hx50.size
            replace hC := hC.step hx50 (by first | (simp; done) | (simp; omega))
            replace hB1 := hB1.chg hx50 (by simp; omega)
            replace hB3 := hB3.chg hx50 (by simp; omega)
            replace hB32 := hB32.chg hx50 (by simp; omega)
            replace hB48 := hB48.chg hx50 (by simp; omega)
            clear hB46; have hB46 := hB50; clear hB50
            refine EP.nil ?_
            exact ⟨b1, b3, b46, ⟨rfl, rfl, rfl, rfl, trivial⟩, hC, hB1, hB3, hB46, by omega, by omega, by omega⟩
        · refine EP.new1 rfl (News.alloc zr70 rfl) ?_
          intro b51 w51 hb51 hs51 hx51 hB51
          have hz51 := hx51.size
          replace hC := hC.step0 hx51
          replace hB1 := hB1.chg0 hx51
          replace hB3 := hB3.chg0 hx51
          replace hCS5 := hCS5.step0 hx51
          replace hB32 := hB32.chg0 hx51
          refine ⟨hCS5, ?_⟩
          refine EP.nil ?_
          refine EP.call1 rfl (Enters.fn fb222 rfl) (range_c _ _ (by decide) (by decide) _) ?_
          rintro _ w52 ⟨rfl, hx52⟩
          have hz52 := hx52.size
          replace hC := hC.step0 hx52
          replace hB1 := hB1.chg0 hx52
          replace hB3 := hB3.chg0 hx52
          replace hCS5 := hCS5.step0 hx52
          replace hB32 := hB32.chg0 hx52
          replace hB51 := hB51.chg0 hx52
          refine ⟨hCS5, ?_⟩
          refine EP.call1 rfl (Enters.fn fb139 rfl) (of1_c _ _ _ _ _ (by assumption) (by omega) (by omega)) ?_
          rintro _ w53 ⟨rfl, hx53⟩
          have hz53 := hx53.size
          replace hC := hC.step0 hx53
          replace hB1 := hB1.chg0 hx53
          replace hB3 := hB3.chg0 hx53
          replace hCS5 := hCS5.step0 hx53
          replace hB32 := hB32.chg0 hx53
          replace hB51 := hB51.chg0 hx53
          refine ⟨hCS5, ?_⟩
          refine EP.new1 rfl (News.buildL sl23 Tryz.underlying23 zr70 rfl rfl rfl (by rfl)) ?_
          intro b54 w54 hb54 hs54 hx54 hB54
          have hz54 := hx54.size
          replace hC := hC.step0 hx54
          replace hB1 := hB1.chg0 hx54
          replace hB3 := hB3.chg0 hx54
          replace hCS5 := hCS5.step0 hx54
          replace hB32 := hB32.chg0 hx54
          replace hB51 := hB51.chg0 hx54
          refine ⟨hCS5, ?_⟩
          refine EP.call1 rfl (Enters.fn fb138 rfl) (union4_c _ _ _ _ _ _ _ _ (by assumption)) ?_
          rintro _ w55 ⟨rfl, hx55⟩
          have hz55 := hx55.size
          replace hC := hC.step0 hx55
          replace hB1 := hB1.chg0 hx55
          replace hB3 := hB3.chg0 hx55
          replace hCS5 := hCS5.step0 hx55
          replace hB32 := hB32.chg0 hx55
          replace hB51 := hB51.chg0 hx55
          replace hB54 := hB54.chg0 hx55
          refine ⟨hCS5, ?_⟩
          refine EP.put2 (Puts.blk sz70 rfl rfl (by assumption) rfl rfl rfl rfl (by simp only [List.take, List.drop, List.append, List.cons_append, List.nil_append]; rfl)) ?_
          intro w56 hs56 hx56 hB56
          have hz56 := hx56.size
          replace hC := hC.step hx56 (by first | (simp; done) | (simp; omega))
          replace hB1 := hB1.chg hx56 (by simp; omega)
          replace hB3 := hB3.chg hx56 (by simp; omega)
          replace hB32 := hB32.chg hx56 (by simp; omega)
          replace hB54 := hB54.chg hx56 (by simp; omega)
          clear hB51; have hB51 := hB56; clear hB56
          refine EP.nil ?_
          exact ⟨b1, b3, b51, ⟨rfl, rfl, rfl, rfl, trivial⟩, hC, hB1, hB3, hB51, by omega, by omega, by omega⟩
      · refine EP.new1 rfl (News.alloc zr70 rfl) ?_
        intro b57 w57 hb57 hs57 hx57 hB57
        have hz57 := hx57.size
        replace hC := hC.step0 hx57
        replace hB1 := hB1.chg0 hx57
        replace hB3 := hB3.chg0 hx57
        replace hCS5 := hCS5.step0 hx57
        refine ⟨hCS5, ?_⟩
        refine EP.nil ?_
        refine EP.nil ?_
        refine ⟨?_, ?_⟩
        · refine EP.call1 rfl (Enters.fn fb222 rfl) (range_c _ _ (by decide) (by decide) _) ?_
          rintro _ w58 ⟨rfl, hx58⟩
          have hz58 := hx58.size
          replace hC := hC.step0 hx58
          replace hB1 := hB1.chg0 hx58
          replace hB3 := hB3.chg0 hx58
          replace hCS5 := hCS5.step0 hx58
          replace hB57 := hB57.chg0 hx58
          refine ⟨hCS5, ?_⟩
          refine EP.nil ?_
          refine EP.new1 rfl (News.buildL sl44 Tryz.underlying44 zr5 rfl rfl rfl (by rfl)) ?_
          intro b59 w59 hb59 hs59 hx59 hB59
          have hz59 := hx59.size
          replace hC := hC.step0 hx59
          replace hB1 := hB1.chg0 hx59
          replace hB3 := hB3.chg0 hx59
          replace hCS5 := hCS5.step0 hx59
          replace hB57 := hB57.chg0 hx59
          refine ⟨hCS5, ?_⟩
          refine EP.call1 rfl (Enters.fn fb139 rfl) (of1_c _ _ _ _ _ (by assumption) (by omega) (by omega)) ?_
          rintro _ w60 ⟨rfl, hx60⟩
          have hz60 := hx60.size
          replace hC := hC.step0 hx60
          replace hB1 := hB1.chg0 hx60
          replace hB3 := hB3.chg0 hx60
          replace hCS5 := hCS5.step0 hx60
          replace hB57 := hB57.chg0 hx60
          replace hB59 := hB59.chg0 hx60
          refine ⟨hCS5, ?_⟩
          refine EP.new1 rfl (News.buildL sl23 Tryz.underlying23 zr70 rfl rfl rfl (by rfl)) ?_
          intro b61 w61 hb61 hs61 hx61 hB61
          have hz61 := hx61.size
          replace hC := hC.step0 hx61
          replace hB1 := hB1.chg0 hx61
          replace hB3 := hB3.chg0 hx61
          replace hCS5 := hCS5.step0 hx61
          replace hB57 := hB57.chg0 hx61
          replace hB59 := hB59.chg0 hx61
          refine ⟨hCS5, ?_⟩
          refine EP.call1 rfl (Enters.fn fb138 rfl) (union4_c _ _ _ _ _ _ _ _ (by assumption)) ?_
          rintro _ w62 ⟨rfl, hx62⟩
          have hz62 := hx62.size
          replace hC := hC.step0 hx62
          replace hB1 := hB1.chg0 hx62
          replace hB3 := hB3.chg0 hx62
          replace hCS5 := hCS5.step0 hx62
          replace hB57 := hB57.chg0 hx62
          replace hB59 := hB59.chg0 hx62
          replace hB61 := hB61.chg0 hx62
          refine ⟨hCS5, ?_⟩
          refine EP.put2 (Puts.blk sz70 rfl rfl (by assumption) rfl rfl rfl rfl (by simp only [List.take, List.drop, List.append, List.cons_append, List.nil_append]; rfl)) ?_
          intro w63 hs63 hx63 hB63
          have hz63 := hx63.size
          replace hC := hC.step hx63 (by first | (simp; done) | (simp; omega))
          replace hB1 := hB1.chg hx63 (by simp; omega)
          replace hB3 := hB3.chg hx63 (by simp; omega)
          replace hB59 := hB59.chg hx63 (by simp; omega)
          replace hB61 := hB61.chg hx63 (by simp; omega)
          clear hB57; have hB57 := hB63; clear hB63
          refine EP.nil ?_
          exact ⟨b1, b3, b57, ⟨rfl, rfl, rfl, rfl, trivial⟩, hC, hB1, hB3, hB57, by omega, by omega, by omega⟩
        · refine EP.new1 rfl (News.buildL sl44 Tryz.underlying44 zr5 rfl rfl rfl (by rfl)) ?_
          intro b64 w64 hb64 hs64 hx64 hB64
          have hz64 := hx64.size
          replace hC := hC.step0 hx64
          replace hB1 := hB1.chg0 hx64
          replace hB3 := hB3.chg0 hx64
          replace hCS5 := hCS5.step0 hx64
          replace hB57 := hB57.chg0 hx64
          refine ⟨hCS5, ?_⟩
          refine EP.nil ?_
          refine EP.call1 rfl (Enters.fn fb222 rfl) (range_c _ _ (by decide) (by decide) _) ?_
          rintro _ w65 ⟨rfl, hx65⟩
          have hz65 := hx65.size
          replace hC := hC.step0 hx65
          replace hB1 := hB1.chg0 hx65
          replace hB3 := hB3.chg0 hx65
          replace hCS5 := hCS5.step0 hx65
          replace hB57 := hB57.chg0 hx65
          replace hB64 := hB64.chg0 hx65
          refine ⟨hCS5, ?_⟩
          refine EP.call1 rfl (Enters.fn fb139 rfl) (of1_c _ _ _ _ _ (by assumption) (by omega) (by omega)) ?_
          rintro _ w66 ⟨rfl, hx66⟩
          have hz66 := hx66.size
          replace hC := hC.step0 hx66
          replace hB1 := hB1.chg0 hx66
          replace hB3 := hB3.chg0 hx66
          replace hCS5 := hCS5.step0 hx66
          replace hB57 := hB57.chg0 hx66
          replace hB64 := hB64.chg0 hx66
          refine ⟨hCS5, ?_⟩
          refine EP.new1 rfl (News.buildL sl23 Tryz.underlying23 zr70 rfl rfl rfl (by rfl)) ?_
          intro b67 w67 hb67 hs67 hx67 hB67
          have hz67 := hx67.size
          replace hC := hC.step0 hx67
          replace hB1 := hB1.chg0 hx67
          replace hB3 := hB3.chg0 hx67
          replace hCS5 := hCS5.step0 hx67
          replace hB57 := hB57.chg0 hx67
          replace hB64 := hB64.chg0 hx67
          refine ⟨hCS5, ?_⟩
          refine EP.call1 rfl (Enters.fn fb138 rfl) (union4_c _ _ _ _ _ _ _ _ (by assumption)) ?_
          rintro _ w68 ⟨rfl, hx68⟩
          have hz68 := hx68.size
          replace hC := hC.step0 hx68
          replace hB1 := hB1.chg0 hx68
          replace hB3 := hB3.chg0 hx68
          replace hCS5 := hCS5.step0 hx68
          replace hB57 := hB57.chg0 hx68
          replace hB64 := hB64.chg0 hx68
          replace hB67 := hB67.chg0 hx68
          refine ⟨hCS5, ?_⟩
          refine EP.put2 (Puts.blk sz70 rfl rfl (by assumption) rfl rfl rfl rfl (by simp only [List.take, List.drop, List.append, List.cons_append, List.nil_append]; rfl)) ?_
          intro w69 hs69 hx69 hB69
          have hz69 := hx69.size
          replace hC := hC.step hx69 (by first | (simp; done) | (simp; omega))
          replace hB1 := hB1.chg hx69 (by simp; omega)
          replace hB3 := hB3.chg hx69 (by simp; omega)
          replace hB64 := hB64.chg hx69 (by simp; omega)
          replace hB67 := hB67.chg hx69 (by simp; omega)
          clear hB57; have hB57 := hB69; clear hB69
          refine EP.nil ?_
          exact ⟨b1, b3, b57, ⟨rfl, rfl, rfl, rfl, trivial⟩, hC, hB1, hB3, hB57, by omega, by omega, by omega⟩
    · refine EP.new1 rfl (News.buildL sl44 Tryz.underlying44 zr5 rfl rfl rfl (by rfl)) ?_
      intro b70 w70 hb70 hs70 hx70 hB70
      have hz70 := hx70.size
      replace hC := hC.step0 hx70
      replace hB1 := hB1.chg0 hx70
      replace hB3 := hB3.chg0 hx70
      replace hCS5 := hCS5.step0 hx70
      refine ⟨hCS5, ?_⟩
      refine EP.nil ?_
      refine EP.nil ?_
      refine ⟨?_, ?_⟩
      · refine EP.call1 rfl (Enters.fn fb222 rfl) (range_c _ _ (by decide) (by decide) _) ?_
        rintro _ w71 ⟨rfl, hx71⟩
        have hz71 := hx71.size
        replace hC := hC.step0 hx71
        replace hB1 := hB1.chg0 hx71
        replace hB3 := hB3.chg0 hx71
        replace hCS5 := hCS5.step0 hx71
        replace hB70 := hB70.chg0 hx71
        refine ⟨hCS5, ?_⟩
        refine EP.nil ?_
        refine EP.nil ?_
        refine ⟨?_, ?_⟩
        · refine EP.call1 rfl (Enters.fn fb222 rfl) (range_c _ _ (by decide) (by decide) _) ?_
          rintro _ w72 ⟨rfl, hx72⟩
          have hz72 := hx72.size
          replace hC := hC.step0 hx72
          replace hB1 := hB1.chg0 hx72
          replace hB3 := hB3.chg0 hx72
          replace hCS5 := hCS5.step0 hx72
          replace hB70 := hB70.chg0 hx72
          refine ⟨hCS5, ?_⟩
          refine EP.nil ?_
          refine EP.nil ?_
          refine ⟨?_, ?_⟩
          · refine EP.call1 rfl (Enters.fn fb139 rfl) (of1_c _ _ _ _ _ (by assumption) (by omega) (by omega)) ?_
            rintro _ w73 ⟨rfl, hx73⟩
            have hz73 := hx73.size
            replace hC := hC.step0 hx73
            replace hB1 := hB1.chg0 hx73
            replace hB3 := hB3.chg0 hx73
            replace hCS5 := hCS5.step0 hx73
            replace hB70 := hB70.chg0 hx73
            refine ⟨hCS5, ?_⟩
            refine EP.nil ?_
            refine EP.nil ?_
            refine ⟨?_, ?_⟩
            · refine EP.new1 rfl (News.buildL sl23 Tryz.underlying23 zr70 rfl rfl rfl (by rfl)) ?_
              intro b74 w74 hb74 hs74 hx74 hB74
              have hz74 := hx74.size
              replace hC := hC.step0 hx74
              replace hB1 := hB1.chg0 hx74
              replace hB3 := hB3.chg0 hx74
              replace hCS5 := hCS5.step0 hx74
              replace hB70 := hB70.chg0 hx74
              refine ⟨hCS5, ?_⟩
              refine EP.nil ?_
              refine EP.nil ?_
              refine ⟨?_, ?_⟩
              · refine EP.call1 rfl (Enters.fn fb138 rfl) (union4_c _ _ _ _ _ _ _ _ (by assumption)) ?_
                rintro _ w75 ⟨rfl, hx75⟩
                have hz75 := hx75.size
                replace hC := hC.step0 hx75
                replace hB1 := hB1.chg0 hx75
                replace hB3 := hB3.chg0 hx75
                replace hCS5 := hCS5.step0 hx75
                replace hB70 := hB70.chg0 hx75
                replace hB74 := hB74.chg0 hx75
                refine ⟨hCS5, ?_⟩
                refine EP.nil ?_
                refine EP.new1 rfl (News.alloc zr70 rfl) ?_
                intro b76 w76 hb76 hs76 hx76 hB76
                have hz76 := hx76.size
                replace hC := hC.step0 hx76
                replace hB1 := hB1.chg0 hx76
                replace hB3 := hB3.chg0 hx76
                replace hCS5 := hCS5.step0 hx76
                replace hB70 := hB70.chg0 hx76
                replace hB74 := hB74.chg0 hx76
                refine ⟨hCS5, ?_⟩
                refine EP.put2 (Puts.blk sz70 rfl rfl (by assumption) rfl rfl rfl rfl (by simp only [List.take, List.drop, List.append, List.cons_append, List.nil_append]; rfl)) ?_
                intro w77 hs77 hx77 hB77
                have hz77 := hx77.size
                replace hC := hC.step hx77 (by first | (simp; done) | (simp; omega))
                replace hB1 := hB1.chg hx77 (by simp; omega)
                replace hB3 := hB3.chg hx77 (by simp; omega)
                replace hB70 := hB70.chg hx77 (by simp; omega)
                replace hB74 := hB74.chg hx77 (by simp; omega)
                clear hB76; have hB76 := hB77; clear hB77
                refine EP.nil ?_
                exact ⟨b1, b3, b76, ⟨rfl, rfl, rfl, rfl, trivial⟩, hC, hB1, hB3, hB76, by omega, by omega, by omega⟩
              · refine EP.new1 rfl (News.alloc zr70 rfl) ?_
                intro b78 w78 hb78 hs78 hx78 hB78
                have hz78 := hx78.size
                replace hC := hC.step0 hx78
                replace hB1 := hB1.chg0 hx78
                replace hB3 := hB3.chg0 hx78
                replace hCS5 := hCS5.step0 hx78
                replace hB70 := hB70.chg0 hx78
                replace hB74 := hB74.chg0 hx78
                refine ⟨hCS5, ?_⟩
                refine EP.nil ?_
                refine EP.call1 rfl (Enters.fn fb138 rfl) (union4_c _ _ _ _ _ _ _ _ (by assumption)) ?_
                rintro _ w79 ⟨rfl, hx79⟩
                have hz79 := hx79.size
                replace hC := hC.step0 hx79
                replace hB1 := hB1.chg0 hx79
                replace hB3 := hB3.chg0 hx79
                replace hCS5 := hCS5.step0 hx79
                replace hB70 := hB70.chg0 hx79
                replace hB74 := hB74.chg0 hx79
                replace hB78 := hB78.chg0 hx79
                refine ⟨hCS5, ?_⟩
                refine EP.put2 (Puts.blk sz70 rfl rfl (by assumption) rfl rfl rfl rfl (by simp only [List.take, List.drop, List.append, List.cons_append, List.nil_append]; rfl)) ?_
                intro w80 hs80 hx80 hB80
                have hz80 := hx80.size
                replace hC := hC.step hx80 (by first | (simp; done) | (simp; omega))
                replace hB1 := hB1.chg hx80 (by simp; omega)
                replace hB3 := hB3.chg hx80 (by simp; omega)
                replace hB70 := hB70.chg hx80 (by simp; omega)
                replace hB74 := hB74.chg hx80 (by simp; omega)
                clear hB78; have hB78 := hB80; clear hB80
                refine EP.nil ?_
                exact ⟨b1, b3, b78, ⟨rfl, rfl, rfl, rfl, trivial⟩, hC, hB1, hB3, hB78, by omega, by omega, by omega⟩
            · refine EP.new1 rfl (News.alloc zr70 rfl) ?_
              intro b81 w81 hb81 hs81 hx81 hB81
              have hz81 := hx81.size
              replace hC := hC.step0 hx81
              replace hB1 := hB1.chg0 hx81
              replace hB3 := hB3.chg0 hx81
              replace hCS5 := hCS5.step0 hx81
              replace hB70 := hB70.chg0 hx81
              refine ⟨hCS5, ?_⟩
              refine EP.nil ?_
              refine EP.new1 rfl (News.buildL sl23 Tryz.underlying23 zr70 rfl rfl rfl (by rfl)) ?_
              intro b82 w82 hb82 hs82 hx82 hB82
              have hz82 := hx82.size
              replace hC := hC.step0 hx82
              replace hB1 := hB1.chg0 hx82
              replace hB3 := hB3.chg0 hx82
              replace hCS5 := hCS5.step0 hx82
              replace hB70 := hB70.chg0 hx82
              replace hB81 := hB81.chg0 hx82
              refine ⟨hCS5, ?_⟩
              refine EP.call1 rfl (Enters.fn fb138 rfl) (union4_c _ _ _ _ _ _ _ _ (by assumption)) ?_
              rintro _ w83 ⟨rfl, hx83⟩
              have hz83 := hx83.size
              replace hC := hC.step0 hx83
              replace hB1 := hB1.chg0 hx83
              replace hB3 := hB3.chg0 hx83
              replace hCS5 := hCS5.step0 hx83
              replace hB70 := hB70.chg0 hx83
              replace hB81 := hB81.chg0 hx83
              replace hB82 := hB82.chg0 hx83
              refine ⟨hCS5, ?_⟩
              refine EP.put2 (Puts.blk sz70 rfl rfl (by assumption) rfl rfl rfl rfl (by simp only [List.take, List.drop, List.append, List.cons_append, List.nil_append]; rfl)) ?_
              intro w84 hs84 hx84 hB84
              have hz84 := hx84.size
              replace hC := hC.step hx84 (by first | (simp; done) | (simp; omega))
              replace hB1 := hB1.chg hx84 (by simp; omega)
              replace hB3 := hB3.chg hx84 (by simp; omega)
              replace hB70 := hB70.chg hx84 (by simp; omega)
              replace hB82 := hB82.chg hx84 (by simp; omega)
              clear hB81; have hB81 := hB84; clear hB84
              refine EP.nil ?_
              exact ⟨b1, b3, b81, ⟨rfl, rfl, rfl, rfl, trivial⟩, hC, hB1, hB3, hB81, by omega, by omega, by omega⟩
          · refine EP.new1 rfl (News.alloc zr70 rfl) ?_
            intro b85 w85 hb85 hs85 hx85 hB85
            have hz85 := hx85.size
            replace hC := hC.step0 hx85
            replace hB1 := hB1.chg0 hx85
            replace hB3 := hB3.chg0 hx85
            replace hCS5 := hCS5.step0 hx85
            replace hB70 := hB70.chg0 hx85
            refine ⟨hCS5, ?_⟩
            refine EP.nil ?_
            refine EP.call1 rfl (Enters.fn fb139 rfl) (of1_c _ _ _ _ _ (by assumption) (by omega) (by omega)) ?_
            rintro _ w86 ⟨rfl, hx86⟩
            have hz86 := hx86.size
            replace hC := hC.step0 hx86
            replace hB1 := hB1.chg0 hx86
            replace hB3 := hB3.chg0 hx86
            replace hCS5 := hCS5.step0 hx86
            replace hB70 := hB70.chg0 hx86
            replace hB85 := hB85.chg0 hx86
            refine ⟨hCS5, ?_⟩
            refine EP.new1 rfl (News.buildL sl23 Tryz.underlying23 zr70 rfl rfl rfl (by rfl)) ?_
            intro b87 w87 hb87 hs87 hx87 hB87
            have hz87 := hx87.size
            replace hC := hC.step0 hx87
            replace hB1 := hB1.chg0 hx87
            replace hB3 := hB3.chg0 hx87
            replace hCS5 := hCS5.step0 hx87
            replace hB70 := hB70.chg0 hx87
            replace hB85 := hB85.chg0 hx87
            refine ⟨hCS5, ?_⟩
            refine EP.call1 rfl (Enters.fn fb138 rfl) (union4_c _ _ _ _ _ _ _ _ (by assumption)) ?_
            rintro _ w88 ⟨rfl, hx88⟩
            have hz88 := hx88.size
            replace hC := hC.step0 hx88
            replace hB1 := hB1.chg0 hx88
            replace hB3 := hB3.chg0 hx88
            replace hCS5 := hCS5.step0 hx88
            replace hB70 := hB70.chg0 hx88
            replace hB85 := hB85.chg0 hx88
            replace hB87 := hB87.chg0 hx88
            refine ⟨hCS5, ?_⟩
            refine EP.put2 (Puts.blk sz70 rfl rfl (by assumption) rfl rfl rfl rfl (by simp only [List.take, List.drop, List.append, List.cons_append, List.nil_append]; rfl)) ?_
            intro w89 hs89 hx89 hB89
            have hz89 := hx89.size
            replace hC := hC.step hx89 (by first | (simp; done) | (simp; omega))
            replace hB1 := hB1.chg hx89 (by simp; omega)
            replace hB3 := hB3.chg hx89 (by simp; omega)
            replace hB70 := hB70.chg hx89 (by simp; omega)
            replace hB87 := hB87.chg hx89 (by simp; omega)
            clear hB85; have hB85 := hB89; clear hB89
            refine EP.nil ?_
            exact ⟨b1, b3, b85, ⟨rfl, rfl, rfl, rfl, trivial⟩, hC, hB1, hB3, hB85, by omega, by omega, by omega⟩
        · refine EP.new1 rfl (News.alloc zr70 rfl) ?_
          intro b90 w90 hb90 hs90 hx90 hB90
          have hz90 := hx90.size
          replace hC := hC.step0 hx90
          replace hB1 := hB1.chg0 hx90
          replace hB3 := hB3.chg0 hx90
          replace hCS5 := hCS5.step0 hx90
          replace hB70 := hB70.chg0 hx90
          refine ⟨hCS5, ?_⟩
          refine EP.nil ?_
          refine EP.call1 rfl (Enters.fn fb222 rfl) (range_c _ _ (by decide) (by decide) _) ?_
          rintro _ w91 ⟨rfl, hx91⟩
          have hz91 := hx91.size
          replace hC := hC.step0 hx91
          replace hB1 := hB1.chg0 hx91
          replace hB3 := hB3.chg0 hx91
          replace hCS5 := hCS5.step0 hx91
          replace hB70 := hB70.chg0 hx91
          replace hB90 := hB90.chg0 hx91
          refine ⟨hCS5, ?_⟩
          refine EP.call1 rfl (Enters.fn fb139 rfl) (of1_c _ _ _ _ _ (by assumption) (by omega) (by omega)) ?_
          rintro _ w92 ⟨rfl, hx92⟩
          have hz92 := hx92.size
          replace hC := hC.step0 hx92
          replace hB1 := hB1.chg0 hx92
          replace hB3 := hB3.chg0 hx92
          replace hCS5 := hCS5.step0 hx92
          replace hB70 := hB70.chg0 hx92
          replace hB90 := hB90.chg0 hx92
          refine ⟨hCS5, ?_⟩
          refine EP.new1 rfl (News.buildL sl23 Tryz.underlying23 zr70 rfl rfl rfl (by rfl)) ?_
          intro b93 w93 hb93 hs93 hx93 hB93
          have hz93 := hx93.size
          replace hC := hC.step0 hx93
          replace hB1 := hB1.chg0 hx93
          replace hB3 := hB3.chg0 hx93
          replace hCS5 := hCS5.step0 hx93
          replace hB70 := hB70.chg0 hx93
          replace hB90 := hB90.chg0 hx93
          refine ⟨hCS5, ?_⟩
          refine EP.call1 rfl (Enters.fn fb138 rfl) (union4_c _ _ _ _ _ _ _ _ (by assumption)) ?_
          rintro _ w94 ⟨rfl, hx94⟩
          have hz94 := hx94.size
          replace hC := hC.step0 hx94
          replace hB1 := hB1.chg0 hx94
          replace hB3 := hB3.chg0 hx94
          replace hCS5 := hCS5.step0 hx94
          replace hB70 := hB70.chg0 hx94
          replace hB90 := hB90.chg0 hx94
          replace hB93 := hB93.chg0 hx94
          refine ⟨hCS5, ?_⟩
          refine EP.put2 (Puts.blk sz70 rfl rfl (by assumption) rfl rfl rfl rfl (by simp only [List.take, List.drop, List.append, List.cons_append, List.nil_append]; rfl)) ?_
          intro w95 hs95 hx95 hB95
          have hz95 := hx95.size
          replace hC := hC.step hx95 (by first | (simp; done) | (simp; omega))
          replace hB1 := hB1.chg hx95 (by simp; omega)
          replace hB3 := hB3.chg hx95 (by simp; omega)
          replace hB70 := hB70.chg hx95 (by simp; omega)
          replace hB93 := hB93.chg hx95 (by simp; omega)
          clear hB90; have hB90 := hB95; clear hB95
          refine EP.nil ?_
          exact ⟨b1, b3, b90, ⟨rfl, rfl, rfl, rfl, trivial⟩, hC, hB1, hB3, hB90, by omega, by omega, by omega⟩
      · refine EP.new1 rfl (News.alloc zr70 rfl) ?_
        intro b96 w96 hb96 hs96 hx96 hB96
        have hz96 := hx96.size
        replace hC := hC.step0 hx96
        replace hB1 := hB1.chg0 hx96
        replace hB3 := hB3.chg0 hx96
        replace hCS5 := hCS5.step0 hx96
        replace hB70 := hB70.chg0 hx96
        refine ⟨hCS5, ?_⟩
        refine EP.nil ?_
        refine EP.call1 rfl (Enters.fn fb222 rfl) (range_c _ _ (by decide) (by decide) _) ?_
        rintro _ w97 ⟨rfl, hx97⟩
        have hz97 := hx97.size
        replace hC := hC.step0 hx97
        replace hB1 := hB1.chg0 hx97
        replace hB3 := hB3.chg0 hx97
        replace hCS5 := hCS5.step0 hx97
        replace hB70 := hB70.chg0 hx97
        replace hB96 := hB96.chg0 hx97
        refine ⟨hCS5, ?_⟩
        refine EP.call1 rfl (Enters.fn fb222 rfl) (range_c _ _ (by decide) (by decide) _) ?_
        rintro _ w98 ⟨rfl, hx98⟩
        have hz98 := hx98.size
        replace hC := hC.step0 hx98
        replace hB1 := hB1.chg0 hx98
        replace hB3 := hB3.chg0 hx98
        replace hCS5 := hCS5.step0 hx98
        replace hB70 := hB70.chg0 hx98
        replace hB96 := hB96.chg0 hx98
        refine ⟨hCS5, ?_⟩
        refine EP.call1 rfl (Enters.fn fb139 rfl) (of1_c _ _ _ _ _ (by assumption) (by omega) (by omega)) ?_
        rintro _ w99 ⟨rfl, hx99⟩
        have hz99 := hx99.size
        replace hC := hC.step0 hx99
        replace hB1 := hB1.chg0 hx99
        replace hB3 := hB3.chg0 hx99
        replace hCS5 := hCS5.step0 hx99
        replace hB70 := hB70.chg0 hx99
        replace hB96 := hB96.chg0 hx99
        refine ⟨hCS5, ?_⟩
        refine EP.new1 rfl (News.buildL sl23 Tryz.underlying23 zr70 rfl rfl rfl (by rfl)) ?_
        intro b100 w100 hb100 hs100 hx100 hB100
        have hz100 := hx100.size
        replace hC := hC.step0 hx100
        replace hB1 := hB1.chg0 hx100
        replace hB3 := hB3.chg0 hx100
        replace hCS5 := hCS5.step0 hx100
        replace hB70 := hB70.chg0 hx100
        replace hB96 := hB96.chg0 hx100
        refine ⟨hCS5, ?_⟩
        refine EP.call1 rfl (Enters.fn fb138 rfl) (union4_c _ _ _ _ _ _ _ _ (by assumption)) ?_
        rintro _ w101 ⟨rfl, hx101⟩
        have hz101 := hx101.size
        replace hC := hC.step0 hx101
        replace hB1 := hB1.chg0 hx101
        replace hB3 := hB3.chg0 hx101
        replace hCS5 := hCS5.step0 hx101
        replace hB70 := hB70.chg0 hx101
        replace hB96 := hB96.chg0 hx101
        replace hB100 := hB100.chg0 hx101
        refine ⟨hCS5, ?_⟩
        refine EP.put2 (Puts.blk sz70 rfl rfl (by assumption) rfl rfl rfl rfl (by simp only [List.take, List.drop, List.append, List.cons_append, List.nil_append]; rfl)) ?_
        intro w102 hs102 hx102 hB102
        have hz102 := hx102.size
        replace hC := hC.step hx102 (by first | (simp; done) | (simp; omega))
        replace hB1 := hB1.chg hx102 (by simp; omega)
        replace hB3 := hB3.chg hx102 (by simp; omega)
        replace hB70 := hB70.chg hx102 (by simp; omega)
        replace hB100 := hB100.chg hx102 (by simp; omega)
        clear hB96; have hB96 := hB102; clear hB102
        refine EP.nil ?_
        exact ⟨b1, b3, b96, ⟨rfl, rfl, rfl, rfl, trivial⟩, hC, hB1, hB3, hB96, by omega, by omega, by omega⟩
    · refine EP.new1 rfl (News.alloc zr70 rfl) ?_
      intro b103 w103 hb103 hs103 hx103 hB103
      have hz103 := hx103.size
      replace hC := hC.step0 hx103
      replace hB1 := hB1.chg0 hx103
      replace hB3 := hB3.chg0 hx103
      replace hCS5 := hCS5.step0 hx103
      refine ⟨hCS5, ?_⟩
      refine EP.nil ?_
      refine EP.nil ?_
      refine ⟨?_, ?_⟩
      · refine EP.call1 rfl (Enters.fn fb222 rfl) (range_c _ _ (by decide) (by decide) _) ?_
        rintro _ w104 ⟨rfl, hx104⟩
        have hz104 := hx104.size
        replace hC := hC.step0 hx104
        replace hB1 := hB1.chg0 hx104
        replace hB3 := hB3.chg0 hx104
        replace hCS5 := hCS5.step0 hx104
        replace hB103 := hB103.chg0 hx104
        refine ⟨hCS5, ?_⟩
        refine EP.nil ?_
        refine EP.nil ?_
        refine ⟨?_, ?_⟩
        · refine EP.call1 rfl (Enters.fn fb222 rfl) (range_c _ _ (by decide) (by decide) _) ?_
          rintro _ w105 ⟨rfl, hx105⟩
          have hz105 := hx105.size
          replace hC := hC.step0 hx105
          replace hB1 := hB1.chg0 hx105
          replace hB3 := hB3.chg0 hx105
          replace hCS5 := hCS5.step0 hx105
          replace hB103 := hB103.chg0 hx105
          refine ⟨hCS5, ?_⟩
          refine EP.nil ?_
          refine EP.new1 rfl (News.buildL sl44 Tryz.underlying44 zr5 rfl rfl rfl (by rfl)) ?_
          intro b106 w106 hb106 hs106 hx106 hB106
          have hz106 := hx106.size
          replace hC := hC.step0 hx106
          replace hB1 := hB1.chg0 hx106
          replace hB3 := hB3.chg0 hx106
          replace hCS5 := hCS5.step0 hx106
          replace hB103 := hB103.chg0 hx106
          refine ⟨hCS5, ?_⟩
          refine EP.call1 rfl (Enters.fn fb139 rfl) (of1_c _ _ _ _ _ (by assumption) (by omega) (by omega)) ?_
          rintro _ w107 ⟨rfl, hx107⟩
          have hz107 := hx107.size
          replace hC := hC.step0 hx107
          replace hB1 := hB1.chg0 hx107
          replace hB3 := hB3.chg0 hx107
          replace hCS5 := hCS5.step0 hx107
          replace hB103 := hB103.chg0 hx107
          replace hB106 := hB106.chg0 hx107
          refine ⟨hCS5, ?_⟩
          refine EP.new1 rfl (News.buildL sl23 Tryz.underlying23 zr70 rfl rfl rfl (by rfl)) ?_
          intro b108 w108 hb108 hs108 hx108 hB108
          have hz108 := hx108.size
          replace hC := hC.step0 hx108
          replace hB1 := hB1.chg0 hx108
          replace hB3 := hB3.chg0 hx108
          replace hCS5 := hCS5.step0 hx108
          replace hB103 := hB103.chg0 hx108
          replace hB106 := hB106.chg0 hx108
          refine ⟨hCS5, ?_⟩
          refine EP.call1 rfl (Enters.fn fb138 rfl) (union4_c _ _ _ _ _ _ _ _ (by assumption)) ?_
          rintro _ w109 ⟨rfl, hx109⟩
          have hz109 := hx109.size
          replace hC := hC.step0 hx109
          replace hB1 := hB1.chg0 hx109
          replace hB3 := hB3.chg0 hx109
          replace hCS5 := hCS5.step0 hx109
          replace hB103 := hB103.chg0 hx109
          replace hB106 := hB106.chg0 hx109
          replace hB108 := hB108.chg0 hx109
          refine ⟨hCS5, ?_⟩
          refine EP.put2 (Puts.blk sz70 rfl rfl (by assumption) rfl rfl rfl rfl (by simp only [List.take, List.drop, List.append, List.cons_append, List.nil_append]; rfl)) ?_
          intro w110 hs110 hx110 hB110
          have hz110 := hx110.size
          replace hC := hC.step hx110 (by first | (simp; done) | (simp; omega))
          replace hB1 := hB1.chg hx110 (by simp; omega)
          replace hB3 := hB3.chg hx110 (by simp; omega)
          replace hB106 := hB106.chg hx110 (by simp; omega)
          replace hB108 := hB108.chg hx110 (by simp; omega)
          clear hB103; have hB103 := hB110; clear hB110
          refine EP.nil ?_
          exact ⟨b1, b3, b103, ⟨rfl, rfl, rfl, rfl, trivial⟩, hC, hB1, hB3, hB103, by omega, by omega, by omega⟩
        · refine EP.new1 rfl (News.buildL sl44 Tryz.underlying44 zr5 rfl rfl rfl (by rfl)) ?_
          intro b111 w111 hb111 hs111 hx111 hB111
          have hz111 := hx111.size
          replace hC := hC.step0 hx111
          replace hB1 := hB1.chg0 hx111
          replace hB3 := hB3.chg0 hx111
          replace hCS5 := hCS5.step0 hx111
          replace hB103 := hB103.chg0 hx111
          refine ⟨hCS5, ?_⟩
          refine EP.nil ?_
          refine EP.call1 rfl (Enters.fn fb222 rfl) (range_c _ _ (by decide) (by decide) _) ?_
          rintro _ w112 ⟨rfl, hx112⟩
          have hz112 := hx112.size
          replace hC := hC.step0 hx112
          replace hB1 := hB1.chg0 hx112
          replace hB3 := hB3.chg0 hx112
          replace hCS5 := hCS5.step0 hx112
          replace hB103 := hB103.chg0 hx112
          replace hB111 := hB111.chg0 hx112
          refine ⟨hCS5, ?_⟩
          refine EP.call1 rfl (Enters.fn fb139 rfl) (of1_c _ _ _ _ _ (by assumption) (by omega) (by omega)) ?_
          rintro _ w113 ⟨rfl, hx113⟩
          have hz113 := hx113.size
          replace hC := hC.step0 hx113
          replace hB1 := hB1.chg0 hx113
          replace hB3 := hB3.chg0 hx113
          replace hCS5 := hCS5.step0 hx113
          replace hB103 := hB103.chg0 hx113
          replace hB111 := hB111.chg0 hx113
          refine ⟨hCS5, ?_⟩
          refine EP.new1 rfl (News.buildL sl23 Tryz.underlying23 zr70 rfl rfl rfl (by rfl)) ?_
          intro b114 w114 hb114 hs114 hx114 hB114
          have hz114 := hx114.size
          replace hC := hC.step0 hx114
          replace hB1 := hB1.chg0 hx114
          replace hB3 := hB3.chg0 hx114
          replace hCS5 := hCS5.step0 hx114
          replace hB103 := hB103.chg0 hx114
          replace hB111 := hB111.chg0 hx114
          refine ⟨hCS5, ?_⟩
          refine EP.call1 rfl (Enters.fn fb138 rfl) (union4_c _ _ _ _ _ _ _ _ (by assumption)) ?_
          rintro _ w115 ⟨rfl, hx115⟩
          have hz115 := hx115.size
          replace hC := hC.step0 hx115
          replace hB1 := hB1.chg0 hx115
          replace hB3 := hB3.chg0 hx115
          replace hCS5 := hCS5.step0 hx115
          replace hB103 := hB103.chg0 hx115
          replace hB111 := hB111.chg0 hx115
          replace hB114 := hB114.chg0 hx115
          refine ⟨hCS5, ?_⟩
          refine EP.put2 (Puts.blk sz70 rfl rfl (by assumption) rfl rfl rfl rfl (by simp only [List.take, List.drop, List.append, List.cons_append, List.nil_append]; rfl)) ?_
          intro w116 hs116 hx116 hB116
          have hz116 := hx116.size
          replace hC := hC.step hx116 (by first | (simp; done) | (simp; omega))
          replace hB1 := hB1.chg hx116 (by simp; omega)
          replace hB3 := hB3.chg hx116 (by simp; omega)
          replace hB111 := hB111.chg hx116 (by simp; omega)
          replace hB114 := hB114.chg hx116 (by simp; omega)
          clear hB103; have hB103 := hB116; clear hB116
          refine EP.nil ?_
          exact ⟨b1, b3, b103, ⟨rfl, rfl, rfl, rfl, trivial⟩, hC, hB1, hB3, hB103, by omega, by omega, by omega⟩
      · refine EP.new1 rfl (News.buildL sl44 Tryz.underlying44 zr5 rfl rfl rfl (by rfl)) ?_
        intro b117 w117 hb117 hs117 hx117 hB117
        have hz117 := hx117.size
        replace hC := hC.step0 hx117
        replace hB1 := hB1.chg0 hx117
        replace hB3 := hB3.chg0 hx117
        replace hCS5 := hCS5.step0 hx117
        replace hB103 := hB103.chg0 hx117
        refine ⟨hCS5, ?_⟩
        refine EP.nil ?_
        refine EP.call1 rfl (Enters.fn fb222 rfl) (range_c _ _ (by decide) (by decide) _) ?_
        rintro _ w118 ⟨rfl, hx118⟩
        have hz118 := hx118.size
        replace hC := hC.step0 hx118
        replace hB1 := hB1.chg0 hx118
        replace hB3 := hB3.chg0 hx118
        replace hCS5 := hCS5.step0 hx118
        replace hB103 := hB103.chg0 hx118
        replace hB117 := hB117.chg0 hx118
        refine ⟨hCS5, ?_⟩
        refine EP.call1 rfl (Enters.fn fb222 rfl) (range_c _ _ (by decide) (by decide) _) ?_
        rintro _ w119 ⟨rfl, hx119⟩
        have hz119 := hx119.size
        replace hC := hC.step0 hx119
        replace hB1 := hB1.chg0 hx119
        replace hB3 := hB3.chg0 hx119
        replace hCS5 := hCS5.step0 hx119
        replace hB103 := hB103.chg0 hx119
        replace hB117 := hB117.chg0 hx119
        refine ⟨hCS5, ?_⟩
        refine EP.call1 rfl (Enters.fn fb139 rfl) (of1_c _ _ _ _ _ (by assumption) (by omega) (by omega)) ?_
        rintro _ w120 ⟨rfl, hx120⟩
        have hz120 := hx120.size
        replace hC := hC.step0 hx120
        replace hB1 := hB1.chg0 hx120
        replace hB3 := hB3.chg0 hx120
        replace hCS5 := hCS5.step0 hx120
        replace hB103 := hB103.chg0 hx120
        replace hB117 := hB117.chg0 hx120
        refine ⟨hCS5, ?_⟩
        refine EP.new1 rfl (News.buildL sl23 Tryz.underlying23 zr70 rfl rfl rfl (by rfl)) ?_
        intro b121 w121 hb121 hs121 hx121 hB121
        have hz121 := hx121.size
        replace hC := hC.step0 hx121
        replace hB1 := hB1.chg0 hx121
        replace hB3 := hB3.chg0 hx121
        replace hCS5 := hCS5.step0 hx121
        replace hB103 := hB103.chg0 hx121
        replace hB117 := hB117.chg0 hx121
        refine ⟨hCS5, ?_⟩
        refine EP.call1 rfl (Enters.fn fb138 rfl) (union4_c _ _ _ _ _ _ _ _ (by assumption)) ?_
        rintro _ w122 ⟨rfl, hx122⟩
        have hz122 := hx122.size
        replace hC := hC.step0 hx122
        replace hB1 := hB1.chg0 hx122
        replace hB3 := hB3.chg0 hx122
        replace hCS5 := hCS5.step0 hx122
        replace hB103 := hB103.chg0 hx122
        replace hB117 := hB117.chg0 hx122
        replace hB121 := hB121.chg0 hx122
        refine ⟨hCS5, ?_⟩
        refine EP.put2 (Puts.blk sz70 rfl rfl (by assumption) rfl rfl rfl rfl (by simp only [List.take, List.drop, List.append, List.cons_append, List.nil_append]; rfl)) ?_
        intro w123 hs123 hx123 hB123
        have hz123 := hx123.size
        replace hC := hC.step hx123 (by first | (simp; done) | (simp; omega))
        replace hB1 := hB1.chg hx123 (by simp; omega)
        replace hB3 := hB3.chg hx123 (by simp; omega)
        replace hB117 := hB117.chg hx123 (by simp; omega)
        replace hB121 := hB121.chg hx123 (by simp; omega)
        clear hB103; have hB103 := hB123; clear hB123
        refine EP.nil ?_
        exact ⟨b1, b3, b103, ⟨rfl, rfl, rfl, rfl, trivial⟩, hC, hB1, hB3, hB103, by omega, by omega, by omega⟩
  rintro e9 w9 ⟨b1, b2, b3, hs9, hC, hB1, hB2, hB3, hlt2, hlt3, hge⟩
  refine EW.sub _ hs9 ?_
  clear hs9 e9
  try have hzw := hC.size
  try have hlB1 := hB1.lt
  try have hlB2 := hB2.lt
  try have hlB3 := hB3.lt
  refine EW.seq ?_
  refine EW.reg ?_
  refine EP.call2 rfl (Enters.fn fb222 rfl) (range_c _ _ (by decide) (by decide) _) ?_
  rintro _ w124 ⟨rfl, hx124⟩
  have hz124 := hx124.size
  replace hC := hC.step0 hx124
  replace hB1 := hB1.chg0 hx124
  replace hB2 := hB2.chg0 hx124
  replace hB3 := hB3.chg0 hx124
  refine EP.new2 rfl (News.buildL sl44 Tryz.underlying44 zr5 rfl rfl rfl (by rfl)) ?_
  intro b125 w125 hb125 hs125 hx125 hB125
  have hz125 := hx125.size
  replace hC := hC.step0 hx125
  replace hB1 := hB1.chg0 hx125
  replace hB2 := hB2.chg0 hx125
  replace hB3 := hB3.chg0 hx125
  refine EP.call2 rfl (Enters.fn fb139 rfl) (of1_c _ _ _ _ _ (by assumption) (by omega) (by omega)) ?_
  rintro _ w126 ⟨rfl, hx126⟩
  have hz126 := hx126.size
  replace hC := hC.step0 hx126
  replace hB1 := hB1.chg0 hx126
  replace hB2 := hB2.chg0 hx126
  replace hB3 := hB3.chg0 hx126
  replace hB125 := hB125.chg0 hx126
  refine EP.new2 rfl (News.buildL sl23 Tryz.underlying23 zr70 rfl rfl rfl (by rfl)) ?_
  intro b127 w127 hb127 hs127 hx127 hB127
  have hz127 := hx127.size
  replace hC := hC.step0 hx127
  replace hB1 := hB1.chg0 hx127
  replace hB2 := hB2.chg0 hx127
  replace hB3 := hB3.chg0 hx127
  replace hB125 := hB125.chg0 hx127
  refine EP.call2 rfl (Enters.fn fb138 rfl) (union2_c _ _ _ _ _ _ (by assumption)) ?_
  rintro _ w128 ⟨rfl, hx128⟩
  have hz128 := hx128.size
  replace hC := hC.step0 hx128
  replace hB1 := hB1.chg0 hx128
  replace hB2 := hB2.chg0 hx128
  replace hB3 := hB3.chg0 hx128
  replace hB125 := hB125.chg0 hx128
  replace hB127 := hB127.chg0 hx128
  refine EP.new2 rfl (News.alloc zr70 rfl) ?_
  intro b129 w129 hb129 hs129 hx129 hB129
  have hz129 := hx129.size
  replace hC := hC.step0 hx129
  replace hB1 := hB1.chg0 hx129
  replace hB2 := hB2.chg0 hx129
  replace hB3 := hB3.chg0 hx129
  replace hB125 := hB125.chg0 hx129
  replace hB127 := hB127.chg0 hx129
  refine EP.put2 (Puts.blk sz70 rfl rfl (by assumption) rfl rfl rfl rfl (by simp only [List.take, List.drop, List.append, List.cons_append, List.nil_append]; rfl)) ?_
  intro w130 hs130 hx130 hB130
  have hz130 := hx130.size
  replace hC := hC.step hx130 (by first | (simp; done) | (simp; omega))
  replace hB1 := hB1.chg hx130 (by simp; omega)
  replace hB2 := hB2.chg hx130 (by simp; omega)
  replace hB3 := hB3.chg hx130 (by simp; omega)
  replace hB125 := hB125.chg hx130 (by simp; omega)
  replace hB127 := hB127.chg hx130 (by simp; omega)
  clear hB129; have hB129 := hB130; clear hB130
  refine EP.nil ?_
  refine EW.seq ?_
  refine EW.seq ?_
  refine EW.reg ?_
  refine EP.o rfl (Does.move rfl) ?_
  refine EP.nil ?_
  refine EW.block ?_
  refine EW.seq ?_
  refine EW.reg ?_
  refine EP.o rfl (Does.cmp rfl rfl rfl) ?_
  refine EP.o rfl (Does.assign rfl) ?_
  refine EP.nil ?_
  refine EW.cond rfl (fun hc110 => ?_) (fun hc110 => ?_)
  · try simp at hc110
    refine EW.seq ?_
    refine EW.reg ?_
    refine EP.new2 rfl (News.buildL sl44 Tryz.underlying44 zr5 rfl rfl rfl (by rfl)) ?_
    intro b131 w131 hb131 hs131 hx131 hB131
    have hz131 := hx131.size
    replace hC := hC.step0 hx131
    replace hB1 := hB1.chg0 hx131
    replace hB2 := hB2.chg0 hx131
    replace hB3 := hB3.chg0 hx131
    replace hB125 := hB125.chg0 hx131
    replace hB127 := hB127.chg0 hx131
    replace hB129 := hB129.chg0 hx131
    refine EP.call2 rfl (Enters.fn fb139 rfl) (of1_c _ _ _ _ _ (by assumption) (by omega) (by omega)) ?_
    rintro _ w132 ⟨rfl, hx132⟩
    have hz132 := hx132.size
    replace hC := hC.step0 hx132
    replace hB1 := hB1.chg0 hx132
    replace hB2 := hB2.chg0 hx132
    replace hB3 := hB3.chg0 hx132
    replace hB125 := hB125.chg0 hx132
    replace hB127 := hB127.chg0 hx132
    replace hB129 := hB129.chg0 hx132
    replace hB131 := hB131.chg0 hx132
    refine EP.put2 (Puts.blk sz70 rfl rfl (by assumption) rfl rfl rfl rfl (by simp only [List.take, List.drop, List.append, List.cons_append, List.nil_append]; rfl)) ?_
    intro w133 hs133 hx133 hB133
    have hz133 := hx133.size
    replace hC := hC.step hx133 (by first | (simp; done) | (simp; omega))
    replace hB2 := hB2.chg hx133 (by simp; omega)
    replace hB3 := hB3.chg hx133 (by simp; omega)
    replace hB125 := hB125.chg hx133 (by simp; omega)
    replace hB127 := hB127.chg hx133 (by simp; omega)
    replace hB129 := hB129.chg hx133 (by simp; omega)
    replace hB131 := hB131.chg hx133 (by simp; omega)
    clear hB1; have hB1 := hB133; clear hB133
    refine EP.o rfl (Does.assign rfl) ?_
    refine EP.nil ?_
    refine EW.ret ?_
    refine Fin.cell_tmp rfl rfl (Blk.loadV ag70 (by assumption) (by simp only [List.take, List.drop, List.append, List.cons_append, List.nil_append]; rfl) rfl) rfl ?_
    exact ⟨by rw [show c = 110 from by omega]; rfl, hC⟩
  · try simp at hc110
    refine EW.seq ?_
    refine EW.reg ?_
    refine EP.o rfl (Does.cmp rfl rfl rfl) ?_
    refine EP.o rfl (Does.assign rfl) ?_
    refine EP.nil ?_
    refine EW.cond rfl (fun hc116 => ?_) (fun hc116 => ?_)
    · try simp at hc116
      refine EW.seq ?_
      refine EW.reg ?_
      refine EP.new2 rfl (News.buildL sl44 Tryz.underlying44 zr5 rfl rfl rfl (by rfl)) ?_
      intro b134 w134 hb134 hs134 hx134 hB134
      have hz134 := hx134.size
      replace hC := hC.step0 hx134
      replace hB1 := hB1.chg0 hx134
      replace hB2 := hB2.chg0 hx134
      replace hB3 := hB3.chg0 hx134
      replace hB125 := hB125.chg0 hx134
      replace hB127 := hB127.chg0 hx134
      replace hB129 := hB129.chg0 hx134
      refine EP.call2 rfl (Enters.fn fb139 rfl) (of1_c _ _ _ _ _ (by assumption) (by omega) (by omega)) ?_
      rintro _ w135 ⟨rfl, hx135⟩
      have hz135 := hx135.size
      replace hC := hC.step0 hx135
      replace hB1 := hB1.chg0 hx135
      replace hB2 := hB2.chg0 hx135
      replace hB3 := hB3.chg0 hx135
      replace hB125 := hB125.chg0 hx135
      replace hB127 := hB127.chg0 hx135
      replace hB129 := hB129.chg0 hx135
      replace hB134 := hB134.chg0 hx135
      refine EP.put2 (Puts.blk sz70 rfl rfl (by assumption) rfl rfl rfl rfl (by simp only [List.take, List.drop, List.append, List.cons_append, List.nil_append]; rfl)) ?_
      intro w136 hs136 hx136 hB136
      have hz136 := hx136.size
      replace hC := hC.step hx136 (by first | (simp; done) | (simp; omega))
      replace hB2 := hB2.chg hx136 (by simp; omega)
      replace hB3 := hB3.chg hx136 (by simp; omega)
      replace hB125 := hB125.chg hx136 (by simp; omega)
      replace hB127 := hB127.chg hx136 (by simp; omega)
      replace hB129 := hB129.chg hx136 (by simp; omega)
      replace hB134 := hB134.chg hx136 (by simp; omega)
      clear hB1; have hB1 := hB136; clear hB136
      refine EP.o rfl (Does.assign rfl) ?_
      refine EP.nil ?_
      refine EW.ret ?_
      refine Fin.cell_tmp rfl rfl (Blk.loadV ag70 (by assumption) (by simp only [List.take, List.drop, List.append, List.cons_append, List.nil_append]; rfl) rfl) rfl ?_
      exact ⟨by rw [show c = 116 from by omega]; rfl, hC⟩
    · try simp at hc116
      refine EW.seq ?_
      refine EW.reg ?_
      refine EP.o rfl (Does.cmp rfl rfl rfl) ?_
      refine EP.o rfl (Does.assign rfl) ?_
      refine EP.nil ?_
      refine EW.cond rfl (fun hc114 => ?_) (fun hc114 => ?_)
      · try simp at hc114
        refine EW.seq ?_
        refine EW.reg ?_
        refine EP.new2 rfl (News.buildL sl44 Tryz.underlying44 zr5 rfl rfl rfl (by rfl)) ?_
        intro b137 w137 hb137 hs137 hx137 hB137
        have hz137 := hx137.size
        replace hC := hC.step0 hx137
        replace hB1 := hB1.chg0 hx137
        replace hB2 := hB2.chg0 hx137
        replace hB3 := hB3.chg0 hx137
        replace hB125 := hB125.chg0 hx137
        replace hB127 := hB127.chg0 hx137
        replace hB129 := hB129.chg0 hx137
        refine EP.call2 rfl (Enters.fn fb139 rfl) (of1_c _ _ _ _ _ (by assumption) (by omega) (by omega)) ?_
        rintro _ w138 ⟨rfl, hx138⟩
        have hz138 := hx138.size
        replace hC := hC.step0 hx138
        replace hB1 := hB1.chg0 hx138
        replace hB2 := hB2.chg0 hx138
        replace hB3 := hB3.chg0 hx138
        replace hB125 := hB125.chg0 hx138
        replace hB127 := hB127.chg0 hx138
        replace hB129 := hB129.chg0 hx138
        replace hB137 := hB137.chg0 hx138
        refine EP.put2 (Puts.blk sz70 rfl rfl (by assumption) rfl rfl rfl rfl (by simp only [List.take, List.drop, List.append, List.cons_append, List.nil_append]; rfl)) ?_
        intro w139 hs139 hx139 hB139
        have hz139 := hx139.size
        replace hC := hC.step hx139 (by first | (simp; done) | (simp; omega))
        replace hB2 := hB2.chg hx139 (by simp; omega)
        replace hB3 := hB3.chg hx139 (by simp; omega)
        replace hB125 := hB125.chg hx139 (by simp; omega)
        replace hB127 := hB127.chg hx139 (by simp; omega)
        replace hB129 := hB129.chg hx139 (by simp; omega)
        replace hB137 := hB137.chg hx139 (by simp; omega)
        clear hB1; have hB1 := hB139; clear hB139
        refine EP.o rfl (Does.assign rfl) ?_
        refine EP.nil ?_
        refine EW.ret ?_
        refine Fin.cell_tmp rfl rfl (Blk.loadV ag70 (by assumption) (by simp only [List.take, List.drop, List.append, List.cons_append, List.nil_append]; rfl) rfl) rfl ?_
        exact ⟨by rw [show c = 114 from by omega]; rfl, hC⟩
      · try simp at hc114
        refine EW.seq ?_
        refine EW.reg ?_
        refine EP.o rfl (Does.cmp rfl rfl rfl) ?_
        refine EP.o rfl (Does.assign rfl) ?_
        refine EP.nil ?_
        refine EW.cond rfl (fun hc102 => ?_) (fun hc102 => ?_)
        · try simp at hc102
          refine EW.seq ?_
          refine EW.reg ?_
          refine EP.new2 rfl (News.buildL sl44 Tryz.underlying44 zr5 rfl rfl rfl (by rfl)) ?_
          intro b140 w140 hb140 hs140 hx140 hB140
          have hz140 := hx140.size
          replace hC := hC.step0 hx140
          replace hB1 := hB1.chg0 hx140
          replace hB2 := hB2.chg0 hx140
          replace hB3 := hB3.chg0 hx140
          replace hB125 := hB125.chg0 hx140
          replace hB127 := hB127.chg0 hx140
          replace hB129 := hB129.chg0 hx140
          refine EP.call2 rfl (Enters.fn fb139 rfl) (of1_c _ _ _ _ _ (by assumption) (by omega) (by omega)) ?_
          rintro _ w141 ⟨rfl, hx141⟩
          have hz141 := hx141.size
          replace hC := hC.step0 hx141
          replace hB1 := hB1.chg0 hx141
          replace hB2 := hB2.chg0 hx141
          replace hB3 := hB3.chg0 hx141
          replace hB125 := hB125.chg0 hx141
          replace hB127 := hB127.chg0 hx141
          replace hB129 := hB129.chg0 hx141
          replace hB140 := hB140.chg0 hx141
          refine EP.put2 (Puts.blk sz70 rfl rfl (by assumption) rfl rfl rfl rfl (by simp only [List.take, List.drop, List.append, List.cons_append, List.nil_append]; rfl)) ?_
          intro w142 hs142 hx142 hB142
          have hz142 := hx142.size
          replace hC := hC.step hx142 (by first | (simp; done) | (simp; omega))
          replace hB2 := hB2.chg hx142 (by simp; omega)
          replace hB3 := hB3.chg hx142 (by simp; omega)
          replace hB125 := hB125.chg hx142 (by simp; omega)
          replace hB127 := hB127.chg hx142 (by simp; omega)
          replace hB129 := hB129.chg hx142 (by simp; omega)
          replace hB140 := hB140.chg hx142 (by simp; omega)
          clear hB1; have hB1 := hB142; clear hB142
          refine EP.o rfl (Does.assign rfl) ?_
          refine EP.nil ?_
          refine EW.ret ?_
          refine Fin.cell_tmp rfl rfl (Blk.loadV ag70 (by assumption) (by simp only [List.take, List.drop, List.append, List.cons_append, List.nil_append]; rfl) rfl) rfl ?_
          exact ⟨by rw [show c = 102 from by omega]; rfl, hC⟩
        · try simp at hc102
          refine EW.seq ?_
          refine EW.reg ?_
          refine EP.o rfl (Does.cmp rfl rfl rfl) ?_
          refine EP.o rfl (Does.assign rfl) ?_
          refine EP.nil ?_
          refine EW.cond rfl (fun hc118 => ?_) (fun hc118 => ?_)
          · try simp at hc118
            refine EW.seq ?_
            refine EW.reg ?_
            refine EP.new2 rfl (News.buildL sl44 Tryz.underlying44 zr5 rfl rfl rfl (by rfl)) ?_
            intro b143 w143 hb143 hs143 hx143 hB143
            have hz143 := hx143.size
            replace hC := hC.step0 hx143
            replace hB1 := hB1.chg0 hx143
            replace hB2 := hB2.chg0 hx143
            replace hB3 := hB3.chg0 hx143
            replace hB125 := hB125.chg0 hx143
            replace hB127 := hB127.chg0 hx143
            replace hB129 := hB129.chg0 hx143
            refine EP.call2 rfl (Enters.fn fb139 rfl) (of1_c _ _ _ _ _ (by assumption) (by omega) (by omega)) ?_
            rintro _ w144 ⟨rfl, hx144⟩
            have hz144 := hx144.size
            replace hC := hC.step0 hx144
            replace hB1 := hB1.chg0 hx144
            replace hB2 := hB2.chg0 hx144
            replace hB3 := hB3.chg0 hx144
            replace hB125 := hB125.chg0 hx144
            replace hB127 := hB127.chg0 hx144
            replace hB129 := hB129.chg0 hx144
            replace hB143 := hB143.chg0 hx144
            refine EP.put2 (Puts.blk sz70 rfl rfl (by assumption) rfl rfl rfl rfl (by simp only [List.take, List.drop, List.append, List.cons_append, List.nil_append]; rfl)) ?_
            intro w145 hs145 hx145 hB145
            have hz145 := hx145.size
            replace hC := hC.step hx145 (by first | (simp; done) | (simp; omega))
            replace hB2 := hB2.chg hx145 (by simp; omega)
            replace hB3 := hB3.chg hx145 (by simp; omega)
            replace hB125 := hB125.chg hx145 (by simp; omega)
            replace hB127 := hB127.chg hx145 (by simp; omega)
            replace hB129 := hB129.chg hx145 (by simp; omega)
            replace hB143 := hB143.chg hx145 (by simp; omega)
            clear hB1; have hB1 := hB145; clear hB145
            refine EP.o rfl (Does.assign rfl) ?_
            refine EP.nil ?_
            refine EW.ret ?_
            refine Fin.cell_tmp rfl rfl (Blk.loadV ag70 (by assumption) (by simp only [List.take, List.drop, List.append, List.cons_append, List.nil_append]; rfl) rfl) rfl ?_
            exact ⟨by rw [show c = 118 from by omega]; rfl, hC⟩
          · try simp at hc118
            refine EW.seq ?_
            refine EW.reg ?_
            refine EP.o rfl (Does.cmp rfl rfl rfl) ?_
            refine EP.o rfl (Does.assign rfl) ?_
            refine EP.nil ?_
            refine EW.cond rfl (fun hc100 => ?_) (fun hc100 => ?_)
            · try simp at hc100
              refine EW.seq ?_
              refine EW.reg ?_
              refine EP.o rfl (Does.loadA ag70 rfl (Keeps.now _) (by assumption) (by simp only [List.take, List.drop, List.append, List.cons_append, List.nil_append]; rfl) rfl) ?_
              refine EP.put2 (Puts.blk sz70 rfl rfl (by assumption) rfl rfl rfl rfl (by simp only [List.take, List.drop, List.append, List.cons_append, List.nil_append]; rfl)) ?_
              intro w146 hs146 hx146 hB146
              have hz146 := hx146.size
              replace hC := hC.step hx146 (by first | (simp; done) | (simp; omega))
              replace hB2 := hB2.chg hx146 (by simp; omega)
              replace hB3 := hB3.chg hx146 (by simp; omega)
              replace hB125 := hB125.chg hx146 (by simp; omega)
              replace hB127 := hB127.chg hx146 (by simp; omega)
              replace hB129 := hB129.chg hx146 (by simp; omega)
              clear hB1; have hB1 := hB146; clear hB146
              refine EP.o rfl (Does.assign rfl) ?_
              refine EP.nil ?_
              refine EW.ret ?_
              refine Fin.cell_tmp rfl rfl (Blk.loadV ag70 (by assumption) (by simp only [List.take, List.drop, List.append, List.cons_append, List.nil_append]; rfl) rfl) rfl ?_
              exact ⟨by rw [show c = 100 from by omega]; rfl, hC⟩
            · try simp at hc100
              refine EW.seq ?_
              refine EW.reg ?_
              refine EP.o rfl (Does.cmp rfl rfl rfl) ?_
              refine EP.o rfl (Does.assign rfl) ?_
              refine EP.nil ?_
              refine EW.cond rfl (fun hc119 => ?_) (fun hc119 => ?_)
              · try simp at hc119
                refine EW.seq ?_
                refine EW.reg ?_
                refine EP.o rfl (Does.loadA ag70 rfl (Keeps.now _) (by assumption) (by simp only [List.take, List.drop, List.append, List.cons_append, List.nil_append]; rfl) rfl) ?_
                refine EP.put2 (Puts.blk sz70 rfl rfl (by assumption) rfl rfl rfl rfl (by simp only [List.take, List.drop, List.append, List.cons_append, List.nil_append]; rfl)) ?_
                intro w147 hs147 hx147 hB147
                have hz147 := hx147.size
                replace hC := hC.step hx147 (by first | (simp; done) | (simp; omega))
                replace hB2 := hB2.chg hx147 (by simp; omega)
                replace hB3 := hB3.chg hx147 (by simp; omega)
                replace hB125 := hB125.chg hx147 (by simp; omega)
                replace hB127 := hB127.chg hx147 (by simp; omega)
                replace hB129 := hB129.chg hx147 (by simp; omega)
                clear hB1; have hB1 := hB147; clear hB147
                refine EP.o rfl (Does.assign rfl) ?_
                refine EP.nil ?_
                refine EW.ret ?_
                refine Fin.cell_tmp rfl rfl (Blk.loadV ag70 (by assumption) (by simp only [List.take, List.drop, List.append, List.cons_append, List.nil_append]; rfl) rfl) rfl ?_
                exact ⟨by rw [show c = 119 from by omega]; rfl, hC⟩
              · try simp at hc119
                refine EW.seq ?_
                refine EW.reg ?_
                refine EP.o rfl (Does.cmp rfl rfl rfl) ?_
                refine EP.o rfl (Does.assign rfl) ?_
                refine EP.nil ?_
                refine EW.cond rfl (fun hc115 => ?_) (fun hc115 => ?_)
                · try simp at hc115
                  refine EW.seq ?_
                  refine EW.reg ?_
                  refine EP.o rfl (Does.loadA ag70 rfl (Keeps.now _) (by assumption) (by simp only [List.take, List.drop, List.append, List.cons_append, List.nil_append]; rfl) rfl) ?_
                  refine EP.put2 (Puts.blk sz70 rfl rfl (by assumption) rfl rfl rfl rfl (by simp only [List.take, List.drop, List.append, List.cons_append, List.nil_append]; rfl)) ?_
                  intro w148 hs148 hx148 hB148
                  have hz148 := hx148.size
                  replace hC := hC.step hx148 (by first | (simp; done) | (simp; omega))
                  replace hB2 := hB2.chg hx148 (by simp; omega)
                  replace hB3 := hB3.chg hx148 (by simp; omega)
                  replace hB125 := hB125.chg hx148 (by simp; omega)
                  replace hB127 := hB127.chg hx148 (by simp; omega)
                  replace hB129 := hB129.chg hx148 (by simp; omega)
                  clear hB1; have hB1 := hB148; clear hB148
                  refine EP.o rfl (Does.assign rfl) ?_
                  refine EP.nil ?_
                  refine EW.ret ?_
                  refine Fin.cell_tmp rfl rfl (Blk.loadV ag70 (by assumption) (by simp only [List.take, List.drop, List.append, List.cons_append, List.nil_append]; rfl) rfl) rfl ?_
                  exact ⟨by rw [show c = 115 from by omega]; rfl, hC⟩
                · try simp at hc115
                  refine EW.seq ?_
                  refine EW.reg ?_
                  refine EP.o rfl (Does.cmp rfl rfl rfl) ?_
                  refine EP.o rfl (Does.assign rfl) ?_
                  refine EP.nil ?_
                  refine EW.cond rfl (fun hc68 => ?_) (fun hc68 => ?_)
                  · try simp at hc68
                    refine EW.seq ?_
                    refine EW.reg ?_
                    refine EP.o rfl (Does.loadA ag70 rfl (Keeps.now _) (by assumption) (by simp only [List.take, List.drop, List.append, List.cons_append, List.nil_append]; rfl) rfl) ?_
                    refine EP.call2 rfl (Enters.fn fb178 rfl) (not_c _ (by exact digits_ok) _) ?_
                    rintro _ w149 ⟨rfl, hx149⟩
                    have hz149 := hx149.size
                    replace hC := hC.step0 hx149
                    replace hB1 := hB1.chg0 hx149
                    replace hB2 := hB2.chg0 hx149
                    replace hB3 := hB3.chg0 hx149
                    replace hB125 := hB125.chg0 hx149
                    replace hB127 := hB127.chg0 hx149
                    replace hB129 := hB129.chg0 hx149
                    refine EP.put2 (Puts.blk sz70 rfl rfl (by assumption) rfl rfl rfl rfl (by simp only [List.take, List.drop, List.append, List.cons_append, List.nil_append]; rfl)) ?_
                    intro w150 hs150 hx150 hB150
                    have hz150 := hx150.size
                    replace hC := hC.step hx150 (by first | (simp; done) | (simp; omega))
                    replace hB2 := hB2.chg hx150 (by simp; omega)
                    replace hB3 := hB3.chg hx150 (by simp; omega)
                    replace hB125 := hB125.chg hx150 (by simp; omega)
                    replace hB127 := hB127.chg hx150 (by simp; omega)
                    replace hB129 := hB129.chg hx150 (by simp; omega)
                    clear hB1; have hB1 := hB150; clear hB150
                    refine EP.o rfl (Does.assign rfl) ?_
                    refine EP.nil ?_
                    refine EW.ret ?_
                    refine Fin.cell_tmp rfl rfl (Blk.loadV ag70 (by assumption) (by simp only [List.take, List.drop, List.append, List.cons_append, List.nil_append]; rfl) rfl) rfl ?_
                    exact ⟨by rw [show c = 68 from by omega]; rfl, hC⟩
                  · try simp at hc68
                    refine EW.seq ?_
                    refine EW.reg ?_
                    refine EP.o rfl (Does.cmp rfl rfl rfl) ?_
                    refine EP.o rfl (Does.assign rfl) ?_
                    refine EP.nil ?_
                    refine EW.cond rfl (fun hc87 => ?_) (fun hc87 => ?_)
                    · try simp at hc87
                      refine EW.seq ?_
                      refine EW.reg ?_
                      refine EP.o rfl (Does.loadA ag70 rfl (Keeps.now _) (by assumption) (by simp only [List.take, List.drop, List.append, List.cons_append, List.nil_append]; rfl) rfl) ?_
                      refine EP.call2 rfl (Enters.fn fb178 rfl) (not_c _ (by exact word_ok) _) ?_
                      rintro _ w151 ⟨rfl, hx151⟩
                      have hz151 := hx151.size
                      replace hC := hC.step0 hx151
                      replace hB1 := hB1.chg0 hx151
                      replace hB2 := hB2.chg0 hx151
                      replace hB3 := hB3.chg0 hx151
                      replace hB125 := hB125.chg0 hx151
                      replace hB127 := hB127.chg0 hx151
                      replace hB129 := hB129.chg0 hx151
                      refine EP.put2 (Puts.blk sz70 rfl rfl (by assumption) rfl rfl rfl rfl (by simp only [List.take, List.drop, List.append, List.cons_append, List.nil_append]; rfl)) ?_
                      intro w152 hs152 hx152 hB152
                      have hz152 := hx152.size
                      replace hC := hC.step hx152 (by first | (simp; done) | (simp; omega))
                      replace hB2 := hB2.chg hx152 (by simp; omega)
                      replace hB3 := hB3.chg hx152 (by simp; omega)
                      replace hB125 := hB125.chg hx152 (by simp; omega)
                      replace hB127 := hB127.chg hx152 (by simp; omega)
                      replace hB129 := hB129.chg hx152 (by simp; omega)
                      clear hB1; have hB1 := hB152; clear hB152
                      refine EP.o rfl (Does.assign rfl) ?_
                      refine EP.nil ?_
                      refine EW.ret ?_
                      refine Fin.cell_tmp rfl rfl (Blk.loadV ag70 (by assumption) (by simp only [List.take, List.drop, List.append, List.cons_append, List.nil_append]; rfl) rfl) rfl ?_
                      exact ⟨by rw [show c = 87 from by omega]; rfl, hC⟩
                    · try simp at hc87
                      refine EW.seq ?_
                      refine EW.reg ?_
                      refine EP.o rfl (Does.cmp rfl rfl rfl) ?_
                      refine EP.o rfl (Does.assign rfl) ?_
                      refine EP.nil ?_
                      refine EW.cond rfl (fun hc83 => ?_) (fun hc83 => ?_)
                      · try simp at hc83
                        refine EW.seq ?_
                        refine EW.reg ?_
                        refine EP.o rfl (Does.loadA ag70 rfl (Keeps.now _) (by assumption) (by simp only [List.take, List.drop, List.append, List.cons_append, List.nil_append]; rfl) rfl) ?_
                        refine EP.call2 rfl (Enters.fn fb178 rfl) (not_c _ (by exact space_ok) _) ?_
                        rintro _ w153 ⟨rfl, hx153⟩
                        have hz153 := hx153.size
                        replace hC := hC.step0 hx153
                        replace hB1 := hB1.chg0 hx153
                        replace hB2 := hB2.chg0 hx153
                        replace hB3 := hB3.chg0 hx153
                        replace hB125 := hB125.chg0 hx153
                        replace hB127 := hB127.chg0 hx153
                        replace hB129 := hB129.chg0 hx153
                        refine EP.put2 (Puts.blk sz70 rfl rfl (by assumption) rfl rfl rfl rfl (by simp only [List.take, List.drop, List.append, List.cons_append, List.nil_append]; rfl)) ?_
                        intro w154 hs154 hx154 hB154
                        have hz154 := hx154.size
                        replace hC := hC.step hx154 (by first | (simp; done) | (simp; omega))
                        replace hB2 := hB2.chg hx154 (by simp; omega)
                        replace hB3 := hB3.chg hx154 (by simp; omega)
                        replace hB125 := hB125.chg hx154 (by simp; omega)
                        replace hB127 := hB127.chg hx154 (by simp; omega)
                        replace hB129 := hB129.chg hx154 (by simp; omega)
                        clear hB1; have hB1 := hB154; clear hB154
                        refine EP.o rfl (Does.assign rfl) ?_
                        refine EP.nil ?_
                        refine EW.ret ?_
                        refine Fin.cell_tmp rfl rfl (Blk.loadV ag70 (by assumption) (by simp only [List.take, List.drop, List.append, List.cons_append, List.nil_append]; rfl) rfl) rfl ?_
                        exact ⟨by rw [show c = 83 from by omega]; rfl, hC⟩
                      · try simp at hc83
                        refine EW.skip ?_
                        refine EW.seq ?_
                        refine EW.reg ?_
                        refine EP.o rfl (Does.buildAL zr70 ar70 rfl (by rfl)) ?_
                        refine EP.put2 (Puts.blk sz70 rfl rfl (by assumption) rfl rfl rfl rfl (by simp only [List.take, List.drop, List.append, List.cons_append, List.nil_append]; rfl)) ?_
                        intro w155 hs155 hx155 hB155
                        have hz155 := hx155.size
                        replace hC := hC.step hx155 (by first | (simp; done) | (simp; omega))
                        replace hB2 := hB2.chg hx155 (by simp; omega)
                        replace hB3 := hB3.chg hx155 (by simp; omega)
                        replace hB125 := hB125.chg hx155 (by simp; omega)
                        replace hB127 := hB127.chg hx155 (by simp; omega)
                        replace hB129 := hB129.chg hx155 (by simp; omega)
                        clear hB1; have hB1 := hB155; clear hB155
                        refine EP.o rfl (Does.assign rfl) ?_
                        refine EP.nil ?_
                        refine EW.ret ?_
                        refine Fin.cell_tmp rfl rfl (Blk.loadV ag70 (by assumption) (by simp only [List.take, List.drop, List.append, List.cons_append, List.nil_append]; rfl) rfl) rfl ?_
                        have : namedP c = none := by unfold namedP; rw [if_neg (by omega), if_neg (by omega), if_neg (by omega), if_neg (by omega), if_neg (by omega), if_neg (by omega), if_neg (by omega), if_neg (by omega), if_neg (by omega), if_neg (by omega), if_neg (by omega)]
                        exact ⟨by rw [this]; rfl, hC⟩
end Go.Clt
end
section
set_option linter.unusedVariables false
set_option linter.unusedSimpArgs false
set_option maxRecDepth 8000
namespace Go.Clt
open Go Go.RowKit Go.Proofs
def dig : List Nat → Nat
  | [] => 0
  | b :: r => b + 256 * dig r
theorem and_split {a b x y : Nat} (ha : a < 256) (hb : b < 256) : (a + 256 * x) &&& (b + 256 * y) = (a &&& b) + 256 * (x &&& y) := by
  have h1 : ((a + 256 * x) &&& (b + 256 * y)) % 2 ^ 8 = (a &&& b) := by rw [Nat.and_mod_two_pow, show (a + 256 * x) % 2 ^ 8 = a from by omega, show (b + 256 * y) % 2 ^ 8 = b from by omega]
  have h2 : ((a + 256 * x) &&& (b + 256 * y)) / 2 ^ 8 = (x &&& y) := by rw [Nat.and_div_two_pow, show (a + 256 * x) / 2 ^ 8 = x from by omega, show (b + 256 * y) / 2 ^ 8 = y from by omega]
  omega
def pop8 (b : Nat) : Nat := ((List.range 8).filter fun j => b.testBit j).length
def cnt (s n : Nat) : Nat := ((List.range n).filter fun j => s.testBit j).length
theorem cnt_add (s n m : Nat) : cnt s (n + m) = cnt s n + cnt (s / 2 ^ n) m := by
  unfold cnt
  rw [List.range_add, List.filter_append, List.length_append, List.filter_map, List.length_map]
  congr 2
  apply congrArg (fun f => List.filter f (List.range m))
  funext j
  simp [Nat.testBit_div_two_pow, Nat.add_comm]
theorem cnt8 (s : Nat) : cnt s 8 = pop8 (s % 256) := by
  unfold cnt pop8
  congr 1
  apply List.filter_congr
  intro j hj
  have : j < 8 := List.mem_range.1 hj
  rw [show (256 : Nat) = 2 ^ 8 from rfl, Nat.testBit_mod_two_pow]
  simp [this]
theorem countS_eq (s : Nat) : countS s = cnt s 256 := rfl
theorem cnt64 (s : Nat) : cnt s 64 = pop8 (s % 256) + pop8 (s / 256 % 256) + pop8 (s / 65536 % 256) + pop8 (s / 16777216 % 256) + pop8 (s / 4294967296 % 256) + pop8 (s / 1099511627776 % 256) + pop8 (s / 281474976710656 % 256) + pop8 (s / 72057594037927936 % 256) := by
  rw [cnt_add s 8 56, cnt_add _ 8 48, cnt_add _ 8 40, cnt_add _ 8 32, cnt_add _ 8 24, cnt_add _ 8 16, cnt_add _ 8 8]
  simp only [cnt8, Nat.div_div_eq_div_mul]
  simp only [Nat.reducePow, Nat.reduceMul]
  omega
theorem cnt_mod (s : Nat) : cnt (s % 2 ^ 64) 64 = cnt s 64 := by
  unfold cnt
  congr 1
  apply List.filter_congr
  intro j hj
  have : j < 64 := List.mem_range.1 hj
  rw [Nat.testBit_mod_two_pow]
  simp [this]
def wdN (s i : Nat) : Nat := s / 2 ^ (64 * i) % 2 ^ 64
theorem countS_words (s : Nat) : countS s = cnt (wdN s 0) 64 + cnt (wdN s 1) 64 + cnt (wdN s 2) 64 + cnt (wdN s 3) 64 := by
  rw [countS_eq, cnt_add s 64 192, cnt_add _ 64 128, cnt_add _ 64 64]
  unfold wdN
  simp only [cnt_mod, Nat.div_div_eq_div_mul]
  simp only [Nat.reducePow, Nat.reduceMul, Nat.div_one]
  omega
def f1 (b : Nat) : Nat := (b / 2 &&& 85) + (b &&& 85)
def f2 (b : Nat) : Nat := (b / 4 &&& 51) + (b &&& 51)
def f3 (b : Nat) : Nat := (b / 16 + b) &&& 15
theorem f1_c : ∀ b, b < 256 → ∀ c, c < 2 → (b / 2 + 128 * c) &&& 85 = b / 2 &&& 85 := by decide +kernel
theorem f2_c : ∀ b, b < 256 → ∀ c, c < 4 → (b / 4 + 64 * c) &&& 51 = b / 4 &&& 51 := by decide +kernel
theorem f3_c : ∀ b, b < 256 → ∀ c, c < 16 → (b / 16 + 16 * c + b) &&& 15 = (b / 16 + b) &&& 15 := by decide +kernel
theorem f1_lt : ∀ b, b < 256 → f1 b < 256 := by decide +kernel
theorem f21_lt : ∀ b, b < 256 → f2 (f1 b) ≤ 68 ∧ f2 (f1 b) % 16 ≤ 4 := by decide +kernel
theorem f321 : ∀ b, b < 256 → f3 (f2 (f1 b)) = pop8 b := by decide +kernel
theorem pop8_le : ∀ b, b < 256 → pop8 b ≤ 8 := by decide +kernel
theorem dig8 (x : Nat) (hx : x < 2 ^ 64) : ∃ a b c d e f g h : Nat, a < 256 ∧ b < 256 ∧ c < 256 ∧ d < 256 ∧ e < 256 ∧ f < 256 ∧ g < 256 ∧ h < 256 ∧ x = dig [a, b, c, d, e, f, g, h] :=
  ⟨x % 256, x / 256 % 256, x / 65536 % 256, x / 16777216 % 256, x / 4294967296 % 256, x / 1099511627776 % 256, x / 281474976710656 % 256, x / 72057594037927936 % 256, by omega, by omega, by omega, by omega, by omega, by omega, by omega, by omega, by simp only [dig]; omega⟩
def st1 (x : Nat) : Nat := (x / 2 &&& 6148914691236517205) + (x &&& 6148914691236517205)
def st2 (x : Nat) : Nat := (x / 4 &&& 3689348814741910323) + (x &&& 3689348814741910323)
def st3 (x : Nat) : Nat := (x / 16 + x) &&& 1085102592571150095
theorem and8 {a b c d e f g h m M : Nat} (hM : M = dig [m, m, m, m, m, m, m, m]) (hm : m < 256) (ha : a < 256) (hb : b < 256) (hc : c < 256) (hd : d < 256) (he : e < 256) (hf : f < 256) (hg : g < 256) (hh : h < 256) :
    dig [a, b, c, d, e, f, g, h] &&& M = dig [a &&& m, b &&& m, c &&& m, d &&& m, e &&& m, f &&& m, g &&& m, h &&& m] := by
  subst hM
  simp only [dig]
  rw [and_split ha hm, and_split hb hm, and_split hc hm, and_split hd hm, and_split he hm, and_split hf hm, and_split hg hm, and_split hh hm]
  simp
theorem st1_dig {a b c d e f g h : Nat} (ha : a < 256) (hb : b < 256) (hc : c < 256) (hd : d < 256) (he : e < 256) (hf : f < 256) (hg : g < 256) (hh : h < 256) :
    st1 (dig [a, b, c, d, e, f, g, h]) = dig [f1 a, f1 b, f1 c, f1 d, f1 e, f1 f, f1 g, f1 h] := by
  unfold st1
  have h2 : dig [a, b, c, d, e, f, g, h] / 2 = dig [a / 2 + 128 * (b % 2), b / 2 + 128 * (c % 2), c / 2 + 128 * (d % 2), d / 2 + 128 * (e % 2), e / 2 + 128 * (f % 2), f / 2 + 128 * (g % 2), g / 2 + 128 * (h % 2), h / 2 + 128 * 0] := by simp only [dig]; omega
  rw [h2, and8 (m := 85) (M := 6148914691236517205) rfl (by decide) (by omega) (by omega) (by omega) (by omega) (by omega) (by omega) (by omega) (by omega), and8 (m := 85) (M := 6148914691236517205) rfl (by decide) ha hb hc hd he hf hg hh]
  rw [f1_c a ha _ (by omega), f1_c b hb _ (by omega), f1_c c hc _ (by omega), f1_c d hd _ (by omega), f1_c e he _ (by omega), f1_c f hf _ (by omega), f1_c g hg _ (by omega), f1_c h hh _ (by omega)]
  simp only [dig, f1]
  omega
theorem st2_dig {a b c d e f g h : Nat} (ha : a < 256) (hb : b < 256) (hc : c < 256) (hd : d < 256) (he : e < 256) (hf : f < 256) (hg : g < 256) (hh : h < 256) :
    st2 (dig [a, b, c, d, e, f, g, h]) = dig [f2 a, f2 b, f2 c, f2 d, f2 e, f2 f, f2 g, f2 h] := by
  unfold st2
  have h2 : dig [a, b, c, d, e, f, g, h] / 4 = dig [a / 4 + 64 * (b % 4), b / 4 + 64 * (c % 4), c / 4 + 64 * (d % 4), d / 4 + 64 * (e % 4), e / 4 + 64 * (f % 4), f / 4 + 64 * (g % 4), g / 4 + 64 * (h % 4), h / 4 + 64 * 0] := by simp only [dig]; omega
  rw [h2, and8 (m := 51) (M := 3689348814741910323) rfl (by decide) (by omega) (by omega) (by omega) (by omega) (by omega) (by omega) (by omega) (by omega), and8 (m := 51) (M := 3689348814741910323) rfl (by decide) ha hb hc hd he hf hg hh]
  rw [f2_c a ha _ (by omega), f2_c b hb _ (by omega), f2_c c hc _ (by omega), f2_c d hd _ (by omega), f2_c e he _ (by omega), f2_c f hf _ (by omega), f2_c g hg _ (by omega), f2_c h hh _ (by omega)]
  simp only [dig, f2]
  omega
theorem st3_dig {a b c d e f g h : Nat} (ha : a ≤ 68 ∧ a % 16 ≤ 4) (hb : b ≤ 68 ∧ b % 16 ≤ 4) (hc : c ≤ 68 ∧ c % 16 ≤ 4) (hd : d ≤ 68 ∧ d % 16 ≤ 4) (he : e ≤ 68 ∧ e % 16 ≤ 4) (hf : f ≤ 68 ∧ f % 16 ≤ 4) (hg : g ≤ 68 ∧ g % 16 ≤ 4) (hh : h ≤ 68 ∧ h % 16 ≤ 4) :
    st3 (dig [a, b, c, d, e, f, g, h]) = dig [f3 a, f3 b, f3 c, f3 d, f3 e, f3 f, f3 g, f3 h] := by
  unfold st3
  have h2 : dig [a, b, c, d, e, f, g, h] / 16 + dig [a, b, c, d, e, f, g, h] = dig [a / 16 + 16 * (b % 16) + a, b / 16 + 16 * (c % 16) + b, c / 16 + 16 * (d % 16) + c, d / 16 + 16 * (e % 16) + d, e / 16 + 16 * (f % 16) + e, f / 16 + 16 * (g % 16) + f, g / 16 + 16 * (h % 16) + g, h / 16 + 16 * 0 + h] := by simp only [dig]; omega
  rw [h2, and8 (m := 15) (M := 1085102592571150095) rfl (by decide) (by omega) (by omega) (by omega) (by omega) (by omega) (by omega) (by omega) (by omega)]
  rw [f3_c a (by omega) _ (by omega), f3_c b (by omega) _ (by omega), f3_c c (by omega) _ (by omega), f3_c d (by omega) _ (by omega), f3_c e (by omega) _ (by omega), f3_c f (by omega) _ (by omega), f3_c g (by omega) _ (by omega), f3_c h (by omega) _ (by omega)]
  rfl
def st4 (x : Nat) : Nat := x + x / 256
def st5 (x : Nat) : Nat := x + x / 65536
def st6 (x : Nat) : Nat := x + x / 4294967296
theorem dig_pop {a b c d e f g h : Nat} (ha : a < 256) (hb : b < 256) (hc : c < 256) (hd : d < 256) (he : e < 256) (hf : f < 256) (hg : g < 256) (hh : h < 256) :
    cnt (dig [a, b, c, d, e, f, g, h]) 64 = pop8 a + pop8 b + pop8 c + pop8 d + pop8 e + pop8 f + pop8 g + pop8 h := by
  rw [cnt64]
  simp only [dig]
  congr 1; congr 1; congr 1; congr 1; congr 1; congr 1; congr 1
  all_goals (congr 1; omega)
theorem dig_lt {a b c d e f g h : Nat} (ha : a < 256) (hb : b < 256) (hc : c < 256) (hd : d < 256) (he : e < 256) (hf : f < 256) (hg : g < 256) (hh : h < 256) : dig [a, b, c, d, e, f, g, h] < 2 ^ 64 := by
  have e7 : dig [h] ≤ 255 := by show h + 256 * 0 ≤ _; omega
  have e6 : dig [g, h] ≤ 65535 := by show g + 256 * dig [h] ≤ _; omega
  have e5 : dig [f, g, h] ≤ 16777215 := by show f + 256 * dig [g, h] ≤ _; omega
  have e4 : dig [e, f, g, h] ≤ 4294967295 := by show e + 256 * dig [f, g, h] ≤ _; omega
  have e3 : dig [d, e, f, g, h] ≤ 1099511627775 := by show d + 256 * dig [e, f, g, h] ≤ _; omega
  have e2 : dig [c, d, e, f, g, h] ≤ 281474976710655 := by show c + 256 * dig [d, e, f, g, h] ≤ _; omega
  have e1 : dig [b, c, d, e, f, g, h] ≤ 72057594037927935 := by show b + 256 * dig [c, d, e, f, g, h] ≤ _; omega
  have e0 : dig [a, b, c, d, e, f, g, h] ≤ 18446744073709551615 := by show a + 256 * dig [b, c, d, e, f, g, h] ≤ _; omega
  omega
theorem dig_63 {a b c d e f g h : Nat} (ha : a < 256) (hb : b < 256) (hc : c < 256) (hd : d < 256) (he : e < 256) (hf : f < 256) (hg : g < 256) (hh : h < 128) : dig [a, b, c, d, e, f, g, h] < 2 ^ 63 := by
  have e7 : dig [h] ≤ 127 := by show h + 256 * 0 ≤ _; omega
  have e6 : dig [g, h] ≤ 32767 := by show g + 256 * dig [h] ≤ _; omega
  have e5 : dig [f, g, h] ≤ 8388607 := by show f + 256 * dig [g, h] ≤ _; omega
  have e4 : dig [e, f, g, h] ≤ 2147483647 := by show e + 256 * dig [f, g, h] ≤ _; omega
  have e3 : dig [d, e, f, g, h] ≤ 549755813887 := by show d + 256 * dig [e, f, g, h] ≤ _; omega
  have e2 : dig [c, d, e, f, g, h] ≤ 140737488355327 := by show c + 256 * dig [d, e, f, g, h] ≤ _; omega
  have e1 : dig [b, c, d, e, f, g, h] ≤ 36028797018963967 := by show b + 256 * dig [c, d, e, f, g, h] ≤ _; omega
  have e0 : dig [a, b, c, d, e, f, g, h] ≤ 9223372036854775807 := by show a + 256 * dig [b, c, d, e, f, g, h] ≤ _; omega
  omega
theorem dig_68 {a b c d e f g h : Nat} (ha : a ≤ 68) (hb : b ≤ 68) (hc : c ≤ 68) (hd : d ≤ 68) (he : e ≤ 68) (hf : f ≤ 68) (hg : g ≤ 68) (hh : h ≤ 68) : dig [a, b, c, d, e, f, g, h] / 16 + dig [a, b, c, d, e, f, g, h] < 2 ^ 64 := by
  have e7 : dig [h] ≤ 68 := by show h + 256 * 0 ≤ _; omega
  have e6 : dig [g, h] ≤ 17476 := by show g + 256 * dig [h] ≤ _; omega
  have e5 : dig [f, g, h] ≤ 4473924 := by show f + 256 * dig [g, h] ≤ _; omega
  have e4 : dig [e, f, g, h] ≤ 1145324612 := by show e + 256 * dig [f, g, h] ≤ _; omega
  have e3 : dig [d, e, f, g, h] ≤ 293203100740 := by show d + 256 * dig [e, f, g, h] ≤ _; omega
  have e2 : dig [c, d, e, f, g, h] ≤ 75059993789508 := by show c + 256 * dig [d, e, f, g, h] ≤ _; omega
  have e1 : dig [b, c, d, e, f, g, h] ≤ 19215358410114116 := by show b + 256 * dig [c, d, e, f, g, h] ≤ _; omega
  have e0 : dig [a, b, c, d, e, f, g, h] ≤ 4919131752989213764 := by show a + 256 * dig [b, c, d, e, f, g, h] ≤ _; omega
  omega
theorem dig_mod (a b c d e f g h : Nat) : dig [a, b, c, d, e, f, g, h] % 128 = a % 128 := by
  show (a + 256 * dig [b, c, d, e, f, g, h]) % 128 = a % 128
  generalize dig [b, c, d, e, f, g, h] = y
  omega
theorem dig_div1 {a r : Nat} (ha : a < 256) : (a + 256 * r) / 256 = r := by omega
theorem dig_div2 {a b r : Nat} (ha : a < 256) (hb : b < 256) : (a + 256 * (b + 256 * r)) / 65536 = r := by omega
theorem dig_div4 {a b c d r : Nat} (ha : a < 256) (hb : b < 256) (hc : c < 256) (hd : d < 256) : (a + 256 * (b + 256 * (c + 256 * (d + 256 * r)))) / 4294967296 = r := by omega
theorem st4_dig (a b c d e f g h : Nat) (ha : a < 256) : st4 (dig [a, b, c, d, e, f, g, h]) = dig [a + b, b + c, c + d, d + e, e + f, f + g, g + h, h] := by
  simp only [st4, dig]
  rw [dig_div1 ha]
  omega
theorem st5_dig (a b c d e f g h : Nat) (ha : a < 256) (hb : b < 256) : st5 (dig [a, b, c, d, e, f, g, h]) = dig [a + c, b + d, c + e, d + f, e + g, f + h, g, h] := by
  simp only [st5, dig]
  rw [dig_div2 ha hb]
  omega
theorem st6_dig (a b c d e f g h : Nat) (ha : a < 256) (hb : b < 256) (hc : c < 256) (hd : d < 256) : st6 (dig [a, b, c, d, e, f, g, h]) = dig [a + e, b + f, c + g, d + h, e, f, g, h] := by
  simp only [st6, dig]
  rw [dig_div4 ha hb hc hd]
  omega
theorem pop_right (x : Nat) (hx : x < 2 ^ 64) : st1 x < 2 ^ 64 ∧ st2 (st1 x) < 2 ^ 64 ∧ st2 (st1 x) / 16 + st2 (st1 x) < 2 ^ 64 ∧ st3 (st2 (st1 x)) < 2 ^ 64 ∧ st4 (st3 (st2 (st1 x))) < 2 ^ 64 ∧ st5 (st4 (st3 (st2 (st1 x)))) < 2 ^ 64 ∧
    st6 (st5 (st4 (st3 (st2 (st1 x))))) < 2 ^ 63 ∧ st6 (st5 (st4 (st3 (st2 (st1 x))))) % 128 = cnt x 64 ∧ cnt x 64 ≤ 64 := by
  obtain ⟨a, b, c, d, e, f, g, h, ha, hb, hc, hd, he, hf, hg, hh, rfl⟩ := dig8 x hx
  rw [dig_pop ha hb hc hd he hf hg hh, st1_dig ha hb hc hd he hf hg hh, st2_dig (f1_lt a ha) (f1_lt b hb) (f1_lt c hc) (f1_lt d hd) (f1_lt e he) (f1_lt f hf) (f1_lt g hg) (f1_lt h hh),
    st3_dig (f21_lt a ha) (f21_lt b hb) (f21_lt c hc) (f21_lt d hd) (f21_lt e he) (f21_lt f hf) (f21_lt g hg) (f21_lt h hh), f321 a ha, f321 b hb, f321 c hc, f321 d hd, f321 e he, f321 f hf, f321 g hg, f321 h hh]
  have qa := pop8_le a ha; have qb := pop8_le b hb; have qc := pop8_le c hc; have qd := pop8_le d hd; have qe := pop8_le e he; have qf := pop8_le f hf; have qg := pop8_le g hg; have qh := pop8_le h hh
  have L1 := dig_lt (f1_lt a ha) (f1_lt b hb) (f1_lt c hc) (f1_lt d hd) (f1_lt e he) (f1_lt f hf) (f1_lt g hg) (f1_lt h hh)
  have L2 := dig_68 (f21_lt a ha).1 (f21_lt b hb).1 (f21_lt c hc).1 (f21_lt d hd).1 (f21_lt e he).1 (f21_lt f hf).1 (f21_lt g hg).1 (f21_lt h hh).1
  generalize pop8 a = pa at *; generalize pop8 b = pb at *; generalize pop8 c = pc at *; generalize pop8 d = pd at *; generalize pop8 e = pe at *; generalize pop8 f = pf at *; generalize pop8 g = pg at *; generalize pop8 h = ph at *
  refine ⟨L1, by omega, L2, ?_⟩
  clear L1 L2
  rw [st4_dig _ _ _ _ _ _ _ _ (by omega), st5_dig _ _ _ _ _ _ _ _ (by omega) (by omega), st6_dig _ _ _ _ _ _ _ _ (by omega) (by omega) (by omega) (by omega)]
  exact ⟨dig_lt (by omega) (by omega) (by omega) (by omega) (by omega) (by omega) (by omega) (by omega), dig_lt (by omega) (by omega) (by omega) (by omega) (by omega) (by omega) (by omega) (by omega), dig_lt (by omega) (by omega) (by omega) (by omega) (by omega) (by omega) (by omega) (by omega),
    dig_63 (by omega) (by omega) (by omega) (by omega) (by omega) (by omega) (by omega) (by omega), by rw [dig_mod]; omega, by omega⟩
theorem Does.as {P : Program} {n : Nat} {e : Env} {o : Oper} {φ : World → Prop} {v v' : Value} (h : Does P n e o φ v) (hv : v = v') : Does P n e o φ v' := hv ▸ h
theorem shr_nat (x k : Nat) (hk : k ≤ 64) : Value.int .u64 ((x : Int).fdiv (2 ^ (min ((k : Int)).toNat IntKind.u64.bits))) = .int .u64 ((x / 2 ^ k : Nat) : Int) := by
  have h64 : IntKind.u64.bits = 64 := rfl
  rw [h64, Int.toNat_natCast, Nat.min_eq_left hk, Int.fdiv_eq_ediv_of_nonneg _ (by exact Int.le_of_lt (Int.pow_pos (by decide)))]
  congr 1
theorem add_nat (x y z : Nat) (hz : x + y = z) (h : z < 2 ^ 64) : Value.int .u64 (IntKind.u64.wrap ((x : Int) + (y : Int))) = .int .u64 ((z : Nat) : Int) := vint (by rw [wrap_u64 (by omega)]; omega)
theorem and127 (x : Nat) (hx : x < 2 ^ 63) : bitv .and .i64 (x : Int) 127 = ((x % 128 : Nat) : Int) := by
  unfold bitv
  have e1 : (BitVec.ofInt IntKind.i64.bits (x : Int)).toNat = x := by simp [IntKind.bits]; omega
  have e2 : (BitVec.ofInt IntKind.i64.bits (127 : Int)).toNat = 127 := rfl
  simp only [BitVec.toNat_and, e1, e2]
  rw [show (127 : Nat) = 2 ^ 7 - 1 from rfl, Nat.and_two_pow_sub_one_eq_mod]
  exact wrap_i64 (by omega)
theorem ones_c (x : Nat) (hx : x < 2 ^ 64) (w : World) : Calls P 113 #[.int .u64 (x : Int)] w (Ret fun v w' => v = .int .i64 ((cnt x 64 : Nat) : Int) ∧ w' = w) := by
  obtain ⟨h1, h2, h3, h4, h5, h6, h7, h8, h9⟩ := pop_right x hx
  obtain ⟨u1, eu1⟩ : ∃ u : Nat, u = x / 2 ^ 1 := ⟨_, rfl⟩
  obtain ⟨u2, eu2⟩ : ∃ u : Nat, u = u1 &&& 6148914691236517205 := ⟨_, rfl⟩
  obtain ⟨u3, eu3⟩ : ∃ u : Nat, u = x &&& 6148914691236517205 := ⟨_, rfl⟩
  obtain ⟨y1, ey1⟩ : ∃ u : Nat, u = u2 + u3 := ⟨_, rfl⟩
  obtain ⟨u4, eu4⟩ : ∃ u : Nat, u = y1 / 2 ^ 2 := ⟨_, rfl⟩
  obtain ⟨u5, eu5⟩ : ∃ u : Nat, u = u4 &&& 3689348814741910323 := ⟨_, rfl⟩
  obtain ⟨u6, eu6⟩ : ∃ u : Nat, u = y1 &&& 3689348814741910323 := ⟨_, rfl⟩
  obtain ⟨y2, ey2⟩ : ∃ u : Nat, u = u5 + u6 := ⟨_, rfl⟩
  obtain ⟨u7, eu7⟩ : ∃ u : Nat, u = y2 / 2 ^ 4 := ⟨_, rfl⟩
  obtain ⟨u8, eu8⟩ : ∃ u : Nat, u = u7 + y2 := ⟨_, rfl⟩
  obtain ⟨y3, ey3⟩ : ∃ u : Nat, u = u8 &&& 1085102592571150095 := ⟨_, rfl⟩
  obtain ⟨u9, eu9⟩ : ∃ u : Nat, u = y3 / 2 ^ 8 := ⟨_, rfl⟩
  obtain ⟨y4, ey4⟩ : ∃ u : Nat, u = y3 + u9 := ⟨_, rfl⟩
  obtain ⟨u10, eu10⟩ : ∃ u : Nat, u = y4 / 2 ^ 16 := ⟨_, rfl⟩
  obtain ⟨y5, ey5⟩ : ∃ u : Nat, u = y4 + u10 := ⟨_, rfl⟩
  obtain ⟨u11, eu11⟩ : ∃ u : Nat, u = y5 / 2 ^ 32 := ⟨_, rfl⟩
  obtain ⟨y6, ey6⟩ : ∃ u : Nat, u = y5 + u11 := ⟨_, rfl⟩
  have q1 : y1 = st1 x := by rw [ey1, eu2, eu3, eu1]; rfl
  have q2 : y2 = st2 (st1 x) := by rw [← q1, ey2, eu5, eu6, eu4]; rfl
  have q8 : u8 = st2 (st1 x) / 16 + st2 (st1 x) := by rw [← q2, eu8, eu7]
  have q3 : y3 = st3 (st2 (st1 x)) := by rw [← q2, ey3, eu8, eu7]; rfl
  have q4 : y4 = st4 (st3 (st2 (st1 x))) := by rw [← q3, ey4, eu9]; rfl
  have q5 : y5 = st5 (st4 (st3 (st2 (st1 x)))) := by rw [← q4, ey5, eu10]; rfl
  have q6 : y6 = st6 (st5 (st4 (st3 (st2 (st1 x))))) := by rw [← q5, ey6, eu11]; rfl
  rw [← q1] at h1
  rw [← q2] at h2
  rw [← q8] at h3
  rw [← q3] at h4
  rw [← q4] at h5
  rw [← q5] at h6
  rw [← q6] at h7 h8
  have s4 : Value.int .u64 ((x : Int).fdiv (2 ^ (min ((1 : Int)).toNat IntKind.u64.bits))) = .int .u64 (u1 : Int) := by rw [eu1]; exact shr_nat x 1 (by decide)
  have s5 : bitv .and .u64 (u1 : Int) 6148914691236517205 = (u2 : Int) := by rw [eu2]; exact bitv_and u1 6148914691236517205 (by rw [eu1]; omega) (by decide)
  have s7 : bitv .and .u64 (x : Int) 6148914691236517205 = (u3 : Int) := by rw [eu3]; exact bitv_and x 6148914691236517205 hx (by decide)
  have s8 : Value.int .u64 (IntKind.u64.wrap ((u2 : Int) + (u3 : Int))) = .int .u64 (y1 : Int) := add_nat _ _ y1 ey1.symm (by omega)
  have s10 : Value.int .u64 ((y1 : Int).fdiv (2 ^ (min ((2 : Int)).toNat IntKind.u64.bits))) = .int .u64 (u4 : Int) := by rw [eu4]; exact shr_nat y1 2 (by decide)
  have s11 : bitv .and .u64 (u4 : Int) 3689348814741910323 = (u5 : Int) := by rw [eu5]; exact bitv_and u4 3689348814741910323 (by rw [eu4]; omega) (by decide)
  have s13 : bitv .and .u64 (y1 : Int) 3689348814741910323 = (u6 : Int) := by rw [eu6]; exact bitv_and y1 3689348814741910323 h1 (by decide)
  have s14 : Value.int .u64 (IntKind.u64.wrap ((u5 : Int) + (u6 : Int))) = .int .u64 (y2 : Int) := add_nat _ _ y2 ey2.symm (by omega)
  have s16 : Value.int .u64 ((y2 : Int).fdiv (2 ^ (min ((4 : Int)).toNat IntKind.u64.bits))) = .int .u64 (u7 : Int) := by rw [eu7]; exact shr_nat y2 4 (by decide)
  have s18 : Value.int .u64 (IntKind.u64.wrap ((u7 : Int) + (y2 : Int))) = .int .u64 (u8 : Int) := add_nat _ _ u8 eu8.symm (by omega)
  have s19 : bitv .and .u64 (u8 : Int) 1085102592571150095 = (y3 : Int) := by rw [ey3]; exact bitv_and u8 1085102592571150095 h3 (by decide)
  have s22 : Value.int .u64 ((y3 : Int).fdiv (2 ^ (min ((8 : Int)).toNat IntKind.u64.bits))) = .int .u64 (u9 : Int) := by rw [eu9]; exact shr_nat y3 8 (by decide)
  have s23 : Value.int .u64 (IntKind.u64.wrap ((y3 : Int) + (u9 : Int))) = .int .u64 (y4 : Int) := add_nat _ _ y4 ey4.symm (by omega)
  have s26 : Value.int .u64 ((y4 : Int).fdiv (2 ^ (min ((16 : Int)).toNat IntKind.u64.bits))) = .int .u64 (u10 : Int) := by rw [eu10]; exact shr_nat y4 16 (by decide)
  have s27 : Value.int .u64 (IntKind.u64.wrap ((y4 : Int) + (u10 : Int))) = .int .u64 (y5 : Int) := add_nat _ _ y5 ey5.symm (by omega)
  have s30 : Value.int .u64 ((y5 : Int).fdiv (2 ^ (min ((32 : Int)).toNat IntKind.u64.bits))) = .int .u64 (u11 : Int) := by rw [eu11]; exact shr_nat y5 32 (by decide)
  have s31 : Value.int .u64 (IntKind.u64.wrap ((y5 : Int) + (u11 : Int))) = .int .u64 (y6 : Int) := add_nat _ _ y6 ey6.symm (by omega)
  have s34 : bitv .and .i64 (y6 : Int) 127 = ((cnt x 64 : Nat) : Int) := by rw [and127 _ h7, h8]
  clear h1 h2 h3 h4 h5 h6 h8 h9 q1 q2 q3 q4 q5 q6 q8 eu1 eu2 eu3 ey1 eu4 eu5 eu6 ey2 eu7 eu8 ey3 eu9 ey4 eu10 ey5 eu11 ey6
  refine enter Tryz.func113 rfl rfl ?_
  refine EW.seq ?_
  refine EW.reg ?_
  refine EP.o rfl (Does.assign rfl) ?_
  refine EP.nil ?_
  refine EW.seq ?_
  refine EW.reg ?_
  refine EP.o rfl (Does.move rfl) ?_
  refine EP.o rfl (Does.as (Does.shr rfl rfl (by decide)) s4) ?_
  refine EP.o rfl (Does.as (Does.bits rfl rfl rfl) (vint s5)) ?_
  refine EP.o rfl (Does.move rfl) ?_
  refine EP.o rfl (Does.as (Does.bits rfl rfl rfl) (vint s7)) ?_
  refine EP.o rfl (Does.as (Does.add rfl rfl) s8) ?_
  refine EP.o rfl (Does.assign rfl) ?_
  refine EP.nil ?_
  refine EW.seq ?_
  refine EW.reg ?_
  refine EP.o rfl (Does.move rfl) ?_
  refine EP.o rfl (Does.as (Does.shr rfl rfl (by decide)) s10) ?_
  refine EP.o rfl (Does.as (Does.bits rfl rfl rfl) (vint s11)) ?_
  refine EP.o rfl (Does.move rfl) ?_
  refine EP.o rfl (Does.as (Does.bits rfl rfl rfl) (vint s13)) ?_
  refine EP.o rfl (Does.as (Does.add rfl rfl) s14) ?_
  refine EP.o rfl (Does.assign rfl) ?_
  refine EP.nil ?_
  refine EW.seq ?_
  refine EW.reg ?_
  refine EP.o rfl (Does.move rfl) ?_
  refine EP.o rfl (Does.as (Does.shr rfl rfl (by decide)) s16) ?_
  refine EP.o rfl (Does.move rfl) ?_
  refine EP.o rfl (Does.as (Does.add rfl rfl) s18) ?_
  refine EP.o rfl (Does.as (Does.bits rfl rfl rfl) (vint s19)) ?_
  refine EP.o rfl (Does.assign rfl) ?_
  refine EP.nil ?_
  refine EW.seq ?_
  refine EW.reg ?_
  refine EP.o rfl (Does.move rfl) ?_
  refine EP.o rfl (Does.move rfl) ?_
  refine EP.o rfl (Does.as (Does.shr rfl rfl (by decide)) s22) ?_
  refine EP.o rfl (Does.as (Does.add rfl rfl) s23) ?_
  refine EP.o rfl (Does.assign rfl) ?_
  refine EP.nil ?_
  refine EW.seq ?_
  refine EW.reg ?_
  refine EP.o rfl (Does.move rfl) ?_
  refine EP.o rfl (Does.move rfl) ?_
  refine EP.o rfl (Does.as (Does.shr rfl rfl (by decide)) s26) ?_
  refine EP.o rfl (Does.as (Does.add rfl rfl) s27) ?_
  refine EP.o rfl (Does.assign rfl) ?_
  refine EP.nil ?_
  refine EW.seq ?_
  refine EW.reg ?_
  refine EP.o rfl (Does.move rfl) ?_
  refine EP.o rfl (Does.move rfl) ?_
  refine EP.o rfl (Does.as (Does.shr rfl rfl (by decide)) s30) ?_
  refine EP.o rfl (Does.as (Does.add rfl rfl) s31) ?_
  refine EP.o rfl (Does.assign rfl) ?_
  refine EP.nil ?_
  refine EW.seq ?_
  refine EW.reg ?_
  refine EP.o rfl (Does.move rfl) ?_
  refine EP.o rfl (Does.as (Does.conv kn68 Tryz.underlying3 rfl) (show Value.int .i64 (IntKind.i64.wrap (y6 : Int)) = .int .i64 (y6 : Int) from vint (wrap_i64 (by omega)))) ?_
  refine EP.o rfl (Does.as (Does.bits rfl rfl rfl) (vint s34)) ?_
  refine EP.o rfl (Does.assign rfl) ?_
  refine EP.nil ?_
  refine EW.ret ?_
  refine Fin.one rfl rfl ?_
  exact ⟨rfl, rfl⟩
theorem wd_nat (s i : Nat) : wd s i = ((wdN s i : Nat) : Int) := rfl
theorem count_c (s : Nat) (w : World) : Calls P 83 #[.agg (setCells s).toArray] w (Ret fun v w' => v = .int .i64 ((countS s : Nat) : Int) ∧ Chg [] w w') := by
  have h := count_c_ s w (fun i => cnt (wdN s i) 64) (fun i _ w => ones_c (wdN s i) (Nat.mod_lt _ (by decide)) w) (fun i _ => (pop_right (wdN s i) (Nat.mod_lt _ (by decide))).2.2.2.2.2.2.2.2)
  rw [countS_words]
  exact h
end Go.Clt
end
section
set_option linter.unusedVariables false
set_option linter.unusedSimpArgs false
set_option maxRecDepth 8000
namespace Go.Clt
open Go Go.RowKit Go.Proofs
structure Laid (w : World) : Prop where
  sz : 4 ≤ w.heap.size
  t64 : ∀ j, j < 64 → w.cell? ⟨0, j, none⟩ = some (.int .u8 (Lib.deBruijn64tab.getD j 0 : Nat))
  p10 : ∀ j, j < 20 → w.cell? ⟨1, j, none⟩ = some (.int .u64 ((10 ^ j : Nat) : Int))
theorem Laid.chg {S : List Nat} {w w' : World} (h : Laid w) (k : Chg S w w') (hS : ∀ b ∈ S, 4 ≤ b) : Laid w' :=
  have n0 : 0 ∉ S := fun h0 => by have := hS 0 h0; omega
  have n1 : 1 ∉ S := fun h0 => by have := hS 1 h0; omega
  ⟨Nat.le_trans h.sz k.size, fun j hj => k.cell n0 (h.t64 j hj), fun j hj => k.cell n1 (h.p10 j hj)⟩
theorem Laid.chg0 {w w' : World} (h : Laid w) (k : Chg [] w w') : Laid w' := h.chg k (fun b hb => by cases hb)
theorem first_is {s n : Nat} (hn : n < 256) (h1 : s.testBit n = true) (h2 : ∀ j, j < n → s.testBit j = false) : firstS s = n := by
  unfold firstS
  have : (List.range 256).find? (fun b => s.testBit b) = some n := by
    rw [List.find?_range_eq_some]
    exact ⟨h1, by simpa using hn, fun j hj => by rw [h2 j hj]; rfl⟩
  rw [this]; rfl
theorem ctz_bit {x : Nat} (h0 : x ≠ 0) (h : x < 2 ^ 64) : Lib.ctz 64 x < 64 ∧ x.testBit (Lib.ctz 64 x) = true ∧ ∀ j, j < Lib.ctz 64 x → x.testBit j = false := by
  obtain ⟨m, hm, hlt⟩ := Lib.ctzFrom_spec 64 x (Nat.pos_of_ne_zero h0) h
  unfold Lib.ctz
  rw [if_neg h0]
  generalize Lib.ctzFrom 64 x = c at hm hlt
  subst hm
  refine ⟨hlt, ?_, fun j hj => ?_⟩
  · rw [Nat.testBit_two_pow_mul]; simp
  · rw [Nat.testBit_two_pow_mul]; simp; omega
theorem wdN_bit (s k j : Nat) (hj : j < 64) : (wdN s k).testBit j = s.testBit (64 * k + j) := by
  unfold wdN
  rw [Nat.testBit_mod_two_pow, Nat.testBit_div_two_pow]
  simp [hj, Nat.add_comm]
theorem first_word {s k : Nat} (hk : k < 4) (hz : ∀ i, i < k → wdN s i = 0) (h0 : wdN s k ≠ 0) : firstS s = 64 * k + Lib.ctz 64 (wdN s k) := by
  obtain ⟨h1, h2, h3⟩ := ctz_bit h0 (Nat.mod_lt _ (by decide))
  refine first_is (by omega) (by rw [← wdN_bit s k _ h1]; exact h2) (fun j hj => ?_)
  rcases Nat.lt_or_ge j (64 * k) with h | h
  · have := wdN_bit s (j / 64) (j % 64) (Nat.mod_lt _ (by decide))
    rw [hz _ (by omega), show 64 * (j / 64) + j % 64 = j from by omega] at this
    rw [← this]; simp
  · have := wdN_bit s k (j - 64 * k) (by omega)
    rw [show 64 * k + (j - 64 * k) = j from by omega] at this
    rw [← this]
    exact h3 _ (by omega)
theorem wdN_ne {s k : Nat} (h : wdN s k ≠ 0) : s ≠ 0 := by
  intro h0; subst h0; apply h; unfold wdN; simp
theorem words_zero {s : Nat} (hs : SetOk s) (h : ∀ i, i < 4 → wdN s i = 0) : s = 0 :=
  set_ext hs zero_ok (fun i hi => by rw [wd_nat, h i hi]; unfold wd; simp)
theorem first_zero : firstS 0 = 0 := by decide +kernel
theorem tz_idx (x : Nat) (h0 : x ≠ 0) (hx : x < 2 ^ 64) : ∃ n a m i : Nat, (IntKind.u64.wrap (0 - (x : Int)) = (n : Int)) ∧ bitv .and .u64 (x : Int) (n : Int) = (a : Int) ∧ IntKind.u64.wrap ((a : Int) * 285870213051353865) = (m : Int) ∧
    Value.int .u64 ((m : Int).fdiv (2 ^ (min ((58 : Int)).toNat IntKind.u64.bits))) = .int .u64 (i : Int) ∧ i < 64 ∧ Lib.deBruijn64tab.getD i 0 = Lib.ctz 64 x ∧ Lib.ctz 64 x < 64 := by
  obtain ⟨hlow, hk⟩ := Lib.lowest_bit 64 x h0 hx
  obtain ⟨hi, htab⟩ := Lib.deBruijn64_at _ hk
  refine ⟨2 ^ 64 - x, 2 ^ Lib.ctz 64 x, 2 ^ Lib.ctz 64 x * 285870213051353865 % 18446744073709551616, _, ?_, ?_, ?_, ?_, hi, htab, hk⟩
  · rw [IntKind.wrap_u64]; omega
  · rw [bitv_and x (2 ^ 64 - x) hx (by omega), hlow]
  · rw [IntKind.wrap_u64]; omega
  · exact shr_nat _ 58 (by decide)
theorem tz_c (x : Nat) (hx : x < 2 ^ 64) (h0 : x ≠ 0) (w : World) (hL : Laid w) : Calls P 104 #[.int .u64 (x : Int)] w (Ret fun v w' => v = .int .i64 ((Lib.ctz 64 x : Nat) : Int) ∧ w' = w) := by
  obtain ⟨n, a, m, i, s7, s8, s9, s10, hi, htab, hlt⟩ := tz_idx x h0 hx
  have hcell := hL.t64 i hi
  rw [htab] at hcell
  rw [← s7] at s8
  refine enter Tryz.func104 rfl rfl ?_
  refine EW.seq ?_
  refine EW.reg ?_
  refine EP.o rfl (Does.assign rfl) ?_
  refine EP.nil ?_
  refine EW.seq ?_
  refine EW.seq ?_
  refine EW.reg ?_
  refine EP.o rfl (Does.move rfl) ?_
  refine EP.o rfl (Does.cmp rfl rfl rfl) ?_
  refine EP.nil ?_
  refine EW.cond rfl (fun hc => ?_) (fun hc => ?_)
  · try simp at hc
    omega
  · try simp at hc
    refine EW.skip ?_
    refine EW.seq ?_
    refine EW.reg ?_
    refine EP.o rfl (Does.move rfl) ?_
    refine EP.o rfl (Does.move rfl) ?_
    refine EP.o rfl (Does.neg rfl) ?_
    refine EP.o rfl (Does.as (Does.bits rfl rfl rfl) (vint s8)) ?_
    refine EP.o rfl (Does.as (Does.mul rfl rfl) (vint s9)) ?_
    refine EP.o rfl (Does.as (Does.shr rfl rfl (by decide)) s10) ?_
    refine EP.o rfl (Does.indexAddrA1 ar226 rfl rfl (by omega) (by omega)) ?_
    refine EP.o rfl (Does.load1 o5 rfl (Keeps.now _) (by rw [Nat.zero_add]; exact hcell)) ?_
    refine EP.o rfl (Does.convw kn5 Tryz.underlying3 rfl (by exact wrap_i64 (by omega))) ?_
    refine EP.o rfl (Does.assign rfl) ?_
    refine EP.nil ?_
    refine EW.ret ?_
    refine Fin.one rfl rfl ?_
    exact ⟨rfl, rfl⟩
theorem first_c (s : Nat) (hs : SetOk s) (w : World) (hL : Laid w) : Calls P 74 #[.agg (setCells s).toArray] w (Ret fun v w' => v = .tuple #[.int .u8 ((firstS s : Nat) : Int), .bool (decide (s ≠ 0))] ∧ Chg [] w w') := by
  have hC := Chg.refl [] w
  refine enter Tryz.func74 rfl rfl ?_
  refine EW.seq ?_
  refine EW.reg ?_
  refine EP.new2 rfl (News.box rfl rfl) ?_
  intro b1 w1 hb1 hs1 hx1 hB1
  have hz1 := hx1.size
  replace hC := hC.step0 hx1
  replace hL := hL.chg0 hx1
  refine EP.o rfl (Does.assign rfl) ?_
  refine EP.o rfl (Does.assign rfl) ?_
  refine EP.nil ?_
  refine EW.seq ?_
  refine EW.seq ?_
  refine EW.reg ?_
  refine EP.o rfl (Does.loadA ag70 rfl (Keeps.now _) (by assumption) (by simp only [List.take, List.drop, List.append, List.cons_append, List.nil_append]; rfl) rfl) ?_
  refine EP.o rfl (Does.move rfl) ?_
  refine EP.nil ?_
  refine EW.block ?_
  refine EW.loop (σ := Nat) (fun k => [(6, .agg (setCells s).toArray), (7, .int .i64 k)]) (fun k wr => Chg [] w wr ∧ Laid wr ∧ k ≤ 4 ∧ (∀ i, i < k → wdN s i = 0)) (fun k wr => 4 - k) 0 ⟨rfl, rfl, trivial⟩ ?_ ?_
  · exact ⟨hC, hL, by omega, fun i hi => by omega⟩
  rintro k w9 ⟨hC, hL, hk, hz⟩
  try have hzw := hC.size
  refine EW.seq ?_
  refine EW.reg ?_
  refine EP.o rfl (Does.cmp rfl rfl rfl) ?_
  refine EP.nil ?_
  refine EW.seq ?_
  refine EW.cond rfl (fun hc => ?_) (fun hc => ?_)
  · try simp at hc
    refine EW.skip ?_
    refine EW.seq ?_
    refine EW.block ?_
    refine EW.seq ?_
    refine EW.reg ?_
    refine EP.o rfl (Does.move rfl) ?_
    refine EP.o rfl (Does.indexV ar70 (by kernel_rfl) rfl rfl (by omega) (by omega) (setCells_get s k (by omega))) ?_
    refine EP.o rfl (Does.assign rfl) ?_
    refine EP.o rfl (Does.assign rfl) ?_
    refine EP.nil ?_
    refine EW.seq ?_
    refine EW.reg ?_
    refine EP.o rfl (Does.move rfl) ?_
    refine EP.o rfl (Does.cmp rfl rfl rfl) ?_
    refine EP.nil ?_
    refine EW.cond rfl (fun hw => ?_) (fun hw => ?_)
    · try simp at hw
      have hw' : wdN s k ≠ 0 := fun h => by apply hw; rw [wd_nat, h]; rfl
      have hf := first_word (by omega) hz hw'
      have hlt := (ctz_bit hw' (Nat.mod_lt _ (by decide))).1
      refine EW.seq ?_
      refine EW.reg ?_
      refine EP.o rfl (Does.move rfl) ?_
      refine EP.o rfl (Does.muli rfl rfl (by omega)) ?_
      refine EP.o rfl (Does.move rfl) ?_
      refine EP.call2 rfl (Enters.fn fb104 rfl) (tz_c (wdN s k) (Nat.mod_lt _ (by decide)) hw' _ (by assumption)) ?_
      rintro _ _ ⟨rfl, rfl⟩
      refine EP.o rfl (Does.addi rfl rfl (by omega)) ?_
      refine EP.o rfl (Does.convw kn3 Tryz.underlying5 rfl (by exact wrap_u8 (by omega))) ?_
      refine EP.o rfl (Does.assign rfl) ?_
      refine EP.o rfl (Does.assign rfl) ?_
      refine EP.nil ?_
      refine EW.ret ?_
      refine Fin.two rfl rfl rfl ?_
      exact ⟨by rw [hf, decide_eq_true (wdN_ne hw')]; rfl, hC⟩
    · try simp at hw
      refine EW.skip ?_
      refine EW.reg ?_
      refine EP.o rfl (Does.addi rfl rfl (by omega)) ?_
      refine EP.o rfl (Does.move rfl) ?_
      refine EP.nil ?_
      refine ⟨k + 1, ⟨rfl, rfl, trivial⟩, ?_, ?_⟩
      refine ⟨hC, hL, by omega, fun i hi => ?_⟩
      by_cases hik : i = k
      · subst hik; rw [wd_nat] at hw; omega
      · exact hz i (by omega)
      omega
  · try simp at hc
    refine EW.exit (brk_here ?_)
    refine EW.seq ?_
    refine EW.reg ?_
    refine EP.o rfl (Does.assign rfl) ?_
    refine EP.o rfl (Does.assign rfl) ?_
    refine EP.nil ?_
    refine EW.ret ?_
    refine Fin.two rfl rfl rfl ?_
    have : s = 0 := words_zero hs (fun i hi => hz i (by omega))
    subst this
    exact ⟨by rw [first_zero]; rfl, hC⟩
end Go.Clt
end
section
set_option linter.unusedVariables false
set_option linter.unusedSimpArgs false
set_option maxRecDepth 4000
namespace Go.Clt
set_option maxHeartbeats 2000000
open Go Go.RowKit Go.Proofs
theorem wu8 (x : Int) : IntKind.u8.wrap x = x % 256 := by unfold IntKind.wrap; simp [IntKind.bits, IntKind.signed]
theorem escape_c (s : ByteArray) (p : Ps) (sl : Value) (b : Nat) (w : World) (hs : s.size ≤ 1048576) (hp : p.i < s.size) (hR : Blk w b (rdC s p sl) 239) : Calls P 175 #[.pointer (some ⟨b, 0, none⟩)] w (Ret fun v w' => v = .agg (setCells (escapeP (strL s) p).1).toArray ∧ Chg [b] w w' ∧ Blk w' b (rdC s (escapeP (strL s) p).2 sl) 239) := by
  have hC := Chg.refl [b] w
  have hlt := peekC_lt s (p.go 1)
  have hle : (strL s).length = s.size := strL_length s
  have hgo : (p.go 1).i = p.i + 1 := rfl
  try have hlR := hR.lt
  refine enter Tryz.func175 rfl rfl ?_
  refine EW.seq ?_
  refine EW.reg ?_
  refine EP.new2 rfl (News.alloc zr70 rfl) ?_
  intro b1 w1 hb1 hs1 hx1 hB1
  have hz1 := hx1.size
  replace hC := hC.step0 hx1
  replace hR := hR.chg0 hx1
  refine EP.nil ?_
  refine EW.seq ?_
  refine EW.reg ?_
  refine EP.o rfl (Does.move rfl) ?_
  refine EP.o rfl (Does.nilCheck rfl) ?_
  refine EP.o rfl (Does.fieldAddr fl239_0 rfl) ?_
  refine EP.o rfl (Does.fieldAddr fl237_1 rfl) ?_
  refine EP.o rfl (Does.loadB o3 rfl (Keeps.now _) (by assumption) (by rfl)) ?_
  refine EP.o rfl (Does.assign rfl) ?_
  refine EP.nil ?_
  refine EW.seq ?_
  refine EW.reg ?_
  refine EP.o rfl (Does.move rfl) ?_
  refine EP.o rfl (Does.nilCheck rfl) ?_
  refine EP.o rfl (Does.fieldAddr fl239_0 rfl) ?_
  refine EP.o rfl (Does.fieldAddr fl237_1 rfl) ?_
  refine EP.o rfl (Does.loadB o3 rfl (Keeps.now _) (by assumption) (by rfl)) ?_
  refine EP.o rfl (Does.addi rfl rfl (by omega)) ?_
  refine EP.o rfl (Does.nilCheck rfl) ?_
  refine EP.o rfl (Does.fieldAddr fl239_0 rfl) ?_
  refine EP.o rfl (Does.fieldAddr fl237_1 rfl) ?_
  refine EP.put2 (Puts.blk sz3 rfl rfl (by assumption) rfl rfl rfl rfl (by simp only [List.take, List.drop, List.append, List.cons_append, List.nil_append]; rfl)) ?_
  intro w2 hs2 hx2 hB2
  have hz2 := hx2.size
  replace hC := hC.step hx2 (by first | (simp; done) | (simp; omega))
  replace hB1 := hB1.chg hx2 (by simp; omega)
  clear hR; have hR := hB2; clear hB2
  refine EP.nil ?_
  refine EW.seq ?_
  refine EW.reg ?_
  refine EP.o rfl (Does.move rfl) ?_
  refine EP.o rfl (Does.nilCheck rfl) ?_
  refine EP.o rfl (Does.fieldAddr fl239_0 rfl) ?_
  refine EP.call2 rfl (Enters.fn fb202 rfl) (peek_c s (p.go 1) sl b _ (by assumption)) ?_
  rintro _ w3 ⟨rfl, hx3⟩
  have hz3 := hx3.size
  replace hC := hC.step0 hx3
  replace hR := hR.chg0 hx3
  replace hB1 := hB1.chg0 hx3
  refine EP.o rfl (Does.move rfl) ?_
  refine EP.o rfl (Does.extract rfl rfl) ?_
  refine EP.o rfl (Does.extract rfl rfl) ?_
  refine EP.o rfl (Does.assign rfl) ?_
  refine EP.o rfl (Does.assign rfl) ?_
  refine EP.nil ?_
  refine EW.seq ?_
  refine EW.reg ?_
  refine EP.o rfl (Does.move rfl) ?_
  refine EP.call2 rfl (Enters.fn fb203 rfl) (named_c (peekC (strL s) (p.go 1)) hlt _) ?_
  rintro _ w4 ⟨rfl, hx4⟩
  have hz4 := hx4.size
  replace hC := hC.step0 hx4
  replace hR := hR.chg0 hx4
  replace hB1 := hB1.chg0 hx4
  refine EP.o rfl (Does.move rfl) ?_
  refine EP.o rfl (Does.extract rfl rfl) ?_
  refine EP.o rfl (Does.extract rfl rfl) ?_
  refine EP.new2 rfl (News.alloc zr70 rfl) ?_
  intro b5 w5 hb5 hs5 hx5 hB5
  have hz5 := hx5.size
  replace hC := hC.step0 hx5
  replace hR := hR.chg0 hx5
  replace hB1 := hB1.chg0 hx5
  refine EP.put2 (Puts.blk sz70 rfl rfl (by assumption) rfl rfl rfl rfl (by simp only [List.take, List.drop, List.append, List.cons_append, List.nil_append]; rfl)) ?_
  intro w6 hs6 hx6 hB6
  have hz6 := hx6.size
  replace hC := hC.step hx6 (by first | (simp; done) | (simp; omega))
  replace hR := hR.chg hx6 (by simp; omega)
  replace hB1 := hB1.chg hx6 (by simp; omega)
  clear hB5; have hB5 := hB6; clear hB6
  refine EP.o rfl (Does.assign rfl) ?_
  refine EP.nil ?_
  refine EW.seq ?_
  refine EW.block ?_
  refine EW.seq ?_
  refine EW.reg ?_
  refine EP.o rfl (Does.move rfl) ?_
  refine EP.o rfl (Does.not rfl) ?_
  refine EP.o rfl (Does.assign rfl) ?_
  refine EP.nil ?_
  refine EW.cond rfl (fun h1 => ?_) (fun h1 => ?_)
  · try simp at h1
    refine EW.drw' (S := []) 8 [(0, 0), (0, 1), (0, 2), (0, 3), (0, 4), (0, 5), (0, 6), (0, 7), (2, 8)] mo (by kernel_rfl) ?_
    intro w7 hx7 hh7
    have hz7 := hx7.size
    replace hC := hC.step0 hx7
    replace hR := hR.chg0 hx7
    replace hB1 := hB1.chg0 hx7
    replace hB5 := hB5.chg0 hx7
    refine EP.f rfl (Does.move rfl) ?_
    refine EP.f rfl (Does.nilCheck rfl) ?_
    refine EP.f rfl (Does.fieldAddr fl239_0 rfl) ?_
    refine EP.f rfl (Does.move rfl) ?_
    refine EP.f rfl (Does.nilCheck rfl) ?_
    refine EP.f rfl (Does.fieldAddr fl239_0 rfl) ?_
    refine EP.f rfl (Does.fieldAddr fl237_1 rfl) ?_
    refine EP.f rfl (Does.loadBc o3 rfl (by assumption) (by first | (simp; done) | (simp; omega)) (by rfl)) ?_
    refine EP.call2 rfl (Enters.fn fb180 rfl) (fail_c s (p.go 1) sl b (p.go 1).i 4 _ (by assumption)) ?_
    rintro _ w8 ⟨rfl, hx8, hR'⟩
    have hz8 := hx8.size
    replace hC := hC.step hx8 (by first | (simp; done) | (simp; omega))
    replace hB1 := hB1.chg hx8 (by simp; omega)
    replace hB5 := hB5.chg hx8 (by simp; omega)
    clear hR
    have hR := hR'; clear hR'
    refine EP.nil ?_
    refine EW.seq ?_
    refine EW.reg ?_
    refine EP.o rfl (Does.loadA ag70 rfl (Keeps.now _) (by assumption) (by simp only [List.take, List.drop, List.append, List.cons_append, List.nil_append]; rfl) rfl) ?_
    refine EP.put2 (Puts.blk sz70 rfl rfl (by assumption) rfl rfl rfl rfl (by simp only [List.take, List.drop, List.append, List.cons_append, List.nil_append]; rfl)) ?_
    intro w9 hs9 hx9 hB9
    have hz9 := hx9.size
    replace hC := hC.step hx9 (by first | (simp; done) | (simp; omega))
    replace hR := hR.chg hx9 (by simp; omega)
    replace hB5 := hB5.chg hx9 (by simp; omega)
    clear hB1; have hB1 := hB9; clear hB9
    refine EP.nil ?_
    refine EW.ret ?_
    refine Fin.cell rfl rfl (Blk.loadV ag70 (by assumption) (by simp only [List.take, List.drop, List.append, List.cons_append, List.nil_append]; rfl) rfl) ?_
    have hE : escapeP (strL s) p = (0, (p.go 1).fail (p.go 1).i 4) := by unfold escapeP; simp only []; rw [if_pos (by omega)]
    have h0 : namedP (peekC (strL s) (p.go 1)) = none := by rw [peek_out s _ (by omega)]; rfl
    exact ⟨by rw [hE, h0]; rfl, hC, by rw [hE]; exact hR⟩
  · try simp at h1
    refine EW.seq ?_
    refine EW.reg ?_
    refine EP.o rfl (Does.move rfl) ?_
    refine EP.call2 rfl (Enters.fn fb181 rfl) (ixb_c _ specialT _ (by rfl) hlt _) ?_
    rintro _ _ ⟨rfl, rfl⟩
    refine EP.o rfl (Does.cmp rfl rfl rfl) ?_
    refine EP.o rfl (Does.assign rfl) ?_
    refine EP.nil ?_
    refine EW.cond rfl (fun h2 => ?_) (fun h2 => ?_)
    · try simp at h2
      refine EW.seq ?_
      refine EW.reg ?_
      refine EP.o rfl (Does.move rfl) ?_
      refine EP.new2 rfl (News.buildL sl44 Tryz.underlying44 zr5 rfl rfl rfl (by rfl)) ?_
      intro b11 w11 hb11 hs11 hx11 hB11
      have hz11 := hx11.size
      replace hC := hC.step0 hx11
      replace hR := hR.chg0 hx11
      replace hB1 := hB1.chg0 hx11
      replace hB5 := hB5.chg0 hx11
      refine EP.call2 rfl (Enters.fn fb139 rfl) (of1_c _ _ _ _ _ (by assumption) (by omega) (by omega)) ?_
      rintro _ w12 ⟨rfl, hx12⟩
      have hz12 := hx12.size
      replace hC := hC.step0 hx12
      replace hR := hR.chg0 hx12
      replace hB1 := hB1.chg0 hx12
      replace hB5 := hB5.chg0 hx12
      replace hB11 := hB11.chg0 hx12
      refine EP.put2 (Puts.blk sz70 rfl rfl (by assumption) rfl rfl rfl rfl (by simp only [List.take, List.drop, List.append, List.cons_append, List.nil_append]; rfl)) ?_
      intro w13 hs13 hx13 hB13
      have hz13 := hx13.size
      replace hC := hC.step hx13 (by first | (simp; done) | (simp; omega))
      replace hR := hR.chg hx13 (by simp; omega)
      replace hB1 := hB1.chg hx13 (by simp; omega)
      replace hB11 := hB11.chg hx13 (by simp; omega)
      clear hB5; have hB5 := hB13; clear hB13
      refine EP.nil ?_
      refine EW.reg ?_
      refine EP.o rfl (Does.move rfl) ?_
      refine EP.o rfl (Does.nilCheck rfl) ?_
      refine EP.o rfl (Does.fieldAddr fl239_0 rfl) ?_
      refine EP.o rfl (Does.fieldAddr fl237_1 rfl) ?_
      refine EP.o rfl (Does.loadB o3 rfl (Keeps.now _) (by assumption) (by rfl)) ?_
      refine EP.o rfl (Does.addi rfl rfl (by omega)) ?_
      refine EP.o rfl (Does.nilCheck rfl) ?_
      refine EP.o rfl (Does.fieldAddr fl239_0 rfl) ?_
      refine EP.o rfl (Does.fieldAddr fl237_1 rfl) ?_
      refine EP.put2 (Puts.blk sz3 rfl rfl (by assumption) rfl rfl rfl rfl (by simp only [List.take, List.drop, List.append, List.cons_append, List.nil_append]; rfl)) ?_
      intro w14 hs14 hx14 hB14
      have hz14 := hx14.size
      replace hC := hC.step hx14 (by first | (simp; done) | (simp; omega))
      replace hB1 := hB1.chg hx14 (by simp; omega)
      replace hB5 := hB5.chg hx14 (by simp; omega)
      replace hB11 := hB11.chg hx14 (by simp; omega)
      clear hR; have hR := hB14; clear hB14
      refine EP.nil ?_
      refine EW.seq ?_
      refine EW.reg ?_
      refine EP.o rfl (Does.loadA ag70 rfl (Keeps.now _) (by assumption) (by simp only [List.take, List.drop, List.append, List.cons_append, List.nil_append]; rfl) rfl) ?_
      refine EP.put2 (Puts.blk sz70 rfl rfl (by assumption) rfl rfl rfl rfl (by simp only [List.take, List.drop, List.append, List.cons_append, List.nil_append]; rfl)) ?_
      intro w15 hs15 hx15 hB15
      have hz15 := hx15.size
      replace hC := hC.step hx15 (by first | (simp; done) | (simp; omega))
      replace hR := hR.chg hx15 (by simp; omega)
      replace hB5 := hB5.chg hx15 (by simp; omega)
      replace hB11 := hB11.chg hx15 (by simp; omega)
      clear hB1; have hB1 := hB15; clear hB15
      refine EP.nil ?_
      refine EW.ret ?_
      refine Fin.cell rfl rfl (Blk.loadV ag70 (by assumption) (by simp only [List.take, List.drop, List.append, List.cons_append, List.nil_append]; rfl) rfl) ?_
      have hE : escapeP (strL s) p = (ofBytes [peekC (strL s) (p.go 1)], (p.go 1).go 1) := by unfold escapeP; simp only []; rw [if_neg (by omega), if_pos h2]
      exact ⟨by rw [hE]; rfl, hC, by rw [hE]; exact hR⟩
    · try simp at h2
      refine EW.seq ?_
      refine EW.reg ?_
      refine EP.o rfl (Does.move rfl) ?_
      refine EP.o rfl (Does.assign rfl) ?_
      refine EP.nil ?_
      refine EW.cond rfl (fun h3 => ?_) (fun h3 => ?_)
      · try simp at h3
        refine EW.reg ?_
        refine EP.o rfl (Does.move rfl) ?_
        refine EP.o rfl (Does.nilCheck rfl) ?_
        refine EP.o rfl (Does.fieldAddr fl239_0 rfl) ?_
        refine EP.o rfl (Does.fieldAddr fl237_1 rfl) ?_
        refine EP.o rfl (Does.loadB o3 rfl (Keeps.now _) (by assumption) (by rfl)) ?_
        refine EP.o rfl (Does.addi rfl rfl (by omega)) ?_
        refine EP.o rfl (Does.nilCheck rfl) ?_
        refine EP.o rfl (Does.fieldAddr fl239_0 rfl) ?_
        refine EP.o rfl (Does.fieldAddr fl237_1 rfl) ?_
        refine EP.put2 (Puts.blk sz3 rfl rfl (by assumption) rfl rfl rfl rfl (by simp only [List.take, List.drop, List.append, List.cons_append, List.nil_append]; rfl)) ?_
        intro w16 hs16 hx16 hB16
        have hz16 := hx16.size
        replace hC := hC.step hx16 (by first | (simp; done) | (simp; omega))
        replace hB1 := hB1.chg hx16 (by simp; omega)
        replace hB5 := hB5.chg hx16 (by simp; omega)
        clear hR; have hR := hB16; clear hB16
        refine EP.nil ?_
        refine EW.seq ?_
        refine EW.reg ?_
        refine EP.o rfl (Does.loadA ag70 rfl (Keeps.now _) (by assumption) (by simp only [List.take, List.drop, List.append, List.cons_append, List.nil_append]; rfl) rfl) ?_
        refine EP.put2 (Puts.blk sz70 rfl rfl (by assumption) rfl rfl rfl rfl (by simp only [List.take, List.drop, List.append, List.cons_append, List.nil_append]; rfl)) ?_
        intro w17 hs17 hx17 hB17
        have hz17 := hx17.size
        replace hC := hC.step hx17 (by first | (simp; done) | (simp; omega))
        replace hR := hR.chg hx17 (by simp; omega)
        replace hB5 := hB5.chg hx17 (by simp; omega)
        clear hB1; have hB1 := hB17; clear hB17
        refine EP.nil ?_
        refine EW.ret ?_
        refine Fin.cell rfl rfl (Blk.loadV ag70 (by assumption) (by simp only [List.take, List.drop, List.append, List.cons_append, List.nil_append]; rfl) rfl) ?_
        obtain ⟨t, ht⟩ := Option.isSome_iff_exists.1 h3
        have hE : escapeP (strL s) p = (t, (p.go 1).go 1) := by unfold escapeP; simp only []; rw [if_neg (by omega), if_neg (by omega), ht]
        exact ⟨by rw [hE, ht]; rfl, hC, by rw [hE]; exact hR⟩
      · try simp at h3
        have h0 : namedP (peekC (strL s) (p.go 1)) = none := by simpa using h3
        refine EW.seq ?_
        refine EW.reg ?_
        refine EP.o rfl (Does.move rfl) ?_
        refine EP.o rfl (Does.cmp rfl rfl rfl) ?_
        refine EP.o rfl (Does.assign rfl) ?_
        refine EP.nil ?_
        refine EW.cond rfl (fun h4 => ?_) (fun h4 => ?_)
        · try simp at h4
          have h4' : peekC (strL s) (p.go 1) = 120 := by omega
          refine EW.seq ?_
          refine EW.reg ?_
          refine EP.o rfl (Does.move rfl) ?_
          refine EP.o rfl (Does.nilCheck rfl) ?_
          refine EP.o rfl (Does.fieldAddr fl239_0 rfl) ?_
          refine EP.o rfl (Does.fieldAddr fl237_1 rfl) ?_
          refine EP.o rfl (Does.loadB o3 rfl (Keeps.now _) (by assumption) (by rfl)) ?_
          refine EP.o rfl (Does.addi rfl rfl (by omega)) ?_
          refine EP.o rfl (Does.nilCheck rfl) ?_
          refine EP.o rfl (Does.fieldAddr fl239_0 rfl) ?_
          refine EP.o rfl (Does.fieldAddr fl237_1 rfl) ?_
          refine EP.put2 (Puts.blk sz3 rfl rfl (by assumption) rfl rfl rfl rfl (by simp only [List.take, List.drop, List.append, List.cons_append, List.nil_append]; rfl)) ?_
          intro w18 hs18 hx18 hB18
          have hz18 := hx18.size
          replace hC := hC.step hx18 (by first | (simp; done) | (simp; omega))
          replace hB1 := hB1.chg hx18 (by simp; omega)
          replace hB5 := hB5.chg hx18 (by simp; omega)
          clear hR; have hR := hB18; clear hB18
          refine EP.nil ?_
          refine EW.seq ?_
          refine EW.reg ?_
          refine EP.o rfl (Does.move rfl) ?_
          refine EP.call2 rfl (Enters.fn fb204 rfl) (hex_c s ((p.go 1).go 1) sl b _ hs (by assumption)) ?_
          rintro _ w19 ⟨rfl, hx19, hR'⟩
          have hz19 := hx19.size
          replace hC := hC.step hx19 (by first | (simp; done) | (simp; omega))
          replace hB1 := hB1.chg hx19 (by simp; omega)
          replace hB5 := hB5.chg hx19 (by simp; omega)
          clear hR
          have hR := hR'; clear hR'
          refine EP.o rfl (Does.assign rfl) ?_
          refine EP.nil ?_
          refine EW.seq ?_
          refine EW.reg ?_
          refine EP.o rfl (Does.move rfl) ?_
          refine EP.o rfl (Does.nilCheck rfl) ?_
          refine EP.o rfl (Does.fieldAddr fl239_0 rfl) ?_
          refine EP.call2 rfl (Enters.fn fb148 rfl) (bad_c s _ sl b _ (by assumption)) ?_
          rintro _ _ ⟨rfl, rfl⟩
          refine EP.o rfl (Does.not rfl) ?_
          refine EP.nil ?_
          refine EW.cond rfl (fun h5 => ?_) (fun h5 => ?_)
          · try simp at h5
            refine EW.reg ?_
            refine EP.o rfl (Does.move rfl) ?_
            refine EP.o rfl (Does.mul rfl rfl) ?_
            refine EP.o rfl (Does.move rfl) ?_
            refine EP.call2 rfl (Enters.fn fb204 rfl) (hex_c s _ sl b _ hs (by assumption)) ?_
            rintro _ w21 ⟨rfl, hx21, hR'⟩
            have hz21 := hx21.size
            replace hC := hC.step hx21 (by first | (simp; done) | (simp; omega))
            replace hB1 := hB1.chg hx21 (by simp; omega)
            replace hB5 := hB5.chg hx21 (by simp; omega)
            clear hR
            have hR := hR'; clear hR'
            refine EP.o rfl (Does.to (Does.add rfl rfl) (vint (show _ = (((16 * (hexP (strL s) ((p.go 1).go 1)).1 + (hexP (strL s) (hexP (strL s) ((p.go 1).go 1)).2).1) % 256 : Nat) : Int) by rw [wu8, wu8]; omega))) ?_
            refine EP.new2 rfl (News.buildL sl44 Tryz.underlying44 zr5 rfl rfl rfl (by rfl)) ?_
            intro b22 w22 hb22 hs22 hx22 hB22
            have hz22 := hx22.size
            replace hC := hC.step0 hx22
            replace hR := hR.chg0 hx22
            replace hB1 := hB1.chg0 hx22
            replace hB5 := hB5.chg0 hx22
            refine EP.call2 rfl (Enters.fn fb139 rfl) (of1_c _ _ _ _ _ (by assumption) (by omega) (by omega)) ?_
            rintro _ w23 ⟨rfl, hx23⟩
            have hz23 := hx23.size
            replace hC := hC.step0 hx23
            replace hR := hR.chg0 hx23
            replace hB1 := hB1.chg0 hx23
            replace hB5 := hB5.chg0 hx23
            replace hB22 := hB22.chg0 hx23
            refine EP.put2 (Puts.blk sz70 rfl rfl (by assumption) rfl rfl rfl rfl (by simp only [List.take, List.drop, List.append, List.cons_append, List.nil_append]; rfl)) ?_
            intro w24 hs24 hx24 hB24
            have hz24 := hx24.size
            replace hC := hC.step hx24 (by first | (simp; done) | (simp; omega))
            replace hR := hR.chg hx24 (by simp; omega)
            replace hB1 := hB1.chg hx24 (by simp; omega)
            replace hB22 := hB22.chg hx24 (by simp; omega)
            clear hB5; have hB5 := hB24; clear hB24
            refine EP.nil ?_
            refine EW.seq ?_
            refine EW.reg ?_
            refine EP.o rfl (Does.loadA ag70 rfl (Keeps.now _) (by assumption) (by simp only [List.take, List.drop, List.append, List.cons_append, List.nil_append]; rfl) rfl) ?_
            refine EP.put2 (Puts.blk sz70 rfl rfl (by assumption) rfl rfl rfl rfl (by simp only [List.take, List.drop, List.append, List.cons_append, List.nil_append]; rfl)) ?_
            intro w25 hs25 hx25 hB25
            have hz25 := hx25.size
            replace hC := hC.step hx25 (by first | (simp; done) | (simp; omega))
            replace hR := hR.chg hx25 (by simp; omega)
            replace hB5 := hB5.chg hx25 (by simp; omega)
            replace hB22 := hB22.chg hx25 (by simp; omega)
            clear hB1; have hB1 := hB25; clear hB25
            refine EP.nil ?_
            refine EW.ret ?_
            refine Fin.cell rfl rfl (Blk.loadV ag70 (by assumption) (by simp only [List.take, List.drop, List.append, List.cons_append, List.nil_append]; rfl) rfl) ?_
            have hE : escapeP (strL s) p = (ofBytes [(16 * (hexP (strL s) ((p.go 1).go 1)).1 + (hexP (strL s) (hexP (strL s) ((p.go 1).go 1)).2).1) % 256], (hexP (strL s) (hexP (strL s) ((p.go 1).go 1)).2).2) := by unfold escapeP; simp only []; rw [if_neg (by omega), if_neg (by omega), h0]; simp only []; rw [if_pos h4', if_pos h5]
            exact ⟨by rw [hE]; rfl, hC, by rw [hE]; exact hR⟩
          · try simp at h5
            refine EW.skip ?_
            refine EW.seq ?_
            refine EW.reg ?_
            refine EP.o rfl (Does.loadA ag70 rfl (Keeps.now _) (by assumption) (by simp only [List.take, List.drop, List.append, List.cons_append, List.nil_append]; rfl) rfl) ?_
            refine EP.put2 (Puts.blk sz70 rfl rfl (by assumption) rfl rfl rfl rfl (by simp only [List.take, List.drop, List.append, List.cons_append, List.nil_append]; rfl)) ?_
            intro w26 hs26 hx26 hB26
            have hz26 := hx26.size
            replace hC := hC.step hx26 (by first | (simp; done) | (simp; omega))
            replace hR := hR.chg hx26 (by simp; omega)
            replace hB5 := hB5.chg hx26 (by simp; omega)
            clear hB1; have hB1 := hB26; clear hB26
            refine EP.nil ?_
            refine EW.ret ?_
            refine Fin.cell rfl rfl (Blk.loadV ag70 (by assumption) (by simp only [List.take, List.drop, List.append, List.cons_append, List.nil_append]; rfl) rfl) ?_
            have hE : escapeP (strL s) p = (0, (hexP (strL s) ((p.go 1).go 1)).2) := by unfold escapeP; simp only []; rw [if_neg (by omega), if_neg (by omega), h0]; simp only []; rw [if_pos h4', if_neg h5]
            exact ⟨by rw [hE, h0]; rfl, hC, by rw [hE]; exact hR⟩
        · try simp at h4
          have h4' : ¬ peekC (strL s) (p.go 1) = 120 := by omega
          refine EW.seq ?_
          refine EW.reg ?_
          refine EP.o rfl (Does.move rfl) ?_
          refine EP.call2 rfl (Enters.fn fb181 rfl) (ixb_c _ otherT _ (by rfl) hlt _) ?_
          rintro _ _ ⟨rfl, rfl⟩
          refine EP.o rfl (Does.cmp rfl rfl rfl) ?_
          refine EP.o rfl (Does.assign rfl) ?_
          refine EP.nil ?_
          refine EW.cond rfl (fun h6 => ?_) (fun h6 => ?_)
          · try simp at h6
            refine EW.reg ?_
            refine EP.o rfl (Does.move rfl) ?_
            refine EP.o rfl (Does.nilCheck rfl) ?_
            refine EP.o rfl (Does.fieldAddr fl239_0 rfl) ?_
            refine EP.o rfl (Does.move rfl) ?_
            refine EP.call2 rfl (Enters.fn fb180 rfl) (fail_c s (p.go 1) sl b p.i 6 _ (by assumption)) ?_
            rintro _ w28 ⟨rfl, hx28, hR'⟩
            have hz28 := hx28.size
            replace hC := hC.step hx28 (by first | (simp; done) | (simp; omega))
            replace hB1 := hB1.chg hx28 (by simp; omega)
            replace hB5 := hB5.chg hx28 (by simp; omega)
            clear hR
            have hR := hR'; clear hR'
            refine EP.nil ?_
            refine EW.seq ?_
            refine EW.reg ?_
            refine EP.o rfl (Does.loadA ag70 rfl (Keeps.now _) (by assumption) (by simp only [List.take, List.drop, List.append, List.cons_append, List.nil_append]; rfl) rfl) ?_
            refine EP.put2 (Puts.blk sz70 rfl rfl (by assumption) rfl rfl rfl rfl (by simp only [List.take, List.drop, List.append, List.cons_append, List.nil_append]; rfl)) ?_
            intro w29 hs29 hx29 hB29
            have hz29 := hx29.size
            replace hC := hC.step hx29 (by first | (simp; done) | (simp; omega))
            replace hR := hR.chg hx29 (by simp; omega)
            replace hB5 := hB5.chg hx29 (by simp; omega)
            clear hB1; have hB1 := hB29; clear hB29
            refine EP.nil ?_
            refine EW.ret ?_
            refine Fin.cell rfl rfl (Blk.loadV ag70 (by assumption) (by simp only [List.take, List.drop, List.append, List.cons_append, List.nil_append]; rfl) rfl) ?_
            have hE : escapeP (strL s) p = (0, (p.go 1).fail p.i 6) := by unfold escapeP; simp only []; rw [if_neg (by omega), if_neg (by omega), h0]; simp only []; rw [if_neg h4', if_pos h6]
            exact ⟨by rw [hE, h0]; rfl, hC, by rw [hE]; exact hR⟩
          · try simp at h6
            refine EW.drw' (S := []) 8 [(0, 0), (0, 1), (0, 2), (0, 3), (0, 4), (0, 5), (0, 6), (0, 7), (2, 8)] mo (by kernel_rfl) ?_
            intro w30 hx30 hh30
            have hz30 := hx30.size
            replace hC := hC.step0 hx30
            replace hR := hR.chg0 hx30
            replace hB1 := hB1.chg0 hx30
            replace hB5 := hB5.chg0 hx30
            refine EP.f rfl (Does.move rfl) ?_
            refine EP.f rfl (Does.nilCheck rfl) ?_
            refine EP.f rfl (Does.fieldAddr fl239_0 rfl) ?_
            refine EP.f rfl (Does.move rfl) ?_
            refine EP.f rfl (Does.nilCheck rfl) ?_
            refine EP.f rfl (Does.fieldAddr fl239_0 rfl) ?_
            refine EP.f rfl (Does.fieldAddr fl237_1 rfl) ?_
            refine EP.f rfl (Does.loadBc o3 rfl (by assumption) (by first | (simp; done) | (simp; omega)) (by rfl)) ?_
            refine EP.call2 rfl (Enters.fn fb180 rfl) (fail_c s (p.go 1) sl b (p.go 1).i 4 _ (by assumption)) ?_
            rintro _ w31 ⟨rfl, hx31, hR'⟩
            have hz31 := hx31.size
            replace hC := hC.step hx31 (by first | (simp; done) | (simp; omega))
            replace hB1 := hB1.chg hx31 (by simp; omega)
            replace hB5 := hB5.chg hx31 (by simp; omega)
            clear hR
            have hR := hR'; clear hR'
            refine EP.nil ?_
            refine EW.seq ?_
            refine EW.reg ?_
            refine EP.o rfl (Does.loadA ag70 rfl (Keeps.now _) (by assumption) (by simp only [List.take, List.drop, List.append, List.cons_append, List.nil_append]; rfl) rfl) ?_
            refine EP.put2 (Puts.blk sz70 rfl rfl (by assumption) rfl rfl rfl rfl (by simp only [List.take, List.drop, List.append, List.cons_append, List.nil_append]; rfl)) ?_
            intro w32 hs32 hx32 hB32
            have hz32 := hx32.size
            replace hC := hC.step hx32 (by first | (simp; done) | (simp; omega))
            replace hR := hR.chg hx32 (by simp; omega)
            replace hB5 := hB5.chg hx32 (by simp; omega)
            clear hB1; have hB1 := hB32; clear hB32
            refine EP.nil ?_
            refine EW.ret ?_
            refine Fin.cell rfl rfl (Blk.loadV ag70 (by assumption) (by simp only [List.take, List.drop, List.append, List.cons_append, List.nil_append]; rfl) rfl) ?_
            have hE : escapeP (strL s) p = (0, (p.go 1).fail (p.go 1).i 4) := by unfold escapeP; simp only []; rw [if_neg (by omega), if_neg (by omega), h0]; simp only []; rw [if_neg h4', if_neg (by omega)]
            exact ⟨by rw [hE, h0]; rfl, hC, by rw [hE]; exact hR⟩
end Go.Clt
end
section
set_option linter.unusedVariables false
set_option linter.unusedSimpArgs false
set_option maxRecDepth 4000
namespace Go.Clt
set_option maxHeartbeats 2000000
open Go Go.RowKit Go.Proofs
theorem one_ok {c : Nat} (h : c < 256) : SetOk (ofBytes [c]) := ofBytes_ok [c] (by intro b hb; simp at hb; omega)
theorem namedP_ok {c t : Nat} (h : namedP c = some t) : SetOk t := by
  unfold namedP at h
  repeat' split at h
  all_goals first
    | cases h; done
    | (injection h with h; subst h; first | exact one_ok (by decide) | exact digits_ok | exact word_ok | exact space_ok | exact setNot_ok _)
theorem escapeP_ok (s : ByteArray) (p : Ps) : SetOk (escapeP (strL s) p).1 := by
  unfold escapeP
  simp only []
  split
  · exact zero_ok
  · split
    · exact one_ok (peekC_lt s _)
    · split
      · rename_i t ht; exact namedP_ok ht
      · split
        · split
          · exact one_ok (Nat.mod_lt _ (by decide))
          · exact zero_ok
        · split <;> exact zero_ok
theorem itemP_ok (s : ByteArray) (p : Ps) : SetOk (itemP (strL s) p).1 := by
  unfold itemP
  split
  · exact zero_ok
  · split
    · exact escapeP_ok s p
    · exact one_ok (peekC_lt s _)
theorem firstS_lt (s : Nat) : firstS s < 256 := by
  unfold firstS
  cases h : (List.range 256).find? fun b => s.testBit b with
  | none => simp
  | some n => have := List.mem_of_find?_eq_some h; simpa using this
theorem rangeS_ok {a b : Nat} (hb : b < 256) : SetOk (rangeS a b) := ofBytes_ok _ (by intro x hx; have := List.mem_range'.1 hx; obtain ⟨i, hi, rfl⟩ := this; omega)
theorem spanP_ok (s : ByteArray) (p : Ps) : SetOk (spanP (strL s) p).1 := by
  unfold spanP
  simp only []
  split
  · exact itemP_ok s p
  · split
    · exact itemP_ok s p
    · split
      · exact itemP_ok s p
      · exact rangeS_ok (firstS_lt _)
theorem item_c (s : ByteArray) (p : Ps) (sl : Value) (b : Nat) (w : World) (hs : s.size ≤ 1048576) (hp : p.i ≤ s.size) (hR : Blk w b (rdC s p sl) 239) : Calls P 223 #[.pointer (some ⟨b, 0, none⟩)] w (Ret fun v w' => v = .agg (setCells (itemP (strL s) p).1).toArray ∧ Chg [b] w w' ∧ Blk w' b (rdC s (itemP (strL s) p).2 sl) 239) := by
  have hC := Chg.refl [b] w
  have hlt := peekC_lt s p
  have hle : (strL s).length = s.size := strL_length s
  try have hlR := hR.lt
  refine enter Tryz.func223 rfl rfl ?_
  refine EW.seq ?_
  refine EW.reg ?_
  refine EP.new2 rfl (News.alloc zr70 rfl) ?_
  intro b1 w1 hb1 hs1 hx1 hB1
  have hz1 := hx1.size
  replace hC := hC.step0 hx1
  replace hR := hR.chg0 hx1
  refine EP.nil ?_
  refine EW.seq ?_
  refine EW.reg ?_
  refine EP.o rfl (Does.move rfl) ?_
  refine EP.o rfl (Does.nilCheck rfl) ?_
  refine EP.o rfl (Does.fieldAddr fl239_0 rfl) ?_
  refine EP.call2 rfl (Enters.fn fb202 rfl) (peek_c s p sl b _ (by assumption)) ?_
  rintro _ w2 ⟨rfl, hx2⟩
  have hz2 := hx2.size
  replace hC := hC.step0 hx2
  replace hR := hR.chg0 hx2
  replace hB1 := hB1.chg0 hx2
  refine EP.o rfl (Does.move rfl) ?_
  refine EP.o rfl (Does.extract rfl rfl) ?_
  refine EP.o rfl (Does.extract rfl rfl) ?_
  refine EP.o rfl (Does.assign rfl) ?_
  refine EP.o rfl (Does.assign rfl) ?_
  refine EP.nil ?_
  refine EW.seq ?_
  refine EW.block ?_
  refine EW.seq ?_
  refine EW.reg ?_
  refine EP.o rfl (Does.move rfl) ?_
  refine EP.o rfl (Does.not rfl) ?_
  refine EP.o rfl (Does.move rfl) ?_
  refine EP.bsplit (d := 15) rfl (fun g1 => ?_) (fun g1 => ?_)
  · try simp at g1
    refine EP.skp rfl rfl rfl rfl rfl (fun h => by cases h) ?_
    refine EP.skp rfl rfl rfl rfl rfl (fun h => by cases h) ?_
    refine EP.skp rfl rfl rfl rfl rfl (fun h => by cases h) ?_
    refine EP.o rfl (Does.pickT rfl rfl) ?_
    refine EP.o rfl (Does.assign rfl) ?_
    refine EP.nil ?_
    refine EW.condT rfl ?_
    refine EW.seq ?_
    refine EW.drw' (S := []) 8 [(0, 0), (0, 1), (0, 2), (0, 3), (0, 4), (0, 5), (0, 6), (0, 7), (2, 8)] mo (by kernel_rfl) ?_
    intro w3 hx3 hh3
    have hz3 := hx3.size
    replace hC := hC.step0 hx3
    replace hR := hR.chg0 hx3
    replace hB1 := hB1.chg0 hx3
    refine EP.f rfl (Does.move rfl) ?_
    refine EP.f rfl (Does.nilCheck rfl) ?_
    refine EP.f rfl (Does.fieldAddr fl239_0 rfl) ?_
    refine EP.f rfl (Does.move rfl) ?_
    refine EP.f rfl (Does.nilCheck rfl) ?_
    refine EP.f rfl (Does.fieldAddr fl239_0 rfl) ?_
    refine EP.f rfl (Does.fieldAddr fl237_1 rfl) ?_
    refine EP.f rfl (Does.loadBc o3 rfl (by assumption) (by first | (simp; done) | (simp; omega)) (by rfl)) ?_
    refine EP.call2 rfl (Enters.fn fb180 rfl) (fail_c s p sl b p.i 4 _ (by assumption)) ?_
    rintro _ w4 ⟨rfl, hx4, hR'⟩
    have hz4 := hx4.size
    replace hC := hC.step hx4 (by first | (simp; done) | (simp; omega))
    replace hB1 := hB1.chg hx4 (by simp; omega)
    clear hR
    have hR := hR'; clear hR'
    refine EP.nil ?_
    refine EW.seq ?_
    refine EW.reg ?_
    refine EP.o rfl (Does.buildAL zr70 ar70 rfl (by rfl)) ?_
    refine EP.put2 (Puts.blk sz70 rfl rfl (by assumption) rfl rfl rfl rfl (by simp only [List.take, List.drop, List.append, List.cons_append, List.nil_append]; rfl)) ?_
    intro w5 hs5 hx5 hB5
    have hz5 := hx5.size
    replace hC := hC.step hx5 (by first | (simp; done) | (simp; omega))
    replace hR := hR.chg hx5 (by simp; omega)
    clear hB1; have hB1 := hB5; clear hB5
    refine EP.nil ?_
    refine EW.ret ?_
    refine Fin.cell rfl rfl (Blk.loadV ag70 (by assumption) (by simp only [List.take, List.drop, List.append, List.cons_append, List.nil_append]; rfl) rfl) ?_
    have hE : itemP (strL s) p = (0, p.fail p.i 4) := by unfold itemP; rw [if_pos (Or.inl (by omega))]
    exact ⟨by rw [hE]; show _ = Value.agg (setCells 0).toArray; rw [setCells_zero]; rfl, hC, by rw [hE]; exact hR⟩
  · try simp at g1
    refine EP.ung rfl rfl rfl ?_
    refine EP.o rfl (Does.move rfl) ?_
    refine EP.ung rfl rfl rfl ?_
    refine EP.call2 rfl (Enters.fn fb181 rfl) (ixb_c _ innerT _ (by rfl) hlt _) ?_
    rintro _ _ ⟨rfl, rfl⟩
    refine EP.ung rfl rfl rfl ?_
    refine EP.o rfl (Does.cmp rfl rfl rfl) ?_
    refine EP.o rfl (Does.pickF rfl rfl) ?_
    refine EP.o rfl (Does.assign rfl) ?_
    refine EP.nil ?_
    refine EW.cond rfl (fun h2 => ?_) (fun h2 => ?_)
    · try simp at h2
      refine EW.seq ?_
      refine EW.drw' (S := []) 8 [(0, 0), (0, 1), (0, 2), (0, 3), (0, 4), (0, 5), (0, 6), (0, 7), (2, 8)] mo (by kernel_rfl) ?_
      intro w7 hx7 hh7
      have hz7 := hx7.size
      replace hC := hC.step0 hx7
      replace hR := hR.chg0 hx7
      replace hB1 := hB1.chg0 hx7
      refine EP.f rfl (Does.move rfl) ?_
      refine EP.f rfl (Does.nilCheck rfl) ?_
      refine EP.f rfl (Does.fieldAddr fl239_0 rfl) ?_
      refine EP.f rfl (Does.move rfl) ?_
      refine EP.f rfl (Does.nilCheck rfl) ?_
      refine EP.f rfl (Does.fieldAddr fl239_0 rfl) ?_
      refine EP.f rfl (Does.fieldAddr fl237_1 rfl) ?_
      refine EP.f rfl (Does.loadBc o3 rfl (by assumption) (by first | (simp; done) | (simp; omega)) (by rfl)) ?_
      refine EP.call2 rfl (Enters.fn fb180 rfl) (fail_c s p sl b p.i 4 _ (by assumption)) ?_
      rintro _ w8 ⟨rfl, hx8, hR'⟩
      have hz8 := hx8.size
      replace hC := hC.step hx8 (by first | (simp; done) | (simp; omega))
      replace hB1 := hB1.chg hx8 (by simp; omega)
      clear hR
      have hR := hR'; clear hR'
      refine EP.nil ?_
      refine EW.seq ?_
      refine EW.reg ?_
      refine EP.o rfl (Does.buildAL zr70 ar70 rfl (by rfl)) ?_
      refine EP.put2 (Puts.blk sz70 rfl rfl (by assumption) rfl rfl rfl rfl (by simp only [List.take, List.drop, List.append, List.cons_append, List.nil_append]; rfl)) ?_
      intro w9 hs9 hx9 hB9
      have hz9 := hx9.size
      replace hC := hC.step hx9 (by first | (simp; done) | (simp; omega))
      replace hR := hR.chg hx9 (by simp; omega)
      clear hB1; have hB1 := hB9; clear hB9
      refine EP.nil ?_
      refine EW.ret ?_
      refine Fin.cell rfl rfl (Blk.loadV ag70 (by assumption) (by simp only [List.take, List.drop, List.append, List.cons_append, List.nil_append]; rfl) rfl) ?_
      have hE : itemP (strL s) p = (0, p.fail p.i 4) := by unfold itemP; rw [if_pos (Or.inr (by omega))]
      exact ⟨by rw [hE]; show _ = Value.agg (setCells 0).toArray; rw [setCells_zero]; rfl, hC, by rw [hE]; exact hR⟩
    · try simp at h2
      have hn : ¬ (¬ p.i < (strL s).length ∨ 0 ≤ idxN innerT (peekC (strL s) p)) := by omega
      refine EW.seq ?_
      refine EW.reg ?_
      refine EP.o rfl (Does.move rfl) ?_
      refine EP.o rfl (Does.cmp rfl rfl rfl) ?_
      refine EP.o rfl (Does.assign rfl) ?_
      refine EP.nil ?_
      refine EW.cond rfl (fun h3 => ?_) (fun h3 => ?_)
      · try simp at h3
        refine EW.seq ?_
        refine EW.reg ?_
        refine EP.o rfl (Does.move rfl) ?_
        refine EP.call2 rfl (Enters.fn fb175 rfl) (escape_c s p sl b _ hs (by omega) (by assumption)) ?_
        rintro _ w10 ⟨rfl, hx10, hR'⟩
        have hz10 := hx10.size
        replace hC := hC.step hx10 (by first | (simp; done) | (simp; omega))
        replace hB1 := hB1.chg hx10 (by simp; omega)
        clear hR
        have hR := hR'; clear hR'
        refine EP.put2 (Puts.blk sz70 rfl rfl (by assumption) rfl rfl rfl rfl (by simp only [List.take, List.drop, List.append, List.cons_append, List.nil_append]; rfl)) ?_
        intro w11 hs11 hx11 hB11
        have hz11 := hx11.size
        replace hC := hC.step hx11 (by first | (simp; done) | (simp; omega))
        replace hR := hR.chg hx11 (by simp; omega)
        clear hB1; have hB1 := hB11; clear hB11
        refine EP.nil ?_
        refine EW.ret ?_
        refine Fin.cell rfl rfl (Blk.loadV ag70 (by assumption) (by simp only [List.take, List.drop, List.append, List.cons_append, List.nil_append]; rfl) rfl) ?_
        have hE : itemP (strL s) p = escapeP (strL s) p := by unfold itemP; rw [if_neg hn, if_pos (by omega)]
        exact ⟨by rw [hE]; rfl, hC, by rw [hE]; exact hR⟩
      · try simp at h3
        refine EW.skip ?_
        refine EW.seq ?_
        refine EW.reg ?_
        refine EP.o rfl (Does.move rfl) ?_
        refine EP.o rfl (Does.nilCheck rfl) ?_
        refine EP.o rfl (Does.fieldAddr fl239_0 rfl) ?_
        refine EP.o rfl (Does.fieldAddr fl237_1 rfl) ?_
        refine EP.o rfl (Does.loadB o3 rfl (Keeps.now _) (by assumption) (by rfl)) ?_
        refine EP.o rfl (Does.addi rfl rfl (by omega)) ?_
        refine EP.o rfl (Does.nilCheck rfl) ?_
        refine EP.o rfl (Does.fieldAddr fl239_0 rfl) ?_
        refine EP.o rfl (Does.fieldAddr fl237_1 rfl) ?_
        refine EP.put2 (Puts.blk sz3 rfl rfl (by assumption) rfl rfl rfl rfl (by simp only [List.take, List.drop, List.append, List.cons_append, List.nil_append]; rfl)) ?_
        intro w12 hs12 hx12 hB12
        have hz12 := hx12.size
        replace hC := hC.step hx12 (by first | (simp; done) | (simp; omega))
        replace hB1 := hB1.chg hx12 (by simp; omega)
        clear hR; have hR := hB12; clear hB12
        refine EP.nil ?_
        refine EW.seq ?_
        refine EW.reg ?_
        refine EP.o rfl (Does.move rfl) ?_
        refine EP.new2 rfl (News.buildL sl44 Tryz.underlying44 zr5 rfl rfl rfl (by rfl)) ?_
        intro b13 w13 hb13 hs13 hx13 hB13
        have hz13 := hx13.size
        replace hC := hC.step0 hx13
        replace hR := hR.chg0 hx13
        replace hB1 := hB1.chg0 hx13
        refine EP.call2 rfl (Enters.fn fb139 rfl) (of1_c _ _ _ _ _ (by assumption) (by omega) (by omega)) ?_
        rintro _ w14 ⟨rfl, hx14⟩
        have hz14 := hx14.size
        replace hC := hC.step0 hx14
        replace hR := hR.chg0 hx14
        replace hB1 := hB1.chg0 hx14
        replace hB13 := hB13.chg0 hx14
        refine EP.put2 (Puts.blk sz70 rfl rfl (by assumption) rfl rfl rfl rfl (by simp only [List.take, List.drop, List.append, List.cons_append, List.nil_append]; rfl)) ?_
        intro w15 hs15 hx15 hB15
        have hz15 := hx15.size
        replace hC := hC.step hx15 (by first | (simp; done) | (simp; omega))
        replace hR := hR.chg hx15 (by simp; omega)
        replace hB13 := hB13.chg hx15 (by simp; omega)
        clear hB1; have hB1 := hB15; clear hB15
        refine EP.nil ?_
        refine EW.ret ?_
        refine Fin.cell rfl rfl (Blk.loadV ag70 (by assumption) (by simp only [List.take, List.drop, List.append, List.cons_append, List.nil_append]; rfl) rfl) ?_
        have hE : itemP (strL s) p = (ofBytes [peekC (strL s) p], p.go 1) := by unfold itemP; rw [if_neg hn, if_neg (by omega)]
        exact ⟨by rw [hE]; rfl, hC, by rw [hE]; exact hR⟩
theorem span_c (s : ByteArray) (p : Ps) (sl : Value) (b : Nat) (w : World) (hs : s.size ≤ 1048576) (hp : p.i ≤ s.size) (hb4 : 4 ≤ b) (hL : Laid w) (hR : Blk w b (rdC s p sl) 239) : Calls P 206 #[.pointer (some ⟨b, 0, none⟩)] w (Ret fun v w' => v = .agg (setCells (spanP (strL s) p).1).toArray ∧ Chg [b] w w' ∧ Blk w' b (rdC s (spanP (strL s) p).2 sl) 239) := by
  have hC := Chg.refl [b] w
  have hle : (strL s).length = s.size := strL_length s
  have hf1 := itemP_fine (L := strL s) (p := p) (by omega)
  have hq1 := hf1.le
  try have hlR := hR.lt
  try have hz4 := hL.sz
  refine enter Tryz.func206 rfl rfl ?_
  refine EW.seq ?_
  refine EW.reg ?_
  refine EP.new2 rfl (News.alloc zr70 rfl) ?_
  intro b1 w1 hb1 hs1 hx1 hB1
  have hz1 := hx1.size
  replace hC := hC.step0 hx1
  replace hR := hR.chg0 hx1
  replace hL := hL.chg0 hx1
  refine EP.nil ?_
  refine EW.seq ?_
  refine EW.reg ?_
  refine EP.o rfl (Does.move rfl) ?_
  refine EP.o rfl (Does.nilCheck rfl) ?_
  refine EP.o rfl (Does.fieldAddr fl239_0 rfl) ?_
  refine EP.o rfl (Does.fieldAddr fl237_1 rfl) ?_
  refine EP.o rfl (Does.loadB o3 rfl (Keeps.now _) (by assumption) (by rfl)) ?_
  refine EP.o rfl (Does.assign rfl) ?_
  refine EP.nil ?_
  refine EW.seq ?_
  refine EW.reg ?_
  refine EP.o rfl (Does.move rfl) ?_
  refine EP.call2 rfl (Enters.fn fb223 rfl) (item_c s p sl b _ hs hp (by assumption)) ?_
  rintro _ w2 ⟨rfl, hx2, hR'⟩
  have hz2 := hx2.size
  replace hC := hC.step hx2 (by first | (simp; done) | (simp; omega))
  replace hL := hL.chg hx2 (by simp; omega)
  replace hB1 := hB1.chg hx2 (by simp; omega)
  clear hR
  have hR := hR'; clear hR'
  refine EP.new2 rfl (News.alloc zr70 rfl) ?_
  intro b3 w3 hb3 hs3 hx3 hB3
  have hz3 := hx3.size
  replace hC := hC.step0 hx3
  replace hR := hR.chg0 hx3
  replace hL := hL.chg0 hx3
  replace hB1 := hB1.chg0 hx3
  refine EP.put2 (Puts.blk sz70 rfl rfl (by assumption) rfl rfl rfl rfl (by simp only [List.take, List.drop, List.append, List.cons_append, List.nil_append]; rfl)) ?_
  intro w4 hs4 hx4 hB4
  have hz4 := hx4.size
  replace hC := hC.step hx4 (by first | (simp; done) | (simp; omega))
  replace hR := hR.chg hx4 (by simp; omega)
  replace hL := hL.chg hx4 (by simp; omega)
  replace hB1 := hB1.chg hx4 (by simp; omega)
  clear hB3; have hB3 := hB4; clear hB4
  refine EP.nil ?_
  refine EW.seq ?_
  refine EW.reg ?_
  refine EP.o rfl (Does.move rfl) ?_
  refine EP.o rfl (Does.nilCheck rfl) ?_
  refine EP.o rfl (Does.fieldAddr fl239_0 rfl) ?_
  refine EP.o rfl (Does.fieldAddr fl237_1 rfl) ?_
  refine EP.o rfl (Does.loadB o3 rfl (Keeps.now _) (by assumption) (by rfl)) ?_
  refine EP.o rfl (Does.assign rfl) ?_
  refine EP.nil ?_
  refine EW.seq ?_
  refine EW.seq ?_
  refine EW.reg ?_
  refine EP.o rfl (Does.move rfl) ?_
  refine EP.o rfl (Does.nilCheck rfl) ?_
  refine EP.o rfl (Does.fieldAddr fl239_0 rfl) ?_
  refine EP.call2 rfl (Enters.fn fb148 rfl) (bad_c s _ sl b _ (by assumption)) ?_
  rintro _ _ ⟨rfl, rfl⟩
  refine EP.o rfl (Does.move rfl) ?_
  refine EP.bsplit (d := 28) rfl (fun g1 => ?_) (fun g1 => ?_)
  · try simp at g1
    refine EP.skp rfl rfl rfl rfl rfl (fun h => by cases h) ?_
    refine EP.skp rfl rfl rfl rfl rfl (fun h => by cases h) ?_
    refine EP.skp rfl rfl rfl rfl rfl (fun h => by cases h) ?_
    refine EP.skp rfl rfl rfl rfl rfl (fun h => by cases h) ?_
    refine EP.skp rfl rfl rfl rfl rfl (fun h => by cases h) ?_
    refine EP.o rfl (Does.pickT rfl rfl) ?_
    refine EP.nil ?_
    refine EW.condT rfl ?_
    refine EW.seq ?_
    refine EW.reg ?_
    refine EP.o rfl (Does.loadA ag70 rfl (Keeps.now _) (by assumption) (by simp only [List.take, List.drop, List.append, List.cons_append, List.nil_append]; rfl) rfl) ?_
    refine EP.put2 (Puts.blk sz70 rfl rfl (by assumption) rfl rfl rfl rfl (by simp only [List.take, List.drop, List.append, List.cons_append, List.nil_append]; rfl)) ?_
    intro w6 hs6 hx6 hB6
    have hz6 := hx6.size
    replace hC := hC.step hx6 (by first | (simp; done) | (simp; omega))
    replace hR := hR.chg hx6 (by simp; omega)
    replace hL := hL.chg hx6 (by simp; omega)
    replace hB3 := hB3.chg hx6 (by simp; omega)
    clear hB1; have hB1 := hB6; clear hB6
    refine EP.nil ?_
    refine EW.ret ?_
    refine Fin.cell rfl rfl (Blk.loadV ag70 (by assumption) (by simp only [List.take, List.drop, List.append, List.cons_append, List.nil_append]; rfl) rfl) ?_
    have hE : spanP (strL s) p = itemP (strL s) p := by unfold spanP; simp only []; rw [if_pos g1]
    exact ⟨by rw [hE]; rfl, hC, by rw [hE]; exact hR⟩
  · try simp at g1
    refine EP.ung rfl rfl rfl ?_
    refine EP.o rfl (Does.move rfl) ?_
    refine EP.ung rfl rfl rfl ?_
    refine EP.o rfl (Does.nilCheck rfl) ?_
    refine EP.ung rfl rfl rfl ?_
    refine EP.o rfl (Does.fieldAddr fl239_0 rfl) ?_
    refine EP.ung rfl rfl rfl ?_
    refine EP.call2 rfl (Enters.fn fb205 rfl) (is_c s _ sl b 45 _ hs (by assumption)) ?_
    rintro _ w7 ⟨rfl, hx7, hR'⟩
    have hz7 := hx7.size
    replace hC := hC.step hx7 (by first | (simp; done) | (simp; omega))
    replace hL := hL.chg hx7 (by simp; omega)
    replace hB1 := hB1.chg hx7 (by simp; omega)
    replace hB3 := hB3.chg hx7 (by simp; omega)
    clear hR
    have hR := hR'; clear hR'
    refine EP.ung rfl rfl rfl ?_
    refine EP.o rfl (Does.not rfl) ?_
    refine EP.o rfl (Does.pickF rfl rfl) ?_
    refine EP.nil ?_
    refine EW.cond rfl (fun g2 => ?_) (fun g2 => ?_)
    · try simp at g2
      refine EW.seq ?_
      refine EW.reg ?_
      refine EP.o rfl (Does.loadA ag70 rfl (Keeps.now _) (by assumption) (by simp only [List.take, List.drop, List.append, List.cons_append, List.nil_append]; rfl) rfl) ?_
      refine EP.put2 (Puts.blk sz70 rfl rfl (by assumption) rfl rfl rfl rfl (by simp only [List.take, List.drop, List.append, List.cons_append, List.nil_append]; rfl)) ?_
      intro w8 hs8 hx8 hB8
      have hz8 := hx8.size
      replace hC := hC.step hx8 (by first | (simp; done) | (simp; omega))
      replace hR := hR.chg hx8 (by simp; omega)
      replace hL := hL.chg hx8 (by simp; omega)
      replace hB3 := hB3.chg hx8 (by simp; omega)
      clear hB1; have hB1 := hB8; clear hB8
      refine EP.nil ?_
      refine EW.ret ?_
      refine Fin.cell rfl rfl (Blk.loadV ag70 (by assumption) (by simp only [List.take, List.drop, List.append, List.cons_append, List.nil_append]; rfl) rfl) ?_
      have hE : spanP (strL s) p = itemP (strL s) p := by unfold spanP; simp only []; rw [if_neg (by simpa using g1), if_pos g2]
      exact ⟨by rw [hE]; rfl, hC, by rw [hE]; unfold isS at hR; rw [g2] at hR; exact hR⟩
    · try simp at g2
      have hS : isS (strL s) (itemP (strL s) p).2 45 = (itemP (strL s) p).2.go 1 := by unfold isS; rw [g2]; rfl
      rw [hS] at hR
      have hgo : Fine (strL s).length 1 (itemP (strL s) p).2 ((itemP (strL s) p).2.go 1) := Fine.go (isB_lt g2)
      have hq2 := hgo.le
      refine EW.skip ?_
      refine EW.seq ?_
      refine EW.seq ?_
      refine EW.reg ?_
      refine EP.o rfl (Does.loadA ag70 rfl (Keeps.now _) (by assumption) (by simp only [List.take, List.drop, List.append, List.cons_append, List.nil_append]; rfl) rfl) ?_
      refine EP.call2 rfl (Enters.fn fb83 rfl) (count_c _ _) ?_
      rintro _ w9 ⟨rfl, hx9⟩
      have hz9 := hx9.size
      replace hC := hC.step0 hx9
      replace hR := hR.chg0 hx9
      replace hL := hL.chg0 hx9
      replace hB1 := hB1.chg0 hx9
      replace hB3 := hB3.chg0 hx9
      refine EP.o rfl (Does.cmp rfl rfl rfl) ?_
      refine EP.nil ?_
      refine EW.cond rfl (fun g3 => ?_) (fun g3 => ?_)
      · try simp at g3
        refine EW.seq ?_
        refine EW.reg ?_
        refine EP.o rfl (Does.move rfl) ?_
        refine EP.o rfl (Does.nilCheck rfl) ?_
        refine EP.o rfl (Does.fieldAddr fl239_0 rfl) ?_
        refine EP.o rfl (Does.move rfl) ?_
        refine EP.call2 rfl (Enters.fn fb180 rfl) (fail_c s _ sl b (itemP (strL s) p).2.i 4 _ (by assumption)) ?_
        rintro _ w10 ⟨rfl, hx10, hR'⟩
        have hz10 := hx10.size
        replace hC := hC.step hx10 (by first | (simp; done) | (simp; omega))
        replace hL := hL.chg hx10 (by simp; omega)
        replace hB1 := hB1.chg hx10 (by simp; omega)
        replace hB3 := hB3.chg hx10 (by simp; omega)
        clear hR
        have hR := hR'; clear hR'
        refine EP.nil ?_
        refine EW.seq ?_
        refine EW.reg ?_
        refine EP.o rfl (Does.loadA ag70 rfl (Keeps.now _) (by assumption) (by simp only [List.take, List.drop, List.append, List.cons_append, List.nil_append]; rfl) rfl) ?_
        refine EP.put2 (Puts.blk sz70 rfl rfl (by assumption) rfl rfl rfl rfl (by simp only [List.take, List.drop, List.append, List.cons_append, List.nil_append]; rfl)) ?_
        intro w11 hs11 hx11 hB11
        have hz11 := hx11.size
        replace hC := hC.step hx11 (by first | (simp; done) | (simp; omega))
        replace hR := hR.chg hx11 (by simp; omega)
        replace hL := hL.chg hx11 (by simp; omega)
        replace hB3 := hB3.chg hx11 (by simp; omega)
        clear hB1; have hB1 := hB11; clear hB11
        refine EP.nil ?_
        refine EW.ret ?_
        refine Fin.cell rfl rfl (Blk.loadV ag70 (by assumption) (by simp only [List.take, List.drop, List.append, List.cons_append, List.nil_append]; rfl) rfl) ?_
        have hE : spanP (strL s) p = ((itemP (strL s) p).1, ((itemP (strL s) p).2.go 1).fail (itemP (strL s) p).2.i 4) := by unfold spanP; simp only []; rw [if_neg (by simpa using g1), if_neg (by rw [g2]; simp), if_pos (by omega)]
        exact ⟨by rw [hE]; rfl, hC, by rw [hE]; exact hR⟩
      · try simp at g3
        refine EW.skip ?_
        refine EW.seq ?_
        refine EW.reg ?_
        refine EP.o rfl (Does.move rfl) ?_
        refine EP.o rfl (Does.nilCheck rfl) ?_
        refine EP.o rfl (Does.fieldAddr fl239_0 rfl) ?_
        refine EP.o rfl (Does.fieldAddr fl237_1 rfl) ?_
        refine EP.o rfl (Does.loadB o3 rfl (Keeps.now _) (by assumption) (by rfl)) ?_
        refine EP.o rfl (Does.assign rfl) ?_
        refine EP.nil ?_
        refine EW.seq ?_
        refine EW.reg ?_
        refine EP.o rfl (Does.move rfl) ?_
        refine EP.call2 rfl (Enters.fn fb223 rfl) (item_c s ((itemP (strL s) p).2.go 1) sl b _ hs (by omega) (by assumption)) ?_
        rintro _ w12 ⟨rfl, hx12, hR'⟩
        have hz12 := hx12.size
        replace hC := hC.step hx12 (by first | (simp; done) | (simp; omega))
        replace hL := hL.chg hx12 (by simp; omega)
        replace hB1 := hB1.chg hx12 (by simp; omega)
        replace hB3 := hB3.chg hx12 (by simp; omega)
        clear hR
        have hR := hR'; clear hR'
        have hf2 := itemP_fine (L := strL s) (p := (itemP (strL s) p).2.go 1) (by omega)
        have hq3 := hf2.le
        refine EP.new2 rfl (News.alloc zr70 rfl) ?_
        intro b13 w13 hb13 hs13 hx13 hB13
        have hz13 := hx13.size
        replace hC := hC.step0 hx13
        replace hR := hR.chg0 hx13
        replace hL := hL.chg0 hx13
        replace hB1 := hB1.chg0 hx13
        replace hB3 := hB3.chg0 hx13
        refine EP.put2 (Puts.blk sz70 rfl rfl (by assumption) rfl rfl rfl rfl (by simp only [List.take, List.drop, List.append, List.cons_append, List.nil_append]; rfl)) ?_
        intro w14 hs14 hx14 hB14
        have hz14 := hx14.size
        replace hC := hC.step hx14 (by first | (simp; done) | (simp; omega))
        replace hR := hR.chg hx14 (by simp; omega)
        replace hL := hL.chg hx14 (by simp; omega)
        replace hB1 := hB1.chg hx14 (by simp; omega)
        replace hB3 := hB3.chg hx14 (by simp; omega)
        clear hB13; have hB13 := hB14; clear hB14
        refine EP.nil ?_
        refine EW.cut (fun e9 wr => ∃ b2 b4 b7, Sub [(0, .pointer (some ⟨b, 0, none⟩)), (2, .pointer (some ⟨b2, 0, none⟩)), (3, .int .i64 (p.i : Int)), (4, .pointer (some ⟨b4, 0, none⟩)), (7, .pointer (some ⟨b7, 0, none⟩))] e9 ∧ Chg [b] w wr ∧ Laid wr ∧ Blk wr b (rdC s (if (itemP (strL s) ((itemP (strL s) p).2.go 1)).2.e = 0 ∧ countS (itemP (strL s) ((itemP (strL s) p).2.go 1)).1 ≠ 1 then (itemP (strL s) ((itemP (strL s) p).2.go 1)).2.fail ((itemP (strL s) p).2.go 1).i 4 else (itemP (strL s) ((itemP (strL s) p).2.go 1)).2) sl) 239 ∧ (∃ z, Blk wr b2 z 70 ∧ z.length = 4) ∧ Blk wr b4 (setCells (itemP (strL s) p).1) 70 ∧ Blk wr b7 (setCells (itemP (strL s) ((itemP (strL s) p).2.go 1)).1) 70 ∧ w.heap.size ≤ b2 ∧ b2 < b4 ∧ b4 < b7 ∧ b < b2) ?_ ?_
        · refine EW.seq ?_
          refine EW.reg ?_
          refine EP.o rfl (Does.move rfl) ?_
          refine EP.o rfl (Does.nilCheck rfl) ?_
          refine EP.o rfl (Does.fieldAddr fl239_0 rfl) ?_
          refine EP.call2 rfl (Enters.fn fb148 rfl) (bad_c s _ sl b _ (by assumption)) ?_
          rintro _ _ ⟨rfl, rfl⟩
          refine EP.o rfl (Does.not rfl) ?_
          refine EP.o rfl (Does.move rfl) ?_
          refine EP.bsplit (d := 57) rfl (fun g4 => ?_) (fun g4 => ?_)
          · try simp at g4
            refine EP.ung rfl rfl rfl ?_
            refine EP.o rfl (Does.loadA ag70 rfl (Keeps.now _) (by assumption) (by simp only [List.take, List.drop, List.append, List.cons_append, List.nil_append]; rfl) rfl) ?_
            refine EP.ung rfl rfl rfl ?_
            refine EP.call2 rfl (Enters.fn fb83 rfl) (count_c _ _) ?_
            rintro _ w16 ⟨rfl, hx16⟩
            have hz16 := hx16.size
            replace hC := hC.step0 hx16
            replace hR := hR.chg0 hx16
            replace hL := hL.chg0 hx16
            replace hB1 := hB1.chg0 hx16
            replace hB3 := hB3.chg0 hx16
            replace hB13 := hB13.chg0 hx16
            refine EP.ung rfl rfl rfl ?_
            refine EP.o rfl (Does.cmp rfl rfl rfl) ?_
            refine EP.o rfl (Does.pickT rfl rfl) ?_
            refine EP.nil ?_
            refine EW.cond rfl (fun g5 => ?_) (fun g5 => ?_)
            · try simp at g5
              refine EW.reg ?_
              refine EP.o rfl (Does.move rfl) ?_
              refine EP.o rfl (Does.nilCheck rfl) ?_
              refine EP.o rfl (Does.fieldAddr fl239_0 rfl) ?_
              refine EP.o rfl (Does.move rfl) ?_
              refine EP.call2 rfl (Enters.fn fb180 rfl) (fail_c s _ sl b ((itemP (strL s) p).2.go 1).i 4 _ (by assumption)) ?_
              rintro _ w17 ⟨rfl, hx17, hR'⟩
              have hz17 := hx17.size
              replace hC := hC.step hx17 (by first | (simp; done) | (simp; omega))
              replace hL := hL.chg hx17 (by simp; omega)
              replace hB1 := hB1.chg hx17 (by simp; omega)
              replace hB3 := hB3.chg hx17 (by simp; omega)
              replace hB13 := hB13.chg hx17 (by simp; omega)
              clear hR
              have hR := hR'; clear hR'
              refine EP.nil ?_
              refine ⟨b1, b3, b13, ⟨rfl, rfl, rfl, rfl, rfl, trivial⟩, ?_⟩
              refine ⟨hC, hL, by rw [if_pos ⟨g4, by omega⟩]; exact hR, ⟨_, hB1, rfl⟩, hB3, hB13, by omega, by omega, by omega, by omega⟩
            · try simp at g5
              refine EW.skip ?_
              refine ⟨b1, b3, b13, ⟨rfl, rfl, rfl, rfl, rfl, trivial⟩, ?_⟩
              refine ⟨hC, hL, by rw [if_neg (by omega)]; exact hR, ⟨_, hB1, rfl⟩, hB3, hB13, by omega, by omega, by omega, by omega⟩
          · try simp at g4
            refine EP.skp rfl rfl rfl rfl rfl (fun h => by cases h) ?_
            refine EP.skp rfl rfl rfl rfl rfl (fun h => by cases h) ?_
            refine EP.skp rfl rfl rfl rfl rfl (fun h => by cases h) ?_
            refine EP.o rfl (Does.pickF rfl rfl) ?_
            refine EP.nil ?_
            refine EW.condF rfl ?_
            refine EW.skip ?_
            refine ⟨b1, b3, b13, ⟨rfl, rfl, rfl, rfl, rfl, trivial⟩, ?_⟩
            refine ⟨hC, hL, by rw [if_neg (by intro h; exact absurd h.1 (by simpa using g4))]; exact hR, ⟨_, hB1, rfl⟩, hB3, hB13, by omega, by omega, by omega, by omega⟩
        rintro e9 w9 ⟨b2, b4, b7, hs9, hC, hL, hR, ⟨z, hB2, hz⟩, hB4, hB7, hlt1, hlt2, hlt3, hlt4⟩
        refine EW.sub _ hs9 ?_
        clear hs9 e9
        try have hzw := hC.size
        match z, hz with
        | [z1, z2, z3, z4], _ =>
        try have hz4 := hL.sz
        try have hlR := hR.lt
        try have hlB2 := hB2.lt
        try have hlB4 := hB4.lt
        try have hlB7 := hB7.lt
        refine EW.seq ?_
        refine EW.reg ?_
        refine EP.o rfl (Does.loadA ag70 rfl (Keeps.now _) (by assumption) (by simp only [List.take, List.drop, List.append, List.cons_append, List.nil_append]; rfl) rfl) ?_
        refine EP.call2 rfl (Enters.fn fb74 rfl) (first_c _ (itemP_ok s p) _ (by assumption)) ?_
        rintro _ w18 ⟨rfl, hx18⟩
        have hz18 := hx18.size
        replace hC := hC.step0 hx18
        replace hL := hL.chg0 hx18
        replace hR := hR.chg0 hx18
        replace hB2 := hB2.chg0 hx18
        replace hB4 := hB4.chg0 hx18
        replace hB7 := hB7.chg0 hx18
        refine EP.o rfl (Does.move rfl) ?_
        refine EP.o rfl (Does.extract rfl rfl) ?_
        refine EP.o rfl (Does.extract rfl rfl) ?_
        refine EP.o rfl (Does.assign rfl) ?_
        refine EP.o rfl (Does.assign rfl) ?_
        refine EP.nil ?_
        refine EW.seq ?_
        refine EW.reg ?_
        refine EP.o rfl (Does.loadA ag70 rfl (Keeps.now _) (by assumption) (by simp only [List.take, List.drop, List.append, List.cons_append, List.nil_append]; rfl) rfl) ?_
        refine EP.call2 rfl (Enters.fn fb74 rfl) (first_c _ (itemP_ok s _) _ (by assumption)) ?_
        rintro _ w19 ⟨rfl, hx19⟩
        have hz19 := hx19.size
        replace hC := hC.step0 hx19
        replace hL := hL.chg0 hx19
        replace hR := hR.chg0 hx19
        replace hB2 := hB2.chg0 hx19
        replace hB4 := hB4.chg0 hx19
        replace hB7 := hB7.chg0 hx19
        refine EP.o rfl (Does.move rfl) ?_
        refine EP.o rfl (Does.extract rfl rfl) ?_
        refine EP.o rfl (Does.extract rfl rfl) ?_
        refine EP.o rfl (Does.assign rfl) ?_
        refine EP.o rfl (Does.assign rfl) ?_
        refine EP.nil ?_
        refine EW.seq ?_
        refine EW.seq ?_
        refine EW.reg ?_
        refine EP.o rfl (Does.move rfl) ?_
        refine EP.o rfl (Does.nilCheck rfl) ?_
        refine EP.o rfl (Does.fieldAddr fl239_0 rfl) ?_
        refine EP.call2 rfl (Enters.fn fb148 rfl) (bad_c s _ sl b _ (by assumption)) ?_
        rintro _ _ ⟨rfl, rfl⟩
        have ha := firstS_lt (itemP (strL s) p).1
        have hb := firstS_lt (itemP (strL s) ((itemP (strL s) p).2.go 1)).1
        have hE : spanP (strL s) p = (rangeS (firstS (itemP (strL s) p).1) (firstS (itemP (strL s) ((itemP (strL s) p).2.go 1)).1), if (if (itemP (strL s) ((itemP (strL s) p).2.go 1)).2.e = 0 ∧ countS (itemP (strL s) ((itemP (strL s) p).2.go 1)).1 ≠ 1 then (itemP (strL s) ((itemP (strL s) p).2.go 1)).2.fail ((itemP (strL s) p).2.go 1).i 4 else (itemP (strL s) ((itemP (strL s) p).2.go 1)).2).e = 0 ∧ firstS (itemP (strL s) ((itemP (strL s) p).2.go 1)).1 < firstS (itemP (strL s) p).1 then (if (itemP (strL s) ((itemP (strL s) p).2.go 1)).2.e = 0 ∧ countS (itemP (strL s) ((itemP (strL s) p).2.go 1)).1 ≠ 1 then (itemP (strL s) ((itemP (strL s) p).2.go 1)).2.fail ((itemP (strL s) p).2.go 1).i 4 else (itemP (strL s) ((itemP (strL s) p).2.go 1)).2).fail p.i 5 else (if (itemP (strL s) ((itemP (strL s) p).2.go 1)).2.e = 0 ∧ countS (itemP (strL s) ((itemP (strL s) p).2.go 1)).1 ≠ 1 then (itemP (strL s) ((itemP (strL s) p).2.go 1)).2.fail ((itemP (strL s) p).2.go 1).i 4 else (itemP (strL s) ((itemP (strL s) p).2.go 1)).2)) := by unfold spanP; simp only []; rw [if_neg (by simpa using g1), if_neg (by rw [g2]; simp), if_neg (by omega)]
        refine EP.o rfl (Does.not rfl) ?_
        refine EP.o rfl (Does.move rfl) ?_
        refine EP.bsplit (d := 82) rfl (fun g6 => ?_) (fun g6 => ?_)
        · try simp at g6
          refine EP.ung rfl rfl rfl ?_
          refine EP.o rfl (Does.move rfl) ?_
          refine EP.ung rfl rfl rfl ?_
          refine EP.o rfl (Does.move rfl) ?_
          refine EP.ung rfl rfl rfl ?_
          refine EP.o rfl (Does.cmp rfl rfl rfl) ?_
          refine EP.o rfl (Does.pickT rfl rfl) ?_
          refine EP.nil ?_
          refine EW.cond rfl (fun g7 => ?_) (fun g7 => ?_)
          · try simp at g7
            refine EW.reg ?_
            refine EP.o rfl (Does.move rfl) ?_
            refine EP.o rfl (Does.nilCheck rfl) ?_
            refine EP.o rfl (Does.fieldAddr fl239_0 rfl) ?_
            refine EP.o rfl (Does.move rfl) ?_
            refine EP.call2 rfl (Enters.fn fb180 rfl) (fail_c s _ sl b p.i 5 _ (by assumption)) ?_
            rintro _ w21 ⟨rfl, hx21, hR'⟩
            have hz21 := hx21.size
            replace hC := hC.step hx21 (by first | (simp; done) | (simp; omega))
            replace hL := hL.chg hx21 (by simp; omega)
            replace hB2 := hB2.chg hx21 (by simp; omega)
            replace hB4 := hB4.chg hx21 (by simp; omega)
            replace hB7 := hB7.chg hx21 (by simp; omega)
            clear hR
            have hR := hR'; clear hR'
            refine EP.nil ?_
            refine EW.seq ?_
            refine EW.reg ?_
            refine EP.o rfl (Does.move rfl) ?_
            refine EP.o rfl (Does.move rfl) ?_
            refine EP.call2 rfl (Enters.fn fb222 rfl) (range_c _ _ ha hb _) ?_
            rintro _ w22 ⟨rfl, hx22⟩
            have hz22 := hx22.size
            replace hC := hC.step0 hx22
            replace hL := hL.chg0 hx22
            replace hR := hR.chg0 hx22
            replace hB2 := hB2.chg0 hx22
            replace hB4 := hB4.chg0 hx22
            replace hB7 := hB7.chg0 hx22
            refine EP.put2 (Puts.blk sz70 rfl rfl (by assumption) rfl rfl rfl rfl (by simp only [List.take, List.drop, List.append, List.cons_append, List.nil_append]; rfl)) ?_
            intro w23 hs23 hx23 hB23
            have hz23 := hx23.size
            replace hC := hC.step hx23 (by first | (simp; done) | (simp; omega))
            replace hL := hL.chg hx23 (by simp; omega)
            replace hR := hR.chg hx23 (by simp; omega)
            replace hB4 := hB4.chg hx23 (by simp; omega)
            replace hB7 := hB7.chg hx23 (by simp; omega)
            clear hB2; have hB2 := hB23; clear hB23
            refine EP.nil ?_
            refine EW.ret ?_
            refine Fin.cell rfl rfl (Blk.loadV ag70 (by assumption) (by simp only [List.take, List.drop, List.append, List.cons_append, List.nil_append]; rfl) rfl) ?_
            exact ⟨by rw [hE]; rfl, hC, by rw [hE]; dsimp only; rw [if_pos ⟨g6, by omega⟩]; exact hR⟩
          · try simp at g7
            refine EW.skip ?_
            refine EW.seq ?_
            refine EW.reg ?_
            refine EP.o rfl (Does.move rfl) ?_
            refine EP.o rfl (Does.move rfl) ?_
            refine EP.call2 rfl (Enters.fn fb222 rfl) (range_c _ _ ha hb _) ?_
            rintro _ w24 ⟨rfl, hx24⟩
            have hz24 := hx24.size
            replace hC := hC.step0 hx24
            replace hL := hL.chg0 hx24
            replace hR := hR.chg0 hx24
            replace hB2 := hB2.chg0 hx24
            replace hB4 := hB4.chg0 hx24
            replace hB7 := hB7.chg0 hx24
            refine EP.put2 (Puts.blk sz70 rfl rfl (by assumption) rfl rfl rfl rfl (by simp only [List.take, List.drop, List.append, List.cons_append, List.nil_append]; rfl)) ?_
            intro w25 hs25 hx25 hB25
            have hz25 := hx25.size
            replace hC := hC.step hx25 (by first | (simp; done) | (simp; omega))
            replace hL := hL.chg hx25 (by simp; omega)
            replace hR := hR.chg hx25 (by simp; omega)
            replace hB4 := hB4.chg hx25 (by simp; omega)
            replace hB7 := hB7.chg hx25 (by simp; omega)
            clear hB2; have hB2 := hB25; clear hB25
            refine EP.nil ?_
            refine EW.ret ?_
            refine Fin.cell rfl rfl (Blk.loadV ag70 (by assumption) (by simp only [List.take, List.drop, List.append, List.cons_append, List.nil_append]; rfl) rfl) ?_
            exact ⟨by rw [hE]; rfl, hC, by rw [hE]; dsimp only; rw [if_neg (by omega)]; exact hR⟩
        · try simp at g6
          refine EP.skp rfl rfl rfl rfl rfl (fun h => by cases h) ?_
          refine EP.skp rfl rfl rfl rfl rfl (fun h => by cases h) ?_
          refine EP.skp rfl rfl rfl rfl rfl (fun h => by cases h) ?_
          refine EP.o rfl (Does.pickF rfl rfl) ?_
          refine EP.nil ?_
          refine EW.condF rfl ?_
          refine EW.skip ?_
          refine EW.seq ?_
          refine EW.reg ?_
          refine EP.o rfl (Does.move rfl) ?_
          refine EP.o rfl (Does.move rfl) ?_
          refine EP.call2 rfl (Enters.fn fb222 rfl) (range_c _ _ ha hb _) ?_
          rintro _ w26 ⟨rfl, hx26⟩
          have hz26 := hx26.size
          replace hC := hC.step0 hx26
          replace hL := hL.chg0 hx26
          replace hR := hR.chg0 hx26
          replace hB2 := hB2.chg0 hx26
          replace hB4 := hB4.chg0 hx26
          replace hB7 := hB7.chg0 hx26
          refine EP.put2 (Puts.blk sz70 rfl rfl (by assumption) rfl rfl rfl rfl (by simp only [List.take, List.drop, List.append, List.cons_append, List.nil_append]; rfl)) ?_
          intro w27 hs27 hx27 hB27
          have hz27 := hx27.size
          replace hC := hC.step hx27 (by first | (simp; done) | (simp; omega))
          replace hL := hL.chg hx27 (by simp; omega)
          replace hR := hR.chg hx27 (by simp; omega)
          replace hB4 := hB4.chg hx27 (by simp; omega)
          replace hB7 := hB7.chg hx27 (by simp; omega)
          clear hB2; have hB2 := hB27; clear hB27
          refine EP.nil ?_
          refine EW.ret ?_
          refine Fin.cell rfl rfl (Blk.loadV ag70 (by assumption) (by simp only [List.take, List.drop, List.append, List.cons_append, List.nil_append]; rfl) rfl) ?_
          exact ⟨by rw [hE]; rfl, hC, by rw [hE]; dsimp only; rw [if_neg (by intro h; exact absurd h.1 (by simpa using g6))]; exact hR⟩
end Go.Clt
end
section
set_option linter.unusedVariables false
set_option linter.unusedSimpArgs false
set_option maxRecDepth 4000
namespace Go.Clt
set_option maxHeartbeats 2000000
open Go Go.RowKit Go.Proofs
theorem classL_bad {L : List Nat} {q : Ps} (h : q.e ≠ 0) (f s : Nat) : classL L f s q = (s, q) := by
  cases f with
  | zero => rfl
  | succ f => unfold classL; rw [if_pos h]
theorem classL_ok (s : ByteArray) : ∀ (f t : Nat) (q : Ps), SetOk t → SetOk (classL (strL s) f t q).1
  | 0, t, q, h => h
  | f + 1, t, q, h => by
    unfold classL
    split
    · exact h
    · split
      · exact h
      · exact classL_ok s f _ _ (unions_ok _ (by intro x hx; simp at hx; rcases hx with rfl | rfl; exact h; exact spanP_ok s q) 0 zero_ok)
theorem class_c (s : ByteArray) (p : Ps) (sl : Value) (b : Nat) (w : World) (hs : s.size ≤ 1048576) (hp : p.i < s.size) (hb4 : 4 ≤ b) (hL : Laid w) (hR : Blk w b (rdC s p sl) 239) : Calls P 176 #[.pointer (some ⟨b, 0, none⟩)] w (Ret fun v w' => v = .agg (setCells (classP (strL s) p).1).toArray ∧ Chg [b] w w' ∧ Blk w' b (rdC s (classP (strL s) p).2 sl) 239) := by
  have hC := Chg.refl [b] w
  have hle : (strL s).length = s.size := strL_length s
  have hg : Fine (strL s).length 1 p (p.go 1) := Fine.go (by omega)
  have hq := hg.le
  have hf0 := isS_fine (L := strL s) (b := 94) hq
  have hq0 := hf0.le
  have hf1 := spanP_fine (L := strL s) hq0
  have hq1 := hf1.le
  try have hlR := hR.lt
  try have hz4 := hL.sz
  refine enter Tryz.func176 rfl rfl ?_
  refine EW.seq ?_
  refine EW.reg ?_
  refine EP.new2 rfl (News.alloc zr70 rfl) ?_
  intro b1 w1 hb1 hs1 hx1 hB1
  have hz1 := hx1.size
  replace hC := hC.step0 hx1
  replace hR := hR.chg0 hx1
  replace hL := hL.chg0 hx1
  refine EP.nil ?_
  refine EW.seq ?_
  refine EW.reg ?_
  refine EP.o rfl (Does.move rfl) ?_
  refine EP.o rfl (Does.nilCheck rfl) ?_
  refine EP.o rfl (Does.fieldAddr fl239_0 rfl) ?_
  refine EP.o rfl (Does.fieldAddr fl237_1 rfl) ?_
  refine EP.o rfl (Does.loadB o3 rfl (Keeps.now _) (by assumption) (by rfl)) ?_
  refine EP.o rfl (Does.addi rfl rfl (by omega)) ?_
  refine EP.o rfl (Does.nilCheck rfl) ?_
  refine EP.o rfl (Does.fieldAddr fl239_0 rfl) ?_
  refine EP.o rfl (Does.fieldAddr fl237_1 rfl) ?_
  refine EP.put2 (Puts.blk sz3 rfl rfl (by assumption) rfl rfl rfl rfl (by simp only [List.take, List.drop, List.append, List.cons_append, List.nil_append]; rfl)) ?_
  intro w2 hs2 hx2 hB2
  have hz2 := hx2.size
  replace hC := hC.step hx2 (by first | (simp; done) | (simp; omega))
  replace hL := hL.chg hx2 (by simp; omega)
  replace hB1 := hB1.chg hx2 (by simp; omega)
  clear hR; have hR := hB2; clear hB2
  refine EP.nil ?_
  refine EW.seq ?_
  refine EW.reg ?_
  refine EP.o rfl (Does.move rfl) ?_
  refine EP.o rfl (Does.nilCheck rfl) ?_
  refine EP.o rfl (Does.fieldAddr fl239_0 rfl) ?_
  refine EP.call2 rfl (Enters.fn fb205 rfl) (is_c s (p.go 1) sl b 94 _ hs (by assumption)) ?_
  rintro _ w3 ⟨rfl, hx3, hR'⟩
  have hz3 := hx3.size
  replace hC := hC.step hx3 (by first | (simp; done) | (simp; omega))
  replace hL := hL.chg hx3 (by simp; omega)
  replace hB1 := hB1.chg hx3 (by simp; omega)
  clear hR
  have hR := hR'; clear hR'
  refine EP.o rfl (Does.assign rfl) ?_
  refine EP.nil ?_
  refine EW.seq ?_
  refine EW.reg ?_
  refine EP.o rfl (Does.move rfl) ?_
  refine EP.call2 rfl (Enters.fn fb206 rfl) (span_c s (isS (strL s) (p.go 1) 94) sl b _ hs (by omega) hb4 hL (by assumption)) ?_
  rintro _ w4 ⟨rfl, hx4, hR'⟩
  have hz4 := hx4.size
  replace hC := hC.step hx4 (by first | (simp; done) | (simp; omega))
  replace hL := hL.chg hx4 (by simp; omega)
  replace hB1 := hB1.chg hx4 (by simp; omega)
  clear hR
  have hR := hR'; clear hR'
  refine EP.new2 rfl (News.alloc zr70 rfl) ?_
  intro b5 w5 hb5 hs5 hx5 hB5
  have hz5 := hx5.size
  replace hC := hC.step0 hx5
  replace hR := hR.chg0 hx5
  replace hL := hL.chg0 hx5
  replace hB1 := hB1.chg0 hx5
  refine EP.put2 (Puts.blk sz70 rfl rfl (by assumption) rfl rfl rfl rfl (by simp only [List.take, List.drop, List.append, List.cons_append, List.nil_append]; rfl)) ?_
  intro w6 hs6 hx6 hB6
  have hz6 := hx6.size
  replace hC := hC.step hx6 (by first | (simp; done) | (simp; omega))
  replace hR := hR.chg hx6 (by simp; omega)
  replace hL := hL.chg hx6 (by simp; omega)
  replace hB1 := hB1.chg hx6 (by simp; omega)
  clear hB5; have hB5 := hB6; clear hB6
  refine EP.nil ?_
  refine EW.cut (fun e9 wr => ∃ b2 b4, Sub [(0, .pointer (some ⟨b, 0, none⟩)), (2, .pointer (some ⟨b2, 0, none⟩)), (3, .bool (isB (strL s) (p.go 1) 94)), (4, .pointer (some ⟨b4, 0, none⟩))] e9 ∧ Chg [b] w wr ∧ Blk wr b (rdC s (classL (strL s) ((strL s).length + 2) (spanP (strL s) (isS (strL s) (p.go 1) 94)).1 (spanP (strL s) (isS (strL s) (p.go 1) 94)).2).2 sl) 239 ∧ Blk wr b2 (setCells 0) 70 ∧ Blk wr b4 (setCells (classL (strL s) ((strL s).length + 2) (spanP (strL s) (isS (strL s) (p.go 1) 94)).1 (spanP (strL s) (isS (strL s) (p.go 1) 94)).2).1) 70 ∧ w.heap.size ≤ b2 ∧ b2 < b4 ∧ b < b2) ?_ ?_
  · generalize hr : classL (strL s) ((strL s).length + 2) (spanP (strL s) (isS (strL s) (p.go 1) 94)).1 (spanP (strL s) (isS (strL s) (p.go 1) 94)).2 = r
    refine EW.block ?_
    refine EW.loop (σ := Nat × Nat × Ps) (fun (f, t, q) => [(0, .pointer (some ⟨b, 0, none⟩)), (2, .pointer (some ⟨b1, 0, none⟩)), (3, .bool (isB (strL s) (p.go 1) 94)), (4, .pointer (some ⟨b5, 0, none⟩))]) (fun (f, t, q) wr => Chg [b] w wr ∧ Laid wr ∧ Blk wr b (rdC s q sl) 239 ∧ Blk wr b1 (setCells 0) 70 ∧ Blk wr b5 (setCells t) 70 ∧ classL (strL s) f t q = r ∧ q.i ≤ (strL s).length ∧ (q.e = 0 → (strL s).length < q.i + f)) (fun (f, t, q) wr => f) ((strL s).length + 2, (spanP (strL s) (isS (strL s) (p.go 1) 94)).1, (spanP (strL s) (isS (strL s) (p.go 1) 94)).2) ⟨rfl, rfl, rfl, rfl, trivial⟩ ?_ ?_
    · rw [← setCells_zero] at hB1
      exact ⟨hC, hL, hR, hB1, hB5, hr, hq1, fun _ => by omega⟩
    rintro ⟨f, t, q⟩ w9 ⟨hC, hL, hR, hB1, hB5, hr, hqi, hfu⟩
    try have hzw := hC.size
    try have hlB1 := hB1.lt
    try have hlB5 := hB5.lt
    refine EW.seq ?_
    refine EW.seq ?_
    refine EW.reg ?_
    refine EP.o rfl (Does.move rfl) ?_
    refine EP.o rfl (Does.nilCheck rfl) ?_
    refine EP.o rfl (Does.fieldAddr fl239_0 rfl) ?_
    refine EP.call2 rfl (Enters.fn fb148 rfl) (bad_c s _ sl b _ (by assumption)) ?_
    rintro _ _ ⟨rfl, rfl⟩
    refine EP.o rfl (Does.not rfl) ?_
    refine EP.o rfl (Does.move rfl) ?_
    refine EP.bsplit (d := 25) rfl (fun g1 => ?_) (fun g1 => ?_)
    · try simp at g1
      have hfu' := hfu g1
      obtain ⟨f, rfl⟩ : ∃ g, f = g + 1 := ⟨f - 1, by omega⟩
      have hcl : classL (strL s) (f + 1) t q = if q.e ≠ 0 then (t, q) else if isB (strL s) q 93 then (t, q.go 1) else classL (strL s) f (unions [t, (spanP (strL s) q).1]) (spanP (strL s) q).2 := rfl
      refine EP.ung rfl rfl rfl ?_
      refine EP.o rfl (Does.move rfl) ?_
      refine EP.ung rfl rfl rfl ?_
      refine EP.o rfl (Does.nilCheck rfl) ?_
      refine EP.ung rfl rfl rfl ?_
      refine EP.o rfl (Does.fieldAddr fl239_0 rfl) ?_
      refine EP.ung rfl rfl rfl ?_
      refine EP.call2 rfl (Enters.fn fb205 rfl) (is_c s _ sl b 93 _ hs (by assumption)) ?_
      rintro _ w8 ⟨rfl, hx8, hR'⟩
      have hz8 := hx8.size
      replace hC := hC.step hx8 (by first | (simp; done) | (simp; omega))
      replace hL := hL.chg hx8 (by simp; omega)
      replace hB1 := hB1.chg hx8 (by simp; omega)
      replace hB5 := hB5.chg hx8 (by simp; omega)
      clear hR
      have hR := hR'; clear hR'
      refine EP.ung rfl rfl rfl ?_
      refine EP.o rfl (Does.not rfl) ?_
      refine EP.o rfl (Does.pickT rfl rfl) ?_
      refine EP.nil ?_
      refine EW.cond rfl (fun g2 => ?_) (fun g2 => ?_)
      · try simp at g2
        have hS : isS (strL s) q 93 = q := by unfold isS; rw [g2]; rfl
        rw [hS] at hR
        refine EW.skip ?_
        refine EW.block ?_
        refine EW.drw' (S := [b]) 3 [(0, 0), (0, 1), (1, 2), (2, 3), (2, 4), (2, 5)] mo (by kernel_rfl) ?_
        intro w9 hx9 hh9
        have hz9 := hx9.size
        replace hC := hC.step0 hx9
        replace hR := hR.chg0 hx9
        replace hL := hL.chg0 hx9
        replace hB1 := hB1.chg0 hx9
        replace hB5 := hB5.chg0 hx9
        have hCS9 := Chg.refl ([b]) w9
        refine EP.f rfl (Does.loadAc ag70 rfl (by assumption) (by first | (simp; done) | (simp; omega)) (by simp only [List.take, List.drop, List.append, List.cons_append, List.nil_append]; rfl) rfl) ?_
        refine EP.f rfl (Does.move rfl) ?_
        refine EP.call1 rfl (Enters.fn fb206 rfl) (span_c s q sl b _ hs (by omega) hb4 (by assumption) (by assumption)) ?_
        rintro _ w10 ⟨rfl, hx10, hR'⟩
        have hz10 := hx10.size
        replace hC := hC.step hx10 (by first | (simp; done) | (simp; omega))
        replace hL := hL.chg hx10 (by simp; omega)
        replace hB1 := hB1.chg hx10 (by simp; omega)
        replace hB5 := hB5.chg hx10 (by simp; omega)
        replace hCS9 := hCS9.step hx10 (by first | (simp; done) | (simp; omega))
        clear hR
        have hR := hR'; clear hR'
        refine ⟨hCS9, ?_⟩
        refine EP.new2 rfl (News.buildL sl23 Tryz.underlying23 zr70 rfl rfl rfl (by rfl)) ?_
        intro b11 w11 hb11 hs11 hx11 hB11
        have hz11 := hx11.size
        replace hC := hC.step0 hx11
        replace hR := hR.chg0 hx11
        replace hL := hL.chg0 hx11
        replace hB1 := hB1.chg0 hx11
        replace hB5 := hB5.chg0 hx11
        refine EP.call2 rfl (Enters.fn fb138 rfl) (union2_c t (spanP (strL s) q).1 _ _ _ _ (by assumption)) ?_
        rintro _ w12 ⟨rfl, hx12⟩
        have hz12 := hx12.size
        replace hC := hC.step0 hx12
        replace hR := hR.chg0 hx12
        replace hL := hL.chg0 hx12
        replace hB1 := hB1.chg0 hx12
        replace hB5 := hB5.chg0 hx12
        replace hB11 := hB11.chg0 hx12
        refine EP.put2 (Puts.blk sz70 rfl rfl (by assumption) rfl rfl rfl rfl (by simp only [List.take, List.drop, List.append, List.cons_append, List.nil_append]; rfl)) ?_
        intro w13 hs13 hx13 hB13
        have hz13 := hx13.size
        replace hC := hC.step hx13 (by first | (simp; done) | (simp; omega))
        replace hR := hR.chg hx13 (by simp; omega)
        replace hL := hL.chg hx13 (by simp; omega)
        replace hB1 := hB1.chg hx13 (by simp; omega)
        replace hB11 := hB11.chg hx13 (by simp; omega)
        clear hB5; have hB5 := hB13; clear hB13
        refine EP.nil ?_
        refine ⟨(f, unions [t, (spanP (strL s) q).1], (spanP (strL s) q).2), ⟨rfl, rfl, rfl, rfl, trivial⟩, ?_, ?_⟩
        have hfq := spanP_fine (L := strL s) hqi
        refine ⟨hC, hL, hR, hB1, hB5, ?_, hfq.le, fun he => ?_⟩
        rw [← hr, hcl, if_neg (by simpa using g1), if_neg (by rw [g2]; simp)]
        have := hfq.adv he
        omega
        exact Nat.lt_succ_self f
      · try simp at g2
        refine EW.exit (brk_here ?_)
        refine ⟨b1, b5, ⟨rfl, rfl, rfl, rfl, trivial⟩, ?_⟩
        have hS : isS (strL s) q 93 = q.go 1 := by unfold isS; rw [g2]; rfl
        rw [hS] at hR
        rw [← hr, hcl, if_neg (by simpa using g1), if_pos g2]
        exact ⟨hC, hR, hB1, hB5, by omega, by omega, by omega⟩
    · try simp at g1
      refine EP.skp rfl rfl rfl rfl rfl (fun h => by cases h) ?_
      refine EP.skp rfl rfl rfl rfl rfl (fun h => by cases h) ?_
      refine EP.skp rfl rfl rfl rfl rfl (fun h => by cases h) ?_
      refine EP.skp rfl rfl rfl rfl rfl (fun h => by cases h) ?_
      refine EP.skp rfl rfl rfl rfl rfl (fun h => by cases h) ?_
      refine EP.o rfl (Does.pickF rfl rfl) ?_
      refine EP.nil ?_
      refine EW.condF rfl ?_
      refine EW.exit (brk_here ?_)
      refine ⟨b1, b5, ⟨rfl, rfl, rfl, rfl, trivial⟩, ?_⟩
      rw [← hr, classL_bad (by simpa using g1)]
      exact ⟨hC, hR, hB1, hB5, by omega, by omega, by omega⟩
  rintro e9 w9 ⟨b2, b4, hs9, hC, hR, hB1, hB4, hlt1, hlt2, hlt3⟩
  refine EW.sub _ hs9 ?_
  clear hs9 e9
  try have hzw := hC.size
  try have hlR := hR.lt
  try have hlB1 := hB1.lt
  try have hlB4 := hB4.lt
  have hok := classL_ok s ((strL s).length + 2) (spanP (strL s) (isS (strL s) (p.go 1) 94)).1 (spanP (strL s) (isS (strL s) (p.go 1) 94)).2 (spanP_ok s _)
  have hE : classP (strL s) p = (if isB (strL s) (p.go 1) 94 then setNot (classL (strL s) ((strL s).length + 2) (spanP (strL s) (isS (strL s) (p.go 1) 94)).1 (spanP (strL s) (isS (strL s) (p.go 1) 94)).2).1 else (classL (strL s) ((strL s).length + 2) (spanP (strL s) (isS (strL s) (p.go 1) 94)).1 (spanP (strL s) (isS (strL s) (p.go 1) 94)).2).1, (classL (strL s) ((strL s).length + 2) (spanP (strL s) (isS (strL s) (p.go 1) 94)).1 (spanP (strL s) (isS (strL s) (p.go 1) 94)).2).2) := rfl
  generalize classL (strL s) ((strL s).length + 2) (spanP (strL s) (isS (strL s) (p.go 1) 94)).1 (spanP (strL s) (isS (strL s) (p.go 1) 94)).2 = r at *
  refine EW.seq ?_
  refine EW.seq ?_
  refine EW.reg ?_
  refine EP.o rfl (Does.move rfl) ?_
  refine EP.nil ?_
  refine EW.cond rfl (fun g3 => ?_) (fun g3 => ?_)
  · try simp at g3
    refine EW.reg ?_
    refine EP.o rfl (Does.loadA ag70 rfl (Keeps.now _) (by assumption) (by simp only [List.take, List.drop, List.append, List.cons_append, List.nil_append]; rfl) rfl) ?_
    refine EP.call2 rfl (Enters.fn fb178 rfl) (not_c _ hok _) ?_
    rintro _ w14 ⟨rfl, hx14⟩
    have hz14 := hx14.size
    replace hC := hC.step0 hx14
    replace hR := hR.chg0 hx14
    replace hB1 := hB1.chg0 hx14
    replace hB4 := hB4.chg0 hx14
    refine EP.put2 (Puts.blk sz70 rfl rfl (by assumption) rfl rfl rfl rfl (by simp only [List.take, List.drop, List.append, List.cons_append, List.nil_append]; rfl)) ?_
    intro w15 hs15 hx15 hB15
    have hz15 := hx15.size
    replace hC := hC.step hx15 (by first | (simp; done) | (simp; omega))
    replace hR := hR.chg hx15 (by simp; omega)
    replace hB1 := hB1.chg hx15 (by simp; omega)
    clear hB4; have hB4 := hB15; clear hB15
    refine EP.nil ?_
    refine EW.seq ?_
    refine EW.reg ?_
    refine EP.o rfl (Does.loadA ag70 rfl (Keeps.now _) (by assumption) (by simp only [List.take, List.drop, List.append, List.cons_append, List.nil_append]; rfl) rfl) ?_
    refine EP.put2 (Puts.blk sz70 rfl rfl (by assumption) rfl rfl rfl rfl (by simp only [List.take, List.drop, List.append, List.cons_append, List.nil_append]; rfl)) ?_
    intro w16 hs16 hx16 hB16
    have hz16 := hx16.size
    replace hC := hC.step hx16 (by first | (simp; done) | (simp; omega))
    replace hR := hR.chg hx16 (by simp; omega)
    replace hB4 := hB4.chg hx16 (by simp; omega)
    clear hB1; have hB1 := hB16; clear hB16
    refine EP.nil ?_
    refine EW.ret ?_
    refine Fin.cell rfl rfl (Blk.loadV ag70 (by assumption) (by simp only [List.take, List.drop, List.append, List.cons_append, List.nil_append]; rfl) rfl) ?_
    exact ⟨by rw [hE, if_pos g3]; rfl, hC, by rw [hE]; exact hR⟩
  · try simp at g3
    refine EW.skip ?_
    refine EW.seq ?_
    refine EW.reg ?_
    refine EP.o rfl (Does.loadA ag70 rfl (Keeps.now _) (by assumption) (by simp only [List.take, List.drop, List.append, List.cons_append, List.nil_append]; rfl) rfl) ?_
    refine EP.put2 (Puts.blk sz70 rfl rfl (by assumption) rfl rfl rfl rfl (by simp only [List.take, List.drop, List.append, List.cons_append, List.nil_append]; rfl)) ?_
    intro w17 hs17 hx17 hB17
    have hz17 := hx17.size
    replace hC := hC.step hx17 (by first | (simp; done) | (simp; omega))
    replace hR := hR.chg hx17 (by simp; omega)
    replace hB4 := hB4.chg hx17 (by simp; omega)
    clear hB1; have hB1 := hB17; clear hB17
    refine EP.nil ?_
    refine EW.ret ?_
    refine Fin.cell rfl rfl (Blk.loadV ag70 (by assumption) (by simp only [List.take, List.drop, List.append, List.cons_append, List.nil_append]; rfl) rfl) ?_
    exact ⟨by rw [hE, if_neg (by rw [g3]; simp)]; rfl, hC, by rw [hE]; exact hR⟩
end Go.Clt
end
section
set_option linter.unusedVariables false
set_option linter.unusedSimpArgs false
set_option maxRecDepth 4000
namespace Go.Clt
set_option maxHeartbeats 2000000
open Go Go.RowKit Go.Proofs
theorem strL_extract (s : ByteArray) (l h : Nat) : strL (s.extract l h) = ((strL s).take h).drop l := by
  unfold strL
  rw [ByteArray.data_extract]
  rw [Array.toList_extract]; simp [List.extract, List.map_take, List.map_drop, List.drop_take]
theorem str_beq (a b : ByteArray) : (a.toList == b.toList) = decide (strL a = strL b) := by
  have h : a.toList = b.toList ↔ strL a = strL b := by
    rw [ByteArray.toList_eq, ByteArray.toList_eq]
    unfold strL
    constructor
    · intro h; rw [h]
    · intro h; exact (List.map_inj_right (fun x y hxy => UInt8.toNat_inj.1 hxy)).1 h
  by_cases hc : strL a = strL b
  · rw [decide_eq_true hc, h.2 hc]; simp
  · rw [decide_eq_false hc]
    have : ¬ a.toList = b.toList := fun h' => hc (h.1 h')
    simpa using this
section
variable {P : Program} {n : Nat} {e : Env} {dst : Option Tmp} {t : TypeId} {p : String} {af : Array Edge} {g : Option (Nat × Bool)} {φ : World → Prop}
theorem Does.sliceLo {τ : TypeId} {x y : Operand} {s : ByteArray} {k : IntKind} {i : Int} (hu : P.underlying τ = some .string) (hx : ev e x = some (.string s)) (hy : ev e y = some (.int k i)) (h0 : 0 ≤ i) (h1 : i ≤ s.size) :
    Does P n e ⟨dst, .slice τ x (some y) none none, t, p, af, g⟩ φ (.string (s.extract i.toNat s.size)) := fun a w ha _ => by
  have h : 0 ≤ i ∧ i ≤ s.size := ⟨h0, h1⟩
  simp [execOp, ha.ev hx, ha.ev hy, Instr.sliceAt, Instr.slice, run_underlying hu, Instr.sliceBounds, Instr.sliceBound, asIntOf, h]
theorem Does.sliceHi {τ : TypeId} {x y : Operand} {s : ByteArray} {k : IntKind} {i : Int} (hu : P.underlying τ = some .string) (hx : ev e x = some (.string s)) (hy : ev e y = some (.int k i)) (h0 : 0 ≤ i) (h1 : i ≤ s.size) :
    Does P n e ⟨dst, .slice τ x none (some y) none, t, p, af, g⟩ φ (.string (s.extract 0 i.toNat)) := fun a w ha _ => by
  have h : 0 ≤ i ∧ i ≤ s.size := ⟨h0, h1⟩
  simp [execOp, ha.ev hx, ha.ev hy, Instr.sliceAt, Instr.slice, run_underlying hu, Instr.sliceBounds, Instr.sliceBound, asIntOf, h]
end
def preB (l q : List Nat) : Bool := decide (q.length ≤ l.length) && decide (l.take q.length = q)
theorem pre0_c (s q : ByteArray) (w : World) : Calls P 224 #[.string s, .string q] w (Ret fun v w' => v = .bool (preB (strL s) (strL q)) ∧ w' = w) := by
  have h1 := strL_length s
  have h2 := strL_length q
  refine enter Tryz.func224 rfl rfl ?_
  refine EW.seq ?_
  refine EW.reg ?_
  refine EP.o rfl (Does.assign rfl) ?_
  refine EP.nil ?_
  refine EW.seq ?_
  refine EW.reg ?_
  refine EP.o rfl (Does.move rfl) ?_
  refine EP.o rfl (Does.lenS Tryz.underlying9 rfl) ?_
  refine EP.o rfl (Does.move rfl) ?_
  refine EP.o rfl (Does.lenS Tryz.underlying9 rfl) ?_
  refine EP.o rfl (Does.cmp rfl rfl rfl) ?_
  refine EP.o rfl (Does.move rfl) ?_
  refine EP.bsplit (d := 10) rfl (fun g1 => ?_) (fun g1 => ?_)
  · try simp at g1
    refine EP.ung rfl rfl rfl ?_
    refine EP.o rfl (Does.move rfl) ?_
    refine EP.ung rfl rfl rfl ?_
    refine EP.o rfl (Does.move rfl) ?_
    refine EP.ung rfl rfl rfl ?_
    refine EP.o rfl (Does.lenS Tryz.underlying9 rfl) ?_
    refine EP.ung rfl rfl rfl ?_
    refine EP.o rfl (Does.sliceHi Tryz.underlying9 rfl rfl (by omega) (by omega)) ?_
    refine EP.ung rfl rfl rfl ?_
    refine EP.o rfl (Does.move rfl) ?_
    refine EP.ung rfl rfl rfl ?_
    refine EP.o rfl (Does.eqS rfl rfl) ?_
    refine EP.o rfl (Does.pickT rfl rfl) ?_
    refine EP.o rfl (Does.assign rfl) ?_
    refine EP.nil ?_
    refine EW.ret ?_
    refine Fin.one rfl rfl ?_
    refine ⟨vbool ?_, rfl⟩
    rw [str_beq, strL_extract]
    unfold preB
    rw [h1, h2, decide_eq_true (by omega : q.size ≤ s.size)]
    simp
  · try simp at g1
    refine EP.skp rfl rfl rfl rfl rfl (fun h => by cases h) ?_
    refine EP.skp rfl rfl rfl rfl rfl (fun h => by cases h) ?_
    refine EP.skp rfl rfl rfl rfl rfl (fun h => by cases h) ?_
    refine EP.skp rfl rfl rfl rfl rfl (fun h => by cases h) ?_
    refine EP.skp rfl rfl rfl rfl rfl (fun h => by cases h) ?_
    refine EP.skp rfl rfl rfl rfl rfl (fun h => by cases h) ?_
    refine EP.o rfl (Does.pickF rfl rfl) ?_
    refine EP.o rfl (Does.assign rfl) ?_
    refine EP.nil ?_
    refine EW.ret ?_
    refine Fin.one rfl rfl ?_
    exact ⟨vbool (by unfold preB; rw [h1, h2, decide_eq_false (by omega)]; rfl), rfl⟩
theorem pre_c (s q : ByteArray) (w : World) : Calls P 207 #[.string s, .string q] w (Ret fun v w' => v = .bool (preB (strL s) (strL q)) ∧ w' = w) := by
  refine enter Tryz.func207 rfl rfl ?_
  refine EW.seq ?_
  refine EW.reg ?_
  refine EP.o rfl (Does.assign rfl) ?_
  refine EP.nil ?_
  refine EW.seq ?_
  refine EW.reg ?_
  refine EP.o rfl (Does.move rfl) ?_
  refine EP.o rfl (Does.move rfl) ?_
  refine EP.call2 rfl (Enters.fn fb224 rfl) (pre0_c s q _) ?_
  rintro _ _ ⟨rfl, rfl⟩
  refine EP.o rfl (Does.assign rfl) ?_
  refine EP.nil ?_
  refine EW.ret ?_
  refine Fin.one rfl rfl ?_
  exact ⟨rfl, rfl⟩
end Go.Clt
end
section
set_option linter.unusedVariables false
set_option linter.unusedSimpArgs false
set_option maxRecDepth 4000
namespace Go.Clt
set_option maxHeartbeats 2000000
open Go Go.RowKit Go.Proofs
theorem numberL_stop {L : List Nat} {q : Ps} (h : ¬ (q.e = 0 ∧ digitB L q = true)) (f n : Nat) : numberL L f n q = (n, q) := by
  cases f with
  | zero => rfl
  | succ f => unfold numberL; rw [if_neg h]
theorem numberL_le {L : List Nat} : ∀ (f n : Nat) (q : Ps), n ≤ 1001 → (numberL L f n q).1 ≤ 1001
  | 0, n, q, h => h
  | f + 1, n, q, h => by
    unfold numberL
    split
    · exact numberL_le f _ _ (by omega)
    · exact h
theorem number_c (s : ByteArray) (p : Ps) (sl : Value) (b : Nat) (w : World) (hs : s.size ≤ 1048576) (hp : p.i ≤ s.size) (hR : Blk w b (rdC s p sl) 239) : Calls P 225 #[.pointer (some ⟨b, 0, none⟩)] w (Ret fun v w' => v = .int .i64 ((numberP (strL s) p).1 : Nat) ∧ Chg [b] w w' ∧ Blk w' b (rdC s (numberP (strL s) p).2 sl) 239) := by
  have hC := Chg.refl [b] w
  have hle : (strL s).length = s.size := strL_length s
  try have hlR := hR.lt
  refine enter Tryz.func225 rfl rfl ?_
  refine EW.seq ?_
  refine EW.reg ?_
  refine EP.o rfl (Does.assign rfl) ?_
  refine EP.nil ?_
  refine EW.seq ?_
  refine EW.reg ?_
  refine EP.o rfl (Does.move rfl) ?_
  refine EP.o rfl (Does.nilCheck rfl) ?_
  refine EP.o rfl (Does.fieldAddr fl239_0 rfl) ?_
  refine EP.o rfl (Does.fieldAddr fl237_1 rfl) ?_
  refine EP.o rfl (Does.loadB o3 rfl (Keeps.now _) (by assumption) (by rfl)) ?_
  refine EP.o rfl (Does.assign rfl) ?_
  refine EP.o rfl (Does.assign rfl) ?_
  refine EP.nil ?_
  refine EW.cut (fun e9 wr => Sub [(0, .pointer (some ⟨b, 0, none⟩)), (3, .int .i64 (p.i : Int)), (4, .int .i64 0)] e9 ∧ Chg [b] w wr ∧ Blk wr b (rdC s (if digitB (strL s) p then p else p.fail p.i 4) sl) 239) ?_ ?_
  · refine EW.seq ?_
    refine EW.reg ?_
    refine EP.o rfl (Does.move rfl) ?_
    refine EP.call2 rfl (Enters.fn fb236 rfl) (digits_c s p sl b _ (by assumption)) ?_
    rintro _ w1 ⟨rfl, hx1⟩
    have hz1 := hx1.size
    replace hC := hC.step0 hx1
    replace hR := hR.chg0 hx1
    refine EP.o rfl (Does.not rfl) ?_
    refine EP.nil ?_
    refine EW.cond rfl (fun g1 => ?_) (fun g1 => ?_)
    · try simp at g1
      refine EW.drw' (S := []) 8 [(0, 0), (0, 1), (0, 2), (0, 3), (0, 4), (0, 5), (0, 6), (0, 7), (2, 8)] mo (by kernel_rfl) ?_
      intro w2 hx2 hh2
      have hz2 := hx2.size
      replace hC := hC.step0 hx2
      replace hR := hR.chg0 hx2
      refine EP.f rfl (Does.move rfl) ?_
      refine EP.f rfl (Does.nilCheck rfl) ?_
      refine EP.f rfl (Does.fieldAddr fl239_0 rfl) ?_
      refine EP.f rfl (Does.move rfl) ?_
      refine EP.f rfl (Does.nilCheck rfl) ?_
      refine EP.f rfl (Does.fieldAddr fl239_0 rfl) ?_
      refine EP.f rfl (Does.fieldAddr fl237_1 rfl) ?_
      refine EP.f rfl (Does.loadBc o3 rfl (by assumption) (by first | (simp; done) | (simp; omega)) (by rfl)) ?_
      refine EP.call2 rfl (Enters.fn fb180 rfl) (fail_c s _ sl b p.i 4 _ (by assumption)) ?_
      rintro _ w3 ⟨rfl, hx3, hR'⟩
      have hz3 := hx3.size
      replace hC := hC.step hx3 (by first | (simp; done) | (simp; omega))
      clear hR
      have hR := hR'; clear hR'
      refine EP.nil ?_
      refine ⟨⟨rfl, rfl, rfl, trivial⟩, ?_⟩
      exact ⟨hC, by rw [if_neg (by rw [g1]; simp)]; exact hR⟩
    · try simp at g1
      refine EW.skip ?_
      refine ⟨⟨rfl, rfl, rfl, trivial⟩, ?_⟩
      exact ⟨hC, by rw [if_pos g1]; exact hR⟩
  rintro e9 w9 ⟨hs9, hC, hR⟩
  refine EW.sub _ hs9 ?_
  clear hs9 e9
  try have hzw := hC.size
  have hf : Fine (strL s).length 0 p (if digitB (strL s) p then p else p.fail p.i 4) := Fine.ite (Fine.refl (by omega)) (Fine.fail (by omega) (by omega) (by decide))
  have hE : numberP (strL s) p = ((numberL (strL s) ((strL s).length + 1) 0 (if digitB (strL s) p then p else p.fail p.i 4)).1, if 1000 < (numberL (strL s) ((strL s).length + 1) 0 (if digitB (strL s) p then p else p.fail p.i 4)).1 then (numberL (strL s) ((strL s).length + 1) 0 (if digitB (strL s) p then p else p.fail p.i 4)).2.fail p.i 5 else (numberL (strL s) ((strL s).length + 1) 0 (if digitB (strL s) p then p else p.fail p.i 4)).2) := rfl
  generalize (if digitB (strL s) p then p else p.fail p.i 4) = q0 at *
  have hq0 := hf.le
  have hnle := numberL_le (L := strL s) ((strL s).length + 1) 0 q0 (by omega)
  generalize hr : numberL (strL s) ((strL s).length + 1) 0 q0 = r at *
  try have hlR := hR.lt
  refine EW.cut (fun e9 wr => Sub [(0, .pointer (some ⟨b, 0, none⟩)), (3, .int .i64 (p.i : Int)), (4, .int .i64 (r.1 : Int))] e9 ∧ Chg [b] w wr ∧ Blk wr b (rdC s r.2 sl) 239) ?_ ?_
  · refine EW.block ?_
    refine EW.loop (σ := Nat × Nat × Ps) (fun (f, t, q) => [(0, .pointer (some ⟨b, 0, none⟩)), (3, .int .i64 (p.i : Int)), (4, .int .i64 (t : Int))]) (fun (f, t, q) wr => Chg [b] w wr ∧ Blk wr b (rdC s q sl) 239 ∧ numberL (strL s) f t q = r ∧ q.i ≤ (strL s).length ∧ (strL s).length < q.i + f ∧ t ≤ 1001) (fun (f, t, q) wr => f) ((strL s).length + 1, 0, q0) ⟨rfl, rfl, rfl, trivial⟩ ?_ ?_
    · exact ⟨hC, hR, hr, hq0, by omega, by omega⟩
    rintro ⟨f, t, q⟩ w8 ⟨hC, hR, hr, hqi, hfu, ht⟩
    try have hzw := hC.size
    refine EW.seq ?_
    refine EW.seq ?_
    refine EW.reg ?_
    refine EP.o rfl (Does.move rfl) ?_
    refine EP.o rfl (Does.nilCheck rfl) ?_
    refine EP.o rfl (Does.fieldAddr fl239_0 rfl) ?_
    refine EP.call2 rfl (Enters.fn fb148 rfl) (bad_c s _ sl b _ (by assumption)) ?_
    rintro _ _ ⟨rfl, rfl⟩
    refine EP.o rfl (Does.not rfl) ?_
    refine EP.o rfl (Does.move rfl) ?_
    refine EP.bsplit (d := 27) rfl (fun g2 => ?_) (fun g2 => ?_)
    · try simp at g2
      refine EP.ung rfl rfl rfl ?_
      refine EP.o rfl (Does.move rfl) ?_
      refine EP.ung rfl rfl rfl ?_
      refine EP.call2 rfl (Enters.fn fb236 rfl) (digits_c s q sl b _ (by assumption)) ?_
      rintro _ w5 ⟨rfl, hx5⟩
      have hz5 := hx5.size
      replace hC := hC.step0 hx5
      replace hR := hR.chg0 hx5
      refine EP.o rfl (Does.pickT rfl rfl) ?_
      refine EP.nil ?_
      refine EW.cond rfl (fun g3 => ?_) (fun g3 => ?_)
      · try simp at g3
        have hlt := digitB_lt g3
        obtain ⟨f, rfl⟩ : ∃ g, f = g + 1 := ⟨f - 1, by omega⟩
        have hcl : numberL (strL s) (f + 1) t q = numberL (strL s) f (min (10 * t + (peekC (strL s) q - 48)) 1001) (q.go 1) := by
          show (if q.e = 0 ∧ digitB (strL s) q = true then _ else _) = _
          rw [if_pos ⟨g2, g3⟩]
        obtain ⟨u, hu, hu2⟩ := peek_at s q (by omega)
        have hd : 48 ≤ peekC (strL s) q ∧ peekC (strL s) q ≤ 57 := by unfold digitB at g3; simp at g3; omega
        refine EW.skip ?_
        refine EW.block ?_
        refine EW.seq ?_
        refine EW.drw' (S := []) 15 [(0, 0), (0, 1), (0, 2), (0, 3), (0, 4), (0, 5), (0, 6), (0, 7), (0, 8), (0, 9), (0, 10), (0, 11), (0, 12), (0, 13), (0, 14), (2, 15), (2, 16), (2, 17)] mo (by kernel_rfl) ?_
        intro w6 hx6 hh6
        have hz6 := hx6.size
        replace hC := hC.step0 hx6
        replace hR := hR.chg0 hx6
        refine EP.f rfl (Does.move rfl) ?_
        refine EP.f rfl (Does.muli rfl rfl (by omega)) ?_
        refine EP.f rfl (Does.move rfl) ?_
        refine EP.f rfl (Does.nilCheck rfl) ?_
        refine EP.f rfl (Does.fieldAddr fl239_0 rfl) ?_
        refine EP.f rfl (Does.fieldAddr fl237_0 rfl) ?_
        refine EP.f rfl (Does.loadBc o9 rfl (by assumption) (by first | (simp; done) | (simp; omega)) (by rfl)) ?_
        refine EP.f rfl (Does.move rfl) ?_
        refine EP.f rfl (Does.nilCheck rfl) ?_
        refine EP.f rfl (Does.fieldAddr fl239_0 rfl) ?_
        refine EP.f rfl (Does.fieldAddr fl237_1 rfl) ?_
        refine EP.f rfl (Does.loadBc o3 rfl (by assumption) (by first | (simp; done) | (simp; omega)) (by rfl)) ?_
        refine EP.f rfl (Does.indexS Tryz.underlying9 rfl rfl (by omega) (by exact hu)) ?_
        refine EP.f rfl (Does.to (Does.sub rfl rfl) (vint (show _ = ((peekC (strL s) q - 48 : Nat) : Int) by rw [wu8, hu2]; omega))) ?_
        refine EP.f rfl (Does.convw kn5 Tryz.underlying3 rfl (by exact wrap_i64 (by omega))) ?_
        refine EP.o rfl (Does.addi rfl rfl (by omega)) ?_
        refine EP.o rfl (Does.to (Does.min rfl rfl) (vint (show _ = ((min (10 * t + (peekC (strL s) q - 48)) 1001 : Nat) : Int) by omega))) ?_
        refine EP.o rfl (Does.assign rfl) ?_
        refine EP.nil ?_
        refine EW.reg ?_
        refine EP.o rfl (Does.move rfl) ?_
        refine EP.o rfl (Does.nilCheck rfl) ?_
        refine EP.o rfl (Does.fieldAddr fl239_0 rfl) ?_
        refine EP.o rfl (Does.fieldAddr fl237_1 rfl) ?_
        refine EP.o rfl (Does.loadB o3 rfl (Keeps.now _) (by assumption) (by rfl)) ?_
        refine EP.o rfl (Does.addi rfl rfl (by omega)) ?_
        refine EP.o rfl (Does.nilCheck rfl) ?_
        refine EP.o rfl (Does.fieldAddr fl239_0 rfl) ?_
        refine EP.o rfl (Does.fieldAddr fl237_1 rfl) ?_
        refine EP.put2 (Puts.blk sz3 rfl rfl (by assumption) rfl rfl rfl rfl (by simp only [List.take, List.drop, List.append, List.cons_append, List.nil_append]; rfl)) ?_
        intro w7 hs7 hx7 hB7
        have hz7 := hx7.size
        replace hC := hC.step hx7 (by first | (simp; done) | (simp; omega))
        clear hR; have hR := hB7; clear hB7
        refine EP.nil ?_
        refine ⟨(f, min (10 * t + (peekC (strL s) q - 48)) 1001, q.go 1), ⟨rfl, rfl, rfl, trivial⟩, ?_, ?_⟩
        refine ⟨hC, hR, by rw [← hcl]; exact hr, ?_, ?_, by omega⟩
        show q.i + 1 ≤ _
        omega
        show (strL s).length < (q.i + 1) + f
        omega
        exact Nat.lt_succ_self f
      · try simp at g3
        refine EW.exit (brk_here ?_)
        refine ⟨⟨rfl, rfl, (lk_int rfl (by rw [← hr, numberL_stop (by rw [g3]; simp)])), trivial⟩, ?_⟩
        exact ⟨hC, by rw [← hr, numberL_stop (by rw [g3]; simp)]; exact hR⟩
    · try simp at g2
      refine EP.skp rfl rfl rfl rfl rfl (fun h => by cases h) ?_
      refine EP.skp rfl rfl rfl rfl rfl (fun h => by cases h) ?_
      refine EP.o rfl (Does.pickF rfl rfl) ?_
      refine EP.nil ?_
      refine EW.condF rfl ?_
      refine EW.exit (brk_here ?_)
      refine ⟨⟨rfl, rfl, (lk_int rfl (by rw [← hr, numberL_stop (by intro h; exact absurd h.1 (by simpa using g2))])), trivial⟩, ?_⟩
      exact ⟨hC, by rw [← hr, numberL_stop (by intro h; exact absurd h.1 (by simpa using g2))]; exact hR⟩
  rintro e9 w7 ⟨hs9, hC, hR⟩
  refine EW.sub _ hs9 ?_
  clear hs9 e9
  try have hzw := hC.size
  try have hlR := hR.lt
  refine EW.seq ?_
  refine EW.seq ?_
  refine EW.reg ?_
  refine EP.o rfl (Does.move rfl) ?_
  refine EP.o rfl (Does.cmp rfl rfl rfl) ?_
  refine EP.nil ?_
  refine EW.cond rfl (fun g4 => ?_) (fun g4 => ?_)
  · try simp at g4
    refine EW.reg ?_
    refine EP.o rfl (Does.move rfl) ?_
    refine EP.o rfl (Does.nilCheck rfl) ?_
    refine EP.o rfl (Does.fieldAddr fl239_0 rfl) ?_
    refine EP.o rfl (Does.move rfl) ?_
    refine EP.call2 rfl (Enters.fn fb180 rfl) (fail_c s _ sl b p.i 5 _ (by assumption)) ?_
    rintro _ w8 ⟨rfl, hx8, hR'⟩
    have hz8 := hx8.size
    replace hC := hC.step hx8 (by first | (simp; done) | (simp; omega))
    clear hR
    have hR := hR'; clear hR'
    refine EP.nil ?_
    refine EW.seq ?_
    refine EW.reg ?_
    refine EP.o rfl (Does.move rfl) ?_
    refine EP.o rfl (Does.assign rfl) ?_
    refine EP.nil ?_
    refine EW.ret ?_
    refine Fin.one rfl rfl ?_
    exact ⟨by rw [hE], hC, by rw [hE]; dsimp only; rw [if_pos (by omega)]; exact hR⟩
  · try simp at g4
    refine EW.skip ?_
    refine EW.seq ?_
    refine EW.reg ?_
    refine EP.o rfl (Does.move rfl) ?_
    refine EP.o rfl (Does.assign rfl) ?_
    refine EP.nil ?_
    refine EW.ret ?_
    refine Fin.one rfl rfl ?_
    exact ⟨by rw [hE], hC, by rw [hE]; dsimp only; rw [if_neg (by omega)]; exact hR⟩
end Go.Clt
end
section
set_option linter.unusedVariables false
set_option linter.unusedSimpArgs false
set_option maxRecDepth 4000
namespace Go.Clt
set_option maxHeartbeats 2000000
open Go Go.RowKit Go.Proofs
def bracesM (L : List Nat) (lo : Nat × Ps) : Int × Ps :=
  if lo.2.e = 0 ∧ isB L lo.2 44 then
    let q := lo.2.go 1
    if ¬ q.i < L.length ∨ peekC L q ≠ 125 then
      let hi := numberP L q
      ((hi.1 : Int), if hi.2.e = 0 ∧ hi.1 < lo.1 then hi.2.fail q.i 5 else hi.2)
    else (-1, q)
  else ((lo.1 : Int), lo.2)
theorem bracesP_eq (L : List Nat) (p : Ps) : bracesP L p = (((numberP L p).1 : Int), (bracesM L (numberP L p)).1, if (bracesM L (numberP L p)).2.e = 0 then (if isB L (bracesM L (numberP L p)).2 125 then (bracesM L (numberP L p)).2.go 1 else (bracesM L (numberP L p)).2.fail (bracesM L (numberP L p)).2.i 4) else (bracesM L (numberP L p)).2) := rfl
theorem bracesM_le (L : List Nat) (lo : Nat × Ps) (h : lo.2.i ≤ L.length) : (bracesM L lo).2.i ≤ L.length := by
  unfold bracesM
  split
  · rename_i hb
    have hg : Fine L.length 1 lo.2 (lo.2.go 1) := Fine.go (isB_lt hb.2)
    dsimp only
    split
    · exact (Fine.ite ((numberP_fine hg.le).thenFail hg.le (by decide)) (numberP_fine hg.le)).le
    · exact hg.le
  · exact h
theorem braces_c (s : ByteArray) (p : Ps) (sl : Value) (b : Nat) (w : World) (hs : s.size ≤ 1048576) (hp : p.i ≤ s.size) (hR : Blk w b (rdC s p sl) 239) : Calls P 208 #[.pointer (some ⟨b, 0, none⟩)] w (Ret fun v w' => v = .tuple #[.int .i64 (bracesP (strL s) p).1, .int .i64 (bracesP (strL s) p).2.1] ∧ Chg [b] w w' ∧ Blk w' b (rdC s (bracesP (strL s) p).2.2 sl) 239) := by
  have hC := Chg.refl [b] w
  have hle : (strL s).length = s.size := strL_length s
  have hf1 := numberP_fine (L := strL s) (p := p) (by omega)
  have hq1 := hf1.le
  try have hlR := hR.lt
  refine enter Tryz.func208 rfl rfl ?_
  refine EW.seq ?_
  refine EW.reg ?_
  refine EP.o rfl (Does.assign rfl) ?_
  refine EP.o rfl (Does.assign rfl) ?_
  refine EP.nil ?_
  refine EW.seq ?_
  refine EW.reg ?_
  refine EP.o rfl (Does.move rfl) ?_
  refine EP.call2 rfl (Enters.fn fb225 rfl) (number_c s p sl b _ hs hp (by assumption)) ?_
  rintro _ w1 ⟨rfl, hx1, hR'⟩
  have hz1 := hx1.size
  replace hC := hC.step hx1 (by first | (simp; done) | (simp; omega))
  clear hR
  have hR := hR'; clear hR'
  rw [bracesP_eq]
  have hm1 := bracesM_le (strL s) (numberP (strL s) p) hq1
  generalize hlo : numberP (strL s) p = lo at *
  refine EP.o rfl (Does.assign rfl) ?_
  refine EP.nil ?_
  refine EW.seq ?_
  refine EW.reg ?_
  refine EP.o rfl (Does.move rfl) ?_
  refine EP.o rfl (Does.assign rfl) ?_
  refine EP.nil ?_
  refine EW.cut (fun e9 wr => Sub [(0, .pointer (some ⟨b, 0, none⟩)), (4, .int .i64 (lo.1 : Int)), (5, .int .i64 (bracesM (strL s) lo).1)] e9 ∧ Chg [b] w wr ∧ Blk wr b (rdC s (bracesM (strL s) lo).2 sl) 239) ?_ ?_
  · refine EW.seq ?_
    refine EW.reg ?_
    refine EP.o rfl (Does.move rfl) ?_
    refine EP.o rfl (Does.nilCheck rfl) ?_
    refine EP.o rfl (Does.fieldAddr fl239_0 rfl) ?_
    refine EP.call2 rfl (Enters.fn fb148 rfl) (bad_c s _ sl b _ (by assumption)) ?_
    rintro _ _ ⟨rfl, rfl⟩
    refine EP.o rfl (Does.not rfl) ?_
    refine EP.o rfl (Does.move rfl) ?_
    refine EP.bsplit (d := 17) rfl (fun g1 => ?_) (fun g1 => ?_)
    · try simp at g1
      refine EP.ung rfl rfl rfl ?_
      refine EP.o rfl (Does.move rfl) ?_
      refine EP.ung rfl rfl rfl ?_
      refine EP.o rfl (Does.nilCheck rfl) ?_
      refine EP.ung rfl rfl rfl ?_
      refine EP.o rfl (Does.fieldAddr fl239_0 rfl) ?_
      refine EP.ung rfl rfl rfl ?_
      refine EP.call2 rfl (Enters.fn fb205 rfl) (is_c s _ sl b 44 _ hs (by assumption)) ?_
      rintro _ w3 ⟨rfl, hx3, hR'⟩
      have hz3 := hx3.size
      replace hC := hC.step hx3 (by first | (simp; done) | (simp; omega))
      clear hR
      have hR := hR'; clear hR'
      refine EP.o rfl (Does.pickT rfl rfl) ?_
      refine EP.nil ?_
      refine EW.cond rfl (fun g2 => ?_) (fun g2 => ?_)
      · try simp at g2
        have hS : isS (strL s) lo.2 44 = lo.2.go 1 := by unfold isS; rw [g2]; rfl
        rw [hS] at hR
        have hg : Fine (strL s).length 1 lo.2 (lo.2.go 1) := Fine.go (isB_lt g2)
        have hgl := hg.le
        have hM : bracesM (strL s) lo = if ¬ (lo.2.go 1).i < (strL s).length ∨ peekC (strL s) (lo.2.go 1) ≠ 125 then (((numberP (strL s) (lo.2.go 1)).1 : Int), if (numberP (strL s) (lo.2.go 1)).2.e = 0 ∧ (numberP (strL s) (lo.2.go 1)).1 < lo.1 then (numberP (strL s) (lo.2.go 1)).2.fail (lo.2.go 1).i 5 else (numberP (strL s) (lo.2.go 1)).2) else (-1, lo.2.go 1) := by unfold bracesM; rw [if_pos ⟨g1, g2⟩]
        refine EW.seq ?_
        refine EW.reg ?_
        refine EP.o rfl (Does.assign rfl) ?_
        refine EP.nil ?_
        refine EW.seq ?_
        refine EW.reg ?_
        refine EP.o rfl (Does.move rfl) ?_
        refine EP.o rfl (Does.nilCheck rfl) ?_
        refine EP.o rfl (Does.fieldAddr fl239_0 rfl) ?_
        refine EP.call2 rfl (Enters.fn fb202 rfl) (peek_c s (lo.2.go 1) sl b _ (by assumption)) ?_
        rintro _ w4 ⟨rfl, hx4⟩
        have hz4 := hx4.size
        replace hC := hC.step0 hx4
        replace hR := hR.chg0 hx4
        refine EP.o rfl (Does.move rfl) ?_
        refine EP.o rfl (Does.extract rfl rfl) ?_
        refine EP.o rfl (Does.extract rfl rfl) ?_
        refine EP.o rfl (Does.assign rfl) ?_
        refine EP.o rfl (Does.assign rfl) ?_
        refine EP.nil ?_
        refine EW.cut (fun e9 wr => Sub [(0, .pointer (some ⟨b, 0, none⟩)), (4, .int .i64 (lo.1 : Int)), (5, .int .i64 (-1)), (35, .bool (decide (¬ (lo.2.go 1).i < (strL s).length ∨ peekC (strL s) (lo.2.go 1) ≠ 125)))] e9 ∧ Chg [b] w wr ∧ Blk wr b (rdC s (lo.2.go 1) sl) 239) ?_ ?_
        · refine EW.reg ?_
          refine EP.o rfl (Does.move rfl) ?_
          refine EP.o rfl (Does.not rfl) ?_
          refine EP.o rfl (Does.move rfl) ?_
          refine EP.bsplit (d := 32) rfl (fun g3 => ?_) (fun g3 => ?_)
          · try simp at g3
            refine EP.skp rfl rfl rfl rfl rfl (fun h => by cases h) ?_
            refine EP.skp rfl rfl rfl rfl rfl (fun h => by cases h) ?_
            refine EP.o rfl (Does.pickT rfl rfl) ?_
            refine EP.nil ?_
            refine ⟨⟨rfl, rfl, rfl, (lk_bool rfl (by rw [decide_eq_true (Or.inl (by omega))])), trivial⟩, ?_⟩
            exact ⟨hC, hR⟩
          · try simp at g3
            refine EP.ung rfl rfl rfl ?_
            refine EP.o rfl (Does.move rfl) ?_
            refine EP.ung rfl rfl rfl ?_
            refine EP.o rfl (Does.cmp rfl rfl rfl) ?_
            refine EP.o rfl (Does.pickF rfl rfl) ?_
            refine EP.nil ?_
            refine ⟨⟨rfl, rfl, rfl, (lk_bool rfl (by by_cases h : peekC (strL s) (lo.2.go 1) = 125 <;> simp [cmpB, h, hle, g3] <;> omega)), trivial⟩, ?_⟩
            exact ⟨hC, hR⟩
        rintro e9 w9 ⟨hs9, hC, hR⟩
        refine EW.sub _ hs9 ?_
        clear hs9 e9
        try have hzw := hC.size
        try have hlR := hR.lt
        refine EW.cond rfl (fun g4 => ?_) (fun g4 => ?_)
        · try simp at g4
          refine EW.seq ?_
          refine EW.reg ?_
          refine EP.o rfl (Does.move rfl) ?_
          refine EP.o rfl (Does.nilCheck rfl) ?_
          refine EP.o rfl (Does.fieldAddr fl239_0 rfl) ?_
          refine EP.o rfl (Does.fieldAddr fl237_1 rfl) ?_
          refine EP.o rfl (Does.loadB o3 rfl (Keeps.now _) (by assumption) (by rfl)) ?_
          refine EP.o rfl (Does.assign rfl) ?_
          refine EP.nil ?_
          refine EW.seq ?_
          refine EW.reg ?_
          refine EP.o rfl (Does.move rfl) ?_
          refine EP.call2 rfl (Enters.fn fb225 rfl) (number_c s (lo.2.go 1) sl b _ hs (by omega) (by assumption)) ?_
          rintro _ w5 ⟨rfl, hx5, hR'⟩
          have hz5 := hx5.size
          replace hC := hC.step hx5 (by first | (simp; done) | (simp; omega))
          clear hR
          have hR := hR'; clear hR'
          refine EP.o rfl (Does.assign rfl) ?_
          refine EP.nil ?_
          refine EW.seq ?_
          refine EW.reg ?_
          refine EP.o rfl (Does.move rfl) ?_
          refine EP.o rfl (Does.nilCheck rfl) ?_
          refine EP.o rfl (Does.fieldAddr fl239_0 rfl) ?_
          refine EP.call2 rfl (Enters.fn fb148 rfl) (bad_c s _ sl b _ (by assumption)) ?_
          rintro _ _ ⟨rfl, rfl⟩
          refine EP.o rfl (Does.not rfl) ?_
          refine EP.o rfl (Does.move rfl) ?_
          refine EP.bsplit (d := 48) rfl (fun g5 => ?_) (fun g5 => ?_)
          · try simp at g5
            refine EP.ung rfl rfl rfl ?_
            refine EP.o rfl (Does.move rfl) ?_
            refine EP.ung rfl rfl rfl ?_
            refine EP.o rfl (Does.move rfl) ?_
            refine EP.ung rfl rfl rfl ?_
            refine EP.o rfl (Does.cmp rfl rfl rfl) ?_
            refine EP.o rfl (Does.pickT rfl rfl) ?_
            refine EP.nil ?_
            refine EW.cond rfl (fun g6 => ?_) (fun g6 => ?_)
            · try simp at g6
              refine EW.reg ?_
              refine EP.o rfl (Does.move rfl) ?_
              refine EP.o rfl (Does.nilCheck rfl) ?_
              refine EP.o rfl (Does.fieldAddr fl239_0 rfl) ?_
              refine EP.o rfl (Does.move rfl) ?_
              refine EP.call2 rfl (Enters.fn fb180 rfl) (fail_c s _ sl b (lo.2.go 1).i 5 _ (by assumption)) ?_
              rintro _ w7 ⟨rfl, hx7, hR'⟩
              have hz7 := hx7.size
              replace hC := hC.step hx7 (by first | (simp; done) | (simp; omega))
              clear hR
              have hR := hR'; clear hR'
              refine EP.nil ?_
              refine ⟨⟨rfl, rfl, (lk_int rfl (by rw [hM, if_pos (by omega)])), trivial⟩, ?_⟩
              exact ⟨hC, by rw [hM, if_pos (by omega)]; dsimp only; rw [if_pos ⟨g5, by omega⟩]; exact hR⟩
            · try simp at g6
              refine EW.skip ?_
              refine ⟨⟨rfl, rfl, (lk_int rfl (by rw [hM, if_pos (by omega)])), trivial⟩, ?_⟩
              exact ⟨hC, by rw [hM, if_pos (by omega)]; dsimp only; rw [if_neg (by omega)]; exact hR⟩
          · try simp at g5
            refine EP.skp rfl rfl rfl rfl rfl (fun h => by cases h) ?_
            refine EP.skp rfl rfl rfl rfl rfl (fun h => by cases h) ?_
            refine EP.skp rfl rfl rfl rfl rfl (fun h => by cases h) ?_
            refine EP.o rfl (Does.pickF rfl rfl) ?_
            refine EP.nil ?_
            refine EW.condF rfl ?_
            refine EW.skip ?_
            refine ⟨⟨rfl, rfl, (lk_int rfl (by rw [hM, if_pos (by omega)])), trivial⟩, ?_⟩
            exact ⟨hC, by rw [hM, if_pos (by omega)]; dsimp only; rw [if_neg (by intro h; exact absurd h.1 (by simpa using g5))]; exact hR⟩
        · try simp at g4
          refine EW.skip ?_
          refine ⟨⟨rfl, rfl, (lk_int rfl (by rw [hM, if_neg (by omega)])), trivial⟩, ?_⟩
          exact ⟨hC, by rw [hM, if_neg (by omega)]; exact hR⟩
      · try simp at g2
        have hS : isS (strL s) lo.2 44 = lo.2 := by unfold isS; rw [g2]; rfl
        have hM : bracesM (strL s) lo = ((lo.1 : Int), lo.2) := by unfold bracesM; rw [if_neg (by rw [g2]; simp)]
        refine EW.skip ?_
        refine ⟨⟨rfl, rfl, (lk_int rfl (by rw [hM])), trivial⟩, ?_⟩
        exact ⟨hC, by rw [hM]; rw [hS] at hR; exact hR⟩
    · try simp at g1
      have hM : bracesM (strL s) lo = ((lo.1 : Int), lo.2) := by unfold bracesM; rw [if_neg (by intro h; exact absurd h.1 (by simpa using g1))]
      refine EP.skp rfl rfl rfl rfl rfl (fun h => by cases h) ?_
      refine EP.skp rfl rfl rfl rfl rfl (fun h => by cases h) ?_
      refine EP.skp rfl rfl rfl rfl rfl (fun h => by cases h) ?_
      refine EP.skp rfl rfl rfl rfl rfl (fun h => by cases h) ?_
      refine EP.o rfl (Does.pickF rfl rfl) ?_
      refine EP.nil ?_
      refine EW.condF rfl ?_
      refine EW.skip ?_
      refine ⟨⟨rfl, rfl, (lk_int rfl (by rw [hM])), trivial⟩, ?_⟩
      exact ⟨hC, by rw [hM]; exact hR⟩
  rintro e9 w8 ⟨hs9, hC, hR⟩
  refine EW.sub _ hs9 ?_
  clear hs9 e9
  try have hzw := hC.size
  generalize bracesM (strL s) lo = m at *
  try have hlR := hR.lt
  refine EW.seq ?_
  refine EW.seq ?_
  refine EW.reg ?_
  refine EP.o rfl (Does.move rfl) ?_
  refine EP.o rfl (Does.nilCheck rfl) ?_
  refine EP.o rfl (Does.fieldAddr fl239_0 rfl) ?_
  refine EP.call2 rfl (Enters.fn fb148 rfl) (bad_c s _ sl b _ (by assumption)) ?_
  rintro _ _ ⟨rfl, rfl⟩
  refine EP.o rfl (Does.not rfl) ?_
  refine EP.o rfl (Does.move rfl) ?_
  refine EP.bsplit (d := 63) rfl (fun g7 => ?_) (fun g7 => ?_)
  · try simp at g7
    refine EP.ung rfl rfl rfl ?_
    refine EP.o rfl (Does.move rfl) ?_
    refine EP.ung rfl rfl rfl ?_
    refine EP.o rfl (Does.nilCheck rfl) ?_
    refine EP.ung rfl rfl rfl ?_
    refine EP.o rfl (Does.fieldAddr fl239_0 rfl) ?_
    refine EP.ung rfl rfl rfl ?_
    refine EP.call2 rfl (Enters.fn fb205 rfl) (is_c s m.2 sl b 125 _ hs (by assumption)) ?_
    rintro _ w9 ⟨rfl, hx9, hR'⟩
    have hz9 := hx9.size
    replace hC := hC.step hx9 (by first | (simp; done) | (simp; omega))
    clear hR
    have hR := hR'; clear hR'
    refine EP.ung rfl rfl rfl ?_
    refine EP.o rfl (Does.not rfl) ?_
    refine EP.o rfl (Does.pickT rfl rfl) ?_
    refine EP.nil ?_
    refine EW.cond rfl (fun g8 => ?_) (fun g8 => ?_)
    · try simp at g8
      have hS : isS (strL s) m.2 125 = m.2 := by unfold isS; rw [g8]; rfl
      rw [hS] at hR
      refine EW.drw' (S := []) 8 [(0, 0), (0, 1), (0, 2), (0, 3), (0, 4), (0, 5), (0, 6), (0, 7), (2, 8)] mo (by kernel_rfl) ?_
      intro w10 hx10 hh10
      have hz10 := hx10.size
      replace hC := hC.step0 hx10
      replace hR := hR.chg0 hx10
      refine EP.f rfl (Does.move rfl) ?_
      refine EP.f rfl (Does.nilCheck rfl) ?_
      refine EP.f rfl (Does.fieldAddr fl239_0 rfl) ?_
      refine EP.f rfl (Does.move rfl) ?_
      refine EP.f rfl (Does.nilCheck rfl) ?_
      refine EP.f rfl (Does.fieldAddr fl239_0 rfl) ?_
      refine EP.f rfl (Does.fieldAddr fl237_1 rfl) ?_
      refine EP.f rfl (Does.loadBc o3 rfl (by assumption) (by first | (simp; done) | (simp; omega)) (by rfl)) ?_
      refine EP.call2 rfl (Enters.fn fb180 rfl) (fail_c s _ sl b m.2.i 4 _ (by assumption)) ?_
      rintro _ w11 ⟨rfl, hx11, hR'⟩
      have hz11 := hx11.size
      replace hC := hC.step hx11 (by first | (simp; done) | (simp; omega))
      clear hR
      have hR := hR'; clear hR'
      refine EP.nil ?_
      refine EW.seq ?_
      refine EW.reg ?_
      refine EP.o rfl (Does.move rfl) ?_
      refine EP.o rfl (Does.move rfl) ?_
      refine EP.o rfl (Does.assign rfl) ?_
      refine EP.o rfl (Does.assign rfl) ?_
      refine EP.nil ?_
      refine EW.ret ?_
      refine Fin.two rfl rfl rfl ?_
      exact ⟨rfl, hC, by dsimp only; rw [if_pos g7, if_neg (by rw [g8]; simp)]; exact hR⟩
    · try simp at g8
      have hS : isS (strL s) m.2 125 = m.2.go 1 := by unfold isS; rw [g8]; rfl
      rw [hS] at hR
      refine EW.skip ?_
      refine EW.seq ?_
      refine EW.reg ?_
      refine EP.o rfl (Does.move rfl) ?_
      refine EP.o rfl (Does.move rfl) ?_
      refine EP.o rfl (Does.assign rfl) ?_
      refine EP.o rfl (Does.assign rfl) ?_
      refine EP.nil ?_
      refine EW.ret ?_
      refine Fin.two rfl rfl rfl ?_
      exact ⟨rfl, hC, by dsimp only; rw [if_pos g7, if_pos g8]; exact hR⟩
  · try simp at g7
    refine EP.skp rfl rfl rfl rfl rfl (fun h => by cases h) ?_
    refine EP.skp rfl rfl rfl rfl rfl (fun h => by cases h) ?_
    refine EP.skp rfl rfl rfl rfl rfl (fun h => by cases h) ?_
    refine EP.skp rfl rfl rfl rfl rfl (fun h => by cases h) ?_
    refine EP.skp rfl rfl rfl rfl rfl (fun h => by cases h) ?_
    refine EP.o rfl (Does.pickF rfl rfl) ?_
    refine EP.nil ?_
    refine EW.condF rfl ?_
    refine EW.skip ?_
    refine EW.seq ?_
    refine EW.reg ?_
    refine EP.o rfl (Does.move rfl) ?_
    refine EP.o rfl (Does.move rfl) ?_
    refine EP.o rfl (Does.assign rfl) ?_
    refine EP.o rfl (Does.assign rfl) ?_
    refine EP.nil ?_
    refine EW.ret ?_
    refine Fin.two rfl rfl rfl ?_
    exact ⟨rfl, hC, by dsimp only; rw [if_neg (by simpa using g7)]; exact hR⟩
end Go.Clt
end
