import Derived.Lib.TrailingZeros
import Derived.Lib.ItoaNum
import Derived.Test.YtckdapbopihofaaGreatDoorPl1
/- The word of any place, any word's place, and the next one (WordsPlaces). A part of that proof: Named, Pop, First, Reader, Reader2, Reader3, Reader4, Reader5, Reader6, Reader7, Reader8, Scan, SynP, Syn1, Syn2, SynR, Syn3, Syn4, Syn5. Conditions: none beyond the statement's own. By an AI agent; no person has read it. -/
set_option linter.unusedVariables false
set_option linter.unusedSimpArgs false
set_option maxRecDepth 8000
set_option maxHeartbeats 4000000
namespace Go.Clt
open Go Go.RowKit Go.Proofs
theorem Co4:L4 Au8:=by unfold L4;decide+kernel
theorem Ds2:L4 Dj7:=by unfold L4;decide+kernel
theorem Da9:L4 Ci2:=by unfold L4;decide+kernel
theorem named_c (c:Nat) (hc:c<256) (w:World):Calls P 203 #[.int .u8 (c:Int)] w (Ret fun v w'=>v= .tuple #[.agg (C4 ((Ak0 c).getD 0)).toArray,.bool (Ak0 c).isSome]∧Chg [] w w'):=by
 have hC:=A8 [] w;refine D4 Tryz.func203 J J (Qd (B5 J (B8 N0 J) ?_));intro b1 w1 hb1 hs1 hx1 hB1;refine Zc 1 J (Qd (Ca Af4 J ((show Calls P 222 #[.int .u8 48,.int .u8 57] _ _ from P2 48 57 (by decide) (by decide) _)) ?_));rintro _ w2 ⟨rfl,hx2⟩;have hz2:=hx2.size;refine B5 J (B8 N0 J) ?_;intro b3 w3 hb3 hs3 hx3 hB3;refine Pe J9 J ‹_› J J ?_;intro w4 hs4 hx4 hB3;have hC:=hC.step (((hx1.j hx2).j hx3).j hx4) (by simp<;>omega);have hB1:=hB1.q ((hx2.j hx3).j hx4) (by simp<;>omega)
 refine Qc (I3 (fun e9 wr=>∃ b1 b2 b3,Sub [(0,.int .u8 (c:Int)),(2,.pointer (some ⟨b1,0,none⟩)),(4,.pointer (some ⟨b2,0,none⟩)),(5,.pointer (some ⟨b3,0,none⟩))] e9∧Chg [] w wr∧Blk wr b1 (C4 0) 70∧Blk wr b2 (C4 Au8) 70∧Blk wr b3 (C4 Dj7) 70∧b1<b2∧b1<b3∧w.heap.size≤b1) ?_ ?_)
 ·refine Bp5 (S:=[]) 8 (.three [(0,0)] 1 (.three [] 2 (.two [] 3 (.two [] 4 (.two [] 5 (.two [] 6 (.seg [(1,7),(2,8)]) 7 (.seg [(1,6),(2,8)])) 7 (.seg [(1,5),(1,6),(2,8)])) 7 (.seg [(1,4),(1,5),(1,6),(2,8)])) 7 (.seg [(1,3),(1,4),(1,5),(1,6),(2,8)])) 3 (.two [] 2 (.two [] 4 (.two [] 5 (.two [] 6 (.seg [(1,7),(2,8)]) 7 (.seg [(1,6),(2,8)])) 7 (.seg [(1,5),(1,6),(2,8)])) 7 (.seg [(1,4),(1,5),(1,6),(2,8)])) 7 (.seg [(1,2),(1,4),(1,5),(1,6),(2,8)])) 7 (.two [] 2 (.seg [(1,3),(1,4),(1,5),(1,6),(2,8)]) 3 (.seg [(1,2),(1,4),(1,5),(1,6),(2,8)]))) 3 (.two [] 1 (.two [] 2 (.two [] 4 (.two [] 5 (.two [] 6 (.seg [(1,7),(2,8)]) 7 (.seg [(1,6),(2,8)])) 7 (.seg [(1,5),(1,6),(2,8)])) 7 (.seg [(1,4),(1,5),(1,6),(2,8)])) 7 (.seg [(1,2),(1,4),(1,5),(1,6),(2,8)])) 7 (.seg [(1,1),(1,2),(1,4),(1,5),(1,6),(2,8)])) 7 (.two [] 1 (.two [] 2 (.seg [(1,3),(1,4),(1,5),(1,6),(2,8)]) 3 (.seg [(1,2),(1,4),(1,5),(1,6),(2,8)])) 3 (.seg [(1,1),(1,2),(1,4),(1,5),(1,6),(2,8)]))) mo (by kernel_rfl) ?_;simp only [ET];intro w5 hx5 hh5;have hC:=hC.s0 hx5;have hB1:=hB1.u hx5;have hB3:=hB3.u hx5;have hCS5:=A8 ([]) w5;refine D6 J (C1 J0 J ‹_› (by simp<;>omega) J J) ?_
  refine Qc ⟨?_,?_,?_⟩
  ·refine C5 J (C3 Af4 J) (P2 _ _ (by decide) (by decide) _) ?_;rintro _ w6 ⟨rfl,hx6⟩;have hz6:=hx6.size;have hC:=hC.s0 hx6;have hB1:=hB1.u hx6;have hB3:=hB3.u hx6;have hCS5:=hCS5.s0 hx6;refine ⟨hCS5,?_⟩
   refine Qc (Qc ⟨?_,?_,?_⟩)
   ·refine C5 J (C3 Af4 J) (P2 _ _ (by decide) (by decide) _) ?_;rintro _ w7 ⟨rfl,hx7⟩;have hz7:=hx7.size;have hC:=hC.s0 hx7;have hB1:=hB1.u hx7;have hB3:=hB3.u hx7;have hCS5:=hCS5.s0 hx7;refine ⟨hCS5,?_⟩
    refine Qc (Qc ⟨?_,?_⟩)
    ·refine E2 J (B7 Al4 Tryz.underlying44 zr5 J J J (by rfl)) ?_;intro b8 w8 hb8 hs8 hx8 hB8;have hC:=hC.s0 hx8;have hB1:=hB1.u hx8;have hB3:=hB3.u hx8;have hCS5:=hCS5.s0 hx8;refine ⟨hCS5,?_⟩
     refine Qc (Qc ⟨?_,?_⟩)
     ·refine C5 J (C3 W4 J) (W3 _ _ _ _ _ ‹_› (by omega) (by omega)) ?_;rintro _ w9 ⟨rfl,hx9⟩;have hz9:=hx9.size;have hC:=hC.s0 hx9;have hB1:=hB1.u hx9;have hB3:=hB3.u hx9;have hCS5:=hCS5.s0 hx9;refine ⟨hCS5,?_⟩
      refine Qc (Qc ⟨?_,?_⟩)
      ·refine E2 J (B7 Ar5 Tryz.underlying23 N0 J J J (by rfl)) ?_;intro b10 w10 hb10 hs10 hx10 hB10;have hC:=hC.s0 hx10;have hB1:=hB1.u hx10;have hB3:=hB3.u hx10;have hCS5:=hCS5.s0 hx10;refine ⟨hCS5,?_⟩
       refine Qc (Qc ⟨?_,?_⟩)
       ·refine C5 J (C3 Ab1 J) (K1 _ _ _ _ _ _ _ _ ‹_›) ?_;rintro _ w11 ⟨rfl,hx11⟩;have hz11:=hx11.size;have hCS5:=hCS5.s0 hx11;refine ⟨hCS5,?_⟩;refine Qc (E2 J (B8 N0 J) ?_);intro b12 w12 hb12 hs12 hx12 hB12;have hCS5:=hCS5.s0 hx12;refine ⟨hCS5,?_⟩;refine Pe J9 J ‹_› J J ?_;intro w13 hs13 hx13 hB12;have hC:=hC.step ((hx11.j hx12).j hx13) (by simp<;>omega);have hB1:=hB1.q ((hx11.j hx12).j hx13) (by simp<;>omega);have hB3:=hB3.q ((hx11.j hx12).j hx13) (by simp<;>omega);exact Qc ⟨b1,b3,b12,sb J,hC,hB1,hB3,hB12,by omega,by omega,by omega⟩
       ·refine E2 J (B8 N0 J) ?_;intro b14 w14 hb14 hs14 hx14 hB14;have hCS5:=hCS5.s0 hx14;have hB10:=hB10.u hx14;refine ⟨hCS5,?_⟩;refine Qc (C5 J (C3 Ab1 J) (K1 _ _ _ _ _ _ _ _ ‹_›) ?_);rintro _ w15 ⟨rfl,hx15⟩;have hCS5:=hCS5.s0 hx15;have hB14:=hB14.u hx15;refine ⟨hCS5,?_⟩;refine Pe J9 J ‹_› J J ?_;intro w16 hs16 hx16 hB14;have hC:=hC.step ((hx14.j hx15).j hx16) (by simp<;>omega);have hB1:=hB1.q ((hx14.j hx15).j hx16) (by simp<;>omega);have hB3:=hB3.q ((hx14.j hx15).j hx16) (by simp<;>omega);exact Qc ⟨b1,b3,b14,sb J,hC,hB1,hB3,hB14,by omega,by omega,by omega⟩
      ·refine E2 J (B8 N0 J) ?_;intro b17 w17 hb17 hs17 hx17 hB17;have hCS5:=hCS5.s0 hx17;refine ⟨hCS5,?_⟩;refine Qc (E2 J (B7 Ar5 Tryz.underlying23 N0 J J J (by rfl)) ?_);intro b18 w18 hb18 hs18 hx18 hB18;have hCS5:=hCS5.s0 hx18;refine ⟨hCS5,?_⟩;refine C5 J (C3 Ab1 J) (K1 _ _ _ _ _ _ _ _ ‹_›) ?_;rintro _ w19 ⟨rfl,hx19⟩;have hCS5:=hCS5.s0 hx19;have hB17:=hB17.u (hx18.s0 hx19);refine ⟨hCS5,?_⟩;refine Pe J9 J ‹_› J J ?_;intro w20 hs20 hx20 hB17;have hC:=hC.step (((hx17.j hx18).j hx19).j hx20) (by simp<;>omega);have hB1:=hB1.q (((hx17.j hx18).j hx19).j hx20) (by simp<;>omega);have hB3:=hB3.q (((hx17.j hx18).j hx19).j hx20) (by simp<;>omega);exact Qc ⟨b1,b3,b17,sb J,hC,hB1,hB3,hB17,by omega,by omega,by omega⟩
     ·refine E2 J (B8 N0 J) ?_;intro b21 w21 hb21 hs21 hx21 hB21;have hCS5:=hCS5.s0 hx21;have hB8:=hB8.u hx21;refine ⟨hCS5,?_⟩;refine Qc (C5 J (C3 W4 J) (W3 _ _ _ _ _ ‹_› (by omega) (by omega)) ?_);rintro _ w22 ⟨rfl,hx22⟩;have hCS5:=hCS5.s0 hx22;refine ⟨hCS5,?_⟩;refine E2 J (B7 Ar5 Tryz.underlying23 N0 J J J (by rfl)) ?_;intro b23 w23 hb23 hs23 hx23 hB23;have hCS5:=hCS5.s0 hx23;refine ⟨hCS5,?_⟩;refine C5 J (C3 Ab1 J) (K1 _ _ _ _ _ _ _ _ ‹_›) ?_;rintro _ w24 ⟨rfl,hx24⟩;have hCS5:=hCS5.s0 hx24;have hB21:=hB21.u ((hx22.s0 hx23).s0 hx24);refine ⟨hCS5,?_⟩;refine Pe J9 J ‹_› J J ?_;intro w25 hs25 hx25 hB21;have hC:=hC.step ((((hx21.j hx22).j hx23).j hx24).j hx25) (by simp<;>omega);have hB1:=hB1.q ((((hx21.j hx22).j hx23).j hx24).j hx25) (by simp<;>omega);have hB3:=hB3.q ((((hx21.j hx22).j hx23).j hx24).j hx25) (by simp<;>omega);exact Qc ⟨b1,b3,b21,sb J,hC,hB1,hB3,hB21,by omega,by omega,by omega⟩
    ·refine E2 J (B8 N0 J) ?_;intro b26 w26 hb26 hs26 hx26 hB26;have hCS5:=hCS5.s0 hx26;refine ⟨hCS5,?_⟩;refine Qc (E2 J (B7 Al4 Tryz.underlying44 zr5 J J J (by rfl)) ?_);intro b27 w27 hb27 hs27 hx27 hB27;have hCS5:=hCS5.s0 hx27;refine ⟨hCS5,?_⟩;refine C5 J (C3 W4 J) (W3 _ _ _ _ _ ‹_› (by omega) (by omega)) ?_;rintro _ w28 ⟨rfl,hx28⟩;have hCS5:=hCS5.s0 hx28;refine ⟨hCS5,?_⟩;refine E2 J (B7 Ar5 Tryz.underlying23 N0 J J J (by rfl)) ?_;intro b29 w29 hb29 hs29 hx29 hB29;have hCS5:=hCS5.s0 hx29;refine ⟨hCS5,?_⟩;refine C5 J (C3 Ab1 J) (K1 _ _ _ _ _ _ _ _ ‹_›) ?_;rintro _ w30 ⟨rfl,hx30⟩;have hCS5:=hCS5.s0 hx30;have hB26:=hB26.u (((hx27.s0 hx28).s0 hx29).s0 hx30);refine ⟨hCS5,?_⟩;refine Pe J9 J ‹_› J J ?_;intro w31 hs31 hx31 hB26;have hC:=hC.step (((((hx26.j hx27).j hx28).j hx29).j hx30).j hx31) (by simp<;>omega);have hB1:=hB1.q (((((hx26.j hx27).j hx28).j hx29).j hx30).j hx31) (by simp<;>omega);have hB3:=hB3.q (((((hx26.j hx27).j hx28).j hx29).j hx30).j hx31) (by simp<;>omega);exact Qc ⟨b1,b3,b26,sb J,hC,hB1,hB3,hB26,by omega,by omega,by omega⟩
   ·refine E2 J (B7 Al4 Tryz.underlying44 zr5 J J J (by rfl)) ?_;intro b32 w32 hb32 hs32 hx32 hB32;have hC:=hC.s0 hx32;have hB1:=hB1.u hx32;have hB3:=hB3.u hx32;have hCS5:=hCS5.s0 hx32;refine ⟨hCS5,?_⟩
    refine Qc (Qc ⟨?_,?_⟩)
    ·refine C5 J (C3 Af4 J) (P2 _ _ (by decide) (by decide) _) ?_;rintro _ w33 ⟨rfl,hx33⟩;have hz33:=hx33.size;have hC:=hC.s0 hx33;have hB1:=hB1.u hx33;have hB3:=hB3.u hx33;have hCS5:=hCS5.s0 hx33;have hB32:=hB32.u hx33;refine ⟨hCS5,?_⟩
     refine Qc (Qc ⟨?_,?_⟩)
     ·refine C5 J (C3 W4 J) (W3 _ _ _ _ _ ‹_› (by omega) (by omega)) ?_;rintro _ w34 ⟨rfl,hx34⟩;have hz34:=hx34.size;have hC:=hC.s0 hx34;have hB1:=hB1.u hx34;have hB3:=hB3.u hx34;have hCS5:=hCS5.s0 hx34;refine ⟨hCS5,?_⟩
      refine Qc (Qc ⟨?_,?_⟩)
      ·refine E2 J (B7 Ar5 Tryz.underlying23 N0 J J J (by rfl)) ?_;intro b35 w35 hb35 hs35 hx35 hB35;have hC:=hC.s0 hx35;have hB1:=hB1.u hx35;have hB3:=hB3.u hx35;have hCS5:=hCS5.s0 hx35;refine ⟨hCS5,?_⟩
       refine Qc (Qc ⟨?_,?_⟩)
       ·refine C5 J (C3 Ab1 J) (K1 _ _ _ _ _ _ _ _ ‹_›) ?_;rintro _ w36 ⟨rfl,hx36⟩;have hz36:=hx36.size;have hCS5:=hCS5.s0 hx36;refine ⟨hCS5,?_⟩;refine Qc (E2 J (B8 N0 J) ?_);intro b37 w37 hb37 hs37 hx37 hB37;have hCS5:=hCS5.s0 hx37;refine ⟨hCS5,?_⟩;refine Pe J9 J ‹_› J J ?_;intro w38 hs38 hx38 hB37;have hC:=hC.step ((hx36.j hx37).j hx38) (by simp<;>omega);have hB1:=hB1.q ((hx36.j hx37).j hx38) (by simp<;>omega);have hB3:=hB3.q ((hx36.j hx37).j hx38) (by simp<;>omega);exact Qc ⟨b1,b3,b37,sb J,hC,hB1,hB3,hB37,by omega,by omega,by omega⟩
       ·refine E2 J (B8 N0 J) ?_;intro b39 w39 hb39 hs39 hx39 hB39;have hCS5:=hCS5.s0 hx39;have hB35:=hB35.u hx39;refine ⟨hCS5,?_⟩;refine Qc (C5 J (C3 Ab1 J) (K1 _ _ _ _ _ _ _ _ ‹_›) ?_);rintro _ w40 ⟨rfl,hx40⟩;have hCS5:=hCS5.s0 hx40;have hB39:=hB39.u hx40;refine ⟨hCS5,?_⟩;refine Pe J9 J ‹_› J J ?_;intro w41 hs41 hx41 hB39;have hC:=hC.step ((hx39.j hx40).j hx41) (by simp<;>omega);have hB1:=hB1.q ((hx39.j hx40).j hx41) (by simp<;>omega);have hB3:=hB3.q ((hx39.j hx40).j hx41) (by simp<;>omega);exact Qc ⟨b1,b3,b39,sb J,hC,hB1,hB3,hB39,by omega,by omega,by omega⟩
      ·refine E2 J (B8 N0 J) ?_;intro b42 w42 hb42 hs42 hx42 hB42;have hCS5:=hCS5.s0 hx42;refine ⟨hCS5,?_⟩;refine Qc (E2 J (B7 Ar5 Tryz.underlying23 N0 J J J (by rfl)) ?_);intro b43 w43 hb43 hs43 hx43 hB43;have hCS5:=hCS5.s0 hx43;refine ⟨hCS5,?_⟩;refine C5 J (C3 Ab1 J) (K1 _ _ _ _ _ _ _ _ ‹_›) ?_;rintro _ w44 ⟨rfl,hx44⟩;have hCS5:=hCS5.s0 hx44;have hB42:=hB42.u (hx43.s0 hx44);refine ⟨hCS5,?_⟩;refine Pe J9 J ‹_› J J ?_;intro w45 hs45 hx45 hB42;have hC:=hC.step (((hx42.j hx43).j hx44).j hx45) (by simp<;>omega);have hB1:=hB1.q (((hx42.j hx43).j hx44).j hx45) (by simp<;>omega);have hB3:=hB3.q (((hx42.j hx43).j hx44).j hx45) (by simp<;>omega);exact Qc ⟨b1,b3,b42,sb J,hC,hB1,hB3,hB42,by omega,by omega,by omega⟩
     ·refine E2 J (B8 N0 J) ?_;intro b46 w46 hb46 hs46 hx46 hB46;have hCS5:=hCS5.s0 hx46;have hB32:=hB32.u hx46;refine ⟨hCS5,?_⟩;refine Qc (C5 J (C3 W4 J) (W3 _ _ _ _ _ ‹_› (by omega) (by omega)) ?_);rintro _ w47 ⟨rfl,hx47⟩;have hCS5:=hCS5.s0 hx47;refine ⟨hCS5,?_⟩;refine E2 J (B7 Ar5 Tryz.underlying23 N0 J J J (by rfl)) ?_;intro b48 w48 hb48 hs48 hx48 hB48;have hCS5:=hCS5.s0 hx48;refine ⟨hCS5,?_⟩;refine C5 J (C3 Ab1 J) (K1 _ _ _ _ _ _ _ _ ‹_›) ?_;rintro _ w49 ⟨rfl,hx49⟩;have hCS5:=hCS5.s0 hx49;have hB46:=hB46.u ((hx47.s0 hx48).s0 hx49);refine ⟨hCS5,?_⟩;refine Pe J9 J ‹_› J J ?_;intro w50 hs50 hx50 hB46;have hC:=hC.step ((((hx46.j hx47).j hx48).j hx49).j hx50) (by simp<;>omega);have hB1:=hB1.q ((((hx46.j hx47).j hx48).j hx49).j hx50) (by simp<;>omega);have hB3:=hB3.q ((((hx46.j hx47).j hx48).j hx49).j hx50) (by simp<;>omega);exact Qc ⟨b1,b3,b46,sb J,hC,hB1,hB3,hB46,by omega,by omega,by omega⟩
    ·refine E2 J (B8 N0 J) ?_;intro b51 w51 hb51 hs51 hx51 hB51;have hCS5:=hCS5.s0 hx51;refine ⟨hCS5,?_⟩;refine Qc (C5 J (C3 Af4 J) (P2 _ _ (by decide) (by decide) _) ?_);rintro _ w52 ⟨rfl,hx52⟩;have hCS5:=hCS5.s0 hx52;have hB32:=hB32.u (hx51.s0 hx52);refine ⟨hCS5,?_⟩;refine C5 J (C3 W4 J) (W3 _ _ _ _ _ ‹_› (by omega) (by omega)) ?_;rintro _ w53 ⟨rfl,hx53⟩;have hCS5:=hCS5.s0 hx53;refine ⟨hCS5,?_⟩;refine E2 J (B7 Ar5 Tryz.underlying23 N0 J J J (by rfl)) ?_;intro b54 w54 hb54 hs54 hx54 hB54;have hCS5:=hCS5.s0 hx54;refine ⟨hCS5,?_⟩;refine C5 J (C3 Ab1 J) (K1 _ _ _ _ _ _ _ _ ‹_›) ?_;rintro _ w55 ⟨rfl,hx55⟩;have hCS5:=hCS5.s0 hx55;have hB51:=hB51.u (((hx52.s0 hx53).s0 hx54).s0 hx55);refine ⟨hCS5,?_⟩;refine Pe J9 J ‹_› J J ?_;intro w56 hs56 hx56 hB51;have hC:=hC.step (((((hx51.j hx52).j hx53).j hx54).j hx55).j hx56) (by simp<;>omega);have hB1:=hB1.q (((((hx51.j hx52).j hx53).j hx54).j hx55).j hx56) (by simp<;>omega);have hB3:=hB3.q (((((hx51.j hx52).j hx53).j hx54).j hx55).j hx56) (by simp<;>omega);exact Qc ⟨b1,b3,b51,sb J,hC,hB1,hB3,hB51,by omega,by omega,by omega⟩
   ·refine E2 J (B8 N0 J) ?_;intro b57 w57 hb57 hs57 hx57 hB57;have hC:=hC.s0 hx57;have hB1:=hB1.u hx57;have hB3:=hB3.u hx57;have hCS5:=hCS5.s0 hx57;refine ⟨hCS5,?_⟩
    refine Qc (Qc ⟨?_,?_⟩)
    ·refine C5 J (C3 Af4 J) (P2 _ _ (by decide) (by decide) _) ?_;rintro _ w58 ⟨rfl,hx58⟩;have hCS5:=hCS5.s0 hx58;refine ⟨hCS5,?_⟩;refine Qc (E2 J (B7 Al4 Tryz.underlying44 zr5 J J J (by rfl)) ?_);intro b59 w59 hb59 hs59 hx59 hB59;have hCS5:=hCS5.s0 hx59;refine ⟨hCS5,?_⟩;refine C5 J (C3 W4 J) (W3 _ _ _ _ _ ‹_› (by omega) (by omega)) ?_;rintro _ w60 ⟨rfl,hx60⟩;have hCS5:=hCS5.s0 hx60;refine ⟨hCS5,?_⟩;refine E2 J (B7 Ar5 Tryz.underlying23 N0 J J J (by rfl)) ?_;intro b61 w61 hb61 hs61 hx61 hB61;have hCS5:=hCS5.s0 hx61;refine ⟨hCS5,?_⟩;refine C5 J (C3 Ab1 J) (K1 _ _ _ _ _ _ _ _ ‹_›) ?_;rintro _ w62 ⟨rfl,hx62⟩;have hCS5:=hCS5.s0 hx62;have hB57:=hB57.u ((((hx58.s0 hx59).s0 hx60).s0 hx61).s0 hx62);refine ⟨hCS5,?_⟩;refine Pe J9 J ‹_› J J ?_;intro w63 hs63 hx63 hB57;have hC:=hC.step (((((hx58.j hx59).j hx60).j hx61).j hx62).j hx63) (by simp<;>omega);have hB1:=hB1.q (((((hx58.j hx59).j hx60).j hx61).j hx62).j hx63) (by simp<;>omega);have hB3:=hB3.q (((((hx58.j hx59).j hx60).j hx61).j hx62).j hx63) (by simp<;>omega);exact Qc ⟨b1,b3,b57,sb J,hC,hB1,hB3,hB57,by omega,by omega,by omega⟩
    ·refine E2 J (B7 Al4 Tryz.underlying44 zr5 J J J (by rfl)) ?_;intro b64 w64 hb64 hs64 hx64 hB64;have hCS5:=hCS5.s0 hx64;refine ⟨hCS5,?_⟩;refine Qc (C5 J (C3 Af4 J) (P2 _ _ (by decide) (by decide) _) ?_);rintro _ w65 ⟨rfl,hx65⟩;have hCS5:=hCS5.s0 hx65;have hB64:=hB64.u hx65;refine ⟨hCS5,?_⟩;refine C5 J (C3 W4 J) (W3 _ _ _ _ _ ‹_› (by omega) (by omega)) ?_;rintro _ w66 ⟨rfl,hx66⟩;have hCS5:=hCS5.s0 hx66;refine ⟨hCS5,?_⟩;refine E2 J (B7 Ar5 Tryz.underlying23 N0 J J J (by rfl)) ?_;intro b67 w67 hb67 hs67 hx67 hB67;have hCS5:=hCS5.s0 hx67;refine ⟨hCS5,?_⟩;refine C5 J (C3 Ab1 J) (K1 _ _ _ _ _ _ _ _ ‹_›) ?_;rintro _ w68 ⟨rfl,hx68⟩;have hCS5:=hCS5.s0 hx68;have hB57:=hB57.u ((((hx64.s0 hx65).s0 hx66).s0 hx67).s0 hx68);refine ⟨hCS5,?_⟩;refine Pe J9 J ‹_› J J ?_;intro w69 hs69 hx69 hB57;have hC:=hC.step (((((hx64.j hx65).j hx66).j hx67).j hx68).j hx69) (by simp<;>omega);have hB1:=hB1.q (((((hx64.j hx65).j hx66).j hx67).j hx68).j hx69) (by simp<;>omega);have hB3:=hB3.q (((((hx64.j hx65).j hx66).j hx67).j hx68).j hx69) (by simp<;>omega);exact Qc ⟨b1,b3,b57,sb J,hC,hB1,hB3,hB57,by omega,by omega,by omega⟩
  ·refine E2 J (B7 Al4 Tryz.underlying44 zr5 J J J (by rfl)) ?_;intro b70 w70 hb70 hs70 hx70 hB70;have hC:=hC.s0 hx70;have hB1:=hB1.u hx70;have hB3:=hB3.u hx70;have hCS5:=hCS5.s0 hx70;refine ⟨hCS5,?_⟩
   refine Qc (Qc ⟨?_,?_⟩)
   ·refine C5 J (C3 Af4 J) (P2 _ _ (by decide) (by decide) _) ?_;rintro _ w71 ⟨rfl,hx71⟩;have hz71:=hx71.size;have hC:=hC.s0 hx71;have hB1:=hB1.u hx71;have hB3:=hB3.u hx71;have hCS5:=hCS5.s0 hx71;have hB70:=hB70.u hx71;refine ⟨hCS5,?_⟩
    refine Qc (Qc ⟨?_,?_⟩)
    ·refine C5 J (C3 Af4 J) (P2 _ _ (by decide) (by decide) _) ?_;rintro _ w72 ⟨rfl,hx72⟩;have hz72:=hx72.size;have hC:=hC.s0 hx72;have hB1:=hB1.u hx72;have hB3:=hB3.u hx72;have hCS5:=hCS5.s0 hx72;have hB70:=hB70.u hx72;refine ⟨hCS5,?_⟩
     refine Qc (Qc ⟨?_,?_⟩)
     ·refine C5 J (C3 W4 J) (W3 _ _ _ _ _ ‹_› (by omega) (by omega)) ?_;rintro _ w73 ⟨rfl,hx73⟩;have hz73:=hx73.size;have hC:=hC.s0 hx73;have hB1:=hB1.u hx73;have hB3:=hB3.u hx73;have hCS5:=hCS5.s0 hx73;refine ⟨hCS5,?_⟩
      refine Qc (Qc ⟨?_,?_⟩)
      ·refine E2 J (B7 Ar5 Tryz.underlying23 N0 J J J (by rfl)) ?_;intro b74 w74 hb74 hs74 hx74 hB74;have hC:=hC.s0 hx74;have hB1:=hB1.u hx74;have hB3:=hB3.u hx74;have hCS5:=hCS5.s0 hx74;refine ⟨hCS5,?_⟩
       refine Qc (Qc ⟨?_,?_⟩)
       ·refine C5 J (C3 Ab1 J) (K1 _ _ _ _ _ _ _ _ ‹_›) ?_;rintro _ w75 ⟨rfl,hx75⟩;have hz75:=hx75.size;have hCS5:=hCS5.s0 hx75;refine ⟨hCS5,?_⟩;refine Qc (E2 J (B8 N0 J) ?_);intro b76 w76 hb76 hs76 hx76 hB76;have hCS5:=hCS5.s0 hx76;refine ⟨hCS5,?_⟩;refine Pe J9 J ‹_› J J ?_;intro w77 hs77 hx77 hB76;have hC:=hC.step ((hx75.j hx76).j hx77) (by simp<;>omega);have hB1:=hB1.q ((hx75.j hx76).j hx77) (by simp<;>omega);have hB3:=hB3.q ((hx75.j hx76).j hx77) (by simp<;>omega);exact Qc ⟨b1,b3,b76,sb J,hC,hB1,hB3,hB76,by omega,by omega,by omega⟩
       ·refine E2 J (B8 N0 J) ?_;intro b78 w78 hb78 hs78 hx78 hB78;have hCS5:=hCS5.s0 hx78;have hB74:=hB74.u hx78;refine ⟨hCS5,?_⟩;refine Qc (C5 J (C3 Ab1 J) (K1 _ _ _ _ _ _ _ _ ‹_›) ?_);rintro _ w79 ⟨rfl,hx79⟩;have hCS5:=hCS5.s0 hx79;have hB78:=hB78.u hx79;refine ⟨hCS5,?_⟩;refine Pe J9 J ‹_› J J ?_;intro w80 hs80 hx80 hB78;have hC:=hC.step ((hx78.j hx79).j hx80) (by simp<;>omega);have hB1:=hB1.q ((hx78.j hx79).j hx80) (by simp<;>omega);have hB3:=hB3.q ((hx78.j hx79).j hx80) (by simp<;>omega);exact Qc ⟨b1,b3,b78,sb J,hC,hB1,hB3,hB78,by omega,by omega,by omega⟩
      ·refine E2 J (B8 N0 J) ?_;intro b81 w81 hb81 hs81 hx81 hB81;have hCS5:=hCS5.s0 hx81;refine ⟨hCS5,?_⟩;refine Qc (E2 J (B7 Ar5 Tryz.underlying23 N0 J J J (by rfl)) ?_);intro b82 w82 hb82 hs82 hx82 hB82;have hCS5:=hCS5.s0 hx82;refine ⟨hCS5,?_⟩;refine C5 J (C3 Ab1 J) (K1 _ _ _ _ _ _ _ _ ‹_›) ?_;rintro _ w83 ⟨rfl,hx83⟩;have hCS5:=hCS5.s0 hx83;have hB81:=hB81.u (hx82.s0 hx83);refine ⟨hCS5,?_⟩;refine Pe J9 J ‹_› J J ?_;intro w84 hs84 hx84 hB81;have hC:=hC.step (((hx81.j hx82).j hx83).j hx84) (by simp<;>omega);have hB1:=hB1.q (((hx81.j hx82).j hx83).j hx84) (by simp<;>omega);have hB3:=hB3.q (((hx81.j hx82).j hx83).j hx84) (by simp<;>omega);exact Qc ⟨b1,b3,b81,sb J,hC,hB1,hB3,hB81,by omega,by omega,by omega⟩
     ·refine E2 J (B8 N0 J) ?_;intro b85 w85 hb85 hs85 hx85 hB85;have hCS5:=hCS5.s0 hx85;have hB70:=hB70.u hx85;refine ⟨hCS5,?_⟩;refine Qc (C5 J (C3 W4 J) (W3 _ _ _ _ _ ‹_› (by omega) (by omega)) ?_);rintro _ w86 ⟨rfl,hx86⟩;have hCS5:=hCS5.s0 hx86;refine ⟨hCS5,?_⟩;refine E2 J (B7 Ar5 Tryz.underlying23 N0 J J J (by rfl)) ?_;intro b87 w87 hb87 hs87 hx87 hB87;have hCS5:=hCS5.s0 hx87;refine ⟨hCS5,?_⟩;refine C5 J (C3 Ab1 J) (K1 _ _ _ _ _ _ _ _ ‹_›) ?_;rintro _ w88 ⟨rfl,hx88⟩;have hCS5:=hCS5.s0 hx88;have hB85:=hB85.u ((hx86.s0 hx87).s0 hx88);refine ⟨hCS5,?_⟩;refine Pe J9 J ‹_› J J ?_;intro w89 hs89 hx89 hB85;have hC:=hC.step ((((hx85.j hx86).j hx87).j hx88).j hx89) (by simp<;>omega);have hB1:=hB1.q ((((hx85.j hx86).j hx87).j hx88).j hx89) (by simp<;>omega);have hB3:=hB3.q ((((hx85.j hx86).j hx87).j hx88).j hx89) (by simp<;>omega);exact Qc ⟨b1,b3,b85,sb J,hC,hB1,hB3,hB85,by omega,by omega,by omega⟩
    ·refine E2 J (B8 N0 J) ?_;intro b90 w90 hb90 hs90 hx90 hB90;have hCS5:=hCS5.s0 hx90;refine ⟨hCS5,?_⟩;refine Qc (C5 J (C3 Af4 J) (P2 _ _ (by decide) (by decide) _) ?_);rintro _ w91 ⟨rfl,hx91⟩;have hCS5:=hCS5.s0 hx91;have hB70:=hB70.u (hx90.s0 hx91);refine ⟨hCS5,?_⟩;refine C5 J (C3 W4 J) (W3 _ _ _ _ _ ‹_› (by omega) (by omega)) ?_;rintro _ w92 ⟨rfl,hx92⟩;have hCS5:=hCS5.s0 hx92;refine ⟨hCS5,?_⟩;refine E2 J (B7 Ar5 Tryz.underlying23 N0 J J J (by rfl)) ?_;intro b93 w93 hb93 hs93 hx93 hB93;have hCS5:=hCS5.s0 hx93;refine ⟨hCS5,?_⟩;refine C5 J (C3 Ab1 J) (K1 _ _ _ _ _ _ _ _ ‹_›) ?_;rintro _ w94 ⟨rfl,hx94⟩;have hCS5:=hCS5.s0 hx94;have hB90:=hB90.u (((hx91.s0 hx92).s0 hx93).s0 hx94);refine ⟨hCS5,?_⟩;refine Pe J9 J ‹_› J J ?_;intro w95 hs95 hx95 hB90;have hC:=hC.step (((((hx90.j hx91).j hx92).j hx93).j hx94).j hx95) (by simp<;>omega);have hB1:=hB1.q (((((hx90.j hx91).j hx92).j hx93).j hx94).j hx95) (by simp<;>omega);have hB3:=hB3.q (((((hx90.j hx91).j hx92).j hx93).j hx94).j hx95) (by simp<;>omega);exact Qc ⟨b1,b3,b90,sb J,hC,hB1,hB3,hB90,by omega,by omega,by omega⟩
   ·refine E2 J (B8 N0 J) ?_;intro b96 w96 hb96 hs96 hx96 hB96;have hCS5:=hCS5.s0 hx96;refine ⟨hCS5,?_⟩;refine Qc (C5 J (C3 Af4 J) (P2 _ _ (by decide) (by decide) _) ?_);rintro _ w97 ⟨rfl,hx97⟩;have hCS5:=hCS5.s0 hx97;refine ⟨hCS5,?_⟩;refine C5 J (C3 Af4 J) (P2 _ _ (by decide) (by decide) _) ?_;rintro _ w98 ⟨rfl,hx98⟩;have hCS5:=hCS5.s0 hx98;have hB70:=hB70.u ((hx96.s0 hx97).s0 hx98);refine ⟨hCS5,?_⟩;refine C5 J (C3 W4 J) (W3 _ _ _ _ _ ‹_› (by omega) (by omega)) ?_;rintro _ w99 ⟨rfl,hx99⟩;have hCS5:=hCS5.s0 hx99;refine ⟨hCS5,?_⟩;refine E2 J (B7 Ar5 Tryz.underlying23 N0 J J J (by rfl)) ?_;intro b100 w100 hb100 hs100 hx100 hB100;have hCS5:=hCS5.s0 hx100;refine ⟨hCS5,?_⟩;refine C5 J (C3 Ab1 J) (K1 _ _ _ _ _ _ _ _ ‹_›) ?_;rintro _ w101 ⟨rfl,hx101⟩;have hCS5:=hCS5.s0 hx101;have hB96:=hB96.u ((((hx97.s0 hx98).s0 hx99).s0 hx100).s0 hx101);refine ⟨hCS5,?_⟩;refine Pe J9 J ‹_› J J ?_;intro w102 hs102 hx102 hB96;have hC:=hC.step ((((((hx96.j hx97).j hx98).j hx99).j hx100).j hx101).j hx102) (by simp<;>omega);have hB1:=hB1.q ((((((hx96.j hx97).j hx98).j hx99).j hx100).j hx101).j hx102) (by simp<;>omega);have hB3:=hB3.q ((((((hx96.j hx97).j hx98).j hx99).j hx100).j hx101).j hx102) (by simp<;>omega);exact Qc ⟨b1,b3,b96,sb J,hC,hB1,hB3,hB96,by omega,by omega,by omega⟩
  ·refine E2 J (B8 N0 J) ?_;intro b103 w103 hb103 hs103 hx103 hB103;have hC:=hC.s0 hx103;have hB1:=hB1.u hx103;have hB3:=hB3.u hx103;have hCS5:=hCS5.s0 hx103;refine ⟨hCS5,?_⟩
   refine Qc (Qc ⟨?_,?_⟩)
   ·refine C5 J (C3 Af4 J) (P2 _ _ (by decide) (by decide) _) ?_;rintro _ w104 ⟨rfl,hx104⟩;have hC:=hC.s0 hx104;have hB1:=hB1.u hx104;have hB3:=hB3.u hx104;have hCS5:=hCS5.s0 hx104;have hB103:=hB103.u hx104;refine ⟨hCS5,?_⟩
    refine Qc (Qc ⟨?_,?_⟩)
    ·refine C5 J (C3 Af4 J) (P2 _ _ (by decide) (by decide) _) ?_;rintro _ w105 ⟨rfl,hx105⟩;have hCS5:=hCS5.s0 hx105;refine ⟨hCS5,?_⟩;refine Qc (E2 J (B7 Al4 Tryz.underlying44 zr5 J J J (by rfl)) ?_);intro b106 w106 hb106 hs106 hx106 hB106;have hCS5:=hCS5.s0 hx106;refine ⟨hCS5,?_⟩;refine C5 J (C3 W4 J) (W3 _ _ _ _ _ ‹_› (by omega) (by omega)) ?_;rintro _ w107 ⟨rfl,hx107⟩;have hCS5:=hCS5.s0 hx107;refine ⟨hCS5,?_⟩;refine E2 J (B7 Ar5 Tryz.underlying23 N0 J J J (by rfl)) ?_;intro b108 w108 hb108 hs108 hx108 hB108;have hCS5:=hCS5.s0 hx108;refine ⟨hCS5,?_⟩;refine C5 J (C3 Ab1 J) (K1 _ _ _ _ _ _ _ _ ‹_›) ?_;rintro _ w109 ⟨rfl,hx109⟩;have hCS5:=hCS5.s0 hx109;have hB103:=hB103.u ((((hx105.s0 hx106).s0 hx107).s0 hx108).s0 hx109);refine ⟨hCS5,?_⟩;refine Pe J9 J ‹_› J J ?_;intro w110 hs110 hx110 hB103;have hC:=hC.step (((((hx105.j hx106).j hx107).j hx108).j hx109).j hx110) (by simp<;>omega);have hB1:=hB1.q (((((hx105.j hx106).j hx107).j hx108).j hx109).j hx110) (by simp<;>omega);have hB3:=hB3.q (((((hx105.j hx106).j hx107).j hx108).j hx109).j hx110) (by simp<;>omega);exact Qc ⟨b1,b3,b103,sb J,hC,hB1,hB3,hB103,by omega,by omega,by omega⟩
    ·refine E2 J (B7 Al4 Tryz.underlying44 zr5 J J J (by rfl)) ?_;intro b111 w111 hb111 hs111 hx111 hB111;have hCS5:=hCS5.s0 hx111;refine ⟨hCS5,?_⟩;refine Qc (C5 J (C3 Af4 J) (P2 _ _ (by decide) (by decide) _) ?_);rintro _ w112 ⟨rfl,hx112⟩;have hCS5:=hCS5.s0 hx112;have hB111:=hB111.u hx112;refine ⟨hCS5,?_⟩;refine C5 J (C3 W4 J) (W3 _ _ _ _ _ ‹_› (by omega) (by omega)) ?_;rintro _ w113 ⟨rfl,hx113⟩;have hCS5:=hCS5.s0 hx113;refine ⟨hCS5,?_⟩;refine E2 J (B7 Ar5 Tryz.underlying23 N0 J J J (by rfl)) ?_;intro b114 w114 hb114 hs114 hx114 hB114;have hCS5:=hCS5.s0 hx114;refine ⟨hCS5,?_⟩;refine C5 J (C3 Ab1 J) (K1 _ _ _ _ _ _ _ _ ‹_›) ?_;rintro _ w115 ⟨rfl,hx115⟩;have hCS5:=hCS5.s0 hx115;have hB103:=hB103.u ((((hx111.s0 hx112).s0 hx113).s0 hx114).s0 hx115);refine ⟨hCS5,?_⟩;refine Pe J9 J ‹_› J J ?_;intro w116 hs116 hx116 hB103;have hC:=hC.step (((((hx111.j hx112).j hx113).j hx114).j hx115).j hx116) (by simp<;>omega);have hB1:=hB1.q (((((hx111.j hx112).j hx113).j hx114).j hx115).j hx116) (by simp<;>omega);have hB3:=hB3.q (((((hx111.j hx112).j hx113).j hx114).j hx115).j hx116) (by simp<;>omega);exact Qc ⟨b1,b3,b103,sb J,hC,hB1,hB3,hB103,by omega,by omega,by omega⟩
   ·refine E2 J (B7 Al4 Tryz.underlying44 zr5 J J J (by rfl)) ?_;intro b117 w117 hb117 hs117 hx117 hB117;have hCS5:=hCS5.s0 hx117;refine ⟨hCS5,?_⟩;refine Qc (C5 J (C3 Af4 J) (P2 _ _ (by decide) (by decide) _) ?_);rintro _ w118 ⟨rfl,hx118⟩;have hCS5:=hCS5.s0 hx118;refine ⟨hCS5,?_⟩;refine C5 J (C3 Af4 J) (P2 _ _ (by decide) (by decide) _) ?_;rintro _ w119 ⟨rfl,hx119⟩;have hCS5:=hCS5.s0 hx119;have hB117:=hB117.u (hx118.s0 hx119);refine ⟨hCS5,?_⟩;refine C5 J (C3 W4 J) (W3 _ _ _ _ _ ‹_› (by omega) (by omega)) ?_;rintro _ w120 ⟨rfl,hx120⟩;have hCS5:=hCS5.s0 hx120;refine ⟨hCS5,?_⟩;refine E2 J (B7 Ar5 Tryz.underlying23 N0 J J J (by rfl)) ?_;intro b121 w121 hb121 hs121 hx121 hB121;have hCS5:=hCS5.s0 hx121;refine ⟨hCS5,?_⟩;refine C5 J (C3 Ab1 J) (K1 _ _ _ _ _ _ _ _ ‹_›) ?_;rintro _ w122 ⟨rfl,hx122⟩;have hCS5:=hCS5.s0 hx122;have hB103:=hB103.u (((((hx117.s0 hx118).s0 hx119).s0 hx120).s0 hx121).s0 hx122);refine ⟨hCS5,?_⟩;refine Pe J9 J ‹_› J J ?_;intro w123 hs123 hx123 hB103;have hC:=hC.step ((((((hx117.j hx118).j hx119).j hx120).j hx121).j hx122).j hx123) (by simp<;>omega);have hB1:=hB1.q ((((((hx117.j hx118).j hx119).j hx120).j hx121).j hx122).j hx123) (by simp<;>omega);have hB3:=hB3.q ((((((hx117.j hx118).j hx119).j hx120).j hx121).j hx122).j hx123) (by simp<;>omega);exact Qc ⟨b1,b3,b103,sb J,hC,hB1,hB3,hB103,by omega,by omega,by omega⟩
 rintro e9 w9 ⟨b1,b2,b3,hs9,hC,hB1,hB2,hB3,hlt2,hlt3,hge⟩;refine I2 _ hs9 ?_;clear hs9 e9
 try have hlB2:=hB2.lt
 try have hlB3:=hB3.lt
 refine Qd (Ca Af4 J (P2 _ _ (by decide) (by decide) _) ?_);rintro _ w124 ⟨rfl,hx124⟩;have hz124:=hx124.size;refine B5 J (B7 Al4 Tryz.underlying44 zr5 J J J (by rfl)) ?_;intro b125 w125 hb125 hs125 hx125 hB125;refine Ca W4 J (W3 _ _ _ _ _ ‹_› (by omega) (by omega)) ?_;rintro _ w126 ⟨rfl,hx126⟩;have hz126:=hx126.size;refine B5 J (B7 Ar5 Tryz.underlying23 N0 J J J (by rfl)) ?_;intro b127 w127 hb127 hs127 hx127 hB127;refine Ca Ab1 J (By0 _ _ _ _ _ _ ‹_›) ?_;rintro _ w128 ⟨rfl,hx128⟩;have hz128:=hx128.size;refine B5 J (B8 N0 J) ?_;intro b129 w129 hb129 hs129 hx129 hB129;refine Pe J9 J ‹_› J J ?_;intro w130 hs130 hx130 hB129;have hC:=hC.step ((((((hx124.j hx125).j hx126).j hx127).j hx128).j hx129).j hx130) (by simp<;>omega);have hB1:=hB1.q ((((((hx124.j hx125).j hx126).j hx127).j hx128).j hx129).j hx130) (by simp<;>omega);have hB2:=hB2.q ((((((hx124.j hx125).j hx126).j hx127).j hx128).j hx129).j hx130) (by simp<;>omega);have hB3:=hB3.q ((((((hx124.j hx125).j hx126).j hx127).j hx128).j hx129).j hx130) (by simp<;>omega)
 refine Qc (Qa (Qd (Zc 1 J (B2 (Qd (Zc 2 J (A4 J (fun hc110=>?_) (fun hc110=>?_))))))))
 ·try simp at hc110
  refine Qd (B5 J (B7 Al4 Tryz.underlying44 zr5 J J J (by rfl)) ?_);intro b131 w131 hb131 hs131 hx131 hB131;refine Ca W4 J (W3 _ _ _ _ _ ‹_› (by omega) (by omega)) ?_;rintro _ w132 ⟨rfl,hx132⟩;have hB1:=hB1.u (hx131.s0 hx132);refine Pe J9 J ‹_› J J ?_;intro w133 hs133 hx133 hB1;have hC:=hC.step ((hx131.j hx132).j hx133) (by simp<;>omega);refine Zc 1 J (A6 (I7 J J (A5 J0 ‹_› J J) J ?_));exact ⟨by rw [show c=110 from by omega];rfl,hC⟩
 ·try simp at hc110
  refine Qd (Zc 2 J (A4 J (fun hc116=>?_) (fun hc116=>?_)))
  ·try simp at hc116
   refine Qd (B5 J (B7 Al4 Tryz.underlying44 zr5 J J J (by rfl)) ?_);intro b134 w134 hb134 hs134 hx134 hB134;refine Ca W4 J (W3 _ _ _ _ _ ‹_› (by omega) (by omega)) ?_;rintro _ w135 ⟨rfl,hx135⟩;have hB1:=hB1.u (hx134.s0 hx135);refine Pe J9 J ‹_› J J ?_;intro w136 hs136 hx136 hB1;have hC:=hC.step ((hx134.j hx135).j hx136) (by simp<;>omega);refine Zc 1 J (A6 (I7 J J (A5 J0 ‹_› J J) J ?_));exact ⟨by rw [show c=116 from by omega];rfl,hC⟩
  ·try simp at hc116
   refine Qd (Zc 2 J (A4 J (fun hc114=>?_) (fun hc114=>?_)))
   ·try simp at hc114
    refine Qd (B5 J (B7 Al4 Tryz.underlying44 zr5 J J J (by rfl)) ?_);intro b137 w137 hb137 hs137 hx137 hB137;refine Ca W4 J (W3 _ _ _ _ _ ‹_› (by omega) (by omega)) ?_;rintro _ w138 ⟨rfl,hx138⟩;have hB1:=hB1.u (hx137.s0 hx138);refine Pe J9 J ‹_› J J ?_;intro w139 hs139 hx139 hB1;have hC:=hC.step ((hx137.j hx138).j hx139) (by simp<;>omega);refine Zc 1 J (A6 (I7 J J (A5 J0 ‹_› J J) J ?_));exact ⟨by rw [show c=114 from by omega];rfl,hC⟩
   ·try simp at hc114
    refine Qd (Zc 2 J (A4 J (fun hc102=>?_) (fun hc102=>?_)))
    ·try simp at hc102
     refine Qd (B5 J (B7 Al4 Tryz.underlying44 zr5 J J J (by rfl)) ?_);intro b140 w140 hb140 hs140 hx140 hB140;refine Ca W4 J (W3 _ _ _ _ _ ‹_› (by omega) (by omega)) ?_;rintro _ w141 ⟨rfl,hx141⟩;have hB1:=hB1.u (hx140.s0 hx141);refine Pe J9 J ‹_› J J ?_;intro w142 hs142 hx142 hB1;have hC:=hC.step ((hx140.j hx141).j hx142) (by simp<;>omega);refine Zc 1 J (A6 (I7 J J (A5 J0 ‹_› J J) J ?_));exact ⟨by rw [show c=102 from by omega];rfl,hC⟩
    ·try simp at hc102
     refine Qd (Zc 2 J (A4 J (fun hc118=>?_) (fun hc118=>?_)))
     ·try simp at hc118
      refine Qd (B5 J (B7 Al4 Tryz.underlying44 zr5 J J J (by rfl)) ?_);intro b143 w143 hb143 hs143 hx143 hB143;refine Ca W4 J (W3 _ _ _ _ _ ‹_› (by omega) (by omega)) ?_;rintro _ w144 ⟨rfl,hx144⟩;have hB1:=hB1.u (hx143.s0 hx144);refine Pe J9 J ‹_› J J ?_;intro w145 hs145 hx145 hB1;have hC:=hC.step ((hx143.j hx144).j hx145) (by simp<;>omega);refine Zc 1 J (A6 (I7 J J (A5 J0 ‹_› J J) J ?_));exact ⟨by rw [show c=118 from by omega];rfl,hC⟩
     ·try simp at hc118
      refine Qd (Zc 2 J (A4 J (fun hc100=>?_) (fun hc100=>?_)))
      ·try simp at hc100
       refine Qd (La J0 J ‹_› J J ?_);refine Pe J9 J ‹_› J J ?_;intro w146 hs146 hx146 hB1;have hC:=hC.step hx146 (by simp<;>omega);refine Zc 1 J (A6 (I7 J J (A5 J0 ‹_› J J) J ?_));exact ⟨by rw [show c=100 from by omega];rfl,hC⟩
      ·try simp at hc100
       refine Qd (Zc 2 J (A4 J (fun hc119=>?_) (fun hc119=>?_)))
       ·try simp at hc119
        refine Qd (La J0 J ‹_› J J ?_);refine Pe J9 J ‹_› J J ?_;intro w147 hs147 hx147 hB1;have hC:=hC.step hx147 (by simp<;>omega);refine Zc 1 J (A6 (I7 J J (A5 J0 ‹_› J J) J ?_));exact ⟨by rw [show c=119 from by omega];rfl,hC⟩
       ·try simp at hc119
        refine Qd (Zc 2 J (A4 J (fun hc115=>?_) (fun hc115=>?_)))
        ·try simp at hc115
         refine Qd (La J0 J ‹_› J J ?_);refine Pe J9 J ‹_› J J ?_;intro w148 hs148 hx148 hB1;have hC:=hC.step hx148 (by simp<;>omega);refine Zc 1 J (A6 (I7 J J (A5 J0 ‹_› J J) J ?_));exact ⟨by rw [show c=115 from by omega];rfl,hC⟩
        ·try simp at hc115
         refine Qd (Zc 2 J (A4 J (fun hc68=>?_) (fun hc68=>?_)))
         ·try simp at hc68
          refine Qd (La J0 J ‹_› J J ?_);refine Ca Do8 J (Dm2 _ (by exact Co4) _) ?_;rintro _ w149 ⟨rfl,hx149⟩;have hB1:=hB1.u hx149;refine Pe J9 J ‹_› J J ?_;intro w150 hs150 hx150 hB1;have hC:=hC.step (hx149.j hx150) (by simp<;>omega);refine Zc 1 J (A6 (I7 J J (A5 J0 ‹_› J J) J ?_));exact ⟨by rw [show c=68 from by omega];rfl,hC⟩
         ·try simp at hc68
          refine Qd (Zc 2 J (A4 J (fun hc87=>?_) (fun hc87=>?_)))
          ·try simp at hc87
           refine Qd (La J0 J ‹_› J J ?_);refine Ca Do8 J (Dm2 _ (by exact Ds2) _) ?_;rintro _ w151 ⟨rfl,hx151⟩;have hB1:=hB1.u hx151;refine Pe J9 J ‹_› J J ?_;intro w152 hs152 hx152 hB1;have hC:=hC.step (hx151.j hx152) (by simp<;>omega);refine Zc 1 J (A6 (I7 J J (A5 J0 ‹_› J J) J ?_));exact ⟨by rw [show c=87 from by omega];rfl,hC⟩
          ·try simp at hc87
           refine Qd (Zc 2 J (A4 J (fun hc83=>?_) (fun hc83=>?_)))
           ·try simp at hc83
            refine Qd (La J0 J ‹_› J J ?_);refine Ca Do8 J (Dm2 _ (by exact Da9) _) ?_;rintro _ w153 ⟨rfl,hx153⟩;have hB1:=hB1.u hx153;refine Pe J9 J ‹_› J J ?_;intro w154 hs154 hx154 hB1;have hC:=hC.step (hx153.j hx154) (by simp<;>omega);refine Zc 1 J (A6 (I7 J J (A5 J0 ‹_› J J) J ?_));exact ⟨by rw [show c=83 from by omega];rfl,hC⟩
           ·try simp at hc83
            refine A7 (Qd (C9 J (D7 N0 Av2 J (by rfl)) ?_));refine Pe J9 J ‹_› J J ?_;intro w155 hs155 hx155 hB1;have hC:=hC.step hx155 (by simp<;>omega);refine Zc 1 J (A6 (I7 J J (A5 J0 ‹_› J J) J ?_));have:Ak0 c=none:=by unfold Ak0;rw [Ek0 (by omega),Ek0 (by omega),Ek0 (by omega),Ek0 (by omega),Ek0 (by omega),Ek0 (by omega),Ek0 (by omega),Ek0 (by omega),Ek0 (by omega),Ek0 (by omega),Ek0 (by omega)]
            exact ⟨by rw [this];rfl,hC⟩
def dig:List Nat→Nat
 |[]=>0
 |b::r=>b+256*dig r
theorem Z6 {a b x y:Nat} (ha:a<256) (hb:b<256):(a+256*x) &&& (b+256*y)=(a &&& b)+256*(x &&& y):=by
 have h1:((a+256*x) &&& (b+256*y)) % 2 ^ 8=(a &&& b):=by rw [Nat.and_mod_two_pow,show (a+256*x) % 2 ^ 8=a from by omega,show (b+256*y) % 2 ^ 8=b from by omega]
 have h2:((a+256*x) &&& (b+256*y)) / 2 ^ 8=(x &&& y):=by rw [Nat.and_div_two_pow,show (a+256*x) / 2 ^ 8=x from by omega,show (b+256*y) / 2 ^ 8=y from by omega]
 omega
def Ba3 (b:Nat):Nat:=((List.range 8).filter fun j=>b.testBit j).length
def cnt (s n:Nat):Nat:=((List.range n).filter fun j=>s.testBit j).length
theorem Af5 (s n m:Nat):cnt s (n+m)=cnt s n+cnt (s / 2 ^ n) m:=by
 unfold cnt;rw [List.range_add,Eq5,Ek5,List.filter_map,Eo2]
 congr 2
 apply congrArg (fun f=>List.filter f (List.range m))
 funext j
 simp [Es3,Nat.add_comm]
theorem cnt8 (s:Nat):cnt s 8=Ba3 (s % 256):=by
 unfold cnt Ba3
 congr 1
 apply List.filter_congr;intro j hj;have:j<8:=Em9.1 hj;rw [show (256:Nat)=2 ^ 8 from rfl,Er0];simp [this]
theorem Eg0 (s:Nat):Ag9 s=cnt s 256:=rfl
theorem cnt64 (s:Nat):cnt s 64=Ba3 (s % 256)+Ba3 (s / 256 % 256)+Ba3 (s / 65536 % 256)+Ba3 (s / 16777216 % 256)+Ba3 (s / 4294967296 % 256)+Ba3 (s / 1099511627776 % 256)+Ba3 (s / 281474976710656 % 256)+Ba3 (s / 72057594037927936 % 256):=by
 rw [Af5 s 8 56,Af5 _ 8 48,Af5 _ 8 40,Af5 _ 8 32,Af5 _ 8 24,Af5 _ 8 16,Af5 _ 8 8];simp only [cnt8,Nat.div_div_eq_div_mul];simp only [Nat.reducePow,Nat.reduceMul];omega
theorem cnt_mod (s:Nat):cnt (s % 2 ^ 64) 64=cnt s 64:=by
 unfold cnt
 congr 1
 apply List.filter_congr;intro j hj;have:j<64:=Em9.1 hj;rw [Er0];simp [this]
def wdN (s i:Nat):Nat:=s / 2 ^ (64*i) % 2 ^ 64
theorem Co7 (s:Nat):Ag9 s=cnt (wdN s 0) 64+cnt (wdN s 1) 64+cnt (wdN s 2) 64+cnt (wdN s 3) 64:=by
 rw [Eg0,Af5 s 64 192,Af5 _ 64 128,Af5 _ 64 64];unfold wdN;simp only [cnt_mod,Nat.div_div_eq_div_mul];simp only [Nat.reducePow,Nat.reduceMul,Nat.div_one];omega
def f1 (b:Nat):Nat:=(b / 2 &&& 85)+(b &&& 85)
def f2 (b:Nat):Nat:=(b / 4 &&& 51)+(b &&& 51)
def f3 (b:Nat):Nat:=(b / 16+b) &&& 15
theorem f1_c:∀ b,b<256→∀ c,c<2→(b / 2+128*c) &&& 85=b / 2 &&& 85:=by decide+kernel
theorem f2_c:∀ b,b<256→∀ c,c<4→(b / 4+64*c) &&& 51=b / 4 &&& 51:=by decide+kernel
theorem f3_c:∀ b,b<256→∀ c,c<16→(b / 16+16*c+b) &&& 15=(b / 16+b) &&& 15:=by decide+kernel
theorem As0:∀ b,b<256→f1 b<256:=by decide+kernel
theorem Aa9:∀ b,b<256→f2 (f1 b)≤68∧f2 (f1 b) % 16≤4:=by decide+kernel
theorem f321:∀ b,b<256→f3 (f2 (f1 b))=Ba3 b:=by decide+kernel
theorem An2:∀ b,b<256→Ba3 b≤8:=by decide+kernel
theorem dig8 (x:Nat) (hx:x<2 ^ 64):∃ a b c d e f g h:Nat,a<256∧b<256∧c<256∧d<256∧e<256∧f<256∧g<256∧h<256∧x=dig [a,b,c,d,e,f,g,h]:=
 ⟨x % 256,x / 256 % 256,x / 65536 % 256,x / 16777216 % 256,x / 4294967296 % 256,x / 1099511627776 % 256,x / 281474976710656 % 256,x / 72057594037927936 % 256,by omega,by omega,by omega,by omega,by omega,by omega,by omega,by omega,by simp only [dig];omega⟩
def st1 (x:Nat):Nat:=(x / 2 &&& 6148914691236517205)+(x &&& 6148914691236517205)
def st2 (x:Nat):Nat:=(x / 4 &&& 3689348814741910323)+(x &&& 3689348814741910323)
def st3 (x:Nat):Nat:=(x / 16+x) &&& 1085102592571150095
theorem and8 {a b c d e f g h m M:Nat} (hM:M=dig [m,m,m,m,m,m,m,m]) (hm:m<256) (ha:a<256) (hb:b<256) (hc:c<256) (hd:d<256) (he:e<256) (hf:f<256) (hg:g<256) (hh:h<256):
  dig [a,b,c,d,e,f,g,h] &&& M=dig [a &&& m,b &&& m,c &&& m,d &&& m,e &&& m,f &&& m,g &&& m,h &&& m]:=by
 subst hM;simp only [dig];rw [Z6 ha hm,Z6 hb hm,Z6 hc hm,Z6 hd hm,Z6 he hm,Z6 hf hm,Z6 hg hm,Z6 hh hm];simp
theorem st1_dig {a b c d e f g h:Nat} (ha:a<256) (hb:b<256) (hc:c<256) (hd:d<256) (he:e<256) (hf:f<256) (hg:g<256) (hh:h<256):
  st1 (dig [a,b,c,d,e,f,g,h])=dig [f1 a,f1 b,f1 c,f1 d,f1 e,f1 f,f1 g,f1 h]:=by
 unfold st1;have h2:dig [a,b,c,d,e,f,g,h] / 2=dig [a / 2+128*(b % 2),b / 2+128*(c % 2),c / 2+128*(d % 2),d / 2+128*(e % 2),e / 2+128*(f % 2),f / 2+128*(g % 2),g / 2+128*(h % 2),h / 2+128*0]:=by simp only [dig];omega
 rw [h2,and8 (m:=85) (M:=6148914691236517205) J (by decide) (by omega) (by omega) (by omega) (by omega) (by omega) (by omega) (by omega) (by omega),and8 (m:=85) (M:=6148914691236517205) J (by decide) ha hb hc hd he hf hg hh];rw [f1_c a ha _ (by omega),f1_c b hb _ (by omega),f1_c c hc _ (by omega),f1_c d hd _ (by omega),f1_c e he _ (by omega),f1_c f hf _ (by omega),f1_c g hg _ (by omega),f1_c h hh _ (by omega)];simp only [dig,f1];omega
theorem st2_dig {a b c d e f g h:Nat} (ha:a<256) (hb:b<256) (hc:c<256) (hd:d<256) (he:e<256) (hf:f<256) (hg:g<256) (hh:h<256):
  st2 (dig [a,b,c,d,e,f,g,h])=dig [f2 a,f2 b,f2 c,f2 d,f2 e,f2 f,f2 g,f2 h]:=by
 unfold st2;have h2:dig [a,b,c,d,e,f,g,h] / 4=dig [a / 4+64*(b % 4),b / 4+64*(c % 4),c / 4+64*(d % 4),d / 4+64*(e % 4),e / 4+64*(f % 4),f / 4+64*(g % 4),g / 4+64*(h % 4),h / 4+64*0]:=by simp only [dig];omega
 rw [h2,and8 (m:=51) (M:=3689348814741910323) J (by decide) (by omega) (by omega) (by omega) (by omega) (by omega) (by omega) (by omega) (by omega),and8 (m:=51) (M:=3689348814741910323) J (by decide) ha hb hc hd he hf hg hh];rw [f2_c a ha _ (by omega),f2_c b hb _ (by omega),f2_c c hc _ (by omega),f2_c d hd _ (by omega),f2_c e he _ (by omega),f2_c f hf _ (by omega),f2_c g hg _ (by omega),f2_c h hh _ (by omega)];simp only [dig,f2];omega
theorem st3_dig {a b c d e f g h:Nat} (ha:a≤68∧a % 16≤4) (hb:b≤68∧b % 16≤4) (hc:c≤68∧c % 16≤4) (hd:d≤68∧d % 16≤4) (he:e≤68∧e % 16≤4) (hf:f≤68∧f % 16≤4) (hg:g≤68∧g % 16≤4) (hh:h≤68∧h % 16≤4):
  st3 (dig [a,b,c,d,e,f,g,h])=dig [f3 a,f3 b,f3 c,f3 d,f3 e,f3 f,f3 g,f3 h]:=by
 unfold st3;have h2:dig [a,b,c,d,e,f,g,h] / 16+dig [a,b,c,d,e,f,g,h]=dig [a / 16+16*(b % 16)+a,b / 16+16*(c % 16)+b,c / 16+16*(d % 16)+c,d / 16+16*(e % 16)+d,e / 16+16*(f % 16)+e,f / 16+16*(g % 16)+f,g / 16+16*(h % 16)+g,h / 16+16*0+h]:=by simp only [dig];omega
 rw [h2,and8 (m:=15) (M:=1085102592571150095) J (by decide) (by omega) (by omega) (by omega) (by omega) (by omega) (by omega) (by omega) (by omega)];rw [f3_c a (by omega) _ (by omega),f3_c b (by omega) _ (by omega),f3_c c (by omega) _ (by omega),f3_c d (by omega) _ (by omega),f3_c e (by omega) _ (by omega),f3_c f (by omega) _ (by omega),f3_c g (by omega) _ (by omega),f3_c h (by omega) _ (by omega)]
 rfl
def st4 (x:Nat):Nat:=x+x / 256
def st5 (x:Nat):Nat:=x+x / 65536
def st6 (x:Nat):Nat:=x+x / 4294967296
theorem dig_pop {a b c d e f g h:Nat} (ha:a<256) (hb:b<256) (hc:c<256) (hd:d<256) (he:e<256) (hf:f<256) (hg:g<256) (hh:h<256):
  cnt (dig [a,b,c,d,e,f,g,h]) 64=Ba3 a+Ba3 b+Ba3 c+Ba3 d+Ba3 e+Ba3 f+Ba3 g+Ba3 h:=by
 rw [cnt64];simp only [dig]
 congr 1;congr 1;congr 1;congr 1;congr 1;congr 1;congr 1
 all_goals (congr 1;omega)
theorem Dh0 {a b c d e f g h:Nat} (ha:a<256) (hb:b<256) (hc:c<256) (hd:d<256) (he:e<256) (hf:f<256) (hg:g<256) (hh:h<256):dig [a,b,c,d,e,f,g,h]<2 ^ 64:=by
 have e7:dig [h]≤255:=by show h+256*0≤_;omega
 have e6:dig [g,h]≤65535:=by show g+256*dig [h]≤_;omega
 have e5:dig [f,g,h]≤16777215:=by show f+256*dig [g,h]≤_;omega
 have e4:dig [e,f,g,h]≤4294967295:=by show e+256*dig [f,g,h]≤_;omega
 have e3:dig [d,e,f,g,h]≤1099511627775:=by show d+256*dig [e,f,g,h]≤_;omega
 have e2:dig [c,d,e,f,g,h]≤281474976710655:=by show c+256*dig [d,e,f,g,h]≤_;omega
 have e1:dig [b,c,d,e,f,g,h]≤72057594037927935:=by show b+256*dig [c,d,e,f,g,h]≤_;omega
 have e0:dig [a,b,c,d,e,f,g,h]≤18446744073709551615:=by show a+256*dig [b,c,d,e,f,g,h]≤_;omega
 omega
theorem dig_63 {a b c d e f g h:Nat} (ha:a<256) (hb:b<256) (hc:c<256) (hd:d<256) (he:e<256) (hf:f<256) (hg:g<256) (hh:h<128):dig [a,b,c,d,e,f,g,h]<2 ^ 63:=by
 have e7:dig [h]≤127:=by show h+256*0≤_;omega
 have e6:dig [g,h]≤32767:=by show g+256*dig [h]≤_;omega
 have e5:dig [f,g,h]≤8388607:=by show f+256*dig [g,h]≤_;omega
 have e4:dig [e,f,g,h]≤2147483647:=by show e+256*dig [f,g,h]≤_;omega
 have e3:dig [d,e,f,g,h]≤549755813887:=by show d+256*dig [e,f,g,h]≤_;omega
 have e2:dig [c,d,e,f,g,h]≤140737488355327:=by show c+256*dig [d,e,f,g,h]≤_;omega
 have e1:dig [b,c,d,e,f,g,h]≤36028797018963967:=by show b+256*dig [c,d,e,f,g,h]≤_;omega
 have e0:dig [a,b,c,d,e,f,g,h]≤9223372036854775807:=by show a+256*dig [b,c,d,e,f,g,h]≤_;omega
 omega
theorem dig_68 {a b c d e f g h:Nat} (ha:a≤68) (hb:b≤68) (hc:c≤68) (hd:d≤68) (he:e≤68) (hf:f≤68) (hg:g≤68) (hh:h≤68):dig [a,b,c,d,e,f,g,h] / 16+dig [a,b,c,d,e,f,g,h]<2 ^ 64:=by
 have e7:dig [h]≤68:=by show h+256*0≤_;omega
 have e6:dig [g,h]≤17476:=by show g+256*dig [h]≤_;omega
 have e5:dig [f,g,h]≤4473924:=by show f+256*dig [g,h]≤_;omega
 have e4:dig [e,f,g,h]≤1145324612:=by show e+256*dig [f,g,h]≤_;omega
 have e3:dig [d,e,f,g,h]≤293203100740:=by show d+256*dig [e,f,g,h]≤_;omega
 have e2:dig [c,d,e,f,g,h]≤75059993789508:=by show c+256*dig [d,e,f,g,h]≤_;omega
 have e1:dig [b,c,d,e,f,g,h]≤19215358410114116:=by show b+256*dig [c,d,e,f,g,h]≤_;omega
 have e0:dig [a,b,c,d,e,f,g,h]≤4919131752989213764:=by show a+256*dig [b,c,d,e,f,g,h]≤_;omega
 omega
theorem dig_mod (a b c d e f g h:Nat):dig [a,b,c,d,e,f,g,h] % 128=a % 128:=by
 show (a+256*dig [b,c,d,e,f,g,h]) % 128=a % 128;generalize dig [b,c,d,e,f,g,h]=y;omega
theorem dig_div1 {a r:Nat} (ha:a<256):(a+256*r) / 256=r:=by omega
theorem dig_div2 {a b r:Nat} (ha:a<256) (hb:b<256):(a+256*(b+256*r)) / 65536=r:=by omega
theorem dig_div4 {a b c d r:Nat} (ha:a<256) (hb:b<256) (hc:c<256) (hd:d<256):(a+256*(b+256*(c+256*(d+256*r)))) / 4294967296=r:=by omega
theorem st4_dig (a b c d e f g h:Nat) (ha:a<256):st4 (dig [a,b,c,d,e,f,g,h])=dig [a+b,b+c,c+d,d+e,e+f,f+g,g+h,h]:=by
 simp only [st4,dig];rw [dig_div1 ha];omega
theorem st5_dig (a b c d e f g h:Nat) (ha:a<256) (hb:b<256):st5 (dig [a,b,c,d,e,f,g,h])=dig [a+c,b+d,c+e,d+f,e+g,f+h,g,h]:=by
 simp only [st5,dig];rw [dig_div2 ha hb];omega
theorem st6_dig (a b c d e f g h:Nat) (ha:a<256) (hb:b<256) (hc:c<256) (hd:d<256):st6 (dig [a,b,c,d,e,f,g,h])=dig [a+e,b+f,c+g,d+h,e,f,g,h]:=by
 simp only [st6,dig];rw [dig_div4 ha hb hc hd];omega
theorem Cj6 (x:Nat) (hx:x<2 ^ 64):st1 x<2 ^ 64∧st2 (st1 x)<2 ^ 64∧st2 (st1 x) / 16+st2 (st1 x)<2 ^ 64∧st3 (st2 (st1 x))<2 ^ 64∧st4 (st3 (st2 (st1 x)))<2 ^ 64∧st5 (st4 (st3 (st2 (st1 x))))<2 ^ 64∧
  st6 (st5 (st4 (st3 (st2 (st1 x)))))<2 ^ 63∧st6 (st5 (st4 (st3 (st2 (st1 x))))) % 128=cnt x 64∧cnt x 64≤64:=by
 obtain ⟨a,b,c,d,e,f,g,h,ha,hb,hc,hd,he,hf,hg,hh,rfl⟩:=dig8 x hx
 rw [dig_pop ha hb hc hd he hf hg hh,st1_dig ha hb hc hd he hf hg hh,st2_dig (As0 a ha) (As0 b hb) (As0 c hc) (As0 d hd) (As0 e he) (As0 f hf) (As0 g hg) (As0 h hh),
  st3_dig (Aa9 a ha) (Aa9 b hb) (Aa9 c hc) (Aa9 d hd) (Aa9 e he) (Aa9 f hf) (Aa9 g hg) (Aa9 h hh),f321 a ha,f321 b hb,f321 c hc,f321 d hd,f321 e he,f321 f hf,f321 g hg,f321 h hh]
 have qa:=An2 a ha;have qb:=An2 b hb;have qc:=An2 c hc;have qd:=An2 d hd;have qe:=An2 e he;have qf:=An2 f hf;have qg:=An2 g hg;have qh:=An2 h hh;have L1:=Dh0 (As0 a ha) (As0 b hb) (As0 c hc) (As0 d hd) (As0 e he) (As0 f hf) (As0 g hg) (As0 h hh);have L2:=dig_68 (Aa9 a ha).1 (Aa9 b hb).1 (Aa9 c hc).1 (Aa9 d hd).1 (Aa9 e he).1 (Aa9 f hf).1 (Aa9 g hg).1 (Aa9 h hh).1;generalize Ba3 a=pa at*;generalize Ba3 b=pb at*;generalize Ba3 c=pc at*;generalize Ba3 d=pd at*;generalize Ba3 e=pe at*;generalize Ba3 f=pf at*;generalize Ba3 g=pg at*;generalize Ba3 h=ph at*;refine ⟨L1,by omega,L2,?_⟩;clear L1 L2;rw [st4_dig _ _ _ _ _ _ _ _ (by omega),st5_dig _ _ _ _ _ _ _ _ (by omega) (by omega),st6_dig _ _ _ _ _ _ _ _ (by omega) (by omega) (by omega) (by omega)]
 exact ⟨Dh0 (by omega) (by omega) (by omega) (by omega) (by omega) (by omega) (by omega) (by omega),Dh0 (by omega) (by omega) (by omega) (by omega) (by omega) (by omega) (by omega) (by omega),Dh0 (by omega) (by omega) (by omega) (by omega) (by omega) (by omega) (by omega) (by omega),
  dig_63 (by omega) (by omega) (by omega) (by omega) (by omega) (by omega) (by omega) (by omega),by rw [dig_mod];omega,by omega⟩
theorem N7 {P:Program} {n:Nat} {e:Env} {o:Oper} {φ:World→Prop} {v v':Value} (h:Does P n e o φ v) (hv:v=v'):Does P n e o φ v':=hv ▸ h
theorem At1 (x k:Nat) (hk:k≤64):Value.int .u64 ((x:Int).fdiv (2 ^ (min ((k:Int)).toNat IntKind.u64.bits)))= .int .u64 ((x / 2 ^ k:Nat):Int):=by
 have h64:IntKind.u64.bits=64:=rfl;rw [h64,Ek9,Nat.min_eq_left hk,Int.fdiv_eq_ediv_of_nonneg _ (by exact Int.le_of_lt (Int.pow_pos (by decide)))]
 congr 1
theorem Bc8 (x y z:Nat) (hz:x+y=z) (h:z<2 ^ 64):Value.int .u64 (IntKind.u64.wrap ((x:Int)+(y:Int)))= .int .u64 ((z:Nat):Int):=J4 (by rw [Ap7 (by omega)];omega)
theorem and127 (x:Nat) (hx:x<2 ^ 63):Ba5 .and .i64 (x:Int) 127=((x % 128:Nat):Int):=by
 unfold Ba5;have e1:(BitVec.ofInt IntKind.i64.bits (x:Int)).toNat=x:=by simp [IntKind.bits];omega
 have e2:(BitVec.ofInt IntKind.i64.bits (127:Int)).toNat=127:=rfl;simp only [BitVec.toNat_and,e1,e2];rw [show (127:Nat)=2 ^ 7 - 1 from rfl,Nat.and_two_pow_sub_one_eq_mod];exact I4 (by omega)
theorem ones_c (x:Nat) (hx:x<2 ^ 64) (w:World):Calls P 113 #[.int .u64 (x:Int)] w (Ret fun v w'=>v= .int .i64 ((cnt x 64:Nat):Int)∧w'=w):=by
 obtain ⟨h1,h2,h3,h4,h5,h6,h7,h8,h9⟩:=Cj6 x hx;obtain ⟨u1,eu1⟩:∃ u:Nat,u=x / 2 ^ 1:=⟨_,rfl⟩;obtain ⟨u2,eu2⟩:∃ u:Nat,u=u1 &&& 6148914691236517205:=⟨_,rfl⟩;obtain ⟨u3,eu3⟩:∃ u:Nat,u=x &&& 6148914691236517205:=⟨_,rfl⟩;obtain ⟨y1,ey1⟩:∃ u:Nat,u=u2+u3:=⟨_,rfl⟩;obtain ⟨u4,eu4⟩:∃ u:Nat,u=y1 / 2 ^ 2:=⟨_,rfl⟩;obtain ⟨u5,eu5⟩:∃ u:Nat,u=u4 &&& 3689348814741910323:=⟨_,rfl⟩;obtain ⟨u6,eu6⟩:∃ u:Nat,u=y1 &&& 3689348814741910323:=⟨_,rfl⟩;obtain ⟨y2,ey2⟩:∃ u:Nat,u=u5+u6:=⟨_,rfl⟩;obtain ⟨u7,eu7⟩:∃ u:Nat,u=y2 / 2 ^ 4:=⟨_,rfl⟩;obtain ⟨u8,eu8⟩:∃ u:Nat,u=u7+y2:=⟨_,rfl⟩;obtain ⟨y3,ey3⟩:∃ u:Nat,u=u8 &&& 1085102592571150095:=⟨_,rfl⟩;obtain ⟨u9,eu9⟩:∃ u:Nat,u=y3 / 2 ^ 8:=⟨_,rfl⟩;obtain ⟨y4,ey4⟩:∃ u:Nat,u=y3+u9:=⟨_,rfl⟩;obtain ⟨u10,eu10⟩:∃ u:Nat,u=y4 / 2 ^ 16:=⟨_,rfl⟩;obtain ⟨y5,ey5⟩:∃ u:Nat,u=y4+u10:=⟨_,rfl⟩;obtain ⟨u11,eu11⟩:∃ u:Nat,u=y5 / 2 ^ 32:=⟨_,rfl⟩;obtain ⟨y6,ey6⟩:∃ u:Nat,u=y5+u11:=⟨_,rfl⟩;have q1:y1=st1 x:=by rw [ey1,eu2,eu3,eu1];rfl
 have q2:y2=st2 (st1 x):=by rw [← q1,ey2,eu5,eu6,eu4];rfl
 have q8:u8=st2 (st1 x) / 16+st2 (st1 x):=by rw [← q2,eu8,eu7]
 have q3:y3=st3 (st2 (st1 x)):=by rw [← q2,ey3,eu8,eu7];rfl
 have q4:y4=st4 (st3 (st2 (st1 x))):=by rw [← q3,ey4,eu9];rfl
 have q5:y5=st5 (st4 (st3 (st2 (st1 x)))):=by rw [← q4,ey5,eu10];rfl
 have q6:y6=st6 (st5 (st4 (st3 (st2 (st1 x))))):=by rw [← q5,ey6,eu11];rfl
 rw [← q1] at h1;rw [← q2] at h2;rw [← q8] at h3;rw [← q3] at h4;rw [← q4] at h5;rw [← q5] at h6;rw [← q6] at h7 h8;have s4:Value.int .u64 ((x:Int).fdiv (2 ^ (min ((1:Int)).toNat IntKind.u64.bits)))= .int .u64 (u1:Int):=by rw [eu1];exact At1 x 1 (by decide)
 have s5:Ba5 .and .u64 (u1:Int) 6148914691236517205=(u2:Int):=by rw [eu2];exact Aj4 u1 6148914691236517205 (by rw [eu1];omega) (by decide)
 have s7:Ba5 .and .u64 (x:Int) 6148914691236517205=(u3:Int):=by rw [eu3];exact Aj4 x 6148914691236517205 hx (by decide)
 have s8:Value.int .u64 (IntKind.u64.wrap ((u2:Int)+(u3:Int)))= .int .u64 (y1:Int):=Bc8 _ _ y1 ey1.symm (by omega);have s10:Value.int .u64 ((y1:Int).fdiv (2 ^ (min ((2:Int)).toNat IntKind.u64.bits)))= .int .u64 (u4:Int):=by rw [eu4];exact At1 y1 2 (by decide)
 have s11:Ba5 .and .u64 (u4:Int) 3689348814741910323=(u5:Int):=by rw [eu5];exact Aj4 u4 3689348814741910323 (by rw [eu4];omega) (by decide)
 have s13:Ba5 .and .u64 (y1:Int) 3689348814741910323=(u6:Int):=by rw [eu6];exact Aj4 y1 3689348814741910323 h1 (by decide)
 have s14:Value.int .u64 (IntKind.u64.wrap ((u5:Int)+(u6:Int)))= .int .u64 (y2:Int):=Bc8 _ _ y2 ey2.symm (by omega);have s16:Value.int .u64 ((y2:Int).fdiv (2 ^ (min ((4:Int)).toNat IntKind.u64.bits)))= .int .u64 (u7:Int):=by rw [eu7];exact At1 y2 4 (by decide)
 have s18:Value.int .u64 (IntKind.u64.wrap ((u7:Int)+(y2:Int)))= .int .u64 (u8:Int):=Bc8 _ _ u8 eu8.symm (by omega);have s19:Ba5 .and .u64 (u8:Int) 1085102592571150095=(y3:Int):=by rw [ey3];exact Aj4 u8 1085102592571150095 h3 (by decide)
 have s22:Value.int .u64 ((y3:Int).fdiv (2 ^ (min ((8:Int)).toNat IntKind.u64.bits)))= .int .u64 (u9:Int):=by rw [eu9];exact At1 y3 8 (by decide)
 have s23:Value.int .u64 (IntKind.u64.wrap ((y3:Int)+(u9:Int)))= .int .u64 (y4:Int):=Bc8 _ _ y4 ey4.symm (by omega);have s26:Value.int .u64 ((y4:Int).fdiv (2 ^ (min ((16:Int)).toNat IntKind.u64.bits)))= .int .u64 (u10:Int):=by rw [eu10];exact At1 y4 16 (by decide)
 have s27:Value.int .u64 (IntKind.u64.wrap ((y4:Int)+(u10:Int)))= .int .u64 (y5:Int):=Bc8 _ _ y5 ey5.symm (by omega);have s30:Value.int .u64 ((y5:Int).fdiv (2 ^ (min ((32:Int)).toNat IntKind.u64.bits)))= .int .u64 (u11:Int):=by rw [eu11];exact At1 y5 32 (by decide)
 have s31:Value.int .u64 (IntKind.u64.wrap ((y5:Int)+(u11:Int)))= .int .u64 (y6:Int):=Bc8 _ _ y6 ey6.symm (by omega);have s34:Ba5 .and .i64 (y6:Int) 127=((cnt x 64:Nat):Int):=by rw [and127 _ h7,h8]
 clear h1 h2 h3 h4 h5 h6 h8 h9 q1 q2 q3 q4 q5 q6 q8 eu1 eu2 eu3 ey1 eu4 eu5 eu6 ey2 eu7 eu8 ey3 eu9 ey4 eu10 ey5 eu11 ey6;refine D4 Tryz.func113 J J (Qd (Zc 1 J (Qd (Z 1 J (C9 J (N7 (Ab3 J J (by decide)) s4) ?_)))));refine C9 J (N7 (Q4 J J J) (J4 s5)) (Z 1 J (C9 J (N7 (Q4 J J J) (J4 s7)) (C9 J (N7 (Ae8 J J) s8) (Zc 1 J (Qd (Z 1 J (C9 J (N7 (Ab3 J J (by decide)) s10) ?_)))))));refine C9 J (N7 (Q4 J J J) (J4 s11)) (Z 1 J (C9 J (N7 (Q4 J J J) (J4 s13)) (C9 J (N7 (Ae8 J J) s14) (Zc 1 J (Qd (Z 1 J (C9 J (N7 (Ab3 J J (by decide)) s16) ?_)))))));refine Z 1 J (C9 J (N7 (Ae8 J J) s18) (C9 J (N7 (Q4 J J J) (J4 s19)) (Zc 1 J (Qd (Z 2 J (C9 J (N7 (Ab3 J J (by decide)) s22) ?_))))));refine C9 J (N7 (Ae8 J J) s23) (Zc 1 J (Qd (Z 2 J (C9 J (N7 (Ab3 J J (by decide)) s26) ?_))));refine C9 J (N7 (Ae8 J J) s27) (Zc 1 J (Qd (Z 2 J (C9 J (N7 (Ab3 J J (by decide)) s30) ?_))));exact C9 J (N7 (Ae8 J J) s31) (Zc 1 J (Qd (Z 1 J (C9 J (N7 (Cr4 kn68 Tryz.underlying3 J) (show Value.int .i64 (IntKind.i64.wrap (y6:Int))= .int .i64 (y6:Int) from J4 (I4 (by omega)))) (C9 J (N7 (Q4 J J J) (J4 s34)) (Zc 1 J (A6 (B4 J J ⟨rfl,rfl⟩))))))))
theorem Ds4 (s i:Nat):wd s i=((wdN s i:Nat):Int):=rfl
theorem Ef9 (s:Nat) (w:World):Calls P 83 #[.agg (C4 s).toArray] w (Ret fun v w'=>v= .int .i64 ((Ag9 s:Nat):Int)∧Chg [] w w'):=by
 have h:=count_c_ s w (fun i=>cnt (wdN s i) 64) (fun i _ w=>ones_c (wdN s i) (Ep5 _ (by decide)) w) (fun i _=>(Cj6 (wdN s i) (Ep5 _ (by decide))).2.2.2.2.2.2.2.2);rw [Co7];exact h
structure Laid (w:World):Prop where
 sz:4≤w.heap.size
 t64:∀ j,j<64→w.cell? ⟨0,j,none⟩=some (.int .u8 (Lib.deBruijn64tab.getD j 0:Nat))
 p10:∀ j,j<20→w.cell? ⟨1,j,none⟩=some (.int .u64 ((10 ^ j:Nat):Int))
 h10:∃ a b,w.heap[1]?=some (.cells (Lib.pow10Tab.map fun z=>Value.int .u64 z).toArray a b)
theorem Laid.q {S:List Nat} {w w':World} (h:Laid w) (k:Chg S w w') (hS:∀ b∈S,4≤b):Laid w':=
 have n0:0∉S:=fun h0=>by have:=hS 0 h0;omega
 have n1:1∉S:=fun h0=>by have:=hS 1 h0;omega
 ⟨En6 h.sz k.size,fun j hj=>k.cell n0 (h.t64 j hj),fun j hj=>k.cell n1 (h.p10 j hj),by rw [k.same 1 (by have:=h.sz;omega) n1];exact h.h10⟩
theorem Laid.u {w w':World} (h:Laid w) (k:Chg [] w w'):Laid w':=h.q k (fun b hb=>by cases hb)
theorem first_is {s n:Nat} (hn:n<256) (h1:s.testBit n=true) (h2:∀ j,j<n→s.testBit j=false):L8 s=n:=by
 unfold L8
 have:(List.range 256).find? (fun b=>s.testBit b)=some n:=by
  rw [List.find?_range_eq_some];exact ⟨h1,by simpa using hn,fun j hj=>by rw [h2 j hj];rfl⟩
 rw [this];rfl
theorem Ef7 {x:Nat} (h0:x≠0) (h:x<2 ^ 64):Lib.ctz 64 x<64∧x.testBit (Lib.ctz 64 x)=true∧∀ j,j<Lib.ctz 64 x→x.testBit j=false:=by
 obtain ⟨m,hm,hlt⟩:=Lib.ctzFrom_spec 64 x (Nat.pos_of_ne_zero h0) h;unfold Lib.ctz;rw [Ek0 h0];generalize Lib.ctzFrom 64 x=c at hm hlt;subst hm
 refine ⟨hlt,?_,fun j hj=>?_⟩
 ·rw [Nat.testBit_two_pow_mul];simp
 ·rw [Nat.testBit_two_pow_mul];simp;omega
theorem Cs3 (s k j:Nat) (hj:j<64):(wdN s k).testBit j=s.testBit (64*k+j):=by
 unfold wdN;rw [Er0,Es3];simp [hj,Nat.add_comm]
theorem Do3 {s k:Nat} (hk:k<4) (hz:∀ i,i<k→wdN s i=0) (h0:wdN s k≠0):L8 s=64*k+Lib.ctz 64 (wdN s k):=by
 obtain ⟨h1,h2,h3⟩:=Ef7 h0 (Ep5 _ (by decide));refine first_is (by omega) (by rw [← Cs3 s k _ h1];exact h2) (fun j hj=>?_)
 rcases Eq7 j (64*k) with h|h
 ·have:=Cs3 s (j / 64) (j % 64) (Ep5 _ (by decide));rw [hz _ (by omega),show 64*(j / 64)+j % 64=j from by omega] at this;rw [← this];simp
 ·have:=Cs3 s k (j - 64*k) (by omega);rw [show 64*k+(j - 64*k)=j from by omega] at this;rw [← this];exact h3 _ (by omega)
theorem wdN_ne {s k:Nat} (h:wdN s k≠0):s≠0:=by
 intro h0;subst h0;apply h;unfold wdN;simp
theorem Dj6 {s:Nat} (hs:L4 s) (h:∀ i,i<4→wdN s i=0):s=0:=
 Du5 hs P8 (fun i hi=>by rw [Ds4,h i hi];unfold wd;simp)
theorem Do2:L8 0=0:=by decide+kernel
theorem tz_idx (x:Nat) (h0:x≠0) (hx:x<2 ^ 64):∃ n a m i:Nat,(IntKind.u64.wrap (0 - (x:Int))=(n:Int))∧Ba5 .and .u64 (x:Int) (n:Int)=(a:Int)∧IntKind.u64.wrap ((a:Int)*285870213051353865)=(m:Int)∧
  Value.int .u64 ((m:Int).fdiv (2 ^ (min ((58:Int)).toNat IntKind.u64.bits)))= .int .u64 (i:Int)∧i<64∧Lib.deBruijn64tab.getD i 0=Lib.ctz 64 x∧Lib.ctz 64 x<64:=by
 obtain ⟨hlow,hk⟩:=Lib.lowest_bit 64 x h0 hx;obtain ⟨hi,htab⟩:=Lib.deBruijn64_at _ hk
 refine ⟨2 ^ 64 - x,2 ^ Lib.ctz 64 x,2 ^ Lib.ctz 64 x*285870213051353865 % 18446744073709551616,_,?_,?_,?_,?_,hi,htab,hk⟩
 ·rw [IntKind.wrap_u64];omega
 ·rw [Aj4 x (2 ^ 64 - x) hx (by omega),hlow]
 ·rw [IntKind.wrap_u64];omega
 ·exact At1 _ 58 (by decide)
theorem tz_c (x:Nat) (hx:x<2 ^ 64) (h0:x≠0) (w:World) (hL:Laid w):Calls P 104 #[.int .u64 (x:Int)] w (Ret fun v w'=>v= .int .i64 ((Lib.ctz 64 x:Nat):Int)∧w'=w):=by
 obtain ⟨n,a,m,i,s7,s8,s9,s10,hi,htab,hlt⟩:=tz_idx x h0 hx;have hcell:=hL.t64 i hi;rw [htab] at hcell;rw [← s7] at s8
 refine D4 Tryz.func104 J J (Qd (Zc 1 J (Qa (Qd (Zc 2 J (A4 J (fun hc=>?_) (fun hc=>?_)))))))
 ·try simp at hc
  omega
 ·try simp at hc
  refine A7 (Qd (Z 2 J (C9 J (Does.neg J) (C9 J (N7 (Q4 J J J) (J4 s8)) (C9 J (N7 (Cg4 J J) (J4 s9)) (C9 J (N7 (Ab3 J J (by decide)) s10) ?_))))));refine C9 J (E6 ar226 J J (by omega) (by omega)) (Lc o5 J (by rw [El6];exact hcell) ?_);refine C9 J (H4 kn5 Tryz.underlying3 J (by exact I4 (by omega))) ?_;exact Zc 1 J (A6 (B4 J J ⟨rfl,rfl⟩))
theorem Cx5 (s:Nat) (hs:L4 s) (w:World) (hL:Laid w):Calls P 74 #[.agg (C4 s).toArray] w (Ret fun v w'=>v= .tuple #[.int .u8 ((L8 s:Nat):Int),.bool (decide (s≠0))]∧Chg [] w w'):=by
 have hC:=A8 [] w;refine D4 Tryz.func74 J J (Qd (B5 J (E1 J J) ?_));intro b1 w1 hb1 hs1 hx1 hB1;have hC:=hC.s0 hx1;have hL:=hL.u hx1;refine Zc 2 J (Qa (Qd (La J0 J ‹_› J J ?_)))
 refine Zc 1 J (B2 (D8 (σ:=Nat) (fun k=>[(6,.agg (C4 s).toArray),(7,.int .i64 k)]) (fun k wr=>Chg [] w wr∧Laid wr∧k≤4∧(∀ i,i<k→wdN s i=0)) (fun k wr=>4 - k) 0 (sb J) ?_ ?_))
 ·exact ⟨hC,hL,by omega,fun i hi=>by omega⟩
 rintro k w9 ⟨hC,hL,hk,hz⟩
 try have hzw:=hC.size
 refine Qd (Zc 1 J (Qa (A4 J (fun hc=>?_) (fun hc=>?_))))
 ·try simp at hc
  refine A7 (Qa (B2 (Qd (Z 1 J (C9 J (Av5 Av2 (by kernel_rfl) J J (by omega) (by omega) (Am4 s k (by omega))) ?_)))))
  refine Zc 2 J (Qd (Zc 2 J (A4 J (fun hw=>?_) (fun hw=>?_))))
  ·try simp at hw
   have hw':wdN s k≠0:=fun h=>by apply hw;rw [Ds4,h];rfl
   have hf:=Do3 (by omega) hz hw';have hlt:=(Ef7 hw' (Ep5 _ (by decide))).1;refine Qd (Z 1 J (C9 J (Ap6 J J (by omega)) (Z 1 J (Ca fb104 J (tz_c (wdN s k) (Ep5 _ (by decide)) hw' _ ‹_›) ?_))));rintro _ _ ⟨rfl,rfl⟩;refine Ad J J (by omega) (C9 J (H4 kn3 Tryz.underlying5 J (by exact Al5 (by omega))) ?_);exact Zc 2 J (A6 (J1 J J J ⟨by rw [hf,El2 (wdN_ne hw')];rfl,hC⟩))
  ·try simp at hw
   refine A7 (Qb (Ad J J (by omega) (Zc 1 J ⟨k+1,sb J,?_,?_⟩)));refine ⟨hC,hL,by omega,fun i hi=>?_⟩
   by_cases hik:i=k
   ·subst hik;rw [Ds4] at hw;omega
   ·exact hz i (by omega)
   omega
 ·try simp at hc
  refine Xb (Qd (Zc 2 J (A6 (J1 J J J ?_))));have:s=0:=Dj6 hs (fun i hi=>hz i (by omega));subst this;exact ⟨by rw [Do2];rfl,hC⟩
theorem wu8 (x:Int):IntKind.u8.wrap x=x % 256:=by unfold IntKind.wrap;simp [IntKind.bits,IntKind.signed]
theorem Dg2 (s:ByteArray) (p:Ps) (sl:Value) (b:Nat) (w:World) (hs:s.size≤1048576) (hp:p.i<s.size) (hR:Blk w b (rdC s p sl) 239):Calls P 175 #[.pointer (some ⟨b,0,none⟩)] w (Ret fun v w'=>v= .agg (C4 (J8 (B6 s) p).1).toArray∧Chg [b] w w'∧Blk w' b (rdC s (J8 (B6 s) p).2 sl) 239):=by
 have hC:=A8 [b] w;have hlt:=Ad9 s (p.go 1);have hle:(B6 s).length=s.size:=E5 s;have hgo:(p.go 1).i=p.i+1:=rfl
 try have hlR:=hR.lt
 refine D4 Tryz.func175 J J (Qd (B5 J (B8 N0 J) ?_));intro b1 w1 hb1 hs1 hx1 hB1;have hR:=hR.u hx1;refine Qc (Qd (Z 2 J (Fa D9 J (Fa G7 J (Lb o3 J ‹_› (by rfl) ?_)))));refine Zc 1 J (Qd (Z 2 J (Fa D9 J (Fa G7 J (Lb o3 J ‹_› (by rfl) ?_)))));refine Ad J J (by omega) (Z 1 J (Fa D9 J (Fa G7 J (Pe sz3 J ‹_› J J ?_))));intro w2 hs2 hx2 hR;refine Qc (Qd (Z 2 J (Fa D9 J (Ca Cx7 J (Bj6 s (p.go 1) sl b _ ‹_›) ?_))));rintro _ w3 ⟨rfl,hx3⟩;have hz3:=hx3.size;refine Zc 5 J (Qd (Z 1 J (Ca fb203 J (named_c (H7 (B6 s) (p.go 1)) hlt _) ?_)));rintro _ w4 ⟨rfl,hx4⟩;have hz4:=hx4.size;refine Z 3 J (B5 J (B8 N0 J) ?_);intro b5 w5 hb5 hs5 hx5 hB5;refine Pe J9 J ‹_› J J ?_;intro w6 hs6 hx6 hB5;have hz6:=hx6.size;have hC:=hC.step (((((hx1.j hx2).j hx3).j hx4).j hx5).j hx6) (by simp<;>omega);have hR:=hR.q (((hx3.j hx4).j hx5).j hx6) (by simp<;>omega);have hB1:=hB1.q ((((hx2.j hx3).j hx4).j hx5).j hx6) (by simp<;>omega)
 refine Zc 1 J (Qa (B2 (Qd (Zc 3 J (A4 J (fun h1=>?_) (fun h1=>?_))))))
 ·try simp at h1
  refine C8 (S:=[]) 8 [(0,0),(0,1),(0,2),(0,3),(0,4),(0,5),(0,6),(0,7),(2,8)] mo (by kernel_rfl) ?_;intro w7 hx7 hh7;have hR:=hR.u hx7;refine Z 2 J (Fa D9 J (Z 2 J (Fa D9 J (Fa G7 J (D6 J (B3 o3 J ‹_› (by simp<;>omega) (by rfl)) ?_)))));refine Ca Al3 J (X6 s (p.go 1) sl b (p.go 1).i 4 _ ‹_›) ?_;rintro _ w8 ⟨rfl,hx8,hR'⟩;have hB1:=hB1.q (hx7.j hx8) (by simp<;>omega);have hB5:=hB5.q (hx7.j hx8) (by simp<;>omega);clear hR;have hR:=hR';clear hR';refine Qc (Qd (La J0 J ‹_› J J ?_));refine Pe J9 J ‹_› J J ?_;intro w9 hs9 hx9 hB1;have hC:=hC.step ((hx7.j hx8).j hx9) (by simp<;>omega);have hR:=hR.q hx9 (by simp;omega);refine Qc (A6 (D5 J J (A5 J0 ‹_› J J) ?_));have hE:J8 (B6 s) p=(0,(p.go 1).fail (p.go 1).i 4):=by unfold J8;simp only [];rw [Ek1 (by omega)]
  have h0:Ak0 (H7 (B6 s) (p.go 1))=none:=by rw [Dc9 s _ (by omega)];rfl
  exact ⟨by rw [hE,h0];rfl,hC,by rw [hE];exact hR⟩
 ·try simp at h1
  refine Qd (Z 1 J (Ca Do7 J (Dn8 _ Aw2 _ (by rfl) hlt _) ?_));rintro _ _ ⟨rfl,rfl⟩
  refine Zc 2 J (A4 J (fun h2=>?_) (fun h2=>?_))
  ·try simp at h2
   refine Qd (Z 1 J (B5 J (B7 Al4 Tryz.underlying44 zr5 J J J (by rfl)) ?_));intro b11 w11 hb11 hs11 hx11 hB11;refine Ca W4 J (W3 _ _ _ _ _ ‹_› (by omega) (by omega)) ?_;rintro _ w12 ⟨rfl,hx12⟩;have hB5:=hB5.u (hx11.s0 hx12);refine Pe J9 J ‹_› J J ?_;intro w13 hs13 hx13 hB5;have hR:=hR.q ((hx11.j hx12).j hx13) (by simp<;>omega);refine Qc (Qb (Z 2 J (Fa D9 J (Fa G7 J (Lb o3 J ‹_› (by rfl) ?_)))));refine Ad J J (by omega) (Z 1 J (Fa D9 J (Fa G7 J (Pe sz3 J ‹_› J J ?_))));intro w14 hs14 hx14 hR;have hB1:=hB1.q (((hx11.j hx12).j hx13).j hx14) (by simp<;>omega);have hB5:=hB5.q hx14 (by simp;omega);refine Qc (Qd (La J0 J ‹_› J J ?_));refine Pe J9 J ‹_› J J ?_;intro w15 hs15 hx15 hB1;have hC:=hC.step ((((hx11.j hx12).j hx13).j hx14).j hx15) (by simp<;>omega);have hR:=hR.q hx15 (by simp;omega);refine Qc (A6 (D5 J J (A5 J0 ‹_› J J) ?_));have hE:J8 (B6 s) p=(F1 [H7 (B6 s) (p.go 1)],(p.go 1).go 1):=by unfold J8;simp only [];rw [Ek0 (by omega),Ek1 h2]
   exact ⟨by rw [hE];rfl,hC,by rw [hE];exact hR⟩
  ·try simp at h2
   refine Qd (Zc 2 J (A4 J (fun h3=>?_) (fun h3=>?_)))
   ·try simp at h3
    refine Qb (Z 2 J (Fa D9 J (Fa G7 J (Lb o3 J ‹_› (by rfl) ?_))));refine Ad J J (by omega) (Z 1 J (Fa D9 J (Fa G7 J (Pe sz3 J ‹_› J J ?_))));intro w16 hs16 hx16 hR;have hB1:=hB1.q hx16 (by simp;omega);have hB5:=hB5.q hx16 (by simp;omega);refine Qc (Qd (La J0 J ‹_› J J ?_));refine Pe J9 J ‹_› J J ?_;intro w17 hs17 hx17 hB1;have hC:=hC.step (hx16.j hx17) (by simp<;>omega);have hR:=hR.q hx17 (by simp;omega);refine Qc (A6 (D5 J J (A5 J0 ‹_› J J) ?_));obtain ⟨t,ht⟩:=Ep6.1 h3;have hE:J8 (B6 s) p=(t,(p.go 1).go 1):=by unfold J8;simp only [];rw [Ek0 (by omega),Ek0 (by omega),ht]
    exact ⟨by rw [hE,ht];rfl,hC,by rw [hE];exact hR⟩
   ·try simp at h3
    have h0:Ak0 (H7 (B6 s) (p.go 1))=none:=by simpa using h3
    refine Qd (Zc 3 J (A4 J (fun h4=>?_) (fun h4=>?_)))
    ·try simp at h4
     have h4':H7 (B6 s) (p.go 1)=120:=by omega
     refine Qd (Z 2 J (Fa D9 J (Fa G7 J (Lb o3 J ‹_› (by rfl) ?_))));refine Ad J J (by omega) (Z 1 J (Fa D9 J (Fa G7 J (Pe sz3 J ‹_› J J ?_))));intro w18 hs18 hx18 hR;refine Qc (Qd (Z 1 J (Ca fb204 J (hex_c s ((p.go 1).go 1) sl b _ hs ‹_›) ?_)));rintro _ w19 ⟨rfl,hx19,hR'⟩;have hz19:=hx19.size;have hC:=hC.step (hx18.j hx19) (by simp<;>omega);have hB1:=hB1.q (hx18.j hx19) (by simp<;>omega);have hB5:=hB5.q (hx18.j hx19) (by simp<;>omega);clear hR;have hR:=hR';clear hR';refine Zc 1 J (Qd (Z 2 J (Fa D9 J (Ca Bm7 J (Bo8 s _ sl b _ ‹_›) ?_))));rintro _ _ ⟨rfl,rfl⟩
     refine Zc 1 J (A4 J (fun h5=>?_) (fun h5=>?_))
     ·try simp at h5
      refine Qb (Z 1 J (C9 J (Cg4 J J) (Z 1 J (Ca fb204 J (hex_c s _ sl b _ hs ‹_›) ?_))));rintro _ w21 ⟨rfl,hx21,hR'⟩;clear hR;have hR:=hR';clear hR';refine C9 J (Does.to (Ae8 J J) (J4 (show _=(((16*(Bf7 (B6 s) ((p.go 1).go 1)).1+(Bf7 (B6 s) (Bf7 (B6 s) ((p.go 1).go 1)).2).1) % 256:Nat):Int) by rw [wu8,wu8];omega))) ?_;refine B5 J (B7 Al4 Tryz.underlying44 zr5 J J J (by rfl)) ?_;intro b22 w22 hb22 hs22 hx22 hB22;refine Ca W4 J (W3 _ _ _ _ _ ‹_› (by omega) (by omega)) ?_;rintro _ w23 ⟨rfl,hx23⟩;have hB5:=hB5.q ((hx21.j hx22).j hx23) (by simp<;>omega);refine Pe J9 J ‹_› J J ?_;intro w24 hs24 hx24 hB5;have hB1:=hB1.q (((hx21.j hx22).j hx23).j hx24) (by simp<;>omega);refine Qc (Qd (La J0 J ‹_› J J ?_));refine Pe J9 J ‹_› J J ?_;intro w25 hs25 hx25 hB1;have hC:=hC.step ((((hx21.j hx22).j hx23).j hx24).j hx25) (by simp<;>omega);have hR:=hR.q (((hx22.j hx23).j hx24).j hx25) (by simp<;>omega);refine Qc (A6 (D5 J J (A5 J0 ‹_› J J) ?_));have hE:J8 (B6 s) p=(F1 [(16*(Bf7 (B6 s) ((p.go 1).go 1)).1+(Bf7 (B6 s) (Bf7 (B6 s) ((p.go 1).go 1)).2).1) % 256],(Bf7 (B6 s) (Bf7 (B6 s) ((p.go 1).go 1)).2).2):=by unfold J8;simp only [];rw [Ek0 (by omega),Ek0 (by omega),h0];simp only [];rw [Ek1 h4',Ek1 h5]
      exact ⟨by rw [hE];rfl,hC,by rw [hE];exact hR⟩
     ·try simp at h5
      refine A7 (Qd (La J0 J ‹_› J J ?_));refine Pe J9 J ‹_› J J ?_;intro w26 hs26 hx26 hB1;have hC:=hC.step hx26 (by simp<;>omega);have hR:=hR.q hx26 (by simp;omega);refine Qc (A6 (D5 J J (A5 J0 ‹_› J J) ?_));have hE:J8 (B6 s) p=(0,(Bf7 (B6 s) ((p.go 1).go 1)).2):=by unfold J8;simp only [];rw [Ek0 (by omega),Ek0 (by omega),h0];simp only [];rw [Ek1 h4',Ek0 h5]
      exact ⟨by rw [hE,h0];rfl,hC,by rw [hE];exact hR⟩
    ·try simp at h4
     have h4':¬ H7 (B6 s) (p.go 1)=120:=by omega
     refine Qd (Z 1 J (Ca Do7 J (Dn8 _ otherT _ (by rfl) hlt _) ?_));rintro _ _ ⟨rfl,rfl⟩
     refine Zc 2 J (A4 J (fun h6=>?_) (fun h6=>?_))
     ·try simp at h6
      refine Qb (Z 2 J (Fa D9 J (Z 1 J (Ca Al3 J (X6 s (p.go 1) sl b p.i 6 _ ‹_›) ?_))));rintro _ w28 ⟨rfl,hx28,hR'⟩;have hB1:=hB1.q hx28 (by simp;omega);have hB5:=hB5.q hx28 (by simp;omega);clear hR;have hR:=hR';clear hR';refine Qc (Qd (La J0 J ‹_› J J ?_));refine Pe J9 J ‹_› J J ?_;intro w29 hs29 hx29 hB1;have hC:=hC.step (hx28.j hx29) (by simp<;>omega);have hR:=hR.q hx29 (by simp;omega);refine Qc (A6 (D5 J J (A5 J0 ‹_› J J) ?_));have hE:J8 (B6 s) p=(0,(p.go 1).fail p.i 6):=by unfold J8;simp only [];rw [Ek0 (by omega),Ek0 (by omega),h0];simp only [];rw [Ek0 h4',Ek1 h6]
      exact ⟨by rw [hE,h0];rfl,hC,by rw [hE];exact hR⟩
     ·try simp at h6
      refine C8 (S:=[]) 8 [(0,0),(0,1),(0,2),(0,3),(0,4),(0,5),(0,6),(0,7),(2,8)] mo (by kernel_rfl) ?_;intro w30 hx30 hh30;have hR:=hR.u hx30;refine Z 2 J (Fa D9 J (Z 2 J (Fa D9 J (Fa G7 J (D6 J (B3 o3 J ‹_› (by simp<;>omega) (by rfl)) ?_)))));refine Ca Al3 J (X6 s (p.go 1) sl b (p.go 1).i 4 _ ‹_›) ?_;rintro _ w31 ⟨rfl,hx31,hR'⟩;have hB1:=hB1.q (hx30.j hx31) (by simp<;>omega);have hB5:=hB5.q (hx30.j hx31) (by simp<;>omega);clear hR;have hR:=hR';clear hR';refine Qc (Qd (La J0 J ‹_› J J ?_));refine Pe J9 J ‹_› J J ?_;intro w32 hs32 hx32 hB1;have hC:=hC.step ((hx30.j hx31).j hx32) (by simp<;>omega);have hR:=hR.q hx32 (by simp;omega);refine Qc (A6 (D5 J J (A5 J0 ‹_› J J) ?_));have hE:J8 (B6 s) p=(0,(p.go 1).fail (p.go 1).i 4):=by unfold J8;simp only [];rw [Ek0 (by omega),Ek0 (by omega),h0];simp only [];rw [Ek0 h4',Ek0 (by omega)]
      exact ⟨by rw [hE,h0];rfl,hC,by rw [hE];exact hR⟩
theorem Bd8 {c:Nat} (h:c<256):L4 (F1 [c]):=Aq1 [c] (by intro b hb;simp at hb;omega)
theorem Dy6 {c t:Nat} (h:Ak0 c=some t):L4 t:=by
 unfold Ak0 at h
 repeat' split at h
 all_goals first
  |cases h;done
  |(injection h with h;subst h;first|exact Bd8 (by decide)|exact Co4|exact Ds2|exact Da9|exact Bi2 _)
theorem Bv8 (s:ByteArray) (p:Ps):L4 (J8 (B6 s) p).1:=by
 unfold J8;simp only []
 split
 ·exact P8
 ·split
  ·exact Bd8 (Ad9 s _)
  ·split
   ·rename_i t ht;exact Dy6 ht
   ·split
    ·split
     ·exact Bd8 (Ep5 _ (by decide))
     ·exact P8
    ·split<;>exact P8
theorem Aq5 (s:ByteArray) (p:Ps):L4 (F9 (B6 s) p).1:=by
 unfold F9
 split
 ·exact P8
 ·split
  ·exact Bv8 s p
  ·exact Bd8 (Ad9 s _)
theorem Ap0 (s:Nat):L8 s<256:=by
 unfold L8
 cases h:(List.range 256).find? fun b=>s.testBit b with
 |none=>simp
 |some n=>have:=List.mem_of_find?_eq_some h;simpa using this
theorem Dw4 {a b:Nat} (hb:b<256):L4 (Ax3 a b):=Aq1 _ (by intro x hx;have:=List.mem_range'.1 hx;obtain ⟨i,hi,rfl⟩:=this;omega)
theorem By6 (s:ByteArray) (p:Ps):L4 (M7 (B6 s) p).1:=by
 unfold M7;simp only []
 split
 ·exact Aq5 s p
 ·split
  ·exact Aq5 s p
  ·split
   ·exact Aq5 s p
   ·exact Dw4 (Ap0 _)
theorem item_c (s:ByteArray) (p:Ps) (sl:Value) (b:Nat) (w:World) (hs:s.size≤1048576) (hp:p.i≤s.size) (hR:Blk w b (rdC s p sl) 239):Calls P 223 #[.pointer (some ⟨b,0,none⟩)] w (Ret fun v w'=>v= .agg (C4 (F9 (B6 s) p).1).toArray∧Chg [b] w w'∧Blk w' b (rdC s (F9 (B6 s) p).2 sl) 239):=by
 have hC:=A8 [b] w;have hlt:=Ad9 s p;have hle:(B6 s).length=s.size:=E5 s
 try have hlR:=hR.lt
 refine D4 Tryz.func223 J J (Qd (B5 J (B8 N0 J) ?_));intro b1 w1 hb1 hs1 hx1 hB1;have hR:=hR.u hx1;refine Qc (Qd (Z 2 J (Fa D9 J (Ca Cx7 J (Bj6 s p sl b _ ‹_›) ?_))));rintro _ w2 ⟨rfl,hx2⟩;have hz2:=hx2.size;have hC:=hC.s0 (hx1.s0 hx2);have hR:=hR.u hx2;have hB1:=hB1.u hx2
 refine Zc 5 J (Qa (B2 (Qd (Z 3 J (C0 (d:=15) J (fun g1=>?_) (fun g1=>?_))))))
 ·try simp at g1
  refine Qk J (Qk J (Qk J (Zc 2 J (E3 J (Qa (C8 (S:=[]) 8 [(0,0),(0,1),(0,2),(0,3),(0,4),(0,5),(0,6),(0,7),(2,8)] mo (by kernel_rfl) ?_))))));intro w3 hx3 hh3;have hR:=hR.u hx3;refine Z 2 J (Fa D9 J (Z 2 J (Fa D9 J (Fa G7 J (D6 J (B3 o3 J ‹_› (by simp<;>omega) (by rfl)) ?_)))));refine Ca Al3 J (X6 s p sl b p.i 4 _ ‹_›) ?_;rintro _ w4 ⟨rfl,hx4,hR'⟩;have hB1:=hB1.q (hx3.j hx4) (by simp<;>omega);clear hR;have hR:=hR';clear hR';refine Qc (Qd (C9 J (D7 N0 Av2 J (by rfl)) ?_));refine Pe J9 J ‹_› J J ?_;intro w5 hs5 hx5 hB1;have hC:=hC.step ((hx3.j hx4).j hx5) (by simp<;>omega);have hR:=hR.q hx5 (by simp;omega);refine Qc (A6 (D5 J J (A5 J0 ‹_› J J) ?_));have hE:F9 (B6 s) p=(0,p.fail p.i 4):=by unfold F9;rw [Ek1 (Or.inl (by omega))]
  exact ⟨by rw [hE];show _=Value.agg (C4 0).toArray;rw [C6];rfl,hC,by rw [hE];exact hR⟩
 ·try simp at g1
  refine Qu J (Z 1 J (Qu J (Ca Do7 J (Dn8 _ Cm7 _ (by rfl) hlt _) ?_)));rintro _ _ ⟨rfl,rfl⟩
  refine Qu J (Zc 3 J (A4 J (fun h2=>?_) (fun h2=>?_)))
  ·try simp at h2
   refine Qa (C8 (S:=[]) 8 [(0,0),(0,1),(0,2),(0,3),(0,4),(0,5),(0,6),(0,7),(2,8)] mo (by kernel_rfl) ?_);intro w7 hx7 hh7;have hR:=hR.u hx7;refine Z 2 J (Fa D9 J (Z 2 J (Fa D9 J (Fa G7 J (D6 J (B3 o3 J ‹_› (by simp<;>omega) (by rfl)) ?_)))));refine Ca Al3 J (X6 s p sl b p.i 4 _ ‹_›) ?_;rintro _ w8 ⟨rfl,hx8,hR'⟩;have hB1:=hB1.q (hx7.j hx8) (by simp<;>omega);clear hR;have hR:=hR';clear hR';refine Qc (Qd (C9 J (D7 N0 Av2 J (by rfl)) ?_));refine Pe J9 J ‹_› J J ?_;intro w9 hs9 hx9 hB1;have hC:=hC.step ((hx7.j hx8).j hx9) (by simp<;>omega);have hR:=hR.q hx9 (by simp;omega);refine Qc (A6 (D5 J J (A5 J0 ‹_› J J) ?_));have hE:F9 (B6 s) p=(0,p.fail p.i 4):=by unfold F9;rw [Ek1 (Or.inr (by omega))]
   exact ⟨by rw [hE];show _=Value.agg (C4 0).toArray;rw [C6];rfl,hC,by rw [hE];exact hR⟩
  ·try simp at h2
   have hn:¬ (¬ p.i<(B6 s).length∨0≤Be5 Cm7 (H7 (B6 s) p)):=by omega
   refine Qd (Zc 3 J (A4 J (fun h3=>?_) (fun h3=>?_)))
   ·try simp at h3
    refine Qd (Z 1 J (Ca fb175 J (Dg2 s p sl b _ hs (by omega) ‹_›) ?_));rintro _ w10 ⟨rfl,hx10,hR'⟩;have hB1:=hB1.q hx10 (by simp;omega);clear hR;have hR:=hR';clear hR';refine Pe J9 J ‹_› J J ?_;intro w11 hs11 hx11 hB1;have hC:=hC.step (hx10.j hx11) (by simp<;>omega);have hR:=hR.q hx11 (by simp;omega);refine Qc (A6 (D5 J J (A5 J0 ‹_› J J) ?_));have hE:F9 (B6 s) p=J8 (B6 s) p:=by unfold F9;rw [Ek0 hn,Ek1 (by omega)]
    exact ⟨by rw [hE];rfl,hC,by rw [hE];exact hR⟩
   ·try simp at h3
    refine A7 (Qd (Z 2 J (Fa D9 J (Fa G7 J (Lb o3 J ‹_› (by rfl) ?_)))));refine Ad J J (by omega) (Z 1 J (Fa D9 J (Fa G7 J (Pe sz3 J ‹_› J J ?_))));intro w12 hs12 hx12 hR;refine Qc (Qd (Z 1 J (B5 J (B7 Al4 Tryz.underlying44 zr5 J J J (by rfl)) ?_)));intro b13 w13 hb13 hs13 hx13 hB13;refine Ca W4 J (W3 _ _ _ _ _ ‹_› (by omega) (by omega)) ?_;rintro _ w14 ⟨rfl,hx14⟩;have hB1:=hB1.q ((hx12.j hx13).j hx14) (by simp<;>omega);refine Pe J9 J ‹_› J J ?_;intro w15 hs15 hx15 hB1;have hC:=hC.step (((hx12.j hx13).j hx14).j hx15) (by simp<;>omega);have hR:=hR.q ((hx13.j hx14).j hx15) (by simp<;>omega);refine Qc (A6 (D5 J J (A5 J0 ‹_› J J) ?_));have hE:F9 (B6 s) p=(F1 [H7 (B6 s) p],p.go 1):=by unfold F9;rw [Ek0 hn,Ek0 (by omega)]
    exact ⟨by rw [hE];rfl,hC,by rw [hE];exact hR⟩
theorem span_c (s:ByteArray) (p:Ps) (sl:Value) (b:Nat) (w:World) (hs:s.size≤1048576) (hp:p.i≤s.size) (hb4:4≤b) (hL:Laid w) (hR:Blk w b (rdC s p sl) 239):Calls P 206 #[.pointer (some ⟨b,0,none⟩)] w (Ret fun v w'=>v= .agg (C4 (M7 (B6 s) p).1).toArray∧Chg [b] w w'∧Blk w' b (rdC s (M7 (B6 s) p).2 sl) 239):=by
 have hC:=A8 [b] w;have hle:(B6 s).length=s.size:=E5 s
 try have hlR:=hR.lt
 refine D4 Tryz.func206 J J (Qd (B5 J (B8 N0 J) ?_));intro b1 w1 hb1 hs1 hx1 hB1;have hR:=hR.u hx1;refine Qc (Qd (Z 2 J (Fa D9 J (Fa G7 J (Lb o3 J ‹_› (by rfl) ?_)))));refine Zc 1 J (Qd (Z 1 J (Ca fb223 J (item_c s p sl b _ hs hp ‹_›) ?_)));rintro _ w2 ⟨rfl,hx2,hR'⟩;have hz2:=hx2.size;clear hR;have hR:=hR';clear hR';refine B5 J (B8 N0 J) ?_;intro b3 w3 hb3 hs3 hx3 hB3;refine Pe J9 J ‹_› J J ?_;intro w4 hs4 hx4 hB4;have hz4:=hx4.size;have hC:=hC.step (((hx1.j hx2).j hx3).j hx4) (by simp<;>omega);have hR:=hR.q (hx3.j hx4) (by simp<;>omega);have hL:=hL.q (((hx1.j hx2).j hx3).j hx4) (by simp<;>omega);have hB1:=hB1.q ((hx2.j hx3).j hx4) (by simp<;>omega)
 replace hB3:=hB4
 refine Qc (Qd (Z 2 J (Fa D9 J (Fa G7 J (Lb o3 J ‹_› (by rfl) ?_)))));refine Zc 1 J (Qa (Qd (Z 2 J (Fa D9 J (Ca Bm7 J (Bo8 s _ sl b _ ‹_›) ?_)))));rintro _ _ ⟨rfl,rfl⟩
 refine Z 1 J (C0 (d:=28) J (fun g1=>?_) (fun g1=>?_))
 ·try simp at g1
  refine Qk J (Qk J (Qk J (Qk J (Qk J (Zc 1 J (E3 J (Qd (La J0 J ‹_› J J ?_))))))));refine Pe J9 J ‹_› J J ?_;intro w6 hs6 hx6 hB1;have hC:=hC.step hx6 (by simp<;>omega);have hR:=hR.q hx6 (by simp;omega);refine Qc (A6 (D5 J J (A5 J0 ‹_› J J) ?_));have hE:M7 (B6 s) p=F9 (B6 s) p:=by unfold M7;simp only [];rw [Ek1 g1]
  exact ⟨by rw [hE];rfl,hC,by rw [hE];exact hR⟩
 ·try simp at g1
  refine Qu J (Z 1 J (Qu J (Z 1 J (Qu J (Fa D9 J (Qu J (Ca Do6 J (is_c s _ sl b 45 _ hs ‹_›) ?_)))))));rintro _ w7 ⟨rfl,hx7,hR'⟩;have hz7:=hx7.size;have hC:=hC.step hx7 (by simp<;>omega);have hL:=hL.q hx7 (by simp;omega);have hB1:=hB1.q hx7 (by simp;omega);have hB3:=hB3.q hx7 (by simp;omega);clear hR;have hR:=hR';clear hR'
  refine Qu J (Zc 2 J (A4 J (fun g2=>?_) (fun g2=>?_)))
  ·try simp at g2
   refine Qd (La J0 J ‹_› J J ?_);refine Pe J9 J ‹_› J J ?_;intro w8 hs8 hx8 hB1;have hC:=hC.step hx8 (by simp<;>omega);have hR:=hR.q hx8 (by simp;omega);refine Qc (A6 (D5 J J (A5 J0 ‹_› J J) ?_));have hE:M7 (B6 s) p=F9 (B6 s) p:=by unfold M7;simp only [];rw [Ek0 (by simpa using g1),Ek1 g2]
   exact ⟨by rw [hE];rfl,hC,by rw [hE];unfold isS at hR;rw [g2] at hR;exact hR⟩
  ·try simp at g2
   have hS:isS (B6 s) (F9 (B6 s) p).2 45=(F9 (B6 s) p).2.go 1:=by unfold isS;rw [g2];rfl
   rw [hS] at hR;have hgo:Fine (B6 s).length 1 (F9 (B6 s) p).2 ((F9 (B6 s) p).2.go 1):=Fine.go (As4 g2);have hq2:=hgo.le;refine A7 (Qa (Qd (La J0 J ‹_› J J ?_)));refine Ca fb83 J (Ef9 _ _) ?_;rintro _ w9 ⟨rfl,hx9⟩;have hz9:=hx9.size;have hC:=hC.s0 hx9;have hR:=hR.u hx9;have hL:=hL.u hx9;have hB1:=hB1.u hx9;have hB3:=hB3.u hx9
   refine Zc 1 J (A4 J (fun g3=>?_) (fun g3=>?_))
   ·try simp at g3
    refine Qd (Z 2 J (Fa D9 J (Z 1 J (Ca Al3 J (X6 s _ sl b (F9 (B6 s) p).2.i 4 _ ‹_›) ?_))));rintro _ w10 ⟨rfl,hx10,hR'⟩;have hB1:=hB1.q hx10 (by simp;omega);have hB3:=hB3.q hx10 (by simp;omega);clear hR;have hR:=hR';clear hR';refine Qc (Qd (La J0 J ‹_› J J ?_));refine Pe J9 J ‹_› J J ?_;intro w11 hs11 hx11 hB1;have hC:=hC.step (hx10.j hx11) (by simp<;>omega);have hR:=hR.q hx11 (by simp;omega);refine Qc (A6 (D5 J J (A5 J0 ‹_› J J) ?_));have hE:M7 (B6 s) p=((F9 (B6 s) p).1,((F9 (B6 s) p).2.go 1).fail (F9 (B6 s) p).2.i 4):=by unfold M7;simp only [];rw [Ek0 (by simpa using g1),Ek0 (by rw [g2];simp),Ek1 (by omega)]
    exact ⟨by rw [hE];rfl,hC,by rw [hE];exact hR⟩
   ·try simp at g3
    refine A7 (Qd (Z 2 J (Fa D9 J (Fa G7 J (Lb o3 J ‹_› (by rfl) ?_)))));refine Zc 1 J (Qd (Z 1 J (Ca fb223 J (item_c s ((F9 (B6 s) p).2.go 1) sl b _ hs (by omega) ‹_›) ?_)));rintro _ w12 ⟨rfl,hx12,hR'⟩;have hz12:=hx12.size;clear hR;have hR:=hR';clear hR';refine B5 J (B8 N0 J) ?_;intro b13 w13 hb13 hs13 hx13 hB13;refine Pe J9 J ‹_› J J ?_;intro w14 hs14 hx14 hB13;have hz14:=hx14.size;have hC:=hC.step ((hx12.j hx13).j hx14) (by simp<;>omega);have hR:=hR.q (hx13.j hx14) (by simp<;>omega);have hL:=hL.q ((hx12.j hx13).j hx14) (by simp<;>omega);have hB1:=hB1.q ((hx12.j hx13).j hx14) (by simp<;>omega);have hB3:=hB3.q ((hx12.j hx13).j hx14) (by simp<;>omega)
    refine Qc (I3 (fun e9 wr=>∃ b2 b4 b7,Sub [(0,.pointer (some ⟨b,0,none⟩)),(2,.pointer (some ⟨b2,0,none⟩)),(3,.int .i64 (p.i:Int)),(4,.pointer (some ⟨b4,0,none⟩)),(7,.pointer (some ⟨b7,0,none⟩))] e9∧Chg [b] w wr∧Laid wr∧Blk wr b (rdC s (if (F9 (B6 s) ((F9 (B6 s) p).2.go 1)).2.e=0∧Ag9 (F9 (B6 s) ((F9 (B6 s) p).2.go 1)).1≠1 then (F9 (B6 s) ((F9 (B6 s) p).2.go 1)).2.fail ((F9 (B6 s) p).2.go 1).i 4 else (F9 (B6 s) ((F9 (B6 s) p).2.go 1)).2) sl) 239∧(∃ z,Blk wr b2 z 70∧z.length=4)∧Blk wr b4 (C4 (F9 (B6 s) p).1) 70∧Blk wr b7 (C4 (F9 (B6 s) ((F9 (B6 s) p).2.go 1)).1) 70∧w.heap.size≤b2∧b2<b4∧b4<b7∧b<b2) ?_ ?_)
    ·refine Qd (Z 2 J (Fa D9 J (Ca Bm7 J (Bo8 s _ sl b _ ‹_›) ?_)));rintro _ _ ⟨rfl,rfl⟩
     refine Z 2 J (C0 (d:=57) J (fun g4=>?_) (fun g4=>?_))
     ·try simp at g4
      refine Qu J (La J0 J ‹_› J J ?_);refine Qu J (Ca fb83 J (Ef9 _ _) ?_);rintro _ w16 ⟨rfl,hx16⟩;have hC:=hC.s0 hx16;have hR:=hR.u hx16;have hL:=hL.u hx16;have hB1:=hB1.u hx16;have hB3:=hB3.u hx16;have hB13:=hB13.u hx16
      refine Qu J (Zc 2 J (A4 J (fun g5=>?_) (fun g5=>?_)))
      ·try simp at g5
       refine Qb (Z 2 J (Fa D9 J (Z 1 J (Ca Al3 J (X6 s _ sl b ((F9 (B6 s) p).2.go 1).i 4 _ ‹_›) ?_))));rintro _ w17 ⟨rfl,hx17,hR'⟩;have hC:=hC.step hx17 (by simp<;>omega);have hL:=hL.q hx17 (by simp;omega);have hB1:=hB1.q hx17 (by simp;omega);have hB3:=hB3.q hx17 (by simp;omega);have hB13:=hB13.q hx17 (by simp;omega);clear hR;have hR:=hR';clear hR';refine Qc ⟨b1,b3,b13,sb J,?_⟩;refine ⟨hC,hL,by rw [Ek1 ⟨g4,by omega⟩];exact hR,⟨_,hB1,rfl⟩,hB3,hB13,by omega,by omega,by omega,by omega⟩
      ·try simp at g5
       refine A7 ⟨b1,b3,b13,sb J,?_⟩;refine ⟨hC,hL,by rw [Ek0 (by omega)];exact hR,⟨_,hB1,rfl⟩,hB3,hB13,by omega,by omega,by omega,by omega⟩
     ·try simp at g4
      refine Qk J (Qk J (Qk J (Zc 1 J (E4 J (A7 ⟨b1,b3,b13,sb J,?_⟩)))));refine ⟨hC,hL,by rw [Ek0 (by intro h;exact absurd h.1 (by simpa using g4))];exact hR,⟨_,hB1,rfl⟩,hB3,hB13,by omega,by omega,by omega,by omega⟩
    rintro e9 w9 ⟨b2,b4,b7,hs9,hC,hL,hR,⟨z,hB2,hz⟩,hB4,hB7,hlt1,hlt2,hlt3,hlt4⟩;refine I2 _ hs9 ?_;clear hs9 e9
    match z,hz with
    |[z1,z2,z3,z4],_=>
    refine Qd (La J0 J ‹_› J J ?_);refine Ca fb74 J (Cx5 _ (Aq5 s p) _ ‹_›) ?_;rintro _ w18 ⟨rfl,hx18⟩;have hL:=hL.u hx18;have hB7:=hB7.u hx18;refine Zc 5 J (Qd (La J0 J ‹_› J J ?_));refine Ca fb74 J (Cx5 _ (Aq5 s _) _ ‹_›) ?_;rintro _ w19 ⟨rfl,hx19⟩;have hz19:=hx19.size;have hC:=hC.s0 (hx18.s0 hx19);have hL:=hL.u hx19;have hR:=hR.u (hx18.s0 hx19);have hB2:=hB2.u (hx18.s0 hx19);have hB4:=hB4.u (hx18.s0 hx19);have hB7:=hB7.u hx19;refine Zc 5 J (Qa (Qd (Z 2 J (Fa D9 J (Ca Bm7 J (Bo8 s _ sl b _ ‹_›) ?_)))));rintro _ _ ⟨rfl,rfl⟩;have ha:=Ap0 (F9 (B6 s) p).1;have hb:=Ap0 (F9 (B6 s) ((F9 (B6 s) p).2.go 1)).1;have hE:M7 (B6 s) p=(Ax3 (L8 (F9 (B6 s) p).1) (L8 (F9 (B6 s) ((F9 (B6 s) p).2.go 1)).1),if (if (F9 (B6 s) ((F9 (B6 s) p).2.go 1)).2.e=0∧Ag9 (F9 (B6 s) ((F9 (B6 s) p).2.go 1)).1≠1 then (F9 (B6 s) ((F9 (B6 s) p).2.go 1)).2.fail ((F9 (B6 s) p).2.go 1).i 4 else (F9 (B6 s) ((F9 (B6 s) p).2.go 1)).2).e=0∧L8 (F9 (B6 s) ((F9 (B6 s) p).2.go 1)).1<L8 (F9 (B6 s) p).1 then (if (F9 (B6 s) ((F9 (B6 s) p).2.go 1)).2.e=0∧Ag9 (F9 (B6 s) ((F9 (B6 s) p).2.go 1)).1≠1 then (F9 (B6 s) ((F9 (B6 s) p).2.go 1)).2.fail ((F9 (B6 s) p).2.go 1).i 4 else (F9 (B6 s) ((F9 (B6 s) p).2.go 1)).2).fail p.i 5 else (if (F9 (B6 s) ((F9 (B6 s) p).2.go 1)).2.e=0∧Ag9 (F9 (B6 s) ((F9 (B6 s) p).2.go 1)).1≠1 then (F9 (B6 s) ((F9 (B6 s) p).2.go 1)).2.fail ((F9 (B6 s) p).2.go 1).i 4 else (F9 (B6 s) ((F9 (B6 s) p).2.go 1)).2)):=by unfold M7;simp only [];rw [Ek0 (by simpa using g1),Ek0 (by rw [g2];simp),Ek0 (by omega)]
    refine Z 2 J (C0 (d:=82) J (fun g6=>?_) (fun g6=>?_))
    ·try simp at g6
     refine Qu J (Z 1 J (Qu J (Z 1 J (Qu J (Zc 2 J (A4 J (fun g7=>?_) (fun g7=>?_)))))))
     ·try simp at g7
      refine Qb (Z 2 J (Fa D9 J (Z 1 J (Ca Al3 J (X6 s _ sl b p.i 5 _ ‹_›) ?_))));rintro _ w21 ⟨rfl,hx21,hR'⟩;clear hR;have hR:=hR';clear hR';refine Qc (Qd (Z 2 J (Ca Af4 J (P2 _ _ ha hb _) ?_)));rintro _ w22 ⟨rfl,hx22⟩;have hB2:=hB2.q (hx21.j hx22) (by simp<;>omega);refine Pe J9 J ‹_› J J ?_;intro w23 hs23 hx23 hB2;have hC:=hC.step ((hx21.j hx22).j hx23) (by simp<;>omega);have hR:=hR.q (hx22.j hx23) (by simp<;>omega);refine Qc (A6 (D5 J J (A5 J0 ‹_› J J) ?_));exact ⟨by rw [hE];rfl,hC,by rw [hE];dsimp only;rw [Ek1 ⟨g6,by omega⟩];exact hR⟩
     ·try simp at g7
      refine A7 (Qd (Z 2 J (Ca Af4 J (P2 _ _ ha hb _) ?_)));rintro _ w24 ⟨rfl,hx24⟩;have hB2:=hB2.u hx24;refine Pe J9 J ‹_› J J ?_;intro w25 hs25 hx25 hB2;have hC:=hC.step (hx24.j hx25) (by simp<;>omega);have hR:=hR.q (hx24.j hx25) (by simp<;>omega);refine Qc (A6 (D5 J J (A5 J0 ‹_› J J) ?_));exact ⟨by rw [hE];rfl,hC,by rw [hE];dsimp only;rw [Ek0 (by omega)];exact hR⟩
    ·try simp at g6
     refine Qk J (Qk J (Qk J (Zc 1 J (E4 J (A7 (Qd (Z 2 J (Ca Af4 J (P2 _ _ ha hb _) ?_))))))));rintro _ w26 ⟨rfl,hx26⟩;have hB2:=hB2.u hx26;refine Pe J9 J ‹_› J J ?_;intro w27 hs27 hx27 hB2;have hC:=hC.step (hx26.j hx27) (by simp<;>omega);have hR:=hR.q (hx26.j hx27) (by simp<;>omega);refine Qc (A6 (D5 J J (A5 J0 ‹_› J J) ?_));exact ⟨by rw [hE];rfl,hC,by rw [hE];dsimp only;rw [Ek0 (by intro h;exact absurd h.1 (by simpa using g6))];exact hR⟩
theorem Dq2 {L:List Nat} {q:Ps} (h:q.e≠0) (f s:Nat):R3 L f s q=(s,q):=by
 cases f with
 |zero=>rfl
 |succ f=>unfold R3;rw [Ek1 h]
theorem Bo1 (s:ByteArray):∀ (f t:Nat) (q:Ps),L4 t→L4 (R3 (B6 s) f t q).1
 |0,t,q,h=>h
 |f+1,t,q,h=>by
  unfold R3
  split
  ·exact h
  ·split
   ·exact h
   ·exact Bo1 s f _ _ (Ds9 _ (by intro x hx;simp at hx;rcases hx with rfl|rfl;exact h;exact By6 s q) 0 P8)
theorem Eg6 (s:ByteArray) (p:Ps):L4 (Ae4 (B6 s) p).1:=by
 unfold Ae4;dsimp only
 split
 ·exact Bi2 _
 ·exact Bo1 s _ _ _ (By6 s _)
theorem class_c (s:ByteArray) (p:Ps) (sl:Value) (b:Nat) (w:World) (hs:s.size≤1048576) (hp:p.i<s.size) (hb4:4≤b) (hL:Laid w) (hR:Blk w b (rdC s p sl) 239):Calls P 176 #[.pointer (some ⟨b,0,none⟩)] w (Ret fun v w'=>v= .agg (C4 (Ae4 (B6 s) p).1).toArray∧Chg [b] w w'∧Blk w' b (rdC s (Ae4 (B6 s) p).2 sl) 239):=by
 have hC:=A8 [b] w;have hle:(B6 s).length=s.size:=E5 s;have hg:Fine (B6 s).length 1 p (p.go 1):=Fine.go (by omega);have hq:=hg.le;have hf0:=Bg8 (L:=B6 s) (b:=94) hq;have hq0:=hf0.le;have hf1:=X8 (L:=B6 s) hq0;have hq1:=hf1.le
 try have hlR:=hR.lt
 refine D4 Tryz.func176 J J (Qd (B5 J (B8 N0 J) ?_));intro b1 w1 hb1 hs1 hx1 hB1;have hR:=hR.u hx1;refine Qc (Qd (Z 2 J (Fa D9 J (Fa G7 J (Lb o3 J ‹_› (by rfl) ?_)))));refine Ad J J (by omega) (Z 1 J (Fa D9 J (Fa G7 J (Pe sz3 J ‹_› J J ?_))));intro w2 hs2 hx2 hR;refine Qc (Qd (Z 2 J (Fa D9 J (Ca Do6 J (is_c s (p.go 1) sl b 94 _ hs ‹_›) ?_))));rintro _ w3 ⟨rfl,hx3,hR'⟩;have hz3:=hx3.size;have hL:=hL.q ((hx1.j hx2).j hx3) (by simp<;>omega);clear hR;have hR:=hR';clear hR';refine Zc 1 J (Qd (Z 1 J (Ca fb206 J (span_c s (isS (B6 s) (p.go 1) 94) sl b _ hs (by omega) hb4 hL ‹_›) ?_)));rintro _ w4 ⟨rfl,hx4,hR'⟩;have hz4:=hx4.size;clear hR;have hR:=hR';clear hR';refine B5 J (B8 N0 J) ?_;intro b5 w5 hb5 hs5 hx5 hB5;refine Pe J9 J ‹_› J J ?_;intro w6 hs6 hx6 hB5;have hC:=hC.step (((((hx1.j hx2).j hx3).j hx4).j hx5).j hx6) (by simp<;>omega);have hR:=hR.q (hx5.j hx6) (by simp<;>omega);have hL:=hL.q ((hx4.j hx5).j hx6) (by simp<;>omega);have hB1:=hB1.q ((((hx2.j hx3).j hx4).j hx5).j hx6) (by simp<;>omega)
 refine Qc (I3 (fun e9 wr=>∃ b2 b4,Sub [(0,.pointer (some ⟨b,0,none⟩)),(2,.pointer (some ⟨b2,0,none⟩)),(3,.bool (isB (B6 s) (p.go 1) 94)),(4,.pointer (some ⟨b4,0,none⟩))] e9∧Chg [b] w wr∧Blk wr b (rdC s (R3 (B6 s) ((B6 s).length+2) (M7 (B6 s) (isS (B6 s) (p.go 1) 94)).1 (M7 (B6 s) (isS (B6 s) (p.go 1) 94)).2).2 sl) 239∧Blk wr b2 (C4 0) 70∧Blk wr b4 (C4 (R3 (B6 s) ((B6 s).length+2) (M7 (B6 s) (isS (B6 s) (p.go 1) 94)).1 (M7 (B6 s) (isS (B6 s) (p.go 1) 94)).2).1) 70∧w.heap.size≤b2∧b2<b4∧b<b2) ?_ ?_)
 ·generalize hr:R3 (B6 s) ((B6 s).length+2) (M7 (B6 s) (isS (B6 s) (p.go 1) 94)).1 (M7 (B6 s) (isS (B6 s) (p.go 1) 94)).2=r
  refine B2 (D8 (σ:=Nat × Nat × Ps) (fun (f,t,q)=>[(0,.pointer (some ⟨b,0,none⟩)),(2,.pointer (some ⟨b1,0,none⟩)),(3,.bool (isB (B6 s) (p.go 1) 94)),(4,.pointer (some ⟨b5,0,none⟩))]) (fun (f,t,q) wr=>Chg [b] w wr∧Laid wr∧Blk wr b (rdC s q sl) 239∧Blk wr b1 (C4 0) 70∧Blk wr b5 (C4 t) 70∧R3 (B6 s) f t q=r∧q.i≤(B6 s).length∧(q.e=0→(B6 s).length<q.i+f)) (fun (f,t,q) wr=>f) ((B6 s).length+2,(M7 (B6 s) (isS (B6 s) (p.go 1) 94)).1,(M7 (B6 s) (isS (B6 s) (p.go 1) 94)).2) (sb J) ?_ ?_)
  ·rw [← C6] at hB1;exact ⟨hC,hL,hR,hB1,hB5,hr,hq1,fun _=>by omega⟩
  rintro ⟨f,t,q⟩ w9 ⟨hC,hL,hR,hB1,hB5,hr,hqi,hfu⟩
  try have hzw:=hC.size
  try have hlB1:=hB1.lt
  try have hlB5:=hB5.lt
  refine Qa (Qd (Z 2 J (Fa D9 J (Ca Bm7 J (Bo8 s _ sl b _ ‹_›) ?_))));rintro _ _ ⟨rfl,rfl⟩
  refine Z 2 J (C0 (d:=25) J (fun g1=>?_) (fun g1=>?_))
  ·try simp at g1
   have hfu':=hfu g1;obtain ⟨f,rfl⟩:∃ g,f=g+1:=⟨f - 1,by omega⟩;have hcl:R3 (B6 s) (f+1) t q=if q.e≠0 then (t,q) else if isB (B6 s) q 93 then (t,q.go 1) else R3 (B6 s) f (V8 [t,(M7 (B6 s) q).1]) (M7 (B6 s) q).2:=rfl
   refine Qu J (Z 1 J (Qu J (Z 1 J (Qu J (Fa D9 J (Qu J (Ca Do6 J (is_c s _ sl b 93 _ hs ‹_›) ?_)))))));rintro _ w8 ⟨rfl,hx8,hR'⟩;have hC:=hC.step hx8 (by simp<;>omega);have hL:=hL.q hx8 (by simp;omega);have hB1:=hB1.q hx8 (by simp;omega);have hB5:=hB5.q hx8 (by simp;omega);clear hR;have hR:=hR';clear hR'
   refine Qu J (Zc 2 J (A4 J (fun g2=>?_) (fun g2=>?_)))
   ·try simp at g2
    have hS:isS (B6 s) q 93=q:=by unfold isS;rw [g2];rfl
    rw [hS] at hR;refine A7 (B2 (C8 (S:=[b]) 3 [(0,0),(0,1),(1,2),(2,3),(2,4),(2,5)] mo (by kernel_rfl) ?_));intro w9 hx9 hh9;have hR:=hR.u hx9;have hL:=hL.u hx9;have hB5:=hB5.u hx9;have hCS9:=A8 ([b]) w9;refine D6 J (C1 J0 J ‹_› (by simp<;>omega) J J) ?_;refine Z 1 J (C5 J (C3 fb206 J) (span_c s q sl b _ hs (by omega) hb4 ‹_› ‹_›) ?_);rintro _ w10 ⟨rfl,hx10,hR'⟩;have hCS9:=hCS9.step hx10 (by simp<;>omega);clear hR;have hR:=hR';clear hR';refine ⟨hCS9,?_⟩;refine B5 J (B7 Ar5 Tryz.underlying23 N0 J J J (by rfl)) ?_;intro b11 w11 hb11 hs11 hx11 hB11;refine Ca Ab1 J (By0 t (M7 (B6 s) q).1 _ _ _ _ ‹_›) ?_;rintro _ w12 ⟨rfl,hx12⟩;have hB5:=hB5.q ((hx10.j hx11).j hx12) (by simp<;>omega);refine Pe J9 J ‹_› J J ?_;intro w13 hs13 hx13 hB5;have hC:=hC.step ((((hx9.j hx10).j hx11).j hx12).j hx13) (by simp<;>omega);have hR:=hR.q ((hx11.j hx12).j hx13) (by simp<;>omega);have hL:=hL.q (((hx10.j hx11).j hx12).j hx13) (by simp<;>omega);have hB1:=hB1.q ((((hx9.j hx10).j hx11).j hx12).j hx13) (by simp<;>omega);refine Qc ⟨(f,V8 [t,(M7 (B6 s) q).1],(M7 (B6 s) q).2),sb J,?_,?_⟩;have hfq:=X8 (L:=B6 s) hqi;refine ⟨hC,hL,hR,hB1,hB5,?_,hfq.le,fun he=>?_⟩;rw [← hr,hcl,Ek0 (by simpa using g1),Ek0 (by rw [g2];simp)];have:=hfq.adv he;omega;exact Er6 f
   ·try simp at g2
    refine Xb ⟨b1,b5,sb J,?_⟩;have hS:isS (B6 s) q 93=q.go 1:=by unfold isS;rw [g2];rfl
    rw [hS] at hR;rw [← hr,hcl,Ek0 (by simpa using g1),Ek1 g2];exact ⟨hC,hR,hB1,hB5,by omega,by omega,by omega⟩
  ·try simp at g1
   refine Qk J (Qk J (Qk J (Qk J (Qk J (Zc 1 J (E4 J (Xb ⟨b1,b5,sb J,?_⟩)))))));rw [← hr,Dq2 (by simpa using g1)];exact ⟨hC,hR,hB1,hB5,by omega,by omega,by omega⟩
 rintro e9 w9 ⟨b2,b4,hs9,hC,hR,hB1,hB4,hlt1,hlt2,hlt3⟩;refine I2 _ hs9 ?_;clear hs9 e9;have hok:=Bo1 s ((B6 s).length+2) (M7 (B6 s) (isS (B6 s) (p.go 1) 94)).1 (M7 (B6 s) (isS (B6 s) (p.go 1) 94)).2 (By6 s _);have hE:Ae4 (B6 s) p=(if isB (B6 s) (p.go 1) 94 then Q2 (R3 (B6 s) ((B6 s).length+2) (M7 (B6 s) (isS (B6 s) (p.go 1) 94)).1 (M7 (B6 s) (isS (B6 s) (p.go 1) 94)).2).1 else (R3 (B6 s) ((B6 s).length+2) (M7 (B6 s) (isS (B6 s) (p.go 1) 94)).1 (M7 (B6 s) (isS (B6 s) (p.go 1) 94)).2).1,(R3 (B6 s) ((B6 s).length+2) (M7 (B6 s) (isS (B6 s) (p.go 1) 94)).1 (M7 (B6 s) (isS (B6 s) (p.go 1) 94)).2).2):=rfl;generalize R3 (B6 s) ((B6 s).length+2) (M7 (B6 s) (isS (B6 s) (p.go 1) 94)).1 (M7 (B6 s) (isS (B6 s) (p.go 1) 94)).2=r at*
 refine Qa (Qd (Zc 1 J (A4 J (fun g3=>?_) (fun g3=>?_))))
 ·try simp at g3
  refine Qb (La J0 J ‹_› J J ?_);refine Ca Do8 J (Dm2 _ hok _) ?_;rintro _ w14 ⟨rfl,hx14⟩;have hB4:=hB4.u hx14;refine Pe J9 J ‹_› J J ?_;intro w15 hs15 hx15 hB4;have hB1:=hB1.q (hx14.j hx15) (by simp<;>omega);refine Qc (Qd (La J0 J ‹_› J J ?_));refine Pe J9 J ‹_› J J ?_;intro w16 hs16 hx16 hB1;have hC:=hC.step ((hx14.j hx15).j hx16) (by simp<;>omega);have hR:=hR.q ((hx14.j hx15).j hx16) (by simp<;>omega);refine Qc (A6 (D5 J J (A5 J0 ‹_› J J) ?_));exact ⟨by rw [hE,Ek1 g3];rfl,hC,by rw [hE];exact hR⟩
 ·try simp at g3
  refine A7 (Qd (La J0 J ‹_› J J ?_));refine Pe J9 J ‹_› J J ?_;intro w17 hs17 hx17 hB1;have hC:=hC.step hx17 (by simp<;>omega);have hR:=hR.q hx17 (by simp;omega);refine Qc (A6 (D5 J J (A5 J0 ‹_› J J) ?_));exact ⟨by rw [hE,Ek0 (by rw [g3];simp)];rfl,hC,by rw [hE];exact hR⟩
section
theorem Bd3 (s:ByteArray) (l h:Nat):B6 (s.extract l h)=((B6 s).take h).drop l:=by
 unfold B6;rw [ByteArray.data_extract];rw [Array.toList_extract];simp [List.extract,List.map_take,List.map_drop,List.drop_take]
theorem Ba8 (a b:ByteArray):(a.toList==b.toList)=decide (B6 a=B6 b):=by
 have h:a.toList=b.toList↔B6 a=B6 b:=by
  rw [ByteArray.toList_eq,ByteArray.toList_eq];unfold B6
  constructor
  ·intro h;rw [h]
  ·intro h;exact (List.map_inj_right (fun x y hxy=>UInt8.toNat_inj.1 hxy)).1 h
 by_cases hc:B6 a=B6 b
 ·rw [El2 hc,h.2 hc];simp
 ·rw [El3 hc];have:¬ a.toList=b.toList:=fun h'=>hc (h.1 h')
  simpa using this
section
variable {P:Program} {n:Nat} {e:Env} {dst:Option Tmp} {t:TypeId} {p:String} {af:Array Edge} {g:Option (Nat × Bool)} {φ:World→Prop}
theorem Bf0 {τ:TypeId} {x y:Operand} {s:ByteArray} {k:IntKind} {i:Int} (hu:P.underlying τ=some .string) (hx:ev e x=some (.string s)) (hy:ev e y=some (.int k i)) (h0:0≤i) (h1:i≤s.size):
  Does P n e ⟨dst,.slice τ x (some y) none none,t,p,af,g⟩ φ (.string (s.extract i.toNat s.size)):=fun a w ha _=>by
 have h:0≤i∧i≤s.size:=⟨h0,h1⟩;simp [execOp,ha.ev hx,ha.ev hy,Instr.sliceAt,Instr.slice,run_underlying hu,Instr.sliceBounds,Instr.sliceBound,asIntOf,h]
theorem Cr1 {τ:TypeId} {x y:Operand} {s:ByteArray} {k:IntKind} {i:Int} (hu:P.underlying τ=some .string) (hx:ev e x=some (.string s)) (hy:ev e y=some (.int k i)) (h0:0≤i) (h1:i≤s.size):
  Does P n e ⟨dst,.slice τ x none (some y) none,t,p,af,g⟩ φ (.string (s.extract 0 i.toNat)):=fun a w ha _=>by
 have h:0≤i∧i≤s.size:=⟨h0,h1⟩;simp [execOp,ha.ev hx,ha.ev hy,Instr.sliceAt,Instr.slice,run_underlying hu,Instr.sliceBounds,Instr.sliceBound,asIntOf,h]
end
def Dc6 (l q:List Nat):Bool:=decide (q.length≤l.length) && decide (l.take q.length=q)
theorem pre0_c (s q:ByteArray) (w:World):Calls P 224 #[.string s,.string q] w (Ret fun v w'=>v= .bool (Dc6 (B6 s) (B6 q))∧w'=w):=by
 have h1:=E5 s;have h2:=E5 q
 refine D4 Tryz.func224 J J (Qd (Zc 1 J (Qd (Z 1 J (C9 J (E9 Tryz.underlying9 J) (Z 1 J (C9 J (E9 Tryz.underlying9 J) (Z 2 J (C0 (d:=10) J (fun g1=>?_) (fun g1=>?_))))))))))
 ·try simp at g1
  refine Qu J (Z 1 J (Qu J (Z 1 J (Qu J (C9 J (E9 Tryz.underlying9 J) (Qu J (C9 J (Cr1 Tryz.underlying9 J J (by omega) (by omega)) (Qu J (Z 1 J (Qu J (C9 J (Ae7 J J) (Zc 2 J (A6 (B4 J J ⟨H5 ?_,rfl⟩))))))))))))));rw [Ba8,Bd3];unfold Dc6;rw [h1,h2,El2 (by omega:q.size≤s.size)];simp
 ·try simp at g1
  exact Qk J (Qk J (Qk J (Qk J (Qk J (Qk J (Zc 2 J (A6 (B4 J J ⟨H5 (by unfold Dc6;rw [h1,h2,El3 (by omega)];rfl),rfl⟩))))))))
theorem pre_c (s q:ByteArray) (w:World):Calls P 207 #[.string s,.string q] w (Ret fun v w'=>v= .bool (Dc6 (B6 s) (B6 q))∧w'=w):=by
 refine D4 Tryz.func207 J J (Qd (Zc 1 J (Qd (Z 2 J (Ca fb224 J (pre0_c s q _) ?_)))));rintro _ _ ⟨rfl,rfl⟩;exact Zc 1 J (A6 (B4 J J ⟨rfl,rfl⟩))
end
theorem Ae1 {L:List Nat} {q:Ps} (h:¬ (q.e=0∧R9 L q=true)) (f n:Nat):N1 L f n q=(n,q):=by
 cases f with
 |zero=>rfl
 |succ f=>unfold N1;rw [Ek0 h]
theorem Bt6 {L:List Nat}:∀ (f n:Nat) (q:Ps),n≤1001→(N1 L f n q).1≤1001
 |0,n,q,h=>h
 |f+1,n,q,h=>by
  unfold N1
  split
  ·exact Bt6 f _ _ (by omega)
  ·exact h
theorem Dd4 (s:ByteArray) (p:Ps) (sl:Value) (b:Nat) (w:World) (hs:s.size≤1048576) (hp:p.i≤s.size) (hR:Blk w b (rdC s p sl) 239):Calls P 225 #[.pointer (some ⟨b,0,none⟩)] w (Ret fun v w'=>v= .int .i64 ((H9 (B6 s) p).1:Nat)∧Chg [b] w w'∧Blk w' b (rdC s (H9 (B6 s) p).2 sl) 239):=by
 have hC:=A8 [b] w;have hle:(B6 s).length=s.size:=E5 s;refine D4 Tryz.func225 J J (Qd (Zc 1 J (Qd (Z 2 J (Fa D9 J (Fa G7 J (Lb o3 J ‹_› (by rfl) ?_)))))))
 refine Zc 2 J (I3 (fun e9 wr=>Sub [(0,.pointer (some ⟨b,0,none⟩)),(3,.int .i64 (p.i:Int)),(4,.int .i64 0)] e9∧Chg [b] w wr∧Blk wr b (rdC s (if R9 (B6 s) p then p else p.fail p.i 4) sl) 239) ?_ ?_)
 ·refine Qd (Z 1 J (Ca fb236 J (Dg8 s p sl b _ ‹_›) ?_));rintro _ w1 ⟨rfl,hx1⟩;have hC:=hC.s0 hx1;have hR:=hR.u hx1
  refine Zc 1 J (A4 J (fun g1=>?_) (fun g1=>?_))
  ·try simp at g1
   refine C8 (S:=[]) 8 [(0,0),(0,1),(0,2),(0,3),(0,4),(0,5),(0,6),(0,7),(2,8)] mo (by kernel_rfl) ?_;intro w2 hx2 hh2;have hR:=hR.u hx2;refine Z 2 J (Fa D9 J (Z 2 J (Fa D9 J (Fa G7 J (D6 J (B3 o3 J ‹_› (by simp<;>omega) (by rfl)) ?_)))));refine Ca Al3 J (X6 s _ sl b p.i 4 _ ‹_›) ?_;rintro _ w3 ⟨rfl,hx3,hR'⟩;have hC:=hC.step (hx2.j hx3) (by simp<;>omega);clear hR;have hR:=hR';clear hR';refine Qc ⟨(sb J),?_⟩;exact ⟨hC,by rw [Ek0 (by rw [g1];simp)];exact hR⟩
  ·try simp at g1
   refine A7 ⟨(sb J),?_⟩;exact ⟨hC,by rw [Ek1 g1];exact hR⟩
 rintro e9 w9 ⟨hs9,hC,hR⟩;refine I2 _ hs9 ?_;clear hs9 e9;have hf:Fine (B6 s).length 0 p (if R9 (B6 s) p then p else p.fail p.i 4):=Ae5 (Fine.refl (by omega)) (Fine.fail (by omega) (by omega) (by decide));have hE:H9 (B6 s) p=((N1 (B6 s) ((B6 s).length+1) 0 (if R9 (B6 s) p then p else p.fail p.i 4)).1,if 1000<(N1 (B6 s) ((B6 s).length+1) 0 (if R9 (B6 s) p then p else p.fail p.i 4)).1 then (N1 (B6 s) ((B6 s).length+1) 0 (if R9 (B6 s) p then p else p.fail p.i 4)).2.fail p.i 5 else (N1 (B6 s) ((B6 s).length+1) 0 (if R9 (B6 s) p then p else p.fail p.i 4)).2):=rfl;generalize (if R9 (B6 s) p then p else p.fail p.i 4)=q0 at*;have hq0:=hf.le;have hnle:=Bt6 (L:=B6 s) ((B6 s).length+1) 0 q0 (by omega);generalize hr:N1 (B6 s) ((B6 s).length+1) 0 q0=r at*
 refine I3 (fun e9 wr=>Sub [(0,.pointer (some ⟨b,0,none⟩)),(3,.int .i64 (p.i:Int)),(4,.int .i64 (r.1:Int))] e9∧Chg [b] w wr∧Blk wr b (rdC s r.2 sl) 239) ?_ ?_
 ·refine B2 (D8 (σ:=Nat × Nat × Ps) (fun (f,t,q)=>[(0,.pointer (some ⟨b,0,none⟩)),(3,.int .i64 (p.i:Int)),(4,.int .i64 (t:Int))]) (fun (f,t,q) wr=>Chg [b] w wr∧Blk wr b (rdC s q sl) 239∧N1 (B6 s) f t q=r∧q.i≤(B6 s).length∧(B6 s).length<q.i+f∧t≤1001) (fun (f,t,q) wr=>f) ((B6 s).length+1,0,q0) (sb J) ?_ ?_)
  ·exact ⟨hC,hR,hr,hq0,by omega,by omega⟩
  rintro ⟨f,t,q⟩ w8 ⟨hC,hR,hr,hqi,hfu,ht⟩
  try have hzw:=hC.size
  refine Qa (Qd (Z 2 J (Fa D9 J (Ca Bm7 J (Bo8 s _ sl b _ ‹_›) ?_))));rintro _ _ ⟨rfl,rfl⟩
  refine Z 2 J (C0 (d:=27) J (fun g2=>?_) (fun g2=>?_))
  ·try simp at g2
   refine Qu J (Z 1 J (Qu J (Ca fb236 J (Dg8 s q sl b _ ‹_›) ?_)));rintro _ w5 ⟨rfl,hx5⟩;have hC:=hC.s0 hx5;have hR:=hR.u hx5
   refine Zc 1 J (A4 J (fun g3=>?_) (fun g3=>?_))
   ·try simp at g3
    have hlt:=Co5 g3;obtain ⟨f,rfl⟩:∃ g,f=g+1:=⟨f - 1,by omega⟩
    have hcl:N1 (B6 s) (f+1) t q=N1 (B6 s) f (min (10*t+(H7 (B6 s) q - 48)) 1001) (q.go 1):=by
     show (if q.e=0∧R9 (B6 s) q=true then _ else _)=_;rw [Ek1 ⟨g2,g3⟩]
    obtain ⟨u,hu,hu2⟩:=Cu3 s q (by omega);have hd:48≤H7 (B6 s) q∧H7 (B6 s) q≤57:=by unfold R9 at g3;simp at g3;omega
    refine A7 (B2 (Qa (C8 (S:=[]) 15 [(0,0),(0,1),(0,2),(0,3),(0,4),(0,5),(0,6),(0,7),(0,8),(0,9),(0,10),(0,11),(0,12),(0,13),(0,14),(2,15),(2,16),(2,17)] mo (by kernel_rfl) ?_)));intro w6 hx6 hh6;have hR:=hR.u hx6;refine Z 1 J (D6 J (Ap6 J J (by omega)) (Z 2 J (Fa D9 J (Fa Bb8 J (D6 J (B3 o9 J ‹_› (by simp<;>omega) (by rfl)) ?_)))));refine Z 2 J (Fa D9 J (Fa G7 J (D6 J (B3 o3 J ‹_› (by simp<;>omega) (by rfl)) ?_)));refine D6 J (E7 Tryz.underlying9 J J (by omega) (by exact hu)) ?_;refine D6 J (Does.to (Ab2 J J) (J4 (show _=((H7 (B6 s) q - 48:Nat):Int) by rw [wu8,hu2];omega))) ?_;refine D6 J (H4 kn5 Tryz.underlying3 J (by exact I4 (by omega))) ?_;refine Ad J J (by omega) (C9 J (Does.to (U9 J J) (J4 (show _=((min (10*t+(H7 (B6 s) q - 48)) 1001:Nat):Int) by omega))) ?_);refine Zc 1 J (Qb (Z 2 J (Fa D9 J (Fa G7 J (Lb o3 J ‹_› (by rfl) ?_)))));refine Ad J J (by omega) (Z 1 J (Fa D9 J (Fa G7 J (Pe sz3 J ‹_› J J ?_))));intro w7 hs7 hx7 hR;have hC:=hC.step (hx6.j hx7) (by simp<;>omega);refine Qc ⟨(f,min (10*t+(H7 (B6 s) q - 48)) 1001,q.go 1),sb J,?_,?_⟩;refine ⟨hC,hR,by rw [← hcl];exact hr,?_,?_,by omega⟩;show q.i+1≤_;omega;show (B6 s).length<(q.i+1)+f;omega;exact Er6 f
   ·try simp at g3
    refine Xb ⟨⟨rfl,rfl,(G2 J (by rw [← hr,Ae1 (by rw [g3];simp)])),trivial⟩,?_⟩;exact ⟨hC,by rw [← hr,Ae1 (by rw [g3];simp)];exact hR⟩
  ·try simp at g2
   refine Qk J (Qk J (Zc 1 J (E4 J (Xb ⟨⟨rfl,rfl,(G2 J (by rw [← hr,Ae1 (by intro h;exact absurd h.1 (by simpa using g2))])),trivial⟩,?_⟩))));exact ⟨hC,by rw [← hr,Ae1 (by intro h;exact absurd h.1 (by simpa using g2))];exact hR⟩
 rintro e9 w7 ⟨hs9,hC,hR⟩;refine I2 _ hs9 ?_;clear hs9 e9
 refine Qa (Qd (Zc 2 J (A4 J (fun g4=>?_) (fun g4=>?_))))
 ·try simp at g4
  refine Qb (Z 2 J (Fa D9 J (Z 1 J (Ca Al3 J (X6 s _ sl b p.i 5 _ ‹_›) ?_))));rintro _ w8 ⟨rfl,hx8,hR'⟩;have hC:=hC.step hx8 (by simp<;>omega);clear hR;have hR:=hR';clear hR';exact Qc (Qd (Zc 2 J (A6 (B4 J J ⟨by rw [hE],hC,by rw [hE];dsimp only;rw [Ek1 (by omega)];exact hR⟩))))
 ·try simp at g4
  exact A7 (Qd (Zc 2 J (A6 (B4 J J ⟨by rw [hE],hC,by rw [hE];dsimp only;rw [Ek0 (by omega)];exact hR⟩))))
def L3 (L:List Nat) (lo:Nat × Ps):Int × Ps:=
 if lo.2.e=0∧isB L lo.2 44 then
  let q:=lo.2.go 1
  if ¬ q.i<L.length∨H7 L q≠125 then
   let hi:=H9 L q
   ((hi.1:Int),if hi.2.e=0∧hi.1<lo.1 then hi.2.fail q.i 5 else hi.2)
  else (-1,q)
 else ((lo.1:Int),lo.2)
theorem Bx2 (L:List Nat) (p:Ps):S6 L p=(((H9 L p).1:Int),(L3 L (H9 L p)).1,if (L3 L (H9 L p)).2.e=0 then (if isB L (L3 L (H9 L p)).2 125 then (L3 L (H9 L p)).2.go 1 else (L3 L (H9 L p)).2.fail (L3 L (H9 L p)).2.i 4) else (L3 L (H9 L p)).2):=rfl
theorem bracesM_le (L:List Nat) (lo:Nat × Ps) (h:lo.2.i≤L.length):(L3 L lo).2.i≤L.length:=by
 unfold L3
 split
 ·rename_i hb
  have hg:Fine L.length 1 lo.2 (lo.2.go 1):=Fine.go (As4 hb.2);dsimp only
  split
  ·exact (Ae5 ((Ae0 hg.le).thenFail hg.le (by decide)) (Ae0 hg.le)).le
  ·exact hg.le
 ·exact h
theorem braces_c (s:ByteArray) (p:Ps) (sl:Value) (b:Nat) (w:World) (hs:s.size≤1048576) (hp:p.i≤s.size) (hR:Blk w b (rdC s p sl) 239):Calls P 208 #[.pointer (some ⟨b,0,none⟩)] w (Ret fun v w'=>v= .tuple #[.int .i64 (S6 (B6 s) p).1,.int .i64 (S6 (B6 s) p).2.1]∧Chg [b] w w'∧Blk w' b (rdC s (S6 (B6 s) p).2.2 sl) 239):=by
 have hC:=A8 [b] w;have hle:(B6 s).length=s.size:=E5 s;refine D4 Tryz.func208 J J (Qd (Zc 2 J (Qd (Z 1 J (Ca fb225 J (Dd4 s p sl b _ hs hp ‹_›) ?_)))));rintro _ w1 ⟨rfl,hx1,hR'⟩;have hz1:=hx1.size;have hC:=hC.step hx1 (by simp<;>omega);clear hR;have hR:=hR';clear hR';rw [Bx2];generalize hlo:H9 (B6 s) p=lo at*
 refine Zc 1 J (Qd (Zc 2 J (I3 (fun e9 wr=>Sub [(0,.pointer (some ⟨b,0,none⟩)),(4,.int .i64 (lo.1:Int)),(5,.int .i64 (L3 (B6 s) lo).1)] e9∧Chg [b] w wr∧Blk wr b (rdC s (L3 (B6 s) lo).2 sl) 239) ?_ ?_)))
 ·refine Qd (Z 2 J (Fa D9 J (Ca Bm7 J (Bo8 s _ sl b _ ‹_›) ?_)));rintro _ _ ⟨rfl,rfl⟩
  refine Z 2 J (C0 (d:=17) J (fun g1=>?_) (fun g1=>?_))
  ·try simp at g1
   refine Qu J (Z 1 J (Qu J (Z 1 J (Qu J (Fa D9 J (Qu J (Ca Do6 J (is_c s _ sl b 44 _ hs ‹_›) ?_)))))));rintro _ w3 ⟨rfl,hx3,hR'⟩;have hC:=hC.step hx3 (by simp<;>omega);clear hR;have hR:=hR';clear hR'
   refine Zc 1 J (A4 J (fun g2=>?_) (fun g2=>?_))
   ·try simp at g2
    have hS:isS (B6 s) lo.2 44=lo.2.go 1:=by unfold isS;rw [g2];rfl
    rw [hS] at hR;have hg:Fine (B6 s).length 1 lo.2 (lo.2.go 1):=Fine.go (As4 g2);have hgl:=hg.le;have hM:L3 (B6 s) lo=if ¬ (lo.2.go 1).i<(B6 s).length∨H7 (B6 s) (lo.2.go 1)≠125 then (((H9 (B6 s) (lo.2.go 1)).1:Int),if (H9 (B6 s) (lo.2.go 1)).2.e=0∧(H9 (B6 s) (lo.2.go 1)).1<lo.1 then (H9 (B6 s) (lo.2.go 1)).2.fail (lo.2.go 1).i 5 else (H9 (B6 s) (lo.2.go 1)).2) else (-1,lo.2.go 1):=by unfold L3;rw [Ek1 ⟨g1,g2⟩]
    refine Qd (Zc 1 J (Qd (Z 2 J (Fa D9 J (Ca Cx7 J (Bj6 s (lo.2.go 1) sl b _ ‹_›) ?_)))));rintro _ w4 ⟨rfl,hx4⟩;have hC:=hC.s0 hx4;have hR:=hR.u hx4
    refine Zc 5 J (I3 (fun e9 wr=>Sub [(0,.pointer (some ⟨b,0,none⟩)),(4,.int .i64 (lo.1:Int)),(5,.int .i64 (-1)),(35,.bool (decide (¬ (lo.2.go 1).i<(B6 s).length∨H7 (B6 s) (lo.2.go 1)≠125)))] e9∧Chg [b] w wr∧Blk wr b (rdC s (lo.2.go 1) sl) 239) ?_ ?_)
    ·refine Qb (Z 3 J (C0 (d:=32) J (fun g3=>?_) (fun g3=>?_)))
     ·try simp at g3
      refine Qk J (Qk J (Zc 1 J ⟨⟨rfl,rfl,rfl,(H3 J (by rw [El2 (Or.inl (by omega))])),trivial⟩,?_⟩));exact ⟨hC,hR⟩
     ·try simp at g3
      refine Qu J (Z 1 J (Qu J (Zc 2 J ⟨⟨rfl,rfl,rfl,(H3 J (by by_cases h:H7 (B6 s) (lo.2.go 1)=125<;>simp [Aa4,h,hle,g3]<;>omega)),trivial⟩,?_⟩)));exact ⟨hC,hR⟩
    rintro e9 w9 ⟨hs9,hC,hR⟩;refine I2 _ hs9 ?_;clear hs9 e9
    refine A4 J (fun g4=>?_) (fun g4=>?_)
    ·try simp at g4
     refine Qd (Z 2 J (Fa D9 J (Fa G7 J (Lb o3 J ‹_› (by rfl) ?_))));refine Zc 1 J (Qd (Z 1 J (Ca fb225 J (Dd4 s (lo.2.go 1) sl b _ hs (by omega) ‹_›) ?_)));rintro _ w5 ⟨rfl,hx5,hR'⟩;have hz5:=hx5.size;have hC:=hC.step hx5 (by simp<;>omega);clear hR;have hR:=hR';clear hR';refine Zc 1 J (Qd (Z 2 J (Fa D9 J (Ca Bm7 J (Bo8 s _ sl b _ ‹_›) ?_))));rintro _ _ ⟨rfl,rfl⟩
     refine Z 2 J (C0 (d:=48) J (fun g5=>?_) (fun g5=>?_))
     ·try simp at g5
      refine Qu J (Z 1 J (Qu J (Z 1 J (Qu J (Zc 2 J (A4 J (fun g6=>?_) (fun g6=>?_)))))))
      ·try simp at g6
       refine Qb (Z 2 J (Fa D9 J (Z 1 J (Ca Al3 J (X6 s _ sl b (lo.2.go 1).i 5 _ ‹_›) ?_))));rintro _ w7 ⟨rfl,hx7,hR'⟩;have hC:=hC.step hx7 (by simp<;>omega);clear hR;have hR:=hR';clear hR';refine Qc ⟨⟨rfl,rfl,(G2 J (by rw [hM,Ek1 (by omega)])),trivial⟩,?_⟩;exact ⟨hC,by rw [hM,Ek1 (by omega)];dsimp only;rw [Ek1 ⟨g5,by omega⟩];exact hR⟩
      ·try simp at g6
       refine A7 ⟨⟨rfl,rfl,(G2 J (by rw [hM,Ek1 (by omega)])),trivial⟩,?_⟩;exact ⟨hC,by rw [hM,Ek1 (by omega)];dsimp only;rw [Ek0 (by omega)];exact hR⟩
     ·try simp at g5
      refine Qk J (Qk J (Qk J (Zc 1 J (E4 J (A7 ⟨⟨rfl,rfl,(G2 J (by rw [hM,Ek1 (by omega)])),trivial⟩,?_⟩)))));exact ⟨hC,by rw [hM,Ek1 (by omega)];dsimp only;rw [Ek0 (by intro h;exact absurd h.1 (by simpa using g5))];exact hR⟩
    ·try simp at g4
     refine A7 ⟨⟨rfl,rfl,(G2 J (by rw [hM,Ek0 (by omega)])),trivial⟩,?_⟩;exact ⟨hC,by rw [hM,Ek0 (by omega)];exact hR⟩
   ·try simp at g2
    have hS:isS (B6 s) lo.2 44=lo.2:=by unfold isS;rw [g2];rfl
    have hM:L3 (B6 s) lo=((lo.1:Int),lo.2):=by unfold L3;rw [Ek0 (by rw [g2];simp)]
    refine A7 ⟨⟨rfl,rfl,(G2 J (by rw [hM])),trivial⟩,?_⟩;exact ⟨hC,by rw [hM];rw [hS] at hR;exact hR⟩
  ·try simp at g1
   have hM:L3 (B6 s) lo=((lo.1:Int),lo.2):=by unfold L3;rw [Ek0 (by intro h;exact absurd h.1 (by simpa using g1))]
   refine Qk J (Qk J (Qk J (Qk J (Zc 1 J (E4 J (A7 ⟨⟨rfl,rfl,(G2 J (by rw [hM])),trivial⟩,?_⟩))))));exact ⟨hC,by rw [hM];exact hR⟩
 rintro e9 w8 ⟨hs9,hC,hR⟩;refine I2 _ hs9 ?_;clear hs9 e9
 try have hzw:=hC.size
 generalize L3 (B6 s) lo=m at*
 try have hlR:=hR.lt
 refine Qa (Qd (Z 2 J (Fa D9 J (Ca Bm7 J (Bo8 s _ sl b _ ‹_›) ?_))));rintro _ _ ⟨rfl,rfl⟩
 refine Z 2 J (C0 (d:=63) J (fun g7=>?_) (fun g7=>?_))
 ·try simp at g7
  refine Qu J (Z 1 J (Qu J (Z 1 J (Qu J (Fa D9 J (Qu J (Ca Do6 J (is_c s m.2 sl b 125 _ hs ‹_›) ?_)))))));rintro _ w9 ⟨rfl,hx9,hR'⟩;have hC:=hC.step hx9 (by simp<;>omega);clear hR;have hR:=hR';clear hR'
  refine Qu J (Zc 2 J (A4 J (fun g8=>?_) (fun g8=>?_)))
  ·try simp at g8
   have hS:isS (B6 s) m.2 125=m.2:=by unfold isS;rw [g8];rfl
   rw [hS] at hR;refine C8 (S:=[]) 8 [(0,0),(0,1),(0,2),(0,3),(0,4),(0,5),(0,6),(0,7),(2,8)] mo (by kernel_rfl) ?_;intro w10 hx10 hh10;have hR:=hR.u hx10;refine Z 2 J (Fa D9 J (Z 2 J (Fa D9 J (Fa G7 J (D6 J (B3 o3 J ‹_› (by simp<;>omega) (by rfl)) ?_)))));refine Ca Al3 J (X6 s _ sl b m.2.i 4 _ ‹_›) ?_;rintro _ w11 ⟨rfl,hx11,hR'⟩;have hC:=hC.step (hx10.j hx11) (by simp<;>omega);clear hR;have hR:=hR';clear hR';exact Qc (Qd (Zc 4 J (A6 (J1 J J J ⟨rfl,hC,by dsimp only;rw [Ek1 g7,Ek0 (by rw [g8];simp)];exact hR⟩))))
  ·try simp at g8
   have hS:isS (B6 s) m.2 125=m.2.go 1:=by unfold isS;rw [g8];rfl
   rw [hS] at hR;exact A7 (Qd (Zc 4 J (A6 (J1 J J J ⟨rfl,hC,by dsimp only;rw [Ek1 g7,Ek1 g8];exact hR⟩))))
 ·try simp at g7
  exact Qk J (Qk J (Qk J (Qk J (Qk J (Zc 1 J (E4 J (A7 (Qd (Zc 4 J (A6 (J1 J J J ⟨rfl,hC,by dsimp only;rw [Ek0 (by simpa using g7)];exact hR⟩)))))))))))
theorem S7 (k a c mn mx:Int) (lz:Bool):Tok.cells { kind:=k,src:=a,to:=c,set:=0,min:=mn,max:=mx,lazy:=lz }=[.int .i64 k,.int .i64 a,.int .i64 c,.int .u64 0,.int .u64 0,.int .u64 0,.int .u64 0,.int .i64 mn,.int .i64 mx,.bool lz]:=by
 simp [Tok.cells,C6]
def S1 (L:List Nat) (p:Ps) (c:Nat):Int × Int × Ps:=if c=43 then (1,-1,p) else if c=63 then (0,1,p) else if c=123 then S6 L p else (0,-1,p)
theorem Eg1 (L:List Nat) (p:Ps) (c:Nat):Ak4 L p c=if (S1 L p c).2.2.e≠0 then (({ kind:=5,min:=(S1 L p c).1,max:=(S1 L p c).2.1 }:Tok),(S1 L p c).2.2)
 else (({ kind:=5,min:=(S1 L p c).1,max:=(S1 L p c).2.1,lazy:=isB L (S1 L p c).2.2 63 }:Tok),if isB L (isS L (S1 L p c).2.2 63) 43 then (isS L (S1 L p c).2.2 63).fail (isS L (S1 L p c).2.2 63).i 6 else isS L (S1 L p c).2.2 63):=rfl
theorem countT_c (s:ByteArray) (p:Ps) (sl:Value) (b c:Nat) (w:World) (hs:s.size≤1048576) (hp:p.i≤s.size) (hR:Blk w b (rdC s p sl) 239):Calls P 179 #[.pointer (some ⟨b,0,none⟩),.int .u8 (c:Int)] w (Ret fun v w'=>v= .agg (Ak4 (B6 s) p c).1.cells.toArray∧Chg [b] w w'∧Blk w' b (rdC s (Ak4 (B6 s) p c).2 sl) 239):=by
 have hC:=A8 [b] w;have hle:(B6 s).length=s.size:=E5 s;rw [Eg1]
 try have hlR:=hR.lt
 refine D4 Tryz.func179 J J (Qd (B5 J (B8 Z7 J) ?_));intro b1 w1 hb1 hs1 hx1 hB1;refine Qc (Qd (C9 J (B1 Z7 Bb3 J (by rfl)) ?_));refine B5 J (B8 Z7 J) ?_;intro b2 w2 hb2 hs2 hx2 hB2;refine Pe Z0 J ‹_› J J ?_;intro w3 hs3 hx3 hB2;have hC:=hC.step ((hx1.j hx2).j hx3) (by simp<;>omega);have hR:=hR.q ((hx1.j hx2).j hx3) (by simp<;>omega);have hB1:=hB1.q (hx2.j hx3) (by simp<;>omega)
 refine Qc (I3 (fun e9 wr=>∃ b4 b5,Sub [(0,.pointer (some ⟨b,0,none⟩)),(4,.pointer (some ⟨b4,0,none⟩)),(5,.pointer (some ⟨b5,0,none⟩))] e9∧Chg [b] w wr∧Blk wr b (rdC s (S1 (B6 s) p c).2.2 sl) 239∧Blk wr b4 [.int .i64 0,.int .i64 0,.int .i64 0,.int .u64 0,.int .u64 0,.int .u64 0,.int .u64 0,.int .i64 0,.int .i64 0,.bool false] 205∧Blk wr b5 [.int .i64 5,.int .i64 0,.int .i64 0,.int .u64 0,.int .u64 0,.int .u64 0,.int .u64 0,.int .i64 (S1 (B6 s) p c).1,.int .i64 (S1 (B6 s) p c).2.1,.bool false] 205∧w.heap.size≤b4∧b4<b5∧b<b4) ?_ ?_)
 ·refine Qd (Zc 1 J (B2 (Qd (Zc 2 J (A4 J (fun g1=>?_) (fun g1=>?_))))))
  ·try simp at g1
   have hM:S1 (B6 s) p c=(1,-1,p):=by unfold S1;rw [Ek1 (by omega)]
   refine Qb (Fa Cw7 J (Pe sz3 J ‹_› J J ?_));intro w4 hs4 hx4 hB2;have hC:=hC.step hx4 (by simp<;>omega);have hR:=hR.q hx4 (by simp;omega);have hB1:=hB1.q hx4 (by simp;omega);refine Qc ⟨b1,b2,sb J,?_⟩;rw [hM];exact ⟨hC,hR,hB1,hB2,by omega,by omega,by omega⟩
  ·try simp at g1
   refine Qd (Zc 2 J (A4 J (fun g2=>?_) (fun g2=>?_)))
   ·try simp at g2
    have hM:S1 (B6 s) p c=(0,1,p):=by unfold S1;rw [Ek0 (by omega),Ek1 (by omega)]
    refine Qb (Fa Cw6 J (Pe sz3 J ‹_› J J ?_));intro w5 hs5 hx5 hB2;have hC:=hC.step hx5 (by simp<;>omega);have hR:=hR.q hx5 (by simp;omega);have hB1:=hB1.q hx5 (by simp;omega);refine Qc ⟨b1,b2,sb J,?_⟩;rw [hM];exact ⟨hC,hR,hB1,hB2,by omega,by omega,by omega⟩
   ·try simp at g2
    refine Qd (Zc 2 J (A4 J (fun g3=>?_) (fun g3=>?_)))
    ·try simp at g3
     have hM:S1 (B6 s) p c=S6 (B6 s) p:=by unfold S1;rw [Ek0 (by omega),Ek0 (by omega),Ek1 (by omega)]
     refine Qb (Z 1 J (Ca fb208 J (braces_c s p sl b _ hs hp ‹_›) ?_));rintro _ w6 ⟨rfl,hx6,hR'⟩;have hB2:=hB2.q hx6 (by simp;omega);clear hR;have hR:=hR';clear hR';refine Z 3 J (Fa Cw7 J (Pe sz3 J ‹_› J J ?_));intro w7 hs7 hx7 hB2;refine Fa Cw6 J (Pe sz3 J ‹_› J J ?_);intro w8 hs8 hx8 hB2;have hC:=hC.step ((hx6.j hx7).j hx8) (by simp<;>omega);have hR:=hR.q (hx7.j hx8) (by simp<;>omega);have hB1:=hB1.q ((hx6.j hx7).j hx8) (by simp<;>omega);refine Qc ⟨b1,b2,sb J,?_⟩;rw [hM];exact ⟨hC,hR,hB1,hB2,by omega,by omega,by omega⟩
    ·try simp at g3
     have hM:S1 (B6 s) p c=(0,-1,p):=by unfold S1;rw [Ek0 (by omega),Ek0 (by omega),Ek0 (by omega)]
     refine A7 ⟨b1,b2,sb J,?_⟩;rw [hM];exact ⟨hC,hR,hB1,hB2,by omega,by omega,by omega⟩
 rintro e9 w9 ⟨b4,b5,hs9,hC,hR,hB1,hB2,hlt1,hlt2,hlt3⟩;refine I2 _ hs9 ?_;clear hs9 e9
 try have hzw:=hC.size
 generalize S1 (B6 s) p c=m at*;obtain ⟨mn,mx,q⟩:=m;dsimp only at*
 try have hlR:=hR.lt
 try have hlB1:=hB1.lt
 try have hlB2:=hB2.lt
 refine Qa (Qd (Z 2 J (Fa D9 J (Ca Bm7 J (Bo8 s q sl b _ ‹_›) ?_))));rintro _ _ ⟨rfl,rfl⟩
 refine Qc (A4 J (fun g4=>?_) (fun g4=>?_))
 ·try simp at g4
  refine Qd (La Y4 J ‹_› J J ?_);refine Pe Z0 J ‹_› J J ?_;intro w10 hs10 hx10 hB1;have hC:=hC.step hx10 (by simp<;>omega);have hR:=hR.q hx10 (by simp;omega);refine Qc (A6 (D5 J J (A5 Y4 ‹_› J J) ?_));exact ⟨by rw [Ek1 g4,S7]<;>rfl,hC,by rw [Ek1 g4];exact hR⟩
 ·try simp at g4
  rw [Ek0 (by simpa using g4)];refine A7 (Qd (Z 2 J (Fa D9 J (Ca Do6 J (is_c s q sl b 63 _ hs ‹_›) ?_))));rintro _ w11 ⟨rfl,hx11,hR'⟩;have hB2:=hB2.q hx11 (by simp;omega);clear hR;have hR:=hR';clear hR';generalize isB (B6 s) q 63=lz at*;generalize isS (B6 s) q 63=r at*;have hB':isB (B6 s) r 43=(decide (r.i<s.size) && decide (H7 (B6 s) r=43)):=by unfold isB;rw [E5];rfl
  refine Fa Ed4 J (Pe sz4 J ‹_› J J ?_);intro w12 hs12 hx12 hB2;have hR:=hR.q hx12 (by simp;omega);refine Qc (Qa (Qd (Z 2 J (Fa D9 J (Ca Cx7 J (Bj6 s r sl b _ ‹_›) ?_)))));rintro _ w13 ⟨rfl,hx13⟩;have hC:=hC.step ((hx11.j hx12).j hx13) (by simp<;>omega);have hR:=hR.u hx13;have hB1:=hB1.q ((hx11.j hx12).j hx13) (by simp<;>omega);have hB2:=hB2.u hx13
  refine Zc 5 J (Qd (Z 2 J (C0 (d:=43) J (fun g5=>?_) (fun g5=>?_))))
  ·try simp at g5
   refine Qu J (Z 1 J (Qu J (Zc 2 J (A4 J (fun g6=>?_) (fun g6=>?_)))))
   ·try simp at g6
    refine C8 (S:=[]) 8 [(0,0),(0,1),(0,2),(0,3),(0,4),(0,5),(0,6),(0,7),(2,8)] mo (by kernel_rfl) ?_;intro w14 hx14 hh14;have hR:=hR.u hx14;refine Z 2 J (Fa D9 J (Z 2 J (Fa D9 J (Fa G7 J (D6 J (B3 o3 J ‹_› (by simp<;>omega) (by rfl)) ?_)))));refine Ca Al3 J (X6 s r sl b r.i 6 _ ‹_›) ?_;rintro _ w15 ⟨rfl,hx15,hR'⟩;have hB1:=hB1.q (hx14.j hx15) (by simp<;>omega);have hB2:=hB2.q (hx14.j hx15) (by simp<;>omega);clear hR;have hR:=hR';clear hR';refine Qc (Qd (La Y4 J ‹_› J J ?_));refine Pe Z0 J ‹_› J J ?_;intro w16 hs16 hx16 hB1;have hC:=hC.step ((hx14.j hx15).j hx16) (by simp<;>omega);have hR:=hR.q hx16 (by simp;omega);refine Qc (A6 (D5 J J (A5 Y4 ‹_› J J) ?_));exact ⟨by rw [S7]<;>rfl,hC,by dsimp only;rw [Ek1 (by rw [hB'];simp;omega)];exact hR⟩
   ·try simp at g6
    refine A7 (Qd (La Y4 J ‹_› J J ?_));refine Pe Z0 J ‹_› J J ?_;intro w17 hs17 hx17 hB1;have hC:=hC.step hx17 (by simp<;>omega);have hR:=hR.q hx17 (by simp;omega);refine Qc (A6 (D5 J J (A5 Y4 ‹_› J J) ?_));exact ⟨by rw [S7]<;>rfl,hC,by dsimp only;rw [Ek0 (by rw [hB'];simp;omega)];exact hR⟩
  ·try simp at g5
   refine Qk J (Qk J (Zc 1 J (E4 J (A7 (Qd (La Y4 J ‹_› J J ?_))))));refine Pe Z0 J ‹_› J J ?_;intro w18 hs18 hx18 hB1;have hC:=hC.step hx18 (by simp<;>omega);have hR:=hR.q hx18 (by simp;omega);refine Qc (A6 (D5 J J (A5 Y4 ‹_› J J) ?_));exact ⟨by rw [S7]<;>rfl,hC,by dsimp only;rw [Ek0 (by rw [hB'];simp;omega)];exact hR⟩
theorem Aa2 (L:List Nat) (p:Ps) (b:Nat):isB L p b=true↔p.i<L.length∧L.getD p.i 0=b:=by unfold isB;simp
theorem pre_bits (L:List Nat) (p:Ps):Dc6 (L.drop p.i) [63]=isB L p 63∧Dc6 (L.drop p.i) [63,58]=(isB L p 63 && isB L (p.go 1) 58):=by
 have hl:(L.drop p.i).length=L.length - p.i:=by simp
 have h0:L.getD p.i 0=(L.drop p.i).getD 0 0:=by simp [Ek2]
 have h1:L.getD (p.i+1) 0=(L.drop p.i).getD 1 0:=by simp [Ek2]
 have i0:isB L p 63=true↔0<(L.drop p.i).length∧(L.drop p.i).getD 0 0=63:=by rw [Aa2,h0];constructor<;>(intro h;exact ⟨by omega,h.2⟩)
 have i1:isB L (p.go 1) 58=true↔1<(L.drop p.i).length∧(L.drop p.i).getD 1 0=58:=by rw [Aa2,show (p.go 1).i=p.i+1 from rfl,h1];constructor<;>(intro h;exact ⟨by omega,h.2⟩)
 constructor
 ·rw [El4,i0];generalize L.drop p.i=D
  match D with
  |[]=>simp [Dc6]
  |[a]=>simp [Dc6]
  |a::c::r=>simp [Dc6]
 ·rw [El4,Ek6,i0,i1];generalize L.drop p.i=D
  match D with
  |[]=>simp [Dc6]
  |[a]=>simp [Dc6]
  |a::c::r=>simp [Dc6]
theorem group_c (s:ByteArray) (p:Ps) (sl:Value) (b a:Nat) (w:World) (hs:s.size≤1048576) (hp:p.i≤s.size) (hR:Blk w b (rdC s p sl) 239):Calls P 177 #[.pointer (some ⟨b,0,none⟩),.int .i64 (a:Int)] w (Ret fun v w'=>v= .agg (Aa8 (B6 s) p a).1.cells.toArray∧Chg [b] w w'∧Blk w' b (rdC s (Aa8 (B6 s) p a).2 sl) 239):=by
 have hC:=A8 [b] w;have hle:(B6 s).length=s.size:=E5 s;have hpb:=pre_bits (B6 s) p;have hx:B6 (s.extract p.i s.size)=(B6 s).drop p.i:=by rw [Bd3,En0 (by omega)]
 try have hlR:=hR.lt
 refine D4 Tryz.func177 J J (Qd (B5 J (B8 Z7 J) ?_));intro b1 w1 hb1 hs1 hx1 hB1;refine Qc (Qa (B2 (Qa (C8 (S:=[]) 10 [(0,0),(0,1),(0,2),(0,3),(0,4),(0,5),(0,6),(0,7),(0,8),(0,9),(2,10),(2,11),(2,12)] mo (by kernel_rfl) ?_))));intro w2 hx2 hh2;have hz2:=hx2.size;have hC:=hC.s0 (hx1.s0 hx2);have hR:=hR.u (hx1.s0 hx2);have hB1:=hB1.u hx2;refine Z 2 J (Fa D9 J (Fa Bb8 J (D6 J (B3 o9 J ‹_› (by simp<;>omega) (by rfl)) ?_)));refine Z 2 J (Fa D9 J (Fa G7 J (D6 J (B3 o3 J ‹_› (by simp<;>omega) (by rfl)) ?_)));refine C9 J (Bf0 Tryz.underlying9 J J (by omega) (by omega)) (Ca fb207 J (pre_c (s.extract p.i s.size) _ _) ?_);rintro _ _ ⟨rfl,rfl⟩
 refine Zc 1 J (A4 J (fun g1=>?_) (fun g1=>?_))
 ·try simp at g1
  have g1':(isB (B6 s) p 63 && isB (B6 s) (p.go 1) 58)=true:=by rw [← hpb.2,← hx];exact g1
  have hlt:=As4 (by simp only [Ek6] at g1';exact g1'.2);have hgo:(p.go 1).i=p.i+1:=rfl;have hE:Aa8 (B6 s) p a=({ kind:=2 },p.go 2):=by unfold Aa8;rw [Ek1 g1']
  refine Qd (Z 2 J (Fa D9 J (Fa G7 J (Lb o3 J ‹_› (by rfl) ?_))));refine Ad J J (by omega) (Z 1 J (Fa D9 J (Fa G7 J (Pe sz3 J ‹_› J J ?_))));intro w4 hs4 hx4 hR;have hB1:=hB1.q hx4 (by simp;omega);refine Qc (Qd (C9 J (B1 Z7 Bb3 J (by rfl)) ?_));refine Pe Z0 J ‹_› J J ?_;intro w5 hs5 hx5 hB1;have hC:=hC.step (hx4.j hx5) (by simp<;>omega);have hR:=hR.q hx5 (by simp;omega);refine Qc (A6 (D5 J J (A5 Y4 ‹_› J J) ?_));exact ⟨by rw [hE,S7]<;>rfl,hC,by rw [hE];exact hR⟩
 ·try simp at g1
  have g1':¬ (isB (B6 s) p 63 && isB (B6 s) (p.go 1) 58)=true:=by rw [← hpb.2,← hx];intro h;rw [show Dc6 (B6 (s.extract p.i s.size)) [63,58]=false from g1] at h;cases h
  refine Qa (C8 (S:=[]) 10 [(0,0),(0,1),(0,2),(0,3),(0,4),(0,5),(0,6),(0,7),(0,8),(0,9),(2,10),(2,11),(2,12)] mo (by kernel_rfl) ?_);intro w6 hx6 hh6;have hz6:=hx6.size;have hC:=hC.s0 hx6;have hR:=hR.u hx6;have hB1:=hB1.u hx6;refine Z 2 J (Fa D9 J (Fa Bb8 J (D6 J (B3 o9 J ‹_› (by simp<;>omega) (by rfl)) ?_)));refine Z 2 J (Fa D9 J (Fa G7 J (D6 J (B3 o3 J ‹_› (by simp<;>omega) (by rfl)) ?_)));refine C9 J (Bf0 Tryz.underlying9 J J (by omega) (by omega)) (Ca fb207 J (pre_c (s.extract p.i s.size) _ _) ?_);rintro _ _ ⟨rfl,rfl⟩
  refine Zc 1 J (A4 J (fun g2=>?_) (fun g2=>?_))
  ·try simp at g2
   have g2':isB (B6 s) p 63=true:=by rw [← hpb.1,← hx];exact g2
   have hE:Aa8 (B6 s) p a=({ kind:=1 },p.fail a 6):=by unfold Aa8;rw [Ek0 g1',Ek1 g2']
   refine Qb (Z 2 J (Fa D9 J (Z 1 J (Ca Al3 J (X6 s p sl b a 6 _ ‹_›) ?_))));rintro _ w8 ⟨rfl,hx8,hR'⟩;have hB1:=hB1.q hx8 (by simp;omega);clear hR;have hR:=hR';clear hR';refine Qc (Qd (C9 J (B1 Z7 Bb3 J (by rfl)) ?_));refine Pe Z0 J ‹_› J J ?_;intro w9 hs9 hx9 hB1;have hC:=hC.step (hx8.j hx9) (by simp<;>omega);have hR:=hR.q hx9 (by simp;omega);refine Qc (A6 (D5 J J (A5 Y4 ‹_› J J) ?_));exact ⟨by rw [hE,S7]<;>rfl,hC,by rw [hE];exact hR⟩
  ·try simp at g2
   have g2':¬ isB (B6 s) p 63=true:=by rw [← hpb.1,← hx];intro h;rw [show Dc6 (B6 (s.extract p.i s.size)) [63]=false from g2] at h;cases h
   have hE:Aa8 (B6 s) p a=({ kind:=1 },p):=by unfold Aa8;rw [Ek0 g1',Ek0 g2']
   refine A7 (Qd (C9 J (B1 Z7 Bb3 J (by rfl)) ?_));refine Pe Z0 J ‹_› J J ?_;intro w10 hs10 hx10 hB1;have hC:=hC.step hx10 (by simp<;>omega);have hR:=hR.q hx10 (by simp;omega);refine Qc (A6 (D5 J J (A5 Y4 ‹_› J J) ?_));exact ⟨by rw [hE,S7]<;>rfl,hC,by rw [hE];exact hR⟩
theorem one_c (s:ByteArray) (p:Ps) (sl:Value) (b:Nat) (w:World) (hs:s.size≤1048576) (hp:p.i<s.size) (hb4:4≤b) (hL:Laid w) (hR:Blk w b (rdC s p sl) 239):Calls P 147 #[.pointer (some ⟨b,0,none⟩)] w (Ret fun v w'=>v= .agg (Ag7 (B6 s) p).1.cells.toArray∧Chg [b] w w'∧Blk w' b (rdC s (Ag7 (B6 s) p).2 sl) 239):=by
 have hC:=A8 [b] w;have hle:(B6 s).length=s.size:=E5 s;have hlt:=Ad9 s p;have hgo:(p.go 1).i=p.i+1:=rfl;obtain ⟨u,hu,hu2⟩:=Cu3 s p hp
 try have hlR:=hR.lt
 refine D4 Tryz.func147 J J (Qd (B5 J (B8 Z7 J) ?_));intro b1 w1 hb1 hs1 hx1 hB1;have hC:=hC.s0 hx1;have hR:=hR.u hx1;have hL:=hL.u hx1;refine Qc (Qd (Z 2 J (Fa D9 J (Fa G7 J (Lb o3 J ‹_› (by rfl) ?_)))));refine Zc 1 J (Qd (Z 2 J (Fa D9 J (Fa Bb8 J (Lb o9 J ‹_› (by rfl) ?_)))));refine Z 1 J (C9 J (Does.to (E7 Tryz.underlying9 J J (by omega) (by exact hu)) (J4 hu2)) ?_)
 refine Zc 1 J (Qa (Qd (Zc 1 J (B2 (Qd (Zc 2 J (A4 J (fun g1=>?_) (fun g1=>?_))))))))
 ·try simp at g1
  have hE:Ag7 (B6 s) p=({ set:=(J8 (B6 s) p).1 },(J8 (B6 s) p).2):=by unfold Ag7;dsimp only;rw [Ek1 (by omega)]
  refine Qd (Z 1 J (Ca fb175 J (Dg2 s p sl b _ hs hp ‹_›) ?_));rintro _ w2 ⟨rfl,hx2,hR'⟩;have hB1:=hB1.q hx2 (by simp;omega);clear hR;have hR:=hR';clear hR';refine C9 J (B1 Z7 Bb3 J (by rfl)) ?_;refine Pe Z0 J ‹_› J J ?_;intro w3 hs3 hx3 hB1;have hC:=hC.step (hx2.j hx3) (by simp<;>omega);have hR:=hR.q hx3 (by simp;omega);refine Qc (A6 (D5 J J (A5 Y4 ‹_› J J) ?_));exact ⟨by rw [hE]<;>rfl,hC,by rw [hE];exact hR⟩
 ·try simp at g1
  refine Qd (Zc 2 J (A4 J (fun g2=>?_) (fun g2=>?_)))
  ·try simp at g2
   have hE:Ag7 (B6 s) p=({ set:=(Ae4 (B6 s) p).1 },(Ae4 (B6 s) p).2):=by unfold Ag7;dsimp only;rw [Ek0 (by omega),Ek1 (by omega)]
   refine Qd (Z 1 J (Ca fb176 J (class_c s p sl b _ hs hp hb4 ‹_› ‹_›) ?_));rintro _ w4 ⟨rfl,hx4,hR'⟩;have hB1:=hB1.q hx4 (by simp;omega);clear hR;have hR:=hR';clear hR';refine C9 J (B1 Z7 Bb3 J (by rfl)) ?_;refine Pe Z0 J ‹_› J J ?_;intro w5 hs5 hx5 hB1;have hC:=hC.step (hx4.j hx5) (by simp<;>omega);have hR:=hR.q hx5 (by simp;omega);refine Qc (A6 (D5 J J (A5 Y4 ‹_› J J) ?_));exact ⟨by rw [hE]<;>rfl,hC,by rw [hE];exact hR⟩
  ·try simp at g2
   refine A7 (Qd (Z 2 J (Fa D9 J (Fa G7 J (Lb o3 J ‹_› (by rfl) ?_)))));refine Ad J J (by omega) (Z 1 J (Fa D9 J (Fa G7 J (Pe sz3 J ‹_› J J ?_))));intro w6 hs6 hx6 hR;have hz6:=hx6.size;have hC:=hC.step hx6 (by simp<;>omega);have hL:=hL.q hx6 (by simp;omega);have hB1:=hB1.q hx6 (by simp;omega)
   refine Qc (Qa (B2 (Qd (Zc 3 J (A4 J (fun g3=>?_) (fun g3=>?_))))))
   ·try simp at g3
    have hE:Ag7 (B6 s) p=Aa8 (B6 s) (p.go 1) p.i:=by unfold Ag7;dsimp only;rw [Ek0 (by omega),Ek0 (by omega),Ek1 (by omega)]
    refine Qd (Z 2 J (Ca fb177 J (group_c s (p.go 1) sl b p.i _ hs (by omega) ‹_›) ?_));rintro _ w7 ⟨rfl,hx7,hR'⟩;have hB1:=hB1.q hx7 (by simp;omega);clear hR;have hR:=hR';clear hR';refine Pe Z0 J ‹_› J J ?_;intro w8 hs8 hx8 hB1;have hC:=hC.step (hx7.j hx8) (by simp<;>omega);have hR:=hR.q hx8 (by simp;omega);refine Qc (A6 (D5 J J (A5 Y4 ‹_› J J) ?_));exact ⟨by rw [hE]<;>rfl,hC,by rw [hE];exact hR⟩
   ·try simp at g3
    refine Qd (Zc 3 J (A4 J (fun g4=>?_) (fun g4=>?_)))
    ·try simp at g4
     have hE:Ag7 (B6 s) p=({ kind:=3 },p.go 1):=by unfold Ag7;dsimp only;rw [Ek0 (by omega),Ek0 (by omega),Ek0 (by omega),Ek1 (by omega)]
     refine Qd (C9 J (B1 Z7 Bb3 J (by rfl)) ?_);refine Pe Z0 J ‹_› J J ?_;intro w9 hs9 hx9 hB1;have hC:=hC.step hx9 (by simp<;>omega);have hR:=hR.q hx9 (by simp;omega);refine Qc (A6 (D5 J J (A5 Y4 ‹_› J J) ?_));exact ⟨by rw [hE,S7]<;>rfl,hC,by rw [hE];exact hR⟩
    ·try simp at g4
     refine Qd (Zc 3 J (A4 J (fun g5=>?_) (fun g5=>?_)))
     ·try simp at g5
      have hE:Ag7 (B6 s) p=({ kind:=4 },p.go 1):=by unfold Ag7;dsimp only;rw [Ek0 (by omega),Ek0 (by omega),Ek0 (by omega),Ek0 (by omega),Ek1 (by omega)]
      refine Qd (C9 J (B1 Z7 Bb3 J (by rfl)) ?_);refine Pe Z0 J ‹_› J J ?_;intro w10 hs10 hx10 hB1;have hC:=hC.step hx10 (by simp<;>omega);have hR:=hR.q hx10 (by simp;omega);refine Qc (A6 (D5 J J (A5 Y4 ‹_› J J) ?_));exact ⟨by rw [hE,S7]<;>rfl,hC,by rw [hE];exact hR⟩
     ·try simp at g5
      refine Qd (Zc 3 J (A4 J (fun g6=>?_) (fun g6=>?_)))
      ·try simp at g6
       have hE:Ag7 (B6 s) p=({ set:=Q2 (F1 [10]) },p.go 1):=by unfold Ag7;dsimp only;rw [Ek0 (by omega),Ek0 (by omega),Ek0 (by omega),Ek0 (by omega),Ek0 (by omega),Ek1 (by omega)]
       refine Qd (B5 J (B7 Al4 Tryz.underlying44 zr5 J J J (by rfl)) ?_);intro b11 w11 hb11 hs11 hx11 hB11;refine Ca W4 J (W3 _ _ _ _ _ ‹_› (by omega) (by omega)) ?_;rintro _ w12 ⟨rfl,hx12⟩;refine Ca Do8 J (Dm2 (F1 [Int.toNat 10]) (Bd8 (c:=10) (by decide)) _) ?_;rintro _ w13 ⟨rfl,hx13⟩;have hB1:=hB1.u ((hx11.s0 hx12).s0 hx13);refine C9 J (B1 Z7 Bb3 J (by rfl)) ?_;refine Pe Z0 J ‹_› J J ?_;intro w14 hs14 hx14 hB1;have hC:=hC.step (((hx11.j hx12).j hx13).j hx14) (by simp<;>omega);have hR:=hR.q (((hx11.j hx12).j hx13).j hx14) (by simp<;>omega);refine Qc (A6 (D5 J J (A5 Y4 ‹_› J J) ?_));exact ⟨by rw [hE]<;>rfl,hC,by rw [hE];exact hR⟩
      ·try simp at g6
       refine I3 (fun e9 wr=>Sub [(0,.pointer (some ⟨b,0,none⟩)),(2,.pointer (some ⟨b1,0,none⟩)),(3,.int .i64 (p.i:Int)),(4,.int .u8 (H7 (B6 s) p:Int)),(58,.bool (decide (H7 (B6 s) p=42∨H7 (B6 s) p=43∨H7 (B6 s) p=63∨H7 (B6 s) p=123)))] e9∧wr=w6∧Chg [b] w wr) ?_ ?_
       ·refine Qb (Z 3 J (C0 (d:=61) J (fun h1=>?_) (fun h1=>?_)))
        ·try simp at h1
         refine Qk J (Qk J (Z 2 J (Qk J (Qk J (Z 2 J (Qk J (Qk J (Zc 2 J ⟨⟨rfl,rfl,rfl,rfl,(H3 J (by rw [El2 (by omega)])),trivial⟩,?_⟩))))))));exact ⟨rfl,hC⟩
        ·try simp at h1
         refine Qu J (Z 1 J (Qu J (Z 3 J (C0 (d:=65) J (fun h2=>?_) (fun h2=>?_)))))
         ·try simp at h2
          refine Qk J (Qk J (Z 2 J (Qk J (Qk J (Zc 2 J ⟨⟨rfl,rfl,rfl,rfl,(H3 J (by rw [El2 (by omega)])),trivial⟩,?_⟩)))));exact ⟨rfl,hC⟩
         ·try simp at h2
          refine Qu J (Z 1 J (Qu J (Z 3 J (C0 (d:=69) J (fun h3=>?_) (fun h3=>?_)))))
          ·try simp at h3
           refine Qk J (Qk J (Zc 2 J ⟨⟨rfl,rfl,rfl,rfl,(H3 J (by rw [El2 (by omega)])),trivial⟩,?_⟩));exact ⟨rfl,hC⟩
          ·try simp at h3
           refine Qu J (Z 1 J (Qu J (Zc 3 J ⟨⟨rfl,rfl,rfl,rfl,(H3 J (by rw [El4,cmpB_eql,El7];omega)),trivial⟩,?_⟩)));exact ⟨rfl,hC⟩
       rintro e9 w8 ⟨hs9,rfl,hC⟩;refine I2 _ hs9 ?_;clear hs9 e9
       try have hzw:=hC.size
       try have hlR:=hR.lt
       try have hz4:=hL.sz
       try have hlB1:=hB1.lt
       refine A4 J (fun g7=>?_) (fun g7=>?_)
       ·try simp at g7
        have hE:Ag7 (B6 s) p=Ak4 (B6 s) (p.go 1) (H7 (B6 s) p):=by unfold Ag7;dsimp only;rw [Ek0 (by omega),Ek0 (by omega),Ek0 (by omega),Ek0 (by omega),Ek0 (by omega),Ek0 (by omega),Ek1 (by omega)]
        refine Qd (Z 2 J (Ca fb179 J (countT_c s (p.go 1) sl b (H7 (B6 s) p) _ hs (by omega) ‹_›) ?_));rintro _ w15 ⟨rfl,hx15,hR'⟩;have hB1:=hB1.q hx15 (by simp;omega);clear hR;have hR:=hR';clear hR';refine Pe Z0 J ‹_› J J ?_;intro w16 hs16 hx16 hB1;have hC:=hC.step (hx15.j hx16) (by simp<;>omega);have hR:=hR.q hx16 (by simp;omega);refine Qc (A6 (D5 J J (A5 Y4 ‹_› J J) ?_));exact ⟨by rw [hE]<;>rfl,hC,by rw [hE];exact hR⟩
       ·try simp at g7
        refine I3 (fun e9 wr=>Sub [(0,.pointer (some ⟨b,0,none⟩)),(2,.pointer (some ⟨b1,0,none⟩)),(3,.int .i64 (p.i:Int)),(4,.int .u8 (H7 (B6 s) p:Int)),(76,.bool (decide (H7 (B6 s) p=94∨H7 (B6 s) p=36)))] e9∧wr=w8∧Chg [b] w wr) ?_ ?_
        ·refine Qb (Z 3 J (C0 (d:=79) J (fun h4=>?_) (fun h4=>?_)))
         ·try simp at h4
          refine Qk J (Qk J (Zc 2 J ⟨⟨rfl,rfl,rfl,rfl,(H3 J (by rw [El2 (by omega)])),trivial⟩,?_⟩));exact ⟨rfl,hC⟩
         ·try simp at h4
          refine Qu J (Z 1 J (Qu J (Zc 3 J ⟨⟨rfl,rfl,rfl,rfl,(H3 J (by rw [El4,cmpB_eql,El7];omega)),trivial⟩,?_⟩)));exact ⟨rfl,hC⟩
        rintro e9 w9 ⟨hs9,rfl,hC⟩;refine I2 _ hs9 ?_;clear hs9 e9
        try have hzw:=hC.size
        try have hlR:=hR.lt
        try have hz4:=hL.sz
        try have hlB1:=hB1.lt
        refine A4 J (fun g8=>?_) (fun g8=>?_)
        ·try simp at g8
         have hE:Ag7 (B6 s) p=({ set:=F1 [H7 (B6 s) p] },(p.go 1).fail p.i 6):=by unfold Ag7;dsimp only;rw [Ek0 (by omega),Ek0 (by omega),Ek0 (by omega),Ek0 (by omega),Ek0 (by omega),Ek0 (by omega),Ek0 (by omega),Ek1 (by omega)]
         refine Qb (Z 2 J (Fa D9 J (Z 1 J (Ca Al3 J (X6 s (p.go 1) sl b p.i 6 _ ‹_›) ?_))));rintro _ w17 ⟨rfl,hx17,hR'⟩;clear hR;have hR:=hR';clear hR';refine Qc (Qd (Z 1 J (B5 J (B7 Al4 Tryz.underlying44 zr5 J J J (by rfl)) ?_)));intro b18 w18 hb18 hs18 hx18 hB18;refine Ca W4 J (W3 _ _ _ _ _ ‹_› (by omega) (by omega)) ?_;rintro _ w19 ⟨rfl,hx19⟩;have hB1:=hB1.q ((hx17.j hx18).j hx19) (by simp<;>omega);refine C9 J (B1 Z7 Bb3 J (by rfl)) ?_;refine Pe Z0 J ‹_› J J ?_;intro w20 hs20 hx20 hB1;have hC:=hC.step (((hx17.j hx18).j hx19).j hx20) (by simp<;>omega);have hR:=hR.q ((hx18.j hx19).j hx20) (by simp<;>omega);refine Qc (A6 (D5 J J (A5 Y4 ‹_› J J) ?_));exact ⟨by rw [hE]<;>rfl,hC,by rw [hE];exact hR⟩
        ·try simp at g8
         refine Qd (Z 1 J (Ca Do7 J (Dn8 _ Ea4 _ (by rfl) hlt _) ?_));rintro _ _ ⟨rfl,rfl⟩
         refine Zc 2 J (A4 J (fun g9=>?_) (fun g9=>?_))
         ·try simp at g9
          have hE:Ag7 (B6 s) p=({ set:=F1 [H7 (B6 s) p] },(p.go 1).fail p.i 4):=by unfold Ag7;dsimp only;rw [Ek0 (by omega),Ek0 (by omega),Ek0 (by omega),Ek0 (by omega),Ek0 (by omega),Ek0 (by omega),Ek0 (by omega),Ek0 (by omega),Ek1 g9]
          refine Qb (Z 2 J (Fa D9 J (Z 1 J (Ca Al3 J (X6 s (p.go 1) sl b p.i 4 _ ‹_›) ?_))));rintro _ w22 ⟨rfl,hx22,hR'⟩;clear hR;have hR:=hR';clear hR';refine Qc (Qd (Z 1 J (B5 J (B7 Al4 Tryz.underlying44 zr5 J J J (by rfl)) ?_)));intro b23 w23 hb23 hs23 hx23 hB23;refine Ca W4 J (W3 _ _ _ _ _ ‹_› (by omega) (by omega)) ?_;rintro _ w24 ⟨rfl,hx24⟩;have hB1:=hB1.q ((hx22.j hx23).j hx24) (by simp<;>omega);refine C9 J (B1 Z7 Bb3 J (by rfl)) ?_;refine Pe Z0 J ‹_› J J ?_;intro w25 hs25 hx25 hB1;have hC:=hC.step (((hx22.j hx23).j hx24).j hx25) (by simp<;>omega);have hR:=hR.q ((hx23.j hx24).j hx25) (by simp<;>omega);refine Qc (A6 (D5 J J (A5 Y4 ‹_› J J) ?_));exact ⟨by rw [hE]<;>rfl,hC,by rw [hE];exact hR⟩
         ·try simp at g9
          have hE:Ag7 (B6 s) p=({ set:=F1 [H7 (B6 s) p] },p.go 1):=by unfold Ag7;dsimp only;rw [Ek0 (by omega),Ek0 (by omega),Ek0 (by omega),Ek0 (by omega),Ek0 (by omega),Ek0 (by omega),Ek0 (by omega),Ek0 (by omega),Ek0 (by omega)]
          refine A7 (Qd (Z 1 J (B5 J (B7 Al4 Tryz.underlying44 zr5 J J J (by rfl)) ?_)));intro b26 w26 hb26 hs26 hx26 hB26;refine Ca W4 J (W3 _ _ _ _ _ ‹_› (by omega) (by omega)) ?_;rintro _ w27 ⟨rfl,hx27⟩;have hB1:=hB1.u (hx26.s0 hx27);refine C9 J (B1 Z7 Bb3 J (by rfl)) ?_;refine Pe Z0 J ‹_› J J ?_;intro w28 hs28 hx28 hB1;have hC:=hC.step ((hx26.j hx27).j hx28) (by simp<;>omega);have hR:=hR.q ((hx26.j hx27).j hx28) (by simp<;>omega);refine Qc (A6 (D5 J J (A5 Y4 ‹_› J J) ?_));exact ⟨by rw [hE]<;>rfl,hC,by rw [hE];exact hR⟩
theorem H8 {P:Program} {n:Nat} {ops:Array Oper} {S:World→Prop} {N:Env→World→Prop} {B:Nat→Env→World→Prop} {R:Env→World→Prop} {e:Env} {w:World} {rest:List (Nat × Oper)} {op:Op} {t:TypeId} {p:String} {af:Array Edge} {b:Nat} {cs:List Value} {τ:TypeId} (hy:Puts P n e ⟨none,op,t,p,af,none⟩ w b cs τ)
  (h:∀ w',w'.heap.size=w.heap.size→Chg [b] w w'→Blk w' b cs τ→S w'∧EP P n ops S N B R rest e w'):EP P n ops S N B R ((1,⟨none,op,t,p,af,none⟩)::rest) e w:=by
 obtain ⟨w',hr,h2,h3,h4⟩:=hy;exact EP.s1 hr (h w' h3 h2 h4).1 (h w' h3 h2 h4).2
theorem Own.blk {w:World} {lo:Nat} {el:TypeId} {sz n c:Nat} {A:Option Addr} {cs:List Value} (h:Own w lo el sz A n c cs):∀ x∈F7 A,lo≤x∧x<w.heap.size:=by
 intro x hx
 rcases h.form with ⟨rfl,_⟩|⟨g,cur,rfl,hg,hb,_⟩
 ·cases hx
 ·simp [F7] at hx;subst hx;exact ⟨hg,hb.lt⟩
def Ac1 (l:List Tok):List Value:=l.flatMap Tok.cells
theorem Ch9 (l:List Tok) (t:Tok):Ac1 (l++[t])=Ac1 l++t.cells:=by simp [Ac1]
theorem By3 (t:Tok):t.cells.length=10:=by simp [Tok.cells,C4]
def Tok.at (t:Tok) (a b:Int):Tok:={ t with src:=a,to:=b }
theorem tok_at (t:Tok) (a b:Int):(t.at a b).cells=[.int .i64 t.kind,.int .i64 a,.int .i64 b,.int .u64 (wd t.set 0),.int .u64 (wd t.set 1),.int .u64 (wd t.set 2),.int .u64 (wd t.set 3),.int .i64 t.min,.int .i64 t.max,.bool t.lazy]:=rfl
theorem scan_c (s:ByteArray) (w:World) (hL:Laid w):Calls P 124 #[.string s] w (Ret fun v w'=>∃ A c,v= .tuple #[.slice A (R7 (B6 s)).1.length c,.int .i64 ((R7 (B6 s)).2.1:Nat),.int .i64 (R7 (B6 s)).2.2]∧Chg [] w w'∧Rd (fun x=>w.heap.size≤x) w' 10 A (R7 (B6 s)).1.length (Ac1 (R7 (B6 s)).1)):=by
 have hC:=A8 [] w;have hle:(B6 s).length=s.size:=E5 s
 try have hz4:=hL.sz
 refine D4 Tryz.func124 J J (Qd (Zc 3 J (Qa (Qd (Z 1 J (C9 J (E9 Tryz.underlying9 J) (Zc 1 J (A4 J (fun g1=>?_) (fun g1=>?_)))))))))
 ·try simp at g1
  refine Qd (Zc 3 J (A6 (O9 J J J J ?_)));have hE:R7 (B6 s)=([],0,3):=by unfold R7;rw [Ek1 (by omega)]
  rw [hE];exact ⟨none,0,rfl,hC,Rd.nil _ _ _ _⟩
 ·try simp at g1
  have hE:R7 (B6 s)=Ar6 (B6 s) ((B6 s).length+1) ⟨0,0⟩ []:=by unfold R7;rw [Ek0 (by omega)]
  generalize R7 (B6 s)=r at*;refine A7 (Qd (Z 1 J (C9 J (B1 zr237 pl237 J (by rfl)) ?_)));refine C9 J (B1 zr239 pl239 J (by rfl)) ?_;refine B5 J (E1 J J) ?_;intro b1 w1 hb1 hs1 hx1 hB1;have hC:=hC.s0 hx1;have hL:=hL.u hx1
  refine Zc 1 J (Qa (B2 (D8 (σ:=Nat × Ps × List Tok × Option Addr × Nat) (fun (f,q,l,A,c)=>[(0,.string s),(5,.pointer (some ⟨b1,0,none⟩))]) (fun (f,q,l,A,c) wr=>Chg [] w wr∧Laid wr∧Blk wr b1 (rdC s q (.slice A l.length c)) 239∧Own wr (b1+1) 205 10 A l.length c (Ac1 l)∧r=Ar6 (B6 s) f q l∧q.i≤(B6 s).length∧(B6 s).length<q.i+f∧q.e=0∧l.length≤q.i) (fun (f,q,l,A,c) wr=>f) ((B6 s).length+1,⟨0,0⟩,[],none,0) (sb J) ?_ ?_)))
  ·exact ⟨hC,hL,hB1,Own.nil _ _ _ _,hE,El0 _,by show _<0+_;omega,rfl,El1 _⟩
  rintro ⟨f,q,l,A,c⟩ w9 ⟨hC,hL,hB1,hO,hr,hqi,hfu,hqe,hlq⟩;have hOb:=hO.blk
  try have hlB1:=hB1.lt
  refine Qa (Qd (Z 2 J (Fa D9 J (Fa G7 J (Lb o3 J ‹_› (by rfl) ?_)))))
  refine Z 1 J (C9 J (E9 Tryz.underlying9 J) (Zc 1 J (A4 J (fun g2=>?_) (fun g2=>?_))))
  ·try simp at g2
   obtain ⟨f,rfl⟩:∃ g,f=g+1:=⟨f - 1,by omega⟩
   have hcl:Ar6 (B6 s) (f+1) q l=if (Ag7 (B6 s) q).2.e≠0 then ([],(Ag7 (B6 s) q).2.i,(Ag7 (B6 s) q).2.e) else Ar6 (B6 s) f (Ag7 (B6 s) q).2 (l++[(Ag7 (B6 s) q).1.at q.i (Ag7 (B6 s) q).2.i]):=by
    show (if q.i<(B6 s).length then _ else _)=_;rw [Ek1 (by omega)]
    rfl
   have hf:=Bk1 (L:=B6 s) (p:=q) (by omega);refine A7 (B2 (Qd (Z 2 J (Fa D9 J (Fa G7 J (Lb o3 J ‹_› (by rfl) ?_))))));refine Zc 1 J (Qd (Z 1 J (Ca fb147 J (one_c s q _ b1 _ (by omega) (by omega) (by omega) ‹_› ‹_›) ?_)));rintro _ w2 ⟨rfl,hx2,hB1'⟩;have hz2:=hx2.size;have hO:=hO.q hx2 (by intro x hx;simp at hx;left;omega);clear hB1;have hB1:=hB1';clear hB1';refine B5 J (B8 Z7 J) ?_;intro b3 w3 hb3 hs3 hx3 hB3;have hO:=hO.u hx3;refine Pe Z0 J ‹_› J J ?_;intro w4 hs4 hx4 hB3;have hz4:=hx4.size;have hC:=hC.step ((hx2.j hx3).j hx4) (by simp<;>omega);have hL:=hL.q ((hx2.j hx3).j hx4) (by simp<;>omega);have hB1:=hB1.q (hx3.j hx4) (by simp<;>omega);have hO:=hO.q hx4 (by intro x hx;have hx:=Ek3.1 hx;right;intro h;have:=hOb x (by rw [h];exact Ek3.2 J);omega);refine Qc (Qa (Qd (Z 2 J (Fa D9 J (Ca Bm7 J (Bo8 s _ _ b1 _ ‹_›) ?_)))));rintro _ _ ⟨rfl,rfl⟩
   refine Qc (A4 J (fun g3=>?_) (fun g3=>?_))
   ·try simp at g3
    refine Qa (C8 (S:=[]) 12 [(0,0),(0,1),(0,2),(0,3),(0,4),(0,5),(0,6),(0,7),(0,8),(0,9),(0,10),(0,11),(2,12)] mo (by kernel_rfl) ?_);intro w6 hx6 hh6;have hC:=hC.s0 hx6;have hB1:=hB1.u hx6;refine Z 2 J (Fa D9 J (Fa G7 J (D6 J (B3 o3 J ‹_› (by simp;done) (by rfl)) ?_)));refine Z 2 J (Fa D9 J (Fa Cc9 J (D6 J (B3 o32 J ‹_› (by simp;done) (by rfl)) ?_)));refine Zc 3 J (A6 (O9 J J J J ?_));rw [hr,hcl,Ek1 g3];exact ⟨none,0,rfl,hC,Rd.nil _ _ _ _⟩
   ·try simp at g3
    refine A7 (Qa (C8 (S:=[b3]) 8 [(0,0),(0,1),(0,2),(0,3),(0,4),(0,5),(0,6),(1,7),(2,8),(2,9)] mo (by kernel_rfl) ?_));intro w7 hx7 hh7;have hB1:=hB1.u hx7;have hO:=hO.u hx7;have hB3:=hB3.u hx7;have hCS7:=A8 ([b3]) w7;have hbn:10*8*(l.length+1)≤140737488355328:=by omega
    refine Z 3 J (Fa D9 J (Fa G7 J (D6 J (B3 o3 J ‹_› (by simp;omega) (by rfl)) ?_)));refine Fa Ao6 J (H8 (G3 sz3 J J ‹_› J J J J (by rfl)) ?_);intro w8 hs8 hx8 hB3;have hO:=hO.q hx8 (by intro x hx;have hx:=Ek3.1 hx;right;intro h;have:=hOb x (by rw [h];exact Ek3.2 J);omega);have hCS7:=hCS7.step hx8 (by simp<;>omega);refine ⟨hCS7,?_⟩;refine Fa Cd3 J (Pe sz3 J ‹_› J J ?_);intro w9 hs9 hx9 hB3;have hO:=hO.q hx9 (by intro x hx;have hx:=Ek3.1 hx;right;intro h;have:=hOb x (by rw [h];exact Ek3.2 J);omega);refine Qc (C8 (S:=F7 A) 8 [(0,0),(0,1),(0,2),(0,3),(0,4),(0,5),(1,6),(1,7),(2,8),(2,9),(2,10)] mo (by kernel_rfl) ?_);intro w10 hx10 hh10;have hB1:=hB1.q ((hx8.j hx9).j hx10) (by simp<;>omega);have hB3:=hB3.u hx10;have hCS10:=A8 (F7 A) w10;refine Z 3 J (Fa Cc8 J (D6 J (B3 o195 J ‹_› (by intro h;have:=hOb _ h;omega) (by rfl)) ?_));refine D6 J (C1 Y4 J ‹_› (by intro h;have:=hOb _ h;omega) J J) ?_;refine E2 J (B7 sl195 Tryz.underlying195 Z7 J J J (by rfl)) ?_;intro b11 w11 hb11 hs11 hx11 hB11;have hC:=hC.step ((((hx7.j hx8).j hx9).j hx10).j hx11) (by simp<;>omega);have hL:=hL.q ((((hx7.j hx8).j hx9).j hx10).j hx11) (by simp<;>omega);have hB1:=hB1.u hx11;have hO:=hO.u (hx10.s0 hx11);have hCS10:=hCS10.s0 hx11;refine ⟨hCS10,?_⟩;refine Ab7 J el195 J J hO (Blk.rd (F:=fun _=>True) ‹_› J trivial) (by rfl) (by omega) (by omega) ?_;intro A' c' w12 hO12 hx12 hA';have hC:=hC.step hx12 (by intro x h;have:=hOb x h;exact .inr (by omega));have hL:=hL.q hx12 (by intro x h;have:=hOb x h;first|omega|exact .inr (by omega));have hB1:=hB1.q hx12 (by intro h;have:=hOb _ h;omega);have hCS10:=hCS10.step hx12 (by exact fun x h=>.inl h)
    replace hO:=hO12
    refine ⟨hCS10,?_⟩;refine Z 1 J (Fa Cc8 J (Pe sz195 J ‹_› J J ?_));intro w13 hs13 hx13 hB1;have hC:=hC.step hx13 (by simp<;>omega);have hL:=hL.q hx13 (by simp;omega);have hO:=hO.q hx13 (by intro x hx;simp at hx;left;omega);refine Qc ⟨(f,(Ag7 (B6 s) q).2,l++[(Ag7 (B6 s) q).1.at q.i (Ag7 (B6 s) q).2.i],A',c'),sb J,?_,?_⟩;have hll:(l++[(Ag7 (B6 s) q).1.at q.i (Ag7 (B6 s) q).2.i]).length=l.length+1:=by simp
    have ha:=hf.adv (by simpa using g3);refine ⟨hC,hL,by rw [hll];exact hB1,by rw [hll,Ch9,tok_at];exact hO,by rw [hr,hcl,Ek0 (by simpa using g3)],hf.le,by omega,by simpa using g3,by omega⟩;exact Er6 f
  ·try simp at g2
   have hcl:r=(l,l.length,0):=by
    rw [hr]
    cases f with
    |zero=>rfl
    |succ f=>unfold Ar6;rw [Ek0 (by omega)]
   refine Xb (Qa (C8 (S:=[]) 10 [(0,0),(0,1),(0,2),(0,3),(0,4),(0,5),(0,6),(0,7),(0,8),(0,9),(2,10),(2,11)] mo (by kernel_rfl) ?_));intro w14 hx14 hh14;have hC:=hC.s0 hx14;have hB1:=hB1.u hx14;have hO:=hO.u hx14;refine Z 2 J (Fa Cc8 J (D6 J (B3 o195 J ‹_› (by simp;done) (by rfl)) ?_));refine Z 2 J (Fa Cc8 J (D6 J (B3 o195 J ‹_› (by simp;done) (by rfl)) ?_));refine Ln Tryz.underlying195 J (Zc 3 J (A6 (O9 J J J J ?_)));rw [hcl];exact ⟨A,c,rfl,hC,hO.rd (fun x h1 _=>by omega)⟩
inductive Syn where
 |node (kind:Int) (set:Nat) (mn mx:Int) (lz:Bool) (l:List Syn) (a b:Int)
def Syn.kind:Syn→Int| .node k _ _ _ _ _ _ _=>k
def Syn.set:Syn→Nat| .node _ s _ _ _ _ _ _=>s
def Syn.mn:Syn→Int| .node _ _ m _ _ _ _ _=>m
def Syn.mx:Syn→Int| .node _ _ _ m _ _ _ _=>m
def Syn.lz:Syn→Bool| .node _ _ _ _ z _ _ _=>z
def Syn.l:Syn→List Syn| .node _ _ _ _ _ l _ _=>l
def Syn.a:Syn→Int| .node _ _ _ _ _ _ a _=>a
def Syn.b:Syn→Int| .node _ _ _ _ _ _ _ b=>b
instance:Inhabited Syn:=⟨.node 0 0 0 0 false [] 0 0⟩
structure Pp where
 next:Nat
 deep:Nat
 pl:Int
 e:Int
def Pp.fail (p:Pp) (a e:Int):Pp:=if p.e=0 then { p with pl:=a,e:=e } else p
def Pp.adv (p:Pp):Pp:={ p with next:=p.next+1 }
def pkQ (T:List Tok) (en:Nat) (p:Pp):Tok:=if p.next<T.length then T.getD p.next {} else { src:=en,to:=en }
def okQ (T:List Tok) (p:Pp):Bool:=decide (p.next<T.length)
def isQ (T:List Tok) (en:Nat) (p:Pp) (k:Int):Bool:=okQ T p && decide ((pkQ T en p).kind=k)
def Dn5 (T:List Tok) (p:Pp):Int:=(T.getD (p.next - 1) {}).to
def Ay1 (k:Int) (l:List Syn):Syn:=match l with
 |[x]=>x
 |l=>.node k 0 0 0 false l (l.getD 0 default).a (l.getD (l.length - 1) default).b
def W8 (p:Pp) (a:Int) (l:List Syn):Syn:=if p.e≠0∨l.length=0 then .node 0 0 0 0 false [] a a else Ay1 4 l
def Al1 (T:List Tok) (en:Nat) (p:Pp):Bool:=decide (p.e=0) && okQ T p && !decide ((pkQ T en p).kind=4) && !decide ((pkQ T en p).kind=3)
mutual
def Y3 (T:List Tok) (en:Nat):Nat→Pp→Syn × Pp
 |0,p=>(default,p)
 |f+1,p=>altL T en f (Aq9 T en f p).2 [(Aq9 T en f p).1]
def altL (T:List Tok) (en:Nat):Nat→Pp→List Syn→Syn × Pp
 |0,p,l=>(Ay1 5 l,p)
 |f+1,p,l=>if p.e=0∧isQ T en p 4 then altL T en f (Aq9 T en f p.adv).2 (l++[(Aq9 T en f p.adv).1]) else (Ay1 5 l,p)
def Aq9 (T:List Tok) (en:Nat):Nat→Pp→Syn × Pp
 |0,p=>(default,p)
 |f+1,p=>catL T en f p (pkQ T en p).src []
def catL (T:List Tok) (en:Nat):Nat→Pp→Int→List Syn→Syn × Pp
 |0,p,a,l=>(W8 p a l,p)
 |f+1,p,a,l=>if Al1 T en p then catL T en f (Y0 T en f p (pkQ T en p)).2 a (l++[(Y0 T en f p (pkQ T en p)).1]) else (W8 p a l,p)
def Y0 (T:List Tok) (en:Nat):Nat→Pp→Tok→Syn × Pp
 |0,p,x=>(default,p)
 |f+1,p,x=>
  let m:Syn × Pp:=if x.kind=0 then (.node 1 x.set 0 0 false [] x.src x.to,p.adv) else if x.kind=1∨x.kind=2 then M6 T en f p x else (default,p.fail x.src 4)
  if m.2.e≠0∨isQ T en m.2 5=false then m else (.node 6 0 (pkQ T en m.2).min (pkQ T en m.2).max (pkQ T en m.2).lazy [m.1] x.src (pkQ T en m.2).to,m.2.adv)
def M6 (T:List Tok) (en:Nat):Nat→Pp→Tok→Syn × Pp
 |0,p,x=>(default,p)
 |f+1,p,x=>
  if 200≤p.deep then (default,p.fail x.src 3)
  else
   let c:=Y3 T en f { p with deep:=p.deep+1,next:=p.next+1 }
   let q:Pp:={ c.2 with deep:=c.2.deep - 1 }
   if q.e≠0 then (default,q)
   else if isQ T en q 3=false then (default,q.fail en 4)
   else (.node (if x.kind=2 then 3 else 2) 0 0 0 false [c.1] x.src (Dn5 T q.adv),q.adv)
end
def left (T:List Tok) (p:Pp):Nat:=T.length - p.next
def Ck5 (T:List Tok) (en:Nat):Syn × Int × Int:=
 let r:=Y3 T en (5*T.length+5) ⟨0,0,0,0⟩
 let q:=if okQ T r.2 then r.2.fail (pkQ T en r.2).src 4 else r.2
 if q.e≠0 then (default,q.pl,q.e) else (r.1,0,0)
def M5 (L:List Nat):Syn × Int × Int:=
 let t:=R7 L
 if t.2.2≠0 then (default,t.2.1,t.2.2) else Ck5 t.1 L.length
def FR (lo hi:Nat) (T:List Nat) (x:Nat):Prop:=lo≤x∧x<hi∧x∉T
def Bk3 (k:Int) (s:Nat) (mn mx:Int) (lz:Bool) (sl:Value) (a b:Int):List Value:=
 [.int .i64 k]++C4 s++[.int .i64 mn,.int .i64 mx,.bool lz,sl,.int .i64 a,.int .i64 b]
mutual
def IsSyn (F:Nat→Prop) (w:World):Syn→Value→Prop
 | .node k s mn mx lz l a b,v=>∃ p A c vs,v= .pointer (some ⟨p,0,none⟩)∧F p∧Blk w p (Bk3 k s mn mx lz (.slice A l.length c) a b) 254∧Rd F w 1 A l.length vs∧IsSyns F w l vs
def IsSyns (F:Nat→Prop) (w:World):List Syn→List Value→Prop
 |[],vs=>vs=[]
 |t::r,vs=>∃ v vr,vs=v::vr∧IsSyn F w t v∧IsSyns F w r vr
end
mutual
theorem IsSyn.map {F F':Nat→Prop} {w w':World} (hB:∀ p cs τ,F p→Blk w p cs τ→F' p∧Blk w' p cs τ) (hR:∀ A n vs,Rd F w 1 A n vs→Rd F' w' 1 A n vs):∀ (t:Syn) (v:Value),IsSyn F w t v→IsSyn F' w' t v
 | .node k s mn mx lz l a b,v,h=>by
  obtain ⟨p,A,c,vs,h1,h2,h3,h4,h5⟩:=h;exact ⟨p,A,c,vs,h1,(hB _ _ _ h2 h3).1,(hB _ _ _ h2 h3).2,hR _ _ _ h4,IsSyns.map hB hR l vs h5⟩
theorem IsSyns.map {F F':Nat→Prop} {w w':World} (hB:∀ p cs τ,F p→Blk w p cs τ→F' p∧Blk w' p cs τ) (hR:∀ A n vs,Rd F w 1 A n vs→Rd F' w' 1 A n vs):∀ (l:List Syn) (vs:List Value),IsSyns F w l vs→IsSyns F' w' l vs
 |[],vs,h=>h
 |t::r,vs,h=>by
  obtain ⟨v,vr,h1,h2,h3⟩:=h;exact ⟨v,vr,h1,IsSyn.map hB hR t v h2,IsSyns.map hB hR r vr h3⟩
end
theorem IsSyn.q {F:Nat→Prop} {w w':World} {S:List Nat} {t:Syn} {v:Value} (h:IsSyn F w t v) (k:Chg S w w') (hS:∀ b∈S,¬ F b):IsSyn F w' t v:=
 IsSyn.map (fun p cs τ hp hb=>⟨hp,hb.q k (fun hm=>hS p hm hp)⟩) (fun A n vs hr=>hr.q k hS) t v h
theorem IsSyn.u {F:Nat→Prop} {w w':World} {t:Syn} {v:Value} (h:IsSyn F w t v) (k:Chg [] w w'):IsSyn F w' t v:=h.q k (fun b hb=>by cases hb)
theorem IsSyn.mono {F F':Nat→Prop} {w:World} {t:Syn} {v:Value} (h:IsSyn F w t v) (hF:∀ b,F b→b<w.heap.size→F' b):IsSyn F' w t v:=
 IsSyn.map (fun p cs τ hp hb=>⟨hF p hp hb.lt,hb⟩) (fun A n vs hr=>hr.mono hF) t v h
theorem IsSyns.q {F:Nat→Prop} {w w':World} {S:List Nat} {t:List Syn} {v:List Value} (h:IsSyns F w t v) (k:Chg S w w') (hS:∀ b∈S,¬ F b):IsSyns F w' t v:=
 IsSyns.map (fun p cs τ hp hb=>⟨hp,hb.q k (fun hm=>hS p hm hp)⟩) (fun A n vs hr=>hr.q k hS) t v h
theorem IsSyns.u {F:Nat→Prop} {w w':World} {t:List Syn} {v:List Value} (h:IsSyns F w t v) (k:Chg [] w w'):IsSyns F w' t v:=h.q k (fun b hb=>by cases hb)
theorem IsSyns.mono {F F':Nat→Prop} {w:World} {t:List Syn} {v:List Value} (h:IsSyns F w t v) (hF:∀ b,F b→b<w.heap.size→F' b):IsSyns F' w t v:=
 IsSyns.map (fun p cs τ hp hb=>⟨hF p hp hb.lt,hb⟩) (fun A n vs hr=>hr.mono hF) t v h
theorem IsSyns.length {F:Nat→Prop} {w:World}:∀ {l:List Syn} {vs:List Value},IsSyns F w l vs→vs.length=l.length
 |[],vs,h=>by rw [show vs=[] from h];rfl
 |t::r,vs,h=>by obtain ⟨v,vr,rfl,_,h3⟩:=h;simp [h3.length]
theorem IsSyns.append {F:Nat→Prop} {w:World} {t:Syn} {v:Value} (ht:IsSyn F w t v):∀ {l:List Syn} {vs:List Value},IsSyns F w l vs→IsSyns F w (l++[t]) (vs++[v])
 |[],vs,h=>by rw [show vs=[] from h];exact ⟨v,[],rfl,ht,rfl⟩
 |t'::r,vs,h=>by obtain ⟨v',vr,rfl,h2,h3⟩:=h;exact ⟨v',vr++[v],rfl,h2,IsSyns.append ht h3⟩
theorem IsSyns.get {F:Nat→Prop} {w:World}:∀ {l:List Syn} {vs:List Value},IsSyns F w l vs→∀ k,k<l.length→∃ v,vs[k]?=some v∧IsSyn F w (l.getD k default) v
 |[],vs,h,k,hk=>by simp at hk
 |t::r,vs,h,k,hk=>by
  obtain ⟨v,vr,rfl,h2,h3⟩:=h
  cases k with
  |zero=>exact ⟨v,rfl,h2⟩
  |succ k=>obtain ⟨u,h4,h5⟩:=IsSyns.get h3 k (by simpa using hk);exact ⟨u,by simpa using h4,by simpa using h5⟩
abbrev psC (A:Option Addr) (n c en:Nat) (p:Pp):List Value:=[.slice A n c,.int .i64 (p.next:Int),.int .i64 (en:Int),.int .i64 (p.deep:Int),.int .i64 p.pl,.int .i64 p.e]
theorem Ch8:∀ (l:List Tok) (k j:Nat),k<l.length→j<10→(Ac1 l)[k*10+j]?=(l.getD k {}).cells[j]?
 |[],k,j,hk,hj=>by simp at hk
 |t::l,0,j,hk,hj=>by
  simp only [Ac1,Eo0,Eu9,El6];rw [Em6 (by rw [By3];exact hj)];simp
 |t::l,k+1,j,hk,hj=>by
  simp only [Ac1,Eo0];rw [Em2 (by rw [By3];omega),By3,show (k+1)*10+j - 10=k*10+j from by omega];exact Ch8 l k j (by simpa using hk) hj
theorem tok_at0 (a:Int):Tok.cells { src:=a,to:=a }=[.int .i64 0,.int .i64 a,.int .i64 a,.int .u64 0,.int .u64 0,.int .u64 0,.int .u64 0,.int .i64 0,.int .i64 0,.bool false]:=by
 simp [Tok.cells,C6]
theorem tokE (t:Tok):t.cells=[.int .i64 t.kind,.int .i64 t.src,.int .i64 t.to,.int .u64 (wd t.set 0),.int .u64 (wd t.set 1),.int .u64 (wd t.set 2),.int .u64 (wd t.set 3),.int .i64 t.min,.int .i64 t.max,.bool t.lazy]:=rfl
theorem rd_tok {F:Nat→Prop} {w:World} {g off k:Nat} {T:List Tok} (hr:Rd F w 10 (some ⟨g,off,none⟩) T.length (Ac1 T)) (hk:k<T.length):
  g<w.heap.size∧∀ (j:Nat) (v:Value),(T.getD k {}).cells[j]?=some v→w.cell? ⟨g,off+k*10+j,none⟩=some v:=by
 obtain ⟨g',off',h,_,hlt,hc⟩:=hr.at_ (by omega);injection h with h;injection h with h1 h2;subst h1;subst h2
 refine ⟨hlt,fun j v hj=>?_⟩;have hj10:j<10:=by have:=(Em5.1 hj).1;rw [By3] at this;exact this
 rw [Em3];exact hc _ _ (by rw [Ch8 T k j hk hj10];exact hj)
theorem rd_to {F:Nat→Prop} {w:World} {g off:Nat} {T:List Tok} {p:Pp} (hr:Rd F w 10 (some ⟨g,off,none⟩) T.length (Ac1 T)) (hn:0<p.next∧p.next≤T.length):
  w.cell? ⟨g,off+((p.next:Int) - 1).toNat*10+2,none⟩=some (.int .i64 (Dn5 T p)):=by
 have h:=(rd_tok hr (k:=p.next - 1) (by omega)).2 2 (.int .i64 (Dn5 T p)) J;rw [show ((p.next:Int) - 1).toNat=p.next - 1 from by omega];exact h
theorem Dx2 (T:List Tok) (F:Nat→Prop) (A:Option Addr) (c en:Nat) (p:Pp) (b:Nat) (w:World) (hT:T.length≤1048576) (hF:∀ b,F b→b<w.heap.size) (hr:Rd F w 10 A T.length (Ac1 T)) (hR:Blk w b (psC A T.length c en p) 202):Calls P 126 #[.pointer (some ⟨b,0,none⟩)] w (Ret fun v w'=>v= .tuple #[.agg (pkQ T en p).cells.toArray,.bool (okQ T p)]∧Chg [] w w'):=by
 have hC:=A8 [] w;refine D4 Tryz.func126 J J (Qd (B5 J (B8 Z7 J) ?_));intro b1 w1 hb1 hs1 hx1 hB1;refine Zc 1 J (Qa (Qa (C8 (S:=[]) 9 [(0,0),(0,1),(0,2),(0,3),(0,4),(0,5),(0,6),(0,7),(0,8),(2,9)] mo (by kernel_rfl) ?_)));intro w2 hx2 hh2;have hC:=hC.s0 (hx1.s0 hx2);have hR:=hR.u (hx1.s0 hx2);have hr:=hr.u (hx1.s0 hx2);have hB1:=hB1.u hx2;refine Z 2 J (Fa Y2 J (D6 J (B3 o3 J ‹_› (by simp;done) (by rfl)) ?_));refine Z 2 J (Fa Cw9 J (D6 J (B3 o195 J ‹_› (by simp;done) (by rfl)) ?_))
 refine Ln Tryz.underlying195 J (Zc 1 J (A4 J (fun h1=>?_) (fun h1=>?_)))
 ·try simp at h1
  have hp:pkQ T en p={ src:=en,to:=en }:=by unfold pkQ;rw [Ek0 (by omega)]
  refine Qa (C8 (S:=[]) 8 [(0,0),(0,1),(0,2),(0,3),(0,4),(0,5),(0,6),(0,7),(2,8),(2,9),(2,10)] mo (by kernel_rfl) ?_);intro w3 hx3 hh3;have hR:=hR.u hx3;have hB1:=hB1.u hx3;refine Z 2 J (Fa Cw8 J (D6 J (B3 o3 J ‹_› (by simp;done) (by rfl)) ?_));refine Z 2 J (Fa Cw8 J (D6 J (B3 o3 J ‹_› (by simp;done) (by rfl)) ?_));refine C9 J (B1 Z7 Bb3 J (by rfl)) ?_;refine Pe Z0 J ‹_› J J ?_;intro w4 hs4 hx4 hB1;have hC:=hC.step (hx3.j hx4) (by simp<;>omega);refine Zc 1 J (A6 (I7 J J (A5 Y4 ‹_› J J) J ?_));exact ⟨by rw [hp,tok_at0,show okQ T p=false from El3 (by omega)]<;>rfl,hC⟩
 ·try simp at h1
  have hk:p.next<T.length:=by omega
  have hp:pkQ T en p=T.getD p.next {}:=by unfold pkQ;rw [Ek1 hk]
  obtain ⟨g,off,rfl,_,_,_⟩:=hr.at_ (by omega);refine A7 (Qa (C8 (S:=[]) 8 [(0,0),(0,1),(0,2),(0,3),(0,4),(0,5),(0,6),(0,7),(2,8),(2,9),(2,10),(2,11)] mo (by kernel_rfl) ?_));intro w5 hx5 hh5;have hR:=hR.u hx5;have hr:=hr.u hx5;have hB1:=hB1.u hx5;refine Z 2 J (Fa Cw9 J (D6 J (B3 o195 J ‹_› (by simp;done) (by rfl)) ?_));refine Z 2 J (Fa Y2 J (D6 J (B3 o3 J ‹_› (by simp;done) (by rfl)) ?_));refine C9 J (C2 sl195 J J (by omega) (by omega)) (C9 J (E8 (vs:=(T.getD p.next {}).cells) Y4 J (F4 _) (rd_tok hr hk).2 J) (Pe Z0 J ‹_› J J ?_));intro w6 hs6 hx6 hB1;have hC:=hC.step (hx5.j hx6) (by simp<;>omega);refine Zc 1 J (A6 (I7 J J (A5 Y4 ‹_› J J) J ?_));exact ⟨by rw [hp,show okQ T p=true from El2 hk,tokE]<;>rfl,hC⟩
theorem isT_c (T:List Tok) (F:Nat→Prop) (A:Option Addr) (c en:Nat) (p:Pp) (b:Nat) (k:Int) (w:World) (hT:T.length≤1048576) (hF:∀ b,F b→b<w.heap.size) (hr:Rd F w 10 A T.length (Ac1 T)) (hR:Blk w b (psC A T.length c en p) 202):Calls P 150 #[.pointer (some ⟨b,0,none⟩),.int .i64 k] w (Ret fun v w'=>v= .bool (isQ T en p k)∧Chg [] w w'):=by
 have hC:=A8 [] w;refine D4 Tryz.func150 J J (Qd (Zc 1 J (Qd (Z 1 J (Ca Ee0 J (Dx2 T F A c en p b _ hT hF ‹_› ‹_›) ?_)))));rintro _ w1 ⟨rfl,hx1⟩;have hz1:=hx1.size;refine Z 3 J (B5 J (B8 Z7 J) ?_);intro b2 w2 hb2 hs2 hx2 hB2;refine Pe Z0 J ‹_› J J ?_;intro w3 hs3 hx3 hB2;have hC:=hC.step ((hx1.j hx2).j hx3) (by simp<;>omega)
 refine Zc 1 J (Qd (Z 2 J (C0 (d:=13) J (fun h1=>?_) (fun h1=>?_))))
 ·try simp at h1
  refine Qu J (Fa Bm2 J (Qu J (Lb o3 J ‹_› (by rfl) ?_)));exact Qu J (Z 1 J (Qu J (Zc 3 J (A6 (B4 J J ⟨H5 (by unfold isQ;rw [h1,Eu5,El4,cmpB_eql,El7]),hC⟩)))))
 ·try simp at h1
  exact Qk J (Qk J (Qk J (Qk J (Zc 2 J (A6 (B4 J J ⟨H5 (by unfold isQ;rw [h1];rfl),hC⟩))))))
theorem atT_c (T:List Tok) (F:Nat→Prop) (A:Option Addr) (c en:Nat) (p:Pp) (b:Nat) (w:World) (hT:T.length≤1048576) (hF:∀ b,F b→b<w.heap.size) (hr:Rd F w 10 A T.length (Ac1 T)) (hR:Blk w b (psC A T.length c en p) 202):Calls P 182 #[.pointer (some ⟨b,0,none⟩)] w (Ret fun v w'=>v= .int .i64 (pkQ T en p).src∧Chg [] w w'):=by
 have hC:=A8 [] w;refine D4 Tryz.func182 J J (Qd (Zc 1 J (Qd (Z 1 J (Ca Ee0 J (Dx2 T F A c en p b _ hT hF ‹_› ‹_›) ?_)))));rintro _ w1 ⟨rfl,hx1⟩;have hz1:=hx1.size;refine Z 3 J (B5 J (B8 Z7 J) ?_);intro b2 w2 hb2 hs2 hx2 hB2;refine Pe Z0 J ‹_› J J ?_;intro w3 hs3 hx3 hB2;have hC:=hC.step ((hx1.j hx2).j hx3) (by simp<;>omega);refine Zc 1 J (Qd (Fa Ao6 J (Lb o3 J ‹_› (by rfl) ?_)));exact Zc 1 J (A6 (B4 J J ⟨rfl,hC⟩))
theorem Eb1 (T:List Tok) (F:Nat→Prop) (A:Option Addr) (c en:Nat) (p:Pp) (b:Nat) (w:World) (hT:T.length≤1048576) (hn:0<p.next∧p.next≤T.length) (hF:∀ b,F b→b<w.heap.size) (hr:Rd F w 10 A T.length (Ac1 T)) (hR:Blk w b (psC A T.length c en p) 202):Calls P 227 #[.pointer (some ⟨b,0,none⟩)] w (Ret fun v w'=>v= .int .i64 (Dn5 T p)∧Chg [] w w'):=by
 have hC:=A8 [] w;obtain ⟨g,off,rfl,_,_,_⟩:=hr.at_ (by omega);refine D4 Tryz.func227 J J (Qd (Zc 1 J (Qa (C8 (S:=[]) 9 [(0,0),(0,1),(0,2),(0,3),(0,4),(0,5),(0,6),(0,7),(0,8),(2,9),(2,10),(2,11),(2,12)] mo (by kernel_rfl) ?_))));intro w1 hx1 hh1;have hC:=hC.s0 hx1;have hR:=hR.u hx1;have hr:=hr.u hx1;refine Z 2 J (Fa Cw9 J (D6 J (B3 o195 J ‹_› (by simp;done) (by rfl)) ?_));refine Z 2 J (Fa Y2 J (D6 J (B3 o3 J ‹_› (by simp;done) (by rfl)) ?_));exact Su J J (by omega) (C9 J (C2 sl195 J J (by omega) (by omega)) (Fa Cd3 J (Lc o3 J (rd_to hr hn) (Zc 1 J (A6 (B4 J J ⟨rfl,hC⟩))))))
theorem Ca0 (A:Option Addr) (n c en:Nat) (p:Pp) (b:Nat) (a e:Int) (w:World) (hR:Blk w b (psC A n c en p) 202):Calls P 127 #[.pointer (some ⟨b,0,none⟩),.int .i64 a,.int .i64 e] w (Ret fun v w'=>v= .tuple #[]∧Chg [b] w w'∧Blk w' b (psC A n c en (p.fail a e)) 202):=by
 have hC:=A8 [b] w;refine D4 Tryz.func127 J J (Qd (Z 2 J (Fa Aj2 J (Lb o32 J ‹_› (by rfl) ?_))))
 refine Zc 1 J (A4 J (fun hc=>?_) (fun hc=>?_))
 ·try simp at hc
  refine Qb (Z 5 J (Fa Ed5 J (Pe sz3 J ‹_› J J ?_)));intro w1 hs1 hx1 hR;refine Z 1 J (Fa Aj2 J (Pe sz32 J ‹_› J J ?_));intro w2 hs2 hx2 hR;have hC:=hC.step (hx1.j hx2) (by simp<;>omega);exact Qc (T5 J ⟨rfl,hC,by unfold Pp.fail;rw [Ek1 hc];exact hR⟩)
 ·try simp at hc
  exact A7 (T5 J ⟨rfl,hC,by unfold Pp.fail;rw [Ek0 hc];exact hR⟩)
theorem Rd.one {F:Nat→Prop} {w:World} {g off n k:Nat} {vs:List Value} {v:Value} (hr:Rd F w 1 (some ⟨g,off,none⟩) n vs) (hv:vs[k]?=some v):g<w.heap.size∧w.cell? ⟨g,off+k,none⟩=some v:=by
 have hk:k<vs.length:=(Em5.1 hv).1;have hl:=hr.len;obtain ⟨g',off',h,_,hlt,hc⟩:=hr.at_ (by omega);injection h with h;injection h with h1 h2;subst h1;subst h2
 exact ⟨hlt,hc _ _ hv⟩
theorem Bt7 (k mn mx:Int) (lz:Bool) (sl:Value) (a b:Int):Bk3 k 0 mn mx lz sl a b=[.int .i64 k,.int .u64 0,.int .u64 0,.int .u64 0,.int .u64 0,.int .i64 mn,.int .i64 mx,.bool lz,sl,.int .i64 a,.int .i64 b]:=by
 simp [Bk3,C6]
theorem IsSyn.span {F:Nat→Prop} {w:World} {t:Syn} {v:Value} (h:IsSyn F w t v):∃ p cs,v= .pointer (some ⟨p,0,none⟩)∧F p∧Blk w p cs 254∧cs[9]?=some (.int .i64 t.a)∧cs[10]?=some (.int .i64 t.b)∧cs[0]?=some (.int .i64 t.kind):=by
 cases t with
 |node k s mn mx lz l a b=>
  obtain ⟨p,A,c,vs,h1,h2,h3,_⟩:=h;exact ⟨p,_,h1,h2,h3,rfl,rfl,rfl⟩
theorem Ea1 {k:Int} {l:List Syn} (h:l.length≠1):Ay1 k l= .node k 0 0 0 false l (l.getD 0 default).a (l.getD (l.length - 1) default).b:=by
 match l,h with
 |[],_=>rfl
 |x::y::r,_=>rfl
theorem many_c (k:Int) (l:List Syn) (vs:List Value) (F:Nat→Prop) (A:Option Addr) (c:Nat) (w:World) (hl:0<l.length) (hl2:l.length≤2000000) (hF:∀ b,F b→b<w.heap.size) (hr:Rd F w 1 A l.length vs) (hI:IsSyns F w l vs):Calls P 151 #[.int .i64 k,.slice A l.length c] w (Ret fun v w'=>Chg [] w w'∧IsSyn (fun x=>F x∨w.heap.size≤x) w' (Ay1 k l) v):=by
 have hC:=A8 [] w;obtain ⟨g,off,rfl,_,_,_⟩:=hr.at_ hl
 refine D4 Tryz.func151 J J (Qd (Zc 1 J (Qa (Qd (Z 1 J (Ln Tryz.underlying241 J (Zc 1 J (A4 J (fun h1=>?_) (fun h1=>?_)))))))))
 ·try simp at h1
  obtain ⟨v0,hv0,hi0⟩:=hI.get 0 hl;refine Qd (Z 1 J (C9 J (B0 Am1 J J (by omega) (by omega)) (Lc Bb4 J (hr.one hv0).2 (Zc 1 J (A6 (B4 J J ⟨hC,?_⟩))))))
  have:Ay1 k l=l.getD 0 default:=by
   match l,h1 with
   |[x],_=>rfl
  rw [this];exact hi0.mono (fun x hx _=>Or.inl hx)
 ·try simp at h1
  obtain ⟨v0,hv0,hi0⟩:=hI.get 0 hl;obtain ⟨v1,hv1,hi1⟩:=hI.get (l.length - 1) (by omega);obtain ⟨p0,cs0,rfl,_,hB0,ha0,_,_⟩:=hi0.span;obtain ⟨p1,cs1,rfl,_,hB1,_,hb1,_⟩:=hi1.span;refine A7 (Qa (C8 (S:=[]) 22 [(0,0),(0,1),(0,2),(0,3),(0,4),(0,5),(0,6),(0,7),(0,8),(0,9),(0,10),(0,11),(0,12),(0,13),(0,14),(0,15),(0,16),(0,17),(0,18),(0,19),(0,20),(1,21),(2,22)] mo (by kernel_rfl) ?_));intro w1 hx1 hh1;have hr:=hr.u hx1;have hB0:=hB0.u hx1;have hB1:=hB1.u hx1;have hCS1:=A8 ([]) w1;refine Z 3 J (D6 J (B0 Am1 J J (by omega) (by omega)) (D6 J (E0 Bb4 J (hr.one hv0).2 (by simp<;>omega)) ?_));refine Z 1 J (Fa Ed0 J (D6 J (E6 X5 J J (by omega) (by omega)) (D6 J (E0 o3 J (by rw [hB0.cell];exact ha0) (by simp<;>omega)) ?_)));refine Z 2 J (Ln Tryz.underlying241 J (Su J J (by omega) (D6 J (B0 Am1 J J (by omega) (by omega)) (D6 J (E0 Bb4 J (show _=_ from by have:=(hr.one hv1).2;rw [show l.length - 1=((l.length:Int) - 1).toNat from by omega] at this;exact this) (by simp<;>omega)) ?_))));refine Z 1 J (Fa Ed0 J (D6 J (E6 X5 J J (by omega) (by omega)) (D6 J (E0 o3 J (by rw [hB1.cell];exact hb1) (by simp<;>omega)) ?_)));refine D6 J (D7 Q5 X5 J (by rfl)) ?_;refine D6 J (B1 Cs0 Cu2 J (by rfl)) ?_;refine E2 J (E1 J J) ?_;intro b2 w2 hb2 hs2 hx2 hB2;have hC:=hC.s0 (hx1.s0 hx2);have hr:=hr.u hx2;have hI:=hI.u (hx1.s0 hx2);have hCS1:=hCS1.s0 hx2;refine ⟨hCS1,?_⟩;refine Zc 1 J (A6 (B4 J J ⟨hC,?_⟩));rw [Ea1 (by omega)];refine ⟨_,some ⟨g,off,none⟩,c,vs,rfl,Or.inr (by omega),?_,hr.mono (fun x hx _=>Or.inl hx),hI.mono (fun x hx _=>Or.inl hx)⟩;rw [Bt7]
  trace_state
  exact hB2
end Go.Clt
section
namespace Go.Clt
open Go
structure GoQ (T:List Tok) (p q:Pp):Prop where
 deep:q.deep=p.deep
 ge:p.next≤q.next
 le:q.next≤T.length
theorem GoQ.refl {T:List Tok} {p:Pp} (h:p.next≤T.length):GoQ T p p:=⟨rfl,El1 _,h⟩
theorem GoQ.trans {T:List Tok} {p q r:Pp} (h:GoQ T p q) (k:GoQ T q r):GoQ T p r:=⟨k.deep.trans h.deep,En6 h.ge k.ge,k.le⟩
theorem GoQ.adv {T:List Tok} {p:Pp} (h:p.next<T.length):GoQ T p p.adv:=⟨rfl,Nat.le_succ _,h⟩
theorem Bt3 {p:Pp} {a e:Int}:(p.fail a e).next=p.next:=by unfold Pp.fail;split<;>rfl
theorem Dl6 {p:Pp} {a e:Int}:(p.fail a e).deep=p.deep:=by unfold Pp.fail;split<;>rfl
theorem Ai0 {p:Pp} {a e:Int} (he:e≠0):(p.fail a e).e≠0:=by unfold Pp.fail;split<;>assumption
theorem GoQ.fail {T:List Tok} {p:Pp} {a e:Int} (h:p.next≤T.length):GoQ T p (p.fail a e):=⟨Dl6,by rw [Bt3];exact El1 _,by rw [Bt3];exact h⟩
theorem Bv0 {T:List Tok} {en:Nat} {p:Pp} {k:Int} (h:isQ T en p k=true):p.next<T.length:=by
 unfold isQ okQ at h;simp at h;exact h.1
theorem Cc2 {T:List Tok} {en:Nat} {p:Pp} (h:Al1 T en p=true):p.e=0∧p.next<T.length:=by
 unfold Al1 okQ at h;simp at h;exact ⟨h.1.1.1,h.1.1.2⟩
structure AllQ (T:List Tok) (en f:Nat):Prop where
 alt:∀ p,p.next≤T.length→GoQ T p (Y3 T en f p).2
 altL:∀ p l,p.next≤T.length→GoQ T p (altL T en f p l).2
 cat:∀ p,p.next≤T.length→GoQ T p (Aq9 T en f p).2
 catL:∀ p a l,p.next≤T.length→GoQ T p (catL T en f p a l).2
 item:∀ p x,p.next<T.length→GoQ T p (Y0 T en f p x).2
 group:∀ p x,p.next<T.length→GoQ T p (M6 T en f p x).2
theorem allQ (T:List Tok) (en:Nat):∀ f,AllQ T en f
 |0=>by
  refine ⟨fun p h=>?_,fun p l h=>?_,fun p h=>?_,fun p a l h=>?_,fun p x h=>?_,fun p x h=>?_⟩
  ·unfold Y3;exact GoQ.refl h
  ·unfold altL;exact GoQ.refl h
  ·unfold Aq9;exact GoQ.refl h
  ·unfold catL;exact GoQ.refl h
  ·unfold Y0;exact GoQ.refl (Nat.le_of_lt h)
  ·unfold M6;exact GoQ.refl (Nat.le_of_lt h)
 |f+1=>by
  have ih:=allQ T en f
  refine ⟨fun p h=>?_,fun p l h=>?_,fun p h=>?_,fun p a l h=>?_,fun p x h=>?_,fun p x h=>?_⟩
  ·unfold Y3;exact (ih.cat p h).trans (ih.altL _ _ (ih.cat p h).le)
  ·unfold altL
   split
   ·rename_i hc
    have h1:=GoQ.adv (Bv0 hc.2);have h2:=ih.cat p.adv h1.le;exact (h1.trans h2).trans (ih.altL _ _ h2.le)
   ·exact GoQ.refl h
  ·unfold Aq9;exact ih.catL _ _ _ h
  ·unfold catL
   split
   ·rename_i hc
    have h2:=ih.item p (pkQ T en p) (Cc2 hc).2;exact h2.trans (ih.catL _ _ _ h2.le)
   ·exact GoQ.refl h
  ·unfold Y0
   have hm:GoQ T p (if x.kind=0 then ((.node 1 x.set 0 0 false [] x.src x.to,p.adv):Syn × Pp) else if x.kind=1∨x.kind=2 then M6 T en f p x else (default,p.fail x.src 4)).2:=by
    split
    ·exact GoQ.adv h
    ·split
     ·exact ih.group p x h
     ·exact GoQ.fail (Nat.le_of_lt h)
   generalize (if x.kind=0 then ((.node 1 x.set 0 0 false [] x.src x.to,p.adv):Syn × Pp) else if x.kind=1∨x.kind=2 then M6 T en f p x else (default,p.fail x.src 4))=m at hm;dsimp only
   split
   ·exact hm
   ·rename_i hc
    have:isQ T en m.2 5=true:=by
     cases hq:isQ T en m.2 5 with
     |true=>rfl
     |false=>exact absurd (Or.inr hq) hc
    exact hm.trans (GoQ.adv (Bv0 this))
  ·unfold M6
   split
   ·exact GoQ.fail (Nat.le_of_lt h)
   ·have h1:=ih.alt { p with deep:=p.deep+1,next:=p.next+1 } h;dsimp only
    have hq:GoQ T p { (Y3 T en f { p with deep:=p.deep+1,next:=p.next+1 }).2 with deep:=(Y3 T en f { p with deep:=p.deep+1,next:=p.next+1 }).2.deep - 1 }:=
     ⟨by have:=h1.deep;simp only at this ⊢;omega,by have:=h1.ge;simp only at this ⊢;omega,h1.le⟩
    generalize Y3 T en f { p with deep:=p.deep+1,next:=p.next+1 }=c at hq h1
    split
    ·exact hq
    ·split
     ·exact hq.trans (GoQ.fail hq.le)
     ·rename_i hn
      have:isQ T en { c.2 with deep:=c.2.deep - 1 } 3=true:=by
       cases hq':isQ T en { c.2 with deep:=c.2.deep - 1 } 3 with
       |true=>rfl
       |false=>exact absurd hq' hn
      exact hq.trans (GoQ.adv (Bv0 this))
theorem group_gt (T:List Tok) (en:Nat) (f:Nat) (p:Pp) (x:Tok) (h:p.next<T.length) (he:(M6 T en (f+1) p x).2.e=0):p.next<(M6 T en (f+1) p x).2.next:=by
 unfold M6 at he ⊢
 split at he
 ·exact absurd he (Ai0 (by decide))
 ·rename_i hd
  rw [Ek0 hd];have h1:=(allQ T en f).alt { p with deep:=p.deep+1,next:=p.next+1 } h;dsimp only at he ⊢;generalize Y3 T en f { p with deep:=p.deep+1,next:=p.next+1 }=c at*;have:=h1.ge;simp only at this
  split at he
  ·rename_i hne;exact absurd he hne
  ·rename_i hne
   rw [Ek0 hne]
   split at he
   ·exact absurd he (Ai0 (by decide))
   ·rename_i h3
    rw [Ek0 h3];show p.next<c.2.next+1;omega
theorem item_gt (T:List Tok) (en:Nat) (f:Nat) (p:Pp) (x:Tok) (h:p.next<T.length) (he:(Y0 T en (f+2) p x).2.e=0):p.next<(Y0 T en (f+2) p x).2.next:=by
 unfold Y0 at he ⊢
 have hm:(if x.kind=0 then ((.node 1 x.set 0 0 false [] x.src x.to,p.adv):Syn × Pp) else if x.kind=1∨x.kind=2 then M6 T en (f+1) p x else (default,p.fail x.src 4)).2.e=0→p.next<(if x.kind=0 then ((.node 1 x.set 0 0 false [] x.src x.to,p.adv):Syn × Pp) else if x.kind=1∨x.kind=2 then M6 T en (f+1) p x else (default,p.fail x.src 4)).2.next:=by
  split
  ·intro _;exact Er6 _
  ·split
   ·exact group_gt T en f p x h
   ·intro he;exact absurd he (Ai0 (by decide))
 generalize (if x.kind=0 then ((.node 1 x.set 0 0 false [] x.src x.to,p.adv):Syn × Pp) else if x.kind=1∨x.kind=2 then M6 T en (f+1) p x else (default,p.fail x.src 4))=m at*;dsimp only at he ⊢
 split at he
 ·rename_i hc;rw [Ek1 hc];exact hm he
 ·rename_i hc
  rw [Ek0 hc];have:m.2.e=0:=he;have:=hm this;show p.next<m.2.next+1;omega
end Go.Clt
end
namespace Go.Clt
open Go Go.RowKit Go.Proofs
def AltC (T:List Tok) (A:Option Addr) (c en f:Nat):Prop:=∀ (p:Pp) (b:Nat) (w:World),5*left T p+5≤f→p.next≤T.length→p.deep≤200→Rd (FR 0 b []) w 10 A T.length (Ac1 T)→Blk w b (psC A T.length c en p) 202→
 Calls P 125 #[.pointer (some ⟨b,0,none⟩)] w (Ret fun v w'=>Chg [b] w w'∧Blk w' b (psC A T.length c en (Y3 T en f p).2) 202∧IsSyn (FR w.heap.size w'.heap.size []) w' (Y3 T en f p).1 v)
def CatC (T:List Tok) (A:Option Addr) (c en f:Nat):Prop:=∀ (p:Pp) (b:Nat) (w:World),5*left T p+4≤f→p.next≤T.length→p.deep≤200→Rd (FR 0 b []) w 10 A T.length (Ac1 T)→Blk w b (psC A T.length c en p) 202→
 Calls P 149 #[.pointer (some ⟨b,0,none⟩)] w (Ret fun v w'=>Chg [b] w w'∧Blk w' b (psC A T.length c en (Aq9 T en f p).2) 202∧IsSyn (FR w.heap.size w'.heap.size []) w' (Aq9 T en f p).1 v)
def ItemC (T:List Tok) (A:Option Addr) (c en f:Nat):Prop:=∀ (p:Pp) (x:Tok) (b:Nat) (w:World),5*left T p+2≤f→p.next<T.length→p.e=0→p.deep≤200→Rd (FR 0 b []) w 10 A T.length (Ac1 T)→Blk w b (psC A T.length c en p) 202→
 Calls P 183 #[.pointer (some ⟨b,0,none⟩),.agg x.cells.toArray] w (Ret fun v w'=>Chg [b] w w'∧Blk w' b (psC A T.length c en (Y0 T en f p x).2) 202∧(∃ ad,v= .pointer ad)∧((Y0 T en f p x).2.e=0→IsSyn (FR w.heap.size w'.heap.size []) w' (Y0 T en f p x).1 v))
def Ej0 (T:List Tok) (A:Option Addr) (c en f:Nat):Prop:=∀ (p:Pp) (x:Tok) (b:Nat) (w:World),5*left T p+1≤f→p.next<T.length→p.e=0→p.deep≤200→Rd (FR 0 b []) w 10 A T.length (Ac1 T)→Blk w b (psC A T.length c en p) 202→
 Calls P 210 #[.pointer (some ⟨b,0,none⟩),.agg x.cells.toArray] w (Ret fun v w'=>Chg [b] w w'∧Blk w' b (psC A T.length c en (M6 T en f p x).2) 202∧(∃ ad,v= .pointer ad)∧((M6 T en f p x).2.e=0→IsSyn (FR w.heap.size w'.heap.size []) w' (M6 T en f p x).1 v))
theorem Cb6 {F:Nat→Prop} {w:World} {bn bs:Nat} {k mn mx a b:Int} {lz:Bool} {t:Syn} {v:Value} {τ:TypeId} (hn:Blk w bn (Bk3 k 0 mn mx lz (.slice (some ⟨bs,0,none⟩) 1 1) a b) 254) (hs:Blk w bs [v] τ) (hI:IsSyn F w t v) (h1:F bn) (h2:F bs):
  IsSyn F w (.node k 0 mn mx lz [t] a b) (.pointer (some ⟨bn,0,none⟩)):=
 ⟨bn,some ⟨bs,0,none⟩,1,[v],rfl,h1,hn,hs.rd (m:=1) J h2,v,[],rfl,hI,rfl⟩
theorem pgroup_c (T:List Tok) (A:Option Addr) (c en f:Nat) (hT:T.length≤1048576) (hA:AltC T A c en f):Ej0 T A c en (f+1):=by
 intro p x b w hf hn he hd hr hR;have hC:=A8 [b] w
 try have hlR:=hR.lt
 refine D4 Tryz.func210 J J (Qd (B5 J (E1 J J) ?_));intro b1 w1 hb1 hs1 hx1 hB1;have hC:=hC.s0 hx1;have hR:=hR.u hx1;have hr:=hr.u hx1;refine Zc 1 J (Qa (Qd (Z 2 J (Fa Bm3 J (Lb o3 J ‹_› (by rfl) ?_)))))
 refine Zc 1 J (A4 J (fun h1=>?_) (fun h1=>?_))
 ·try simp at h1
  have hE:M6 T en (f+1) p x=(default,p.fail x.src 3):=by unfold M6;rw [Ek1 (by omega)]
  refine Qd (Z 1 J (Fa Ao6 J (Lb o3 J ‹_› (by rfl) ?_)));refine Ca fb127 J (Ca0 A T.length c en p b x.src 3 _ ‹_›) ?_;rintro _ w2 ⟨rfl,hx2,hR'⟩;have hC:=hC.step hx2 (by simp;done);clear hR;have hR:=hR';clear hR';refine Qc (Qd (Zc 1 J (A6 (B4 J J ?_))));rw [hE];exact ⟨hC,hR,⟨_,rfl⟩,fun h=>absurd h (Ai0 (by decide))⟩
 ·try simp at h1
  have hd':¬ 200≤p.deep:=by omega
  have hl:left T { p with deep:=p.deep+1,next:=p.next+1 }+1=left T p:=by unfold left;simp only;omega
  have hgo:=(allQ T en f).alt { p with deep:=p.deep+1,next:=p.next+1 } hn;refine A7 (Qd (Z 2 J (Fa Bm3 J (Lb o3 J ‹_› (by rfl) ?_))));refine Ad J J (by omega) (Z 1 J (Fa Bm3 J (Pb sz3 J J ‹_› J J J J (by simp only [List.take,List.drop,List.append,Ek7,Ek8];rfl) ?_)));intro w3 hs3 hx3 hR;have hC:=hC.step hx3 (by first|(simp;done)|(simp;omega));have hr:=hr.q hx3 (by intro x hx hf;have hx:=Ek3.1 hx;have h1:=hf.1;have h2:=hf.2.1;omega);have hB1:=hB1.q hx3 (by simp;omega);refine Qc (Qd (Z 2 J (Fa Q1 J (Fa Y2 J (Lb o3 J ‹_› (by rfl) ?_)))));refine Ad J J (by omega) (Z 1 J (Fa Q1 J (Fa Y2 J (Pb sz3 J J ‹_› J J J J (by simp only [List.take,List.drop,List.append,Ek7,Ek8];rfl) ?_))));intro w4 hs4 hx4 hR;have hC:=hC.step hx4 (by first|(simp;done)|(simp;omega));have hr:=hr.q hx4 (by intro x hx hf;have hx:=Ek3.1 hx;have h1:=hf.1;have h2:=hf.2.1;omega);have hB1:=hB1.q hx4 (by simp;omega);refine Qc (Qd (Z 1 J (Ca fb125 J (hA { p with deep:=p.deep+1,next:=p.next+1 } b _ (by omega) hn (by show p.deep+1≤200;omega) ‹_› ‹_›) ?_)));rintro v5 w5 ⟨hx5,hR',hI'⟩;have hC:=hC.step hx5 (by simp;done);have hr:=hr.q hx5 (by intro x hx hf;have hx:=Ek3.1 hx;have h1:=hf.1;have h2:=hf.2.1;omega);have hB1:=hB1.q hx5 (by simp;omega);clear hR;have hR:=hR';clear hR';have hI:=hI';clear hI';obtain ⟨pn,_,hv5,_,_,_,_,_⟩:=hI.span;subst hv5
  have hE:M6 T en (f+1) p x=(if ({ (Y3 T en f { p with deep:=p.deep+1,next:=p.next+1 }).2 with deep:=(Y3 T en f { p with deep:=p.deep+1,next:=p.next+1 }).2.deep - 1 }:Pp).e≠0 then (default,{ (Y3 T en f { p with deep:=p.deep+1,next:=p.next+1 }).2 with deep:=(Y3 T en f { p with deep:=p.deep+1,next:=p.next+1 }).2.deep - 1 })
     else if isQ T en { (Y3 T en f { p with deep:=p.deep+1,next:=p.next+1 }).2 with deep:=(Y3 T en f { p with deep:=p.deep+1,next:=p.next+1 }).2.deep - 1 } 3=false then (default,({ (Y3 T en f { p with deep:=p.deep+1,next:=p.next+1 }).2 with deep:=(Y3 T en f { p with deep:=p.deep+1,next:=p.next+1 }).2.deep - 1 }:Pp).fail en 4)
     else (.node (if x.kind=2 then 3 else 2) 0 0 0 false [(Y3 T en f { p with deep:=p.deep+1,next:=p.next+1 }).1] x.src (Dn5 T ({ (Y3 T en f { p with deep:=p.deep+1,next:=p.next+1 }).2 with deep:=(Y3 T en f { p with deep:=p.deep+1,next:=p.next+1 }).2.deep - 1 }:Pp).adv),({ (Y3 T en f { p with deep:=p.deep+1,next:=p.next+1 }).2 with deep:=(Y3 T en f { p with deep:=p.deep+1,next:=p.next+1 }).2.deep - 1 }:Pp).adv)):=by rw [M6,Ek0 hd']
  generalize Y3 T en f { p with deep:=p.deep+1,next:=p.next+1 }=g at*;have hgd:g.2.deep=p.deep+1:=hgo.deep;obtain ⟨q,hq⟩:∃ q:Pp,q={ g.2 with deep:=g.2.deep - 1 }:=⟨_,rfl⟩;rw [← hq] at hE;have hqn:q.next=g.2.next:=by rw [hq]
  have hqe:q.e=g.2.e:=by rw [hq]
  have hqR:psC A T.length c en q=[.slice A T.length c,.int .i64 (g.2.next:Int),.int .i64 (en:Int),.int .i64 ((g.2.deep - 1:Nat):Int),.int .i64 g.2.pl,.int .i64 g.2.e]:=by rw [hq]
  refine Zc 1 J (Qd (Z 2 J (Fa Bm3 J (Lb o3 J ‹_› (by rfl) ?_))));refine C9 J (Does.to (Cq9 J J (by omega)) (J4 (show _=((g.2.deep - 1:Nat):Int) by omega))) ?_;refine Z 1 J (Fa Bm3 J (Pb sz3 J J ‹_› J J J J (by simp only [List.take,List.drop,List.append,Ek7,Ek8];rfl) ?_));intro w6 hs6 hx6 hR;have hC:=hC.step hx6 (by first|(simp;done)|(simp;omega));have hr:=hr.q hx6 (by intro x hx hf;have hx:=Ek3.1 hx;have h1:=hf.1;have h2:=hf.2.1;omega);have hB1:=hB1.q hx6 (by simp;omega);have hI:=hI.q hx6 (by intro x hx hf;have hx:=Ek3.1 hx;have h1:=hf.1;have h2:=hf.2.1;omega);refine Qc (Qa (Qd (Z 2 J (Fa Aj2 J (Lb o32 J ‹_› (by rfl) ?_)))))
  refine Zc 1 J (A4 J (fun h2=>?_) (fun h2=>?_))
  ·try simp at h2
   refine Qd (Zc 1 J (A6 (B4 J J ?_)));rw [← hqe] at h2;rw [hE,Ek1 h2];exact ⟨hC,by rw [hqR];exact hR,⟨_,rfl⟩,fun h=>absurd h h2⟩
  ·try simp at h2
   rw [← hqR] at hR;have h2':¬ q.e≠0:=by rw [hqe];simpa using h2
   rw [Ek0 h2'] at hE;refine A7 (Qa (Qd (Z 2 J (Fa Q1 J (Ca fb150 J (isT_c T (FR 0 b []) A c en q b 3 _ hT (fun y hy=>Eu3 hy.2.1 hR.lt) ‹_› ‹_›) ?_)))));rintro _ w7 ⟨rfl,hx7⟩;have hz7:=hx7.size;have hC:=hC.s0 hx7;have hR:=hR.u hx7;have hr:=hr.u hx7;have hB1:=hB1.u hx7;have hI:=hI.u hx7
   refine Zc 1 J (A4 J (fun h3=>?_) (fun h3=>?_))
   ·try simp at h3
    refine Qd (Z 3 J (Fa Q1 J (Fa Cw8 J (Lb o3 J ‹_› (by rfl) ?_))));refine Ca fb127 J (Ca0 A T.length c en q b (en:Int) 4 _ ‹_›) ?_;rintro _ w8 ⟨rfl,hx8,hR'⟩;have hC:=hC.step hx8 (by simp;done);clear hR;have hR:=hR';clear hR';refine Qc (Qd (Zc 1 J (A6 (B4 J J ?_))));rw [hE,Ek1 h3];exact ⟨hC,hR,⟨_,rfl⟩,fun h=>absurd h (Ai0 (by decide))⟩
   ·try simp at h3
    rw [Ek0 (by rw [h3];simp)] at hE;have hql:=Bv0 h3;refine A7 (Qd (Z 2 J (Fa Q1 J (Fa Y2 J (Lb o3 J ‹_› (by rfl) ?_)))));refine Ad J J (by omega) (Z 1 J (Fa Q1 J (Fa Y2 J (Pb sz3 J J ‹_› J J J J (by simp only [List.take,List.drop,List.append,Ek7,Ek8];rfl) ?_))));intro w9 hs9 hx9 hR;have hC:=hC.step hx9 (by first|(simp;done)|(simp;omega));have hr:=hr.q hx9 (by intro x hx hf;have hx:=Ek3.1 hx;have h1:=hf.1;have h2:=hf.2.1;omega);have hB1:=hB1.q hx9 (by simp;omega);have hI:=hI.q hx9 (by intro x hx hf;have hx:=Ek3.1 hx;have h1:=hf.1;have h2:=hf.2.1;omega)
    refine Qc (Qd (Zc 1 J (I3 (fun e9 wr=>Sub [(0,.pointer (some ⟨b,0,none⟩)),(3,.pointer (some ⟨b1,0,none⟩)),(5,.pointer (some ⟨pn,0,none⟩)),(6,.int .i64 (if x.kind=2 then 3 else 2))] e9∧Chg [b] w wr∧Rd (FR 0 b []) wr 10 A T.length (Ac1 T)∧Blk wr b (psC A T.length c en q.adv) 202∧IsSyn (FR w4.heap.size w5.heap.size []) wr g.1 (.pointer (some ⟨pn,0,none⟩))∧Blk wr b1 x.cells 205∧w5.heap.size≤wr.heap.size) ?_ ?_)))
    ·refine Qd (Fa Bm2 J (Lb o3 J ‹_› (by rfl) ?_))
     refine Zc 1 J (A4 J (fun h4=>?_) (fun h4=>?_))
     ·try simp at h4
      refine Qb (Zc 1 J ⟨⟨rfl,rfl,rfl,(G2 J (by rw [Ek1 h4])),trivial⟩,?_⟩);exact ⟨hC,hr,hR,hI,hB1,by omega⟩
     ·try simp at h4
      refine A7 ⟨⟨rfl,rfl,rfl,(G2 J (by rw [Ek0 h4])),trivial⟩,?_⟩;exact ⟨hC,hr,hR,hI,hB1,by omega⟩
    rintro e9 w9 ⟨hs9,hC,hr,hR,hI,hB1,hsz⟩;refine I2 _ hs9 ?_;clear hs9 e9
    try have hlB1:=hB1.lt
    refine I3 (fun e9 wr=>∃ bn,Sub [(4,.pointer (some ⟨bn,0,none⟩))] e9∧Chg [b] w wr∧Blk wr b (psC A T.length c en q.adv) 202∧IsSyn (FR w.heap.size wr.heap.size []) wr (.node (if x.kind=2 then 3 else 2) 0 0 0 false [g.1] x.src (Dn5 T q.adv)) (.pointer (some ⟨bn,0,none⟩))) ?_ ?_
    ·refine Bp5 (S:=[]) 10 (.two [(0,0),(0,1),(0,3),(0,4),(0,5),(0,6),(0,7)] 2 (.seg [(1,8),(0,9),(2,10),(2,11),(2,12)]) 8 (.seg [(0,9),(1,2),(2,10),(2,11),(2,12)])) mo (by kernel_rfl) ?_;simp only [ET];intro w10 hx10 hh10;have hC:=hC.s0 hx10;have hr:=hr.u hx10;have hR:=hR.u hx10;have hI:=hI.u hx10;have hB1:=hB1.u hx10;have hCS10:=A8 ([]) w10;refine Z 2 J (Fa Ao6 J (D6 J (B3 o3 J ‹_› (by simp;done) (by rfl)) ?_))
     refine Z 2 J (Fa Q1 J (Qc ⟨?_,?_⟩))
     ·refine E2 J (B7 Am1 Tryz.underlying241 Cs2 J J J (by rfl)) ?_;intro b11 w11 hb11 hs11 hx11 hB11;have hC:=hC.s0 hx11;have hr:=hr.u hx11;have hR:=hR.u hx11;have hI:=hI.u hx11;have hCS10:=hCS10.s0 hx11;refine ⟨hCS10,?_⟩;refine Qc (C5 J (C3 fb227 J) (Eb1 T (FR 0 b []) A c en q.adv b _ hT ⟨Nat.succ_pos _,hql⟩ (fun y hy=>Eu3 hy.2.1 hR.lt) ‹_› ‹_›) ?_);rintro _ w12 ⟨rfl,hx12⟩;have hz12:=hx12.size;have hC:=hC.s0 hx12;have hR:=hR.u hx12;have hI:=hI.u hx12;have hCS10:=hCS10.s0 hx12;have hB11:=hB11.u hx12;refine ⟨hCS10,?_⟩;refine D6 J (D7 Q5 X5 J (by rfl)) ?_;refine C9 J (B1 Cs0 Cu2 J (by rfl)) ?_;refine B5 J (E1 J J) ?_;intro b13 w13 hb13 hs13 hx13 hB13;have hC:=hC.s0 hx13;have hR:=hR.u hx13;have hI:=hI.u hx13;have hB11:=hB11.u hx13;exact Zc 1 J ⟨b13,⟨rfl,trivial⟩,hC,hR,Cb6 (τ:=149) (by rw [Bt7];exact hB13) hB11 (hI.mono (fun y hy _=>⟨by have:=hy.1;omega,by have:=hy.2.1;omega,by simp⟩)) ⟨by omega,by omega,by simp⟩ ⟨by omega,by omega,by simp⟩⟩
     ·refine C5 J (C3 fb227 J) (Eb1 T (FR 0 b []) A c en q.adv b _ hT ⟨Nat.succ_pos _,hql⟩ (fun y hy=>Eu3 hy.2.1 hR.lt) ‹_› ‹_›) ?_;rintro _ w14 ⟨rfl,hx14⟩;have hz14:=hx14.size;have hC:=hC.s0 hx14;have hR:=hR.u hx14;have hI:=hI.u hx14;have hCS10:=hCS10.s0 hx14;refine ⟨hCS10,?_⟩;refine Qc (D6 J (D7 Q5 X5 J (by rfl)) ?_);refine E2 J (B7 Am1 Tryz.underlying241 Cs2 J J J (by rfl)) ?_;intro b15 w15 hb15 hs15 hx15 hB15;have hC:=hC.s0 hx15;have hR:=hR.u hx15;have hI:=hI.u hx15;have hCS10:=hCS10.s0 hx15;refine ⟨hCS10,?_⟩;refine C9 J (B1 Cs0 Cu2 J (by rfl)) ?_;refine B5 J (E1 J J) ?_;intro b16 w16 hb16 hs16 hx16 hB16;have hC:=hC.s0 hx16;have hR:=hR.u hx16;have hI:=hI.u hx16;have hB15:=hB15.u hx16;exact Zc 1 J ⟨b16,⟨rfl,trivial⟩,hC,hR,Cb6 (τ:=149) (by rw [Bt7];exact hB16) hB15 (hI.mono (fun y hy _=>⟨by have:=hy.1;omega,by have:=hy.2.1;omega,by simp⟩)) ⟨by omega,by omega,by simp⟩ ⟨by omega,by omega,by simp⟩⟩
    rintro e9 w10 ⟨bn,hs9,hC,hR,hI⟩;refine I2 _ hs9 ?_;clear hs9 e9;refine A6 (B4 J J ?_);rw [hE];exact ⟨hC,hR,⟨_,rfl⟩,fun _=>hI⟩
def Ai8 (T:List Tok) (en f:Nat) (p:Pp) (x:Tok):Syn × Pp:=if x.kind=0 then (.node 1 x.set 0 0 false [] x.src x.to,p.adv) else if x.kind=1∨x.kind=2 then M6 T en f p x else (default,p.fail x.src 4)
theorem itemQ_eq (T:List Tok) (en f:Nat) (p:Pp) (x:Tok):Y0 T en (f+1) p x=if (Ai8 T en f p x).2.e≠0∨isQ T en (Ai8 T en f p x).2 5=false then Ai8 T en f p x else (.node 6 0 (pkQ T en (Ai8 T en f p x).2).min (pkQ T en (Ai8 T en f p x).2).max (pkQ T en (Ai8 T en f p x).2).lazy [(Ai8 T en f p x).1] x.src (pkQ T en (Ai8 T en f p x).2).to,(Ai8 T en f p x).2.adv):=by rw [Y0];rfl
theorem pitem_c (T:List Tok) (A:Option Addr) (c en f:Nat) (hT:T.length≤1048576) (hG:Ej0 T A c en f):ItemC T A c en (f+1):=by
 intro p x b w hf hn he hd hr hR;have hC:=A8 [b] w;rw [itemQ_eq]
 try have hlR:=hR.lt
 refine D4 Tryz.func183 J J (Qd (B5 J (E1 J J) ?_));intro b1 w1 hb1 hs1 hx1 hB1;have hz1:=hx1.size;have hC:=hC.s0 hx1;have hR:=hR.u hx1;have hr:=hr.u hx1
 refine Zc 1 J (Qd (Zc 1 J (I3 (fun e9 wr=>∃ ad,Sub [(0,.pointer (some ⟨b,0,none⟩)),(3,.pointer (some ⟨b1,0,none⟩)),(5,.pointer ad)] e9∧Chg [b] w wr∧Rd (FR 0 b []) wr 10 A T.length (Ac1 T)∧Blk wr b (psC A T.length c en (Ai8 T en f p x).2) 202∧Blk wr b1 x.cells 205∧((Ai8 T en f p x).2.e=0→IsSyn (FR w.heap.size wr.heap.size []) wr (Ai8 T en f p x).1 (.pointer ad))) ?_ ?_)))
 ·refine Qd (Fa Bm2 J (Lb o3 J ‹_› (by rfl) ?_))
  refine Qc (B2 (Qd (Zc 2 J (A4 J (fun h1=>?_) (fun h1=>?_)))))
  ·try simp at h1
   have hM:Ai8 T en f p x=(.node 1 x.set 0 0 false [] x.src x.to,p.adv):=by unfold Ai8;rw [Ek1 h1]
   refine Qd (Z 2 J (Fa Q1 J (Fa Y2 J (Lb o3 J ‹_› (by rfl) ?_))));refine Ad J J (by omega) (Z 1 J (Fa Q1 J (Fa Y2 J (Pe sz3 J ‹_› J J ?_))));intro w2 hs2 hx2 hR;have hr:=hr.q hx2 (by intro x hx hf;have hx:=Ek3.1 hx;have h1:=hf.1;have h2:=hf.2.1;omega);have hB1:=hB1.q hx2 (by simp;omega);refine Qc (Qb (Fa fl205_3 J (La J0 J ‹_› (by rfl) J ?_)));refine Fa Ao6 J (Lb o3 J ‹_› (by rfl) ?_);refine Fa Cd3 J (Lb o3 J ‹_› (by rfl) ?_);refine C9 J (D7 Q5 X5 J (by rfl)) ?_;refine C9 J (B1 Cs0 Cu2 J (by rfl)) ?_;refine B5 J (E1 J J) ?_;intro b3 w3 hb3 hs3 hx3 hB3;have hC:=hC.step (hx2.j hx3) (by simp<;>omega);have hR:=hR.u hx3;have hr:=hr.u hx3;have hB1:=hB1.u hx3;refine Zc 1 J ⟨some ⟨b3,0,none⟩,sb J,?_⟩;rw [hM];exact ⟨hC,hr,hR,hB1,fun _=>⟨b3,none,0,[],rfl,⟨by omega,by omega,by simp⟩,hB3,Rd.nil _ _ _ _,rfl⟩⟩
  ·try simp at h1
   refine I3 (fun e9 wr=>Sub [(0,.pointer (some ⟨b,0,none⟩)),(3,.pointer (some ⟨b1,0,none⟩)),(5,.pointer none),(34,.bool (decide (x.kind=1∨x.kind=2)))] e9∧wr=w1∧Chg [b] w wr) ?_ ?_
   ·refine Qd (Zc 2 J (A4 J (fun h2=>?_) (fun h2=>?_)))
    ·try simp at h2
     refine A7 ⟨⟨rfl,rfl,rfl,(H3 J (by rw [El4,cmpB_eql,El7];omega)),trivial⟩,?_⟩;exact ⟨rfl,hC⟩
    ·try simp at h2
     refine Qb (Zc 2 J ⟨⟨rfl,rfl,rfl,(H3 J (by rw [El4,cmpB_eql,El7];omega)),trivial⟩,?_⟩);exact ⟨rfl,hC⟩
   rintro e9 w8 ⟨hs9,rfl,hC⟩;refine I2 _ hs9 ?_;clear hs9 e9
   refine A4 J (fun h3=>?_) (fun h3=>?_)
   ·try simp at h3
    have hM:Ai8 T en f p x=M6 T en f p x:=by unfold Ai8;rw [Ek0 h1,Ek1 h3]
    refine Qb (Z 1 J (La Y4 J ‹_› J J ?_));refine Ca fb210 J (hG p x b _ (by omega) hn he hd ‹_› ‹_›) ?_;rintro _ w4 ⟨hx4,hR',⟨ad,rfl⟩,hI⟩;have hC:=hC.step hx4 (by simp;done);have hr:=hr.q hx4 (by intro x hx hf;have hx:=Ek3.1 hx;have h1:=hf.1;have h2:=hf.2.1;omega);have hB1:=hB1.q hx4 (by simp;omega);clear hR;have hR:=hR';clear hR';refine Zc 1 J ⟨ad,sb J,?_⟩;rw [hM];exact ⟨hC,hr,hR,hB1,fun h=>(hI h).mono (fun y hy _=>⟨by have:=hy.1;omega,hy.2.1,by simp⟩)⟩
   ·try simp at h3
    have hM:Ai8 T en f p x=(default,p.fail x.src 4):=by unfold Ai8;rw [Ek0 h1,Ek0 (by omega)]
    refine Qb (Z 1 J (Fa Ao6 J (Lb o3 J ‹_› (by rfl) ?_)));refine Ca fb127 J (Ca0 A T.length c en p b x.src 4 _ ‹_›) ?_;rintro _ w5 ⟨rfl,hx5,hR'⟩;have hC:=hC.step hx5 (by simp;done);have hr:=hr.q hx5 (by intro x hx hf;have hx:=Ek3.1 hx;have h1:=hf.1;have h2:=hf.2.1;omega);have hB1:=hB1.q hx5 (by simp;omega);clear hR;have hR:=hR';clear hR';refine Qc ⟨none,sb J,?_⟩;rw [hM];exact ⟨hC,hr,hR,hB1,fun h=>absurd h (Ai0 (by decide))⟩
 rintro e9 w9 ⟨ad,hs9,hC,hr,hR,hB1,hmI⟩;refine I2 _ hs9 ?_;clear hs9 e9;generalize Ai8 T en f p x=m at*
 try have hlB1:=hB1.lt
 refine Qa (Qd (Z 2 J (Fa Aj2 J (Lb o32 J ‹_› (by rfl) ?_))))
 refine Z 2 J (C0 (d:=45) J (fun g1=>?_) (fun g1=>?_))
 ·try simp at g1
  refine Qk J (Qk J (Qk J (Qk J (Qk J (Zc 1 J (E3 J (Qd (Zc 2 J (A6 (B4 J J ?_))))))))));have g1':m.2.e≠0:=by simpa using g1
  rw [Ek1 (Or.inl g1')];exact ⟨hC,hR,⟨_,rfl⟩,fun h=>absurd h g1'⟩
 ·try simp at g1
  have g1':m.2.e=0:=by simpa using g1
  have hI:=hmI g1';obtain ⟨pn,_,hv5,_,_,_,_,_⟩:=hI.span;injection hv5 with hv5
  subst hv5;refine Qu J (Z 1 J (Qu J (Z 1 J (Qu J (Fa Q1 J (Qu J (Ca fb150 J (isT_c T (FR 0 b []) A c en m.2 b 5 _ hT (fun y hy=>Eu3 hy.2.1 hR.lt) ‹_› ‹_›) ?_)))))));rintro _ w6 ⟨rfl,hx6⟩;have hz6:=hx6.size;have hC:=hC.s0 hx6;have hr:=hr.u hx6;have hR:=hR.u hx6;have hB1:=hB1.u hx6;have hI:=hI.u hx6
  refine Qu J (Zc 2 J (A4 J (fun g2=>?_) (fun g2=>?_)))
  ·try simp at g2
   refine Qd (Zc 2 J (A6 (B4 J J ?_)));rw [Ek1 (Or.inr g2)];exact ⟨hC,hR,⟨_,rfl⟩,fun h=>hI.mono (fun y hy _=>⟨hy.1,by have:=hy.2.1;omega,by simp⟩)⟩
  ·try simp at g2
   have hql:=Bv0 g2;refine A7 (Qd (Z 2 J (Fa Q1 J (Ca Ee0 J (Dx2 T (FR 0 b []) A c en m.2 b _ hT (fun y hy=>Eu3 hy.2.1 hR.lt) ‹_› ‹_›) ?_))));rintro _ w7 ⟨rfl,hx7⟩;have hz7:=hx7.size;refine Z 3 J (B5 J (B8 Z7 J) ?_);intro b8 w8 hb8 hs8 hx8 hB8;have hI:=hI.u (hx7.s0 hx8);refine Pe Z0 J ‹_› J J ?_;intro w9 hs9 hx9 hB8;have hR:=hR.q ((hx7.j hx8).j hx9) (by simp<;>omega);have hI:=hI.q hx9 (by intro x hx hf;have hx:=Ek3.1 hx;have h1:=hf.1;have h2:=hf.2.1;omega);refine Zc 1 J (Qd (Z 2 J (Fa Q1 J (Fa Y2 J (Lb o3 J ‹_› (by rfl) ?_)))));refine Ad J J (by omega) (Z 1 J (Fa Q1 J (Fa Y2 J (Pe sz3 J ‹_› J J ?_))));intro w10 hs10 hx10 hR;have hI:=hI.q hx10 (by intro x hx hf;have hx:=Ek3.1 hx;have h1:=hf.1;have h2:=hf.2.1;omega);have hB8:=hB8.q hx10 (by simp;omega);refine Qc (Qd (Fa Cw7 J (Lb o3 J ‹_› (by rfl) ?_)));refine Fa Cw6 J (Lb o3 J ‹_› (by rfl) ?_);refine Fa Ed4 J (Lb o4 J ‹_› (by rfl) ?_);refine Z 1 J (B5 J (B7 Am1 Tryz.underlying241 Cs2 J J J (by rfl)) ?_);intro b11 w11 hb11 hs11 hx11 hB11;have hB1:=hB1.q ((((hx7.j hx8).j hx9).j hx10).j hx11) (by simp<;>omega);have hB8:=hB8.u hx11;refine Fa Ao6 J (Lb o3 J ‹_› (by rfl) ?_);refine Fa Cd3 J (Lb o3 J ‹_› (by rfl) ?_);refine C9 J (D7 Q5 X5 J (by rfl)) ?_;refine C9 J (B1 Cs0 Cu2 J (by rfl)) ?_;refine B5 J (E1 J J) ?_;intro b12 w12 hb12 hs12 hx12 hB12;have hC:=hC.step (((((hx7.j hx8).j hx9).j hx10).j hx11).j hx12) (by simp<;>omega);have hR:=hR.u (hx11.s0 hx12);have hI:=hI.u (hx11.s0 hx12);have hB11:=hB11.u hx12;refine Zc 1 J (A6 (B4 J J ?_));rw [Ek0 (by intro h;rcases h with h|h;exact h g1';rw [g2] at h;cases h)];exact ⟨hC,hR,⟨_,rfl⟩,fun _=>Cb6 (τ:=149) (by rw [Bt7];assumption) ‹_› (hI.mono (fun y hy _=>⟨hy.1,by have:=hy.2.1;omega,by simp⟩)) ⟨by omega,by omega,by simp⟩ ⟨by omega,by omega,by simp⟩⟩
theorem Az7 {T:List Tok} {en:Nat} {q:Pp} (h:Al1 T en q=false) (f:Nat) (a:Int) (l:List Syn):catL T en f q a l=(W8 q a l,q):=by
 cases f with
 |zero=>unfold catL;rfl
 |succ f=>unfold catL;rw [Ek0 (by rw [h];simp)]
theorem goes_e {T:List Tok} {en:Nat} {q:Pp} (h:q.e≠0):Al1 T en q=false:=by unfold Al1;rw [El3 h];rfl
theorem Cm6 {F:Nat→Prop} {w:World} {bn c:Nat} {k mn mx a b:Int} {lz:Bool} {s:Nat} (hn:Blk w bn (Bk3 k s mn mx lz (.slice none 0 c) a b) 254) (h1:F bn):IsSyn F w (.node k s mn mx lz [] a b) (.pointer (some ⟨bn,0,none⟩)):=
 ⟨bn,none,c,[],rfl,h1,hn,Rd.nil _ _ _ _,rfl⟩
theorem X1 {A A':Option Addr} {w:World} (hA:A'=A∨∃ b,A'=some ⟨b,0,none⟩∧w.heap.size≤b) {y:Nat} (h1:y∉F7 A) (h2:y<w.heap.size):y∉F7 A':=by
 rcases hA with rfl|⟨b,rfl,hb⟩
 ·exact h1
 ·simp [F7];omega
theorem pcat_c (T:List Tok) (A:Option Addr) (c en f:Nat) (hT:T.length≤1048576) (hI0:∀ g,g≤f→ItemC T A c en g):CatC T A c en (f+1):=by
 intro p b w hf hn hd hr hR;have hbw:=hR.lt;have hC:=A8 [b] w;refine D4 Tryz.func149 J J (Qd (Zc 1 J (Qd (Z 2 J (Fa Q1 J (Ca fb182 J (atT_c T (FR 0 b []) A c en p b _ hT (fun y hy=>Eu3 hy.2.1 hR.lt) ‹_› ‹_›) ?_))))));rintro _ w1 ⟨rfl,hx1⟩;have hC:=hC.s0 hx1;have hR:=hR.u hx1;have hr:=hr.u hx1;have hcq:Aq9 T en (f+1) p=catL T en f p (pkQ T en p).src []:=by rw [Aq9]
 rw [hcq];generalize (pkQ T en p).src=a0 at*;generalize hr0:catL T en f p a0 []=r at*
 refine Zc 1 J (Qd (Zc 1 J (I3 (fun e9 wr=>∃ q l vs A' c',Sub [(0,.pointer (some ⟨b,0,none⟩)),(3,.int .i64 a0),(4,.slice A' l.length c')] e9∧Chg [b] w wr∧Blk wr b (psC A T.length c en q) 202∧Own wr w.heap.size 149 1 A' l.length c' vs∧(q.e=0→IsSyns (FR w.heap.size wr.heap.size (F7 A')) wr l vs)∧r=(W8 q a0 l,q)∧(q.e=0→l.length≤T.length)∧w.heap.size≤wr.heap.size) ?_ ?_)))
 ·refine B2 (D8 (σ:=Nat × Pp × List Syn × List Value × Option Addr × Nat) (fun (g,q,l,vs,A',c')=>[(0,.pointer (some ⟨b,0,none⟩)),(3,.int .i64 a0),(4,.slice A' l.length c')]) (fun (g,q,l,vs,A',c') wr=>Chg [b] w wr∧Rd (FR 0 b []) wr 10 A T.length (Ac1 T)∧Blk wr b (psC A T.length c en q) 202∧Own wr w.heap.size 149 1 A' l.length c' vs∧(q.e=0→IsSyns (FR w.heap.size wr.heap.size (F7 A')) wr l vs)∧r=catL T en g q a0 l∧(q.e=0→5*left T q+3≤g)∧GoQ T p q∧(q.e=0→l.length≤q.next)∧g≤f) (fun (g,q,l,vs,A',c') wr=>g) (f,p,[],[],none,0) (sb J) ?_ ?_)
  ·exact ⟨hC,hr,hR,Own.nil _ _ _ _,fun _=>rfl,hr0.symm,fun _=>by omega,GoQ.refl hn,fun _=>El0 _,El1 _⟩
  rintro ⟨g,q,l,vs,A',c'⟩ w9 ⟨hC,hr,hR,hO,hIc,hrr,hfu,hgo,hlq',hgf⟩;have hOb:=hO.blk;have hqd:q.deep≤200:=by rw [hgo.deep];exact hd
  have hql:=hgo.le
  try have hzw:=hC.size
  try have hlR:=hR.lt
  refine Qa (Qd (Z 2 J (Fa Aj2 J (Lb o32 J ‹_› (by rfl) ?_))))
  refine Zc 1 J (A4 J (fun h1=>?_) (fun h1=>?_))
  ·try simp at h1
   have hIs:=hIc h1;have hlq:=hlq' h1;have hfu':=hfu h1;refine A7 (B2 (Qd (Z 2 J (Fa Q1 J (Ca Ee0 J (Dx2 T (FR 0 b []) A c en q b _ hT (fun y hy=>Eu3 hy.2.1 hR.lt) ‹_› ‹_›) ?_)))));rintro _ w2 ⟨rfl,hx2⟩;have hz2:=hx2.size;refine Z 3 J (B5 J (B8 Z7 J) ?_);intro b3 w3 hb3 hs3 hx3 hB3;have hr:=hr.u (hx2.s0 hx3);have hO:=hO.u (hx2.s0 hx3);have hIs:=hIs.u (hx2.s0 hx3);refine Pe Z0 J ‹_› J J ?_;intro w4 hs4 hx4 hB3;have hC:=hC.step ((hx2.j hx3).j hx4) (by simp<;>omega);have hR:=hR.q ((hx2.j hx3).j hx4) (by simp<;>omega);have hr:=hr.q hx4 (by intro x hx hf;have hx:=Ek3.1 hx;have h1:=hf.1;have h2:=hf.2.1;omega);have hO:=hO.q hx4 (by intro x hx;have hx:=Ek3.1 hx;right;intro h;have:=hOb x (by rw [h];exact Ek3.2 J);omega);have hIs:=hIs.q hx4 (by intro x hx hf;have hx:=Ek3.1 hx;have h1:=hf.1;have h2:=hf.2.1;omega)
   refine Zc 1 J (Qa (Qd (Z 3 J (C0 (d:=25) J (fun h2=>?_) (fun h2=>?_)))))
   ·try simp at h2
    have hG:Al1 T en q=false:=by unfold Al1;rw [h2];simp
    refine Qk J (Qk J (Qk J (Z 2 J (Qk J (Qk J (Qk J (Zc 1 J (E3 J (Av4 (Ar0 J (Aj3 ?_)))))))))));refine ⟨q,l,vs,A',c',sb J,?_⟩;exact ⟨hC,hR,hO,fun _=>hIs.mono (fun y hy _=>⟨hy.1,by have:=hy.2.1;omega,hy.2.2⟩),by rw [hrr,Az7 hG],fun _=>by omega,by omega⟩
   ·try simp at h2
    refine Qu J (Fa Bm2 J (Qu J (Lb o3 J ‹_› (by rfl) ?_)))
    refine Qu J (Z 3 J (C0 (d:=30) J (fun h3=>?_) (fun h3=>?_)))
    ·try simp at h3
     have hG:Al1 T en q=false:=by unfold Al1;rw [El2 h3];simp
     refine Qk J (Qk J (Qk J (Zc 1 J (E3 J (Av4 (Ar0 J (Aj3 ?_)))))));refine ⟨q,l,vs,A',c',sb J,?_⟩;exact ⟨hC,hR,hO,fun _=>hIs.mono (fun y hy _=>⟨hy.1,by have:=hy.2.1;omega,hy.2.2⟩),by rw [hrr,Az7 hG],fun _=>by omega,by omega⟩
    ·try simp at h3
     refine Qu J (Fa Bm2 J (Qu J (Lb o3 J ‹_› (by rfl) ?_)))
     refine Qu J (Zc 2 J (A4 J (fun h4=>?_) (fun h4=>?_)))
     ·try simp at h4
      have hG:Al1 T en q=false:=by unfold Al1;rw [El2 h4];simp
      refine Av4 (Ar0 J (Aj3 ?_));refine ⟨q,l,vs,A',c',sb J,?_⟩;exact ⟨hC,hR,hO,fun _=>hIs.mono (fun y hy _=>⟨hy.1,by have:=hy.2.1;omega,hy.2.2⟩),by rw [hrr,Az7 hG],fun _=>by omega,by omega⟩
     ·try simp at h4
      have hG:Al1 T en q=true:=by unfold Al1;rw [h2,El2 h1,El3 h3,El3 h4];rfl
      have hqn:q.next<T.length:=(Cc2 hG).2;have hlf:1≤left T q:=by unfold left;omega
      obtain ⟨g,rfl⟩:∃ k,g=k+1:=⟨g - 1,by omega⟩;have hcl:catL T en (g+1) q a0 l=catL T en g (Y0 T en g q (pkQ T en q)).2 a0 (l++[(Y0 T en g q (pkQ T en q)).1]):=by rw [catL,Ek1 hG]
      refine A7 (Qb (Z 2 J (La Y4 J ‹_› J J ?_)));refine Ca fb183 J (hI0 g (by omega) q (pkQ T en q) b _ (by omega) hqn h1 hqd ‹_› ‹_›) ?_;rintro _ w5 ⟨hx5,hR',⟨ad,rfl⟩,hV⟩;have hz5:=hx5.size;have hC:=hC.step hx5 (by simp;done);have hr:=hr.q hx5 (by intro x hx hf;have hx:=Ek3.1 hx;have h1:=hf.1;have h2:=hf.2.1;omega);have hO:=hO.q hx5 (by intro x hx;simp at hx;left;omega);have hIs:=hIs.q hx5 (by intro x hx hf;have hx:=Ek3.1 hx;have h1:=hf.1;have h2:=hf.2.1;omega);clear hR;have hR:=hR';clear hR';have hgi:=(allQ T en g).item q (pkQ T en q) hqn
      have hgt:(Y0 T en g q (pkQ T en q)).2.e=0→q.next<(Y0 T en g q (pkQ T en q)).2.next:=by
       obtain ⟨k,rfl⟩:∃ k,g=k+2:=⟨g - 2,by omega⟩;exact item_gt T en k q _ hqn
      rw [hcl] at hrr;generalize (Y0 T en g q (pkQ T en q))=m at*;have hll:(l++[m.1]).length=l.length+1:=by simp
      have hge:=hgi.ge;have hmle:=hgi.le
      by_cases he:m.2.e=0
      ·have hgt':=hgt he;have hIv:=hV he;refine B5 J (B7 Am1 Tryz.underlying241 Cs2 J J J (by rfl)) ?_;intro b6 w6 hb6 hs6 hx6 hB6;have hC:=hC.s0 hx6;have hR:=hR.u hx6;have hr:=hr.u hx6;have hO:=hO.u hx6;have hIs:=hIs.u hx6;have hIv:=hIv.u hx6;refine G1 J el241 J J hO (Blk.rd (F:=fun _=>True) ‹_› J trivial) (by rfl) (by omega) (by omega) ?_;intro A' c' w7 hO7 hx7 hA';have hC:=hC.step hx7 (by intro x h;have:=hOb x h;exact .inr (by omega));have hR:=hR.q hx7 (by intro h;have:=hOb _ h;omega);have hr:=hr.q hx7 (by intro x hx hf;have:=hOb x hx;have h1:=hf.1;have h2:=hf.2.1;omega);have hIs:=hIs.q hx7 (by intro x hx hf;exact hf.2.2 hx);have hIv:=hIv.q hx7 (by intro x hx hf;have:=hOb x hx;have h1:=hf.1;have h2:=hf.2.1;omega)
       replace hO:=hO7
       refine Zc 1 J ⟨(g,m.2,l++[m.1],vs++[.pointer ad],A',c'),⟨rfl,rfl,(R0 J (by rw [hll])),trivial⟩,?_,?_⟩;refine ⟨hC,hr,hR,by rw [hll];exact hO,fun _=>IsSyns.append ?_ ?_,hrr,fun _=>?_,hgo.trans hgi,fun _=>by omega,by omega⟩;exact hIv.mono (fun y hy _=>⟨by have:=hy.1;omega,by have:=hy.2.1;omega,X1 hA' (fun hm=>by have:=hOb y hm;have:=hy.1;omega) (by have:=hy.2.1;omega)⟩);exact hIs.mono (fun y hy _=>⟨hy.1,by have:=hy.2.1;omega,X1 hA' hy.2.2 (by have:=hy.2.1;omega)⟩);unfold left at*;omega;exact Er6 g
      ·refine B5 J (B7 Am1 Tryz.underlying241 Cs2 J J J (by rfl)) ?_;intro b8 w8 hb8 hs8 hx8 hB8;have hC:=hC.s0 hx8;have hR:=hR.u hx8;have hr:=hr.u hx8;have hO:=hO.u hx8;refine G1 J el241 J J hO (Blk.rd (F:=fun _=>True) ‹_› J trivial) (by rfl) (by omega) (by omega) ?_;intro A' c' w9 hO9 hx9 hA';have hC:=hC.step hx9 (by intro x h;have:=hOb x h;exact .inr (by omega));have hR:=hR.q hx9 (by intro h;have:=hOb _ h;omega);have hr:=hr.q hx9 (by intro x hx hf;have:=hOb x hx;have h1:=hf.1;have h2:=hf.2.1;omega)
       replace hO:=hO9
       refine Zc 1 J ⟨(g,m.2,l++[m.1],vs++[.pointer ad],A',c'),⟨rfl,rfl,(R0 J (by rw [hll])),trivial⟩,?_,?_⟩;refine ⟨hC,hr,hR,by rw [hll];exact hO,fun h=>absurd h he,hrr,fun h=>absurd h he,hgo.trans hgi,fun h=>absurd h he,by omega⟩;exact Er6 g
  ·try simp at h1
   refine Xb ⟨q,l,vs,A',c',sb J,?_⟩;exact ⟨hC,hR,hO,fun h=>absurd h h1,by rw [hrr,Az7 (goes_e h1)],fun h=>absurd h h1,by omega⟩
 rintro e9 w9 ⟨q,l,vs,A',c',hs9,hC,hR,hO,hIc,hrr,hll,hsz⟩;refine I2 _ hs9 ?_;clear hs9 e9;rw [hrr];refine Qa (Qd (Z 2 J (Fa Aj2 J (Lb o32 J ‹_› (by rfl) ?_))))
 refine Z 2 J (C0 (d:=46) J (fun g1=>?_) (fun g1=>?_))
 ·try simp at g1
  have g1':q.e≠0:=by simpa using g1
  refine Qk J (Qk J (Qk J (Zc 1 J (E3 J (Qd (Z 2 J (C9 J (D7 Q5 X5 J (by rfl)) ?_)))))));refine C9 J (B1 Cs0 Cu2 J (by rfl)) ?_;refine B5 J (E1 J J) ?_;intro b10 w10 hb10 hs10 hx10 hB10;have hC:=hC.s0 hx10;have hR:=hR.u hx10;refine Zc 1 J (A6 (B4 J J ?_));have hE:W8 q a0 l= .node 0 0 0 0 false [] a0 a0:=by unfold W8;rw [Ek1 (Or.inl g1')]
  refine ⟨hC,hR,?_⟩;rw [show (W8 q a0 l,q).1=Syn.node 0 0 0 0 false [] a0 a0 from hE];exact Cm6 (c:=0) (by rw [Bt7];assumption) ⟨by omega,by omega,by simp⟩
 ·try simp at g1
  have g1':q.e=0:=by simpa using g1
  have hIs:=hIc g1';have hll':=hll g1'
  refine Qu J (Z 1 J (Qu J (Ln Tryz.underlying241 J (Qu J (Zc 2 J (A4 J (fun g2=>?_) (fun g2=>?_)))))))
  ·try simp at g2
   refine Qd (Z 2 J (C9 J (D7 Q5 X5 J (by rfl)) ?_));refine C9 J (B1 Cs0 Cu2 J (by rfl)) ?_;refine B5 J (E1 J J) ?_;intro b11 w11 hb11 hs11 hx11 hB11;have hC:=hC.s0 hx11;have hR:=hR.u hx11;refine Zc 1 J (A6 (B4 J J ?_));have hE:W8 q a0 l= .node 0 0 0 0 false [] a0 a0:=by unfold W8;rw [Ek1 (Or.inr (by rw [g2];rfl))]
   refine ⟨hC,hR,?_⟩;rw [show (W8 q a0 l,q).1=Syn.node 0 0 0 0 false [] a0 a0 from hE];exact Cm6 (c:=0) (by rw [Bt7];assumption) ⟨by omega,by omega,by simp⟩
  ·try simp at g2
   have hE:W8 q a0 l=Ay1 4 l:=by unfold W8;rw [Ek0 (by intro h;rcases h with h|h;exact h g1';exact g2 (Es2.1 h))]
   refine A7 (Qd (Z 1 J (Ca fb151 J (many_c 4 l vs (FR w.heap.size w9.heap.size []) A' c' _ (List.length_pos_iff.2 g2) (by omega) (fun y hy=>by have:=hy.2.1;omega) (hO.rd (fun y h1 h2=>⟨h1,by omega,by simp⟩)) (hIs.mono (fun y hy _=>⟨hy.1,hy.2.1,by simp⟩))) ?_)));rintro v5 w12 ⟨hx12,hV⟩;have hC:=hC.s0 hx12;have hR:=hR.u hx12;refine Zc 1 J (A6 (B4 J J ⟨hC,hR,?_⟩));rw [show (W8 q a0 l,q).1=Ay1 4 l from hE];exact hV.mono (fun y hy hyl=>⟨by rcases hy with hy|hy;exact hy.1;omega,hyl,by simp⟩)
end Go.Clt
