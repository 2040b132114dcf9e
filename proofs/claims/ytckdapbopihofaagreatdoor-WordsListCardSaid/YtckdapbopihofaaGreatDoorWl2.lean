import Derived.Lib.TrailingZeros
import Derived.Lib.ItoaNum
import Derived.Test.YtckdapbopihofaaGreatDoorWl1
/- The first words, in order; how many there are of a length (WordsList). Conditions: none beyond the statement's own. A part of that proof: Named, Pop, First, Reader, Reader2, Reader3, Reader4, Reader5, Reader6, Reader7, Reader8, Scan, SynP, Syn1, Syn2, SynR, Syn3, Syn4, Syn5. Conditions: none beyond the statement's own. By an AI agent; no person has read it. -/
set_option linter.unusedVariables false
set_option linter.unusedSimpArgs false
set_option maxRecDepth 8000
set_option maxHeartbeats 4000000
namespace Go.Clt
open Go Go.RowKit Go.Proofs
theorem Co1:L4 At8:=by unfold L4;decide+kernel
theorem Dr8:L4 Dj4:=by unfold L4;decide+kernel
theorem Da6:L4 Ci0:=by unfold L4;decide+kernel
theorem named_c (c:Nat) (hc:c<256) (w:World):Calls P 203 #[.int .u8 (c:Int)] w (Ret fun v w'=>v= .tuple #[.agg (C4 ((Aj3 c).getD 0)).toArray,.bool (Aj3 c).isSome]∧Chg [] w w'):=by
 have hC:=A8 [] w;refine D4 Tryz.func203 J J (Qd (B5 J (B9 M9 J) ?_));intro b1 w1 hb1 hs1 hx1 hB1;refine Zc 1 J (Qd (Ca Af1 J ((show Calls P 222 #[.int .u8 48,.int .u8 57] _ _ from P3 48 57 (by decide) (by decide) _)) ?_));rintro _ w2 ⟨rfl,hx2⟩;have hz2:=hx2.size;refine B5 J (B9 M9 J) ?_;intro b3 w3 hb3 hs3 hx3 hB3;refine Pe J8 J ‹_› J J ?_;intro w4 hs4 hx4 hB3;have hC:=hC.step (((hx1.j hx2).j hx3).j hx4) (by simp<;>omega);have hB1:=hB1.q ((hx2.j hx3).j hx4) (by simp<;>omega)
 refine Qc (I0 (fun e9 wr=>∃ b1 b2 b3,Sub [(0,.int .u8 (c:Int)),(2,.pointer (some ⟨b1,0,none⟩)),(4,.pointer (some ⟨b2,0,none⟩)),(5,.pointer (some ⟨b3,0,none⟩))] e9∧Chg [] w wr∧Blk wr b1 (C4 0) 70∧Blk wr b2 (C4 At8) 70∧Blk wr b3 (C4 Dj4) 70∧b1<b2∧b1<b3∧w.heap.size≤b1) ?_ ?_)
 ·refine Bp5 (S:=[]) 8 (.three [(0,0)] 1 (.three [] 2 (.two [] 3 (.two [] 4 (.two [] 5 (.two [] 6 (.seg [(1,7),(2,8)]) 7 (.seg [(1,6),(2,8)])) 7 (.seg [(1,5),(1,6),(2,8)])) 7 (.seg [(1,4),(1,5),(1,6),(2,8)])) 7 (.seg [(1,3),(1,4),(1,5),(1,6),(2,8)])) 3 (.two [] 2 (.two [] 4 (.two [] 5 (.two [] 6 (.seg [(1,7),(2,8)]) 7 (.seg [(1,6),(2,8)])) 7 (.seg [(1,5),(1,6),(2,8)])) 7 (.seg [(1,4),(1,5),(1,6),(2,8)])) 7 (.seg [(1,2),(1,4),(1,5),(1,6),(2,8)])) 7 (.two [] 2 (.seg [(1,3),(1,4),(1,5),(1,6),(2,8)]) 3 (.seg [(1,2),(1,4),(1,5),(1,6),(2,8)]))) 3 (.two [] 1 (.two [] 2 (.two [] 4 (.two [] 5 (.two [] 6 (.seg [(1,7),(2,8)]) 7 (.seg [(1,6),(2,8)])) 7 (.seg [(1,5),(1,6),(2,8)])) 7 (.seg [(1,4),(1,5),(1,6),(2,8)])) 7 (.seg [(1,2),(1,4),(1,5),(1,6),(2,8)])) 7 (.seg [(1,1),(1,2),(1,4),(1,5),(1,6),(2,8)])) 7 (.two [] 1 (.two [] 2 (.seg [(1,3),(1,4),(1,5),(1,6),(2,8)]) 3 (.seg [(1,2),(1,4),(1,5),(1,6),(2,8)])) 3 (.seg [(1,1),(1,2),(1,4),(1,5),(1,6),(2,8)]))) mo (by kernel_rfl) ?_;simp only [ET];intro w5 hx5 hh5;have hC:=hC.s0 hx5;have hB1:=hB1.u hx5;have hB3:=hB3.u hx5;have hCS5:=A8 ([]) w5;refine D5 J (C1 J0 J ‹_› (by simp<;>omega) J J) ?_
  refine Qc ⟨?_,?_,?_⟩
  ·refine C5 J (C3 Af1 J) (P3 _ _ (by decide) (by decide) _) ?_;rintro _ w6 ⟨rfl,hx6⟩;have hz6:=hx6.size;have hC:=hC.s0 hx6;have hB1:=hB1.u hx6;have hB3:=hB3.u hx6;have hCS5:=hCS5.s0 hx6;refine ⟨hCS5,?_⟩
   refine Qc (Qc ⟨?_,?_,?_⟩)
   ·refine C5 J (C3 Af1 J) (P3 _ _ (by decide) (by decide) _) ?_;rintro _ w7 ⟨rfl,hx7⟩;have hz7:=hx7.size;have hC:=hC.s0 hx7;have hB1:=hB1.u hx7;have hB3:=hB3.u hx7;have hCS5:=hCS5.s0 hx7;refine ⟨hCS5,?_⟩
    refine Qc (Qc ⟨?_,?_⟩)
    ·refine E2 J (B6 Aj2 Tryz.underlying44 zr5 J J J (by rfl)) ?_;intro b8 w8 hb8 hs8 hx8 hB8;have hC:=hC.s0 hx8;have hB1:=hB1.u hx8;have hB3:=hB3.u hx8;have hCS5:=hCS5.s0 hx8;refine ⟨hCS5,?_⟩
     refine Qc (Qc ⟨?_,?_⟩)
     ·refine C5 J (C3 W2 J) (W1 _ _ _ _ _ ‹_› (by omega) (by omega)) ?_;rintro _ w9 ⟨rfl,hx9⟩;have hz9:=hx9.size;have hC:=hC.s0 hx9;have hB1:=hB1.u hx9;have hB3:=hB3.u hx9;have hCS5:=hCS5.s0 hx9;refine ⟨hCS5,?_⟩
      refine Qc (Qc ⟨?_,?_⟩)
      ·refine E2 J (B6 Aq5 Tryz.underlying23 M9 J J J (by rfl)) ?_;intro b10 w10 hb10 hs10 hx10 hB10;have hC:=hC.s0 hx10;have hB1:=hB1.u hx10;have hB3:=hB3.u hx10;have hCS5:=hCS5.s0 hx10;refine ⟨hCS5,?_⟩
       refine Qc (Qc ⟨?_,?_⟩)
       ·refine C5 J (C3 Ab0 J) (K0 _ _ _ _ _ _ _ _ ‹_›) ?_;rintro _ w11 ⟨rfl,hx11⟩;have hz11:=hx11.size;have hCS5:=hCS5.s0 hx11;refine ⟨hCS5,?_⟩;refine Qc (E2 J (B9 M9 J) ?_);intro b12 w12 hb12 hs12 hx12 hB12;have hCS5:=hCS5.s0 hx12;refine ⟨hCS5,?_⟩;refine Pe J8 J ‹_› J J ?_;intro w13 hs13 hx13 hB12;have hC:=hC.step ((hx11.j hx12).j hx13) (by simp<;>omega);have hB1:=hB1.q ((hx11.j hx12).j hx13) (by simp<;>omega);have hB3:=hB3.q ((hx11.j hx12).j hx13) (by simp<;>omega);exact Qc ⟨b1,b3,b12,sb J,hC,hB1,hB3,hB12,by omega,by omega,by omega⟩
       ·refine E2 J (B9 M9 J) ?_;intro b14 w14 hb14 hs14 hx14 hB14;have hCS5:=hCS5.s0 hx14;have hB10:=hB10.u hx14;refine ⟨hCS5,?_⟩;refine Qc (C5 J (C3 Ab0 J) (K0 _ _ _ _ _ _ _ _ ‹_›) ?_);rintro _ w15 ⟨rfl,hx15⟩;have hCS5:=hCS5.s0 hx15;have hB14:=hB14.u hx15;refine ⟨hCS5,?_⟩;refine Pe J8 J ‹_› J J ?_;intro w16 hs16 hx16 hB14;have hC:=hC.step ((hx14.j hx15).j hx16) (by simp<;>omega);have hB1:=hB1.q ((hx14.j hx15).j hx16) (by simp<;>omega);have hB3:=hB3.q ((hx14.j hx15).j hx16) (by simp<;>omega);exact Qc ⟨b1,b3,b14,sb J,hC,hB1,hB3,hB14,by omega,by omega,by omega⟩
      ·refine E2 J (B9 M9 J) ?_;intro b17 w17 hb17 hs17 hx17 hB17;have hCS5:=hCS5.s0 hx17;refine ⟨hCS5,?_⟩;refine Qc (E2 J (B6 Aq5 Tryz.underlying23 M9 J J J (by rfl)) ?_);intro b18 w18 hb18 hs18 hx18 hB18;have hCS5:=hCS5.s0 hx18;refine ⟨hCS5,?_⟩;refine C5 J (C3 Ab0 J) (K0 _ _ _ _ _ _ _ _ ‹_›) ?_;rintro _ w19 ⟨rfl,hx19⟩;have hCS5:=hCS5.s0 hx19;have hB17:=hB17.u (hx18.s0 hx19);refine ⟨hCS5,?_⟩;refine Pe J8 J ‹_› J J ?_;intro w20 hs20 hx20 hB17;have hC:=hC.step (((hx17.j hx18).j hx19).j hx20) (by simp<;>omega);have hB1:=hB1.q (((hx17.j hx18).j hx19).j hx20) (by simp<;>omega);have hB3:=hB3.q (((hx17.j hx18).j hx19).j hx20) (by simp<;>omega);exact Qc ⟨b1,b3,b17,sb J,hC,hB1,hB3,hB17,by omega,by omega,by omega⟩
     ·refine E2 J (B9 M9 J) ?_;intro b21 w21 hb21 hs21 hx21 hB21;have hCS5:=hCS5.s0 hx21;have hB8:=hB8.u hx21;refine ⟨hCS5,?_⟩;refine Qc (C5 J (C3 W2 J) (W1 _ _ _ _ _ ‹_› (by omega) (by omega)) ?_);rintro _ w22 ⟨rfl,hx22⟩;have hCS5:=hCS5.s0 hx22;refine ⟨hCS5,?_⟩;refine E2 J (B6 Aq5 Tryz.underlying23 M9 J J J (by rfl)) ?_;intro b23 w23 hb23 hs23 hx23 hB23;have hCS5:=hCS5.s0 hx23;refine ⟨hCS5,?_⟩;refine C5 J (C3 Ab0 J) (K0 _ _ _ _ _ _ _ _ ‹_›) ?_;rintro _ w24 ⟨rfl,hx24⟩;have hCS5:=hCS5.s0 hx24;have hB21:=hB21.u ((hx22.s0 hx23).s0 hx24);refine ⟨hCS5,?_⟩;refine Pe J8 J ‹_› J J ?_;intro w25 hs25 hx25 hB21;have hC:=hC.step ((((hx21.j hx22).j hx23).j hx24).j hx25) (by simp<;>omega);have hB1:=hB1.q ((((hx21.j hx22).j hx23).j hx24).j hx25) (by simp<;>omega);have hB3:=hB3.q ((((hx21.j hx22).j hx23).j hx24).j hx25) (by simp<;>omega);exact Qc ⟨b1,b3,b21,sb J,hC,hB1,hB3,hB21,by omega,by omega,by omega⟩
    ·refine E2 J (B9 M9 J) ?_;intro b26 w26 hb26 hs26 hx26 hB26;have hCS5:=hCS5.s0 hx26;refine ⟨hCS5,?_⟩;refine Qc (E2 J (B6 Aj2 Tryz.underlying44 zr5 J J J (by rfl)) ?_);intro b27 w27 hb27 hs27 hx27 hB27;have hCS5:=hCS5.s0 hx27;refine ⟨hCS5,?_⟩;refine C5 J (C3 W2 J) (W1 _ _ _ _ _ ‹_› (by omega) (by omega)) ?_;rintro _ w28 ⟨rfl,hx28⟩;have hCS5:=hCS5.s0 hx28;refine ⟨hCS5,?_⟩;refine E2 J (B6 Aq5 Tryz.underlying23 M9 J J J (by rfl)) ?_;intro b29 w29 hb29 hs29 hx29 hB29;have hCS5:=hCS5.s0 hx29;refine ⟨hCS5,?_⟩;refine C5 J (C3 Ab0 J) (K0 _ _ _ _ _ _ _ _ ‹_›) ?_;rintro _ w30 ⟨rfl,hx30⟩;have hCS5:=hCS5.s0 hx30;have hB26:=hB26.u (((hx27.s0 hx28).s0 hx29).s0 hx30);refine ⟨hCS5,?_⟩;refine Pe J8 J ‹_› J J ?_;intro w31 hs31 hx31 hB26;have hC:=hC.step (((((hx26.j hx27).j hx28).j hx29).j hx30).j hx31) (by simp<;>omega);have hB1:=hB1.q (((((hx26.j hx27).j hx28).j hx29).j hx30).j hx31) (by simp<;>omega);have hB3:=hB3.q (((((hx26.j hx27).j hx28).j hx29).j hx30).j hx31) (by simp<;>omega);exact Qc ⟨b1,b3,b26,sb J,hC,hB1,hB3,hB26,by omega,by omega,by omega⟩
   ·refine E2 J (B6 Aj2 Tryz.underlying44 zr5 J J J (by rfl)) ?_;intro b32 w32 hb32 hs32 hx32 hB32;have hC:=hC.s0 hx32;have hB1:=hB1.u hx32;have hB3:=hB3.u hx32;have hCS5:=hCS5.s0 hx32;refine ⟨hCS5,?_⟩
    refine Qc (Qc ⟨?_,?_⟩)
    ·refine C5 J (C3 Af1 J) (P3 _ _ (by decide) (by decide) _) ?_;rintro _ w33 ⟨rfl,hx33⟩;have hz33:=hx33.size;have hC:=hC.s0 hx33;have hB1:=hB1.u hx33;have hB3:=hB3.u hx33;have hCS5:=hCS5.s0 hx33;have hB32:=hB32.u hx33;refine ⟨hCS5,?_⟩
     refine Qc (Qc ⟨?_,?_⟩)
     ·refine C5 J (C3 W2 J) (W1 _ _ _ _ _ ‹_› (by omega) (by omega)) ?_;rintro _ w34 ⟨rfl,hx34⟩;have hz34:=hx34.size;have hC:=hC.s0 hx34;have hB1:=hB1.u hx34;have hB3:=hB3.u hx34;have hCS5:=hCS5.s0 hx34;refine ⟨hCS5,?_⟩
      refine Qc (Qc ⟨?_,?_⟩)
      ·refine E2 J (B6 Aq5 Tryz.underlying23 M9 J J J (by rfl)) ?_;intro b35 w35 hb35 hs35 hx35 hB35;have hC:=hC.s0 hx35;have hB1:=hB1.u hx35;have hB3:=hB3.u hx35;have hCS5:=hCS5.s0 hx35;refine ⟨hCS5,?_⟩
       refine Qc (Qc ⟨?_,?_⟩)
       ·refine C5 J (C3 Ab0 J) (K0 _ _ _ _ _ _ _ _ ‹_›) ?_;rintro _ w36 ⟨rfl,hx36⟩;have hz36:=hx36.size;have hCS5:=hCS5.s0 hx36;refine ⟨hCS5,?_⟩;refine Qc (E2 J (B9 M9 J) ?_);intro b37 w37 hb37 hs37 hx37 hB37;have hCS5:=hCS5.s0 hx37;refine ⟨hCS5,?_⟩;refine Pe J8 J ‹_› J J ?_;intro w38 hs38 hx38 hB37;have hC:=hC.step ((hx36.j hx37).j hx38) (by simp<;>omega);have hB1:=hB1.q ((hx36.j hx37).j hx38) (by simp<;>omega);have hB3:=hB3.q ((hx36.j hx37).j hx38) (by simp<;>omega);exact Qc ⟨b1,b3,b37,sb J,hC,hB1,hB3,hB37,by omega,by omega,by omega⟩
       ·refine E2 J (B9 M9 J) ?_;intro b39 w39 hb39 hs39 hx39 hB39;have hCS5:=hCS5.s0 hx39;have hB35:=hB35.u hx39;refine ⟨hCS5,?_⟩;refine Qc (C5 J (C3 Ab0 J) (K0 _ _ _ _ _ _ _ _ ‹_›) ?_);rintro _ w40 ⟨rfl,hx40⟩;have hCS5:=hCS5.s0 hx40;have hB39:=hB39.u hx40;refine ⟨hCS5,?_⟩;refine Pe J8 J ‹_› J J ?_;intro w41 hs41 hx41 hB39;have hC:=hC.step ((hx39.j hx40).j hx41) (by simp<;>omega);have hB1:=hB1.q ((hx39.j hx40).j hx41) (by simp<;>omega);have hB3:=hB3.q ((hx39.j hx40).j hx41) (by simp<;>omega);exact Qc ⟨b1,b3,b39,sb J,hC,hB1,hB3,hB39,by omega,by omega,by omega⟩
      ·refine E2 J (B9 M9 J) ?_;intro b42 w42 hb42 hs42 hx42 hB42;have hCS5:=hCS5.s0 hx42;refine ⟨hCS5,?_⟩;refine Qc (E2 J (B6 Aq5 Tryz.underlying23 M9 J J J (by rfl)) ?_);intro b43 w43 hb43 hs43 hx43 hB43;have hCS5:=hCS5.s0 hx43;refine ⟨hCS5,?_⟩;refine C5 J (C3 Ab0 J) (K0 _ _ _ _ _ _ _ _ ‹_›) ?_;rintro _ w44 ⟨rfl,hx44⟩;have hCS5:=hCS5.s0 hx44;have hB42:=hB42.u (hx43.s0 hx44);refine ⟨hCS5,?_⟩;refine Pe J8 J ‹_› J J ?_;intro w45 hs45 hx45 hB42;have hC:=hC.step (((hx42.j hx43).j hx44).j hx45) (by simp<;>omega);have hB1:=hB1.q (((hx42.j hx43).j hx44).j hx45) (by simp<;>omega);have hB3:=hB3.q (((hx42.j hx43).j hx44).j hx45) (by simp<;>omega);exact Qc ⟨b1,b3,b42,sb J,hC,hB1,hB3,hB42,by omega,by omega,by omega⟩
     ·refine E2 J (B9 M9 J) ?_;intro b46 w46 hb46 hs46 hx46 hB46;have hCS5:=hCS5.s0 hx46;have hB32:=hB32.u hx46;refine ⟨hCS5,?_⟩;refine Qc (C5 J (C3 W2 J) (W1 _ _ _ _ _ ‹_› (by omega) (by omega)) ?_);rintro _ w47 ⟨rfl,hx47⟩;have hCS5:=hCS5.s0 hx47;refine ⟨hCS5,?_⟩;refine E2 J (B6 Aq5 Tryz.underlying23 M9 J J J (by rfl)) ?_;intro b48 w48 hb48 hs48 hx48 hB48;have hCS5:=hCS5.s0 hx48;refine ⟨hCS5,?_⟩;refine C5 J (C3 Ab0 J) (K0 _ _ _ _ _ _ _ _ ‹_›) ?_;rintro _ w49 ⟨rfl,hx49⟩;have hCS5:=hCS5.s0 hx49;have hB46:=hB46.u ((hx47.s0 hx48).s0 hx49);refine ⟨hCS5,?_⟩;refine Pe J8 J ‹_› J J ?_;intro w50 hs50 hx50 hB46;have hC:=hC.step ((((hx46.j hx47).j hx48).j hx49).j hx50) (by simp<;>omega);have hB1:=hB1.q ((((hx46.j hx47).j hx48).j hx49).j hx50) (by simp<;>omega);have hB3:=hB3.q ((((hx46.j hx47).j hx48).j hx49).j hx50) (by simp<;>omega);exact Qc ⟨b1,b3,b46,sb J,hC,hB1,hB3,hB46,by omega,by omega,by omega⟩
    ·refine E2 J (B9 M9 J) ?_;intro b51 w51 hb51 hs51 hx51 hB51;have hCS5:=hCS5.s0 hx51;refine ⟨hCS5,?_⟩;refine Qc (C5 J (C3 Af1 J) (P3 _ _ (by decide) (by decide) _) ?_);rintro _ w52 ⟨rfl,hx52⟩;have hCS5:=hCS5.s0 hx52;have hB32:=hB32.u (hx51.s0 hx52);refine ⟨hCS5,?_⟩;refine C5 J (C3 W2 J) (W1 _ _ _ _ _ ‹_› (by omega) (by omega)) ?_;rintro _ w53 ⟨rfl,hx53⟩;have hCS5:=hCS5.s0 hx53;refine ⟨hCS5,?_⟩;refine E2 J (B6 Aq5 Tryz.underlying23 M9 J J J (by rfl)) ?_;intro b54 w54 hb54 hs54 hx54 hB54;have hCS5:=hCS5.s0 hx54;refine ⟨hCS5,?_⟩;refine C5 J (C3 Ab0 J) (K0 _ _ _ _ _ _ _ _ ‹_›) ?_;rintro _ w55 ⟨rfl,hx55⟩;have hCS5:=hCS5.s0 hx55;have hB51:=hB51.u (((hx52.s0 hx53).s0 hx54).s0 hx55);refine ⟨hCS5,?_⟩;refine Pe J8 J ‹_› J J ?_;intro w56 hs56 hx56 hB51;have hC:=hC.step (((((hx51.j hx52).j hx53).j hx54).j hx55).j hx56) (by simp<;>omega);have hB1:=hB1.q (((((hx51.j hx52).j hx53).j hx54).j hx55).j hx56) (by simp<;>omega);have hB3:=hB3.q (((((hx51.j hx52).j hx53).j hx54).j hx55).j hx56) (by simp<;>omega);exact Qc ⟨b1,b3,b51,sb J,hC,hB1,hB3,hB51,by omega,by omega,by omega⟩
   ·refine E2 J (B9 M9 J) ?_;intro b57 w57 hb57 hs57 hx57 hB57;have hC:=hC.s0 hx57;have hB1:=hB1.u hx57;have hB3:=hB3.u hx57;have hCS5:=hCS5.s0 hx57;refine ⟨hCS5,?_⟩
    refine Qc (Qc ⟨?_,?_⟩)
    ·refine C5 J (C3 Af1 J) (P3 _ _ (by decide) (by decide) _) ?_;rintro _ w58 ⟨rfl,hx58⟩;have hCS5:=hCS5.s0 hx58;refine ⟨hCS5,?_⟩;refine Qc (E2 J (B6 Aj2 Tryz.underlying44 zr5 J J J (by rfl)) ?_);intro b59 w59 hb59 hs59 hx59 hB59;have hCS5:=hCS5.s0 hx59;refine ⟨hCS5,?_⟩;refine C5 J (C3 W2 J) (W1 _ _ _ _ _ ‹_› (by omega) (by omega)) ?_;rintro _ w60 ⟨rfl,hx60⟩;have hCS5:=hCS5.s0 hx60;refine ⟨hCS5,?_⟩;refine E2 J (B6 Aq5 Tryz.underlying23 M9 J J J (by rfl)) ?_;intro b61 w61 hb61 hs61 hx61 hB61;have hCS5:=hCS5.s0 hx61;refine ⟨hCS5,?_⟩;refine C5 J (C3 Ab0 J) (K0 _ _ _ _ _ _ _ _ ‹_›) ?_;rintro _ w62 ⟨rfl,hx62⟩;have hCS5:=hCS5.s0 hx62;have hB57:=hB57.u ((((hx58.s0 hx59).s0 hx60).s0 hx61).s0 hx62);refine ⟨hCS5,?_⟩;refine Pe J8 J ‹_› J J ?_;intro w63 hs63 hx63 hB57;have hC:=hC.step (((((hx58.j hx59).j hx60).j hx61).j hx62).j hx63) (by simp<;>omega);have hB1:=hB1.q (((((hx58.j hx59).j hx60).j hx61).j hx62).j hx63) (by simp<;>omega);have hB3:=hB3.q (((((hx58.j hx59).j hx60).j hx61).j hx62).j hx63) (by simp<;>omega);exact Qc ⟨b1,b3,b57,sb J,hC,hB1,hB3,hB57,by omega,by omega,by omega⟩
    ·refine E2 J (B6 Aj2 Tryz.underlying44 zr5 J J J (by rfl)) ?_;intro b64 w64 hb64 hs64 hx64 hB64;have hCS5:=hCS5.s0 hx64;refine ⟨hCS5,?_⟩;refine Qc (C5 J (C3 Af1 J) (P3 _ _ (by decide) (by decide) _) ?_);rintro _ w65 ⟨rfl,hx65⟩;have hCS5:=hCS5.s0 hx65;have hB64:=hB64.u hx65;refine ⟨hCS5,?_⟩;refine C5 J (C3 W2 J) (W1 _ _ _ _ _ ‹_› (by omega) (by omega)) ?_;rintro _ w66 ⟨rfl,hx66⟩;have hCS5:=hCS5.s0 hx66;refine ⟨hCS5,?_⟩;refine E2 J (B6 Aq5 Tryz.underlying23 M9 J J J (by rfl)) ?_;intro b67 w67 hb67 hs67 hx67 hB67;have hCS5:=hCS5.s0 hx67;refine ⟨hCS5,?_⟩;refine C5 J (C3 Ab0 J) (K0 _ _ _ _ _ _ _ _ ‹_›) ?_;rintro _ w68 ⟨rfl,hx68⟩;have hCS5:=hCS5.s0 hx68;have hB57:=hB57.u ((((hx64.s0 hx65).s0 hx66).s0 hx67).s0 hx68);refine ⟨hCS5,?_⟩;refine Pe J8 J ‹_› J J ?_;intro w69 hs69 hx69 hB57;have hC:=hC.step (((((hx64.j hx65).j hx66).j hx67).j hx68).j hx69) (by simp<;>omega);have hB1:=hB1.q (((((hx64.j hx65).j hx66).j hx67).j hx68).j hx69) (by simp<;>omega);have hB3:=hB3.q (((((hx64.j hx65).j hx66).j hx67).j hx68).j hx69) (by simp<;>omega);exact Qc ⟨b1,b3,b57,sb J,hC,hB1,hB3,hB57,by omega,by omega,by omega⟩
  ·refine E2 J (B6 Aj2 Tryz.underlying44 zr5 J J J (by rfl)) ?_;intro b70 w70 hb70 hs70 hx70 hB70;have hC:=hC.s0 hx70;have hB1:=hB1.u hx70;have hB3:=hB3.u hx70;have hCS5:=hCS5.s0 hx70;refine ⟨hCS5,?_⟩
   refine Qc (Qc ⟨?_,?_⟩)
   ·refine C5 J (C3 Af1 J) (P3 _ _ (by decide) (by decide) _) ?_;rintro _ w71 ⟨rfl,hx71⟩;have hz71:=hx71.size;have hC:=hC.s0 hx71;have hB1:=hB1.u hx71;have hB3:=hB3.u hx71;have hCS5:=hCS5.s0 hx71;have hB70:=hB70.u hx71;refine ⟨hCS5,?_⟩
    refine Qc (Qc ⟨?_,?_⟩)
    ·refine C5 J (C3 Af1 J) (P3 _ _ (by decide) (by decide) _) ?_;rintro _ w72 ⟨rfl,hx72⟩;have hz72:=hx72.size;have hC:=hC.s0 hx72;have hB1:=hB1.u hx72;have hB3:=hB3.u hx72;have hCS5:=hCS5.s0 hx72;have hB70:=hB70.u hx72;refine ⟨hCS5,?_⟩
     refine Qc (Qc ⟨?_,?_⟩)
     ·refine C5 J (C3 W2 J) (W1 _ _ _ _ _ ‹_› (by omega) (by omega)) ?_;rintro _ w73 ⟨rfl,hx73⟩;have hz73:=hx73.size;have hC:=hC.s0 hx73;have hB1:=hB1.u hx73;have hB3:=hB3.u hx73;have hCS5:=hCS5.s0 hx73;refine ⟨hCS5,?_⟩
      refine Qc (Qc ⟨?_,?_⟩)
      ·refine E2 J (B6 Aq5 Tryz.underlying23 M9 J J J (by rfl)) ?_;intro b74 w74 hb74 hs74 hx74 hB74;have hC:=hC.s0 hx74;have hB1:=hB1.u hx74;have hB3:=hB3.u hx74;have hCS5:=hCS5.s0 hx74;refine ⟨hCS5,?_⟩
       refine Qc (Qc ⟨?_,?_⟩)
       ·refine C5 J (C3 Ab0 J) (K0 _ _ _ _ _ _ _ _ ‹_›) ?_;rintro _ w75 ⟨rfl,hx75⟩;have hz75:=hx75.size;have hCS5:=hCS5.s0 hx75;refine ⟨hCS5,?_⟩;refine Qc (E2 J (B9 M9 J) ?_);intro b76 w76 hb76 hs76 hx76 hB76;have hCS5:=hCS5.s0 hx76;refine ⟨hCS5,?_⟩;refine Pe J8 J ‹_› J J ?_;intro w77 hs77 hx77 hB76;have hC:=hC.step ((hx75.j hx76).j hx77) (by simp<;>omega);have hB1:=hB1.q ((hx75.j hx76).j hx77) (by simp<;>omega);have hB3:=hB3.q ((hx75.j hx76).j hx77) (by simp<;>omega);exact Qc ⟨b1,b3,b76,sb J,hC,hB1,hB3,hB76,by omega,by omega,by omega⟩
       ·refine E2 J (B9 M9 J) ?_;intro b78 w78 hb78 hs78 hx78 hB78;have hCS5:=hCS5.s0 hx78;have hB74:=hB74.u hx78;refine ⟨hCS5,?_⟩;refine Qc (C5 J (C3 Ab0 J) (K0 _ _ _ _ _ _ _ _ ‹_›) ?_);rintro _ w79 ⟨rfl,hx79⟩;have hCS5:=hCS5.s0 hx79;have hB78:=hB78.u hx79;refine ⟨hCS5,?_⟩;refine Pe J8 J ‹_› J J ?_;intro w80 hs80 hx80 hB78;have hC:=hC.step ((hx78.j hx79).j hx80) (by simp<;>omega);have hB1:=hB1.q ((hx78.j hx79).j hx80) (by simp<;>omega);have hB3:=hB3.q ((hx78.j hx79).j hx80) (by simp<;>omega);exact Qc ⟨b1,b3,b78,sb J,hC,hB1,hB3,hB78,by omega,by omega,by omega⟩
      ·refine E2 J (B9 M9 J) ?_;intro b81 w81 hb81 hs81 hx81 hB81;have hCS5:=hCS5.s0 hx81;refine ⟨hCS5,?_⟩;refine Qc (E2 J (B6 Aq5 Tryz.underlying23 M9 J J J (by rfl)) ?_);intro b82 w82 hb82 hs82 hx82 hB82;have hCS5:=hCS5.s0 hx82;refine ⟨hCS5,?_⟩;refine C5 J (C3 Ab0 J) (K0 _ _ _ _ _ _ _ _ ‹_›) ?_;rintro _ w83 ⟨rfl,hx83⟩;have hCS5:=hCS5.s0 hx83;have hB81:=hB81.u (hx82.s0 hx83);refine ⟨hCS5,?_⟩;refine Pe J8 J ‹_› J J ?_;intro w84 hs84 hx84 hB81;have hC:=hC.step (((hx81.j hx82).j hx83).j hx84) (by simp<;>omega);have hB1:=hB1.q (((hx81.j hx82).j hx83).j hx84) (by simp<;>omega);have hB3:=hB3.q (((hx81.j hx82).j hx83).j hx84) (by simp<;>omega);exact Qc ⟨b1,b3,b81,sb J,hC,hB1,hB3,hB81,by omega,by omega,by omega⟩
     ·refine E2 J (B9 M9 J) ?_;intro b85 w85 hb85 hs85 hx85 hB85;have hCS5:=hCS5.s0 hx85;have hB70:=hB70.u hx85;refine ⟨hCS5,?_⟩;refine Qc (C5 J (C3 W2 J) (W1 _ _ _ _ _ ‹_› (by omega) (by omega)) ?_);rintro _ w86 ⟨rfl,hx86⟩;have hCS5:=hCS5.s0 hx86;refine ⟨hCS5,?_⟩;refine E2 J (B6 Aq5 Tryz.underlying23 M9 J J J (by rfl)) ?_;intro b87 w87 hb87 hs87 hx87 hB87;have hCS5:=hCS5.s0 hx87;refine ⟨hCS5,?_⟩;refine C5 J (C3 Ab0 J) (K0 _ _ _ _ _ _ _ _ ‹_›) ?_;rintro _ w88 ⟨rfl,hx88⟩;have hCS5:=hCS5.s0 hx88;have hB85:=hB85.u ((hx86.s0 hx87).s0 hx88);refine ⟨hCS5,?_⟩;refine Pe J8 J ‹_› J J ?_;intro w89 hs89 hx89 hB85;have hC:=hC.step ((((hx85.j hx86).j hx87).j hx88).j hx89) (by simp<;>omega);have hB1:=hB1.q ((((hx85.j hx86).j hx87).j hx88).j hx89) (by simp<;>omega);have hB3:=hB3.q ((((hx85.j hx86).j hx87).j hx88).j hx89) (by simp<;>omega);exact Qc ⟨b1,b3,b85,sb J,hC,hB1,hB3,hB85,by omega,by omega,by omega⟩
    ·refine E2 J (B9 M9 J) ?_;intro b90 w90 hb90 hs90 hx90 hB90;have hCS5:=hCS5.s0 hx90;refine ⟨hCS5,?_⟩;refine Qc (C5 J (C3 Af1 J) (P3 _ _ (by decide) (by decide) _) ?_);rintro _ w91 ⟨rfl,hx91⟩;have hCS5:=hCS5.s0 hx91;have hB70:=hB70.u (hx90.s0 hx91);refine ⟨hCS5,?_⟩;refine C5 J (C3 W2 J) (W1 _ _ _ _ _ ‹_› (by omega) (by omega)) ?_;rintro _ w92 ⟨rfl,hx92⟩;have hCS5:=hCS5.s0 hx92;refine ⟨hCS5,?_⟩;refine E2 J (B6 Aq5 Tryz.underlying23 M9 J J J (by rfl)) ?_;intro b93 w93 hb93 hs93 hx93 hB93;have hCS5:=hCS5.s0 hx93;refine ⟨hCS5,?_⟩;refine C5 J (C3 Ab0 J) (K0 _ _ _ _ _ _ _ _ ‹_›) ?_;rintro _ w94 ⟨rfl,hx94⟩;have hCS5:=hCS5.s0 hx94;have hB90:=hB90.u (((hx91.s0 hx92).s0 hx93).s0 hx94);refine ⟨hCS5,?_⟩;refine Pe J8 J ‹_› J J ?_;intro w95 hs95 hx95 hB90;have hC:=hC.step (((((hx90.j hx91).j hx92).j hx93).j hx94).j hx95) (by simp<;>omega);have hB1:=hB1.q (((((hx90.j hx91).j hx92).j hx93).j hx94).j hx95) (by simp<;>omega);have hB3:=hB3.q (((((hx90.j hx91).j hx92).j hx93).j hx94).j hx95) (by simp<;>omega);exact Qc ⟨b1,b3,b90,sb J,hC,hB1,hB3,hB90,by omega,by omega,by omega⟩
   ·refine E2 J (B9 M9 J) ?_;intro b96 w96 hb96 hs96 hx96 hB96;have hCS5:=hCS5.s0 hx96;refine ⟨hCS5,?_⟩;refine Qc (C5 J (C3 Af1 J) (P3 _ _ (by decide) (by decide) _) ?_);rintro _ w97 ⟨rfl,hx97⟩;have hCS5:=hCS5.s0 hx97;refine ⟨hCS5,?_⟩;refine C5 J (C3 Af1 J) (P3 _ _ (by decide) (by decide) _) ?_;rintro _ w98 ⟨rfl,hx98⟩;have hCS5:=hCS5.s0 hx98;have hB70:=hB70.u ((hx96.s0 hx97).s0 hx98);refine ⟨hCS5,?_⟩;refine C5 J (C3 W2 J) (W1 _ _ _ _ _ ‹_› (by omega) (by omega)) ?_;rintro _ w99 ⟨rfl,hx99⟩;have hCS5:=hCS5.s0 hx99;refine ⟨hCS5,?_⟩;refine E2 J (B6 Aq5 Tryz.underlying23 M9 J J J (by rfl)) ?_;intro b100 w100 hb100 hs100 hx100 hB100;have hCS5:=hCS5.s0 hx100;refine ⟨hCS5,?_⟩;refine C5 J (C3 Ab0 J) (K0 _ _ _ _ _ _ _ _ ‹_›) ?_;rintro _ w101 ⟨rfl,hx101⟩;have hCS5:=hCS5.s0 hx101;have hB96:=hB96.u ((((hx97.s0 hx98).s0 hx99).s0 hx100).s0 hx101);refine ⟨hCS5,?_⟩;refine Pe J8 J ‹_› J J ?_;intro w102 hs102 hx102 hB96;have hC:=hC.step ((((((hx96.j hx97).j hx98).j hx99).j hx100).j hx101).j hx102) (by simp<;>omega);have hB1:=hB1.q ((((((hx96.j hx97).j hx98).j hx99).j hx100).j hx101).j hx102) (by simp<;>omega);have hB3:=hB3.q ((((((hx96.j hx97).j hx98).j hx99).j hx100).j hx101).j hx102) (by simp<;>omega);exact Qc ⟨b1,b3,b96,sb J,hC,hB1,hB3,hB96,by omega,by omega,by omega⟩
  ·refine E2 J (B9 M9 J) ?_;intro b103 w103 hb103 hs103 hx103 hB103;have hC:=hC.s0 hx103;have hB1:=hB1.u hx103;have hB3:=hB3.u hx103;have hCS5:=hCS5.s0 hx103;refine ⟨hCS5,?_⟩
   refine Qc (Qc ⟨?_,?_⟩)
   ·refine C5 J (C3 Af1 J) (P3 _ _ (by decide) (by decide) _) ?_;rintro _ w104 ⟨rfl,hx104⟩;have hC:=hC.s0 hx104;have hB1:=hB1.u hx104;have hB3:=hB3.u hx104;have hCS5:=hCS5.s0 hx104;have hB103:=hB103.u hx104;refine ⟨hCS5,?_⟩
    refine Qc (Qc ⟨?_,?_⟩)
    ·refine C5 J (C3 Af1 J) (P3 _ _ (by decide) (by decide) _) ?_;rintro _ w105 ⟨rfl,hx105⟩;have hCS5:=hCS5.s0 hx105;refine ⟨hCS5,?_⟩;refine Qc (E2 J (B6 Aj2 Tryz.underlying44 zr5 J J J (by rfl)) ?_);intro b106 w106 hb106 hs106 hx106 hB106;have hCS5:=hCS5.s0 hx106;refine ⟨hCS5,?_⟩;refine C5 J (C3 W2 J) (W1 _ _ _ _ _ ‹_› (by omega) (by omega)) ?_;rintro _ w107 ⟨rfl,hx107⟩;have hCS5:=hCS5.s0 hx107;refine ⟨hCS5,?_⟩;refine E2 J (B6 Aq5 Tryz.underlying23 M9 J J J (by rfl)) ?_;intro b108 w108 hb108 hs108 hx108 hB108;have hCS5:=hCS5.s0 hx108;refine ⟨hCS5,?_⟩;refine C5 J (C3 Ab0 J) (K0 _ _ _ _ _ _ _ _ ‹_›) ?_;rintro _ w109 ⟨rfl,hx109⟩;have hCS5:=hCS5.s0 hx109;have hB103:=hB103.u ((((hx105.s0 hx106).s0 hx107).s0 hx108).s0 hx109);refine ⟨hCS5,?_⟩;refine Pe J8 J ‹_› J J ?_;intro w110 hs110 hx110 hB103;have hC:=hC.step (((((hx105.j hx106).j hx107).j hx108).j hx109).j hx110) (by simp<;>omega);have hB1:=hB1.q (((((hx105.j hx106).j hx107).j hx108).j hx109).j hx110) (by simp<;>omega);have hB3:=hB3.q (((((hx105.j hx106).j hx107).j hx108).j hx109).j hx110) (by simp<;>omega);exact Qc ⟨b1,b3,b103,sb J,hC,hB1,hB3,hB103,by omega,by omega,by omega⟩
    ·refine E2 J (B6 Aj2 Tryz.underlying44 zr5 J J J (by rfl)) ?_;intro b111 w111 hb111 hs111 hx111 hB111;have hCS5:=hCS5.s0 hx111;refine ⟨hCS5,?_⟩;refine Qc (C5 J (C3 Af1 J) (P3 _ _ (by decide) (by decide) _) ?_);rintro _ w112 ⟨rfl,hx112⟩;have hCS5:=hCS5.s0 hx112;have hB111:=hB111.u hx112;refine ⟨hCS5,?_⟩;refine C5 J (C3 W2 J) (W1 _ _ _ _ _ ‹_› (by omega) (by omega)) ?_;rintro _ w113 ⟨rfl,hx113⟩;have hCS5:=hCS5.s0 hx113;refine ⟨hCS5,?_⟩;refine E2 J (B6 Aq5 Tryz.underlying23 M9 J J J (by rfl)) ?_;intro b114 w114 hb114 hs114 hx114 hB114;have hCS5:=hCS5.s0 hx114;refine ⟨hCS5,?_⟩;refine C5 J (C3 Ab0 J) (K0 _ _ _ _ _ _ _ _ ‹_›) ?_;rintro _ w115 ⟨rfl,hx115⟩;have hCS5:=hCS5.s0 hx115;have hB103:=hB103.u ((((hx111.s0 hx112).s0 hx113).s0 hx114).s0 hx115);refine ⟨hCS5,?_⟩;refine Pe J8 J ‹_› J J ?_;intro w116 hs116 hx116 hB103;have hC:=hC.step (((((hx111.j hx112).j hx113).j hx114).j hx115).j hx116) (by simp<;>omega);have hB1:=hB1.q (((((hx111.j hx112).j hx113).j hx114).j hx115).j hx116) (by simp<;>omega);have hB3:=hB3.q (((((hx111.j hx112).j hx113).j hx114).j hx115).j hx116) (by simp<;>omega);exact Qc ⟨b1,b3,b103,sb J,hC,hB1,hB3,hB103,by omega,by omega,by omega⟩
   ·refine E2 J (B6 Aj2 Tryz.underlying44 zr5 J J J (by rfl)) ?_;intro b117 w117 hb117 hs117 hx117 hB117;have hCS5:=hCS5.s0 hx117;refine ⟨hCS5,?_⟩;refine Qc (C5 J (C3 Af1 J) (P3 _ _ (by decide) (by decide) _) ?_);rintro _ w118 ⟨rfl,hx118⟩;have hCS5:=hCS5.s0 hx118;refine ⟨hCS5,?_⟩;refine C5 J (C3 Af1 J) (P3 _ _ (by decide) (by decide) _) ?_;rintro _ w119 ⟨rfl,hx119⟩;have hCS5:=hCS5.s0 hx119;have hB117:=hB117.u (hx118.s0 hx119);refine ⟨hCS5,?_⟩;refine C5 J (C3 W2 J) (W1 _ _ _ _ _ ‹_› (by omega) (by omega)) ?_;rintro _ w120 ⟨rfl,hx120⟩;have hCS5:=hCS5.s0 hx120;refine ⟨hCS5,?_⟩;refine E2 J (B6 Aq5 Tryz.underlying23 M9 J J J (by rfl)) ?_;intro b121 w121 hb121 hs121 hx121 hB121;have hCS5:=hCS5.s0 hx121;refine ⟨hCS5,?_⟩;refine C5 J (C3 Ab0 J) (K0 _ _ _ _ _ _ _ _ ‹_›) ?_;rintro _ w122 ⟨rfl,hx122⟩;have hCS5:=hCS5.s0 hx122;have hB103:=hB103.u (((((hx117.s0 hx118).s0 hx119).s0 hx120).s0 hx121).s0 hx122);refine ⟨hCS5,?_⟩;refine Pe J8 J ‹_› J J ?_;intro w123 hs123 hx123 hB103;have hC:=hC.step ((((((hx117.j hx118).j hx119).j hx120).j hx121).j hx122).j hx123) (by simp<;>omega);have hB1:=hB1.q ((((((hx117.j hx118).j hx119).j hx120).j hx121).j hx122).j hx123) (by simp<;>omega);have hB3:=hB3.q ((((((hx117.j hx118).j hx119).j hx120).j hx121).j hx122).j hx123) (by simp<;>omega);exact Qc ⟨b1,b3,b103,sb J,hC,hB1,hB3,hB103,by omega,by omega,by omega⟩
 rintro e9 w9 ⟨b1,b2,b3,hs9,hC,hB1,hB2,hB3,hlt2,hlt3,hge⟩;refine H9 _ hs9 ?_;clear hs9 e9
 try have hlB2:=hB2.lt
 try have hlB3:=hB3.lt
 refine Qd (Ca Af1 J (P3 _ _ (by decide) (by decide) _) ?_);rintro _ w124 ⟨rfl,hx124⟩;have hz124:=hx124.size;refine B5 J (B6 Aj2 Tryz.underlying44 zr5 J J J (by rfl)) ?_;intro b125 w125 hb125 hs125 hx125 hB125;refine Ca W2 J (W1 _ _ _ _ _ ‹_› (by omega) (by omega)) ?_;rintro _ w126 ⟨rfl,hx126⟩;have hz126:=hx126.size;refine B5 J (B6 Aq5 Tryz.underlying23 M9 J J J (by rfl)) ?_;intro b127 w127 hb127 hs127 hx127 hB127;refine Ca Ab0 J (Bx5 _ _ _ _ _ _ ‹_›) ?_;rintro _ w128 ⟨rfl,hx128⟩;have hz128:=hx128.size;refine B5 J (B9 M9 J) ?_;intro b129 w129 hb129 hs129 hx129 hB129;refine Pe J8 J ‹_› J J ?_;intro w130 hs130 hx130 hB129;have hC:=hC.step ((((((hx124.j hx125).j hx126).j hx127).j hx128).j hx129).j hx130) (by simp<;>omega);have hB1:=hB1.q ((((((hx124.j hx125).j hx126).j hx127).j hx128).j hx129).j hx130) (by simp<;>omega);have hB2:=hB2.q ((((((hx124.j hx125).j hx126).j hx127).j hx128).j hx129).j hx130) (by simp<;>omega);have hB3:=hB3.q ((((((hx124.j hx125).j hx126).j hx127).j hx128).j hx129).j hx130) (by simp<;>omega)
 refine Qc (Qa (Qd (Zc 1 J (B2 (Qd (Zc 2 J (A4 J (fun hc110=>?_) (fun hc110=>?_))))))))
 ·try simp at hc110
  refine Qd (B5 J (B6 Aj2 Tryz.underlying44 zr5 J J J (by rfl)) ?_);intro b131 w131 hb131 hs131 hx131 hB131;refine Ca W2 J (W1 _ _ _ _ _ ‹_› (by omega) (by omega)) ?_;rintro _ w132 ⟨rfl,hx132⟩;have hB1:=hB1.u (hx131.s0 hx132);refine Pe J8 J ‹_› J J ?_;intro w133 hs133 hx133 hB1;have hC:=hC.step ((hx131.j hx132).j hx133) (by simp<;>omega);refine Zc 1 J (A6 (I5 J J (A5 J0 ‹_› J J) J ?_));exact ⟨by rw [show c=110 from by omega];rfl,hC⟩
 ·try simp at hc110
  refine Qd (Zc 2 J (A4 J (fun hc116=>?_) (fun hc116=>?_)))
  ·try simp at hc116
   refine Qd (B5 J (B6 Aj2 Tryz.underlying44 zr5 J J J (by rfl)) ?_);intro b134 w134 hb134 hs134 hx134 hB134;refine Ca W2 J (W1 _ _ _ _ _ ‹_› (by omega) (by omega)) ?_;rintro _ w135 ⟨rfl,hx135⟩;have hB1:=hB1.u (hx134.s0 hx135);refine Pe J8 J ‹_› J J ?_;intro w136 hs136 hx136 hB1;have hC:=hC.step ((hx134.j hx135).j hx136) (by simp<;>omega);refine Zc 1 J (A6 (I5 J J (A5 J0 ‹_› J J) J ?_));exact ⟨by rw [show c=116 from by omega];rfl,hC⟩
  ·try simp at hc116
   refine Qd (Zc 2 J (A4 J (fun hc114=>?_) (fun hc114=>?_)))
   ·try simp at hc114
    refine Qd (B5 J (B6 Aj2 Tryz.underlying44 zr5 J J J (by rfl)) ?_);intro b137 w137 hb137 hs137 hx137 hB137;refine Ca W2 J (W1 _ _ _ _ _ ‹_› (by omega) (by omega)) ?_;rintro _ w138 ⟨rfl,hx138⟩;have hB1:=hB1.u (hx137.s0 hx138);refine Pe J8 J ‹_› J J ?_;intro w139 hs139 hx139 hB1;have hC:=hC.step ((hx137.j hx138).j hx139) (by simp<;>omega);refine Zc 1 J (A6 (I5 J J (A5 J0 ‹_› J J) J ?_));exact ⟨by rw [show c=114 from by omega];rfl,hC⟩
   ·try simp at hc114
    refine Qd (Zc 2 J (A4 J (fun hc102=>?_) (fun hc102=>?_)))
    ·try simp at hc102
     refine Qd (B5 J (B6 Aj2 Tryz.underlying44 zr5 J J J (by rfl)) ?_);intro b140 w140 hb140 hs140 hx140 hB140;refine Ca W2 J (W1 _ _ _ _ _ ‹_› (by omega) (by omega)) ?_;rintro _ w141 ⟨rfl,hx141⟩;have hB1:=hB1.u (hx140.s0 hx141);refine Pe J8 J ‹_› J J ?_;intro w142 hs142 hx142 hB1;have hC:=hC.step ((hx140.j hx141).j hx142) (by simp<;>omega);refine Zc 1 J (A6 (I5 J J (A5 J0 ‹_› J J) J ?_));exact ⟨by rw [show c=102 from by omega];rfl,hC⟩
    ·try simp at hc102
     refine Qd (Zc 2 J (A4 J (fun hc118=>?_) (fun hc118=>?_)))
     ·try simp at hc118
      refine Qd (B5 J (B6 Aj2 Tryz.underlying44 zr5 J J J (by rfl)) ?_);intro b143 w143 hb143 hs143 hx143 hB143;refine Ca W2 J (W1 _ _ _ _ _ ‹_› (by omega) (by omega)) ?_;rintro _ w144 ⟨rfl,hx144⟩;have hB1:=hB1.u (hx143.s0 hx144);refine Pe J8 J ‹_› J J ?_;intro w145 hs145 hx145 hB1;have hC:=hC.step ((hx143.j hx144).j hx145) (by simp<;>omega);refine Zc 1 J (A6 (I5 J J (A5 J0 ‹_› J J) J ?_));exact ⟨by rw [show c=118 from by omega];rfl,hC⟩
     ·try simp at hc118
      refine Qd (Zc 2 J (A4 J (fun hc100=>?_) (fun hc100=>?_)))
      ·try simp at hc100
       refine Qd (La J0 J ‹_› J J ?_);refine Pe J8 J ‹_› J J ?_;intro w146 hs146 hx146 hB1;have hC:=hC.step hx146 (by simp<;>omega);refine Zc 1 J (A6 (I5 J J (A5 J0 ‹_› J J) J ?_));exact ⟨by rw [show c=100 from by omega];rfl,hC⟩
      ·try simp at hc100
       refine Qd (Zc 2 J (A4 J (fun hc119=>?_) (fun hc119=>?_)))
       ·try simp at hc119
        refine Qd (La J0 J ‹_› J J ?_);refine Pe J8 J ‹_› J J ?_;intro w147 hs147 hx147 hB1;have hC:=hC.step hx147 (by simp<;>omega);refine Zc 1 J (A6 (I5 J J (A5 J0 ‹_› J J) J ?_));exact ⟨by rw [show c=119 from by omega];rfl,hC⟩
       ·try simp at hc119
        refine Qd (Zc 2 J (A4 J (fun hc115=>?_) (fun hc115=>?_)))
        ·try simp at hc115
         refine Qd (La J0 J ‹_› J J ?_);refine Pe J8 J ‹_› J J ?_;intro w148 hs148 hx148 hB1;have hC:=hC.step hx148 (by simp<;>omega);refine Zc 1 J (A6 (I5 J J (A5 J0 ‹_› J J) J ?_));exact ⟨by rw [show c=115 from by omega];rfl,hC⟩
        ·try simp at hc115
         refine Qd (Zc 2 J (A4 J (fun hc68=>?_) (fun hc68=>?_)))
         ·try simp at hc68
          refine Qd (La J0 J ‹_› J J ?_);refine Ca Do3 J (Dl8 _ (by exact Co1) _) ?_;rintro _ w149 ⟨rfl,hx149⟩;have hB1:=hB1.u hx149;refine Pe J8 J ‹_› J J ?_;intro w150 hs150 hx150 hB1;have hC:=hC.step (hx149.j hx150) (by simp<;>omega);refine Zc 1 J (A6 (I5 J J (A5 J0 ‹_› J J) J ?_));exact ⟨by rw [show c=68 from by omega];rfl,hC⟩
         ·try simp at hc68
          refine Qd (Zc 2 J (A4 J (fun hc87=>?_) (fun hc87=>?_)))
          ·try simp at hc87
           refine Qd (La J0 J ‹_› J J ?_);refine Ca Do3 J (Dl8 _ (by exact Dr8) _) ?_;rintro _ w151 ⟨rfl,hx151⟩;have hB1:=hB1.u hx151;refine Pe J8 J ‹_› J J ?_;intro w152 hs152 hx152 hB1;have hC:=hC.step (hx151.j hx152) (by simp<;>omega);refine Zc 1 J (A6 (I5 J J (A5 J0 ‹_› J J) J ?_));exact ⟨by rw [show c=87 from by omega];rfl,hC⟩
          ·try simp at hc87
           refine Qd (Zc 2 J (A4 J (fun hc83=>?_) (fun hc83=>?_)))
           ·try simp at hc83
            refine Qd (La J0 J ‹_› J J ?_);refine Ca Do3 J (Dl8 _ (by exact Da6) _) ?_;rintro _ w153 ⟨rfl,hx153⟩;have hB1:=hB1.u hx153;refine Pe J8 J ‹_› J J ?_;intro w154 hs154 hx154 hB1;have hC:=hC.step (hx153.j hx154) (by simp<;>omega);refine Zc 1 J (A6 (I5 J J (A5 J0 ‹_› J J) J ?_));exact ⟨by rw [show c=83 from by omega];rfl,hC⟩
           ·try simp at hc83
            refine A7 (Qd (C9 J (D8 M9 Au2 J (by rfl)) ?_));refine Pe J8 J ‹_› J J ?_;intro w155 hs155 hx155 hB1;have hC:=hC.step hx155 (by simp<;>omega);refine Zc 1 J (A6 (I5 J J (A5 J0 ‹_› J J) J ?_));have:Aj3 c=none:=by unfold Aj3;rw [Ej6 (by omega),Ej6 (by omega),Ej6 (by omega),Ej6 (by omega),Ej6 (by omega),Ej6 (by omega),Ej6 (by omega),Ej6 (by omega),Ej6 (by omega),Ej6 (by omega),Ej6 (by omega)]
            exact ⟨by rw [this];rfl,hC⟩
def dig:List Nat→Nat
 |[]=>0
 |b::r=>b+256*dig r
theorem Z6 {a b x y:Nat} (ha:a<256) (hb:b<256):(a+256*x) &&& (b+256*y)=(a &&& b)+256*(x &&& y):=by
 have h1:((a+256*x) &&& (b+256*y)) % 2 ^ 8=(a &&& b):=by rw [Nat.and_mod_two_pow,show (a+256*x) % 2 ^ 8=a from by omega,show (b+256*y) % 2 ^ 8=b from by omega]
 have h2:((a+256*x) &&& (b+256*y)) / 2 ^ 8=(x &&& y):=by rw [Nat.and_div_two_pow,show (a+256*x) / 2 ^ 8=x from by omega,show (b+256*y) / 2 ^ 8=y from by omega]
 omega
def Az4 (b:Nat):Nat:=((List.range 8).filter fun j=>b.testBit j).length
def cnt (s n:Nat):Nat:=((List.range n).filter fun j=>s.testBit j).length
theorem Af2 (s n m:Nat):cnt s (n+m)=cnt s n+cnt (s / 2 ^ n) m:=by
 unfold cnt;rw [List.range_add,Eq1,Ek1,List.filter_map,En7]
 congr 2
 apply congrArg (fun f=>List.filter f (List.range m))
 funext j
 simp [Es0,Nat.add_comm]
theorem cnt8 (s:Nat):cnt s 8=Az4 (s % 256):=by
 unfold cnt Az4
 congr 1
 apply List.filter_congr;intro j hj;have:j<8:=Em7.1 hj;rw [show (256:Nat)=2 ^ 8 from rfl,Eq5];simp [this]
theorem Ef7 (s:Nat):Ag5 s=cnt s 256:=rfl
theorem cnt64 (s:Nat):cnt s 64=Az4 (s % 256)+Az4 (s / 256 % 256)+Az4 (s / 65536 % 256)+Az4 (s / 16777216 % 256)+Az4 (s / 4294967296 % 256)+Az4 (s / 1099511627776 % 256)+Az4 (s / 281474976710656 % 256)+Az4 (s / 72057594037927936 % 256):=by
 rw [Af2 s 8 56,Af2 _ 8 48,Af2 _ 8 40,Af2 _ 8 32,Af2 _ 8 24,Af2 _ 8 16,Af2 _ 8 8];simp only [cnt8,Nat.div_div_eq_div_mul];simp only [Nat.reducePow,Nat.reduceMul];omega
theorem cnt_mod (s:Nat):cnt (s % 2 ^ 64) 64=cnt s 64:=by
 unfold cnt
 congr 1
 apply List.filter_congr;intro j hj;have:j<64:=Em7.1 hj;rw [Eq5];simp [this]
def wdN (s i:Nat):Nat:=s / 2 ^ (64*i) % 2 ^ 64
theorem Co4 (s:Nat):Ag5 s=cnt (wdN s 0) 64+cnt (wdN s 1) 64+cnt (wdN s 2) 64+cnt (wdN s 3) 64:=by
 rw [Ef7,Af2 s 64 192,Af2 _ 64 128,Af2 _ 64 64];unfold wdN;simp only [cnt_mod,Nat.div_div_eq_div_mul];simp only [Nat.reducePow,Nat.reduceMul,Nat.div_one];omega
def f1 (b:Nat):Nat:=(b / 2 &&& 85)+(b &&& 85)
def f2 (b:Nat):Nat:=(b / 4 &&& 51)+(b &&& 51)
def f3 (b:Nat):Nat:=(b / 16+b) &&& 15
theorem f1_c:∀ b,b<256→∀ c,c<2→(b / 2+128*c) &&& 85=b / 2 &&& 85:=by decide+kernel
theorem f2_c:∀ b,b<256→∀ c,c<4→(b / 4+64*c) &&& 51=b / 4 &&& 51:=by decide+kernel
theorem f3_c:∀ b,b<256→∀ c,c<16→(b / 16+16*c+b) &&& 15=(b / 16+b) &&& 15:=by decide+kernel
theorem Ar0:∀ b,b<256→f1 b<256:=by decide+kernel
theorem Aa6:∀ b,b<256→f2 (f1 b)≤68∧f2 (f1 b) % 16≤4:=by decide+kernel
theorem f321:∀ b,b<256→f3 (f2 (f1 b))=Az4 b:=by decide+kernel
theorem Am2:∀ b,b<256→Az4 b≤8:=by decide+kernel
theorem dig8 (x:Nat) (hx:x<2 ^ 64):∃ a b c d e f g h:Nat,a<256∧b<256∧c<256∧d<256∧e<256∧f<256∧g<256∧h<256∧x=dig [a,b,c,d,e,f,g,h]:=
 ⟨x % 256,x / 256 % 256,x / 65536 % 256,x / 16777216 % 256,x / 4294967296 % 256,x / 1099511627776 % 256,x / 281474976710656 % 256,x / 72057594037927936 % 256,by omega,by omega,by omega,by omega,by omega,by omega,by omega,by omega,by simp only [dig];omega⟩
def st1 (x:Nat):Nat:=(x / 2 &&& 6148914691236517205)+(x &&& 6148914691236517205)
def st2 (x:Nat):Nat:=(x / 4 &&& 3689348814741910323)+(x &&& 3689348814741910323)
def st3 (x:Nat):Nat:=(x / 16+x) &&& 1085102592571150095
theorem and8 {a b c d e f g h m M:Nat} (hM:M=dig [m,m,m,m,m,m,m,m]) (hm:m<256) (ha:a<256) (hb:b<256) (hc:c<256) (hd:d<256) (he:e<256) (hf:f<256) (hg:g<256) (hh:h<256):
  dig [a,b,c,d,e,f,g,h] &&& M=dig [a &&& m,b &&& m,c &&& m,d &&& m,e &&& m,f &&& m,g &&& m,h &&& m]:=by
 subst hM;simp only [dig];rw [Z6 ha hm,Z6 hb hm,Z6 hc hm,Z6 hd hm,Z6 he hm,Z6 hf hm,Z6 hg hm,Z6 hh hm];simp
theorem st1_dig {a b c d e f g h:Nat} (ha:a<256) (hb:b<256) (hc:c<256) (hd:d<256) (he:e<256) (hf:f<256) (hg:g<256) (hh:h<256):
  st1 (dig [a,b,c,d,e,f,g,h])=dig [f1 a,f1 b,f1 c,f1 d,f1 e,f1 f,f1 g,f1 h]:=by
 unfold st1;have h2:dig [a,b,c,d,e,f,g,h] / 2=dig [a / 2+128*(b % 2),b / 2+128*(c % 2),c / 2+128*(d % 2),d / 2+128*(e % 2),e / 2+128*(f % 2),f / 2+128*(g % 2),g / 2+128*(h % 2),h / 2+128*0]:=by simp only [dig];omega
 rw [h2,and8 (m:=85) (M:=6148914691236517205) J (by decide) (by omega) (by omega) (by omega) (by omega) (by omega) (by omega) (by omega) (by omega),and8 (m:=85) (M:=6148914691236517205) J (by decide) ha hb hc hd he hf hg hh];rw [f1_c a ha _ (by omega),f1_c b hb _ (by omega),f1_c c hc _ (by omega),f1_c d hd _ (by omega),f1_c e he _ (by omega),f1_c f hf _ (by omega),f1_c g hg _ (by omega),f1_c h hh _ (by omega)];simp only [dig,f1];omega
theorem st2_dig {a b c d e f g h:Nat} (ha:a<256) (hb:b<256) (hc:c<256) (hd:d<256) (he:e<256) (hf:f<256) (hg:g<256) (hh:h<256):
  st2 (dig [a,b,c,d,e,f,g,h])=dig [f2 a,f2 b,f2 c,f2 d,f2 e,f2 f,f2 g,f2 h]:=by
 unfold st2;have h2:dig [a,b,c,d,e,f,g,h] / 4=dig [a / 4+64*(b % 4),b / 4+64*(c % 4),c / 4+64*(d % 4),d / 4+64*(e % 4),e / 4+64*(f % 4),f / 4+64*(g % 4),g / 4+64*(h % 4),h / 4+64*0]:=by simp only [dig];omega
 rw [h2,and8 (m:=51) (M:=3689348814741910323) J (by decide) (by omega) (by omega) (by omega) (by omega) (by omega) (by omega) (by omega) (by omega),and8 (m:=51) (M:=3689348814741910323) J (by decide) ha hb hc hd he hf hg hh];rw [f2_c a ha _ (by omega),f2_c b hb _ (by omega),f2_c c hc _ (by omega),f2_c d hd _ (by omega),f2_c e he _ (by omega),f2_c f hf _ (by omega),f2_c g hg _ (by omega),f2_c h hh _ (by omega)];simp only [dig,f2];omega
theorem st3_dig {a b c d e f g h:Nat} (ha:a≤68∧a % 16≤4) (hb:b≤68∧b % 16≤4) (hc:c≤68∧c % 16≤4) (hd:d≤68∧d % 16≤4) (he:e≤68∧e % 16≤4) (hf:f≤68∧f % 16≤4) (hg:g≤68∧g % 16≤4) (hh:h≤68∧h % 16≤4):
  st3 (dig [a,b,c,d,e,f,g,h])=dig [f3 a,f3 b,f3 c,f3 d,f3 e,f3 f,f3 g,f3 h]:=by
 unfold st3;have h2:dig [a,b,c,d,e,f,g,h] / 16+dig [a,b,c,d,e,f,g,h]=dig [a / 16+16*(b % 16)+a,b / 16+16*(c % 16)+b,c / 16+16*(d % 16)+c,d / 16+16*(e % 16)+d,e / 16+16*(f % 16)+e,f / 16+16*(g % 16)+f,g / 16+16*(h % 16)+g,h / 16+16*0+h]:=by simp only [dig];omega
 rw [h2,and8 (m:=15) (M:=1085102592571150095) J (by decide) (by omega) (by omega) (by omega) (by omega) (by omega) (by omega) (by omega) (by omega)];rw [f3_c a (by omega) _ (by omega),f3_c b (by omega) _ (by omega),f3_c c (by omega) _ (by omega),f3_c d (by omega) _ (by omega),f3_c e (by omega) _ (by omega),f3_c f (by omega) _ (by omega),f3_c g (by omega) _ (by omega),f3_c h (by omega) _ (by omega)]
 rfl
def st4 (x:Nat):Nat:=x+x / 256
def st5 (x:Nat):Nat:=x+x / 65536
def st6 (x:Nat):Nat:=x+x / 4294967296
theorem dig_pop {a b c d e f g h:Nat} (ha:a<256) (hb:b<256) (hc:c<256) (hd:d<256) (he:e<256) (hf:f<256) (hg:g<256) (hh:h<256):
  cnt (dig [a,b,c,d,e,f,g,h]) 64=Az4 a+Az4 b+Az4 c+Az4 d+Az4 e+Az4 f+Az4 g+Az4 h:=by
 rw [cnt64];simp only [dig]
 congr 1;congr 1;congr 1;congr 1;congr 1;congr 1;congr 1
 all_goals (congr 1;omega)
theorem Dg7 {a b c d e f g h:Nat} (ha:a<256) (hb:b<256) (hc:c<256) (hd:d<256) (he:e<256) (hf:f<256) (hg:g<256) (hh:h<256):dig [a,b,c,d,e,f,g,h]<2 ^ 64:=by
 have e7:dig [h]≤255:=by show h+256*0≤_;omega
 have e6:dig [g,h]≤65535:=by show g+256*dig [h]≤_;omega
 have e5:dig [f,g,h]≤16777215:=by show f+256*dig [g,h]≤_;omega
 have e4:dig [e,f,g,h]≤4294967295:=by show e+256*dig [f,g,h]≤_;omega
 have e3:dig [d,e,f,g,h]≤1099511627775:=by show d+256*dig [e,f,g,h]≤_;omega
 have e2:dig [c,d,e,f,g,h]≤281474976710655:=by show c+256*dig [d,e,f,g,h]≤_;omega
 have e1:dig [b,c,d,e,f,g,h]≤72057594037927935:=by show b+256*dig [c,d,e,f,g,h]≤_;omega
 have e0:dig [a,b,c,d,e,f,g,h]≤18446744073709551615:=by show a+256*dig [b,c,d,e,f,g,h]≤_;omega
 omega
theorem dig_63 {a b c d e f g h:Nat} (ha:a<256) (hb:b<256) (hc:c<256) (hd:d<256) (he:e<256) (hf:f<256) (hg:g<256) (hh:h<128):dig [a,b,c,d,e,f,g,h]<2 ^ 63:=by
 have e7:dig [h]≤127:=by show h+256*0≤_;omega
 have e6:dig [g,h]≤32767:=by show g+256*dig [h]≤_;omega
 have e5:dig [f,g,h]≤8388607:=by show f+256*dig [g,h]≤_;omega
 have e4:dig [e,f,g,h]≤2147483647:=by show e+256*dig [f,g,h]≤_;omega
 have e3:dig [d,e,f,g,h]≤549755813887:=by show d+256*dig [e,f,g,h]≤_;omega
 have e2:dig [c,d,e,f,g,h]≤140737488355327:=by show c+256*dig [d,e,f,g,h]≤_;omega
 have e1:dig [b,c,d,e,f,g,h]≤36028797018963967:=by show b+256*dig [c,d,e,f,g,h]≤_;omega
 have e0:dig [a,b,c,d,e,f,g,h]≤9223372036854775807:=by show a+256*dig [b,c,d,e,f,g,h]≤_;omega
 omega
theorem dig_68 {a b c d e f g h:Nat} (ha:a≤68) (hb:b≤68) (hc:c≤68) (hd:d≤68) (he:e≤68) (hf:f≤68) (hg:g≤68) (hh:h≤68):dig [a,b,c,d,e,f,g,h] / 16+dig [a,b,c,d,e,f,g,h]<2 ^ 64:=by
 have e7:dig [h]≤68:=by show h+256*0≤_;omega
 have e6:dig [g,h]≤17476:=by show g+256*dig [h]≤_;omega
 have e5:dig [f,g,h]≤4473924:=by show f+256*dig [g,h]≤_;omega
 have e4:dig [e,f,g,h]≤1145324612:=by show e+256*dig [f,g,h]≤_;omega
 have e3:dig [d,e,f,g,h]≤293203100740:=by show d+256*dig [e,f,g,h]≤_;omega
 have e2:dig [c,d,e,f,g,h]≤75059993789508:=by show c+256*dig [d,e,f,g,h]≤_;omega
 have e1:dig [b,c,d,e,f,g,h]≤19215358410114116:=by show b+256*dig [c,d,e,f,g,h]≤_;omega
 have e0:dig [a,b,c,d,e,f,g,h]≤4919131752989213764:=by show a+256*dig [b,c,d,e,f,g,h]≤_;omega
 omega
theorem dig_mod (a b c d e f g h:Nat):dig [a,b,c,d,e,f,g,h] % 128=a % 128:=by
 show (a+256*dig [b,c,d,e,f,g,h]) % 128=a % 128;generalize dig [b,c,d,e,f,g,h]=y;omega
theorem dig_div1 {a r:Nat} (ha:a<256):(a+256*r) / 256=r:=by omega
theorem dig_div2 {a b r:Nat} (ha:a<256) (hb:b<256):(a+256*(b+256*r)) / 65536=r:=by omega
theorem dig_div4 {a b c d r:Nat} (ha:a<256) (hb:b<256) (hc:c<256) (hd:d<256):(a+256*(b+256*(c+256*(d+256*r)))) / 4294967296=r:=by omega
theorem st4_dig (a b c d e f g h:Nat) (ha:a<256):st4 (dig [a,b,c,d,e,f,g,h])=dig [a+b,b+c,c+d,d+e,e+f,f+g,g+h,h]:=by
 simp only [st4,dig];rw [dig_div1 ha];omega
theorem st5_dig (a b c d e f g h:Nat) (ha:a<256) (hb:b<256):st5 (dig [a,b,c,d,e,f,g,h])=dig [a+c,b+d,c+e,d+f,e+g,f+h,g,h]:=by
 simp only [st5,dig];rw [dig_div2 ha hb];omega
theorem st6_dig (a b c d e f g h:Nat) (ha:a<256) (hb:b<256) (hc:c<256) (hd:d<256):st6 (dig [a,b,c,d,e,f,g,h])=dig [a+e,b+f,c+g,d+h,e,f,g,h]:=by
 simp only [st6,dig];rw [dig_div4 ha hb hc hd];omega
theorem Cj4 (x:Nat) (hx:x<2 ^ 64):st1 x<2 ^ 64∧st2 (st1 x)<2 ^ 64∧st2 (st1 x) / 16+st2 (st1 x)<2 ^ 64∧st3 (st2 (st1 x))<2 ^ 64∧st4 (st3 (st2 (st1 x)))<2 ^ 64∧st5 (st4 (st3 (st2 (st1 x))))<2 ^ 64∧
  st6 (st5 (st4 (st3 (st2 (st1 x)))))<2 ^ 63∧st6 (st5 (st4 (st3 (st2 (st1 x))))) % 128=cnt x 64∧cnt x 64≤64:=by
 obtain ⟨a,b,c,d,e,f,g,h,ha,hb,hc,hd,he,hf,hg,hh,rfl⟩:=dig8 x hx
 rw [dig_pop ha hb hc hd he hf hg hh,st1_dig ha hb hc hd he hf hg hh,st2_dig (Ar0 a ha) (Ar0 b hb) (Ar0 c hc) (Ar0 d hd) (Ar0 e he) (Ar0 f hf) (Ar0 g hg) (Ar0 h hh),
  st3_dig (Aa6 a ha) (Aa6 b hb) (Aa6 c hc) (Aa6 d hd) (Aa6 e he) (Aa6 f hf) (Aa6 g hg) (Aa6 h hh),f321 a ha,f321 b hb,f321 c hc,f321 d hd,f321 e he,f321 f hf,f321 g hg,f321 h hh]
 have qa:=Am2 a ha;have qb:=Am2 b hb;have qc:=Am2 c hc;have qd:=Am2 d hd;have qe:=Am2 e he;have qf:=Am2 f hf;have qg:=Am2 g hg;have qh:=Am2 h hh;have L1:=Dg7 (Ar0 a ha) (Ar0 b hb) (Ar0 c hc) (Ar0 d hd) (Ar0 e he) (Ar0 f hf) (Ar0 g hg) (Ar0 h hh);have L2:=dig_68 (Aa6 a ha).1 (Aa6 b hb).1 (Aa6 c hc).1 (Aa6 d hd).1 (Aa6 e he).1 (Aa6 f hf).1 (Aa6 g hg).1 (Aa6 h hh).1;generalize Az4 a=pa at*;generalize Az4 b=pb at*;generalize Az4 c=pc at*;generalize Az4 d=pd at*;generalize Az4 e=pe at*;generalize Az4 f=pf at*;generalize Az4 g=pg at*;generalize Az4 h=ph at*;refine ⟨L1,by omega,L2,?_⟩;clear L1 L2;rw [st4_dig _ _ _ _ _ _ _ _ (by omega),st5_dig _ _ _ _ _ _ _ _ (by omega) (by omega),st6_dig _ _ _ _ _ _ _ _ (by omega) (by omega) (by omega) (by omega)]
 exact ⟨Dg7 (by omega) (by omega) (by omega) (by omega) (by omega) (by omega) (by omega) (by omega),Dg7 (by omega) (by omega) (by omega) (by omega) (by omega) (by omega) (by omega) (by omega),Dg7 (by omega) (by omega) (by omega) (by omega) (by omega) (by omega) (by omega) (by omega),
  dig_63 (by omega) (by omega) (by omega) (by omega) (by omega) (by omega) (by omega) (by omega),by rw [dig_mod];omega,by omega⟩
theorem O0 {P:Program} {n:Nat} {e:Env} {o:Oper} {φ:World→Prop} {v v':Value} (h:Does P n e o φ v) (hv:v=v'):Does P n e o φ v':=hv ▸ h
theorem As1 (x k:Nat) (hk:k≤64):Value.int .u64 ((x:Int).fdiv (2 ^ (min ((k:Int)).toNat IntKind.u64.bits)))= .int .u64 ((x / 2 ^ k:Nat):Int):=by
 have h64:IntKind.u64.bits=64:=rfl;rw [h64,Ek6,Nat.min_eq_left hk,Int.fdiv_eq_ediv_of_nonneg _ (by exact Int.le_of_lt (Int.pow_pos (by decide)))]
 congr 1
theorem Bc0 (x y z:Nat) (hz:x+y=z) (h:z<2 ^ 64):Value.int .u64 (IntKind.u64.wrap ((x:Int)+(y:Int)))= .int .u64 ((z:Nat):Int):=J5 (by rw [Ao8 (by omega)];omega)
theorem and127 (x:Nat) (hx:x<2 ^ 63):Az6 .and .i64 (x:Int) 127=((x % 128:Nat):Int):=by
 unfold Az6;have e1:(BitVec.ofInt IntKind.i64.bits (x:Int)).toNat=x:=by simp [IntKind.bits];omega
 have e2:(BitVec.ofInt IntKind.i64.bits (127:Int)).toNat=127:=rfl;simp only [BitVec.toNat_and,e1,e2];rw [show (127:Nat)=2 ^ 7 - 1 from rfl,Nat.and_two_pow_sub_one_eq_mod];exact I3 (by omega)
theorem ones_c (x:Nat) (hx:x<2 ^ 64) (w:World):Calls P 113 #[.int .u64 (x:Int)] w (Ret fun v w'=>v= .int .i64 ((cnt x 64:Nat):Int)∧w'=w):=by
 obtain ⟨h1,h2,h3,h4,h5,h6,h7,h8,h9⟩:=Cj4 x hx;obtain ⟨u1,eu1⟩:∃ u:Nat,u=x / 2 ^ 1:=⟨_,rfl⟩;obtain ⟨u2,eu2⟩:∃ u:Nat,u=u1 &&& 6148914691236517205:=⟨_,rfl⟩;obtain ⟨u3,eu3⟩:∃ u:Nat,u=x &&& 6148914691236517205:=⟨_,rfl⟩;obtain ⟨y1,ey1⟩:∃ u:Nat,u=u2+u3:=⟨_,rfl⟩;obtain ⟨u4,eu4⟩:∃ u:Nat,u=y1 / 2 ^ 2:=⟨_,rfl⟩;obtain ⟨u5,eu5⟩:∃ u:Nat,u=u4 &&& 3689348814741910323:=⟨_,rfl⟩;obtain ⟨u6,eu6⟩:∃ u:Nat,u=y1 &&& 3689348814741910323:=⟨_,rfl⟩;obtain ⟨y2,ey2⟩:∃ u:Nat,u=u5+u6:=⟨_,rfl⟩;obtain ⟨u7,eu7⟩:∃ u:Nat,u=y2 / 2 ^ 4:=⟨_,rfl⟩;obtain ⟨u8,eu8⟩:∃ u:Nat,u=u7+y2:=⟨_,rfl⟩;obtain ⟨y3,ey3⟩:∃ u:Nat,u=u8 &&& 1085102592571150095:=⟨_,rfl⟩;obtain ⟨u9,eu9⟩:∃ u:Nat,u=y3 / 2 ^ 8:=⟨_,rfl⟩;obtain ⟨y4,ey4⟩:∃ u:Nat,u=y3+u9:=⟨_,rfl⟩;obtain ⟨u10,eu10⟩:∃ u:Nat,u=y4 / 2 ^ 16:=⟨_,rfl⟩;obtain ⟨y5,ey5⟩:∃ u:Nat,u=y4+u10:=⟨_,rfl⟩;obtain ⟨u11,eu11⟩:∃ u:Nat,u=y5 / 2 ^ 32:=⟨_,rfl⟩;obtain ⟨y6,ey6⟩:∃ u:Nat,u=y5+u11:=⟨_,rfl⟩;have q1:y1=st1 x:=by rw [ey1,eu2,eu3,eu1];rfl
 have q2:y2=st2 (st1 x):=by rw [← q1,ey2,eu5,eu6,eu4];rfl
 have q8:u8=st2 (st1 x) / 16+st2 (st1 x):=by rw [← q2,eu8,eu7]
 have q3:y3=st3 (st2 (st1 x)):=by rw [← q2,ey3,eu8,eu7];rfl
 have q4:y4=st4 (st3 (st2 (st1 x))):=by rw [← q3,ey4,eu9];rfl
 have q5:y5=st5 (st4 (st3 (st2 (st1 x)))):=by rw [← q4,ey5,eu10];rfl
 have q6:y6=st6 (st5 (st4 (st3 (st2 (st1 x))))):=by rw [← q5,ey6,eu11];rfl
 rw [← q1] at h1;rw [← q2] at h2;rw [← q8] at h3;rw [← q3] at h4;rw [← q4] at h5;rw [← q5] at h6;rw [← q6] at h7 h8;have s4:Value.int .u64 ((x:Int).fdiv (2 ^ (min ((1:Int)).toNat IntKind.u64.bits)))= .int .u64 (u1:Int):=by rw [eu1];exact As1 x 1 (by decide)
 have s5:Az6 .and .u64 (u1:Int) 6148914691236517205=(u2:Int):=by rw [eu2];exact Ai7 u1 6148914691236517205 (by rw [eu1];omega) (by decide)
 have s7:Az6 .and .u64 (x:Int) 6148914691236517205=(u3:Int):=by rw [eu3];exact Ai7 x 6148914691236517205 hx (by decide)
 have s8:Value.int .u64 (IntKind.u64.wrap ((u2:Int)+(u3:Int)))= .int .u64 (y1:Int):=Bc0 _ _ y1 ey1.symm (by omega);have s10:Value.int .u64 ((y1:Int).fdiv (2 ^ (min ((2:Int)).toNat IntKind.u64.bits)))= .int .u64 (u4:Int):=by rw [eu4];exact As1 y1 2 (by decide)
 have s11:Az6 .and .u64 (u4:Int) 3689348814741910323=(u5:Int):=by rw [eu5];exact Ai7 u4 3689348814741910323 (by rw [eu4];omega) (by decide)
 have s13:Az6 .and .u64 (y1:Int) 3689348814741910323=(u6:Int):=by rw [eu6];exact Ai7 y1 3689348814741910323 h1 (by decide)
 have s14:Value.int .u64 (IntKind.u64.wrap ((u5:Int)+(u6:Int)))= .int .u64 (y2:Int):=Bc0 _ _ y2 ey2.symm (by omega);have s16:Value.int .u64 ((y2:Int).fdiv (2 ^ (min ((4:Int)).toNat IntKind.u64.bits)))= .int .u64 (u7:Int):=by rw [eu7];exact As1 y2 4 (by decide)
 have s18:Value.int .u64 (IntKind.u64.wrap ((u7:Int)+(y2:Int)))= .int .u64 (u8:Int):=Bc0 _ _ u8 eu8.symm (by omega);have s19:Az6 .and .u64 (u8:Int) 1085102592571150095=(y3:Int):=by rw [ey3];exact Ai7 u8 1085102592571150095 h3 (by decide)
 have s22:Value.int .u64 ((y3:Int).fdiv (2 ^ (min ((8:Int)).toNat IntKind.u64.bits)))= .int .u64 (u9:Int):=by rw [eu9];exact As1 y3 8 (by decide)
 have s23:Value.int .u64 (IntKind.u64.wrap ((y3:Int)+(u9:Int)))= .int .u64 (y4:Int):=Bc0 _ _ y4 ey4.symm (by omega);have s26:Value.int .u64 ((y4:Int).fdiv (2 ^ (min ((16:Int)).toNat IntKind.u64.bits)))= .int .u64 (u10:Int):=by rw [eu10];exact As1 y4 16 (by decide)
 have s27:Value.int .u64 (IntKind.u64.wrap ((y4:Int)+(u10:Int)))= .int .u64 (y5:Int):=Bc0 _ _ y5 ey5.symm (by omega);have s30:Value.int .u64 ((y5:Int).fdiv (2 ^ (min ((32:Int)).toNat IntKind.u64.bits)))= .int .u64 (u11:Int):=by rw [eu11];exact As1 y5 32 (by decide)
 have s31:Value.int .u64 (IntKind.u64.wrap ((y5:Int)+(u11:Int)))= .int .u64 (y6:Int):=Bc0 _ _ y6 ey6.symm (by omega);have s34:Az6 .and .i64 (y6:Int) 127=((cnt x 64:Nat):Int):=by rw [and127 _ h7,h8]
 clear h1 h2 h3 h4 h5 h6 h8 h9 q1 q2 q3 q4 q5 q6 q8 eu1 eu2 eu3 ey1 eu4 eu5 eu6 ey2 eu7 eu8 ey3 eu9 ey4 eu10 ey5 eu11 ey6;refine D4 Tryz.func113 J J (Qd (Zc 1 J (Qd (Z 1 J (C9 J (O0 (Ab2 J J (by decide)) s4) ?_)))));refine C9 J (O0 (Q4 J J J) (J5 s5)) (Z 1 J (C9 J (O0 (Q4 J J J) (J5 s7)) (C9 J (O0 (Ae5 J J) s8) (Zc 1 J (Qd (Z 1 J (C9 J (O0 (Ab2 J J (by decide)) s10) ?_)))))));refine C9 J (O0 (Q4 J J J) (J5 s11)) (Z 1 J (C9 J (O0 (Q4 J J J) (J5 s13)) (C9 J (O0 (Ae5 J J) s14) (Zc 1 J (Qd (Z 1 J (C9 J (O0 (Ab2 J J (by decide)) s16) ?_)))))));refine Z 1 J (C9 J (O0 (Ae5 J J) s18) (C9 J (O0 (Q4 J J J) (J5 s19)) (Zc 1 J (Qd (Z 2 J (C9 J (O0 (Ab2 J J (by decide)) s22) ?_))))));refine C9 J (O0 (Ae5 J J) s23) (Zc 1 J (Qd (Z 2 J (C9 J (O0 (Ab2 J J (by decide)) s26) ?_))));refine C9 J (O0 (Ae5 J J) s27) (Zc 1 J (Qd (Z 2 J (C9 J (O0 (Ab2 J J (by decide)) s30) ?_))));exact C9 J (O0 (Ae5 J J) s31) (Zc 1 J (Qd (Z 1 J (C9 J (O0 (Cq9 kn68 Tryz.underlying3 J) (show Value.int .i64 (IntKind.i64.wrap (y6:Int))= .int .i64 (y6:Int) from J5 (I3 (by omega)))) (C9 J (O0 (Q4 J J J) (J5 s34)) (Zc 1 J (A6 (B4 J J ⟨rfl,rfl⟩))))))))
theorem Ds0 (s i:Nat):wd s i=((wdN s i:Nat):Int):=rfl
theorem Ef6 (s:Nat) (w:World):Calls P 83 #[.agg (C4 s).toArray] w (Ret fun v w'=>v= .int .i64 ((Ag5 s:Nat):Int)∧Chg [] w w'):=by
 have h:=count_c_ s w (fun i=>cnt (wdN s i) 64) (fun i _ w=>ones_c (wdN s i) (Ep1 _ (by decide)) w) (fun i _=>(Cj4 (wdN s i) (Ep1 _ (by decide))).2.2.2.2.2.2.2.2);rw [Co4];exact h
structure Laid (w:World):Prop where
 sz:4≤w.heap.size
 t64:∀ j,j<64→w.cell? ⟨0,j,none⟩=some (.int .u8 (Lib.deBruijn64tab.getD j 0:Nat))
 p10:∀ j,j<20→w.cell? ⟨1,j,none⟩=some (.int .u64 ((10 ^ j:Nat):Int))
 h10:∃ a b,w.heap[1]?=some (.cells (Lib.pow10Tab.map fun z=>Value.int .u64 z).toArray a b)
theorem Laid.q {S:List Nat} {w w':World} (h:Laid w) (k:Chg S w w') (hS:∀ b∈S,4≤b):Laid w':=
 have n0:0∉S:=fun h0=>by have:=hS 0 h0;omega
 have n1:1∉S:=fun h0=>by have:=hS 1 h0;omega
 ⟨En2 h.sz k.size,fun j hj=>k.cell n0 (h.t64 j hj),fun j hj=>k.cell n1 (h.p10 j hj),by rw [k.same 1 (by have:=h.sz;omega) n1];exact h.h10⟩
theorem Laid.u {w w':World} (h:Laid w) (k:Chg [] w w'):Laid w':=h.q k (fun b hb=>by cases hb)
theorem first_is {s n:Nat} (hn:n<256) (h1:s.testBit n=true) (h2:∀ j,j<n→s.testBit j=false):L8 s=n:=by
 unfold L8
 have:(List.range 256).find? (fun b=>s.testBit b)=some n:=by
  rw [List.find?_range_eq_some];exact ⟨h1,by simpa using hn,fun j hj=>by rw [h2 j hj];rfl⟩
 rw [this];rfl
theorem Ef4 {x:Nat} (h0:x≠0) (h:x<2 ^ 64):Lib.ctz 64 x<64∧x.testBit (Lib.ctz 64 x)=true∧∀ j,j<Lib.ctz 64 x→x.testBit j=false:=by
 obtain ⟨m,hm,hlt⟩:=Lib.ctzFrom_spec 64 x (Nat.pos_of_ne_zero h0) h;unfold Lib.ctz;rw [Ej6 h0];generalize Lib.ctzFrom 64 x=c at hm hlt;subst hm
 refine ⟨hlt,?_,fun j hj=>?_⟩
 ·rw [Nat.testBit_two_pow_mul];simp
 ·rw [Nat.testBit_two_pow_mul];simp;omega
theorem Cs1 (s k j:Nat) (hj:j<64):(wdN s k).testBit j=s.testBit (64*k+j):=by
 unfold wdN;rw [Eq5,Es0];simp [hj,Nat.add_comm]
theorem Dn8 {s k:Nat} (hk:k<4) (hz:∀ i,i<k→wdN s i=0) (h0:wdN s k≠0):L8 s=64*k+Lib.ctz 64 (wdN s k):=by
 obtain ⟨h1,h2,h3⟩:=Ef4 h0 (Ep1 _ (by decide));refine first_is (by omega) (by rw [← Cs1 s k _ h1];exact h2) (fun j hj=>?_)
 rcases Er1 j (64*k) with h|h
 ·have:=Cs1 s (j / 64) (j % 64) (Ep1 _ (by decide));rw [hz _ (by omega),show 64*(j / 64)+j % 64=j from by omega] at this;rw [← this];simp
 ·have:=Cs1 s k (j - 64*k) (by omega);rw [show 64*k+(j - 64*k)=j from by omega] at this;rw [← this];exact h3 _ (by omega)
theorem wdN_ne {s k:Nat} (h:wdN s k≠0):s≠0:=by
 intro h0;subst h0;apply h;unfold wdN;simp
theorem Dj3 {s:Nat} (hs:L4 s) (h:∀ i,i<4→wdN s i=0):s=0:=
 Du1 hs P7 (fun i hi=>by rw [Ds0,h i hi];unfold wd;simp)
theorem Dn7:L8 0=0:=by decide+kernel
theorem tz_idx (x:Nat) (h0:x≠0) (hx:x<2 ^ 64):∃ n a m i:Nat,(IntKind.u64.wrap (0 - (x:Int))=(n:Int))∧Az6 .and .u64 (x:Int) (n:Int)=(a:Int)∧IntKind.u64.wrap ((a:Int)*285870213051353865)=(m:Int)∧
  Value.int .u64 ((m:Int).fdiv (2 ^ (min ((58:Int)).toNat IntKind.u64.bits)))= .int .u64 (i:Int)∧i<64∧Lib.deBruijn64tab.getD i 0=Lib.ctz 64 x∧Lib.ctz 64 x<64:=by
 obtain ⟨hlow,hk⟩:=Lib.lowest_bit 64 x h0 hx;obtain ⟨hi,htab⟩:=Lib.deBruijn64_at _ hk
 refine ⟨2 ^ 64 - x,2 ^ Lib.ctz 64 x,2 ^ Lib.ctz 64 x*285870213051353865 % 18446744073709551616,_,?_,?_,?_,?_,hi,htab,hk⟩
 ·rw [IntKind.wrap_u64];omega
 ·rw [Ai7 x (2 ^ 64 - x) hx (by omega),hlow]
 ·rw [IntKind.wrap_u64];omega
 ·exact As1 _ 58 (by decide)
theorem tz_c (x:Nat) (hx:x<2 ^ 64) (h0:x≠0) (w:World) (hL:Laid w):Calls P 104 #[.int .u64 (x:Int)] w (Ret fun v w'=>v= .int .i64 ((Lib.ctz 64 x:Nat):Int)∧w'=w):=by
 obtain ⟨n,a,m,i,s7,s8,s9,s10,hi,htab,hlt⟩:=tz_idx x h0 hx;have hcell:=hL.t64 i hi;rw [htab] at hcell;rw [← s7] at s8
 refine D4 Tryz.func104 J J (Qd (Zc 1 J (Qa (Qd (Zc 2 J (A4 J (fun hc=>?_) (fun hc=>?_)))))))
 ·try simp at hc
  omega
 ·try simp at hc
  refine A7 (Qd (Z 2 J (C9 J (Does.neg J) (C9 J (O0 (Q4 J J J) (J5 s8)) (C9 J (O0 (Cg1 J J) (J5 s9)) (C9 J (O0 (Ab2 J J (by decide)) s10) ?_))))));refine C9 J (E5 ar226 J J (by omega) (by omega)) (Lc o5 J (by rw [El4];exact hcell) ?_);refine C9 J (H3 kn5 Tryz.underlying3 J (by exact I3 (by omega))) ?_;exact Zc 1 J (A6 (B4 J J ⟨rfl,rfl⟩))
theorem Cx4 (s:Nat) (hs:L4 s) (w:World) (hL:Laid w):Calls P 74 #[.agg (C4 s).toArray] w (Ret fun v w'=>v= .tuple #[.int .u8 ((L8 s:Nat):Int),.bool (decide (s≠0))]∧Chg [] w w'):=by
 have hC:=A8 [] w;refine D4 Tryz.func74 J J (Qd (B5 J (E1 J J) ?_));intro b1 w1 hb1 hs1 hx1 hB1;have hC:=hC.s0 hx1;have hL:=hL.u hx1;refine Zc 2 J (Qa (Qd (La J0 J ‹_› J J ?_)))
 refine Zc 1 J (B2 (D9 (σ:=Nat) (fun k=>[(6,.agg (C4 s).toArray),(7,.int .i64 k)]) (fun k wr=>Chg [] w wr∧Laid wr∧k≤4∧(∀ i,i<k→wdN s i=0)) (fun k wr=>4 - k) 0 (sb J) ?_ ?_))
 ·exact ⟨hC,hL,by omega,fun i hi=>by omega⟩
 rintro k w9 ⟨hC,hL,hk,hz⟩
 try have hzw:=hC.size
 refine Qd (Zc 1 J (Qa (A4 J (fun hc=>?_) (fun hc=>?_))))
 ·try simp at hc
  refine A7 (Qa (B2 (Qd (Z 1 J (C9 J (Au4 Au2 (by kernel_rfl) J J (by omega) (by omega) (Al4 s k (by omega))) ?_)))))
  refine Zc 2 J (Qd (Zc 2 J (A4 J (fun hw=>?_) (fun hw=>?_))))
  ·try simp at hw
   have hw':wdN s k≠0:=fun h=>by apply hw;rw [Ds0,h];rfl
   have hf:=Dn8 (by omega) hz hw';have hlt:=(Ef4 hw' (Ep1 _ (by decide))).1;refine Qd (Z 1 J (C9 J (Ao6 J J (by omega)) (Z 1 J (Ca fb104 J (tz_c (wdN s k) (Ep1 _ (by decide)) hw' _ ‹_›) ?_))));rintro _ _ ⟨rfl,rfl⟩;refine Ad J J (by omega) (C9 J (H3 kn3 Tryz.underlying5 J (by exact Ak4 (by omega))) ?_);exact Zc 2 J (A6 (J7 J J J ⟨by rw [hf,Ek8 (wdN_ne hw')];rfl,hC⟩))
  ·try simp at hw
   refine A7 (Qb (Ad J J (by omega) (Zc 1 J ⟨k+1,sb J,?_,?_⟩)));refine ⟨hC,hL,by omega,fun i hi=>?_⟩
   by_cases hik:i=k
   ·subst hik;rw [Ds0] at hw;omega
   ·exact hz i (by omega)
   omega
 ·try simp at hc
  refine Xb (Qd (Zc 2 J (A6 (J7 J J J ?_))));have:s=0:=Dj3 hs (fun i hi=>hz i (by omega));subst this;exact ⟨by rw [Dn7];rfl,hC⟩
theorem wu8 (x:Int):IntKind.u8.wrap x=x % 256:=by unfold IntKind.wrap;simp [IntKind.bits,IntKind.signed]
theorem Dg1 (s:ByteArray) (p:Ps) (sl:Value) (b:Nat) (w:World) (hs:s.size≤1048576) (hp:p.i<s.size) (hR:Blk w b (rdC s p sl) 239):Calls P 175 #[.pointer (some ⟨b,0,none⟩)] w (Ret fun v w'=>v= .agg (C4 (J6 (B7 s) p).1).toArray∧Chg [b] w w'∧Blk w' b (rdC s (J6 (B7 s) p).2 sl) 239):=by
 have hC:=A8 [b] w;have hlt:=Ad7 s (p.go 1);have hle:(B7 s).length=s.size:=E8 s;have hgo:(p.go 1).i=p.i+1:=rfl
 try have hlR:=hR.lt
 refine D4 Tryz.func175 J J (Qd (B5 J (B9 M9 J) ?_));intro b1 w1 hb1 hs1 hx1 hB1;have hR:=hR.u hx1;refine Qc (Qd (Z 2 J (Fa E0 J (Fa G7 J (Lb o3 J ‹_› (by rfl) ?_)))));refine Zc 1 J (Qd (Z 2 J (Fa E0 J (Fa G7 J (Lb o3 J ‹_› (by rfl) ?_)))));refine Ad J J (by omega) (Z 1 J (Fa E0 J (Fa G7 J (Pe sz3 J ‹_› J J ?_))));intro w2 hs2 hx2 hR;refine Qc (Qd (Z 2 J (Fa E0 J (Ca Cx6 J (Bj5 s (p.go 1) sl b _ ‹_›) ?_))));rintro _ w3 ⟨rfl,hx3⟩;have hz3:=hx3.size;refine Zc 5 J (Qd (Z 1 J (Ca fb203 J (named_c (H6 (B7 s) (p.go 1)) hlt _) ?_)));rintro _ w4 ⟨rfl,hx4⟩;have hz4:=hx4.size;refine Z 3 J (B5 J (B9 M9 J) ?_);intro b5 w5 hb5 hs5 hx5 hB5;refine Pe J8 J ‹_› J J ?_;intro w6 hs6 hx6 hB5;have hz6:=hx6.size;have hC:=hC.step (((((hx1.j hx2).j hx3).j hx4).j hx5).j hx6) (by simp<;>omega);have hR:=hR.q (((hx3.j hx4).j hx5).j hx6) (by simp<;>omega);have hB1:=hB1.q ((((hx2.j hx3).j hx4).j hx5).j hx6) (by simp<;>omega)
 refine Zc 1 J (Qa (B2 (Qd (Zc 3 J (A4 J (fun h1=>?_) (fun h1=>?_))))))
 ·try simp at h1
  refine C7 (S:=[]) 8 [(0,0),(0,1),(0,2),(0,3),(0,4),(0,5),(0,6),(0,7),(2,8)] mo (by kernel_rfl) ?_;intro w7 hx7 hh7;have hR:=hR.u hx7;refine Z 2 J (Fa E0 J (Z 2 J (Fa E0 J (Fa G7 J (D5 J (B3 o3 J ‹_› (by simp<;>omega) (by rfl)) ?_)))));refine Ca Ak3 J (X4 s (p.go 1) sl b (p.go 1).i 4 _ ‹_›) ?_;rintro _ w8 ⟨rfl,hx8,hR'⟩;have hB1:=hB1.q (hx7.j hx8) (by simp<;>omega);have hB5:=hB5.q (hx7.j hx8) (by simp<;>omega);clear hR;have hR:=hR';clear hR';refine Qc (Qd (La J0 J ‹_› J J ?_));refine Pe J8 J ‹_› J J ?_;intro w9 hs9 hx9 hB1;have hC:=hC.step ((hx7.j hx8).j hx9) (by simp<;>omega);have hR:=hR.q hx9 (by simp;omega);refine Qc (A6 (D3 J J (A5 J0 ‹_› J J) ?_));have hE:J6 (B7 s) p=(0,(p.go 1).fail (p.go 1).i 4):=by unfold J6;simp only [];rw [Ej7 (by omega)]
  have h0:Aj3 (H6 (B7 s) (p.go 1))=none:=by rw [Dc5 s _ (by omega)];rfl
  exact ⟨by rw [hE,h0];rfl,hC,by rw [hE];exact hR⟩
 ·try simp at h1
  refine Qd (Z 1 J (Ca Do2 J (Dn3 _ Au9 _ (by rfl) hlt _) ?_));rintro _ _ ⟨rfl,rfl⟩
  refine Zc 2 J (A4 J (fun h2=>?_) (fun h2=>?_))
  ·try simp at h2
   refine Qd (Z 1 J (B5 J (B6 Aj2 Tryz.underlying44 zr5 J J J (by rfl)) ?_));intro b11 w11 hb11 hs11 hx11 hB11;refine Ca W2 J (W1 _ _ _ _ _ ‹_› (by omega) (by omega)) ?_;rintro _ w12 ⟨rfl,hx12⟩;have hB5:=hB5.u (hx11.s0 hx12);refine Pe J8 J ‹_› J J ?_;intro w13 hs13 hx13 hB5;have hR:=hR.q ((hx11.j hx12).j hx13) (by simp<;>omega);refine Qc (Qb (Z 2 J (Fa E0 J (Fa G7 J (Lb o3 J ‹_› (by rfl) ?_)))));refine Ad J J (by omega) (Z 1 J (Fa E0 J (Fa G7 J (Pe sz3 J ‹_› J J ?_))));intro w14 hs14 hx14 hR;have hB1:=hB1.q (((hx11.j hx12).j hx13).j hx14) (by simp<;>omega);have hB5:=hB5.q hx14 (by simp;omega);refine Qc (Qd (La J0 J ‹_› J J ?_));refine Pe J8 J ‹_› J J ?_;intro w15 hs15 hx15 hB1;have hC:=hC.step ((((hx11.j hx12).j hx13).j hx14).j hx15) (by simp<;>omega);have hR:=hR.q hx15 (by simp;omega);refine Qc (A6 (D3 J J (A5 J0 ‹_› J J) ?_));have hE:J6 (B7 s) p=(E9 [H6 (B7 s) (p.go 1)],(p.go 1).go 1):=by unfold J6;simp only [];rw [Ej6 (by omega),Ej7 h2]
   exact ⟨by rw [hE];rfl,hC,by rw [hE];exact hR⟩
  ·try simp at h2
   refine Qd (Zc 2 J (A4 J (fun h3=>?_) (fun h3=>?_)))
   ·try simp at h3
    refine Qb (Z 2 J (Fa E0 J (Fa G7 J (Lb o3 J ‹_› (by rfl) ?_))));refine Ad J J (by omega) (Z 1 J (Fa E0 J (Fa G7 J (Pe sz3 J ‹_› J J ?_))));intro w16 hs16 hx16 hR;have hB1:=hB1.q hx16 (by simp;omega);have hB5:=hB5.q hx16 (by simp;omega);refine Qc (Qd (La J0 J ‹_› J J ?_));refine Pe J8 J ‹_› J J ?_;intro w17 hs17 hx17 hB1;have hC:=hC.step (hx16.j hx17) (by simp<;>omega);have hR:=hR.q hx17 (by simp;omega);refine Qc (A6 (D3 J J (A5 J0 ‹_› J J) ?_));obtain ⟨t,ht⟩:=Ep2.1 h3;have hE:J6 (B7 s) p=(t,(p.go 1).go 1):=by unfold J6;simp only [];rw [Ej6 (by omega),Ej6 (by omega),ht]
    exact ⟨by rw [hE,ht];rfl,hC,by rw [hE];exact hR⟩
   ·try simp at h3
    have h0:Aj3 (H6 (B7 s) (p.go 1))=none:=by simpa using h3
    refine Qd (Zc 3 J (A4 J (fun h4=>?_) (fun h4=>?_)))
    ·try simp at h4
     have h4':H6 (B7 s) (p.go 1)=120:=by omega
     refine Qd (Z 2 J (Fa E0 J (Fa G7 J (Lb o3 J ‹_› (by rfl) ?_))));refine Ad J J (by omega) (Z 1 J (Fa E0 J (Fa G7 J (Pe sz3 J ‹_› J J ?_))));intro w18 hs18 hx18 hR;refine Qc (Qd (Z 1 J (Ca fb204 J (hex_c s ((p.go 1).go 1) sl b _ hs ‹_›) ?_)));rintro _ w19 ⟨rfl,hx19,hR'⟩;have hz19:=hx19.size;have hC:=hC.step (hx18.j hx19) (by simp<;>omega);have hB1:=hB1.q (hx18.j hx19) (by simp<;>omega);have hB5:=hB5.q (hx18.j hx19) (by simp<;>omega);clear hR;have hR:=hR';clear hR';refine Zc 1 J (Qd (Z 2 J (Fa E0 J (Ca Bm9 J (Bo8 s _ sl b _ ‹_›) ?_))));rintro _ _ ⟨rfl,rfl⟩
     refine Zc 1 J (A4 J (fun h5=>?_) (fun h5=>?_))
     ·try simp at h5
      refine Qb (Z 1 J (C9 J (Cg1 J J) (Z 1 J (Ca fb204 J (hex_c s _ sl b _ hs ‹_›) ?_))));rintro _ w21 ⟨rfl,hx21,hR'⟩;clear hR;have hR:=hR';clear hR';refine C9 J (Does.to (Ae5 J J) (J5 (show _=(((16*(Bf1 (B7 s) ((p.go 1).go 1)).1+(Bf1 (B7 s) (Bf1 (B7 s) ((p.go 1).go 1)).2).1) % 256:Nat):Int) by rw [wu8,wu8];omega))) ?_;refine B5 J (B6 Aj2 Tryz.underlying44 zr5 J J J (by rfl)) ?_;intro b22 w22 hb22 hs22 hx22 hB22;refine Ca W2 J (W1 _ _ _ _ _ ‹_› (by omega) (by omega)) ?_;rintro _ w23 ⟨rfl,hx23⟩;have hB5:=hB5.q ((hx21.j hx22).j hx23) (by simp<;>omega);refine Pe J8 J ‹_› J J ?_;intro w24 hs24 hx24 hB5;have hB1:=hB1.q (((hx21.j hx22).j hx23).j hx24) (by simp<;>omega);refine Qc (Qd (La J0 J ‹_› J J ?_));refine Pe J8 J ‹_› J J ?_;intro w25 hs25 hx25 hB1;have hC:=hC.step ((((hx21.j hx22).j hx23).j hx24).j hx25) (by simp<;>omega);have hR:=hR.q (((hx22.j hx23).j hx24).j hx25) (by simp<;>omega);refine Qc (A6 (D3 J J (A5 J0 ‹_› J J) ?_));have hE:J6 (B7 s) p=(E9 [(16*(Bf1 (B7 s) ((p.go 1).go 1)).1+(Bf1 (B7 s) (Bf1 (B7 s) ((p.go 1).go 1)).2).1) % 256],(Bf1 (B7 s) (Bf1 (B7 s) ((p.go 1).go 1)).2).2):=by unfold J6;simp only [];rw [Ej6 (by omega),Ej6 (by omega),h0];simp only [];rw [Ej7 h4',Ej7 h5]
      exact ⟨by rw [hE];rfl,hC,by rw [hE];exact hR⟩
     ·try simp at h5
      refine A7 (Qd (La J0 J ‹_› J J ?_));refine Pe J8 J ‹_› J J ?_;intro w26 hs26 hx26 hB1;have hC:=hC.step hx26 (by simp<;>omega);have hR:=hR.q hx26 (by simp;omega);refine Qc (A6 (D3 J J (A5 J0 ‹_› J J) ?_));have hE:J6 (B7 s) p=(0,(Bf1 (B7 s) ((p.go 1).go 1)).2):=by unfold J6;simp only [];rw [Ej6 (by omega),Ej6 (by omega),h0];simp only [];rw [Ej7 h4',Ej6 h5]
      exact ⟨by rw [hE,h0];rfl,hC,by rw [hE];exact hR⟩
    ·try simp at h4
     have h4':¬ H6 (B7 s) (p.go 1)=120:=by omega
     refine Qd (Z 1 J (Ca Do2 J (Dn3 _ otherT _ (by rfl) hlt _) ?_));rintro _ _ ⟨rfl,rfl⟩
     refine Zc 2 J (A4 J (fun h6=>?_) (fun h6=>?_))
     ·try simp at h6
      refine Qb (Z 2 J (Fa E0 J (Z 1 J (Ca Ak3 J (X4 s (p.go 1) sl b p.i 6 _ ‹_›) ?_))));rintro _ w28 ⟨rfl,hx28,hR'⟩;have hB1:=hB1.q hx28 (by simp;omega);have hB5:=hB5.q hx28 (by simp;omega);clear hR;have hR:=hR';clear hR';refine Qc (Qd (La J0 J ‹_› J J ?_));refine Pe J8 J ‹_› J J ?_;intro w29 hs29 hx29 hB1;have hC:=hC.step (hx28.j hx29) (by simp<;>omega);have hR:=hR.q hx29 (by simp;omega);refine Qc (A6 (D3 J J (A5 J0 ‹_› J J) ?_));have hE:J6 (B7 s) p=(0,(p.go 1).fail p.i 6):=by unfold J6;simp only [];rw [Ej6 (by omega),Ej6 (by omega),h0];simp only [];rw [Ej6 h4',Ej7 h6]
      exact ⟨by rw [hE,h0];rfl,hC,by rw [hE];exact hR⟩
     ·try simp at h6
      refine C7 (S:=[]) 8 [(0,0),(0,1),(0,2),(0,3),(0,4),(0,5),(0,6),(0,7),(2,8)] mo (by kernel_rfl) ?_;intro w30 hx30 hh30;have hR:=hR.u hx30;refine Z 2 J (Fa E0 J (Z 2 J (Fa E0 J (Fa G7 J (D5 J (B3 o3 J ‹_› (by simp<;>omega) (by rfl)) ?_)))));refine Ca Ak3 J (X4 s (p.go 1) sl b (p.go 1).i 4 _ ‹_›) ?_;rintro _ w31 ⟨rfl,hx31,hR'⟩;have hB1:=hB1.q (hx30.j hx31) (by simp<;>omega);have hB5:=hB5.q (hx30.j hx31) (by simp<;>omega);clear hR;have hR:=hR';clear hR';refine Qc (Qd (La J0 J ‹_› J J ?_));refine Pe J8 J ‹_› J J ?_;intro w32 hs32 hx32 hB1;have hC:=hC.step ((hx30.j hx31).j hx32) (by simp<;>omega);have hR:=hR.q hx32 (by simp;omega);refine Qc (A6 (D3 J J (A5 J0 ‹_› J J) ?_));have hE:J6 (B7 s) p=(0,(p.go 1).fail (p.go 1).i 4):=by unfold J6;simp only [];rw [Ej6 (by omega),Ej6 (by omega),h0];simp only [];rw [Ej6 h4',Ej6 (by omega)]
      exact ⟨by rw [hE,h0];rfl,hC,by rw [hE];exact hR⟩
theorem Bd2 {c:Nat} (h:c<256):L4 (E9 [c]):=Ap2 [c] (by intro b hb;simp at hb;omega)
theorem Dy1 {c t:Nat} (h:Aj3 c=some t):L4 t:=by
 unfold Aj3 at h
 repeat' split at h
 all_goals first
  |cases h;done
  |(injection h with h;subst h;first|exact Bd2 (by decide)|exact Co1|exact Dr8|exact Da6|exact Bi0 _)
theorem Bv5 (s:ByteArray) (p:Ps):L4 (J6 (B7 s) p).1:=by
 unfold J6;simp only []
 split
 ·exact P7
 ·split
  ·exact Bd2 (Ad7 s _)
  ·split
   ·rename_i t ht;exact Dy1 ht
   ·split
    ·split
     ·exact Bd2 (Ep1 _ (by decide))
     ·exact P7
    ·split<;>exact P7
theorem Ap6 (s:ByteArray) (p:Ps):L4 (F8 (B7 s) p).1:=by
 unfold F8
 split
 ·exact P7
 ·split
  ·exact Bv5 s p
  ·exact Bd2 (Ad7 s _)
theorem An9 (s:Nat):L8 s<256:=by
 unfold L8
 cases h:(List.range 256).find? fun b=>s.testBit b with
 |none=>simp
 |some n=>have:=List.mem_of_find?_eq_some h;simpa using this
theorem Dw0 {a b:Nat} (hb:b<256):L4 (Aw1 a b):=Ap2 _ (by intro x hx;have:=List.mem_range'.1 hx;obtain ⟨i,hi,rfl⟩:=this;omega)
theorem By1 (s:ByteArray) (p:Ps):L4 (M7 (B7 s) p).1:=by
 unfold M7;simp only []
 split
 ·exact Ap6 s p
 ·split
  ·exact Ap6 s p
  ·split
   ·exact Ap6 s p
   ·exact Dw0 (An9 _)
theorem item_c (s:ByteArray) (p:Ps) (sl:Value) (b:Nat) (w:World) (hs:s.size≤1048576) (hp:p.i≤s.size) (hR:Blk w b (rdC s p sl) 239):Calls P 223 #[.pointer (some ⟨b,0,none⟩)] w (Ret fun v w'=>v= .agg (C4 (F8 (B7 s) p).1).toArray∧Chg [b] w w'∧Blk w' b (rdC s (F8 (B7 s) p).2 sl) 239):=by
 have hC:=A8 [b] w;have hlt:=Ad7 s p;have hle:(B7 s).length=s.size:=E8 s
 try have hlR:=hR.lt
 refine D4 Tryz.func223 J J (Qd (B5 J (B9 M9 J) ?_));intro b1 w1 hb1 hs1 hx1 hB1;have hR:=hR.u hx1;refine Qc (Qd (Z 2 J (Fa E0 J (Ca Cx6 J (Bj5 s p sl b _ ‹_›) ?_))));rintro _ w2 ⟨rfl,hx2⟩;have hz2:=hx2.size;have hC:=hC.s0 (hx1.s0 hx2);have hR:=hR.u hx2;have hB1:=hB1.u hx2
 refine Zc 5 J (Qa (B2 (Qd (Z 3 J (C0 (d:=15) J (fun g1=>?_) (fun g1=>?_))))))
 ·try simp at g1
  refine Qk J (Qk J (Qk J (Zc 2 J (E3 J (Qa (C7 (S:=[]) 8 [(0,0),(0,1),(0,2),(0,3),(0,4),(0,5),(0,6),(0,7),(2,8)] mo (by kernel_rfl) ?_))))));intro w3 hx3 hh3;have hR:=hR.u hx3;refine Z 2 J (Fa E0 J (Z 2 J (Fa E0 J (Fa G7 J (D5 J (B3 o3 J ‹_› (by simp<;>omega) (by rfl)) ?_)))));refine Ca Ak3 J (X4 s p sl b p.i 4 _ ‹_›) ?_;rintro _ w4 ⟨rfl,hx4,hR'⟩;have hB1:=hB1.q (hx3.j hx4) (by simp<;>omega);clear hR;have hR:=hR';clear hR';refine Qc (Qd (C9 J (D8 M9 Au2 J (by rfl)) ?_));refine Pe J8 J ‹_› J J ?_;intro w5 hs5 hx5 hB1;have hC:=hC.step ((hx3.j hx4).j hx5) (by simp<;>omega);have hR:=hR.q hx5 (by simp;omega);refine Qc (A6 (D3 J J (A5 J0 ‹_› J J) ?_));have hE:F8 (B7 s) p=(0,p.fail p.i 4):=by unfold F8;rw [Ej7 (Or.inl (by omega))]
  exact ⟨by rw [hE];show _=Value.agg (C4 0).toArray;rw [C6];rfl,hC,by rw [hE];exact hR⟩
 ·try simp at g1
  refine Qu J (Z 1 J (Qu J (Ca Do2 J (Dn3 _ Cm4 _ (by rfl) hlt _) ?_)));rintro _ _ ⟨rfl,rfl⟩
  refine Qu J (Zc 3 J (A4 J (fun h2=>?_) (fun h2=>?_)))
  ·try simp at h2
   refine Qa (C7 (S:=[]) 8 [(0,0),(0,1),(0,2),(0,3),(0,4),(0,5),(0,6),(0,7),(2,8)] mo (by kernel_rfl) ?_);intro w7 hx7 hh7;have hR:=hR.u hx7;refine Z 2 J (Fa E0 J (Z 2 J (Fa E0 J (Fa G7 J (D5 J (B3 o3 J ‹_› (by simp<;>omega) (by rfl)) ?_)))));refine Ca Ak3 J (X4 s p sl b p.i 4 _ ‹_›) ?_;rintro _ w8 ⟨rfl,hx8,hR'⟩;have hB1:=hB1.q (hx7.j hx8) (by simp<;>omega);clear hR;have hR:=hR';clear hR';refine Qc (Qd (C9 J (D8 M9 Au2 J (by rfl)) ?_));refine Pe J8 J ‹_› J J ?_;intro w9 hs9 hx9 hB1;have hC:=hC.step ((hx7.j hx8).j hx9) (by simp<;>omega);have hR:=hR.q hx9 (by simp;omega);refine Qc (A6 (D3 J J (A5 J0 ‹_› J J) ?_));have hE:F8 (B7 s) p=(0,p.fail p.i 4):=by unfold F8;rw [Ej7 (Or.inr (by omega))]
   exact ⟨by rw [hE];show _=Value.agg (C4 0).toArray;rw [C6];rfl,hC,by rw [hE];exact hR⟩
  ·try simp at h2
   have hn:¬ (¬ p.i<(B7 s).length∨0≤Bd9 Cm4 (H6 (B7 s) p)):=by omega
   refine Qd (Zc 3 J (A4 J (fun h3=>?_) (fun h3=>?_)))
   ·try simp at h3
    refine Qd (Z 1 J (Ca fb175 J (Dg1 s p sl b _ hs (by omega) ‹_›) ?_));rintro _ w10 ⟨rfl,hx10,hR'⟩;have hB1:=hB1.q hx10 (by simp;omega);clear hR;have hR:=hR';clear hR';refine Pe J8 J ‹_› J J ?_;intro w11 hs11 hx11 hB1;have hC:=hC.step (hx10.j hx11) (by simp<;>omega);have hR:=hR.q hx11 (by simp;omega);refine Qc (A6 (D3 J J (A5 J0 ‹_› J J) ?_));have hE:F8 (B7 s) p=J6 (B7 s) p:=by unfold F8;rw [Ej6 hn,Ej7 (by omega)]
    exact ⟨by rw [hE];rfl,hC,by rw [hE];exact hR⟩
   ·try simp at h3
    refine A7 (Qd (Z 2 J (Fa E0 J (Fa G7 J (Lb o3 J ‹_› (by rfl) ?_)))));refine Ad J J (by omega) (Z 1 J (Fa E0 J (Fa G7 J (Pe sz3 J ‹_› J J ?_))));intro w12 hs12 hx12 hR;refine Qc (Qd (Z 1 J (B5 J (B6 Aj2 Tryz.underlying44 zr5 J J J (by rfl)) ?_)));intro b13 w13 hb13 hs13 hx13 hB13;refine Ca W2 J (W1 _ _ _ _ _ ‹_› (by omega) (by omega)) ?_;rintro _ w14 ⟨rfl,hx14⟩;have hB1:=hB1.q ((hx12.j hx13).j hx14) (by simp<;>omega);refine Pe J8 J ‹_› J J ?_;intro w15 hs15 hx15 hB1;have hC:=hC.step (((hx12.j hx13).j hx14).j hx15) (by simp<;>omega);have hR:=hR.q ((hx13.j hx14).j hx15) (by simp<;>omega);refine Qc (A6 (D3 J J (A5 J0 ‹_› J J) ?_));have hE:F8 (B7 s) p=(E9 [H6 (B7 s) p],p.go 1):=by unfold F8;rw [Ej6 hn,Ej6 (by omega)]
    exact ⟨by rw [hE];rfl,hC,by rw [hE];exact hR⟩
theorem span_c (s:ByteArray) (p:Ps) (sl:Value) (b:Nat) (w:World) (hs:s.size≤1048576) (hp:p.i≤s.size) (hb4:4≤b) (hL:Laid w) (hR:Blk w b (rdC s p sl) 239):Calls P 206 #[.pointer (some ⟨b,0,none⟩)] w (Ret fun v w'=>v= .agg (C4 (M7 (B7 s) p).1).toArray∧Chg [b] w w'∧Blk w' b (rdC s (M7 (B7 s) p).2 sl) 239):=by
 have hC:=A8 [b] w;have hle:(B7 s).length=s.size:=E8 s
 try have hlR:=hR.lt
 refine D4 Tryz.func206 J J (Qd (B5 J (B9 M9 J) ?_));intro b1 w1 hb1 hs1 hx1 hB1;have hR:=hR.u hx1;refine Qc (Qd (Z 2 J (Fa E0 J (Fa G7 J (Lb o3 J ‹_› (by rfl) ?_)))));refine Zc 1 J (Qd (Z 1 J (Ca fb223 J (item_c s p sl b _ hs hp ‹_›) ?_)));rintro _ w2 ⟨rfl,hx2,hR'⟩;have hz2:=hx2.size;clear hR;have hR:=hR';clear hR';refine B5 J (B9 M9 J) ?_;intro b3 w3 hb3 hs3 hx3 hB3;refine Pe J8 J ‹_› J J ?_;intro w4 hs4 hx4 hB4;have hz4:=hx4.size;have hC:=hC.step (((hx1.j hx2).j hx3).j hx4) (by simp<;>omega);have hR:=hR.q (hx3.j hx4) (by simp<;>omega);have hL:=hL.q (((hx1.j hx2).j hx3).j hx4) (by simp<;>omega);have hB1:=hB1.q ((hx2.j hx3).j hx4) (by simp<;>omega)
 replace hB3:=hB4
 refine Qc (Qd (Z 2 J (Fa E0 J (Fa G7 J (Lb o3 J ‹_› (by rfl) ?_)))));refine Zc 1 J (Qa (Qd (Z 2 J (Fa E0 J (Ca Bm9 J (Bo8 s _ sl b _ ‹_›) ?_)))));rintro _ _ ⟨rfl,rfl⟩
 refine Z 1 J (C0 (d:=28) J (fun g1=>?_) (fun g1=>?_))
 ·try simp at g1
  refine Qk J (Qk J (Qk J (Qk J (Qk J (Zc 1 J (E3 J (Qd (La J0 J ‹_› J J ?_))))))));refine Pe J8 J ‹_› J J ?_;intro w6 hs6 hx6 hB1;have hC:=hC.step hx6 (by simp<;>omega);have hR:=hR.q hx6 (by simp;omega);refine Qc (A6 (D3 J J (A5 J0 ‹_› J J) ?_));have hE:M7 (B7 s) p=F8 (B7 s) p:=by unfold M7;simp only [];rw [Ej7 g1]
  exact ⟨by rw [hE];rfl,hC,by rw [hE];exact hR⟩
 ·try simp at g1
  refine Qu J (Z 1 J (Qu J (Z 1 J (Qu J (Fa E0 J (Qu J (Ca Do1 J (is_c s _ sl b 45 _ hs ‹_›) ?_)))))));rintro _ w7 ⟨rfl,hx7,hR'⟩;have hz7:=hx7.size;have hC:=hC.step hx7 (by simp<;>omega);have hL:=hL.q hx7 (by simp;omega);have hB1:=hB1.q hx7 (by simp;omega);have hB3:=hB3.q hx7 (by simp;omega);clear hR;have hR:=hR';clear hR'
  refine Qu J (Zc 2 J (A4 J (fun g2=>?_) (fun g2=>?_)))
  ·try simp at g2
   refine Qd (La J0 J ‹_› J J ?_);refine Pe J8 J ‹_› J J ?_;intro w8 hs8 hx8 hB1;have hC:=hC.step hx8 (by simp<;>omega);have hR:=hR.q hx8 (by simp;omega);refine Qc (A6 (D3 J J (A5 J0 ‹_› J J) ?_));have hE:M7 (B7 s) p=F8 (B7 s) p:=by unfold M7;simp only [];rw [Ej6 (by simpa using g1),Ej7 g2]
   exact ⟨by rw [hE];rfl,hC,by rw [hE];unfold isS at hR;rw [g2] at hR;exact hR⟩
  ·try simp at g2
   have hS:isS (B7 s) (F8 (B7 s) p).2 45=(F8 (B7 s) p).2.go 1:=by unfold isS;rw [g2];rfl
   rw [hS] at hR;have hgo:Fine (B7 s).length 1 (F8 (B7 s) p).2 ((F8 (B7 s) p).2.go 1):=Fine.go (Ar4 g2);have hq2:=hgo.le;refine A7 (Qa (Qd (La J0 J ‹_› J J ?_)));refine Ca fb83 J (Ef6 _ _) ?_;rintro _ w9 ⟨rfl,hx9⟩;have hz9:=hx9.size;have hC:=hC.s0 hx9;have hR:=hR.u hx9;have hL:=hL.u hx9;have hB1:=hB1.u hx9;have hB3:=hB3.u hx9
   refine Zc 1 J (A4 J (fun g3=>?_) (fun g3=>?_))
   ·try simp at g3
    refine Qd (Z 2 J (Fa E0 J (Z 1 J (Ca Ak3 J (X4 s _ sl b (F8 (B7 s) p).2.i 4 _ ‹_›) ?_))));rintro _ w10 ⟨rfl,hx10,hR'⟩;have hB1:=hB1.q hx10 (by simp;omega);have hB3:=hB3.q hx10 (by simp;omega);clear hR;have hR:=hR';clear hR';refine Qc (Qd (La J0 J ‹_› J J ?_));refine Pe J8 J ‹_› J J ?_;intro w11 hs11 hx11 hB1;have hC:=hC.step (hx10.j hx11) (by simp<;>omega);have hR:=hR.q hx11 (by simp;omega);refine Qc (A6 (D3 J J (A5 J0 ‹_› J J) ?_));have hE:M7 (B7 s) p=((F8 (B7 s) p).1,((F8 (B7 s) p).2.go 1).fail (F8 (B7 s) p).2.i 4):=by unfold M7;simp only [];rw [Ej6 (by simpa using g1),Ej6 (by rw [g2];simp),Ej7 (by omega)]
    exact ⟨by rw [hE];rfl,hC,by rw [hE];exact hR⟩
   ·try simp at g3
    refine A7 (Qd (Z 2 J (Fa E0 J (Fa G7 J (Lb o3 J ‹_› (by rfl) ?_)))));refine Zc 1 J (Qd (Z 1 J (Ca fb223 J (item_c s ((F8 (B7 s) p).2.go 1) sl b _ hs (by omega) ‹_›) ?_)));rintro _ w12 ⟨rfl,hx12,hR'⟩;have hz12:=hx12.size;clear hR;have hR:=hR';clear hR';refine B5 J (B9 M9 J) ?_;intro b13 w13 hb13 hs13 hx13 hB13;refine Pe J8 J ‹_› J J ?_;intro w14 hs14 hx14 hB13;have hz14:=hx14.size;have hC:=hC.step ((hx12.j hx13).j hx14) (by simp<;>omega);have hR:=hR.q (hx13.j hx14) (by simp<;>omega);have hL:=hL.q ((hx12.j hx13).j hx14) (by simp<;>omega);have hB1:=hB1.q ((hx12.j hx13).j hx14) (by simp<;>omega);have hB3:=hB3.q ((hx12.j hx13).j hx14) (by simp<;>omega)
    refine Qc (I0 (fun e9 wr=>∃ b2 b4 b7,Sub [(0,.pointer (some ⟨b,0,none⟩)),(2,.pointer (some ⟨b2,0,none⟩)),(3,.int .i64 (p.i:Int)),(4,.pointer (some ⟨b4,0,none⟩)),(7,.pointer (some ⟨b7,0,none⟩))] e9∧Chg [b] w wr∧Laid wr∧Blk wr b (rdC s (if (F8 (B7 s) ((F8 (B7 s) p).2.go 1)).2.e=0∧Ag5 (F8 (B7 s) ((F8 (B7 s) p).2.go 1)).1≠1 then (F8 (B7 s) ((F8 (B7 s) p).2.go 1)).2.fail ((F8 (B7 s) p).2.go 1).i 4 else (F8 (B7 s) ((F8 (B7 s) p).2.go 1)).2) sl) 239∧(∃ z,Blk wr b2 z 70∧z.length=4)∧Blk wr b4 (C4 (F8 (B7 s) p).1) 70∧Blk wr b7 (C4 (F8 (B7 s) ((F8 (B7 s) p).2.go 1)).1) 70∧w.heap.size≤b2∧b2<b4∧b4<b7∧b<b2) ?_ ?_)
    ·refine Qd (Z 2 J (Fa E0 J (Ca Bm9 J (Bo8 s _ sl b _ ‹_›) ?_)));rintro _ _ ⟨rfl,rfl⟩
     refine Z 2 J (C0 (d:=57) J (fun g4=>?_) (fun g4=>?_))
     ·try simp at g4
      refine Qu J (La J0 J ‹_› J J ?_);refine Qu J (Ca fb83 J (Ef6 _ _) ?_);rintro _ w16 ⟨rfl,hx16⟩;have hC:=hC.s0 hx16;have hR:=hR.u hx16;have hL:=hL.u hx16;have hB1:=hB1.u hx16;have hB3:=hB3.u hx16;have hB13:=hB13.u hx16
      refine Qu J (Zc 2 J (A4 J (fun g5=>?_) (fun g5=>?_)))
      ·try simp at g5
       refine Qb (Z 2 J (Fa E0 J (Z 1 J (Ca Ak3 J (X4 s _ sl b ((F8 (B7 s) p).2.go 1).i 4 _ ‹_›) ?_))));rintro _ w17 ⟨rfl,hx17,hR'⟩;have hC:=hC.step hx17 (by simp<;>omega);have hL:=hL.q hx17 (by simp;omega);have hB1:=hB1.q hx17 (by simp;omega);have hB3:=hB3.q hx17 (by simp;omega);have hB13:=hB13.q hx17 (by simp;omega);clear hR;have hR:=hR';clear hR';refine Qc ⟨b1,b3,b13,sb J,?_⟩;refine ⟨hC,hL,by rw [Ej7 ⟨g4,by omega⟩];exact hR,⟨_,hB1,rfl⟩,hB3,hB13,by omega,by omega,by omega,by omega⟩
      ·try simp at g5
       refine A7 ⟨b1,b3,b13,sb J,?_⟩;refine ⟨hC,hL,by rw [Ej6 (by omega)];exact hR,⟨_,hB1,rfl⟩,hB3,hB13,by omega,by omega,by omega,by omega⟩
     ·try simp at g4
      refine Qk J (Qk J (Qk J (Zc 1 J (E4 J (A7 ⟨b1,b3,b13,sb J,?_⟩)))));refine ⟨hC,hL,by rw [Ej6 (by intro h;exact absurd h.1 (by simpa using g4))];exact hR,⟨_,hB1,rfl⟩,hB3,hB13,by omega,by omega,by omega,by omega⟩
    rintro e9 w9 ⟨b2,b4,b7,hs9,hC,hL,hR,⟨z,hB2,hz⟩,hB4,hB7,hlt1,hlt2,hlt3,hlt4⟩;refine H9 _ hs9 ?_;clear hs9 e9
    match z,hz with
    |[z1,z2,z3,z4],_=>
    refine Qd (La J0 J ‹_› J J ?_);refine Ca fb74 J (Cx4 _ (Ap6 s p) _ ‹_›) ?_;rintro _ w18 ⟨rfl,hx18⟩;have hL:=hL.u hx18;have hB7:=hB7.u hx18;refine Zc 5 J (Qd (La J0 J ‹_› J J ?_));refine Ca fb74 J (Cx4 _ (Ap6 s _) _ ‹_›) ?_;rintro _ w19 ⟨rfl,hx19⟩;have hz19:=hx19.size;have hC:=hC.s0 (hx18.s0 hx19);have hL:=hL.u hx19;have hR:=hR.u (hx18.s0 hx19);have hB2:=hB2.u (hx18.s0 hx19);have hB4:=hB4.u (hx18.s0 hx19);have hB7:=hB7.u hx19;refine Zc 5 J (Qa (Qd (Z 2 J (Fa E0 J (Ca Bm9 J (Bo8 s _ sl b _ ‹_›) ?_)))));rintro _ _ ⟨rfl,rfl⟩;have ha:=An9 (F8 (B7 s) p).1;have hb:=An9 (F8 (B7 s) ((F8 (B7 s) p).2.go 1)).1;have hE:M7 (B7 s) p=(Aw1 (L8 (F8 (B7 s) p).1) (L8 (F8 (B7 s) ((F8 (B7 s) p).2.go 1)).1),if (if (F8 (B7 s) ((F8 (B7 s) p).2.go 1)).2.e=0∧Ag5 (F8 (B7 s) ((F8 (B7 s) p).2.go 1)).1≠1 then (F8 (B7 s) ((F8 (B7 s) p).2.go 1)).2.fail ((F8 (B7 s) p).2.go 1).i 4 else (F8 (B7 s) ((F8 (B7 s) p).2.go 1)).2).e=0∧L8 (F8 (B7 s) ((F8 (B7 s) p).2.go 1)).1<L8 (F8 (B7 s) p).1 then (if (F8 (B7 s) ((F8 (B7 s) p).2.go 1)).2.e=0∧Ag5 (F8 (B7 s) ((F8 (B7 s) p).2.go 1)).1≠1 then (F8 (B7 s) ((F8 (B7 s) p).2.go 1)).2.fail ((F8 (B7 s) p).2.go 1).i 4 else (F8 (B7 s) ((F8 (B7 s) p).2.go 1)).2).fail p.i 5 else (if (F8 (B7 s) ((F8 (B7 s) p).2.go 1)).2.e=0∧Ag5 (F8 (B7 s) ((F8 (B7 s) p).2.go 1)).1≠1 then (F8 (B7 s) ((F8 (B7 s) p).2.go 1)).2.fail ((F8 (B7 s) p).2.go 1).i 4 else (F8 (B7 s) ((F8 (B7 s) p).2.go 1)).2)):=by unfold M7;simp only [];rw [Ej6 (by simpa using g1),Ej6 (by rw [g2];simp),Ej6 (by omega)]
    refine Z 2 J (C0 (d:=82) J (fun g6=>?_) (fun g6=>?_))
    ·try simp at g6
     refine Qu J (Z 1 J (Qu J (Z 1 J (Qu J (Zc 2 J (A4 J (fun g7=>?_) (fun g7=>?_)))))))
     ·try simp at g7
      refine Qb (Z 2 J (Fa E0 J (Z 1 J (Ca Ak3 J (X4 s _ sl b p.i 5 _ ‹_›) ?_))));rintro _ w21 ⟨rfl,hx21,hR'⟩;clear hR;have hR:=hR';clear hR';refine Qc (Qd (Z 2 J (Ca Af1 J (P3 _ _ ha hb _) ?_)));rintro _ w22 ⟨rfl,hx22⟩;have hB2:=hB2.q (hx21.j hx22) (by simp<;>omega);refine Pe J8 J ‹_› J J ?_;intro w23 hs23 hx23 hB2;have hC:=hC.step ((hx21.j hx22).j hx23) (by simp<;>omega);have hR:=hR.q (hx22.j hx23) (by simp<;>omega);refine Qc (A6 (D3 J J (A5 J0 ‹_› J J) ?_));exact ⟨by rw [hE];rfl,hC,by rw [hE];dsimp only;rw [Ej7 ⟨g6,by omega⟩];exact hR⟩
     ·try simp at g7
      refine A7 (Qd (Z 2 J (Ca Af1 J (P3 _ _ ha hb _) ?_)));rintro _ w24 ⟨rfl,hx24⟩;have hB2:=hB2.u hx24;refine Pe J8 J ‹_› J J ?_;intro w25 hs25 hx25 hB2;have hC:=hC.step (hx24.j hx25) (by simp<;>omega);have hR:=hR.q (hx24.j hx25) (by simp<;>omega);refine Qc (A6 (D3 J J (A5 J0 ‹_› J J) ?_));exact ⟨by rw [hE];rfl,hC,by rw [hE];dsimp only;rw [Ej6 (by omega)];exact hR⟩
    ·try simp at g6
     refine Qk J (Qk J (Qk J (Zc 1 J (E4 J (A7 (Qd (Z 2 J (Ca Af1 J (P3 _ _ ha hb _) ?_))))))));rintro _ w26 ⟨rfl,hx26⟩;have hB2:=hB2.u hx26;refine Pe J8 J ‹_› J J ?_;intro w27 hs27 hx27 hB2;have hC:=hC.step (hx26.j hx27) (by simp<;>omega);have hR:=hR.q (hx26.j hx27) (by simp<;>omega);refine Qc (A6 (D3 J J (A5 J0 ‹_› J J) ?_));exact ⟨by rw [hE];rfl,hC,by rw [hE];dsimp only;rw [Ej6 (by intro h;exact absurd h.1 (by simpa using g6))];exact hR⟩
theorem Dp7 {L:List Nat} {q:Ps} (h:q.e≠0) (f s:Nat):R0 L f s q=(s,q):=by
 cases f with
 |zero=>rfl
 |succ f=>unfold R0;rw [Ej7 h]
theorem Bo1 (s:ByteArray):∀ (f t:Nat) (q:Ps),L4 t→L4 (R0 (B7 s) f t q).1
 |0,t,q,h=>h
 |f+1,t,q,h=>by
  unfold R0
  split
  ·exact h
  ·split
   ·exact h
   ·exact Bo1 s f _ _ (Ds5 _ (by intro x hx;simp at hx;rcases hx with rfl|rfl;exact h;exact By1 s q) 0 P7)
theorem Eg3 (s:ByteArray) (p:Ps):L4 (Ae2 (B7 s) p).1:=by
 unfold Ae2;dsimp only
 split
 ·exact Bi0 _
 ·exact Bo1 s _ _ _ (By1 s _)
theorem class_c (s:ByteArray) (p:Ps) (sl:Value) (b:Nat) (w:World) (hs:s.size≤1048576) (hp:p.i<s.size) (hb4:4≤b) (hL:Laid w) (hR:Blk w b (rdC s p sl) 239):Calls P 176 #[.pointer (some ⟨b,0,none⟩)] w (Ret fun v w'=>v= .agg (C4 (Ae2 (B7 s) p).1).toArray∧Chg [b] w w'∧Blk w' b (rdC s (Ae2 (B7 s) p).2 sl) 239):=by
 have hC:=A8 [b] w;have hle:(B7 s).length=s.size:=E8 s;have hg:Fine (B7 s).length 1 p (p.go 1):=Fine.go (by omega);have hq:=hg.le;have hf0:=Bg5 (L:=B7 s) (b:=94) hq;have hq0:=hf0.le;have hf1:=X6 (L:=B7 s) hq0;have hq1:=hf1.le
 try have hlR:=hR.lt
 refine D4 Tryz.func176 J J (Qd (B5 J (B9 M9 J) ?_));intro b1 w1 hb1 hs1 hx1 hB1;have hR:=hR.u hx1;refine Qc (Qd (Z 2 J (Fa E0 J (Fa G7 J (Lb o3 J ‹_› (by rfl) ?_)))));refine Ad J J (by omega) (Z 1 J (Fa E0 J (Fa G7 J (Pe sz3 J ‹_› J J ?_))));intro w2 hs2 hx2 hR;refine Qc (Qd (Z 2 J (Fa E0 J (Ca Do1 J (is_c s (p.go 1) sl b 94 _ hs ‹_›) ?_))));rintro _ w3 ⟨rfl,hx3,hR'⟩;have hz3:=hx3.size;have hL:=hL.q ((hx1.j hx2).j hx3) (by simp<;>omega);clear hR;have hR:=hR';clear hR';refine Zc 1 J (Qd (Z 1 J (Ca fb206 J (span_c s (isS (B7 s) (p.go 1) 94) sl b _ hs (by omega) hb4 hL ‹_›) ?_)));rintro _ w4 ⟨rfl,hx4,hR'⟩;have hz4:=hx4.size;clear hR;have hR:=hR';clear hR';refine B5 J (B9 M9 J) ?_;intro b5 w5 hb5 hs5 hx5 hB5;refine Pe J8 J ‹_› J J ?_;intro w6 hs6 hx6 hB5;have hC:=hC.step (((((hx1.j hx2).j hx3).j hx4).j hx5).j hx6) (by simp<;>omega);have hR:=hR.q (hx5.j hx6) (by simp<;>omega);have hL:=hL.q ((hx4.j hx5).j hx6) (by simp<;>omega);have hB1:=hB1.q ((((hx2.j hx3).j hx4).j hx5).j hx6) (by simp<;>omega)
 refine Qc (I0 (fun e9 wr=>∃ b2 b4,Sub [(0,.pointer (some ⟨b,0,none⟩)),(2,.pointer (some ⟨b2,0,none⟩)),(3,.bool (isB (B7 s) (p.go 1) 94)),(4,.pointer (some ⟨b4,0,none⟩))] e9∧Chg [b] w wr∧Blk wr b (rdC s (R0 (B7 s) ((B7 s).length+2) (M7 (B7 s) (isS (B7 s) (p.go 1) 94)).1 (M7 (B7 s) (isS (B7 s) (p.go 1) 94)).2).2 sl) 239∧Blk wr b2 (C4 0) 70∧Blk wr b4 (C4 (R0 (B7 s) ((B7 s).length+2) (M7 (B7 s) (isS (B7 s) (p.go 1) 94)).1 (M7 (B7 s) (isS (B7 s) (p.go 1) 94)).2).1) 70∧w.heap.size≤b2∧b2<b4∧b<b2) ?_ ?_)
 ·generalize hr:R0 (B7 s) ((B7 s).length+2) (M7 (B7 s) (isS (B7 s) (p.go 1) 94)).1 (M7 (B7 s) (isS (B7 s) (p.go 1) 94)).2=r
  refine B2 (D9 (σ:=Nat × Nat × Ps) (fun (f,t,q)=>[(0,.pointer (some ⟨b,0,none⟩)),(2,.pointer (some ⟨b1,0,none⟩)),(3,.bool (isB (B7 s) (p.go 1) 94)),(4,.pointer (some ⟨b5,0,none⟩))]) (fun (f,t,q) wr=>Chg [b] w wr∧Laid wr∧Blk wr b (rdC s q sl) 239∧Blk wr b1 (C4 0) 70∧Blk wr b5 (C4 t) 70∧R0 (B7 s) f t q=r∧q.i≤(B7 s).length∧(q.e=0→(B7 s).length<q.i+f)) (fun (f,t,q) wr=>f) ((B7 s).length+2,(M7 (B7 s) (isS (B7 s) (p.go 1) 94)).1,(M7 (B7 s) (isS (B7 s) (p.go 1) 94)).2) (sb J) ?_ ?_)
  ·rw [← C6] at hB1;exact ⟨hC,hL,hR,hB1,hB5,hr,hq1,fun _=>by omega⟩
  rintro ⟨f,t,q⟩ w9 ⟨hC,hL,hR,hB1,hB5,hr,hqi,hfu⟩
  try have hzw:=hC.size
  try have hlB1:=hB1.lt
  try have hlB5:=hB5.lt
  refine Qa (Qd (Z 2 J (Fa E0 J (Ca Bm9 J (Bo8 s _ sl b _ ‹_›) ?_))));rintro _ _ ⟨rfl,rfl⟩
  refine Z 2 J (C0 (d:=25) J (fun g1=>?_) (fun g1=>?_))
  ·try simp at g1
   have hfu':=hfu g1;obtain ⟨f,rfl⟩:∃ g,f=g+1:=⟨f - 1,by omega⟩;have hcl:R0 (B7 s) (f+1) t q=if q.e≠0 then (t,q) else if isB (B7 s) q 93 then (t,q.go 1) else R0 (B7 s) f (V6 [t,(M7 (B7 s) q).1]) (M7 (B7 s) q).2:=rfl
   refine Qu J (Z 1 J (Qu J (Z 1 J (Qu J (Fa E0 J (Qu J (Ca Do1 J (is_c s _ sl b 93 _ hs ‹_›) ?_)))))));rintro _ w8 ⟨rfl,hx8,hR'⟩;have hC:=hC.step hx8 (by simp<;>omega);have hL:=hL.q hx8 (by simp;omega);have hB1:=hB1.q hx8 (by simp;omega);have hB5:=hB5.q hx8 (by simp;omega);clear hR;have hR:=hR';clear hR'
   refine Qu J (Zc 2 J (A4 J (fun g2=>?_) (fun g2=>?_)))
   ·try simp at g2
    have hS:isS (B7 s) q 93=q:=by unfold isS;rw [g2];rfl
    rw [hS] at hR;refine A7 (B2 (C7 (S:=[b]) 3 [(0,0),(0,1),(1,2),(2,3),(2,4),(2,5)] mo (by kernel_rfl) ?_));intro w9 hx9 hh9;have hR:=hR.u hx9;have hL:=hL.u hx9;have hB5:=hB5.u hx9;have hCS9:=A8 ([b]) w9;refine D5 J (C1 J0 J ‹_› (by simp<;>omega) J J) ?_;refine Z 1 J (C5 J (C3 fb206 J) (span_c s q sl b _ hs (by omega) hb4 ‹_› ‹_›) ?_);rintro _ w10 ⟨rfl,hx10,hR'⟩;have hCS9:=hCS9.step hx10 (by simp<;>omega);clear hR;have hR:=hR';clear hR';refine ⟨hCS9,?_⟩;refine B5 J (B6 Aq5 Tryz.underlying23 M9 J J J (by rfl)) ?_;intro b11 w11 hb11 hs11 hx11 hB11;refine Ca Ab0 J (Bx5 t (M7 (B7 s) q).1 _ _ _ _ ‹_›) ?_;rintro _ w12 ⟨rfl,hx12⟩;have hB5:=hB5.q ((hx10.j hx11).j hx12) (by simp<;>omega);refine Pe J8 J ‹_› J J ?_;intro w13 hs13 hx13 hB5;have hC:=hC.step ((((hx9.j hx10).j hx11).j hx12).j hx13) (by simp<;>omega);have hR:=hR.q ((hx11.j hx12).j hx13) (by simp<;>omega);have hL:=hL.q (((hx10.j hx11).j hx12).j hx13) (by simp<;>omega);have hB1:=hB1.q ((((hx9.j hx10).j hx11).j hx12).j hx13) (by simp<;>omega);refine Qc ⟨(f,V6 [t,(M7 (B7 s) q).1],(M7 (B7 s) q).2),sb J,?_,?_⟩;have hfq:=X6 (L:=B7 s) hqi;refine ⟨hC,hL,hR,hB1,hB5,?_,hfq.le,fun he=>?_⟩;rw [← hr,hcl,Ej6 (by simpa using g1),Ej6 (by rw [g2];simp)];have:=hfq.adv he;omega;exact Er2 f
   ·try simp at g2
    refine Xb ⟨b1,b5,sb J,?_⟩;have hS:isS (B7 s) q 93=q.go 1:=by unfold isS;rw [g2];rfl
    rw [hS] at hR;rw [← hr,hcl,Ej6 (by simpa using g1),Ej7 g2];exact ⟨hC,hR,hB1,hB5,by omega,by omega,by omega⟩
  ·try simp at g1
   refine Qk J (Qk J (Qk J (Qk J (Qk J (Zc 1 J (E4 J (Xb ⟨b1,b5,sb J,?_⟩)))))));rw [← hr,Dp7 (by simpa using g1)];exact ⟨hC,hR,hB1,hB5,by omega,by omega,by omega⟩
 rintro e9 w9 ⟨b2,b4,hs9,hC,hR,hB1,hB4,hlt1,hlt2,hlt3⟩;refine H9 _ hs9 ?_;clear hs9 e9;have hok:=Bo1 s ((B7 s).length+2) (M7 (B7 s) (isS (B7 s) (p.go 1) 94)).1 (M7 (B7 s) (isS (B7 s) (p.go 1) 94)).2 (By1 s _);have hE:Ae2 (B7 s) p=(if isB (B7 s) (p.go 1) 94 then Q1 (R0 (B7 s) ((B7 s).length+2) (M7 (B7 s) (isS (B7 s) (p.go 1) 94)).1 (M7 (B7 s) (isS (B7 s) (p.go 1) 94)).2).1 else (R0 (B7 s) ((B7 s).length+2) (M7 (B7 s) (isS (B7 s) (p.go 1) 94)).1 (M7 (B7 s) (isS (B7 s) (p.go 1) 94)).2).1,(R0 (B7 s) ((B7 s).length+2) (M7 (B7 s) (isS (B7 s) (p.go 1) 94)).1 (M7 (B7 s) (isS (B7 s) (p.go 1) 94)).2).2):=rfl;generalize R0 (B7 s) ((B7 s).length+2) (M7 (B7 s) (isS (B7 s) (p.go 1) 94)).1 (M7 (B7 s) (isS (B7 s) (p.go 1) 94)).2=r at*
 refine Qa (Qd (Zc 1 J (A4 J (fun g3=>?_) (fun g3=>?_))))
 ·try simp at g3
  refine Qb (La J0 J ‹_› J J ?_);refine Ca Do3 J (Dl8 _ hok _) ?_;rintro _ w14 ⟨rfl,hx14⟩;have hB4:=hB4.u hx14;refine Pe J8 J ‹_› J J ?_;intro w15 hs15 hx15 hB4;have hB1:=hB1.q (hx14.j hx15) (by simp<;>omega);refine Qc (Qd (La J0 J ‹_› J J ?_));refine Pe J8 J ‹_› J J ?_;intro w16 hs16 hx16 hB1;have hC:=hC.step ((hx14.j hx15).j hx16) (by simp<;>omega);have hR:=hR.q ((hx14.j hx15).j hx16) (by simp<;>omega);refine Qc (A6 (D3 J J (A5 J0 ‹_› J J) ?_));exact ⟨by rw [hE,Ej7 g3];rfl,hC,by rw [hE];exact hR⟩
 ·try simp at g3
  refine A7 (Qd (La J0 J ‹_› J J ?_));refine Pe J8 J ‹_› J J ?_;intro w17 hs17 hx17 hB1;have hC:=hC.step hx17 (by simp<;>omega);have hR:=hR.q hx17 (by simp;omega);refine Qc (A6 (D3 J J (A5 J0 ‹_› J J) ?_));exact ⟨by rw [hE,Ej6 (by rw [g3];simp)];rfl,hC,by rw [hE];exact hR⟩
section
theorem Bc7 (s:ByteArray) (l h:Nat):B7 (s.extract l h)=((B7 s).take h).drop l:=by
 unfold B7;rw [ByteArray.data_extract];rw [Array.toList_extract];simp [List.extract,List.map_take,List.map_drop,List.drop_take]
theorem By0 (a b:ByteArray):(a.toList==b.toList)=decide (B7 a=B7 b):=by
 have h:a.toList=b.toList↔B7 a=B7 b:=by
  rw [ByteArray.toList_eq,ByteArray.toList_eq];unfold B7
  constructor
  ·intro h;rw [h]
  ·intro h;exact (List.map_inj_right (fun x y hxy=>UInt8.toNat_inj.1 hxy)).1 h
 by_cases hc:B7 a=B7 b
 ·rw [Ek8 hc,h.2 hc];simp
 ·rw [Ek9 hc];have:¬ a.toList=b.toList:=fun h'=>hc (h.1 h')
  simpa using this
section
variable {P:Program} {n:Nat} {e:Env} {dst:Option Tmp} {t:TypeId} {p:String} {af:Array Edge} {g:Option (Nat × Bool)} {φ:World→Prop}
theorem Be4 {τ:TypeId} {x y:Operand} {s:ByteArray} {k:IntKind} {i:Int} (hu:P.underlying τ=some .string) (hx:ev e x=some (.string s)) (hy:ev e y=some (.int k i)) (h0:0≤i) (h1:i≤s.size):
  Does P n e ⟨dst,.slice τ x (some y) none none,t,p,af,g⟩ φ (.string (s.extract i.toNat s.size)):=fun a w ha _=>by
 have h:0≤i∧i≤s.size:=⟨h0,h1⟩;simp [execOp,ha.ev hx,ha.ev hy,Instr.sliceAt,Instr.slice,run_underlying hu,Instr.sliceBounds,Instr.sliceBound,asIntOf,h]
theorem Cq6 {τ:TypeId} {x y:Operand} {s:ByteArray} {k:IntKind} {i:Int} (hu:P.underlying τ=some .string) (hx:ev e x=some (.string s)) (hy:ev e y=some (.int k i)) (h0:0≤i) (h1:i≤s.size):
  Does P n e ⟨dst,.slice τ x none (some y) none,t,p,af,g⟩ φ (.string (s.extract 0 i.toNat)):=fun a w ha _=>by
 have h:0≤i∧i≤s.size:=⟨h0,h1⟩;simp [execOp,ha.ev hx,ha.ev hy,Instr.sliceAt,Instr.slice,run_underlying hu,Instr.sliceBounds,Instr.sliceBound,asIntOf,h]
end
def Dc3 (l q:List Nat):Bool:=decide (q.length≤l.length) && decide (l.take q.length=q)
theorem pre0_c (s q:ByteArray) (w:World):Calls P 224 #[.string s,.string q] w (Ret fun v w'=>v= .bool (Dc3 (B7 s) (B7 q))∧w'=w):=by
 have h1:=E8 s;have h2:=E8 q
 refine D4 Tryz.func224 J J (Qd (Zc 1 J (Qd (Z 1 J (C9 J (F6 Tryz.underlying9 J) (Z 1 J (C9 J (F6 Tryz.underlying9 J) (Z 2 J (C0 (d:=10) J (fun g1=>?_) (fun g1=>?_))))))))))
 ·try simp at g1
  refine Qu J (Z 1 J (Qu J (Z 1 J (Qu J (C9 J (F6 Tryz.underlying9 J) (Qu J (C9 J (Cq6 Tryz.underlying9 J J (by omega) (by omega)) (Qu J (Z 1 J (Qu J (C9 J (Cg2 J J) (Zc 2 J (A6 (B4 J J ⟨I7 ?_,rfl⟩))))))))))))));rw [By0,Bc7];unfold Dc3;rw [h1,h2,Ek8 (by omega:q.size≤s.size)];simp
 ·try simp at g1
  exact Qk J (Qk J (Qk J (Qk J (Qk J (Qk J (Zc 2 J (A6 (B4 J J ⟨I7 (by unfold Dc3;rw [h1,h2,Ek9 (by omega)];rfl),rfl⟩))))))))
theorem pre_c (s q:ByteArray) (w:World):Calls P 207 #[.string s,.string q] w (Ret fun v w'=>v= .bool (Dc3 (B7 s) (B7 q))∧w'=w):=by
 refine D4 Tryz.func207 J J (Qd (Zc 1 J (Qd (Z 2 J (Ca fb224 J (pre0_c s q _) ?_)))));rintro _ _ ⟨rfl,rfl⟩;exact Zc 1 J (A6 (B4 J J ⟨rfl,rfl⟩))
end
theorem Ad9 {L:List Nat} {q:Ps} (h:¬ (q.e=0∧R5 L q=true)) (f n:Nat):N0 L f n q=(n,q):=by
 cases f with
 |zero=>rfl
 |succ f=>unfold N0;rw [Ej6 h]
theorem Bt4 {L:List Nat}:∀ (f n:Nat) (q:Ps),n≤1001→(N0 L f n q).1≤1001
 |0,n,q,h=>h
 |f+1,n,q,h=>by
  unfold N0
  split
  ·exact Bt4 f _ _ (by omega)
  ·exact h
theorem Dd0 (s:ByteArray) (p:Ps) (sl:Value) (b:Nat) (w:World) (hs:s.size≤1048576) (hp:p.i≤s.size) (hR:Blk w b (rdC s p sl) 239):Calls P 225 #[.pointer (some ⟨b,0,none⟩)] w (Ret fun v w'=>v= .int .i64 ((H8 (B7 s) p).1:Nat)∧Chg [b] w w'∧Blk w' b (rdC s (H8 (B7 s) p).2 sl) 239):=by
 have hC:=A8 [b] w;have hle:(B7 s).length=s.size:=E8 s;refine D4 Tryz.func225 J J (Qd (Zc 1 J (Qd (Z 2 J (Fa E0 J (Fa G7 J (Lb o3 J ‹_› (by rfl) ?_)))))))
 refine Zc 2 J (I0 (fun e9 wr=>Sub [(0,.pointer (some ⟨b,0,none⟩)),(3,.int .i64 (p.i:Int)),(4,.int .i64 0)] e9∧Chg [b] w wr∧Blk wr b (rdC s (if R5 (B7 s) p then p else p.fail p.i 4) sl) 239) ?_ ?_)
 ·refine Qd (Z 1 J (Ca fb236 J (Dg5 s p sl b _ ‹_›) ?_));rintro _ w1 ⟨rfl,hx1⟩;have hC:=hC.s0 hx1;have hR:=hR.u hx1
  refine Zc 1 J (A4 J (fun g1=>?_) (fun g1=>?_))
  ·try simp at g1
   refine C7 (S:=[]) 8 [(0,0),(0,1),(0,2),(0,3),(0,4),(0,5),(0,6),(0,7),(2,8)] mo (by kernel_rfl) ?_;intro w2 hx2 hh2;have hR:=hR.u hx2;refine Z 2 J (Fa E0 J (Z 2 J (Fa E0 J (Fa G7 J (D5 J (B3 o3 J ‹_› (by simp<;>omega) (by rfl)) ?_)))));refine Ca Ak3 J (X4 s _ sl b p.i 4 _ ‹_›) ?_;rintro _ w3 ⟨rfl,hx3,hR'⟩;have hC:=hC.step (hx2.j hx3) (by simp<;>omega);clear hR;have hR:=hR';clear hR';refine Qc ⟨(sb J),?_⟩;exact ⟨hC,by rw [Ej6 (by rw [g1];simp)];exact hR⟩
  ·try simp at g1
   refine A7 ⟨(sb J),?_⟩;exact ⟨hC,by rw [Ej7 g1];exact hR⟩
 rintro e9 w9 ⟨hs9,hC,hR⟩;refine H9 _ hs9 ?_;clear hs9 e9;have hf:Fine (B7 s).length 0 p (if R5 (B7 s) p then p else p.fail p.i 4):=Ae3 (Fine.refl (by omega)) (Fine.fail (by omega) (by omega) (by decide));have hE:H8 (B7 s) p=((N0 (B7 s) ((B7 s).length+1) 0 (if R5 (B7 s) p then p else p.fail p.i 4)).1,if 1000<(N0 (B7 s) ((B7 s).length+1) 0 (if R5 (B7 s) p then p else p.fail p.i 4)).1 then (N0 (B7 s) ((B7 s).length+1) 0 (if R5 (B7 s) p then p else p.fail p.i 4)).2.fail p.i 5 else (N0 (B7 s) ((B7 s).length+1) 0 (if R5 (B7 s) p then p else p.fail p.i 4)).2):=rfl;generalize (if R5 (B7 s) p then p else p.fail p.i 4)=q0 at*;have hq0:=hf.le;have hnle:=Bt4 (L:=B7 s) ((B7 s).length+1) 0 q0 (by omega);generalize hr:N0 (B7 s) ((B7 s).length+1) 0 q0=r at*
 refine I0 (fun e9 wr=>Sub [(0,.pointer (some ⟨b,0,none⟩)),(3,.int .i64 (p.i:Int)),(4,.int .i64 (r.1:Int))] e9∧Chg [b] w wr∧Blk wr b (rdC s r.2 sl) 239) ?_ ?_
 ·refine B2 (D9 (σ:=Nat × Nat × Ps) (fun (f,t,q)=>[(0,.pointer (some ⟨b,0,none⟩)),(3,.int .i64 (p.i:Int)),(4,.int .i64 (t:Int))]) (fun (f,t,q) wr=>Chg [b] w wr∧Blk wr b (rdC s q sl) 239∧N0 (B7 s) f t q=r∧q.i≤(B7 s).length∧(B7 s).length<q.i+f∧t≤1001) (fun (f,t,q) wr=>f) ((B7 s).length+1,0,q0) (sb J) ?_ ?_)
  ·exact ⟨hC,hR,hr,hq0,by omega,by omega⟩
  rintro ⟨f,t,q⟩ w8 ⟨hC,hR,hr,hqi,hfu,ht⟩
  try have hzw:=hC.size
  refine Qa (Qd (Z 2 J (Fa E0 J (Ca Bm9 J (Bo8 s _ sl b _ ‹_›) ?_))));rintro _ _ ⟨rfl,rfl⟩
  refine Z 2 J (C0 (d:=27) J (fun g2=>?_) (fun g2=>?_))
  ·try simp at g2
   refine Qu J (Z 1 J (Qu J (Ca fb236 J (Dg5 s q sl b _ ‹_›) ?_)));rintro _ w5 ⟨rfl,hx5⟩;have hC:=hC.s0 hx5;have hR:=hR.u hx5
   refine Zc 1 J (A4 J (fun g3=>?_) (fun g3=>?_))
   ·try simp at g3
    have hlt:=Co2 g3;obtain ⟨f,rfl⟩:∃ g,f=g+1:=⟨f - 1,by omega⟩
    have hcl:N0 (B7 s) (f+1) t q=N0 (B7 s) f (min (10*t+(H6 (B7 s) q - 48)) 1001) (q.go 1):=by
     show (if q.e=0∧R5 (B7 s) q=true then _ else _)=_;rw [Ej7 ⟨g2,g3⟩]
    obtain ⟨u,hu,hu2⟩:=Cu1 s q (by omega);have hd:48≤H6 (B7 s) q∧H6 (B7 s) q≤57:=by unfold R5 at g3;simp at g3;omega
    refine A7 (B2 (Qa (C7 (S:=[]) 15 [(0,0),(0,1),(0,2),(0,3),(0,4),(0,5),(0,6),(0,7),(0,8),(0,9),(0,10),(0,11),(0,12),(0,13),(0,14),(2,15),(2,16),(2,17)] mo (by kernel_rfl) ?_)));intro w6 hx6 hh6;have hR:=hR.u hx6;refine Z 1 J (D5 J (Ao6 J J (by omega)) (Z 2 J (Fa E0 J (Fa Bb0 J (D5 J (B3 o9 J ‹_› (by simp<;>omega) (by rfl)) ?_)))));refine Z 2 J (Fa E0 J (Fa G7 J (D5 J (B3 o3 J ‹_› (by simp<;>omega) (by rfl)) ?_)));refine D5 J (F3 Tryz.underlying9 J J (by omega) (by exact hu)) ?_;refine D5 J (Does.to (Ab1 J J) (J5 (show _=((H6 (B7 s) q - 48:Nat):Int) by rw [wu8,hu2];omega))) ?_;refine D5 J (H3 kn5 Tryz.underlying3 J (by exact I3 (by omega))) ?_;refine Ad J J (by omega) (C9 J (Does.to (T4 J J) (J5 (show _=((min (10*t+(H6 (B7 s) q - 48)) 1001:Nat):Int) by omega))) ?_);refine Zc 1 J (Qb (Z 2 J (Fa E0 J (Fa G7 J (Lb o3 J ‹_› (by rfl) ?_)))));refine Ad J J (by omega) (Z 1 J (Fa E0 J (Fa G7 J (Pe sz3 J ‹_› J J ?_))));intro w7 hs7 hx7 hR;have hC:=hC.step (hx6.j hx7) (by simp<;>omega);refine Qc ⟨(f,min (10*t+(H6 (B7 s) q - 48)) 1001,q.go 1),sb J,?_,?_⟩;refine ⟨hC,hR,by rw [← hcl];exact hr,?_,?_,by omega⟩;show q.i+1≤_;omega;show (B7 s).length<(q.i+1)+f;omega;exact Er2 f
   ·try simp at g3
    refine Xb ⟨⟨rfl,rfl,(G3 J (by rw [← hr,Ad9 (by rw [g3];simp)])),trivial⟩,?_⟩;exact ⟨hC,by rw [← hr,Ad9 (by rw [g3];simp)];exact hR⟩
  ·try simp at g2
   refine Qk J (Qk J (Zc 1 J (E4 J (Xb ⟨⟨rfl,rfl,(G3 J (by rw [← hr,Ad9 (by intro h;exact absurd h.1 (by simpa using g2))])),trivial⟩,?_⟩))));exact ⟨hC,by rw [← hr,Ad9 (by intro h;exact absurd h.1 (by simpa using g2))];exact hR⟩
 rintro e9 w7 ⟨hs9,hC,hR⟩;refine H9 _ hs9 ?_;clear hs9 e9
 refine Qa (Qd (Zc 2 J (A4 J (fun g4=>?_) (fun g4=>?_))))
 ·try simp at g4
  refine Qb (Z 2 J (Fa E0 J (Z 1 J (Ca Ak3 J (X4 s _ sl b p.i 5 _ ‹_›) ?_))));rintro _ w8 ⟨rfl,hx8,hR'⟩;have hC:=hC.step hx8 (by simp<;>omega);clear hR;have hR:=hR';clear hR';exact Qc (Qd (Zc 2 J (A6 (B4 J J ⟨by rw [hE],hC,by rw [hE];dsimp only;rw [Ej7 (by omega)];exact hR⟩))))
 ·try simp at g4
  exact A7 (Qd (Zc 2 J (A6 (B4 J J ⟨by rw [hE],hC,by rw [hE];dsimp only;rw [Ej6 (by omega)];exact hR⟩))))
def L3 (L:List Nat) (lo:Nat × Ps):Int × Ps:=
 if lo.2.e=0∧isB L lo.2 44 then
  let q:=lo.2.go 1
  if ¬ q.i<L.length∨H6 L q≠125 then
   let hi:=H8 L q
   ((hi.1:Int),if hi.2.e=0∧hi.1<lo.1 then hi.2.fail q.i 5 else hi.2)
  else (-1,q)
 else ((lo.1:Int),lo.2)
theorem Bw7 (L:List Nat) (p:Ps):S5 L p=(((H8 L p).1:Int),(L3 L (H8 L p)).1,if (L3 L (H8 L p)).2.e=0 then (if isB L (L3 L (H8 L p)).2 125 then (L3 L (H8 L p)).2.go 1 else (L3 L (H8 L p)).2.fail (L3 L (H8 L p)).2.i 4) else (L3 L (H8 L p)).2):=rfl
theorem bracesM_le (L:List Nat) (lo:Nat × Ps) (h:lo.2.i≤L.length):(L3 L lo).2.i≤L.length:=by
 unfold L3
 split
 ·rename_i hb
  have hg:Fine L.length 1 lo.2 (lo.2.go 1):=Fine.go (Ar4 hb.2);dsimp only
  split
  ·exact (Ae3 ((Ad8 hg.le).thenFail hg.le (by decide)) (Ad8 hg.le)).le
  ·exact hg.le
 ·exact h
theorem braces_c (s:ByteArray) (p:Ps) (sl:Value) (b:Nat) (w:World) (hs:s.size≤1048576) (hp:p.i≤s.size) (hR:Blk w b (rdC s p sl) 239):Calls P 208 #[.pointer (some ⟨b,0,none⟩)] w (Ret fun v w'=>v= .tuple #[.int .i64 (S5 (B7 s) p).1,.int .i64 (S5 (B7 s) p).2.1]∧Chg [b] w w'∧Blk w' b (rdC s (S5 (B7 s) p).2.2 sl) 239):=by
 have hC:=A8 [b] w;have hle:(B7 s).length=s.size:=E8 s;refine D4 Tryz.func208 J J (Qd (Zc 2 J (Qd (Z 1 J (Ca fb225 J (Dd0 s p sl b _ hs hp ‹_›) ?_)))));rintro _ w1 ⟨rfl,hx1,hR'⟩;have hz1:=hx1.size;have hC:=hC.step hx1 (by simp<;>omega);clear hR;have hR:=hR';clear hR';rw [Bw7];generalize hlo:H8 (B7 s) p=lo at*
 refine Zc 1 J (Qd (Zc 2 J (I0 (fun e9 wr=>Sub [(0,.pointer (some ⟨b,0,none⟩)),(4,.int .i64 (lo.1:Int)),(5,.int .i64 (L3 (B7 s) lo).1)] e9∧Chg [b] w wr∧Blk wr b (rdC s (L3 (B7 s) lo).2 sl) 239) ?_ ?_)))
 ·refine Qd (Z 2 J (Fa E0 J (Ca Bm9 J (Bo8 s _ sl b _ ‹_›) ?_)));rintro _ _ ⟨rfl,rfl⟩
  refine Z 2 J (C0 (d:=17) J (fun g1=>?_) (fun g1=>?_))
  ·try simp at g1
   refine Qu J (Z 1 J (Qu J (Z 1 J (Qu J (Fa E0 J (Qu J (Ca Do1 J (is_c s _ sl b 44 _ hs ‹_›) ?_)))))));rintro _ w3 ⟨rfl,hx3,hR'⟩;have hC:=hC.step hx3 (by simp<;>omega);clear hR;have hR:=hR';clear hR'
   refine Zc 1 J (A4 J (fun g2=>?_) (fun g2=>?_))
   ·try simp at g2
    have hS:isS (B7 s) lo.2 44=lo.2.go 1:=by unfold isS;rw [g2];rfl
    rw [hS] at hR;have hg:Fine (B7 s).length 1 lo.2 (lo.2.go 1):=Fine.go (Ar4 g2);have hgl:=hg.le;have hM:L3 (B7 s) lo=if ¬ (lo.2.go 1).i<(B7 s).length∨H6 (B7 s) (lo.2.go 1)≠125 then (((H8 (B7 s) (lo.2.go 1)).1:Int),if (H8 (B7 s) (lo.2.go 1)).2.e=0∧(H8 (B7 s) (lo.2.go 1)).1<lo.1 then (H8 (B7 s) (lo.2.go 1)).2.fail (lo.2.go 1).i 5 else (H8 (B7 s) (lo.2.go 1)).2) else (-1,lo.2.go 1):=by unfold L3;rw [Ej7 ⟨g1,g2⟩]
    refine Qd (Zc 1 J (Qd (Z 2 J (Fa E0 J (Ca Cx6 J (Bj5 s (lo.2.go 1) sl b _ ‹_›) ?_)))));rintro _ w4 ⟨rfl,hx4⟩;have hC:=hC.s0 hx4;have hR:=hR.u hx4
    refine Zc 5 J (I0 (fun e9 wr=>Sub [(0,.pointer (some ⟨b,0,none⟩)),(4,.int .i64 (lo.1:Int)),(5,.int .i64 (-1)),(35,.bool (decide (¬ (lo.2.go 1).i<(B7 s).length∨H6 (B7 s) (lo.2.go 1)≠125)))] e9∧Chg [b] w wr∧Blk wr b (rdC s (lo.2.go 1) sl) 239) ?_ ?_)
    ·refine Qb (Z 3 J (C0 (d:=32) J (fun g3=>?_) (fun g3=>?_)))
     ·try simp at g3
      refine Qk J (Qk J (Zc 1 J ⟨⟨rfl,rfl,rfl,(H0 J (by rw [Ek8 (Or.inl (by omega))])),trivial⟩,?_⟩));exact ⟨hC,hR⟩
     ·try simp at g3
      refine Qu J (Z 1 J (Qu J (Zc 2 J ⟨⟨rfl,rfl,rfl,(H0 J (by by_cases h:H6 (B7 s) (lo.2.go 1)=125<;>simp [Aa7,h,hle,g3]<;>omega)),trivial⟩,?_⟩)));exact ⟨hC,hR⟩
    rintro e9 w9 ⟨hs9,hC,hR⟩;refine H9 _ hs9 ?_;clear hs9 e9
    refine A4 J (fun g4=>?_) (fun g4=>?_)
    ·try simp at g4
     refine Qd (Z 2 J (Fa E0 J (Fa G7 J (Lb o3 J ‹_› (by rfl) ?_))));refine Zc 1 J (Qd (Z 1 J (Ca fb225 J (Dd0 s (lo.2.go 1) sl b _ hs (by omega) ‹_›) ?_)));rintro _ w5 ⟨rfl,hx5,hR'⟩;have hz5:=hx5.size;have hC:=hC.step hx5 (by simp<;>omega);clear hR;have hR:=hR';clear hR';refine Zc 1 J (Qd (Z 2 J (Fa E0 J (Ca Bm9 J (Bo8 s _ sl b _ ‹_›) ?_))));rintro _ _ ⟨rfl,rfl⟩
     refine Z 2 J (C0 (d:=48) J (fun g5=>?_) (fun g5=>?_))
     ·try simp at g5
      refine Qu J (Z 1 J (Qu J (Z 1 J (Qu J (Zc 2 J (A4 J (fun g6=>?_) (fun g6=>?_)))))))
      ·try simp at g6
       refine Qb (Z 2 J (Fa E0 J (Z 1 J (Ca Ak3 J (X4 s _ sl b (lo.2.go 1).i 5 _ ‹_›) ?_))));rintro _ w7 ⟨rfl,hx7,hR'⟩;have hC:=hC.step hx7 (by simp<;>omega);clear hR;have hR:=hR';clear hR';refine Qc ⟨⟨rfl,rfl,(G3 J (by rw [hM,Ej7 (by omega)])),trivial⟩,?_⟩;exact ⟨hC,by rw [hM,Ej7 (by omega)];dsimp only;rw [Ej7 ⟨g5,by omega⟩];exact hR⟩
      ·try simp at g6
       refine A7 ⟨⟨rfl,rfl,(G3 J (by rw [hM,Ej7 (by omega)])),trivial⟩,?_⟩;exact ⟨hC,by rw [hM,Ej7 (by omega)];dsimp only;rw [Ej6 (by omega)];exact hR⟩
     ·try simp at g5
      refine Qk J (Qk J (Qk J (Zc 1 J (E4 J (A7 ⟨⟨rfl,rfl,(G3 J (by rw [hM,Ej7 (by omega)])),trivial⟩,?_⟩)))));exact ⟨hC,by rw [hM,Ej7 (by omega)];dsimp only;rw [Ej6 (by intro h;exact absurd h.1 (by simpa using g5))];exact hR⟩
    ·try simp at g4
     refine A7 ⟨⟨rfl,rfl,(G3 J (by rw [hM,Ej6 (by omega)])),trivial⟩,?_⟩;exact ⟨hC,by rw [hM,Ej6 (by omega)];exact hR⟩
   ·try simp at g2
    have hS:isS (B7 s) lo.2 44=lo.2:=by unfold isS;rw [g2];rfl
    have hM:L3 (B7 s) lo=((lo.1:Int),lo.2):=by unfold L3;rw [Ej6 (by rw [g2];simp)]
    refine A7 ⟨⟨rfl,rfl,(G3 J (by rw [hM])),trivial⟩,?_⟩;exact ⟨hC,by rw [hM];rw [hS] at hR;exact hR⟩
  ·try simp at g1
   have hM:L3 (B7 s) lo=((lo.1:Int),lo.2):=by unfold L3;rw [Ej6 (by intro h;exact absurd h.1 (by simpa using g1))]
   refine Qk J (Qk J (Qk J (Qk J (Zc 1 J (E4 J (A7 ⟨⟨rfl,rfl,(G3 J (by rw [hM])),trivial⟩,?_⟩))))));exact ⟨hC,by rw [hM];exact hR⟩
 rintro e9 w8 ⟨hs9,hC,hR⟩;refine H9 _ hs9 ?_;clear hs9 e9
 try have hzw:=hC.size
 generalize L3 (B7 s) lo=m at*
 try have hlR:=hR.lt
 refine Qa (Qd (Z 2 J (Fa E0 J (Ca Bm9 J (Bo8 s _ sl b _ ‹_›) ?_))));rintro _ _ ⟨rfl,rfl⟩
 refine Z 2 J (C0 (d:=63) J (fun g7=>?_) (fun g7=>?_))
 ·try simp at g7
  refine Qu J (Z 1 J (Qu J (Z 1 J (Qu J (Fa E0 J (Qu J (Ca Do1 J (is_c s m.2 sl b 125 _ hs ‹_›) ?_)))))));rintro _ w9 ⟨rfl,hx9,hR'⟩;have hC:=hC.step hx9 (by simp<;>omega);clear hR;have hR:=hR';clear hR'
  refine Qu J (Zc 2 J (A4 J (fun g8=>?_) (fun g8=>?_)))
  ·try simp at g8
   have hS:isS (B7 s) m.2 125=m.2:=by unfold isS;rw [g8];rfl
   rw [hS] at hR;refine C7 (S:=[]) 8 [(0,0),(0,1),(0,2),(0,3),(0,4),(0,5),(0,6),(0,7),(2,8)] mo (by kernel_rfl) ?_;intro w10 hx10 hh10;have hR:=hR.u hx10;refine Z 2 J (Fa E0 J (Z 2 J (Fa E0 J (Fa G7 J (D5 J (B3 o3 J ‹_› (by simp<;>omega) (by rfl)) ?_)))));refine Ca Ak3 J (X4 s _ sl b m.2.i 4 _ ‹_›) ?_;rintro _ w11 ⟨rfl,hx11,hR'⟩;have hC:=hC.step (hx10.j hx11) (by simp<;>omega);clear hR;have hR:=hR';clear hR';exact Qc (Qd (Zc 4 J (A6 (J7 J J J ⟨rfl,hC,by dsimp only;rw [Ej7 g7,Ej6 (by rw [g8];simp)];exact hR⟩))))
  ·try simp at g8
   have hS:isS (B7 s) m.2 125=m.2.go 1:=by unfold isS;rw [g8];rfl
   rw [hS] at hR;exact A7 (Qd (Zc 4 J (A6 (J7 J J J ⟨rfl,hC,by dsimp only;rw [Ej7 g7,Ej7 g8];exact hR⟩))))
 ·try simp at g7
  exact Qk J (Qk J (Qk J (Qk J (Qk J (Zc 1 J (E4 J (A7 (Qd (Zc 4 J (A6 (J7 J J J ⟨rfl,hC,by dsimp only;rw [Ej6 (by simpa using g7)];exact hR⟩)))))))))))
theorem S6 (k a c mn mx:Int) (lz:Bool):Tok.cells { kind:=k,src:=a,to:=c,set:=0,min:=mn,max:=mx,lazy:=lz }=[.int .i64 k,.int .i64 a,.int .i64 c,.int .u64 0,.int .u64 0,.int .u64 0,.int .u64 0,.int .i64 mn,.int .i64 mx,.bool lz]:=by
 simp [Tok.cells,C6]
def S0 (L:List Nat) (p:Ps) (c:Nat):Int × Int × Ps:=if c=43 then (1,-1,p) else if c=63 then (0,1,p) else if c=123 then S5 L p else (0,-1,p)
theorem Ef8 (L:List Nat) (p:Ps) (c:Nat):Aj5 L p c=if (S0 L p c).2.2.e≠0 then (({ kind:=5,min:=(S0 L p c).1,max:=(S0 L p c).2.1 }:Tok),(S0 L p c).2.2)
 else (({ kind:=5,min:=(S0 L p c).1,max:=(S0 L p c).2.1,lazy:=isB L (S0 L p c).2.2 63 }:Tok),if isB L (isS L (S0 L p c).2.2 63) 43 then (isS L (S0 L p c).2.2 63).fail (isS L (S0 L p c).2.2 63).i 6 else isS L (S0 L p c).2.2 63):=rfl
theorem countT_c (s:ByteArray) (p:Ps) (sl:Value) (b c:Nat) (w:World) (hs:s.size≤1048576) (hp:p.i≤s.size) (hR:Blk w b (rdC s p sl) 239):Calls P 179 #[.pointer (some ⟨b,0,none⟩),.int .u8 (c:Int)] w (Ret fun v w'=>v= .agg (Aj5 (B7 s) p c).1.cells.toArray∧Chg [b] w w'∧Blk w' b (rdC s (Aj5 (B7 s) p c).2 sl) 239):=by
 have hC:=A8 [b] w;have hle:(B7 s).length=s.size:=E8 s;rw [Ef8]
 try have hlR:=hR.lt
 refine D4 Tryz.func179 J J (Qd (B5 J (B9 Z7 J) ?_));intro b1 w1 hb1 hs1 hx1 hB1;refine Qc (Qd (C9 J (B0 Z7 Ba6 J (by rfl)) ?_));refine B5 J (B9 Z7 J) ?_;intro b2 w2 hb2 hs2 hx2 hB2;refine Pe Z0 J ‹_› J J ?_;intro w3 hs3 hx3 hB2;have hC:=hC.step ((hx1.j hx2).j hx3) (by simp<;>omega);have hR:=hR.q ((hx1.j hx2).j hx3) (by simp<;>omega);have hB1:=hB1.q (hx2.j hx3) (by simp<;>omega)
 refine Qc (I0 (fun e9 wr=>∃ b4 b5,Sub [(0,.pointer (some ⟨b,0,none⟩)),(4,.pointer (some ⟨b4,0,none⟩)),(5,.pointer (some ⟨b5,0,none⟩))] e9∧Chg [b] w wr∧Blk wr b (rdC s (S0 (B7 s) p c).2.2 sl) 239∧Blk wr b4 [.int .i64 0,.int .i64 0,.int .i64 0,.int .u64 0,.int .u64 0,.int .u64 0,.int .u64 0,.int .i64 0,.int .i64 0,.bool false] 205∧Blk wr b5 [.int .i64 5,.int .i64 0,.int .i64 0,.int .u64 0,.int .u64 0,.int .u64 0,.int .u64 0,.int .i64 (S0 (B7 s) p c).1,.int .i64 (S0 (B7 s) p c).2.1,.bool false] 205∧w.heap.size≤b4∧b4<b5∧b<b4) ?_ ?_)
 ·refine Qd (Zc 1 J (B2 (Qd (Zc 2 J (A4 J (fun g1=>?_) (fun g1=>?_))))))
  ·try simp at g1
   have hM:S0 (B7 s) p c=(1,-1,p):=by unfold S0;rw [Ej7 (by omega)]
   refine Qb (Fa Cw4 J (Pe sz3 J ‹_› J J ?_));intro w4 hs4 hx4 hB2;have hC:=hC.step hx4 (by simp<;>omega);have hR:=hR.q hx4 (by simp;omega);have hB1:=hB1.q hx4 (by simp;omega);refine Qc ⟨b1,b2,sb J,?_⟩;rw [hM];exact ⟨hC,hR,hB1,hB2,by omega,by omega,by omega⟩
  ·try simp at g1
   refine Qd (Zc 2 J (A4 J (fun g2=>?_) (fun g2=>?_)))
   ·try simp at g2
    have hM:S0 (B7 s) p c=(0,1,p):=by unfold S0;rw [Ej6 (by omega),Ej7 (by omega)]
    refine Qb (Fa Cw3 J (Pe sz3 J ‹_› J J ?_));intro w5 hs5 hx5 hB2;have hC:=hC.step hx5 (by simp<;>omega);have hR:=hR.q hx5 (by simp;omega);have hB1:=hB1.q hx5 (by simp;omega);refine Qc ⟨b1,b2,sb J,?_⟩;rw [hM];exact ⟨hC,hR,hB1,hB2,by omega,by omega,by omega⟩
   ·try simp at g2
    refine Qd (Zc 2 J (A4 J (fun g3=>?_) (fun g3=>?_)))
    ·try simp at g3
     have hM:S0 (B7 s) p c=S5 (B7 s) p:=by unfold S0;rw [Ej6 (by omega),Ej6 (by omega),Ej7 (by omega)]
     refine Qb (Z 1 J (Ca fb208 J (braces_c s p sl b _ hs hp ‹_›) ?_));rintro _ w6 ⟨rfl,hx6,hR'⟩;have hB2:=hB2.q hx6 (by simp;omega);clear hR;have hR:=hR';clear hR';refine Z 3 J (Fa Cw4 J (Pe sz3 J ‹_› J J ?_));intro w7 hs7 hx7 hB2;refine Fa Cw3 J (Pe sz3 J ‹_› J J ?_);intro w8 hs8 hx8 hB2;have hC:=hC.step ((hx6.j hx7).j hx8) (by simp<;>omega);have hR:=hR.q (hx7.j hx8) (by simp<;>omega);have hB1:=hB1.q ((hx6.j hx7).j hx8) (by simp<;>omega);refine Qc ⟨b1,b2,sb J,?_⟩;rw [hM];exact ⟨hC,hR,hB1,hB2,by omega,by omega,by omega⟩
    ·try simp at g3
     have hM:S0 (B7 s) p c=(0,-1,p):=by unfold S0;rw [Ej6 (by omega),Ej6 (by omega),Ej6 (by omega)]
     refine A7 ⟨b1,b2,sb J,?_⟩;rw [hM];exact ⟨hC,hR,hB1,hB2,by omega,by omega,by omega⟩
 rintro e9 w9 ⟨b4,b5,hs9,hC,hR,hB1,hB2,hlt1,hlt2,hlt3⟩;refine H9 _ hs9 ?_;clear hs9 e9
 try have hzw:=hC.size
 generalize S0 (B7 s) p c=m at*;obtain ⟨mn,mx,q⟩:=m;dsimp only at*
 try have hlR:=hR.lt
 try have hlB1:=hB1.lt
 try have hlB2:=hB2.lt
 refine Qa (Qd (Z 2 J (Fa E0 J (Ca Bm9 J (Bo8 s q sl b _ ‹_›) ?_))));rintro _ _ ⟨rfl,rfl⟩
 refine Qc (A4 J (fun g4=>?_) (fun g4=>?_))
 ·try simp at g4
  refine Qd (La Y3 J ‹_› J J ?_);refine Pe Z0 J ‹_› J J ?_;intro w10 hs10 hx10 hB1;have hC:=hC.step hx10 (by simp<;>omega);have hR:=hR.q hx10 (by simp;omega);refine Qc (A6 (D3 J J (A5 Y3 ‹_› J J) ?_));exact ⟨by rw [Ej7 g4,S6]<;>rfl,hC,by rw [Ej7 g4];exact hR⟩
 ·try simp at g4
  rw [Ej6 (by simpa using g4)];refine A7 (Qd (Z 2 J (Fa E0 J (Ca Do1 J (is_c s q sl b 63 _ hs ‹_›) ?_))));rintro _ w11 ⟨rfl,hx11,hR'⟩;have hB2:=hB2.q hx11 (by simp;omega);clear hR;have hR:=hR';clear hR';generalize isB (B7 s) q 63=lz at*;generalize isS (B7 s) q 63=r at*;have hB':isB (B7 s) r 43=(decide (r.i<s.size) && decide (H6 (B7 s) r=43)):=by unfold isB;rw [E8];rfl
  refine Fa Ed2 J (Pe sz4 J ‹_› J J ?_);intro w12 hs12 hx12 hB2;have hR:=hR.q hx12 (by simp;omega);refine Qc (Qa (Qd (Z 2 J (Fa E0 J (Ca Cx6 J (Bj5 s r sl b _ ‹_›) ?_)))));rintro _ w13 ⟨rfl,hx13⟩;have hC:=hC.step ((hx11.j hx12).j hx13) (by simp<;>omega);have hR:=hR.u hx13;have hB1:=hB1.q ((hx11.j hx12).j hx13) (by simp<;>omega);have hB2:=hB2.u hx13
  refine Zc 5 J (Qd (Z 2 J (C0 (d:=43) J (fun g5=>?_) (fun g5=>?_))))
  ·try simp at g5
   refine Qu J (Z 1 J (Qu J (Zc 2 J (A4 J (fun g6=>?_) (fun g6=>?_)))))
   ·try simp at g6
    refine C7 (S:=[]) 8 [(0,0),(0,1),(0,2),(0,3),(0,4),(0,5),(0,6),(0,7),(2,8)] mo (by kernel_rfl) ?_;intro w14 hx14 hh14;have hR:=hR.u hx14;refine Z 2 J (Fa E0 J (Z 2 J (Fa E0 J (Fa G7 J (D5 J (B3 o3 J ‹_› (by simp<;>omega) (by rfl)) ?_)))));refine Ca Ak3 J (X4 s r sl b r.i 6 _ ‹_›) ?_;rintro _ w15 ⟨rfl,hx15,hR'⟩;have hB1:=hB1.q (hx14.j hx15) (by simp<;>omega);have hB2:=hB2.q (hx14.j hx15) (by simp<;>omega);clear hR;have hR:=hR';clear hR';refine Qc (Qd (La Y3 J ‹_› J J ?_));refine Pe Z0 J ‹_› J J ?_;intro w16 hs16 hx16 hB1;have hC:=hC.step ((hx14.j hx15).j hx16) (by simp<;>omega);have hR:=hR.q hx16 (by simp;omega);refine Qc (A6 (D3 J J (A5 Y3 ‹_› J J) ?_));exact ⟨by rw [S6]<;>rfl,hC,by dsimp only;rw [Ej7 (by rw [hB'];simp;omega)];exact hR⟩
   ·try simp at g6
    refine A7 (Qd (La Y3 J ‹_› J J ?_));refine Pe Z0 J ‹_› J J ?_;intro w17 hs17 hx17 hB1;have hC:=hC.step hx17 (by simp<;>omega);have hR:=hR.q hx17 (by simp;omega);refine Qc (A6 (D3 J J (A5 Y3 ‹_› J J) ?_));exact ⟨by rw [S6]<;>rfl,hC,by dsimp only;rw [Ej6 (by rw [hB'];simp;omega)];exact hR⟩
  ·try simp at g5
   refine Qk J (Qk J (Zc 1 J (E4 J (A7 (Qd (La Y3 J ‹_› J J ?_))))));refine Pe Z0 J ‹_› J J ?_;intro w18 hs18 hx18 hB1;have hC:=hC.step hx18 (by simp<;>omega);have hR:=hR.q hx18 (by simp;omega);refine Qc (A6 (D3 J J (A5 Y3 ‹_› J J) ?_));exact ⟨by rw [S6]<;>rfl,hC,by dsimp only;rw [Ej6 (by rw [hB'];simp;omega)];exact hR⟩
theorem Aa1 (L:List Nat) (p:Ps) (b:Nat):isB L p b=true↔p.i<L.length∧L.getD p.i 0=b:=by unfold isB;simp
theorem pre_bits (L:List Nat) (p:Ps):Dc3 (L.drop p.i) [63]=isB L p 63∧Dc3 (L.drop p.i) [63,58]=(isB L p 63 && isB L (p.go 1) 58):=by
 have hl:(L.drop p.i).length=L.length - p.i:=by simp
 have h0:L.getD p.i 0=(L.drop p.i).getD 0 0:=by simp [Ej8]
 have h1:L.getD (p.i+1) 0=(L.drop p.i).getD 1 0:=by simp [Ej8]
 have i0:isB L p 63=true↔0<(L.drop p.i).length∧(L.drop p.i).getD 0 0=63:=by rw [Aa1,h0];constructor<;>(intro h;exact ⟨by omega,h.2⟩)
 have i1:isB L (p.go 1) 58=true↔1<(L.drop p.i).length∧(L.drop p.i).getD 1 0=58:=by rw [Aa1,show (p.go 1).i=p.i+1 from rfl,h1];constructor<;>(intro h;exact ⟨by omega,h.2⟩)
 constructor
 ·rw [El0,i0];generalize L.drop p.i=D
  match D with
  |[]=>simp [Dc3]
  |[a]=>simp [Dc3]
  |a::c::r=>simp [Dc3]
 ·rw [El0,Ek2,i0,i1];generalize L.drop p.i=D
  match D with
  |[]=>simp [Dc3]
  |[a]=>simp [Dc3]
  |a::c::r=>simp [Dc3]
theorem group_c (s:ByteArray) (p:Ps) (sl:Value) (b a:Nat) (w:World) (hs:s.size≤1048576) (hp:p.i≤s.size) (hR:Blk w b (rdC s p sl) 239):Calls P 177 #[.pointer (some ⟨b,0,none⟩),.int .i64 (a:Int)] w (Ret fun v w'=>v= .agg (Aa5 (B7 s) p a).1.cells.toArray∧Chg [b] w w'∧Blk w' b (rdC s (Aa5 (B7 s) p a).2 sl) 239):=by
 have hC:=A8 [b] w;have hle:(B7 s).length=s.size:=E8 s;have hpb:=pre_bits (B7 s) p;have hx:B7 (s.extract p.i s.size)=(B7 s).drop p.i:=by rw [Bc7,Em3 (by omega)]
 try have hlR:=hR.lt
 refine D4 Tryz.func177 J J (Qd (B5 J (B9 Z7 J) ?_));intro b1 w1 hb1 hs1 hx1 hB1;refine Qc (Qa (B2 (Qa (C7 (S:=[]) 10 [(0,0),(0,1),(0,2),(0,3),(0,4),(0,5),(0,6),(0,7),(0,8),(0,9),(2,10),(2,11),(2,12)] mo (by kernel_rfl) ?_))));intro w2 hx2 hh2;have hz2:=hx2.size;have hC:=hC.s0 (hx1.s0 hx2);have hR:=hR.u (hx1.s0 hx2);have hB1:=hB1.u hx2;refine Z 2 J (Fa E0 J (Fa Bb0 J (D5 J (B3 o9 J ‹_› (by simp<;>omega) (by rfl)) ?_)));refine Z 2 J (Fa E0 J (Fa G7 J (D5 J (B3 o3 J ‹_› (by simp<;>omega) (by rfl)) ?_)));refine C9 J (Be4 Tryz.underlying9 J J (by omega) (by omega)) (Ca fb207 J (pre_c (s.extract p.i s.size) _ _) ?_);rintro _ _ ⟨rfl,rfl⟩
 refine Zc 1 J (A4 J (fun g1=>?_) (fun g1=>?_))
 ·try simp at g1
  have g1':(isB (B7 s) p 63 && isB (B7 s) (p.go 1) 58)=true:=by rw [← hpb.2,← hx];exact g1
  have hlt:=Ar4 (by simp only [Ek2] at g1';exact g1'.2);have hgo:(p.go 1).i=p.i+1:=rfl;have hE:Aa5 (B7 s) p a=({ kind:=2 },p.go 2):=by unfold Aa5;rw [Ej7 g1']
  refine Qd (Z 2 J (Fa E0 J (Fa G7 J (Lb o3 J ‹_› (by rfl) ?_))));refine Ad J J (by omega) (Z 1 J (Fa E0 J (Fa G7 J (Pe sz3 J ‹_› J J ?_))));intro w4 hs4 hx4 hR;have hB1:=hB1.q hx4 (by simp;omega);refine Qc (Qd (C9 J (B0 Z7 Ba6 J (by rfl)) ?_));refine Pe Z0 J ‹_› J J ?_;intro w5 hs5 hx5 hB1;have hC:=hC.step (hx4.j hx5) (by simp<;>omega);have hR:=hR.q hx5 (by simp;omega);refine Qc (A6 (D3 J J (A5 Y3 ‹_› J J) ?_));exact ⟨by rw [hE,S6]<;>rfl,hC,by rw [hE];exact hR⟩
 ·try simp at g1
  have g1':¬ (isB (B7 s) p 63 && isB (B7 s) (p.go 1) 58)=true:=by rw [← hpb.2,← hx];intro h;rw [show Dc3 (B7 (s.extract p.i s.size)) [63,58]=false from g1] at h;cases h
  refine Qa (C7 (S:=[]) 10 [(0,0),(0,1),(0,2),(0,3),(0,4),(0,5),(0,6),(0,7),(0,8),(0,9),(2,10),(2,11),(2,12)] mo (by kernel_rfl) ?_);intro w6 hx6 hh6;have hz6:=hx6.size;have hC:=hC.s0 hx6;have hR:=hR.u hx6;have hB1:=hB1.u hx6;refine Z 2 J (Fa E0 J (Fa Bb0 J (D5 J (B3 o9 J ‹_› (by simp<;>omega) (by rfl)) ?_)));refine Z 2 J (Fa E0 J (Fa G7 J (D5 J (B3 o3 J ‹_› (by simp<;>omega) (by rfl)) ?_)));refine C9 J (Be4 Tryz.underlying9 J J (by omega) (by omega)) (Ca fb207 J (pre_c (s.extract p.i s.size) _ _) ?_);rintro _ _ ⟨rfl,rfl⟩
  refine Zc 1 J (A4 J (fun g2=>?_) (fun g2=>?_))
  ·try simp at g2
   have g2':isB (B7 s) p 63=true:=by rw [← hpb.1,← hx];exact g2
   have hE:Aa5 (B7 s) p a=({ kind:=1 },p.fail a 6):=by unfold Aa5;rw [Ej6 g1',Ej7 g2']
   refine Qb (Z 2 J (Fa E0 J (Z 1 J (Ca Ak3 J (X4 s p sl b a 6 _ ‹_›) ?_))));rintro _ w8 ⟨rfl,hx8,hR'⟩;have hB1:=hB1.q hx8 (by simp;omega);clear hR;have hR:=hR';clear hR';refine Qc (Qd (C9 J (B0 Z7 Ba6 J (by rfl)) ?_));refine Pe Z0 J ‹_› J J ?_;intro w9 hs9 hx9 hB1;have hC:=hC.step (hx8.j hx9) (by simp<;>omega);have hR:=hR.q hx9 (by simp;omega);refine Qc (A6 (D3 J J (A5 Y3 ‹_› J J) ?_));exact ⟨by rw [hE,S6]<;>rfl,hC,by rw [hE];exact hR⟩
  ·try simp at g2
   have g2':¬ isB (B7 s) p 63=true:=by rw [← hpb.1,← hx];intro h;rw [show Dc3 (B7 (s.extract p.i s.size)) [63]=false from g2] at h;cases h
   have hE:Aa5 (B7 s) p a=({ kind:=1 },p):=by unfold Aa5;rw [Ej6 g1',Ej6 g2']
   refine A7 (Qd (C9 J (B0 Z7 Ba6 J (by rfl)) ?_));refine Pe Z0 J ‹_› J J ?_;intro w10 hs10 hx10 hB1;have hC:=hC.step hx10 (by simp<;>omega);have hR:=hR.q hx10 (by simp;omega);refine Qc (A6 (D3 J J (A5 Y3 ‹_› J J) ?_));exact ⟨by rw [hE,S6]<;>rfl,hC,by rw [hE];exact hR⟩
theorem one_c (s:ByteArray) (p:Ps) (sl:Value) (b:Nat) (w:World) (hs:s.size≤1048576) (hp:p.i<s.size) (hb4:4≤b) (hL:Laid w) (hR:Blk w b (rdC s p sl) 239):Calls P 147 #[.pointer (some ⟨b,0,none⟩)] w (Ret fun v w'=>v= .agg (Ag3 (B7 s) p).1.cells.toArray∧Chg [b] w w'∧Blk w' b (rdC s (Ag3 (B7 s) p).2 sl) 239):=by
 have hC:=A8 [b] w;have hle:(B7 s).length=s.size:=E8 s;have hlt:=Ad7 s p;have hgo:(p.go 1).i=p.i+1:=rfl;obtain ⟨u,hu,hu2⟩:=Cu1 s p hp
 try have hlR:=hR.lt
 refine D4 Tryz.func147 J J (Qd (B5 J (B9 Z7 J) ?_));intro b1 w1 hb1 hs1 hx1 hB1;have hC:=hC.s0 hx1;have hR:=hR.u hx1;have hL:=hL.u hx1;refine Qc (Qd (Z 2 J (Fa E0 J (Fa G7 J (Lb o3 J ‹_› (by rfl) ?_)))));refine Zc 1 J (Qd (Z 2 J (Fa E0 J (Fa Bb0 J (Lb o9 J ‹_› (by rfl) ?_)))));refine Z 1 J (C9 J (Does.to (F3 Tryz.underlying9 J J (by omega) (by exact hu)) (J5 hu2)) ?_)
 refine Zc 1 J (Qa (Qd (Zc 1 J (B2 (Qd (Zc 2 J (A4 J (fun g1=>?_) (fun g1=>?_))))))))
 ·try simp at g1
  have hE:Ag3 (B7 s) p=({ set:=(J6 (B7 s) p).1 },(J6 (B7 s) p).2):=by unfold Ag3;dsimp only;rw [Ej7 (by omega)]
  refine Qd (Z 1 J (Ca fb175 J (Dg1 s p sl b _ hs hp ‹_›) ?_));rintro _ w2 ⟨rfl,hx2,hR'⟩;have hB1:=hB1.q hx2 (by simp;omega);clear hR;have hR:=hR';clear hR';refine C9 J (B0 Z7 Ba6 J (by rfl)) ?_;refine Pe Z0 J ‹_› J J ?_;intro w3 hs3 hx3 hB1;have hC:=hC.step (hx2.j hx3) (by simp<;>omega);have hR:=hR.q hx3 (by simp;omega);refine Qc (A6 (D3 J J (A5 Y3 ‹_› J J) ?_));exact ⟨by rw [hE]<;>rfl,hC,by rw [hE];exact hR⟩
 ·try simp at g1
  refine Qd (Zc 2 J (A4 J (fun g2=>?_) (fun g2=>?_)))
  ·try simp at g2
   have hE:Ag3 (B7 s) p=({ set:=(Ae2 (B7 s) p).1 },(Ae2 (B7 s) p).2):=by unfold Ag3;dsimp only;rw [Ej6 (by omega),Ej7 (by omega)]
   refine Qd (Z 1 J (Ca fb176 J (class_c s p sl b _ hs hp hb4 ‹_› ‹_›) ?_));rintro _ w4 ⟨rfl,hx4,hR'⟩;have hB1:=hB1.q hx4 (by simp;omega);clear hR;have hR:=hR';clear hR';refine C9 J (B0 Z7 Ba6 J (by rfl)) ?_;refine Pe Z0 J ‹_› J J ?_;intro w5 hs5 hx5 hB1;have hC:=hC.step (hx4.j hx5) (by simp<;>omega);have hR:=hR.q hx5 (by simp;omega);refine Qc (A6 (D3 J J (A5 Y3 ‹_› J J) ?_));exact ⟨by rw [hE]<;>rfl,hC,by rw [hE];exact hR⟩
  ·try simp at g2
   refine A7 (Qd (Z 2 J (Fa E0 J (Fa G7 J (Lb o3 J ‹_› (by rfl) ?_)))));refine Ad J J (by omega) (Z 1 J (Fa E0 J (Fa G7 J (Pe sz3 J ‹_› J J ?_))));intro w6 hs6 hx6 hR;have hz6:=hx6.size;have hC:=hC.step hx6 (by simp<;>omega);have hL:=hL.q hx6 (by simp;omega);have hB1:=hB1.q hx6 (by simp;omega)
   refine Qc (Qa (B2 (Qd (Zc 3 J (A4 J (fun g3=>?_) (fun g3=>?_))))))
   ·try simp at g3
    have hE:Ag3 (B7 s) p=Aa5 (B7 s) (p.go 1) p.i:=by unfold Ag3;dsimp only;rw [Ej6 (by omega),Ej6 (by omega),Ej7 (by omega)]
    refine Qd (Z 2 J (Ca fb177 J (group_c s (p.go 1) sl b p.i _ hs (by omega) ‹_›) ?_));rintro _ w7 ⟨rfl,hx7,hR'⟩;have hB1:=hB1.q hx7 (by simp;omega);clear hR;have hR:=hR';clear hR';refine Pe Z0 J ‹_› J J ?_;intro w8 hs8 hx8 hB1;have hC:=hC.step (hx7.j hx8) (by simp<;>omega);have hR:=hR.q hx8 (by simp;omega);refine Qc (A6 (D3 J J (A5 Y3 ‹_› J J) ?_));exact ⟨by rw [hE]<;>rfl,hC,by rw [hE];exact hR⟩
   ·try simp at g3
    refine Qd (Zc 3 J (A4 J (fun g4=>?_) (fun g4=>?_)))
    ·try simp at g4
     have hE:Ag3 (B7 s) p=({ kind:=3 },p.go 1):=by unfold Ag3;dsimp only;rw [Ej6 (by omega),Ej6 (by omega),Ej6 (by omega),Ej7 (by omega)]
     refine Qd (C9 J (B0 Z7 Ba6 J (by rfl)) ?_);refine Pe Z0 J ‹_› J J ?_;intro w9 hs9 hx9 hB1;have hC:=hC.step hx9 (by simp<;>omega);have hR:=hR.q hx9 (by simp;omega);refine Qc (A6 (D3 J J (A5 Y3 ‹_› J J) ?_));exact ⟨by rw [hE,S6]<;>rfl,hC,by rw [hE];exact hR⟩
    ·try simp at g4
     refine Qd (Zc 3 J (A4 J (fun g5=>?_) (fun g5=>?_)))
     ·try simp at g5
      have hE:Ag3 (B7 s) p=({ kind:=4 },p.go 1):=by unfold Ag3;dsimp only;rw [Ej6 (by omega),Ej6 (by omega),Ej6 (by omega),Ej6 (by omega),Ej7 (by omega)]
      refine Qd (C9 J (B0 Z7 Ba6 J (by rfl)) ?_);refine Pe Z0 J ‹_› J J ?_;intro w10 hs10 hx10 hB1;have hC:=hC.step hx10 (by simp<;>omega);have hR:=hR.q hx10 (by simp;omega);refine Qc (A6 (D3 J J (A5 Y3 ‹_› J J) ?_));exact ⟨by rw [hE,S6]<;>rfl,hC,by rw [hE];exact hR⟩
     ·try simp at g5
      refine Qd (Zc 3 J (A4 J (fun g6=>?_) (fun g6=>?_)))
      ·try simp at g6
       have hE:Ag3 (B7 s) p=({ set:=Q1 (E9 [10]) },p.go 1):=by unfold Ag3;dsimp only;rw [Ej6 (by omega),Ej6 (by omega),Ej6 (by omega),Ej6 (by omega),Ej6 (by omega),Ej7 (by omega)]
       refine Qd (B5 J (B6 Aj2 Tryz.underlying44 zr5 J J J (by rfl)) ?_);intro b11 w11 hb11 hs11 hx11 hB11;refine Ca W2 J (W1 _ _ _ _ _ ‹_› (by omega) (by omega)) ?_;rintro _ w12 ⟨rfl,hx12⟩;refine Ca Do3 J (Dl8 (E9 [Int.toNat 10]) (Bd2 (c:=10) (by decide)) _) ?_;rintro _ w13 ⟨rfl,hx13⟩;have hB1:=hB1.u ((hx11.s0 hx12).s0 hx13);refine C9 J (B0 Z7 Ba6 J (by rfl)) ?_;refine Pe Z0 J ‹_› J J ?_;intro w14 hs14 hx14 hB1;have hC:=hC.step (((hx11.j hx12).j hx13).j hx14) (by simp<;>omega);have hR:=hR.q (((hx11.j hx12).j hx13).j hx14) (by simp<;>omega);refine Qc (A6 (D3 J J (A5 Y3 ‹_› J J) ?_));exact ⟨by rw [hE]<;>rfl,hC,by rw [hE];exact hR⟩
      ·try simp at g6
       refine I0 (fun e9 wr=>Sub [(0,.pointer (some ⟨b,0,none⟩)),(2,.pointer (some ⟨b1,0,none⟩)),(3,.int .i64 (p.i:Int)),(4,.int .u8 (H6 (B7 s) p:Int)),(58,.bool (decide (H6 (B7 s) p=42∨H6 (B7 s) p=43∨H6 (B7 s) p=63∨H6 (B7 s) p=123)))] e9∧wr=w6∧Chg [b] w wr) ?_ ?_
       ·refine Qb (Z 3 J (C0 (d:=61) J (fun h1=>?_) (fun h1=>?_)))
        ·try simp at h1
         refine Qk J (Qk J (Z 2 J (Qk J (Qk J (Z 2 J (Qk J (Qk J (Zc 2 J ⟨⟨rfl,rfl,rfl,rfl,(H0 J (by rw [Ek8 (by omega)])),trivial⟩,?_⟩))))))));exact ⟨rfl,hC⟩
        ·try simp at h1
         refine Qu J (Z 1 J (Qu J (Z 3 J (C0 (d:=65) J (fun h2=>?_) (fun h2=>?_)))))
         ·try simp at h2
          refine Qk J (Qk J (Z 2 J (Qk J (Qk J (Zc 2 J ⟨⟨rfl,rfl,rfl,rfl,(H0 J (by rw [Ek8 (by omega)])),trivial⟩,?_⟩)))));exact ⟨rfl,hC⟩
         ·try simp at h2
          refine Qu J (Z 1 J (Qu J (Z 3 J (C0 (d:=69) J (fun h3=>?_) (fun h3=>?_)))))
          ·try simp at h3
           refine Qk J (Qk J (Zc 2 J ⟨⟨rfl,rfl,rfl,rfl,(H0 J (by rw [Ek8 (by omega)])),trivial⟩,?_⟩));exact ⟨rfl,hC⟩
          ·try simp at h3
           refine Qu J (Z 1 J (Qu J (Zc 3 J ⟨⟨rfl,rfl,rfl,rfl,(H0 J (by rw [El0,cmpB_eql,El1];omega)),trivial⟩,?_⟩)));exact ⟨rfl,hC⟩
       rintro e9 w8 ⟨hs9,rfl,hC⟩;refine H9 _ hs9 ?_;clear hs9 e9
       try have hzw:=hC.size
       try have hlR:=hR.lt
       try have hz4:=hL.sz
       try have hlB1:=hB1.lt
       refine A4 J (fun g7=>?_) (fun g7=>?_)
       ·try simp at g7
        have hE:Ag3 (B7 s) p=Aj5 (B7 s) (p.go 1) (H6 (B7 s) p):=by unfold Ag3;dsimp only;rw [Ej6 (by omega),Ej6 (by omega),Ej6 (by omega),Ej6 (by omega),Ej6 (by omega),Ej6 (by omega),Ej7 (by omega)]
        refine Qd (Z 2 J (Ca fb179 J (countT_c s (p.go 1) sl b (H6 (B7 s) p) _ hs (by omega) ‹_›) ?_));rintro _ w15 ⟨rfl,hx15,hR'⟩;have hB1:=hB1.q hx15 (by simp;omega);clear hR;have hR:=hR';clear hR';refine Pe Z0 J ‹_› J J ?_;intro w16 hs16 hx16 hB1;have hC:=hC.step (hx15.j hx16) (by simp<;>omega);have hR:=hR.q hx16 (by simp;omega);refine Qc (A6 (D3 J J (A5 Y3 ‹_› J J) ?_));exact ⟨by rw [hE]<;>rfl,hC,by rw [hE];exact hR⟩
       ·try simp at g7
        refine I0 (fun e9 wr=>Sub [(0,.pointer (some ⟨b,0,none⟩)),(2,.pointer (some ⟨b1,0,none⟩)),(3,.int .i64 (p.i:Int)),(4,.int .u8 (H6 (B7 s) p:Int)),(76,.bool (decide (H6 (B7 s) p=94∨H6 (B7 s) p=36)))] e9∧wr=w8∧Chg [b] w wr) ?_ ?_
        ·refine Qb (Z 3 J (C0 (d:=79) J (fun h4=>?_) (fun h4=>?_)))
         ·try simp at h4
          refine Qk J (Qk J (Zc 2 J ⟨⟨rfl,rfl,rfl,rfl,(H0 J (by rw [Ek8 (by omega)])),trivial⟩,?_⟩));exact ⟨rfl,hC⟩
         ·try simp at h4
          refine Qu J (Z 1 J (Qu J (Zc 3 J ⟨⟨rfl,rfl,rfl,rfl,(H0 J (by rw [El0,cmpB_eql,El1];omega)),trivial⟩,?_⟩)));exact ⟨rfl,hC⟩
        rintro e9 w9 ⟨hs9,rfl,hC⟩;refine H9 _ hs9 ?_;clear hs9 e9
        try have hzw:=hC.size
        try have hlR:=hR.lt
        try have hz4:=hL.sz
        try have hlB1:=hB1.lt
        refine A4 J (fun g8=>?_) (fun g8=>?_)
        ·try simp at g8
         have hE:Ag3 (B7 s) p=({ set:=E9 [H6 (B7 s) p] },(p.go 1).fail p.i 6):=by unfold Ag3;dsimp only;rw [Ej6 (by omega),Ej6 (by omega),Ej6 (by omega),Ej6 (by omega),Ej6 (by omega),Ej6 (by omega),Ej6 (by omega),Ej7 (by omega)]
         refine Qb (Z 2 J (Fa E0 J (Z 1 J (Ca Ak3 J (X4 s (p.go 1) sl b p.i 6 _ ‹_›) ?_))));rintro _ w17 ⟨rfl,hx17,hR'⟩;clear hR;have hR:=hR';clear hR';refine Qc (Qd (Z 1 J (B5 J (B6 Aj2 Tryz.underlying44 zr5 J J J (by rfl)) ?_)));intro b18 w18 hb18 hs18 hx18 hB18;refine Ca W2 J (W1 _ _ _ _ _ ‹_› (by omega) (by omega)) ?_;rintro _ w19 ⟨rfl,hx19⟩;have hB1:=hB1.q ((hx17.j hx18).j hx19) (by simp<;>omega);refine C9 J (B0 Z7 Ba6 J (by rfl)) ?_;refine Pe Z0 J ‹_› J J ?_;intro w20 hs20 hx20 hB1;have hC:=hC.step (((hx17.j hx18).j hx19).j hx20) (by simp<;>omega);have hR:=hR.q ((hx18.j hx19).j hx20) (by simp<;>omega);refine Qc (A6 (D3 J J (A5 Y3 ‹_› J J) ?_));exact ⟨by rw [hE]<;>rfl,hC,by rw [hE];exact hR⟩
        ·try simp at g8
         refine Qd (Z 1 J (Ca Do2 J (Dn3 _ Ea2 _ (by rfl) hlt _) ?_));rintro _ _ ⟨rfl,rfl⟩
         refine Zc 2 J (A4 J (fun g9=>?_) (fun g9=>?_))
         ·try simp at g9
          have hE:Ag3 (B7 s) p=({ set:=E9 [H6 (B7 s) p] },(p.go 1).fail p.i 4):=by unfold Ag3;dsimp only;rw [Ej6 (by omega),Ej6 (by omega),Ej6 (by omega),Ej6 (by omega),Ej6 (by omega),Ej6 (by omega),Ej6 (by omega),Ej6 (by omega),Ej7 g9]
          refine Qb (Z 2 J (Fa E0 J (Z 1 J (Ca Ak3 J (X4 s (p.go 1) sl b p.i 4 _ ‹_›) ?_))));rintro _ w22 ⟨rfl,hx22,hR'⟩;clear hR;have hR:=hR';clear hR';refine Qc (Qd (Z 1 J (B5 J (B6 Aj2 Tryz.underlying44 zr5 J J J (by rfl)) ?_)));intro b23 w23 hb23 hs23 hx23 hB23;refine Ca W2 J (W1 _ _ _ _ _ ‹_› (by omega) (by omega)) ?_;rintro _ w24 ⟨rfl,hx24⟩;have hB1:=hB1.q ((hx22.j hx23).j hx24) (by simp<;>omega);refine C9 J (B0 Z7 Ba6 J (by rfl)) ?_;refine Pe Z0 J ‹_› J J ?_;intro w25 hs25 hx25 hB1;have hC:=hC.step (((hx22.j hx23).j hx24).j hx25) (by simp<;>omega);have hR:=hR.q ((hx23.j hx24).j hx25) (by simp<;>omega);refine Qc (A6 (D3 J J (A5 Y3 ‹_› J J) ?_));exact ⟨by rw [hE]<;>rfl,hC,by rw [hE];exact hR⟩
         ·try simp at g9
          have hE:Ag3 (B7 s) p=({ set:=E9 [H6 (B7 s) p] },p.go 1):=by unfold Ag3;dsimp only;rw [Ej6 (by omega),Ej6 (by omega),Ej6 (by omega),Ej6 (by omega),Ej6 (by omega),Ej6 (by omega),Ej6 (by omega),Ej6 (by omega),Ej6 (by omega)]
          refine A7 (Qd (Z 1 J (B5 J (B6 Aj2 Tryz.underlying44 zr5 J J J (by rfl)) ?_)));intro b26 w26 hb26 hs26 hx26 hB26;refine Ca W2 J (W1 _ _ _ _ _ ‹_› (by omega) (by omega)) ?_;rintro _ w27 ⟨rfl,hx27⟩;have hB1:=hB1.u (hx26.s0 hx27);refine C9 J (B0 Z7 Ba6 J (by rfl)) ?_;refine Pe Z0 J ‹_› J J ?_;intro w28 hs28 hx28 hB1;have hC:=hC.step ((hx26.j hx27).j hx28) (by simp<;>omega);have hR:=hR.q ((hx26.j hx27).j hx28) (by simp<;>omega);refine Qc (A6 (D3 J J (A5 Y3 ‹_› J J) ?_));exact ⟨by rw [hE]<;>rfl,hC,by rw [hE];exact hR⟩
theorem H7 {P:Program} {n:Nat} {ops:Array Oper} {S:World→Prop} {N:Env→World→Prop} {B:Nat→Env→World→Prop} {R:Env→World→Prop} {e:Env} {w:World} {rest:List (Nat × Oper)} {op:Op} {t:TypeId} {p:String} {af:Array Edge} {b:Nat} {cs:List Value} {τ:TypeId} (hy:Puts P n e ⟨none,op,t,p,af,none⟩ w b cs τ)
  (h:∀ w',w'.heap.size=w.heap.size→Chg [b] w w'→Blk w' b cs τ→S w'∧EP P n ops S N B R rest e w'):EP P n ops S N B R ((1,⟨none,op,t,p,af,none⟩)::rest) e w:=by
 obtain ⟨w',hr,h2,h3,h4⟩:=hy;exact EP.s1 hr (h w' h3 h2 h4).1 (h w' h3 h2 h4).2
theorem Own.blk {w:World} {lo:Nat} {el:TypeId} {sz n c:Nat} {A:Option Addr} {cs:List Value} (h:Own w lo el sz A n c cs):∀ x∈E6 A,lo≤x∧x<w.heap.size:=by
 intro x hx
 rcases h.form with ⟨rfl,_⟩|⟨g,cur,rfl,hg,hb,_⟩
 ·cases hx
 ·simp [E6] at hx;subst hx;exact ⟨hg,hb.lt⟩
def Ab9 (l:List Tok):List Value:=l.flatMap Tok.cells
theorem Ch6 (l:List Tok) (t:Tok):Ab9 (l++[t])=Ab9 l++t.cells:=by simp [Ab9]
theorem Bx8 (t:Tok):t.cells.length=10:=by simp [Tok.cells,C4]
def Tok.at (t:Tok) (a b:Int):Tok:={ t with src:=a,to:=b }
theorem tok_at (t:Tok) (a b:Int):(t.at a b).cells=[.int .i64 t.kind,.int .i64 a,.int .i64 b,.int .u64 (wd t.set 0),.int .u64 (wd t.set 1),.int .u64 (wd t.set 2),.int .u64 (wd t.set 3),.int .i64 t.min,.int .i64 t.max,.bool t.lazy]:=rfl
theorem scan_c (s:ByteArray) (w:World) (hL:Laid w):Calls P 124 #[.string s] w (Ret fun v w'=>∃ A c,v= .tuple #[.slice A (R4 (B7 s)).1.length c,.int .i64 ((R4 (B7 s)).2.1:Nat),.int .i64 (R4 (B7 s)).2.2]∧Chg [] w w'∧Rd (fun x=>w.heap.size≤x) w' 10 A (R4 (B7 s)).1.length (Ab9 (R4 (B7 s)).1)):=by
 have hC:=A8 [] w;have hle:(B7 s).length=s.size:=E8 s
 try have hz4:=hL.sz
 refine D4 Tryz.func124 J J (Qd (Zc 3 J (Qa (Qd (Z 1 J (C9 J (F6 Tryz.underlying9 J) (Zc 1 J (A4 J (fun g1=>?_) (fun g1=>?_)))))))))
 ·try simp at g1
  refine Qd (Zc 3 J (A6 (P0 J J J J ?_)));have hE:R4 (B7 s)=([],0,3):=by unfold R4;rw [Ej7 (by omega)]
  rw [hE];exact ⟨none,0,rfl,hC,Rd.nil _ _ _ _⟩
 ·try simp at g1
  have hE:R4 (B7 s)=Aq6 (B7 s) ((B7 s).length+1) ⟨0,0⟩ []:=by unfold R4;rw [Ej6 (by omega)]
  generalize R4 (B7 s)=r at*;refine A7 (Qd (Z 1 J (C9 J (B0 zr237 pl237 J (by rfl)) ?_)));refine C9 J (B0 zr239 pl239 J (by rfl)) ?_;refine B5 J (E1 J J) ?_;intro b1 w1 hb1 hs1 hx1 hB1;have hC:=hC.s0 hx1;have hL:=hL.u hx1
  refine Zc 1 J (Qa (B2 (D9 (σ:=Nat × Ps × List Tok × Option Addr × Nat) (fun (f,q,l,A,c)=>[(0,.string s),(5,.pointer (some ⟨b1,0,none⟩))]) (fun (f,q,l,A,c) wr=>Chg [] w wr∧Laid wr∧Blk wr b1 (rdC s q (.slice A l.length c)) 239∧Own wr (b1+1) 205 10 A l.length c (Ab9 l)∧r=Aq6 (B7 s) f q l∧q.i≤(B7 s).length∧(B7 s).length<q.i+f∧q.e=0∧l.length≤q.i) (fun (f,q,l,A,c) wr=>f) ((B7 s).length+1,⟨0,0⟩,[],none,0) (sb J) ?_ ?_)))
  ·exact ⟨hC,hL,hB1,Own.nil _ _ _ _,hE,Ek5 _,by show _<0+_;omega,rfl,Ek7 _⟩
  rintro ⟨f,q,l,A,c⟩ w9 ⟨hC,hL,hB1,hO,hr,hqi,hfu,hqe,hlq⟩;have hOb:=hO.blk
  try have hlB1:=hB1.lt
  refine Qa (Qd (Z 2 J (Fa E0 J (Fa G7 J (Lb o3 J ‹_› (by rfl) ?_)))))
  refine Z 1 J (C9 J (F6 Tryz.underlying9 J) (Zc 1 J (A4 J (fun g2=>?_) (fun g2=>?_))))
  ·try simp at g2
   obtain ⟨f,rfl⟩:∃ g,f=g+1:=⟨f - 1,by omega⟩
   have hcl:Aq6 (B7 s) (f+1) q l=if (Ag3 (B7 s) q).2.e≠0 then ([],(Ag3 (B7 s) q).2.i,(Ag3 (B7 s) q).2.e) else Aq6 (B7 s) f (Ag3 (B7 s) q).2 (l++[(Ag3 (B7 s) q).1.at q.i (Ag3 (B7 s) q).2.i]):=by
    show (if q.i<(B7 s).length then _ else _)=_;rw [Ej7 (by omega)]
    rfl
   have hf:=Bk0 (L:=B7 s) (p:=q) (by omega);refine A7 (B2 (Qd (Z 2 J (Fa E0 J (Fa G7 J (Lb o3 J ‹_› (by rfl) ?_))))));refine Zc 1 J (Qd (Z 1 J (Ca fb147 J (one_c s q _ b1 _ (by omega) (by omega) (by omega) ‹_› ‹_›) ?_)));rintro _ w2 ⟨rfl,hx2,hB1'⟩;have hz2:=hx2.size;have hO:=hO.q hx2 (by intro x hx;simp at hx;left;omega);clear hB1;have hB1:=hB1';clear hB1';refine B5 J (B9 Z7 J) ?_;intro b3 w3 hb3 hs3 hx3 hB3;have hO:=hO.u hx3;refine Pe Z0 J ‹_› J J ?_;intro w4 hs4 hx4 hB3;have hz4:=hx4.size;have hC:=hC.step ((hx2.j hx3).j hx4) (by simp<;>omega);have hL:=hL.q ((hx2.j hx3).j hx4) (by simp<;>omega);have hB1:=hB1.q (hx3.j hx4) (by simp<;>omega);have hO:=hO.q hx4 (by intro x hx;have hx:=Ej9.1 hx;right;intro h;have:=hOb x (by rw [h];exact Ej9.2 J);omega);refine Qc (Qa (Qd (Z 2 J (Fa E0 J (Ca Bm9 J (Bo8 s _ _ b1 _ ‹_›) ?_)))));rintro _ _ ⟨rfl,rfl⟩
   refine Qc (A4 J (fun g3=>?_) (fun g3=>?_))
   ·try simp at g3
    refine Qa (C7 (S:=[]) 12 [(0,0),(0,1),(0,2),(0,3),(0,4),(0,5),(0,6),(0,7),(0,8),(0,9),(0,10),(0,11),(2,12)] mo (by kernel_rfl) ?_);intro w6 hx6 hh6;have hC:=hC.s0 hx6;have hB1:=hB1.u hx6;refine Z 2 J (Fa E0 J (Fa G7 J (D5 J (B3 o3 J ‹_› (by simp;done) (by rfl)) ?_)));refine Z 2 J (Fa E0 J (Fa Cc4 J (D5 J (B3 o32 J ‹_› (by simp;done) (by rfl)) ?_)));refine Zc 3 J (A6 (P0 J J J J ?_));rw [hr,hcl,Ej7 g3];exact ⟨none,0,rfl,hC,Rd.nil _ _ _ _⟩
   ·try simp at g3
    refine A7 (Qa (C7 (S:=[b3]) 8 [(0,0),(0,1),(0,2),(0,3),(0,4),(0,5),(0,6),(1,7),(2,8),(2,9)] mo (by kernel_rfl) ?_));intro w7 hx7 hh7;have hB1:=hB1.u hx7;have hO:=hO.u hx7;have hB3:=hB3.u hx7;have hCS7:=A8 ([b3]) w7;have hbn:10*8*(l.length+1)≤140737488355328:=by omega
    refine Z 3 J (Fa E0 J (Fa G7 J (D5 J (B3 o3 J ‹_› (by simp;omega) (by rfl)) ?_)));refine Fa An5 J (H7 (G2 sz3 J J ‹_› J J J J (by rfl)) ?_);intro w8 hs8 hx8 hB3;have hO:=hO.q hx8 (by intro x hx;have hx:=Ej9.1 hx;right;intro h;have:=hOb x (by rw [h];exact Ej9.2 J);omega);have hCS7:=hCS7.step hx8 (by simp<;>omega);refine ⟨hCS7,?_⟩;refine Fa Cc8 J (Pe sz3 J ‹_› J J ?_);intro w9 hs9 hx9 hB3;have hO:=hO.q hx9 (by intro x hx;have hx:=Ej9.1 hx;right;intro h;have:=hOb x (by rw [h];exact Ej9.2 J);omega);refine Qc (C7 (S:=E6 A) 8 [(0,0),(0,1),(0,2),(0,3),(0,4),(0,5),(1,6),(1,7),(2,8),(2,9),(2,10)] mo (by kernel_rfl) ?_);intro w10 hx10 hh10;have hB1:=hB1.q ((hx8.j hx9).j hx10) (by simp<;>omega);have hB3:=hB3.u hx10;have hCS10:=A8 (E6 A) w10;refine Z 3 J (Fa Cc3 J (D5 J (B3 o195 J ‹_› (by intro h;have:=hOb _ h;omega) (by rfl)) ?_));refine D5 J (C1 Y3 J ‹_› (by intro h;have:=hOb _ h;omega) J J) ?_;refine E2 J (B6 sl195 Tryz.underlying195 Z7 J J J (by rfl)) ?_;intro b11 w11 hb11 hs11 hx11 hB11;have hC:=hC.step ((((hx7.j hx8).j hx9).j hx10).j hx11) (by simp<;>omega);have hL:=hL.q ((((hx7.j hx8).j hx9).j hx10).j hx11) (by simp<;>omega);have hB1:=hB1.u hx11;have hO:=hO.u (hx10.s0 hx11);have hCS10:=hCS10.s0 hx11;refine ⟨hCS10,?_⟩;refine Y4 J el195 J J hO (Blk.rd (F:=fun _=>True) ‹_› J trivial) (by rfl) (by omega) (by omega) ?_;intro A' c' w12 hO12 hx12 hA';have hC:=hC.step hx12 (by intro x h;have:=hOb x h;exact .inr (by omega));have hL:=hL.q hx12 (by intro x h;have:=hOb x h;first|omega|exact .inr (by omega));have hB1:=hB1.q hx12 (by intro h;have:=hOb _ h;omega);have hCS10:=hCS10.step hx12 (by exact fun x h=>.inl h)
    replace hO:=hO12
    refine ⟨hCS10,?_⟩;refine Z 1 J (Fa Cc3 J (Pe sz195 J ‹_› J J ?_));intro w13 hs13 hx13 hB1;have hC:=hC.step hx13 (by simp<;>omega);have hL:=hL.q hx13 (by simp;omega);have hO:=hO.q hx13 (by intro x hx;simp at hx;left;omega);refine Qc ⟨(f,(Ag3 (B7 s) q).2,l++[(Ag3 (B7 s) q).1.at q.i (Ag3 (B7 s) q).2.i],A',c'),sb J,?_,?_⟩;have hll:(l++[(Ag3 (B7 s) q).1.at q.i (Ag3 (B7 s) q).2.i]).length=l.length+1:=by simp
    have ha:=hf.adv (by simpa using g3);refine ⟨hC,hL,by rw [hll];exact hB1,by rw [hll,Ch6,tok_at];exact hO,by rw [hr,hcl,Ej6 (by simpa using g3)],hf.le,by omega,by simpa using g3,by omega⟩;exact Er2 f
  ·try simp at g2
   have hcl:r=(l,l.length,0):=by
    rw [hr]
    cases f with
    |zero=>rfl
    |succ f=>unfold Aq6;rw [Ej6 (by omega)]
   refine Xb (Qa (C7 (S:=[]) 10 [(0,0),(0,1),(0,2),(0,3),(0,4),(0,5),(0,6),(0,7),(0,8),(0,9),(2,10),(2,11)] mo (by kernel_rfl) ?_));intro w14 hx14 hh14;have hC:=hC.s0 hx14;have hB1:=hB1.u hx14;have hO:=hO.u hx14;refine Z 2 J (Fa Cc3 J (D5 J (B3 o195 J ‹_› (by simp;done) (by rfl)) ?_));refine Z 2 J (Fa Cc3 J (D5 J (B3 o195 J ‹_› (by simp;done) (by rfl)) ?_));refine Ln Tryz.underlying195 J (Zc 3 J (A6 (P0 J J J J ?_)));rw [hcl];exact ⟨A,c,rfl,hC,hO.rd (fun x h1 _=>by omega)⟩
inductive Syn where
 |node (kind:Int) (set:Nat) (mn mx:Int) (lz:Bool) (l:List Syn) (a b:Int)
def Syn.kind:Syn→Int| .node k _ _ _ _ _ _ _=>k
def Syn.set:Syn→Nat| .node _ s _ _ _ _ _ _=>s
def Syn.mn:Syn→Int| .node _ _ m _ _ _ _ _=>m
def Syn.mx:Syn→Int| .node _ _ _ m _ _ _ _=>m
def Syn.lz:Syn→Bool| .node _ _ _ _ z _ _ _=>z
def Syn.l:Syn→List Syn| .node _ _ _ _ _ l _ _=>l
def Syn.a:Syn→Int| .node _ _ _ _ _ _ a _=>a
def Syn.b:Syn→Int| .node _ _ _ _ _ _ _ b=>b
instance:Inhabited Syn:=⟨.node 0 0 0 0 false [] 0 0⟩
structure Pp where
 next:Nat
 deep:Nat
 pl:Int
 e:Int
def Pp.fail (p:Pp) (a e:Int):Pp:=if p.e=0 then { p with pl:=a,e:=e } else p
def Pp.adv (p:Pp):Pp:={ p with next:=p.next+1 }
def pkQ (T:List Tok) (en:Nat) (p:Pp):Tok:=if p.next<T.length then T.getD p.next {} else { src:=en,to:=en }
def okQ (T:List Tok) (p:Pp):Bool:=decide (p.next<T.length)
def isQ (T:List Tok) (en:Nat) (p:Pp) (k:Int):Bool:=okQ T p && decide ((pkQ T en p).kind=k)
def Dn0 (T:List Tok) (p:Pp):Int:=(T.getD (p.next - 1) {}).to
def Aw9 (k:Int) (l:List Syn):Syn:=match l with
 |[x]=>x
 |l=>.node k 0 0 0 false l (l.getD 0 default).a (l.getD (l.length - 1) default).b
def W6 (p:Pp) (a:Int) (l:List Syn):Syn:=if p.e≠0∨l.length=0 then .node 0 0 0 0 false [] a a else Aw9 4 l
def Ak2 (T:List Tok) (en:Nat) (p:Pp):Bool:=decide (p.e=0) && okQ T p && !decide ((pkQ T en p).kind=4) && !decide ((pkQ T en p).kind=3)
mutual
def Y2 (T:List Tok) (en:Nat):Nat→Pp→Syn × Pp
 |0,p=>(default,p)
 |f+1,p=>altL T en f (Ap9 T en f p).2 [(Ap9 T en f p).1]
def altL (T:List Tok) (en:Nat):Nat→Pp→List Syn→Syn × Pp
 |0,p,l=>(Aw9 5 l,p)
 |f+1,p,l=>if p.e=0∧isQ T en p 4 then altL T en f (Ap9 T en f p.adv).2 (l++[(Ap9 T en f p.adv).1]) else (Aw9 5 l,p)
def Ap9 (T:List Tok) (en:Nat):Nat→Pp→Syn × Pp
 |0,p=>(default,p)
 |f+1,p=>catL T en f p (pkQ T en p).src []
def catL (T:List Tok) (en:Nat):Nat→Pp→Int→List Syn→Syn × Pp
 |0,p,a,l=>(W6 p a l,p)
 |f+1,p,a,l=>if Ak2 T en p then catL T en f (X8 T en f p (pkQ T en p)).2 a (l++[(X8 T en f p (pkQ T en p)).1]) else (W6 p a l,p)
def X8 (T:List Tok) (en:Nat):Nat→Pp→Tok→Syn × Pp
 |0,p,x=>(default,p)
 |f+1,p,x=>
  let m:Syn × Pp:=if x.kind=0 then (.node 1 x.set 0 0 false [] x.src x.to,p.adv) else if x.kind=1∨x.kind=2 then M6 T en f p x else (default,p.fail x.src 4)
  if m.2.e≠0∨isQ T en m.2 5=false then m else (.node 6 0 (pkQ T en m.2).min (pkQ T en m.2).max (pkQ T en m.2).lazy [m.1] x.src (pkQ T en m.2).to,m.2.adv)
def M6 (T:List Tok) (en:Nat):Nat→Pp→Tok→Syn × Pp
 |0,p,x=>(default,p)
 |f+1,p,x=>
  if 200≤p.deep then (default,p.fail x.src 3)
  else
   let c:=Y2 T en f { p with deep:=p.deep+1,next:=p.next+1 }
   let q:Pp:={ c.2 with deep:=c.2.deep - 1 }
   if q.e≠0 then (default,q)
   else if isQ T en q 3=false then (default,q.fail en 4)
   else (.node (if x.kind=2 then 3 else 2) 0 0 0 false [c.1] x.src (Dn0 T q.adv),q.adv)
end
def left (T:List Tok) (p:Pp):Nat:=T.length - p.next
def Ck0 (T:List Tok) (en:Nat):Syn × Int × Int:=
 let r:=Y2 T en (5*T.length+5) ⟨0,0,0,0⟩
 let q:=if okQ T r.2 then r.2.fail (pkQ T en r.2).src 4 else r.2
 if q.e≠0 then (default,q.pl,q.e) else (r.1,0,0)
def M5 (L:List Nat):Syn × Int × Int:=
 let t:=R4 L
 if t.2.2≠0 then (default,t.2.1,t.2.2) else Ck0 t.1 L.length
def FR (lo hi:Nat) (T:List Nat) (x:Nat):Prop:=lo≤x∧x<hi∧x∉T
def Bk2 (k:Int) (s:Nat) (mn mx:Int) (lz:Bool) (sl:Value) (a b:Int):List Value:=
 [.int .i64 k]++C4 s++[.int .i64 mn,.int .i64 mx,.bool lz,sl,.int .i64 a,.int .i64 b]
mutual
def IsSyn (F:Nat→Prop) (w:World):Syn→Value→Prop
 | .node k s mn mx lz l a b,v=>∃ p A c vs,v= .pointer (some ⟨p,0,none⟩)∧F p∧Blk w p (Bk2 k s mn mx lz (.slice A l.length c) a b) 254∧Rd F w 1 A l.length vs∧IsSyns F w l vs
def IsSyns (F:Nat→Prop) (w:World):List Syn→List Value→Prop
 |[],vs=>vs=[]
 |t::r,vs=>∃ v vr,vs=v::vr∧IsSyn F w t v∧IsSyns F w r vr
end
mutual
theorem IsSyn.map {F F':Nat→Prop} {w w':World} (hB:∀ p cs τ,F p→Blk w p cs τ→F' p∧Blk w' p cs τ) (hR:∀ A n vs,Rd F w 1 A n vs→Rd F' w' 1 A n vs):∀ (t:Syn) (v:Value),IsSyn F w t v→IsSyn F' w' t v
 | .node k s mn mx lz l a b,v,h=>by
  obtain ⟨p,A,c,vs,h1,h2,h3,h4,h5⟩:=h;exact ⟨p,A,c,vs,h1,(hB _ _ _ h2 h3).1,(hB _ _ _ h2 h3).2,hR _ _ _ h4,IsSyns.map hB hR l vs h5⟩
theorem IsSyns.map {F F':Nat→Prop} {w w':World} (hB:∀ p cs τ,F p→Blk w p cs τ→F' p∧Blk w' p cs τ) (hR:∀ A n vs,Rd F w 1 A n vs→Rd F' w' 1 A n vs):∀ (l:List Syn) (vs:List Value),IsSyns F w l vs→IsSyns F' w' l vs
 |[],vs,h=>h
 |t::r,vs,h=>by
  obtain ⟨v,vr,h1,h2,h3⟩:=h;exact ⟨v,vr,h1,IsSyn.map hB hR t v h2,IsSyns.map hB hR r vr h3⟩
end
theorem IsSyn.q {F:Nat→Prop} {w w':World} {S:List Nat} {t:Syn} {v:Value} (h:IsSyn F w t v) (k:Chg S w w') (hS:∀ b∈S,¬ F b):IsSyn F w' t v:=
 IsSyn.map (fun p cs τ hp hb=>⟨hp,hb.q k (fun hm=>hS p hm hp)⟩) (fun A n vs hr=>hr.q k hS) t v h
theorem IsSyn.u {F:Nat→Prop} {w w':World} {t:Syn} {v:Value} (h:IsSyn F w t v) (k:Chg [] w w'):IsSyn F w' t v:=h.q k (fun b hb=>by cases hb)
theorem IsSyn.mono {F F':Nat→Prop} {w:World} {t:Syn} {v:Value} (h:IsSyn F w t v) (hF:∀ b,F b→b<w.heap.size→F' b):IsSyn F' w t v:=
 IsSyn.map (fun p cs τ hp hb=>⟨hF p hp hb.lt,hb⟩) (fun A n vs hr=>hr.mono hF) t v h
theorem IsSyns.q {F:Nat→Prop} {w w':World} {S:List Nat} {t:List Syn} {v:List Value} (h:IsSyns F w t v) (k:Chg S w w') (hS:∀ b∈S,¬ F b):IsSyns F w' t v:=
 IsSyns.map (fun p cs τ hp hb=>⟨hp,hb.q k (fun hm=>hS p hm hp)⟩) (fun A n vs hr=>hr.q k hS) t v h
theorem IsSyns.u {F:Nat→Prop} {w w':World} {t:List Syn} {v:List Value} (h:IsSyns F w t v) (k:Chg [] w w'):IsSyns F w' t v:=h.q k (fun b hb=>by cases hb)
theorem IsSyns.mono {F F':Nat→Prop} {w:World} {t:List Syn} {v:List Value} (h:IsSyns F w t v) (hF:∀ b,F b→b<w.heap.size→F' b):IsSyns F' w t v:=
 IsSyns.map (fun p cs τ hp hb=>⟨hF p hp hb.lt,hb⟩) (fun A n vs hr=>hr.mono hF) t v h
theorem IsSyns.length {F:Nat→Prop} {w:World}:∀ {l:List Syn} {vs:List Value},IsSyns F w l vs→vs.length=l.length
 |[],vs,h=>by rw [show vs=[] from h];rfl
 |t::r,vs,h=>by obtain ⟨v,vr,rfl,_,h3⟩:=h;simp [h3.length]
theorem IsSyns.append {F:Nat→Prop} {w:World} {t:Syn} {v:Value} (ht:IsSyn F w t v):∀ {l:List Syn} {vs:List Value},IsSyns F w l vs→IsSyns F w (l++[t]) (vs++[v])
 |[],vs,h=>by rw [show vs=[] from h];exact ⟨v,[],rfl,ht,rfl⟩
 |t'::r,vs,h=>by obtain ⟨v',vr,rfl,h2,h3⟩:=h;exact ⟨v',vr++[v],rfl,h2,IsSyns.append ht h3⟩
theorem IsSyns.get {F:Nat→Prop} {w:World}:∀ {l:List Syn} {vs:List Value},IsSyns F w l vs→∀ k,k<l.length→∃ v,vs[k]?=some v∧IsSyn F w (l.getD k default) v
 |[],vs,h,k,hk=>by simp at hk
 |t::r,vs,h,k,hk=>by
  obtain ⟨v,vr,rfl,h2,h3⟩:=h
  cases k with
  |zero=>exact ⟨v,rfl,h2⟩
  |succ k=>obtain ⟨u,h4,h5⟩:=IsSyns.get h3 k (by simpa using hk);exact ⟨u,by simpa using h4,by simpa using h5⟩
abbrev psC (A:Option Addr) (n c en:Nat) (p:Pp):List Value:=[.slice A n c,.int .i64 (p.next:Int),.int .i64 (en:Int),.int .i64 (p.deep:Int),.int .i64 p.pl,.int .i64 p.e]
theorem Ch5:∀ (l:List Tok) (k j:Nat),k<l.length→j<10→(Ab9 l)[k*10+j]?=(l.getD k {}).cells[j]?
 |[],k,j,hk,hj=>by simp at hk
 |t::l,0,j,hk,hj=>by
  simp only [Ab9,Eo5,Et8,El4];rw [Em4 (by rw [Bx8];exact hj)];simp
 |t::l,k+1,j,hk,hj=>by
  simp only [Ab9,Eo5];rw [Em2 (by rw [Bx8];omega),Bx8,show (k+1)*10+j - 10=k*10+j from by omega];exact Ch5 l k j (by simpa using hk) hj
theorem tok_at0 (a:Int):Tok.cells { src:=a,to:=a }=[.int .i64 0,.int .i64 a,.int .i64 a,.int .u64 0,.int .u64 0,.int .u64 0,.int .u64 0,.int .i64 0,.int .i64 0,.bool false]:=by
 simp [Tok.cells,C6]
theorem tokE (t:Tok):t.cells=[.int .i64 t.kind,.int .i64 t.src,.int .i64 t.to,.int .u64 (wd t.set 0),.int .u64 (wd t.set 1),.int .u64 (wd t.set 2),.int .u64 (wd t.set 3),.int .i64 t.min,.int .i64 t.max,.bool t.lazy]:=rfl
theorem rd_tok {F:Nat→Prop} {w:World} {g off k:Nat} {T:List Tok} (hr:Rd F w 10 (some ⟨g,off,none⟩) T.length (Ab9 T)) (hk:k<T.length):
  g<w.heap.size∧∀ (j:Nat) (v:Value),(T.getD k {}).cells[j]?=some v→w.cell? ⟨g,off+k*10+j,none⟩=some v:=by
 obtain ⟨g',off',h,_,hlt,hc⟩:=hr.at_ (by omega);injection h with h;injection h with h1 h2;subst h1;subst h2
 refine ⟨hlt,fun j v hj=>?_⟩;have hj10:j<10:=by have:=(Em0.1 hj).1;rw [Bx8] at this;exact this
 rw [El8];exact hc _ _ (by rw [Ch5 T k j hk hj10];exact hj)
theorem rd_to {F:Nat→Prop} {w:World} {g off:Nat} {T:List Tok} {p:Pp} (hr:Rd F w 10 (some ⟨g,off,none⟩) T.length (Ab9 T)) (hn:0<p.next∧p.next≤T.length):
  w.cell? ⟨g,off+((p.next:Int) - 1).toNat*10+2,none⟩=some (.int .i64 (Dn0 T p)):=by
 have h:=(rd_tok hr (k:=p.next - 1) (by omega)).2 2 (.int .i64 (Dn0 T p)) J;rw [show ((p.next:Int) - 1).toNat=p.next - 1 from by omega];exact h
theorem Dw8 (T:List Tok) (F:Nat→Prop) (A:Option Addr) (c en:Nat) (p:Pp) (b:Nat) (w:World) (hT:T.length≤1048576) (hF:∀ b,F b→b<w.heap.size) (hr:Rd F w 10 A T.length (Ab9 T)) (hR:Blk w b (psC A T.length c en p) 202):Calls P 126 #[.pointer (some ⟨b,0,none⟩)] w (Ret fun v w'=>v= .tuple #[.agg (pkQ T en p).cells.toArray,.bool (okQ T p)]∧Chg [] w w'):=by
 have hC:=A8 [] w;refine D4 Tryz.func126 J J (Qd (B5 J (B9 Z7 J) ?_));intro b1 w1 hb1 hs1 hx1 hB1;refine Zc 1 J (Qa (Qa (C7 (S:=[]) 9 [(0,0),(0,1),(0,2),(0,3),(0,4),(0,5),(0,6),(0,7),(0,8),(2,9)] mo (by kernel_rfl) ?_)));intro w2 hx2 hh2;have hC:=hC.s0 (hx1.s0 hx2);have hR:=hR.u (hx1.s0 hx2);have hr:=hr.u (hx1.s0 hx2);have hB1:=hB1.u hx2;refine Z 2 J (Fa Y0 J (D5 J (B3 o3 J ‹_› (by simp;done) (by rfl)) ?_));refine Z 2 J (Fa Cw6 J (D5 J (B3 o195 J ‹_› (by simp;done) (by rfl)) ?_))
 refine Ln Tryz.underlying195 J (Zc 1 J (A4 J (fun h1=>?_) (fun h1=>?_)))
 ·try simp at h1
  have hp:pkQ T en p={ src:=en,to:=en }:=by unfold pkQ;rw [Ej6 (by omega)]
  refine Qa (C7 (S:=[]) 8 [(0,0),(0,1),(0,2),(0,3),(0,4),(0,5),(0,6),(0,7),(2,8),(2,9),(2,10)] mo (by kernel_rfl) ?_);intro w3 hx3 hh3;have hR:=hR.u hx3;have hB1:=hB1.u hx3;refine Z 2 J (Fa Cw5 J (D5 J (B3 o3 J ‹_› (by simp;done) (by rfl)) ?_));refine Z 2 J (Fa Cw5 J (D5 J (B3 o3 J ‹_› (by simp;done) (by rfl)) ?_));refine C9 J (B0 Z7 Ba6 J (by rfl)) ?_;refine Pe Z0 J ‹_› J J ?_;intro w4 hs4 hx4 hB1;have hC:=hC.step (hx3.j hx4) (by simp<;>omega);refine Zc 1 J (A6 (I5 J J (A5 Y3 ‹_› J J) J ?_));exact ⟨by rw [hp,tok_at0,show okQ T p=false from Ek9 (by omega)]<;>rfl,hC⟩
 ·try simp at h1
  have hk:p.next<T.length:=by omega
  have hp:pkQ T en p=T.getD p.next {}:=by unfold pkQ;rw [Ej7 hk]
  obtain ⟨g,off,rfl,_,_,_⟩:=hr.at_ (by omega);refine A7 (Qa (C7 (S:=[]) 8 [(0,0),(0,1),(0,2),(0,3),(0,4),(0,5),(0,6),(0,7),(2,8),(2,9),(2,10),(2,11)] mo (by kernel_rfl) ?_));intro w5 hx5 hh5;have hR:=hR.u hx5;have hr:=hr.u hx5;have hB1:=hB1.u hx5;refine Z 2 J (Fa Cw6 J (D5 J (B3 o195 J ‹_› (by simp;done) (by rfl)) ?_));refine Z 2 J (Fa Y0 J (D5 J (B3 o3 J ‹_› (by simp;done) (by rfl)) ?_));refine C9 J (C2 sl195 J J (by omega) (by omega)) (C9 J (E7 (vs:=(T.getD p.next {}).cells) Y3 J (F4 _) (rd_tok hr hk).2 J) (Pe Z0 J ‹_› J J ?_));intro w6 hs6 hx6 hB1;have hC:=hC.step (hx5.j hx6) (by simp<;>omega);refine Zc 1 J (A6 (I5 J J (A5 Y3 ‹_› J J) J ?_));exact ⟨by rw [hp,show okQ T p=true from Ek8 hk,tokE]<;>rfl,hC⟩
theorem isT_c (T:List Tok) (F:Nat→Prop) (A:Option Addr) (c en:Nat) (p:Pp) (b:Nat) (k:Int) (w:World) (hT:T.length≤1048576) (hF:∀ b,F b→b<w.heap.size) (hr:Rd F w 10 A T.length (Ab9 T)) (hR:Blk w b (psC A T.length c en p) 202):Calls P 150 #[.pointer (some ⟨b,0,none⟩),.int .i64 k] w (Ret fun v w'=>v= .bool (isQ T en p k)∧Chg [] w w'):=by
 have hC:=A8 [] w;refine D4 Tryz.func150 J J (Qd (Zc 1 J (Qd (Z 1 J (Ca Ed7 J (Dw8 T F A c en p b _ hT hF ‹_› ‹_›) ?_)))));rintro _ w1 ⟨rfl,hx1⟩;have hz1:=hx1.size;refine Z 3 J (B5 J (B9 Z7 J) ?_);intro b2 w2 hb2 hs2 hx2 hB2;refine Pe Z0 J ‹_› J J ?_;intro w3 hs3 hx3 hB2;have hC:=hC.step ((hx1.j hx2).j hx3) (by simp<;>omega)
 refine Zc 1 J (Qd (Z 2 J (C0 (d:=13) J (fun h1=>?_) (fun h1=>?_))))
 ·try simp at h1
  refine Qu J (Fa Bm3 J (Qu J (Lb o3 J ‹_› (by rfl) ?_)));exact Qu J (Z 1 J (Qu J (Zc 3 J (A6 (B4 J J ⟨I7 (by unfold isQ;rw [h1,Eu1,El0,cmpB_eql,El1]),hC⟩)))))
 ·try simp at h1
  exact Qk J (Qk J (Qk J (Qk J (Zc 2 J (A6 (B4 J J ⟨I7 (by unfold isQ;rw [h1];rfl),hC⟩))))))
theorem atT_c (T:List Tok) (F:Nat→Prop) (A:Option Addr) (c en:Nat) (p:Pp) (b:Nat) (w:World) (hT:T.length≤1048576) (hF:∀ b,F b→b<w.heap.size) (hr:Rd F w 10 A T.length (Ab9 T)) (hR:Blk w b (psC A T.length c en p) 202):Calls P 182 #[.pointer (some ⟨b,0,none⟩)] w (Ret fun v w'=>v= .int .i64 (pkQ T en p).src∧Chg [] w w'):=by
 have hC:=A8 [] w;refine D4 Tryz.func182 J J (Qd (Zc 1 J (Qd (Z 1 J (Ca Ed7 J (Dw8 T F A c en p b _ hT hF ‹_› ‹_›) ?_)))));rintro _ w1 ⟨rfl,hx1⟩;have hz1:=hx1.size;refine Z 3 J (B5 J (B9 Z7 J) ?_);intro b2 w2 hb2 hs2 hx2 hB2;refine Pe Z0 J ‹_› J J ?_;intro w3 hs3 hx3 hB2;have hC:=hC.step ((hx1.j hx2).j hx3) (by simp<;>omega);refine Zc 1 J (Qd (Fa An5 J (Lb o3 J ‹_› (by rfl) ?_)));exact Zc 1 J (A6 (B4 J J ⟨rfl,hC⟩))
theorem Eb0 (T:List Tok) (F:Nat→Prop) (A:Option Addr) (c en:Nat) (p:Pp) (b:Nat) (w:World) (hT:T.length≤1048576) (hn:0<p.next∧p.next≤T.length) (hF:∀ b,F b→b<w.heap.size) (hr:Rd F w 10 A T.length (Ab9 T)) (hR:Blk w b (psC A T.length c en p) 202):Calls P 227 #[.pointer (some ⟨b,0,none⟩)] w (Ret fun v w'=>v= .int .i64 (Dn0 T p)∧Chg [] w w'):=by
 have hC:=A8 [] w;obtain ⟨g,off,rfl,_,_,_⟩:=hr.at_ (by omega);refine D4 Tryz.func227 J J (Qd (Zc 1 J (Qa (C7 (S:=[]) 9 [(0,0),(0,1),(0,2),(0,3),(0,4),(0,5),(0,6),(0,7),(0,8),(2,9),(2,10),(2,11),(2,12)] mo (by kernel_rfl) ?_))));intro w1 hx1 hh1;have hC:=hC.s0 hx1;have hR:=hR.u hx1;have hr:=hr.u hx1;refine Z 2 J (Fa Cw6 J (D5 J (B3 o195 J ‹_› (by simp;done) (by rfl)) ?_));refine Z 2 J (Fa Y0 J (D5 J (B3 o3 J ‹_› (by simp;done) (by rfl)) ?_));exact Su J J (by omega) (C9 J (C2 sl195 J J (by omega) (by omega)) (Fa Cc8 J (Lc o3 J (rd_to hr hn) (Zc 1 J (A6 (B4 J J ⟨rfl,hC⟩))))))
theorem Bz5 (A:Option Addr) (n c en:Nat) (p:Pp) (b:Nat) (a e:Int) (w:World) (hR:Blk w b (psC A n c en p) 202):Calls P 127 #[.pointer (some ⟨b,0,none⟩),.int .i64 a,.int .i64 e] w (Ret fun v w'=>v= .tuple #[]∧Chg [b] w w'∧Blk w' b (psC A n c en (p.fail a e)) 202):=by
 have hC:=A8 [b] w;refine D4 Tryz.func127 J J (Qd (Z 2 J (Fa Ai5 J (Lb o32 J ‹_› (by rfl) ?_))))
 refine Zc 1 J (A4 J (fun hc=>?_) (fun hc=>?_))
 ·try simp at hc
  refine Qb (Z 5 J (Fa Ed3 J (Pe sz3 J ‹_› J J ?_)));intro w1 hs1 hx1 hR;refine Z 1 J (Fa Ai5 J (Pe sz32 J ‹_› J J ?_));intro w2 hs2 hx2 hR;have hC:=hC.step (hx1.j hx2) (by simp<;>omega);exact Qc (P1 J ⟨rfl,hC,by unfold Pp.fail;rw [Ej7 hc];exact hR⟩)
 ·try simp at hc
  exact A7 (P1 J ⟨rfl,hC,by unfold Pp.fail;rw [Ej6 hc];exact hR⟩)
theorem Rd.one {F:Nat→Prop} {w:World} {g off n k:Nat} {vs:List Value} {v:Value} (hr:Rd F w 1 (some ⟨g,off,none⟩) n vs) (hv:vs[k]?=some v):g<w.heap.size∧w.cell? ⟨g,off+k,none⟩=some v:=by
 have hk:k<vs.length:=(Em0.1 hv).1;have hl:=hr.len;obtain ⟨g',off',h,_,hlt,hc⟩:=hr.at_ (by omega);injection h with h;injection h with h1 h2;subst h1;subst h2
 exact ⟨hlt,hc _ _ hv⟩
theorem Bt5 (k mn mx:Int) (lz:Bool) (sl:Value) (a b:Int):Bk2 k 0 mn mx lz sl a b=[.int .i64 k,.int .u64 0,.int .u64 0,.int .u64 0,.int .u64 0,.int .i64 mn,.int .i64 mx,.bool lz,sl,.int .i64 a,.int .i64 b]:=by
 simp [Bk2,C6]
theorem IsSyn.span {F:Nat→Prop} {w:World} {t:Syn} {v:Value} (h:IsSyn F w t v):∃ p cs,v= .pointer (some ⟨p,0,none⟩)∧F p∧Blk w p cs 254∧cs[9]?=some (.int .i64 t.a)∧cs[10]?=some (.int .i64 t.b)∧cs[0]?=some (.int .i64 t.kind):=by
 cases t with
 |node k s mn mx lz l a b=>
  obtain ⟨p,A,c,vs,h1,h2,h3,_⟩:=h;exact ⟨p,_,h1,h2,h3,rfl,rfl,rfl⟩
theorem Dz6 {k:Int} {l:List Syn} (h:l.length≠1):Aw9 k l= .node k 0 0 0 false l (l.getD 0 default).a (l.getD (l.length - 1) default).b:=by
 match l,h with
 |[],_=>rfl
 |x::y::r,_=>rfl
theorem many_c (k:Int) (l:List Syn) (vs:List Value) (F:Nat→Prop) (A:Option Addr) (c:Nat) (w:World) (hl:0<l.length) (hl2:l.length≤2000000) (hF:∀ b,F b→b<w.heap.size) (hr:Rd F w 1 A l.length vs) (hI:IsSyns F w l vs):Calls P 151 #[.int .i64 k,.slice A l.length c] w (Ret fun v w'=>Chg [] w w'∧IsSyn (fun x=>F x∨w.heap.size≤x) w' (Aw9 k l) v):=by
 have hC:=A8 [] w;obtain ⟨g,off,rfl,_,_,_⟩:=hr.at_ hl
 refine D4 Tryz.func151 J J (Qd (Zc 1 J (Qa (Qd (Z 1 J (Ln Tryz.underlying241 J (Zc 1 J (A4 J (fun h1=>?_) (fun h1=>?_)))))))))
 ·try simp at h1
  obtain ⟨v0,hv0,hi0⟩:=hI.get 0 hl;refine Qd (Z 1 J (C9 J (B1 Al0 J J (by omega) (by omega)) (Lc Ba7 J (hr.one hv0).2 (Zc 1 J (A6 (B4 J J ⟨hC,?_⟩))))))
  have:Aw9 k l=l.getD 0 default:=by
   match l,h1 with
   |[x],_=>rfl
  rw [this];exact hi0.mono (fun x hx _=>Or.inl hx)
 ·try simp at h1
  obtain ⟨v0,hv0,hi0⟩:=hI.get 0 hl;obtain ⟨v1,hv1,hi1⟩:=hI.get (l.length - 1) (by omega);obtain ⟨p0,cs0,rfl,_,hB0,ha0,_,_⟩:=hi0.span;obtain ⟨p1,cs1,rfl,_,hB1,_,hb1,_⟩:=hi1.span;refine A7 (Qa (C7 (S:=[]) 22 [(0,0),(0,1),(0,2),(0,3),(0,4),(0,5),(0,6),(0,7),(0,8),(0,9),(0,10),(0,11),(0,12),(0,13),(0,14),(0,15),(0,16),(0,17),(0,18),(0,19),(0,20),(1,21),(2,22)] mo (by kernel_rfl) ?_));intro w1 hx1 hh1;have hr:=hr.u hx1;have hB0:=hB0.u hx1;have hB1:=hB1.u hx1;have hCS1:=A8 ([]) w1;refine Z 3 J (D5 J (B1 Al0 J J (by omega) (by omega)) (D5 J (D7 Ba7 J (hr.one hv0).2 (by simp<;>omega)) ?_));refine Z 1 J (Fa Ec8 J (D5 J (E5 X3 J J (by omega) (by omega)) (D5 J (D7 o3 J (by rw [hB0.cell];exact ha0) (by simp<;>omega)) ?_)));refine Z 2 J (Ln Tryz.underlying241 J (Su J J (by omega) (D5 J (B1 Al0 J J (by omega) (by omega)) (D5 J (D7 Ba7 J (show _=_ from by have:=(hr.one hv1).2;rw [show l.length - 1=((l.length:Int) - 1).toNat from by omega] at this;exact this) (by simp<;>omega)) ?_))));refine Z 1 J (Fa Ec8 J (D5 J (E5 X3 J J (by omega) (by omega)) (D5 J (D7 o3 J (by rw [hB1.cell];exact hb1) (by simp<;>omega)) ?_)));refine D5 J (D8 Q5 X3 J (by rfl)) ?_;refine D5 J (B0 Cr5 Cu0 J (by rfl)) ?_;refine E2 J (E1 J J) ?_;intro b2 w2 hb2 hs2 hx2 hB2;have hC:=hC.s0 (hx1.s0 hx2);have hr:=hr.u hx2;have hI:=hI.u (hx1.s0 hx2);have hCS1:=hCS1.s0 hx2;refine ⟨hCS1,?_⟩;refine Zc 1 J (A6 (B4 J J ⟨hC,?_⟩));rw [Dz6 (by omega)];refine ⟨_,some ⟨g,off,none⟩,c,vs,rfl,Or.inr (by omega),?_,hr.mono (fun x hx _=>Or.inl hx),hI.mono (fun x hx _=>Or.inl hx)⟩;rw [Bt5]
  trace_state
  exact hB2
end Go.Clt
section
namespace Go.Clt
open Go
structure GoQ (T:List Tok) (p q:Pp):Prop where
 deep:q.deep=p.deep
 ge:p.next≤q.next
 le:q.next≤T.length
theorem GoQ.refl {T:List Tok} {p:Pp} (h:p.next≤T.length):GoQ T p p:=⟨rfl,Ek7 _,h⟩
theorem GoQ.trans {T:List Tok} {p q r:Pp} (h:GoQ T p q) (k:GoQ T q r):GoQ T p r:=⟨k.deep.trans h.deep,En2 h.ge k.ge,k.le⟩
theorem GoQ.adv {T:List Tok} {p:Pp} (h:p.next<T.length):GoQ T p p.adv:=⟨rfl,Nat.le_succ _,h⟩
theorem Bt1 {p:Pp} {a e:Int}:(p.fail a e).next=p.next:=by unfold Pp.fail;split<;>rfl
theorem Dl2 {p:Pp} {a e:Int}:(p.fail a e).deep=p.deep:=by unfold Pp.fail;split<;>rfl
theorem Ah5 {p:Pp} {a e:Int} (he:e≠0):(p.fail a e).e≠0:=by unfold Pp.fail;split<;>assumption
theorem GoQ.fail {T:List Tok} {p:Pp} {a e:Int} (h:p.next≤T.length):GoQ T p (p.fail a e):=⟨Dl2,by rw [Bt1];exact Ek7 _,by rw [Bt1];exact h⟩
theorem Bu7 {T:List Tok} {en:Nat} {p:Pp} {k:Int} (h:isQ T en p k=true):p.next<T.length:=by
 unfold isQ okQ at h;simp at h;exact h.1
theorem Cb7 {T:List Tok} {en:Nat} {p:Pp} (h:Ak2 T en p=true):p.e=0∧p.next<T.length:=by
 unfold Ak2 okQ at h;simp at h;exact ⟨h.1.1.1,h.1.1.2⟩
structure AllQ (T:List Tok) (en f:Nat):Prop where
 alt:∀ p,p.next≤T.length→GoQ T p (Y2 T en f p).2
 altL:∀ p l,p.next≤T.length→GoQ T p (altL T en f p l).2
 cat:∀ p,p.next≤T.length→GoQ T p (Ap9 T en f p).2
 catL:∀ p a l,p.next≤T.length→GoQ T p (catL T en f p a l).2
 item:∀ p x,p.next<T.length→GoQ T p (X8 T en f p x).2
 group:∀ p x,p.next<T.length→GoQ T p (M6 T en f p x).2
theorem allQ (T:List Tok) (en:Nat):∀ f,AllQ T en f
 |0=>by
  refine ⟨fun p h=>?_,fun p l h=>?_,fun p h=>?_,fun p a l h=>?_,fun p x h=>?_,fun p x h=>?_⟩
  ·unfold Y2;exact GoQ.refl h
  ·unfold altL;exact GoQ.refl h
  ·unfold Ap9;exact GoQ.refl h
  ·unfold catL;exact GoQ.refl h
  ·unfold X8;exact GoQ.refl (Nat.le_of_lt h)
  ·unfold M6;exact GoQ.refl (Nat.le_of_lt h)
 |f+1=>by
  have ih:=allQ T en f
  refine ⟨fun p h=>?_,fun p l h=>?_,fun p h=>?_,fun p a l h=>?_,fun p x h=>?_,fun p x h=>?_⟩
  ·unfold Y2;exact (ih.cat p h).trans (ih.altL _ _ (ih.cat p h).le)
  ·unfold altL
   split
   ·rename_i hc
    have h1:=GoQ.adv (Bu7 hc.2);have h2:=ih.cat p.adv h1.le;exact (h1.trans h2).trans (ih.altL _ _ h2.le)
   ·exact GoQ.refl h
  ·unfold Ap9;exact ih.catL _ _ _ h
  ·unfold catL
   split
   ·rename_i hc
    have h2:=ih.item p (pkQ T en p) (Cb7 hc).2;exact h2.trans (ih.catL _ _ _ h2.le)
   ·exact GoQ.refl h
  ·unfold X8
   have hm:GoQ T p (if x.kind=0 then ((.node 1 x.set 0 0 false [] x.src x.to,p.adv):Syn × Pp) else if x.kind=1∨x.kind=2 then M6 T en f p x else (default,p.fail x.src 4)).2:=by
    split
    ·exact GoQ.adv h
    ·split
     ·exact ih.group p x h
     ·exact GoQ.fail (Nat.le_of_lt h)
   generalize (if x.kind=0 then ((.node 1 x.set 0 0 false [] x.src x.to,p.adv):Syn × Pp) else if x.kind=1∨x.kind=2 then M6 T en f p x else (default,p.fail x.src 4))=m at hm;dsimp only
   split
   ·exact hm
   ·rename_i hc
    have:isQ T en m.2 5=true:=by
     cases hq:isQ T en m.2 5 with
     |true=>rfl
     |false=>exact absurd (Or.inr hq) hc
    exact hm.trans (GoQ.adv (Bu7 this))
  ·unfold M6
   split
   ·exact GoQ.fail (Nat.le_of_lt h)
   ·have h1:=ih.alt { p with deep:=p.deep+1,next:=p.next+1 } h;dsimp only
    have hq:GoQ T p { (Y2 T en f { p with deep:=p.deep+1,next:=p.next+1 }).2 with deep:=(Y2 T en f { p with deep:=p.deep+1,next:=p.next+1 }).2.deep - 1 }:=
     ⟨by have:=h1.deep;simp only at this ⊢;omega,by have:=h1.ge;simp only at this ⊢;omega,h1.le⟩
    generalize Y2 T en f { p with deep:=p.deep+1,next:=p.next+1 }=c at hq h1
    split
    ·exact hq
    ·split
     ·exact hq.trans (GoQ.fail hq.le)
     ·rename_i hn
      have:isQ T en { c.2 with deep:=c.2.deep - 1 } 3=true:=by
       cases hq':isQ T en { c.2 with deep:=c.2.deep - 1 } 3 with
       |true=>rfl
       |false=>exact absurd hq' hn
      exact hq.trans (GoQ.adv (Bu7 this))
theorem group_gt (T:List Tok) (en:Nat) (f:Nat) (p:Pp) (x:Tok) (h:p.next<T.length) (he:(M6 T en (f+1) p x).2.e=0):p.next<(M6 T en (f+1) p x).2.next:=by
 unfold M6 at he ⊢
 split at he
 ·exact absurd he (Ah5 (by decide))
 ·rename_i hd
  rw [Ej6 hd];have h1:=(allQ T en f).alt { p with deep:=p.deep+1,next:=p.next+1 } h;dsimp only at he ⊢;generalize Y2 T en f { p with deep:=p.deep+1,next:=p.next+1 }=c at*;have:=h1.ge;simp only at this
  split at he
  ·rename_i hne;exact absurd he hne
  ·rename_i hne
   rw [Ej6 hne]
   split at he
   ·exact absurd he (Ah5 (by decide))
   ·rename_i h3
    rw [Ej6 h3];show p.next<c.2.next+1;omega
theorem item_gt (T:List Tok) (en:Nat) (f:Nat) (p:Pp) (x:Tok) (h:p.next<T.length) (he:(X8 T en (f+2) p x).2.e=0):p.next<(X8 T en (f+2) p x).2.next:=by
 unfold X8 at he ⊢
 have hm:(if x.kind=0 then ((.node 1 x.set 0 0 false [] x.src x.to,p.adv):Syn × Pp) else if x.kind=1∨x.kind=2 then M6 T en (f+1) p x else (default,p.fail x.src 4)).2.e=0→p.next<(if x.kind=0 then ((.node 1 x.set 0 0 false [] x.src x.to,p.adv):Syn × Pp) else if x.kind=1∨x.kind=2 then M6 T en (f+1) p x else (default,p.fail x.src 4)).2.next:=by
  split
  ·intro _;exact Er2 _
  ·split
   ·exact group_gt T en f p x h
   ·intro he;exact absurd he (Ah5 (by decide))
 generalize (if x.kind=0 then ((.node 1 x.set 0 0 false [] x.src x.to,p.adv):Syn × Pp) else if x.kind=1∨x.kind=2 then M6 T en (f+1) p x else (default,p.fail x.src 4))=m at*;dsimp only at he ⊢
 split at he
 ·rename_i hc;rw [Ej7 hc];exact hm he
 ·rename_i hc
  rw [Ej6 hc];have:m.2.e=0:=he;have:=hm this;show p.next<m.2.next+1;omega
end Go.Clt
end
namespace Go.Clt
open Go Go.RowKit Go.Proofs
def AltC (T:List Tok) (A:Option Addr) (c en f:Nat):Prop:=∀ (p:Pp) (b:Nat) (w:World),5*left T p+5≤f→p.next≤T.length→p.deep≤200→Rd (FR 0 b []) w 10 A T.length (Ab9 T)→Blk w b (psC A T.length c en p) 202→
 Calls P 125 #[.pointer (some ⟨b,0,none⟩)] w (Ret fun v w'=>Chg [b] w w'∧Blk w' b (psC A T.length c en (Y2 T en f p).2) 202∧IsSyn (FR w.heap.size w'.heap.size []) w' (Y2 T en f p).1 v)
def CatC (T:List Tok) (A:Option Addr) (c en f:Nat):Prop:=∀ (p:Pp) (b:Nat) (w:World),5*left T p+4≤f→p.next≤T.length→p.deep≤200→Rd (FR 0 b []) w 10 A T.length (Ab9 T)→Blk w b (psC A T.length c en p) 202→
 Calls P 149 #[.pointer (some ⟨b,0,none⟩)] w (Ret fun v w'=>Chg [b] w w'∧Blk w' b (psC A T.length c en (Ap9 T en f p).2) 202∧IsSyn (FR w.heap.size w'.heap.size []) w' (Ap9 T en f p).1 v)
def ItemC (T:List Tok) (A:Option Addr) (c en f:Nat):Prop:=∀ (p:Pp) (x:Tok) (b:Nat) (w:World),5*left T p+2≤f→p.next<T.length→p.e=0→p.deep≤200→Rd (FR 0 b []) w 10 A T.length (Ab9 T)→Blk w b (psC A T.length c en p) 202→
 Calls P 183 #[.pointer (some ⟨b,0,none⟩),.agg x.cells.toArray] w (Ret fun v w'=>Chg [b] w w'∧Blk w' b (psC A T.length c en (X8 T en f p x).2) 202∧(∃ ad,v= .pointer ad)∧((X8 T en f p x).2.e=0→IsSyn (FR w.heap.size w'.heap.size []) w' (X8 T en f p x).1 v))
def Ei6 (T:List Tok) (A:Option Addr) (c en f:Nat):Prop:=∀ (p:Pp) (x:Tok) (b:Nat) (w:World),5*left T p+1≤f→p.next<T.length→p.e=0→p.deep≤200→Rd (FR 0 b []) w 10 A T.length (Ab9 T)→Blk w b (psC A T.length c en p) 202→
 Calls P 210 #[.pointer (some ⟨b,0,none⟩),.agg x.cells.toArray] w (Ret fun v w'=>Chg [b] w w'∧Blk w' b (psC A T.length c en (M6 T en f p x).2) 202∧(∃ ad,v= .pointer ad)∧((M6 T en f p x).2.e=0→IsSyn (FR w.heap.size w'.heap.size []) w' (M6 T en f p x).1 v))
theorem Cb1 {F:Nat→Prop} {w:World} {bn bs:Nat} {k mn mx a b:Int} {lz:Bool} {t:Syn} {v:Value} {τ:TypeId} (hn:Blk w bn (Bk2 k 0 mn mx lz (.slice (some ⟨bs,0,none⟩) 1 1) a b) 254) (hs:Blk w bs [v] τ) (hI:IsSyn F w t v) (h1:F bn) (h2:F bs):
  IsSyn F w (.node k 0 mn mx lz [t] a b) (.pointer (some ⟨bn,0,none⟩)):=
 ⟨bn,some ⟨bs,0,none⟩,1,[v],rfl,h1,hn,hs.rd (m:=1) J h2,v,[],rfl,hI,rfl⟩
theorem pgroup_c (T:List Tok) (A:Option Addr) (c en f:Nat) (hT:T.length≤1048576) (hA:AltC T A c en f):Ei6 T A c en (f+1):=by
 intro p x b w hf hn he hd hr hR;have hC:=A8 [b] w
 try have hlR:=hR.lt
 refine D4 Tryz.func210 J J (Qd (B5 J (E1 J J) ?_));intro b1 w1 hb1 hs1 hx1 hB1;have hC:=hC.s0 hx1;have hR:=hR.u hx1;have hr:=hr.u hx1;refine Zc 1 J (Qa (Qd (Z 2 J (Fa Bm4 J (Lb o3 J ‹_› (by rfl) ?_)))))
 refine Zc 1 J (A4 J (fun h1=>?_) (fun h1=>?_))
 ·try simp at h1
  have hE:M6 T en (f+1) p x=(default,p.fail x.src 3):=by unfold M6;rw [Ej7 (by omega)]
  refine Qd (Z 1 J (Fa An5 J (Lb o3 J ‹_› (by rfl) ?_)));refine Ca fb127 J (Bz5 A T.length c en p b x.src 3 _ ‹_›) ?_;rintro _ w2 ⟨rfl,hx2,hR'⟩;have hC:=hC.step hx2 (by simp;done);clear hR;have hR:=hR';clear hR';refine Qc (Qd (Zc 1 J (A6 (B4 J J ?_))));rw [hE];exact ⟨hC,hR,⟨_,rfl⟩,fun h=>absurd h (Ah5 (by decide))⟩
 ·try simp at h1
  have hd':¬ 200≤p.deep:=by omega
  have hl:left T { p with deep:=p.deep+1,next:=p.next+1 }+1=left T p:=by unfold left;simp only;omega
  have hgo:=(allQ T en f).alt { p with deep:=p.deep+1,next:=p.next+1 } hn;refine A7 (Qd (Z 2 J (Fa Bm4 J (Lb o3 J ‹_› (by rfl) ?_))));refine Ad J J (by omega) (Z 1 J (Fa Bm4 J (Pb sz3 J J ‹_› J J J J (by simp only [List.take,List.drop,List.append,Ek3,Ek4];rfl) ?_)));intro w3 hs3 hx3 hR;have hC:=hC.step hx3 (by first|(simp;done)|(simp;omega));have hr:=hr.q hx3 (by intro x hx hf;have hx:=Ej9.1 hx;have h1:=hf.1;have h2:=hf.2.1;omega);have hB1:=hB1.q hx3 (by simp;omega);refine Qc (Qd (Z 2 J (Fa Q0 J (Fa Y0 J (Lb o3 J ‹_› (by rfl) ?_)))));refine Ad J J (by omega) (Z 1 J (Fa Q0 J (Fa Y0 J (Pb sz3 J J ‹_› J J J J (by simp only [List.take,List.drop,List.append,Ek3,Ek4];rfl) ?_))));intro w4 hs4 hx4 hR;have hC:=hC.step hx4 (by first|(simp;done)|(simp;omega));have hr:=hr.q hx4 (by intro x hx hf;have hx:=Ej9.1 hx;have h1:=hf.1;have h2:=hf.2.1;omega);have hB1:=hB1.q hx4 (by simp;omega);refine Qc (Qd (Z 1 J (Ca fb125 J (hA { p with deep:=p.deep+1,next:=p.next+1 } b _ (by omega) hn (by show p.deep+1≤200;omega) ‹_› ‹_›) ?_)));rintro v5 w5 ⟨hx5,hR',hI'⟩;have hC:=hC.step hx5 (by simp;done);have hr:=hr.q hx5 (by intro x hx hf;have hx:=Ej9.1 hx;have h1:=hf.1;have h2:=hf.2.1;omega);have hB1:=hB1.q hx5 (by simp;omega);clear hR;have hR:=hR';clear hR';have hI:=hI';clear hI';obtain ⟨pn,_,hv5,_,_,_,_,_⟩:=hI.span;subst hv5
  have hE:M6 T en (f+1) p x=(if ({ (Y2 T en f { p with deep:=p.deep+1,next:=p.next+1 }).2 with deep:=(Y2 T en f { p with deep:=p.deep+1,next:=p.next+1 }).2.deep - 1 }:Pp).e≠0 then (default,{ (Y2 T en f { p with deep:=p.deep+1,next:=p.next+1 }).2 with deep:=(Y2 T en f { p with deep:=p.deep+1,next:=p.next+1 }).2.deep - 1 })
     else if isQ T en { (Y2 T en f { p with deep:=p.deep+1,next:=p.next+1 }).2 with deep:=(Y2 T en f { p with deep:=p.deep+1,next:=p.next+1 }).2.deep - 1 } 3=false then (default,({ (Y2 T en f { p with deep:=p.deep+1,next:=p.next+1 }).2 with deep:=(Y2 T en f { p with deep:=p.deep+1,next:=p.next+1 }).2.deep - 1 }:Pp).fail en 4)
     else (.node (if x.kind=2 then 3 else 2) 0 0 0 false [(Y2 T en f { p with deep:=p.deep+1,next:=p.next+1 }).1] x.src (Dn0 T ({ (Y2 T en f { p with deep:=p.deep+1,next:=p.next+1 }).2 with deep:=(Y2 T en f { p with deep:=p.deep+1,next:=p.next+1 }).2.deep - 1 }:Pp).adv),({ (Y2 T en f { p with deep:=p.deep+1,next:=p.next+1 }).2 with deep:=(Y2 T en f { p with deep:=p.deep+1,next:=p.next+1 }).2.deep - 1 }:Pp).adv)):=by rw [M6,Ej6 hd']
  generalize Y2 T en f { p with deep:=p.deep+1,next:=p.next+1 }=g at*;have hgd:g.2.deep=p.deep+1:=hgo.deep;obtain ⟨q,hq⟩:∃ q:Pp,q={ g.2 with deep:=g.2.deep - 1 }:=⟨_,rfl⟩;rw [← hq] at hE;have hqn:q.next=g.2.next:=by rw [hq]
  have hqe:q.e=g.2.e:=by rw [hq]
  have hqR:psC A T.length c en q=[.slice A T.length c,.int .i64 (g.2.next:Int),.int .i64 (en:Int),.int .i64 ((g.2.deep - 1:Nat):Int),.int .i64 g.2.pl,.int .i64 g.2.e]:=by rw [hq]
  refine Zc 1 J (Qd (Z 2 J (Fa Bm4 J (Lb o3 J ‹_› (by rfl) ?_))));refine C9 J (Does.to (Bp8 J J (by omega)) (J5 (show _=((g.2.deep - 1:Nat):Int) by omega))) ?_;refine Z 1 J (Fa Bm4 J (Pb sz3 J J ‹_› J J J J (by simp only [List.take,List.drop,List.append,Ek3,Ek4];rfl) ?_));intro w6 hs6 hx6 hR;have hC:=hC.step hx6 (by first|(simp;done)|(simp;omega));have hr:=hr.q hx6 (by intro x hx hf;have hx:=Ej9.1 hx;have h1:=hf.1;have h2:=hf.2.1;omega);have hB1:=hB1.q hx6 (by simp;omega);have hI:=hI.q hx6 (by intro x hx hf;have hx:=Ej9.1 hx;have h1:=hf.1;have h2:=hf.2.1;omega);refine Qc (Qa (Qd (Z 2 J (Fa Ai5 J (Lb o32 J ‹_› (by rfl) ?_)))))
  refine Zc 1 J (A4 J (fun h2=>?_) (fun h2=>?_))
  ·try simp at h2
   refine Qd (Zc 1 J (A6 (B4 J J ?_)));rw [← hqe] at h2;rw [hE,Ej7 h2];exact ⟨hC,by rw [hqR];exact hR,⟨_,rfl⟩,fun h=>absurd h h2⟩
  ·try simp at h2
   rw [← hqR] at hR;have h2':¬ q.e≠0:=by rw [hqe];simpa using h2
   rw [Ej6 h2'] at hE;refine A7 (Qa (Qd (Z 2 J (Fa Q0 J (Ca fb150 J (isT_c T (FR 0 b []) A c en q b 3 _ hT (fun y hy=>Et9 hy.2.1 hR.lt) ‹_› ‹_›) ?_)))));rintro _ w7 ⟨rfl,hx7⟩;have hz7:=hx7.size;have hC:=hC.s0 hx7;have hR:=hR.u hx7;have hr:=hr.u hx7;have hB1:=hB1.u hx7;have hI:=hI.u hx7
   refine Zc 1 J (A4 J (fun h3=>?_) (fun h3=>?_))
   ·try simp at h3
    refine Qd (Z 3 J (Fa Q0 J (Fa Cw5 J (Lb o3 J ‹_› (by rfl) ?_))));refine Ca fb127 J (Bz5 A T.length c en q b (en:Int) 4 _ ‹_›) ?_;rintro _ w8 ⟨rfl,hx8,hR'⟩;have hC:=hC.step hx8 (by simp;done);clear hR;have hR:=hR';clear hR';refine Qc (Qd (Zc 1 J (A6 (B4 J J ?_))));rw [hE,Ej7 h3];exact ⟨hC,hR,⟨_,rfl⟩,fun h=>absurd h (Ah5 (by decide))⟩
   ·try simp at h3
    rw [Ej6 (by rw [h3];simp)] at hE;have hql:=Bu7 h3;refine A7 (Qd (Z 2 J (Fa Q0 J (Fa Y0 J (Lb o3 J ‹_› (by rfl) ?_)))));refine Ad J J (by omega) (Z 1 J (Fa Q0 J (Fa Y0 J (Pb sz3 J J ‹_› J J J J (by simp only [List.take,List.drop,List.append,Ek3,Ek4];rfl) ?_))));intro w9 hs9 hx9 hR;have hC:=hC.step hx9 (by first|(simp;done)|(simp;omega));have hr:=hr.q hx9 (by intro x hx hf;have hx:=Ej9.1 hx;have h1:=hf.1;have h2:=hf.2.1;omega);have hB1:=hB1.q hx9 (by simp;omega);have hI:=hI.q hx9 (by intro x hx hf;have hx:=Ej9.1 hx;have h1:=hf.1;have h2:=hf.2.1;omega)
    refine Qc (Qd (Zc 1 J (I0 (fun e9 wr=>Sub [(0,.pointer (some ⟨b,0,none⟩)),(3,.pointer (some ⟨b1,0,none⟩)),(5,.pointer (some ⟨pn,0,none⟩)),(6,.int .i64 (if x.kind=2 then 3 else 2))] e9∧Chg [b] w wr∧Rd (FR 0 b []) wr 10 A T.length (Ab9 T)∧Blk wr b (psC A T.length c en q.adv) 202∧IsSyn (FR w4.heap.size w5.heap.size []) wr g.1 (.pointer (some ⟨pn,0,none⟩))∧Blk wr b1 x.cells 205∧w5.heap.size≤wr.heap.size) ?_ ?_)))
    ·refine Qd (Fa Bm3 J (Lb o3 J ‹_› (by rfl) ?_))
     refine Zc 1 J (A4 J (fun h4=>?_) (fun h4=>?_))
     ·try simp at h4
      refine Qb (Zc 1 J ⟨⟨rfl,rfl,rfl,(G3 J (by rw [Ej7 h4])),trivial⟩,?_⟩);exact ⟨hC,hr,hR,hI,hB1,by omega⟩
     ·try simp at h4
      refine A7 ⟨⟨rfl,rfl,rfl,(G3 J (by rw [Ej6 h4])),trivial⟩,?_⟩;exact ⟨hC,hr,hR,hI,hB1,by omega⟩
    rintro e9 w9 ⟨hs9,hC,hr,hR,hI,hB1,hsz⟩;refine H9 _ hs9 ?_;clear hs9 e9
    try have hlB1:=hB1.lt
    refine I0 (fun e9 wr=>∃ bn,Sub [(4,.pointer (some ⟨bn,0,none⟩))] e9∧Chg [b] w wr∧Blk wr b (psC A T.length c en q.adv) 202∧IsSyn (FR w.heap.size wr.heap.size []) wr (.node (if x.kind=2 then 3 else 2) 0 0 0 false [g.1] x.src (Dn0 T q.adv)) (.pointer (some ⟨bn,0,none⟩))) ?_ ?_
    ·refine Bp5 (S:=[]) 10 (.two [(0,0),(0,1),(0,3),(0,4),(0,5),(0,6),(0,7)] 2 (.seg [(1,8),(0,9),(2,10),(2,11),(2,12)]) 8 (.seg [(0,9),(1,2),(2,10),(2,11),(2,12)])) mo (by kernel_rfl) ?_;simp only [ET];intro w10 hx10 hh10;have hC:=hC.s0 hx10;have hr:=hr.u hx10;have hR:=hR.u hx10;have hI:=hI.u hx10;have hB1:=hB1.u hx10;have hCS10:=A8 ([]) w10;refine Z 2 J (Fa An5 J (D5 J (B3 o3 J ‹_› (by simp;done) (by rfl)) ?_))
     refine Z 2 J (Fa Q0 J (Qc ⟨?_,?_⟩))
     ·refine E2 J (B6 Al0 Tryz.underlying241 Cr7 J J J (by rfl)) ?_;intro b11 w11 hb11 hs11 hx11 hB11;have hC:=hC.s0 hx11;have hr:=hr.u hx11;have hR:=hR.u hx11;have hI:=hI.u hx11;have hCS10:=hCS10.s0 hx11;refine ⟨hCS10,?_⟩;refine Qc (C5 J (C3 fb227 J) (Eb0 T (FR 0 b []) A c en q.adv b _ hT ⟨Nat.succ_pos _,hql⟩ (fun y hy=>Et9 hy.2.1 hR.lt) ‹_› ‹_›) ?_);rintro _ w12 ⟨rfl,hx12⟩;have hz12:=hx12.size;have hC:=hC.s0 hx12;have hR:=hR.u hx12;have hI:=hI.u hx12;have hCS10:=hCS10.s0 hx12;have hB11:=hB11.u hx12;refine ⟨hCS10,?_⟩;refine D5 J (D8 Q5 X3 J (by rfl)) ?_;refine C9 J (B0 Cr5 Cu0 J (by rfl)) ?_;refine B5 J (E1 J J) ?_;intro b13 w13 hb13 hs13 hx13 hB13;have hC:=hC.s0 hx13;have hR:=hR.u hx13;have hI:=hI.u hx13;have hB11:=hB11.u hx13;exact Zc 1 J ⟨b13,⟨rfl,trivial⟩,hC,hR,Cb1 (τ:=149) (by rw [Bt5];exact hB13) hB11 (hI.mono (fun y hy _=>⟨by have:=hy.1;omega,by have:=hy.2.1;omega,by simp⟩)) ⟨by omega,by omega,by simp⟩ ⟨by omega,by omega,by simp⟩⟩
     ·refine C5 J (C3 fb227 J) (Eb0 T (FR 0 b []) A c en q.adv b _ hT ⟨Nat.succ_pos _,hql⟩ (fun y hy=>Et9 hy.2.1 hR.lt) ‹_› ‹_›) ?_;rintro _ w14 ⟨rfl,hx14⟩;have hz14:=hx14.size;have hC:=hC.s0 hx14;have hR:=hR.u hx14;have hI:=hI.u hx14;have hCS10:=hCS10.s0 hx14;refine ⟨hCS10,?_⟩;refine Qc (D5 J (D8 Q5 X3 J (by rfl)) ?_);refine E2 J (B6 Al0 Tryz.underlying241 Cr7 J J J (by rfl)) ?_;intro b15 w15 hb15 hs15 hx15 hB15;have hC:=hC.s0 hx15;have hR:=hR.u hx15;have hI:=hI.u hx15;have hCS10:=hCS10.s0 hx15;refine ⟨hCS10,?_⟩;refine C9 J (B0 Cr5 Cu0 J (by rfl)) ?_;refine B5 J (E1 J J) ?_;intro b16 w16 hb16 hs16 hx16 hB16;have hC:=hC.s0 hx16;have hR:=hR.u hx16;have hI:=hI.u hx16;have hB15:=hB15.u hx16;exact Zc 1 J ⟨b16,⟨rfl,trivial⟩,hC,hR,Cb1 (τ:=149) (by rw [Bt5];exact hB16) hB15 (hI.mono (fun y hy _=>⟨by have:=hy.1;omega,by have:=hy.2.1;omega,by simp⟩)) ⟨by omega,by omega,by simp⟩ ⟨by omega,by omega,by simp⟩⟩
    rintro e9 w10 ⟨bn,hs9,hC,hR,hI⟩;refine H9 _ hs9 ?_;clear hs9 e9;refine A6 (B4 J J ?_);rw [hE];exact ⟨hC,hR,⟨_,rfl⟩,fun _=>hI⟩
def Ai1 (T:List Tok) (en f:Nat) (p:Pp) (x:Tok):Syn × Pp:=if x.kind=0 then (.node 1 x.set 0 0 false [] x.src x.to,p.adv) else if x.kind=1∨x.kind=2 then M6 T en f p x else (default,p.fail x.src 4)
theorem itemQ_eq (T:List Tok) (en f:Nat) (p:Pp) (x:Tok):X8 T en (f+1) p x=if (Ai1 T en f p x).2.e≠0∨isQ T en (Ai1 T en f p x).2 5=false then Ai1 T en f p x else (.node 6 0 (pkQ T en (Ai1 T en f p x).2).min (pkQ T en (Ai1 T en f p x).2).max (pkQ T en (Ai1 T en f p x).2).lazy [(Ai1 T en f p x).1] x.src (pkQ T en (Ai1 T en f p x).2).to,(Ai1 T en f p x).2.adv):=by rw [X8];rfl
theorem pitem_c (T:List Tok) (A:Option Addr) (c en f:Nat) (hT:T.length≤1048576) (hG:Ei6 T A c en f):ItemC T A c en (f+1):=by
 intro p x b w hf hn he hd hr hR;have hC:=A8 [b] w;rw [itemQ_eq]
 try have hlR:=hR.lt
 refine D4 Tryz.func183 J J (Qd (B5 J (E1 J J) ?_));intro b1 w1 hb1 hs1 hx1 hB1;have hz1:=hx1.size;have hC:=hC.s0 hx1;have hR:=hR.u hx1;have hr:=hr.u hx1
 refine Zc 1 J (Qd (Zc 1 J (I0 (fun e9 wr=>∃ ad,Sub [(0,.pointer (some ⟨b,0,none⟩)),(3,.pointer (some ⟨b1,0,none⟩)),(5,.pointer ad)] e9∧Chg [b] w wr∧Rd (FR 0 b []) wr 10 A T.length (Ab9 T)∧Blk wr b (psC A T.length c en (Ai1 T en f p x).2) 202∧Blk wr b1 x.cells 205∧((Ai1 T en f p x).2.e=0→IsSyn (FR w.heap.size wr.heap.size []) wr (Ai1 T en f p x).1 (.pointer ad))) ?_ ?_)))
 ·refine Qd (Fa Bm3 J (Lb o3 J ‹_› (by rfl) ?_))
  refine Qc (B2 (Qd (Zc 2 J (A4 J (fun h1=>?_) (fun h1=>?_)))))
  ·try simp at h1
   have hM:Ai1 T en f p x=(.node 1 x.set 0 0 false [] x.src x.to,p.adv):=by unfold Ai1;rw [Ej7 h1]
   refine Qd (Z 2 J (Fa Q0 J (Fa Y0 J (Lb o3 J ‹_› (by rfl) ?_))));refine Ad J J (by omega) (Z 1 J (Fa Q0 J (Fa Y0 J (Pe sz3 J ‹_› J J ?_))));intro w2 hs2 hx2 hR;have hr:=hr.q hx2 (by intro x hx hf;have hx:=Ej9.1 hx;have h1:=hf.1;have h2:=hf.2.1;omega);have hB1:=hB1.q hx2 (by simp;omega);refine Qc (Qb (Fa fl205_3 J (La J0 J ‹_› (by rfl) J ?_)));refine Fa An5 J (Lb o3 J ‹_› (by rfl) ?_);refine Fa Cc8 J (Lb o3 J ‹_› (by rfl) ?_);refine C9 J (D8 Q5 X3 J (by rfl)) ?_;refine C9 J (B0 Cr5 Cu0 J (by rfl)) ?_;refine B5 J (E1 J J) ?_;intro b3 w3 hb3 hs3 hx3 hB3;have hC:=hC.step (hx2.j hx3) (by simp<;>omega);have hR:=hR.u hx3;have hr:=hr.u hx3;have hB1:=hB1.u hx3;refine Zc 1 J ⟨some ⟨b3,0,none⟩,sb J,?_⟩;rw [hM];exact ⟨hC,hr,hR,hB1,fun _=>⟨b3,none,0,[],rfl,⟨by omega,by omega,by simp⟩,hB3,Rd.nil _ _ _ _,rfl⟩⟩
  ·try simp at h1
   refine I0 (fun e9 wr=>Sub [(0,.pointer (some ⟨b,0,none⟩)),(3,.pointer (some ⟨b1,0,none⟩)),(5,.pointer none),(34,.bool (decide (x.kind=1∨x.kind=2)))] e9∧wr=w1∧Chg [b] w wr) ?_ ?_
   ·refine Qd (Zc 2 J (A4 J (fun h2=>?_) (fun h2=>?_)))
    ·try simp at h2
     refine A7 ⟨⟨rfl,rfl,rfl,(H0 J (by rw [El0,cmpB_eql,El1];omega)),trivial⟩,?_⟩;exact ⟨rfl,hC⟩
    ·try simp at h2
     refine Qb (Zc 2 J ⟨⟨rfl,rfl,rfl,(H0 J (by rw [El0,cmpB_eql,El1];omega)),trivial⟩,?_⟩);exact ⟨rfl,hC⟩
   rintro e9 w8 ⟨hs9,rfl,hC⟩;refine H9 _ hs9 ?_;clear hs9 e9
   refine A4 J (fun h3=>?_) (fun h3=>?_)
   ·try simp at h3
    have hM:Ai1 T en f p x=M6 T en f p x:=by unfold Ai1;rw [Ej6 h1,Ej7 h3]
    refine Qb (Z 1 J (La Y3 J ‹_› J J ?_));refine Ca fb210 J (hG p x b _ (by omega) hn he hd ‹_› ‹_›) ?_;rintro _ w4 ⟨hx4,hR',⟨ad,rfl⟩,hI⟩;have hC:=hC.step hx4 (by simp;done);have hr:=hr.q hx4 (by intro x hx hf;have hx:=Ej9.1 hx;have h1:=hf.1;have h2:=hf.2.1;omega);have hB1:=hB1.q hx4 (by simp;omega);clear hR;have hR:=hR';clear hR';refine Zc 1 J ⟨ad,sb J,?_⟩;rw [hM];exact ⟨hC,hr,hR,hB1,fun h=>(hI h).mono (fun y hy _=>⟨by have:=hy.1;omega,hy.2.1,by simp⟩)⟩
   ·try simp at h3
    have hM:Ai1 T en f p x=(default,p.fail x.src 4):=by unfold Ai1;rw [Ej6 h1,Ej6 (by omega)]
    refine Qb (Z 1 J (Fa An5 J (Lb o3 J ‹_› (by rfl) ?_)));refine Ca fb127 J (Bz5 A T.length c en p b x.src 4 _ ‹_›) ?_;rintro _ w5 ⟨rfl,hx5,hR'⟩;have hC:=hC.step hx5 (by simp;done);have hr:=hr.q hx5 (by intro x hx hf;have hx:=Ej9.1 hx;have h1:=hf.1;have h2:=hf.2.1;omega);have hB1:=hB1.q hx5 (by simp;omega);clear hR;have hR:=hR';clear hR';refine Qc ⟨none,sb J,?_⟩;rw [hM];exact ⟨hC,hr,hR,hB1,fun h=>absurd h (Ah5 (by decide))⟩
 rintro e9 w9 ⟨ad,hs9,hC,hr,hR,hB1,hmI⟩;refine H9 _ hs9 ?_;clear hs9 e9;generalize Ai1 T en f p x=m at*
 try have hlB1:=hB1.lt
 refine Qa (Qd (Z 2 J (Fa Ai5 J (Lb o32 J ‹_› (by rfl) ?_))))
 refine Z 2 J (C0 (d:=45) J (fun g1=>?_) (fun g1=>?_))
 ·try simp at g1
  refine Qk J (Qk J (Qk J (Qk J (Qk J (Zc 1 J (E3 J (Qd (Zc 2 J (A6 (B4 J J ?_))))))))));have g1':m.2.e≠0:=by simpa using g1
  rw [Ej7 (Or.inl g1')];exact ⟨hC,hR,⟨_,rfl⟩,fun h=>absurd h g1'⟩
 ·try simp at g1
  have g1':m.2.e=0:=by simpa using g1
  have hI:=hmI g1';obtain ⟨pn,_,hv5,_,_,_,_,_⟩:=hI.span;injection hv5 with hv5
  subst hv5;refine Qu J (Z 1 J (Qu J (Z 1 J (Qu J (Fa Q0 J (Qu J (Ca fb150 J (isT_c T (FR 0 b []) A c en m.2 b 5 _ hT (fun y hy=>Et9 hy.2.1 hR.lt) ‹_› ‹_›) ?_)))))));rintro _ w6 ⟨rfl,hx6⟩;have hz6:=hx6.size;have hC:=hC.s0 hx6;have hr:=hr.u hx6;have hR:=hR.u hx6;have hB1:=hB1.u hx6;have hI:=hI.u hx6
  refine Qu J (Zc 2 J (A4 J (fun g2=>?_) (fun g2=>?_)))
  ·try simp at g2
   refine Qd (Zc 2 J (A6 (B4 J J ?_)));rw [Ej7 (Or.inr g2)];exact ⟨hC,hR,⟨_,rfl⟩,fun h=>hI.mono (fun y hy _=>⟨hy.1,by have:=hy.2.1;omega,by simp⟩)⟩
  ·try simp at g2
   have hql:=Bu7 g2;refine A7 (Qd (Z 2 J (Fa Q0 J (Ca Ed7 J (Dw8 T (FR 0 b []) A c en m.2 b _ hT (fun y hy=>Et9 hy.2.1 hR.lt) ‹_› ‹_›) ?_))));rintro _ w7 ⟨rfl,hx7⟩;have hz7:=hx7.size;refine Z 3 J (B5 J (B9 Z7 J) ?_);intro b8 w8 hb8 hs8 hx8 hB8;have hI:=hI.u (hx7.s0 hx8);refine Pe Z0 J ‹_› J J ?_;intro w9 hs9 hx9 hB8;have hR:=hR.q ((hx7.j hx8).j hx9) (by simp<;>omega);have hI:=hI.q hx9 (by intro x hx hf;have hx:=Ej9.1 hx;have h1:=hf.1;have h2:=hf.2.1;omega);refine Zc 1 J (Qd (Z 2 J (Fa Q0 J (Fa Y0 J (Lb o3 J ‹_› (by rfl) ?_)))));refine Ad J J (by omega) (Z 1 J (Fa Q0 J (Fa Y0 J (Pe sz3 J ‹_› J J ?_))));intro w10 hs10 hx10 hR;have hI:=hI.q hx10 (by intro x hx hf;have hx:=Ej9.1 hx;have h1:=hf.1;have h2:=hf.2.1;omega);have hB8:=hB8.q hx10 (by simp;omega);refine Qc (Qd (Fa Cw4 J (Lb o3 J ‹_› (by rfl) ?_)));refine Fa Cw3 J (Lb o3 J ‹_› (by rfl) ?_);refine Fa Ed2 J (Lb o4 J ‹_› (by rfl) ?_);refine Z 1 J (B5 J (B6 Al0 Tryz.underlying241 Cr7 J J J (by rfl)) ?_);intro b11 w11 hb11 hs11 hx11 hB11;have hB1:=hB1.q ((((hx7.j hx8).j hx9).j hx10).j hx11) (by simp<;>omega);have hB8:=hB8.u hx11;refine Fa An5 J (Lb o3 J ‹_› (by rfl) ?_);refine Fa Cc8 J (Lb o3 J ‹_› (by rfl) ?_);refine C9 J (D8 Q5 X3 J (by rfl)) ?_;refine C9 J (B0 Cr5 Cu0 J (by rfl)) ?_;refine B5 J (E1 J J) ?_;intro b12 w12 hb12 hs12 hx12 hB12;have hC:=hC.step (((((hx7.j hx8).j hx9).j hx10).j hx11).j hx12) (by simp<;>omega);have hR:=hR.u (hx11.s0 hx12);have hI:=hI.u (hx11.s0 hx12);have hB11:=hB11.u hx12;refine Zc 1 J (A6 (B4 J J ?_));rw [Ej6 (by intro h;rcases h with h|h;exact h g1';rw [g2] at h;cases h)];exact ⟨hC,hR,⟨_,rfl⟩,fun _=>Cb1 (τ:=149) (by rw [Bt5];assumption) ‹_› (hI.mono (fun y hy _=>⟨hy.1,by have:=hy.2.1;omega,by simp⟩)) ⟨by omega,by omega,by simp⟩ ⟨by omega,by omega,by simp⟩⟩
theorem Ay6 {T:List Tok} {en:Nat} {q:Pp} (h:Ak2 T en q=false) (f:Nat) (a:Int) (l:List Syn):catL T en f q a l=(W6 q a l,q):=by
 cases f with
 |zero=>unfold catL;rfl
 |succ f=>unfold catL;rw [Ej6 (by rw [h];simp)]
theorem goes_e {T:List Tok} {en:Nat} {q:Pp} (h:q.e≠0):Ak2 T en q=false:=by unfold Ak2;rw [Ek9 h];rfl
theorem Cm3 {F:Nat→Prop} {w:World} {bn c:Nat} {k mn mx a b:Int} {lz:Bool} {s:Nat} (hn:Blk w bn (Bk2 k s mn mx lz (.slice none 0 c) a b) 254) (h1:F bn):IsSyn F w (.node k s mn mx lz [] a b) (.pointer (some ⟨bn,0,none⟩)):=
 ⟨bn,none,c,[],rfl,h1,hn,Rd.nil _ _ _ _,rfl⟩
theorem W8 {A A':Option Addr} {w:World} (hA:A'=A∨∃ b,A'=some ⟨b,0,none⟩∧w.heap.size≤b) {y:Nat} (h1:y∉E6 A) (h2:y<w.heap.size):y∉E6 A':=by
 rcases hA with rfl|⟨b,rfl,hb⟩
 ·exact h1
 ·simp [E6];omega
theorem pcat_c (T:List Tok) (A:Option Addr) (c en f:Nat) (hT:T.length≤1048576) (hI0:∀ g,g≤f→ItemC T A c en g):CatC T A c en (f+1):=by
 intro p b w hf hn hd hr hR;have hbw:=hR.lt;have hC:=A8 [b] w;refine D4 Tryz.func149 J J (Qd (Zc 1 J (Qd (Z 2 J (Fa Q0 J (Ca fb182 J (atT_c T (FR 0 b []) A c en p b _ hT (fun y hy=>Et9 hy.2.1 hR.lt) ‹_› ‹_›) ?_))))));rintro _ w1 ⟨rfl,hx1⟩;have hC:=hC.s0 hx1;have hR:=hR.u hx1;have hr:=hr.u hx1;have hcq:Ap9 T en (f+1) p=catL T en f p (pkQ T en p).src []:=by rw [Ap9]
 rw [hcq];generalize (pkQ T en p).src=a0 at*;generalize hr0:catL T en f p a0 []=r at*
 refine Zc 1 J (Qd (Zc 1 J (I0 (fun e9 wr=>∃ q l vs A' c',Sub [(0,.pointer (some ⟨b,0,none⟩)),(3,.int .i64 a0),(4,.slice A' l.length c')] e9∧Chg [b] w wr∧Blk wr b (psC A T.length c en q) 202∧Own wr w.heap.size 149 1 A' l.length c' vs∧(q.e=0→IsSyns (FR w.heap.size wr.heap.size (E6 A')) wr l vs)∧r=(W6 q a0 l,q)∧(q.e=0→l.length≤T.length)∧w.heap.size≤wr.heap.size) ?_ ?_)))
 ·refine B2 (D9 (σ:=Nat × Pp × List Syn × List Value × Option Addr × Nat) (fun (g,q,l,vs,A',c')=>[(0,.pointer (some ⟨b,0,none⟩)),(3,.int .i64 a0),(4,.slice A' l.length c')]) (fun (g,q,l,vs,A',c') wr=>Chg [b] w wr∧Rd (FR 0 b []) wr 10 A T.length (Ab9 T)∧Blk wr b (psC A T.length c en q) 202∧Own wr w.heap.size 149 1 A' l.length c' vs∧(q.e=0→IsSyns (FR w.heap.size wr.heap.size (E6 A')) wr l vs)∧r=catL T en g q a0 l∧(q.e=0→5*left T q+3≤g)∧GoQ T p q∧(q.e=0→l.length≤q.next)∧g≤f) (fun (g,q,l,vs,A',c') wr=>g) (f,p,[],[],none,0) (sb J) ?_ ?_)
  ·exact ⟨hC,hr,hR,Own.nil _ _ _ _,fun _=>rfl,hr0.symm,fun _=>by omega,GoQ.refl hn,fun _=>Ek5 _,Ek7 _⟩
  rintro ⟨g,q,l,vs,A',c'⟩ w9 ⟨hC,hr,hR,hO,hIc,hrr,hfu,hgo,hlq',hgf⟩;have hOb:=hO.blk;have hqd:q.deep≤200:=by rw [hgo.deep];exact hd
  have hql:=hgo.le
  try have hzw:=hC.size
  try have hlR:=hR.lt
  refine Qa (Qd (Z 2 J (Fa Ai5 J (Lb o32 J ‹_› (by rfl) ?_))))
  refine Zc 1 J (A4 J (fun h1=>?_) (fun h1=>?_))
  ·try simp at h1
   have hIs:=hIc h1;have hlq:=hlq' h1;have hfu':=hfu h1;refine A7 (B2 (Qd (Z 2 J (Fa Q0 J (Ca Ed7 J (Dw8 T (FR 0 b []) A c en q b _ hT (fun y hy=>Et9 hy.2.1 hR.lt) ‹_› ‹_›) ?_)))));rintro _ w2 ⟨rfl,hx2⟩;have hz2:=hx2.size;refine Z 3 J (B5 J (B9 Z7 J) ?_);intro b3 w3 hb3 hs3 hx3 hB3;have hr:=hr.u (hx2.s0 hx3);have hO:=hO.u (hx2.s0 hx3);have hIs:=hIs.u (hx2.s0 hx3);refine Pe Z0 J ‹_› J J ?_;intro w4 hs4 hx4 hB3;have hC:=hC.step ((hx2.j hx3).j hx4) (by simp<;>omega);have hR:=hR.q ((hx2.j hx3).j hx4) (by simp<;>omega);have hr:=hr.q hx4 (by intro x hx hf;have hx:=Ej9.1 hx;have h1:=hf.1;have h2:=hf.2.1;omega);have hO:=hO.q hx4 (by intro x hx;have hx:=Ej9.1 hx;right;intro h;have:=hOb x (by rw [h];exact Ej9.2 J);omega);have hIs:=hIs.q hx4 (by intro x hx hf;have hx:=Ej9.1 hx;have h1:=hf.1;have h2:=hf.2.1;omega)
   refine Zc 1 J (Qa (Qd (Z 3 J (C0 (d:=25) J (fun h2=>?_) (fun h2=>?_)))))
   ·try simp at h2
    have hG:Ak2 T en q=false:=by unfold Ak2;rw [h2];simp
    refine Qk J (Qk J (Qk J (Z 2 J (Qk J (Qk J (Qk J (Zc 1 J (E3 J (Bc2 (Ay7 J (Aq0 ?_)))))))))));refine ⟨q,l,vs,A',c',sb J,?_⟩;exact ⟨hC,hR,hO,fun _=>hIs.mono (fun y hy _=>⟨hy.1,by have:=hy.2.1;omega,hy.2.2⟩),by rw [hrr,Ay6 hG],fun _=>by omega,by omega⟩
   ·try simp at h2
    refine Qu J (Fa Bm3 J (Qu J (Lb o3 J ‹_› (by rfl) ?_)))
    refine Qu J (Z 3 J (C0 (d:=30) J (fun h3=>?_) (fun h3=>?_)))
    ·try simp at h3
     have hG:Ak2 T en q=false:=by unfold Ak2;rw [Ek8 h3];simp
     refine Qk J (Qk J (Qk J (Zc 1 J (E3 J (Bc2 (Ay7 J (Aq0 ?_)))))));refine ⟨q,l,vs,A',c',sb J,?_⟩;exact ⟨hC,hR,hO,fun _=>hIs.mono (fun y hy _=>⟨hy.1,by have:=hy.2.1;omega,hy.2.2⟩),by rw [hrr,Ay6 hG],fun _=>by omega,by omega⟩
    ·try simp at h3
     refine Qu J (Fa Bm3 J (Qu J (Lb o3 J ‹_› (by rfl) ?_)))
     refine Qu J (Zc 2 J (A4 J (fun h4=>?_) (fun h4=>?_)))
     ·try simp at h4
      have hG:Ak2 T en q=false:=by unfold Ak2;rw [Ek8 h4];simp
      refine Bc2 (Ay7 J (Aq0 ?_));refine ⟨q,l,vs,A',c',sb J,?_⟩;exact ⟨hC,hR,hO,fun _=>hIs.mono (fun y hy _=>⟨hy.1,by have:=hy.2.1;omega,hy.2.2⟩),by rw [hrr,Ay6 hG],fun _=>by omega,by omega⟩
     ·try simp at h4
      have hG:Ak2 T en q=true:=by unfold Ak2;rw [h2,Ek8 h1,Ek9 h3,Ek9 h4];rfl
      have hqn:q.next<T.length:=(Cb7 hG).2;have hlf:1≤left T q:=by unfold left;omega
      obtain ⟨g,rfl⟩:∃ k,g=k+1:=⟨g - 1,by omega⟩;have hcl:catL T en (g+1) q a0 l=catL T en g (X8 T en g q (pkQ T en q)).2 a0 (l++[(X8 T en g q (pkQ T en q)).1]):=by rw [catL,Ej7 hG]
      refine A7 (Qb (Z 2 J (La Y3 J ‹_› J J ?_)));refine Ca fb183 J (hI0 g (by omega) q (pkQ T en q) b _ (by omega) hqn h1 hqd ‹_› ‹_›) ?_;rintro _ w5 ⟨hx5,hR',⟨ad,rfl⟩,hV⟩;have hz5:=hx5.size;have hC:=hC.step hx5 (by simp;done);have hr:=hr.q hx5 (by intro x hx hf;have hx:=Ej9.1 hx;have h1:=hf.1;have h2:=hf.2.1;omega);have hO:=hO.q hx5 (by intro x hx;simp at hx;left;omega);have hIs:=hIs.q hx5 (by intro x hx hf;have hx:=Ej9.1 hx;have h1:=hf.1;have h2:=hf.2.1;omega);clear hR;have hR:=hR';clear hR';have hgi:=(allQ T en g).item q (pkQ T en q) hqn
      have hgt:(X8 T en g q (pkQ T en q)).2.e=0→q.next<(X8 T en g q (pkQ T en q)).2.next:=by
       obtain ⟨k,rfl⟩:∃ k,g=k+2:=⟨g - 2,by omega⟩;exact item_gt T en k q _ hqn
      rw [hcl] at hrr;generalize (X8 T en g q (pkQ T en q))=m at*;have hll:(l++[m.1]).length=l.length+1:=by simp
      have hge:=hgi.ge;have hmle:=hgi.le
      by_cases he:m.2.e=0
      ·have hgt':=hgt he;have hIv:=hV he;refine B5 J (B6 Al0 Tryz.underlying241 Cr7 J J J (by rfl)) ?_;intro b6 w6 hb6 hs6 hx6 hB6;have hC:=hC.s0 hx6;have hR:=hR.u hx6;have hr:=hr.u hx6;have hO:=hO.u hx6;have hIs:=hIs.u hx6;have hIv:=hIv.u hx6;refine G1 J el241 J J hO (Blk.rd (F:=fun _=>True) ‹_› J trivial) (by rfl) (by omega) (by omega) ?_;intro A' c' w7 hO7 hx7 hA';have hC:=hC.step hx7 (by intro x h;have:=hOb x h;exact .inr (by omega));have hR:=hR.q hx7 (by intro h;have:=hOb _ h;omega);have hr:=hr.q hx7 (by intro x hx hf;have:=hOb x hx;have h1:=hf.1;have h2:=hf.2.1;omega);have hIs:=hIs.q hx7 (by intro x hx hf;exact hf.2.2 hx);have hIv:=hIv.q hx7 (by intro x hx hf;have:=hOb x hx;have h1:=hf.1;have h2:=hf.2.1;omega)
       replace hO:=hO7
       refine Zc 1 J ⟨(g,m.2,l++[m.1],vs++[.pointer ad],A',c'),⟨rfl,rfl,(Q2 J (by rw [hll])),trivial⟩,?_,?_⟩;refine ⟨hC,hr,hR,by rw [hll];exact hO,fun _=>IsSyns.append ?_ ?_,hrr,fun _=>?_,hgo.trans hgi,fun _=>by omega,by omega⟩;exact hIv.mono (fun y hy _=>⟨by have:=hy.1;omega,by have:=hy.2.1;omega,W8 hA' (fun hm=>by have:=hOb y hm;have:=hy.1;omega) (by have:=hy.2.1;omega)⟩);exact hIs.mono (fun y hy _=>⟨hy.1,by have:=hy.2.1;omega,W8 hA' hy.2.2 (by have:=hy.2.1;omega)⟩);unfold left at*;omega;exact Er2 g
      ·refine B5 J (B6 Al0 Tryz.underlying241 Cr7 J J J (by rfl)) ?_;intro b8 w8 hb8 hs8 hx8 hB8;have hC:=hC.s0 hx8;have hR:=hR.u hx8;have hr:=hr.u hx8;have hO:=hO.u hx8;refine G1 J el241 J J hO (Blk.rd (F:=fun _=>True) ‹_› J trivial) (by rfl) (by omega) (by omega) ?_;intro A' c' w9 hO9 hx9 hA';have hC:=hC.step hx9 (by intro x h;have:=hOb x h;exact .inr (by omega));have hR:=hR.q hx9 (by intro h;have:=hOb _ h;omega);have hr:=hr.q hx9 (by intro x hx hf;have:=hOb x hx;have h1:=hf.1;have h2:=hf.2.1;omega)
       replace hO:=hO9
       refine Zc 1 J ⟨(g,m.2,l++[m.1],vs++[.pointer ad],A',c'),⟨rfl,rfl,(Q2 J (by rw [hll])),trivial⟩,?_,?_⟩;refine ⟨hC,hr,hR,by rw [hll];exact hO,fun h=>absurd h he,hrr,fun h=>absurd h he,hgo.trans hgi,fun h=>absurd h he,by omega⟩;exact Er2 g
  ·try simp at h1
   refine Xb ⟨q,l,vs,A',c',sb J,?_⟩;exact ⟨hC,hR,hO,fun h=>absurd h h1,by rw [hrr,Ay6 (goes_e h1)],fun h=>absurd h h1,by omega⟩
 rintro e9 w9 ⟨q,l,vs,A',c',hs9,hC,hR,hO,hIc,hrr,hll,hsz⟩;refine H9 _ hs9 ?_;clear hs9 e9;rw [hrr];refine Qa (Qd (Z 2 J (Fa Ai5 J (Lb o32 J ‹_› (by rfl) ?_))))
 refine Z 2 J (C0 (d:=46) J (fun g1=>?_) (fun g1=>?_))
 ·try simp at g1
  have g1':q.e≠0:=by simpa using g1
  refine Qk J (Qk J (Qk J (Zc 1 J (E3 J (Qd (Z 2 J (C9 J (D8 Q5 X3 J (by rfl)) ?_)))))));refine C9 J (B0 Cr5 Cu0 J (by rfl)) ?_;refine B5 J (E1 J J) ?_;intro b10 w10 hb10 hs10 hx10 hB10;have hC:=hC.s0 hx10;have hR:=hR.u hx10;refine Zc 1 J (A6 (B4 J J ?_));have hE:W6 q a0 l= .node 0 0 0 0 false [] a0 a0:=by unfold W6;rw [Ej7 (Or.inl g1')]
  refine ⟨hC,hR,?_⟩;rw [show (W6 q a0 l,q).1=Syn.node 0 0 0 0 false [] a0 a0 from hE];exact Cm3 (c:=0) (by rw [Bt5];assumption) ⟨by omega,by omega,by simp⟩
 ·try simp at g1
  have g1':q.e=0:=by simpa using g1
  have hIs:=hIc g1';have hll':=hll g1'
  refine Qu J (Z 1 J (Qu J (Ln Tryz.underlying241 J (Qu J (Zc 2 J (A4 J (fun g2=>?_) (fun g2=>?_)))))))
  ·try simp at g2
   refine Qd (Z 2 J (C9 J (D8 Q5 X3 J (by rfl)) ?_));refine C9 J (B0 Cr5 Cu0 J (by rfl)) ?_;refine B5 J (E1 J J) ?_;intro b11 w11 hb11 hs11 hx11 hB11;have hC:=hC.s0 hx11;have hR:=hR.u hx11;refine Zc 1 J (A6 (B4 J J ?_));have hE:W6 q a0 l= .node 0 0 0 0 false [] a0 a0:=by unfold W6;rw [Ej7 (Or.inr (by rw [g2];rfl))]
   refine ⟨hC,hR,?_⟩;rw [show (W6 q a0 l,q).1=Syn.node 0 0 0 0 false [] a0 a0 from hE];exact Cm3 (c:=0) (by rw [Bt5];assumption) ⟨by omega,by omega,by simp⟩
  ·try simp at g2
   have hE:W6 q a0 l=Aw9 4 l:=by unfold W6;rw [Ej6 (by intro h;rcases h with h|h;exact h g1';exact g2 (Er9.1 h))]
   refine A7 (Qd (Z 1 J (Ca fb151 J (many_c 4 l vs (FR w.heap.size w9.heap.size []) A' c' _ (List.length_pos_iff.2 g2) (by omega) (fun y hy=>by have:=hy.2.1;omega) (hO.rd (fun y h1 h2=>⟨h1,by omega,by simp⟩)) (hIs.mono (fun y hy _=>⟨hy.1,hy.2.1,by simp⟩))) ?_)));rintro v5 w12 ⟨hx12,hV⟩;have hC:=hC.s0 hx12;have hR:=hR.u hx12;refine Zc 1 J (A6 (B4 J J ⟨hC,hR,?_⟩));rw [show (W6 q a0 l,q).1=Aw9 4 l from hE];exact hV.mono (fun y hy hyl=>⟨by rcases hy with hy|hy;exact hy.1;omega,hyl,by simp⟩)
end Go.Clt
