import Derived.Test.YtckdapbopihofaaGreatDoorPl5
/- The word of any place, any word's place, and the next one (WordsPlaces). A part of that proof: Ref11, Ref12, Ref13, Eq1, Eq2, Ref14, Ref15, Ref16, Tree8, Ref17, Tree6, Ref21, Ref22, Ref23, Ref24, Ref25, Ref26, Eq3, Ref27, Eq4. Conditions: none beyond the statement's own. By an AI agent; no person has read it. -/
set_option linter.unusedVariables false
set_option linter.unusedSimpArgs false
set_option maxRecDepth 8000
set_option maxHeartbeats 4000000
namespace Go.Clt
open Go Go.RowKit Go.Proofs
def OneR (r:RTk × Int × Int) (w:World) (u:Value) (w':World):Prop:=Chg [] w w'∧u= .tuple #[.agg (Av7 r.1).toArray,endV r.2]
theorem rone_c (s:ByteArray) (hs:s.size≤1000) (at_:Nat) (hat:at_<s.size) (w:World):Calls P 145 #[.string s,.int .i64 (at_:Nat)] w (Ret (OneR (Cg6 (B6 s) at_) w)):=by
 have hC:=A8 [] w;have hsl:=E5 s;have hlt:=R5 s;obtain ⟨u8,hu,hu2⟩:=I5 s at_ hat;have hb:=hlt _ (G9 (B6 s) 0 at_ (by omega));refine D4 Tryz.func145 J J (Qd (B5 J (B8 Cs1 J) ?_));intro b1 w1 hb1 hs1 hx1 hB1;refine B5 J (B8 J3 J) ?_;intro b2 w2 hb2 hs2 hx2 hB2;refine Qc (Qd (Z 2 J (C9 J (Does.to (E7 Tryz.underlying9 J J (by omega) (by exact hu)) (J4 (show ((u8.toNat:Nat):Int)=(((B6 s).getD at_ 0:Nat):Int) by rw [hu2]))) ?_)));have hE:Cg6 (B6 s) at_=Cg6 (B6 s) at_:=rfl
 conv at hE=>rhs;unfold Cg6
 simp only [] at hE;generalize hc:(B6 s).getD at_ 0=c at*;refine Zc 1 J (Qd (Z 1 J (Ad J J (by omega) (C9 J (B1 J3 M4 J (by rfl)) ?_))));refine B5 J (B8 J3 J) ?_;intro b3 w3 hb3 hs3 hx3 hB3;refine Pe G5 J ‹_› J J ?_;intro w4 hs4 hx4 hB3;refine Qc (Qd (Z 1 J (C9 J (B1 Cs1 pl231 J (by rfl)) ?_)));refine B5 J (B8 Cs1 J) ?_;intro b5 w5 hb5 hs5 hx5 hB5;refine Pe V9 J ‹_› J J ?_;intro w6 hs6 hx6 hB5;have hC:=hC.step (((((hx1.j hx2).j hx3).j hx4).j hx5).j hx6) (by simp<;>omega);have hB1:=hB1.q ((((hx2.j hx3).j hx4).j hx5).j hx6) (by simp<;>omega);have hB2:=hB2.q (((hx3.j hx4).j hx5).j hx6) (by simp<;>omega);have hB3:=hB3.q (hx5.j hx6) (by simp<;>omega)
 refine Qc (Qa (Qd (Zc 1 J (B2 (Qd (Zc 2 J (A4 J (fun c1=>?_) (fun c1=>?_))))))))
 ·try simp at c1
  rw [Ek1 (by omega)] at hE;refine Qd (Z 2 J (Ca fb168 J (resc_c s hs at_ (by omega) _) ?_));rintro _ w7 ⟨hx7,rfl⟩;have hB5:=hB5.u hx7;refine Z 3 J (Fa Bm1 J (Pe J9 J ‹_› J J ?_));intro w8 hs8 hx8 hB5;have hB3:=hB3.q (hx7.j hx8) (by simp<;>omega);refine Pe G5 J ‹_› J J ?_;intro w9 hs9 hx9 hB3;refine Qc (Qa (C8 (S:=[b1]) 3 [(0,0),(0,1),(1,2),(2,3)] mo (by kernel_rfl) ?_));intro w10 hx10 hh10;have hB1:=hB1.q (((hx7.j hx8).j hx9).j hx10) (by simp<;>omega);have hB3:=hB3.u hx10;have hB5:=hB5.q (hx9.j hx10) (by simp<;>omega);have hCS10:=A8 ([b1]) w10;refine D6 J (C1 K4 J ‹_› (by simp;omega) J J) ?_;refine D6 J (C1 F8 J ‹_› (by simp;omega) J J) ?_;refine H8 (G3 V9 J J ‹_› J J J J J) ?_;intro w11 hs11 hx11 hB1;have hB2:=hB2.q ((((hx7.j hx8).j hx9).j hx10).j hx11) (by simp<;>omega);have hCS10:=hCS10.step hx11 (by simp;done);refine ⟨hCS10,?_⟩;refine Pe G5 J ‹_› J J ?_;intro w12 hs12 hx12 hB2;have hC:=hC.step (((((hx7.j hx8).j hx9).j hx10).j hx11).j hx12) (by simp<;>omega);have hB1:=hB1.q hx12 (by simp;omega);refine Qc (A6 (C7 J J (A5 K4 ‹_› J J) J (A5 F8 ‹_› J J) ?_));exact ⟨hC,by rw [hE];rfl⟩
 ·try simp at c1
  rw [Ek0 (by omega)] at hE
  refine Qd (Zc 2 J (A4 J (fun c2=>?_) (fun c2=>?_)))
  ·try simp at c2
   rw [Ek1 (by omega)] at hE;refine Qd (Z 2 J (Ca fb169 J (rclass_c s hs at_ hat _) ?_));rintro _ w13 ⟨hx13,rfl⟩;have hB5:=hB5.u hx13;refine Z 3 J (Fa Bm1 J (Pe J9 J ‹_› J J ?_));intro w14 hs14 hx14 hB5;have hB3:=hB3.q (hx13.j hx14) (by simp<;>omega);refine Pe G5 J ‹_› J J ?_;intro w15 hs15 hx15 hB3;refine Qc (Qa (C8 (S:=[b1]) 3 [(0,0),(0,1),(1,2),(2,3)] mo (by kernel_rfl) ?_));intro w16 hx16 hh16;have hB1:=hB1.q (((hx13.j hx14).j hx15).j hx16) (by simp<;>omega);have hB3:=hB3.u hx16;have hB5:=hB5.q (hx15.j hx16) (by simp<;>omega);have hCS16:=A8 ([b1]) w16;refine D6 J (C1 K4 J ‹_› (by simp;omega) J J) ?_;refine D6 J (C1 F8 J ‹_› (by simp;omega) J J) ?_;refine H8 (G3 V9 J J ‹_› J J J J J) ?_;intro w17 hs17 hx17 hB1;have hB2:=hB2.q ((((hx13.j hx14).j hx15).j hx16).j hx17) (by simp<;>omega);have hCS16:=hCS16.step hx17 (by simp;done);refine ⟨hCS16,?_⟩;refine Pe G5 J ‹_› J J ?_;intro w18 hs18 hx18 hB2;have hC:=hC.step (((((hx13.j hx14).j hx15).j hx16).j hx17).j hx18) (by simp<;>omega);have hB1:=hB1.q hx18 (by simp;omega);refine Qc (A6 (C7 J J (A5 K4 ‹_› J J) J (A5 F8 ‹_› J J) ?_));exact ⟨hC,by rw [hE];rfl⟩
  ·try simp at c2
   rw [Ek0 (by omega)] at hE
   refine Qd (Zc 2 J (A4 J (fun c3=>?_) (fun c3=>?_)))
   ·try simp at c3
    rw [Ek1 (by omega)] at hE;refine Qd (Fa U0 J (Pe sz3 J ‹_› J J ?_));intro w19 hs19 hx19 hB5;have hC:=hC.step hx19 (by simp;omega);have hB1:=hB1.q hx19 (by simp;omega);have hB2:=hB2.q hx19 (by simp;omega);have hB3:=hB3.q hx19 (by simp;omega)
    refine Qc (Qa (Qd (Z 1 J (Ad J J (by omega) (Z 1 J (C9 J (E9 Tryz.underlying9 J) (Z 2 J (C0 (d:=48) J (fun p1=>?_) (fun p1=>?_)))))))))
    ·try simp at p1
     have hin:at_+1<s.size:=by omega
     obtain ⟨u9,hu3,hu4⟩:=I5 s (at_+1) hin;refine Qu J (Z 1 J (Qu J (Z 1 J (Qu J (Ad J J (by omega) (Qu J (C9 J (Does.to (E7 Tryz.underlying9 J J (by omega) (by exact hu3)) (J4 (show ((u9.toNat:Nat):Int)=(((B6 s).getD (at_+1) 0:Nat):Int) by rw [hu4]))) ?_)))))))
     refine Qu J (Zc 2 J (A4 J (fun p2=>?_) (fun p2=>?_)))
     ·rw [cmpB_eql] at p2;rw [Ek1 ⟨by omega,by omega⟩] at hE;refine Qd (Fa U0 J (Pe sz3 J ‹_› J J ?_));intro w20 hs20 hx20 hB5;have hB3:=hB3.q hx20 (by simp;omega);refine Qc (Qd (Z 1 J (Ad J J (by omega) (C9 J (B1 J3 M4 J (by rfl)) ?_))));refine Pe G5 J ‹_› J J ?_;intro w21 hs21 hx21 hB3;have hC:=hC.step (hx20.j hx21) (by simp<;>omega);have hB1:=hB1.q (hx20.j hx21) (by simp<;>omega);have hB2:=hB2.q (hx20.j hx21) (by simp<;>omega);have hB5:=hB5.q hx21 (by simp;omega)
      refine Qc (Qd (Z 1 J (Ad J J (by omega) (Z 1 J (C9 J (E9 Tryz.underlying9 J) (Z 2 J (C0 (d:=64) J (fun p3=>?_) (fun p3=>?_))))))))
      ·try simp at p3
       rw [Ek1 (.inl (by omega))] at hE;refine Qk J (Qk J (Qk J (Qk J (Qk J (Zc 1 J (E3 J (Qb (Z 1 J (C9 J (B1 J3 M4 J (by rfl)) ?_)))))))));refine Pe G5 J ‹_› J J ?_;intro w22 hs22 hx22 hB3;refine Qc (Qa (C8 (S:=[b1]) 3 [(0,0),(0,1),(1,2),(2,3)] mo (by kernel_rfl) ?_));intro w23 hx23 hh23;have hB1:=hB1.q (hx22.j hx23) (by simp<;>omega);have hB3:=hB3.u hx23;have hB5:=hB5.q (hx22.j hx23) (by simp<;>omega);have hCS23:=A8 ([b1]) w23;refine D6 J (C1 K4 J ‹_› (by simp;omega) J J) ?_;refine D6 J (C1 F8 J ‹_› (by simp;omega) J J) ?_;refine H8 (G3 V9 J J ‹_› J J J J J) ?_;intro w24 hs24 hx24 hB1;have hB2:=hB2.q ((hx22.j hx23).j hx24) (by simp<;>omega);have hCS23:=hCS23.step hx24 (by simp;done);refine ⟨hCS23,?_⟩;refine Pe G5 J ‹_› J J ?_;intro w25 hs25 hx25 hB2;have hC:=hC.step (((hx22.j hx23).j hx24).j hx25) (by simp<;>omega);have hB1:=hB1.q hx25 (by simp;omega);refine Qc (A6 (C7 J J (A5 K4 ‹_› J J) J (A5 F8 ‹_› J J) ?_));exact ⟨hC,by rw [hE];unfold Av7;simp only [C6];rfl⟩
      ·try simp at p3
       have hin2:at_+2<s.size:=by omega
       obtain ⟨v9,hv3,hv4⟩:=I5 s (at_+2) hin2;refine Qu J (Z 1 J (Qu J (Z 1 J (Qu J (Ad J J (by omega) (Qu J (C9 J (Does.to (E7 Tryz.underlying9 J J (by omega) (by exact hv3)) (J4 (show ((v9.toNat:Nat):Int)=(((B6 s).getD (at_+2) 0:Nat):Int) by rw [hv4]))) ?_)))))))
       refine Qu J (Zc 2 J (A4 J (fun p4=>?_) (fun p4=>?_)))
       ·rw [cmpB_neq] at p4;rw [Ek1 (.inr (by omega))] at hE;refine Qb (Z 1 J (C9 J (B1 J3 M4 J (by rfl)) ?_));refine Pe G5 J ‹_› J J ?_;intro w26 hs26 hx26 hB3;refine Qc (Qa (C8 (S:=[b1]) 3 [(0,0),(0,1),(1,2),(2,3)] mo (by kernel_rfl) ?_));intro w27 hx27 hh27;have hB1:=hB1.q (hx26.j hx27) (by simp<;>omega);have hB3:=hB3.u hx27;have hB5:=hB5.q (hx26.j hx27) (by simp<;>omega);have hCS27:=A8 ([b1]) w27;refine D6 J (C1 K4 J ‹_› (by simp;omega) J J) ?_;refine D6 J (C1 F8 J ‹_› (by simp;omega) J J) ?_;refine H8 (G3 V9 J J ‹_› J J J J J) ?_;intro w28 hs28 hx28 hB1;have hB2:=hB2.q ((hx26.j hx27).j hx28) (by simp<;>omega);have hCS27:=hCS27.step hx28 (by simp;done);refine ⟨hCS27,?_⟩;refine Pe G5 J ‹_› J J ?_;intro w29 hs29 hx29 hB2;have hC:=hC.step (((hx26.j hx27).j hx28).j hx29) (by simp<;>omega);have hB1:=hB1.q hx29 (by simp;omega);refine Qc (A6 (C7 J J (A5 K4 ‹_› J J) J (A5 F8 ‹_› J J) ?_));exact ⟨hC,by rw [hE];unfold Av7;simp only [C6];rfl⟩
       ·rw [cmpB_neqF] at p4;rw [Ek0 (by omega)] at hE;refine A7 (Qa (C8 (S:=[b1]) 3 [(0,0),(0,1),(1,2),(2,3)] mo (by kernel_rfl) ?_));intro w30 hx30 hh30;have hB1:=hB1.u hx30;have hB3:=hB3.u hx30;have hB5:=hB5.u hx30;have hCS30:=A8 ([b1]) w30;refine D6 J (C1 K4 J ‹_› (by simp;omega) J J) ?_;refine D6 J (C1 F8 J ‹_› (by simp;omega) J J) ?_;refine H8 (G3 V9 J J ‹_› J J J J J) ?_;intro w31 hs31 hx31 hB1;have hB2:=hB2.q (hx30.j hx31) (by simp<;>omega);have hCS30:=hCS30.step hx31 (by simp;done);refine ⟨hCS30,?_⟩;refine Pe G5 J ‹_› J J ?_;intro w32 hs32 hx32 hB2;have hC:=hC.step ((hx30.j hx31).j hx32) (by simp<;>omega);have hB1:=hB1.q hx32 (by simp;omega);refine Qc (A6 (C7 J J (A5 K4 ‹_› J J) J (A5 F8 ‹_› J J) ?_));exact ⟨hC,by rw [hE];unfold Av7;simp only [C6];rfl⟩
     ·rw [cmpB_eqlF] at p2;rw [Ek0 (by omega)] at hE;refine A7 (Qa (C8 (S:=[b1]) 3 [(0,0),(0,1),(1,2),(2,3)] mo (by kernel_rfl) ?_));intro w33 hx33 hh33;have hB1:=hB1.u hx33;have hB3:=hB3.u hx33;have hB5:=hB5.u hx33;have hCS33:=A8 ([b1]) w33;refine D6 J (C1 K4 J ‹_› (by simp;omega) J J) ?_;refine D6 J (C1 F8 J ‹_› (by simp;omega) J J) ?_;refine H8 (G3 V9 J J ‹_› J J J J J) ?_;intro w34 hs34 hx34 hB1;have hB2:=hB2.q (hx33.j hx34) (by simp<;>omega);have hCS33:=hCS33.step hx34 (by simp;done);refine ⟨hCS33,?_⟩;refine Pe G5 J ‹_› J J ?_;intro w35 hs35 hx35 hB2;have hC:=hC.step ((hx33.j hx34).j hx35) (by simp<;>omega);have hB1:=hB1.q hx35 (by simp;omega);refine Qc (A6 (C7 J J (A5 K4 ‹_› J J) J (A5 F8 ‹_› J J) ?_));exact ⟨hC,by rw [hE];unfold Av7;simp only [C6];rfl⟩
    ·try simp at p1
     rw [Ek0 (by omega)] at hE;refine Qk J (Qk J (Qk J (Qk J (Qk J (Zc 1 J (E4 J (A7 (Qa (C8 (S:=[b1]) 3 [(0,0),(0,1),(1,2),(2,3)] mo (by kernel_rfl) ?_)))))))));intro w36 hx36 hh36;have hB1:=hB1.u hx36;have hB3:=hB3.u hx36;have hB5:=hB5.u hx36;have hCS36:=A8 ([b1]) w36;refine D6 J (C1 K4 J ‹_› (by simp;omega) J J) ?_;refine D6 J (C1 F8 J ‹_› (by simp;omega) J J) ?_;refine H8 (G3 V9 J J ‹_› J J J J J) ?_;intro w37 hs37 hx37 hB1;have hB2:=hB2.q (hx36.j hx37) (by simp<;>omega);have hCS36:=hCS36.step hx37 (by simp;done);refine ⟨hCS36,?_⟩;refine Pe G5 J ‹_› J J ?_;intro w38 hs38 hx38 hB2;have hC:=hC.step ((hx36.j hx37).j hx38) (by simp<;>omega);have hB1:=hB1.q hx38 (by simp;omega);refine Qc (A6 (C7 J J (A5 K4 ‹_› J J) J (A5 F8 ‹_› J J) ?_));exact ⟨hC,by rw [hE];unfold Av7;simp only [C6];rfl⟩
   ·try simp at c3
    rw [Ek0 (by omega)] at hE
    refine Qd (Zc 2 J (A4 J (fun c4=>?_) (fun c4=>?_)))
    ·try simp at c4
     rw [Ek1 (by omega)] at hE;refine Qd (Fa U0 J (Pe sz3 J ‹_› J J ?_));intro w39 hs39 hx39 hB5;refine Qc (Qa (C8 (S:=[b1]) 3 [(0,0),(0,1),(1,2),(2,3)] mo (by kernel_rfl) ?_));intro w40 hx40 hh40;have hB1:=hB1.q (hx39.j hx40) (by simp<;>omega);have hB3:=hB3.q (hx39.j hx40) (by simp<;>omega);have hB5:=hB5.u hx40;have hCS40:=A8 ([b1]) w40;refine D6 J (C1 K4 J ‹_› (by simp;omega) J J) ?_;refine D6 J (C1 F8 J ‹_› (by simp;omega) J J) ?_;refine H8 (G3 V9 J J ‹_› J J J J J) ?_;intro w41 hs41 hx41 hB1;have hB2:=hB2.q ((hx39.j hx40).j hx41) (by simp<;>omega);have hCS40:=hCS40.step hx41 (by simp;done);refine ⟨hCS40,?_⟩;refine Pe G5 J ‹_› J J ?_;intro w42 hs42 hx42 hB2;have hC:=hC.step (((hx39.j hx40).j hx41).j hx42) (by simp<;>omega);have hB1:=hB1.q hx42 (by simp;omega);refine Qc (A6 (C7 J J (A5 K4 ‹_› J J) J (A5 F8 ‹_› J J) ?_));exact ⟨hC,by rw [hE];unfold Av7;simp only [C6];rfl⟩
    ·try simp at c4
     rw [Ek0 (by omega)] at hE
     refine Qd (Zc 2 J (A4 J (fun c5=>?_) (fun c5=>?_)))
     ·try simp at c5
      rw [Ek1 (by omega)] at hE;refine Qd (Fa U0 J (Pe sz3 J ‹_› J J ?_));intro w43 hs43 hx43 hB5;refine Qc (Qa (C8 (S:=[b1]) 3 [(0,0),(0,1),(1,2),(2,3)] mo (by kernel_rfl) ?_));intro w44 hx44 hh44;have hB1:=hB1.q (hx43.j hx44) (by simp<;>omega);have hB3:=hB3.q (hx43.j hx44) (by simp<;>omega);have hB5:=hB5.u hx44;have hCS44:=A8 ([b1]) w44;refine D6 J (C1 K4 J ‹_› (by simp;omega) J J) ?_;refine D6 J (C1 F8 J ‹_› (by simp;omega) J J) ?_;refine H8 (G3 V9 J J ‹_› J J J J J) ?_;intro w45 hs45 hx45 hB1;have hB2:=hB2.q ((hx43.j hx44).j hx45) (by simp<;>omega);have hCS44:=hCS44.step hx45 (by simp;done);refine ⟨hCS44,?_⟩;refine Pe G5 J ‹_› J J ?_;intro w46 hs46 hx46 hB2;have hC:=hC.step (((hx43.j hx44).j hx45).j hx46) (by simp<;>omega);have hB1:=hB1.q hx46 (by simp;omega);refine Qc (A6 (C7 J J (A5 K4 ‹_› J J) J (A5 F8 ‹_› J J) ?_));exact ⟨hC,by rw [hE];unfold Av7;simp only [C6];rfl⟩
     ·try simp at c5
      rw [Ek0 (by omega)] at hE
      refine Qd (Zc 2 J (A4 J (fun c6=>?_) (fun c6=>?_)))
      ·try simp at c6
       rw [Ek1 (by omega)] at hE;refine Qd (C9 J (D7 Q5 X5 J (by rfl)) ?_);refine B5 J (B7 At0 Tryz.underlying268 Q5 J J J (by rfl)) ?_;intro b47 w47 hb47 hs47 hx47 hB47;refine Ca Ar9 J (L7 [(10,10)] true _ _ J (by decide) _ ‹_›) ?_;rintro _ w48 ⟨rfl,hx48⟩;have hB5:=hB5.u (hx47.s0 hx48);refine Fa Bm1 J (Pe J9 J ‹_› J J ?_);intro w49 hs49 hx49 hB5;refine Qc (Qa (C8 (S:=[b1]) 3 [(0,0),(0,1),(1,2),(2,3)] mo (by kernel_rfl) ?_));intro w50 hx50 hh50;have hB1:=hB1.q (((hx47.j hx48).j hx49).j hx50) (by simp<;>omega);have hB3:=hB3.q (((hx47.j hx48).j hx49).j hx50) (by simp<;>omega);have hB5:=hB5.u hx50;have hCS50:=A8 ([b1]) w50;refine D6 J (C1 K4 J ‹_› (by simp;omega) J J) ?_;refine D6 J (C1 F8 J ‹_› (by simp;omega) J J) ?_;refine H8 (G3 V9 J J ‹_› J J J J J) ?_;intro w51 hs51 hx51 hB1;have hB2:=hB2.q ((((hx47.j hx48).j hx49).j hx50).j hx51) (by simp<;>omega);have hCS50:=hCS50.step hx51 (by simp;done);refine ⟨hCS50,?_⟩;refine Pe G5 J ‹_› J J ?_;intro w52 hs52 hx52 hB2;have hC:=hC.step (((((hx47.j hx48).j hx49).j hx50).j hx51).j hx52) (by simp<;>omega);have hB1:=hB1.q hx52 (by simp;omega);refine Qc (A6 (C7 J J (A5 K4 ‹_› J J) J (A5 F8 ‹_› J J) ?_));exact ⟨hC,by rw [hE];rfl⟩
      ·try simp at c6
       rw [Ek0 (by omega)] at hE
       refine Qa (Qd (Zc 2 J (A4 J (fun c7=>?_) (fun c7=>?_))))
       ·refine A7 (E3 (H3 J c7) ?_);rw [cmpB_eql] at c7;rw [Ek1 (by omega)] at hE;refine Qd (La K4 J ‹_› J J ?_);refine Z 1 J (C9 J (B1 J3 M4 J (by rfl)) ?_);refine Pe V9 J ‹_› J J ?_;intro w53 hs53 hx53 hB1;have hB2:=hB2.q hx53 (by simp;omega);refine Pe G5 J ‹_› J J ?_;intro w54 hs54 hx54 hB2;have hC:=hC.step (hx53.j hx54) (by simp<;>omega);have hB1:=hB1.q hx54 (by simp;omega);refine Qc (A6 (C7 J J (A5 K4 ‹_› J J) J (A5 F8 ‹_› J J) ?_));exact ⟨hC,by rw [hE];unfold Av7;simp only [C6];rfl⟩
       ·rw [cmpB_eqlF] at c7
        refine Qb (Zc 2 J (A4 J (fun c8=>?_) (fun c8=>?_)))
        ·rw [cmpB_eql] at c8;rw [Ek1 (by omega)] at hE;refine Qd (La K4 J ‹_› J J ?_);refine Z 1 J (C9 J (B1 J3 M4 J (by rfl)) ?_);refine Pe V9 J ‹_› J J ?_;intro w55 hs55 hx55 hB1;have hB2:=hB2.q hx55 (by simp;omega);refine Pe G5 J ‹_› J J ?_;intro w56 hs56 hx56 hB2;have hC:=hC.step (hx55.j hx56) (by simp<;>omega);have hB1:=hB1.q hx56 (by simp;omega);refine Qc (A6 (C7 J J (A5 K4 ‹_› J J) J (A5 F8 ‹_› J J) ?_));exact ⟨hC,by rw [hE];unfold Av7;simp only [C6];rfl⟩
        ·rw [cmpB_eqlF] at c8;rw [Ek0 (by omega)] at hE
         refine Qa (Qd (Zc 2 J (A4 J (fun c9=>?_) (fun c9=>?_))))
         ·refine A7 (E3 (H3 J c9) ?_);rw [cmpB_eql] at c9;rw [Ek1 (by omega)] at hE;refine Qd (La K4 J ‹_› J J ?_);refine Z 1 J (C9 J (B1 J3 M4 J (by rfl)) ?_);refine Pe V9 J ‹_› J J ?_;intro w57 hs57 hx57 hB1;have hB2:=hB2.q hx57 (by simp;omega);refine Pe G5 J ‹_› J J ?_;intro w58 hs58 hx58 hB2;have hC:=hC.step (hx57.j hx58) (by simp<;>omega);have hB1:=hB1.q hx58 (by simp;omega);refine Qc (A6 (C7 J J (A5 K4 ‹_› J J) J (A5 F8 ‹_› J J) ?_));exact ⟨hC,by rw [hE];unfold Av7;simp only [C6];rfl⟩
         ·rw [cmpB_eqlF] at c9
          refine Qb (Zc 2 J (A4 J (fun c10=>?_) (fun c10=>?_)))
          ·rw [cmpB_eql] at c10;rw [Ek1 (by omega)] at hE;refine Qd (La K4 J ‹_› J J ?_);refine Z 1 J (C9 J (B1 J3 M4 J (by rfl)) ?_);refine Pe V9 J ‹_› J J ?_;intro w59 hs59 hx59 hB1;have hB2:=hB2.q hx59 (by simp;omega);refine Pe G5 J ‹_› J J ?_;intro w60 hs60 hx60 hB2;have hC:=hC.step (hx59.j hx60) (by simp<;>omega);have hB1:=hB1.q hx60 (by simp;omega);refine Qc (A6 (C7 J J (A5 K4 ‹_› J J) J (A5 F8 ‹_› J J) ?_));exact ⟨hC,by rw [hE];unfold Av7;simp only [C6];rfl⟩
          ·rw [cmpB_eqlF] at c10;rw [Ek0 (by omega)] at hE;refine A7 (Qa (Qd (Z 1 J (Ca fb171 J (rin_c Eg5 (by decide) c hb _) ?_))));rintro _ w61 ⟨rfl,hx61⟩;have hC:=hC.s0 hx61;have hB1:=hB1.u hx61;have hB2:=hB2.u hx61;have hB3:=hB3.u hx61;have hB5:=hB5.u hx61
           refine Zc 1 J (A4 J (fun n1=>?_) (fun n1=>?_))
           ·have n1':c∉B6 Eg5:=by simpa using n1
            rw [Ek1 n1'] at hE;refine Qd (Z 1 J (C9 J (H4 kn5 Tryz.underlying3 J (by exact I4 (by omega))) ?_));refine Z 1 J (C9 J (H4 kn5 Tryz.underlying3 J (by exact I4 (by omega))) ?_);refine C9 J (D7 Q5 X5 J (by rfl)) ?_;refine B5 J (B7 At0 Tryz.underlying268 Q5 J J J (by rfl)) ?_;intro b62 w62 hb62 hs62 hx62 hB62;refine Ca Ar9 J (L7 [((c:Int),(c:Int))] false _ _ J (by simp) _ ‹_›) ?_;rintro _ w63 ⟨rfl,hx63⟩;have hB5:=hB5.u (hx62.s0 hx63);refine Fa Bm1 J (Pe J9 J ‹_› J J ?_);intro w64 hs64 hx64 hB5;refine Qc (Qa (C8 (S:=[b1]) 3 [(0,0),(0,1),(1,2),(2,3)] mo (by kernel_rfl) ?_));intro w65 hx65 hh65;have hB1:=hB1.q (((hx62.j hx63).j hx64).j hx65) (by simp<;>omega);have hB3:=hB3.q (((hx62.j hx63).j hx64).j hx65) (by simp<;>omega);have hB5:=hB5.u hx65;have hCS65:=A8 ([b1]) w65;refine D6 J (C1 K4 J ‹_› (by simp;omega) J J) ?_;refine D6 J (C1 F8 J ‹_› (by simp;omega) J J) ?_;refine H8 (G3 V9 J J ‹_› J J J J J) ?_;intro w66 hs66 hx66 hB1;have hB2:=hB2.q ((((hx62.j hx63).j hx64).j hx65).j hx66) (by simp<;>omega);have hCS65:=hCS65.step hx66 (by simp;done);refine ⟨hCS65,?_⟩;refine Pe G5 J ‹_› J J ?_;intro w67 hs67 hx67 hB2;have hC:=hC.step (((((hx62.j hx63).j hx64).j hx65).j hx66).j hx67) (by simp<;>omega);have hB1:=hB1.q hx67 (by simp;omega);refine Qc (A6 (C7 J J (A5 K4 ‹_› J J) J (A5 F8 ‹_› J J) ?_));exact ⟨hC,by rw [hE];rfl⟩
           ·have n1':¬ c∉B6 Eg5:=by simpa using n1
            rw [Ek0 n1'] at hE;refine A7 (Qd (Fa U0 J (Pe sz3 J ‹_› J J ?_)));intro w68 hs68 hx68 hB5;refine Qc (Qd (Fa Cd0 J (Pe sz3 J ‹_› J J ?_)));intro w69 hs69 hx69 hB5;have hC:=hC.step (hx68.j hx69) (by simp<;>omega);have hB1:=hB1.q (hx68.j hx69) (by simp<;>omega);have hB2:=hB2.q (hx68.j hx69) (by simp<;>omega);have hB3:=hB3.q (hx68.j hx69) (by simp<;>omega)
            refine Qc (I3 (fun e9 wr=>∃ t q,Sub [(0,.string s),(4,.pointer (some ⟨b1,0,none⟩)),(5,.pointer (some ⟨b2,0,none⟩)),(7,.pointer (some ⟨b3,0,none⟩)),(8,.pointer (some ⟨b5,0,none⟩))] e9∧Chg [] w wr∧Blk wr b1 (Av7 ⟨0,0,0,0,0,0,false⟩) 231∧Blk wr b2 (endC (0,0)) 232∧Blk wr b3 (endC q) 232∧Blk wr b5 (Av7 t) 231∧Cg6 (B6 s) at_=Cf2 (B6 s) t q∧(∃ i:Nat,q.1=(i:Int)∧i≤5000)) ?_ ?_)
            ·refine Qd (Zc 1 J (B2 (Qd (Zc 2 J (A4 J (fun d1=>?_) (fun d1=>?_))))))
             ·try simp at d1
              rw [Ek1 (by omega)] at hE;refine Qb (Fa Cw4 J (Pe sz3 J ‹_› J J ?_));intro w70 hs70 hx70 hB5;have hC:=hC.step hx70 (by simp;omega);have hB1:=hB1.q hx70 (by simp;omega);have hB2:=hB2.q hx70 (by simp;omega);have hB3:=hB3.q hx70 (by simp;omega);refine Qc ⟨⟨5,at_,0,0,1,-1,false⟩,((at_:Int)+1,0),sb J,?_⟩;exact ⟨hC,by unfold Av7;simp only [C6];exact hB1,hB2,hB3,by unfold Av7;simp only [C6];exact hB5,hE,⟨at_+1,by show (at_:Int)+1=_;omega,by omega⟩⟩
             ·try simp at d1
              rw [Ek0 (by omega)] at hE
              refine Qd (Zc 2 J (A4 J (fun d2=>?_) (fun d2=>?_)))
              ·try simp at d2
               rw [Ek1 (by omega)] at hE;refine Qb (Fa Cd0 J (Pe sz3 J ‹_› J J ?_));intro w71 hs71 hx71 hB5;have hC:=hC.step hx71 (by simp;omega);have hB1:=hB1.q hx71 (by simp;omega);have hB2:=hB2.q hx71 (by simp;omega);have hB3:=hB3.q hx71 (by simp;omega);refine Qc ⟨⟨5,at_,0,0,0,1,false⟩,((at_:Int)+1,0),sb J,?_⟩;exact ⟨hC,by unfold Av7;simp only [C6];exact hB1,hB2,hB3,by unfold Av7;simp only [C6];exact hB5,hE,⟨at_+1,by show (at_:Int)+1=_;omega,by omega⟩⟩
              ·try simp at d2
               rw [Ek0 (by omega)] at hE
               refine Qd (Zc 2 J (A4 J (fun d3=>?_) (fun d3=>?_)))
               ·try simp at d3
                rw [Ek1 (by omega)] at hE;have hbp:=Cz2 (B6 s) hlt (at_+1);refine Qb (Z 2 J (Ad J J (by omega) (Ca fb172 J (Dw2 s hs (at_+1) (by omega) _) ?_)));rintro _ w72 ⟨hx72,rfl⟩;have hB5:=hB5.u hx72;generalize K0 (B6 s) (at_+1)=b at*;obtain ⟨bm,bn,bp,be⟩:=b;obtain ⟨j,hj,hj2⟩:=hbp;simp only [] at hj hE;refine Z 4 J (Fa Cw4 J (Pe sz3 J ‹_› J J ?_));intro w73 hs73 hx73 hB5;refine Fa Cd0 J (Pe sz3 J ‹_› J J ?_);intro w74 hs74 hx74 hB5;have hB3:=hB3.q ((hx72.j hx73).j hx74) (by simp<;>omega);refine Pe G5 J ‹_› J J ?_;intro w75 hs75 hx75 hB3;have hC:=hC.step (((hx72.j hx73).j hx74).j hx75) (by simp<;>omega);have hB1:=hB1.q (((hx72.j hx73).j hx74).j hx75) (by simp<;>omega);have hB2:=hB2.q (((hx72.j hx73).j hx74).j hx75) (by simp<;>omega);have hB5:=hB5.q hx75 (by simp;omega);refine Qc ⟨⟨5,at_,0,0,bm,bn,false⟩,(bp,be),sb J,?_⟩;exact ⟨hC,by unfold Av7;simp only [C6];exact hB1,hB2,hB3,by unfold Av7;simp only [C6];exact hB5,hE,⟨j,hj,by omega⟩⟩
               ·try simp at d3
                rw [Ek0 (by omega)] at hE;refine A7 ⟨⟨5,at_,0,0,0,-1,false⟩,((at_:Int)+1,0),sb J,?_⟩;exact ⟨hC,by unfold Av7;simp only [C6];exact hB1,hB2,hB3,by unfold Av7;simp only [C6];exact hB5,hE,⟨at_+1,by show (at_:Int)+1=_;omega,by omega⟩⟩
            rintro e9 w9 ⟨t,q,hs9,hC,hB1,hB2,hB3,hB5,hR,hq⟩;refine I2 _ hs9 ?_;clear hs9 e9;obtain ⟨q1,qe⟩:=q;obtain ⟨i,hi,hi2⟩:=hq;simp only [] at hi;subst hi;unfold Cf2 at hR;simp only [Ek9] at hR;refine Qa (Qd (Fa Ac7 J (Lb o3 J ‹_› (by rfl) ?_)))
            refine Zc 1 J (A4 J (fun z1=>?_) (fun z1=>?_))
            ·try simp at z1
             rw [Ek1 z1] at hR;refine Qa (C8 (S:=[b1]) 3 [(0,0),(0,1),(1,2),(2,3)] mo (by kernel_rfl) ?_);intro w76 hx76 hh76;have hB1:=hB1.u hx76;have hB3:=hB3.u hx76;have hB5:=hB5.u hx76;have hCS76:=A8 ([b1]) w76;refine D6 J (C1 K4 J ‹_› (by simp;omega) J J) ?_;refine D6 J (C1 F8 J ‹_› (by simp;omega) J J) ?_;refine H8 (G3 V9 J J ‹_› J J J J J) ?_;intro w77 hs77 hx77 hB1;have hB2:=hB2.q (hx76.j hx77) (by simp<;>omega);have hCS76:=hCS76.step hx77 (by simp;done);refine ⟨hCS76,?_⟩;refine Pe G5 J ‹_› J J ?_;intro w78 hs78 hx78 hB2;have hC:=hC.step ((hx76.j hx77).j hx78) (by simp<;>omega);have hB1:=hB1.q hx78 (by simp;omega);refine Qc (A6 (C7 J J (A5 K4 ‹_› J J) J (A5 F8 ‹_› J J) ?_));exact ⟨hC,by rw [hR];rfl⟩
            ·try simp at z1
             have z1':qe=0:=by simpa using z1
             subst z1';rw [Ek0 (by simp)] at hR;refine A7 (Qa (Qd (Fa G4 J (Lb o3 J ‹_› (by rfl) ?_))))
             refine Z 1 J (C9 J (E9 Tryz.underlying9 J) (Z 2 J (C0 (d:=149) J (fun z2=>?_) (fun z2=>?_))))
             ·try simp at z2
              have hin:i<s.size:=by omega
              obtain ⟨u9,hu3,hu4⟩:=I5 s i hin;refine Qu J (Z 1 J (Qu J (Fa G4 J (Qu J (Lb o3 J ‹_› (by rfl) ?_)))));refine Qu J (C9 J (Does.to (E7 Tryz.underlying9 J J (by omega) (by exact hu3)) (J4 (show ((u9.toNat:Nat):Int)=(((B6 s).getD i 0:Nat):Int) by rw [hu4]))) ?_)
              refine Qu J (Zc 2 J (A4 J (fun z3=>?_) (fun z3=>?_)))
              ·rw [cmpB_eql] at z3;rw [Ek1 ⟨by omega,by omega⟩] at hR;simp only [] at hR;refine Qd (Fa Ed2 J (Pe sz4 J ‹_› J J ?_));intro w79 hs79 hx79 hB5;have hB3:=hB3.q hx79 (by simp;omega);refine Qc (Qb (Fa G4 J (Lb o3 J ‹_› (by rfl) ?_)));refine Ad J J (by omega) (Fa G4 J (Pe sz3 J ‹_› J J ?_));intro w80 hs80 hx80 hB3;have hC:=hC.step (hx79.j hx80) (by simp<;>omega);have hB1:=hB1.q (hx79.j hx80) (by simp<;>omega);have hB2:=hB2.q (hx79.j hx80) (by simp<;>omega);have hB5:=hB5.q hx80 (by simp;omega);refine Qc (Qa (Qd (Fa G4 J (Lb o3 J ‹_› (by rfl) ?_))))
               refine Z 1 J (C9 J (E9 Tryz.underlying9 J) (Z 2 J (C0 (d:=166) J (fun y1=>?_) (fun y1=>?_))))
               ·try simp at y1
                have hin:i+1<s.size:=by omega
                obtain ⟨v8,hv,hv2⟩:=I5 s (i+1) hin;refine Qu J (Z 1 J (Qu J (Fa G4 J (Qu J (Lb o3 J ‹_› (by rfl) ?_)))));refine Qu J (C9 J (Does.to (E7 Tryz.underlying9 J J (by omega) (by exact hv)) (J4 (show ((v8.toNat:Nat):Int)=(((B6 s).getD (i+1) 0:Nat):Int) by rw [hv2]))) ?_)
                refine Qu J (Zc 2 J (A4 J (fun y2=>?_) (fun y2=>?_)))
                ·rw [cmpB_eql] at y2;rw [Ek1 ⟨by omega,by omega⟩] at hR;refine Qb (Fa Ac7 J (Pe sz3 J ‹_› J J ?_));intro w81 hs81 hx81 hB3;refine Qc (Qa (C8 (S:=[b1]) 3 [(0,0),(0,1),(1,2),(2,3)] mo (by kernel_rfl) ?_));intro w82 hx82 hh82;have hB1:=hB1.q (hx81.j hx82) (by simp<;>omega);have hB3:=hB3.u hx82;have hB5:=hB5.q (hx81.j hx82) (by simp<;>omega);have hCS82:=A8 ([b1]) w82;refine D6 J (C1 K4 J ‹_› (by simp;omega) J J) ?_;refine D6 J (C1 F8 J ‹_› (by simp;omega) J J) ?_;refine H8 (G3 V9 J J ‹_› J J J J J) ?_;intro w83 hs83 hx83 hB1;have hB2:=hB2.q ((hx81.j hx82).j hx83) (by simp<;>omega);have hCS82:=hCS82.step hx83 (by simp;done);refine ⟨hCS82,?_⟩;refine Pe G5 J ‹_› J J ?_;intro w84 hs84 hx84 hB2;have hC:=hC.step (((hx81.j hx82).j hx83).j hx84) (by simp<;>omega);have hB1:=hB1.q hx84 (by simp;omega);refine Qc (A6 (C7 J J (A5 K4 ‹_› J J) J (A5 F8 ‹_› J J) ?_));exact ⟨hC,by rw [hR];rfl⟩
                ·rw [cmpB_eqlF] at y2;rw [Ek0 (by omega)] at hR;refine A7 (Qa (C8 (S:=[b1]) 3 [(0,0),(0,1),(1,2),(2,3)] mo (by kernel_rfl) ?_));intro w85 hx85 hh85;have hB1:=hB1.u hx85;have hB3:=hB3.u hx85;have hB5:=hB5.u hx85;have hCS85:=A8 ([b1]) w85;refine D6 J (C1 K4 J ‹_› (by simp;omega) J J) ?_;refine D6 J (C1 F8 J ‹_› (by simp;omega) J J) ?_;refine H8 (G3 V9 J J ‹_› J J J J J) ?_;intro w86 hs86 hx86 hB1;have hB2:=hB2.q (hx85.j hx86) (by simp<;>omega);have hCS85:=hCS85.step hx86 (by simp;done);refine ⟨hCS85,?_⟩;refine Pe G5 J ‹_› J J ?_;intro w87 hs87 hx87 hB2;have hC:=hC.step ((hx85.j hx86).j hx87) (by simp<;>omega);have hB1:=hB1.q hx87 (by simp;omega);refine Qc (A6 (C7 J J (A5 K4 ‹_› J J) J (A5 F8 ‹_› J J) ?_));exact ⟨hC,by rw [hR];rfl⟩
               ·try simp at y1
                rw [Ek0 (by omega)] at hR;refine Qk J (Qk J (Qk J (Qk J (Qk J (Zc 1 J (E4 J (A7 (Qa (C8 (S:=[b1]) 3 [(0,0),(0,1),(1,2),(2,3)] mo (by kernel_rfl) ?_)))))))));intro w88 hx88 hh88;have hB1:=hB1.u hx88;have hB3:=hB3.u hx88;have hB5:=hB5.u hx88;have hCS88:=A8 ([b1]) w88;refine D6 J (C1 K4 J ‹_› (by simp;omega) J J) ?_;refine D6 J (C1 F8 J ‹_› (by simp;omega) J J) ?_;refine H8 (G3 V9 J J ‹_› J J J J J) ?_;intro w89 hs89 hx89 hB1;have hB2:=hB2.q (hx88.j hx89) (by simp<;>omega);have hCS88:=hCS88.step hx89 (by simp;done);refine ⟨hCS88,?_⟩;refine Pe G5 J ‹_› J J ?_;intro w90 hs90 hx90 hB2;have hC:=hC.step ((hx88.j hx89).j hx90) (by simp<;>omega);have hB1:=hB1.q hx90 (by simp;omega);refine Qc (A6 (C7 J J (A5 K4 ‹_› J J) J (A5 F8 ‹_› J J) ?_));exact ⟨hC,by rw [hR];rfl⟩
              ·rw [cmpB_eqlF] at z3;rw [Ek0 (by omega)] at hR;simp only [] at hR;refine A7 (Qa (Qd (Fa G4 J (Lb o3 J ‹_› (by rfl) ?_))))
               refine Z 1 J (C9 J (E9 Tryz.underlying9 J) (Z 2 J (C0 (d:=166) J (fun y1=>?_) (fun y1=>?_))))
               ·try simp at y1
                have hin:i<s.size:=by omega
                obtain ⟨v8,hv,hv2⟩:=I5 s (i) hin;refine Qu J (Z 1 J (Qu J (Fa G4 J (Qu J (Lb o3 J ‹_› (by rfl) ?_)))));refine Qu J (C9 J (Does.to (E7 Tryz.underlying9 J J (by omega) (by exact hv)) (J4 (show ((v8.toNat:Nat):Int)=(((B6 s).getD (i) 0:Nat):Int) by rw [hv2]))) ?_)
                refine Qu J (Zc 2 J (A4 J (fun y2=>?_) (fun y2=>?_)))
                ·rw [cmpB_eql] at y2;rw [Ek1 ⟨by omega,by omega⟩] at hR;refine Qb (Fa Ac7 J (Pe sz3 J ‹_› J J ?_));intro w91 hs91 hx91 hB3;refine Qc (Qa (C8 (S:=[b1]) 3 [(0,0),(0,1),(1,2),(2,3)] mo (by kernel_rfl) ?_));intro w92 hx92 hh92;have hB1:=hB1.q (hx91.j hx92) (by simp<;>omega);have hB3:=hB3.u hx92;have hB5:=hB5.q (hx91.j hx92) (by simp<;>omega);have hCS92:=A8 ([b1]) w92;refine D6 J (C1 K4 J ‹_› (by simp;omega) J J) ?_;refine D6 J (C1 F8 J ‹_› (by simp;omega) J J) ?_;refine H8 (G3 V9 J J ‹_› J J J J J) ?_;intro w93 hs93 hx93 hB1;have hB2:=hB2.q ((hx91.j hx92).j hx93) (by simp<;>omega);have hCS92:=hCS92.step hx93 (by simp;done);refine ⟨hCS92,?_⟩;refine Pe G5 J ‹_› J J ?_;intro w94 hs94 hx94 hB2;have hC:=hC.step (((hx91.j hx92).j hx93).j hx94) (by simp<;>omega);have hB1:=hB1.q hx94 (by simp;omega);refine Qc (A6 (C7 J J (A5 K4 ‹_› J J) J (A5 F8 ‹_› J J) ?_));exact ⟨hC,by rw [hR];rfl⟩
                ·rw [cmpB_eqlF] at y2;rw [Ek0 (by omega)] at hR;refine A7 (Qa (C8 (S:=[b1]) 3 [(0,0),(0,1),(1,2),(2,3)] mo (by kernel_rfl) ?_));intro w95 hx95 hh95;have hB1:=hB1.u hx95;have hB3:=hB3.u hx95;have hB5:=hB5.u hx95;have hCS95:=A8 ([b1]) w95;refine D6 J (C1 K4 J ‹_› (by simp;omega) J J) ?_;refine D6 J (C1 F8 J ‹_› (by simp;omega) J J) ?_;refine H8 (G3 V9 J J ‹_› J J J J J) ?_;intro w96 hs96 hx96 hB1;have hB2:=hB2.q (hx95.j hx96) (by simp<;>omega);have hCS95:=hCS95.step hx96 (by simp;done);refine ⟨hCS95,?_⟩;refine Pe G5 J ‹_› J J ?_;intro w97 hs97 hx97 hB2;have hC:=hC.step ((hx95.j hx96).j hx97) (by simp<;>omega);have hB1:=hB1.q hx97 (by simp;omega);refine Qc (A6 (C7 J J (A5 K4 ‹_› J J) J (A5 F8 ‹_› J J) ?_));exact ⟨hC,by rw [hR];rfl⟩
               ·try simp at y1
                rw [Ek0 (by omega)] at hR;refine Qk J (Qk J (Qk J (Qk J (Qk J (Zc 1 J (E4 J (A7 (Qa (C8 (S:=[b1]) 3 [(0,0),(0,1),(1,2),(2,3)] mo (by kernel_rfl) ?_)))))))));intro w98 hx98 hh98;have hB1:=hB1.u hx98;have hB3:=hB3.u hx98;have hB5:=hB5.u hx98;have hCS98:=A8 ([b1]) w98;refine D6 J (C1 K4 J ‹_› (by simp;omega) J J) ?_;refine D6 J (C1 F8 J ‹_› (by simp;omega) J J) ?_;refine H8 (G3 V9 J J ‹_› J J J J J) ?_;intro w99 hs99 hx99 hB1;have hB2:=hB2.q (hx98.j hx99) (by simp<;>omega);have hCS98:=hCS98.step hx99 (by simp;done);refine ⟨hCS98,?_⟩;refine Pe G5 J ‹_› J J ?_;intro w100 hs100 hx100 hB2;have hC:=hC.step ((hx98.j hx99).j hx100) (by simp<;>omega);have hB1:=hB1.q hx100 (by simp;omega);refine Qc (A6 (C7 J J (A5 K4 ‹_› J J) J (A5 F8 ‹_› J J) ?_));exact ⟨hC,by rw [hR];rfl⟩
             ·try simp at z2
              rw [Ek0 (by omega)] at hR;simp only [] at hR;refine Qk J (Qk J (Qk J (Qk J (Qk J (Zc 1 J (E4 J (A7 (Qa (Qd (Fa G4 J (Lb o3 J ‹_› (by rfl) ?_)))))))))))
              refine Z 1 J (C9 J (E9 Tryz.underlying9 J) (Z 2 J (C0 (d:=166) J (fun y1=>?_) (fun y1=>?_))))
              ·try simp at y1
               have hin:i<s.size:=by omega
               obtain ⟨v8,hv,hv2⟩:=I5 s (i) hin;refine Qu J (Z 1 J (Qu J (Fa G4 J (Qu J (Lb o3 J ‹_› (by rfl) ?_)))));refine Qu J (C9 J (Does.to (E7 Tryz.underlying9 J J (by omega) (by exact hv)) (J4 (show ((v8.toNat:Nat):Int)=(((B6 s).getD (i) 0:Nat):Int) by rw [hv2]))) ?_)
               refine Qu J (Zc 2 J (A4 J (fun y2=>?_) (fun y2=>?_)))
               ·rw [cmpB_eql] at y2;rw [Ek1 ⟨by omega,by omega⟩] at hR;refine Qb (Fa Ac7 J (Pe sz3 J ‹_› J J ?_));intro w101 hs101 hx101 hB3;refine Qc (Qa (C8 (S:=[b1]) 3 [(0,0),(0,1),(1,2),(2,3)] mo (by kernel_rfl) ?_));intro w102 hx102 hh102;have hB1:=hB1.q (hx101.j hx102) (by simp<;>omega);have hB3:=hB3.u hx102;have hB5:=hB5.q (hx101.j hx102) (by simp<;>omega);have hCS102:=A8 ([b1]) w102;refine D6 J (C1 K4 J ‹_› (by simp;omega) J J) ?_;refine D6 J (C1 F8 J ‹_› (by simp;omega) J J) ?_;refine H8 (G3 V9 J J ‹_› J J J J J) ?_;intro w103 hs103 hx103 hB1;have hB2:=hB2.q ((hx101.j hx102).j hx103) (by simp<;>omega);have hCS102:=hCS102.step hx103 (by simp;done);refine ⟨hCS102,?_⟩;refine Pe G5 J ‹_› J J ?_;intro w104 hs104 hx104 hB2;have hC:=hC.step (((hx101.j hx102).j hx103).j hx104) (by simp<;>omega);have hB1:=hB1.q hx104 (by simp;omega);refine Qc (A6 (C7 J J (A5 K4 ‹_› J J) J (A5 F8 ‹_› J J) ?_));exact ⟨hC,by rw [hR];rfl⟩
               ·rw [cmpB_eqlF] at y2;rw [Ek0 (by omega)] at hR;refine A7 (Qa (C8 (S:=[b1]) 3 [(0,0),(0,1),(1,2),(2,3)] mo (by kernel_rfl) ?_));intro w105 hx105 hh105;have hB1:=hB1.u hx105;have hB3:=hB3.u hx105;have hB5:=hB5.u hx105;have hCS105:=A8 ([b1]) w105;refine D6 J (C1 K4 J ‹_› (by simp;omega) J J) ?_;refine D6 J (C1 F8 J ‹_› (by simp;omega) J J) ?_;refine H8 (G3 V9 J J ‹_› J J J J J) ?_;intro w106 hs106 hx106 hB1;have hB2:=hB2.q (hx105.j hx106) (by simp<;>omega);have hCS105:=hCS105.step hx106 (by simp;done);refine ⟨hCS105,?_⟩;refine Pe G5 J ‹_› J J ?_;intro w107 hs107 hx107 hB2;have hC:=hC.step ((hx105.j hx106).j hx107) (by simp<;>omega);have hB1:=hB1.q hx107 (by simp;omega);refine Qc (A6 (C7 J J (A5 K4 ‹_› J J) J (A5 F8 ‹_› J J) ?_));exact ⟨hC,by rw [hR];rfl⟩
              ·try simp at y1
               rw [Ek0 (by omega)] at hR;refine Qk J (Qk J (Qk J (Qk J (Qk J (Zc 1 J (E4 J (A7 (Qa (C8 (S:=[b1]) 3 [(0,0),(0,1),(1,2),(2,3)] mo (by kernel_rfl) ?_)))))))));intro w108 hx108 hh108;have hB1:=hB1.u hx108;have hB3:=hB3.u hx108;have hB5:=hB5.u hx108;have hCS108:=A8 ([b1]) w108;refine D6 J (C1 K4 J ‹_› (by simp;omega) J J) ?_;refine D6 J (C1 F8 J ‹_› (by simp;omega) J J) ?_;refine H8 (G3 V9 J J ‹_› J J J J J) ?_;intro w109 hs109 hx109 hB1;have hB2:=hB2.q (hx108.j hx109) (by simp<;>omega);have hCS108:=hCS108.step hx109 (by simp;done);refine ⟨hCS108,?_⟩;refine Pe G5 J ‹_› J J ?_;intro w110 hs110 hx110 hB2;have hC:=hC.step ((hx108.j hx109).j hx110) (by simp<;>omega);have hB1:=hB1.q hx110 (by simp;omega);refine Qc (A6 (C7 J J (A5 K4 ‹_› J J) J (A5 F8 ‹_› J J) ?_));exact ⟨hC,by rw [hR];rfl⟩
def GoodP (L:List Nat) (at_:Nat) (e:Int × Int):Prop:=e.2=0→∃ j:Nat,e.1=(j:Int)∧at_+1≤j∧j≤L.length
theorem Ad1 {L:List Nat} {at_:Nat} {a b:Int} (h:b≠0):GoodP L at_ (a,b):=fun h'=>absurd h' h
theorem GoodP.one {L:List Nat} {at_:Nat} (h:at_<L.length):GoodP L at_ ((at_:Int)+1,0):=fun _=>⟨at_+1,by show (at_:Int)+1=_;omega,by omega,by omega⟩
theorem Ee2 (L:List Nat) (at_:Nat):GoodP L at_ (Co2 L at_).2:=fun h=>by
 obtain ⟨i,h1,h2,_⟩:=Dg4 L at_;exact ⟨i,h1,by have:=(h2 h).1;omega,(h2 h).2⟩
theorem Dh8 (L:List Nat):∀ (f:Nat) (fi:Bool) (on:List Bool) (i:Nat) (on':List Bool) (i':Nat),Cy5 L f fi on i= .inr (on',i')→i≤i'∧(i'<L.length∨(i'=i∧fi=false∧i<L.length))
 |0,fi,on,i,on',i',h=>by cases h
 |f+1,fi,on,i,on',i',h=>by
  rw [Cy5] at h
  by_cases hg:fi=true∨L.length≤i∨L.getD i 0≠93
  ·rw [Ek1 hg] at h
   cases hs:Ac8 L on i with
   |inl e=>rw [hs] at h;cases h
   |inr x=>
    obtain ⟨on2,i2⟩:=x;rw [hs] at h
    have hi2:i<i2:=by
     unfold Ac8 at hs;simp only [] at hs;obtain ⟨i1,h1,h2,_⟩:=Ay6 L i;obtain ⟨i3,h3,h4,_⟩:=Ay6 L ((V6 L i).2.1.toNat+1);generalize V6 L ((V6 L i).2.1.toNat+1)=y at*;generalize V6 L i=x at*;obtain ⟨x1,xp,xe⟩:=x;obtain ⟨y1,yp,ye⟩:=y;simp only [] at h1 h2 h3 h4 hs;subst h1 h3;simp only [Ek9] at hs h4
     by_cases e1:xe≠0
     ·rw [Ek1 e1] at hs;cases hs
     rw [Ek0 e1] at hs;have h2:=h2 (by simpa using e1)
     by_cases e2:L.length≤i1∨L.getD i1 0≠45
     ·rw [Ek1 e2] at hs;injection hs with hs;injection hs with _ hs;omega
     rw [Ek0 e2] at hs
     by_cases e3:Aa0 x1<0
     ·rw [Ek1 e3] at hs;cases hs
     rw [Ek0 e3] at hs
     by_cases e4:ye≠0
     ·rw [Ek1 e4] at hs;cases hs
     rw [Ek0 e4] at hs;have h4:=h4 (by simpa using e4)
     by_cases e5:Aa0 y1<0
     ·rw [Ek1 e5] at hs;cases hs
     rw [Ek0 e5] at hs
     by_cases e6:Aa0 y1<Aa0 x1
     ·rw [Ek1 e6] at hs;cases hs
     rw [Ek0 e6] at hs;injection hs with hs
     injection hs with _ hs
     omega
    have:=Dh8 L f false on2 i2 on' i' h;exact ⟨by omega,by rcases this.2 with h5|h5;exact .inl h5;exact .inl (by omega)⟩
  ·rw [Ek0 hg] at h;injection h with h
   injection h with h1 h2
   subst h2;have:=Eu0.1 hg;exact ⟨El1 _,.inl (by have:=Eu0.1 this.2;omega)⟩
theorem Bn9 (L:List Nat) (on:List Bool) (i:Nat) (e:Int × Int) (hs:Ac8 L on i= .inl e):e.2≠0:=by
 unfold Ac8 at hs;simp only [] at hs;generalize V6 L ((V6 L i).2.1.toNat+1)=y at*;generalize V6 L i=x at*
 by_cases e1:x.2.2≠0
 ·rw [Ek1 e1] at hs;injection hs with hs;rw [← hs];exact e1
 rw [Ek0 e1] at hs
 by_cases e2:L.length≤x.2.1.toNat∨L.getD x.2.1.toNat 0≠45
 ·rw [Ek1 e2] at hs;cases hs
 rw [Ek0 e2] at hs
 by_cases e3:Aa0 x.1<0
 ·rw [Ek1 e3] at hs;injection hs with hs;rw [← hs];show (4:Int)≠0;decide
 rw [Ek0 e3] at hs
 by_cases e4:y.2.2≠0
 ·rw [Ek1 e4] at hs;injection hs with hs;rw [← hs];exact e4
 rw [Ek0 e4] at hs
 by_cases e5:Aa0 y.1<0
 ·rw [Ek1 e5] at hs;injection hs with hs;rw [← hs];show (4:Int)≠0;decide
 rw [Ek0 e5] at hs
 by_cases e6:Aa0 y.1<Aa0 x.1
 ·rw [Ek1 e6] at hs;injection hs with hs;rw [← hs];show (5:Int)≠0;decide
 rw [Ek0 e6] at hs
 cases hs
theorem Cf3 (L:List Nat):∀ (f:Nat) (fi:Bool) (on:List Bool) (i:Nat) (e:Int × Int),Cy5 L f fi on i= .inl e→e.2≠0
 |0,fi,on,i,e,h=>by
  rw [Cy5] at h;injection h with h
  rw [← h];show (4:Int)≠0
  decide
 |f+1,fi,on,i,e,h=>by
  rw [Cy5] at h
  by_cases hg:fi=true∨L.length≤i∨L.getD i 0≠93
  ·rw [Ek1 hg] at h
   cases hs:Ac8 L on i with
   |inl e'=>rw [hs] at h;injection h with h;rw [← h];exact Bn9 L on i e' hs
   |inr x=>obtain ⟨on2,i2⟩:=x;rw [hs] at h;exact Cf3 L f false on2 i2 e h
  ·rw [Ek0 hg] at h;cases h
theorem Cy6 (L:List Nat) (at_:Nat):GoodP L at_ (Ap3 L at_).2:=by
 unfold Ap3;simp only []
 cases hr:Cy5 L (L.length+2) true (List.replicate 256 false) (at_+1+if Dy4 L at_=true then 1 else 0) with
 |inl e=>exact fun h=>absurd h (Cf3 L _ _ _ _ e hr)
 |inr x=>
  obtain ⟨on,i⟩:=x;have:=Dh8 L _ _ _ _ _ _ hr;exact fun _=>⟨i+1,by show (i:Int)+1=_;omega,by omega,by rcases this.2 with h|h;omega;omega⟩
theorem Az3 {L:List Nat} {at_:Nat} {t:RTk} {e:Int × Int} (h:GoodP L at_ e):GoodP L at_ (Cf2 L t e).2:=by
 unfold Cf2
 by_cases h1:e.2≠0
 ·rw [Ek1 h1];exact h
 rw [Ek0 h1];obtain ⟨j,h2,h3,h4⟩:=h (by simpa using h1);obtain ⟨e1,e2⟩:=e;simp only [] at h2;subst h2;simp only [Ek9]
 by_cases h5:j<L.length∧L.getD j 0=63
 ·rw [Ek1 h5];exact fun _=>⟨j+1,rfl,by omega,by omega⟩
 ·rw [Ek0 h5];exact fun _=>⟨j,rfl,by omega,by omega⟩
theorem Av0 {L:List Nat} {at_:Nat} (m n:Int) {i:Nat} (h:at_≤i):GoodP L at_ (L9 L m n i).2.2:=by
 unfold L9
 by_cases h1:L.length≤i∨L.getD i 0≠125
 ·rw [Ek1 h1];exact Ad1 (by decide)
 ·rw [Ek0 h1];have:=Eu0.1 h1;exact fun _=>⟨i+1,by show (i:Int)+1=_;omega,by omega,by omega⟩
theorem Cp6 (L:List Nat) (hL:∀ b∈L,b<256) (at_:Nat):GoodP L at_ (K0 L at_).2.2:=by
 obtain ⟨_,_,i,hi,hi1,hi2⟩:=S8 L hL at_;unfold K0;simp only [];generalize I9 L at_=a at*;obtain ⟨m,p,e⟩:=a;simp only [] at hi;subst hi;simp only [Ek9]
 by_cases h1:e≠0
 ·rw [Ek1 h1];exact Ad1 h1
 rw [Ek0 h1]
 by_cases h2:i<L.length∧L.getD i 0=44
 ·rw [Ek1 h2]
  by_cases h3:L.length≤i+1∨L.getD (i+1) 0≠125
  ·rw [Ek1 h3];obtain ⟨_,_,k,hk,hk1,hk2⟩:=S8 L hL (i+1);generalize I9 L (i+1)=b at*;obtain ⟨m2,p2,e2⟩:=b;simp only [] at hk;subst hk;simp only [Ek9]
   by_cases h4:e2≠0
   ·rw [Ek1 h4];exact Ad1 h4
   rw [Ek0 h4]
   by_cases h5:m2<m
   ·rw [Ek1 h5];exact Ad1 (by decide)
   rw [Ek0 h5];exact Av0 m m2 (by omega)
  ·rw [Ek0 h3];exact Av0 m (-1) (by omega)
 ·rw [Ek0 h2];exact Av0 m m (by omega)
theorem GoodP.low {L:List Nat} {a b:Nat} {e:Int × Int} (h:GoodP L b e) (hab:a≤b):GoodP L a e:=fun h'=>by
 obtain ⟨j,h1,h2,h3⟩:=h h';exact ⟨j,h1,by omega,h3⟩
theorem Ck8 (L:List Nat) (hL:∀ b∈L,b<256) (at_:Nat) (h:at_<L.length):GoodP L at_ (Cg6 L at_).2:=by
 have h1:GoodP L at_ ((at_:Int)+1,0):=GoodP.one h;unfold Cg6;simp only [];generalize L.getD at_ 0=c
 by_cases c1:c=92
 ·rw [Ek1 c1];exact Ee2 L at_
 rw [Ek0 c1]
 by_cases c2:c=91
 ·rw [Ek1 c2];exact Cy6 L at_
 rw [Ek0 c2]
 by_cases c3:c=40
 ·rw [Ek1 c3]
  by_cases d1:at_+1<L.length∧L.getD (at_+1) 0=63
  ·rw [Ek1 d1]
   by_cases d2:L.length≤at_+2∨L.getD (at_+2) 0≠58
   ·rw [Ek1 d2];exact Ad1 (by decide)
   ·rw [Ek0 d2];have:=Eu0.1 d2;exact fun _=>⟨at_+3,by show (at_:Int)+3=_;omega,by omega,by omega⟩
  ·rw [Ek0 d1];exact h1
 rw [Ek0 c3]
 by_cases c4:c=41
 ·rw [Ek1 c4];exact h1
 rw [Ek0 c4]
 by_cases c5:c=124
 ·rw [Ek1 c5];exact h1
 rw [Ek0 c5]
 by_cases c6:c=46
 ·rw [Ek1 c6];exact h1
 rw [Ek0 c6]
 by_cases c7:c=94∨c=36
 ·rw [Ek1 c7];exact Ad1 (by decide)
 rw [Ek0 c7]
 by_cases c8:c=93∨c=125
 ·rw [Ek1 c8];exact Ad1 (by decide)
 rw [Ek0 c8]
 by_cases c9:c∉B6 Eg5
 ·rw [Ek1 c9];exact h1
 rw [Ek0 c9]
 by_cases e1:c=43
 ·rw [Ek1 e1];exact Az3 h1
 rw [Ek0 e1]
 by_cases e2:c=63
 ·rw [Ek1 e2];exact Az3 h1
 rw [Ek0 e2]
 by_cases e3:c=123
 ·rw [Ek1 e3];exact Az3 ((Cp6 L hL (at_+1)).low (by omega))
 rw [Ek0 e3];exact Az3 h1
def V4 (l:List RTk):List Value:=l.flatMap Av7
theorem By9 (l:List RTk) (t:RTk):V4 (l++[t])=V4 l++Av7 t:=by simp [V4]
theorem rscan_c (s:ByteArray) (hs:s.size≤1000) (w:World):Calls P 118 #[.string s] w (Ret fun u w'=>Chg [] w w'∧∃ A c,u= .tuple #[.slice A (K2 (B6 s)).1.length c,.int .i64 (K2 (B6 s)).2.1,.int .i64 (K2 (B6 s)).2.2]∧Rd (FR w.heap.size w'.heap.size []) w' 10 A (K2 (B6 s)).1.length (V4 (K2 (B6 s)).1)):=by
 have hC:=A8 [] w;have hsl:=E5 s;have hlt:=R5 s;have hr:Z1 (B6 s) ((B6 s).length+1) 0 []=K2 (B6 s):=rfl;generalize K2 (B6 s)=r at*
 refine D4 Tryz.func118 J J (Qd (Zc 3 J (Qd (Zc 1 J (Qa (Qd (Zc 1 J (B2 (D8 (σ:=Nat × Nat × List RTk × Option Addr × Nat) (fun (f,at_,l,A,c)=>[(0,.string s),(5,.slice A l.length c),(6,.int .i64 at_)]) (fun (f,at_,l,A,c) wr=>Chg [] w wr∧Own wr w.heap.size 231 10 A l.length c (V4 l)∧Z1 (B6 s) f at_ l=r∧(B6 s).length<at_+f∧at_≤(B6 s).length∧l.length≤at_) (fun (f,at_,l,A,c) wr=>f) ((B6 s).length+1,0,[],none,0) (sb J) ?_ ?_)))))))))
 ·exact ⟨hC,Own.nil _ _ _ _,hr,by omega,by omega,by simp⟩
 rintro ⟨f,at_,l,A,c⟩ w9 ⟨hC,hO,hN,hf,hat,hll⟩;obtain ⟨f,rfl⟩:∃ g,f=g+1:=⟨f - 1,by omega⟩;have hOb:=hO.blk;rw [Z1] at hN
 try have hzw:=hC.size
 refine Qa (Qd (Z 2 J (C9 J (E9 Tryz.underlying9 J) (Zc 1 J (A4 J (fun h1=>?_) (fun h1=>?_))))))
 ·try simp at h1
  have hin:at_<s.size:=by omega
  rw [Ek1 (by omega)] at hN;simp only [] at hN;have hg:=Ck8 (B6 s) hlt at_ (by omega);refine A7 (B2 (Qd (Z 2 J (Ca fb145 J (rone_c s hs at_ hin _) ?_))));rintro _ w1 ⟨hx1,rfl⟩;have hz1:=hx1.size;generalize Cg6 (B6 s) at_=x at*;obtain ⟨x,p,e⟩:=x;refine Z 3 J (B5 J (B8 Cs1 J) ?_);intro b2 w2 hb2 hs2 hx2 hB2;refine B5 J (B8 J3 J) ?_;intro b3 w3 hb3 hs3 hx3 hB3;have hO:=hO.u ((hx1.s0 hx2).s0 hx3);have hB2:=hB2.u hx3;refine Pe V9 J ‹_› J J ?_;intro w4 hs4 hx4 hB2;have hO:=(by exact hO.q hx4 (by intro x hx;have hx:=Ek3.1 hx;right;intro h;have:=hOb x (by rw [h];exact Ek3.2 J);omega));have hB3:=hB3.q hx4 (by simp;omega);refine Pe G5 J ‹_› J J ?_;intro w5 hs5 hx5 hB3;have hC:=hC.step ((((hx1.j hx2).j hx3).j hx4).j hx5) (by simp<;>omega);have hO:=(by exact hO.q hx5 (by intro x hx;have hx:=Ek3.1 hx;right;intro h;have:=hOb x (by rw [h];exact Ek3.2 J);omega));have hB2:=hB2.q hx5 (by simp;omega);refine Qc (Qa (Qd (Fa Ac7 J (Lb o3 J ‹_› (by rfl) ?_))))
  refine Zc 1 J (A4 J (fun e1=>?_) (fun e1=>?_))
  ·try simp at e1
   rw [Ek1 e1] at hN;subst hN;refine Qa (C8 (S:=[]) 6 [(0,0),(0,1),(0,2),(0,3),(0,4),(0,5),(2,6)] mo (by kernel_rfl) ?_);intro w6 hx6 hh6;have hC:=hC.s0 hx6;have hB3:=hB3.u hx6;refine Fa G4 J (D6 J (B3 o3 J ‹_› (by simp;done) (by rfl)) ?_);refine Fa Ac7 J (D6 J (B3 o3 J ‹_› (by simp;done) (by rfl)) ?_);exact Zc 3 J (A6 (O9 J J J J ⟨hC,none,0,rfl,Rd.nil _ _ _ _⟩))
  ·try simp at e1
   have e1':e=0:=by simpa using e1
   subst e1';obtain ⟨j,hj,hj1,hj2⟩:=hg rfl;simp only [] at hj;subst hj;rw [Ek0 (by simp)] at hN;simp only [Ek9] at hN;refine A7 (Qd (Fa G4 J (Lb o3 J ‹_› (by rfl) ?_)));refine Fa Cd1 J (Pe sz3 J ‹_› J J ?_);intro w7 hs7 hx7 hB2;have hO:=(by exact hO.q hx7 (by intro x hx;have hx:=Ek3.1 hx;right;intro h;have:=hOb x (by rw [h];exact Ek3.2 J);omega));refine Qc (Qd (Z 1 J (La K4 J ‹_› J J ?_)));refine B5 J (B7 Am2 Tryz.underlying187 Cs1 J J J (by rfl)) ?_;intro b8 w8 hb8 hs8 hx8 hB8;have hC:=hC.step (hx7.j hx8) (by simp<;>omega);have hO:=hO.u hx8;have hB3:=hB3.q (hx7.j hx8) (by simp<;>omega);refine G1 J el187 J J hO (Blk.rd (F:=fun _=>True) ‹_› J trivial) (by rfl) (by omega) (by omega) ?_;intro A' c' w9 hO9 hx9 hA';have hC:=hC.step hx9 (by intro x h;have:=hOb x h;exact .inr (by omega));have hB3:=hB3.q hx9 (by intro h;have:=hOb _ h;omega)
   replace hO:=hO9
   refine Zc 1 J (Qb (Fa G4 J (Lb o3 J ‹_› (by rfl) ?_)));refine Zc 1 J ⟨(f,j,l++[{ x with till:=(j:Int) }],A',c'),⟨rfl,(R0 J (by rw [Ek5];rfl)),rfl,trivial⟩,?_,?_⟩;refine ⟨hC,by rw [Ek5,By9];exact hO,hN,by omega,by omega,by simp;omega⟩;show f<f+1;omega
 ·try simp at h1
  rw [Ek0 (by omega)] at hN;subst hN;exact Xb (Qd (Z 2 J (Ln Tryz.underlying187 J (Zc 3 J (A6 (O9 J J J J ⟨hC,A,c,rfl,hO.rd (fun x h1 h2=>⟨h1,h2,by simp⟩)⟩))))))
end Go.Clt
section
namespace Go.Clt
open Go Go.RowKit
def SameE (r:Nat × Int × Int) (q:Nat × Ps):Prop:=r.2.2=0→q.2.e=0→r.1=q.1∧r.2.1=(q.2.i:Int)
theorem Ci5:∀ c,c<256→decide (c∈B6 Dk7)=decide (0≤Be5 Aw2 c):=by decide+kernel
theorem cls_same:∀ c,c<256→decide (c∈B6 clsT)=decide (0≤Be5 Cm7 c):=by decide+kernel
theorem At7 (l:List Bool) (j:Nat):(onS l).testBit j=(decide (j<256) && l.getD j false):=by
 unfold onS;rw [Ai1];unfold onL;rw [El4];simp only [Em0,Er4,Em9,Ek6]
theorem smS_bit (l:List (Int × Int)) (neg:Bool) (j:Nat):(smS l neg).testBit j=(decide (j<256) && (inP l j !=neg)):=by
 unfold smS;rw [At7]
 by_cases hj:j<256
 ·unfold smL;simp [Ek2,hj]
 ·rw [El3 hj];rfl
theorem Aw3 (c:Nat) (hc:c<256):smS [((c:Int),(c:Int))] false=F1 [c]:=by
 apply Er9;intro j;rw [smS_bit,Ai1,El4];simp [inP];omega
def hexW (c:Nat):Int:=if c<65 then Be5 decT c else Be5 hexT (c|||32)
theorem hex_same:∀ c,c<256→hexW c=Ak3 c:=by decide+kernel
theorem Cm9:∀ c,c<256→Ak3 c<16:=by decide+kernel
def Dd9 (c:Nat):Option Nat:=
 if c=110 then some (smS [(10,10)] false) else if c=116 then some (smS [(9,9)] false) else if c=114 then some (smS [(13,13)] false) else if c=102 then some (smS [(12,12)] false) else if c=118 then some (smS [(11,11)] false)
 else if c=100∨c=68 then some (smS digs (Aa4 .eql (c:Int) 68)) else if c=119∨c=87 then some (smS wrds (Aa4 .eql (c:Int) 87)) else if c=115∨c=83 then some (smS spcs (Aa4 .eql (c:Int) 83)) else none
theorem Dm4 (c:Nat):Dd9 c=Ak0 c:=by
 unfold Dd9 Ak0;have a1:smS [(10,10)] false=F1 [10]:=Aw3 10 (by decide);have a2:smS [(9,9)] false=F1 [9]:=Aw3 9 (by decide);have a3:smS [(13,13)] false=F1 [13]:=Aw3 13 (by decide);have a4:smS [(12,12)] false=F1 [12]:=Aw3 12 (by decide);have a5:smS [(11,11)] false=F1 [11]:=Aw3 11 (by decide);have b1:smS digs false=Au8:=by decide+kernel
 have b2:smS digs true=Q2 Au8:=by decide+kernel
 have b3:smS wrds false=Dj7:=by decide+kernel
 have b4:smS wrds true=Q2 Dj7:=by decide+kernel
 have b5:smS spcs false=Ci2:=by decide+kernel
 have b6:smS spcs true=Q2 Ci2:=by decide+kernel
 rw [a1,a2,a3,a4,a5]
 by_cases h1:c=110
 ·simp only [Ek1 h1]
 by_cases h2:c=116
 ·simp only [Ek0 h1,Ek1 h2]
 by_cases h3:c=114
 ·simp only [Ek0 h1,Ek0 h2,Ek1 h3]
 by_cases h4:c=102
 ·simp only [Ek0 h1,Ek0 h2,Ek0 h3,Ek1 h4]
 by_cases h5:c=118
 ·simp only [Ek0 h1,Ek0 h2,Ek0 h3,Ek0 h4,Ek1 h5]
 simp only [Ek0 h1,Ek0 h2,Ek0 h3,Ek0 h4,Ek0 h5]
 by_cases h6:c=100
 ·subst h6;simpa [Aa4] using b1
 by_cases h7:c=68
 ·subst h7;simpa [Aa4] using b2
 by_cases h8:c=119
 ·subst h8;simpa [Aa4] using b3
 by_cases h9:c=87
 ·subst h9;simpa [Aa4] using b4
 by_cases h10:c=115
 ·subst h10;simpa [Aa4] using b5
 by_cases h11:c=83
 ·subst h11;simpa [Aa4] using b6
 simp only [h6,h7,h8,h9,h10,h11,or_self,if_false]
theorem Ao3 (s:ByteArray) (i:Nat):(B6 s).getD i 0<256:=Ad9 s ⟨i,0⟩
theorem bit_hi {s j:Nat} (h:L4 s) (hj:¬ j<256):s.testBit j=false:=Nat.testBit_lt_two_pow (Et6 h (Nat.pow_le_pow_right (by decide) (by omega)))
theorem Ca8 (f g:Nat→Bool) (k j:Nat) (hj:j<256):(De4 f g k).getD j false=if j<k then f j else g j:=by
 unfold De4;simp [Ek2,hj]
theorem Dp1 (L:List Nat) (at_:Nat) (hi:¬ L.length≤at_+1) (hs:¬ L.getD (at_+1) 0∈B6 Dk7):
  Co2 L at_=match Dd9 (L.getD (at_+1) 0) with
   |some s=>(s,(at_:Int)+2,0)
   |none=>if L.getD (at_+1) 0=120 then
     (match Au1 L (at_+2) 2 0 with| .inl n=>(smS [((n:Int),(n:Int))] false,(at_:Int)+4,0)| .inr i=>(0,(i:Int),4))
    else if L.getD (at_+1) 0∈B6 unT then (0,(at_:Int),6) else (0,(at_:Int)+1,4):=by
 unfold Co2;rw [Ek0 hi];simp only [Ek0 hs];unfold Dd9;generalize L.getD (at_+1) 0=c
 by_cases h1:c=110
 ·simp only [Ek1 h1]
 by_cases h2:c=116
 ·simp only [Ek0 h1,Ek1 h2]
 by_cases h3:c=114
 ·simp only [Ek0 h1,Ek0 h2,Ek1 h3]
 by_cases h4:c=102
 ·simp only [Ek0 h1,Ek0 h2,Ek0 h3,Ek1 h4]
 by_cases h5:c=118
 ·simp only [Ek0 h1,Ek0 h2,Ek0 h3,Ek0 h4,Ek1 h5]
 by_cases h6:c=100∨c=68
 ·simp only [Ek0 h1,Ek0 h2,Ek0 h3,Ek0 h4,Ek0 h5,Ek1 h6]
 by_cases h7:c=119∨c=87
 ·simp only [Ek0 h1,Ek0 h2,Ek0 h3,Ek0 h4,Ek0 h5,Ek0 h6,Ek1 h7]
 by_cases h8:c=115∨c=83
 ·simp only [Ek0 h1,Ek0 h2,Ek0 h3,Ek0 h4,Ek0 h5,Ek0 h6,Ek0 h7,Ek1 h8]
 simp only [Ek0 h1,Ek0 h2,Ek0 h3,Ek0 h4,Ek0 h5,Ek0 h6,Ek0 h7,Ek0 h8]
 rfl
theorem Df2 (s:ByteArray) {p:Ps} (hp:p.e=0) (h:(Bf7 (B6 s) p).2.e=0):
  p.i<(B6 s).length∧0≤Ak3 ((B6 s).getD p.i 0)∧Bf7 (B6 s) p=((Ak3 ((B6 s).getD p.i 0)).toNat,p.go 1):=by
 have hv:hexV (B6 s) p=Ak3 ((B6 s).getD p.i 0):=hex_same _ (Ao3 s _);unfold Bf7 at h ⊢
 by_cases hb:Cc1 (B6 s) p=true
 ·rw [Ek1 hb];unfold Cc1 at hb;rw [hv] at hb ⊢;simp only [Ek6,Em0] at hb;exact ⟨hb.1,hb.2,rfl⟩
 ·rw [Ek0 hb] at h;exact absurd h (Aa3 (by decide))
theorem Dg3 (s:ByteArray) {p:Ps} (hp:p.e=0):SameE (Co2 (B6 s) p.i) (J8 (B6 s) p):=by
 intro hr hq;have hc:=Ao3 s (p.i+1);unfold J8 at hq ⊢;simp only [H7,show (p.go 1).i=p.i+1 from rfl] at hq ⊢
 by_cases hi:p.i+1<(B6 s).length
 ·rw [Ek0 (by omega)] at hq ⊢
  by_cases hs:(B6 s).getD (p.i+1) 0∈B6 Dk7
  ·have h2:0≤Be5 Aw2 ((B6 s).getD (p.i+1) 0):=by have:=Ci5 _ hc;rw [El2 hs] at this;exact Eo7 this.symm
   rw [Ek1 h2] at hq ⊢;unfold Co2;rw [Ek0 (by omega)];simp only [Ek1 hs];exact ⟨Aw3 _ hc,by show _=((p.i+1+1:Nat):Int);omega⟩
  ·have h2:¬ 0≤Be5 Aw2 ((B6 s).getD (p.i+1) 0):=by have:=Ci5 _ hc;rw [El3 hs] at this;exact Et7 this.symm
   rw [Ek0 h2] at hq ⊢;rw [Dp1 (B6 s) p.i (by omega) hs,Dm4] at hr ⊢
   cases hn:Ak0 ((B6 s).getD (p.i+1) 0) with
   |some s=>simp only [];exact ⟨trivial,by show _=((p.i+1+1:Nat):Int);omega⟩
   |none=>
    rw [hn] at hr hq;simp only [] at hr hq ⊢
    by_cases hx:(B6 s).getD (p.i+1) 0=120
    ·rw [Ek1 hx] at hr hq ⊢
     by_cases h0:(Bf7 (B6 s) ((p.go 1).go 1)).2.e=0
     ·rw [Ek1 h0] at hq ⊢;obtain ⟨a1,a2,a3⟩:=Df2 s (p:=(p.go 1).go 1) (by exact hp) h0;rw [a3] at hq ⊢;obtain ⟨b1,b2,b3⟩:=Df2 s (p:=((p.go 1).go 1).go 1) (by exact hp) hq;simp only [] at hq ⊢;rw [b3];simp only [Ps.go] at a1 a2 b1 b2 ⊢;rw [Ek1 hx];have s1:=Cm9 _ (Ao3 s (p.i+1+1));have s2:=Cm9 _ (Ao3 s (p.i+1+1+1))
      have hh:Au1 (B6 s) (p.i+2) 2 0= .inl (16*(Ak3 ((B6 s).getD (p.i+1+1) 0)).toNat+(Ak3 ((B6 s).getD (p.i+1+1+1) 0)).toNat):=by
       have e1:p.i+2=p.i+1+1:=by omega
       have e2:p.i+2+1=p.i+1+1+1:=by omega
       unfold Au1;rw [Ek0 (by omega),Ek0 (by rw [e1];omega)];unfold Au1;rw [Ek0 (by omega),Ek0 (by rw [e2];omega)];unfold Au1;rw [e1];simp
      rw [hh];simp only [];rw [Et3 (by omega)];exact ⟨Aw3 _ (by omega),by omega⟩
     ·rw [Ek0 h0] at hq;exact absurd hq h0
    ·rw [Ek0 hx] at hr hq
     split at hq
     ·exact absurd hq (Aa3 (by decide))
     ·exact absurd hq (Aa3 (by decide))
 ·rw [Ek1 (by omega)] at hq;exact absurd hq (Aa3 (by decide))
theorem Cm5 (s:ByteArray) {p:Ps} (hp:p.e=0):SameE (V6 (B6 s) p.i) (F9 (B6 s) p):=by
 intro hr hq;have hc:=Ao3 s p.i;unfold F9 at hq ⊢;unfold V6 at hr ⊢
 by_cases h1:¬ p.i<(B6 s).length∨0≤Be5 Cm7 (H7 (B6 s) p)
 ·rw [Ek1 h1] at hq;exact absurd hq (Aa3 (by decide))
 ·rw [Ek0 h1] at hq ⊢
  have h2:¬ ((B6 s).length≤p.i∨(B6 s).getD p.i 0∈B6 clsT):=by
   intro h
   rcases h with h|h
   ·exact h1 (.inl (by omega))
   ·have:=cls_same _ hc;rw [El2 h] at this;exact h1 (.inr (Eo7 this.symm))
  rw [Ek0 h2] at hr ⊢
  by_cases h3:H7 (B6 s) p=92
  ·have h4:(B6 s).getD p.i 0=92:=h3;rw [Ek1 h3] at hq ⊢;rw [Ek1 h4] at hr ⊢;exact Dg3 s hp hr hq
  ·have h4:¬ (B6 s).getD p.i 0=92:=h3;rw [Ek0 h3] at hq ⊢;rw [Ek0 h4] at hr ⊢;exact ⟨Aw3 _ hc,by show (p.i:Int)+1=((p.i+1:Nat):Int);omega⟩
def Cp9 (s k:Nat):List Nat:=(List.range k).filter fun b=>s.testBit b
theorem Bt5 (s:Nat):∀ k,Ax6 s k=(((Cp9 s k).length:Int),((Cp9 s k).getLast?.map fun b:Nat=>(b:Int)).getD (-1))
 |0=>rfl
 |k+1=>by
  rw [Ab5,Bt5 s k];unfold Cp9 Ck7;rw [Ep7,Eq5]
  by_cases h:s.testBit k=true
  ·simp [h]
  ·simp [h]
theorem Ck6 {s:Nat} (h:0≤Aa0 s):Ag9 s=1∧Aa0 s=(L8 s:Int)∧∀ j,j<256→(s.testBit j=true↔j=L8 s):=by
 unfold Aa0 at h ⊢;rw [Bt5] at h ⊢
 by_cases hc:(((Cp9 s 256).length:Nat):Int)=1
 ·have hc':(Cp9 s 256).length=1:=by omega
  obtain ⟨x,hx⟩:=List.length_eq_one_iff.1 hc'
  have hf:L8 s=x:=by
   unfold L8;rw [← List.head?_filter];show ((Cp9 s 256).head?).getD 0=x;rw [hx];rfl
  refine ⟨hc',?_,?_⟩
  ·simp only [hx,hf];rfl
  ·intro j hj;rw [hf]
   have hm:j∈Cp9 s 256↔s.testBit j=true:=by
    unfold Cp9;rw [Er4,Em9];exact ⟨fun h=>h.2,fun h=>⟨hj,h⟩⟩
   rw [← hm,hx,Ek3]
 ·simp only [Ek0 hc] at h;omega
theorem Dt0 (s t j:Nat):(V8 [s,t]).testBit j=(s.testBit j||t.testBit j):=by
 unfold V8;simp only [Eq1,Eq8,Nat.testBit_or,Nat.zero_testBit,Er3]
theorem Dw3 (a b j:Nat):(Ax3 a b).testBit j=(decide (a≤j) && decide (j≤b)):=by
 unfold Ax3;rw [Ai1,El4];simp only [Em0,List.mem_range',Ek6]
 constructor
 ·rintro ⟨i,hi,rfl⟩;omega
 ·rintro ⟨h1,h2⟩;exact ⟨j - a,by omega,by omega⟩
theorem Ci1 (s:ByteArray) {p:Ps} (hp:p.e=0) {on on':List Bool} {i':Nat} (hon:on.length=256)
  (hr:Ac8 (B6 s) on p.i= .inr (on',i')) (hq:(M7 (B6 s) p).2.e=0):on'.length=256∧onS on'=V8 [onS on,(M7 (B6 s) p).1]∧i'=(M7 (B6 s) p).2.i:=by
 unfold Ac8 at hr;unfold M7 at hq ⊢;simp only [] at hr hq ⊢
 by_cases h1:(V6 (B6 s) p.i).2.2=0
 ·rw [Ek0 (by omega)] at hr
  by_cases h2:(F9 (B6 s) p).2.e=0
  ·obtain ⟨e1,e2⟩:=Cm5 s hp h1 h2;rw [Ek0 (by omega)] at hq ⊢;have e3:(V6 (B6 s) p.i).2.1.toNat=(F9 (B6 s) p).2.i:=by omega
   rw [e3] at hr
   by_cases h3:(B6 s).length≤(F9 (B6 s) p).2.i∨(B6 s).getD (F9 (B6 s) p).2.i 0≠45
   ·have h4:isB (B6 s) (F9 (B6 s) p).2 45=false:=by
     unfold isB
     rcases h3 with h3|h3
     ·rw [El3 (by omega),Bool.false_and]
     ·rw [El3 h3,Bool.and_false]
    rw [Ek1 h3] at hr;rw [Ek1 h4] at hq ⊢;simp only [Sum.inr.injEq,Er8] at hr;obtain ⟨rfl,rfl⟩:=hr;refine ⟨K9 _ _ _,?_,rfl⟩;apply Er9;intro j;rw [Dt0,At7,At7]
    by_cases hj:j<256
    ·unfold orS;rw [← e1];rw [Ca8 _ _ _ _ hj,Ek1 hj,El2 hj];simp
    ·rw [El3 hj,bit_hi (Aq5 s p) hj];rfl
   ·have h4:isB (B6 s) (F9 (B6 s) p).2 45=true:=by
     unfold isB;have g1:(F9 (B6 s) p).2.i<(B6 s).length:=Nat.lt_of_not_le fun h=>h3 (.inl h)
     have g2:(B6 s).getD (F9 (B6 s) p).2.i 0=45:=Decidable.not_not.1 fun h=>h3 (.inr h)
     rw [El2 g1,El2 g2];rfl
    rw [Ek0 h3] at hr;rw [Ek0 (by rw [h4];decide)] at hq ⊢
    by_cases h5:Aa0 (V6 (B6 s) p.i).1<0
    ·rw [Ek1 h5] at hr;cases hr
    ·rw [Ek0 h5] at hr;obtain ⟨c1,c2,c3⟩:=Ck6 (by omega:0≤Aa0 (V6 (B6 s) p.i).1);rw [e1] at c1 c2 c3;rw [Ek0 (by omega)] at hq ⊢;have g3:((F9 (B6 s) p).2.go 1).e=0:=h2
     by_cases h6:(F9 (B6 s) ((F9 (B6 s) p).2.go 1)).2.e=0
     ·have k6:(V6 (B6 s) ((F9 (B6 s) p).2.i+1)).2.2=0:=by
       refine Decidable.byContradiction fun h=>?_
       rw [Ek1 h] at hr;cases hr
      obtain ⟨d1,d2⟩:=Cm5 s g3 k6 h6;rw [Ek0 (by omega)] at hr
      by_cases h7:Aa0 (V6 (B6 s) ((F9 (B6 s) p).2.i+1)).1<0
      ·rw [Ek1 h7] at hr;cases hr
      rw [Ek0 h7] at hr;obtain ⟨f1,f2,f3⟩:=Ck6 (by omega:0≤Aa0 (V6 (B6 s) ((F9 (B6 s) p).2.i+1)).1);change (V6 (B6 s) ((F9 (B6 s) p).2.i+1)).1=_ at d1;rw [d1] at f1 f2 f3;rw [e1,d1,c2,f2] at hr;rw [Ek0 (c:=(F9 (B6 s) ((F9 (B6 s) p).2.go 1)).2.e=0∧Ag9 (F9 (B6 s) ((F9 (B6 s) p).2.go 1)).1≠1) (fun h=>h.2 f1)] at hq ⊢
      by_cases h8:L8 (F9 (B6 s) ((F9 (B6 s) p).2.go 1)).1<L8 (F9 (B6 s) p).1
      ·rw [Ek1 (by omega)] at hr;cases hr
      rw [Ek0 (by omega)] at hr;rw [Ek0 (fun h=>h8 h.2)] at hq ⊢;simp only [Sum.inr.injEq,Er8] at hr;obtain ⟨rfl,rfl⟩:=hr
      refine ⟨K9 _ _ _,?_,?_⟩
      ·apply Er9;intro j;rw [Dt0,At7,At7,Dw3];have hlt:=Ap0 (F9 (B6 s) ((F9 (B6 s) p).2.go 1)).1
       by_cases hj:j<256
       ·unfold Bq8 orS;rw [Ca8 _ _ _ _ hj,Ca8 _ _ _ _ hj,Ek1 hj,El2 hj,El4];have hc3:=c3 j hj;simp only [Ek9,Eu5,Bool.or_eq_true,Ek6,Em0]
        split
        ·simp only [Bool.or_eq_true,Em0]
         constructor
         ·rintro (h|h|h)
          ·exact .inr ⟨h,by omega⟩
          ·exact .inl h
          ·have:=hc3.1 h;exact .inr ⟨by omega,by omega⟩
         ·rintro (h|h)
          ·exact .inr (.inl h)
          ·exact .inl h.1
        ·simp only [Bool.or_eq_true]
         constructor
         ·rintro (h|h)
          ·exact .inl h
          ·have:=hc3.1 h;exact .inr ⟨by omega,by omega⟩
         ·rintro (h|h)
          ·exact .inl h
          ·omega
       ·rw [El3 hj,Bool.false_and,Bool.false_and,Er3,El3 (p:=j≤_) (by omega),Bool.and_false]
      ·change (V6 (B6 s) ((F9 (B6 s) p).2.i+1)).2.1=_ at d2;rw [d2];rfl
     ·rw [Ek0 (c:=(F9 (B6 s) ((F9 (B6 s) p).2.go 1)).2.e=0∧Ag9 (F9 (B6 s) ((F9 (B6 s) p).2.go 1)).1≠1) (fun h=>h6 h.1)] at hq;rw [Ek0 (fun h=>h6 h.1)] at hq;exact absurd hq h6
  ·rw [Ek1 h2] at hq;exact absurd hq h2
 ·rw [Ek1 h1] at hr
  cases hr
theorem Bo0 (s:ByteArray):∀ (f g:Nat) (on:List Bool) (p:Ps) (on':List Bool) (i':Nat),p.e=0→p.i≤(B6 s).length→(B6 s).length+1≤p.i+f→on.length=256→
  Cy5 (B6 s) g false on p.i= .inr (on',i')→(R3 (B6 s) f (onS on) p).2.e=0→on'.length=256∧onS on'=(R3 (B6 s) f (onS on) p).1∧i'+1=(R3 (B6 s) f (onS on) p).2.i
 |0,g,on,p,on',i',hp,hi,hf,hon,hr,hq=>by omega
 |f+1,0,on,p,on',i',hp,hi,hf,hon,hr,hq=>by cases hr
 |f+1,g+1,on,p,on',i',hp,hi,hf,hon,hr,hq=>by
  unfold R3 at hq ⊢;unfold Cy5 at hr;rw [Ek0 (by omega)] at hq ⊢
  by_cases h1:false=true∨(B6 s).length≤p.i∨(B6 s).getD p.i 0≠93
  ·rw [Ek1 h1] at hr
   have h2:¬ isB (B6 s) p 93=true:=by
    rw [Aa2];rintro ⟨a,b⟩
    rcases h1 with h1|h1|h1
    ·cases h1
    ·omega
    ·exact h1 b
   rw [Ek0 h2] at hq ⊢
   cases hc:Ac8 (B6 s) on p.i with
   |inl e=>rw [hc] at hr;cases hr
   |inr x=>
    rw [hc] at hr;obtain ⟨on1,i1⟩:=x
    have h3:(M7 (B6 s) p).2.e=0:=by
     refine Decidable.byContradiction fun h=>?_
     simp only [] at hq
     cases f with
     |zero=>exact h hq
     |succ f=>unfold R3 at hq;rw [Ek1 h] at hq;exact h hq
    obtain ⟨k1,k2,k3⟩:=Ci1 s hp hon hc h3;have hfi:=X8 hi;have:=hfi.adv h3;simp only [] at hr hq ⊢;rw [← k2] at hq ⊢;rw [k3] at hr;exact Bo0 s f g on1 _ on' i' h3 hfi.le (by omega) k1 hr hq
  ·rw [Ek0 h1] at hr;simp only [Sum.inr.injEq,Er8] at hr;obtain ⟨rfl,rfl⟩:=hr
   have h2:isB (B6 s) p 93=true:=by
    rw [Aa2];exact ⟨Nat.lt_of_not_le fun h=>h1 (.inr (.inl h)),Decidable.not_not.1 fun h=>h1 (.inr (.inr h))⟩
   rw [Ek1 h2] at hq ⊢;exact ⟨hon,rfl,rfl⟩
theorem Dq1 (s:ByteArray) {p:Ps} (hp:p.e=0) (hi:p.i<(B6 s).length):SameE (Ap3 (B6 s) p.i) (Ae4 (B6 s) p):=by
 intro hr hq;unfold Ae4 at hq ⊢;unfold Ap3 at hr ⊢;simp only [] at hr hq ⊢
 have hn:isB (B6 s) (p.go 1) 94=Dy4 (B6 s) p.i:=by
  unfold Dy4;rw [El4,Aa2,Em0];exact Iff.rfl
 have hi1:(isS (B6 s) (p.go 1) 94).i=p.i+1+if Dy4 (B6 s) p.i then 1 else 0:=by
  unfold isS;rw [hn]
  cases Dy4 (B6 s) p.i<;>rfl
 have he1:(isS (B6 s) (p.go 1) 94).e=0:=by unfold isS;split<;>exact hp
 have hf1:=Bg8 (L:=B6 s) (b:=94) (p:=p.go 1) (by exact hi);rw [hn];rw [← hi1] at hr ⊢;generalize isS (B6 s) (p.go 1) 94=q at*;unfold Cy5 at hr ⊢;rw [Ek1 (.inl J)] at hr ⊢
 cases hc:Ac8 (B6 s) (List.replicate 256 false) q.i with
 |inl e=>
  rw [hc] at hr;simp only [] at hr;exact absurd hr (Bn9 _ _ _ e hc)
 |inr x=>
  obtain ⟨on1,i1⟩:=x;rw [hc] at hr;simp only [] at hr ⊢
  have h3:(M7 (B6 s) q).2.e=0:=by
   refine Decidable.byContradiction fun h=>?_
   unfold R3 at hq;rw [Ek1 h] at hq;exact h hq
  obtain ⟨k1,k2,k3⟩:=Ci1 s he1 (by simp) hc h3;have hz:onS (List.replicate 256 false)=0:=by decide+kernel
  have hu:V8 [onS (List.replicate 256 false),(M7 (B6 s) q).1]=(M7 (B6 s) q).1:=by rw [hz];unfold V8;simp
  rw [hu] at k2;have hfi:=X8 hf1.le;rw [k3] at hr ⊢;rw [← k2] at hq ⊢
  cases hcl:Cy5 (B6 s) ((B6 s).length+1) false on1 (M7 (B6 s) q).2.i with
  |inl e=>
   rw [hcl] at hr;exact absurd hr (Cf3 (B6 s) _ _ _ _ e hcl)
  |inr y=>
   obtain ⟨on',i'⟩:=y;obtain ⟨m1,m2,m3⟩:=Bo0 s _ _ on1 _ on' i' h3 hfi.le (by omega) k1 hcl hq;simp only [];refine ⟨?_,by omega⟩;rw [← m2]
   cases Dy4 (B6 s) p.i
   ·rfl
   ·simp only [if_true];apply Er9;intro j;have hok:L4 (onS on'):=Aq1 _ fun b hb=>Em9.1 (Er4.1 hb).1
    rw [At7,Bs3 hok,At7]
    by_cases hj:j<256
    ·unfold Dd5;rw [Ca8 _ _ _ _ hj,Ek1 hj,El2 hj];rfl
    ·rw [El3 hj];rfl
end Go.Clt
end
section
namespace Go.Clt
open Go Go.RowKit
theorem Dg9:∀ c,c<256→(decide (0≤Ak3 c∧c≤57)=decide (48≤c∧c≤57))∧(48≤c∧c≤57→Ak3 c=(c:Int) - 48):=by decide+kernel
theorem Dh1 (s:ByteArray) (p:Ps):Ee8 (B6 s) p.i↔R9 (B6 s) p=true:=by
 have:=(Dg9 _ (Ao3 s p.i)).1;unfold Ee8 R9 H7;rw [decide_eq_decide] at this;simp only [Ek6,Em0]
 constructor
 ·rintro ⟨a,b⟩;exact ⟨⟨a,(this.1 b).1⟩,(this.1 b).2⟩
 ·rintro ⟨⟨a,b⟩,c⟩;exact ⟨a,this.2 ⟨b,c⟩⟩
theorem Cl0 (s:ByteArray):∀ (g f:Nat) (m:Int) (n:Nat) (p:Ps),p.e=0→(B6 s).length≤p.i+f→(B6 s).length≤p.i+g→0≤m→m≤100000→(n:Int)=min m 1001→
  (N1 (B6 s) g n p).2=⟨(Ca3 (B6 s) f m p.i).2,0⟩∧((N1 (B6 s) g n p).1:Int)=min (Ca3 (B6 s) f m p.i).1 1001
 |0,f,m,n,p,hp,hf,hg,h0,h1,hn=>by
  have hd:¬ Ee8 (B6 s) p.i:=fun h=>by have:=h.1;omega
  rw [An6 hd];exact ⟨by show p=_;rw [← hp],hn⟩
 |g+1,f,m,n,p,hp,hf,hg,h0,h1,hn=>by
  by_cases hd:Ee8 (B6 s) p.i
  ·have hd2:=(Dh1 s p).1 hd;have hl:=hd.1;obtain ⟨f',rfl⟩:∃ f',f=f'+1:=⟨f - 1,by omega⟩;unfold N1;rw [Ca3,Ek1 hd,Ek1 ⟨hp,hd2⟩]
   have hc:48≤(B6 s).getD p.i 0∧(B6 s).getD p.i 0≤57:=by
    unfold R9 H7 at hd2;simp only [Ek6,Em0] at hd2;exact ⟨hd2.1.2,hd2.2⟩
   have hh:=(Dg9 _ (Ao3 s p.i)).2 hc;rw [hh];unfold H7;exact Cl0 s g f' _ _ (p.go 1) hp (by show _≤p.i+1+f';omega) (by show _≤p.i+1+g;omega) (by omega) (by omega) (by omega)
  ·have hd2:¬ R9 (B6 s) p=true:=fun h=>hd ((Dh1 s p).2 h)
   unfold N1;rw [An6 hd,Ek0 fun h=>hd2 h.2];exact ⟨by show p=_;rw [← hp],hn⟩
theorem Bk2 (s:ByteArray) {p:Ps} (hp:p.e=0) (hr:(I9 (B6 s) p.i).2.2=0) (hq:(H9 (B6 s) p).2.e=0):
  (I9 (B6 s) p.i).1=((H9 (B6 s) p).1:Int)∧(I9 (B6 s) p.i).2.1=((H9 (B6 s) p).2.i:Int):=by
 unfold H9 at hq ⊢;unfold I9 at hr ⊢;simp only [] at hr hq ⊢
 by_cases hd:R9 (B6 s) p=true
 ·rw [Ek1 hd] at hq ⊢;obtain ⟨k1,k2⟩:=Cl0 s ((B6 s).length+1) ((B6 s).length - p.i) 0 0 p hp (by omega) (by omega) (by omega) (by omega) rfl;generalize N1 (B6 s) ((B6 s).length+1) 0 p=x at*;generalize Ca3 (B6 s) ((B6 s).length - p.i) 0 p.i=y at*
  by_cases h1:1000<x.1
  ·rw [Ek1 h1] at hq;exact absurd hq (Aa3 (by decide))
  ·rw [Ek0 h1] at hq ⊢
   by_cases h2:y.2=p.i
   ·rw [Ek1 h2] at hr;exact absurd hr (by show (4:Int)≠0;decide)
   ·rw [Ek0 h2] at hr ⊢
    by_cases h3:1000<y.1
    ·rw [Ek1 h3] at hr;exact absurd hr (by show (5:Int)≠0;decide)
    ·rw [Ek0 h3];refine ⟨by show y.1=_;omega,?_⟩;show (y.2:Int)=_;rw [k1]
 ·rw [Ek0 hd] at hq;have hb:(p.fail p.i 4).e≠0:=Aa3 (by decide)
  have hl:N1 (B6 s) ((B6 s).length+1) 0 (p.fail p.i 4)=(0,p.fail p.i 4):=by
   unfold N1;rw [Ek0 fun h=>hb h.1]
  rw [hl] at hq;exact absurd hq hb
theorem isB_at (L:List Nat) (p:Ps) (b:Nat):isB L p b=true↔¬ (L.length≤p.i∨L.getD p.i 0≠b):=by
 rw [Aa2]
 constructor
 ·rintro ⟨a,b⟩ (h|h)
  ·omega
  ·exact h b
 ·intro h;exact ⟨Nat.lt_of_not_le fun x=>h (.inl x),Decidable.not_not.1 fun x=>h (.inr x)⟩
theorem Cz4 (L:List Nat) (m n:Int) (r:Ps) (he:r.e=0) (hr:(L9 L m n r.i).2.2.2=0):
  (L9 L m n r.i).1=m∧(L9 L m n r.i).2.1=n∧isB L r 125=true∧(L9 L m n r.i).2.2.1=((r.go 1).i:Int):=by
 unfold L9 at hr ⊢
 by_cases h:L.length≤r.i∨L.getD r.i 0≠125
 ·rw [Ek1 h] at hr;exact absurd hr (by show (4:Int)≠0;decide)
 ·rw [Ek0 h];exact ⟨rfl,rfl,(isB_at L r 125).2 h,by show (r.i:Int)+1=((r.i+1:Nat):Int);omega⟩
theorem Cp8 (s:ByteArray) {p:Ps} (hp:p.e=0) (hr:(K0 (B6 s) p.i).2.2.2=0) (hq:(L3 (B6 s) (H9 (B6 s) p)).2.e=0):
  K0 (B6 s) p.i=L9 (B6 s) ((H9 (B6 s) p).1:Int) (L3 (B6 s) (H9 (B6 s) p)).1 (L3 (B6 s) (H9 (B6 s) p)).2.i:=by
 have h2:(H9 (B6 s) p).2.e=0:=by
  refine Decidable.byContradiction fun h=>?_
  unfold L3 at hq;rw [Ek0 fun x=>h x.1] at hq;exact h hq
 unfold K0 at hr ⊢;simp only [] at hr ⊢
 by_cases h1:(I9 (B6 s) p.i).2.2=0
 ·rw [Ek0 (by omega)] at hr ⊢;obtain ⟨e1,e2⟩:=Bk2 s hp h1 h2;rw [e2] at hr ⊢;rw [e1] at hr ⊢;simp only [Ek9] at hr ⊢;generalize H9 (B6 s) p=lo at*;unfold L3 at hq ⊢
  by_cases h3:lo.2.i<(B6 s).length∧(B6 s).getD lo.2.i 0=44
  ·have h4:isB (B6 s) lo.2 44=true:=(Aa2 ..).2 h3;rw [Ek1 h3] at hr ⊢;rw [Ek1 (And.intro h2 h4)] at hq ⊢;simp only [] at hq ⊢
   by_cases h5:(B6 s).length≤lo.2.i+1∨(B6 s).getD (lo.2.i+1) 0≠125
   ·have h6:¬ (lo.2.go 1).i<(B6 s).length∨H7 (B6 s) (lo.2.go 1)≠125:=by
     rcases h5 with h|h
     ·exact .inl (by show ¬ lo.2.i+1<_;omega)
     ·exact .inr h
    rw [Ek1 h5] at hr ⊢;rw [Ek1 h6] at hq ⊢;simp only [] at hq ⊢
    have h8:(H9 (B6 s) (lo.2.go 1)).2.e=0:=by
     refine Decidable.byContradiction fun h=>?_
     rw [Ek0 fun x=>h x.1] at hq;exact h hq
    by_cases h7:(I9 (B6 s) (lo.2.i+1)).2.2=0
    ·rw [Ek0 (by omega)] at hr ⊢;obtain ⟨d1,d2⟩:=Bk2 s (p:=lo.2.go 1) h2 h7 h8;change (I9 (B6 s) (lo.2.i+1)).1=_ at d1;change (I9 (B6 s) (lo.2.i+1)).2.1=_ at d2;rw [d1,d2] at hr ⊢;generalize H9 (B6 s) (lo.2.go 1)=hi at*
     by_cases h9:hi.1<lo.1
     ·rw [Ek1 (And.intro h8 h9)] at hq;exact absurd hq (Aa3 (by decide))
     ·rw [Ek0 (show ¬ ((hi.1:Nat):Int)<(lo.1:Int) by omega)];rw [Ek0 (fun h=>h9 h.2)]
      rfl
    ·rw [Ek1 h7] at hr;exact absurd hr h7
   ·have h6:¬ (¬ (lo.2.go 1).i<(B6 s).length∨H7 (B6 s) (lo.2.go 1)≠125):=by
     rintro (h|h)
     ·exact h5 (.inl (by change ¬ lo.2.i+1<_ at h;omega))
     ·exact h5 (.inr h)
    rw [Ek0 h5];rw [Ek0 h6]
    rfl
  ·have h4:¬ isB (B6 s) lo.2 44=true:=fun h=>h3 ((Aa2 ..).1 h)
   rw [Ek0 h3];rw [Ek0 (fun h=>h4 h.2)]
 ·rw [Ek1 h1] at hr;exact absurd hr h1
theorem Cz1 (s:ByteArray) {p:Ps} (hp:p.e=0) (hr:(K0 (B6 s) p.i).2.2.2=0) (hq:(S6 (B6 s) p).2.2.e=0):
  (K0 (B6 s) p.i).1=(S6 (B6 s) p).1∧(K0 (B6 s) p.i).2.1=(S6 (B6 s) p).2.1∧(K0 (B6 s) p.i).2.2.1=((S6 (B6 s) p).2.2.i:Int):=by
 rw [Bx2] at hq ⊢
 have h2:(L3 (B6 s) (H9 (B6 s) p)).2.e=0:=by
  refine Decidable.byContradiction fun h=>?_
  simp only [Ek0 h] at hq;exact h hq
 have hb:=Cp8 s hp hr h2;rw [hb] at hr ⊢;generalize L3 (B6 s) (H9 (B6 s) p)=m at*;obtain ⟨b1,b2,b3,b4⟩:=Cz4 (B6 s) _ _ m.2 h2 hr;rw [b1,b2,b4];simp only [Ek1 h2,Ek1 b3];exact ⟨trivial,trivial,trivial⟩
structure SameT (t:RTk) (u:Tok):Prop where
 kind:t.kind=u.kind
 set:t.set=u.set
 mn:t.mn=u.min
 mx:t.mx=u.max
 lz:t.lz=u.lazy
def SameX (r:RTk × Int × Int) (q:Tok × Ps):Prop:=r.2.2=0→q.2.e=0→SameT r.1 q.1∧r.2.1=(q.2.i:Int)
def m5 (L:List Nat) (p:Ps) (c:Nat):Int × Int × Ps:=if c=43 then (1,-1,p) else if c=63 then (0,1,p) else if c=123 then S6 L p else (0,-1,p)
def cntM (L:List Nat) (m:Int × Int × Ps):Tok × Ps:=
 if m.2.2.e≠0 then ({ kind:=5,min:=m.1,max:=m.2.1 },m.2.2)
 else ({ kind:=5,min:=m.1,max:=m.2.1,lazy:=isB L m.2.2 63 },if isB L (isS L m.2.2 63) 43 then (isS L m.2.2 63).fail (isS L m.2.2 63).i 6 else isS L m.2.2 63)
theorem countP_m (L:List Nat) (p:Ps) (c:Nat):Ak4 L p c=cntM L (m5 L p c):=rfl
theorem Bh1 (L:List Nat) (t:RTk) (e:Int × Int) (p:Ps) (c:Nat)
  (h:e.2=0→(m5 L p c).2.2.e=0→t.kind=5∧t.set=0∧t.lz=false∧t.mn=(m5 L p c).1∧t.mx=(m5 L p c).2.1∧e.1=((m5 L p c).2.2.i:Int)):
  SameX (Cf2 L t e) (Ak4 L p c):=by
 rw [countP_m];generalize m5 L p c=m at*;intro hr hq;obtain ⟨mn,mx,q⟩:=m;unfold cntM at hq ⊢;unfold Cf2 at hr ⊢;simp only [] at h hr hq ⊢
 by_cases h1:e.2=0
 ·rw [Ek0 (by omega)] at hr ⊢
  by_cases h2:q.e=0
  ·rw [Ek0 (c:=q.e≠0) (fun h=>h h2)] at hq ⊢;simp only [] at hq ⊢;obtain ⟨a1,a2,a3,a4,a5,a6⟩:=h h1 h2;rw [a6] at hr ⊢;simp only [Ek9] at hr ⊢
   by_cases h3:q.i<L.length∧L.getD q.i 0=63
   ·have h4:isB L q 63=true:=(Aa2 ..).2 h3;have h5:isS L q 63=q.go 1:=by unfold isS;rw [Ek1 h4]
    rw [h5] at hq ⊢;rw [h4];simp only [Ek1 h3] at hr ⊢
    by_cases h6:isB L (q.go 1) 43=true
    ·rw [Ek1 h6] at hq;exact absurd hq (Aa3 (by decide))
    ·rw [Ek0 h6];exact ⟨⟨a1,a2,a4,a5,rfl⟩,rfl⟩
   ·have h4:isB L q 63=false:=Eu1.2 fun h=>h3 ((Aa2 ..).1 h)
    have h5:isS L q 63=q:=by unfold isS;rw [Ek0 (by rw [h4];decide)]
    rw [h5] at hq ⊢;rw [h4];simp only [Ek0 h3] at hr ⊢
    by_cases h6:isB L q 43=true
    ·rw [Ek1 h6] at hq;exact absurd hq (Aa3 (by decide))
    ·rw [Ek0 h6];exact ⟨⟨a1,a2,a4,a5,a3⟩,rfl⟩
  ·rw [Ek1 h2] at hq;exact absurd hq h2
 ·rw [Ek1 h1] at hr;exact absurd hr h1
theorem Dh7 (c:Nat):c∈B6 Eg5↔(c=42∨c=43∨c=63∨c=123):=by
 have:B6 Eg5=[42,43,63,123]:=by decide+kernel
 rw [this];simp
theorem Ea3:∀ c,c<256→decide (0≤Be5 Ea4 c)=decide (c=93∨c=125):=by decide+kernel
def oneC (L:List Nat) (p:Ps) (c:Nat):Tok × Ps:=
 if c=92 then ({ set:=(J8 L p).1 },(J8 L p).2)
 else if c=91 then ({ set:=(Ae4 L p).1 },(Ae4 L p).2)
 else if c=40 then Aa8 L (p.go 1) p.i
 else if c=41 then ({ kind:=3 },p.go 1)
 else if c=124 then ({ kind:=4 },p.go 1)
 else if c=46 then ({ set:=Q2 (F1 [10]) },p.go 1)
 else if c=42∨c=43∨c=63∨c=123 then Ak4 L (p.go 1) c
 else if c=94∨c=36 then ({ set:=F1 [c] },(p.go 1).fail p.i 6)
 else if 0≤Be5 Ea4 c then ({ set:=F1 [c] },(p.go 1).fail p.i 4)
 else ({ set:=F1 [c] },p.go 1)
theorem oneP_c (L:List Nat) (p:Ps):Ag7 L p=oneC L p (L.getD p.i 0):=rfl
def oneRc (L:List Nat) (at_ c:Nat):RTk × Int × Int:=
 if c=92 then (⟨0,at_,0,(Co2 L at_).1,0,0,false⟩,(Co2 L at_).2)
 else if c=91 then (⟨0,at_,0,(Ap3 L at_).1,0,0,false⟩,(Ap3 L at_).2)
 else if c=40 then
  if at_+1<L.length∧L.getD (at_+1) 0=63 then (⟨2,at_,0,0,0,0,false⟩,if L.length≤at_+2∨L.getD (at_+2) 0≠58 then ((at_:Int),6) else ((at_:Int)+3,0))
  else (⟨1,at_,0,0,0,0,false⟩,((at_:Int)+1,0))
 else if c=41 then (⟨3,at_,0,0,0,0,false⟩,((at_:Int)+1,0))
 else if c=124 then (⟨4,at_,0,0,0,0,false⟩,((at_:Int)+1,0))
 else if c=46 then (⟨0,at_,0,smS [(10,10)] true,0,0,false⟩,((at_:Int)+1,0))
 else if c=94∨c=36 then (⟨0,at_,0,0,0,0,false⟩,(at_:Int),6)
 else if c=93∨c=125 then (⟨0,at_,0,0,0,0,false⟩,(at_:Int),4)
 else if c∉B6 Eg5 then (⟨0,at_,0,smS [((c:Int),(c:Int))] false,0,0,false⟩,((at_:Int)+1,0))
 else if c=43 then Cf2 L ⟨5,at_,0,0,1,-1,false⟩ ((at_:Int)+1,0)
 else if c=63 then Cf2 L ⟨5,at_,0,0,0,1,false⟩ ((at_:Int)+1,0)
 else if c=123 then Cf2 L ⟨5,at_,0,0,(K0 L (at_+1)).1,(K0 L (at_+1)).2.1,false⟩ (K0 L (at_+1)).2.2
 else Cf2 L ⟨5,at_,0,0,0,-1,false⟩ ((at_:Int)+1,0)
theorem oneR_c (L:List Nat) (at_:Nat):Cg6 L at_=oneRc L at_ (L.getD at_ 0):=rfl
theorem one_same (s:ByteArray) {p:Ps} (hp:p.e=0) (hi:p.i<(B6 s).length):SameX (Cg6 (B6 s) p.i) (Ag7 (B6 s) p):=by
 have hc:=Ao3 s p.i;have hz:((p.i:Int)+1)=((p.go 1).i:Int):=by show (p.i:Int)+1=((p.i+1:Nat):Int);omega
 have he:(p.go 1).e=0:=hp;rw [oneP_c,oneR_c];generalize (B6 s).getD p.i 0=c at hc ⊢;unfold oneC oneRc
 by_cases h1:c=92
 ·rw [Ek1 h1,Ek1 h1];intro hr hq;obtain ⟨a,b⟩:=Dg3 s hp hr hq;exact ⟨⟨rfl,a,rfl,rfl,rfl⟩,b⟩
 rw [Ek0 h1,Ek0 h1]
 by_cases h2:c=91
 ·rw [Ek1 h2,Ek1 h2];intro hr hq;obtain ⟨a,b⟩:=Dq1 s hp hi hr hq;exact ⟨⟨rfl,a,rfl,rfl,rfl⟩,b⟩
 rw [Ek0 h2,Ek0 h2]
 by_cases h3:c=40
 ·rw [Ek1 h3,Ek1 h3];unfold Aa8
  by_cases h4:p.i+1<(B6 s).length∧(B6 s).getD (p.i+1) 0=63
  ·have h5:isB (B6 s) (p.go 1) 63=true:=(Aa2 ..).2 h4;rw [Ek1 h4,h5]
   by_cases h6:(B6 s).length≤p.i+2∨(B6 s).getD (p.i+2) 0≠58
   ·rw [Ek1 h6];intro hr;exact absurd hr (by show (6:Int)≠0;decide)
   ·have h7:isB (B6 s) ((p.go 1).go 1) 58=true:=(isB_at ..).2 h6;rw [Ek0 h6,h7];intro hr hq;exact ⟨⟨rfl,rfl,rfl,rfl,rfl⟩,by show (p.i:Int)+3=((p.i+1+2:Nat):Int);omega⟩
  ·have h5:isB (B6 s) (p.go 1) 63=false:=Eu1.2 fun h=>h4 ((Aa2 ..).1 h)
   rw [Ek0 h4,h5];intro hr hq;exact ⟨⟨rfl,rfl,rfl,rfl,rfl⟩,hz⟩
 rw [Ek0 h3,Ek0 h3]
 by_cases h4:c=41
 ·rw [Ek1 h4,Ek1 h4];intro hr hq;exact ⟨⟨rfl,rfl,rfl,rfl,rfl⟩,hz⟩
 rw [Ek0 h4,Ek0 h4]
 by_cases h5:c=124
 ·rw [Ek1 h5,Ek1 h5];intro hr hq;exact ⟨⟨rfl,rfl,rfl,rfl,rfl⟩,hz⟩
 rw [Ek0 h5,Ek0 h5]
 by_cases h6:c=46
 ·rw [Ek1 h6,Ek1 h6];intro hr hq;have:smS [(10,10)] true=Q2 (F1 [10]):=by decide+kernel
  exact ⟨⟨rfl,this,rfl,rfl,rfl⟩,hz⟩
 rw [Ek0 h6,Ek0 h6]
 by_cases h7:c=94∨c=36
 ·rw [Ek1 h7];intro hr;exact absurd hr (by show (6:Int)≠0;decide)
 rw [Ek0 h7]
 by_cases h8:c=93∨c=125
 ·rw [Ek1 h8];intro hr;exact absurd hr (by show (4:Int)≠0;decide)
 rw [Ek0 h8];have h9:¬ 0≤Be5 Ea4 c:=by have:=Ea3 _ hc;rw [El3 h8] at this;exact Et7 this
 by_cases h10:c∈B6 Eg5
 ·rw [Ek0 (fun h=>h h10),Ek1 ((Dh7 _).1 h10)]
  by_cases k1:c=43
  ·rw [Ek1 k1];exact Bh1 _ _ _ _ _ fun _ _=>by unfold m5;rw [Ek1 k1];exact ⟨rfl,rfl,rfl,rfl,rfl,hz⟩
  rw [Ek0 k1]
  by_cases k2:c=63
  ·rw [Ek1 k2];exact Bh1 _ _ _ _ _ fun _ _=>by unfold m5;rw [Ek0 k1,Ek1 k2];exact ⟨rfl,rfl,rfl,rfl,rfl,hz⟩
  rw [Ek0 k2]
  by_cases k3:c=123
  ·rw [Ek1 k3];refine Bh1 _ _ _ _ _ fun h h'=>?_
   unfold m5 at h' ⊢;rw [Ek0 k1,Ek0 k2,Ek1 k3] at h' ⊢;obtain ⟨b1,b2,b3⟩:=Cz1 s (p:=p.go 1) he h h';exact ⟨rfl,rfl,rfl,b1,b2,b3⟩
  ·rw [Ek0 k3];exact Bh1 _ _ _ _ _ fun _ _=>by unfold m5;rw [Ek0 k1,Ek0 k2,Ek0 k3];exact ⟨rfl,rfl,rfl,rfl,rfl,hz⟩
 ·have h11:¬ (c=42∨c=43∨c=63∨c=123):=fun h=>h10 ((Dh7 _).2 h)
  rw [Ek1 h10,Ek0 h11,Ek0 h7,Ek0 h9];intro hr hq;exact ⟨⟨rfl,Aw3 _ hc,rfl,rfl,rfl⟩,hz⟩
inductive SameL:List RTk→List Tok→Prop
 |nil:SameL [] []
 |cons {t u l k}:SameT t u→SameL l k→SameL (t::l) (u::k)
theorem SameL.len {l k} (h:SameL l k):l.length=k.length:=by
 induction h with
 |nil=>rfl
 |cons _ _ ih=>simp [ih]
theorem SameL.app {l k t u} (h:SameL l k) (ht:SameT t u):SameL (l++[t]) (k++[u]):=by
 induction h with
 |nil=>exact .cons ht .nil
 |cons a _ ih=>exact .cons a ih
theorem Bs4 (s:ByteArray):∀ (f g:Nat) (p:Ps) (l:List RTk) (k:List Tok),p.e=0→p.i≤(B6 s).length→(B6 s).length<p.i+f→(B6 s).length<p.i+g→SameL l k→
  (Z1 (B6 s) f p.i l).2.2=0→(Ar6 (B6 s) g p k).2.2=0→SameL (Z1 (B6 s) f p.i l).1 (Ar6 (B6 s) g p k).1
 |0,g,p,l,k,hp,hi,hf,hg,hl,hr,hq=>by omega
 |f+1,0,p,l,k,hp,hi,hf,hg,hl,hr,hq=>by omega
 |f+1,g+1,p,l,k,hp,hi,hf,hg,hl,hr,hq=>by
  unfold Ar6 at hq ⊢;unfold Z1 at hr ⊢
  by_cases h1:p.i<(B6 s).length
  ·simp only [Ek1 h1] at hr hq ⊢
   by_cases h2:(Cg6 (B6 s) p.i).2.2=0
   ·rw [Ek0 (by omega)] at hr ⊢
    by_cases h3:(Ag7 (B6 s) p).2.e=0
    ·rw [Ek0 (by omega)] at hq ⊢;obtain ⟨a,b⟩:=one_same s hp h1 h2 h3;have hfi:=Bk1 h1;have:=hfi.adv h3;rw [b] at hr ⊢;simp only [Ek9] at hr ⊢;exact Bs4 s f g _ _ _ h3 hfi.le (by omega) (by omega) (hl.app ⟨a.kind,a.set,a.mn,a.mx,a.lz⟩) hr hq
    ·rw [Ek1 h3] at hq;exact absurd hq h3
   ·rw [Ek1 h2] at hr;exact absurd hr h2
  ·simp only [Ek0 h1];exact hl
theorem Du8 (s:ByteArray) (hr:(K2 (B6 s)).2.2=0) (hq:(R7 (B6 s)).2.2=0):SameL (K2 (B6 s)).1 (R7 (B6 s)).1:=by
 unfold R7 at hq ⊢
 by_cases h:1048576<(B6 s).length
 ·rw [Ek1 h] at hq;exact absurd hq (by decide)
 ·rw [Ek0 h] at hq ⊢;exact Bs4 s _ _ ⟨0,0⟩ [] [] rfl (El0 _) (by show _<0+_;omega) (by show _<0+_;omega) .nil hr hq
end Go.Clt
end
namespace Go.Clt
open Go Go.RowKit Go.Proofs
theorem Bz0 (t:RTk):(Av7 t).length=10:=rfl
theorem N9 (l:List RTk):∀ (k c:Nat),k<l.length→c<10→(V4 l)[k*10+c]?=(Av7 (l.getD k default))[c]?:=by
 induction l with
 |nil=>intro k c h;simp at h
 |cons t r ih=>
  intro k c h hc
  cases k with
  |zero=>
   show (Av7 t++V4 r)[0*10+c]?=_;rw [Em6 (by rw [Bz0];omega)];simp
  |succ k=>
   have:=ih k c (by simpa using h) hc;show (Av7 t++V4 r)[(k+1)*10+c]?=_;rw [Em2 (by rw [Bz0];omega),Bz0,show (k+1)*10+c - 10=k*10+c by omega,this];simp
def Bo7 (l:List RTk) (at_:Nat) (size:Int):Int:=if at_<l.length then (l.getD at_ default).frm else size
theorem rbegin_c (l:List RTk) (F:Nat→Prop) (A:Option Addr) (c:Nat) (at_:Nat) (size:Int) (hat:at_≤100000) (hl:l.length≤100000) (w:World) (hF:∀ x,F x→x<w.heap.size) (hr:Rd F w 10 A l.length (V4 l)):Calls P 174 #[.slice A l.length c,.int .i64 (at_:Nat),.int .i64 size] w (Ret fun u w'=>u= .int .i64 (Bo7 l at_ size)∧Chg [] w w'):=by
 have hC:=A8 [] w
 refine D4 Tryz.func174 J J (Qd (Zc 1 J (Qa (Qd (Z 2 J (Ln Tryz.underlying187 J (Zc 1 J (A4 J (fun h1=>?_) (fun h1=>?_)))))))))
 ·try simp at h1
  have hin:at_<l.length:=by omega
  obtain ⟨g,off,rfl,hFg,hlt,hcell⟩:=hr.at_ (by omega);have hc1:=hcell (at_*10+1) _ ((N9 l at_ 1 hin (by omega)).trans J);exact Qd (Z 2 J (C9 J (C2 Am2 J J (by omega) (by omega)) (Fa Au4 J (Lc o3 J hc1 (Zc 1 J (A6 (B4 J J ⟨J4 (by unfold Bo7;rw [Ek1 hin]),hC⟩)))))))
 ·try simp at h1
  exact A7 (Qd (Zc 2 J (A6 (B4 J J ⟨J4 (by unfold Bo7;rw [Ek0 (by omega)]),hC⟩))))
def An0 (l:List RTk):Nat→Nat→Nat→Int
 |0,_,_=> -1
 |f+1,i,d=>
  if i<l.length then
   if (l.getD i default).kind=1∨(l.getD i default).kind=2 then An0 l f (i+1) (d+1)
   else if (l.getD i default).kind=3 then (if d=0 then (i:Int) else An0 l f (i+1) (d - 1))
   else An0 l f (i+1) d
  else -1
def Bd5 (l:List RTk) (i:Nat):Int:=An0 l (l.length+1 - i) i 0
theorem rclose_c (l:List RTk) (F:Nat→Prop) (A:Option Addr) (c:Nat) (i0:Nat) (hi0:i0≤100000) (hl:l.length≤100000) (w:World) (hF:∀ x,F x→x<w.heap.size) (hr:Rd F w 10 A l.length (V4 l)):Calls P 173 #[.slice A l.length c,.int .i64 (i0:Nat)] w (Ret fun u w'=>u= .int .i64 (Bd5 l i0)∧Chg [] w w'):=by
 have hC:=A8 [] w;have hR:An0 l (l.length+1 - i0) i0 0=Bd5 l i0:=rfl;generalize Bd5 l i0=r at*
 refine D4 Tryz.func173 J J (Qd (Zc 1 J (Qd (Zc 1 J (Qa (Qd (Zc 2 J (B2 (D8 (σ:=Nat × Nat) (fun (i,d)=>[(0,.slice A l.length c),(5,.int .i64 d),(6,.int .i64 i)]) (fun (i,d) wr=>Chg [] w wr∧Rd F wr 10 A l.length (V4 l)∧An0 l (l.length+1 - i) i d=r∧i≤200000∧d≤i) (fun (i,d) wr=>200000 - i) (i0,0) (sb J) ?_ ?_)))))))))
 ·exact ⟨hC,hr,hR,by omega,by omega⟩
 rintro ⟨i,d⟩ w9 ⟨hC,hr,hR,hi,hd⟩
 refine Qa (Qd (Z 2 J (Ln Tryz.underlying187 J (Zc 1 J (A4 J (fun h1=>?_) (fun h1=>?_))))))
 ·try simp at h1
  have hin:i<l.length:=by omega
  rw [show l.length+1 - i=(l.length+1 - (i+1))+1 by omega,An0,Ek1 hin] at hR;obtain ⟨g,off,rfl,hFg,hlt,hcell⟩:=hr.at_ (by omega);have hc1:=hcell (i*10+0) _ ((N9 l i 0 hin (by omega)).trans J)
  refine A7 (Qa (B2 (Qd (Z 2 J (C9 J (C2 Am2 J J (by omega) (by omega)) (Fa U0 J (Lc o3 J hc1 (Qc (B2 (Qa (Qd (Zc 2 J (A4 J (fun k1=>?_) (fun k1=>?_))))))))))))))
  ·refine A7 (E3 (H3 J k1) ?_);rw [cmpB_eql] at k1;rw [Ek1 (.inl k1)] at hR;refine Qb (Z 1 J (Ad J J (by omega) (Zc 1 J (Qb (Z 1 J (Ad J J (by omega) (Zc 1 J ⟨(i+1,d+1),sb J,?_,?_⟩)))))));exact ⟨hC,hr,hR,by omega,by omega⟩;show 200000 - (i+1)<200000 - i;omega
  ·rw [cmpB_eqlF] at k1
   refine Qb (Zc 2 J (A4 J (fun k2=>?_) (fun k2=>?_)))
   ·rw [cmpB_eql] at k2;rw [Ek1 (.inr k2)] at hR;refine Qb (Z 1 J (Ad J J (by omega) (Zc 1 J (Qb (Z 1 J (Ad J J (by omega) (Zc 1 J ⟨(i+1,d+1),sb J,?_,?_⟩)))))));exact ⟨hC,hr,hR,by omega,by omega⟩;show 200000 - (i+1)<200000 - i;omega
   ·rw [cmpB_eqlF] at k2;rw [Ek0 (Eu0.2 ⟨k1,k2⟩)] at hR
    refine Qd (Zc 2 J (A4 J (fun k3=>?_) (fun k3=>?_)))
    ·rw [cmpB_eql] at k3;rw [Ek1 k3] at hR
     refine Qa (Qd (Zc 2 J (A4 J (fun k4=>?_) (fun k4=>?_))))
     ·try simp at k4
      have k4':d=0:=by omega
      rw [Ek1 k4'] at hR;exact Qd (Zc 2 J (A6 (B4 J J ⟨J4 hR,hC⟩)))
     ·try simp at k4
      have k4':¬ d=0:=by omega
      rw [Ek0 k4'] at hR;refine A7 (Qb (Z 1 J (Su J J (by omega) (Zc 1 J (Qb (Z 1 J (Ad J J (by omega) (Zc 1 J ⟨(i+1,d - 1),⟨rfl,(G2 J (by omega)),rfl,trivial⟩,?_,?_⟩))))))));exact ⟨hC,hr,hR,by omega,by omega⟩;show 200000 - (i+1)<200000 - i;omega
    ·rw [cmpB_eqlF] at k3;rw [Ek0 k3] at hR;refine A7 (Qb (Z 1 J (Ad J J (by omega) (Zc 1 J ⟨(i+1,d),sb J,?_,?_⟩))));exact ⟨hC,hr,hR,by omega,by omega⟩;show 200000 - (i+1)<200000 - i;omega
 ·try simp at h1
  have hX:An0 l (l.length+1 - i) i d= -1:=by
   cases hf:l.length+1 - i with
   |zero=>rfl
   |succ f=>rw [An0,Ek0 (by omega)]
  exact Xb (Qd (Zc 1 J (A6 (B4 J J ⟨J4 (hX.symm.trans hR),hC⟩))))
def Ax1 (l:List RTk) (size:Int):Nat→Nat→Nat→Bool→Int × Int
 |0,_,_,_=>(0,0)
 |f+1,i,d,a=>
  if i<l.length then
   let t:=l.getD i default
   if t.kind=0 then Ax1 l size f (i+1) d true
   else if t.kind=1∨t.kind=2 then (if 200≤d then (t.frm,3) else Ax1 l size f (i+1) (d+1) false)
   else if t.kind=3 then (if d=0 then (t.frm,4) else Ax1 l size f (i+1) (d - 1) true)
   else if t.kind=4 then Ax1 l size f (i+1) d false
   else if a=false then (t.frm,4) else Ax1 l size f (i+1) d false
  else if 0<d then (size,4) else (0,0)
def Bj0 (l:List RTk) (size:Int):Int × Int:=Ax1 l size (l.length+1) 0 0 false
theorem rfirst_c (l:List RTk) (size:Int) (F:Nat→Prop) (A:Option Addr) (c:Nat) (hl:l.length≤100000) (w:World) (hF:∀ x,F x→x<w.heap.size) (hr:Rd F w 10 A l.length (V4 l)):Calls P 119 #[.slice A l.length c,.int .i64 size] w (Ret fun u w'=>Chg [] w w'∧u=endV (Bj0 l size)):=by
 have hC:=A8 [] w;have hR:Ax1 l size (l.length+1 - 0) 0 0 false=Bj0 l size:=rfl;generalize Bj0 l size=r at*;refine D4 Tryz.func119 J J (Qd (B5 J (B8 Bf2 J) ?_));intro b1 w1 hb1 hs1 hx1 hB1;have hC:=hC.s0 hx1;have hr:=hr.u hx1
 refine Qc (Qd (Zc 1 J (Qd (Zc 1 J (Qa (Qd (Zc 1 J (B2 (D8 (σ:=Nat × Nat × Bool) (fun (i,d,a)=>[(0,.slice A l.length c),(1,.int .i64 size),(4,.pointer (some ⟨b1,0,none⟩)),(5,.int .i64 d),(6,.bool a),(7,.int .i64 i)]) (fun (i,d,a) wr=>Chg [] w wr∧Rd F wr 10 A l.length (V4 l)∧Blk wr b1 [.int .i64 0,.int .i64 0] 142∧Ax1 l size (l.length+1 - i) i d a=r∧i≤l.length∧d≤i) (fun (i,d,a) wr=>200000 - i) (0,0,false) (sb J) ?_ ?_)))))))))
 ·exact ⟨hC,hr,hB1,hR,by omega,by omega⟩
 rintro ⟨i,d,a⟩ w9 ⟨hC,hr,hB1,hR,hi,hd⟩
 try have hlB1:=hB1.lt
 refine Qa (Qd (Z 2 J (Ln Tryz.underlying187 J (Zc 1 J (A4 J (fun h1=>?_) (fun h1=>?_))))))
 ·try simp at h1
  have hin:i<l.length:=by omega
  rw [show l.length+1 - i=(l.length+1 - (i+1))+1 by omega,Ax1,Ek1 hin] at hR;simp only [] at hR;obtain ⟨g,off,rfl,hFg,hlt,hcell⟩:=hr.at_ (by omega);refine A7 (Qa (B2 (Qd (Z 2 J (C9 J (C2 Am2 J J (by omega) (by omega)) (C9 J (E8 (vs:=Av7 (l.getD i default)) K4 J (F4 _) (fun j v hj=>by rw [Em3];exact hcell (i*10+j) v (by have hj4:j<10:=(Em5.1 hj).1;rw [N9 l i j hin hj4];exact hj)) J) ?_))))));generalize l.getD i default=t at*;refine B5 J (B8 Cs1 J) ?_;intro b2 w2 hb2 hs2 hx2 hB2;have hr:=hr.u hx2;refine Pe V9 J ‹_› J J ?_;intro w3 hs3 hx3 hB2;have hC:=hC.step (hx2.j hx3) (by simp<;>omega);have hr:=hr.q hx3 (by intro b hb hFb;have:=hF _ hFb;simp at hb;omega);have hB1:=hB1.q (hx2.j hx3) (by simp<;>omega);refine Qc (Qd (Fa U0 J (Lb o3 J ‹_› (by rfl) ?_)))
  refine Qc (B2 (Qd (Zc 2 J (A4 J (fun k0=>?_) (fun k0=>?_)))))
  ·try simp at k0
   rw [Ek1 k0] at hR;refine Qb (Zc 1 J (Qb (Z 1 J (Ad J J (by omega) (Zc 1 J ⟨(i+1,d,true),sb J,?_,?_⟩)))));exact ⟨hC,hr,hB1,hR,by omega,by omega⟩;show 200000 - (i+1)<200000 - i;omega
  ·try simp at k0
   rw [Ek0 k0] at hR
   refine Qa (Qd (Zc 2 J (A4 J (fun k1=>?_) (fun k1=>?_))))
   ·refine A7 (E3 (H3 J k1) ?_);rw [cmpB_eql] at k1;rw [Ek1 (.inl k1)] at hR
    refine Qa (Qd (Zc 2 J (A4 J (fun q1=>?_) (fun q1=>?_))))
    ·try simp at q1
     rw [Ek1 (by omega)] at hR;refine Qd (Fa Au4 J (Lb o3 J ‹_› (by rfl) ?_));refine C9 J (B1 Bf2 Ck2 J (by rfl)) ?_;refine Pe Bh9 J ‹_› J J ?_;intro w4 hs4 hx4 hB1;have hC:=hC.step hx4 (by simp;omega);refine Qc (A6 (D5 J J (A5 Br1 ‹_› J J) ?_));exact ⟨hC,by rw [← hR];rfl⟩
    ·try simp at q1
     rw [Ek0 (by omega)] at hR;refine A7 (Qd (Z 1 J (Ad J J (by omega) (Zc 1 J (Qb (Zc 1 J (Qb (Z 1 J (Ad J J (by omega) (Zc 1 J ⟨(i+1,d+1,false),sb J,?_,?_⟩))))))))));exact ⟨hC,hr,hB1,hR,by omega,by omega⟩;show 200000 - (i+1)<200000 - i;omega
   ·rw [cmpB_eqlF] at k1
    refine Qb (Zc 2 J (A4 J (fun k2=>?_) (fun k2=>?_)))
    ·rw [cmpB_eql] at k2;rw [Ek1 (.inr k2)] at hR
     refine Qa (Qd (Zc 2 J (A4 J (fun q1=>?_) (fun q1=>?_))))
     ·try simp at q1
      rw [Ek1 (by omega)] at hR;refine Qd (Fa Au4 J (Lb o3 J ‹_› (by rfl) ?_));refine C9 J (B1 Bf2 Ck2 J (by rfl)) ?_;refine Pe Bh9 J ‹_› J J ?_;intro w5 hs5 hx5 hB1;have hC:=hC.step hx5 (by simp;omega);refine Qc (A6 (D5 J J (A5 Br1 ‹_› J J) ?_));exact ⟨hC,by rw [← hR];rfl⟩
     ·try simp at q1
      rw [Ek0 (by omega)] at hR;refine A7 (Qd (Z 1 J (Ad J J (by omega) (Zc 1 J (Qb (Zc 1 J (Qb (Z 1 J (Ad J J (by omega) (Zc 1 J ⟨(i+1,d+1,false),sb J,?_,?_⟩))))))))));exact ⟨hC,hr,hB1,hR,by omega,by omega⟩;show 200000 - (i+1)<200000 - i;omega
    ·rw [cmpB_eqlF] at k2;rw [Ek0 (Eu0.2 ⟨k1,k2⟩)] at hR
     refine Qd (Zc 2 J (A4 J (fun k3=>?_) (fun k3=>?_)))
     ·try simp at k3
      rw [Ek1 k3] at hR
      refine Qa (Qd (Zc 2 J (A4 J (fun q1=>?_) (fun q1=>?_))))
      ·try simp at q1
       have q1':d=0:=by omega
       rw [Ek1 q1'] at hR;refine Qd (Fa Au4 J (Lb o3 J ‹_› (by rfl) ?_));refine C9 J (B1 Bf2 Ck2 J (by rfl)) ?_;refine Pe Bh9 J ‹_› J J ?_;intro w6 hs6 hx6 hB1;have hC:=hC.step hx6 (by simp;omega);refine Qc (A6 (D5 J J (A5 Br1 ‹_› J J) ?_));exact ⟨hC,by rw [← hR];rfl⟩
      ·try simp at q1
       have q1':¬ d=0:=by omega
       rw [Ek0 q1'] at hR;refine A7 (Qd (Z 1 J (Su J J (by omega) (Zc 1 J (Qb (Zc 1 J (Qb (Z 1 J (Ad J J (by omega) (Zc 1 J ⟨(i+1,d - 1,true),⟨rfl,rfl,rfl,(G2 J (by omega)),rfl,rfl,trivial⟩,?_,?_⟩))))))))));exact ⟨hC,hr,hB1,hR,by omega,by omega⟩;show 200000 - (i+1)<200000 - i;omega
     ·try simp at k3
      rw [Ek0 k3] at hR
      refine Qd (Zc 2 J (A4 J (fun k4=>?_) (fun k4=>?_)))
      ·try simp at k4
       rw [Ek1 k4] at hR;refine Qb (Zc 1 J (Qb (Z 1 J (Ad J J (by omega) (Zc 1 J ⟨(i+1,d,false),sb J,?_,?_⟩)))));exact ⟨hC,hr,hB1,hR,by omega,by omega⟩;show 200000 - (i+1)<200000 - i;omega
      ·try simp at k4
       rw [Ek0 k4] at hR
       refine Qa (Qd (Zc 2 J (A4 J (fun k5=>?_) (fun k5=>?_))))
       ·have k5':a=false:=by simpa using k5
        rw [Ek1 k5'] at hR;refine Qd (Fa Au4 J (Lb o3 J ‹_› (by rfl) ?_));refine C9 J (B1 Bf2 Ck2 J (by rfl)) ?_;refine Pe Bh9 J ‹_› J J ?_;intro w7 hs7 hx7 hB1;have hC:=hC.step hx7 (by simp;omega);refine Qc (A6 (D5 J J (A5 Br1 ‹_› J J) ?_));exact ⟨hC,by rw [← hR];rfl⟩
       ·have k5':¬ a=false:=by simpa using k5
        rw [Ek0 k5'] at hR;refine A7 (Qb (Zc 1 J (Qb (Z 1 J (Ad J J (by omega) (Zc 1 J ⟨(i+1,d,false),sb J,?_,?_⟩))))));exact ⟨hC,hr,hB1,hR,by omega,by omega⟩;show 200000 - (i+1)<200000 - i;omega
 ·try simp at h1
  have hX:Ax1 l size (l.length+1 - i) i d a=if 0<d then (size,4) else (0,0):=by
   rw [show l.length+1 - i=0+1 by omega,Ax1,Ek0 (by omega)]
  rw [hX] at hR
  refine Xb (Qa (Qd (Zc 2 J (A4 J (fun z1=>?_) (fun z1=>?_)))))
  ·try simp at z1
   rw [Ek1 (by omega)] at hR;refine Qd (Z 1 J (C9 J (B1 Bf2 Ck2 J (by rfl)) ?_));refine Pe Bh9 J ‹_› J J ?_;intro w8 hs8 hx8 hB1;have hC:=hC.step hx8 (by simp;omega);refine Qc (A6 (D5 J J (A5 Br1 ‹_› J J) ?_));exact ⟨hC,by rw [← hR];rfl⟩
  ·try simp at z1
   rw [Ek0 (by omega)] at hR;refine A7 (Qd (C9 J (B1 Bf2 Ck2 J (by rfl)) ?_));refine Pe Bh9 J ‹_› J J ?_;intro w9 hs9 hx9 hB1;have hC:=hC.step hx9 (by simp;omega);refine Qc (A6 (D5 J J (A5 Br1 ‹_› J J) ?_));exact ⟨hC,by rw [← hR];rfl⟩
inductive R8 where
 |node (kind:Int) (set:Nat) (lz:Bool) (l:List R8)
instance:Inhabited R8:=⟨.node 0 0 false []⟩
def n8C (k:Int) (s:Nat) (lz:Bool) (A:Option Addr) (n c:Nat):List Value:=[.int .i64 k]++C4 s++[.bool lz,.slice A n c]
mutual
def N8 (F:Nat→Prop) (w:World):R8→List Value→Prop
 | .node k s lz l,cs=>∃ A c css,cs=n8C k s lz A l.length c∧Rd F w 7 A l.length (List.flatten css)∧N8r F w l css
def N8r (F:Nat→Prop) (w:World):List R8→List (List Value)→Prop
 |[],css=>css=[]
 |t::r,css=>∃ cs rest,css=cs::rest∧N8 F w t cs∧N8r F w r rest
end
mutual
theorem Ei8 {F:Nat→Prop} {w w':World} {S:List Nat} (c:Chg S w w') (hS:∀ b∈S,¬ F b):∀ (t:R8) (cs:List Value),N8 F w t cs→N8 F w' t cs
 | .node k s lz l,cs,h=>by
  rw [N8] at h ⊢;obtain ⟨A,cc,css,h1,h2,h3⟩:=h;exact ⟨A,cc,css,h1,h2.q c hS,Cf7 c hS l css h3⟩
theorem Cf7 {F:Nat→Prop} {w w':World} {S:List Nat} (c:Chg S w w') (hS:∀ b∈S,¬ F b):∀ (l:List R8) (css:List (List Value)),N8r F w l css→N8r F w' l css
 |[],css,h=>by rw [N8r] at h ⊢;exact h
 |t::r,css,h=>by
  rw [N8r] at h ⊢;obtain ⟨cs,rest,h1,h2,h3⟩:=h;exact ⟨cs,rest,h1,Ei8 c hS t cs h2,Cf7 c hS r rest h3⟩
end
mutual
theorem Di8 {F F':Nat→Prop} {w:World} (hF:∀ b,F b→b<w.heap.size→F' b):∀ (t:R8) (cs:List Value),N8 F w t cs→N8 F' w t cs
 | .node k s lz l,cs,h=>by
  rw [N8] at h ⊢;obtain ⟨A,cc,css,h1,h2,h3⟩:=h;exact ⟨A,cc,css,h1,h2.mono hF,Bp3 hF l css h3⟩
theorem Bp3 {F F':Nat→Prop} {w:World} (hF:∀ b,F b→b<w.heap.size→F' b):∀ (l:List R8) (css:List (List Value)),N8r F w l css→N8r F' w l css
 |[],css,h=>by rw [N8r] at h ⊢;exact h
 |t::r,css,h=>by
  rw [N8r] at h ⊢;obtain ⟨cs,rest,h1,h2,h3⟩:=h;exact ⟨cs,rest,h1,Di8 hF t cs h2,Bp3 hF r rest h3⟩
end
theorem N8r.get {F:Nat→Prop} {w:World}:∀ {l:List R8} {css:List (List Value)},N8r F w l css→∀ k,k<l.length→N8 F w (l.getD k default) (css.getD k [])
 |[],css,h,k,hk=>by simp at hk
 |t::r,css,h,0,hk=>by
  rw [N8r] at h;obtain ⟨cs,rest,rfl,h2,_⟩:=h
  simpa using h2
 |t::r,css,h,k+1,hk=>by
  rw [N8r] at h;obtain ⟨cs,rest,rfl,_,h3⟩:=h
  simpa using N8r.get h3 k (by simpa using hk)
theorem N8.len {F:Nat→Prop} {w:World}:∀ {t:R8} {cs:List Value},N8 F w t cs→cs.length=7
 | .node k s lz l,cs,h=>by
  rw [N8] at h;obtain ⟨A,c,css,rfl,_⟩:=h
  rfl
theorem N8.q {F:Nat→Prop} {w w':World} {t:R8} {cs:List Value} {S:List Nat} (h:N8 F w t cs) (c:Chg S w w') (hS:∀ b∈S,¬ F b):N8 F w' t cs:=Ei8 c hS t cs h
theorem N8r.q {F:Nat→Prop} {w w':World} {t:List R8} {cs:List (List Value)} {S:List Nat} (h:N8r F w t cs) (c:Chg S w w') (hS:∀ b∈S,¬ F b):N8r F w' t cs:=Cf7 c hS t cs h
theorem N8.u {F:Nat→Prop} {w w':World} {t:R8} {cs:List Value} (h:N8 F w t cs) (c:Chg [] w w'):N8 F w' t cs:=h.q c (fun b hb=>by cases hb)
theorem N8r.u {F:Nat→Prop} {w w':World} {t:List R8} {cs:List (List Value)} (h:N8r F w t cs) (c:Chg [] w w'):N8r F w' t cs:=h.q c (fun b hb=>by cases hb)
theorem N8.mono {F F':Nat→Prop} {w:World} {t:R8} {cs:List Value} (h:N8 F w t cs) (hF:∀ b,F b→b<w.heap.size→F' b):N8 F' w t cs:=Di8 hF t cs h
theorem N8r.mono {F F':Nat→Prop} {w:World} {t:List R8} {cs:List (List Value)} (h:N8r F w t cs) (hF:∀ b,F b→b<w.heap.size→F' b):N8r F' w t cs:=Bp3 hF t cs h
def Ag6 (k:Int) (a b:R8):R8:=.node k 0 false [a,b]
theorem Am7 (k:Int) (a b:R8) (ca cb:List Value) (F:Nat→Prop) (w:World) (hF:∀ x,F x→x<w.heap.size) (hA:N8 F w a ca) (hBb:N8 F w b cb):Calls P 121 #[.int .i64 k,.agg ca.toArray,.agg cb.toArray] w (Ret fun u w'=>Chg [] w w'∧∃ cs,u= .agg cs.toArray∧N8 (fun x=>F x∨(w.heap.size≤x∧x<w'.heap.size)) w' (Ag6 k a b) cs):=by
 have hC:=A8 [] w;have hla:=hA.len;have hlb:=hBb.len
 obtain ⟨a0,a1,a2,a3,a4,a5,a6,rfl⟩:∃ a0 a1 a2 a3 a4 a5 a6,ca=[a0,a1,a2,a3,a4,a5,a6]:=by
  match ca,hla with
  |[a0,a1,a2,a3,a4,a5,a6],_=>exact ⟨a0,a1,a2,a3,a4,a5,a6,rfl⟩
 obtain ⟨d0,d1,d2,d3,d4,d5,d6,rfl⟩:∃ a0 a1 a2 a3 a4 a5 a6,cb=[a0,a1,a2,a3,a4,a5,a6]:=by
  match cb,hlb with
  |[a0,a1,a2,a3,a4,a5,a6],_=>exact ⟨a0,a1,a2,a3,a4,a5,a6,rfl⟩
 refine D4 Tryz.func121 J J (Qd (B5 J (E1 J J) ?_));intro b1 w1 hb1 hs1 hx1 hB1;refine B5 J (E1 J J) ?_;intro b2 w2 hb2 hs2 hx2 hB2;refine B5 J (B8 Ar2 J) ?_;intro b3 w3 hb3 hs3 hx3 hB3;have hB1:=hB1.u (hx2.s0 hx3);have hB2:=hB2.u hx3;refine Qc (Qd (Z 1 J (La M9 J ‹_› J J ?_)));refine La M9 J ‹_› J J ?_;refine B5 J (B7 Am0 Tryz.underlying71 Ar2 J J J (by rfl)) ?_;intro b4 w4 hb4 hs4 hx4 hB4;have hB3:=hB3.u hx4;refine C9 J (B1 Ar2 Dc7 J (by rfl)) ?_;refine Pe Al7 J ‹_› J J ?_;intro w5 hs5 hx5 hB3;have hC:=hC.step ((((hx1.j hx2).j hx3).j hx4).j hx5) (by simp<;>omega);have hB4:=hB4.q hx5 (by simp;omega);refine Qc (A6 (D5 J J (A5 M9 ‹_› J J) ?_));refine ⟨hC,n8C k 0 false (some ⟨b4,0,none⟩) 2 2,by unfold n8C;rw [C6];rfl,?_⟩;unfold Ag6;rw [N8];refine ⟨some ⟨b4,0,none⟩,2,[[a0,a1,a2,a3,a4,a5,a6],[d0,d1,d2,d3,d4,d5,d6]],rfl,Blk.rd ‹_› J (.inr ⟨by omega,by have:=hB4.lt;omega⟩),?_⟩;rw [N8r];refine ⟨_,_,rfl,(hA.u hC).mono (fun x h _=>.inl h),?_⟩;rw [N8r];refine ⟨_,_,rfl,(hBb.u hC).mono (fun x h _=>.inl h),?_⟩;rw [N8r]
inductive R6 where
 |node (kind:Int) (set:Nat) (mn mx:Int) (lz:Bool) (l:List R6) (frm till:Int)
instance:Inhabited R6:=⟨.node 0 0 0 0 false [] 0 0⟩
def n6C (k:Int) (s:Nat) (mn mx:Int) (lz:Bool) (A:Option Addr) (n c:Nat) (a b:Int):List Value:=[.int .i64 k]++C4 s++[.int .i64 mn,.int .i64 mx,.bool lz,.slice A n c,.int .i64 a,.int .i64 b]
mutual
def N6 (F:Nat→Prop) (w:World):R6→List Value→Prop
 | .node k s mn mx lz l fr tl,cs=>∃ A c css,cs=n6C k s mn mx lz A l.length c fr tl∧Rd F w 11 A l.length (List.flatten css)∧N6r F w l css
def N6r (F:Nat→Prop) (w:World):List R6→List (List Value)→Prop
 |[],css=>css=[]
 |t::r,css=>∃ cs rest,css=cs::rest∧N6 F w t cs∧N6r F w r rest
end
mutual
theorem Ei9 {F:Nat→Prop} {w w':World} {S:List Nat} (c:Chg S w w') (hS:∀ b∈S,¬ F b):∀ (t:R6) (cs:List Value),N6 F w t cs→N6 F w' t cs
 | .node k s mn mx lz l fr tl,cs,h=>by
  rw [N6] at h ⊢;obtain ⟨A,cc,css,h1,h2,h3⟩:=h;exact ⟨A,cc,css,h1,h2.q c hS,Cf8 c hS l css h3⟩
theorem Cf8 {F:Nat→Prop} {w w':World} {S:List Nat} (c:Chg S w w') (hS:∀ b∈S,¬ F b):∀ (l:List R6) (css:List (List Value)),N6r F w l css→N6r F w' l css
 |[],css,h=>by rw [N6r] at h ⊢;exact h
 |t::r,css,h=>by
  rw [N6r] at h ⊢;obtain ⟨cs,rest,h1,h2,h3⟩:=h;exact ⟨cs,rest,h1,Ei9 c hS t cs h2,Cf8 c hS r rest h3⟩
end
mutual
theorem Di9 {F F':Nat→Prop} {w:World} (hF:∀ b,F b→b<w.heap.size→F' b):∀ (t:R6) (cs:List Value),N6 F w t cs→N6 F' w t cs
 | .node k s mn mx lz l fr tl,cs,h=>by
  rw [N6] at h ⊢;obtain ⟨A,cc,css,h1,h2,h3⟩:=h;exact ⟨A,cc,css,h1,h2.mono hF,Bp4 hF l css h3⟩
theorem Bp4 {F F':Nat→Prop} {w:World} (hF:∀ b,F b→b<w.heap.size→F' b):∀ (l:List R6) (css:List (List Value)),N6r F w l css→N6r F' w l css
 |[],css,h=>by rw [N6r] at h ⊢;exact h
 |t::r,css,h=>by
  rw [N6r] at h ⊢;obtain ⟨cs,rest,h1,h2,h3⟩:=h;exact ⟨cs,rest,h1,Di9 hF t cs h2,Bp4 hF r rest h3⟩
end
theorem N6r.get {F:Nat→Prop} {w:World}:∀ {l:List R6} {css:List (List Value)},N6r F w l css→∀ k,k<l.length→N6 F w (l.getD k default) (css.getD k [])
 |[],css,h,k,hk=>by simp at hk
 |t::r,css,h,0,hk=>by
  rw [N6r] at h;obtain ⟨cs,rest,rfl,h2,_⟩:=h
  simpa using h2
 |t::r,css,h,k+1,hk=>by
  rw [N6r] at h;obtain ⟨cs,rest,rfl,_,h3⟩:=h
  simpa using N6r.get h3 k (by simpa using hk)
theorem N6.len {F:Nat→Prop} {w:World}:∀ {t:R6} {cs:List Value},N6 F w t cs→cs.length=11
 | .node k s mn mx lz l fr tl,cs,h=>by
  rw [N6] at h;obtain ⟨A,c,css,rfl,_⟩:=h
  rfl
theorem N6.q {F:Nat→Prop} {w w':World} {t:R6} {cs:List Value} {S:List Nat} (h:N6 F w t cs) (c:Chg S w w') (hS:∀ b∈S,¬ F b):N6 F w' t cs:=Ei9 c hS t cs h
theorem N6r.q {F:Nat→Prop} {w w':World} {t:List R6} {cs:List (List Value)} {S:List Nat} (h:N6r F w t cs) (c:Chg S w w') (hS:∀ b∈S,¬ F b):N6r F w' t cs:=Cf8 c hS t cs h
theorem N6.u {F:Nat→Prop} {w w':World} {t:R6} {cs:List Value} (h:N6 F w t cs) (c:Chg [] w w'):N6 F w' t cs:=h.q c (fun b hb=>by cases hb)
theorem N6r.u {F:Nat→Prop} {w w':World} {t:List R6} {cs:List (List Value)} (h:N6r F w t cs) (c:Chg [] w w'):N6r F w' t cs:=h.q c (fun b hb=>by cases hb)
theorem N6.mono {F F':Nat→Prop} {w:World} {t:R6} {cs:List Value} (h:N6 F w t cs) (hF:∀ b,F b→b<w.heap.size→F' b):N6 F' w t cs:=Di9 hF t cs h
theorem N6r.mono {F F':Nat→Prop} {w:World} {t:List R6} {cs:List (List Value)} (h:N6r F w t cs) (hF:∀ b,F b→b<w.heap.size→F' b):N6r F' w t cs:=Bp4 hF t cs h
def R6.frm:R6→Int
 | .node _ _ _ _ _ _ a _=>a
def R6.till:R6→Int
 | .node _ _ _ _ _ _ _ b=>b
def rkd (l:List RTk) (i:Nat):Int:=(l.getD i default).kind
def Av8 (l:List RTk) (alt:Nat→Nat→R6) (i:Nat):R6 × Nat:=
 if rkd l i=0 then (.node 1 (l.getD i default).set 0 0 false [] (l.getD i default).frm (l.getD i default).till,i+1)
 else (.node (1+rkd l i) 0 0 0 false [alt (i+1) (Bd5 l (i+1)).toNat] (l.getD i default).frm (l.getD (Bd5 l (i+1)).toNat default).till,(Bd5 l (i+1)).toNat+1)
def cntN (q:RTk) (n:R6):R6:=.node 6 0 q.mn q.mx q.lz [n] n.frm q.till
def Al8 (l:List RTk) (to:Nat) (x:R6 × Nat):R6 × Nat:=
 if x.2<to∧rkd l x.2=5 then (cntN (l.getD x.2 default) x.1,x.2+1) else x
def At3 (l:List RTk) (alt:Nat→Nat→R6) (to:Nat):Nat→Nat→List R6→List R6
 |0,_,o=>o
 |f+1,i,o=>if i<to then At3 l alt to f (Al8 l to (Av8 l alt i)).2 (o++[(Al8 l to (Av8 l alt i)).1]) else o
def Bq7 (kind:Int) (o:List R6):R6:=if o.length=1 then o.getD 0 default else .node kind 0 0 0 false o (o.getD 0 default).frm (o.getD (o.length - 1) default).till
def catE (l:List RTk) (size:Int) (frm:Nat) (o:List R6):R6:=if o.length=0 then .node 0 0 0 0 false [] (Bo7 l frm size) (Bo7 l frm size) else Bq7 4 o
def dpR (l:List RTk) (i to:Nat) (d:Int):Int:=if i<to then (if rkd l i=1∨rkd l i=2 then d+1 else if rkd l i=3 then d - 1 else d) else d
def Ag2 (l:List RTk) (cat:Nat→Nat→R6) (to:Nat):Nat→Nat→Nat→Int→List R6→List R6
 |0,_,_,_,o=>o
 |f+1,i,at_,d,o=>
  if i≤to then
   if i=to∨(rkd l i=4∧dpR l i to d=0) then Ag2 l cat to f (i+1) (i+1) (dpR l i to d) (o++[cat at_ i])
   else Ag2 l cat to f (i+1) at_ (dpR l i to d) o
  else o
def At5 (l:List RTk) (size:Int):Nat→Bool→Nat→Nat→R6
 |0,_,_,_=>default
 |f+1,true,a,b=>Bq7 5 (Ag2 l (fun x y=>At5 l size f false x y) b (b+2 - a) a a 0 [])
 |f+1,false,a,b=>catE l size a (At3 l (fun x y=>At5 l size f true x y) b (b+1 - a) a [])
def Stp (k:Int) (d:Nat) (a:Bool) (d':Nat) (a':Bool):Prop:=
 (k=0∧d'=d∧a'=true)∨((k=1∨k=2)∧d'=d+1∧a'=false)∨(k=3∧d=d'+1∧a'=true)∨(k=4∧d'=d∧a'=false)∨(k=5∧a=true∧d'=d∧a'=false)
structure Shp (l:List RTk) (d:Nat→Nat) (a:Nat→Bool):Prop where
 st:∀ i,i<l.length→Stp (rkd l i) (d i) (a i) (d (i+1)) (a (i+1))
 d0:d 0=0
 a0:a 0=false
 dn:d l.length=0
structure Rng (l:List RTk) (d:Nat→Nat) (a:Nat→Bool) (D x y:Nat):Prop where
 le:x≤y
 len:y≤l.length
 dx:d x=D
 dy:d y=D
 ax:a x=false
 ge:∀ i,x≤i→i≤y→D≤d i
theorem Ar1 {l:List RTk} {d:Nat→Nat} {a:Nat→Bool} (h:Shp l d a) {D x y i0:Nat} (hy:y≤l.length) (hdy:d y=D):∀ (f j e:Nat),f=l.length+1 - j→i0≤j→j≤y→d j=D+1+e→(∀ m,i0≤m→m≤j→D+1≤d m)→∃ k:Nat,An0 l f j e=(k:Int)∧i0≤k∧k<y∧rkd l k=3∧d k=D+1∧∀ m,i0≤m→m≤k→D+1≤d m
 |0,j,e,hf,h0,hj,hd,hm=>by omega
 |f+1,j,e,hf,h0,hj,hd,hm=>by
  have hjy:j<y:=by
   rcases Eq7 j y with h1|h1
   ·exact h1
   ·have:j=y:=by omega
    subst this;omega
  rw [An0,Ek1 (by omega)];have hs:=h.st j (by omega);have hk:(l.getD j default).kind=rkd l j:=rfl;rw [hk]
  have ext:D+1≤d (j+1)→∀ m,i0≤m→m≤j+1→D+1≤d m:=fun h1 m ha hb=>by
   by_cases hc:m≤j
   ·exact hm m ha hc
   ·have:m=j+1:=by omega
    rw [this];exact h1
  rcases hs with ⟨h1,h2,_⟩|⟨h1,h2,_⟩|⟨h1,h2,_⟩|⟨h1,h2,_⟩|⟨h1,_,h2,_⟩
  ·rw [Ek0 (by omega),Ek0 (by omega)];exact Ar1 h (x:=x) hy hdy f (j+1) e (by omega) (by omega) (by omega) (by omega) (ext (by omega))
  ·rw [Ek1 h1];exact Ar1 h (x:=x) hy hdy f (j+1) (e+1) (by omega) (by omega) (by omega) (by omega) (ext (by omega))
  ·rw [Ek0 (by omega),Ek1 h1]
   by_cases he:e=0
   ·rw [Ek1 he];exact ⟨j,rfl,h0,hjy,h1,by omega,hm⟩
   ·rw [Ek0 he];exact Ar1 h (x:=x) hy hdy f (j+1) (e - 1) (by omega) (by omega) (by omega) (by omega) (ext (by omega))
  ·rw [Ek0 (by omega),Ek0 (by omega)];exact Ar1 h (x:=x) hy hdy f (j+1) e (by omega) (by omega) (by omega) (by omega) (ext (by omega))
  ·rw [Ek0 (by omega),Ek0 (by omega)];exact Ar1 h (x:=x) hy hdy f (j+1) e (by omega) (by omega) (by omega) (by omega) (ext (by omega))
theorem Rng.group {l:List RTk} {d:Nat→Nat} {a:Nat→Bool} {D x y i:Nat} (h:Shp l d a) (r:Rng l d a D x y) (hx:x≤i) (hy:i<y) (hd:d i=D) (hk:rkd l i=1∨rkd l i=2):∃ k:Nat,Bd5 l (i+1)=(k:Int)∧k<y∧rkd l k=3∧d (k+1)=D∧a (k+1)=true∧Rng l d a (D+1) (i+1) k:=by
 have hl:=r.len;have hs:=h.st i (by omega)
 have h1:d (i+1)=D+1∧a (i+1)=false:=by
  rcases hs with ⟨h1,_⟩|⟨_,h2,h3⟩|⟨h1,_⟩|⟨h1,_⟩|⟨h1,_⟩
  ·omega
  ·exact ⟨by omega,h3⟩
  ·omega
  ·omega
  ·omega
 obtain ⟨k,k1,k2,k3,k4,k5,k6⟩:=Ar1 h (x:=x) (i0:=i+1) r.len r.dy (l.length+1 - (i+1)) (i+1) 0 rfl (El1 _) (by omega) (by omega) (fun m ha hb=>by
  have:m=i+1:=by omega
  rw [this];omega)
 have hs:=h.st k (by omega)
 have h2:d (k+1)=D∧a (k+1)=true:=by
  rcases hs with ⟨h1,_⟩|⟨h1,_⟩|⟨h1,h2,h3⟩|⟨h1,_⟩|⟨h1,_⟩
  ·omega
  ·omega
  ·exact ⟨by omega,h3⟩
  ·omega
  ·omega
 exact ⟨k,k1,k3,k4,h2.1,h2.2,⟨k2,by omega,h1.1,k5,h1.2,k6⟩⟩
structure AtI (l:List RTk) (d:Nat→Nat) (a:Nat→Bool) (D x y i:Nat):Prop where
 lo:x≤i
 hi:i≤y
 di:d i=D
 ok:a i=false∨(i<y→rkd l i≠5)
def Bg0 (l:List RTk) (d:Nat→Nat) (D x y:Nat):Prop:=∀ i,x≤i→i<y→d i=D→rkd l i≠4
theorem AtI.kind {l:List RTk} {d:Nat→Nat} {a:Nat→Bool} {D x y i:Nat} (h:Shp l d a) (r:Rng l d a D x y) (nb:Bg0 l d D x y) (t:AtI l d a D x y i) (hi:i<y):(rkd l i=0∧d (i+1)=D∧a (i+1)=true)∨rkd l i=1∨rkd l i=2:=by
 have hl:=r.len;have hs:=h.st i (by omega);have hb:=nb i t.lo hi t.di;have hd:=t.di
 rcases hs with ⟨h1,h2,h3⟩|⟨h1,h2,_⟩|⟨h1,h2,_⟩|⟨h1,h2,_⟩|⟨h1,h2,_⟩
 ·exact .inl ⟨h1,by omega,h3⟩
 ·exact .inr h1
 ·have:=r.ge (i+1) (by have:=t.lo;omega) (by omega);omega
 ·exact absurd h1 hb
 ·rcases t.ok with h4|h4
  ·rw [h4] at h2;cases h2
  ·exact absurd h1 (h4 hi)
theorem AtI.more {l:List RTk} {d:Nat→Nat} {a:Nat→Bool} {D x y j:Nat} (h:Shp l d a) (r:Rng l d a D x y) (h1:x≤j) (h3:j<y) (h4:d j=D) (h5:rkd l j=5):AtI l d a D x y (j+1):=by
 have hl:=r.len
 rcases h.st j (by omega) with ⟨k1,_⟩|⟨k1,_⟩|⟨k1,_⟩|⟨k1,_⟩|⟨_,_,k3,k4⟩
 ·omega
 ·omega
 ·omega
 ·omega
 ·exact ⟨by omega,by omega,by omega,.inl k4⟩
structure AtB (l:List RTk) (d:Nat→Nat) (a:Nat→Bool) (D x y i at_:Nat):Prop where
 lo:x≤at_
 mid:at_≤i
 hi:i≤y
 dat:d at_=D
 aat:a at_=false
 nb:Bg0 l d D at_ i
theorem AtB.rng {l:List RTk} {d:Nat→Nat} {a:Nat→Bool} {D x y i at_:Nat} (r:Rng l d a D x y) (t:AtB l d a D x y i at_) (hd:d i=D):Rng l d a D at_ i:=
 ⟨t.mid,En6 t.hi r.len,t.dat,hd,t.aat,fun m h1 h2=>r.ge m (En6 t.lo h1) (En6 h2 t.hi)⟩
theorem AtB.deep {l:List RTk} {d:Nat→Nat} {a:Nat→Bool} {D x y i at_:Nat} {e:Int} (h:Shp l d a) (r:Rng l d a D x y) (t:AtB l d a D x y i at_) (hi:i<y) (he:e=(d i:Int) - D):dpR l i y e=(d (i+1):Int) - D∧(rkd l i=4→d (i+1)=d i∧a (i+1)=false):=by
 have hl:=r.len;unfold dpR;rw [Ek1 hi]
 rcases h.st i (by omega) with ⟨k1,k2,k3⟩|⟨k1,k2,k3⟩|⟨k1,k2,k3⟩|⟨k1,k2,k3⟩|⟨k1,_,k2,k3⟩
 ·rw [Ek0 (by omega),Ek0 (by omega)];exact ⟨by omega,fun h=>by omega⟩
 ·rw [Ek1 k1];exact ⟨by omega,fun h=>by omega⟩
 ·rw [Ek0 (by omega),Ek1 k1];exact ⟨by omega,fun h=>by omega⟩
 ·rw [Ek0 (by omega),Ek0 (by omega)];exact ⟨by omega,fun h=>⟨k2,k3⟩⟩
 ·rw [Ek0 (by omega),Ek0 (by omega)];exact ⟨by omega,fun h=>by omega⟩
theorem AtB.next {l:List RTk} {d:Nat→Nat} {a:Nat→Bool} {D x y i at_:Nat} (t:AtB l d a D x y i at_) (hi:i<y) (hn:¬ (rkd l i=4∧d i=D)):AtB l d a D x y (i+1) at_:=
 ⟨t.lo,by have:=t.mid;omega,by omega,t.dat,t.aat,fun m h1 h2 h3=>by
  by_cases hm:m<i
  ·exact t.nb m h1 hm h3
  ·have:m=i:=by omega
   subst this
   exact fun h=>hn ⟨h,h3⟩⟩
theorem AtB.cut {l:List RTk} {d:Nat→Nat} {a:Nat→Bool} {D x y i at_:Nat} (t:AtB l d a D x y i at_) (hi:i<y) (hd:d (i+1)=D) (ha:a (i+1)=false):AtB l d a D x y (i+1) (i+1):=
 ⟨by have:=t.lo;have:=t.mid;omega,El1 _,by omega,hd,ha,fun m h1 h2=>by omega⟩
def stD (l:List RTk):Nat→Nat × Bool
 |0=>(0,false)
 |i+1=>if rkd l i=0 then ((stD l i).1,true) else if rkd l i=1∨rkd l i=2 then ((stD l i).1+1,false) else if rkd l i=3 then ((stD l i).1 - 1,true) else ((stD l i).1,false)
theorem Bj1 {l:List RTk} {size:Int} (hk:∀ i,i<l.length→0≤rkd l i∧rkd l i≤5):∀ (f i:Nat),f=l.length+1 - i→i≤l.length→(Ax1 l size f i (stD l i).1 (stD l i).2).2=0→(∀ j,i≤j→j<l.length→Stp (rkd l j) (stD l j).1 (stD l j).2 (stD l (j+1)).1 (stD l (j+1)).2)∧(stD l l.length).1=0
 |0,i,hf,hi,h=>by omega
 |f+1,i,hf,hi,h=>by
  rw [Ax1] at h
  by_cases hin:i<l.length
  ·rw [Ek1 hin] at h;have hke:(l.getD i default).kind=rkd l i:=rfl;simp only [hke] at h;have hr:=hk i hin
   have go:Stp (rkd l i) (stD l i).1 (stD l i).2 (stD l (i+1)).1 (stD l (i+1)).2→(Ax1 l size f (i+1) (stD l (i+1)).1 (stD l (i+1)).2).2=0→(∀ j,i≤j→j<l.length→Stp (rkd l j) (stD l j).1 (stD l j).2 (stD l (j+1)).1 (stD l (j+1)).2)∧(stD l l.length).1=0:=fun hS hR=>by
    obtain ⟨h1,h2⟩:=Bj1 hk f (i+1) (by omega) (by omega) hR;refine ⟨fun j ha hb=>?_,h2⟩
    by_cases hc:i+1≤j
    ·exact h1 j hc hb
    ·have:j=i:=by omega
     subst this;exact hS
   have hst:stD l (i+1)=if rkd l i=0 then ((stD l i).1,true) else if rkd l i=1∨rkd l i=2 then ((stD l i).1+1,false) else if rkd l i=3 then ((stD l i).1 - 1,true) else ((stD l i).1,false):=rfl
   by_cases h0:rkd l i=0
   ·rw [Ek1 h0] at h hst;exact go (.inl ⟨h0,by rw [hst],by rw [hst]⟩) (by rw [hst];exact h)
   rw [Ek0 h0] at h hst
   by_cases h1:rkd l i=1∨rkd l i=2
   ·rw [Ek1 h1] at h hst
    split at h
    ·cases h
    exact go (.inr (.inl ⟨h1,by rw [hst],by rw [hst]⟩)) (by rw [hst];exact h)
   rw [Ek0 h1] at h hst
   by_cases h3:rkd l i=3
   ·rw [Ek1 h3] at h hst
    split at h
    ·cases h
    exact go (.inr (.inr (.inl ⟨h3,by rw [hst];show _=_ - 1+1;omega,by rw [hst]⟩))) (by rw [hst];exact h)
   rw [Ek0 h3] at h hst
   by_cases h4:rkd l i=4
   ·rw [Ek1 h4] at h;exact go (.inr (.inr (.inr (.inl ⟨h4,by rw [hst],by rw [hst]⟩)))) (by rw [hst];exact h)
   rw [Ek0 h4] at h
   split at h
   ·cases h
   rename_i h6
   exact go (.inr (.inr (.inr (.inr ⟨by omega,by simpa using h6,by rw [hst],by rw [hst]⟩)))) (by rw [hst];exact h)
  ·rw [Ek0 hin] at h;have:i=l.length:=by omega
   subst this;refine ⟨fun j ha hb=>by omega,?_⟩
   split at h
   ·cases h
   ·omega
theorem At2 {l:List RTk} {size:Int} (hk:∀ i,i<l.length→0≤rkd l i∧rkd l i≤5) (h:(Bj0 l size).2=0):Shp l (fun i=>(stD l i).1) (fun i=>(stD l i).2):=by
 obtain ⟨h1,h2⟩:=Bj1 (size:=size) hk (l.length+1) 0 rfl (El0 _) h;exact ⟨fun i hi=>h1 i (El0 _) hi,rfl,rfl,h2⟩
theorem Shp.all {l:List RTk} {d:Nat→Nat} {a:Nat→Bool} (h:Shp l d a):Rng l d a 0 0 l.length:=⟨El0 _,El1 _,h.d0,h.dn,h.a0,fun _ _ _=>El0 _⟩
theorem Az2 (L:List Nat) (t:RTk) (e:Int × Int):(Cf2 L t e).1.kind=t.kind:=by
 unfold Cf2
 split
 ·rfl
 ·dsimp only;split<;>rfl
theorem Dx7 (L:List Nat) (i:Nat):0≤(Cg6 L i).1.kind∧(Cg6 L i).1.kind≤5:=by
 unfold Cg6;simp only []
 by_cases h1:L.getD i 0=92
 ·rw [Ek1 h1];constructor<;>simp
 rw [Ek0 h1]
 by_cases h2:L.getD i 0=91
 ·rw [Ek1 h2];constructor<;>simp
 rw [Ek0 h2]
 by_cases h3:L.getD i 0=40
 ·rw [Ek1 h3]
  split<;>constructor<;>simp
 rw [Ek0 h3]
 by_cases h4:L.getD i 0=41
 ·rw [Ek1 h4];constructor<;>simp
 rw [Ek0 h4]
 by_cases h5:L.getD i 0=124
 ·rw [Ek1 h5];constructor<;>simp
 rw [Ek0 h5]
 by_cases h6:L.getD i 0=46
 ·rw [Ek1 h6];constructor<;>simp
 rw [Ek0 h6]
 by_cases h7:L.getD i 0=94∨L.getD i 0=36
 ·rw [Ek1 h7];constructor<;>simp
 rw [Ek0 h7]
 by_cases h8:L.getD i 0=93∨L.getD i 0=125
 ·rw [Ek1 h8];constructor<;>simp
 rw [Ek0 h8]
 by_cases h9:L.getD i 0∉B6 Eg5
 ·rw [Ek1 h9];constructor<;>simp
 rw [Ek0 h9]
 split
 ·rw [Az2];constructor<;>simp
 split
 ·rw [Az2];constructor<;>simp
 split
 ·rw [Az2];constructor<;>simp
 ·rw [Az2];constructor<;>simp
theorem Bd4 (L:List Nat):∀ (f i:Nat) (l:List RTk),(∀ t∈l,0≤t.kind∧t.kind≤5)→∀ t∈(Z1 L f i l).1,0≤t.kind∧t.kind≤5
 |0,i,l,h=>by rw [Z1];exact h
 |f+1,i,l,h=>by
  rw [Z1]
  split
  ·simp only []
   split
   ·intro t ht;cases ht
   ·refine Bd4 L f _ _ fun t ht=>?_
    rcases En7.1 ht with h1|h1
    ·exact h t h1
    ·rw [Ek3] at h1;subst h1;exact Dx7 L i
  ·exact h
theorem Dv9 (L:List Nat):∀ i,i<(K2 L).1.length→0≤rkd (K2 L).1 i∧rkd (K2 L).1 i≤5:=by
 intro i hi;unfold rkd;rw [Ek2,Ek4 hi];exact Bd4 L _ 0 [] (fun t ht=>by cases ht) _ (List.getElem_mem hi)
theorem Bs8 (L:List Nat) (hL:∀ b∈L,b<256):∀ (f i:Nat) (l:List RTk),l.length≤i→i≤L.length→(Z1 L f i l).1.length≤L.length
 |0,i,l,h,hi=>by rw [Z1];exact En6 h hi
 |f+1,i,l,h,hi=>by
  rw [Z1]
  split
  ·rename_i hin
   have hg:=Ck8 L hL i hin;simp only [];generalize Cg6 L i=x at*;obtain ⟨x,p,e⟩:=x;simp only [] at*
   split
   ·exact El0 _
   ·rename_i he
    obtain ⟨j,hj,h1,h2⟩:=hg (by simpa using he);simp only [] at hj;subst hj;rw [Ek9];exact Bs8 L hL f j _ (by simp;omega) h2
  ·exact En6 h hi
theorem Bs7 (L:List Nat) (hL:∀ b∈L,b<256):(K2 L).1.length≤L.length:=Bs8 L hL _ 0 [] (El0 _) (El0 _)
def M3 (L:List Nat):R6 × Int × Int:=
 if (K2 L).2.2≠0 then (default,(K2 L).2)
 else if (Bj0 (K2 L).1 L.length).2≠0 then (default,Bj0 (K2 L).1 L.length)
 else (At5 (K2 L).1 L.length (2*(K2 L).1.length+2) true 0 (K2 L).1.length,0,0)
def RCatC (l:List RTk) (A:Option Addr) (c:Nat) (size:Int) (f:Nat):Prop:=∀ (dd:Nat→Nat) (aa:Nat→Bool) (D x y:Nat) (F:Nat→Prop) (w:World),Shp l dd aa→Rng l dd aa D x y→Bg0 l dd D x y→2*(y - x)<f→(∀ b,F b→b<w.heap.size)→Rd F w 10 A l.length (V4 l)→Calls P 146 #[.slice A l.length c,.int .i64 (x:Nat),.int .i64 (y:Nat),.int .i64 size] w (Ret fun u w'=>Chg [] w w'∧∃ cs,u= .agg cs.toArray∧N6 (FR w.heap.size w'.heap.size []) w' (At5 l size f false x y) cs)
def RAltC (l:List RTk) (A:Option Addr) (c:Nat) (size:Int) (f:Nat):Prop:=∀ (dd:Nat→Nat) (aa:Nat→Bool) (D x y:Nat) (F:Nat→Prop) (w:World),Shp l dd aa→Rng l dd aa D x y→2*(y - x)+1<f→(∀ b,F b→b<w.heap.size)→Rd F w 10 A l.length (V4 l)→Calls P 120 #[.slice A l.length c,.int .i64 (x:Nat),.int .i64 (y:Nat),.int .i64 size] w (Ret fun u w'=>Chg [] w w'∧∃ cs,u= .agg cs.toArray∧N6 (FR w.heap.size w'.heap.size []) w' (At5 l size f true x y) cs)
theorem N6.cells {F:Nat→Prop} {w:World} {t:R6} {cs:List Value} (h:N6 F w t cs):∃ a0 a1 a2 a3 a4 a5 a6 a7 a8,cs=[a0,a1,a2,a3,a4,a5,a6,a7,a8,.int .i64 t.frm,.int .i64 t.till]:=by
 cases t with
 |node k s mn mx lz l fr tl=>
  rw [N6] at h;obtain ⟨A,c,css,rfl,_⟩:=h;exact ⟨_,_,_,_,_,_,_,_,_,rfl⟩
theorem N6r.snoc {F:Nat→Prop} {w:World} {t:R6} {cs:List Value}:∀ {l:List R6} {css:List (List Value)},N6r F w l css→N6 F w t cs→N6r F w (l++[t]) (css++[cs])
 |[],css,h,ht=>by
  rw [N6r] at h;subst h;show N6r F w [t] [cs];rw [N6r];exact ⟨cs,[],rfl,ht,by rw [N6r]⟩
 |u::r,css,h,ht=>by
  rw [N6r] at h;obtain ⟨cu,rest,rfl,h2,h3⟩:=h;show N6r F w (u::(r++[t])) (cu::(rest++[cs]));rw [N6r];exact ⟨cu,rest++[cs],rfl,h2,N6r.snoc h3 ht⟩
theorem N6r.row {F:Nat→Prop} {w:World}:∀ {l:List R6} {css:List (List Value)},N6r F w l css→∀ k,k<l.length→∀ j v,(css.getD k [])[j]?=some v→(List.flatten css)[k*11+j]?=some v
 |[],css,h,k,hk=>by simp at hk
 |t::r,css,h,k,hk=>by
  rw [N6r] at h;obtain ⟨cs,rest,rfl,h2,h3⟩:=h;intro j v hv;have hlen:=h2.len;rw [List.flatten_cons]
  cases k with
  |zero=>
   rw [Em6 (by have:=(Em5.1 hv).1;simp at this;omega)]
   simpa using hv
  |succ k=>
   rw [Em2 (by omega),show (k+1)*11+j - cs.length=k*11+j by omega];exact N6r.row h3 k (by simpa using hk) j v (by simpa using hv)
theorem N6r.one {F:Nat→Prop} {w:World} {l:List R6} {css:List (List Value)} (h:N6r F w l css) (hl:l.length=1):∃ n cs,l=[n]∧css=[cs]∧N6 F w n cs:=by
 match l,hl with
 |[n],_=>
  rw [N6r] at h;obtain ⟨cs,rest,rfl,h2,h3⟩:=h;rw [N6r] at h3;subst h3;exact ⟨n,cs,rfl,rfl,h2⟩
theorem N6.ends {F:Nat→Prop} {w:World} {t:R6} {cs:List Value} (h:N6 F w t cs):cs[9]?=some (.int .i64 t.frm)∧cs[10]?=some (.int .i64 t.till):=by
 obtain ⟨a0,a1,a2,a3,a4,a5,a6,a7,a8,rfl⟩:=h.cells;exact ⟨rfl,rfl⟩
theorem N6.one1 {F:Nat→Prop} {w:World} {t:R6} {cs:List Value} (h:N6 F w t cs):cs.all Value.oneCell'=true:=by
 cases t with
 |node k s mn mx lz l fr tl=>
  rw [N6] at h;obtain ⟨A,c,css,rfl,_⟩:=h
  rfl
theorem Dy9 {F:Nat→Prop} {w:World} {A:Option Addr} {c:Nat} {l:List R6} {css:List (List Value)} (k:Int) (s:Nat) (mn mx:Int) (lz:Bool) (x y:Int) (hr:Rd F w 11 A l.length (List.flatten css)) (hI:N6r F w l css):N6 F w (.node k s mn mx lz l x y) (n6C k s mn mx lz A l.length c x y):=by
 rw [N6];exact ⟨A,c,css,rfl,hr,hI⟩
theorem Cu6 {F:Nat→Prop} {w:World} (k:Int) (s:Nat) (a b:Int):N6 F w (.node k s 0 0 false [] a b) (n6C k s 0 0 false none 0 0 a b):=by
 rw [N6];exact ⟨none,0,[],rfl,Rd.nil _ _ _ _,by rw [N6r]⟩
theorem n6_one {F F':Nat→Prop} {w:World} {b:Nat} {n:R6} {cs:List Value} (k:Int) (s:Nat) (mn mx:Int) (lz:Bool) (x y:Int) (hB:Blk w b cs 140) (hF:F b) (hn:N6 F' w n cs) (hm:∀ z,F' z→z<w.heap.size→F z):N6 F w (.node k s mn mx lz [n] x y) (n6C k s mn mx lz (some ⟨b,0,none⟩) 1 1 x y):=by
 have hlen:=hn.len;rw [N6];refine ⟨some ⟨b,0,none⟩,1,[cs],rfl,by simpa using hB.rd (sz:=11) (m:=1) (by simp [hlen]) hF,?_⟩;rw [N6r];exact ⟨cs,[],rfl,hn.mono hm,by rw [N6r]⟩
theorem rcat_c (l:List RTk) (A:Option Addr) (c:Nat) (size:Int) (f:Nat) (hl:l.length≤100000) (hA:RAltC l A c size f):RCatC l A c size (f+1):=by
 intro dd aa D x y F w hS hR hN hf hF hr;have hC:=A8 [] w;have hyl:=hR.len;have hxy:=hR.le;have hP:At5 l size (f+1) false x y=catE l size x (At3 l (fun i k=>At5 l size f true i k) y (y+1 - x) x []):=rfl;rw [hP];generalize hr0:At3 l (fun i k=>At5 l size f true i k) y (y+1 - x) x []=r;refine D4 Tryz.func146 J J (Qd (B5 J (B8 Ak5 J) ?_));intro b1 w1 hb1 hs1 hx1 hB1;have hC:=hC.s0 hx1;have hr:=hr.u hx1
 refine Qc (Qd (Zc 1 J (Qa (Qd (Zc 2 J (B2 (D8 (σ:=Nat × Nat × List R6 × List (List Value) × Option Addr × Nat) (fun (g,i,o,css,A',c')=>[(0,.slice A l.length c),(1,.int .i64 (x:Nat)),(2,.int .i64 (y:Nat)),(3,.int .i64 size),(8,.pointer (some ⟨b1,0,none⟩)),(9,.slice A' o.length c'),(10,.int .i64 (i:Nat))]) (fun (g,i,o,css,A',c') wr=>Chg [] w wr∧Rd F wr 10 A l.length (V4 l)∧Blk wr b1 [.int .i64 0,.int .u64 0,.int .u64 0,.int .u64 0,.int .u64 0,.int .i64 0,.int .i64 0,.bool false,.slice none 0 0,.int .i64 0,.int .i64 0] 140∧Own wr (b1+1) 140 11 A' o.length c' (List.flatten css)∧N6r (FR (b1+1) wr.heap.size (F7 A')) wr o css∧At3 l (fun i k=>At5 l size f true i k) y g i o=r∧AtI l dd aa D x y i∧o.length≤i∧y<i+g) (fun (g,i,o,css,A',c') wr=>g) (y+1 - x,x,[],[],none,0) (sb J) ?_ ?_)))))))
 ·exact ⟨hC,hr,hB1,Own.nil _ _ _ _,by rw [N6r],hr0,⟨El1 _,hxy,hR.dx,.inl hR.ax⟩,El0 _,by omega⟩
 rintro ⟨g,i,o,css,A',c'⟩ w9 ⟨hC,hr,hB1,hO,hI,hcl,hat,hol,hfu⟩;have hOb:=hO.blk
 try have hlB1:=hB1.lt
 refine Qa (Qd (Zc 3 J (A4 J (fun h1=>?_) (fun h1=>?_))))
 ·try simp at h1
  have hin:i<y:=by omega
  have hil:i<l.length:=by omega
  have hkd:=hat.kind hS hR hN hin;obtain ⟨g,rfl⟩:∃ q,g=q+1:=⟨g - 1,by omega⟩;rw [At3,Ek1 hin] at hcl;obtain ⟨gA,off,rfl,hFg,hlt,hcell⟩:=hr.at_ (by omega);refine A7 (B2 (Qd (Z 2 J (C9 J (C2 Am2 J J (by omega) (by omega)) (C9 J (E8 (vs:=Av7 (l.getD i default)) K4 J (F4 _) (fun j v hj=>by rw [Em3];exact hcell (i*10+j) v (by have hj4:j<10:=(Em5.1 hj).1;rw [N9 l i j hil hj4];exact hj)) J) ?_)))));have hkt:rkd l i=(l.getD i default).kind:=rfl;generalize htk:l.getD i default=t at*;refine B5 J (B8 Cs1 J) ?_;intro b2 w2 hb2 hs2 hx2 hB2;have hr:=hr.u hx2;have hO:=hO.u hx2;have hI:=hI.u hx2;refine Pe V9 J ‹_› J J ?_;intro w3 hs3 hx3 hB2;have hr:=hr.q hx3 (by intro b hb hFb;have:=hF _ hFb;simp at hb;omega);have hO:=(by exact hO.q hx3 (by intro x hx;have hx:=Ek3.1 hx;right;intro h;have:=hOb x (by rw [h];exact Ek3.2 J);omega));have hI:=hI.q hx3 (by intro x hx hf;have hx:=Ek3.1 hx;have h1:=hf.1;have h2:=hf.2.1;omega);refine Qc (Qd (Fa Bm1 J (La J0 J ‹_› (by rfl) J ?_)));refine Fa Au4 J (Lb o3 J ‹_› (by rfl) ?_);refine Fa Cd1 J (Lb o3 J ‹_› (by rfl) ?_);refine C9 J (B1 Ak5 Ck3 J (by rfl)) ?_;refine B5 J (B8 Ak5 J) ?_;intro b4 w4 hb4 hs4 hx4 hB4;have hr:=hr.u hx4;have hO:=hO.u hx4;have hI:=hI.u hx4;refine Pe Bf4 J ‹_› J J ?_;intro w5 hs5 hx5 hB4;have hC:=hC.step (((hx2.j hx3).j hx4).j hx5) (by simp<;>omega);have hr:=hr.q hx5 (by intro b hb hFb;have:=hF _ hFb;simp at hb;omega);have hB1:=hB1.q (((hx2.j hx3).j hx4).j hx5) (by simp<;>omega);have hO:=(by exact hO.q hx5 (by intro x hx;have hx:=Ek3.1 hx;right;intro h;have:=hOb x (by rw [h];exact Ek3.2 J);omega));have hI:=hI.q hx5 (by intro x hx hf;have hx:=Ek3.1 hx;have h1:=hf.1;have h2:=hf.2.1;omega);have hB2:=hB2.q (hx4.j hx5) (by simp<;>omega)
  refine Qc (Qd (Z 1 J (Ad J J (by omega) (Zc 1 J (I3 (fun e9 wr=>∃ n j cs,Sub [(0,.slice (some ⟨gA,off,none⟩) l.length c),(1,.int .i64 (x:Nat)),(2,.int .i64 (y:Nat)),(3,.int .i64 size),(8,.pointer (some ⟨b1,0,none⟩)),(9,.slice A' o.length c'),(10,.int .i64 (j:Nat)),(12,.pointer (some ⟨b4,0,none⟩))] e9∧Chg [] w wr∧Rd F wr 10 (some ⟨gA,off,none⟩) l.length (V4 l)∧Blk wr b1 [.int .i64 0,.int .u64 0,.int .u64 0,.int .u64 0,.int .u64 0,.int .i64 0,.int .i64 0,.bool false,.slice none 0 0,.int .i64 0,.int .i64 0] 140∧Own wr (b1+1) 140 11 A' o.length c' (List.flatten css)∧N6r (FR (b1+1) w9.heap.size (F7 A')) wr o css∧Blk wr b4 cs 140∧N6 (FR (b4+1) wr.heap.size []) wr n cs∧Av8 l (fun i k=>At5 l size f true i k) i=(n,j)∧i<j∧j≤y∧dd j=D∧aa j=true∧b4<wr.heap.size) ?_ ?_)))))
  ·refine Qd (Fa U0 J (Lb o3 J ‹_› (by rfl) ?_))
   refine Zc 1 J (A4 J (fun k0=>?_) (fun k0=>?_))
   ·try simp at k0
    have k0':¬ rkd l i=0:=by rw [hkt];exact k0
    have hlo:=hat.lo
    have hk12:rkd l i=1∨rkd l i=2:=by
     rcases hkd with h|h
     ·exact absurd h.1 k0'
     ·exact h
    obtain ⟨k,hk1,hk2,hk3,hk4,hk5,hkr⟩:=hR.group hS hat.lo hin hat.di hk12;have hkl:=hkr.le;refine Qd (Z 2 J (Ca fb173 J (rclose_c l F _ c (i+1) (by omega) hl _ (fun z hz=>by have:=hF z hz;omega) ‹_›) ?_));rintro _ w6 ⟨rfl,hx6⟩;have hz6:=hx6.size;rw [hk1];refine Zc 1 J (Qa (C8 (S:=[]) 16 [(0,0),(0,1),(0,2),(0,3),(0,4),(0,5),(0,6),(0,9),(0,10),(0,11),(0,12),(0,13),(0,14),(0,15),(1,7),(1,8),(2,16),(2,17)] mo (by kernel_rfl) ?_));intro w7 hx7 hh7;have hr:=hr.u (hx6.s0 hx7);have hB2:=hB2.u (hx6.s0 hx7);have hCS7:=A8 ([]) w7;obtain ⟨_,_,hE2,_,_,hcell2⟩:=hr.at_ (by omega)
    cases hE2
    have hc2:=hcell2 (k*10+2) _ ((N9 l k 2 (by omega) (by omega)).trans J);refine Fa U0 J (D6 J (B3 o3 J ‹_› (by simp;done) (by rfl)) ?_);refine Ad J J (by omega) (Z 4 J (Fa Au4 J (D6 J (B3 o3 J ‹_› (by simp;done) (by rfl)) ?_)));refine Z 2 J (D6 J (C2 Am2 J J (by omega) (by omega)) (Fa Cd1 J (D6 J (E0 o3 J hc2 (by simp;done)) ?_)));refine C5 J (C3 fb120 J) (hA dd aa (D+1) (i+1) k F _ hS hkr (by omega) (fun z hz=>by have:=hF z hz;omega) ‹_›) ?_;rintro _ w8 ⟨hx8,cs1,rfl,hn1⟩;have hz8:=hx8.size;have hCS7:=hCS7.s0 hx8;refine ⟨hCS7,?_⟩;obtain ⟨a0,a1,a2,a3,a4,a5,a6,a7,a8,rfl⟩:=hn1.cells;refine E2 J (B7 Aw4 Tryz.underlying138 Ak5 J J J (by rfl)) ?_;intro b9 w9 hb9 hs9 hx9 hB9;have hr:=hr.u (hx8.s0 hx9);have hO:=hO.u (((hx6.s0 hx7).s0 hx8).s0 hx9);have hI:=hI.u (((hx6.s0 hx7).s0 hx8).s0 hx9);have hB4:=hB4.u (((hx6.s0 hx7).s0 hx8).s0 hx9);have hCS7:=hCS7.s0 hx9;have hn1:=hn1.u hx9;refine ⟨hCS7,?_⟩;refine C9 J (B1 Ak5 Ck3 J (by rfl)) ?_;refine Pe Bf4 J ‹_› J J ?_;intro w10 hs10 hx10 hB4;have hC:=hC.step ((((hx6.j hx7).j hx8).j hx9).j hx10) (by simp<;>omega);have hr:=hr.q hx10 (by intro b hb hFb;have:=hF _ hFb;simp at hb;omega);have hB1:=hB1.q ((((hx6.j hx7).j hx8).j hx9).j hx10) (by simp<;>omega);have hO:=(by exact hO.q hx10 (by intro x hx;have hx:=Ek3.1 hx;right;intro h;have:=hOb x (by rw [h];exact Ek3.2 J);omega));have hI:=hI.q hx10 (by intro x hx hf;have hx:=Ek3.1 hx;have h1:=hf.1;have h2:=hf.2.1;omega);have hn1:=hn1.q hx10 (by intro x hx hf;have hx:=Ek3.1 hx;have h1:=hf.1;have h2:=hf.2.1;omega);have hB9:=hB9.q hx10 (by simp;omega);refine Qc (Qb (Z 1 J (Ad J J (by omega) (Zc 1 J ⟨(.node (1+rkd l i) 0 0 0 false [At5 l size f true (i+1) k] t.frm (l.getD k default).till),(k+1),(n6C (1+rkd l i) 0 0 0 false (some ⟨b9,0,none⟩) 1 1 t.frm (l.getD k default).till),sb J,?_⟩))));refine ⟨hC,hr,hB1,hO,hI,by unfold n6C;rw [C6,hkt];exact hB4,n6_one _ _ _ _ _ _ _ hB9 ⟨by omega,by have:=hB9.lt;omega,by simp⟩ hn1 (fun z hz hzl=>⟨by have:=hz.1;omega,hzl,by simp⟩),?_,by omega,by omega,hk4,hk5,hB4.lt⟩;unfold Av8;rw [Ek0 k0',hk1,htk]
    rfl
   ·try simp at k0
    refine A7 ⟨(.node 1 t.set 0 0 false [] t.frm t.till),(i+1),(n6C 1 t.set 0 0 false none 0 0 t.frm t.till),sb J,?_⟩;have k0':rkd l i=0:=by rw [hkt];exact k0
    rcases hkd with hk1|hk1;refine ⟨hC,hr,hB1,hO,hI,hB4,Cu6 _ _ _ _,?_,by omega,by omega,hk1.2.1,hk1.2.2,hB4.lt⟩;unfold Av8;rw [Ek1 k0',htk];exfalso;omega
  rintro e9 w20 ⟨n,j,cs,hs9,hC,hr,hB1,hO,hI,hB4,hn,hkk,hij,hjy,hdj,haj,hb4l⟩;refine I2 _ hs9 ?_;clear hs9 e9;rw [hkk] at hcl
  refine I3 (fun e9 wr=>∃ m j2 cs2,Sub [(0,.slice (some ⟨gA,off,none⟩) l.length c),(1,.int .i64 (x:Nat)),(2,.int .i64 (y:Nat)),(3,.int .i64 size),(8,.pointer (some ⟨b1,0,none⟩)),(9,.slice A' o.length c'),(10,.int .i64 (j2:Nat)),(12,.pointer (some ⟨b4,0,none⟩))] e9∧Chg [] w wr∧Rd F wr 10 (some ⟨gA,off,none⟩) l.length (V4 l)∧Blk wr b1 [.int .i64 0,.int .u64 0,.int .u64 0,.int .u64 0,.int .u64 0,.int .i64 0,.int .i64 0,.bool false,.slice none 0 0,.int .i64 0,.int .i64 0] 140∧Own wr (b1+1) 140 11 A' o.length c' (List.flatten css)∧N6r (FR (b1+1) w9.heap.size (F7 A')) wr o css∧Blk wr b4 cs2 140∧N6 (FR (b4+1) wr.heap.size []) wr m cs2∧Al8 l y (n,j)=(m,j2)∧i<j2∧AtI l dd aa D x y j2∧b4<wr.heap.size) ?_ ?_
  ·refine Qd (Z 4 J (C0 (d:=60) J (fun g1=>?_) (fun g1=>?_)))
   ·try simp at g1
    have hjl:j<l.length:=by omega
    obtain ⟨_,_,hE3,_,_,hcell3⟩:=hr.at_ (by omega)
    cases hE3
    have hc3:=hcell3 (j*10+0) _ ((N9 l j 0 hjl (by omega)).trans J);refine Qu J (Z 1 J (Qu J (Z 1 J (Qu J (C9 J (C2 Am2 J J (by omega) (by omega)) (Qu J (Fa U0 J (Qu J (Lc o3 J hc3 ?_)))))))));have hkj:rkd l j=(l.getD j default).kind:=rfl;generalize htj:l.getD j default=q at*
    refine Qu J (Zc 2 J (A4 J (fun q5=>?_) (fun q5=>?_)))
    ·try simp at q5
     have q5':rkd l j=5:=by rw [hkj];exact q5
     obtain ⟨a0,a1,a2,a3,a4,a5,a6,a7,a8,rfl⟩:=hn.cells;refine Qa (C8 (S:=[]) 24 [(0,0),(0,1),(0,2),(0,3),(0,4),(0,5),(0,6),(0,7),(0,8),(0,9),(0,10),(0,11),(0,12),(0,13),(0,14),(0,15),(0,17),(0,18),(0,19),(0,20),(0,21),(0,22),(0,23),(1,16),(2,24),(2,25)] mo (by kernel_rfl) ?_);intro w11 hx11 hh11;have hr:=hr.u hx11;have hB4:=hB4.u hx11;have hCS11:=A8 ([]) w11;obtain ⟨_,_,hE4,_,_,hcell4⟩:=hr.at_ (by omega)
     cases hE4
     have hq7:=hcell4 (j*10+7) _ ((N9 l j 7 hjl (by omega)).trans J);have hq8:=hcell4 (j*10+8) _ ((N9 l j 8 hjl (by omega)).trans J);have hq9:=hcell4 (j*10+9) _ ((N9 l j 9 hjl (by omega)).trans J);have hq2:=hcell4 (j*10+2) _ ((N9 l j 2 hjl (by omega)).trans J);rw [htj] at hq7 hq8 hq9 hq2;refine Z 2 J (D6 J (C2 Am2 J J (by omega) (by omega)) (Fa Cw4 J (D6 J (E0 o3 J hq7 (by simp;done)) ?_)));refine Z 2 J (D6 J (C2 Am2 J J (by omega) (by omega)) (Fa Cd0 J (D6 J (E0 o3 J hq8 (by simp;done)) ?_)));refine Z 2 J (D6 J (C2 Am2 J J (by omega) (by omega)) (Fa Ed2 J (D6 J (E0 o4 J hq9 (by simp;done)) ?_)));refine D6 J (C1 Ap5 J ‹_› (by simp;done) J J) ?_;refine Fa Cx1 J (D6 J (B3 o3 J ‹_› (by simp;done) (by rfl)) ?_);refine Z 2 J (D6 J (C2 Am2 J J (by omega) (by omega)) (Fa Cd1 J (D6 J (E0 o3 J hq2 (by simp;done)) ?_)));refine E2 J (B7 Aw4 Tryz.underlying138 Ak5 J J J (by rfl)) ?_;intro b12 w12 hb12 hs12 hx12 hB12;have hr:=hr.u hx12;have hO:=hO.u (hx11.s0 hx12);have hI:=hI.u (hx11.s0 hx12);have hB4:=hB4.u hx12;have hn:=hn.u (hx11.s0 hx12);have hCS11:=hCS11.s0 hx12;refine ⟨hCS11,?_⟩;refine C9 J (B1 Ak5 Ck3 J (by rfl)) ?_;refine Pe Bf4 J ‹_› J J ?_;intro w13 hs13 hx13 hB4;have hC:=hC.step ((hx11.j hx12).j hx13) (by simp<;>omega);have hr:=hr.q hx13 (by intro b hb hFb;have:=hF _ hFb;simp at hb;omega);have hB1:=hB1.q ((hx11.j hx12).j hx13) (by simp<;>omega);have hO:=(by exact hO.q hx13 (by intro x hx;have hx:=Ek3.1 hx;right;intro h;have:=hOb x (by rw [h];exact Ek3.2 J);omega));have hI:=hI.q hx13 (by intro x hx hf;have hx:=Ek3.1 hx;have h1:=hf.1;have h2:=hf.2.1;omega);have hn:=hn.q hx13 (by intro x hx hf;have hx:=Ek3.1 hx;have h1:=hf.1;have h2:=hf.2.1;omega);have hB12:=hB12.q hx13 (by simp;omega);refine Qc (Qb (Z 1 J (Ad J J (by omega) (Zc 1 J ⟨(cntN q n),(j+1),(n6C 6 0 q.mn q.mx q.lz (some ⟨b12,0,none⟩) 1 1 n.frm q.till),sb J,?_⟩))));refine ⟨hC,hr,hB1,hO,hI,by unfold n6C;rw [C6];exact hB4,n6_one _ _ _ _ _ _ _ hB12 ⟨by omega,by have:=hB12.lt;omega,by simp⟩ hn (fun z hz hzl=>⟨by have:=hz.1;omega,hzl,by simp⟩),?_,by omega,AtI.more hS hR (by have:=hat.lo;omega) (by omega) hdj q5',hB4.lt⟩;unfold Al8;rw [Ek1 ⟨by show j<y;omega,q5'⟩,htj]
    ·try simp at q5
     refine A7 ⟨n,j,cs,sb J,?_⟩;refine ⟨hC,hr,hB1,hO,hI,hB4,hn,?_,hij,⟨by have:=hat.lo;omega,hjy,hdj,.inr fun _=>by rw [hkj];exact q5⟩,hB4.lt⟩;unfold Al8;rw [Ek0 (by intro h;exact q5 (by rw [← hkj];exact h.2))]
   ·try simp at g1
    refine Qk J (Qk J (Qk J (Qk J (Qk J (Qk J (Zc 1 J (E4 J (A7 ⟨n,j,cs,sb J,?_⟩))))))));refine ⟨hC,hr,hB1,hO,hI,hB4,hn,?_,hij,⟨by have:=hat.lo;omega,hjy,hdj,.inr fun h=>by omega⟩,hB4.lt⟩;unfold Al8;rw [Ek0 (by intro h;have:=h.1;simp at this;omega)]
  rintro e9 w21 ⟨m,j2,cs2,hs9,hC,hr,hB1,hO,hI,hB4,hm,hst,hij2,hat2,hb4l⟩;refine I2 _ hs9 ?_;clear hs9 e9
  try have hlB1:=hB1.lt
  rw [hst] at hcl;have hone:=hm.one1;obtain ⟨a0,a1,a2,a3,a4,a5,a6,a7,a8,rfl⟩:=hm.cells;refine Qb (Z 1 J (La Ap5 J ‹_› J J ?_));refine B5 J (B7 Aw4 Tryz.underlying138 Ak5 J J J (by rfl)) ?_;intro b14 w14 hb14 hs14 hx14 hB14;have hC:=hC.s0 hx14;have hr:=hr.u hx14;have hB1:=hB1.u hx14;have hO:=hO.u hx14;have hI:=hI.u hx14;have hm:=hm.u hx14;refine G1 J el138 J J hO (Blk.rd (F:=fun _=>True) ‹_› J trivial) ‹_› (by omega) (by omega) ?_;intro A2' c2' w15 hO15 hx15 hA2';have hC:=hC.step hx15 (by intro x h;have:=hOb x h;exact .inr (by omega));have hr:=hr.q hx15 (by intro x hx hf;have:=hOb x hx;have:=hF x hf;omega);have hB1:=hB1.q hx15 (by intro h;have:=hOb _ h;omega);have hI:=hI.q hx15 (by intro x hx hf;exact hf.2.2 hx);have hm:=hm.q hx15 (by intro x hx hf;have:=hOb x hx;have h1:=hf.1;have h2:=hf.2.1;omega)
  replace hO:=hO15
  refine Zc 1 J ⟨(g,j2,o++[m],css++[[a0,a1,a2,a3,a4,a5,a6,a7,a8,.int .i64 m.frm,.int .i64 m.till]],A2',c2'),⟨rfl,rfl,rfl,rfl,rfl,(R0 J (by rw [Ek5];rfl)),rfl,trivial⟩,?_,?_⟩;refine ⟨hC,hr,hB1,by rw [Ek5,Es6];exact hO,N6r.snoc (hI.mono fun z hz hzl=>?_) (hm.mono fun z hz hzl=>?_),hcl,hat2,by rw [Ek5];simp;omega,by omega⟩;exact ⟨hz.1,hzl,X1 hA2' hz.2.2 (by have:=hz.2.1;omega)⟩;exact ⟨by have:=hz.1;omega,hzl,X1 hA2' (fun h=>by have:=hOb z h;have:=hz.1;omega) (by have:=hz.2.1;omega)⟩;show g<g+1;omega
 ·try simp at h1
  have hii:i=y:=by have:=hat.hi;omega
  have hro:r=o:=by
   rw [← hcl]
   cases g with
   |zero=>rfl
   |succ g=>rw [At3,Ek0 (by omega)]
  subst hro
  refine Xb (Qa (Qd (Z 1 J (Ln Tryz.underlying138 J (Zc 1 J (A4 J (fun q0=>?_) (fun q0=>?_)))))))
  ·try simp at q0
   have q0':r.length=0:=by simpa using q0
   unfold catE;rw [Ek1 q0'];refine Qd (Z 3 J (Ca fb174 J (rbegin_c l F _ c x size (by omega) hl _ (fun z hz=>by have:=hF z hz;omega) ‹_›) ?_));rintro _ w16 ⟨rfl,hx16⟩;have hB1:=hB1.u hx16;refine Zc 1 J (Qd (Z 2 J (C9 J (B1 Ak5 Ck3 J (by rfl)) ?_)));refine Pe Bf4 J ‹_› J J ?_;intro w17 hs17 hx17 hB1;have hC:=hC.step (hx16.j hx17) (by simp<;>omega);refine Qc (A6 (D5 J J (A5 Ap5 ‹_› J J) ?_));refine ⟨hC,n6C 0 0 0 0 false none 0 0 (Bo7 l x size) (Bo7 l x size),by unfold n6C;rw [C6];rfl,Cu6 _ _ _ _⟩
  ·try simp at q0
   have q0':¬ r.length=0:=by simpa using q0
   unfold catE;rw [Ek0 q0']
   refine A7 (Qa (Qd (Z 1 J (Ln Tryz.underlying138 J (Zc 1 J (A4 J (fun q1=>?_) (fun q1=>?_)))))))
   ·try simp at q1
    have q1':r.length=1:=by omega
    obtain ⟨n,cs,rfl,rfl,hn⟩:=hI.one q1';have hone:=hn.one1;obtain ⟨a0,a1,a2,a3,a4,a5,a6,a7,a8,rfl⟩:=hn.cells;obtain ⟨g9,o9,rfl,_,_,hcell9⟩:=(hO.rd (F:=fun _=>True) (fun _ _ _=>trivial)).at_ (by omega);refine Qd (Z 1 J (C9 J (C2 Aw4 J J (by omega) (by omega)) (C9 J (E8 (vs:=[a0,a1,a2,a3,a4,a5,a6,a7,a8,.int .i64 n.frm,.int .i64 n.till]) Ap5 J (F4 _) (fun j v hj=>hcell9 j v (by simpa using hj)) J) ?_)));refine Pb (cs':=[a0,a1,a2,a3,a4,a5,a6,a7,a8,.int .i64 n.frm,.int .i64 n.till]) Bf4 J J hB1 J J hone J J ?_;intro w18 hs18 hx18 hB1;have hC:=hC.step hx18 (by simp;omega);have hn:=hn.q hx18 (by intro x hx hf;have hx:=Ek3.1 hx;have h1:=hf.1;have h2:=hf.2.1;omega);refine Qc (A6 (D5 J J (A5 Ap5 ‹_› J J) ?_));refine ⟨hC,_,rfl,hn.mono fun z hz hzl=>⟨by have:=hz.1;omega,hzl,by simp⟩⟩
   ·try simp at q1
    have q1':¬ r.length=1:=by omega
    unfold Bq7;rw [Ek0 q1'];refine A7 (Qa (C8 (S:=[]) 12 [(0,0),(0,1),(0,2),(0,3),(0,4),(0,5),(0,6),(0,7),(0,8),(0,9),(0,10),(0,11),(2,12),(2,13)] mo (by kernel_rfl) ?_));intro w19 hx19 hh19;have hB1:=hB1.u hx19;have hO:=hO.u hx19;have hI:=hI.u hx19;have hcell9:=(hO.rd (F:=fun _=>True) (fun _ _ _=>trivial)).at_ (by omega);obtain ⟨g9,o9,rfl,_,_,hcell9⟩:=hcell9;have h9:=hcell9 (0*11+9) _ (hI.row 0 (by omega) 9 _ (hI.get 0 (by omega)).ends.1);have h10:=hcell9 ((r.length - 1)*11+10) _ (hI.row (r.length - 1) (by omega) 10 _ (hI.get (r.length - 1) (by omega)).ends.2);refine Z 2 J (D6 J (C2 Aw4 J J (by omega) (by omega)) (Fa Cx1 J (D6 J (E0 o3 J h9 (by simp;done)) ?_)));refine Z 2 J (Ln Tryz.underlying138 J (Su J J (by omega) (D6 J (C2 Aw4 J J (by omega) (by omega)) (Fa Ed6 J (D6 J (E0 o3 J (by have e:(((r.length:Nat):Int) - 1).toNat=r.length - 1:=(by omega);rw [e,Em3];exact h10) (by simp;done)) ?_)))));refine C9 J (B1 Ak5 Ck3 J (by rfl)) ?_;refine Pe Bf4 J ‹_› J J ?_;intro w20 hs20 hx20 hB1;have hC:=hC.step (hx19.j hx20) (by simp<;>omega);have hO:=(by exact hO.q hx20 (by intro x hx;simp at hx;left;omega));have hI:=hI.q hx20 (by intro x hx hf;have hx:=Ek3.1 hx;have h1:=hf.1;have h2:=hf.2.1;omega);refine Qc (A6 (D5 J J (A5 Ap5 ‹_› J J) ?_));refine ⟨hC,n6C 4 0 0 0 false _ r.length c' _ _,by unfold n6C;rw [C6];rfl,Dy9 _ _ _ _ _ _ _ (hO.rd fun z h1 h2=>⟨by omega,h2,by simp⟩) (hI.mono fun z hz hzl=>⟨by have:=hz.1;omega,hzl,by simp⟩)⟩
theorem Shp.low {l:List RTk} {d:Nat→Nat} {a:Nat→Bool} (h:Shp l d a):∀ i,i≤l.length→d i≤i
 |0,_=>by rw [h.d0];exact El1 _
 |i+1,hi=>by
  have h1:=Shp.low h i (by omega);rcases h.st i (by omega) with ⟨_,h2,_⟩|⟨_,h2,_⟩|⟨_,h2,_⟩|⟨_,h2,_⟩|⟨_,_,h2,_⟩<;>omega
theorem ralt_c (l:List RTk) (A:Option Addr) (c:Nat) (size:Int) (f:Nat) (hl:l.length≤100000) (hA:RCatC l A c size f):RAltC l A c size (f+1):=by
 intro dd aa D x y F w hS hR hf hF hr;have hC:=A8 [] w;have hyl:=hR.len;have hxy:=hR.le;have hP:At5 l size (f+1) true x y=Bq7 5 (Ag2 l (fun i k=>At5 l size f false i k) y (y+2 - x) x x 0 []):=rfl;rw [hP];generalize hr0:Ag2 l (fun i k=>At5 l size f false i k) y (y+2 - x) x x 0 []=r;refine D4 Tryz.func120 J J (Qd (B5 J (B8 Ak5 J) ?_));intro b1 w1 hb1 hs1 hx1 hB1;have hC:=hC.s0 hx1;have hr:=hr.u hx1
 refine Qc (Qd (Zc 1 J (Qd (Zc 3 J (Qa (Qd (Zc 2 J (B2 (D8 (σ:=Nat × Nat × Nat × Int × List R6 × List (List Value) × Option Addr × Nat) (fun (g,i,at_,e,o,css,A',c')=>[(0,.slice A l.length c),(1,.int .i64 (x:Nat)),(2,.int .i64 (y:Nat)),(3,.int .i64 size),(8,.pointer (some ⟨b1,0,none⟩)),(9,.slice A' o.length c'),(10,.int .i64 e),(11,.int .i64 (at_:Nat)),(12,.int .i64 (i:Nat))]) (fun (g,i,at_,e,o,css,A',c') wr=>Chg [] w wr∧Rd F wr 10 A l.length (V4 l)∧Blk wr b1 [.int .i64 0,.int .u64 0,.int .u64 0,.int .u64 0,.int .u64 0,.int .i64 0,.int .i64 0,.bool false,.slice none 0 0,.int .i64 0,.int .i64 0] 140∧Own wr (b1+1) 140 11 A' o.length c' (List.flatten css)∧N6r (FR (b1+1) wr.heap.size (F7 A')) wr o css∧Ag2 l (fun i k=>At5 l size f false i k) y g i at_ e o=r∧o.length≤i∧y+1<i+g∧i≤y+1∧(i≤y→AtB l dd aa D x y i at_∧e=(dd i:Int) - D)∧(i=y+1→1≤o.length)) (fun (g,i,at_,e,o,css,A',c') wr=>g) (y+2 - x,x,x,0,[],[],none,0) (sb J) ?_ ?_)))))))))
 ·exact ⟨hC,hr,hB1,Own.nil _ _ _ _,by rw [N6r],hr0,El0 _,by omega,by omega,fun _=>⟨⟨El1 _,El1 _,hxy,hR.dx,hR.ax,fun m h1 h2=>by omega⟩,by rw [hR.dx];omega⟩,fun h=>by omega⟩
 rintro ⟨g,i,at_,e,o,css,A',c'⟩ w9 ⟨hC,hr,hB1,hO,hI,hcl,hol,hfu,hiy,hst,hne⟩;have hOb:=hO.blk
 refine Qa (Qd (Zc 3 J (A4 J (fun h1=>?_) (fun h1=>?_))))
 ·try simp at h1
  have hin:i≤y:=by omega
  obtain ⟨hat,he⟩:=hst hin;have hdlow:=Shp.low hS i (by omega);have hdlowD:=Shp.low hS x (by omega);rw [hR.dx] at hdlowD;obtain ⟨g,rfl⟩:∃ q,g=q+1:=⟨g - 1,by omega⟩;rw [Ag2,Ek1 hin] at hcl
  have hcells:i<l.length→∃ gA off,A=some ⟨gA,off,none⟩∧w9.cell? ⟨gA,off+(i*10+0),none⟩=some (.int .i64 (rkd l i)):=fun hil=>by
   obtain ⟨gA,off,hAe,hFg,hlt,hcell⟩:=hr.at_ (by omega);exact ⟨gA,off,hAe,hcell (i*10+0) _ ((N9 l i 0 hil (by omega)).trans J)⟩
  refine A7 (Qa (B2 (I3 (fun e9 wr=>Sub [(0,.slice A l.length c),(1,.int .i64 (x:Nat)),(2,.int .i64 (y:Nat)),(3,.int .i64 size),(8,.pointer (some ⟨b1,0,none⟩)),(9,.slice A' o.length c'),(10,.int .i64 (dpR l i y e)),(11,.int .i64 (at_:Nat)),(12,.int .i64 (i:Nat))] e9∧Chg [] w wr∧Rd F wr 10 A l.length (V4 l)∧Blk wr b1 [.int .i64 0,.int .u64 0,.int .u64 0,.int .u64 0,.int .u64 0,.int .i64 0,.int .i64 0,.bool false,.slice none 0 0,.int .i64 0,.int .i64 0] 140∧Own wr (b1+1) 140 11 A' o.length c' (List.flatten css)∧N6r (FR (b1+1) wr.heap.size (F7 A')) wr o css) ?_ ?_)))
  ·refine Qd (Zc 3 J (A4 J (fun h2=>?_) (fun h2=>?_)))
   ·try simp at h2
    obtain ⟨gA,off,rfl,hc0⟩:=hcells (by omega)
    refine Qa (Qd (Z 2 J (C9 J (C2 Am2 J J (by omega) (by omega)) (Fa U0 J (Lc o3 J hc0 (Z 2 J (C0 (d:=29) J (fun k1=>?_) (fun k1=>?_))))))))
    ·try simp at k1
     have hdp:dpR l i y e=e+1:=by unfold dpR;rw [Ek1 (by omega),Ek1 (.inl k1)]
     refine Qk J (Qk J (Qk J (Qk J (Qk J (Qk J (Zc 1 J (E3 J (Qb (Z 1 J (Ad J J (by omega) (Zc 1 J (Qd (Z 2 J (C9 J (C2 Am2 J J (by omega) (by omega)) (Fa U0 J (Lc o3 J hc0 (Zc 1 J (A4 J (fun k3=>?_) (fun k3=>?_)))))))))))))))))))
     ·try simp at k3
      exfalso;omega
     ·try simp at k3
      refine A7 ⟨⟨rfl,rfl,rfl,rfl,rfl,rfl,(G2 J hdp.symm),rfl,rfl,trivial⟩,?_⟩;exact ⟨hC,hr,hB1,hO,hI⟩
    ·try simp at k1
     refine Qu J (Z 1 J (Qu J (Z 1 J (Qu J (C9 J (C2 Am2 J J (by omega) (by omega)) (Qu J (Fa U0 J (Qu J (Lc o3 J hc0 (Qu J (Zc 2 J (A4 J (fun k2=>?_) (fun k2=>?_)))))))))))))
     ·try simp at k2
      have hdp:dpR l i y e=e+1:=by unfold dpR;rw [Ek1 (by omega),Ek1 (.inr k2)]
      refine Qb (Z 1 J (Ad J J (by omega) (Zc 1 J (Qd (Z 2 J (C9 J (C2 Am2 J J (by omega) (by omega)) (Fa U0 J (Lc o3 J hc0 (Zc 1 J (A4 J (fun k3=>?_) (fun k3=>?_)))))))))))
      ·try simp at k3
       exfalso;omega
      ·try simp at k3
       refine A7 ⟨⟨rfl,rfl,rfl,rfl,rfl,rfl,(G2 J hdp.symm),rfl,rfl,trivial⟩,?_⟩;exact ⟨hC,hr,hB1,hO,hI⟩
     ·try simp at k2
      refine A7 (Qd (Z 2 J (C9 J (C2 Am2 J J (by omega) (by omega)) (Fa U0 J (Lc o3 J hc0 (Zc 1 J (A4 J (fun k3=>?_) (fun k3=>?_))))))))
      ·try simp at k3
       have hdp:dpR l i y e=e - 1:=by unfold dpR;rw [Ek1 (by omega),Ek0 (Eu0.2 ⟨k1,k2⟩),Ek1 k3]
       refine Qb (Z 1 J (Su J J (by omega) (Zc 1 J ⟨⟨rfl,rfl,rfl,rfl,rfl,rfl,(G2 J hdp.symm),rfl,rfl,trivial⟩,?_⟩)));exact ⟨hC,hr,hB1,hO,hI⟩
      ·try simp at k3
       have hdp:dpR l i y e=e:=by unfold dpR;rw [Ek1 (by omega),Ek0 (Eu0.2 ⟨k1,k2⟩),Ek0 k3]
       refine A7 ⟨⟨rfl,rfl,rfl,rfl,rfl,rfl,(G2 J hdp.symm),rfl,rfl,trivial⟩,?_⟩;exact ⟨hC,hr,hB1,hO,hI⟩
   ·try simp at h2
    have hdp:dpR l i y e=e:=by unfold dpR;rw [Ek0 (by omega)]
    refine A7 ⟨⟨rfl,rfl,rfl,rfl,rfl,rfl,(G2 J hdp.symm),rfl,rfl,trivial⟩,?_⟩;exact ⟨hC,hr,hB1,hO,hI⟩
  rintro e9 w20 ⟨hs9,hC,hr,hB1,hO,hI⟩;refine I2 _ hs9 ?_;clear hs9 e9;have hOb:=hO.blk
  try have hlB1:=hB1.lt
  refine Qd (Z 4 J (C0 (d:=50) J (fun q1=>?_) (fun q1=>?_)))
  ·try simp at q1
   have q1':i=y:=by omega
   rw [Ek1 (.inl q1')] at hcl;refine Qk J (Qk J (Qk J (Qk J (Qk J (Qk J (Qk J (H1 J J J J (fun h=>by cases h) ?_)))))));refine H1 J J J J (fun h=>by cases h) ?_;refine Qk J (Zc 1 J (E3 J (Qd (Z 5 J (Ca fb146 J (hA dd aa D at_ i F _ hS (hat.rng hR (by rw [q1'];exact hR.dy)) hat.nb (by have:=hat.lo;omega) (fun z hz=>by have:=hF z hz;omega) ‹_›) ?_)))));rintro _ w2 ⟨hx2,cs1,rfl,hm⟩;have hz2:=hx2.size;have hone:=hm.one1;generalize At5 l size f false at_ i=m at*;obtain ⟨a0,a1,a2,a3,a4,a5,a6,a7,a8,rfl⟩:=hm.cells;refine B5 J (B7 Aw4 Tryz.underlying138 Ak5 J J J (by rfl)) ?_;intro b3 w3 hb3 hs3 hx3 hB3;have hC:=hC.s0 (hx2.s0 hx3);have hr:=hr.u (hx2.s0 hx3);have hB1:=hB1.u (hx2.s0 hx3);have hO:=hO.u (hx2.s0 hx3);have hI:=hI.u (hx2.s0 hx3);have hm:=hm.u hx3;refine G1 J el138 J J hO (Blk.rd (F:=fun _=>True) ‹_› J trivial) ‹_› (by omega) (by omega) ?_;intro A2' c2' w4 hO4 hx4 hA2';have hC:=hC.step hx4 (by intro x h;have:=hOb x h;exact .inr (by omega));have hr:=hr.q hx4 (by intro x hx hf;have:=hOb x hx;have:=hF x hf;omega);have hB1:=hB1.q hx4 (by intro h;have:=hOb _ h;omega);have hI:=hI.q hx4 (by intro x hx hf;exact hf.2.2 hx);have hm:=hm.q hx4 (by intro x hx hf;have:=hOb x hx;have h1:=hf.1;have h2:=hf.2.1;omega)
   replace hO:=hO4
   refine Zc 1 J (Qb (Z 1 J (Ad J J (by omega) (Zc 1 J (Qb (Z 1 J (Ad J J (by omega) (Zc 1 J ⟨(g,i+1,i+1,dpR l i y e,o++[m],css++[[a0,a1,a2,a3,a4,a5,a6,a7,a8,.int .i64 m.frm,.int .i64 m.till]],A2',c2'),⟨rfl,rfl,rfl,rfl,rfl,(R0 J (by rw [Ek5];rfl)),rfl,rfl,rfl,trivial⟩,?_,?_⟩))))))));refine ⟨hC,hr,hB1,by rw [Ek5,Es6];exact hO,N6r.snoc (hI.mono fun z hz hzl=>?_) (hm.mono fun z hz hzl=>?_),hcl,by rw [Ek5];simp;omega,by omega,by omega,fun h=>by omega,fun _=>by rw [Ek5];simp⟩;exact ⟨hz.1,hzl,X1 hA2' hz.2.2 (by have:=hz.2.1;omega)⟩;exact ⟨by have:=hz.1;omega,hzl,X1 hA2' (fun h=>by have:=hOb z h;have:=hz.1;omega) (by have:=hz.2.1;omega)⟩;show g<g+1;omega
  ·try simp at q1
   have hcells:i<l.length→∃ gA off,A=some ⟨gA,off,none⟩∧w20.cell? ⟨gA,off+(i*10+0),none⟩=some (.int .i64 (rkd l i)):=fun hil=>by
    obtain ⟨gA,off,hAe,hFg,hlt,hcell⟩:=hr.at_ (by omega);exact ⟨gA,off,hAe,hcell (i*10+0) _ ((N9 l i 0 hil (by omega)).trans J)⟩
   obtain ⟨gA,off,rfl,hc0⟩:=hcells (by omega);have hdeep:=hat.deep hS hR (by omega) he
   refine Qu J (Z 1 J (Qu J (Z 1 J (Qu J (C9 J (C2 Am2 J J (by omega) (by omega)) (Qu J (Fa U0 J (Qu J (Lc o3 J hc0 (Qu J (Z 1 J (Qu J (Z 1 J (C0 (d:=57) J (fun q2=>?_) (fun q2=>?_)))))))))))))))
   ·try simp at q2
    refine Qu J (Z 1 J (Qu J (Z 1 J (Qu J (Zc 2 J (A4 J (fun q3=>?_) (fun q3=>?_)))))))
    ·try simp at q3
     have hdi:dd i=D:=by omega
     rw [Ek1 (.inr ⟨q2,q3⟩)] at hcl;refine Qd (Z 5 J (Ca fb146 J (hA dd aa D at_ i F _ hS (hat.rng hR hdi) hat.nb (by have:=hat.lo;omega) (fun z hz=>by have:=hF z hz;omega) ‹_›) ?_));rintro _ w5 ⟨hx5,cs1,rfl,hm⟩;have hz5:=hx5.size;have hone:=hm.one1;generalize At5 l size f false at_ i=m at*;obtain ⟨a0,a1,a2,a3,a4,a5,a6,a7,a8,rfl⟩:=hm.cells;refine B5 J (B7 Aw4 Tryz.underlying138 Ak5 J J J (by rfl)) ?_;intro b6 w6 hb6 hs6 hx6 hB6;have hC:=hC.s0 (hx5.s0 hx6);have hr:=hr.u (hx5.s0 hx6);have hB1:=hB1.u (hx5.s0 hx6);have hO:=hO.u (hx5.s0 hx6);have hI:=hI.u (hx5.s0 hx6);have hm:=hm.u hx6;refine G1 J el138 J J hO (Blk.rd (F:=fun _=>True) ‹_› J trivial) ‹_› (by omega) (by omega) ?_;intro A2' c2' w7 hO7 hx7 hA2';have hC:=hC.step hx7 (by intro x h;have:=hOb x h;exact .inr (by omega));have hr:=hr.q hx7 (by intro x hx hf;have:=hOb x hx;have:=hF x hf;omega);have hB1:=hB1.q hx7 (by intro h;have:=hOb _ h;omega);have hI:=hI.q hx7 (by intro x hx hf;exact hf.2.2 hx);have hm:=hm.q hx7 (by intro x hx hf;have:=hOb x hx;have h1:=hf.1;have h2:=hf.2.1;omega)
     replace hO:=hO7
     refine Zc 1 J (Qb (Z 1 J (Ad J J (by omega) (Zc 1 J (Qb (Z 1 J (Ad J J (by omega) (Zc 1 J ⟨(g,i+1,i+1,dpR l i y e,o++[m],css++[[a0,a1,a2,a3,a4,a5,a6,a7,a8,.int .i64 m.frm,.int .i64 m.till]],A2',c2'),⟨rfl,rfl,rfl,rfl,rfl,(R0 J (by rw [Ek5];rfl)),rfl,rfl,rfl,trivial⟩,?_,?_⟩))))))));refine ⟨hC,hr,hB1,by rw [Ek5,Es6];exact hO,N6r.snoc (hI.mono fun z hz hzl=>?_) (hm.mono fun z hz hzl=>?_),hcl,by rw [Ek5];simp;omega,by omega,by omega,fun h=>⟨hat.cut (by omega) (by have:=(hdeep.2 q2).1;omega) (hdeep.2 q2).2,hdeep.1⟩,fun _=>by rw [Ek5];simp⟩;exact ⟨hz.1,hzl,X1 hA2' hz.2.2 (by have:=hz.2.1;omega)⟩;exact ⟨by have:=hz.1;omega,hzl,X1 hA2' (fun h=>by have:=hOb z h;have:=hz.1;omega) (by have:=hz.2.1;omega)⟩;show g<g+1;omega
    ·try simp at q3
     rw [Ek0 (by intro h;rcases h with h|h;exact q1 (by omega);exact q3 h.2)] at hcl;refine A7 (Qb (Z 1 J (Ad J J (by omega) (Zc 1 J ⟨(g,i+1,at_,dpR l i y e,o,css,A',c'),sb J,?_,?_⟩))));refine ⟨hC,hr,hB1,hO,hI,hcl,by omega,by omega,by omega,fun h=>⟨hat.next (by omega) fun hh=>q3 (by have:=(hdeep.2 q2).1;omega),hdeep.1⟩,fun h=>by omega⟩;show g<g+1;omega
   ·try simp at q2
    rw [Ek0 (by intro h;rcases h with h|h;exact q1 (by omega);exact q2 h.1)] at hcl;refine Qk J (Qk J (Qu J (Zc 2 J (E4 J (A7 (Qb (Z 1 J (Ad J J (by omega) (Zc 1 J ⟨(g,i+1,at_,dpR l i y e,o,css,A',c'),sb J,?_,?_⟩)))))))));refine ⟨hC,hr,hB1,hO,hI,hcl,by omega,by omega,by omega,fun h=>⟨hat.next (by omega) fun hh=>q2 hh.1,hdeep.1⟩,fun h=>by omega⟩;show g<g+1;omega
 ·try simp at h1
  have hii:i=y+1:=by omega
  have hne1:=hne hii
  have hro:r=o:=by
   rw [← hcl]
   cases g with
   |zero=>rfl
   |succ g=>rw [Ag2,Ek0 (by omega)]
  subst hro
  refine Xb (Qa (Qd (Z 1 J (Ln Tryz.underlying138 J (Zc 1 J (A4 J (fun q1=>?_) (fun q1=>?_)))))))
  ·try simp at q1
   have q1':r.length=1:=by omega
   obtain ⟨n,cs,rfl,rfl,hn⟩:=hI.one q1';have hone:=hn.one1;obtain ⟨a0,a1,a2,a3,a4,a5,a6,a7,a8,rfl⟩:=hn.cells;obtain ⟨g9,o9,rfl,_,_,hcell9⟩:=(hO.rd (F:=fun _=>True) (fun _ _ _=>trivial)).at_ (by omega);refine Qd (Z 1 J (C9 J (C2 Aw4 J J (by omega) (by omega)) (C9 J (E8 (vs:=[a0,a1,a2,a3,a4,a5,a6,a7,a8,.int .i64 n.frm,.int .i64 n.till]) Ap5 J (F4 _) (fun j v hj=>hcell9 j v (by simpa using hj)) J) ?_)));refine Pb (cs':=[a0,a1,a2,a3,a4,a5,a6,a7,a8,.int .i64 n.frm,.int .i64 n.till]) Bf4 J J hB1 J J hone J J ?_;intro w8 hs8 hx8 hB1;have hC:=hC.step hx8 (by simp;omega);have hn:=hn.q hx8 (by intro x hx hf;have hx:=Ek3.1 hx;have h1:=hf.1;have h2:=hf.2.1;omega);refine Qc (A6 (D5 J J (A5 Ap5 ‹_› J J) ?_));refine ⟨hC,_,rfl,hn.mono fun z hz hzl=>⟨by have:=hz.1;omega,hzl,by simp⟩⟩
  ·try simp at q1
   have q1':¬ r.length=1:=by omega
   unfold Bq7;rw [Ek0 q1'];refine A7 (Qa (C8 (S:=[]) 12 [(0,0),(0,1),(0,2),(0,3),(0,4),(0,5),(0,6),(0,7),(0,8),(0,9),(0,10),(0,11),(2,12),(2,13)] mo (by kernel_rfl) ?_));intro w9 hx9 hh9;have hB1:=hB1.u hx9;have hO:=hO.u hx9;have hI:=hI.u hx9;have hcell9:=(hO.rd (F:=fun _=>True) (fun _ _ _=>trivial)).at_ (by omega);obtain ⟨g9,o9,rfl,_,_,hcell9⟩:=hcell9;have h9:=hcell9 (0*11+9) _ (hI.row 0 (by omega) 9 _ (hI.get 0 (by omega)).ends.1);have h10:=hcell9 ((r.length - 1)*11+10) _ (hI.row (r.length - 1) (by omega) 10 _ (hI.get (r.length - 1) (by omega)).ends.2);refine Z 2 J (D6 J (C2 Aw4 J J (by omega) (by omega)) (Fa Cx1 J (D6 J (E0 o3 J h9 (by simp;done)) ?_)));refine Z 2 J (Ln Tryz.underlying138 J (Su J J (by omega) (D6 J (C2 Aw4 J J (by omega) (by omega)) (Fa Ed6 J (D6 J (E0 o3 J (by have e:(((r.length:Nat):Int) - 1).toNat=r.length - 1:=(by omega);rw [e,Em3];exact h10) (by simp;done)) ?_)))));refine C9 J (B1 Ak5 Ck3 J (by rfl)) ?_;refine Pe Bf4 J ‹_› J J ?_;intro w10 hs10 hx10 hB1;have hC:=hC.step (hx9.j hx10) (by simp<;>omega);have hO:=(by exact hO.q hx10 (by intro x hx;simp at hx;left;omega));have hI:=hI.q hx10 (by intro x hx hf;have hx:=Ek3.1 hx;have h1:=hf.1;have h2:=hf.2.1;omega);refine Qc (A6 (D5 J J (A5 Ap5 ‹_› J J) ?_));refine ⟨hC,n6C 5 0 0 0 false _ r.length c' _ _,by unfold n6C;rw [C6];rfl,Dy9 _ _ _ _ _ _ _ (hO.rd fun z h1 h2=>⟨by omega,h2,by simp⟩) (hI.mono fun z hz hzl=>⟨by have:=hz.1;omega,hzl,by simp⟩)⟩
theorem Bz2 (l:List RTk) (A:Option Addr) (c:Nat) (size:Int) (hl:l.length≤100000):∀ f,RCatC l A c size f∧RAltC l A c size f
 |0=>⟨fun dd aa D x y F w _ _ _ h=>absurd h (by omega),fun dd aa D x y F w _ _ h=>absurd h (by omega)⟩
 |f+1=>⟨rcat_c l A c size f hl (Bz2 l A c size hl f).2,ralt_c l A c size f hl (Bz2 l A c size hl f).1⟩
theorem Dy8 (F:Nat→Prop) (w:World):N6 F w default [.int .i64 0,.int .u64 0,.int .u64 0,.int .u64 0,.int .u64 0,.int .i64 0,.int .i64 0,.bool false,.slice none 0 0,.int .i64 0,.int .i64 0]:=by
 have h:=Cu6 (F:=F) (w:=w) 0 0 0 0;unfold n6C at h;rw [C6] at h;exact h
theorem Dv4 (s:ByteArray) (hs:s.size≤1000) (w:World):Calls P 88 #[.string s] w (Ret fun u w'=>Chg [] w w'∧∃ cs,u= .tuple #[.agg cs.toArray,endV (M3 (B6 s)).2]∧N6 (FR w.heap.size w'.heap.size []) w' (M3 (B6 s)).1 cs):=by
 have hC:=A8 [] w;have hsl:=E5 s;have hlt:=R5 s;have hll:=Bs7 (B6 s) hlt;have hkd:=Dv9 (B6 s);have hP:M3 (B6 s)=if (K2 (B6 s)).2.2≠0 then (default,(K2 (B6 s)).2) else if (Bj0 (K2 (B6 s)).1 (B6 s).length).2≠0 then (default,Bj0 (K2 (B6 s)).1 (B6 s).length) else (At5 (K2 (B6 s)).1 (B6 s).length (2*(K2 (B6 s)).1.length+2) true 0 (K2 (B6 s)).1.length,0,0):=rfl
 generalize M3 (B6 s)=r at*;refine D4 Tryz.func88 J J (Qd (B5 J (B8 Ak5 J) ?_));intro b1 w1 hb1 hs1 hx1 hB1;refine B5 J (B8 Bf2 J) ?_;intro b2 w2 hb2 hs2 hx2 hB2;refine Qc (Qd (Z 1 J (Ca fb118 J (rscan_c s hs _) ?_)));rintro _ w3 ⟨hx3,A,c,rfl,hr'⟩;have hz3:=hx3.size;have hC:=hC.s0 ((hx1.s0 hx2).s0 hx3);have hB1:=hB1.u (hx2.s0 hx3);have hB2:=hB2.u hx3;have hr:=hr';clear hr';generalize K2 (B6 s)=T at*;rw [hsl] at hP;obtain ⟨T,p,e⟩:=T;simp only [] at hP hll hkd hr
 refine Zc 7 J (Qa (Qd (Zc 2 J (A4 J (fun e1=>?_) (fun e1=>?_)))))
 ·try simp at e1
  rw [Ek1 e1] at hP;subst hP;refine Qd (C9 J (B1 Ak5 Ck3 J (by rfl)) ?_);refine Z 2 J (C9 J (B1 Bf2 Ck2 J (by rfl)) ?_);refine Pe Bf4 J ‹_› J J ?_;intro w4 hs4 hx4 hB1;have hB2:=hB2.q hx4 (by simp;omega);refine Pe Bh9 J ‹_› J J ?_;intro w5 hs5 hx5 hB2;have hC:=hC.step (hx4.j hx5) (by simp<;>omega);have hB1:=hB1.q hx5 (by simp;omega);refine Qc (A6 (C7 J J (A5 Ap5 ‹_› J J) J (A5 Br1 ‹_› J J) ?_));exact ⟨hC,_,rfl,Dy8 _ _⟩
 ·try simp at e1
  rw [Ek0 (by simpa using e1)] at hP;refine A7 (Qd (Z 2 J (C9 J (E9 Tryz.underlying9 J) (Ca fb119 J (rfirst_c T s.size _ A c (by omega) _ (fun z (hz:FR w2.heap.size w3.heap.size [] z)=>by have:=hz.2.1;omega) ‹_›) ?_))));rintro _ w6 ⟨hx6,rfl⟩;have hz6:=hx6.size;have hsh:=At2 (size:=(s.size:Int)) hkd;generalize Bj0 T (s.size:Nat)=q at*;obtain ⟨q1,q2⟩:=q;refine B5 J (B8 Bf2 J) ?_;intro b7 w7 hb7 hs7 hx7 hB7;have hr:=hr.u (hx6.s0 hx7);refine Pe Bh9 J ‹_› J J ?_;intro w8 hs8 hx8 hB7;have hC:=hC.step ((hx6.j hx7).j hx8) (by simp<;>omega);have hB1:=hB1.q ((hx6.j hx7).j hx8) (by simp<;>omega);have hB2:=hB2.q ((hx6.j hx7).j hx8) (by simp<;>omega);have hr:=hr.q hx8 (by intro x hx hf;have hx:=Ek3.1 hx;have h1:=hf.1;have h2:=hf.2.1;omega);refine Qc (Qa (Qd (Fa Cx0 J (Lb o3 J ‹_› (by rfl) ?_))))
  refine Zc 1 J (A4 J (fun e2=>?_) (fun e2=>?_))
  ·try simp at e2
   rw [Ek1 e2] at hP;subst hP;refine Qa (C8 (S:=[b1]) 3 [(0,0),(0,1),(1,2),(2,3)] mo (by kernel_rfl) ?_);intro w9 hx9 hh9;have hB1:=hB1.u hx9;have hB7:=hB7.u hx9;have hCS9:=A8 ([b1]) w9;refine D6 J (B1 Ak5 Ck3 J (by rfl)) ?_;refine D6 J (C1 Br1 J ‹_› (by simp;omega) J J) ?_;refine H8 (G3 Bf4 J J ‹_› J J J J J) ?_;intro w10 hs10 hx10 hB1;have hB2:=hB2.q (hx9.j hx10) (by simp<;>omega);have hCS9:=hCS9.step hx10 (by simp;done);refine ⟨hCS9,?_⟩;refine Pe Bh9 J ‹_› J J ?_;intro w11 hs11 hx11 hB2;have hC:=hC.step ((hx9.j hx10).j hx11) (by simp<;>omega);have hB1:=hB1.q hx11 (by simp;omega);refine Qc (A6 (C7 J J (A5 Ap5 ‹_› J J) J (A5 Br1 ‹_› J J) ?_));exact ⟨hC,_,rfl,Dy8 _ _⟩
  ·try simp at e2
   have e2':q2=0:=by simpa using e2
   rw [Ek0 (by simp [e2'])] at hP;subst hP;have hS:=hsh e2';refine A7 (Qd (Z 2 J (Ln Tryz.underlying187 J (Z 1 J (C9 J (E9 Tryz.underlying9 J) (Ca fb120 J ((Bz2 T A c s.size (by omega) (2*T.length+2)).2 _ _ 0 0 T.length _ _ hS hS.all (by omega) (fun z (hz:FR w2.heap.size w3.heap.size [] z)=>by have:=hz.2.1;omega) ‹_›) ?_))))));rintro _ w12 ⟨hx12,cs,rfl,hn⟩;have hB1:=hB1.u hx12;have hone:=hn.one1;obtain ⟨a0,a1,a2,a3,a4,a5,a6,a7,a8,rfl⟩:=hn.cells;refine C9 J (B1 Bf2 Ck2 J (by rfl)) ?_;refine Pb (cs':=[a0,a1,a2,a3,a4,a5,a6,a7,a8,.int .i64 (At5 T (↑s.size) (2*T.length+2) true 0 T.length).frm,.int .i64 (At5 T (↑s.size) (2*T.length+2) true 0 T.length).till]) Bf4 J J hB1 J J hone J J ?_;intro w13 hs13 hx13 hB1;have hB2:=hB2.q (hx12.j hx13) (by simp<;>omega);have hn:=hn.q hx13 (by intro x hx hf;have hx:=Ek3.1 hx;have h1:=hf.1;have h2:=hf.2.1;omega);refine Pe Bh9 J ‹_› J J ?_;intro w14 hs14 hx14 hB2;have hC:=hC.step ((hx12.j hx13).j hx14) (by simp<;>omega);have hB1:=hB1.q hx14 (by simp;omega);have hn:=hn.q hx14 (by intro x hx hf;have hx:=Ek3.1 hx;have h1:=hf.1;have h2:=hf.2.1;omega);refine Qc (A6 (C7 J J (A5 Ap5 ‹_› J J) J (A5 Br1 ‹_› J J) ?_));exact ⟨hC,_,rfl,hn.mono fun z hz hzl=>⟨by have:=hz.1;omega,hzl,by simp⟩⟩
def K6 (k mn mx:Int) (n:Nat):Prop:=(k=0∧n=0)∨(k=1∧n=0)∨((k=2∨k=3)∧n=1)∨((k=4∨k=5)∧1≤n∧n≤200000)∨(k=6∧n=1∧0≤mn∧mn≤1000∧ -1≤mx∧mx≤1000)
mutual
def G6:R6→Prop
 | .node k _ mn mx _ l _ _=>K6 k mn mx l.length∧G6s l
def G6s:List R6→Prop
 |[]=>True
 |t::r=>G6 t∧G6s r
end
theorem Ej1 {l:List R6} (h:∀ t∈l,G6 t):G6s l:=by
 induction l with
 |nil=>rw [G6s];trivial
 |cons t r ih=>rw [G6s];exact ⟨h t (Em1 ..),ih fun x hx=>h x (Em8 _ hx)⟩
def TokB (l:List RTk):Prop:=∀ i,0≤(l.getD i default).mn∧(l.getD i default).mn≤1000∧ -1≤(l.getD i default).mx∧(l.getD i default).mx≤1000
theorem Cm2 {l:List RTk} {alt:Nat→Nat→R6} {i:Nat} (hk:rkd l i=0∨((rkd l i=1∨rkd l i=2)∧G6 (alt (i+1) (Bd5 l (i+1)).toNat))):G6 (Av8 l alt i).1:=by
 unfold Av8
 rcases hk with h|⟨h,hg⟩
 ·rw [Ek1 h,G6];exact ⟨.inr (.inl ⟨rfl,rfl⟩),by rw [G6s];trivial⟩
 ·rw [Ek0 (by omega),G6];exact ⟨.inr (.inr (.inl ⟨by omega,rfl⟩)),Ej1 fun t ht=>by rw [Ek3] at ht;subst ht;exact hg⟩
theorem Dk0 {l:List RTk} {to:Nat} {x:R6 × Nat} (hB:TokB l) (h:G6 x.1):G6 (Al8 l to x).1:=by
 unfold Al8
 split
 ·show G6 (cntN _ _);unfold cntN;rw [G6];obtain ⟨h1,h2,h3,h4⟩:=hB x.2;exact ⟨.inr (.inr (.inr (.inr ⟨rfl,rfl,h1,h2,h3,h4⟩))),Ej1 fun t ht=>by rw [Ek3] at ht;subst ht;exact h⟩
 ·exact h
theorem Bu8 {k:Int} {o:List R6} (hk:k=4∨k=5) (h:∀ t∈o,G6 t) (h1:1≤o.length) (h2:o.length≤200000):G6 (Bq7 k o):=by
 unfold Bq7
 split
 ·match o,h1 with
  |t::r,_=>exact h t (Em1 ..)
 ·rw [G6];exact ⟨.inr (.inr (.inr (.inl ⟨hk,h1,h2⟩))),Ej1 h⟩
theorem Bt0 {l:List RTk} {dd:Nat→Nat} {aa:Nat→Bool} {D x y:Nat} {alt:Nat→Nat→R6} (hl:l.length≤100000) (hB:TokB l) (hS:Shp l dd aa) (hR:Rng l dd aa D x y) (hN:Bg0 l dd D x y) (ha:∀ i k,x≤i→k<y→Rng l dd aa (D+1) (i+1) k→G6 (alt (i+1) k)):∀ (f i:Nat) (o:List R6),AtI l dd aa D x y i→(∀ t∈o,G6 t)→o.length≤i→(∀ t∈At3 l alt y f i o,G6 t)∧(At3 l alt y f i o).length≤max i y
 |0,i,o,_,ho,hol=>by rw [At3];exact ⟨ho,by omega⟩
 |f+1,i,o,hat,ho,hol=>by
  rw [At3]
  split
  ·rename_i hin
   have hyl:=hR.len;have hlo:=hat.lo;have hkd:=hat.kind hS hR hN hin
   have hg:G6 (Av8 l alt i).1∧∃ j,(Av8 l alt i).2=j∧i<j∧j≤y∧dd j=D:=by
    rcases hkd with h|h
    ·refine ⟨Cm2 (.inl h.1),i+1,?_,by omega,by omega,h.2.1⟩;unfold Av8;rw [Ek1 h.1]
    ·obtain ⟨k,hk1,hk2,hk3,hk4,hk5,hkr⟩:=hR.group hS hat.lo hin hat.di h;have:=hkr.le
     refine ⟨Cm2 (.inr ⟨h,?_⟩),k+1,?_,by omega,by omega,hk4⟩
     ·rw [hk1];exact ha i k hlo hk2 hkr
     ·unfold Av8;rw [Ek0 (by omega),hk1]
      rfl
   obtain ⟨hg1,j,hj,hij,hjy,hdj⟩:=hg;have hg2:=Dk0 (to:=y) hB hg1
   have hst:AtI l dd aa D x y (Al8 l y (Av8 l alt i)).2∧i<(Al8 l y (Av8 l alt i)).2:=by
    unfold Al8
    split
    ·rename_i h
     rw [hj] at h ⊢;exact ⟨AtI.more hS hR (by omega) h.1 hdj h.2,by show i<j+1;omega⟩
    ·rename_i h
     rw [hj] at h ⊢;exact ⟨⟨by omega,hjy,hdj,.inr fun h1 h2=>h ⟨h1,h2⟩⟩,hij⟩
   have:=Bt0 hl hB hS hR hN ha f _ (o++[(Al8 l y (Av8 l alt i)).1]) hst.1 (fun t ht=>by
    rcases En7.1 ht with h|h
    ·exact ho t h
    ·rw [Ek3] at h;subst h;exact hg2) (by rw [Ek5];simp;omega)
   refine ⟨this.1,En6 this.2 ?_⟩;have:=hst.1.hi;omega
  ·exact ⟨ho,by omega⟩
theorem Bb1 {l:List RTk} {dd:Nat→Nat} {aa:Nat→Bool} {D x y:Nat} {cat:Nat→Nat→R6} (hS:Shp l dd aa) (hR:Rng l dd aa D x y) (hc:∀ a b,x≤a→b≤y→Rng l dd aa D a b→Bg0 l dd D a b→G6 (cat a b)):∀ (f i at_:Nat) (e:Int) (o:List R6),y+1<i+f→i≤y+1→(i≤y→AtB l dd aa D x y i at_∧e=(dd i:Int) - D)→(i=y+1→1≤o.length)→(∀ t∈o,G6 t)→o.length≤i→(∀ t∈Ag2 l cat y f i at_ e o,G6 t)∧1≤(Ag2 l cat y f i at_ e o).length∧(Ag2 l cat y f i at_ e o).length≤y+1
 |0,i,at_,e,o,hf,hi,_,_,_,_=>by omega
 |f+1,i,at_,e,o,hf,hi,hst,hne,ho,hol=>by
  rw [Ag2]
  split
  ·rename_i hin
   obtain ⟨hat,he⟩:=hst hin
   have hmem:∀ u,G6 u→∀ t∈o++[u],G6 t:=fun u hu t ht=>by
    rcases En7.1 ht with h|h
    ·exact ho t h
    ·rw [Ek3] at h;subst h;exact hu
   split
   ·rename_i h
    have hdi:dd i=D:=by
     rcases h with h|h
     ·rw [h];exact hR.dy
     ·by_cases hiy:i=y
      ·rw [hiy];exact hR.dy
      ·have hd:=hat.deep hS hR (by omega) he;have:=(hd.2 h.1).1;have:=hd.1;omega
    refine Bb1 hS hR hc f (i+1) (i+1) _ _ (by omega) (by omega) (fun hi1=>?_) (fun _=>by rw [Ek5];simp) (hmem _ (hc at_ i hat.lo hin (hat.rng hR hdi) hat.nb)) (by rw [Ek5];simp;omega);have hd:=hat.deep hS hR (by omega) he
    rcases h with h|h
    ·omega
    ·exact ⟨hat.cut (by omega) (by have:=(hd.2 h.1).1;omega) (hd.2 h.1).2,hd.1⟩
   ·rename_i h
    have hiy:i≠y:=fun h2=>h (.inl h2)
    have hd:=hat.deep hS hR (by omega) he;refine Bb1 hS hR hc f (i+1) at_ _ o (by omega) (by omega) (fun hi1=>⟨hat.next (by omega) fun hh=>h (.inr ⟨hh.1,by have:=(hd.2 hh.1).1;omega⟩),hd.1⟩) (fun h2=>by omega) ho (by omega)
  ·exact ⟨ho,hne (by omega),by omega⟩
theorem Bj8 {l:List RTk} {dd:Nat→Nat} {aa:Nat→Bool} (size:Int) (hl:l.length≤100000) (hB:TokB l) (hS:Shp l dd aa):∀ (f D x y:Nat),Rng l dd aa D x y→(2*(y - x)+1<f→G6 (At5 l size f true x y))∧(Bg0 l dd D x y→2*(y - x)<f→G6 (At5 l size f false x y))
 |0,D,x,y,hR=>⟨fun h=>by omega,fun _ h=>by omega⟩
 |f+1,D,x,y,hR=>by
  have hyl:=hR.len;have hxy:=hR.le
  refine ⟨fun hf=>?_,fun hN hf=>?_⟩
  ·show G6 (Bq7 5 (Ag2 l (fun a b=>At5 l size f false a b) y (y+2 - x) x x 0 []));have:=Bb1 (cat:=fun a b=>At5 l size f false a b) hS hR (fun a b h1 h2 hr hn=>(Bj8 size hl hB hS f D a b hr).2 hn (by omega)) (y+2 - x) x x 0 [] (by omega) (by omega) (fun _=>⟨⟨El1 _,El1 _,hxy,hR.dx,hR.ax,fun m h1 h2=>by omega⟩,by rw [hR.dx];omega⟩) (fun h=>by omega) (fun t ht=>by cases ht) (El0 _);exact Bu8 (.inr J) this.1 this.2.1 (by omega)
  ·show G6 (catE l size x (At3 l (fun a b=>At5 l size f true a b) y (y+1 - x) x []));have:=Bt0 (alt:=fun a b=>At5 l size f true a b) hl hB hS hR hN (fun i k h1 h2 hr=>(Bj8 size hl hB hS f (D+1) (i+1) k hr).1 (by have:=hr.le;omega)) (y+1 - x) x [] ⟨El1 _,hxy,hR.dx,.inl hR.ax⟩ (fun t ht=>by cases ht) (El0 _);unfold catE
   split
   ·rw [G6];exact ⟨.inl ⟨rfl,rfl⟩,by rw [G6s];trivial⟩
   ·rename_i h
    exact Bu8 (.inl J) this.1 (by omega) (by have:=this.2;omega)
theorem Ae3 (L:List Nat) (t:RTk) (e:Int × Int):(Cf2 L t e).1.mn=t.mn∧(Cf2 L t e).1.mx=t.mx:=by
 unfold Cf2
 split
 ·exact ⟨rfl,rfl⟩
 ·dsimp only
  split<;>exact ⟨rfl,rfl⟩
theorem Bc6 (L:List Nat) (m n:Int) (i:Nat) (h:0≤m∧m≤1000∧ -1≤n∧n≤1000):0≤(L9 L m n i).1∧(L9 L m n i).1≤1000∧ -1≤(L9 L m n i).2.1∧(L9 L m n i).2.1≤1000:=by
 unfold L9
 split
 ·simp
 ·exact h
theorem Cz3 (L:List Nat) (hL:∀ b∈L,b<256) (at_:Nat):0≤(K0 L at_).1∧(K0 L at_).1≤1000∧ -1≤(K0 L at_).2.1∧(K0 L at_).2.1≤1000:=by
 obtain ⟨h1,h2,_⟩:=S8 L hL at_;unfold K0;dsimp only
 split
 ·exact ⟨by simp,by simp,by simp,by simp⟩
 split
 ·split
  ·obtain ⟨h3,h4,_⟩:=S8 L hL ((I9 L at_).2.1.toNat+1)
   split
   ·exact ⟨by simp,by simp,by simp,by simp⟩
   split
   ·exact ⟨by simp,by simp,by simp,by simp⟩
   ·exact Bc6 _ _ _ _ ⟨h1,h2,by omega,h4⟩
  ·exact Bc6 _ _ _ _ ⟨h1,h2,by omega,by omega⟩
 ·exact Bc6 _ _ _ _ ⟨h1,h2,by omega,h2⟩
def TB1 (t:RTk):Prop:=0≤t.mn∧t.mn≤1000∧ -1≤t.mx∧t.mx≤1000
theorem oneR_bnd (L:List Nat) (hL:∀ b∈L,b<256) (i:Nat):TB1 (Cg6 L i).1:=by
 unfold Cg6 TB1;dsimp only
 by_cases h1:L.getD i 0=92
 ·rw [Ek1 h1];simp
 rw [Ek0 h1]
 by_cases h2:L.getD i 0=91
 ·rw [Ek1 h2];simp
 rw [Ek0 h2]
 by_cases h3:L.getD i 0=40
 ·rw [Ek1 h3]
  split<;>simp
 rw [Ek0 h3]
 by_cases h4:L.getD i 0=41
 ·rw [Ek1 h4];simp
 rw [Ek0 h4]
 by_cases h5:L.getD i 0=124
 ·rw [Ek1 h5];simp
 rw [Ek0 h5]
 by_cases h6:L.getD i 0=46
 ·rw [Ek1 h6];simp
 rw [Ek0 h6]
 by_cases h7:L.getD i 0=94∨L.getD i 0=36
 ·rw [Ek1 h7];simp
 rw [Ek0 h7]
 by_cases h8:L.getD i 0=93∨L.getD i 0=125
 ·rw [Ek1 h8];simp
 rw [Ek0 h8]
 by_cases h9:L.getD i 0∉B6 Eg5
 ·rw [Ek1 h9];simp
 rw [Ek0 h9]
 split
 ·rw [(Ae3 _ _ _).1,(Ae3 _ _ _).2];simp
 split
 ·rw [(Ae3 _ _ _).1,(Ae3 _ _ _).2];simp
 split
 ·rw [(Ae3 _ _ _).1,(Ae3 _ _ _).2];exact Cz3 L hL (i+1)
 ·rw [(Ae3 _ _ _).1,(Ae3 _ _ _).2];simp
theorem Bs9 (L:List Nat) (hL:∀ b∈L,b<256):∀ (f i:Nat) (l:List RTk),(∀ t∈l,TB1 t)→∀ t∈(Z1 L f i l).1,TB1 t
 |0,i,l,h=>by rw [Z1];exact h
 |f+1,i,l,h=>by
  rw [Z1]
  split
  ·simp only []
   split
   ·intro t ht;cases ht
   ·refine Bs9 L hL f _ _ fun t ht=>?_
    rcases En7.1 ht with h1|h1
    ·exact h t h1
    ·rw [Ek3] at h1;subst h1;exact oneR_bnd L hL i
  ·exact h
theorem Ct4 (L:List Nat) (hL:∀ b∈L,b<256):TokB (K2 L).1:=fun i=>by
 by_cases hi:i<(K2 L).1.length
 ·rw [Ek2,Ek4 hi];exact Bs9 L hL _ 0 [] (fun t ht=>by cases ht) _ (List.getElem_mem hi)
 ·rw [Ek2,El5 (by omega)];exact ⟨by decide,by decide,by decide,by decide⟩
theorem Am6 (L:List Nat) (hL:∀ b∈L,b<256) (hl:L.length≤1000) (h:(M3 L).2.2=0):G6 (M3 L).1:=by
 have hlen:=Bs7 L hL;unfold M3 at h ⊢
 split at h
 ·rename_i h1;exact absurd h h1
 rename_i h1
 rw [Ek0 h1]
 split at h
 ·rename_i h2;exact absurd h h2
 rename_i h2
 rw [Ek0 h2];have hS:=At2 (Dv9 L) (by simpa using h2);exact (Bj8 _ (by omega) (Ct4 L hL) hS _ 0 0 _ hS.all).1 (by omega)
end Go.Clt
section
namespace Go.Clt
open Go Go.RowKit
mutual
inductive SameS:R6→Syn→Prop
 |node {k s mn mx lz l l' a b a' b'}:SameSs l l'→SameS (.node k s mn mx lz l a b) (.node k s mn mx lz l' a' b')
inductive SameSs:List R6→List Syn→Prop
 |nil:SameSs [] []
 |cons {t u l k}:SameS t u→SameSs l k→SameSs (t::l) (u::k)
end
theorem SameSs.len:∀ {l k},SameSs l k→l.length=k.length
 |_,_,.nil=>rfl
 |_,_,.cons _ h=>by simp [h.len]
theorem SameSs.app:∀ {l k t u},SameSs l k→SameS t u→SameSs (l++[t]) (k++[u])
 |_,_,_,_,.nil,ht=>.cons ht .nil
 |_,_,_,_,.cons a h,ht=>.cons a (h.app ht)
theorem Cm3 {k:Int} {o:List R6} {l:List Syn} (h:SameSs o l) (h1:1≤o.length):SameS (Bq7 k o) (Ay1 k l):=by
 cases h with
 |nil=>exact absurd h1 (by decide)
 |cons a b=>
  cases b with
  |nil=>exact a
  |cons b c=>
   unfold Bq7;rw [Ek0 (by simp)];exact .node (.cons a (.cons b c))
theorem rtok_at {l:List RTk} {T:List Tok} (h:SameL l T):∀ i,i<l.length→SameT (l.getD i default) (T.getD i {}):=by
 induction h with
 |nil=>intro i hi;cases hi
 |cons a _ ih=>
  intro i hi
  cases i with
  |zero=>exact a
  |succ i=>exact ih i (by simpa using hi)
theorem Dl5 {l:List RTk} {T:List Tok} (h:SameL l T) (en:Nat) {p:Pp} (hp:p.next<l.length):SameT (l.getD p.next default) (pkQ T en p):=by
 unfold pkQ;rw [Ek1 (by rw [← h.len];exact hp)];exact rtok_at h _ hp
theorem Eb5 {l:List RTk} {T:List Tok} (h:SameL l T) (en:Nat) {p:Pp} (k:Int):isQ T en p k=true↔p.next<l.length∧rkd l p.next=k:=by
 unfold isQ okQ;simp only [Ek6,Em0];rw [← h.len]
 constructor
 ·rintro ⟨a,b⟩;exact ⟨a,(Dl5 h en a).kind.trans b⟩
 ·rintro ⟨a,b⟩;exact ⟨a,(Dl5 h en a).kind.symm.trans b⟩
theorem Ec0 {l:List RTk} {T:List Tok} (h:SameL l T) (en:Nat) {p:Pp} (hp:p.e=0):Al1 T en p=true↔p.next<l.length∧rkd l p.next≠4∧rkd l p.next≠3:=by
 unfold Al1 okQ;simp only [Ek6,Em0,Bool.not_eq_true',decide_eq_false_iff_not];rw [← h.len]
 constructor
 ·rintro ⟨⟨⟨_,a⟩,b⟩,c⟩;have:=(Dl5 h en a).kind;exact ⟨a,fun x=>b (this.symm.trans x),fun x=>c (this.symm.trans x)⟩
 ·rintro ⟨a,b,c⟩;have:=(Dl5 h en a).kind;exact ⟨⟨⟨hp,a⟩,fun x=>b (this.trans x)⟩,fun x=>c (this.trans x)⟩
theorem catL_bad {T:List Tok} {en f:Nat} {p:Pp} {z:Int} {ls:List Syn} (h:p.e≠0):(catL T en f p z ls).2=p:=by
 cases f with
 |zero=>rw [catL]
 |succ f=>rw [catL,Ek0];exact fun hg=>h (Cc2 hg).1
theorem altL_bad {T:List Tok} {en f:Nat} {p:Pp} {ls:List Syn} (h:p.e≠0):(altL T en f p ls).2=p:=by
 cases f with
 |zero=>rw [altL]
 |succ f=>rw [altL,Ek0];exact fun hg=>h hg.1
def EndC (l:List RTk) (y:Nat):Prop:=y=l.length∨rkd l y=3∨rkd l y=4
def EndA (l:List RTk) (y:Nat):Prop:=y=l.length∨rkd l y=3
def AltS (l:List RTk) (T:List Tok) (en x y:Nat) (t:R6):Prop:=∀ (f:Nat) (p:Pp),p.next=x→p.e=0→5*(l.length - x)+5≤f→(Y3 T en f p).2.e=0→SameS t (Y3 T en f p).1∧(Y3 T en f p).2.next=y
def CatS (l:List RTk) (T:List Tok) (en x y:Nat) (t:R6):Prop:=∀ (f:Nat) (p:Pp),p.next=x→p.e=0→5*(l.length - x)+4≤f→(Aq9 T en f p).2.e=0→SameS t (Aq9 T en f p).1∧(Aq9 T en f p).2.next=y
theorem Dc4 {l:List RTk} {d:Nat→Nat} {a:Nat→Bool} (hS:Shp l d a) {cat:Nat→Nat→R6} {D x y:Nat} (hR:Rng l d a D x y):∀ (h i at_:Nat) (e:Int) (o:List R6),y+1<i+h→AtB l d a D x y i at_→e=(d i:Int) - D→
  ∃ c,i≤c∧c≤y∧Rng l d a D at_ c∧Bg0 l d D at_ c∧((c=y∧Ag2 l cat y h i at_ e o=o++[cat at_ c])∨(c<y∧rkd l c=4∧AtB l d a D x y (c+1) (c+1)∧Ag2 l cat y h i at_ e o=Ag2 l cat y (h - (c+1 - i)) (c+1) (c+1) 0 (o++[cat at_ c])))
 |0,i,at_,e,o,hf,hat,he=>by have:=hat.hi;omega
 |h+1,i,at_,e,o,hf,hat,he=>by
  have hin:=hat.hi;rw [Ag2,Ek1 hin]
  by_cases hiy:i=y
  ·rw [Ek1 (.inl hiy)];refine ⟨i,El1 _,hin,hat.rng hR (by rw [hiy];exact hR.dy),hat.nb,.inl ⟨hiy,?_⟩⟩
   cases h with
   |zero=>rw [Ag2]
   |succ h=>rw [Ag2,Ek0 (by omega)]
  ·have hd:=hat.deep hS hR (by omega) he
   by_cases hc:rkd l i=4∧dpR l i y e=0
   ·rw [Ek1 (.inr hc)];have hdi:d i=D:=by have:=(hd.2 hc.1).1;have:=hd.1;omega
    refine ⟨i,El1 _,hin,hat.rng hR hdi,hat.nb,.inr ⟨by omega,hc.1,hat.cut (by omega) (by have:=(hd.2 hc.1).1;omega) (hd.2 hc.1).2,?_⟩⟩;rw [hc.2,show h+1 - (i+1 - i)=h by omega]
   ·rw [Ek0 (by rintro (h|h);exact hiy h;exact hc h)];obtain ⟨c,c1,c2,c3,c4,c5⟩:=Dc4 hS hR h (i+1) at_ (dpR l i y e) o (by omega) (hat.next (by omega) fun hh=>hc ⟨hh.1,by have:=(hd.2 hh.1).1;have:=hd.1;omega⟩) hd.1;refine ⟨c,by omega,c2,c3,c4,?_⟩;rw [show h+1 - (c+1 - i)=h - (c+1 - (i+1)) by omega];exact c5
section
variable {l:List RTk} {T:List Tok} {d:Nat→Nat} {a:Nat→Bool} (hL:SameL l T) (hS:Shp l d a) (en:Nat)
include hL hS
theorem kid_same {alt:Nat→Nat→R6} {D x y i:Nat} (hR:Rng l d a D x y) (hN:Bg0 l d D x y) (ha:∀ i k,x≤i→k<y→rkd l k=3→Rng l d a (D+1) (i+1) k→AltS l T en (i+1) k (alt (i+1) k))
  (t:AtI l d a D x y i) (hi:i<y) {f:Nat} {p:Pp} (hp:p.next=i) (he:p.e=0) (hf:5*(l.length - i)+1≤f):
  let m:Syn × Pp:=if (pkQ T en p).kind=0 then (.node 1 (pkQ T en p).set 0 0 false [] (pkQ T en p).src (pkQ T en p).to,p.adv) else if (pkQ T en p).kind=1∨(pkQ T en p).kind=2 then M6 T en f p (pkQ T en p) else (default,p.fail (pkQ T en p).src 4)
  m.2.e=0→SameS (Av8 l alt i).1 m.1∧m.2.next=(Av8 l alt i).2∧(Av8 l alt i).2≤y∧d (Av8 l alt i).2=D∧i<(Av8 l alt i).2:=by
 intro m hm;have hyl:=hR.len;have hil:i<l.length:=by omega
 have hpk:=Dl5 hL en (p:=p) (by omega);rw [hp] at hpk;have hk:rkd l i=(pkQ T en p).kind:=hpk.kind
 rcases t.kind hS hR hN hi with ⟨h1,h2,h3⟩|h1
 ·have e1:m=(.node 1 (pkQ T en p).set 0 0 false [] (pkQ T en p).src (pkQ T en p).to,p.adv):=Ek1 (by omega);have e2:Av8 l alt i=(.node 1 (l.getD i default).set 0 0 false [] (l.getD i default).frm (l.getD i default).till,i+1):=Ek1 h1;rw [e1,e2,hpk.set];exact ⟨.node .nil,by show p.next+1=_;rw [hp],hi,h2,Er6 _⟩
 ·obtain ⟨k,k1,k2,k3,k4,k5,k6⟩:=hR.group hS t.lo hi t.di h1
  have e1:m=M6 T en f p (pkQ T en p):=by
   show (if _ then _ else _)=_;rw [Ek0 (by omega),Ek1 (by omega)]
  have e2:Av8 l alt i=(.node (1+rkd l i) 0 0 0 false [alt (i+1) k] (l.getD i default).frm (l.getD k default).till,k+1):=by
   unfold Av8;rw [Ek0 (by omega),k1];rfl
  rw [e1] at hm ⊢;rw [e2];obtain ⟨f,rfl⟩:∃ f',f=f'+1:=⟨f - 1,by omega⟩;rw [M6] at hm ⊢
  by_cases hd:200≤p.deep
  ·rw [Ek1 hd] at hm;exact absurd hm (Ai0 (by decide))
  rw [Ek0 hd] at hm ⊢;dsimp only at hm ⊢;have hle:=k6.le;have hA:=ha i k t.lo k2 k3 k6 f { next:=p.next+1,deep:=p.deep+1,pl:=p.pl,e:=p.e } (by show p.next+1=_;rw [hp]) he (by omega);generalize Y3 T en f { next:=p.next+1,deep:=p.deep+1,pl:=p.pl,e:=p.e }=c at*
  by_cases hc:c.2.e=0
  ·obtain ⟨s1,s2⟩:=hA hc;rw [Ek0 (by simpa using hc)] at hm ⊢;have hq:isQ T en { next:=c.2.next,deep:=c.2.deep - 1,pl:=c.2.pl,e:=c.2.e } 3=true:=(Eb5 hL en 3).2 ⟨by show c.2.next<_;omega,by show rkd l c.2.next=3;rw [s2];exact k3⟩;rw [Ek0 (by rw [hq];decide)] at hm ⊢;refine ⟨?_,by show c.2.next+1=_;rw [s2],k2,k4,by show i<k+1;omega⟩
   have hkk:(1+rkd l i)=(if (pkQ T en p).kind=2 then 3 else 2):=by
    rw [← hk];rcases h1 with h1|h1<;>rw [h1]<;>rfl
   rw [hkk];exact .node (.cons s1 .nil)
  ·rw [Ek1 (by simpa using hc)] at hm;exact absurd hm hc
theorem Dn9 {alt:Nat→Nat→R6} {D x y i:Nat} (hR:Rng l d a D x y) (hE:EndC l y) (hN:Bg0 l d D x y) (ha:∀ i k,x≤i→k<y→rkd l k=3→Rng l d a (D+1) (i+1) k→AltS l T en (i+1) k (alt (i+1) k))
  (t:AtI l d a D x y i) (hi:i<y) {f:Nat} {p:Pp} (hp:p.next=i) (he:p.e=0) (hf:5*(l.length - i)+2≤f) (hq:(Y0 T en f p (pkQ T en p)).2.e=0):
  SameS (Al8 l y (Av8 l alt i)).1 (Y0 T en f p (pkQ T en p)).1∧(Y0 T en f p (pkQ T en p)).2.next=(Al8 l y (Av8 l alt i)).2∧AtI l d a D x y (Al8 l y (Av8 l alt i)).2∧i<(Al8 l y (Av8 l alt i)).2:=by
 have hyl:=hR.len;have hlo:=t.lo;obtain ⟨f,rfl⟩:∃ f',f=f'+1:=⟨f - 1,by omega⟩;have hK:=kid_same hL hS en hR hN ha t hi hp he (f:=f) (by omega);rw [Y0] at hq ⊢;dsimp only at hK hq ⊢;generalize (if (pkQ T en p).kind=0 then (Syn.node 1 (pkQ T en p).set 0 0 false [] (pkQ T en p).src (pkQ T en p).to,p.adv) else if (pkQ T en p).kind=1∨(pkQ T en p).kind=2 then M6 T en f p (pkQ T en p) else (default,p.fail (pkQ T en p).src 4))=m at*
 by_cases hm:m.2.e=0
 ·obtain ⟨s1,s2,s3,s4,s5⟩:=hK hm;unfold Al8
  by_cases h5:(Av8 l alt i).2<y∧rkd l (Av8 l alt i).2=5
  ·have h6:isQ T en m.2 5=true:=(Eb5 hL en 5).2 ⟨by omega,by rw [s2];exact h5.2⟩;have hpk:=Dl5 hL en (p:=m.2) (by omega);rw [s2] at hpk;rw [Ek0 (c:=m.2.e≠0∨isQ T en m.2 5=false) (by rw [h6];simp [hm])] at hq ⊢;rw [Ek1 h5];refine ⟨?_,by show m.2.next+1=_;rw [s2],AtI.more hS hR (by omega) h5.1 s4 h5.2,by show i<_+1;omega⟩;show SameS (cntN _ _) _;unfold cntN;rw [hpk.mn,hpk.mx,hpk.lz];exact .node (.cons s1 .nil)
  ·have h6:isQ T en m.2 5=false:=by
    refine Eu1.2 fun h=>h5 ?_
    obtain ⟨a1,a2⟩:=(Eb5 hL en 5).1 h;rw [s2] at a1 a2;refine ⟨?_,a2⟩
    rcases Eq7 (Av8 l alt i).2 y with h|h
    ·exact h
    ·have:(Av8 l alt i).2=y:=by omega
     rw [this] at a1 a2
     rcases hE with h|h|h
     ·omega
     ·omega
     ·omega
   rw [Ek1 (c:=m.2.e≠0∨isQ T en m.2 5=false) (.inr h6)] at hq ⊢;rw [Ek0 h5];exact ⟨s1,s2,⟨by omega,s3,s4,.inr fun h1 h2=>h5 ⟨h1,h2⟩⟩,s5⟩
 ·rw [Ek1 (c:=m.2.e≠0∨isQ T en m.2 5=false) (.inl hm)] at hq;exact absurd hq hm
theorem Cp3 {alt:Nat→Nat→R6} {D x y:Nat} (hR:Rng l d a D x y) (hE:EndC l y) (hN:Bg0 l d D x y) (ha:∀ i k,x≤i→k<y→rkd l k=3→Rng l d a (D+1) (i+1) k→AltS l T en (i+1) k (alt (i+1) k)):
  ∀ (h i:Nat) (o:List R6) (f:Nat) (p:Pp) (z:Int) (ls:List Syn),AtI l d a D x y i→y+1≤h+i→SameSs o ls→p.next=i→p.e=0→5*(l.length - i)+3≤f→(catL T en f p z ls).2.e=0→
   ∃ ls' q,SameSs (At3 l alt y h i o) ls'∧catL T en f p z ls=(W8 q z ls',q)∧q.next=y
 |0,i,o,f,p,z,ls,t,hh,ho,hp,he,hf,hq=>by have:=t.hi;omega
 |h+1,i,o,f,p,z,ls,t,hh,ho,hp,he,hf,hq=>by
  have hyl:=hR.len;have hhi:=t.hi;obtain ⟨f,rfl⟩:∃ f',f=f'+1:=⟨f - 1,by omega⟩;rw [catL] at hq ⊢;rw [At3]
  by_cases hi:i<y
  ·have hg:Al1 T en p=true:=by
    refine (Ec0 hL en he).2 ⟨by omega,?_⟩;rw [hp]
    rcases t.kind hS hR hN hi with ⟨h1,_⟩|h1
    ·omega
    ·omega
   rw [Ek1 hg] at hq ⊢;rw [Ek1 hi]
   by_cases hm:(Y0 T en f p (pkQ T en p)).2.e=0
   ·obtain ⟨s1,s2,s3,s4⟩:=Dn9 hL hS en hR hE hN ha t hi hp he (by omega) hm;exact Cp3 hR hE hN ha h _ _ f _ z _ s3 (by omega) (ho.app s1) s2 hm (by omega) hq
   ·rw [catL_bad hm] at hq;exact absurd hq hm
  ·have hiy:i=y:=by omega
   have hg:¬ Al1 T en p=true:=fun h=>by
    obtain ⟨h1,h2,h3⟩:=(Ec0 hL en he).1 h;rw [hp,hiy] at h1 h2 h3
    rcases hE with h|h|h
    ·omega
    ·exact h3 h
    ·exact h2 h
   rw [Ek0 hg,Ek0 hi];exact ⟨ls,p,ho,rfl,hp.trans hiy⟩
theorem Cq3 {cat:Nat→Nat→R6} {D x y:Nat} (hR:Rng l d a D x y) (hE:EndA l y) (hc:∀ A B,x≤A→B≤y→Rng l d a D A B→Bg0 l d D A B→EndC l B→CatS l T en A B (cat A B)):
  ∀ (n at_ h:Nat) (o:List R6) (f:Nat) (p:Pp) (ls:List Syn),y<at_+n→y+1<at_+h→AtB l d a D x y at_ at_→SameSs o ls→p.next=at_→p.e=0→5*(l.length - at_)+4≤f→(altL T en f (Aq9 T en f p).2 (ls++[(Aq9 T en f p).1])).2.e=0→
   ∃ ls' q,SameSs (Ag2 l cat y h at_ at_ 0 o) ls'∧1≤ls'.length∧altL T en f (Aq9 T en f p).2 (ls++[(Aq9 T en f p).1])=(Ay1 5 ls',q)∧q.next=y
 |0,at_,h,o,f,p,ls,hn,hf,hat,ho,hp,he,hfu,hq=>by have:=hat.hi;omega
 |n+1,at_,h,o,f,p,ls,hn,hf,hat,ho,hp,he,hfu,hq=>by
  have hyl:=hR.len;obtain ⟨c,c1,c2,c3,c4,c5⟩:=Dc4 hS (cat:=cat) hR h at_ at_ 0 o hf hat (by rw [hat.dat];omega)
  by_cases hm:(Aq9 T en f p).2.e=0
  ·have hEc:EndC l c:=by
    rcases c5 with ⟨h1,_⟩|⟨_,h1,_⟩
    ·rw [h1]
     rcases hE with h|h
     ·exact .inl h
     ·exact .inr (.inl h)
    ·exact .inr (.inr h1)
   obtain ⟨s1,s2⟩:=hc at_ c hat.lo c2 c3 c4 hEc f p hp he hfu hm;obtain ⟨f,rfl⟩:∃ f',f=f'+1:=⟨f - 1,by omega⟩;rw [altL] at hq ⊢
   rcases c5 with ⟨h1,h2⟩|⟨h1,h2,h3,h4⟩
   ·have hg:¬ ((Aq9 T en (f+1) p).2.e=0∧isQ T en (Aq9 T en (f+1) p).2 4=true):=fun ⟨_,h⟩=>by
     obtain ⟨a1,a2⟩:=(Eb5 hL en 4).1 h;rw [s2,h1] at a1 a2
     rcases hE with h|h
     ·omega
     ·omega
    rw [Ek0 hg,h2];exact ⟨_,_,ho.app s1,by simp,rfl,s2.trans h1⟩
   ·rw [Ek1 ⟨hm,(Eb5 hL en 4).2 ⟨by omega,by rw [s2];exact h2⟩⟩] at hq ⊢;rw [h4];exact Cq3 hR hE hc n (c+1) _ _ f _ _ (by omega) (by omega) h3 (ho.app s1) (by show _+1=_;rw [s2]) hm (by omega) hq
  ·rw [altL_bad hm] at hq;exact absurd hq hm
theorem Ca1 (size:Int):∀ (g D x y:Nat),Rng l d a D x y→(EndA l y→2*(y - x)+1<g→AltS l T en x y (At5 l size g true x y))∧(EndC l y→Bg0 l d D x y→2*(y - x)<g→CatS l T en x y (At5 l size g false x y))
 |0,D,x,y,hR=>⟨fun _ h=>by omega,fun _ _ h=>by omega⟩
 |g+1,D,x,y,hR=>by
  have hyl:=hR.len;have hxy:=hR.le
  refine ⟨fun hE hg f p hp he hf hq=>?_,fun hE hN hg f p hp he hf hq=>?_⟩
  ·obtain ⟨f,rfl⟩:∃ f',f=f'+1:=⟨f - 1,by omega⟩;rw [Y3] at hq ⊢;obtain ⟨ls,q,h1,h2,h3,h4⟩:=Cq3 hL hS en (cat:=fun a b=>At5 l size g false a b) hR hE (fun A B h1 h2 hr hn he=>(Ca1 size g D A B hr).2 he hn (by omega)) (y+1 - x) x (y+2 - x) [] f p [] (by omega) (by omega) ⟨El1 _,El1 _,hxy,hR.dx,hR.ax,fun m h1 h2=>by omega⟩ .nil hp he (by omega) hq;rw [Ek8] at h3;rw [h3];exact ⟨Cm3 h1 (by rw [h1.len];exact h2),h4⟩
  ·obtain ⟨f,rfl⟩:∃ f',f=f'+1:=⟨f - 1,by omega⟩;rw [Aq9] at hq ⊢;obtain ⟨ls,q,h1,h3,h4⟩:=Cp3 hL hS en (alt:=fun a b=>At5 l size g true a b) hR hE hN (fun i k h1 h2 h3 hr=>(Ca1 size g (D+1) (i+1) k hr).1 (.inr h3) (by have:=hr.le;omega)) (y+1 - x) x [] f p _ [] ⟨El1 _,hxy,hR.dx,.inl hR.ax⟩ (by omega) .nil hp he (by omega) hq;rw [h3] at hq ⊢;refine ⟨?_,h4⟩;show SameS (catE l size x (At3 l (fun a b=>At5 l size g true a b) y (y+1 - x) x [])) (W8 q _ ls);unfold catE W8
   by_cases h0:ls.length=0
   ·rw [Ek1 (h1.len.trans h0),Ek1 (.inr h0)];exact .node .nil
   ·rw [Ek0 (by rw [h1.len];exact h0),Ek0 (by rintro (h|h);exact h hq;exact h0 h)];exact Cm3 h1 (by rw [h1.len];omega)
end
theorem Dl7 (s:ByteArray) (hr:(M3 (B6 s)).2.2=0) (hq:(M5 (B6 s)).2.2=0):SameS (M3 (B6 s)).1 (M5 (B6 s)).1:=by
 unfold M3 at hr ⊢;unfold M5 at hq ⊢;dsimp only at hq ⊢
 by_cases h1:(K2 (B6 s)).2.2=0
 ·rw [Ek0 (c:=(K2 (B6 s)).2.2≠0) (fun h=>h h1)] at hr ⊢
  by_cases h2:(R7 (B6 s)).2.2=0
  ·rw [Ek0 (c:=(R7 (B6 s)).2.2≠0) (fun h=>h h2)] at hq ⊢;have hL:=Du8 s h1 h2
   by_cases h3:(Bj0 (K2 (B6 s)).1 (B6 s).length).2=0
   ·rw [Ek0 (c:=(Bj0 (K2 (B6 s)).1 (B6 s).length).2≠0) (fun h=>h h3)];have hS:=At2 (Dv9 (B6 s)) h3;have hA:=(Ca1 hL hS (B6 s).length (B6 s).length (2*(K2 (B6 s)).1.length+2) 0 0 _ hS.all).1 (.inl J) (by omega) (5*(R7 (B6 s)).1.length+5) ⟨0,0,0,0⟩ rfl rfl (by rw [hL.len];omega);unfold Ck5 at hq ⊢;dsimp only at hq ⊢;generalize Y3 (R7 (B6 s)).1 (B6 s).length (5*(R7 (B6 s)).1.length+5) ⟨0,0,0,0⟩=r at*
    by_cases h4:r.2.e=0
    ·have h5:okQ (R7 (B6 s)).1 r.2=false:=by
      unfold okQ;rw [(hA h4).2,hL.len];exact El3 (by omega)
     rw [h5] at hq ⊢;simp only [Er7,if_false] at hq ⊢;rw [Ek0 (by omega)];exact (hA h4).1
    ·exfalso
     revert hq
     by_cases h5:okQ (R7 (B6 s)).1 r.2=true
     ·simp only [Ek1 h5];rw [Ek1 (Ai0 (by decide))];exact fun h=>Ai0 (by decide) h
     ·simp only [Ek0 h5];rw [Ek1 h4];exact h4
   ·rw [Ek1 h3] at hr;exact absurd hr h3
  ·rw [Ek1 h2] at hq;exact absurd hq h2
 ·rw [Ek1 h1] at hr;exact absurd hr h1
end Go.Clt
end
namespace Go.Clt
open Go Go.RowKit Go.Proofs
def S5 (k:Int):List R8→R8
 |[]=>default
 |[a]=>a
 |a::b::r=>Ag6 k a (S5 k (b::r))
def optR (lz:Bool) (x:R8):R8:=if lz then Ag6 3 default x else Ag6 3 x default
def U2 (r:R8) (lz:Bool):Nat→R8
 |0=>optR lz r
 |n+1=>optR lz (Ag6 2 r (U2 r lz n))
def Bh7 (mn mx:Int) (lz:Bool) (l:List R8):List R8:=if mx= -1 then [.node 4 0 lz l] else if mn<mx then [U2 (l.getD 0 default) lz ((mx - mn).toNat - 1)] else []
def Ah0 (k:Int) (s:Nat) (mn mx:Int) (lz:Bool) (l:List R8):R8:=
 if k=0 then default else if k=1 then .node 1 s false [] else if k=2∨k=3 then l.getD 0 default else if k=4 then S5 2 l else if k=5 then S5 3 l
 else S5 2 (List.replicate mn.toNat (l.getD 0 default)++Bh7 mn mx lz l)
mutual
def As1:R6→R8
 | .node k s mn mx lz l _ _=>Ah0 k s mn mx lz (S3 l)
def S3:List R6→List R8
 |[]=>[]
 |t::r=>As1 t::S3 r
end
mutual
def szR:R6→Nat
 | .node k _ mn mx _ l _ _=>if k<2 then 1 else if k=6 then
   (if mn.toNat+(if mx= -1 then 1 else 0)+(if mn<mx then 1 else 0)=0 then 1 else
    mn.toNat*Bh8 l+(if mx= -1 then Bh8 l+1 else 0)+(if mn<mx then (mx - mn).toNat*(Bh8 l+2)+((mx - mn).toNat - 1) else 0)+(mn.toNat+(if mx= -1 then 1 else 0)+(if mn<mx then 1 else 0) - 1))
   else Bh8 l+(l.length - 1)
def Bh8:List R6→Nat
 |[]=>0
 |t::r=>szR t+Bh8 r
end
mutual
def n8s:R8→Nat
 | .node _ _ _ l=>1+n8l l
def n8l:List R8→Nat
 |[]=>0
 |t::r=>n8s t+n8l r
end
def K8 (k:Int) (n:Nat):Prop:=(k=0∧n=0)∨(k=1∧n=0)∨((k=2∨k=3)∧n=2)∨(k=4∧n=1)
mutual
def G8:R8→Prop
 | .node k _ _ l=>K8 k l.length∧G8s l
def G8s:List R8→Prop
 |[]=>True
 |t::r=>G8 t∧G8s r
end
theorem Ab6:∀ l:List R6,(S3 l).length=l.length
 |[]=>by rw [S3];rfl
 |t::r=>by rw [S3,En2,Ab6 r,En2]
theorem Bt9 (a b:List R8):n8l (a++b)=n8l a+n8l b:=by
 induction a with
 |nil=>simp [n8l]
 |cons t r ih=>simp only [Ek7,n8l,ih];omega
theorem Ca6 (n:Nat) (a:R8):n8l (List.replicate n a)=n*n8s a:=by
 induction n with
 |zero=>simp [n8l]
 |succ n ih=>rw [Es5,n8l,ih,Es8];omega
theorem Ca4:n8s default=1:=by
 show n8s (.node 0 0 false [])=1;rw [n8s,n8l]
theorem Ai2 (k:Int) (a b:R8):n8s (Ag6 k a b)=1+n8s a+n8s b:=by
 unfold Ag6;rw [n8s,n8l,n8l,n8l];omega
theorem Cc3:G8 default:=by
 show G8 (.node 0 0 false []);rw [G8,G8s];exact ⟨.inl ⟨rfl,rfl⟩,trivial⟩
theorem Ao4 {k:Int} {a b:R8} (hk:k=2∨k=3) (ha:G8 a) (hb:G8 b):G8 (Ag6 k a b):=by
 unfold Ag6;rw [G8,G8s,G8s,G8s];exact ⟨.inr (.inr (.inl ⟨hk,rfl⟩)),ha,hb,trivial⟩
theorem Ec1 {lz:Bool} {a:R8} (ha:G8 a):G8 (.node 4 0 lz [a]):=by
 rw [G8,G8s,G8s];exact ⟨.inr (.inr (.inr ⟨rfl,rfl⟩)),ha,trivial⟩
theorem Ax7 (k:Int):∀ l:List R8,n8s (S5 k l)=if l.length=0 then 1 else n8l l+(l.length - 1)
 |[]=>by rw [S5,Ca4];rfl
 |[a]=>by rw [S5,n8l,n8l];simp
 |a::b::r=>by
  have e:n8l (a::b::r)=n8s a+n8l (b::r):=by rw [n8l]
  rw [S5,Ai2,Ax7 k (b::r),e];simp only [En2];rw [Ek0 (by omega),Ek0 (by omega)];omega
theorem Bh0 {k:Int} (hk:k=2∨k=3):∀ l:List R8,(∀ t∈l,G8 t)→G8 (S5 k l)
 |[],_=>by rw [S5];exact Cc3
 |[a],h=>by rw [S5];exact h a (Em1 ..)
 |a::b::r,h=>by
  rw [S5];exact Ao4 hk (h a (Em1 ..)) (Bh0 hk (b::r) fun t ht=>h t (Em8 _ ht))
theorem Dy7 (lz:Bool) (x:R8):n8s (optR lz x)=n8s x+2:=by
 unfold optR
 split<;>rw [Ai2,Ca4]<;>omega
theorem g8_opt {lz:Bool} {x:R8} (h:G8 x):G8 (optR lz x):=by
 unfold optR
 split
 ·exact Ao4 (.inr J) Cc3 h
 ·exact Ao4 (.inr J) h Cc3
theorem Bt8 (r:R8) (lz:Bool):∀ n,n8s (U2 r lz n)=(n+1)*(n8s r+2)+n
 |0=>by rw [U2,Dy7];omega
 |n+1=>by
  rw [U2,Dy7,Ai2,Bt8 r lz n,Es8 (n+1)];omega
theorem Cn2 {r:R8} {lz:Bool} (h:G8 r):∀ n,G8 (U2 r lz n)
 |0=>by rw [U2];exact g8_opt h
 |n+1=>by rw [U2];exact g8_opt (Ao4 (.inl rfl) h (Cn2 h n))
theorem Cn1 {l:List R8} (h:0<l.length):l.getD 0 default∈l:=by
 match l,h with
 |t::r,_=>exact Em1 ..
theorem g8_core {k:Int} {s:Nat} {mn mx:Int} {lz:Bool} {l:List R8} (h:K6 k mn mx l.length) (hl:∀ t∈l,G8 t):G8 (Ah0 k s mn mx lz l):=by
 unfold Ah0
 split
 ·exact Cc3
 split
 ·rw [G8,G8s];exact ⟨.inr (.inl ⟨rfl,rfl⟩),trivial⟩
 rename_i h0 h1
 split
 ·rename_i h2
  exact hl _ (Cn1 (by rcases h with h|h|h|h|h<;>omega))
 split
 ·exact Bh0 (.inl J) l hl
 split
 ·exact Bh0 (.inr J) l hl
 rename_i h2 h4 h5
 have hn:l.length=1:=by rcases h with h|h|h|h|h<;>omega
 have h0:=hl _ (Cn1 (by omega));refine Bh0 (.inl J) _ fun t ht=>?_
 rcases En7.1 ht with ht|ht
 ·rw [(List.mem_replicate.1 ht).2];exact h0
 ·unfold Bh7 at ht
  split at ht
  ·rw [Ek3] at ht;subst ht
   match l,hn with
   |[a],_=>exact Ec1 h0
  split at ht
  ·rw [Ek3] at ht;subst ht;exact Cn2 h0 _
  ·cases ht
mutual
theorem Bw6:∀ t:R6,G6 t→G8 (As1 t)
 | .node k s mn mx lz l _ _,h=>by
  rw [G6] at h;rw [As1];exact g8_core (by rw [Ab6];exact h.1) (Bn8 l h.2)
theorem Bn8:∀ l:List R6,G6s l→∀ t∈S3 l,G8 t
 |[],_,t,ht=>by rw [S3] at ht;cases ht
 |u::r,h,t,ht=>by
  rw [G6s] at h;rw [S3] at ht
  rcases Eo4.1 ht with rfl|ht
  ·exact Bw6 u h.1
  ·exact Bn8 r h.2 t ht
end
theorem sz_core {k:Int} {s:Nat} {mn mx:Int} {lz:Bool} {l:List R8} (h:K6 k mn mx l.length):n8s (Ah0 k s mn mx lz l)=if k<2 then 1 else if k=6 then
   (if mn.toNat+(if mx= -1 then 1 else 0)+(if mn<mx then 1 else 0)=0 then 1 else
    mn.toNat*n8l l+(if mx= -1 then n8l l+1 else 0)+(if mn<mx then (mx - mn).toNat*(n8l l+2)+((mx - mn).toNat - 1) else 0)+(mn.toNat+(if mx= -1 then 1 else 0)+(if mn<mx then 1 else 0) - 1))
   else n8l l+(l.length - 1):=by
 unfold Ah0
 rcases h with h|h|h|h|h
 ·rw [Ek1 h.1,Ek1 (by omega),Ca4]
 ·rw [Ek0 (by omega),Ek1 h.1,Ek1 (by omega),n8s,n8l]
 ·rw [Ek0 (by omega),Ek0 (by omega),Ek1 h.1,Ek0 (by omega),Ek0 (by omega),h.2]
  match l,h.2 with
  |[a],_=>simp [n8l]
 ·rw [Ek0 (by omega),Ek0 (by omega),Ek0 (by omega),Ek0 (show ¬ k<2 by omega),Ek0 (show ¬ k=6 by omega)]
  split
  ·rw [Ax7,Ek0 (by omega)]
  ·rw [Ek1 (by omega),Ax7,Ek0 (by omega)]
 ·obtain ⟨hk,hn,h1,h2,h3,h4⟩:=h
  match l,hn with
  |[a],_=>
   rw [Ek0 (by omega),Ek0 (by omega),Ek0 (by omega),Ek0 (by omega),Ek0 (by omega),Ek0 (by omega),Ek1 hk,Ax7];have e0:([a]:List R8).getD 0 default=a:=rfl;have e1:n8l [a]=n8s a:=by simp [n8l]
   rw [e0,e1,Ek5,En5,Bt9,Ca6];unfold Bh7
   by_cases hm:mx= -1
   ·have hx:¬ mn<mx:=by omega
    simp only [Ek1 hm,Ek0 hx];have:n8l [R8.node 4 0 lz [a]]=n8s a+1:=by rw [n8l,n8l,n8s,e1];omega
    rw [this];simp only [Ep0];rw [Ek0 (by omega),Ek0 (by omega)];omega
   ·by_cases hx:mn<mx
    ·simp only [Ek0 hm,Ek1 hx]
     have:n8l [U2 (([a]:List R8).getD 0 default) lz ((mx - mn).toNat - 1)]=(mx - mn).toNat*(n8s a+2)+((mx - mn).toNat - 1):=by
      rw [n8l,n8l,Bt8,e0];rw [show (mx - mn).toNat - 1+1=(mx - mn).toNat by omega];omega
     rw [this];simp only [Ep0];rw [Ek0 (by omega),Ek0 (by omega)];omega
    ·simp only [Ek0 hm,Ek0 hx,n8l,Eu6,Ev1]
mutual
theorem Bw5:∀ t:R6,G6 t→n8s (As1 t)=szR t
 | .node k s mn mx lz l _ _,h=>by
  rw [G6] at h;have hs:=Bn7 l h.2;rw [As1,sz_core (by rw [Ab6];exact h.1),Ab6,hs,szR]
theorem Bn7:∀ l:List R6,G6s l→n8l (S3 l)=Bh8 l
 |[],_=>by rw [S3,n8l,Bh8]
 |u::r,h=>by
  rw [G6s] at h;rw [S3,n8l,Bh8,Bw5 u h.1,Bn7 r h.2]
end
def Ak7:R8:=.node 4 0 true [.node 1 (2 ^ 256 - 1) false []]
def Al0 (r:R8) (m:Int):R8:=if m=1 then Ag6 2 r Ak7 else if m=2 then Ag6 2 Ak7 r else if m=3 then Ag6 2 Ak7 (Ag6 2 r Ak7) else r
theorem Cc4:G8 Ak7:=by
 refine Ec1 ?_;rw [G8,G8s];exact ⟨.inr (.inl ⟨rfl,rfl⟩),trivial⟩
theorem Ca5:n8s Ak7=2:=by
 unfold Ak7;rw [n8s,n8l,n8l,n8s,n8l]
theorem g8_mode {r:R8} (h:G8 r) (m:Int):G8 (Al0 r m):=by
 unfold Al0
 split
 ·exact Ao4 (.inl J) h Cc4
 split
 ·exact Ao4 (.inl J) Cc4 h
 split
 ·exact Ao4 (.inl J) Cc4 (Ao4 (.inl J) h Cc4)
 ·exact h
theorem n8s_mode (r:R8) (m:Int):n8s (Al0 r m)≤n8s r+6:=by
 unfold Al0
 split
 ·rw [Ai2,Ca5];omega
 split
 ·rw [Ai2,Ca5];omega
 split
 ·rw [Ai2,Ai2,Ca5];omega
 ·omega
def clp (n:Nat):Int:=min 9223372036854775807 (n:Int)
theorem Aw6 (a b:Nat):W1 (clp a) (clp b)=clp (a+b):=by unfold W1 clp;omega
theorem Az4 (a:Nat):0≤clp a∧clp a≤9223372036854775807:=by unfold clp;omega
def Ak9 (m:Int):Nat:=if m=0 then 0 else if m=3 then 6 else 3
def I6 (L:List Nat) (m:Int):R8 × Int × Int:=
 if m<0∨3<m then (default,0,1)
 else if (M3 L).2.2≠0 then (default,(M3 L).2)
 else if 4096<clp (szR (M3 L).1+Ak9 m) then (default,0,3)
 else (Al0 (As1 (M3 L).1) m,0,0)
theorem Aw9 (L:List Nat) (m:Int) (hL:∀ b∈L,b<256) (hl:L.length≤1000) (h:(I6 L m).2.2=0):G8 (I6 L m).1∧n8s (I6 L m).1≤5000:=by
 unfold I6 at h ⊢
 split at h
 ·cases h
 rename_i h1
 rw [Ek0 h1]
 split at h
 ·rename_i h2;exact absurd h h2
 rename_i h2
 rw [Ek0 h2]
 split at h
 ·cases h
 rename_i h3
 rw [Ek0 h3];have hg:=Am6 L hL hl (by simpa using h2);refine ⟨g8_mode (Bw6 _ hg) m,?_⟩;have h4:=n8s_mode (As1 (M3 L).1) m;rw [Bw5 _ hg] at h4;unfold clp at h3;show n8s (Al0 (As1 (M3 L).1) m)≤5000;omega
end Go.Clt
section
namespace Go.Clt
open Go Go.RowKit
inductive SameC:R8→Cor→Prop
 |empty {s z}:SameC (.node 0 s z []) .empty
 |set {s z}:SameC (.node 1 s z []) (.set s)
 |cat {s z a b x y}:SameC a x→SameC b y→SameC (.node 2 s z [a,b]) (.cat x y)
 |alt {s z a b x y}:SameC a x→SameC b y→SameC (.node 3 s z [a,b]) (.alt x y)
 |star {s z a x z'}:SameC a x→SameC (.node 4 s z [a]) (.star z' x)
inductive SameCs:List R8→List Cor→Prop
 |nil:SameCs [] []
 |cons {t u l k}:SameC t u→SameCs l k→SameCs (t::l) (u::k)
theorem SameCs.app:∀ {l k l' k'},SameCs l k→SameCs l' k'→SameCs (l++l') (k++k')
 |_,_,_,_,.nil,h=>h
 |_,_,_,_,.cons a h,h'=>.cons a (h.app h')
theorem SameCs.rep {t u} (h:SameC t u):∀ n,SameCs (List.replicate n t) (List.replicate n u)
 |0=>.nil
 |n+1=>.cons h (SameCs.rep h n)
theorem Bo5:∀ {l k},SameCs l k→SameC (S5 2 l) (Af0 .cat k)
 |_,_,.nil=>.empty
 |_,_,.cons a .nil=>a
 |_,_,.cons a (.cons b h)=>.cat a (Bo5 (.cons b h))
theorem Cp2:∀ {l k},SameCs l k→SameC (S5 3 l) (Af0 .alt k)
 |_,_,.nil=>.empty
 |_,_,.cons a .nil=>a
 |_,_,.cons a (.cons b h)=>.alt a (Cp2 (.cons b h))
theorem Dd1 {t u} (h:SameC t u) (z:Bool):SameC (optR z t) (Bc3 u z):=by
 cases z
 ·exact .alt h .empty
 ·exact .alt .empty h
theorem Bo4 {t u} (h:SameC t u) (z:Bool):∀ n,SameC (U2 t z n) (W7 u z n)
 |0=>Dd1 h z
 |n+1=>Dd1 (.cat h (Bo4 h z n)) z
mutual
theorem Co9:∀ {t u},SameS t u→G6 t→SameC (As1 t) (Ah1 u)
 |_,_,.node (k:=k) (s:=s) (mn:=mn) (mx:=mx) (lz:=lz) (l:=l) (l':=l') h,g=>by
  rw [G6] at g;obtain ⟨g1,g2⟩:=g;have hc:=Bw4 h g2;have hlen:=Ab6 l;rw [As1,Ah1];unfold Ah0;unfold K6 at g1;generalize S3 l=cs at*;generalize N2 l'=ds at*;rw [← hlen] at g1
  have one:cs.length=1→∃ c d,SameC c d∧cs=[c]∧ds=[d]:=fun h1=>by
   cases hc with
   |nil=>cases h1
   |cons a b=>
    cases b with
    |nil=>exact ⟨_,_,a,rfl,rfl⟩
    |cons b c=>simp at h1
  rcases g1 with ⟨rfl,hn⟩|⟨rfl,hn⟩|⟨hk,hn⟩|⟨hk,hn⟩|⟨rfl,hn,_⟩
  ·rw [Ek1 J,Ek0 (by decide),Ek0 (by decide),Ek0 (by decide),Ek0 (by decide),Ek0 (by decide)];exact .empty
  ·rw [Ek0 (by decide),Ek1 J,Ek1 J];exact .set
  ·obtain ⟨c,e,h1,rfl,rfl⟩:=one hn;rw [Ek0 (by omega),Ek0 (by omega),Ek1 hk,Ek0 (by omega),Ek1 hk];exact h1
  ·rcases hk with rfl|rfl
   ·rw [Ek0 (by decide),Ek0 (by decide),Ek0 (by decide),Ek1 J,Ek0 (by decide),Ek0 (by decide),Ek1 J];exact Bo5 hc
   ·rw [Ek0 (by decide),Ek0 (by decide),Ek0 (by decide),Ek0 (by decide),Ek1 J,Ek0 (by decide),Ek0 (by decide),Ek0 (by decide),Ek1 J];exact Cp2 hc
  ·obtain ⟨c,e,h1,rfl,rfl⟩:=one hn;rw [Ek0 (by decide),Ek0 (by decide),Ek0 (by decide),Ek0 (by decide),Ek0 (by decide),Ek0 (by decide),Ek0 (by decide),Ek0 (by decide),Ek0 (by decide),Ek1 J];unfold Am9 Bh7;refine Bo5 (.app (.rep h1 _) ?_)
   split
   ·exact .cons (.star h1) .nil
   ·split
    ·exact .cons (Bo4 h1 lz _) .nil
    ·exact .nil
theorem Bw4:∀ {l k},SameSs l k→G6s l→SameCs (S3 l) (N2 k)
 |_,_,.nil,_=>by rw [S3,N2];exact .nil
 |_,_,.cons a h,g=>by
  rw [G6s] at g;rw [S3,N2];exact .cons (Co9 a g.1) (Bw4 h g.2)
end
theorem Ax2:SameC Ak7 Ct6:=.star (by
 have:(2 ^ 256 - 1:Nat)=Q2 0:=by decide+kernel
 rw [this]
 exact .set)
theorem Dz2 {t u} (h:SameC t u) (m:Int):SameC (Al0 t m) (Ch2 u m):=by
 unfold Al0 Ch2
 split
 ·exact .cat h Ax2
 split
 ·exact .cat Ax2 h
 split
 ·exact .cat Ax2 (.cat h Ax2)
 ·exact h
end Go.Clt
end
