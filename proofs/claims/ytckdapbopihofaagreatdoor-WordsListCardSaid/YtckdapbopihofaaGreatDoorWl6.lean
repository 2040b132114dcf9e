import Derived.Test.YtckdapbopihofaaGreatDoorWl5
/- The first words, in order; how many there are of a length (WordsList). Conditions: none beyond the statement's own. A part of that proof: Ref11, Ref12, Ref13, Eq1, Eq2, Ref14, Ref15, Ref16, Tree8, Ref17, Tree6, Ref21, Ref22, Ref23, Ref24, Ref25, Ref26, Eq3, Ref27, Eq4. Conditions: none beyond the statement's own. By an AI agent; no person has read it. -/
set_option linter.unusedVariables false
set_option linter.unusedSimpArgs false
set_option maxRecDepth 8000
set_option maxHeartbeats 4000000
namespace Go.Clt
open Go Go.RowKit Go.Proofs
def OneR (r:RTk × Int × Int) (w:World) (u:Value) (w':World):Prop:=Chg [] w w'∧u= .tuple #[.agg (Au5 r.1).toArray,endV r.2]
theorem rone_c (s:ByteArray) (hs:s.size≤1000) (at_:Nat) (hat:at_<s.size) (w:World):Calls P 145 #[.string s,.int .i64 (at_:Nat)] w (Ret (OneR (Cg4 (B7 s) at_) w)):=by
 have hC:=A8 [] w;have hsl:=E8 s;have hlt:=V8 s;obtain ⟨u8,hu,hu2⟩:=I9 s at_ hat;have hb:=hlt _ (H5 (B7 s) 0 at_ (by omega));refine D4 Tryz.func145 J J (Qd (B5 J (B9 Cr6 J) ?_));intro b1 w1 hb1 hs1 hx1 hB1;refine B5 J (B9 J2 J) ?_;intro b2 w2 hb2 hs2 hx2 hB2;refine Qc (Qd (Z 2 J (C9 J (Does.to (F3 Tryz.underlying9 J J (by omega) (by exact hu)) (J5 (show ((u8.toNat:Nat):Int)=(((B7 s).getD at_ 0:Nat):Int) by rw [hu2]))) ?_)));have hE:Cg4 (B7 s) at_=Cg4 (B7 s) at_:=rfl
 conv at hE=>rhs;unfold Cg4
 simp only [] at hE;generalize hc:(B7 s).getD at_ 0=c at*;refine Zc 1 J (Qd (Z 1 J (Ad J J (by omega) (C9 J (B0 J2 M4 J (by rfl)) ?_))));refine B5 J (B9 J2 J) ?_;intro b3 w3 hb3 hs3 hx3 hB3;refine Pe G5 J ‹_› J J ?_;intro w4 hs4 hx4 hB3;refine Qc (Qd (Z 1 J (C9 J (B0 Cr6 pl231 J (by rfl)) ?_)));refine B5 J (B9 Cr6 J) ?_;intro b5 w5 hb5 hs5 hx5 hB5;refine Pe V7 J ‹_› J J ?_;intro w6 hs6 hx6 hB5;have hC:=hC.step (((((hx1.j hx2).j hx3).j hx4).j hx5).j hx6) (by simp<;>omega);have hB1:=hB1.q ((((hx2.j hx3).j hx4).j hx5).j hx6) (by simp<;>omega);have hB2:=hB2.q (((hx3.j hx4).j hx5).j hx6) (by simp<;>omega);have hB3:=hB3.q (hx5.j hx6) (by simp<;>omega)
 refine Qc (Qa (Qd (Zc 1 J (B2 (Qd (Zc 2 J (A4 J (fun c1=>?_) (fun c1=>?_))))))))
 ·try simp at c1
  rw [Ej7 (by omega)] at hE;refine Qd (Z 2 J (Ca fb168 J (resc_c s hs at_ (by omega) _) ?_));rintro _ w7 ⟨hx7,rfl⟩;have hB5:=hB5.u hx7;refine Z 3 J (Fa Bm2 J (Pe J8 J ‹_› J J ?_));intro w8 hs8 hx8 hB5;have hB3:=hB3.q (hx7.j hx8) (by simp<;>omega);refine Pe G5 J ‹_› J J ?_;intro w9 hs9 hx9 hB3;refine Qc (Qa (C7 (S:=[b1]) 3 [(0,0),(0,1),(1,2),(2,3)] mo (by kernel_rfl) ?_));intro w10 hx10 hh10;have hB1:=hB1.q (((hx7.j hx8).j hx9).j hx10) (by simp<;>omega);have hB3:=hB3.u hx10;have hB5:=hB5.q (hx9.j hx10) (by simp<;>omega);have hCS10:=A8 ([b1]) w10;refine D5 J (C1 K4 J ‹_› (by simp;omega) J J) ?_;refine D5 J (C1 F7 J ‹_› (by simp;omega) J J) ?_;refine H7 (G2 V7 J J ‹_› J J J J J) ?_;intro w11 hs11 hx11 hB1;have hB2:=hB2.q ((((hx7.j hx8).j hx9).j hx10).j hx11) (by simp<;>omega);have hCS10:=hCS10.step hx11 (by simp;done);refine ⟨hCS10,?_⟩;refine Pe G5 J ‹_› J J ?_;intro w12 hs12 hx12 hB2;have hC:=hC.step (((((hx7.j hx8).j hx9).j hx10).j hx11).j hx12) (by simp<;>omega);have hB1:=hB1.q hx12 (by simp;omega);refine Qc (A6 (C8 J J (A5 K4 ‹_› J J) J (A5 F7 ‹_› J J) ?_));exact ⟨hC,by rw [hE];rfl⟩
 ·try simp at c1
  rw [Ej6 (by omega)] at hE
  refine Qd (Zc 2 J (A4 J (fun c2=>?_) (fun c2=>?_)))
  ·try simp at c2
   rw [Ej7 (by omega)] at hE;refine Qd (Z 2 J (Ca fb169 J (rclass_c s hs at_ hat _) ?_));rintro _ w13 ⟨hx13,rfl⟩;have hB5:=hB5.u hx13;refine Z 3 J (Fa Bm2 J (Pe J8 J ‹_› J J ?_));intro w14 hs14 hx14 hB5;have hB3:=hB3.q (hx13.j hx14) (by simp<;>omega);refine Pe G5 J ‹_› J J ?_;intro w15 hs15 hx15 hB3;refine Qc (Qa (C7 (S:=[b1]) 3 [(0,0),(0,1),(1,2),(2,3)] mo (by kernel_rfl) ?_));intro w16 hx16 hh16;have hB1:=hB1.q (((hx13.j hx14).j hx15).j hx16) (by simp<;>omega);have hB3:=hB3.u hx16;have hB5:=hB5.q (hx15.j hx16) (by simp<;>omega);have hCS16:=A8 ([b1]) w16;refine D5 J (C1 K4 J ‹_› (by simp;omega) J J) ?_;refine D5 J (C1 F7 J ‹_› (by simp;omega) J J) ?_;refine H7 (G2 V7 J J ‹_› J J J J J) ?_;intro w17 hs17 hx17 hB1;have hB2:=hB2.q ((((hx13.j hx14).j hx15).j hx16).j hx17) (by simp<;>omega);have hCS16:=hCS16.step hx17 (by simp;done);refine ⟨hCS16,?_⟩;refine Pe G5 J ‹_› J J ?_;intro w18 hs18 hx18 hB2;have hC:=hC.step (((((hx13.j hx14).j hx15).j hx16).j hx17).j hx18) (by simp<;>omega);have hB1:=hB1.q hx18 (by simp;omega);refine Qc (A6 (C8 J J (A5 K4 ‹_› J J) J (A5 F7 ‹_› J J) ?_));exact ⟨hC,by rw [hE];rfl⟩
  ·try simp at c2
   rw [Ej6 (by omega)] at hE
   refine Qd (Zc 2 J (A4 J (fun c3=>?_) (fun c3=>?_)))
   ·try simp at c3
    rw [Ej7 (by omega)] at hE;refine Qd (Fa T9 J (Pe sz3 J ‹_› J J ?_));intro w19 hs19 hx19 hB5;have hC:=hC.step hx19 (by simp;omega);have hB1:=hB1.q hx19 (by simp;omega);have hB2:=hB2.q hx19 (by simp;omega);have hB3:=hB3.q hx19 (by simp;omega)
    refine Qc (Qa (Qd (Z 1 J (Ad J J (by omega) (Z 1 J (C9 J (F6 Tryz.underlying9 J) (Z 2 J (C0 (d:=48) J (fun p1=>?_) (fun p1=>?_)))))))))
    ·try simp at p1
     have hin:at_+1<s.size:=by omega
     obtain ⟨u9,hu3,hu4⟩:=I9 s (at_+1) hin;refine Qu J (Z 1 J (Qu J (Z 1 J (Qu J (Ad J J (by omega) (Qu J (C9 J (Does.to (F3 Tryz.underlying9 J J (by omega) (by exact hu3)) (J5 (show ((u9.toNat:Nat):Int)=(((B7 s).getD (at_+1) 0:Nat):Int) by rw [hu4]))) ?_)))))))
     refine Qu J (Zc 2 J (A4 J (fun p2=>?_) (fun p2=>?_)))
     ·rw [cmpB_eql] at p2;rw [Ej7 ⟨by omega,by omega⟩] at hE;refine Qd (Fa T9 J (Pe sz3 J ‹_› J J ?_));intro w20 hs20 hx20 hB5;have hB3:=hB3.q hx20 (by simp;omega);refine Qc (Qd (Z 1 J (Ad J J (by omega) (C9 J (B0 J2 M4 J (by rfl)) ?_))));refine Pe G5 J ‹_› J J ?_;intro w21 hs21 hx21 hB3;have hC:=hC.step (hx20.j hx21) (by simp<;>omega);have hB1:=hB1.q (hx20.j hx21) (by simp<;>omega);have hB2:=hB2.q (hx20.j hx21) (by simp<;>omega);have hB5:=hB5.q hx21 (by simp;omega)
      refine Qc (Qd (Z 1 J (Ad J J (by omega) (Z 1 J (C9 J (F6 Tryz.underlying9 J) (Z 2 J (C0 (d:=64) J (fun p3=>?_) (fun p3=>?_))))))))
      ·try simp at p3
       rw [Ej7 (.inl (by omega))] at hE;refine Qk J (Qk J (Qk J (Qk J (Qk J (Zc 1 J (E3 J (Qb (Z 1 J (C9 J (B0 J2 M4 J (by rfl)) ?_)))))))));refine Pe G5 J ‹_› J J ?_;intro w22 hs22 hx22 hB3;refine Qc (Qa (C7 (S:=[b1]) 3 [(0,0),(0,1),(1,2),(2,3)] mo (by kernel_rfl) ?_));intro w23 hx23 hh23;have hB1:=hB1.q (hx22.j hx23) (by simp<;>omega);have hB3:=hB3.u hx23;have hB5:=hB5.q (hx22.j hx23) (by simp<;>omega);have hCS23:=A8 ([b1]) w23;refine D5 J (C1 K4 J ‹_› (by simp;omega) J J) ?_;refine D5 J (C1 F7 J ‹_› (by simp;omega) J J) ?_;refine H7 (G2 V7 J J ‹_› J J J J J) ?_;intro w24 hs24 hx24 hB1;have hB2:=hB2.q ((hx22.j hx23).j hx24) (by simp<;>omega);have hCS23:=hCS23.step hx24 (by simp;done);refine ⟨hCS23,?_⟩;refine Pe G5 J ‹_› J J ?_;intro w25 hs25 hx25 hB2;have hC:=hC.step (((hx22.j hx23).j hx24).j hx25) (by simp<;>omega);have hB1:=hB1.q hx25 (by simp;omega);refine Qc (A6 (C8 J J (A5 K4 ‹_› J J) J (A5 F7 ‹_› J J) ?_));exact ⟨hC,by rw [hE];unfold Au5;simp only [C6];rfl⟩
      ·try simp at p3
       have hin2:at_+2<s.size:=by omega
       obtain ⟨v9,hv3,hv4⟩:=I9 s (at_+2) hin2;refine Qu J (Z 1 J (Qu J (Z 1 J (Qu J (Ad J J (by omega) (Qu J (C9 J (Does.to (F3 Tryz.underlying9 J J (by omega) (by exact hv3)) (J5 (show ((v9.toNat:Nat):Int)=(((B7 s).getD (at_+2) 0:Nat):Int) by rw [hv4]))) ?_)))))))
       refine Qu J (Zc 2 J (A4 J (fun p4=>?_) (fun p4=>?_)))
       ·rw [cmpB_neq] at p4;rw [Ej7 (.inr (by omega))] at hE;refine Qb (Z 1 J (C9 J (B0 J2 M4 J (by rfl)) ?_));refine Pe G5 J ‹_› J J ?_;intro w26 hs26 hx26 hB3;refine Qc (Qa (C7 (S:=[b1]) 3 [(0,0),(0,1),(1,2),(2,3)] mo (by kernel_rfl) ?_));intro w27 hx27 hh27;have hB1:=hB1.q (hx26.j hx27) (by simp<;>omega);have hB3:=hB3.u hx27;have hB5:=hB5.q (hx26.j hx27) (by simp<;>omega);have hCS27:=A8 ([b1]) w27;refine D5 J (C1 K4 J ‹_› (by simp;omega) J J) ?_;refine D5 J (C1 F7 J ‹_› (by simp;omega) J J) ?_;refine H7 (G2 V7 J J ‹_› J J J J J) ?_;intro w28 hs28 hx28 hB1;have hB2:=hB2.q ((hx26.j hx27).j hx28) (by simp<;>omega);have hCS27:=hCS27.step hx28 (by simp;done);refine ⟨hCS27,?_⟩;refine Pe G5 J ‹_› J J ?_;intro w29 hs29 hx29 hB2;have hC:=hC.step (((hx26.j hx27).j hx28).j hx29) (by simp<;>omega);have hB1:=hB1.q hx29 (by simp;omega);refine Qc (A6 (C8 J J (A5 K4 ‹_› J J) J (A5 F7 ‹_› J J) ?_));exact ⟨hC,by rw [hE];unfold Au5;simp only [C6];rfl⟩
       ·rw [cmpB_neqF] at p4;rw [Ej6 (by omega)] at hE;refine A7 (Qa (C7 (S:=[b1]) 3 [(0,0),(0,1),(1,2),(2,3)] mo (by kernel_rfl) ?_));intro w30 hx30 hh30;have hB1:=hB1.u hx30;have hB3:=hB3.u hx30;have hB5:=hB5.u hx30;have hCS30:=A8 ([b1]) w30;refine D5 J (C1 K4 J ‹_› (by simp;omega) J J) ?_;refine D5 J (C1 F7 J ‹_› (by simp;omega) J J) ?_;refine H7 (G2 V7 J J ‹_› J J J J J) ?_;intro w31 hs31 hx31 hB1;have hB2:=hB2.q (hx30.j hx31) (by simp<;>omega);have hCS30:=hCS30.step hx31 (by simp;done);refine ⟨hCS30,?_⟩;refine Pe G5 J ‹_› J J ?_;intro w32 hs32 hx32 hB2;have hC:=hC.step ((hx30.j hx31).j hx32) (by simp<;>omega);have hB1:=hB1.q hx32 (by simp;omega);refine Qc (A6 (C8 J J (A5 K4 ‹_› J J) J (A5 F7 ‹_› J J) ?_));exact ⟨hC,by rw [hE];unfold Au5;simp only [C6];rfl⟩
     ·rw [cmpB_eqlF] at p2;rw [Ej6 (by omega)] at hE;refine A7 (Qa (C7 (S:=[b1]) 3 [(0,0),(0,1),(1,2),(2,3)] mo (by kernel_rfl) ?_));intro w33 hx33 hh33;have hB1:=hB1.u hx33;have hB3:=hB3.u hx33;have hB5:=hB5.u hx33;have hCS33:=A8 ([b1]) w33;refine D5 J (C1 K4 J ‹_› (by simp;omega) J J) ?_;refine D5 J (C1 F7 J ‹_› (by simp;omega) J J) ?_;refine H7 (G2 V7 J J ‹_› J J J J J) ?_;intro w34 hs34 hx34 hB1;have hB2:=hB2.q (hx33.j hx34) (by simp<;>omega);have hCS33:=hCS33.step hx34 (by simp;done);refine ⟨hCS33,?_⟩;refine Pe G5 J ‹_› J J ?_;intro w35 hs35 hx35 hB2;have hC:=hC.step ((hx33.j hx34).j hx35) (by simp<;>omega);have hB1:=hB1.q hx35 (by simp;omega);refine Qc (A6 (C8 J J (A5 K4 ‹_› J J) J (A5 F7 ‹_› J J) ?_));exact ⟨hC,by rw [hE];unfold Au5;simp only [C6];rfl⟩
    ·try simp at p1
     rw [Ej6 (by omega)] at hE;refine Qk J (Qk J (Qk J (Qk J (Qk J (Zc 1 J (E4 J (A7 (Qa (C7 (S:=[b1]) 3 [(0,0),(0,1),(1,2),(2,3)] mo (by kernel_rfl) ?_)))))))));intro w36 hx36 hh36;have hB1:=hB1.u hx36;have hB3:=hB3.u hx36;have hB5:=hB5.u hx36;have hCS36:=A8 ([b1]) w36;refine D5 J (C1 K4 J ‹_› (by simp;omega) J J) ?_;refine D5 J (C1 F7 J ‹_› (by simp;omega) J J) ?_;refine H7 (G2 V7 J J ‹_› J J J J J) ?_;intro w37 hs37 hx37 hB1;have hB2:=hB2.q (hx36.j hx37) (by simp<;>omega);have hCS36:=hCS36.step hx37 (by simp;done);refine ⟨hCS36,?_⟩;refine Pe G5 J ‹_› J J ?_;intro w38 hs38 hx38 hB2;have hC:=hC.step ((hx36.j hx37).j hx38) (by simp<;>omega);have hB1:=hB1.q hx38 (by simp;omega);refine Qc (A6 (C8 J J (A5 K4 ‹_› J J) J (A5 F7 ‹_› J J) ?_));exact ⟨hC,by rw [hE];unfold Au5;simp only [C6];rfl⟩
   ·try simp at c3
    rw [Ej6 (by omega)] at hE
    refine Qd (Zc 2 J (A4 J (fun c4=>?_) (fun c4=>?_)))
    ·try simp at c4
     rw [Ej7 (by omega)] at hE;refine Qd (Fa T9 J (Pe sz3 J ‹_› J J ?_));intro w39 hs39 hx39 hB5;refine Qc (Qa (C7 (S:=[b1]) 3 [(0,0),(0,1),(1,2),(2,3)] mo (by kernel_rfl) ?_));intro w40 hx40 hh40;have hB1:=hB1.q (hx39.j hx40) (by simp<;>omega);have hB3:=hB3.q (hx39.j hx40) (by simp<;>omega);have hB5:=hB5.u hx40;have hCS40:=A8 ([b1]) w40;refine D5 J (C1 K4 J ‹_› (by simp;omega) J J) ?_;refine D5 J (C1 F7 J ‹_› (by simp;omega) J J) ?_;refine H7 (G2 V7 J J ‹_› J J J J J) ?_;intro w41 hs41 hx41 hB1;have hB2:=hB2.q ((hx39.j hx40).j hx41) (by simp<;>omega);have hCS40:=hCS40.step hx41 (by simp;done);refine ⟨hCS40,?_⟩;refine Pe G5 J ‹_› J J ?_;intro w42 hs42 hx42 hB2;have hC:=hC.step (((hx39.j hx40).j hx41).j hx42) (by simp<;>omega);have hB1:=hB1.q hx42 (by simp;omega);refine Qc (A6 (C8 J J (A5 K4 ‹_› J J) J (A5 F7 ‹_› J J) ?_));exact ⟨hC,by rw [hE];unfold Au5;simp only [C6];rfl⟩
    ·try simp at c4
     rw [Ej6 (by omega)] at hE
     refine Qd (Zc 2 J (A4 J (fun c5=>?_) (fun c5=>?_)))
     ·try simp at c5
      rw [Ej7 (by omega)] at hE;refine Qd (Fa T9 J (Pe sz3 J ‹_› J J ?_));intro w43 hs43 hx43 hB5;refine Qc (Qa (C7 (S:=[b1]) 3 [(0,0),(0,1),(1,2),(2,3)] mo (by kernel_rfl) ?_));intro w44 hx44 hh44;have hB1:=hB1.q (hx43.j hx44) (by simp<;>omega);have hB3:=hB3.q (hx43.j hx44) (by simp<;>omega);have hB5:=hB5.u hx44;have hCS44:=A8 ([b1]) w44;refine D5 J (C1 K4 J ‹_› (by simp;omega) J J) ?_;refine D5 J (C1 F7 J ‹_› (by simp;omega) J J) ?_;refine H7 (G2 V7 J J ‹_› J J J J J) ?_;intro w45 hs45 hx45 hB1;have hB2:=hB2.q ((hx43.j hx44).j hx45) (by simp<;>omega);have hCS44:=hCS44.step hx45 (by simp;done);refine ⟨hCS44,?_⟩;refine Pe G5 J ‹_› J J ?_;intro w46 hs46 hx46 hB2;have hC:=hC.step (((hx43.j hx44).j hx45).j hx46) (by simp<;>omega);have hB1:=hB1.q hx46 (by simp;omega);refine Qc (A6 (C8 J J (A5 K4 ‹_› J J) J (A5 F7 ‹_› J J) ?_));exact ⟨hC,by rw [hE];unfold Au5;simp only [C6];rfl⟩
     ·try simp at c5
      rw [Ej6 (by omega)] at hE
      refine Qd (Zc 2 J (A4 J (fun c6=>?_) (fun c6=>?_)))
      ·try simp at c6
       rw [Ej7 (by omega)] at hE;refine Qd (C9 J (D8 Q5 X3 J (by rfl)) ?_);refine B5 J (B6 As0 Tryz.underlying268 Q5 J J J (by rfl)) ?_;intro b47 w47 hb47 hs47 hx47 hB47;refine Ca Aq9 J (L7 [(10,10)] true _ _ J (by decide) _ ‹_›) ?_;rintro _ w48 ⟨rfl,hx48⟩;have hB5:=hB5.u (hx47.s0 hx48);refine Fa Bm2 J (Pe J8 J ‹_› J J ?_);intro w49 hs49 hx49 hB5;refine Qc (Qa (C7 (S:=[b1]) 3 [(0,0),(0,1),(1,2),(2,3)] mo (by kernel_rfl) ?_));intro w50 hx50 hh50;have hB1:=hB1.q (((hx47.j hx48).j hx49).j hx50) (by simp<;>omega);have hB3:=hB3.q (((hx47.j hx48).j hx49).j hx50) (by simp<;>omega);have hB5:=hB5.u hx50;have hCS50:=A8 ([b1]) w50;refine D5 J (C1 K4 J ‹_› (by simp;omega) J J) ?_;refine D5 J (C1 F7 J ‹_› (by simp;omega) J J) ?_;refine H7 (G2 V7 J J ‹_› J J J J J) ?_;intro w51 hs51 hx51 hB1;have hB2:=hB2.q ((((hx47.j hx48).j hx49).j hx50).j hx51) (by simp<;>omega);have hCS50:=hCS50.step hx51 (by simp;done);refine ⟨hCS50,?_⟩;refine Pe G5 J ‹_› J J ?_;intro w52 hs52 hx52 hB2;have hC:=hC.step (((((hx47.j hx48).j hx49).j hx50).j hx51).j hx52) (by simp<;>omega);have hB1:=hB1.q hx52 (by simp;omega);refine Qc (A6 (C8 J J (A5 K4 ‹_› J J) J (A5 F7 ‹_› J J) ?_));exact ⟨hC,by rw [hE];rfl⟩
      ·try simp at c6
       rw [Ej6 (by omega)] at hE
       refine Qa (Qd (Zc 2 J (A4 J (fun c7=>?_) (fun c7=>?_))))
       ·refine A7 (E3 (H0 J c7) ?_);rw [cmpB_eql] at c7;rw [Ej7 (by omega)] at hE;refine Qd (La K4 J ‹_› J J ?_);refine Z 1 J (C9 J (B0 J2 M4 J (by rfl)) ?_);refine Pe V7 J ‹_› J J ?_;intro w53 hs53 hx53 hB1;have hB2:=hB2.q hx53 (by simp;omega);refine Pe G5 J ‹_› J J ?_;intro w54 hs54 hx54 hB2;have hC:=hC.step (hx53.j hx54) (by simp<;>omega);have hB1:=hB1.q hx54 (by simp;omega);refine Qc (A6 (C8 J J (A5 K4 ‹_› J J) J (A5 F7 ‹_› J J) ?_));exact ⟨hC,by rw [hE];unfold Au5;simp only [C6];rfl⟩
       ·rw [cmpB_eqlF] at c7
        refine Qb (Zc 2 J (A4 J (fun c8=>?_) (fun c8=>?_)))
        ·rw [cmpB_eql] at c8;rw [Ej7 (by omega)] at hE;refine Qd (La K4 J ‹_› J J ?_);refine Z 1 J (C9 J (B0 J2 M4 J (by rfl)) ?_);refine Pe V7 J ‹_› J J ?_;intro w55 hs55 hx55 hB1;have hB2:=hB2.q hx55 (by simp;omega);refine Pe G5 J ‹_› J J ?_;intro w56 hs56 hx56 hB2;have hC:=hC.step (hx55.j hx56) (by simp<;>omega);have hB1:=hB1.q hx56 (by simp;omega);refine Qc (A6 (C8 J J (A5 K4 ‹_› J J) J (A5 F7 ‹_› J J) ?_));exact ⟨hC,by rw [hE];unfold Au5;simp only [C6];rfl⟩
        ·rw [cmpB_eqlF] at c8;rw [Ej6 (by omega)] at hE
         refine Qa (Qd (Zc 2 J (A4 J (fun c9=>?_) (fun c9=>?_))))
         ·refine A7 (E3 (H0 J c9) ?_);rw [cmpB_eql] at c9;rw [Ej7 (by omega)] at hE;refine Qd (La K4 J ‹_› J J ?_);refine Z 1 J (C9 J (B0 J2 M4 J (by rfl)) ?_);refine Pe V7 J ‹_› J J ?_;intro w57 hs57 hx57 hB1;have hB2:=hB2.q hx57 (by simp;omega);refine Pe G5 J ‹_› J J ?_;intro w58 hs58 hx58 hB2;have hC:=hC.step (hx57.j hx58) (by simp<;>omega);have hB1:=hB1.q hx58 (by simp;omega);refine Qc (A6 (C8 J J (A5 K4 ‹_› J J) J (A5 F7 ‹_› J J) ?_));exact ⟨hC,by rw [hE];unfold Au5;simp only [C6];rfl⟩
         ·rw [cmpB_eqlF] at c9
          refine Qb (Zc 2 J (A4 J (fun c10=>?_) (fun c10=>?_)))
          ·rw [cmpB_eql] at c10;rw [Ej7 (by omega)] at hE;refine Qd (La K4 J ‹_› J J ?_);refine Z 1 J (C9 J (B0 J2 M4 J (by rfl)) ?_);refine Pe V7 J ‹_› J J ?_;intro w59 hs59 hx59 hB1;have hB2:=hB2.q hx59 (by simp;omega);refine Pe G5 J ‹_› J J ?_;intro w60 hs60 hx60 hB2;have hC:=hC.step (hx59.j hx60) (by simp<;>omega);have hB1:=hB1.q hx60 (by simp;omega);refine Qc (A6 (C8 J J (A5 K4 ‹_› J J) J (A5 F7 ‹_› J J) ?_));exact ⟨hC,by rw [hE];unfold Au5;simp only [C6];rfl⟩
          ·rw [cmpB_eqlF] at c10;rw [Ej6 (by omega)] at hE;refine A7 (Qa (Qd (Z 1 J (Ca fb171 J (rin_c Eg2 (by decide) c hb _) ?_))));rintro _ w61 ⟨rfl,hx61⟩;have hC:=hC.s0 hx61;have hB1:=hB1.u hx61;have hB2:=hB2.u hx61;have hB3:=hB3.u hx61;have hB5:=hB5.u hx61
           refine Zc 1 J (A4 J (fun n1=>?_) (fun n1=>?_))
           ·have n1':c∉B7 Eg2:=by simpa using n1
            rw [Ej7 n1'] at hE;refine Qd (Z 1 J (C9 J (H3 kn5 Tryz.underlying3 J (by exact I3 (by omega))) ?_));refine Z 1 J (C9 J (H3 kn5 Tryz.underlying3 J (by exact I3 (by omega))) ?_);refine C9 J (D8 Q5 X3 J (by rfl)) ?_;refine B5 J (B6 As0 Tryz.underlying268 Q5 J J J (by rfl)) ?_;intro b62 w62 hb62 hs62 hx62 hB62;refine Ca Aq9 J (L7 [((c:Int),(c:Int))] false _ _ J (by simp) _ ‹_›) ?_;rintro _ w63 ⟨rfl,hx63⟩;have hB5:=hB5.u (hx62.s0 hx63);refine Fa Bm2 J (Pe J8 J ‹_› J J ?_);intro w64 hs64 hx64 hB5;refine Qc (Qa (C7 (S:=[b1]) 3 [(0,0),(0,1),(1,2),(2,3)] mo (by kernel_rfl) ?_));intro w65 hx65 hh65;have hB1:=hB1.q (((hx62.j hx63).j hx64).j hx65) (by simp<;>omega);have hB3:=hB3.q (((hx62.j hx63).j hx64).j hx65) (by simp<;>omega);have hB5:=hB5.u hx65;have hCS65:=A8 ([b1]) w65;refine D5 J (C1 K4 J ‹_› (by simp;omega) J J) ?_;refine D5 J (C1 F7 J ‹_› (by simp;omega) J J) ?_;refine H7 (G2 V7 J J ‹_› J J J J J) ?_;intro w66 hs66 hx66 hB1;have hB2:=hB2.q ((((hx62.j hx63).j hx64).j hx65).j hx66) (by simp<;>omega);have hCS65:=hCS65.step hx66 (by simp;done);refine ⟨hCS65,?_⟩;refine Pe G5 J ‹_› J J ?_;intro w67 hs67 hx67 hB2;have hC:=hC.step (((((hx62.j hx63).j hx64).j hx65).j hx66).j hx67) (by simp<;>omega);have hB1:=hB1.q hx67 (by simp;omega);refine Qc (A6 (C8 J J (A5 K4 ‹_› J J) J (A5 F7 ‹_› J J) ?_));exact ⟨hC,by rw [hE];rfl⟩
           ·have n1':¬ c∉B7 Eg2:=by simpa using n1
            rw [Ej6 n1'] at hE;refine A7 (Qd (Fa T9 J (Pe sz3 J ‹_› J J ?_)));intro w68 hs68 hx68 hB5;refine Qc (Qd (Fa Cc5 J (Pe sz3 J ‹_› J J ?_)));intro w69 hs69 hx69 hB5;have hC:=hC.step (hx68.j hx69) (by simp<;>omega);have hB1:=hB1.q (hx68.j hx69) (by simp<;>omega);have hB2:=hB2.q (hx68.j hx69) (by simp<;>omega);have hB3:=hB3.q (hx68.j hx69) (by simp<;>omega)
            refine Qc (I0 (fun e9 wr=>∃ t q,Sub [(0,.string s),(4,.pointer (some ⟨b1,0,none⟩)),(5,.pointer (some ⟨b2,0,none⟩)),(7,.pointer (some ⟨b3,0,none⟩)),(8,.pointer (some ⟨b5,0,none⟩))] e9∧Chg [] w wr∧Blk wr b1 (Au5 ⟨0,0,0,0,0,0,false⟩) 231∧Blk wr b2 (endC (0,0)) 232∧Blk wr b3 (endC q) 232∧Blk wr b5 (Au5 t) 231∧Cg4 (B7 s) at_=Ce9 (B7 s) t q∧(∃ i:Nat,q.1=(i:Int)∧i≤5000)) ?_ ?_)
            ·refine Qd (Zc 1 J (B2 (Qd (Zc 2 J (A4 J (fun d1=>?_) (fun d1=>?_))))))
             ·try simp at d1
              rw [Ej7 (by omega)] at hE;refine Qb (Fa Cw1 J (Pe sz3 J ‹_› J J ?_));intro w70 hs70 hx70 hB5;have hC:=hC.step hx70 (by simp;omega);have hB1:=hB1.q hx70 (by simp;omega);have hB2:=hB2.q hx70 (by simp;omega);have hB3:=hB3.q hx70 (by simp;omega);refine Qc ⟨⟨5,at_,0,0,1,-1,false⟩,((at_:Int)+1,0),sb J,?_⟩;exact ⟨hC,by unfold Au5;simp only [C6];exact hB1,hB2,hB3,by unfold Au5;simp only [C6];exact hB5,hE,⟨at_+1,by show (at_:Int)+1=_;omega,by omega⟩⟩
             ·try simp at d1
              rw [Ej6 (by omega)] at hE
              refine Qd (Zc 2 J (A4 J (fun d2=>?_) (fun d2=>?_)))
              ·try simp at d2
               rw [Ej7 (by omega)] at hE;refine Qb (Fa Cc5 J (Pe sz3 J ‹_› J J ?_));intro w71 hs71 hx71 hB5;have hC:=hC.step hx71 (by simp;omega);have hB1:=hB1.q hx71 (by simp;omega);have hB2:=hB2.q hx71 (by simp;omega);have hB3:=hB3.q hx71 (by simp;omega);refine Qc ⟨⟨5,at_,0,0,0,1,false⟩,((at_:Int)+1,0),sb J,?_⟩;exact ⟨hC,by unfold Au5;simp only [C6];exact hB1,hB2,hB3,by unfold Au5;simp only [C6];exact hB5,hE,⟨at_+1,by show (at_:Int)+1=_;omega,by omega⟩⟩
              ·try simp at d2
               rw [Ej6 (by omega)] at hE
               refine Qd (Zc 2 J (A4 J (fun d3=>?_) (fun d3=>?_)))
               ·try simp at d3
                rw [Ej7 (by omega)] at hE;have hbp:=Cz1 (B7 s) hlt (at_+1);refine Qb (Z 2 J (Ad J J (by omega) (Ca fb172 J (Dv8 s hs (at_+1) (by omega) _) ?_)));rintro _ w72 ⟨hx72,rfl⟩;have hB5:=hB5.u hx72;generalize J9 (B7 s) (at_+1)=b at*;obtain ⟨bm,bn,bp,be⟩:=b;obtain ⟨j,hj,hj2⟩:=hbp;simp only [] at hj hE;refine Z 4 J (Fa Cw1 J (Pe sz3 J ‹_› J J ?_));intro w73 hs73 hx73 hB5;refine Fa Cc5 J (Pe sz3 J ‹_› J J ?_);intro w74 hs74 hx74 hB5;have hB3:=hB3.q ((hx72.j hx73).j hx74) (by simp<;>omega);refine Pe G5 J ‹_› J J ?_;intro w75 hs75 hx75 hB3;have hC:=hC.step (((hx72.j hx73).j hx74).j hx75) (by simp<;>omega);have hB1:=hB1.q (((hx72.j hx73).j hx74).j hx75) (by simp<;>omega);have hB2:=hB2.q (((hx72.j hx73).j hx74).j hx75) (by simp<;>omega);have hB5:=hB5.q hx75 (by simp;omega);refine Qc ⟨⟨5,at_,0,0,bm,bn,false⟩,(bp,be),sb J,?_⟩;exact ⟨hC,by unfold Au5;simp only [C6];exact hB1,hB2,hB3,by unfold Au5;simp only [C6];exact hB5,hE,⟨j,hj,by omega⟩⟩
               ·try simp at d3
                rw [Ej6 (by omega)] at hE;refine A7 ⟨⟨5,at_,0,0,0,-1,false⟩,((at_:Int)+1,0),sb J,?_⟩;exact ⟨hC,by unfold Au5;simp only [C6];exact hB1,hB2,hB3,by unfold Au5;simp only [C6];exact hB5,hE,⟨at_+1,by show (at_:Int)+1=_;omega,by omega⟩⟩
            rintro e9 w9 ⟨t,q,hs9,hC,hB1,hB2,hB3,hB5,hR,hq⟩;refine H9 _ hs9 ?_;clear hs9 e9;obtain ⟨q1,qe⟩:=q;obtain ⟨i,hi,hi2⟩:=hq;simp only [] at hi;subst hi;unfold Ce9 at hR;simp only [Ek6] at hR;refine Qa (Qd (Fa Ac5 J (Lb o3 J ‹_› (by rfl) ?_)))
            refine Zc 1 J (A4 J (fun z1=>?_) (fun z1=>?_))
            ·try simp at z1
             rw [Ej7 z1] at hR;refine Qa (C7 (S:=[b1]) 3 [(0,0),(0,1),(1,2),(2,3)] mo (by kernel_rfl) ?_);intro w76 hx76 hh76;have hB1:=hB1.u hx76;have hB3:=hB3.u hx76;have hB5:=hB5.u hx76;have hCS76:=A8 ([b1]) w76;refine D5 J (C1 K4 J ‹_› (by simp;omega) J J) ?_;refine D5 J (C1 F7 J ‹_› (by simp;omega) J J) ?_;refine H7 (G2 V7 J J ‹_› J J J J J) ?_;intro w77 hs77 hx77 hB1;have hB2:=hB2.q (hx76.j hx77) (by simp<;>omega);have hCS76:=hCS76.step hx77 (by simp;done);refine ⟨hCS76,?_⟩;refine Pe G5 J ‹_› J J ?_;intro w78 hs78 hx78 hB2;have hC:=hC.step ((hx76.j hx77).j hx78) (by simp<;>omega);have hB1:=hB1.q hx78 (by simp;omega);refine Qc (A6 (C8 J J (A5 K4 ‹_› J J) J (A5 F7 ‹_› J J) ?_));exact ⟨hC,by rw [hR];rfl⟩
            ·try simp at z1
             have z1':qe=0:=by simpa using z1
             subst z1';rw [Ej6 (by simp)] at hR;refine A7 (Qa (Qd (Fa G4 J (Lb o3 J ‹_› (by rfl) ?_))))
             refine Z 1 J (C9 J (F6 Tryz.underlying9 J) (Z 2 J (C0 (d:=149) J (fun z2=>?_) (fun z2=>?_))))
             ·try simp at z2
              have hin:i<s.size:=by omega
              obtain ⟨u9,hu3,hu4⟩:=I9 s i hin;refine Qu J (Z 1 J (Qu J (Fa G4 J (Qu J (Lb o3 J ‹_› (by rfl) ?_)))));refine Qu J (C9 J (Does.to (F3 Tryz.underlying9 J J (by omega) (by exact hu3)) (J5 (show ((u9.toNat:Nat):Int)=(((B7 s).getD i 0:Nat):Int) by rw [hu4]))) ?_)
              refine Qu J (Zc 2 J (A4 J (fun z3=>?_) (fun z3=>?_)))
              ·rw [cmpB_eql] at z3;rw [Ej7 ⟨by omega,by omega⟩] at hR;simp only [] at hR;refine Qd (Fa Ed0 J (Pe sz4 J ‹_› J J ?_));intro w79 hs79 hx79 hB5;have hB3:=hB3.q hx79 (by simp;omega);refine Qc (Qb (Fa G4 J (Lb o3 J ‹_› (by rfl) ?_)));refine Ad J J (by omega) (Fa G4 J (Pe sz3 J ‹_› J J ?_));intro w80 hs80 hx80 hB3;have hC:=hC.step (hx79.j hx80) (by simp<;>omega);have hB1:=hB1.q (hx79.j hx80) (by simp<;>omega);have hB2:=hB2.q (hx79.j hx80) (by simp<;>omega);have hB5:=hB5.q hx80 (by simp;omega);refine Qc (Qa (Qd (Fa G4 J (Lb o3 J ‹_› (by rfl) ?_))))
               refine Z 1 J (C9 J (F6 Tryz.underlying9 J) (Z 2 J (C0 (d:=166) J (fun y1=>?_) (fun y1=>?_))))
               ·try simp at y1
                have hin:i+1<s.size:=by omega
                obtain ⟨v8,hv,hv2⟩:=I9 s (i+1) hin;refine Qu J (Z 1 J (Qu J (Fa G4 J (Qu J (Lb o3 J ‹_› (by rfl) ?_)))));refine Qu J (C9 J (Does.to (F3 Tryz.underlying9 J J (by omega) (by exact hv)) (J5 (show ((v8.toNat:Nat):Int)=(((B7 s).getD (i+1) 0:Nat):Int) by rw [hv2]))) ?_)
                refine Qu J (Zc 2 J (A4 J (fun y2=>?_) (fun y2=>?_)))
                ·rw [cmpB_eql] at y2;rw [Ej7 ⟨by omega,by omega⟩] at hR;refine Qb (Fa Ac5 J (Pe sz3 J ‹_› J J ?_));intro w81 hs81 hx81 hB3;refine Qc (Qa (C7 (S:=[b1]) 3 [(0,0),(0,1),(1,2),(2,3)] mo (by kernel_rfl) ?_));intro w82 hx82 hh82;have hB1:=hB1.q (hx81.j hx82) (by simp<;>omega);have hB3:=hB3.u hx82;have hB5:=hB5.q (hx81.j hx82) (by simp<;>omega);have hCS82:=A8 ([b1]) w82;refine D5 J (C1 K4 J ‹_› (by simp;omega) J J) ?_;refine D5 J (C1 F7 J ‹_› (by simp;omega) J J) ?_;refine H7 (G2 V7 J J ‹_› J J J J J) ?_;intro w83 hs83 hx83 hB1;have hB2:=hB2.q ((hx81.j hx82).j hx83) (by simp<;>omega);have hCS82:=hCS82.step hx83 (by simp;done);refine ⟨hCS82,?_⟩;refine Pe G5 J ‹_› J J ?_;intro w84 hs84 hx84 hB2;have hC:=hC.step (((hx81.j hx82).j hx83).j hx84) (by simp<;>omega);have hB1:=hB1.q hx84 (by simp;omega);refine Qc (A6 (C8 J J (A5 K4 ‹_› J J) J (A5 F7 ‹_› J J) ?_));exact ⟨hC,by rw [hR];rfl⟩
                ·rw [cmpB_eqlF] at y2;rw [Ej6 (by omega)] at hR;refine A7 (Qa (C7 (S:=[b1]) 3 [(0,0),(0,1),(1,2),(2,3)] mo (by kernel_rfl) ?_));intro w85 hx85 hh85;have hB1:=hB1.u hx85;have hB3:=hB3.u hx85;have hB5:=hB5.u hx85;have hCS85:=A8 ([b1]) w85;refine D5 J (C1 K4 J ‹_› (by simp;omega) J J) ?_;refine D5 J (C1 F7 J ‹_› (by simp;omega) J J) ?_;refine H7 (G2 V7 J J ‹_› J J J J J) ?_;intro w86 hs86 hx86 hB1;have hB2:=hB2.q (hx85.j hx86) (by simp<;>omega);have hCS85:=hCS85.step hx86 (by simp;done);refine ⟨hCS85,?_⟩;refine Pe G5 J ‹_› J J ?_;intro w87 hs87 hx87 hB2;have hC:=hC.step ((hx85.j hx86).j hx87) (by simp<;>omega);have hB1:=hB1.q hx87 (by simp;omega);refine Qc (A6 (C8 J J (A5 K4 ‹_› J J) J (A5 F7 ‹_› J J) ?_));exact ⟨hC,by rw [hR];rfl⟩
               ·try simp at y1
                rw [Ej6 (by omega)] at hR;refine Qk J (Qk J (Qk J (Qk J (Qk J (Zc 1 J (E4 J (A7 (Qa (C7 (S:=[b1]) 3 [(0,0),(0,1),(1,2),(2,3)] mo (by kernel_rfl) ?_)))))))));intro w88 hx88 hh88;have hB1:=hB1.u hx88;have hB3:=hB3.u hx88;have hB5:=hB5.u hx88;have hCS88:=A8 ([b1]) w88;refine D5 J (C1 K4 J ‹_› (by simp;omega) J J) ?_;refine D5 J (C1 F7 J ‹_› (by simp;omega) J J) ?_;refine H7 (G2 V7 J J ‹_› J J J J J) ?_;intro w89 hs89 hx89 hB1;have hB2:=hB2.q (hx88.j hx89) (by simp<;>omega);have hCS88:=hCS88.step hx89 (by simp;done);refine ⟨hCS88,?_⟩;refine Pe G5 J ‹_› J J ?_;intro w90 hs90 hx90 hB2;have hC:=hC.step ((hx88.j hx89).j hx90) (by simp<;>omega);have hB1:=hB1.q hx90 (by simp;omega);refine Qc (A6 (C8 J J (A5 K4 ‹_› J J) J (A5 F7 ‹_› J J) ?_));exact ⟨hC,by rw [hR];rfl⟩
              ·rw [cmpB_eqlF] at z3;rw [Ej6 (by omega)] at hR;simp only [] at hR;refine A7 (Qa (Qd (Fa G4 J (Lb o3 J ‹_› (by rfl) ?_))))
               refine Z 1 J (C9 J (F6 Tryz.underlying9 J) (Z 2 J (C0 (d:=166) J (fun y1=>?_) (fun y1=>?_))))
               ·try simp at y1
                have hin:i<s.size:=by omega
                obtain ⟨v8,hv,hv2⟩:=I9 s (i) hin;refine Qu J (Z 1 J (Qu J (Fa G4 J (Qu J (Lb o3 J ‹_› (by rfl) ?_)))));refine Qu J (C9 J (Does.to (F3 Tryz.underlying9 J J (by omega) (by exact hv)) (J5 (show ((v8.toNat:Nat):Int)=(((B7 s).getD (i) 0:Nat):Int) by rw [hv2]))) ?_)
                refine Qu J (Zc 2 J (A4 J (fun y2=>?_) (fun y2=>?_)))
                ·rw [cmpB_eql] at y2;rw [Ej7 ⟨by omega,by omega⟩] at hR;refine Qb (Fa Ac5 J (Pe sz3 J ‹_› J J ?_));intro w91 hs91 hx91 hB3;refine Qc (Qa (C7 (S:=[b1]) 3 [(0,0),(0,1),(1,2),(2,3)] mo (by kernel_rfl) ?_));intro w92 hx92 hh92;have hB1:=hB1.q (hx91.j hx92) (by simp<;>omega);have hB3:=hB3.u hx92;have hB5:=hB5.q (hx91.j hx92) (by simp<;>omega);have hCS92:=A8 ([b1]) w92;refine D5 J (C1 K4 J ‹_› (by simp;omega) J J) ?_;refine D5 J (C1 F7 J ‹_› (by simp;omega) J J) ?_;refine H7 (G2 V7 J J ‹_› J J J J J) ?_;intro w93 hs93 hx93 hB1;have hB2:=hB2.q ((hx91.j hx92).j hx93) (by simp<;>omega);have hCS92:=hCS92.step hx93 (by simp;done);refine ⟨hCS92,?_⟩;refine Pe G5 J ‹_› J J ?_;intro w94 hs94 hx94 hB2;have hC:=hC.step (((hx91.j hx92).j hx93).j hx94) (by simp<;>omega);have hB1:=hB1.q hx94 (by simp;omega);refine Qc (A6 (C8 J J (A5 K4 ‹_› J J) J (A5 F7 ‹_› J J) ?_));exact ⟨hC,by rw [hR];rfl⟩
                ·rw [cmpB_eqlF] at y2;rw [Ej6 (by omega)] at hR;refine A7 (Qa (C7 (S:=[b1]) 3 [(0,0),(0,1),(1,2),(2,3)] mo (by kernel_rfl) ?_));intro w95 hx95 hh95;have hB1:=hB1.u hx95;have hB3:=hB3.u hx95;have hB5:=hB5.u hx95;have hCS95:=A8 ([b1]) w95;refine D5 J (C1 K4 J ‹_› (by simp;omega) J J) ?_;refine D5 J (C1 F7 J ‹_› (by simp;omega) J J) ?_;refine H7 (G2 V7 J J ‹_› J J J J J) ?_;intro w96 hs96 hx96 hB1;have hB2:=hB2.q (hx95.j hx96) (by simp<;>omega);have hCS95:=hCS95.step hx96 (by simp;done);refine ⟨hCS95,?_⟩;refine Pe G5 J ‹_› J J ?_;intro w97 hs97 hx97 hB2;have hC:=hC.step ((hx95.j hx96).j hx97) (by simp<;>omega);have hB1:=hB1.q hx97 (by simp;omega);refine Qc (A6 (C8 J J (A5 K4 ‹_› J J) J (A5 F7 ‹_› J J) ?_));exact ⟨hC,by rw [hR];rfl⟩
               ·try simp at y1
                rw [Ej6 (by omega)] at hR;refine Qk J (Qk J (Qk J (Qk J (Qk J (Zc 1 J (E4 J (A7 (Qa (C7 (S:=[b1]) 3 [(0,0),(0,1),(1,2),(2,3)] mo (by kernel_rfl) ?_)))))))));intro w98 hx98 hh98;have hB1:=hB1.u hx98;have hB3:=hB3.u hx98;have hB5:=hB5.u hx98;have hCS98:=A8 ([b1]) w98;refine D5 J (C1 K4 J ‹_› (by simp;omega) J J) ?_;refine D5 J (C1 F7 J ‹_› (by simp;omega) J J) ?_;refine H7 (G2 V7 J J ‹_› J J J J J) ?_;intro w99 hs99 hx99 hB1;have hB2:=hB2.q (hx98.j hx99) (by simp<;>omega);have hCS98:=hCS98.step hx99 (by simp;done);refine ⟨hCS98,?_⟩;refine Pe G5 J ‹_› J J ?_;intro w100 hs100 hx100 hB2;have hC:=hC.step ((hx98.j hx99).j hx100) (by simp<;>omega);have hB1:=hB1.q hx100 (by simp;omega);refine Qc (A6 (C8 J J (A5 K4 ‹_› J J) J (A5 F7 ‹_› J J) ?_));exact ⟨hC,by rw [hR];rfl⟩
             ·try simp at z2
              rw [Ej6 (by omega)] at hR;simp only [] at hR;refine Qk J (Qk J (Qk J (Qk J (Qk J (Zc 1 J (E4 J (A7 (Qa (Qd (Fa G4 J (Lb o3 J ‹_› (by rfl) ?_)))))))))))
              refine Z 1 J (C9 J (F6 Tryz.underlying9 J) (Z 2 J (C0 (d:=166) J (fun y1=>?_) (fun y1=>?_))))
              ·try simp at y1
               have hin:i<s.size:=by omega
               obtain ⟨v8,hv,hv2⟩:=I9 s (i) hin;refine Qu J (Z 1 J (Qu J (Fa G4 J (Qu J (Lb o3 J ‹_› (by rfl) ?_)))));refine Qu J (C9 J (Does.to (F3 Tryz.underlying9 J J (by omega) (by exact hv)) (J5 (show ((v8.toNat:Nat):Int)=(((B7 s).getD (i) 0:Nat):Int) by rw [hv2]))) ?_)
               refine Qu J (Zc 2 J (A4 J (fun y2=>?_) (fun y2=>?_)))
               ·rw [cmpB_eql] at y2;rw [Ej7 ⟨by omega,by omega⟩] at hR;refine Qb (Fa Ac5 J (Pe sz3 J ‹_› J J ?_));intro w101 hs101 hx101 hB3;refine Qc (Qa (C7 (S:=[b1]) 3 [(0,0),(0,1),(1,2),(2,3)] mo (by kernel_rfl) ?_));intro w102 hx102 hh102;have hB1:=hB1.q (hx101.j hx102) (by simp<;>omega);have hB3:=hB3.u hx102;have hB5:=hB5.q (hx101.j hx102) (by simp<;>omega);have hCS102:=A8 ([b1]) w102;refine D5 J (C1 K4 J ‹_› (by simp;omega) J J) ?_;refine D5 J (C1 F7 J ‹_› (by simp;omega) J J) ?_;refine H7 (G2 V7 J J ‹_› J J J J J) ?_;intro w103 hs103 hx103 hB1;have hB2:=hB2.q ((hx101.j hx102).j hx103) (by simp<;>omega);have hCS102:=hCS102.step hx103 (by simp;done);refine ⟨hCS102,?_⟩;refine Pe G5 J ‹_› J J ?_;intro w104 hs104 hx104 hB2;have hC:=hC.step (((hx101.j hx102).j hx103).j hx104) (by simp<;>omega);have hB1:=hB1.q hx104 (by simp;omega);refine Qc (A6 (C8 J J (A5 K4 ‹_› J J) J (A5 F7 ‹_› J J) ?_));exact ⟨hC,by rw [hR];rfl⟩
               ·rw [cmpB_eqlF] at y2;rw [Ej6 (by omega)] at hR;refine A7 (Qa (C7 (S:=[b1]) 3 [(0,0),(0,1),(1,2),(2,3)] mo (by kernel_rfl) ?_));intro w105 hx105 hh105;have hB1:=hB1.u hx105;have hB3:=hB3.u hx105;have hB5:=hB5.u hx105;have hCS105:=A8 ([b1]) w105;refine D5 J (C1 K4 J ‹_› (by simp;omega) J J) ?_;refine D5 J (C1 F7 J ‹_› (by simp;omega) J J) ?_;refine H7 (G2 V7 J J ‹_› J J J J J) ?_;intro w106 hs106 hx106 hB1;have hB2:=hB2.q (hx105.j hx106) (by simp<;>omega);have hCS105:=hCS105.step hx106 (by simp;done);refine ⟨hCS105,?_⟩;refine Pe G5 J ‹_› J J ?_;intro w107 hs107 hx107 hB2;have hC:=hC.step ((hx105.j hx106).j hx107) (by simp<;>omega);have hB1:=hB1.q hx107 (by simp;omega);refine Qc (A6 (C8 J J (A5 K4 ‹_› J J) J (A5 F7 ‹_› J J) ?_));exact ⟨hC,by rw [hR];rfl⟩
              ·try simp at y1
               rw [Ej6 (by omega)] at hR;refine Qk J (Qk J (Qk J (Qk J (Qk J (Zc 1 J (E4 J (A7 (Qa (C7 (S:=[b1]) 3 [(0,0),(0,1),(1,2),(2,3)] mo (by kernel_rfl) ?_)))))))));intro w108 hx108 hh108;have hB1:=hB1.u hx108;have hB3:=hB3.u hx108;have hB5:=hB5.u hx108;have hCS108:=A8 ([b1]) w108;refine D5 J (C1 K4 J ‹_› (by simp;omega) J J) ?_;refine D5 J (C1 F7 J ‹_› (by simp;omega) J J) ?_;refine H7 (G2 V7 J J ‹_› J J J J J) ?_;intro w109 hs109 hx109 hB1;have hB2:=hB2.q (hx108.j hx109) (by simp<;>omega);have hCS108:=hCS108.step hx109 (by simp;done);refine ⟨hCS108,?_⟩;refine Pe G5 J ‹_› J J ?_;intro w110 hs110 hx110 hB2;have hC:=hC.step ((hx108.j hx109).j hx110) (by simp<;>omega);have hB1:=hB1.q hx110 (by simp;omega);refine Qc (A6 (C8 J J (A5 K4 ‹_› J J) J (A5 F7 ‹_› J J) ?_));exact ⟨hC,by rw [hR];rfl⟩
def GoodP (L:List Nat) (at_:Nat) (e:Int × Int):Prop:=e.2=0→∃ j:Nat,e.1=(j:Int)∧at_+1≤j∧j≤L.length
theorem Ac9 {L:List Nat} {at_:Nat} {a b:Int} (h:b≠0):GoodP L at_ (a,b):=fun h'=>absurd h' h
theorem GoodP.one {L:List Nat} {at_:Nat} (h:at_<L.length):GoodP L at_ ((at_:Int)+1,0):=fun _=>⟨at_+1,by show (at_:Int)+1=_;omega,by omega,by omega⟩
theorem Ed9 (L:List Nat) (at_:Nat):GoodP L at_ (Cn9 L at_).2:=fun h=>by
 obtain ⟨i,h1,h2,_⟩:=Dg3 L at_;exact ⟨i,h1,by have:=(h2 h).1;omega,(h2 h).2⟩
theorem Dh5 (L:List Nat):∀ (f:Nat) (fi:Bool) (on:List Bool) (i:Nat) (on':List Bool) (i':Nat),Cy4 L f fi on i= .inr (on',i')→i≤i'∧(i'<L.length∨(i'=i∧fi=false∧i<L.length))
 |0,fi,on,i,on',i',h=>by cases h
 |f+1,fi,on,i,on',i',h=>by
  rw [Cy4] at h
  by_cases hg:fi=true∨L.length≤i∨L.getD i 0≠93
  ·rw [Ej7 hg] at h
   cases hs:Ac7 L on i with
   |inl e=>rw [hs] at h;cases h
   |inr x=>
    obtain ⟨on2,i2⟩:=x;rw [hs] at h
    have hi2:i<i2:=by
     unfold Ac7 at hs;simp only [] at hs;obtain ⟨i1,h1,h2,_⟩:=Ax4 L i;obtain ⟨i3,h3,h4,_⟩:=Ax4 L ((V4 L i).2.1.toNat+1);generalize V4 L ((V4 L i).2.1.toNat+1)=y at*;generalize V4 L i=x at*;obtain ⟨x1,xp,xe⟩:=x;obtain ⟨y1,yp,ye⟩:=y;simp only [] at h1 h2 h3 h4 hs;subst h1 h3;simp only [Ek6] at hs h4
     by_cases e1:xe≠0
     ·rw [Ej7 e1] at hs;cases hs
     rw [Ej6 e1] at hs;have h2:=h2 (by simpa using e1)
     by_cases e2:L.length≤i1∨L.getD i1 0≠45
     ·rw [Ej7 e2] at hs;injection hs with hs;injection hs with _ hs;omega
     rw [Ej6 e2] at hs
     by_cases e3:Z9 x1<0
     ·rw [Ej7 e3] at hs;cases hs
     rw [Ej6 e3] at hs
     by_cases e4:ye≠0
     ·rw [Ej7 e4] at hs;cases hs
     rw [Ej6 e4] at hs;have h4:=h4 (by simpa using e4)
     by_cases e5:Z9 y1<0
     ·rw [Ej7 e5] at hs;cases hs
     rw [Ej6 e5] at hs
     by_cases e6:Z9 y1<Z9 x1
     ·rw [Ej7 e6] at hs;cases hs
     rw [Ej6 e6] at hs;injection hs with hs
     injection hs with _ hs
     omega
    have:=Dh5 L f false on2 i2 on' i' h;exact ⟨by omega,by rcases this.2 with h5|h5;exact .inl h5;exact .inl (by omega)⟩
  ·rw [Ej6 hg] at h;injection h with h
   injection h with h1 h2
   subst h2;have:=Et7.1 hg;exact ⟨Ek7 _,.inl (by have:=Et7.1 this.2;omega)⟩
theorem Bn9 (L:List Nat) (on:List Bool) (i:Nat) (e:Int × Int) (hs:Ac7 L on i= .inl e):e.2≠0:=by
 unfold Ac7 at hs;simp only [] at hs;generalize V4 L ((V4 L i).2.1.toNat+1)=y at*;generalize V4 L i=x at*
 by_cases e1:x.2.2≠0
 ·rw [Ej7 e1] at hs;injection hs with hs;rw [← hs];exact e1
 rw [Ej6 e1] at hs
 by_cases e2:L.length≤x.2.1.toNat∨L.getD x.2.1.toNat 0≠45
 ·rw [Ej7 e2] at hs;cases hs
 rw [Ej6 e2] at hs
 by_cases e3:Z9 x.1<0
 ·rw [Ej7 e3] at hs;injection hs with hs;rw [← hs];show (4:Int)≠0;decide
 rw [Ej6 e3] at hs
 by_cases e4:y.2.2≠0
 ·rw [Ej7 e4] at hs;injection hs with hs;rw [← hs];exact e4
 rw [Ej6 e4] at hs
 by_cases e5:Z9 y.1<0
 ·rw [Ej7 e5] at hs;injection hs with hs;rw [← hs];show (4:Int)≠0;decide
 rw [Ej6 e5] at hs
 by_cases e6:Z9 y.1<Z9 x.1
 ·rw [Ej7 e6] at hs;injection hs with hs;rw [← hs];show (5:Int)≠0;decide
 rw [Ej6 e6] at hs
 cases hs
theorem Cf0 (L:List Nat):∀ (f:Nat) (fi:Bool) (on:List Bool) (i:Nat) (e:Int × Int),Cy4 L f fi on i= .inl e→e.2≠0
 |0,fi,on,i,e,h=>by
  rw [Cy4] at h;injection h with h
  rw [← h];show (4:Int)≠0
  decide
 |f+1,fi,on,i,e,h=>by
  rw [Cy4] at h
  by_cases hg:fi=true∨L.length≤i∨L.getD i 0≠93
  ·rw [Ej7 hg] at h
   cases hs:Ac7 L on i with
   |inl e'=>rw [hs] at h;injection h with h;rw [← h];exact Bn9 L on i e' hs
   |inr x=>obtain ⟨on2,i2⟩:=x;rw [hs] at h;exact Cf0 L f false on2 i2 e h
  ·rw [Ej6 hg] at h;cases h
theorem Cy5 (L:List Nat) (at_:Nat):GoodP L at_ (Ao1 L at_).2:=by
 unfold Ao1;simp only []
 cases hr:Cy4 L (L.length+2) true (List.replicate 256 false) (at_+1+if Dx9 L at_=true then 1 else 0) with
 |inl e=>exact fun h=>absurd h (Cf0 L _ _ _ _ e hr)
 |inr x=>
  obtain ⟨on,i⟩:=x;have:=Dh5 L _ _ _ _ _ _ hr;exact fun _=>⟨i+1,by show (i:Int)+1=_;omega,by omega,by rcases this.2 with h|h;omega;omega⟩
theorem Ay2 {L:List Nat} {at_:Nat} {t:RTk} {e:Int × Int} (h:GoodP L at_ e):GoodP L at_ (Ce9 L t e).2:=by
 unfold Ce9
 by_cases h1:e.2≠0
 ·rw [Ej7 h1];exact h
 rw [Ej6 h1];obtain ⟨j,h2,h3,h4⟩:=h (by simpa using h1);obtain ⟨e1,e2⟩:=e;simp only [] at h2;subst h2;simp only [Ek6]
 by_cases h5:j<L.length∧L.getD j 0=63
 ·rw [Ej7 h5];exact fun _=>⟨j+1,rfl,by omega,by omega⟩
 ·rw [Ej6 h5];exact fun _=>⟨j,rfl,by omega,by omega⟩
theorem Au0 {L:List Nat} {at_:Nat} (m n:Int) {i:Nat} (h:at_≤i):GoodP L at_ (L9 L m n i).2.2:=by
 unfold L9
 by_cases h1:L.length≤i∨L.getD i 0≠125
 ·rw [Ej7 h1];exact Ac9 (by decide)
 ·rw [Ej6 h1];have:=Et7.1 h1;exact fun _=>⟨i+1,by show (i:Int)+1=_;omega,by omega,by omega⟩
theorem Cp3 (L:List Nat) (hL:∀ b∈L,b<256) (at_:Nat):GoodP L at_ (J9 L at_).2.2:=by
 obtain ⟨_,_,i,hi,hi1,hi2⟩:=S7 L hL at_;unfold J9;simp only [];generalize I8 L at_=a at*;obtain ⟨m,p,e⟩:=a;simp only [] at hi;subst hi;simp only [Ek6]
 by_cases h1:e≠0
 ·rw [Ej7 h1];exact Ac9 h1
 rw [Ej6 h1]
 by_cases h2:i<L.length∧L.getD i 0=44
 ·rw [Ej7 h2]
  by_cases h3:L.length≤i+1∨L.getD (i+1) 0≠125
  ·rw [Ej7 h3];obtain ⟨_,_,k,hk,hk1,hk2⟩:=S7 L hL (i+1);generalize I8 L (i+1)=b at*;obtain ⟨m2,p2,e2⟩:=b;simp only [] at hk;subst hk;simp only [Ek6]
   by_cases h4:e2≠0
   ·rw [Ej7 h4];exact Ac9 h4
   rw [Ej6 h4]
   by_cases h5:m2<m
   ·rw [Ej7 h5];exact Ac9 (by decide)
   rw [Ej6 h5];exact Au0 m m2 (by omega)
  ·rw [Ej6 h3];exact Au0 m (-1) (by omega)
 ·rw [Ej6 h2];exact Au0 m m (by omega)
theorem GoodP.low {L:List Nat} {a b:Nat} {e:Int × Int} (h:GoodP L b e) (hab:a≤b):GoodP L a e:=fun h'=>by
 obtain ⟨j,h1,h2,h3⟩:=h h';exact ⟨j,h1,by omega,h3⟩
theorem Ck3 (L:List Nat) (hL:∀ b∈L,b<256) (at_:Nat) (h:at_<L.length):GoodP L at_ (Cg4 L at_).2:=by
 have h1:GoodP L at_ ((at_:Int)+1,0):=GoodP.one h;unfold Cg4;simp only [];generalize L.getD at_ 0=c
 by_cases c1:c=92
 ·rw [Ej7 c1];exact Ed9 L at_
 rw [Ej6 c1]
 by_cases c2:c=91
 ·rw [Ej7 c2];exact Cy5 L at_
 rw [Ej6 c2]
 by_cases c3:c=40
 ·rw [Ej7 c3]
  by_cases d1:at_+1<L.length∧L.getD (at_+1) 0=63
  ·rw [Ej7 d1]
   by_cases d2:L.length≤at_+2∨L.getD (at_+2) 0≠58
   ·rw [Ej7 d2];exact Ac9 (by decide)
   ·rw [Ej6 d2];have:=Et7.1 d2;exact fun _=>⟨at_+3,by show (at_:Int)+3=_;omega,by omega,by omega⟩
  ·rw [Ej6 d1];exact h1
 rw [Ej6 c3]
 by_cases c4:c=41
 ·rw [Ej7 c4];exact h1
 rw [Ej6 c4]
 by_cases c5:c=124
 ·rw [Ej7 c5];exact h1
 rw [Ej6 c5]
 by_cases c6:c=46
 ·rw [Ej7 c6];exact h1
 rw [Ej6 c6]
 by_cases c7:c=94∨c=36
 ·rw [Ej7 c7];exact Ac9 (by decide)
 rw [Ej6 c7]
 by_cases c8:c=93∨c=125
 ·rw [Ej7 c8];exact Ac9 (by decide)
 rw [Ej6 c8]
 by_cases c9:c∉B7 Eg2
 ·rw [Ej7 c9];exact h1
 rw [Ej6 c9]
 by_cases e1:c=43
 ·rw [Ej7 e1];exact Ay2 h1
 rw [Ej6 e1]
 by_cases e2:c=63
 ·rw [Ej7 e2];exact Ay2 h1
 rw [Ej6 e2]
 by_cases e3:c=123
 ·rw [Ej7 e3];exact Ay2 ((Cp3 L hL (at_+1)).low (by omega))
 rw [Ej6 e3];exact Ay2 h1
def V2 (l:List RTk):List Value:=l.flatMap Au5
theorem By4 (l:List RTk) (t:RTk):V2 (l++[t])=V2 l++Au5 t:=by simp [V2]
theorem rscan_c (s:ByteArray) (hs:s.size≤1000) (w:World):Calls P 118 #[.string s] w (Ret fun u w'=>Chg [] w w'∧∃ A c,u= .tuple #[.slice A (K2 (B7 s)).1.length c,.int .i64 (K2 (B7 s)).2.1,.int .i64 (K2 (B7 s)).2.2]∧Rd (FR w.heap.size w'.heap.size []) w' 10 A (K2 (B7 s)).1.length (V2 (K2 (B7 s)).1)):=by
 have hC:=A8 [] w;have hsl:=E8 s;have hlt:=V8 s;have hr:Z1 (B7 s) ((B7 s).length+1) 0 []=K2 (B7 s):=rfl;generalize K2 (B7 s)=r at*
 refine D4 Tryz.func118 J J (Qd (Zc 3 J (Qd (Zc 1 J (Qa (Qd (Zc 1 J (B2 (D9 (σ:=Nat × Nat × List RTk × Option Addr × Nat) (fun (f,at_,l,A,c)=>[(0,.string s),(5,.slice A l.length c),(6,.int .i64 at_)]) (fun (f,at_,l,A,c) wr=>Chg [] w wr∧Own wr w.heap.size 231 10 A l.length c (V2 l)∧Z1 (B7 s) f at_ l=r∧(B7 s).length<at_+f∧at_≤(B7 s).length∧l.length≤at_) (fun (f,at_,l,A,c) wr=>f) ((B7 s).length+1,0,[],none,0) (sb J) ?_ ?_)))))))))
 ·exact ⟨hC,Own.nil _ _ _ _,hr,by omega,by omega,by simp⟩
 rintro ⟨f,at_,l,A,c⟩ w9 ⟨hC,hO,hN,hf,hat,hll⟩;obtain ⟨f,rfl⟩:∃ g,f=g+1:=⟨f - 1,by omega⟩;have hOb:=hO.blk;rw [Z1] at hN
 try have hzw:=hC.size
 refine Qa (Qd (Z 2 J (C9 J (F6 Tryz.underlying9 J) (Zc 1 J (A4 J (fun h1=>?_) (fun h1=>?_))))))
 ·try simp at h1
  have hin:at_<s.size:=by omega
  rw [Ej7 (by omega)] at hN;simp only [] at hN;have hg:=Ck3 (B7 s) hlt at_ (by omega);refine A7 (B2 (Qd (Z 2 J (Ca fb145 J (rone_c s hs at_ hin _) ?_))));rintro _ w1 ⟨hx1,rfl⟩;have hz1:=hx1.size;generalize Cg4 (B7 s) at_=x at*;obtain ⟨x,p,e⟩:=x;refine Z 3 J (B5 J (B9 Cr6 J) ?_);intro b2 w2 hb2 hs2 hx2 hB2;refine B5 J (B9 J2 J) ?_;intro b3 w3 hb3 hs3 hx3 hB3;have hO:=hO.u ((hx1.s0 hx2).s0 hx3);have hB2:=hB2.u hx3;refine Pe V7 J ‹_› J J ?_;intro w4 hs4 hx4 hB2;have hO:=(by exact hO.q hx4 (by intro x hx;have hx:=Ej9.1 hx;right;intro h;have:=hOb x (by rw [h];exact Ej9.2 J);omega));have hB3:=hB3.q hx4 (by simp;omega);refine Pe G5 J ‹_› J J ?_;intro w5 hs5 hx5 hB3;have hC:=hC.step ((((hx1.j hx2).j hx3).j hx4).j hx5) (by simp<;>omega);have hO:=(by exact hO.q hx5 (by intro x hx;have hx:=Ej9.1 hx;right;intro h;have:=hOb x (by rw [h];exact Ej9.2 J);omega));have hB2:=hB2.q hx5 (by simp;omega);refine Qc (Qa (Qd (Fa Ac5 J (Lb o3 J ‹_› (by rfl) ?_))))
  refine Zc 1 J (A4 J (fun e1=>?_) (fun e1=>?_))
  ·try simp at e1
   rw [Ej7 e1] at hN;subst hN;refine Qa (C7 (S:=[]) 6 [(0,0),(0,1),(0,2),(0,3),(0,4),(0,5),(2,6)] mo (by kernel_rfl) ?_);intro w6 hx6 hh6;have hC:=hC.s0 hx6;have hB3:=hB3.u hx6;refine Fa G4 J (D5 J (B3 o3 J ‹_› (by simp;done) (by rfl)) ?_);refine Fa Ac5 J (D5 J (B3 o3 J ‹_› (by simp;done) (by rfl)) ?_);exact Zc 3 J (A6 (P0 J J J J ⟨hC,none,0,rfl,Rd.nil _ _ _ _⟩))
  ·try simp at e1
   have e1':e=0:=by simpa using e1
   subst e1';obtain ⟨j,hj,hj1,hj2⟩:=hg rfl;simp only [] at hj;subst hj;rw [Ej6 (by simp)] at hN;simp only [Ek6] at hN;refine A7 (Qd (Fa G4 J (Lb o3 J ‹_› (by rfl) ?_)));refine Fa Cc6 J (Pe sz3 J ‹_› J J ?_);intro w7 hs7 hx7 hB2;have hO:=(by exact hO.q hx7 (by intro x hx;have hx:=Ej9.1 hx;right;intro h;have:=hOb x (by rw [h];exact Ej9.2 J);omega));refine Qc (Qd (Z 1 J (La K4 J ‹_› J J ?_)));refine B5 J (B6 Al1 Tryz.underlying187 Cr6 J J J (by rfl)) ?_;intro b8 w8 hb8 hs8 hx8 hB8;have hC:=hC.step (hx7.j hx8) (by simp<;>omega);have hO:=hO.u hx8;have hB3:=hB3.q (hx7.j hx8) (by simp<;>omega);refine G1 J el187 J J hO (Blk.rd (F:=fun _=>True) ‹_› J trivial) (by rfl) (by omega) (by omega) ?_;intro A' c' w9 hO9 hx9 hA';have hC:=hC.step hx9 (by intro x h;have:=hOb x h;exact .inr (by omega));have hB3:=hB3.q hx9 (by intro h;have:=hOb _ h;omega)
   replace hO:=hO9
   refine Zc 1 J (Qb (Fa G4 J (Lb o3 J ‹_› (by rfl) ?_)));refine Zc 1 J ⟨(f,j,l++[{ x with till:=(j:Int) }],A',c'),⟨rfl,(Q2 J (by rw [Ek1];rfl)),rfl,trivial⟩,?_,?_⟩;refine ⟨hC,by rw [Ek1,By4];exact hO,hN,by omega,by omega,by simp;omega⟩;show f<f+1;omega
 ·try simp at h1
  rw [Ej6 (by omega)] at hN;subst hN;exact Xb (Qd (Z 2 J (Ln Tryz.underlying187 J (Zc 3 J (A6 (P0 J J J J ⟨hC,A,c,rfl,hO.rd (fun x h1 h2=>⟨h1,h2,by simp⟩)⟩))))))
end Go.Clt
section
namespace Go.Clt
open Go Go.RowKit
def SameE (r:Nat × Int × Int) (q:Nat × Ps):Prop:=r.2.2=0→q.2.e=0→r.1=q.1∧r.2.1=(q.2.i:Int)
theorem Ci3:∀ c,c<256→decide (c∈B7 Dk4)=decide (0≤Bd9 Au9 c):=by decide+kernel
theorem cls_same:∀ c,c<256→decide (c∈B7 clsT)=decide (0≤Bd9 Cm4 c):=by decide+kernel
theorem As7 (l:List Bool) (j:Nat):(onS l).testBit j=(decide (j<256) && l.getD j false):=by
 unfold onS;rw [Ah6];unfold onL;rw [El0];simp only [El6,Er0,Em7,Ek2]
theorem smS_bit (l:List (Int × Int)) (neg:Bool) (j:Nat):(smS l neg).testBit j=(decide (j<256) && (inP l j !=neg)):=by
 unfold smS;rw [As7]
 by_cases hj:j<256
 ·unfold smL;simp [Ej8,hj]
 ·rw [Ek9 hj];rfl
theorem Av0 (c:Nat) (hc:c<256):smS [((c:Int),(c:Int))] false=E9 [c]:=by
 apply Er6;intro j;rw [smS_bit,Ah6,El0];simp [inP];omega
def hexW (c:Nat):Int:=if c<65 then Bd9 decT c else Bd9 hexT (c|||32)
theorem hex_same:∀ c,c<256→hexW c=Aj4 c:=by decide+kernel
theorem Cm6:∀ c,c<256→Aj4 c<16:=by decide+kernel
def Dd5 (c:Nat):Option Nat:=
 if c=110 then some (smS [(10,10)] false) else if c=116 then some (smS [(9,9)] false) else if c=114 then some (smS [(13,13)] false) else if c=102 then some (smS [(12,12)] false) else if c=118 then some (smS [(11,11)] false)
 else if c=100∨c=68 then some (smS digs (Aa7 .eql (c:Int) 68)) else if c=119∨c=87 then some (smS wrds (Aa7 .eql (c:Int) 87)) else if c=115∨c=83 then some (smS spcs (Aa7 .eql (c:Int) 83)) else none
theorem Dm0 (c:Nat):Dd5 c=Aj3 c:=by
 unfold Dd5 Aj3;have a1:smS [(10,10)] false=E9 [10]:=Av0 10 (by decide);have a2:smS [(9,9)] false=E9 [9]:=Av0 9 (by decide);have a3:smS [(13,13)] false=E9 [13]:=Av0 13 (by decide);have a4:smS [(12,12)] false=E9 [12]:=Av0 12 (by decide);have a5:smS [(11,11)] false=E9 [11]:=Av0 11 (by decide);have b1:smS digs false=At8:=by decide+kernel
 have b2:smS digs true=Q1 At8:=by decide+kernel
 have b3:smS wrds false=Dj4:=by decide+kernel
 have b4:smS wrds true=Q1 Dj4:=by decide+kernel
 have b5:smS spcs false=Ci0:=by decide+kernel
 have b6:smS spcs true=Q1 Ci0:=by decide+kernel
 rw [a1,a2,a3,a4,a5]
 by_cases h1:c=110
 ·simp only [Ej7 h1]
 by_cases h2:c=116
 ·simp only [Ej6 h1,Ej7 h2]
 by_cases h3:c=114
 ·simp only [Ej6 h1,Ej6 h2,Ej7 h3]
 by_cases h4:c=102
 ·simp only [Ej6 h1,Ej6 h2,Ej6 h3,Ej7 h4]
 by_cases h5:c=118
 ·simp only [Ej6 h1,Ej6 h2,Ej6 h3,Ej6 h4,Ej7 h5]
 simp only [Ej6 h1,Ej6 h2,Ej6 h3,Ej6 h4,Ej6 h5]
 by_cases h6:c=100
 ·subst h6;simpa [Aa7] using b1
 by_cases h7:c=68
 ·subst h7;simpa [Aa7] using b2
 by_cases h8:c=119
 ·subst h8;simpa [Aa7] using b3
 by_cases h9:c=87
 ·subst h9;simpa [Aa7] using b4
 by_cases h10:c=115
 ·subst h10;simpa [Aa7] using b5
 by_cases h11:c=83
 ·subst h11;simpa [Aa7] using b6
 simp only [h6,h7,h8,h9,h10,h11,or_self,if_false]
theorem An2 (s:ByteArray) (i:Nat):(B7 s).getD i 0<256:=Ad7 s ⟨i,0⟩
theorem bit_hi {s j:Nat} (h:L4 s) (hj:¬ j<256):s.testBit j=false:=Nat.testBit_lt_two_pow (Et3 h (Nat.pow_le_pow_right (by decide) (by omega)))
theorem Ca3 (f g:Nat→Bool) (k j:Nat) (hj:j<256):(De0 f g k).getD j false=if j<k then f j else g j:=by
 unfold De0;simp [Ej8,hj]
theorem Do6 (L:List Nat) (at_:Nat) (hi:¬ L.length≤at_+1) (hs:¬ L.getD (at_+1) 0∈B7 Dk4):
  Cn9 L at_=match Dd5 (L.getD (at_+1) 0) with
   |some s=>(s,(at_:Int)+2,0)
   |none=>if L.getD (at_+1) 0=120 then
     (match At2 L (at_+2) 2 0 with| .inl n=>(smS [((n:Int),(n:Int))] false,(at_:Int)+4,0)| .inr i=>(0,(i:Int),4))
    else if L.getD (at_+1) 0∈B7 unT then (0,(at_:Int),6) else (0,(at_:Int)+1,4):=by
 unfold Cn9;rw [Ej6 hi];simp only [Ej6 hs];unfold Dd5;generalize L.getD (at_+1) 0=c
 by_cases h1:c=110
 ·simp only [Ej7 h1]
 by_cases h2:c=116
 ·simp only [Ej6 h1,Ej7 h2]
 by_cases h3:c=114
 ·simp only [Ej6 h1,Ej6 h2,Ej7 h3]
 by_cases h4:c=102
 ·simp only [Ej6 h1,Ej6 h2,Ej6 h3,Ej7 h4]
 by_cases h5:c=118
 ·simp only [Ej6 h1,Ej6 h2,Ej6 h3,Ej6 h4,Ej7 h5]
 by_cases h6:c=100∨c=68
 ·simp only [Ej6 h1,Ej6 h2,Ej6 h3,Ej6 h4,Ej6 h5,Ej7 h6]
 by_cases h7:c=119∨c=87
 ·simp only [Ej6 h1,Ej6 h2,Ej6 h3,Ej6 h4,Ej6 h5,Ej6 h6,Ej7 h7]
 by_cases h8:c=115∨c=83
 ·simp only [Ej6 h1,Ej6 h2,Ej6 h3,Ej6 h4,Ej6 h5,Ej6 h6,Ej6 h7,Ej7 h8]
 simp only [Ej6 h1,Ej6 h2,Ej6 h3,Ej6 h4,Ej6 h5,Ej6 h6,Ej6 h7,Ej6 h8]
 rfl
theorem Df1 (s:ByteArray) {p:Ps} (hp:p.e=0) (h:(Bf1 (B7 s) p).2.e=0):
  p.i<(B7 s).length∧0≤Aj4 ((B7 s).getD p.i 0)∧Bf1 (B7 s) p=((Aj4 ((B7 s).getD p.i 0)).toNat,p.go 1):=by
 have hv:hexV (B7 s) p=Aj4 ((B7 s).getD p.i 0):=hex_same _ (An2 s _);unfold Bf1 at h ⊢
 by_cases hb:Cb6 (B7 s) p=true
 ·rw [Ej7 hb];unfold Cb6 at hb;rw [hv] at hb ⊢;simp only [Ek2,El6] at hb;exact ⟨hb.1,hb.2,rfl⟩
 ·rw [Ej6 hb] at h;exact absurd h (Aa2 (by decide))
theorem Dg2 (s:ByteArray) {p:Ps} (hp:p.e=0):SameE (Cn9 (B7 s) p.i) (J6 (B7 s) p):=by
 intro hr hq;have hc:=An2 s (p.i+1);unfold J6 at hq ⊢;simp only [H6,show (p.go 1).i=p.i+1 from rfl] at hq ⊢
 by_cases hi:p.i+1<(B7 s).length
 ·rw [Ej6 (by omega)] at hq ⊢
  by_cases hs:(B7 s).getD (p.i+1) 0∈B7 Dk4
  ·have h2:0≤Bd9 Au9 ((B7 s).getD (p.i+1) 0):=by have:=Ci3 _ hc;rw [Ek8 hs] at this;exact Eo4 this.symm
   rw [Ej7 h2] at hq ⊢;unfold Cn9;rw [Ej6 (by omega)];simp only [Ej7 hs];exact ⟨Av0 _ hc,by show _=((p.i+1+1:Nat):Int);omega⟩
  ·have h2:¬ 0≤Bd9 Au9 ((B7 s).getD (p.i+1) 0):=by have:=Ci3 _ hc;rw [Ek9 hs] at this;exact Et4 this.symm
   rw [Ej6 h2] at hq ⊢;rw [Do6 (B7 s) p.i (by omega) hs,Dm0] at hr ⊢
   cases hn:Aj3 ((B7 s).getD (p.i+1) 0) with
   |some s=>simp only [];exact ⟨trivial,by show _=((p.i+1+1:Nat):Int);omega⟩
   |none=>
    rw [hn] at hr hq;simp only [] at hr hq ⊢
    by_cases hx:(B7 s).getD (p.i+1) 0=120
    ·rw [Ej7 hx] at hr hq ⊢
     by_cases h0:(Bf1 (B7 s) ((p.go 1).go 1)).2.e=0
     ·rw [Ej7 h0] at hq ⊢;obtain ⟨a1,a2,a3⟩:=Df1 s (p:=(p.go 1).go 1) (by exact hp) h0;rw [a3] at hq ⊢;obtain ⟨b1,b2,b3⟩:=Df1 s (p:=((p.go 1).go 1).go 1) (by exact hp) hq;simp only [] at hq ⊢;rw [b3];simp only [Ps.go] at a1 a2 b1 b2 ⊢;rw [Ej7 hx];have s1:=Cm6 _ (An2 s (p.i+1+1));have s2:=Cm6 _ (An2 s (p.i+1+1+1))
      have hh:At2 (B7 s) (p.i+2) 2 0= .inl (16*(Aj4 ((B7 s).getD (p.i+1+1) 0)).toNat+(Aj4 ((B7 s).getD (p.i+1+1+1) 0)).toNat):=by
       have e1:p.i+2=p.i+1+1:=by omega
       have e2:p.i+2+1=p.i+1+1+1:=by omega
       unfold At2;rw [Ej6 (by omega),Ej6 (by rw [e1];omega)];unfold At2;rw [Ej6 (by omega),Ej6 (by rw [e2];omega)];unfold At2;rw [e1];simp
      rw [hh];simp only [];rw [Et1 (by omega)];exact ⟨Av0 _ (by omega),by omega⟩
     ·rw [Ej6 h0] at hq;exact absurd hq h0
    ·rw [Ej6 hx] at hr hq
     split at hq
     ·exact absurd hq (Aa2 (by decide))
     ·exact absurd hq (Aa2 (by decide))
 ·rw [Ej7 (by omega)] at hq;exact absurd hq (Aa2 (by decide))
theorem Cm2 (s:ByteArray) {p:Ps} (hp:p.e=0):SameE (V4 (B7 s) p.i) (F8 (B7 s) p):=by
 intro hr hq;have hc:=An2 s p.i;unfold F8 at hq ⊢;unfold V4 at hr ⊢
 by_cases h1:¬ p.i<(B7 s).length∨0≤Bd9 Cm4 (H6 (B7 s) p)
 ·rw [Ej7 h1] at hq;exact absurd hq (Aa2 (by decide))
 ·rw [Ej6 h1] at hq ⊢
  have h2:¬ ((B7 s).length≤p.i∨(B7 s).getD p.i 0∈B7 clsT):=by
   intro h
   rcases h with h|h
   ·exact h1 (.inl (by omega))
   ·have:=cls_same _ hc;rw [Ek8 h] at this;exact h1 (.inr (Eo4 this.symm))
  rw [Ej6 h2] at hr ⊢
  by_cases h3:H6 (B7 s) p=92
  ·have h4:(B7 s).getD p.i 0=92:=h3;rw [Ej7 h3] at hq ⊢;rw [Ej7 h4] at hr ⊢;exact Dg2 s hp hr hq
  ·have h4:¬ (B7 s).getD p.i 0=92:=h3;rw [Ej6 h3] at hq ⊢;rw [Ej6 h4] at hr ⊢;exact ⟨Av0 _ hc,by show (p.i:Int)+1=((p.i+1:Nat):Int);omega⟩
def Cp6 (s k:Nat):List Nat:=(List.range k).filter fun b=>s.testBit b
theorem Bt3 (s:Nat):∀ k,Aw4 s k=(((Cp6 s k).length:Int),((Cp6 s k).getLast?.map fun b:Nat=>(b:Int)).getD (-1))
 |0=>rfl
 |k+1=>by
  rw [Ab4,Bt3 s k];unfold Cp6 Ck2;rw [Eo6,Eq1]
  by_cases h:s.testBit k=true
  ·simp [h]
  ·simp [h]
theorem Ck1 {s:Nat} (h:0≤Z9 s):Ag5 s=1∧Z9 s=(L8 s:Int)∧∀ j,j<256→(s.testBit j=true↔j=L8 s):=by
 unfold Z9 at h ⊢;rw [Bt3] at h ⊢
 by_cases hc:(((Cp6 s 256).length:Nat):Int)=1
 ·have hc':(Cp6 s 256).length=1:=by omega
  obtain ⟨x,hx⟩:=List.length_eq_one_iff.1 hc'
  have hf:L8 s=x:=by
   unfold L8;rw [← List.head?_filter];show ((Cp6 s 256).head?).getD 0=x;rw [hx];rfl
  refine ⟨hc',?_,?_⟩
  ·simp only [hx,hf];rfl
  ·intro j hj;rw [hf]
   have hm:j∈Cp6 s 256↔s.testBit j=true:=by
    unfold Cp6;rw [Er0,Em7];exact ⟨fun h=>h.2,fun h=>⟨hj,h⟩⟩
   rw [← hm,hx,Ej9]
 ·simp only [Ej6 hc] at h;omega
theorem Ds6 (s t j:Nat):(V6 [s,t]).testBit j=(s.testBit j||t.testBit j):=by
 unfold V6;simp only [Ep3,Eq3,Nat.testBit_or,Nat.zero_testBit,Eq9]
theorem Dv9 (a b j:Nat):(Aw1 a b).testBit j=(decide (a≤j) && decide (j≤b)):=by
 unfold Aw1;rw [Ah6,El0];simp only [El6,List.mem_range',Ek2]
 constructor
 ·rintro ⟨i,hi,rfl⟩;omega
 ·rintro ⟨h1,h2⟩;exact ⟨j - a,by omega,by omega⟩
theorem Ch9 (s:ByteArray) {p:Ps} (hp:p.e=0) {on on':List Bool} {i':Nat} (hon:on.length=256)
  (hr:Ac7 (B7 s) on p.i= .inr (on',i')) (hq:(M7 (B7 s) p).2.e=0):on'.length=256∧onS on'=V6 [onS on,(M7 (B7 s) p).1]∧i'=(M7 (B7 s) p).2.i:=by
 unfold Ac7 at hr;unfold M7 at hq ⊢;simp only [] at hr hq ⊢
 by_cases h1:(V4 (B7 s) p.i).2.2=0
 ·rw [Ej6 (by omega)] at hr
  by_cases h2:(F8 (B7 s) p).2.e=0
  ·obtain ⟨e1,e2⟩:=Cm2 s hp h1 h2;rw [Ej6 (by omega)] at hq ⊢;have e3:(V4 (B7 s) p.i).2.1.toNat=(F8 (B7 s) p).2.i:=by omega
   rw [e3] at hr
   by_cases h3:(B7 s).length≤(F8 (B7 s) p).2.i∨(B7 s).getD (F8 (B7 s) p).2.i 0≠45
   ·have h4:isB (B7 s) (F8 (B7 s) p).2 45=false:=by
     unfold isB
     rcases h3 with h3|h3
     ·rw [Ek9 (by omega),Bool.false_and]
     ·rw [Ek9 h3,Bool.and_false]
    rw [Ej7 h3] at hr;rw [Ej7 h4] at hq ⊢;simp only [Sum.inr.injEq,Er5] at hr;obtain ⟨rfl,rfl⟩:=hr;refine ⟨K9 _ _ _,?_,rfl⟩;apply Er6;intro j;rw [Ds6,As7,As7]
    by_cases hj:j<256
    ·unfold orS;rw [← e1];rw [Ca3 _ _ _ _ hj,Ej7 hj,Ek8 hj];simp
    ·rw [Ek9 hj,bit_hi (Ap6 s p) hj];rfl
   ·have h4:isB (B7 s) (F8 (B7 s) p).2 45=true:=by
     unfold isB;have g1:(F8 (B7 s) p).2.i<(B7 s).length:=Nat.lt_of_not_le fun h=>h3 (.inl h)
     have g2:(B7 s).getD (F8 (B7 s) p).2.i 0=45:=Decidable.not_not.1 fun h=>h3 (.inr h)
     rw [Ek8 g1,Ek8 g2];rfl
    rw [Ej6 h3] at hr;rw [Ej6 (by rw [h4];decide)] at hq ⊢
    by_cases h5:Z9 (V4 (B7 s) p.i).1<0
    ·rw [Ej7 h5] at hr;cases hr
    ·rw [Ej6 h5] at hr;obtain ⟨c1,c2,c3⟩:=Ck1 (by omega:0≤Z9 (V4 (B7 s) p.i).1);rw [e1] at c1 c2 c3;rw [Ej6 (by omega)] at hq ⊢;have g3:((F8 (B7 s) p).2.go 1).e=0:=h2
     by_cases h6:(F8 (B7 s) ((F8 (B7 s) p).2.go 1)).2.e=0
     ·have k6:(V4 (B7 s) ((F8 (B7 s) p).2.i+1)).2.2=0:=by
       refine Decidable.byContradiction fun h=>?_
       rw [Ej7 h] at hr;cases hr
      obtain ⟨d1,d2⟩:=Cm2 s g3 k6 h6;rw [Ej6 (by omega)] at hr
      by_cases h7:Z9 (V4 (B7 s) ((F8 (B7 s) p).2.i+1)).1<0
      ·rw [Ej7 h7] at hr;cases hr
      rw [Ej6 h7] at hr;obtain ⟨f1,f2,f3⟩:=Ck1 (by omega:0≤Z9 (V4 (B7 s) ((F8 (B7 s) p).2.i+1)).1);change (V4 (B7 s) ((F8 (B7 s) p).2.i+1)).1=_ at d1;rw [d1] at f1 f2 f3;rw [e1,d1,c2,f2] at hr;rw [Ej6 (c:=(F8 (B7 s) ((F8 (B7 s) p).2.go 1)).2.e=0∧Ag5 (F8 (B7 s) ((F8 (B7 s) p).2.go 1)).1≠1) (fun h=>h.2 f1)] at hq ⊢
      by_cases h8:L8 (F8 (B7 s) ((F8 (B7 s) p).2.go 1)).1<L8 (F8 (B7 s) p).1
      ·rw [Ej7 (by omega)] at hr;cases hr
      rw [Ej6 (by omega)] at hr;rw [Ej6 (fun h=>h8 h.2)] at hq ⊢;simp only [Sum.inr.injEq,Er5] at hr;obtain ⟨rfl,rfl⟩:=hr
      refine ⟨K9 _ _ _,?_,?_⟩
      ·apply Er6;intro j;rw [Ds6,As7,As7,Dv9];have hlt:=An9 (F8 (B7 s) ((F8 (B7 s) p).2.go 1)).1
       by_cases hj:j<256
       ·unfold Bq9 orS;rw [Ca3 _ _ _ _ hj,Ca3 _ _ _ _ hj,Ej7 hj,Ek8 hj,El0];have hc3:=c3 j hj;simp only [Ek6,Eu1,Bool.or_eq_true,Ek2,El6]
        split
        ·simp only [Bool.or_eq_true,El6]
         constructor
         ·rintro (h|h|h)
          ·exact .inr ⟨h,by omega⟩
          ·exact .inl h
          ·have:=hc3.1 h;exact .inr ⟨by omega,by omega⟩
         ·rintro (h|h)
          ·exact .inr (.inl h)
          ·exact .inl h.1
        ·simp only [Bool.or_eq_true]
         constructor
         ·rintro (h|h)
          ·exact .inl h
          ·have:=hc3.1 h;exact .inr ⟨by omega,by omega⟩
         ·rintro (h|h)
          ·exact .inl h
          ·omega
       ·rw [Ek9 hj,Bool.false_and,Bool.false_and,Eq9,Ek9 (p:=j≤_) (by omega),Bool.and_false]
      ·change (V4 (B7 s) ((F8 (B7 s) p).2.i+1)).2.1=_ at d2;rw [d2];rfl
     ·rw [Ej6 (c:=(F8 (B7 s) ((F8 (B7 s) p).2.go 1)).2.e=0∧Ag5 (F8 (B7 s) ((F8 (B7 s) p).2.go 1)).1≠1) (fun h=>h6 h.1)] at hq;rw [Ej6 (fun h=>h6 h.1)] at hq;exact absurd hq h6
  ·rw [Ej7 h2] at hq;exact absurd hq h2
 ·rw [Ej7 h1] at hr
  cases hr
theorem Bo0 (s:ByteArray):∀ (f g:Nat) (on:List Bool) (p:Ps) (on':List Bool) (i':Nat),p.e=0→p.i≤(B7 s).length→(B7 s).length+1≤p.i+f→on.length=256→
  Cy4 (B7 s) g false on p.i= .inr (on',i')→(R0 (B7 s) f (onS on) p).2.e=0→on'.length=256∧onS on'=(R0 (B7 s) f (onS on) p).1∧i'+1=(R0 (B7 s) f (onS on) p).2.i
 |0,g,on,p,on',i',hp,hi,hf,hon,hr,hq=>by omega
 |f+1,0,on,p,on',i',hp,hi,hf,hon,hr,hq=>by cases hr
 |f+1,g+1,on,p,on',i',hp,hi,hf,hon,hr,hq=>by
  unfold R0 at hq ⊢;unfold Cy4 at hr;rw [Ej6 (by omega)] at hq ⊢
  by_cases h1:false=true∨(B7 s).length≤p.i∨(B7 s).getD p.i 0≠93
  ·rw [Ej7 h1] at hr
   have h2:¬ isB (B7 s) p 93=true:=by
    rw [Aa1];rintro ⟨a,b⟩
    rcases h1 with h1|h1|h1
    ·cases h1
    ·omega
    ·exact h1 b
   rw [Ej6 h2] at hq ⊢
   cases hc:Ac7 (B7 s) on p.i with
   |inl e=>rw [hc] at hr;cases hr
   |inr x=>
    rw [hc] at hr;obtain ⟨on1,i1⟩:=x
    have h3:(M7 (B7 s) p).2.e=0:=by
     refine Decidable.byContradiction fun h=>?_
     simp only [] at hq
     cases f with
     |zero=>exact h hq
     |succ f=>unfold R0 at hq;rw [Ej7 h] at hq;exact h hq
    obtain ⟨k1,k2,k3⟩:=Ch9 s hp hon hc h3;have hfi:=X6 hi;have:=hfi.adv h3;simp only [] at hr hq ⊢;rw [← k2] at hq ⊢;rw [k3] at hr;exact Bo0 s f g on1 _ on' i' h3 hfi.le (by omega) k1 hr hq
  ·rw [Ej6 h1] at hr;simp only [Sum.inr.injEq,Er5] at hr;obtain ⟨rfl,rfl⟩:=hr
   have h2:isB (B7 s) p 93=true:=by
    rw [Aa1];exact ⟨Nat.lt_of_not_le fun h=>h1 (.inr (.inl h)),Decidable.not_not.1 fun h=>h1 (.inr (.inr h))⟩
   rw [Ej7 h2] at hq ⊢;exact ⟨hon,rfl,rfl⟩
theorem Dp6 (s:ByteArray) {p:Ps} (hp:p.e=0) (hi:p.i<(B7 s).length):SameE (Ao1 (B7 s) p.i) (Ae2 (B7 s) p):=by
 intro hr hq;unfold Ae2 at hq ⊢;unfold Ao1 at hr ⊢;simp only [] at hr hq ⊢
 have hn:isB (B7 s) (p.go 1) 94=Dx9 (B7 s) p.i:=by
  unfold Dx9;rw [El0,Aa1,El6];exact Iff.rfl
 have hi1:(isS (B7 s) (p.go 1) 94).i=p.i+1+if Dx9 (B7 s) p.i then 1 else 0:=by
  unfold isS;rw [hn]
  cases Dx9 (B7 s) p.i<;>rfl
 have he1:(isS (B7 s) (p.go 1) 94).e=0:=by unfold isS;split<;>exact hp
 have hf1:=Bg5 (L:=B7 s) (b:=94) (p:=p.go 1) (by exact hi);rw [hn];rw [← hi1] at hr ⊢;generalize isS (B7 s) (p.go 1) 94=q at*;unfold Cy4 at hr ⊢;rw [Ej7 (.inl J)] at hr ⊢
 cases hc:Ac7 (B7 s) (List.replicate 256 false) q.i with
 |inl e=>
  rw [hc] at hr;simp only [] at hr;exact absurd hr (Bn9 _ _ _ e hc)
 |inr x=>
  obtain ⟨on1,i1⟩:=x;rw [hc] at hr;simp only [] at hr ⊢
  have h3:(M7 (B7 s) q).2.e=0:=by
   refine Decidable.byContradiction fun h=>?_
   unfold R0 at hq;rw [Ej7 h] at hq;exact h hq
  obtain ⟨k1,k2,k3⟩:=Ch9 s he1 (by simp) hc h3;have hz:onS (List.replicate 256 false)=0:=by decide+kernel
  have hu:V6 [onS (List.replicate 256 false),(M7 (B7 s) q).1]=(M7 (B7 s) q).1:=by rw [hz];unfold V6;simp
  rw [hu] at k2;have hfi:=X6 hf1.le;rw [k3] at hr ⊢;rw [← k2] at hq ⊢
  cases hcl:Cy4 (B7 s) ((B7 s).length+1) false on1 (M7 (B7 s) q).2.i with
  |inl e=>
   rw [hcl] at hr;exact absurd hr (Cf0 (B7 s) _ _ _ _ e hcl)
  |inr y=>
   obtain ⟨on',i'⟩:=y;obtain ⟨m1,m2,m3⟩:=Bo0 s _ _ on1 _ on' i' h3 hfi.le (by omega) k1 hcl hq;simp only [];refine ⟨?_,by omega⟩;rw [← m2]
   cases Dx9 (B7 s) p.i
   ·rfl
   ·simp only [if_true];apply Er6;intro j;have hok:L4 (onS on'):=Ap2 _ fun b hb=>Em7.1 (Er0.1 hb).1
    rw [As7,Bs3 hok,As7]
    by_cases hj:j<256
    ·unfold Dd1;rw [Ca3 _ _ _ _ hj,Ej7 hj,Ek8 hj];rfl
    ·rw [Ek9 hj];rfl
end Go.Clt
end
section
namespace Go.Clt
open Go Go.RowKit
theorem Dg6:∀ c,c<256→(decide (0≤Aj4 c∧c≤57)=decide (48≤c∧c≤57))∧(48≤c∧c≤57→Aj4 c=(c:Int) - 48):=by decide+kernel
theorem Dg8 (s:ByteArray) (p:Ps):Ee5 (B7 s) p.i↔R5 (B7 s) p=true:=by
 have:=(Dg6 _ (An2 s p.i)).1;unfold Ee5 R5 H6;rw [decide_eq_decide] at this;simp only [Ek2,El6]
 constructor
 ·rintro ⟨a,b⟩;exact ⟨⟨a,(this.1 b).1⟩,(this.1 b).2⟩
 ·rintro ⟨⟨a,b⟩,c⟩;exact ⟨a,this.2 ⟨b,c⟩⟩
theorem Ck5 (s:ByteArray):∀ (g f:Nat) (m:Int) (n:Nat) (p:Ps),p.e=0→(B7 s).length≤p.i+f→(B7 s).length≤p.i+g→0≤m→m≤100000→(n:Int)=min m 1001→
  (N0 (B7 s) g n p).2=⟨(Bz8 (B7 s) f m p.i).2,0⟩∧((N0 (B7 s) g n p).1:Int)=min (Bz8 (B7 s) f m p.i).1 1001
 |0,f,m,n,p,hp,hf,hg,h0,h1,hn=>by
  have hd:¬ Ee5 (B7 s) p.i:=fun h=>by have:=h.1;omega
  rw [Am5 hd];exact ⟨by show p=_;rw [← hp],hn⟩
 |g+1,f,m,n,p,hp,hf,hg,h0,h1,hn=>by
  by_cases hd:Ee5 (B7 s) p.i
  ·have hd2:=(Dg8 s p).1 hd;have hl:=hd.1;obtain ⟨f',rfl⟩:∃ f',f=f'+1:=⟨f - 1,by omega⟩;unfold N0;rw [Bz8,Ej7 hd,Ej7 ⟨hp,hd2⟩]
   have hc:48≤(B7 s).getD p.i 0∧(B7 s).getD p.i 0≤57:=by
    unfold R5 H6 at hd2;simp only [Ek2,El6] at hd2;exact ⟨hd2.1.2,hd2.2⟩
   have hh:=(Dg6 _ (An2 s p.i)).2 hc;rw [hh];unfold H6;exact Ck5 s g f' _ _ (p.go 1) hp (by show _≤p.i+1+f';omega) (by show _≤p.i+1+g;omega) (by omega) (by omega) (by omega)
  ·have hd2:¬ R5 (B7 s) p=true:=fun h=>hd ((Dg8 s p).2 h)
   unfold N0;rw [Am5 hd,Ej6 fun h=>hd2 h.2];exact ⟨by show p=_;rw [← hp],hn⟩
theorem Bk1 (s:ByteArray) {p:Ps} (hp:p.e=0) (hr:(I8 (B7 s) p.i).2.2=0) (hq:(H8 (B7 s) p).2.e=0):
  (I8 (B7 s) p.i).1=((H8 (B7 s) p).1:Int)∧(I8 (B7 s) p.i).2.1=((H8 (B7 s) p).2.i:Int):=by
 unfold H8 at hq ⊢;unfold I8 at hr ⊢;simp only [] at hr hq ⊢
 by_cases hd:R5 (B7 s) p=true
 ·rw [Ej7 hd] at hq ⊢;obtain ⟨k1,k2⟩:=Ck5 s ((B7 s).length+1) ((B7 s).length - p.i) 0 0 p hp (by omega) (by omega) (by omega) (by omega) rfl;generalize N0 (B7 s) ((B7 s).length+1) 0 p=x at*;generalize Bz8 (B7 s) ((B7 s).length - p.i) 0 p.i=y at*
  by_cases h1:1000<x.1
  ·rw [Ej7 h1] at hq;exact absurd hq (Aa2 (by decide))
  ·rw [Ej6 h1] at hq ⊢
   by_cases h2:y.2=p.i
   ·rw [Ej7 h2] at hr;exact absurd hr (by show (4:Int)≠0;decide)
   ·rw [Ej6 h2] at hr ⊢
    by_cases h3:1000<y.1
    ·rw [Ej7 h3] at hr;exact absurd hr (by show (5:Int)≠0;decide)
    ·rw [Ej6 h3];refine ⟨by show y.1=_;omega,?_⟩;show (y.2:Int)=_;rw [k1]
 ·rw [Ej6 hd] at hq;have hb:(p.fail p.i 4).e≠0:=Aa2 (by decide)
  have hl:N0 (B7 s) ((B7 s).length+1) 0 (p.fail p.i 4)=(0,p.fail p.i 4):=by
   unfold N0;rw [Ej6 fun h=>hb h.1]
  rw [hl] at hq;exact absurd hq hb
theorem isB_at (L:List Nat) (p:Ps) (b:Nat):isB L p b=true↔¬ (L.length≤p.i∨L.getD p.i 0≠b):=by
 rw [Aa1]
 constructor
 ·rintro ⟨a,b⟩ (h|h)
  ·omega
  ·exact h b
 ·intro h;exact ⟨Nat.lt_of_not_le fun x=>h (.inl x),Decidable.not_not.1 fun x=>h (.inr x)⟩
theorem Cz3 (L:List Nat) (m n:Int) (r:Ps) (he:r.e=0) (hr:(L9 L m n r.i).2.2.2=0):
  (L9 L m n r.i).1=m∧(L9 L m n r.i).2.1=n∧isB L r 125=true∧(L9 L m n r.i).2.2.1=((r.go 1).i:Int):=by
 unfold L9 at hr ⊢
 by_cases h:L.length≤r.i∨L.getD r.i 0≠125
 ·rw [Ej7 h] at hr;exact absurd hr (by show (4:Int)≠0;decide)
 ·rw [Ej6 h];exact ⟨rfl,rfl,(isB_at L r 125).2 h,by show (r.i:Int)+1=((r.i+1:Nat):Int);omega⟩
theorem Cp5 (s:ByteArray) {p:Ps} (hp:p.e=0) (hr:(J9 (B7 s) p.i).2.2.2=0) (hq:(L3 (B7 s) (H8 (B7 s) p)).2.e=0):
  J9 (B7 s) p.i=L9 (B7 s) ((H8 (B7 s) p).1:Int) (L3 (B7 s) (H8 (B7 s) p)).1 (L3 (B7 s) (H8 (B7 s) p)).2.i:=by
 have h2:(H8 (B7 s) p).2.e=0:=by
  refine Decidable.byContradiction fun h=>?_
  unfold L3 at hq;rw [Ej6 fun x=>h x.1] at hq;exact h hq
 unfold J9 at hr ⊢;simp only [] at hr ⊢
 by_cases h1:(I8 (B7 s) p.i).2.2=0
 ·rw [Ej6 (by omega)] at hr ⊢;obtain ⟨e1,e2⟩:=Bk1 s hp h1 h2;rw [e2] at hr ⊢;rw [e1] at hr ⊢;simp only [Ek6] at hr ⊢;generalize H8 (B7 s) p=lo at*;unfold L3 at hq ⊢
  by_cases h3:lo.2.i<(B7 s).length∧(B7 s).getD lo.2.i 0=44
  ·have h4:isB (B7 s) lo.2 44=true:=(Aa1 ..).2 h3;rw [Ej7 h3] at hr ⊢;rw [Ej7 (And.intro h2 h4)] at hq ⊢;simp only [] at hq ⊢
   by_cases h5:(B7 s).length≤lo.2.i+1∨(B7 s).getD (lo.2.i+1) 0≠125
   ·have h6:¬ (lo.2.go 1).i<(B7 s).length∨H6 (B7 s) (lo.2.go 1)≠125:=by
     rcases h5 with h|h
     ·exact .inl (by show ¬ lo.2.i+1<_;omega)
     ·exact .inr h
    rw [Ej7 h5] at hr ⊢;rw [Ej7 h6] at hq ⊢;simp only [] at hq ⊢
    have h8:(H8 (B7 s) (lo.2.go 1)).2.e=0:=by
     refine Decidable.byContradiction fun h=>?_
     rw [Ej6 fun x=>h x.1] at hq;exact h hq
    by_cases h7:(I8 (B7 s) (lo.2.i+1)).2.2=0
    ·rw [Ej6 (by omega)] at hr ⊢;obtain ⟨d1,d2⟩:=Bk1 s (p:=lo.2.go 1) h2 h7 h8;change (I8 (B7 s) (lo.2.i+1)).1=_ at d1;change (I8 (B7 s) (lo.2.i+1)).2.1=_ at d2;rw [d1,d2] at hr ⊢;generalize H8 (B7 s) (lo.2.go 1)=hi at*
     by_cases h9:hi.1<lo.1
     ·rw [Ej7 (And.intro h8 h9)] at hq;exact absurd hq (Aa2 (by decide))
     ·rw [Ej6 (show ¬ ((hi.1:Nat):Int)<(lo.1:Int) by omega)];rw [Ej6 (fun h=>h9 h.2)]
      rfl
    ·rw [Ej7 h7] at hr;exact absurd hr h7
   ·have h6:¬ (¬ (lo.2.go 1).i<(B7 s).length∨H6 (B7 s) (lo.2.go 1)≠125):=by
     rintro (h|h)
     ·exact h5 (.inl (by change ¬ lo.2.i+1<_ at h;omega))
     ·exact h5 (.inr h)
    rw [Ej6 h5];rw [Ej6 h6]
    rfl
  ·have h4:¬ isB (B7 s) lo.2 44=true:=fun h=>h3 ((Aa1 ..).1 h)
   rw [Ej6 h3];rw [Ej6 (fun h=>h4 h.2)]
 ·rw [Ej7 h1] at hr;exact absurd hr h1
theorem Cz0 (s:ByteArray) {p:Ps} (hp:p.e=0) (hr:(J9 (B7 s) p.i).2.2.2=0) (hq:(S5 (B7 s) p).2.2.e=0):
  (J9 (B7 s) p.i).1=(S5 (B7 s) p).1∧(J9 (B7 s) p.i).2.1=(S5 (B7 s) p).2.1∧(J9 (B7 s) p.i).2.2.1=((S5 (B7 s) p).2.2.i:Int):=by
 rw [Bw7] at hq ⊢
 have h2:(L3 (B7 s) (H8 (B7 s) p)).2.e=0:=by
  refine Decidable.byContradiction fun h=>?_
  simp only [Ej6 h] at hq;exact h hq
 have hb:=Cp5 s hp hr h2;rw [hb] at hr ⊢;generalize L3 (B7 s) (H8 (B7 s) p)=m at*;obtain ⟨b1,b2,b3,b4⟩:=Cz3 (B7 s) _ _ m.2 h2 hr;rw [b1,b2,b4];simp only [Ej7 h2,Ej7 b3];exact ⟨trivial,trivial,trivial⟩
structure SameT (t:RTk) (u:Tok):Prop where
 kind:t.kind=u.kind
 set:t.set=u.set
 mn:t.mn=u.min
 mx:t.mx=u.max
 lz:t.lz=u.lazy
def SameX (r:RTk × Int × Int) (q:Tok × Ps):Prop:=r.2.2=0→q.2.e=0→SameT r.1 q.1∧r.2.1=(q.2.i:Int)
def m5 (L:List Nat) (p:Ps) (c:Nat):Int × Int × Ps:=if c=43 then (1,-1,p) else if c=63 then (0,1,p) else if c=123 then S5 L p else (0,-1,p)
def cntM (L:List Nat) (m:Int × Int × Ps):Tok × Ps:=
 if m.2.2.e≠0 then ({ kind:=5,min:=m.1,max:=m.2.1 },m.2.2)
 else ({ kind:=5,min:=m.1,max:=m.2.1,lazy:=isB L m.2.2 63 },if isB L (isS L m.2.2 63) 43 then (isS L m.2.2 63).fail (isS L m.2.2 63).i 6 else isS L m.2.2 63)
theorem countP_m (L:List Nat) (p:Ps) (c:Nat):Aj5 L p c=cntM L (m5 L p c):=rfl
theorem Bg8 (L:List Nat) (t:RTk) (e:Int × Int) (p:Ps) (c:Nat)
  (h:e.2=0→(m5 L p c).2.2.e=0→t.kind=5∧t.set=0∧t.lz=false∧t.mn=(m5 L p c).1∧t.mx=(m5 L p c).2.1∧e.1=((m5 L p c).2.2.i:Int)):
  SameX (Ce9 L t e) (Aj5 L p c):=by
 rw [countP_m];generalize m5 L p c=m at*;intro hr hq;obtain ⟨mn,mx,q⟩:=m;unfold cntM at hq ⊢;unfold Ce9 at hr ⊢;simp only [] at h hr hq ⊢
 by_cases h1:e.2=0
 ·rw [Ej6 (by omega)] at hr ⊢
  by_cases h2:q.e=0
  ·rw [Ej6 (c:=q.e≠0) (fun h=>h h2)] at hq ⊢;simp only [] at hq ⊢;obtain ⟨a1,a2,a3,a4,a5,a6⟩:=h h1 h2;rw [a6] at hr ⊢;simp only [Ek6] at hr ⊢
   by_cases h3:q.i<L.length∧L.getD q.i 0=63
   ·have h4:isB L q 63=true:=(Aa1 ..).2 h3;have h5:isS L q 63=q.go 1:=by unfold isS;rw [Ej7 h4]
    rw [h5] at hq ⊢;rw [h4];simp only [Ej7 h3] at hr ⊢
    by_cases h6:isB L (q.go 1) 43=true
    ·rw [Ej7 h6] at hq;exact absurd hq (Aa2 (by decide))
    ·rw [Ej6 h6];exact ⟨⟨a1,a2,a4,a5,rfl⟩,rfl⟩
   ·have h4:isB L q 63=false:=Bool.eq_false_iff.2 fun h=>h3 ((Aa1 ..).1 h)
    have h5:isS L q 63=q:=by unfold isS;rw [Ej6 (by rw [h4];decide)]
    rw [h5] at hq ⊢;rw [h4];simp only [Ej6 h3] at hr ⊢
    by_cases h6:isB L q 43=true
    ·rw [Ej7 h6] at hq;exact absurd hq (Aa2 (by decide))
    ·rw [Ej6 h6];exact ⟨⟨a1,a2,a4,a5,a3⟩,rfl⟩
  ·rw [Ej7 h2] at hq;exact absurd hq h2
 ·rw [Ej7 h1] at hr;exact absurd hr h1
theorem Dh4 (c:Nat):c∈B7 Eg2↔(c=42∨c=43∨c=63∨c=123):=by
 have:B7 Eg2=[42,43,63,123]:=by decide+kernel
 rw [this];simp
theorem Ea1:∀ c,c<256→decide (0≤Bd9 Ea2 c)=decide (c=93∨c=125):=by decide+kernel
def oneC (L:List Nat) (p:Ps) (c:Nat):Tok × Ps:=
 if c=92 then ({ set:=(J6 L p).1 },(J6 L p).2)
 else if c=91 then ({ set:=(Ae2 L p).1 },(Ae2 L p).2)
 else if c=40 then Aa5 L (p.go 1) p.i
 else if c=41 then ({ kind:=3 },p.go 1)
 else if c=124 then ({ kind:=4 },p.go 1)
 else if c=46 then ({ set:=Q1 (E9 [10]) },p.go 1)
 else if c=42∨c=43∨c=63∨c=123 then Aj5 L (p.go 1) c
 else if c=94∨c=36 then ({ set:=E9 [c] },(p.go 1).fail p.i 6)
 else if 0≤Bd9 Ea2 c then ({ set:=E9 [c] },(p.go 1).fail p.i 4)
 else ({ set:=E9 [c] },p.go 1)
theorem oneP_c (L:List Nat) (p:Ps):Ag3 L p=oneC L p (L.getD p.i 0):=rfl
def oneRc (L:List Nat) (at_ c:Nat):RTk × Int × Int:=
 if c=92 then (⟨0,at_,0,(Cn9 L at_).1,0,0,false⟩,(Cn9 L at_).2)
 else if c=91 then (⟨0,at_,0,(Ao1 L at_).1,0,0,false⟩,(Ao1 L at_).2)
 else if c=40 then
  if at_+1<L.length∧L.getD (at_+1) 0=63 then (⟨2,at_,0,0,0,0,false⟩,if L.length≤at_+2∨L.getD (at_+2) 0≠58 then ((at_:Int),6) else ((at_:Int)+3,0))
  else (⟨1,at_,0,0,0,0,false⟩,((at_:Int)+1,0))
 else if c=41 then (⟨3,at_,0,0,0,0,false⟩,((at_:Int)+1,0))
 else if c=124 then (⟨4,at_,0,0,0,0,false⟩,((at_:Int)+1,0))
 else if c=46 then (⟨0,at_,0,smS [(10,10)] true,0,0,false⟩,((at_:Int)+1,0))
 else if c=94∨c=36 then (⟨0,at_,0,0,0,0,false⟩,(at_:Int),6)
 else if c=93∨c=125 then (⟨0,at_,0,0,0,0,false⟩,(at_:Int),4)
 else if c∉B7 Eg2 then (⟨0,at_,0,smS [((c:Int),(c:Int))] false,0,0,false⟩,((at_:Int)+1,0))
 else if c=43 then Ce9 L ⟨5,at_,0,0,1,-1,false⟩ ((at_:Int)+1,0)
 else if c=63 then Ce9 L ⟨5,at_,0,0,0,1,false⟩ ((at_:Int)+1,0)
 else if c=123 then Ce9 L ⟨5,at_,0,0,(J9 L (at_+1)).1,(J9 L (at_+1)).2.1,false⟩ (J9 L (at_+1)).2.2
 else Ce9 L ⟨5,at_,0,0,0,-1,false⟩ ((at_:Int)+1,0)
theorem oneR_c (L:List Nat) (at_:Nat):Cg4 L at_=oneRc L at_ (L.getD at_ 0):=rfl
theorem one_same (s:ByteArray) {p:Ps} (hp:p.e=0) (hi:p.i<(B7 s).length):SameX (Cg4 (B7 s) p.i) (Ag3 (B7 s) p):=by
 have hc:=An2 s p.i;have hz:((p.i:Int)+1)=((p.go 1).i:Int):=by show (p.i:Int)+1=((p.i+1:Nat):Int);omega
 have he:(p.go 1).e=0:=hp;rw [oneP_c,oneR_c];generalize (B7 s).getD p.i 0=c at hc ⊢;unfold oneC oneRc
 by_cases h1:c=92
 ·rw [Ej7 h1,Ej7 h1];intro hr hq;obtain ⟨a,b⟩:=Dg2 s hp hr hq;exact ⟨⟨rfl,a,rfl,rfl,rfl⟩,b⟩
 rw [Ej6 h1,Ej6 h1]
 by_cases h2:c=91
 ·rw [Ej7 h2,Ej7 h2];intro hr hq;obtain ⟨a,b⟩:=Dp6 s hp hi hr hq;exact ⟨⟨rfl,a,rfl,rfl,rfl⟩,b⟩
 rw [Ej6 h2,Ej6 h2]
 by_cases h3:c=40
 ·rw [Ej7 h3,Ej7 h3];unfold Aa5
  by_cases h4:p.i+1<(B7 s).length∧(B7 s).getD (p.i+1) 0=63
  ·have h5:isB (B7 s) (p.go 1) 63=true:=(Aa1 ..).2 h4;rw [Ej7 h4,h5]
   by_cases h6:(B7 s).length≤p.i+2∨(B7 s).getD (p.i+2) 0≠58
   ·rw [Ej7 h6];intro hr;exact absurd hr (by show (6:Int)≠0;decide)
   ·have h7:isB (B7 s) ((p.go 1).go 1) 58=true:=(isB_at ..).2 h6;rw [Ej6 h6,h7];intro hr hq;exact ⟨⟨rfl,rfl,rfl,rfl,rfl⟩,by show (p.i:Int)+3=((p.i+1+2:Nat):Int);omega⟩
  ·have h5:isB (B7 s) (p.go 1) 63=false:=Bool.eq_false_iff.2 fun h=>h4 ((Aa1 ..).1 h)
   rw [Ej6 h4,h5];intro hr hq;exact ⟨⟨rfl,rfl,rfl,rfl,rfl⟩,hz⟩
 rw [Ej6 h3,Ej6 h3]
 by_cases h4:c=41
 ·rw [Ej7 h4,Ej7 h4];intro hr hq;exact ⟨⟨rfl,rfl,rfl,rfl,rfl⟩,hz⟩
 rw [Ej6 h4,Ej6 h4]
 by_cases h5:c=124
 ·rw [Ej7 h5,Ej7 h5];intro hr hq;exact ⟨⟨rfl,rfl,rfl,rfl,rfl⟩,hz⟩
 rw [Ej6 h5,Ej6 h5]
 by_cases h6:c=46
 ·rw [Ej7 h6,Ej7 h6];intro hr hq;have:smS [(10,10)] true=Q1 (E9 [10]):=by decide+kernel
  exact ⟨⟨rfl,this,rfl,rfl,rfl⟩,hz⟩
 rw [Ej6 h6,Ej6 h6]
 by_cases h7:c=94∨c=36
 ·rw [Ej7 h7];intro hr;exact absurd hr (by show (6:Int)≠0;decide)
 rw [Ej6 h7]
 by_cases h8:c=93∨c=125
 ·rw [Ej7 h8];intro hr;exact absurd hr (by show (4:Int)≠0;decide)
 rw [Ej6 h8];have h9:¬ 0≤Bd9 Ea2 c:=by have:=Ea1 _ hc;rw [Ek9 h8] at this;exact Et4 this
 by_cases h10:c∈B7 Eg2
 ·rw [Ej6 (fun h=>h h10),Ej7 ((Dh4 _).1 h10)]
  by_cases k1:c=43
  ·rw [Ej7 k1];exact Bg8 _ _ _ _ _ fun _ _=>by unfold m5;rw [Ej7 k1];exact ⟨rfl,rfl,rfl,rfl,rfl,hz⟩
  rw [Ej6 k1]
  by_cases k2:c=63
  ·rw [Ej7 k2];exact Bg8 _ _ _ _ _ fun _ _=>by unfold m5;rw [Ej6 k1,Ej7 k2];exact ⟨rfl,rfl,rfl,rfl,rfl,hz⟩
  rw [Ej6 k2]
  by_cases k3:c=123
  ·rw [Ej7 k3];refine Bg8 _ _ _ _ _ fun h h'=>?_
   unfold m5 at h' ⊢;rw [Ej6 k1,Ej6 k2,Ej7 k3] at h' ⊢;obtain ⟨b1,b2,b3⟩:=Cz0 s (p:=p.go 1) he h h';exact ⟨rfl,rfl,rfl,b1,b2,b3⟩
  ·rw [Ej6 k3];exact Bg8 _ _ _ _ _ fun _ _=>by unfold m5;rw [Ej6 k1,Ej6 k2,Ej6 k3];exact ⟨rfl,rfl,rfl,rfl,rfl,hz⟩
 ·have h11:¬ (c=42∨c=43∨c=63∨c=123):=fun h=>h10 ((Dh4 _).2 h)
  rw [Ej7 h10,Ej6 h11,Ej6 h7,Ej6 h9];intro hr hq;exact ⟨⟨rfl,Av0 _ hc,rfl,rfl,rfl⟩,hz⟩
inductive SameL:List RTk→List Tok→Prop
 |nil:SameL [] []
 |cons {t u l k}:SameT t u→SameL l k→SameL (t::l) (u::k)
theorem SameL.len {l k} (h:SameL l k):l.length=k.length:=by
 induction h with
 |nil=>rfl
 |cons _ _ ih=>simp [ih]
theorem SameL.app {l k t u} (h:SameL l k) (ht:SameT t u):SameL (l++[t]) (k++[u]):=by
 induction h with
 |nil=>exact .cons ht .nil
 |cons a _ ih=>exact .cons a ih
theorem Bs4 (s:ByteArray):∀ (f g:Nat) (p:Ps) (l:List RTk) (k:List Tok),p.e=0→p.i≤(B7 s).length→(B7 s).length<p.i+f→(B7 s).length<p.i+g→SameL l k→
  (Z1 (B7 s) f p.i l).2.2=0→(Aq6 (B7 s) g p k).2.2=0→SameL (Z1 (B7 s) f p.i l).1 (Aq6 (B7 s) g p k).1
 |0,g,p,l,k,hp,hi,hf,hg,hl,hr,hq=>by omega
 |f+1,0,p,l,k,hp,hi,hf,hg,hl,hr,hq=>by omega
 |f+1,g+1,p,l,k,hp,hi,hf,hg,hl,hr,hq=>by
  unfold Aq6 at hq ⊢;unfold Z1 at hr ⊢
  by_cases h1:p.i<(B7 s).length
  ·simp only [Ej7 h1] at hr hq ⊢
   by_cases h2:(Cg4 (B7 s) p.i).2.2=0
   ·rw [Ej6 (by omega)] at hr ⊢
    by_cases h3:(Ag3 (B7 s) p).2.e=0
    ·rw [Ej6 (by omega)] at hq ⊢;obtain ⟨a,b⟩:=one_same s hp h1 h2 h3;have hfi:=Bk0 h1;have:=hfi.adv h3;rw [b] at hr ⊢;simp only [Ek6] at hr ⊢;exact Bs4 s f g _ _ _ h3 hfi.le (by omega) (by omega) (hl.app ⟨a.kind,a.set,a.mn,a.mx,a.lz⟩) hr hq
    ·rw [Ej7 h3] at hq;exact absurd hq h3
   ·rw [Ej7 h2] at hr;exact absurd hr h2
  ·simp only [Ej6 h1];exact hl
theorem Du4 (s:ByteArray) (hr:(K2 (B7 s)).2.2=0) (hq:(R4 (B7 s)).2.2=0):SameL (K2 (B7 s)).1 (R4 (B7 s)).1:=by
 unfold R4 at hq ⊢
 by_cases h:1048576<(B7 s).length
 ·rw [Ej7 h] at hq;exact absurd hq (by decide)
 ·rw [Ej6 h] at hq ⊢;exact Bs4 s _ _ ⟨0,0⟩ [] [] rfl (Ek5 _) (by show _<0+_;omega) (by show _<0+_;omega) .nil hr hq
end Go.Clt
end
namespace Go.Clt
open Go Go.RowKit Go.Proofs
theorem By5 (t:RTk):(Au5 t).length=10:=rfl
theorem O1 (l:List RTk):∀ (k c:Nat),k<l.length→c<10→(V2 l)[k*10+c]?=(Au5 (l.getD k default))[c]?:=by
 induction l with
 |nil=>intro k c h;simp at h
 |cons t r ih=>
  intro k c h hc
  cases k with
  |zero=>
   show (Au5 t++V2 r)[0*10+c]?=_;rw [Em4 (by rw [By5];omega)];simp
  |succ k=>
   have:=ih k c (by simpa using h) hc;show (Au5 t++V2 r)[(k+1)*10+c]?=_;rw [Em2 (by rw [By5];omega),By5,show (k+1)*10+c - 10=k*10+c by omega,this];simp
def Bo7 (l:List RTk) (at_:Nat) (size:Int):Int:=if at_<l.length then (l.getD at_ default).frm else size
theorem rbegin_c (l:List RTk) (F:Nat→Prop) (A:Option Addr) (c:Nat) (at_:Nat) (size:Int) (hat:at_≤100000) (hl:l.length≤100000) (w:World) (hF:∀ x,F x→x<w.heap.size) (hr:Rd F w 10 A l.length (V2 l)):Calls P 174 #[.slice A l.length c,.int .i64 (at_:Nat),.int .i64 size] w (Ret fun u w'=>u= .int .i64 (Bo7 l at_ size)∧Chg [] w w'):=by
 have hC:=A8 [] w
 refine D4 Tryz.func174 J J (Qd (Zc 1 J (Qa (Qd (Z 2 J (Ln Tryz.underlying187 J (Zc 1 J (A4 J (fun h1=>?_) (fun h1=>?_)))))))))
 ·try simp at h1
  have hin:at_<l.length:=by omega
  obtain ⟨g,off,rfl,hFg,hlt,hcell⟩:=hr.at_ (by omega);have hc1:=hcell (at_*10+1) _ ((O1 l at_ 1 hin (by omega)).trans J);exact Qd (Z 2 J (C9 J (C2 Al1 J J (by omega) (by omega)) (Fa At4 J (Lc o3 J hc1 (Zc 1 J (A6 (B4 J J ⟨J5 (by unfold Bo7;rw [Ej7 hin]),hC⟩)))))))
 ·try simp at h1
  exact A7 (Qd (Zc 2 J (A6 (B4 J J ⟨J5 (by unfold Bo7;rw [Ej6 (by omega)]),hC⟩))))
def Am0 (l:List RTk):Nat→Nat→Nat→Int
 |0,_,_=> -1
 |f+1,i,d=>
  if i<l.length then
   if (l.getD i default).kind=1∨(l.getD i default).kind=2 then Am0 l f (i+1) (d+1)
   else if (l.getD i default).kind=3 then (if d=0 then (i:Int) else Am0 l f (i+1) (d - 1))
   else Am0 l f (i+1) d
  else -1
def Bc9 (l:List RTk) (i:Nat):Int:=Am0 l (l.length+1 - i) i 0
theorem rclose_c (l:List RTk) (F:Nat→Prop) (A:Option Addr) (c:Nat) (i0:Nat) (hi0:i0≤100000) (hl:l.length≤100000) (w:World) (hF:∀ x,F x→x<w.heap.size) (hr:Rd F w 10 A l.length (V2 l)):Calls P 173 #[.slice A l.length c,.int .i64 (i0:Nat)] w (Ret fun u w'=>u= .int .i64 (Bc9 l i0)∧Chg [] w w'):=by
 have hC:=A8 [] w;have hR:Am0 l (l.length+1 - i0) i0 0=Bc9 l i0:=rfl;generalize Bc9 l i0=r at*
 refine D4 Tryz.func173 J J (Qd (Zc 1 J (Qd (Zc 1 J (Qa (Qd (Zc 2 J (B2 (D9 (σ:=Nat × Nat) (fun (i,d)=>[(0,.slice A l.length c),(5,.int .i64 d),(6,.int .i64 i)]) (fun (i,d) wr=>Chg [] w wr∧Rd F wr 10 A l.length (V2 l)∧Am0 l (l.length+1 - i) i d=r∧i≤200000∧d≤i) (fun (i,d) wr=>200000 - i) (i0,0) (sb J) ?_ ?_)))))))))
 ·exact ⟨hC,hr,hR,by omega,by omega⟩
 rintro ⟨i,d⟩ w9 ⟨hC,hr,hR,hi,hd⟩
 refine Qa (Qd (Z 2 J (Ln Tryz.underlying187 J (Zc 1 J (A4 J (fun h1=>?_) (fun h1=>?_))))))
 ·try simp at h1
  have hin:i<l.length:=by omega
  rw [show l.length+1 - i=(l.length+1 - (i+1))+1 by omega,Am0,Ej7 hin] at hR;obtain ⟨g,off,rfl,hFg,hlt,hcell⟩:=hr.at_ (by omega);have hc1:=hcell (i*10+0) _ ((O1 l i 0 hin (by omega)).trans J)
  refine A7 (Qa (B2 (Qd (Z 2 J (C9 J (C2 Al1 J J (by omega) (by omega)) (Fa T9 J (Lc o3 J hc1 (Qc (B2 (Qa (Qd (Zc 2 J (A4 J (fun k1=>?_) (fun k1=>?_))))))))))))))
  ·refine A7 (E3 (H0 J k1) ?_);rw [cmpB_eql] at k1;rw [Ej7 (.inl k1)] at hR;refine Qb (Z 1 J (Ad J J (by omega) (Zc 1 J (Qb (Z 1 J (Ad J J (by omega) (Zc 1 J ⟨(i+1,d+1),sb J,?_,?_⟩)))))));exact ⟨hC,hr,hR,by omega,by omega⟩;show 200000 - (i+1)<200000 - i;omega
  ·rw [cmpB_eqlF] at k1
   refine Qb (Zc 2 J (A4 J (fun k2=>?_) (fun k2=>?_)))
   ·rw [cmpB_eql] at k2;rw [Ej7 (.inr k2)] at hR;refine Qb (Z 1 J (Ad J J (by omega) (Zc 1 J (Qb (Z 1 J (Ad J J (by omega) (Zc 1 J ⟨(i+1,d+1),sb J,?_,?_⟩)))))));exact ⟨hC,hr,hR,by omega,by omega⟩;show 200000 - (i+1)<200000 - i;omega
   ·rw [cmpB_eqlF] at k2;rw [Ej6 (Et7.2 ⟨k1,k2⟩)] at hR
    refine Qd (Zc 2 J (A4 J (fun k3=>?_) (fun k3=>?_)))
    ·rw [cmpB_eql] at k3;rw [Ej7 k3] at hR
     refine Qa (Qd (Zc 2 J (A4 J (fun k4=>?_) (fun k4=>?_))))
     ·try simp at k4
      have k4':d=0:=by omega
      rw [Ej7 k4'] at hR;exact Qd (Zc 2 J (A6 (B4 J J ⟨J5 hR,hC⟩)))
     ·try simp at k4
      have k4':¬ d=0:=by omega
      rw [Ej6 k4'] at hR;refine A7 (Qb (Z 1 J (Su J J (by omega) (Zc 1 J (Qb (Z 1 J (Ad J J (by omega) (Zc 1 J ⟨(i+1,d - 1),⟨rfl,(G3 J (by omega)),rfl,trivial⟩,?_,?_⟩))))))));exact ⟨hC,hr,hR,by omega,by omega⟩;show 200000 - (i+1)<200000 - i;omega
    ·rw [cmpB_eqlF] at k3;rw [Ej6 k3] at hR;refine A7 (Qb (Z 1 J (Ad J J (by omega) (Zc 1 J ⟨(i+1,d),sb J,?_,?_⟩))));exact ⟨hC,hr,hR,by omega,by omega⟩;show 200000 - (i+1)<200000 - i;omega
 ·try simp at h1
  have hX:Am0 l (l.length+1 - i) i d= -1:=by
   cases hf:l.length+1 - i with
   |zero=>rfl
   |succ f=>rw [Am0,Ej6 (by omega)]
  exact Xb (Qd (Zc 1 J (A6 (B4 J J ⟨J5 (hX.symm.trans hR),hC⟩))))
def Av9 (l:List RTk) (size:Int):Nat→Nat→Nat→Bool→Int × Int
 |0,_,_,_=>(0,0)
 |f+1,i,d,a=>
  if i<l.length then
   let t:=l.getD i default
   if t.kind=0 then Av9 l size f (i+1) d true
   else if t.kind=1∨t.kind=2 then (if 200≤d then (t.frm,3) else Av9 l size f (i+1) (d+1) false)
   else if t.kind=3 then (if d=0 then (t.frm,4) else Av9 l size f (i+1) (d - 1) true)
   else if t.kind=4 then Av9 l size f (i+1) d false
   else if a=false then (t.frm,4) else Av9 l size f (i+1) d false
  else if 0<d then (size,4) else (0,0)
def Bi9 (l:List RTk) (size:Int):Int × Int:=Av9 l size (l.length+1) 0 0 false
theorem rfirst_c (l:List RTk) (size:Int) (F:Nat→Prop) (A:Option Addr) (c:Nat) (hl:l.length≤100000) (w:World) (hF:∀ x,F x→x<w.heap.size) (hr:Rd F w 10 A l.length (V2 l)):Calls P 119 #[.slice A l.length c,.int .i64 size] w (Ret fun u w'=>Chg [] w w'∧u=endV (Bi9 l size)):=by
 have hC:=A8 [] w;have hR:Av9 l size (l.length+1 - 0) 0 0 false=Bi9 l size:=rfl;generalize Bi9 l size=r at*;refine D4 Tryz.func119 J J (Qd (B5 J (B9 Be5 J) ?_));intro b1 w1 hb1 hs1 hx1 hB1;have hC:=hC.s0 hx1;have hr:=hr.u hx1
 refine Qc (Qd (Zc 1 J (Qd (Zc 1 J (Qa (Qd (Zc 1 J (B2 (D9 (σ:=Nat × Nat × Bool) (fun (i,d,a)=>[(0,.slice A l.length c),(1,.int .i64 size),(4,.pointer (some ⟨b1,0,none⟩)),(5,.int .i64 d),(6,.bool a),(7,.int .i64 i)]) (fun (i,d,a) wr=>Chg [] w wr∧Rd F wr 10 A l.length (V2 l)∧Blk wr b1 [.int .i64 0,.int .i64 0] 142∧Av9 l size (l.length+1 - i) i d a=r∧i≤l.length∧d≤i) (fun (i,d,a) wr=>200000 - i) (0,0,false) (sb J) ?_ ?_)))))))))
 ·exact ⟨hC,hr,hB1,hR,by omega,by omega⟩
 rintro ⟨i,d,a⟩ w9 ⟨hC,hr,hB1,hR,hi,hd⟩
 try have hlB1:=hB1.lt
 refine Qa (Qd (Z 2 J (Ln Tryz.underlying187 J (Zc 1 J (A4 J (fun h1=>?_) (fun h1=>?_))))))
 ·try simp at h1
  have hin:i<l.length:=by omega
  rw [show l.length+1 - i=(l.length+1 - (i+1))+1 by omega,Av9,Ej7 hin] at hR;simp only [] at hR;obtain ⟨g,off,rfl,hFg,hlt,hcell⟩:=hr.at_ (by omega);refine A7 (Qa (B2 (Qd (Z 2 J (C9 J (C2 Al1 J J (by omega) (by omega)) (C9 J (E7 (vs:=Au5 (l.getD i default)) K4 J (F4 _) (fun j v hj=>by rw [El8];exact hcell (i*10+j) v (by have hj4:j<10:=(Em0.1 hj).1;rw [O1 l i j hin hj4];exact hj)) J) ?_))))));generalize l.getD i default=t at*;refine B5 J (B9 Cr6 J) ?_;intro b2 w2 hb2 hs2 hx2 hB2;have hr:=hr.u hx2;refine Pe V7 J ‹_› J J ?_;intro w3 hs3 hx3 hB2;have hC:=hC.step (hx2.j hx3) (by simp<;>omega);have hr:=hr.q hx3 (by intro b hb hFb;have:=hF _ hFb;simp at hb;omega);have hB1:=hB1.q (hx2.j hx3) (by simp<;>omega);refine Qc (Qd (Fa T9 J (Lb o3 J ‹_› (by rfl) ?_)))
  refine Qc (B2 (Qd (Zc 2 J (A4 J (fun k0=>?_) (fun k0=>?_)))))
  ·try simp at k0
   rw [Ej7 k0] at hR;refine Qb (Zc 1 J (Qb (Z 1 J (Ad J J (by omega) (Zc 1 J ⟨(i+1,d,true),sb J,?_,?_⟩)))));exact ⟨hC,hr,hB1,hR,by omega,by omega⟩;show 200000 - (i+1)<200000 - i;omega
  ·try simp at k0
   rw [Ej6 k0] at hR
   refine Qa (Qd (Zc 2 J (A4 J (fun k1=>?_) (fun k1=>?_))))
   ·refine A7 (E3 (H0 J k1) ?_);rw [cmpB_eql] at k1;rw [Ej7 (.inl k1)] at hR
    refine Qa (Qd (Zc 2 J (A4 J (fun q1=>?_) (fun q1=>?_))))
    ·try simp at q1
     rw [Ej7 (by omega)] at hR;refine Qd (Fa At4 J (Lb o3 J ‹_› (by rfl) ?_));refine C9 J (B0 Be5 Cj8 J (by rfl)) ?_;refine Pe Bh7 J ‹_› J J ?_;intro w4 hs4 hx4 hB1;have hC:=hC.step hx4 (by simp;omega);refine Qc (A6 (D3 J J (A5 Br2 ‹_› J J) ?_));exact ⟨hC,by rw [← hR];rfl⟩
    ·try simp at q1
     rw [Ej6 (by omega)] at hR;refine A7 (Qd (Z 1 J (Ad J J (by omega) (Zc 1 J (Qb (Zc 1 J (Qb (Z 1 J (Ad J J (by omega) (Zc 1 J ⟨(i+1,d+1,false),sb J,?_,?_⟩))))))))));exact ⟨hC,hr,hB1,hR,by omega,by omega⟩;show 200000 - (i+1)<200000 - i;omega
   ·rw [cmpB_eqlF] at k1
    refine Qb (Zc 2 J (A4 J (fun k2=>?_) (fun k2=>?_)))
    ·rw [cmpB_eql] at k2;rw [Ej7 (.inr k2)] at hR
     refine Qa (Qd (Zc 2 J (A4 J (fun q1=>?_) (fun q1=>?_))))
     ·try simp at q1
      rw [Ej7 (by omega)] at hR;refine Qd (Fa At4 J (Lb o3 J ‹_› (by rfl) ?_));refine C9 J (B0 Be5 Cj8 J (by rfl)) ?_;refine Pe Bh7 J ‹_› J J ?_;intro w5 hs5 hx5 hB1;have hC:=hC.step hx5 (by simp;omega);refine Qc (A6 (D3 J J (A5 Br2 ‹_› J J) ?_));exact ⟨hC,by rw [← hR];rfl⟩
     ·try simp at q1
      rw [Ej6 (by omega)] at hR;refine A7 (Qd (Z 1 J (Ad J J (by omega) (Zc 1 J (Qb (Zc 1 J (Qb (Z 1 J (Ad J J (by omega) (Zc 1 J ⟨(i+1,d+1,false),sb J,?_,?_⟩))))))))));exact ⟨hC,hr,hB1,hR,by omega,by omega⟩;show 200000 - (i+1)<200000 - i;omega
    ·rw [cmpB_eqlF] at k2;rw [Ej6 (Et7.2 ⟨k1,k2⟩)] at hR
     refine Qd (Zc 2 J (A4 J (fun k3=>?_) (fun k3=>?_)))
     ·try simp at k3
      rw [Ej7 k3] at hR
      refine Qa (Qd (Zc 2 J (A4 J (fun q1=>?_) (fun q1=>?_))))
      ·try simp at q1
       have q1':d=0:=by omega
       rw [Ej7 q1'] at hR;refine Qd (Fa At4 J (Lb o3 J ‹_› (by rfl) ?_));refine C9 J (B0 Be5 Cj8 J (by rfl)) ?_;refine Pe Bh7 J ‹_› J J ?_;intro w6 hs6 hx6 hB1;have hC:=hC.step hx6 (by simp;omega);refine Qc (A6 (D3 J J (A5 Br2 ‹_› J J) ?_));exact ⟨hC,by rw [← hR];rfl⟩
      ·try simp at q1
       have q1':¬ d=0:=by omega
       rw [Ej6 q1'] at hR;refine A7 (Qd (Z 1 J (Su J J (by omega) (Zc 1 J (Qb (Zc 1 J (Qb (Z 1 J (Ad J J (by omega) (Zc 1 J ⟨(i+1,d - 1,true),⟨rfl,rfl,rfl,(G3 J (by omega)),rfl,rfl,trivial⟩,?_,?_⟩))))))))));exact ⟨hC,hr,hB1,hR,by omega,by omega⟩;show 200000 - (i+1)<200000 - i;omega
     ·try simp at k3
      rw [Ej6 k3] at hR
      refine Qd (Zc 2 J (A4 J (fun k4=>?_) (fun k4=>?_)))
      ·try simp at k4
       rw [Ej7 k4] at hR;refine Qb (Zc 1 J (Qb (Z 1 J (Ad J J (by omega) (Zc 1 J ⟨(i+1,d,false),sb J,?_,?_⟩)))));exact ⟨hC,hr,hB1,hR,by omega,by omega⟩;show 200000 - (i+1)<200000 - i;omega
      ·try simp at k4
       rw [Ej6 k4] at hR
       refine Qa (Qd (Zc 2 J (A4 J (fun k5=>?_) (fun k5=>?_))))
       ·have k5':a=false:=by simpa using k5
        rw [Ej7 k5'] at hR;refine Qd (Fa At4 J (Lb o3 J ‹_› (by rfl) ?_));refine C9 J (B0 Be5 Cj8 J (by rfl)) ?_;refine Pe Bh7 J ‹_› J J ?_;intro w7 hs7 hx7 hB1;have hC:=hC.step hx7 (by simp;omega);refine Qc (A6 (D3 J J (A5 Br2 ‹_› J J) ?_));exact ⟨hC,by rw [← hR];rfl⟩
       ·have k5':¬ a=false:=by simpa using k5
        rw [Ej6 k5'] at hR;refine A7 (Qb (Zc 1 J (Qb (Z 1 J (Ad J J (by omega) (Zc 1 J ⟨(i+1,d,false),sb J,?_,?_⟩))))));exact ⟨hC,hr,hB1,hR,by omega,by omega⟩;show 200000 - (i+1)<200000 - i;omega
 ·try simp at h1
  have hX:Av9 l size (l.length+1 - i) i d a=if 0<d then (size,4) else (0,0):=by
   rw [show l.length+1 - i=0+1 by omega,Av9,Ej6 (by omega)]
  rw [hX] at hR
  refine Xb (Qa (Qd (Zc 2 J (A4 J (fun z1=>?_) (fun z1=>?_)))))
  ·try simp at z1
   rw [Ej7 (by omega)] at hR;refine Qd (Z 1 J (C9 J (B0 Be5 Cj8 J (by rfl)) ?_));refine Pe Bh7 J ‹_› J J ?_;intro w8 hs8 hx8 hB1;have hC:=hC.step hx8 (by simp;omega);refine Qc (A6 (D3 J J (A5 Br2 ‹_› J J) ?_));exact ⟨hC,by rw [← hR];rfl⟩
  ·try simp at z1
   rw [Ej6 (by omega)] at hR;refine A7 (Qd (C9 J (B0 Be5 Cj8 J (by rfl)) ?_));refine Pe Bh7 J ‹_› J J ?_;intro w9 hs9 hx9 hB1;have hC:=hC.step hx9 (by simp;omega);refine Qc (A6 (D3 J J (A5 Br2 ‹_› J J) ?_));exact ⟨hC,by rw [← hR];rfl⟩
inductive R8 where
 |node (kind:Int) (set:Nat) (lz:Bool) (l:List R8)
instance:Inhabited R8:=⟨.node 0 0 false []⟩
def n8C (k:Int) (s:Nat) (lz:Bool) (A:Option Addr) (n c:Nat):List Value:=[.int .i64 k]++C4 s++[.bool lz,.slice A n c]
mutual
def N8 (F:Nat→Prop) (w:World):R8→List Value→Prop
 | .node k s lz l,cs=>∃ A c css,cs=n8C k s lz A l.length c∧Rd F w 7 A l.length (List.flatten css)∧N8r F w l css
def N8r (F:Nat→Prop) (w:World):List R8→List (List Value)→Prop
 |[],css=>css=[]
 |t::r,css=>∃ cs rest,css=cs::rest∧N8 F w t cs∧N8r F w r rest
end
mutual
theorem Ei4 {F:Nat→Prop} {w w':World} {S:List Nat} (c:Chg S w w') (hS:∀ b∈S,¬ F b):∀ (t:R8) (cs:List Value),N8 F w t cs→N8 F w' t cs
 | .node k s lz l,cs,h=>by
  rw [N8] at h ⊢;obtain ⟨A,cc,css,h1,h2,h3⟩:=h;exact ⟨A,cc,css,h1,h2.q c hS,Cf4 c hS l css h3⟩
theorem Cf4 {F:Nat→Prop} {w w':World} {S:List Nat} (c:Chg S w w') (hS:∀ b∈S,¬ F b):∀ (l:List R8) (css:List (List Value)),N8r F w l css→N8r F w' l css
 |[],css,h=>by rw [N8r] at h ⊢;exact h
 |t::r,css,h=>by
  rw [N8r] at h ⊢;obtain ⟨cs,rest,h1,h2,h3⟩:=h;exact ⟨cs,rest,h1,Ei4 c hS t cs h2,Cf4 c hS r rest h3⟩
end
mutual
theorem Di4 {F F':Nat→Prop} {w:World} (hF:∀ b,F b→b<w.heap.size→F' b):∀ (t:R8) (cs:List Value),N8 F w t cs→N8 F' w t cs
 | .node k s lz l,cs,h=>by
  rw [N8] at h ⊢;obtain ⟨A,cc,css,h1,h2,h3⟩:=h;exact ⟨A,cc,css,h1,h2.mono hF,Bp3 hF l css h3⟩
theorem Bp3 {F F':Nat→Prop} {w:World} (hF:∀ b,F b→b<w.heap.size→F' b):∀ (l:List R8) (css:List (List Value)),N8r F w l css→N8r F' w l css
 |[],css,h=>by rw [N8r] at h ⊢;exact h
 |t::r,css,h=>by
  rw [N8r] at h ⊢;obtain ⟨cs,rest,h1,h2,h3⟩:=h;exact ⟨cs,rest,h1,Di4 hF t cs h2,Bp3 hF r rest h3⟩
end
theorem N8r.get {F:Nat→Prop} {w:World}:∀ {l:List R8} {css:List (List Value)},N8r F w l css→∀ k,k<l.length→N8 F w (l.getD k default) (css.getD k [])
 |[],css,h,k,hk=>by simp at hk
 |t::r,css,h,0,hk=>by
  rw [N8r] at h;obtain ⟨cs,rest,rfl,h2,_⟩:=h
  simpa using h2
 |t::r,css,h,k+1,hk=>by
  rw [N8r] at h;obtain ⟨cs,rest,rfl,_,h3⟩:=h
  simpa using N8r.get h3 k (by simpa using hk)
theorem N8.len {F:Nat→Prop} {w:World}:∀ {t:R8} {cs:List Value},N8 F w t cs→cs.length=7
 | .node k s lz l,cs,h=>by
  rw [N8] at h;obtain ⟨A,c,css,rfl,_⟩:=h
  rfl
theorem N8.q {F:Nat→Prop} {w w':World} {t:R8} {cs:List Value} {S:List Nat} (h:N8 F w t cs) (c:Chg S w w') (hS:∀ b∈S,¬ F b):N8 F w' t cs:=Ei4 c hS t cs h
theorem N8r.q {F:Nat→Prop} {w w':World} {t:List R8} {cs:List (List Value)} {S:List Nat} (h:N8r F w t cs) (c:Chg S w w') (hS:∀ b∈S,¬ F b):N8r F w' t cs:=Cf4 c hS t cs h
theorem N8.u {F:Nat→Prop} {w w':World} {t:R8} {cs:List Value} (h:N8 F w t cs) (c:Chg [] w w'):N8 F w' t cs:=h.q c (fun b hb=>by cases hb)
theorem N8r.u {F:Nat→Prop} {w w':World} {t:List R8} {cs:List (List Value)} (h:N8r F w t cs) (c:Chg [] w w'):N8r F w' t cs:=h.q c (fun b hb=>by cases hb)
theorem N8.mono {F F':Nat→Prop} {w:World} {t:R8} {cs:List Value} (h:N8 F w t cs) (hF:∀ b,F b→b<w.heap.size→F' b):N8 F' w t cs:=Di4 hF t cs h
theorem N8r.mono {F F':Nat→Prop} {w:World} {t:List R8} {cs:List (List Value)} (h:N8r F w t cs) (hF:∀ b,F b→b<w.heap.size→F' b):N8r F' w t cs:=Bp3 hF t cs h
def Ag2 (k:Int) (a b:R8):R8:=.node k 0 false [a,b]
theorem Al7 (k:Int) (a b:R8) (ca cb:List Value) (F:Nat→Prop) (w:World) (hF:∀ x,F x→x<w.heap.size) (hA:N8 F w a ca) (hBb:N8 F w b cb):Calls P 121 #[.int .i64 k,.agg ca.toArray,.agg cb.toArray] w (Ret fun u w'=>Chg [] w w'∧∃ cs,u= .agg cs.toArray∧N8 (fun x=>F x∨(w.heap.size≤x∧x<w'.heap.size)) w' (Ag2 k a b) cs):=by
 have hC:=A8 [] w;have hla:=hA.len;have hlb:=hBb.len
 obtain ⟨a0,a1,a2,a3,a4,a5,a6,rfl⟩:∃ a0 a1 a2 a3 a4 a5 a6,ca=[a0,a1,a2,a3,a4,a5,a6]:=by
  match ca,hla with
  |[a0,a1,a2,a3,a4,a5,a6],_=>exact ⟨a0,a1,a2,a3,a4,a5,a6,rfl⟩
 obtain ⟨d0,d1,d2,d3,d4,d5,d6,rfl⟩:∃ a0 a1 a2 a3 a4 a5 a6,cb=[a0,a1,a2,a3,a4,a5,a6]:=by
  match cb,hlb with
  |[a0,a1,a2,a3,a4,a5,a6],_=>exact ⟨a0,a1,a2,a3,a4,a5,a6,rfl⟩
 refine D4 Tryz.func121 J J (Qd (B5 J (E1 J J) ?_));intro b1 w1 hb1 hs1 hx1 hB1;refine B5 J (E1 J J) ?_;intro b2 w2 hb2 hs2 hx2 hB2;refine B5 J (B9 Aq2 J) ?_;intro b3 w3 hb3 hs3 hx3 hB3;have hB1:=hB1.u (hx2.s0 hx3);have hB2:=hB2.u hx3;refine Qc (Qd (Z 1 J (La M8 J ‹_› J J ?_)));refine La M8 J ‹_› J J ?_;refine B5 J (B6 Ak9 Tryz.underlying71 Aq2 J J J (by rfl)) ?_;intro b4 w4 hb4 hs4 hx4 hB4;have hB3:=hB3.u hx4;refine C9 J (B0 Aq2 Dc4 J (by rfl)) ?_;refine Pe Ak6 J ‹_› J J ?_;intro w5 hs5 hx5 hB3;have hC:=hC.step ((((hx1.j hx2).j hx3).j hx4).j hx5) (by simp<;>omega);have hB4:=hB4.q hx5 (by simp;omega);refine Qc (A6 (D3 J J (A5 M8 ‹_› J J) ?_));refine ⟨hC,n8C k 0 false (some ⟨b4,0,none⟩) 2 2,by unfold n8C;rw [C6];rfl,?_⟩;unfold Ag2;rw [N8];refine ⟨some ⟨b4,0,none⟩,2,[[a0,a1,a2,a3,a4,a5,a6],[d0,d1,d2,d3,d4,d5,d6]],rfl,Blk.rd ‹_› J (.inr ⟨by omega,by have:=hB4.lt;omega⟩),?_⟩;rw [N8r];refine ⟨_,_,rfl,(hA.u hC).mono (fun x h _=>.inl h),?_⟩;rw [N8r];refine ⟨_,_,rfl,(hBb.u hC).mono (fun x h _=>.inl h),?_⟩;rw [N8r]
inductive R6 where
 |node (kind:Int) (set:Nat) (mn mx:Int) (lz:Bool) (l:List R6) (frm till:Int)
instance:Inhabited R6:=⟨.node 0 0 0 0 false [] 0 0⟩
def n6C (k:Int) (s:Nat) (mn mx:Int) (lz:Bool) (A:Option Addr) (n c:Nat) (a b:Int):List Value:=[.int .i64 k]++C4 s++[.int .i64 mn,.int .i64 mx,.bool lz,.slice A n c,.int .i64 a,.int .i64 b]
mutual
def N6 (F:Nat→Prop) (w:World):R6→List Value→Prop
 | .node k s mn mx lz l fr tl,cs=>∃ A c css,cs=n6C k s mn mx lz A l.length c fr tl∧Rd F w 11 A l.length (List.flatten css)∧N6r F w l css
def N6r (F:Nat→Prop) (w:World):List R6→List (List Value)→Prop
 |[],css=>css=[]
 |t::r,css=>∃ cs rest,css=cs::rest∧N6 F w t cs∧N6r F w r rest
end
mutual
theorem Ei5 {F:Nat→Prop} {w w':World} {S:List Nat} (c:Chg S w w') (hS:∀ b∈S,¬ F b):∀ (t:R6) (cs:List Value),N6 F w t cs→N6 F w' t cs
 | .node k s mn mx lz l fr tl,cs,h=>by
  rw [N6] at h ⊢;obtain ⟨A,cc,css,h1,h2,h3⟩:=h;exact ⟨A,cc,css,h1,h2.q c hS,Cf5 c hS l css h3⟩
theorem Cf5 {F:Nat→Prop} {w w':World} {S:List Nat} (c:Chg S w w') (hS:∀ b∈S,¬ F b):∀ (l:List R6) (css:List (List Value)),N6r F w l css→N6r F w' l css
 |[],css,h=>by rw [N6r] at h ⊢;exact h
 |t::r,css,h=>by
  rw [N6r] at h ⊢;obtain ⟨cs,rest,h1,h2,h3⟩:=h;exact ⟨cs,rest,h1,Ei5 c hS t cs h2,Cf5 c hS r rest h3⟩
end
mutual
theorem Di5 {F F':Nat→Prop} {w:World} (hF:∀ b,F b→b<w.heap.size→F' b):∀ (t:R6) (cs:List Value),N6 F w t cs→N6 F' w t cs
 | .node k s mn mx lz l fr tl,cs,h=>by
  rw [N6] at h ⊢;obtain ⟨A,cc,css,h1,h2,h3⟩:=h;exact ⟨A,cc,css,h1,h2.mono hF,Bp4 hF l css h3⟩
theorem Bp4 {F F':Nat→Prop} {w:World} (hF:∀ b,F b→b<w.heap.size→F' b):∀ (l:List R6) (css:List (List Value)),N6r F w l css→N6r F' w l css
 |[],css,h=>by rw [N6r] at h ⊢;exact h
 |t::r,css,h=>by
  rw [N6r] at h ⊢;obtain ⟨cs,rest,h1,h2,h3⟩:=h;exact ⟨cs,rest,h1,Di5 hF t cs h2,Bp4 hF r rest h3⟩
end
theorem N6r.get {F:Nat→Prop} {w:World}:∀ {l:List R6} {css:List (List Value)},N6r F w l css→∀ k,k<l.length→N6 F w (l.getD k default) (css.getD k [])
 |[],css,h,k,hk=>by simp at hk
 |t::r,css,h,0,hk=>by
  rw [N6r] at h;obtain ⟨cs,rest,rfl,h2,_⟩:=h
  simpa using h2
 |t::r,css,h,k+1,hk=>by
  rw [N6r] at h;obtain ⟨cs,rest,rfl,_,h3⟩:=h
  simpa using N6r.get h3 k (by simpa using hk)
theorem N6.len {F:Nat→Prop} {w:World}:∀ {t:R6} {cs:List Value},N6 F w t cs→cs.length=11
 | .node k s mn mx lz l fr tl,cs,h=>by
  rw [N6] at h;obtain ⟨A,c,css,rfl,_⟩:=h
  rfl
theorem N6.q {F:Nat→Prop} {w w':World} {t:R6} {cs:List Value} {S:List Nat} (h:N6 F w t cs) (c:Chg S w w') (hS:∀ b∈S,¬ F b):N6 F w' t cs:=Ei5 c hS t cs h
theorem N6r.q {F:Nat→Prop} {w w':World} {t:List R6} {cs:List (List Value)} {S:List Nat} (h:N6r F w t cs) (c:Chg S w w') (hS:∀ b∈S,¬ F b):N6r F w' t cs:=Cf5 c hS t cs h
theorem N6.u {F:Nat→Prop} {w w':World} {t:R6} {cs:List Value} (h:N6 F w t cs) (c:Chg [] w w'):N6 F w' t cs:=h.q c (fun b hb=>by cases hb)
theorem N6r.u {F:Nat→Prop} {w w':World} {t:List R6} {cs:List (List Value)} (h:N6r F w t cs) (c:Chg [] w w'):N6r F w' t cs:=h.q c (fun b hb=>by cases hb)
theorem N6.mono {F F':Nat→Prop} {w:World} {t:R6} {cs:List Value} (h:N6 F w t cs) (hF:∀ b,F b→b<w.heap.size→F' b):N6 F' w t cs:=Di5 hF t cs h
theorem N6r.mono {F F':Nat→Prop} {w:World} {t:List R6} {cs:List (List Value)} (h:N6r F w t cs) (hF:∀ b,F b→b<w.heap.size→F' b):N6r F' w t cs:=Bp4 hF t cs h
def R6.frm:R6→Int
 | .node _ _ _ _ _ _ a _=>a
def R6.till:R6→Int
 | .node _ _ _ _ _ _ _ b=>b
def rkd (l:List RTk) (i:Nat):Int:=(l.getD i default).kind
def Au6 (l:List RTk) (alt:Nat→Nat→R6) (i:Nat):R6 × Nat:=
 if rkd l i=0 then (.node 1 (l.getD i default).set 0 0 false [] (l.getD i default).frm (l.getD i default).till,i+1)
 else (.node (1+rkd l i) 0 0 0 false [alt (i+1) (Bc9 l (i+1)).toNat] (l.getD i default).frm (l.getD (Bc9 l (i+1)).toNat default).till,(Bc9 l (i+1)).toNat+1)
def cntN (q:RTk) (n:R6):R6:=.node 6 0 q.mn q.mx q.lz [n] n.frm q.till
def Ak7 (l:List RTk) (to:Nat) (x:R6 × Nat):R6 × Nat:=
 if x.2<to∧rkd l x.2=5 then (cntN (l.getD x.2 default) x.1,x.2+1) else x
def As3 (l:List RTk) (alt:Nat→Nat→R6) (to:Nat):Nat→Nat→List R6→List R6
 |0,_,o=>o
 |f+1,i,o=>if i<to then As3 l alt to f (Ak7 l to (Au6 l alt i)).2 (o++[(Ak7 l to (Au6 l alt i)).1]) else o
def Bq8 (kind:Int) (o:List R6):R6:=if o.length=1 then o.getD 0 default else .node kind 0 0 0 false o (o.getD 0 default).frm (o.getD (o.length - 1) default).till
def catE (l:List RTk) (size:Int) (frm:Nat) (o:List R6):R6:=if o.length=0 then .node 0 0 0 0 false [] (Bo7 l frm size) (Bo7 l frm size) else Bq8 4 o
def dpR (l:List RTk) (i to:Nat) (d:Int):Int:=if i<to then (if rkd l i=1∨rkd l i=2 then d+1 else if rkd l i=3 then d - 1 else d) else d
def Af8 (l:List RTk) (cat:Nat→Nat→R6) (to:Nat):Nat→Nat→Nat→Int→List R6→List R6
 |0,_,_,_,o=>o
 |f+1,i,at_,d,o=>
  if i≤to then
   if i=to∨(rkd l i=4∧dpR l i to d=0) then Af8 l cat to f (i+1) (i+1) (dpR l i to d) (o++[cat at_ i])
   else Af8 l cat to f (i+1) at_ (dpR l i to d) o
  else o
def As5 (l:List RTk) (size:Int):Nat→Bool→Nat→Nat→R6
 |0,_,_,_=>default
 |f+1,true,a,b=>Bq8 5 (Af8 l (fun x y=>As5 l size f false x y) b (b+2 - a) a a 0 [])
 |f+1,false,a,b=>catE l size a (As3 l (fun x y=>As5 l size f true x y) b (b+1 - a) a [])
def Stp (k:Int) (d:Nat) (a:Bool) (d':Nat) (a':Bool):Prop:=
 (k=0∧d'=d∧a'=true)∨((k=1∨k=2)∧d'=d+1∧a'=false)∨(k=3∧d=d'+1∧a'=true)∨(k=4∧d'=d∧a'=false)∨(k=5∧a=true∧d'=d∧a'=false)
structure Shp (l:List RTk) (d:Nat→Nat) (a:Nat→Bool):Prop where
 st:∀ i,i<l.length→Stp (rkd l i) (d i) (a i) (d (i+1)) (a (i+1))
 d0:d 0=0
 a0:a 0=false
 dn:d l.length=0
structure Rng (l:List RTk) (d:Nat→Nat) (a:Nat→Bool) (D x y:Nat):Prop where
 le:x≤y
 len:y≤l.length
 dx:d x=D
 dy:d y=D
 ax:a x=false
 ge:∀ i,x≤i→i≤y→D≤d i
theorem Aq1 {l:List RTk} {d:Nat→Nat} {a:Nat→Bool} (h:Shp l d a) {D x y i0:Nat} (hy:y≤l.length) (hdy:d y=D):∀ (f j e:Nat),f=l.length+1 - j→i0≤j→j≤y→d j=D+1+e→(∀ m,i0≤m→m≤j→D+1≤d m)→∃ k:Nat,Am0 l f j e=(k:Int)∧i0≤k∧k<y∧rkd l k=3∧d k=D+1∧∀ m,i0≤m→m≤k→D+1≤d m
 |0,j,e,hf,h0,hj,hd,hm=>by omega
 |f+1,j,e,hf,h0,hj,hd,hm=>by
  have hjy:j<y:=by
   rcases Er1 j y with h1|h1
   ·exact h1
   ·have:j=y:=by omega
    subst this;omega
  rw [Am0,Ej7 (by omega)];have hs:=h.st j (by omega);have hk:(l.getD j default).kind=rkd l j:=rfl;rw [hk]
  have ext:D+1≤d (j+1)→∀ m,i0≤m→m≤j+1→D+1≤d m:=fun h1 m ha hb=>by
   by_cases hc:m≤j
   ·exact hm m ha hc
   ·have:m=j+1:=by omega
    rw [this];exact h1
  rcases hs with ⟨h1,h2,_⟩|⟨h1,h2,_⟩|⟨h1,h2,_⟩|⟨h1,h2,_⟩|⟨h1,_,h2,_⟩
  ·rw [Ej6 (by omega),Ej6 (by omega)];exact Aq1 h (x:=x) hy hdy f (j+1) e (by omega) (by omega) (by omega) (by omega) (ext (by omega))
  ·rw [Ej7 h1];exact Aq1 h (x:=x) hy hdy f (j+1) (e+1) (by omega) (by omega) (by omega) (by omega) (ext (by omega))
  ·rw [Ej6 (by omega),Ej7 h1]
   by_cases he:e=0
   ·rw [Ej7 he];exact ⟨j,rfl,h0,hjy,h1,by omega,hm⟩
   ·rw [Ej6 he];exact Aq1 h (x:=x) hy hdy f (j+1) (e - 1) (by omega) (by omega) (by omega) (by omega) (ext (by omega))
  ·rw [Ej6 (by omega),Ej6 (by omega)];exact Aq1 h (x:=x) hy hdy f (j+1) e (by omega) (by omega) (by omega) (by omega) (ext (by omega))
  ·rw [Ej6 (by omega),Ej6 (by omega)];exact Aq1 h (x:=x) hy hdy f (j+1) e (by omega) (by omega) (by omega) (by omega) (ext (by omega))
theorem Rng.group {l:List RTk} {d:Nat→Nat} {a:Nat→Bool} {D x y i:Nat} (h:Shp l d a) (r:Rng l d a D x y) (hx:x≤i) (hy:i<y) (hd:d i=D) (hk:rkd l i=1∨rkd l i=2):∃ k:Nat,Bc9 l (i+1)=(k:Int)∧k<y∧rkd l k=3∧d (k+1)=D∧a (k+1)=true∧Rng l d a (D+1) (i+1) k:=by
 have hl:=r.len;have hs:=h.st i (by omega)
 have h1:d (i+1)=D+1∧a (i+1)=false:=by
  rcases hs with ⟨h1,_⟩|⟨_,h2,h3⟩|⟨h1,_⟩|⟨h1,_⟩|⟨h1,_⟩
  ·omega
  ·exact ⟨by omega,h3⟩
  ·omega
  ·omega
  ·omega
 obtain ⟨k,k1,k2,k3,k4,k5,k6⟩:=Aq1 h (x:=x) (i0:=i+1) r.len r.dy (l.length+1 - (i+1)) (i+1) 0 rfl (Ek7 _) (by omega) (by omega) (fun m ha hb=>by
  have:m=i+1:=by omega
  rw [this];omega)
 have hs:=h.st k (by omega)
 have h2:d (k+1)=D∧a (k+1)=true:=by
  rcases hs with ⟨h1,_⟩|⟨h1,_⟩|⟨h1,h2,h3⟩|⟨h1,_⟩|⟨h1,_⟩
  ·omega
  ·omega
  ·exact ⟨by omega,h3⟩
  ·omega
  ·omega
 exact ⟨k,k1,k3,k4,h2.1,h2.2,⟨k2,by omega,h1.1,k5,h1.2,k6⟩⟩
structure AtI (l:List RTk) (d:Nat→Nat) (a:Nat→Bool) (D x y i:Nat):Prop where
 lo:x≤i
 hi:i≤y
 di:d i=D
 ok:a i=false∨(i<y→rkd l i≠5)
def Bf5 (l:List RTk) (d:Nat→Nat) (D x y:Nat):Prop:=∀ i,x≤i→i<y→d i=D→rkd l i≠4
theorem AtI.kind {l:List RTk} {d:Nat→Nat} {a:Nat→Bool} {D x y i:Nat} (h:Shp l d a) (r:Rng l d a D x y) (nb:Bf5 l d D x y) (t:AtI l d a D x y i) (hi:i<y):(rkd l i=0∧d (i+1)=D∧a (i+1)=true)∨rkd l i=1∨rkd l i=2:=by
 have hl:=r.len;have hs:=h.st i (by omega);have hb:=nb i t.lo hi t.di;have hd:=t.di
 rcases hs with ⟨h1,h2,h3⟩|⟨h1,h2,_⟩|⟨h1,h2,_⟩|⟨h1,h2,_⟩|⟨h1,h2,_⟩
 ·exact .inl ⟨h1,by omega,h3⟩
 ·exact .inr h1
 ·have:=r.ge (i+1) (by have:=t.lo;omega) (by omega);omega
 ·exact absurd h1 hb
 ·rcases t.ok with h4|h4
  ·rw [h4] at h2;cases h2
  ·exact absurd h1 (h4 hi)
theorem AtI.more {l:List RTk} {d:Nat→Nat} {a:Nat→Bool} {D x y j:Nat} (h:Shp l d a) (r:Rng l d a D x y) (h1:x≤j) (h3:j<y) (h4:d j=D) (h5:rkd l j=5):AtI l d a D x y (j+1):=by
 have hl:=r.len
 rcases h.st j (by omega) with ⟨k1,_⟩|⟨k1,_⟩|⟨k1,_⟩|⟨k1,_⟩|⟨_,_,k3,k4⟩
 ·omega
 ·omega
 ·omega
 ·omega
 ·exact ⟨by omega,by omega,by omega,.inl k4⟩
structure AtB (l:List RTk) (d:Nat→Nat) (a:Nat→Bool) (D x y i at_:Nat):Prop where
 lo:x≤at_
 mid:at_≤i
 hi:i≤y
 dat:d at_=D
 aat:a at_=false
 nb:Bf5 l d D at_ i
theorem AtB.rng {l:List RTk} {d:Nat→Nat} {a:Nat→Bool} {D x y i at_:Nat} (r:Rng l d a D x y) (t:AtB l d a D x y i at_) (hd:d i=D):Rng l d a D at_ i:=
 ⟨t.mid,En2 t.hi r.len,t.dat,hd,t.aat,fun m h1 h2=>r.ge m (En2 t.lo h1) (En2 h2 t.hi)⟩
theorem AtB.deep {l:List RTk} {d:Nat→Nat} {a:Nat→Bool} {D x y i at_:Nat} {e:Int} (h:Shp l d a) (r:Rng l d a D x y) (t:AtB l d a D x y i at_) (hi:i<y) (he:e=(d i:Int) - D):dpR l i y e=(d (i+1):Int) - D∧(rkd l i=4→d (i+1)=d i∧a (i+1)=false):=by
 have hl:=r.len;unfold dpR;rw [Ej7 hi]
 rcases h.st i (by omega) with ⟨k1,k2,k3⟩|⟨k1,k2,k3⟩|⟨k1,k2,k3⟩|⟨k1,k2,k3⟩|⟨k1,_,k2,k3⟩
 ·rw [Ej6 (by omega),Ej6 (by omega)];exact ⟨by omega,fun h=>by omega⟩
 ·rw [Ej7 k1];exact ⟨by omega,fun h=>by omega⟩
 ·rw [Ej6 (by omega),Ej7 k1];exact ⟨by omega,fun h=>by omega⟩
 ·rw [Ej6 (by omega),Ej6 (by omega)];exact ⟨by omega,fun h=>⟨k2,k3⟩⟩
 ·rw [Ej6 (by omega),Ej6 (by omega)];exact ⟨by omega,fun h=>by omega⟩
theorem AtB.next {l:List RTk} {d:Nat→Nat} {a:Nat→Bool} {D x y i at_:Nat} (t:AtB l d a D x y i at_) (hi:i<y) (hn:¬ (rkd l i=4∧d i=D)):AtB l d a D x y (i+1) at_:=
 ⟨t.lo,by have:=t.mid;omega,by omega,t.dat,t.aat,fun m h1 h2 h3=>by
  by_cases hm:m<i
  ·exact t.nb m h1 hm h3
  ·have:m=i:=by omega
   subst this
   exact fun h=>hn ⟨h,h3⟩⟩
theorem AtB.cut {l:List RTk} {d:Nat→Nat} {a:Nat→Bool} {D x y i at_:Nat} (t:AtB l d a D x y i at_) (hi:i<y) (hd:d (i+1)=D) (ha:a (i+1)=false):AtB l d a D x y (i+1) (i+1):=
 ⟨by have:=t.lo;have:=t.mid;omega,Ek7 _,by omega,hd,ha,fun m h1 h2=>by omega⟩
def stD (l:List RTk):Nat→Nat × Bool
 |0=>(0,false)
 |i+1=>if rkd l i=0 then ((stD l i).1,true) else if rkd l i=1∨rkd l i=2 then ((stD l i).1+1,false) else if rkd l i=3 then ((stD l i).1 - 1,true) else ((stD l i).1,false)
theorem Bj0 {l:List RTk} {size:Int} (hk:∀ i,i<l.length→0≤rkd l i∧rkd l i≤5):∀ (f i:Nat),f=l.length+1 - i→i≤l.length→(Av9 l size f i (stD l i).1 (stD l i).2).2=0→(∀ j,i≤j→j<l.length→Stp (rkd l j) (stD l j).1 (stD l j).2 (stD l (j+1)).1 (stD l (j+1)).2)∧(stD l l.length).1=0
 |0,i,hf,hi,h=>by omega
 |f+1,i,hf,hi,h=>by
  rw [Av9] at h
  by_cases hin:i<l.length
  ·rw [Ej7 hin] at h;have hke:(l.getD i default).kind=rkd l i:=rfl;simp only [hke] at h;have hr:=hk i hin
   have go:Stp (rkd l i) (stD l i).1 (stD l i).2 (stD l (i+1)).1 (stD l (i+1)).2→(Av9 l size f (i+1) (stD l (i+1)).1 (stD l (i+1)).2).2=0→(∀ j,i≤j→j<l.length→Stp (rkd l j) (stD l j).1 (stD l j).2 (stD l (j+1)).1 (stD l (j+1)).2)∧(stD l l.length).1=0:=fun hS hR=>by
    obtain ⟨h1,h2⟩:=Bj0 hk f (i+1) (by omega) (by omega) hR;refine ⟨fun j ha hb=>?_,h2⟩
    by_cases hc:i+1≤j
    ·exact h1 j hc hb
    ·have:j=i:=by omega
     subst this;exact hS
   have hst:stD l (i+1)=if rkd l i=0 then ((stD l i).1,true) else if rkd l i=1∨rkd l i=2 then ((stD l i).1+1,false) else if rkd l i=3 then ((stD l i).1 - 1,true) else ((stD l i).1,false):=rfl
   by_cases h0:rkd l i=0
   ·rw [Ej7 h0] at h hst;exact go (.inl ⟨h0,by rw [hst],by rw [hst]⟩) (by rw [hst];exact h)
   rw [Ej6 h0] at h hst
   by_cases h1:rkd l i=1∨rkd l i=2
   ·rw [Ej7 h1] at h hst
    split at h
    ·cases h
    exact go (.inr (.inl ⟨h1,by rw [hst],by rw [hst]⟩)) (by rw [hst];exact h)
   rw [Ej6 h1] at h hst
   by_cases h3:rkd l i=3
   ·rw [Ej7 h3] at h hst
    split at h
    ·cases h
    exact go (.inr (.inr (.inl ⟨h3,by rw [hst];show _=_ - 1+1;omega,by rw [hst]⟩))) (by rw [hst];exact h)
   rw [Ej6 h3] at h hst
   by_cases h4:rkd l i=4
   ·rw [Ej7 h4] at h;exact go (.inr (.inr (.inr (.inl ⟨h4,by rw [hst],by rw [hst]⟩)))) (by rw [hst];exact h)
   rw [Ej6 h4] at h
   split at h
   ·cases h
   rename_i h6
   exact go (.inr (.inr (.inr (.inr ⟨by omega,by simpa using h6,by rw [hst],by rw [hst]⟩)))) (by rw [hst];exact h)
  ·rw [Ej6 hin] at h;have:i=l.length:=by omega
   subst this;refine ⟨fun j ha hb=>by omega,?_⟩
   split at h
   ·cases h
   ·omega
theorem As2 {l:List RTk} {size:Int} (hk:∀ i,i<l.length→0≤rkd l i∧rkd l i≤5) (h:(Bi9 l size).2=0):Shp l (fun i=>(stD l i).1) (fun i=>(stD l i).2):=by
 obtain ⟨h1,h2⟩:=Bj0 (size:=size) hk (l.length+1) 0 rfl (Ek5 _) h;exact ⟨fun i hi=>h1 i (Ek5 _) hi,rfl,rfl,h2⟩
theorem Shp.all {l:List RTk} {d:Nat→Nat} {a:Nat→Bool} (h:Shp l d a):Rng l d a 0 0 l.length:=⟨Ek5 _,Ek7 _,h.d0,h.dn,h.a0,fun _ _ _=>Ek5 _⟩
theorem Ay1 (L:List Nat) (t:RTk) (e:Int × Int):(Ce9 L t e).1.kind=t.kind:=by
 unfold Ce9
 split
 ·rfl
 ·dsimp only;split<;>rfl
theorem Dx3 (L:List Nat) (i:Nat):0≤(Cg4 L i).1.kind∧(Cg4 L i).1.kind≤5:=by
 unfold Cg4;simp only []
 by_cases h1:L.getD i 0=92
 ·rw [Ej7 h1];constructor<;>simp
 rw [Ej6 h1]
 by_cases h2:L.getD i 0=91
 ·rw [Ej7 h2];constructor<;>simp
 rw [Ej6 h2]
 by_cases h3:L.getD i 0=40
 ·rw [Ej7 h3]
  split<;>constructor<;>simp
 rw [Ej6 h3]
 by_cases h4:L.getD i 0=41
 ·rw [Ej7 h4];constructor<;>simp
 rw [Ej6 h4]
 by_cases h5:L.getD i 0=124
 ·rw [Ej7 h5];constructor<;>simp
 rw [Ej6 h5]
 by_cases h6:L.getD i 0=46
 ·rw [Ej7 h6];constructor<;>simp
 rw [Ej6 h6]
 by_cases h7:L.getD i 0=94∨L.getD i 0=36
 ·rw [Ej7 h7];constructor<;>simp
 rw [Ej6 h7]
 by_cases h8:L.getD i 0=93∨L.getD i 0=125
 ·rw [Ej7 h8];constructor<;>simp
 rw [Ej6 h8]
 by_cases h9:L.getD i 0∉B7 Eg2
 ·rw [Ej7 h9];constructor<;>simp
 rw [Ej6 h9]
 split
 ·rw [Ay1];constructor<;>simp
 split
 ·rw [Ay1];constructor<;>simp
 split
 ·rw [Ay1];constructor<;>simp
 ·rw [Ay1];constructor<;>simp
theorem Bc8 (L:List Nat):∀ (f i:Nat) (l:List RTk),(∀ t∈l,0≤t.kind∧t.kind≤5)→∀ t∈(Z1 L f i l).1,0≤t.kind∧t.kind≤5
 |0,i,l,h=>by rw [Z1];exact h
 |f+1,i,l,h=>by
  rw [Z1]
  split
  ·simp only []
   split
   ·intro t ht;cases ht
   ·refine Bc8 L f _ _ fun t ht=>?_
    rcases En3.1 ht with h1|h1
    ·exact h t h1
    ·rw [Ej9] at h1;subst h1;exact Dx3 L i
  ·exact h
theorem Dv5 (L:List Nat):∀ i,i<(K2 L).1.length→0≤rkd (K2 L).1 i∧rkd (K2 L).1 i≤5:=by
 intro i hi;unfold rkd;rw [Ej8,Ek0 hi];exact Bc8 L _ 0 [] (fun t ht=>by cases ht) _ (List.getElem_mem hi)
theorem Bs7 (L:List Nat) (hL:∀ b∈L,b<256):∀ (f i:Nat) (l:List RTk),l.length≤i→i≤L.length→(Z1 L f i l).1.length≤L.length
 |0,i,l,h,hi=>by rw [Z1];exact En2 h hi
 |f+1,i,l,h,hi=>by
  rw [Z1]
  split
  ·rename_i hin
   have hg:=Ck3 L hL i hin;simp only [];generalize Cg4 L i=x at*;obtain ⟨x,p,e⟩:=x;simp only [] at*
   split
   ·exact Ek5 _
   ·rename_i he
    obtain ⟨j,hj,h1,h2⟩:=hg (by simpa using he);simp only [] at hj;subst hj;rw [Ek6];exact Bs7 L hL f j _ (by simp;omega) h2
  ·exact En2 h hi
theorem Bs6 (L:List Nat) (hL:∀ b∈L,b<256):(K2 L).1.length≤L.length:=Bs7 L hL _ 0 [] (Ek5 _) (Ek5 _)
def M3 (L:List Nat):R6 × Int × Int:=
 if (K2 L).2.2≠0 then (default,(K2 L).2)
 else if (Bi9 (K2 L).1 L.length).2≠0 then (default,Bi9 (K2 L).1 L.length)
 else (As5 (K2 L).1 L.length (2*(K2 L).1.length+2) true 0 (K2 L).1.length,0,0)
def RCatC (l:List RTk) (A:Option Addr) (c:Nat) (size:Int) (f:Nat):Prop:=∀ (dd:Nat→Nat) (aa:Nat→Bool) (D x y:Nat) (F:Nat→Prop) (w:World),Shp l dd aa→Rng l dd aa D x y→Bf5 l dd D x y→2*(y - x)<f→(∀ b,F b→b<w.heap.size)→Rd F w 10 A l.length (V2 l)→Calls P 146 #[.slice A l.length c,.int .i64 (x:Nat),.int .i64 (y:Nat),.int .i64 size] w (Ret fun u w'=>Chg [] w w'∧∃ cs,u= .agg cs.toArray∧N6 (FR w.heap.size w'.heap.size []) w' (As5 l size f false x y) cs)
def RAltC (l:List RTk) (A:Option Addr) (c:Nat) (size:Int) (f:Nat):Prop:=∀ (dd:Nat→Nat) (aa:Nat→Bool) (D x y:Nat) (F:Nat→Prop) (w:World),Shp l dd aa→Rng l dd aa D x y→2*(y - x)+1<f→(∀ b,F b→b<w.heap.size)→Rd F w 10 A l.length (V2 l)→Calls P 120 #[.slice A l.length c,.int .i64 (x:Nat),.int .i64 (y:Nat),.int .i64 size] w (Ret fun u w'=>Chg [] w w'∧∃ cs,u= .agg cs.toArray∧N6 (FR w.heap.size w'.heap.size []) w' (As5 l size f true x y) cs)
theorem N6.cells {F:Nat→Prop} {w:World} {t:R6} {cs:List Value} (h:N6 F w t cs):∃ a0 a1 a2 a3 a4 a5 a6 a7 a8,cs=[a0,a1,a2,a3,a4,a5,a6,a7,a8,.int .i64 t.frm,.int .i64 t.till]:=by
 cases t with
 |node k s mn mx lz l fr tl=>
  rw [N6] at h;obtain ⟨A,c,css,rfl,_⟩:=h;exact ⟨_,_,_,_,_,_,_,_,_,rfl⟩
theorem N6r.snoc {F:Nat→Prop} {w:World} {t:R6} {cs:List Value}:∀ {l:List R6} {css:List (List Value)},N6r F w l css→N6 F w t cs→N6r F w (l++[t]) (css++[cs])
 |[],css,h,ht=>by
  rw [N6r] at h;subst h;show N6r F w [t] [cs];rw [N6r];exact ⟨cs,[],rfl,ht,by rw [N6r]⟩
 |u::r,css,h,ht=>by
  rw [N6r] at h;obtain ⟨cu,rest,rfl,h2,h3⟩:=h;show N6r F w (u::(r++[t])) (cu::(rest++[cs]));rw [N6r];exact ⟨cu,rest++[cs],rfl,h2,N6r.snoc h3 ht⟩
theorem N6r.row {F:Nat→Prop} {w:World}:∀ {l:List R6} {css:List (List Value)},N6r F w l css→∀ k,k<l.length→∀ j v,(css.getD k [])[j]?=some v→(List.flatten css)[k*11+j]?=some v
 |[],css,h,k,hk=>by simp at hk
 |t::r,css,h,k,hk=>by
  rw [N6r] at h;obtain ⟨cs,rest,rfl,h2,h3⟩:=h;intro j v hv;have hlen:=h2.len;rw [List.flatten_cons]
  cases k with
  |zero=>
   rw [Em4 (by have:=(Em0.1 hv).1;simp at this;omega)]
   simpa using hv
  |succ k=>
   rw [Em2 (by omega),show (k+1)*11+j - cs.length=k*11+j by omega];exact N6r.row h3 k (by simpa using hk) j v (by simpa using hv)
theorem N6r.one {F:Nat→Prop} {w:World} {l:List R6} {css:List (List Value)} (h:N6r F w l css) (hl:l.length=1):∃ n cs,l=[n]∧css=[cs]∧N6 F w n cs:=by
 match l,hl with
 |[n],_=>
  rw [N6r] at h;obtain ⟨cs,rest,rfl,h2,h3⟩:=h;rw [N6r] at h3;subst h3;exact ⟨n,cs,rfl,rfl,h2⟩
theorem N6.ends {F:Nat→Prop} {w:World} {t:R6} {cs:List Value} (h:N6 F w t cs):cs[9]?=some (.int .i64 t.frm)∧cs[10]?=some (.int .i64 t.till):=by
 obtain ⟨a0,a1,a2,a3,a4,a5,a6,a7,a8,rfl⟩:=h.cells;exact ⟨rfl,rfl⟩
theorem N6.one1 {F:Nat→Prop} {w:World} {t:R6} {cs:List Value} (h:N6 F w t cs):cs.all Value.oneCell'=true:=by
 cases t with
 |node k s mn mx lz l fr tl=>
  rw [N6] at h;obtain ⟨A,c,css,rfl,_⟩:=h
  rfl
theorem Dy4 {F:Nat→Prop} {w:World} {A:Option Addr} {c:Nat} {l:List R6} {css:List (List Value)} (k:Int) (s:Nat) (mn mx:Int) (lz:Bool) (x y:Int) (hr:Rd F w 11 A l.length (List.flatten css)) (hI:N6r F w l css):N6 F w (.node k s mn mx lz l x y) (n6C k s mn mx lz A l.length c x y):=by
 rw [N6];exact ⟨A,c,css,rfl,hr,hI⟩
theorem Cu3 {F:Nat→Prop} {w:World} (k:Int) (s:Nat) (a b:Int):N6 F w (.node k s 0 0 false [] a b) (n6C k s 0 0 false none 0 0 a b):=by
 rw [N6];exact ⟨none,0,[],rfl,Rd.nil _ _ _ _,by rw [N6r]⟩
theorem n6_one {F F':Nat→Prop} {w:World} {b:Nat} {n:R6} {cs:List Value} (k:Int) (s:Nat) (mn mx:Int) (lz:Bool) (x y:Int) (hB:Blk w b cs 140) (hF:F b) (hn:N6 F' w n cs) (hm:∀ z,F' z→z<w.heap.size→F z):N6 F w (.node k s mn mx lz [n] x y) (n6C k s mn mx lz (some ⟨b,0,none⟩) 1 1 x y):=by
 have hlen:=hn.len;rw [N6];refine ⟨some ⟨b,0,none⟩,1,[cs],rfl,by simpa using hB.rd (sz:=11) (m:=1) (by simp [hlen]) hF,?_⟩;rw [N6r];exact ⟨cs,[],rfl,hn.mono hm,by rw [N6r]⟩
theorem rcat_c (l:List RTk) (A:Option Addr) (c:Nat) (size:Int) (f:Nat) (hl:l.length≤100000) (hA:RAltC l A c size f):RCatC l A c size (f+1):=by
 intro dd aa D x y F w hS hR hN hf hF hr;have hC:=A8 [] w;have hyl:=hR.len;have hxy:=hR.le;have hP:As5 l size (f+1) false x y=catE l size x (As3 l (fun i k=>As5 l size f true i k) y (y+1 - x) x []):=rfl;rw [hP];generalize hr0:As3 l (fun i k=>As5 l size f true i k) y (y+1 - x) x []=r;refine D4 Tryz.func146 J J (Qd (B5 J (B9 Aj6 J) ?_));intro b1 w1 hb1 hs1 hx1 hB1;have hC:=hC.s0 hx1;have hr:=hr.u hx1
 refine Qc (Qd (Zc 1 J (Qa (Qd (Zc 2 J (B2 (D9 (σ:=Nat × Nat × List R6 × List (List Value) × Option Addr × Nat) (fun (g,i,o,css,A',c')=>[(0,.slice A l.length c),(1,.int .i64 (x:Nat)),(2,.int .i64 (y:Nat)),(3,.int .i64 size),(8,.pointer (some ⟨b1,0,none⟩)),(9,.slice A' o.length c'),(10,.int .i64 (i:Nat))]) (fun (g,i,o,css,A',c') wr=>Chg [] w wr∧Rd F wr 10 A l.length (V2 l)∧Blk wr b1 [.int .i64 0,.int .u64 0,.int .u64 0,.int .u64 0,.int .u64 0,.int .i64 0,.int .i64 0,.bool false,.slice none 0 0,.int .i64 0,.int .i64 0] 140∧Own wr (b1+1) 140 11 A' o.length c' (List.flatten css)∧N6r (FR (b1+1) wr.heap.size (E6 A')) wr o css∧As3 l (fun i k=>As5 l size f true i k) y g i o=r∧AtI l dd aa D x y i∧o.length≤i∧y<i+g) (fun (g,i,o,css,A',c') wr=>g) (y+1 - x,x,[],[],none,0) (sb J) ?_ ?_)))))))
 ·exact ⟨hC,hr,hB1,Own.nil _ _ _ _,by rw [N6r],hr0,⟨Ek7 _,hxy,hR.dx,.inl hR.ax⟩,Ek5 _,by omega⟩
 rintro ⟨g,i,o,css,A',c'⟩ w9 ⟨hC,hr,hB1,hO,hI,hcl,hat,hol,hfu⟩;have hOb:=hO.blk
 try have hlB1:=hB1.lt
 refine Qa (Qd (Zc 3 J (A4 J (fun h1=>?_) (fun h1=>?_))))
 ·try simp at h1
  have hin:i<y:=by omega
  have hil:i<l.length:=by omega
  have hkd:=hat.kind hS hR hN hin;obtain ⟨g,rfl⟩:∃ q,g=q+1:=⟨g - 1,by omega⟩;rw [As3,Ej7 hin] at hcl;obtain ⟨gA,off,rfl,hFg,hlt,hcell⟩:=hr.at_ (by omega);refine A7 (B2 (Qd (Z 2 J (C9 J (C2 Al1 J J (by omega) (by omega)) (C9 J (E7 (vs:=Au5 (l.getD i default)) K4 J (F4 _) (fun j v hj=>by rw [El8];exact hcell (i*10+j) v (by have hj4:j<10:=(Em0.1 hj).1;rw [O1 l i j hil hj4];exact hj)) J) ?_)))));have hkt:rkd l i=(l.getD i default).kind:=rfl;generalize htk:l.getD i default=t at*;refine B5 J (B9 Cr6 J) ?_;intro b2 w2 hb2 hs2 hx2 hB2;have hr:=hr.u hx2;have hO:=hO.u hx2;have hI:=hI.u hx2;refine Pe V7 J ‹_› J J ?_;intro w3 hs3 hx3 hB2;have hr:=hr.q hx3 (by intro b hb hFb;have:=hF _ hFb;simp at hb;omega);have hO:=(by exact hO.q hx3 (by intro x hx;have hx:=Ej9.1 hx;right;intro h;have:=hOb x (by rw [h];exact Ej9.2 J);omega));have hI:=hI.q hx3 (by intro x hx hf;have hx:=Ej9.1 hx;have h1:=hf.1;have h2:=hf.2.1;omega);refine Qc (Qd (Fa Bm2 J (La J0 J ‹_› (by rfl) J ?_)));refine Fa At4 J (Lb o3 J ‹_› (by rfl) ?_);refine Fa Cc6 J (Lb o3 J ‹_› (by rfl) ?_);refine C9 J (B0 Aj6 Cj9 J (by rfl)) ?_;refine B5 J (B9 Aj6 J) ?_;intro b4 w4 hb4 hs4 hx4 hB4;have hr:=hr.u hx4;have hO:=hO.u hx4;have hI:=hI.u hx4;refine Pe Be8 J ‹_› J J ?_;intro w5 hs5 hx5 hB4;have hC:=hC.step (((hx2.j hx3).j hx4).j hx5) (by simp<;>omega);have hr:=hr.q hx5 (by intro b hb hFb;have:=hF _ hFb;simp at hb;omega);have hB1:=hB1.q (((hx2.j hx3).j hx4).j hx5) (by simp<;>omega);have hO:=(by exact hO.q hx5 (by intro x hx;have hx:=Ej9.1 hx;right;intro h;have:=hOb x (by rw [h];exact Ej9.2 J);omega));have hI:=hI.q hx5 (by intro x hx hf;have hx:=Ej9.1 hx;have h1:=hf.1;have h2:=hf.2.1;omega);have hB2:=hB2.q (hx4.j hx5) (by simp<;>omega)
  refine Qc (Qd (Z 1 J (Ad J J (by omega) (Zc 1 J (I0 (fun e9 wr=>∃ n j cs,Sub [(0,.slice (some ⟨gA,off,none⟩) l.length c),(1,.int .i64 (x:Nat)),(2,.int .i64 (y:Nat)),(3,.int .i64 size),(8,.pointer (some ⟨b1,0,none⟩)),(9,.slice A' o.length c'),(10,.int .i64 (j:Nat)),(12,.pointer (some ⟨b4,0,none⟩))] e9∧Chg [] w wr∧Rd F wr 10 (some ⟨gA,off,none⟩) l.length (V2 l)∧Blk wr b1 [.int .i64 0,.int .u64 0,.int .u64 0,.int .u64 0,.int .u64 0,.int .i64 0,.int .i64 0,.bool false,.slice none 0 0,.int .i64 0,.int .i64 0] 140∧Own wr (b1+1) 140 11 A' o.length c' (List.flatten css)∧N6r (FR (b1+1) w9.heap.size (E6 A')) wr o css∧Blk wr b4 cs 140∧N6 (FR (b4+1) wr.heap.size []) wr n cs∧Au6 l (fun i k=>As5 l size f true i k) i=(n,j)∧i<j∧j≤y∧dd j=D∧aa j=true∧b4<wr.heap.size) ?_ ?_)))))
  ·refine Qd (Fa T9 J (Lb o3 J ‹_› (by rfl) ?_))
   refine Zc 1 J (A4 J (fun k0=>?_) (fun k0=>?_))
   ·try simp at k0
    have k0':¬ rkd l i=0:=by rw [hkt];exact k0
    have hlo:=hat.lo
    have hk12:rkd l i=1∨rkd l i=2:=by
     rcases hkd with h|h
     ·exact absurd h.1 k0'
     ·exact h
    obtain ⟨k,hk1,hk2,hk3,hk4,hk5,hkr⟩:=hR.group hS hat.lo hin hat.di hk12;have hkl:=hkr.le;refine Qd (Z 2 J (Ca fb173 J (rclose_c l F _ c (i+1) (by omega) hl _ (fun z hz=>by have:=hF z hz;omega) ‹_›) ?_));rintro _ w6 ⟨rfl,hx6⟩;have hz6:=hx6.size;rw [hk1];refine Zc 1 J (Qa (C7 (S:=[]) 16 [(0,0),(0,1),(0,2),(0,3),(0,4),(0,5),(0,6),(0,9),(0,10),(0,11),(0,12),(0,13),(0,14),(0,15),(1,7),(1,8),(2,16),(2,17)] mo (by kernel_rfl) ?_));intro w7 hx7 hh7;have hr:=hr.u (hx6.s0 hx7);have hB2:=hB2.u (hx6.s0 hx7);have hCS7:=A8 ([]) w7;obtain ⟨_,_,hE2,_,_,hcell2⟩:=hr.at_ (by omega)
    cases hE2
    have hc2:=hcell2 (k*10+2) _ ((O1 l k 2 (by omega) (by omega)).trans J);refine Fa T9 J (D5 J (B3 o3 J ‹_› (by simp;done) (by rfl)) ?_);refine Ad J J (by omega) (Z 4 J (Fa At4 J (D5 J (B3 o3 J ‹_› (by simp;done) (by rfl)) ?_)));refine Z 2 J (D5 J (C2 Al1 J J (by omega) (by omega)) (Fa Cc6 J (D5 J (D7 o3 J hc2 (by simp;done)) ?_)));refine C5 J (C3 fb120 J) (hA dd aa (D+1) (i+1) k F _ hS hkr (by omega) (fun z hz=>by have:=hF z hz;omega) ‹_›) ?_;rintro _ w8 ⟨hx8,cs1,rfl,hn1⟩;have hz8:=hx8.size;have hCS7:=hCS7.s0 hx8;refine ⟨hCS7,?_⟩;obtain ⟨a0,a1,a2,a3,a4,a5,a6,a7,a8,rfl⟩:=hn1.cells;refine E2 J (B6 Av2 Tryz.underlying138 Aj6 J J J (by rfl)) ?_;intro b9 w9 hb9 hs9 hx9 hB9;have hr:=hr.u (hx8.s0 hx9);have hO:=hO.u (((hx6.s0 hx7).s0 hx8).s0 hx9);have hI:=hI.u (((hx6.s0 hx7).s0 hx8).s0 hx9);have hB4:=hB4.u (((hx6.s0 hx7).s0 hx8).s0 hx9);have hCS7:=hCS7.s0 hx9;have hn1:=hn1.u hx9;refine ⟨hCS7,?_⟩;refine C9 J (B0 Aj6 Cj9 J (by rfl)) ?_;refine Pe Be8 J ‹_› J J ?_;intro w10 hs10 hx10 hB4;have hC:=hC.step ((((hx6.j hx7).j hx8).j hx9).j hx10) (by simp<;>omega);have hr:=hr.q hx10 (by intro b hb hFb;have:=hF _ hFb;simp at hb;omega);have hB1:=hB1.q ((((hx6.j hx7).j hx8).j hx9).j hx10) (by simp<;>omega);have hO:=(by exact hO.q hx10 (by intro x hx;have hx:=Ej9.1 hx;right;intro h;have:=hOb x (by rw [h];exact Ej9.2 J);omega));have hI:=hI.q hx10 (by intro x hx hf;have hx:=Ej9.1 hx;have h1:=hf.1;have h2:=hf.2.1;omega);have hn1:=hn1.q hx10 (by intro x hx hf;have hx:=Ej9.1 hx;have h1:=hf.1;have h2:=hf.2.1;omega);have hB9:=hB9.q hx10 (by simp;omega);refine Qc (Qb (Z 1 J (Ad J J (by omega) (Zc 1 J ⟨(.node (1+rkd l i) 0 0 0 false [As5 l size f true (i+1) k] t.frm (l.getD k default).till),(k+1),(n6C (1+rkd l i) 0 0 0 false (some ⟨b9,0,none⟩) 1 1 t.frm (l.getD k default).till),sb J,?_⟩))));refine ⟨hC,hr,hB1,hO,hI,by unfold n6C;rw [C6,hkt];exact hB4,n6_one _ _ _ _ _ _ _ hB9 ⟨by omega,by have:=hB9.lt;omega,by simp⟩ hn1 (fun z hz hzl=>⟨by have:=hz.1;omega,hzl,by simp⟩),?_,by omega,by omega,hk4,hk5,hB4.lt⟩;unfold Au6;rw [Ej6 k0',hk1,htk]
    rfl
   ·try simp at k0
    refine A7 ⟨(.node 1 t.set 0 0 false [] t.frm t.till),(i+1),(n6C 1 t.set 0 0 false none 0 0 t.frm t.till),sb J,?_⟩;have k0':rkd l i=0:=by rw [hkt];exact k0
    rcases hkd with hk1|hk1;refine ⟨hC,hr,hB1,hO,hI,hB4,Cu3 _ _ _ _,?_,by omega,by omega,hk1.2.1,hk1.2.2,hB4.lt⟩;unfold Au6;rw [Ej7 k0',htk];exfalso;omega
  rintro e9 w20 ⟨n,j,cs,hs9,hC,hr,hB1,hO,hI,hB4,hn,hkk,hij,hjy,hdj,haj,hb4l⟩;refine H9 _ hs9 ?_;clear hs9 e9;rw [hkk] at hcl
  refine I0 (fun e9 wr=>∃ m j2 cs2,Sub [(0,.slice (some ⟨gA,off,none⟩) l.length c),(1,.int .i64 (x:Nat)),(2,.int .i64 (y:Nat)),(3,.int .i64 size),(8,.pointer (some ⟨b1,0,none⟩)),(9,.slice A' o.length c'),(10,.int .i64 (j2:Nat)),(12,.pointer (some ⟨b4,0,none⟩))] e9∧Chg [] w wr∧Rd F wr 10 (some ⟨gA,off,none⟩) l.length (V2 l)∧Blk wr b1 [.int .i64 0,.int .u64 0,.int .u64 0,.int .u64 0,.int .u64 0,.int .i64 0,.int .i64 0,.bool false,.slice none 0 0,.int .i64 0,.int .i64 0] 140∧Own wr (b1+1) 140 11 A' o.length c' (List.flatten css)∧N6r (FR (b1+1) w9.heap.size (E6 A')) wr o css∧Blk wr b4 cs2 140∧N6 (FR (b4+1) wr.heap.size []) wr m cs2∧Ak7 l y (n,j)=(m,j2)∧i<j2∧AtI l dd aa D x y j2∧b4<wr.heap.size) ?_ ?_
  ·refine Qd (Z 4 J (C0 (d:=60) J (fun g1=>?_) (fun g1=>?_)))
   ·try simp at g1
    have hjl:j<l.length:=by omega
    obtain ⟨_,_,hE3,_,_,hcell3⟩:=hr.at_ (by omega)
    cases hE3
    have hc3:=hcell3 (j*10+0) _ ((O1 l j 0 hjl (by omega)).trans J);refine Qu J (Z 1 J (Qu J (Z 1 J (Qu J (C9 J (C2 Al1 J J (by omega) (by omega)) (Qu J (Fa T9 J (Qu J (Lc o3 J hc3 ?_)))))))));have hkj:rkd l j=(l.getD j default).kind:=rfl;generalize htj:l.getD j default=q at*
    refine Qu J (Zc 2 J (A4 J (fun q5=>?_) (fun q5=>?_)))
    ·try simp at q5
     have q5':rkd l j=5:=by rw [hkj];exact q5
     obtain ⟨a0,a1,a2,a3,a4,a5,a6,a7,a8,rfl⟩:=hn.cells;refine Qa (C7 (S:=[]) 24 [(0,0),(0,1),(0,2),(0,3),(0,4),(0,5),(0,6),(0,7),(0,8),(0,9),(0,10),(0,11),(0,12),(0,13),(0,14),(0,15),(0,17),(0,18),(0,19),(0,20),(0,21),(0,22),(0,23),(1,16),(2,24),(2,25)] mo (by kernel_rfl) ?_);intro w11 hx11 hh11;have hr:=hr.u hx11;have hB4:=hB4.u hx11;have hCS11:=A8 ([]) w11;obtain ⟨_,_,hE4,_,_,hcell4⟩:=hr.at_ (by omega)
     cases hE4
     have hq7:=hcell4 (j*10+7) _ ((O1 l j 7 hjl (by omega)).trans J);have hq8:=hcell4 (j*10+8) _ ((O1 l j 8 hjl (by omega)).trans J);have hq9:=hcell4 (j*10+9) _ ((O1 l j 9 hjl (by omega)).trans J);have hq2:=hcell4 (j*10+2) _ ((O1 l j 2 hjl (by omega)).trans J);rw [htj] at hq7 hq8 hq9 hq2;refine Z 2 J (D5 J (C2 Al1 J J (by omega) (by omega)) (Fa Cw1 J (D5 J (D7 o3 J hq7 (by simp;done)) ?_)));refine Z 2 J (D5 J (C2 Al1 J J (by omega) (by omega)) (Fa Cc5 J (D5 J (D7 o3 J hq8 (by simp;done)) ?_)));refine Z 2 J (D5 J (C2 Al1 J J (by omega) (by omega)) (Fa Ed0 J (D5 J (D7 o4 J hq9 (by simp;done)) ?_)));refine D5 J (C1 Ao5 J ‹_› (by simp;done) J J) ?_;refine Fa Cw8 J (D5 J (B3 o3 J ‹_› (by simp;done) (by rfl)) ?_);refine Z 2 J (D5 J (C2 Al1 J J (by omega) (by omega)) (Fa Cc6 J (D5 J (D7 o3 J hq2 (by simp;done)) ?_)));refine E2 J (B6 Av2 Tryz.underlying138 Aj6 J J J (by rfl)) ?_;intro b12 w12 hb12 hs12 hx12 hB12;have hr:=hr.u hx12;have hO:=hO.u (hx11.s0 hx12);have hI:=hI.u (hx11.s0 hx12);have hB4:=hB4.u hx12;have hn:=hn.u (hx11.s0 hx12);have hCS11:=hCS11.s0 hx12;refine ⟨hCS11,?_⟩;refine C9 J (B0 Aj6 Cj9 J (by rfl)) ?_;refine Pe Be8 J ‹_› J J ?_;intro w13 hs13 hx13 hB4;have hC:=hC.step ((hx11.j hx12).j hx13) (by simp<;>omega);have hr:=hr.q hx13 (by intro b hb hFb;have:=hF _ hFb;simp at hb;omega);have hB1:=hB1.q ((hx11.j hx12).j hx13) (by simp<;>omega);have hO:=(by exact hO.q hx13 (by intro x hx;have hx:=Ej9.1 hx;right;intro h;have:=hOb x (by rw [h];exact Ej9.2 J);omega));have hI:=hI.q hx13 (by intro x hx hf;have hx:=Ej9.1 hx;have h1:=hf.1;have h2:=hf.2.1;omega);have hn:=hn.q hx13 (by intro x hx hf;have hx:=Ej9.1 hx;have h1:=hf.1;have h2:=hf.2.1;omega);have hB12:=hB12.q hx13 (by simp;omega);refine Qc (Qb (Z 1 J (Ad J J (by omega) (Zc 1 J ⟨(cntN q n),(j+1),(n6C 6 0 q.mn q.mx q.lz (some ⟨b12,0,none⟩) 1 1 n.frm q.till),sb J,?_⟩))));refine ⟨hC,hr,hB1,hO,hI,by unfold n6C;rw [C6];exact hB4,n6_one _ _ _ _ _ _ _ hB12 ⟨by omega,by have:=hB12.lt;omega,by simp⟩ hn (fun z hz hzl=>⟨by have:=hz.1;omega,hzl,by simp⟩),?_,by omega,AtI.more hS hR (by have:=hat.lo;omega) (by omega) hdj q5',hB4.lt⟩;unfold Ak7;rw [Ej7 ⟨by show j<y;omega,q5'⟩,htj]
    ·try simp at q5
     refine A7 ⟨n,j,cs,sb J,?_⟩;refine ⟨hC,hr,hB1,hO,hI,hB4,hn,?_,hij,⟨by have:=hat.lo;omega,hjy,hdj,.inr fun _=>by rw [hkj];exact q5⟩,hB4.lt⟩;unfold Ak7;rw [Ej6 (by intro h;exact q5 (by rw [← hkj];exact h.2))]
   ·try simp at g1
    refine Qk J (Qk J (Qk J (Qk J (Qk J (Qk J (Zc 1 J (E4 J (A7 ⟨n,j,cs,sb J,?_⟩))))))));refine ⟨hC,hr,hB1,hO,hI,hB4,hn,?_,hij,⟨by have:=hat.lo;omega,hjy,hdj,.inr fun h=>by omega⟩,hB4.lt⟩;unfold Ak7;rw [Ej6 (by intro h;have:=h.1;simp at this;omega)]
  rintro e9 w21 ⟨m,j2,cs2,hs9,hC,hr,hB1,hO,hI,hB4,hm,hst,hij2,hat2,hb4l⟩;refine H9 _ hs9 ?_;clear hs9 e9
  try have hlB1:=hB1.lt
  rw [hst] at hcl;have hone:=hm.one1;obtain ⟨a0,a1,a2,a3,a4,a5,a6,a7,a8,rfl⟩:=hm.cells;refine Qb (Z 1 J (La Ao5 J ‹_› J J ?_));refine B5 J (B6 Av2 Tryz.underlying138 Aj6 J J J (by rfl)) ?_;intro b14 w14 hb14 hs14 hx14 hB14;have hC:=hC.s0 hx14;have hr:=hr.u hx14;have hB1:=hB1.u hx14;have hO:=hO.u hx14;have hI:=hI.u hx14;have hm:=hm.u hx14;refine G1 J el138 J J hO (Blk.rd (F:=fun _=>True) ‹_› J trivial) ‹_› (by omega) (by omega) ?_;intro A2' c2' w15 hO15 hx15 hA2';have hC:=hC.step hx15 (by intro x h;have:=hOb x h;exact .inr (by omega));have hr:=hr.q hx15 (by intro x hx hf;have:=hOb x hx;have:=hF x hf;omega);have hB1:=hB1.q hx15 (by intro h;have:=hOb _ h;omega);have hI:=hI.q hx15 (by intro x hx hf;exact hf.2.2 hx);have hm:=hm.q hx15 (by intro x hx hf;have:=hOb x hx;have h1:=hf.1;have h2:=hf.2.1;omega)
  replace hO:=hO15
  refine Zc 1 J ⟨(g,j2,o++[m],css++[[a0,a1,a2,a3,a4,a5,a6,a7,a8,.int .i64 m.frm,.int .i64 m.till]],A2',c2'),⟨rfl,rfl,rfl,rfl,rfl,(Q2 J (by rw [Ek1];rfl)),rfl,trivial⟩,?_,?_⟩;refine ⟨hC,hr,hB1,by rw [Ek1,Es3];exact hO,N6r.snoc (hI.mono fun z hz hzl=>?_) (hm.mono fun z hz hzl=>?_),hcl,hat2,by rw [Ek1];simp;omega,by omega⟩;exact ⟨hz.1,hzl,W8 hA2' hz.2.2 (by have:=hz.2.1;omega)⟩;exact ⟨by have:=hz.1;omega,hzl,W8 hA2' (fun h=>by have:=hOb z h;have:=hz.1;omega) (by have:=hz.2.1;omega)⟩;show g<g+1;omega
 ·try simp at h1
  have hii:i=y:=by have:=hat.hi;omega
  have hro:r=o:=by
   rw [← hcl]
   cases g with
   |zero=>rfl
   |succ g=>rw [As3,Ej6 (by omega)]
  subst hro
  refine Xb (Qa (Qd (Z 1 J (Ln Tryz.underlying138 J (Zc 1 J (A4 J (fun q0=>?_) (fun q0=>?_)))))))
  ·try simp at q0
   have q0':r.length=0:=by simpa using q0
   unfold catE;rw [Ej7 q0'];refine Qd (Z 3 J (Ca fb174 J (rbegin_c l F _ c x size (by omega) hl _ (fun z hz=>by have:=hF z hz;omega) ‹_›) ?_));rintro _ w16 ⟨rfl,hx16⟩;have hB1:=hB1.u hx16;refine Zc 1 J (Qd (Z 2 J (C9 J (B0 Aj6 Cj9 J (by rfl)) ?_)));refine Pe Be8 J ‹_› J J ?_;intro w17 hs17 hx17 hB1;have hC:=hC.step (hx16.j hx17) (by simp<;>omega);refine Qc (A6 (D3 J J (A5 Ao5 ‹_› J J) ?_));refine ⟨hC,n6C 0 0 0 0 false none 0 0 (Bo7 l x size) (Bo7 l x size),by unfold n6C;rw [C6];rfl,Cu3 _ _ _ _⟩
  ·try simp at q0
   have q0':¬ r.length=0:=by simpa using q0
   unfold catE;rw [Ej6 q0']
   refine A7 (Qa (Qd (Z 1 J (Ln Tryz.underlying138 J (Zc 1 J (A4 J (fun q1=>?_) (fun q1=>?_)))))))
   ·try simp at q1
    have q1':r.length=1:=by omega
    obtain ⟨n,cs,rfl,rfl,hn⟩:=hI.one q1';have hone:=hn.one1;obtain ⟨a0,a1,a2,a3,a4,a5,a6,a7,a8,rfl⟩:=hn.cells;obtain ⟨g9,o9,rfl,_,_,hcell9⟩:=(hO.rd (F:=fun _=>True) (fun _ _ _=>trivial)).at_ (by omega);refine Qd (Z 1 J (C9 J (C2 Av2 J J (by omega) (by omega)) (C9 J (E7 (vs:=[a0,a1,a2,a3,a4,a5,a6,a7,a8,.int .i64 n.frm,.int .i64 n.till]) Ao5 J (F4 _) (fun j v hj=>hcell9 j v (by simpa using hj)) J) ?_)));refine Pb (cs':=[a0,a1,a2,a3,a4,a5,a6,a7,a8,.int .i64 n.frm,.int .i64 n.till]) Be8 J J hB1 J J hone J J ?_;intro w18 hs18 hx18 hB1;have hC:=hC.step hx18 (by simp;omega);have hn:=hn.q hx18 (by intro x hx hf;have hx:=Ej9.1 hx;have h1:=hf.1;have h2:=hf.2.1;omega);refine Qc (A6 (D3 J J (A5 Ao5 ‹_› J J) ?_));refine ⟨hC,_,rfl,hn.mono fun z hz hzl=>⟨by have:=hz.1;omega,hzl,by simp⟩⟩
   ·try simp at q1
    have q1':¬ r.length=1:=by omega
    unfold Bq8;rw [Ej6 q1'];refine A7 (Qa (C7 (S:=[]) 12 [(0,0),(0,1),(0,2),(0,3),(0,4),(0,5),(0,6),(0,7),(0,8),(0,9),(0,10),(0,11),(2,12),(2,13)] mo (by kernel_rfl) ?_));intro w19 hx19 hh19;have hB1:=hB1.u hx19;have hO:=hO.u hx19;have hI:=hI.u hx19;have hcell9:=(hO.rd (F:=fun _=>True) (fun _ _ _=>trivial)).at_ (by omega);obtain ⟨g9,o9,rfl,_,_,hcell9⟩:=hcell9;have h9:=hcell9 (0*11+9) _ (hI.row 0 (by omega) 9 _ (hI.get 0 (by omega)).ends.1);have h10:=hcell9 ((r.length - 1)*11+10) _ (hI.row (r.length - 1) (by omega) 10 _ (hI.get (r.length - 1) (by omega)).ends.2);refine Z 2 J (D5 J (C2 Av2 J J (by omega) (by omega)) (Fa Cw8 J (D5 J (D7 o3 J h9 (by simp;done)) ?_)));refine Z 2 J (Ln Tryz.underlying138 J (Su J J (by omega) (D5 J (C2 Av2 J J (by omega) (by omega)) (Fa Ed4 J (D5 J (D7 o3 J (by have e:(((r.length:Nat):Int) - 1).toNat=r.length - 1:=(by omega);rw [e,El8];exact h10) (by simp;done)) ?_)))));refine C9 J (B0 Aj6 Cj9 J (by rfl)) ?_;refine Pe Be8 J ‹_› J J ?_;intro w20 hs20 hx20 hB1;have hC:=hC.step (hx19.j hx20) (by simp<;>omega);have hO:=(by exact hO.q hx20 (by intro x hx;simp at hx;left;omega));have hI:=hI.q hx20 (by intro x hx hf;have hx:=Ej9.1 hx;have h1:=hf.1;have h2:=hf.2.1;omega);refine Qc (A6 (D3 J J (A5 Ao5 ‹_› J J) ?_));refine ⟨hC,n6C 4 0 0 0 false _ r.length c' _ _,by unfold n6C;rw [C6];rfl,Dy4 _ _ _ _ _ _ _ (hO.rd fun z h1 h2=>⟨by omega,h2,by simp⟩) (hI.mono fun z hz hzl=>⟨by have:=hz.1;omega,hzl,by simp⟩)⟩
theorem Shp.low {l:List RTk} {d:Nat→Nat} {a:Nat→Bool} (h:Shp l d a):∀ i,i≤l.length→d i≤i
 |0,_=>by rw [h.d0];exact Ek7 _
 |i+1,hi=>by
  have h1:=Shp.low h i (by omega);rcases h.st i (by omega) with ⟨_,h2,_⟩|⟨_,h2,_⟩|⟨_,h2,_⟩|⟨_,h2,_⟩|⟨_,_,h2,_⟩<;>omega
theorem ralt_c (l:List RTk) (A:Option Addr) (c:Nat) (size:Int) (f:Nat) (hl:l.length≤100000) (hA:RCatC l A c size f):RAltC l A c size (f+1):=by
 intro dd aa D x y F w hS hR hf hF hr;have hC:=A8 [] w;have hyl:=hR.len;have hxy:=hR.le;have hP:As5 l size (f+1) true x y=Bq8 5 (Af8 l (fun i k=>As5 l size f false i k) y (y+2 - x) x x 0 []):=rfl;rw [hP];generalize hr0:Af8 l (fun i k=>As5 l size f false i k) y (y+2 - x) x x 0 []=r;refine D4 Tryz.func120 J J (Qd (B5 J (B9 Aj6 J) ?_));intro b1 w1 hb1 hs1 hx1 hB1;have hC:=hC.s0 hx1;have hr:=hr.u hx1
 refine Qc (Qd (Zc 1 J (Qd (Zc 3 J (Qa (Qd (Zc 2 J (B2 (D9 (σ:=Nat × Nat × Nat × Int × List R6 × List (List Value) × Option Addr × Nat) (fun (g,i,at_,e,o,css,A',c')=>[(0,.slice A l.length c),(1,.int .i64 (x:Nat)),(2,.int .i64 (y:Nat)),(3,.int .i64 size),(8,.pointer (some ⟨b1,0,none⟩)),(9,.slice A' o.length c'),(10,.int .i64 e),(11,.int .i64 (at_:Nat)),(12,.int .i64 (i:Nat))]) (fun (g,i,at_,e,o,css,A',c') wr=>Chg [] w wr∧Rd F wr 10 A l.length (V2 l)∧Blk wr b1 [.int .i64 0,.int .u64 0,.int .u64 0,.int .u64 0,.int .u64 0,.int .i64 0,.int .i64 0,.bool false,.slice none 0 0,.int .i64 0,.int .i64 0] 140∧Own wr (b1+1) 140 11 A' o.length c' (List.flatten css)∧N6r (FR (b1+1) wr.heap.size (E6 A')) wr o css∧Af8 l (fun i k=>As5 l size f false i k) y g i at_ e o=r∧o.length≤i∧y+1<i+g∧i≤y+1∧(i≤y→AtB l dd aa D x y i at_∧e=(dd i:Int) - D)∧(i=y+1→1≤o.length)) (fun (g,i,at_,e,o,css,A',c') wr=>g) (y+2 - x,x,x,0,[],[],none,0) (sb J) ?_ ?_)))))))))
 ·exact ⟨hC,hr,hB1,Own.nil _ _ _ _,by rw [N6r],hr0,Ek5 _,by omega,by omega,fun _=>⟨⟨Ek7 _,Ek7 _,hxy,hR.dx,hR.ax,fun m h1 h2=>by omega⟩,by rw [hR.dx];omega⟩,fun h=>by omega⟩
 rintro ⟨g,i,at_,e,o,css,A',c'⟩ w9 ⟨hC,hr,hB1,hO,hI,hcl,hol,hfu,hiy,hst,hne⟩;have hOb:=hO.blk
 refine Qa (Qd (Zc 3 J (A4 J (fun h1=>?_) (fun h1=>?_))))
 ·try simp at h1
  have hin:i≤y:=by omega
  obtain ⟨hat,he⟩:=hst hin;have hdlow:=Shp.low hS i (by omega);have hdlowD:=Shp.low hS x (by omega);rw [hR.dx] at hdlowD;obtain ⟨g,rfl⟩:∃ q,g=q+1:=⟨g - 1,by omega⟩;rw [Af8,Ej7 hin] at hcl
  have hcells:i<l.length→∃ gA off,A=some ⟨gA,off,none⟩∧w9.cell? ⟨gA,off+(i*10+0),none⟩=some (.int .i64 (rkd l i)):=fun hil=>by
   obtain ⟨gA,off,hAe,hFg,hlt,hcell⟩:=hr.at_ (by omega);exact ⟨gA,off,hAe,hcell (i*10+0) _ ((O1 l i 0 hil (by omega)).trans J)⟩
  refine A7 (Qa (B2 (I0 (fun e9 wr=>Sub [(0,.slice A l.length c),(1,.int .i64 (x:Nat)),(2,.int .i64 (y:Nat)),(3,.int .i64 size),(8,.pointer (some ⟨b1,0,none⟩)),(9,.slice A' o.length c'),(10,.int .i64 (dpR l i y e)),(11,.int .i64 (at_:Nat)),(12,.int .i64 (i:Nat))] e9∧Chg [] w wr∧Rd F wr 10 A l.length (V2 l)∧Blk wr b1 [.int .i64 0,.int .u64 0,.int .u64 0,.int .u64 0,.int .u64 0,.int .i64 0,.int .i64 0,.bool false,.slice none 0 0,.int .i64 0,.int .i64 0] 140∧Own wr (b1+1) 140 11 A' o.length c' (List.flatten css)∧N6r (FR (b1+1) wr.heap.size (E6 A')) wr o css) ?_ ?_)))
  ·refine Qd (Zc 3 J (A4 J (fun h2=>?_) (fun h2=>?_)))
   ·try simp at h2
    obtain ⟨gA,off,rfl,hc0⟩:=hcells (by omega)
    refine Qa (Qd (Z 2 J (C9 J (C2 Al1 J J (by omega) (by omega)) (Fa T9 J (Lc o3 J hc0 (Z 2 J (C0 (d:=29) J (fun k1=>?_) (fun k1=>?_))))))))
    ·try simp at k1
     have hdp:dpR l i y e=e+1:=by unfold dpR;rw [Ej7 (by omega),Ej7 (.inl k1)]
     refine Qk J (Qk J (Qk J (Qk J (Qk J (Qk J (Zc 1 J (E3 J (Qb (Z 1 J (Ad J J (by omega) (Zc 1 J (Qd (Z 2 J (C9 J (C2 Al1 J J (by omega) (by omega)) (Fa T9 J (Lc o3 J hc0 (Zc 1 J (A4 J (fun k3=>?_) (fun k3=>?_)))))))))))))))))))
     ·try simp at k3
      exfalso;omega
     ·try simp at k3
      refine A7 ⟨⟨rfl,rfl,rfl,rfl,rfl,rfl,(G3 J hdp.symm),rfl,rfl,trivial⟩,?_⟩;exact ⟨hC,hr,hB1,hO,hI⟩
    ·try simp at k1
     refine Qu J (Z 1 J (Qu J (Z 1 J (Qu J (C9 J (C2 Al1 J J (by omega) (by omega)) (Qu J (Fa T9 J (Qu J (Lc o3 J hc0 (Qu J (Zc 2 J (A4 J (fun k2=>?_) (fun k2=>?_)))))))))))))
     ·try simp at k2
      have hdp:dpR l i y e=e+1:=by unfold dpR;rw [Ej7 (by omega),Ej7 (.inr k2)]
      refine Qb (Z 1 J (Ad J J (by omega) (Zc 1 J (Qd (Z 2 J (C9 J (C2 Al1 J J (by omega) (by omega)) (Fa T9 J (Lc o3 J hc0 (Zc 1 J (A4 J (fun k3=>?_) (fun k3=>?_)))))))))))
      ·try simp at k3
       exfalso;omega
      ·try simp at k3
       refine A7 ⟨⟨rfl,rfl,rfl,rfl,rfl,rfl,(G3 J hdp.symm),rfl,rfl,trivial⟩,?_⟩;exact ⟨hC,hr,hB1,hO,hI⟩
     ·try simp at k2
      refine A7 (Qd (Z 2 J (C9 J (C2 Al1 J J (by omega) (by omega)) (Fa T9 J (Lc o3 J hc0 (Zc 1 J (A4 J (fun k3=>?_) (fun k3=>?_))))))))
      ·try simp at k3
       have hdp:dpR l i y e=e - 1:=by unfold dpR;rw [Ej7 (by omega),Ej6 (Et7.2 ⟨k1,k2⟩),Ej7 k3]
       refine Qb (Z 1 J (Su J J (by omega) (Zc 1 J ⟨⟨rfl,rfl,rfl,rfl,rfl,rfl,(G3 J hdp.symm),rfl,rfl,trivial⟩,?_⟩)));exact ⟨hC,hr,hB1,hO,hI⟩
      ·try simp at k3
       have hdp:dpR l i y e=e:=by unfold dpR;rw [Ej7 (by omega),Ej6 (Et7.2 ⟨k1,k2⟩),Ej6 k3]
       refine A7 ⟨⟨rfl,rfl,rfl,rfl,rfl,rfl,(G3 J hdp.symm),rfl,rfl,trivial⟩,?_⟩;exact ⟨hC,hr,hB1,hO,hI⟩
   ·try simp at h2
    have hdp:dpR l i y e=e:=by unfold dpR;rw [Ej6 (by omega)]
    refine A7 ⟨⟨rfl,rfl,rfl,rfl,rfl,rfl,(G3 J hdp.symm),rfl,rfl,trivial⟩,?_⟩;exact ⟨hC,hr,hB1,hO,hI⟩
  rintro e9 w20 ⟨hs9,hC,hr,hB1,hO,hI⟩;refine H9 _ hs9 ?_;clear hs9 e9;have hOb:=hO.blk
  try have hlB1:=hB1.lt
  refine Qd (Z 4 J (C0 (d:=50) J (fun q1=>?_) (fun q1=>?_)))
  ·try simp at q1
   have q1':i=y:=by omega
   rw [Ej7 (.inl q1')] at hcl;refine Qk J (Qk J (Qk J (Qk J (Qk J (Qk J (Qk J (H1 J J J J (fun h=>by cases h) ?_)))))));refine H1 J J J J (fun h=>by cases h) ?_;refine Qk J (Zc 1 J (E3 J (Qd (Z 5 J (Ca fb146 J (hA dd aa D at_ i F _ hS (hat.rng hR (by rw [q1'];exact hR.dy)) hat.nb (by have:=hat.lo;omega) (fun z hz=>by have:=hF z hz;omega) ‹_›) ?_)))));rintro _ w2 ⟨hx2,cs1,rfl,hm⟩;have hz2:=hx2.size;have hone:=hm.one1;generalize As5 l size f false at_ i=m at*;obtain ⟨a0,a1,a2,a3,a4,a5,a6,a7,a8,rfl⟩:=hm.cells;refine B5 J (B6 Av2 Tryz.underlying138 Aj6 J J J (by rfl)) ?_;intro b3 w3 hb3 hs3 hx3 hB3;have hC:=hC.s0 (hx2.s0 hx3);have hr:=hr.u (hx2.s0 hx3);have hB1:=hB1.u (hx2.s0 hx3);have hO:=hO.u (hx2.s0 hx3);have hI:=hI.u (hx2.s0 hx3);have hm:=hm.u hx3;refine G1 J el138 J J hO (Blk.rd (F:=fun _=>True) ‹_› J trivial) ‹_› (by omega) (by omega) ?_;intro A2' c2' w4 hO4 hx4 hA2';have hC:=hC.step hx4 (by intro x h;have:=hOb x h;exact .inr (by omega));have hr:=hr.q hx4 (by intro x hx hf;have:=hOb x hx;have:=hF x hf;omega);have hB1:=hB1.q hx4 (by intro h;have:=hOb _ h;omega);have hI:=hI.q hx4 (by intro x hx hf;exact hf.2.2 hx);have hm:=hm.q hx4 (by intro x hx hf;have:=hOb x hx;have h1:=hf.1;have h2:=hf.2.1;omega)
   replace hO:=hO4
   refine Zc 1 J (Qb (Z 1 J (Ad J J (by omega) (Zc 1 J (Qb (Z 1 J (Ad J J (by omega) (Zc 1 J ⟨(g,i+1,i+1,dpR l i y e,o++[m],css++[[a0,a1,a2,a3,a4,a5,a6,a7,a8,.int .i64 m.frm,.int .i64 m.till]],A2',c2'),⟨rfl,rfl,rfl,rfl,rfl,(Q2 J (by rw [Ek1];rfl)),rfl,rfl,rfl,trivial⟩,?_,?_⟩))))))));refine ⟨hC,hr,hB1,by rw [Ek1,Es3];exact hO,N6r.snoc (hI.mono fun z hz hzl=>?_) (hm.mono fun z hz hzl=>?_),hcl,by rw [Ek1];simp;omega,by omega,by omega,fun h=>by omega,fun _=>by rw [Ek1];simp⟩;exact ⟨hz.1,hzl,W8 hA2' hz.2.2 (by have:=hz.2.1;omega)⟩;exact ⟨by have:=hz.1;omega,hzl,W8 hA2' (fun h=>by have:=hOb z h;have:=hz.1;omega) (by have:=hz.2.1;omega)⟩;show g<g+1;omega
  ·try simp at q1
   have hcells:i<l.length→∃ gA off,A=some ⟨gA,off,none⟩∧w20.cell? ⟨gA,off+(i*10+0),none⟩=some (.int .i64 (rkd l i)):=fun hil=>by
    obtain ⟨gA,off,hAe,hFg,hlt,hcell⟩:=hr.at_ (by omega);exact ⟨gA,off,hAe,hcell (i*10+0) _ ((O1 l i 0 hil (by omega)).trans J)⟩
   obtain ⟨gA,off,rfl,hc0⟩:=hcells (by omega);have hdeep:=hat.deep hS hR (by omega) he
   refine Qu J (Z 1 J (Qu J (Z 1 J (Qu J (C9 J (C2 Al1 J J (by omega) (by omega)) (Qu J (Fa T9 J (Qu J (Lc o3 J hc0 (Qu J (Z 1 J (Qu J (Z 1 J (C0 (d:=57) J (fun q2=>?_) (fun q2=>?_)))))))))))))))
   ·try simp at q2
    refine Qu J (Z 1 J (Qu J (Z 1 J (Qu J (Zc 2 J (A4 J (fun q3=>?_) (fun q3=>?_)))))))
    ·try simp at q3
     have hdi:dd i=D:=by omega
     rw [Ej7 (.inr ⟨q2,q3⟩)] at hcl;refine Qd (Z 5 J (Ca fb146 J (hA dd aa D at_ i F _ hS (hat.rng hR hdi) hat.nb (by have:=hat.lo;omega) (fun z hz=>by have:=hF z hz;omega) ‹_›) ?_));rintro _ w5 ⟨hx5,cs1,rfl,hm⟩;have hz5:=hx5.size;have hone:=hm.one1;generalize As5 l size f false at_ i=m at*;obtain ⟨a0,a1,a2,a3,a4,a5,a6,a7,a8,rfl⟩:=hm.cells;refine B5 J (B6 Av2 Tryz.underlying138 Aj6 J J J (by rfl)) ?_;intro b6 w6 hb6 hs6 hx6 hB6;have hC:=hC.s0 (hx5.s0 hx6);have hr:=hr.u (hx5.s0 hx6);have hB1:=hB1.u (hx5.s0 hx6);have hO:=hO.u (hx5.s0 hx6);have hI:=hI.u (hx5.s0 hx6);have hm:=hm.u hx6;refine G1 J el138 J J hO (Blk.rd (F:=fun _=>True) ‹_› J trivial) ‹_› (by omega) (by omega) ?_;intro A2' c2' w7 hO7 hx7 hA2';have hC:=hC.step hx7 (by intro x h;have:=hOb x h;exact .inr (by omega));have hr:=hr.q hx7 (by intro x hx hf;have:=hOb x hx;have:=hF x hf;omega);have hB1:=hB1.q hx7 (by intro h;have:=hOb _ h;omega);have hI:=hI.q hx7 (by intro x hx hf;exact hf.2.2 hx);have hm:=hm.q hx7 (by intro x hx hf;have:=hOb x hx;have h1:=hf.1;have h2:=hf.2.1;omega)
     replace hO:=hO7
     refine Zc 1 J (Qb (Z 1 J (Ad J J (by omega) (Zc 1 J (Qb (Z 1 J (Ad J J (by omega) (Zc 1 J ⟨(g,i+1,i+1,dpR l i y e,o++[m],css++[[a0,a1,a2,a3,a4,a5,a6,a7,a8,.int .i64 m.frm,.int .i64 m.till]],A2',c2'),⟨rfl,rfl,rfl,rfl,rfl,(Q2 J (by rw [Ek1];rfl)),rfl,rfl,rfl,trivial⟩,?_,?_⟩))))))));refine ⟨hC,hr,hB1,by rw [Ek1,Es3];exact hO,N6r.snoc (hI.mono fun z hz hzl=>?_) (hm.mono fun z hz hzl=>?_),hcl,by rw [Ek1];simp;omega,by omega,by omega,fun h=>⟨hat.cut (by omega) (by have:=(hdeep.2 q2).1;omega) (hdeep.2 q2).2,hdeep.1⟩,fun _=>by rw [Ek1];simp⟩;exact ⟨hz.1,hzl,W8 hA2' hz.2.2 (by have:=hz.2.1;omega)⟩;exact ⟨by have:=hz.1;omega,hzl,W8 hA2' (fun h=>by have:=hOb z h;have:=hz.1;omega) (by have:=hz.2.1;omega)⟩;show g<g+1;omega
    ·try simp at q3
     rw [Ej6 (by intro h;rcases h with h|h;exact q1 (by omega);exact q3 h.2)] at hcl;refine A7 (Qb (Z 1 J (Ad J J (by omega) (Zc 1 J ⟨(g,i+1,at_,dpR l i y e,o,css,A',c'),sb J,?_,?_⟩))));refine ⟨hC,hr,hB1,hO,hI,hcl,by omega,by omega,by omega,fun h=>⟨hat.next (by omega) fun hh=>q3 (by have:=(hdeep.2 q2).1;omega),hdeep.1⟩,fun h=>by omega⟩;show g<g+1;omega
   ·try simp at q2
    rw [Ej6 (by intro h;rcases h with h|h;exact q1 (by omega);exact q2 h.1)] at hcl;refine Qk J (Qk J (Qu J (Zc 2 J (E4 J (A7 (Qb (Z 1 J (Ad J J (by omega) (Zc 1 J ⟨(g,i+1,at_,dpR l i y e,o,css,A',c'),sb J,?_,?_⟩)))))))));refine ⟨hC,hr,hB1,hO,hI,hcl,by omega,by omega,by omega,fun h=>⟨hat.next (by omega) fun hh=>q2 hh.1,hdeep.1⟩,fun h=>by omega⟩;show g<g+1;omega
 ·try simp at h1
  have hii:i=y+1:=by omega
  have hne1:=hne hii
  have hro:r=o:=by
   rw [← hcl]
   cases g with
   |zero=>rfl
   |succ g=>rw [Af8,Ej6 (by omega)]
  subst hro
  refine Xb (Qa (Qd (Z 1 J (Ln Tryz.underlying138 J (Zc 1 J (A4 J (fun q1=>?_) (fun q1=>?_)))))))
  ·try simp at q1
   have q1':r.length=1:=by omega
   obtain ⟨n,cs,rfl,rfl,hn⟩:=hI.one q1';have hone:=hn.one1;obtain ⟨a0,a1,a2,a3,a4,a5,a6,a7,a8,rfl⟩:=hn.cells;obtain ⟨g9,o9,rfl,_,_,hcell9⟩:=(hO.rd (F:=fun _=>True) (fun _ _ _=>trivial)).at_ (by omega);refine Qd (Z 1 J (C9 J (C2 Av2 J J (by omega) (by omega)) (C9 J (E7 (vs:=[a0,a1,a2,a3,a4,a5,a6,a7,a8,.int .i64 n.frm,.int .i64 n.till]) Ao5 J (F4 _) (fun j v hj=>hcell9 j v (by simpa using hj)) J) ?_)));refine Pb (cs':=[a0,a1,a2,a3,a4,a5,a6,a7,a8,.int .i64 n.frm,.int .i64 n.till]) Be8 J J hB1 J J hone J J ?_;intro w8 hs8 hx8 hB1;have hC:=hC.step hx8 (by simp;omega);have hn:=hn.q hx8 (by intro x hx hf;have hx:=Ej9.1 hx;have h1:=hf.1;have h2:=hf.2.1;omega);refine Qc (A6 (D3 J J (A5 Ao5 ‹_› J J) ?_));refine ⟨hC,_,rfl,hn.mono fun z hz hzl=>⟨by have:=hz.1;omega,hzl,by simp⟩⟩
  ·try simp at q1
   have q1':¬ r.length=1:=by omega
   unfold Bq8;rw [Ej6 q1'];refine A7 (Qa (C7 (S:=[]) 12 [(0,0),(0,1),(0,2),(0,3),(0,4),(0,5),(0,6),(0,7),(0,8),(0,9),(0,10),(0,11),(2,12),(2,13)] mo (by kernel_rfl) ?_));intro w9 hx9 hh9;have hB1:=hB1.u hx9;have hO:=hO.u hx9;have hI:=hI.u hx9;have hcell9:=(hO.rd (F:=fun _=>True) (fun _ _ _=>trivial)).at_ (by omega);obtain ⟨g9,o9,rfl,_,_,hcell9⟩:=hcell9;have h9:=hcell9 (0*11+9) _ (hI.row 0 (by omega) 9 _ (hI.get 0 (by omega)).ends.1);have h10:=hcell9 ((r.length - 1)*11+10) _ (hI.row (r.length - 1) (by omega) 10 _ (hI.get (r.length - 1) (by omega)).ends.2);refine Z 2 J (D5 J (C2 Av2 J J (by omega) (by omega)) (Fa Cw8 J (D5 J (D7 o3 J h9 (by simp;done)) ?_)));refine Z 2 J (Ln Tryz.underlying138 J (Su J J (by omega) (D5 J (C2 Av2 J J (by omega) (by omega)) (Fa Ed4 J (D5 J (D7 o3 J (by have e:(((r.length:Nat):Int) - 1).toNat=r.length - 1:=(by omega);rw [e,El8];exact h10) (by simp;done)) ?_)))));refine C9 J (B0 Aj6 Cj9 J (by rfl)) ?_;refine Pe Be8 J ‹_› J J ?_;intro w10 hs10 hx10 hB1;have hC:=hC.step (hx9.j hx10) (by simp<;>omega);have hO:=(by exact hO.q hx10 (by intro x hx;simp at hx;left;omega));have hI:=hI.q hx10 (by intro x hx hf;have hx:=Ej9.1 hx;have h1:=hf.1;have h2:=hf.2.1;omega);refine Qc (A6 (D3 J J (A5 Ao5 ‹_› J J) ?_));refine ⟨hC,n6C 5 0 0 0 false _ r.length c' _ _,by unfold n6C;rw [C6];rfl,Dy4 _ _ _ _ _ _ _ (hO.rd fun z h1 h2=>⟨by omega,h2,by simp⟩) (hI.mono fun z hz hzl=>⟨by have:=hz.1;omega,hzl,by simp⟩)⟩
theorem By7 (l:List RTk) (A:Option Addr) (c:Nat) (size:Int) (hl:l.length≤100000):∀ f,RCatC l A c size f∧RAltC l A c size f
 |0=>⟨fun dd aa D x y F w _ _ _ h=>absurd h (by omega),fun dd aa D x y F w _ _ h=>absurd h (by omega)⟩
 |f+1=>⟨rcat_c l A c size f hl (By7 l A c size hl f).2,ralt_c l A c size f hl (By7 l A c size hl f).1⟩
theorem Dy3 (F:Nat→Prop) (w:World):N6 F w default [.int .i64 0,.int .u64 0,.int .u64 0,.int .u64 0,.int .u64 0,.int .i64 0,.int .i64 0,.bool false,.slice none 0 0,.int .i64 0,.int .i64 0]:=by
 have h:=Cu3 (F:=F) (w:=w) 0 0 0 0;unfold n6C at h;rw [C6] at h;exact h
theorem Dv0 (s:ByteArray) (hs:s.size≤1000) (w:World):Calls P 88 #[.string s] w (Ret fun u w'=>Chg [] w w'∧∃ cs,u= .tuple #[.agg cs.toArray,endV (M3 (B7 s)).2]∧N6 (FR w.heap.size w'.heap.size []) w' (M3 (B7 s)).1 cs):=by
 have hC:=A8 [] w;have hsl:=E8 s;have hlt:=V8 s;have hll:=Bs6 (B7 s) hlt;have hkd:=Dv5 (B7 s);have hP:M3 (B7 s)=if (K2 (B7 s)).2.2≠0 then (default,(K2 (B7 s)).2) else if (Bi9 (K2 (B7 s)).1 (B7 s).length).2≠0 then (default,Bi9 (K2 (B7 s)).1 (B7 s).length) else (As5 (K2 (B7 s)).1 (B7 s).length (2*(K2 (B7 s)).1.length+2) true 0 (K2 (B7 s)).1.length,0,0):=rfl
 generalize M3 (B7 s)=r at*;refine D4 Tryz.func88 J J (Qd (B5 J (B9 Aj6 J) ?_));intro b1 w1 hb1 hs1 hx1 hB1;refine B5 J (B9 Be5 J) ?_;intro b2 w2 hb2 hs2 hx2 hB2;refine Qc (Qd (Z 1 J (Ca fb118 J (rscan_c s hs _) ?_)));rintro _ w3 ⟨hx3,A,c,rfl,hr'⟩;have hz3:=hx3.size;have hC:=hC.s0 ((hx1.s0 hx2).s0 hx3);have hB1:=hB1.u (hx2.s0 hx3);have hB2:=hB2.u hx3;have hr:=hr';clear hr';generalize K2 (B7 s)=T at*;rw [hsl] at hP;obtain ⟨T,p,e⟩:=T;simp only [] at hP hll hkd hr
 refine Zc 7 J (Qa (Qd (Zc 2 J (A4 J (fun e1=>?_) (fun e1=>?_)))))
 ·try simp at e1
  rw [Ej7 e1] at hP;subst hP;refine Qd (C9 J (B0 Aj6 Cj9 J (by rfl)) ?_);refine Z 2 J (C9 J (B0 Be5 Cj8 J (by rfl)) ?_);refine Pe Be8 J ‹_› J J ?_;intro w4 hs4 hx4 hB1;have hB2:=hB2.q hx4 (by simp;omega);refine Pe Bh7 J ‹_› J J ?_;intro w5 hs5 hx5 hB2;have hC:=hC.step (hx4.j hx5) (by simp<;>omega);have hB1:=hB1.q hx5 (by simp;omega);refine Qc (A6 (C8 J J (A5 Ao5 ‹_› J J) J (A5 Br2 ‹_› J J) ?_));exact ⟨hC,_,rfl,Dy3 _ _⟩
 ·try simp at e1
  rw [Ej6 (by simpa using e1)] at hP;refine A7 (Qd (Z 2 J (C9 J (F6 Tryz.underlying9 J) (Ca fb119 J (rfirst_c T s.size _ A c (by omega) _ (fun z (hz:FR w2.heap.size w3.heap.size [] z)=>by have:=hz.2.1;omega) ‹_›) ?_))));rintro _ w6 ⟨hx6,rfl⟩;have hz6:=hx6.size;have hsh:=As2 (size:=(s.size:Int)) hkd;generalize Bi9 T (s.size:Nat)=q at*;obtain ⟨q1,q2⟩:=q;refine B5 J (B9 Be5 J) ?_;intro b7 w7 hb7 hs7 hx7 hB7;have hr:=hr.u (hx6.s0 hx7);refine Pe Bh7 J ‹_› J J ?_;intro w8 hs8 hx8 hB7;have hC:=hC.step ((hx6.j hx7).j hx8) (by simp<;>omega);have hB1:=hB1.q ((hx6.j hx7).j hx8) (by simp<;>omega);have hB2:=hB2.q ((hx6.j hx7).j hx8) (by simp<;>omega);have hr:=hr.q hx8 (by intro x hx hf;have hx:=Ej9.1 hx;have h1:=hf.1;have h2:=hf.2.1;omega);refine Qc (Qa (Qd (Fa Cw7 J (Lb o3 J ‹_› (by rfl) ?_))))
  refine Zc 1 J (A4 J (fun e2=>?_) (fun e2=>?_))
  ·try simp at e2
   rw [Ej7 e2] at hP;subst hP;refine Qa (C7 (S:=[b1]) 3 [(0,0),(0,1),(1,2),(2,3)] mo (by kernel_rfl) ?_);intro w9 hx9 hh9;have hB1:=hB1.u hx9;have hB7:=hB7.u hx9;have hCS9:=A8 ([b1]) w9;refine D5 J (B0 Aj6 Cj9 J (by rfl)) ?_;refine D5 J (C1 Br2 J ‹_› (by simp;omega) J J) ?_;refine H7 (G2 Be8 J J ‹_› J J J J J) ?_;intro w10 hs10 hx10 hB1;have hB2:=hB2.q (hx9.j hx10) (by simp<;>omega);have hCS9:=hCS9.step hx10 (by simp;done);refine ⟨hCS9,?_⟩;refine Pe Bh7 J ‹_› J J ?_;intro w11 hs11 hx11 hB2;have hC:=hC.step ((hx9.j hx10).j hx11) (by simp<;>omega);have hB1:=hB1.q hx11 (by simp;omega);refine Qc (A6 (C8 J J (A5 Ao5 ‹_› J J) J (A5 Br2 ‹_› J J) ?_));exact ⟨hC,_,rfl,Dy3 _ _⟩
  ·try simp at e2
   have e2':q2=0:=by simpa using e2
   rw [Ej6 (by simp [e2'])] at hP;subst hP;have hS:=hsh e2';refine A7 (Qd (Z 2 J (Ln Tryz.underlying187 J (Z 1 J (C9 J (F6 Tryz.underlying9 J) (Ca fb120 J ((By7 T A c s.size (by omega) (2*T.length+2)).2 _ _ 0 0 T.length _ _ hS hS.all (by omega) (fun z (hz:FR w2.heap.size w3.heap.size [] z)=>by have:=hz.2.1;omega) ‹_›) ?_))))));rintro _ w12 ⟨hx12,cs,rfl,hn⟩;have hB1:=hB1.u hx12;have hone:=hn.one1;obtain ⟨a0,a1,a2,a3,a4,a5,a6,a7,a8,rfl⟩:=hn.cells;refine C9 J (B0 Be5 Cj8 J (by rfl)) ?_;refine Pb (cs':=[a0,a1,a2,a3,a4,a5,a6,a7,a8,.int .i64 (As5 T (↑s.size) (2*T.length+2) true 0 T.length).frm,.int .i64 (As5 T (↑s.size) (2*T.length+2) true 0 T.length).till]) Be8 J J hB1 J J hone J J ?_;intro w13 hs13 hx13 hB1;have hB2:=hB2.q (hx12.j hx13) (by simp<;>omega);have hn:=hn.q hx13 (by intro x hx hf;have hx:=Ej9.1 hx;have h1:=hf.1;have h2:=hf.2.1;omega);refine Pe Bh7 J ‹_› J J ?_;intro w14 hs14 hx14 hB2;have hC:=hC.step ((hx12.j hx13).j hx14) (by simp<;>omega);have hB1:=hB1.q hx14 (by simp;omega);have hn:=hn.q hx14 (by intro x hx hf;have hx:=Ej9.1 hx;have h1:=hf.1;have h2:=hf.2.1;omega);refine Qc (A6 (C8 J J (A5 Ao5 ‹_› J J) J (A5 Br2 ‹_› J J) ?_));exact ⟨hC,_,rfl,hn.mono fun z hz hzl=>⟨by have:=hz.1;omega,hzl,by simp⟩⟩
def K6 (k mn mx:Int) (n:Nat):Prop:=(k=0∧n=0)∨(k=1∧n=0)∨((k=2∨k=3)∧n=1)∨((k=4∨k=5)∧1≤n∧n≤200000)∨(k=6∧n=1∧0≤mn∧mn≤1000∧ -1≤mx∧mx≤1000)
mutual
def G6:R6→Prop
 | .node k _ mn mx _ l _ _=>K6 k mn mx l.length∧G6s l
def G6s:List R6→Prop
 |[]=>True
 |t::r=>G6 t∧G6s r
end
theorem Ei7 {l:List R6} (h:∀ t∈l,G6 t):G6s l:=by
 induction l with
 |nil=>rw [G6s];trivial
 |cons t r ih=>rw [G6s];exact ⟨h t (El7 ..),ih fun x hx=>h x (Em5 _ hx)⟩
def TokB (l:List RTk):Prop:=∀ i,0≤(l.getD i default).mn∧(l.getD i default).mn≤1000∧ -1≤(l.getD i default).mx∧(l.getD i default).mx≤1000
theorem Cl9 {l:List RTk} {alt:Nat→Nat→R6} {i:Nat} (hk:rkd l i=0∨((rkd l i=1∨rkd l i=2)∧G6 (alt (i+1) (Bc9 l (i+1)).toNat))):G6 (Au6 l alt i).1:=by
 unfold Au6
 rcases hk with h|⟨h,hg⟩
 ·rw [Ej7 h,G6];exact ⟨.inr (.inl ⟨rfl,rfl⟩),by rw [G6s];trivial⟩
 ·rw [Ej6 (by omega),G6];exact ⟨.inr (.inr (.inl ⟨by omega,rfl⟩)),Ei7 fun t ht=>by rw [Ej9] at ht;subst ht;exact hg⟩
theorem Dj7 {l:List RTk} {to:Nat} {x:R6 × Nat} (hB:TokB l) (h:G6 x.1):G6 (Ak7 l to x).1:=by
 unfold Ak7
 split
 ·show G6 (cntN _ _);unfold cntN;rw [G6];obtain ⟨h1,h2,h3,h4⟩:=hB x.2;exact ⟨.inr (.inr (.inr (.inr ⟨rfl,rfl,h1,h2,h3,h4⟩))),Ei7 fun t ht=>by rw [Ej9] at ht;subst ht;exact h⟩
 ·exact h
theorem Bu5 {k:Int} {o:List R6} (hk:k=4∨k=5) (h:∀ t∈o,G6 t) (h1:1≤o.length) (h2:o.length≤200000):G6 (Bq8 k o):=by
 unfold Bq8
 split
 ·match o,h1 with
  |t::r,_=>exact h t (El7 ..)
 ·rw [G6];exact ⟨.inr (.inr (.inr (.inl ⟨hk,h1,h2⟩))),Ei7 h⟩
theorem Bs9 {l:List RTk} {dd:Nat→Nat} {aa:Nat→Bool} {D x y:Nat} {alt:Nat→Nat→R6} (hl:l.length≤100000) (hB:TokB l) (hS:Shp l dd aa) (hR:Rng l dd aa D x y) (hN:Bf5 l dd D x y) (ha:∀ i k,x≤i→k<y→Rng l dd aa (D+1) (i+1) k→G6 (alt (i+1) k)):∀ (f i:Nat) (o:List R6),AtI l dd aa D x y i→(∀ t∈o,G6 t)→o.length≤i→(∀ t∈As3 l alt y f i o,G6 t)∧(As3 l alt y f i o).length≤max i y
 |0,i,o,_,ho,hol=>by rw [As3];exact ⟨ho,by omega⟩
 |f+1,i,o,hat,ho,hol=>by
  rw [As3]
  split
  ·rename_i hin
   have hyl:=hR.len;have hlo:=hat.lo;have hkd:=hat.kind hS hR hN hin
   have hg:G6 (Au6 l alt i).1∧∃ j,(Au6 l alt i).2=j∧i<j∧j≤y∧dd j=D:=by
    rcases hkd with h|h
    ·refine ⟨Cl9 (.inl h.1),i+1,?_,by omega,by omega,h.2.1⟩;unfold Au6;rw [Ej7 h.1]
    ·obtain ⟨k,hk1,hk2,hk3,hk4,hk5,hkr⟩:=hR.group hS hat.lo hin hat.di h;have:=hkr.le
     refine ⟨Cl9 (.inr ⟨h,?_⟩),k+1,?_,by omega,by omega,hk4⟩
     ·rw [hk1];exact ha i k hlo hk2 hkr
     ·unfold Au6;rw [Ej6 (by omega),hk1]
      rfl
   obtain ⟨hg1,j,hj,hij,hjy,hdj⟩:=hg;have hg2:=Dj7 (to:=y) hB hg1
   have hst:AtI l dd aa D x y (Ak7 l y (Au6 l alt i)).2∧i<(Ak7 l y (Au6 l alt i)).2:=by
    unfold Ak7
    split
    ·rename_i h
     rw [hj] at h ⊢;exact ⟨AtI.more hS hR (by omega) h.1 hdj h.2,by show i<j+1;omega⟩
    ·rename_i h
     rw [hj] at h ⊢;exact ⟨⟨by omega,hjy,hdj,.inr fun h1 h2=>h ⟨h1,h2⟩⟩,hij⟩
   have:=Bs9 hl hB hS hR hN ha f _ (o++[(Ak7 l y (Au6 l alt i)).1]) hst.1 (fun t ht=>by
    rcases En3.1 ht with h|h
    ·exact ho t h
    ·rw [Ej9] at h;subst h;exact hg2) (by rw [Ek1];simp;omega)
   refine ⟨this.1,En2 this.2 ?_⟩;have:=hst.1.hi;omega
  ·exact ⟨ho,by omega⟩
theorem Ba4 {l:List RTk} {dd:Nat→Nat} {aa:Nat→Bool} {D x y:Nat} {cat:Nat→Nat→R6} (hS:Shp l dd aa) (hR:Rng l dd aa D x y) (hc:∀ a b,x≤a→b≤y→Rng l dd aa D a b→Bf5 l dd D a b→G6 (cat a b)):∀ (f i at_:Nat) (e:Int) (o:List R6),y+1<i+f→i≤y+1→(i≤y→AtB l dd aa D x y i at_∧e=(dd i:Int) - D)→(i=y+1→1≤o.length)→(∀ t∈o,G6 t)→o.length≤i→(∀ t∈Af8 l cat y f i at_ e o,G6 t)∧1≤(Af8 l cat y f i at_ e o).length∧(Af8 l cat y f i at_ e o).length≤y+1
 |0,i,at_,e,o,hf,hi,_,_,_,_=>by omega
 |f+1,i,at_,e,o,hf,hi,hst,hne,ho,hol=>by
  rw [Af8]
  split
  ·rename_i hin
   obtain ⟨hat,he⟩:=hst hin
   have hmem:∀ u,G6 u→∀ t∈o++[u],G6 t:=fun u hu t ht=>by
    rcases En3.1 ht with h|h
    ·exact ho t h
    ·rw [Ej9] at h;subst h;exact hu
   split
   ·rename_i h
    have hdi:dd i=D:=by
     rcases h with h|h
     ·rw [h];exact hR.dy
     ·by_cases hiy:i=y
      ·rw [hiy];exact hR.dy
      ·have hd:=hat.deep hS hR (by omega) he;have:=(hd.2 h.1).1;have:=hd.1;omega
    refine Ba4 hS hR hc f (i+1) (i+1) _ _ (by omega) (by omega) (fun hi1=>?_) (fun _=>by rw [Ek1];simp) (hmem _ (hc at_ i hat.lo hin (hat.rng hR hdi) hat.nb)) (by rw [Ek1];simp;omega);have hd:=hat.deep hS hR (by omega) he
    rcases h with h|h
    ·omega
    ·exact ⟨hat.cut (by omega) (by have:=(hd.2 h.1).1;omega) (hd.2 h.1).2,hd.1⟩
   ·rename_i h
    have hiy:i≠y:=fun h2=>h (.inl h2)
    have hd:=hat.deep hS hR (by omega) he;refine Ba4 hS hR hc f (i+1) at_ _ o (by omega) (by omega) (fun hi1=>⟨hat.next (by omega) fun hh=>h (.inr ⟨hh.1,by have:=(hd.2 hh.1).1;omega⟩),hd.1⟩) (fun h2=>by omega) ho (by omega)
  ·exact ⟨ho,hne (by omega),by omega⟩
theorem Bj7 {l:List RTk} {dd:Nat→Nat} {aa:Nat→Bool} (size:Int) (hl:l.length≤100000) (hB:TokB l) (hS:Shp l dd aa):∀ (f D x y:Nat),Rng l dd aa D x y→(2*(y - x)+1<f→G6 (As5 l size f true x y))∧(Bf5 l dd D x y→2*(y - x)<f→G6 (As5 l size f false x y))
 |0,D,x,y,hR=>⟨fun h=>by omega,fun _ h=>by omega⟩
 |f+1,D,x,y,hR=>by
  have hyl:=hR.len;have hxy:=hR.le
  refine ⟨fun hf=>?_,fun hN hf=>?_⟩
  ·show G6 (Bq8 5 (Af8 l (fun a b=>As5 l size f false a b) y (y+2 - x) x x 0 []));have:=Ba4 (cat:=fun a b=>As5 l size f false a b) hS hR (fun a b h1 h2 hr hn=>(Bj7 size hl hB hS f D a b hr).2 hn (by omega)) (y+2 - x) x x 0 [] (by omega) (by omega) (fun _=>⟨⟨Ek7 _,Ek7 _,hxy,hR.dx,hR.ax,fun m h1 h2=>by omega⟩,by rw [hR.dx];omega⟩) (fun h=>by omega) (fun t ht=>by cases ht) (Ek5 _);exact Bu5 (.inr J) this.1 this.2.1 (by omega)
  ·show G6 (catE l size x (As3 l (fun a b=>As5 l size f true a b) y (y+1 - x) x []));have:=Bs9 (alt:=fun a b=>As5 l size f true a b) hl hB hS hR hN (fun i k h1 h2 hr=>(Bj7 size hl hB hS f (D+1) (i+1) k hr).1 (by have:=hr.le;omega)) (y+1 - x) x [] ⟨Ek7 _,hxy,hR.dx,.inl hR.ax⟩ (fun t ht=>by cases ht) (Ek5 _);unfold catE
   split
   ·rw [G6];exact ⟨.inl ⟨rfl,rfl⟩,by rw [G6s];trivial⟩
   ·rename_i h
    exact Bu5 (.inl J) this.1 (by omega) (by have:=this.2;omega)
theorem Ae1 (L:List Nat) (t:RTk) (e:Int × Int):(Ce9 L t e).1.mn=t.mn∧(Ce9 L t e).1.mx=t.mx:=by
 unfold Ce9
 split
 ·exact ⟨rfl,rfl⟩
 ·dsimp only
  split<;>exact ⟨rfl,rfl⟩
theorem Bb9 (L:List Nat) (m n:Int) (i:Nat) (h:0≤m∧m≤1000∧ -1≤n∧n≤1000):0≤(L9 L m n i).1∧(L9 L m n i).1≤1000∧ -1≤(L9 L m n i).2.1∧(L9 L m n i).2.1≤1000:=by
 unfold L9
 split
 ·simp
 ·exact h
theorem Cz2 (L:List Nat) (hL:∀ b∈L,b<256) (at_:Nat):0≤(J9 L at_).1∧(J9 L at_).1≤1000∧ -1≤(J9 L at_).2.1∧(J9 L at_).2.1≤1000:=by
 obtain ⟨h1,h2,_⟩:=S7 L hL at_;unfold J9;dsimp only
 split
 ·exact ⟨by simp,by simp,by simp,by simp⟩
 split
 ·split
  ·obtain ⟨h3,h4,_⟩:=S7 L hL ((I8 L at_).2.1.toNat+1)
   split
   ·exact ⟨by simp,by simp,by simp,by simp⟩
   split
   ·exact ⟨by simp,by simp,by simp,by simp⟩
   ·exact Bb9 _ _ _ _ ⟨h1,h2,by omega,h4⟩
  ·exact Bb9 _ _ _ _ ⟨h1,h2,by omega,by omega⟩
 ·exact Bb9 _ _ _ _ ⟨h1,h2,by omega,h2⟩
def TB1 (t:RTk):Prop:=0≤t.mn∧t.mn≤1000∧ -1≤t.mx∧t.mx≤1000
theorem oneR_bnd (L:List Nat) (hL:∀ b∈L,b<256) (i:Nat):TB1 (Cg4 L i).1:=by
 unfold Cg4 TB1;dsimp only
 by_cases h1:L.getD i 0=92
 ·rw [Ej7 h1];simp
 rw [Ej6 h1]
 by_cases h2:L.getD i 0=91
 ·rw [Ej7 h2];simp
 rw [Ej6 h2]
 by_cases h3:L.getD i 0=40
 ·rw [Ej7 h3]
  split<;>simp
 rw [Ej6 h3]
 by_cases h4:L.getD i 0=41
 ·rw [Ej7 h4];simp
 rw [Ej6 h4]
 by_cases h5:L.getD i 0=124
 ·rw [Ej7 h5];simp
 rw [Ej6 h5]
 by_cases h6:L.getD i 0=46
 ·rw [Ej7 h6];simp
 rw [Ej6 h6]
 by_cases h7:L.getD i 0=94∨L.getD i 0=36
 ·rw [Ej7 h7];simp
 rw [Ej6 h7]
 by_cases h8:L.getD i 0=93∨L.getD i 0=125
 ·rw [Ej7 h8];simp
 rw [Ej6 h8]
 by_cases h9:L.getD i 0∉B7 Eg2
 ·rw [Ej7 h9];simp
 rw [Ej6 h9]
 split
 ·rw [(Ae1 _ _ _).1,(Ae1 _ _ _).2];simp
 split
 ·rw [(Ae1 _ _ _).1,(Ae1 _ _ _).2];simp
 split
 ·rw [(Ae1 _ _ _).1,(Ae1 _ _ _).2];exact Cz2 L hL (i+1)
 ·rw [(Ae1 _ _ _).1,(Ae1 _ _ _).2];simp
theorem Bs8 (L:List Nat) (hL:∀ b∈L,b<256):∀ (f i:Nat) (l:List RTk),(∀ t∈l,TB1 t)→∀ t∈(Z1 L f i l).1,TB1 t
 |0,i,l,h=>by rw [Z1];exact h
 |f+1,i,l,h=>by
  rw [Z1]
  split
  ·simp only []
   split
   ·intro t ht;cases ht
   ·refine Bs8 L hL f _ _ fun t ht=>?_
    rcases En3.1 ht with h1|h1
    ·exact h t h1
    ·rw [Ej9] at h1;subst h1;exact oneR_bnd L hL i
  ·exact h
theorem Ct2 (L:List Nat) (hL:∀ b∈L,b<256):TokB (K2 L).1:=fun i=>by
 by_cases hi:i<(K2 L).1.length
 ·rw [Ej8,Ek0 hi];exact Bs8 L hL _ 0 [] (fun t ht=>by cases ht) _ (List.getElem_mem hi)
 ·rw [Ej8,El2 (by omega)];exact ⟨by decide,by decide,by decide,by decide⟩
theorem Al6 (L:List Nat) (hL:∀ b∈L,b<256) (hl:L.length≤1000) (h:(M3 L).2.2=0):G6 (M3 L).1:=by
 have hlen:=Bs6 L hL;unfold M3 at h ⊢
 split at h
 ·rename_i h1;exact absurd h h1
 rename_i h1
 rw [Ej6 h1]
 split at h
 ·rename_i h2;exact absurd h h2
 rename_i h2
 rw [Ej6 h2];have hS:=As2 (Dv5 L) (by simpa using h2);exact (Bj7 _ (by omega) (Ct2 L hL) hS _ 0 0 _ hS.all).1 (by omega)
end Go.Clt
section
namespace Go.Clt
open Go Go.RowKit
mutual
inductive SameS:R6→Syn→Prop
 |node {k s mn mx lz l l' a b a' b'}:SameSs l l'→SameS (.node k s mn mx lz l a b) (.node k s mn mx lz l' a' b')
inductive SameSs:List R6→List Syn→Prop
 |nil:SameSs [] []
 |cons {t u l k}:SameS t u→SameSs l k→SameSs (t::l) (u::k)
end
theorem SameSs.len:∀ {l k},SameSs l k→l.length=k.length
 |_,_,.nil=>rfl
 |_,_,.cons _ h=>by simp [h.len]
theorem SameSs.app:∀ {l k t u},SameSs l k→SameS t u→SameSs (l++[t]) (k++[u])
 |_,_,_,_,.nil,ht=>.cons ht .nil
 |_,_,_,_,.cons a h,ht=>.cons a (h.app ht)
theorem Cm0 {k:Int} {o:List R6} {l:List Syn} (h:SameSs o l) (h1:1≤o.length):SameS (Bq8 k o) (Aw9 k l):=by
 cases h with
 |nil=>exact absurd h1 (by decide)
 |cons a b=>
  cases b with
  |nil=>exact a
  |cons b c=>
   unfold Bq8;rw [Ej6 (by simp)];exact .node (.cons a (.cons b c))
theorem rtok_at {l:List RTk} {T:List Tok} (h:SameL l T):∀ i,i<l.length→SameT (l.getD i default) (T.getD i {}):=by
 induction h with
 |nil=>intro i hi;cases hi
 |cons a _ ih=>
  intro i hi
  cases i with
  |zero=>exact a
  |succ i=>exact ih i (by simpa using hi)
theorem Dl0 {l:List RTk} {T:List Tok} (h:SameL l T) (en:Nat) {p:Pp} (hp:p.next<l.length):SameT (l.getD p.next default) (pkQ T en p):=by
 unfold pkQ;rw [Ej7 (by rw [← h.len];exact hp)];exact rtok_at h _ hp
theorem Eb4 {l:List RTk} {T:List Tok} (h:SameL l T) (en:Nat) {p:Pp} (k:Int):isQ T en p k=true↔p.next<l.length∧rkd l p.next=k:=by
 unfold isQ okQ;simp only [Ek2,El6];rw [← h.len]
 constructor
 ·rintro ⟨a,b⟩;exact ⟨a,(Dl0 h en a).kind.trans b⟩
 ·rintro ⟨a,b⟩;exact ⟨a,(Dl0 h en a).kind.symm.trans b⟩
theorem Eb8 {l:List RTk} {T:List Tok} (h:SameL l T) (en:Nat) {p:Pp} (hp:p.e=0):Ak2 T en p=true↔p.next<l.length∧rkd l p.next≠4∧rkd l p.next≠3:=by
 unfold Ak2 okQ;simp only [Ek2,El6,Bool.not_eq_true',decide_eq_false_iff_not];rw [← h.len]
 constructor
 ·rintro ⟨⟨⟨_,a⟩,b⟩,c⟩;have:=(Dl0 h en a).kind;exact ⟨a,fun x=>b (this.symm.trans x),fun x=>c (this.symm.trans x)⟩
 ·rintro ⟨a,b,c⟩;have:=(Dl0 h en a).kind;exact ⟨⟨⟨hp,a⟩,fun x=>b (this.trans x)⟩,fun x=>c (this.trans x)⟩
theorem catL_bad {T:List Tok} {en f:Nat} {p:Pp} {z:Int} {ls:List Syn} (h:p.e≠0):(catL T en f p z ls).2=p:=by
 cases f with
 |zero=>rw [catL]
 |succ f=>rw [catL,Ej6];exact fun hg=>h (Cb7 hg).1
theorem altL_bad {T:List Tok} {en f:Nat} {p:Pp} {ls:List Syn} (h:p.e≠0):(altL T en f p ls).2=p:=by
 cases f with
 |zero=>rw [altL]
 |succ f=>rw [altL,Ej6];exact fun hg=>h hg.1
def EndC (l:List RTk) (y:Nat):Prop:=y=l.length∨rkd l y=3∨rkd l y=4
def EndA (l:List RTk) (y:Nat):Prop:=y=l.length∨rkd l y=3
def AltS (l:List RTk) (T:List Tok) (en x y:Nat) (t:R6):Prop:=∀ (f:Nat) (p:Pp),p.next=x→p.e=0→5*(l.length - x)+5≤f→(Y2 T en f p).2.e=0→SameS t (Y2 T en f p).1∧(Y2 T en f p).2.next=y
def CatS (l:List RTk) (T:List Tok) (en x y:Nat) (t:R6):Prop:=∀ (f:Nat) (p:Pp),p.next=x→p.e=0→5*(l.length - x)+4≤f→(Ap9 T en f p).2.e=0→SameS t (Ap9 T en f p).1∧(Ap9 T en f p).2.next=y
theorem Dc1 {l:List RTk} {d:Nat→Nat} {a:Nat→Bool} (hS:Shp l d a) {cat:Nat→Nat→R6} {D x y:Nat} (hR:Rng l d a D x y):∀ (h i at_:Nat) (e:Int) (o:List R6),y+1<i+h→AtB l d a D x y i at_→e=(d i:Int) - D→
  ∃ c,i≤c∧c≤y∧Rng l d a D at_ c∧Bf5 l d D at_ c∧((c=y∧Af8 l cat y h i at_ e o=o++[cat at_ c])∨(c<y∧rkd l c=4∧AtB l d a D x y (c+1) (c+1)∧Af8 l cat y h i at_ e o=Af8 l cat y (h - (c+1 - i)) (c+1) (c+1) 0 (o++[cat at_ c])))
 |0,i,at_,e,o,hf,hat,he=>by have:=hat.hi;omega
 |h+1,i,at_,e,o,hf,hat,he=>by
  have hin:=hat.hi;rw [Af8,Ej7 hin]
  by_cases hiy:i=y
  ·rw [Ej7 (.inl hiy)];refine ⟨i,Ek7 _,hin,hat.rng hR (by rw [hiy];exact hR.dy),hat.nb,.inl ⟨hiy,?_⟩⟩
   cases h with
   |zero=>rw [Af8]
   |succ h=>rw [Af8,Ej6 (by omega)]
  ·have hd:=hat.deep hS hR (by omega) he
   by_cases hc:rkd l i=4∧dpR l i y e=0
   ·rw [Ej7 (.inr hc)];have hdi:d i=D:=by have:=(hd.2 hc.1).1;have:=hd.1;omega
    refine ⟨i,Ek7 _,hin,hat.rng hR hdi,hat.nb,.inr ⟨by omega,hc.1,hat.cut (by omega) (by have:=(hd.2 hc.1).1;omega) (hd.2 hc.1).2,?_⟩⟩;rw [hc.2,show h+1 - (i+1 - i)=h by omega]
   ·rw [Ej6 (by rintro (h|h);exact hiy h;exact hc h)];obtain ⟨c,c1,c2,c3,c4,c5⟩:=Dc1 hS hR h (i+1) at_ (dpR l i y e) o (by omega) (hat.next (by omega) fun hh=>hc ⟨hh.1,by have:=(hd.2 hh.1).1;have:=hd.1;omega⟩) hd.1;refine ⟨c,by omega,c2,c3,c4,?_⟩;rw [show h+1 - (c+1 - i)=h - (c+1 - (i+1)) by omega];exact c5
section
variable {l:List RTk} {T:List Tok} {d:Nat→Nat} {a:Nat→Bool} (hL:SameL l T) (hS:Shp l d a) (en:Nat)
include hL hS
theorem kid_same {alt:Nat→Nat→R6} {D x y i:Nat} (hR:Rng l d a D x y) (hN:Bf5 l d D x y) (ha:∀ i k,x≤i→k<y→rkd l k=3→Rng l d a (D+1) (i+1) k→AltS l T en (i+1) k (alt (i+1) k))
  (t:AtI l d a D x y i) (hi:i<y) {f:Nat} {p:Pp} (hp:p.next=i) (he:p.e=0) (hf:5*(l.length - i)+1≤f):
  let m:Syn × Pp:=if (pkQ T en p).kind=0 then (.node 1 (pkQ T en p).set 0 0 false [] (pkQ T en p).src (pkQ T en p).to,p.adv) else if (pkQ T en p).kind=1∨(pkQ T en p).kind=2 then M6 T en f p (pkQ T en p) else (default,p.fail (pkQ T en p).src 4)
  m.2.e=0→SameS (Au6 l alt i).1 m.1∧m.2.next=(Au6 l alt i).2∧(Au6 l alt i).2≤y∧d (Au6 l alt i).2=D∧i<(Au6 l alt i).2:=by
 intro m hm;have hyl:=hR.len;have hil:i<l.length:=by omega
 have hpk:=Dl0 hL en (p:=p) (by omega);rw [hp] at hpk;have hk:rkd l i=(pkQ T en p).kind:=hpk.kind
 rcases t.kind hS hR hN hi with ⟨h1,h2,h3⟩|h1
 ·have e1:m=(.node 1 (pkQ T en p).set 0 0 false [] (pkQ T en p).src (pkQ T en p).to,p.adv):=Ej7 (by omega);have e2:Au6 l alt i=(.node 1 (l.getD i default).set 0 0 false [] (l.getD i default).frm (l.getD i default).till,i+1):=Ej7 h1;rw [e1,e2,hpk.set];exact ⟨.node .nil,by show p.next+1=_;rw [hp],hi,h2,Er2 _⟩
 ·obtain ⟨k,k1,k2,k3,k4,k5,k6⟩:=hR.group hS t.lo hi t.di h1
  have e1:m=M6 T en f p (pkQ T en p):=by
   show (if _ then _ else _)=_;rw [Ej6 (by omega),Ej7 (by omega)]
  have e2:Au6 l alt i=(.node (1+rkd l i) 0 0 0 false [alt (i+1) k] (l.getD i default).frm (l.getD k default).till,k+1):=by
   unfold Au6;rw [Ej6 (by omega),k1];rfl
  rw [e1] at hm ⊢;rw [e2];obtain ⟨f,rfl⟩:∃ f',f=f'+1:=⟨f - 1,by omega⟩;rw [M6] at hm ⊢
  by_cases hd:200≤p.deep
  ·rw [Ej7 hd] at hm;exact absurd hm (Ah5 (by decide))
  rw [Ej6 hd] at hm ⊢;dsimp only at hm ⊢;have hle:=k6.le;have hA:=ha i k t.lo k2 k3 k6 f { next:=p.next+1,deep:=p.deep+1,pl:=p.pl,e:=p.e } (by show p.next+1=_;rw [hp]) he (by omega);generalize Y2 T en f { next:=p.next+1,deep:=p.deep+1,pl:=p.pl,e:=p.e }=c at*
  by_cases hc:c.2.e=0
  ·obtain ⟨s1,s2⟩:=hA hc;rw [Ej6 (by simpa using hc)] at hm ⊢;have hq:isQ T en { next:=c.2.next,deep:=c.2.deep - 1,pl:=c.2.pl,e:=c.2.e } 3=true:=(Eb4 hL en 3).2 ⟨by show c.2.next<_;omega,by show rkd l c.2.next=3;rw [s2];exact k3⟩;rw [Ej6 (by rw [hq];decide)] at hm ⊢;refine ⟨?_,by show c.2.next+1=_;rw [s2],k2,k4,by show i<k+1;omega⟩
   have hkk:(1+rkd l i)=(if (pkQ T en p).kind=2 then 3 else 2):=by
    rw [← hk];rcases h1 with h1|h1<;>rw [h1]<;>rfl
   rw [hkk];exact .node (.cons s1 .nil)
  ·rw [Ej7 (by simpa using hc)] at hm;exact absurd hm hc
theorem Dn4 {alt:Nat→Nat→R6} {D x y i:Nat} (hR:Rng l d a D x y) (hE:EndC l y) (hN:Bf5 l d D x y) (ha:∀ i k,x≤i→k<y→rkd l k=3→Rng l d a (D+1) (i+1) k→AltS l T en (i+1) k (alt (i+1) k))
  (t:AtI l d a D x y i) (hi:i<y) {f:Nat} {p:Pp} (hp:p.next=i) (he:p.e=0) (hf:5*(l.length - i)+2≤f) (hq:(X8 T en f p (pkQ T en p)).2.e=0):
  SameS (Ak7 l y (Au6 l alt i)).1 (X8 T en f p (pkQ T en p)).1∧(X8 T en f p (pkQ T en p)).2.next=(Ak7 l y (Au6 l alt i)).2∧AtI l d a D x y (Ak7 l y (Au6 l alt i)).2∧i<(Ak7 l y (Au6 l alt i)).2:=by
 have hyl:=hR.len;have hlo:=t.lo;obtain ⟨f,rfl⟩:∃ f',f=f'+1:=⟨f - 1,by omega⟩;have hK:=kid_same hL hS en hR hN ha t hi hp he (f:=f) (by omega);rw [X8] at hq ⊢;dsimp only at hK hq ⊢;generalize (if (pkQ T en p).kind=0 then (Syn.node 1 (pkQ T en p).set 0 0 false [] (pkQ T en p).src (pkQ T en p).to,p.adv) else if (pkQ T en p).kind=1∨(pkQ T en p).kind=2 then M6 T en f p (pkQ T en p) else (default,p.fail (pkQ T en p).src 4))=m at*
 by_cases hm:m.2.e=0
 ·obtain ⟨s1,s2,s3,s4,s5⟩:=hK hm;unfold Ak7
  by_cases h5:(Au6 l alt i).2<y∧rkd l (Au6 l alt i).2=5
  ·have h6:isQ T en m.2 5=true:=(Eb4 hL en 5).2 ⟨by omega,by rw [s2];exact h5.2⟩;have hpk:=Dl0 hL en (p:=m.2) (by omega);rw [s2] at hpk;rw [Ej6 (c:=m.2.e≠0∨isQ T en m.2 5=false) (by rw [h6];simp [hm])] at hq ⊢;rw [Ej7 h5];refine ⟨?_,by show m.2.next+1=_;rw [s2],AtI.more hS hR (by omega) h5.1 s4 h5.2,by show i<_+1;omega⟩;show SameS (cntN _ _) _;unfold cntN;rw [hpk.mn,hpk.mx,hpk.lz];exact .node (.cons s1 .nil)
  ·have h6:isQ T en m.2 5=false:=by
    refine Bool.eq_false_iff.2 fun h=>h5 ?_
    obtain ⟨a1,a2⟩:=(Eb4 hL en 5).1 h;rw [s2] at a1 a2;refine ⟨?_,a2⟩
    rcases Er1 (Au6 l alt i).2 y with h|h
    ·exact h
    ·have:(Au6 l alt i).2=y:=by omega
     rw [this] at a1 a2
     rcases hE with h|h|h
     ·omega
     ·omega
     ·omega
   rw [Ej7 (c:=m.2.e≠0∨isQ T en m.2 5=false) (.inr h6)] at hq ⊢;rw [Ej6 h5];exact ⟨s1,s2,⟨by omega,s3,s4,.inr fun h1 h2=>h5 ⟨h1,h2⟩⟩,s5⟩
 ·rw [Ej7 (c:=m.2.e≠0∨isQ T en m.2 5=false) (.inl hm)] at hq;exact absurd hq hm
theorem Cp0 {alt:Nat→Nat→R6} {D x y:Nat} (hR:Rng l d a D x y) (hE:EndC l y) (hN:Bf5 l d D x y) (ha:∀ i k,x≤i→k<y→rkd l k=3→Rng l d a (D+1) (i+1) k→AltS l T en (i+1) k (alt (i+1) k)):
  ∀ (h i:Nat) (o:List R6) (f:Nat) (p:Pp) (z:Int) (ls:List Syn),AtI l d a D x y i→y+1≤h+i→SameSs o ls→p.next=i→p.e=0→5*(l.length - i)+3≤f→(catL T en f p z ls).2.e=0→
   ∃ ls' q,SameSs (As3 l alt y h i o) ls'∧catL T en f p z ls=(W6 q z ls',q)∧q.next=y
 |0,i,o,f,p,z,ls,t,hh,ho,hp,he,hf,hq=>by have:=t.hi;omega
 |h+1,i,o,f,p,z,ls,t,hh,ho,hp,he,hf,hq=>by
  have hyl:=hR.len;have hhi:=t.hi;obtain ⟨f,rfl⟩:∃ f',f=f'+1:=⟨f - 1,by omega⟩;rw [catL] at hq ⊢;rw [As3]
  by_cases hi:i<y
  ·have hg:Ak2 T en p=true:=by
    refine (Eb8 hL en he).2 ⟨by omega,?_⟩;rw [hp]
    rcases t.kind hS hR hN hi with ⟨h1,_⟩|h1
    ·omega
    ·omega
   rw [Ej7 hg] at hq ⊢;rw [Ej7 hi]
   by_cases hm:(X8 T en f p (pkQ T en p)).2.e=0
   ·obtain ⟨s1,s2,s3,s4⟩:=Dn4 hL hS en hR hE hN ha t hi hp he (by omega) hm;exact Cp0 hR hE hN ha h _ _ f _ z _ s3 (by omega) (ho.app s1) s2 hm (by omega) hq
   ·rw [catL_bad hm] at hq;exact absurd hq hm
  ·have hiy:i=y:=by omega
   have hg:¬ Ak2 T en p=true:=fun h=>by
    obtain ⟨h1,h2,h3⟩:=(Eb8 hL en he).1 h;rw [hp,hiy] at h1 h2 h3
    rcases hE with h|h|h
    ·omega
    ·exact h3 h
    ·exact h2 h
   rw [Ej6 hg,Ej6 hi];exact ⟨ls,p,ho,rfl,hp.trans hiy⟩
theorem Cq0 {cat:Nat→Nat→R6} {D x y:Nat} (hR:Rng l d a D x y) (hE:EndA l y) (hc:∀ A B,x≤A→B≤y→Rng l d a D A B→Bf5 l d D A B→EndC l B→CatS l T en A B (cat A B)):
  ∀ (n at_ h:Nat) (o:List R6) (f:Nat) (p:Pp) (ls:List Syn),y<at_+n→y+1<at_+h→AtB l d a D x y at_ at_→SameSs o ls→p.next=at_→p.e=0→5*(l.length - at_)+4≤f→(altL T en f (Ap9 T en f p).2 (ls++[(Ap9 T en f p).1])).2.e=0→
   ∃ ls' q,SameSs (Af8 l cat y h at_ at_ 0 o) ls'∧1≤ls'.length∧altL T en f (Ap9 T en f p).2 (ls++[(Ap9 T en f p).1])=(Aw9 5 ls',q)∧q.next=y
 |0,at_,h,o,f,p,ls,hn,hf,hat,ho,hp,he,hfu,hq=>by have:=hat.hi;omega
 |n+1,at_,h,o,f,p,ls,hn,hf,hat,ho,hp,he,hfu,hq=>by
  have hyl:=hR.len;obtain ⟨c,c1,c2,c3,c4,c5⟩:=Dc1 hS (cat:=cat) hR h at_ at_ 0 o hf hat (by rw [hat.dat];omega)
  by_cases hm:(Ap9 T en f p).2.e=0
  ·have hEc:EndC l c:=by
    rcases c5 with ⟨h1,_⟩|⟨_,h1,_⟩
    ·rw [h1]
     rcases hE with h|h
     ·exact .inl h
     ·exact .inr (.inl h)
    ·exact .inr (.inr h1)
   obtain ⟨s1,s2⟩:=hc at_ c hat.lo c2 c3 c4 hEc f p hp he hfu hm;obtain ⟨f,rfl⟩:∃ f',f=f'+1:=⟨f - 1,by omega⟩;rw [altL] at hq ⊢
   rcases c5 with ⟨h1,h2⟩|⟨h1,h2,h3,h4⟩
   ·have hg:¬ ((Ap9 T en (f+1) p).2.e=0∧isQ T en (Ap9 T en (f+1) p).2 4=true):=fun ⟨_,h⟩=>by
     obtain ⟨a1,a2⟩:=(Eb4 hL en 4).1 h;rw [s2,h1] at a1 a2
     rcases hE with h|h
     ·omega
     ·omega
    rw [Ej6 hg,h2];exact ⟨_,_,ho.app s1,by simp,rfl,s2.trans h1⟩
   ·rw [Ej7 ⟨hm,(Eb4 hL en 4).2 ⟨by omega,by rw [s2];exact h2⟩⟩] at hq ⊢;rw [h4];exact Cq0 hR hE hc n (c+1) _ _ f _ _ (by omega) (by omega) h3 (ho.app s1) (by show _+1=_;rw [s2]) hm (by omega) hq
  ·rw [altL_bad hm] at hq;exact absurd hq hm
theorem Bz6 (size:Int):∀ (g D x y:Nat),Rng l d a D x y→(EndA l y→2*(y - x)+1<g→AltS l T en x y (As5 l size g true x y))∧(EndC l y→Bf5 l d D x y→2*(y - x)<g→CatS l T en x y (As5 l size g false x y))
 |0,D,x,y,hR=>⟨fun _ h=>by omega,fun _ _ h=>by omega⟩
 |g+1,D,x,y,hR=>by
  have hyl:=hR.len;have hxy:=hR.le
  refine ⟨fun hE hg f p hp he hf hq=>?_,fun hE hN hg f p hp he hf hq=>?_⟩
  ·obtain ⟨f,rfl⟩:∃ f',f=f'+1:=⟨f - 1,by omega⟩;rw [Y2] at hq ⊢;obtain ⟨ls,q,h1,h2,h3,h4⟩:=Cq0 hL hS en (cat:=fun a b=>As5 l size g false a b) hR hE (fun A B h1 h2 hr hn he=>(Bz6 size g D A B hr).2 he hn (by omega)) (y+1 - x) x (y+2 - x) [] f p [] (by omega) (by omega) ⟨Ek7 _,Ek7 _,hxy,hR.dx,hR.ax,fun m h1 h2=>by omega⟩ .nil hp he (by omega) hq;rw [Ek4] at h3;rw [h3];exact ⟨Cm0 h1 (by rw [h1.len];exact h2),h4⟩
  ·obtain ⟨f,rfl⟩:∃ f',f=f'+1:=⟨f - 1,by omega⟩;rw [Ap9] at hq ⊢;obtain ⟨ls,q,h1,h3,h4⟩:=Cp0 hL hS en (alt:=fun a b=>As5 l size g true a b) hR hE hN (fun i k h1 h2 h3 hr=>(Bz6 size g (D+1) (i+1) k hr).1 (.inr h3) (by have:=hr.le;omega)) (y+1 - x) x [] f p _ [] ⟨Ek7 _,hxy,hR.dx,.inl hR.ax⟩ (by omega) .nil hp he (by omega) hq;rw [h3] at hq ⊢;refine ⟨?_,h4⟩;show SameS (catE l size x (As3 l (fun a b=>As5 l size g true a b) y (y+1 - x) x [])) (W6 q _ ls);unfold catE W6
   by_cases h0:ls.length=0
   ·rw [Ej7 (h1.len.trans h0),Ej7 (.inr h0)];exact .node .nil
   ·rw [Ej6 (by rw [h1.len];exact h0),Ej6 (by rintro (h|h);exact h hq;exact h0 h)];exact Cm0 h1 (by rw [h1.len];omega)
end
theorem Dl3 (s:ByteArray) (hr:(M3 (B7 s)).2.2=0) (hq:(M5 (B7 s)).2.2=0):SameS (M3 (B7 s)).1 (M5 (B7 s)).1:=by
 unfold M3 at hr ⊢;unfold M5 at hq ⊢;dsimp only at hq ⊢
 by_cases h1:(K2 (B7 s)).2.2=0
 ·rw [Ej6 (c:=(K2 (B7 s)).2.2≠0) (fun h=>h h1)] at hr ⊢
  by_cases h2:(R4 (B7 s)).2.2=0
  ·rw [Ej6 (c:=(R4 (B7 s)).2.2≠0) (fun h=>h h2)] at hq ⊢;have hL:=Du4 s h1 h2
   by_cases h3:(Bi9 (K2 (B7 s)).1 (B7 s).length).2=0
   ·rw [Ej6 (c:=(Bi9 (K2 (B7 s)).1 (B7 s).length).2≠0) (fun h=>h h3)];have hS:=As2 (Dv5 (B7 s)) h3;have hA:=(Bz6 hL hS (B7 s).length (B7 s).length (2*(K2 (B7 s)).1.length+2) 0 0 _ hS.all).1 (.inl J) (by omega) (5*(R4 (B7 s)).1.length+5) ⟨0,0,0,0⟩ rfl rfl (by rw [hL.len];omega);unfold Ck0 at hq ⊢;dsimp only at hq ⊢;generalize Y2 (R4 (B7 s)).1 (B7 s).length (5*(R4 (B7 s)).1.length+5) ⟨0,0,0,0⟩=r at*
    by_cases h4:r.2.e=0
    ·have h5:okQ (R4 (B7 s)).1 r.2=false:=by
      unfold okQ;rw [(hA h4).2,hL.len];exact Ek9 (by omega)
     rw [h5] at hq ⊢;simp only [Er3,if_false] at hq ⊢;rw [Ej6 (by omega)];exact (hA h4).1
    ·exfalso
     revert hq
     by_cases h5:okQ (R4 (B7 s)).1 r.2=true
     ·simp only [Ej7 h5];rw [Ej7 (Ah5 (by decide))];exact fun h=>Ah5 (by decide) h
     ·simp only [Ej6 h5];rw [Ej7 h4];exact h4
   ·rw [Ej7 h3] at hr;exact absurd hr h3
  ·rw [Ej7 h2] at hq;exact absurd hq h2
 ·rw [Ej7 h1] at hr;exact absurd hr h1
end Go.Clt
end
namespace Go.Clt
open Go Go.RowKit Go.Proofs
def S4 (k:Int):List R8→R8
 |[]=>default
 |[a]=>a
 |a::b::r=>Ag2 k a (S4 k (b::r))
def optR (lz:Bool) (x:R8):R8:=if lz then Ag2 3 default x else Ag2 3 x default
def U1 (r:R8) (lz:Bool):Nat→R8
 |0=>optR lz r
 |n+1=>optR lz (Ag2 2 r (U1 r lz n))
def Bh5 (mn mx:Int) (lz:Bool) (l:List R8):List R8:=if mx= -1 then [.node 4 0 lz l] else if mn<mx then [U1 (l.getD 0 default) lz ((mx - mn).toNat - 1)] else []
def Ag6 (k:Int) (s:Nat) (mn mx:Int) (lz:Bool) (l:List R8):R8:=
 if k=0 then default else if k=1 then .node 1 s false [] else if k=2∨k=3 then l.getD 0 default else if k=4 then S4 2 l else if k=5 then S4 3 l
 else S4 2 (List.replicate mn.toNat (l.getD 0 default)++Bh5 mn mx lz l)
mutual
def Ar1:R6→R8
 | .node k s mn mx lz l _ _=>Ag6 k s mn mx lz (S1 l)
def S1:List R6→List R8
 |[]=>[]
 |t::r=>Ar1 t::S1 r
end
mutual
def szR:R6→Nat
 | .node k _ mn mx _ l _ _=>if k<2 then 1 else if k=6 then
   (if mn.toNat+(if mx= -1 then 1 else 0)+(if mn<mx then 1 else 0)=0 then 1 else
    mn.toNat*Bh6 l+(if mx= -1 then Bh6 l+1 else 0)+(if mn<mx then (mx - mn).toNat*(Bh6 l+2)+((mx - mn).toNat - 1) else 0)+(mn.toNat+(if mx= -1 then 1 else 0)+(if mn<mx then 1 else 0) - 1))
   else Bh6 l+(l.length - 1)
def Bh6:List R6→Nat
 |[]=>0
 |t::r=>szR t+Bh6 r
end
mutual
def n8s:R8→Nat
 | .node _ _ _ l=>1+n8l l
def n8l:List R8→Nat
 |[]=>0
 |t::r=>n8s t+n8l r
end
def K8 (k:Int) (n:Nat):Prop:=(k=0∧n=0)∨(k=1∧n=0)∨((k=2∨k=3)∧n=2)∨(k=4∧n=1)
mutual
def G8:R8→Prop
 | .node k _ _ l=>K8 k l.length∧G8s l
def G8s:List R8→Prop
 |[]=>True
 |t::r=>G8 t∧G8s r
end
theorem Ab5:∀ l:List R6,(S1 l).length=l.length
 |[]=>by rw [S1];rfl
 |t::r=>by rw [S1,Em9,Ab5 r,Em9]
theorem Bt7 (a b:List R8):n8l (a++b)=n8l a+n8l b:=by
 induction a with
 |nil=>simp [n8l]
 |cons t r ih=>simp only [Ek3,n8l,ih];omega
theorem Ca1 (n:Nat) (a:R8):n8l (List.replicate n a)=n*n8s a:=by
 induction n with
 |zero=>simp [n8l]
 |succ n ih=>rw [Es2,n8l,ih,Es5];omega
theorem Bz9:n8s default=1:=by
 show n8s (.node 0 0 false [])=1;rw [n8s,n8l]
theorem Ah7 (k:Int) (a b:R8):n8s (Ag2 k a b)=1+n8s a+n8s b:=by
 unfold Ag2;rw [n8s,n8l,n8l,n8l];omega
theorem Cb8:G8 default:=by
 show G8 (.node 0 0 false []);rw [G8,G8s];exact ⟨.inl ⟨rfl,rfl⟩,trivial⟩
theorem An3 {k:Int} {a b:R8} (hk:k=2∨k=3) (ha:G8 a) (hb:G8 b):G8 (Ag2 k a b):=by
 unfold Ag2;rw [G8,G8s,G8s,G8s];exact ⟨.inr (.inr (.inl ⟨hk,rfl⟩)),ha,hb,trivial⟩
theorem Eb9 {lz:Bool} {a:R8} (ha:G8 a):G8 (.node 4 0 lz [a]):=by
 rw [G8,G8s,G8s];exact ⟨.inr (.inr (.inr ⟨rfl,rfl⟩)),ha,trivial⟩
theorem Aw5 (k:Int):∀ l:List R8,n8s (S4 k l)=if l.length=0 then 1 else n8l l+(l.length - 1)
 |[]=>by rw [S4,Bz9];rfl
 |[a]=>by rw [S4,n8l,n8l];simp
 |a::b::r=>by
  have e:n8l (a::b::r)=n8s a+n8l (b::r):=by rw [n8l]
  rw [S4,Ah7,Aw5 k (b::r),e];simp only [Em9];rw [Ej6 (by omega),Ej6 (by omega)];omega
theorem Bg7 {k:Int} (hk:k=2∨k=3):∀ l:List R8,(∀ t∈l,G8 t)→G8 (S4 k l)
 |[],_=>by rw [S4];exact Cb8
 |[a],h=>by rw [S4];exact h a (El7 ..)
 |a::b::r,h=>by
  rw [S4];exact An3 hk (h a (El7 ..)) (Bg7 hk (b::r) fun t ht=>h t (Em5 _ ht))
theorem Dy2 (lz:Bool) (x:R8):n8s (optR lz x)=n8s x+2:=by
 unfold optR
 split<;>rw [Ah7,Bz9]<;>omega
theorem g8_opt {lz:Bool} {x:R8} (h:G8 x):G8 (optR lz x):=by
 unfold optR
 split
 ·exact An3 (.inr J) Cb8 h
 ·exact An3 (.inr J) h Cb8
theorem Bt6 (r:R8) (lz:Bool):∀ n,n8s (U1 r lz n)=(n+1)*(n8s r+2)+n
 |0=>by rw [U1,Dy2];omega
 |n+1=>by
  rw [U1,Dy2,Ah7,Bt6 r lz n,Es5 (n+1)];omega
theorem Cm9 {r:R8} {lz:Bool} (h:G8 r):∀ n,G8 (U1 r lz n)
 |0=>by rw [U1];exact g8_opt h
 |n+1=>by rw [U1];exact g8_opt (An3 (.inl rfl) h (Cm9 h n))
theorem Cm8 {l:List R8} (h:0<l.length):l.getD 0 default∈l:=by
 match l,h with
 |t::r,_=>exact El7 ..
theorem g8_core {k:Int} {s:Nat} {mn mx:Int} {lz:Bool} {l:List R8} (h:K6 k mn mx l.length) (hl:∀ t∈l,G8 t):G8 (Ag6 k s mn mx lz l):=by
 unfold Ag6
 split
 ·exact Cb8
 split
 ·rw [G8,G8s];exact ⟨.inr (.inl ⟨rfl,rfl⟩),trivial⟩
 rename_i h0 h1
 split
 ·rename_i h2
  exact hl _ (Cm8 (by rcases h with h|h|h|h|h<;>omega))
 split
 ·exact Bg7 (.inl J) l hl
 split
 ·exact Bg7 (.inr J) l hl
 rename_i h2 h4 h5
 have hn:l.length=1:=by rcases h with h|h|h|h|h<;>omega
 have h0:=hl _ (Cm8 (by omega));refine Bg7 (.inl J) _ fun t ht=>?_
 rcases En3.1 ht with ht|ht
 ·rw [(List.mem_replicate.1 ht).2];exact h0
 ·unfold Bh5 at ht
  split at ht
  ·rw [Ej9] at ht;subst ht
   match l,hn with
   |[a],_=>exact Eb9 h0
  split at ht
  ·rw [Ej9] at ht;subst ht;exact Cm9 h0 _
  ·cases ht
mutual
theorem Bw1:∀ t:R6,G6 t→G8 (Ar1 t)
 | .node k s mn mx lz l _ _,h=>by
  rw [G6] at h;rw [Ar1];exact g8_core (by rw [Ab5];exact h.1) (Bn8 l h.2)
theorem Bn8:∀ l:List R6,G6s l→∀ t∈S1 l,G8 t
 |[],_,t,ht=>by rw [S1] at ht;cases ht
 |u::r,h,t,ht=>by
  rw [G6s] at h;rw [S1] at ht
  rcases En6.1 ht with rfl|ht
  ·exact Bw1 u h.1
  ·exact Bn8 r h.2 t ht
end
theorem sz_core {k:Int} {s:Nat} {mn mx:Int} {lz:Bool} {l:List R8} (h:K6 k mn mx l.length):n8s (Ag6 k s mn mx lz l)=if k<2 then 1 else if k=6 then
   (if mn.toNat+(if mx= -1 then 1 else 0)+(if mn<mx then 1 else 0)=0 then 1 else
    mn.toNat*n8l l+(if mx= -1 then n8l l+1 else 0)+(if mn<mx then (mx - mn).toNat*(n8l l+2)+((mx - mn).toNat - 1) else 0)+(mn.toNat+(if mx= -1 then 1 else 0)+(if mn<mx then 1 else 0) - 1))
   else n8l l+(l.length - 1):=by
 unfold Ag6
 rcases h with h|h|h|h|h
 ·rw [Ej7 h.1,Ej7 (by omega),Bz9]
 ·rw [Ej6 (by omega),Ej7 h.1,Ej7 (by omega),n8s,n8l]
 ·rw [Ej6 (by omega),Ej6 (by omega),Ej7 h.1,Ej6 (by omega),Ej6 (by omega),h.2]
  match l,h.2 with
  |[a],_=>simp [n8l]
 ·rw [Ej6 (by omega),Ej6 (by omega),Ej6 (by omega),Ej6 (show ¬ k<2 by omega),Ej6 (show ¬ k=6 by omega)]
  split
  ·rw [Aw5,Ej6 (by omega)]
  ·rw [Ej7 (by omega),Aw5,Ej6 (by omega)]
 ·obtain ⟨hk,hn,h1,h2,h3,h4⟩:=h
  match l,hn with
  |[a],_=>
   rw [Ej6 (by omega),Ej6 (by omega),Ej6 (by omega),Ej6 (by omega),Ej6 (by omega),Ej6 (by omega),Ej7 hk,Aw5];have e0:([a]:List R8).getD 0 default=a:=rfl;have e1:n8l [a]=n8s a:=by simp [n8l]
   rw [e0,e1,Ek1,En1,Bt7,Ca1];unfold Bh5
   by_cases hm:mx= -1
   ·have hx:¬ mn<mx:=by omega
    simp only [Ej7 hm,Ej6 hx];have:n8l [R8.node 4 0 lz [a]]=n8s a+1:=by rw [n8l,n8l,n8s,e1];omega
    rw [this];simp only [Eo0];rw [Ej6 (by omega),Ej6 (by omega)];omega
   ·by_cases hx:mn<mx
    ·simp only [Ej6 hm,Ej7 hx]
     have:n8l [U1 (([a]:List R8).getD 0 default) lz ((mx - mn).toNat - 1)]=(mx - mn).toNat*(n8s a+2)+((mx - mn).toNat - 1):=by
      rw [n8l,n8l,Bt6,e0];rw [show (mx - mn).toNat - 1+1=(mx - mn).toNat by omega];omega
     rw [this];simp only [Eo0];rw [Ej6 (by omega),Ej6 (by omega)];omega
    ·simp only [Ej6 hm,Ej6 hx,n8l,Eu2,Eu6]
mutual
theorem Bw0:∀ t:R6,G6 t→n8s (Ar1 t)=szR t
 | .node k s mn mx lz l _ _,h=>by
  rw [G6] at h;have hs:=Bn7 l h.2;rw [Ar1,sz_core (by rw [Ab5];exact h.1),Ab5,hs,szR]
theorem Bn7:∀ l:List R6,G6s l→n8l (S1 l)=Bh6 l
 |[],_=>by rw [S1,n8l,Bh6]
 |u::r,h=>by
  rw [G6s] at h;rw [S1,n8l,Bh6,Bw0 u h.1,Bn7 r h.2]
end
def Aj8:R8:=.node 4 0 true [.node 1 (2 ^ 256 - 1) false []]
def Ak1 (r:R8) (m:Int):R8:=if m=1 then Ag2 2 r Aj8 else if m=2 then Ag2 2 Aj8 r else if m=3 then Ag2 2 Aj8 (Ag2 2 r Aj8) else r
theorem Cb9:G8 Aj8:=by
 refine Eb9 ?_;rw [G8,G8s];exact ⟨.inr (.inl ⟨rfl,rfl⟩),trivial⟩
theorem Ca0:n8s Aj8=2:=by
 unfold Aj8;rw [n8s,n8l,n8l,n8s,n8l]
theorem g8_mode {r:R8} (h:G8 r) (m:Int):G8 (Ak1 r m):=by
 unfold Ak1
 split
 ·exact An3 (.inl J) h Cb9
 split
 ·exact An3 (.inl J) Cb9 h
 split
 ·exact An3 (.inl J) Cb9 (An3 (.inl J) h Cb9)
 ·exact h
theorem n8s_mode (r:R8) (m:Int):n8s (Ak1 r m)≤n8s r+6:=by
 unfold Ak1
 split
 ·rw [Ah7,Ca0];omega
 split
 ·rw [Ah7,Ca0];omega
 split
 ·rw [Ah7,Ah7,Ca0];omega
 ·omega
def clp (n:Nat):Int:=min 9223372036854775807 (n:Int)
theorem Av4 (a b:Nat):W9 (clp a) (clp b)=clp (a+b):=by unfold W9 clp;omega
theorem Ay3 (a:Nat):0≤clp a∧clp a≤9223372036854775807:=by unfold clp;omega
def Ak0 (m:Int):Nat:=if m=0 then 0 else if m=3 then 6 else 3
def I4 (L:List Nat) (m:Int):R8 × Int × Int:=
 if m<0∨3<m then (default,0,1)
 else if (M3 L).2.2≠0 then (default,(M3 L).2)
 else if 4096<clp (szR (M3 L).1+Ak0 m) then (default,0,3)
 else (Ak1 (Ar1 (M3 L).1) m,0,0)
theorem Av7 (L:List Nat) (m:Int) (hL:∀ b∈L,b<256) (hl:L.length≤1000) (h:(I4 L m).2.2=0):G8 (I4 L m).1∧n8s (I4 L m).1≤5000:=by
 unfold I4 at h ⊢
 split at h
 ·cases h
 rename_i h1
 rw [Ej6 h1]
 split at h
 ·rename_i h2;exact absurd h h2
 rename_i h2
 rw [Ej6 h2]
 split at h
 ·cases h
 rename_i h3
 rw [Ej6 h3];have hg:=Al6 L hL hl (by simpa using h2);refine ⟨g8_mode (Bw1 _ hg) m,?_⟩;have h4:=n8s_mode (Ar1 (M3 L).1) m;rw [Bw0 _ hg] at h4;unfold clp at h3;show n8s (Ak1 (Ar1 (M3 L).1) m)≤5000;omega
end Go.Clt
section
namespace Go.Clt
open Go Go.RowKit
inductive SameC:R8→Cor→Prop
 |empty {s z}:SameC (.node 0 s z []) .empty
 |set {s z}:SameC (.node 1 s z []) (.set s)
 |cat {s z a b x y}:SameC a x→SameC b y→SameC (.node 2 s z [a,b]) (.cat x y)
 |alt {s z a b x y}:SameC a x→SameC b y→SameC (.node 3 s z [a,b]) (.alt x y)
 |star {s z a x z'}:SameC a x→SameC (.node 4 s z [a]) (.star z' x)
inductive SameCs:List R8→List Cor→Prop
 |nil:SameCs [] []
 |cons {t u l k}:SameC t u→SameCs l k→SameCs (t::l) (u::k)
theorem SameCs.app:∀ {l k l' k'},SameCs l k→SameCs l' k'→SameCs (l++l') (k++k')
 |_,_,_,_,.nil,h=>h
 |_,_,_,_,.cons a h,h'=>.cons a (h.app h')
theorem SameCs.rep {t u} (h:SameC t u):∀ n,SameCs (List.replicate n t) (List.replicate n u)
 |0=>.nil
 |n+1=>.cons h (SameCs.rep h n)
theorem Bo5:∀ {l k},SameCs l k→SameC (S4 2 l) (Ae7 .cat k)
 |_,_,.nil=>.empty
 |_,_,.cons a .nil=>a
 |_,_,.cons a (.cons b h)=>.cat a (Bo5 (.cons b h))
theorem Co9:∀ {l k},SameCs l k→SameC (S4 3 l) (Ae7 .alt k)
 |_,_,.nil=>.empty
 |_,_,.cons a .nil=>a
 |_,_,.cons a (.cons b h)=>.alt a (Co9 (.cons b h))
theorem Dc7 {t u} (h:SameC t u) (z:Bool):SameC (optR z t) (Bb6 u z):=by
 cases z
 ·exact .alt h .empty
 ·exact .alt .empty h
theorem Bo4 {t u} (h:SameC t u) (z:Bool):∀ n,SameC (U1 t z n) (W5 u z n)
 |0=>Dc7 h z
 |n+1=>Dc7 (.cat h (Bo4 h z n)) z
mutual
theorem Co6:∀ {t u},SameS t u→G6 t→SameC (Ar1 t) (Ag7 u)
 |_,_,.node (k:=k) (s:=s) (mn:=mn) (mx:=mx) (lz:=lz) (l:=l) (l':=l') h,g=>by
  rw [G6] at g;obtain ⟨g1,g2⟩:=g;have hc:=Bv9 h g2;have hlen:=Ab5 l;rw [Ar1,Ag7];unfold Ag6;unfold K6 at g1;generalize S1 l=cs at*;generalize N1 l'=ds at*;rw [← hlen] at g1
  have one:cs.length=1→∃ c d,SameC c d∧cs=[c]∧ds=[d]:=fun h1=>by
   cases hc with
   |nil=>cases h1
   |cons a b=>
    cases b with
    |nil=>exact ⟨_,_,a,rfl,rfl⟩
    |cons b c=>simp at h1
  rcases g1 with ⟨rfl,hn⟩|⟨rfl,hn⟩|⟨hk,hn⟩|⟨hk,hn⟩|⟨rfl,hn,_⟩
  ·rw [Ej7 J,Ej6 (by decide),Ej6 (by decide),Ej6 (by decide),Ej6 (by decide),Ej6 (by decide)];exact .empty
  ·rw [Ej6 (by decide),Ej7 J,Ej7 J];exact .set
  ·obtain ⟨c,e,h1,rfl,rfl⟩:=one hn;rw [Ej6 (by omega),Ej6 (by omega),Ej7 hk,Ej6 (by omega),Ej7 hk];exact h1
  ·rcases hk with rfl|rfl
   ·rw [Ej6 (by decide),Ej6 (by decide),Ej6 (by decide),Ej7 J,Ej6 (by decide),Ej6 (by decide),Ej7 J];exact Bo5 hc
   ·rw [Ej6 (by decide),Ej6 (by decide),Ej6 (by decide),Ej6 (by decide),Ej7 J,Ej6 (by decide),Ej6 (by decide),Ej6 (by decide),Ej7 J];exact Co9 hc
  ·obtain ⟨c,e,h1,rfl,rfl⟩:=one hn;rw [Ej6 (by decide),Ej6 (by decide),Ej6 (by decide),Ej6 (by decide),Ej6 (by decide),Ej6 (by decide),Ej6 (by decide),Ej6 (by decide),Ej6 (by decide),Ej7 J];unfold Al9 Bh5;refine Bo5 (.app (.rep h1 _) ?_)
   split
   ·exact .cons (.star h1) .nil
   ·split
    ·exact .cons (Bo4 h1 lz _) .nil
    ·exact .nil
theorem Bv9:∀ {l k},SameSs l k→G6s l→SameCs (S1 l) (N1 k)
 |_,_,.nil,_=>by rw [S1,N1];exact .nil
 |_,_,.cons a h,g=>by
  rw [G6s] at g;rw [S1,N1];exact .cons (Co6 a g.1) (Bv9 h g.2)
end
theorem Aw0:SameC Aj8 Ct4:=.star (by
 have:(2 ^ 256 - 1:Nat)=Q1 0:=by decide+kernel
 rw [this]
 exact .set)
theorem Dy7 {t u} (h:SameC t u) (m:Int):SameC (Ak1 t m) (Ch0 u m):=by
 unfold Ak1 Ch0
 split
 ·exact .cat h Aw0
 split
 ·exact .cat Aw0 h
 split
 ·exact .cat Aw0 (.cat h Aw0)
 ·exact h
end Go.Clt
end
