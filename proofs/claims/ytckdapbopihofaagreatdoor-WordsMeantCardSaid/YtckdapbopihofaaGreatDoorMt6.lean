import Derived.Test.YtckdapbopihofaaGreatDoorMt5
/- All words that are listed are meant, none twice, shorter ones first, each ahead of the next one (WordsMeant). Conditions: none beyond the statement's own. A part of that proof: Ref11, Ref12, Ref13, Eq1, Eq2, Ref14, Ref15, Ref16, Tree8, Ref17, Tree6, Ref21, Ref22, Ref23, Ref24, Ref25, Ref26, Eq3, Ref27, Eq4. Conditions: none beyond the statement's own. By an AI agent; no person has read it. -/
set_option linter.unusedVariables false
set_option linter.unusedSimpArgs false
set_option maxRecDepth 8000
set_option maxHeartbeats 4000000
namespace Go.Clt
open Go Go.RowKit Go.Proofs
def OneR (r:RTk × Int × Int) (w:World) (u:Value) (w':World):Prop:=Chg [] w w'∧u= .tuple #[.agg (Au2 r.1).toArray,endV r.2]
theorem rone_c (s:ByteArray) (hs:s.size≤1000) (at_:Nat) (hat:at_<s.size) (w:World):Calls P 145 #[.string s,.int .i64 (at_:Nat)] w (Ret (OneR (Cf2 (B6 s) at_) w)):=by
 have hC:=A8 [] w;have hsl:=E6 s;have hlt:=T0 s;obtain ⟨u8,hu,hu2⟩:=I7 s at_ hat;have hb:=hlt _ (H6 (B6 s) 0 at_ (by omega));refine D6 Tryz.func145 J J (Qd (B4 J (B7 Cq6 J) ?_));intro b1 w1 hb1 hs1 hx1 hB1;refine B4 J (B7 J1 J) ?_;intro b2 w2 hb2 hs2 hx2 hB2;refine Qc (Qd (Z 2 J (C8 J (Does.to (F1 Tryz.underlying9 J J (by omega) (by exact hu)) (J2 (show ((u8.toNat:Nat):Int)=(((B6 s).getD at_ 0:Nat):Int) by rw [hu2]))) ?_)));have hE:Cf2 (B6 s) at_=Cf2 (B6 s) at_:=rfl
 conv at hE=>rhs;unfold Cf2
 simp only [] at hE;generalize hc:(B6 s).getD at_ 0=c at*;refine Zc 1 J (Qd (Z 1 J (Ad J J (by omega) (C8 J (B0 J1 M0 J (by rfl)) ?_))));refine B4 J (B7 J1 J) ?_;intro b3 w3 hb3 hs3 hx3 hB3;refine Pe G7 J ‹_› J J ?_;intro w4 hs4 hx4 hB3;refine Qc (Qd (Z 1 J (C8 J (B0 Cq6 pl231 J (by rfl)) ?_)));refine B4 J (B7 Cq6 J) ?_;intro b5 w5 hb5 hs5 hx5 hB5;refine Pe V6 J ‹_› J J ?_;intro w6 hs6 hx6 hB5;have hC:=hC.step (((((hx1.j hx2).j hx3).j hx4).j hx5).j hx6) (by simp<;>omega);have hB1:=hB1.q ((((hx2.j hx3).j hx4).j hx5).j hx6) (by simp<;>omega);have hB2:=hB2.q (((hx3.j hx4).j hx5).j hx6) (by simp<;>omega);have hB3:=hB3.q (hx5.j hx6) (by simp<;>omega)
 refine Qc (Qa (Qd (Zc 1 J (B1 (Qd (Zc 2 J (A4 J (fun c1=>?_) (fun c1=>?_))))))))
 ·try simp at c1
  rw [Ei4 (by omega)] at hE;refine Qd (Z 2 J (Ca fb168 J (resc_c s hs at_ (by omega) _) ?_));rintro _ w7 ⟨hx7,rfl⟩;have hB5:=hB5.u hx7;refine Z 3 J (Fa Bl4 J (Pe J6 J ‹_› J J ?_));intro w8 hs8 hx8 hB5;have hB3:=hB3.q (hx7.j hx8) (by simp<;>omega);refine Pe G7 J ‹_› J J ?_;intro w9 hs9 hx9 hB3;refine Qc (Qa (C6 (S:=[b1]) 3 [(0,0),(0,1),(1,2),(2,3)] mo (by kernel_rfl) ?_));intro w10 hx10 hh10;have hB1:=hB1.q (((hx7.j hx8).j hx9).j hx10) (by simp<;>omega);have hB3:=hB3.u hx10;have hB5:=hB5.q (hx9.j hx10) (by simp<;>omega);have hCS10:=A8 ([b1]) w10;refine C9 J (B8 K2 J ‹_› (by simp;omega) J J) ?_;refine C9 J (B8 F8 J ‹_› (by simp;omega) J J) ?_;refine H7 (G1 V6 J J ‹_› J J J J J) ?_;intro w11 hs11 hx11 hB1;have hB2:=hB2.q ((((hx7.j hx8).j hx9).j hx10).j hx11) (by simp<;>omega);have hCS10:=hCS10.step hx11 (by simp;done);refine ⟨hCS10,?_⟩;refine Pe G7 J ‹_› J J ?_;intro w12 hs12 hx12 hB2;have hC:=hC.step (((((hx7.j hx8).j hx9).j hx10).j hx11).j hx12) (by simp<;>omega);have hB1:=hB1.q hx12 (by simp;omega);refine Qc (A6 (C7 J J (A5 K2 ‹_› J J) J (A5 F8 ‹_› J J) ?_));exact ⟨hC,by rw [hE];rfl⟩
 ·try simp at c1
  rw [Ei3 (by omega)] at hE
  refine Qd (Zc 2 J (A4 J (fun c2=>?_) (fun c2=>?_)))
  ·try simp at c2
   rw [Ei4 (by omega)] at hE;refine Qd (Z 2 J (Ca fb169 J (rclass_c s hs at_ hat _) ?_));rintro _ w13 ⟨hx13,rfl⟩;have hB5:=hB5.u hx13;refine Z 3 J (Fa Bl4 J (Pe J6 J ‹_› J J ?_));intro w14 hs14 hx14 hB5;have hB3:=hB3.q (hx13.j hx14) (by simp<;>omega);refine Pe G7 J ‹_› J J ?_;intro w15 hs15 hx15 hB3;refine Qc (Qa (C6 (S:=[b1]) 3 [(0,0),(0,1),(1,2),(2,3)] mo (by kernel_rfl) ?_));intro w16 hx16 hh16;have hB1:=hB1.q (((hx13.j hx14).j hx15).j hx16) (by simp<;>omega);have hB3:=hB3.u hx16;have hB5:=hB5.q (hx15.j hx16) (by simp<;>omega);have hCS16:=A8 ([b1]) w16;refine C9 J (B8 K2 J ‹_› (by simp;omega) J J) ?_;refine C9 J (B8 F8 J ‹_› (by simp;omega) J J) ?_;refine H7 (G1 V6 J J ‹_› J J J J J) ?_;intro w17 hs17 hx17 hB1;have hB2:=hB2.q ((((hx13.j hx14).j hx15).j hx16).j hx17) (by simp<;>omega);have hCS16:=hCS16.step hx17 (by simp;done);refine ⟨hCS16,?_⟩;refine Pe G7 J ‹_› J J ?_;intro w18 hs18 hx18 hB2;have hC:=hC.step (((((hx13.j hx14).j hx15).j hx16).j hx17).j hx18) (by simp<;>omega);have hB1:=hB1.q hx18 (by simp;omega);refine Qc (A6 (C7 J J (A5 K2 ‹_› J J) J (A5 F8 ‹_› J J) ?_));exact ⟨hC,by rw [hE];rfl⟩
  ·try simp at c2
   rw [Ei3 (by omega)] at hE
   refine Qd (Zc 2 J (A4 J (fun c3=>?_) (fun c3=>?_)))
   ·try simp at c3
    rw [Ei4 (by omega)] at hE;refine Qd (Fa T4 J (Pe sz3 J ‹_› J J ?_));intro w19 hs19 hx19 hB5;have hC:=hC.step hx19 (by simp;omega);have hB1:=hB1.q hx19 (by simp;omega);have hB2:=hB2.q hx19 (by simp;omega);have hB3:=hB3.q hx19 (by simp;omega)
    refine Qc (Qa (Qd (Z 1 J (Ad J J (by omega) (Z 1 J (C8 J (E8 Tryz.underlying9 J) (Z 2 J (B9 (d:=48) J (fun p1=>?_) (fun p1=>?_)))))))))
    ·try simp at p1
     have hin:at_+1<s.size:=by omega
     obtain ⟨u9,hu3,hu4⟩:=I7 s (at_+1) hin;refine Qu J (Z 1 J (Qu J (Z 1 J (Qu J (Ad J J (by omega) (Qu J (C8 J (Does.to (F1 Tryz.underlying9 J J (by omega) (by exact hu3)) (J2 (show ((u9.toNat:Nat):Int)=(((B6 s).getD (at_+1) 0:Nat):Int) by rw [hu4]))) ?_)))))))
     refine Qu J (Zc 2 J (A4 J (fun p2=>?_) (fun p2=>?_)))
     ·rw [cmpB_eql] at p2;rw [Ei4 ⟨by omega,by omega⟩] at hE;refine Qd (Fa T4 J (Pe sz3 J ‹_› J J ?_));intro w20 hs20 hx20 hB5;have hB3:=hB3.q hx20 (by simp;omega);refine Qc (Qd (Z 1 J (Ad J J (by omega) (C8 J (B0 J1 M0 J (by rfl)) ?_))));refine Pe G7 J ‹_› J J ?_;intro w21 hs21 hx21 hB3;have hC:=hC.step (hx20.j hx21) (by simp<;>omega);have hB1:=hB1.q (hx20.j hx21) (by simp<;>omega);have hB2:=hB2.q (hx20.j hx21) (by simp<;>omega);have hB5:=hB5.q hx21 (by simp;omega)
      refine Qc (Qd (Z 1 J (Ad J J (by omega) (Z 1 J (C8 J (E8 Tryz.underlying9 J) (Z 2 J (B9 (d:=64) J (fun p3=>?_) (fun p3=>?_))))))))
      ·try simp at p3
       rw [Ei4 (.inl (by omega))] at hE;refine Qk J (Qk J (Qk J (Qk J (Qk J (Zc 1 J (E4 J (Qb (Z 1 J (C8 J (B0 J1 M0 J (by rfl)) ?_)))))))));refine Pe G7 J ‹_› J J ?_;intro w22 hs22 hx22 hB3;refine Qc (Qa (C6 (S:=[b1]) 3 [(0,0),(0,1),(1,2),(2,3)] mo (by kernel_rfl) ?_));intro w23 hx23 hh23;have hB1:=hB1.q (hx22.j hx23) (by simp<;>omega);have hB3:=hB3.u hx23;have hB5:=hB5.q (hx22.j hx23) (by simp<;>omega);have hCS23:=A8 ([b1]) w23;refine C9 J (B8 K2 J ‹_› (by simp;omega) J J) ?_;refine C9 J (B8 F8 J ‹_› (by simp;omega) J J) ?_;refine H7 (G1 V6 J J ‹_› J J J J J) ?_;intro w24 hs24 hx24 hB1;have hB2:=hB2.q ((hx22.j hx23).j hx24) (by simp<;>omega);have hCS23:=hCS23.step hx24 (by simp;done);refine ⟨hCS23,?_⟩;refine Pe G7 J ‹_› J J ?_;intro w25 hs25 hx25 hB2;have hC:=hC.step (((hx22.j hx23).j hx24).j hx25) (by simp<;>omega);have hB1:=hB1.q hx25 (by simp;omega);refine Qc (A6 (C7 J J (A5 K2 ‹_› J J) J (A5 F8 ‹_› J J) ?_));exact ⟨hC,by rw [hE];unfold Au2;simp only [C5];rfl⟩
      ·try simp at p3
       have hin2:at_+2<s.size:=by omega
       obtain ⟨v9,hv3,hv4⟩:=I7 s (at_+2) hin2;refine Qu J (Z 1 J (Qu J (Z 1 J (Qu J (Ad J J (by omega) (Qu J (C8 J (Does.to (F1 Tryz.underlying9 J J (by omega) (by exact hv3)) (J2 (show ((v9.toNat:Nat):Int)=(((B6 s).getD (at_+2) 0:Nat):Int) by rw [hv4]))) ?_)))))))
       refine Qu J (Zc 2 J (A4 J (fun p4=>?_) (fun p4=>?_)))
       ·rw [cmpB_neq] at p4;rw [Ei4 (.inr (by omega))] at hE;refine Qb (Z 1 J (C8 J (B0 J1 M0 J (by rfl)) ?_));refine Pe G7 J ‹_› J J ?_;intro w26 hs26 hx26 hB3;refine Qc (Qa (C6 (S:=[b1]) 3 [(0,0),(0,1),(1,2),(2,3)] mo (by kernel_rfl) ?_));intro w27 hx27 hh27;have hB1:=hB1.q (hx26.j hx27) (by simp<;>omega);have hB3:=hB3.u hx27;have hB5:=hB5.q (hx26.j hx27) (by simp<;>omega);have hCS27:=A8 ([b1]) w27;refine C9 J (B8 K2 J ‹_› (by simp;omega) J J) ?_;refine C9 J (B8 F8 J ‹_› (by simp;omega) J J) ?_;refine H7 (G1 V6 J J ‹_› J J J J J) ?_;intro w28 hs28 hx28 hB1;have hB2:=hB2.q ((hx26.j hx27).j hx28) (by simp<;>omega);have hCS27:=hCS27.step hx28 (by simp;done);refine ⟨hCS27,?_⟩;refine Pe G7 J ‹_› J J ?_;intro w29 hs29 hx29 hB2;have hC:=hC.step (((hx26.j hx27).j hx28).j hx29) (by simp<;>omega);have hB1:=hB1.q hx29 (by simp;omega);refine Qc (A6 (C7 J J (A5 K2 ‹_› J J) J (A5 F8 ‹_› J J) ?_));exact ⟨hC,by rw [hE];unfold Au2;simp only [C5];rfl⟩
       ·rw [cmpB_neqF] at p4;rw [Ei3 (by omega)] at hE;refine A7 (Qa (C6 (S:=[b1]) 3 [(0,0),(0,1),(1,2),(2,3)] mo (by kernel_rfl) ?_));intro w30 hx30 hh30;have hB1:=hB1.u hx30;have hB3:=hB3.u hx30;have hB5:=hB5.u hx30;have hCS30:=A8 ([b1]) w30;refine C9 J (B8 K2 J ‹_› (by simp;omega) J J) ?_;refine C9 J (B8 F8 J ‹_› (by simp;omega) J J) ?_;refine H7 (G1 V6 J J ‹_› J J J J J) ?_;intro w31 hs31 hx31 hB1;have hB2:=hB2.q (hx30.j hx31) (by simp<;>omega);have hCS30:=hCS30.step hx31 (by simp;done);refine ⟨hCS30,?_⟩;refine Pe G7 J ‹_› J J ?_;intro w32 hs32 hx32 hB2;have hC:=hC.step ((hx30.j hx31).j hx32) (by simp<;>omega);have hB1:=hB1.q hx32 (by simp;omega);refine Qc (A6 (C7 J J (A5 K2 ‹_› J J) J (A5 F8 ‹_› J J) ?_));exact ⟨hC,by rw [hE];unfold Au2;simp only [C5];rfl⟩
     ·rw [cmpB_eqlF] at p2;rw [Ei3 (by omega)] at hE;refine A7 (Qa (C6 (S:=[b1]) 3 [(0,0),(0,1),(1,2),(2,3)] mo (by kernel_rfl) ?_));intro w33 hx33 hh33;have hB1:=hB1.u hx33;have hB3:=hB3.u hx33;have hB5:=hB5.u hx33;have hCS33:=A8 ([b1]) w33;refine C9 J (B8 K2 J ‹_› (by simp;omega) J J) ?_;refine C9 J (B8 F8 J ‹_› (by simp;omega) J J) ?_;refine H7 (G1 V6 J J ‹_› J J J J J) ?_;intro w34 hs34 hx34 hB1;have hB2:=hB2.q (hx33.j hx34) (by simp<;>omega);have hCS33:=hCS33.step hx34 (by simp;done);refine ⟨hCS33,?_⟩;refine Pe G7 J ‹_› J J ?_;intro w35 hs35 hx35 hB2;have hC:=hC.step ((hx33.j hx34).j hx35) (by simp<;>omega);have hB1:=hB1.q hx35 (by simp;omega);refine Qc (A6 (C7 J J (A5 K2 ‹_› J J) J (A5 F8 ‹_› J J) ?_));exact ⟨hC,by rw [hE];unfold Au2;simp only [C5];rfl⟩
    ·try simp at p1
     rw [Ei3 (by omega)] at hE;refine Qk J (Qk J (Qk J (Qk J (Qk J (Zc 1 J (E2 J (A7 (Qa (C6 (S:=[b1]) 3 [(0,0),(0,1),(1,2),(2,3)] mo (by kernel_rfl) ?_)))))))));intro w36 hx36 hh36;have hB1:=hB1.u hx36;have hB3:=hB3.u hx36;have hB5:=hB5.u hx36;have hCS36:=A8 ([b1]) w36;refine C9 J (B8 K2 J ‹_› (by simp;omega) J J) ?_;refine C9 J (B8 F8 J ‹_› (by simp;omega) J J) ?_;refine H7 (G1 V6 J J ‹_› J J J J J) ?_;intro w37 hs37 hx37 hB1;have hB2:=hB2.q (hx36.j hx37) (by simp<;>omega);have hCS36:=hCS36.step hx37 (by simp;done);refine ⟨hCS36,?_⟩;refine Pe G7 J ‹_› J J ?_;intro w38 hs38 hx38 hB2;have hC:=hC.step ((hx36.j hx37).j hx38) (by simp<;>omega);have hB1:=hB1.q hx38 (by simp;omega);refine Qc (A6 (C7 J J (A5 K2 ‹_› J J) J (A5 F8 ‹_› J J) ?_));exact ⟨hC,by rw [hE];unfold Au2;simp only [C5];rfl⟩
   ·try simp at c3
    rw [Ei3 (by omega)] at hE
    refine Qd (Zc 2 J (A4 J (fun c4=>?_) (fun c4=>?_)))
    ·try simp at c4
     rw [Ei4 (by omega)] at hE;refine Qd (Fa T4 J (Pe sz3 J ‹_› J J ?_));intro w39 hs39 hx39 hB5;refine Qc (Qa (C6 (S:=[b1]) 3 [(0,0),(0,1),(1,2),(2,3)] mo (by kernel_rfl) ?_));intro w40 hx40 hh40;have hB1:=hB1.q (hx39.j hx40) (by simp<;>omega);have hB3:=hB3.q (hx39.j hx40) (by simp<;>omega);have hB5:=hB5.u hx40;have hCS40:=A8 ([b1]) w40;refine C9 J (B8 K2 J ‹_› (by simp;omega) J J) ?_;refine C9 J (B8 F8 J ‹_› (by simp;omega) J J) ?_;refine H7 (G1 V6 J J ‹_› J J J J J) ?_;intro w41 hs41 hx41 hB1;have hB2:=hB2.q ((hx39.j hx40).j hx41) (by simp<;>omega);have hCS40:=hCS40.step hx41 (by simp;done);refine ⟨hCS40,?_⟩;refine Pe G7 J ‹_› J J ?_;intro w42 hs42 hx42 hB2;have hC:=hC.step (((hx39.j hx40).j hx41).j hx42) (by simp<;>omega);have hB1:=hB1.q hx42 (by simp;omega);refine Qc (A6 (C7 J J (A5 K2 ‹_› J J) J (A5 F8 ‹_› J J) ?_));exact ⟨hC,by rw [hE];unfold Au2;simp only [C5];rfl⟩
    ·try simp at c4
     rw [Ei3 (by omega)] at hE
     refine Qd (Zc 2 J (A4 J (fun c5=>?_) (fun c5=>?_)))
     ·try simp at c5
      rw [Ei4 (by omega)] at hE;refine Qd (Fa T4 J (Pe sz3 J ‹_› J J ?_));intro w43 hs43 hx43 hB5;refine Qc (Qa (C6 (S:=[b1]) 3 [(0,0),(0,1),(1,2),(2,3)] mo (by kernel_rfl) ?_));intro w44 hx44 hh44;have hB1:=hB1.q (hx43.j hx44) (by simp<;>omega);have hB3:=hB3.q (hx43.j hx44) (by simp<;>omega);have hB5:=hB5.u hx44;have hCS44:=A8 ([b1]) w44;refine C9 J (B8 K2 J ‹_› (by simp;omega) J J) ?_;refine C9 J (B8 F8 J ‹_› (by simp;omega) J J) ?_;refine H7 (G1 V6 J J ‹_› J J J J J) ?_;intro w45 hs45 hx45 hB1;have hB2:=hB2.q ((hx43.j hx44).j hx45) (by simp<;>omega);have hCS44:=hCS44.step hx45 (by simp;done);refine ⟨hCS44,?_⟩;refine Pe G7 J ‹_› J J ?_;intro w46 hs46 hx46 hB2;have hC:=hC.step (((hx43.j hx44).j hx45).j hx46) (by simp<;>omega);have hB1:=hB1.q hx46 (by simp;omega);refine Qc (A6 (C7 J J (A5 K2 ‹_› J J) J (A5 F8 ‹_› J J) ?_));exact ⟨hC,by rw [hE];unfold Au2;simp only [C5];rfl⟩
     ·try simp at c5
      rw [Ei3 (by omega)] at hE
      refine Qd (Zc 2 J (A4 J (fun c6=>?_) (fun c6=>?_)))
      ·try simp at c6
       rw [Ei4 (by omega)] at hE;refine Qd (C8 J (D7 Q1 W9 J (by rfl)) ?_);refine B4 J (B5 Ar7 Tryz.underlying268 Q1 J J J (by rfl)) ?_;intro b47 w47 hb47 hs47 hx47 hB47;refine Ca Aq8 J (L5 [(10,10)] true _ _ J (by decide) _ ‹_›) ?_;rintro _ w48 ⟨rfl,hx48⟩;have hB5:=hB5.u (hx47.s0 hx48);refine Fa Bl4 J (Pe J6 J ‹_› J J ?_);intro w49 hs49 hx49 hB5;refine Qc (Qa (C6 (S:=[b1]) 3 [(0,0),(0,1),(1,2),(2,3)] mo (by kernel_rfl) ?_));intro w50 hx50 hh50;have hB1:=hB1.q (((hx47.j hx48).j hx49).j hx50) (by simp<;>omega);have hB3:=hB3.q (((hx47.j hx48).j hx49).j hx50) (by simp<;>omega);have hB5:=hB5.u hx50;have hCS50:=A8 ([b1]) w50;refine C9 J (B8 K2 J ‹_› (by simp;omega) J J) ?_;refine C9 J (B8 F8 J ‹_› (by simp;omega) J J) ?_;refine H7 (G1 V6 J J ‹_› J J J J J) ?_;intro w51 hs51 hx51 hB1;have hB2:=hB2.q ((((hx47.j hx48).j hx49).j hx50).j hx51) (by simp<;>omega);have hCS50:=hCS50.step hx51 (by simp;done);refine ⟨hCS50,?_⟩;refine Pe G7 J ‹_› J J ?_;intro w52 hs52 hx52 hB2;have hC:=hC.step (((((hx47.j hx48).j hx49).j hx50).j hx51).j hx52) (by simp<;>omega);have hB1:=hB1.q hx52 (by simp;omega);refine Qc (A6 (C7 J J (A5 K2 ‹_› J J) J (A5 F8 ‹_› J J) ?_));exact ⟨hC,by rw [hE];rfl⟩
      ·try simp at c6
       rw [Ei3 (by omega)] at hE
       refine Qa (Qd (Zc 2 J (A4 J (fun c7=>?_) (fun c7=>?_))))
       ·refine A7 (E4 (H2 J c7) ?_);rw [cmpB_eql] at c7;rw [Ei4 (by omega)] at hE;refine Qd (La K2 J ‹_› J J ?_);refine Z 1 J (C8 J (B0 J1 M0 J (by rfl)) ?_);refine Pe V6 J ‹_› J J ?_;intro w53 hs53 hx53 hB1;have hB2:=hB2.q hx53 (by simp;omega);refine Pe G7 J ‹_› J J ?_;intro w54 hs54 hx54 hB2;have hC:=hC.step (hx53.j hx54) (by simp<;>omega);have hB1:=hB1.q hx54 (by simp;omega);refine Qc (A6 (C7 J J (A5 K2 ‹_› J J) J (A5 F8 ‹_› J J) ?_));exact ⟨hC,by rw [hE];unfold Au2;simp only [C5];rfl⟩
       ·rw [cmpB_eqlF] at c7
        refine Qb (Zc 2 J (A4 J (fun c8=>?_) (fun c8=>?_)))
        ·rw [cmpB_eql] at c8;rw [Ei4 (by omega)] at hE;refine Qd (La K2 J ‹_› J J ?_);refine Z 1 J (C8 J (B0 J1 M0 J (by rfl)) ?_);refine Pe V6 J ‹_› J J ?_;intro w55 hs55 hx55 hB1;have hB2:=hB2.q hx55 (by simp;omega);refine Pe G7 J ‹_› J J ?_;intro w56 hs56 hx56 hB2;have hC:=hC.step (hx55.j hx56) (by simp<;>omega);have hB1:=hB1.q hx56 (by simp;omega);refine Qc (A6 (C7 J J (A5 K2 ‹_› J J) J (A5 F8 ‹_› J J) ?_));exact ⟨hC,by rw [hE];unfold Au2;simp only [C5];rfl⟩
        ·rw [cmpB_eqlF] at c8;rw [Ei3 (by omega)] at hE
         refine Qa (Qd (Zc 2 J (A4 J (fun c9=>?_) (fun c9=>?_))))
         ·refine A7 (E4 (H2 J c9) ?_);rw [cmpB_eql] at c9;rw [Ei4 (by omega)] at hE;refine Qd (La K2 J ‹_› J J ?_);refine Z 1 J (C8 J (B0 J1 M0 J (by rfl)) ?_);refine Pe V6 J ‹_› J J ?_;intro w57 hs57 hx57 hB1;have hB2:=hB2.q hx57 (by simp;omega);refine Pe G7 J ‹_› J J ?_;intro w58 hs58 hx58 hB2;have hC:=hC.step (hx57.j hx58) (by simp<;>omega);have hB1:=hB1.q hx58 (by simp;omega);refine Qc (A6 (C7 J J (A5 K2 ‹_› J J) J (A5 F8 ‹_› J J) ?_));exact ⟨hC,by rw [hE];unfold Au2;simp only [C5];rfl⟩
         ·rw [cmpB_eqlF] at c9
          refine Qb (Zc 2 J (A4 J (fun c10=>?_) (fun c10=>?_)))
          ·rw [cmpB_eql] at c10;rw [Ei4 (by omega)] at hE;refine Qd (La K2 J ‹_› J J ?_);refine Z 1 J (C8 J (B0 J1 M0 J (by rfl)) ?_);refine Pe V6 J ‹_› J J ?_;intro w59 hs59 hx59 hB1;have hB2:=hB2.q hx59 (by simp;omega);refine Pe G7 J ‹_› J J ?_;intro w60 hs60 hx60 hB2;have hC:=hC.step (hx59.j hx60) (by simp<;>omega);have hB1:=hB1.q hx60 (by simp;omega);refine Qc (A6 (C7 J J (A5 K2 ‹_› J J) J (A5 F8 ‹_› J J) ?_));exact ⟨hC,by rw [hE];unfold Au2;simp only [C5];rfl⟩
          ·rw [cmpB_eqlF] at c10;rw [Ei3 (by omega)] at hE;refine A7 (Qa (Qd (Z 1 J (Ca fb171 J (rin_c Ee9 (by decide) c hb _) ?_))));rintro _ w61 ⟨rfl,hx61⟩;have hC:=hC.s0 hx61;have hB1:=hB1.u hx61;have hB2:=hB2.u hx61;have hB3:=hB3.u hx61;have hB5:=hB5.u hx61
           refine Zc 1 J (A4 J (fun n1=>?_) (fun n1=>?_))
           ·have n1':c∉B6 Ee9:=by simpa using n1
            rw [Ei4 n1'] at hE;refine Qd (Z 1 J (C8 J (G5 kn5 Tryz.underlying3 J (by exact H4 (by omega))) ?_));refine Z 1 J (C8 J (G5 kn5 Tryz.underlying3 J (by exact H4 (by omega))) ?_);refine C8 J (D7 Q1 W9 J (by rfl)) ?_;refine B4 J (B5 Ar7 Tryz.underlying268 Q1 J J J (by rfl)) ?_;intro b62 w62 hb62 hs62 hx62 hB62;refine Ca Aq8 J (L5 [((c:Int),(c:Int))] false _ _ J (by simp) _ ‹_›) ?_;rintro _ w63 ⟨rfl,hx63⟩;have hB5:=hB5.u (hx62.s0 hx63);refine Fa Bl4 J (Pe J6 J ‹_› J J ?_);intro w64 hs64 hx64 hB5;refine Qc (Qa (C6 (S:=[b1]) 3 [(0,0),(0,1),(1,2),(2,3)] mo (by kernel_rfl) ?_));intro w65 hx65 hh65;have hB1:=hB1.q (((hx62.j hx63).j hx64).j hx65) (by simp<;>omega);have hB3:=hB3.q (((hx62.j hx63).j hx64).j hx65) (by simp<;>omega);have hB5:=hB5.u hx65;have hCS65:=A8 ([b1]) w65;refine C9 J (B8 K2 J ‹_› (by simp;omega) J J) ?_;refine C9 J (B8 F8 J ‹_› (by simp;omega) J J) ?_;refine H7 (G1 V6 J J ‹_› J J J J J) ?_;intro w66 hs66 hx66 hB1;have hB2:=hB2.q ((((hx62.j hx63).j hx64).j hx65).j hx66) (by simp<;>omega);have hCS65:=hCS65.step hx66 (by simp;done);refine ⟨hCS65,?_⟩;refine Pe G7 J ‹_› J J ?_;intro w67 hs67 hx67 hB2;have hC:=hC.step (((((hx62.j hx63).j hx64).j hx65).j hx66).j hx67) (by simp<;>omega);have hB1:=hB1.q hx67 (by simp;omega);refine Qc (A6 (C7 J J (A5 K2 ‹_› J J) J (A5 F8 ‹_› J J) ?_));exact ⟨hC,by rw [hE];rfl⟩
           ·have n1':¬ c∉B6 Ee9:=by simpa using n1
            rw [Ei3 n1'] at hE;refine A7 (Qd (Fa T4 J (Pe sz3 J ‹_› J J ?_)));intro w68 hs68 hx68 hB5;refine Qc (Qd (Fa Cb5 J (Pe sz3 J ‹_› J J ?_)));intro w69 hs69 hx69 hB5;have hC:=hC.step (hx68.j hx69) (by simp<;>omega);have hB1:=hB1.q (hx68.j hx69) (by simp<;>omega);have hB2:=hB2.q (hx68.j hx69) (by simp<;>omega);have hB3:=hB3.q (hx68.j hx69) (by simp<;>omega)
            refine Qc (I5 (fun e9 wr=>∃ t q,Sub [(0,.string s),(4,.pointer (some ⟨b1,0,none⟩)),(5,.pointer (some ⟨b2,0,none⟩)),(7,.pointer (some ⟨b3,0,none⟩)),(8,.pointer (some ⟨b5,0,none⟩))] e9∧Chg [] w wr∧Blk wr b1 (Au2 ⟨0,0,0,0,0,0,false⟩) 231∧Blk wr b2 (endC (0,0)) 232∧Blk wr b3 (endC q) 232∧Blk wr b5 (Au2 t) 231∧Cf2 (B6 s) at_=Cd8 (B6 s) t q∧(∃ i:Nat,q.1=(i:Int)∧i≤5000)) ?_ ?_)
            ·refine Qd (Zc 1 J (B1 (Qd (Zc 2 J (A4 J (fun d1=>?_) (fun d1=>?_))))))
             ·try simp at d1
              rw [Ei4 (by omega)] at hE;refine Qb (Fa Cu9 J (Pe sz3 J ‹_› J J ?_));intro w70 hs70 hx70 hB5;have hC:=hC.step hx70 (by simp;omega);have hB1:=hB1.q hx70 (by simp;omega);have hB2:=hB2.q hx70 (by simp;omega);have hB3:=hB3.q hx70 (by simp;omega);refine Qc ⟨⟨5,at_,0,0,1,-1,false⟩,((at_:Int)+1,0),sb J,?_⟩;exact ⟨hC,by unfold Au2;simp only [C5];exact hB1,hB2,hB3,by unfold Au2;simp only [C5];exact hB5,hE,⟨at_+1,by show (at_:Int)+1=_;omega,by omega⟩⟩
             ·try simp at d1
              rw [Ei3 (by omega)] at hE
              refine Qd (Zc 2 J (A4 J (fun d2=>?_) (fun d2=>?_)))
              ·try simp at d2
               rw [Ei4 (by omega)] at hE;refine Qb (Fa Cb5 J (Pe sz3 J ‹_› J J ?_));intro w71 hs71 hx71 hB5;have hC:=hC.step hx71 (by simp;omega);have hB1:=hB1.q hx71 (by simp;omega);have hB2:=hB2.q hx71 (by simp;omega);have hB3:=hB3.q hx71 (by simp;omega);refine Qc ⟨⟨5,at_,0,0,0,1,false⟩,((at_:Int)+1,0),sb J,?_⟩;exact ⟨hC,by unfold Au2;simp only [C5];exact hB1,hB2,hB3,by unfold Au2;simp only [C5];exact hB5,hE,⟨at_+1,by show (at_:Int)+1=_;omega,by omega⟩⟩
              ·try simp at d2
               rw [Ei3 (by omega)] at hE
               refine Qd (Zc 2 J (A4 J (fun d3=>?_) (fun d3=>?_)))
               ·try simp at d3
                rw [Ei4 (by omega)] at hE;have hbp:=Cx9 (B6 s) hlt (at_+1);refine Qb (Z 2 J (Ad J J (by omega) (Ca fb172 J (Du6 s hs (at_+1) (by omega) _) ?_)));rintro _ w72 ⟨hx72,rfl⟩;have hB5:=hB5.u hx72;generalize J7 (B6 s) (at_+1)=b at*;obtain ⟨bm,bn,bp,be⟩:=b;obtain ⟨j,hj,hj2⟩:=hbp;simp only [] at hj hE;refine Z 4 J (Fa Cu9 J (Pe sz3 J ‹_› J J ?_));intro w73 hs73 hx73 hB5;refine Fa Cb5 J (Pe sz3 J ‹_› J J ?_);intro w74 hs74 hx74 hB5;have hB3:=hB3.q ((hx72.j hx73).j hx74) (by simp<;>omega);refine Pe G7 J ‹_› J J ?_;intro w75 hs75 hx75 hB3;have hC:=hC.step (((hx72.j hx73).j hx74).j hx75) (by simp<;>omega);have hB1:=hB1.q (((hx72.j hx73).j hx74).j hx75) (by simp<;>omega);have hB2:=hB2.q (((hx72.j hx73).j hx74).j hx75) (by simp<;>omega);have hB5:=hB5.q hx75 (by simp;omega);refine Qc ⟨⟨5,at_,0,0,bm,bn,false⟩,(bp,be),sb J,?_⟩;exact ⟨hC,by unfold Au2;simp only [C5];exact hB1,hB2,hB3,by unfold Au2;simp only [C5];exact hB5,hE,⟨j,hj,by omega⟩⟩
               ·try simp at d3
                rw [Ei3 (by omega)] at hE;refine A7 ⟨⟨5,at_,0,0,0,-1,false⟩,((at_:Int)+1,0),sb J,?_⟩;exact ⟨hC,by unfold Au2;simp only [C5];exact hB1,hB2,hB3,by unfold Au2;simp only [C5];exact hB5,hE,⟨at_+1,by show (at_:Int)+1=_;omega,by omega⟩⟩
            rintro e9 w9 ⟨t,q,hs9,hC,hB1,hB2,hB3,hB5,hR,hq⟩;refine I4 _ hs9 ?_;clear hs9 e9;obtain ⟨q1,qe⟩:=q;obtain ⟨i,hi,hi2⟩:=hq;simp only [] at hi;subst hi;unfold Cd8 at hR;simp only [Ej2] at hR;refine Qa (Qd (Fa Ac3 J (Lb o3 J ‹_› (by rfl) ?_)))
            refine Zc 1 J (A4 J (fun z1=>?_) (fun z1=>?_))
            ·try simp at z1
             rw [Ei4 z1] at hR;refine Qa (C6 (S:=[b1]) 3 [(0,0),(0,1),(1,2),(2,3)] mo (by kernel_rfl) ?_);intro w76 hx76 hh76;have hB1:=hB1.u hx76;have hB3:=hB3.u hx76;have hB5:=hB5.u hx76;have hCS76:=A8 ([b1]) w76;refine C9 J (B8 K2 J ‹_› (by simp;omega) J J) ?_;refine C9 J (B8 F8 J ‹_› (by simp;omega) J J) ?_;refine H7 (G1 V6 J J ‹_› J J J J J) ?_;intro w77 hs77 hx77 hB1;have hB2:=hB2.q (hx76.j hx77) (by simp<;>omega);have hCS76:=hCS76.step hx77 (by simp;done);refine ⟨hCS76,?_⟩;refine Pe G7 J ‹_› J J ?_;intro w78 hs78 hx78 hB2;have hC:=hC.step ((hx76.j hx77).j hx78) (by simp<;>omega);have hB1:=hB1.q hx78 (by simp;omega);refine Qc (A6 (C7 J J (A5 K2 ‹_› J J) J (A5 F8 ‹_› J J) ?_));exact ⟨hC,by rw [hR];rfl⟩
            ·try simp at z1
             have z1':qe=0:=by simpa using z1
             subst z1';rw [Ei3 (by simp)] at hR;refine A7 (Qa (Qd (Fa G4 J (Lb o3 J ‹_› (by rfl) ?_))))
             refine Z 1 J (C8 J (E8 Tryz.underlying9 J) (Z 2 J (B9 (d:=149) J (fun z2=>?_) (fun z2=>?_))))
             ·try simp at z2
              have hin:i<s.size:=by omega
              obtain ⟨u9,hu3,hu4⟩:=I7 s i hin;refine Qu J (Z 1 J (Qu J (Fa G4 J (Qu J (Lb o3 J ‹_› (by rfl) ?_)))));refine Qu J (C8 J (Does.to (F1 Tryz.underlying9 J J (by omega) (by exact hu3)) (J2 (show ((u9.toNat:Nat):Int)=(((B6 s).getD i 0:Nat):Int) by rw [hu4]))) ?_)
              refine Qu J (Zc 2 J (A4 J (fun z3=>?_) (fun z3=>?_)))
              ·rw [cmpB_eql] at z3;rw [Ei4 ⟨by omega,by omega⟩] at hR;simp only [] at hR;refine Qd (Fa Eb7 J (Pe sz4 J ‹_› J J ?_));intro w79 hs79 hx79 hB5;have hB3:=hB3.q hx79 (by simp;omega);refine Qc (Qb (Fa G4 J (Lb o3 J ‹_› (by rfl) ?_)));refine Ad J J (by omega) (Fa G4 J (Pe sz3 J ‹_› J J ?_));intro w80 hs80 hx80 hB3;have hC:=hC.step (hx79.j hx80) (by simp<;>omega);have hB1:=hB1.q (hx79.j hx80) (by simp<;>omega);have hB2:=hB2.q (hx79.j hx80) (by simp<;>omega);have hB5:=hB5.q hx80 (by simp;omega);refine Qc (Qa (Qd (Fa G4 J (Lb o3 J ‹_› (by rfl) ?_))))
               refine Z 1 J (C8 J (E8 Tryz.underlying9 J) (Z 2 J (B9 (d:=166) J (fun y1=>?_) (fun y1=>?_))))
               ·try simp at y1
                have hin:i+1<s.size:=by omega
                obtain ⟨v8,hv,hv2⟩:=I7 s (i+1) hin;refine Qu J (Z 1 J (Qu J (Fa G4 J (Qu J (Lb o3 J ‹_› (by rfl) ?_)))));refine Qu J (C8 J (Does.to (F1 Tryz.underlying9 J J (by omega) (by exact hv)) (J2 (show ((v8.toNat:Nat):Int)=(((B6 s).getD (i+1) 0:Nat):Int) by rw [hv2]))) ?_)
                refine Qu J (Zc 2 J (A4 J (fun y2=>?_) (fun y2=>?_)))
                ·rw [cmpB_eql] at y2;rw [Ei4 ⟨by omega,by omega⟩] at hR;refine Qb (Fa Ac3 J (Pe sz3 J ‹_› J J ?_));intro w81 hs81 hx81 hB3;refine Qc (Qa (C6 (S:=[b1]) 3 [(0,0),(0,1),(1,2),(2,3)] mo (by kernel_rfl) ?_));intro w82 hx82 hh82;have hB1:=hB1.q (hx81.j hx82) (by simp<;>omega);have hB3:=hB3.u hx82;have hB5:=hB5.q (hx81.j hx82) (by simp<;>omega);have hCS82:=A8 ([b1]) w82;refine C9 J (B8 K2 J ‹_› (by simp;omega) J J) ?_;refine C9 J (B8 F8 J ‹_› (by simp;omega) J J) ?_;refine H7 (G1 V6 J J ‹_› J J J J J) ?_;intro w83 hs83 hx83 hB1;have hB2:=hB2.q ((hx81.j hx82).j hx83) (by simp<;>omega);have hCS82:=hCS82.step hx83 (by simp;done);refine ⟨hCS82,?_⟩;refine Pe G7 J ‹_› J J ?_;intro w84 hs84 hx84 hB2;have hC:=hC.step (((hx81.j hx82).j hx83).j hx84) (by simp<;>omega);have hB1:=hB1.q hx84 (by simp;omega);refine Qc (A6 (C7 J J (A5 K2 ‹_› J J) J (A5 F8 ‹_› J J) ?_));exact ⟨hC,by rw [hR];rfl⟩
                ·rw [cmpB_eqlF] at y2;rw [Ei3 (by omega)] at hR;refine A7 (Qa (C6 (S:=[b1]) 3 [(0,0),(0,1),(1,2),(2,3)] mo (by kernel_rfl) ?_));intro w85 hx85 hh85;have hB1:=hB1.u hx85;have hB3:=hB3.u hx85;have hB5:=hB5.u hx85;have hCS85:=A8 ([b1]) w85;refine C9 J (B8 K2 J ‹_› (by simp;omega) J J) ?_;refine C9 J (B8 F8 J ‹_› (by simp;omega) J J) ?_;refine H7 (G1 V6 J J ‹_› J J J J J) ?_;intro w86 hs86 hx86 hB1;have hB2:=hB2.q (hx85.j hx86) (by simp<;>omega);have hCS85:=hCS85.step hx86 (by simp;done);refine ⟨hCS85,?_⟩;refine Pe G7 J ‹_› J J ?_;intro w87 hs87 hx87 hB2;have hC:=hC.step ((hx85.j hx86).j hx87) (by simp<;>omega);have hB1:=hB1.q hx87 (by simp;omega);refine Qc (A6 (C7 J J (A5 K2 ‹_› J J) J (A5 F8 ‹_› J J) ?_));exact ⟨hC,by rw [hR];rfl⟩
               ·try simp at y1
                rw [Ei3 (by omega)] at hR;refine Qk J (Qk J (Qk J (Qk J (Qk J (Zc 1 J (E2 J (A7 (Qa (C6 (S:=[b1]) 3 [(0,0),(0,1),(1,2),(2,3)] mo (by kernel_rfl) ?_)))))))));intro w88 hx88 hh88;have hB1:=hB1.u hx88;have hB3:=hB3.u hx88;have hB5:=hB5.u hx88;have hCS88:=A8 ([b1]) w88;refine C9 J (B8 K2 J ‹_› (by simp;omega) J J) ?_;refine C9 J (B8 F8 J ‹_› (by simp;omega) J J) ?_;refine H7 (G1 V6 J J ‹_› J J J J J) ?_;intro w89 hs89 hx89 hB1;have hB2:=hB2.q (hx88.j hx89) (by simp<;>omega);have hCS88:=hCS88.step hx89 (by simp;done);refine ⟨hCS88,?_⟩;refine Pe G7 J ‹_› J J ?_;intro w90 hs90 hx90 hB2;have hC:=hC.step ((hx88.j hx89).j hx90) (by simp<;>omega);have hB1:=hB1.q hx90 (by simp;omega);refine Qc (A6 (C7 J J (A5 K2 ‹_› J J) J (A5 F8 ‹_› J J) ?_));exact ⟨hC,by rw [hR];rfl⟩
              ·rw [cmpB_eqlF] at z3;rw [Ei3 (by omega)] at hR;simp only [] at hR;refine A7 (Qa (Qd (Fa G4 J (Lb o3 J ‹_› (by rfl) ?_))))
               refine Z 1 J (C8 J (E8 Tryz.underlying9 J) (Z 2 J (B9 (d:=166) J (fun y1=>?_) (fun y1=>?_))))
               ·try simp at y1
                have hin:i<s.size:=by omega
                obtain ⟨v8,hv,hv2⟩:=I7 s (i) hin;refine Qu J (Z 1 J (Qu J (Fa G4 J (Qu J (Lb o3 J ‹_› (by rfl) ?_)))));refine Qu J (C8 J (Does.to (F1 Tryz.underlying9 J J (by omega) (by exact hv)) (J2 (show ((v8.toNat:Nat):Int)=(((B6 s).getD (i) 0:Nat):Int) by rw [hv2]))) ?_)
                refine Qu J (Zc 2 J (A4 J (fun y2=>?_) (fun y2=>?_)))
                ·rw [cmpB_eql] at y2;rw [Ei4 ⟨by omega,by omega⟩] at hR;refine Qb (Fa Ac3 J (Pe sz3 J ‹_› J J ?_));intro w91 hs91 hx91 hB3;refine Qc (Qa (C6 (S:=[b1]) 3 [(0,0),(0,1),(1,2),(2,3)] mo (by kernel_rfl) ?_));intro w92 hx92 hh92;have hB1:=hB1.q (hx91.j hx92) (by simp<;>omega);have hB3:=hB3.u hx92;have hB5:=hB5.q (hx91.j hx92) (by simp<;>omega);have hCS92:=A8 ([b1]) w92;refine C9 J (B8 K2 J ‹_› (by simp;omega) J J) ?_;refine C9 J (B8 F8 J ‹_› (by simp;omega) J J) ?_;refine H7 (G1 V6 J J ‹_› J J J J J) ?_;intro w93 hs93 hx93 hB1;have hB2:=hB2.q ((hx91.j hx92).j hx93) (by simp<;>omega);have hCS92:=hCS92.step hx93 (by simp;done);refine ⟨hCS92,?_⟩;refine Pe G7 J ‹_› J J ?_;intro w94 hs94 hx94 hB2;have hC:=hC.step (((hx91.j hx92).j hx93).j hx94) (by simp<;>omega);have hB1:=hB1.q hx94 (by simp;omega);refine Qc (A6 (C7 J J (A5 K2 ‹_› J J) J (A5 F8 ‹_› J J) ?_));exact ⟨hC,by rw [hR];rfl⟩
                ·rw [cmpB_eqlF] at y2;rw [Ei3 (by omega)] at hR;refine A7 (Qa (C6 (S:=[b1]) 3 [(0,0),(0,1),(1,2),(2,3)] mo (by kernel_rfl) ?_));intro w95 hx95 hh95;have hB1:=hB1.u hx95;have hB3:=hB3.u hx95;have hB5:=hB5.u hx95;have hCS95:=A8 ([b1]) w95;refine C9 J (B8 K2 J ‹_› (by simp;omega) J J) ?_;refine C9 J (B8 F8 J ‹_› (by simp;omega) J J) ?_;refine H7 (G1 V6 J J ‹_› J J J J J) ?_;intro w96 hs96 hx96 hB1;have hB2:=hB2.q (hx95.j hx96) (by simp<;>omega);have hCS95:=hCS95.step hx96 (by simp;done);refine ⟨hCS95,?_⟩;refine Pe G7 J ‹_› J J ?_;intro w97 hs97 hx97 hB2;have hC:=hC.step ((hx95.j hx96).j hx97) (by simp<;>omega);have hB1:=hB1.q hx97 (by simp;omega);refine Qc (A6 (C7 J J (A5 K2 ‹_› J J) J (A5 F8 ‹_› J J) ?_));exact ⟨hC,by rw [hR];rfl⟩
               ·try simp at y1
                rw [Ei3 (by omega)] at hR;refine Qk J (Qk J (Qk J (Qk J (Qk J (Zc 1 J (E2 J (A7 (Qa (C6 (S:=[b1]) 3 [(0,0),(0,1),(1,2),(2,3)] mo (by kernel_rfl) ?_)))))))));intro w98 hx98 hh98;have hB1:=hB1.u hx98;have hB3:=hB3.u hx98;have hB5:=hB5.u hx98;have hCS98:=A8 ([b1]) w98;refine C9 J (B8 K2 J ‹_› (by simp;omega) J J) ?_;refine C9 J (B8 F8 J ‹_› (by simp;omega) J J) ?_;refine H7 (G1 V6 J J ‹_› J J J J J) ?_;intro w99 hs99 hx99 hB1;have hB2:=hB2.q (hx98.j hx99) (by simp<;>omega);have hCS98:=hCS98.step hx99 (by simp;done);refine ⟨hCS98,?_⟩;refine Pe G7 J ‹_› J J ?_;intro w100 hs100 hx100 hB2;have hC:=hC.step ((hx98.j hx99).j hx100) (by simp<;>omega);have hB1:=hB1.q hx100 (by simp;omega);refine Qc (A6 (C7 J J (A5 K2 ‹_› J J) J (A5 F8 ‹_› J J) ?_));exact ⟨hC,by rw [hR];rfl⟩
             ·try simp at z2
              rw [Ei3 (by omega)] at hR;simp only [] at hR;refine Qk J (Qk J (Qk J (Qk J (Qk J (Zc 1 J (E2 J (A7 (Qa (Qd (Fa G4 J (Lb o3 J ‹_› (by rfl) ?_)))))))))))
              refine Z 1 J (C8 J (E8 Tryz.underlying9 J) (Z 2 J (B9 (d:=166) J (fun y1=>?_) (fun y1=>?_))))
              ·try simp at y1
               have hin:i<s.size:=by omega
               obtain ⟨v8,hv,hv2⟩:=I7 s (i) hin;refine Qu J (Z 1 J (Qu J (Fa G4 J (Qu J (Lb o3 J ‹_› (by rfl) ?_)))));refine Qu J (C8 J (Does.to (F1 Tryz.underlying9 J J (by omega) (by exact hv)) (J2 (show ((v8.toNat:Nat):Int)=(((B6 s).getD (i) 0:Nat):Int) by rw [hv2]))) ?_)
               refine Qu J (Zc 2 J (A4 J (fun y2=>?_) (fun y2=>?_)))
               ·rw [cmpB_eql] at y2;rw [Ei4 ⟨by omega,by omega⟩] at hR;refine Qb (Fa Ac3 J (Pe sz3 J ‹_› J J ?_));intro w101 hs101 hx101 hB3;refine Qc (Qa (C6 (S:=[b1]) 3 [(0,0),(0,1),(1,2),(2,3)] mo (by kernel_rfl) ?_));intro w102 hx102 hh102;have hB1:=hB1.q (hx101.j hx102) (by simp<;>omega);have hB3:=hB3.u hx102;have hB5:=hB5.q (hx101.j hx102) (by simp<;>omega);have hCS102:=A8 ([b1]) w102;refine C9 J (B8 K2 J ‹_› (by simp;omega) J J) ?_;refine C9 J (B8 F8 J ‹_› (by simp;omega) J J) ?_;refine H7 (G1 V6 J J ‹_› J J J J J) ?_;intro w103 hs103 hx103 hB1;have hB2:=hB2.q ((hx101.j hx102).j hx103) (by simp<;>omega);have hCS102:=hCS102.step hx103 (by simp;done);refine ⟨hCS102,?_⟩;refine Pe G7 J ‹_› J J ?_;intro w104 hs104 hx104 hB2;have hC:=hC.step (((hx101.j hx102).j hx103).j hx104) (by simp<;>omega);have hB1:=hB1.q hx104 (by simp;omega);refine Qc (A6 (C7 J J (A5 K2 ‹_› J J) J (A5 F8 ‹_› J J) ?_));exact ⟨hC,by rw [hR];rfl⟩
               ·rw [cmpB_eqlF] at y2;rw [Ei3 (by omega)] at hR;refine A7 (Qa (C6 (S:=[b1]) 3 [(0,0),(0,1),(1,2),(2,3)] mo (by kernel_rfl) ?_));intro w105 hx105 hh105;have hB1:=hB1.u hx105;have hB3:=hB3.u hx105;have hB5:=hB5.u hx105;have hCS105:=A8 ([b1]) w105;refine C9 J (B8 K2 J ‹_› (by simp;omega) J J) ?_;refine C9 J (B8 F8 J ‹_› (by simp;omega) J J) ?_;refine H7 (G1 V6 J J ‹_› J J J J J) ?_;intro w106 hs106 hx106 hB1;have hB2:=hB2.q (hx105.j hx106) (by simp<;>omega);have hCS105:=hCS105.step hx106 (by simp;done);refine ⟨hCS105,?_⟩;refine Pe G7 J ‹_› J J ?_;intro w107 hs107 hx107 hB2;have hC:=hC.step ((hx105.j hx106).j hx107) (by simp<;>omega);have hB1:=hB1.q hx107 (by simp;omega);refine Qc (A6 (C7 J J (A5 K2 ‹_› J J) J (A5 F8 ‹_› J J) ?_));exact ⟨hC,by rw [hR];rfl⟩
              ·try simp at y1
               rw [Ei3 (by omega)] at hR;refine Qk J (Qk J (Qk J (Qk J (Qk J (Zc 1 J (E2 J (A7 (Qa (C6 (S:=[b1]) 3 [(0,0),(0,1),(1,2),(2,3)] mo (by kernel_rfl) ?_)))))))));intro w108 hx108 hh108;have hB1:=hB1.u hx108;have hB3:=hB3.u hx108;have hB5:=hB5.u hx108;have hCS108:=A8 ([b1]) w108;refine C9 J (B8 K2 J ‹_› (by simp;omega) J J) ?_;refine C9 J (B8 F8 J ‹_› (by simp;omega) J J) ?_;refine H7 (G1 V6 J J ‹_› J J J J J) ?_;intro w109 hs109 hx109 hB1;have hB2:=hB2.q (hx108.j hx109) (by simp<;>omega);have hCS108:=hCS108.step hx109 (by simp;done);refine ⟨hCS108,?_⟩;refine Pe G7 J ‹_› J J ?_;intro w110 hs110 hx110 hB2;have hC:=hC.step ((hx108.j hx109).j hx110) (by simp<;>omega);have hB1:=hB1.q hx110 (by simp;omega);refine Qc (A6 (C7 J J (A5 K2 ‹_› J J) J (A5 F8 ‹_› J J) ?_));exact ⟨hC,by rw [hR];rfl⟩
def GoodP (L:List Nat) (at_:Nat) (e:Int × Int):Prop:=e.2=0→∃ j:Nat,e.1=(j:Int)∧at_+1≤j∧j≤L.length
theorem Ac6 {L:List Nat} {at_:Nat} {a b:Int} (h:b≠0):GoodP L at_ (a,b):=fun h'=>absurd h' h
theorem GoodP.one {L:List Nat} {at_:Nat} (h:at_<L.length):GoodP L at_ ((at_:Int)+1,0):=fun _=>⟨at_+1,by show (at_:Int)+1=_;omega,by omega,by omega⟩
theorem Ec6 (L:List Nat) (at_:Nat):GoodP L at_ (Cm6 L at_).2:=fun h=>by
 obtain ⟨i,h1,h2,_⟩:=De9 L at_;exact ⟨i,h1,by have:=(h2 h).1;omega,(h2 h).2⟩
theorem Dg0 (L:List Nat):∀ (f:Nat) (fi:Bool) (on:List Bool) (i:Nat) (on':List Bool) (i':Nat),Cx2 L f fi on i= .inr (on',i')→i≤i'∧(i'<L.length∨(i'=i∧fi=false∧i<L.length))
 |0,fi,on,i,on',i',h=>by cases h
 |f+1,fi,on,i,on',i',h=>by
  rw [Cx2] at h
  by_cases hg:fi=true∨L.length≤i∨L.getD i 0≠93
  ·rw [Ei4 hg] at h
   cases hs:Ac4 L on i with
   |inl e=>rw [hs] at h;cases h
   |inr x=>
    obtain ⟨on2,i2⟩:=x;rw [hs] at h
    have hi2:i<i2:=by
     unfold Ac4 at hs;simp only [] at hs;obtain ⟨i1,h1,h2,_⟩:=Ax0 L i;obtain ⟨i3,h3,h4,_⟩:=Ax0 L ((V3 L i).2.1.toNat+1);generalize V3 L ((V3 L i).2.1.toNat+1)=y at*;generalize V3 L i=x at*;obtain ⟨x1,xp,xe⟩:=x;obtain ⟨y1,yp,ye⟩:=y;simp only [] at h1 h2 h3 h4 hs;subst h1 h3;simp only [Ej2] at hs h4
     by_cases e1:xe≠0
     ·rw [Ei4 e1] at hs;cases hs
     rw [Ei3 e1] at hs;have h2:=h2 (by simpa using e1)
     by_cases e2:L.length≤i1∨L.getD i1 0≠45
     ·rw [Ei4 e2] at hs;injection hs with hs;injection hs with _ hs;omega
     rw [Ei3 e2] at hs
     by_cases e3:Z5 x1<0
     ·rw [Ei4 e3] at hs;cases hs
     rw [Ei3 e3] at hs
     by_cases e4:ye≠0
     ·rw [Ei4 e4] at hs;cases hs
     rw [Ei3 e4] at hs;have h4:=h4 (by simpa using e4)
     by_cases e5:Z5 y1<0
     ·rw [Ei4 e5] at hs;cases hs
     rw [Ei3 e5] at hs
     by_cases e6:Z5 y1<Z5 x1
     ·rw [Ei4 e6] at hs;cases hs
     rw [Ei3 e6] at hs;injection hs with hs
     injection hs with _ hs
     omega
    have:=Dg0 L f false on2 i2 on' i' h;exact ⟨by omega,by rcases this.2 with h5|h5;exact .inl h5;exact .inl (by omega)⟩
  ·rw [Ei3 hg] at h;injection h with h
   injection h with h1 h2
   subst h2;have:=Er7.1 hg;exact ⟨Ej4 _,.inl (by have:=Er7.1 this.2;omega)⟩
theorem Bn1 (L:List Nat) (on:List Bool) (i:Nat) (e:Int × Int) (hs:Ac4 L on i= .inl e):e.2≠0:=by
 unfold Ac4 at hs;simp only [] at hs;generalize V3 L ((V3 L i).2.1.toNat+1)=y at*;generalize V3 L i=x at*
 by_cases e1:x.2.2≠0
 ·rw [Ei4 e1] at hs;injection hs with hs;rw [← hs];exact e1
 rw [Ei3 e1] at hs
 by_cases e2:L.length≤x.2.1.toNat∨L.getD x.2.1.toNat 0≠45
 ·rw [Ei4 e2] at hs;cases hs
 rw [Ei3 e2] at hs
 by_cases e3:Z5 x.1<0
 ·rw [Ei4 e3] at hs;injection hs with hs;rw [← hs];show (4:Int)≠0;decide
 rw [Ei3 e3] at hs
 by_cases e4:y.2.2≠0
 ·rw [Ei4 e4] at hs;injection hs with hs;rw [← hs];exact e4
 rw [Ei3 e4] at hs
 by_cases e5:Z5 y.1<0
 ·rw [Ei4 e5] at hs;injection hs with hs;rw [← hs];show (4:Int)≠0;decide
 rw [Ei3 e5] at hs
 by_cases e6:Z5 y.1<Z5 x.1
 ·rw [Ei4 e6] at hs;injection hs with hs;rw [← hs];show (5:Int)≠0;decide
 rw [Ei3 e6] at hs
 cases hs
theorem Cd9 (L:List Nat):∀ (f:Nat) (fi:Bool) (on:List Bool) (i:Nat) (e:Int × Int),Cx2 L f fi on i= .inl e→e.2≠0
 |0,fi,on,i,e,h=>by
  rw [Cx2] at h;injection h with h
  rw [← h];show (4:Int)≠0
  decide
 |f+1,fi,on,i,e,h=>by
  rw [Cx2] at h
  by_cases hg:fi=true∨L.length≤i∨L.getD i 0≠93
  ·rw [Ei4 hg] at h
   cases hs:Ac4 L on i with
   |inl e'=>rw [hs] at h;injection h with h;rw [← h];exact Bn1 L on i e' hs
   |inr x=>obtain ⟨on2,i2⟩:=x;rw [hs] at h;exact Cd9 L f false on2 i2 e h
  ·rw [Ei3 hg] at h;cases h
theorem Cx3 (L:List Nat) (at_:Nat):GoodP L at_ (An9 L at_).2:=by
 unfold An9;simp only []
 cases hr:Cx2 L (L.length+2) true (List.replicate 256 false) (at_+1+if Dw6 L at_=true then 1 else 0) with
 |inl e=>exact fun h=>absurd h (Cd9 L _ _ _ _ e hr)
 |inr x=>
  obtain ⟨on,i⟩:=x;have:=Dg0 L _ _ _ _ _ _ hr;exact fun _=>⟨i+1,by show (i:Int)+1=_;omega,by omega,by rcases this.2 with h|h;omega;omega⟩
theorem Ax8 {L:List Nat} {at_:Nat} {t:RTk} {e:Int × Int} (h:GoodP L at_ e):GoodP L at_ (Cd8 L t e).2:=by
 unfold Cd8
 by_cases h1:e.2≠0
 ·rw [Ei4 h1];exact h
 rw [Ei3 h1];obtain ⟨j,h2,h3,h4⟩:=h (by simpa using h1);obtain ⟨e1,e2⟩:=e;simp only [] at h2;subst h2;simp only [Ej2]
 by_cases h5:j<L.length∧L.getD j 0=63
 ·rw [Ei4 h5];exact fun _=>⟨j+1,rfl,by omega,by omega⟩
 ·rw [Ei3 h5];exact fun _=>⟨j,rfl,by omega,by omega⟩
theorem At7 {L:List Nat} {at_:Nat} (m n:Int) {i:Nat} (h:at_≤i):GoodP L at_ (L7 L m n i).2.2:=by
 unfold L7
 by_cases h1:L.length≤i∨L.getD i 0≠125
 ·rw [Ei4 h1];exact Ac6 (by decide)
 ·rw [Ei3 h1];have:=Er7.1 h1;exact fun _=>⟨i+1,by show (i:Int)+1=_;omega,by omega,by omega⟩
theorem Co1 (L:List Nat) (hL:∀ b∈L,b<256) (at_:Nat):GoodP L at_ (J7 L at_).2.2:=by
 obtain ⟨_,_,i,hi,hi1,hi2⟩:=S4 L hL at_;unfold J7;simp only [];generalize I8 L at_=a at*;obtain ⟨m,p,e⟩:=a;simp only [] at hi;subst hi;simp only [Ej2]
 by_cases h1:e≠0
 ·rw [Ei4 h1];exact Ac6 h1
 rw [Ei3 h1]
 by_cases h2:i<L.length∧L.getD i 0=44
 ·rw [Ei4 h2]
  by_cases h3:L.length≤i+1∨L.getD (i+1) 0≠125
  ·rw [Ei4 h3];obtain ⟨_,_,k,hk,hk1,hk2⟩:=S4 L hL (i+1);generalize I8 L (i+1)=b at*;obtain ⟨m2,p2,e2⟩:=b;simp only [] at hk;subst hk;simp only [Ej2]
   by_cases h4:e2≠0
   ·rw [Ei4 h4];exact Ac6 h4
   rw [Ei3 h4]
   by_cases h5:m2<m
   ·rw [Ei4 h5];exact Ac6 (by decide)
   rw [Ei3 h5];exact At7 m m2 (by omega)
  ·rw [Ei3 h3];exact At7 m (-1) (by omega)
 ·rw [Ei3 h2];exact At7 m m (by omega)
theorem GoodP.low {L:List Nat} {a b:Nat} {e:Int × Int} (h:GoodP L b e) (hab:a≤b):GoodP L a e:=fun h'=>by
 obtain ⟨j,h1,h2,h3⟩:=h h';exact ⟨j,h1,by omega,h3⟩
theorem Cj0 (L:List Nat) (hL:∀ b∈L,b<256) (at_:Nat) (h:at_<L.length):GoodP L at_ (Cf2 L at_).2:=by
 have h1:GoodP L at_ ((at_:Int)+1,0):=GoodP.one h;unfold Cf2;simp only [];generalize L.getD at_ 0=c
 by_cases c1:c=92
 ·rw [Ei4 c1];exact Ec6 L at_
 rw [Ei3 c1]
 by_cases c2:c=91
 ·rw [Ei4 c2];exact Cx3 L at_
 rw [Ei3 c2]
 by_cases c3:c=40
 ·rw [Ei4 c3]
  by_cases d1:at_+1<L.length∧L.getD (at_+1) 0=63
  ·rw [Ei4 d1]
   by_cases d2:L.length≤at_+2∨L.getD (at_+2) 0≠58
   ·rw [Ei4 d2];exact Ac6 (by decide)
   ·rw [Ei3 d2];have:=Er7.1 d2;exact fun _=>⟨at_+3,by show (at_:Int)+3=_;omega,by omega,by omega⟩
  ·rw [Ei3 d1];exact h1
 rw [Ei3 c3]
 by_cases c4:c=41
 ·rw [Ei4 c4];exact h1
 rw [Ei3 c4]
 by_cases c5:c=124
 ·rw [Ei4 c5];exact h1
 rw [Ei3 c5]
 by_cases c6:c=46
 ·rw [Ei4 c6];exact h1
 rw [Ei3 c6]
 by_cases c7:c=94∨c=36
 ·rw [Ei4 c7];exact Ac6 (by decide)
 rw [Ei3 c7]
 by_cases c8:c=93∨c=125
 ·rw [Ei4 c8];exact Ac6 (by decide)
 rw [Ei3 c8]
 by_cases c9:c∉B6 Ee9
 ·rw [Ei4 c9];exact h1
 rw [Ei3 c9]
 by_cases e1:c=43
 ·rw [Ei4 e1];exact Ax8 h1
 rw [Ei3 e1]
 by_cases e2:c=63
 ·rw [Ei4 e2];exact Ax8 h1
 rw [Ei3 e2]
 by_cases e3:c=123
 ·rw [Ei4 e3];exact Ax8 ((Co1 L hL (at_+1)).low (by omega))
 rw [Ei3 e3];exact Ax8 h1
def U9 (l:List RTk):List Value:=l.flatMap Au2
theorem Bx4 (l:List RTk) (t:RTk):U9 (l++[t])=U9 l++Au2 t:=by simp [U9]
theorem rscan_c (s:ByteArray) (hs:s.size≤1000) (w:World):Calls P 118 #[.string s] w (Ret fun u w'=>Chg [] w w'∧∃ A c,u= .tuple #[.slice A (K0 (B6 s)).1.length c,.int .i64 (K0 (B6 s)).2.1,.int .i64 (K0 (B6 s)).2.2]∧Rd (FR w.heap.size w'.heap.size []) w' 10 A (K0 (B6 s)).1.length (U9 (K0 (B6 s)).1)):=by
 have hC:=A8 [] w;have hsl:=E6 s;have hlt:=T0 s;have hr:Y6 (B6 s) ((B6 s).length+1) 0 []=K0 (B6 s):=rfl;generalize K0 (B6 s)=r at*
 refine D6 Tryz.func118 J J (Qd (Zc 3 J (Qd (Zc 1 J (Qa (Qd (Zc 1 J (B1 (D8 (σ:=Nat × Nat × List RTk × Option Addr × Nat) (fun (f,at_,l,A,c)=>[(0,.string s),(5,.slice A l.length c),(6,.int .i64 at_)]) (fun (f,at_,l,A,c) wr=>Chg [] w wr∧Own wr w.heap.size 231 10 A l.length c (U9 l)∧Y6 (B6 s) f at_ l=r∧(B6 s).length<at_+f∧at_≤(B6 s).length∧l.length≤at_) (fun (f,at_,l,A,c) wr=>f) ((B6 s).length+1,0,[],none,0) (sb J) ?_ ?_)))))))))
 ·exact ⟨hC,Own.nil _ _ _ _,hr,by omega,by omega,by simp⟩
 rintro ⟨f,at_,l,A,c⟩ w9 ⟨hC,hO,hN,hf,hat,hll⟩;obtain ⟨f,rfl⟩:∃ g,f=g+1:=⟨f - 1,by omega⟩;have hOb:=hO.blk;rw [Y6] at hN
 try have hzw:=hC.size
 refine Qa (Qd (Z 2 J (C8 J (E8 Tryz.underlying9 J) (Zc 1 J (A4 J (fun h1=>?_) (fun h1=>?_))))))
 ·try simp at h1
  have hin:at_<s.size:=by omega
  rw [Ei4 (by omega)] at hN;simp only [] at hN;have hg:=Cj0 (B6 s) hlt at_ (by omega);refine A7 (B1 (Qd (Z 2 J (Ca fb145 J (rone_c s hs at_ hin _) ?_))));rintro _ w1 ⟨hx1,rfl⟩;have hz1:=hx1.size;generalize Cf2 (B6 s) at_=x at*;obtain ⟨x,p,e⟩:=x;refine Z 3 J (B4 J (B7 Cq6 J) ?_);intro b2 w2 hb2 hs2 hx2 hB2;refine B4 J (B7 J1 J) ?_;intro b3 w3 hb3 hs3 hx3 hB3;have hO:=hO.u ((hx1.s0 hx2).s0 hx3);have hB2:=hB2.u hx3;refine Pe V6 J ‹_› J J ?_;intro w4 hs4 hx4 hB2;have hO:=(by exact hO.q hx4 (by intro x hx;have hx:=Ei6.1 hx;right;intro h;have:=hOb x (by rw [h];exact Ei6.2 J);omega));have hB3:=hB3.q hx4 (by simp;omega);refine Pe G7 J ‹_› J J ?_;intro w5 hs5 hx5 hB3;have hC:=hC.step ((((hx1.j hx2).j hx3).j hx4).j hx5) (by simp<;>omega);have hO:=(by exact hO.q hx5 (by intro x hx;have hx:=Ei6.1 hx;right;intro h;have:=hOb x (by rw [h];exact Ei6.2 J);omega));have hB2:=hB2.q hx5 (by simp;omega);refine Qc (Qa (Qd (Fa Ac3 J (Lb o3 J ‹_› (by rfl) ?_))))
  refine Zc 1 J (A4 J (fun e1=>?_) (fun e1=>?_))
  ·try simp at e1
   rw [Ei4 e1] at hN;subst hN;refine Qa (C6 (S:=[]) 6 [(0,0),(0,1),(0,2),(0,3),(0,4),(0,5),(2,6)] mo (by kernel_rfl) ?_);intro w6 hx6 hh6;have hC:=hC.s0 hx6;have hB3:=hB3.u hx6;refine Fa G4 J (C9 J (B2 o3 J ‹_› (by simp;done) (by rfl)) ?_);refine Fa Ac3 J (C9 J (B2 o3 J ‹_› (by simp;done) (by rfl)) ?_);exact Zc 3 J (A6 (O6 J J J J ⟨hC,none,0,rfl,Rd.nil _ _ _ _⟩))
  ·try simp at e1
   have e1':e=0:=by simpa using e1
   subst e1';obtain ⟨j,hj,hj1,hj2⟩:=hg rfl;simp only [] at hj;subst hj;rw [Ei3 (by simp)] at hN;simp only [Ej2] at hN;refine A7 (Qd (Fa G4 J (Lb o3 J ‹_› (by rfl) ?_)));refine Fa Cb6 J (Pe sz3 J ‹_› J J ?_);intro w7 hs7 hx7 hB2;have hO:=(by exact hO.q hx7 (by intro x hx;have hx:=Ei6.1 hx;right;intro h;have:=hOb x (by rw [h];exact Ei6.2 J);omega));refine Qc (Qd (Z 1 J (La K2 J ‹_› J J ?_)));refine B4 J (B5 Ak8 Tryz.underlying187 Cq6 J J J (by rfl)) ?_;intro b8 w8 hb8 hs8 hx8 hB8;have hC:=hC.step (hx7.j hx8) (by simp<;>omega);have hO:=hO.u hx8;have hB3:=hB3.q (hx7.j hx8) (by simp<;>omega);refine G2 J el187 J J hO (Blk.rd (F:=fun _=>True) ‹_› J trivial) (by rfl) (by omega) (by omega) ?_;intro A' c' w9 hO9 hx9 hA';have hC:=hC.step hx9 (by intro x h;have:=hOb x h;exact .inr (by omega));have hB3:=hB3.q hx9 (by intro h;have:=hOb _ h;omega)
   replace hO:=hO9
   refine Zc 1 J (Qb (Fa G4 J (Lb o3 J ‹_› (by rfl) ?_)));refine Zc 1 J ⟨(f,j,l++[{ x with till:=(j:Int) }],A',c'),⟨rfl,(V0 J (by rw [Ei8];rfl)),rfl,trivial⟩,?_,?_⟩;refine ⟨hC,by rw [Ei8,Bx4];exact hO,hN,by omega,by omega,by simp;omega⟩;show f<f+1;omega
 ·try simp at h1
  rw [Ei3 (by omega)] at hN;subst hN;exact Xb (Qd (Z 2 J (Ln Tryz.underlying187 J (Zc 3 J (A6 (O6 J J J J ⟨hC,A,c,rfl,hO.rd (fun x h1 h2=>⟨h1,h2,by simp⟩)⟩))))))
end Go.Clt
section
namespace Go.Clt
open Go Go.RowKit
def SameE (r:Nat × Int × Int) (q:Nat × Ps):Prop:=r.2.2=0→q.2.e=0→r.1=q.1∧r.2.1=(q.2.i:Int)
theorem Ch0:∀ c,c<256→decide (c∈B6 Dj1)=decide (0≤Bd4 Au6 c):=by decide+kernel
theorem cls_same:∀ c,c<256→decide (c∈B6 clsT)=decide (0≤Bd4 Cl1 c):=by decide+kernel
theorem As4 (l:List Bool) (j:Nat):(onS l).testBit j=(decide (j<256) && l.getD j false):=by
 unfold onS;rw [Ah1];unfold onL;rw [Ej7];simp only [Ek1,Ep6,El0,Ei9]
theorem smS_bit (l:List (Int × Int)) (neg:Bool) (j:Nat):(smS l neg).testBit j=(decide (j<256) && (inP l j !=neg)):=by
 unfold smS;rw [As4]
 by_cases hj:j<256
 ·unfold smL;simp [Ei5,hj]
 ·rw [Ej6 hj];rfl
theorem Au7 (c:Nat) (hc:c<256):smS [((c:Int),(c:Int))] false=E9 [c]:=by
 apply Eq1;intro j;rw [smS_bit,Ah1,Ej7];simp [inP];omega
def hexW (c:Nat):Int:=if c<65 then Bd4 decT c else Bd4 hexT (c|||32)
theorem hex_same:∀ c,c<256→hexW c=Ai9 c:=by decide+kernel
theorem Cl3:∀ c,c<256→Ai9 c<16:=by decide+kernel
def Dc3 (c:Nat):Option Nat:=
 if c=110 then some (smS [(10,10)] false) else if c=116 then some (smS [(9,9)] false) else if c=114 then some (smS [(13,13)] false) else if c=102 then some (smS [(12,12)] false) else if c=118 then some (smS [(11,11)] false)
 else if c=100∨c=68 then some (smS digs (Aa3 .eql (c:Int) 68)) else if c=119∨c=87 then some (smS wrds (Aa3 .eql (c:Int) 87)) else if c=115∨c=83 then some (smS spcs (Aa3 .eql (c:Int) 83)) else none
theorem Dk7 (c:Nat):Dc3 c=Ai7 c:=by
 unfold Dc3 Ai7;have a1:smS [(10,10)] false=E9 [10]:=Au7 10 (by decide);have a2:smS [(9,9)] false=E9 [9]:=Au7 9 (by decide);have a3:smS [(13,13)] false=E9 [13]:=Au7 13 (by decide);have a4:smS [(12,12)] false=E9 [12]:=Au7 12 (by decide);have a5:smS [(11,11)] false=E9 [11]:=Au7 11 (by decide);have b1:smS digs false=At6:=by decide+kernel
 have b2:smS digs true=P8 At6:=by decide+kernel
 have b3:smS wrds false=Di1:=by decide+kernel
 have b4:smS wrds true=P8 Di1:=by decide+kernel
 have b5:smS spcs false=Cg7:=by decide+kernel
 have b6:smS spcs true=P8 Cg7:=by decide+kernel
 rw [a1,a2,a3,a4,a5]
 by_cases h1:c=110
 ·simp only [Ei4 h1]
 by_cases h2:c=116
 ·simp only [Ei3 h1,Ei4 h2]
 by_cases h3:c=114
 ·simp only [Ei3 h1,Ei3 h2,Ei4 h3]
 by_cases h4:c=102
 ·simp only [Ei3 h1,Ei3 h2,Ei3 h3,Ei4 h4]
 by_cases h5:c=118
 ·simp only [Ei3 h1,Ei3 h2,Ei3 h3,Ei3 h4,Ei4 h5]
 simp only [Ei3 h1,Ei3 h2,Ei3 h3,Ei3 h4,Ei3 h5]
 by_cases h6:c=100
 ·subst h6;simpa [Aa3] using b1
 by_cases h7:c=68
 ·subst h7;simpa [Aa3] using b2
 by_cases h8:c=119
 ·subst h8;simpa [Aa3] using b3
 by_cases h9:c=87
 ·subst h9;simpa [Aa3] using b4
 by_cases h10:c=115
 ·subst h10;simpa [Aa3] using b5
 by_cases h11:c=83
 ·subst h11;simpa [Aa3] using b6
 simp only [h6,h7,h8,h9,h10,h11,or_self,if_false]
theorem Am9 (s:ByteArray) (i:Nat):(B6 s).getD i 0<256:=Ad2 s ⟨i,0⟩
theorem bit_hi {s j:Nat} (h:L0 s) (hj:¬ j<256):s.testBit j=false:=Nat.testBit_lt_two_pow (Er4 h (Nat.pow_le_pow_right (by decide) (by omega)))
theorem Bz3 (f g:Nat→Bool) (k j:Nat) (hj:j<256):(Dc8 f g k).getD j false=if j<k then f j else g j:=by
 unfold Dc8;simp [Ei5,hj]
theorem Dn4 (L:List Nat) (at_:Nat) (hi:¬ L.length≤at_+1) (hs:¬ L.getD (at_+1) 0∈B6 Dj1):
  Cm6 L at_=match Dc3 (L.getD (at_+1) 0) with
   |some s=>(s,(at_:Int)+2,0)
   |none=>if L.getD (at_+1) 0=120 then
     (match As9 L (at_+2) 2 0 with| .inl n=>(smS [((n:Int),(n:Int))] false,(at_:Int)+4,0)| .inr i=>(0,(i:Int),4))
    else if L.getD (at_+1) 0∈B6 unT then (0,(at_:Int),6) else (0,(at_:Int)+1,4):=by
 unfold Cm6;rw [Ei3 hi];simp only [Ei3 hs];unfold Dc3;generalize L.getD (at_+1) 0=c
 by_cases h1:c=110
 ·simp only [Ei4 h1]
 by_cases h2:c=116
 ·simp only [Ei3 h1,Ei4 h2]
 by_cases h3:c=114
 ·simp only [Ei3 h1,Ei3 h2,Ei4 h3]
 by_cases h4:c=102
 ·simp only [Ei3 h1,Ei3 h2,Ei3 h3,Ei4 h4]
 by_cases h5:c=118
 ·simp only [Ei3 h1,Ei3 h2,Ei3 h3,Ei3 h4,Ei4 h5]
 by_cases h6:c=100∨c=68
 ·simp only [Ei3 h1,Ei3 h2,Ei3 h3,Ei3 h4,Ei3 h5,Ei4 h6]
 by_cases h7:c=119∨c=87
 ·simp only [Ei3 h1,Ei3 h2,Ei3 h3,Ei3 h4,Ei3 h5,Ei3 h6,Ei4 h7]
 by_cases h8:c=115∨c=83
 ·simp only [Ei3 h1,Ei3 h2,Ei3 h3,Ei3 h4,Ei3 h5,Ei3 h6,Ei3 h7,Ei4 h8]
 simp only [Ei3 h1,Ei3 h2,Ei3 h3,Ei3 h4,Ei3 h5,Ei3 h6,Ei3 h7,Ei3 h8]
 rfl
theorem Dd9 (s:ByteArray) {p:Ps} (hp:p.e=0) (h:(Be5 (B6 s) p).2.e=0):
  p.i<(B6 s).length∧0≤Ai9 ((B6 s).getD p.i 0)∧Be5 (B6 s) p=((Ai9 ((B6 s).getD p.i 0)).toNat,p.go 1):=by
 have hv:hexV (B6 s) p=Ai9 ((B6 s).getD p.i 0):=hex_same _ (Am9 s _);unfold Be5 at h ⊢
 by_cases hb:Ca6 (B6 s) p=true
 ·rw [Ei4 hb];unfold Ca6 at hb;rw [hv] at hb ⊢;simp only [Ei9,Ek1] at hb;exact ⟨hb.1,hb.2,rfl⟩
 ·rw [Ei3 hb] at h;exact absurd h (Z8 (by decide))
theorem De8 (s:ByteArray) {p:Ps} (hp:p.e=0):SameE (Cm6 (B6 s) p.i) (J5 (B6 s) p):=by
 intro hr hq;have hc:=Am9 s (p.i+1);unfold J5 at hq ⊢;simp only [H5,show (p.go 1).i=p.i+1 from rfl] at hq ⊢
 by_cases hi:p.i+1<(B6 s).length
 ·rw [Ei3 (by omega)] at hq ⊢
  by_cases hs:(B6 s).getD (p.i+1) 0∈B6 Dj1
  ·have h2:0≤Bd4 Au6 ((B6 s).getD (p.i+1) 0):=by have:=Ch0 _ hc;rw [Ej5 hs] at this;exact Em9 this.symm
   rw [Ei4 h2] at hq ⊢;unfold Cm6;rw [Ei3 (by omega)];simp only [Ei4 hs];exact ⟨Au7 _ hc,by show _=((p.i+1+1:Nat):Int);omega⟩
  ·have h2:¬ 0≤Bd4 Au6 ((B6 s).getD (p.i+1) 0):=by have:=Ch0 _ hc;rw [Ej6 hs] at this;exact Es7 this.symm
   rw [Ei3 h2] at hq ⊢;rw [Dn4 (B6 s) p.i (by omega) hs,Dk7] at hr ⊢
   cases hn:Ai7 ((B6 s).getD (p.i+1) 0) with
   |some s=>simp only [];exact ⟨trivial,by show _=((p.i+1+1:Nat):Int);omega⟩
   |none=>
    rw [hn] at hr hq;simp only [] at hr hq ⊢
    by_cases hx:(B6 s).getD (p.i+1) 0=120
    ·rw [Ei4 hx] at hr hq ⊢
     by_cases h0:(Be5 (B6 s) ((p.go 1).go 1)).2.e=0
     ·rw [Ei4 h0] at hq ⊢;obtain ⟨a1,a2,a3⟩:=Dd9 s (p:=(p.go 1).go 1) (by exact hp) h0;rw [a3] at hq ⊢;obtain ⟨b1,b2,b3⟩:=Dd9 s (p:=((p.go 1).go 1).go 1) (by exact hp) hq;simp only [] at hq ⊢;rw [b3];simp only [Ps.go] at a1 a2 b1 b2 ⊢;rw [Ei4 hx];have s1:=Cl3 _ (Am9 s (p.i+1+1));have s2:=Cl3 _ (Am9 s (p.i+1+1+1))
      have hh:As9 (B6 s) (p.i+2) 2 0= .inl (16*(Ai9 ((B6 s).getD (p.i+1+1) 0)).toNat+(Ai9 ((B6 s).getD (p.i+1+1+1) 0)).toNat):=by
       have e1:p.i+2=p.i+1+1:=by omega
       have e2:p.i+2+1=p.i+1+1+1:=by omega
       unfold As9;rw [Ei3 (by omega),Ei3 (by rw [e1];omega)];unfold As9;rw [Ei3 (by omega),Ei3 (by rw [e2];omega)];unfold As9;rw [e1];simp
      rw [hh];simp only [];rw [Er2 (by omega)];exact ⟨Au7 _ (by omega),by omega⟩
     ·rw [Ei3 h0] at hq;exact absurd hq h0
    ·rw [Ei3 hx] at hr hq
     split at hq
     ·exact absurd hq (Z8 (by decide))
     ·exact absurd hq (Z8 (by decide))
 ·rw [Ei4 (by omega)] at hq;exact absurd hq (Z8 (by decide))
theorem Ck9 (s:ByteArray) {p:Ps} (hp:p.e=0):SameE (V3 (B6 s) p.i) (F9 (B6 s) p):=by
 intro hr hq;have hc:=Am9 s p.i;unfold F9 at hq ⊢;unfold V3 at hr ⊢
 by_cases h1:¬ p.i<(B6 s).length∨0≤Bd4 Cl1 (H5 (B6 s) p)
 ·rw [Ei4 h1] at hq;exact absurd hq (Z8 (by decide))
 ·rw [Ei3 h1] at hq ⊢
  have h2:¬ ((B6 s).length≤p.i∨(B6 s).getD p.i 0∈B6 clsT):=by
   intro h
   rcases h with h|h
   ·exact h1 (.inl (by omega))
   ·have:=cls_same _ hc;rw [Ej5 h] at this;exact h1 (.inr (Em9 this.symm))
  rw [Ei3 h2] at hr ⊢
  by_cases h3:H5 (B6 s) p=92
  ·have h4:(B6 s).getD p.i 0=92:=h3;rw [Ei4 h3] at hq ⊢;rw [Ei4 h4] at hr ⊢;exact De8 s hp hr hq
  ·have h4:¬ (B6 s).getD p.i 0=92:=h3;rw [Ei3 h3] at hq ⊢;rw [Ei3 h4] at hr ⊢;exact ⟨Au7 _ hc,by show (p.i:Int)+1=((p.i+1:Nat):Int);omega⟩
def Co4 (s k:Nat):List Nat:=(List.range k).filter fun b=>s.testBit b
theorem Bs5 (s:Nat):∀ k,Aw0 s k=(((Co4 s k).length:Int),((Co4 s k).getLast?.map fun b:Nat=>(b:Int)).getD (-1))
 |0=>rfl
 |k+1=>by
  rw [Ab1,Bs5 s k];unfold Co4 Ci9;rw [En0,Eo9]
  by_cases h:s.testBit k=true
  ·simp [h]
  ·simp [h]
theorem Ci8 {s:Nat} (h:0≤Z5 s):Ag0 s=1∧Z5 s=(L6 s:Int)∧∀ j,j<256→(s.testBit j=true↔j=L6 s):=by
 unfold Z5 at h ⊢;rw [Bs5] at h ⊢
 by_cases hc:(((Co4 s 256).length:Nat):Int)=1
 ·have hc':(Co4 s 256).length=1:=by omega
  obtain ⟨x,hx⟩:=List.length_eq_one_iff.1 hc'
  have hf:L6 s=x:=by
   unfold L6;rw [← List.head?_filter];show ((Co4 s 256).head?).getD 0=x;rw [hx];rfl
  refine ⟨hc',?_,?_⟩
  ·simp only [hx,hf];rfl
  ·intro j hj;rw [hf]
   have hm:j∈Co4 s 256↔s.testBit j=true:=by
    unfold Co4;rw [Ep6,El0];exact ⟨fun h=>h.2,fun h=>⟨hj,h⟩⟩
   rw [← hm,hx,Ei6]
 ·simp only [Ei3 hc] at h;omega
theorem Dr4 (s t j:Nat):(V5 [s,t]).testBit j=(s.testBit j||t.testBit j):=by
 unfold V5;simp only [Eo8,Eo7,Nat.testBit_or,Nat.zero_testBit,Ep5]
theorem Du7 (a b j:Nat):(Av7 a b).testBit j=(decide (a≤j) && decide (j≤b)):=by
 unfold Av7;rw [Ah1,Ej7];simp only [Ek1,List.mem_range',Ei9]
 constructor
 ·rintro ⟨i,hi,rfl⟩;omega
 ·rintro ⟨h1,h2⟩;exact ⟨j - a,by omega,by omega⟩
theorem Cg6 (s:ByteArray) {p:Ps} (hp:p.e=0) {on on':List Bool} {i':Nat} (hon:on.length=256)
  (hr:Ac4 (B6 s) on p.i= .inr (on',i')) (hq:(M6 (B6 s) p).2.e=0):on'.length=256∧onS on'=V5 [onS on,(M6 (B6 s) p).1]∧i'=(M6 (B6 s) p).2.i:=by
 unfold Ac4 at hr;unfold M6 at hq ⊢;simp only [] at hr hq ⊢
 by_cases h1:(V3 (B6 s) p.i).2.2=0
 ·rw [Ei3 (by omega)] at hr
  by_cases h2:(F9 (B6 s) p).2.e=0
  ·obtain ⟨e1,e2⟩:=Ck9 s hp h1 h2;rw [Ei3 (by omega)] at hq ⊢;have e3:(V3 (B6 s) p.i).2.1.toNat=(F9 (B6 s) p).2.i:=by omega
   rw [e3] at hr
   by_cases h3:(B6 s).length≤(F9 (B6 s) p).2.i∨(B6 s).getD (F9 (B6 s) p).2.i 0≠45
   ·have h4:isB (B6 s) (F9 (B6 s) p).2 45=false:=by
     unfold isB
     rcases h3 with h3|h3
     ·rw [Ej6 (by omega),Bool.false_and]
     ·rw [Ej6 h3,Bool.and_false]
    rw [Ei4 h3] at hr;rw [Ei4 h4] at hq ⊢;simp only [Sum.inr.injEq,Eq0] at hr;obtain ⟨rfl,rfl⟩:=hr;refine ⟨K5 _ _ _,?_,rfl⟩;apply Eq1;intro j;rw [Dr4,As4,As4]
    by_cases hj:j<256
    ·unfold orS;rw [← e1];rw [Bz3 _ _ _ _ hj,Ei4 hj,Ej5 hj];simp
    ·rw [Ej6 hj,bit_hi (Ap5 s p) hj];rfl
   ·have h4:isB (B6 s) (F9 (B6 s) p).2 45=true:=by
     unfold isB;have g1:(F9 (B6 s) p).2.i<(B6 s).length:=Nat.lt_of_not_le fun h=>h3 (.inl h)
     have g2:(B6 s).getD (F9 (B6 s) p).2.i 0=45:=Decidable.not_not.1 fun h=>h3 (.inr h)
     rw [Ej5 g1,Ej5 g2];rfl
    rw [Ei3 h3] at hr;rw [Ei3 (by rw [h4];decide)] at hq ⊢
    by_cases h5:Z5 (V3 (B6 s) p.i).1<0
    ·rw [Ei4 h5] at hr;cases hr
    ·rw [Ei3 h5] at hr;obtain ⟨c1,c2,c3⟩:=Ci8 (by omega:0≤Z5 (V3 (B6 s) p.i).1);rw [e1] at c1 c2 c3;rw [Ei3 (by omega)] at hq ⊢;have g3:((F9 (B6 s) p).2.go 1).e=0:=h2
     by_cases h6:(F9 (B6 s) ((F9 (B6 s) p).2.go 1)).2.e=0
     ·have k6:(V3 (B6 s) ((F9 (B6 s) p).2.i+1)).2.2=0:=by
       refine Decidable.byContradiction fun h=>?_
       rw [Ei4 h] at hr;cases hr
      obtain ⟨d1,d2⟩:=Ck9 s g3 k6 h6;rw [Ei3 (by omega)] at hr
      by_cases h7:Z5 (V3 (B6 s) ((F9 (B6 s) p).2.i+1)).1<0
      ·rw [Ei4 h7] at hr;cases hr
      rw [Ei3 h7] at hr;obtain ⟨f1,f2,f3⟩:=Ci8 (by omega:0≤Z5 (V3 (B6 s) ((F9 (B6 s) p).2.i+1)).1);change (V3 (B6 s) ((F9 (B6 s) p).2.i+1)).1=_ at d1;rw [d1] at f1 f2 f3;rw [e1,d1,c2,f2] at hr;rw [Ei3 (c:=(F9 (B6 s) ((F9 (B6 s) p).2.go 1)).2.e=0∧Ag0 (F9 (B6 s) ((F9 (B6 s) p).2.go 1)).1≠1) (fun h=>h.2 f1)] at hq ⊢
      by_cases h8:L6 (F9 (B6 s) ((F9 (B6 s) p).2.go 1)).1<L6 (F9 (B6 s) p).1
      ·rw [Ei4 (by omega)] at hr;cases hr
      rw [Ei3 (by omega)] at hr;rw [Ei3 (fun h=>h8 h.2)] at hq ⊢;simp only [Sum.inr.injEq,Eq0] at hr;obtain ⟨rfl,rfl⟩:=hr
      refine ⟨K5 _ _ _,?_,?_⟩
      ·apply Eq1;intro j;rw [Dr4,As4,As4,Du7];have hlt:=An6 (F9 (B6 s) ((F9 (B6 s) p).2.go 1)).1
       by_cases hj:j<256
       ·unfold Bq0 orS;rw [Bz3 _ _ _ _ hj,Bz3 _ _ _ _ hj,Ei4 hj,Ej5 hj,Ej7];have hc3:=c3 j hj;simp only [Ej2,Es3,Bool.or_eq_true,Ei9,Ek1]
        split
        ·simp only [Bool.or_eq_true,Ek1]
         constructor
         ·rintro (h|h|h)
          ·exact .inr ⟨h,by omega⟩
          ·exact .inl h
          ·have:=hc3.1 h;exact .inr ⟨by omega,by omega⟩
         ·rintro (h|h)
          ·exact .inr (.inl h)
          ·exact .inl h.1
        ·simp only [Bool.or_eq_true]
         constructor
         ·rintro (h|h)
          ·exact .inl h
          ·have:=hc3.1 h;exact .inr ⟨by omega,by omega⟩
         ·rintro (h|h)
          ·exact .inl h
          ·omega
       ·rw [Ej6 hj,Bool.false_and,Bool.false_and,Ep5,Ej6 (p:=j≤_) (by omega),Bool.and_false]
      ·change (V3 (B6 s) ((F9 (B6 s) p).2.i+1)).2.1=_ at d2;rw [d2];rfl
     ·rw [Ei3 (c:=(F9 (B6 s) ((F9 (B6 s) p).2.go 1)).2.e=0∧Ag0 (F9 (B6 s) ((F9 (B6 s) p).2.go 1)).1≠1) (fun h=>h6 h.1)] at hq;rw [Ei3 (fun h=>h6 h.1)] at hq;exact absurd hq h6
  ·rw [Ei4 h2] at hq;exact absurd hq h2
 ·rw [Ei4 h1] at hr
  cases hr
theorem Bn2 (s:ByteArray):∀ (f g:Nat) (on:List Bool) (p:Ps) (on':List Bool) (i':Nat),p.e=0→p.i≤(B6 s).length→(B6 s).length+1≤p.i+f→on.length=256→
  Cx2 (B6 s) g false on p.i= .inr (on',i')→(Q6 (B6 s) f (onS on) p).2.e=0→on'.length=256∧onS on'=(Q6 (B6 s) f (onS on) p).1∧i'+1=(Q6 (B6 s) f (onS on) p).2.i
 |0,g,on,p,on',i',hp,hi,hf,hon,hr,hq=>by omega
 |f+1,0,on,p,on',i',hp,hi,hf,hon,hr,hq=>by cases hr
 |f+1,g+1,on,p,on',i',hp,hi,hf,hon,hr,hq=>by
  unfold Q6 at hq ⊢;unfold Cx2 at hr;rw [Ei3 (by omega)] at hq ⊢
  by_cases h1:false=true∨(B6 s).length≤p.i∨(B6 s).getD p.i 0≠93
  ·rw [Ei4 h1] at hr
   have h2:¬ isB (B6 s) p 93=true:=by
    rw [Z7];rintro ⟨a,b⟩
    rcases h1 with h1|h1|h1
    ·cases h1
    ·omega
    ·exact h1 b
   rw [Ei3 h2] at hq ⊢
   cases hc:Ac4 (B6 s) on p.i with
   |inl e=>rw [hc] at hr;cases hr
   |inr x=>
    rw [hc] at hr;obtain ⟨on1,i1⟩:=x
    have h3:(M6 (B6 s) p).2.e=0:=by
     refine Decidable.byContradiction fun h=>?_
     simp only [] at hq
     cases f with
     |zero=>exact h hq
     |succ f=>unfold Q6 at hq;rw [Ei4 h] at hq;exact h hq
    obtain ⟨k1,k2,k3⟩:=Cg6 s hp hon hc h3;have hfi:=X3 hi;have:=hfi.adv h3;simp only [] at hr hq ⊢;rw [← k2] at hq ⊢;rw [k3] at hr;exact Bn2 s f g on1 _ on' i' h3 hfi.le (by omega) k1 hr hq
  ·rw [Ei3 h1] at hr;simp only [Sum.inr.injEq,Eq0] at hr;obtain ⟨rfl,rfl⟩:=hr
   have h2:isB (B6 s) p 93=true:=by
    rw [Z7];exact ⟨Nat.lt_of_not_le fun h=>h1 (.inr (.inl h)),Decidable.not_not.1 fun h=>h1 (.inr (.inr h))⟩
   rw [Ei4 h2] at hq ⊢;exact ⟨hon,rfl,rfl⟩
theorem Do5 (s:ByteArray) {p:Ps} (hp:p.e=0) (hi:p.i<(B6 s).length):SameE (An9 (B6 s) p.i) (Ad8 (B6 s) p):=by
 intro hr hq;unfold Ad8 at hq ⊢;unfold An9 at hr ⊢;simp only [] at hr hq ⊢
 have hn:isB (B6 s) (p.go 1) 94=Dw6 (B6 s) p.i:=by
  unfold Dw6;rw [Ej7,Z7,Ek1];exact Iff.rfl
 have hi1:(isS (B6 s) (p.go 1) 94).i=p.i+1+if Dw6 (B6 s) p.i then 1 else 0:=by
  unfold isS;rw [hn]
  cases Dw6 (B6 s) p.i<;>rfl
 have he1:(isS (B6 s) (p.go 1) 94).e=0:=by unfold isS;split<;>exact hp
 have hf1:=Bf6 (L:=B6 s) (b:=94) (p:=p.go 1) (by exact hi);rw [hn];rw [← hi1] at hr ⊢;generalize isS (B6 s) (p.go 1) 94=q at*;unfold Cx2 at hr ⊢;rw [Ei4 (.inl J)] at hr ⊢
 cases hc:Ac4 (B6 s) (List.replicate 256 false) q.i with
 |inl e=>
  rw [hc] at hr;simp only [] at hr;exact absurd hr (Bn1 _ _ _ e hc)
 |inr x=>
  obtain ⟨on1,i1⟩:=x;rw [hc] at hr;simp only [] at hr ⊢
  have h3:(M6 (B6 s) q).2.e=0:=by
   refine Decidable.byContradiction fun h=>?_
   unfold Q6 at hq;rw [Ei4 h] at hq;exact h hq
  obtain ⟨k1,k2,k3⟩:=Cg6 s he1 (by simp) hc h3;have hz:onS (List.replicate 256 false)=0:=by decide+kernel
  have hu:V5 [onS (List.replicate 256 false),(M6 (B6 s) q).1]=(M6 (B6 s) q).1:=by rw [hz];unfold V5;simp
  rw [hu] at k2;have hfi:=X3 hf1.le;rw [k3] at hr ⊢;rw [← k2] at hq ⊢
  cases hcl:Cx2 (B6 s) ((B6 s).length+1) false on1 (M6 (B6 s) q).2.i with
  |inl e=>
   rw [hcl] at hr;exact absurd hr (Cd9 (B6 s) _ _ _ _ e hcl)
  |inr y=>
   obtain ⟨on',i'⟩:=y;obtain ⟨m1,m2,m3⟩:=Bn2 s _ _ on1 _ on' i' h3 hfi.le (by omega) k1 hcl hq;simp only [];refine ⟨?_,by omega⟩;rw [← m2]
   cases Dw6 (B6 s) p.i
   ·rfl
   ·simp only [if_true];apply Eq1;intro j;have hok:L0 (onS on'):=Ap1 _ fun b hb=>El0.1 (Ep6.1 hb).1
    rw [As4,Br5 hok,As4]
    by_cases hj:j<256
    ·unfold Db9;rw [Bz3 _ _ _ _ hj,Ei4 hj,Ej5 hj];rfl
    ·rw [Ej6 hj];rfl
end Go.Clt
end
section
namespace Go.Clt
open Go Go.RowKit
theorem Df2:∀ c,c<256→(decide (0≤Ai9 c∧c≤57)=decide (48≤c∧c≤57))∧(48≤c∧c≤57→Ai9 c=(c:Int) - 48):=by decide+kernel
theorem Df4 (s:ByteArray) (p:Ps):Ed2 (B6 s) p.i↔R0 (B6 s) p=true:=by
 have:=(Df2 _ (Am9 s p.i)).1;unfold Ed2 R0 H5;rw [decide_eq_decide] at this;simp only [Ei9,Ek1]
 constructor
 ·rintro ⟨a,b⟩;exact ⟨⟨a,(this.1 b).1⟩,(this.1 b).2⟩
 ·rintro ⟨⟨a,b⟩,c⟩;exact ⟨a,this.2 ⟨b,c⟩⟩
theorem Cj2 (s:ByteArray):∀ (g f:Nat) (m:Int) (n:Nat) (p:Ps),p.e=0→(B6 s).length≤p.i+f→(B6 s).length≤p.i+g→0≤m→m≤100000→(n:Int)=min m 1001→
  (M9 (B6 s) g n p).2=⟨(By8 (B6 s) f m p.i).2,0⟩∧((M9 (B6 s) g n p).1:Int)=min (By8 (B6 s) f m p.i).1 1001
 |0,f,m,n,p,hp,hf,hg,h0,h1,hn=>by
  have hd:¬ Ed2 (B6 s) p.i:=fun h=>by have:=h.1;omega
  rw [Am2 hd];exact ⟨by show p=_;rw [← hp],hn⟩
 |g+1,f,m,n,p,hp,hf,hg,h0,h1,hn=>by
  by_cases hd:Ed2 (B6 s) p.i
  ·have hd2:=(Df4 s p).1 hd;have hl:=hd.1;obtain ⟨f',rfl⟩:∃ f',f=f'+1:=⟨f - 1,by omega⟩;unfold M9;rw [By8,Ei4 hd,Ei4 ⟨hp,hd2⟩]
   have hc:48≤(B6 s).getD p.i 0∧(B6 s).getD p.i 0≤57:=by
    unfold R0 H5 at hd2;simp only [Ei9,Ek1] at hd2;exact ⟨hd2.1.2,hd2.2⟩
   have hh:=(Df2 _ (Am9 s p.i)).2 hc;rw [hh];unfold H5;exact Cj2 s g f' _ _ (p.go 1) hp (by show _≤p.i+1+f';omega) (by show _≤p.i+1+g;omega) (by omega) (by omega) (by omega)
  ·have hd2:¬ R0 (B6 s) p=true:=fun h=>hd ((Df4 s p).2 h)
   unfold M9;rw [Am2 hd,Ei3 fun h=>hd2 h.2];exact ⟨by show p=_;rw [← hp],hn⟩
theorem Bj3 (s:ByteArray) {p:Ps} (hp:p.e=0) (hr:(I8 (B6 s) p.i).2.2=0) (hq:(H8 (B6 s) p).2.e=0):
  (I8 (B6 s) p.i).1=((H8 (B6 s) p).1:Int)∧(I8 (B6 s) p.i).2.1=((H8 (B6 s) p).2.i:Int):=by
 unfold H8 at hq ⊢;unfold I8 at hr ⊢;simp only [] at hr hq ⊢
 by_cases hd:R0 (B6 s) p=true
 ·rw [Ei4 hd] at hq ⊢;obtain ⟨k1,k2⟩:=Cj2 s ((B6 s).length+1) ((B6 s).length - p.i) 0 0 p hp (by omega) (by omega) (by omega) (by omega) rfl;generalize M9 (B6 s) ((B6 s).length+1) 0 p=x at*;generalize By8 (B6 s) ((B6 s).length - p.i) 0 p.i=y at*
  by_cases h1:1000<x.1
  ·rw [Ei4 h1] at hq;exact absurd hq (Z8 (by decide))
  ·rw [Ei3 h1] at hq ⊢
   by_cases h2:y.2=p.i
   ·rw [Ei4 h2] at hr;exact absurd hr (by show (4:Int)≠0;decide)
   ·rw [Ei3 h2] at hr ⊢
    by_cases h3:1000<y.1
    ·rw [Ei4 h3] at hr;exact absurd hr (by show (5:Int)≠0;decide)
    ·rw [Ei3 h3];refine ⟨by show y.1=_;omega,?_⟩;show (y.2:Int)=_;rw [k1]
 ·rw [Ei3 hd] at hq;have hb:(p.fail p.i 4).e≠0:=Z8 (by decide)
  have hl:M9 (B6 s) ((B6 s).length+1) 0 (p.fail p.i 4)=(0,p.fail p.i 4):=by
   unfold M9;rw [Ei3 fun h=>hb h.1]
  rw [hl] at hq;exact absurd hq hb
theorem isB_at (L:List Nat) (p:Ps) (b:Nat):isB L p b=true↔¬ (L.length≤p.i∨L.getD p.i 0≠b):=by
 rw [Z7]
 constructor
 ·rintro ⟨a,b⟩ (h|h)
  ·omega
  ·exact h b
 ·intro h;exact ⟨Nat.lt_of_not_le fun x=>h (.inl x),Decidable.not_not.1 fun x=>h (.inr x)⟩
theorem Cy1 (L:List Nat) (m n:Int) (r:Ps) (he:r.e=0) (hr:(L7 L m n r.i).2.2.2=0):
  (L7 L m n r.i).1=m∧(L7 L m n r.i).2.1=n∧isB L r 125=true∧(L7 L m n r.i).2.2.1=((r.go 1).i:Int):=by
 unfold L7 at hr ⊢
 by_cases h:L.length≤r.i∨L.getD r.i 0≠125
 ·rw [Ei4 h] at hr;exact absurd hr (by show (4:Int)≠0;decide)
 ·rw [Ei3 h];exact ⟨rfl,rfl,(isB_at L r 125).2 h,by show (r.i:Int)+1=((r.i+1:Nat):Int);omega⟩
theorem Co3 (s:ByteArray) {p:Ps} (hp:p.e=0) (hr:(J7 (B6 s) p.i).2.2.2=0) (hq:(K9 (B6 s) (H8 (B6 s) p)).2.e=0):
  J7 (B6 s) p.i=L7 (B6 s) ((H8 (B6 s) p).1:Int) (K9 (B6 s) (H8 (B6 s) p)).1 (K9 (B6 s) (H8 (B6 s) p)).2.i:=by
 have h2:(H8 (B6 s) p).2.e=0:=by
  refine Decidable.byContradiction fun h=>?_
  unfold K9 at hq;rw [Ei3 fun x=>h x.1] at hq;exact h hq
 unfold J7 at hr ⊢;simp only [] at hr ⊢
 by_cases h1:(I8 (B6 s) p.i).2.2=0
 ·rw [Ei3 (by omega)] at hr ⊢;obtain ⟨e1,e2⟩:=Bj3 s hp h1 h2;rw [e2] at hr ⊢;rw [e1] at hr ⊢;simp only [Ej2] at hr ⊢;generalize H8 (B6 s) p=lo at*;unfold K9 at hq ⊢
  by_cases h3:lo.2.i<(B6 s).length∧(B6 s).getD lo.2.i 0=44
  ·have h4:isB (B6 s) lo.2 44=true:=(Z7 ..).2 h3;rw [Ei4 h3] at hr ⊢;rw [Ei4 (And.intro h2 h4)] at hq ⊢;simp only [] at hq ⊢
   by_cases h5:(B6 s).length≤lo.2.i+1∨(B6 s).getD (lo.2.i+1) 0≠125
   ·have h6:¬ (lo.2.go 1).i<(B6 s).length∨H5 (B6 s) (lo.2.go 1)≠125:=by
     rcases h5 with h|h
     ·exact .inl (by show ¬ lo.2.i+1<_;omega)
     ·exact .inr h
    rw [Ei4 h5] at hr ⊢;rw [Ei4 h6] at hq ⊢;simp only [] at hq ⊢
    have h8:(H8 (B6 s) (lo.2.go 1)).2.e=0:=by
     refine Decidable.byContradiction fun h=>?_
     rw [Ei3 fun x=>h x.1] at hq;exact h hq
    by_cases h7:(I8 (B6 s) (lo.2.i+1)).2.2=0
    ·rw [Ei3 (by omega)] at hr ⊢;obtain ⟨d1,d2⟩:=Bj3 s (p:=lo.2.go 1) h2 h7 h8;change (I8 (B6 s) (lo.2.i+1)).1=_ at d1;change (I8 (B6 s) (lo.2.i+1)).2.1=_ at d2;rw [d1,d2] at hr ⊢;generalize H8 (B6 s) (lo.2.go 1)=hi at*
     by_cases h9:hi.1<lo.1
     ·rw [Ei4 (And.intro h8 h9)] at hq;exact absurd hq (Z8 (by decide))
     ·rw [Ei3 (show ¬ ((hi.1:Nat):Int)<(lo.1:Int) by omega)];rw [Ei3 (fun h=>h9 h.2)]
      rfl
    ·rw [Ei4 h7] at hr;exact absurd hr h7
   ·have h6:¬ (¬ (lo.2.go 1).i<(B6 s).length∨H5 (B6 s) (lo.2.go 1)≠125):=by
     rintro (h|h)
     ·exact h5 (.inl (by change ¬ lo.2.i+1<_ at h;omega))
     ·exact h5 (.inr h)
    rw [Ei3 h5];rw [Ei3 h6]
    rfl
  ·have h4:¬ isB (B6 s) lo.2 44=true:=fun h=>h3 ((Z7 ..).1 h)
   rw [Ei3 h3];rw [Ei3 (fun h=>h4 h.2)]
 ·rw [Ei4 h1] at hr;exact absurd hr h1
theorem Cx8 (s:ByteArray) {p:Ps} (hp:p.e=0) (hr:(J7 (B6 s) p.i).2.2.2=0) (hq:(S1 (B6 s) p).2.2.e=0):
  (J7 (B6 s) p.i).1=(S1 (B6 s) p).1∧(J7 (B6 s) p.i).2.1=(S1 (B6 s) p).2.1∧(J7 (B6 s) p.i).2.2.1=((S1 (B6 s) p).2.2.i:Int):=by
 rw [Bw0] at hq ⊢
 have h2:(K9 (B6 s) (H8 (B6 s) p)).2.e=0:=by
  refine Decidable.byContradiction fun h=>?_
  simp only [Ei3 h] at hq;exact h hq
 have hb:=Co3 s hp hr h2;rw [hb] at hr ⊢;generalize K9 (B6 s) (H8 (B6 s) p)=m at*;obtain ⟨b1,b2,b3,b4⟩:=Cy1 (B6 s) _ _ m.2 h2 hr;rw [b1,b2,b4];simp only [Ei4 h2,Ei4 b3];exact ⟨trivial,trivial,trivial⟩
structure SameT (t:RTk) (u:Tok):Prop where
 kind:t.kind=u.kind
 set:t.set=u.set
 mn:t.mn=u.min
 mx:t.mx=u.max
 lz:t.lz=u.lazy
def SameX (r:RTk × Int × Int) (q:Tok × Ps):Prop:=r.2.2=0→q.2.e=0→SameT r.1 q.1∧r.2.1=(q.2.i:Int)
def m5 (L:List Nat) (p:Ps) (c:Nat):Int × Int × Ps:=if c=43 then (1,-1,p) else if c=63 then (0,1,p) else if c=123 then S1 L p else (0,-1,p)
def cntM (L:List Nat) (m:Int × Int × Ps):Tok × Ps:=
 if m.2.2.e≠0 then ({ kind:=5,min:=m.1,max:=m.2.1 },m.2.2)
 else ({ kind:=5,min:=m.1,max:=m.2.1,lazy:=isB L m.2.2 63 },if isB L (isS L m.2.2 63) 43 then (isS L m.2.2 63).fail (isS L m.2.2 63).i 6 else isS L m.2.2 63)
theorem countP_m (L:List Nat) (p:Ps) (c:Nat):Aj0 L p c=cntM L (m5 L p c):=rfl
theorem Bf9 (L:List Nat) (t:RTk) (e:Int × Int) (p:Ps) (c:Nat)
  (h:e.2=0→(m5 L p c).2.2.e=0→t.kind=5∧t.set=0∧t.lz=false∧t.mn=(m5 L p c).1∧t.mx=(m5 L p c).2.1∧e.1=((m5 L p c).2.2.i:Int)):
  SameX (Cd8 L t e) (Aj0 L p c):=by
 rw [countP_m];generalize m5 L p c=m at*;intro hr hq;obtain ⟨mn,mx,q⟩:=m;unfold cntM at hq ⊢;unfold Cd8 at hr ⊢;simp only [] at h hr hq ⊢
 by_cases h1:e.2=0
 ·rw [Ei3 (by omega)] at hr ⊢
  by_cases h2:q.e=0
  ·rw [Ei3 (c:=q.e≠0) (fun h=>h h2)] at hq ⊢;simp only [] at hq ⊢;obtain ⟨a1,a2,a3,a4,a5,a6⟩:=h h1 h2;rw [a6] at hr ⊢;simp only [Ej2] at hr ⊢
   by_cases h3:q.i<L.length∧L.getD q.i 0=63
   ·have h4:isB L q 63=true:=(Z7 ..).2 h3;have h5:isS L q 63=q.go 1:=by unfold isS;rw [Ei4 h4]
    rw [h5] at hq ⊢;rw [h4];simp only [Ei4 h3] at hr ⊢
    by_cases h6:isB L (q.go 1) 43=true
    ·rw [Ei4 h6] at hq;exact absurd hq (Z8 (by decide))
    ·rw [Ei3 h6];exact ⟨⟨a1,a2,a4,a5,rfl⟩,rfl⟩
   ·have h4:isB L q 63=false:=Er9.2 fun h=>h3 ((Z7 ..).1 h)
    have h5:isS L q 63=q:=by unfold isS;rw [Ei3 (by rw [h4];decide)]
    rw [h5] at hq ⊢;rw [h4];simp only [Ei3 h3] at hr ⊢
    by_cases h6:isB L q 43=true
    ·rw [Ei4 h6] at hq;exact absurd hq (Z8 (by decide))
    ·rw [Ei3 h6];exact ⟨⟨a1,a2,a4,a5,a3⟩,rfl⟩
  ·rw [Ei4 h2] at hq;exact absurd hq h2
 ·rw [Ei4 h1] at hr;exact absurd hr h1
theorem Df9 (c:Nat):c∈B6 Ee9↔(c=42∨c=43∨c=63∨c=123):=by
 have:B6 Ee9=[42,43,63,123]:=by decide+kernel
 rw [this];simp
theorem Dy9:∀ c,c<256→decide (0≤Bd4 Dz0 c)=decide (c=93∨c=125):=by decide+kernel
def oneC (L:List Nat) (p:Ps) (c:Nat):Tok × Ps:=
 if c=92 then ({ set:=(J5 L p).1 },(J5 L p).2)
 else if c=91 then ({ set:=(Ad8 L p).1 },(Ad8 L p).2)
 else if c=40 then Aa1 L (p.go 1) p.i
 else if c=41 then ({ kind:=3 },p.go 1)
 else if c=124 then ({ kind:=4 },p.go 1)
 else if c=46 then ({ set:=P8 (E9 [10]) },p.go 1)
 else if c=42∨c=43∨c=63∨c=123 then Aj0 L (p.go 1) c
 else if c=94∨c=36 then ({ set:=E9 [c] },(p.go 1).fail p.i 6)
 else if 0≤Bd4 Dz0 c then ({ set:=E9 [c] },(p.go 1).fail p.i 4)
 else ({ set:=E9 [c] },p.go 1)
theorem oneP_c (L:List Nat) (p:Ps):Af8 L p=oneC L p (L.getD p.i 0):=rfl
def oneRc (L:List Nat) (at_ c:Nat):RTk × Int × Int:=
 if c=92 then (⟨0,at_,0,(Cm6 L at_).1,0,0,false⟩,(Cm6 L at_).2)
 else if c=91 then (⟨0,at_,0,(An9 L at_).1,0,0,false⟩,(An9 L at_).2)
 else if c=40 then
  if at_+1<L.length∧L.getD (at_+1) 0=63 then (⟨2,at_,0,0,0,0,false⟩,if L.length≤at_+2∨L.getD (at_+2) 0≠58 then ((at_:Int),6) else ((at_:Int)+3,0))
  else (⟨1,at_,0,0,0,0,false⟩,((at_:Int)+1,0))
 else if c=41 then (⟨3,at_,0,0,0,0,false⟩,((at_:Int)+1,0))
 else if c=124 then (⟨4,at_,0,0,0,0,false⟩,((at_:Int)+1,0))
 else if c=46 then (⟨0,at_,0,smS [(10,10)] true,0,0,false⟩,((at_:Int)+1,0))
 else if c=94∨c=36 then (⟨0,at_,0,0,0,0,false⟩,(at_:Int),6)
 else if c=93∨c=125 then (⟨0,at_,0,0,0,0,false⟩,(at_:Int),4)
 else if c∉B6 Ee9 then (⟨0,at_,0,smS [((c:Int),(c:Int))] false,0,0,false⟩,((at_:Int)+1,0))
 else if c=43 then Cd8 L ⟨5,at_,0,0,1,-1,false⟩ ((at_:Int)+1,0)
 else if c=63 then Cd8 L ⟨5,at_,0,0,0,1,false⟩ ((at_:Int)+1,0)
 else if c=123 then Cd8 L ⟨5,at_,0,0,(J7 L (at_+1)).1,(J7 L (at_+1)).2.1,false⟩ (J7 L (at_+1)).2.2
 else Cd8 L ⟨5,at_,0,0,0,-1,false⟩ ((at_:Int)+1,0)
theorem oneR_c (L:List Nat) (at_:Nat):Cf2 L at_=oneRc L at_ (L.getD at_ 0):=rfl
theorem one_same (s:ByteArray) {p:Ps} (hp:p.e=0) (hi:p.i<(B6 s).length):SameX (Cf2 (B6 s) p.i) (Af8 (B6 s) p):=by
 have hc:=Am9 s p.i;have hz:((p.i:Int)+1)=((p.go 1).i:Int):=by show (p.i:Int)+1=((p.i+1:Nat):Int);omega
 have he:(p.go 1).e=0:=hp;rw [oneP_c,oneR_c];generalize (B6 s).getD p.i 0=c at hc ⊢;unfold oneC oneRc
 by_cases h1:c=92
 ·rw [Ei4 h1,Ei4 h1];intro hr hq;obtain ⟨a,b⟩:=De8 s hp hr hq;exact ⟨⟨rfl,a,rfl,rfl,rfl⟩,b⟩
 rw [Ei3 h1,Ei3 h1]
 by_cases h2:c=91
 ·rw [Ei4 h2,Ei4 h2];intro hr hq;obtain ⟨a,b⟩:=Do5 s hp hi hr hq;exact ⟨⟨rfl,a,rfl,rfl,rfl⟩,b⟩
 rw [Ei3 h2,Ei3 h2]
 by_cases h3:c=40
 ·rw [Ei4 h3,Ei4 h3];unfold Aa1
  by_cases h4:p.i+1<(B6 s).length∧(B6 s).getD (p.i+1) 0=63
  ·have h5:isB (B6 s) (p.go 1) 63=true:=(Z7 ..).2 h4;rw [Ei4 h4,h5]
   by_cases h6:(B6 s).length≤p.i+2∨(B6 s).getD (p.i+2) 0≠58
   ·rw [Ei4 h6];intro hr;exact absurd hr (by show (6:Int)≠0;decide)
   ·have h7:isB (B6 s) ((p.go 1).go 1) 58=true:=(isB_at ..).2 h6;rw [Ei3 h6,h7];intro hr hq;exact ⟨⟨rfl,rfl,rfl,rfl,rfl⟩,by show (p.i:Int)+3=((p.i+1+2:Nat):Int);omega⟩
  ·have h5:isB (B6 s) (p.go 1) 63=false:=Er9.2 fun h=>h4 ((Z7 ..).1 h)
   rw [Ei3 h4,h5];intro hr hq;exact ⟨⟨rfl,rfl,rfl,rfl,rfl⟩,hz⟩
 rw [Ei3 h3,Ei3 h3]
 by_cases h4:c=41
 ·rw [Ei4 h4,Ei4 h4];intro hr hq;exact ⟨⟨rfl,rfl,rfl,rfl,rfl⟩,hz⟩
 rw [Ei3 h4,Ei3 h4]
 by_cases h5:c=124
 ·rw [Ei4 h5,Ei4 h5];intro hr hq;exact ⟨⟨rfl,rfl,rfl,rfl,rfl⟩,hz⟩
 rw [Ei3 h5,Ei3 h5]
 by_cases h6:c=46
 ·rw [Ei4 h6,Ei4 h6];intro hr hq;have:smS [(10,10)] true=P8 (E9 [10]):=by decide+kernel
  exact ⟨⟨rfl,this,rfl,rfl,rfl⟩,hz⟩
 rw [Ei3 h6,Ei3 h6]
 by_cases h7:c=94∨c=36
 ·rw [Ei4 h7];intro hr;exact absurd hr (by show (6:Int)≠0;decide)
 rw [Ei3 h7]
 by_cases h8:c=93∨c=125
 ·rw [Ei4 h8];intro hr;exact absurd hr (by show (4:Int)≠0;decide)
 rw [Ei3 h8];have h9:¬ 0≤Bd4 Dz0 c:=by have:=Dy9 _ hc;rw [Ej6 h8] at this;exact Es7 this
 by_cases h10:c∈B6 Ee9
 ·rw [Ei3 (fun h=>h h10),Ei4 ((Df9 _).1 h10)]
  by_cases k1:c=43
  ·rw [Ei4 k1];exact Bf9 _ _ _ _ _ fun _ _=>by unfold m5;rw [Ei4 k1];exact ⟨rfl,rfl,rfl,rfl,rfl,hz⟩
  rw [Ei3 k1]
  by_cases k2:c=63
  ·rw [Ei4 k2];exact Bf9 _ _ _ _ _ fun _ _=>by unfold m5;rw [Ei3 k1,Ei4 k2];exact ⟨rfl,rfl,rfl,rfl,rfl,hz⟩
  rw [Ei3 k2]
  by_cases k3:c=123
  ·rw [Ei4 k3];refine Bf9 _ _ _ _ _ fun h h'=>?_
   unfold m5 at h' ⊢;rw [Ei3 k1,Ei3 k2,Ei4 k3] at h' ⊢;obtain ⟨b1,b2,b3⟩:=Cx8 s (p:=p.go 1) he h h';exact ⟨rfl,rfl,rfl,b1,b2,b3⟩
  ·rw [Ei3 k3];exact Bf9 _ _ _ _ _ fun _ _=>by unfold m5;rw [Ei3 k1,Ei3 k2,Ei3 k3];exact ⟨rfl,rfl,rfl,rfl,rfl,hz⟩
 ·have h11:¬ (c=42∨c=43∨c=63∨c=123):=fun h=>h10 ((Df9 _).2 h)
  rw [Ei4 h10,Ei3 h11,Ei3 h7,Ei3 h9];intro hr hq;exact ⟨⟨rfl,Au7 _ hc,rfl,rfl,rfl⟩,hz⟩
inductive SameL:List RTk→List Tok→Prop
 |nil:SameL [] []
 |cons {t u l k}:SameT t u→SameL l k→SameL (t::l) (u::k)
theorem SameL.len {l k} (h:SameL l k):l.length=k.length:=by
 induction h with
 |nil=>rfl
 |cons _ _ ih=>simp [ih]
theorem SameL.app {l k t u} (h:SameL l k) (ht:SameT t u):SameL (l++[t]) (k++[u]):=by
 induction h with
 |nil=>exact .cons ht .nil
 |cons a _ ih=>exact .cons a ih
theorem Br6 (s:ByteArray):∀ (f g:Nat) (p:Ps) (l:List RTk) (k:List Tok),p.e=0→p.i≤(B6 s).length→(B6 s).length<p.i+f→(B6 s).length<p.i+g→SameL l k→
  (Y6 (B6 s) f p.i l).2.2=0→(Aq5 (B6 s) g p k).2.2=0→SameL (Y6 (B6 s) f p.i l).1 (Aq5 (B6 s) g p k).1
 |0,g,p,l,k,hp,hi,hf,hg,hl,hr,hq=>by omega
 |f+1,0,p,l,k,hp,hi,hf,hg,hl,hr,hq=>by omega
 |f+1,g+1,p,l,k,hp,hi,hf,hg,hl,hr,hq=>by
  unfold Aq5 at hq ⊢;unfold Y6 at hr ⊢
  by_cases h1:p.i<(B6 s).length
  ·simp only [Ei4 h1] at hr hq ⊢
   by_cases h2:(Cf2 (B6 s) p.i).2.2=0
   ·rw [Ei3 (by omega)] at hr ⊢
    by_cases h3:(Af8 (B6 s) p).2.e=0
    ·rw [Ei3 (by omega)] at hq ⊢;obtain ⟨a,b⟩:=one_same s hp h1 h2 h3;have hfi:=Bj2 h1;have:=hfi.adv h3;rw [b] at hr ⊢;simp only [Ej2] at hr ⊢;exact Br6 s f g _ _ _ h3 hfi.le (by omega) (by omega) (hl.app ⟨a.kind,a.set,a.mn,a.mx,a.lz⟩) hr hq
    ·rw [Ei4 h3] at hq;exact absurd hq h3
   ·rw [Ei4 h2] at hr;exact absurd hr h2
  ·simp only [Ei3 h1];exact hl
theorem Dt2 (s:ByteArray) (hr:(K0 (B6 s)).2.2=0) (hq:(Q9 (B6 s)).2.2=0):SameL (K0 (B6 s)).1 (Q9 (B6 s)).1:=by
 unfold Q9 at hq ⊢
 by_cases h:1048576<(B6 s).length
 ·rw [Ei4 h] at hq;exact absurd hq (by decide)
 ·rw [Ei3 h] at hq ⊢;exact Br6 s _ _ ⟨0,0⟩ [] [] rfl (Ej3 _) (by show _<0+_;omega) (by show _<0+_;omega) .nil hr hq
end Go.Clt
end
namespace Go.Clt
open Go Go.RowKit Go.Proofs
theorem Bx5 (t:RTk):(Au2 t).length=10:=rfl
theorem N9 (l:List RTk):∀ (k c:Nat),k<l.length→c<10→(U9 l)[k*10+c]?=(Au2 (l.getD k default))[c]?:=by
 induction l with
 |nil=>intro k c h;simp at h
 |cons t r ih=>
  intro k c h hc
  cases k with
  |zero=>
   show (Au2 t++U9 r)[0*10+c]?=_;rw [El2 (by rw [Bx5];omega)];simp
  |succ k=>
   have:=ih k c (by simpa using h) hc;show (Au2 t++U9 r)[(k+1)*10+c]?=_;rw [Ek9 (by rw [Bx5];omega),Bx5,show (k+1)*10+c - 10=k*10+c by omega,this];simp
def Bn9 (l:List RTk) (at_:Nat) (size:Int):Int:=if at_<l.length then (l.getD at_ default).frm else size
theorem rbegin_c (l:List RTk) (F:Nat→Prop) (A:Option Addr) (c:Nat) (at_:Nat) (size:Int) (hat:at_≤100000) (hl:l.length≤100000) (w:World) (hF:∀ x,F x→x<w.heap.size) (hr:Rd F w 10 A l.length (U9 l)):Calls P 174 #[.slice A l.length c,.int .i64 (at_:Nat),.int .i64 size] w (Ret fun u w'=>u= .int .i64 (Bn9 l at_ size)∧Chg [] w w'):=by
 have hC:=A8 [] w
 refine D6 Tryz.func174 J J (Qd (Zc 1 J (Qa (Qd (Z 2 J (Ln Tryz.underlying187 J (Zc 1 J (A4 J (fun h1=>?_) (fun h1=>?_)))))))))
 ·try simp at h1
  have hin:at_<l.length:=by omega
  obtain ⟨g,off,rfl,hFg,hlt,hcell⟩:=hr.at_ (by omega);have hc1:=hcell (at_*10+1) _ ((N9 l at_ 1 hin (by omega)).trans J);exact Qd (Z 2 J (C8 J (C1 Ak8 J J (by omega) (by omega)) (Fa At2 J (Lc o3 J hc1 (Zc 1 J (A6 (B3 J J ⟨J2 (by unfold Bn9;rw [Ei4 hin]),hC⟩)))))))
 ·try simp at h1
  exact A7 (Qd (Zc 2 J (A6 (B3 J J ⟨J2 (by unfold Bn9;rw [Ei3 (by omega)]),hC⟩))))
def Al7 (l:List RTk):Nat→Nat→Nat→Int
 |0,_,_=> -1
 |f+1,i,d=>
  if i<l.length then
   if (l.getD i default).kind=1∨(l.getD i default).kind=2 then Al7 l f (i+1) (d+1)
   else if (l.getD i default).kind=3 then (if d=0 then (i:Int) else Al7 l f (i+1) (d - 1))
   else Al7 l f (i+1) d
  else -1
def Bc4 (l:List RTk) (i:Nat):Int:=Al7 l (l.length+1 - i) i 0
theorem rclose_c (l:List RTk) (F:Nat→Prop) (A:Option Addr) (c:Nat) (i0:Nat) (hi0:i0≤100000) (hl:l.length≤100000) (w:World) (hF:∀ x,F x→x<w.heap.size) (hr:Rd F w 10 A l.length (U9 l)):Calls P 173 #[.slice A l.length c,.int .i64 (i0:Nat)] w (Ret fun u w'=>u= .int .i64 (Bc4 l i0)∧Chg [] w w'):=by
 have hC:=A8 [] w;have hR:Al7 l (l.length+1 - i0) i0 0=Bc4 l i0:=rfl;generalize Bc4 l i0=r at*
 refine D6 Tryz.func173 J J (Qd (Zc 1 J (Qd (Zc 1 J (Qa (Qd (Zc 2 J (B1 (D8 (σ:=Nat × Nat) (fun (i,d)=>[(0,.slice A l.length c),(5,.int .i64 d),(6,.int .i64 i)]) (fun (i,d) wr=>Chg [] w wr∧Rd F wr 10 A l.length (U9 l)∧Al7 l (l.length+1 - i) i d=r∧i≤200000∧d≤i) (fun (i,d) wr=>200000 - i) (i0,0) (sb J) ?_ ?_)))))))))
 ·exact ⟨hC,hr,hR,by omega,by omega⟩
 rintro ⟨i,d⟩ w9 ⟨hC,hr,hR,hi,hd⟩
 refine Qa (Qd (Z 2 J (Ln Tryz.underlying187 J (Zc 1 J (A4 J (fun h1=>?_) (fun h1=>?_))))))
 ·try simp at h1
  have hin:i<l.length:=by omega
  rw [show l.length+1 - i=(l.length+1 - (i+1))+1 by omega,Al7,Ei4 hin] at hR;obtain ⟨g,off,rfl,hFg,hlt,hcell⟩:=hr.at_ (by omega);have hc1:=hcell (i*10+0) _ ((N9 l i 0 hin (by omega)).trans J)
  refine A7 (Qa (B1 (Qd (Z 2 J (C8 J (C1 Ak8 J J (by omega) (by omega)) (Fa T4 J (Lc o3 J hc1 (Qc (B1 (Qa (Qd (Zc 2 J (A4 J (fun k1=>?_) (fun k1=>?_))))))))))))))
  ·refine A7 (E4 (H2 J k1) ?_);rw [cmpB_eql] at k1;rw [Ei4 (.inl k1)] at hR;refine Qb (Z 1 J (Ad J J (by omega) (Zc 1 J (Qb (Z 1 J (Ad J J (by omega) (Zc 1 J ⟨(i+1,d+1),sb J,?_,?_⟩)))))));exact ⟨hC,hr,hR,by omega,by omega⟩;show 200000 - (i+1)<200000 - i;omega
  ·rw [cmpB_eqlF] at k1
   refine Qb (Zc 2 J (A4 J (fun k2=>?_) (fun k2=>?_)))
   ·rw [cmpB_eql] at k2;rw [Ei4 (.inr k2)] at hR;refine Qb (Z 1 J (Ad J J (by omega) (Zc 1 J (Qb (Z 1 J (Ad J J (by omega) (Zc 1 J ⟨(i+1,d+1),sb J,?_,?_⟩)))))));exact ⟨hC,hr,hR,by omega,by omega⟩;show 200000 - (i+1)<200000 - i;omega
   ·rw [cmpB_eqlF] at k2;rw [Ei3 (Er7.2 ⟨k1,k2⟩)] at hR
    refine Qd (Zc 2 J (A4 J (fun k3=>?_) (fun k3=>?_)))
    ·rw [cmpB_eql] at k3;rw [Ei4 k3] at hR
     refine Qa (Qd (Zc 2 J (A4 J (fun k4=>?_) (fun k4=>?_))))
     ·try simp at k4
      have k4':d=0:=by omega
      rw [Ei4 k4'] at hR;exact Qd (Zc 2 J (A6 (B3 J J ⟨J2 hR,hC⟩)))
     ·try simp at k4
      have k4':¬ d=0:=by omega
      rw [Ei3 k4'] at hR;refine A7 (Qb (Z 1 J (Su J J (by omega) (Zc 1 J (Qb (Z 1 J (Ad J J (by omega) (Zc 1 J ⟨(i+1,d - 1),⟨rfl,(G3 J (by omega)),rfl,trivial⟩,?_,?_⟩))))))));exact ⟨hC,hr,hR,by omega,by omega⟩;show 200000 - (i+1)<200000 - i;omega
    ·rw [cmpB_eqlF] at k3;rw [Ei3 k3] at hR;refine A7 (Qb (Z 1 J (Ad J J (by omega) (Zc 1 J ⟨(i+1,d),sb J,?_,?_⟩))));exact ⟨hC,hr,hR,by omega,by omega⟩;show 200000 - (i+1)<200000 - i;omega
 ·try simp at h1
  have hX:Al7 l (l.length+1 - i) i d= -1:=by
   cases hf:l.length+1 - i with
   |zero=>rfl
   |succ f=>rw [Al7,Ei3 (by omega)]
  exact Xb (Qd (Zc 1 J (A6 (B3 J J ⟨J2 (hX.symm.trans hR),hC⟩))))
def Av5 (l:List RTk) (size:Int):Nat→Nat→Nat→Bool→Int × Int
 |0,_,_,_=>(0,0)
 |f+1,i,d,a=>
  if i<l.length then
   let t:=l.getD i default
   if t.kind=0 then Av5 l size f (i+1) d true
   else if t.kind=1∨t.kind=2 then (if 200≤d then (t.frm,3) else Av5 l size f (i+1) (d+1) false)
   else if t.kind=3 then (if d=0 then (t.frm,4) else Av5 l size f (i+1) (d - 1) true)
   else if t.kind=4 then Av5 l size f (i+1) d false
   else if a=false then (t.frm,4) else Av5 l size f (i+1) d false
  else if 0<d then (size,4) else (0,0)
def Bi1 (l:List RTk) (size:Int):Int × Int:=Av5 l size (l.length+1) 0 0 false
theorem rfirst_c (l:List RTk) (size:Int) (F:Nat→Prop) (A:Option Addr) (c:Nat) (hl:l.length≤100000) (w:World) (hF:∀ x,F x→x<w.heap.size) (hr:Rd F w 10 A l.length (U9 l)):Calls P 119 #[.slice A l.length c,.int .i64 size] w (Ret fun u w'=>Chg [] w w'∧u=endV (Bi1 l size)):=by
 have hC:=A8 [] w;have hR:Av5 l size (l.length+1 - 0) 0 0 false=Bi1 l size:=rfl;generalize Bi1 l size=r at*;refine D6 Tryz.func119 J J (Qd (B4 J (B7 Be0 J) ?_));intro b1 w1 hb1 hs1 hx1 hB1;have hC:=hC.s0 hx1;have hr:=hr.u hx1
 refine Qc (Qd (Zc 1 J (Qd (Zc 1 J (Qa (Qd (Zc 1 J (B1 (D8 (σ:=Nat × Nat × Bool) (fun (i,d,a)=>[(0,.slice A l.length c),(1,.int .i64 size),(4,.pointer (some ⟨b1,0,none⟩)),(5,.int .i64 d),(6,.bool a),(7,.int .i64 i)]) (fun (i,d,a) wr=>Chg [] w wr∧Rd F wr 10 A l.length (U9 l)∧Blk wr b1 [.int .i64 0,.int .i64 0] 142∧Av5 l size (l.length+1 - i) i d a=r∧i≤l.length∧d≤i) (fun (i,d,a) wr=>200000 - i) (0,0,false) (sb J) ?_ ?_)))))))))
 ·exact ⟨hC,hr,hB1,hR,by omega,by omega⟩
 rintro ⟨i,d,a⟩ w9 ⟨hC,hr,hB1,hR,hi,hd⟩
 try have hlB1:=hB1.lt
 refine Qa (Qd (Z 2 J (Ln Tryz.underlying187 J (Zc 1 J (A4 J (fun h1=>?_) (fun h1=>?_))))))
 ·try simp at h1
  have hin:i<l.length:=by omega
  rw [show l.length+1 - i=(l.length+1 - (i+1))+1 by omega,Av5,Ei4 hin] at hR;simp only [] at hR;obtain ⟨g,off,rfl,hFg,hlt,hcell⟩:=hr.at_ (by omega);refine A7 (Qa (B1 (Qd (Z 2 J (C8 J (C1 Ak8 J J (by omega) (by omega)) (C8 J (E7 (vs:=Au2 (l.getD i default)) K2 J (F4 _) (fun j v hj=>by rw [Ek8];exact hcell (i*10+j) v (by have hj4:j<10:=(Ek4.1 hj).1;rw [N9 l i j hin hj4];exact hj)) J) ?_))))));generalize l.getD i default=t at*;refine B4 J (B7 Cq6 J) ?_;intro b2 w2 hb2 hs2 hx2 hB2;have hr:=hr.u hx2;refine Pe V6 J ‹_› J J ?_;intro w3 hs3 hx3 hB2;have hC:=hC.step (hx2.j hx3) (by simp<;>omega);have hr:=hr.q hx3 (by intro b hb hFb;have:=hF _ hFb;simp at hb;omega);have hB1:=hB1.q (hx2.j hx3) (by simp<;>omega);refine Qc (Qd (Fa T4 J (Lb o3 J ‹_› (by rfl) ?_)))
  refine Qc (B1 (Qd (Zc 2 J (A4 J (fun k0=>?_) (fun k0=>?_)))))
  ·try simp at k0
   rw [Ei4 k0] at hR;refine Qb (Zc 1 J (Qb (Z 1 J (Ad J J (by omega) (Zc 1 J ⟨(i+1,d,true),sb J,?_,?_⟩)))));exact ⟨hC,hr,hB1,hR,by omega,by omega⟩;show 200000 - (i+1)<200000 - i;omega
  ·try simp at k0
   rw [Ei3 k0] at hR
   refine Qa (Qd (Zc 2 J (A4 J (fun k1=>?_) (fun k1=>?_))))
   ·refine A7 (E4 (H2 J k1) ?_);rw [cmpB_eql] at k1;rw [Ei4 (.inl k1)] at hR
    refine Qa (Qd (Zc 2 J (A4 J (fun q1=>?_) (fun q1=>?_))))
    ·try simp at q1
     rw [Ei4 (by omega)] at hR;refine Qd (Fa At2 J (Lb o3 J ‹_› (by rfl) ?_));refine C8 J (B0 Be0 Ci5 J (by rfl)) ?_;refine Pe Bg9 J ‹_› J J ?_;intro w4 hs4 hx4 hB1;have hC:=hC.step hx4 (by simp;omega);refine Qc (A6 (D5 J J (A5 Bq2 ‹_› J J) ?_));exact ⟨hC,by rw [← hR];rfl⟩
    ·try simp at q1
     rw [Ei3 (by omega)] at hR;refine A7 (Qd (Z 1 J (Ad J J (by omega) (Zc 1 J (Qb (Zc 1 J (Qb (Z 1 J (Ad J J (by omega) (Zc 1 J ⟨(i+1,d+1,false),sb J,?_,?_⟩))))))))));exact ⟨hC,hr,hB1,hR,by omega,by omega⟩;show 200000 - (i+1)<200000 - i;omega
   ·rw [cmpB_eqlF] at k1
    refine Qb (Zc 2 J (A4 J (fun k2=>?_) (fun k2=>?_)))
    ·rw [cmpB_eql] at k2;rw [Ei4 (.inr k2)] at hR
     refine Qa (Qd (Zc 2 J (A4 J (fun q1=>?_) (fun q1=>?_))))
     ·try simp at q1
      rw [Ei4 (by omega)] at hR;refine Qd (Fa At2 J (Lb o3 J ‹_› (by rfl) ?_));refine C8 J (B0 Be0 Ci5 J (by rfl)) ?_;refine Pe Bg9 J ‹_› J J ?_;intro w5 hs5 hx5 hB1;have hC:=hC.step hx5 (by simp;omega);refine Qc (A6 (D5 J J (A5 Bq2 ‹_› J J) ?_));exact ⟨hC,by rw [← hR];rfl⟩
     ·try simp at q1
      rw [Ei3 (by omega)] at hR;refine A7 (Qd (Z 1 J (Ad J J (by omega) (Zc 1 J (Qb (Zc 1 J (Qb (Z 1 J (Ad J J (by omega) (Zc 1 J ⟨(i+1,d+1,false),sb J,?_,?_⟩))))))))));exact ⟨hC,hr,hB1,hR,by omega,by omega⟩;show 200000 - (i+1)<200000 - i;omega
    ·rw [cmpB_eqlF] at k2;rw [Ei3 (Er7.2 ⟨k1,k2⟩)] at hR
     refine Qd (Zc 2 J (A4 J (fun k3=>?_) (fun k3=>?_)))
     ·try simp at k3
      rw [Ei4 k3] at hR
      refine Qa (Qd (Zc 2 J (A4 J (fun q1=>?_) (fun q1=>?_))))
      ·try simp at q1
       have q1':d=0:=by omega
       rw [Ei4 q1'] at hR;refine Qd (Fa At2 J (Lb o3 J ‹_› (by rfl) ?_));refine C8 J (B0 Be0 Ci5 J (by rfl)) ?_;refine Pe Bg9 J ‹_› J J ?_;intro w6 hs6 hx6 hB1;have hC:=hC.step hx6 (by simp;omega);refine Qc (A6 (D5 J J (A5 Bq2 ‹_› J J) ?_));exact ⟨hC,by rw [← hR];rfl⟩
      ·try simp at q1
       have q1':¬ d=0:=by omega
       rw [Ei3 q1'] at hR;refine A7 (Qd (Z 1 J (Su J J (by omega) (Zc 1 J (Qb (Zc 1 J (Qb (Z 1 J (Ad J J (by omega) (Zc 1 J ⟨(i+1,d - 1,true),⟨rfl,rfl,rfl,(G3 J (by omega)),rfl,rfl,trivial⟩,?_,?_⟩))))))))));exact ⟨hC,hr,hB1,hR,by omega,by omega⟩;show 200000 - (i+1)<200000 - i;omega
     ·try simp at k3
      rw [Ei3 k3] at hR
      refine Qd (Zc 2 J (A4 J (fun k4=>?_) (fun k4=>?_)))
      ·try simp at k4
       rw [Ei4 k4] at hR;refine Qb (Zc 1 J (Qb (Z 1 J (Ad J J (by omega) (Zc 1 J ⟨(i+1,d,false),sb J,?_,?_⟩)))));exact ⟨hC,hr,hB1,hR,by omega,by omega⟩;show 200000 - (i+1)<200000 - i;omega
      ·try simp at k4
       rw [Ei3 k4] at hR
       refine Qa (Qd (Zc 2 J (A4 J (fun k5=>?_) (fun k5=>?_))))
       ·have k5':a=false:=by simpa using k5
        rw [Ei4 k5'] at hR;refine Qd (Fa At2 J (Lb o3 J ‹_› (by rfl) ?_));refine C8 J (B0 Be0 Ci5 J (by rfl)) ?_;refine Pe Bg9 J ‹_› J J ?_;intro w7 hs7 hx7 hB1;have hC:=hC.step hx7 (by simp;omega);refine Qc (A6 (D5 J J (A5 Bq2 ‹_› J J) ?_));exact ⟨hC,by rw [← hR];rfl⟩
       ·have k5':¬ a=false:=by simpa using k5
        rw [Ei3 k5'] at hR;refine A7 (Qb (Zc 1 J (Qb (Z 1 J (Ad J J (by omega) (Zc 1 J ⟨(i+1,d,false),sb J,?_,?_⟩))))));exact ⟨hC,hr,hB1,hR,by omega,by omega⟩;show 200000 - (i+1)<200000 - i;omega
 ·try simp at h1
  have hX:Av5 l size (l.length+1 - i) i d a=if 0<d then (size,4) else (0,0):=by
   rw [show l.length+1 - i=0+1 by omega,Av5,Ei3 (by omega)]
  rw [hX] at hR
  refine Xb (Qa (Qd (Zc 2 J (A4 J (fun z1=>?_) (fun z1=>?_)))))
  ·try simp at z1
   rw [Ei4 (by omega)] at hR;refine Qd (Z 1 J (C8 J (B0 Be0 Ci5 J (by rfl)) ?_));refine Pe Bg9 J ‹_› J J ?_;intro w8 hs8 hx8 hB1;have hC:=hC.step hx8 (by simp;omega);refine Qc (A6 (D5 J J (A5 Bq2 ‹_› J J) ?_));exact ⟨hC,by rw [← hR];rfl⟩
  ·try simp at z1
   rw [Ei3 (by omega)] at hR;refine A7 (Qd (C8 J (B0 Be0 Ci5 J (by rfl)) ?_));refine Pe Bg9 J ‹_› J J ?_;intro w9 hs9 hx9 hB1;have hC:=hC.step hx9 (by simp;omega);refine Qc (A6 (D5 J J (A5 Bq2 ‹_› J J) ?_));exact ⟨hC,by rw [← hR];rfl⟩
inductive R8 where
 |node (kind:Int) (set:Nat) (lz:Bool) (l:List R8)
instance:Inhabited R8:=⟨.node 0 0 false []⟩
def n8C (k:Int) (s:Nat) (lz:Bool) (A:Option Addr) (n c:Nat):List Value:=[.int .i64 k]++C3 s++[.bool lz,.slice A n c]
mutual
def N8 (F:Nat→Prop) (w:World):R8→List Value→Prop
 | .node k s lz l,cs=>∃ A c css,cs=n8C k s lz A l.length c∧Rd F w 7 A l.length (List.flatten css)∧N8r F w l css
def N8r (F:Nat→Prop) (w:World):List R8→List (List Value)→Prop
 |[],css=>css=[]
 |t::r,css=>∃ cs rest,css=cs::rest∧N8 F w t cs∧N8r F w r rest
end
mutual
theorem Eh0 {F:Nat→Prop} {w w':World} {S:List Nat} (c:Chg S w w') (hS:∀ b∈S,¬ F b):∀ (t:R8) (cs:List Value),N8 F w t cs→N8 F w' t cs
 | .node k s lz l,cs,h=>by
  rw [N8] at h ⊢;obtain ⟨A,cc,css,h1,h2,h3⟩:=h;exact ⟨A,cc,css,h1,h2.q c hS,Ce4 c hS l css h3⟩
theorem Ce4 {F:Nat→Prop} {w w':World} {S:List Nat} (c:Chg S w w') (hS:∀ b∈S,¬ F b):∀ (l:List R8) (css:List (List Value)),N8r F w l css→N8r F w' l css
 |[],css,h=>by rw [N8r] at h ⊢;exact h
 |t::r,css,h=>by
  rw [N8r] at h ⊢;obtain ⟨cs,rest,h1,h2,h3⟩:=h;exact ⟨cs,rest,h1,Eh0 c hS t cs h2,Ce4 c hS r rest h3⟩
end
mutual
theorem Dh0 {F F':Nat→Prop} {w:World} (hF:∀ b,F b→b<w.heap.size→F' b):∀ (t:R8) (cs:List Value),N8 F w t cs→N8 F' w t cs
 | .node k s lz l,cs,h=>by
  rw [N8] at h ⊢;obtain ⟨A,cc,css,h1,h2,h3⟩:=h;exact ⟨A,cc,css,h1,h2.mono hF,Bo4 hF l css h3⟩
theorem Bo4 {F F':Nat→Prop} {w:World} (hF:∀ b,F b→b<w.heap.size→F' b):∀ (l:List R8) (css:List (List Value)),N8r F w l css→N8r F' w l css
 |[],css,h=>by rw [N8r] at h ⊢;exact h
 |t::r,css,h=>by
  rw [N8r] at h ⊢;obtain ⟨cs,rest,h1,h2,h3⟩:=h;exact ⟨cs,rest,h1,Dh0 hF t cs h2,Bo4 hF r rest h3⟩
end
theorem N8r.get {F:Nat→Prop} {w:World}:∀ {l:List R8} {css:List (List Value)},N8r F w l css→∀ k,k<l.length→N8 F w (l.getD k default) (css.getD k [])
 |[],css,h,k,hk=>by simp at hk
 |t::r,css,h,0,hk=>by
  rw [N8r] at h;obtain ⟨cs,rest,rfl,h2,_⟩:=h
  simpa using h2
 |t::r,css,h,k+1,hk=>by
  rw [N8r] at h;obtain ⟨cs,rest,rfl,_,h3⟩:=h
  simpa using N8r.get h3 k (by simpa using hk)
theorem N8.len {F:Nat→Prop} {w:World}:∀ {t:R8} {cs:List Value},N8 F w t cs→cs.length=7
 | .node k s lz l,cs,h=>by
  rw [N8] at h;obtain ⟨A,c,css,rfl,_⟩:=h
  rfl
theorem N8.q {F:Nat→Prop} {w w':World} {t:R8} {cs:List Value} {S:List Nat} (h:N8 F w t cs) (c:Chg S w w') (hS:∀ b∈S,¬ F b):N8 F w' t cs:=Eh0 c hS t cs h
theorem N8r.q {F:Nat→Prop} {w w':World} {t:List R8} {cs:List (List Value)} {S:List Nat} (h:N8r F w t cs) (c:Chg S w w') (hS:∀ b∈S,¬ F b):N8r F w' t cs:=Ce4 c hS t cs h
theorem N8.u {F:Nat→Prop} {w w':World} {t:R8} {cs:List Value} (h:N8 F w t cs) (c:Chg [] w w'):N8 F w' t cs:=h.q c (fun b hb=>by cases hb)
theorem N8r.u {F:Nat→Prop} {w w':World} {t:List R8} {cs:List (List Value)} (h:N8r F w t cs) (c:Chg [] w w'):N8r F w' t cs:=h.q c (fun b hb=>by cases hb)
theorem N8.mono {F F':Nat→Prop} {w:World} {t:R8} {cs:List Value} (h:N8 F w t cs) (hF:∀ b,F b→b<w.heap.size→F' b):N8 F' w t cs:=Dh0 hF t cs h
theorem N8r.mono {F F':Nat→Prop} {w:World} {t:List R8} {cs:List (List Value)} (h:N8r F w t cs) (hF:∀ b,F b→b<w.heap.size→F' b):N8r F' w t cs:=Bo4 hF t cs h
def Af7 (k:Int) (a b:R8):R8:=.node k 0 false [a,b]
theorem Al4 (k:Int) (a b:R8) (ca cb:List Value) (F:Nat→Prop) (w:World) (hF:∀ x,F x→x<w.heap.size) (hA:N8 F w a ca) (hBb:N8 F w b cb):Calls P 121 #[.int .i64 k,.agg ca.toArray,.agg cb.toArray] w (Ret fun u w'=>Chg [] w w'∧∃ cs,u= .agg cs.toArray∧N8 (fun x=>F x∨(w.heap.size≤x∧x<w'.heap.size)) w' (Af7 k a b) cs):=by
 have hC:=A8 [] w;have hla:=hA.len;have hlb:=hBb.len
 obtain ⟨a0,a1,a2,a3,a4,a5,a6,rfl⟩:∃ a0 a1 a2 a3 a4 a5 a6,ca=[a0,a1,a2,a3,a4,a5,a6]:=by
  match ca,hla with
  |[a0,a1,a2,a3,a4,a5,a6],_=>exact ⟨a0,a1,a2,a3,a4,a5,a6,rfl⟩
 obtain ⟨d0,d1,d2,d3,d4,d5,d6,rfl⟩:∃ a0 a1 a2 a3 a4 a5 a6,cb=[a0,a1,a2,a3,a4,a5,a6]:=by
  match cb,hlb with
  |[a0,a1,a2,a3,a4,a5,a6],_=>exact ⟨a0,a1,a2,a3,a4,a5,a6,rfl⟩
 refine D6 Tryz.func121 J J (Qd (B4 J (E0 J J) ?_));intro b1 w1 hb1 hs1 hx1 hB1;refine B4 J (E0 J J) ?_;intro b2 w2 hb2 hs2 hx2 hB2;refine B4 J (B7 Aq1 J) ?_;intro b3 w3 hb3 hs3 hx3 hB3;have hB1:=hB1.u (hx2.s0 hx3);have hB2:=hB2.u hx3;refine Qc (Qd (Z 1 J (La M7 J ‹_› J J ?_)));refine La M7 J ‹_› J J ?_;refine B4 J (B5 Ak6 Tryz.underlying71 Aq1 J J J (by rfl)) ?_;intro b4 w4 hb4 hs4 hx4 hB4;have hB3:=hB3.u hx4;refine C8 J (B0 Aq1 Db2 J (by rfl)) ?_;refine Pe Ak3 J ‹_› J J ?_;intro w5 hs5 hx5 hB3;have hC:=hC.step ((((hx1.j hx2).j hx3).j hx4).j hx5) (by simp<;>omega);have hB4:=hB4.q hx5 (by simp;omega);refine Qc (A6 (D5 J J (A5 M7 ‹_› J J) ?_));refine ⟨hC,n8C k 0 false (some ⟨b4,0,none⟩) 2 2,by unfold n8C;rw [C5];rfl,?_⟩;unfold Af7;rw [N8];refine ⟨some ⟨b4,0,none⟩,2,[[a0,a1,a2,a3,a4,a5,a6],[d0,d1,d2,d3,d4,d5,d6]],rfl,Blk.rd ‹_› J (.inr ⟨by omega,by have:=hB4.lt;omega⟩),?_⟩;rw [N8r];refine ⟨_,_,rfl,(hA.u hC).mono (fun x h _=>.inl h),?_⟩;rw [N8r];refine ⟨_,_,rfl,(hBb.u hC).mono (fun x h _=>.inl h),?_⟩;rw [N8r]
inductive R6 where
 |node (kind:Int) (set:Nat) (mn mx:Int) (lz:Bool) (l:List R6) (frm till:Int)
instance:Inhabited R6:=⟨.node 0 0 0 0 false [] 0 0⟩
def n6C (k:Int) (s:Nat) (mn mx:Int) (lz:Bool) (A:Option Addr) (n c:Nat) (a b:Int):List Value:=[.int .i64 k]++C3 s++[.int .i64 mn,.int .i64 mx,.bool lz,.slice A n c,.int .i64 a,.int .i64 b]
mutual
def N6 (F:Nat→Prop) (w:World):R6→List Value→Prop
 | .node k s mn mx lz l fr tl,cs=>∃ A c css,cs=n6C k s mn mx lz A l.length c fr tl∧Rd F w 11 A l.length (List.flatten css)∧N6r F w l css
def N6r (F:Nat→Prop) (w:World):List R6→List (List Value)→Prop
 |[],css=>css=[]
 |t::r,css=>∃ cs rest,css=cs::rest∧N6 F w t cs∧N6r F w r rest
end
mutual
theorem Eh1 {F:Nat→Prop} {w w':World} {S:List Nat} (c:Chg S w w') (hS:∀ b∈S,¬ F b):∀ (t:R6) (cs:List Value),N6 F w t cs→N6 F w' t cs
 | .node k s mn mx lz l fr tl,cs,h=>by
  rw [N6] at h ⊢;obtain ⟨A,cc,css,h1,h2,h3⟩:=h;exact ⟨A,cc,css,h1,h2.q c hS,Ce5 c hS l css h3⟩
theorem Ce5 {F:Nat→Prop} {w w':World} {S:List Nat} (c:Chg S w w') (hS:∀ b∈S,¬ F b):∀ (l:List R6) (css:List (List Value)),N6r F w l css→N6r F w' l css
 |[],css,h=>by rw [N6r] at h ⊢;exact h
 |t::r,css,h=>by
  rw [N6r] at h ⊢;obtain ⟨cs,rest,h1,h2,h3⟩:=h;exact ⟨cs,rest,h1,Eh1 c hS t cs h2,Ce5 c hS r rest h3⟩
end
mutual
theorem Dh1 {F F':Nat→Prop} {w:World} (hF:∀ b,F b→b<w.heap.size→F' b):∀ (t:R6) (cs:List Value),N6 F w t cs→N6 F' w t cs
 | .node k s mn mx lz l fr tl,cs,h=>by
  rw [N6] at h ⊢;obtain ⟨A,cc,css,h1,h2,h3⟩:=h;exact ⟨A,cc,css,h1,h2.mono hF,Bo5 hF l css h3⟩
theorem Bo5 {F F':Nat→Prop} {w:World} (hF:∀ b,F b→b<w.heap.size→F' b):∀ (l:List R6) (css:List (List Value)),N6r F w l css→N6r F' w l css
 |[],css,h=>by rw [N6r] at h ⊢;exact h
 |t::r,css,h=>by
  rw [N6r] at h ⊢;obtain ⟨cs,rest,h1,h2,h3⟩:=h;exact ⟨cs,rest,h1,Dh1 hF t cs h2,Bo5 hF r rest h3⟩
end
theorem N6r.get {F:Nat→Prop} {w:World}:∀ {l:List R6} {css:List (List Value)},N6r F w l css→∀ k,k<l.length→N6 F w (l.getD k default) (css.getD k [])
 |[],css,h,k,hk=>by simp at hk
 |t::r,css,h,0,hk=>by
  rw [N6r] at h;obtain ⟨cs,rest,rfl,h2,_⟩:=h
  simpa using h2
 |t::r,css,h,k+1,hk=>by
  rw [N6r] at h;obtain ⟨cs,rest,rfl,_,h3⟩:=h
  simpa using N6r.get h3 k (by simpa using hk)
theorem N6.len {F:Nat→Prop} {w:World}:∀ {t:R6} {cs:List Value},N6 F w t cs→cs.length=11
 | .node k s mn mx lz l fr tl,cs,h=>by
  rw [N6] at h;obtain ⟨A,c,css,rfl,_⟩:=h
  rfl
theorem N6.q {F:Nat→Prop} {w w':World} {t:R6} {cs:List Value} {S:List Nat} (h:N6 F w t cs) (c:Chg S w w') (hS:∀ b∈S,¬ F b):N6 F w' t cs:=Eh1 c hS t cs h
theorem N6r.q {F:Nat→Prop} {w w':World} {t:List R6} {cs:List (List Value)} {S:List Nat} (h:N6r F w t cs) (c:Chg S w w') (hS:∀ b∈S,¬ F b):N6r F w' t cs:=Ce5 c hS t cs h
theorem N6.u {F:Nat→Prop} {w w':World} {t:R6} {cs:List Value} (h:N6 F w t cs) (c:Chg [] w w'):N6 F w' t cs:=h.q c (fun b hb=>by cases hb)
theorem N6r.u {F:Nat→Prop} {w w':World} {t:List R6} {cs:List (List Value)} (h:N6r F w t cs) (c:Chg [] w w'):N6r F w' t cs:=h.q c (fun b hb=>by cases hb)
theorem N6.mono {F F':Nat→Prop} {w:World} {t:R6} {cs:List Value} (h:N6 F w t cs) (hF:∀ b,F b→b<w.heap.size→F' b):N6 F' w t cs:=Dh1 hF t cs h
theorem N6r.mono {F F':Nat→Prop} {w:World} {t:List R6} {cs:List (List Value)} (h:N6r F w t cs) (hF:∀ b,F b→b<w.heap.size→F' b):N6r F' w t cs:=Bo5 hF t cs h
def R6.frm:R6→Int
 | .node _ _ _ _ _ _ a _=>a
def R6.till:R6→Int
 | .node _ _ _ _ _ _ _ b=>b
def rkd (l:List RTk) (i:Nat):Int:=(l.getD i default).kind
def Au3 (l:List RTk) (alt:Nat→Nat→R6) (i:Nat):R6 × Nat:=
 if rkd l i=0 then (.node 1 (l.getD i default).set 0 0 false [] (l.getD i default).frm (l.getD i default).till,i+1)
 else (.node (1+rkd l i) 0 0 0 false [alt (i+1) (Bc4 l (i+1)).toNat] (l.getD i default).frm (l.getD (Bc4 l (i+1)).toNat default).till,(Bc4 l (i+1)).toNat+1)
def cntN (q:RTk) (n:R6):R6:=.node 6 0 q.mn q.mx q.lz [n] n.frm q.till
def Ak4 (l:List RTk) (to:Nat) (x:R6 × Nat):R6 × Nat:=
 if x.2<to∧rkd l x.2=5 then (cntN (l.getD x.2 default) x.1,x.2+1) else x
def As0 (l:List RTk) (alt:Nat→Nat→R6) (to:Nat):Nat→Nat→List R6→List R6
 |0,_,o=>o
 |f+1,i,o=>if i<to then As0 l alt to f (Ak4 l to (Au3 l alt i)).2 (o++[(Ak4 l to (Au3 l alt i)).1]) else o
def Bp9 (kind:Int) (o:List R6):R6:=if o.length=1 then o.getD 0 default else .node kind 0 0 0 false o (o.getD 0 default).frm (o.getD (o.length - 1) default).till
def catE (l:List RTk) (size:Int) (frm:Nat) (o:List R6):R6:=if o.length=0 then .node 0 0 0 0 false [] (Bn9 l frm size) (Bn9 l frm size) else Bp9 4 o
def dpR (l:List RTk) (i to:Nat) (d:Int):Int:=if i<to then (if rkd l i=1∨rkd l i=2 then d+1 else if rkd l i=3 then d - 1 else d) else d
def Af3 (l:List RTk) (cat:Nat→Nat→R6) (to:Nat):Nat→Nat→Nat→Int→List R6→List R6
 |0,_,_,_,o=>o
 |f+1,i,at_,d,o=>
  if i≤to then
   if i=to∨(rkd l i=4∧dpR l i to d=0) then Af3 l cat to f (i+1) (i+1) (dpR l i to d) (o++[cat at_ i])
   else Af3 l cat to f (i+1) at_ (dpR l i to d) o
  else o
def As2 (l:List RTk) (size:Int):Nat→Bool→Nat→Nat→R6
 |0,_,_,_=>default
 |f+1,true,a,b=>Bp9 5 (Af3 l (fun x y=>As2 l size f false x y) b (b+2 - a) a a 0 [])
 |f+1,false,a,b=>catE l size a (As0 l (fun x y=>As2 l size f true x y) b (b+1 - a) a [])
def Stp (k:Int) (d:Nat) (a:Bool) (d':Nat) (a':Bool):Prop:=
 (k=0∧d'=d∧a'=true)∨((k=1∨k=2)∧d'=d+1∧a'=false)∨(k=3∧d=d'+1∧a'=true)∨(k=4∧d'=d∧a'=false)∨(k=5∧a=true∧d'=d∧a'=false)
structure Shp (l:List RTk) (d:Nat→Nat) (a:Nat→Bool):Prop where
 st:∀ i,i<l.length→Stp (rkd l i) (d i) (a i) (d (i+1)) (a (i+1))
 d0:d 0=0
 a0:a 0=false
 dn:d l.length=0
structure Rng (l:List RTk) (d:Nat→Nat) (a:Nat→Bool) (D x y:Nat):Prop where
 le:x≤y
 len:y≤l.length
 dx:d x=D
 dy:d y=D
 ax:a x=false
 ge:∀ i,x≤i→i≤y→D≤d i
theorem Aq0 {l:List RTk} {d:Nat→Nat} {a:Nat→Bool} (h:Shp l d a) {D x y i0:Nat} (hy:y≤l.length) (hdy:d y=D):∀ (f j e:Nat),f=l.length+1 - j→i0≤j→j≤y→d j=D+1+e→(∀ m,i0≤m→m≤j→D+1≤d m)→∃ k:Nat,Al7 l f j e=(k:Int)∧i0≤k∧k<y∧rkd l k=3∧d k=D+1∧∀ m,i0≤m→m≤k→D+1≤d m
 |0,j,e,hf,h0,hj,hd,hm=>by omega
 |f+1,j,e,hf,h0,hj,hd,hm=>by
  have hjy:j<y:=by
   rcases Ep7 j y with h1|h1
   ·exact h1
   ·have:j=y:=by omega
    subst this;omega
  rw [Al7,Ei4 (by omega)];have hs:=h.st j (by omega);have hk:(l.getD j default).kind=rkd l j:=rfl;rw [hk]
  have ext:D+1≤d (j+1)→∀ m,i0≤m→m≤j+1→D+1≤d m:=fun h1 m ha hb=>by
   by_cases hc:m≤j
   ·exact hm m ha hc
   ·have:m=j+1:=by omega
    rw [this];exact h1
  rcases hs with ⟨h1,h2,_⟩|⟨h1,h2,_⟩|⟨h1,h2,_⟩|⟨h1,h2,_⟩|⟨h1,_,h2,_⟩
  ·rw [Ei3 (by omega),Ei3 (by omega)];exact Aq0 h (x:=x) hy hdy f (j+1) e (by omega) (by omega) (by omega) (by omega) (ext (by omega))
  ·rw [Ei4 h1];exact Aq0 h (x:=x) hy hdy f (j+1) (e+1) (by omega) (by omega) (by omega) (by omega) (ext (by omega))
  ·rw [Ei3 (by omega),Ei4 h1]
   by_cases he:e=0
   ·rw [Ei4 he];exact ⟨j,rfl,h0,hjy,h1,by omega,hm⟩
   ·rw [Ei3 he];exact Aq0 h (x:=x) hy hdy f (j+1) (e - 1) (by omega) (by omega) (by omega) (by omega) (ext (by omega))
  ·rw [Ei3 (by omega),Ei3 (by omega)];exact Aq0 h (x:=x) hy hdy f (j+1) e (by omega) (by omega) (by omega) (by omega) (ext (by omega))
  ·rw [Ei3 (by omega),Ei3 (by omega)];exact Aq0 h (x:=x) hy hdy f (j+1) e (by omega) (by omega) (by omega) (by omega) (ext (by omega))
theorem Rng.group {l:List RTk} {d:Nat→Nat} {a:Nat→Bool} {D x y i:Nat} (h:Shp l d a) (r:Rng l d a D x y) (hx:x≤i) (hy:i<y) (hd:d i=D) (hk:rkd l i=1∨rkd l i=2):∃ k:Nat,Bc4 l (i+1)=(k:Int)∧k<y∧rkd l k=3∧d (k+1)=D∧a (k+1)=true∧Rng l d a (D+1) (i+1) k:=by
 have hl:=r.len;have hs:=h.st i (by omega)
 have h1:d (i+1)=D+1∧a (i+1)=false:=by
  rcases hs with ⟨h1,_⟩|⟨_,h2,h3⟩|⟨h1,_⟩|⟨h1,_⟩|⟨h1,_⟩
  ·omega
  ·exact ⟨by omega,h3⟩
  ·omega
  ·omega
  ·omega
 obtain ⟨k,k1,k2,k3,k4,k5,k6⟩:=Aq0 h (x:=x) (i0:=i+1) r.len r.dy (l.length+1 - (i+1)) (i+1) 0 rfl (Ej4 _) (by omega) (by omega) (fun m ha hb=>by
  have:m=i+1:=by omega
  rw [this];omega)
 have hs:=h.st k (by omega)
 have h2:d (k+1)=D∧a (k+1)=true:=by
  rcases hs with ⟨h1,_⟩|⟨h1,_⟩|⟨h1,h2,h3⟩|⟨h1,_⟩|⟨h1,_⟩
  ·omega
  ·omega
  ·exact ⟨by omega,h3⟩
  ·omega
  ·omega
 exact ⟨k,k1,k3,k4,h2.1,h2.2,⟨k2,by omega,h1.1,k5,h1.2,k6⟩⟩
structure AtI (l:List RTk) (d:Nat→Nat) (a:Nat→Bool) (D x y i:Nat):Prop where
 lo:x≤i
 hi:i≤y
 di:d i=D
 ok:a i=false∨(i<y→rkd l i≠5)
def Be8 (l:List RTk) (d:Nat→Nat) (D x y:Nat):Prop:=∀ i,x≤i→i<y→d i=D→rkd l i≠4
theorem AtI.kind {l:List RTk} {d:Nat→Nat} {a:Nat→Bool} {D x y i:Nat} (h:Shp l d a) (r:Rng l d a D x y) (nb:Be8 l d D x y) (t:AtI l d a D x y i) (hi:i<y):(rkd l i=0∧d (i+1)=D∧a (i+1)=true)∨rkd l i=1∨rkd l i=2:=by
 have hl:=r.len;have hs:=h.st i (by omega);have hb:=nb i t.lo hi t.di;have hd:=t.di
 rcases hs with ⟨h1,h2,h3⟩|⟨h1,h2,_⟩|⟨h1,h2,_⟩|⟨h1,h2,_⟩|⟨h1,h2,_⟩
 ·exact .inl ⟨h1,by omega,h3⟩
 ·exact .inr h1
 ·have:=r.ge (i+1) (by have:=t.lo;omega) (by omega);omega
 ·exact absurd h1 hb
 ·rcases t.ok with h4|h4
  ·rw [h4] at h2;cases h2
  ·exact absurd h1 (h4 hi)
theorem AtI.more {l:List RTk} {d:Nat→Nat} {a:Nat→Bool} {D x y j:Nat} (h:Shp l d a) (r:Rng l d a D x y) (h1:x≤j) (h3:j<y) (h4:d j=D) (h5:rkd l j=5):AtI l d a D x y (j+1):=by
 have hl:=r.len
 rcases h.st j (by omega) with ⟨k1,_⟩|⟨k1,_⟩|⟨k1,_⟩|⟨k1,_⟩|⟨_,_,k3,k4⟩
 ·omega
 ·omega
 ·omega
 ·omega
 ·exact ⟨by omega,by omega,by omega,.inl k4⟩
structure AtB (l:List RTk) (d:Nat→Nat) (a:Nat→Bool) (D x y i at_:Nat):Prop where
 lo:x≤at_
 mid:at_≤i
 hi:i≤y
 dat:d at_=D
 aat:a at_=false
 nb:Be8 l d D at_ i
theorem AtB.rng {l:List RTk} {d:Nat→Nat} {a:Nat→Bool} {D x y i at_:Nat} (r:Rng l d a D x y) (t:AtB l d a D x y i at_) (hd:d i=D):Rng l d a D at_ i:=
 ⟨t.mid,El9 t.hi r.len,t.dat,hd,t.aat,fun m h1 h2=>r.ge m (El9 t.lo h1) (El9 h2 t.hi)⟩
theorem AtB.deep {l:List RTk} {d:Nat→Nat} {a:Nat→Bool} {D x y i at_:Nat} {e:Int} (h:Shp l d a) (r:Rng l d a D x y) (t:AtB l d a D x y i at_) (hi:i<y) (he:e=(d i:Int) - D):dpR l i y e=(d (i+1):Int) - D∧(rkd l i=4→d (i+1)=d i∧a (i+1)=false):=by
 have hl:=r.len;unfold dpR;rw [Ei4 hi]
 rcases h.st i (by omega) with ⟨k1,k2,k3⟩|⟨k1,k2,k3⟩|⟨k1,k2,k3⟩|⟨k1,k2,k3⟩|⟨k1,_,k2,k3⟩
 ·rw [Ei3 (by omega),Ei3 (by omega)];exact ⟨by omega,fun h=>by omega⟩
 ·rw [Ei4 k1];exact ⟨by omega,fun h=>by omega⟩
 ·rw [Ei3 (by omega),Ei4 k1];exact ⟨by omega,fun h=>by omega⟩
 ·rw [Ei3 (by omega),Ei3 (by omega)];exact ⟨by omega,fun h=>⟨k2,k3⟩⟩
 ·rw [Ei3 (by omega),Ei3 (by omega)];exact ⟨by omega,fun h=>by omega⟩
theorem AtB.next {l:List RTk} {d:Nat→Nat} {a:Nat→Bool} {D x y i at_:Nat} (t:AtB l d a D x y i at_) (hi:i<y) (hn:¬ (rkd l i=4∧d i=D)):AtB l d a D x y (i+1) at_:=
 ⟨t.lo,by have:=t.mid;omega,by omega,t.dat,t.aat,fun m h1 h2 h3=>by
  by_cases hm:m<i
  ·exact t.nb m h1 hm h3
  ·have:m=i:=by omega
   subst this
   exact fun h=>hn ⟨h,h3⟩⟩
theorem AtB.cut {l:List RTk} {d:Nat→Nat} {a:Nat→Bool} {D x y i at_:Nat} (t:AtB l d a D x y i at_) (hi:i<y) (hd:d (i+1)=D) (ha:a (i+1)=false):AtB l d a D x y (i+1) (i+1):=
 ⟨by have:=t.lo;have:=t.mid;omega,Ej4 _,by omega,hd,ha,fun m h1 h2=>by omega⟩
def stD (l:List RTk):Nat→Nat × Bool
 |0=>(0,false)
 |i+1=>if rkd l i=0 then ((stD l i).1,true) else if rkd l i=1∨rkd l i=2 then ((stD l i).1+1,false) else if rkd l i=3 then ((stD l i).1 - 1,true) else ((stD l i).1,false)
theorem Bi2 {l:List RTk} {size:Int} (hk:∀ i,i<l.length→0≤rkd l i∧rkd l i≤5):∀ (f i:Nat),f=l.length+1 - i→i≤l.length→(Av5 l size f i (stD l i).1 (stD l i).2).2=0→(∀ j,i≤j→j<l.length→Stp (rkd l j) (stD l j).1 (stD l j).2 (stD l (j+1)).1 (stD l (j+1)).2)∧(stD l l.length).1=0
 |0,i,hf,hi,h=>by omega
 |f+1,i,hf,hi,h=>by
  rw [Av5] at h
  by_cases hin:i<l.length
  ·rw [Ei4 hin] at h;have hke:(l.getD i default).kind=rkd l i:=rfl;simp only [hke] at h;have hr:=hk i hin
   have go:Stp (rkd l i) (stD l i).1 (stD l i).2 (stD l (i+1)).1 (stD l (i+1)).2→(Av5 l size f (i+1) (stD l (i+1)).1 (stD l (i+1)).2).2=0→(∀ j,i≤j→j<l.length→Stp (rkd l j) (stD l j).1 (stD l j).2 (stD l (j+1)).1 (stD l (j+1)).2)∧(stD l l.length).1=0:=fun hS hR=>by
    obtain ⟨h1,h2⟩:=Bi2 hk f (i+1) (by omega) (by omega) hR;refine ⟨fun j ha hb=>?_,h2⟩
    by_cases hc:i+1≤j
    ·exact h1 j hc hb
    ·have:j=i:=by omega
     subst this;exact hS
   have hst:stD l (i+1)=if rkd l i=0 then ((stD l i).1,true) else if rkd l i=1∨rkd l i=2 then ((stD l i).1+1,false) else if rkd l i=3 then ((stD l i).1 - 1,true) else ((stD l i).1,false):=rfl
   by_cases h0:rkd l i=0
   ·rw [Ei4 h0] at h hst;exact go (.inl ⟨h0,by rw [hst],by rw [hst]⟩) (by rw [hst];exact h)
   rw [Ei3 h0] at h hst
   by_cases h1:rkd l i=1∨rkd l i=2
   ·rw [Ei4 h1] at h hst
    split at h
    ·cases h
    exact go (.inr (.inl ⟨h1,by rw [hst],by rw [hst]⟩)) (by rw [hst];exact h)
   rw [Ei3 h1] at h hst
   by_cases h3:rkd l i=3
   ·rw [Ei4 h3] at h hst
    split at h
    ·cases h
    exact go (.inr (.inr (.inl ⟨h3,by rw [hst];show _=_ - 1+1;omega,by rw [hst]⟩))) (by rw [hst];exact h)
   rw [Ei3 h3] at h hst
   by_cases h4:rkd l i=4
   ·rw [Ei4 h4] at h;exact go (.inr (.inr (.inr (.inl ⟨h4,by rw [hst],by rw [hst]⟩)))) (by rw [hst];exact h)
   rw [Ei3 h4] at h
   split at h
   ·cases h
   rename_i h6
   exact go (.inr (.inr (.inr (.inr ⟨by omega,by simpa using h6,by rw [hst],by rw [hst]⟩)))) (by rw [hst];exact h)
  ·rw [Ei3 hin] at h;have:i=l.length:=by omega
   subst this;refine ⟨fun j ha hb=>by omega,?_⟩
   split at h
   ·cases h
   ·omega
theorem Ar9 {l:List RTk} {size:Int} (hk:∀ i,i<l.length→0≤rkd l i∧rkd l i≤5) (h:(Bi1 l size).2=0):Shp l (fun i=>(stD l i).1) (fun i=>(stD l i).2):=by
 obtain ⟨h1,h2⟩:=Bi2 (size:=size) hk (l.length+1) 0 rfl (Ej3 _) h;exact ⟨fun i hi=>h1 i (Ej3 _) hi,rfl,rfl,h2⟩
theorem Shp.all {l:List RTk} {d:Nat→Nat} {a:Nat→Bool} (h:Shp l d a):Rng l d a 0 0 l.length:=⟨Ej3 _,Ej4 _,h.d0,h.dn,h.a0,fun _ _ _=>Ej3 _⟩
theorem Ax7 (L:List Nat) (t:RTk) (e:Int × Int):(Cd8 L t e).1.kind=t.kind:=by
 unfold Cd8
 split
 ·rfl
 ·dsimp only;split<;>rfl
theorem Dw0 (L:List Nat) (i:Nat):0≤(Cf2 L i).1.kind∧(Cf2 L i).1.kind≤5:=by
 unfold Cf2;simp only []
 by_cases h1:L.getD i 0=92
 ·rw [Ei4 h1];constructor<;>simp
 rw [Ei3 h1]
 by_cases h2:L.getD i 0=91
 ·rw [Ei4 h2];constructor<;>simp
 rw [Ei3 h2]
 by_cases h3:L.getD i 0=40
 ·rw [Ei4 h3]
  split<;>constructor<;>simp
 rw [Ei3 h3]
 by_cases h4:L.getD i 0=41
 ·rw [Ei4 h4];constructor<;>simp
 rw [Ei3 h4]
 by_cases h5:L.getD i 0=124
 ·rw [Ei4 h5];constructor<;>simp
 rw [Ei3 h5]
 by_cases h6:L.getD i 0=46
 ·rw [Ei4 h6];constructor<;>simp
 rw [Ei3 h6]
 by_cases h7:L.getD i 0=94∨L.getD i 0=36
 ·rw [Ei4 h7];constructor<;>simp
 rw [Ei3 h7]
 by_cases h8:L.getD i 0=93∨L.getD i 0=125
 ·rw [Ei4 h8];constructor<;>simp
 rw [Ei3 h8]
 by_cases h9:L.getD i 0∉B6 Ee9
 ·rw [Ei4 h9];constructor<;>simp
 rw [Ei3 h9]
 split
 ·rw [Ax7];constructor<;>simp
 split
 ·rw [Ax7];constructor<;>simp
 split
 ·rw [Ax7];constructor<;>simp
 ·rw [Ax7];constructor<;>simp
theorem Bc3 (L:List Nat):∀ (f i:Nat) (l:List RTk),(∀ t∈l,0≤t.kind∧t.kind≤5)→∀ t∈(Y6 L f i l).1,0≤t.kind∧t.kind≤5
 |0,i,l,h=>by rw [Y6];exact h
 |f+1,i,l,h=>by
  rw [Y6]
  split
  ·simp only []
   split
   ·intro t ht;cases ht
   ·refine Bc3 L f _ _ fun t ht=>?_
    rcases El8.1 ht with h1|h1
    ·exact h t h1
    ·rw [Ei6] at h1;subst h1;exact Dw0 L i
  ·exact h
theorem Du3 (L:List Nat):∀ i,i<(K0 L).1.length→0≤rkd (K0 L).1 i∧rkd (K0 L).1 i≤5:=by
 intro i hi;unfold rkd;rw [Ei5,Ei7 hi];exact Bc3 L _ 0 [] (fun t ht=>by cases ht) _ (List.getElem_mem hi)
theorem Br9 (L:List Nat) (hL:∀ b∈L,b<256):∀ (f i:Nat) (l:List RTk),l.length≤i→i≤L.length→(Y6 L f i l).1.length≤L.length
 |0,i,l,h,hi=>by rw [Y6];exact El9 h hi
 |f+1,i,l,h,hi=>by
  rw [Y6]
  split
  ·rename_i hin
   have hg:=Cj0 L hL i hin;simp only [];generalize Cf2 L i=x at*;obtain ⟨x,p,e⟩:=x;simp only [] at*
   split
   ·exact Ej3 _
   ·rename_i he
    obtain ⟨j,hj,h1,h2⟩:=hg (by simpa using he);simp only [] at hj;subst hj;rw [Ej2];exact Br9 L hL f j _ (by simp;omega) h2
  ·exact El9 h hi
theorem Br8 (L:List Nat) (hL:∀ b∈L,b<256):(K0 L).1.length≤L.length:=Br9 L hL _ 0 [] (Ej3 _) (Ej3 _)
def L9 (L:List Nat):R6 × Int × Int:=
 if (K0 L).2.2≠0 then (default,(K0 L).2)
 else if (Bi1 (K0 L).1 L.length).2≠0 then (default,Bi1 (K0 L).1 L.length)
 else (As2 (K0 L).1 L.length (2*(K0 L).1.length+2) true 0 (K0 L).1.length,0,0)
def RCatC (l:List RTk) (A:Option Addr) (c:Nat) (size:Int) (f:Nat):Prop:=∀ (dd:Nat→Nat) (aa:Nat→Bool) (D x y:Nat) (F:Nat→Prop) (w:World),Shp l dd aa→Rng l dd aa D x y→Be8 l dd D x y→2*(y - x)<f→(∀ b,F b→b<w.heap.size)→Rd F w 10 A l.length (U9 l)→Calls P 146 #[.slice A l.length c,.int .i64 (x:Nat),.int .i64 (y:Nat),.int .i64 size] w (Ret fun u w'=>Chg [] w w'∧∃ cs,u= .agg cs.toArray∧N6 (FR w.heap.size w'.heap.size []) w' (As2 l size f false x y) cs)
def RAltC (l:List RTk) (A:Option Addr) (c:Nat) (size:Int) (f:Nat):Prop:=∀ (dd:Nat→Nat) (aa:Nat→Bool) (D x y:Nat) (F:Nat→Prop) (w:World),Shp l dd aa→Rng l dd aa D x y→2*(y - x)+1<f→(∀ b,F b→b<w.heap.size)→Rd F w 10 A l.length (U9 l)→Calls P 120 #[.slice A l.length c,.int .i64 (x:Nat),.int .i64 (y:Nat),.int .i64 size] w (Ret fun u w'=>Chg [] w w'∧∃ cs,u= .agg cs.toArray∧N6 (FR w.heap.size w'.heap.size []) w' (As2 l size f true x y) cs)
theorem N6.cells {F:Nat→Prop} {w:World} {t:R6} {cs:List Value} (h:N6 F w t cs):∃ a0 a1 a2 a3 a4 a5 a6 a7 a8,cs=[a0,a1,a2,a3,a4,a5,a6,a7,a8,.int .i64 t.frm,.int .i64 t.till]:=by
 cases t with
 |node k s mn mx lz l fr tl=>
  rw [N6] at h;obtain ⟨A,c,css,rfl,_⟩:=h;exact ⟨_,_,_,_,_,_,_,_,_,rfl⟩
theorem N6r.snoc {F:Nat→Prop} {w:World} {t:R6} {cs:List Value}:∀ {l:List R6} {css:List (List Value)},N6r F w l css→N6 F w t cs→N6r F w (l++[t]) (css++[cs])
 |[],css,h,ht=>by
  rw [N6r] at h;subst h;show N6r F w [t] [cs];rw [N6r];exact ⟨cs,[],rfl,ht,by rw [N6r]⟩
 |u::r,css,h,ht=>by
  rw [N6r] at h;obtain ⟨cu,rest,rfl,h2,h3⟩:=h;show N6r F w (u::(r++[t])) (cu::(rest++[cs]));rw [N6r];exact ⟨cu,rest++[cs],rfl,h2,N6r.snoc h3 ht⟩
theorem N6r.row {F:Nat→Prop} {w:World}:∀ {l:List R6} {css:List (List Value)},N6r F w l css→∀ k,k<l.length→∀ j v,(css.getD k [])[j]?=some v→(List.flatten css)[k*11+j]?=some v
 |[],css,h,k,hk=>by simp at hk
 |t::r,css,h,k,hk=>by
  rw [N6r] at h;obtain ⟨cs,rest,rfl,h2,h3⟩:=h;intro j v hv;have hlen:=h2.len;rw [List.flatten_cons]
  cases k with
  |zero=>
   rw [El2 (by have:=(Ek4.1 hv).1;simp at this;omega)]
   simpa using hv
  |succ k=>
   rw [Ek9 (by omega),show (k+1)*11+j - cs.length=k*11+j by omega];exact N6r.row h3 k (by simpa using hk) j v (by simpa using hv)
theorem N6r.one {F:Nat→Prop} {w:World} {l:List R6} {css:List (List Value)} (h:N6r F w l css) (hl:l.length=1):∃ n cs,l=[n]∧css=[cs]∧N6 F w n cs:=by
 match l,hl with
 |[n],_=>
  rw [N6r] at h;obtain ⟨cs,rest,rfl,h2,h3⟩:=h;rw [N6r] at h3;subst h3;exact ⟨n,cs,rfl,rfl,h2⟩
theorem N6.ends {F:Nat→Prop} {w:World} {t:R6} {cs:List Value} (h:N6 F w t cs):cs[9]?=some (.int .i64 t.frm)∧cs[10]?=some (.int .i64 t.till):=by
 obtain ⟨a0,a1,a2,a3,a4,a5,a6,a7,a8,rfl⟩:=h.cells;exact ⟨rfl,rfl⟩
theorem N6.one1 {F:Nat→Prop} {w:World} {t:R6} {cs:List Value} (h:N6 F w t cs):cs.all Value.oneCell'=true:=by
 cases t with
 |node k s mn mx lz l fr tl=>
  rw [N6] at h;obtain ⟨A,c,css,rfl,_⟩:=h
  rfl
theorem Dx1 {F:Nat→Prop} {w:World} {A:Option Addr} {c:Nat} {l:List R6} {css:List (List Value)} (k:Int) (s:Nat) (mn mx:Int) (lz:Bool) (x y:Int) (hr:Rd F w 11 A l.length (List.flatten css)) (hI:N6r F w l css):N6 F w (.node k s mn mx lz l x y) (n6C k s mn mx lz A l.length c x y):=by
 rw [N6];exact ⟨A,c,css,rfl,hr,hI⟩
theorem Ct1 {F:Nat→Prop} {w:World} (k:Int) (s:Nat) (a b:Int):N6 F w (.node k s 0 0 false [] a b) (n6C k s 0 0 false none 0 0 a b):=by
 rw [N6];exact ⟨none,0,[],rfl,Rd.nil _ _ _ _,by rw [N6r]⟩
theorem n6_one {F F':Nat→Prop} {w:World} {b:Nat} {n:R6} {cs:List Value} (k:Int) (s:Nat) (mn mx:Int) (lz:Bool) (x y:Int) (hB:Blk w b cs 140) (hF:F b) (hn:N6 F' w n cs) (hm:∀ z,F' z→z<w.heap.size→F z):N6 F w (.node k s mn mx lz [n] x y) (n6C k s mn mx lz (some ⟨b,0,none⟩) 1 1 x y):=by
 have hlen:=hn.len;rw [N6];refine ⟨some ⟨b,0,none⟩,1,[cs],rfl,by simpa using hB.rd (sz:=11) (m:=1) (by simp [hlen]) hF,?_⟩;rw [N6r];exact ⟨cs,[],rfl,hn.mono hm,by rw [N6r]⟩
theorem rcat_c (l:List RTk) (A:Option Addr) (c:Nat) (size:Int) (f:Nat) (hl:l.length≤100000) (hA:RAltC l A c size f):RCatC l A c size (f+1):=by
 intro dd aa D x y F w hS hR hN hf hF hr;have hC:=A8 [] w;have hyl:=hR.len;have hxy:=hR.le;have hP:As2 l size (f+1) false x y=catE l size x (As0 l (fun i k=>As2 l size f true i k) y (y+1 - x) x []):=rfl;rw [hP];generalize hr0:As0 l (fun i k=>As2 l size f true i k) y (y+1 - x) x []=r;refine D6 Tryz.func146 J J (Qd (B4 J (B7 Aj1 J) ?_));intro b1 w1 hb1 hs1 hx1 hB1;have hC:=hC.s0 hx1;have hr:=hr.u hx1
 refine Qc (Qd (Zc 1 J (Qa (Qd (Zc 2 J (B1 (D8 (σ:=Nat × Nat × List R6 × List (List Value) × Option Addr × Nat) (fun (g,i,o,css,A',c')=>[(0,.slice A l.length c),(1,.int .i64 (x:Nat)),(2,.int .i64 (y:Nat)),(3,.int .i64 size),(8,.pointer (some ⟨b1,0,none⟩)),(9,.slice A' o.length c'),(10,.int .i64 (i:Nat))]) (fun (g,i,o,css,A',c') wr=>Chg [] w wr∧Rd F wr 10 A l.length (U9 l)∧Blk wr b1 [.int .i64 0,.int .u64 0,.int .u64 0,.int .u64 0,.int .u64 0,.int .i64 0,.int .i64 0,.bool false,.slice none 0 0,.int .i64 0,.int .i64 0] 140∧Own wr (b1+1) 140 11 A' o.length c' (List.flatten css)∧N6r (FR (b1+1) wr.heap.size (E5 A')) wr o css∧As0 l (fun i k=>As2 l size f true i k) y g i o=r∧AtI l dd aa D x y i∧o.length≤i∧y<i+g) (fun (g,i,o,css,A',c') wr=>g) (y+1 - x,x,[],[],none,0) (sb J) ?_ ?_)))))))
 ·exact ⟨hC,hr,hB1,Own.nil _ _ _ _,by rw [N6r],hr0,⟨Ej4 _,hxy,hR.dx,.inl hR.ax⟩,Ej3 _,by omega⟩
 rintro ⟨g,i,o,css,A',c'⟩ w9 ⟨hC,hr,hB1,hO,hI,hcl,hat,hol,hfu⟩;have hOb:=hO.blk
 try have hlB1:=hB1.lt
 refine Qa (Qd (Zc 3 J (A4 J (fun h1=>?_) (fun h1=>?_))))
 ·try simp at h1
  have hin:i<y:=by omega
  have hil:i<l.length:=by omega
  have hkd:=hat.kind hS hR hN hin;obtain ⟨g,rfl⟩:∃ q,g=q+1:=⟨g - 1,by omega⟩;rw [As0,Ei4 hin] at hcl;obtain ⟨gA,off,rfl,hFg,hlt,hcell⟩:=hr.at_ (by omega);refine A7 (B1 (Qd (Z 2 J (C8 J (C1 Ak8 J J (by omega) (by omega)) (C8 J (E7 (vs:=Au2 (l.getD i default)) K2 J (F4 _) (fun j v hj=>by rw [Ek8];exact hcell (i*10+j) v (by have hj4:j<10:=(Ek4.1 hj).1;rw [N9 l i j hil hj4];exact hj)) J) ?_)))));have hkt:rkd l i=(l.getD i default).kind:=rfl;generalize htk:l.getD i default=t at*;refine B4 J (B7 Cq6 J) ?_;intro b2 w2 hb2 hs2 hx2 hB2;have hr:=hr.u hx2;have hO:=hO.u hx2;have hI:=hI.u hx2;refine Pe V6 J ‹_› J J ?_;intro w3 hs3 hx3 hB2;have hr:=hr.q hx3 (by intro b hb hFb;have:=hF _ hFb;simp at hb;omega);have hO:=(by exact hO.q hx3 (by intro x hx;have hx:=Ei6.1 hx;right;intro h;have:=hOb x (by rw [h];exact Ei6.2 J);omega));have hI:=hI.q hx3 (by intro x hx hf;have hx:=Ei6.1 hx;have h1:=hf.1;have h2:=hf.2.1;omega);refine Qc (Qd (Fa Bl4 J (La I9 J ‹_› (by rfl) J ?_)));refine Fa At2 J (Lb o3 J ‹_› (by rfl) ?_);refine Fa Cb6 J (Lb o3 J ‹_› (by rfl) ?_);refine C8 J (B0 Aj1 Ci6 J (by rfl)) ?_;refine B4 J (B7 Aj1 J) ?_;intro b4 w4 hb4 hs4 hx4 hB4;have hr:=hr.u hx4;have hO:=hO.u hx4;have hI:=hI.u hx4;refine Pe Be2 J ‹_› J J ?_;intro w5 hs5 hx5 hB4;have hC:=hC.step (((hx2.j hx3).j hx4).j hx5) (by simp<;>omega);have hr:=hr.q hx5 (by intro b hb hFb;have:=hF _ hFb;simp at hb;omega);have hB1:=hB1.q (((hx2.j hx3).j hx4).j hx5) (by simp<;>omega);have hO:=(by exact hO.q hx5 (by intro x hx;have hx:=Ei6.1 hx;right;intro h;have:=hOb x (by rw [h];exact Ei6.2 J);omega));have hI:=hI.q hx5 (by intro x hx hf;have hx:=Ei6.1 hx;have h1:=hf.1;have h2:=hf.2.1;omega);have hB2:=hB2.q (hx4.j hx5) (by simp<;>omega)
  refine Qc (Qd (Z 1 J (Ad J J (by omega) (Zc 1 J (I5 (fun e9 wr=>∃ n j cs,Sub [(0,.slice (some ⟨gA,off,none⟩) l.length c),(1,.int .i64 (x:Nat)),(2,.int .i64 (y:Nat)),(3,.int .i64 size),(8,.pointer (some ⟨b1,0,none⟩)),(9,.slice A' o.length c'),(10,.int .i64 (j:Nat)),(12,.pointer (some ⟨b4,0,none⟩))] e9∧Chg [] w wr∧Rd F wr 10 (some ⟨gA,off,none⟩) l.length (U9 l)∧Blk wr b1 [.int .i64 0,.int .u64 0,.int .u64 0,.int .u64 0,.int .u64 0,.int .i64 0,.int .i64 0,.bool false,.slice none 0 0,.int .i64 0,.int .i64 0] 140∧Own wr (b1+1) 140 11 A' o.length c' (List.flatten css)∧N6r (FR (b1+1) w9.heap.size (E5 A')) wr o css∧Blk wr b4 cs 140∧N6 (FR (b4+1) wr.heap.size []) wr n cs∧Au3 l (fun i k=>As2 l size f true i k) i=(n,j)∧i<j∧j≤y∧dd j=D∧aa j=true∧b4<wr.heap.size) ?_ ?_)))))
  ·refine Qd (Fa T4 J (Lb o3 J ‹_› (by rfl) ?_))
   refine Zc 1 J (A4 J (fun k0=>?_) (fun k0=>?_))
   ·try simp at k0
    have k0':¬ rkd l i=0:=by rw [hkt];exact k0
    have hlo:=hat.lo
    have hk12:rkd l i=1∨rkd l i=2:=by
     rcases hkd with h|h
     ·exact absurd h.1 k0'
     ·exact h
    obtain ⟨k,hk1,hk2,hk3,hk4,hk5,hkr⟩:=hR.group hS hat.lo hin hat.di hk12;have hkl:=hkr.le;refine Qd (Z 2 J (Ca fb173 J (rclose_c l F _ c (i+1) (by omega) hl _ (fun z hz=>by have:=hF z hz;omega) ‹_›) ?_));rintro _ w6 ⟨rfl,hx6⟩;have hz6:=hx6.size;rw [hk1];refine Zc 1 J (Qa (C6 (S:=[]) 16 [(0,0),(0,1),(0,2),(0,3),(0,4),(0,5),(0,6),(0,9),(0,10),(0,11),(0,12),(0,13),(0,14),(0,15),(1,7),(1,8),(2,16),(2,17)] mo (by kernel_rfl) ?_));intro w7 hx7 hh7;have hr:=hr.u (hx6.s0 hx7);have hB2:=hB2.u (hx6.s0 hx7);have hCS7:=A8 ([]) w7;obtain ⟨_,_,hE2,_,_,hcell2⟩:=hr.at_ (by omega)
    cases hE2
    have hc2:=hcell2 (k*10+2) _ ((N9 l k 2 (by omega) (by omega)).trans J);refine Fa T4 J (C9 J (B2 o3 J ‹_› (by simp;done) (by rfl)) ?_);refine Ad J J (by omega) (Z 4 J (Fa At2 J (C9 J (B2 o3 J ‹_› (by simp;done) (by rfl)) ?_)));refine Z 2 J (C9 J (C1 Ak8 J J (by omega) (by omega)) (Fa Cb6 J (C9 J (D3 o3 J hc2 (by simp;done)) ?_)));refine C4 J (C0 fb120 J) (hA dd aa (D+1) (i+1) k F _ hS hkr (by omega) (fun z hz=>by have:=hF z hz;omega) ‹_›) ?_;rintro _ w8 ⟨hx8,cs1,rfl,hn1⟩;have hz8:=hx8.size;have hCS7:=hCS7.s0 hx8;refine ⟨hCS7,?_⟩;obtain ⟨a0,a1,a2,a3,a4,a5,a6,a7,a8,rfl⟩:=hn1.cells;refine E1 J (B5 Au8 Tryz.underlying138 Aj1 J J J (by rfl)) ?_;intro b9 w9 hb9 hs9 hx9 hB9;have hr:=hr.u (hx8.s0 hx9);have hO:=hO.u (((hx6.s0 hx7).s0 hx8).s0 hx9);have hI:=hI.u (((hx6.s0 hx7).s0 hx8).s0 hx9);have hB4:=hB4.u (((hx6.s0 hx7).s0 hx8).s0 hx9);have hCS7:=hCS7.s0 hx9;have hn1:=hn1.u hx9;refine ⟨hCS7,?_⟩;refine C8 J (B0 Aj1 Ci6 J (by rfl)) ?_;refine Pe Be2 J ‹_› J J ?_;intro w10 hs10 hx10 hB4;have hC:=hC.step ((((hx6.j hx7).j hx8).j hx9).j hx10) (by simp<;>omega);have hr:=hr.q hx10 (by intro b hb hFb;have:=hF _ hFb;simp at hb;omega);have hB1:=hB1.q ((((hx6.j hx7).j hx8).j hx9).j hx10) (by simp<;>omega);have hO:=(by exact hO.q hx10 (by intro x hx;have hx:=Ei6.1 hx;right;intro h;have:=hOb x (by rw [h];exact Ei6.2 J);omega));have hI:=hI.q hx10 (by intro x hx hf;have hx:=Ei6.1 hx;have h1:=hf.1;have h2:=hf.2.1;omega);have hn1:=hn1.q hx10 (by intro x hx hf;have hx:=Ei6.1 hx;have h1:=hf.1;have h2:=hf.2.1;omega);have hB9:=hB9.q hx10 (by simp;omega);refine Qc (Qb (Z 1 J (Ad J J (by omega) (Zc 1 J ⟨(.node (1+rkd l i) 0 0 0 false [As2 l size f true (i+1) k] t.frm (l.getD k default).till),(k+1),(n6C (1+rkd l i) 0 0 0 false (some ⟨b9,0,none⟩) 1 1 t.frm (l.getD k default).till),sb J,?_⟩))));refine ⟨hC,hr,hB1,hO,hI,by unfold n6C;rw [C5,hkt];exact hB4,n6_one _ _ _ _ _ _ _ hB9 ⟨by omega,by have:=hB9.lt;omega,by simp⟩ hn1 (fun z hz hzl=>⟨by have:=hz.1;omega,hzl,by simp⟩),?_,by omega,by omega,hk4,hk5,hB4.lt⟩;unfold Au3;rw [Ei3 k0',hk1,htk]
    rfl
   ·try simp at k0
    refine A7 ⟨(.node 1 t.set 0 0 false [] t.frm t.till),(i+1),(n6C 1 t.set 0 0 false none 0 0 t.frm t.till),sb J,?_⟩;have k0':rkd l i=0:=by rw [hkt];exact k0
    rcases hkd with hk1|hk1;refine ⟨hC,hr,hB1,hO,hI,hB4,Ct1 _ _ _ _,?_,by omega,by omega,hk1.2.1,hk1.2.2,hB4.lt⟩;unfold Au3;rw [Ei4 k0',htk];exfalso;omega
  rintro e9 w20 ⟨n,j,cs,hs9,hC,hr,hB1,hO,hI,hB4,hn,hkk,hij,hjy,hdj,haj,hb4l⟩;refine I4 _ hs9 ?_;clear hs9 e9;rw [hkk] at hcl
  refine I5 (fun e9 wr=>∃ m j2 cs2,Sub [(0,.slice (some ⟨gA,off,none⟩) l.length c),(1,.int .i64 (x:Nat)),(2,.int .i64 (y:Nat)),(3,.int .i64 size),(8,.pointer (some ⟨b1,0,none⟩)),(9,.slice A' o.length c'),(10,.int .i64 (j2:Nat)),(12,.pointer (some ⟨b4,0,none⟩))] e9∧Chg [] w wr∧Rd F wr 10 (some ⟨gA,off,none⟩) l.length (U9 l)∧Blk wr b1 [.int .i64 0,.int .u64 0,.int .u64 0,.int .u64 0,.int .u64 0,.int .i64 0,.int .i64 0,.bool false,.slice none 0 0,.int .i64 0,.int .i64 0] 140∧Own wr (b1+1) 140 11 A' o.length c' (List.flatten css)∧N6r (FR (b1+1) w9.heap.size (E5 A')) wr o css∧Blk wr b4 cs2 140∧N6 (FR (b4+1) wr.heap.size []) wr m cs2∧Ak4 l y (n,j)=(m,j2)∧i<j2∧AtI l dd aa D x y j2∧b4<wr.heap.size) ?_ ?_
  ·refine Qd (Z 4 J (B9 (d:=60) J (fun g1=>?_) (fun g1=>?_)))
   ·try simp at g1
    have hjl:j<l.length:=by omega
    obtain ⟨_,_,hE3,_,_,hcell3⟩:=hr.at_ (by omega)
    cases hE3
    have hc3:=hcell3 (j*10+0) _ ((N9 l j 0 hjl (by omega)).trans J);refine Qu J (Z 1 J (Qu J (Z 1 J (Qu J (C8 J (C1 Ak8 J J (by omega) (by omega)) (Qu J (Fa T4 J (Qu J (Lc o3 J hc3 ?_)))))))));have hkj:rkd l j=(l.getD j default).kind:=rfl;generalize htj:l.getD j default=q at*
    refine Qu J (Zc 2 J (A4 J (fun q5=>?_) (fun q5=>?_)))
    ·try simp at q5
     have q5':rkd l j=5:=by rw [hkj];exact q5
     obtain ⟨a0,a1,a2,a3,a4,a5,a6,a7,a8,rfl⟩:=hn.cells;refine Qa (C6 (S:=[]) 24 [(0,0),(0,1),(0,2),(0,3),(0,4),(0,5),(0,6),(0,7),(0,8),(0,9),(0,10),(0,11),(0,12),(0,13),(0,14),(0,15),(0,17),(0,18),(0,19),(0,20),(0,21),(0,22),(0,23),(1,16),(2,24),(2,25)] mo (by kernel_rfl) ?_);intro w11 hx11 hh11;have hr:=hr.u hx11;have hB4:=hB4.u hx11;have hCS11:=A8 ([]) w11;obtain ⟨_,_,hE4,_,_,hcell4⟩:=hr.at_ (by omega)
     cases hE4
     have hq7:=hcell4 (j*10+7) _ ((N9 l j 7 hjl (by omega)).trans J);have hq8:=hcell4 (j*10+8) _ ((N9 l j 8 hjl (by omega)).trans J);have hq9:=hcell4 (j*10+9) _ ((N9 l j 9 hjl (by omega)).trans J);have hq2:=hcell4 (j*10+2) _ ((N9 l j 2 hjl (by omega)).trans J);rw [htj] at hq7 hq8 hq9 hq2;refine Z 2 J (C9 J (C1 Ak8 J J (by omega) (by omega)) (Fa Cu9 J (C9 J (D3 o3 J hq7 (by simp;done)) ?_)));refine Z 2 J (C9 J (C1 Ak8 J J (by omega) (by omega)) (Fa Cb5 J (C9 J (D3 o3 J hq8 (by simp;done)) ?_)));refine Z 2 J (C9 J (C1 Ak8 J J (by omega) (by omega)) (Fa Eb7 J (C9 J (D3 o4 J hq9 (by simp;done)) ?_)));refine C9 J (B8 Ao1 J ‹_› (by simp;done) J J) ?_;refine Fa Cv6 J (C9 J (B2 o3 J ‹_› (by simp;done) (by rfl)) ?_);refine Z 2 J (C9 J (C1 Ak8 J J (by omega) (by omega)) (Fa Cb6 J (C9 J (D3 o3 J hq2 (by simp;done)) ?_)));refine E1 J (B5 Au8 Tryz.underlying138 Aj1 J J J (by rfl)) ?_;intro b12 w12 hb12 hs12 hx12 hB12;have hr:=hr.u hx12;have hO:=hO.u (hx11.s0 hx12);have hI:=hI.u (hx11.s0 hx12);have hB4:=hB4.u hx12;have hn:=hn.u (hx11.s0 hx12);have hCS11:=hCS11.s0 hx12;refine ⟨hCS11,?_⟩;refine C8 J (B0 Aj1 Ci6 J (by rfl)) ?_;refine Pe Be2 J ‹_› J J ?_;intro w13 hs13 hx13 hB4;have hC:=hC.step ((hx11.j hx12).j hx13) (by simp<;>omega);have hr:=hr.q hx13 (by intro b hb hFb;have:=hF _ hFb;simp at hb;omega);have hB1:=hB1.q ((hx11.j hx12).j hx13) (by simp<;>omega);have hO:=(by exact hO.q hx13 (by intro x hx;have hx:=Ei6.1 hx;right;intro h;have:=hOb x (by rw [h];exact Ei6.2 J);omega));have hI:=hI.q hx13 (by intro x hx hf;have hx:=Ei6.1 hx;have h1:=hf.1;have h2:=hf.2.1;omega);have hn:=hn.q hx13 (by intro x hx hf;have hx:=Ei6.1 hx;have h1:=hf.1;have h2:=hf.2.1;omega);have hB12:=hB12.q hx13 (by simp;omega);refine Qc (Qb (Z 1 J (Ad J J (by omega) (Zc 1 J ⟨(cntN q n),(j+1),(n6C 6 0 q.mn q.mx q.lz (some ⟨b12,0,none⟩) 1 1 n.frm q.till),sb J,?_⟩))));refine ⟨hC,hr,hB1,hO,hI,by unfold n6C;rw [C5];exact hB4,n6_one _ _ _ _ _ _ _ hB12 ⟨by omega,by have:=hB12.lt;omega,by simp⟩ hn (fun z hz hzl=>⟨by have:=hz.1;omega,hzl,by simp⟩),?_,by omega,AtI.more hS hR (by have:=hat.lo;omega) (by omega) hdj q5',hB4.lt⟩;unfold Ak4;rw [Ei4 ⟨by show j<y;omega,q5'⟩,htj]
    ·try simp at q5
     refine A7 ⟨n,j,cs,sb J,?_⟩;refine ⟨hC,hr,hB1,hO,hI,hB4,hn,?_,hij,⟨by have:=hat.lo;omega,hjy,hdj,.inr fun _=>by rw [hkj];exact q5⟩,hB4.lt⟩;unfold Ak4;rw [Ei3 (by intro h;exact q5 (by rw [← hkj];exact h.2))]
   ·try simp at g1
    refine Qk J (Qk J (Qk J (Qk J (Qk J (Qk J (Zc 1 J (E2 J (A7 ⟨n,j,cs,sb J,?_⟩))))))));refine ⟨hC,hr,hB1,hO,hI,hB4,hn,?_,hij,⟨by have:=hat.lo;omega,hjy,hdj,.inr fun h=>by omega⟩,hB4.lt⟩;unfold Ak4;rw [Ei3 (by intro h;have:=h.1;simp at this;omega)]
  rintro e9 w21 ⟨m,j2,cs2,hs9,hC,hr,hB1,hO,hI,hB4,hm,hst,hij2,hat2,hb4l⟩;refine I4 _ hs9 ?_;clear hs9 e9
  try have hlB1:=hB1.lt
  rw [hst] at hcl;have hone:=hm.one1;obtain ⟨a0,a1,a2,a3,a4,a5,a6,a7,a8,rfl⟩:=hm.cells;refine Qb (Z 1 J (La Ao1 J ‹_› J J ?_));refine B4 J (B5 Au8 Tryz.underlying138 Aj1 J J J (by rfl)) ?_;intro b14 w14 hb14 hs14 hx14 hB14;have hC:=hC.s0 hx14;have hr:=hr.u hx14;have hB1:=hB1.u hx14;have hO:=hO.u hx14;have hI:=hI.u hx14;have hm:=hm.u hx14;refine G2 J el138 J J hO (Blk.rd (F:=fun _=>True) ‹_› J trivial) ‹_› (by omega) (by omega) ?_;intro A2' c2' w15 hO15 hx15 hA2';have hC:=hC.step hx15 (by intro x h;have:=hOb x h;exact .inr (by omega));have hr:=hr.q hx15 (by intro x hx hf;have:=hOb x hx;have:=hF x hf;omega);have hB1:=hB1.q hx15 (by intro h;have:=hOb _ h;omega);have hI:=hI.q hx15 (by intro x hx hf;exact hf.2.2 hx);have hm:=hm.q hx15 (by intro x hx hf;have:=hOb x hx;have h1:=hf.1;have h2:=hf.2.1;omega)
  replace hO:=hO15
  refine Zc 1 J ⟨(g,j2,o++[m],css++[[a0,a1,a2,a3,a4,a5,a6,a7,a8,.int .i64 m.frm,.int .i64 m.till]],A2',c2'),⟨rfl,rfl,rfl,rfl,rfl,(V0 J (by rw [Ei8];rfl)),rfl,trivial⟩,?_,?_⟩;refine ⟨hC,hr,hB1,by rw [Ei8,Eq6];exact hO,N6r.snoc (hI.mono fun z hz hzl=>?_) (hm.mono fun z hz hzl=>?_),hcl,hat2,by rw [Ei8];simp;omega,by omega⟩;exact ⟨hz.1,hzl,W6 hA2' hz.2.2 (by have:=hz.2.1;omega)⟩;exact ⟨by have:=hz.1;omega,hzl,W6 hA2' (fun h=>by have:=hOb z h;have:=hz.1;omega) (by have:=hz.2.1;omega)⟩;show g<g+1;omega
 ·try simp at h1
  have hii:i=y:=by have:=hat.hi;omega
  have hro:r=o:=by
   rw [← hcl]
   cases g with
   |zero=>rfl
   |succ g=>rw [As0,Ei3 (by omega)]
  subst hro
  refine Xb (Qa (Qd (Z 1 J (Ln Tryz.underlying138 J (Zc 1 J (A4 J (fun q0=>?_) (fun q0=>?_)))))))
  ·try simp at q0
   have q0':r.length=0:=by simpa using q0
   unfold catE;rw [Ei4 q0'];refine Qd (Z 3 J (Ca fb174 J (rbegin_c l F _ c x size (by omega) hl _ (fun z hz=>by have:=hF z hz;omega) ‹_›) ?_));rintro _ w16 ⟨rfl,hx16⟩;have hB1:=hB1.u hx16;refine Zc 1 J (Qd (Z 2 J (C8 J (B0 Aj1 Ci6 J (by rfl)) ?_)));refine Pe Be2 J ‹_› J J ?_;intro w17 hs17 hx17 hB1;have hC:=hC.step (hx16.j hx17) (by simp<;>omega);refine Qc (A6 (D5 J J (A5 Ao1 ‹_› J J) ?_));refine ⟨hC,n6C 0 0 0 0 false none 0 0 (Bn9 l x size) (Bn9 l x size),by unfold n6C;rw [C5];rfl,Ct1 _ _ _ _⟩
  ·try simp at q0
   have q0':¬ r.length=0:=by simpa using q0
   unfold catE;rw [Ei3 q0']
   refine A7 (Qa (Qd (Z 1 J (Ln Tryz.underlying138 J (Zc 1 J (A4 J (fun q1=>?_) (fun q1=>?_)))))))
   ·try simp at q1
    have q1':r.length=1:=by omega
    obtain ⟨n,cs,rfl,rfl,hn⟩:=hI.one q1';have hone:=hn.one1;obtain ⟨a0,a1,a2,a3,a4,a5,a6,a7,a8,rfl⟩:=hn.cells;obtain ⟨g9,o9,rfl,_,_,hcell9⟩:=(hO.rd (F:=fun _=>True) (fun _ _ _=>trivial)).at_ (by omega);refine Qd (Z 1 J (C8 J (C1 Au8 J J (by omega) (by omega)) (C8 J (E7 (vs:=[a0,a1,a2,a3,a4,a5,a6,a7,a8,.int .i64 n.frm,.int .i64 n.till]) Ao1 J (F4 _) (fun j v hj=>hcell9 j v (by simpa using hj)) J) ?_)));refine Pb (cs':=[a0,a1,a2,a3,a4,a5,a6,a7,a8,.int .i64 n.frm,.int .i64 n.till]) Be2 J J hB1 J J hone J J ?_;intro w18 hs18 hx18 hB1;have hC:=hC.step hx18 (by simp;omega);have hn:=hn.q hx18 (by intro x hx hf;have hx:=Ei6.1 hx;have h1:=hf.1;have h2:=hf.2.1;omega);refine Qc (A6 (D5 J J (A5 Ao1 ‹_› J J) ?_));refine ⟨hC,_,rfl,hn.mono fun z hz hzl=>⟨by have:=hz.1;omega,hzl,by simp⟩⟩
   ·try simp at q1
    have q1':¬ r.length=1:=by omega
    unfold Bp9;rw [Ei3 q1'];refine A7 (Qa (C6 (S:=[]) 12 [(0,0),(0,1),(0,2),(0,3),(0,4),(0,5),(0,6),(0,7),(0,8),(0,9),(0,10),(0,11),(2,12),(2,13)] mo (by kernel_rfl) ?_));intro w19 hx19 hh19;have hB1:=hB1.u hx19;have hO:=hO.u hx19;have hI:=hI.u hx19;have hcell9:=(hO.rd (F:=fun _=>True) (fun _ _ _=>trivial)).at_ (by omega);obtain ⟨g9,o9,rfl,_,_,hcell9⟩:=hcell9;have h9:=hcell9 (0*11+9) _ (hI.row 0 (by omega) 9 _ (hI.get 0 (by omega)).ends.1);have h10:=hcell9 ((r.length - 1)*11+10) _ (hI.row (r.length - 1) (by omega) 10 _ (hI.get (r.length - 1) (by omega)).ends.2);refine Z 2 J (C9 J (C1 Au8 J J (by omega) (by omega)) (Fa Cv6 J (C9 J (D3 o3 J h9 (by simp;done)) ?_)));refine Z 2 J (Ln Tryz.underlying138 J (Su J J (by omega) (C9 J (C1 Au8 J J (by omega) (by omega)) (Fa Ec1 J (C9 J (D3 o3 J (by have e:(((r.length:Nat):Int) - 1).toNat=r.length - 1:=(by omega);rw [e,Ek8];exact h10) (by simp;done)) ?_)))));refine C8 J (B0 Aj1 Ci6 J (by rfl)) ?_;refine Pe Be2 J ‹_› J J ?_;intro w20 hs20 hx20 hB1;have hC:=hC.step (hx19.j hx20) (by simp<;>omega);have hO:=(by exact hO.q hx20 (by intro x hx;simp at hx;left;omega));have hI:=hI.q hx20 (by intro x hx hf;have hx:=Ei6.1 hx;have h1:=hf.1;have h2:=hf.2.1;omega);refine Qc (A6 (D5 J J (A5 Ao1 ‹_› J J) ?_));refine ⟨hC,n6C 4 0 0 0 false _ r.length c' _ _,by unfold n6C;rw [C5];rfl,Dx1 _ _ _ _ _ _ _ (hO.rd fun z h1 h2=>⟨by omega,h2,by simp⟩) (hI.mono fun z hz hzl=>⟨by have:=hz.1;omega,hzl,by simp⟩)⟩
theorem Shp.low {l:List RTk} {d:Nat→Nat} {a:Nat→Bool} (h:Shp l d a):∀ i,i≤l.length→d i≤i
 |0,_=>by rw [h.d0];exact Ej4 _
 |i+1,hi=>by
  have h1:=Shp.low h i (by omega);rcases h.st i (by omega) with ⟨_,h2,_⟩|⟨_,h2,_⟩|⟨_,h2,_⟩|⟨_,h2,_⟩|⟨_,_,h2,_⟩<;>omega
theorem ralt_c (l:List RTk) (A:Option Addr) (c:Nat) (size:Int) (f:Nat) (hl:l.length≤100000) (hA:RCatC l A c size f):RAltC l A c size (f+1):=by
 intro dd aa D x y F w hS hR hf hF hr;have hC:=A8 [] w;have hyl:=hR.len;have hxy:=hR.le;have hP:As2 l size (f+1) true x y=Bp9 5 (Af3 l (fun i k=>As2 l size f false i k) y (y+2 - x) x x 0 []):=rfl;rw [hP];generalize hr0:Af3 l (fun i k=>As2 l size f false i k) y (y+2 - x) x x 0 []=r;refine D6 Tryz.func120 J J (Qd (B4 J (B7 Aj1 J) ?_));intro b1 w1 hb1 hs1 hx1 hB1;have hC:=hC.s0 hx1;have hr:=hr.u hx1
 refine Qc (Qd (Zc 1 J (Qd (Zc 3 J (Qa (Qd (Zc 2 J (B1 (D8 (σ:=Nat × Nat × Nat × Int × List R6 × List (List Value) × Option Addr × Nat) (fun (g,i,at_,e,o,css,A',c')=>[(0,.slice A l.length c),(1,.int .i64 (x:Nat)),(2,.int .i64 (y:Nat)),(3,.int .i64 size),(8,.pointer (some ⟨b1,0,none⟩)),(9,.slice A' o.length c'),(10,.int .i64 e),(11,.int .i64 (at_:Nat)),(12,.int .i64 (i:Nat))]) (fun (g,i,at_,e,o,css,A',c') wr=>Chg [] w wr∧Rd F wr 10 A l.length (U9 l)∧Blk wr b1 [.int .i64 0,.int .u64 0,.int .u64 0,.int .u64 0,.int .u64 0,.int .i64 0,.int .i64 0,.bool false,.slice none 0 0,.int .i64 0,.int .i64 0] 140∧Own wr (b1+1) 140 11 A' o.length c' (List.flatten css)∧N6r (FR (b1+1) wr.heap.size (E5 A')) wr o css∧Af3 l (fun i k=>As2 l size f false i k) y g i at_ e o=r∧o.length≤i∧y+1<i+g∧i≤y+1∧(i≤y→AtB l dd aa D x y i at_∧e=(dd i:Int) - D)∧(i=y+1→1≤o.length)) (fun (g,i,at_,e,o,css,A',c') wr=>g) (y+2 - x,x,x,0,[],[],none,0) (sb J) ?_ ?_)))))))))
 ·exact ⟨hC,hr,hB1,Own.nil _ _ _ _,by rw [N6r],hr0,Ej3 _,by omega,by omega,fun _=>⟨⟨Ej4 _,Ej4 _,hxy,hR.dx,hR.ax,fun m h1 h2=>by omega⟩,by rw [hR.dx];omega⟩,fun h=>by omega⟩
 rintro ⟨g,i,at_,e,o,css,A',c'⟩ w9 ⟨hC,hr,hB1,hO,hI,hcl,hol,hfu,hiy,hst,hne⟩;have hOb:=hO.blk
 refine Qa (Qd (Zc 3 J (A4 J (fun h1=>?_) (fun h1=>?_))))
 ·try simp at h1
  have hin:i≤y:=by omega
  obtain ⟨hat,he⟩:=hst hin;have hdlow:=Shp.low hS i (by omega);have hdlowD:=Shp.low hS x (by omega);rw [hR.dx] at hdlowD;obtain ⟨g,rfl⟩:∃ q,g=q+1:=⟨g - 1,by omega⟩;rw [Af3,Ei4 hin] at hcl
  have hcells:i<l.length→∃ gA off,A=some ⟨gA,off,none⟩∧w9.cell? ⟨gA,off+(i*10+0),none⟩=some (.int .i64 (rkd l i)):=fun hil=>by
   obtain ⟨gA,off,hAe,hFg,hlt,hcell⟩:=hr.at_ (by omega);exact ⟨gA,off,hAe,hcell (i*10+0) _ ((N9 l i 0 hil (by omega)).trans J)⟩
  refine A7 (Qa (B1 (I5 (fun e9 wr=>Sub [(0,.slice A l.length c),(1,.int .i64 (x:Nat)),(2,.int .i64 (y:Nat)),(3,.int .i64 size),(8,.pointer (some ⟨b1,0,none⟩)),(9,.slice A' o.length c'),(10,.int .i64 (dpR l i y e)),(11,.int .i64 (at_:Nat)),(12,.int .i64 (i:Nat))] e9∧Chg [] w wr∧Rd F wr 10 A l.length (U9 l)∧Blk wr b1 [.int .i64 0,.int .u64 0,.int .u64 0,.int .u64 0,.int .u64 0,.int .i64 0,.int .i64 0,.bool false,.slice none 0 0,.int .i64 0,.int .i64 0] 140∧Own wr (b1+1) 140 11 A' o.length c' (List.flatten css)∧N6r (FR (b1+1) wr.heap.size (E5 A')) wr o css) ?_ ?_)))
  ·refine Qd (Zc 3 J (A4 J (fun h2=>?_) (fun h2=>?_)))
   ·try simp at h2
    obtain ⟨gA,off,rfl,hc0⟩:=hcells (by omega)
    refine Qa (Qd (Z 2 J (C8 J (C1 Ak8 J J (by omega) (by omega)) (Fa T4 J (Lc o3 J hc0 (Z 2 J (B9 (d:=29) J (fun k1=>?_) (fun k1=>?_))))))))
    ·try simp at k1
     have hdp:dpR l i y e=e+1:=by unfold dpR;rw [Ei4 (by omega),Ei4 (.inl k1)]
     refine Qk J (Qk J (Qk J (Qk J (Qk J (Qk J (Zc 1 J (E4 J (Qb (Z 1 J (Ad J J (by omega) (Zc 1 J (Qd (Z 2 J (C8 J (C1 Ak8 J J (by omega) (by omega)) (Fa T4 J (Lc o3 J hc0 (Zc 1 J (A4 J (fun k3=>?_) (fun k3=>?_)))))))))))))))))))
     ·try simp at k3
      exfalso;omega
     ·try simp at k3
      refine A7 ⟨⟨rfl,rfl,rfl,rfl,rfl,rfl,(G3 J hdp.symm),rfl,rfl,trivial⟩,?_⟩;exact ⟨hC,hr,hB1,hO,hI⟩
    ·try simp at k1
     refine Qu J (Z 1 J (Qu J (Z 1 J (Qu J (C8 J (C1 Ak8 J J (by omega) (by omega)) (Qu J (Fa T4 J (Qu J (Lc o3 J hc0 (Qu J (Zc 2 J (A4 J (fun k2=>?_) (fun k2=>?_)))))))))))))
     ·try simp at k2
      have hdp:dpR l i y e=e+1:=by unfold dpR;rw [Ei4 (by omega),Ei4 (.inr k2)]
      refine Qb (Z 1 J (Ad J J (by omega) (Zc 1 J (Qd (Z 2 J (C8 J (C1 Ak8 J J (by omega) (by omega)) (Fa T4 J (Lc o3 J hc0 (Zc 1 J (A4 J (fun k3=>?_) (fun k3=>?_)))))))))))
      ·try simp at k3
       exfalso;omega
      ·try simp at k3
       refine A7 ⟨⟨rfl,rfl,rfl,rfl,rfl,rfl,(G3 J hdp.symm),rfl,rfl,trivial⟩,?_⟩;exact ⟨hC,hr,hB1,hO,hI⟩
     ·try simp at k2
      refine A7 (Qd (Z 2 J (C8 J (C1 Ak8 J J (by omega) (by omega)) (Fa T4 J (Lc o3 J hc0 (Zc 1 J (A4 J (fun k3=>?_) (fun k3=>?_))))))))
      ·try simp at k3
       have hdp:dpR l i y e=e - 1:=by unfold dpR;rw [Ei4 (by omega),Ei3 (Er7.2 ⟨k1,k2⟩),Ei4 k3]
       refine Qb (Z 1 J (Su J J (by omega) (Zc 1 J ⟨⟨rfl,rfl,rfl,rfl,rfl,rfl,(G3 J hdp.symm),rfl,rfl,trivial⟩,?_⟩)));exact ⟨hC,hr,hB1,hO,hI⟩
      ·try simp at k3
       have hdp:dpR l i y e=e:=by unfold dpR;rw [Ei4 (by omega),Ei3 (Er7.2 ⟨k1,k2⟩),Ei3 k3]
       refine A7 ⟨⟨rfl,rfl,rfl,rfl,rfl,rfl,(G3 J hdp.symm),rfl,rfl,trivial⟩,?_⟩;exact ⟨hC,hr,hB1,hO,hI⟩
   ·try simp at h2
    have hdp:dpR l i y e=e:=by unfold dpR;rw [Ei3 (by omega)]
    refine A7 ⟨⟨rfl,rfl,rfl,rfl,rfl,rfl,(G3 J hdp.symm),rfl,rfl,trivial⟩,?_⟩;exact ⟨hC,hr,hB1,hO,hI⟩
  rintro e9 w20 ⟨hs9,hC,hr,hB1,hO,hI⟩;refine I4 _ hs9 ?_;clear hs9 e9;have hOb:=hO.blk
  try have hlB1:=hB1.lt
  refine Qd (Z 4 J (B9 (d:=50) J (fun q1=>?_) (fun q1=>?_)))
  ·try simp at q1
   have q1':i=y:=by omega
   rw [Ei4 (.inl q1')] at hcl;refine Qk J (Qk J (Qk J (Qk J (Qk J (Qk J (Qk J (F5 J J J J (fun h=>by cases h) ?_)))))));refine F5 J J J J (fun h=>by cases h) ?_;refine Qk J (Zc 1 J (E4 J (Qd (Z 5 J (Ca fb146 J (hA dd aa D at_ i F _ hS (hat.rng hR (by rw [q1'];exact hR.dy)) hat.nb (by have:=hat.lo;omega) (fun z hz=>by have:=hF z hz;omega) ‹_›) ?_)))));rintro _ w2 ⟨hx2,cs1,rfl,hm⟩;have hz2:=hx2.size;have hone:=hm.one1;generalize As2 l size f false at_ i=m at*;obtain ⟨a0,a1,a2,a3,a4,a5,a6,a7,a8,rfl⟩:=hm.cells;refine B4 J (B5 Au8 Tryz.underlying138 Aj1 J J J (by rfl)) ?_;intro b3 w3 hb3 hs3 hx3 hB3;have hC:=hC.s0 (hx2.s0 hx3);have hr:=hr.u (hx2.s0 hx3);have hB1:=hB1.u (hx2.s0 hx3);have hO:=hO.u (hx2.s0 hx3);have hI:=hI.u (hx2.s0 hx3);have hm:=hm.u hx3;refine G2 J el138 J J hO (Blk.rd (F:=fun _=>True) ‹_› J trivial) ‹_› (by omega) (by omega) ?_;intro A2' c2' w4 hO4 hx4 hA2';have hC:=hC.step hx4 (by intro x h;have:=hOb x h;exact .inr (by omega));have hr:=hr.q hx4 (by intro x hx hf;have:=hOb x hx;have:=hF x hf;omega);have hB1:=hB1.q hx4 (by intro h;have:=hOb _ h;omega);have hI:=hI.q hx4 (by intro x hx hf;exact hf.2.2 hx);have hm:=hm.q hx4 (by intro x hx hf;have:=hOb x hx;have h1:=hf.1;have h2:=hf.2.1;omega)
   replace hO:=hO4
   refine Zc 1 J (Qb (Z 1 J (Ad J J (by omega) (Zc 1 J (Qb (Z 1 J (Ad J J (by omega) (Zc 1 J ⟨(g,i+1,i+1,dpR l i y e,o++[m],css++[[a0,a1,a2,a3,a4,a5,a6,a7,a8,.int .i64 m.frm,.int .i64 m.till]],A2',c2'),⟨rfl,rfl,rfl,rfl,rfl,(V0 J (by rw [Ei8];rfl)),rfl,rfl,rfl,trivial⟩,?_,?_⟩))))))));refine ⟨hC,hr,hB1,by rw [Ei8,Eq6];exact hO,N6r.snoc (hI.mono fun z hz hzl=>?_) (hm.mono fun z hz hzl=>?_),hcl,by rw [Ei8];simp;omega,by omega,by omega,fun h=>by omega,fun _=>by rw [Ei8];simp⟩;exact ⟨hz.1,hzl,W6 hA2' hz.2.2 (by have:=hz.2.1;omega)⟩;exact ⟨by have:=hz.1;omega,hzl,W6 hA2' (fun h=>by have:=hOb z h;have:=hz.1;omega) (by have:=hz.2.1;omega)⟩;show g<g+1;omega
  ·try simp at q1
   have hcells:i<l.length→∃ gA off,A=some ⟨gA,off,none⟩∧w20.cell? ⟨gA,off+(i*10+0),none⟩=some (.int .i64 (rkd l i)):=fun hil=>by
    obtain ⟨gA,off,hAe,hFg,hlt,hcell⟩:=hr.at_ (by omega);exact ⟨gA,off,hAe,hcell (i*10+0) _ ((N9 l i 0 hil (by omega)).trans J)⟩
   obtain ⟨gA,off,rfl,hc0⟩:=hcells (by omega);have hdeep:=hat.deep hS hR (by omega) he
   refine Qu J (Z 1 J (Qu J (Z 1 J (Qu J (C8 J (C1 Ak8 J J (by omega) (by omega)) (Qu J (Fa T4 J (Qu J (Lc o3 J hc0 (Qu J (Z 1 J (Qu J (Z 1 J (B9 (d:=57) J (fun q2=>?_) (fun q2=>?_)))))))))))))))
   ·try simp at q2
    refine Qu J (Z 1 J (Qu J (Z 1 J (Qu J (Zc 2 J (A4 J (fun q3=>?_) (fun q3=>?_)))))))
    ·try simp at q3
     have hdi:dd i=D:=by omega
     rw [Ei4 (.inr ⟨q2,q3⟩)] at hcl;refine Qd (Z 5 J (Ca fb146 J (hA dd aa D at_ i F _ hS (hat.rng hR hdi) hat.nb (by have:=hat.lo;omega) (fun z hz=>by have:=hF z hz;omega) ‹_›) ?_));rintro _ w5 ⟨hx5,cs1,rfl,hm⟩;have hz5:=hx5.size;have hone:=hm.one1;generalize As2 l size f false at_ i=m at*;obtain ⟨a0,a1,a2,a3,a4,a5,a6,a7,a8,rfl⟩:=hm.cells;refine B4 J (B5 Au8 Tryz.underlying138 Aj1 J J J (by rfl)) ?_;intro b6 w6 hb6 hs6 hx6 hB6;have hC:=hC.s0 (hx5.s0 hx6);have hr:=hr.u (hx5.s0 hx6);have hB1:=hB1.u (hx5.s0 hx6);have hO:=hO.u (hx5.s0 hx6);have hI:=hI.u (hx5.s0 hx6);have hm:=hm.u hx6;refine G2 J el138 J J hO (Blk.rd (F:=fun _=>True) ‹_› J trivial) ‹_› (by omega) (by omega) ?_;intro A2' c2' w7 hO7 hx7 hA2';have hC:=hC.step hx7 (by intro x h;have:=hOb x h;exact .inr (by omega));have hr:=hr.q hx7 (by intro x hx hf;have:=hOb x hx;have:=hF x hf;omega);have hB1:=hB1.q hx7 (by intro h;have:=hOb _ h;omega);have hI:=hI.q hx7 (by intro x hx hf;exact hf.2.2 hx);have hm:=hm.q hx7 (by intro x hx hf;have:=hOb x hx;have h1:=hf.1;have h2:=hf.2.1;omega)
     replace hO:=hO7
     refine Zc 1 J (Qb (Z 1 J (Ad J J (by omega) (Zc 1 J (Qb (Z 1 J (Ad J J (by omega) (Zc 1 J ⟨(g,i+1,i+1,dpR l i y e,o++[m],css++[[a0,a1,a2,a3,a4,a5,a6,a7,a8,.int .i64 m.frm,.int .i64 m.till]],A2',c2'),⟨rfl,rfl,rfl,rfl,rfl,(V0 J (by rw [Ei8];rfl)),rfl,rfl,rfl,trivial⟩,?_,?_⟩))))))));refine ⟨hC,hr,hB1,by rw [Ei8,Eq6];exact hO,N6r.snoc (hI.mono fun z hz hzl=>?_) (hm.mono fun z hz hzl=>?_),hcl,by rw [Ei8];simp;omega,by omega,by omega,fun h=>⟨hat.cut (by omega) (by have:=(hdeep.2 q2).1;omega) (hdeep.2 q2).2,hdeep.1⟩,fun _=>by rw [Ei8];simp⟩;exact ⟨hz.1,hzl,W6 hA2' hz.2.2 (by have:=hz.2.1;omega)⟩;exact ⟨by have:=hz.1;omega,hzl,W6 hA2' (fun h=>by have:=hOb z h;have:=hz.1;omega) (by have:=hz.2.1;omega)⟩;show g<g+1;omega
    ·try simp at q3
     rw [Ei3 (by intro h;rcases h with h|h;exact q1 (by omega);exact q3 h.2)] at hcl;refine A7 (Qb (Z 1 J (Ad J J (by omega) (Zc 1 J ⟨(g,i+1,at_,dpR l i y e,o,css,A',c'),sb J,?_,?_⟩))));refine ⟨hC,hr,hB1,hO,hI,hcl,by omega,by omega,by omega,fun h=>⟨hat.next (by omega) fun hh=>q3 (by have:=(hdeep.2 q2).1;omega),hdeep.1⟩,fun h=>by omega⟩;show g<g+1;omega
   ·try simp at q2
    rw [Ei3 (by intro h;rcases h with h|h;exact q1 (by omega);exact q2 h.1)] at hcl;refine Qk J (Qk J (Qu J (Zc 2 J (E2 J (A7 (Qb (Z 1 J (Ad J J (by omega) (Zc 1 J ⟨(g,i+1,at_,dpR l i y e,o,css,A',c'),sb J,?_,?_⟩)))))))));refine ⟨hC,hr,hB1,hO,hI,hcl,by omega,by omega,by omega,fun h=>⟨hat.next (by omega) fun hh=>q2 hh.1,hdeep.1⟩,fun h=>by omega⟩;show g<g+1;omega
 ·try simp at h1
  have hii:i=y+1:=by omega
  have hne1:=hne hii
  have hro:r=o:=by
   rw [← hcl]
   cases g with
   |zero=>rfl
   |succ g=>rw [Af3,Ei3 (by omega)]
  subst hro
  refine Xb (Qa (Qd (Z 1 J (Ln Tryz.underlying138 J (Zc 1 J (A4 J (fun q1=>?_) (fun q1=>?_)))))))
  ·try simp at q1
   have q1':r.length=1:=by omega
   obtain ⟨n,cs,rfl,rfl,hn⟩:=hI.one q1';have hone:=hn.one1;obtain ⟨a0,a1,a2,a3,a4,a5,a6,a7,a8,rfl⟩:=hn.cells;obtain ⟨g9,o9,rfl,_,_,hcell9⟩:=(hO.rd (F:=fun _=>True) (fun _ _ _=>trivial)).at_ (by omega);refine Qd (Z 1 J (C8 J (C1 Au8 J J (by omega) (by omega)) (C8 J (E7 (vs:=[a0,a1,a2,a3,a4,a5,a6,a7,a8,.int .i64 n.frm,.int .i64 n.till]) Ao1 J (F4 _) (fun j v hj=>hcell9 j v (by simpa using hj)) J) ?_)));refine Pb (cs':=[a0,a1,a2,a3,a4,a5,a6,a7,a8,.int .i64 n.frm,.int .i64 n.till]) Be2 J J hB1 J J hone J J ?_;intro w8 hs8 hx8 hB1;have hC:=hC.step hx8 (by simp;omega);have hn:=hn.q hx8 (by intro x hx hf;have hx:=Ei6.1 hx;have h1:=hf.1;have h2:=hf.2.1;omega);refine Qc (A6 (D5 J J (A5 Ao1 ‹_› J J) ?_));refine ⟨hC,_,rfl,hn.mono fun z hz hzl=>⟨by have:=hz.1;omega,hzl,by simp⟩⟩
  ·try simp at q1
   have q1':¬ r.length=1:=by omega
   unfold Bp9;rw [Ei3 q1'];refine A7 (Qa (C6 (S:=[]) 12 [(0,0),(0,1),(0,2),(0,3),(0,4),(0,5),(0,6),(0,7),(0,8),(0,9),(0,10),(0,11),(2,12),(2,13)] mo (by kernel_rfl) ?_));intro w9 hx9 hh9;have hB1:=hB1.u hx9;have hO:=hO.u hx9;have hI:=hI.u hx9;have hcell9:=(hO.rd (F:=fun _=>True) (fun _ _ _=>trivial)).at_ (by omega);obtain ⟨g9,o9,rfl,_,_,hcell9⟩:=hcell9;have h9:=hcell9 (0*11+9) _ (hI.row 0 (by omega) 9 _ (hI.get 0 (by omega)).ends.1);have h10:=hcell9 ((r.length - 1)*11+10) _ (hI.row (r.length - 1) (by omega) 10 _ (hI.get (r.length - 1) (by omega)).ends.2);refine Z 2 J (C9 J (C1 Au8 J J (by omega) (by omega)) (Fa Cv6 J (C9 J (D3 o3 J h9 (by simp;done)) ?_)));refine Z 2 J (Ln Tryz.underlying138 J (Su J J (by omega) (C9 J (C1 Au8 J J (by omega) (by omega)) (Fa Ec1 J (C9 J (D3 o3 J (by have e:(((r.length:Nat):Int) - 1).toNat=r.length - 1:=(by omega);rw [e,Ek8];exact h10) (by simp;done)) ?_)))));refine C8 J (B0 Aj1 Ci6 J (by rfl)) ?_;refine Pe Be2 J ‹_› J J ?_;intro w10 hs10 hx10 hB1;have hC:=hC.step (hx9.j hx10) (by simp<;>omega);have hO:=(by exact hO.q hx10 (by intro x hx;simp at hx;left;omega));have hI:=hI.q hx10 (by intro x hx hf;have hx:=Ei6.1 hx;have h1:=hf.1;have h2:=hf.2.1;omega);refine Qc (A6 (D5 J J (A5 Ao1 ‹_› J J) ?_));refine ⟨hC,n6C 5 0 0 0 false _ r.length c' _ _,by unfold n6C;rw [C5];rfl,Dx1 _ _ _ _ _ _ _ (hO.rd fun z h1 h2=>⟨by omega,h2,by simp⟩) (hI.mono fun z hz hzl=>⟨by have:=hz.1;omega,hzl,by simp⟩)⟩
theorem Bx7 (l:List RTk) (A:Option Addr) (c:Nat) (size:Int) (hl:l.length≤100000):∀ f,RCatC l A c size f∧RAltC l A c size f
 |0=>⟨fun dd aa D x y F w _ _ _ h=>absurd h (by omega),fun dd aa D x y F w _ _ h=>absurd h (by omega)⟩
 |f+1=>⟨rcat_c l A c size f hl (Bx7 l A c size hl f).2,ralt_c l A c size f hl (Bx7 l A c size hl f).1⟩
theorem Dx0 (F:Nat→Prop) (w:World):N6 F w default [.int .i64 0,.int .u64 0,.int .u64 0,.int .u64 0,.int .u64 0,.int .i64 0,.int .i64 0,.bool false,.slice none 0 0,.int .i64 0,.int .i64 0]:=by
 have h:=Ct1 (F:=F) (w:=w) 0 0 0 0;unfold n6C at h;rw [C5] at h;exact h
theorem Dt8 (s:ByteArray) (hs:s.size≤1000) (w:World):Calls P 88 #[.string s] w (Ret fun u w'=>Chg [] w w'∧∃ cs,u= .tuple #[.agg cs.toArray,endV (L9 (B6 s)).2]∧N6 (FR w.heap.size w'.heap.size []) w' (L9 (B6 s)).1 cs):=by
 have hC:=A8 [] w;have hsl:=E6 s;have hlt:=T0 s;have hll:=Br8 (B6 s) hlt;have hkd:=Du3 (B6 s);have hP:L9 (B6 s)=if (K0 (B6 s)).2.2≠0 then (default,(K0 (B6 s)).2) else if (Bi1 (K0 (B6 s)).1 (B6 s).length).2≠0 then (default,Bi1 (K0 (B6 s)).1 (B6 s).length) else (As2 (K0 (B6 s)).1 (B6 s).length (2*(K0 (B6 s)).1.length+2) true 0 (K0 (B6 s)).1.length,0,0):=rfl
 generalize L9 (B6 s)=r at*;refine D6 Tryz.func88 J J (Qd (B4 J (B7 Aj1 J) ?_));intro b1 w1 hb1 hs1 hx1 hB1;refine B4 J (B7 Be0 J) ?_;intro b2 w2 hb2 hs2 hx2 hB2;refine Qc (Qd (Z 1 J (Ca fb118 J (rscan_c s hs _) ?_)));rintro _ w3 ⟨hx3,A,c,rfl,hr'⟩;have hz3:=hx3.size;have hC:=hC.s0 ((hx1.s0 hx2).s0 hx3);have hB1:=hB1.u (hx2.s0 hx3);have hB2:=hB2.u hx3;have hr:=hr';clear hr';generalize K0 (B6 s)=T at*;rw [hsl] at hP;obtain ⟨T,p,e⟩:=T;simp only [] at hP hll hkd hr
 refine Zc 7 J (Qa (Qd (Zc 2 J (A4 J (fun e1=>?_) (fun e1=>?_)))))
 ·try simp at e1
  rw [Ei4 e1] at hP;subst hP;refine Qd (C8 J (B0 Aj1 Ci6 J (by rfl)) ?_);refine Z 2 J (C8 J (B0 Be0 Ci5 J (by rfl)) ?_);refine Pe Be2 J ‹_› J J ?_;intro w4 hs4 hx4 hB1;have hB2:=hB2.q hx4 (by simp;omega);refine Pe Bg9 J ‹_› J J ?_;intro w5 hs5 hx5 hB2;have hC:=hC.step (hx4.j hx5) (by simp<;>omega);have hB1:=hB1.q hx5 (by simp;omega);refine Qc (A6 (C7 J J (A5 Ao1 ‹_› J J) J (A5 Bq2 ‹_› J J) ?_));exact ⟨hC,_,rfl,Dx0 _ _⟩
 ·try simp at e1
  rw [Ei3 (by simpa using e1)] at hP;refine A7 (Qd (Z 2 J (C8 J (E8 Tryz.underlying9 J) (Ca fb119 J (rfirst_c T s.size _ A c (by omega) _ (fun z (hz:FR w2.heap.size w3.heap.size [] z)=>by have:=hz.2.1;omega) ‹_›) ?_))));rintro _ w6 ⟨hx6,rfl⟩;have hz6:=hx6.size;have hsh:=Ar9 (size:=(s.size:Int)) hkd;generalize Bi1 T (s.size:Nat)=q at*;obtain ⟨q1,q2⟩:=q;refine B4 J (B7 Be0 J) ?_;intro b7 w7 hb7 hs7 hx7 hB7;have hr:=hr.u (hx6.s0 hx7);refine Pe Bg9 J ‹_› J J ?_;intro w8 hs8 hx8 hB7;have hC:=hC.step ((hx6.j hx7).j hx8) (by simp<;>omega);have hB1:=hB1.q ((hx6.j hx7).j hx8) (by simp<;>omega);have hB2:=hB2.q ((hx6.j hx7).j hx8) (by simp<;>omega);have hr:=hr.q hx8 (by intro x hx hf;have hx:=Ei6.1 hx;have h1:=hf.1;have h2:=hf.2.1;omega);refine Qc (Qa (Qd (Fa Cv5 J (Lb o3 J ‹_› (by rfl) ?_))))
  refine Zc 1 J (A4 J (fun e2=>?_) (fun e2=>?_))
  ·try simp at e2
   rw [Ei4 e2] at hP;subst hP;refine Qa (C6 (S:=[b1]) 3 [(0,0),(0,1),(1,2),(2,3)] mo (by kernel_rfl) ?_);intro w9 hx9 hh9;have hB1:=hB1.u hx9;have hB7:=hB7.u hx9;have hCS9:=A8 ([b1]) w9;refine C9 J (B0 Aj1 Ci6 J (by rfl)) ?_;refine C9 J (B8 Bq2 J ‹_› (by simp;omega) J J) ?_;refine H7 (G1 Be2 J J ‹_› J J J J J) ?_;intro w10 hs10 hx10 hB1;have hB2:=hB2.q (hx9.j hx10) (by simp<;>omega);have hCS9:=hCS9.step hx10 (by simp;done);refine ⟨hCS9,?_⟩;refine Pe Bg9 J ‹_› J J ?_;intro w11 hs11 hx11 hB2;have hC:=hC.step ((hx9.j hx10).j hx11) (by simp<;>omega);have hB1:=hB1.q hx11 (by simp;omega);refine Qc (A6 (C7 J J (A5 Ao1 ‹_› J J) J (A5 Bq2 ‹_› J J) ?_));exact ⟨hC,_,rfl,Dx0 _ _⟩
  ·try simp at e2
   have e2':q2=0:=by simpa using e2
   rw [Ei3 (by simp [e2'])] at hP;subst hP;have hS:=hsh e2';refine A7 (Qd (Z 2 J (Ln Tryz.underlying187 J (Z 1 J (C8 J (E8 Tryz.underlying9 J) (Ca fb120 J ((Bx7 T A c s.size (by omega) (2*T.length+2)).2 _ _ 0 0 T.length _ _ hS hS.all (by omega) (fun z (hz:FR w2.heap.size w3.heap.size [] z)=>by have:=hz.2.1;omega) ‹_›) ?_))))));rintro _ w12 ⟨hx12,cs,rfl,hn⟩;have hB1:=hB1.u hx12;have hone:=hn.one1;obtain ⟨a0,a1,a2,a3,a4,a5,a6,a7,a8,rfl⟩:=hn.cells;refine C8 J (B0 Be0 Ci5 J (by rfl)) ?_;refine Pb (cs':=[a0,a1,a2,a3,a4,a5,a6,a7,a8,.int .i64 (As2 T (↑s.size) (2*T.length+2) true 0 T.length).frm,.int .i64 (As2 T (↑s.size) (2*T.length+2) true 0 T.length).till]) Be2 J J hB1 J J hone J J ?_;intro w13 hs13 hx13 hB1;have hB2:=hB2.q (hx12.j hx13) (by simp<;>omega);have hn:=hn.q hx13 (by intro x hx hf;have hx:=Ei6.1 hx;have h1:=hf.1;have h2:=hf.2.1;omega);refine Pe Bg9 J ‹_› J J ?_;intro w14 hs14 hx14 hB2;have hC:=hC.step ((hx12.j hx13).j hx14) (by simp<;>omega);have hB1:=hB1.q hx14 (by simp;omega);have hn:=hn.q hx14 (by intro x hx hf;have hx:=Ei6.1 hx;have h1:=hf.1;have h2:=hf.2.1;omega);refine Qc (A6 (C7 J J (A5 Ao1 ‹_› J J) J (A5 Bq2 ‹_› J J) ?_));exact ⟨hC,_,rfl,hn.mono fun z hz hzl=>⟨by have:=hz.1;omega,hzl,by simp⟩⟩
def K6 (k mn mx:Int) (n:Nat):Prop:=(k=0∧n=0)∨(k=1∧n=0)∨((k=2∨k=3)∧n=1)∨((k=4∨k=5)∧1≤n∧n≤200000)∨(k=6∧n=1∧0≤mn∧mn≤1000∧ -1≤mx∧mx≤1000)
mutual
def G6:R6→Prop
 | .node k _ mn mx _ l _ _=>K6 k mn mx l.length∧G6s l
def G6s:List R6→Prop
 |[]=>True
 |t::r=>G6 t∧G6s r
end
theorem Eh3 {l:List R6} (h:∀ t∈l,G6 t):G6s l:=by
 induction l with
 |nil=>rw [G6s];trivial
 |cons t r ih=>rw [G6s];exact ⟨h t (Ek5 ..),ih fun x hx=>h x (El3 _ hx)⟩
def TokB (l:List RTk):Prop:=∀ i,0≤(l.getD i default).mn∧(l.getD i default).mn≤1000∧ -1≤(l.getD i default).mx∧(l.getD i default).mx≤1000
theorem Ck6 {l:List RTk} {alt:Nat→Nat→R6} {i:Nat} (hk:rkd l i=0∨((rkd l i=1∨rkd l i=2)∧G6 (alt (i+1) (Bc4 l (i+1)).toNat))):G6 (Au3 l alt i).1:=by
 unfold Au3
 rcases hk with h|⟨h,hg⟩
 ·rw [Ei4 h,G6];exact ⟨.inr (.inl ⟨rfl,rfl⟩),by rw [G6s];trivial⟩
 ·rw [Ei3 (by omega),G6];exact ⟨.inr (.inr (.inl ⟨by omega,rfl⟩)),Eh3 fun t ht=>by rw [Ei6] at ht;subst ht;exact hg⟩
theorem Di4 {l:List RTk} {to:Nat} {x:R6 × Nat} (hB:TokB l) (h:G6 x.1):G6 (Ak4 l to x).1:=by
 unfold Ak4
 split
 ·show G6 (cntN _ _);unfold cntN;rw [G6];obtain ⟨h1,h2,h3,h4⟩:=hB x.2;exact ⟨.inr (.inr (.inr (.inr ⟨rfl,rfl,h1,h2,h3,h4⟩))),Eh3 fun t ht=>by rw [Ei6] at ht;subst ht;exact h⟩
 ·exact h
theorem Bt7 {k:Int} {o:List R6} (hk:k=4∨k=5) (h:∀ t∈o,G6 t) (h1:1≤o.length) (h2:o.length≤200000):G6 (Bp9 k o):=by
 unfold Bp9
 split
 ·match o,h1 with
  |t::r,_=>exact h t (Ek5 ..)
 ·rw [G6];exact ⟨.inr (.inr (.inr (.inl ⟨hk,h1,h2⟩))),Eh3 h⟩
theorem Bs1 {l:List RTk} {dd:Nat→Nat} {aa:Nat→Bool} {D x y:Nat} {alt:Nat→Nat→R6} (hl:l.length≤100000) (hB:TokB l) (hS:Shp l dd aa) (hR:Rng l dd aa D x y) (hN:Be8 l dd D x y) (ha:∀ i k,x≤i→k<y→Rng l dd aa (D+1) (i+1) k→G6 (alt (i+1) k)):∀ (f i:Nat) (o:List R6),AtI l dd aa D x y i→(∀ t∈o,G6 t)→o.length≤i→(∀ t∈As0 l alt y f i o,G6 t)∧(As0 l alt y f i o).length≤max i y
 |0,i,o,_,ho,hol=>by rw [As0];exact ⟨ho,by omega⟩
 |f+1,i,o,hat,ho,hol=>by
  rw [As0]
  split
  ·rename_i hin
   have hyl:=hR.len;have hlo:=hat.lo;have hkd:=hat.kind hS hR hN hin
   have hg:G6 (Au3 l alt i).1∧∃ j,(Au3 l alt i).2=j∧i<j∧j≤y∧dd j=D:=by
    rcases hkd with h|h
    ·refine ⟨Ck6 (.inl h.1),i+1,?_,by omega,by omega,h.2.1⟩;unfold Au3;rw [Ei4 h.1]
    ·obtain ⟨k,hk1,hk2,hk3,hk4,hk5,hkr⟩:=hR.group hS hat.lo hin hat.di h;have:=hkr.le
     refine ⟨Ck6 (.inr ⟨h,?_⟩),k+1,?_,by omega,by omega,hk4⟩
     ·rw [hk1];exact ha i k hlo hk2 hkr
     ·unfold Au3;rw [Ei3 (by omega),hk1]
      rfl
   obtain ⟨hg1,j,hj,hij,hjy,hdj⟩:=hg;have hg2:=Di4 (to:=y) hB hg1
   have hst:AtI l dd aa D x y (Ak4 l y (Au3 l alt i)).2∧i<(Ak4 l y (Au3 l alt i)).2:=by
    unfold Ak4
    split
    ·rename_i h
     rw [hj] at h ⊢;exact ⟨AtI.more hS hR (by omega) h.1 hdj h.2,by show i<j+1;omega⟩
    ·rename_i h
     rw [hj] at h ⊢;exact ⟨⟨by omega,hjy,hdj,.inr fun h1 h2=>h ⟨h1,h2⟩⟩,hij⟩
   have:=Bs1 hl hB hS hR hN ha f _ (o++[(Ak4 l y (Au3 l alt i)).1]) hst.1 (fun t ht=>by
    rcases El8.1 ht with h|h
    ·exact ho t h
    ·rw [Ei6] at h;subst h;exact hg2) (by rw [Ei8];simp;omega)
   refine ⟨this.1,El9 this.2 ?_⟩;have:=hst.1.hi;omega
  ·exact ⟨ho,by omega⟩
theorem Az8 {l:List RTk} {dd:Nat→Nat} {aa:Nat→Bool} {D x y:Nat} {cat:Nat→Nat→R6} (hS:Shp l dd aa) (hR:Rng l dd aa D x y) (hc:∀ a b,x≤a→b≤y→Rng l dd aa D a b→Be8 l dd D a b→G6 (cat a b)):∀ (f i at_:Nat) (e:Int) (o:List R6),y+1<i+f→i≤y+1→(i≤y→AtB l dd aa D x y i at_∧e=(dd i:Int) - D)→(i=y+1→1≤o.length)→(∀ t∈o,G6 t)→o.length≤i→(∀ t∈Af3 l cat y f i at_ e o,G6 t)∧1≤(Af3 l cat y f i at_ e o).length∧(Af3 l cat y f i at_ e o).length≤y+1
 |0,i,at_,e,o,hf,hi,_,_,_,_=>by omega
 |f+1,i,at_,e,o,hf,hi,hst,hne,ho,hol=>by
  rw [Af3]
  split
  ·rename_i hin
   obtain ⟨hat,he⟩:=hst hin
   have hmem:∀ u,G6 u→∀ t∈o++[u],G6 t:=fun u hu t ht=>by
    rcases El8.1 ht with h|h
    ·exact ho t h
    ·rw [Ei6] at h;subst h;exact hu
   split
   ·rename_i h
    have hdi:dd i=D:=by
     rcases h with h|h
     ·rw [h];exact hR.dy
     ·by_cases hiy:i=y
      ·rw [hiy];exact hR.dy
      ·have hd:=hat.deep hS hR (by omega) he;have:=(hd.2 h.1).1;have:=hd.1;omega
    refine Az8 hS hR hc f (i+1) (i+1) _ _ (by omega) (by omega) (fun hi1=>?_) (fun _=>by rw [Ei8];simp) (hmem _ (hc at_ i hat.lo hin (hat.rng hR hdi) hat.nb)) (by rw [Ei8];simp;omega);have hd:=hat.deep hS hR (by omega) he
    rcases h with h|h
    ·omega
    ·exact ⟨hat.cut (by omega) (by have:=(hd.2 h.1).1;omega) (hd.2 h.1).2,hd.1⟩
   ·rename_i h
    have hiy:i≠y:=fun h2=>h (.inl h2)
    have hd:=hat.deep hS hR (by omega) he;refine Az8 hS hR hc f (i+1) at_ _ o (by omega) (by omega) (fun hi1=>⟨hat.next (by omega) fun hh=>h (.inr ⟨hh.1,by have:=(hd.2 hh.1).1;omega⟩),hd.1⟩) (fun h2=>by omega) ho (by omega)
  ·exact ⟨ho,hne (by omega),by omega⟩
theorem Bi9 {l:List RTk} {dd:Nat→Nat} {aa:Nat→Bool} (size:Int) (hl:l.length≤100000) (hB:TokB l) (hS:Shp l dd aa):∀ (f D x y:Nat),Rng l dd aa D x y→(2*(y - x)+1<f→G6 (As2 l size f true x y))∧(Be8 l dd D x y→2*(y - x)<f→G6 (As2 l size f false x y))
 |0,D,x,y,hR=>⟨fun h=>by omega,fun _ h=>by omega⟩
 |f+1,D,x,y,hR=>by
  have hyl:=hR.len;have hxy:=hR.le
  refine ⟨fun hf=>?_,fun hN hf=>?_⟩
  ·show G6 (Bp9 5 (Af3 l (fun a b=>As2 l size f false a b) y (y+2 - x) x x 0 []));have:=Az8 (cat:=fun a b=>As2 l size f false a b) hS hR (fun a b h1 h2 hr hn=>(Bi9 size hl hB hS f D a b hr).2 hn (by omega)) (y+2 - x) x x 0 [] (by omega) (by omega) (fun _=>⟨⟨Ej4 _,Ej4 _,hxy,hR.dx,hR.ax,fun m h1 h2=>by omega⟩,by rw [hR.dx];omega⟩) (fun h=>by omega) (fun t ht=>by cases ht) (Ej3 _);exact Bt7 (.inr J) this.1 this.2.1 (by omega)
  ·show G6 (catE l size x (As0 l (fun a b=>As2 l size f true a b) y (y+1 - x) x []));have:=Bs1 (alt:=fun a b=>As2 l size f true a b) hl hB hS hR hN (fun i k h1 h2 hr=>(Bi9 size hl hB hS f (D+1) (i+1) k hr).1 (by have:=hr.le;omega)) (y+1 - x) x [] ⟨Ej4 _,hxy,hR.dx,.inl hR.ax⟩ (fun t ht=>by cases ht) (Ej3 _);unfold catE
   split
   ·rw [G6];exact ⟨.inl ⟨rfl,rfl⟩,by rw [G6s];trivial⟩
   ·rename_i h
    exact Bt7 (.inl J) this.1 (by omega) (by have:=this.2;omega)
theorem Ad7 (L:List Nat) (t:RTk) (e:Int × Int):(Cd8 L t e).1.mn=t.mn∧(Cd8 L t e).1.mx=t.mx:=by
 unfold Cd8
 split
 ·exact ⟨rfl,rfl⟩
 ·dsimp only
  split<;>exact ⟨rfl,rfl⟩
theorem Bb4 (L:List Nat) (m n:Int) (i:Nat) (h:0≤m∧m≤1000∧ -1≤n∧n≤1000):0≤(L7 L m n i).1∧(L7 L m n i).1≤1000∧ -1≤(L7 L m n i).2.1∧(L7 L m n i).2.1≤1000:=by
 unfold L7
 split
 ·simp
 ·exact h
theorem Cy0 (L:List Nat) (hL:∀ b∈L,b<256) (at_:Nat):0≤(J7 L at_).1∧(J7 L at_).1≤1000∧ -1≤(J7 L at_).2.1∧(J7 L at_).2.1≤1000:=by
 obtain ⟨h1,h2,_⟩:=S4 L hL at_;unfold J7;dsimp only
 split
 ·exact ⟨by simp,by simp,by simp,by simp⟩
 split
 ·split
  ·obtain ⟨h3,h4,_⟩:=S4 L hL ((I8 L at_).2.1.toNat+1)
   split
   ·exact ⟨by simp,by simp,by simp,by simp⟩
   split
   ·exact ⟨by simp,by simp,by simp,by simp⟩
   ·exact Bb4 _ _ _ _ ⟨h1,h2,by omega,h4⟩
  ·exact Bb4 _ _ _ _ ⟨h1,h2,by omega,by omega⟩
 ·exact Bb4 _ _ _ _ ⟨h1,h2,by omega,h2⟩
def TB1 (t:RTk):Prop:=0≤t.mn∧t.mn≤1000∧ -1≤t.mx∧t.mx≤1000
theorem oneR_bnd (L:List Nat) (hL:∀ b∈L,b<256) (i:Nat):TB1 (Cf2 L i).1:=by
 unfold Cf2 TB1;dsimp only
 by_cases h1:L.getD i 0=92
 ·rw [Ei4 h1];simp
 rw [Ei3 h1]
 by_cases h2:L.getD i 0=91
 ·rw [Ei4 h2];simp
 rw [Ei3 h2]
 by_cases h3:L.getD i 0=40
 ·rw [Ei4 h3]
  split<;>simp
 rw [Ei3 h3]
 by_cases h4:L.getD i 0=41
 ·rw [Ei4 h4];simp
 rw [Ei3 h4]
 by_cases h5:L.getD i 0=124
 ·rw [Ei4 h5];simp
 rw [Ei3 h5]
 by_cases h6:L.getD i 0=46
 ·rw [Ei4 h6];simp
 rw [Ei3 h6]
 by_cases h7:L.getD i 0=94∨L.getD i 0=36
 ·rw [Ei4 h7];simp
 rw [Ei3 h7]
 by_cases h8:L.getD i 0=93∨L.getD i 0=125
 ·rw [Ei4 h8];simp
 rw [Ei3 h8]
 by_cases h9:L.getD i 0∉B6 Ee9
 ·rw [Ei4 h9];simp
 rw [Ei3 h9]
 split
 ·rw [(Ad7 _ _ _).1,(Ad7 _ _ _).2];simp
 split
 ·rw [(Ad7 _ _ _).1,(Ad7 _ _ _).2];simp
 split
 ·rw [(Ad7 _ _ _).1,(Ad7 _ _ _).2];exact Cy0 L hL (i+1)
 ·rw [(Ad7 _ _ _).1,(Ad7 _ _ _).2];simp
theorem Bs0 (L:List Nat) (hL:∀ b∈L,b<256):∀ (f i:Nat) (l:List RTk),(∀ t∈l,TB1 t)→∀ t∈(Y6 L f i l).1,TB1 t
 |0,i,l,h=>by rw [Y6];exact h
 |f+1,i,l,h=>by
  rw [Y6]
  split
  ·simp only []
   split
   ·intro t ht;cases ht
   ·refine Bs0 L hL f _ _ fun t ht=>?_
    rcases El8.1 ht with h1|h1
    ·exact h t h1
    ·rw [Ei6] at h1;subst h1;exact oneR_bnd L hL i
  ·exact h
theorem Cs0 (L:List Nat) (hL:∀ b∈L,b<256):TokB (K0 L).1:=fun i=>by
 by_cases hi:i<(K0 L).1.length
 ·rw [Ei5,Ei7 hi];exact Bs0 L hL _ 0 [] (fun t ht=>by cases ht) _ (List.getElem_mem hi)
 ·rw [Ei5,Ej9 (by omega)];exact ⟨by decide,by decide,by decide,by decide⟩
theorem Al3 (L:List Nat) (hL:∀ b∈L,b<256) (hl:L.length≤1000) (h:(L9 L).2.2=0):G6 (L9 L).1:=by
 have hlen:=Br8 L hL;unfold L9 at h ⊢
 split at h
 ·rename_i h1;exact absurd h h1
 rename_i h1
 rw [Ei3 h1]
 split at h
 ·rename_i h2;exact absurd h h2
 rename_i h2
 rw [Ei3 h2];have hS:=Ar9 (Du3 L) (by simpa using h2);exact (Bi9 _ (by omega) (Cs0 L hL) hS _ 0 0 _ hS.all).1 (by omega)
end Go.Clt
section
namespace Go.Clt
open Go Go.RowKit
mutual
inductive SameS:R6→Syn→Prop
 |node {k s mn mx lz l l' a b a' b'}:SameSs l l'→SameS (.node k s mn mx lz l a b) (.node k s mn mx lz l' a' b')
inductive SameSs:List R6→List Syn→Prop
 |nil:SameSs [] []
 |cons {t u l k}:SameS t u→SameSs l k→SameSs (t::l) (u::k)
end
theorem SameSs.len:∀ {l k},SameSs l k→l.length=k.length
 |_,_,.nil=>rfl
 |_,_,.cons _ h=>by simp [h.len]
theorem SameSs.app:∀ {l k t u},SameSs l k→SameS t u→SameSs (l++[t]) (k++[u])
 |_,_,_,_,.nil,ht=>.cons ht .nil
 |_,_,_,_,.cons a h,ht=>.cons a (h.app ht)
theorem Ck7 {k:Int} {o:List R6} {l:List Syn} (h:SameSs o l) (h1:1≤o.length):SameS (Bp9 k o) (Aw5 k l):=by
 cases h with
 |nil=>exact absurd h1 (by decide)
 |cons a b=>
  cases b with
  |nil=>exact a
  |cons b c=>
   unfold Bp9;rw [Ei3 (by simp)];exact .node (.cons a (.cons b c))
theorem rtok_at {l:List RTk} {T:List Tok} (h:SameL l T):∀ i,i<l.length→SameT (l.getD i default) (T.getD i {}):=by
 induction h with
 |nil=>intro i hi;cases hi
 |cons a _ ih=>
  intro i hi
  cases i with
  |zero=>exact a
  |succ i=>exact ih i (by simpa using hi)
theorem Dj7 {l:List RTk} {T:List Tok} (h:SameL l T) (en:Nat) {p:Pp} (hp:p.next<l.length):SameT (l.getD p.next default) (pkQ T en p):=by
 unfold pkQ;rw [Ei4 (by rw [← h.len];exact hp)];exact rtok_at h _ hp
theorem Ea1 {l:List RTk} {T:List Tok} (h:SameL l T) (en:Nat) {p:Pp} (k:Int):isQ T en p k=true↔p.next<l.length∧rkd l p.next=k:=by
 unfold isQ okQ;simp only [Ei9,Ek1];rw [← h.len]
 constructor
 ·rintro ⟨a,b⟩;exact ⟨a,(Dj7 h en a).kind.trans b⟩
 ·rintro ⟨a,b⟩;exact ⟨a,(Dj7 h en a).kind.symm.trans b⟩
theorem Ea5 {l:List RTk} {T:List Tok} (h:SameL l T) (en:Nat) {p:Pp} (hp:p.e=0):Aj8 T en p=true↔p.next<l.length∧rkd l p.next≠4∧rkd l p.next≠3:=by
 unfold Aj8 okQ;simp only [Ei9,Ek1,Bool.not_eq_true',decide_eq_false_iff_not];rw [← h.len]
 constructor
 ·rintro ⟨⟨⟨_,a⟩,b⟩,c⟩;have:=(Dj7 h en a).kind;exact ⟨a,fun x=>b (this.symm.trans x),fun x=>c (this.symm.trans x)⟩
 ·rintro ⟨a,b,c⟩;have:=(Dj7 h en a).kind;exact ⟨⟨⟨hp,a⟩,fun x=>b (this.trans x)⟩,fun x=>c (this.trans x)⟩
theorem catL_bad {T:List Tok} {en f:Nat} {p:Pp} {z:Int} {ls:List Syn} (h:p.e≠0):(catL T en f p z ls).2=p:=by
 cases f with
 |zero=>rw [catL]
 |succ f=>rw [catL,Ei3];exact fun hg=>h (Ca7 hg).1
theorem altL_bad {T:List Tok} {en f:Nat} {p:Pp} {ls:List Syn} (h:p.e≠0):(altL T en f p ls).2=p:=by
 cases f with
 |zero=>rw [altL]
 |succ f=>rw [altL,Ei3];exact fun hg=>h hg.1
def EndC (l:List RTk) (y:Nat):Prop:=y=l.length∨rkd l y=3∨rkd l y=4
def EndA (l:List RTk) (y:Nat):Prop:=y=l.length∨rkd l y=3
def AltS (l:List RTk) (T:List Tok) (en x y:Nat) (t:R6):Prop:=∀ (f:Nat) (p:Pp),p.next=x→p.e=0→5*(l.length - x)+5≤f→(X9 T en f p).2.e=0→SameS t (X9 T en f p).1∧(X9 T en f p).2.next=y
def CatS (l:List RTk) (T:List Tok) (en x y:Nat) (t:R6):Prop:=∀ (f:Nat) (p:Pp),p.next=x→p.e=0→5*(l.length - x)+4≤f→(Ap8 T en f p).2.e=0→SameS t (Ap8 T en f p).1∧(Ap8 T en f p).2.next=y
theorem Da9 {l:List RTk} {d:Nat→Nat} {a:Nat→Bool} (hS:Shp l d a) {cat:Nat→Nat→R6} {D x y:Nat} (hR:Rng l d a D x y):∀ (h i at_:Nat) (e:Int) (o:List R6),y+1<i+h→AtB l d a D x y i at_→e=(d i:Int) - D→
  ∃ c,i≤c∧c≤y∧Rng l d a D at_ c∧Be8 l d D at_ c∧((c=y∧Af3 l cat y h i at_ e o=o++[cat at_ c])∨(c<y∧rkd l c=4∧AtB l d a D x y (c+1) (c+1)∧Af3 l cat y h i at_ e o=Af3 l cat y (h - (c+1 - i)) (c+1) (c+1) 0 (o++[cat at_ c])))
 |0,i,at_,e,o,hf,hat,he=>by have:=hat.hi;omega
 |h+1,i,at_,e,o,hf,hat,he=>by
  have hin:=hat.hi;rw [Af3,Ei4 hin]
  by_cases hiy:i=y
  ·rw [Ei4 (.inl hiy)];refine ⟨i,Ej4 _,hin,hat.rng hR (by rw [hiy];exact hR.dy),hat.nb,.inl ⟨hiy,?_⟩⟩
   cases h with
   |zero=>rw [Af3]
   |succ h=>rw [Af3,Ei3 (by omega)]
  ·have hd:=hat.deep hS hR (by omega) he
   by_cases hc:rkd l i=4∧dpR l i y e=0
   ·rw [Ei4 (.inr hc)];have hdi:d i=D:=by have:=(hd.2 hc.1).1;have:=hd.1;omega
    refine ⟨i,Ej4 _,hin,hat.rng hR hdi,hat.nb,.inr ⟨by omega,hc.1,hat.cut (by omega) (by have:=(hd.2 hc.1).1;omega) (hd.2 hc.1).2,?_⟩⟩;rw [hc.2,show h+1 - (i+1 - i)=h by omega]
   ·rw [Ei3 (by rintro (h|h);exact hiy h;exact hc h)];obtain ⟨c,c1,c2,c3,c4,c5⟩:=Da9 hS hR h (i+1) at_ (dpR l i y e) o (by omega) (hat.next (by omega) fun hh=>hc ⟨hh.1,by have:=(hd.2 hh.1).1;have:=hd.1;omega⟩) hd.1;refine ⟨c,by omega,c2,c3,c4,?_⟩;rw [show h+1 - (c+1 - i)=h - (c+1 - (i+1)) by omega];exact c5
section
variable {l:List RTk} {T:List Tok} {d:Nat→Nat} {a:Nat→Bool} (hL:SameL l T) (hS:Shp l d a) (en:Nat)
include hL hS
theorem kid_same {alt:Nat→Nat→R6} {D x y i:Nat} (hR:Rng l d a D x y) (hN:Be8 l d D x y) (ha:∀ i k,x≤i→k<y→rkd l k=3→Rng l d a (D+1) (i+1) k→AltS l T en (i+1) k (alt (i+1) k))
  (t:AtI l d a D x y i) (hi:i<y) {f:Nat} {p:Pp} (hp:p.next=i) (he:p.e=0) (hf:5*(l.length - i)+1≤f):
  let m:Syn × Pp:=if (pkQ T en p).kind=0 then (.node 1 (pkQ T en p).set 0 0 false [] (pkQ T en p).src (pkQ T en p).to,p.adv) else if (pkQ T en p).kind=1∨(pkQ T en p).kind=2 then M5 T en f p (pkQ T en p) else (default,p.fail (pkQ T en p).src 4)
  m.2.e=0→SameS (Au3 l alt i).1 m.1∧m.2.next=(Au3 l alt i).2∧(Au3 l alt i).2≤y∧d (Au3 l alt i).2=D∧i<(Au3 l alt i).2:=by
 intro m hm;have hyl:=hR.len;have hil:i<l.length:=by omega
 have hpk:=Dj7 hL en (p:=p) (by omega);rw [hp] at hpk;have hk:rkd l i=(pkQ T en p).kind:=hpk.kind
 rcases t.kind hS hR hN hi with ⟨h1,h2,h3⟩|h1
 ·have e1:m=(.node 1 (pkQ T en p).set 0 0 false [] (pkQ T en p).src (pkQ T en p).to,p.adv):=Ei4 (by omega);have e2:Au3 l alt i=(.node 1 (l.getD i default).set 0 0 false [] (l.getD i default).frm (l.getD i default).till,i+1):=Ei4 h1;rw [e1,e2,hpk.set];exact ⟨.node .nil,by show p.next+1=_;rw [hp],hi,h2,Ep8 _⟩
 ·obtain ⟨k,k1,k2,k3,k4,k5,k6⟩:=hR.group hS t.lo hi t.di h1
  have e1:m=M5 T en f p (pkQ T en p):=by
   show (if _ then _ else _)=_;rw [Ei3 (by omega),Ei4 (by omega)]
  have e2:Au3 l alt i=(.node (1+rkd l i) 0 0 0 false [alt (i+1) k] (l.getD i default).frm (l.getD k default).till,k+1):=by
   unfold Au3;rw [Ei3 (by omega),k1];rfl
  rw [e1] at hm ⊢;rw [e2];obtain ⟨f,rfl⟩:∃ f',f=f'+1:=⟨f - 1,by omega⟩;rw [M5] at hm ⊢
  by_cases hd:200≤p.deep
  ·rw [Ei4 hd] at hm;exact absurd hm (Ah0 (by decide))
  rw [Ei3 hd] at hm ⊢;dsimp only at hm ⊢;have hle:=k6.le;have hA:=ha i k t.lo k2 k3 k6 f { next:=p.next+1,deep:=p.deep+1,pl:=p.pl,e:=p.e } (by show p.next+1=_;rw [hp]) he (by omega);generalize X9 T en f { next:=p.next+1,deep:=p.deep+1,pl:=p.pl,e:=p.e }=c at*
  by_cases hc:c.2.e=0
  ·obtain ⟨s1,s2⟩:=hA hc;rw [Ei3 (by simpa using hc)] at hm ⊢;have hq:isQ T en { next:=c.2.next,deep:=c.2.deep - 1,pl:=c.2.pl,e:=c.2.e } 3=true:=(Ea1 hL en 3).2 ⟨by show c.2.next<_;omega,by show rkd l c.2.next=3;rw [s2];exact k3⟩;rw [Ei3 (by rw [hq];decide)] at hm ⊢;refine ⟨?_,by show c.2.next+1=_;rw [s2],k2,k4,by show i<k+1;omega⟩
   have hkk:(1+rkd l i)=(if (pkQ T en p).kind=2 then 3 else 2):=by
    rw [← hk];rcases h1 with h1|h1<;>rw [h1]<;>rfl
   rw [hkk];exact .node (.cons s1 .nil)
  ·rw [Ei4 (by simpa using hc)] at hm;exact absurd hm hc
theorem Dm2 {alt:Nat→Nat→R6} {D x y i:Nat} (hR:Rng l d a D x y) (hE:EndC l y) (hN:Be8 l d D x y) (ha:∀ i k,x≤i→k<y→rkd l k=3→Rng l d a (D+1) (i+1) k→AltS l T en (i+1) k (alt (i+1) k))
  (t:AtI l d a D x y i) (hi:i<y) {f:Nat} {p:Pp} (hp:p.next=i) (he:p.e=0) (hf:5*(l.length - i)+2≤f) (hq:(X6 T en f p (pkQ T en p)).2.e=0):
  SameS (Ak4 l y (Au3 l alt i)).1 (X6 T en f p (pkQ T en p)).1∧(X6 T en f p (pkQ T en p)).2.next=(Ak4 l y (Au3 l alt i)).2∧AtI l d a D x y (Ak4 l y (Au3 l alt i)).2∧i<(Ak4 l y (Au3 l alt i)).2:=by
 have hyl:=hR.len;have hlo:=t.lo;obtain ⟨f,rfl⟩:∃ f',f=f'+1:=⟨f - 1,by omega⟩;have hK:=kid_same hL hS en hR hN ha t hi hp he (f:=f) (by omega);rw [X6] at hq ⊢;dsimp only at hK hq ⊢;generalize (if (pkQ T en p).kind=0 then (Syn.node 1 (pkQ T en p).set 0 0 false [] (pkQ T en p).src (pkQ T en p).to,p.adv) else if (pkQ T en p).kind=1∨(pkQ T en p).kind=2 then M5 T en f p (pkQ T en p) else (default,p.fail (pkQ T en p).src 4))=m at*
 by_cases hm:m.2.e=0
 ·obtain ⟨s1,s2,s3,s4,s5⟩:=hK hm;unfold Ak4
  by_cases h5:(Au3 l alt i).2<y∧rkd l (Au3 l alt i).2=5
  ·have h6:isQ T en m.2 5=true:=(Ea1 hL en 5).2 ⟨by omega,by rw [s2];exact h5.2⟩;have hpk:=Dj7 hL en (p:=m.2) (by omega);rw [s2] at hpk;rw [Ei3 (c:=m.2.e≠0∨isQ T en m.2 5=false) (by rw [h6];simp [hm])] at hq ⊢;rw [Ei4 h5];refine ⟨?_,by show m.2.next+1=_;rw [s2],AtI.more hS hR (by omega) h5.1 s4 h5.2,by show i<_+1;omega⟩;show SameS (cntN _ _) _;unfold cntN;rw [hpk.mn,hpk.mx,hpk.lz];exact .node (.cons s1 .nil)
  ·have h6:isQ T en m.2 5=false:=by
    refine Er9.2 fun h=>h5 ?_
    obtain ⟨a1,a2⟩:=(Ea1 hL en 5).1 h;rw [s2] at a1 a2;refine ⟨?_,a2⟩
    rcases Ep7 (Au3 l alt i).2 y with h|h
    ·exact h
    ·have:(Au3 l alt i).2=y:=by omega
     rw [this] at a1 a2
     rcases hE with h|h|h
     ·omega
     ·omega
     ·omega
   rw [Ei4 (c:=m.2.e≠0∨isQ T en m.2 5=false) (.inr h6)] at hq ⊢;rw [Ei3 h5];exact ⟨s1,s2,⟨by omega,s3,s4,.inr fun h1 h2=>h5 ⟨h1,h2⟩⟩,s5⟩
 ·rw [Ei4 (c:=m.2.e≠0∨isQ T en m.2 5=false) (.inl hm)] at hq;exact absurd hq hm
theorem Cn8 {alt:Nat→Nat→R6} {D x y:Nat} (hR:Rng l d a D x y) (hE:EndC l y) (hN:Be8 l d D x y) (ha:∀ i k,x≤i→k<y→rkd l k=3→Rng l d a (D+1) (i+1) k→AltS l T en (i+1) k (alt (i+1) k)):
  ∀ (h i:Nat) (o:List R6) (f:Nat) (p:Pp) (z:Int) (ls:List Syn),AtI l d a D x y i→y+1≤h+i→SameSs o ls→p.next=i→p.e=0→5*(l.length - i)+3≤f→(catL T en f p z ls).2.e=0→
   ∃ ls' q,SameSs (As0 l alt y h i o) ls'∧catL T en f p z ls=(W4 q z ls',q)∧q.next=y
 |0,i,o,f,p,z,ls,t,hh,ho,hp,he,hf,hq=>by have:=t.hi;omega
 |h+1,i,o,f,p,z,ls,t,hh,ho,hp,he,hf,hq=>by
  have hyl:=hR.len;have hhi:=t.hi;obtain ⟨f,rfl⟩:∃ f',f=f'+1:=⟨f - 1,by omega⟩;rw [catL] at hq ⊢;rw [As0]
  by_cases hi:i<y
  ·have hg:Aj8 T en p=true:=by
    refine (Ea5 hL en he).2 ⟨by omega,?_⟩;rw [hp]
    rcases t.kind hS hR hN hi with ⟨h1,_⟩|h1
    ·omega
    ·omega
   rw [Ei4 hg] at hq ⊢;rw [Ei4 hi]
   by_cases hm:(X6 T en f p (pkQ T en p)).2.e=0
   ·obtain ⟨s1,s2,s3,s4⟩:=Dm2 hL hS en hR hE hN ha t hi hp he (by omega) hm;exact Cn8 hR hE hN ha h _ _ f _ z _ s3 (by omega) (ho.app s1) s2 hm (by omega) hq
   ·rw [catL_bad hm] at hq;exact absurd hq hm
  ·have hiy:i=y:=by omega
   have hg:¬ Aj8 T en p=true:=fun h=>by
    obtain ⟨h1,h2,h3⟩:=(Ea5 hL en he).1 h;rw [hp,hiy] at h1 h2 h3
    rcases hE with h|h|h
    ·omega
    ·exact h3 h
    ·exact h2 h
   rw [Ei3 hg,Ei3 hi];exact ⟨ls,p,ho,rfl,hp.trans hiy⟩
theorem Cp0 {cat:Nat→Nat→R6} {D x y:Nat} (hR:Rng l d a D x y) (hE:EndA l y) (hc:∀ A B,x≤A→B≤y→Rng l d a D A B→Be8 l d D A B→EndC l B→CatS l T en A B (cat A B)):
  ∀ (n at_ h:Nat) (o:List R6) (f:Nat) (p:Pp) (ls:List Syn),y<at_+n→y+1<at_+h→AtB l d a D x y at_ at_→SameSs o ls→p.next=at_→p.e=0→5*(l.length - at_)+4≤f→(altL T en f (Ap8 T en f p).2 (ls++[(Ap8 T en f p).1])).2.e=0→
   ∃ ls' q,SameSs (Af3 l cat y h at_ at_ 0 o) ls'∧1≤ls'.length∧altL T en f (Ap8 T en f p).2 (ls++[(Ap8 T en f p).1])=(Aw5 5 ls',q)∧q.next=y
 |0,at_,h,o,f,p,ls,hn,hf,hat,ho,hp,he,hfu,hq=>by have:=hat.hi;omega
 |n+1,at_,h,o,f,p,ls,hn,hf,hat,ho,hp,he,hfu,hq=>by
  have hyl:=hR.len;obtain ⟨c,c1,c2,c3,c4,c5⟩:=Da9 hS (cat:=cat) hR h at_ at_ 0 o hf hat (by rw [hat.dat];omega)
  by_cases hm:(Ap8 T en f p).2.e=0
  ·have hEc:EndC l c:=by
    rcases c5 with ⟨h1,_⟩|⟨_,h1,_⟩
    ·rw [h1]
     rcases hE with h|h
     ·exact .inl h
     ·exact .inr (.inl h)
    ·exact .inr (.inr h1)
   obtain ⟨s1,s2⟩:=hc at_ c hat.lo c2 c3 c4 hEc f p hp he hfu hm;obtain ⟨f,rfl⟩:∃ f',f=f'+1:=⟨f - 1,by omega⟩;rw [altL] at hq ⊢
   rcases c5 with ⟨h1,h2⟩|⟨h1,h2,h3,h4⟩
   ·have hg:¬ ((Ap8 T en (f+1) p).2.e=0∧isQ T en (Ap8 T en (f+1) p).2 4=true):=fun ⟨_,h⟩=>by
     obtain ⟨a1,a2⟩:=(Ea1 hL en 4).1 h;rw [s2,h1] at a1 a2
     rcases hE with h|h
     ·omega
     ·omega
    rw [Ei3 hg,h2];exact ⟨_,_,ho.app s1,by simp,rfl,s2.trans h1⟩
   ·rw [Ei4 ⟨hm,(Ea1 hL en 4).2 ⟨by omega,by rw [s2];exact h2⟩⟩] at hq ⊢;rw [h4];exact Cp0 hR hE hc n (c+1) _ _ f _ _ (by omega) (by omega) h3 (ho.app s1) (by show _+1=_;rw [s2]) hm (by omega) hq
  ·rw [altL_bad hm] at hq;exact absurd hq hm
theorem By6 (size:Int):∀ (g D x y:Nat),Rng l d a D x y→(EndA l y→2*(y - x)+1<g→AltS l T en x y (As2 l size g true x y))∧(EndC l y→Be8 l d D x y→2*(y - x)<g→CatS l T en x y (As2 l size g false x y))
 |0,D,x,y,hR=>⟨fun _ h=>by omega,fun _ _ h=>by omega⟩
 |g+1,D,x,y,hR=>by
  have hyl:=hR.len;have hxy:=hR.le
  refine ⟨fun hE hg f p hp he hf hq=>?_,fun hE hN hg f p hp he hf hq=>?_⟩
  ·obtain ⟨f,rfl⟩:∃ f',f=f'+1:=⟨f - 1,by omega⟩;rw [X9] at hq ⊢;obtain ⟨ls,q,h1,h2,h3,h4⟩:=Cp0 hL hS en (cat:=fun a b=>As2 l size g false a b) hR hE (fun A B h1 h2 hr hn he=>(By6 size g D A B hr).2 he hn (by omega)) (y+1 - x) x (y+2 - x) [] f p [] (by omega) (by omega) ⟨Ej4 _,Ej4 _,hxy,hR.dx,hR.ax,fun m h1 h2=>by omega⟩ .nil hp he (by omega) hq;rw [Ej1] at h3;rw [h3];exact ⟨Ck7 h1 (by rw [h1.len];exact h2),h4⟩
  ·obtain ⟨f,rfl⟩:∃ f',f=f'+1:=⟨f - 1,by omega⟩;rw [Ap8] at hq ⊢;obtain ⟨ls,q,h1,h3,h4⟩:=Cn8 hL hS en (alt:=fun a b=>As2 l size g true a b) hR hE hN (fun i k h1 h2 h3 hr=>(By6 size g (D+1) (i+1) k hr).1 (.inr h3) (by have:=hr.le;omega)) (y+1 - x) x [] f p _ [] ⟨Ej4 _,hxy,hR.dx,.inl hR.ax⟩ (by omega) .nil hp he (by omega) hq;rw [h3] at hq ⊢;refine ⟨?_,h4⟩;show SameS (catE l size x (As0 l (fun a b=>As2 l size g true a b) y (y+1 - x) x [])) (W4 q _ ls);unfold catE W4
   by_cases h0:ls.length=0
   ·rw [Ei4 (h1.len.trans h0),Ei4 (.inr h0)];exact .node .nil
   ·rw [Ei3 (by rw [h1.len];exact h0),Ei3 (by rintro (h|h);exact h hq;exact h0 h)];exact Ck7 h1 (by rw [h1.len];omega)
end
theorem Dk0 (s:ByteArray) (hr:(L9 (B6 s)).2.2=0) (hq:(M4 (B6 s)).2.2=0):SameS (L9 (B6 s)).1 (M4 (B6 s)).1:=by
 unfold L9 at hr ⊢;unfold M4 at hq ⊢;dsimp only at hq ⊢
 by_cases h1:(K0 (B6 s)).2.2=0
 ·rw [Ei3 (c:=(K0 (B6 s)).2.2≠0) (fun h=>h h1)] at hr ⊢
  by_cases h2:(Q9 (B6 s)).2.2=0
  ·rw [Ei3 (c:=(Q9 (B6 s)).2.2≠0) (fun h=>h h2)] at hq ⊢;have hL:=Dt2 s h1 h2
   by_cases h3:(Bi1 (K0 (B6 s)).1 (B6 s).length).2=0
   ·rw [Ei3 (c:=(Bi1 (K0 (B6 s)).1 (B6 s).length).2≠0) (fun h=>h h3)];have hS:=Ar9 (Du3 (B6 s)) h3;have hA:=(By6 hL hS (B6 s).length (B6 s).length (2*(K0 (B6 s)).1.length+2) 0 0 _ hS.all).1 (.inl J) (by omega) (5*(Q9 (B6 s)).1.length+5) ⟨0,0,0,0⟩ rfl rfl (by rw [hL.len];omega);unfold Ci7 at hq ⊢;dsimp only at hq ⊢;generalize X9 (Q9 (B6 s)).1 (B6 s).length (5*(Q9 (B6 s)).1.length+5) ⟨0,0,0,0⟩=r at*
    by_cases h4:r.2.e=0
    ·have h5:okQ (Q9 (B6 s)).1 r.2=false:=by
      unfold okQ;rw [(hA h4).2,hL.len];exact Ej6 (by omega)
     rw [h5] at hq ⊢;simp only [Ep9,if_false] at hq ⊢;rw [Ei3 (by omega)];exact (hA h4).1
    ·exfalso
     revert hq
     by_cases h5:okQ (Q9 (B6 s)).1 r.2=true
     ·simp only [Ei4 h5];rw [Ei4 (Ah0 (by decide))];exact fun h=>Ah0 (by decide) h
     ·simp only [Ei3 h5];rw [Ei4 h4];exact h4
   ·rw [Ei4 h3] at hr;exact absurd hr h3
  ·rw [Ei4 h2] at hq;exact absurd hq h2
 ·rw [Ei4 h1] at hr;exact absurd hr h1
end Go.Clt
end
namespace Go.Clt
open Go Go.RowKit Go.Proofs
def S0 (k:Int):List R8→R8
 |[]=>default
 |[a]=>a
 |a::b::r=>Af7 k a (S0 k (b::r))
def optR (lz:Bool) (x:R8):R8:=if lz then Af7 3 default x else Af7 3 x default
def T6 (r:R8) (lz:Bool):Nat→R8
 |0=>optR lz r
 |n+1=>optR lz (Af7 2 r (T6 r lz n))
def Bg7 (mn mx:Int) (lz:Bool) (l:List R8):List R8:=if mx= -1 then [.node 4 0 lz l] else if mn<mx then [T6 (l.getD 0 default) lz ((mx - mn).toNat - 1)] else []
def Ag1 (k:Int) (s:Nat) (mn mx:Int) (lz:Bool) (l:List R8):R8:=
 if k=0 then default else if k=1 then .node 1 s false [] else if k=2∨k=3 then l.getD 0 default else if k=4 then S0 2 l else if k=5 then S0 3 l
 else S0 2 (List.replicate mn.toNat (l.getD 0 default)++Bg7 mn mx lz l)
mutual
def Ar0:R6→R8
 | .node k s mn mx lz l _ _=>Ag1 k s mn mx lz (R7 l)
def R7:List R6→List R8
 |[]=>[]
 |t::r=>Ar0 t::R7 r
end
mutual
def szR:R6→Nat
 | .node k _ mn mx _ l _ _=>if k<2 then 1 else if k=6 then
   (if mn.toNat+(if mx= -1 then 1 else 0)+(if mn<mx then 1 else 0)=0 then 1 else
    mn.toNat*Bg8 l+(if mx= -1 then Bg8 l+1 else 0)+(if mn<mx then (mx - mn).toNat*(Bg8 l+2)+((mx - mn).toNat - 1) else 0)+(mn.toNat+(if mx= -1 then 1 else 0)+(if mn<mx then 1 else 0) - 1))
   else Bg8 l+(l.length - 1)
def Bg8:List R6→Nat
 |[]=>0
 |t::r=>szR t+Bg8 r
end
mutual
def n8s:R8→Nat
 | .node _ _ _ l=>1+n8l l
def n8l:List R8→Nat
 |[]=>0
 |t::r=>n8s t+n8l r
end
def K8 (k:Int) (n:Nat):Prop:=(k=0∧n=0)∨(k=1∧n=0)∨((k=2∨k=3)∧n=2)∨(k=4∧n=1)
mutual
def G8:R8→Prop
 | .node k _ _ l=>K8 k l.length∧G8s l
def G8s:List R8→Prop
 |[]=>True
 |t::r=>G8 t∧G8s r
end
theorem Ab2:∀ l:List R6,(R7 l).length=l.length
 |[]=>by rw [R7];rfl
 |t::r=>by rw [R7,Em0,Ab2 r,Em0]
theorem Bs9 (a b:List R8):n8l (a++b)=n8l a+n8l b:=by
 induction a with
 |nil=>simp [n8l]
 |cons t r ih=>simp only [Ej0,n8l,ih];omega
theorem Bz1 (n:Nat) (a:R8):n8l (List.replicate n a)=n*n8s a:=by
 induction n with
 |zero=>simp [n8l]
 |succ n ih=>rw [Es2,n8l,ih,Es8];omega
theorem By9:n8s default=1:=by
 show n8s (.node 0 0 false [])=1;rw [n8s,n8l]
theorem Ah2 (k:Int) (a b:R8):n8s (Af7 k a b)=1+n8s a+n8s b:=by
 unfold Af7;rw [n8s,n8l,n8l,n8l];omega
theorem Ca8:G8 default:=by
 show G8 (.node 0 0 false []);rw [G8,G8s];exact ⟨.inl ⟨rfl,rfl⟩,trivial⟩
theorem An0 {k:Int} {a b:R8} (hk:k=2∨k=3) (ha:G8 a) (hb:G8 b):G8 (Af7 k a b):=by
 unfold Af7;rw [G8,G8s,G8s,G8s];exact ⟨.inr (.inr (.inl ⟨hk,rfl⟩)),ha,hb,trivial⟩
theorem Ea6 {lz:Bool} {a:R8} (ha:G8 a):G8 (.node 4 0 lz [a]):=by
 rw [G8,G8s,G8s];exact ⟨.inr (.inr (.inr ⟨rfl,rfl⟩)),ha,trivial⟩
theorem Aw1 (k:Int):∀ l:List R8,n8s (S0 k l)=if l.length=0 then 1 else n8l l+(l.length - 1)
 |[]=>by rw [S0,By9];rfl
 |[a]=>by rw [S0,n8l,n8l];simp
 |a::b::r=>by
  have e:n8l (a::b::r)=n8s a+n8l (b::r):=by rw [n8l]
  rw [S0,Ah2,Aw1 k (b::r),e];simp only [Em0];rw [Ei3 (by omega),Ei3 (by omega)];omega
theorem Bf8 {k:Int} (hk:k=2∨k=3):∀ l:List R8,(∀ t∈l,G8 t)→G8 (S0 k l)
 |[],_=>by rw [S0];exact Ca8
 |[a],h=>by rw [S0];exact h a (Ek5 ..)
 |a::b::r,h=>by
  rw [S0];exact An0 hk (h a (Ek5 ..)) (Bf8 hk (b::r) fun t ht=>h t (El3 _ ht))
theorem Dw9 (lz:Bool) (x:R8):n8s (optR lz x)=n8s x+2:=by
 unfold optR
 split<;>rw [Ah2,By9]<;>omega
theorem g8_opt {lz:Bool} {x:R8} (h:G8 x):G8 (optR lz x):=by
 unfold optR
 split
 ·exact An0 (.inr J) Ca8 h
 ·exact An0 (.inr J) h Ca8
theorem Bs8 (r:R8) (lz:Bool):∀ n,n8s (T6 r lz n)=(n+1)*(n8s r+2)+n
 |0=>by rw [T6,Dw9];omega
 |n+1=>by
  rw [T6,Dw9,Ah2,Bs8 r lz n,Es8 (n+1)];omega
theorem Cl6 {r:R8} {lz:Bool} (h:G8 r):∀ n,G8 (T6 r lz n)
 |0=>by rw [T6];exact g8_opt h
 |n+1=>by rw [T6];exact g8_opt (An0 (.inl rfl) h (Cl6 h n))
theorem Cl5 {l:List R8} (h:0<l.length):l.getD 0 default∈l:=by
 match l,h with
 |t::r,_=>exact Ek5 ..
theorem g8_core {k:Int} {s:Nat} {mn mx:Int} {lz:Bool} {l:List R8} (h:K6 k mn mx l.length) (hl:∀ t∈l,G8 t):G8 (Ag1 k s mn mx lz l):=by
 unfold Ag1
 split
 ·exact Ca8
 split
 ·rw [G8,G8s];exact ⟨.inr (.inl ⟨rfl,rfl⟩),trivial⟩
 rename_i h0 h1
 split
 ·rename_i h2
  exact hl _ (Cl5 (by rcases h with h|h|h|h|h<;>omega))
 split
 ·exact Bf8 (.inl J) l hl
 split
 ·exact Bf8 (.inr J) l hl
 rename_i h2 h4 h5
 have hn:l.length=1:=by rcases h with h|h|h|h|h<;>omega
 have h0:=hl _ (Cl5 (by omega));refine Bf8 (.inl J) _ fun t ht=>?_
 rcases El8.1 ht with ht|ht
 ·rw [(List.mem_replicate.1 ht).2];exact h0
 ·unfold Bg7 at ht
  split at ht
  ·rw [Ei6] at ht;subst ht
   match l,hn with
   |[a],_=>exact Ea6 h0
  split at ht
  ·rw [Ei6] at ht;subst ht;exact Cl6 h0 _
  ·cases ht
mutual
theorem Bv4:∀ t:R6,G6 t→G8 (Ar0 t)
 | .node k s mn mx lz l _ _,h=>by
  rw [G6] at h;rw [Ar0];exact g8_core (by rw [Ab2];exact h.1) (Bn0 l h.2)
theorem Bn0:∀ l:List R6,G6s l→∀ t∈R7 l,G8 t
 |[],_,t,ht=>by rw [R7] at ht;cases ht
 |u::r,h,t,ht=>by
  rw [G6s] at h;rw [R7] at ht
  rcases Em1.1 ht with rfl|ht
  ·exact Bv4 u h.1
  ·exact Bn0 r h.2 t ht
end
theorem sz_core {k:Int} {s:Nat} {mn mx:Int} {lz:Bool} {l:List R8} (h:K6 k mn mx l.length):n8s (Ag1 k s mn mx lz l)=if k<2 then 1 else if k=6 then
   (if mn.toNat+(if mx= -1 then 1 else 0)+(if mn<mx then 1 else 0)=0 then 1 else
    mn.toNat*n8l l+(if mx= -1 then n8l l+1 else 0)+(if mn<mx then (mx - mn).toNat*(n8l l+2)+((mx - mn).toNat - 1) else 0)+(mn.toNat+(if mx= -1 then 1 else 0)+(if mn<mx then 1 else 0) - 1))
   else n8l l+(l.length - 1):=by
 unfold Ag1
 rcases h with h|h|h|h|h
 ·rw [Ei4 h.1,Ei4 (by omega),By9]
 ·rw [Ei3 (by omega),Ei4 h.1,Ei4 (by omega),n8s,n8l]
 ·rw [Ei3 (by omega),Ei3 (by omega),Ei4 h.1,Ei3 (by omega),Ei3 (by omega),h.2]
  match l,h.2 with
  |[a],_=>simp [n8l]
 ·rw [Ei3 (by omega),Ei3 (by omega),Ei3 (by omega),Ei3 (show ¬ k<2 by omega),Ei3 (show ¬ k=6 by omega)]
  split
  ·rw [Aw1,Ei3 (by omega)]
  ·rw [Ei4 (by omega),Aw1,Ei3 (by omega)]
 ·obtain ⟨hk,hn,h1,h2,h3,h4⟩:=h
  match l,hn with
  |[a],_=>
   rw [Ei3 (by omega),Ei3 (by omega),Ei3 (by omega),Ei3 (by omega),Ei3 (by omega),Ei3 (by omega),Ei4 hk,Aw1];have e0:([a]:List R8).getD 0 default=a:=rfl;have e1:n8l [a]=n8s a:=by simp [n8l]
   rw [e0,e1,Ei8,Em4,Bs9,Bz1];unfold Bg7
   by_cases hm:mx= -1
   ·have hx:¬ mn<mx:=by omega
    simp only [Ei4 hm,Ei3 hx];have:n8l [R8.node 4 0 lz [a]]=n8s a+1:=by rw [n8l,n8l,n8s,e1];omega
    rw [this];simp only [Em5];rw [Ei3 (by omega),Ei3 (by omega)];omega
   ·by_cases hx:mn<mx
    ·simp only [Ei3 hm,Ei4 hx]
     have:n8l [T6 (([a]:List R8).getD 0 default) lz ((mx - mn).toNat - 1)]=(mx - mn).toNat*(n8s a+2)+((mx - mn).toNat - 1):=by
      rw [n8l,n8l,Bs8,e0];rw [show (mx - mn).toNat - 1+1=(mx - mn).toNat by omega];omega
     rw [this];simp only [Em5];rw [Ei3 (by omega),Ei3 (by omega)];omega
    ·simp only [Ei3 hm,Ei3 hx,n8l,Es4,Nat.add_zero]
mutual
theorem Bv3:∀ t:R6,G6 t→n8s (Ar0 t)=szR t
 | .node k s mn mx lz l _ _,h=>by
  rw [G6] at h;have hs:=Bm9 l h.2;rw [Ar0,sz_core (by rw [Ab2];exact h.1),Ab2,hs,szR]
theorem Bm9:∀ l:List R6,G6s l→n8l (R7 l)=Bg8 l
 |[],_=>by rw [R7,n8l,Bg8]
 |u::r,h=>by
  rw [G6s] at h;rw [R7,n8l,Bg8,Bv3 u h.1,Bm9 r h.2]
end
def Aj4:R8:=.node 4 0 true [.node 1 (2 ^ 256 - 1) false []]
def Aj7 (r:R8) (m:Int):R8:=if m=1 then Af7 2 r Aj4 else if m=2 then Af7 2 Aj4 r else if m=3 then Af7 2 Aj4 (Af7 2 r Aj4) else r
theorem Ca9:G8 Aj4:=by
 refine Ea6 ?_;rw [G8,G8s];exact ⟨.inr (.inl ⟨rfl,rfl⟩),trivial⟩
theorem Bz0:n8s Aj4=2:=by
 unfold Aj4;rw [n8s,n8l,n8l,n8s,n8l]
theorem g8_mode {r:R8} (h:G8 r) (m:Int):G8 (Aj7 r m):=by
 unfold Aj7
 split
 ·exact An0 (.inl J) h Ca9
 split
 ·exact An0 (.inl J) Ca9 h
 split
 ·exact An0 (.inl J) Ca9 (An0 (.inl J) h Ca9)
 ·exact h
theorem n8s_mode (r:R8) (m:Int):n8s (Aj7 r m)≤n8s r+6:=by
 unfold Aj7
 split
 ·rw [Ah2,Bz0];omega
 split
 ·rw [Ah2,Bz0];omega
 split
 ·rw [Ah2,Ah2,Bz0];omega
 ·omega
def clp (n:Nat):Int:=min 9223372036854775807 (n:Int)
theorem Av0 (a b:Nat):X4 (clp a) (clp b)=clp (a+b):=by unfold X4 clp;omega
theorem Ax9 (a:Nat):0≤clp a∧clp a≤9223372036854775807:=by unfold clp;omega
def Aj6 (m:Int):Nat:=if m=0 then 0 else if m=3 then 6 else 3
def I2 (L:List Nat) (m:Int):R8 × Int × Int:=
 if m<0∨3<m then (default,0,1)
 else if (L9 L).2.2≠0 then (default,(L9 L).2)
 else if 4096<clp (szR (L9 L).1+Aj6 m) then (default,0,3)
 else (Aj7 (Ar0 (L9 L).1) m,0,0)
theorem Av3 (L:List Nat) (m:Int) (hL:∀ b∈L,b<256) (hl:L.length≤1000) (h:(I2 L m).2.2=0):G8 (I2 L m).1∧n8s (I2 L m).1≤5000:=by
 unfold I2 at h ⊢
 split at h
 ·cases h
 rename_i h1
 rw [Ei3 h1]
 split at h
 ·rename_i h2;exact absurd h h2
 rename_i h2
 rw [Ei3 h2]
 split at h
 ·cases h
 rename_i h3
 rw [Ei3 h3];have hg:=Al3 L hL hl (by simpa using h2);refine ⟨g8_mode (Bv4 _ hg) m,?_⟩;have h4:=n8s_mode (Ar0 (L9 L).1) m;rw [Bv3 _ hg] at h4;unfold clp at h3;show n8s (Aj7 (Ar0 (L9 L).1) m)≤5000;omega
end Go.Clt
section
namespace Go.Clt
open Go Go.RowKit
inductive SameC:R8→Cor→Prop
 |empty {s z}:SameC (.node 0 s z []) .empty
 |set {s z}:SameC (.node 1 s z []) (.set s)
 |cat {s z a b x y}:SameC a x→SameC b y→SameC (.node 2 s z [a,b]) (.cat x y)
 |alt {s z a b x y}:SameC a x→SameC b y→SameC (.node 3 s z [a,b]) (.alt x y)
 |star {s z a x z'}:SameC a x→SameC (.node 4 s z [a]) (.star z' x)
inductive SameCs:List R8→List Cor→Prop
 |nil:SameCs [] []
 |cons {t u l k}:SameC t u→SameCs l k→SameCs (t::l) (u::k)
theorem SameCs.app:∀ {l k l' k'},SameCs l k→SameCs l' k'→SameCs (l++l') (k++k')
 |_,_,_,_,.nil,h=>h
 |_,_,_,_,.cons a h,h'=>.cons a (h.app h')
theorem SameCs.rep {t u} (h:SameC t u):∀ n,SameCs (List.replicate n t) (List.replicate n u)
 |0=>.nil
 |n+1=>.cons h (SameCs.rep h n)
theorem Bn7:∀ {l k},SameCs l k→SameC (S0 2 l) (Ae3 .cat k)
 |_,_,.nil=>.empty
 |_,_,.cons a .nil=>a
 |_,_,.cons a (.cons b h)=>.cat a (Bn7 (.cons b h))
theorem Cn7:∀ {l k},SameCs l k→SameC (S0 3 l) (Ae3 .alt k)
 |_,_,.nil=>.empty
 |_,_,.cons a .nil=>a
 |_,_,.cons a (.cons b h)=>.alt a (Cn7 (.cons b h))
theorem Db5 {t u} (h:SameC t u) (z:Bool):SameC (optR z t) (Bb0 u z):=by
 cases z
 ·exact .alt h .empty
 ·exact .alt .empty h
theorem Bn6 {t u} (h:SameC t u) (z:Bool):∀ n,SameC (T6 t z n) (W3 u z n)
 |0=>Db5 h z
 |n+1=>Db5 (.cat h (Bn6 h z n)) z
mutual
theorem Cn4:∀ {t u},SameS t u→G6 t→SameC (Ar0 t) (Ag2 u)
 |_,_,.node (k:=k) (s:=s) (mn:=mn) (mx:=mx) (lz:=lz) (l:=l) (l':=l') h,g=>by
  rw [G6] at g;obtain ⟨g1,g2⟩:=g;have hc:=Bv2 h g2;have hlen:=Ab2 l;rw [Ar0,Ag2];unfold Ag1;unfold K6 at g1;generalize R7 l=cs at*;generalize N0 l'=ds at*;rw [← hlen] at g1
  have one:cs.length=1→∃ c d,SameC c d∧cs=[c]∧ds=[d]:=fun h1=>by
   cases hc with
   |nil=>cases h1
   |cons a b=>
    cases b with
    |nil=>exact ⟨_,_,a,rfl,rfl⟩
    |cons b c=>simp at h1
  rcases g1 with ⟨rfl,hn⟩|⟨rfl,hn⟩|⟨hk,hn⟩|⟨hk,hn⟩|⟨rfl,hn,_⟩
  ·rw [Ei4 J,Ei3 (by decide),Ei3 (by decide),Ei3 (by decide),Ei3 (by decide),Ei3 (by decide)];exact .empty
  ·rw [Ei3 (by decide),Ei4 J,Ei4 J];exact .set
  ·obtain ⟨c,e,h1,rfl,rfl⟩:=one hn;rw [Ei3 (by omega),Ei3 (by omega),Ei4 hk,Ei3 (by omega),Ei4 hk];exact h1
  ·rcases hk with rfl|rfl
   ·rw [Ei3 (by decide),Ei3 (by decide),Ei3 (by decide),Ei4 J,Ei3 (by decide),Ei3 (by decide),Ei4 J];exact Bn7 hc
   ·rw [Ei3 (by decide),Ei3 (by decide),Ei3 (by decide),Ei3 (by decide),Ei4 J,Ei3 (by decide),Ei3 (by decide),Ei3 (by decide),Ei4 J];exact Cn7 hc
  ·obtain ⟨c,e,h1,rfl,rfl⟩:=one hn;rw [Ei3 (by decide),Ei3 (by decide),Ei3 (by decide),Ei3 (by decide),Ei3 (by decide),Ei3 (by decide),Ei3 (by decide),Ei3 (by decide),Ei3 (by decide),Ei4 J];unfold Al6 Bg7;refine Bn7 (.app (.rep h1 _) ?_)
   split
   ·exact .cons (.star h1) .nil
   ·split
    ·exact .cons (Bn6 h1 lz _) .nil
    ·exact .nil
theorem Bv2:∀ {l k},SameSs l k→G6s l→SameCs (R7 l) (N0 k)
 |_,_,.nil,_=>by rw [R7,N0];exact .nil
 |_,_,.cons a h,g=>by
  rw [G6s] at g;rw [R7,N0];exact .cons (Cn4 a g.1) (Bv2 h g.2)
end
theorem Av6:SameC Aj4 Cs2:=.star (by
 have:(2 ^ 256 - 1:Nat)=P8 0:=by decide+kernel
 rw [this]
 exact .set)
theorem Dx4 {t u} (h:SameC t u) (m:Int):SameC (Aj7 t m) (Cf7 u m):=by
 unfold Aj7 Cf7
 split
 ·exact .cat h Av6
 split
 ·exact .cat Av6 h
 split
 ·exact .cat Av6 (.cat h Av6)
 ·exact h
end Go.Clt
end
