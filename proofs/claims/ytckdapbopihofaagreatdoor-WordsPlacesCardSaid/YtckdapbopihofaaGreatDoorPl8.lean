import Derived.Test.YtckdapbopihofaaGreatDoorPl7
/- The word of any place, any word's place, and the next one (WordsPlaces). A part of that proof: Ref43, Ref44, LawW, Ref47, LawJ, LawK, LawN, Ref48, LawP, LawQ, Word7, LawR. Conditions: none beyond the statement's own. By an AI agent; no person has read it. -/
set_option linter.unusedVariables false
set_option linter.unusedSimpArgs false
set_option maxRecDepth 8000
set_option maxHeartbeats 4000000
namespace Go.Clt
open Go Go.RowKit Go.Proofs
structure RAu (F:Nat→Prop) (w:World) (t:R8) (As:Option Addr) (pf pl bt:Nat) (bf:List Nat):Prop where
 rs:Rd F w 4 As (P7 t).length (F5 (P7 t))
 ff:F pf
 first:Blk w pf (I8 (J2 t 0 (B9 t) false)) 3
 fl:F pl
 last:Blk w pl (I8 (J2 t 0 (B9 t) true)) 3
 ft:F bt
 tab:Blk w bt (X2 (B9 t) bf) 24
 rows:RowsB F w (B9 t) bf (V2 t)
theorem RAu.q {F:Nat→Prop} {w w':World} {t:R8} {As:Option Addr} {pf pl bt:Nat} {bf:List Nat} {S:List Nat} (h:RAu F w t As pf pl bt bf) (c:Chg S w w') (hS:∀ b∈S,¬ F b):RAu F w' t As pf pl bt bf:=
 ⟨h.rs.q c hS,h.ff,h.first.q c (fun hm=>hS _ hm h.ff),h.fl,h.last.q c (fun hm=>hS _ hm h.fl),h.ft,h.tab.q c (fun hm=>hS _ hm h.ft),h.rows.q c hS⟩
theorem RAu.u {F:Nat→Prop} {w w':World} {t:R8} {As:Option Addr} {pf pl bt:Nat} {bf:List Nat} (h:RAu F w t As pf pl bt bf) (c:Chg [] w w'):RAu F w' t As pf pl bt bf:=h.q c (by simp)
def Br0 (t:R8) (As:Option Addr) (cS pf pl bt:Nat):List Value:=[.slice As (P7 t).length cS,.int .i64 (O1 t),.slice (some ⟨pf,0,none⟩) (B9 t) (B9 t),.slice (some ⟨pl,0,none⟩) (B9 t) (B9 t),.slice (some ⟨bt,0,none⟩) (B9 t) (B9 t)]
theorem RAuto.open {F:Nat→Prop} {w:World} {t:R8} {cs:List Value} (h:RAuto F w t cs):∃ As cS pf pl bt bf,cs=Br0 t As cS pf pl bt∧RAu F w t As pf pl bt bf:=by
 obtain ⟨As,cS,pf,pl,bt,bs,h1,h2,h3,h4,h5,h6,h7,h8,h9⟩:=h;exact ⟨As,cS,pf,pl,bt,bs,h1,h2,h3,h4,h5,h6,h7,h8,h9⟩
def Dr9 (t:R8) (L:List Nat) (i p:Nat):Bool:=((P7 t).getD p 0).testBit (L.getD i 0)
def inF (t:R8) (f:BagF) (p:Nat) (q:Nat):Int:=(List.range q).foldl (fun a x=>W1 a (Ac2 (f x) (((V2 t).getD x []).getD p 0))) 0
theorem Cb9 (t:R8) (f:BagF) (p q:Nat):inF t f p (q+1)=W1 (inF t f p q) (Ac2 (f q) (((V2 t).getD q []).getD p 0)):=by
 unfold inF;rw [Ep7,En9,Eq1,Eq8]
theorem inF_ok (t:R8) (f:BagF) (p:Nat):∀ q,0≤inF t f p q∧inF t f p q≤9223372036854775807
 |0=>by unfold inF;rw [List.range_zero,Eq8];omega
 |q+1=>by rw [Cb9];exact M8 _ _
def Ad2 (t:R8) (L:List Nat):Nat→BagF
 |0=>fun p=>if Dr9 t L 0 p then (J2 t 0 (B9 t) false).getD p 0 else 0
 |i+1=>fun p=>if Dr9 t L (i+1) p then inF t (Ad2 t L i) p (B9 t) else 0
def Cs5 (t:R8) (L:List Nat) (i p q:Nat):Int:=if i=0 then (J2 t 0 (B9 t) false).getD p 0 else inF t (Ad2 t L (i - 1)) p q
theorem Da8 {t:R8} {L:List Nat} {i p:Nat} (h:Dr9 t L i p=true):Ad2 t L i p=Cs5 t L i p (B9 t):=by
 unfold Cs5
 cases i with
 |zero=>rw [Ad2];dsimp only;rw [Ek1 h,Ek1 rfl]
 |succ i=>rw [Ad2];dsimp only;rw [Ek1 h,Ek0 (by omega)];rfl
theorem Da7 {t:R8} {L:List Nat} {i p:Nat} (h:Dr9 t L i p=false):Ad2 t L i p=0:=by
 cases i with
 |zero=>rw [Ad2];dsimp only;rw [h];rfl
 |succ i=>rw [Ad2];dsimp only;rw [h];rfl
theorem Ds7 {t:R8} {L:List Nat} {i p q:Nat} (hg:G8 t):0≤Cs5 t L i p q∧Cs5 t L i p q≤9223372036854775807:=by
 unfold Cs5
 split
 ·exact (W6 t hg 0 (B9 t) false).2.get p
 ·exact inF_ok t _ p q
theorem Ds8 {t:R8} {L:List Nat} {i p:Nat} (hg:G8 t):0≤Ad2 t L i p∧Ad2 t L i p≤9223372036854775807:=by
 cases h:Dr9 t L i p
 ·rw [Da7 h];omega
 ·rw [Da8 h];exact Ds7 hg
def Bq5 (f:BagF) (p:Nat) (y:Int):BagF:=fun x=>if x<p then f x else if x=p then y else 0
theorem Dz5 (f:BagF) (n:Nat):Z2 (Bq5 f 0 0) n=List.replicate n 0:=by
 unfold Z2;rw [Et9];refine ⟨by simp,fun x hx=>?_⟩;obtain ⟨y,_,rfl⟩:=Eo9.1 hx;unfold Bq5;rw [Ek0 (by omega)]
 split<;>rfl
theorem De5 (f:BagF) (p n:Nat) (y z:Int) (hp:p<n):(I8 (Z2 (Bq5 f p y) n)).take p++[.int .i64 z]++(I8 (Z2 (Bq5 f p y) n)).drop (p+1)=I8 (Z2 (Bq5 f p z) n):=by
 rw [Z9 _ _ _ (by rw [G0,O3];exact hp)];apply Em4;intro j;unfold I8 Z2;simp only [En1,El8,Eo2,Eq4,Bq5]
 by_cases hj:p=j
 ·subst hj;simp [hp,Bq5]
 ·rw [Ek0 hj]
  by_cases h2:j<n
  ·simp [h2,Ne.symm hj,Bq5]
  ·simp [h2]
theorem Cl4 {f:BagF} {p:Nat} {y:Int} (n:Nat) (h:y=f p):Z2 (Bq5 f p y) n=Z2 (Bq5 f (p+1) 0) n:=by
 unfold Z2;apply Eq3;intro x hx;unfold Bq5
 by_cases h1:x<p
 ·rw [Ek1 h1,Ek1 (by omega)]
 ·by_cases h2:x=p
  ·rw [Ek0 h1,Ek1 h2,Ek1 (by omega),h2];exact h
  ·rw [Ek0 h1,Ek0 h2,Ek0 (by omega)];split<;>rfl
theorem midV_end (f:BagF) (n:Nat):Z2 (Bq5 f n 0) n=Z2 f n:=by
 unfold Z2;apply Eq3;intro x hx;unfold Bq5;rw [Ek1 (Em9.1 hx)]
def vecG (t:R8) (L:List Nat):List BagF:=(List.range L.length).map (Ad2 t L)
theorem Bx8 {t:R8} {L:List Nat} {i:Nat} (h:i<L.length):(vecG t L).getD i Q6=Ad2 t L i:=by
 unfold vecG;rw [Ek2,El8,Em7 h];rfl
theorem rvec_c (t:R8) (hg:G8 t) (hn:B9 t≤1000) (s:ByteArray) (hs:s.size≤1000) (As:Option Addr) (cS pf pl bt:Nat) (bf:List Nat) (F:Nat→Prop) (w:World) (hF:∀ x,F x→x<w.heap.size) (hU:RAu F w t As pf pl bt bf):Calls P 49 #[.agg (Br0 t As cS pf pl bt).toArray,.string s] w (Ret fun u w'=>Chg [] w w'∧∃ A c bs,u= .slice A s.size c∧Own w' w.heap.size 24 1 A s.size c (Am8 (B9 t) bs)∧bs.length=s.size∧GR w' w.heap.size bs (vecG t (B6 s)) (B9 t)):=by
 have hC:=A8 [] w;have hsl:=E5 s;have hlt:=R5 s;have hSl:=Am3 t hg;have hel:=W6 t hg 0 (B9 t) false;unfold Br0;rw [hSl];generalize hn':B9 t=n at*;refine D4 Tryz.func49 J J (Qd (B5 J (E1 J J) ?_));intro b1 w1 hb1 hs1 hx1 hB1;have hC:=hC.s0 hx1;have hU:=hU.u hx1
 refine Zc 1 J (Qd (Zc 1 J (Qa (Qd (Zc 1 J (B2 (D8 (σ:=Nat × Option Addr × Nat × List Nat) (fun (i,A,c,bs)=>[(1,.string s),(2,.pointer (some ⟨b1,0,none⟩)),(5,.slice A i c),(6,.int .i64 (i:Nat))]) (fun (i,A,c,bs) wr=>Chg [] w wr∧RAu F wr t As pf pl bt bf∧Blk wr b1 [.slice As n cS,.int .i64 (O1 t),.slice (some ⟨pf,0,none⟩) n n,.slice (some ⟨pl,0,none⟩) n n,.slice (some ⟨bt,0,none⟩) n n] 27∧Own wr (b1+1) 24 1 A i c (Am8 n bs)∧GR wr (b1+1) bs (vecG t (B6 s)) n∧bs.length=i∧i≤s.size) (fun (i,A,c,bs) wr=>s.size - i) (0,none,0,[]) ⟨rfl,rfl,rfl,rfl,trivial⟩ ?_ ?_)))))))
 ·exact ⟨hC,hU,hB1,Own.nil _ _ _ _,fun i hi=>absurd hi (by simp),rfl,El0 _⟩
 rintro ⟨i,A,c,bs⟩ w20 ⟨hC,hU,hB1,hO,hG,hbl,hi⟩
 try have hlB1:=hB1.lt
 refine Qa (Qd (Z 2 J (C9 J (E9 Tryz.underlying9 J) (Zc 1 J (A4 J (fun h1=>?_) (fun h1=>?_))))))
 ·try simp at h1
  have hil:i<s.size:=by omega
  have hbS0:∀ x∈bs,x<w20.heap.size:=fun x hx=>by obtain ⟨_,cs',hb⟩:=hG.mem hx;exact hb.lt
  refine A7 (Qa (B2 (Qd (Fa Dg1 J (Lb o23 J ‹_› (by rfl) ?_)))));refine Ln Tryz.underlying23 J (B5 J (O7 Dg6 zr3 J (cs:=I8 (List.replicate n 0)) (by omega) (by omega) (by show (madeCells #[_] (((n:Nat):Int).toNat*1)).toList=_;rw [Ek9,En8,T4];simp [I8])) ?_);intro b2 w2 hb2 hs2 hx2 hBv;have hC:=hC.s0 hx2;have hU:=hU.u hx2;have hB1:=hB1.u hx2;have hO:=hO.u hx2;have hG:=hG.u hx2;have hbS:∀ x∈bs,x<b2:=fun x hx=>by have:=hbS0 x hx;omega
  refine Zc 1 J (Qa (Qd (Zc 1 J (B2 (D8 (σ:=Nat) (fun p=>[(1,.string s),(2,.pointer (some ⟨b1,0,none⟩)),(5,.slice A i c),(6,.int .i64 (i:Nat)),(7,.slice (some ⟨b2,0,none⟩) n n),(8,.int .i64 (p:Nat))]) (fun p wr=>Chg [] w wr∧RAu F wr t As pf pl bt bf∧Blk wr b1 [.slice As n cS,.int .i64 (O1 t),.slice (some ⟨pf,0,none⟩) n n,.slice (some ⟨pl,0,none⟩) n n,.slice (some ⟨bt,0,none⟩) n n] 27∧Own wr (b1+1) 24 1 A i c (Am8 n bs)∧GR wr (b1+1) bs (vecG t (B6 s)) n∧Blk wr b2 (I8 (Z2 (Bq5 (Ad2 t (B6 s) i) p 0) n)) 3∧p≤n) (fun p wr=>n - p) 0 ⟨rfl,rfl,rfl,rfl,rfl,rfl,trivial⟩ ?_ ?_)))))
  ·exact ⟨hC,hU,hB1,hO,hG,by rw [Dz5];exact hBv,El0 _⟩
  rintro p w40 ⟨hC,hU,hB1,hO,hG,hBv,hp⟩
  try have hlB1:=hB1.lt
  refine Qa (Qd (Z 2 J (Ln Tryz.underlying24 J (Zc 1 J (A4 J (fun h2=>?_) (fun h2=>?_))))))
  ·try simp at h2
   have hpn:p<n:=by omega
   have hbS2:∀ x∈bs,x∉[b2]:=fun x hx=>by have:=hbS x hx;simp;omega
   have hOB:=hO.offBlk hBv (by decide);obtain ⟨u8,hu,hu2⟩:=I5 s i hil;have hby:=hlt _ (G9 (B6 s) 0 i (by omega));refine A7 (Qa (B2 (Qa (Qa (C8 (S:=[]) 9 [(0,0),(0,1),(0,2),(0,3),(0,4),(0,5),(0,6),(0,7),(0,8),(2,9),(2,10)] mo (by kernel_rfl) ?_)))));intro w3 hx3 hh3;have hC:=hC.s0 hx3;have hU:=hU.u hx3;have hB1:=hB1.u hx3;have hO:=hO.u hx3;have hG:=hG.u hx3;have hBv:=hBv.u hx3;obtain ⟨g,off,rfl,hFg,hltc,hcell⟩:=hU.rs.at_ (by rw [hSl];omega);refine Fa Dg1 J (D6 J (B3 o23 J ‹_› (by simp;done) (by rfl)) ?_);refine Z 1 J (D6 J (C2 Ar5 J J (by omega) (by omega)) (D6 J (J5 (vs:=C4 ((P7 t).getD p 0)) J0 J ⟨by have:=hU.rs;omega,fun j v hj=>by rw [Em3];exact hcell (p*4+j) v (by have hj4:j<4:=(Em5.1 hj).1;rw [O2 (P7 t) p j (by omega) hj4];exact hj)⟩ (by simp;done) J) ?_));refine Z 2 J (D6 J (Does.to (E7 Tryz.underlying9 J J (by omega) (by exact hu)) (J4 (show ((u8.toNat:Nat):Int)=(((B6 s).getD i 0:Nat):Int) by rw [hu2]))) ?_);refine D6 J (H4 kn5 Tryz.underlying3 J (by exact I4 (by omega))) ?_;refine Ca fb52 J (Dw1 ((P7 t).getD p 0) ((B6 s).getD i 0) hby _) ?_;rintro _ w4 ⟨rfl,hx4⟩;have hC:=hC.s0 hx4;have hU:=hU.u hx4;have hB1:=hB1.u hx4;have hO:=hO.u hx4;have hG:=hG.u hx4;have hBv:=hBv.u hx4
   refine Zc 1 J (A4 J (fun h3=>?_) (fun h3=>?_))
   ·try simp at h3
    refine Xb (Qb (Z 1 J (Ad J J (by omega) (Zc 1 J ⟨p+1,⟨rfl,rfl,rfl,rfl,rfl,rfl,trivial⟩,?_,?_⟩))));exact ⟨hC,hU,hB1,hO,hG,by rw [← Cl4 n (Da7 (by simpa [Dr9] using h3)).symm];exact hBv,hpn⟩;show n - (p+1)<n - p;omega
   ·try simp at h3
    have h3':Dr9 t (B6 s) i p=true:=by simpa [Dr9] using h3
    refine A7 (I3 (fun e9 wr=>Sub [(1,.string s),(2,.pointer (some ⟨b1,0,none⟩)),(5,.slice A i c),(6,.int .i64 (i:Nat)),(7,.slice (some ⟨b2,0,none⟩) n n),(8,.int .i64 (p:Nat))] e9∧Chg [] w wr∧RAu F wr t (some ⟨g,off,none⟩) pf pl bt bf∧Blk wr b1 [.slice (some ⟨g,off,none⟩) n cS,.int .i64 (O1 t),.slice (some ⟨pf,0,none⟩) n n,.slice (some ⟨pl,0,none⟩) n n,.slice (some ⟨bt,0,none⟩) n n] 27∧Own wr (b1+1) 24 1 A i c (Am8 n bs)∧GR wr (b1+1) bs (vecG t (B6 s)) n∧Blk wr b2 (I8 (Z2 (Bq5 (Ad2 t (B6 s) i) p (Cs5 t (B6 s) i p 0)) n)) 3) ?_ ?_)
    ·refine Qd (Zc 2 J (A4 J (fun g1=>?_) (fun g1=>?_)))
     ·try simp at g1
      refine Qb (Z 2 J (Fa fl27_2 J (Lb o24 J ‹_› (by rfl) ?_)));refine Z 1 J (C9 J (B0 T8 J J (by omega) (by omega)) (Lc o3 J (by rw [hU.first.cell,El6,hn'];exact J6 _ p (by rw [hel.1];exact hpn)) ?_));refine C9 J (B0 T8 J J (by omega) (by omega)) (Pb (cs':=(I8 (Z2 (Bq5 (Ad2 t (B6 s) i) p ((J2 t 0 n false).getD p 0)) n))) sz3 J J hBv J J J (by rw [G0,O3,Ep4];omega) (by rw [Ek9,El6];exact De5 _ _ _ _ _ hpn) ?_);intro w5 hs5 hx5 hBv;have hC:=hC.step hx5 (by simp;omega);have hU:=hU.q hx5 (by intro b hb hFb;have:=hF _ hFb;simp at hb;omega);have hB1:=hB1.q hx5 (by simp;omega);have hO:=(by exact hO.keep hx5 ‹_›);have hG:=hG.q hx5 ‹_›;refine Qc ⟨⟨rfl,rfl,rfl,rfl,rfl,rfl,trivial⟩,?_⟩;exact ⟨hC,hU,hB1,hO,hG,by unfold Cs5;rw [Ek1 (by omega),hn'];exact hBv⟩
     ·try simp at g1
      refine A7 ⟨⟨rfl,rfl,rfl,rfl,rfl,rfl,trivial⟩,?_⟩;exact ⟨hC,hU,hB1,hO,hG,by unfold Cs5;rw [Ek0 (by omega)];exact hBv⟩
    rintro e9 w50 ⟨hs9,hC,hU,hB1,hO,hG,hBv⟩;refine I2 _ hs9 ?_;clear hs9 e9
    refine Qd (Zc 1 J (B2 (D8 (σ:=Nat) (fun q=>[(1,.string s),(2,.pointer (some ⟨b1,0,none⟩)),(5,.slice A i c),(6,.int .i64 (i:Nat)),(7,.slice (some ⟨b2,0,none⟩) n n),(8,.int .i64 (p:Nat)),(9,.int .i64 (q:Nat))]) (fun q wr=>Chg [] w wr∧RAu F wr t (some ⟨g,off,none⟩) pf pl bt bf∧Blk wr b1 [.slice (some ⟨g,off,none⟩) n cS,.int .i64 (O1 t),.slice (some ⟨pf,0,none⟩) n n,.slice (some ⟨pl,0,none⟩) n n,.slice (some ⟨bt,0,none⟩) n n] 27∧Own wr (b1+1) 24 1 A i c (Am8 n bs)∧GR wr (b1+1) bs (vecG t (B6 s)) n∧Blk wr b2 (I8 (Z2 (Bq5 (Ad2 t (B6 s) i) p (Cs5 t (B6 s) i p q)) n)) 3∧q≤n) (fun q wr=>n - q) 0 ⟨rfl,rfl,rfl,rfl,rfl,rfl,rfl,trivial⟩ ?_ ?_)))
    ·exact ⟨hC,hU,hB1,hO,hG,hBv,El0 _⟩
    rintro q w60 ⟨hC,hU,hB1,hO,hG,hBv,hq⟩
    refine Qa (I3 (fun e9 wr=>Sub [(1,.string s),(2,.pointer (some ⟨b1,0,none⟩)),(5,.slice A i c),(6,.int .i64 (i:Nat)),(7,.slice (some ⟨b2,0,none⟩) n n),(8,.int .i64 (p:Nat)),(9,.int .i64 (q:Nat)),(54,.bool (decide (q<n∧0<i)))] e9∧Chg [] w wr∧RAu F wr t (some ⟨g,off,none⟩) pf pl bt bf∧Blk wr b1 [.slice (some ⟨g,off,none⟩) n cS,.int .i64 (O1 t),.slice (some ⟨pf,0,none⟩) n n,.slice (some ⟨pl,0,none⟩) n n,.slice (some ⟨bt,0,none⟩) n n] 27∧Own wr (b1+1) 24 1 A i c (Am8 n bs)∧GR wr (b1+1) bs (vecG t (B6 s)) n∧Blk wr b2 (I8 (Z2 (Bq5 (Ad2 t (B6 s) i) p (Cs5 t (B6 s) i p q)) n)) 3) ?_ ?_)
    ·refine Qb (Z 2 J (Ln Tryz.underlying24 J (Z 2 J (C0 (d:=51) J (fun g2=>?_) (fun g2=>?_)))))
     ·try simp at g2
      refine Qu J (Z 1 J (Qu J (Zc 2 J ⟨⟨rfl,rfl,rfl,rfl,rfl,rfl,rfl,(H3 J (by rw [El4,cmpB_gtr,El7];omega)),trivial⟩,?_⟩)));exact ⟨hC,hU,hB1,hO,hG,hBv⟩
     ·try simp at g2
      refine Qk J (Qk J (Zc 1 J ⟨⟨rfl,rfl,rfl,rfl,rfl,rfl,rfl,(H3 J (by rw [El3 (by omega)])),trivial⟩,?_⟩));exact ⟨hC,hU,hB1,hO,hG,hBv⟩
    rintro e9 w70 ⟨hs9,hC,hU,hB1,hO,hG,hBv⟩;refine I2 _ hs9 ?_;clear hs9 e9
    refine A4 J (fun q3=>?_) (fun q3=>?_)
    ·have q3:=Eo7 q3;have hqn:q<n:=q3.1;obtain ⟨j,rfl⟩:∃ j,i=j+1:=⟨i - 1,by omega⟩;have hOB:=hO.offBlk hBv (by decide);have hvj:∀ x,0≤Ad2 t (B6 s) j x∧Ad2 t (B6 s) j x≤9223372036854775807:=fun x=>Ds8 hg
     have hmid:∀ (f:BagF) (y:Int),Bq5 f p y p=y:=fun f y=>by unfold Bq5;rw [Ek0 (by omega),Ek1 J]
     have hy:=Ds7 (t:=t) (L:=B6 s) (i:=j+1) (p:=p) (q:=q) hg;refine A7 (Qa (B2 (C8 (S:=[]) 24 [(0,0),(0,1),(0,2),(0,3),(0,4),(0,5),(0,6),(0,7),(0,8),(0,9),(0,10),(0,11),(0,12),(0,13),(0,14),(0,15),(0,16),(0,17),(0,18),(0,19),(0,20),(0,21),(1,22),(1,23),(2,24),(2,25)] mo (by kernel_rfl) ?_)));intro w6 hx6 hh6;have hz6:=hx6.size;have hC:=hC.s0 hx6;have hU:=hU.u hx6;have hB1:=hB1.u hx6;have hO:=hO.u hx6;have hG:=hG.u hx6;have hBv:=hBv.u hx6;have hCS6:=A8 ([]) w6;obtain ⟨hne,hBq,hlq,hrq⟩:=hU.rows.row q (by omega);obtain ⟨hjl,hBj⟩:=hG j (by omega);rw [Bx8 (by omega)] at hBj;have hmq:=hrq.get p;refine Z 4 J (D6 J (B0 T8 J J (by omega) (by omega)) (D6 J (E0 o3 J (by rw [hBv.cell,El6,Ek9,J6 _ p (by rw [O3];exact hpn),Ax0 _ _ _ hpn,hmid]) (by simp;done)) ?_));obtain ⟨g9,o9,rfl,_,hlt9,hcell9⟩:=(hO.rd (F:=fun _=>True) (fun _ _ _=>trivial)).at_ (by omega);refine Z 2 J (Su J J (by omega) (D6 J (B0 Cr6 J J (by omega) (by omega)) (D6 J (E0 o24 J (by rw [show ((((j+1:Nat):Int) - 1).toNat)=j by omega];exact ((hO.rd (F:=fun _=>True) (fun _ _ _=>trivial)).one (Ac3 n bs j (by omega))).2) (by simp;done)) ?_)));refine Z 1 J (D6 J (B0 T8 J J (by omega) (by omega)) (D6 J (E0 o3 J (by rw [hBj.cell,El6,Ek9,J6 _ q (by rw [O3];exact hqn),Ax0 _ _ _ hqn]) (by simp;done)) ?_));refine Fa fl27_4 J (D6 J (B3 o25 J ‹_› (by simp;done) (by rfl)) ?_);refine Z 1 J (D6 J (B0 Cr6 J J (by omega) (by omega)) (D6 J (E0 o24 J (by rw [hU.tab.cell,El6];exact Bi6 _ bf q (by rw [hU.rows.lb];omega)) (by simp;done)) ?_));refine Z 1 J (D6 J (B0 T8 J J (by omega) (by omega)) (D6 J (E0 o3 J (by rw [hBq.cell,El6];exact J6 _ p (by omega)) (by simp;done)) ?_));refine C5 J (C3 fb50 J) (Db8 (Ad2 t (B6 s) j q) (((V2 t).getD q []).getD p 0) (hvj q).2 hmq.2 _) ?_;rintro _ _ ⟨rfl,rfl⟩;refine ⟨hCS6,?_⟩;refine C5 J (C3 Cr9 J) (Aa6 (Cs5 t (B6 s) (j+1) p q) (Ac2 (Ad2 t (B6 s) j q) (((V2 t).getD q []).getD p 0)) hy.2 (V3 _ _).2 _) ?_;rintro _ _ ⟨rfl,rfl⟩;refine ⟨hCS6,?_⟩;refine C9 J (B0 T8 J J (by omega) (by omega)) (Pb (cs':=(I8 (Z2 (Bq5 (Ad2 t (B6 s) (j+1)) p (Cs5 t (B6 s) (j+1) p (q+1))) n))) sz3 J J hBv J J J (by rw [G0,O3,Ep4];omega) (by rw [Ek9,El6];unfold Cs5;rw [Ek0 (by omega),Ek0 (by omega),Cb9];exact De5 _ _ _ _ _ hpn) ?_);intro w9 hs9 hx9 hBv;have hC:=hC.step hx9 (by simp;omega);have hU:=hU.q hx9 (by intro b hb hFb;have:=hF _ hFb;simp at hb;omega);have hB1:=hB1.q hx9 (by simp;omega);have hO:=(by exact hO.keep hx9 ‹_›);have hG:=hG.q hx9 ‹_›;refine Qc (Qb (Z 1 J (Ad J J (by omega) (Zc 1 J ⟨q+1,⟨rfl,rfl,rfl,rfl,rfl,rfl,rfl,trivial⟩,?_,?_⟩))));exact ⟨hC,hU,hB1,hO,hG,hBv,hqn⟩;show n - (q+1)<n - q;omega
    ·have q3:=Et7 q3
     have hfin:Cs5 t (B6 s) i p q=Ad2 t (B6 s) i p:=by
      rw [Da8 h3',hn'];unfold Cs5
      by_cases h0:i=0
      ·rw [Ek1 h0,Ek1 h0]
      ·rw [Ek0 h0,Ek0 h0,show q=n by omega]
     rw [hfin,Cl4 n J] at hBv;refine Xb (Qb (Z 1 J (Ad J J (by omega) (Zc 1 J ⟨p+1,⟨rfl,rfl,rfl,rfl,rfl,rfl,trivial⟩,?_,?_⟩))));exact ⟨hC,hU,hB1,hO,hG,hBv,hpn⟩;show n - (p+1)<n - p;omega
  ·try simp at h2
   have hpp:p=n:=by omega
   subst hpp;rw [midV_end] at hBv;have hGA:∀ x∈bs,x∉F7 A:=fun x hx hm=>by obtain ⟨_,cs',hb⟩:=hG.mem hx;exact hO.offBlk hb (by decide) x hm (by simp)
   have hOb:=hO.blk;have hvA:b2∉F7 A:=fun h=>hO.offBlk hBv (by decide) b2 h (by simp)
   refine Xb (Qb (Z 2 J (B5 J (B7 Cr6 Tryz.underlying25 zr24 J J J (by rfl)) ?_)));intro b10 w10 hb10 hs10 hx10 hB10;have hC:=hC.s0 hx10;have hU:=hU.u hx10;have hB1:=hB1.u hx10;have hO:=hO.u hx10;have hG:=hG.u hx10;have hBv:=hBv.u hx10;refine G1 J el25 J J hO (Blk.rd (F:=fun _=>True) ‹_› J trivial) (by rfl) (by omega) (by omega) ?_;intro A' c' w11 hO11 hx11 hA';have hC:=hC.step hx11 (by intro x h;have:=hOb x h;exact .inr (by omega));have hU:=hU.q hx11 (by intro x hx hf;have:=hOb x hx;have:=hF x hf;omega);have hB1:=hB1.q hx11 (by intro h;have:=hOb _ h;omega);have hG:=hG.q hx11 ‹_›;have hBv:=hBv.q hx11 ‹_›
   replace hO:=hO11
   refine Zc 1 J (Qb (Z 1 J (Ad J J (by omega) (Zc 1 J ⟨(i+1,A',c',bs++[b2]),⟨rfl,rfl,rfl,rfl,trivial⟩,?_,?_⟩))));refine ⟨hC,hU,hB1,?_,hG.snoc (by omega) (by rw [hbl,Bx8 (by omega)];exact hBv),by simp [hbl],hil⟩;unfold Am8;rw [Eo8];exact hO;show s.size - (i+1)<s.size - i;omega
 ·try simp at h1
  have hkk:i=s.size:=by omega
  subst hkk;exact Xb (Qd (Zc 2 J (A6 (B4 J J ⟨hC,A,c,bs,rfl,hO.lower (by omega),hbl,fun i hi=>⟨by have:=(hG i hi).1;omega,(hG i hi).2⟩⟩))))
def Dr8 (t:R8) (f:BagF) (p:Nat):Int:=(List.range p).foldl (fun a x=>W1 a (Ac2 (f x) ((J2 t 0 (B9 t) true).getD x 0))) 0
theorem Bj9 (t:R8) (f:BagF) (p:Nat):Dr8 t f (p+1)=W1 (Dr8 t f p) (Ac2 (f p) ((J2 t 0 (B9 t) true).getD p 0)):=by
 unfold Dr8;rw [Ep7,En9,Eq1,Eq8]
theorem outF_ok (t:R8) (f:BagF):∀ p,0≤Dr8 t f p∧Dr8 t f p≤9223372036854775807
 |0=>by unfold Dr8;rw [List.range_zero,Eq8];omega
 |p+1=>by rw [Bj9];exact M8 _ _
def Bx7 (t:R8) (L:List Nat):Int:=if L.length=0 then O1 t else Dr8 t (Ad2 t L (L.length - 1)) (B9 t)
theorem rways_c (t:R8) (hg:G8 t) (hn:B9 t≤1000) (s:ByteArray) (hs:s.size≤1000) (As:Option Addr) (cS pf pl bt:Nat) (bf:List Nat) (F:Nat→Prop) (w:World) (hF:∀ x,F x→x<w.heap.size) (hU:RAu F w t As pf pl bt bf):Calls P 21 #[.agg (Br0 t As cS pf pl bt).toArray,.string s] w (Ret fun u w'=>u= .int .i64 (Bx7 t (B6 s))∧Chg [] w w'):=by
 have hC:=A8 [] w;have hsl:=E5 s;have hSl:=Am3 t hg;have hel:=W6 t hg 0 (B9 t) true;have hW:Bx7 t (B6 s)=if s.size=0 then O1 t else Dr8 t (Ad2 t (B6 s) (s.size - 1)) (B9 t):=by unfold Bx7;rw [hsl]
 rw [hW];unfold Br0;refine D4 Tryz.func21 J J (Qd (B5 J (E1 J J) ?_));intro b1 w1 hb1 hs1 hx1 hB1;have hC:=hC.s0 hx1;have hU:=hU.u hx1
 refine Zc 1 J (Qa (Qd (Z 1 J (C9 J (Ae7 J J) (Qc (A4 J (fun h0=>?_) (fun h0=>?_)))))))
 ·have h0:s.size=0:=by rw [Ba8] at h0;have:=Eo7 h0;rw [← hsl,this];rfl
  refine Qd (Fa fl27_1 J (Lb o3 J ‹_› (by rfl) ?_));exact Zc 1 J (A6 (B4 J J ⟨by rw [Ek1 h0],hC⟩))
 ·have h0:¬ s.size=0:=by rw [Ba8] at h0;intro hz;refine absurd ?_ (Et7 h0);show B6 s=[];exact Eq6 (by omega)
  rw [Ek0 h0];refine A7 (Qd (La Cq4 J ‹_› J J ?_));refine Z 1 J (Ca fb49 J (rvec_c t hg hn s hs As cS pf pl bt bf F _ (fun z hz=>by have:=hF z hz;omega) hU) ?_);rintro v9 w2 ⟨hx2,A,c,bs,rfl,hO,hbl,hG⟩;have hC:=hC.s0 hx2;have hU:=hU.u hx2;have hB1:=hB1.u hx2;obtain ⟨hjl,hBj⟩:=hG (s.size - 1) (by omega);rw [Bx8 (by omega)] at hBj;have hrd:=hO.rd (F:=fun x=>x<w2.heap.size) (fun _ _ h=>h)
  refine Zc 1 J (Qd (Zc 1 J (Qa (Qd (Zc 1 J (B2 (D8 (σ:=Nat) (fun p=>[(1,.string s),(2,.pointer (some ⟨b1,0,none⟩)),(5,.slice A s.size c),(6,.int .i64 (Dr8 t (Ad2 t (B6 s) (s.size - 1)) p)),(7,.int .i64 (p:Nat))]) (fun p wr=>Chg [] w wr∧RAu F wr t As pf pl bt bf∧Blk wr b1 [.slice As (P7 t).length cS,.int .i64 (O1 t),.slice (some ⟨pf,0,none⟩) (B9 t) (B9 t),.slice (some ⟨pl,0,none⟩) (B9 t) (B9 t),.slice (some ⟨bt,0,none⟩) (B9 t) (B9 t)] 27∧Rd (fun x=>x<w2.heap.size) wr 1 A s.size (Am8 (B9 t) bs)∧Blk wr (bs.getD (s.size - 1) 0) (I8 (Z2 (Ad2 t (B6 s) (s.size - 1)) (B9 t))) 3∧p≤B9 t) (fun p wr=>B9 t - p) 0 (sb J) ?_ ?_)))))))
  ·exact ⟨hC,hU,hB1,hrd,hBj,El0 _⟩
  rintro p w40 ⟨hC,hU,hB1,hrd,hBj,hp⟩;refine Qa (Qd (Z 1 J (Fa Dg1 J (Lb o23 J ‹_› (by rfl) ?_))))
  refine Ln Tryz.underlying23 J (Zc 1 J (A4 J (fun h1=>?_) (fun h1=>?_)))
  ·try simp at h1
   have hpn:p<B9 t:=by omega
   have hy:=outF_ok t (Ad2 t (B6 s) (s.size - 1)) p;have hv:=Ds8 (t:=t) (L:=B6 s) (i:=s.size - 1) (p:=p) hg;have hl:=hel.2.get p;refine A7 (Qa (B2 (C8 (S:=[]) 16 [(0,0),(0,1),(0,2),(0,3),(0,4),(0,5),(0,6),(0,7),(0,8),(0,9),(0,10),(0,11),(0,12),(0,13),(0,14),(1,15),(2,16),(2,17)] mo (by kernel_rfl) ?_)));intro w3 hx3 hh3;have hz3:=hx3.size;have hC:=hC.s0 hx3;have hU:=hU.u hx3;have hB1:=hB1.u hx3;have hrd:=hrd.u hx3;have hBj:=hBj.u hx3;have hCS3:=A8 ([]) w3;obtain ⟨g9,o9,rfl,_,hlt9,hcell9⟩:=hrd.at_ (by omega);refine Z 3 J (D6 J (E9 Tryz.underlying9 J) (Su J J (by omega) (D6 J (B0 Cr6 J J (by omega) (by omega)) (D6 J (E0 o24 J (by rw [show ((((s.size:Nat):Int) - 1).toNat)=s.size - 1 by omega];exact (hrd.one (Ac3 _ bs (s.size - 1) (by omega))).2) (by simp;done)) ?_))));refine Z 1 J (D6 J (B0 T8 J J (by omega) (by omega)) (D6 J (E0 o3 J (by rw [hBj.cell,El6,Ek9,J6 _ p (by rw [O3];exact hpn),Ax0 _ _ _ hpn]) (by simp;done)) ?_));refine Fa fl27_3 J (D6 J (B3 o24 J ‹_› (by simp;done) (by rfl)) ?_);refine Z 1 J (D6 J (B0 T8 J J (by omega) (by omega)) (D6 J (E0 o3 J (by rw [hU.last.cell,El6];exact J6 _ p (by rw [hel.1];exact hpn)) (by simp;done)) ?_));refine C5 J (C3 fb50 J) (Db8 (Ad2 t (B6 s) (s.size - 1) p) ((J2 t 0 (B9 t) true).getD p 0) hv.2 hl.2 _) ?_;rintro _ _ ⟨rfl,rfl⟩;refine ⟨hCS3,?_⟩;refine Ca Cr9 J (Aa6 (Dr8 t (Ad2 t (B6 s) (s.size - 1)) p) (Ac2 (Ad2 t (B6 s) (s.size - 1) p) ((J2 t 0 (B9 t) true).getD p 0)) hy.2 (V3 _ _).2 _) ?_;rintro _ _ ⟨rfl,rfl⟩;refine Zc 1 J (Qb (Z 1 J (Ad J J (by omega) (Zc 1 J ⟨p+1,⟨rfl,rfl,rfl,(G2 J (by rw [Bj9])),rfl,trivial⟩,?_,?_⟩))));exact ⟨hC,hU,hB1,hrd,hBj,hpn⟩;show B9 t - (p+1)<B9 t - p;omega
  ·try simp at h1
   have hpp:p=B9 t:=by omega
   subst hpp;exact Xb (Qd (Zc 2 J (A6 (B4 J J ⟨rfl,hC⟩))))
end Go.Clt
section
namespace Go.Clt
open Go Go.RowKit
theorem Da6 (t:R8) {L M:List Nat}:∀ i,(∀ j,j≤i→L.getD j 0=M.getD j 0)→Ad2 t L i=Ad2 t M i
 |0,h=>by
  funext p
  rw [Ad2,Ad2];unfold Dr9;rw [h 0 (El1 _)]
 |i+1,h=>by
  funext p
  rw [Ad2,Ad2,Da6 t i (fun j hj=>h j (by omega))];unfold Dr9;rw [h (i+1) (El1 _)]
theorem Eb7 (t:R8) (f:BagF) (p:Nat):∀ q,0<inF t f p q↔∃ x,x<q∧0<f x∧0<((V2 t).getD x []).getD p 0
 |0=>by unfold inF;simp
 |q+1=>by
  rw [Cb9,Aq0,Ap9,Eb7 t f p q]
  constructor
  ·rintro (⟨x,h1,h2⟩|h)
   ·exact ⟨x,by omega,h2⟩
   ·exact ⟨q,by omega,h⟩
  ·rintro ⟨x,h1,h2⟩
   by_cases hx:x<q
   ·exact .inl ⟨x,hx,h2⟩
   ·have:x=q:=by omega
    subst this;exact .inr h2
theorem Dd0 (t:R8) (f:BagF):∀ q,0<Dr8 t f q↔∃ x,x<q∧0<f x∧0<(J2 t 0 (B9 t) true).getD x 0
 |0=>by unfold Dr8;simp
 |q+1=>by
  rw [Bj9,Aq0,Ap9,Dd0 t f q]
  constructor
  ·rintro (⟨x,h1,h2⟩|h)
   ·exact ⟨x,by omega,h2⟩
   ·exact ⟨q,by omega,h⟩
  ·rintro ⟨x,h1,h2⟩
   by_cases hx:x<q
   ·exact .inl ⟨x,hx,h2⟩
   ·have:x=q:=by omega
    subst this;exact .inr h2
theorem Ch7 {t:R8} {E:DE} (h:SameA t E.k E.q):∀ L:List Nat,L≠[]→∀ p,p∈Ap4 E L↔p<B9 t∧0<Ad2 t L (L.length - 1) p:=by
 suffices H:∀ R:List Nat,R≠[]→∀ p,p∈Ap4 E R.reverse↔p<B9 t∧0<Ad2 t R.reverse (R.length - 1) p by
  intro L hne p;have:=H L.reverse (by simpa using hne) p
  rwa [List.reverse_reverse,List.length_reverse] at this
 intro R
 induction R with
 |nil=>intro h;exact absurd rfl h
 |cons b r ih=>
  intro _ p;rw [List.reverse_cons]
  have hlast:(r.reverse++[b]).getD r.length 0=b:=by
   rw [Ek2,Em2 (by simp)];simp
  by_cases hr:r=[]
  ·subst hr;show p∈W9 E.k E.q b↔_;rw [Eh4,h.len,h.S];refine and_congr_right fun hp=>?_
   show _↔0<Ad2 t [b] 0 p;rw [Ad2,h.kn.first p hp];dsimp only;unfold Dr9;show (((P7 t).getD p 0).testBit b=true∧_)↔0<if ((P7 t).getD p 0).testBit b=true then _ else _
   by_cases hb:((P7 t).getD p 0).testBit b=true
   ·rw [Ek1 hb];exact ⟨fun h=>h.2,fun h=>⟨hb,h⟩⟩
   ·rw [Ek0 hb];exact iff_of_false (fun h=>hb h.1) (by omega)
  ·have hl:0<r.length:=List.length_pos_iff.2 hr;rw [Av3 E (by simpa using hr),next_mem,h.len,h.S];refine and_congr_right fun hp=>?_
   obtain ⟨j,hj⟩:∃ j,r.length=j+1:=⟨r.length - 1,by omega⟩;show _↔0<Ad2 t (r.reverse++[b]) (r.length+1 - 1) p;rw [Nat.add_sub_cancel,hj,Ad2];dsimp only;unfold Dr9;rw [← hj,hlast]
   have hpre:Ad2 t (r.reverse++[b]) j=Ad2 t r.reverse j:=Da6 t j fun m hm=>by
    rw [Ek2,Em6 (by simp;omega),← Ek2]
   rw [hpre]
   have hal:∀ x,x∈Ap4 E r.reverse↔x<B9 t∧0<Ad2 t r.reverse j x:=fun x=>by
    rw [ih hr x,hj];exact Iff.rfl
   by_cases hb:((P7 t).getD p 0).testBit b=true
   ·rw [Ek1 hb,Eb7]
    constructor
    ·rintro ⟨_,x,h1,h2⟩;obtain ⟨h3,h4⟩:=(hal x).1 h1;exact ⟨x,h3,h4,(h.fol x p h3 hp).1 h2⟩
    ·rintro ⟨x,h3,h4,h5⟩;exact ⟨hb,x,(hal x).2 ⟨h3,h4⟩,(h.fol x p h3 hp).2 h5⟩
   ·rw [Ek0 hb];exact iff_of_false (fun h=>hb h.1) (by omega)
theorem ways_law {t:R8} {E:DE} {l:List St} (hg:DGood E l) (hl:DLaw E l) (h:SameA t E.k E.q) (L:List Nat) (hL:∀ b∈L,b<256):(l.getD (Bw2 E l L) default).meant=decide (0<Bx7 t L):=by
 rw [Dz9 hg hl L hL];unfold Bx7
 by_cases h0:L.length=0
 ·rw [Ek1 h0,Ek1 h0,decide_eq_decide];exact h.kn.void
 ·rw [Ek0 h0,Ek0 h0,El4,Em0,Dd0];unfold Cy0;rw [Er1];simp only [Ek6,Em0];have hne:L≠[]:=fun he=>h0 (by rw [he];rfl)
  constructor
  ·rintro ⟨x,h1,h2,h3⟩;obtain ⟨h4,h5⟩:=(Ch7 h L hne x).1 h1;exact ⟨x,h4,h5,(h.kn.last x h4).1 h3⟩
  ·rintro ⟨x,h4,h5,h6⟩;exact ⟨x,(Ch7 h L hne x).2 ⟨h4,h5⟩,by rw [h.len];exact h4,(h.kn.last x h4).2 h6⟩
end Go.Clt
end
namespace Go.Clt
open Go Go.RowKit Go.Proofs
theorem RAu.mono {F F':Nat→Prop} {w:World} {t:R8} {As:Option Addr} {pf pl bt:Nat} {bf:List Nat} (h:RAu F w t As pf pl bt bf) (hF:∀ b,F b→b<w.heap.size→F' b):RAu F' w t As pf pl bt bf:=
 ⟨h.rs.mono hF,hF _ h.ff h.first.lt,h.first,hF _ h.fl h.last.lt,h.last,hF _ h.ft h.tab.lt,h.tab,h.rows.mono hF⟩
structure Bt (w:World) (t:R8) (k:Kn) (q:Wst) (l:List St) (pd:Nat) (As:Option Addr) (pf pl bt:Nat) (bf:List Nat):Prop where
 g8:G8 t
 pl10:B9 t≤10
 same:SameA t k q
 dfa:Dp2 k q 100=some l
 isd:IsDfa (fun x=>x<w.heap.size) w pd (Bv9 k q 100) l
 rau:RAu (fun x=>x<w.heap.size) w t As pf pl bt bf
theorem Eg8 (s:ByteArray) (m:Int) (w:World) (hL:Laid w):Calls P 28 #[.string s,.int .i64 m] w (Ret fun u w'=>Chg [] w w'∧((∃ cs:List Value,u= .tuple #[.pointer none,.agg cs.toArray,.int .i64 1]∧cs.all Value.oneCell'=true∧cs.length=5)∨∃ t k q l pd As cS pf pl bt bf,u= .tuple #[.pointer (some ⟨pd,0,none⟩),.agg (Br0 t As cS pf pl bt).toArray,.int .i64 0]∧Bt w' t k q l pd As pf pl bt bf)):=by
 have hC:=A8 [] w
 try have hz4:=hL.sz
 refine D4 Tryz.func28 J J (Qd (Z 1 J (B5 J (B8 Ds0 J) ?_)));intro b1 w1 hb1 hs1 hx1 hB1;have hL:=hL.u hx1;refine Zc 1 J (Qd (Z 2 J (Ca fb11 J (Dv7 s m _ hL) ?_)));rintro v6 w2 ⟨hx2,hno,hyes⟩;have hz2:=hx2.size;have hC:=hC.s0 (hx1.s0 hx2);have hL:=hL.u hx2;have hB1:=hB1.u hx2
 by_cases hf:Au0 (B6 s) m=true
 ·obtain ⟨cs,p,rfl,hR0,hA⟩:=hyes hf;have hA0:=Ea2 s m hf;obtain ⟨hfit,_,hG8,_,hpl⟩:=Ce0 (m:=m) (R5 s) (by unfold Au0 at hf;simp only [Ek6,Em0] at hf;exact hf.1.1);generalize T6 (S4 (B6 s) m).1=kq at*;generalize (I6 (B6 s) m).1=t at*;obtain ⟨k,q⟩:=kq;simp only [] at hA hA0;have hq:q.S.length≤10:=by rw [hA0.len];exact hpl
  obtain ⟨As,cS,pf,pl,bt,bf,rfl,hU⟩:=hR0.open;unfold Br0;have hF:∀ x,FR w1.heap.size (World.heap w2).size [] x→x<(World.heap w2).size:=fun x hx=>hx.2.1
  have hFl:∀ x,FR w1.heap.size (World.heap w2).size [] x→w1.heap.size≤x:=fun x hx=>hx.1
  generalize FR w1.heap.size (World.heap w2).size []=F at*;have hFb:∀ b∈[b1],¬ F b:=fun b hb h=>by have:=hFl b h;rw [Ek3] at hb;omega
  refine Z 4 J (B5 J (B8 Ds0 J) ?_);intro b3 w3 hb3 hs3 hx3 hB3;have hA:=hA.u hx3;have hU:=hU.u hx3;refine Z 1 J (Pe Dj9 J ‹_› J J ?_);intro w4 hs4 hx4 hB3;have hC:=hC.step (hx3.j hx4) (by simp<;>omega);have hL:=hL.q (hx3.j hx4) (by simp<;>omega);have hB1:=hB1.q (hx3.j hx4) (by simp<;>omega);have hA:=hA.q hx4 (by intro b hb hFb;have:=hF _ hFb;simp at hb;omega);have hU:=hU.q hx4 (by intro b hb hFb;have:=hF _ hFb;simp at hb;omega)
  refine Zc 1 J (Qa (Qd (Z 3 J (C0 (d:=21) J (fun g0=>?_) (fun g0=>?_)))))
  ·try simp at g0
   all_goals simp at g0
  ·try simp at g0
   refine Qu J (Fa Dg1 J (Qu J (Lb o23 J ‹_› (by rfl) ?_)))
   refine Qu J (Ln Tryz.underlying23 J (Qu J (Zc 2 J (A4 J (fun g1=>?_) (fun g1=>?_)))))
   ·try simp at g1
    refine Qa (C8 (S:=[]) 2 [(0,0),(0,1),(2,2),(2,3)] mo (by kernel_rfl) ?_);intro w5 hx5 hh5;have hB1:=hB1.u hx5;have hB3:=hB3.u hx5;refine D6 J (C1 Cq4 J ‹_› (by simp;done) J J) ?_;refine Z 1 J (Pe Dj9 J ‹_› J J ?_);intro w6 hs6 hx6 hB1;have hC:=hC.step (hx5.j hx6) (by simp<;>omega);refine Zc 1 J (A6 (H0 J J J (A5 Cq4 ‹_› J J) J ?_));exact ⟨hC,.inl ⟨_,rfl,rfl,rfl⟩⟩
   ·try simp at g1
    refine A7 (Qd (Z 1 J (Ca fb13 J (dnew_c _ p k q 100 _ hA (fun z hz=>by have:=hF z hz;omega) hL (by omega) (by omega)) ?_)));rintro v9 w7 ⟨hx7,hnone,hsome⟩;have hC:=hC.s0 hx7;have hB1:=hB1.u hx7;have hU:=hU.u hx7;have hB3:=hB3.u hx7
    by_cases hd:Dp2 k q 100=none
    ·have hv:=hnone hd;subst hv;refine Zc 5 J (Qa (Qd (Zc 2 J (E3 (rfl) (Qa (C8 (S:=[]) 2 [(0,0),(0,1),(2,2),(2,3)] mo (by kernel_rfl) ?_))))));intro w8 hx8 hh8;have hB1:=hB1.u hx8;have hB3:=hB3.u hx8;refine D6 J (C1 Cq4 J ‹_› (by simp;done) J J) ?_;refine Z 1 J (Pe Dj9 J ‹_› J J ?_);intro w9 hs9 hx9 hB1;have hC:=hC.step (hx8.j hx9) (by simp<;>omega);refine Zc 1 J (A6 (H0 J J J (A5 Cq4 ‹_› J J) J ?_));exact ⟨hC,.inl ⟨_,rfl,rfl,rfl⟩⟩
    ·obtain ⟨l,hl⟩:∃ l,Dp2 k q 100=some l:=by
      cases h:Dp2 k q 100 with
      |none=>exact absurd h hd
      |some l=>exact ⟨l,rfl⟩
     obtain ⟨pd,rfl,hD⟩:=hsome l hl;have hD:=hD.mono (F':=fun x=>w1.heap.size≤x) (fun z h _=>by rcases h with h|h;exact hFl z h;omega);refine Zc 5 J (Qa (Qd (Zc 2 J (E4 (rfl) (A7 (Qa (C8 (S:=[]) 3 [(0,0),(0,1),(0,2),(2,3),(2,4)] mo (by kernel_rfl) ?_)))))));intro w10 hx10 hh10;have hB1:=hB1.u hx10;have hU:=hU.u hx10;have hB3:=hB3.u hx10;refine Z 1 J (D6 J (C1 Cq4 J ‹_› (by simp;done) J J) ?_);refine Z 1 J (Pe Dj9 J ‹_› J J ?_);intro w11 hs11 hx11 hB1;have hC:=hC.step (hx10.j hx11) (by simp<;>omega);have hU:=hU.q hx11 ‹_›;have hD:=hD.q (hx10.j hx11) (by simp<;>omega);refine Zc 1 J (A6 (H0 J J J (A5 Cq4 ‹_› J J) J ?_));exact ⟨hC,.inr ⟨t,k,q,l,pd,As,cS,pf,pl,bt,bf,rfl,hG8,hpl,hA0,hl,hD.mono (fun z _ hz=>hz),hU.mono (fun z _ hz=>hz)⟩⟩
 ·have hf':Au0 (B6 s) m=false:=by simpa using hf
  obtain ⟨cs,rfl,hone,hlen⟩:=hno hf'
  obtain ⟨a0,a1,a2,a3,a4,rfl⟩:∃ a0 a1 a2 a3 a4,cs=[a0,a1,a2,a3,a4]:=by
   match cs,hlen with
   |[a0,a1,a2,a3,a4],_=>exact ⟨a0,a1,a2,a3,a4,rfl⟩
  refine Z 4 J (B5 J (B8 Ds0 J) ?_);intro b12 w12 hb12 hs12 hx12 hB12;refine Z 1 J (Pb (cs':=[a0,a1,a2,a3,a4]) Dj9 J J hB12 J J hone J J ?_);intro w13 hs13 hx13 hB12;have hC:=hC.step (hx12.j hx13) (by simp<;>omega);have hB1:=hB1.q (hx12.j hx13) (by simp<;>omega)
  refine Zc 1 J (Qa (Qd (Z 3 J (C0 (d:=21) J (fun w0=>?_) (fun w0=>?_)))))
  ·try simp at w0
   refine Qk J (Qk J (Qk J (Qk J (Zc 1 J (E3 J (Qa (C8 (S:=[]) 2 [(0,0),(0,1),(2,2),(2,3)] mo (by kernel_rfl) ?_)))))));intro w14 hx14 hh14;have hB1:=hB1.u hx14;have hB12:=hB12.u hx14;refine D6 J (C1 Cq4 J ‹_› (by simp;done) J J) ?_;refine Z 1 J (Pb (cs':=[a0,a1,a2,a3,a4]) Dj9 J J hB1 J J hone J J ?_);intro w15 hs15 hx15 hB1;have hC:=hC.step (hx14.j hx15) (by simp<;>omega);refine Zc 1 J (A6 (H0 J J J (A5 Cq4 ‹_› J J) J ?_));exact ⟨hC,.inl ⟨_,rfl,hone,rfl⟩⟩
  ·try simp at w0
   all_goals simp at w0
def strs (W:List (List Nat)):List Value:=W.map Ch3
theorem By5 (W:List (List Nat)) (i:Nat) (h:i<W.length):(strs W)[i]?=some (Ch3 (W.getD i [])):=by
 unfold strs;rw [El8,Ek4 h,Ek2,Ek4 h];rfl
end Go.Clt
section
namespace Go.Clt
open Go Go.RowKit
def P6 (E:DE) (l:List St):Nat→Nat→List Nat→List (List Nat)
 |0,st,w=>if (l.getD st default).meant=true then [w] else []
 |n+1,st,w=>E.bytes.flatMap fun b=>P6 E l n (J7 E l st b) (w++[b])
theorem Aj6 {E:DE} {l:List St}:∀ (n st:Nat) (w x:List Nat),x∈P6 E l n st w↔∃ v,x=w++v∧v.length=n∧(∀ b∈v,b∈E.bytes)∧(l.getD (v.foldl (J7 E l) st) default).meant=true
 |0,st,w,x=>by
  rw [P6]
  constructor
  ·intro h
   split at h
   ·rename_i hm
    rw [Ek3] at h;exact ⟨[],by rw [h,Ep1],rfl,by simp,hm⟩
   ·cases h
  ·rintro ⟨v,h1,h2,_,h4⟩;have:=Eq6 h2;subst this;have h4:(l.getD st default).meant=true:=h4;rw [Ek1 h4,h1,Ep1];exact Ek3.2 J
 |n+1,st,w,x=>by
  rw [P6,List.mem_flatMap]
  constructor
  ·rintro ⟨b,hb,h⟩;obtain ⟨v,h1,h2,h3,h4⟩:=(Aj6 n _ _ x).1 h;refine ⟨b::v,by rw [h1];simp,by simp [h2],fun c hc=>?_,h4⟩
   rcases Eo4.1 hc with rfl|hc
   ·exact hb
   ·exact h3 c hc
  ·rintro ⟨v,h1,h2,h3,h4⟩
   cases v with
   |nil=>cases h2
   |cons b v=>
    exact ⟨b,h3 b (Em1 ..),(Aj6 n _ _ x).2 ⟨v,by rw [h1];simp,by simpa using h2,fun c hc=>h3 c (Em8 _ hc),h4⟩⟩
def Lx (x y:List Nat):Prop:=∃ w b c u v,x=w++b::u∧y=w++c::v∧b<c
theorem Di3 {E:DE} {l:List St} (hb:E.bytes.Pairwise (·<·)):∀ (n st:Nat) (w:List Nat),(P6 E l n st w).Pairwise Lx
 |0,st,w=>by rw [P6];split<;>simp
 |n+1,st,w=>by
  rw [P6,List.pairwise_flatMap];refine ⟨fun b _=>Di3 hb n _ _,hb.imp fun {b c} hbc x hx y hy=>?_⟩;obtain ⟨u,h1,_⟩:=(Aj6 n _ _ x).1 hx;obtain ⟨v,h2,_⟩:=(Aj6 n _ _ y).1 hy;exact ⟨w,b,c,u,v,by rw [h1];simp,by rw [h2];simp,hbc⟩
theorem Dq3 (k:Kn) (q:Wst) (bu:Nat):(Bv9 k q bu).bytes.Pairwise (·<·):=by
 show (Ak1 (F6 q.S).1 (F6 q.S).2).Pairwise _;unfold Ak1;rw [List.pairwise_map];refine List.pairwise_lt_range.imp_of_mem fun {i j} hi hj hij=>?_
 obtain ⟨_,a2,a3⟩:=Bl3 q.S (Em9.1 hi);obtain ⟨b1,b2,_⟩:=Bl3 q.S (Em9.1 hj);obtain ⟨c,h1,h2⟩:=(Bc7 q.S).rise _ i b1 (by rw [b2];exact hij);refine Nat.lt_of_le_of_lt (Nat.le_of_not_lt fun h=>a3 c h h2) h1
end Go.Clt
end
section
namespace Go.Clt
open Go Go.RowKit
def Ah9 (bs:List Nat):Nat→List (List Nat)
 |0=>[[]]
 |n+1=>bs.flatMap fun b=>(Ah9 bs n).map (b::·)
theorem Bg2 (bs:List Nat):∀ n,(Ah9 bs n).length=bs.length ^ n
 |0=>rfl
 |n+1=>by
  rw [Ah9]
  have key:∀ r:List Nat,(r.flatMap fun b=>(Ah9 bs n).map (b::·)).length=r.length*bs.length ^ n:=by
   intro r
   induction r with
   |nil=>simp
   |cons b r ih=>rw [Eo0,Ek5,ih,Eo2,Bg2 bs n,En2,Es8,Nat.add_comm]
  rw [key,Nat.pow_succ,Nat.mul_comm]
theorem Df6 {α β:Type} (f:α→List β) (m:Nat) (hf:∀ a,(f a).length=m):∀ (r:List α) (d i:Nat) (x:α),r[d]?=some x→i<m→(r.flatMap f)[d*m+i]?=(f x)[i]?
 |[],d,i,x,h,hi=>by simp at h
 |a::r,0,i,x,h,hi=>by
  simp only [Et2,Option.some.injEq] at h;subst h;rw [Eo0,Eu9,El6,Em6 (by rw [hf];exact hi)]
 |a::r,d+1,i,x,h,hi=>by
  rw [Eo0,Em2 (by rw [hf,Es8];omega),hf];rw [show (d+1)*m+i - m=d*m+i by rw [Es8];omega];exact Df6 f m hf r d i x (by simpa using h) hi
def Ad7 (B:Nat):List Nat→Nat
 |[]=>0
 |d::a=>d*B ^ a.length+Ad7 B a
theorem Cs6 (B:Nat):∀ a:List Nat,(∀ d∈a,d<B)→Ad7 B a<B ^ a.length
 |[],_=>by simp [Ad7]
 |d::a,h=>by
  have h1:=h d (Em1 ..);have h2:=Cs6 B a fun x hx=>h x (Em8 _ hx)
  rw [Ad7,En2,Nat.pow_succ,Nat.mul_comm (B ^ a.length) B];have:(d+1)*B ^ a.length≤B*B ^ a.length:=Nat.mul_le_mul_right _ h1;rw [Es8] at this;omega
theorem Bx9 (B:Nat):∀ a b:List Nat,Ad7 B (a++b)=Ad7 B a*B ^ b.length+Ad7 B b
 |[],b=>by simp [Ad7]
 |d::a,b=>by
  rw [Ek7,Ad7,Ad7,Bx9 B a b,Ek5,Nat.pow_add,Nat.add_mul,Nat.mul_assoc,Em3]
theorem Bh6 (B:Nat):∀ n,Ad7 B (List.replicate n 0)=0
 |0=>rfl
 |n+1=>by rw [Es5,Ad7,Bh6 B n,Eu9]
theorem Db5 (bs:List Nat):∀ a:List Nat,(∀ d∈a,d<bs.length)→(Ah9 bs a.length)[Ad7 bs.length a]?=some (a.map fun d=>bs.getD d 0)
 |[],_=>rfl
 |d::a,h=>by
  have h1:=h d (Em1 ..);have h0:=fun x hx=>h x (Em8 _ hx)
  have h2:=Cs6 bs.length a h0;rw [En2,Ah9,Ad7,Df6 _ (bs.length ^ a.length) (fun b=>by rw [Eo2,Bg2]) bs d _ bs[d] (Ek4 h1) h2,El8,Db5 bs a h0,En3,Ek2,Ek4 h1];rfl
theorem Bo9 {E:DE} {l:List St}:∀ (n st:Nat) (w:List Nat),P6 E l n st w=((Ah9 E.bytes n).filter fun v=>(l.getD (v.foldl (J7 E l) st) default).meant).map (w++·)
 |0,st,w=>by
  rw [P6,Ah9]
  by_cases h:(l.getD st default).meant=true
  ·rw [Ek1 h,List.filter_cons_of_pos (by exact h)];simp
  ·rw [Ek0 h,List.filter_cons_of_neg (by exact h)];simp
 |n+1,st,w=>by
  rw [P6,Ah9,List.filter_flatMap,List.map_flatMap]
  congr 1
  funext b
  rw [Bo9 n,List.filter_map,List.map_map];apply Eq3;intro v _;simp
theorem Eh8 {t:R8} {E:DE} {l:List St} (hlaw:∀ L:List Nat,(∀ b∈L,b<256)→(l.getD (Bw2 E l L) default).meant=decide (0<Bx7 t L)) (hby:∀ b∈E.bytes,b<256) (n:Nat):P6 E l n 0 []=(Ah9 E.bytes n).filter fun v=>decide (0<Bx7 t v):=by
 rw [Bo9];have hm:∀ L:List (List Nat),L.map ([]++·)=L:=fun L=>by simp
 rw [hm];apply List.filter_congr;intro v hv;refine hlaw v ?_
 have key:∀ n v,v∈Ah9 E.bytes n→∀ b∈v,b∈E.bytes:=by
  intro n
  induction n with
  |zero=>intro v hv;rw [Ah9,Ek3] at hv;subst hv;simp
  |succ n ih=>
   intro v hv;rw [Ah9,List.mem_flatMap] at hv;obtain ⟨b,hb,hv⟩:=hv;obtain ⟨u,hu,rfl⟩:=Eo9.1 hv;intro c hc
   rcases Eo4.1 hc with rfl|hc
   ·exact hb
   ·exact ih u hu c hc
 exact fun b hb=>hby b (key n v hv b hb)
theorem Df5 (g:Nat→Nat):∀ (r:List Nat) (s:Nat),r.foldl (fun s b=>Av6 [s,min 9223372036854775807 ((g b:Nat):Int)]) (min 9223372036854775807 (s:Int))=min 9223372036854775807 (((s+(r.map g).sum:Nat)):Int)
 |[],s=>by simp
 |b::r,s=>by
  rw [Eq1,Aw0 _ _ (by omega) (by omega)];have:W1 (min 9223372036854775807 (s:Int)) (min 9223372036854775807 ((g b:Nat):Int))=min 9223372036854775807 ((s+g b:Nat):Int):=by unfold W1;omega
  rw [this,Df5 g r (s+g b),En3,List.sum_cons,Em3]
theorem Dh4 {E:DE} {l:List St} (hg:DGood E l):∀ (n st:Nat) (w:List Nat),st<l.length→(X3 E l n).getD st 0=min 9223372036854775807 ((P6 E l n st w).length:Int)
 |0,st,w,hst=>by
  have:(X3 E l 0).getD st 0=if (l.getD st default).meant=true then 1 else 0:=by
   show (Br4 l).getD st 0=_;unfold Br4;rw [Ek2,El8,Ek4 hst,Ek2,Ek4 hst];rfl
  rw [this,P6]
  split
  ·show (1:Int)=min 9223372036854775807 1;omega
  ·show (0:Int)=min 9223372036854775807 0;omega
 |n+1,st,w,hst=>by
  have:(X3 E l (n+1)).getD st 0=E.bytes.foldl (fun s b=>Av6 [s,(X3 E l n).getD (J7 E l st b) 0]) 0:=by
   show (Dm6 E l (X3 E l n)).getD st 0=_;unfold Dm6;rw [Ek2,El8,Em7 hst];rfl
  rw [this,P6,List.length_flatMap]
  have key:∀ (r:List Nat) (s:Int),(∀ b∈r,b<256)→r.foldl (fun s b=>Av6 [s,(X3 E l n).getD (J7 E l st b) 0]) s=r.foldl (fun s b=>Av6 [s,min 9223372036854775807 (((P6 E l n (J7 E l st b) (w++[b])).length:Nat):Int)]) s:=by
   intro r
   induction r with
   |nil=>intro s _;rfl
   |cons b r ih=>
    intro s hb;rw [Eq1,Eq1,Dh4 hg n _ (w++[b]) (Y8 hg hst (hb b (Em1 ..)))];exact ih _ fun x hx=>hb x (Em8 _ hx)
  rw [key _ _ hg.by_];have:=Df5 (fun b=>(P6 E l n (J7 E l st b) (w++[b])).length) E.bytes 0;rw [El6] at this;exact this
end Go.Clt
end
namespace Go.Clt
open Go Go.RowKit Go.Proofs
section
section
variable {P:Program} {n:Nat} {e:Env} {w:World} {t:TypeId} {p:String} {af:Array Edge} {dst:Option Tmp} {g:Option (Nat × Bool)} {φ:World→Prop}
theorem Cg1 {τ:TypeId} {sz:Nat} {x y z:Operand} {b o m c:Nat} {k k2:IntKind} {i j:Nat} (ht:slB P τ sz=true) (hx:ev e x=some (.slice (some ⟨b,o,none⟩) m c)) (hy:ev e y=some (.int k (i:Nat))) (hz:ev e z=some (.int k2 (j:Nat))) (hij:i≤j) (hj:j≤c) (hic:i<c):
  Does P n e ⟨dst,.slice τ x (some y) (some z) none,t,p,af,g⟩ φ (.slice (some ⟨b,o+i*sz,none⟩) (j - i) (c - i)):=fun a w ha _=>by
 obtain ⟨el,inf,hu,hi,hs⟩:=Bg1 ht;have h:(0:Int)≤(i:Int)∧(i:Int)≤(j:Int):=⟨by omega,by omega⟩;have h1:(0:Int)≤(j:Int)∧(j:Int)≤(c:Int):=⟨by omega,by omega⟩;have h3:¬ c=i:=by omega
 simp [execOp,ha.ev hx,ha.ev hy,ha.ev hz,Instr.sliceAt,Instr.slice,run_underlying hu,Instr.sliceBounds,Instr.sliceBound,asIntOf,h,h1,hij,hj,sizeOf,typeInfo,hi,hs,h3,Addr.add]
end
theorem Rd.sub {F:Nat→Prop} {w:World} {b o n i:Nat} {cs:List Value} {v:Value} (h:Rd F w 1 (some ⟨b,o,none⟩) n cs) (hi:cs[i]?=some v) (hin:i<n):Rd F w 1 (some ⟨b,o+i*1,none⟩) 1 [v]:=by
 obtain ⟨g,off,hA,hF,hlt,hc⟩:=h.at_ (by omega);injection hA with hA
 injection hA with h1 h2
 subst h1 h2;refine ⟨rfl,fun _=>⟨b,o+i*1,rfl,hF,hlt,fun j u hj=>?_⟩⟩
 have hj0:j=0:=by
  rcases Nat.eq_zero_or_pos j with h|h
  ·exact h
  ·rw [El5 (by simp;omega)] at hj;cases hj
 subst hj0;have:u=v:=by simpa using hj.symm
 subst this;rw [En8,Ev1];exact hc i u hi
def posF (t:R8) (v:List Nat):Bool:=decide (0<Bx7 t v)
def Bq2 (t:R8) (E:DE) (n c:Nat):List (List Nat):=((Ah9 E.bytes n).take c).filter (posF t)
def As6 (E:DE) (a:List Nat):List Nat:=a.map fun d=>E.bytes.getD d 0
theorem Dx5 {t:R8} {E:DE} {a:List Nat} (h:∀ d∈a,d<E.bytes.length):Bq2 t E a.length (Ad7 E.bytes.length a+1)=Bq2 t E a.length (Ad7 E.bytes.length a)++(if 0<Bx7 t (As6 E a) then [As6 E a] else []):=by
 unfold Bq2;rw [Ep9,Db5 E.bytes a h,Eq5]
 congr 1
 show [As6 E a].filter (posF t)=_;unfold posF
 split
 ·rename_i hw;rw [List.filter_cons_of_pos (by exact El2 hw)];rfl
 ·rename_i hw;rw [List.filter_cons_of_neg (by simpa using hw)];rfl
theorem outC_len (t:R8) (E:DE) (n c:Nat):(Bq2 t E n c).length≤c:=by
 unfold Bq2;exact En6 (Es9 _ _) (by rw [Et5];omega)
theorem Ch1 (a:List Nat) (j:Nat) (hj:0<j) (hl:j≤a.length) (v:Nat):(P3 (a.take j++List.replicate (a.length - j) 0)).take (j - 1)++[Value.int .i64 ((v:Nat):Int)]++(P3 (a.take j++List.replicate (a.length - j) 0)).drop (j - 1+1)=P3 (a.take (j - 1)++v::List.replicate (a.length - j) 0):=by
 have h1:a.take j=a.take (j - 1)++[a.getD (j - 1) 0]:=by
  have:=Ep9 (l:=a) (i:=j - 1);rw [show j - 1+1=j by omega] at this;rw [this,Ek4 (by omega),Ek2,Ek4 (by omega)];rfl
 have h2:(P3 (a.take (j - 1))).length=j - 1:=by unfold P3;rw [Eo2,Et5];omega
 have h4:a.take j++List.replicate (a.length - j) 0=a.take (j - 1)++([a.getD (j - 1) 0]++List.replicate (a.length - j) 0):=by rw [h1,List.append_assoc]
 rw [h4];have h3:P3 (a.take (j - 1)++([a.getD (j - 1) 0]++List.replicate (a.length - j) 0))=P3 (a.take (j - 1))++(Value.int .i64 ((a.getD (j - 1) 0:Nat):Int)::P3 (List.replicate (a.length - j) 0)):=by unfold P3;simp
 rw [h3,List.take_append_of_le_length (by omega),En0 (by omega),List.drop_append,h2,List.drop_eq_nil_of_le (by omega),show j - 1+1 - (j - 1)=1 by omega];unfold P3;simp
theorem Eh9 (t:R8) (k:Kn) (q:Wst) (E:DE) (l:List St) (pd:Nat) (n:Nat) (hg8:G8 t) (hpl:B9 t≤10) (hn:n≤100) (hBn:E.bytes.length ^ n≤5000) (As:Option Addr) (cS pf pl bt:Nat) (bf:List Nat) (G:Nat→Prop) (w:World) (hG:∀ x,G x→x<w.heap.size) (hD:IsDfa G w pd E l) (hU:RAu G w t As pf pl bt bf):
  Calls P 31 #[.pointer (some ⟨pd,0,none⟩),.agg (Br0 t As cS pf pl bt).toArray,.int .i64 (n:Nat),.int .i64 10000] w (Ret fun u w'=>Chg [] w w'∧∃ Ao co,u= .slice Ao ((Ah9 E.bytes n).filter (posF t)).length co∧Own w' w.heap.size 9 1 Ao ((Ah9 E.bytes n).filter (posF t)).length co (strs ((Ah9 E.bytes n).filter (posF t)))):=by
 have hC:=A8 [] w;have hg:=hD.good;have hB0:0<E.bytes.length:=by rw [hg.bl];have:=hg.fv 0 (by omega);omega
 have hby:=hg.by_;have hBl:E.bytes.length≤256:=by rw [hg.bl];exact hg.nb
 unfold Br0;refine D4 Tryz.func31 J J (Qd (B5 J (E1 J J) ?_));intro b1 w1 hb1 hs1 hx1 hB1;have hD:=hD.u hx1;refine Zc 1 J (Qd (Z 1 J (Ca fb22 J (Cf0 G pd E l _ (fun x hx=>by have:=hG x hx;omega) hD) ?_)));rintro _ w2 ⟨hx2,Ab,cb,rfl,hO9⟩;have hz2:=hx2.size;have hcap:=hO9.cap;have hH:=hO9.rd (F:=fun x=>x<(World.heap w2).size) (fun _ _ h=>h);generalize hz0d:(World.heap w2).size=hz0 at*;have hwz:w.heap.size≤hz0:=by omega
 have hF:∀ x,G x→x<hz0:=fun x hx=>by have:=hG x hx;omega
 obtain ⟨gB,oB,rfl,_,_,_⟩:=hH.at_ (by omega);refine Zc 1 J (Qd (Zc 1 J (Qd (Z 1 J (B5 J (O7 Dg6 zr3 J (cs:=P3 (List.replicate n 0)) (by omega) (by omega) (by show (madeCells #[_] (((n:Nat):Int).toNat*1)).toList=_;rw [Ek9,En8,T4];simp [P3])) ?_)))));intro b3 w3 hb3 hs3 hx3 hBA;have hC:=hC.s0 ((hx1.s0 hx2).s0 hx3);have hU:=hU.u ((hx1.s0 hx2).s0 hx3);have hB1:=hB1.u (hx2.s0 hx3);have hH:=hH.u hx3;have hzero:=Bh6 E.bytes.length n
 refine Zc 1 J (Qa (B2 (D8 (σ:=List Nat × Option Addr × Nat) (fun (a,Ao,co)=>[(2,.int .i64 (n:Nat)),(3,.int .i64 10000),(5,.pointer (some ⟨b1,0,none⟩)),(9,.slice (some ⟨gB,oB,none⟩) E.bytes.length cb),(10,.slice Ao (Bq2 t E n (Ad7 E.bytes.length a)).length co),(11,.slice (some ⟨b3,0,none⟩) n n)]) (fun (a,Ao,co) wr=>Chg [] w wr∧RAu G wr t As pf pl bt bf∧Blk wr b1 [.slice As (P7 t).length cS,.int .i64 (O1 t),.slice (some ⟨pf,0,none⟩) (B9 t) (B9 t),.slice (some ⟨pl,0,none⟩) (B9 t) (B9 t),.slice (some ⟨bt,0,none⟩) (B9 t) (B9 t)] 27∧Rd (fun x=>x<hz0) wr 1 (some ⟨gB,oB,none⟩) E.bytes.length (bys E.bytes)∧hz0≤wr.heap.size∧Own wr hz0 9 1 Ao (Bq2 t E n (Ad7 E.bytes.length a)).length co (strs (Bq2 t E n (Ad7 E.bytes.length a)))∧Blk wr b3 (P3 a) 3∧a.length=n∧(∀ d∈a,d<E.bytes.length)) (fun (a,Ao,co) wr=>E.bytes.length ^ n - Ad7 E.bytes.length a) (List.replicate n 0,none,0) ⟨rfl,rfl,rfl,rfl,(R0 J (by rw [hzero];rfl)),rfl,trivial⟩ ?_ ?_)))
 ·refine ⟨hC,hU,hB1,hH,by omega,?_,hBA,by simp,fun d hd=>by rw [(List.mem_replicate.1 hd).2];exact hB0⟩;rw [hzero];exact Own.nil _ _ _ _
 rintro ⟨a,Ao,co⟩ w20 ⟨hC,hU,hB1,hH,hz20,hO,hBA,hal,had⟩;have hvl:=Cs6 E.bytes.length a had;rw [hal] at hvl;have hol:=outC_len t E n (Ad7 E.bytes.length a)
 refine Qa (Qd (Z 1 J (Ln Tryz.underlying49 J (Z 3 J (C0 (d:=23) J (fun g1=>?_) (fun g1=>?_))))))
 ·try simp at g1
  refine Qu J (Z 1 J (Qu J (Ln Tryz.underlying44 J (Qu J (Zc 2 J (A4 J (fun g2=>?_) (fun g2=>?_)))))))
  ·try simp at g2
   refine A7 (B2 (Qd (Zc 1 J (Qa (Qd (Zc 1 J (B2 (D8 (σ:=Nat) (fun i=>[(2,.int .i64 (n:Nat)),(3,.int .i64 10000),(5,.pointer (some ⟨b1,0,none⟩)),(9,.slice (some ⟨gB,oB,none⟩) E.bytes.length cb),(10,.slice Ao (Bq2 t E n (Ad7 E.bytes.length a)).length co),(11,.slice (some ⟨b3,0,none⟩) n n),(12,.string (As7 (As6 E (a.take i)))),(13,.int .i64 (i:Nat))]) (fun i wr=>Chg [] w wr∧RAu G wr t As pf pl bt bf∧Blk wr b1 [.slice As (P7 t).length cS,.int .i64 (O1 t),.slice (some ⟨pf,0,none⟩) (B9 t) (B9 t),.slice (some ⟨pl,0,none⟩) (B9 t) (B9 t),.slice (some ⟨bt,0,none⟩) (B9 t) (B9 t)] 27∧Rd (fun x=>x<hz0) wr 1 (some ⟨gB,oB,none⟩) E.bytes.length (bys E.bytes)∧hz0≤wr.heap.size∧Own wr hz0 9 1 Ao (Bq2 t E n (Ad7 E.bytes.length a)).length co (strs (Bq2 t E n (Ad7 E.bytes.length a)))∧Blk wr b3 (P3 a) 3∧i≤n) (fun i wr=>n - i) 0 (sb J) ?_ ?_))))))))
   ·exact ⟨hC,hU,hB1,hH,by omega,hO,hBA,El0 _⟩
   rintro i w30 ⟨hC,hU,hB1,hH,hz30,hO,hBA,hi⟩
   try have hlBA:=hBA.lt
   refine Qa (Qd (Zc 3 J (A4 J (fun h1=>?_) (fun h1=>?_))))
   ·try simp at h1
    have hin:i<n:=by omega
    have hdi:=had _ (G9 a 0 i (by omega));have hbi:=hby _ (G9 E.bytes 0 (a.getD i 0) hdi);have hs1:=Af6 (As6 E (a.take i));have hs2:(As7 [E.bytes.getD (a.getD i 0) 0]).size=1:=Af6 _;have hs3:(As6 E (a.take i)).length=i:=by unfold As6;rw [Eo2,Et5];omega
    have hnx:As6 E (a.take i)++[E.bytes.getD (a.getD i 0) 0]=As6 E (a.take (i+1)):=by
     unfold As6;rw [Ep9,Ek4 (by omega),Eo8,Ek2 (l:=a),Ek4 (by omega)];rfl
    refine A7 (Qa (B2 (C8 (S:=[]) 13 [(0,0),(0,1),(0,2),(0,3),(0,4),(0,5),(0,6),(0,7),(0,8),(0,9),(0,10),(0,11),(1,12),(2,13),(2,14)] mo (by kernel_rfl) ?_)));intro w4 hx4 hh4;have hC:=hC.s0 hx4;have hU:=hU.u hx4;have hB1:=hB1.u hx4;have hH:=hH.u hx4;have hO:=hO.u hx4;have hBA:=hBA.u hx4;have hCS4:=A8 ([]) w4;refine Z 4 J (D6 J (B0 T8 J J (by omega) (by omega)) (D6 J (E0 o3 J (by rw [hBA.cell,El6];exact Y6 a i (by omega)) (by simp;done)) ?_));refine Z 2 J (D6 J (B0 T8 J J (by omega) (by omega)) (D6 J (E0 o3 J (by rw [hBA.cell,El6];exact Y6 a i (by omega)) (by simp;done)) ?_));refine D6 J ((Bq1 J J (by omega)).to (J4 (show ((a.getD i 0:Nat):Int)+1=((a.getD i 0+1:Nat):Int) by omega))) ?_;refine D6 J ((Cg1 Al4 J J J (by omega) (by omega) (by omega)).to (congrArg (fun z=>Value.slice (some ⟨gB,oB+a.getD i 0*1,none⟩) z (cb - a.getD i 0)) (show a.getD i 0+1 - a.getD i 0=1 by omega))) ?_;refine Cq8 J (Ab8 (l:=[E.bytes.getD (a.getD i 0) 0]) (F:=fun _=>True) J J (fun x hx=>by rw [Ek3] at hx;rw [hx];exact hbi) (Rd.mono (hH.sub (Au9 E.bytes _ hdi) hdi) (fun _ _ _=>trivial))) ‹_› ?_;refine C9 J ((Ba2 J J (by omega)).to (congrArg Value.string ((Ad6 _ _).trans (by rw [hnx])))) ?_;refine Zc 1 J (Qb (Z 1 J (Ad J J (by omega) (Zc 1 J ⟨i+1,sb J,?_,?_⟩))));exact ⟨hC,hU,hB1,hH,by omega,hO,hBA,hin⟩;show n - (i+1)<n - i;omega
   ·try simp at h1
    have hii:i=n:=by omega
    rw [hii,En0 (by omega)];have hsz:=Af6 (As6 E a);have hsl:(As6 E a).length=n:=by unfold As6;rw [Eo2];exact hal
    have hw8:∀ b∈As6 E a,b<256:=fun b hb=>by
     obtain ⟨d,hd,rfl⟩:=Eo9.1 hb;exact hby _ (G9 E.bytes 0 d (had d hd))
    have hos:=Dx5 (t:=t) had;rw [hal] at hos
    refine Xb (I3 (fun e9 wr=>∃ A2 c2,Sub [(2,.int .i64 (n:Nat)),(3,.int .i64 10000),(5,.pointer (some ⟨b1,0,none⟩)),(9,.slice (some ⟨gB,oB,none⟩) E.bytes.length cb),(10,.slice A2 (Bq2 t E n (Ad7 E.bytes.length a+1)).length c2),(11,.slice (some ⟨b3,0,none⟩) n n)] e9∧Chg [] w wr∧RAu G wr t As pf pl bt bf∧Blk wr b1 [.slice As (P7 t).length cS,.int .i64 (O1 t),.slice (some ⟨pf,0,none⟩) (B9 t) (B9 t),.slice (some ⟨pl,0,none⟩) (B9 t) (B9 t),.slice (some ⟨bt,0,none⟩) (B9 t) (B9 t)] 27∧Rd (fun x=>x<hz0) wr 1 (some ⟨gB,oB,none⟩) E.bytes.length (bys E.bytes)∧hz0≤wr.heap.size∧Own wr hz0 9 1 A2 (Bq2 t E n (Ad7 E.bytes.length a+1)).length c2 (strs (Bq2 t E n (Ad7 E.bytes.length a+1)))∧Blk wr b3 (P3 a) 3) ?_ ?_)
    ·refine Qd (La Cq4 J ‹_› J J ?_);refine Z 1 J (Ca fb21 J (rways_c t hg8 (by omega) (As7 (As6 E a)) (by omega) As cS pf pl bt bf G _ (fun z hz=>by have:=hG z hz;omega) hU) ?_);rintro _ w5 ⟨rfl,hx5⟩;have hz5:=hx5.size;have hC:=hC.s0 hx5;have hU:=hU.u hx5;have hB1:=hB1.u hx5;have hH:=hH.u hx5;have hO:=hO.u hx5;have hBA:=hBA.u hx5
     refine Zc 1 J (A4 J (fun m1=>?_) (fun m1=>?_))
     ·rw [Ag0 _ hw8,cmpB_gtr] at m1;rw [Ek1 m1] at hos;have hOb:=hO.blk;have hOA:=hO.offBlk hBA (by decide);have hbaA:b3∉F7 Ao:=fun h=>hOA b3 h (by simp)
      have hb1A:b1∉F7 Ao:=fun h=>by have:=(hOb _ h).1;omega
      refine Qb (Z 2 J (B5 J (B7 sl49 Tryz.underlying49 zr9 J J J (by rfl)) ?_));intro b6 w6 hb6 hs6 hx6 hB6;have hC:=hC.s0 hx6;have hU:=hU.u hx6;have hB1:=hB1.u hx6;have hH:=hH.u hx6;have hO:=hO.u hx6;have hBA:=hBA.u hx6;refine G1 J el49 J J hO (Blk.rd (F:=fun _=>True) ‹_› J trivial) (by rfl) (by omega) (by omega) ?_;intro A' c' w7 hO7 hx7 hA';have hz7:=hx7.size;have hC:=hC.step hx7 (by intro x h;have:=hOb x h;exact .inr (by omega));have hU:=hU.q hx7 (by intro x hx hf;have:=hOb x hx;have:=hF x hf;omega);have hB1:=hB1.q hx7 ‹_›;have hH:=hH.q hx7 (by intro x h;have:=hOb x h;first|omega|exact .inr (by omega));have hBA:=hBA.q hx7 ‹_›
      replace hO:=hO7
      refine Zc 1 J ⟨A',c',⟨rfl,rfl,rfl,rfl,(R0 J (by rw [hos,Ek5];rfl)),rfl,trivial⟩,?_⟩;refine ⟨hC,hU,hB1,hH,by omega,?_,hBA⟩;rw [hos,Ek5];unfold strs;rw [Eo8];exact hO
     ·rw [Ag0 _ hw8,cmpB_gtrF] at m1;rw [Ek0 (by omega),Ep1] at hos;refine A7 ⟨Ao,co,⟨rfl,rfl,rfl,rfl,(R0 J (by rw [hos])),rfl,trivial⟩,?_⟩;exact ⟨hC,hU,hB1,hH,by omega,by rw [hos];exact hO,hBA⟩
    rintro e9 w50 ⟨A2,c2,hs9,hC,hU,hB1,hH,hz50,hO,hBA⟩;refine I2 _ hs9 ?_;clear hs9 e9
    refine Qd (Z 1 J (Su J J (by omega) (Zc 1 J (Qa (B2 (D8 (σ:=Nat) (fun jn=>[(2,.int .i64 (n:Nat)),(3,.int .i64 10000),(5,.pointer (some ⟨b1,0,none⟩)),(9,.slice (some ⟨gB,oB,none⟩) E.bytes.length cb),(10,.slice A2 (Bq2 t E n (Ad7 E.bytes.length a+1)).length c2),(11,.slice (some ⟨b3,0,none⟩) n n),(14,.int .i64 ((jn:Int) - 1))]) (fun jn wr=>Chg [] w wr∧RAu G wr t As pf pl bt bf∧Blk wr b1 [.slice As (P7 t).length cS,.int .i64 (O1 t),.slice (some ⟨pf,0,none⟩) (B9 t) (B9 t),.slice (some ⟨pl,0,none⟩) (B9 t) (B9 t),.slice (some ⟨bt,0,none⟩) (B9 t) (B9 t)] 27∧Rd (fun x=>x<hz0) wr 1 (some ⟨gB,oB,none⟩) E.bytes.length (bys E.bytes)∧hz0≤wr.heap.size∧Own wr hz0 9 1 A2 (Bq2 t E n (Ad7 E.bytes.length a+1)).length c2 (strs (Bq2 t E n (Ad7 E.bytes.length a+1)))∧Blk wr b3 (P3 (a.take jn++List.replicate (a.length - jn) 0)) 3∧Ad7 E.bytes.length a+1=(Ad7 E.bytes.length (a.take jn)+1)*E.bytes.length ^ (a.length - jn)∧jn≤n) (fun jn wr=>jn) n (sb J) ?_ ?_))))))
    ·refine ⟨hC,hU,hB1,hH,by omega,hO,?_,?_,El1 _⟩;rw [← hal,Ev0,En0 (El1 _),List.replicate_zero,Ep1];exact hBA;rw [← hal,Ev0,En0 (El1 _),Nat.pow_zero,En8]
    rintro jn w60 ⟨hC,hU,hB1,hH,hz60,hO,hBA,hval,hjn⟩;have hcl:(P3 (a.take jn++List.replicate (a.length - jn) 0)).length=n:=by unfold P3;rw [Eo2,Ek5,Et5,En5];omega
    have hlst:0<jn→(P3 (a.take jn++List.replicate (a.length - jn) 0))[jn - 1]?=some (.int .i64 ((a.getD (jn - 1) 0:Nat):Int)):=fun h=>by
     unfold P3;rw [El8,Em6 (by rw [Et5];omega),List.getElem?_take_of_lt (by omega),Ek4 (by omega),Ek2,Ek4 (by omega)];rfl
    have htk:0<jn→Ad7 E.bytes.length (a.take jn)=Ad7 E.bytes.length (a.take (jn - 1))*E.bytes.length+a.getD (jn - 1) 0:=fun h=>by
     have:=Ep9 (l:=a) (i:=jn - 1);rw [show jn - 1+1=jn by omega] at this;rw [this,Ek4 (by omega),Bx9,Ek2,Ek4 (by omega)];show _*E.bytes.length ^ 1+(a[jn - 1]*E.bytes.length ^ 0+0)=_;rw [Nat.pow_one,Nat.pow_zero,En8,Ev1];rfl
    refine Qa (I3 (fun e9 wr=>Sub [(2,.int .i64 (n:Nat)),(3,.int .i64 10000),(5,.pointer (some ⟨b1,0,none⟩)),(9,.slice (some ⟨gB,oB,none⟩) E.bytes.length cb),(10,.slice A2 (Bq2 t E n (Ad7 E.bytes.length a+1)).length c2),(11,.slice (some ⟨b3,0,none⟩) n n),(14,.int .i64 ((jn:Int) - 1)),(68,.bool (decide (0<jn∧a.getD (jn - 1) 0+1=E.bytes.length)))] e9∧Chg [] w wr∧RAu G wr t As pf pl bt bf∧Blk wr b1 [.slice As (P7 t).length cS,.int .i64 (O1 t),.slice (some ⟨pf,0,none⟩) (B9 t) (B9 t),.slice (some ⟨pl,0,none⟩) (B9 t) (B9 t),.slice (some ⟨bt,0,none⟩) (B9 t) (B9 t)] 27∧Rd (fun x=>x<hz0) wr 1 (some ⟨gB,oB,none⟩) E.bytes.length (bys E.bytes)∧hz0≤wr.heap.size∧Own wr hz0 9 1 A2 (Bq2 t E n (Ad7 E.bytes.length a+1)).length c2 (strs (Bq2 t E n (Ad7 E.bytes.length a+1)))∧Blk wr b3 (P3 (a.take jn++List.replicate (a.length - jn) 0)) 3) ?_ ?_)
    ·refine Qb (Z 3 J (C0 (d:=59) J (fun g5=>?_) (fun g5=>?_)))
     ·try simp at g5
      refine Qu J (Z 1 J (Qu J (Z 1 J (Qu J (C9 J (B0 T8 J J (by omega) (by omega)) (Qu J (Lc o3 J (by rw [hBA.cell,El6,show ((jn:Int) - 1).toNat=jn - 1 by omega];exact hlst (by omega)) ?_)))))));refine Qu J (Z 1 J (Qu J (Ln Tryz.underlying44 J (Qu J (Su J J (by omega) (Qu J (Zc 2 J ⟨⟨rfl,rfl,rfl,rfl,rfl,rfl,rfl,(H3 J (by rw [El4,cmpB_eql,El7];omega)),trivial⟩,?_⟩)))))));exact ⟨hC,hU,hB1,hH,by omega,hO,hBA⟩
     ·try simp at g5
      refine Qk J (Qk J (Qk J (Qk J (Qk J (Qk J (Qk J (Qk J (Zc 1 J ⟨⟨rfl,rfl,rfl,rfl,rfl,rfl,rfl,(H3 J (by rw [El3 (by omega)])),trivial⟩,?_⟩))))))));exact ⟨hC,hU,hB1,hH,by omega,hO,hBA⟩
    rintro e9 w61 ⟨hs9,hC,hU,hB1,hH,hz61,hO,hBA⟩;refine I2 _ hs9 ?_;clear hs9 e9
    try have hlBA:=hBA.lt
    refine A4 J (fun g6=>?_) (fun g6=>?_)
    ·have g6:=Eo7 g6;have hOA:=hO.offBlk hBA (by decide);refine A7 (B2 (Qd (Z 2 J (C9 J (B0 T8 J J (by omega) (by omega)) (Pb (cs':=(P3 (a.take (jn - 1)++0::List.replicate (a.length - jn) 0))) sz3 J J hBA J J J (by rw [hcl,Ep4];omega) (by rw [El6,show ((jn:Int) - 1).toNat=jn - 1 by omega];exact Ch1 a jn g6.1 (by omega) 0) ?_)))));intro w8 hs8 hx8 hBA;have hC:=hC.step hx8 (by simp;omega);have hU:=hU.q hx8 (by intro b hb hFb;have:=hF _ hFb;simp at hb;omega);have hB1:=hB1.q hx8 (by simp;omega);have hH:=hH.q hx8 (by simp;omega);have hO:=(by exact hO.keep hx8 ‹_›);have hrep:(0::List.replicate (a.length - jn) 0)=List.replicate (a.length - (jn - 1)) 0:=by rw [show a.length - (jn - 1)=(a.length - jn)+1 by omega,Es5]
     refine Qc (Qb (Z 1 J (Su J J (by omega) (Zc 1 J ⟨jn - 1,⟨rfl,rfl,rfl,rfl,rfl,rfl,(G2 J (by omega)),trivial⟩,?_,?_⟩))));refine ⟨hC,hU,hB1,hH,by omega,hO,by rw [← hrep];exact hBA,?_,by omega⟩;rw [hval,htk g6.1,show a.length - (jn - 1)=(a.length - jn)+1 by omega,Nat.pow_succ,Nat.mul_comm (E.bytes.length ^ _) E.bytes.length,← Nat.mul_assoc,Nat.add_mul _ 1 E.bytes.length,Nat.one_mul,Em3,g6.2];show jn - 1<jn;omega
    ·have g6:=Et7 g6
     refine Xb (Qa (Qd (Zc 2 J (A4 J (fun g7=>?_) (fun g7=>?_)))))
     ·try simp at g7
      have hj0:jn=0:=by omega
      subst hj0;have hend:Ad7 E.bytes.length a+1=E.bytes.length ^ n:=by rw [hval,Es0,Nat.sub_zero,hal];show (0+1)*_=_;rw [El6,Nat.one_mul]
      have hfin:Bq2 t E n (Ad7 E.bytes.length a+1)=(Ah9 E.bytes n).filter (posF t):=by unfold Bq2;rw [En0 (by rw [Bg2,hend];exact El1 _)]
      rw [hfin] at hO ⊢;refine Av4 (Ar0 J (Aj3 ?_));exact Qd (Zc 2 J (A6 (B4 J J ⟨hC,A2,c2,rfl,hO.lower hwz⟩)))
     ·try simp at g7
      have hj0:0<jn:=by omega
      have hdj:=had _ (G9 a 0 (jn - 1) (by omega));have hnb:a.getD (jn - 1) 0+1<E.bytes.length:=by have:¬ a.getD (jn - 1) 0+1=E.bytes.length:=fun h=>g6 ⟨hj0,h⟩;omega
      have hOA:=hO.offBlk hBA (by decide);refine A7 (Qb (Z 2 J (C9 J (B0 T8 J J (by omega) (by omega)) (Lc o3 J (by rw [hBA.cell,El6,show ((jn:Int) - 1).toNat=jn - 1 by omega];exact hlst hj0) ?_))));refine C9 J ((Bq1 J J (by omega)).to (J4 (show ((a.getD (jn - 1) 0:Nat):Int)+1=((a.getD (jn - 1) 0+1:Nat):Int) by omega))) ?_;refine C9 J (B0 T8 J J (by omega) (by omega)) (Pb (cs':=(P3 (a.take (jn - 1)++(a.getD (jn - 1) 0+1)::List.replicate (a.length - jn) 0))) sz3 J J hBA J J J (by rw [hcl,Ep4];omega) (by rw [El6,show ((jn:Int) - 1).toNat=jn - 1 by omega];exact Ch1 a jn hj0 (by omega) _) ?_);intro w9 hs9 hx9 hBA;have hC:=hC.step hx9 (by simp;omega);have hU:=hU.q hx9 (by intro b hb hFb;have:=hF _ hFb;simp at hb;omega);have hB1:=hB1.q hx9 (by simp;omega);have hH:=hH.q hx9 (by simp;omega);have hO:=(by exact hO.keep hx9 ‹_›);have hnl:(a.take (jn - 1)++(a.getD (jn - 1) 0+1)::List.replicate (a.length - jn) 0).length=n:=by rw [Ek5,Et5,En2,En5];omega
      have hnv:Ad7 E.bytes.length (a.take (jn - 1)++(a.getD (jn - 1) 0+1)::List.replicate (a.length - jn) 0)=Ad7 E.bytes.length a+1:=by
       rw [Bx9,En2,En5,Ad7,En5,Bh6,hval,htk hj0,Nat.pow_succ,Nat.mul_comm (E.bytes.length ^ _) E.bytes.length,← Nat.mul_assoc,Ev1,← Nat.add_mul,Em3]
      have hnd:∀ d∈(a.take (jn - 1)++(a.getD (jn - 1) 0+1)::List.replicate (a.length - jn) 0),d<E.bytes.length:=fun d hd=>by
       rcases En7.1 hd with h|h
       ·exact had d (List.mem_of_mem_take h)
       ·rcases Eo4.1 h with h|h
        ·omega
        ·rw [(List.mem_replicate.1 h).2];exact hB0
      refine Qc ⟨(a.take (jn - 1)++(a.getD (jn - 1) 0+1)::List.replicate (a.length - jn) 0,A2,c2),⟨rfl,rfl,rfl,rfl,(R0 J (by rw [hnv])),rfl,trivial⟩,?_,?_⟩;refine ⟨hC,hU,hB1,hH,by omega,by rw [hnv];exact hO,hBA,hnl,hnd⟩;show E.bytes.length ^ n - Ad7 E.bytes.length _<E.bytes.length ^ n - Ad7 E.bytes.length a;rw [hnv];omega
  ·try simp at g2
   all_goals (exfalso;first|omega|(rw [g2] at hB0;simp at hB0))
 ·try simp at g1
  all_goals (exfalso;omega)
end
theorem pow5 {B n:Nat} (hB:B≤5) (hn:n≤4):B ^ n≤625:=En6 (Nat.pow_le_pow_left hB n) (Nat.pow_le_pow_right (by decide) hn)
theorem Bx4 {E:DE} {l:List St} (hB:E.bytes.length≤5) {n:Nat} (hn:n≤4) (st:Nat) (w:List Nat):(P6 E l n st w).length≤625:=by
 rw [Bo9,Eo2];exact En6 (Es9 _ _) (by rw [Bg2];exact pow5 hB hn)
end Go.Clt
section
namespace Go.Clt
open Go Go.RowKit
theorem flat_at {α β:Type} (f:α→List β) (p:List α) (b:α) (q:List α) (i:Nat) (hi:i<(f b).length):((p++b::q).flatMap f)[(p.flatMap f).length+i]?=(f b)[i]?:=by
 rw [List.flatMap_append,Em2 (by omega),Nat.add_sub_cancel_left,Eo0,Em6 hi]
def Z8 (x:Nat):Prop:=(x:Int)≤9223372036854775807
theorem Aq8 {E:DE} {l:List St} (hg:DGood E l) {n st:Nat} (w:List Nat) (hst:st<l.length) (h:Z8 (P6 E l n st w).length):(X3 E l n).getD st 0=((P6 E l n st w).length:Int):=by
 rw [Dh4 hg n st w hst];unfold Z8 at h;omega
theorem Bb7 {E:DE} {l:List St} {n st:Nat} {w:List Nat} (h:Z8 (P6 E l (n+1) st w).length) {p q:List Nat} {b:Nat} (he:E.bytes=p++b::q):Z8 (p.flatMap fun b=>P6 E l n (J7 E l st b) (w++[b])).length∧Z8 (P6 E l n (J7 E l st b) (w++[b])).length∧(p.flatMap fun b=>P6 E l n (J7 E l st b) (w++[b])).length+(P6 E l n (J7 E l st b) (w++[b])).length≤(P6 E l (n+1) st w).length:=by
 have:(P6 E l (n+1) st w).length=(p.flatMap fun b=>P6 E l n (J7 E l st b) (w++[b])).length+((P6 E l n (J7 E l st b) (w++[b])).length+(q.flatMap fun b=>P6 E l n (J7 E l st b) (w++[b])).length):=by
  rw [P6,he,List.flatMap_append,Eo0,Ek5,Ek5]
 unfold Z8 at*;omega
theorem Dc8 {E:DE} {l:List St} (hg:DGood E l) {n st:Nat} {w:List Nat} (hst:st<l.length) (h:Z8 (P6 E l (n+1) st w).length):∀ (r p:List Nat) (k:Int),E.bytes=p++r→0≤k→k<((r.flatMap fun b=>P6 E l n (J7 E l st b) (w++[b])).length:Int)→
  ∃ b k',Ck4 E l (X3 E l n) st k r=(k',some b)∧b∈E.bytes∧0≤k'∧k'<((P6 E l n (J7 E l st b) (w++[b])).length:Int)∧(r.flatMap fun b=>P6 E l n (J7 E l st b) (w++[b]))[k.toNat]?=(P6 E l n (J7 E l st b) (w++[b]))[k'.toNat]?
 |[],p,k,he,h0,hk=>by simp at hk;omega
 |b::r,p,k,he,h0,hk=>by
  have hb:b∈E.bytes:=by rw [he];simp
  have hs:=(Bb7 h he).2.1;have hc:=Aq8 hg (w++[b]) (Y8 hg hst (hg.by_ b hb)) hs;rw [Ck4,hc];rw [Eo0,Ek5] at hk
  by_cases hkb:((P6 E l n (J7 E l st b) (w++[b])).length:Int)≤k
  ·rw [Ek1 hkb];obtain ⟨c,k',h1,h2,h3,h4,h5⟩:=Dc8 hg hst h r (p++[b]) (k - ((P6 E l n (J7 E l st b) (w++[b])).length:Int)) (by rw [he];simp) (by omega) (by omega);refine ⟨c,k',h1,h2,h3,h4,?_⟩;rw [← h5,Eo0,Em2 (by omega)]
   congr 1
   omega
  ·rw [Ek0 hkb];refine ⟨b,k,rfl,hb,h0,by omega,?_⟩;rw [Eo0,Em6 (by omega)]
theorem Cu4 {E:DE} {l:List St} (hg:DGood E l):∀ (n st:Nat) (k:Int) (w:List Nat),st<l.length→Z8 (P6 E l n st w).length→0≤k→k<((P6 E l n st w).length:Int)→(P6 E l n st w)[k.toNat]?=some (Cr7 E l n st k w)
 |0,st,k,w,hst,hs,h0,hk=>by
  rw [P6] at hk ⊢;rw [Cr7]
  by_cases h:(l.getD st default).meant=true
  ·rw [Ek1 h] at hk ⊢;have:k=0:=by simp at hk;omega
   subst this
   rfl
  ·rw [Ek0 h] at hk;simp at hk;omega
 |n+1,st,k,w,hst,hs,h0,hk=>by
  have hk':=hk;rw [P6] at hk';obtain ⟨b,k',h1,h2,h3,h4,h5⟩:=Dc8 hg hst hs E.bytes [] k rfl h0 hk';obtain ⟨p,q,he⟩:=List.append_of_mem h2;rw [Cr7,h1];simp only [];rw [P6,h5];exact Cu4 hg n _ k' _ (Y8 hg hst (hg.by_ b h2)) (Bb7 hs he).2.1 h3 h4
def An5 (E:DE) (l:List St):List Nat→Nat→Int→Option Int
 |[],_,s=>some s
 |b::r,st,s=>if b∈E.bytes then An5 E l r (J7 E l st b) ((E.bytes.takeWhile fun c=>decide (c≠b)).foldl (Ai5 E l (X3 E l r.length) st) s) else none
theorem Cn4 {E:DE} {l:List St} (hg:DGood E l) {n st:Nat} {w:List Nat} (hst:st<l.length):∀ (p:List Nat) (s:Nat),(∀ b∈p,b<256)→Z8 (s+(p.flatMap fun b=>P6 E l n (J7 E l st b) (w++[b])).length)→p.foldl (Ai5 E l (X3 E l n) st) (s:Int)=((s+(p.flatMap fun b=>P6 E l n (J7 E l st b) (w++[b])).length:Nat):Int)
 |[],s,_,_=>by simp
 |b::p,s,hb,hs=>by
  rw [Eo0,Ek5] at hs ⊢;have hb0:=hb b (Em1 ..);have hs1:Z8 (P6 E l n (J7 E l st b) (w++[b])).length:=by unfold Z8 at*;omega
  have hc:=Aq8 hg (w++[b]) (Y8 hg hst hb0) hs1;rw [Eq1]
  have:Ai5 E l (X3 E l n) st (s:Int) b=((s+(P6 E l n (J7 E l st b) (w++[b])).length:Nat):Int):=by
   unfold Ai5;rw [hc,Aw0 _ _ (by omega) (by unfold Z8 at hs;omega)];unfold W1 Z8 at*;omega
  rw [this,Cn4 (w:=w) hg hst p _ (fun x hx=>hb x (Em8 _ hx)) (by unfold Z8 at*;omega),Em3]
theorem Cj9 {E:DE} {l:List St} (hg:DGood E l):∀ (v:List Nat) (st:Nat) (w:List Nat) (s:Nat),st<l.length→(∀ b∈v,b∈E.bytes)→(l.getD (v.foldl (J7 E l) st) default).meant=true→Z8 (s+(P6 E l v.length st w).length)→
  ∃ i:Nat,(P6 E l v.length st w)[i]?=some (w++v)∧An5 E l v st (s:Int)=some ((s+i:Nat):Int)
 |[],st,w,s,hst,_,hm,_=>by
  refine ⟨0,?_,rfl⟩;show (P6 E l 0 st w)[0]?=_;have hm:(l.getD st default).meant=true:=hm;rw [P6,Ek1 hm,Ep1];rfl
 |b::r,st,w,s,hst,hv,hm,hs=>by
  have hb:=hv b (Em1 ..);have hb0:=hg.by_ b hb
  have hcut:∃ q,E.bytes=(E.bytes.takeWhile fun c=>decide (c≠b))++b::q:=by
   generalize E.bytes=L at hb
   induction L with
   |nil=>cases hb
   |cons c L ih=>
    by_cases hc:c=b
    ·subst hc;exact ⟨L,by rw [List.takeWhile_cons];simp⟩
    ·obtain ⟨q,hq⟩:=ih (by rcases Eo4.1 hb with h|h;exact absurd h.symm hc;exact h);exact ⟨q,by rw [List.takeWhile_cons,Ek1 (by simpa using hc),Ek7,← hq]⟩
  obtain ⟨q,he⟩:=hcut;rw [En2] at hs ⊢;have hs0:Z8 (P6 E l (r.length+1) st w).length:=by unfold Z8 at*;omega
  obtain ⟨h1,h2,h3⟩:=Bb7 hs0 he;generalize hpd:(E.bytes.takeWhile fun c=>decide (c≠b))=p at*;have hf:=Cn4 hg (n:=r.length) (w:=w) hst p s (fun x hx=>hg.by_ x (by rw [he];simp [hx])) (by unfold Z8 at*;omega);obtain ⟨i,h4,h5⟩:=Cj9 hg r (J7 E l st b) (w++[b]) (s+(p.flatMap fun b=>P6 E l r.length (J7 E l st b) (w++[b])).length) (Y8 hg hst hb0) (fun x hx=>hv x (Em8 _ hx)) hm (by unfold Z8 at*;omega)
  have hil:i<(P6 E l r.length (J7 E l st b) (w++[b])).length:=by
   rcases Eq7 i (P6 E l r.length (J7 E l st b) (w++[b])).length with h|h
   ·exact h
   ·rw [El5 h] at h4;cases h4
  refine ⟨(p.flatMap fun b=>P6 E l r.length (J7 E l st b) (w++[b])).length+i,?_,?_⟩
  ·rw [P6,he,flat_at _ p b q i hil,h4];simp
  ·rw [An5,Ek1 hb,hpd,hf,h5,Em3]
theorem Bt1 {E:DE} {l:List St}:∀ (v:List Nat) (st:Nat) (s:Int),¬ (∀ b∈v,b∈E.bytes)→An5 E l v st s=none
 |[],st,s,h=>absurd (by simp) h
 |b::r,st,s,h=>by
  rw [An5]
  by_cases hb:b∈E.bytes
  ·rw [Ek1 hb];refine Bt1 r _ _ fun hr=>h fun x hx=>?_
   rcases Eo4.1 hx with rfl|hx
   ·exact hb
   ·exact hr x hx
  ·rw [Ek0 hb]
def Ak2 (W:List (List Nat)) (v:List Nat):Nat→Int
 |0=> -1
 |i+1=>if W.getD i []=v then (i:Int) else Ak2 W v i
theorem Bl4 {W:List (List Nat)} {v:List Nat}:∀ n,(∀ i,i<n→W.getD i []≠v)→Ak2 W v n= -1
 |0,_=>rfl
 |n+1,h=>by rw [Ak2,Ek0 (h n (by omega))];exact Bl4 n fun i hi=>h i (by omega)
theorem Bu7 {W:List (List Nat)} {v:List Nat} {k:Nat} (hk:W.getD k []=v):∀ n,(∀ i,i<n→W.getD i []=v→i=k)→k<n→Ak2 W v n=(k:Int)
 |0,_,h=>by omega
 |n+1,h,hn=>by
  rw [Ak2]
  by_cases hc:W.getD n []=v
  ·rw [Ek1 hc,h n (by omega) hc]
  ·rw [Ek0 hc];have:k≠n:=fun he=>hc (by rw [← he];exact hk)
   exact Bu7 hk n (fun i hi=>h i (by omega)) (by omega)
theorem Lx.irr {x:List Nat} (h:Lx x x):False:=by
 obtain ⟨w,b,c,u,v,h1,h2,h3⟩:=h;have:=h1.symm.trans h2;have h4:=List.append_cancel_left this;injection h4 with h4
 omega
theorem allW_inj {E:DE} {l:List St} (hb:E.bytes.Pairwise (·<·)) {n i j:Nat} (hi:i<(P6 E l n 0 []).length) (hj:j<(P6 E l n 0 []).length) (h:(P6 E l n 0 []).getD i []=(P6 E l n 0 []).getD j []):i=j:=by
 have hp:=List.pairwise_iff_getElem.1 (Di3 (l:=l) hb n 0 []);rw [Ek2,Ek2,Ek4 hi,Ek4 hj,Eo1,Eo1] at h
 rcases Nat.lt_trichotomy i j with hij|hij|hij
 ·have:=hp i j hi hj hij;rw [h] at this;exact this.irr.elim
 ·exact hij
 ·have:=hp j i hj hi hij;rw [h] at this;exact this.irr.elim
end Go.Clt
end
namespace Go.Clt
open Go Go.RowKit Go.Proofs
theorem full56_c (n:Int) (w:World):Calls P 56 #[.int .i64 n] w (Ret fun u w'=>u= .bool (Aa4 .eql n 9223372036854775807)∧Chg [] w w'):=by
 have hC:=A8 [] w;exact D4 Tryz.func56 J J (Qd (Zc 1 J (Qd (Zc 3 J (A6 (B4 J J ⟨rfl,hC⟩))))))
theorem Br3 (F2:Nat→Prop) (p:Nat) (E:DE) (l:List St) (n k:Int) (hbad:n<0∨1000<n∨k<0) (w:World) (hD:IsDfa F2 w p E l):
  Calls P 33 #[.pointer (some ⟨p,0,none⟩),.int .i64 n,.int .i64 k] w (Ret fun u w'=>u= .tuple #[.string ⟨#[]⟩,.bool false]∧Chg [] w w'):=by
 have hC:=A8 [] w;have hg:=hD.good;have hps:=hg.pos;refine D4 Tryz.func33 J J (Qd (Zc 2 J (Qa (Qd (Z 1 J (Ca fb15 J (Ap2 F2 p E l _ hD) ?_))))));rintro _ w1 ⟨rfl,hx1⟩;have hC:=hC.s0 hx1
 refine Z 2 J (C0 (d:=12) J (fun h1=>?_) (fun h1=>?_))
 ·try simp at h1
  all_goals first|omega|(rw [h1] at hps;simp at hps)
 ·try simp at h1
  refine Qu J (Z 1 J (Qu J (Z 3 J (C0 (d:=16) J (fun h2=>?_) (fun h2=>?_)))))
  ·try simp at h2
   exact Qk J (Qk J (Z 2 J (Qk J (Qk J (Zc 1 J (E3 J (Qd (Zc 2 J (A6 (J1 J J J ⟨rfl,hC⟩))))))))))
  ·try simp at h2
   refine Qu J (Z 1 J (Qu J (Z 3 J (C0 (d:=20) J (fun h3=>?_) (fun h3=>?_)))))
   ·try simp at h3
    exact Qk J (Qk J (Zc 1 J (E3 J (Qd (Zc 2 J (A6 (J1 J J J ⟨rfl,hC⟩)))))))
   ·try simp at h3
    refine Qu J (Z 1 J (Qu J (Zc 2 J (A4 J (fun h4=>?_) (fun h4=>?_)))))
    ·try simp at h4
     exact Qd (Zc 2 J (A6 (J1 J J J ⟨rfl,hC⟩)))
    ·try simp at h4
     all_goals omega
theorem As2 (b:Nat):∀ (L:List Nat) (j:Nat),(∀ c∈L.take j,c≠b)→j<L.length→L.getD j 0=b→L.takeWhile (fun c=>decide (c≠b))=L.take j
 |[],j,_,hj,_=>by simp at hj
 |c::L,0,_,_,h=>by
  have h:c=b:=h;rw [List.takeWhile_cons,Ek0 (by simp [h]),Es0]
 |c::L,j+1,hne,hj,h=>by
  have hc:c≠b:=hne c (by rw [Ep3];exact Em1 ..);rw [List.takeWhile_cons,Ek1 (by simpa using hc),Ep3,As2 b L j (fun x hx=>hne x (by rw [Ep3];exact Em8 _ hx)) (by simpa using hj) (by simpa using h)]
def Ck0 (o:Option Int):Value:=match o with
 |some x=>.tuple #[.int .i64 x,.bool true]
 |none=>.tuple #[.int .i64 0,.bool false]
def Aa7 (E:DE) (l:List St) (L:List Nat):Option Int:=if (l.getD (Bw2 E l L) default).meant=true then An5 E l L 0 0 else none
theorem Da2 (F2:Nat→Prop) (p:Nat) (E:DE) (l:List St) (s:ByteArray) (hs:s.size≤1000) (w:World) (hFw2:∀ x,F2 x→x<w.heap.size) (hD:IsDfa F2 w p E l):
  Calls P 34 #[.pointer (some ⟨p,0,none⟩),.string s] w (Ret fun u w'=>Chg [] w w'∧u=Ck0 (Aa7 E l (B6 s))):=by
 have hC:=A8 [] w;have hg:=hD.good;have hnb:=hg.nb;have hbn:=hg.bl;have hby:=hg.by_;have hps:=hg.pos;have hsl:=E5 s;have hlt:=R5 s
 refine D4 Tryz.func34 J J (Qd (Zc 2 J (Qd (Z 1 J (C9 J (E9 Tryz.underlying9 J) (Zc 1 J (Qa (Qd (Z 3 J (C0 (d:=20) J (fun h1=>?_) (fun h1=>?_)))))))))))
 ·try simp at h1
  all_goals omega
 ·try simp at h1
  refine Qu J (Z 1 J (Qu J (Z 1 J (Qu J (Ca fb23 J (dmeans_c F2 p E l s (by omega) _ hD) ?_)))));rintro _ w1 ⟨rfl,hx1⟩;have hz1:=hx1.size;have hC:=hC.s0 hx1;have hD:=hD.u hx1
  refine Qu J (Zc 2 J (A4 J (fun m1=>?_) (fun m1=>?_)))
  ·have m1:(l.getD (Bw2 E l (B6 s)) default).meant=false:=by simpa using m1
   exact Qd (Zc 2 J (A6 (J1 J J J ⟨hC,by unfold Aa7;rw [Ek0 (by rw [m1];decide)];rfl⟩)))
  ·have m1:(l.getD (Bw2 E l (B6 s)) default).meant=true:=by simpa using m1
   have hP0:Aa7 E l (B6 s)=An5 E l (B6 s) 0 0:=by unfold Aa7;rw [Ek1 m1]
   rw [hP0];refine A7 (Qd (Z 1 J (C9 J (Bd0 u31 J) (Z 1 J (Ca fb53 J (Bn4 F2 p E l s.size hs _ (fun x h=>by have:=hFw2 x h;omega) hD) ?_)))));rintro v9 w2 ⟨hx2,pc,rfl,Ab,cb,Al,cl,gs,hK⟩;have hC:=hC.s0 hx2;have hD:=hD.u hx2
   refine Zc 1 J (Qd (Zc 2 J (Qa (Qd (Zc 2 J (B2 (D8 (σ:=Nat × Nat × Int) (fun (i,st,sm)=>[(0,.pointer (some ⟨p,0,none⟩)),(1,.string s),(6,.int .i64 (s.size:Nat)),(7,.pointer (some ⟨pc,0,none⟩)),(8,.int .i64 (st:Nat)),(9,.int .i64 sm),(30,.int .i64 (s.size:Nat)),(31,.int .i64 (i:Nat))]) (fun (i,st,sm) wr=>Chg [] w wr∧CntM (FR w1.heap.size w2.heap.size []) wr pc p E l (s.size+1) Ab cb Al cl gs∧IsDfa F2 wr p E l∧st<l.length∧(0≤sm∧sm≤9223372036854775807)∧An5 E l ((B6 s).drop i) st sm=An5 E l (B6 s) 0 0∧i≤s.size) (fun (i,st,sm) wr=>s.size - i) (0,0,0) (sb J) ?_ ?_)))))))
   ·exact ⟨hC,hK,hD,hps,by omega,rfl,El0 _⟩
   rintro ⟨i,st,sm⟩ w40 ⟨hC,hK,hD,hst,hsm,hP,hi⟩;have hBc:=hK.blk;have hR:=hK.rb
   try have hlR:=hR.lt
   refine Qd (Zc 1 J (Qa (A4 J (fun h2=>?_) (fun h2=>?_))))
   ·try simp at h2
    have hin:i<s.size:=by omega
    obtain ⟨u8,hu,hu2⟩:=I5 s i hin;have hb8:=hlt _ (G9 (B6 s) 0 i (by omega))
    have hdr:(B6 s).drop i=(B6 s).getD i 0::(B6 s).drop (i+1):=by
     rw [Eu2 (by omega),Ek2,Ek4 (by omega)];rfl
    have hdl:((B6 s).drop (i+1)).length=s.size - 1 - i:=by rw [List.length_drop];omega
    rw [hdr,An5,hdl] at hP;generalize hbd:(B6 s).getD i 0=b at*;have hco:=Bn3 E l (s.size - 1 - i);refine A7 (Qa (B2 (Qd (Zc 2 J (Qd (Zc 1 J (Qa (Qd (Z 2 J (Fa Cx3 J (Lb o44 J ‹_› (by rfl) ?_)))))))))))
    refine Ln Tryz.underlying44 J (Zc 1 J (B2 (D8 (σ:=Nat) (fun j=>[(0,.pointer (some ⟨p,0,none⟩)),(1,.string s),(6,.int .i64 (s.size:Nat)),(7,.pointer (some ⟨pc,0,none⟩)),(8,.int .i64 (st:Nat)),(9,.int .i64 ((E.bytes.take j).foldl (Ai5 E l (X3 E l (s.size - 1 - i)) st) sm)),(30,.int .i64 (s.size:Nat)),(31,.int .i64 (i:Nat)),(10,.int .i64 (i:Nat)),(11,.bool false),(37,.slice Ab E.bytes.length cb),(38,.int .i64 (E.bytes.length:Nat)),(39,.int .i64 (j:Nat))]) (fun j wr=>Chg [] w wr∧CntM (FR w1.heap.size w2.heap.size []) wr pc p E l (s.size+1) Ab cb Al cl gs∧IsDfa F2 wr p E l∧(∀ c∈E.bytes.take j,c≠b)∧j≤E.bytes.length) (fun j wr=>E.bytes.length - j) 0 (sb J) ?_ ?_)))
    ·exact ⟨hC,hK,hD,by simp,El0 _⟩
    rintro j w50 ⟨hC,hK,hD,hne,hj⟩;have hBc:=hK.blk;have hR:=hK.rb;have hBv:=(hK.row (s.size - 1 - i) (by omega)).2;have hRl:=hK.rl;have hs0:=Ai4 E l (X3 E l (s.size - 1 - i)) st (E.bytes.take j) sm hsm
    try have hlR:=hR.lt
    try have hlRl:=hRl.lt
    refine Qd (Zc 1 J (Qa (A4 J (fun h3=>?_) (fun h3=>?_))))
    ·try simp at h3
     have hjn:j<E.bytes.length:=by omega
     have hbm:=hby _ (G9 E.bytes 0 j hjn);have hnl:=Y8 hg hst hbm;obtain ⟨g2,o2,hA2,_,_,_⟩:=hR.at_ (by omega);subst hA2;refine A7 (Qa (B2 (Qd (C9 J (B0 Al4 J J (by omega) (by omega)) (Lc o5 J (hR.one (Au9 E.bytes j hjn)).2 (Zc 1 J (Qa (Qd (Z 3 J (C9 J (Does.to (E7 Tryz.underlying9 J J (by omega) (by exact hu)) (J4 (show ((u8.toNat:Nat):Int)=((b:Nat):Int) by rw [hu2]))) ?_))))))))))
     refine Zc 2 J (Qd (Zc 1 J (A4 J (fun e1=>?_) (fun e1=>?_))))
     ·have e2:=e1;rw [cmpB_eql] at e2;have e2:E.bytes.getD j 0=b:=by omega
      have hbE:b∈E.bytes:=by rw [← e2];exact G9 E.bytes 0 j hjn
      rw [Ek1 hbE,As2 b E.bytes j hne hjn e2] at hP;refine Av4 (Ar0 J (Aj3 ?_));refine Qa (Qd (Zc 2 J (E4 (congrArg (fun b=>some (Value.bool !b)) e1) (A7 (Qb (Z 4 J (C9 J (Does.to (E7 Tryz.underlying9 J J (by omega) (by exact hu)) (J4 (show ((u8.toNat:Nat):Int)=((b:Nat):Int) by rw [hu2]))) ?_)))))));refine Ca fb16 J (Bn0 F2 p E l st b hst hb8 _ hD) ?_;rintro _ w3 ⟨rfl,hx3⟩;have hC:=hC.s0 hx3;have hK:=hK.u hx3;have hD:=hD.u hx3;refine Zc 4 J (Qb (Ad J J (by omega) (Zc 1 J ⟨(i+1,J7 E l st b,(E.bytes.take j).foldl (Ai5 E l (X3 E l (s.size - 1 - i)) st) sm),sb J,?_,?_⟩)));exact ⟨hC,hK,hD,Y8 hg hst hb8,hs0,hP,hin⟩;show s.size - (i+1)<s.size - i;omega
     ·have e2:=e1;rw [cmpB_eqlF] at e2;have e3:E.bytes[j]'hjn=E.bytes.getD j 0:=by rw [Ek2,Ek4 hjn];rfl
      have hvn:=hco.2.get (J7 E l st (E.bytes.getD j 0));obtain ⟨g,off,hAl,_,_,_⟩:=hRl.at_ (by omega);subst hAl;refine A7 (Qd (Z 3 J (Ca fb16 J (Bn0 F2 p E l st (E.bytes.getD j 0) hst hbm _ hD) ?_)));rintro _ w4 ⟨rfl,hx4⟩;have hK:=hK.u hx4;have hBc:=hBc.u hx4;have hBv:=hBv.u hx4;have hRl:=hRl.u hx4;refine Zc 5 J (Qb (Z 3 J (Fa Af3 J (Lb o25 J ‹_› (by rfl) ?_))));refine Z 1 J (Su J J (by omega) (Z 1 J (Su J J (by omega) (C9 J (B0 Cr6 J J (by omega) (by omega)) (Lc o24 J (by rw [show (((s.size:Nat):Int) - 1 - ((i:Nat):Int)).toNat=s.size - 1 - i by omega];exact (hRl.one (Ac3 l.length gs (s.size - 1 - i) (by rw [hK.gl];omega))).2) ?_)))));refine Z 1 J (C9 J (B0 T8 J J (by omega) (by omega)) (Lc o3 J (by rw [hBv.cell,El6];exact J6 (X3 E l (s.size - 1 - i)) (J7 E l st (E.bytes.getD j 0)) (by rw [hco.1];exact hnl)) ?_));refine B5 J (B7 T8 Tryz.underlying24 zr3 J J J (by rfl)) ?_;intro b5 w5 hb5 hs5 hx5 hB5;have hz5:=hx5.size;have hC:=hC.s0 (hx4.s0 hx5);have hK:=hK.u hx5;have hD:=hD.u (hx4.s0 hx5);have hBc:=hBc.u hx5;have hR:=hR.u (hx4.s0 hx5);have hBv:=hBv.u hx5;have hRl:=hRl.u hx5;refine Ca fb46 J (nAdd_c (fun _=>True) [(E.bytes.take j).foldl (Ai5 E l (X3 E l (s.size - 1 - i)) st) sm,(X3 E l (s.size - 1 - i)).getD (J7 E l st (E.bytes.getD j 0)) 0] _ 2 2 (by intro x hx;simp at hx;rcases hx with rfl|rfl;exact hs0.2;exact hvn.2) (by omega) _ (Blk.rd ‹_› J trivial)) ?_;rintro _ _ ⟨rfl,rfl⟩;refine Zc 1 J (Qb (Ad J J (by omega) (Zc 1 J ⟨j+1,⟨rfl,rfl,rfl,rfl,rfl,(G2 J (by rw [Ep9,Ek4 hjn,En9,e3];show _=Av6 [(E.bytes.take j).foldl (Ai5 E l (X3 E l (s.size - 1 - i)) st) sm,_];rw [Aw0 _ _ hs0.1 hs0.2];exact sadd_two _ _ hs0.1)),rfl,rfl,rfl,(H3 J e1),rfl,rfl,rfl,trivial⟩,?_,?_⟩)));refine ⟨hC,hK,hD,fun c hc=>?_,hjn⟩;rw [Ep9,Ek4 hjn] at hc;rcases En7.1 hc with h|h;exact hne c h;have:c=E.bytes.getD j 0:=by rw [Ek2,Ek4 hjn];simpa using h
      rw [this];omega;show E.bytes.length - (j+1)<E.bytes.length - j;omega
    ·try simp at h3
     have hjj:j=E.bytes.length:=by omega
     have hbE:b∉E.bytes:=fun h=>hne b (by rw [hjj,En0 (El1 _)];exact h) J
     rw [Ek0 hbE] at hP;exact Xb (Qa (Qd (Zc 2 J (E3 (rfl) (Qd (Zc 2 J (A6 (J1 J J J ⟨hC,by rw [← hP];rfl⟩))))))))
   ·try simp at h2
    have hii:i=s.size:=by omega
    rw [hii,← hsl,List.drop_length,An5] at hP;exact Xb (Qd (Zc 3 J (A6 (J1 J J J ⟨hC,by rw [← hP];rfl⟩))))
theorem Da5 (F2:Nat→Prop) (p:Nat) (E:DE) (l:List St) (s:ByteArray) (hs:s.size≤1000) (hk:∀ k,Aa7 E l (B6 s)=some k→0≤k∧k<9223372036854775807) (w:World) (hFw2:∀ x,F2 x→x<w.heap.size) (hD:IsDfa F2 w p E l):
  Calls P 35 #[.pointer (some ⟨p,0,none⟩),.string s] w (Ret fun u w'=>Chg [] w w'∧u=match Aa7 E l (B6 s) with
   |none=>.tuple #[.string ⟨#[]⟩,.bool false]
   |some k=>if (X3 E l s.size).getD 0 0≤k+1 then .tuple #[.string ⟨#[]⟩,.bool false] else .tuple #[Ch3 (Cr7 E l s.size 0 (k+1) []),.bool true]):=by
 have hC:=A8 [] w;refine D4 Tryz.func35 J J (Qd (Zc 2 J (Qd (Z 2 J (Ca fb34 J (Da2 F2 p E l s hs _ (fun x h=>by have:=hFw2 x h;omega) hD) ?_)))));rintro _ w1 ⟨hx1,rfl⟩;have hz1:=hx1.size;have hC:=hC.s0 hx1;have hD:=hD.u hx1
 by_cases hp:Aa7 E l (B6 s)=none
 ·rw [hp];unfold Ck0
  refine Zc 5 J (Qa (Qd (Z 3 J (C0 (d:=16) J (fun g1=>?_) (fun g1=>?_)))))
  ·try simp at g1
   exact Qk J (Qk J (Zc 1 J (E3 J (Qd (Zc 2 J (A6 (J1 J J J ⟨hC,rfl⟩)))))))
  ·try simp at g1
   all_goals simp at g1
 ·obtain ⟨k,hk1⟩:∃ k,Aa7 E l (B6 s)=some k:=by
   cases h:Aa7 E l (B6 s) with
   |none=>exact absurd h hp
   |some k=>exact ⟨k,rfl⟩
  obtain ⟨hk2,hk3⟩:=hk k hk1;rw [hk1];unfold Ck0
  refine Zc 5 J (Qa (Qd (Z 3 J (C0 (d:=16) J (fun g1=>?_) (fun g1=>?_)))))
  ·try simp at g1
   all_goals simp at g1
  ·try simp at g1
   refine Qu J (Z 1 J (Qu J (Ca fb56 J (full56_c k _) ?_)));rintro _ w2 ⟨rfl,hx2⟩;have hz2:=hx2.size;have hC:=hC.s0 hx2;have hD:=hD.u hx2
   refine Zc 1 J (A4 J (fun g2=>?_) (fun g2=>?_))
   ·all_goals (rw [cmpB_eql] at g2;omega)
   ·refine A7 (Qd (Z 2 J (C9 J (E9 Tryz.underlying9 J) (Z 1 J (Ad J J (by omega) (Ca fb33 J (Ds3 F2 p E l s.size hs (k+1) (by omega) _ (fun x h=>by have:=hFw2 x h;omega) hD) ?_))))));rintro v9 w3 ⟨hx3,hv9⟩;have hC:=hC.s0 hx3
    by_cases hn:(X3 E l s.size).getD 0 0≤k+1
    ·rw [Ek1 hn] at hv9;subst hv9;exact Zc 4 J (A6 (J1 J J J ⟨hC,by simp only [Ek1 hn];rfl⟩))
    ·rw [Ek0 hn] at hv9;subst hv9;exact Zc 4 J (A6 (J1 J J J ⟨hC,by simp only [Ek0 hn];rfl⟩))
theorem Eb8 {x:Int} (h:(Lit.int .i64 x).wf=true):x≤9223372036854775807:=by
 have h':(decide (IntKind.i64.min≤x) && decide (x≤IntKind.i64.max))=true:=h;simp only [Ek6,Em0] at h';exact h'.2
def Dy0 (W:List (List Nat)) (k:Int):ByteArray:=if 0≤k∧k<(W.length:Int) then As7 (W.getD k.toNat []) else ⟨#[]⟩
theorem nth31_c (F2:Nat→Prop) (p:Nat) (E:DE) (l:List St) (n:Nat) (hn:n≤1000) (k:Int) (hk:k≤9223372036854775807) (hs:Z8 (P6 E l n 0 []).length) (w:World) (hFw2:∀ x,F2 x→x<w.heap.size) (hD:IsDfa F2 w p E l):
  Calls P 33 #[.pointer (some ⟨p,0,none⟩),.int .i64 (n:Nat),.int .i64 k] w (Ret fun u w'=>Chg [] w w'∧u= .tuple #[.string (Dy0 (P6 E l n 0 []) k),.bool (decide (0≤k∧k<((P6 E l n 0 []).length:Int)))]):=by
 have hg:=hD.good
 by_cases h0:0≤k
 ·have h:=Ds3 F2 p E l n hn k ⟨h0,hk⟩ w hFw2 hD;have hc:=Aq8 hg (n:=n) (st:=0) [] hg.pos hs;rw [hc] at h
  by_cases h1:((P6 E l n 0 []).length:Int)≤k
  ·simp only [Ek1 h1] at h;have hx:Dy0 (P6 E l n 0 []) k=⟨#[]⟩:=by unfold Dy0;rw [Ek0 (by omega)]
   rw [hx,El3 (by omega)];exact h
  ·simp only [Ek0 h1] at h;have hn:=Cu4 hg n 0 k [] hg.pos hs h0 (by omega)
   have hx:Dy0 (P6 E l n 0 []) k=As7 (Cr7 E l n 0 k []):=by
    unfold Dy0;rw [Ek1 ⟨h0,by omega⟩,Ek2,hn];rfl
   rw [hx,El2 ⟨h0,by omega⟩];exact h
 ·have h:=Br3 F2 p E l n k (.inr (.inr (by omega))) w hD;have hx:Dy0 (P6 E l n 0 []) k=⟨#[]⟩:=by unfold Dy0;rw [Ek0 (by omega)]
  rw [hx,El3 (by omega)]
  exact h.mono fun e w' he=>by
   cases e with
   |returned v=>exact ⟨he.2,he.1⟩
   |panicked c=>exact he.elim
   |outgrown=>exact he.elim
theorem Dl4 {E:DE} {l:List St} (hg:DGood E l) (hb:E.bytes.Pairwise (·<·)) {v:List Nat} (hs:Z8 (P6 E l v.length 0 []).length):
  (∃ a:Nat,a<(P6 E l v.length 0 []).length∧(P6 E l v.length 0 []).getD a []=v∧Ak2 (P6 E l v.length 0 []) v (P6 E l v.length 0 []).length=(a:Int)∧Aa7 E l v=some (a:Int))∨(Ak2 (P6 E l v.length 0 []) v (P6 E l v.length 0 []).length= -1∧Aa7 E l v=none):=by
 by_cases hm:(l.getD (Bw2 E l v) default).meant=true
 ·by_cases hv:∀ b∈v,b∈E.bytes
  ·obtain ⟨i,h1,h2⟩:=Cj9 hg v 0 [] 0 hg.pos hv hm (by rw [El6];exact hs);rw [Ek8] at h1
   have hil:i<(P6 E l v.length 0 []).length:=by
    rcases Eq7 i (P6 E l v.length 0 []).length with h|h
    ·exact h
    ·rw [El5 h] at h1;cases h1
   have hgi:(P6 E l v.length 0 []).getD i []=v:=by rw [Ek2,h1];rfl
   refine .inl ⟨i,hil,hgi,Bu7 hgi _ (fun j hj hjv=>allW_inj hb hj hil (hjv.trans hgi.symm)) hil,?_⟩;unfold Aa7;rw [Ek1 hm,El6] at*;exact h2
  ·refine .inr ⟨Bl4 _ fun i hi he=>hv ?_,by unfold Aa7;rw [Ek1 hm];exact Bt1 v 0 0 hv⟩;have:=G9 (P6 E l v.length 0 []) [] i hi;rw [he] at this;obtain ⟨u,h1,_,h3,_⟩:=(Aj6 _ _ _ _).1 this;rw [Ek8] at h1;rw [h1];exact h3
 ·refine .inr ⟨Bl4 _ fun i hi he=>hm ?_,by unfold Aa7;rw [Ek0 hm]⟩;have:=G9 (P6 E l v.length 0 []) [] i hi;rw [he] at this;obtain ⟨u,h1,_,_,h4⟩:=(Aj6 _ _ _ _).1 this;rw [Ek8] at h1;rw [h1];exact h4
theorem Dl3 (s:ByteArray) (m nn kk:Int) (hkk:kk≤9223372036854775807) (sw:ByteArray) (w:World) (hL:Laid w):Calls P 9 #[.string s,.int .i64 m,.int .i64 nn,.int .i64 kk,.string sw] w (Ret fun u w'=>u= .bool true∧Chg [] w w'):=by
 have hC:=A8 [] w;have hsl:=E5 sw
 try have hz4:=hL.sz
 refine D4 Tryz.func9 J J (Qd (Zc 1 J (Qd (Z 2 J (Ca fb28 J (Eg8 s m _ hL) ?_)))));rintro v9 w1 ⟨hx1,hb⟩;have hz1:=hx1.size;have hC:=hC.s0 hx1;have hL:=hL.u hx1
 by_cases hc9:∃ cs:List Value,v9= .tuple #[.pointer none,.agg cs.toArray,.int .i64 1]∧cs.all Value.oneCell'=true∧cs.length=5
 ·obtain ⟨cs,rfl,hone,hlen⟩:=hc9
  obtain ⟨a0,a1,a2,a3,a4,rfl⟩:∃ a0 a1 a2 a3 a4,cs=[a0,a1,a2,a3,a4]:=by
   match cs,hlen with
   |[a0,a1,a2,a3,a4],_=>exact ⟨a0,a1,a2,a3,a4,rfl⟩
  refine Z 4 J (B5 J (B8 Ds0 J) ?_);intro b2 w2 hb2 hs2 hx2 hB2;refine Z 1 J (Pb (cs':=[a0,a1,a2,a3,a4]) Dj9 J J hB2 J J hone J J ?_);intro w3 hs3 hx3 hB3;have hC:=hC.step (hx2.j hx3) (by simp<;>omega);have hL:=hL.q (hx2.j hx3) (by simp<;>omega)
  refine Zc 1 J (Qa (Qd (Z 3 J (C0 (d:=34) J (fun g0=>?_) (fun g0=>?_)))))
  ·try simp at g0
   refine Qk J (Qk J (Qk J (Qk J (Z 2 J (Qk J (Qk J (Qk J (Zc 1 J (E3 J (Qd (Ca fb29 J (Ad0 _ hL) ?_)))))))))));rintro _ w4 ⟨rfl,hx4⟩;have hC:=hC.s0 hx4;exact Zc 1 J (A6 (B4 J J ⟨rfl,hC⟩))
  ·try simp at g0
   all_goals simp at g0
 ·rcases hb with hb|⟨t,k,q,l,pd,As,cS,pf,pl,bt,bf,rfl,hBt⟩;exact absurd hb hc9;obtain ⟨hG8,hpl,hA0,hl,hD,hU⟩:=hBt;have hq:q.S.length≤10:=by rw [hA0.len];exact hpl
  have hg:=hD.good;have hlaw:=fun L hL=>ways_law hg (dfa_law (by omega) hl hg) (show SameA t (Bv9 k q 100).k (Bv9 k q 100).q from hA0) L hL
  have hEby:=hg.by_;have hps:=hg.pos;have hrise:=Dq3 k q 100;unfold Br0;generalize Bv9 k q 100=E at*;refine Z 4 J (B5 J (B8 Ds0 J) ?_);intro b5 w5 hb5 hs5 hx5 hB5;refine Z 1 J (Pe Dj9 J ‹_› J J ?_);intro w6 hs6 hx6 hB5;have hC:=hC.step (hx5.j hx6) (by simp<;>omega);have hL:=hL.q (hx5.j hx6) (by simp<;>omega);have hD:=hD.q (hx5.j hx6) (by simp<;>omega);have hU:=hU.q (hx5.j hx6) (by simp<;>omega)
  refine Zc 1 J (Qa (Qd (Z 3 J (C0 (d:=34) J (fun g0=>?_) (fun g0=>?_)))))
  ·try simp at g0
   all_goals simp at g0
  ·try simp at g0
   refine Qu J (Z 1 J (Qu J (Ca fb22 J (Cf0 _ pd E l _ (fun x (hx:x<w1.heap.size)=>by omega) hD) ?_)));rintro _ w7 ⟨hx7,A9,c9,rfl,hO9⟩;have hz7:=hx7.size;have hC:=hC.s0 hx7;have hL:=hL.u hx7;have hD:=hD.u hx7;have hU:=hU.u hx7;have hB5:=hB5.u hx7
   refine Qu J (Ln Tryz.underlying44 J (Qu J (Z 3 J (C0 (d:=40) J (fun g1=>?_) (fun g1=>?_)))))
   ·try simp at g1
    refine Qk J (Qk J (Qk J (Zc 1 J (E3 J (Qd (Ca fb29 J (Ad0 _ hL) ?_))))));rintro _ w8 ⟨rfl,hx8⟩;have hC:=hC.s0 hx8;exact Zc 1 J (A6 (B4 J J ⟨rfl,hC⟩))
   ·try simp at g1
    refine Qu J (Z 1 J (Qu J (C9 J (E9 Tryz.underlying9 J) (Qu J (Zc 2 J (A4 J (fun g2=>?_) (fun g2=>?_)))))))
    ·try simp at g2
     refine Qd (Ca fb29 J (Ad0 _ hL) ?_);rintro _ w9 ⟨rfl,hx9⟩;have hC:=hC.s0 hx9;exact Zc 1 J (A6 (B4 J J ⟨rfl,hC⟩))
    ·try simp at g2
     have hB5l:E.bytes.length≤5:=by omega
     have hsw:sw.size≤4:=by omega
     have hall:∀ n,(Ah9 E.bytes n).filter (posF t)=P6 E l n 0 []:=fun n=>(Eh8 hlaw hEby n).symm
     have hsmall:∀ n,n≤4→Z8 (P6 E l n 0 []).length:=fun n hn=>by have:=Bx4 (l:=l) hB5l hn 0 [];unfold Z8;omega
     by_cases hneg:min nn 4<0
     ·refine A7 (Qd (Z 1 J (C9 J (U9 J J) (Zc 1 J (Qd (Z 3 J (Ca fb33 J (Br3 _ pd E l (min nn 4) kk (.inl hneg) _ hD) ?_)))))));rintro _ w10 ⟨rfl,hx10⟩;have hC:=hC.s0 hx10;have hL:=hL.u hx10
      refine Zc 5 J (Qa (Qd (Zc 2 J (A4 J (fun n1=>?_) (fun n1=>?_)))))
      ·try simp at n1
       refine Qd (Z 1 J (C9 J ((Ae7 J J).to (H5 (show _=true from by simp))) ?_))
       refine Z 1 J (Qu J (Z 1 J (Qu J (Z 3 J (C0 (d:=63) J (fun n2=>?_) (fun n2=>?_))))))
       ·try simp at n2
        refine Qu J (Ca fb29 J (Ad0 _ hL) ?_);rintro _ w11 ⟨rfl,hx11⟩;have hC:=hC.s0 hx11;exact Zc 2 J (A6 (B4 J J ⟨rfl,hC⟩))
       ·try simp at n2
        all_goals simp at n2
      ·try simp at n1
       all_goals (exfalso;omega)
     ·obtain ⟨n,hn⟩:∃ n:Nat,min nn 4=(n:Int):=⟨(min nn 4).toNat,by omega⟩;have hn4:n≤4:=by omega
      refine A7 (Qd (Z 1 J (C9 J ((U9 J J).to (J4 hn)) (Zc 1 J (Qd (Z 3 J (Ca fb33 J (nth31_c _ pd E l n (by omega) kk hkk (hsmall n hn4) _ (fun x (hx:x<w1.heap.size)=>by omega) hD) ?_)))))));rintro _ w12 ⟨hx12,rfl⟩;have hz12:=hx12.size;have hC:=hC.s0 hx12;have hL:=hL.u hx12;have hD:=hD.u hx12;have hU:=hU.u hx12;have hB5:=hB5.u hx12
      refine Zc 5 J (Qa (Qd (Zc 2 J (A4 J (fun n1=>?_) (fun n1=>?_)))))
      ·try simp at n1
       all_goals (exfalso;omega)
      ·try simp at n1
       refine A7 (Qd (Z 1 J (La Cq4 J ‹_› J J ?_)));refine Z 1 J (Ca fb31 J (Eh9 t k q E l pd n hG8 hpl (by omega) (by have:=pow5 hB5l hn4;omega) As cS pf pl bt bf _ _ (fun x (hx:x<w1.heap.size)=>by omega) hD hU) ?_);rintro _ w13 ⟨hx13,Ax,cx,rfl,hOx⟩;have hz13:=hx13.size;have hC:=hC.s0 hx13;have hL:=hL.u hx13;have hD:=hD.u hx13;have hU:=hU.u hx13;have hB5:=hB5.u hx13;rw [hall n] at hOx ⊢;have hX:=hOx.rd (F:=fun x=>x<(World.heap w13).size) (fun _ _ h=>h);generalize hWd:P6 E l n 0 []=W at*
       refine Zc 1 J (Qa (I3 (fun e9 wr=>Sub [(4,.string sw),(11,.pointer (some ⟨pd,0,none⟩)),(12,.pointer (some ⟨b5,0,none⟩)),(98,.bool false)] e9∧Chg [] w wr∧Laid wr∧IsDfa (fun x=>x<w1.heap.size) wr pd E l∧RAu (fun x=>x<w1.heap.size) wr t As pf pl bt bf∧Blk wr b5 [.slice As (P7 t).length cS,.int .i64 (O1 t),.slice (some ⟨pf,0,none⟩) (B9 t) (B9 t),.slice (some ⟨pl,0,none⟩) (B9 t) (B9 t),.slice (some ⟨bt,0,none⟩) (B9 t) (B9 t)] 27∧w1.heap.size≤wr.heap.size) ?_ ?_))
       ·by_cases ho:0≤kk∧kk<(W.length:Int)
        ·have hx1:Dy0 W kk=As7 (W.getD kk.toNat []):=by unfold Dy0;rw [Ek1 ho]
         rw [hx1,El2 ho];have hkl:kk.toNat<W.length:=by omega
         refine Qb (Z 4 J (C0 (d:=73) J (fun a1=>?_) (fun a1=>?_)))
         ·try simp at a1
          refine Qu J (Z 1 J (Qu J (Z 1 J (Qu J (Ln Tryz.underlying49 J (Qu J (Z 2 J (C9 J ((Aj8 Tryz.underlying4 J J).to (H5 (show _=false from by rw [(cmpB_lss kk (W.length:Int)).mpr ho.2];rfl))) ?_))))))));obtain ⟨gA,oA,rfl,_,hltA,hcellA⟩:=hX.at_ (by omega);refine Z 1 J (Qu J (Z 1 J (Qu J (Z 1 J (Qu J (Z 1 J (Qu J (Z 1 J (Qu J (Z 1 J (Qu J (C9 J (B0 sl49 J J (by omega) (by omega)) (Qu J (Lc o9 J (hX.one (By5 W kk.toNat hkl)).2 (Qu J (C9 J ((Cg3 J J).to (H5 (show _=false from by rw [Ba8];simp))) ?_))))))))))))))));refine Qu J (Z 3 J (Qu J (Z 1 J (Qu J (Z 1 J (Qu J (Z 1 J (Qk J (Qk J (Qu J (Zc 2 J ⟨(sb J),?_⟩)))))))))));exact ⟨hC,hL,hD,hU,hB5,by omega⟩
         ·try simp at a1
          all_goals (exfalso;omega)
        ·have hx1:Dy0 W kk=⟨#[]⟩:=by unfold Dy0;rw [Ek0 ho]
         rw [hx1,El3 ho]
         refine Qb (Z 4 J (C0 (d:=73) J (fun a1=>?_) (fun a1=>?_)))
         ·try simp at a1
          refine Qu J (Z 1 J (Qu J (Z 1 J (Qu J (Ln Tryz.underlying49 J (Qu J (Z 2 J (C9 J ((Aj8 Tryz.underlying4 J J).to (H5 (show _=false from by rw [(cmpB_lssF kk (W.length:Int)).mpr (by omega)];rfl))) ?_))))))));refine Z 1 J (Qu J (Z 1 J (Qu J (Z 1 J (Qk J (Qk J (Qk J (Qk J (Qk J (Qk J (Qu J (Z 3 J (Qu J (Z 1 J (Qu J (Z 1 J (Qu J (Z 1 J (Qu J (Z 1 J (Qu J (C9 J ((Cg3 J J).to (H5 (show _=false from by simp))) ?_))))))))))))))))))))));refine Qu J (Zc 2 J ⟨(sb J),?_⟩);exact ⟨hC,hL,hD,hU,hB5,by omega⟩
         ·try simp at a1
          refine Qk J (Qk J (Qk J (Qk J (Z 1 J (C9 J ((Aj8 Tryz.underlying4 J J).to (H5 (show _=false from by rfl))) ?_)))));refine Z 1 J (Qu J (Z 1 J (Qu J (Z 1 J (Qk J (Qk J (Qk J (Qk J (Qk J (Qk J (Qu J (Z 3 J (Qu J (Z 1 J (Qu J (Z 1 J (Qu J (Z 1 J (Qu J (Z 1 J (Qu J (C9 J ((Cg3 J J).to (H5 (show _=false from by simp))) ?_))))))))))))))))))))));refine Qu J (Zc 2 J ⟨(sb J),?_⟩);exact ⟨hC,hL,hD,hU,hB5,by omega⟩
       rintro e9 w30 ⟨hs9,hC,hL,hD,hU,hB5,hz30⟩;refine I2 _ hs9 ?_;clear hs9 e9
       try have hlB5:=hB5.lt
       refine E4 (rfl) (A7 (Qd (Z 1 J (La Cq4 J ‹_› J J ?_))));refine Z 1 J (C9 J (E9 Tryz.underlying9 J) (Ca fb31 J (Eh9 t k q E l pd sw.size hG8 hpl (by omega) (by have:=pow5 hB5l hsw;omega) As cS pf pl bt bf _ _ (fun x (hx:x<w1.heap.size)=>by omega) hD hU) ?_));rintro _ w14 ⟨hx14,Ay,cy,rfl,hOy⟩;have hz14:=hx14.size;have hC:=hC.s0 hx14;have hL:=hL.u hx14;have hD:=hD.u hx14;have hU:=hU.u hx14;have hB5:=hB5.u hx14;rw [hall sw.size] at hOy ⊢;have hY:=hOy.rd (F:=fun x=>x<(World.heap w14).size) (fun _ _ h=>h);have hsy:=hsmall sw.size hsw;have hYm:(P6 E l sw.size 0 []).length≤9223372036854775806:=by have:=Bx4 (l:=l) hB5l hsw 0 [];omega
       have hps2:=Dl4 hg hrise (v:=B6 sw) (by rw [hsl];exact hsy);rw [hsl] at hps2;have hcv:=Aq8 hg (n:=sw.size) (st:=0) [] hps hsy;have hnl:=fun (k:Int) (h0:0≤k) (h1:k<((P6 E l sw.size 0 []).length:Int))=>Cu4 hg sw.size 0 k [] hps hsy h0 h1
       generalize hYd:P6 E l sw.size 0 []=Y at*;generalize hzYd:(World.heap w14).size=hzY at*
       refine Zc 1 J (Qd (Zc 1 J (Qa (Qd (Zc 1 J (B2 (D8 (σ:=Nat) (fun i=>[(4,.string sw),(11,.pointer (some ⟨pd,0,none⟩)),(18,.slice Ay Y.length cy),(19,.int .i64 (Ak2 Y (B6 sw) i)),(20,.int .i64 (i:Nat))]) (fun i wr=>Chg [] w wr∧Laid wr∧IsDfa (fun x=>x<w1.heap.size) wr pd E l∧RAu (fun x=>x<w1.heap.size) wr t As pf pl bt bf∧Blk wr b5 [.slice As (P7 t).length cS,.int .i64 (O1 t),.slice (some ⟨pf,0,none⟩) (B9 t) (B9 t),.slice (some ⟨pl,0,none⟩) (B9 t) (B9 t),.slice (some ⟨bt,0,none⟩) (B9 t) (B9 t)] 27∧w1.heap.size≤wr.heap.size∧Rd (fun x=>x<hzY) wr 1 Ay Y.length (strs Y)∧i≤Y.length) (fun i wr=>Y.length - i) 0 (sb J) ?_ ?_)))))))
       ·exact ⟨hC,hL,hD,hU,hB5,by omega,hY,El0 _⟩
       rintro i w40 ⟨hC,hL,hD,hU,hB5,hz40,hY,hi⟩
       try have hlB5:=hB5.lt
       refine Qa (Qd (Z 2 J (Ln Tryz.underlying49 J (Zc 1 J (A4 J (fun g5=>?_) (fun g5=>?_))))))
       ·try simp at g5
        have hil:i<Y.length:=by omega
        obtain ⟨gA,oA,rfl,_,hltA,hcellA⟩:=hY.at_ (by omega)
        have hY8:∀ b∈Y.getD i [],b<256:=fun b hb=>by
         have:=G9 Y [] i hil;rw [← hYd] at this;obtain ⟨u,h1,_,h3,_⟩:=(Aj6 _ _ _ _).1 this;rw [hYd,Ek8] at h1;rw [h1] at hb;exact hEby b (h3 b hb)
        refine A7 (Qa (B2 (Qd (Z 2 J (C9 J (B0 sl49 J J (by omega) (by omega)) (Lc o9 J (hY.one (By5 Y i hil)).2 (Z 1 J (C9 J (Ae7 J J) (Qc (A4 J (fun m1=>?_) (fun m1=>?_)))))))))))
        ·rw [Ba8,Ag0 _ hY8] at m1;refine Qb (Zc 2 J (Qb (Z 1 J (Ad J J (by omega) (Zc 1 J ⟨i+1,⟨rfl,rfl,rfl,(G2 J (by rw [Ak2,Ek1 (Eo7 m1)])),rfl,trivial⟩,?_,?_⟩)))));exact ⟨hC,hL,hD,hU,hB5,by omega,hY,hil⟩;show Y.length - (i+1)<Y.length - i;omega
        ·rw [Ba8,Ag0 _ hY8] at m1;refine A7 (Qb (Z 1 J (Ad J J (by omega) (Zc 1 J ⟨i+1,⟨rfl,rfl,rfl,(G2 J (by rw [Ak2,Ek0 (Et7 m1)])),rfl,trivial⟩,?_,?_⟩))));exact ⟨hC,hL,hD,hU,hB5,by omega,hY,hil⟩;show Y.length - (i+1)<Y.length - i;omega
       ·try simp at g5
        have hii:i=Y.length:=by omega
        rw [hii];refine Xb (Qd (Z 2 J (Ca fb34 J (Da2 _ pd E l sw (by omega) _ (fun x (hx:x<w1.heap.size)=>by omega) hD) ?_)));rintro _ w15 ⟨hx15,rfl⟩;have hz15:=hx15.size;have hC:=hC.s0 hx15;have hL:=hL.u hx15;have hD:=hD.u hx15;have hY:=hY.u hx15
        by_cases hin:Aa7 E l (B6 sw)=none
        ·have hla:Ak2 Y (B6 sw) Y.length= -1:=by rcases hps2 with ⟨a,_,_,_,h4⟩|⟨h3,_⟩;rw [h4] at hin;cases hin;exact h3
         rw [hin];unfold Ck0;rw [hla];refine Zc 5 J (Qd (Z 2 J (Ca fb35 J (Da5 _ pd E l sw (by omega) (fun k hk=>by rcases hps2 with ⟨a,h1,_,_,h4⟩|⟨_,h4⟩;rw [h4] at hk;injection hk with hk;unfold Z8 at hsy;omega;rw [h4] at hk;cases hk) _ (fun x (hx:x<w1.heap.size)=>by omega) hD) ?_)));rintro v7 w16 ⟨hx16,hv7⟩;have hC:=hC.s0 hx16;have hL:=hL.u hx16;rw [hin] at hv7;simp only [] at hv7;subst hv7;refine Zc 5 J (Qa (Qd (Z 3 J (C9 J ((Aj8 Tryz.underlying4 J J).to (H5 (show _=false from by rfl))) ?_))));refine Z 1 J (Qu J (Z 1 J (Qu J (Z 1 J (Qu J (C9 J (Y9 J J) (Qu J (C9 J ((Bh5 J J J).to (H5 (show _=false from by rw [Eu1,Ne,cmpB_neq];omega))) ?_))))))))
         refine Zc 1 J (E4 J (A7 (Qa (Qd (Z 3 J (C0 (d:=141) J (fun b1=>?_) (fun b1=>?_)))))))
         ·try simp at b1
          refine Qk J (Qk J (Qk J (Qk J (Qk J (Zc 1 J (E3 J (Qd (Z 3 J (C0 (d:=150) J (fun b2=>?_) (fun b2=>?_))))))))))
          ·try simp at b2
           refine Qu J (Z 1 J (Qu J (C9 J ((Ae7 J J).to (H5 (show _=true from by simp))) ?_)));refine Z 2 J (Qu J (Ca fb29 J (Ad0 _ hL) ?_));rintro _ w17 ⟨rfl,hx17⟩;have hC:=hC.s0 hx17;exact Zc 2 J (A6 (B4 J J ⟨rfl,hC⟩))
          ·try simp at b2
           all_goals simp at b2
         ·try simp at b1
          all_goals simp at b1
        ·obtain ⟨a,ha1,ha2,ha3,ha4⟩:∃ a:Nat,a<Y.length∧Y.getD a []=B6 sw∧Ak2 Y (B6 sw) Y.length=(a:Int)∧Aa7 E l (B6 sw)=some (a:Int):=by
          rcases hps2 with h|⟨_,h4⟩
          ·exact h
          ·exact absurd h4 hin
         rw [ha4];unfold Ck0;rw [ha3];refine Zc 5 J (Qd (Z 2 J (Ca fb35 J (Da5 _ pd E l sw (by omega) (fun k hk=>by rcases hps2 with ⟨a,h1,_,_,h4⟩|⟨_,h4⟩;rw [h4] at hk;injection hk with hk;unfold Z8 at hsy;omega;rw [h4] at hk;cases hk) _ (fun x (hx:x<w1.heap.size)=>by omega) hD) ?_)));rintro v7 w18 ⟨hx18,hv7⟩;have hC:=hC.s0 hx18;have hL:=hL.u hx18;have hY:=hY.u hx18;rw [ha4] at hv7;simp only [hcv] at hv7
         by_cases hlast:(Y.length:Int)≤(a:Int)+1
         ·rw [Ek1 hlast] at hv7;subst hv7;refine Zc 5 J (Qa (Qd (Z 3 J (C9 J ((Aj8 Tryz.underlying4 J J).to (H5 (show _=false from by rw [(cmpB_geq (a:Int) 0).mpr (by omega)];rfl))) ?_))));refine Z 1 J (Qu J (Z 1 J (Qu J (Z 1 J (Qu J (C9 J (Y9 J J) (Qu J (C9 J ((Bh5 J J J).to (H5 (show _=false from by rw [Eu1,Ne,cmpB_neq];omega))) ?_))))))))
          refine Zc 1 J (E4 J (A7 (Qa (Qd (Z 3 J (C0 (d:=141) J (fun b1=>?_) (fun b1=>?_)))))))
          ·try simp at b1
           all_goals (exfalso;omega)
          ·try simp at b1
           refine Qu J (Z 1 J (Qu J (Ad J J (by omega) (Qu J (Z 1 J (Qu J (Ln Tryz.underlying49 J (Qu J (Zc 2 J (A4 J (fun b3=>?_) (fun b3=>?_)))))))))))
           ·try simp at b3
            refine Qd (Z 3 J (C0 (d:=150) J (fun b2=>?_) (fun b2=>?_)))
            ·try simp at b2
             refine Qu J (Z 1 J (Qu J (C9 J ((Ae7 J J).to (H5 (show _=true from by simp))) ?_)));refine Z 2 J (Qu J (Ca fb29 J (Ad0 _ hL) ?_));rintro _ w19 ⟨rfl,hx19⟩;have hC:=hC.s0 hx19;exact Zc 2 J (A6 (B4 J J ⟨rfl,hC⟩))
            ·try simp at b2
             all_goals simp at b2
           ·try simp at b3
            all_goals (exfalso;omega)
         ·rw [Ek0 hlast] at hv7;subst hv7;refine Zc 5 J (Qa (Qd (Z 3 J (C9 J ((Aj8 Tryz.underlying4 J J).to (H5 (show _=false from by rw [(cmpB_geq (a:Int) 0).mpr (by omega)];rfl))) ?_))));refine Z 1 J (Qu J (Z 1 J (Qu J (Z 1 J (Qu J (C9 J (Y9 J J) (Qu J (C9 J ((Bh5 J J J).to (H5 (show _=false from by rw [Eu1,Ne,cmpB_neq];omega))) ?_))))))))
          refine Zc 1 J (E4 J (A7 (Qa (Qd (Z 3 J (C0 (d:=141) J (fun b1=>?_) (fun b1=>?_)))))))
          ·try simp at b1
           all_goals (exfalso;omega)
          ·try simp at b1
           refine Qu J (Z 1 J (Qu J (Ad J J (by omega) (Qu J (Z 1 J (Qu J (Ln Tryz.underlying49 J (Qu J (Zc 2 J (A4 J (fun b3=>?_) (fun b3=>?_)))))))))))
           ·try simp at b3
            all_goals (exfalso;omega)
           ·try simp at b3
            have hal:a+1<Y.length:=by omega
            have hgn:=hnl ((a:Int)+1) (by omega) (by omega);rw [show ((a:Int)+1).toNat=a+1 by omega] at hgn;have hgn2:Y.getD (a+1) []=Cr7 E l sw.size 0 ((a:Int)+1) []:=by rw [Ek2,hgn];rfl
            obtain ⟨gA,oA,rfl,_,hltA,hcellA⟩:=hY.at_ (by omega)
            refine A7 (Qd (Z 2 J (C0 (d:=158) J (fun b4=>?_) (fun b4=>?_))))
            ·try simp at b4
             refine Qu J (Z 1 J (Qu J (Z 1 J (Qu J (Z 1 J (Qu J (Ad J J (by omega) (Qu J (C9 J (B0 sl49 J J (by omega) (by omega)) (Qu J (Lc o9 J (by have h:=(hY.one (By5 Y (a+1) hal)).2;rw [hgn2] at h;rw [show ((a:Int)+1).toNat=a+1 by omega];exact h) ?_)))))))))));refine Qu J (C9 J ((Ae7 J J).to (H5 (show _=true from by simp))) ?_);refine Z 2 J (Qu J (Ca fb29 J (Ad0 _ hL) ?_));rintro _ w20 ⟨rfl,hx20⟩;have hC:=hC.s0 hx20;exact Zc 2 J (A6 (B4 J J ⟨rfl,hC⟩))
            ·try simp at b4
             all_goals simp at b4
end Go.Clt
