import Derived.Test.YtckdapbopihofaaGreatDoorDs7
/- All states, in order, each by its word, where they lead, which are meant; or that there are more than the budget (DfaStates). Conditions: none beyond the statement's own. A part of that proof: Ref43, Ref44, LawW, LawG, LawH, Ref45, Ref46, LawT, LawJ. Conditions: none beyond the statement's own. By an AI agent; no person has read it. -/
set_option linter.unusedVariables false
set_option linter.unusedSimpArgs false
set_option maxRecDepth 8000
set_option maxHeartbeats 4000000
namespace Go.Clt
open Go Go.RowKit Go.Proofs
structure RAu (F:Nat→Prop) (w:World) (t:R8) (As:Option Addr) (pf pl bt:Nat) (bf:List Nat):Prop where
 rs:Rd F w 4 As (G7 t).length (F6 (G7 t))
 ff:F pf
 first:Blk w pf (J2 (J8 t 0 (B3 t) false)) 3
 fl:F pl
 last:Blk w pl (J2 (J8 t 0 (B3 t) true)) 3
 ft:F bt
 tab:Blk w bt (X7 (B3 t) bf) 24
 rows:RowsB F w (B3 t) bf (V4 t)
theorem RAu.q {F:Nat→Prop} {w w':World} {t:R8} {As:Option Addr} {pf pl bt:Nat} {bf:List Nat} {S:List Nat} (h:RAu F w t As pf pl bt bf) (c:Chg S w w') (hS:∀ b∈S,¬ F b):RAu F w' t As pf pl bt bf:=
 ⟨h.rs.q c hS,h.ff,h.first.q c (fun hm=>hS _ hm h.ff),h.fl,h.last.q c (fun hm=>hS _ hm h.fl),h.ft,h.tab.q c (fun hm=>hS _ hm h.ft),h.rows.q c hS⟩
theorem RAu.u {F:Nat→Prop} {w w':World} {t:R8} {As:Option Addr} {pf pl bt:Nat} {bf:List Nat} (h:RAu F w t As pf pl bt bf) (c:Chg [] w w'):RAu F w' t As pf pl bt bf:=h.q c (by simp)
def Bp8 (t:R8) (As:Option Addr) (cS pf pl bt:Nat):List Value:=[.slice As (G7 t).length cS,.int .i64 (M0 t),.slice (some ⟨pf,0,none⟩) (B3 t) (B3 t),.slice (some ⟨pl,0,none⟩) (B3 t) (B3 t),.slice (some ⟨bt,0,none⟩) (B3 t) (B3 t)]
theorem RAuto.open {F:Nat→Prop} {w:World} {t:R8} {cs:List Value} (h:RAuto F w t cs):∃ As cS pf pl bt bf,cs=Bp8 t As cS pf pl bt∧RAu F w t As pf pl bt bf:=by
 obtain ⟨As,cS,pf,pl,bt,bs,h1,h2,h3,h4,h5,h6,h7,h8,h9⟩:=h;exact ⟨As,cS,pf,pl,bt,bs,h1,h2,h3,h4,h5,h6,h7,h8,h9⟩
def Dp5 (t:R8) (L:List Nat) (i p:Nat):Bool:=((G7 t).getD p 0).testBit (L.getD i 0)
def inF (t:R8) (f:BagF) (p:Nat) (q:Nat):Int:=(List.range q).foldl (fun a x=>Z8 a (Ac6 (f x) (((V4 t).getD x []).getD p 0))) 0
theorem Bz7 (t:R8) (f:BagF) (p q:Nat):inF t f p (q+1)=Z8 (inF t f p q) (Ac6 (f q) (((V4 t).getD q []).getD p 0)):=by
 unfold inF;rw [El8,El3,Ep7,Eo8]
theorem inF_ok (t:R8) (f:BagF) (p:Nat):∀ q,0≤inF t f p q∧inF t f p q≤9223372036854775807
 |0=>by unfold inF;rw [List.range_zero,Eo8];omega
 |q+1=>by rw [Bz7];exact N7 _ _
def Ab0 (t:R8) (L:List Nat):Nat→BagF
 |0=>fun p=>if Dp5 t L 0 p then (J8 t 0 (B3 t) false).getD p 0 else 0
 |i+1=>fun p=>if Dp5 t L (i+1) p then inF t (Ab0 t L i) p (B3 t) else 0
def Cq6 (t:R8) (L:List Nat) (i p q:Nat):Int:=if i=0 then (J8 t 0 (B3 t) false).getD p 0 else inF t (Ab0 t L (i - 1)) p q
theorem Cy9 {t:R8} {L:List Nat} {i p:Nat} (h:Dp5 t L i p=true):Ab0 t L i p=Cq6 t L i p (B3 t):=by
 unfold Cq6
 cases i with
 |zero=>rw [Ab0];dsimp only;rw [Ei4 h,Ei4 rfl]
 |succ i=>rw [Ab0];dsimp only;rw [Ei4 h,Ei3 (by omega)];rfl
theorem Cy8 {t:R8} {L:List Nat} {i p:Nat} (h:Dp5 t L i p=false):Ab0 t L i p=0:=by
 cases i with
 |zero=>rw [Ab0];dsimp only;rw [h];rfl
 |succ i=>rw [Ab0];dsimp only;rw [h];rfl
theorem Dq2 {t:R8} {L:List Nat} {i p q:Nat} (hg:G8 t):0≤Cq6 t L i p q∧Cq6 t L i p q≤9223372036854775807:=by
 unfold Cq6
 split
 ·exact (X2 t hg 0 (B3 t) false).2.get p
 ·exact inF_ok t _ p q
theorem Dq3 {t:R8} {L:List Nat} {i p:Nat} (hg:G8 t):0≤Ab0 t L i p∧Ab0 t L i p≤9223372036854775807:=by
 cases h:Dp5 t L i p
 ·rw [Cy8 h];omega
 ·rw [Cy9 h];exact Dq2 hg
def Bp2 (f:BagF) (p:Nat) (y:Int):BagF:=fun x=>if x<p then f x else if x=p then y else 0
theorem Dw9 (f:BagF) (n:Nat):Z4 (Bp2 f 0 0) n=List.replicate n 0:=by
 unfold Z4;rw [List.eq_replicate_iff];refine ⟨by simp,fun x hx=>?_⟩;obtain ⟨y,_,rfl⟩:=En6.1 hx;unfold Bp2;rw [Ei3 (by omega)]
 split<;>rfl
theorem Dc4 (f:BagF) (p n:Nat) (y z:Int) (hp:p<n):(J2 (Z4 (Bp2 f p y) n)).take p++[.int .i64 z]++(J2 (Z4 (Bp2 f p y) n)).drop (p+1)=J2 (Z4 (Bp2 f p z) n):=by
 rw [Y4 _ _ _ (by rw [G4,M9];exact hp)];apply Ek5;intro j;unfold J2 Z4;simp only [El1,Ek2,En2,Eo7,Bp2]
 by_cases hj:p=j
 ·subst hj;simp [hp,Bp2]
 ·rw [Ei3 hj]
  by_cases h2:j<n
  ·simp [h2,Ne.symm hj,Bp2]
  ·simp [h2]
theorem Cj4 {f:BagF} {p:Nat} {y:Int} (n:Nat) (h:y=f p):Z4 (Bp2 f p y) n=Z4 (Bp2 f (p+1) 0) n:=by
 unfold Z4;apply Er0;intro x hx;unfold Bp2
 by_cases h1:x<p
 ·rw [Ei4 h1,Ei4 (by omega)]
 ·by_cases h2:x=p
  ·rw [Ei3 h1,Ei4 h2,Ei4 (by omega),h2];exact h
  ·rw [Ei3 h1,Ei3 h2,Ei3 (by omega)];split<;>rfl
theorem midV_end (f:BagF) (n:Nat):Z4 (Bp2 f n 0) n=Z4 f n:=by
 unfold Z4;apply Er0;intro x hx;unfold Bp2;rw [Ei4 (Ek4.1 hx)]
def vecG (t:R8) (L:List Nat):List BagF:=(List.range L.length).map (Ab0 t L)
theorem Be9 {t:R8} {L:List Nat} {i:Nat} (h:i<L.length):(vecG t L).getD i Q9=Ab0 t L i:=by
 unfold vecG;rw [Ei5,Ek2,Ek8 h];rfl
theorem rvec_c (t:R8) (hg:G8 t) (hn:B3 t≤1000) (s:ByteArray) (hs:s.size≤1000) (As:Option Addr) (cS pf pl bt:Nat) (bf:List Nat) (F:Nat→Prop) (w:World) (hF:∀ x,F x→x<w.heap.size) (hU:RAu F w t As pf pl bt bf):Calls P 49 #[.agg (Bp8 t As cS pf pl bt).toArray,.string s] w (Ret fun u w'=>Chg [] w w'∧∃ A c bs,u= .slice A s.size c∧Own w' w.heap.size 24 1 A s.size c (Az6 (B3 t) bs)∧bs.length=s.size∧GR w' w.heap.size bs (vecG t (B8 s)) (B3 t)):=by
 have hC:=A8 [] w;have hsl:=E4 s;have hlt:=T9 s;have hSl:=Ac7 t hg;have hel:=X2 t hg 0 (B3 t) false;unfold Bp8;rw [hSl];generalize hn':B3 t=n at*;refine D6 Tryz.func49 J J (Qd (B7 J (E1 J J) ?_));intro b1 w1 hb1 hs1 hx1 hB1;have hC:=hC.s0 hx1;have hU:=hU.u hx1
 refine Zc 1 J (Qd (Zc 1 J (Qa (Qd (Zc 1 J (B2 (D9 (σ:=Nat × Option Addr × Nat × List Nat) (fun (i,A,c,bs)=>[(1,.string s),(2,.pointer (some ⟨b1,0,none⟩)),(5,.slice A i c),(6,.int .i64 (i:Nat))]) (fun (i,A,c,bs) wr=>Chg [] w wr∧RAu F wr t As pf pl bt bf∧Blk wr b1 [.slice As n cS,.int .i64 (M0 t),.slice (some ⟨pf,0,none⟩) n n,.slice (some ⟨pl,0,none⟩) n n,.slice (some ⟨bt,0,none⟩) n n] 27∧Own wr (b1+1) 24 1 A i c (Az6 n bs)∧GR wr (b1+1) bs (vecG t (B8 s)) n∧bs.length=i∧i≤s.size) (fun (i,A,c,bs) wr=>s.size - i) (0,none,0,[]) ⟨rfl,rfl,rfl,rfl,trivial⟩ ?_ ?_)))))))
 ·exact ⟨hC,hU,hB1,Own.nil _ _ _ _,fun i hi=>absurd hi (by simp),rfl,Ej2 _⟩
 rintro ⟨i,A,c,bs⟩ w20 ⟨hC,hU,hB1,hO,hG,hbl,hi⟩
 try have hlB1:=hB1.lt
 refine Qa (Qd (Z 2 J (C9 J (F5 Tryz.underlying9 J) (Zc 1 J (A4 J (fun h1=>?_) (fun h1=>?_))))))
 ·try simp at h1
  have hil:i<s.size:=by omega
  have hbS0:∀ x∈bs,x<w20.heap.size:=fun x hx=>by obtain ⟨_,cs',hb⟩:=hG.mem hx;exact hb.lt
  refine A7 (Qa (B2 (Qd (Fa Bd1 J (Lb o23 J ‹_› (by rfl) ?_)))));refine Ln Tryz.underlying23 J (B7 J (P0 De2 zr3 J (cs:=J2 (List.replicate n 0)) (by omega) (by omega) (by show (madeCells #[_] (((n:Nat):Int).toNat*1)).toList=_;rw [Ej1,Em7,T5];simp [J2])) ?_);intro b2 w2 hb2 hs2 hx2 hBv;have hC:=hC.s0 hx2;have hU:=hU.u hx2;have hB1:=hB1.u hx2;have hO:=hO.u hx2;have hG:=hG.u hx2;have hbS:∀ x∈bs,x<b2:=fun x hx=>by have:=hbS0 x hx;omega
  refine Zc 1 J (Qa (Qd (Zc 1 J (B2 (D9 (σ:=Nat) (fun p=>[(1,.string s),(2,.pointer (some ⟨b1,0,none⟩)),(5,.slice A i c),(6,.int .i64 (i:Nat)),(7,.slice (some ⟨b2,0,none⟩) n n),(8,.int .i64 (p:Nat))]) (fun p wr=>Chg [] w wr∧RAu F wr t As pf pl bt bf∧Blk wr b1 [.slice As n cS,.int .i64 (M0 t),.slice (some ⟨pf,0,none⟩) n n,.slice (some ⟨pl,0,none⟩) n n,.slice (some ⟨bt,0,none⟩) n n] 27∧Own wr (b1+1) 24 1 A i c (Az6 n bs)∧GR wr (b1+1) bs (vecG t (B8 s)) n∧Blk wr b2 (J2 (Z4 (Bp2 (Ab0 t (B8 s) i) p 0) n)) 3∧p≤n) (fun p wr=>n - p) 0 ⟨rfl,rfl,rfl,rfl,rfl,rfl,trivial⟩ ?_ ?_)))))
  ·exact ⟨hC,hU,hB1,hO,hG,by rw [Dw9];exact hBv,Ej2 _⟩
  rintro p w40 ⟨hC,hU,hB1,hO,hG,hBv,hp⟩
  try have hlB1:=hB1.lt
  refine Qa (Qd (Z 2 J (Ln Tryz.underlying24 J (Zc 1 J (A4 J (fun h2=>?_) (fun h2=>?_))))))
  ·try simp at h2
   have hpn:p<n:=by omega
   have hbS2:∀ x∈bs,x∉[b2]:=fun x hx=>by have:=hbS x hx;simp;omega
   have hOB:=hO.offBlk hBv (by decide);obtain ⟨u8,hu,hu2⟩:=J4 s i hil;have hby:=hlt _ (I0 (B8 s) 0 i (by omega));refine A7 (Qa (B2 (Qa (Qa (C8 (S:=[]) 9 [(0,0),(0,1),(0,2),(0,3),(0,4),(0,5),(0,6),(0,7),(0,8),(2,9),(2,10)] mo (by kernel_rfl) ?_)))));intro w3 hx3 hh3;have hC:=hC.s0 hx3;have hU:=hU.u hx3;have hB1:=hB1.u hx3;have hO:=hO.u hx3;have hG:=hG.u hx3;have hBv:=hBv.u hx3;obtain ⟨g,off,rfl,hFg,hltc,hcell⟩:=hU.rs.at_ (by rw [hSl];omega);refine Fa Bd1 J (D5 J (B4 o23 J ‹_› (by simp;done) (by rfl)) ?_);refine Z 1 J (D5 J (C3 Al5 J J (by omega) (by omega)) (D5 J (J1 (vs:=C4 ((G7 t).getD p 0)) J7 J ⟨by have:=hU.rs;omega,fun j v hj=>by rw [Ek6];exact hcell (p*4+j) v (by have hj4:j<4:=(Ej9.1 hj).1;rw [L0 (G7 t) p j (by omega) hj4];exact hj)⟩ (by simp;done) J) ?_));refine Z 2 J (D5 J (Does.to (F1 Tryz.underlying9 J J (by omega) (by exact hu)) (K1 (show ((u8.toNat:Nat):Int)=(((B8 s).getD i 0:Nat):Int) by rw [hu2]))) ?_);refine D5 J (H1 kn5 Tryz.underlying3 J (by exact I8 (by omega))) ?_;refine Ca fb52 J (Cg9 ((G7 t).getD p 0) ((B8 s).getD i 0) hby _) ?_;rintro _ w4 ⟨rfl,hx4⟩;have hC:=hC.s0 hx4;have hU:=hU.u hx4;have hB1:=hB1.u hx4;have hO:=hO.u hx4;have hG:=hG.u hx4;have hBv:=hBv.u hx4
   refine Zc 1 J (A4 J (fun h3=>?_) (fun h3=>?_))
   ·try simp at h3
    refine Xb (Qb (Z 1 J (Ad J J (by omega) (Zc 1 J ⟨p+1,⟨rfl,rfl,rfl,rfl,rfl,rfl,trivial⟩,?_,?_⟩))));exact ⟨hC,hU,hB1,hO,hG,by rw [← Cj4 n (Cy8 (by simpa [Dp5] using h3)).symm];exact hBv,hpn⟩;show n - (p+1)<n - p;omega
   ·try simp at h3
    have h3':Dp5 t (B8 s) i p=true:=by simpa [Dp5] using h3
    refine A7 (I6 (fun e9 wr=>Sub [(1,.string s),(2,.pointer (some ⟨b1,0,none⟩)),(5,.slice A i c),(6,.int .i64 (i:Nat)),(7,.slice (some ⟨b2,0,none⟩) n n),(8,.int .i64 (p:Nat))] e9∧Chg [] w wr∧RAu F wr t (some ⟨g,off,none⟩) pf pl bt bf∧Blk wr b1 [.slice (some ⟨g,off,none⟩) n cS,.int .i64 (M0 t),.slice (some ⟨pf,0,none⟩) n n,.slice (some ⟨pl,0,none⟩) n n,.slice (some ⟨bt,0,none⟩) n n] 27∧Own wr (b1+1) 24 1 A i c (Az6 n bs)∧GR wr (b1+1) bs (vecG t (B8 s)) n∧Blk wr b2 (J2 (Z4 (Bp2 (Ab0 t (B8 s) i) p (Cq6 t (B8 s) i p 0)) n)) 3) ?_ ?_)
    ·refine Qd (Zc 2 J (A4 J (fun g1=>?_) (fun g1=>?_)))
     ·try simp at g1
      refine Qb (Z 2 J (Fa fl27_2 J (Lb o24 J ‹_› (by rfl) ?_)));refine Z 1 J (C9 J (B1 U0 J J (by omega) (by omega)) (Lc o3 J (by rw [hU.first.cell,Ek3,hn'];exact K5 _ p (by rw [hel.1];exact hpn)) ?_));refine C9 J (B1 U0 J J (by omega) (by omega)) (Pb (cs':=(J2 (Z4 (Bp2 (Ab0 t (B8 s) i) p ((J8 t 0 n false).getD p 0)) n))) sz3 J J hBv J J J (by rw [G4,M9,En9];omega) (by rw [Ej1,Ek3];exact Dc4 _ _ _ _ _ hpn) ?_);intro w5 hs5 hx5 hBv;have hC:=hC.step hx5 (by simp;omega);have hU:=hU.q hx5 (by intro b hb hFb;have:=hF _ hFb;simp at hb;omega);have hB1:=hB1.q hx5 (by simp;omega);have hO:=(by exact hO.keep hx5 ‹_›);have hG:=hG.q hx5 ‹_›;refine Qc ⟨⟨rfl,rfl,rfl,rfl,rfl,rfl,trivial⟩,?_⟩;exact ⟨hC,hU,hB1,hO,hG,by unfold Cq6;rw [Ei4 (by omega),hn'];exact hBv⟩
     ·try simp at g1
      refine A7 ⟨⟨rfl,rfl,rfl,rfl,rfl,rfl,trivial⟩,?_⟩;exact ⟨hC,hU,hB1,hO,hG,by unfold Cq6;rw [Ei3 (by omega)];exact hBv⟩
    rintro e9 w50 ⟨hs9,hC,hU,hB1,hO,hG,hBv⟩;refine I5 _ hs9 ?_;clear hs9 e9
    refine Qd (Zc 1 J (B2 (D9 (σ:=Nat) (fun q=>[(1,.string s),(2,.pointer (some ⟨b1,0,none⟩)),(5,.slice A i c),(6,.int .i64 (i:Nat)),(7,.slice (some ⟨b2,0,none⟩) n n),(8,.int .i64 (p:Nat)),(9,.int .i64 (q:Nat))]) (fun q wr=>Chg [] w wr∧RAu F wr t (some ⟨g,off,none⟩) pf pl bt bf∧Blk wr b1 [.slice (some ⟨g,off,none⟩) n cS,.int .i64 (M0 t),.slice (some ⟨pf,0,none⟩) n n,.slice (some ⟨pl,0,none⟩) n n,.slice (some ⟨bt,0,none⟩) n n] 27∧Own wr (b1+1) 24 1 A i c (Az6 n bs)∧GR wr (b1+1) bs (vecG t (B8 s)) n∧Blk wr b2 (J2 (Z4 (Bp2 (Ab0 t (B8 s) i) p (Cq6 t (B8 s) i p q)) n)) 3∧q≤n) (fun q wr=>n - q) 0 ⟨rfl,rfl,rfl,rfl,rfl,rfl,rfl,trivial⟩ ?_ ?_)))
    ·exact ⟨hC,hU,hB1,hO,hG,hBv,Ej2 _⟩
    rintro q w60 ⟨hC,hU,hB1,hO,hG,hBv,hq⟩
    refine Qa (I6 (fun e9 wr=>Sub [(1,.string s),(2,.pointer (some ⟨b1,0,none⟩)),(5,.slice A i c),(6,.int .i64 (i:Nat)),(7,.slice (some ⟨b2,0,none⟩) n n),(8,.int .i64 (p:Nat)),(9,.int .i64 (q:Nat)),(54,.bool (decide (q<n∧0<i)))] e9∧Chg [] w wr∧RAu F wr t (some ⟨g,off,none⟩) pf pl bt bf∧Blk wr b1 [.slice (some ⟨g,off,none⟩) n cS,.int .i64 (M0 t),.slice (some ⟨pf,0,none⟩) n n,.slice (some ⟨pl,0,none⟩) n n,.slice (some ⟨bt,0,none⟩) n n] 27∧Own wr (b1+1) 24 1 A i c (Az6 n bs)∧GR wr (b1+1) bs (vecG t (B8 s)) n∧Blk wr b2 (J2 (Z4 (Bp2 (Ab0 t (B8 s) i) p (Cq6 t (B8 s) i p q)) n)) 3) ?_ ?_)
    ·refine Qb (Z 2 J (Ln Tryz.underlying24 J (Z 2 J (C0 (d:=51) J (fun g2=>?_) (fun g2=>?_)))))
     ·try simp at g2
      refine Qu J (Z 1 J (Qu J (Zc 2 J ⟨⟨rfl,rfl,rfl,rfl,rfl,rfl,rfl,(G3 J (by rw [Ej7,cmpB_gtr,Ej8];omega)),trivial⟩,?_⟩)));exact ⟨hC,hU,hB1,hO,hG,hBv⟩
     ·try simp at g2
      refine Qk J (Qk J (Zc 1 J ⟨⟨rfl,rfl,rfl,rfl,rfl,rfl,rfl,(G3 J (by rw [Ej6 (by omega)])),trivial⟩,?_⟩));exact ⟨hC,hU,hB1,hO,hG,hBv⟩
    rintro e9 w70 ⟨hs9,hC,hU,hB1,hO,hG,hBv⟩;refine I5 _ hs9 ?_;clear hs9 e9
    refine A4 J (fun q3=>?_) (fun q3=>?_)
    ·have q3:=Em3 q3;have hqn:q<n:=q3.1;obtain ⟨j,rfl⟩:∃ j,i=j+1:=⟨i - 1,by omega⟩;have hOB:=hO.offBlk hBv (by decide);have hvj:∀ x,0≤Ab0 t (B8 s) j x∧Ab0 t (B8 s) j x≤9223372036854775807:=fun x=>Dq3 hg
     have hmid:∀ (f:BagF) (y:Int),Bp2 f p y p=y:=fun f y=>by unfold Bp2;rw [Ei3 (by omega),Ei4 J]
     have hy:=Dq2 (t:=t) (L:=B8 s) (i:=j+1) (p:=p) (q:=q) hg;refine A7 (Qa (B2 (C8 (S:=[]) 24 [(0,0),(0,1),(0,2),(0,3),(0,4),(0,5),(0,6),(0,7),(0,8),(0,9),(0,10),(0,11),(0,12),(0,13),(0,14),(0,15),(0,16),(0,17),(0,18),(0,19),(0,20),(0,21),(1,22),(1,23),(2,24),(2,25)] mo (by kernel_rfl) ?_)));intro w6 hx6 hh6;have hz6:=hx6.size;have hC:=hC.s0 hx6;have hU:=hU.u hx6;have hB1:=hB1.u hx6;have hO:=hO.u hx6;have hG:=hG.u hx6;have hBv:=hBv.u hx6;have hCS6:=A8 ([]) w6;obtain ⟨hne,hBq,hlq,hrq⟩:=hU.rows.row q (by omega);obtain ⟨hjl,hBj⟩:=hG j (by omega);rw [Be9 (by omega)] at hBj;have hmq:=hrq.get p;refine Z 4 J (D5 J (B1 U0 J J (by omega) (by omega)) (D5 J (D7 o3 J (by rw [hBv.cell,Ek3,Ej1,K5 _ p (by rw [M9];exact hpn),Ap4 _ _ _ hpn,hmid]) (by simp;done)) ?_));obtain ⟨g9,o9,rfl,_,hlt9,hcell9⟩:=(hO.rd (F:=fun _=>True) (fun _ _ _=>trivial)).at_ (by omega);refine Z 2 J (Su J J (by omega) (D5 J (B1 sl25 J J (by omega) (by omega)) (D5 J (D7 o24 J (by rw [show ((((j+1:Nat):Int) - 1).toNat)=j by omega];exact ((hO.rd (F:=fun _=>True) (fun _ _ _=>trivial)).one (Bh7 n bs j (by omega))).2) (by simp;done)) ?_)));refine Z 1 J (D5 J (B1 U0 J J (by omega) (by omega)) (D5 J (D7 o3 J (by rw [hBj.cell,Ek3,Ej1,K5 _ q (by rw [M9];exact hqn),Ap4 _ _ _ hqn]) (by simp;done)) ?_));refine Fa fl27_4 J (D5 J (B4 o25 J ‹_› (by simp;done) (by rfl)) ?_);refine Z 1 J (D5 J (B1 sl25 J J (by omega) (by omega)) (D5 J (D7 o24 J (by rw [hU.tab.cell,Ek3];exact Bh6 _ bf q (by rw [hU.rows.lb];omega)) (by simp;done)) ?_));refine Z 1 J (D5 J (B1 U0 J J (by omega) (by omega)) (D5 J (D7 o3 J (by rw [hBq.cell,Ek3];exact K5 _ p (by omega)) (by simp;done)) ?_));refine C5 J (C1 fb50 J) (Cz9 (Ab0 t (B8 s) j q) (((V4 t).getD q []).getD p 0) (hvj q).2 hmq.2 _) ?_;rintro _ _ ⟨rfl,rfl⟩;refine ⟨hCS6,?_⟩;refine C5 J (C1 Cq0 J) (Ab2 (Cq6 t (B8 s) (j+1) p q) (Ac6 (Ab0 t (B8 s) j q) (((V4 t).getD q []).getD p 0)) hy.2 (V6 _ _).2 _) ?_;rintro _ _ ⟨rfl,rfl⟩;refine ⟨hCS6,?_⟩;refine C9 J (B1 U0 J J (by omega) (by omega)) (Pb (cs':=(J2 (Z4 (Bp2 (Ab0 t (B8 s) (j+1)) p (Cq6 t (B8 s) (j+1) p (q+1))) n))) sz3 J J hBv J J J (by rw [G4,M9,En9];omega) (by rw [Ej1,Ek3];unfold Cq6;rw [Ei3 (by omega),Ei3 (by omega),Bz7];exact Dc4 _ _ _ _ _ hpn) ?_);intro w9 hs9 hx9 hBv;have hC:=hC.step hx9 (by simp;omega);have hU:=hU.q hx9 (by intro b hb hFb;have:=hF _ hFb;simp at hb;omega);have hB1:=hB1.q hx9 (by simp;omega);have hO:=(by exact hO.keep hx9 ‹_›);have hG:=hG.q hx9 ‹_›;refine Qc (Qb (Z 1 J (Ad J J (by omega) (Zc 1 J ⟨q+1,⟨rfl,rfl,rfl,rfl,rfl,rfl,rfl,trivial⟩,?_,?_⟩))));exact ⟨hC,hU,hB1,hO,hG,hBv,hqn⟩;show n - (q+1)<n - q;omega
    ·have q3:=Eq2 q3
     have hfin:Cq6 t (B8 s) i p q=Ab0 t (B8 s) i p:=by
      rw [Cy9 h3',hn'];unfold Cq6
      by_cases h0:i=0
      ·rw [Ei4 h0,Ei4 h0]
      ·rw [Ei3 h0,Ei3 h0,show q=n by omega]
     rw [hfin,Cj4 n J] at hBv;refine Xb (Qb (Z 1 J (Ad J J (by omega) (Zc 1 J ⟨p+1,⟨rfl,rfl,rfl,rfl,rfl,rfl,trivial⟩,?_,?_⟩))));exact ⟨hC,hU,hB1,hO,hG,hBv,hpn⟩;show n - (p+1)<n - p;omega
  ·try simp at h2
   have hpp:p=n:=by omega
   subst hpp;rw [midV_end] at hBv;have hGA:∀ x∈bs,x∉F9 A:=fun x hx hm=>by obtain ⟨_,cs',hb⟩:=hG.mem hx;exact hO.offBlk hb (by decide) x hm (by simp)
   have hOb:=hO.blk;have hvA:b2∉F9 A:=fun h=>hO.offBlk hBv (by decide) b2 h (by simp)
   refine Xb (Qb (Z 2 J (B7 J (B6 sl25 Tryz.underlying25 zr24 J J J (by rfl)) ?_)));intro b10 w10 hb10 hs10 hx10 hB10;have hC:=hC.s0 hx10;have hU:=hU.u hx10;have hB1:=hB1.u hx10;have hO:=hO.u hx10;have hG:=hG.u hx10;have hBv:=hBv.u hx10;refine G2 J el25 J J hO (Blk.rd (F:=fun _=>True) ‹_› J trivial) (by rfl) (by omega) (by omega) ?_;intro A' c' w11 hO11 hx11 hA';have hC:=hC.step hx11 (by intro x h;have:=hOb x h;exact .inr (by omega));have hU:=hU.q hx11 (by intro x hx hf;have:=hOb x hx;have:=hF x hf;omega);have hB1:=hB1.q hx11 (by intro h;have:=hOb _ h;omega);have hG:=hG.q hx11 ‹_›;have hBv:=hBv.q hx11 ‹_›
   replace hO:=hO11
   refine Zc 1 J (Qb (Z 1 J (Ad J J (by omega) (Zc 1 J ⟨(i+1,A',c',bs++[b2]),⟨rfl,rfl,rfl,rfl,trivial⟩,?_,?_⟩))));refine ⟨hC,hU,hB1,?_,hG.snoc (by omega) (by rw [hbl,Be9 (by omega)];exact hBv),by simp [hbl],hil⟩;unfold Az6;rw [Em6];exact hO;show s.size - (i+1)<s.size - i;omega
 ·try simp at h1
  have hkk:i=s.size:=by omega
  subst hkk;exact Xb (Qd (Zc 2 J (A6 (B5 J J ⟨hC,A,c,bs,rfl,hO.lower (by omega),hbl,fun i hi=>⟨by have:=(hG i hi).1;omega,(hG i hi).2⟩⟩))))
def Dp4 (t:R8) (f:BagF) (p:Nat):Int:=(List.range p).foldl (fun a x=>Z8 a (Ac6 (f x) ((J8 t 0 (B3 t) true).getD x 0))) 0
theorem Bj0 (t:R8) (f:BagF) (p:Nat):Dp4 t f (p+1)=Z8 (Dp4 t f p) (Ac6 (f p) ((J8 t 0 (B3 t) true).getD p 0)):=by
 unfold Dp4;rw [El8,El3,Ep7,Eo8]
theorem outF_ok (t:R8) (f:BagF):∀ p,0≤Dp4 t f p∧Dp4 t f p≤9223372036854775807
 |0=>by unfold Dp4;rw [List.range_zero,Eo8];omega
 |p+1=>by rw [Bj0];exact N7 _ _
def Dp9 (t:R8) (L:List Nat):Int:=if L.length=0 then M0 t else Dp4 t (Ab0 t L (L.length - 1)) (B3 t)
theorem rways_c (t:R8) (hg:G8 t) (hn:B3 t≤1000) (s:ByteArray) (hs:s.size≤1000) (As:Option Addr) (cS pf pl bt:Nat) (bf:List Nat) (F:Nat→Prop) (w:World) (hF:∀ x,F x→x<w.heap.size) (hU:RAu F w t As pf pl bt bf):Calls P 21 #[.agg (Bp8 t As cS pf pl bt).toArray,.string s] w (Ret fun u w'=>u= .int .i64 (Dp9 t (B8 s))∧Chg [] w w'):=by
 have hC:=A8 [] w;have hsl:=E4 s;have hSl:=Ac7 t hg;have hel:=X2 t hg 0 (B3 t) true;have hW:Dp9 t (B8 s)=if s.size=0 then M0 t else Dp4 t (Ab0 t (B8 s) (s.size - 1)) (B3 t):=by unfold Dp9;rw [hsl]
 rw [hW];unfold Bp8;refine D6 Tryz.func21 J J (Qd (B7 J (E1 J J) ?_));intro b1 w1 hb1 hs1 hx1 hB1;have hC:=hC.s0 hx1;have hU:=hU.u hx1
 refine Zc 1 J (Qa (Qd (Z 1 J (C9 J (Dh5 J J) (Qc (A4 J (fun h0=>?_) (fun h0=>?_)))))))
 ·have h0:s.size=0:=by rw [Bw6] at h0;have:=Em3 h0;rw [← hsl,this];rfl
  refine Qd (Fa fl27_1 J (Lb o3 J ‹_› (by rfl) ?_));exact Zc 1 J (A6 (B5 J J ⟨by rw [Ei4 h0],hC⟩))
 ·have h0:¬ s.size=0:=by rw [Bw6] at h0;intro hz;refine absurd ?_ (Eq2 h0);show B8 s=[];exact Eo5 (by omega)
  rw [Ei3 h0];refine A7 (Qd (La Eg2 J ‹_› J J ?_));refine Z 1 J (Ca fb49 J (rvec_c t hg hn s hs As cS pf pl bt bf F _ (fun z hz=>by have:=hF z hz;omega) hU) ?_);rintro v9 w2 ⟨hx2,A,c,bs,rfl,hO,hbl,hG⟩;have hC:=hC.s0 hx2;have hU:=hU.u hx2;have hB1:=hB1.u hx2;obtain ⟨hjl,hBj⟩:=hG (s.size - 1) (by omega);rw [Be9 (by omega)] at hBj;have hrd:=hO.rd (F:=fun x=>x<w2.heap.size) (fun _ _ h=>h)
  refine Zc 1 J (Qd (Zc 1 J (Qa (Qd (Zc 1 J (B2 (D9 (σ:=Nat) (fun p=>[(1,.string s),(2,.pointer (some ⟨b1,0,none⟩)),(5,.slice A s.size c),(6,.int .i64 (Dp4 t (Ab0 t (B8 s) (s.size - 1)) p)),(7,.int .i64 (p:Nat))]) (fun p wr=>Chg [] w wr∧RAu F wr t As pf pl bt bf∧Blk wr b1 [.slice As (G7 t).length cS,.int .i64 (M0 t),.slice (some ⟨pf,0,none⟩) (B3 t) (B3 t),.slice (some ⟨pl,0,none⟩) (B3 t) (B3 t),.slice (some ⟨bt,0,none⟩) (B3 t) (B3 t)] 27∧Rd (fun x=>x<w2.heap.size) wr 1 A s.size (Az6 (B3 t) bs)∧Blk wr (bs.getD (s.size - 1) 0) (J2 (Z4 (Ab0 t (B8 s) (s.size - 1)) (B3 t))) 3∧p≤B3 t) (fun p wr=>B3 t - p) 0 (sb J) ?_ ?_)))))))
  ·exact ⟨hC,hU,hB1,hrd,hBj,Ej2 _⟩
  rintro p w40 ⟨hC,hU,hB1,hrd,hBj,hp⟩;refine Qa (Qd (Z 1 J (Fa Bd1 J (Lb o23 J ‹_› (by rfl) ?_))))
  refine Ln Tryz.underlying23 J (Zc 1 J (A4 J (fun h1=>?_) (fun h1=>?_)))
  ·try simp at h1
   have hpn:p<B3 t:=by omega
   have hy:=outF_ok t (Ab0 t (B8 s) (s.size - 1)) p;have hv:=Dq3 (t:=t) (L:=B8 s) (i:=s.size - 1) (p:=p) hg;have hl:=hel.2.get p;refine A7 (Qa (B2 (C8 (S:=[]) 16 [(0,0),(0,1),(0,2),(0,3),(0,4),(0,5),(0,6),(0,7),(0,8),(0,9),(0,10),(0,11),(0,12),(0,13),(0,14),(1,15),(2,16),(2,17)] mo (by kernel_rfl) ?_)));intro w3 hx3 hh3;have hz3:=hx3.size;have hC:=hC.s0 hx3;have hU:=hU.u hx3;have hB1:=hB1.u hx3;have hrd:=hrd.u hx3;have hBj:=hBj.u hx3;have hCS3:=A8 ([]) w3;obtain ⟨g9,o9,rfl,_,hlt9,hcell9⟩:=hrd.at_ (by omega);refine Z 3 J (D5 J (F5 Tryz.underlying9 J) (Su J J (by omega) (D5 J (B1 sl25 J J (by omega) (by omega)) (D5 J (D7 o24 J (by rw [show ((((s.size:Nat):Int) - 1).toNat)=s.size - 1 by omega];exact (hrd.one (Bh7 _ bs (s.size - 1) (by omega))).2) (by simp;done)) ?_))));refine Z 1 J (D5 J (B1 U0 J J (by omega) (by omega)) (D5 J (D7 o3 J (by rw [hBj.cell,Ek3,Ej1,K5 _ p (by rw [M9];exact hpn),Ap4 _ _ _ hpn]) (by simp;done)) ?_));refine Fa fl27_3 J (D5 J (B4 o24 J ‹_› (by simp;done) (by rfl)) ?_);refine Z 1 J (D5 J (B1 U0 J J (by omega) (by omega)) (D5 J (D7 o3 J (by rw [hU.last.cell,Ek3];exact K5 _ p (by rw [hel.1];exact hpn)) (by simp;done)) ?_));refine C5 J (C1 fb50 J) (Cz9 (Ab0 t (B8 s) (s.size - 1) p) ((J8 t 0 (B3 t) true).getD p 0) hv.2 hl.2 _) ?_;rintro _ _ ⟨rfl,rfl⟩;refine ⟨hCS3,?_⟩;refine Ca Cq0 J (Ab2 (Dp4 t (Ab0 t (B8 s) (s.size - 1)) p) (Ac6 (Ab0 t (B8 s) (s.size - 1) p) ((J8 t 0 (B3 t) true).getD p 0)) hy.2 (V6 _ _).2 _) ?_;rintro _ _ ⟨rfl,rfl⟩;refine Zc 1 J (Qb (Z 1 J (Ad J J (by omega) (Zc 1 J ⟨p+1,⟨rfl,rfl,rfl,(G0 J (by rw [Bj0])),rfl,trivial⟩,?_,?_⟩))));exact ⟨hC,hU,hB1,hrd,hBj,hpn⟩;show B3 t - (p+1)<B3 t - p;omega
  ·try simp at h1
   have hpp:p=B3 t:=by omega
   subst hpp;exact Xb (Qd (Zc 2 J (A6 (B5 J J ⟨rfl,hC⟩))))
end Go.Clt
section
namespace Go.Clt
open Go Go.RowKit
theorem Cy7 (t:R8) {L M:List Nat}:∀ i,(∀ j,j≤i→L.getD j 0=M.getD j 0)→Ab0 t L i=Ab0 t M i
 |0,h=>by
  funext p
  rw [Ab0,Ab0];unfold Dp5;rw [h 0 (Ej5 _)]
 |i+1,h=>by
  funext p
  rw [Ab0,Ab0,Cy7 t i (fun j hj=>h j (by omega))];unfold Dp5;rw [h (i+1) (Ej5 _)]
theorem Dz0 (t:R8) (f:BagF) (p:Nat):∀ q,0<inF t f p q↔∃ x,x<q∧0<f x∧0<((V4 t).getD x []).getD p 0
 |0=>by unfold inF;simp
 |q+1=>by
  rw [Bz7,Ap3,Ap2,Dz0 t f p q]
  constructor
  ·rintro (⟨x,h1,h2⟩|h)
   ·exact ⟨x,by omega,h2⟩
   ·exact ⟨q,by omega,h⟩
  ·rintro ⟨x,h1,h2⟩
   by_cases hx:x<q
   ·exact .inl ⟨x,hx,h2⟩
   ·have:x=q:=by omega
    subst this;exact .inr h2
theorem Db0 (t:R8) (f:BagF):∀ q,0<Dp4 t f q↔∃ x,x<q∧0<f x∧0<(J8 t 0 (B3 t) true).getD x 0
 |0=>by unfold Dp4;simp
 |q+1=>by
  rw [Bj0,Ap3,Ap2,Db0 t f q]
  constructor
  ·rintro (⟨x,h1,h2⟩|h)
   ·exact ⟨x,by omega,h2⟩
   ·exact ⟨q,by omega,h⟩
  ·rintro ⟨x,h1,h2⟩
   by_cases hx:x<q
   ·exact .inl ⟨x,hx,h2⟩
   ·have:x=q:=by omega
    subst this;exact .inr h2
theorem Bg3 {t:R8} {E:DE} (h:SameA t E.k E.q):∀ L:List Nat,L≠[]→∀ p,p∈Q5 E L↔p<B3 t∧0<Ab0 t L (L.length - 1) p:=by
 suffices H:∀ R:List Nat,R≠[]→∀ p,p∈Q5 E R.reverse↔p<B3 t∧0<Ab0 t R.reverse (R.length - 1) p by
  intro L hne p;have:=H L.reverse (by simpa using hne) p
  rwa [List.reverse_reverse,List.length_reverse] at this
 intro R
 induction R with
 |nil=>intro h;exact absurd rfl h
 |cons b r ih=>
  intro _ p;rw [List.reverse_cons]
  have hlast:(r.reverse++[b]).getD r.length 0=b:=by
   rw [Ei5,Ek9 (by simp)];simp
  by_cases hr:r=[]
  ·subst hr;show p∈U7 E.k E.q b↔_;rw [Ef8,h.len,h.S];refine and_congr_right fun hp=>?_
   show _↔0<Ab0 t [b] 0 p;rw [Ab0,h.kn.first p hp];dsimp only;unfold Dp5;show (((G7 t).getD p 0).testBit b=true∧_)↔0<if ((G7 t).getD p 0).testBit b=true then _ else _
   by_cases hb:((G7 t).getD p 0).testBit b=true
   ·rw [Ei4 hb];exact ⟨fun h=>h.2,fun h=>⟨hb,h⟩⟩
   ·rw [Ei3 hb];exact iff_of_false (fun h=>hb h.1) (by omega)
  ·have hl:0<r.length:=List.length_pos_iff.2 hr;rw [Ad4 E (by simpa using hr),next_mem,h.len,h.S];refine and_congr_right fun hp=>?_
   obtain ⟨j,hj⟩:∃ j,r.length=j+1:=⟨r.length - 1,by omega⟩;show _↔0<Ab0 t (r.reverse++[b]) (r.length+1 - 1) p;rw [Nat.add_sub_cancel,hj,Ab0];dsimp only;unfold Dp5;rw [← hj,hlast]
   have hpre:Ab0 t (r.reverse++[b]) j=Ab0 t r.reverse j:=Cy7 t j fun m hm=>by
    rw [Ei5,El2 (by simp;omega),← Ei5]
   rw [hpre]
   have hal:∀ x,x∈Q5 E r.reverse↔x<B3 t∧0<Ab0 t r.reverse j x:=fun x=>by
    rw [ih hr x,hj];exact Iff.rfl
   by_cases hb:((G7 t).getD p 0).testBit b=true
   ·rw [Ei4 hb,Dz0]
    constructor
    ·rintro ⟨_,x,h1,h2⟩;obtain ⟨h3,h4⟩:=(hal x).1 h1;exact ⟨x,h3,h4,(h.fol x p h3 hp).1 h2⟩
    ·rintro ⟨x,h3,h4,h5⟩;exact ⟨hb,x,(hal x).2 ⟨h3,h4⟩,(h.fol x p h3 hp).2 h5⟩
   ·rw [Ei3 hb];exact iff_of_false (fun h=>hb h.1) (by omega)
theorem ways_law {t:R8} {E:DE} {l:List St} (hg:DGood E l) (hl:DLaw E l) (h:SameA t E.k E.q) (L:List Nat) (hL:∀ b∈L,b<256):(l.getD (Cf2 E l L) default).meant=decide (0<Dp9 t L):=by
 rw [Dx3 hg hl L hL];unfold Dp9
 by_cases h0:L.length=0
 ·rw [Ei4 h0,Ei4 h0,decide_eq_decide];exact h.kn.void
 ·rw [Ei3 h0,Ei3 h0,Ej7,Ek1,Db0];unfold Cv8;rw [Ep3];simp only [Ei8,Ek1];have hne:L≠[]:=fun he=>h0 (by rw [he];rfl)
  constructor
  ·rintro ⟨x,h1,h2,h3⟩;obtain ⟨h4,h5⟩:=(Bg3 h L hne x).1 h1;exact ⟨x,h4,h5,(h.kn.last x h4).1 h3⟩
  ·rintro ⟨x,h4,h5,h6⟩;exact ⟨x,(Bg3 h L hne x).2 ⟨h4,h5⟩,by rw [h.len];exact h4,(h.kn.last x h4).2 h6⟩
end Go.Clt
end
namespace Go.Clt
open Go Go.RowKit Go.Proofs
def Ad3 (f:Nat→Bool) (n:Nat):List Value:=(List.range n).map fun x=>.bool (f x)
theorem Co1 (f:Nat→Bool) (n:Nat):(Ad3 f n).length=n:=by simp [Ad3]
theorem Co2 (f:Nat→Bool) (n x:Nat) (h:x<n):(Ad3 f n)[x]?=some (.bool (f x)):=by simp [Ad3,h]
theorem Dg1 (n:Nat):List.replicate n (Value.bool false)=Ad3 (fun _=>false) n:=by
 unfold Ad3;rw [eq_comm,List.eq_replicate_iff];refine ⟨by simp,fun x hx=>?_⟩;obtain ⟨_,_,rfl⟩:=En6.1 hx
 rfl
theorem Cd3 {f g:Nat→Bool} {n:Nat} (h:∀ x,x<n→f x=g x):Ad3 f n=Ad3 g n:=by
 unfold Ad3;exact Er0 fun x hx=>by rw [h x (Ek4.1 hx)]
end Go.Clt
section
namespace Go.Clt
open Go Go.RowKit
def Ck1 (t:R8) (b c q:Nat):Bool:=(List.range q).all fun j=>((G7 t).getD j 0).testBit b==((G7 t).getD j 0).testBit c
def Bp4 (t:R8) (b c:Nat):Bool:=Ck1 t b c (B3 t)
def An7 (t:R8) (out:List Nat) (b i:Nat):Bool:=(out.take i).all fun c=> !Bp4 t b c
def I2 (t:R8):Nat→List Nat
 |0=>[]
 |k+1=>if (I2 t k).all (fun c=> !Bp4 t k c) then I2 t k++[k] else I2 t k
theorem Bt0 (t:R8) (b c q:Nat):Ck1 t b c (q+1)=(Ck1 t b c q && (((G7 t).getD q 0).testBit b==((G7 t).getD q 0).testBit c)):=by
 unfold Ck1;rw [El8,List.all_append];simp
theorem Ct8 (t:R8) (out:List Nat) (b i:Nat) (hi:i<out.length):An7 t out b (i+1)=(An7 t out b i && !Bp4 t b (out.getD i 0)):=by
 unfold An7;rw [Er5,Ei7 hi,List.all_append,Ei5,Ei7 hi];simp
theorem Ct9 (t:R8) (out:List Nat) (b i:Nat) (h:i=out.length∨An7 t out b i=false):An7 t out b i=out.all fun c=> !Bp4 t b c:=by
 rcases h with rfl|h
 ·unfold An7;rw [Em0 (Ej5 _)]
 ·rw [h,eq_comm,Eq9];intro ha;refine Eq9.1 h ?_;unfold An7;rw [En1] at ha ⊢;exact fun c hc=>ha c (List.mem_of_mem_take hc)
theorem Cl1 (t:R8):∀ k,(∀ b∈I2 t k,b<k)∧(I2 t k).length≤k
 |0=>⟨fun b hb=>(by cases hb),Ej5 _⟩
 |k+1=>by
  obtain ⟨h1,h2⟩:=Cl1 t k;rw [I2]
  split
  ·refine ⟨fun b hb=>?_,by simp;omega⟩
   rcases El7.1 hb with hb|hb
   ·have:=h1 b hb;omega
   ·rw [Ei6] at hb;omega
  ·exact ⟨fun b hb=>by have:=h1 b hb;omega,by omega⟩
theorem like_iff {t:R8} (hS:(G7 t).length=B3 t) {b c:Nat} (hb:b<256) (hc:c<256):Bp4 t b c=true↔(E6 (G7 t)).1.getD b 0=(E6 (G7 t)).1.getD c 0:=by
 rw [(Ah2 (G7 t)).same b c hb hc];unfold Bp4 Ck1;rw [En1]
 constructor
 ·intro h s hs;obtain ⟨i,hi,rfl⟩:=Ep4.1 hs;have:=h i (Ek4.2 (by omega));rw [Ei5,Ei7 hi] at this
  simpa using this
 ·intro h j hj;have hj:=Ek4.1 hj;have:=h _ (I0 (G7 t) 0 j (by omega))
  simpa using this
theorem Dz2 {t:R8} (hS:(G7 t).length=B3 t):I2 t 256=Y0 (E6 (G7 t)).1 (E6 (G7 t)).2:=by
 have hrise:=(Ah2 (G7 t)).rise;have hall:=(Ah2 (G7 t)).all;have hok:=Aq2 (G7 t);have hli:=fun (i:Nat) (h:i<(E6 (G7 t)).2)=>Bk4 (G7 t) h
 have hlk:=fun (b c:Nat) (hb:b<256) (hc:c<256)=>like_iff hS hb hc
 generalize (E6 (G7 t)).1=f at*;generalize (E6 (G7 t)).2=n at*
 have key:∀ k,k≤256→∃ m,m≤n∧I2 t k=Y0 f m∧(∀ c,c<k→f.getD c 0<m)∧∀ i,i<m→∃ c,c<k∧f.getD c 0=i:=by
  intro k
  induction k with
  |zero=>exact fun _=>⟨0,Ej2 _,rfl,fun c hc=>absurd hc (Nat.not_lt_zero _),fun i hi=>absurd hi (Nat.not_lt_zero _)⟩
  |succ k ih=>
   intro hk;obtain ⟨m,h1,h2,h3,h4⟩:=ih (by omega);have hfk:=hok.2.1 k (by omega);rw [I2,h2]
   by_cases hc:f.getD k 0<m
   ·obtain ⟨a1,a2,_⟩:=hli (f.getD k 0) hfk
    rw [Ei3]
    ·refine ⟨m,h1,rfl,fun c hck=>?_,fun i hi=>?_⟩
     ·by_cases h:c<k
      ·exact h3 c h
      ·rw [show c=k by omega];exact hc
     ·obtain ⟨c,h5,h6⟩:=h4 i hi;exact ⟨c,by omega,h6⟩
    ·intro ha;rw [En1] at ha;have:=ha (K2 (I4 f 256 (f.getD k 0))) (by unfold Y0;exact En6.2 ⟨f.getD k 0,Ek4.2 hc,rfl⟩);rw [(hlk k _ (by omega) a1).2 a2.symm] at this
     cases this
   ·have hkm:f.getD k 0=m:=by
     refine Nat.le_antisymm (Nat.le_of_not_lt fun h=>?_) (by omega);obtain ⟨c,h5,h6⟩:=hrise k m (by omega) h;have:=h3 c h5;rw [h6] at this;omega
    have hmn:m<n:=by omega
    obtain ⟨a1,a2,a3⟩:=hli m hmn
    have hleast:K2 (I4 f 256 m)=k:=by
     rcases Nat.lt_trichotomy (K2 (I4 f 256 m)) k with h|h|h
     ·have:=h3 _ h;rw [a2] at this;omega
     ·exact h
     ·exact absurd hkm (a3 k h)
    rw [Ei4]
    ·refine ⟨m+1,hmn,?_,fun c hck=>?_,fun i hi=>?_⟩
     ·unfold Y0;rw [El8,Em6];show _=_++[K2 (I4 f 256 m)];rw [hleast]
     ·by_cases h:c<k
      ·have:=h3 c h;omega
      ·rw [show c=k by omega];omega
     ·by_cases h:i<m
      ·obtain ⟨c,h5,h6⟩:=h4 i h;exact ⟨c,by omega,h6⟩
      ·exact ⟨k,by omega,by omega⟩
    ·rw [En1];intro c hcm;unfold Y0 at hcm;obtain ⟨i,hi,rfl⟩:=En6.1 hcm;have hi:=Ek4.1 hi;obtain ⟨b1,b2,_⟩:=hli i (by omega);rw [Bool.not_eq_true',Eq9];intro hl;have:=(hlk k _ (by omega) b1).1 hl;omega
 obtain ⟨m,h1,h2,h3,h4⟩:=key 256 (Ej5 _)
 have:m=n:=by
  refine Nat.le_antisymm h1 (Nat.le_of_not_lt fun h=>?_);obtain ⟨b,hb,hv⟩:=hall m h;have:=h3 b hb;omega
 rw [h2,this]
end Go.Clt
end
namespace Go.Clt
open Go Go.RowKit Go.Proofs
def Cf3 (t:R8) (L:List Nat) (p:Nat):Bool:=decide (L.length≠0) && decide (0<Ab0 t L (L.length - 1) p)
theorem Ef3 {f g:Nat→Bool} {n x:Nat} {v:Bool} (hx:x<n) (h:∀ y,g y=if y=x then v else f y):(Ad3 f n).take x++[Value.bool v]++(Ad3 f n).drop (x+1)=Ad3 g n:=by
 rw [Y4 _ _ _ (by rw [Co1];exact hx)];apply Ek5;intro j;unfold Ad3;simp only [El1,Ek2,En2,Eo7]
 by_cases hj:x=j
 ·subst hj;simp [hx,h]
 ·rw [Ei3 hj]
  by_cases h2:j<n
  ·simp [h2,h,Ne.symm hj]
  ·simp [h2]
theorem Co8 (t:R8) (hg:G8 t) (hn:B3 t≤1000) (s:ByteArray) (hs:s.size≤1000) (As:Option Addr) (cS pf pl bt:Nat) (bf:List Nat) (F:Nat→Prop) (w:World) (hF:∀ x,F x→x<w.heap.size) (hU:RAu F w t As pf pl bt bf):Calls P 25 #[.agg (Bp8 t As cS pf pl bt).toArray,.string s] w (Ret fun u w'=>Chg [] w w'∧∃ b,u= .slice (some ⟨b,0,none⟩) (G7 t).length (G7 t).length∧w.heap.size≤b∧Blk w' b (Ad3 (Cf3 t (B8 s)) (G7 t).length) 4):=by
 have hC:=A8 [] w;have hsl:=E4 s;have hSl:=Ac7 t hg;have hal:∀ p,Cf3 t (B8 s) p=(decide (s.size≠0) && decide (0<Ab0 t (B8 s) (s.size - 1) p)):=fun p=>by unfold Cf3;rw [hsl]
 unfold Bp8;refine D6 Tryz.func25 J J (Qd (B7 J (E1 J J) ?_));intro b1 w1 hb1 hs1 hx1 hB1;refine Zc 1 J (Qd (Fa Bd1 J (Lb o23 J ‹_› (by rfl) ?_)));refine Ln Tryz.underlying23 J (B7 J (P0 el43 zr4 J (cs:=List.replicate (G7 t).length (.bool false)) (by omega) (by omega) (by show (madeCells #[_] ((((G7 t).length:Nat):Int).toNat*1)).toList=_;rw [Ej1,Em7,T5])) ?_);intro b2 w2 hb2 hs2 hx2 hB2;have hC:=hC.s0 (hx1.s0 hx2);have hU:=hU.u (hx1.s0 hx2);have hB1:=hB1.u hx2
 refine Zc 1 J (Qa (Qd (Z 1 J (C9 J (F5 Tryz.underlying9 J) (Zc 1 J (A4 J (fun h0=>?_) (fun h0=>?_)))))))
 ·have h0:s.size=0:=by rw [cmpB_eql] at h0;omega
  exact Qd (Zc 2 J (A6 (B5 J J ⟨hC,b2,rfl,by omega,by rw [show Ad3 (Cf3 t (B8 s)) (G7 t).length=List.replicate (G7 t).length (.bool false) by rw [Dg1];exact Cd3 fun x _=>by rw [hal,Ej6 (by omega)];rfl];exact hB2⟩)))
 ·have h0:¬ s.size=0:=by rw [cmpB_eqlF] at h0;omega
  have hB2:Blk w2 b2 (Ad3 (fun _=>false) (G7 t).length) 4:=by rw [← Dg1];exact hB2
  refine A7 (Qd (La Eg2 J ‹_› J J ?_));refine Z 1 J (Ca fb49 J (rvec_c t hg hn s hs As cS pf pl bt bf F _ (fun z hz=>by have:=hF z hz;omega) (by exact hU)) ?_);rintro v9 w3 ⟨hx3,A,c,bs,rfl,hO,hbl,hG⟩;have hC:=hC.s0 hx3;have hB2:=hB2.u hx3;obtain ⟨hjl,hBj⟩:=hG (s.size - 1) (by omega);rw [Be9 (by omega)] at hBj;have hrd:=hO.rd (F:=fun x=>x<(World.heap w3).size) (fun _ _ h=>h);obtain ⟨g9,o9,rfl,_,hlt9,hcell9⟩:=hrd.at_ (by omega);refine Z 1 J (C9 J (F5 Tryz.underlying9 J) (Su J J (by omega) (C9 J (B1 sl25 J J (by omega) (by omega)) (Lc o24 J (by rw [show ((((s.size:Nat):Int) - 1).toNat)=s.size - 1 by omega];exact (hrd.one (Bh7 _ bs (s.size - 1) (by omega))).2) ?_))));refine Zc 1 J (Qa (Qd ?_));have hbj:bs.getD (s.size - 1) 0∉[b2]:=fun h=>by have:=Ei6.1 h;omega
  refine Zc 1 J (B2 (D9 (σ:=Nat) (fun q=>[(5,.slice (some ⟨b2,0,none⟩) (G7 t).length (G7 t).length),(6,.slice (some ⟨bs.getD (s.size - 1) 0,0,none⟩) (B3 t) (B3 t)),(7,.int .i64 (q:Nat))]) (fun q wr=>Chg [] w wr∧Blk wr b2 (Ad3 (fun x=>decide (x<q) && Cf3 t (B8 s) x) (G7 t).length) 4∧Blk wr (bs.getD (s.size - 1) 0) (J2 (Z4 (Ab0 t (B8 s) (s.size - 1)) (B3 t))) 3∧q≤B3 t) (fun q wr=>B3 t - q) 0 (sb J) ?_ ?_))
  ·exact ⟨hC,by rw [Cd3 (g:=fun _=>false) (fun x _=>by simp)];exact hB2,hBj,Ej2 _⟩
  rintro q w40 ⟨hC,hB2,hBj,hq⟩
  refine Qa (Qd (Z 2 J (Ln Tryz.underlying24 J (Zc 1 J (A4 J (fun h1=>?_) (fun h1=>?_))))))
  ·try simp at h1
   have hqn:q<B3 t:=by omega
   have hqs:q<(G7 t).length:=by omega
   have hput:∀ y,(fun x=>decide (x<q+1) && Cf3 t (B8 s) x) y=if y=q then Z0 .gtr (Ab0 t (B8 s) (s.size - 1) q) 0 else (fun x=>decide (x<q) && Cf3 t (B8 s) x) y:=fun y=>by
    by_cases hy:y=q
    ·rw [Ei4 hy,hy];dsimp only;rw [Ej4 (by omega),Eo3,hal,Ej4 (by omega),Eo3,Ej7,cmpB_gtr,Ej8]
    ·rw [Ei3 hy];dsimp only
     congr 1
     rw [decide_eq_decide];omega
   refine A7 (Qa (B2 (Qb (Z 4 J (C9 J (B1 U0 J J (by omega) (by omega)) (Lc o3 J (by rw [hBj.cell,Ek3,Ej1,K5 _ q (by rw [M9];exact hqn),Ap4 _ _ _ hqn]) ?_))))));refine Z 1 J (C9 J (B1 Dr6 J J (by omega) (by omega)) (Pb (cs':=(Ad3 (fun x=>decide (x<q+1) && Cf3 t (B8 s) x) (G7 t).length)) sz4 J J hB2 J J J (by rw [Co1,En9];omega) (by rw [Ej1,Ek3];exact Ef3 hqs hput) ?_));intro w4 hs4 hx4 hB2;have hC:=hC.step hx4 (by simp;omega);have hBj:=hBj.q hx4 ‹_›;refine Qc (Qb (Z 1 J (Ad J J (by omega) (Zc 1 J ⟨q+1,sb J,?_,?_⟩))));exact ⟨hC,hB2,hBj,hqn⟩;show B3 t - (q+1)<B3 t - q;omega
  ·try simp at h1
   exact Xb (Qd (Zc 2 J (A6 (B5 J J ⟨hC,b2,rfl,by omega,by rw [Cd3 (g:=fun x=>decide (x<q) && Cf3 t (B8 s) x) (fun x hx=>by rw [Ej4 (by omega),Eo3])];exact hB2⟩))))
theorem same26_c (f g:Nat→Bool) (n ba bb:Nat) (hn:n≤1000000) (w:World) (hA:Blk w ba (Ad3 f n) 4) (hB:Blk w bb (Ad3 g n) 4):Calls P 26 #[.slice (some ⟨ba,0,none⟩) n n,.slice (some ⟨bb,0,none⟩) n n] w (Ret fun u w'=>u= .bool ((List.range n).all fun x=>f x==g x)∧Chg [] w w'):=by
 have hC:=A8 [] w
 refine D6 Tryz.func26 J J (Qd (Zc 1 J (Qa (Qd (Zc 1 J (B2 (D9 (σ:=Nat) (fun i=>[(0,.slice (some ⟨ba,0,none⟩) n n),(1,.slice (some ⟨bb,0,none⟩) n n),(5,.int .i64 (i:Nat))]) (fun i wr=>Chg [] w wr∧Blk wr ba (Ad3 f n) 4∧Blk wr bb (Ad3 g n) 4∧(List.range i).all (fun x=>f x==g x)=true∧i≤n) (fun i wr=>n - i) 0 (sb J) ?_ ?_)))))))
 ·exact ⟨hC,hA,hB,rfl,Ej2 _⟩
 rintro i w40 ⟨hC,hA,hB,hall,hi⟩
 refine Qa (Qd (Z 2 J (Ln Tryz.underlying43 J (Zc 1 J (A4 J (fun h1=>?_) (fun h1=>?_))))))
 ·try simp at h1
  have hin:i<n:=by omega
  refine A7 (Qa (B2 (Qa (C8 (S:=[]) 8 [(0,0),(0,1),(0,2),(0,3),(0,4),(0,5),(0,6),(0,7),(2,8)] mo (by kernel_rfl) ?_))));intro w1 hx1 hh1;have hC:=hC.s0 hx1;have hA:=hA.u hx1;have hB:=hB.u hx1;refine Z 2 J (D5 J (B1 Dr6 J J (by omega) (by omega)) (D5 J (D7 o4 J (by rw [hA.cell,Ek3];exact Co2 _ _ i hin) (by simp;done)) ?_));refine Z 2 J (D5 J (B1 Dr6 J J (by omega) (by omega)) (D5 J (D7 o4 J (by rw [hB.cell,Ek3];exact Co2 _ _ i hin) (by simp;done)) ?_))
  refine C9 J (Ce4 Tryz.underlying4 J J) (Qc (A4 J (fun e1=>?_) (fun e1=>?_)))
  ·refine Qd (Zc 1 J (A6 (B5 J J ?_)));have e2:¬ f i=g i:=by simpa using e1
   refine ⟨I7 (by rw [eq_comm,Eq9];intro ha;rw [En1] at ha;have:=ha i (Ek4.2 hin);exact e2 (by simpa using this)),hC⟩
  ·have e2:f i=g i:=by simpa using e1
   refine A7 (Qb (Z 1 J (Ad J J (by omega) (Zc 1 J ⟨i+1,sb J,?_,?_⟩))));exact ⟨hC,hA,hB,by rw [El8,List.all_append,hall];simp [e2],hin⟩;show n - (i+1)<n - i;omega
 ·try simp at h1
  have hii:i=n:=by omega
  subst hii;exact Xb (Qd (Zc 1 J (A6 (B5 J J ⟨I7 hall.symm,hC⟩))))
theorem Ct5 (t:R8) (b:Nat):I2 t (b+1)=if (I2 t b).all (fun c=> !Bp4 t b c) then I2 t b++[b] else I2 t b:=rfl
theorem Dz3 (t:R8) (hg:G8 t) (hn:B3 t≤1000) (As:Option Addr) (cS pf pl bt:Nat) (bf:List Nat) (F:Nat→Prop) (w:World) (hF:∀ x,F x→x<w.heap.size) (hU:RAu F w t As pf pl bt bf):Calls P 24 #[.agg (Bp8 t As cS pf pl bt).toArray] w (Ret fun u w'=>Chg [] w w'∧∃ A c,u= .slice A (I2 t 256).length c∧Own w' w.heap.size 3 1 A (I2 t 256).length c (Q0 (I2 t 256))):=by
 have hC:=A8 [] w;have hSl:=Ac7 t hg;unfold Bp8;refine D6 Tryz.func24 J J (Qd (B7 J (E1 J J) ?_));intro b1 w1 hb1 hs1 hx1 hB1;have hC:=hC.s0 hx1;have hU:=hU.u hx1
 refine Zc 1 J (Qd (Zc 1 J (Qa (Qd (Zc 1 J (B2 (D9 (σ:=Nat × Option Addr × Nat) (fun (b,A,c)=>[(1,.pointer (some ⟨b1,0,none⟩)),(3,.slice A (I2 t b).length c),(4,.int .i64 (b:Nat))]) (fun (b,A,c) wr=>Chg [] w wr∧RAu F wr t As pf pl bt bf∧Blk wr b1 [.slice As (G7 t).length cS,.int .i64 (M0 t),.slice (some ⟨pf,0,none⟩) (B3 t) (B3 t),.slice (some ⟨pl,0,none⟩) (B3 t) (B3 t),.slice (some ⟨bt,0,none⟩) (B3 t) (B3 t)] 27∧Own wr (b1+1) 3 1 A (I2 t b).length c (Q0 (I2 t b))∧b≤256) (fun (b,A,c) wr=>256 - b) (0,none,0) (sb J) ?_ ?_)))))))
 ·exact ⟨hC,hU,hB1,Own.nil _ _ _ _,Ej2 _⟩
 rintro ⟨b,A,c⟩ w20 ⟨hC,hU,hB1,hO,hb⟩;have hlt:=Cl1 t b;have hnx:=Ct5 t b
 refine Qa (Qd (Zc 2 J (A4 J (fun h1=>?_) (fun h1=>?_))))
 ·try simp at h1
  have hb2:b<256:=by omega
  refine A7 (Qa (B2 (Qd (Zc 1 J (Qa (Qd (Zc 1 J (B2 (D9 (σ:=Nat) (fun i=>[(1,.pointer (some ⟨b1,0,none⟩)),(3,.slice A (I2 t b).length c),(4,.int .i64 (b:Nat)),(5,.bool (An7 t (I2 t b) b i)),(6,.int .i64 (i:Nat))]) (fun i wr=>Chg [] w wr∧RAu F wr t As pf pl bt bf∧Blk wr b1 [.slice As (G7 t).length cS,.int .i64 (M0 t),.slice (some ⟨pf,0,none⟩) (B3 t) (B3 t),.slice (some ⟨pl,0,none⟩) (B3 t) (B3 t),.slice (some ⟨bt,0,none⟩) (B3 t) (B3 t)] 27∧Own wr (b1+1) 3 1 A (I2 t b).length c (Q0 (I2 t b))∧i≤(I2 t b).length) (fun i wr=>(I2 t b).length - i) 0 (sb J) ?_ ?_)))))))))
  ·exact ⟨hC,hU,hB1,hO,Ej2 _⟩
  rintro i w30 ⟨hC,hU,hB1,hO,hi⟩
  refine Qa (I6 (fun e9 wr=>Sub [(1,.pointer (some ⟨b1,0,none⟩)),(3,.slice A (I2 t b).length c),(4,.int .i64 (b:Nat)),(5,.bool (An7 t (I2 t b) b i)),(6,.int .i64 (i:Nat)),(19,.bool (decide (i<(I2 t b).length∧An7 t (I2 t b) b i=true)))] e9∧Chg [] w wr∧RAu F wr t As pf pl bt bf∧Blk wr b1 [.slice As (G7 t).length cS,.int .i64 (M0 t),.slice (some ⟨pf,0,none⟩) (B3 t) (B3 t),.slice (some ⟨pl,0,none⟩) (B3 t) (B3 t),.slice (some ⟨bt,0,none⟩) (B3 t) (B3 t)] 27∧Own wr (b1+1) 3 1 A (I2 t b).length c (Q0 (I2 t b))) ?_ ?_)
  ·refine Qb (Z 2 J (Ln Tryz.underlying24 J (Z 2 J (C0 (d:=17) J (fun g2=>?_) (fun g2=>?_)))))
   ·try simp at g2
    refine Qu J (Zc 2 J ⟨⟨rfl,rfl,rfl,rfl,rfl,(G3 J (by rw [Ej7,Ej8];exact ⟨fun h=>⟨by omega,h⟩,fun h=>h.2⟩)),trivial⟩,?_⟩);exact ⟨hC,hU,hB1,hO⟩
   ·try simp at g2
    refine Qk J (Zc 1 J ⟨⟨rfl,rfl,rfl,rfl,rfl,(G3 J (by rw [Ej6 (by omega)])),trivial⟩,?_⟩);exact ⟨hC,hU,hB1,hO⟩
  rintro e9 w31 ⟨hs9,hC,hU,hB1,hO⟩;refine I5 _ hs9 ?_;clear hs9 e9
  try have hlB1:=hB1.lt
  refine A4 J (fun q3=>?_) (fun q3=>?_)
  ·have q3:=Em3 q3;have hil:=q3.1
   refine A7 (Qa (B2 (Qd (Zc 1 J (Qa (Qd (Zc 1 J (B2 (D9 (σ:=Nat) (fun q=>[(1,.pointer (some ⟨b1,0,none⟩)),(3,.slice A (I2 t b).length c),(4,.int .i64 (b:Nat)),(6,.int .i64 (i:Nat)),(7,.bool (Ck1 t b ((I2 t b).getD i 0) q)),(8,.int .i64 (q:Nat))]) (fun q wr=>Chg [] w wr∧RAu F wr t As pf pl bt bf∧Blk wr b1 [.slice As (G7 t).length cS,.int .i64 (M0 t),.slice (some ⟨pf,0,none⟩) (B3 t) (B3 t),.slice (some ⟨pl,0,none⟩) (B3 t) (B3 t),.slice (some ⟨bt,0,none⟩) (B3 t) (B3 t)] 27∧Own wr (b1+1) 3 1 A (I2 t b).length c (Q0 (I2 t b))∧q≤(G7 t).length) (fun q wr=>(G7 t).length - q) 0 (sb J) ?_ ?_)))))))))
   ·exact ⟨hC,hU,hB1,hO,Ej2 _⟩
   rintro q w40 ⟨hC,hU,hB1,hO,hq⟩;refine Qa (Qd (Z 1 J (Fa Bd1 J (Lb o23 J ‹_› (by rfl) ?_))))
   refine Ln Tryz.underlying23 J (Zc 1 J (A4 J (fun h4=>?_) (fun h4=>?_)))
   ·try simp at h4
    have hqn:q<(G7 t).length:=by omega
    refine A7 (I6 (fun e9 wr=>Sub [(1,.pointer (some ⟨b1,0,none⟩)),(3,.slice A (I2 t b).length c),(4,.int .i64 (b:Nat)),(6,.int .i64 (i:Nat)),(7,.bool (Ck1 t b ((I2 t b).getD i 0) (q+1))),(8,.int .i64 (q:Nat))] e9∧Chg [] w wr∧RAu F wr t As pf pl bt bf∧Blk wr b1 [.slice As (G7 t).length cS,.int .i64 (M0 t),.slice (some ⟨pf,0,none⟩) (B3 t) (B3 t),.slice (some ⟨pl,0,none⟩) (B3 t) (B3 t),.slice (some ⟨bt,0,none⟩) (B3 t) (B3 t)] 27∧Own wr (b1+1) 3 1 A (I2 t b).length c (Q0 (I2 t b))) ?_ ?_)
    ·refine B2 (C8 (S:=[]) 18 [(0,0),(0,1),(0,2),(0,3),(0,4),(0,5),(0,6),(0,7),(0,9),(0,10),(0,11),(0,12),(0,13),(0,14),(0,15),(0,16),(0,17),(1,8),(2,18),(2,19),(2,20),(2,21)] mo (by kernel_rfl) ?_);intro w2 hx2 hh2;have hC:=hC.s0 hx2;have hU:=hU.u hx2;have hB1:=hB1.u hx2;have hO:=hO.u hx2;have hCS2:=A8 ([]) w2;obtain ⟨g,off,hAs,hFg,hltc,hcell⟩:=hU.rs.at_ (by omega);obtain ⟨g9,o9,hA9,_,hlt9,hcell9⟩:=(hO.rd (F:=fun _=>True) (fun _ _ _=>trivial)).at_ (by omega);subst hAs;subst hA9;have hoc:=hlt.1 _ (I0 (I2 t b) 0 i hil)
     refine Z 2 J (C0 (d:=30) J (fun m1=>?_) (fun m1=>?_))
     ·refine Qu J (Fa Bd1 J (Qu J (D5 J (B4 o23 J ‹_› (by simp;done) (by rfl)) ?_)));refine Qu J (Z 1 J (Qu J (D5 J (C3 Al5 J J (by omega) (by omega)) (Qu J (D5 J (J1 (vs:=C4 ((G7 t).getD q 0)) J7 J ⟨by have:=hU.rs;omega,fun j v hj=>by rw [Ek6];exact hcell (q*4+j) v (by have hj4:j<4:=(Ej9.1 hj).1;rw [L0 (G7 t) q j (by omega) hj4];exact hj)⟩ (by simp;done) J) ?_)))));refine Qu J (Z 1 J (Qu J (Fa Bd1 J (Qu J (D5 J (B4 o23 J ‹_› (by simp;done) (by rfl)) ?_)))));refine Qu J (Z 1 J (Qu J (D5 J (C3 Al5 J J (by omega) (by omega)) (Qu J (D5 J (J1 (vs:=C4 ((G7 t).getD q 0)) J7 J ⟨by have:=hU.rs;omega,fun j v hj=>by rw [Ek6];exact hcell (q*4+j) v (by have hj4:j<4:=(Ej9.1 hj).1;rw [L0 (G7 t) q j (by omega) hj4];exact hj)⟩ (by simp;done) J) ?_)))));refine Qu J (Z 1 J (Qu J (Z 1 J (Qu J (D5 J (B1 U0 J J (by omega) (by omega)) (Qu J (D5 J (D7 o3 J ((hO.rd (F:=fun _=>True) (fun _ _ _=>trivial)).one (T0 (I2 t b) i hil)).2 (by simp;done)) ?_)))))));refine Qu J (C5 J (C1 fb52 J) (Cg9 ((G7 t).getD q 0) b hb2 _) ?_);rintro _ w3 ⟨rfl,hx3⟩;have hCS2:=hCS2.s0 hx3;refine ⟨hCS2,?_⟩;refine Qu J (Ca fb52 J (Cg9 ((G7 t).getD q 0) ((I2 t b).getD i 0) (by omega) _) ?_);rintro _ w4 ⟨rfl,hx4⟩;have hC:=hC.s0 (hx3.s0 hx4);have hU:=hU.u (hx3.s0 hx4);have hB1:=hB1.u (hx3.s0 hx4);have hO:=hO.u (hx3.s0 hx4);refine Qu J (C9 J (Does.eqB Tryz.underlying4 J J) (Zc 2 J ⟨⟨rfl,rfl,rfl,rfl,(G3 J (by rw [Bt0,m1,Eo3])),rfl,trivial⟩,?_⟩));exact ⟨hC,hU,hB1,hO⟩
     ·refine Qk J (Qk J (Qk J (Qk J (Qk J (Qk J (Qk J (Qk J (Qk J (Qk J (Qk J (Qk J (Qk J (Qk J (Qk J (Dh1 J J J J J (fun _=>by assumption) ?_)))))))))))))));refine Qk J (Qk J (Zc 2 J ⟨⟨rfl,rfl,rfl,rfl,(G3 J (by rw [Bt0,m1,Es8])),rfl,trivial⟩,?_⟩));exact ⟨hC,hU,hB1,hO⟩
    rintro e9 w50 ⟨hs9,hC,hU,hB1,hO⟩;refine I5 _ hs9 ?_;clear hs9 e9;refine Qb (Z 1 J (Ad J J (by omega) (Zc 1 J ⟨q+1,sb J,?_,?_⟩)));exact ⟨hC,hU,hB1,hO,hqn⟩;show (G7 t).length - (q+1)<(G7 t).length - q;omega
   ·try simp at h4
    have hqq:q=(G7 t).length:=by omega
    have hlk:Ck1 t b ((I2 t b).getD i 0) q=Bp4 t b ((I2 t b).getD i 0):=by unfold Bp4;rw [hqq,hSl]
    refine Xb (Qb (Zc 3 J (Qb (Z 1 J (Ad J J (by omega) (Zc 1 J ⟨i+1,⟨rfl,rfl,rfl,(G3 J (by rw [hlk,Ct8 t (I2 t b) b i hil,q3.2,Eo3])),rfl,trivial⟩,?_,?_⟩))))));exact ⟨hC,hU,hB1,hO,hil⟩;show (I2 t b).length - (i+1)<(I2 t b).length - i;omega
  ·have q3:=Eq2 q3
   have hfu:An7 t (I2 t b) b i=(I2 t b).all fun c=> !Bp4 t b c:=by
    refine Ct9 t (I2 t b) b i ?_
    by_cases h:i=(I2 t b).length
    ·exact .inl h
    ·exact .inr (Eq9.2 fun ho=>q3 ⟨by omega,ho⟩)
   have hOb:=hO.blk
   refine Xb (Qd (Zc 1 J (A4 J (fun f1=>?_) (fun f1=>?_))))
   ·rw [hfu] at f1;rw [Ei4 f1] at hnx;refine Qb (Z 2 J (B7 J (B6 U0 Tryz.underlying24 zr3 J J J (by rfl)) ?_));intro b5 w5 hb5 hs5 hx5 hB5;have hC:=hC.s0 hx5;have hU:=hU.u hx5;have hB1:=hB1.u hx5;have hO:=hO.u hx5;refine G2 J De2 J J hO (Blk.rd (F:=fun _=>True) ‹_› J trivial) (by rfl) (by omega) (by omega) ?_;intro A' c' w6 hO6 hx6 hA';have hC:=hC.step hx6 (by intro x h;have:=hOb x h;exact .inr (by omega));have hU:=hU.q hx6 (by intro x hx hf;have:=hOb x hx;have:=hF x hf;omega);have hB1:=hB1.q hx6 (by intro h;have:=hOb _ h;omega)
    replace hO:=hO6
    refine Zc 1 J (Qb (Z 1 J (Ad J J (by omega) (Zc 1 J ⟨(b+1,A',c'),⟨rfl,((by rw [hnx,Ei9];rfl)),rfl,trivial⟩,?_,?_⟩))));refine ⟨hC,hU,hB1,?_,hb2⟩;rw [hnx,Ei9];unfold Q0;rw [Em6];exact hO;show 256 - (b+1)<256 - b;omega
   ·rw [hfu] at f1;rw [Ei3 (by rw [f1];decide)] at hnx;refine A7 (Qb (Z 1 J (Ad J J (by omega) (Zc 1 J ⟨(b+1,A,c),⟨rfl,((by rw [hnx];rfl)),rfl,trivial⟩,?_,?_⟩))));refine ⟨hC,hU,hB1,?_,hb2⟩;rw [hnx];exact hO;show 256 - (b+1)<256 - b;omega
 ·try simp at h1
  have hbb:b=256:=by omega
  subst hbb;exact Xb (Qd (Zc 2 J (A6 (B5 J J ⟨hC,A,c,rfl,hO.lower (by omega)⟩))))
end Go.Clt
section
namespace Go.Clt
open Go Go.RowKit
structure Ext (l l':List St):Prop where
 len:l.length≤l'.length
 nx:∀ i,i<l.length→∀ m,m<(l.getD i default).next.length→m<(l'.getD i default).next.length∧(l'.getD i default).next.getD m 0=(l.getD i default).next.getD m 0
theorem Ext.refl (l:List St):Ext l l:=⟨Ej5 _,fun i _ m hm=>⟨hm,rfl⟩⟩
theorem Ext.trans {a b c:List St} (h:Ext a b) (k:Ext b c):Ext a c:=
 ⟨El9 h.len k.len,fun i hi m hm=>by
  obtain ⟨h1,h2⟩:=h.nx i hi m hm;obtain ⟨k1,k2⟩:=k.nx i (Eo0 hi h.len) m h1
  exact ⟨k1,k2.trans h2⟩⟩
theorem ext_snoc (l:List St) (s:St):Ext l (l++[s]):=
 ⟨by simp,fun i hi m hm=>by rw [Ac1 hi];exact ⟨hm,rfl⟩⟩
theorem ext_add (D:DS) (n v:Nat) (hn:n<D.l.length):Ext D.l (J5 D n v).l:=by
 refine ⟨by simp [J5],fun i hi m hm=>?_⟩;rw [Cd6 D n v i hn]
 by_cases h:n=i
 ·subst h;rw [Ei4 J];dsimp only;refine ⟨by rw [Ei9];omega,?_⟩;rw [Ei5,El2 hm,← Ei5]
 ·rw [Ei3 h];exact ⟨hm,rfl⟩
theorem Cm2 {E:DE} {D:DS} {n:Nat} (b:Nat) (hn:n<D.l.length):Ext D.l (H8 E n D b).l:=by
 unfold H8
 have h:Ext D.l (P5 E D (O1 (H4 E D.l n b)) (Y6 E D.l n b)).2.l:=by
  unfold P5
  cases R9 D.met (O1 (H4 E D.l n b)) with
  |some v=>exact Ext.refl _
  |none=>
   simp only []
   split
   ·exact Ext.refl _
   ·exact ext_snoc _ _
 exact h.trans (ext_add _ _ _ (Eo0 hn h.len))
theorem Ao4 {E:DE} {n:Nat}:∀ (r:List Nat) (D:DS),n<D.l.length→Ext D.l (r.foldl (H8 E n) D).l
 |[],D,_=>Ext.refl _
 |b::r,D,hn=>by
  have h:=Cm2 (E:=E) b hn;exact h.trans (Ao4 r _ (Eo0 hn h.len))
theorem Bd3 {E:DE}:∀ (f n:Nat) (D:DS),Ext D.l (O5 E f n D).l
 |0,n,D=>Ext.refl _
 |f+1,n,D=>by
  rw [O5]
  split
  ·rename_i h;exact (Ao4 E.bytes D h.1).trans (Bd3 f (n+1) _)
  ·exact Ext.refl _
theorem Co4 {E:DE} {D:DS} (h:DX E D) {n:Nat} (hn:n<D.l.length) (b:Nat):H4 E D.l n b=Q5 E ((D.l.getD n default).word++[b]):=by
 rw [Bn4];unfold Af7
 by_cases h0:n=0
 ·rw [Ei4 h0,h0,h.zw];rfl
 ·rw [Ei3 h0];obtain ⟨_,_,h3,h4⟩:=h.st n (by omega) hn;rw [Ad4 E h4,← h3]
theorem DX.inj {E:DE} {D:DS} (h:DX E D) {i j:Nat} (hi:0<i) (hj:0<j) (hil:i<D.l.length) (hjl:j<D.l.length) (he:(D.l.getD i default).l=(D.l.getD j default).l):i=j:=by
 have h1:=(h.st i hi hil).1;have h2:=(h.st j hj hjl).1;rw [he,h2] at h1;injection h1 with h1
 omega
def J9 (l:List St):List (List Nat):=l.map fun s=>s.word
theorem Cf6 (D:DS) (n v:Nat) (hn:n<D.l.length):J9 (J5 D n v).l=J9 D.l:=by
 unfold J9 J5;dsimp only;rw [Er3];apply Ek5;intro j;rw [El1]
 by_cases h:n=j
 ·subst h;rw [Ei4 J,En2,Ei4 hn,Ek2,Ei5,Ei7 hn];rfl
 ·rw [Ei3 h]
theorem Au2 (l:List St) (i:Nat) (hi:i<l.length):(J9 l).getD i []=(l.getD i default).word:=by
 unfold J9;rw [Ei5,Ek2,Ei7 hi,Ei5,Ei7 hi];rfl
structure InI (E:DE) (i j:Nat) (D:DS) (f:Nat):Prop where
 full:D.full=false
 x:DX E D
 inv:DInv E D i j
 run:H7 E=O5 E f (i+1) ((E.bytes.drop j).foldl (H8 E i) D)
 fu:f+i=E.budget
 bu:D.l.length≤E.budget
 lt:i<D.l.length
structure OutI (E:DE) (i:Nat) (D:DS) (f:Nat):Prop where
 full:D.full=false
 x:DX E D
 inv:DInv E D i 0
 run:H7 E=O5 E f i D
 fu:f+i=E.budget+1
 bu:D.l.length≤E.budget
theorem OutI.go {E:DE} {i:Nat} {D:DS} {f:Nat} (h:OutI E i D f) (hi:i<D.l.length):InI E i 0 D (f - 1):=by
 have hf:=h.fu;have hb:=h.bu;obtain ⟨g,rfl⟩:∃ g,f=g+1:=⟨f - 1,by omega⟩;refine ⟨h.full,h.x,h.inv,?_,by omega,h.bu,hi⟩;rw [h.run,O5,Ei4 ⟨hi,h.full⟩];rfl
theorem OutI.stop {E:DE} {i:Nat} {D:DS} {f:Nat} (h:OutI E i D f) (hi:¬ i<D.l.length):H7 E=D:=by
 rw [h.run]
 cases f with
 |zero=>rfl
 |succ f=>rw [O5,Ei3 fun x=>hi x.1]
theorem InI.out {E:DE} {i:Nat} {D:DS} {f:Nat} (h:InI E i E.bytes.length D f):OutI E (i+1) D f:=by
 refine ⟨h.full,h.x,h.inv.go,?_,by have:=h.fu;omega,h.bu⟩;rw [h.run,List.drop_length];rfl
theorem InI.step {E:DE} {i j:Nat} {D:DS} {f:Nat} (hq:E.q.S.length≤1000) (hby:∀ b∈E.bytes,b<256) (h:InI E i j D f) (hj:j<E.bytes.length):
    (∃ s,0<s∧s<D.l.length∧(D.l.getD s default).l=Q5 E ((D.l.getD i default).word++[E.bytes.getD j 0])∧∃ D',InI E i (j+1) D' f∧J9 D'.l=J9 D.l∧D'.l.length=D.l.length∧(D'.l.getD i default).next.length=j+1∧(D'.l.getD i default).next.getD j 0=s)∨
    ((∀ s,0<s→s<D.l.length→(D.l.getD s default).l≠Q5 E ((D.l.getD i default).word++[E.bytes.getD j 0]))∧
      ((E.budget≤D.l.length∧(H7 E).full=true)∨
       (D.l.length<E.budget∧∃ D',InI E i (j+1) D' f∧J9 D'.l=J9 D.l++[(D.l.getD i default).word++[E.bytes.getD j 0]]∧D'.l.length=D.l.length+1∧(D'.l.getD i default).next.length=j+1∧(D'.l.getD i default).next.getD j 0=D.l.length))):=by
  have hbm:E.bytes.getD j 0<256:=hby _ (I0 E.bytes 0 j hj);have hba:=Co4 h.x h.lt (E.bytes.getD j 0);have hlen:=h.inv.nx i h.lt;rw [Ei3 (Nat.lt_irrefl _),Ei4 J] at hlen
  have hdrop:E.bytes.drop j=E.bytes.getD j 0::E.bytes.drop (j+1):=by
    rw [List.drop_eq_getElem_cons hj,Ei5,Ei7 hj];rfl
  have hrun:=h.run;rw [hdrop,Ep7] at hrun;have hx2:=Bu3 hq h.x h.lt (by rw [hlen]);have hi2:=Bd4 h.inv h.lt hbm;have next:(H8 E i D (E.bytes.getD j 0)).full=false→(H8 E i D (E.bytes.getD j 0)).l.length≤E.budget→InI E i (j+1) (H8 E i D (E.bytes.getD j 0)) f:=fun h1 h2=>⟨h1,hx2 h1,hi2.1,hrun,h.fu,h2,Eo0 h.lt hi2.2⟩
  have hfull:(H8 E i D (E.bytes.getD j 0)).full=true→(H7 E).full=true:=fun h1=>by
    rw [hrun,← Bool.not_eq_false];intro h2;have:=Aj1 _ _ (Aa3 E _ _ _ h2);rw [h1] at this;cases this
  have hlt:∀ x∈H4 E D.l i (E.bytes.getD j 0),x<1000:=fun x hx=>by have:=(Ac3 E D.l i (E.bytes.getD j 0)).1 x hx;omega
  have hlnext:∀ (D2:DS) (v:Nat),i<D2.l.length→(D2.l.getD i default).next=(D.l.getD i default).next→((J5 D2 i v).l.getD i default).next.length=j+1∧((J5 D2 i v).l.getD i default).next.getD j 0=v:=fun D2 v h1 h2=>by
    rw [Cd6 D2 i v i h1,Ei4 J];dsimp only;rw [h2,Ei9,hlen,Ei5,Ek9 (by omega),hlen,Nat.sub_self];exact ⟨rfl,rfl⟩
  cases hm:R9 D.met (O1 (H4 E D.l i (E.bytes.getD j 0))) with
  |some v=>
    rcases h.x.mg _ _ hm with h1|⟨s,h1,h2,h3,h4⟩
    · exact absurd h1 (Bg5 hlt)
    · have h5:=Bg4 hlt (fun x hx=>by have:=h.x.pv s h1 h2 x hx;omega) h4
      have he:H8 E i D (E.bytes.getD j 0)=J5 D i s:=by
        unfold H8 P5;rw [hm,h3];rfl
      refine .inl ⟨s,h1,h2,by rw [← h5,hba],_,next (by rw [he];exact h.full) (by rw [he];simp only [J5,Ep8];exact h.bu),?_,?_,?_⟩
      · rw [he,Cf6 D i s h.lt]
      · rw [he];simp [J5]
      · rw [he];exact hlnext D s h.lt J
  |none=>
    refine .inr ⟨fun s h1 h2 h3=>?_,?_⟩
    · have:=(h.x.st s h1 h2).1;rw [h3,← hba,hm] at this
      cases this
    · by_cases hbu:E.budget≤D.l.length
      · refine .inl ⟨hbu,hfull ?_⟩;unfold H8 P5;rw [hm];simp only [Ei4 hbu]
        rfl
      · have he:H8 E i D (E.bytes.getD j 0)=J5 { D with met:=Aw1 D.met (O1 (H4 E D.l i (E.bytes.getD j 0))) (D.l.length:Nat),l:=D.l++[Y6 E D.l i (E.bytes.getD j 0)] } i D.l.length:=by
          unfold H8 P5;rw [hm];simp only [Ei3 hbu]
        have hl1:i<(D.l++[Y6 E D.l i (E.bytes.getD j 0)]).length:=by rw [Ei9];have:=h.lt;omega
        refine .inr ⟨by omega,_,next (by rw [he];exact h.full) (by rw [he];simp only [J5,Ep8,Ei9,Em5];omega),?_,?_,?_⟩
        · rw [he,Cf6 _ i _ hl1];unfold J9;rw [Em6];rfl
        · rw [he];simp [J5]
        · rw [he];exact hlnext _ _ hl1 (by dsimp only;rw [Ac1 h.lt])
theorem Bd8 (E:DE) {w:List Nat} (h:w≠[]):∃ f:Nat→Bool,Q5 E w=(List.range E.q.S.length).filter f:=by
 rcases List.eq_nil_or_concat w with rfl|⟨r,b,rfl⟩
 ·exact absurd J h
 ·rw [List.concat_eq_append]
  by_cases hr:r=[]
  ·subst hr;show ∃ f:Nat→Bool,U7 E.k E.q b=_;unfold U7 Az4;rw [Aw9,M9];exact ⟨_,rfl⟩
  ·rw [Ad4 E hr];exact ⟨_,rfl⟩
theorem alive_eq {E:DE} {u v:List Nat} (hu:u≠[]) (hv:v≠[]) (h:∀ p,p<E.q.S.length→(p∈Q5 E u↔p∈Q5 E v)):Q5 E u=Q5 E v:=by
 obtain ⟨f,hf⟩:=Bd8 E hu;obtain ⟨g,hg⟩:=Bd8 E hv;rw [hf,hg] at h ⊢;apply List.filter_congr;intro p hp;have:=h p (Ek4.1 hp);rw [Eo4,Eo4] at this;rw [Ej7];exact ⟨fun x=>(this.1 ⟨hp,x⟩).2,fun x=>(this.2 ⟨hp,x⟩).2⟩
def Bh3 (t:R8) (u v:List Nat):Bool:=(List.range (G7 t).length).all fun p=>Cf3 t u p==Cf3 t v p
theorem same_iff {t:R8} {E:DE} (h:SameA t E.k E.q) {u v:List Nat} (hu:u≠[]) (hv:v≠[]):Bh3 t u v=true↔Q5 E u=Q5 E v:=by
 have hS:(G7 t).length=B3 t:=by rw [← h.S,h.len]
 have hl:E.q.S.length=B3 t:=h.len
 have hal:∀ w:List Nat,w≠[]→∀ p,p<B3 t→(p∈Q5 E w↔Cf3 t w p=true):=fun w hw p hp=>by
  rw [Bg3 h w hw];unfold Cf3;have:w.length≠0:=fun h0=>hw (Eo5 h0)
  rw [Ej4 this,Eo3,Ek1];exact ⟨fun x=>x.2,fun x=>⟨hp,x⟩⟩
 unfold Bh3;rw [hS,En1]
 constructor
 ·intro hx;refine alive_eq hu hv fun p hp=>?_
  rw [hal u hu p (by omega),hal v hv p (by omega)];have:=hx p (Ek4.2 (by omega));rw [beq_iff_eq] at this;rw [this]
 ·intro hx p hp;have hp:=Ek4.1 hp;have h1:=hal u hu p hp;have h2:=hal v hv p hp;rw [hx] at h1;rw [beq_iff_eq,Ej7,← h1,← h2]
def kU (t:R8) (W:List (List Nat)) (u:List Nat):Nat→Int
 |0=> -1
 |s+1=>if 1≤s∧Bh3 t (W.getD s []) u=true then (s:Int) else kU t W u s
theorem kU_no {t:R8} {W:List (List Nat)} {u:List Nat}:∀ n,(∀ s,1≤s→s<n→¬ Bh3 t (W.getD s []) u=true)→kU t W u n= -1
 |0,_=>rfl
 |n+1,h=>by
  rw [kU,Ei3 fun x=>h n x.1 (by omega) x.2];exact kU_no n fun s h1 h2=>h s h1 (by omega)
theorem kU_one {t:R8} {W:List (List Nat)} {u:List Nat} {k:Nat} (hk:1≤k) (hs:Bh3 t (W.getD k []) u=true):∀ n,(∀ s,1≤s→s<n→Bh3 t (W.getD s []) u=true→s=k)→k<n→kU t W u n=(k:Int)
 |0,_,h=>by omega
 |n+1,h,hn=>by
  rw [kU]
  by_cases hc:1≤n∧Bh3 t (W.getD n []) u=true
  ·rw [Ei4 hc,h n hc.1 (by omega) hc.2]
  ·rw [Ei3 hc];have:k≠n:=fun he=>hc ⟨by omega,by rw [← he];exact hs⟩
   exact kU_one hk hs n (fun s h1 h2=>h s h1 (by omega)) (by omega)
theorem InI.find {t:R8} {E:DE} (hA:SameA t E.k E.q) {i j:Nat} {D:DS} {f:Nat} (h:InI E i j D f) (b:Nat):
  (∀ s,0<s→s<D.l.length→(D.l.getD s default).l=Q5 E ((D.l.getD i default).word++[b])→kU t (J9 D.l) ((D.l.getD i default).word++[b]) D.l.length=(s:Int))∧
  ((∀ s,0<s→s<D.l.length→(D.l.getD s default).l≠Q5 E ((D.l.getD i default).word++[b]))→kU t (J9 D.l) ((D.l.getD i default).word++[b]) D.l.length= -1):=by
 have key:∀ s,0<s→s<D.l.length→(Bh3 t ((J9 D.l).getD s []) ((D.l.getD i default).word++[b])=true↔(D.l.getD s default).l=Q5 E ((D.l.getD i default).word++[b])):=fun s h1 h2=>by
  obtain ⟨_,_,h3,h4⟩:=h.x.st s h1 h2;rw [Au2 D.l s h2,same_iff hA h4 (by simp),← h3]
 refine ⟨fun s h1 h2 h3=>kU_one h1 ((key s h1 h2).2 h3) _ (fun s' h4 h5 h6=>?_) h2,fun hno=>kU_no _ fun s h1 h2 h3=>hno s h1 h2 ((key s h1 h2).1 h3)⟩;exact h.x.inj h4 h1 h5 h2 (((key s' h4 h5).1 h6).trans h3.symm)
theorem next_fin {k:Kn} {q:Wst} {bu:Nat} {D D':DS} {l:List St} (hl:l=Aw4 D.l) (hg:DGood (Ao5 k q bu) l) (hx:Ext D'.l D.l) {i j:Nat} (hi:i<D'.l.length) (hj:j<(D'.l.getD i default).next.length) (hjn:j<(Ao5 k q bu).bytes.length):Ao6 (Ao5 k q bu) l i ((Ao5 k q bu).bytes.getD j 0)=(D'.l.getD i default).next.getD j 0:=by
 have hjB:j<(E6 q.S).2:=by have:=hg.bl;change j<_ at hjn;rw [this] at hjn;exact hjn
 have hb:(Ao5 k q bu).bytes.getD j 0=K2 (I4 (E6 q.S).1 256 j):=by
  show (Y0 (E6 q.S).1 (E6 q.S).2).getD j 0=_;unfold Y0;rw [Ei5,Ek2,Ek8 hjB];rfl
 have hf:(Ao5 k q bu).f.getD (K2 (I4 (E6 q.S).1 256 j)) 0=j:=(Bk4 q.S hjB).2.1;unfold Ao6;rw [hb,hf,hl,(V8 D.l i (Eo0 hi hx.len)).2.2.1];exact (hx.nx i hi j hj).2
theorem run_word {E:DE} {D:DS} {l:List St} (hl:l=Aw4 D.l) (hx:DX E D) (hg:DGood E l) (hd:DLaw E l) {i:Nat} (hi:i<l.length) (hb:∀ b∈(l.getD i default).word,b<256):Cf2 E l (l.getD i default).word=i:=by
 by_cases h0:i=0
 ·rw [h0,hd.zw];rfl
 ·obtain ⟨_,h1,h2⟩:=hd.st i (by omega) hi;obtain ⟨a1,a2,a3⟩:=Dt0 hg hd _ hb h2;have hlen:l.length=D.l.length:=by rw [hl,An3]
  rw [← h1] at a3;rw [hl,(V8 D.l _ (by rw [← hl];omega)).1,(V8 D.l i (by omega)).1,← hl] at a3;exact hx.inj a1 (by omega) (by omega) (by omega) a3
theorem D0_out {E:DE} (h:1≤E.budget):OutI E 0 (D0 E) (E.budget+1)∧J9 (D0 E).l=[[]]∧(D0 E).l.length=1:=by
 have e:D0 E=⟨[st0 E],[(Bu1,0)],false⟩:=by
  unfold D0 P5;simp only [Ab5];rw [Ei3 (by simp;omega)];rfl
 have hf:(D0 E).full=false:=by rw [e]
 refine ⟨⟨hf,D0_x hf,Ei1 E,Ad0 E,by omega,by rw [e];exact h⟩,by rw [e];rfl,by rw [e];rfl⟩
theorem Dz6 {E:DE} (h:E.budget=0):(H7 E).full=true:=by
 rw [Ad0,h,← Bool.not_eq_false];intro hf;have:=Aa3 E _ _ _ hf
 have e:(D0 E).full=true:=by
  unfold D0 P5;simp only [Ab5];rw [Ei4 (by simp;omega)]
 rw [e] at this;cases this
end Go.Clt
end
namespace Go.Clt
open Go Go.RowKit Go.Proofs
def Dr2 (W:List (List Nat)):List Value:=W.map Dh9
theorem Bw5 (W:List (List Nat)) (i:Nat) (h:i<W.length):(Dr2 W)[i]?=some (Dh9 (W.getD i [])):=by
 unfold Dr2;rw [Ek2,Ei7 h,Ei5,Ei7 h];rfl
def DR (G:Nat→Prop) (w:World) (k:Kn) (q:Wst) (bu:Nat) (ad:Option Addr) (er:Int):Prop:=(er=0∧∃ l pd,Cc6 k q bu=some l∧ad=some ⟨pd,0,none⟩∧IsDfa G w pd (Ao5 k q bu) l)∨(er=9∧Cc6 k q bu=none∧ad=none)
theorem DR.q {G:Nat→Prop} {w w':World} {k:Kn} {q:Wst} {bu:Nat} {ad:Option Addr} {er:Int} {S:List Nat} (h:DR G w k q bu ad er) (c:Chg S w w') (hS:∀ b∈S,¬ G b):DR G w' k q bu ad er:=by
 rcases h with ⟨h1,l,pd,h2,h3,h4⟩|h
 ·exact .inl ⟨h1,l,pd,h2,h3,h4.q c hS⟩
 ·exact .inr h
theorem DR.u {G:Nat→Prop} {w w':World} {k:Kn} {q:Wst} {bu:Nat} {ad:Option Addr} {er:Int} (h:DR G w k q bu ad er) (c:Chg [] w w'):DR G w' k q bu ad er:=h.q c (by simp)
theorem DR.mono {G G':Nat→Prop} {w:World} {k:Kn} {q:Wst} {bu:Nat} {ad:Option Addr} {er:Int} (h:DR G w k q bu ad er) (hG:∀ b,G b→b<w.heap.size→G' b):DR G' w k q bu ad er:=by
 rcases h with ⟨h1,l,pd,h2,h3,h4⟩|h
 ·exact .inl ⟨h1,l,pd,h2,h3,h4.mono hG⟩
 ·exact .inr h
theorem Ec4 {k:Kn} {q:Wst} {bu:Nat} {l:List St} (h:Cc6 k q bu=some l):(H7 (Ao5 k q bu)).full=false∧l=Aw4 (H7 (Ao5 k q bu)).l:=by
 unfold Cc6 at h;dsimp only at h
 split at h
 ·cases h
 ·rename_i hf
  injection h with h
  exact ⟨by simpa using hf,h.symm⟩
theorem Ec5 {k:Kn} {q:Wst} {bu:Nat} (h:(H7 (Ao5 k q bu)).full=true):Cc6 k q bu=none:=by
 unfold Cc6;dsimp only;rw [Ei4 h]
theorem Ec6 {k:Kn} {q:Wst} {bu:Nat} (h:(H7 (Ao5 k q bu)).full=false):Cc6 k q bu=some (Aw4 (H7 (Ao5 k q bu)).l):=by
 unfold Cc6;dsimp only;rw [Ei3 (by rw [h];decide)]
theorem InI.ext {E:DE} {i j:Nat} {D:DS} {f:Nat} (h:InI E i j D f):Ext D.l (H7 E).l:=by
 rw [h.run];exact (Ao4 _ D h.lt).trans (Bd3 _ _ _)
theorem Cy4 {E:DE} {i j:Nat} {D:DS} {f:Nat} (h:InI E i j D f) {s:Nat} (hs:s<D.l.length):(D.l.getD s default).word.length≤s∧∀ b∈(D.l.getD s default).word,b<256:=⟨h.inv.wl s hs,h.inv.wb s hs⟩
theorem InI.next {t:R8} {E:DE} (hA:SameA t E.k E.q) (hq:E.q.S.length≤1000) (hby:∀ b∈E.bytes,b<256) {i j:Nat} {D:DS} {f:Nat} (h:InI E i j D f) (hj:j<E.bytes.length) {K:Int} (hK:K=kU t (J9 D.l) ((D.l.getD i default).word++[E.bytes.getD j 0]) D.l.length):
  (K<0∧(E.budget:Int)≤(D.l.length:Int)→(H7 E).full=true)∧
  (¬ (K<0∧(E.budget:Int)≤(D.l.length:Int))→∃ D' kk,InI E i (j+1) D' f∧(D'.l.getD i default).next.length=j+1∧(D'.l.getD i default).next.getD j 0=kk∧J9 D'.l=(if K<0 then J9 D.l++[(D.l.getD i default).word++[E.bytes.getD j 0]] else J9 D.l)∧D'.l.length=(if K<0 then D.l.length+1 else D.l.length)∧(if K<0 then (D.l.length:Int) else K)=(kk:Int)):=by
 obtain ⟨f1,f2⟩:=h.find hA (E.bytes.getD j 0)
 rcases h.step hq hby hj with ⟨s,h1,h2,h3,D',h4,h5,h6,h7,h8⟩|⟨hno,hc⟩
 ·have hk:=f1 s h1 h2 h3;rw [← hK] at hk
  refine ⟨fun hx=>by omega,fun _=>⟨D',s,h4,h7,h8,?_,?_,?_⟩⟩
  ·rw [Ei3 (by omega),h5]
  ·rw [Ei3 (by omega),h6]
  ·rw [Ei3 (by omega),hk]
 ·have hk:=f2 hno;rw [← hK] at hk
  rcases hc with ⟨h1,h2⟩|⟨h1,D',h4,h5,h6,h7,h8⟩
  ·exact ⟨fun _=>h2,fun hx=>absurd ⟨by omega,by omega⟩ hx⟩
  ·refine ⟨fun hx=>by omega,fun _=>⟨D',D.l.length,h4,h7,h8,?_,?_,?_⟩⟩
   ·rw [Ei4 (by omega),h5]
   ·rw [Ei4 (by omega),h6]
   ·rw [Ei4 (by omega)]
theorem Cv9 (s:ByteArray) (m budget:Int) (w:World) (hL:Laid w):Calls P 5 #[.string s,.int .i64 m,.int .i64 budget] w (Ret fun u w'=>u= .bool true∧Chg [] w w'):=by
 have hC:=A8 [] w
 try have hz4:=hL.sz
 refine D6 Tryz.func5 J J (Qd (Zc 1 J (Qd (Z 2 J (Ca fb11 J (Dt6 s m _ hL) ?_)))));rintro v6 w1 ⟨hx1,hno,hyes⟩;have hz1:=hx1.size;have hC:=hC.s0 hx1;have hL:=hL.u hx1
 by_cases hf:As9 (B8 s) m=true
 ·obtain ⟨cs,p,rfl,hR0,hA⟩:=hyes hf;have hA0:=Dx6 s m hf;obtain ⟨hfit,_,hG8,_,hpl⟩:=Cb8 (m:=m) (T9 s) (by unfold As9 at hf;simp only [Ei8,Ek1] at hf;exact hf.1.1);generalize T7 (S5 (B8 s) m).1=kq at*;generalize (I9 (B8 s) m).1=t at*;obtain ⟨k,q⟩:=kq;simp only [] at hA hA0;have hq:q.S.length≤10:=by rw [hA0.len];exact hpl
  obtain ⟨As,cS,pf,pl,bt,bf,rfl,hU⟩:=hR0.open;unfold Bp8;have hF:∀ x,FR w.heap.size (World.heap w1).size [] x→x<(World.heap w1).size:=fun x hx=>hx.2.1
  generalize FR w.heap.size (World.heap w1).size []=F at*;refine Z 4 J (B7 J (B9 zr27 J) ?_);intro b2 w2 hb2 hs2 hx2 hB2;have hA:=hA.u hx2;have hU:=hU.u hx2;refine Z 1 J (Pe sz27 J ‹_› J J ?_);intro w3 hs3 hx3 hB2;have hC:=hC.step (hx2.j hx3) (by simp<;>omega);have hL:=hL.q (hx2.j hx3) (by simp<;>omega);have hA:=hA.q hx3 (by intro b hb hFb;have:=hF _ hFb;simp at hb;omega);have hU:=hU.q hx3 (by intro b hb hFb;have:=hF _ hFb;simp at hb;omega)
  refine Zc 1 J (Qa (Qd (Z 3 J (C0 (d:=39) J (fun g0=>?_) (fun g0=>?_)))))
  ·try simp at g0
   all_goals simp at g0
  ·try simp at g0
   refine Qu J (Fa Bd1 J (Qu J (Lb o23 J ‹_› (by rfl) ?_)))
   refine Qu J (Ln Tryz.underlying23 J (Qu J (Zc 2 J (A4 J (fun g1=>?_) (fun g1=>?_)))))
   ·try simp at g1
    refine Qd (Ca fb12 J (Bn7 _ hL) ?_);rintro _ w4 ⟨rfl,hx4⟩;have hC:=hC.s0 hx4;exact Zc 1 J (A6 (B5 J J ⟨rfl,hC⟩))
   ·try simp at g1
    by_cases hneg:min budget 40<0
    ·refine A7 (Qd (Z 1 J (C9 J (V1 J J) (Zc 1 J (Qd (Z 2 J (Ca fb13 J (Dm9 p (min budget 40) hneg _) ?_)))))));rintro v9 w5 ⟨hx5,rfl⟩;have hC:=hC.s0 hx5;have hL:=hL.u hx5
     refine Zc 5 J (Qa (Qd (Zc 2 J (A4 J (fun g2=>?_) (fun g2=>?_)))))
     ·try simp at g2
      refine Qd (Z 1 J (C9 J (H5 Tryz.underlying31 J J) (Z 1 J (C0 (d:=58) J (fun g5=>?_) (fun g5=>?_)))))
      ·try simp at g5
       refine Qu J (Z 1 J (Qu J (Z 3 J (C0 (d:=62) J (fun g6=>?_) (fun g6=>?_)))))
       ·try simp at g6
        refine Qu J (Ca fb12 J (Bn7 _ hL) ?_);rintro _ w6 ⟨rfl,hx6⟩;have hC:=hC.s0 hx6;exact Zc 2 J (A6 (B5 J J ⟨rfl,hC⟩))
       ·try simp at g6
        all_goals simp at g6
      ·try simp at g5
       all_goals simp at g5
     ·try simp at g2
      all_goals (exfalso;omega)
    ·obtain ⟨bu,hbu⟩:∃ b:Nat,min budget 40=(b:Int):=⟨(min budget 40).toNat,by omega⟩;have hbu40:bu≤40:=by omega
     refine A7 (Qd (Z 1 J (C9 J ((V1 J J).to (K1 hbu)) (Zc 1 J (Qd (Z 2 J (Ca fb13 J (dnew_c _ p k q bu _ hA (fun z hz=>by have:=hF z hz;omega) hL (by omega) (by omega)) ?_)))))));rintro v9 w7 ⟨hx7,hnone,hsome⟩;have hz7:=hx7.size;have hC:=hC.s0 hx7;have hL:=hL.u hx7;have hU:=hU.u hx7;have hB2:=hB2.u hx7
     have hDR:∃ ad er,v9= .tuple #[.pointer ad,.int .i64 er]∧DR (fun x=>x<(World.heap w7).size) w7 k q bu ad er:=by
      cases h:Cc6 k q bu with
      |none=>exact ⟨none,9,hnone h,.inr ⟨rfl,h,rfl⟩⟩
      |some l=>
       obtain ⟨pd,h1,h2⟩:=hsome l h;exact ⟨some ⟨pd,0,none⟩,0,h1,.inl ⟨rfl,l,pd,h,rfl,h2.mono (fun z _ hz=>hz)⟩⟩
     obtain ⟨ad,er,rfl,hR⟩:=hDR
     try have hlR:=hR.lt
     refine Zc 5 J (Qa (Qd (Zc 2 J (A4 J (fun g2=>?_) (fun g2=>?_)))))
     ·try simp at g2
      all_goals (exfalso;omega)
     ·try simp at g2
      refine A7 (Qd (La Eg2 J ‹_› J J ?_));refine Ca fb24 J (Dz3 t hG8 (by omega) As cS pf pl bt bf F _ (fun z hz=>by have:=hF z hz;omega) (by exact hU)) ?_;rintro v9 w8 ⟨hx8,Ah,ch,rfl,hO9⟩;have hz8:=hx8.size;have hR:=hR.u hx8;have hS0:(G7 t).length=B3 t:=by rw [← hA0.S,hA0.len]
      have hhd:=Dz2 hS0;rw [← hA0.S] at hhd;have hEb:(Ao5 k q bu).bytes=I2 t 256:=hhd.symm;have hEn:(Ao5 k q bu).bytes.length≤256:=by show (Y0 _ _).length≤256;rw [Ba3];exact (Aq2 q.S).2.2
      have hEby:∀ b∈(Ao5 k q bu).bytes,b<256:=Ck2 _ _;have hEq:(Ao5 k q bu).q.S.length≤1000:=by show q.S.length≤1000;omega
      have hEA:SameA t (Ao5 k q bu).k (Ao5 k q bu).q:=hA0;have hEbu:(Ao5 k q bu).budget=bu:=rfl;rw [← hEb] at hO9 ⊢;have hR:=hR.mono (G':=fun x=>x<(World.heap w8).size) (fun z _ hz=>hz);have hH:=hO9.rd (F:=fun x=>x<(World.heap w8).size) (fun _ _ h=>h);generalize hz0d:(World.heap w8).size=hz0 at*;generalize hEdef:Ao5 k q bu=E at*;refine Zc 1 J (Qd (B7 J (B6 sl49 Tryz.underlying49 zr9 J J J (by rfl)) ?_));intro b9 w9 hb9 hs9 hx9 hB9;have hC:=hC.s0 (hx8.s0 hx9);have hL:=hL.u (hx8.s0 hx9);have hU:=hU.u (hx8.s0 hx9);have hB2:=hB2.u (hx8.s0 hx9);have hR:=hR.u hx9;have hH:=hH.u hx9;have hOw:Own w9 hz0 9 1 (some ⟨b9,0,none⟩) 1 1 (Dr2 [[]]):=Blk.own (by exact hB9) J (by omega) (by omega)
      refine Zc 1 J (Qd (Zc 3 J (Qa (Qd (Zc 1 J (B2 (D9 (σ:=Nat × Option Addr × Nat × List (List Nat) × DS × Nat × Bool) (fun (i,A,c,W,D,f,fl)=>[(8,.pointer (some ⟨b2,0,none⟩)),(10,.int .i64 (bu:Nat)),(11,.pointer ad),(12,.int .i64 er),(13,.slice Ah E.bytes.length ch),(14,.slice A W.length c),(15,.bool fl),(16,.int .i64 (i:Nat))]) (fun (i,A,c,W,D,f,fl) wr=>Chg [] w wr∧Laid wr∧DR (fun x=>x<hz0) wr k q bu ad er∧RAu F wr t As pf pl bt bf∧Blk wr b2 [.slice As (G7 t).length cS,.int .i64 (M0 t),.slice (some ⟨pf,0,none⟩) (B3 t) (B3 t),.slice (some ⟨pl,0,none⟩) (B3 t) (B3 t),.slice (some ⟨bt,0,none⟩) (B3 t) (B3 t)] 27∧Rd (fun x=>x<hz0) wr 1 Ah E.bytes.length (Q0 E.bytes)∧hz0≤wr.heap.size∧Own wr hz0 9 1 A W.length c (Dr2 W)∧(fl=false→W=J9 D.l∧OutI E i D f)∧(fl=true→(H7 E).full=true)∧i≤bu+1) (fun (i,A,c,W,D,f,fl) wr=>bu+1 - i) (0,some ⟨b9,0,none⟩,1,[[]],D0 E,E.budget+1,decide (bu<1)) ⟨rfl,rfl,rfl,rfl,rfl,rfl,(G3 J (by rw [Ej7,cmpB_lss,Ej8];omega)),rfl,trivial⟩ ?_ ?_)))))))
      ·refine ⟨hC,hL,hR,hU,hB2,hH,by omega,hOw,fun h=>?_,fun h=>Dz6 (by rw [hEbu];have:=Em3 h;omega),Ej2 _⟩;have h1:=Eq2 h;obtain ⟨o1,o2,o3⟩:=D0_out (E:=E) (by omega);exact ⟨o2.symm,o1⟩
      rintro ⟨i,A,c,W,D,f,fl⟩ w20 ⟨hC,hL,hR,hU,hB2,hH,hz20,hOw,hfl,hft,hi⟩
      try have hlR:=hR.lt
      refine Qa (I6 (fun e9 wr=>Sub [(8,.pointer (some ⟨b2,0,none⟩)),(10,.int .i64 (bu:Nat)),(11,.pointer ad),(12,.int .i64 er),(13,.slice Ah E.bytes.length ch),(14,.slice A W.length c),(15,.bool fl),(16,.int .i64 (i:Nat)),(77,.bool (decide (i<W.length∧fl=false)))] e9∧Chg [] w wr∧Laid wr∧DR (fun x=>x<hz0) wr k q bu ad er∧RAu F wr t As pf pl bt bf∧Blk wr b2 [.slice As (G7 t).length cS,.int .i64 (M0 t),.slice (some ⟨pf,0,none⟩) (B3 t) (B3 t),.slice (some ⟨pl,0,none⟩) (B3 t) (B3 t),.slice (some ⟨bt,0,none⟩) (B3 t) (B3 t)] 27∧Rd (fun x=>x<hz0) wr 1 Ah E.bytes.length (Q0 E.bytes)∧hz0≤wr.heap.size∧Own wr hz0 9 1 A W.length c (Dr2 W)) ?_ ?_)
      ·refine Qb (Z 2 J (Ln Tryz.underlying49 J (Z 2 J (C0 (d:=74) J (fun g3=>?_) (fun g3=>?_)))))
       ·try simp at g3
        refine Qu J (Z 1 J (Qu J (Zc 2 J ⟨⟨rfl,rfl,rfl,rfl,rfl,rfl,rfl,rfl,(G3 J (by rw [Ej7,Ej8];cases fl<;>simp;omega)),trivial⟩,?_⟩)));exact ⟨hC,hL,hR,hU,hB2,hH,by omega,hOw⟩
       ·try simp at g3
        refine Qk J (Qk J (Zc 1 J ⟨⟨rfl,rfl,rfl,rfl,rfl,rfl,rfl,rfl,(G3 J (by rw [Ej6 (by omega)])),trivial⟩,?_⟩));exact ⟨hC,hL,hR,hU,hB2,hH,by omega,hOw⟩
      rintro e9 w21 ⟨hs9,hC,hL,hR,hU,hB2,hH,hz21,hOw⟩;refine I5 _ hs9 ?_;clear hs9 e9
      try have hlR:=hR.lt
      refine A4 J (fun g4=>?_) (fun g4=>?_)
      ·have g4:=Em3 g4;obtain ⟨rfl,hOut⟩:=hfl g4.2;obtain ⟨hiW,rfl⟩:=g4;have hWl:(J9 D.l).length=D.l.length:=by unfold J9;rw [En2]
       rw [hWl] at hiW hOw ⊢;have hIn:=hOut.go hiW;have hDb:=hOut.bu;have hib:i≤bu:=by omega
       generalize f - 1=f1 at*;clear hfl hft hOut
       refine A7 (Qa (B2 (Qd (Zc 1 J (B2 (D9 (σ:=Nat × Option Addr × Nat × DS) (fun (j,A,c,D)=>[(8,.pointer (some ⟨b2,0,none⟩)),(10,.int .i64 (bu:Nat)),(11,.pointer ad),(12,.int .i64 er),(13,.slice Ah E.bytes.length ch),(14,.slice A D.l.length c),(15,.bool false),(16,.int .i64 (i:Nat)),(17,.int .i64 (j:Nat))]) (fun (j,A,c,D) wr=>Chg [] w wr∧Laid wr∧DR (fun x=>x<hz0) wr k q bu ad er∧RAu F wr t As pf pl bt bf∧Blk wr b2 [.slice As (G7 t).length cS,.int .i64 (M0 t),.slice (some ⟨pf,0,none⟩) (B3 t) (B3 t),.slice (some ⟨pl,0,none⟩) (B3 t) (B3 t),.slice (some ⟨bt,0,none⟩) (B3 t) (B3 t)] 27∧Rd (fun x=>x<hz0) wr 1 Ah E.bytes.length (Q0 E.bytes)∧hz0≤wr.heap.size∧Own wr hz0 9 1 A D.l.length c (Dr2 (J9 D.l))∧InI E i j D f1∧j≤E.bytes.length) (fun (j,A,c,D) wr=>E.bytes.length - j) (0,A,c,D) (sb J) ?_ ?_))))))
       ·exact ⟨hC,hL,hR,hU,hB2,hH,by omega,hOw,hIn,Ej2 _⟩
       clear hIn hiW hWl hDb;rintro ⟨j,A,c,D⟩ w30 ⟨hC,hL,hR,hU,hB2,hH,hz30,hOw,hIn,hj⟩;have hWl:(J9 D.l).length=D.l.length:=by unfold J9;rw [En2]
       have hiD:=hIn.lt;have hDb:=hIn.bu
       try have hlR:=hR.lt
       try have hlB2:=hB2.lt
       refine Qa (Qd (Z 2 J (Ln Tryz.underlying24 J (Zc 1 J (A4 J (fun g5=>?_) (fun g5=>?_))))))
       ·try simp at g5
        have hjn:j<E.bytes.length:=by omega
        have hbm:=hEby _ (I0 E.bytes 0 j hjn);obtain ⟨hwl,hwb⟩:=Cy4 hIn hiD;obtain ⟨hn1,hn2⟩:=hIn.next hEA hEq hEby hjn rfl;generalize hui:(D.l.getD i default).word=ui at*;have hwi:(J9 D.l).getD i []=ui:=by rw [Au2 D.l i hiD,hui]
        generalize hub:E.bytes.getD j 0=b at*
        have hub8:∀ x∈ui++[b],x<256:=fun x hx=>by
         rcases El7.1 hx with h|h
         ·exact hwb x h
         ·rw [Ei6] at h;omega
        have hsu:=Y2 (ui++[b]);have hsu1:=Y2 ui;have hsu2:(Aq6 [b]).size=1:=Y2 [b];have hsl:(ui++[b]).length=ui.length+1:=by rw [Ei9];rfl
        refine A7 (Qa (B2 (Qa (C8 (S:=[]) 11 [(0,0),(0,1),(0,2),(0,3),(0,4),(0,5),(0,6),(0,7),(0,8),(1,9),(1,10),(2,11),(2,12)] mo (by kernel_rfl) ?_))));intro w10 hx10 hh10;have hH:=hH.u hx10;have hOw:=hOw.u hx10;have hCS10:=A8 ([]) w10;obtain ⟨gW,oW,rfl,_,hlt9,hcell9⟩:=(hOw.rd (F:=fun _=>True) (fun _ _ _=>trivial)).at_ (by omega);obtain ⟨gH,oH,hAh,_,hlt8,hcell8⟩:=hH.at_ (by omega);subst hAh;refine Z 2 J (D5 J (B1 sl49 J J (by omega) (by omega)) (D5 J (D7 o9 J (by have h:=((hOw.rd (F:=fun _=>True) (fun _ _ _=>trivial)).one (Bw5 (J9 D.l) i (by omega))).2;rw [hwi] at h;exact h) (by simp;done)) ?_));refine Z 2 J (D5 J (B1 U0 J J (by omega) (by omega)) (D5 J (D7 o3 J (by have h:=(hH.one (T0 E.bytes j hjn)).2;rw [hub] at h;exact h) (by simp;done)) ?_));refine D5 J (H1 kn3 Tryz.underlying5 J (by exact Af0 (by omega))) ?_;refine E2 J (B6 Aq7 Tryz.underlying44 zr5 J J J (by rfl)) ?_;intro b11 w11 hb11 hs11 hx11 hB11;have hU:=hU.u (hx10.s0 hx11);have hB2:=hB2.u (hx10.s0 hx11);have hCS10:=hCS10.s0 hx11;refine ⟨hCS10,?_⟩;refine Ce1 J (Ah4 (l:=[b]) (F:=fun _=>True) J J (by intro x hx;simp at hx;omega) (Blk.rd ‹_› J trivial)) ‹_› ?_;refine C9 J ((Ay7 J J (by omega)).to (congrArg Value.string (Ad9 ui [b]))) (Zc 1 J (Qd (La Eg2 J ‹_› J J ?_)));refine Z 1 J (Ca fb25 J (Co8 t hG8 (by omega) (Aq6 (ui++[b])) (by omega) As cS pf pl bt bf F _ (fun z hz=>by have:=hF z hz;omega) hU) ?_);rintro v9 w12 ⟨hx12,bx,rfl,hbx,hBx⟩;have hC:=hC.s0 ((hx10.s0 hx11).s0 hx12);have hL:=hL.u ((hx10.s0 hx11).s0 hx12);have hR:=hR.u ((hx10.s0 hx11).s0 hx12);have hU:=hU.u hx12;have hB2:=hB2.u hx12;have hH:=hH.u (hx11.s0 hx12);have hOw:=hOw.u (hx11.s0 hx12);rw [Ag1 _ hub8] at hBx
        try have hlBx:=hBx.lt
        refine Zc 1 J (Qd (Zc 1 J (Qa (Qd (Zc 1 J (B2 (D9 (σ:=Nat) (fun s=>[(8,.pointer (some ⟨b2,0,none⟩)),(10,.int .i64 (bu:Nat)),(11,.pointer ad),(12,.int .i64 er),(13,.slice (some ⟨gH,oH,none⟩) E.bytes.length ch),(14,.slice (some ⟨gW,oW,none⟩) D.l.length c),(15,.bool false),(16,.int .i64 (i:Nat)),(17,.int .i64 (j:Nat)),(18,.string (Aq6 (ui++[b]))),(19,.slice (some ⟨bx,0,none⟩) (G7 t).length (G7 t).length),(20,.int .i64 (kU t (J9 D.l) (ui++[b]) s)),(21,.int .i64 (s:Nat))]) (fun s wr=>Chg [] w wr∧Laid wr∧DR (fun x=>x<hz0) wr k q bu ad er∧RAu F wr t As pf pl bt bf∧Blk wr b2 [.slice As (G7 t).length cS,.int .i64 (M0 t),.slice (some ⟨pf,0,none⟩) (B3 t) (B3 t),.slice (some ⟨pl,0,none⟩) (B3 t) (B3 t),.slice (some ⟨bt,0,none⟩) (B3 t) (B3 t)] 27∧Rd (fun x=>x<hz0) wr 1 (some ⟨gH,oH,none⟩) E.bytes.length (Q0 E.bytes)∧hz0≤wr.heap.size∧Own wr hz0 9 1 (some ⟨gW,oW,none⟩) D.l.length c (Dr2 (J9 D.l))∧Blk wr bx (Ad3 (Cf3 t (ui++[b])) (G7 t).length) 4∧1≤s∧s≤D.l.length) (fun s wr=>D.l.length - s) 1 ⟨rfl,rfl,rfl,rfl,rfl,rfl,rfl,rfl,rfl,rfl,rfl,(G0 J (by rw [kU,Ei3 (by omega),kU])),rfl,trivial⟩ ?_ ?_)))))))
        ·exact ⟨hC,hL,hR,hU,hB2,hH,by omega,hOw,hBx,Ej5 _,by omega⟩
        rintro s1 w40 ⟨hC,hL,hR,hU,hB2,hH,hz40,hOw,hBx,hs1,hs⟩
        try have hlR:=hR.lt
        try have hlBx:=hBx.lt
        refine Qa (Qd (Z 2 J (Ln Tryz.underlying49 J (Zc 1 J (A4 J (fun g6=>?_) (fun g6=>?_))))))
        ·try simp at g6
         have hsD:s1<D.l.length:=by omega
         obtain ⟨hvl,hvb⟩:=Cy4 hIn hsD;have hws:(J9 D.l).getD s1 []=(D.l.getD s1 default).word:=Au2 D.l s1 hsD;generalize (D.l.getD s1 default).word=us at*;have hsv:=Y2 us;refine A7 (Qa (B2 (Qa (C8 (S:=[]) 7 [(0,0),(0,1),(0,2),(0,3),(0,4),(0,6),(1,5),(2,7)] mo (by kernel_rfl) ?_))));intro w13 hx13 hh13;have hU:=hU.u hx13;have hB2:=hB2.u hx13;have hOw:=hOw.u hx13;have hCS13:=A8 ([]) w13;obtain ⟨_,_,hAE,_,hlt9,hcell9⟩:=(hOw.rd (F:=fun _=>True) (fun _ _ _=>trivial)).at_ (by omega)
         cases hAE
         refine D5 J (C2 Eg2 J ‹_› (by simp;done) J J) ?_;refine Z 2 J (D5 J (B1 sl49 J J (by omega) (by omega)) (D5 J (D7 o9 J (by have h:=((hOw.rd (F:=fun _=>True) (fun _ _ _=>trivial)).one (Bw5 (J9 D.l) s1 (by omega))).2;rw [hws] at h;exact h) (by simp;done)) ?_));refine Z 1 J (C5 J (C1 fb25 J) (Co8 t hG8 (by omega) (Aq6 us) (by omega) As cS pf pl bt bf F _ (fun z hz=>by have:=hF z hz;omega) hU) ?_);rintro v9 w14 ⟨hx14,by1,rfl,hby1,hBy⟩;have hBx:=hBx.u (hx13.s0 hx14);have hCS13:=hCS13.s0 hx14;refine ⟨hCS13,?_⟩;rw [Ag1 _ hvb] at hBy
         try have hlBy:=hBy.lt
         refine Ca fb26 J (same26_c (Cf3 t us) (Cf3 t (ui++[b])) (G7 t).length by1 bx (by omega) _ hBy hBx) ?_;rintro _ w15 ⟨rfl,hx15⟩;have hz15:=hx15.size;have hC:=hC.s0 ((hx13.s0 hx14).s0 hx15);have hL:=hL.u ((hx13.s0 hx14).s0 hx15);have hR:=hR.u ((hx13.s0 hx14).s0 hx15);have hU:=hU.u (hx14.s0 hx15);have hB2:=hB2.u (hx14.s0 hx15);have hH:=hH.u ((hx13.s0 hx14).s0 hx15);have hOw:=hOw.u (hx14.s0 hx15);have hBx:=hBx.u hx15
         refine Qc (A4 J (fun m1=>?_) (fun m1=>?_))
         ·have m1:Bh3 t ((J9 D.l).getD s1 []) (ui++[b])=true:=by rw [hws];exact m1
          refine Qb (Zc 2 J (Qb (Z 1 J (Ad J J (by omega) (Zc 1 J ⟨s1+1,⟨rfl,rfl,rfl,rfl,rfl,rfl,rfl,rfl,rfl,rfl,rfl,(G0 J (by rw [kU,Ei4 ⟨hs1,m1⟩])),rfl,trivial⟩,?_,?_⟩)))));exact ⟨hC,hL,hR,hU,hB2,hH,by omega,hOw,hBx,by omega,hsD⟩;show D.l.length - (s1+1)<D.l.length - s1;omega
         ·have m1:¬ Bh3 t ((J9 D.l).getD s1 []) (ui++[b])=true:=by rw [hws];intro h;change ((List.range (G7 t).length).all fun x=>Cf3 t us x==Cf3 t (ui++[b]) x)=false at m1;unfold Bh3 at h;rw [m1] at h;cases h
          refine A7 (Qb (Z 1 J (Ad J J (by omega) (Zc 1 J ⟨s1+1,⟨rfl,rfl,rfl,rfl,rfl,rfl,rfl,rfl,rfl,rfl,rfl,(G0 J (by rw [kU,Ei3 (fun h=>m1 h.2)])),rfl,trivial⟩,?_,?_⟩))));exact ⟨hC,hL,hR,hU,hB2,hH,by omega,hOw,hBx,by omega,hsD⟩;show D.l.length - (s1+1)<D.l.length - s1;omega
        ·try simp at g6
         have hss:s1=D.l.length:=by omega
         subst hss;generalize hK:kU t (J9 D.l) (ui++[b]) D.l.length=K at*
         refine Xb (Qa (I6 (fun e9 wr=>Sub [(8,.pointer (some ⟨b2,0,none⟩)),(10,.int .i64 (bu:Nat)),(11,.pointer ad),(12,.int .i64 er),(13,.slice (some ⟨gH,oH,none⟩) E.bytes.length ch),(14,.slice (some ⟨gW,oW,none⟩) D.l.length c),(15,.bool false),(16,.int .i64 (i:Nat)),(17,.int .i64 (j:Nat)),(18,.string (Aq6 (ui++[b]))),(20,.int .i64 K),(123,.bool (decide (K<0∧(bu:Int)≤(D.l.length:Int))))] e9∧Chg [] w wr∧Laid wr∧DR (fun x=>x<hz0) wr k q bu ad er∧RAu F wr t As pf pl bt bf∧Blk wr b2 [.slice As (G7 t).length cS,.int .i64 (M0 t),.slice (some ⟨pf,0,none⟩) (B3 t) (B3 t),.slice (some ⟨pl,0,none⟩) (B3 t) (B3 t),.slice (some ⟨bt,0,none⟩) (B3 t) (B3 t)] 27∧Rd (fun x=>x<hz0) wr 1 (some ⟨gH,oH,none⟩) E.bytes.length (Q0 E.bytes)∧hz0≤wr.heap.size∧Own wr hz0 9 1 (some ⟨gW,oW,none⟩) D.l.length c (Dr2 (J9 D.l))) ?_ ?_))
         ·refine Qb (Z 3 J (C0 (d:=118) J (fun g7=>?_) (fun g7=>?_)))
          ·try simp at g7
           refine Qu J (Z 1 J (Qu J (Ln Tryz.underlying49 J (Qu J (Z 1 J (Qu J (Zc 2 J ⟨⟨rfl,rfl,rfl,rfl,rfl,rfl,rfl,rfl,rfl,rfl,rfl,(G3 J (by rw [Ej7,Ej8];simp [Z0];omega)),trivial⟩,?_⟩)))))));exact ⟨hC,hL,hR,hU,hB2,hH,by omega,hOw⟩
          ·try simp at g7
           refine Qk J (Qk J (Qk J (Qk J (Zc 1 J ⟨⟨rfl,rfl,rfl,rfl,rfl,rfl,rfl,rfl,rfl,rfl,rfl,(G3 J (by rw [Ej6 (by omega)])),trivial⟩,?_⟩))));exact ⟨hC,hL,hR,hU,hB2,hH,by omega,hOw⟩
         rintro e9 w50 ⟨hs9,hC,hL,hR,hU,hB2,hH,hz50,hOw⟩;refine I5 _ hs9 ?_;clear hs9 e9
         try have hlR:=hR.lt
         refine A4 J (fun g8=>?_) (fun g8=>?_)
         ·have g8:=Em3 g8;have hfu:=hn1 (by rw [hEbu];exact g8);refine Qd (Zc 1 J (Bo3 (Bf9 J (Ay3 ?_))));refine Qb (Z 1 J (Ad J J (by omega) (Zc 1 J ⟨(i+1,some ⟨gW,oW,none⟩,c,J9 D.l,D,0,true),⟨rfl,rfl,rfl,rfl,rfl,((by rw [hWl];rfl)),rfl,rfl,trivial⟩,?_,?_⟩)));exact ⟨hC,hL,hR,hU,hB2,hH,by omega,by rw [hWl];exact hOw,fun h=>(by cases h),fun _=>hfu,by omega⟩;show bu+1 - (i+1)<bu+1 - i;omega
         ·have g8:=Eq2 g8;obtain ⟨D',kk,hIn2,hl2,hk2,hw2,hd2,hkk⟩:=hn2 (by rw [hEbu];exact g8)
          refine A7 (I6 (fun e9 wr=>∃ A' c',Sub [(8,.pointer (some ⟨b2,0,none⟩)),(10,.int .i64 (bu:Nat)),(11,.pointer ad),(12,.int .i64 er),(13,.slice (some ⟨gH,oH,none⟩) E.bytes.length ch),(14,.slice A' D'.l.length c'),(15,.bool false),(16,.int .i64 (i:Nat)),(17,.int .i64 (j:Nat)),(20,.int .i64 (kk:Nat))] e9∧Chg [] w wr∧Laid wr∧DR (fun x=>x<hz0) wr k q bu ad er∧RAu F wr t As pf pl bt bf∧Blk wr b2 [.slice As (G7 t).length cS,.int .i64 (M0 t),.slice (some ⟨pf,0,none⟩) (B3 t) (B3 t),.slice (some ⟨pl,0,none⟩) (B3 t) (B3 t),.slice (some ⟨bt,0,none⟩) (B3 t) (B3 t)] 27∧Rd (fun x=>x<hz0) wr 1 (some ⟨gH,oH,none⟩) E.bytes.length (Q0 E.bytes)∧hz0≤wr.heap.size∧Own wr hz0 9 1 A' D'.l.length c' (Dr2 (J9 D'.l))) ?_ ?_)
          ·refine Qd (Zc 2 J (A4 J (fun g9=>?_) (fun g9=>?_)))
           ·try simp at g9
            rw [Ei4 g9] at hw2 hd2 hkk;have hOb:=hOw.blk;refine Qd (Z 1 J (Ln Tryz.underlying49 J (Zc 1 J (Qb (Z 2 J (B7 J (B6 sl49 Tryz.underlying49 zr9 J J J (by rfl)) ?_))))));intro b16 w16 hb16 hs16 hx16 hB16;have hC:=hC.s0 hx16;have hL:=hL.u hx16;have hR:=hR.u hx16;have hU:=hU.u hx16;have hB2:=hB2.u hx16;have hH:=hH.u hx16;have hOw:=hOw.u hx16;refine G2 J el49 J J hOw (Blk.rd (F:=fun _=>True) ‹_› J trivial) (by rfl) (by omega) (by omega) ?_;intro A' c' w17 hO17 hx17 hA';have hz17:=hx17.size;have hC:=hC.step hx17 (by intro x h;have:=hOb x h;exact .inr (by omega));have hL:=hL.q hx17 (by intro x h;have:=hOb x h;first|omega|exact .inr (by omega));have hR:=hR.q hx17 (by intro x h;have:=hOb x h;first|omega|exact .inr (by omega));have hU:=hU.q hx17 (by intro x hx hf;have:=hOb x hx;have:=hF x hf;omega);have hB2:=hB2.q hx17 (by intro h;have:=hOb _ h;omega);have hH:=hH.q hx17 (by intro x h;have:=hOb x h;first|omega|exact .inr (by omega))
            replace hOw:=hO17
            refine Zc 1 J ⟨A',c',⟨rfl,rfl,rfl,rfl,rfl,((by rw [hd2];rfl)),rfl,rfl,rfl,(G0 J hkk),trivial⟩,?_⟩;refine ⟨hC,hL,hR,hU,hB2,hH,by omega,?_⟩;rw [hw2,hd2];unfold Dr2;rw [Em6];exact hOw
           ·try simp at g9
            rw [Ei3 (by omega)] at hw2 hd2 hkk;refine A7 ⟨some ⟨gW,oW,none⟩,c,⟨rfl,rfl,rfl,rfl,rfl,((by rw [hd2];rfl)),rfl,rfl,rfl,(G0 J hkk),trivial⟩,?_⟩;refine ⟨hC,hL,hR,hU,hB2,hH,by omega,?_⟩;rw [hw2,hd2];exact hOw
          rintro e9 w60 ⟨A',c',hs9,hC,hL,hR,hU,hB2,hH,hz60,hOw⟩;refine I5 _ hs9 ?_;clear hs9 e9
          try have hlR:=hR.lt
          refine Qd (Zc 2 J (A4 J (fun e0=>?_) (fun e0=>?_)))
          ·try simp at e0
           obtain ⟨l,pd,hl,rfl,hD⟩:∃ l pd,Cc6 k q bu=some l∧ad=some ⟨pd,0,none⟩∧IsDfa (fun x=>x<hz0) w60 pd E l:=by
            rcases hR with ⟨_,l,pd,h1,h2,h3⟩|⟨h1,_⟩
            ·exact ⟨l,pd,h1,h2,by rw [← hEdef];exact h3⟩
            ·omega
           obtain ⟨_,hlm⟩:=Ec4 hl;rw [hEdef] at hlm;have hext:=hIn2.ext;have hlen:l.length=(H7 E).l.length:=by rw [hlm,An3]
           have hil:i<l.length:=by have:=hext.len;have:=hIn2.lt;omega
           have hnx:Ao6 E l i b=kk:=by
            have:=next_fin (k:=k) (q:=q) (bu:=bu) (l:=l) (D:=H7 E) hlm (by rw [hEdef];exact hD.good) hext hIn2.lt (j:=j) (by rw [hl2];omega) (by rw [hEdef];exact hjn);rw [hEdef,hub,hk2] at this;exact this
           obtain ⟨_,_,hAh,_,hlt8,hcell8⟩:=hH.at_ (by omega)
           cases hAh
           refine Qd (Z 4 J (C9 J (B1 U0 J J (by omega) (by omega)) (Lc o3 J (by have h:=(hH.one (T0 E.bytes j hjn)).2;rw [hub] at h;exact h) ?_)));refine C9 J (H1 kn3 Tryz.underlying5 J (by exact Af0 (by omega))) ?_;refine Ca fb16 J (Ec2 _ pd E l i b hil hbm _ hD) ?_;rintro _ w18 ⟨rfl,hx18⟩;have hz18:=hx18.size;have hC:=hC.s0 hx18;have hL:=hL.u hx18;have hR:=hR.u hx18;have hU:=hU.u hx18;have hB2:=hB2.u hx18;have hH:=hH.u hx18;have hOw:=hOw.u hx18
           refine Zc 5 J (Qd (Z 3 J (C0 (d:=147) J (fun x1=>?_) (fun x1=>?_))))
           ·try simp at x1
            all_goals simp at x1
           ·try simp at x1
            refine Qu J (Z 1 J (Qu J (Z 1 J (Qu J (Zc 2 J (A4 J (fun x2=>?_) (fun x2=>?_)))))))
            ·try simp at x2
             all_goals (exfalso;omega)
            ·try simp at x2
             refine A7 (Qb (Z 1 J (Ad J J (by omega) (Zc 1 J ⟨(j+1,A',c',D'),sb J,?_,?_⟩))));exact ⟨hC,hL,hR,hU,hB2,hH,by omega,hOw,hIn2,hjn⟩;show E.bytes.length - (j+1)<E.bytes.length - j;omega
          ·try simp at e0
           refine A7 (Qb (Z 1 J (Ad J J (by omega) (Zc 1 J ⟨(j+1,A',c',D'),sb J,?_,?_⟩))));exact ⟨hC,hL,hR,hU,hB2,hH,by omega,hOw,hIn2,hjn⟩;show E.bytes.length - (j+1)<E.bytes.length - j;omega
       ·try simp at g5
        have hjj:j=E.bytes.length:=by omega
        subst hjj;refine Xb (Qb (Z 1 J (Ad J J (by omega) (Zc 1 J ⟨(i+1,A,c,J9 D.l,D,f1,false),⟨rfl,rfl,rfl,rfl,rfl,((by rw [hWl];rfl)),rfl,rfl,trivial⟩,?_,?_⟩))));exact ⟨hC,hL,hR,hU,hB2,hH,by omega,by rw [hWl];exact hOw,fun _=>⟨rfl,hIn.out⟩,fun h=>(by cases h),by omega⟩;show bu+1 - (i+1)<bu+1 - i;omega
      ·have g4:=Eq2 g4
       refine Xb (Qa (Qd (Zc 1 J (A4 J (fun f1=>?_) (fun f1=>?_)))))
       ·have hfu:=hft f1;rw [← hEdef] at hfu;have hno:=Ec5 hfu
        have hR':er=9∧ad=none:=by
         rcases hR with ⟨_,l,pd,h1,_⟩|⟨h1,_,h2⟩
         ·rw [hno] at h1;cases h1
         ·exact ⟨h1,h2⟩
        obtain ⟨rfl,rfl⟩:=hR'
        refine Qd (Z 1 J (C9 J (H5 Tryz.underlying31 J J) (Z 1 J (C0 (d:=155) J (fun y1=>?_) (fun y1=>?_)))))
        ·try simp at y1
         refine Qu J (Z 1 J (Qu J (Z 3 J (C0 (d:=159) J (fun y2=>?_) (fun y2=>?_)))))
         ·try simp at y2
          refine Qu J (Ca fb12 J (Bn7 _ hL) ?_);rintro _ w19 ⟨rfl,hx19⟩;have hC:=hC.s0 hx19;exact Zc 2 J (A6 (B5 J J ⟨rfl,hC⟩))
         ·try simp at y2
          all_goals simp at y2
        ·try simp at y1
         all_goals simp at y1
       ·obtain ⟨rfl,hOut⟩:=hfl f1;have hWl:(J9 D.l).length=D.l.length:=by unfold J9;rw [En2]
        rw [hWl] at g4 hOw ⊢;have hfin:=hOut.stop (fun h=>g4 ⟨h,f1⟩);have hfd:=hOut.full;have hl0:=Ec6 (k:=k) (q:=q) (bu:=bu) (by rw [hEdef,hfin];exact hfd);rw [hEdef,hfin] at hl0
        obtain ⟨l,pd,hlm,rfl,rfl,hD⟩:∃ l pd,l=Aw4 D.l∧er=0∧ad=some ⟨pd,0,none⟩∧IsDfa (fun x=>x<hz0) w21 pd E l:=by
         rcases hR with ⟨h0,l,pd,h1,h2,h3⟩|⟨_,h1,_⟩
         ·rw [hl0] at h1;injection h1 with h1
          exact ⟨l,pd,h1.symm,h0,h2,by rw [← hEdef];exact h3⟩
         ·rw [hl0] at h1;cases h1
        have hlen:l.length=D.l.length:=by rw [hlm,An3]
        have hgd:=hD.good
        have hlaw:DLaw E l:=by
         have:=dfa_law (k:=k) (q:=q) (budget:=bu) (l:=l) (by omega) (by rw [hl0,hlm]) (by rw [hEdef];exact hgd);rw [hEdef] at this;exact this
        have hwf:∀ n,n<l.length→(l.getD n default).word=(J9 D.l).getD n []:=fun n hn=>by rw [Au2 D.l n (by omega),hlm,(V8 D.l n (by omega)).2.1]
        have hwb:∀ n,n<l.length→(l.getD n default).word.length≤n∧∀ b∈(l.getD n default).word,b<256:=fun n hn=>by
         rw [hlm,(V8 D.l n (by omega)).2.1];exact ⟨hOut.inv.wl n (by omega),hOut.inv.wb n (by omega)⟩
        have hDbu:=hOut.bu
        refine A7 (Qa (Qd (Z 3 J (C0 (d:=164) J (fun z0=>?_) (fun z0=>?_)))))
        ·try simp at z0
         all_goals simp at z0
        ·try simp at z0
         refine Qu J (Z 1 J (Qu J (Ca fb15 J (Ax6 _ pd E l _ hD) ?_)));rintro _ w20 ⟨rfl,hx20⟩;have hz20:=hx20.size;have hC:=hC.s0 hx20;have hL:=hL.u hx20;have hU:=hU.u hx20;have hB2:=hB2.u hx20;have hH:=hH.u hx20;have hOw:=hOw.u hx20;have hD:=hD.u hx20
         refine Qu J (Z 1 J (Qu J (Ln Tryz.underlying49 J (Qu J (Z 3 J (C0 (d:=171) J (fun z1=>?_) (fun z1=>?_)))))))
         ·try simp at z1
          all_goals (exfalso;omega)
         ·try simp at z1
          refine Qu J (Z 1 J (Qu J (Ca fb22 J (Df3 _ pd E l _ (fun x (hx:x<hz0)=>by omega) hD) ?_)));rintro _ w21 ⟨hx21,A9,c9,rfl,hO9⟩;have hz21:=hx21.size;have hC:=hC.s0 hx21;have hL:=hL.u hx21;have hU:=hU.u hx21;have hB2:=hB2.u hx21;have hH:=hH.u hx21;have hOw:=hOw.u hx21;have hD:=hD.u hx21
          refine Qu J (Ln Tryz.underlying44 J (Qu J (Z 1 J (Qu J (Ln Tryz.underlying24 J (Qu J (Zc 2 J (A4 J (fun z2=>?_) (fun z2=>?_)))))))))
          ·try simp at z2
           all_goals (exfalso;omega)
          ·try simp at z2
           refine A7 (Qa (Qd (Zc 1 J (B2 (D9 (σ:=Nat) (fun n=>[(8,.pointer (some ⟨b2,0,none⟩)),(11,.pointer (some ⟨pd,0,none⟩)),(13,.slice Ah E.bytes.length ch),(14,.slice A D.l.length c),(24,.int .i64 (n:Nat))]) (fun n wr=>Chg [] w wr∧Laid wr∧IsDfa (fun x=>x<hz0) wr pd E l∧RAu F wr t As pf pl bt bf∧Blk wr b2 [.slice As (G7 t).length cS,.int .i64 (M0 t),.slice (some ⟨pf,0,none⟩) (B3 t) (B3 t),.slice (some ⟨pl,0,none⟩) (B3 t) (B3 t),.slice (some ⟨bt,0,none⟩) (B3 t) (B3 t)] 27∧Rd (fun x=>x<hz0) wr 1 Ah E.bytes.length (Q0 E.bytes)∧hz0≤wr.heap.size∧Own wr hz0 9 1 A D.l.length c (Dr2 (J9 D.l))∧n≤D.l.length) (fun n wr=>D.l.length - n) 0 (sb J) ?_ ?_)))))
           ·exact ⟨hC,hL,hD,hU,hB2,hH,by omega,hOw,Ej2 _⟩
           rintro n w70 ⟨hC,hL,hD,hU,hB2,hH,hz70,hOw,hn⟩
           try have hlB2:=hB2.lt
           refine Qa (Qd (Z 2 J (Ln Tryz.underlying49 J (Zc 1 J (A4 J (fun n1=>?_) (fun n1=>?_))))))
           ·try simp at n1
            have hnl:n<l.length:=by omega
            obtain ⟨hvl,hvb⟩:=hwb n hnl;have hwn:=hwf n hnl;have hrn:=run_word hlm hOut.x hgd hlaw hnl hvb;have hmn:=ways_law hgd hlaw hEA (l.getD n default).word hvb;rw [hrn] at hmn;have hsv:=Y2 (l.getD n default).word;refine A7 (Qa (B2 (Qd (Z 2 J (Ca fb27 J (dword_c _ pd E l n hnl _ hD) ?_)))));rintro _ w22 ⟨rfl,hx22⟩;have hz22:=hx22.size;refine Z 3 J ?_;generalize (l.getD n default).word=un at*;refine Zc 2 J (Qa (C8 (S:=[]) 25 [(0,0),(0,1),(0,2),(0,3),(0,4),(0,5),(0,6),(0,7),(0,8),(0,9),(0,10),(0,11),(0,12),(0,14),(0,15),(1,13),(1,16),(0,17),(0,18),(0,19),(0,20),(0,21),(0,22),(0,24),(1,23),(2,25),(2,26)] mo (by kernel_rfl) ?_));intro w23 hx23 hh23;have hD:=hD.u (hx22.s0 hx23);have hB2:=hB2.u (hx22.s0 hx23);have hOw:=hOw.u (hx22.s0 hx23);have hCS23:=A8 ([]) w23;obtain ⟨gW,oW,rfl,_,hlt9,hcell9⟩:=(hOw.rd (F:=fun _=>True) (fun _ _ _=>trivial)).at_ (by omega);refine Z 3 J (Qu J (Z 1 J (Qu J (Z 1 J (Qu J (Z 1 J (Qu J (D5 J (B1 sl49 J J (by omega) (by omega)) (Qu J (D5 J (D7 o9 J (by have h:=((hOw.rd (F:=fun _=>True) (fun _ _ _=>trivial)).one (Bw5 (J9 D.l) n (by omega))).2;rw [← hwn] at h;exact h) (by simp;done)) ?_))))))))));refine Qu J (D5 J ((Does.neS J J).to (I7 (show _=false from by rw [Bw6];simp))) ?_);refine Z 2 J (Qu J (Z 1 J (Qu J (Z 1 J (Qu J (D5 J (C2 Eg2 J ‹_› (by simp;done) J J) ?_))))));refine Qu J (Z 1 J (Qu J (C5 J (C1 fb18 J) (De3 _ pd E l (n:Nat) _ hD) ?_)));rintro _ w24 ⟨rfl,hx24⟩;have hz24:=hx24.size;have hU:=hU.u ((hx22.s0 hx23).s0 hx24);have hCS23:=hCS23.s0 hx24;refine ⟨hCS23,?_⟩;refine Qu J (C5 J (C1 fb21 J) (rways_c t hG8 (by omega) (Aq6 un) (by omega) As cS pf pl bt bf F _ (fun z hz=>by have:=hF z hz;omega) hU) ?_);rintro _ w25 ⟨rfl,hx25⟩;have hz25:=hx25.size;have hD:=hD.u (hx24.s0 hx25);have hCS23:=hCS23.s0 hx25;refine ⟨hCS23,?_⟩;refine Qu J (Z 1 J (Qu J (D5 J ((Ce4 Tryz.underlying4 J J).to (I7 (show _=false from by rw [Ag1 _ hvb,Ej4 ⟨by omega,by omega⟩,Eo3,Ej1,hmn];simp [Z0]))) ?_)));refine Z 2 J (Qu J (Z 1 J (Qu J (Z 1 J (Qu J (Z 1 J (Qu J (C5 J (C1 fb19 J) (drun_c _ pd E l (Aq6 un) (by omega) _ hD) ?_))))))));rintro _ w26 ⟨rfl,hx26⟩;have hz26:=hx26.size;have hC:=hC.s0 ((((hx22.s0 hx23).s0 hx24).s0 hx25).s0 hx26);have hL:=hL.u ((((hx22.s0 hx23).s0 hx24).s0 hx25).s0 hx26);have hD:=hD.u hx26;have hU:=hU.u (hx25.s0 hx26);have hB2:=hB2.u ((hx24.s0 hx25).s0 hx26);have hH:=hH.u ((((hx22.s0 hx23).s0 hx24).s0 hx25).s0 hx26);have hOw:=hOw.u ((hx24.s0 hx25).s0 hx26);have hCS23:=hCS23.s0 hx26;refine ⟨hCS23,?_⟩;refine Qu J (C9 J ((Ce6 J J J).to (I7 (show _=false from by rw [Ag1 _ hvb,hrn];simp [Z0]))) ?_);refine Zc 1 J (E5 J (A7 (Qb (Z 1 J (Ad J J (by omega) (Zc 1 J ⟨n+1,sb J,?_,?_⟩))))));exact ⟨hC,hL,hD,hU,hB2,hH,by omega,hOw,by omega⟩;show D.l.length - (n+1)<D.l.length - n;omega
           ·try simp at n1
            refine Xb (Qa (Qd (Zc 1 J (B2 (D9 (σ:=Nat) (fun j=>[(11,.pointer (some ⟨pd,0,none⟩)),(13,.slice Ah E.bytes.length ch),(14,.slice A D.l.length c),(27,.int .i64 (j:Nat))]) (fun j wr=>Chg [] w wr∧Laid wr∧IsDfa (fun x=>x<hz0) wr pd E l∧RAu F wr t As pf pl bt bf∧Blk wr b2 [.slice As (G7 t).length cS,.int .i64 (M0 t),.slice (some ⟨pf,0,none⟩) (B3 t) (B3 t),.slice (some ⟨pl,0,none⟩) (B3 t) (B3 t),.slice (some ⟨bt,0,none⟩) (B3 t) (B3 t)] 27∧Rd (fun x=>x<hz0) wr 1 Ah E.bytes.length (Q0 E.bytes)∧hz0≤wr.heap.size∧j≤E.bytes.length) (fun j wr=>E.bytes.length - j) 0 (sb J) ?_ ?_)))))
            ·exact ⟨hC,hL,hD,hU,hB2,hH,by omega,Ej2 _⟩
            rintro j w80 ⟨hC,hL,hD,hU,hB2,hH,hz80,hj⟩
            refine Qa (Qd (Z 2 J (Ln Tryz.underlying24 J (Zc 1 J (A4 J (fun j1=>?_) (fun j1=>?_))))))
            ·try simp at j1
             have hjn:j<E.bytes.length:=by omega
             have hbm:=hEby _ (I0 E.bytes 0 j hjn);refine A7 (Qa (B2 (Qa (C8 (S:=[]) 10 [(0,0),(0,2),(0,6),(0,7),(0,8),(0,9),(1,1),(0,3),(1,4),(0,5),(2,10)] mo (by kernel_rfl) ?_))));intro w27 hx27 hh27;have hD:=hD.u hx27;have hH:=hH.u hx27;have hCS27:=A8 ([]) w27;obtain ⟨gH,oH,rfl,_,hlt8,hcell8⟩:=hH.at_ (by omega);refine Z 4 J (D5 J (B1 U0 J J (by omega) (by omega)) (D5 J (D7 o3 J ((hH.one (T0 E.bytes j hjn)).2) (by simp;done)) ?_));refine C5 J (C1 fb22 J) (Df3 _ pd E l _ (fun x (hx:x<hz0)=>by omega) hD) ?_;rintro _ w28 ⟨hx28,A9,c9,rfl,hO9⟩;have hz28:=hx28.size;have hC:=hC.s0 (hx27.s0 hx28);have hL:=hL.u (hx27.s0 hx28);have hD:=hD.u hx28;have hU:=hU.u (hx27.s0 hx28);have hB2:=hB2.u (hx27.s0 hx28);have hH:=hH.u hx28;have hCS27:=hCS27.s0 hx28;refine ⟨hCS27,?_⟩;have hrd9:=hO9.rd (F:=fun x=>x<(World.heap w28).size) (fun _ _ h=>h);obtain ⟨gW,oW,rfl,_,hlt9,hcell9⟩:=hrd9.at_ (by omega);refine D5 J (B1 Aq7 J J (by omega) (by omega)) (Ce1 J (Z3 o5 J (F3 _) ((hrd9.one (Cd2 E.bytes j hjn)).2)) ‹_› ?_);refine D5 J (H1 kn5 Tryz.underlying3 J (by exact I8 (by omega))) ?_;refine C9 J ((Ce6 J J J).to (I7 (show _=false from by simp [Z0]))) ?_;refine Qc (E5 J (A7 (Qb (Z 1 J (Ad J J (by omega) (Zc 1 J ⟨j+1,sb J,?_,?_⟩))))));exact ⟨hC,hL,hD,hU,hB2,hH,by omega,by omega⟩;show E.bytes.length - (j+1)<E.bytes.length - j;omega
            ·try simp at j1
             refine Xb (Qd (Z 2 J (Ln Tryz.underlying49 J (Ca fb16 J (Cw0 _ pd E l (D.l.length:Nat) 0 (by omega) _ hD) ?_))));rintro _ w29 ⟨rfl,hx29⟩;have hC:=hC.s0 hx29;have hL:=hL.u hx29
             refine Zc 5 J (Qd (Z 3 J (C0 (d:=244) J (fun y9=>?_) (fun y9=>?_))))
             ·try simp at y9
              refine Qu J (Ca fb12 J (Bn7 _ hL) ?_);rintro _ w30 ⟨rfl,hx30⟩;have hC:=hC.s0 hx30;exact Zc 2 J (A6 (B5 J J ⟨rfl,hC⟩))
             ·try simp at y9
              all_goals simp at y9
 ·have hf':As9 (B8 s) m=false:=by simpa using hf
  obtain ⟨cs,rfl,hone,hlen⟩:=hno hf'
  obtain ⟨a0,a1,a2,a3,a4,rfl⟩:∃ a0 a1 a2 a3 a4,cs=[a0,a1,a2,a3,a4]:=by
   match cs,hlen with
   |[a0,a1,a2,a3,a4],_=>exact ⟨a0,a1,a2,a3,a4,rfl⟩
  refine Z 4 J (B7 J (B9 zr27 J) ?_);intro b31 w31 hb31 hs31 hx31 hB31;refine Z 1 J (Pb (cs':=[a0,a1,a2,a3,a4]) sz27 J J hB31 J J hone J J ?_);intro w32 hs32 hx32 hB32;have hC:=hC.step (hx31.j hx32) (by simp<;>omega);have hL:=hL.q (hx31.j hx32) (by simp<;>omega)
  refine Zc 1 J (Qa (Qd (Z 3 J (C0 (d:=39) J (fun w0=>?_) (fun w0=>?_)))))
  ·try simp at w0
   refine Qk J (Qk J (Qk J (Qk J (Zc 1 J (E9 J (Qd (Ca fb12 J (Bn7 _ hL) ?_)))))));rintro _ w33 ⟨rfl,hx33⟩;have hC:=hC.s0 hx33;exact Zc 1 J (A6 (B5 J J ⟨rfl,hC⟩))
  ·try simp at w0
   all_goals simp at w0
end Go.Clt
