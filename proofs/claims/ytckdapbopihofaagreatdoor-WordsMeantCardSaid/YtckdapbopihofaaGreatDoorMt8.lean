import Derived.ArgAppend
import Derived.Test.YtckdapbopihofaaGreatDoorMt7
/- All words that are listed are meant, none twice, shorter ones first, each ahead of the next one (WordsMeant). Conditions: none beyond the statement's own. A part of that proof: Ref43, Ref44, LawW, Ref47, App1, LawJ, Word5, Word6, LawK, LawL. Conditions: none beyond the statement's own. By an AI agent; no person has read it. -/
set_option linter.unusedVariables false
set_option linter.unusedSimpArgs false
set_option maxRecDepth 8000
set_option maxHeartbeats 4000000
namespace Go.Clt
open Go Go.RowKit Go.Proofs
structure RAu (F:Nat→Prop) (w:World) (t:R8) (As:Option Addr) (pf pl bt:Nat) (bf:List Nat):Prop where
 rs:Rd F w 4 As (Q7 t).length (F6 (Q7 t))
 ff:F pf
 first:Blk w pf (I6 (J0 t 0 (C2 t) false)) 3
 fl:F pl
 last:Blk w pl (I6 (J0 t 0 (C2 t) true)) 3
 ft:F bt
 tab:Blk w bt (W7 (C2 t) bf) 24
 rows:RowsB F w (C2 t) bf (U7 t)
theorem RAu.q {F:Nat→Prop} {w w':World} {t:R8} {As:Option Addr} {pf pl bt:Nat} {bf:List Nat} {S:List Nat} (h:RAu F w t As pf pl bt bf) (c:Chg S w w') (hS:∀ b∈S,¬ F b):RAu F w' t As pf pl bt bf:=
 ⟨h.rs.q c hS,h.ff,h.first.q c (fun hm=>hS _ hm h.ff),h.fl,h.last.q c (fun hm=>hS _ hm h.fl),h.ft,h.tab.q c (fun hm=>hS _ hm h.ft),h.rows.q c hS⟩
theorem RAu.u {F:Nat→Prop} {w w':World} {t:R8} {As:Option Addr} {pf pl bt:Nat} {bf:List Nat} (h:RAu F w t As pf pl bt bf) (c:Chg [] w w'):RAu F w' t As pf pl bt bf:=h.q c (by simp)
def Co7 (t:R8) (As:Option Addr) (cS pf pl bt:Nat):List Value:=[.slice As (Q7 t).length cS,.int .i64 (P7 t),.slice (some ⟨pf,0,none⟩) (C2 t) (C2 t),.slice (some ⟨pl,0,none⟩) (C2 t) (C2 t),.slice (some ⟨bt,0,none⟩) (C2 t) (C2 t)]
theorem RAuto.open {F:Nat→Prop} {w:World} {t:R8} {cs:List Value} (h:RAuto F w t cs):∃ As cS pf pl bt bf,cs=Co7 t As cS pf pl bt∧RAu F w t As pf pl bt bf:=by
 obtain ⟨As,cS,pf,pl,bt,bs,h1,h2,h3,h4,h5,h6,h7,h8,h9⟩:=h;exact ⟨As,cS,pf,pl,bt,bs,h1,h2,h3,h4,h5,h6,h7,h8,h9⟩
def Dq3 (t:R8) (L:List Nat) (i p:Nat):Bool:=((Q7 t).getD p 0).testBit (L.getD i 0)
def inF (t:R8) (f:BagF) (p:Nat) (q:Nat):Int:=(List.range q).foldl (fun a x=>X4 a (Ab8 (f x) (((U7 t).getD x []).getD p 0))) 0
theorem Ca4 (t:R8) (f:BagF) (p q:Nat):inF t f p (q+1)=X4 (inF t f p q) (Ab8 (f q) (((U7 t).getD q []).getD p 0)):=by
 unfold inF;rw [En0,El7,Eo8,Eo7]
theorem inF_ok (t:R8) (f:BagF) (p:Nat):∀ q,0≤inF t f p q∧inF t f p q≤9223372036854775807
 |0=>by unfold inF;rw [List.range_zero,Eo7];omega
 |q+1=>by rw [Ca4];exact K4 _ _
def Ac7 (t:R8) (L:List Nat):Nat→BagF
 |0=>fun p=>if Dq3 t L 0 p then (J0 t 0 (C2 t) false).getD p 0 else 0
 |i+1=>fun p=>if Dq3 t L (i+1) p then inF t (Ac7 t L i) p (C2 t) else 0
def Cr1 (t:R8) (L:List Nat) (i p q:Nat):Int:=if i=0 then (J0 t 0 (C2 t) false).getD p 0 else inF t (Ac7 t L (i - 1)) p q
theorem Cz3 {t:R8} {L:List Nat} {i p:Nat} (h:Dq3 t L i p=true):Ac7 t L i p=Cr1 t L i p (C2 t):=by
 unfold Cr1
 cases i with
 |zero=>rw [Ac7];dsimp only;rw [Ei4 h,Ei4 rfl]
 |succ i=>rw [Ac7];dsimp only;rw [Ei4 h,Ei3 (by omega)];rfl
theorem Cz2 {t:R8} {L:List Nat} {i p:Nat} (h:Dq3 t L i p=false):Ac7 t L i p=0:=by
 cases i with
 |zero=>rw [Ac7];dsimp only;rw [h];rfl
 |succ i=>rw [Ac7];dsimp only;rw [h];rfl
theorem Dr1 {t:R8} {L:List Nat} {i p q:Nat} (hg:G8 t):0≤Cr1 t L i p q∧Cr1 t L i p q≤9223372036854775807:=by
 unfold Cr1
 split
 ·exact (W2 t hg 0 (C2 t) false).2.get p
 ·exact inF_ok t _ p q
theorem Dr2 {t:R8} {L:List Nat} {i p:Nat} (hg:G8 t):0≤Ac7 t L i p∧Ac7 t L i p≤9223372036854775807:=by
 cases h:Dq3 t L i p
 ·rw [Cz2 h];omega
 ·rw [Cz3 h];exact Dr1 hg
def Bp7 (f:BagF) (p:Nat) (y:Int):BagF:=fun x=>if x<p then f x else if x=p then y else 0
theorem Dx7 (f:BagF) (n:Nat):Y7 (Bp7 f 0 0) n=List.replicate n 0:=by
 unfold Y7;rw [Er6];refine ⟨by simp,fun x hx=>?_⟩;obtain ⟨y,_,rfl⟩:=En4.1 hx;unfold Bp7;rw [Ei3 (by omega)]
 split<;>rfl
theorem Dc9 (f:BagF) (p n:Nat) (y z:Int) (hp:p<n):(I6 (Y7 (Bp7 f p y) n)).take p++[.int .i64 z]++(I6 (Y7 (Bp7 f p y) n)).drop (p+1)=I6 (Y7 (Bp7 f p z) n):=by
 rw [Z4 _ _ _ (by rw [G0,O2];exact hp)];apply Ek3;intro j;unfold I6 Y7;simp only [El1,Ek2,Eo1,Eo4,Bp7]
 by_cases hj:p=j
 ·subst hj;simp [hp,Bp7]
 ·rw [Ei3 hj]
  by_cases h2:j<n
  ·simp [h2,Ne.symm hj,Bp7]
  ·simp [h2]
theorem Cj6 {f:BagF} {p:Nat} {y:Int} (n:Nat) (h:y=f p):Y7 (Bp7 f p y) n=Y7 (Bp7 f (p+1) 0) n:=by
 unfold Y7;apply Eo6;intro x hx;unfold Bp7
 by_cases h1:x<p
 ·rw [Ei4 h1,Ei4 (by omega)]
 ·by_cases h2:x=p
  ·rw [Ei3 h1,Ei4 h2,Ei4 (by omega),h2];exact h
  ·rw [Ei3 h1,Ei3 h2,Ei3 (by omega)];split<;>rfl
theorem midV_end (f:BagF) (n:Nat):Y7 (Bp7 f n 0) n=Y7 f n:=by
 unfold Y7;apply Eo6;intro x hx;unfold Bp7;rw [Ei4 (El0.1 hx)]
def vecG (t:R8) (L:List Nat):List BagF:=(List.range L.length).map (Ac7 t L)
theorem Bw4 {t:R8} {L:List Nat} {i:Nat} (h:i<L.length):(vecG t L).getD i Q2=Ac7 t L i:=by
 unfold vecG;rw [Ei5,Ek2,Ek7 h];rfl
theorem rvec_c (t:R8) (hg:G8 t) (hn:C2 t≤1000) (s:ByteArray) (hs:s.size≤1000) (As:Option Addr) (cS pf pl bt:Nat) (bf:List Nat) (F:Nat→Prop) (w:World) (hF:∀ x,F x→x<w.heap.size) (hU:RAu F w t As pf pl bt bf):Calls P 49 #[.agg (Co7 t As cS pf pl bt).toArray,.string s] w (Ret fun u w'=>Chg [] w w'∧∃ A c bs,u= .slice A s.size c∧Own w' w.heap.size 24 1 A s.size c (Al5 (C2 t) bs)∧bs.length=s.size∧GR w' w.heap.size bs (vecG t (B6 s)) (C2 t)):=by
 have hC:=A8 [] w;have hsl:=E6 s;have hlt:=T0 s;have hSl:=Ak9 t hg;have hel:=W2 t hg 0 (C2 t) false;unfold Co7;rw [hSl];generalize hn':C2 t=n at*;refine D6 Tryz.func49 J J (Qd (B4 J (E0 J J) ?_));intro b1 w1 hb1 hs1 hx1 hB1;have hC:=hC.s0 hx1;have hU:=hU.u hx1
 refine Zc 1 J (Qd (Zc 1 J (Qa (Qd (Zc 1 J (B1 (D8 (σ:=Nat × Option Addr × Nat × List Nat) (fun (i,A,c,bs)=>[(1,.string s),(2,.pointer (some ⟨b1,0,none⟩)),(5,.slice A i c),(6,.int .i64 (i:Nat))]) (fun (i,A,c,bs) wr=>Chg [] w wr∧RAu F wr t As pf pl bt bf∧Blk wr b1 [.slice As n cS,.int .i64 (P7 t),.slice (some ⟨pf,0,none⟩) n n,.slice (some ⟨pl,0,none⟩) n n,.slice (some ⟨bt,0,none⟩) n n] 27∧Own wr (b1+1) 24 1 A i c (Al5 n bs)∧GR wr (b1+1) bs (vecG t (B6 s)) n∧bs.length=i∧i≤s.size) (fun (i,A,c,bs) wr=>s.size - i) (0,none,0,[]) ⟨rfl,rfl,rfl,rfl,trivial⟩ ?_ ?_)))))))
 ·exact ⟨hC,hU,hB1,Own.nil _ _ _ _,fun i hi=>absurd hi (by simp),rfl,Ej3 _⟩
 rintro ⟨i,A,c,bs⟩ w20 ⟨hC,hU,hB1,hO,hG,hbl,hi⟩
 try have hlB1:=hB1.lt
 refine Qa (Qd (Z 2 J (C8 J (E8 Tryz.underlying9 J) (Zc 1 J (A4 J (fun h1=>?_) (fun h1=>?_))))))
 ·try simp at h1
  have hil:i<s.size:=by omega
  have hbS0:∀ x∈bs,x<w20.heap.size:=fun x hx=>by obtain ⟨_,cs',hb⟩:=hG.mem hx;exact hb.lt
  refine A7 (Qa (B1 (Qd (Fa De6 J (Lb o23 J ‹_› (by rfl) ?_)))));refine Ln Tryz.underlying23 J (B4 J (P3 Dn5 zr3 J (cs:=I6 (List.replicate n 0)) (by omega) (by omega) (by show (madeCells #[_] (((n:Nat):Int).toNat*1)).toList=_;rw [Ej2,Em3,U3];simp [I6])) ?_);intro b2 w2 hb2 hs2 hx2 hBv;have hC:=hC.s0 hx2;have hU:=hU.u hx2;have hB1:=hB1.u hx2;have hO:=hO.u hx2;have hG:=hG.u hx2;have hbS:∀ x∈bs,x<b2:=fun x hx=>by have:=hbS0 x hx;omega
  refine Zc 1 J (Qa (Qd (Zc 1 J (B1 (D8 (σ:=Nat) (fun p=>[(1,.string s),(2,.pointer (some ⟨b1,0,none⟩)),(5,.slice A i c),(6,.int .i64 (i:Nat)),(7,.slice (some ⟨b2,0,none⟩) n n),(8,.int .i64 (p:Nat))]) (fun p wr=>Chg [] w wr∧RAu F wr t As pf pl bt bf∧Blk wr b1 [.slice As n cS,.int .i64 (P7 t),.slice (some ⟨pf,0,none⟩) n n,.slice (some ⟨pl,0,none⟩) n n,.slice (some ⟨bt,0,none⟩) n n] 27∧Own wr (b1+1) 24 1 A i c (Al5 n bs)∧GR wr (b1+1) bs (vecG t (B6 s)) n∧Blk wr b2 (I6 (Y7 (Bp7 (Ac7 t (B6 s) i) p 0) n)) 3∧p≤n) (fun p wr=>n - p) 0 ⟨rfl,rfl,rfl,rfl,rfl,rfl,trivial⟩ ?_ ?_)))))
  ·exact ⟨hC,hU,hB1,hO,hG,by rw [Dx7];exact hBv,Ej3 _⟩
  rintro p w40 ⟨hC,hU,hB1,hO,hG,hBv,hp⟩
  try have hlB1:=hB1.lt
  refine Qa (Qd (Z 2 J (Ln Tryz.underlying24 J (Zc 1 J (A4 J (fun h2=>?_) (fun h2=>?_))))))
  ·try simp at h2
   have hpn:p<n:=by omega
   have hbS2:∀ x∈bs,x∉[b2]:=fun x hx=>by have:=hbS x hx;simp;omega
   have hOB:=hO.offBlk hBv (by decide);obtain ⟨u8,hu,hu2⟩:=I7 s i hil;have hby:=hlt _ (H6 (B6 s) 0 i (by omega));refine A7 (Qa (B1 (Qa (Qa (C6 (S:=[]) 9 [(0,0),(0,1),(0,2),(0,3),(0,4),(0,5),(0,6),(0,7),(0,8),(2,9),(2,10)] mo (by kernel_rfl) ?_)))));intro w3 hx3 hh3;have hC:=hC.s0 hx3;have hU:=hU.u hx3;have hB1:=hB1.u hx3;have hO:=hO.u hx3;have hG:=hG.u hx3;have hBv:=hBv.u hx3;obtain ⟨g,off,rfl,hFg,hltc,hcell⟩:=hU.rs.at_ (by rw [hSl];omega);refine Fa De6 J (C9 J (B2 o23 J ‹_› (by simp;done) (by rfl)) ?_);refine Z 1 J (C9 J (C1 Aq4 J J (by omega) (by omega)) (C9 J (J3 (vs:=C3 ((Q7 t).getD p 0)) I9 J ⟨by have:=hU.rs;omega,fun j v hj=>by rw [Ek8];exact hcell (p*4+j) v (by have hj4:j<4:=(Ek4.1 hj).1;rw [O1 (Q7 t) p j (by omega) hj4];exact hj)⟩ (by simp;done) J) ?_));refine Z 2 J (C9 J (Does.to (F1 Tryz.underlying9 J J (by omega) (by exact hu)) (J2 (show ((u8.toNat:Nat):Int)=(((B6 s).getD i 0:Nat):Int) by rw [hu2]))) ?_);refine C9 J (G5 kn5 Tryz.underlying3 J (by exact H4 (by omega))) ?_;refine Ca fb52 J (Du5 ((Q7 t).getD p 0) ((B6 s).getD i 0) hby _) ?_;rintro _ w4 ⟨rfl,hx4⟩;have hC:=hC.s0 hx4;have hU:=hU.u hx4;have hB1:=hB1.u hx4;have hO:=hO.u hx4;have hG:=hG.u hx4;have hBv:=hBv.u hx4
   refine Zc 1 J (A4 J (fun h3=>?_) (fun h3=>?_))
   ·try simp at h3
    refine Xb (Qb (Z 1 J (Ad J J (by omega) (Zc 1 J ⟨p+1,⟨rfl,rfl,rfl,rfl,rfl,rfl,trivial⟩,?_,?_⟩))));exact ⟨hC,hU,hB1,hO,hG,by rw [← Cj6 n (Cz2 (by simpa [Dq3] using h3)).symm];exact hBv,hpn⟩;show n - (p+1)<n - p;omega
   ·try simp at h3
    have h3':Dq3 t (B6 s) i p=true:=by simpa [Dq3] using h3
    refine A7 (I5 (fun e9 wr=>Sub [(1,.string s),(2,.pointer (some ⟨b1,0,none⟩)),(5,.slice A i c),(6,.int .i64 (i:Nat)),(7,.slice (some ⟨b2,0,none⟩) n n),(8,.int .i64 (p:Nat))] e9∧Chg [] w wr∧RAu F wr t (some ⟨g,off,none⟩) pf pl bt bf∧Blk wr b1 [.slice (some ⟨g,off,none⟩) n cS,.int .i64 (P7 t),.slice (some ⟨pf,0,none⟩) n n,.slice (some ⟨pl,0,none⟩) n n,.slice (some ⟨bt,0,none⟩) n n] 27∧Own wr (b1+1) 24 1 A i c (Al5 n bs)∧GR wr (b1+1) bs (vecG t (B6 s)) n∧Blk wr b2 (I6 (Y7 (Bp7 (Ac7 t (B6 s) i) p (Cr1 t (B6 s) i p 0)) n)) 3) ?_ ?_)
    ·refine Qd (Zc 2 J (A4 J (fun g1=>?_) (fun g1=>?_)))
     ·try simp at g1
      refine Qb (Z 2 J (Fa fl27_2 J (Lb o24 J ‹_› (by rfl) ?_)));refine Z 1 J (C8 J (A9 V2 J J (by omega) (by omega)) (Lc o3 J (by rw [hU.first.cell,Ek6,hn'];exact J4 _ p (by rw [hel.1];exact hpn)) ?_));refine C8 J (A9 V2 J J (by omega) (by omega)) (Pb (cs':=(I6 (Y7 (Bp7 (Ac7 t (B6 s) i) p ((J0 t 0 n false).getD p 0)) n))) sz3 J J hBv J J J (by rw [G0,O2,En9];omega) (by rw [Ej2,Ek6];exact Dc9 _ _ _ _ _ hpn) ?_);intro w5 hs5 hx5 hBv;have hC:=hC.step hx5 (by simp;omega);have hU:=hU.q hx5 (by intro b hb hFb;have:=hF _ hFb;simp at hb;omega);have hB1:=hB1.q hx5 (by simp;omega);have hO:=(by exact hO.keep hx5 ‹_›);have hG:=hG.q hx5 ‹_›;refine Qc ⟨⟨rfl,rfl,rfl,rfl,rfl,rfl,trivial⟩,?_⟩;exact ⟨hC,hU,hB1,hO,hG,by unfold Cr1;rw [Ei4 (by omega),hn'];exact hBv⟩
     ·try simp at g1
      refine A7 ⟨⟨rfl,rfl,rfl,rfl,rfl,rfl,trivial⟩,?_⟩;exact ⟨hC,hU,hB1,hO,hG,by unfold Cr1;rw [Ei3 (by omega)];exact hBv⟩
    rintro e9 w50 ⟨hs9,hC,hU,hB1,hO,hG,hBv⟩;refine I4 _ hs9 ?_;clear hs9 e9
    refine Qd (Zc 1 J (B1 (D8 (σ:=Nat) (fun q=>[(1,.string s),(2,.pointer (some ⟨b1,0,none⟩)),(5,.slice A i c),(6,.int .i64 (i:Nat)),(7,.slice (some ⟨b2,0,none⟩) n n),(8,.int .i64 (p:Nat)),(9,.int .i64 (q:Nat))]) (fun q wr=>Chg [] w wr∧RAu F wr t (some ⟨g,off,none⟩) pf pl bt bf∧Blk wr b1 [.slice (some ⟨g,off,none⟩) n cS,.int .i64 (P7 t),.slice (some ⟨pf,0,none⟩) n n,.slice (some ⟨pl,0,none⟩) n n,.slice (some ⟨bt,0,none⟩) n n] 27∧Own wr (b1+1) 24 1 A i c (Al5 n bs)∧GR wr (b1+1) bs (vecG t (B6 s)) n∧Blk wr b2 (I6 (Y7 (Bp7 (Ac7 t (B6 s) i) p (Cr1 t (B6 s) i p q)) n)) 3∧q≤n) (fun q wr=>n - q) 0 ⟨rfl,rfl,rfl,rfl,rfl,rfl,rfl,trivial⟩ ?_ ?_)))
    ·exact ⟨hC,hU,hB1,hO,hG,hBv,Ej3 _⟩
    rintro q w60 ⟨hC,hU,hB1,hO,hG,hBv,hq⟩
    refine Qa (I5 (fun e9 wr=>Sub [(1,.string s),(2,.pointer (some ⟨b1,0,none⟩)),(5,.slice A i c),(6,.int .i64 (i:Nat)),(7,.slice (some ⟨b2,0,none⟩) n n),(8,.int .i64 (p:Nat)),(9,.int .i64 (q:Nat)),(54,.bool (decide (q<n∧0<i)))] e9∧Chg [] w wr∧RAu F wr t (some ⟨g,off,none⟩) pf pl bt bf∧Blk wr b1 [.slice (some ⟨g,off,none⟩) n cS,.int .i64 (P7 t),.slice (some ⟨pf,0,none⟩) n n,.slice (some ⟨pl,0,none⟩) n n,.slice (some ⟨bt,0,none⟩) n n] 27∧Own wr (b1+1) 24 1 A i c (Al5 n bs)∧GR wr (b1+1) bs (vecG t (B6 s)) n∧Blk wr b2 (I6 (Y7 (Bp7 (Ac7 t (B6 s) i) p (Cr1 t (B6 s) i p q)) n)) 3) ?_ ?_)
    ·refine Qb (Z 2 J (Ln Tryz.underlying24 J (Z 2 J (B9 (d:=51) J (fun g2=>?_) (fun g2=>?_)))))
     ·try simp at g2
      refine Qu J (Z 1 J (Qu J (Zc 2 J ⟨⟨rfl,rfl,rfl,rfl,rfl,rfl,rfl,(H2 J (by rw [Ej7,cmpB_gtr,Ej8];omega)),trivial⟩,?_⟩)));exact ⟨hC,hU,hB1,hO,hG,hBv⟩
     ·try simp at g2
      refine Qk J (Qk J (Zc 1 J ⟨⟨rfl,rfl,rfl,rfl,rfl,rfl,rfl,(H2 J (by rw [Ej6 (by omega)])),trivial⟩,?_⟩));exact ⟨hC,hU,hB1,hO,hG,hBv⟩
    rintro e9 w70 ⟨hs9,hC,hU,hB1,hO,hG,hBv⟩;refine I4 _ hs9 ?_;clear hs9 e9
    refine A4 J (fun q3=>?_) (fun q3=>?_)
    ·have q3:=Em9 q3;have hqn:q<n:=q3.1;obtain ⟨j,rfl⟩:∃ j,i=j+1:=⟨i - 1,by omega⟩;have hOB:=hO.offBlk hBv (by decide);have hvj:∀ x,0≤Ac7 t (B6 s) j x∧Ac7 t (B6 s) j x≤9223372036854775807:=fun x=>Dr2 hg
     have hmid:∀ (f:BagF) (y:Int),Bp7 f p y p=y:=fun f y=>by unfold Bp7;rw [Ei3 (by omega),Ei4 J]
     have hy:=Dr1 (t:=t) (L:=B6 s) (i:=j+1) (p:=p) (q:=q) hg;refine A7 (Qa (B1 (C6 (S:=[]) 24 [(0,0),(0,1),(0,2),(0,3),(0,4),(0,5),(0,6),(0,7),(0,8),(0,9),(0,10),(0,11),(0,12),(0,13),(0,14),(0,15),(0,16),(0,17),(0,18),(0,19),(0,20),(0,21),(1,22),(1,23),(2,24),(2,25)] mo (by kernel_rfl) ?_)));intro w6 hx6 hh6;have hz6:=hx6.size;have hC:=hC.s0 hx6;have hU:=hU.u hx6;have hB1:=hB1.u hx6;have hO:=hO.u hx6;have hG:=hG.u hx6;have hBv:=hBv.u hx6;have hCS6:=A8 ([]) w6;obtain ⟨hne,hBq,hlq,hrq⟩:=hU.rows.row q (by omega);obtain ⟨hjl,hBj⟩:=hG j (by omega);rw [Bw4 (by omega)] at hBj;have hmq:=hrq.get p;refine Z 4 J (C9 J (A9 V2 J J (by omega) (by omega)) (C9 J (D3 o3 J (by rw [hBv.cell,Ek6,Ej2,J4 _ p (by rw [O2];exact hpn),Av4 _ _ _ hpn,hmid]) (by simp;done)) ?_));obtain ⟨g9,o9,rfl,_,hlt9,hcell9⟩:=(hO.rd (F:=fun _=>True) (fun _ _ _=>trivial)).at_ (by omega);refine Z 2 J (Su J J (by omega) (C9 J (A9 Cq2 J J (by omega) (by omega)) (C9 J (D3 o24 J (by rw [show ((((j+1:Nat):Int) - 1).toNat)=j by omega];exact ((hO.rd (F:=fun _=>True) (fun _ _ _=>trivial)).one (Ab9 n bs j (by omega))).2) (by simp;done)) ?_)));refine Z 1 J (C9 J (A9 V2 J J (by omega) (by omega)) (C9 J (D3 o3 J (by rw [hBj.cell,Ek6,Ej2,J4 _ q (by rw [O2];exact hqn),Av4 _ _ _ hqn]) (by simp;done)) ?_));refine Fa fl27_4 J (C9 J (B2 o25 J ‹_› (by simp;done) (by rfl)) ?_);refine Z 1 J (C9 J (A9 Cq2 J J (by omega) (by omega)) (C9 J (D3 o24 J (by rw [hU.tab.cell,Ek6];exact Bh7 _ bf q (by rw [hU.rows.lb];omega)) (by simp;done)) ?_));refine Z 1 J (C9 J (A9 V2 J J (by omega) (by omega)) (C9 J (D3 o3 J (by rw [hBq.cell,Ek6];exact J4 _ p (by omega)) (by simp;done)) ?_));refine C4 J (C0 fb50 J) (Da3 (Ac7 t (B6 s) j q) (((U7 t).getD q []).getD p 0) (hvj q).2 hmq.2 _) ?_;rintro _ _ ⟨rfl,rfl⟩;refine ⟨hCS6,?_⟩;refine C4 J (C0 Cq4 J) (Aa0 (Cr1 t (B6 s) (j+1) p q) (Ab8 (Ac7 t (B6 s) j q) (((U7 t).getD q []).getD p 0)) hy.2 (U8 _ _).2 _) ?_;rintro _ _ ⟨rfl,rfl⟩;refine ⟨hCS6,?_⟩;refine C8 J (A9 V2 J J (by omega) (by omega)) (Pb (cs':=(I6 (Y7 (Bp7 (Ac7 t (B6 s) (j+1)) p (Cr1 t (B6 s) (j+1) p (q+1))) n))) sz3 J J hBv J J J (by rw [G0,O2,En9];omega) (by rw [Ej2,Ek6];unfold Cr1;rw [Ei3 (by omega),Ei3 (by omega),Ca4];exact Dc9 _ _ _ _ _ hpn) ?_);intro w9 hs9 hx9 hBv;have hC:=hC.step hx9 (by simp;omega);have hU:=hU.q hx9 (by intro b hb hFb;have:=hF _ hFb;simp at hb;omega);have hB1:=hB1.q hx9 (by simp;omega);have hO:=(by exact hO.keep hx9 ‹_›);have hG:=hG.q hx9 ‹_›;refine Qc (Qb (Z 1 J (Ad J J (by omega) (Zc 1 J ⟨q+1,⟨rfl,rfl,rfl,rfl,rfl,rfl,rfl,trivial⟩,?_,?_⟩))));exact ⟨hC,hU,hB1,hO,hG,hBv,hqn⟩;show n - (q+1)<n - q;omega
    ·have q3:=Es7 q3
     have hfin:Cr1 t (B6 s) i p q=Ac7 t (B6 s) i p:=by
      rw [Cz3 h3',hn'];unfold Cr1
      by_cases h0:i=0
      ·rw [Ei4 h0,Ei4 h0]
      ·rw [Ei3 h0,Ei3 h0,show q=n by omega]
     rw [hfin,Cj6 n J] at hBv;refine Xb (Qb (Z 1 J (Ad J J (by omega) (Zc 1 J ⟨p+1,⟨rfl,rfl,rfl,rfl,rfl,rfl,trivial⟩,?_,?_⟩))));exact ⟨hC,hU,hB1,hO,hG,hBv,hpn⟩;show n - (p+1)<n - p;omega
  ·try simp at h2
   have hpp:p=n:=by omega
   subst hpp;rw [midV_end] at hBv;have hGA:∀ x∈bs,x∉E5 A:=fun x hx hm=>by obtain ⟨_,cs',hb⟩:=hG.mem hx;exact hO.offBlk hb (by decide) x hm (by simp)
   have hOb:=hO.blk;have hvA:b2∉E5 A:=fun h=>hO.offBlk hBv (by decide) b2 h (by simp)
   refine Xb (Qb (Z 2 J (B4 J (B5 Cq2 Tryz.underlying25 zr24 J J J (by rfl)) ?_)));intro b10 w10 hb10 hs10 hx10 hB10;have hC:=hC.s0 hx10;have hU:=hU.u hx10;have hB1:=hB1.u hx10;have hO:=hO.u hx10;have hG:=hG.u hx10;have hBv:=hBv.u hx10;refine G2 J el25 J J hO (Blk.rd (F:=fun _=>True) ‹_› J trivial) (by rfl) (by omega) (by omega) ?_;intro A' c' w11 hO11 hx11 hA';have hC:=hC.step hx11 (by intro x h;have:=hOb x h;exact .inr (by omega));have hU:=hU.q hx11 (by intro x hx hf;have:=hOb x hx;have:=hF x hf;omega);have hB1:=hB1.q hx11 (by intro h;have:=hOb _ h;omega);have hG:=hG.q hx11 ‹_›;have hBv:=hBv.q hx11 ‹_›
   replace hO:=hO11
   refine Zc 1 J (Qb (Z 1 J (Ad J J (by omega) (Zc 1 J ⟨(i+1,A',c',bs++[b2]),⟨rfl,rfl,rfl,rfl,trivial⟩,?_,?_⟩))));refine ⟨hC,hU,hB1,?_,hG.snoc (by omega) (by rw [hbl,Bw4 (by omega)];exact hBv),by simp [hbl],hil⟩;unfold Al5;rw [En1];exact hO;show s.size - (i+1)<s.size - i;omega
 ·try simp at h1
  have hkk:i=s.size:=by omega
  subst hkk;exact Xb (Qd (Zc 2 J (A6 (B3 J J ⟨hC,A,c,bs,rfl,hO.lower (by omega),hbl,fun i hi=>⟨by have:=(hG i hi).1;omega,(hG i hi).2⟩⟩))))
def Dq2 (t:R8) (f:BagF) (p:Nat):Int:=(List.range p).foldl (fun a x=>X4 a (Ab8 (f x) ((J0 t 0 (C2 t) true).getD x 0))) 0
theorem Bj0 (t:R8) (f:BagF) (p:Nat):Dq2 t f (p+1)=X4 (Dq2 t f p) (Ab8 (f p) ((J0 t 0 (C2 t) true).getD p 0)):=by
 unfold Dq2;rw [En0,El7,Eo8,Eo7]
theorem outF_ok (t:R8) (f:BagF):∀ p,0≤Dq2 t f p∧Dq2 t f p≤9223372036854775807
 |0=>by unfold Dq2;rw [List.range_zero,Eo7];omega
 |p+1=>by rw [Bj0];exact K4 _ _
def Dq8 (t:R8) (L:List Nat):Int:=if L.length=0 then P7 t else Dq2 t (Ac7 t L (L.length - 1)) (C2 t)
theorem rways_c (t:R8) (hg:G8 t) (hn:C2 t≤1000) (s:ByteArray) (hs:s.size≤1000) (As:Option Addr) (cS pf pl bt:Nat) (bf:List Nat) (F:Nat→Prop) (w:World) (hF:∀ x,F x→x<w.heap.size) (hU:RAu F w t As pf pl bt bf):Calls P 21 #[.agg (Co7 t As cS pf pl bt).toArray,.string s] w (Ret fun u w'=>u= .int .i64 (Dq8 t (B6 s))∧Chg [] w w'):=by
 have hC:=A8 [] w;have hsl:=E6 s;have hSl:=Ak9 t hg;have hel:=W2 t hg 0 (C2 t) true;have hW:Dq8 t (B6 s)=if s.size=0 then P7 t else Dq2 t (Ac7 t (B6 s) (s.size - 1)) (C2 t):=by unfold Dq8;rw [hsl]
 rw [hW];unfold Co7;refine D6 Tryz.func21 J J (Qd (B4 J (E0 J J) ?_));intro b1 w1 hb1 hs1 hx1 hB1;have hC:=hC.s0 hx1;have hU:=hU.u hx1
 refine Zc 1 J (Qa (Qd (Z 1 J (C8 J (Cf0 J J) (Qc (A4 J (fun h0=>?_) (fun h0=>?_)))))))
 ·have h0:s.size=0:=by rw [Cr5] at h0;have:=Em9 h0;rw [← hsl,this];rfl
  refine Qd (Fa fl27_1 J (Lb o3 J ‹_› (by rfl) ?_));exact Zc 1 J (A6 (B3 J J ⟨by rw [Ei4 h0],hC⟩))
 ·have h0:¬ s.size=0:=by rw [Cr5] at h0;intro hz;refine absurd ?_ (Es7 h0);show B6 s=[];exact En3 (by omega)
  rw [Ei3 h0];refine A7 (Qd (La Cy4 J ‹_› J J ?_));refine Z 1 J (Ca fb49 J (rvec_c t hg hn s hs As cS pf pl bt bf F _ (fun z hz=>by have:=hF z hz;omega) hU) ?_);rintro v9 w2 ⟨hx2,A,c,bs,rfl,hO,hbl,hG⟩;have hC:=hC.s0 hx2;have hU:=hU.u hx2;have hB1:=hB1.u hx2;obtain ⟨hjl,hBj⟩:=hG (s.size - 1) (by omega);rw [Bw4 (by omega)] at hBj;have hrd:=hO.rd (F:=fun x=>x<w2.heap.size) (fun _ _ h=>h)
  refine Zc 1 J (Qd (Zc 1 J (Qa (Qd (Zc 1 J (B1 (D8 (σ:=Nat) (fun p=>[(1,.string s),(2,.pointer (some ⟨b1,0,none⟩)),(5,.slice A s.size c),(6,.int .i64 (Dq2 t (Ac7 t (B6 s) (s.size - 1)) p)),(7,.int .i64 (p:Nat))]) (fun p wr=>Chg [] w wr∧RAu F wr t As pf pl bt bf∧Blk wr b1 [.slice As (Q7 t).length cS,.int .i64 (P7 t),.slice (some ⟨pf,0,none⟩) (C2 t) (C2 t),.slice (some ⟨pl,0,none⟩) (C2 t) (C2 t),.slice (some ⟨bt,0,none⟩) (C2 t) (C2 t)] 27∧Rd (fun x=>x<w2.heap.size) wr 1 A s.size (Al5 (C2 t) bs)∧Blk wr (bs.getD (s.size - 1) 0) (I6 (Y7 (Ac7 t (B6 s) (s.size - 1)) (C2 t))) 3∧p≤C2 t) (fun p wr=>C2 t - p) 0 (sb J) ?_ ?_)))))))
  ·exact ⟨hC,hU,hB1,hrd,hBj,Ej3 _⟩
  rintro p w40 ⟨hC,hU,hB1,hrd,hBj,hp⟩;refine Qa (Qd (Z 1 J (Fa De6 J (Lb o23 J ‹_› (by rfl) ?_))))
  refine Ln Tryz.underlying23 J (Zc 1 J (A4 J (fun h1=>?_) (fun h1=>?_)))
  ·try simp at h1
   have hpn:p<C2 t:=by omega
   have hy:=outF_ok t (Ac7 t (B6 s) (s.size - 1)) p;have hv:=Dr2 (t:=t) (L:=B6 s) (i:=s.size - 1) (p:=p) hg;have hl:=hel.2.get p;refine A7 (Qa (B1 (C6 (S:=[]) 16 [(0,0),(0,1),(0,2),(0,3),(0,4),(0,5),(0,6),(0,7),(0,8),(0,9),(0,10),(0,11),(0,12),(0,13),(0,14),(1,15),(2,16),(2,17)] mo (by kernel_rfl) ?_)));intro w3 hx3 hh3;have hz3:=hx3.size;have hC:=hC.s0 hx3;have hU:=hU.u hx3;have hB1:=hB1.u hx3;have hrd:=hrd.u hx3;have hBj:=hBj.u hx3;have hCS3:=A8 ([]) w3;obtain ⟨g9,o9,rfl,_,hlt9,hcell9⟩:=hrd.at_ (by omega);refine Z 3 J (C9 J (E8 Tryz.underlying9 J) (Su J J (by omega) (C9 J (A9 Cq2 J J (by omega) (by omega)) (C9 J (D3 o24 J (by rw [show ((((s.size:Nat):Int) - 1).toNat)=s.size - 1 by omega];exact (hrd.one (Ab9 _ bs (s.size - 1) (by omega))).2) (by simp;done)) ?_))));refine Z 1 J (C9 J (A9 V2 J J (by omega) (by omega)) (C9 J (D3 o3 J (by rw [hBj.cell,Ek6,Ej2,J4 _ p (by rw [O2];exact hpn),Av4 _ _ _ hpn]) (by simp;done)) ?_));refine Fa fl27_3 J (C9 J (B2 o24 J ‹_› (by simp;done) (by rfl)) ?_);refine Z 1 J (C9 J (A9 V2 J J (by omega) (by omega)) (C9 J (D3 o3 J (by rw [hU.last.cell,Ek6];exact J4 _ p (by rw [hel.1];exact hpn)) (by simp;done)) ?_));refine C4 J (C0 fb50 J) (Da3 (Ac7 t (B6 s) (s.size - 1) p) ((J0 t 0 (C2 t) true).getD p 0) hv.2 hl.2 _) ?_;rintro _ _ ⟨rfl,rfl⟩;refine ⟨hCS3,?_⟩;refine Ca Cq4 J (Aa0 (Dq2 t (Ac7 t (B6 s) (s.size - 1)) p) (Ab8 (Ac7 t (B6 s) (s.size - 1) p) ((J0 t 0 (C2 t) true).getD p 0)) hy.2 (U8 _ _).2 _) ?_;rintro _ _ ⟨rfl,rfl⟩;refine Zc 1 J (Qb (Z 1 J (Ad J J (by omega) (Zc 1 J ⟨p+1,⟨rfl,rfl,rfl,(G3 J (by rw [Bj0])),rfl,trivial⟩,?_,?_⟩))));exact ⟨hC,hU,hB1,hrd,hBj,hpn⟩;show C2 t - (p+1)<C2 t - p;omega
  ·try simp at h1
   have hpp:p=C2 t:=by omega
   subst hpp;exact Xb (Qd (Zc 2 J (A6 (B3 J J ⟨rfl,hC⟩))))
end Go.Clt
section
namespace Go.Clt
open Go Go.RowKit
theorem Cz1 (t:R8) {L M:List Nat}:∀ i,(∀ j,j≤i→L.getD j 0=M.getD j 0)→Ac7 t L i=Ac7 t M i
 |0,h=>by
  funext p
  rw [Ac7,Ac7];unfold Dq3;rw [h 0 (Ej4 _)]
 |i+1,h=>by
  funext p
  rw [Ac7,Ac7,Cz1 t i (fun j hj=>h j (by omega))];unfold Dq3;rw [h (i+1) (Ej4 _)]
theorem Ea3 (t:R8) (f:BagF) (p:Nat):∀ q,0<inF t f p q↔∃ x,x<q∧0<f x∧0<((U7 t).getD x []).getD p 0
 |0=>by unfold inF;simp
 |q+1=>by
  rw [Ca4,Ap0,Ao9,Ea3 t f p q]
  constructor
  ·rintro (⟨x,h1,h2⟩|h)
   ·exact ⟨x,by omega,h2⟩
   ·exact ⟨q,by omega,h⟩
  ·rintro ⟨x,h1,h2⟩
   by_cases hx:x<q
   ·exact .inl ⟨x,hx,h2⟩
   ·have:x=q:=by omega
    subst this;exact .inr h2
theorem Db4 (t:R8) (f:BagF):∀ q,0<Dq2 t f q↔∃ x,x<q∧0<f x∧0<(J0 t 0 (C2 t) true).getD x 0
 |0=>by unfold Dq2;simp
 |q+1=>by
  rw [Bj0,Ap0,Ao9,Db4 t f q]
  constructor
  ·rintro (⟨x,h1,h2⟩|h)
   ·exact ⟨x,by omega,h2⟩
   ·exact ⟨q,by omega,h⟩
  ·rintro ⟨x,h1,h2⟩
   by_cases hx:x<q
   ·exact .inl ⟨x,hx,h2⟩
   ·have:x=q:=by omega
    subst this;exact .inr h2
theorem Cg1 {t:R8} {E:DE} (h:SameA t E.k E.q):∀ L:List Nat,L≠[]→∀ p,p∈Ao0 E L↔p<C2 t∧0<Ac7 t L (L.length - 1) p:=by
 suffices H:∀ R:List Nat,R≠[]→∀ p,p∈Ao0 E R.reverse↔p<C2 t∧0<Ac7 t R.reverse (R.length - 1) p by
  intro L hne p;have:=H L.reverse (by simpa using hne) p
  rwa [List.reverse_reverse,List.length_reverse] at this
 intro R
 induction R with
 |nil=>intro h;exact absurd rfl h
 |cons b r ih=>
  intro _ p;rw [List.reverse_cons]
  have hlast:(r.reverse++[b]).getD r.length 0=b:=by
   rw [Ei5,Ek9 (by simp)];simp
  by_cases hr:r=[]
  ·subst hr;show p∈W5 E.k E.q b↔_;rw [Ef8,h.len,h.S];refine and_congr_right fun hp=>?_
   show _↔0<Ac7 t [b] 0 p;rw [Ac7,h.kn.first p hp];dsimp only;unfold Dq3;show (((Q7 t).getD p 0).testBit b=true∧_)↔0<if ((Q7 t).getD p 0).testBit b=true then _ else _
   by_cases hb:((Q7 t).getD p 0).testBit b=true
   ·rw [Ei4 hb];exact ⟨fun h=>h.2,fun h=>⟨hb,h⟩⟩
   ·rw [Ei3 hb];exact iff_of_false (fun h=>hb h.1) (by omega)
  ·have hl:0<r.length:=List.length_pos_iff.2 hr;rw [Au0 E (by simpa using hr),next_mem,h.len,h.S];refine and_congr_right fun hp=>?_
   obtain ⟨j,hj⟩:∃ j,r.length=j+1:=⟨r.length - 1,by omega⟩;show _↔0<Ac7 t (r.reverse++[b]) (r.length+1 - 1) p;rw [Nat.add_sub_cancel,hj,Ac7];dsimp only;unfold Dq3;rw [← hj,hlast]
   have hpre:Ac7 t (r.reverse++[b]) j=Ac7 t r.reverse j:=Cz1 t j fun m hm=>by
    rw [Ei5,El2 (by simp;omega),← Ei5]
   rw [hpre]
   have hal:∀ x,x∈Ao0 E r.reverse↔x<C2 t∧0<Ac7 t r.reverse j x:=fun x=>by
    rw [ih hr x,hj];exact Iff.rfl
   by_cases hb:((Q7 t).getD p 0).testBit b=true
   ·rw [Ei4 hb,Ea3]
    constructor
    ·rintro ⟨_,x,h1,h2⟩;obtain ⟨h3,h4⟩:=(hal x).1 h1;exact ⟨x,h3,h4,(h.fol x p h3 hp).1 h2⟩
    ·rintro ⟨x,h3,h4,h5⟩;exact ⟨hb,x,(hal x).2 ⟨h3,h4⟩,(h.fol x p h3 hp).2 h5⟩
   ·rw [Ei3 hb];exact iff_of_false (fun h=>hb h.1) (by omega)
theorem ways_law {t:R8} {E:DE} {l:List St} (hg:DGood E l) (hl:DLaw E l) (h:SameA t E.k E.q) (L:List Nat) (hL:∀ b∈L,b<256):(l.getD (Cn1 E l L) default).meant=decide (0<Dq8 t L):=by
 rw [Dy2 hg hl L hL];unfold Dq8
 by_cases h0:L.length=0
 ·rw [Ei4 h0,Ei4 h0,decide_eq_decide];exact h.kn.void
 ·rw [Ei3 h0,Ei3 h0,Ej7,Ek1,Db4];unfold Cw7;rw [Ep3];simp only [Ei9,Ek1];have hne:L≠[]:=fun he=>h0 (by rw [he];rfl)
  constructor
  ·rintro ⟨x,h1,h2,h3⟩;obtain ⟨h4,h5⟩:=(Cg1 h L hne x).1 h1;exact ⟨x,h4,h5,(h.kn.last x h4).1 h3⟩
  ·rintro ⟨x,h4,h5,h6⟩;exact ⟨x,(Cg1 h L hne x).2 ⟨h4,h5⟩,by rw [h.len];exact h4,(h.kn.last x h4).2 h6⟩
end Go.Clt
end
namespace Go.Clt
open Go Go.RowKit Go.Proofs
theorem RAu.mono {F F':Nat→Prop} {w:World} {t:R8} {As:Option Addr} {pf pl bt:Nat} {bf:List Nat} (h:RAu F w t As pf pl bt bf) (hF:∀ b,F b→b<w.heap.size→F' b):RAu F' w t As pf pl bt bf:=
 ⟨h.rs.mono hF,hF _ h.ff h.first.lt,h.first,hF _ h.fl h.last.lt,h.last,hF _ h.ft h.tab.lt,h.tab,h.rows.mono hF⟩
structure Bt (w:World) (t:R8) (k:Kn) (q:Wst) (l:List St) (pd:Nat) (As:Option Addr) (pf pl bt:Nat) (bf:List Nat):Prop where
 g8:G8 t
 pl10:C2 t≤10
 same:SameA t k q
 dfa:Dn6 k q 100=some l
 isd:IsDfa (fun x=>x<w.heap.size) w pd (Bu8 k q 100) l
 rau:RAu (fun x=>x<w.heap.size) w t As pf pl bt bf
theorem Ef2 (s:ByteArray) (m:Int) (w:World) (hL:Laid w):Calls P 28 #[.string s,.int .i64 m] w (Ret fun u w'=>Chg [] w w'∧((∃ cs:List Value,u= .tuple #[.pointer none,.agg cs.toArray,.int .i64 1]∧cs.all Value.oneCell'=true∧cs.length=5)∨∃ t k q l pd As cS pf pl bt bf,u= .tuple #[.pointer (some ⟨pd,0,none⟩),.agg (Co7 t As cS pf pl bt).toArray,.int .i64 0]∧Bt w' t k q l pd As pf pl bt bf)):=by
 have hC:=A8 [] w
 try have hz4:=hL.sz
 refine D6 Tryz.func28 J J (Qd (Z 1 J (B4 J (B7 Dq4 J) ?_)));intro b1 w1 hb1 hs1 hx1 hB1;have hL:=hL.u hx1;refine Zc 1 J (Qd (Z 2 J (Ca fb11 J (Du1 s m _ hL) ?_)));rintro v6 w2 ⟨hx2,hno,hyes⟩;have hz2:=hx2.size;have hC:=hC.s0 (hx1.s0 hx2);have hL:=hL.u hx2;have hB1:=hB1.u hx2
 by_cases hf:As8 (B6 s) m=true
 ·obtain ⟨cs,p,rfl,hR0,hA⟩:=hyes hf;have hA0:=Dy5 s m hf;obtain ⟨hfit,_,hG8,_,hpl⟩:=Cc5 (m:=m) (T0 s) (by unfold As8 at hf;simp only [Ei9,Ek1] at hf;exact hf.1.1);generalize S8 (R9 (B6 s) m).1=kq at*;generalize (I2 (B6 s) m).1=t at*;obtain ⟨k,q⟩:=kq;simp only [] at hA hA0;have hq:q.S.length≤10:=by rw [hA0.len];exact hpl
  obtain ⟨As,cS,pf,pl,bt,bf,rfl,hU⟩:=hR0.open;unfold Co7;have hF:∀ x,FR w1.heap.size (World.heap w2).size [] x→x<(World.heap w2).size:=fun x hx=>hx.2.1
  have hFl:∀ x,FR w1.heap.size (World.heap w2).size [] x→w1.heap.size≤x:=fun x hx=>hx.1
  generalize FR w1.heap.size (World.heap w2).size []=F at*;have hFb:∀ b∈[b1],¬ F b:=fun b hb h=>by have:=hFl b h;rw [Ei6] at hb;omega
  refine Z 4 J (B4 J (B7 Dq4 J) ?_);intro b3 w3 hb3 hs3 hx3 hB3;have hA:=hA.u hx3;have hU:=hU.u hx3;refine Z 1 J (Pe Di3 J ‹_› J J ?_);intro w4 hs4 hx4 hB3;have hC:=hC.step (hx3.j hx4) (by simp<;>omega);have hL:=hL.q (hx3.j hx4) (by simp<;>omega);have hB1:=hB1.q (hx3.j hx4) (by simp<;>omega);have hA:=hA.q hx4 (by intro b hb hFb;have:=hF _ hFb;simp at hb;omega);have hU:=hU.q hx4 (by intro b hb hFb;have:=hF _ hFb;simp at hb;omega)
  refine Zc 1 J (Qa (Qd (Z 3 J (B9 (d:=21) J (fun g0=>?_) (fun g0=>?_)))))
  ·try simp at g0
   all_goals simp at g0
  ·try simp at g0
   refine Qu J (Fa De6 J (Qu J (Lb o23 J ‹_› (by rfl) ?_)))
   refine Qu J (Ln Tryz.underlying23 J (Qu J (Zc 2 J (A4 J (fun g1=>?_) (fun g1=>?_)))))
   ·try simp at g1
    refine Qa (C6 (S:=[]) 2 [(0,0),(0,1),(2,2),(2,3)] mo (by kernel_rfl) ?_);intro w5 hx5 hh5;have hB1:=hB1.u hx5;have hB3:=hB3.u hx5;refine C9 J (B8 Cy4 J ‹_› (by simp;done) J J) ?_;refine Z 1 J (Pe Di3 J ‹_› J J ?_);intro w6 hs6 hx6 hB1;have hC:=hC.step (hx5.j hx6) (by simp<;>omega);refine Zc 1 J (A6 (H0 J J J (A5 Cy4 ‹_› J J) J ?_));exact ⟨hC,.inl ⟨_,rfl,rfl,rfl⟩⟩
   ·try simp at g1
    refine A7 (Qd (Z 1 J (Ca fb13 J (dnew_c _ p k q 100 _ hA (fun z hz=>by have:=hF z hz;omega) hL (by omega) (by omega)) ?_)));rintro v9 w7 ⟨hx7,hnone,hsome⟩;have hC:=hC.s0 hx7;have hB1:=hB1.u hx7;have hU:=hU.u hx7;have hB3:=hB3.u hx7
    by_cases hd:Dn6 k q 100=none
    ·have hv:=hnone hd;subst hv;refine Zc 5 J (Qa (Qd (Zc 2 J (E4 (rfl) (Qa (C6 (S:=[]) 2 [(0,0),(0,1),(2,2),(2,3)] mo (by kernel_rfl) ?_))))));intro w8 hx8 hh8;have hB1:=hB1.u hx8;have hB3:=hB3.u hx8;refine C9 J (B8 Cy4 J ‹_› (by simp;done) J J) ?_;refine Z 1 J (Pe Di3 J ‹_› J J ?_);intro w9 hs9 hx9 hB1;have hC:=hC.step (hx8.j hx9) (by simp<;>omega);refine Zc 1 J (A6 (H0 J J J (A5 Cy4 ‹_› J J) J ?_));exact ⟨hC,.inl ⟨_,rfl,rfl,rfl⟩⟩
    ·obtain ⟨l,hl⟩:∃ l,Dn6 k q 100=some l:=by
      cases h:Dn6 k q 100 with
      |none=>exact absurd h hd
      |some l=>exact ⟨l,rfl⟩
     obtain ⟨pd,rfl,hD⟩:=hsome l hl;have hD:=hD.mono (F':=fun x=>w1.heap.size≤x) (fun z h _=>by rcases h with h|h;exact hFl z h;omega);refine Zc 5 J (Qa (Qd (Zc 2 J (E2 (rfl) (A7 (Qa (C6 (S:=[]) 3 [(0,0),(0,1),(0,2),(2,3),(2,4)] mo (by kernel_rfl) ?_)))))));intro w10 hx10 hh10;have hB1:=hB1.u hx10;have hU:=hU.u hx10;have hB3:=hB3.u hx10;refine Z 1 J (C9 J (B8 Cy4 J ‹_› (by simp;done) J J) ?_);refine Z 1 J (Pe Di3 J ‹_› J J ?_);intro w11 hs11 hx11 hB1;have hC:=hC.step (hx10.j hx11) (by simp<;>omega);have hU:=hU.q hx11 ‹_›;have hD:=hD.q (hx10.j hx11) (by simp<;>omega);refine Zc 1 J (A6 (H0 J J J (A5 Cy4 ‹_› J J) J ?_));exact ⟨hC,.inr ⟨t,k,q,l,pd,As,cS,pf,pl,bt,bf,rfl,hG8,hpl,hA0,hl,hD.mono (fun z _ hz=>hz),hU.mono (fun z _ hz=>hz)⟩⟩
 ·have hf':As8 (B6 s) m=false:=by simpa using hf
  obtain ⟨cs,rfl,hone,hlen⟩:=hno hf'
  obtain ⟨a0,a1,a2,a3,a4,rfl⟩:∃ a0 a1 a2 a3 a4,cs=[a0,a1,a2,a3,a4]:=by
   match cs,hlen with
   |[a0,a1,a2,a3,a4],_=>exact ⟨a0,a1,a2,a3,a4,rfl⟩
  refine Z 4 J (B4 J (B7 Dq4 J) ?_);intro b12 w12 hb12 hs12 hx12 hB12;refine Z 1 J (Pb (cs':=[a0,a1,a2,a3,a4]) Di3 J J hB12 J J hone J J ?_);intro w13 hs13 hx13 hB12;have hC:=hC.step (hx12.j hx13) (by simp<;>omega);have hB1:=hB1.q (hx12.j hx13) (by simp<;>omega)
  refine Zc 1 J (Qa (Qd (Z 3 J (B9 (d:=21) J (fun w0=>?_) (fun w0=>?_)))))
  ·try simp at w0
   refine Qk J (Qk J (Qk J (Qk J (Zc 1 J (E4 J (Qa (C6 (S:=[]) 2 [(0,0),(0,1),(2,2),(2,3)] mo (by kernel_rfl) ?_)))))));intro w14 hx14 hh14;have hB1:=hB1.u hx14;have hB12:=hB12.u hx14;refine C9 J (B8 Cy4 J ‹_› (by simp;done) J J) ?_;refine Z 1 J (Pb (cs':=[a0,a1,a2,a3,a4]) Di3 J J hB1 J J hone J J ?_);intro w15 hs15 hx15 hB1;have hC:=hC.step (hx14.j hx15) (by simp<;>omega);refine Zc 1 J (A6 (H0 J J J (A5 Cy4 ‹_› J J) J ?_));exact ⟨hC,.inl ⟨_,rfl,hone,rfl⟩⟩
  ·try simp at w0
   all_goals simp at w0
section
section
variable {P:Program} {n:Nat} {ops:Array Oper} {S:World→Prop} {N:Env→World→Prop} {B:Nat→Env→World→Prop} {R:Env→World→Prop} {e:Env} {w:World}
variable {rest:List (Nat × Oper)} {d:Nat} {op:Op} {t:TypeId} {p:String} {af:Array Edge} {dst:Option Tmp} {g:Option (Nat × Bool)} {φ:World→Prop}
theorem Bh6 {τ el ty:TypeId} {sz bytes n m c2:Nat} {A A2:Option Addr} {cs cs2:List Value} {F G:Nat→Prop} (ht:elB P τ el sz bytes=true) (ho:Rd F w sz A n cs) (hA:A=none→n=0) (hr:Rd G w sz A2 m cs2) (h1:∀ u∈cs2,u.oneCell'=true) (hm:0<m)
  (hl:(n+m)*bytes≤140737488355328):
  ∃ A' c' w',(Builtin.append_ #[τ,τ] ty #[.slice A n n,.slice A2 m c2]).run P w= .ok (.slice A' (n+m) c') w'∧Own w' w.heap.size el sz A' (n+m) c' (cs++cs2)∧Chg [] w w':=by
 cases A with
 |none=>
  obtain rfl:=hA rfl;obtain rfl:cs=[]:=En3 (by simpa using ho.len);obtain ⟨A',c',w',h2,h3,h4,_⟩:=Az7 (ty:=ty) (c2:=c2) ht (Own.nil w w.heap.size el sz) hr h1 hl (Ej4 _);exact ⟨A',c',w',h2,h3,h4⟩
 |some a=>
  obtain ⟨hu,hsz,hby,i,z,hi,hs,hb,hz,hzs⟩:=Cd3 ht;have hle:n+m≤140737488355328:=El9 (Nat.le_mul_of_pos_right _ hby) hl;obtain ⟨g2,o2,rfl,hF,hlt,hc⟩:=hr.at_ hm
  have hold:∀ j u,cs[j]?=some u→w.cell? (a.add j)=some u:=fun j u hj=>by
   have hn:0<n:=by
    rcases Nat.eq_zero_or_pos n with h|h
    ·have:=ho.len;rw [h,Nat.zero_mul] at this;rw [En3 this] at hj;simp at hj
    ·exact h
   obtain ⟨g,o,hA2,_,_,hc2⟩:=ho.at_ hn;injection hA2 with hA2
   subst hA2;rw [add0];exact hc2 j u hj
  obtain ⟨v',w',h2,h3,h4⟩:=run_append_arg_grows (P:=P) w τ ty el i z sz bytes hu hi hz hs hb hzs hsz a n n cs ho.len hold ⟨g2,o2,none⟩ m c2 cs2 hr.len (fun j u hj=>by rw [add0];exact hc j u hj) (by omega) (by simp only [maxLen];omega) hl
  have hv:∃ A' c',v'= .slice A' (n+m) c':=by
   rcases h3.2 with ⟨hv,hn⟩|⟨g,cap,cur,hv,_⟩
   ·exact ⟨none,0,by rw [hv];congr 1;omega⟩
   ·exact ⟨_,cap,hv⟩
  obtain ⟨A',c',rfl⟩:=hv;exact ⟨A',c',w',h2,h3,by simpa using Ao5 h4⟩
theorem EP.appF2 {τ el:TypeId} {sz bytes n' m c2:Nat} {x y:Operand} {A A2:Option Addr} {cs cs2:List Value} {F G:Nat→Prop} (hd:Nat.blt d n=true) (ht:elB P τ el sz bytes=true)
  (hx:ev e x=some (.slice A n' n')) (hy:ev e y=some (.slice A2 m c2)) (ho:Rd F w sz A n' cs) (hA:A=none→n'=0) (hr:Rd G w sz A2 m cs2) (h1:cs2.all Value.oneCell'=true) (hm:0<m) (hl:(n'+m)*bytes≤140737488355328)
  (h:∀ A' c' w',Own w' w.heap.size el sz A' (n'+m) c' (cs++cs2)→Chg [] w w'→EP P n ops S N B R rest ((d,.slice A' (n'+m) c')::e) w'):
  EP P n ops S N B R ((2,⟨some d,.call { callee:=.builtin .append,args:= #[x,y],argTypes:= #[τ,τ] },t,p,af,none⟩)::rest) e w:=by
 obtain ⟨A',c',w',hrun,h2,h3⟩:=Bh6 (ty:=t) (c2:=c2) ht ho hA hr (fun u hu=>by rw [Ep2] at h1;exact h1 u hu) hm hl;exact Cp4 hd (fun a ha=>by simp [execOp,resolve,invoke,builtin,ha.ev hx,ha.ev hy,hrun]) (h A' c' w' h2 h3)
theorem Bq3 {τ:TypeId} {sz:Nat} {x y z:Operand} {A:Option Addr} {m c:Nat} {k k2:IntKind} (ht:slB P τ sz=true) (hx:ev e x=some (.slice A m c)) (hy:ev e y=some (.int k (m:Nat))) (hz:ev e z=some (.int k2 (m:Nat))) (hA:A=none→c=0) (hc:m≤c):
  Does P n e ⟨dst,.slice τ x none (some y) (some z),t,p,af,g⟩ φ (.slice A m m):=fun a w ha _=>by
 obtain ⟨el,inf,hu,hi,hs⟩:=Be9 ht
 cases A with
 |none=>
  obtain rfl:=hA rfl;obtain rfl:m=0:=by omega
  simp [execOp,ha.ev hx,ha.ev hy,ha.ev hz,Instr.sliceAt,Instr.slice,run_underlying hu,Instr.sliceBounds,Instr.sliceBound,asIntOf,sizeOf,typeInfo,hi,hs]
 |some q=>
  have h:(0:Int)≤(m:Int)∧(m:Int)≤(c:Int):=⟨by omega,by omega⟩;simp [execOp,ha.ev hx,ha.ev hy,ha.ev hz,Instr.sliceAt,Instr.slice,run_underlying hu,Instr.sliceBounds,Instr.sliceBound,asIntOf,h,hc,sizeOf,typeInfo,hi,hs,Addr.add]
end
def Aa5 (E:DE) (l:List St) (most:Nat):Nat→Nat→List Nat→List (List Nat)→List (List Nat)
 |0,st,w,out=>if most≤out.length∨(Aa7 E l 0).getD st 0=0 then out else out++[w]
 |n+1,st,w,out=>if most≤out.length∨(Aa7 E l (n+1)).getD st 0=0 then out else E.bytes.foldl (fun o b=>Aa5 E l most n (R3 E l st b) (w++[b]) o) out
theorem Ck4 (E:DE) (l:List St) (most n st:Nat) (w:List Nat) (out:List (List Nat)) (h:most≤out.length∨(Aa7 E l n).getD st 0=0):Aa5 E l most n st w out=out:=by
 cases n with
 |zero=>rw [Aa5,Ei4 h]
 |succ n=>rw [Aa5,Ei4 h]
end
def strs (W:List (List Nat)):List Value:=W.map Cq8
theorem Ag8 (W:List (List Nat)) (i:Nat) (h:i<W.length):(strs W)[i]?=some (Cq8 (W.getD i [])):=by
 unfold strs;rw [Ek2,Ei7 h,Ei5,Ei7 h];rfl
theorem Own.nilc {w:World} {lo:Nat} {el:TypeId} {sz n c:Nat} {A:Option Addr} {cs:List Value} (h:Own w lo el sz A n c cs) (hA:A=none):n=0∧c=0:=by
 subst hA
 rcases h.2 with ⟨hv,hn⟩|⟨g,cap,cur,hv,_⟩
 ·injection hv with _ h1 h2;exact ⟨h1,h2⟩
 ·injection hv with h1;cases h1
theorem Bk4 (E:DE) (l:List St) (most:Nat):∀ (n st:Nat) (w:List Nat) (out:List (List Nat)) (k:Nat),out.length≤k→most≤k→(Aa5 E l most n st w out).length≤k
 |0,st,w,out,k,h1,h2=>by
  rw [Aa5]
  split
  ·exact h1
  ·rename_i h;rw [Ei8];simp;omega
 |n+1,st,w,out,k,h1,h2=>by
  rw [Aa5]
  split
  ·exact h1
  ·have key:∀ (r:List Nat) (o:List (List Nat)),o.length≤k→(r.foldl (fun o b=>Aa5 E l most n (R3 E l st b) (w++[b]) o) o).length≤k:=by
    intro r
    induction r with
    |nil=>exact fun o h=>h
    |cons b r ih=>exact fun o h=>ih _ (Bk4 E l most n _ _ o k h h2)
   exact key _ _ h1
def Dy7 (E:DE) (l:List St) (most n st:Nat) (w:List Nat) (out:List (List Nat)) (j:Nat):List (List Nat):=(E.bytes.take j).foldl (fun o b=>Aa5 E l most n (R3 E l st b) (w++[b]) o) out
theorem Dy6 (E:DE) (l:List St) (most n st:Nat) (w:List Nat) (out:List (List Nat)) (j:Nat) (hj:j<E.bytes.length):Dy7 E l most n st w out (j+1)=Aa5 E l most n (R3 E l st (E.bytes.getD j 0)) (w++[E.bytes.getD j 0]) (Dy7 E l most n st w out j):=by
 unfold Dy7;rw [Er1,Ei7 hj,El7,Ei5,Ei7 hj];rfl
theorem lstF_len (E:DE) (l:List St) (most n st:Nat) (w:List Nat) (out:List (List Nat)) (k:Nat) (h1:out.length≤k) (h2:most≤k):∀ j,(Dy7 E l most n st w out j).length≤k:=by
 intro j;unfold Dy7;generalize E.bytes.take j=r
 induction r generalizing out with
 |nil=>exact h1
 |cons b r ih=>exact ih _ (Bk4 E l most n _ _ out k h1 h2)
def lisC (pc:Nat) (most:Nat) (Ao:Option Addr) (m co:Nat):List Value:=[.pointer (some ⟨pc,0,none⟩),.int .i64 (most:Nat),.slice Ao m co]
def ListC (E:DE) (l:List St) (most n:Nat):Prop:=∀ (st:Nat) (ws:List Nat) (out:List (List Nat)) (F F2:Nat→Prop) (pc p pl mm lo:Nat) (Ab:Option Addr) (cb:Nat) (Al:Option Addr) (cl:Nat) (gs:List Nat) (A:Option Addr) (c:Nat) (Ao:Option Addr) (co:Nat) (w:World),n<mm→st<l.length→(∀ b∈ws,b<256)→ws.length+n≤1000→out.length≤10000→most≤10000→(∀ x,F x→x<lo)→(∀ x,F2 x→x<lo)→lo≤pl→lo≤w.heap.size→CntM F w pc p E l mm Ab cb Al cl gs→IsDfa F2 w p E l→Blk w pl (lisC pc most Ao out.length co) 102→Own w lo 9 1 Ao out.length co (strs out)→Own w lo 5 1 A ws.length c (bys ws)→
 Calls P 54 #[.pointer (some ⟨pl,0,none⟩),.int .i64 (st:Nat),.int .i64 (n:Nat),.slice A ws.length c] w (Ret fun _ w'=>Chg (pl::E5 Ao) w w'∧∃ Ao' co',Blk w' pl (lisC pc most Ao' (Aa5 E l most n st ws out).length co') 102∧Own w' lo 9 1 Ao' (Aa5 E l most n st ws out).length co' (strs (Aa5 E l most n st ws out))∧∀ x∈E5 Ao',x∈E5 Ao∨w.heap.size≤x)
theorem Bk5 (E:DE) (l:List St) (most n:Nat) (ih:∀ m,n=m+1→ListC E l most m):ListC E l most n:=by
 intro st ws out F F2 pc p pl mm lo Ab cb Al cl gs A c Ao co w hn hst hws hwl hol hmo hF hF2 hpl hlo hK hD hB0 hO hOw;have hC:=A8 (pl::E5 Ao) w;have hg:=hD.good;have hnb:=hg.nb;have hbn:=hg.bl;have hby:=hg.by_;have hco:=Ba9 E l n;have hBc:=hK.blk;have hBv:=(hK.row n hn).2;have hR:=hK.rb;have hRl:=hK.rl;have hgl:=hK.gl;unfold lisC at hB0 ⊢;obtain ⟨g,off,hAl,_,_,_⟩:=hRl.at_ (by omega);subst hAl;have hP0:∀ h:most≤out.length∨(Aa7 E l n).getD st 0=0,Aa5 E l most n st ws out=out:=fun h=>Ck4 E l most n st ws out h
 try have hlB0:=hB0.lt
 try have hlBv:=hBv.lt
 try have hlR:=hR.lt
 try have hlRl:=hRl.lt
 refine D6 Tryz.func54 J J (Qa (Qa (C6 (S:=[]) 26 [(0,0),(0,1),(0,2),(0,3),(0,4),(0,5),(0,6),(0,7),(0,8),(0,9),(0,10),(0,11),(0,12),(0,13),(0,14),(0,15),(0,16),(0,17),(0,18),(0,19),(0,20),(0,21),(0,22),(0,23),(0,24),(0,25)] mo (by kernel_rfl) ?_)));intro w1 hx1 hh1;have hC:=hC.s0 hx1;have hK:=hK.u hx1;have hD:=hD.u hx1;have hB0:=hB0.u hx1;have hO:=hO.u hx1;have hOw:=hOw.u hx1;have hBc:=hBc.u hx1;have hBv:=hBv.u hx1;have hR:=hR.u hx1;have hRl:=hRl.u hx1;refine Z 2 J (Fa Bl9 J (C9 J (B2 o49 J ‹_› (by simp;done) (by rfl)) ?_));refine Ln Tryz.underlying49 J (Z 2 J (Fa fl102_1 J (C9 J (B2 o3 J ‹_› (by simp;done) (by rfl)) ?_)))
 refine Z 2 J (B9 (d:=22) J (fun q0=>?_) (fun q0=>?_))
 ·try simp at q0
  refine Qk J (Qk J (Qk J (Qk J (Qk J (Qk J (Qk J (Qk J (Qk J (Qk J (Qk J (Qk J (Qk J (Qk J (Zc 1 J (E4 J (A6 (O7 J ⟨hC,Ao,co,?_,?_,fun x hx=>.inl hx⟩)))))))))))))))));rw [hP0 (.inl (by omega))];exact hB0;rw [hP0 (.inl (by omega))];exact hO
 ·try simp at q0
  refine Qu J (Z 1 J (Qu J (Z 1 J (Qu J (Fa Cw0 J (Qu J (C9 J (B2 o99 J ‹_› (by simp;done) (by rfl)) ?_)))))));refine Qu J (Z 1 J (Qu J (Fa Ae6 J (Qu J (C9 J (B2 o25 J ‹_› (by simp;done) (by rfl)) ?_)))));refine Qu J (Z 1 J (Qu J (C9 J (A9 Cq2 J J (by omega) (by omega)) (Qu J (C9 J (D3 o24 J (hRl.one (Ab9 l.length gs n (by rw [hgl];omega))).2 (by simp;done)) ?_)))));refine Qu J (Z 1 J (Qu J (C9 J (A9 V2 J J (by omega) (by omega)) (Qu J (C9 J (D3 o3 J (by rw [hBv.cell,Ek6];exact J4 (Aa7 E l n) st (by rw [hco.1];exact hst)) (by simp;done)) ?_)))))
  refine Qu J (Zc 2 J (A4 J (fun q1=>?_) (fun q1=>?_)))
  ·rw [cmpB_eql] at q1;refine A6 (O7 J ⟨hC,Ao,co,?_,?_,fun x hx=>.inl hx⟩);rw [hP0 (.inr q1)];exact hB0;rw [hP0 (.inr q1)];exact hO
  ·rw [cmpB_eqlF] at q1
   refine A7 (Qa (Qd (Zc 2 J (A4 J (fun q2=>?_) (fun q2=>?_)))))
   ·try simp at q2
    obtain rfl:n=0:=by omega
    have hP1:Aa5 E l most 0 st ws out=out++[ws]:=by rw [Aa5,Ei3 (by rintro (h|h);omega;exact q1 h)]
    have hOb:=hO.blk;have hplA:=hO.offBlk hB0 (by decide);have hplA2:pl∉E5 Ao:=fun h=>hplA pl h (by simp)
    have hwA:=hOw.apart hO (by decide);refine Qa (C6 (S:=E5 Ao) 9 [(0,0),(0,1),(0,2),(0,3),(0,4),(0,5),(1,6),(1,7),(1,8),(2,9),(2,10),(2,11)] mo (by kernel_rfl) ?_);intro w2 hx2 hh2;have hB0:=hB0.u hx2;have hOw:=hOw.u hx2;have hCS2:=A8 (E5 Ao) w2;refine Z 3 J (Fa Bl9 J (C9 J (B2 o49 J ‹_› ‹_› (by rfl)) ?_));refine Z 1 J (Cp5 J (Ab4 (l:=ws) (F:=fun _=>True) J J hws (hOw.rd (fun _ _ _=>trivial))) ‹_› ?_);have hS1:∀ x∈E5 Ao,x∈pl::E5 Ao∨w.heap.size≤x:=fun x hx=>.inl (El3 _ hx)
    have hS2:∀ x∈[pl],x∈pl::E5 Ao∨w.heap.size≤x:=fun x hx=>.inl (by rw [Ei6.1 hx];exact Ek5 ..)
    refine E1 J (B5 sl49 Tryz.underlying49 zr9 J J J (by rfl)) ?_;intro b3 w3 hb3 hs3 hx3 hB3;have hC:=hC.s0 (hx2.s0 hx3);have hB0:=hB0.u hx3;have hO:=hO.u (hx2.s0 hx3);have hCS2:=hCS2.s0 hx3;refine ⟨hCS2,?_⟩;refine Y1 J el49 J J hO (Blk.rd (F:=fun _=>True) ‹_› J trivial) (by rfl) (by omega) (by omega) ?_;intro A' c' w4 hO4 hx4 hA';have hC:=hC.step hx4 ‹_›;have hB0:=hB0.q hx4 ‹_›;have hCS2:=hCS2.step hx4 (by exact fun x h=>.inl h)
    replace hO:=hO4
    refine ⟨hCS2,?_⟩;have hplB:=hO.offBlk hB0 (by decide);refine Z 1 J (Fa Bl9 J (Pe sz49 J ‹_› J J ?_));intro w5 hs5 hx5 hB0;have hC:=hC.step hx5 (by simp;done);have hO:=(by exact hO.keep hx5 ‹_›);refine Qc (A6 (O7 J ⟨hC,A',c',?_,?_,?_⟩));rw [hP1,Ei8];exact hB0;rw [hP1,Ei8];unfold strs;rw [En1];exact hO;intro x hx;rcases hA' with rfl|⟨b,rfl,hb⟩;exact .inl hx;have:x=b:=by simpa [E5] using hx
    exact .inr (by omega)
   ·try simp at q2
    obtain ⟨m,rfl⟩:∃ m,n=m+1:=⟨n - 1,by omega⟩;have ih:=ih m J
    have hP2:Aa5 E l most (m+1) st ws out=Dy7 E l most m st ws out E.bytes.length:=by
     rw [Aa5,Ei3 (by rintro (h|h);omega;exact q1 h)];unfold Dy7;rw [El5 (Ej4 _)]
    have hnil:=fun h:A=none=>hOw.nilc h
    refine A7 (Qd (Z 2 J (Fa Cw0 J (Lb o99 J ‹_› (by rfl) ?_))));refine Z 1 J (Fa Cv8 J (Lb o44 J ‹_› (by rfl) ?_))
    refine Ln Tryz.underlying44 J (Zc 1 J (B1 (D8 (σ:=Nat × Option Addr × Nat) (fun (j,Ao2,co2)=>[(0,.pointer (some ⟨pl,0,none⟩)),(1,.int .i64 (st:Nat)),(2,.int .i64 ((m+1:Nat):Int)),(3,.slice A ws.length c),(57,.slice Ab E.bytes.length cb),(58,.int .i64 (E.bytes.length:Nat)),(59,.int .i64 (j:Nat))]) (fun (j,Ao2,co2) wr=>Chg (pl::E5 Ao) w wr∧CntM F wr pc p E l mm Ab cb (some ⟨g,off,none⟩) cl gs∧IsDfa F2 wr p E l∧Blk wr pl (lisC pc most Ao2 (Dy7 E l most m st ws out j).length co2) 102∧Own wr lo 9 1 Ao2 (Dy7 E l most m st ws out j).length co2 (strs (Dy7 E l most m st ws out j))∧Own wr lo 5 1 A ws.length c (bys ws)∧(∀ x∈E5 Ao2,x∈E5 Ao∨w.heap.size≤x)∧j≤E.bytes.length) (fun (j,Ao2,co2) wr=>E.bytes.length - j) (0,Ao,co) (sb J) ?_ ?_)))
    ·exact ⟨hC,hK,hD,hB0,hO,hOw,fun x hx=>.inl hx,Ej3 _⟩
    rintro ⟨j,Ao2,co2⟩ w40 ⟨hC,hK,hD,hB0,hO,hOw,hsub,hj⟩;have hBc:=hK.blk;have hR:=hK.rb;unfold lisC at hB0
    try have hzw:=hC.size
    try have hlB0:=hB0.lt
    try have hlR:=hR.lt
    refine Qd (Zc 1 J (Qa (A4 J (fun h3=>?_) (fun h3=>?_))))
    ·try simp at h3
     have hjn:j<E.bytes.length:=by omega
     have hbm:=hby _ (H6 E.bytes 0 j hjn);have hnl:=Ai1 hg hst hbm;have hl2:=lstF_len E l most m st ws out 10000 hol hmo j;obtain ⟨g2,o2,hA2,_,_,_⟩:=hR.at_ (by omega);subst hA2;refine A7 (Qa (B1 (Qd (C8 J (A9 Aj3 J J (by omega) (by omega)) (Lc o5 J (hR.one (Bb2 E.bytes j hjn)).2 (Zc 1 J (Qd (Z 2 J (Fa Cw0 J (Lb o99 J ‹_› (by rfl) ?_))))))))));refine Z 1 J (Fa Cv9 J (Lb o105 J ‹_› (by rfl) ?_));refine Z 2 J (N2 J (Ab3 J J (mNext _ _ _)) (Cd4 F2 p E l st (E.bytes.getD j 0) hst hbm _ hD) ?_);rintro _ w6 ⟨rfl,hx6⟩;have hz6:=hx6.size;have hOw:=hOw.u hx6;refine Zc 5 J (Qb (Z 3 J (C8 J ((Bp0 J J (by omega)).to (J2 (show (((m+1:Nat):Int) - 1)=((m:Nat):Int) by omega))) ?_)));refine Z 2 J (Ln Tryz.underlying44 J (Z 1 J (Ln Tryz.underlying44 J (C8 J (Bq3 Aj3 J J J (fun h=>(hnil h).2) hOw.cap) (Z 1 J (B4 J (B5 Aj3 Tryz.underlying44 zr5 J J J (by rfl)) ?_))))));intro b7 w7 hb7 hs7 hx7 hB7;have hOw:=hOw.u hx7;refine EP.appF2 J el44 J J ((hOw.rd (F:=fun _=>True) (fun _ _ _=>trivial))) (fun h=>(hnil h).1) (Blk.rd (F:=fun _=>True) ‹_› J trivial) (by rfl) (by omega) (by omega) ?_;intro AhOn chOn w8 hOn hx8;have hz8:=hx8.size;have hC:=hC.s0 ((hx6.s0 hx7).s0 hx8);have hK:=hK.u ((hx6.s0 hx7).s0 hx8);have hD:=hD.u ((hx6.s0 hx7).s0 hx8);have hB0:=hB0.u ((hx6.s0 hx7).s0 hx8);have hO:=hO.u ((hx6.s0 hx7).s0 hx8);have hOw:=hOw.u hx8;have hplA:=hO.offBlk hB0 (by decide);have hwA:=hOw.apart hO (by decide);have hwB:=hOw.offBlk hB0 (by decide);have hOb:=hO.blk
     have hS1:∀ x∈pl::E5 Ao2,x∈pl::E5 Ao∨w.heap.size≤x:=fun x hx=>by
      rcases Em1.1 hx with rfl|hx
      ·exact .inl (Ek5 ..)
      ·rcases hsub x hx with h|h
       ·exact .inl (El3 _ h)
       ·exact .inr h
     have hSl:∀ b∈pl::E5 Ao2,lo≤b:=fun b hb=>by
      rcases Em1.1 hb with rfl|hb
      ·exact hpl
      ·exact (hOb b hb).1
     have hSF:∀ b∈pl::E5 Ao2,¬ F b:=fun b hb h=>by have:=hSl b hb;have:=hF b h;omega
     have hSF2:∀ b∈pl::E5 Ao2,¬ F2 b:=fun b hb h=>by have:=hSl b hb;have:=hF2 b h;omega
     have hSW:∀ x∈E5 A,x∉pl::E5 Ao2:=fun x hx hm=>by
      rcases Em1.1 hm with rfl|hm
      ·exact hwB x hx (by simp)
      ·exact hwA x hx hm
     have hOn2:=hOn.lower (lo':=lo) (by omega);have hcall:=ih (R3 E l st (E.bytes.getD j 0)) (ws++[E.bytes.getD j 0]) (Dy7 E l most m st ws out j) F F2 pc p pl mm lo (some ⟨g2,o2,none⟩) cb (some ⟨g,off,none⟩) cl gs AhOn chOn Ao2 co2 w8 (by omega) hnl (fun x hx=>by rcases El8.1 hx with h|h;exact hws x h;rw [Ei6] at h;omega) (by rw [Ei8];simp;omega) hl2 hmo hF hF2 hpl (by omega) hK hD hB0 hO (by rw [Ei8,show bys (ws++[E.bytes.getD j 0])=bys ws++bys [E.bytes.getD j 0] from by simp [bys]];exact hOn2);rw [← Dy6 E l most m st ws out j hjn,Ei8,Em5] at hcall;refine Ca fb54 J (hcall) ?_;rintro _ w9 ⟨hx9,Ao3,co3,hB0',hO',hsub3⟩;have hC:=hC.step hx9 ‹_›;have hK:=hK.q hx9 ‹_›;have hD:=hD.q hx9 ‹_›;have hOw:=(by exact hOw.keep hx9 ‹_›);clear hB0;have hB0:=hB0';clear hB0';clear hO;have hO:=hO';clear hO';refine Qc (Qb (Ad J J (by omega) (Zc 1 J ⟨(j+1,Ao3,co3),⟨rfl,rfl,(G3 J (by omega)),rfl,rfl,rfl,rfl,trivial⟩,?_,?_⟩)));refine ⟨hC,hK,hD,hB0,hO,hOw,fun x hx=>?_,hjn⟩;rcases hsub3 x hx with h|h;exact hsub x h;exact .inr (by omega);show E.bytes.length - (j+1)<E.bytes.length - j;omega
    ·try simp at h3
     have hjj:j=E.bytes.length:=by omega
     subst hjj;refine Xb (O7 J ⟨hC,Ao2,co2,?_,?_,hsub⟩);rw [hP2];exact hB0;rw [hP2];exact hO
theorem Dd5 (E:DE) (l:List St) (most:Nat):∀ n,ListC E l most n
 |0=>Bk5 E l most 0 (fun m h=>by cases h)
 |n+1=>Bk5 E l most (n+1) (fun m h=>by obtain rfl:n=m:=Nat.succ.inj h;exact Dd5 E l most n)
def lsU (E:DE) (l:List St) (most k:Nat):List (List Nat):=(List.range k).foldl (fun o i=>Aa5 E l most i 0 [] o) []
theorem Bf5 (E:DE) (l:List St) (most k:Nat):lsU E l most (k+1)=Aa5 E l most k 0 [] (lsU E l most k):=by
 unfold lsU;rw [En0,El7];rfl
theorem Dd2 (E:DE) (l:List St) (most k:Nat) (h:most≤(lsU E l most k).length):∀ d,lsU E l most (k+d)=lsU E l most k
 |0=>rfl
 |d+1=>by
  have ih:=Dd2 E l most k h d;rw [← Ek8,Bf5,ih,Ck4 _ _ _ _ _ _ _ (.inl h)]
theorem Dy8 (E:DE) (l:List St) (most:Nat) (h:most≤10000):∀ k,(lsU E l most k).length≤10000
 |0=>Ej3 _
 |k+1=>by rw [Bf5];exact Bk4 E l most k 0 [] _ 10000 (Dy8 E l most h k) h
theorem wlist_c (F2:Nat→Prop) (p:Nat) (E:DE) (l:List St) (n most:Nat) (hn:n≤1000) (hmo:most≤10000) (w:World) (hFw2:∀ x,F2 x→x<w.heap.size) (hD:IsDfa F2 w p E l):
  Calls P 30 #[.pointer (some ⟨p,0,none⟩),.int .i64 (n:Nat),.int .i64 (most:Nat)] w (Ret fun u w'=>Chg [] w w'∧∃ Ao co,u= .tuple #[.slice Ao (lsU E l most (n+1)).length co,.int .i64 0]∧Own w' w.heap.size 9 1 Ao (lsU E l most (n+1)).length co (strs (lsU E l most (n+1)))):=by
 have hC:=A8 [] w;have hg:=hD.good;have hps:=hg.pos;refine D6 Tryz.func30 J J (Qd (Zc 2 J (Qa (Qd (Z 1 J (Ca fb15 J (An8 F2 p E l _ hD) ?_))))));rintro _ w1 ⟨rfl,hx1⟩;have hz1:=hx1.size;have hC:=hC.s0 hx1;have hD:=hD.u hx1
 refine Z 2 J (B9 (d:=13) J (fun h1=>?_) (fun h1=>?_))
 ·try simp at h1
  all_goals first|omega|(rw [h1] at hps;simp at hps)
 ·try simp at h1
  refine Qu J (Z 1 J (Qu J (Z 3 J (B9 (d:=17) J (fun h2=>?_) (fun h2=>?_)))))
  ·try simp at h2
   all_goals omega
  ·try simp at h2
   refine Qu J (Z 1 J (Qu J (Z 3 J (B9 (d:=21) J (fun h3=>?_) (fun h3=>?_)))))
   ·try simp at h3
    all_goals omega
   ·try simp at h3
    refine Qu J (Z 1 J (Qu J (Z 3 J (B9 (d:=25) J (fun h4=>?_) (fun h4=>?_)))))
    ·try simp at h4
     all_goals omega
    ·try simp at h4
     refine Qu J (Z 1 J (Qu J (Zc 2 J (A4 J (fun h5=>?_) (fun h5=>?_)))))
     ·try simp at h5
      all_goals omega
     ·try simp at h5
      refine A7 (Qd (Z 1 J (C8 J (Bb8 u31 J) (Z 1 J (Ca fb53 J (Bm6 F2 p E l n hn _ (fun x h=>by have:=hFw2 x h;omega) hD) ?_)))));rintro v9 w2 ⟨hx2,pc,rfl,Ab,cb,Al,cl,gs,hK⟩;have hz2:=hx2.size;refine Z 1 J (C8 J (B0 zr102 pl102 J (by rfl)) ?_);refine B4 J (E0 J J) ?_;intro b3 w3 hb3 hs3 hx3 hB3;have hC:=hC.s0 (hx2.s0 hx3);have hD:=hD.u (hx2.s0 hx3);have hK:=hK.u hx3;have hB0:Blk w3 b3 (lisC pc most none 0 0) 102:=hB3;have hpl:(World.heap w2).size≤b3:=by omega
      have hww:w.heap.size≤w2.heap.size:=by omega
      try have hlB0:=hB0.lt
      refine Zc 1 J (Qa (Qd (Zc 1 J (B1 (D8 (σ:=Nat × Option Addr × Nat) (fun (k,Ao,co)=>[(1,.int .i64 (n:Nat)),(2,.int .i64 (most:Nat)),(8,.pointer (some ⟨b3,0,none⟩)),(9,.int .i64 (k:Nat))]) (fun (k,Ao,co) wr=>Chg [] w wr∧CntM (FR w1.heap.size w2.heap.size []) wr pc p E l (n+1) Ab cb Al cl gs∧IsDfa F2 wr p E l∧Blk wr b3 (lisC pc most Ao (lsU E l most k).length co) 102∧Own wr (World.heap w2).size 9 1 Ao (lsU E l most k).length co (strs (lsU E l most k))∧k≤n+1) (fun (k,Ao,co) wr=>n+1 - k) (0,none,0) (sb J) ?_ ?_)))))
      ·exact ⟨hC,hK,hD,hB0,Own.nil _ _ _ _,Ej3 _⟩
      rintro ⟨k,Ao,co⟩ w40 ⟨hC,hK,hD,hB0,hO,hk⟩;have hll:=Dy8 E l most hmo k;have hlb:=hB0.lt;unfold lisC at hB0
      try have hlB0:=hB0.lt
      refine Qa (I5 (fun e9 wr=>Sub [(1,.int .i64 (n:Nat)),(2,.int .i64 (most:Nat)),(8,.pointer (some ⟨b3,0,none⟩)),(9,.int .i64 (k:Nat)),(47,.bool (decide (k≤n∧(lsU E l most k).length<most)))] e9∧Chg [] w wr∧CntM (FR w1.heap.size w2.heap.size []) wr pc p E l (n+1) Ab cb Al cl gs∧IsDfa F2 wr p E l∧Blk wr b3 [.pointer (some ⟨pc,0,none⟩),.int .i64 (most:Nat),.slice Ao (lsU E l most k).length co] 102∧Own wr (World.heap w2).size 9 1 Ao (lsU E l most k).length co (strs (lsU E l most k))) ?_ ?_)
      ·refine Qb (Z 4 J (B9 (d:=39) J (fun g1=>?_) (fun g1=>?_)))
       ·try simp at g1
        refine Qu J (Z 1 J (Qu J (Z 1 J (Qu J (Fa Bl9 J (Qu J (Lb o49 J ‹_› (by rfl) ?_)))))));refine Qu J (Ln Tryz.underlying49 J (Qu J (Z 1 J (Qu J (Zc 2 J ⟨⟨rfl,rfl,rfl,rfl,(H2 J (by rw [Ej7,cmpB_lss,Ej8];omega)),trivial⟩,?_⟩)))));exact ⟨hC,hK,hD,hB0,hO⟩
       ·try simp at g1
        refine Qk J (Qk J (Qk J (Qk J (Qk J (Qk J (Qk J (Zc 1 J ⟨⟨rfl,rfl,rfl,rfl,(H2 J (by rw [Ej6 (by omega)])),trivial⟩,?_⟩)))))));exact ⟨hC,hK,hD,hB0,hO⟩
      rintro e9 w50 ⟨hs9,hC,hK,hD,hB0,hO⟩;refine I4 _ hs9 ?_;clear hs9 e9
      try have hlB0:=hB0.lt
      refine A4 J (fun g2=>?_) (fun g2=>?_)
      ·have g2:=Em9 g2;have hOb0:=hO.blk
       have hOb:∀ x∈b3::E5 Ao,w2.heap.size≤x:=fun x hx=>by
        rcases Em1.1 hx with rfl|hx
        ·exact hpl
        ·exact (hOb0 x hx).1
       have hSF:∀ b∈b3::E5 Ao,¬ FR w1.heap.size w2.heap.size [] b:=fun b hb h=>by have:=hOb b hb;have:=h.2.1;omega
       have hSF2:∀ b∈b3::E5 Ao,¬ F2 b:=fun b hb h=>by have:=hOb b hb;have:=hFw2 b h;omega
       have hcall:=Dd5 E l most k 0 [] (lsU E l most k) (FR w1.heap.size w2.heap.size []) F2 pc p b3 (n+1) w2.heap.size Ab cb Al cl gs none 0 Ao co w50 (by omega) hps (by simp) (by simp;omega) hll hmo (fun x h=>h.2.1) (fun x h=>by have:=hFw2 x h;omega) hpl (by omega) hK hD hB0 hO (Own.nil _ _ _ _);rw [← Bf5] at hcall;refine A7 (Qa (B1 (Qb (Z 2 J (Ca fb54 J (hcall) ?_)))));rintro _ w4 ⟨hx4,Ao3,co3,hB0',hO',hsub3⟩;have hC:=hC.step hx4 (by intro x h;have:=hOb x h;exact .inr (by omega));have hK:=hK.q hx4 ‹_›;have hD:=hD.q hx4 ‹_›;clear hB0;have hB0:=hB0';clear hB0';clear hO;have hO:=hO';clear hO';refine Qc (Qb (Z 1 J (Ad J J (by omega) (Zc 1 J ⟨(k+1,Ao3,co3),sb J,?_,?_⟩))));exact ⟨hC,hK,hD,hB0,hO,by omega⟩;show n+1 - (k+1)<n+1 - k;omega
      ·have g2:=Es7 g2
       have hfin:lsU E l most (n+1)=lsU E l most k:=by
        by_cases h:k=n+1
        ·rw [h]
        ·have:=Dd2 E l most k (by omega) (n+1 - k);rw [show k+(n+1 - k)=n+1 by omega] at this;exact this
       rw [hfin];refine Xb (Qd (Z 2 J (Fa Bl9 J (Lb o49 J ‹_› (by rfl) ?_))));exact Zc 2 J (A6 (M3 J J J ⟨hC,Ao,co,rfl,hO.lower (by omega)⟩))
end Go.Clt
section
namespace Go.Clt
open Go Go.RowKit
def Ce2 (E:DE) (l:List St):Nat→Nat→List Nat→List (List Nat)
 |0,st,w=>if (l.getD st default).meant=true then [w] else []
 |n+1,st,w=>E.bytes.flatMap fun b=>Ce2 E l n (R3 E l st b) (w++[b])
theorem Cl8 (g:Nat→Int) (hg:∀ b,0≤g b):∀ (r:List Nat) (s:Int),0≤s∧s≤9223372036854775807→(r.foldl (fun s b=>Az3 [s,g b]) s=0↔s=0∧∀ b∈r,g b=0)
 |[],s,h=>by simp
 |b::r,s,h=>by
  rw [Eo8,Bx0 _ _ h.1 h.2,Cl8 g hg r _ (K4 _ _)];have hb:=hg b;have:X4 s (g b)=0↔s=0∧g b=0:=by unfold X4;omega
  rw [this]
  constructor
  ·rintro ⟨⟨h1,h2⟩,h3⟩;refine ⟨h1,fun x hx=>?_⟩
   rcases Em1.1 hx with rfl|hx
   ·exact h2
   ·exact h3 x hx
  ·rintro ⟨h1,h2⟩;exact ⟨⟨h1,h2 b (Ek5 ..)⟩,fun x hx=>h2 x (El3 _ hx)⟩
theorem Ax6 {E:DE} {l:List St} (hg:DGood E l):∀ (n st:Nat) (w:List Nat),st<l.length→((Aa7 E l n).getD st 0=0↔Ce2 E l n st w=[])
 |0,st,w,hst=>by
  have:(Aa7 E l 0).getD st 0=if (l.getD st default).meant=true then 1 else 0:=by
   show (Bq6 l).getD st 0=_;unfold Bq6;rw [Ei5,Ek2,Ei7 hst,Ei5,Ei7 hst];rfl
  rw [this,Ce2]
  split<;>simp
 |n+1,st,w,hst=>by
  have hc:=Ba9 E l n
  have:(Aa7 E l (n+1)).getD st 0=E.bytes.foldl (fun s b=>Az3 [s,(Aa7 E l n).getD (R3 E l st b) 0]) 0:=by
   show (Dk9 E l (Aa7 E l n)).getD st 0=_;unfold Dk9;rw [Ei5,Ek2,Ek7 hst];rfl
  rw [this,Cl8 _ (fun b=>(hc.2.get _).1) _ _ (by omega),Ce2,List.flatMap_eq_nil_iff]
  constructor
  ·rintro ⟨_,h⟩ b hb;exact (Ax6 hg n _ _ (Ai1 hg hst (hg.by_ b hb))).1 (h b hb)
  ·intro h;exact ⟨rfl,fun b hb=>(Ax6 hg n _ _ (Ai1 hg hst (hg.by_ b hb))).2 (h b hb)⟩
def Az2 (most:Nat) (out xs:List (List Nat)):List (List Nat):=if most≤out.length then out else (out++xs).take most
theorem Bg6 (most:Nat) (out:List (List Nat)):Az2 most out []=out:=by
 unfold Az2
 split
 ·rfl
 ·rw [En5,El5 (by omega)]
theorem Cg5 (most:Nat) (out xs ys:List (List Nat)):Az2 most (Az2 most out xs) ys=Az2 most out (xs++ys):=by
 unfold Az2
 by_cases h:most≤out.length
 ·simp only [Ei4 h]
 ·simp only [Ei3 h];rw [List.length_take,Ei8]
  by_cases h2:most≤out.length+xs.length
  ·rw [Ei4 (by omega),← Er8];exact (List.take_append_of_le_length (by rw [Ei8];exact h2)).symm
  ·rw [Ei3 (by omega),El5 (l:=out++xs) (by rw [Ei8];omega),Er8]
theorem Dd4 {E:DE} {l:List St} (hg:DGood E l) (most:Nat):∀ (n st:Nat) (w:List Nat) (out:List (List Nat)),st<l.length→Aa5 E l most n st w out=Az2 most out (Ce2 E l n st w)
 |0,st,w,out,hst=>by
  rw [Aa5];have hz:=Ax6 hg 0 st w hst
  by_cases h1:most≤out.length
  ·rw [Ei4 (.inl h1)];unfold Az2;rw [Ei4 h1]
  ·by_cases h2:(Aa7 E l 0).getD st 0=0
   ·rw [Ei4 (.inr h2),hz.1 h2,Bg6]
   ·rw [Ei3 (by rintro (h|h);exact h1 h;exact h2 h)]
    have:Ce2 E l 0 st w=[w]:=by
     rw [Ce2]
     split
     ·rfl
     ·rename_i hm;exact absurd (hz.2 (by rw [Ce2,Ei3 hm])) h2
    rw [this];unfold Az2;rw [Ei3 h1,El5 (by simp;omega)]
 |n+1,st,w,out,hst=>by
  rw [Aa5];have hz:=Ax6 hg (n+1) st w hst
  by_cases h1:most≤out.length
  ·rw [Ei4 (.inl h1)];unfold Az2;rw [Ei4 h1]
  ·by_cases h2:(Aa7 E l (n+1)).getD st 0=0
   ·rw [Ei4 (.inr h2),hz.1 h2,Bg6]
   ·rw [Ei3 (by rintro (h|h);exact h1 h;exact h2 h),Ce2]
    have key:∀ (r:List Nat) (o:List (List Nat)),(∀ b∈r,b<256)→r.foldl (fun o b=>Aa5 E l most n (R3 E l st b) (w++[b]) o) o=Az2 most o (r.flatMap fun b=>Ce2 E l n (R3 E l st b) (w++[b])):=by
     intro r
     induction r with
     |nil=>intro o _;rw [List.flatMap_nil,Bg6];rfl
     |cons b r ih=>
      intro o hb;rw [Eo8,ih _ (fun x hx=>hb x (El3 _ hx)),Dd4 hg most n _ _ o (Ai1 hg hst (hb b (Ek5 ..))),Cg5,Eo3]
    exact key _ _ hg.by_
def Bc1 (E:DE) (l:List St) (k:Nat):List (List Nat):=(List.range k).flatMap fun i=>Ce2 E l i 0 []
theorem lsU_eq {E:DE} {l:List St} (hg:DGood E l) (most:Nat):∀ k,lsU E l most k=(Bc1 E l k).take most
 |0=>by unfold lsU Bc1;simp
 |k+1=>by
  rw [Bf5,Dd4 hg most k 0 [] _ hg.pos,lsU_eq hg most k];unfold Bc1;rw [En0,List.flatMap_append,Eo3,List.flatMap_nil,En5];have:=Cg5 most [] (Bc1 E l k) (Ce2 E l k 0 [])
  have h0:∀ xs,Az2 most [] xs=xs.take most:=fun xs=>by
   unfold Az2
   split
   ·rename_i h;rw [show most=0 from Nat.le_zero.1 h,Eq8]
   ·rw [Ej1]
  rw [h0,h0] at this;exact this
theorem Ap9 {E:DE} {l:List St}:∀ (n st:Nat) (w x:List Nat),x∈Ce2 E l n st w↔∃ v,x=w++v∧v.length=n∧(∀ b∈v,b∈E.bytes)∧(l.getD (v.foldl (R3 E l) st) default).meant=true
 |0,st,w,x=>by
  rw [Ce2]
  constructor
  ·intro h
   split at h
   ·rename_i hm
    rw [Ei6] at h;exact ⟨[],by rw [h,En5],rfl,by simp,hm⟩
   ·cases h
  ·rintro ⟨v,h1,h2,_,h4⟩;have:=En3 h2;subst this;have h4:(l.getD st default).meant=true:=h4;rw [Ei4 h4,h1,En5];exact Ei6.2 J
 |n+1,st,w,x=>by
  rw [Ce2,List.mem_flatMap]
  constructor
  ·rintro ⟨b,hb,h⟩;obtain ⟨v,h1,h2,h3,h4⟩:=(Ap9 n _ _ x).1 h;refine ⟨b::v,by rw [h1];simp,by simp [h2],fun c hc=>?_,h4⟩
   rcases Em1.1 hc with rfl|hc
   ·exact hb
   ·exact h3 c hc
  ·rintro ⟨v,h1,h2,h3,h4⟩
   cases v with
   |nil=>cases h2
   |cons b v=>
    exact ⟨b,h3 b (Ek5 ..),(Ap9 n _ _ x).2 ⟨v,by rw [h1];simp,by simpa using h2,fun c hc=>h3 c (El3 _ hc),h4⟩⟩
def Lx (x y:List Nat):Prop:=∃ w b c u v,x=w++b::u∧y=w++c::v∧b<c
def Rx (x y:List Nat):Prop:=x.length<y.length∨(x.length=y.length∧Lx x y)
theorem Dg5 {E:DE} {l:List St} (hb:E.bytes.Pairwise (·<·)):∀ (n st:Nat) (w:List Nat),(Ce2 E l n st w).Pairwise Lx
 |0,st,w=>by rw [Ce2];split<;>simp
 |n+1,st,w=>by
  rw [Ce2,List.pairwise_flatMap];refine ⟨fun b _=>Dg5 hb n _ _,hb.imp fun {b c} hbc x hx y hy=>?_⟩;obtain ⟨u,h1,_⟩:=(Ap9 n _ _ x).1 hx;obtain ⟨v,h2,_⟩:=(Ap9 n _ _ y).1 hy;exact ⟨w,b,c,u,v,by rw [h1];simp,by rw [h2];simp,hbc⟩
theorem Bg2 {E:DE} {l:List St} {n:Nat} {x:List Nat} (h:x∈Ce2 E l n 0 []):x.length=n:=by
 obtain ⟨v,h1,h2,_⟩:=(Ap9 n 0 [] x).1 h;rw [h1,Ej1];exact h2
theorem Dh9 {E:DE} {l:List St} (hb:E.bytes.Pairwise (·<·)) (k:Nat):(Bc1 E l k).Pairwise Rx:=by
 unfold Bc1;rw [List.pairwise_flatMap];refine ⟨fun i _=>(Dg5 hb i 0 []).imp_of_mem fun {x y} hx hy h=>.inr ⟨by rw [Bg2 hx,Bg2 hy],h⟩,List.pairwise_lt_range.imp fun {i j} hij x hx y hy=>.inl (by rw [Bg2 hx,Bg2 hy];exact hij)⟩
theorem Di0 {E:DE} {l:List St} {k:Nat} {x:List Nat} (h:x∈Bc1 E l k):x.length<k∧(∀ b∈x,b∈E.bytes)∧(l.getD (Cn1 E l x) default).meant=true:=by
 unfold Bc1 at h;obtain ⟨i,hi,hx⟩:=List.mem_flatMap.1 h;obtain ⟨v,h1,h2,h3,h4⟩:=(Ap9 i 0 [] x).1 hx;rw [Ej1] at h1;subst h1;exact ⟨by rw [h2];exact El0.1 hi,h3,h4⟩
theorem Do7 (k:Kn) (q:Wst) (bu:Nat):(Bu8 k q bu).bytes.Pairwise (·<·):=by
 show (Ai8 (F7 q.S).1 (F7 q.S).2).Pairwise _;unfold Ai8;rw [List.pairwise_map];refine List.pairwise_lt_range.imp_of_mem fun {i j} hi hj hij=>?_
 obtain ⟨_,a2,a3⟩:=Bk7 q.S (El0.1 hi);obtain ⟨b1,b2,_⟩:=Bk7 q.S (El0.1 hj);obtain ⟨c,h1,h2⟩:=(Bb5 q.S).rise _ i b1 (by rw [b2];exact hij);refine Nat.lt_of_le_of_lt (Nat.le_of_not_lt fun h=>a3 c h h2) h1
theorem Ck5:∀ (w u v:List Nat) (b c:Nat),b<256→c<256→b<c→Op.bytesLess ((w++b::u).map UInt8.ofNat) ((w++c::v).map UInt8.ofNat)=true
 |[],u,v,b,c,hb,hc,h=>by
  rw [Ej1,Ej1,El4,El4,Op.bytesLess]
  have:UInt8.ofNat b<UInt8.ofNat c:=by
   rw [UInt8.lt_iff_toNat_lt,UInt8.toNat_ofNat',UInt8.toNat_ofNat'];omega
  simp [this]
 |a::w,u,v,b,c,hb,hc,h=>by
  rw [Ej0,Ej0,El4,El4,Op.bytesLess,Ck5 w u v b c hb hc h];simp
theorem Bq5 (x:List Nat):(Ar4 x).toList=x.map UInt8.ofNat:=by
 rw [ByteArray.toList_eq];show ((x.map UInt8.ofNat).toArray).toList=_;simp
theorem Lx.less {x y:List Nat} (h:Lx x y) (hx:∀ b∈x,b<256) (hy:∀ b∈y,b<256):Op.bytesLess (Ar4 x).toList (Ar4 y).toList=true:=by
 obtain ⟨w,b,c,u,v,rfl,rfl,hbc⟩:=h;rw [Bq5,Bq5];exact Ck5 w u v b c (hx b (by simp)) (hy c (by simp)) hbc
end Go.Clt
end
namespace Go.Clt
open Go Go.RowKit Go.Proofs
theorem Cz4 {x:Int} (h:(Lit.int .u8 x).wf=true):0≤x∧x≤255:=by
 have h':(decide (IntKind.u8.min≤x) && decide (x≤IntKind.u8.max))=true:=h;simp only [Ei9,Ek1] at h';exact ⟨h'.1,h'.2⟩
theorem Dy1 (s:ByteArray) (m lq mq:Int) (hlo:0≤lq∧lq≤255) (hmo:0≤mq∧mq≤255) (w:World) (hL:Laid w):Calls P 8 #[.string s,.int .i64 m,.int .u8 lq,.int .u8 mq] w (Ret fun u w'=>u= .bool true∧Chg [] w w'):=by
 have hC:=A8 [] w;obtain ⟨n,hn⟩:∃ n:Nat,lq % 8=(n:Int):=⟨(lq % 8).toNat,by omega⟩;obtain ⟨mst,hmst⟩:∃ n:Nat,mq % 60=(n:Int):=⟨(mq % 60).toNat,by omega⟩
 try have hz4:=hL.sz
 refine D6 Tryz.func8 J J (Qd (Zc 1 J (Qd (Z 2 J (Ca fb28 J (Ef2 s m _ hL) ?_)))));rintro v9 w1 ⟨hx1,hb⟩;have hz1:=hx1.size;have hC:=hC.s0 hx1;have hL:=hL.u hx1
 by_cases hc9:∃ cs:List Value,v9= .tuple #[.pointer none,.agg cs.toArray,.int .i64 1]∧cs.all Value.oneCell'=true∧cs.length=5
 ·obtain ⟨cs,rfl,hone,hlen⟩:=hc9
  obtain ⟨a0,a1,a2,a3,a4,rfl⟩:∃ a0 a1 a2 a3 a4,cs=[a0,a1,a2,a3,a4]:=by
   match cs,hlen with
   |[a0,a1,a2,a3,a4],_=>exact ⟨a0,a1,a2,a3,a4,rfl⟩
  refine Z 4 J (B4 J (B7 Dq4 J) ?_);intro b2 w2 hb2 hs2 hx2 hB2;refine Z 1 J (Pb (cs':=[a0,a1,a2,a3,a4]) Di3 J J hB2 J J hone J J ?_);intro w3 hs3 hx3 hB3;have hC:=hC.step (hx2.j hx3) (by simp<;>omega);have hL:=hL.q (hx2.j hx3) (by simp<;>omega)
  refine Zc 1 J (Qa (Qd (Z 3 J (B9 (d:=24) J (fun g0=>?_) (fun g0=>?_)))))
  ·try simp at g0
   refine Qk J (Qk J (Zc 1 J (E4 J (Qd (Ca fb29 J (Co6 _ hL) ?_)))));rintro _ w4 ⟨rfl,hx4⟩;have hC:=hC.s0 hx4;exact Zc 1 J (A6 (B3 J J ⟨rfl,hC⟩))
  ·try simp at g0
   all_goals simp at g0
 ·rcases hb with hb|⟨t,k,q,l,pd,As,cS,pf,pl,bt,bf,rfl,hBt⟩;exact absurd hb hc9;obtain ⟨hG8,hpl,hA0,hl,hD,hU⟩:=hBt;have hq:q.S.length≤10:=by rw [hA0.len];exact hpl
  have hg:=hD.good;have hlaw:=ways_law hg (dfa_law (by omega) hl hg) (show SameA t (Bu8 k q 100).k (Bu8 k q 100).q from hA0);have hby:=Do7 k q 100;have hEby:=hg.by_;unfold Co7;generalize Bu8 k q 100=E at*;refine Z 4 J (B4 J (B7 Dq4 J) ?_);intro b5 w5 hb5 hs5 hx5 hB5;refine Z 1 J (Pe Di3 J ‹_› J J ?_);intro w6 hs6 hx6 hB5;have hC:=hC.step (hx5.j hx6) (by simp<;>omega);have hL:=hL.q (hx5.j hx6) (by simp<;>omega);have hD:=hD.q (hx5.j hx6) (by simp<;>omega);have hU:=hU.q (hx5.j hx6) (by simp<;>omega)
  refine Zc 1 J (Qa (Qd (Z 3 J (B9 (d:=24) J (fun g0=>?_) (fun g0=>?_)))))
  ·try simp at g0
   all_goals simp at g0
  ·try simp at g0
   refine Qu J (Ca fb29 J (Co6 _ hL) ?_);rintro _ w7 ⟨rfl,hx7⟩;have hz7:=hx7.size;have hD:=hD.u hx7;refine Qu J (Zc 2 J (E2 (rfl) (A7 (Qd (Z 2 J (C8 J ((Z2 J J (by omega) (by omega)).to (J2 hn)) (C8 J (G5 kn5 Tryz.underlying3 J (by exact H4 (by omega))) ?_)))))));refine Z 1 J (C8 J ((Z2 J J (by omega) (by omega)).to (J2 hmst)) (C8 J (G5 kn5 Tryz.underlying3 J (by exact H4 (by omega))) ?_));refine Ca fb30 J (wlist_c _ pd E l n mst (by omega) (by omega) _ (fun x (hx:x<w1.heap.size)=>by omega) hD) ?_;rintro _ w8 ⟨hx8,Ao,co,rfl,hOl⟩;have hC:=hC.s0 (hx7.s0 hx8);have hD:=hD.u hx8;have hU:=hU.u (hx7.s0 hx8);have hB5:=hB5.u (hx7.s0 hx8);have hW:=lsU_eq hg mst (n+1);have hWo:=(Dh9 (l:=l) hby (n+1)).sublist (List.take_sublist mst _);have hWm:∀ x∈lsU E l mst (n+1),x.length<n+1∧(∀ b∈x,b∈E.bytes)∧(l.getD (Cn1 E l x) default).meant=true:=fun x hx=>by rw [hW] at hx;exact Di0 (List.mem_of_mem_take hx)
   rw [← hW] at hWo;have hWl:(lsU E l mst (n+1)).length≤mst:=by rw [hW,List.length_take];omega
   generalize lsU E l mst (n+1)=W at*;have hH:=hOl.rd (F:=fun x=>x<(World.heap w8).size) (fun _ _ h=>h)
   refine Zc 5 J (Qa (Qd (Z 3 J (B9 (d:=42) J (fun z0=>?_) (fun z0=>?_)))))
   ·try simp at z0
    all_goals simp at z0
   ·try simp at z0
    refine Qu J (Z 1 J (Qu J (Ln Tryz.underlying49 J (Qu J (Z 1 J (Qu J (C8 J ((Z2 J J (by omega) (by omega)).to (J2 hmst)) (Qu J (C8 J (G5 kn5 Tryz.underlying3 J (by exact H4 (by omega))) ?_)))))))))
    refine Qu J (Zc 2 J (A4 J (fun z1=>?_) (fun z1=>?_)))
    ·try simp at z1
     all_goals (exfalso;omega)
    ·try simp at z1
     refine A7 (Qa (Qd (Zc 1 J (B1 (D8 (σ:=Nat) (fun i=>[(2,.int .u8 lq),(9,.pointer (some ⟨pd,0,none⟩)),(10,.pointer (some ⟨b5,0,none⟩)),(12,.slice Ao W.length co),(14,.int .i64 (i:Nat))]) (fun i wr=>Chg [] w wr∧IsDfa (fun x=>x<w1.heap.size) wr pd E l∧RAu (fun x=>x<w1.heap.size) wr t As pf pl bt bf∧Blk wr b5 [.slice As (Q7 t).length cS,.int .i64 (P7 t),.slice (some ⟨pf,0,none⟩) (C2 t) (C2 t),.slice (some ⟨pl,0,none⟩) (C2 t) (C2 t),.slice (some ⟨bt,0,none⟩) (C2 t) (C2 t)] 27∧Rd (fun x=>x<w8.heap.size) wr 1 Ao W.length (strs W)∧i≤W.length∧w8.heap.size≤wr.heap.size) (fun i wr=>W.length - i) 0 (sb J) ?_ ?_)))))
     ·exact ⟨hC,hD,hU,hB5,hH,Ej3 _,by omega⟩
     rintro i w40 ⟨hC,hD,hU,hB5,hH,hi,hz40⟩
     try have hlB5:=hB5.lt
     refine Qa (Qd (Z 2 J (Ln Tryz.underlying49 J (Zc 1 J (A4 J (fun g1=>?_) (fun g1=>?_))))))
     ·try simp at g1
      have hil:i<W.length:=by omega
      obtain ⟨hxl,hxb,hxm⟩:=hWm _ (H6 W [] i hil);have hx8:∀ b∈W.getD i [],b<256:=fun b hb=>hEby b (hxb b hb)
      have hwl:=hlaw (W.getD i []) hx8;rw [hxm] at hwl;have hws:=Em9 hwl.symm;have hsz:=Ao7 (W.getD i [])
      have hmc:∀ w',IsDfa (fun x=>x<w1.heap.size) w' pd E l→Calls P 23 #[.pointer (some ⟨pd,0,none⟩),.string (Ar4 (W.getD i []))] w' (Ret fun u w''=>u= .bool true∧Chg [] w' w''):=fun w' hd=>by
       have:=dmeans_c _ pd E l (Ar4 (W.getD i [])) (by omega) w' hd;rw [Az4 _ hx8,hxm] at this;exact this
      refine A7 (Qa (B1 (Qa (Qa (C6 (S:=[]) 25 [(0,0),(0,1),(0,2),(0,3),(0,4),(1,5),(0,6),(0,7),(0,8),(0,9),(0,10),(0,11),(0,12),(1,13),(0,14),(0,15),(0,16),(0,17),(0,18),(0,19),(0,20),(0,21),(0,22),(0,23),(0,24),(2,25),(2,26)] mo (by kernel_rfl) ?_)))));intro w9 hx9 hh9;have hU:=hU.u hx9;have hB5:=hB5.u hx9;have hH:=hH.u hx9;have hCS9:=A8 ([]) w9;obtain ⟨g9,oW,rfl,_,hlt9,hcell9⟩:=hH.at_ (by omega);have hH0:=hH;refine C9 J (B8 Cy4 J ‹_› (by simp;done) J J) ?_;refine Z 2 J (C9 J (A9 sl49 J J (by omega) (by omega)) (C9 J (D3 o9 J (hH.one (Ag8 W i hil)).2 (by simp;done)) ?_));refine C4 J (C0 fb21 J) (rways_c t hG8 (by omega) (Ar4 (W.getD i [])) (by omega) As cS pf pl bt bf _ _ (fun z (hz:z<w1.heap.size)=>by omega) hU) ?_;rintro _ w10 ⟨rfl,hx10⟩;have hz10:=hx10.size;have hD:=hD.u (hx9.s0 hx10);have hCS9:=hCS9.s0 hx10;refine ⟨hCS9,?_⟩;refine C9 J ((Bg5 J J J).to (I1 (show _=false from by rw [Az4 _ hx8,Er9,Ne,cmpB_eql];omega))) ?_;refine Z 1 J (Qu J (Z 1 J (Qu J (Z 1 J (Qu J (Z 1 J (Qu J (C9 J (A9 sl49 J J (by omega) (by omega)) (Qu J (C9 J (D3 o9 J (hH0.one (Ag8 W i hil)).2 (by simp;done)) ?_))))))))));refine Qu J (C4 J (C0 fb23 J) (hmc _ hD) ?_);rintro _ w11 ⟨rfl,hx11⟩;have hz11:=hx11.size;have hCS9:=hCS9.s0 hx11;refine ⟨hCS9,?_⟩;refine Qu J (Z 3 J (Qu J (Z 1 J (Qu J (Z 1 J (Qu J (C9 J (A9 sl49 J J (by omega) (by omega)) (Qu J (C9 J (D3 o9 J (hH0.one (Ag8 W i hil)).2 (by simp;done)) ?_)))))))));refine Qu J (C9 J (E8 Tryz.underlying9 J) (Qu J (Z 1 J (Qu J (C9 J ((Z2 J J (by omega) (by omega)).to (J2 hn)) (Qu J (C9 J (G5 kn5 Tryz.underlying3 J (by exact H4 (by omega))) ?_)))))));refine Qu J (C8 J ((Bg5 J J J).to (I1 (show _=false from by rw [Er9,Ne,cmpB_gtr,hsz];omega))) ?_);refine Zc 1 J (E2 J (A7 (Qa (C6 (S:=[]) 38 [(0,0),(0,1),(0,2),(0,3),(0,4),(0,5),(0,6),(0,7),(0,8),(0,9),(0,10),(0,11),(0,12),(0,13),(0,14),(0,15),(0,16),(0,17),(0,18),(0,19),(0,20),(0,21),(0,22),(0,23),(0,24),(0,25),(0,26),(0,27),(0,28),(0,29),(0,30),(0,31),(0,32),(0,33),(0,34),(0,35),(0,36),(0,37),(2,38),(2,39),(2,40),(2,41)] mo (by kernel_rfl) ?_))));intro w12 hx12 hh12;have hC:=hC.s0 (((hx9.s0 hx10).s0 hx11).s0 hx12);have hD:=hD.u (hx11.s0 hx12);have hU:=hU.u ((hx10.s0 hx11).s0 hx12);have hB5:=hB5.u ((hx10.s0 hx11).s0 hx12);have hH:=hH.u ((hx10.s0 hx11).s0 hx12)
      refine Z 3 J (B9 (d:=85) J (fun g2=>?_) (fun g2=>?_))
      ·try simp at g2
       have hi1:i - 1<W.length:=by omega
       have hR:Rx (W.getD (i - 1) []) (W.getD i []):=by
        have:=List.pairwise_iff_getElem.1 hWo (i - 1) i (by omega) hil (by omega);rw [Ei5,Ei5,Ei7 hil,Ei7 hi1];exact this
       have hp8:∀ b∈W.getD (i - 1) [],b<256:=fun b hb=>hEby b ((hWm _ (H6 W [] (i - 1) hi1)).2.1 b hb)
       have hsp:=Ao7 (W.getD (i - 1) []);have hle:(W.getD (i - 1) []).length≤(W.getD i []).length:=by rcases hR with h|h<;>omega
       have hcp:=(hH.one (Ag8 W (i - 1) hi1)).2;refine Qu J (Z 1 J (Qu J (Z 1 J (Qu J (Su J J (by omega) (Qu J (C9 J (A9 sl49 J J (by omega) (by omega)) (Qu J (C9 J (D3 o9 J (by rw [show (((i:Nat):Int) - 1).toNat=i - 1 by omega];exact hcp) (by simp;done)) ?_)))))))));refine Qu J (C9 J (E8 Tryz.underlying9 J) (Qu J (Z 1 J (Qu J (Z 1 J (Qu J (C9 J (A9 sl49 J J (by omega) (by omega)) (Qu J (C9 J (D3 o9 J (hH.one (Ag8 W i hil)).2 (by simp;done)) ?_)))))))));refine Qu J (C9 J (E8 Tryz.underlying9 J) (Qu J (C9 J ((Bg5 J J J).to (I1 (show _=false from by rw [Er9,Ne,cmpB_gtr];omega))) ?_)));refine Qu J (Z 1 J (Qu J (Z 1 J (Qu J (Z 1 J (Qu J (Su J J (by omega) (Qu J (C9 J (A9 sl49 J J (by omega) (by omega)) (Qu J (C9 J (D3 o9 J (by rw [show (((i:Nat):Int) - 1).toNat=i - 1 by omega];exact hcp) (by simp;done)) ?_)))))))))));refine Qu J (C9 J (E8 Tryz.underlying9 J) (Qu J (Z 1 J (Qu J (Z 1 J (Qu J (C9 J (A9 sl49 J J (by omega) (by omega)) (Qu J (C9 J (D3 o9 J (hH.one (Ag8 W i hil)).2 (by simp;done)) ?_)))))))))
       refine Qu J (C9 J (E8 Tryz.underlying9 J) (Qu J (Z 1 J (Qu J (Z 1 J (B9 (d:=111) J (fun g3=>?_) (fun g3=>?_)))))))
       ·rw [cmpB_eql] at g3;refine Qu J (Z 1 J (Qu J (Z 1 J (Qu J (Su J J (by omega) (Qu J (C9 J (A9 sl49 J J (by omega) (by omega)) (Qu J (C9 J (D3 o9 J (by rw [show (((i:Nat):Int) - 1).toNat=i - 1 by omega];exact hcp) (by simp;done)) ?_)))))))));refine Qu J (Z 1 J (Qu J (Z 1 J (Qu J (C9 J (A9 sl49 J J (by omega) (by omega)) (Qu J (C9 J (D3 o9 J (hH.one (Ag8 W i hil)).2 (by simp;done)) ?_)))))));refine Qu J (C8 J ((Does.geS J J).to (I1 (show _=false from by rcases hR with h|⟨_,h⟩;exfalso;omega;rw [h.less hp8 hx8];rfl))) ?_);refine Qu J (Z 1 J (Qu J (Zc 2 J (E2 J (A7 (Qb (Z 1 J (Ad J J (by omega) (Zc 1 J ⟨i+1,sb J,?_,?_⟩)))))))));exact ⟨hC,hD,hU,hB5,hH,hil,by omega⟩;show W.length - (i+1)<W.length - i;omega
       ·refine Qk J (Qk J (Qk J (Qk J (Qk J (Qk J (Qk J (Qk J (Qk J (Qk J (Qu J (Z 1 J (Qu J (Zc 2 J (E2 J (A7 (Qb (Z 1 J (Ad J J (by omega) (Zc 1 J ⟨i+1,sb J,?_,?_⟩)))))))))))))))))));exact ⟨hC,hD,hU,hB5,hH,hil,by omega⟩;show W.length - (i+1)<W.length - i;omega
      ·try simp at g2
       refine Qk J (Qk J (Qk J (Qk J (Qk J (Qk J (Qk J (Qk J (Qk J (Qk J (Qk J (Qk J (Qk J (F5 J J J J (fun h=>by cases h) ?_)))))))))))));refine F5 J J J J (fun h=>by cases h) ?_;refine F5 J J J J (fun h=>by cases h) ?_;refine F5 J J J J (fun h=>by cases h) ?_;refine F5 J J J J (fun h=>by cases h) ?_;refine F5 J J J J (fun h=>by cases h) ?_;refine F5 J J J J (fun h=>by cases h) ?_;refine F5 J J J J (fun h=>by cases h) ?_;refine F5 J J J J (fun h=>by cases h) ?_;refine F5 J J J J (fun h=>by cases h) ?_;refine F5 J J J J (fun h=>by cases h) ?_;refine F5 J J J J (fun h=>by cases h) ?_;refine F5 J J J J (fun h=>by cases h) ?_;refine F5 J J J J (fun h=>by cases h) ?_;refine F5 J J J J (fun h=>by cases h) ?_;refine F5 J J J J (fun h=>by cases h) ?_;refine F5 J J J J (fun h=>by cases h) ?_;refine F5 J J J J (fun h=>by cases h) ?_;refine F5 J J J J (fun h=>by cases h) ?_;refine F5 J J J J (fun h=>by cases h) ?_;refine F5 J J J J (fun h=>by cases h) ?_;refine F5 J J J J (fun h=>by cases h) ?_;refine F5 J J J J (fun h=>by cases h) ?_;refine F5 J J J J (fun h=>by cases h) ?_;refine Qk J (Zc 1 J (E2 J (A7 (Qb (Z 1 J (Ad J J (by omega) (Zc 1 J ⟨i+1,sb J,?_,?_⟩)))))));exact ⟨hC,hD,hU,hB5,hH,hil,by omega⟩;show W.length - (i+1)<W.length - i;omega
     ·try simp at g1
      exact Xb (Qd (Zc 1 J (A6 (B3 J J ⟨rfl,hC⟩))))
end Go.Clt
